/- laws of journal: JournalTells -/
import Derived.Test.YtfmkodmmbgibgaaGreatDoorJr2
import Derived.Test.YtfmkodmmbgibgaaGreatDoorJw4
import Derived.ChangeKeysEq
import Derived.Laws.StructEq
import Derived.Test.YtfmkodmmbgibgaaGreatDoorMem
import Derived.ProofKit
import Derived.OpenShut
import Derived.ShutString
import Derived.ChangeOld
import Derived.Deep.Slices
import Derived.Deep.Fields
import Derived.ChangeSame
import Derived.JoinedCond
namespace Go.Proofs.YtfmkodmmbgibgaaGreatDoor
open Go.RowKit M
set_option linter.unusedVariables false
structure FilD where
  f : Int
  s : Bytes
def fiV (x : FilD) : List Value := [intV x.f, strV x.s]
def fiC : RowC FilD := ⟨fiV, 2, by decide, fun _ => rfl, fun _ => rfl⟩
section
variable {P : Program} {n : Nat} {ops : Array Oper} {Q : Exit → Act → World → Prop} {rest : List Oper} {L : Env} {w : World} {d : Nat} {ty : TypeId} {pos : String} {aft : Array Edge}
theorem wl_neqNilNil {x y : Operand} {t t2 e : TypeId} (hu : P.underlying t = some (.pointer e)) (hx : M.look L x = some (.pointer none)) (hy : M.look L y = some (.pointer none)) (hd : Nat.blt d n = true) (hk : wl P n ops Q rest ((d, .bool false) :: L) w) : wl P n ops Q (⟨some d, .binOp .neq t x y t2, ty, pos, aft, none⟩ :: rest) L w :=
  wl_val hd (fun ρ hρ => by simp [execOp, hρ _ _ hx, hρ _ _ hy, eqGuard, binOp, run_eqN hu]) hk
end
theorem rdL_nilB (w : World) : RdL jbC (.slice none 0 0) [] w := RdL.nil _ _
set_option maxRecDepth 100000 in
set_option maxHeartbeats 4000000 in
theorem jtells_law {w : World} {F : Th} (hS : Sat w [F]) (hG : Ent F WireG) (hO : Ent F (Glob 0)) {fv : Value} {fs : List FilD} (hFl : Ent F (RdL fiC fv fs)) (base : Int) {lv : Value} {ls : List ChD} (hL : Ent F (ChsRd lv ls)) (at_ lose : Int) (hna : at_ ≤ 9223372036854775807) {kv0 : Value} {ks : List Int} (hK : Ent F (RdI kv0 ks)) :
    Calls Tryz.prog 5 #[fv, intV base, lv, intV at_, intV lose, kv0] w (Ret fun v w' => v = .bool true ∧ Sat w' [F]) := by
 obtain ⟨fa, fc, rfl, hfm⟩ := (hFl.sat hS 0 rfl).shape
 obtain ⟨ao, cap, rfl, hmax⟩ := (hL.sat hS 0 rfl).shape
 obtain ⟨aok, capk, hkv, hkm⟩ := (hK.sat hS 0 rfl).toL.shape
 subst hkv
 have hKL : Ent F (RdL inC (.slice aok ks.length capk) ks) := fun q => (hK q).toL
 refine calls_enter Tryz.func5 rfl Tryz.ntmps5 rfl ?_
 refine wc_seq (wc_region (wl_assign rfl rfl (wl_nil (qs_seq (wc_seq (wc_region ?_))))))
 have hC1 := hS.split [] [false] rfl; dsimp only [selF, pickA, nthA, List.cons_append, List.nil_append] at hC1
 refine wl_call cal_6 rfl (jsmall_sp hC1 (hG.starL 0 rfl) (hO.starL 0 rfl)) rfl ?_
 rintro e w1 ⟨_, rfl, rfl, hS1⟩; refine ⟨_, rfl, ?_⟩
 replace hS1 := hS1.join rfl; dsimp only [List.dropLast, List.cons_append, List.nil_append] at hS1; clear hC1
 refine wl_assign rfl rfl (wl_nil (qs_seq (wc_seq (wc_seq (wc_region (wl_move rfl rfl (wl_move rfl rfl ?_)))))))
 have hC2 := hS1.split [] [false] rfl; dsimp only [selF, pickA, nthA, List.cons_append, List.nil_append] at hC2
 refine wl_call cal_7 rfl (jfew_sp hC2 (hL.starL 0 rfl) (hKL.starL 0 rfl)) rfl ?_
 rintro e w2 ⟨_, rfl, bf, rfl, hfw, hS2⟩; refine ⟨_, rfl, ?_⟩
 replace hS2 := hS2.join rfl; dsimp only [List.dropLast, List.cons_append, List.nil_append] at hS2; clear hC2
 clear hS1
 refine wl_not rfl rfl ?_
 refine wl_move rfl rfl ?_
 refine wl_split 32 rfl (fun h3 => ?_) (fun h3 => ?_)
 ·refine wl_unwanted rfl rfl h3 rfl ?_
  refine wl_unwanted rfl rfl h3 rfl ?_
  refine wl_unwanted rfl rfl h3 rfl ?_
  refine wl_pickT rfl h3 rfl rfl ?_
  refine wl_nil (qs_seq ?_)
  refine wc_sub (L' := [(36, _), (13, _), (12, _), (0, _), (1, _), (2, _), (3, _), (4, _), (5, _)]) (.cons rfl (.cons rfl (.cons rfl (.cons rfl (.cons rfl (.cons rfl (.cons rfl (.cons rfl (.cons rfl .nil))))))))) ?_
  refine wc_condT rfl ?_
  refine wc_seq (wc_region (wl_move rfl rfl (wl_assign rfl rfl (wl_nil (qs_seq (wc_ret (qs_then_ret ?_)))))))
  refine fin1 (.inr rfl) rfl rfl ?_
  exact ⟨_, rfl, rfl, hS2.pick [0] rfl⟩
 have hfw2 := hfw (by simpa using h3)
 refine wl_guard rfl rfl h3 ?_
 refine wl_move rfl rfl ?_
 refine wl_guard rfl rfl h3 ?_
 refine wl_lenL Tryz.underlying45 rfl rfl ?_
 refine wl_guard rfl rfl h3 ?_
 refine wl_gtr rfl rfl rfl ?_
 refine wl_pickF rfl h3 rfl rfl ?_
 refine wl_nil (qs_seq ?_)
 refine wc_sub (L' := [(36, _), (13, _), (12, _), (0, _), (1, _), (2, _), (3, _), (4, _), (5, _)]) (.cons rfl (.cons rfl (.cons rfl (.cons rfl (.cons rfl (.cons rfl (.cons rfl (.cons rfl (.cons rfl .nil))))))))) ?_
 refine wc_condD rfl (fun h4 => ?_) (fun h4 => ?_)
 ·refine wc_seq (wc_region (wl_move rfl rfl (wl_assign rfl rfl (wl_nil (qs_seq (wc_ret (qs_then_ret ?_)))))))
  refine fin1 (.inr rfl) rfl rfl ?_
  exact ⟨_, rfl, rfl, hS2.pick [0] rfl⟩
 refine wc_skip (qs_seq (wc_seq (wc_region ?_)))
 have hC5 := hS2.split [] [false] rfl; dsimp only [selF, pickA, nthA, List.cons_append, List.nil_append] at hC5
 refine wl_call cal_8 rfl (new_sp hC5) rfl ?_
 rintro e w5 ⟨_, rfl, dp, rfl, hS5⟩; refine ⟨_, rfl, ?_⟩
 replace hS5 := hS5.join rfl; dsimp only [List.dropLast, List.cons_append, List.nil_append] at hS5; clear hC5
 clear hS2
 replace hS5 := dT_new hS5
 refine wl_assign rfl rfl (wl_nil (qs_seq (wc_seq (wc_region ?_))))
 have hC6 := hS5.split [] [false, false] rfl; dsimp only [selF, pickA, nthA, List.cons_append, List.nil_append] at hC6
 refine wl_call cal_19 rfl (newR_sp hC6) rfl ?_
 rintro e w6 ⟨_, rfl, rp, rfl, hS6⟩; refine ⟨_, rfl, ?_⟩
 replace hS6 := hS6.join rfl; dsimp only [List.dropLast, List.cons_append, List.nil_append] at hS6; clear hC6
 clear hS5
 have hCn := hS6.split [0] [true, false, false] rfl; dsimp only [selF, pickA, nthA, List.cons_append, List.nil_append] at hCn
 have hSr := (rT_new hCn).join rfl; dsimp only [List.dropLast, List.cons_append, List.nil_append] at hSr
 refine wl_assign rfl rfl (wl_nil (qs_seq ?_))
 refine wc_sub (L' := [(15, _), (14, _), (13, _), (12, _), (0, _), (1, _), (2, _), (3, _), (4, _), (5, _)]) (.cons rfl (.cons rfl (.cons rfl (.cons rfl (.cons rfl (.cons rfl (.cons rfl (.cons rfl (.cons rfl (.cons rfl .nil)))))))))) ?_
 refine wc_seq (wc_seq (wc_region (wl_move rfl rfl ?_)))
 refine wl_eqlNil Tryz.underlying25 rfl rfl rfl ?_
 refine wl_nil (qs_seq ?_)
 refine wc_condF rfl ?_
 refine wc_skip (qs_seq (wc_seq (wc_seq (wc_region (wl_assign rfl rfl (wl_nil (qs_seq (wc_block ?_))))))))
 refine wc_loop (fun K0 E0 W0 => ∃ (i : Nat) (D : DS), K0 = fs.length - i ∧ E0 = [(0, .slice fa fs.length fc), (1, intV base), (2, .slice ao ls.length cap), (3, intV at_), (4, intV lose), (5, .slice aok ks.length capk), (13, .bool true), (14, ptrV dp 0), (15, ptrV rp 0), (16, intV (i : Int))] ∧ Sat W0 [dT dp D, rT rp D, F] ∧ (i ≤ fs.length)) (L0 := [(0, _), (1, _), (2, _), (3, _), (4, _), (5, _), (13, _), (14, _), (15, _), (16, _)]) (fs.length - 0) (.cons rfl (.cons rfl (.cons rfl (.cons rfl (.cons rfl (.cons rfl (.cons rfl (.cons rfl (.cons rfl (.cons rfl .nil)))))))))) ⟨0, newD, rfl, rfl, hSr.pick [1, 0, 2] rfl, by omega⟩ ?_
 rintro _ _ w7 ⟨i, D, rfl, rfl, hS7, hi⟩
 refine wc_seq (wc_seq (wc_region (wl_move rfl rfl (wl_move rfl rfl ?_))))
 refine wl_lenL Tryz.underlying45 rfl rfl ?_
 refine wl_lss rfl rfl rfl ?_
 refine wl_nil (qs_seq ?_)
 refine wc_sub (L' := [(45, _), (0, _), (1, _), (2, _), (3, _), (4, _), (5, _), (13, _), (14, _), (15, _), (16, _)]) (.cons rfl (.cons rfl (.cons rfl (.cons rfl (.cons rfl (.cons rfl (.cons rfl (.cons rfl (.cons rfl (.cons rfl (.cons rfl .nil))))))))))) ?_
 refine wc_condD rfl (fun h8 => ?_) (fun h8 => ?_)
 ·obtain ⟨x, hx⟩ : ∃ x, fs[i]? = some x := ⟨_, List.getElem?_eq_getElem (by omega)⟩
  obtain ⟨fb, fo, rfl, _⟩ := (hFl.sat hS7 2 rfl).get hx
  refine wc_skip (qs_seq (wc_seq (wc_block (wc_seq (wc_seq (wc_region (wl_move rfl rfl (wl_move rfl rfl ?_))))))))
  refine wl_indexAddr i rfl rfl (by first | rfl | omega) (by exact (List.getElem?_eq_some_iff.1 hx).1) es_45 rfl ?_
  refine wl_fieldAddr rfl fo_49_1 rfl ?_
  refine wl_load rfl ag_9 (((hFl.sat hS7 2 rfl).at_ hx) 1 _ rfl) rfl ?_
  refine wl_lenS Tryz.underlying9 rfl rfl ?_
  refine wl_gtr rfl rfl rfl ?_
  refine wl_nil (qs_seq ?_)
  refine wc_sub (L' := [(54, _), (0, _), (1, _), (2, _), (3, _), (4, _), (5, _), (13, _), (14, _), (15, _), (16, _)]) (.cons rfl (.cons rfl (.cons rfl (.cons rfl (.cons rfl (.cons rfl (.cons rfl (.cons rfl (.cons rfl (.cons rfl (.cons rfl .nil))))))))))) ?_
  refine wc_condD rfl (fun h9 => ?_) (fun h9 => ?_)
  ·refine wc_seq (wc_region (wl_move rfl rfl (wl_assign rfl rfl (wl_nil (qs_seq (wc_ret (qs_then_ret (qs_block_ret (qs_then_ret (qs_then_ret (qs_block_ret (qs_then_ret ?_))))))))))))
   refine fin1 (.inr rfl) rfl rfl ?_
   exact ⟨_, rfl, rfl, hS7.pick [2] rfl⟩
  refine wc_skip (qs_seq (wc_seq ?_))
  have hS10 := hS7.drew
  refine wc_draw [0, 1, 2, 3, 4, 5, 6, 7, 8, 9, 10, 11] [11] mix (by kernel_rfl) ?_
  refine vc_p rfl rfl rfl (fun _ => (ev_move rfl)) ?_
  refine vc_p rfl rfl rfl (fun _ => (ev_move rfl)) ?_
  refine vc_p rfl rfl rfl (fun _ => (ev_move rfl)) ?_
  refine vc_p rfl rfl rfl (fun _ => (ev_indexAddr i rfl rfl (by first | rfl | omega) (by exact (List.getElem?_eq_some_iff.1 hx).1) es_45)) ?_
  refine vc_p rfl rfl rfl (fun _ => (ev_fieldAddr rfl fo_49_0)) ?_
  refine vc_q rfl rfl rfl (ev_load rfl ag_3 (((hFl.sat hS10 2 rfl).at_ hx) 0 _ rfl)) ?_
  refine vc_p rfl rfl rfl (fun _ => (ev_move rfl)) ?_
  refine vc_p rfl rfl rfl (fun _ => (ev_move rfl)) ?_
  refine vc_p rfl rfl rfl (fun _ => (ev_indexAddr i rfl rfl (by first | rfl | omega) (by exact (List.getElem?_eq_some_iff.1 hx).1) es_45)) ?_
  refine vc_p rfl rfl rfl (fun _ => (ev_fieldAddr rfl fo_49_1)) ?_
  refine vc_q rfl rfl rfl (ev_load rfl ag_9 (((hFl.sat hS10 2 rfl).at_ hx) 1 _ rfl)) ?_
  refine vc_s rfl rfl rfl rfl rfl rfl ?_
  have hC11 := hS10.split [0] [true, false, false] rfl; dsimp only [selF, pickA, nthA, List.cons_append, List.nil_append] at hC11
  refine wl_call cal_20 rfl (writeT hC11 x.f 0 x.s) rfl ?_
  rintro e w11 ⟨_, rfl, rfl, hS11⟩; refine ⟨_, rfl, ?_⟩
  replace hS11 := hS11.join rfl; dsimp only [List.dropLast, List.cons_append, List.nil_append] at hS11; clear hC11
  clear hS10
  refine vc_e (.skip (by kernel_rfl) (.skip (by kernel_rfl) .nil)) ?_
  refine VC.nil (qs_seq ?_)
  refine wc_sub (L' := [(0, _), (1, _), (2, _), (3, _), (4, _), (5, _), (13, _), (14, _), (15, _), (16, _)]) (.cons rfl (.cons rfl (.cons rfl (.cons rfl (.cons rfl (.cons rfl (.cons rfl (.cons rfl (.cons rfl (.cons rfl .nil)))))))))) ?_
  refine wc_seq ?_
  have hS12 := hS11.drew
  refine wc_draw [0, 1, 2, 3, 4, 5, 6, 7, 8, 9, 10, 11] [11] mix (by kernel_rfl) ?_
  refine vc_p rfl rfl rfl (fun _ => (ev_move rfl)) ?_
  refine vc_p rfl rfl rfl (fun _ => (ev_move rfl)) ?_
  refine vc_p rfl rfl rfl (fun _ => (ev_move rfl)) ?_
  refine vc_p rfl rfl rfl (fun _ => (ev_indexAddr i rfl rfl (by first | rfl | omega) (by exact (List.getElem?_eq_some_iff.1 hx).1) es_45)) ?_
  refine vc_p rfl rfl rfl (fun _ => (ev_fieldAddr rfl fo_49_0)) ?_
  refine vc_q rfl rfl rfl (ev_load rfl ag_3 (((hFl.sat hS12 2 rfl).at_ hx) 0 _ rfl)) ?_
  refine vc_p rfl rfl rfl (fun _ => (ev_move rfl)) ?_
  refine vc_p rfl rfl rfl (fun _ => (ev_move rfl)) ?_
  refine vc_p rfl rfl rfl (fun _ => (ev_indexAddr i rfl rfl (by first | rfl | omega) (by exact (List.getElem?_eq_some_iff.1 hx).1) es_45)) ?_
  refine vc_p rfl rfl rfl (fun _ => (ev_fieldAddr rfl fo_49_1)) ?_
  refine vc_q rfl rfl rfl (ev_load rfl ag_9 (((hFl.sat hS12 2 rfl).at_ hx) 1 _ rfl)) ?_
  refine vc_s rfl rfl rfl rfl rfl rfl ?_
  have hC13 := hS12.split [1] [false, true, false] rfl; dsimp only [selF, pickA, nthA, List.cons_append, List.nil_append] at hC13
  refine wl_call cal_21 rfl (writeRT hC13 x.f 0 x.s (by omega)) rfl ?_
  rintro e w13 ⟨_, rfl, rfl, hS13⟩; refine ⟨_, rfl, ?_⟩
  replace hS13 := hS13.join rfl; dsimp only [List.dropLast, List.cons_append, List.nil_append] at hS13; clear hC13
  clear hS12
  refine vc_e (.skip (by kernel_rfl) (.skip (by kernel_rfl) .nil)) ?_
  refine VC.nil (qs_seq ?_)
  refine wc_sub (L' := [(0, _), (1, _), (2, _), (3, _), (4, _), (5, _), (13, _), (14, _), (15, _), (16, _)]) (.cons rfl (.cons rfl (.cons rfl (.cons rfl (.cons rfl (.cons rfl (.cons rfl (.cons rfl (.cons rfl (.cons rfl .nil)))))))))) ?_
  refine wc_seq (wc_region (wl_move rfl rfl (wl_move rfl rfl (wl_move rfl rfl ?_))))
  refine wl_indexAddr i rfl rfl (by first | rfl | omega) (by exact (List.getElem?_eq_some_iff.1 hx).1) es_45 rfl ?_
  refine wl_fieldAddr rfl fo_49_0 rfl ?_
  refine wl_load rfl ag_3 (((hFl.sat hS13 2 rfl).at_ hx) 0 _ rfl) rfl ?_
  have hC14 := hS13.split [1] [false, true, false] rfl; dsimp only [selF, pickA, nthA, List.cons_append, List.nil_append] at hC14
  refine wl_call cal_22 rfl (syncT hC14 x.f) rfl ?_
  rintro e w14 ⟨_, rfl, rfl, hS14⟩; refine ⟨_, rfl, ?_⟩
  replace hS14 := hS14.join rfl; dsimp only [List.dropLast, List.cons_append, List.nil_append] at hS14; clear hC14
  clear hS13
  refine wl_nil (qs_seq ?_)
  refine wc_sub (L' := [(0, _), (1, _), (2, _), (3, _), (4, _), (5, _), (13, _), (14, _), (15, _), (16, _)]) (.cons rfl (.cons rfl (.cons rfl (.cons rfl (.cons rfl (.cons rfl (.cons rfl (.cons rfl (.cons rfl (.cons rfl .nil)))))))))) ?_
  refine wc_region (wl_move rfl rfl (wl_move rfl rfl (wl_move rfl rfl ?_)))
  refine wl_indexAddr i rfl rfl (by first | rfl | omega) (by exact (List.getElem?_eq_some_iff.1 hx).1) es_45 rfl ?_
  refine wl_fieldAddr rfl fo_49_0 rfl ?_
  refine wl_load rfl ag_3 (((hFl.sat hS14 2 rfl).at_ hx) 0 _ rfl) rfl ?_
  have hC15 := hS14.split [1] [false, true, false] rfl; dsimp only [selF, pickA, nthA, List.cons_append, List.nil_append] at hC15
  refine wl_call cal_23 rfl (syncRT hC15 x.f) rfl ?_
  rintro e w15 ⟨_, rfl, rfl, hS15⟩; refine ⟨_, rfl, ?_⟩
  replace hS15 := hS15.join rfl; dsimp only [List.dropLast, List.cons_append, List.nil_append] at hS15; clear hC15
  clear hS14
  refine wl_nil (qs_block_normal (qs_seq ?_))
  refine wc_sub (L' := [(0, _), (1, _), (2, _), (3, _), (4, _), (5, _), (13, _), (14, _), (15, _), (16, _)]) (.cons rfl (.cons rfl (.cons rfl (.cons rfl (.cons rfl (.cons rfl (.cons rfl (.cons rfl (.cons rfl (.cons rfl .nil)))))))))) ?_
  refine wc_region (wl_move rfl rfl ?_)
  refine wl_add rfl rfl (by first | omega | (simp; omega)) (by first | omega | (simp; omega)) rfl ?_
  refine wl_assign rfl rfl (wl_nil ?_)
  exact qs_round (L1 := [(0, _), (1, _), (2, _), (3, _), (4, _), (5, _), (13, _), (14, _), (15, _), (16, intV ((i + 1 : Nat) : Int))]) (.cons rfl (.cons rfl (.cons rfl (.cons rfl (.cons rfl (.cons rfl (.cons rfl (.cons rfl (.cons rfl (.cons rfl .nil)))))))))) (k1 := fs.length - (i + 1)) (by omega) ⟨i + 1, _, rfl, rfl, hS15.pick [1, 0, 2] rfl, by omega⟩
 refine wc_exit (qs_then_exit (qs_then_exit (qs_block_exit (qs_seq ?_))))
 refine wc_sub (L' := [(1, _), (2, _), (3, _), (4, _), (5, _), (13, _), (14, _), (15, _)]) (.cons rfl (.cons rfl (.cons rfl (.cons rfl (.cons rfl (.cons rfl (.cons rfl (.cons rfl .nil)))))))) ?_
 refine wc_seq (wc_region (wl_move rfl rfl (wl_move rfl rfl (wl_move rfl rfl ?_))))
 have hC16 := hS7.split [0] [true, false, false] rfl; dsimp only [selF, pickA, nthA, List.cons_append, List.nil_append] at hC16
 refine wl_call cal_14 rfl (armT hC16 at_ hna (hK.starL 1 rfl) (by have := hfw2.2.2; omega)) rfl ?_
 rintro e w16 ⟨_, rfl, rfl, hS16⟩; refine ⟨_, rfl, ?_⟩
 replace hS16 := hS16.join rfl; dsimp only [List.dropLast, List.cons_append, List.nil_append] at hS16; clear hC16
 clear hS7
 refine wl_nil (qs_seq ?_)
 refine wc_sub (L' := [(1, _), (2, _), (3, _), (4, _), (5, _), (13, _), (14, _), (15, _)]) (.cons rfl (.cons rfl (.cons rfl (.cons rfl (.cons rfl (.cons rfl (.cons rfl (.cons rfl .nil)))))))) ?_
 refine wc_seq (wc_region (wl_move rfl rfl (wl_move rfl rfl (wl_move rfl rfl ?_))))
 have hC17 := hS16.split [1] [false, true, false] rfl; dsimp only [selF, pickA, nthA, List.cons_append, List.nil_append] at hC17
 refine wl_call cal_24 rfl (armRT hC17 at_ hna (hKL.starL 1 rfl) (by have := hfw2.2.2; omega)) rfl ?_
 rintro e w17 ⟨_, rfl, rfl, hS17⟩; refine ⟨_, rfl, ?_⟩
 replace hS17 := hS17.join rfl; dsimp only [List.dropLast, List.cons_append, List.nil_append] at hS17; clear hC17
 clear hS16
 refine wl_nil (qs_seq ?_)
 refine wc_sub (L' := [(1, _), (2, _), (4, _), (13, _), (14, _), (15, _)]) (.cons rfl (.cons rfl (.cons rfl (.cons rfl (.cons rfl (.cons rfl .nil)))))) ?_
 refine wc_seq (wc_seq (wc_region (wl_assign rfl rfl (wl_nil (qs_seq (wc_block ?_))))))
 refine wc_loop (fun K0 E0 W0 => ∃ (i : Nat) (D : DS), K0 = ls.length + 1 - i ∧ E0 = [(1, intV base), (2, .slice ao ls.length cap), (4, intV lose), (13, .bool true), (14, ptrV dp 0), (15, ptrV rp 0), (17, intV (i : Int))] ∧ Sat W0 [dT dp D, rT rp D, F] ∧ (i ≤ ls.length + 1)) (L0 := [(1, _), (2, _), (4, _), (13, _), (14, _), (15, _), (17, _)]) (ls.length + 1 - 0) (.cons rfl (.cons rfl (.cons rfl (.cons rfl (.cons rfl (.cons rfl (.cons rfl .nil))))))) ⟨0, _, rfl, rfl, hS17.pick [1, 0, 2] rfl, by omega⟩ ?_
 rintro _ _ w18 ⟨i, D, rfl, rfl, hS18, hi⟩
 have hl12 := hfw2.2.1
 refine wc_seq (wc_seq (wc_region (wl_move rfl rfl (wl_move rfl rfl ?_))))
 refine wl_lenL Tryz.underlying22 rfl rfl ?_
 refine wl_leq rfl rfl rfl ?_
 refine wl_nil (qs_seq ?_)
 refine wc_sub (L' := [(105, _), (1, _), (2, _), (4, _), (13, _), (14, _), (15, _), (17, _)]) (.cons rfl (.cons rfl (.cons rfl (.cons rfl (.cons rfl (.cons rfl (.cons rfl (.cons rfl .nil)))))))) ?_
 refine wc_condD rfl (fun h19 => ?_) (fun h19 => ?_)
 ·refine wc_skip (qs_seq (wc_seq (wc_block (wc_seq (wc_region (wl_move rfl rfl (wl_move rfl rfl ?_)))))))
  have hC20 := hS18.split [0] [true, false, false] rfl; dsimp only [selF, pickA, nthA, List.cons_append, List.nil_append] at hC20
  refine wl_call cal_9 rfl (jopen_sp hC20 (hG.starL 1 rfl) (hO.starL 1 rfl) base) rfl ?_
  rintro e w20 ⟨_, rfl, (⟨hE0, jp, rfl, hS20⟩ | ⟨hE0, rfl, hS20⟩)⟩
  ·refine ⟨_, rfl, ?_⟩
   replace hS20 := hS20.join rfl; dsimp only [List.dropLast, List.cons_append, List.nil_append] at hS20; clear hC20
   clear hS18
   refine wl_move rfl rfl (wl_extract rfl rfl rfl (wl_extract rfl rfl rfl (wl_assign rfl rfl (wl_assign rfl rfl (wl_nil (qs_seq ?_))))))
   refine wc_sub (L' := [(19, _), (18, _), (1, _), (2, _), (4, _), (13, _), (14, _), (15, _), (17, _)]) (.cons rfl (.cons rfl (.cons rfl (.cons rfl (.cons rfl (.cons rfl (.cons rfl (.cons rfl (.cons rfl .nil))))))))) ?_
   refine wc_seq (wc_region (wl_move rfl rfl (wl_move rfl rfl ?_)))
   have hC21 := hS20.split [2] [false, false, true, false] rfl; dsimp only [selF, pickA, nthA, List.cons_append, List.nil_append] at hC21
   refine wl_call cal_25 rfl (r5open_sp hC21 base) rfl ?_
   rintro e w21 ⟨_, rfl, (⟨hF0, kp, cpk, kv, rfl, hJK, hS21⟩ | ⟨hF0, _⟩)⟩
   ·refine ⟨_, rfl, ?_⟩
    replace hS21 := hS21.join rfl; dsimp only [List.dropLast, List.cons_append, List.nil_append] at hS21; clear hC21
    clear hS20
    refine wl_move rfl rfl (wl_extract rfl rfl rfl (wl_extract rfl rfl rfl (wl_assign rfl rfl (wl_assign rfl rfl (wl_nil (qs_seq ?_))))))
    refine wc_sub (L' := [(21, _), (20, _), (19, _), (18, _), (1, _), (2, _), (4, _), (13, _), (14, _), (15, _), (17, _)]) (.cons rfl (.cons rfl (.cons rfl (.cons rfl (.cons rfl (.cons rfl (.cons rfl (.cons rfl (.cons rfl (.cons rfl (.cons rfl .nil))))))))))) ?_
    refine wc_seq (wc_seq (wc_region (wl_move rfl rfl (wl_move rfl rfl ?_))))
    refine wl_neq rfl rfl rfl ?_
    refine wl_move rfl rfl ?_
    refine wl_splitD 123 rfl (fun h22 => ?_) (fun h22 => ?_)
    ·exact absurd rfl h22
    refine wl_guard rfl rfl (decide_eq_false h22) ?_
    refine wl_move rfl rfl ?_
    refine wl_guard rfl rfl (decide_eq_false h22) ?_
    refine wl_neqNil Tryz.underlying27 rfl rfl rfl ?_
    refine wl_guard rfl rfl (decide_eq_false h22) ?_
    refine wl_move rfl rfl ?_
    refine wl_guard rfl rfl (decide_eq_false h22) ?_
    refine wl_neqNil Tryz.underlying52 rfl rfl rfl ?_
    refine wl_guard rfl rfl (decide_eq_false h22) ?_
    refine wl_neqB Tryz.underlying4 rfl rfl rfl ?_
    refine wl_pickF rfl (decide_eq_false h22) rfl rfl ?_
    refine wl_nil (qs_seq ?_)
    refine wc_sub (L' := [(129, _), (20, _), (18, _), (1, _), (2, _), (4, _), (13, _), (14, _), (15, _), (17, _)]) (.cons rfl (.cons rfl (.cons rfl (.cons rfl (.cons rfl (.cons rfl (.cons rfl (.cons rfl (.cons rfl (.cons rfl .nil)))))))))) ?_
    refine wc_cond rfl (fun h23 => ?_) (fun h23 => ?_)
    ·simp at h23
    refine wc_skip (qs_seq ?_)
    refine wc_mid (fun E0 W0 => ∃ (D2 : DS), E0 = [(1, intV base), (2, .slice ao ls.length cap), (4, intV lose), (13, .bool true), (14, ptrV dp 0), (15, ptrV rp 0), (17, intV (i : Int))] ∧ Sat W0 [dT dp D2, rT rp D2, F]) ?_ ?_
    ·refine wc_seq (wc_region (wl_move rfl rfl ?_))
     refine wl_neqNil Tryz.underlying27 rfl rfl rfl ?_
     refine wl_move rfl rfl ?_
     refine wl_guard rfl rfl rfl ?_
     refine wl_move rfl rfl ?_
     refine wl_guard rfl rfl rfl ?_
     refine wl_neqNil Tryz.underlying52 rfl rfl rfl ?_
     refine wl_pickT rfl rfl rfl rfl ?_
     refine wl_move rfl rfl ?_
     refine wl_guard rfl rfl rfl ?_
     refine wl_move rfl rfl ?_
     refine wl_guard rfl rfl rfl ?_
     refine wl_move rfl rfl ?_
     refine wl_guard rfl rfl rfl ?_
     first | refine wl_lenL Tryz.underlying22 rfl rfl ?_ | refine wl_lenO 2 hS21 Tryz.underlying22 rfl rfl rfl ?_
     refine wl_guard rfl rfl rfl ?_
     refine wl_lss rfl rfl rfl ?_
     refine wl_pickT rfl rfl rfl rfl ?_
     refine wl_nil (qs_seq ?_)
     refine wc_sub (L' := [(141, _), (20, _), (18, _), (1, _), (2, _), (4, _), (13, _), (14, _), (15, _), (17, _)]) (.cons rfl (.cons rfl (.cons rfl (.cons rfl (.cons rfl (.cons rfl (.cons rfl (.cons rfl (.cons rfl (.cons rfl .nil)))))))))) ?_
     refine wc_condD rfl (fun h25 => ?_) (fun h25 => ?_)
     ·refine wc_mid (fun E0 W0 => ∃ (D2 : DS), E0 = [(1, intV base), (2, .slice ao ls.length cap), (4, intV lose), (13, .bool true), (14, ptrV dp 0), (15, ptrV rp 0), (17, intV (i : Int)), (18, ptrV jp 0), (20, ptrV kp 0)] ∧ Sat W0 [jT jp dp (openJ D base).J, blkT kp (rrV rp (openJ D base).J.base cpk kv (openJ D base).J.bad), blkT cpk (cellV rp (openJ D base).J.C), rowT jbC kv (listB (openJ D base).J.B), dT dp D2, rT rp D2, F]) ?_ ?_
      ·refine wc_seq (wc_region (wl_move rfl rfl (wl_move rfl rfl ?_)))
       refine wl_eql rfl rfl rfl ?_
       refine wl_nil (qs_seq ?_)
       refine wc_sub (L' := [(144, _), (20, _), (18, _), (1, _), (2, _), (4, _), (13, _), (14, _), (15, _), (17, _)]) (.cons rfl (.cons rfl (.cons rfl (.cons rfl (.cons rfl (.cons rfl (.cons rfl (.cons rfl (.cons rfl (.cons rfl .nil)))))))))) ?_
       refine wc_condD rfl (fun h27 => ?_) (fun h27 => ?_)
       ·refine wc_seq (wc_region (wl_move rfl rfl ?_))
        have hC28 := hS21.split [5] [false, false, false, false, false, true, false] rfl; dsimp only [selF, pickA, nthA, List.cons_append, List.nil_append] at hC28
        refine wl_call cal_26 rfl (loseT hC28 1 (by omega)) rfl ?_
        rintro e w28 ⟨_, rfl, rfl, hS28⟩; refine ⟨_, rfl, ?_⟩
        replace hS28 := hS28.join rfl; dsimp only [List.dropLast, List.cons_append, List.nil_append] at hS28; clear hC28
        clear hS21
        refine wl_nil (qs_seq ?_)
        refine wc_sub (L' := [(20, _), (18, _), (1, _), (2, _), (4, _), (13, _), (14, _), (15, _), (17, _)]) (.cons rfl (.cons rfl (.cons rfl (.cons rfl (.cons rfl (.cons rfl (.cons rfl (.cons rfl (.cons rfl .nil))))))))) ?_
        refine wc_region (wl_move rfl rfl ?_)
        have hC29 := hS28.split [4] [false, false, false, false, true, false, false] rfl; dsimp only [selF, pickA, nthA, List.cons_append, List.nil_append] at hC29
        refine wl_call cal_27 rfl (loseRT hC29 1 (by omega)) rfl ?_
        rintro e w29 ⟨_, rfl, rfl, hS29⟩; refine ⟨_, rfl, ?_⟩
        replace hS29 := hS29.join rfl; dsimp only [List.dropLast, List.cons_append, List.nil_append] at hS29; clear hC29
        clear hS28
        refine wl_nil ?_
        exact qs_mid (.cons rfl (.cons rfl (.cons rfl (.cons rfl (.cons rfl (.cons rfl (.cons rfl (.cons rfl (.cons rfl .nil))))))))) ⟨_, rfl, hS29.pick [5, 2, 3, 4, 1, 0, 6] rfl⟩
       refine wc_skip ?_
       exact qs_mid (.cons rfl (.cons rfl (.cons rfl (.cons rfl (.cons rfl (.cons rfl (.cons rfl (.cons rfl (.cons rfl .nil))))))))) ⟨_, rfl, hS21.pick [4, 0, 1, 2, 5, 3, 6] rfl⟩
      rintro _ w26 ⟨D2, rfl, hS26⟩
      refine wc_seq ?_
      obtain ⟨⟨cv, cl⟩, hcx⟩ : ∃ c, ls[i]? = some c := ⟨_, List.getElem?_eq_getElem (by omega)⟩
      obtain ⟨⟨b, off, rfl, _⟩, hrd⟩ := (hL.sat hS26 6 rfl).get hcx
      have hE5 : Ent F (RdL jbC cv cl) := RdX.elem hL hcx
      dsimp only at hrd
      obtain ⟨ao2, cap2, rfl, hm2⟩ := hrd.shape
      clear hrd
      have hcl8 : cl.length ≤ 8 := hfw2.1 _ (List.mem_of_getElem? hcx)
      have hbl1 := listB_len (openJ D base).J.B
      have hS30 := hS26.drew
      refine wc_draw [0, 2, 3, 4, 5, 1, 6, 7, 8, 9, 10, 11, 12, 13, 15, 16, 17, 18, 19, 14, 20, 21, 22, 23, 24, 26, 27, 28, 29, 25, 30, 31, 32, 33, 34, 36, 35, 37, 38, 39] [1, 6, 14, 20, 25, 30, 35, 37] mix (by kernel_rfl) ?_
      refine vc_p rfl rfl rfl (fun _ => (ev_move rfl)) ?_
      refine vc_p rfl rfl rfl (fun _ => (ev_move rfl)) ?_
      refine vc_p rfl rfl rfl (fun _ => (ev_nilCheck rfl)) ?_
      refine vc_p rfl rfl rfl (fun _ => (ev_fieldAddr rfl fo_58_3)) ?_
      refine vc_q rfl rfl rfl (ev_load rfl ag_32 (by first | assumption | exact hS30.cell 1 rfl rfl | exact hS30.cell 2 rfl rfl)) ?_
      refine vc_s rfl rfl rfl rfl rfl rfl ?_
      have hC31 := hS30.split [0] [true, false, false, false, false, false, false] rfl; dsimp only [selF, pickA, nthA, List.cons_append, List.nil_append] at hC31
      refine wl_call cal_13 rfl (jblocks hC31) rfl ?_
      rintro e w31 ⟨_, rfl, hS31⟩; refine ⟨_, rfl, ?_⟩
      replace hS31 := hS31.join rfl; dsimp only [List.dropLast, List.cons_append, List.nil_append] at hS31; clear hC31
      clear hS30
      have h1bl31 := hS31.own_one 0 rfl
      refine vc_e (.cons (.inl ⟨rfl, (ev_load rfl ag_32 (by first | assumption | exact hS31.cell 2 rfl rfl | exact hS31.cell 3 rfl rfl))⟩) .nil) ?_
      refine vc_s rfl rfl rfl rfl rfl rfl ?_
      have hC32 := hS31.split [] [false, false, false, false, false, false, false, false] rfl; dsimp only [selF, pickA, nthA, List.cons_append, List.nil_append] at hC32
      refine wl_call cal_12 rfl (bsame_sp hC32 (Ent.starL (ent_row (C := jbC) (l := listB (openJ D base).J.B) (by omega)) 0 rfl) (Ent.starL (ent_row (C := jbC) (l := listB (openJ D base).J.B) (by omega)) 4 rfl)) rfl ?_
      rintro e w32 ⟨_, rfl, rfl, hS32⟩; refine ⟨_, rfl, ?_⟩
      replace hS32 := hS32.join rfl; dsimp only [List.dropLast, List.cons_append, List.nil_append] at hS32; clear hC32
      clear hS31
      refine vc_e (.skip (by kernel_rfl) .nil) ?_
      refine vc_p rfl rfl rfl (fun _ => (ev_not rfl)) ?_
      refine vc_p rfl rfl rfl (fun _ => (ev_move rfl)) ?_
      refine vc_split 157 rfl (fun h33 => ?_) (fun h33 => ?_)
      ·simp at h33
      refine vc_p rfl rfl (guard_yes rfl rfl h33) (fun _ => (Ev.gd (ev_move rfl))) ?_
      refine vc_p rfl rfl (guard_yes rfl rfl h33) (fun _ => (Ev.gd (ev_move rfl))) ?_
      refine vc_p rfl rfl (guard_yes rfl rfl h33) (fun _ => (Ev.gd (ev_move rfl))) ?_
      refine vc_p rfl rfl (guard_yes rfl rfl h33) (fun _ => (Ev.gd (ev_indexAddr i rfl rfl (by first | rfl | omega) (by exact (List.getElem?_eq_some_iff.1 hcx).1) es_22))) ?_
      refine vc_q rfl rfl (guard_yes rfl rfl h33) (Ev.gd (ev_load rfl ag_32 (RdX.cells (hL.sat hS32 7 rfl) hcx 0 _ rfl))) ?_
      refine vc_p rfl rfl (guard_yes rfl rfl h33) (fun _ => (Ev.gd (ev_move rfl))) ?_
      refine vc_p rfl rfl (guard_yes rfl rfl h33) (fun _ => (Ev.gd (ev_move rfl))) ?_
      refine vc_p rfl rfl (guard_yes rfl rfl h33) (fun _ => (Ev.gd (ev_move rfl))) ?_
      refine vc_p rfl rfl (guard_yes rfl rfl h33) (fun _ => (Ev.gd (ev_indexAddr i rfl rfl (by first | rfl | omega) (by exact (List.getElem?_eq_some_iff.1 hcx).1) es_22))) ?_
      refine vc_q rfl rfl (guard_yes rfl rfl h33) (Ev.gd (ev_load rfl ag_32 (RdX.cells (hL.sat hS32 7 rfl) hcx 0 _ rfl))) ?_
      refine vc_s rfl rfl (guard_yes rfl rfl h33) rfl rfl rfl ?_
      have hC34 := hS32.split [1, 5] [false, true, false, false, false, true, false, false] rfl; dsimp only [selF, pickA, nthA, List.cons_append, List.nil_append] at hC34
      refine wl_call cal_10 rfl (jcommit_sp hC34 (hG.starL 5 rfl) (hO.starL 5 rfl) (hE5.starL 5 rfl) (by omega)) rfl ?_
      rintro e w34 ⟨_, rfl, rfl, hS34⟩; refine ⟨_, rfl, ?_⟩
      replace hS34 := hS34.join rfl; dsimp only [List.dropLast, List.cons_append, List.nil_append] at hS34; clear hC34
      clear hS32
      refine vc_e (.cons (.inl ⟨(guard_yes rfl rfl h33), (Ev.gd (ev_load rfl ag_32 (RdX.cells (hL.sat hS34 7 rfl) hcx 0 _ rfl)))⟩) (.skip (by kernel_rfl) (.skip (by kernel_rfl) .nil))) ?_
      refine vc_s rfl rfl (guard_yes rfl rfl h33) rfl rfl rfl ?_
      have hC35 := hS34.split [3, 4, 5, 6] [false, false, false, true, true, true, true, false] rfl; dsimp only [selF, pickA, nthA, List.cons_append, List.nil_append] at hC35
      refine wl_call cal_28 rfl (r5commit_sp hC35 hJK (hE5.starL 3 rfl) (by omega)) rfl ?_
      rintro e w35 ⟨_, rfl, kv2, rfl, hJK2, hS35⟩; refine ⟨_, rfl, ?_⟩
      replace hS35 := hS35.join rfl; dsimp only [List.dropLast, List.cons_append, List.nil_append] at hS35; clear hC35
      clear hS34
      have h1kv2 := hS35.own_one 2 rfl
      refine vc_e (.skip (by kernel_rfl) (.skip (by kernel_rfl) (.skip (by kernel_rfl) .nil))) ?_
      refine vc_p rfl rfl (guard_yes rfl rfl h33) (fun _ => (Ev.gd (ev_neq rfl rfl))) ?_
      refine vc_p rfl rfl rfl (fun _ => (ev_pickF rfl h33 rfl)) ?_
      refine vc_p rfl rfl rfl (fun _ => (ev_move rfl)) ?_
      refine vc_splitD 172 rfl (fun h36 => ?_) (fun h36 => ?_)
      ·exact absurd rfl h36
      refine vc_p rfl rfl (guard_yes rfl rfl (decide_eq_false h36)) (fun _ => (Ev.gd (ev_move rfl))) ?_
      refine vc_p rfl rfl (guard_yes rfl rfl (decide_eq_false h36)) (fun _ => (Ev.gd (ev_move rfl))) ?_
      refine vc_p rfl rfl (guard_yes rfl rfl (decide_eq_false h36)) (fun _ => (Ev.gd (ev_nilCheck rfl))) ?_
      refine vc_p rfl rfl (guard_yes rfl rfl (decide_eq_false h36)) (fun _ => (Ev.gd (ev_fieldAddr rfl fo_58_3))) ?_
      refine vc_q rfl rfl (guard_yes rfl rfl (decide_eq_false h36)) (Ev.gd (ev_load rfl ag_32 (by first | assumption | exact hS35.cell 0 rfl rfl | exact hS35.cell 1 rfl rfl))) ?_
      refine vc_s rfl rfl (guard_yes rfl rfl (decide_eq_false h36)) rfl rfl rfl ?_
      have hC37 := hS35.split [4] [false, false, false, false, true, false, false, false] rfl; dsimp only [selF, pickA, nthA, List.cons_append, List.nil_append] at hC37
      refine wl_call cal_13 rfl (jblocks hC37) rfl ?_
      rintro e w37 ⟨_, rfl, hS37⟩; refine ⟨_, rfl, ?_⟩
      replace hS37 := hS37.join rfl; dsimp only [List.dropLast, List.cons_append, List.nil_append] at hS37; clear hC37
      clear hS35
      have h1bl37 := hS37.own_one 0 rfl
      have hbl2 := listB_len (commitR D2 (openJ D base).J cl).J.B
      refine vc_e (.cons (.inl ⟨(guard_yes rfl rfl (decide_eq_false h36)), (Ev.gd (ev_load rfl ag_32 (by first | assumption | exact hS37.cell 2 rfl rfl | exact hS37.cell 3 rfl rfl)))⟩) (.skip (by kernel_rfl) (.skip (by kernel_rfl) (.skip (by kernel_rfl) .nil)))) ?_
      refine vc_s rfl rfl (guard_yes rfl rfl (decide_eq_false h36)) rfl rfl rfl ?_
      have hC38 := hS37.split [] [false, false, false, false, false, false, false, false, false] rfl; dsimp only [selF, pickA, nthA, List.cons_append, List.nil_append] at hC38
      refine wl_call cal_12 rfl (bsame_sp hC38 (Ent.starL (ent_row (C := jbC) (l := listB (commitR D2 (openJ D base).J cl).J.B) (by omega)) 0 rfl) (Ent.starL (ent_row (C := jbC) (l := listB (commitR D2 (openJ D base).J cl).J.B) (by omega)) 4 rfl)) rfl ?_
      rintro e w38 ⟨_, rfl, rfl, hS38⟩; refine ⟨_, rfl, ?_⟩
      replace hS38 := hS38.join rfl; dsimp only [List.dropLast, List.cons_append, List.nil_append] at hS38; clear hC38
      clear hS37
      refine vc_e (.skip (by kernel_rfl) (.skip (by kernel_rfl) (.skip (by kernel_rfl) (.skip (by kernel_rfl) .nil)))) ?_
      refine vc_p rfl rfl (guard_yes rfl rfl (decide_eq_false h36)) (fun _ => (Ev.gd (ev_not rfl))) ?_
      refine vc_p rfl rfl rfl (fun _ => (ev_pickF rfl (decide_eq_false h36) rfl)) ?_
      refine vc_p rfl rfl rfl (fun _ => (ev_move rfl)) ?_
      refine vc_split 182 rfl (fun h39 => ?_) (fun h39 => ?_)
      ·simp at h39
      refine vc_p rfl rfl (guard_yes rfl rfl h39) (fun _ => (Ev.gd (ev_move rfl))) ?_
      refine vc_p rfl rfl (guard_yes rfl rfl h39) (fun _ => (Ev.gd (ev_move rfl))) ?_
      refine vc_s rfl rfl (guard_yes rfl rfl h39) rfl rfl rfl ?_
      have hC40 := hS38.split [1, 6] [false, true, false, false, false, false, true, false, false] rfl; dsimp only [selF, pickA, nthA, List.cons_append, List.nil_append] at hC40
      refine wl_call cal_10 rfl (jcommit_sp hC40 (hG.starL 6 rfl) (hO.starL 6 rfl) (l := []) (fun _ => rdL_nilB _) (by simp)) rfl ?_
      rintro e w40 ⟨_, rfl, rfl, hS40⟩; refine ⟨_, rfl, ?_⟩
      replace hS40 := hS40.join rfl; dsimp only [List.dropLast, List.cons_append, List.nil_append] at hS40; clear hC40
      clear hS38
      refine vc_e (.skip (by kernel_rfl) (.skip (by kernel_rfl) (.skip (by kernel_rfl) (.skip (by kernel_rfl) .nil)))) ?_
      refine vc_s rfl rfl (guard_yes rfl rfl h39) rfl rfl rfl ?_
      have hC41 := hS40.split [3, 4, 5, 6] [false, false, false, true, true, true, true, false, false] rfl; dsimp only [selF, pickA, nthA, List.cons_append, List.nil_append] at hC41
      refine wl_call cal_28 rfl (r5commit_sp hC41 hJK2 (l := []) (fun _ => rdL_nilB _) (by simp)) rfl ?_
      rintro e w41 ⟨_, rfl, kv3, rfl, hJK3, hS41⟩; refine ⟨_, rfl, ?_⟩
      replace hS41 := hS41.join rfl; dsimp only [List.dropLast, List.cons_append, List.nil_append] at hS41; clear hC41
      clear hS40
      refine vc_e (.skip (by kernel_rfl) (.skip (by kernel_rfl) (.skip (by kernel_rfl) (.skip (by kernel_rfl) .nil)))) ?_
      refine vc_p rfl rfl (guard_yes rfl rfl h39) (fun _ => (Ev.gd (ev_neq rfl rfl))) ?_
      refine vc_p rfl rfl rfl (fun _ => (ev_pickF rfl h39 rfl)) ?_
      refine VC.nil (qs_seq ?_)
      refine wc_sub (L' := [(188, _), (1, _), (2, _), (4, _), (13, _), (14, _), (15, _), (17, _)]) (.cons rfl (.cons rfl (.cons rfl (.cons rfl (.cons rfl (.cons rfl (.cons rfl (.cons rfl .nil)))))))) ?_
      refine wc_condD rfl (fun h42 => ?_) (fun h42 => ?_)
      ·exact absurd rfl h42
      refine wc_skip ?_
      exact qs_mid (.cons rfl (.cons rfl (.cons rfl (.cons rfl (.cons rfl (.cons rfl (.cons rfl .nil))))))) ⟨_, rfl, hS41.pick [5, 3, 8] rfl⟩
     refine wc_skip ?_
     exact qs_mid (.cons rfl (.cons rfl (.cons rfl (.cons rfl (.cons rfl (.cons rfl (.cons rfl .nil))))))) ⟨_, rfl, hS21.pick [5, 3, 6] rfl⟩
    rintro _ w24 ⟨D2, rfl, hS24⟩
    refine wc_seq (wc_seq (wc_region (wl_move rfl rfl ?_)))
    have hC43 := hS24.split [0] [true, false, false] rfl; dsimp only [selF, pickA, nthA, List.cons_append, List.nil_append] at hC43
    refine wl_call cal_16 rfl (downT hC43) rfl ?_
    rintro e w43 ⟨_, rfl, rfl, hS43⟩; refine ⟨_, rfl, ?_⟩
    replace hS43 := hS43.join rfl; dsimp only [List.dropLast, List.cons_append, List.nil_append] at hS43; clear hC43
    clear hS24
    refine wl_move rfl rfl ?_
    have hC44 := hS43.split [1] [false, true, false] rfl; dsimp only [selF, pickA, nthA, List.cons_append, List.nil_append] at hC44
    refine wl_call cal_29 rfl (downRT hC44) rfl ?_
    rintro e w44 ⟨_, rfl, rfl, hS44⟩; refine ⟨_, rfl, ?_⟩
    replace hS44 := hS44.join rfl; dsimp only [List.dropLast, List.cons_append, List.nil_append] at hS44; clear hC44
    clear hS43
    refine wl_neqB Tryz.underlying4 rfl rfl rfl ?_
    refine wl_nil (qs_seq ?_)
    refine wc_sub (L' := [(193, _), (1, _), (2, _), (4, _), (13, _), (14, _), (15, _), (17, _)]) (.cons rfl (.cons rfl (.cons rfl (.cons rfl (.cons rfl (.cons rfl (.cons rfl (.cons rfl .nil)))))))) ?_
    refine wc_cond rfl (fun h45 => ?_) (fun h45 => ?_)
    ·simp at h45
    refine wc_skip (qs_seq (wc_seq (wc_region (wl_move rfl rfl ?_))))
    have hC46 := hS44.split [1] [false, true, false] rfl; dsimp only [selF, pickA, nthA, List.cons_append, List.nil_append] at hC46
    refine wl_call cal_17 rfl (startT hC46) rfl ?_
    rintro e w46 ⟨_, rfl, rfl, hS46⟩; refine ⟨_, rfl, ?_⟩
    replace hS46 := hS46.join rfl; dsimp only [List.dropLast, List.cons_append, List.nil_append] at hS46; clear hC46
    clear hS44
    refine wl_nil (qs_seq (wc_region (wl_move rfl rfl ?_)))
    have hC47 := hS46.split [1] [false, true, false] rfl; dsimp only [selF, pickA, nthA, List.cons_append, List.nil_append] at hC47
    refine wl_call cal_30 rfl (startRT hC47) rfl ?_
    rintro e w47 ⟨_, rfl, rfl, hS47⟩; refine ⟨_, rfl, ?_⟩
    replace hS47 := hS47.join rfl; dsimp only [List.dropLast, List.cons_append, List.nil_append] at hS47; clear hC47
    clear hS46
    refine wl_nil (qs_block_normal (qs_seq ?_))
    refine wc_sub (L' := [(1, _), (2, _), (4, _), (13, _), (14, _), (15, _), (17, _)]) (.cons rfl (.cons rfl (.cons rfl (.cons rfl (.cons rfl (.cons rfl (.cons rfl .nil))))))) ?_
    refine wc_region (wl_move rfl rfl ?_)
    refine wl_add rfl rfl (by first | omega | (simp; omega)) (by first | omega | (simp; omega)) rfl ?_
    refine wl_assign rfl rfl (wl_nil ?_)
    exact qs_round (L1 := [(1, _), (2, _), (4, _), (13, _), (14, _), (15, _), (17, intV ((i + 1 : Nat) : Int))]) (.cons rfl (.cons rfl (.cons rfl (.cons rfl (.cons rfl (.cons rfl (.cons rfl .nil))))))) (k1 := ls.length + 1 - (i + 1)) (by omega) ⟨i + 1, _, rfl, rfl, hS47.pick [1, 0, 2] rfl, by omega⟩
   exact absurd hE0 hF0
  refine ⟨_, rfl, ?_⟩
  replace hS20 := hS20.join rfl; dsimp only [List.dropLast, List.cons_append, List.nil_append] at hS20; clear hC20
  clear hS18
  refine wl_move rfl rfl (wl_extract rfl rfl rfl (wl_extract rfl rfl rfl (wl_assign rfl rfl (wl_assign rfl rfl (wl_nil (qs_seq ?_))))))
  refine wc_sub (L' := [(19, _), (18, _), (1, _), (2, _), (4, _), (13, _), (14, _), (15, _), (17, _)]) (.cons rfl (.cons rfl (.cons rfl (.cons rfl (.cons rfl (.cons rfl (.cons rfl (.cons rfl (.cons rfl .nil))))))))) ?_
  refine wc_seq (wc_region (wl_move rfl rfl (wl_move rfl rfl ?_)))
  have hC48 := hS20.split [1] [false, true, false] rfl; dsimp only [selF, pickA, nthA, List.cons_append, List.nil_append] at hC48
  refine wl_call cal_25 rfl (r5open_sp hC48 base) rfl ?_
  rintro e w48 ⟨_, rfl, (⟨hF0, _⟩ | ⟨hF0, rfl, hS48⟩)⟩
  ·exact absurd hF0 hE0
  refine ⟨_, rfl, ?_⟩
  replace hS48 := hS48.join rfl; dsimp only [List.dropLast, List.cons_append, List.nil_append] at hS48; clear hC48
  clear hS20
  refine wl_move rfl rfl (wl_extract rfl rfl rfl (wl_extract rfl rfl rfl (wl_assign rfl rfl (wl_assign rfl rfl (wl_nil (qs_seq ?_))))))
  refine wc_sub (L' := [(21, _), (20, _), (19, _), (18, _), (1, _), (2, _), (4, _), (13, _), (14, _), (15, _), (17, _)]) (.cons rfl (.cons rfl (.cons rfl (.cons rfl (.cons rfl (.cons rfl (.cons rfl (.cons rfl (.cons rfl (.cons rfl (.cons rfl .nil))))))))))) ?_
  refine wc_seq (wc_seq (wc_region (wl_move rfl rfl (wl_move rfl rfl ?_))))
  refine wl_neq rfl rfl rfl ?_
  refine wl_move rfl rfl ?_
  refine wl_splitD 123 rfl (fun h49 => ?_) (fun h49 => ?_)
  ·exact absurd rfl h49
  refine wl_guard rfl rfl (decide_eq_false h49) ?_
  refine wl_move rfl rfl ?_
  refine wl_guard rfl rfl (decide_eq_false h49) ?_
  refine wl_neqNilNil Tryz.underlying27 rfl rfl rfl ?_
  refine wl_guard rfl rfl (decide_eq_false h49) ?_
  refine wl_move rfl rfl ?_
  refine wl_guard rfl rfl (decide_eq_false h49) ?_
  refine wl_neqNilNil Tryz.underlying52 rfl rfl rfl ?_
  refine wl_guard rfl rfl (decide_eq_false h49) ?_
  refine wl_neqB Tryz.underlying4 rfl rfl rfl ?_
  refine wl_pickF rfl (decide_eq_false h49) rfl rfl ?_
  refine wl_nil (qs_seq ?_)
  refine wc_sub (L' := [(129, _), (20, _), (18, _), (1, _), (2, _), (4, _), (13, _), (14, _), (15, _), (17, _)]) (.cons rfl (.cons rfl (.cons rfl (.cons rfl (.cons rfl (.cons rfl (.cons rfl (.cons rfl (.cons rfl (.cons rfl .nil)))))))))) ?_
  refine wc_cond rfl (fun h50 => ?_) (fun h50 => ?_)
  ·simp at h50
  refine wc_skip (qs_seq ?_)
  refine wc_mid (fun E0 W0 => ∃ (D2 : DS), E0 = [(1, intV base), (2, .slice ao ls.length cap), (4, intV lose), (13, .bool true), (14, ptrV dp 0), (15, ptrV rp 0), (17, intV (i : Int))] ∧ Sat W0 [dT dp D2, rT rp D2, F]) ?_ ?_
  ·refine wc_seq (wc_region (wl_move rfl rfl ?_))
   refine wl_neqNilNil Tryz.underlying27 rfl rfl rfl ?_
   refine wl_move rfl rfl ?_
   refine wl_unwanted rfl rfl rfl rfl ?_
   refine wl_unwanted rfl rfl rfl rfl ?_
   refine wl_pickF rfl rfl rfl rfl ?_
   refine wl_move rfl rfl ?_
   refine wl_unwanted rfl rfl rfl rfl ?_
   refine wl_unwanted rfl rfl rfl rfl ?_
   refine wl_unwanted rfl rfl rfl rfl ?_
   refine wl_unwanted rfl rfl rfl rfl ?_
   refine wl_pickF rfl rfl rfl rfl ?_
   refine wl_nil (qs_seq ?_)
   refine wc_sub (L' := [(141, _), (20, _), (18, _), (1, _), (2, _), (4, _), (13, _), (14, _), (15, _), (17, _)]) (.cons rfl (.cons rfl (.cons rfl (.cons rfl (.cons rfl (.cons rfl (.cons rfl (.cons rfl (.cons rfl (.cons rfl .nil)))))))))) ?_
   refine wc_condF rfl ?_
   refine wc_skip ?_
   exact qs_mid (.cons rfl (.cons rfl (.cons rfl (.cons rfl (.cons rfl (.cons rfl (.cons rfl .nil))))))) ⟨_, rfl, hS48.pick [1, 0, 2] rfl⟩
  rintro _ w51 ⟨D2, rfl, hS51⟩
  refine wc_seq (wc_seq (wc_region (wl_move rfl rfl ?_)))
  have hC52 := hS51.split [0] [true, false, false] rfl; dsimp only [selF, pickA, nthA, List.cons_append, List.nil_append] at hC52
  refine wl_call cal_16 rfl (downT hC52) rfl ?_
  rintro e w52 ⟨_, rfl, rfl, hS52⟩; refine ⟨_, rfl, ?_⟩
  replace hS52 := hS52.join rfl; dsimp only [List.dropLast, List.cons_append, List.nil_append] at hS52; clear hC52
  clear hS51
  refine wl_move rfl rfl ?_
  have hC53 := hS52.split [1] [false, true, false] rfl; dsimp only [selF, pickA, nthA, List.cons_append, List.nil_append] at hC53
  refine wl_call cal_29 rfl (downRT hC53) rfl ?_
  rintro e w53 ⟨_, rfl, rfl, hS53⟩; refine ⟨_, rfl, ?_⟩
  replace hS53 := hS53.join rfl; dsimp only [List.dropLast, List.cons_append, List.nil_append] at hS53; clear hC53
  clear hS52
  refine wl_neqB Tryz.underlying4 rfl rfl rfl ?_
  refine wl_nil (qs_seq ?_)
  refine wc_sub (L' := [(193, _), (1, _), (2, _), (4, _), (13, _), (14, _), (15, _), (17, _)]) (.cons rfl (.cons rfl (.cons rfl (.cons rfl (.cons rfl (.cons rfl (.cons rfl (.cons rfl .nil)))))))) ?_
  refine wc_cond rfl (fun h54 => ?_) (fun h54 => ?_)
  ·simp at h54
  refine wc_skip (qs_seq (wc_seq (wc_region (wl_move rfl rfl ?_))))
  have hC55 := hS53.split [1] [false, true, false] rfl; dsimp only [selF, pickA, nthA, List.cons_append, List.nil_append] at hC55
  refine wl_call cal_17 rfl (startT hC55) rfl ?_
  rintro e w55 ⟨_, rfl, rfl, hS55⟩; refine ⟨_, rfl, ?_⟩
  replace hS55 := hS55.join rfl; dsimp only [List.dropLast, List.cons_append, List.nil_append] at hS55; clear hC55
  clear hS53
  refine wl_nil (qs_seq (wc_region (wl_move rfl rfl ?_)))
  have hC56 := hS55.split [1] [false, true, false] rfl; dsimp only [selF, pickA, nthA, List.cons_append, List.nil_append] at hC56
  refine wl_call cal_30 rfl (startRT hC56) rfl ?_
  rintro e w56 ⟨_, rfl, rfl, hS56⟩; refine ⟨_, rfl, ?_⟩
  replace hS56 := hS56.join rfl; dsimp only [List.dropLast, List.cons_append, List.nil_append] at hS56; clear hC56
  clear hS55
  refine wl_nil (qs_block_normal (qs_seq ?_))
  refine wc_sub (L' := [(1, _), (2, _), (4, _), (13, _), (14, _), (15, _), (17, _)]) (.cons rfl (.cons rfl (.cons rfl (.cons rfl (.cons rfl (.cons rfl (.cons rfl .nil))))))) ?_
  refine wc_region (wl_move rfl rfl ?_)
  refine wl_add rfl rfl (by first | omega | (simp; omega)) (by first | omega | (simp; omega)) rfl ?_
  refine wl_assign rfl rfl (wl_nil ?_)
  exact qs_round (L1 := [(1, _), (2, _), (4, _), (13, _), (14, _), (15, _), (17, intV ((i + 1 : Nat) : Int))]) (.cons rfl (.cons rfl (.cons rfl (.cons rfl (.cons rfl (.cons rfl (.cons rfl .nil))))))) (k1 := ls.length + 1 - (i + 1)) (by omega) ⟨i + 1, _, rfl, rfl, hS56.pick [1, 0, 2] rfl, by omega⟩
 refine wc_exit (qs_then_exit (qs_then_exit (qs_block_exit (qs_seq (wc_seq (wc_seq (wc_region (wl_assign rfl rfl (wl_nil (qs_seq (wc_block ?_)))))))))))
 refine wc_loop (fun K0 E0 W0 => ∃ (f : Nat), K0 = 16 - f ∧ E0 = [(13, .bool true), (14, ptrV dp 0), (15, ptrV rp 0), (22, intV (f : Int))] ∧ Sat W0 [dT dp D, rT rp D, F] ∧ (f ≤ 16)) (L0 := [(13, _), (14, _), (15, _), (22, _)]) (16 - 0) (.cons rfl (.cons rfl (.cons rfl (.cons rfl .nil)))) ⟨0, rfl, rfl, hS18.pick [0, 1, 2] rfl, by omega⟩ ?_
 rintro _ _ w57 ⟨f, rfl, rfl, hS57, hf⟩
 refine wc_seq (wc_seq (wc_region (wl_move rfl rfl ?_)))
 refine wl_lss rfl rfl rfl ?_
 refine wl_nil (qs_seq ?_)
 refine wc_condD rfl (fun h58 => ?_) (fun h58 => ?_)
 ·refine wc_skip (qs_seq (wc_seq (wc_block (wc_seq (wc_region (wl_move rfl rfl (wl_move rfl rfl (wl_move rfl rfl (wl_move rfl rfl ?_)))))))))
  have hC59 := hS57.split [0] [true, false, false] rfl; dsimp only [selF, pickA, nthA, List.cons_append, List.nil_append] at hC59
  refine wl_call cal_32 rfl (sizeT hC59 (f : Int)) rfl ?_
  rintro e w59 ⟨_, rfl, rfl, hS59⟩; refine ⟨_, rfl, ?_⟩
  replace hS59 := hS59.join rfl; dsimp only [List.dropLast, List.cons_append, List.nil_append] at hS59; clear hC59
  clear hS57
  have hC60 := hS59.split [0] [true, false, false] rfl; dsimp only [selF, pickA, nthA, List.cons_append, List.nil_append] at hC60
  refine wl_call cal_31 rfl (dreadT hC60 (f : Int) 0 ((D.F f).1.length : Int)) rfl ?_
  rintro e w60 ⟨_, rfl, rfl, hS60⟩; refine ⟨_, rfl, ?_⟩
  replace hS60 := hS60.join rfl; dsimp only [List.dropLast, List.cons_append, List.nil_append] at hS60; clear hC60
  clear hS59
  refine wl_move rfl rfl (wl_extract rfl rfl rfl (wl_extract rfl rfl rfl (wl_assign rfl rfl (wl_assign rfl rfl (wl_nil (qs_seq ?_))))))
  refine wc_sub (L' := [(23, _), (13, _), (14, _), (15, _), (22, _)]) (.cons rfl (.cons rfl (.cons rfl (.cons rfl (.cons rfl .nil))))) ?_
  refine wc_seq (wc_region (wl_move rfl rfl (wl_move rfl rfl (wl_move rfl rfl (wl_move rfl rfl ?_)))))
  have hC61 := hS60.split [1] [false, true, false] rfl; dsimp only [selF, pickA, nthA, List.cons_append, List.nil_append] at hC61
  refine wl_call cal_34 rfl (sizeRT hC61 (f : Int)) rfl ?_
  rintro e w61 ⟨_, rfl, rfl, hS61⟩; refine ⟨_, rfl, ?_⟩
  replace hS61 := hS61.join rfl; dsimp only [List.dropLast, List.cons_append, List.nil_append] at hS61; clear hC61
  clear hS60
  have hC62 := hS61.split [0] [true, false, false] rfl; dsimp only [selF, pickA, nthA, List.cons_append, List.nil_append] at hC62
  refine wl_call cal_33 rfl (readRT hC62 (f : Int) 0 ((D.F f).1.length : Int)) rfl ?_
  rintro e w62 ⟨_, rfl, rfl, hS62⟩; refine ⟨_, rfl, ?_⟩
  replace hS62 := hS62.join rfl; dsimp only [List.dropLast, List.cons_append, List.nil_append] at hS62; clear hC62
  clear hS61
  refine wl_move rfl rfl (wl_extract rfl rfl rfl (wl_extract rfl rfl rfl (wl_assign rfl rfl (wl_assign rfl rfl (wl_nil (qs_seq ?_))))))
  refine wc_sub (L' := [(25, _), (23, _), (13, _), (14, _), (15, _), (22, _)]) (.cons rfl (.cons rfl (.cons rfl (.cons rfl (.cons rfl (.cons rfl .nil)))))) ?_
  refine wc_seq (wc_region (wl_move rfl rfl (wl_move rfl rfl ?_)))
  refine wl_neqS rfl rfl rfl ?_
  refine wl_nil (qs_seq ?_)
  refine wc_condD rfl (fun h63 => ?_) (fun h63 => ?_)
  ·exact absurd rfl h63
  refine wc_skip (qs_block_normal (qs_seq (wc_region (wl_move rfl rfl ?_))))
  refine wl_add rfl rfl (by first | omega | (simp; omega)) (by first | omega | (simp; omega)) rfl ?_
  refine wl_assign rfl rfl (wl_nil ?_)
  exact qs_round (L1 := [(13, _), (14, _), (15, _), (22, intV ((f + 1 : Nat) : Int))]) (.cons rfl (.cons rfl (.cons rfl (.cons rfl .nil)))) (k1 := 16 - (f + 1)) (by omega) ⟨f + 1, rfl, rfl, hS62.pick [1, 0, 2] rfl, by omega⟩
 refine wc_exit (qs_then_exit (qs_then_exit (qs_block_exit (qs_seq (wc_seq (wc_region (wl_move rfl rfl (wl_assign rfl rfl (wl_nil (qs_seq (wc_ret ?_)))))))))))
 refine fin1 (.inr rfl) rfl rfl ?_
 exact ⟨_, rfl, rfl, hS57.pick [2] rfl⟩
end Go.Proofs.YtfmkodmmbgibgaaGreatDoor
/- How the arguments of a law read: a relation between cells and plain data for each type, built by shape; and the step from a law's contract to its row. -/
namespace Go.Proofs.YtfmkodmmbgibgaaGreatDoor.M
open Go.ChangeShapes Go.WideShapes Go.ChangeAt Go.RowKit Go.Deep
/-- the cells cs lie at ⟨b, off⟩ -/
def At (w : World) (b off : Nat) (cs : List Value) : Prop := ∀ j v, cs[j]? = some v → w.cell? ⟨b, off + j, none⟩ = some v
theorem At.cell {w : World} {b off : Nat} {cs : List Value} (h : At w b off cs) (j : Nat) {v : Value} (hv : cs[j]? = some v) : w.cell? ⟨b, off + j, none⟩ = some v := h j v hv
theorem At.below {B : Nat} {w w' : World} {b off : Nat} {cs : List Value} (h : At w b off cs) (hb : Below B w w') (hB : b < B) : At w' b off cs :=
  fun j v hv => (hb.cell (p := ⟨b, off + j, none⟩) hB).trans (h j v hv)
/-- a type, read as α -/
structure Cod (P : Program) (t : TypeId) (α : Type) where
  rd : World → List Value → α → Prop
  size : Nat
  cells : P.cellsOf t = size
  down : ∀ {H : Type} {enc : TypeId × Value → H} {w : World} {base : Nat} {spare : Nat → Bool} {held : Bool} {fuel : Nat} {cs : List Value} {x : DataW H × List MemPlace},
    DataW.trod enc P w base spare held fuel t cs = some x → ∃ a, rd w cs a
  len : ∀ {w cs a}, rd w cs a → cs.length = size
  keep : ∀ {w w' cs a}, Below w.heap.size w w' → rd w cs a → rd w' cs a
section
variable {P : Program}
def Cod.int {t : TypeId} (k : IntKind) (ht : P.underlying t = some (.int k)) (hc : P.cellsOf t = 1) : Cod P t Int where
  rd := fun _ cs n => cs = [.int k n] ∧ (Lit.int k n).wf = true
  size := 1
  cells := hc
  down := fun h => by
    obtain ⟨n, h1, _, h2⟩ := DataW.trod_int ht h
    exact ⟨n, h1, h2⟩
  len := fun h => by rw [h.1]; rfl
  keep := fun _ h => h
def Cod.byte {t : TypeId} (ht : P.underlying t = some (.int .u8)) (hc : P.cellsOf t = 1) : Cod P t UInt8 where
  rd := fun _ cs n => cs = [.int .u8 (n.toNat : Int)]
  size := 1
  cells := hc
  down := fun h => by
    obtain ⟨n, h1, _, h2⟩ := DataW.trod_int ht h
    have hb := bounds_u8 h2
    refine ⟨UInt8.ofNat n.toNat, ?_⟩
    have e : ((UInt8.ofNat n.toNat).toNat : Int) = n := by simp; omega
    rw [e]; exact h1
  len := fun h => by rw [h]; rfl
  keep := fun _ h => h
def Cod.bool {t : TypeId} (ht : P.underlying t = some .bool) (hc : P.cellsOf t = 1) : Cod P t Bool where
  rd := fun _ cs n => cs = [.bool n]
  size := 1
  cells := hc
  down := fun h => by
    obtain ⟨n, h1, _⟩ := DataW.trod_bool ht h
    exact ⟨n, h1⟩
  len := fun h => by rw [h]; rfl
  keep := fun _ h => h
def Cod.string {t : TypeId} (ht : P.underlying t = some .string) (hc : P.cellsOf t = 1) : Cod P t ByteArray where
  rd := fun _ cs s => cs = [.string s] ∧ s.size ≤ 9223372036854775807
  size := 1
  cells := hc
  down := fun h => by
    obtain ⟨n, h1, _, h2⟩ := DataW.trod_string ht h
    exact ⟨n, h1, h2⟩
  len := fun h => by rw [h.1]; rfl
  keep := fun _ h => h
/-- a slice's value v reads as l: each element's cells lie in its place -/
def SliceRd {α : Type} (rd : World → List Value → α → Prop) (size : Nat) (w : World) (v : Value) (l : List α) : Prop :=
  ∃ ao cap, v = .slice ao l.length cap ∧ l.length ≤ cap ∧ cap ≤ 9223372036854775807 ∧ ∀ (i : Nat) (a : α), l[i]? = some a → ∃ b off cs, ao = some ⟨b, off, none⟩ ∧ b < w.heap.size ∧ At w b (off + i * size) cs ∧ rd w cs a
def Cod.slice {t e : TypeId} {α : Type} [Inhabited α] (ht : P.underlying t = some (.slice e)) (hc : P.cellsOf t = 1) (c : Cod P e α) (hpos : 0 < c.size) : Cod P t (List α) where
  rd := fun w cs l => ∃ v, cs = [v] ∧ SliceRd c.rd c.size w v l
  size := 1
  cells := hc
  down := fun {H enc w base spare held fuel cs x} h => by
    rcases open_slice ht h with ⟨rfl, _⟩ | ⟨a, len, cap, m, n, D, Pl, rfl, hb, hl, hm, hmm, _, hx⟩
    · exact ⟨[], _, rfl, none, 0, rfl, Nat.le_refl _, by omega, fun i a hi => by simp at hi⟩
    · have hlm : len ≤ m := by rw [hmm]; split <;> omega
      have hex : ∀ i, i < len → ∃ y : α, ∃ cs', c.rd w cs' y ∧ (∀ j v, cs'[j]? = some v → w.cell? (a.add (i * c.size + j)) = some v) := by
        intro i hi
        obtain ⟨cs', h1, h2⟩ := hx i (by omega)
        obtain ⟨y, hy⟩ := c.down h2
        obtain ⟨_, hlen, hat⟩ := World.cells?_some h1
        refine ⟨y, cs', hy, fun j v hv => ?_⟩
        have hj : j < cs'.length := (List.getElem?_eq_some_iff.1 hv).1
        rw [c.cells] at hlen hat
        rw [← Go.Deep.add_add, hat j (by omega), hv]
      obtain ⟨f, hf⟩ := choose_lt hex
      refine ⟨(List.range len).map f, _, rfl, some a, cap, by simp, by simpa using hl, hm, fun i y hi => ?_⟩
      have hil : i < len := by have := (List.getElem?_eq_some_iff.1 hi).1; simpa using this
      simp [hil] at hi
      subst hi
      obtain ⟨cs', hrd, hat⟩ := hf i hil
      have hcl := c.len hrd
      obtain ⟨b, off, spot⟩ := a
      have h0 := hat 0 cs'[0] (List.getElem?_eq_getElem (by omega))
      have hspot : spot = none := by
        have := World.cell?_spot h0
        unfold Addr.add at this
        split at this
        · exact this
        · obtain ⟨i0, hi0⟩ : ∃ i0, i0 < len ∧ i0 = 0 := ⟨0, by omega, rfl⟩
          obtain ⟨hi1, rfl⟩ := hi0
          obtain ⟨cs0, hrd0, hat0⟩ := hf 0 hi1
          have hcl0 := c.len hrd0
          have h00 := hat0 0 cs0[0] (List.getElem?_eq_getElem (by omega))
          have := World.cell?_spot h00
          simpa [Addr.add] using this
      subst hspot
      refine ⟨b, off, cs', rfl, ?_, fun j v hv => ?_, hrd⟩
      · have := block_lt_of_cell h0
        rw [addr_add] at this
        exact this
      · have := hat j v hv
        rw [addr_add] at this
        rw [Nat.add_assoc]; exact this
  len := fun ⟨v, h, _⟩ => by rw [h]; rfl
  keep := fun {w w' cs l} hb ⟨v, h1, ao, cap, h2, h3, h4, h5⟩ => ⟨v, h1, ao, cap, h2, h3, h4, fun i a hi => by
    obtain ⟨b, off, cs', e1, e2, e3, e4⟩ := h5 i a hi
    exact ⟨b, off, cs', e1, Nat.lt_of_lt_of_le e2 hb.size, e3.below hb e2, c.keep hb e4⟩⟩
/-- fields one behind the other -/
structure Flds (P : Program) (fs : List Field) (off : Nat) (α : Type) where
  rd : World → List Value → α → Prop
  size : Nat
  down : ∀ {H : Type} {enc : TypeId × Value → H} {w : World} {base : Nat} {spare : Nat → Bool} {held : Bool} {n : Nat} {cs : List Value} {xs : List (DataW H × List MemPlace)},
    (∀ (i : Nat) (f : Field), fs[i]? = some f → ∃ x, DataW.trod enc P w base spare held n f.type ((cs.drop f.offset).take (P.cellsOf f.type)) = some x) → ∃ a, rd w ((cs.drop off).take size) a
  len : ∀ {w cs a}, rd w cs a → cs.length = size
  keep : ∀ {w w' cs a}, Below w.heap.size w w' → rd w cs a → rd w' cs a
def Flds.nil (off : Nat) : Flds P [] off Unit where
  rd := fun _ cs _ => cs = []
  size := 0
  down := fun _ => ⟨(), by simp⟩
  len := fun h => by rw [h]; rfl
  keep := fun _ h => h
def Flds.cons {f : Field} {fs : List Field} {off : Nat} {α β : Type} (c : Cod P f.type α) (ho : f.offset = off) (r : Flds P fs (off + c.size) β) : Flds P (f :: fs) off (α × β) where
  rd := fun w cs a => ∃ cs1 cs2, cs = cs1 ++ cs2 ∧ c.rd w cs1 a.1 ∧ r.rd w cs2 a.2
  size := c.size + r.size
  down := fun {H enc w base spare held n cs xs} h => by
    obtain ⟨x, hx⟩ := h 0 f rfl
    rw [ho, c.cells] at hx
    obtain ⟨a, ha⟩ := c.down hx
    obtain ⟨b, hb⟩ := r.down (xs := xs) (fun i g hg => h (i + 1) g (by simpa using hg))
    refine ⟨(a, b), _, _, ?_, ha, hb⟩
    rw [← List.drop_drop]
    exact List.take_add ..
  len := fun ⟨cs1, cs2, h, h1, h2⟩ => by rw [h, List.length_append, c.len h1, r.len h2]
  keep := fun hb ⟨cs1, cs2, h, h1, h2⟩ => ⟨cs1, cs2, h, c.keep hb h1, r.keep hb h2⟩
def Cod.struct {t : TypeId} {fs : List Field} {α : Type} (ht : P.underlying t = some (.struct fs.toArray)) (r : Flds P fs 0 α) (hc : P.cellsOf t = r.size) : Cod P t α where
  rd := r.rd
  size := r.size
  cells := hc
  down := fun {H enc w base spare held fuel cs x} h => by
    obtain ⟨xs, n, _, _, hl, hxl, hf⟩ := DataW.trod_struct ht h
    obtain ⟨a, ha⟩ := r.down (xs := xs) (n := n) (enc := enc) (w := w) (base := base) (spare := spare) (held := held) (cs := cs) (fun i f hi => by
      have h1 := hf i f (by simpa using hi)
      have hil := (List.getElem?_eq_some_iff.1 hi).1
      rw [h1, List.getElem?_eq_getElem (by rw [hxl]; simpa using hil)]
      exact ⟨_, rfl⟩)
    refine ⟨a, ?_⟩
    rw [List.drop_zero, List.take_of_length_le (by omega)] at ha
    exact ha
  len := r.len
  keep := r.keep
/-- as another type -/
def Cod.map {t : TypeId} {α β : Type} (c : Cod P t α) (f : α → β) : Cod P t β where
  rd := fun w cs b => ∃ a, b = f a ∧ c.rd w cs a
  size := c.size
  cells := c.cells
  down := fun h => by obtain ⟨a, ha⟩ := c.down h; exact ⟨f a, a, rfl, ha⟩
  len := fun ⟨a, _, h⟩ => c.len h
  keep := fun hb ⟨a, e, h⟩ => ⟨a, e, c.keep hb h⟩
/-- the arguments are all read again behind a call that has changed nothing that was there -/
theorem trodAll_stays {H : Type} {enc : TypeId × Value → H} (hl : laidOutB P = true) {W W' : World} (hb : Below W.heap.size W W') :
    ∀ (ts : List TypeId) (vs : List Value) (ds : List (DataW H)) (ps : List MemPlace), (∀ t ∈ ts, P.readableRec t = true ∧ t < P.types.size) →
      DataW.TrodAll enc P W 0 (fun _ => true) true ts vs ds ps → DataW.TrodAll enc P W' 0 (fun b => decide (b < W.heap.size)) true ts vs ds ps
  | [], vs, ds, ps, _, h => by
    obtain ⟨rfl, rfl, rfl⟩ := trodAll_nil h
    exact rfl
  | t :: ts, vs, ds, ps, hr, h => by
    obtain ⟨v, vs', d, ds', p, q, rfl, rfl, rfl, h0, h1⟩ := trodAll_cons h
    have lt0 : ∀ x ∈ p, x.block < W.heap.size := by obtain ⟨m, hm⟩ := h0; exact DataW.trod_lt m _ _ _ hm
    obtain ⟨r1, r2⟩ := hr t (by simp)
    exact trodAll_cons_mk (Below.trod hl r1 r2 h0 hb lt0) (trodAll_stays hl hb ts vs' ds' q (fun t ht => hr t (by simp [ht])) h1)
end
end Go.Proofs.YtfmkodmmbgibgaaGreatDoor.M
