/- laws of procs: ProcsTell -/
import Derived.Test.YtcbdclhoekokpaaGreatDoorPe0
import Derived.Test.YtcbdclhoekokpaaGreatDoorPe7
import Derived.Test.YtcbdclhoekokpaaGreatDoorPd4
import Derived.Test.YtcbdclhoekokpaaGreatDoorRng
import Derived.ChangeKeysEq
import Derived.Laws.StructEq
namespace Go.Proofs.YtcbdclhoekokpaaGreatDoor
open Go.RowKit M
set_option linter.unusedVariables false
theorem getD_len {W : WS} (hB : TB W) (n : Int) : ((getW W n).getD zeroP).ar.length ≤ 1000000 ∧ ((getW W n).getD zeroP).fds.length ≤ 1000000 := by
  cases h : getW W n with
  | none => exact ⟨Nat.zero_le _, Nat.zero_le _⟩
  | some x => exact ⟨(getW_wf hB h).1.al, (getW_wf hB h).1.fdl⟩
theorem decD_len (s : Bs) : ((decP s).getD zeroP).ar.length ≤ 1000000 ∧ ((decP s).getD zeroP).fds.length ≤ 1000000 := by
  cases h : decP s with
  | none => exact ⟨Nat.zero_le _, Nat.zero_le _⟩
  | some x => exact ⟨(dec_some h).1.al, (dec_some h).1.fdl⟩
theorem new_same {W : WS} {b m e m' e' : Int} (h : (b < 0 ∨ b > 15623) ∧ m = 0 ∧ e = 1 ∨ ∃ kl, KeysOf W.cells [80, 47] kl ∧ NewP b (pidsF W (fun _ => true) kl) m e) (h' : (b < 0 ∨ b > 15623) ∧ m' = 0 ∧ e' = 1 ∨ ∃ kl, KeysOf W.cells [80, 47] kl ∧ NewP b (pidsF W (fun _ => true) kl) m' e') : m = m' ∧ e = e' := by
  rcases h with ⟨a, h1, h2⟩ | ⟨kl, hk, h⟩ <;> rcases h' with ⟨c, g1, g2⟩ | ⟨kl', hk', g⟩
  · omega
  · have := g.1 a; omega
  · have := h.1 c; omega
  · obtain rfl := keysOf_uniq hk hk'
    exact newP_uniq h g
theorem objs_none {W : WS} (h : W.objs = emptyW.objs) : ObjsIn W.objs 1000000 := ⟨[], by simp, fun k ⟨q, hq⟩ => by rw [h] at hq; exact absurd rfl hq⟩
theorem names_none {W : WS} (h : W.objs = emptyW.objs) {l : List Bs} (hl : NamesOf W.objs l) : l = [] := by
  obtain ⟨l0, rfl, _, hm⟩ := hl
  have : l0 = [] := List.eq_nil_iff_forall_not_mem.2 fun k hk => by
    obtain ⟨q, hq⟩ := (hm k).1 hk
    rw [h] at hq; exact absurd rfl hq
  subst this; simp [sortS]
theorem opcells {w : World} {l : List OpR} {b off n cap i : Nat} {o : OpR} (h : OrRd (.slice (some ⟨b, off, none⟩) n cap) l w) (ho : l[i]? = some o) : ∀ (j : Nat) (u : Value), (procV o.x o.av o.fv)[j]? = some u → w.cell? ⟨b, off + i * 62 + 1 + j, none⟩ = some u := fun j u hu => by
  obtain ⟨⟨b', off', he, hc⟩, _⟩ := h.get ho
  cases he
  have h9 := hc (j + 1) u hu
  rwa [show off + i * 62 + (j + 1) = off + i * 62 + 1 + j by omega] at h9
set_option maxRecDepth 100000 in
set_option maxHeartbeats 4000000 in
theorem tell28_law {w : World} {F : Th} (hS : Sat w [F]) (hG : Ent F WireG) {lv : Value} {l : List OpR} (hO : Ent F (OrRd lv l)) (kk vv : Bs) (pid block : Int) :
    Calls Tryz.prog 7 #[lv, strV kk, strV vv, intV pid, intV block] w (Ret fun v w' => v = .bool true ∧ Sat w' [F]) := by
  obtain ⟨ao, cap, rfl, hmax⟩ := (hO.sat hS 0 rfl).shape
  refine calls_enter Tryz.func7 rfl Tryz.ntmps7 rfl ?_
  refine wc_seq ?_
  refine wc_region ?_
  refine wl_assign rfl rfl ?_
  refine wl_nil ?_
  refine qs_seq ?_
  refine wc_seq ?_
  refine wc_region ?_
  have hC1 := hS.split [] [false] rfl; dsimp only [selF, pickA, nthA, List.cons_append, List.nil_append] at hC1
  refine wl_call cal_8 rfl (small28_sp hC1 (hG.starL 0 rfl)) rfl ?_
  rintro e w1 ⟨_, rfl, rfl, hS1⟩; refine ⟨_, rfl, ?_⟩
  replace hS1 := hS1.join rfl; dsimp only [List.dropLast, List.cons_append, List.nil_append] at hS1; clear hC1
  refine wl_assign rfl rfl ?_
  refine wl_nil ?_
  refine qs_seq ?_
  refine wc_seq ?_
  refine wc_seq ?_
  refine wc_region ?_
  refine wl_move rfl rfl ?_
  have hC2 := hS1.split [] [false] rfl; dsimp only [selF, pickA, nthA, List.cons_append, List.nil_append] at hC2
  refine wl_call cal_9 rfl (few_sp hC2 (hO.starL 0 rfl) 40) rfl ?_
  rintro e w2 ⟨_, rfl, lb, rfl, hb, hS2⟩; refine ⟨_, rfl, ?_⟩
  replace hS2 := hS2.join rfl; dsimp only [List.dropLast, List.cons_append, List.nil_append] at hS2; clear hC2
  clear hS1
  refine wl_not rfl rfl ?_
  refine wl_move rfl rfl ?_
  refine wl_split 33 rfl (fun h3 => ?_) (fun h3 => ?_)
  · skip
    refine wl_unwanted rfl rfl h3 rfl ?_
    refine wl_unwanted rfl rfl h3 rfl ?_
    refine wl_unwanted rfl rfl h3 rfl ?_
    refine wl_pickT rfl h3 rfl rfl ?_
    refine wl_move rfl rfl ?_
    refine wl_unwanted rfl rfl rfl rfl ?_
    refine wl_unwanted rfl rfl rfl rfl ?_
    refine wl_unwanted rfl rfl rfl rfl ?_
    refine wl_pickT rfl rfl rfl rfl ?_
    refine wl_nil ?_
    refine qs_seq ?_
    refine wc_sub (L' := [(42, _), (11, _), (10, _), (0, _), (1, _), (2, _), (3, _), (4, _)]) (.cons rfl (.cons rfl (.cons rfl (.cons rfl (.cons rfl (.cons rfl (.cons rfl (.cons rfl .nil)))))))) ?_
    refine wc_condT rfl ?_
    refine wc_seq ?_
    refine wc_region ?_
    refine wl_move rfl rfl ?_
    refine wl_assign rfl rfl ?_
    refine wl_nil ?_
    refine qs_seq ?_
    refine wc_ret ?_
    refine qs_then_ret ?_
    refine fin1 (.inr rfl) rfl rfl ?_
    exact ⟨_, rfl, by first | rfl | (simp; done), hS2.pick [0] rfl⟩
  have hfew : FewR 40 l := hb (by simpa using h3)
  have hll : l.length ≤ 40 := by have := hfew.1; omega
  refine wl_guard rfl rfl h3 ?_
  refine wl_move rfl rfl ?_
  refine wl_guard rfl rfl h3 ?_
  refine wl_lenS Tryz.underlying9 rfl rfl ?_
  refine wl_guard rfl rfl h3 ?_
  refine wl_gtr rfl rfl rfl ?_
  refine wl_pickF rfl h3 rfl rfl ?_
  refine wl_move rfl rfl ?_
  refine wl_splitD 38 rfl (fun h4 => ?_) (fun h4 => ?_)
  · skip
    refine wl_unwanted rfl rfl (decide_eq_true h4) rfl ?_
    refine wl_unwanted rfl rfl (decide_eq_true h4) rfl ?_
    refine wl_unwanted rfl rfl (decide_eq_true h4) rfl ?_
    refine wl_pickT rfl (decide_eq_true h4) rfl rfl ?_
    refine wl_nil ?_
    refine qs_seq ?_
    refine wc_sub (L' := [(42, _), (11, _), (10, _), (0, _), (1, _), (2, _), (3, _), (4, _)]) (.cons rfl (.cons rfl (.cons rfl (.cons rfl (.cons rfl (.cons rfl (.cons rfl (.cons rfl .nil)))))))) ?_
    refine wc_condT rfl ?_
    refine wc_seq ?_
    refine wc_region ?_
    refine wl_move rfl rfl ?_
    refine wl_assign rfl rfl ?_
    refine wl_nil ?_
    refine qs_seq ?_
    refine wc_ret ?_
    refine qs_then_ret ?_
    refine fin1 (.inr rfl) rfl rfl ?_
    exact ⟨_, rfl, by first | rfl | (simp; done), hS2.pick [0] rfl⟩
  refine wl_guard rfl rfl (decide_eq_false h4) ?_
  refine wl_move rfl rfl ?_
  refine wl_guard rfl rfl (decide_eq_false h4) ?_
  refine wl_lenS Tryz.underlying9 rfl rfl ?_
  refine wl_guard rfl rfl (decide_eq_false h4) ?_
  refine wl_gtr rfl rfl rfl ?_
  refine wl_pickF rfl (decide_eq_false h4) rfl rfl ?_
  refine wl_nil ?_
  refine qs_seq ?_
  refine wc_sub (L' := [(42, _), (11, _), (10, _), (0, _), (1, _), (2, _), (3, _), (4, _)]) (.cons rfl (.cons rfl (.cons rfl (.cons rfl (.cons rfl (.cons rfl (.cons rfl (.cons rfl .nil)))))))) ?_
  refine wc_condD rfl (fun h5 => ?_) (fun h5 => ?_)
  · skip
    refine wc_seq ?_
    refine wc_region ?_
    refine wl_move rfl rfl ?_
    refine wl_assign rfl rfl ?_
    refine wl_nil ?_
    refine qs_seq ?_
    refine wc_ret ?_
    refine qs_then_ret ?_
    refine fin1 (.inr rfl) rfl rfl ?_
    exact ⟨_, rfl, by first | rfl | (simp; done), hS2.pick [0] rfl⟩
  refine wc_skip ?_
  refine qs_seq ?_
  refine wc_seq ?_
  refine wc_region ?_
  have hC6 := hS2.split [] [false] rfl; dsimp only [selF, pickA, nthA, List.cons_append, List.nil_append] at hC6
  refine wl_call cal_10 rfl (new_sp hC6) rfl ?_
  rintro e w6 ⟨_, rfl, p, rfl, hS6⟩; refine ⟨_, rfl, ?_⟩
  replace hS6 := hS6.join rfl; dsimp only [List.dropLast, List.cons_append, List.nil_append] at hS6; clear hC6
  clear hS2
  refine wl_assign rfl rfl ?_
  refine wl_nil ?_
  refine qs_seq ?_
  refine wc_seq ?_
  refine wc_region ?_
  refine wl_buildS rfl pl_64_ asz_64 zr_64 rfl rfl ?_
  refine wl_box hS6 rfl rfl rfl ?_
  intro fb wf hSf
  have hSg : Sat wf [refP fb emptyW 0, worldT p emptyW, F] := refP_shut ⟨CellsR.empty, by simp⟩ (rfT_shut (((hSf.row_nil stC).row_nil stC).reorder [2, 0, 1, 3, 4] rfl))
  clear hS6
  refine wl_assign rfl rfl ?_
  refine wl_nil ?_
  refine qs_seq ?_
  refine wc_sub (L' := [(13, _), (12, _), (11, _), (10, _), (0, _), (1, _), (2, _), (3, _), (4, _)]) (.cons rfl (.cons rfl (.cons rfl (.cons rfl (.cons rfl (.cons rfl (.cons rfl (.cons rfl (.cons rfl .nil))))))))) ?_
  refine wc_seq ?_
  refine wc_seq ?_
  refine wc_region ?_
  refine wl_move rfl rfl ?_
  refine wl_eqlNil Tryz.underlying25 rfl rfl rfl ?_
  refine wl_nil ?_
  refine qs_seq ?_
  refine wc_condF rfl ?_
  refine wc_skip ?_
  refine qs_seq ?_
  refine wc_seq ?_
  refine wc_region ?_
  refine wl_move rfl rfl ?_
  refine wl_move rfl rfl ?_
  refine wl_move rfl rfl ?_
  have hC7 := hSg.split [1] [false, true, false] rfl; dsimp only [selF, pickA, nthA, List.cons_append, List.nil_append] at hC7
  refine wl_call cal_25 rfl (put_sp hC7 kk vv (by omega) (by omega)) rfl ?_
  rintro e w7 ⟨_, rfl, rfl, hS7⟩; refine ⟨_, rfl, ?_⟩
  replace hS7 := hS7.join rfl; dsimp only [List.dropLast, List.cons_append, List.nil_append] at hS7; clear hC7
  clear hSg
  refine wl_nil ?_
  refine qs_seq ?_
  refine wc_sub (L' := [(13, _), (12, _), (11, _), (10, _), (0, _), (1, _), (2, _), (3, _), (4, _)]) (.cons rfl (.cons rfl (.cons rfl (.cons rfl (.cons rfl (.cons rfl (.cons rfl (.cons rfl (.cons rfl .nil))))))))) ?_
  refine wc_seq ?_
  refine wc_region ?_
  refine wl_move rfl rfl ?_
  refine wl_move rfl rfl ?_
  refine wl_move rfl rfl ?_
  have hC8 := hS7.split [1] [false, true, false] rfl; dsimp only [selF, pickA, nthA, List.cons_append, List.nil_append] at hC8
  refine wl_call cal_26 rfl (qPut hC8 (by omega) kk vv) rfl ?_
  rintro e w8 ⟨_, rfl, rfl, hS8⟩; refine ⟨_, rfl, ?_⟩
  replace hS8 := hS8.join rfl; dsimp only [List.dropLast, List.cons_append, List.nil_append] at hS8; clear hC8
  clear hS7
  refine wl_nil ?_
  refine qs_seq ?_
  refine wc_sub (L' := [(13, _), (12, _), (11, _), (10, _), (0, _), (2, _), (3, _), (4, _)]) (.cons rfl (.cons rfl (.cons rfl (.cons rfl (.cons rfl (.cons rfl (.cons rfl (.cons rfl .nil)))))))) ?_
  refine wc_seq ?_
  refine wc_seq ?_
  refine wc_region ?_
  refine wl_assign rfl rfl ?_
  refine wl_nil ?_
  refine qs_seq ?_
  refine wc_block ?_
  refine wc_loop (fun K0 E0 W0 => ∃ (i : Nat) (W : WS), K0 = l.length - i ∧ E0 = [(0, .slice ao l.length cap), (2, strV vv), (3, intV pid), (4, intV block), (11, .bool true), (12, ptrV p 0), (13, ptrV fb 0), (14, intV (i : Int))] ∧ Sat W0 [worldT p W, refP fb W (i + 1), F] ∧ (i ≤ l.length) ∧ (PInv W (i + 1)) ∧ (W.objs = emptyW.objs)) (L0 := [(0, _), (2, _), (3, _), (4, _), (11, _), (12, _), (13, _), (14, _)]) (l.length - 0) (.cons rfl (.cons rfl (.cons rfl (.cons rfl (.cons rfl (.cons rfl (.cons rfl (.cons rfl .nil)))))))) ⟨0, _, rfl, rfl, hS8.pick [1, 0, 2] rfl, by omega, (PInv.empty.putS (k := kk) (v := vv) (by omega) (by omega)), putS_objs _ _ _⟩ ?_
  rintro _ _ w9 ⟨i, W, rfl, rfl, hS9, hi, hP, hob⟩
  refine wc_seq ?_
  refine wc_seq ?_
  refine wc_region ?_
  refine wl_move rfl rfl ?_
  refine wl_move rfl rfl ?_
  refine wl_lenL Tryz.underlying22 rfl rfl ?_
  refine wl_lss rfl rfl rfl ?_
  refine wl_nil ?_
  refine qs_seq ?_
  refine wc_sub (L' := [(60, _), (0, _), (2, _), (3, _), (4, _), (11, _), (12, _), (13, _), (14, _)]) (.cons rfl (.cons rfl (.cons rfl (.cons rfl (.cons rfl (.cons rfl (.cons rfl (.cons rfl (.cons rfl .nil))))))))) ?_
  refine wc_condD rfl (fun h10 => ?_) (fun h10 => ?_)
  · skip
    obtain ⟨o, ho⟩ : ∃ o, l[i]? = some o := ⟨_, List.getElem?_eq_getElem (by omega)⟩
    have hLA : Ent F (RdL arC o.av o.x.ar) := fun {w G} g => (RdX.elem hO ho g).1
    have hLF : Ent F (RdL stC o.fv o.x.fds) := fun {w G} g => (RdX.elem hO ho g).2.1
    obtain ⟨o0, ho0⟩ : ∃ o, l[0]? = some o := ⟨_, List.getElem?_eq_getElem (by omega)⟩
    have hLA0 : Ent F (RdL arC o0.av o0.x.ar) := fun {w G} g => (RdX.elem hO ho0 g).1
    have hLF0 : Ent F (RdL stC o0.fv o0.x.fds) := fun {w G} g => (RdX.elem hO ho0 g).2.1
    have hwf00 : Wf0 o0.x := ((hO.sat hS9 2 rfl).get ho0).2.2.2
    have hlt0 := hfew.2 o0 (List.mem_of_getElem? ho0)
    have hwo0 := hlt0.wfr hwf00
    have hlo0 := hlt0.len hwf00
    obtain ⟨⟨b, off, rfl, hc⟩, _, _, hwf0⟩ := (hO.sat hS9 2 rfl).get ho
    have hlt := hfew.2 o (List.mem_of_getElem? ho)
    have hwo := hlt.wfr hwf0
    have hlo := hlt.len hwf0
    refine wc_skip ?_
    refine qs_seq ?_
    refine wc_seq ?_
    refine wc_block ?_
    refine wc_seq ?_
    refine wc_region ?_
    refine wl_move rfl rfl ?_
    refine wl_move rfl rfl ?_
    refine wl_move rfl rfl ?_
    refine wl_indexAddr i rfl rfl (by first | rfl | omega) (by omega) es_22 rfl ?_
    refine wl_loadAt rfl ag_40 sz_40 (vs := opV o) ((hO.sat hS9 2 rfl).cells ho) rfl ?_
    have hC11 := hS9.split [0] [true, false, false] rfl; dsimp only [selF, pickA, nthA, List.cons_append, List.nil_append] at hC11
    refine wl_call cal_12 rfl (do_sp hC11 (hG.starL 1 rfl) hP.tb (hP.keys (by omega)) o hwo (by omega) (Ent.starL hLA 1 rfl) (Ent.starL hLF 1 rfl)) rfl ?_
    rintro e w11 ⟨_, rfl, rfl, W2, hd, hS11⟩; refine ⟨_, rfl, ?_⟩
    replace hS11 := hS11.join rfl; dsimp only [List.dropLast, List.cons_append, List.nil_append] at hS11; clear hC11
    clear hS9
    refine wl_nil ?_
    refine qs_seq ?_
    refine wc_sub (L' := [(0, _), (2, _), (3, _), (4, _), (11, _), (12, _), (13, _), (14, _)]) (.cons rfl (.cons rfl (.cons rfl (.cons rfl (.cons rfl (.cons rfl (.cons rfl (.cons rfl .nil)))))))) ?_
    refine wc_seq ?_
    refine wc_region ?_
    refine wl_move rfl rfl ?_
    refine wl_move rfl rfl ?_
    refine wl_move rfl rfl ?_
    refine wl_indexAddr i rfl rfl (by first | rfl | omega) (by omega) es_22 rfl ?_
    refine wl_loadAt rfl ag_40 sz_40 (vs := opV o) ((hO.sat hS11 2 rfl).cells ho) rfl ?_
    have hC12 := hS11.split [1] [false, true, false] rfl; dsimp only [selF, pickA, nthA, List.cons_append, List.nil_append] at hC12
    refine wl_call cal_27 rfl (model_sp hC12 (by omega) hP o hwo (by omega) (Ent.starL hLA 1 rfl) (Ent.starL hLF 1 rfl)) rfl ?_
    rintro e w12 ⟨_, rfl, rfl, W3, hd3, hS12⟩; refine ⟨_, rfl, ?_⟩
    replace hS12 := hS12.join rfl; dsimp only [List.dropLast, List.cons_append, List.nil_append] at hS12; clear hC12
    clear hS11
    obtain rfl := doP_uniq hd hd3
    have hP2 := hP.do (by omega) hd
    refine wl_nil ?_
    refine qs_seq ?_
    refine wc_sub (L' := [(0, _), (2, _), (3, _), (4, _), (11, _), (12, _), (13, _), (14, _)]) (.cons rfl (.cons rfl (.cons rfl (.cons rfl (.cons rfl (.cons rfl (.cons rfl (.cons rfl .nil)))))))) ?_
    refine wc_seq ?_
    have hS13 := hS12.drew
    refine wc_draw [0, 1, 2, 3, 4, 6, 7, 8, 9, 10, 5, 11, 12, 13, 14, 15, 16, 17, 18, 19, 20, 21, 22, 24, 25, 26, 27, 28, 29, 30, 31, 32, 23, 33, 34, 35] [5, 11, 23, 33] mix (by kernel_rfl) ?_
    refine vc_p rfl rfl rfl (fun _ => (ev_move rfl)) ?_
    refine vc_p rfl rfl rfl (fun _ => (ev_move rfl)) ?_
    refine vc_p rfl rfl rfl (fun _ => (ev_indexAddr i rfl rfl (by first | rfl | omega) (by omega) es_22)) ?_
    refine vc_p rfl rfl rfl (fun _ => (ev_fieldAddr rfl fo_40_1)) ?_
    refine vc_q rfl rfl rfl (ev_loadAt rfl ag_38 sz_38 (vs := procV o.x o.av o.fv) (opcells (hO.sat hS13 2 rfl) ho)) ?_
    refine vc_p rfl rfl rfl (fun _ => (ev_move rfl)) ?_
    refine vc_p rfl rfl rfl (fun _ => (ev_move rfl)) ?_
    refine vc_p rfl rfl rfl (fun _ => (ev_indexAddr i rfl rfl (by first | rfl | omega) (by omega) es_22)) ?_
    refine vc_p rfl rfl rfl (fun _ => (ev_fieldAddr rfl fo_40_1)) ?_
    refine vc_q rfl rfl rfl (ev_loadAt rfl ag_38 sz_38 (vs := procV o.x o.av o.fv) (opcells (hO.sat hS13 2 rfl) ho)) ?_
    refine vc_s rfl rfl rfl rfl rfl rfl ?_
    have hC14 := hS13.split [] [false, false, false] rfl; dsimp only [selF, pickA, nthA, List.cons_append, List.nil_append] at hC14
    refine wl_call cal_22 rfl (bytesP_sp hC14 (hG.starL 2 rfl) hwo (Ent.starL hLA 2 rfl) (Ent.starL hLF 2 rfl) (by omega)) rfl ?_
    rintro e w14 ⟨_, rfl, rfl, hS14⟩; refine ⟨_, rfl, ?_⟩
    replace hS14 := hS14.join rfl; dsimp only [List.dropLast, List.cons_append, List.nil_append] at hS14; clear hC14
    clear hS13
    refine vc_e (.cons (.inl ⟨rfl, (ev_loadAt rfl ag_38 sz_38 (vs := procV o.x o.av o.fv) (opcells (hO.sat hS14 2 rfl) ho))⟩) (.skip (by kernel_rfl) .nil)) ?_
    refine vc_s rfl rfl rfl rfl rfl rfl ?_
    have hC15 := hS14.split [] [false, false, false] rfl; dsimp only [selF, pickA, nthA, List.cons_append, List.nil_append] at hC15
    refine wl_call cal_28 rfl (qBytes_sp hC15 hwo (Ent.starL hLA 2 rfl) (Ent.starL hLF 2 rfl) (by omega)) rfl ?_
    rintro e w15 ⟨_, rfl, rfl, hS15⟩; refine ⟨_, rfl, ?_⟩
    replace hS15 := hS15.join rfl; dsimp only [List.dropLast, List.cons_append, List.nil_append] at hS15; clear hC15
    clear hS14
    refine vc_e (.skip (by kernel_rfl) (.skip (by kernel_rfl) .nil)) ?_
    refine vc_p rfl rfl rfl (fun _ => (ev_neqS rfl rfl)) ?_
    refine vc_p rfl rfl rfl (fun _ => (ev_move rfl)) ?_
    refine vc_splitD 88 rfl (fun h16 => ?_) (fun h16 => ?_)
    · skip
      first | exact absurd rfl h16 | (simp at h16; done)
    refine vc_p rfl rfl (guard_yes rfl rfl (decide_eq_false h16)) (fun _ => (Ev.gd (ev_move rfl))) ?_
    refine vc_p rfl rfl (guard_yes rfl rfl (decide_eq_false h16)) (fun _ => (Ev.gd (ev_move rfl))) ?_
    refine vc_p rfl rfl (guard_yes rfl rfl (decide_eq_false h16)) (fun _ => (Ev.gd (ev_indexAddr i rfl rfl (by first | rfl | omega) (by omega) es_22))) ?_
    refine vc_p rfl rfl (guard_yes rfl rfl (decide_eq_false h16)) (fun _ => (Ev.gd (ev_fieldAddr rfl fo_40_1))) ?_
    refine vc_q rfl rfl (guard_yes rfl rfl (decide_eq_false h16)) (Ev.gd (ev_loadAt rfl ag_38 sz_38 (vs := procV o.x o.av o.fv) (opcells (hO.sat hS15 2 rfl) ho))) ?_
    refine vc_p rfl rfl (guard_yes rfl rfl (decide_eq_false h16)) (fun _ => (Ev.gd (ev_move rfl))) ?_
    refine vc_p rfl rfl (guard_yes rfl rfl (decide_eq_false h16)) (fun _ => (Ev.gd (ev_indexAddr 0 rfl rfl (by first | rfl | omega) (by omega) es_22))) ?_
    refine vc_p rfl rfl (guard_yes rfl rfl (decide_eq_false h16)) (fun _ => (Ev.gd (ev_fieldAddr rfl fo_40_1))) ?_
    refine vc_q rfl rfl (guard_yes rfl rfl (decide_eq_false h16)) (Ev.gd (ev_loadAt rfl ag_38 sz_38 (vs := procV o0.x o0.av o0.fv) (opcells (hO.sat hS15 2 rfl) ho0))) ?_
    refine vc_p rfl rfl (guard_yes rfl rfl (decide_eq_false h16)) (fun _ => (Ev.gd (ev_move rfl))) ?_
    refine vc_p rfl rfl (guard_yes rfl rfl (decide_eq_false h16)) (fun _ => (Ev.gd (ev_move rfl))) ?_
    refine vc_p rfl rfl (guard_yes rfl rfl (decide_eq_false h16)) (fun _ => (Ev.gd (ev_indexAddr i rfl rfl (by first | rfl | omega) (by omega) es_22))) ?_
    refine vc_p rfl rfl (guard_yes rfl rfl (decide_eq_false h16)) (fun _ => (Ev.gd (ev_fieldAddr rfl fo_40_1))) ?_
    refine vc_q rfl rfl (guard_yes rfl rfl (decide_eq_false h16)) (Ev.gd (ev_loadAt rfl ag_38 sz_38 (vs := procV o.x o.av o.fv) (opcells (hO.sat hS15 2 rfl) ho))) ?_
    refine vc_p rfl rfl (guard_yes rfl rfl (decide_eq_false h16)) (fun _ => (Ev.gd (ev_move rfl))) ?_
    refine vc_p rfl rfl (guard_yes rfl rfl (decide_eq_false h16)) (fun _ => (Ev.gd (ev_indexAddr 0 rfl rfl (by first | rfl | omega) (by omega) es_22))) ?_
    refine vc_p rfl rfl (guard_yes rfl rfl (decide_eq_false h16)) (fun _ => (Ev.gd (ev_fieldAddr rfl fo_40_1))) ?_
    refine vc_q rfl rfl (guard_yes rfl rfl (decide_eq_false h16)) (Ev.gd (ev_loadAt rfl ag_38 sz_38 (vs := procV o0.x o0.av o0.fv) (opcells (hO.sat hS15 2 rfl) ho0))) ?_
    refine vc_s rfl rfl (guard_yes rfl rfl (decide_eq_false h16)) rfl rfl rfl ?_
    have hC17 := hS15.split [] [false, false, false] rfl; dsimp only [selF, pickA, nthA, List.cons_append, List.nil_append] at hC17
    refine wl_call cal_23 rfl (sameG28_sp hC17 hwo hwo0 (Ent.starL hLA 2 rfl) (Ent.starL hLF 2 rfl) (Ent.starL hLA0 2 rfl) (Ent.starL hLF0 2 rfl) (hG.starL 2 rfl) (by omega) (by omega)) rfl ?_
    rintro e w17 ⟨_, rfl, rfl, hS17⟩; refine ⟨_, rfl, ?_⟩
    replace hS17 := hS17.join rfl; dsimp only [List.dropLast, List.cons_append, List.nil_append] at hS17; clear hC17
    clear hS15
    refine vc_e (.cons (.inl ⟨(guard_yes rfl rfl (decide_eq_false h16)), (Ev.gd (ev_loadAt rfl ag_38 sz_38 (vs := procV o0.x o0.av o0.fv) (opcells (hO.sat hS17 2 rfl) ho0)))⟩) (.cons (.inl ⟨(guard_yes rfl rfl (decide_eq_false h16)), (Ev.gd (ev_loadAt rfl ag_38 sz_38 (vs := procV o.x o.av o.fv) (opcells (hO.sat hS17 2 rfl) ho)))⟩) (.skip (by kernel_rfl) (.skip (by kernel_rfl) (.skip (by kernel_rfl) (.skip (by kernel_rfl) .nil)))))) ?_
    refine vc_s rfl rfl (guard_yes rfl rfl (decide_eq_false h16)) rfl rfl rfl ?_
    have hC18 := hS17.split [] [false, false, false] rfl; dsimp only [selF, pickA, nthA, List.cons_append, List.nil_append] at hC18
    refine wl_call cal_14 rfl (refSameG_sp hC18 hwo hwo0 (Ent.starL hLA 2 rfl) (Ent.starL hLF 2 rfl) (Ent.starL hLA0 2 rfl) (Ent.starL hLF0 2 rfl)) rfl ?_
    rintro e w18 ⟨_, rfl, rfl, hS18⟩; refine ⟨_, rfl, ?_⟩
    replace hS18 := hS18.join rfl; dsimp only [List.dropLast, List.cons_append, List.nil_append] at hS18; clear hC18
    clear hS17
    refine vc_e (.skip (by kernel_rfl) (.skip (by kernel_rfl) (.skip (by kernel_rfl) (.skip (by kernel_rfl) (.skip (by kernel_rfl) (.skip (by kernel_rfl) .nil)))))) ?_
    refine vc_p rfl rfl (guard_yes rfl rfl (decide_eq_false h16)) (fun _ => (Ev.gd (ev_neqB Tryz.underlying4 rfl rfl))) ?_
    refine vc_p rfl rfl rfl (fun _ => (ev_pickF rfl (decide_eq_false h16) rfl)) ?_
    refine VC.nil ?_
    refine qs_seq ?_
    refine wc_sub (L' := [(110, _), (0, _), (2, _), (3, _), (4, _), (11, _), (12, _), (13, _), (14, _)]) (.cons rfl (.cons rfl (.cons rfl (.cons rfl (.cons rfl (.cons rfl (.cons rfl (.cons rfl (.cons rfl .nil))))))))) ?_
    refine wc_cond rfl (fun h19 => ?_) (fun h19 => ?_)
    · skip
      first | exact absurd rfl h19 | (simp at h19; done)
    refine wc_skip ?_
    refine qs_block_normal ?_
    refine qs_seq ?_
    refine wc_region ?_
    refine wl_move rfl rfl ?_
    refine wl_add rfl rfl (by first | omega | (simp; omega)) (by first | omega | (simp; omega)) rfl ?_
    refine wl_assign rfl rfl ?_
    refine wl_nil ?_
    exact qs_round (L1 := [(0, _), (2, _), (3, _), (4, _), (11, _), (12, _), (13, _), (14, intV ((i + 1 : Nat) : Int))]) (.cons rfl (.cons rfl (.cons rfl (.cons rfl (.cons rfl (.cons rfl (.cons rfl (.cons rfl .nil)))))))) (k1 := l.length - (i + 1)) (by omega) ⟨i + 1, _, rfl, rfl, hS18.pick [1, 0, 2] rfl, by omega, hP2, by rw [doP_objs hd]; exact hob⟩
  refine wc_exit ?_
  refine qs_then_exit ?_
  refine qs_then_exit ?_
  refine qs_block_exit ?_
  refine qs_seq ?_
  refine wc_seq ?_
  refine wc_region ?_
  refine wl_move rfl rfl ?_
  have hC20 := hS9.split [1] [false, true, false] rfl; dsimp only [selF, pickA, nthA, List.cons_append, List.nil_append] at hC20
  refine wl_call cal_29 rfl (qWith hC20 (by omega) []) rfl ?_
  rintro e w20 ⟨_, rfl, lw, hlw, hlwl, hS20⟩; refine ⟨_, rfl, ?_⟩
  replace hS20 := hS20.join rfl; dsimp only [List.dropLast, List.cons_append, List.nil_append] at hS20; clear hC20
  clear hS9
  refine wl_assign rfl rfl ?_
  refine wl_nil ?_
  refine qs_seq ?_
  refine wc_sub (L' := [(15, _), (2, _), (3, _), (4, _), (11, _), (12, _), (13, _)]) (.cons rfl (.cons rfl (.cons rfl (.cons rfl (.cons rfl (.cons rfl (.cons rfl .nil))))))) ?_
  refine wc_seq ?_
  refine wc_seq ?_
  refine wc_region ?_
  refine wl_move rfl rfl ?_
  have hC21 := hS20.split [2] [false, false, true, false] rfl; dsimp only [selF, pickA, nthA, List.cons_append, List.nil_append] at hC21
  refine wl_call cal_31 rfl (keys_sp hC21 [] (hP.keys (by omega))) rfl ?_
  rintro e w21 ⟨_, rfl, lk, hlk, hS21⟩; refine ⟨_, rfl, ?_⟩
  replace hS21 := hS21.join rfl; dsimp only [List.dropLast, List.cons_append, List.nil_append] at hS21; clear hC21
  clear hS20
  obtain rfl := keysOf_uniq hlk hlw
  refine wl_move rfl rfl ?_
  have hC22 := hS21.split [] [false, false, false, false, false] rfl; dsimp only [selF, pickA, nthA, List.cons_append, List.nil_append] at hC22
  refine wl_call cal_30 rfl (same_sp hC22 (Ent.starL (ent_row (C := stC) (by omega)) 0 rfl) (Ent.starL (ent_row (C := stC) (by omega)) 2 rfl)) rfl ?_
  rintro e w22 ⟨_, rfl, rfl, hS22⟩; refine ⟨_, rfl, ?_⟩
  replace hS22 := hS22.join rfl; dsimp only [List.dropLast, List.cons_append, List.nil_append] at hS22; clear hC22
  clear hS21
  refine wl_not rfl rfl ?_
  refine wl_move rfl rfl ?_
  refine wl_split 118 rfl (fun h23 => ?_) (fun h23 => ?_)
  · skip
    first | exact absurd rfl h23 | (simp at h23; done)
  refine wl_guard rfl rfl h23 ?_
  refine wl_move rfl rfl ?_
  refine wl_guard rfl rfl h23 ?_
  have hC24 := hS22.split [1] [false, true, false, false, false] rfl; dsimp only [selF, pickA, nthA, List.cons_append, List.nil_append] at hC24
  refine wl_call cal_32 rfl (objects_sp hC24 (objs_none hob)) rfl ?_
  rintro e w24 ⟨_, rfl, ln, hln, hS24⟩; refine ⟨_, rfl, ?_⟩
  replace hS24 := hS24.join rfl; dsimp only [List.dropLast, List.cons_append, List.nil_append] at hS24; clear hC24
  clear hS22
  obtain rfl := names_none hob hln
  refine wl_guard rfl rfl h23 ?_
  refine wl_lenO 0 hS24 Tryz.underlying31 rfl rfl rfl ?_
  refine wl_guard rfl rfl h23 ?_
  refine wl_neq rfl rfl rfl ?_
  refine wl_pickF rfl h23 rfl rfl ?_
  refine wl_nil ?_
  refine qs_seq ?_
  refine wc_sub (L' := [(123, _), (15, _), (2, _), (3, _), (4, _), (11, _), (12, _), (13, _)]) (.cons rfl (.cons rfl (.cons rfl (.cons rfl (.cons rfl (.cons rfl (.cons rfl (.cons rfl .nil)))))))) ?_
  refine wc_condD rfl (fun h25 => ?_) (fun h25 => ?_)
  · skip
    first | exact absurd rfl h25 | (simp at h25; done)
  refine wc_skip ?_
  refine qs_seq ?_
  refine wc_seq ?_
  refine wc_seq ?_
  refine wc_region ?_
  refine wl_assign rfl rfl ?_
  refine wl_nil ?_
  refine qs_seq ?_
  refine wc_block ?_
  refine wc_loop (fun K0 E0 W0 => ∃ (j : Nat) (klv : Value), K0 = lk.length - j ∧ E0 = [(2, strV vv), (3, intV pid), (4, intV block), (11, .bool true), (12, ptrV p 0), (13, ptrV fb 0), (15, klv), (16, intV (j : Int))] ∧ Sat W0 [rowT stC klv lk, worldT p W, refP fb W (i + 1), F] ∧ (j ≤ lk.length)) (L0 := [(2, _), (3, _), (4, _), (11, _), (12, _), (13, _), (15, _), (16, _)]) (lk.length - 0) (.cons rfl (.cons rfl (.cons rfl (.cons rfl (.cons rfl (.cons rfl (.cons rfl (.cons rfl .nil)))))))) ⟨0, _, rfl, rfl, hS24.pick [3, 1, 4, 5] rfl, by omega⟩ ?_
  rintro _ _ w26 ⟨j, klv, rfl, rfl, hS26, hj⟩
  refine wc_seq ?_
  refine wc_seq ?_
  refine wc_region ?_
  refine wl_move rfl rfl ?_
  refine wl_move rfl rfl ?_
  first | refine wl_lenL Tryz.underlying31 rfl rfl ?_ | refine wl_lenO 0 hS26 Tryz.underlying31 rfl rfl rfl ?_
  refine wl_lss rfl rfl rfl ?_
  refine wl_nil ?_
  refine qs_seq ?_
  refine wc_sub (L' := [(127, _), (2, _), (3, _), (4, _), (11, _), (12, _), (13, _), (15, _), (16, _)]) (.cons rfl (.cons rfl (.cons rfl (.cons rfl (.cons rfl (.cons rfl (.cons rfl (.cons rfl (.cons rfl .nil))))))))) ?_
  refine wc_condD rfl (fun h27 => ?_) (fun h27 => ?_)
  · skip
    obtain ⟨key, hkey⟩ : ∃ k, lk[j]? = some k := ⟨_, List.getElem?_eq_getElem (by omega)⟩
    obtain ⟨kb, kc, rfl, _⟩ := hS26.own_at 0 rfl (by omega)
    refine wc_skip ?_
    refine qs_seq ?_
    refine wc_seq ?_
    refine wc_block ?_
    refine wc_seq ?_
    have hS28 := hS26.drew
    refine wc_draw [0, 1, 2, 3, 4, 6, 7, 8, 9, 10, 5, 11, 12] [5, 11] mix (by kernel_rfl) ?_
    refine vc_p rfl rfl rfl (fun _ => (ev_move rfl)) ?_
    refine vc_p rfl rfl rfl (fun _ => (ev_move rfl)) ?_
    refine vc_p rfl rfl rfl (fun _ => (ev_move rfl)) ?_
    refine vc_p rfl rfl rfl (fun _ => (ev_indexAddr j rfl rfl (by first | rfl | omega) (by first | omega | exact (List.getElem?_eq_some_iff.1 hkey).1) es_31)) ?_
    refine vc_q rfl rfl rfl (ev_rowLoad0 stC 0 j 0 hS28 rfl hkey ag_9 rfl rfl) ?_
    refine vc_p rfl rfl rfl (fun _ => (ev_move rfl)) ?_
    refine vc_p rfl rfl rfl (fun _ => (ev_move rfl)) ?_
    refine vc_p rfl rfl rfl (fun _ => (ev_move rfl)) ?_
    refine vc_p rfl rfl rfl (fun _ => (ev_indexAddr j rfl rfl (by first | rfl | omega) (by first | omega | exact (List.getElem?_eq_some_iff.1 hkey).1) es_31)) ?_
    refine vc_q rfl rfl rfl (ev_rowLoad0 stC 0 j 0 hS28 rfl hkey ag_9 rfl rfl) ?_
    refine vc_s rfl rfl rfl rfl rfl rfl ?_
    have hC29 := hS28.split [1] [false, true, false, false] rfl; dsimp only [selF, pickA, nthA, List.cons_append, List.nil_append] at hC29
    refine wl_call cal_33 rfl (get_sp hC29 key) rfl ?_
    rintro e w29 ⟨_, rfl, rfl, hS29⟩; refine ⟨_, rfl, ?_⟩
    replace hS29 := hS29.join rfl; dsimp only [List.dropLast, List.cons_append, List.nil_append] at hS29; clear hC29
    clear hS28
    refine vc_e (.cons (.inl ⟨rfl, (ev_rowLoad0 stC 1 j 0 hS29 rfl hkey ag_9 rfl rfl)⟩) (.skip (by kernel_rfl) .nil)) ?_
    refine vc_s rfl rfl rfl rfl rfl rfl ?_
    have hC30 := hS29.split [2] [false, false, true, false] rfl; dsimp only [selF, pickA, nthA, List.cons_append, List.nil_append] at hC30
    refine wl_call cal_34 rfl (qGet hC30 (by omega) key) rfl ?_
    rintro e w30 ⟨_, rfl, rfl, hS30⟩; refine ⟨_, rfl, ?_⟩
    replace hS30 := hS30.join rfl; dsimp only [List.dropLast, List.cons_append, List.nil_append] at hS30; clear hC30
    clear hS29
    refine vc_e (.skip (by kernel_rfl) (.skip (by kernel_rfl) .nil)) ?_
    refine vc_p rfl rfl rfl (fun _ => (ev_neqS rfl rfl)) ?_
    refine VC.nil ?_
    refine qs_seq ?_
    refine wc_sub (L' := [(142, _), (2, _), (3, _), (4, _), (11, _), (12, _), (13, _), (15, _), (16, _)]) (.cons rfl (.cons rfl (.cons rfl (.cons rfl (.cons rfl (.cons rfl (.cons rfl (.cons rfl (.cons rfl .nil))))))))) ?_
    refine wc_condD rfl (fun h31 => ?_) (fun h31 => ?_)
    · skip
      first | exact absurd rfl h31 | (simp at h31; done)
    refine wc_skip ?_
    refine qs_block_normal ?_
    refine qs_seq ?_
    refine wc_region ?_
    refine wl_move rfl rfl ?_
    refine wl_add rfl rfl (by first | omega | (simp; omega)) (by first | omega | (simp; omega)) rfl ?_
    refine wl_assign rfl rfl ?_
    refine wl_nil ?_
    exact qs_round (L1 := [(2, _), (3, _), (4, _), (11, _), (12, _), (13, _), (15, _), (16, intV ((j + 1 : Nat) : Int))]) (.cons rfl (.cons rfl (.cons rfl (.cons rfl (.cons rfl (.cons rfl (.cons rfl (.cons rfl .nil)))))))) (k1 := lk.length - (j + 1)) (by omega) ⟨j + 1, _, rfl, rfl, hS30.pick [2, 1, 0, 3] rfl, by omega⟩
  refine wc_exit ?_
  refine qs_then_exit ?_
  refine qs_then_exit ?_
  refine qs_block_exit ?_
  refine qs_seq ?_
  refine wc_seq ?_
  refine wc_region ?_
  refine wl_move rfl rfl ?_
  refine wl_makeIface nif_25 rfl rfl ?_
  refine wl_move rfl rfl ?_
  have hC32 := hS26.split [1] [false, true, false, false] rfl; dsimp only [selF, pickA, nthA, List.cons_append, List.nil_append] at hC32
  refine wl_call cal_17 rfl (newP_sp hC32 (hG.starL 2 rfl) hP.tb (hP.keys (by omega)) block) rfl ?_
  rintro e w32 ⟨_, rfl, n0, e0, rfl, hn0, hS32⟩; refine ⟨_, rfl, ?_⟩
  replace hS32 := hS32.join rfl; dsimp only [List.dropLast, List.cons_append, List.nil_append] at hS32; clear hC32
  clear hS26
  refine wl_move rfl rfl ?_
  refine wl_extract rfl rfl rfl ?_
  refine wl_extract rfl rfl rfl ?_
  refine wl_assign rfl rfl ?_
  refine wl_assign rfl rfl ?_
  refine wl_nil ?_
  refine qs_seq ?_
  refine wc_sub (L' := [(18, _), (17, _), (2, _), (3, _), (4, _), (11, _), (12, _), (13, _)]) (.cons rfl (.cons rfl (.cons rfl (.cons rfl (.cons rfl (.cons rfl (.cons rfl (.cons rfl .nil)))))))) ?_
  refine wc_seq ?_
  refine wc_region ?_
  refine wl_move rfl rfl ?_
  refine wl_move rfl rfl ?_
  have hC33 := hS32.split [2] [false, false, true, false] rfl; dsimp only [selF, pickA, nthA, List.cons_append, List.nil_append] at hC33
  refine wl_call cal_35 rfl (qNew_sp hC33 (by omega) hP.tb block) rfl ?_
  rintro e w33 ⟨_, rfl, n1, e1, rfl, hn1, hS33⟩; refine ⟨_, rfl, ?_⟩
  replace hS33 := hS33.join rfl; dsimp only [List.dropLast, List.cons_append, List.nil_append] at hS33; clear hC33
  clear hS32
  obtain ⟨rfl, rfl⟩ := new_same hn0 hn1
  refine wl_move rfl rfl ?_
  refine wl_extract rfl rfl rfl ?_
  refine wl_extract rfl rfl rfl ?_
  refine wl_assign rfl rfl ?_
  refine wl_assign rfl rfl ?_
  refine wl_nil ?_
  refine qs_seq ?_
  refine wc_sub (L' := [(20, _), (19, _), (18, _), (17, _), (2, _), (3, _), (11, _), (12, _), (13, _)]) (.cons rfl (.cons rfl (.cons rfl (.cons rfl (.cons rfl (.cons rfl (.cons rfl (.cons rfl (.cons rfl .nil))))))))) ?_
  refine wc_seq ?_
  refine wc_region ?_
  refine wl_move rfl rfl ?_
  refine wl_makeIface nif_25 rfl rfl ?_
  refine wl_move rfl rfl ?_
  have hC34 := hS33.split [1] [false, true, false, false] rfl; dsimp only [selF, pickA, nthA, List.cons_append, List.nil_append] at hC34
  refine wl_call cal_11 rfl (getP_sp hC34 (hG.starL 2 rfl) hP.tb pid) rfl ?_
  rintro e w34 ⟨_, rfl, a1, f1, rfl, hS34⟩; refine ⟨_, rfl, ?_⟩
  replace hS34 := hS34.join rfl; dsimp only [List.dropLast, List.cons_append, List.nil_append] at hS34; clear hC34
  clear hS33
  have hg1 := getD_len hP.tb pid
  generalize hgx : (getW W pid).getD zeroP = gx at hS34 hg1 ⊢
  refine wl_move rfl rfl ?_
  refine wl_extract rfl rfl rfl ?_
  refine wl_extract rfl rfl rfl ?_
  have hone := procV_one (x := gx) (hS34.own_one 0 rfl) (hS34.own_one 1 rfl)
  refine wl_alloc hS34 zr_38 rfl rfl ?_
  intro b1 w35 hS35
  clear hS34
  refine wl_storeA hS35 rfl rfl sz_38 rfl (by first | rfl | (simp [allOne, Value.oneCell']; done) | assumption) (i := 0) rfl (by first | decide | exact Nat.le_of_ble_eq_true rfl | (simp; done) | omega) ?_
  intro w36 hS36; dsimp only [List.set] at hS36
  clear hS35
  rw [splice_all _ _ (by rfl)] at hS36
  refine wl_assign rfl rfl ?_
  refine wl_nil ?_
  refine qs_seq ?_
  refine wc_sub (L' := [(22, _), (21, _), (20, _), (19, _), (18, _), (17, _), (2, _), (3, _), (11, _), (12, _), (13, _)]) (.cons rfl (.cons rfl (.cons rfl (.cons rfl (.cons rfl (.cons rfl (.cons rfl (.cons rfl (.cons rfl (.cons rfl (.cons rfl .nil))))))))))) ?_
  refine wc_seq ?_
  refine wc_region ?_
  refine wl_move rfl rfl ?_
  refine wl_move rfl rfl ?_
  have hC37 := hS36.split [4] [false, false, false, false, true, false, false] rfl; dsimp only [selF, pickA, nthA, List.cons_append, List.nil_append] at hC37
  refine wl_call cal_36 rfl (qGetP_sp hC37 (by omega) hP.tb pid) rfl ?_
  rintro e w37 ⟨_, rfl, a2, f2, rfl, hS37⟩; refine ⟨_, rfl, ?_⟩
  replace hS37 := hS37.join rfl; dsimp only [List.dropLast, List.cons_append, List.nil_append] at hS37; clear hC37
  clear hS36
  rw [hgx] at hS37 ⊢
  refine wl_move rfl rfl ?_
  refine wl_extract rfl rfl rfl ?_
  refine wl_extract rfl rfl rfl ?_
  have hone := procV_one (x := gx) (hS37.own_one 0 rfl) (hS37.own_one 1 rfl)
  refine wl_alloc hS37 zr_38 rfl rfl ?_
  intro b2 w38 hS38
  clear hS37
  refine wl_storeA hS38 rfl rfl sz_38 rfl (by first | rfl | (simp [allOne, Value.oneCell']; done) | assumption) (i := 0) rfl (by first | decide | exact Nat.le_of_ble_eq_true rfl | (simp; done) | omega) ?_
  intro w39 hS39; dsimp only [List.set] at hS39
  clear hS38
  rw [splice_all _ _ (by rfl)] at hS39
  refine wl_assign rfl rfl ?_
  refine wl_nil ?_
  refine qs_seq ?_
  refine wc_sub (L' := [(24, _), (23, _), (22, _), (21, _), (20, _), (19, _), (18, _), (17, _), (2, _), (3, _), (11, _), (12, _), (13, _)]) (.cons rfl (.cons rfl (.cons rfl (.cons rfl (.cons rfl (.cons rfl (.cons rfl (.cons rfl (.cons rfl (.cons rfl (.cons rfl (.cons rfl (.cons rfl .nil))))))))))))) ?_
  refine wc_seq ?_
  refine wc_region ?_
  refine wl_move rfl rfl ?_
  have hC40 := hS39.split [] [false, false, false, false, false, false, false, false, false, false] rfl; dsimp only [selF, pickA, nthA, List.cons_append, List.nil_append] at hC40
  refine wl_call cal_21 rfl (readP_sp hC40 (hG.starL 9 rfl) vv (by omega)) rfl ?_
  rintro e w40 ⟨_, rfl, a3, f3, rfl, hS40⟩; refine ⟨_, rfl, ?_⟩
  replace hS40 := hS40.join rfl; dsimp only [List.dropLast, List.cons_append, List.nil_append] at hS40; clear hC40
  clear hS39
  have hg2 := decD_len vv
  generalize hdx : (decP vv).getD zeroP = dx at hS40 hg2 ⊢
  refine wl_move rfl rfl ?_
  refine wl_extract rfl rfl rfl ?_
  refine wl_extract rfl rfl rfl ?_
  have hone := procV_one (x := dx) (hS40.own_one 0 rfl) (hS40.own_one 1 rfl)
  refine wl_alloc hS40 zr_38 rfl rfl ?_
  intro b3 w41 hS41
  clear hS40
  refine wl_storeA hS41 rfl rfl sz_38 rfl (by first | rfl | (simp [allOne, Value.oneCell']; done) | assumption) (i := 0) rfl (by first | decide | exact Nat.le_of_ble_eq_true rfl | (simp; done) | omega) ?_
  intro w42 hS42; dsimp only [List.set] at hS42
  clear hS41
  rw [splice_all _ _ (by rfl)] at hS42
  refine wl_assign rfl rfl ?_
  refine wl_nil ?_
  refine qs_seq ?_
  refine wc_sub (L' := [(26, _), (25, _), (24, _), (23, _), (22, _), (21, _), (20, _), (19, _), (18, _), (17, _), (2, _), (3, _), (11, _), (12, _), (13, _)]) (.cons rfl (.cons rfl (.cons rfl (.cons rfl (.cons rfl (.cons rfl (.cons rfl (.cons rfl (.cons rfl (.cons rfl (.cons rfl (.cons rfl (.cons rfl (.cons rfl (.cons rfl .nil))))))))))))))) ?_
  refine wc_seq ?_
  refine wc_region ?_
  refine wl_move rfl rfl ?_
  have hC43 := hS42.split [] [false, false, false, false, false, false, false, false, false, false, false, false, false] rfl; dsimp only [selF, pickA, nthA, List.cons_append, List.nil_append] at hC43
  refine wl_call cal_37 rfl (qRead_sp hC43 vv (by omega)) rfl ?_
  rintro e w43 ⟨_, rfl, a4, f4, rfl, hS43⟩; refine ⟨_, rfl, ?_⟩
  replace hS43 := hS43.join rfl; dsimp only [List.dropLast, List.cons_append, List.nil_append] at hS43; clear hC43
  clear hS42
  rw [hdx] at hS43 ⊢
  refine wl_move rfl rfl ?_
  refine wl_extract rfl rfl rfl ?_
  refine wl_extract rfl rfl rfl ?_
  have hone := procV_one (x := dx) (hS43.own_one 0 rfl) (hS43.own_one 1 rfl)
  refine wl_alloc hS43 zr_38 rfl rfl ?_
  intro b4 w44 hS44
  clear hS43
  refine wl_storeA hS44 rfl rfl sz_38 rfl (by first | rfl | (simp [allOne, Value.oneCell']; done) | assumption) (i := 0) rfl (by first | decide | exact Nat.le_of_ble_eq_true rfl | (simp; done) | omega) ?_
  intro w45 hS45; dsimp only [List.set] at hS45
  clear hS44
  rw [splice_all _ _ (by rfl)] at hS45
  refine wl_assign rfl rfl ?_
  refine wl_nil ?_
  refine qs_seq ?_
  refine wc_sub (L' := [(28, _), (27, _), (26, _), (25, _), (24, _), (23, _), (22, _), (21, _), (20, _), (19, _), (18, _), (17, _), (3, _), (11, _), (12, _), (13, _)]) (.cons rfl (.cons rfl (.cons rfl (.cons rfl (.cons rfl (.cons rfl (.cons rfl (.cons rfl (.cons rfl (.cons rfl (.cons rfl (.cons rfl (.cons rfl (.cons rfl (.cons rfl (.cons rfl .nil)))))))))))))))) ?_
  refine wc_seq ?_
  refine wc_seq ?_
  refine wc_region ?_
  refine wl_move rfl rfl ?_
  refine wl_move rfl rfl ?_
  refine wl_neq rfl rfl rfl ?_
  refine wl_move rfl rfl ?_
  refine wl_splitD 182 rfl (fun h46 => ?_) (fun h46 => ?_)
  · skip
    first | exact absurd rfl h46 | (simp at h46; done)
  refine wl_guard rfl rfl (decide_eq_false h46) ?_
  refine wl_move rfl rfl ?_
  refine wl_guard rfl rfl (decide_eq_false h46) ?_
  refine wl_move rfl rfl ?_
  refine wl_guard rfl rfl (decide_eq_false h46) ?_
  refine wl_neq rfl rfl rfl ?_
  refine wl_pickF rfl (decide_eq_false h46) rfl rfl ?_
  refine wl_move rfl rfl ?_
  refine wl_splitD 187 rfl (fun h47 => ?_) (fun h47 => ?_)
  · skip
    first | exact absurd rfl h47 | (simp at h47; done)
  refine wl_guard rfl rfl (decide_eq_false h47) ?_
  refine wl_move rfl rfl ?_
  refine wl_guard rfl rfl (decide_eq_false h47) ?_
  refine wl_move rfl rfl ?_
  refine wl_guard rfl rfl (decide_eq_false h47) ?_
  refine wl_neqB Tryz.underlying4 rfl rfl rfl ?_
  refine wl_pickF rfl (decide_eq_false h47) rfl rfl ?_
  refine wl_move rfl rfl ?_
  refine wl_split 192 rfl (fun h48 => ?_) (fun h48 => ?_)
  · skip
    first | exact absurd rfl h48 | (simp at h48; done)
  refine wl_guard rfl rfl h48 ?_
  refine wl_loadA rfl ag_38 sz_38 (by first | exact hS45.blk 0 rfl | exact hS45.blk 3 rfl | exact hS45.blk 6 rfl | exact hS45.blk 10 rfl) (by first | decide | exact Nat.le_of_ble_eq_true rfl | (simp; done) | omega) rfl rfl ?_
  refine wl_guard rfl rfl h48 ?_
  refine wl_loadA rfl ag_38 sz_38 (by first | exact hS45.blk 0 rfl | exact hS45.blk 3 rfl | exact hS45.blk 6 rfl | exact hS45.blk 10 rfl) (by first | decide | exact Nat.le_of_ble_eq_true rfl | (simp; done) | omega) rfl rfl ?_
  refine wl_guard rfl rfl h48 ?_
  have hC49 := hS45.split [] [false, false, false, false, false, false, false, false, false, false, false, false, false, false, false, false] rfl; dsimp only [selF, pickA, nthA, List.cons_append, List.nil_append] at hC49
  refine wl_call cal_14 rfl (refSame_sp hC49 (Ent.starL (ent_row (by have := hg1.1; omega)) 11 rfl) (Ent.starL (ent_row (by have := hg1.2; omega)) 12 rfl) (Ent.starL (ent_row (by have := hg1.1; omega)) 7 rfl) (Ent.starL (ent_row (by have := hg1.2; omega)) 8 rfl)) rfl ?_
  rintro e w49 ⟨_, rfl, rfl, hS49⟩; refine ⟨_, rfl, ?_⟩
  replace hS49 := hS49.join rfl; dsimp only [List.dropLast, List.cons_append, List.nil_append] at hS49; clear hC49
  clear hS45
  refine wl_guard rfl rfl h48 ?_
  refine wl_not rfl rfl ?_
  refine wl_pickF rfl h48 rfl rfl ?_
  refine wl_move rfl rfl ?_
  refine wl_guard rfl rfl rfl ?_
  refine wl_move rfl rfl ?_
  refine wl_guard rfl rfl rfl ?_
  refine wl_move rfl rfl ?_
  refine wl_guard rfl rfl rfl ?_
  refine wl_neqB Tryz.underlying4 rfl rfl rfl ?_
  refine wl_pickF rfl rfl rfl rfl ?_
  refine wl_move rfl rfl ?_
  refine wl_split 203 rfl (fun h50 => ?_) (fun h50 => ?_)
  · skip
    first | exact absurd rfl h50 | (simp at h50; done)
  refine wl_guard rfl rfl h50 ?_
  refine wl_loadA rfl ag_38 sz_38 (by first | exact hS49.blk 0 rfl | exact hS49.blk 3 rfl | exact hS49.blk 6 rfl | exact hS49.blk 10 rfl) (by first | decide | exact Nat.le_of_ble_eq_true rfl | (simp; done) | omega) rfl rfl ?_
  refine wl_guard rfl rfl h50 ?_
  refine wl_loadA rfl ag_38 sz_38 (by first | exact hS49.blk 0 rfl | exact hS49.blk 3 rfl | exact hS49.blk 6 rfl | exact hS49.blk 10 rfl) (by first | decide | exact Nat.le_of_ble_eq_true rfl | (simp; done) | omega) rfl rfl ?_
  refine wl_guard rfl rfl h50 ?_
  have hC51 := hS49.split [] [false, false, false, false, false, false, false, false, false, false, false, false, false, false, false, false] rfl; dsimp only [selF, pickA, nthA, List.cons_append, List.nil_append] at hC51
  refine wl_call cal_14 rfl (refSame_sp hC51 (Ent.starL (ent_row (by have := hg2.1; omega)) 4 rfl) (Ent.starL (ent_row (by have := hg2.2; omega)) 5 rfl) (Ent.starL (ent_row (by have := hg2.1; omega)) 1 rfl) (Ent.starL (ent_row (by have := hg2.2; omega)) 2 rfl)) rfl ?_
  rintro e w51 ⟨_, rfl, rfl, hS51⟩; refine ⟨_, rfl, ?_⟩
  replace hS51 := hS51.join rfl; dsimp only [List.dropLast, List.cons_append, List.nil_append] at hS51; clear hC51
  clear hS49
  refine wl_guard rfl rfl h50 ?_
  refine wl_not rfl rfl ?_
  refine wl_pickF rfl h50 rfl rfl ?_
  refine wl_move rfl rfl ?_
  refine wl_guard rfl rfl rfl ?_
  refine wl_move rfl rfl ?_
  refine wl_guard rfl rfl rfl ?_
  have hC52 := hS51.split [] [false, false, false, false, false, false, false, false, false, false, false, false, false, false, false, false] rfl; dsimp only [selF, pickA, nthA, List.cons_append, List.nil_append] at hC52
  refine wl_call cal_24 rfl (key_sp hC52 (hG.starL 15 rfl) pid) rfl ?_
  rintro e w52 ⟨_, rfl, rfl, hS52⟩; refine ⟨_, rfl, ?_⟩
  replace hS52 := hS52.join rfl; dsimp only [List.dropLast, List.cons_append, List.nil_append] at hS52; clear hC52
  clear hS51
  refine wl_guard rfl rfl rfl ?_
  refine wl_move rfl rfl ?_
  refine wl_guard rfl rfl rfl ?_
  have hC53 := hS52.split [] [false, false, false, false, false, false, false, false, false, false, false, false, false, false, false, false] rfl; dsimp only [selF, pickA, nthA, List.cons_append, List.nil_append] at hC53
  refine wl_call cal_38 rfl (qkey_sp hC53 pid) rfl ?_
  rintro e w53 ⟨_, rfl, rfl, hS53⟩; refine ⟨_, rfl, ?_⟩
  replace hS53 := hS53.join rfl; dsimp only [List.dropLast, List.cons_append, List.nil_append] at hS53; clear hC53
  clear hS52
  refine wl_guard rfl rfl rfl ?_
  refine wl_neqS rfl rfl rfl ?_
  refine wl_pickF rfl rfl rfl rfl ?_
  refine wl_nil ?_
  refine qs_seq ?_
  refine wc_sub (L' := [(215, _), (3, _), (11, _), (12, _), (13, _)]) (.cons rfl (.cons rfl (.cons rfl (.cons rfl (.cons rfl .nil))))) ?_
  refine wc_condD rfl (fun h54 => ?_) (fun h54 => ?_)
  · skip
    first | exact absurd rfl h54 | (simp at h54; done)
  refine wc_skip ?_
  refine qs_seq ?_
  refine wc_seq ?_
  refine wc_region ?_
  refine wl_move rfl rfl ?_
  refine wl_move rfl rfl ?_
  refine wl_guard rfl rfl rfl ?_
  refine wl_move rfl rfl ?_
  refine wl_guard rfl rfl rfl ?_
  refine wl_makeIface nif_25 rfl rfl ?_
  refine wl_guard rfl rfl rfl ?_
  have hC55 := hS53.split [13] [false, false, false, false, false, false, false, false, false, false, false, false, false, true, false, false] rfl; dsimp only [selF, pickA, nthA, List.cons_append, List.nil_append] at hC55
  refine wl_call cal_15 rfl (all_sp hC55 (hG.starL 14 rfl) hP.tb (hP.keys (by omega))) rfl ?_
  rintro e w55 ⟨_, rfl, l1, hl1, hS55⟩; refine ⟨_, rfl, ?_⟩
  replace hS55 := hS55.join rfl; dsimp only [List.dropLast, List.cons_append, List.nil_append] at hS55; clear hC55
  clear hS53
  refine wl_guard rfl rfl rfl ?_
  refine wl_move rfl rfl ?_
  refine wl_guard rfl rfl rfl ?_
  have hC56 := hS55.split [11] [false, false, false, false, false, false, false, false, false, false, false, true, false, false, false, false, false] rfl; dsimp only [selF, pickA, nthA, List.cons_append, List.nil_append] at hC56
  refine wl_call cal_40 rfl (qAll_sp hC56 (by omega) hP.tb) rfl ?_
  rintro e w56 ⟨_, rfl, l2, hl2, hll2, hS56⟩; refine ⟨_, rfl, ?_⟩
  replace hS56 := hS56.join rfl; dsimp only [List.dropLast, List.cons_append, List.nil_append] at hS56; clear hC56
  clear hS55
  obtain rfl := keysOf_uniq hl1 hl2
  refine wl_guard rfl rfl rfl ?_
  have hC57 := hS56.split [] [false, false, false, false, false, false, false, false, false, false, false, false, false, false, false, false, false, false] rfl; dsimp only [selF, pickA, nthA, List.cons_append, List.nil_append] at hC57
  refine wl_call cal_39 rfl (intsEq_sp hC57 (Ent.starL (ent_row (C := inC) (by omega)) 2 rfl) (Ent.starL (ent_row (C := inC) (by omega)) 0 rfl)) rfl ?_
  rintro e w57 ⟨_, rfl, rfl, hS57⟩; refine ⟨_, rfl, ?_⟩
  replace hS57 := hS57.join rfl; dsimp only [List.dropLast, List.cons_append, List.nil_append] at hS57; clear hC57
  clear hS56
  refine wl_pickT rfl rfl rfl rfl ?_
  refine wl_move rfl rfl ?_
  refine wl_guard rfl rfl rfl ?_
  refine wl_move rfl rfl ?_
  refine wl_guard rfl rfl rfl ?_
  refine wl_makeIface nif_25 rfl rfl ?_
  refine wl_guard rfl rfl rfl ?_
  refine wl_move rfl rfl ?_
  refine wl_guard rfl rfl rfl ?_
  have hC58 := hS57.split [3] [false, false, false, true, false, false, false, false, false, false, false, false, false, false, false, false, false, false] rfl; dsimp only [selF, pickA, nthA, List.cons_append, List.nil_append] at hC58
  refine wl_call cal_19 rfl (children_sp hC58 (hG.starL 16 rfl) hP.tb (hP.keys (by omega)) pid) rfl ?_
  rintro e w58 ⟨_, rfl, l3, hl3, hS58⟩; refine ⟨_, rfl, ?_⟩
  replace hS58 := hS58.join rfl; dsimp only [List.dropLast, List.cons_append, List.nil_append] at hS58; clear hC58
  clear hS57
  refine wl_guard rfl rfl rfl ?_
  refine wl_move rfl rfl ?_
  refine wl_guard rfl rfl rfl ?_
  refine wl_move rfl rfl ?_
  refine wl_guard rfl rfl rfl ?_
  have hC59 := hS58.split [3] [false, false, false, true, false, false, false, false, false, false, false, false, false, false, false, false, false, false, false] rfl; dsimp only [selF, pickA, nthA, List.cons_append, List.nil_append] at hC59
  refine wl_call cal_41 rfl (qChildren_sp hC59 (by omega) hP.tb pid) rfl ?_
  rintro e w59 ⟨_, rfl, l4, hl4, hll4, hS59⟩; refine ⟨_, rfl, ?_⟩
  replace hS59 := hS59.join rfl; dsimp only [List.dropLast, List.cons_append, List.nil_append] at hS59; clear hC59
  clear hS58
  obtain rfl := keysOf_uniq hl3 hl4
  refine wl_guard rfl rfl rfl ?_
  have hC60 := hS59.split [] [false, false, false, false, false, false, false, false, false, false, false, false, false, false, false, false, false, false, false, false] rfl; dsimp only [selF, pickA, nthA, List.cons_append, List.nil_append] at hC60
  refine wl_call cal_39 rfl (intsEq_sp hC60 (Ent.starL (ent_row (C := inC) (by omega)) 2 rfl) (Ent.starL (ent_row (C := inC) (by omega)) 0 rfl)) rfl ?_
  rintro e w60 ⟨_, rfl, rfl, hS60⟩; refine ⟨_, rfl, ?_⟩
  replace hS60 := hS60.join rfl; dsimp only [List.dropLast, List.cons_append, List.nil_append] at hS60; clear hC60
  clear hS59
  refine wl_pickT rfl rfl rfl rfl ?_
  refine wl_move rfl rfl ?_
  refine wl_guard rfl rfl rfl ?_
  refine wl_move rfl rfl ?_
  refine wl_guard rfl rfl rfl ?_
  refine wl_makeIface nif_25 rfl rfl ?_
  refine wl_guard rfl rfl rfl ?_
  refine wl_move rfl rfl ?_
  refine wl_guard rfl rfl rfl ?_
  have hC61 := hS60.split [3] [false, false, false, true, false, false, false, false, false, false, false, false, false, false, false, false, false, false, false, false] rfl; dsimp only [selF, pickA, nthA, List.cons_append, List.nil_append] at hC61
  refine wl_call cal_42 rfl (group_sp hC61 (hG.starL 18 rfl) hP.tb (hP.keys (by omega)) pid) rfl ?_
  rintro e w61 ⟨_, rfl, l5, hl5, hS61⟩; refine ⟨_, rfl, ?_⟩
  replace hS61 := hS61.join rfl; dsimp only [List.dropLast, List.cons_append, List.nil_append] at hS61; clear hC61
  clear hS60
  refine wl_guard rfl rfl rfl ?_
  refine wl_move rfl rfl ?_
  refine wl_guard rfl rfl rfl ?_
  refine wl_move rfl rfl ?_
  refine wl_guard rfl rfl rfl ?_
  have hC62 := hS61.split [3] [false, false, false, true, false, false, false, false, false, false, false, false, false, false, false, false, false, false, false, false, false] rfl; dsimp only [selF, pickA, nthA, List.cons_append, List.nil_append] at hC62
  refine wl_call cal_43 rfl (qGroup_sp hC62 (by omega) hP.tb pid) rfl ?_
  rintro e w62 ⟨_, rfl, l6, hl6, hll6, hS62⟩; refine ⟨_, rfl, ?_⟩
  replace hS62 := hS62.join rfl; dsimp only [List.dropLast, List.cons_append, List.nil_append] at hS62; clear hC62
  clear hS61
  obtain rfl := keysOf_uniq hl5 hl6
  refine wl_guard rfl rfl rfl ?_
  have hC63 := hS62.split [] [false, false, false, false, false, false, false, false, false, false, false, false, false, false, false, false, false, false, false, false, false, false] rfl; dsimp only [selF, pickA, nthA, List.cons_append, List.nil_append] at hC63
  refine wl_call cal_39 rfl (intsEq_sp hC63 (Ent.starL (ent_row (C := inC) (by omega)) 2 rfl) (Ent.starL (ent_row (C := inC) (by omega)) 0 rfl)) rfl ?_
  rintro e w63 ⟨_, rfl, rfl, hS63⟩; refine ⟨_, rfl, ?_⟩
  replace hS63 := hS63.join rfl; dsimp only [List.dropLast, List.cons_append, List.nil_append] at hS63; clear hC63
  clear hS62
  refine wl_pickT rfl rfl rfl rfl ?_
  refine wl_assign rfl rfl ?_
  refine wl_nil ?_
  refine qs_seq ?_
  refine wc_sub (L' := [(10, _)]) (.cons rfl .nil) ?_
  refine wc_ret ?_
  refine fin1 (.inr rfl) rfl rfl ?_
  exact ⟨_, rfl, by first | rfl | (simp; done), hS63.pick [21] rfl⟩
end Go.Proofs.YtcbdclhoekokpaaGreatDoor
