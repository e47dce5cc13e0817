/- the reference of layer 3: Crash -/
import Derived.Test.YtfmkodmmbgibgaaGreatDoorRa
import Derived.Test.YtfmkodmmbgibgaaGreatDoorDf
namespace Go.Proofs.YtfmkodmmbgibgaaGreatDoor
open Go.RowKit M
set_option linter.unusedVariables false
theorem upto_skip {keep : List Int} {Q : List (Int × Int)} {F : Int → Bytes × Bytes} {i : Nat} {p : Int × Int} (hp : Q[i]? = some p) (h : ¬ (keep ≠ [] ∧ (keep.getD (i % keep.length) 0) % 2 = 1)) : upto keep Q F (i + 1) = upto keep Q F i := by rw [upto_step hp, if_neg h]
theorem upto_take {keep : List Int} {Q : List (Int × Int)} {F : Int → Bytes × Bytes} {i : Nat} {p : Int × Int} (hp : Q[i]? = some p) (hk : keep ≠ []) (h : (keep.getD (i % keep.length) 0) % 2 = 1) : upto keep Q F (i + 1) = survive (upto keep Q F i) p := by rw [upto_step hp, if_pos ⟨hk, h⟩]
theorem survives_nil : ∀ (Q : List (Int × Int)) (k : Nat) (F : Int → Bytes × Bytes), survives [] k Q F = F
  | [], _, _ => rfl
  | p :: Q, k, F => by rw [survives, if_neg (by simp), survives_nil Q]
theorem upto_end {keep : List Int} {Q : List (Int × Int)} {F : Int → Bytes × Bytes} {i : Nat} (h : i = Q.length ∨ keep = []) : upto keep Q F i = survives keep 0 Q F := by
  rcases h with h | h
  · rw [upto, h, List.take_length]
  · subst h; rw [upto, survives_nil, survives_nil]
def lastR (x : Int × Bytes × Bytes) : Int × Bytes × Bytes := (x.1, x.2.2, x.2.2)
theorem getR_last (l : List (Int × Bytes × Bytes)) (k : Int) : getR (l.map lastR) k = ((getR l k).2, (getR l k).2) := by
  induction l with
  | nil => rfl
  | cons x l ih =>
    simp only [List.map_cons, getR, lastR]
    split
    · rfl
    · exact ih
theorem RInv.last {l : List (Int × Bytes × Bytes)} {D D' : DS} (h : RInv l D) (hF : D'.F = fun k => ((D.F k).2, (D.F k).2)) (hi : DInv D') : RInv (l.map lastR) D' := by
  refine ⟨hi, fun k => by rw [getR_last, h.says, hF], fun x hx => ?_, ?_⟩
  · obtain ⟨y, hy, rfl⟩ := List.mem_map.1 hx; exact h.num y hy
  · rw [List.map_map]; exact h.nodup
theorem last_snoc {l : List (Int × Bytes × Bytes)} {i : Nat} {x : Int × Bytes × Bytes} (hx : l[i]? = some x) : (l.take (i + 1)).map lastR = (l.take i).map lastR ++ [lastR x] := by
  rw [List.take_add_one, hx, List.map_append]; rfl
theorem crash_begin {w : World} {p : Nat} {kp fv qv : Value} {D : DS} {l : List (Int × Bytes × Bytes)} {F : Th} {ks : List Int} (hI : RInv l D) (h : Sat w [blkT p [fv, qv, intV D.lost, .bool true, intV 0, kp], rowT rfC fv l, rowT scC qv D.Q, F]) : Sat w [refT p kp { D with down := true, armed := 0, F := upto ks D.Q D.F 0 }, F] :=
  refT_shut ⟨fv, qv, l⟩ ⟨{ hI.inv with armed := by simp }, hI.says, hI.num, hI.nodup⟩ h
theorem crash_endR {w : World} {p i : Nat} {kp v fv qv : Value} {D DX : DS} {l l0 : List (Int × Bytes × Bytes)} {F : Th} {ks : List Int} (h0 : RInv l0 D) (hd : D.down = false) (hI : RInv l DX) (hF : ∀ k, DX.F k = survives ks 0 D.Q D.F k) (hlost : DX.lost = D.lost) (hdown : DX.down = true) (harm : DX.armed = 0) (hi : i = l.length)
    (h : Sat w [rowT rfC v ((l.take i).map lastR), blkT p [v, .slice none 0 0, intV DX.lost, .bool DX.down, intV DX.armed, kp], rowT rfC fv l, rowT scC qv D.Q, F]) : Sat w [refT p kp (crashD D ks), F] := by
  subst hi
  rw [List.take_length, hlost, hdown, harm] at h
  have e : crashD D ks = { D with down := true, armed := 0, F := fun k => ((DX.F k).2, (DX.F k).2), Q := [] } := by
    simp only [crashD, hd, hF]; rfl
  rw [e]
  have hI2 : RInv (l.map lastR) { D with down := true, armed := 0, F := fun k => ((DX.F k).2, (DX.F k).2), Q := [] } := by
    refine hI.last rfl { h0.inv with now := fun k => hI.inv.last k, last := fun k => hI.inv.last k, armed := by simp, nodup := by simp, secs := by simp }
  exact refT_shut ⟨v, .slice none 0 0, l.map lastR⟩ hI2 (((h.pick [1, 0, 4] rfl).row_nil scC).pick [1, 2, 0, 3] rfl)
set_option maxRecDepth 100000 in
theorem crashR_sp {w : World} {p : Nat} {kp : Value} {D : DS} {F : Th} (hS : Sat w [refT p kp D, F]) {kv : Value} {ks : List Int} (hK : Ent F (RdL inC kv ks)) :
    Calls Tryz.prog 92 #[ptrV p 0, kv] w (Ret fun v w' => v = .tuple #[] ∧ Sat w' [refT p kp (crashD D ks), F]) := by
 obtain ⟨ao, capk, rfl, hkmax⟩ := (hK.sat hS 1 rfl).shape
 obtain ⟨⟨fv, qv, l⟩, hI, hS⟩ := refT_open hS; dsimp only at hI hS
 have hI0 := hI
 have hcntq := sec_count hI.inv.secs hI.inv.nodup
 refine calls_enter Tryz.func92 rfl Tryz.ntmps92 rfl ?_
 refine wc_seq (wc_seq (wc_region (wl_move rfl rfl (wl_nilCheck rfl rfl ?_))))
 refine wl_fieldAddr rfl fo_92_3 rfl ?_
 refine wl_load rfl ag_4 (by first | assumption | exact hS.cell 0 rfl rfl) rfl ?_
 refine wl_nil (qs_seq ?_)
 refine wc_cond rfl (fun h1 => ?_) (fun h1 => ?_)
 ·have hd : D.down = true := h1
  refine wc_ret (qs_then_ret ?_)
  refine fin0 (.inr rfl) rfl ?_
  exact ⟨_, rfl, rfl, by rw [crashD, if_pos hd]; exact refT_shut ⟨fv, qv, l⟩ hI hS⟩
 have hd : D.down = false := h1
 refine wc_skip (qs_seq (wc_seq (wc_region (wl_move rfl rfl (wl_nilCheck rfl rfl ?_)))))
 refine wl_fieldAddr rfl fo_92_3 rfl ?_
 first | (refine wl_store hS rfl rfl sz_4 (by first | rfl | assumption | exact hS.own_one 1 rfl | exact hS.own_one 2 rfl) (i := 0) rfl (by first | decide | exact Nat.le_of_ble_eq_true rfl | (simp; done) | omega) ?_)
 intro w2 hS3; dsimp only [List.set] at hS3
 refine wl_nil (qs_seq (wc_seq (wc_region (wl_move rfl rfl (wl_nilCheck rfl rfl ?_)))))
 refine wl_fieldAddr rfl fo_92_4 rfl ?_
 first | (refine wl_store hS3 rfl rfl sz_3 (by first | rfl | assumption | exact hS3.own_one 1 rfl | exact hS3.own_one 2 rfl) (i := 0) rfl (by first | decide | exact Nat.le_of_ble_eq_true rfl | (simp; done) | omega) ?_)
 intro w4 hS5; dsimp only [List.set] at hS5
 clear hS3
 refine wl_nil (qs_seq ?_)
 refine wc_sub (L' := [(0, _), (1, _)]) (.cons rfl (.cons rfl .nil)) ?_
 refine wc_seq (wc_seq (wc_region (wl_assign rfl rfl (wl_nil (qs_seq (wc_block ?_))))))
 refine wc_loop (fun K0 E0 W0 => ∃ (i : Nat), K0 = D.Q.length - i ∧ E0 = [(0, ptrV p 0), (1, .slice ao ks.length capk), (4, intV (i : Int))] ∧ Sat W0 [refT p kp { D with down := true, armed := 0, F := upto ks D.Q D.F i }, F] ∧ (i ≤ D.Q.length)) (L0 := [(0, _), (1, _), (4, _)]) (D.Q.length) (.cons rfl (.cons rfl (.cons rfl .nil))) ⟨0, by omega, rfl, crash_begin hI hS5, by omega⟩ ?_
 rintro _ _ w6 ⟨i, rfl, rfl, hS6, hi⟩
 refine wc_seq (wc_seq ?_)
 obtain ⟨⟨fv, qv, l⟩, hI, hS6⟩ := refT_open (hS6.pull 0 rfl); dsimp only [List.eraseIdx] at hI hS6
 refine wc_region (wl_move rfl rfl (wl_move rfl rfl (wl_nilCheck rfl rfl ?_)))
 refine wl_fieldAddr rfl fo_92_1 rfl ?_
 refine wl_load rfl ag_90 (by first | assumption | exact hS6.cell 0 rfl rfl) rfl ?_
 first | refine wl_lenL Tryz.underlying90 rfl rfl ?_ | refine wl_lenO 1 hS6 Tryz.underlying90 rfl rfl rfl ?_ | refine wl_lenO 2 hS6 Tryz.underlying90 rfl rfl rfl ?_
 refine wl_lss rfl rfl rfl ?_
 refine wl_move rfl rfl ?_
 refine wl_splitD 24 rfl (fun h7 => ?_) (fun h7 => ?_)
 ·refine wl_guard rfl rfl (decide_eq_true h7) ?_
  refine wl_move rfl rfl ?_
  refine wl_guard rfl rfl (decide_eq_true h7) ?_
  first | refine wl_lenL Tryz.underlying40 rfl rfl ?_ | refine wl_lenO 1 hS6 Tryz.underlying40 rfl rfl rfl ?_ | refine wl_lenO 2 hS6 Tryz.underlying40 rfl rfl rfl ?_
  refine wl_guard rfl rfl (decide_eq_true h7) ?_
  refine wl_gtr rfl rfl rfl ?_
  refine wl_pickT rfl (decide_eq_true h7) rfl rfl ?_
  refine wl_nil (qs_seq ?_)
  refine wc_sub (L' := [(28, _), (0, _), (1, _), (4, _)]) (.cons rfl (.cons rfl (.cons rfl (.cons rfl .nil)))) ?_
  refine wc_condD rfl (fun h8 => ?_) (fun h8 => ?_)
  ·obtain ⟨⟨q1, q2⟩, hq⟩ : ∃ q, D.Q[i]? = some q := ⟨_, List.getElem?_eq_getElem (by omega)⟩
   have hsec := hI.inv.secs _ (List.mem_of_getElem? hq)
   have hkl : 0 < ks.length := by omega
   have hkn : ks ≠ [] := by intro e; simp [e] at hkl
   obtain ⟨x, hx⟩ : ∃ x, ks[i % ks.length]? = some x := ⟨_, List.getElem?_eq_getElem (Nat.mod_lt _ hkl)⟩
   have hkx : ks.getD (i % ks.length) 0 = x := by simp [List.getD_eq_getElem?_getD, hx]
   obtain ⟨bk, ok, rfl, hc⟩ := (hK.sat hS6 3 rfl).get hx
   have hcell : _ = some (intV x) := hc 0 _ rfl
   refine wc_skip (qs_seq (wc_seq (wc_block (wc_seq (wc_region (wl_move rfl rfl (wl_move rfl rfl (wl_move rfl rfl ?_))))))))
   first | refine wl_lenL Tryz.underlying40 rfl rfl ?_ | refine wl_lenO 1 hS6 Tryz.underlying40 rfl rfl rfl ?_ | refine wl_lenO 2 hS6 Tryz.underlying40 rfl rfl rfl ?_
   refine wl_rem rfl rfl (by omega) (by omega) rfl ?_
   refine wl_indexAddr (i % ks.length) rfl rfl (by first | rfl | omega) (by exact Nat.mod_lt _ hkl) es_40 rfl ?_
   refine wl_load rfl ag_3 (by first | assumption | exact hS6.cell 0 rfl rfl) rfl ?_
   refine wl_mask 1 rfl rfl rfl rfl (q := 2) rfl rfl ?_
   refine wl_eql rfl rfl rfl ?_
   refine wl_nil (qs_seq ?_)
   refine wc_sub (L' := [(39, _), (0, _), (1, _), (4, _)]) (.cons rfl (.cons rfl (.cons rfl (.cons rfl .nil)))) ?_
   refine wc_condD rfl (fun h9 => ?_) (fun h9 => ?_)
   ·refine wc_region (wl_move rfl rfl (wl_move rfl rfl (wl_nilCheck rfl rfl ?_)))
    refine wl_fieldAddr rfl fo_92_1 rfl ?_
    refine wl_load rfl ag_90 (by first | assumption | exact hS6.cell 0 rfl rfl) rfl ?_
    refine wl_move rfl rfl ?_
    refine wl_rowIdx scC 2 i hS6 rfl rfl rfl (by first | rfl | omega) hq es_90 rfl ?_
    intro bx10 capx10 hvx10
    refine wl_rowLoadA 2 i hS6 rfl hvx10 rfl hq ag_132 sz_132 rfl rfl ?_
    have hS6' := refT_shut (D := { D with down := true, armed := 0, F := upto ks D.Q D.F i }) ⟨fv, qv, l⟩   hI hS6; replace hS6 := hS6'; clear hS6'
    have hC11 := hS6.split [0] [true, false] rfl; dsimp only [selF, pickA, nthA, List.cons_append, List.nil_append] at hC11
    refine wl_call cal_118 rfl (survR_sp hC11 q1 q2 hsec.1 hsec.2) rfl ?_
    rintro e w11 ⟨_, rfl, rfl, hS11⟩; refine ⟨_, rfl, ?_⟩
    replace hS11 := hS11.join rfl; dsimp only [List.dropLast, List.cons_append, List.nil_append] at hS11; clear hC11
    clear hS6
    refine wl_nil (qs_block_normal (qs_seq ?_))
    refine wc_sub (L' := [(0, _), (1, _), (4, _)]) (.cons rfl (.cons rfl (.cons rfl .nil))) ?_
    refine wc_region (wl_move rfl rfl ?_)
    refine wl_add rfl rfl (by omega) (by omega) rfl ?_
    refine wl_assign rfl rfl (wl_nil ?_)
    exact qs_round (L1 := [(0, _), (1, _), (4, intV ((i + 1 : Nat) : Int))]) (.cons rfl (.cons rfl (.cons rfl .nil))) (k1 := D.Q.length - (i + 1)) (by omega) ⟨i + 1, by omega, rfl, by rw [upto_take hq hkn (by rw [hkx]; omega)]; exact hS11, by omega⟩
   refine wc_skip (qs_block_normal (qs_seq (wc_region (wl_move rfl rfl ?_))))
   refine wl_add rfl rfl (by omega) (by omega) rfl ?_
   refine wl_assign rfl rfl (wl_nil ?_)
   exact qs_round (L1 := [(0, _), (1, _), (4, intV ((i + 1 : Nat) : Int))]) (.cons rfl (.cons rfl (.cons rfl .nil))) (k1 := D.Q.length - (i + 1)) (by omega) ⟨i + 1, by omega, rfl, by rw [upto_skip hq (by rw [hkx]; omega)]; exact refT_shut (D := { D with down := true, armed := 0, F := upto ks D.Q D.F i }) ⟨fv, qv, l⟩ hI hS6, by omega⟩
  refine wc_exit (qs_then_exit (qs_then_exit (qs_block_exit (qs_seq (wc_seq ?_)))))
  have hcnt := hI.count
  have hue : upto ks D.Q D.F i = survives ks 0 D.Q D.F := upto_end (.inr (List.length_eq_zero_iff.1 (by omega)))
  obtain ⟨DX, hDX⟩ : ∃ X : DS, X = { D with down := true, armed := 0, F := upto ks D.Q D.F i } := ⟨_, rfl⟩
  rw [← hDX] at hI
  change Sat _ [blkT p (cellsR ⟨fv, qv, l⟩ kp { D with down := true, armed := 0, F := upto ks D.Q D.F i }), _, _, _] at hS6; rw [← hDX] at hS6
  have hF : ∀ k, DX.F k = survives ks 0 D.Q D.F k := fun k => by rw [hDX, ← hue]
  refine wc_region (wl_assign rfl rfl (wl_nil (qs_seq (wc_seq (wc_seq (wc_region (wl_assign rfl rfl (wl_nil (qs_seq (wc_block ?_))))))))))
  refine wc_loop (fun K0 E0 W0 => ∃ (i : Nat) (v : Value), K0 = l.length - i ∧ E0 = [(0, ptrV p 0), (5, v), (6, intV (i : Int))] ∧ Sat W0 [rowT rfC v ((l.take i).map lastR), blkT p (cellsR ⟨fv, qv, l⟩ kp DX), rowT rfC fv l, rowT scC qv D.Q, F] ∧ (i ≤ l.length)) (L0 := [(0, _), (5, _), (6, _)]) (l.length) (.cons rfl (.cons rfl (.cons rfl .nil))) ⟨0, _, by omega, rfl, hS6.row_nil rfC, by omega⟩ ?_
  rintro _ _ w12 ⟨i, v, rfl, rfl, hS12, hi⟩
  refine wc_seq (wc_seq (wc_region (wl_move rfl rfl (wl_move rfl rfl (wl_nilCheck rfl rfl ?_)))))
  refine wl_fieldAddr rfl fo_92_0 rfl ?_
  refine wl_load rfl ag_89 (by first | assumption | exact hS12.cell 1 rfl rfl) rfl ?_
  first | refine wl_lenL Tryz.underlying89 rfl rfl ?_ | refine wl_lenO 0 hS12 Tryz.underlying89 rfl rfl rfl ?_ | refine wl_lenO 2 hS12 Tryz.underlying89 rfl rfl rfl ?_ | refine wl_lenO 3 hS12 Tryz.underlying89 rfl rfl rfl ?_
  refine wl_lss rfl rfl rfl ?_
  refine wl_nil (qs_seq ?_)
  refine wc_condD rfl (fun h13 => ?_) (fun h13 => ?_)
  ·obtain ⟨x, hx⟩ : ∃ x, l[i]? = some x := ⟨_, List.getElem?_eq_getElem (by omega)⟩
   obtain ⟨bf, cf, hfv, _⟩ := hS12.own_at 2 rfl (by omega)
   subst hfv
   refine wc_skip (qs_seq (wc_seq (wc_block ?_)))
   have hS14 := hS12.drew
   refine wc_draw [0, 1, 2, 3, 4, 5, 6, 7, 8, 9, 10, 11, 12, 13, 14, 15, 16, 17, 18, 19, 20, 21, 22, 23, 24, 25, 26, 27, 28] [26, 27] mix (by kernel_rfl) ?_
   refine vc_p rfl rfl rfl (fun _ => (ev_move rfl)) ?_
   refine vc_p rfl rfl rfl (fun _ => (ev_move rfl)) ?_
   refine vc_p rfl rfl rfl (fun _ => (ev_nilCheck rfl)) ?_
   refine vc_p rfl rfl rfl (fun _ => (ev_fieldAddr rfl fo_92_0)) ?_
   refine vc_q rfl rfl rfl (ev_load rfl ag_89 (by first | assumption | exact hS14.cell 1 rfl rfl)) ?_
   refine vc_p rfl rfl rfl (fun _ => (ev_move rfl)) ?_
   refine vc_p rfl rfl rfl (fun _ => (ev_indexAddr i rfl rfl (by first | rfl | omega) (by first | omega | exact (List.getElem?_eq_some_iff.1 hx).1) es_89)) ?_
   refine vc_p rfl rfl rfl (fun _ => (ev_fieldAddr rfl fo_97_0)) ?_
   refine vc_q rfl rfl rfl (ev_rowLoad0 rfC 2 i 0 hS14 rfl hx ag_3 rfl rfl) ?_
   refine vc_p rfl rfl rfl (fun _ => (ev_move rfl)) ?_
   refine vc_p rfl rfl rfl (fun _ => (ev_nilCheck rfl)) ?_
   refine vc_p rfl rfl rfl (fun _ => (ev_fieldAddr rfl fo_92_0)) ?_
   refine vc_q rfl rfl rfl (ev_load rfl ag_89 (by first | assumption | exact hS14.cell 1 rfl rfl)) ?_
   refine vc_p rfl rfl rfl (fun _ => (ev_move rfl)) ?_
   refine vc_p rfl rfl rfl (fun _ => (ev_indexAddr i rfl rfl (by first | rfl | omega) (by first | omega | exact (List.getElem?_eq_some_iff.1 hx).1) es_89)) ?_
   refine vc_p rfl rfl rfl (fun _ => (ev_fieldAddr rfl fo_97_2)) ?_
   refine vc_q rfl rfl rfl (ev_rowLoad0 rfC 2 i 2 hS14 rfl hx ag_9 rfl rfl) ?_
   refine vc_p rfl rfl rfl (fun _ => (ev_move rfl)) ?_
   refine vc_p rfl rfl rfl (fun _ => (ev_nilCheck rfl)) ?_
   refine vc_p rfl rfl rfl (fun _ => (ev_fieldAddr rfl fo_92_0)) ?_
   refine vc_q rfl rfl rfl (ev_load rfl ag_89 (by first | assumption | exact hS14.cell 1 rfl rfl)) ?_
   refine vc_p rfl rfl rfl (fun _ => (ev_move rfl)) ?_
   refine vc_p rfl rfl rfl (fun _ => (ev_indexAddr i rfl rfl (by first | rfl | omega) (by first | omega | exact (List.getElem?_eq_some_iff.1 hx).1) es_89)) ?_
   refine vc_p rfl rfl rfl (fun _ => (ev_fieldAddr rfl fo_97_2)) ?_
   refine vc_q rfl rfl rfl (ev_rowLoad0 rfC 2 i 2 hS14 rfl hx ag_9 rfl rfl) ?_
   refine vc_p rfl rfl rfl (fun _ => (ev_buildS rfl pl_97_0_1_2 asz_97 zr_97 rfl)) ?_
   refine vc_s rfl rfl rfl rfl rfl rfl ?_
   refine wl_rowBuild rfC [lastR x] hS14 rfl Tryz.underlying89 ifz_97 rfl rfl rfl rfl (by first | rfl | simp [RowC.cells, fillL, splice]) rfl ?_
   intro b15 w15 hS15
   clear hS14
   refine vc_e (.skip (by kernel_rfl) (.skip (by kernel_rfl) (.skip (by kernel_rfl) (.skip (by kernel_rfl) (.skip (by kernel_rfl) (.skip (by kernel_rfl) .nil)))))) ?_
   refine vc_s rfl rfl rfl rfl rfl rfl ?_
   refine wl_rowApp rfC 1 hS15 rfl rfl rfl (hS15.rd 0 rfl (by simp)) Tryz.underlying89 Tryz.underlying89 (by intro k hk; cases hk) ifo_97 rfl (by have := hcnt; simp only [List.length_map, List.length_take, List.length_cons, List.length_nil]; omega) rfl (by have := hcnt; simp only [List.length_map, List.length_take, List.length_cons, List.length_nil]; omega) ?_
   intro v16 w16 hS16; dsimp only [List.set] at hS16
   clear hS15
   have h1v16 : v16.oneCell' = true := hS16.own_one 1 rfl
   refine vc_e (.skip (by kernel_rfl) (.skip (by kernel_rfl) (.skip (by kernel_rfl) (.skip (by kernel_rfl) (.skip (by kernel_rfl) (.skip (by kernel_rfl) .nil)))))) ?_
   refine vc_p rfl rfl rfl (fun _ => (ev_assign rfl)) ?_
   refine VC.nil (qs_block_normal (qs_seq ?_))
   refine wc_sub (L' := [(5, _), (0, _), (6, _)]) (.cons rfl (.cons rfl (.cons rfl .nil))) ?_
   refine wc_region (wl_move rfl rfl ?_)
   refine wl_add rfl rfl (by omega) (by omega) rfl ?_
   refine wl_assign rfl rfl (wl_nil ?_)
   exact qs_round (L1 := [(0, _), (5, _), (6, intV ((i + 1 : Nat) : Int))]) (.cons rfl (.cons rfl (.cons rfl .nil))) (k1 := l.length - (i + 1)) (by omega) ⟨i + 1, _, by omega, rfl, by rw [last_snoc hx]; exact hS16.tail, by omega⟩
  refine wc_exit (qs_then_exit (qs_then_exit (qs_block_exit (qs_seq (wc_seq (wc_region (wl_move rfl rfl (wl_move rfl rfl (wl_nilCheck rfl rfl ?_)))))))))
  refine wl_fieldAddr rfl fo_92_0 rfl ?_
  first | (refine wl_store hS12 rfl rfl sz_89 (by first | rfl | assumption | exact hS12.own_one 0 rfl | exact hS12.own_one 2 rfl | exact hS12.own_one 3 rfl) (i := 1) rfl (by first | decide | exact Nat.le_of_ble_eq_true rfl | (simp; done) | omega) ?_)
  intro w17 hS18; dsimp only [List.set] at hS18
  clear hS12
  refine wl_nil (qs_seq ?_)
  refine wc_sub (L' := [(0, _)]) (.cons rfl .nil) ?_
  refine wc_region (wl_move rfl rfl (wl_nilCheck rfl rfl ?_))
  refine wl_fieldAddr rfl fo_92_1 rfl ?_
  first | (refine wl_store hS18 rfl rfl sz_90 (by first | rfl | assumption | exact hS18.own_one 0 rfl | exact hS18.own_one 2 rfl | exact hS18.own_one 3 rfl) (i := 1) rfl (by first | decide | exact Nat.le_of_ble_eq_true rfl | (simp; done) | omega) ?_)
  intro w19 hS20; dsimp only [List.set] at hS20
  clear hS18
  refine wl_nil ?_
  refine fin0 (.inl rfl) rfl ?_
  exact ⟨_, rfl, rfl, crash_endR hI0 hd hI hF (by rw [hDX]) (by rw [hDX]) (by rw [hDX]) (by omega) hS20⟩
 refine wl_unwanted rfl rfl (decide_eq_false h7) rfl ?_
 refine wl_unwanted rfl rfl (decide_eq_false h7) rfl ?_
 refine wl_unwanted rfl rfl (decide_eq_false h7) rfl ?_
 refine wl_pickF rfl (decide_eq_false h7) rfl rfl ?_
 refine wl_nil (qs_seq ?_)
 refine wc_sub (L' := [(28, _), (0, _), (1, _), (4, _)]) (.cons rfl (.cons rfl (.cons rfl (.cons rfl .nil)))) ?_
 refine wc_condF rfl ?_
 refine wc_exit (qs_then_exit (qs_then_exit (qs_block_exit (qs_seq (wc_seq ?_)))))
 have hcnt := hI.count
 have hue : upto ks D.Q D.F i = survives ks 0 D.Q D.F := upto_end (.inl (by omega))
 obtain ⟨DX, hDX⟩ : ∃ X : DS, X = { D with down := true, armed := 0, F := upto ks D.Q D.F i } := ⟨_, rfl⟩
 rw [← hDX] at hI
 change Sat _ [blkT p (cellsR ⟨fv, qv, l⟩ kp { D with down := true, armed := 0, F := upto ks D.Q D.F i }), _, _, _] at hS6; rw [← hDX] at hS6
 have hF : ∀ k, DX.F k = survives ks 0 D.Q D.F k := fun k => by rw [hDX, ← hue]
 refine wc_region (wl_assign rfl rfl (wl_nil (qs_seq (wc_seq (wc_seq (wc_region (wl_assign rfl rfl (wl_nil (qs_seq (wc_block ?_))))))))))
 refine wc_loop (fun K0 E0 W0 => ∃ (i : Nat) (v : Value), K0 = l.length - i ∧ E0 = [(0, ptrV p 0), (5, v), (6, intV (i : Int))] ∧ Sat W0 [rowT rfC v ((l.take i).map lastR), blkT p (cellsR ⟨fv, qv, l⟩ kp DX), rowT rfC fv l, rowT scC qv D.Q, F] ∧ (i ≤ l.length)) (L0 := [(0, _), (5, _), (6, _)]) (l.length) (.cons rfl (.cons rfl (.cons rfl .nil))) ⟨0, _, by omega, rfl, hS6.row_nil rfC, by omega⟩ ?_
 rintro _ _ w21 ⟨i, v, rfl, rfl, hS21, hi⟩
 refine wc_seq (wc_seq (wc_region (wl_move rfl rfl (wl_move rfl rfl (wl_nilCheck rfl rfl ?_)))))
 refine wl_fieldAddr rfl fo_92_0 rfl ?_
 refine wl_load rfl ag_89 (by first | assumption | exact hS21.cell 1 rfl rfl) rfl ?_
 first | refine wl_lenL Tryz.underlying89 rfl rfl ?_ | refine wl_lenO 0 hS21 Tryz.underlying89 rfl rfl rfl ?_ | refine wl_lenO 2 hS21 Tryz.underlying89 rfl rfl rfl ?_ | refine wl_lenO 3 hS21 Tryz.underlying89 rfl rfl rfl ?_
 refine wl_lss rfl rfl rfl ?_
 refine wl_nil (qs_seq ?_)
 refine wc_condD rfl (fun h22 => ?_) (fun h22 => ?_)
 ·obtain ⟨x, hx⟩ : ∃ x, l[i]? = some x := ⟨_, List.getElem?_eq_getElem (by omega)⟩
  obtain ⟨bf, cf, hfv, _⟩ := hS21.own_at 2 rfl (by omega)
  subst hfv
  refine wc_skip (qs_seq (wc_seq (wc_block ?_)))
  have hS23 := hS21.drew
  refine wc_draw [0, 1, 2, 3, 4, 5, 6, 7, 8, 9, 10, 11, 12, 13, 14, 15, 16, 17, 18, 19, 20, 21, 22, 23, 24, 25, 26, 27, 28] [26, 27] mix (by kernel_rfl) ?_
  refine vc_p rfl rfl rfl (fun _ => (ev_move rfl)) ?_
  refine vc_p rfl rfl rfl (fun _ => (ev_move rfl)) ?_
  refine vc_p rfl rfl rfl (fun _ => (ev_nilCheck rfl)) ?_
  refine vc_p rfl rfl rfl (fun _ => (ev_fieldAddr rfl fo_92_0)) ?_
  refine vc_q rfl rfl rfl (ev_load rfl ag_89 (by first | assumption | exact hS23.cell 1 rfl rfl)) ?_
  refine vc_p rfl rfl rfl (fun _ => (ev_move rfl)) ?_
  refine vc_p rfl rfl rfl (fun _ => (ev_indexAddr i rfl rfl (by first | rfl | omega) (by first | omega | exact (List.getElem?_eq_some_iff.1 hx).1) es_89)) ?_
  refine vc_p rfl rfl rfl (fun _ => (ev_fieldAddr rfl fo_97_0)) ?_
  refine vc_q rfl rfl rfl (ev_rowLoad0 rfC 2 i 0 hS23 rfl hx ag_3 rfl rfl) ?_
  refine vc_p rfl rfl rfl (fun _ => (ev_move rfl)) ?_
  refine vc_p rfl rfl rfl (fun _ => (ev_nilCheck rfl)) ?_
  refine vc_p rfl rfl rfl (fun _ => (ev_fieldAddr rfl fo_92_0)) ?_
  refine vc_q rfl rfl rfl (ev_load rfl ag_89 (by first | assumption | exact hS23.cell 1 rfl rfl)) ?_
  refine vc_p rfl rfl rfl (fun _ => (ev_move rfl)) ?_
  refine vc_p rfl rfl rfl (fun _ => (ev_indexAddr i rfl rfl (by first | rfl | omega) (by first | omega | exact (List.getElem?_eq_some_iff.1 hx).1) es_89)) ?_
  refine vc_p rfl rfl rfl (fun _ => (ev_fieldAddr rfl fo_97_2)) ?_
  refine vc_q rfl rfl rfl (ev_rowLoad0 rfC 2 i 2 hS23 rfl hx ag_9 rfl rfl) ?_
  refine vc_p rfl rfl rfl (fun _ => (ev_move rfl)) ?_
  refine vc_p rfl rfl rfl (fun _ => (ev_nilCheck rfl)) ?_
  refine vc_p rfl rfl rfl (fun _ => (ev_fieldAddr rfl fo_92_0)) ?_
  refine vc_q rfl rfl rfl (ev_load rfl ag_89 (by first | assumption | exact hS23.cell 1 rfl rfl)) ?_
  refine vc_p rfl rfl rfl (fun _ => (ev_move rfl)) ?_
  refine vc_p rfl rfl rfl (fun _ => (ev_indexAddr i rfl rfl (by first | rfl | omega) (by first | omega | exact (List.getElem?_eq_some_iff.1 hx).1) es_89)) ?_
  refine vc_p rfl rfl rfl (fun _ => (ev_fieldAddr rfl fo_97_2)) ?_
  refine vc_q rfl rfl rfl (ev_rowLoad0 rfC 2 i 2 hS23 rfl hx ag_9 rfl rfl) ?_
  refine vc_p rfl rfl rfl (fun _ => (ev_buildS rfl pl_97_0_1_2 asz_97 zr_97 rfl)) ?_
  refine vc_s rfl rfl rfl rfl rfl rfl ?_
  refine wl_rowBuild rfC [lastR x] hS23 rfl Tryz.underlying89 ifz_97 rfl rfl rfl rfl (by first | rfl | simp [RowC.cells, fillL, splice]) rfl ?_
  intro b24 w24 hS24
  clear hS23
  refine vc_e (.skip (by kernel_rfl) (.skip (by kernel_rfl) (.skip (by kernel_rfl) (.skip (by kernel_rfl) (.skip (by kernel_rfl) (.skip (by kernel_rfl) .nil)))))) ?_
  refine vc_s rfl rfl rfl rfl rfl rfl ?_
  refine wl_rowApp rfC 1 hS24 rfl rfl rfl (hS24.rd 0 rfl (by simp)) Tryz.underlying89 Tryz.underlying89 (by intro k hk; cases hk) ifo_97 rfl (by have := hcnt; simp only [List.length_map, List.length_take, List.length_cons, List.length_nil]; omega) rfl (by have := hcnt; simp only [List.length_map, List.length_take, List.length_cons, List.length_nil]; omega) ?_
  intro v25 w25 hS25; dsimp only [List.set] at hS25
  clear hS24
  have h1v25 : v25.oneCell' = true := hS25.own_one 1 rfl
  refine vc_e (.skip (by kernel_rfl) (.skip (by kernel_rfl) (.skip (by kernel_rfl) (.skip (by kernel_rfl) (.skip (by kernel_rfl) (.skip (by kernel_rfl) .nil)))))) ?_
  refine vc_p rfl rfl rfl (fun _ => (ev_assign rfl)) ?_
  refine VC.nil (qs_block_normal (qs_seq ?_))
  refine wc_sub (L' := [(5, _), (0, _), (6, _)]) (.cons rfl (.cons rfl (.cons rfl .nil))) ?_
  refine wc_region (wl_move rfl rfl ?_)
  refine wl_add rfl rfl (by omega) (by omega) rfl ?_
  refine wl_assign rfl rfl (wl_nil ?_)
  exact qs_round (L1 := [(0, _), (5, _), (6, intV ((i + 1 : Nat) : Int))]) (.cons rfl (.cons rfl (.cons rfl .nil))) (k1 := l.length - (i + 1)) (by omega) ⟨i + 1, _, by omega, rfl, by rw [last_snoc hx]; exact hS25.tail, by omega⟩
 refine wc_exit (qs_then_exit (qs_then_exit (qs_block_exit (qs_seq (wc_seq (wc_region (wl_move rfl rfl (wl_move rfl rfl (wl_nilCheck rfl rfl ?_)))))))))
 refine wl_fieldAddr rfl fo_92_0 rfl ?_
 first | (refine wl_store hS21 rfl rfl sz_89 (by first | rfl | assumption | exact hS21.own_one 0 rfl | exact hS21.own_one 2 rfl | exact hS21.own_one 3 rfl) (i := 1) rfl (by first | decide | exact Nat.le_of_ble_eq_true rfl | (simp; done) | omega) ?_)
 intro w26 hS27; dsimp only [List.set] at hS27
 clear hS21
 refine wl_nil (qs_seq ?_)
 refine wc_sub (L' := [(0, _)]) (.cons rfl .nil) ?_
 refine wc_region (wl_move rfl rfl (wl_nilCheck rfl rfl ?_))
 refine wl_fieldAddr rfl fo_92_1 rfl ?_
 first | (refine wl_store hS27 rfl rfl sz_90 (by first | rfl | assumption | exact hS27.own_one 0 rfl | exact hS27.own_one 2 rfl | exact hS27.own_one 3 rfl) (i := 1) rfl (by first | decide | exact Nat.le_of_ble_eq_true rfl | (simp; done) | omega) ?_)
 intro w28 hS29; dsimp only [List.set] at hS29
 clear hS27
 refine wl_nil ?_
 refine fin0 (.inl rfl) rfl ?_
 exact ⟨_, rfl, rfl, crash_endR hI0 hd hI hF (by rw [hDX]) (by rw [hDX]) (by rw [hDX]) (by omega) hS29⟩
end Go.Proofs.YtfmkodmmbgibgaaGreatDoor
/- the reference of layer 3: comes -/
namespace Go.Proofs.YtfmkodmmbgibgaaGreatDoor
open Go.RowKit M
set_option linter.unusedVariables false
def comesD (D : DS) (f a : Int) (s : Bytes) : DS := if endsB D then crashD (writeD (endsD D) f a s) D.keep else endsD D
theorem fit_write {D : DS} {f a : Int} {s : Bytes} (hd : D.down = false) : (0 ≤ f ∧ f ≤ 15 ∧ fitB a s = true) ↔ writeE D f a s = 0 := by
  simp only [writeE, mayE, hd, fitB]
  by_cases h1 : f < 0 ∨ 16 ≤ f
  · simp [h1]; omega
  · simp only [Bool.false_eq_true, if_false, h1]
    by_cases h2 : a < 0
    · simp [h2]; omega
    · by_cases h3 : 16777216 < a ∨ 16777216 - a < s.length
      · simp [h2, h3]; omega
      · simp [h2, h3]; omega
theorem comes_off {w : World} {p : Nat} {kp fv qv : Value} {D : DS} {l : List (Int × Bytes × Bytes)} {F : Th} {f a : Int} {s : Bytes} (h : D.down = true ∨ D.armed = 0) (hI : RInv l D) (hS : Sat w [blkT p (cellsR ⟨fv, qv, l⟩ kp D), rowT rfC fv l, rowT scC qv D.Q, F]) : Sat w [refT p kp (comesD D f a s), F] := by
  have e1 : endsB D = false := by unfold endsB; rcases h with h | h <;> simp [h]
  have e2 : endsD D = D := by unfold endsD; rw [if_pos h]
  rw [comesD, e1, e2]; exact refT_shut ⟨fv, qv, l⟩ hI hS
theorem comes_less {w : World} {p : Nat} {kp fv qv : Value} {D : DS} {l : List (Int × Bytes × Bytes)} {F : Th} {f a : Int} {s : Bytes} (hd : D.down = false) (hI : RInv l D) (h : 0 < D.armed - 1) (hS : Sat w [blkT p [fv, qv, intV D.lost, .bool D.down, intV (D.armed - 1), kp], rowT rfC fv l, rowT scC qv D.Q, F]) : Sat w [refT p kp (comesD D f a s), F] := by
  have e1 : endsB D = false := by unfold endsB; simp; omega
  have e2 : endsD D = { D with armed := D.armed - 1 } := by unfold endsD; rw [if_neg (by simp [hd]; omega)]
  rw [comesD, e1, e2]; exact refT_shut ⟨fv, qv, l⟩ (hI.upd rfl { hI.inv with armed := ⟨by simp; omega, by have := hI.inv.armed; simp; omega⟩ }) hS
theorem ends_last {D : DS} (hd : D.down = false) (h0 : D.armed ≠ 0) (h1 : ¬ 0 < D.armed - 1) (hi : 0 ≤ D.armed) : endsB D = true ∧ endsD D = { D with armed := D.armed - 1 } := by
  have : D.armed = 1 := by omega
  exact ⟨by simp [endsB, hd, this], by unfold endsD; rw [if_neg (by simp [hd]; omega)]⟩
set_option maxRecDepth 100000 in
theorem comesR_sp {w : World} {p : Nat} {kp : Value} {D : DS} {F : Th} (hS : Sat w [refT p kp D, F]) (hK : Ent F (RdL inC kp D.keep)) (f at_ : Int) (s : Bytes) (hs : s.length ≤ 1099511627776) :
    Calls Tryz.prog 56 #[ptrV p 0, intV f, intV at_, strV s] w (Ret fun v w' => v = .tuple #[] ∧ Sat w' [refT p kp (comesD D f at_ s), F]) := by
 refine calls_enter Tryz.func56 rfl Tryz.ntmps56 rfl ?_
 obtain ⟨⟨fv, qv, l⟩, hI, hS⟩ := refT_open (hS.pull 0 rfl); dsimp only [List.eraseIdx] at hI hS
 refine wc_seq (wc_seq (wc_region (wl_move rfl rfl (wl_nilCheck rfl rfl ?_))))
 refine wl_fieldAddr rfl fo_92_3 rfl ?_
 refine wl_load rfl ag_4 (by first | assumption | exact hS.cell 0 rfl rfl) rfl ?_
 refine wl_move rfl rfl ?_
 refine wl_split 12 rfl (fun h1 => ?_) (fun h1 => ?_)
 ·refine wl_unwanted rfl rfl h1 rfl ?_
  refine wl_unwanted rfl rfl h1 rfl ?_
  refine wl_unwanted rfl rfl h1 rfl ?_
  refine wl_unwanted rfl rfl h1 rfl ?_
  refine wl_unwanted rfl rfl h1 rfl ?_
  refine wl_pickT rfl h1 rfl rfl ?_
  refine wl_nil (qs_seq ?_)
  refine wc_sub (L' := [(18, _), (0, _), (1, _), (2, _), (3, _)]) (.cons rfl (.cons rfl (.cons rfl (.cons rfl (.cons rfl .nil))))) ?_
  refine wc_condT rfl ?_
  refine wc_ret (qs_then_ret ?_)
  refine fin0 (.inr rfl) rfl ?_
  exact ⟨_, rfl, rfl, comes_off (by simp_all) hI hS⟩
 refine wl_guard rfl rfl h1 ?_
 refine wl_move rfl rfl ?_
 refine wl_guard rfl rfl h1 ?_
 refine wl_nilCheck rfl rfl ?_
 refine wl_guard rfl rfl h1 ?_
 refine wl_fieldAddr rfl fo_92_4 rfl ?_
 refine wl_guard rfl rfl h1 ?_
 refine wl_load rfl ag_3 (by first | assumption | exact hS.cell 0 rfl rfl) rfl ?_
 refine wl_guard rfl rfl h1 ?_
 refine wl_eql rfl rfl rfl ?_
 refine wl_pickF rfl h1 rfl rfl ?_
 refine wl_nil (qs_seq ?_)
 refine wc_sub (L' := [(18, _), (0, _), (1, _), (2, _), (3, _)]) (.cons rfl (.cons rfl (.cons rfl (.cons rfl (.cons rfl .nil))))) ?_
 refine wc_condD rfl (fun h2 => ?_) (fun h2 => ?_)
 ·refine wc_ret (qs_then_ret ?_)
  refine fin0 (.inr rfl) rfl ?_
  exact ⟨_, rfl, rfl, comes_off (by simp_all) hI hS⟩
 have hdn : D.down = false := by simp_all
 have har : D.armed ≠ 0 := by simp_all
 have harm := hI.inv.armed
 refine wc_skip (qs_seq (wc_seq (wc_region (wl_move rfl rfl (wl_nilCheck rfl rfl ?_)))))
 refine wl_fieldAddr rfl fo_92_4 rfl ?_
 refine wl_load rfl ag_3 (by first | assumption | exact hS.cell 0 rfl rfl) rfl ?_
 refine wl_sub' rfl rfl (by omega) (by omega) rfl ?_
 refine wl_nilCheck rfl rfl ?_
 refine wl_fieldAddr rfl fo_92_4 rfl ?_
 first | (refine wl_store hS rfl rfl sz_3 (by first | rfl | assumption | exact hS.own_one 1 rfl | exact hS.own_one 2 rfl) (i := 0) rfl (by first | decide | exact Nat.le_of_ble_eq_true rfl | (simp; done) | omega) ?_)
 intro w3 hS4; dsimp only [List.set] at hS4
 refine wl_nil (qs_seq ?_)
 refine wc_sub (L' := [(0, _), (1, _), (2, _), (3, _)]) (.cons rfl (.cons rfl (.cons rfl (.cons rfl .nil)))) ?_
 refine wc_seq (wc_seq (wc_region (wl_move rfl rfl (wl_nilCheck rfl rfl ?_))))
 refine wl_fieldAddr rfl fo_92_4 rfl ?_
 refine wl_load rfl ag_3 (by first | assumption | exact hS4.cell 0 rfl rfl) rfl ?_
 refine wl_gtr rfl rfl rfl ?_
 refine wl_nil (qs_seq ?_)
 refine wc_condD rfl (fun h5 => ?_) (fun h5 => ?_)
 ·refine wc_ret (qs_then_ret ?_)
  refine fin0 (.inr rfl) rfl ?_
  exact ⟨_, rfl, rfl, comes_less hdn hI (by omega) hS4⟩
 obtain ⟨hb, he⟩ := ends_last hdn har (by omega) harm.1
 have hI2 : RInv l (endsD D) := by rw [he]; exact hI.upd rfl { hI.inv with armed := ⟨by simp; omega, by simp; omega⟩ }
 have hdn2 : (endsD D).down = false := by rw [he]; exact hdn
 refine wc_skip (qs_seq ?_)
 refine wc_mid (fun E0 W0 => E0 = [(0, ptrV p 0)] ∧ Sat W0 [refT p kp (writeD (endsD D) f at_ s), F]) ?_ ?_
 ·refine wc_seq ?_
  have hS4' : Sat w3 [refT p kp (endsD D), F] := by rw [he]; rw [he] at hI2; exact refT_shut ⟨fv, qv, l⟩ hI2 hS4
  replace hS4 := hS4'; clear hS4'
  refine wc_region (wl_move rfl rfl ?_)
  refine wl_geq rfl rfl rfl ?_
  refine wl_move rfl rfl ?_
  refine wl_splitD 33 rfl (fun h7 => ?_) (fun h7 => ?_)
  ·refine wl_guard rfl rfl (decide_eq_true h7) ?_
   refine wl_move rfl rfl ?_
   refine wl_guard rfl rfl (decide_eq_true h7) ?_
   refine wl_leq rfl rfl rfl ?_
   refine wl_pickT rfl (decide_eq_true h7) rfl rfl ?_
   refine wl_move rfl rfl ?_
   refine wl_splitD 37 rfl (fun h8 => ?_) (fun h8 => ?_)
   ·refine wl_guard rfl rfl (decide_eq_true h8) ?_
    refine wl_move rfl rfl ?_
    refine wl_guard rfl rfl (decide_eq_true h8) ?_
    refine wl_move rfl rfl ?_
    refine wl_guard rfl rfl (decide_eq_true h8) ?_
    have hC9 := hS4.split [] [false, false] rfl; dsimp only [selF, pickA, nthA, List.cons_append, List.nil_append] at hC9
    refine wl_call cal_58 rfl (fitsR_sp hC9 at_ s hs) rfl ?_
    rintro e w9 ⟨_, rfl, rfl, hS9⟩; refine ⟨_, rfl, ?_⟩
    replace hS9 := hS9.join rfl; dsimp only [List.dropLast, List.cons_append, List.nil_append] at hS9; clear hC9
    clear hS4
    refine wl_pickT rfl (decide_eq_true h8) rfl rfl ?_
    refine wl_nil (qs_seq ?_)
    refine wc_sub (L' := [(41, _), (0, _), (1, _), (2, _), (3, _)]) (.cons rfl (.cons rfl (.cons rfl (.cons rfl (.cons rfl .nil))))) ?_
    refine wc_cond rfl (fun h10 => ?_) (fun h10 => ?_)
    ·have hfb : fitB at_ s = true := by simp_all
     refine wc_region (wl_move rfl rfl (wl_move rfl rfl (wl_move rfl rfl (wl_move rfl rfl ?_))))
     have hC11 := hS9.split [0] [true, false] rfl; dsimp only [selF, pickA, nthA, List.cons_append, List.nil_append] at hC11
     refine wl_call cal_59 rfl (addR_sp hC11 f at_ s (by omega) (by simp only [fitB, decide_eq_true_eq] at hfb; omega) (by simp only [fitB, decide_eq_true_eq] at hfb; omega)) rfl ?_
     rintro e w11 ⟨_, rfl, rfl, hS11⟩; refine ⟨_, rfl, ?_⟩
     replace hS11 := hS11.join rfl; dsimp only [List.dropLast, List.cons_append, List.nil_append] at hS11; clear hC11
     clear hS9
     refine wl_nil ?_
     exact qs_mid (.cons rfl .nil) ⟨rfl, by rw [writeD, if_pos ((fit_write hdn2).1 ⟨by omega, by omega, hfb⟩)]; exact hS11⟩
    refine wc_skip ?_
    exact qs_mid (.cons rfl .nil) ⟨rfl, by rw [writeD, if_neg (fun q => by have := (fit_write hdn2).2 q; simp_all <;> omega)]; exact hS9⟩
   refine wl_unwanted rfl rfl (decide_eq_false h8) rfl ?_
   refine wl_unwanted rfl rfl (decide_eq_false h8) rfl ?_
   refine wl_unwanted rfl rfl (decide_eq_false h8) rfl ?_
   refine wl_pickF rfl (decide_eq_false h8) rfl rfl ?_
   refine wl_nil (qs_seq ?_)
   refine wc_sub (L' := [(41, _), (0, _), (1, _), (2, _), (3, _)]) (.cons rfl (.cons rfl (.cons rfl (.cons rfl (.cons rfl .nil))))) ?_
   refine wc_condF rfl ?_
   refine wc_skip ?_
   exact qs_mid (.cons rfl .nil) ⟨rfl, by rw [writeD, if_neg (fun q => by have := (fit_write hdn2).2 q; simp_all <;> omega)]; exact hS4⟩
  refine wl_unwanted rfl rfl (decide_eq_false h7) rfl ?_
  refine wl_unwanted rfl rfl (decide_eq_false h7) rfl ?_
  refine wl_pickF rfl (decide_eq_false h7) rfl rfl ?_
  refine wl_move rfl rfl ?_
  refine wl_unwanted rfl rfl rfl rfl ?_
  refine wl_unwanted rfl rfl rfl rfl ?_
  refine wl_unwanted rfl rfl rfl rfl ?_
  refine wl_pickF rfl rfl rfl rfl ?_
  refine wl_nil (qs_seq ?_)
  refine wc_sub (L' := [(41, _), (0, _), (1, _), (2, _), (3, _)]) (.cons rfl (.cons rfl (.cons rfl (.cons rfl (.cons rfl .nil))))) ?_
  refine wc_condF rfl ?_
  refine wc_skip ?_
  exact qs_mid (.cons rfl .nil) ⟨rfl, by rw [writeD, if_neg (fun q => by have := (fit_write hdn2).2 q; simp_all <;> omega)]; exact hS4⟩
 rintro _ w6 ⟨rfl, hS6⟩
 obtain ⟨⟨fv, qv, l⟩, hI, hS6⟩ := refT_open (hS6.pull 0 rfl); dsimp only [List.eraseIdx] at hI hS6
 refine wc_region (wl_move rfl rfl (wl_move rfl rfl (wl_nilCheck rfl rfl ?_)))
 refine wl_fieldAddr rfl fo_92_5 rfl ?_
 refine wl_load rfl ag_40 (by first | assumption | exact hS6.cell 0 rfl rfl) rfl ?_
 have hS6' := refT_shut (D := writeD (endsD D) f at_ s) ⟨fv, qv, l⟩ (hI) hS6; replace hS6 := hS6'; clear hS6'
 have hC12 := hS6.split [0] [true, false] rfl; dsimp only [selF, pickA, nthA, List.cons_append, List.nil_append] at hC12
 refine wl_call cal_92 rfl (crashR_sp hC12 ((hK.starL 0 rfl))) rfl ?_
 rintro e w12 ⟨_, rfl, rfl, hS12⟩; refine ⟨_, rfl, ?_⟩
 replace hS12 := hS12.join rfl; dsimp only [List.dropLast, List.cons_append, List.nil_append] at hS12; clear hC12
 clear hS6
 have e9 : comesD D f at_ s = crashD (writeD (endsD D) f at_ s) D.keep := by rw [comesD, hb]; rfl
 rw [← e9] at hS12
 refine wl_nil ?_
 refine fin0 (.inl rfl) rfl ?_
 exact ⟨_, rfl, rfl, hS12⟩
end Go.Proofs.YtfmkodmmbgibgaaGreatDoor
/- the reference of layer 3: Read, Write, settle -/
namespace Go.Proofs.YtfmkodmmbgibgaaGreatDoor
open Go.RowKit M
set_option linter.unusedVariables false
theorem readR_ok {D : DS} {f a n : Int} {X : Bytes} (hm : mayE D f = 0) (h1 : 0 ≤ a) (h2 : 0 ≤ n) (h : (((D.F f).1.length : Int) ≤ a ∧ X = []) ∨ ∃ A B : Nat, a = A ∧ a + min n ((D.F f).1.length - a) = B ∧ X = ((D.F f).1.take B).drop A) : Value.tuple #[strV X, intV 0] = .tuple #[strV (ReadS D f a n), intV (ReadE D f a n)] := by
  have e : ReadE D f a n = 0 := by rw [ReadE, if_neg (by omega), if_neg (by omega)]
  rw [e, ReadS, if_pos e]
  have : X = ((D.F f).1.drop a.toNat).take n.toNat := by
    rcases h with ⟨h3, h4⟩ | ⟨A, B, h3, h4, h5⟩
    · rw [h4, List.drop_eq_nil_of_le (by omega)]; simp
    · subst h3
      rw [h5, List.drop_take, Int.toNat_natCast]
      by_cases hc : n ≤ (D.F f).1.length - A
      · rw [show B - A = n.toNat by omega]
      · by_cases hd : (D.F f).1.length ≤ A
        · rw [List.drop_eq_nil_of_le (by omega)]; simp
        · rw [List.take_of_length_le (by simp; omega), List.take_of_length_le (by simp; omega)]
  rw [this]
theorem readR_sp {w : World} {p : Nat} {kp : Value} {D : DS} {F : Th} (hS : Sat w [refT p kp D, F]) (f at_ size : Int) :
    Calls Tryz.prog 33 #[ptrV p 0, intV f, intV at_, intV size] w (Ret fun v w' => v = .tuple #[strV (ReadS D f at_ size), intV (ReadE D f at_ size)] ∧ Sat w' [refT p kp D, F]) := by
 refine calls_enter Tryz.func33 rfl Tryz.ntmps33 rfl ?_
 obtain ⟨_, hI0, _⟩ := refT_open hS
 have hnow := hI0.inv.now f; clear hI0
 refine wc_seq (wc_region (wl_assign rfl rfl (wl_assign rfl rfl (wl_nil (qs_seq (wc_seq (wc_region (wl_move rfl rfl (wl_move rfl rfl ?_)))))))))
 have hC1 := hS.split [0] [true, false] rfl; dsimp only [selF, pickA, nthA, List.cons_append, List.nil_append] at hC1
 refine wl_call cal_57 rfl (mayR_sp hC1 f) rfl ?_
 rintro e w1 ⟨_, rfl, rfl, hS1⟩; refine ⟨_, rfl, ?_⟩
 replace hS1 := hS1.join rfl; dsimp only [List.dropLast, List.cons_append, List.nil_append] at hS1; clear hC1
 refine wl_assign rfl rfl (wl_nil (qs_seq (wc_seq (wc_seq (wc_region (wl_move rfl rfl ?_))))))
 refine wl_neq rfl rfl rfl ?_
 refine wl_nil (qs_seq ?_)
 refine wc_sub (L' := [(16, _), (10, _), (9, _), (8, _), (0, _), (1, _), (2, _), (3, _)]) (.cons rfl (.cons rfl (.cons rfl (.cons rfl (.cons rfl (.cons rfl (.cons rfl (.cons rfl .nil)))))))) ?_
 refine wc_condD rfl (fun h2 => ?_) (fun h2 => ?_)
 ·have hm : mayE D f ≠ 0 := h2
  refine wc_seq (wc_region (wl_move rfl rfl (wl_assign rfl rfl (wl_assign rfl rfl (wl_nil (qs_seq (wc_ret (qs_then_ret ?_))))))))
  refine fin2 (.inr rfl) rfl rfl rfl ?_
  exact ⟨_, rfl, by have hE : ReadE D f at_ size = mayE D f := (by rw [ReadE, if_pos hm]); rw [ReadS, hE, if_neg hm], hS1⟩
 have hm : mayE D f = 0 := Decidable.not_not.1 h2
 refine wc_skip (qs_seq (wc_seq (wc_seq (wc_region (wl_move rfl rfl ?_)))))
 refine wl_lss rfl rfl rfl ?_
 refine wl_move rfl rfl ?_
 refine wl_splitD 20 rfl (fun h3 => ?_) (fun h3 => ?_)
 ·refine wl_unwanted rfl rfl (decide_eq_true h3) rfl ?_
  refine wl_unwanted rfl rfl (decide_eq_true h3) rfl ?_
  refine wl_pickT rfl (decide_eq_true h3) rfl rfl ?_
  refine wl_nil (qs_seq ?_)
  refine wc_sub (L' := [(23, _), (9, _), (8, _), (0, _), (1, _), (2, _), (3, _)]) (.cons rfl (.cons rfl (.cons rfl (.cons rfl (.cons rfl (.cons rfl (.cons rfl .nil))))))) ?_
  refine wc_condT rfl ?_
  refine wc_seq (wc_region (wl_assign rfl rfl (wl_assign rfl rfl (wl_nil (qs_seq (wc_ret (qs_then_ret ?_)))))))
  refine fin2 (.inr rfl) rfl rfl rfl ?_
  exact ⟨_, rfl, by have hE : ReadE D f at_ size = 1 := (by rw [ReadE, if_neg (by omega), if_pos (by omega)]); rw [ReadS, hE, if_neg (by decide)], hS1⟩
 refine wl_guard rfl rfl (decide_eq_false h3) ?_
 refine wl_move rfl rfl ?_
 refine wl_guard rfl rfl (decide_eq_false h3) ?_
 refine wl_lss rfl rfl rfl ?_
 refine wl_pickF rfl (decide_eq_false h3) rfl rfl ?_
 refine wl_nil (qs_seq ?_)
 refine wc_sub (L' := [(23, _), (9, _), (8, _), (0, _), (1, _), (2, _), (3, _)]) (.cons rfl (.cons rfl (.cons rfl (.cons rfl (.cons rfl (.cons rfl (.cons rfl .nil))))))) ?_
 refine wc_condD rfl (fun h4 => ?_) (fun h4 => ?_)
 ·refine wc_seq (wc_region (wl_assign rfl rfl (wl_assign rfl rfl (wl_nil (qs_seq (wc_ret (qs_then_ret ?_)))))))
  refine fin2 (.inr rfl) rfl rfl rfl ?_
  exact ⟨_, rfl, by have hE : ReadE D f at_ size = 1 := (by rw [ReadE, if_neg (by omega), if_pos (by omega)]); rw [ReadS, hE, if_neg (by decide)], hS1⟩
 refine wc_skip (qs_seq (wc_seq (wc_region (wl_move rfl rfl (wl_move rfl rfl ?_)))))
 have hC5 := hS1.split [0] [true, false] rfl; dsimp only [selF, pickA, nthA, List.cons_append, List.nil_append] at hC5
 refine wl_call cal_63 rfl (getR_sp hC5 f) rfl ?_
 rintro e w5 ⟨_, rfl, rfl, hS5⟩; refine ⟨_, rfl, ?_⟩
 replace hS5 := hS5.join rfl; dsimp only [List.dropLast, List.cons_append, List.nil_append] at hS5; clear hC5
 clear hS1
 refine wl_field fv_97_1 rfl rfl rfl ?_
 refine wl_assign rfl rfl (wl_nil (qs_seq ?_))
 refine wc_sub (L' := [(11, _), (9, _), (8, _), (2, _), (3, _)]) (.cons rfl (.cons rfl (.cons rfl (.cons rfl (.cons rfl .nil))))) ?_
 refine wc_seq (wc_seq (wc_region (wl_move rfl rfl (wl_move rfl rfl ?_))))
 refine wl_lenS Tryz.underlying9 rfl rfl ?_
 refine wl_geq rfl rfl rfl ?_
 refine wl_nil (qs_seq ?_)
 refine wc_condD rfl (fun h6 => ?_) (fun h6 => ?_)
 ·refine wc_seq (wc_region (wl_assign rfl rfl (wl_assign rfl rfl (wl_nil (qs_seq (wc_ret (qs_then_ret ?_)))))))
  refine fin2 (.inr rfl) rfl rfl rfl ?_
  exact ⟨_, rfl, readR_ok hm (by omega) (by omega) (.inl ⟨by omega, rfl⟩), hS5⟩
 refine wc_skip (qs_seq (wc_seq ?_))
 obtain ⟨A, hA⟩ : ∃ A : Nat, at_ = A := ⟨at_.toNat, by omega⟩
 obtain ⟨B, hB⟩ : ∃ B : Nat, at_ + min size ((D.F f).1.length - at_) = B := ⟨(at_ + min size ((D.F f).1.length - at_)).toNat, by omega⟩
 refine wc_region (wl_move rfl rfl (wl_move rfl rfl (wl_move rfl rfl (wl_move rfl rfl (wl_move rfl rfl ?_)))))
 refine wl_lenS Tryz.underlying9 rfl rfl ?_
 refine wl_move rfl rfl ?_
 refine wl_sub' rfl rfl (by omega) (by omega) rfl ?_
 refine wl_minI rfl rfl rfl ?_
 refine wl_add rfl rfl (by omega) (by omega) rfl ?_
 refine wl_sliceS A B Tryz.underlying9 rfl (bndS A _ rfl hA) (bndS B _ rfl hB) (by omega) (by omega) rfl ?_
 refine wl_assign rfl rfl (wl_assign rfl rfl (wl_nil (qs_seq ?_)))
 refine wc_sub (L' := [(9, _), (8, _)]) (.cons rfl (.cons rfl .nil)) ?_
 refine wc_ret ?_
 refine fin2 (.inr rfl) rfl rfl rfl ?_
 exact ⟨_, rfl, readR_ok hm (by omega) (by omega) (.inr ⟨A, B, hA, hB, rfl⟩), hS5⟩
theorem comes_may {D : DS} {f a : Int} {s : Bytes} (h : mayE (comesD D f a s) f = 0) : endsB D = false ∧ comesD D f a s = endsD D ∧ mayE (endsD D) f = 0 := by
  cases hb : endsB D with
  | false => have e : comesD D f a s = endsD D := by rw [comesD, hb]; rfl
             rw [e] at h; exact ⟨rfl, e, h⟩
  | true =>
    have e : (comesD D f a s).down = true := by rw [comesD, hb]; exact crash_isDown _ _
    rw [mayE, if_pos e] at h; cases h
theorem writeR_may {w : World} {p : Nat} {kp : Value} {D : DS} {F : Th} {f a : Int} {s : Bytes} (hm : mayE (comesD D f a s) f ≠ 0) (h : Sat w [refT p kp (comesD D f a s), F]) : intV (mayE (comesD D f a s) f) = intV (WriteE D f a s) ∧ Sat w [refT p kp (WriteD D f a s), F] := by
  cases hb : endsB D with
  | true =>
    have e : comesD D f a s = crashD (writeD (endsD D) f a s) D.keep := by rw [comesD, hb]; rfl
    have e2 : mayE (comesD D f a s) f = 9 := by rw [mayE, if_pos]; rw [e]; exact crash_isDown _ _
    refine ⟨by rw [e2, WriteE, hb]; rfl, ?_⟩
    simp only [WriteD, hb]; rw [e] at h; exact h
  | false =>
    have e : comesD D f a s = endsD D := by rw [comesD, hb]; rfl
    rw [e] at hm h ⊢
    have e2 : writeE (endsD D) f a s = mayE (endsD D) f := by rw [writeE, if_pos hm]
    refine ⟨by rw [WriteE, hb]; simp only [Bool.false_eq_true, if_false]; rw [e2], ?_⟩
    simp only [WriteD, hb]
    rw [writeD, e2, if_neg hm]; exact h
theorem writeR_bad {w : World} {p : Nat} {kp : Value} {D : DS} {F : Th} {f a : Int} {s : Bytes} (hm : mayE (comesD D f a s) f = 0) (ha : a < 0) (h : Sat w [refT p kp (comesD D f a s), F]) : intV 1 = intV (WriteE D f a s) ∧ Sat w [refT p kp (WriteD D f a s), F] := by
  obtain ⟨hb, e, hm2⟩ := comes_may hm
  rw [e] at h
  have e2 : writeE (endsD D) f a s = 1 := by rw [writeE, if_neg (by omega), if_pos ha]
  refine ⟨by rw [WriteE, hb]; simp only [Bool.false_eq_true, if_false]; rw [e2], ?_⟩
  simp only [WriteD, hb]; rw [writeD, e2, if_neg (by decide)]; exact h
theorem writeR_full {w : World} {p : Nat} {kp : Value} {D : DS} {F : Th} {f a : Int} {s : Bytes} (hm : mayE (comesD D f a s) f = 0) (ha : 0 ≤ a) (hf : fitB a s = false) (h : Sat w [refT p kp (comesD D f a s), F]) : intV 6 = intV (WriteE D f a s) ∧ Sat w [refT p kp (WriteD D f a s), F] := by
  obtain ⟨hb, e, hm2⟩ := comes_may hm
  rw [e] at h
  have e2 : writeE (endsD D) f a s = 6 := by
    simp only [fitB, decide_eq_false_iff_not] at hf
    rw [writeE, if_neg (by omega), if_neg (by omega), if_pos (by omega)]
  refine ⟨by rw [WriteE, hb]; simp only [Bool.false_eq_true, if_false]; rw [e2], ?_⟩
  simp only [WriteD, hb]; rw [writeD, e2, if_neg (by decide)]; exact h
theorem writeR_ok {w : World} {p : Nat} {kp : Value} {D : DS} {F : Th} {f a : Int} {s : Bytes} (hm : mayE (comesD D f a s) f = 0) (hf : fitB a s = true) (h : Sat w [refT p kp (addD (comesD D f a s) f a s), F]) : intV 0 = intV (WriteE D f a s) ∧ Sat w [refT p kp (WriteD D f a s), F] := by
  obtain ⟨hb, e, hm2⟩ := comes_may hm
  rw [e] at h
  have hd : (endsD D).down = false := by
    cases hq : (endsD D).down with
    | false => rfl
    | true => rw [mayE, hq] at hm2; cases hm2
  have hf16 : 0 ≤ f ∧ f ≤ 15 := by have := may_ok hm2; omega
  have e2 : writeE (endsD D) f a s = 0 := (fit_write hd).1 ⟨hf16.1, hf16.2, hf⟩
  refine ⟨by rw [WriteE, hb]; simp only [Bool.false_eq_true, if_false]; rw [e2], ?_⟩
  simp only [WriteD, hb]; rw [writeD, e2, if_pos rfl]; exact h
set_option maxRecDepth 100000 in
theorem writeR_sp {w : World} {p : Nat} {kp : Value} {D : DS} {F : Th} (hS : Sat w [refT p kp D, F]) (hK : Ent F (RdL inC kp D.keep)) (f at_ : Int) (s : Bytes) (hs : s.length ≤ 1099511627776) :
    Calls Tryz.prog 21 #[ptrV p 0, intV f, intV at_, strV s] w (Ret fun v w' => v = intV (WriteE D f at_ s) ∧ Sat w' [refT p kp (WriteD D f at_ s), F]) := by
 refine calls_enter Tryz.func21 rfl Tryz.ntmps21 rfl ?_
 refine wc_seq (wc_region (wl_assign rfl rfl (wl_nil (qs_seq (wc_seq (wc_region (wl_move rfl rfl (wl_move rfl rfl (wl_move rfl rfl (wl_move rfl rfl ?_))))))))))
 have hC1 := hS.split [0] [true, false] rfl; dsimp only [selF, pickA, nthA, List.cons_append, List.nil_append] at hC1
 refine wl_call cal_56 rfl (comesR_sp hC1 (hK.starL 0 rfl) f at_ s hs) rfl ?_
 rintro e w1 ⟨_, rfl, rfl, hS1⟩; refine ⟨_, rfl, ?_⟩
 replace hS1 := hS1.join rfl; dsimp only [List.dropLast, List.cons_append, List.nil_append] at hS1; clear hC1
 refine wl_nil (qs_seq (wc_seq (wc_region (wl_move rfl rfl (wl_move rfl rfl ?_)))))
 have hC2 := hS1.split [0] [true, false] rfl; dsimp only [selF, pickA, nthA, List.cons_append, List.nil_append] at hC2
 refine wl_call cal_57 rfl (mayR_sp hC2 f) rfl ?_
 rintro e w2 ⟨_, rfl, rfl, hS2⟩; refine ⟨_, rfl, ?_⟩
 replace hS2 := hS2.join rfl; dsimp only [List.dropLast, List.cons_append, List.nil_append] at hS2; clear hC2
 clear hS1
 refine wl_assign rfl rfl (wl_nil (qs_seq ?_))
 refine wc_sub (L' := [(9, _), (8, _), (0, _), (1, _), (2, _), (3, _)]) (.cons rfl (.cons rfl (.cons rfl (.cons rfl (.cons rfl (.cons rfl .nil)))))) ?_
 refine wc_seq (wc_seq (wc_region (wl_move rfl rfl ?_)))
 refine wl_neq rfl rfl rfl ?_
 refine wl_nil (qs_seq ?_)
 refine wc_condD rfl (fun h3 => ?_) (fun h3 => ?_)
 ·have hm : mayE (comesD D f at_ s) f ≠ 0 := h3
  refine wc_seq (wc_region (wl_move rfl rfl (wl_assign rfl rfl (wl_nil (qs_seq (wc_ret (qs_then_ret ?_)))))))
  refine fin1 (.inr rfl) rfl rfl ?_
  exact ⟨_, rfl, writeR_may hm hS2⟩
 have hm : mayE (comesD D f at_ s) f = 0 := Decidable.not_not.1 h3
 refine wc_skip (qs_seq (wc_seq (wc_seq (wc_region (wl_move rfl rfl ?_)))))
 refine wl_lss rfl rfl rfl ?_
 refine wl_nil (qs_seq ?_)
 refine wc_condD rfl (fun h4 => ?_) (fun h4 => ?_)
 ·refine wc_seq (wc_region (wl_assign rfl rfl (wl_nil (qs_seq (wc_ret (qs_then_ret ?_))))))
  refine fin1 (.inr rfl) rfl rfl ?_
  exact ⟨_, rfl, writeR_bad hm (by omega) hS2⟩
 refine wc_skip (qs_seq (wc_seq (wc_seq (wc_region (wl_move rfl rfl (wl_move rfl rfl ?_))))))
 have hC5 := hS2.split [] [false, false] rfl; dsimp only [selF, pickA, nthA, List.cons_append, List.nil_append] at hC5
 refine wl_call cal_58 rfl (fitsR_sp hC5 at_ s hs) rfl ?_
 rintro e w5 ⟨_, rfl, rfl, hS5⟩; refine ⟨_, rfl, ?_⟩
 replace hS5 := hS5.join rfl; dsimp only [List.dropLast, List.cons_append, List.nil_append] at hS5; clear hC5
 clear hS2
 refine wl_not rfl rfl ?_
 refine wl_nil (qs_seq ?_)
 refine wc_sub (L' := [(26, _), (8, _), (0, _), (1, _), (2, _), (3, _)]) (.cons rfl (.cons rfl (.cons rfl (.cons rfl (.cons rfl (.cons rfl .nil)))))) ?_
 refine wc_cond rfl (fun h6 => ?_) (fun h6 => ?_)
 ·refine wc_seq (wc_region (wl_assign rfl rfl (wl_nil (qs_seq (wc_ret (qs_then_ret ?_))))))
  refine fin1 (.inr rfl) rfl rfl ?_
  exact ⟨_, rfl, writeR_full hm (by omega) (by simp_all) hS5⟩
 have hfb : fitB at_ s = true := by simpa using h6
 have hf16 := may_ok hm
 have hfb2 := hfb; simp only [fitB, decide_eq_true_eq] at hfb2
 refine wc_skip (qs_seq (wc_seq (wc_region (wl_move rfl rfl (wl_move rfl rfl (wl_move rfl rfl (wl_move rfl rfl ?_)))))))
 have hC7 := hS5.split [0] [true, false] rfl; dsimp only [selF, pickA, nthA, List.cons_append, List.nil_append] at hC7
 refine wl_call cal_59 rfl (addR_sp hC7 f at_ s (by omega) (by omega) (by omega)) rfl ?_
 rintro e w7 ⟨_, rfl, rfl, hS7⟩; refine ⟨_, rfl, ?_⟩
 replace hS7 := hS7.join rfl; dsimp only [List.dropLast, List.cons_append, List.nil_append] at hS7; clear hC7
 clear hS5
 refine wl_nil (qs_seq ?_)
 refine wc_sub (L' := [(8, _)]) (.cons rfl .nil) ?_
 refine wc_seq (wc_region (wl_assign rfl rfl (wl_nil (qs_seq (wc_ret ?_)))))
 refine fin1 (.inr rfl) rfl rfl ?_
 exact ⟨_, rfl, writeR_ok hm hfb hS7⟩
theorem flt_keep {Q : List (Int × Int)} {i : Nat} {x : Int × Int} {k : Int} (hx : Q[i]? = some x) (h : x.1 ≠ k) : (Q.take (i + 1)).filter (fun y => decide (y.1 ≠ k)) = (Q.take i).filter (fun y => decide (y.1 ≠ k)) ++ [x] := by
  rw [List.take_add_one, hx, List.filter_append]; simp [h]
theorem flt_skip {Q : List (Int × Int)} {i : Nat} {x : Int × Int} {k : Int} (hx : Q[i]? = some x) (h : x.1 = k) : (Q.take (i + 1)).filter (fun y => decide (y.1 ≠ k)) = (Q.take i).filter (fun y => decide (y.1 ≠ k)) := by
  rw [List.take_add_one, hx, List.filter_append]; simp [h]
theorem flt_le2 {α : Type} (p : α → Bool) (l : List α) (i m : Nat) (h : l.length ≤ m) : ((l.take i).filter p).length ≤ m := Nat.le_trans (List.length_filter_le _ _) (by simp; omega)
theorem settleR_end {w : World} {p i : Nat} {kp v fv qv : Value} {D : DS} {l : List (Int × Bytes × Bytes)} {F : Th} {f : Int} {s : Bytes} (hI : RInv l { D with F := setF D.F f (s, s) }) (hi : ¬ i < D.Q.length) (h : Sat w [rowT scC v ((D.Q.take i).filter (fun y => decide (y.1 ≠ f))), blkT p [fv, v, intV D.lost, .bool D.down, intV D.armed, kp], rowT rfC fv l, rowT scC qv D.Q, F]) : Sat w [refT p kp (settleD D f s), F] := by
  rw [List.take_of_length_le (by omega)] at h
  exact refT_shut ⟨fv, v, l⟩ ⟨{ hI.inv with nodup := hI.inv.nodup.filter _, secs := fun p hp => hI.inv.secs p (List.mem_filter.1 hp).1 }, hI.says, hI.num, hI.nodup⟩ (h.pick [1, 2, 0, 4] rfl)
set_option maxRecDepth 100000 in
theorem settleR_sp {w : World} {p : Nat} {kp : Value} {D : DS} {F : Th} (hS : Sat w [refT p kp D, F]) (f : Int) (hf : 0 ≤ f ∧ f < 16) (s : Bytes) (hs : s.length ≤ 16777216) :
    Calls Tryz.prog 62 #[ptrV p 0, intV f, strV s] w (Ret fun v w' => v = .tuple #[] ∧ Sat w' [refT p kp (settleD D f s), F]) := by
 refine calls_enter Tryz.func62 rfl Tryz.ntmps62 rfl ?_
 refine wc_seq (wc_region (wl_move rfl rfl (wl_move rfl rfl (wl_move rfl rfl (wl_move rfl rfl ?_)))))
 refine wl_buildS rfl pl_97_0_1_2 asz_97 zr_97 rfl rfl ?_
 have hC1 := hS.split [0] [true, false] rfl; dsimp only [selF, pickA, nthA, List.cons_append, List.nil_append] at hC1
 refine wl_call cal_94 rfl (setR_sp hC1 f _ _ hf hs hs) rfl ?_
 rintro e w1 ⟨_, rfl, rfl, hS1⟩; refine ⟨_, rfl, ?_⟩
 replace hS1 := hS1.join rfl; dsimp only [List.dropLast, List.cons_append, List.nil_append] at hS1; clear hC1
 refine wl_nil ?_
 obtain ⟨⟨fv, qv, l⟩, hI, hS1⟩ := refT_open (hS1.pull 0 rfl); dsimp only [List.eraseIdx] at hI hS1
 refine qs_seq (wc_seq (wc_region (wl_assign rfl rfl (wl_nil (qs_seq (wc_seq (wc_seq (wc_region (wl_assign rfl rfl (wl_nil (qs_seq ?_)))))))))))
 refine wc_sub (L' := [(7, _), (6, _), (0, _), (1, _)]) (.cons rfl (.cons rfl (.cons rfl (.cons rfl .nil)))) ?_
 refine wc_block ?_
 refine wc_loop (fun K0 E0 W0 => ∃ (i : Nat) (v : Value), K0 = D.Q.length - i ∧ E0 = [(0, ptrV p 0), (1, intV f), (6, v), (7, intV (i : Int))] ∧ Sat W0 [rowT scC v ((D.Q.take i).filter (fun y => decide (y.1 ≠ f))), blkT p (cellsR ⟨fv, qv, l⟩ kp { D with F := setF D.F f (s, s) }), rowT rfC fv l, rowT scC qv D.Q, F] ∧ (i ≤ D.Q.length)) (L0 := [(0, _), (1, _), (6, _), (7, _)]) (D.Q.length) (.cons rfl (.cons rfl (.cons rfl (.cons rfl .nil)))) ⟨0, _, by omega, rfl, hS1.row_nil scC, by omega⟩ ?_
 rintro _ _ w2 ⟨i, v, rfl, rfl, hS2, hi⟩
 refine wc_seq (wc_seq (wc_region (wl_move rfl rfl (wl_move rfl rfl (wl_nilCheck rfl rfl ?_)))))
 refine wl_fieldAddr rfl fo_92_1 rfl ?_
 refine wl_load rfl ag_90 (by first | assumption | exact hS2.cell 1 rfl rfl) rfl ?_
 first | refine wl_lenL Tryz.underlying90 rfl rfl ?_ | refine wl_lenO 0 hS2 Tryz.underlying90 rfl rfl rfl ?_ | refine wl_lenO 2 hS2 Tryz.underlying90 rfl rfl rfl ?_ | refine wl_lenO 3 hS2 Tryz.underlying90 rfl rfl rfl ?_
 refine wl_lss rfl rfl rfl ?_
 refine wl_nil (qs_seq ?_)
 refine wc_sub (L' := [(20, _), (0, _), (1, _), (6, _), (7, _)]) (.cons rfl (.cons rfl (.cons rfl (.cons rfl (.cons rfl .nil))))) ?_
 refine wc_condD rfl (fun h3 => ?_) (fun h3 => ?_)
 ·have hcnt := sec_count hI.inv.secs hI.inv.nodup; dsimp only at hcnt
  obtain ⟨x, hx⟩ : ∃ x, D.Q[i]? = some x := ⟨_, List.getElem?_eq_getElem (by omega)⟩
  refine wc_skip (qs_seq (wc_seq (wc_block (wc_seq (wc_region (wl_move rfl rfl (wl_nilCheck rfl rfl ?_)))))))
  refine wl_fieldAddr rfl fo_92_1 rfl ?_
  refine wl_load rfl ag_90 (by first | assumption | exact hS2.cell 1 rfl rfl) rfl ?_
  refine wl_move rfl rfl ?_
  refine wl_rowIdx scC 3 i hS2 rfl rfl rfl (by first | rfl | omega) hx es_90 rfl ?_
  intro bx4 capx4 hvx4
  refine wl_fieldAddr rfl fo_132_0 rfl ?_
  refine wl_rowLoad 3 i 0 hS2 rfl hvx4 rfl rfl hx ag_3 rfl rfl ?_
  refine wl_move rfl rfl ?_
  refine wl_neq rfl rfl rfl ?_
  refine wl_nil (qs_seq ?_)
  refine wc_sub (L' := [(32, _), (0, _), (1, _), (6, _), (7, _)]) (.cons rfl (.cons rfl (.cons rfl (.cons rfl (.cons rfl .nil))))) ?_
  refine wc_condD rfl (fun h5 => ?_) (fun h5 => ?_)
  ·have hne : x.1 ≠ f := h5
   refine wc_region (wl_move rfl rfl (wl_move rfl rfl (wl_nilCheck rfl rfl ?_)))
   refine wl_fieldAddr rfl fo_92_1 rfl ?_
   refine wl_load rfl ag_90 (by first | assumption | exact hS2.cell 1 rfl rfl) rfl ?_
   refine wl_move rfl rfl ?_
   refine wl_rowIdx scC 3 i hS2 rfl rfl rfl (by first | rfl | omega) hx es_90 rfl ?_
   intro bx6 capx6 hvx6
   refine wl_rowLoadA 3 i hS2 rfl hvx6 rfl hx ag_132 sz_132 rfl rfl ?_
   refine wl_rowBuild scC [x] hS2 rfl Tryz.underlying90 ifz_132 rfl rfl rfl rfl (by first | rfl | simp [RowC.cells, fillL, splice]) rfl ?_
   intro b7 w7 hS7
   clear hS2
   refine wl_rowApp scC 1 hS7 rfl rfl rfl (hS7.rd 0 rfl (by simp)) Tryz.underlying90 Tryz.underlying90 (by intro k hk; cases hk) ifo_132 rfl (by have := flt_le2 (fun y => decide (y.1 ≠ f)) D.Q i 4194320 hcnt; simp only [List.length_cons, List.length_nil]; omega) rfl (by have := flt_le2 (fun y => decide (y.1 ≠ f)) D.Q i 4194320 hcnt; simp only [List.length_cons, List.length_nil]; omega) ?_
   intro v8 w8 hS8; dsimp only [List.set] at hS8
   clear hS7
   have h1v8 : v8.oneCell' = true := hS8.own_one 1 rfl
   refine wl_assign rfl rfl (wl_nil (qs_block_normal (qs_seq ?_)))
   refine wc_sub (L' := [(6, _), (0, _), (1, _), (7, _)]) (.cons rfl (.cons rfl (.cons rfl (.cons rfl .nil)))) ?_
   refine wc_region (wl_move rfl rfl ?_)
   refine wl_add rfl rfl (by omega) (by omega) rfl ?_
   refine wl_assign rfl rfl (wl_nil ?_)
   exact qs_round (L1 := [(0, _), (1, _), (6, _), (7, intV ((i + 1 : Nat) : Int))]) (.cons rfl (.cons rfl (.cons rfl (.cons rfl .nil)))) (k1 := D.Q.length - (i + 1)) (by omega) ⟨i + 1, _, by omega, rfl, by rw [flt_keep hx hne]; exact hS8.tail, by omega⟩
  have heq : x.1 = f := Decidable.not_not.1 h5
  refine wc_skip (qs_block_normal (qs_seq (wc_region (wl_move rfl rfl ?_))))
  refine wl_add rfl rfl (by omega) (by omega) rfl ?_
  refine wl_assign rfl rfl (wl_nil ?_)
  exact qs_round (L1 := [(0, _), (1, _), (6, _), (7, intV ((i + 1 : Nat) : Int))]) (.cons rfl (.cons rfl (.cons rfl (.cons rfl .nil)))) (k1 := D.Q.length - (i + 1)) (by omega) ⟨i + 1, _, by omega, rfl, by rw [flt_skip hx heq]; exact hS2, by omega⟩
 refine wc_exit (qs_then_exit (qs_then_exit (qs_block_exit (qs_seq (wc_region (wl_move rfl rfl (wl_move rfl rfl (wl_nilCheck rfl rfl ?_))))))))
 refine wl_fieldAddr rfl fo_92_1 rfl ?_
 first | (refine wl_store hS2 rfl rfl sz_90 (by first | rfl | assumption | exact hS2.own_one 0 rfl | exact hS2.own_one 2 rfl | exact hS2.own_one 3 rfl) (i := 1) rfl (by first | decide | exact Nat.le_of_ble_eq_true rfl | (simp; done) | omega) ?_)
 intro w9 hS10; dsimp only [List.set] at hS10
 clear hS2
 refine wl_nil ?_
 refine fin0 (.inl rfl) rfl ?_
 exact ⟨_, rfl, rfl, settleR_end hI (by omega) hS10⟩
end Go.Proofs.YtfmkodmmbgibgaaGreatDoor
