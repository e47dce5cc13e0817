/- the reference of layer 3: Crash -/
import Derived.Test.YtleaahajkncnpaaDoorRc
namespace Go.Proofs.YtleaahajkncnpaaDoor
open Go.RowKit M
set_option linter.unusedVariables false
theorem upto_skip {keep : List Int} {Q : List (Int × Int)} {F : Int → Bytes × Bytes} {i : Nat} {p : Int × Int} (hp : Q[i]? = some p) (h : ¬ (keep ≠ [] ∧ (keep.getD (i % keep.length) 0) % 2 = 1)) : upto keep Q F (i + 1) = upto keep Q F i := by rw [upto_step hp, if_neg h]
theorem upto_take {keep : List Int} {Q : List (Int × Int)} {F : Int → Bytes × Bytes} {i : Nat} {p : Int × Int} (hp : Q[i]? = some p) (hk : keep ≠ []) (h : (keep.getD (i % keep.length) 0) % 2 = 1) : upto keep Q F (i + 1) = survive (upto keep Q F i) p := by rw [upto_step hp, if_pos ⟨hk, h⟩]
theorem survives_nil : ∀ (Q : List (Int × Int)) (k : Nat) (F : Int → Bytes × Bytes), survives [] k Q F = F
  | [], _, _ => rfl
  | p :: Q, k, F => by rw [survives, if_neg (by simp), survives_nil Q]
theorem upto_end {keep : List Int} {Q : List (Int × Int)} {F : Int → Bytes × Bytes} {i : Nat} (h : i = Q.length ∨ keep = []) : upto keep Q F i = survives keep 0 Q F := by
  rcases h with h | h
  · rw [upto, h, List.take_length]
  · subst h; rw [upto, survives_nil, survives_nil]
def lastR (x : Int × Bytes × Bytes) : Int × Bytes × Bytes := (x.1, x.2.2, x.2.2)
theorem getR_last (l : List (Int × Bytes × Bytes)) (k : Int) : getR (l.map lastR) k = ((getR l k).2, (getR l k).2) := by
  induction l with
  | nil => rfl
  | cons x l ih =>
    simp only [List.map_cons, getR, lastR]
    split
    · rfl
    · exact ih
theorem RInv.last {l : List (Int × Bytes × Bytes)} {D D' : DS} (h : RInv l D) (hF : D'.F = fun k => ((D.F k).2, (D.F k).2)) (hi : DInv D') : RInv (l.map lastR) D' := by
  refine ⟨hi, fun k => by rw [getR_last, h.says, hF], fun x hx => ?_, ?_⟩
  · obtain ⟨y, hy, rfl⟩ := List.mem_map.1 hx; exact h.num y hy
  · rw [List.map_map]; exact h.nodup
theorem last_snoc {l : List (Int × Bytes × Bytes)} {i : Nat} {x : Int × Bytes × Bytes} (hx : l[i]? = some x) : (l.take (i + 1)).map lastR = (l.take i).map lastR ++ [lastR x] := by
  rw [List.take_add_one, hx, List.map_append]; rfl
theorem ones_keep {D : DS} {ks : List Int} {i : Nat} (hI : DInv D) (h : Small (upto ks D.Q D.F i)) : DInv { D with down := true, armed := 0, F := upto ks D.Q D.F i } := { hI with now := h.now, last := h.last, armed := by simp }
theorem crash_begin {w : World} {p : Nat} {kp fv qv : Value} {D : DS} {l : List (Int × Bytes × Bytes)} {F : Th} {ks : List Int} (hI : RInv l D) (h : Sat w [blkT p [fv, qv, intV D.lost, .bool true, intV 0, kp], rowT rfC fv l, rowT scC qv D.Q, F]) : Sat w [refT p kp { D with down := true, armed := 0, F := upto ks D.Q D.F 0 }, F] :=
  refT_shut ⟨fv, qv, l⟩ ⟨{ hI.inv with armed := by simp }, hI.says, hI.num, hI.nodup⟩ h
theorem crash_endR {w : World} {p i : Nat} {kp v fv qv : Value} {D DX : DS} {l l0 : List (Int × Bytes × Bytes)} {F : Th} {ks : List Int} (h0 : RInv l0 D) (hd : D.down = false) (hI : RInv l DX) (hF : ∀ k, DX.F k = survives ks 0 D.Q D.F k) (hlost : DX.lost = D.lost) (hdown : DX.down = true) (harm : DX.armed = 0) (hi : i = l.length)
    (h : Sat w [rowT rfC v ((l.take i).map lastR), blkT p [v, .slice none 0 0, intV DX.lost, .bool DX.down, intV DX.armed, kp], rowT rfC fv l, rowT scC qv D.Q, F]) : Sat w [refT p kp (crashD D ks), F] := by
  subst hi
  rw [List.take_length, hlost, hdown, harm] at h
  have e : crashD D ks = { D with down := true, armed := 0, F := fun k => ((DX.F k).2, (DX.F k).2), Q := [] } := by
    simp only [crashD, hd, hF]; rfl
  rw [e]
  have hI2 : RInv (l.map lastR) { D with down := true, armed := 0, F := fun k => ((DX.F k).2, (DX.F k).2), Q := [] } := by
    refine hI.last rfl { h0.inv with now := fun k => hI.inv.last k, last := fun k => hI.inv.last k, armed := by simp, nodup := by simp, secs := by simp }
  exact refT_shut ⟨v, .slice none 0 0, l.map lastR⟩ hI2 (((h.pick [1, 0, 4] rfl).row_nil scC).pick [1, 2, 0, 3] rfl)
set_option maxRecDepth 100000 in
theorem crashR_sp {w : World} {p : Nat} {kp : Value} {D : DS} {F : Th} (hS : Sat w [refT p kp D, F]) {kv : Value} {ks : List Int} (hK : Ent F (RdL inC kv ks)) :
    Calls Tryd.prog 28 #[ptrV p 0, kv] w (Ret fun v w' => v = .tuple #[] ∧ Sat w' [refT p kp (crashD D ks), F]) := by
  obtain ⟨ao, capk, rfl, hkmax⟩ := (hK.sat hS 1 rfl).shape
  obtain ⟨⟨fv, qv, l⟩, hI, hS⟩ := refT_open hS; dsimp only at hI hS
  have hI0 := hI
  have hcntq := sec_count hI.inv.secs hI.inv.nodup
  refine calls_enter Tryd.func28 rfl Tryd.ntmps28 rfl ?_
  refine wc_seq ?_
  refine wc_seq ?_
  refine wc_region ?_
  refine wl_move rfl rfl ?_
  refine wl_nilCheck rfl rfl ?_
  refine wl_fieldAddr rfl fo_65_3 rfl ?_
  refine wl_load rfl ag_4 (by first | assumption | exact hS.cell 0 rfl rfl) rfl ?_
  refine wl_nil ?_
  refine qs_seq ?_
  refine wc_cond rfl (fun h1 => ?_) (fun h1 => ?_)
  · skip
    have hd : D.down = true := h1
    refine wc_ret ?_
    refine qs_then_ret ?_
    refine fin0 (.inr rfl) rfl ?_
    exact ⟨_, rfl, rfl, by rw [crashD, if_pos hd]; exact refT_shut ⟨fv, qv, l⟩ hI hS⟩
  · skip
    have hd : D.down = false := h1
    refine wc_skip ?_
    refine qs_seq ?_
    refine wc_seq ?_
    refine wc_region ?_
    refine wl_move rfl rfl ?_
    refine wl_nilCheck rfl rfl ?_
    refine wl_fieldAddr rfl fo_65_3 rfl ?_
    first | (refine wl_store hS rfl rfl sz_4 (by first | rfl | assumption | exact hS.own_one 1 rfl | exact hS.own_one 2 rfl) (i := 0) rfl (by first | decide | exact Nat.le_of_ble_eq_true rfl | (simp; done) | omega) ?_)
    intro w2 hS3; dsimp only [List.set] at hS3
    refine wl_nil ?_
    refine qs_seq ?_
    refine wc_seq ?_
    refine wc_region ?_
    refine wl_move rfl rfl ?_
    refine wl_nilCheck rfl rfl ?_
    refine wl_fieldAddr rfl fo_65_4 rfl ?_
    first | (refine wl_store hS3 rfl rfl sz_3 (by first | rfl | assumption | exact hS3.own_one 1 rfl | exact hS3.own_one 2 rfl) (i := 0) rfl (by first | decide | exact Nat.le_of_ble_eq_true rfl | (simp; done) | omega) ?_)
    intro w4 hS5; dsimp only [List.set] at hS5
    clear hS3
    refine wl_nil ?_
    refine qs_seq ?_
    refine wc_sub (L' := [(0, _), (1, _)]) (.cons rfl (.cons rfl .nil)) ?_
    refine wc_seq ?_
    refine wc_seq ?_
    refine wc_region ?_
    refine wl_assign rfl rfl ?_
    refine wl_nil ?_
    refine qs_seq ?_
    refine wc_block ?_
    refine wc_loop (fun K0 E0 W0 => ∃ (i : Nat), K0 = D.Q.length - i ∧ E0 = [(0, ptrV p 0), (1, .slice ao ks.length capk), (4, intV (i : Int))] ∧ Sat W0 [refT p kp { D with down := true, armed := 0, F := upto ks D.Q D.F i }, F] ∧ (i ≤ D.Q.length)) (L0 := [(0, _), (1, _), (4, _)]) (D.Q.length) (.cons rfl (.cons rfl (.cons rfl .nil))) ⟨0, by omega, rfl, crash_begin hI hS5, by omega⟩ ?_
    rintro _ _ w6 ⟨i, rfl, rfl, hS6, hi⟩
    refine wc_seq ?_
    refine wc_seq ?_
    obtain ⟨⟨fv, qv, l⟩, hI, hS6⟩ := refT_open (hS6.pull 0 rfl); dsimp only [List.eraseIdx] at hI hS6
    refine wc_region ?_
    refine wl_move rfl rfl ?_
    refine wl_move rfl rfl ?_
    refine wl_nilCheck rfl rfl ?_
    refine wl_fieldAddr rfl fo_65_1 rfl ?_
    refine wl_load rfl ag_63 (by first | assumption | exact hS6.cell 0 rfl rfl) rfl ?_
    first | refine wl_lenL Tryd.underlying63 rfl rfl ?_ | refine wl_lenO 1 hS6 Tryd.underlying63 rfl rfl rfl ?_ | refine wl_lenO 2 hS6 Tryd.underlying63 rfl rfl rfl ?_
    refine wl_lss rfl rfl rfl ?_
    refine wl_move rfl rfl ?_
    refine wl_splitD 24 rfl (fun h7 => ?_) (fun h7 => ?_)
    · skip
      refine wl_guard rfl rfl (decide_eq_true h7) ?_
      refine wl_move rfl rfl ?_
      refine wl_guard rfl rfl (decide_eq_true h7) ?_
      first | refine wl_lenL Tryd.underlying39 rfl rfl ?_ | refine wl_lenO 1 hS6 Tryd.underlying39 rfl rfl rfl ?_ | refine wl_lenO 2 hS6 Tryd.underlying39 rfl rfl rfl ?_
      refine wl_guard rfl rfl (decide_eq_true h7) ?_
      refine wl_gtr rfl rfl rfl ?_
      refine wl_pickT rfl (decide_eq_true h7) rfl rfl ?_
      refine wl_nil ?_
      refine qs_seq ?_
      refine wc_sub (L' := [(28, _), (0, _), (1, _), (4, _)]) (.cons rfl (.cons rfl (.cons rfl (.cons rfl .nil)))) ?_
      refine wc_condD rfl (fun h8 => ?_) (fun h8 => ?_)
      · skip
        obtain ⟨⟨q1, q2⟩, hq⟩ : ∃ q, D.Q[i]? = some q := ⟨_, List.getElem?_eq_getElem (by omega)⟩
        have hsec := hI.inv.secs _ (List.mem_of_getElem? hq)
        have hkl : 0 < ks.length := by omega
        have hkn : ks ≠ [] := by intro e; simp [e] at hkl
        obtain ⟨x, hx⟩ : ∃ x, ks[i % ks.length]? = some x := ⟨_, List.getElem?_eq_getElem (Nat.mod_lt _ hkl)⟩
        have hkx : ks.getD (i % ks.length) 0 = x := by simp [List.getD_eq_getElem?_getD, hx]
        obtain ⟨bk, ok, rfl, hc⟩ := (hK.sat hS6 3 rfl).get hx
        have hcell : _ = some (intV x) := hc 0 _ rfl
        refine wc_skip ?_
        refine qs_seq ?_
        refine wc_seq ?_
        refine wc_block ?_
        refine wc_seq ?_
        refine wc_region ?_
        refine wl_move rfl rfl ?_
        refine wl_move rfl rfl ?_
        refine wl_move rfl rfl ?_
        first | refine wl_lenL Tryd.underlying39 rfl rfl ?_ | refine wl_lenO 1 hS6 Tryd.underlying39 rfl rfl rfl ?_ | refine wl_lenO 2 hS6 Tryd.underlying39 rfl rfl rfl ?_
        refine wl_rem rfl rfl (by omega) (by omega) rfl ?_
        refine wl_indexAddr (i % ks.length) rfl rfl (by first | rfl | omega) (by exact Nat.mod_lt _ hkl) es_39 rfl ?_
        refine wl_load rfl ag_3 (by first | assumption | exact hS6.cell 0 rfl rfl) rfl ?_
        refine wl_mask 1 rfl rfl rfl rfl (q := 2) rfl rfl ?_
        refine wl_eql rfl rfl rfl ?_
        refine wl_nil ?_
        refine qs_seq ?_
        refine wc_sub (L' := [(39, _), (0, _), (1, _), (4, _)]) (.cons rfl (.cons rfl (.cons rfl (.cons rfl .nil)))) ?_
        refine wc_condD rfl (fun h9 => ?_) (fun h9 => ?_)
        · skip
          refine wc_region ?_
          refine wl_move rfl rfl ?_
          refine wl_move rfl rfl ?_
          refine wl_nilCheck rfl rfl ?_
          refine wl_fieldAddr rfl fo_65_1 rfl ?_
          refine wl_load rfl ag_63 (by first | assumption | exact hS6.cell 0 rfl rfl) rfl ?_
          refine wl_move rfl rfl ?_
          refine wl_rowIdx scC 2 i hS6 rfl rfl rfl (by first | rfl | omega) hq es_63 rfl ?_
          intro bx10 capx10 hvx10
          refine wl_rowLoadA 2 i hS6 rfl hvx10 rfl hq ag_84 sz_84 rfl rfl ?_
          have hS6' := refT_shut (D := { D with down := true, armed := 0, F := upto ks D.Q D.F i }) ⟨fv, qv, l⟩   hI hS6; replace hS6 := hS6'; clear hS6'
          have hC11 := hS6.split [0] [true, false] rfl; dsimp only [selF, pickA, nthA, List.cons_append, List.nil_append] at hC11
          refine wl_call cal_46 rfl (survR_sp hC11 q1 q2 hsec.1 hsec.2) rfl ?_
          rintro e w11 ⟨_, rfl, rfl, hS11⟩; refine ⟨_, rfl, ?_⟩
          replace hS11 := hS11.join rfl; dsimp only [List.dropLast, List.cons_append, List.nil_append] at hS11; clear hC11
          clear hS6
          refine wl_nil ?_
          refine qs_block_normal ?_
          refine qs_seq ?_
          refine wc_sub (L' := [(0, _), (1, _), (4, _)]) (.cons rfl (.cons rfl (.cons rfl .nil))) ?_
          refine wc_region ?_
          refine wl_move rfl rfl ?_
          refine wl_add rfl rfl (by omega) (by omega) rfl ?_
          refine wl_assign rfl rfl ?_
          refine wl_nil ?_
          exact qs_round (L1 := [(0, _), (1, _), (4, intV ((i + 1 : Nat) : Int))]) (.cons rfl (.cons rfl (.cons rfl .nil))) (k1 := D.Q.length - (i + 1)) (by omega) ⟨i + 1, by omega, rfl, by rw [upto_take hq hkn (by rw [hkx]; omega)]; exact hS11, by omega⟩
        · skip
          refine wc_skip ?_
          refine qs_block_normal ?_
          refine qs_seq ?_
          refine wc_region ?_
          refine wl_move rfl rfl ?_
          refine wl_add rfl rfl (by omega) (by omega) rfl ?_
          refine wl_assign rfl rfl ?_
          refine wl_nil ?_
          exact qs_round (L1 := [(0, _), (1, _), (4, intV ((i + 1 : Nat) : Int))]) (.cons rfl (.cons rfl (.cons rfl .nil))) (k1 := D.Q.length - (i + 1)) (by omega) ⟨i + 1, by omega, rfl, by rw [upto_skip hq (by rw [hkx]; omega)]; exact refT_shut (D := { D with down := true, armed := 0, F := upto ks D.Q D.F i }) ⟨fv, qv, l⟩ hI hS6, by omega⟩
      · skip
        refine wc_exit ?_
        refine qs_then_exit ?_
        refine qs_then_exit ?_
        refine qs_block_exit ?_
        refine qs_seq ?_
        refine wc_seq ?_
        have hcnt := hI.count
        have hue : upto ks D.Q D.F i = survives ks 0 D.Q D.F := upto_end (.inr (List.length_eq_zero_iff.1 (by omega)))
        obtain ⟨DX, hDX⟩ : ∃ X : DS, X = { D with down := true, armed := 0, F := upto ks D.Q D.F i } := ⟨_, rfl⟩
        rw [← hDX] at hI
        change Sat _ [blkT p (cellsR ⟨fv, qv, l⟩ kp { D with down := true, armed := 0, F := upto ks D.Q D.F i }), _, _, _] at hS6; rw [← hDX] at hS6
        have hF : ∀ k, DX.F k = survives ks 0 D.Q D.F k := fun k => by rw [hDX, ← hue]
        refine wc_region ?_
        refine wl_assign rfl rfl ?_
        refine wl_nil ?_
        refine qs_seq ?_
        refine wc_seq ?_
        refine wc_seq ?_
        refine wc_region ?_
        refine wl_assign rfl rfl ?_
        refine wl_nil ?_
        refine qs_seq ?_
        refine wc_block ?_
        refine wc_loop (fun K0 E0 W0 => ∃ (i : Nat) (v : Value), K0 = l.length - i ∧ E0 = [(0, ptrV p 0), (5, v), (6, intV (i : Int))] ∧ Sat W0 [rowT rfC v ((l.take i).map lastR), blkT p (cellsR ⟨fv, qv, l⟩ kp DX), rowT rfC fv l, rowT scC qv D.Q, F] ∧ (i ≤ l.length)) (L0 := [(0, _), (5, _), (6, _)]) (l.length) (.cons rfl (.cons rfl (.cons rfl .nil))) ⟨0, _, by omega, rfl, hS6.row_nil rfC, by omega⟩ ?_
        rintro _ _ w12 ⟨i, v, rfl, rfl, hS12, hi⟩
        refine wc_seq ?_
        refine wc_seq ?_
        refine wc_region ?_
        refine wl_move rfl rfl ?_
        refine wl_move rfl rfl ?_
        refine wl_nilCheck rfl rfl ?_
        refine wl_fieldAddr rfl fo_65_0 rfl ?_
        refine wl_load rfl ag_62 (by first | assumption | exact hS12.cell 1 rfl rfl) rfl ?_
        first | refine wl_lenL Tryd.underlying62 rfl rfl ?_ | refine wl_lenO 0 hS12 Tryd.underlying62 rfl rfl rfl ?_ | refine wl_lenO 2 hS12 Tryd.underlying62 rfl rfl rfl ?_ | refine wl_lenO 3 hS12 Tryd.underlying62 rfl rfl rfl ?_
        refine wl_lss rfl rfl rfl ?_
        refine wl_nil ?_
        refine qs_seq ?_
        refine wc_condD rfl (fun h13 => ?_) (fun h13 => ?_)
        · skip
          obtain ⟨x, hx⟩ : ∃ x, l[i]? = some x := ⟨_, List.getElem?_eq_getElem (by omega)⟩
          obtain ⟨bf, cf, hfv, _⟩ := hS12.own_at 2 rfl (by omega)
          subst hfv
          refine wc_skip ?_
          refine qs_seq ?_
          refine wc_seq ?_
          refine wc_block ?_
          have hS14 := hS12.drew
          refine wc_draw [0, 1, 2, 3, 4, 5, 6, 7, 8, 9, 10, 11, 12, 13, 14, 15, 16, 17, 18, 19, 20, 21, 22, 23, 24, 25, 26, 27, 28] [26, 27] mix (by kernel_rfl) ?_
          refine vc_p rfl rfl rfl (fun _ => (ev_move rfl)) ?_
          refine vc_p rfl rfl rfl (fun _ => (ev_move rfl)) ?_
          refine vc_p rfl rfl rfl (fun _ => (ev_nilCheck rfl)) ?_
          refine vc_p rfl rfl rfl (fun _ => (ev_fieldAddr rfl fo_65_0)) ?_
          refine vc_q rfl rfl rfl (ev_load rfl ag_62 (by first | assumption | exact hS14.cell 1 rfl rfl)) ?_
          refine vc_p rfl rfl rfl (fun _ => (ev_move rfl)) ?_
          refine vc_p rfl rfl rfl (fun _ => (ev_indexAddr i rfl rfl (by first | rfl | omega) (by first | omega | exact (List.getElem?_eq_some_iff.1 hx).1) es_62)) ?_
          refine vc_p rfl rfl rfl (fun _ => (ev_fieldAddr rfl fo_86_0)) ?_
          refine vc_q rfl rfl rfl (ev_rowLoad0 rfC 2 i 0 hS14 rfl hx ag_3 rfl rfl) ?_
          refine vc_p rfl rfl rfl (fun _ => (ev_move rfl)) ?_
          refine vc_p rfl rfl rfl (fun _ => (ev_nilCheck rfl)) ?_
          refine vc_p rfl rfl rfl (fun _ => (ev_fieldAddr rfl fo_65_0)) ?_
          refine vc_q rfl rfl rfl (ev_load rfl ag_62 (by first | assumption | exact hS14.cell 1 rfl rfl)) ?_
          refine vc_p rfl rfl rfl (fun _ => (ev_move rfl)) ?_
          refine vc_p rfl rfl rfl (fun _ => (ev_indexAddr i rfl rfl (by first | rfl | omega) (by first | omega | exact (List.getElem?_eq_some_iff.1 hx).1) es_62)) ?_
          refine vc_p rfl rfl rfl (fun _ => (ev_fieldAddr rfl fo_86_2)) ?_
          refine vc_q rfl rfl rfl (ev_rowLoad0 rfC 2 i 2 hS14 rfl hx ag_9 rfl rfl) ?_
          refine vc_p rfl rfl rfl (fun _ => (ev_move rfl)) ?_
          refine vc_p rfl rfl rfl (fun _ => (ev_nilCheck rfl)) ?_
          refine vc_p rfl rfl rfl (fun _ => (ev_fieldAddr rfl fo_65_0)) ?_
          refine vc_q rfl rfl rfl (ev_load rfl ag_62 (by first | assumption | exact hS14.cell 1 rfl rfl)) ?_
          refine vc_p rfl rfl rfl (fun _ => (ev_move rfl)) ?_
          refine vc_p rfl rfl rfl (fun _ => (ev_indexAddr i rfl rfl (by first | rfl | omega) (by first | omega | exact (List.getElem?_eq_some_iff.1 hx).1) es_62)) ?_
          refine vc_p rfl rfl rfl (fun _ => (ev_fieldAddr rfl fo_86_2)) ?_
          refine vc_q rfl rfl rfl (ev_rowLoad0 rfC 2 i 2 hS14 rfl hx ag_9 rfl rfl) ?_
          refine vc_p rfl rfl rfl (fun _ => (ev_buildS rfl pl_86_0_1_2 asz_86 zr_86 rfl)) ?_
          refine vc_s rfl rfl rfl rfl rfl rfl ?_
          refine wl_rowBuild rfC [lastR x] hS14 rfl Tryd.underlying62 ifz_86 rfl rfl rfl rfl (by first | rfl | simp [RowC.cells, fillL, splice]) rfl ?_
          intro b15 w15 hS15
          clear hS14
          refine vc_e (.skip (by kernel_rfl) (.skip (by kernel_rfl) (.skip (by kernel_rfl) (.skip (by kernel_rfl) (.skip (by kernel_rfl) (.skip (by kernel_rfl) .nil)))))) ?_
          refine vc_s rfl rfl rfl rfl rfl rfl ?_
          refine wl_rowApp rfC 1 hS15 rfl rfl rfl (hS15.rd 0 rfl (by simp)) Tryd.underlying62 Tryd.underlying62 (by intro k hk; cases hk) ifo_86 rfl (by have := hcnt; simp only [List.length_map, List.length_take, List.length_cons, List.length_nil]; omega) rfl (by have := hcnt; simp only [List.length_map, List.length_take, List.length_cons, List.length_nil]; omega) ?_
          intro v16 w16 hS16; dsimp only [List.set] at hS16
          clear hS15
          have h1v16 : v16.oneCell' = true := hS16.own_one 1 rfl
          refine vc_e (.skip (by kernel_rfl) (.skip (by kernel_rfl) (.skip (by kernel_rfl) (.skip (by kernel_rfl) (.skip (by kernel_rfl) (.skip (by kernel_rfl) .nil)))))) ?_
          refine vc_p rfl rfl rfl (fun _ => (ev_assign rfl)) ?_
          refine VC.nil ?_
          refine qs_block_normal ?_
          refine qs_seq ?_
          refine wc_sub (L' := [(5, _), (0, _), (6, _)]) (.cons rfl (.cons rfl (.cons rfl .nil))) ?_
          refine wc_region ?_
          refine wl_move rfl rfl ?_
          refine wl_add rfl rfl (by omega) (by omega) rfl ?_
          refine wl_assign rfl rfl ?_
          refine wl_nil ?_
          exact qs_round (L1 := [(0, _), (5, _), (6, intV ((i + 1 : Nat) : Int))]) (.cons rfl (.cons rfl (.cons rfl .nil))) (k1 := l.length - (i + 1)) (by omega) ⟨i + 1, _, by omega, rfl, by rw [last_snoc hx]; exact hS16.tail, by omega⟩
        · skip
          refine wc_exit ?_
          refine qs_then_exit ?_
          refine qs_then_exit ?_
          refine qs_block_exit ?_
          refine qs_seq ?_
          refine wc_seq ?_
          refine wc_region ?_
          refine wl_move rfl rfl ?_
          refine wl_move rfl rfl ?_
          refine wl_nilCheck rfl rfl ?_
          refine wl_fieldAddr rfl fo_65_0 rfl ?_
          first | (refine wl_store hS12 rfl rfl sz_62 (by first | rfl | assumption | exact hS12.own_one 0 rfl | exact hS12.own_one 2 rfl | exact hS12.own_one 3 rfl) (i := 1) rfl (by first | decide | exact Nat.le_of_ble_eq_true rfl | (simp; done) | omega) ?_)
          intro w17 hS18; dsimp only [List.set] at hS18
          clear hS12
          refine wl_nil ?_
          refine qs_seq ?_
          refine wc_sub (L' := [(0, _)]) (.cons rfl .nil) ?_
          refine wc_region ?_
          refine wl_move rfl rfl ?_
          refine wl_nilCheck rfl rfl ?_
          refine wl_fieldAddr rfl fo_65_1 rfl ?_
          first | (refine wl_store hS18 rfl rfl sz_63 (by first | rfl | assumption | exact hS18.own_one 0 rfl | exact hS18.own_one 2 rfl | exact hS18.own_one 3 rfl) (i := 1) rfl (by first | decide | exact Nat.le_of_ble_eq_true rfl | (simp; done) | omega) ?_)
          intro w19 hS20; dsimp only [List.set] at hS20
          clear hS18
          refine wl_nil ?_
          refine fin0 (.inl rfl) rfl ?_
          exact ⟨_, rfl, rfl, crash_endR hI0 hd hI hF (by rw [hDX]) (by rw [hDX]) (by rw [hDX]) (by omega) hS20⟩
    · skip
      refine wl_unwanted rfl rfl (decide_eq_false h7) rfl ?_
      refine wl_unwanted rfl rfl (decide_eq_false h7) rfl ?_
      refine wl_unwanted rfl rfl (decide_eq_false h7) rfl ?_
      refine wl_pickF rfl (decide_eq_false h7) rfl rfl ?_
      refine wl_nil ?_
      refine qs_seq ?_
      refine wc_sub (L' := [(28, _), (0, _), (1, _), (4, _)]) (.cons rfl (.cons rfl (.cons rfl (.cons rfl .nil)))) ?_
      refine wc_condF rfl ?_
      refine wc_exit ?_
      refine qs_then_exit ?_
      refine qs_then_exit ?_
      refine qs_block_exit ?_
      refine qs_seq ?_
      refine wc_seq ?_
      have hcnt := hI.count
      have hue : upto ks D.Q D.F i = survives ks 0 D.Q D.F := upto_end (.inl (by omega))
      obtain ⟨DX, hDX⟩ : ∃ X : DS, X = { D with down := true, armed := 0, F := upto ks D.Q D.F i } := ⟨_, rfl⟩
      rw [← hDX] at hI
      change Sat _ [blkT p (cellsR ⟨fv, qv, l⟩ kp { D with down := true, armed := 0, F := upto ks D.Q D.F i }), _, _, _] at hS6; rw [← hDX] at hS6
      have hF : ∀ k, DX.F k = survives ks 0 D.Q D.F k := fun k => by rw [hDX, ← hue]
      refine wc_region ?_
      refine wl_assign rfl rfl ?_
      refine wl_nil ?_
      refine qs_seq ?_
      refine wc_seq ?_
      refine wc_seq ?_
      refine wc_region ?_
      refine wl_assign rfl rfl ?_
      refine wl_nil ?_
      refine qs_seq ?_
      refine wc_block ?_
      refine wc_loop (fun K0 E0 W0 => ∃ (i : Nat) (v : Value), K0 = l.length - i ∧ E0 = [(0, ptrV p 0), (5, v), (6, intV (i : Int))] ∧ Sat W0 [rowT rfC v ((l.take i).map lastR), blkT p (cellsR ⟨fv, qv, l⟩ kp DX), rowT rfC fv l, rowT scC qv D.Q, F] ∧ (i ≤ l.length)) (L0 := [(0, _), (5, _), (6, _)]) (l.length) (.cons rfl (.cons rfl (.cons rfl .nil))) ⟨0, _, by omega, rfl, hS6.row_nil rfC, by omega⟩ ?_
      rintro _ _ w21 ⟨i, v, rfl, rfl, hS21, hi⟩
      refine wc_seq ?_
      refine wc_seq ?_
      refine wc_region ?_
      refine wl_move rfl rfl ?_
      refine wl_move rfl rfl ?_
      refine wl_nilCheck rfl rfl ?_
      refine wl_fieldAddr rfl fo_65_0 rfl ?_
      refine wl_load rfl ag_62 (by first | assumption | exact hS21.cell 1 rfl rfl) rfl ?_
      first | refine wl_lenL Tryd.underlying62 rfl rfl ?_ | refine wl_lenO 0 hS21 Tryd.underlying62 rfl rfl rfl ?_ | refine wl_lenO 2 hS21 Tryd.underlying62 rfl rfl rfl ?_ | refine wl_lenO 3 hS21 Tryd.underlying62 rfl rfl rfl ?_
      refine wl_lss rfl rfl rfl ?_
      refine wl_nil ?_
      refine qs_seq ?_
      refine wc_condD rfl (fun h22 => ?_) (fun h22 => ?_)
      · skip
        obtain ⟨x, hx⟩ : ∃ x, l[i]? = some x := ⟨_, List.getElem?_eq_getElem (by omega)⟩
        obtain ⟨bf, cf, hfv, _⟩ := hS21.own_at 2 rfl (by omega)
        subst hfv
        refine wc_skip ?_
        refine qs_seq ?_
        refine wc_seq ?_
        refine wc_block ?_
        have hS23 := hS21.drew
        refine wc_draw [0, 1, 2, 3, 4, 5, 6, 7, 8, 9, 10, 11, 12, 13, 14, 15, 16, 17, 18, 19, 20, 21, 22, 23, 24, 25, 26, 27, 28] [26, 27] mix (by kernel_rfl) ?_
        refine vc_p rfl rfl rfl (fun _ => (ev_move rfl)) ?_
        refine vc_p rfl rfl rfl (fun _ => (ev_move rfl)) ?_
        refine vc_p rfl rfl rfl (fun _ => (ev_nilCheck rfl)) ?_
        refine vc_p rfl rfl rfl (fun _ => (ev_fieldAddr rfl fo_65_0)) ?_
        refine vc_q rfl rfl rfl (ev_load rfl ag_62 (by first | assumption | exact hS23.cell 1 rfl rfl)) ?_
        refine vc_p rfl rfl rfl (fun _ => (ev_move rfl)) ?_
        refine vc_p rfl rfl rfl (fun _ => (ev_indexAddr i rfl rfl (by first | rfl | omega) (by first | omega | exact (List.getElem?_eq_some_iff.1 hx).1) es_62)) ?_
        refine vc_p rfl rfl rfl (fun _ => (ev_fieldAddr rfl fo_86_0)) ?_
        refine vc_q rfl rfl rfl (ev_rowLoad0 rfC 2 i 0 hS23 rfl hx ag_3 rfl rfl) ?_
        refine vc_p rfl rfl rfl (fun _ => (ev_move rfl)) ?_
        refine vc_p rfl rfl rfl (fun _ => (ev_nilCheck rfl)) ?_
        refine vc_p rfl rfl rfl (fun _ => (ev_fieldAddr rfl fo_65_0)) ?_
        refine vc_q rfl rfl rfl (ev_load rfl ag_62 (by first | assumption | exact hS23.cell 1 rfl rfl)) ?_
        refine vc_p rfl rfl rfl (fun _ => (ev_move rfl)) ?_
        refine vc_p rfl rfl rfl (fun _ => (ev_indexAddr i rfl rfl (by first | rfl | omega) (by first | omega | exact (List.getElem?_eq_some_iff.1 hx).1) es_62)) ?_
        refine vc_p rfl rfl rfl (fun _ => (ev_fieldAddr rfl fo_86_2)) ?_
        refine vc_q rfl rfl rfl (ev_rowLoad0 rfC 2 i 2 hS23 rfl hx ag_9 rfl rfl) ?_
        refine vc_p rfl rfl rfl (fun _ => (ev_move rfl)) ?_
        refine vc_p rfl rfl rfl (fun _ => (ev_nilCheck rfl)) ?_
        refine vc_p rfl rfl rfl (fun _ => (ev_fieldAddr rfl fo_65_0)) ?_
        refine vc_q rfl rfl rfl (ev_load rfl ag_62 (by first | assumption | exact hS23.cell 1 rfl rfl)) ?_
        refine vc_p rfl rfl rfl (fun _ => (ev_move rfl)) ?_
        refine vc_p rfl rfl rfl (fun _ => (ev_indexAddr i rfl rfl (by first | rfl | omega) (by first | omega | exact (List.getElem?_eq_some_iff.1 hx).1) es_62)) ?_
        refine vc_p rfl rfl rfl (fun _ => (ev_fieldAddr rfl fo_86_2)) ?_
        refine vc_q rfl rfl rfl (ev_rowLoad0 rfC 2 i 2 hS23 rfl hx ag_9 rfl rfl) ?_
        refine vc_p rfl rfl rfl (fun _ => (ev_buildS rfl pl_86_0_1_2 asz_86 zr_86 rfl)) ?_
        refine vc_s rfl rfl rfl rfl rfl rfl ?_
        refine wl_rowBuild rfC [lastR x] hS23 rfl Tryd.underlying62 ifz_86 rfl rfl rfl rfl (by first | rfl | simp [RowC.cells, fillL, splice]) rfl ?_
        intro b24 w24 hS24
        clear hS23
        refine vc_e (.skip (by kernel_rfl) (.skip (by kernel_rfl) (.skip (by kernel_rfl) (.skip (by kernel_rfl) (.skip (by kernel_rfl) (.skip (by kernel_rfl) .nil)))))) ?_
        refine vc_s rfl rfl rfl rfl rfl rfl ?_
        refine wl_rowApp rfC 1 hS24 rfl rfl rfl (hS24.rd 0 rfl (by simp)) Tryd.underlying62 Tryd.underlying62 (by intro k hk; cases hk) ifo_86 rfl (by have := hcnt; simp only [List.length_map, List.length_take, List.length_cons, List.length_nil]; omega) rfl (by have := hcnt; simp only [List.length_map, List.length_take, List.length_cons, List.length_nil]; omega) ?_
        intro v25 w25 hS25; dsimp only [List.set] at hS25
        clear hS24
        have h1v25 : v25.oneCell' = true := hS25.own_one 1 rfl
        refine vc_e (.skip (by kernel_rfl) (.skip (by kernel_rfl) (.skip (by kernel_rfl) (.skip (by kernel_rfl) (.skip (by kernel_rfl) (.skip (by kernel_rfl) .nil)))))) ?_
        refine vc_p rfl rfl rfl (fun _ => (ev_assign rfl)) ?_
        refine VC.nil ?_
        refine qs_block_normal ?_
        refine qs_seq ?_
        refine wc_sub (L' := [(5, _), (0, _), (6, _)]) (.cons rfl (.cons rfl (.cons rfl .nil))) ?_
        refine wc_region ?_
        refine wl_move rfl rfl ?_
        refine wl_add rfl rfl (by omega) (by omega) rfl ?_
        refine wl_assign rfl rfl ?_
        refine wl_nil ?_
        exact qs_round (L1 := [(0, _), (5, _), (6, intV ((i + 1 : Nat) : Int))]) (.cons rfl (.cons rfl (.cons rfl .nil))) (k1 := l.length - (i + 1)) (by omega) ⟨i + 1, _, by omega, rfl, by rw [last_snoc hx]; exact hS25.tail, by omega⟩
      · skip
        refine wc_exit ?_
        refine qs_then_exit ?_
        refine qs_then_exit ?_
        refine qs_block_exit ?_
        refine qs_seq ?_
        refine wc_seq ?_
        refine wc_region ?_
        refine wl_move rfl rfl ?_
        refine wl_move rfl rfl ?_
        refine wl_nilCheck rfl rfl ?_
        refine wl_fieldAddr rfl fo_65_0 rfl ?_
        first | (refine wl_store hS21 rfl rfl sz_62 (by first | rfl | assumption | exact hS21.own_one 0 rfl | exact hS21.own_one 2 rfl | exact hS21.own_one 3 rfl) (i := 1) rfl (by first | decide | exact Nat.le_of_ble_eq_true rfl | (simp; done) | omega) ?_)
        intro w26 hS27; dsimp only [List.set] at hS27
        clear hS21
        refine wl_nil ?_
        refine qs_seq ?_
        refine wc_sub (L' := [(0, _)]) (.cons rfl .nil) ?_
        refine wc_region ?_
        refine wl_move rfl rfl ?_
        refine wl_nilCheck rfl rfl ?_
        refine wl_fieldAddr rfl fo_65_1 rfl ?_
        first | (refine wl_store hS27 rfl rfl sz_63 (by first | rfl | assumption | exact hS27.own_one 0 rfl | exact hS27.own_one 2 rfl | exact hS27.own_one 3 rfl) (i := 1) rfl (by first | decide | exact Nat.le_of_ble_eq_true rfl | (simp; done) | omega) ?_)
        intro w28 hS29; dsimp only [List.set] at hS29
        clear hS27
        refine wl_nil ?_
        refine fin0 (.inl rfl) rfl ?_
        exact ⟨_, rfl, rfl, crash_endR hI0 hd hI hF (by rw [hDX]) (by rw [hDX]) (by rw [hDX]) (by omega) hS29⟩

end Go.Proofs.YtleaahajkncnpaaDoor
