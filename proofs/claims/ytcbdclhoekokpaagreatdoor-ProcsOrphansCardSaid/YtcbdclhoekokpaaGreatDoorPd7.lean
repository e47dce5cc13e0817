/- laws of procs: ProcsOrphans -/
import Derived.Test.YtcbdclhoekokpaaGreatDoorPd4
import Derived.Test.YtcbdclhoekokpaaGreatDoorPc8
import Derived.ChangeKeysEq
import Derived.Laws.StructEq
namespace Go.Proofs.YtcbdclhoekokpaaGreatDoor
open Go.RowKit M
set_option linter.unusedVariables false
def keepB (par : Int) (x : ProcD) : Bool := !(decide (hq x 1 = par) && decide (hq x 5 = 3))
noncomputable def leftN (W : WS) (kl : List Bs) (par : Int) (i : Nat) : Nat := (((recsF W (fun _ => true) kl).take i).filter (keepB par)).length
theorem leftN_zero (W : WS) (kl : List Bs) (par : Int) : leftN W kl par 0 = 0 := by unfold leftN; simp
theorem leftN_keep {W : WS} {kl : List Bs} {par : Int} {i : Nat} {x : ProcD} (hx : (recsF W (fun _ => true) kl)[i]? = some x) (hk : keepB par x = true) : leftN W kl par (i + 1) = leftN W kl par i + 1 := by
  unfold leftN; rw [List.take_add_one, hx, List.filter_append]; simp [hk]
theorem leftN_drop {W : WS} {kl : List Bs} {par : Int} {i : Nat} {x : ProcD} (hx : (recsF W (fun _ => true) kl)[i]? = some x) (hk : keepB par x = false) : leftN W kl par (i + 1) = leftN W kl par i := by
  unfold leftN; rw [List.take_add_one, hx, List.filter_append]; simp [hk]
theorem leftN_le (W : WS) (kl : List Bs) (par : Int) (i : Nat) : leftN W kl par i ≤ i := by
  unfold leftN
  refine Nat.le_trans (List.length_filter_le _ _) ?_
  rw [List.length_take]; omega
theorem pids_len (W : WS) (pr : ProcD → Bool) (kl : List Bs) : (pidsF W pr kl).length = (recsF W pr kl).length := by unfold pidsF; rw [List.length_map]
theorem kids_none {W W2 : WS} {par : Int} (hB : TB W) (hr : RepP W par W2) (hp : par ≠ 1) {kl : List Bs} (hk : KeysOf W2.cells [80, 47] kl) : pidsF W2 (fun x => decide (hq x 1 = par)) kl = [] := by
  cases hq : pidsF W2 (fun x => decide (hq x 1 = par)) kl with
  | nil => rfl
  | cons n l =>
    obtain ⟨y, hy, h1⟩ := (mem_pids hk (pr := fun x => decide (Go.Proofs.YtcbdclhoekokpaaGreatDoor.hq x 1 = par)) (n := n)).1 (by rw [hq]; simp)
    rw [rep_get hB hr] at hy
    cases hx : getW W n with
    | none => rw [hx] at hy; cases hy
    | some x =>
      rw [hx] at hy
      unfold repG at hy; dsimp only at hy
      split at hy
      · split at hy
        · cases hy
        · cases hy
          rw [hq_setPar (getW_wf hB hx).1] at h1
          simp at h1; omega
      · cases hy
        rename_i q
        exact absurd ⟨hp, by simpa using h1⟩ q
theorem orph_all {W W2 : WS} {par : Int} (hB : TB W) (hr : RepP W par W2) (hp : par ≠ 1) {kl kl2 : List Bs} (hk : KeysOf W.cells [80, 47] kl) (hk2 : KeysOf W2.cells [80, 47] kl2) {i : Nat} (hi : (recsF W (fun _ => true) kl).length ≤ i) : (pidsF W2 (fun _ => true) kl2).length = leftN W kl par i := by
  unfold leftN
  rw [List.take_of_length_le hi]
  have e : pidsF W2 (fun _ => true) kl2 = ((recsF W (fun _ => true) kl).filter (keepB par)).map fun x => hq x 0 := by
    refine asc_uniq (pids_asc hk2) (List.pairwise_map.2 ((recs_asc hk).filter _)) fun n => ?_
    rw [mem_pids hk2, rep_get hB hr, List.mem_map]
    constructor
    · rintro ⟨y, hy, _⟩
      cases hx : getW W n with
      | none => rw [hx] at hy; cases hy
      | some x =>
        obtain ⟨_, _, e0⟩ := getW_some hx
        refine ⟨x, List.mem_filter.2 ⟨(mem_recs hk).2 ⟨rfl, by rw [e0]; exact hx⟩, ?_⟩, e0⟩
        rw [hx] at hy
        unfold repG at hy; dsimp only at hy
        unfold keepB
        split at hy
        · split at hy
          · cases hy
          · rename_i q; simp [q]
        · rename_i q
          have : ¬ hq x 1 = par := fun r => q ⟨hp, r⟩
          simp [this]
    · rintro ⟨x, hx, rfl⟩
      obtain ⟨h1, h2⟩ := List.mem_filter.1 hx
      obtain ⟨_, h3⟩ := (mem_recs hk).1 h1
      rw [h3]
      unfold repG; dsimp only
      unfold keepB at h2
      by_cases q : hq x 1 = par
      · rw [if_pos ⟨hp, q⟩, if_neg (by intro r; simp [q, r] at h2)]; exact ⟨_, rfl, rfl⟩
      · rw [if_neg fun r => q r.2]; exact ⟨_, rfl, rfl⟩
  rw [e, List.length_map]
set_option maxRecDepth 100000 in
set_option maxHeartbeats 2000000 in
theorem orphans_law {w : World} {F : Th} (hS : Sat w [F]) (hG : Ent F WireG) {lv : Value} {l : List OpR} (hO : Ent F (OrRd lv l)) (parent : Int) :
    Calls Tryz.prog 5 #[lv, intV parent] w (Ret fun v w' => v = .bool true ∧ Sat w' [F]) := by
  obtain ⟨ao, cap, rfl, hmax⟩ := (hO.sat hS 0 rfl).shape
  refine calls_enter Tryz.func5 rfl Tryz.ntmps5 rfl ?_
  refine wc_seq ?_
  refine wc_region ?_
  refine wl_assign rfl rfl ?_
  refine wl_nil ?_
  refine qs_seq ?_
  refine wc_seq ?_
  refine wc_region ?_
  have hC1 := hS.split [] [false] rfl; dsimp only [selF, pickA, nthA, List.cons_append, List.nil_append] at hC1
  refine wl_call cal_8 rfl (small28_sp hC1 (hG.starL 0 rfl)) rfl ?_
  rintro e w1 ⟨_, rfl, rfl, hS1⟩; refine ⟨_, rfl, ?_⟩
  replace hS1 := hS1.join rfl; dsimp only [List.dropLast, List.cons_append, List.nil_append] at hS1; clear hC1
  refine wl_assign rfl rfl ?_
  refine wl_nil ?_
  refine qs_seq ?_
  refine wc_seq ?_
  refine wc_seq ?_
  refine wc_region ?_
  refine wl_move rfl rfl ?_
  have hC2 := hS1.split [] [false] rfl; dsimp only [selF, pickA, nthA, List.cons_append, List.nil_append] at hC2
  refine wl_call cal_9 rfl (few_sp hC2 (hO.starL 0 rfl) 30) rfl ?_
  rintro e w2 ⟨_, rfl, lb, rfl, hb, hS2⟩; refine ⟨_, rfl, ?_⟩
  replace hS2 := hS2.join rfl; dsimp only [List.dropLast, List.cons_append, List.nil_append] at hS2; clear hC2
  clear hS1
  refine wl_not rfl rfl ?_
  refine wl_move rfl rfl ?_
  refine wl_split 22 rfl (fun h3 => ?_) (fun h3 => ?_)
  · skip
    refine wl_unwanted rfl rfl h3 rfl ?_
    refine wl_unwanted rfl rfl h3 rfl ?_
    refine wl_pickT rfl h3 rfl rfl ?_
    refine wl_nil ?_
    refine qs_seq ?_
    refine wc_sub (L' := [(25, _), (5, _), (4, _), (0, _), (1, _)]) (.cons rfl (.cons rfl (.cons rfl (.cons rfl (.cons rfl .nil))))) ?_
    refine wc_condT rfl ?_
    refine wc_seq ?_
    refine wc_region ?_
    refine wl_move rfl rfl ?_
    refine wl_assign rfl rfl ?_
    refine wl_nil ?_
    refine qs_seq ?_
    refine wc_ret ?_
    refine qs_then_ret ?_
    refine fin1 (.inr rfl) rfl rfl ?_
    exact ⟨_, rfl, by first | rfl | (simp [hfin]; done), hS2.pick [0] rfl⟩
  · skip
    have hfew : FewR 30 l := hb (by simpa using h3)
    have hll : l.length ≤ 30 := by have := hfew.1; omega
    refine wl_guard rfl rfl h3 ?_
    refine wl_move rfl rfl ?_
    refine wl_guard rfl rfl h3 ?_
    refine wl_eql rfl rfl rfl ?_
    refine wl_pickF rfl h3 rfl rfl ?_
    refine wl_nil ?_
    refine qs_seq ?_
    refine wc_sub (L' := [(25, _), (5, _), (4, _), (0, _), (1, _)]) (.cons rfl (.cons rfl (.cons rfl (.cons rfl (.cons rfl .nil))))) ?_
    refine wc_condD rfl (fun h4 => ?_) (fun h4 => ?_)
    · skip
      refine wc_seq ?_
      refine wc_region ?_
      refine wl_move rfl rfl ?_
      refine wl_assign rfl rfl ?_
      refine wl_nil ?_
      refine qs_seq ?_
      refine wc_ret ?_
      refine qs_then_ret ?_
      refine fin1 (.inr rfl) rfl rfl ?_
      exact ⟨_, rfl, by first | rfl | (simp [hfin]; done), hS2.pick [0] rfl⟩
    · skip
      refine wc_skip ?_
      refine qs_seq ?_
      refine wc_seq ?_
      refine wc_region ?_
      have hC5 := hS2.split [] [false] rfl; dsimp only [selF, pickA, nthA, List.cons_append, List.nil_append] at hC5
      refine wl_call cal_10 rfl (new_sp hC5) rfl ?_
      rintro e w5 ⟨_, rfl, p, rfl, hS5⟩; refine ⟨_, rfl, ?_⟩
      replace hS5 := hS5.join rfl; dsimp only [List.dropLast, List.cons_append, List.nil_append] at hS5; clear hC5
      clear hS2
      refine wl_assign rfl rfl ?_
      refine wl_nil ?_
      refine qs_seq ?_
      refine wc_seq ?_
      refine wc_seq ?_
      refine wc_region ?_
      refine wl_move rfl rfl ?_
      refine wl_eqlNil Tryz.underlying25 rfl rfl rfl ?_
      refine wl_nil ?_
      refine qs_seq ?_
      refine wc_condF rfl ?_
      refine wc_skip ?_
      refine qs_seq ?_
      refine wc_seq ?_
      refine wc_seq ?_
      refine wc_region ?_
      refine wl_assign rfl rfl ?_
      refine wl_nil ?_
      refine qs_seq ?_
      refine wc_block ?_
      refine wc_loop (fun K0 E0 W0 => ∃ (i : Nat) (W : WS), K0 = l.length - i ∧ E0 = [(0, .slice ao l.length cap), (1, intV parent), (5, .bool true), (6, ptrV p 0), (7, intV (i : Int))] ∧ Sat W0 [worldT p W, F] ∧ (i ≤ l.length) ∧ (PInv W i)) (L0 := [(0, _), (1, _), (5, _), (6, _), (7, _)]) (l.length - 0) (.cons rfl (.cons rfl (.cons rfl (.cons rfl (.cons rfl .nil))))) ⟨0, _, rfl, rfl, hS5.pick [0, 1] rfl, by omega, PInv.empty⟩ ?_
      rintro _ _ w6 ⟨i, W, rfl, rfl, hS6, hi, hP⟩
      refine wc_seq ?_
      refine wc_seq ?_
      refine wc_region ?_
      refine wl_move rfl rfl ?_
      refine wl_move rfl rfl ?_
      refine wl_lenL Tryz.underlying22 rfl rfl ?_
      refine wl_lss rfl rfl rfl ?_
      refine wl_nil ?_
      refine qs_seq ?_
      refine wc_condD rfl (fun h7 => ?_) (fun h7 => ?_)
      · skip
        obtain ⟨o, ho⟩ : ∃ o, l[i]? = some o := ⟨_, List.getElem?_eq_getElem (by omega)⟩
        have hLA : Ent F (RdL arC o.av o.x.ar) := fun {w G} g => (RdX.elem hO ho g).1
        have hLF : Ent F (RdL stC o.fv o.x.fds) := fun {w G} g => (RdX.elem hO ho g).2.1
        obtain ⟨⟨b, off, rfl, hc⟩, _, _, hwf0⟩ := (hO.sat hS6 1 rfl).get ho
        have hlt := hfew.2 o (List.mem_of_getElem? ho)
        have hwo := hlt.wfr hwf0
        have hlo := hlt.len hwf0
        refine wc_skip ?_
        refine qs_seq ?_
        refine wc_seq ?_
        refine wc_block ?_
        refine wc_region ?_
        refine wl_move rfl rfl ?_
        refine wl_move rfl rfl ?_
        refine wl_move rfl rfl ?_
        refine wl_indexAddr i rfl rfl (by first | rfl | omega) (by omega) es_22 rfl ?_
        refine wl_loadAt rfl ag_40 sz_40 (vs := opV o) ((hO.sat hS6 1 rfl).cells ho) rfl ?_
        have hC8 := hS6.split [0] [true, false] rfl; dsimp only [selF, pickA, nthA, List.cons_append, List.nil_append] at hC8
        refine wl_call cal_12 rfl (do_sp hC8 (hG.starL 0 rfl) hP.tb (hP.keys (by omega)) o hwo (by omega) (Ent.starL hLA 0 rfl) (Ent.starL hLF 0 rfl)) rfl ?_
        rintro e w8 ⟨_, rfl, rfl, W2, hd, hS8⟩; refine ⟨_, rfl, ?_⟩
        replace hS8 := hS8.join rfl; dsimp only [List.dropLast, List.cons_append, List.nil_append] at hS8; clear hC8
        clear hS6
        refine wl_nil ?_
        refine qs_block_normal ?_
        refine qs_seq ?_
        refine wc_sub (L' := [(0, _), (1, _), (5, _), (6, _), (7, _)]) (.cons rfl (.cons rfl (.cons rfl (.cons rfl (.cons rfl .nil))))) ?_
        refine wc_region ?_
        refine wl_move rfl rfl ?_
        refine wl_add rfl rfl (by first | omega | (simp; omega)) (by first | omega | (simp; omega)) rfl ?_
        refine wl_assign rfl rfl ?_
        refine wl_nil ?_
        exact qs_round (L1 := [(0, _), (1, _), (5, _), (6, _), (7, intV ((i + 1 : Nat) : Int))]) (.cons rfl (.cons rfl (.cons rfl (.cons rfl (.cons rfl .nil))))) (k1 := l.length - (i + 1)) (by omega) ⟨i + 1, _, rfl, rfl, hS8.pick [0, 1] rfl, by omega, hP.do (by omega) hd⟩
      · skip
        refine wc_exit ?_
        refine qs_then_exit ?_
        refine qs_then_exit ?_
        refine qs_block_exit ?_
        refine qs_seq ?_
        refine wc_seq ?_
        refine wc_region ?_
        refine wl_move rfl rfl ?_
        refine wl_makeIface nif_25 rfl rfl ?_
        have hC9 := hS6.split [0] [true, false] rfl; dsimp only [selF, pickA, nthA, List.cons_append, List.nil_append] at hC9
        refine wl_call cal_15 rfl (all_sp hC9 (hG.starL 0 rfl) hP.tb (hP.keys (by omega))) rfl ?_
        rintro e w9 ⟨_, rfl, kl, hkl, hS9⟩; refine ⟨_, rfl, ?_⟩
        replace hS9 := hS9.join rfl; dsimp only [List.dropLast, List.cons_append, List.nil_append] at hS9; clear hC9
        clear hS6
        obtain ⟨au, cu, rfl, _⟩ := hS9.own_shape 0 rfl
        have hp1 : parent ≠ 1 := by omega
        have hzl := pids_len W (fun _ => true) kl
        have hkk := keysOf_len2 hkl (hP.keys (by omega))
        have hrf := recs_few W (fun _ => true) kl
        refine wl_assign rfl rfl ?_
        refine wl_nil ?_
        refine qs_seq ?_
        refine wc_sub (L' := [(8, _), (1, _), (5, _), (6, _)]) (.cons rfl (.cons rfl (.cons rfl (.cons rfl .nil)))) ?_
        refine wc_seq ?_
        refine wc_region ?_
        refine wl_assign rfl rfl ?_
        refine wl_nil ?_
        refine qs_seq ?_
        refine wc_seq ?_
        refine wc_seq ?_
        refine wc_region ?_
        refine wl_assign rfl rfl ?_
        refine wl_nil ?_
        refine qs_seq ?_
        refine wc_block ?_
        have hSn := (Sat.fold (As := []) hS9).row_nil prC
        refine wc_loop (fun K0 E0 W0 => ∃ (i : Nat) (bv : Value) (es : List PE), K0 = (pidsF W (fun _ => true) kl).length - i ∧ E0 = [(1, intV parent), (5, .bool true), (6, ptrV p 0), (8, .slice au (pidsF W (fun _ => true) kl).length cu), (9, bv), (10, intV (i : Int))] ∧ Sat W0 [rowT prC bv es, starL (es.map inT), rowT inC (.slice au (pidsF W (fun _ => true) kl).length cu) (pidsF W (fun _ => true) kl), worldT p W, F] ∧ (i ≤ (pidsF W (fun _ => true) kl).length) ∧ (es.map (·.x) = (recsF W (fun _ => true) kl).take i)) (L0 := [(1, _), (5, _), (6, _), (8, _), (9, _), (10, _)]) ((pidsF W (fun _ => true) kl).length - 0) (.cons rfl (.cons rfl (.cons rfl (.cons rfl (.cons rfl (.cons rfl .nil)))))) ⟨0, _, [], rfl, rfl, (hSn.pick [0, 1, 2, 3, 4] rfl), by omega, by simp⟩ ?_
        rintro _ _ w10 ⟨i, bv, es, rfl, rfl, hS10, hi, hes⟩
        have hob : bv.oneCell' = true := hS10.own_one 0 rfl
        have hel := congrArg List.length hes
        rw [List.length_map, List.length_take] at hel
        refine wc_seq ?_
        refine wc_seq ?_
        refine wc_region ?_
        refine wl_move rfl rfl ?_
        refine wl_move rfl rfl ?_
        first | refine wl_lenL Tryz.underlying46 rfl rfl ?_ | refine wl_lenO 0 hS10 Tryz.underlying46 rfl rfl rfl ?_ | refine wl_lenO 2 hS10 Tryz.underlying46 rfl rfl rfl ?_
        refine wl_lss rfl rfl rfl ?_
        refine wl_nil ?_
        refine qs_seq ?_
        refine wc_condD rfl (fun h11 => ?_) (fun h11 => ?_)
        · skip
          obtain ⟨x, hx⟩ : ∃ x, (recsF W (fun _ => true) kl)[i]? = some x := ⟨_, List.getElem?_eq_getElem (by omega)⟩
          have hz : (pidsF W (fun _ => true) kl)[i]? = some (hq x 0) := by unfold pidsF; rw [List.getElem?_map, hx]; rfl
          have hgx : getW W (hq x 0) = some x := ((mem_recs hkl).1 (List.mem_of_getElem? hx)).2
          refine wc_skip ?_
          refine qs_seq ?_
          refine wc_seq ?_
          refine wc_block ?_
          refine wc_seq ?_
          refine wc_region ?_
          refine wl_move rfl rfl ?_
          refine wl_makeIface nif_25 rfl rfl ?_
          refine wl_move rfl rfl ?_
          refine wl_move rfl rfl ?_
          refine wl_rowIdx inC 2 i hS10 rfl rfl rfl (by first | rfl | omega) hz es_46 rfl ?_
          intro bx12 capx12 hvx12
          refine wl_rowLoad 2 i 0 hS10 rfl hvx12 rfl rfl hz ag_3 rfl rfl ?_
          have hC13 := hS10.split [3] [false, false, false, true, false] rfl; dsimp only [selF, pickA, nthA, List.cons_append, List.nil_append] at hC13
          refine wl_call cal_11 rfl (getP_sp hC13 (hG.starL 3 rfl) hP.tb (hq x 0)) rfl ?_
          rintro e w13 ⟨_, rfl, av, fv, rfl, hS13⟩; refine ⟨_, rfl, ?_⟩
          replace hS13 := hS13.join rfl; dsimp only [List.dropLast, List.cons_append, List.nil_append] at hS13; clear hC13
          clear hS10
          rw [hgx] at hS13 ⊢
          dsimp only [Option.getD_some, Option.isSome_some] at hS13 ⊢
          obtain ⟨aa, ac, rfl, _⟩ := hS13.own_shape 0 rfl
          obtain ⟨fa, fc, rfl, _⟩ := hS13.own_shape 1 rfl
          refine wl_move rfl rfl ?_
          refine wl_extract rfl rfl rfl ?_
          refine wl_extract rfl rfl rfl ?_
          have hone := procV_one (x := x) (hS13.own_one 0 rfl) (hS13.own_one 1 rfl)
          refine wl_alloc hS13 zr_38 rfl rfl ?_
          intro bq w14 hS14
          clear hS13
          refine wl_storeA hS14 rfl rfl sz_38 rfl (by first | rfl | (simp [allOne, Value.oneCell']; done) | assumption) (i := 0) rfl (by first | decide | exact Nat.le_of_ble_eq_true rfl | (simp; done) | omega) ?_
          intro w15 hS15; dsimp only [List.set] at hS15
          clear hS14
          rw [splice_all _ _ (by rfl)] at hS15
          refine wl_assign rfl rfl ?_
          refine wl_nil ?_
          refine qs_seq ?_
          refine wc_sub (L' := [(11, _), (1, _), (5, _), (6, _), (8, _), (9, _), (10, _)]) (.cons rfl (.cons rfl (.cons rfl (.cons rfl (.cons rfl (.cons rfl (.cons rfl .nil))))))) ?_
          refine wc_region ?_
          refine wl_move rfl rfl ?_
          refine wl_loadA rfl ag_38 sz_38 (by first | exact hS15.blk 0 rfl) (by first | decide | exact Nat.le_of_ble_eq_true rfl | (simp; done) | omega) rfl rfl ?_
          refine wl_rowBuild prC [⟨x, aa, ac, fa, fc⟩] hS15 rfl Tryz.underlying53 ifz_38 rfl rfl rfl rfl (by first | rfl | simp [RowC.cells, fillL, splice]) rfl ?_
          intro b16 w16 hS16
          clear hS15
          refine wl_rowApp prC 5 hS16 rfl rfl rfl (hS16.rd 0 rfl (by simp)) Tryz.underlying53 Tryz.underlying53 (by intro k hk; cases hk) ifo_38 rfl (by simp only [List.length_cons, List.length_nil]; omega) rfl (by simp only [List.length_cons, List.length_nil]; omega) ?_
          intro v17 w17 hS17; dsimp only [List.set] at hS17
          clear hS16
          have h1v17 : v17.oneCell' = true := hS17.own_one 5 rfl
          refine wl_assign rfl rfl ?_
          refine wl_nil ?_
          refine qs_block_normal ?_
          refine qs_seq ?_
          refine wc_sub (L' := [(9, _), (1, _), (5, _), (6, _), (8, _), (10, _)]) (.cons rfl (.cons rfl (.cons rfl (.cons rfl (.cons rfl (.cons rfl .nil)))))) ?_
          refine wc_region ?_
          refine wl_move rfl rfl ?_
          refine wl_add rfl rfl (by first | omega | (simp; omega)) (by first | omega | (simp; omega)) rfl ?_
          refine wl_assign rfl rfl ?_
          refine wl_nil ?_
          have hin := in_app (e := ⟨x, aa, ac, fa, fc⟩) (es := es) (hS17.pick [2, 3, 6, 5, 7, 4, 8] rfl)
          exact qs_round (L1 := [(1, _), (5, _), (6, _), (8, _), (9, _), (10, intV ((i + 1 : Nat) : Int))]) (.cons rfl (.cons rfl (.cons rfl (.cons rfl (.cons rfl (.cons rfl .nil)))))) (k1 := (pidsF W (fun _ => true) kl).length - (i + 1)) (by omega) ⟨i + 1, _, _, rfl, rfl, (hin.reorder [1, 0, 2, 3, 4] rfl), by omega, by rw [List.take_add_one, hx, List.map_append, hes]; rfl⟩
        · skip
          refine wc_exit ?_
          refine qs_then_exit ?_
          refine qs_then_exit ?_
          refine qs_block_exit ?_
          refine qs_seq ?_
          refine wc_seq ?_
          refine wc_region ?_
          refine wl_move rfl rfl ?_
          refine wl_makeIface nif_25 rfl rfl ?_
          refine wl_move rfl rfl ?_
          have hC18 := hS10.split [3] [false, false, false, true, false] rfl; dsimp only [selF, pickA, nthA, List.cons_append, List.nil_append] at hC18
          refine wl_call cal_18 rfl (rep_sp hC18 (hG.starL 3 rfl) hP.tb (hP.keys (by omega)) parent) rfl ?_
          rintro e w18 ⟨_, rfl, rfl, W2, hr, hS18⟩; refine ⟨_, rfl, ?_⟩
          replace hS18 := hS18.join rfl; dsimp only [List.dropLast, List.cons_append, List.nil_append] at hS18; clear hC18
          clear hS10
          have hP2 := hP.rep hr
          refine wl_nil ?_
          refine qs_seq ?_
          refine wc_sub (L' := [(1, _), (5, _), (6, _), (9, _)]) (.cons rfl (.cons rfl (.cons rfl (.cons rfl .nil)))) ?_
          refine wc_seq ?_
          refine wc_seq ?_
          refine wc_region ?_
          refine wl_move rfl rfl ?_
          refine wl_makeIface nif_25 rfl rfl ?_
          refine wl_move rfl rfl ?_
          have hC19 := hS18.split [0] [true, false, false, false, false] rfl; dsimp only [selF, pickA, nthA, List.cons_append, List.nil_append] at hC19
          refine wl_call cal_19 rfl (children_sp hC19 (hG.starL 3 rfl) hP2.tb (hP2.keys (by omega)) parent) rfl ?_
          rintro e w19 ⟨_, rfl, kl2, hkl2, hS19⟩; refine ⟨_, rfl, ?_⟩
          replace hS19 := hS19.join rfl; dsimp only [List.dropLast, List.cons_append, List.nil_append] at hS19; clear hC19
          clear hS18
          rw [kids_none hP.tb hr hp1 hkl2] at hS19
          obtain ⟨ac, cc, rfl, _⟩ := hS19.own_shape 0 rfl
          first | refine wl_lenL Tryz.underlying46 rfl rfl ?_ | refine wl_lenO 0 hS19 Tryz.underlying46 rfl rfl rfl ?_ | refine wl_lenO 2 hS19 Tryz.underlying46 rfl rfl rfl ?_ | refine wl_lenO 4 hS19 Tryz.underlying46 rfl rfl rfl ?_
          refine wl_neq rfl rfl rfl ?_
          refine wl_nil ?_
          refine qs_seq ?_
          refine wc_condD rfl (fun h20 => ?_) (fun h20 => ?_)
          · skip
            first | exact absurd rfl h20 | (simp at h20; done)
          · skip
            refine wc_skip ?_
            refine qs_seq ?_
            refine wc_seq ?_
            refine wc_region ?_
            obtain ⟨ab, cb, rfl, _⟩ := hS19.own_shape 2 rfl
            rw [List.take_of_length_le (by omega)] at hes
            have hel2 := congrArg List.length hes
            rw [List.length_map] at hel2
            refine wl_assign rfl rfl ?_
            refine wl_nil ?_
            refine qs_seq ?_
            refine wc_sub (L' := [(13, _), (1, _), (5, _), (6, _), (9, _)]) (.cons rfl (.cons rfl (.cons rfl (.cons rfl (.cons rfl .nil))))) ?_
            refine wc_seq ?_
            refine wc_seq ?_
            refine wc_region ?_
            refine wl_assign rfl rfl ?_
            refine wl_nil ?_
            refine qs_seq ?_
            refine wc_block ?_
            refine wc_loop (fun K0 E0 W0 => ∃ (i : Nat), K0 = es.length - i ∧ E0 = [(1, intV parent), (5, .bool true), (6, ptrV p 0), (9, .slice ab es.length cb), (13, intV (leftN W kl parent i : Int)), (14, intV (i : Int))] ∧ Sat W0 [rowT prC (.slice ab es.length cb) es, starL (es.map inT), worldT p W2, F] ∧ (i ≤ es.length)) (L0 := [(1, _), (5, _), (6, _), (9, _), (13, _), (14, _)]) (es.length - 0) (.cons rfl (.cons rfl (.cons rfl (.cons rfl (.cons rfl (.cons rfl .nil)))))) ⟨0, rfl, (by rw [leftN_zero]; rfl), hS19.pick [2, 3, 1, 5] rfl, by omega⟩ ?_
            rintro _ _ w21 ⟨i, rfl, rfl, hS21, hi⟩
            have hlf := leftN_le W kl parent i
            refine wc_seq ?_
            refine wc_seq ?_
            refine wc_region ?_
            refine wl_move rfl rfl ?_
            refine wl_move rfl rfl ?_
            first | refine wl_lenL Tryz.underlying53 rfl rfl ?_ | refine wl_lenO 0 hS21 Tryz.underlying53 rfl rfl rfl ?_
            refine wl_lss rfl rfl rfl ?_
            refine wl_nil ?_
            refine qs_seq ?_
            refine wc_condD rfl (fun h22 => ?_) (fun h22 => ?_)
            · skip
              obtain ⟨e, he⟩ : ∃ e, es[i]? = some e := ⟨_, List.getElem?_eq_getElem (by omega)⟩
              obtain ⟨b, off, rfl, hc⟩ := (Ent.sat (ent_row (C := prC) (l := es) (by omega)) hS21 0 rfl).get he
              have hone : allOne (procV e.x e.av e.fv) = true := procV_one rfl rfl
              have hxe : (recsF W (fun _ => true) kl)[i]? = some e.x := by rw [← hes, List.getElem?_map, he]; rfl
              have hge : getW W (hq e.x 0) = some e.x := ((mem_recs hkl).1 (List.mem_of_getElem? hxe)).2
              have hwe := getW_wf hP.tb hge
              have hg2 := rep_get hP.tb hr (hq e.x 0)
              rw [hge] at hg2
              refine wc_skip ?_
              refine qs_seq ?_
              refine wc_seq ?_
              refine wc_block ?_
              refine wc_seq ?_
              refine wc_region ?_
              refine wl_move rfl rfl ?_
              refine wl_move rfl rfl ?_
              refine wl_indexAddr i rfl rfl (by first | rfl | omega) (by omega) es_53 rfl ?_
              refine wl_loadAt rfl ag_38 sz_38 (vs := peV e) hc rfl ?_
              refine wl_alloc hS21 zr_38 rfl rfl ?_
              intro bp2 w23 hS23
              clear hS21
              refine wl_storeA hS23 rfl rfl sz_38 rfl (by first | rfl | (simp [allOne, Value.oneCell']; done) | assumption) (i := 0) rfl (by first | decide | exact Nat.le_of_ble_eq_true rfl | (simp; done) | omega) ?_
              intro w24 hS24; dsimp only [List.set] at hS24
              clear hS23
              rw [splice_all _ _ (by rfl)] at hS24
              refine wl_nil ?_
              refine qs_seq ?_
              refine wc_sub (L' := [(15, _), (1, _), (5, _), (6, _), (9, _), (13, _), (14, _)]) (.cons rfl (.cons rfl (.cons rfl (.cons rfl (.cons rfl (.cons rfl (.cons rfl .nil))))))) ?_
              refine wc_seq ?_
              refine wc_region ?_
              refine wl_move rfl rfl ?_
              refine wl_makeIface nif_25 rfl rfl ?_
              refine wl_fieldAddr rfl fo_38_0 rfl ?_
              refine wl_load rfl ag_3 (by first | assumption | exact hS24.cell 0 rfl rfl) rfl ?_
              have hC25 := hS24.split [3] [false, false, false, true, false] rfl; dsimp only [selF, pickA, nthA, List.cons_append, List.nil_append] at hC25
              refine wl_call cal_11 rfl (getP_sp hC25 (hG.starL 3 rfl) hP2.tb (hq e.x 0)) rfl ?_
              rintro e w25 ⟨_, rfl, av, fv, rfl, hS25⟩; refine ⟨_, rfl, ?_⟩
              replace hS25 := hS25.join rfl; dsimp only [List.dropLast, List.cons_append, List.nil_append] at hS25; clear hC25
              clear hS24
              refine wl_move rfl rfl ?_
              refine wl_extract rfl rfl rfl ?_
              refine wl_extract rfl rfl rfl ?_
              have hone := procV_one (x := ((getW W2 (hq e.x 0)).getD zeroP)) (hS25.own_one 0 rfl) (hS25.own_one 1 rfl)
              refine wl_alloc hS25 zr_38 rfl rfl ?_
              intro bq2 w26 hS26
              clear hS25
              refine wl_storeA hS26 rfl rfl sz_38 rfl (by first | rfl | (simp [allOne, Value.oneCell']; done) | assumption) (i := 0) rfl (by first | decide | exact Nat.le_of_ble_eq_true rfl | (simp; done) | omega) ?_
              intro w27 hS27; dsimp only [List.set] at hS27
              clear hS26
              rw [splice_all _ _ (by rfl)] at hS27
              refine wl_assign rfl rfl ?_
              refine wl_nil ?_
              refine qs_seq ?_
              refine wc_sub (L' := [(17, _), (16, _), (15, _), (1, _), (5, _), (6, _), (9, _), (13, _), (14, _)]) (.cons rfl (.cons rfl (.cons rfl (.cons rfl (.cons rfl (.cons rfl (.cons rfl (.cons rfl (.cons rfl .nil))))))))) ?_
              refine wc_seq ?_
              refine wc_seq ?_
              refine wc_region ?_
              refine wl_fieldAddr rfl fo_38_1 rfl ?_
              refine wl_load rfl ag_3 (by first | assumption | exact hS27.cell 0 rfl rfl | exact hS27.cell 4 rfl rfl) rfl ?_
              refine wl_move rfl rfl ?_
              refine wl_eql rfl rfl rfl ?_
              refine wl_move rfl rfl ?_
              refine wl_splitD 97 rfl (fun h28 => ?_) (fun h28 => ?_)
              · skip
                refine wl_guard rfl rfl (decide_eq_true h28) ?_
                refine wl_fieldAddr rfl fo_38_5 rfl ?_
                refine wl_guard rfl rfl (decide_eq_true h28) ?_
                refine wl_load rfl ag_3 (by first | assumption | exact hS27.cell 0 rfl rfl | exact hS27.cell 4 rfl rfl) rfl ?_
                refine wl_guard rfl rfl (decide_eq_true h28) ?_
                refine wl_eql rfl rfl rfl ?_
                refine wl_pickT rfl (decide_eq_true h28) rfl rfl ?_
                refine wl_nil ?_
                refine qs_seq ?_
                refine wc_sub (L' := [(101, _), (17, _), (16, _), (15, _), (1, _), (5, _), (6, _), (9, _), (13, _), (14, _)]) (.cons rfl (.cons rfl (.cons rfl (.cons rfl (.cons rfl (.cons rfl (.cons rfl (.cons rfl (.cons rfl (.cons rfl .nil)))))))))) ?_
                refine wc_condD rfl (fun h29 => ?_) (fun h29 => ?_)
                · skip
                  refine wc_seq ?_
                  refine wc_seq ?_
                  refine wc_region ?_
                  refine wl_move rfl rfl ?_
                  refine wl_nil ?_
                  refine qs_seq ?_
                  refine wc_cond rfl (fun h30 => ?_) (fun h30 => ?_)
                  · skip
                    rw [hg2] at h30; unfold repG at h30; dsimp only at h30; rw [if_pos ⟨hp1, by assumption⟩, if_pos (by assumption)] at h30; cases h30
                  · skip
                    refine wc_skip ?_
                    refine qs_seq ?_
                    refine wc_exit ?_
                    refine qs_then_exit ?_
                    refine qs_block_exit ?_
                    refine qs_seq ?_
                    refine wc_sub (L' := [(1, _), (5, _), (6, _), (9, _), (13, _), (14, _)]) (.cons rfl (.cons rfl (.cons rfl (.cons rfl (.cons rfl (.cons rfl .nil)))))) ?_
                    refine wc_region ?_
                    refine wl_move rfl rfl ?_
                    refine wl_add rfl rfl (by first | omega | (simp; omega)) (by first | omega | (simp; omega)) rfl ?_
                    refine wl_assign rfl rfl ?_
                    refine wl_nil ?_
                    have hn := leftN_drop (par := parent) hxe (by unfold keepB; rw [decide_eq_true (show hq e.x 1 = parent by assumption), decide_eq_true (show hq e.x 5 = 3 by assumption)]; rfl)
                    exact qs_round (L1 := [(1, _), (5, _), (6, _), (9, _), (13, _), (14, intV ((i + 1 : Nat) : Int))]) (.cons rfl (.cons rfl (.cons rfl (.cons rfl (.cons rfl (.cons rfl .nil)))))) (k1 := es.length - (i + 1)) (by omega) ⟨i + 1, rfl, (by first | (rw [hn]; done) | (rw [hn]; rfl) | (rw [hn]; simp; done)), hS27.pick [5, 6, 3, 7] rfl, by omega⟩
                · skip
                  refine wc_skip ?_
                  refine qs_seq ?_
                  refine wc_seq ?_
                  refine wc_seq ?_
                  refine wc_region ?_
                  refine wl_fieldAddr rfl fo_38_1 rfl ?_
                  refine wl_load rfl ag_3 (by first | assumption | exact hS27.cell 0 rfl rfl | exact hS27.cell 4 rfl rfl) rfl ?_
                  refine wl_move rfl rfl ?_
                  refine wl_eql rfl rfl rfl ?_
                  refine wl_nil ?_
                  refine qs_seq ?_
                  refine wc_sub (L' := [(106, _), (17, _), (16, _), (15, _), (1, _), (5, _), (6, _), (9, _), (13, _), (14, _)]) (.cons rfl (.cons rfl (.cons rfl (.cons rfl (.cons rfl (.cons rfl (.cons rfl (.cons rfl (.cons rfl (.cons rfl .nil)))))))))) ?_
                  refine wc_condD rfl (fun h31 => ?_) (fun h31 => ?_)
                  · skip
                    refine wc_region ?_
                    refine wl_fieldAddr rfl fo_38_1 rfl ?_
                    first | (refine wl_store hS27 rfl rfl sz_3 (by first | rfl | assumption | exact hS27.own_one 1 rfl | exact hS27.own_one 2 rfl | exact hS27.own_one 5 rfl) (i := 0) rfl (by first | decide | exact Nat.le_of_ble_eq_true rfl | (simp; done) | omega) ?_) | (refine wl_store hS27 rfl rfl sz_3 (by first | rfl | assumption | exact hS27.own_one 1 rfl | exact hS27.own_one 2 rfl | exact hS27.own_one 5 rfl) (i := 4) rfl (by first | decide | exact Nat.le_of_ble_eq_true rfl | (simp; done) | omega) ?_)
                    intro w32 hS33; dsimp only [List.set] at hS33
                    clear hS27
                    refine wl_nil ?_
                    refine qs_seq ?_
                    refine wc_seq ?_
                    refine wc_region ?_
                    have hg3 : getW W2 (hq e.x 0) = some (setPar e.x) := by rw [hg2]; unfold repG; dsimp only; rw [if_pos ⟨hp1, by assumption⟩, if_neg (by first | assumption | exact absurd (show hq e.x 1 = parent by assumption) (by assumption))]
                    rw [show (peV e).set 1 (intV 1) = procV (setPar e.x) e.av e.fv from procV_setPar hwe.1 _ _] at hS33
                    rw [hg3] at hS33 ⊢
                    dsimp only [Option.getD_some, Option.isSome_some] at hS33 ⊢
                    refine wl_move rfl rfl ?_
                    refine wl_add rfl rfl (by first | omega | (simp; omega)) (by first | omega | (simp; omega)) rfl ?_
                    refine wl_assign rfl rfl ?_
                    refine wl_nil ?_
                    refine qs_seq ?_
                    refine wc_sub (L' := [(13, _), (17, _), (16, _), (15, _), (1, _), (5, _), (6, _), (9, _), (14, _)]) (.cons rfl (.cons rfl (.cons rfl (.cons rfl (.cons rfl (.cons rfl (.cons rfl (.cons rfl (.cons rfl .nil))))))))) ?_
                    refine wc_seq ?_
                    refine wc_region ?_
                    refine wl_move rfl rfl ?_
                    refine wl_not rfl rfl ?_
                    refine wl_move rfl rfl ?_
                    refine wl_split 112 rfl (fun h34 => ?_) (fun h34 => ?_)
                    · skip
                      first | exact absurd rfl h34 | (simp at h34; done)
                    · skip
                      refine wl_guard rfl rfl h34 ?_
                      refine wl_loadA rfl ag_38 sz_38 (by first | exact hS33.blk 0 rfl | exact hS33.blk 4 rfl) (by first | decide | exact Nat.le_of_ble_eq_true rfl | (simp; done) | omega) rfl rfl ?_
                      refine wl_guard rfl rfl h34 ?_
                      refine wl_loadA rfl ag_38 sz_38 (by first | exact hS33.blk 0 rfl | exact hS33.blk 4 rfl) (by first | decide | exact Nat.le_of_ble_eq_true rfl | (simp; done) | omega) rfl rfl ?_
                      refine wl_guard rfl rfl h34 ?_
                      have hC35 := hS33.split [] [false, false, false, false, false, false, false, false] rfl; dsimp only [selF, pickA, nthA, List.cons_append, List.nil_append] at hC35
                      refine wl_call cal_14 rfl (refSame_sp hC35 (Ent.starL (ent_ina he hwe.1.al) 6 rfl) (Ent.starL (ent_inf he hwe.1.fdl) 6 rfl) (Ent.starL (ent_row (by have := (wfr_setPar hwe.1).al; omega)) 1 rfl) (Ent.starL (ent_row (by have := (wfr_setPar hwe.1).fdl; omega)) 2 rfl)) rfl ?_
                      rintro e w35 ⟨_, rfl, rfl, hS35⟩; refine ⟨_, rfl, ?_⟩
                      replace hS35 := hS35.join rfl; dsimp only [List.dropLast, List.cons_append, List.nil_append] at hS35; clear hC35
                      clear hS33
                      refine wl_guard rfl rfl h34 ?_
                      refine wl_not rfl rfl ?_
                      refine wl_pickF rfl h34 rfl rfl ?_
                      refine wl_nil ?_
                      refine qs_seq ?_
                      refine wc_sub (L' := [(117, _), (13, _), (1, _), (5, _), (6, _), (9, _), (14, _)]) (.cons rfl (.cons rfl (.cons rfl (.cons rfl (.cons rfl (.cons rfl (.cons rfl .nil))))))) ?_
                      refine wc_cond rfl (fun h36 => ?_) (fun h36 => ?_)
                      · skip
                        first | exact absurd rfl h36 | (simp at h36; done)
                      · skip
                        refine wc_skip ?_
                        refine qs_block_normal ?_
                        refine qs_seq ?_
                        refine wc_region ?_
                        refine wl_move rfl rfl ?_
                        refine wl_add rfl rfl (by first | omega | (simp; omega)) (by first | omega | (simp; omega)) rfl ?_
                        refine wl_assign rfl rfl ?_
                        refine wl_nil ?_
                        have hn := leftN_keep (par := parent) hxe (by unfold keepB; first | (rw [decide_eq_false (show ¬ hq e.x 5 = 3 by assumption), Bool.and_false]; rfl) | (rw [decide_eq_false (show ¬ hq e.x 1 = parent by assumption)]; rfl))
                        exact qs_round (L1 := [(1, _), (5, _), (6, _), (9, _), (13, _), (14, intV ((i + 1 : Nat) : Int))]) (.cons rfl (.cons rfl (.cons rfl (.cons rfl (.cons rfl (.cons rfl .nil)))))) (k1 := es.length - (i + 1)) (by omega) ⟨i + 1, rfl, (by first | (rw [hn]; done) | (rw [hn]; rfl) | (rw [hn]; simp; done)), hS35.pick [5, 6, 3, 7] rfl, by omega⟩
                  · skip
                    refine wc_skip ?_
                    refine qs_seq ?_
                    refine wc_seq ?_
                    refine wc_region ?_
                    have hg3 : getW W2 (hq e.x 0) = some e.x := by rw [hg2]; unfold repG; dsimp only; rw [if_neg (fun q => absurd q.2 (by assumption))]
                    rw [hg3] at hS27 ⊢
                    dsimp only [Option.getD_some, Option.isSome_some] at hS27 ⊢
                    refine wl_move rfl rfl ?_
                    refine wl_add rfl rfl (by first | omega | (simp; omega)) (by first | omega | (simp; omega)) rfl ?_
                    refine wl_assign rfl rfl ?_
                    refine wl_nil ?_
                    refine qs_seq ?_
                    refine wc_sub (L' := [(13, _), (17, _), (16, _), (15, _), (1, _), (5, _), (6, _), (9, _), (14, _)]) (.cons rfl (.cons rfl (.cons rfl (.cons rfl (.cons rfl (.cons rfl (.cons rfl (.cons rfl (.cons rfl .nil))))))))) ?_
                    refine wc_seq ?_
                    refine wc_region ?_
                    refine wl_move rfl rfl ?_
                    refine wl_not rfl rfl ?_
                    refine wl_move rfl rfl ?_
                    refine wl_split 112 rfl (fun h37 => ?_) (fun h37 => ?_)
                    · skip
                      first | exact absurd rfl h37 | (simp at h37; done)
                    · skip
                      refine wl_guard rfl rfl h37 ?_
                      refine wl_loadA rfl ag_38 sz_38 (by first | exact hS27.blk 0 rfl | exact hS27.blk 4 rfl) (by first | decide | exact Nat.le_of_ble_eq_true rfl | (simp; done) | omega) rfl rfl ?_
                      refine wl_guard rfl rfl h37 ?_
                      refine wl_loadA rfl ag_38 sz_38 (by first | exact hS27.blk 0 rfl | exact hS27.blk 4 rfl) (by first | decide | exact Nat.le_of_ble_eq_true rfl | (simp; done) | omega) rfl rfl ?_
                      refine wl_guard rfl rfl h37 ?_
                      have hC38 := hS27.split [] [false, false, false, false, false, false, false, false] rfl; dsimp only [selF, pickA, nthA, List.cons_append, List.nil_append] at hC38
                      refine wl_call cal_14 rfl (refSame_sp hC38 (Ent.starL (ent_ina he hwe.1.al) 6 rfl) (Ent.starL (ent_inf he hwe.1.fdl) 6 rfl) (Ent.starL (ent_row (by have := hwe.1.al; omega)) 1 rfl) (Ent.starL (ent_row (by have := hwe.1.fdl; omega)) 2 rfl)) rfl ?_
                      rintro e w38 ⟨_, rfl, rfl, hS38⟩; refine ⟨_, rfl, ?_⟩
                      replace hS38 := hS38.join rfl; dsimp only [List.dropLast, List.cons_append, List.nil_append] at hS38; clear hC38
                      clear hS27
                      refine wl_guard rfl rfl h37 ?_
                      refine wl_not rfl rfl ?_
                      refine wl_pickF rfl h37 rfl rfl ?_
                      refine wl_nil ?_
                      refine qs_seq ?_
                      refine wc_sub (L' := [(117, _), (13, _), (1, _), (5, _), (6, _), (9, _), (14, _)]) (.cons rfl (.cons rfl (.cons rfl (.cons rfl (.cons rfl (.cons rfl (.cons rfl .nil))))))) ?_
                      refine wc_cond rfl (fun h39 => ?_) (fun h39 => ?_)
                      · skip
                        first | exact absurd rfl h39 | (simp at h39; done)
                      · skip
                        refine wc_skip ?_
                        refine qs_block_normal ?_
                        refine qs_seq ?_
                        refine wc_region ?_
                        refine wl_move rfl rfl ?_
                        refine wl_add rfl rfl (by first | omega | (simp; omega)) (by first | omega | (simp; omega)) rfl ?_
                        refine wl_assign rfl rfl ?_
                        refine wl_nil ?_
                        have hn := leftN_keep (par := parent) hxe (by unfold keepB; first | (rw [decide_eq_false (show ¬ hq e.x 5 = 3 by assumption), Bool.and_false]; rfl) | (rw [decide_eq_false (show ¬ hq e.x 1 = parent by assumption)]; rfl))
                        exact qs_round (L1 := [(1, _), (5, _), (6, _), (9, _), (13, _), (14, intV ((i + 1 : Nat) : Int))]) (.cons rfl (.cons rfl (.cons rfl (.cons rfl (.cons rfl (.cons rfl .nil)))))) (k1 := es.length - (i + 1)) (by omega) ⟨i + 1, rfl, (by first | (rw [hn]; done) | (rw [hn]; rfl) | (rw [hn]; simp; done)), hS38.pick [5, 6, 3, 7] rfl, by omega⟩
              · skip
                refine wl_unwanted rfl rfl (decide_eq_false h28) rfl ?_
                refine wl_unwanted rfl rfl (decide_eq_false h28) rfl ?_
                refine wl_unwanted rfl rfl (decide_eq_false h28) rfl ?_
                refine wl_pickF rfl (decide_eq_false h28) rfl rfl ?_
                refine wl_nil ?_
                refine qs_seq ?_
                refine wc_sub (L' := [(101, _), (17, _), (16, _), (15, _), (1, _), (5, _), (6, _), (9, _), (13, _), (14, _)]) (.cons rfl (.cons rfl (.cons rfl (.cons rfl (.cons rfl (.cons rfl (.cons rfl (.cons rfl (.cons rfl (.cons rfl .nil)))))))))) ?_
                refine wc_condF rfl ?_
                refine wc_skip ?_
                refine qs_seq ?_
                refine wc_seq ?_
                refine wc_seq ?_
                refine wc_region ?_
                refine wl_fieldAddr rfl fo_38_1 rfl ?_
                refine wl_load rfl ag_3 (by first | assumption | exact hS27.cell 0 rfl rfl | exact hS27.cell 4 rfl rfl) rfl ?_
                refine wl_move rfl rfl ?_
                refine wl_eql rfl rfl rfl ?_
                refine wl_nil ?_
                refine qs_seq ?_
                refine wc_sub (L' := [(106, _), (17, _), (16, _), (15, _), (1, _), (5, _), (6, _), (9, _), (13, _), (14, _)]) (.cons rfl (.cons rfl (.cons rfl (.cons rfl (.cons rfl (.cons rfl (.cons rfl (.cons rfl (.cons rfl (.cons rfl .nil)))))))))) ?_
                refine wc_condD rfl (fun h40 => ?_) (fun h40 => ?_)
                · skip
                  refine wc_region ?_
                  refine wl_fieldAddr rfl fo_38_1 rfl ?_
                  first | (refine wl_store hS27 rfl rfl sz_3 (by first | rfl | assumption | exact hS27.own_one 1 rfl | exact hS27.own_one 2 rfl | exact hS27.own_one 5 rfl) (i := 0) rfl (by first | decide | exact Nat.le_of_ble_eq_true rfl | (simp; done) | omega) ?_) | (refine wl_store hS27 rfl rfl sz_3 (by first | rfl | assumption | exact hS27.own_one 1 rfl | exact hS27.own_one 2 rfl | exact hS27.own_one 5 rfl) (i := 4) rfl (by first | decide | exact Nat.le_of_ble_eq_true rfl | (simp; done) | omega) ?_)
                  intro w41 hS42; dsimp only [List.set] at hS42
                  clear hS27
                  refine wl_nil ?_
                  refine qs_seq ?_
                  refine wc_seq ?_
                  refine wc_region ?_
                  have hg3 : getW W2 (hq e.x 0) = some (setPar e.x) := by rw [hg2]; unfold repG; dsimp only; rw [if_pos ⟨hp1, by assumption⟩, if_neg (by first | assumption | exact absurd (show hq e.x 1 = parent by assumption) (by assumption))]
                  rw [show (peV e).set 1 (intV 1) = procV (setPar e.x) e.av e.fv from procV_setPar hwe.1 _ _] at hS42
                  rw [hg3] at hS42 ⊢
                  dsimp only [Option.getD_some, Option.isSome_some] at hS42 ⊢
                  refine wl_move rfl rfl ?_
                  refine wl_add rfl rfl (by first | omega | (simp; omega)) (by first | omega | (simp; omega)) rfl ?_
                  refine wl_assign rfl rfl ?_
                  refine wl_nil ?_
                  refine qs_seq ?_
                  refine wc_sub (L' := [(13, _), (17, _), (16, _), (15, _), (1, _), (5, _), (6, _), (9, _), (14, _)]) (.cons rfl (.cons rfl (.cons rfl (.cons rfl (.cons rfl (.cons rfl (.cons rfl (.cons rfl (.cons rfl .nil))))))))) ?_
                  refine wc_seq ?_
                  refine wc_region ?_
                  refine wl_move rfl rfl ?_
                  refine wl_not rfl rfl ?_
                  refine wl_move rfl rfl ?_
                  refine wl_split 112 rfl (fun h43 => ?_) (fun h43 => ?_)
                  · skip
                    first | exact absurd rfl h43 | (simp at h43; done)
                  · skip
                    refine wl_guard rfl rfl h43 ?_
                    refine wl_loadA rfl ag_38 sz_38 (by first | exact hS42.blk 0 rfl | exact hS42.blk 4 rfl) (by first | decide | exact Nat.le_of_ble_eq_true rfl | (simp; done) | omega) rfl rfl ?_
                    refine wl_guard rfl rfl h43 ?_
                    refine wl_loadA rfl ag_38 sz_38 (by first | exact hS42.blk 0 rfl | exact hS42.blk 4 rfl) (by first | decide | exact Nat.le_of_ble_eq_true rfl | (simp; done) | omega) rfl rfl ?_
                    refine wl_guard rfl rfl h43 ?_
                    have hC44 := hS42.split [] [false, false, false, false, false, false, false, false] rfl; dsimp only [selF, pickA, nthA, List.cons_append, List.nil_append] at hC44
                    refine wl_call cal_14 rfl (refSame_sp hC44 (Ent.starL (ent_ina he hwe.1.al) 6 rfl) (Ent.starL (ent_inf he hwe.1.fdl) 6 rfl) (Ent.starL (ent_row (by have := (wfr_setPar hwe.1).al; omega)) 1 rfl) (Ent.starL (ent_row (by have := (wfr_setPar hwe.1).fdl; omega)) 2 rfl)) rfl ?_
                    rintro e w44 ⟨_, rfl, rfl, hS44⟩; refine ⟨_, rfl, ?_⟩
                    replace hS44 := hS44.join rfl; dsimp only [List.dropLast, List.cons_append, List.nil_append] at hS44; clear hC44
                    clear hS42
                    refine wl_guard rfl rfl h43 ?_
                    refine wl_not rfl rfl ?_
                    refine wl_pickF rfl h43 rfl rfl ?_
                    refine wl_nil ?_
                    refine qs_seq ?_
                    refine wc_sub (L' := [(117, _), (13, _), (1, _), (5, _), (6, _), (9, _), (14, _)]) (.cons rfl (.cons rfl (.cons rfl (.cons rfl (.cons rfl (.cons rfl (.cons rfl .nil))))))) ?_
                    refine wc_cond rfl (fun h45 => ?_) (fun h45 => ?_)
                    · skip
                      first | exact absurd rfl h45 | (simp at h45; done)
                    · skip
                      refine wc_skip ?_
                      refine qs_block_normal ?_
                      refine qs_seq ?_
                      refine wc_region ?_
                      refine wl_move rfl rfl ?_
                      refine wl_add rfl rfl (by first | omega | (simp; omega)) (by first | omega | (simp; omega)) rfl ?_
                      refine wl_assign rfl rfl ?_
                      refine wl_nil ?_
                      have hn := leftN_keep (par := parent) hxe (by unfold keepB; first | (rw [decide_eq_false (show ¬ hq e.x 5 = 3 by assumption), Bool.and_false]; rfl) | (rw [decide_eq_false (show ¬ hq e.x 1 = parent by assumption)]; rfl))
                      exact qs_round (L1 := [(1, _), (5, _), (6, _), (9, _), (13, _), (14, intV ((i + 1 : Nat) : Int))]) (.cons rfl (.cons rfl (.cons rfl (.cons rfl (.cons rfl (.cons rfl .nil)))))) (k1 := es.length - (i + 1)) (by omega) ⟨i + 1, rfl, (by first | (rw [hn]; done) | (rw [hn]; rfl) | (rw [hn]; simp; done)), hS44.pick [5, 6, 3, 7] rfl, by omega⟩
                · skip
                  refine wc_skip ?_
                  refine qs_seq ?_
                  refine wc_seq ?_
                  refine wc_region ?_
                  have hg3 : getW W2 (hq e.x 0) = some e.x := by rw [hg2]; unfold repG; dsimp only; rw [if_neg (fun q => absurd q.2 (by assumption))]
                  rw [hg3] at hS27 ⊢
                  dsimp only [Option.getD_some, Option.isSome_some] at hS27 ⊢
                  refine wl_move rfl rfl ?_
                  refine wl_add rfl rfl (by first | omega | (simp; omega)) (by first | omega | (simp; omega)) rfl ?_
                  refine wl_assign rfl rfl ?_
                  refine wl_nil ?_
                  refine qs_seq ?_
                  refine wc_sub (L' := [(13, _), (17, _), (16, _), (15, _), (1, _), (5, _), (6, _), (9, _), (14, _)]) (.cons rfl (.cons rfl (.cons rfl (.cons rfl (.cons rfl (.cons rfl (.cons rfl (.cons rfl (.cons rfl .nil))))))))) ?_
                  refine wc_seq ?_
                  refine wc_region ?_
                  refine wl_move rfl rfl ?_
                  refine wl_not rfl rfl ?_
                  refine wl_move rfl rfl ?_
                  refine wl_split 112 rfl (fun h46 => ?_) (fun h46 => ?_)
                  · skip
                    first | exact absurd rfl h46 | (simp at h46; done)
                  · skip
                    refine wl_guard rfl rfl h46 ?_
                    refine wl_loadA rfl ag_38 sz_38 (by first | exact hS27.blk 0 rfl | exact hS27.blk 4 rfl) (by first | decide | exact Nat.le_of_ble_eq_true rfl | (simp; done) | omega) rfl rfl ?_
                    refine wl_guard rfl rfl h46 ?_
                    refine wl_loadA rfl ag_38 sz_38 (by first | exact hS27.blk 0 rfl | exact hS27.blk 4 rfl) (by first | decide | exact Nat.le_of_ble_eq_true rfl | (simp; done) | omega) rfl rfl ?_
                    refine wl_guard rfl rfl h46 ?_
                    have hC47 := hS27.split [] [false, false, false, false, false, false, false, false] rfl; dsimp only [selF, pickA, nthA, List.cons_append, List.nil_append] at hC47
                    refine wl_call cal_14 rfl (refSame_sp hC47 (Ent.starL (ent_ina he hwe.1.al) 6 rfl) (Ent.starL (ent_inf he hwe.1.fdl) 6 rfl) (Ent.starL (ent_row (by have := hwe.1.al; omega)) 1 rfl) (Ent.starL (ent_row (by have := hwe.1.fdl; omega)) 2 rfl)) rfl ?_
                    rintro e w47 ⟨_, rfl, rfl, hS47⟩; refine ⟨_, rfl, ?_⟩
                    replace hS47 := hS47.join rfl; dsimp only [List.dropLast, List.cons_append, List.nil_append] at hS47; clear hC47
                    clear hS27
                    refine wl_guard rfl rfl h46 ?_
                    refine wl_not rfl rfl ?_
                    refine wl_pickF rfl h46 rfl rfl ?_
                    refine wl_nil ?_
                    refine qs_seq ?_
                    refine wc_sub (L' := [(117, _), (13, _), (1, _), (5, _), (6, _), (9, _), (14, _)]) (.cons rfl (.cons rfl (.cons rfl (.cons rfl (.cons rfl (.cons rfl (.cons rfl .nil))))))) ?_
                    refine wc_cond rfl (fun h48 => ?_) (fun h48 => ?_)
                    · skip
                      first | exact absurd rfl h48 | (simp at h48; done)
                    · skip
                      refine wc_skip ?_
                      refine qs_block_normal ?_
                      refine qs_seq ?_
                      refine wc_region ?_
                      refine wl_move rfl rfl ?_
                      refine wl_add rfl rfl (by first | omega | (simp; omega)) (by first | omega | (simp; omega)) rfl ?_
                      refine wl_assign rfl rfl ?_
                      refine wl_nil ?_
                      have hn := leftN_keep (par := parent) hxe (by unfold keepB; first | (rw [decide_eq_false (show ¬ hq e.x 5 = 3 by assumption), Bool.and_false]; rfl) | (rw [decide_eq_false (show ¬ hq e.x 1 = parent by assumption)]; rfl))
                      exact qs_round (L1 := [(1, _), (5, _), (6, _), (9, _), (13, _), (14, intV ((i + 1 : Nat) : Int))]) (.cons rfl (.cons rfl (.cons rfl (.cons rfl (.cons rfl (.cons rfl .nil)))))) (k1 := es.length - (i + 1)) (by omega) ⟨i + 1, rfl, (by first | (rw [hn]; done) | (rw [hn]; rfl) | (rw [hn]; simp; done)), hS47.pick [5, 6, 3, 7] rfl, by omega⟩
            · skip
              refine wc_exit ?_
              refine qs_then_exit ?_
              refine qs_then_exit ?_
              refine qs_block_exit ?_
              refine qs_seq ?_
              refine wc_seq ?_
              refine wc_region ?_
              refine wl_move rfl rfl ?_
              refine wl_move rfl rfl ?_
              refine wl_guard rfl rfl rfl ?_
              refine wl_move rfl rfl ?_
              refine wl_guard rfl rfl rfl ?_
              refine wl_makeIface nif_25 rfl rfl ?_
              refine wl_guard rfl rfl rfl ?_
              have hC49 := hS21.split [2] [false, false, true, false] rfl; dsimp only [selF, pickA, nthA, List.cons_append, List.nil_append] at hC49
              refine wl_call cal_15 rfl (all_sp hC49 (hG.starL 2 rfl) hP2.tb (hP2.keys (by omega))) rfl ?_
              rintro e w49 ⟨_, rfl, kl3, hkl3, hS49⟩; refine ⟨_, rfl, ?_⟩
              replace hS49 := hS49.join rfl; dsimp only [List.dropLast, List.cons_append, List.nil_append] at hS49; clear hC49
              clear hS21
              obtain ⟨au3, cu3, rfl, _⟩ := hS49.own_shape 0 rfl
              have hfin := orph_all hP.tb hr hp1 hkl hkl3 (i := i) (by omega)
              refine wl_guard rfl rfl rfl ?_
              first | refine wl_lenL Tryz.underlying46 rfl rfl ?_ | refine wl_lenO 0 hS49 Tryz.underlying46 rfl rfl rfl ?_ | refine wl_lenO 2 hS49 Tryz.underlying46 rfl rfl rfl ?_
              refine wl_guard rfl rfl rfl ?_
              refine wl_move rfl rfl ?_
              refine wl_guard rfl rfl rfl ?_
              refine wl_eql rfl rfl rfl ?_
              refine wl_pickT rfl rfl rfl rfl ?_
              refine wl_assign rfl rfl ?_
              refine wl_nil ?_
              refine qs_seq ?_
              refine wc_sub (L' := [(4, _)]) (.cons rfl .nil) ?_
              refine wc_ret ?_
              refine fin1 (.inr rfl) rfl rfl ?_
              exact ⟨_, rfl, by first | rfl | (simp [hfin]; done), hS49.pick [4] rfl⟩

end Go.Proofs.YtcbdclhoekokpaaGreatDoor
