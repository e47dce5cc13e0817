/- procs: records, pids -/
import Derived.Test.YtcbdclhoekokpaaGreatDoorPc5
import Derived.Test.YtcbdclhoekokpaaGreatDoorWb
namespace Go.Proofs.YtcbdclhoekokpaaGreatDoor
open Go.RowKit M
set_option linter.unusedVariables false
/-- a record in memory -/
structure PE where
  x : ProcD
  aa : Option Addr
  ac : Nat
  fa : Option Addr
  fc : Nat
def PE.av (e : PE) : Value := .slice e.aa e.x.ar.length e.ac
def PE.fv (e : PE) : Value := .slice e.fa e.x.fds.length e.fc
def peV (e : PE) : List Value := procV e.x e.av e.fv
def prC : RowC PE := ⟨peV, 61, by decide, fun _ => rfl, fun _ => procV_one rfl rfl⟩
def inT (e : PE) : Th := starL [rowT arC e.av e.x.ar, rowT stC e.fv e.x.fds]
theorem in_app {w : World} {As : List Th} {e : PE} {es : List PE} (h : Sat w (rowT arC e.av e.x.ar :: rowT stC e.fv e.x.fds :: starL (es.map inT) :: As)) : Sat w (starL ((es ++ [e]).map inT) :: As) := by
  have h1 : Sat w (inT e :: starL (es.map inT) :: As) := Sat.fold (As := [rowT arC e.av e.x.ar, rowT stC e.fv e.x.fds]) h
  have h2 := big_in (i := 0) h1
  refine big_perm h2 ?_
  rw [List.map_append]
  exact List.perm_append_comm (l₁ := [inT e]) (l₂ := es.map inT)
theorem keysOf_len2 {c : Bs → Bs} {pre : Bs} {l : List Bs} {n : Nat} (h : KeysOf c pre l) (hk : KeysIn c n) : l.length ≤ n := by
  obtain ⟨l0, rfl, hn, hm⟩ := h
  obtain ⟨ks, h1, h2⟩ := hk.few
  rw [sortS_len]
  exact Nat.le_trans (List.Nodup.length_le_of_subset hn fun k hk => h2 k ((hm k).1 hk).1) h1
/-- the record of a cell -/
noncomputable def recF (W : WS) (key : Bs) : Option ProcD := match decP (W.cells key) with | some x => if keyP (hq x 0) = key then some x else none | none => none
noncomputable def recsF (W : WS) (pr : ProcD → Bool) (l : List Bs) : List ProcD := (l.filterMap (recF W)).filter pr
theorem recs_none {W : WS} {pr : ProcD → Bool} {l : List Bs} {i : Nat} {k : Bs} (hk : l[i]? = some k) (h : recF W k = none) : recsF W pr (l.take (i + 1)) = recsF W pr (l.take i) := by
  unfold recsF; rw [List.take_add_one, hk, List.filterMap_append]; simp [h]
theorem recs_drop {W : WS} {pr : ProcD → Bool} {l : List Bs} {i : Nat} {k : Bs} {x : ProcD} (hk : l[i]? = some k) (h : recF W k = some x) (hp : pr x = false) : recsF W pr (l.take (i + 1)) = recsF W pr (l.take i) := by
  unfold recsF; rw [List.take_add_one, hk, List.filterMap_append]; simp [h, hp]
theorem recs_some {W : WS} {pr : ProcD → Bool} {l : List Bs} {i : Nat} {k : Bs} {x : ProcD} (hk : l[i]? = some k) (h : recF W k = some x) (hp : pr x = true) : recsF W pr (l.take (i + 1)) = recsF W pr (l.take i) ++ [x] := by
  unfold recsF; rw [List.take_add_one, hk, List.filterMap_append]; simp [h, hp]
theorem recs_few (W : WS) (pr : ProcD → Bool) (l : List Bs) : (recsF W pr l).length ≤ l.length := by
  unfold recsF
  exact Nat.le_trans (List.length_filter_le _ _) (List.length_filterMap_le _ _)
def Wants (wf : Nat) (caps : List Value) (C : Th) (pr : ProcD → Bool) : Prop := ∀ (x : ProcD) (av fv : Value) (w : World) (X : Th), Sat w [C, X] → Calls Tryz.prog wf (.agg (procV x av fv).toArray :: caps).toArray w (Ret fun v w' => v = .bool (pr x) ∧ Sat w' [C, X])
set_option maxRecDepth 100000 in
set_option maxHeartbeats 2000000 in
theorem records_sp {w : World} {p : Nat} {W : WS} {C F : Th} (hS : Sat w [worldT p W, C, F]) (hG : Ent F WireG) (hB : TB W) (hK : KeysIn W.cells 1000000) {wf : Nat} {caps : List Value} {pr : ProcD → Bool} (hcb : callB Tryz.prog wf = true) (hW : Wants wf caps C pr) :
    Calls Tryz.prog 47 #[.iface 25 (ptrV p 0), .func (.func wf) #[] caps.toArray] w (Ret fun v w' => ∃ es kl, KeysOf W.cells [80, 47] kl ∧ es.map (·.x) = recsF W pr kl ∧ Sat w' [rowT prC v es, starL (es.map inT), worldT p W, C, F]) := by
  refine calls_enter Tryz.func47 rfl Tryz.ntmps47 rfl ?_
  refine wc_seq ?_
  refine wc_region ?_
  refine wl_assign rfl rfl ?_
  refine wl_nil ?_
  refine qs_seq ?_
  refine wc_seq ?_
  refine wc_region ?_
  refine wl_assign rfl rfl ?_
  refine wl_nil ?_
  refine qs_seq ?_
  refine wc_seq ?_
  refine wc_seq ?_
  refine wc_region ?_
  refine wl_move rfl rfl ?_
  have hC1 := hS.split [0] [true, false, false] rfl; dsimp only [selF, pickA, nthA, List.cons_append, List.nil_append] at hC1
  refine wl_invoke (vs := [strV [80, 47]]) rfl (imeth_Keys p) cal_31 rfl (keys_sp hC1 [80, 47] hK) rfl ?_
  rintro e w1 ⟨_, rfl, kl, hkl, hS1⟩; refine ⟨_, rfl, ?_⟩
  replace hS1 := hS1.join rfl; dsimp only [List.dropLast, List.cons_append, List.nil_append] at hS1; clear hC1
  have hkll := keysOf_len2 hkl hK
  refine wl_lenO 0 hS1 Tryz.underlying31 rfl rfl rfl ?_
  refine wl_move rfl rfl ?_
  refine wl_nil ?_
  refine qs_seq ?_
  refine wc_block ?_
  have hSn := (Sat.fold (As := []) hS1).row_nil prC
  refine wc_loop (fun K0 E0 W0 => ∃ (i : Nat) (ov : Value) (es : List PE) (klv : Value), K0 = kl.length - i ∧ E0 = [(0, .iface 25 (ptrV p 0)), (1, .func (.func wf) #[] caps.toArray), (5, ov), (11, klv), (12, intV (kl.length : Int)), (13, intV (i : Int))] ∧ Sat W0 [rowT prC ov es, starL (es.map inT), rowT stC klv kl, worldT p W, C, F] ∧ (i ≤ kl.length) ∧ (es.map (·.x) = recsF W pr (kl.take i))) (L0 := [(0, _), (1, _), (5, _), (11, _), (12, _), (13, _)]) (kl.length - 0) (.cons rfl (.cons rfl (.cons rfl (.cons rfl (.cons rfl (.cons rfl .nil)))))) ⟨0, _, [], _, rfl, rfl, (hSn.pick [0, 1, 2, 3, 4, 5] rfl), by omega, rfl⟩ ?_
  rintro _ _ w2 ⟨i, ov, es, klv, rfl, rfl, hS2, hi, hes⟩
  have h1ov : ov.oneCell' = true := hS2.own_one 0 rfl
  have hel := congrArg List.length hes
  rw [List.length_map] at hel
  have hfw := recs_few W pr (kl.take i)
  have htk : (kl.take i).length ≤ kl.length := by rw [List.length_take]; omega
  refine wc_seq ?_
  refine wc_region ?_
  refine wl_lss rfl rfl rfl ?_
  refine wl_nil ?_
  refine qs_seq ?_
  refine wc_seq ?_
  refine wc_condD rfl (fun h3 => ?_) (fun h3 => ?_)
  · skip
    obtain ⟨key, hkey⟩ : ∃ k, kl[i]? = some k := ⟨_, List.getElem?_eq_getElem (by omega)⟩
    refine wc_skip ?_
    refine qs_seq ?_
    refine wc_seq ?_
    refine wc_block ?_
    refine wc_seq ?_
    refine wc_region ?_
    refine wl_rowIdx stC 2 i hS2 rfl rfl rfl (by first | rfl | omega) hkey es_31 rfl ?_
    intro bx4 capx4 hvx4
    refine wl_rowLoad 2 i 0 hS2 rfl hvx4 rfl rfl hkey ag_9 rfl rfl ?_
    refine wl_assign rfl rfl ?_
    refine wl_nil ?_
    refine qs_seq ?_
    refine wc_seq ?_
    refine wc_region ?_
    refine wl_move rfl rfl ?_
    refine wl_move rfl rfl ?_
    have hC5 := hS2.split [3] [false, false, false, true, false, false] rfl; dsimp only [selF, pickA, nthA, List.cons_append, List.nil_append] at hC5
    refine wl_invoke (vs := [strV key]) rfl (imeth_Get p) cal_33 rfl (get_sp hC5 key) rfl ?_
    rintro e w5 ⟨_, rfl, rfl, hS5⟩; refine ⟨_, rfl, ?_⟩
    replace hS5 := hS5.join rfl; dsimp only [List.dropLast, List.cons_append, List.nil_append] at hS5; clear hC5
    clear hS2
    have hC6 := hS5.split [] [false, false, false, false, false, false] rfl; dsimp only [selF, pickA, nthA, List.cons_append, List.nil_append] at hC6
    refine wl_call cal_21 rfl (readP_sp hC6 (hG.starL 5 rfl) (W.cells key) (hB _)) rfl ?_
    rintro e w6 ⟨_, rfl, av, fv, rfl, hS6⟩; refine ⟨_, rfl, ?_⟩
    replace hS6 := hS6.join rfl; dsimp only [List.dropLast, List.cons_append, List.nil_append] at hS6; clear hC6
    clear hS5
    refine wl_move rfl rfl ?_
    refine wl_extract rfl rfl rfl ?_
    refine wl_extract rfl rfl rfl ?_
    have hone := procV_one (x := (decP (W.cells key)).getD zeroP) (hS6.own_one 0 rfl) (hS6.own_one 1 rfl)
    refine wl_alloc hS6 zr_38 rfl rfl ?_
    intro bq w7 hS7
    clear hS6
    refine wl_storeA hS7 rfl rfl sz_38 rfl (by first | rfl | (simp [allOne, Value.oneCell']; done) | assumption) (i := 0) rfl (by first | decide | exact Nat.le_of_ble_eq_true rfl | (simp; done) | omega) ?_
    intro w8 hS8; dsimp only [List.set] at hS8
    clear hS7
    rw [splice_all _ _ (by rfl)] at hS8
    refine wl_assign rfl rfl ?_
    refine wl_nil ?_
    refine qs_seq ?_
    refine wc_sub (L' := [(9, _), (8, _), (7, _), (0, _), (1, _), (5, _), (11, _), (12, _), (13, _)]) (.cons rfl (.cons rfl (.cons rfl (.cons rfl (.cons rfl (.cons rfl (.cons rfl (.cons rfl (.cons rfl .nil))))))))) ?_
    refine wc_seq ?_
    refine wc_region ?_
    refine wl_move rfl rfl ?_
    refine wl_move rfl rfl ?_
    refine wl_split 25 rfl (fun h9 => ?_) (fun h9 => ?_)
    · skip
      obtain ⟨x, hd⟩ := optYes (q := (decP (W.cells key))) (by simpa using h9)
      rw [hd] at hS8 hone h9 ⊢
      dsimp only [Option.getD_some] at hS8 hone ⊢
      obtain ⟨aa, ac, rfl, _⟩ := hS8.own_shape 1 rfl
      obtain ⟨fa, fc, rfl, _⟩ := hS8.own_shape 2 rfl
      refine wl_guard rfl rfl h9 ?_
      refine wl_fieldAddr rfl fo_38_0 rfl ?_
      refine wl_guard rfl rfl h9 ?_
      refine wl_load rfl ag_3 (by first | assumption | exact hS8.cell 0 rfl rfl) rfl ?_
      refine wl_guard rfl rfl h9 ?_
      have hC10 := hS8.split [] [false, false, false, false, false, false, false, false, false] rfl; dsimp only [selF, pickA, nthA, List.cons_append, List.nil_append] at hC10
      refine wl_call cal_24 rfl (key_sp hC10 (hG.starL 8 rfl) (hq x 0)) rfl ?_
      rintro e w10 ⟨_, rfl, rfl, hS10⟩; refine ⟨_, rfl, ?_⟩
      replace hS10 := hS10.join rfl; dsimp only [List.dropLast, List.cons_append, List.nil_append] at hS10; clear hC10
      clear hS8
      refine wl_guard rfl rfl h9 ?_
      refine wl_move rfl rfl ?_
      refine wl_guard rfl rfl h9 ?_
      refine wl_eqlS rfl rfl rfl ?_
      refine wl_pickT rfl h9 rfl rfl ?_
      refine wl_move rfl rfl ?_
      refine wl_splitD 32 rfl (fun h11 => ?_) (fun h11 => ?_)
      · skip
        have hrf : recF W key = some x := by unfold recF; rw [hd]; dsimp only; rw [if_pos h11]
        refine wl_guard rfl rfl (decide_eq_true h11) ?_
        refine wl_move rfl rfl ?_
        refine wl_guard rfl rfl (decide_eq_true h11) ?_
        refine wl_loadA rfl ag_38 sz_38 (by first | exact hS10.blk 0 rfl) (by first | decide | exact Nat.le_of_ble_eq_true rfl | (simp; done) | omega) rfl rfl ?_
        refine wl_guard rfl rfl (decide_eq_true h11) ?_
        have hC12 := hS10.split [7] [false, false, false, false, false, false, false, true, false] rfl; dsimp only [selF, pickA, nthA, List.cons_append, List.nil_append] at hC12
        refine wl_callV rfl hcb rfl (hW x (.slice aa x.ar.length ac) (.slice fa x.fds.length fc) _ _ hC12) rfl ?_
        rintro e w12 ⟨_, rfl, rfl, hS12⟩; refine ⟨_, rfl, ?_⟩
        replace hS12 := hS12.join rfl; dsimp only [List.dropLast, List.cons_append, List.nil_append] at hS12; clear hC12
        clear hS10
        refine wl_pickT rfl (decide_eq_true h11) rfl rfl ?_
        refine wl_nil ?_
        refine qs_seq ?_
        refine wc_sub (L' := [(36, _), (8, _), (0, _), (1, _), (5, _), (11, _), (12, _), (13, _)]) (.cons rfl (.cons rfl (.cons rfl (.cons rfl (.cons rfl (.cons rfl (.cons rfl (.cons rfl .nil)))))))) ?_
        refine wc_cond rfl (fun h13 => ?_) (fun h13 => ?_)
        · skip
          refine wc_region ?_
          refine wl_move rfl rfl ?_
          refine wl_loadA rfl ag_38 sz_38 (by first | exact hS12.blk 1 rfl) (by first | decide | exact Nat.le_of_ble_eq_true rfl | (simp; done) | omega) rfl rfl ?_
          refine wl_rowBuild prC [⟨x, aa, ac, fa, fc⟩] hS12 rfl Tryz.underlying53 ifz_38 rfl rfl rfl rfl (by first | rfl | simp [RowC.cells, fillL, splice]) rfl ?_
          intro b14 w14 hS14
          clear hS12
          refine wl_rowApp prC 6 hS14 rfl rfl rfl (hS14.rd 0 rfl (by simp)) Tryz.underlying53 Tryz.underlying53 (by intro k hk; cases hk) ifo_38 rfl (by simp only [List.length_cons, List.length_nil]; omega) rfl (by simp only [List.length_cons, List.length_nil]; omega) ?_
          intro v15 w15 hS15; dsimp only [List.set] at hS15
          clear hS14
          have h1v15 : v15.oneCell' = true := hS15.own_one 6 rfl
          refine wl_assign rfl rfl ?_
          refine wl_nil ?_
          refine qs_block_normal ?_
          refine qs_seq ?_
          refine wc_sub (L' := [(5, _), (0, _), (1, _), (11, _), (12, _), (13, _)]) (.cons rfl (.cons rfl (.cons rfl (.cons rfl (.cons rfl (.cons rfl .nil)))))) ?_
          refine wc_region ?_
          refine wl_add rfl rfl (by first | omega | (simp; omega)) (by first | omega | (simp; omega)) rfl ?_
          refine wl_move rfl rfl ?_
          refine wl_nil ?_
          have hn := recs_some (pr := pr) hkey hrf (by assumption)
          have hin := in_app (e := ⟨x, aa, ac, fa, fc⟩) (es := es) (hS15.pick [3, 4, 7, 6, 8, 5, 1, 9] rfl)
          exact qs_round (L1 := [(0, _), (1, _), (5, _), (11, _), (12, _), (13, intV ((i + 1 : Nat) : Int))]) (.cons rfl (.cons rfl (.cons rfl (.cons rfl (.cons rfl (.cons rfl .nil)))))) (k1 := kl.length - (i + 1)) (by omega) ⟨i + 1, _, _, _, rfl, rfl, (hin.reorder [1, 0, 2, 3, 4, 5] rfl), by omega, by rw [hn, List.map_append, hes]; rfl⟩
        refine wc_skip ?_
        refine qs_block_normal ?_
        refine qs_seq ?_
        refine wc_region ?_
        refine wl_add rfl rfl (by first | omega | (simp; omega)) (by first | omega | (simp; omega)) rfl ?_
        refine wl_move rfl rfl ?_
        refine wl_nil ?_
        have hn := recs_drop (pr := pr) hkey hrf (by simpa using (by assumption : pr x = false))
        exact qs_round (L1 := [(0, _), (1, _), (5, _), (11, _), (12, _), (13, intV ((i + 1 : Nat) : Int))]) (.cons rfl (.cons rfl (.cons rfl (.cons rfl (.cons rfl (.cons rfl .nil)))))) (k1 := kl.length - (i + 1)) (by omega) ⟨i + 1, _, _, _, rfl, rfl, hS12.pick [5, 6, 7, 4, 0, 8] rfl, by omega, by rw [hn, hes]⟩
      refine wl_unwanted rfl rfl (decide_eq_false h11) rfl ?_
      refine wl_unwanted rfl rfl (decide_eq_false h11) rfl ?_
      refine wl_unwanted rfl rfl (decide_eq_false h11) rfl ?_
      refine wl_pickF rfl (decide_eq_false h11) rfl rfl ?_
      refine wl_nil ?_
      refine qs_seq ?_
      refine wc_sub (L' := [(36, _), (8, _), (0, _), (1, _), (5, _), (11, _), (12, _), (13, _)]) (.cons rfl (.cons rfl (.cons rfl (.cons rfl (.cons rfl (.cons rfl (.cons rfl (.cons rfl .nil)))))))) ?_
      refine wc_condF rfl ?_
      refine wc_skip ?_
      refine qs_block_normal ?_
      refine qs_seq ?_
      refine wc_region ?_
      refine wl_add rfl rfl (by first | omega | (simp; omega)) (by first | omega | (simp; omega)) rfl ?_
      refine wl_move rfl rfl ?_
      refine wl_nil ?_
      have hn := recs_none (W := W) (pr := pr) hkey (by unfold recF; rw [hd]; dsimp only; rw [if_neg (by assumption)])
      exact qs_round (L1 := [(0, _), (1, _), (5, _), (11, _), (12, _), (13, intV ((i + 1 : Nat) : Int))]) (.cons rfl (.cons rfl (.cons rfl (.cons rfl (.cons rfl (.cons rfl .nil)))))) (k1 := kl.length - (i + 1)) (by omega) ⟨i + 1, _, _, _, rfl, rfl, hS10.pick [4, 5, 6, 3, 7, 8] rfl, by omega, by rw [hn, hes]⟩
    have hd := optNo (q := (decP (W.cells key))) (by simpa using h9)
    refine wl_unwanted rfl rfl h9 rfl ?_
    refine wl_unwanted rfl rfl h9 rfl ?_
    refine wl_unwanted rfl rfl h9 rfl ?_
    refine wl_unwanted rfl rfl h9 rfl ?_
    refine wl_unwanted rfl rfl h9 rfl ?_
    refine wl_pickF rfl h9 rfl rfl ?_
    refine wl_move rfl rfl ?_
    refine wl_unwanted rfl rfl rfl rfl ?_
    refine wl_unwanted rfl rfl rfl rfl ?_
    refine wl_unwanted rfl rfl rfl rfl ?_
    refine wl_pickF rfl rfl rfl rfl ?_
    refine wl_nil ?_
    refine qs_seq ?_
    refine wc_sub (L' := [(36, _), (8, _), (0, _), (1, _), (5, _), (11, _), (12, _), (13, _)]) (.cons rfl (.cons rfl (.cons rfl (.cons rfl (.cons rfl (.cons rfl (.cons rfl (.cons rfl .nil)))))))) ?_
    refine wc_condF rfl ?_
    refine wc_skip ?_
    refine qs_block_normal ?_
    refine qs_seq ?_
    refine wc_region ?_
    refine wl_add rfl rfl (by first | omega | (simp; omega)) (by first | omega | (simp; omega)) rfl ?_
    refine wl_move rfl rfl ?_
    refine wl_nil ?_
    have hn := recs_none (W := W) (pr := pr) hkey (by unfold recF; rw [hd])
    exact qs_round (L1 := [(0, _), (1, _), (5, _), (11, _), (12, _), (13, intV ((i + 1 : Nat) : Int))]) (.cons rfl (.cons rfl (.cons rfl (.cons rfl (.cons rfl (.cons rfl .nil)))))) (k1 := kl.length - (i + 1)) (by omega) ⟨i + 1, _, _, _, rfl, rfl, hS8.pick [4, 5, 6, 3, 7, 8] rfl, by omega, by rw [hn, hes]⟩
  refine wc_exit ?_
  refine qs_then_exit ?_
  refine qs_then_exit ?_
  refine qs_block_exit ?_
  refine qs_seq ?_
  refine wc_seq ?_
  refine wc_region ?_
  refine wl_move rfl rfl ?_
  refine wl_assign rfl rfl ?_
  refine wl_nil ?_
  refine qs_seq ?_
  refine wc_ret ?_
  refine fin1 (.inr rfl) rfl rfl ?_
  exact ⟨_, rfl, es, kl, hkl, by rw [hes, List.take_of_length_le (by omega)], hS2.pick [0, 1, 3, 4, 5] rfl⟩
theorem want48 {w : World} {C F : Th} (hS : Sat w [C, F]) (x : ProcD) (av fv : Value) :
    Calls Tryz.prog 48 #[.agg (procV x av fv).toArray] w (Ret fun v w' => v = .bool true ∧ Sat w' [C, F]) := by
  refine calls_enter Tryz.func48 rfl Tryz.ntmps48 rfl ?_
  refine wc_seq ?_
  refine wc_region ?_
  refine wl_box hS rfl rfl rfl ?_
  intro bp wp hSp0
  have hSp : Sat wp [blkT bp (procV x av fv), C, F] := hSp0
  refine wl_assign rfl rfl ?_
  refine wl_nil ?_
  refine qs_seq ?_
  refine wc_seq ?_
  refine wc_region ?_
  refine wl_assign rfl rfl ?_
  refine wl_nil ?_
  refine qs_seq ?_
  refine wc_ret ?_
  refine fin1 (.inr rfl) rfl rfl ?_
  exact ⟨_, rfl, rfl, hSp.pick [1, 2] rfl⟩
theorem want51 {w : World} {F : Th} {c : Nat} {pid : Int} (hS : Sat w [blkT c [intV pid], F]) (x : ProcD) (av fv : Value) :
    Calls Tryz.prog 51 #[.agg (procV x av fv).toArray, ptrV c 0] w (Ret fun v w' => v = .bool (decide (hq x 1 = pid)) ∧ Sat w' [blkT c [intV pid], F]) := by
  refine calls_enter Tryz.func51 rfl Tryz.ntmps51 rfl ?_
  refine wc_seq ?_
  refine wc_region ?_
  refine wl_box hS rfl rfl rfl ?_
  intro bp wp hSp0
  have hSp : Sat wp [blkT bp (procV x av fv), blkT c [intV pid], F] := hSp0
  refine wl_assign rfl rfl ?_
  refine wl_nil ?_
  refine qs_seq ?_
  refine wc_seq ?_
  refine wc_region ?_
  refine wl_fieldAddr rfl fo_38_1 rfl ?_
  refine wl_load rfl ag_3 (by first | assumption | exact hSp.cell 0 rfl rfl | exact hSp.cell 1 rfl rfl) rfl ?_
  refine wl_load rfl ag_3 (by first | assumption | exact hSp.cell 0 rfl rfl | exact hSp.cell 1 rfl rfl) rfl ?_
  refine wl_eql rfl rfl rfl ?_
  refine wl_assign rfl rfl ?_
  refine wl_nil ?_
  refine qs_seq ?_
  refine wc_ret ?_
  refine fin1 (.inr rfl) rfl rfl ?_
  exact ⟨_, rfl, rfl, hSp.pick [1, 2] rfl⟩
theorem want50 {w : World} {F : Th} {c : Nat} {pid : Int} (hS : Sat w [blkT c [intV pid], F]) (x : ProcD) (av fv : Value) :
    Calls Tryz.prog 50 #[.agg (procV x av fv).toArray, ptrV c 0] w (Ret fun v w' => v = .bool (decide (hq x 1 = pid)) ∧ Sat w' [blkT c [intV pid], F]) := by
  refine calls_enter Tryz.func50 rfl Tryz.ntmps50 rfl ?_
  refine wc_seq ?_
  refine wc_region ?_
  refine wl_box hS rfl rfl rfl ?_
  intro bp wp hSp0
  have hSp : Sat wp [blkT bp (procV x av fv), blkT c [intV pid], F] := hSp0
  refine wl_assign rfl rfl ?_
  refine wl_nil ?_
  refine qs_seq ?_
  refine wc_seq ?_
  refine wc_region ?_
  refine wl_fieldAddr rfl fo_38_1 rfl ?_
  refine wl_load rfl ag_3 (by first | assumption | exact hSp.cell 0 rfl rfl | exact hSp.cell 1 rfl rfl) rfl ?_
  refine wl_load rfl ag_3 (by first | assumption | exact hSp.cell 0 rfl rfl | exact hSp.cell 1 rfl rfl) rfl ?_
  refine wl_eql rfl rfl rfl ?_
  refine wl_assign rfl rfl ?_
  refine wl_nil ?_
  refine qs_seq ?_
  refine wc_ret ?_
  refine fin1 (.inr rfl) rfl rfl ?_
  exact ⟨_, rfl, rfl, hSp.pick [1, 2] rfl⟩
theorem want97 {w : World} {F : Th} {c : Nat} {pid : Int} (hS : Sat w [blkT c [intV pid], F]) (x : ProcD) (av fv : Value) :
    Calls Tryz.prog 97 #[.agg (procV x av fv).toArray, ptrV c 0] w (Ret fun v w' => v = .bool (decide (hq x 2 = pid) && decide (hq x 5 ≠ 3)) ∧ Sat w' [blkT c [intV pid], F]) := by
  refine calls_enter Tryz.func97 rfl Tryz.ntmps97 rfl ?_
  refine wc_seq ?_
  refine wc_region ?_
  refine wl_box hS rfl rfl rfl ?_
  intro bp wp hSp0
  have hSp : Sat wp [blkT bp (procV x av fv), blkT c [intV pid], F] := hSp0
  refine wl_assign rfl rfl ?_
  refine wl_nil ?_
  refine qs_seq ?_
  refine wc_seq ?_
  refine wc_region ?_
  refine wl_fieldAddr rfl fo_38_2 rfl ?_
  refine wl_load rfl ag_3 (by first | assumption | exact hSp.cell 0 rfl rfl | exact hSp.cell 1 rfl rfl) rfl ?_
  refine wl_load rfl ag_3 (by first | assumption | exact hSp.cell 0 rfl rfl | exact hSp.cell 1 rfl rfl) rfl ?_
  refine wl_eql rfl rfl rfl ?_
  refine wl_move rfl rfl ?_
  refine wl_splitD 8 rfl (fun h1 => ?_) (fun h1 => ?_)
  · skip
    refine wl_guard rfl rfl (decide_eq_true h1) ?_
    refine wl_fieldAddr rfl fo_38_5 rfl ?_
    refine wl_guard rfl rfl (decide_eq_true h1) ?_
    refine wl_load rfl ag_3 (by first | assumption | exact hSp.cell 0 rfl rfl | exact hSp.cell 1 rfl rfl) rfl ?_
    refine wl_guard rfl rfl (decide_eq_true h1) ?_
    refine wl_neq rfl rfl rfl ?_
    refine wl_pickT rfl (decide_eq_true h1) rfl rfl ?_
    refine wl_assign rfl rfl ?_
    refine wl_nil ?_
    refine qs_seq ?_
    refine wc_sub (L' := [(3, _)]) (.cons rfl .nil) ?_
    refine wc_ret ?_
    refine fin1 (.inr rfl) rfl rfl ?_
    exact ⟨_, rfl, by simp_all, hSp.pick [1, 2] rfl⟩
  refine wl_unwanted rfl rfl (decide_eq_false h1) rfl ?_
  refine wl_unwanted rfl rfl (decide_eq_false h1) rfl ?_
  refine wl_unwanted rfl rfl (decide_eq_false h1) rfl ?_
  refine wl_pickF rfl (decide_eq_false h1) rfl rfl ?_
  refine wl_assign rfl rfl ?_
  refine wl_nil ?_
  refine qs_seq ?_
  refine wc_sub (L' := [(3, _)]) (.cons rfl .nil) ?_
  refine wc_ret ?_
  refine fin1 (.inr rfl) rfl rfl ?_
  exact ⟨_, rfl, by simp_all, hSp.pick [1, 2] rfl⟩
theorem zrow (m : Nat) : (List.replicate m [intV 0]).flatten = inC.cells (List.replicate m 0) := by
  induction m with
  | zero => rfl
  | succ m ih => rw [List.replicate_succ, List.flatten_cons, ih, List.replicate_succ]; rfl
def pidL (i : Nat) (es : List PE) : List Int := (es.take i).map (fun e => hq e.x 0) ++ List.replicate (es.length - i) 0
theorem pidL_step {i : Nat} {es : List PE} {e : PE} (h : es[i]? = some e) : (pidL i es).set i (hq e.x 0) = pidL (i + 1) es := by
  have hi := (List.getElem?_eq_some_iff.1 h).1
  unfold pidL
  rw [List.set_append_right _ _ (by simp; omega), List.take_add_one, h, show es.length - i = (es.length - (i + 1)) + 1 by omega, List.replicate_succ]
  simp [Nat.min_eq_left (Nat.le_of_lt hi)]
theorem pidL_len (i : Nat) (es : List PE) (hi : i ≤ es.length) : (pidL i es).length = es.length := by
  unfold pidL; simp [Nat.min_eq_left hi]; omega
set_option maxRecDepth 100000 in
set_option maxHeartbeats 1000000 in
theorem pids_sp {w : World} {F : Th} (hS : Sat w [F]) {lv : Value} {es : List PE} (hL : Ent F (RdL prC lv es)) (hl : es.length ≤ 1000000) :
    Calls Tryz.prog 46 #[lv] w (Ret fun v w' => Sat w' [rowT inC v (es.map fun e => hq e.x 0), F]) := by
  obtain ⟨ao, cap, rfl, hmax⟩ := (hL.sat hS 0 rfl).shape
  refine calls_enter Tryz.func46 rfl Tryz.ntmps46 rfl ?_
  refine wc_seq ?_
  refine wc_region ?_
  refine wl_assign rfl rfl ?_
  refine wl_nil ?_
  refine qs_seq ?_
  refine wc_seq ?_
  refine wc_region ?_
  refine wl_move rfl rfl ?_
  refine wl_lenL Tryz.underlying53 rfl rfl ?_
  refine wl_make hS es.length rfl rfl rfl Tryz.underlying46 ifo_3 rfl (by omega) (by omega) rfl ?_
  intro pb w1 hS1a; have hS1 : Sat w1 [rowT inC (.slice (some ⟨pb, 0, none⟩) es.length es.length) (List.replicate es.length 0), F] := hS1a.row_cast (by simp) rfl (zrow _)
  refine wl_assign rfl rfl ?_
  refine wl_nil ?_
  refine qs_seq ?_
  refine wc_seq ?_
  refine wc_seq ?_
  refine wc_region ?_
  refine wl_move rfl rfl ?_
  first | refine wl_lenL Tryz.underlying53 rfl rfl ?_ | refine wl_lenO 0 hS1 Tryz.underlying53 rfl rfl rfl ?_
  refine wl_move rfl rfl ?_
  refine wl_nil ?_
  refine qs_seq ?_
  refine wc_block ?_
  refine wc_loop (fun K0 E0 W0 => ∃ (i : Nat), K0 = es.length - i ∧ E0 = [(3, (.slice (some ⟨pb, 0, none⟩) es.length es.length)), (9, .slice ao es.length cap), (10, intV (es.length : Int)), (11, intV (i : Int))] ∧ Sat W0 [rowT inC (.slice (some ⟨pb, 0, none⟩) es.length es.length) (pidL i es), F] ∧ (i ≤ es.length)) (L0 := [(3, _), (9, _), (10, _), (11, _)]) (es.length - 0) (.cons rfl (.cons rfl (.cons rfl (.cons rfl .nil)))) ⟨0, rfl, rfl, (by unfold pidL; rw [List.take_zero, Nat.sub_zero]; exact hS1.pick [0, 1] rfl), by omega⟩ ?_
  rintro _ _ w2 ⟨i, rfl, rfl, hS2, hi⟩
  refine wc_seq ?_
  refine wc_region ?_
  refine wl_lss rfl rfl rfl ?_
  refine wl_nil ?_
  refine qs_seq ?_
  refine wc_seq ?_
  refine wc_condD rfl (fun h3 => ?_) (fun h3 => ?_)
  · skip
    obtain ⟨e, he⟩ : ∃ e, es[i]? = some e := ⟨_, List.getElem?_eq_getElem (by omega)⟩
    obtain ⟨b, off, rfl, hc⟩ := (hL.sat hS2 1 rfl).get he
    have hone : allOne (procV e.x e.av e.fv) = true := procV_one rfl rfl
    refine wc_skip ?_
    refine qs_seq ?_
    refine wc_seq ?_
    refine wc_block ?_
    refine wc_seq ?_
    refine wc_region ?_
    refine wl_move rfl rfl ?_
    refine wl_indexAddr i rfl rfl (by first | rfl | omega) (by omega) es_53 rfl ?_
    refine wl_loadAt rfl ag_38 sz_38 (vs := peV e) hc rfl ?_
    refine wl_alloc hS2 zr_38 rfl rfl ?_
    intro bq w4 hS4
    clear hS2
    refine wl_assign rfl rfl ?_
    refine wl_storeA hS4 rfl rfl sz_38 rfl (by first | rfl | (simp [allOne, Value.oneCell']; done) | assumption) (i := 0) rfl (by first | decide | exact Nat.le_of_ble_eq_true rfl | (simp; done) | omega) ?_
    intro w5 hS5; dsimp only [List.set] at hS5
    clear hS4
    rw [splice_all _ _ (by rfl)] at hS5
    refine wl_nil ?_
    refine qs_seq ?_
    refine wc_region ?_
    refine wl_move rfl rfl ?_
    refine wl_move rfl rfl ?_
    refine wl_fieldAddr rfl fo_38_0 rfl ?_
    refine wl_load rfl ag_3 (by first | assumption | exact hS5.cell 0 rfl rfl) rfl ?_
    refine wl_indexAddr i rfl rfl (by first | rfl | omega) (by omega) es_46 rfl ?_
    refine wl_rowStore 1 i (hq e.x 0) hS5 rfl rfl (by rw [Nat.zero_add]; rfl) rfl sz_3 (by first | rfl | (simp; done)) (by rw [pidL_len _ _ hi]; omega) ?_
    intro w6 hS6; dsimp only [List.set] at hS6
    clear hS5
    rw [pidL_step he] at hS6
    refine wl_nil ?_
    refine qs_block_normal ?_
    refine qs_seq ?_
    refine wc_sub (L' := [(3, _), (9, _), (10, _), (11, _)]) (.cons rfl (.cons rfl (.cons rfl (.cons rfl .nil)))) ?_
    refine wc_region ?_
    refine wl_add rfl rfl (by first | omega | (simp; omega)) (by first | omega | (simp; omega)) rfl ?_
    refine wl_move rfl rfl ?_
    refine wl_nil ?_
    exact qs_round (L1 := [(3, _), (9, _), (10, _), (11, intV ((i + 1 : Nat) : Int))]) (.cons rfl (.cons rfl (.cons rfl (.cons rfl .nil)))) (k1 := es.length - (i + 1)) (by omega) ⟨i + 1, rfl, rfl, hS6.pick [1, 2] rfl, by omega⟩
  refine wc_exit ?_
  refine qs_then_exit ?_
  refine qs_then_exit ?_
  refine qs_block_exit ?_
  refine qs_seq ?_
  refine wc_seq ?_
  refine wc_region ?_
  refine wl_move rfl rfl ?_
  refine wl_assign rfl rfl ?_
  refine wl_nil ?_
  refine qs_seq ?_
  refine wc_ret ?_
  refine fin1 (.inr rfl) rfl rfl ?_
  exact ⟨_, rfl, (by rw [show es.map (fun e => hq e.x 0) = pidL i es by unfold pidL; rw [List.take_of_length_le (by omega), show es.length - i = 0 by omega]; simp]; exact hS2.pick [0, 1] rfl)⟩
end Go.Proofs.YtcbdclhoekokpaaGreatDoor
