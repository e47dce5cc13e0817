/- procs: Reparent, New -/
import Derived.Test.YtcbdclhoekokpaaGreatDoorPd0
namespace Go.Proofs.YtcbdclhoekokpaaGreatDoor
open Go.RowKit M
set_option linter.unusedVariables false
def setPar (x : ProcD) : ProcD := ⟨x.hs.set 1 1, x.ar, x.fds, x.cwd, x.ts, x.shl⟩
theorem encN_two (n : Int) (h : inI n) : 2 ≤ (encN n).length := by
  have := (itoa_len h).2
  unfold encN; rw [List.length_append, List.length_singleton]; omega
theorem wfr_setPar {x : ProcD} (h : WFR x) : WFR (setPar x) where
  hl := by unfold setPar; rw [List.length_set]; exact h.hl
  hi := fun n hn => by
    unfold setPar at hn
    rcases List.mem_or_eq_of_mem_set hn with q | q
    · exact h.hi n q
    · subst q; unfold inI; omega
  tl := h.tl
  ti := h.ti
  fl := h.fl
  ar := h.ar
  al := h.al
  fd := h.fd
  fdl := h.fdl
  cwd := h.cwd
  shl := h.shl
theorem encs_set : ∀ {l : List Int}, (∀ n ∈ l, inI n) → ∀ j : Nat, (encIs (l.set j 1)).length ≤ (encIs l).length
  | [], _, _ => by simp
  | n :: l, h, 0 => by
    have h1 := encN_two n (h n (by simp))
    have h2 : (encN 1).length = 2 := by unfold encN; rw [show (1 : Int) = ((1 : Nat) : Int) from rfl, Lib.itoa_nonneg, Lib.decDigits, dif_pos (by decide)]; rfl
    simp only [List.set_cons_zero, encIs, List.flatMap_cons, List.length_append]; omega
  | n :: l, h, j + 1 => by
    have ih := encs_set (fun m hm => h m (by simp [hm]) : ∀ m ∈ l, inI m) j
    unfold encIs at ih
    simp only [List.set_cons_succ, encIs, List.flatMap_cons, List.length_append]; omega
theorem len_setPar {x : ProcD} (h : WFR x) : (encR (setPar x)).length ≤ (encR x).length := by
  have := encs_set h.hi 1
  rw [encR_len, encR_len]; unfold setPar; dsimp only; omega
theorem hq_setPar {x : ProcD} (h : WFR x) (j : Nat) : hq (setPar x) j = if j = 1 then 1 else hq x j := by
  have hl := h.hl
  unfold hq setPar; dsimp only
  rw [List.getD_eq_getElem?_getD, List.getD_eq_getElem?_getD, List.getElem?_set]
  by_cases e : 1 = j
  · subst e; simp [hl]
  · rw [if_neg e, if_neg (Ne.symm e)]
theorem procV_setPar {x : ProcD} (h : WFR x) (av fv : Value) : (procV x av fv).set 1 (intV 1) = procV (setPar x) av fv := by
  have hl := h.hl
  rw [procV_eq, procV_eq]
  unfold pF setPar; dsimp only
  rw [List.set_append_left _ _ (by simp), map_set]
  congr 1
  refine List.map_congr_left fun k _ => ?_
  rw [List.getD_eq_getElem?_getD, List.getD_eq_getElem?_getD, List.getElem?_set]
  by_cases e : k = 1
  · subst e; simp [hl]
  · rw [if_neg e, if_neg (Ne.symm e)]
noncomputable def repF (W : WS) (x : ProcD) : WS := if hq x 5 = 3 then rmW W (hq x 0) else putW W (setPar x)
noncomputable def repW (W : WS) (l : List ProcD) : WS := l.foldl repF W
noncomputable def repA (W : WS) (es : List PE) (i : Nat) : WS := repW W ((es.take i).map (·.x))
theorem repA_zero (W : WS) (es : List PE) : repA W es 0 = W := by unfold repA repW; rfl
theorem repA_succ {W : WS} {es : List PE} {i : Nat} {e : PE} (he : es[i]? = some e) : repA W es (i + 1) = repF (repA W es i) e.x := by
  unfold repA repW
  rw [List.take_add_one, he, List.map_append, List.foldl_append]; rfl
theorem ent_ina {es : List PE} {i : Nat} {e : PE} (he : es[i]? = some e) (hl : e.x.ar.length ≤ 1000000) : Ent (starL (es.map inT)) (RdL arC e.av e.x.ar) := by
  have h1 : Ent (inT e) (RdL arC e.av e.x.ar) := fun {w F} h => Ent.starL (As := [rowT arC e.av e.x.ar, rowT stC e.fv e.x.fds]) (ent_row (C := arC) (v := e.av) (l := e.x.ar) (by omega)) 0 rfl h
  have h2 : (es.map inT)[i]? = some (inT e) := by rw [List.getElem?_map, he]; rfl
  exact fun {w F} h => Ent.starL (As := es.map inT) h1 i h2 h
theorem ent_inf {es : List PE} {i : Nat} {e : PE} (he : es[i]? = some e) (hl : e.x.fds.length ≤ 1000000) : Ent (starL (es.map inT)) (RdL stC e.fv e.x.fds) := by
  have h1 : Ent (inT e) (RdL stC e.fv e.x.fds) := fun {w F} h => Ent.starL (As := [rowT arC e.av e.x.ar, rowT stC e.fv e.x.fds]) (ent_row (C := stC) (v := e.fv) (l := e.x.fds) (by omega)) 1 rfl h
  have h2 : (es.map inT)[i]? = some (inT e) := by rw [List.getElem?_map, he]; rfl
  exact fun {w F} h => Ent.starL (As := es.map inT) h1 i h2 h
theorem recs_wf {W : WS} {pr : ProcD → Bool} {l : List Bs} (hB : TB W) {x : ProcD} (h : x ∈ recsF W pr l) : WFR x ∧ (encR x).length ≤ 1000000 := by
  obtain ⟨_, _, h3⟩ := recs_mem h
  obtain ⟨h4, h5⟩ := dec_some h3
  exact ⟨h4, by rw [h5]; exact hB _⟩
theorem es_mem {es : List PE} {l : List ProcD} {i : Nat} {e : PE} (hes : es.map (·.x) = l) (he : es[i]? = some e) : e.x ∈ l := by
  rw [← hes]; exact List.mem_map.2 ⟨e, List.mem_of_getElem? he, rfl⟩
/-- what New answers -/
def NewP (block : Int) (zs : List Int) (n e : Int) : Prop :=
  ((block < 0 ∨ block > 15623) → n = 0 ∧ e = 1) ∧
  (¬ (block < 0 ∨ block > 15623) → 64 ≤ zs.length → n = 0 ∧ e = 6) ∧
  (¬ (block < 0 ∨ block > 15623) → zs.length < 64 →
    (e = 0 ∧ 64 * block < n ∧ n < 64 * block + 64 ∧ n ∉ zs ∧ ∀ m : Int, 64 * block < m → m < n → m ∈ zs) ∨
    (n = 0 ∧ e = 6 ∧ ∀ m : Int, 64 * block < m → m < 64 * block + 64 → m ∈ zs))
/-- what Reparent leaves -/
def RepP (W : WS) (pid : Int) (W' : WS) : Prop := (pid = 1 ∧ W' = W) ∨ (pid ≠ 1 ∧ ∃ kl, KeysOf W.cells [80, 47] kl ∧ W' = repW W (recsF W (fun x => decide (hq x 1 = pid)) kl))
set_option maxRecDepth 100000 in
theorem rep_sp {w : World} {p : Nat} {W : WS} {F : Th} (hS : Sat w [worldT p W, F]) (hG : Ent F WireG) (hB : TB W) (hK : KeysIn W.cells 1000000) (pid : Int) :
    Calls Tryz.prog 18 #[.iface 25 (ptrV p 0), intV pid] w (Ret fun v w' => v = .tuple #[] ∧ ∃ W', RepP W pid W' ∧ Sat w' [worldT p W', F]) := by
  refine calls_enter Tryz.func18 rfl Tryz.ntmps18 rfl ?_
  refine wc_seq ?_
  refine wc_region ?_
  refine wl_box hS rfl rfl rfl ?_
  intro cc w1 hS1
  refine wl_nil ?_
  refine qs_seq ?_
  refine wc_seq ?_
  refine wc_seq ?_
  refine wc_region ?_
  refine wl_load rfl ag_3 (by first | assumption | exact hS1.cell 0 rfl rfl) rfl ?_
  refine wl_eql rfl rfl rfl ?_
  refine wl_nil ?_
  refine qs_seq ?_
  refine wc_condD rfl (fun h2 => ?_) (fun h2 => ?_)
  · skip
    refine wc_ret ?_
    refine qs_then_ret ?_
    refine fin0 (.inr rfl) rfl ?_
    exact ⟨_, rfl, rfl, W, .inl ⟨by assumption, rfl⟩, hS1.pick [1, 2] rfl⟩
  refine wc_skip ?_
  refine qs_seq ?_
  refine wc_seq ?_
  refine wc_region ?_
  refine wl_move rfl rfl ?_
  refine wl_makeFunc rfl rfl ?_
  have hC3 := hS1.split [1, 0] [true, true, false] rfl; dsimp only [selF, pickA, nthA, List.cons_append, List.nil_append] at hC3
  refine wl_call cal_47 rfl (records_sp hC3 (hG.starL 0 rfl) hB hK (caps := [ptrV cc 0]) (pr := (fun x => decide (hq x 1 = pid))) cal_50 (fun x av fv w X hS => want50 hS x av fv)) rfl ?_
  rintro e w3 ⟨_, rfl, es, kl, hkl, hes, hS3⟩; refine ⟨_, rfl, ?_⟩
  replace hS3 := hS3.join rfl; dsimp only [List.dropLast, List.cons_append, List.nil_append] at hS3; clear hC3
  clear hS1
  have hkll := keysOf_len2 hkl hK
  have hel := congrArg List.length hes
  rw [List.length_map] at hel
  have hfw := recs_few W (fun x => decide (hq x 1 = pid)) kl
  obtain ⟨ao, cap, rfl, _⟩ := hS3.own_shape 0 rfl
  first | refine wl_lenL Tryz.underlying53 rfl rfl ?_ | refine wl_lenO 0 hS3 Tryz.underlying53 rfl rfl rfl ?_
  refine wl_move rfl rfl ?_
  refine wl_nil ?_
  refine qs_seq ?_
  refine wc_block ?_
  refine wc_loop (fun K0 E0 W0 => ∃ (i : Nat), K0 = es.length - i ∧ E0 = [(0, .iface 25 (ptrV p 0)), (10, .slice ao es.length cap), (11, intV (es.length : Int)), (12, intV (i : Int))] ∧ Sat W0 [rowT prC (.slice ao es.length cap) es, starL (es.map inT), worldT p (repA W es i), blkT cc [intV pid], F] ∧ (i ≤ es.length)) (L0 := [(0, _), (10, _), (11, _), (12, _)]) (es.length - 0) (.cons rfl (.cons rfl (.cons rfl (.cons rfl .nil)))) ⟨0, rfl, rfl, (by rw [repA_zero]; exact hS3.pick [0, 1, 2, 3, 4] rfl), by omega⟩ ?_
  rintro _ _ w4 ⟨i, rfl, rfl, hS4, hi⟩
  refine wc_seq ?_
  refine wc_region ?_
  refine wl_lss rfl rfl rfl ?_
  refine wl_nil ?_
  refine qs_seq ?_
  refine wc_seq ?_
  refine wc_condD rfl (fun h5 => ?_) (fun h5 => ?_)
  · skip
    obtain ⟨e, he⟩ : ∃ e, es[i]? = some e := ⟨_, List.getElem?_eq_getElem (by omega)⟩
    obtain ⟨b, off, rfl, hc⟩ := (Ent.sat (ent_row (C := prC) (l := es) (by omega)) hS4 0 rfl).get he
    have hone : allOne (procV e.x e.av e.fv) = true := procV_one rfl rfl
    have hwe := recs_wf hB (es_mem hes he)
    refine wc_skip ?_
    refine qs_seq ?_
    refine wc_seq ?_
    refine wc_block ?_
    refine wc_seq ?_
    refine wc_region ?_
    refine wl_indexAddr i rfl rfl (by first | rfl | omega) (by omega) es_53 rfl ?_
    refine wl_loadAt rfl ag_38 sz_38 (vs := peV e) hc rfl ?_
    refine wl_alloc hS4 zr_38 rfl rfl ?_
    intro bq w6 hS6
    clear hS4
    refine wl_storeA hS6 rfl rfl sz_38 rfl (by first | rfl | (simp [allOne, Value.oneCell']; done) | assumption) (i := 0) rfl (by first | decide | exact Nat.le_of_ble_eq_true rfl | (simp; done) | omega) ?_
    intro w7 hS7; dsimp only [List.set] at hS7
    clear hS6
    rw [splice_all _ _ (by rfl)] at hS7
    refine wl_nil ?_
    refine qs_seq ?_
    refine wc_seq ?_
    refine wc_seq ?_
    refine wc_region ?_
    refine wl_fieldAddr rfl fo_38_5 rfl ?_
    refine wl_load rfl ag_3 (by first | assumption | exact hS7.cell 0 rfl rfl | exact hS7.cell 4 rfl rfl) rfl ?_
    refine wl_eql rfl rfl rfl ?_
    refine wl_nil ?_
    refine qs_seq ?_
    refine wc_sub (L' := [(18, _), (5, _), (0, _), (10, _), (11, _), (12, _)]) (.cons rfl (.cons rfl (.cons rfl (.cons rfl (.cons rfl (.cons rfl .nil)))))) ?_
    refine wc_condD rfl (fun h8 => ?_) (fun h8 => ?_)
    · skip
      refine wc_seq ?_
      refine wc_region ?_
      refine wl_move rfl rfl ?_
      refine wl_fieldAddr rfl fo_38_0 rfl ?_
      refine wl_load rfl ag_3 (by first | assumption | exact hS7.cell 0 rfl rfl | exact hS7.cell 4 rfl rfl) rfl ?_
      have hC9 := hS7.split [3] [false, false, false, true, false, false] rfl; dsimp only [selF, pickA, nthA, List.cons_append, List.nil_append] at hC9
      refine wl_call cal_44 rfl (rmP_sp hC9 (hG.starL 4 rfl) (hq e.x 0)) rfl ?_
      rintro e w9 ⟨_, rfl, rfl, hS9⟩; refine ⟨_, rfl, ?_⟩
      replace hS9 := hS9.join rfl; dsimp only [List.dropLast, List.cons_append, List.nil_append] at hS9; clear hC9
      clear hS7
      refine wl_nil ?_
      refine qs_seq ?_
      refine wc_exit ?_
      refine qs_then_exit ?_
      refine qs_block_exit ?_
      refine qs_seq ?_
      refine wc_region ?_
      refine wl_add rfl rfl (by first | omega | (simp; omega)) (by first | omega | (simp; omega)) rfl ?_
      refine wl_move rfl rfl ?_
      refine wl_nil ?_
      have hn := repA_succ (W := W) he
      rw [show repF (repA W es i) e.x = rmW (repA W es i) (hq e.x 0) by unfold repF; rw [if_pos (by assumption)]] at hn
      exact qs_round (L1 := [(0, _), (10, _), (11, _), (12, intV ((i + 1 : Nat) : Int))]) (.cons rfl (.cons rfl (.cons rfl (.cons rfl .nil)))) (k1 := es.length - (i + 1)) (by omega) ⟨i + 1, rfl, rfl, (by rw [hn]; exact hS9.pick [2, 3, 0, 4, 5] rfl), by omega⟩
    refine wc_skip ?_
    refine qs_seq ?_
    refine wc_seq ?_
    refine wc_region ?_
    refine wl_fieldAddr rfl fo_38_1 rfl ?_
    first | (refine wl_store hS7 rfl rfl sz_3 (by first | rfl | assumption | exact hS7.own_one 1 rfl) (i := 0) rfl (by first | decide | exact Nat.le_of_ble_eq_true rfl | (simp; done) | omega) ?_) | (refine wl_store hS7 rfl rfl sz_3 (by first | rfl | assumption | exact hS7.own_one 1 rfl) (i := 4) rfl (by first | decide | exact Nat.le_of_ble_eq_true rfl | (simp; done) | omega) ?_)
    intro w10 hS11; dsimp only [List.set] at hS11
    clear hS7
    refine wl_nil ?_
    refine qs_seq ?_
    rw [show (peV e).set 1 (intV 1) = procV (setPar e.x) e.av e.fv from procV_setPar hwe.1 _ _] at hS11
    refine wc_region ?_
    refine wl_move rfl rfl ?_
    refine wl_loadA rfl ag_38 sz_38 (by first | exact hS11.blk 0 rfl | exact hS11.blk 4 rfl) (by first | decide | exact Nat.le_of_ble_eq_true rfl | (simp; done) | omega) rfl rfl ?_
    have hC12 := hS11.split [3] [false, false, false, true, false, false] rfl; dsimp only [selF, pickA, nthA, List.cons_append, List.nil_append] at hC12
    refine wl_call cal_16 rfl (putP_sp hC12 (hG.starL 4 rfl) (wfr_setPar hwe.1) (Ent.starL (ent_ina he hwe.1.al) 2 rfl) (Ent.starL (ent_inf he hwe.1.fdl) 2 rfl) (Nat.le_trans (len_setPar hwe.1) hwe.2)) rfl ?_
    rintro e w12 ⟨_, rfl, rfl, hS12⟩; refine ⟨_, rfl, ?_⟩
    replace hS12 := hS12.join rfl; dsimp only [List.dropLast, List.cons_append, List.nil_append] at hS12; clear hC12
    clear hS11
    refine wl_nil ?_
    refine qs_block_normal ?_
    refine qs_seq ?_
    refine wc_region ?_
    refine wl_add rfl rfl (by first | omega | (simp; omega)) (by first | omega | (simp; omega)) rfl ?_
    refine wl_move rfl rfl ?_
    refine wl_nil ?_
    have hn := repA_succ (W := W) he
    rw [show repF (repA W es i) e.x = putW (repA W es i) (setPar e.x) by unfold repF; rw [if_neg (by assumption)]] at hn
    exact qs_round (L1 := [(0, _), (10, _), (11, _), (12, intV ((i + 1 : Nat) : Int))]) (.cons rfl (.cons rfl (.cons rfl (.cons rfl .nil)))) (k1 := es.length - (i + 1)) (by omega) ⟨i + 1, rfl, rfl, (by rw [hn]; exact hS12.pick [2, 3, 0, 4, 5] rfl), by omega⟩
  refine wc_exit ?_
  refine qs_then_exit ?_
  refine qs_then_exit ?_
  refine qs_block_exit ?_
  refine fin0 (.inl rfl) rfl ?_
  exact ⟨_, rfl, rfl, _, .inr ⟨by assumption, kl, hkl, rfl⟩, (by rw [← hes, show es.map (·.x) = (es.take i).map (·.x) by rw [List.take_of_length_le (by omega)]]; exact hS4.pick [2, 4] rfl)⟩
set_option maxRecDepth 100000 in
theorem newP_sp {w : World} {p : Nat} {W : WS} {F : Th} (hS : Sat w [worldT p W, F]) (hG : Ent F WireG) (hB : TB W) (hK : KeysIn W.cells 1000000) (block : Int) :
    Calls Tryz.prog 17 #[.iface 25 (ptrV p 0), intV block] w (Ret fun v w' => ∃ n e, v = .tuple #[intV n, intV e] ∧ ((block < 0 ∨ block > 15623) ∧ n = 0 ∧ e = 1 ∨ ∃ kl, KeysOf W.cells [80, 47] kl ∧ NewP block (pidsF W (fun _ => true) kl) n e) ∧ Sat w' [worldT p W, F]) := by
  refine calls_enter Tryz.func17 rfl Tryz.ntmps17 rfl ?_
  refine wc_seq ?_
  refine wc_region ?_
  refine wl_assign rfl rfl ?_
  refine wl_assign rfl rfl ?_
  refine wl_nil ?_
  refine qs_seq ?_
  refine wc_seq ?_
  refine wc_seq ?_
  refine wc_region ?_
  refine wl_move rfl rfl ?_
  refine wl_lss rfl rfl rfl ?_
  refine wl_move rfl rfl ?_
  refine wl_splitD 12 rfl (fun h1 => ?_) (fun h1 => ?_)
  · skip
    refine wl_unwanted rfl rfl (decide_eq_true h1) rfl ?_
    refine wl_unwanted rfl rfl (decide_eq_true h1) rfl ?_
    refine wl_pickT rfl (decide_eq_true h1) rfl rfl ?_
    refine wl_nil ?_
    refine qs_seq ?_
    refine wc_condT rfl ?_
    refine wc_seq ?_
    refine wc_region ?_
    refine wl_assign rfl rfl ?_
    refine wl_assign rfl rfl ?_
    refine wl_nil ?_
    refine qs_seq ?_
    refine wc_ret ?_
    refine qs_then_ret ?_
    refine fin2 (.inr rfl) rfl rfl rfl ?_
    exact ⟨_, rfl, 0, 1, rfl, .inl ⟨by simp_all, rfl, rfl⟩, hS.pick [0, 1] rfl⟩
  refine wl_guard rfl rfl (decide_eq_false h1) ?_
  refine wl_move rfl rfl ?_
  refine wl_guard rfl rfl (decide_eq_false h1) ?_
  refine wl_gtr rfl rfl rfl ?_
  refine wl_pickF rfl (decide_eq_false h1) rfl rfl ?_
  refine wl_nil ?_
  refine qs_seq ?_
  refine wc_condD rfl (fun h2 => ?_) (fun h2 => ?_)
  · skip
    refine wc_seq ?_
    refine wc_region ?_
    refine wl_assign rfl rfl ?_
    refine wl_assign rfl rfl ?_
    refine wl_nil ?_
    refine qs_seq ?_
    refine wc_ret ?_
    refine qs_then_ret ?_
    refine fin2 (.inr rfl) rfl rfl rfl ?_
    exact ⟨_, rfl, 0, 1, rfl, .inl ⟨by simp_all, rfl, rfl⟩, hS.pick [0, 1] rfl⟩
  refine wc_skip ?_
  refine qs_seq ?_
  refine wc_seq ?_
  refine wc_region ?_
  refine wl_move rfl rfl ?_
  have hC3 := hS.split [0] [true, false] rfl; dsimp only [selF, pickA, nthA, List.cons_append, List.nil_append] at hC3
  refine wl_call cal_15 rfl (all_sp hC3 (hG.starL 0 rfl) hB hK) rfl ?_
  rintro e w3 ⟨_, rfl, kl, hkl, hS3⟩; refine ⟨_, rfl, ?_⟩
  replace hS3 := hS3.join rfl; dsimp only [List.dropLast, List.cons_append, List.nil_append] at hS3; clear hC3
  have hkll := keysOf_len2 hkl hK
  have hzl : (pidsF W (fun _ => true) kl).length ≤ 1000000 := by unfold pidsF; rw [List.length_map]; exact Nat.le_trans (recs_few W _ kl) hkll
  obtain ⟨ao, cap, rfl, _⟩ := hS3.own_shape 0 rfl
  refine wl_assign rfl rfl ?_
  refine wl_nil ?_
  refine qs_seq ?_
  refine wc_sub (L' := [(6, _), (5, _), (4, _), (1, _)]) (.cons rfl (.cons rfl (.cons rfl (.cons rfl .nil)))) ?_
  refine wc_seq ?_
  refine wc_seq ?_
  refine wc_region ?_
  refine wl_move rfl rfl ?_
  first | refine wl_lenL Tryz.underlying46 rfl rfl ?_ | refine wl_lenO 0 hS3 Tryz.underlying46 rfl rfl rfl ?_
  refine wl_geq rfl rfl rfl ?_
  refine wl_nil ?_
  refine qs_seq ?_
  refine wc_condD rfl (fun h4 => ?_) (fun h4 => ?_)
  · skip
    refine wc_seq ?_
    refine wc_region ?_
    refine wl_assign rfl rfl ?_
    refine wl_assign rfl rfl ?_
    refine wl_nil ?_
    refine qs_seq ?_
    refine wc_ret ?_
    refine qs_then_ret ?_
    refine fin2 (.inr rfl) rfl rfl rfl ?_
    exact ⟨_, rfl, 0, 6, rfl, .inr ⟨kl, hkl, fun q => absurd q (by omega), fun _ _ => ⟨rfl, rfl⟩, fun _ q => absurd q (by omega)⟩, hS3.pick [1, 2] rfl⟩
  refine wc_skip ?_
  refine qs_seq ?_
  refine wc_seq ?_
  refine wc_seq ?_
  refine wc_region ?_
  refine wl_move rfl rfl ?_
  refine wl_mul rfl rfl (by first | omega | (simp; omega)) (by first | omega | (simp; omega)) rfl ?_
  refine wl_add rfl rfl (by first | omega | (simp; omega)) (by first | omega | (simp; omega)) rfl ?_
  refine wl_assign rfl rfl ?_
  refine wl_nil ?_
  refine qs_seq ?_
  refine wc_sub (L' := [(7, _), (6, _), (5, _), (4, _), (1, _)]) (.cons rfl (.cons rfl (.cons rfl (.cons rfl (.cons rfl .nil))))) ?_
  refine wc_block ?_
  refine wc_loop (fun K0 E0 W0 => ∃ (n : Int), K0 = (64 * block + 64 - n).toNat ∧ E0 = [(1, intV block), (4, intV 0), (5, intV 0), (6, .slice ao (pidsF W (fun _ => true) kl).length cap), (7, intV n)] ∧ Sat W0 [rowT inC (.slice ao (pidsF W (fun _ => true) kl).length cap) (pidsF W (fun _ => true) kl), worldT p W, F] ∧ (64 * block < n) ∧ (n ≤ 64 * block + 64) ∧ (∀ m : Int, 64 * block < m → m < n → m ∈ (pidsF W (fun _ => true) kl))) (L0 := [(1, _), (4, _), (5, _), (6, _), (7, _)]) ((64 * block + 64 - (64 * block + 1)).toNat) (.cons rfl (.cons rfl (.cons rfl (.cons rfl (.cons rfl .nil))))) ⟨64 * block + 1, rfl, rfl, hS3.pick [0, 1, 2] rfl, by omega, by omega, fun m h1 h2 => by omega⟩ ?_
  rintro _ _ w5 ⟨n, rfl, rfl, hS5, h1, h2, hall⟩
  refine wc_seq ?_
  refine wc_seq ?_
  refine wc_region ?_
  refine wl_move rfl rfl ?_
  refine wl_move rfl rfl ?_
  refine wl_add rfl rfl (by first | omega | (simp; omega)) (by first | omega | (simp; omega)) rfl ?_
  refine wl_mul rfl rfl (by first | omega | (simp; omega)) (by first | omega | (simp; omega)) rfl ?_
  refine wl_lss rfl rfl rfl ?_
  refine wl_nil ?_
  refine qs_seq ?_
  refine wc_condD rfl (fun h6 => ?_) (fun h6 => ?_)
  · skip
    refine wc_skip ?_
    refine qs_seq ?_
    refine wc_seq ?_
    refine wc_block ?_
    refine wc_seq ?_
    refine wc_region ?_
    refine wl_move rfl rfl ?_
    refine wl_move rfl rfl ?_
    refine wl_call cal_49 rfl (bs_sp hS5 0 rfl n (by omega) (pids_asc hkl)) rfl ?_
    rintro e w7 ⟨_, rfl, rfl, hS7⟩; refine ⟨_, rfl, ?_⟩
    clear hS5
    refine wl_move rfl rfl ?_
    refine wl_extract rfl rfl rfl ?_
    refine wl_extract rfl rfl rfl ?_
    refine wl_assign rfl rfl ?_
    refine wl_assign rfl rfl ?_
    refine wl_nil ?_
    refine qs_seq ?_
    refine wc_sub (L' := [(9, _), (1, _), (4, _), (5, _), (6, _), (7, _)]) (.cons rfl (.cons rfl (.cons rfl (.cons rfl (.cons rfl (.cons rfl .nil)))))) ?_
    refine wc_seq ?_
    refine wc_region ?_
    refine wl_move rfl rfl ?_
    refine wl_not rfl rfl ?_
    refine wl_nil ?_
    refine qs_seq ?_
    refine wc_cond rfl (fun h8 => ?_) (fun h8 => ?_)
    · skip
      refine wc_seq ?_
      refine wc_region ?_
      refine wl_move rfl rfl ?_
      refine wl_assign rfl rfl ?_
      refine wl_assign rfl rfl ?_
      refine wl_nil ?_
      refine qs_seq ?_
      refine wc_ret ?_
      refine qs_block_ret ?_
      refine qs_then_ret ?_
      refine qs_then_ret ?_
      refine qs_block_ret ?_
      refine qs_then_ret ?_
      refine fin2 (.inr rfl) rfl rfl rfl ?_
      exact ⟨_, rfl, n, 0, rfl, .inr ⟨kl, hkl, fun q => absurd q (by omega), fun _ q => absurd q (by omega), fun _ _ => .inl ⟨rfl, by omega, by omega, by simpa using h8, hall⟩⟩, hS7.pick [1, 2] rfl⟩
    refine wc_skip ?_
    refine qs_block_normal ?_
    refine qs_seq ?_
    refine wc_region ?_
    refine wl_move rfl rfl ?_
    refine wl_add rfl rfl (by first | omega | (simp; omega)) (by first | omega | (simp; omega)) rfl ?_
    refine wl_assign rfl rfl ?_
    refine wl_nil ?_
    have hin : n ∈ (pidsF W (fun _ => true) kl) := by simpa using h8
    exact qs_round (L1 := [(1, _), (4, _), (5, _), (6, _), (7, intV (n + 1))]) (.cons rfl (.cons rfl (.cons rfl (.cons rfl (.cons rfl .nil))))) (k1 := (64 * block + 64 - (n + 1)).toNat) (by omega) ⟨n + 1, rfl, rfl, hS7.pick [0, 1, 2] rfl, by omega, by omega, fun m h1 h2 => by by_cases e : m = n; (subst e; exact hin); exact hall m h1 (by omega)⟩
  refine wc_exit ?_
  refine qs_then_exit ?_
  refine qs_then_exit ?_
  refine qs_block_exit ?_
  refine qs_seq ?_
  refine wc_seq ?_
  refine wc_region ?_
  refine wl_assign rfl rfl ?_
  refine wl_assign rfl rfl ?_
  refine wl_nil ?_
  refine qs_seq ?_
  refine wc_ret ?_
  refine fin2 (.inr rfl) rfl rfl rfl ?_
  exact ⟨_, rfl, 0, 6, rfl, .inr ⟨kl, hkl, fun q => absurd q (by omega), fun _ q => absurd q (by omega), fun _ _ => .inr ⟨rfl, rfl, fun m h1 h2 => hall m h1 (by omega)⟩⟩, hS5.pick [1, 2] rfl⟩
end Go.Proofs.YtcbdclhoekokpaaGreatDoor
