/- laws of names: NamesRename -/
import Derived.Test.YtkaikhcpcbjkcaaGreatDoorNm9
import Derived.Test.YtkaikhcpcbjkcaaGreatDoorWeq
import Derived.Test.YtkaikhcpcbjkcaaGreatDoorMem
import Derived.ProofKit
import Derived.OpenShut
import Derived.ShutString
import Derived.ChangeOld
import Derived.Deep.Slices
import Derived.Deep.Fields
import Derived.ChangeSame
import Derived.JoinedCond
import Derived.Lib.LaidU8
import Derived.Test.YtkaikhcpcbjkcaaGreatDoorRows
namespace Go.Proofs.YtkaikhcpcbjkcaaGreatDoor
open Go.RowKit M
set_option linter.unusedVariables false
theorem res_name {W : WS} {dir n : Bs} (h : nameB n = true) : resV W dir n = if (stepV W dir n).2 ≠ 0 then ([], (stepV W dir n).2) else ((stepV W dir n).1, 0) := by
  obtain ⟨n1, n2, n3⟩ := nameB_is h
  rw [paths_rel (by omega) n1 (fun q => n3 (List.mem_of_getElem? q)), partsL_one n1 n3, walkV, walkV]
theorem name_dots {n : Bs} (h : nameB n = true) : n ≠ [46] ∧ n ≠ [46, 46] := by
  unfold nameB at h
  simp only [Bool.and_eq_true, Bool.not_eq_true', decide_eq_true_eq, decide_eq_false_iff_not] at h
  exact ⟨h.1.1.2, h.1.2⟩
theorem res_dir {W : WS} {dir n : Bs} (h : nameB n = true) (hd : dirE W dir = 0) : resV W dir n = if W.cells (kE dir n) ≠ [] then (W.cells (kE dir n), 0) else ([], 4) := by
  have hs : stepV W dir n = if W.cells (kE dir n) ≠ [] then (W.cells (kE dir n), 0) else ([], 4) := by
    unfold stepV
    rw [if_neg (by simp [hd]), if_neg (name_dots h).1, if_neg (name_dots h).2, if_neg (by simp [h])]
  rw [res_name h, hs]
  by_cases q : W.cells (kE dir n) ≠ []
  · rw [if_pos q]; rfl
  · rw [if_neg q]; rfl
theorem look_of0 {W : WS} {dir n : Bs} (h : (lookV W dir n).e = 0) : nameB n = true ∧ dirE W dir = 0 ∧ lookV W dir n = ⟨W.cells (kE dir n), gI' W (W.cells (kE dir n)), bI W (W.cells (kE dir n)) && decide (W.cells (kE dir n) ≠ []), 0⟩ := by
  unfold lookV at h ⊢
  split at h
  · exact absurd h (by decide)
  · rename_i q
    rw [if_neg q]
    split at h
    · rename_i q2; exact absurd h q2
    · rename_i q2
      rw [if_neg q2]
      exact ⟨by simpa using q, Decidable.not_not.1 q2, rfl⟩
theorem dir_k {W : WS} {d : Bs} (h : dirE W d = 0) : bI W d = true ∧ (gI' W d).k = 2 := by
  unfold dirE at h
  split at h
  · exact absurd h (by decide)
  · rename_i q
    split at h
    · exact absurd h (by decide)
    · rename_i q2; exact ⟨by simpa using q, Decidable.not_not.1 q2⟩
theorem dir_same {W V : WS} {d : Bs} (h : V.cells (kI d) = W.cells (kI d)) : dirE V d = dirE W d := by
  have e : inoW V d = inoW W d := by unfold inoW; rw [h]
  unfold dirE bI gI'
  rw [e]
theorem put_ne {V : WS} {k v j : Bs} (h : j ≠ k) : (putS V k v).cells j = V.cells j := by simp only [putS, updC]; rw [if_neg h]
theorem put_self {V : WS} {k v : Bs} : (putS V k v).cells k = v := by simp [putS, updC]
theorem kI_inj {a b : Bs} (h : kI a = kI b) : a = b := by unfold kI at h; simpa using h
theorem kI_kE {a b c : Bs} : kI a ≠ kE b c := by unfold kI kE; simp
theorem kI_kU {a b : Bs} : kI a ≠ kU b := by unfold kI kU; simp
/-- what replace leaves as it was -/
theorem rep_cells {W : WS} {n : InD} {old : Bs} {o : InD} {there : Bool} {j : Bs} (h1 : j ≠ kI old) (h2 : j ≠ kU old) : (repW W n old o there).cells j = W.cells j := by
  unfold repW
  split
  · rfl
  · split
    · split
      · unfold noI; rw [put_ne h2, put_ne h1]
      · rfl
    · split
      · rfl
      · unfold setI; rw [put_ne h1]
structure RenS (W W' : WS) (x : AcD) : Prop where
  e1 : (resV W' x.td x.to).2 = 0
  e2 : (resV W' x.td x.to).1 = (resV W x.dir x.name).1
  e3 : decide ((resV W' x.dir x.name).2 = 4) = decide ((resV W x.dir x.name).1 ≠ (resV W x.td x.to).1)
  e4 : ∀ k, Lib.hasPrefix k [100, 47] = true → k ≠ kE x.dir x.name → k ≠ kE x.td x.to → W'.cells k = W.cells k
theorem pre_no {a : Bs} {c : UInt8} (hc : c ≠ 100) : Lib.hasPrefix ([c, 47] ++ a) [100, 47] = true → False := by
  intro h
  simp [Lib.hasPrefix] at h
  exact hc h.symm
theorem rename_law {W : WS} {m : Nat} (hP : PI W m) {x : AcD} (hE : renE W x.dir x.name x.td x.to = 0) : RenS W (renW W x.dir x.name x.td x.to) x := by
  have hE0 := hE
  unfold renE at hE
  split at hE
  · exact absurd hE (by decide)
  · rename_i hn
    have hn1 : nameB x.name = true := by
      cases q : nameB x.name with
      | true => rfl
      | false => exact absurd (.inl q) hn
    have hn2 : nameB x.to = true := by
      cases q : nameB x.to with
      | true => rfl
      | false => exact absurd (.inr q) hn
    split at hE
    · rename_i q; exact absurd hE q
    · rename_i q1
      obtain ⟨_, hd1, hl1⟩ := look_of0 (Decidable.not_not.1 q1)
      split at hE
      · rename_i q; exact absurd hE q
      · rename_i q2
        obtain ⟨_, hd2, hl2⟩ := look_of0 (Decidable.not_not.1 q2)
        split at hE
        · exact absurd hE (by decide)
        · rename_i hok
          have hid1 : W.cells (kE x.dir x.name) ≠ [] := by
            intro q
            apply hok
            rw [hl1, q]; simp
          have r1 : resV W x.dir x.name = (W.cells (kE x.dir x.name), 0) := by rw [res_dir hn1 hd1, if_pos hid1]
          have r2 : (resV W x.td x.to).1 = W.cells (kE x.td x.to) := by
            rw [res_dir hn2 hd2]
            by_cases q : W.cells (kE x.td x.to) ≠ []
            · rw [if_pos q]
            · rw [if_neg q]; exact (Decidable.not_not.1 q).symm
          split at hE
          · rename_i hc
            have hW : renW W x.dir x.name x.td x.to = W := by
              unfold renW
              rw [if_neg]
              rintro ⟨_, q⟩
              unfold renB at q
              rcases hc with ⟨c1, c2⟩ | c1
              · rw [c1, c2] at q; simp at q
              · rw [c1] at q; simp at q
            have hcc : W.cells (kE x.td x.to) = W.cells (kE x.dir x.name) := by
              rcases hc with ⟨c1, c2⟩ | c1
              · rw [c1, c2]
              · rw [hl1, hl2] at c1; exact c1.symm
            rw [hW]
            have r3 : resV W x.td x.to = (W.cells (kE x.dir x.name), 0) := by rw [res_dir hn2 hd2, hcc, if_pos hid1]
            exact ⟨by rw [r3], by rw [r3, r1], by rw [r1, r3]; simp, fun _ _ _ _ => rfl⟩
          · rename_i hc
            split at hE
            · exact absurd hE (by decide)
            · rename_i hk
              have hne : W.cells (kE x.dir x.name) ≠ W.cells (kE x.td x.to) := fun q => hc (.inr (by rw [hl1, hl2]; exact q))
              have hkk : kE x.dir x.name ≠ kE x.td x.to := fun q => hne (by rw [q])
              have hrb : renB W x.dir x.name x.td x.to = true := by
                unfold renB
                simp only [Bool.and_eq_true, Bool.not_eq_true', Bool.and_eq_false_iff, decide_eq_false_iff_not]
                exact ⟨by by_cases q : x.dir = x.td; exact .inr (fun q2 => hc (.inl ⟨q, q2⟩)); exact .inl q, fun q => hc (.inr q)⟩
              have hW : renW W x.dir x.name x.td x.to = putS (putS (repW W (lookV W x.dir x.name).n (lookV W x.td x.to).id (lookV W x.td x.to).n (lookV W x.td x.to).ok) (kE x.dir x.name) []) (kE x.td x.to) (lookV W x.dir x.name).id := by
                unfold renW; rw [if_pos ⟨hE0, hrb⟩]
              have hlid1 : (lookV W x.dir x.name).id = W.cells (kE x.dir x.name) := by rw [hl1]
              have hlid2 : (lookV W x.td x.to).id = W.cells (kE x.td x.to) := by rw [hl2]
              -- a directory of the two stays
              have stay : ∀ d, dirE W d = 0 → (d = x.td ∨ (lookV W x.dir x.name).n.k ≠ 2 ∨ x.td = d) → dirE (renW W x.dir x.name x.td x.to) d = 0 := by
                intro d hd hor
                have hdk := dir_k hd
                have e : (renW W x.dir x.name x.td x.to).cells (kI d) = W.cells (kI d) := by
                  rw [hW, put_ne kI_kE, put_ne kI_kE]
                  by_cases ho : d = W.cells (kE x.td x.to)
                  · -- it is the one that is replaced: nothing was replaced
                    unfold repE at hE
                    unfold repW
                    split
                    · rfl
                    · rename_i hth
                      rw [if_neg hth] at hE
                      split
                      · rename_i hk2
                        rw [if_pos hk2] at hE
                        exfalso
                        have htd : x.td = d := by
                          rcases hor with q | q | q
                          · exact q.symm
                          · exact absurd hk2 q
                          · exact q
                        have hpos := cntK_pos hP (pre := kE (lookV W x.td x.to).id []) (k := kE x.td x.to) (by intro q; apply hth; rw [hl2, q]; simp)
                          (by rw [hlid2, ← ho, ← htd]; unfold kE; simp [Lib.hasPrefix])
                        unfold empE at hE
                        by_cases hk9 : (lookV W x.td x.to).n.k ≠ 2
                        · rw [if_pos hk9] at hE; exact absurd hE (by decide)
                        · rw [if_neg hk9, if_pos hpos] at hE; exact absurd hE (by decide)
                      · rename_i hk2
                        rw [if_neg hk2] at hE
                        split
                        · rfl
                        · rename_i ho2
                          exfalso
                          exact ho2 (by rw [hl2]; show (gI' W (W.cells (kE x.td x.to))).k = 2; rw [← ho]; exact hdk.2)
                  · exact rep_cells (fun q => ho (by rw [← hlid2]; exact kI_inj q)) kI_kU
                rw [dir_same e]; exact hd
              have hdt := stay x.td hd2 (.inl rfl)
              have hdd : dirE (renW W x.dir x.name x.td x.to) x.dir = 0 := by
                refine stay x.dir hd1 ?_
                by_cases q : (lookV W x.dir x.name).n.k = 2
                · by_cases q2 : x.td = x.dir
                  · exact .inr (.inr q2)
                  · exact absurd ⟨q, q2⟩ hk
                · exact .inr (.inl q)
              have c1 : (renW W x.dir x.name x.td x.to).cells (kE x.td x.to) = W.cells (kE x.dir x.name) := by rw [hW, put_self, hlid1]
              have c2 : (renW W x.dir x.name x.td x.to).cells (kE x.dir x.name) = [] := by rw [hW, put_ne hkk, put_self]
              have r3 : resV (renW W x.dir x.name x.td x.to) x.td x.to = (W.cells (kE x.dir x.name), 0) := by rw [res_dir hn2 hdt, c1, if_pos hid1]
              have r4 : resV (renW W x.dir x.name x.td x.to) x.dir x.name = ([], 4) := by rw [res_dir hn1 hdd, c2, if_neg (by simp)]
              refine ⟨by rw [r3], by rw [r3, r1], by rw [r4, r1, r2]; simp [hne], fun k hk1 hk2 hk3 => ?_⟩
              rw [hW, put_ne hk3, put_ne hk2]
              exact rep_cells (fun q => by subst q; exact pre_no (by decide) hk1) (fun q => by subst q; exact pre_no (by decide) hk1)
theorem keysOf_pre {c : Bs → Bs} {pre : Bs} {l : List Bs} {k : Bs} (h : KeysOf c pre l) (hk : k ∈ l) : Lib.hasPrefix k pre = true := by
  obtain ⟨l0, rfl, _, hm⟩ := h
  exact ((hm k).1 ((sortS_perm l0).mem_iff.1 hk)).2
theorem renW_pi {W : WS} {m : Nat} (h : PI W m) {x : AcD} (hx : OkA x) (hn : InB x.n) : PI (renW W x.dir x.name x.td x.to) (m + 5) := by
  have h1 := doW_pi h (x := { x with d := 5 }) ⟨hx.dir, hx.name, hx.id, hx.td, hx.to⟩ hn
  have e : doW W { x with d := 5 } = renW W x.dir x.name x.td x.to := by
    unfold doW
    rw [if_neg (by show ¬ (5 : Int) % 8 = 0; decide), if_neg (by show ¬ (5 : Int) % 8 = 1; decide), if_neg (by show ¬ ((5 : Int) % 8 = 2 ∨ (5 : Int) % 8 = 3); decide), if_neg (by show ¬ (5 : Int) % 8 = 4; decide), if_pos (by show (5 : Int) % 8 = 5; decide)]
  rwa [e] at h1
set_option maxRecDepth 100000 in
set_option maxHeartbeats 3200000 in
theorem ren_law {w : World} {F : Th} (hS : Sat w [F]) (hG : Ent F WireG) {lv : Value} {l : List AcD} {x : AcD} (hL : Ent F (RdL acC lv l)) (hnb : ∀ (i : Nat) (y : AcD), l[i]? = some y → InB y.n) (hxn : InB x.n) :
    Calls Tryz.prog 7 #[lv, .agg #[intV x.d, strV x.dir, strV x.name, strV x.id, strV x.td, strV x.to, intV x.n.k, intV x.n.sz, intV x.n.ln]] w (Ret fun v w' => v = .bool true ∧ Sat w' [F]) := by
 obtain ⟨ao, cap, rfl, hmax⟩ := (hL.sat hS 0 rfl).shape
 refine calls_enter Tryz.func7 rfl Tryz.ntmps7 rfl ?_
 refine wc_seq (wc_region ?_)
 refine wl_box hS rfl rfl rfl ?_
 intro bx wbx hSbx
 refine wl_assign rfl rfl (wl_nil (qs_seq (wc_seq (wc_region ?_))))
 have hC1 := hSbx.split [] [false, false] rfl; dsimp only [selF, pickA, nthA, List.cons_append, List.nil_append] at hC1
 refine wl_call cal_8 rfl (small_sp hC1 (hG.starL 1 rfl)) rfl ?_
 rintro e w1 ⟨_, rfl, rfl, hS1⟩; refine ⟨_, rfl, ?_⟩
 replace hS1 := hS1.join rfl; dsimp only [List.dropLast, List.cons_append, List.nil_append] at hS1; clear hC1
 clear hSbx
 refine wl_assign rfl rfl (wl_nil (qs_seq (wc_seq (wc_seq (wc_region (wl_move rfl rfl ?_))))))
 have hC2 := hS1.split [] [false, false] rfl; dsimp only [selF, pickA, nthA, List.cons_append, List.nil_append] at hC2
 refine wl_call cal_9 rfl (few_sp hC2 (hL.starL 1 rfl)) rfl ?_
 rintro e w2 ⟨_, rfl, rfl, hS2⟩; refine ⟨_, rfl, ?_⟩
 replace hS2 := hS2.join rfl; dsimp only [List.dropLast, List.cons_append, List.nil_append] at hS2; clear hC2
 clear hS1
 refine wl_not rfl rfl ?_
 refine wl_move rfl rfl ?_
 refine wl_split 25 rfl (fun h3 => ?_) (fun h3 => ?_)
 ·refine wl_unwanted rfl rfl h3 rfl ?_
  refine wl_unwanted rfl rfl h3 rfl ?_
  refine wl_unwanted rfl rfl h3 rfl ?_
  refine wl_unwanted rfl rfl h3 rfl ?_
  refine wl_pickT rfl h3 rfl rfl ?_
  refine wl_nil (qs_seq ?_)
  refine wc_sub (L' := [(30, _), (5, _), (4, _), (3, _), (0, _)]) (.cons rfl (.cons rfl (.cons rfl (.cons rfl (.cons rfl .nil))))) ?_
  refine wc_condT rfl ?_
  refine wc_seq (wc_region (wl_move rfl rfl (wl_assign rfl rfl (wl_nil (qs_seq (wc_ret (qs_then_ret ?_)))))))
  refine fin1 (.inr rfl) rfl rfl ?_
  exact ⟨_, rfl, rfl, hS2.pick [1] rfl⟩
 have hfl : fewA l = true := by simpa using h3
 refine wl_guard rfl rfl h3 ?_
 refine wl_loadA rfl ag_37 sz_37 (by first | exact hS2.blk 0 rfl) (by first | decide | exact Nat.le_of_ble_eq_true rfl | (simp; done) | omega) rfl rfl ?_
 refine wl_guard rfl rfl h3 ?_
 refine wl_rowBuild acC [x] hS2 rfl Tryz.underlying22 ifz_37 rfl rfl rfl rfl (by first | rfl | simp [RowC.cells, fillL, splice]) rfl ?_
 intro bx1 w4 hS4
 clear hS2
 refine wl_guard rfl rfl h3 ?_
 have hC5 := hS4.split [] [false, false, false] rfl; dsimp only [selF, pickA, nthA, List.cons_append, List.nil_append] at hC5
 refine wl_call cal_9 rfl (few_sp hC5 (Ent.starL (ent_row (C := acC) (l := [x]) (by simp)) 0 rfl)) rfl ?_
 rintro e w5 ⟨_, rfl, rfl, hS5⟩; refine ⟨_, rfl, ?_⟩
 replace hS5 := hS5.join rfl; dsimp only [List.dropLast, List.cons_append, List.nil_append] at hS5; clear hC5
 clear hS4
 refine wl_guard rfl rfl h3 ?_
 refine wl_not rfl rfl ?_
 refine wl_pickF rfl h3 rfl rfl ?_
 refine wl_nil (qs_seq ?_)
 refine wc_sub (L' := [(30, _), (5, _), (4, _), (3, _), (0, _)]) (.cons rfl (.cons rfl (.cons rfl (.cons rfl (.cons rfl .nil))))) ?_
 refine wc_cond rfl (fun h6 => ?_) (fun h6 => ?_)
 ·refine wc_seq (wc_region (wl_move rfl rfl (wl_assign rfl rfl (wl_nil (qs_seq (wc_ret (qs_then_ret ?_)))))))
  refine fin1 (.inr rfl) rfl rfl ?_
  exact ⟨_, rfl, rfl, hS5.pick [2] rfl⟩
 have hfx : fewA [x] = true := by simpa using h6
 simp only [fewA, List.all_cons, List.all_nil, Bool.and_true, Bool.and_eq_true, decide_eq_true_eq, List.all_eq_true] at hfl hfx
 have hxo := okA_is hfx.1
 have hok : ∀ (i : Nat) (y : AcD), l[i]? = some y → OkA y := fun i y hy => okA_is (hfl.1 y (List.mem_of_getElem? hy))
 have hPg := groW_all hfl.2 hok hnb
 have hPr := renW_pi hPg hxo hxn
 have hla := hxo.dir
 have hlb := hxo.name
 have hlc := hxo.id
 have hld := hxo.td
 have hle := hxo.to
 refine wc_skip (qs_seq (wc_seq (wc_region (wl_move rfl rfl ?_))))
 have hC7 := hS5.split [] [false, false, false] rfl; dsimp only [selF, pickA, nthA, List.cons_append, List.nil_append] at hC7
 refine wl_call cal_10 rfl (grown_sp hC7 (hG.starL 2 rfl) (hL.starL 2 rfl) hfl.2 hok hnb) rfl ?_
 rintro e w7 ⟨_, rfl, p, rfl, hS7⟩; refine ⟨_, rfl, ?_⟩
 replace hS7 := hS7.join rfl; dsimp only [List.dropLast, List.cons_append, List.nil_append] at hS7; clear hC7
 clear hS5
 refine wl_assign rfl rfl (wl_nil (qs_seq (wc_seq (wc_seq (wc_region (wl_move rfl rfl ?_))))))
 refine wl_eqlNil Tryz.underlying25 rfl rfl rfl ?_
 refine wl_nil (qs_seq ?_)
 refine wc_condF rfl ?_
 refine wc_skip (qs_seq (wc_seq (wc_region (wl_move rfl rfl ?_))))
 have hC8 := hS7.split [0] [true, false, false, false] rfl; dsimp only [selF, pickA, nthA, List.cons_append, List.nil_append] at hC8
 refine wl_call cal_14 rfl (clone_w hC8) rfl ?_
 rintro e w8 ⟨_, rfl, q, rfl, hS8⟩; refine ⟨_, rfl, ?_⟩
 replace hS8 := hS8.join rfl; dsimp only [List.dropLast, List.cons_append, List.nil_append] at hS8; clear hC8
 clear hS7
 refine wl_assign rfl rfl (wl_nil (qs_seq ?_))
 refine wc_sub (L' := [(7, _), (6, _), (5, _), (4, _), (3, _)]) (.cons rfl (.cons rfl (.cons rfl (.cons rfl (.cons rfl .nil))))) ?_
 refine wc_seq (wc_seq (wc_region (wl_move rfl rfl ?_)))
 refine wl_eqlNil Tryz.underlying25 rfl rfl rfl ?_
 refine wl_nil (qs_seq ?_)
 refine wc_condF rfl ?_
 refine wc_skip (qs_seq (wc_seq (wc_region (wl_move rfl rfl ?_))))
 refine wl_makeIface nif_25 rfl rfl ?_
 refine wl_fieldAddr rfl fo_37_1 rfl ?_
 refine wl_load rfl ag_9 (by first | assumption | exact hS8.cell 3 rfl rfl) rfl ?_
 refine wl_fieldAddr rfl fo_37_2 rfl ?_
 refine wl_load rfl ag_9 (by first | assumption | exact hS8.cell 3 rfl rfl) rfl ?_
 refine wl_fieldAddr rfl fo_37_4 rfl ?_
 refine wl_load rfl ag_9 (by first | assumption | exact hS8.cell 3 rfl rfl) rfl ?_
 refine wl_fieldAddr rfl fo_37_5 rfl ?_
 refine wl_load rfl ag_9 (by first | assumption | exact hS8.cell 3 rfl rfl) rfl ?_
 have hC9 := hS8.split [1] [false, true, false, false, false] rfl; dsimp only [selF, pickA, nthA, List.cons_append, List.nil_append] at hC9
 refine wl_call cal_40 rfl (rename_sp hC9 (hG.starL 3 rfl) hPg (by decide) x.dir x.name x.td x.to (by omega) (by omega) (by omega) (by omega)) rfl ?_
 rintro e w9 ⟨_, rfl, rfl, hS9⟩; refine ⟨_, rfl, ?_⟩
 replace hS9 := hS9.join rfl; dsimp only [List.dropLast, List.cons_append, List.nil_append] at hS9; clear hC9
 clear hS8
 refine wl_move rfl rfl (wl_extract rfl rfl rfl (wl_extract rfl rfl rfl (wl_assign rfl rfl (wl_assign rfl rfl (wl_nil (qs_seq ?_))))))
 refine wc_sub (L' := [(9, _), (7, _), (6, _), (5, _), (4, _), (3, _)]) (.cons rfl (.cons rfl (.cons rfl (.cons rfl (.cons rfl (.cons rfl .nil)))))) ?_
 refine wc_seq (wc_seq (wc_region (wl_move rfl rfl ?_)))
 refine wl_neq rfl rfl rfl ?_
 refine wl_nil (qs_seq ?_)
 refine wc_condD rfl (fun h10 => ?_) (fun h10 => ?_)
 ·have hne : (renE (groW l) x.dir x.name x.td x.to) ≠ 0 := h10
  refine wc_seq (wc_region (wl_move rfl rfl (wl_move rfl rfl ?_)))
  refine wl_split 57 rfl (fun h11 => ?_) (fun h11 => ?_)
  ·refine wl_guard rfl rfl h11 ?_
   refine wl_move rfl rfl ?_
   refine wl_guard rfl rfl h11 ?_
   refine wl_move rfl rfl ?_
   refine wl_guard rfl rfl h11 ?_
   have hC12 := hS9.split [0, 1] [true, true, false, false, false] rfl; dsimp only [selF, pickA, nthA, List.cons_append, List.nil_append] at hC12
   refine wl_call cal_41 rfl (same_w hC12) rfl ?_
   rintro e w12 ⟨_, rfl, gs, rfl, hgs, hS12⟩; refine ⟨_, rfl, ?_⟩
   replace hS12 := hS12.join rfl; dsimp only [List.dropLast, List.cons_append, List.nil_append] at hS12; clear hC12
   clear hS9
   have hWW : (renW (groW l) x.dir x.name x.td x.to) = (groW l) := by unfold renW; rw [if_neg (fun q => hne q.1)]
   obtain rfl := hgs.2 hWW
   refine wl_pickT rfl h11 rfl rfl ?_
   refine wl_assign rfl rfl (wl_nil (qs_seq ?_))
   refine wc_sub (L' := [(4, _), (7, _), (6, _), (5, _), (3, _)]) (.cons rfl (.cons rfl (.cons rfl (.cons rfl (.cons rfl .nil))))) ?_
   refine wc_ret (qs_then_ret ?_)
   refine fin1 (.inr rfl) rfl rfl ?_
   exact ⟨_, rfl, rfl, hS12.pick [4] rfl⟩
  exact absurd h11 (by simp)
 have hE0 : (renE (groW l) x.dir x.name x.td x.to) = 0 := Decidable.not_not.1 h10
 have hR := rename_law hPg hE0
 refine wc_skip (qs_seq (wc_seq (wc_region (wl_move rfl rfl ?_))))
 refine wl_makeIface nif_25 rfl rfl ?_
 refine wl_fieldAddr rfl fo_37_1 rfl ?_
 refine wl_load rfl ag_9 (by first | assumption | exact hS9.cell 3 rfl rfl) rfl ?_
 refine wl_fieldAddr rfl fo_37_2 rfl ?_
 refine wl_load rfl ag_9 (by first | assumption | exact hS9.cell 3 rfl rfl) rfl ?_
 have hC13 := hS9.split [1] [false, true, false, false, false] rfl; dsimp only [selF, pickA, nthA, List.cons_append, List.nil_append] at hC13
 refine wl_call cal_11 rfl (resolve_sp hC13 (hG.starL 3 rfl) hPg (by decide) x.dir x.name (by omega) (by omega)) rfl ?_
 rintro e w13 ⟨_, rfl, rfl, hS13⟩; refine ⟨_, rfl, ?_⟩
 replace hS13 := hS13.join rfl; dsimp only [List.dropLast, List.cons_append, List.nil_append] at hS13; clear hC13
 clear hS9
 refine wl_move rfl rfl (wl_extract rfl rfl rfl (wl_extract rfl rfl rfl (wl_assign rfl rfl (wl_assign rfl rfl (wl_nil (qs_seq ?_))))))
 refine wc_sub (L' := [(10, _), (7, _), (6, _), (5, _), (4, _), (3, _)]) (.cons rfl (.cons rfl (.cons rfl (.cons rfl (.cons rfl (.cons rfl .nil)))))) ?_
 refine wc_seq (wc_region (wl_move rfl rfl ?_))
 refine wl_makeIface nif_25 rfl rfl ?_
 refine wl_fieldAddr rfl fo_37_4 rfl ?_
 refine wl_load rfl ag_9 (by first | assumption | exact hS13.cell 3 rfl rfl) rfl ?_
 refine wl_fieldAddr rfl fo_37_5 rfl ?_
 refine wl_load rfl ag_9 (by first | assumption | exact hS13.cell 3 rfl rfl) rfl ?_
 have hC14 := hS13.split [0] [true, false, false, false, false] rfl; dsimp only [selF, pickA, nthA, List.cons_append, List.nil_append] at hC14
 refine wl_call cal_11 rfl (resolve_sp hC14 (hG.starL 3 rfl) hPg (by decide) x.td x.to (by omega) (by omega)) rfl ?_
 rintro e w14 ⟨_, rfl, rfl, hS14⟩; refine ⟨_, rfl, ?_⟩
 replace hS14 := hS14.join rfl; dsimp only [List.dropLast, List.cons_append, List.nil_append] at hS14; clear hC14
 clear hS13
 refine wl_move rfl rfl (wl_extract rfl rfl rfl (wl_extract rfl rfl rfl (wl_assign rfl rfl (wl_assign rfl rfl (wl_nil (qs_seq ?_))))))
 refine wc_sub (L' := [(12, _), (10, _), (7, _), (6, _), (5, _), (4, _), (3, _)]) (.cons rfl (.cons rfl (.cons rfl (.cons rfl (.cons rfl (.cons rfl (.cons rfl .nil))))))) ?_
 refine wc_seq (wc_region (wl_move rfl rfl ?_))
 refine wl_makeIface nif_25 rfl rfl ?_
 refine wl_fieldAddr rfl fo_37_4 rfl ?_
 refine wl_load rfl ag_9 (by first | assumption | exact hS14.cell 3 rfl rfl) rfl ?_
 refine wl_fieldAddr rfl fo_37_5 rfl ?_
 refine wl_load rfl ag_9 (by first | assumption | exact hS14.cell 3 rfl rfl) rfl ?_
 have hC15 := hS14.split [1] [false, true, false, false, false] rfl; dsimp only [selF, pickA, nthA, List.cons_append, List.nil_append] at hC15
 refine wl_call cal_11 rfl (resolve_sp hC15 (hG.starL 3 rfl) hPr (by decide) x.td x.to (by omega) (by omega)) rfl ?_
 rintro e w15 ⟨_, rfl, rfl, hS15⟩; refine ⟨_, rfl, ?_⟩
 replace hS15 := hS15.join rfl; dsimp only [List.dropLast, List.cons_append, List.nil_append] at hS15; clear hC15
 clear hS14
 refine wl_move rfl rfl (wl_extract rfl rfl rfl (wl_extract rfl rfl rfl (wl_assign rfl rfl (wl_assign rfl rfl (wl_nil (qs_seq ?_))))))
 refine wc_sub (L' := [(15, _), (14, _), (12, _), (10, _), (7, _), (6, _), (5, _), (4, _), (3, _)]) (.cons rfl (.cons rfl (.cons rfl (.cons rfl (.cons rfl (.cons rfl (.cons rfl (.cons rfl (.cons rfl .nil))))))))) ?_
 refine wc_seq (wc_region (wl_move rfl rfl ?_))
 refine wl_makeIface nif_25 rfl rfl ?_
 refine wl_fieldAddr rfl fo_37_1 rfl ?_
 refine wl_load rfl ag_9 (by first | assumption | exact hS15.cell 3 rfl rfl) rfl ?_
 refine wl_fieldAddr rfl fo_37_2 rfl ?_
 refine wl_load rfl ag_9 (by first | assumption | exact hS15.cell 3 rfl rfl) rfl ?_
 have hC16 := hS15.split [0] [true, false, false, false, false] rfl; dsimp only [selF, pickA, nthA, List.cons_append, List.nil_append] at hC16
 refine wl_call cal_11 rfl (resolve_sp hC16 (hG.starL 3 rfl) hPr (by decide) x.dir x.name (by omega) (by omega)) rfl ?_
 rintro e w16 ⟨_, rfl, rfl, hS16⟩; refine ⟨_, rfl, ?_⟩
 replace hS16 := hS16.join rfl; dsimp only [List.dropLast, List.cons_append, List.nil_append] at hS16; clear hC16
 clear hS15
 refine wl_move rfl rfl (wl_extract rfl rfl rfl (wl_extract rfl rfl rfl (wl_assign rfl rfl (wl_assign rfl rfl (wl_nil (qs_seq ?_))))))
 refine wc_sub (L' := [(17, _), (15, _), (14, _), (12, _), (10, _), (7, _), (6, _), (5, _), (4, _), (3, _)]) (.cons rfl (.cons rfl (.cons rfl (.cons rfl (.cons rfl (.cons rfl (.cons rfl (.cons rfl (.cons rfl (.cons rfl .nil)))))))))) ?_
 refine wc_seq (wc_seq (wc_region (wl_move rfl rfl ?_)))
 refine wl_neq rfl rfl rfl ?_
 refine wl_move rfl rfl ?_
 refine wl_splitD 104 rfl (fun h17 => ?_) (fun h17 => ?_)
 ·exact absurd hR.e1 h17
 refine wl_guard rfl rfl (decide_eq_false h17) ?_
 refine wl_move rfl rfl ?_
 refine wl_guard rfl rfl (decide_eq_false h17) ?_
 refine wl_move rfl rfl ?_
 refine wl_guard rfl rfl (decide_eq_false h17) ?_
 refine wl_neqS rfl rfl rfl ?_
 refine wl_pickF rfl (decide_eq_false h17) rfl rfl ?_
 refine wl_move rfl rfl ?_
 refine wl_splitD 109 rfl (fun h18 => ?_) (fun h18 => ?_)
 ·exact absurd hR.e2 h18
 refine wl_guard rfl rfl (decide_eq_false h18) ?_
 refine wl_move rfl rfl ?_
 refine wl_guard rfl rfl (decide_eq_false h18) ?_
 refine wl_eql rfl rfl rfl ?_
 refine wl_guard rfl rfl (decide_eq_false h18) ?_
 refine wl_move rfl rfl ?_
 refine wl_guard rfl rfl (decide_eq_false h18) ?_
 refine wl_move rfl rfl ?_
 refine wl_guard rfl rfl (decide_eq_false h18) ?_
 refine wl_neqS rfl rfl rfl ?_
 refine wl_guard rfl rfl (decide_eq_false h18) ?_
 refine wl_neqB Tryz.underlying4 rfl rfl rfl ?_
 refine wl_pickF rfl (decide_eq_false h18) rfl rfl ?_
 refine wl_nil (qs_seq ?_)
 refine wc_sub (L' := [(116, _), (7, _), (6, _), (5, _), (4, _), (3, _)]) (.cons rfl (.cons rfl (.cons rfl (.cons rfl (.cons rfl (.cons rfl .nil)))))) ?_
 refine wc_cond rfl (fun h19 => ?_) (fun h19 => ?_)
 ·exact absurd h19 (by rw [hR.e3]; simp)
 refine wc_skip (qs_seq (wc_seq (wc_region (wl_move rfl rfl ?_))))
 have hC20 := hS16.split [1] [false, true, false, false, false] rfl; dsimp only [selF, pickA, nthA, List.cons_append, List.nil_append] at hC20
 refine wl_call cal_17 rfl (keys_sp hC20 [100, 47] (hPg.kin (by decide))) rfl ?_
 rintro e w20 ⟨_, rfl, k1, hk1, hS20⟩; refine ⟨_, rfl, ?_⟩
 replace hS20 := hS20.join rfl; dsimp only [List.dropLast, List.cons_append, List.nil_append] at hS20; clear hC20
 clear hS16
 have k1l := cntK_le hPg [100, 47]; rw [cntK_eq (CntOf.keys hk1)] at k1l
 obtain ⟨ka, kc, hkv, _⟩ := hS20.own_shape 0 rfl
 obtain rfl := hkv
 refine wl_assign rfl rfl (wl_nil (qs_seq (wc_seq (wc_seq (wc_region (wl_assign rfl rfl (wl_nil (qs_seq (wc_block ?_)))))))))
 have hq1 := hS20.pick [0, 4, 1, 2, 5] rfl
 refine wc_loop (fun K0 E0 W0 => ∃ (k : Nat), K0 = k1.length - k ∧ E0 = [(3, ptrV bx 0), (5, .bool true), (6, ptrV p 0), (7, ptrV q 0), (18, .slice ka k1.length kc), (19, intV (k : Int))] ∧ Sat W0 [rowT stC (.slice ka k1.length kc) k1, blkT bx (acV x), worldT q (groW l), worldT p (renW (groW l) x.dir x.name x.td x.to), F] ∧ (k ≤ k1.length)) (L0 := [(3, _), (5, _), (6, _), (7, _), (18, _), (19, _)]) (k1.length - 0) (.cons rfl (.cons rfl (.cons rfl (.cons rfl (.cons rfl (.cons rfl .nil)))))) ⟨0, rfl, rfl, hq1, by omega⟩ ?_
 rintro _ _ w21 ⟨k, rfl, rfl, hS21, hk⟩
 refine wc_seq (wc_seq (wc_region (wl_move rfl rfl (wl_move rfl rfl ?_))))
 first | refine wl_lenL Tryz.underlying40 rfl rfl ?_ | refine wl_lenO 0 hS21 Tryz.underlying40 rfl rfl rfl ?_
 refine wl_lss rfl rfl rfl ?_
 refine wl_nil (qs_seq ?_)
 refine wc_condD rfl (fun h22 => ?_) (fun h22 => ?_)
 ·obtain ⟨ky, hky⟩ : ∃ y, k1[k]? = some y := ⟨_, List.getElem?_eq_getElem (by omega)⟩
  obtain ⟨kb, kc9, hqk, _⟩ := hS21.own_at 0 rfl (by omega)
  cases hqk
  have hpre := keysOf_pre hk1 (List.mem_of_getElem? hky)
  refine wc_skip (qs_seq (wc_seq (wc_block (wc_seq ?_))))
  have hS23 := hS21.drew
  refine wc_draw [0, 1, 2, 3, 4, 5, 6, 7, 8, 9, 10, 11, 12, 13, 14, 15, 16, 17, 18, 19, 20, 21, 22, 23, 24, 25, 26] [] mix (by kernel_rfl) ?_
  refine vc_p rfl rfl rfl (fun _ => (ev_move rfl)) ?_
  refine vc_p rfl rfl rfl (fun _ => (ev_move rfl)) ?_
  refine vc_p rfl rfl rfl (fun _ => (ev_indexAddr k rfl rfl (by first | rfl | omega) (by first | omega | exact (List.getElem?_eq_some_iff.1 hky).1) es_40)) ?_
  refine vc_q rfl rfl rfl (ev_rowLoad0 stC 0 k 0 hS23 rfl hky ag_9 rfl rfl) ?_
  refine vc_p rfl rfl rfl (fun _ => (ev_fieldAddr rfl fo_37_1)) ?_
  refine vc_q rfl rfl rfl (ev_load rfl ag_9 (by first | assumption | exact hS23.cell 1 rfl rfl)) ?_
  refine vc_p rfl rfl rfl (fun _ => (ev_concat rfl rfl (by first | omega | (simp; omega)))) ?_
  refine vc_p rfl rfl rfl (fun _ => (ev_concat rfl rfl (by first | omega | (simp; omega)))) ?_
  refine vc_p rfl rfl rfl (fun _ => (ev_fieldAddr rfl fo_37_2)) ?_
  refine vc_q rfl rfl rfl (ev_load rfl ag_9 (by first | assumption | exact hS23.cell 1 rfl rfl)) ?_
  refine vc_p rfl rfl rfl (fun _ => (ev_concat rfl rfl (by first | omega | (simp; omega)))) ?_
  refine vc_p rfl rfl rfl (fun _ => (ev_eqlS rfl rfl)) ?_
  refine vc_p rfl rfl rfl (fun _ => (ev_move rfl)) ?_
  refine vc_splitD 137 rfl (fun h24 => ?_) (fun h24 => ?_)
  ·refine vc_not rfl rfl (guard_no rfl rfl (decide_eq_true h24)) ?_
   refine vc_not rfl rfl (guard_no rfl rfl (decide_eq_true h24)) ?_
   refine vc_not rfl rfl (guard_no rfl rfl (decide_eq_true h24)) ?_
   refine vc_not rfl rfl (guard_no rfl rfl (decide_eq_true h24)) ?_
   refine vc_not rfl rfl (guard_no rfl rfl (decide_eq_true h24)) ?_
   refine vc_not rfl rfl (guard_no rfl rfl (decide_eq_true h24)) ?_
   refine vc_not rfl rfl (guard_no rfl rfl (decide_eq_true h24)) ?_
   refine vc_not rfl rfl (guard_no rfl rfl (decide_eq_true h24)) ?_
   refine vc_not rfl rfl (guard_no rfl rfl (decide_eq_true h24)) ?_
   refine vc_not rfl rfl (guard_no rfl rfl (decide_eq_true h24)) ?_
   refine vc_not rfl rfl (guard_no rfl rfl (decide_eq_true h24)) ?_
   refine vc_not rfl rfl (guard_no rfl rfl (decide_eq_true h24)) ?_
   refine vc_p rfl rfl rfl (fun _ => (ev_pickT rfl (decide_eq_true h24) rfl)) ?_
   refine vc_p rfl rfl rfl (fun _ => (ev_assign rfl)) ?_
   refine VC.nil (qs_seq ?_)
   refine wc_sub (L' := [(20, _), (3, _), (5, _), (6, _), (7, _), (18, _), (19, _)]) (.cons rfl (.cons rfl (.cons rfl (.cons rfl (.cons rfl (.cons rfl (.cons rfl .nil))))))) ?_
   refine wc_seq ?_
   have hS25 := hS23.drew
   refine wc_draw [0, 1, 2, 3, 4, 5, 6, 7, 9, 10, 11, 12, 13, 8, 14, 15, 16] [8, 14] mix (by kernel_rfl) ?_
   refine vc_p rfl rfl rfl (fun _ => (ev_move rfl)) ?_
   refine vc_p rfl rfl rfl (fun _ => (ev_not rfl)) ?_
   refine vc_p rfl rfl rfl (fun _ => (ev_move rfl)) ?_
   refine vc_not rfl rfl (guard_no rfl rfl rfl) ?_
   refine vc_not rfl rfl (guard_no rfl rfl rfl) ?_
   refine vc_not rfl rfl (guard_no rfl rfl rfl) ?_
   refine vc_not rfl rfl (guard_no rfl rfl rfl) ?_
   refine vc_not rfl rfl (guard_no rfl rfl rfl) ?_
   refine vc_not rfl rfl (guard_no rfl rfl rfl) ?_
   refine vc_not rfl rfl (guard_no rfl rfl rfl) ?_
   refine vc_not rfl rfl (guard_no rfl rfl rfl) ?_
   refine vc_not rfl rfl (guard_no rfl rfl rfl) ?_
   refine vc_not rfl rfl (guard_no rfl rfl rfl) ?_
   refine VC.spineNot rfl rfl (guard_no rfl rfl rfl) ?_
   refine VC.spineNot rfl rfl (guard_no rfl rfl rfl) ?_
   refine vc_not rfl rfl (guard_no rfl rfl rfl) ?_
   refine vc_p rfl rfl rfl (fun _ => (ev_pickF rfl rfl rfl)) ?_
   refine VC.nil (qs_seq ?_)
   refine wc_sub (L' := [(167, _), (3, _), (5, _), (6, _), (7, _), (18, _), (19, _)]) (.cons rfl (.cons rfl (.cons rfl (.cons rfl (.cons rfl (.cons rfl (.cons rfl .nil))))))) ?_
   refine wc_condF rfl ?_
   refine wc_skip (qs_block_normal (qs_seq (wc_region (wl_move rfl rfl ?_))))
   refine wl_add rfl rfl (by first | omega | (simp; omega)) (by first | omega | (simp; omega)) rfl ?_
   refine wl_assign rfl rfl (wl_nil ?_)
   exact qs_round (L1 := [(3, _), (5, _), (6, _), (7, _), (18, _), (19, intV ((k + 1 : Nat) : Int))]) (.cons rfl (.cons rfl (.cons rfl (.cons rfl (.cons rfl (.cons rfl .nil)))))) (k1 := k1.length - (k + 1)) (by omega) ⟨k + 1, rfl, rfl, hS25.pick [0, 1, 2, 3, 4] rfl, by omega⟩
  have hk1n : ky ≠ (kE x.dir x.name) := h24
  refine vc_p rfl rfl (guard_yes rfl rfl (decide_eq_false h24)) (fun _ => (Ev.gd (ev_move rfl))) ?_
  refine vc_p rfl rfl (guard_yes rfl rfl (decide_eq_false h24)) (fun _ => (Ev.gd (ev_move rfl))) ?_
  refine vc_p rfl rfl (guard_yes rfl rfl (decide_eq_false h24)) (fun _ => (Ev.gd (ev_indexAddr k rfl rfl (by first | rfl | omega) (by first | omega | exact (List.getElem?_eq_some_iff.1 hky).1) es_40))) ?_
  refine vc_q rfl rfl (guard_yes rfl rfl (decide_eq_false h24)) (Ev.gd (ev_rowLoad0 stC 0 k 0 hS23 rfl hky ag_9 rfl rfl)) ?_
  refine vc_p rfl rfl (guard_yes rfl rfl (decide_eq_false h24)) (fun _ => (Ev.gd (ev_fieldAddr rfl fo_37_4))) ?_
  refine vc_q rfl rfl (guard_yes rfl rfl (decide_eq_false h24)) (Ev.gd (ev_load rfl ag_9 (by first | assumption | exact hS23.cell 1 rfl rfl))) ?_
  refine vc_p rfl rfl (guard_yes rfl rfl (decide_eq_false h24)) (fun _ => (Ev.gd (ev_concat rfl rfl (by first | omega | (simp; omega))))) ?_
  refine vc_p rfl rfl (guard_yes rfl rfl (decide_eq_false h24)) (fun _ => (Ev.gd (ev_concat rfl rfl (by first | omega | (simp; omega))))) ?_
  refine vc_p rfl rfl (guard_yes rfl rfl (decide_eq_false h24)) (fun _ => (Ev.gd (ev_fieldAddr rfl fo_37_5))) ?_
  refine vc_q rfl rfl (guard_yes rfl rfl (decide_eq_false h24)) (Ev.gd (ev_load rfl ag_9 (by first | assumption | exact hS23.cell 1 rfl rfl))) ?_
  refine vc_p rfl rfl (guard_yes rfl rfl (decide_eq_false h24)) (fun _ => (Ev.gd (ev_concat rfl rfl (by first | omega | (simp; omega))))) ?_
  refine vc_p rfl rfl (guard_yes rfl rfl (decide_eq_false h24)) (fun _ => (Ev.gd (ev_eqlS rfl rfl))) ?_
  refine vc_p rfl rfl rfl (fun _ => (ev_pickF rfl (decide_eq_false h24) rfl)) ?_
  refine vc_p rfl rfl rfl (fun _ => (ev_assign rfl)) ?_
  refine VC.nil (qs_seq ?_)
  refine wc_sub (L' := [(20, _), (3, _), (5, _), (6, _), (7, _), (18, _), (19, _)]) (.cons rfl (.cons rfl (.cons rfl (.cons rfl (.cons rfl (.cons rfl (.cons rfl .nil))))))) ?_
  refine wc_seq ?_
  have hS26 := hS23.drew
  refine wc_draw [0, 1, 2, 3, 4, 5, 6, 7, 9, 10, 11, 12, 13, 8, 14, 15, 16] [8, 14] mix (by kernel_rfl) ?_
  refine vc_p rfl rfl rfl (fun _ => (ev_move rfl)) ?_
  refine vc_p rfl rfl rfl (fun _ => (ev_not rfl)) ?_
  refine vc_p rfl rfl rfl (fun _ => (ev_move rfl)) ?_
  refine vc_split 153 rfl (fun h27 => ?_) (fun h27 => ?_)
  ·have hk2n : ky ≠ (kE x.td x.to) := by have h9 := h27; simp only [Bool.not_eq_true', decide_eq_false_iff_not] at h9; exact h9
   refine vc_p rfl rfl (guard_yes rfl rfl h27) (fun _ => (Ev.gd (ev_move rfl))) ?_
   refine vc_p rfl rfl (guard_yes rfl rfl h27) (fun _ => (Ev.gd (ev_move rfl))) ?_
   refine vc_p rfl rfl (guard_yes rfl rfl h27) (fun _ => (Ev.gd (ev_move rfl))) ?_
   refine vc_p rfl rfl (guard_yes rfl rfl h27) (fun _ => (Ev.gd (ev_indexAddr k rfl rfl (by first | rfl | omega) (by first | omega | exact (List.getElem?_eq_some_iff.1 hky).1) es_40))) ?_
   refine vc_q rfl rfl (guard_yes rfl rfl h27) (Ev.gd (ev_rowLoad0 stC 0 k 0 hS26 rfl hky ag_9 rfl rfl)) ?_
   refine vc_p rfl rfl (guard_yes rfl rfl h27) (fun _ => (Ev.gd (ev_move rfl))) ?_
   refine vc_p rfl rfl (guard_yes rfl rfl h27) (fun _ => (Ev.gd (ev_move rfl))) ?_
   refine vc_p rfl rfl (guard_yes rfl rfl h27) (fun _ => (Ev.gd (ev_move rfl))) ?_
   refine vc_p rfl rfl (guard_yes rfl rfl h27) (fun _ => (Ev.gd (ev_indexAddr k rfl rfl (by first | rfl | omega) (by first | omega | exact (List.getElem?_eq_some_iff.1 hky).1) es_40))) ?_
   refine vc_q rfl rfl (guard_yes rfl rfl h27) (Ev.gd (ev_rowLoad0 stC 0 k 0 hS26 rfl hky ag_9 rfl rfl)) ?_
   refine vc_s rfl rfl (guard_yes rfl rfl h27) rfl rfl rfl ?_
   have hC28 := hS26.split [3] [false, false, false, true, false] rfl; dsimp only [selF, pickA, nthA, List.cons_append, List.nil_append] at hC28
   refine wl_call cal_16 rfl (get_sp hC28 ky) rfl ?_
   rintro e w28 ⟨_, rfl, rfl, hS28⟩; refine ⟨_, rfl, ?_⟩
   replace hS28 := hS28.join rfl; dsimp only [List.dropLast, List.cons_append, List.nil_append] at hS28; clear hC28
   clear hS26
   refine vc_e (.cons (.inl ⟨(guard_yes rfl rfl h27), (Ev.gd (ev_rowLoad0 stC 1 k 0 hS28 rfl hky ag_9 rfl rfl))⟩) (.skip (by kernel_rfl) .nil)) ?_
   refine vc_s rfl rfl (guard_yes rfl rfl h27) rfl rfl rfl ?_
   have hC29 := hS28.split [3] [false, false, false, true, false] rfl; dsimp only [selF, pickA, nthA, List.cons_append, List.nil_append] at hC29
   refine wl_call cal_16 rfl (get_sp hC29 ky) rfl ?_
   rintro e w29 ⟨_, rfl, rfl, hS29⟩; refine ⟨_, rfl, ?_⟩
   replace hS29 := hS29.join rfl; dsimp only [List.dropLast, List.cons_append, List.nil_append] at hS29; clear hC29
   clear hS28
   refine vc_e (.skip (by kernel_rfl) (.skip (by kernel_rfl) .nil)) ?_
   refine vc_p rfl rfl (guard_yes rfl rfl h27) (fun _ => (Ev.gd (ev_neqS rfl rfl))) ?_
   refine vc_p rfl rfl rfl (fun _ => (ev_pickT rfl h27 rfl)) ?_
   refine VC.nil (qs_seq ?_)
   refine wc_sub (L' := [(167, _), (3, _), (5, _), (6, _), (7, _), (18, _), (19, _)]) (.cons rfl (.cons rfl (.cons rfl (.cons rfl (.cons rfl (.cons rfl (.cons rfl .nil))))))) ?_
   refine wc_condD rfl (fun h30 => ?_) (fun h30 => ?_)
   ·exact absurd (hR.e4 ky hpre hk1n hk2n) h30
   refine wc_skip (qs_block_normal (qs_seq (wc_region (wl_move rfl rfl ?_))))
   refine wl_add rfl rfl (by first | omega | (simp; omega)) (by first | omega | (simp; omega)) rfl ?_
   refine wl_assign rfl rfl (wl_nil ?_)
   exact qs_round (L1 := [(3, _), (5, _), (6, _), (7, _), (18, _), (19, intV ((k + 1 : Nat) : Int))]) (.cons rfl (.cons rfl (.cons rfl (.cons rfl (.cons rfl (.cons rfl .nil)))))) (k1 := k1.length - (k + 1)) (by omega) ⟨k + 1, rfl, rfl, hS29.pick [2, 3, 0, 1, 4] rfl, by omega⟩
  refine vc_not rfl rfl (guard_no rfl rfl h27) ?_
  refine vc_not rfl rfl (guard_no rfl rfl h27) ?_
  refine vc_not rfl rfl (guard_no rfl rfl h27) ?_
  refine vc_not rfl rfl (guard_no rfl rfl h27) ?_
  refine vc_not rfl rfl (guard_no rfl rfl h27) ?_
  refine vc_not rfl rfl (guard_no rfl rfl h27) ?_
  refine vc_not rfl rfl (guard_no rfl rfl h27) ?_
  refine vc_not rfl rfl (guard_no rfl rfl h27) ?_
  refine vc_not rfl rfl (guard_no rfl rfl h27) ?_
  refine vc_not rfl rfl (guard_no rfl rfl h27) ?_
  refine VC.spineNot rfl rfl (guard_no rfl rfl h27) ?_
  refine VC.spineNot rfl rfl (guard_no rfl rfl h27) ?_
  refine vc_not rfl rfl (guard_no rfl rfl h27) ?_
  refine vc_p rfl rfl rfl (fun _ => (ev_pickF rfl h27 rfl)) ?_
  refine VC.nil (qs_seq ?_)
  refine wc_sub (L' := [(167, _), (3, _), (5, _), (6, _), (7, _), (18, _), (19, _)]) (.cons rfl (.cons rfl (.cons rfl (.cons rfl (.cons rfl (.cons rfl (.cons rfl .nil))))))) ?_
  refine wc_condF rfl ?_
  refine wc_skip (qs_block_normal (qs_seq (wc_region (wl_move rfl rfl ?_))))
  refine wl_add rfl rfl (by first | omega | (simp; omega)) (by first | omega | (simp; omega)) rfl ?_
  refine wl_assign rfl rfl (wl_nil ?_)
  exact qs_round (L1 := [(3, _), (5, _), (6, _), (7, _), (18, _), (19, intV ((k + 1 : Nat) : Int))]) (.cons rfl (.cons rfl (.cons rfl (.cons rfl (.cons rfl (.cons rfl .nil)))))) (k1 := k1.length - (k + 1)) (by omega) ⟨k + 1, rfl, rfl, hS26.pick [0, 1, 2, 3, 4] rfl, by omega⟩
 refine wc_exit (qs_then_exit (qs_then_exit (qs_block_exit (qs_seq (wc_seq (wc_region (wl_move rfl rfl (wl_assign rfl rfl (wl_nil (qs_seq ?_))))))))))
 refine wc_sub (L' := [(4, _)]) (.cons rfl .nil) ?_
 refine wc_ret ?_
 refine fin1 (.inr rfl) rfl rfl ?_
 exact ⟨_, rfl, rfl, hS21.pick [4] rfl⟩
end Go.Proofs.YtkaikhcpcbjkcaaGreatDoor
/- How the arguments of a law read: a relation between cells and plain data for each type, built by shape; and the step from a law's contract to its row. -/
namespace Go.Proofs.YtkaikhcpcbjkcaaGreatDoor.M
open Go.ChangeShapes Go.WideShapes Go.ChangeAt Go.RowKit Go.Deep
/-- the cells cs lie at ⟨b, off⟩ -/
def At (w : World) (b off : Nat) (cs : List Value) : Prop := ∀ j v, cs[j]? = some v → w.cell? ⟨b, off + j, none⟩ = some v
theorem At.cell {w : World} {b off : Nat} {cs : List Value} (h : At w b off cs) (j : Nat) {v : Value} (hv : cs[j]? = some v) : w.cell? ⟨b, off + j, none⟩ = some v := h j v hv
theorem At.below {B : Nat} {w w' : World} {b off : Nat} {cs : List Value} (h : At w b off cs) (hb : Below B w w') (hB : b < B) : At w' b off cs :=
  fun j v hv => (hb.cell (p := ⟨b, off + j, none⟩) hB).trans (h j v hv)
/-- a type, read as α -/
structure Cod (P : Program) (t : TypeId) (α : Type) where
  rd : World → List Value → α → Prop
  size : Nat
  cells : P.cellsOf t = size
  down : ∀ {H : Type} {enc : TypeId × Value → H} {w : World} {base : Nat} {spare : Nat → Bool} {held : Bool} {fuel : Nat} {cs : List Value} {x : DataW H × List MemPlace},
    DataW.trod enc P w base spare held fuel t cs = some x → ∃ a, rd w cs a
  len : ∀ {w cs a}, rd w cs a → cs.length = size
  keep : ∀ {w w' cs a}, Below w.heap.size w w' → rd w cs a → rd w' cs a
section
variable {P : Program}
def Cod.int {t : TypeId} (k : IntKind) (ht : P.underlying t = some (.int k)) (hc : P.cellsOf t = 1) : Cod P t Int where
  rd := fun _ cs n => cs = [.int k n] ∧ (Lit.int k n).wf = true
  size := 1
  cells := hc
  down := fun h => by
    obtain ⟨n, h1, _, h2⟩ := DataW.trod_int ht h
    exact ⟨n, h1, h2⟩
  len := fun h => by rw [h.1]; rfl
  keep := fun _ h => h
def Cod.byte {t : TypeId} (ht : P.underlying t = some (.int .u8)) (hc : P.cellsOf t = 1) : Cod P t UInt8 where
  rd := fun _ cs n => cs = [.int .u8 (n.toNat : Int)]
  size := 1
  cells := hc
  down := fun h => by
    obtain ⟨n, h1, _, h2⟩ := DataW.trod_int ht h
    have hb := bounds_u8 h2
    refine ⟨UInt8.ofNat n.toNat, ?_⟩
    have e : ((UInt8.ofNat n.toNat).toNat : Int) = n := by simp; omega
    rw [e]; exact h1
  len := fun h => by rw [h]; rfl
  keep := fun _ h => h
def Cod.bool {t : TypeId} (ht : P.underlying t = some .bool) (hc : P.cellsOf t = 1) : Cod P t Bool where
  rd := fun _ cs n => cs = [.bool n]
  size := 1
  cells := hc
  down := fun h => by
    obtain ⟨n, h1, _⟩ := DataW.trod_bool ht h
    exact ⟨n, h1⟩
  len := fun h => by rw [h]; rfl
  keep := fun _ h => h
def Cod.string {t : TypeId} (ht : P.underlying t = some .string) (hc : P.cellsOf t = 1) : Cod P t ByteArray where
  rd := fun _ cs s => cs = [.string s] ∧ s.size ≤ 9223372036854775807
  size := 1
  cells := hc
  down := fun h => by
    obtain ⟨n, h1, _, h2⟩ := DataW.trod_string ht h
    exact ⟨n, h1, h2⟩
  len := fun h => by rw [h.1]; rfl
  keep := fun _ h => h
/-- a slice's value v reads as l: each element's cells lie in its place -/
def SliceRd {α : Type} (rd : World → List Value → α → Prop) (size : Nat) (w : World) (v : Value) (l : List α) : Prop :=
  ∃ ao cap, v = .slice ao l.length cap ∧ l.length ≤ cap ∧ cap ≤ 9223372036854775807 ∧ ∀ (i : Nat) (a : α), l[i]? = some a → ∃ b off cs, ao = some ⟨b, off, none⟩ ∧ b < w.heap.size ∧ At w b (off + i * size) cs ∧ rd w cs a
def Cod.slice {t e : TypeId} {α : Type} [Inhabited α] (ht : P.underlying t = some (.slice e)) (hc : P.cellsOf t = 1) (c : Cod P e α) (hpos : 0 < c.size) : Cod P t (List α) where
  rd := fun w cs l => ∃ v, cs = [v] ∧ SliceRd c.rd c.size w v l
  size := 1
  cells := hc
  down := fun {H enc w base spare held fuel cs x} h => by
    rcases open_slice ht h with ⟨rfl, _⟩ | ⟨a, len, cap, m, n, D, Pl, rfl, hb, hl, hm, hmm, _, hx⟩
    · exact ⟨[], _, rfl, none, 0, rfl, Nat.le_refl _, by omega, fun i a hi => by simp at hi⟩
    · have hlm : len ≤ m := by rw [hmm]; split <;> omega
      have hex : ∀ i, i < len → ∃ y : α, ∃ cs', c.rd w cs' y ∧ (∀ j v, cs'[j]? = some v → w.cell? (a.add (i * c.size + j)) = some v) := by
        intro i hi
        obtain ⟨cs', h1, h2⟩ := hx i (by omega)
        obtain ⟨y, hy⟩ := c.down h2
        obtain ⟨_, hlen, hat⟩ := World.cells?_some h1
        refine ⟨y, cs', hy, fun j v hv => ?_⟩
        have hj : j < cs'.length := (List.getElem?_eq_some_iff.1 hv).1
        rw [c.cells] at hlen hat
        rw [← Go.Deep.add_add, hat j (by omega), hv]
      obtain ⟨f, hf⟩ := choose_lt hex
      refine ⟨(List.range len).map f, _, rfl, some a, cap, by simp, by simpa using hl, hm, fun i y hi => ?_⟩
      have hil : i < len := by have := (List.getElem?_eq_some_iff.1 hi).1; simpa using this
      simp [hil] at hi
      subst hi
      obtain ⟨cs', hrd, hat⟩ := hf i hil
      have hcl := c.len hrd
      obtain ⟨b, off, spot⟩ := a
      have h0 := hat 0 cs'[0] (List.getElem?_eq_getElem (by omega))
      have hspot : spot = none := by
        have := World.cell?_spot h0
        unfold Addr.add at this
        split at this
        · exact this
        · obtain ⟨i0, hi0⟩ : ∃ i0, i0 < len ∧ i0 = 0 := ⟨0, by omega, rfl⟩
          obtain ⟨hi1, rfl⟩ := hi0
          obtain ⟨cs0, hrd0, hat0⟩ := hf 0 hi1
          have hcl0 := c.len hrd0
          have h00 := hat0 0 cs0[0] (List.getElem?_eq_getElem (by omega))
          have := World.cell?_spot h00
          simpa [Addr.add] using this
      subst hspot
      refine ⟨b, off, cs', rfl, ?_, fun j v hv => ?_, hrd⟩
      · have := block_lt_of_cell h0
        rw [addr_add] at this
        exact this
      · have := hat j v hv
        rw [addr_add] at this
        rw [Nat.add_assoc]; exact this
  len := fun ⟨v, h, _⟩ => by rw [h]; rfl
  keep := fun {w w' cs l} hb ⟨v, h1, ao, cap, h2, h3, h4, h5⟩ => ⟨v, h1, ao, cap, h2, h3, h4, fun i a hi => by
    obtain ⟨b, off, cs', e1, e2, e3, e4⟩ := h5 i a hi
    exact ⟨b, off, cs', e1, Nat.lt_of_lt_of_le e2 hb.size, e3.below hb e2, c.keep hb e4⟩⟩
/-- fields one behind the other -/
structure Flds (P : Program) (fs : List Field) (off : Nat) (α : Type) where
  rd : World → List Value → α → Prop
  size : Nat
  down : ∀ {H : Type} {enc : TypeId × Value → H} {w : World} {base : Nat} {spare : Nat → Bool} {held : Bool} {n : Nat} {cs : List Value} {xs : List (DataW H × List MemPlace)},
    (∀ (i : Nat) (f : Field), fs[i]? = some f → ∃ x, DataW.trod enc P w base spare held n f.type ((cs.drop f.offset).take (P.cellsOf f.type)) = some x) → ∃ a, rd w ((cs.drop off).take size) a
  len : ∀ {w cs a}, rd w cs a → cs.length = size
  keep : ∀ {w w' cs a}, Below w.heap.size w w' → rd w cs a → rd w' cs a
def Flds.nil (off : Nat) : Flds P [] off Unit where
  rd := fun _ cs _ => cs = []
  size := 0
  down := fun _ => ⟨(), by simp⟩
  len := fun h => by rw [h]; rfl
  keep := fun _ h => h
def Flds.cons {f : Field} {fs : List Field} {off : Nat} {α β : Type} (c : Cod P f.type α) (ho : f.offset = off) (r : Flds P fs (off + c.size) β) : Flds P (f :: fs) off (α × β) where
  rd := fun w cs a => ∃ cs1 cs2, cs = cs1 ++ cs2 ∧ c.rd w cs1 a.1 ∧ r.rd w cs2 a.2
  size := c.size + r.size
  down := fun {H enc w base spare held n cs xs} h => by
    obtain ⟨x, hx⟩ := h 0 f rfl
    rw [ho, c.cells] at hx
    obtain ⟨a, ha⟩ := c.down hx
    obtain ⟨b, hb⟩ := r.down (xs := xs) (fun i g hg => h (i + 1) g (by simpa using hg))
    refine ⟨(a, b), _, _, ?_, ha, hb⟩
    rw [← List.drop_drop]
    exact List.take_add ..
  len := fun ⟨cs1, cs2, h, h1, h2⟩ => by rw [h, List.length_append, c.len h1, r.len h2]
  keep := fun hb ⟨cs1, cs2, h, h1, h2⟩ => ⟨cs1, cs2, h, c.keep hb h1, r.keep hb h2⟩
def Cod.struct {t : TypeId} {fs : List Field} {α : Type} (ht : P.underlying t = some (.struct fs.toArray)) (r : Flds P fs 0 α) (hc : P.cellsOf t = r.size) : Cod P t α where
  rd := r.rd
  size := r.size
  cells := hc
  down := fun {H enc w base spare held fuel cs x} h => by
    obtain ⟨xs, n, _, _, hl, hxl, hf⟩ := DataW.trod_struct ht h
    obtain ⟨a, ha⟩ := r.down (xs := xs) (n := n) (enc := enc) (w := w) (base := base) (spare := spare) (held := held) (cs := cs) (fun i f hi => by
      have h1 := hf i f (by simpa using hi)
      have hil := (List.getElem?_eq_some_iff.1 hi).1
      rw [h1, List.getElem?_eq_getElem (by rw [hxl]; simpa using hil)]
      exact ⟨_, rfl⟩)
    refine ⟨a, ?_⟩
    rw [List.drop_zero, List.take_of_length_le (by omega)] at ha
    exact ha
  len := r.len
  keep := r.keep
/-- as another type -/
def Cod.map {t : TypeId} {α β : Type} (c : Cod P t α) (f : α → β) : Cod P t β where
  rd := fun w cs b => ∃ a, b = f a ∧ c.rd w cs a
  size := c.size
  cells := c.cells
  down := fun h => by obtain ⟨a, ha⟩ := c.down h; exact ⟨f a, a, rfl, ha⟩
  len := fun ⟨a, _, h⟩ => c.len h
  keep := fun hb ⟨a, e, h⟩ => ⟨a, e, c.keep hb h⟩
/-- the arguments are all read again behind a call that has changed nothing that was there -/
theorem trodAll_stays {H : Type} {enc : TypeId × Value → H} (hl : laidOutB P = true) {W W' : World} (hb : Below W.heap.size W W') :
    ∀ (ts : List TypeId) (vs : List Value) (ds : List (DataW H)) (ps : List MemPlace), (∀ t ∈ ts, P.readableRec t = true ∧ t < P.types.size) →
      DataW.TrodAll enc P W 0 (fun _ => true) true ts vs ds ps → DataW.TrodAll enc P W' 0 (fun b => decide (b < W.heap.size)) true ts vs ds ps
  | [], vs, ds, ps, _, h => by
    obtain ⟨rfl, rfl, rfl⟩ := trodAll_nil h
    exact rfl
  | t :: ts, vs, ds, ps, hr, h => by
    obtain ⟨v, vs', d, ds', p, q, rfl, rfl, rfl, h0, h1⟩ := trodAll_cons h
    have lt0 : ∀ x ∈ p, x.block < W.heap.size := by obtain ⟨m, hm⟩ := h0; exact DataW.trod_lt m _ _ _ hm
    obtain ⟨r1, r2⟩ := hr t (by simp)
    exact trodAll_cons_mk (Below.trod hl r1 r2 h0 hb lt0) (trodAll_stays hl hb ts vs' ds' q (fun t ht => hr t (by simp [ht])) h1)
end
end Go.Proofs.YtkaikhcpcbjkcaaGreatDoor.M
/- laws of names: how the arguments read -/
namespace Go.Proofs.YtkaikhcpcbjkcaaGreatDoor
open Go.RowKit M
set_option linter.unusedVariables false
theorem var_iface {P : Program} {w : World} {name : String} {g t : Nat} (hn : P.globalNamed name = some g) (hy : (P.globals[g]?).map (·.type) = some t) (ht : isIface P t = true) {nm : String} {x : DataW Unit} (h : Lib.VarReads P w name (.iface nm x)) : ∃ tp p, w.var? P name = some #[.iface tp p] := by
  obtain ⟨g', t', cs, fuel, p, h1, h2, h3, h4⟩ := h
  obtain rfl := Option.some.inj (hn.symm.trans h1)
  obtain rfl := Option.some.inj (hy.symm.trans h2)
  unfold isIface at ht
  cases hq : P.underlying t with
  | none => rw [hq] at ht; cases ht
  | some d =>
    rw [hq] at ht
    cases d <;> simp at ht
    cases fuel with
    | zero => simp [DataW.trod] at h4
    | succ fuel =>
      obtain ⟨l⟩ := cs
      match l, h3, h4 with
      | [], _, h4 => simp [DataW.trod, hq] at h4
      | [v], h3, h4 =>
        cases v with
        | iface a b => exact ⟨a, b, h3⟩
        | _ => simp [DataW.trod, hq] at h4
      | _ :: _ :: _, _, h4 => simp [DataW.trod, hq] at h4
theorem gPow : Tryz.prog.globalNamed "internal/strconv.uint64pow10" = some 5 := by kernel_rfl
theorem gSyn : Tryz.prog.globalNamed "strconv.ErrSyntax" = some 3 := by kernel_rfl
theorem gRng : Tryz.prog.globalNamed "strconv.ErrRange" = some 4 := by kernel_rfl
theorem tPow : (Tryz.prog.globals[5]?).map (·.type) = some 200 := by kernel_rfl
theorem tSyn : (Tryz.prog.globals[3]?).map (·.type) = some 156 := by kernel_rfl
theorem tRng : (Tryz.prog.globals[4]?).map (·.type) = some 156 := by kernel_rfl
theorem cPow : Tryz.prog.cellsOf 200 = 20 := by kernel_rfl
theorem cU64 : Tryz.prog.cellsOf 153 = 1 := by kernel_rfl
theorem wireG_of {W : World} {l : List (String × DataW Unit)} (h : laidMet Tryz.prog l W) (h1 : ("internal/strconv.uint64pow10", Rows.laid_internal_strconv_uint64pow10) ∈ l) (h2 : ("strconv.ErrSyntax", Rows.laid_strconv_ErrSyntax) ∈ l) (h3 : ("strconv.ErrRange", Rows.laid_strconv_ErrRange) ∈ l) : WireG W where
  tab := by
    obtain ⟨g', t', cs, fuel, p, e1, e2, e3, e4⟩ := Lib.laidMet.reads h h1
    obtain rfl := Option.some.inj (gPow.symm.trans e1)
    obtain rfl := Option.some.inj (tPow.symm.trans e2)
    unfold Lib.TabIs
    rw [e3]
    have e5 := Lib.cells_of_tab (zs := Lib.pow10Tab) (k := .u64) Tryz.underlying200 Tryz.underlying153 cU64 cPow (by exact e4)
    rw [← e5]
  syn := var_iface gSyn tSyn (by kernel_rfl) (Lib.laidMet.reads h h2)
  rng := var_iface gRng tRng (by kernel_rfl) (Lib.laidMet.reads h h3)
instance : Inhabited AcD := ⟨⟨0, [], [], [], [], [], zI⟩⟩
theorem nwf_in {n : Int} (h : (Lit.int .i64 n).wf = true) : inI n := by
  simp [Lit.wf, IntKind.min, IntKind.max, IntKind.signed, IntKind.bits] at h
  unfold inI; omega
def nintC : Cod Tryz.prog 3 Int := Cod.int .i64 Tryz.underlying3 (by kernel_rfl)
def nstrC : Cod Tryz.prog 9 ByteArray := Cod.string Tryz.underlying9 (by kernel_rfl)
def ninC : Cod Tryz.prog 35 (Int × Int × Int × Unit) :=
  Cod.struct (P := Tryz.prog) Tryz.underlying35 (Flds.cons nintC rfl (Flds.cons nintC rfl (Flds.cons nintC rfl (Flds.nil _)))) (by kernel_rfl)
def actCod : Cod Tryz.prog 37 (Int × ByteArray × ByteArray × ByteArray × ByteArray × ByteArray × (Int × Int × Int × Unit) × Unit) :=
  Cod.struct (P := Tryz.prog) Tryz.underlying37 (Flds.cons nintC rfl (Flds.cons nstrC rfl (Flds.cons nstrC rfl (Flds.cons nstrC rfl (Flds.cons nstrC rfl (Flds.cons nstrC rfl (Flds.cons ninC rfl (Flds.nil _)))))))) (by kernel_rfl)
def acOf (y : (Int × ByteArray × ByteArray × ByteArray × ByteArray × ByteArray × (Int × Int × Int × Unit) × Unit)) : AcD := ⟨y.1, y.2.1.data.toList, y.2.2.1.data.toList, y.2.2.2.1.data.toList, y.2.2.2.2.1.data.toList, y.2.2.2.2.2.1.data.toList, ⟨y.2.2.2.2.2.2.1.1, y.2.2.2.2.2.2.1.2.1, y.2.2.2.2.2.2.1.2.2.1⟩⟩
theorem act_of {W : World} {cs : List Value} {y : (Int × ByteArray × ByteArray × ByteArray × ByteArray × ByteArray × (Int × Int × Int × Unit) × Unit)} (h : actCod.rd W cs y) : InB (acOf y).n ∧ cs = acV (acOf y) := by
  obtain ⟨c1, cs1, rfl, ⟨rfl, _⟩, c2, cs2, rfl, ⟨rfl, _⟩, c3, cs3, rfl, ⟨rfl, _⟩, c4, cs4, rfl, ⟨rfl, _⟩, c5, cs5, rfl, ⟨rfl, _⟩, c6, cs6, rfl, ⟨rfl, _⟩, c7, cs7, rfl, ⟨k1, ks1, rfl, ⟨rfl, g1⟩, k2, ks2, rfl, ⟨rfl, g2⟩, k3, ks3, rfl, ⟨rfl, g3⟩, rfl⟩, rfl⟩ := h
  exact ⟨⟨nwf_in g1, nwf_in g2, nwf_in g3⟩, by simp [acV, acOf]⟩
theorem acts_of {W : World} {v : Value} {l : List (Int × ByteArray × ByteArray × ByteArray × ByteArray × ByteArray × (Int × Int × Int × Unit) × Unit)} (h : SliceRd actCod.rd actCod.size W v l) : ∃ l' : List AcD, (∀ (i : Nat) (x : AcD), l'[i]? = some x → InB x.n) ∧ ∀ w, Below W.heap.size W w → RdL acC v l' w := by
  obtain ⟨ao, cap, h1, h2, h3, h4⟩ := h
  have hex : ∀ i, i < l.length → ∃ a : AcD, InB a.n ∧ ∀ w, Below W.heap.size W w → ∃ b off, ao = some ⟨b, off, none⟩ ∧ ∀ (j : Nat) (u : Value), (acV a)[j]? = some u → w.cell? ⟨b, off + i * 9 + j, none⟩ = some u := by
    intro i hi
    obtain ⟨b, off, cs, e1, e2, e3, e4⟩ := h4 i l[i] (List.getElem?_eq_getElem hi)
    obtain ⟨g, e5⟩ := act_of e4
    refine ⟨acOf l[i], g, fun w hb => ⟨b, off, e1, fun j u hu => ?_⟩⟩
    exact (hb.cell (p := ⟨b, off + i * 9 + j, none⟩) e2).trans (e3 j u (by rw [e5]; exact hu))
  obtain ⟨f, hf⟩ := Go.Deep.choose_lt (n := l.length) hex
  refine ⟨(List.range l.length).map f, fun i x hx => ?_, fun w hb => ⟨ao, cap, by simpa using h1, by simp; omega, fun i a hi => ?_⟩⟩
  · have hil : i < l.length := by have := (List.getElem?_eq_some_iff.1 hx).1; simpa using this
    simp [hil] at hx
    subst hx
    exact (hf i hil).1
  · have hil : i < l.length := by have := (List.getElem?_eq_some_iff.1 hi).1; simpa using this
    simp [hil] at hi
    subst hi
    exact (hf i hil).2 w hb
theorem nbelow_of {W w : World} (h : Sat w [frameT W]) : Below W.heap.size W w := h.below 0 rfl
theorem ent_wire {W : World} (h : WireG W) : Ent (frameT W) WireG := Ent.frame fun w hb => h.below hb
theorem rename_row {W : World} {v0 : Value} {l0 : List (Int × ByteArray × ByteArray × ByteArray × ByteArray × ByteArray × (Int × Int × Int × Unit) × Unit)} {cs1 : Array Value} {l1 : (Int × ByteArray × ByteArray × ByteArray × ByteArray × ByteArray × (Int × Int × Int × Unit) × Unit)} (hG : WireG W) (h0 : SliceRd actCod.rd actCod.size W v0 l0) (h1 : actCod.rd W cs1.toList l1) :
    Calls Tryz.prog 7 #[v0, .agg cs1] W fun e W' => e = .returned (.bool true) ∧ Below W.heap.size W W' := by
  obtain ⟨a0, g0, h0⟩ := acts_of h0
  obtain ⟨g1, h1⟩ := act_of h1
  obtain rfl : cs1 = (acV (acOf l1)).toArray := by rw [← h1]
  exact (ren_law (Sat.start W) (ent_wire hG) (Ent.frame h0) g0 g1).mono fun e W' ⟨v, h4, h5, h6⟩ => ⟨by rw [h4, h5], nbelow_of h6⟩
end Go.Proofs.YtkaikhcpcbjkcaaGreatDoor
