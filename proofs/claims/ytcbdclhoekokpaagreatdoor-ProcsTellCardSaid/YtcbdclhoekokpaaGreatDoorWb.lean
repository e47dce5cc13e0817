/- world: pages -/
import Derived.Test.YtcbdclhoekokpaaGreatDoorWa
import Derived.Test.YtcbdclhoekokpaaGreatDoorFw
namespace Go.Proofs.YtcbdclhoekokpaaGreatDoor
open Go.RowKit M
set_option linter.unusedVariables false
section
variable {w : World} {p : Nat} {W : WS} {LL : WL} {Lo : List (Bs × Nat)} {F : Th} {n : Bs} {m im : Nat} {O' : Bs → Int → Option Bs}
theorem world_shut (hI : PagesOk O') (L' : List (Bs × Nat)) (hO : ObjL L' O') (h : Sat w [mapT strK LL.bo (namesG L'), starL (L'.map (thOf O')), blkT p (cellsW LL W.time), mapT strK LL.bc (cellsG W.cells), mapT strK LL.bl (cellsG W.logs), F]) : Sat w [worldT p { W with objs := O' }, F] := by
  have h1 := objsT_shut L' hO h
  exact worldT_shut (W := { W with objs := O' }) LL hI (h1.reorder [1, 2, 0, 3, 4] rfl)
theorem world_same (hI : PagesOk W.objs) (hO : ObjL Lo W.objs) (h : Sat w [mapT strK LL.bo (namesG Lo), starL (Lo.map (thOf W.objs)), blkT p (cellsW LL W.time), mapT strK LL.bc (cellsG W.cells), mapT strK LL.bl (cellsG W.logs), F]) : Sat w [worldT p W, F] := world_shut (W := W) hI Lo hO h
end
end Go.Proofs.YtcbdclhoekokpaaGreatDoor
/- world: Keys -/
namespace Go.Proofs.YtcbdclhoekokpaaGreatDoor
open Go.RowKit M
set_option linter.unusedVariables false
theorem hp0 {w : World} {As : List Th} (hS : Sat w As) (s t : Bs) : Calls Tryz.prog 84 #[strV s, strV t] w (Ret fun v w' => v = .bool (Lib.hasPrefix s t) ∧ Sat w' As) :=
  (Tryz.strings_HasPrefix ⟨s.toArray⟩ ⟨t.toArray⟩ w).mono fun e w' ⟨h1, h2⟩ => ⟨_, h1, rfl, by rw [h2]; exact hS⟩
theorem sort0 {w : World} {v : Value} {l : List Bs} {As : List Th} (hS : Sat w (rowT stC v l :: As)) (hl : l.length < 4611686018427387904) : Calls Tryz.prog 85 #[v] w (Ret fun u w' => u = .tuple #[] ∧ Sat w' (rowT stC v (sortS l) :: As)) :=
  calls_sort Tryz.slices_Sort_string Tryz.slices_Sort_string_none hS hl
def KeysOf (c : Bs → Bs) (pre : Bs) (l : List Bs) : Prop := ∃ l0, l = sortS l0 ∧ l0.Nodup ∧ ∀ k, k ∈ l0 ↔ c k ≠ [] ∧ Lib.hasPrefix k pre = true
structure KeysIn (c : Bs → Bs) (n : Nat) : Prop where
  few : ∃ ks : List Bs, ks.length ≤ n ∧ ∀ k, c k ≠ [] → k ∈ ks
  short : ∀ k, c k ≠ [] → k.length ≤ 1000
structure KSt (c : Bs → Bs) (pre : Bs) (dn : Bs → Prop) (l : List Bs) : Prop where
  nodup : l.Nodup
  mem : ∀ k, k ∈ l ↔ dn k ∧ Lib.hasPrefix k pre = true
  dn : ∀ k, dn k → c k ≠ []
theorem cellsG_some {c : Bs → Bs} {k : Bs} {v : Value} (h : cellsG c k = some v) : c k ≠ [] := by
  unfold cellsG at h; split at h
  · cases h
  · assumption
theorem KSt.len {c : Bs → Bs} {pre : Bs} {dn : Bs → Prop} {l : List Bs} {n : Nat} (h : KSt c pre dn l) (hk : KeysIn c n) : l.length ≤ n := by
  obtain ⟨ks, h1, h2⟩ := hk.few
  have := List.Nodup.length_le_of_subset h.nodup (fun x hx => h2 x (h.dn x ((h.mem x).1 hx).1))
  omega
theorem KSt.start (c : Bs → Bs) (pre : Bs) : KSt c pre (fun _ => False) [] := ⟨List.nodup_nil, by simp, fun _ h => h.elim⟩
theorem KSt.yes {c : Bs → Bs} {pre : Bs} {dn : Bs → Prop} {l : List Bs} {k : Bs} (h : KSt c pre dn l) (hn : ¬ dn k) (hc : c k ≠ []) (hp : Lib.hasPrefix k pre = true) : KSt c pre (fun j => dn j ∨ j = k) (l ++ [k]) where
  nodup := by
    refine List.nodup_append.2 ⟨h.nodup, by simp, ?_⟩
    rintro a ha b hb rfl
    simp at hb; subst hb
    exact hn ((h.mem _).1 ha).1
  mem := fun j => by
    rw [List.mem_append, h.mem j]
    simp only [List.mem_singleton]
    constructor
    · rintro (⟨a, b⟩ | rfl)
      · exact ⟨.inl a, b⟩
      · exact ⟨.inr rfl, hp⟩
    · rintro ⟨a | rfl, b⟩
      · exact .inl ⟨a, b⟩
      · exact .inr rfl
  dn := fun j hj => by rcases hj with hj | rfl; exact h.dn j hj; exact hc
theorem KSt.no {c : Bs → Bs} {pre : Bs} {dn : Bs → Prop} {l : List Bs} {k : Bs} (h : KSt c pre dn l) (hc : c k ≠ []) (hp : Lib.hasPrefix k pre = false) : KSt c pre (fun j => dn j ∨ j = k) l where
  nodup := h.nodup
  mem := fun j => by
    rw [h.mem j]
    constructor
    · rintro ⟨a, b⟩; exact ⟨.inl a, b⟩
    · rintro ⟨a | rfl, b⟩
      · exact ⟨a, b⟩
      · rw [hp] at b; cases b
  dn := fun j hj => by rcases hj with hj | rfl; exact h.dn j hj; exact hc
theorem KSt.done {c : Bs → Bs} {pre : Bs} {dn : Bs → Prop} {l : List Bs} (h : KSt c pre dn l) (hd : ∀ k v, cellsG c k = some v → dn k) : KeysOf c pre (sortS l) := by
  refine ⟨l, rfl, h.nodup, fun k => ?_⟩
  rw [h.mem k]
  refine and_congr_left fun _ => ⟨h.dn k, fun hc => hd k (strV (c k)) ?_⟩
  simp [cellsG, hc]
theorem keys_end {w : World} {p : Nat} {W : WS} {LL : WL} {F X : Th} (hI : PagesOk W.objs) (h : Sat w [mapT strK LL.bc (cellsG W.cells), blkT p (cellsW LL W.time), objsT LL.bo W.objs, mapT strK LL.bl (cellsG W.logs), F, X]) : Sat w [X, worldT p W, F] := by
  have h1 := worldT_shut (W := W) (As := [F, X]) LL hI (h.reorder [1, 0, 2, 3, 4, 5] rfl)
  exact h1.reorder [2, 0, 1] rfl
set_option maxRecDepth 100000 in
theorem keys_sp {w : World} {p : Nat} {W : WS} {F : Th} (hS : Sat w [worldT p W, F]) (pre : Bs) (hK : KeysIn W.cells 1000000) :
    Calls Tryz.prog 31 #[ptrV p 0, strV pre] w (Ret fun v w' => ∃ l, KeysOf W.cells pre l ∧ Sat w' [rowT stC v l, worldT p W, F]) := by
  obtain ⟨LL, hI, hS⟩ := worldT_open hS
  refine calls_enter Tryz.func31 rfl Tryz.ntmps31 rfl ?_
  refine wc_seq ?_
  refine wc_region ?_
  refine wl_assign rfl rfl ?_
  refine wl_nil ?_
  refine qs_seq ?_
  refine wc_seq ?_
  refine wc_region ?_
  refine wl_assign rfl rfl ?_
  refine wl_nil ?_
  refine qs_seq ?_
  refine wc_seq ?_
  refine wc_seq ?_
  refine wc_region ?_
  refine wl_move rfl rfl ?_
  refine wl_nilCheck rfl rfl ?_
  refine wl_fieldAddr rfl fo_80_0 rfl ?_
  refine wl_load rfl ag_77 (by first | assumption | exact hS.cell 0 rfl rfl) rfl ?_
  have hSn := hS.row_nil stC
  refine wl_range 2 hSn Tryz.underlying77 rfl rfl rfl ?_
  intro RR left0 wR hSR; dsimp only [List.set] at hSR
  refine wl_nil ?_
  refine qs_seq ?_
  refine wc_block ?_
  refine wc_loop (fun K0 E0 W0 => ∃ (dn : Bs → Prop) (cur : Option Bs) (left : Nat) (ov : Value) (l : List Bs), K0 = 1 * left ∧ E0 = [(1, strV pre), (5, ov), (11, ptrV RR 0)] ∧ Sat W0 [rowT stC ov l, rangeT strK LL.bc RR (cellsG W.cells) dn cur left, blkT p (cellsW LL W.time), objsT LL.bo W.objs, mapT strK LL.bl (cellsG W.logs), F] ∧ (KSt W.cells pre dn l)) (L0 := [(1, _), (5, _), (11, _)]) (1 * left0) (.cons rfl (.cons rfl (.cons rfl .nil))) ⟨_, _, _, _, _, rfl, rfl, hSR.reorder [0, 2, 1, 3, 4, 5] rfl, KSt.start _ _⟩ ?_
  rintro _ _ w1 ⟨dn, cur, left, ov, l, rfl, rfl, hS1, hks⟩
  have hll := hks.len hK
  have h1ov : ov.oneCell' = true := hS1.own_one 0 rfl
  refine wc_seq ?_
  refine wc_region ?_
  refine wl_next 1 hS1 keysStr.inj rfl rfl rfl (fun hdone => ?_) (fun k v left2 w2 hleft hgk hnd hS2 => ?_)
  · skip
    refine wl_extract rfl rfl rfl ?_
    refine wl_nil ?_
    refine qs_seq ?_
    refine wc_seq ?_
    refine wc_condF rfl ?_
    refine wc_exit ?_
    refine qs_then_exit ?_
    refine qs_then_exit ?_
    refine qs_block_exit ?_
    refine qs_seq ?_
    refine wc_seq ?_
    refine wc_region ?_
    refine wl_move rfl rfl ?_
    have hC2 := hS1.split [0] [true, false, false, false, false, false] rfl; dsimp only [selF, pickA, nthA, List.cons_append, List.nil_append] at hC2
    refine wl_call cal_85 rfl (sort0 hC2 (by omega)) rfl ?_
    rintro e w2 ⟨_, rfl, rfl, hS2⟩; refine ⟨_, rfl, ?_⟩
    replace hS2 := hS2.join rfl; dsimp only [List.dropLast, List.cons_append, List.nil_append] at hS2; clear hC2
    clear hS1
    refine wl_nil ?_
    refine qs_seq ?_
    refine wc_seq ?_
    refine wc_region ?_
    refine wl_move rfl rfl ?_
    refine wl_assign rfl rfl ?_
    refine wl_nil ?_
    refine qs_seq ?_
    refine wc_ret ?_
    refine fin1 (.inr rfl) rfl rfl ?_
    have hSz := hS2.reorder [1, 2, 3, 4, 5, 0] rfl; dsimp only [pickA, nthA] at hSz
    exact ⟨_, rfl, _, hks.done hdone, keys_end hI (range_map hSz)⟩
  dsimp only [List.set] at hS2
  have hck := cellsG_some hgk
  have hkl := hK.short k hck
  refine wl_extract rfl rfl rfl ?_
  refine wl_nil ?_
  refine qs_seq ?_
  refine wc_seq ?_
  refine wc_condT rfl ?_
  refine wc_skip ?_
  refine qs_seq ?_
  refine wc_block ?_
  refine wc_seq ?_
  refine wc_region ?_
  refine wl_entry 1 hS2 rfl hgk rfl rfl ?_
  refine wl_extract rfl rfl rfl ?_
  refine wl_assign rfl rfl ?_
  refine wl_nil ?_
  refine qs_seq ?_
  refine wc_seq ?_
  refine wc_region ?_
  refine wl_move rfl rfl ?_
  refine wl_move rfl rfl ?_
  have hC3 := hS2.split [] [false, false, false, false, false, false] rfl; dsimp only [selF, pickA, nthA, List.cons_append, List.nil_append] at hC3
  refine wl_call cal_84 rfl (hp0 hC3 k pre) rfl ?_
  rintro e w3 ⟨_, rfl, rfl, hS3⟩; refine ⟨_, rfl, ?_⟩
  replace hS3 := hS3.join rfl; dsimp only [List.dropLast, List.cons_append, List.nil_append] at hS3; clear hC3
  clear hS2
  refine wl_nil ?_
  refine qs_seq ?_
  refine wc_sub (L' := [(18, _), (6, _), (1, _), (5, _), (11, _)]) (.cons rfl (.cons rfl (.cons rfl (.cons rfl (.cons rfl .nil))))) ?_
  refine wc_cond rfl (fun h4 => ?_) (fun h4 => ?_)
  · skip
    have hp1 : Lib.hasPrefix k pre = true := h4
    refine wc_region ?_
    refine wl_move rfl rfl ?_
    refine wl_move rfl rfl ?_
    have hC5 := hS3.split [] [false, false, false, false, false, false] rfl; dsimp only [selF, pickA, nthA, List.cons_append, List.nil_append] at hC5
    refine wl_call cal_73 rfl (clone_sp hC5 k (by omega)) rfl ?_
    rintro e w5 ⟨_, rfl, rfl, hS5⟩; refine ⟨_, rfl, ?_⟩
    replace hS5 := hS5.join rfl; dsimp only [List.dropLast, List.cons_append, List.nil_append] at hS5; clear hC5
    clear hS3
    refine wl_rowBuild stC [k] hS5 rfl Tryz.underlying31 ifz_9 rfl rfl rfl rfl (by first | rfl | simp [RowC.cells, fillL, splice]) rfl ?_
    intro b6 w6 hS6
    clear hS5
    refine wl_rowApp stC 1 hS6 rfl rfl rfl (hS6.rd 0 rfl (by simp)) Tryz.underlying31 Tryz.underlying31 (by intro k hk; cases hk) ifo_9 rfl (by simp; omega) rfl (by simp; omega) ?_
    intro v7 w7 hS7; dsimp only [List.set] at hS7
    clear hS6
    have h1v7 : v7.oneCell' = true := hS7.own_one 1 rfl
    refine wl_assign rfl rfl ?_
    refine wl_nil ?_
    refine qs_block_normal ?_
    exact qs_round (L1 := [(1, _), (5, _), (11, _)]) (.cons rfl (.cons rfl (.cons rfl .nil))) (k1 := 1 * left2) (by omega) ⟨_, _, _, _, _, rfl, rfl, hS7.pick [1, 2, 3, 4, 5, 6] rfl, hks.yes hnd hck hp1⟩
  have hp1 : Lib.hasPrefix k pre = false := h4
  refine wc_skip ?_
  refine qs_block_normal ?_
  exact qs_round (L1 := [(1, _), (5, _), (11, _)]) (.cons rfl (.cons rfl (.cons rfl .nil))) (k1 := 1 * left2) (by omega) ⟨_, _, _, _, _, rfl, rfl, hS3.pick [0, 1, 2, 3, 4, 5] rfl, hks.no hck hp1⟩
end Go.Proofs.YtcbdclhoekokpaaGreatDoor
/- SameTexts -/
namespace Go.Proofs.YtcbdclhoekokpaaGreatDoor
open Go.RowKit M
set_option linter.unusedVariables false
theorem same_end {l1 l2 : List Bs} {i : Nat} (h : ∀ j, j < i → l1[j]? = l2[j]?) (h1 : i = l1.length) (h2 : l1.length = l2.length) : l1 = l2 := by
  apply List.ext_getElem?
  intro j
  by_cases hj : j < i
  · exact h j hj
  · rw [List.getElem?_eq_none (by omega), List.getElem?_eq_none (by omega)]
set_option maxRecDepth 100000 in
theorem same_sp {w : World} {F : Th} (hS : Sat w [F]) {v1 v2 : Value} {l1 l2 : List Bs} (hA : Ent F (RdL stC v1 l1)) (hB : Ent F (RdL stC v2 l2)) :
    Calls Tryz.prog 30 #[v1, v2] w (Ret fun v w' => v = .bool (decide (l1 = l2)) ∧ Sat w' [F]) := by
  obtain ⟨ao1, cap1, rfl, hm1⟩ := (hA.sat hS 0 rfl).shape
  obtain ⟨ao2, cap2, rfl, hm2⟩ := (hB.sat hS 0 rfl).shape
  refine calls_enter Tryz.func30 rfl Tryz.ntmps30 rfl ?_
  refine wc_seq ?_
  refine wc_region ?_
  refine wl_assign rfl rfl ?_
  refine wl_nil ?_
  refine qs_seq ?_
  refine wc_seq ?_
  refine wc_seq ?_
  refine wc_region ?_
  refine wl_move rfl rfl ?_
  refine wl_lenL Tryz.underlying31 rfl rfl ?_
  refine wl_move rfl rfl ?_
  refine wl_lenL Tryz.underlying31 rfl rfl ?_
  refine wl_neq rfl rfl rfl ?_
  refine wl_nil ?_
  refine qs_seq ?_
  refine wc_condD rfl (fun h1 => ?_) (fun h1 => ?_)
  · skip
    refine wc_seq ?_
    refine wc_region ?_
    refine wl_assign rfl rfl ?_
    refine wl_nil ?_
    refine qs_seq ?_
    refine wc_ret ?_
    refine qs_then_ret ?_
    refine fin1 (.inr rfl) rfl rfl ?_
    exact ⟨_, rfl, by rw [decide_eq_false (by rintro rfl; omega)], hS⟩
  refine wc_skip ?_
  refine qs_seq ?_
  refine wc_seq ?_
  refine wc_seq ?_
  refine wc_region ?_
  refine wl_assign rfl rfl ?_
  refine wl_nil ?_
  refine qs_seq ?_
  refine wc_block ?_
  refine wc_loop (fun K0 E0 W0 => ∃ (i : Nat), K0 = l1.length - i ∧ E0 = [(0, .slice ao1 l1.length cap1), (1, .slice ao2 l2.length cap2), (5, intV (i : Int))] ∧ Sat W0 [F] ∧ (i ≤ l1.length) ∧ (∀ j, j < i → l1[j]? = l2[j]?)) (L0 := [(0, _), (1, _), (5, _)]) (l1.length - 0) (.cons rfl (.cons rfl (.cons rfl .nil))) ⟨0, rfl, rfl, hS, by omega, by omega⟩ ?_
  rintro _ _ w2 ⟨i, rfl, rfl, hS2, hi, hok⟩
  refine wc_seq ?_
  refine wc_seq ?_
  refine wc_region ?_
  refine wl_move rfl rfl ?_
  refine wl_move rfl rfl ?_
  refine wl_lenL Tryz.underlying31 rfl rfl ?_
  refine wl_lss rfl rfl rfl ?_
  refine wl_nil ?_
  refine qs_seq ?_
  refine wc_condD rfl (fun h3 => ?_) (fun h3 => ?_)
  · skip
    obtain ⟨s1, ha⟩ : ∃ s, l1[i]? = some s := ⟨_, List.getElem?_eq_getElem (by omega)⟩
    obtain ⟨s2, hb⟩ : ∃ s, l2[i]? = some s := ⟨_, List.getElem?_eq_getElem (by omega)⟩
    obtain ⟨b1, off1, rfl, hc1⟩ := (hA.sat hS2 0 rfl).get ha
    obtain ⟨b2, off2, rfl, hc2⟩ := (hB.sat hS2 0 rfl).get hb
    refine wc_skip ?_
    refine qs_seq ?_
    refine wc_seq ?_
    refine wc_block ?_
    refine wc_seq ?_
    have hS4 := hS2.drew
    refine wc_draw [0, 1, 2, 3, 4, 5, 6, 7, 8] [] mix (by kernel_rfl) ?_
    refine vc_p rfl rfl rfl (fun _ => (ev_move rfl)) ?_
    refine vc_p rfl rfl rfl (fun _ => (ev_move rfl)) ?_
    refine vc_p rfl rfl rfl (fun _ => (ev_indexAddr i rfl rfl (by first | rfl | omega) (by exact (List.getElem?_eq_some_iff.1 ha).1) es_31)) ?_
    refine vc_q rfl rfl rfl (ev_load rfl ag_9 (by have h := hc1 0 _ rfl; exact h)) ?_
    refine vc_p rfl rfl rfl (fun _ => (ev_move rfl)) ?_
    refine vc_p rfl rfl rfl (fun _ => (ev_move rfl)) ?_
    refine vc_p rfl rfl rfl (fun _ => (ev_indexAddr i rfl rfl (by first | rfl | omega) (by exact (List.getElem?_eq_some_iff.1 hb).1) es_31)) ?_
    refine vc_q rfl rfl rfl (ev_load rfl ag_9 (by have h := hc2 0 _ rfl; exact h)) ?_
    refine vc_p rfl rfl rfl (fun _ => (ev_neqS rfl rfl)) ?_
    refine VC.nil ?_
    refine qs_seq ?_
    refine wc_sub (L' := [(25, _), (0, _), (1, _), (5, _)]) (.cons rfl (.cons rfl (.cons rfl (.cons rfl .nil)))) ?_
    refine wc_condD rfl (fun h5 => ?_) (fun h5 => ?_)
    · skip
      have hne : s1 ≠ s2 := h5
      refine wc_seq ?_
      refine wc_region ?_
      refine wl_assign rfl rfl ?_
      refine wl_nil ?_
      refine qs_seq ?_
      refine wc_ret ?_
      refine qs_block_ret ?_
      refine qs_then_ret ?_
      refine qs_then_ret ?_
      refine qs_block_ret ?_
      refine qs_then_ret ?_
      refine fin1 (.inr rfl) rfl rfl ?_
      exact ⟨_, rfl, by rw [decide_eq_false (by rintro rfl; rw [ha] at hb; cases hb; exact hne rfl)], hS4⟩
    have heq : s1 = s2 := Decidable.not_not.1 h5
    refine wc_skip ?_
    refine qs_block_normal ?_
    refine qs_seq ?_
    refine wc_region ?_
    refine wl_move rfl rfl ?_
    refine wl_add rfl rfl (by omega) (by omega) rfl ?_
    refine wl_assign rfl rfl ?_
    refine wl_nil ?_
    exact qs_round (L1 := [(0, _), (1, _), (5, intV ((i + 1 : Nat) : Int))]) (.cons rfl (.cons rfl (.cons rfl .nil))) (k1 := l1.length - (i + 1)) (by omega) ⟨i + 1, rfl, rfl, hS4, by omega, fun j hj => by by_cases e : j = i; (subst e; rw [ha, hb, heq]); exact hok j (by omega)⟩
  refine wc_exit ?_
  refine qs_then_exit ?_
  refine qs_then_exit ?_
  refine qs_block_exit ?_
  refine qs_seq ?_
  refine wc_seq ?_
  refine wc_region ?_
  refine wl_assign rfl rfl ?_
  refine wl_nil ?_
  refine qs_seq ?_
  refine wc_ret ?_
  refine fin1 (.inr rfl) rfl rfl ?_
  exact ⟨_, rfl, by rw [decide_eq_true (same_end hok (by omega) (by omega))], hS2⟩
end Go.Proofs.YtcbdclhoekokpaaGreatDoor
