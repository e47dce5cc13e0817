/- laws of sheets: SheetsGone -/
import Derived.Test.YtnicmcdeoimhlaaGreatSl1
import Derived.Test.YtnicmcdeoimhlaaGreatMem
import Derived.ProofKit
import Derived.OpenShut
import Derived.ShutString
import Derived.ChangeOld
import Derived.Deep.Slices
import Derived.Deep.Fields
import Derived.ChangeSame
import Derived.JoinedCond
namespace Go.Proofs.YtnicmcdeoimhlaaGreat
open Go.RowKit M
set_option linter.unusedVariables false
/-- references of one sheet are being removed -/
structure UnB (S1 S2 : SS) : Prop where
  frn : S2.fr.length = S1.fr.length
  slo : S2.slots = S1.slots
def UnR (T : Nat) (S1 S2 : SS) (j : Int) (n : Nat) (pg : Bs) (k : Nat) : Prop :=
  UnB S1 S2 ∧ ((k < n ∧ ShI no0 T S2 ∧ vw S2 = up (vw S1) j (some ((n : Int) - (k : Int), pg))) ∨ (k = n ∧ ShI no0 (T + 1) S2 ∧ vw S2 = up (vw S1) j none))
theorem up_up {β : Type} {A : Int → Option β} {j : Int} {v u : Option β} : up (up A j v) j u = up A j u := by
  funext i
  by_cases q : i = j
  · subst q; rw [up_self, up_self]
  · rw [up_ne q, up_ne q, up_ne q]
theorem up_id {β : Type} {A : Int → Option β} {j : Int} {v : Option β} (h : A j = v) : up A j v = A := by
  funext i
  by_cases q : i = j
  · subst q; rw [up_self, h]
  · rw [up_ne q]
theorem UnR.start {T : Nat} {S : SS} {j : Int} {x : ShE} {n : Nat} (hI : ShI no0 T S) (hx : S.all j = some x) (hn : x.refs = (n : Int)) : UnR T S S j n x.pg 0 := by
  have h1 := (hI.ent hx).2.2.1
  refine ⟨⟨rfl, rfl⟩, .inl ⟨by omega, hI, ?_⟩⟩
  refine (up_id ?_).symm
  rw [vw_some hx, hn]; simp
theorem UnR.get {T : Nat} {S1 S2 : SS} {j : Int} {n k : Nat} {pg : Bs} (h : UnR T S1 S2 j n pg k) (hk : k < n) : ∃ x, S2.all j = some x ∧ x.refs = (n : Int) - (k : Int) ∧ x.pg = pg ∧ ShI no0 T S2 := by
  rcases h with ⟨_, ⟨_, h1, h2⟩ | ⟨h1, _⟩⟩
  · obtain ⟨x, h3, h4, h5⟩ := vw_back (show vw S2 j = some ((n : Int) - (k : Int), pg) by rw [h2, up_self])
    exact ⟨x, h3, h4, h5, h1⟩
  · omega
theorem UnR.end {T : Nat} {S1 S2 : SS} {j : Int} {n k : Nat} {pg : Bs} (h : UnR T S1 S2 j n pg k) (hk : ¬ k < n) : ShI no0 (T + 1) S2 ∧ vw S2 = up (vw S1) j none := by
  rcases h with ⟨_, ⟨h1, _⟩ | ⟨_, h1⟩⟩
  · exact absurd h1 hk
  · exact h1
theorem UnR.dec {T : Nat} {S1 S2 : SS} {j : Int} {n k : Nat} {x : ShE} (h : UnR T S1 S2 j n x.pg k) (hx : S2.all j = some x) (hr : x.refs = (n : Int) - (k : Int)) (h1 : 1 < x.refs) (hI : ShI no0 T S2) : UnR T S1 { S2 with all := up S2.all j (some { x with refs := x.refs - 1 }) } j n x.pg (k + 1) := by
  have h2 := (hI.ent hx).2.2
  refine ⟨⟨h.1.frn, h.1.slo⟩, .inl ⟨by omega, hI.refs hx (by omega), ?_⟩⟩
  rcases h.2 with ⟨_, _, h3⟩ | ⟨h3, _⟩
  · rw [show vw { S2 with all := up S2.all j (some { x with refs := x.refs - 1 }) } = up (vw S2) j (some (x.refs - 1, x.pg)) from vw_up rfl, h3, up_up, hr]
    congr 3
    omega
  · omega
theorem UnR.del {T : Nat} {S1 S2 S3 : SS} {j : Int} {n k : Nat} {x : ShE} (h : UnR T S1 S2 j n x.pg k) (hr : x.refs = (n : Int) - (k : Int)) (h1 : x.refs = 1) (hD : DelS T S2 S3 j) : UnR T S1 S3 j n x.pg (k + 1) := by
  refine ⟨⟨hD.f.frn.trans h.1.frn, hD.f.slo.trans h.1.slo⟩, .inr ⟨by omega, hD.inv, ?_⟩⟩
  rcases h.2 with ⟨_, _, h3⟩ | ⟨h3, _⟩
  · rw [hD.is, h3, up_up]
  · omega
/-- the sheets of a list are gone, the others are as they were -/
structure GoneS (S S1 : SS) (l : List Int) : Prop where
  b : UnB S S1
  non : ∀ j ∈ l, vw S1 j = none
  same : ∀ j, j ∉ l → vw S1 j = vw S j
theorem GoneS.nil (S : SS) : GoneS S S [] := ⟨⟨rfl, rfl⟩, fun _ h => (by cases h), fun _ _ => rfl⟩
theorem GoneS.step {S S1 S2 : SS} {l : List Int} {j : Int} (h : GoneS S S1 l) (hb : UnB S1 S2) (hv : vw S2 = up (vw S1) j none) : GoneS S S2 (l ++ [j]) := by
  refine ⟨⟨hb.frn.trans h.b.frn, hb.slo.trans h.b.slo⟩, fun i hi => ?_, fun i hi => ?_⟩
  · by_cases q : i = j
    · subst q; rw [hv, up_self]
    · rw [hv, up_ne q]
      rcases List.mem_append.1 hi with hi | hi
      · exact h.non i hi
      · simp at hi; exact absurd hi q
  · rw [List.mem_append, List.mem_singleton] at hi
    rw [hv, up_ne (fun q => hi (.inr q)), h.same i fun q => hi (.inl q)]
theorem GoneS.all {S S1 : SS} {L : List Int} (h : GoneS S S1 L) (hL : LiveL S L) (j : Int) : S1.all j = none := by
  by_cases q : j ∈ L
  · exact vw_nil (h.non j q)
  · refine vw_nil ?_
    rw [h.same j q]
    cases hq : S.all j with
    | none => exact vw_none hq
    | some x => exact absurd ((hL.mem j).2 (by rw [hq]; simp)) q
theorem pg_at {S S3 : SS} {j : Int} (h : vw S3 j = vw S j) : shPg S3 j = shPg S j := by
  unfold vw at h
  unfold shPg
  cases h1 : S3.all j <;> cases h2 : S.all j <;> rw [h1, h2] at h <;> simp_all
theorem take_out {L : List Int} {i : Nat} {j : Int} (hn : L.Nodup) (hj : L[i]? = some j) : j ∉ L.take i := by
  intro q
  obtain ⟨k, hk⟩ := List.mem_iff_getElem?.1 q
  have hkl := (List.getElem?_eq_some_iff.1 hk).1
  rw [List.length_take] at hkl
  rw [List.getElem?_take_of_lt (by omega)] at hk
  obtain ⟨a, ha⟩ := List.getElem?_eq_some_iff.1 hj
  obtain ⟨b, hb⟩ := List.getElem?_eq_some_iff.1 hk
  exact absurd (hb.trans ha.symm) ((List.pairwise_iff_getElem.1 hn) k i b a (by omega))
theorem gone_used {T : Nat} {S : SS} (hI : ShI no0 T S) (h : ∀ j, S.all j = none) : usedF S.fr = 0 ∧ usedN S.sl = 0 := by
  constructor
  · unfold usedF
    rw [List.length_eq_zero_iff, List.filter_eq_nil_iff]
    intro o ho hs
    obtain ⟨k, hk⟩ := List.mem_iff_getElem?.1 ho
    cases o with
    | none => cases hs
    | some b =>
      have h1 : frAt S.fr (k : Int) = some b := by unfold frAt; rw [if_pos (by omega), Int.toNat_natCast, hk]
      have h2 := hI.fru h1
      cases hq : S.inn (k : Int) with
      | none => exact h2 hq
      | some id => obtain ⟨_, x, h3, _⟩ := (hI.frm _ _).1 hq; rw [h id] at h3; cases h3
  · unfold usedN
    rw [List.length_eq_zero_iff, List.filter_eq_nil_iff]
    intro p hp hs
    obtain ⟨k, hk⟩ := List.mem_iff_getElem?.1 hp
    obtain ⟨j, x, _, h3, _⟩ := hI.slu hk (by simpa using hs)
    rw [h j] at h3; cases h3
theorem new_used (count slots budget : Int) : usedF (newS count slots budget).fr = 0 ∧ usedN (newS count slots budget).sl = 0 := ⟨usedF_none _, usedN_zero _⟩
theorem lv_len {S : SS} {L L2 : List Int} (h : LiveL S L) (h2 : LiveL S L2) : L2.length = L.length := by
  have a := nodup_le h.nod fun x hx => (h2.mem x).2 ((h.mem x).1 hx)
  have b := nodup_le h2.nod fun x hx => (h.mem x).2 ((h2.mem x).1 hx)
  omega
theorem shrefs_u {w : World} {p : Nat} {S1 S2 : SS} {F : Th} (hS : Sat w [shT p S2, F]) {T : Nat} {j : Int} {n k : Nat} {pg : Bs} (hU : UnR T S1 S2 j n pg k) (hk : k < n) : Calls Tryz.prog 25 #[ptrV p 0, intV j] w (Ret fun v w' => v = intV ((n : Int) - (k : Int)) ∧ Sat w' [shT p S2, F]) := by
  obtain ⟨x, hx, hr, _⟩ := hU.get hk
  refine (shrefs_sp hS j).mono fun e w h => h.mono fun v w h => ?_
  rw [hx] at h
  dsimp only at h
  rw [hr] at h
  exact h
theorem shunref_u {w : World} {p : Nat} {S1 S2 : SS} {F : Th} (hS : Sat w [shT p S2, F]) {T : Nat} {j : Int} {n k : Nat} {pg : Bs} (hU : UnR T S1 S2 j n pg k) (hk : k < n) (hT : T ≤ 700000) : Calls Tryz.prog 26 #[ptrV p 0, intV j] w (Ret fun v w' => ∃ S3, v = intV 0 ∧ UnR T S1 S3 j n pg (k + 1) ∧ Sat w' [shT p S3, F]) := by
  obtain ⟨x, hx, hr, rfl, hI⟩ := hU.get hk
  refine (shunref_or hS hI (by omega) j).mono fun e w h => h.mono fun v w h => ?_
  rcases h with ⟨_, h, _⟩ | ⟨y, h1, h2, h3, h4⟩ | ⟨y, S3, h1, h2, h3, h4, h5⟩
  · rw [hx] at h; cases h
  · rw [hx] at h1; cases h1; exact ⟨_, h2, hU.dec hx hr h3 hI, h4⟩
  · rw [hx] at h1; cases h1; exact ⟨S3, h2, hU.del hr h3 h4, h5⟩
theorem shunref_n {w : World} {p : Nat} {S : SS} {F : Th} (hS : Sat w [shT p S, F]) {T : Nat} (hI : ShI no0 T S) {j : Int} (hj : S.all j = none) (h1 : 1 ≤ j) (hT : T ≤ 700000) : Calls Tryz.prog 26 #[ptrV p 0, intV j] w (Ret fun v w' => v = intV 4 ∧ Sat w' [shT p S, F]) := by
  refine (shunref_or hS hI (by omega) j).mono fun e w h => h.mono fun v w h => ?_
  rcases h with ⟨e, _, h2, h3, h4⟩ | ⟨y, h, _⟩ | ⟨y, _, h, _⟩
  · exact ⟨by rw [h2, h3 (by omega)], h4⟩
  · rw [hj] at h; cases h
  · rw [hj] at h; cases h
set_option maxRecDepth 100000 in
set_option maxHeartbeats 3200000 in
theorem gone_law {w : World} {F : Th} (hS : Sat w [F]) {lv : Value} {l : List OpD} (count slots budget : Int) (hL : Ent F (RdL opC lv l)) :
    Calls Tryz.prog 7 #[intV count, intV slots, intV budget, lv] w (Ret fun v w' => v = .bool true ∧ Sat w' [F]) := by
 obtain ⟨ao, cap, rfl, hmax⟩ := (hL.sat hS 0 rfl).shape
 refine calls_enter Tryz.func7 rfl Tryz.ntmps7 rfl ?_
 refine wc_seq (wc_region (wl_assign rfl rfl (wl_nil (qs_seq (wc_seq (wc_region ?_))))))
 have hC1 := hS.split [] [false] rfl; dsimp only [selF, pickA, nthA, List.cons_append, List.nil_append] at hC1
 refine wl_call cal_8 rfl (small_sp hC1) rfl ?_
 rintro e w1 ⟨_, rfl, rfl, hS1⟩; refine ⟨_, rfl, ?_⟩
 replace hS1 := hS1.join rfl; dsimp only [List.dropLast, List.cons_append, List.nil_append] at hS1; clear hC1
 refine wl_assign rfl rfl (wl_nil (qs_seq (wc_seq (wc_region (wl_move rfl rfl (wl_move rfl rfl (wl_move rfl rfl ?_)))))))
 have hC2 := hS1.split [] [false] rfl; dsimp only [selF, pickA, nthA, List.cons_append, List.nil_append] at hC2
 refine wl_call cal_9 rfl (shnew_sp hC2 count slots budget) rfl ?_
 rintro e w2 ⟨_, rfl, p, rfl, hS2⟩; refine ⟨_, rfl, ?_⟩
 replace hS2 := hS2.join rfl; dsimp only [List.dropLast, List.cons_append, List.nil_append] at hS2; clear hC2
 clear hS1
 refine wl_assign rfl rfl (wl_nil (qs_seq ?_))
 refine wc_sub (L' := [(10, _), (9, _), (8, _), (3, _)]) (.cons rfl (.cons rfl (.cons rfl (.cons rfl .nil)))) ?_
 refine wc_seq (wc_seq (wc_region (wl_move rfl rfl ?_)))
 have hC3 := hS2.split [] [false, false] rfl; dsimp only [selF, pickA, nthA, List.cons_append, List.nil_append] at hC3
 refine wl_call cal_10 rfl (few_sp hC3 (hL.starL 1 rfl) 60) rfl ?_
 rintro e w3 ⟨_, rfl, rfl, hS3⟩; refine ⟨_, rfl, ?_⟩
 replace hS3 := hS3.join rfl; dsimp only [List.dropLast, List.cons_append, List.nil_append] at hS3; clear hC3
 clear hS2
 refine wl_not rfl rfl ?_
 refine wl_move rfl rfl ?_
 refine wl_split 27 rfl (fun h4 => ?_) (fun h4 => ?_)
 ·refine wl_unwanted rfl rfl h4 rfl ?_
  refine wl_unwanted rfl rfl h4 rfl ?_
  refine wl_pickT rfl h4 rfl rfl ?_
  refine wl_nil (qs_seq ?_)
  refine wc_sub (L' := [(30, _), (10, _), (9, _), (8, _), (3, _)]) (.cons rfl (.cons rfl (.cons rfl (.cons rfl (.cons rfl .nil))))) ?_
  refine wc_condT rfl ?_
  refine wc_seq (wc_region (wl_move rfl rfl (wl_move rfl rfl ?_)))
  refine wl_split 32 rfl (fun h5 => ?_) (fun h5 => ?_)
  ·refine wl_guard rfl rfl h5 ?_
   refine wl_move rfl rfl ?_
   refine wl_guard rfl rfl h5 ?_
   refine wl_neqNil Tryz.underlying24 rfl rfl rfl ?_
   refine wl_pickT rfl h5 rfl rfl ?_
   refine wl_assign rfl rfl (wl_nil (qs_seq (wc_ret (qs_then_ret ?_))))
   refine fin1 (.inr rfl) rfl rfl ?_
   exact ⟨_, rfl, by first | rfl | simp [lv_len hL0 hL5], hS3.pick [1] rfl⟩
  exact absurd h5 (by simp)
 have hfew : fewB l 60 = true := by simpa using h4
 have hall := few_all hfew
 refine wl_guard rfl rfl h4 ?_
 refine wl_move rfl rfl ?_
 refine wl_guard rfl rfl h4 ?_
 refine wl_eqlNil Tryz.underlying24 rfl rfl rfl ?_
 refine wl_pickF rfl h4 rfl rfl ?_
 refine wl_nil (qs_seq ?_)
 refine wc_sub (L' := [(30, _), (10, _), (9, _), (8, _), (3, _)]) (.cons rfl (.cons rfl (.cons rfl (.cons rfl (.cons rfl .nil))))) ?_
 refine wc_condF rfl ?_
 refine wc_skip (qs_seq (wc_seq (wc_region (wl_move rfl rfl ?_))))
 have hC6 := hS3.split [0] [true, false] rfl; dsimp only [selF, pickA, nthA, List.cons_append, List.nil_append] at hC6
 refine wl_call cal_16 rfl (shroom_sp hC6 (newS_inv count slots budget)) rfl ?_
 rintro e w6 ⟨_, rfl, rfl, hS6⟩; refine ⟨_, rfl, ?_⟩
 replace hS6 := hS6.join rfl; dsimp only [List.dropLast, List.cons_append, List.nil_append] at hS6; clear hC6
 clear hS3
 rw [show ((newS count slots budget).fr.length : Int) - (usedF (newS count slots budget).fr : Int) + (newS count slots budget).slots - (usedN (newS count slots budget).sl : Int) = (((newS count slots budget).fr.length : Int) + (newS count slots budget).slots) by rw [(new_used count slots budget).1, (new_used count slots budget).2]; omega]
 refine wl_assign rfl rfl (wl_nil (qs_seq (wc_seq (wc_seq (wc_region (wl_assign rfl rfl (wl_nil (qs_seq (wc_block ?_)))))))))
 refine wc_loop (fun K0 E0 W0 => ∃ (i : Nat) (S : SS), K0 = l.length - i ∧ E0 = [(3, .slice ao l.length cap), (9, .bool true), (10, ptrV p 0), (11, intV (((newS count slots budget).fr.length : Int) + (newS count slots budget).slots)), (12, intV (i : Int))] ∧ Sat W0 [shT p S, F] ∧ (i ≤ l.length) ∧ (ShI no0 (301 * i) S) ∧ (DomV (vw S) i) ∧ (UnB (newS count slots budget) S)) (L0 := [(3, _), (9, _), (10, _), (11, _), (12, _)]) (l.length - 0) (.cons rfl (.cons rfl (.cons rfl (.cons rfl (.cons rfl .nil))))) ⟨0, _, rfl, rfl, hS6, by omega, newS_inv count slots budget, DomV.nil, ⟨rfl, rfl⟩⟩ ?_
 rintro _ _ w7 ⟨i, S, rfl, rfl, hS7, hi, hI, hdm, hub⟩
 refine wc_seq (wc_seq (wc_region (wl_move rfl rfl (wl_move rfl rfl ?_))))
 refine wl_lenL Tryz.underlying22 rfl rfl ?_
 refine wl_lss rfl rfl rfl ?_
 refine wl_nil (qs_seq ?_)
 refine wc_condD rfl (fun h8 => ?_) (fun h8 => ?_)
 ·obtain ⟨o, ho⟩ : ∃ o, l[i]? = some o := ⟨_, List.getElem?_eq_getElem (by omega)⟩
  obtain ⟨b, off, rfl, _⟩ := (hL.sat hS7 1 rfl).get ho
  have hil := (List.getElem?_eq_some_iff.1 ho).1
  have hoo := hall.1 i o ho
  refine wc_skip (qs_seq (wc_seq (wc_block (wc_region (wl_move rfl rfl (wl_move rfl rfl (wl_move rfl rfl ?_)))))))
  refine wl_indexAddr i rfl rfl (by first | rfl | omega) (by omega) es_22 rfl ?_
  refine wl_loadAt rfl ag_33 sz_33 (vs := opV o) ((hL.sat hS7 1 rfl).at_ ho) rfl ?_
  have hC9 := hS7.split [0] [true, false] rfl; dsimp only [selF, pickA, nthA, List.cons_append, List.nil_append] at hC9
  refine wl_call cal_11 rfl (do_sp hC9 hI (by omega) o hoo) rfl ?_
  rintro e w9 ⟨_, rfl, a, e, S2, rfl, hDo, hS9⟩; refine ⟨_, rfl, ?_⟩
  replace hS9 := hS9.join rfl; dsimp only [List.dropLast, List.cons_append, List.nil_append] at hS9; clear hC9
  clear hS7
  refine wl_nil (qs_block_normal (qs_seq ?_))
  refine wc_sub (L' := [(3, _), (9, _), (10, _), (11, _), (12, _)]) (.cons rfl (.cons rfl (.cons rfl (.cons rfl (.cons rfl .nil))))) ?_
  refine wc_region (wl_move rfl rfl ?_)
  refine wl_add rfl rfl (by omega) (by omega) rfl ?_
  refine wl_assign rfl rfl (wl_nil ?_)
  exact qs_round (L1 := [(3, _), (9, _), (10, _), (11, _), (12, intV ((i + 1 : Nat) : Int))]) (.cons rfl (.cons rfl (.cons rfl (.cons rfl (.cons rfl .nil))))) (k1 := l.length - (i + 1)) (by omega) ⟨i + 1, S2, rfl, rfl, hS9.pick [0, 1] rfl, by omega, by have := hDo.inv; rwa [show 301 * i + 301 = 301 * (i + 1) by omega] at this, hdm.step hDo.v, ⟨hDo.f.frn.trans hub.frn, hDo.f.slo.trans hub.slo⟩⟩
 refine wc_exit (qs_then_exit (qs_then_exit (qs_block_exit (qs_seq (wc_seq (wc_region (wl_move rfl rfl ?_)))))))
 have hC10 := hS7.split [0] [true, false] rfl; dsimp only [selF, pickA, nthA, List.cons_append, List.nil_append] at hC10
 refine wl_call cal_23 rfl (shcopy_sp hC10 hI (by omega)) rfl ?_
 rintro e w10 ⟨_, rfl, p2, rfl, hS10⟩; refine ⟨_, rfl, ?_⟩
 replace hS10 := hS10.join rfl; dsimp only [List.dropLast, List.cons_append, List.nil_append] at hS10; clear hC10
 clear hS7
 refine wl_assign rfl rfl (wl_nil (qs_seq ?_))
 refine wc_sub (L' := [(13, _), (9, _), (10, _), (11, _)]) (.cons rfl (.cons rfl (.cons rfl (.cons rfl .nil)))) ?_
 refine wc_seq (wc_region (wl_move rfl rfl ?_))
 have hC11 := hS10.split [1] [false, true, false] rfl; dsimp only [selF, pickA, nthA, List.cons_append, List.nil_append] at hC11
 refine wl_call cal_17 rfl (shliveL_sp hC11 hdm (by omega)) rfl ?_
 rintro e w11 ⟨_, rfl, L, hL0, hLn, hS11⟩; refine ⟨_, rfl, ?_⟩
 replace hS11 := hS11.join rfl; dsimp only [List.dropLast, List.cons_append, List.nil_append] at hS11; clear hC11
 clear hS10
 obtain ⟨la, lc, hlv, _⟩ := hS11.own_shape 0 rfl
 obtain rfl := hlv
 refine wl_assign rfl rfl (wl_nil (qs_seq (wc_seq (wc_seq (wc_region (wl_move rfl rfl ?_))))))
 refine wl_eqlNil Tryz.underlying24 rfl rfl rfl ?_
 refine wl_nil (qs_seq ?_)
 refine wc_condF rfl ?_
 refine wc_skip (qs_seq (wc_seq (wc_seq (wc_region (wl_assign rfl rfl (wl_nil (qs_seq (wc_block ?_))))))))
 have hq1 := hS11.pick [0, 2, 1, 3] rfl
 refine wc_loop (fun K0 E0 W0 => ∃ (k : Nat) (S1 : SS), K0 = L.length - k ∧ E0 = [(9, .bool true), (10, ptrV p 0), (11, intV (((newS count slots budget).fr.length : Int) + (newS count slots budget).slots)), (13, ptrV p2 0), (14, .slice la L.length lc), (15, intV (k : Int))] ∧ Sat W0 [rowT inC (.slice la L.length lc) L, shT p2 S, shT p S1, F] ∧ (k ≤ L.length) ∧ (ShI no0 (301 * i + k) S1) ∧ (GoneS S S1 (L.take k))) (L0 := [(9, _), (10, _), (11, _), (13, _), (14, _), (15, _)]) (L.length - 0) (.cons rfl (.cons rfl (.cons rfl (.cons rfl (.cons rfl (.cons rfl .nil)))))) ⟨0, _, rfl, rfl, hq1, by omega, hI, GoneS.nil S⟩ ?_
 rintro _ _ w12 ⟨k, S1, rfl, rfl, hS12, hk, hI1, hG⟩
 refine wc_seq (wc_seq (wc_region (wl_move rfl rfl (wl_move rfl rfl ?_))))
 first | refine wl_lenL Tryz.underlying28 rfl rfl ?_ | refine wl_lenO 0 hS12 Tryz.underlying28 rfl rfl rfl ?_
 refine wl_lss rfl rfl rfl ?_
 refine wl_nil (qs_seq ?_)
 refine wc_condD rfl (fun h13 => ?_) (fun h13 => ?_)
 ·obtain ⟨j, hj⟩ : ∃ x, L[k]? = some x := ⟨_, List.getElem?_eq_getElem (by omega)⟩
  obtain ⟨lb, lc9, hql, _⟩ := hS12.own_at 0 rfl (by omega); cases hql
  have hvj := hG.same j (take_out hL0.nod hj)
  obtain ⟨x0, hx0⟩ := Option.ne_none_iff_exists'.1 ((hL0.mem j).1 (List.mem_of_getElem? hj))
  obtain ⟨x, hx, _, _⟩ := vw_back (hvj.trans (vw_some hx0))
  have hxe := hI1.ent hx
  obtain ⟨n, hn⟩ : ∃ n : Nat, x.refs = (n : Int) := ⟨x.refs.toNat, by omega⟩
  refine wc_skip (qs_seq (wc_seq (wc_block (wc_seq (wc_region (wl_move rfl rfl (wl_move rfl rfl (wl_move rfl rfl ?_))))))))
  refine wl_rowIdx inC 0 k hS12 rfl rfl rfl (by first | rfl | omega) hj es_28 rfl ?_
  intro bx14 capx14 hvx14
  refine wl_rowLoad 0 k 0 hS12 rfl hvx14 rfl rfl hj ag_3 rfl rfl ?_
  have hC15 := hS12.split [2] [false, false, true, false] rfl; dsimp only [selF, pickA, nthA, List.cons_append, List.nil_append] at hC15
  refine wl_call cal_25 rfl (shrefs_sp hC15 j) rfl ?_
  rintro e w15 ⟨_, rfl, rfl, hS15⟩; refine ⟨_, rfl, ?_⟩
  replace hS15 := hS15.join rfl; dsimp only [List.dropLast, List.cons_append, List.nil_append] at hS15; clear hC15
  clear hS12
  rw [hx]
  dsimp only
  rw [hn]
  refine wl_assign rfl rfl (wl_nil (qs_seq ?_))
  refine wc_sub (L' := [(16, _), (9, _), (10, _), (11, _), (13, _), (14, _), (15, _)]) (.cons rfl (.cons rfl (.cons rfl (.cons rfl (.cons rfl (.cons rfl (.cons rfl .nil))))))) ?_
  refine wc_seq (wc_region (wl_move rfl rfl (wl_move rfl rfl (wl_move rfl rfl ?_))))
  refine wl_rowIdx inC 1 k hS15 rfl rfl rfl (by first | rfl | omega) hj es_28 rfl ?_
  intro bx16 capx16 hvx16
  refine wl_rowLoad 1 k 0 hS15 rfl hvx16 rfl rfl hj ag_3 rfl rfl ?_
  have hC17 := hS15.split [0] [true, false, false, false] rfl; dsimp only [selF, pickA, nthA, List.cons_append, List.nil_append] at hC17
  refine wl_call cal_21 rfl (shpage_sp hC17 hI1 j (fun q => q)) rfl ?_
  rintro e w17 ⟨_, rfl, rfl, hS17⟩; refine ⟨_, rfl, ?_⟩
  replace hS17 := hS17.join rfl; dsimp only [List.dropLast, List.cons_append, List.nil_append] at hS17; clear hC17
  clear hS15
  refine wl_assign rfl rfl (wl_nil (qs_seq ?_))
  refine wc_sub (L' := [(17, _), (16, _), (9, _), (10, _), (11, _), (13, _), (14, _), (15, _)]) (.cons rfl (.cons rfl (.cons rfl (.cons rfl (.cons rfl (.cons rfl (.cons rfl (.cons rfl .nil)))))))) ?_
  refine wc_seq (wc_seq (wc_region (wl_assign rfl rfl (wl_nil (qs_seq (wc_block ?_))))))
  have hq2 := hS17.pick [1, 2, 0, 3] rfl
  refine wc_loop (fun K0 E0 W0 => ∃ (m : Nat) (S2 : SS), K0 = n - m ∧ E0 = [(9, .bool true), (10, ptrV p 0), (11, intV (((newS count slots budget).fr.length : Int) + (newS count slots budget).slots)), (13, ptrV p2 0), (14, .slice (some ⟨lb, 0, none⟩) L.length lc), (15, intV (k : Int)), (16, intV (n : Int)), (17, strV (shPg S1 j)), (18, intV (m : Int))] ∧ Sat W0 [rowT inC (.slice (some ⟨lb, 0, none⟩) L.length lc) L, shT p2 S, shT p S2, F] ∧ (m ≤ n) ∧ (UnR (301 * i + k) S1 S2 j n x.pg m)) (L0 := [(9, _), (10, _), (11, _), (13, _), (14, _), (15, _), (16, _), (17, _), (18, _)]) (n - 0) (.cons rfl (.cons rfl (.cons rfl (.cons rfl (.cons rfl (.cons rfl (.cons rfl (.cons rfl (.cons rfl .nil))))))))) ⟨0, _, rfl, rfl, hq2, by omega, UnR.start hI1 hx hn⟩ ?_
  rintro _ _ w18 ⟨m, S2, rfl, rfl, hS18, hm, hU⟩
  refine wc_seq (wc_seq (wc_region (wl_move rfl rfl (wl_move rfl rfl ?_))))
  refine wl_lss rfl rfl rfl ?_
  refine wl_nil (qs_seq ?_)
  refine wc_condD rfl (fun h19 => ?_) (fun h19 => ?_)
  ·refine wc_skip (qs_seq ?_)
   refine wc_sub (L' := [(9, _), (10, _), (11, _), (13, _), (14, _), (15, _), (16, _), (17, _), (18, _)]) (.cons rfl (.cons rfl (.cons rfl (.cons rfl (.cons rfl (.cons rfl (.cons rfl (.cons rfl (.cons rfl .nil))))))))) ?_
   refine wc_seq (wc_block (wc_seq (wc_region (wl_move rfl rfl (wl_move rfl rfl (wl_move rfl rfl ?_))))))
   refine wl_rowIdx inC 0 k hS18 rfl rfl rfl (by first | rfl | omega) hj es_28 rfl ?_
   intro bx20 capx20 hvx20
   refine wl_rowLoad 0 k 0 hS18 rfl hvx20 rfl rfl hj ag_3 rfl rfl ?_
   have hC21 := hS18.split [2] [false, false, true, false] rfl; dsimp only [selF, pickA, nthA, List.cons_append, List.nil_append] at hC21
   refine wl_call cal_25 rfl (shrefs_u hC21 hU (by omega)) rfl ?_
   rintro e w21 ⟨_, rfl, rfl, hS21⟩; refine ⟨_, rfl, ?_⟩
   replace hS21 := hS21.join rfl; dsimp only [List.dropLast, List.cons_append, List.nil_append] at hS21; clear hC21
   clear hS18
   refine wl_move rfl rfl (wl_move rfl rfl ?_)
   refine wl_sub' rfl rfl (by omega) (by omega) rfl ?_
   refine wl_neq rfl rfl rfl ?_
   refine wl_move rfl rfl ?_
   refine wl_splitD 89 rfl (fun h22 => ?_) (fun h22 => ?_)
   ·exact absurd rfl h22
   refine wl_guard rfl rfl (decide_eq_false h22) ?_
   refine wl_move rfl rfl ?_
   refine wl_guard rfl rfl (decide_eq_false h22) ?_
   refine wl_move rfl rfl ?_
   refine wl_guard rfl rfl (decide_eq_false h22) ?_
   refine wl_move rfl rfl ?_
   refine wl_guard rfl rfl (decide_eq_false h22) ?_
   refine wl_rowIdx inC 1 k hS21 rfl rfl rfl (by first | rfl | omega) hj es_28 rfl ?_
   intro bx23 capx23 hvx23
   refine wl_guard rfl rfl (decide_eq_false h22) ?_
   refine wl_rowLoad 1 k 0 hS21 rfl hvx23 rfl rfl hj ag_3 rfl rfl ?_
   refine wl_guard rfl rfl (decide_eq_false h22) ?_
   have hC24 := hS21.split [0] [true, false, false, false] rfl; dsimp only [selF, pickA, nthA, List.cons_append, List.nil_append] at hC24
   refine wl_call cal_26 rfl (shunref_u hC24 hU (by omega) (by omega)) rfl ?_
   rintro e w24 ⟨_, rfl, S3, rfl, hU3, hS24⟩; refine ⟨_, rfl, ?_⟩
   replace hS24 := hS24.join rfl; dsimp only [List.dropLast, List.cons_append, List.nil_append] at hS24; clear hC24
   clear hS21
   refine wl_guard rfl rfl (decide_eq_false h22) ?_
   refine wl_neq rfl rfl rfl ?_
   refine wl_pickF rfl (decide_eq_false h22) rfl rfl ?_
   refine wl_nil (qs_seq ?_)
   refine wc_sub (L' := [(97, _), (9, _), (10, _), (11, _), (13, _), (14, _), (15, _), (16, _), (17, _), (18, _)]) (.cons rfl (.cons rfl (.cons rfl (.cons rfl (.cons rfl (.cons rfl (.cons rfl (.cons rfl (.cons rfl (.cons rfl .nil)))))))))) ?_
   refine wc_condD rfl (fun h25 => ?_) (fun h25 => ?_)
   ·exact absurd rfl h25
   refine wc_skip (qs_block_normal (qs_seq (wc_region (wl_move rfl rfl ?_))))
   refine wl_add rfl rfl (by omega) (by omega) rfl ?_
   refine wl_assign rfl rfl (wl_nil ?_)
   exact qs_round (L1 := [(9, _), (10, _), (11, _), (13, _), (14, _), (15, _), (16, _), (17, _), (18, intV ((m + 1 : Nat) : Int))]) (.cons rfl (.cons rfl (.cons rfl (.cons rfl (.cons rfl (.cons rfl (.cons rfl (.cons rfl (.cons rfl .nil))))))))) (k1 := n - (m + 1)) (by omega) ⟨m + 1, S3, rfl, rfl, hS24.pick [1, 2, 0, 3] rfl, by omega, hU3⟩
  refine wc_exit (qs_then_exit (qs_then_exit (qs_block_exit (qs_seq ?_))))
  refine wc_sub (L' := [(9, _), (10, _), (11, _), (13, _), (14, _), (15, _), (17, _)]) (.cons rfl (.cons rfl (.cons rfl (.cons rfl (.cons rfl (.cons rfl (.cons rfl .nil))))))) ?_
  refine wc_seq ?_
  obtain ⟨hI2, hV2⟩ := hU.end (by omega)
  rw [show 301 * i + k + 1 = 301 * i + (k + 1) by omega] at hI2
  have hnj : S2.all j = none := vw_nil (by rw [hV2, up_self])
  have hpj : shPg S2 j = [] := by unfold shPg; rw [hnj]; exact if_neg (by omega)
  have hpg1 := pg_at hvj
  refine wc_region (wl_move rfl rfl (wl_move rfl rfl (wl_move rfl rfl ?_)))
  refine wl_rowIdx inC 0 k hS18 rfl rfl rfl (by first | rfl | omega) hj es_28 rfl ?_
  intro bx26 capx26 hvx26
  refine wl_rowLoad 0 k 0 hS18 rfl hvx26 rfl rfl hj ag_3 rfl rfl ?_
  have hC27 := hS18.split [2] [false, false, true, false] rfl; dsimp only [selF, pickA, nthA, List.cons_append, List.nil_append] at hC27
  refine wl_call cal_21 rfl (shpage_sp hC27 hI2 j (fun q => q)) rfl ?_
  rintro e w27 ⟨_, rfl, rfl, hS27⟩; refine ⟨_, rfl, ?_⟩
  replace hS27 := hS27.join rfl; dsimp only [List.dropLast, List.cons_append, List.nil_append] at hS27; clear hC27
  clear hS18
  rw [hpj]
  refine wl_neqS rfl rfl rfl ?_
  refine wl_move rfl rfl ?_
  refine wl_splitD 105 rfl (fun h28 => ?_) (fun h28 => ?_)
  ·exact absurd rfl h28
  refine wl_guard rfl rfl (decide_eq_false h28) ?_
  refine wl_move rfl rfl ?_
  refine wl_guard rfl rfl (decide_eq_false h28) ?_
  refine wl_move rfl rfl ?_
  refine wl_guard rfl rfl (decide_eq_false h28) ?_
  refine wl_move rfl rfl ?_
  refine wl_guard rfl rfl (decide_eq_false h28) ?_
  refine wl_rowIdx inC 1 k hS27 rfl rfl rfl (by first | rfl | omega) hj es_28 rfl ?_
  intro bx29 capx29 hvx29
  refine wl_guard rfl rfl (decide_eq_false h28) ?_
  refine wl_rowLoad 1 k 0 hS27 rfl hvx29 rfl rfl hj ag_3 rfl rfl ?_
  refine wl_guard rfl rfl (decide_eq_false h28) ?_
  have hC30 := hS27.split [0] [true, false, false, false] rfl; dsimp only [selF, pickA, nthA, List.cons_append, List.nil_append] at hC30
  refine wl_call cal_26 rfl (shunref_n hC30 hI2 hnj hxe.1 (by omega)) rfl ?_
  rintro e w30 ⟨_, rfl, rfl, hS30⟩; refine ⟨_, rfl, ?_⟩
  replace hS30 := hS30.join rfl; dsimp only [List.dropLast, List.cons_append, List.nil_append] at hS30; clear hC30
  clear hS27
  refine wl_guard rfl rfl (decide_eq_false h28) ?_
  refine wl_neq rfl rfl rfl ?_
  refine wl_pickF rfl (decide_eq_false h28) rfl rfl ?_
  refine wl_move rfl rfl ?_
  refine wl_splitD 114 rfl (fun h31 => ?_) (fun h31 => ?_)
  ·exact absurd h31 (by simp_all)
  refine wl_guard rfl rfl (decide_eq_false h31) ?_
  refine wl_move rfl rfl ?_
  refine wl_guard rfl rfl (decide_eq_false h31) ?_
  refine wl_move rfl rfl ?_
  refine wl_guard rfl rfl (decide_eq_false h31) ?_
  refine wl_move rfl rfl ?_
  refine wl_guard rfl rfl (decide_eq_false h31) ?_
  refine wl_rowIdx inC 1 k hS30 rfl rfl rfl (by first | rfl | omega) hj es_28 rfl ?_
  intro bx32 capx32 hvx32
  refine wl_guard rfl rfl (decide_eq_false h31) ?_
  refine wl_rowLoad 1 k 0 hS30 rfl hvx32 rfl rfl hj ag_3 rfl rfl ?_
  refine wl_guard rfl rfl (decide_eq_false h31) ?_
  have hC33 := hS30.split [2] [false, false, true, false] rfl; dsimp only [selF, pickA, nthA, List.cons_append, List.nil_append] at hC33
  refine wl_call cal_21 rfl (shpage_sp hC33 hI j (fun q => q)) rfl ?_
  rintro e w33 ⟨_, rfl, rfl, hS33⟩; refine ⟨_, rfl, ?_⟩
  replace hS33 := hS33.join rfl; dsimp only [List.dropLast, List.cons_append, List.nil_append] at hS33; clear hC33
  clear hS30
  rw [← hpg1]
  refine wl_guard rfl rfl (decide_eq_false h31) ?_
  refine wl_move rfl rfl ?_
  refine wl_guard rfl rfl (decide_eq_false h31) ?_
  refine wl_neqS rfl rfl rfl ?_
  refine wl_pickF rfl (decide_eq_false h31) rfl rfl ?_
  refine wl_nil (qs_seq ?_)
  refine wc_sub (L' := [(123, _), (9, _), (10, _), (11, _), (13, _), (14, _), (15, _)]) (.cons rfl (.cons rfl (.cons rfl (.cons rfl (.cons rfl (.cons rfl (.cons rfl .nil))))))) ?_
  refine wc_condD rfl (fun h34 => ?_) (fun h34 => ?_)
  ·exact absurd rfl h34
  refine wc_skip (qs_block_normal (qs_seq (wc_region (wl_move rfl rfl ?_))))
  refine wl_add rfl rfl (by omega) (by omega) rfl ?_
  refine wl_assign rfl rfl (wl_nil ?_)
  exact qs_round (L1 := [(9, _), (10, _), (11, _), (13, _), (14, _), (15, intV ((k + 1 : Nat) : Int))]) (.cons rfl (.cons rfl (.cons rfl (.cons rfl (.cons rfl (.cons rfl .nil)))))) (k1 := L.length - (k + 1)) (by omega) ⟨k + 1, S2, rfl, rfl, hS33.pick [2, 0, 1, 3] rfl, by omega, hI2, by rw [List.take_add_one, hj]; exact hG.step hU.1 hV2⟩
 refine wc_exit (qs_then_exit (qs_then_exit (qs_block_exit (qs_seq (wc_seq ?_)))))
 rw [show k = L.length by omega, List.take_length] at hG
 have hno := hG.all hL0
 have hus := gone_used hI1 hno
 have hrm : (S1.fr.length : Int) - (usedF S1.fr : Int) + S1.slots - (usedN S1.sl : Int) = (((newS count slots budget).fr.length : Int) + (newS count slots budget).slots) := by rw [hus.1, hus.2, hG.b.frn, hG.b.slo, hub.frn, hub.slo]; omega
 refine wc_region (wl_move rfl rfl (wl_move rfl rfl ?_))
 refine wl_split 125 rfl (fun h35 => ?_) (fun h35 => ?_)
 ·refine wl_guard rfl rfl h35 ?_
  refine wl_move rfl rfl ?_
  refine wl_guard rfl rfl h35 ?_
  have hC36 := hS12.split [2] [false, false, true, false] rfl; dsimp only [selF, pickA, nthA, List.cons_append, List.nil_append] at hC36
  refine wl_call cal_16 rfl (shroom_sp hC36 hI1) rfl ?_
  rintro e w36 ⟨_, rfl, rfl, hS36⟩; refine ⟨_, rfl, ?_⟩
  replace hS36 := hS36.join rfl; dsimp only [List.dropLast, List.cons_append, List.nil_append] at hS36; clear hC36
  clear hS12
  rw [hrm]
  refine wl_guard rfl rfl h35 ?_
  refine wl_move rfl rfl ?_
  refine wl_guard rfl rfl h35 ?_
  refine wl_eql rfl rfl rfl ?_
  refine wl_pickT rfl h35 rfl rfl ?_
  refine wl_move rfl rfl ?_
  refine wl_splitD 131 rfl (fun h37 => ?_) (fun h37 => ?_)
  ·refine wl_guard rfl rfl (decide_eq_true h37) ?_
   refine wl_move rfl rfl ?_
   refine wl_guard rfl rfl (decide_eq_true h37) ?_
   have hC38 := hS36.split [0] [true, false, false, false] rfl; dsimp only [selF, pickA, nthA, List.cons_append, List.nil_append] at hC38
   refine wl_call cal_17 rfl (shliveL_sp hC38 (n := 0) ⟨[], Nat.le_refl _, fun j q => absurd (vw_none (hno j)) q⟩ (by omega)) rfl ?_
   rintro e w38 ⟨_, rfl, L4, hL4, hL4n, hS38⟩; refine ⟨_, rfl, ?_⟩
   replace hS38 := hS38.join rfl; dsimp only [List.dropLast, List.cons_append, List.nil_append] at hS38; clear hC38
   clear hS36
   obtain ⟨hL4a, hL4c, hL4v, _⟩ := hS38.own_shape 0 rfl
   obtain rfl := hL4v
   refine wl_guard rfl rfl (decide_eq_true h37) ?_
   first | refine wl_lenL Tryz.underlying28 rfl rfl ?_ | refine wl_lenO 0 hS38 Tryz.underlying28 rfl rfl rfl ?_ | refine wl_lenO 2 hS38 Tryz.underlying28 rfl rfl rfl ?_
   refine wl_guard rfl rfl (decide_eq_true h37) ?_
   refine wl_eql rfl rfl rfl ?_
   refine wl_pickT rfl (decide_eq_true h37) rfl rfl ?_
   refine wl_move rfl rfl ?_
   refine wl_splitD 137 rfl (fun h39 => ?_) (fun h39 => ?_)
   ·refine wl_guard rfl rfl (decide_eq_true h39) ?_
    refine wl_move rfl rfl ?_
    refine wl_guard rfl rfl (decide_eq_true h39) ?_
    have hC40 := hS38.split [3] [false, false, false, true, false] rfl; dsimp only [selF, pickA, nthA, List.cons_append, List.nil_append] at hC40
    refine wl_call cal_17 rfl (shliveL_sp hC40 hdm (by omega)) rfl ?_
    rintro e w40 ⟨_, rfl, L5, hL5, hL5n, hS40⟩; refine ⟨_, rfl, ?_⟩
    replace hS40 := hS40.join rfl; dsimp only [List.dropLast, List.cons_append, List.nil_append] at hS40; clear hC40
    clear hS38
    obtain ⟨hL5a, hL5c, hL5v, _⟩ := hS40.own_shape 0 rfl
    obtain rfl := hL5v
    refine wl_guard rfl rfl (decide_eq_true h39) ?_
    first | refine wl_lenL Tryz.underlying28 rfl rfl ?_ | refine wl_lenO 0 hS40 Tryz.underlying28 rfl rfl rfl ?_ | refine wl_lenO 2 hS40 Tryz.underlying28 rfl rfl rfl ?_ | refine wl_lenO 4 hS40 Tryz.underlying28 rfl rfl rfl ?_
    refine wl_guard rfl rfl (decide_eq_true h39) ?_
    refine wl_move rfl rfl ?_
    refine wl_guard rfl rfl (decide_eq_true h39) ?_
    first | refine wl_lenL Tryz.underlying28 rfl rfl ?_ | refine wl_lenO 0 hS40 Tryz.underlying28 rfl rfl rfl ?_ | refine wl_lenO 2 hS40 Tryz.underlying28 rfl rfl rfl ?_ | refine wl_lenO 4 hS40 Tryz.underlying28 rfl rfl rfl ?_
    refine wl_guard rfl rfl (decide_eq_true h39) ?_
    refine wl_eql rfl rfl rfl ?_
    refine wl_pickT rfl (decide_eq_true h39) rfl rfl ?_
    refine wl_assign rfl rfl (wl_nil (qs_seq ?_))
    refine wc_sub (L' := [(8, _)]) (.cons rfl .nil) ?_
    refine wc_ret ?_
    refine fin1 (.inr rfl) rfl rfl ?_
    exact ⟨_, rfl, by first | rfl | simp [lv_len hL0 hL5], hS40.pick [5] rfl⟩
   exact absurd (by omega) h39
  exact absurd rfl h37
 exact absurd h35 (by simp)
end Go.Proofs.YtnicmcdeoimhlaaGreat
/- laws of sheets: SheetsPlaces -/
namespace Go.Proofs.YtnicmcdeoimhlaaGreat
open Go.RowKit M
set_option linter.unusedVariables false
end Go.Proofs.YtnicmcdeoimhlaaGreat
/- How the arguments of a law read: a relation between cells and plain data for each type, built by shape; and the step from a law's contract to its row. -/
namespace Go.Proofs.YtnicmcdeoimhlaaGreat.M
open Go.ChangeShapes Go.WideShapes Go.ChangeAt Go.RowKit Go.Deep
/-- the cells cs lie at ⟨b, off⟩ -/
def At (w : World) (b off : Nat) (cs : List Value) : Prop := ∀ j v, cs[j]? = some v → w.cell? ⟨b, off + j, none⟩ = some v
theorem At.cell {w : World} {b off : Nat} {cs : List Value} (h : At w b off cs) (j : Nat) {v : Value} (hv : cs[j]? = some v) : w.cell? ⟨b, off + j, none⟩ = some v := h j v hv
theorem At.below {B : Nat} {w w' : World} {b off : Nat} {cs : List Value} (h : At w b off cs) (hb : Below B w w') (hB : b < B) : At w' b off cs :=
  fun j v hv => (hb.cell (p := ⟨b, off + j, none⟩) hB).trans (h j v hv)
/-- a type, read as α -/
structure Cod (P : Program) (t : TypeId) (α : Type) where
  rd : World → List Value → α → Prop
  size : Nat
  cells : P.cellsOf t = size
  down : ∀ {H : Type} {enc : TypeId × Value → H} {w : World} {base : Nat} {spare : Nat → Bool} {held : Bool} {fuel : Nat} {cs : List Value} {x : DataW H × List MemPlace},
    DataW.trod enc P w base spare held fuel t cs = some x → ∃ a, rd w cs a
  len : ∀ {w cs a}, rd w cs a → cs.length = size
  keep : ∀ {w w' cs a}, Below w.heap.size w w' → rd w cs a → rd w' cs a
section
variable {P : Program}
def Cod.int {t : TypeId} (k : IntKind) (ht : P.underlying t = some (.int k)) (hc : P.cellsOf t = 1) : Cod P t Int where
  rd := fun _ cs n => cs = [.int k n] ∧ (Lit.int k n).wf = true
  size := 1
  cells := hc
  down := fun h => by
    obtain ⟨n, h1, _, h2⟩ := DataW.trod_int ht h
    exact ⟨n, h1, h2⟩
  len := fun h => by rw [h.1]; rfl
  keep := fun _ h => h
def Cod.byte {t : TypeId} (ht : P.underlying t = some (.int .u8)) (hc : P.cellsOf t = 1) : Cod P t UInt8 where
  rd := fun _ cs n => cs = [.int .u8 (n.toNat : Int)]
  size := 1
  cells := hc
  down := fun h => by
    obtain ⟨n, h1, _, h2⟩ := DataW.trod_int ht h
    have hb := bounds_u8 h2
    refine ⟨UInt8.ofNat n.toNat, ?_⟩
    have e : ((UInt8.ofNat n.toNat).toNat : Int) = n := by simp; omega
    rw [e]; exact h1
  len := fun h => by rw [h]; rfl
  keep := fun _ h => h
def Cod.bool {t : TypeId} (ht : P.underlying t = some .bool) (hc : P.cellsOf t = 1) : Cod P t Bool where
  rd := fun _ cs n => cs = [.bool n]
  size := 1
  cells := hc
  down := fun h => by
    obtain ⟨n, h1, _⟩ := DataW.trod_bool ht h
    exact ⟨n, h1⟩
  len := fun h => by rw [h]; rfl
  keep := fun _ h => h
def Cod.string {t : TypeId} (ht : P.underlying t = some .string) (hc : P.cellsOf t = 1) : Cod P t ByteArray where
  rd := fun _ cs s => cs = [.string s] ∧ s.size ≤ 9223372036854775807
  size := 1
  cells := hc
  down := fun h => by
    obtain ⟨n, h1, _, h2⟩ := DataW.trod_string ht h
    exact ⟨n, h1, h2⟩
  len := fun h => by rw [h.1]; rfl
  keep := fun _ h => h
/-- a slice's value v reads as l: each element's cells lie in its place -/
def SliceRd {α : Type} (rd : World → List Value → α → Prop) (size : Nat) (w : World) (v : Value) (l : List α) : Prop :=
  ∃ ao cap, v = .slice ao l.length cap ∧ l.length ≤ cap ∧ cap ≤ 9223372036854775807 ∧ ∀ (i : Nat) (a : α), l[i]? = some a → ∃ b off cs, ao = some ⟨b, off, none⟩ ∧ b < w.heap.size ∧ At w b (off + i * size) cs ∧ rd w cs a
def Cod.slice {t e : TypeId} {α : Type} [Inhabited α] (ht : P.underlying t = some (.slice e)) (hc : P.cellsOf t = 1) (c : Cod P e α) (hpos : 0 < c.size) : Cod P t (List α) where
  rd := fun w cs l => ∃ v, cs = [v] ∧ SliceRd c.rd c.size w v l
  size := 1
  cells := hc
  down := fun {H enc w base spare held fuel cs x} h => by
    rcases open_slice ht h with ⟨rfl, _⟩ | ⟨a, len, cap, m, n, D, Pl, rfl, hb, hl, hm, hmm, _, hx⟩
    · exact ⟨[], _, rfl, none, 0, rfl, Nat.le_refl _, by omega, fun i a hi => by simp at hi⟩
    · have hlm : len ≤ m := by rw [hmm]; split <;> omega
      have hex : ∀ i, i < len → ∃ y : α, ∃ cs', c.rd w cs' y ∧ (∀ j v, cs'[j]? = some v → w.cell? (a.add (i * c.size + j)) = some v) := by
        intro i hi
        obtain ⟨cs', h1, h2⟩ := hx i (by omega)
        obtain ⟨y, hy⟩ := c.down h2
        obtain ⟨_, hlen, hat⟩ := World.cells?_some h1
        refine ⟨y, cs', hy, fun j v hv => ?_⟩
        have hj : j < cs'.length := (List.getElem?_eq_some_iff.1 hv).1
        rw [c.cells] at hlen hat
        rw [← Go.Deep.add_add, hat j (by omega), hv]
      obtain ⟨f, hf⟩ := choose_lt hex
      refine ⟨(List.range len).map f, _, rfl, some a, cap, by simp, by simpa using hl, hm, fun i y hi => ?_⟩
      have hil : i < len := by have := (List.getElem?_eq_some_iff.1 hi).1; simpa using this
      simp [hil] at hi
      subst hi
      obtain ⟨cs', hrd, hat⟩ := hf i hil
      have hcl := c.len hrd
      obtain ⟨b, off, spot⟩ := a
      have h0 := hat 0 cs'[0] (List.getElem?_eq_getElem (by omega))
      have hspot : spot = none := by
        have := World.cell?_spot h0
        unfold Addr.add at this
        split at this
        · exact this
        · obtain ⟨i0, hi0⟩ : ∃ i0, i0 < len ∧ i0 = 0 := ⟨0, by omega, rfl⟩
          obtain ⟨hi1, rfl⟩ := hi0
          obtain ⟨cs0, hrd0, hat0⟩ := hf 0 hi1
          have hcl0 := c.len hrd0
          have h00 := hat0 0 cs0[0] (List.getElem?_eq_getElem (by omega))
          have := World.cell?_spot h00
          simpa [Addr.add] using this
      subst hspot
      refine ⟨b, off, cs', rfl, ?_, fun j v hv => ?_, hrd⟩
      · have := block_lt_of_cell h0
        rw [addr_add] at this
        exact this
      · have := hat j v hv
        rw [addr_add] at this
        rw [Nat.add_assoc]; exact this
  len := fun ⟨v, h, _⟩ => by rw [h]; rfl
  keep := fun {w w' cs l} hb ⟨v, h1, ao, cap, h2, h3, h4, h5⟩ => ⟨v, h1, ao, cap, h2, h3, h4, fun i a hi => by
    obtain ⟨b, off, cs', e1, e2, e3, e4⟩ := h5 i a hi
    exact ⟨b, off, cs', e1, Nat.lt_of_lt_of_le e2 hb.size, e3.below hb e2, c.keep hb e4⟩⟩
/-- fields one behind the other -/
structure Flds (P : Program) (fs : List Field) (off : Nat) (α : Type) where
  rd : World → List Value → α → Prop
  size : Nat
  down : ∀ {H : Type} {enc : TypeId × Value → H} {w : World} {base : Nat} {spare : Nat → Bool} {held : Bool} {n : Nat} {cs : List Value} {xs : List (DataW H × List MemPlace)},
    (∀ (i : Nat) (f : Field), fs[i]? = some f → ∃ x, DataW.trod enc P w base spare held n f.type ((cs.drop f.offset).take (P.cellsOf f.type)) = some x) → ∃ a, rd w ((cs.drop off).take size) a
  len : ∀ {w cs a}, rd w cs a → cs.length = size
  keep : ∀ {w w' cs a}, Below w.heap.size w w' → rd w cs a → rd w' cs a
def Flds.nil (off : Nat) : Flds P [] off Unit where
  rd := fun _ cs _ => cs = []
  size := 0
  down := fun _ => ⟨(), by simp⟩
  len := fun h => by rw [h]; rfl
  keep := fun _ h => h
def Flds.cons {f : Field} {fs : List Field} {off : Nat} {α β : Type} (c : Cod P f.type α) (ho : f.offset = off) (r : Flds P fs (off + c.size) β) : Flds P (f :: fs) off (α × β) where
  rd := fun w cs a => ∃ cs1 cs2, cs = cs1 ++ cs2 ∧ c.rd w cs1 a.1 ∧ r.rd w cs2 a.2
  size := c.size + r.size
  down := fun {H enc w base spare held n cs xs} h => by
    obtain ⟨x, hx⟩ := h 0 f rfl
    rw [ho, c.cells] at hx
    obtain ⟨a, ha⟩ := c.down hx
    obtain ⟨b, hb⟩ := r.down (xs := xs) (fun i g hg => h (i + 1) g (by simpa using hg))
    refine ⟨(a, b), _, _, ?_, ha, hb⟩
    rw [← List.drop_drop]
    exact List.take_add ..
  len := fun ⟨cs1, cs2, h, h1, h2⟩ => by rw [h, List.length_append, c.len h1, r.len h2]
  keep := fun hb ⟨cs1, cs2, h, h1, h2⟩ => ⟨cs1, cs2, h, c.keep hb h1, r.keep hb h2⟩
def Cod.struct {t : TypeId} {fs : List Field} {α : Type} (ht : P.underlying t = some (.struct fs.toArray)) (r : Flds P fs 0 α) (hc : P.cellsOf t = r.size) : Cod P t α where
  rd := r.rd
  size := r.size
  cells := hc
  down := fun {H enc w base spare held fuel cs x} h => by
    obtain ⟨xs, n, _, _, hl, hxl, hf⟩ := DataW.trod_struct ht h
    obtain ⟨a, ha⟩ := r.down (xs := xs) (n := n) (enc := enc) (w := w) (base := base) (spare := spare) (held := held) (cs := cs) (fun i f hi => by
      have h1 := hf i f (by simpa using hi)
      have hil := (List.getElem?_eq_some_iff.1 hi).1
      rw [h1, List.getElem?_eq_getElem (by rw [hxl]; simpa using hil)]
      exact ⟨_, rfl⟩)
    refine ⟨a, ?_⟩
    rw [List.drop_zero, List.take_of_length_le (by omega)] at ha
    exact ha
  len := r.len
  keep := r.keep
/-- as another type -/
def Cod.map {t : TypeId} {α β : Type} (c : Cod P t α) (f : α → β) : Cod P t β where
  rd := fun w cs b => ∃ a, b = f a ∧ c.rd w cs a
  size := c.size
  cells := c.cells
  down := fun h => by obtain ⟨a, ha⟩ := c.down h; exact ⟨f a, a, rfl, ha⟩
  len := fun ⟨a, _, h⟩ => c.len h
  keep := fun hb ⟨a, e, h⟩ => ⟨a, e, c.keep hb h⟩
/-- the arguments are all read again behind a call that has changed nothing that was there -/
theorem trodAll_stays {H : Type} {enc : TypeId × Value → H} (hl : laidOutB P = true) {W W' : World} (hb : Below W.heap.size W W') :
    ∀ (ts : List TypeId) (vs : List Value) (ds : List (DataW H)) (ps : List MemPlace), (∀ t ∈ ts, P.readableRec t = true ∧ t < P.types.size) →
      DataW.TrodAll enc P W 0 (fun _ => true) true ts vs ds ps → DataW.TrodAll enc P W' 0 (fun b => decide (b < W.heap.size)) true ts vs ds ps
  | [], vs, ds, ps, _, h => by
    obtain ⟨rfl, rfl, rfl⟩ := trodAll_nil h
    exact rfl
  | t :: ts, vs, ds, ps, hr, h => by
    obtain ⟨v, vs', d, ds', p, q, rfl, rfl, rfl, h0, h1⟩ := trodAll_cons h
    have lt0 : ∀ x ∈ p, x.block < W.heap.size := by obtain ⟨m, hm⟩ := h0; exact DataW.trod_lt m _ _ _ hm
    obtain ⟨r1, r2⟩ := hr t (by simp)
    exact trodAll_cons_mk (Below.trod hl r1 r2 h0 hb lt0) (trodAll_stays hl hb ts vs' ds' q (fun t ht => hr t (by simp [ht])) h1)
end
end Go.Proofs.YtnicmcdeoimhlaaGreat.M
/- laws of sheets: how the arguments read -/
namespace Go.Proofs.YtnicmcdeoimhlaaGreat
open Go.RowKit M
set_option linter.unusedVariables false
instance : Inhabited OpD := ⟨⟨0, 0, 0, 0, []⟩⟩
def intC : Cod Tryz.prog 3 Int := Cod.int .i64 Tryz.underlying3 (by kernel_rfl)
def strCd : Cod Tryz.prog 9 ByteArray := Cod.string Tryz.underlying9 (by kernel_rfl)
def opCod : Cod Tryz.prog 33 (Int × Int × Int × Int × ByteArray × Unit) :=
  Cod.struct (P := Tryz.prog) Tryz.underlying33
    (Flds.cons intC rfl (Flds.cons intC rfl (Flds.cons intC rfl (Flds.cons intC rfl (Flds.cons strCd rfl (Flds.nil _)))))) (by kernel_rfl)
theorem ops_of {W : World} {v : Value} {l : List (Int × Int × Int × Int × ByteArray × Unit)} (h : SliceRd opCod.rd opCod.size W v l) : ∃ l' : List OpD, ∀ w, Below W.heap.size W w → RdL opC v l' w := by
  obtain ⟨ao, cap, h1, h2, h3, h4⟩ := h
  have hex : ∀ i, i < l.length → ∃ a : OpD, ∀ w, Below W.heap.size W w → ∃ b off, ao = some ⟨b, off, none⟩ ∧ ∀ (j : Nat) (u : Value), (opV a)[j]? = some u → w.cell? ⟨b, off + i * 5 + j, none⟩ = some u := by
    intro i hi
    obtain ⟨b, off, cs, e1, e2, e3, e4⟩ := h4 i l[i] (List.getElem?_eq_getElem hi)
    obtain ⟨c1, cs1, rfl, ⟨rfl, _⟩, c2, cs2, rfl, ⟨rfl, _⟩, c3, cs3, rfl, ⟨rfl, _⟩, c4, cs4, rfl, ⟨rfl, _⟩, c5, cs5, rfl, ⟨rfl, _⟩, rfl⟩ := e4
    refine ⟨⟨l[i].1, l[i].2.1, l[i].2.2.1, l[i].2.2.2.1, l[i].2.2.2.2.1.data.toList⟩, fun w hb => ⟨b, off, e1, fun j u hu => ?_⟩⟩
    refine (hb.cell (p := ⟨b, off + i * 5 + j, none⟩) e2).trans (e3 j u ?_)
    simpa [opV] using hu
  obtain ⟨f, hf⟩ := Go.Deep.choose_lt (n := l.length) hex
  refine ⟨(List.range l.length).map f, fun w hb => ⟨ao, cap, by simpa using h1, by simp; omega, fun i a hi => ?_⟩⟩
  have hil : i < l.length := by have := (List.getElem?_eq_some_iff.1 hi).1; simpa using this
  simp [hil] at hi
  subst hi
  exact hf i hil w hb
theorem below_of {W w : World} (h : Sat w [frameT W]) : Below W.heap.size W w := h.below 0 rfl
theorem gone_row {W : World} {v0 : Value} {l0 : List (Int × Int × Int × Int × ByteArray × Unit)} {a b c : Int} (h0 : SliceRd opCod.rd opCod.size W v0 l0) :
    Calls Tryz.prog 7 #[.int .i64 a, .int .i64 b, .int .i64 c, v0] W fun e W' => e = .returned (.bool true) ∧ Below W.heap.size W W' := by
  obtain ⟨a0, h0⟩ := ops_of h0
  exact (gone_law (Sat.start W) a b c (Ent.frame h0)).mono fun e W' ⟨v, h4, h5, h6⟩ => ⟨by rw [h4, h5], below_of h6⟩
end Go.Proofs.YtnicmcdeoimhlaaGreat
