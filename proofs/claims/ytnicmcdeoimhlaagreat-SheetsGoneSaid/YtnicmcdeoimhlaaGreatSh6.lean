/- sheets: pack -/
import Derived.Test.YtnicmcdeoimhlaaGreatSh5
import Derived.Test.YtnicmcdeoimhlaaGreatRow
namespace Go.Proofs.YtnicmcdeoimhlaaGreat
open Go.RowKit M
set_option linter.unusedVariables false
/-- sheets were moved from the cache to slots; E: those that lie nowhere -/
structure PkS (E : Int → Prop) (S S1 : SS) : Prop where
  go : ShG S S1
  inn : S1.inn = S.inn
  fr : S1.fr = S.fr
  ck : S1.ck = S.ck
  tak : S1.taken = S.taken
  one : ∀ j x, S.all j = some x → x.place = 1 ∨ E j → S1.all j = some x
theorem PkS.refl (E : Int → Prop) (S : SS) : PkS E S S := ⟨ShG.refl S, rfl, rfl, rfl, rfl, fun _ _ h _ => h⟩
theorem pack_step {E : Int → Prop} {T : Nat} {S0 S : SS} {j : Int} {c : List Int} {x : ShE} {k : Nat} (h : ShI E T S) (hp : PkS E S0 S) (hc : S.cache = j :: c) (hx : S.all j = some x) (hk : S.sl[k]? = some []) :
    ShI E T { S with all := up S.all j (some ⟨x.refs, 3, (k : Nat), x.pg⟩), sl := S.sl.set k x.pg, cache := c } ∧ PkS E S0 { S with all := up S.all j (some ⟨x.refs, 3, (k : Nat), x.pg⟩), sl := S.sl.set k x.pg, cache := c } := by
  obtain ⟨hje, x', hx', hpl⟩ := h.cch (j := j) (by rw [hc]; simp)
  obtain rfl : x = x' := by rw [hx] at hx'; cases hx'; rfl
  have hjc : j ∉ c := by have := h.nod; rw [hc] at this; exact (List.nodup_cons.1 this).1
  have h1 := h.offCache hx hpl (c := c) (by rw [hc]; exact List.sublist_cons_self j c) (fun i => by
    rw [hc]
    constructor
    · intro hi; exact ⟨List.mem_cons_of_mem _ hi, fun q => hjc (q ▸ hi)⟩
    · rintro ⟨hi, hne⟩; exact (List.mem_cons.1 hi).resolve_left hne)
  have h2 := ShI.onSlot (S := { S with cache := c }) (x := x) h1 (.inr rfl) hx hk
  refine ⟨h2.congr fun i _ => ⟨fun ⟨a, b⟩ => a.resolve_right b, fun a => ⟨.inl a, fun q => hje (q ▸ a)⟩⟩, ?_⟩
  refine ⟨hp.go.trans ⟨fun i => ?_, ⟨[], by simp, fun i y hy hp1 => .inr ⟨y, ?_, hp1, rfl⟩⟩, rfl, rfl, rfl, rfl⟩, hp.inn, hp.fr, hp.ck, hp.tak, fun i y hy hpy => ?_⟩
  · show ((up S.all j _) i).map _ = _
    by_cases q : i = j
    · subst q; rw [up_self, hx]; rfl
    · rw [up_ne q]
  · show (up S.all j _) i = _
    rw [up_ne (fun q => by subst q; rw [hx] at hy; cases hy; omega)]; exact hy
  · show (up S.all j _) i = _
    have h3 := hp.one i y hy hpy
    rw [up_ne (fun q => by
      subst q
      rcases hpy with hpy | hpy
      · rw [hx] at h3; cases h3; omega
      · exact hje hpy)]; exact h3
/-- what evicting leaves -/
structure EvS (E : Int → Prop) (T : Nat) (f : Int) (S S' : SS) : Prop where
  inv : ShI E (T + 1) S'
  go : ShG S S'
  fr : S'.fr = S.fr.set f.toNat none
  lim : ∀ j x, S.all j = some x → E j → S'.all j = some x
theorem evict_pack {E : Int → Prop} {T : Nat} {S S1 : SS} {id f : Int} {x : ShE} (h0 : ShI E T S) (h : ShI E T S1) (hp : PkS E S S1) (hE : ¬ E id) (hx : S.all id = some x) (hpl : x.place = 1) (hat : x.at_ = f) (hpk : packM x.pg ≠ none) (hs : (sumF S1.all S1.cache + (fm x.pg).length : Int) ≤ S1.budget) :
    EvS E T f S (offFrame { S1 with all := up S1.all id (some ⟨x.refs, 2, 0, x.pg⟩), cache := S1.cache ++ [id] } f) := by
  have hx1 := hp.one id x hx (.inl hpl)
  have h1 := h.offFrame hE hx1 hpl hat
  have h2 := ShI.onCache (S := offFrame S1 f) (x := x) h1 (.inr rfl) hx1 hpk hs (by have := h.cln; show S1.cache.length + 1 ≤ _; omega) 0
  refine ⟨h2.congr fun i _ => ⟨fun ⟨a, b⟩ => a.resolve_right b, fun a => ⟨.inl a, fun q => hE (q ▸ a)⟩⟩, hp.go.trans ⟨fun i => ?_, ⟨[f], rfl, fun i y hy hp1 => ?_⟩, rfl, rfl, by show (S1.fr.set _ _).length = _; rw [List.length_set], rfl⟩, by show S1.fr.set _ _ = _; rw [hp.fr], fun i y hy hi => ?_⟩
  · show (up S1.all id _ i).map _ = _
    by_cases q : i = id
    · subst q; rw [up_self, hx1]; rfl
    · rw [up_ne q]
  · by_cases q : i = id
    · subst q; rw [hx1] at hy; cases hy; exact .inl (by rw [hat]; simp)
    · exact .inr ⟨y, by show up S1.all id _ i = _; rw [up_ne q]; exact hy, hp1, rfl⟩
  · show up S1.all id _ i = _
    rw [up_ne (fun q => hE (by rw [← q]; exact hi))]; exact hp.one i y hy (.inr hi)
theorem evict_slot {E : Int → Prop} {T : Nat} {S : SS} {id f : Int} {x : ShE} {k : Nat} (h : ShI E T S) (hE : ¬ E id) (hx : S.all id = some x) (hpl : x.place = 1) (hat : x.at_ = f) (hk : S.sl[k]? = some []) :
    EvS E T f S (offFrame { S with all := up S.all id (some ⟨x.refs, 3, (k : Nat), x.pg⟩), sl := S.sl.set k x.pg } f) := by
  have h1 := h.offFrame hE hx hpl hat
  have h2 := ShI.onSlot (S := offFrame S f) (x := x) h1 (.inr rfl) hx hk
  refine ⟨h2.congr fun i _ => ⟨fun ⟨a, b⟩ => a.resolve_right b, fun a => ⟨.inl a, fun q => hE (q ▸ a)⟩⟩, ⟨fun i => ?_, ⟨[f], rfl, fun i y hy hp1 => ?_⟩, rfl, rfl, by show (S.fr.set _ _).length = _; rw [List.length_set], rfl⟩, rfl, fun i y hy hi => ?_⟩
  · show (up S.all id _ i).map _ = _
    by_cases q : i = id
    · subst q; rw [up_self, hx]; rfl
    · rw [up_ne q]
  · by_cases q : i = id
    · subst q; rw [hx] at hy; cases hy; exact .inl (by rw [hat]; simp)
    · exact .inr ⟨y, by show up S.all id _ i = _; rw [up_ne q]; exact hy, hp1, rfl⟩
  · show up S.all id _ i = _
    rw [up_ne (fun q => hE (by rw [← q]; exact hi))]; exact hy
/-- the sheet of a frame -/
theorem frame_has {E : Int → Prop} {T : Nat} {S : SS} {f : Int} {b : Bs} (h : ShI E T S) (hf : frAt S.fr f = some b) : ∃ id x, S.inn f = some id ∧ ¬ E id ∧ S.all id = some x ∧ x.place = 1 ∧ x.at_ = f ∧ x.pg = b := by
  cases hq : S.inn f with
  | none => exact absurd hq (h.fru hf)
  | some id =>
    obtain ⟨h1, x, h2, h3, h4⟩ := (h.frm f id).1 hq
    have := h.frc h1 h2 h3
    rw [h4, hf] at this
    exact ⟨id, x, rfl, h1, h2, h3, h4, by cases this; rfl⟩
theorem gI_some {g : Int → Option Int} {k j : Int} {z : Value} (h : g k = some j) : (gI g k).getD z = intV j := by unfold gI; rw [h]; rfl
set_option maxRecDepth 100000 in
set_option maxHeartbeats 1600000 in
theorem shpack_sp {w : World} {p : Nat} {S : SS} {F : Th} (hS : Sat w [shT p S, F]) {E : Int → Prop} {N : Nat} (hI : ShI E N S) (hN : N ≤ 900000) {id : Int} {x : ShE} (hx : S.all id = some x) (hpl : x.place = 1) :
    Calls Tryz.prog 94 #[ptrV p 0, intV id, strV x.pg] w (Ret fun v w' => (v = .bool false ∧ Sat w' [shT p S, F]) ∨ (∃ f S1, v = .bool true ∧ packM x.pg = some f ∧ ShI E N S1 ∧ PkS E S S1 ∧ (sumF S1.all S1.cache + f.length : Int) ≤ S1.budget ∧ Sat w' [shT p { S1 with all := up S1.all id (some ⟨x.refs, 2, 0, x.pg⟩), cache := S1.cache ++ [id] }, F])) := by
 have hx64 : x.pg.length = 64 := (hI.ent hx).2.2.2.2.1
 have hcl := hI.cln
 have hul := usedN_le S.sl
 have hslo := hI.slo
 have hsl2 := hI.sl2
 obtain ⟨ba, bi, fp, sp, kp, ac, cc, at2, ct, hS⟩ := shT_open hS
 cases hpm : packM x.pg with
 | none =>
  refine calls_enter Tryz.func94 rfl Tryz.ntmps94 rfl ?_
  refine wc_seq (wc_region (wl_assign rfl rfl (wl_nil (qs_seq (wc_seq (wc_region (wl_move rfl rfl ?_)))))))
  have hC1 := hS.split [] [false, false, false, false, false, false, false, false, false] rfl; dsimp only [selF, pickA, nthA, List.cons_append, List.nil_append] at hC1
  refine wl_call cal_20 rfl (pack_sp hC1 x.pg hx64) rfl ?_
  rintro e w1 ⟨_, rfl, rfl, hS1⟩; refine ⟨_, rfl, ?_⟩
  replace hS1 := hS1.join rfl; dsimp only [List.dropLast, List.cons_append, List.nil_append] at hS1; clear hC1
  rw [hpm]
  dsimp only [packV, Option.getD_some, Option.isSome_some, Option.getD_none, Option.isSome_none]
  refine wl_move rfl rfl (wl_extract rfl rfl rfl (wl_extract rfl rfl rfl (wl_assign rfl rfl (wl_assign rfl rfl (wl_nil (qs_seq ?_))))))
  refine wc_sub (L' := [(8, _), (7, _), (6, _), (0, _), (1, _)]) (.cons rfl (.cons rfl (.cons rfl (.cons rfl (.cons rfl .nil))))) ?_
  refine wc_seq (wc_seq (wc_region (wl_move rfl rfl ?_)))
  refine wl_not rfl rfl ?_
  refine wl_move rfl rfl ?_
  refine wl_split 25 rfl (fun h2 => ?_) (fun h2 => ?_)
  ·refine wl_unwanted rfl rfl h2 rfl ?_
   refine wl_unwanted rfl rfl h2 rfl ?_
   refine wl_unwanted rfl rfl h2 rfl ?_
   refine wl_unwanted rfl rfl h2 rfl ?_
   refine wl_unwanted rfl rfl h2 rfl ?_
   refine wl_unwanted rfl rfl h2 rfl ?_
   refine wl_unwanted rfl rfl h2 rfl ?_
   refine wl_pickT rfl h2 rfl rfl ?_
   refine wl_nil (qs_seq ?_)
   refine wc_sub (L' := [(33, _), (7, _), (6, _), (0, _), (1, _)]) (.cons rfl (.cons rfl (.cons rfl (.cons rfl (.cons rfl .nil))))) ?_
   refine wc_condT rfl ?_
   refine wc_seq (wc_region (wl_assign rfl rfl (wl_nil (qs_seq (wc_ret (qs_then_ret ?_))))))
   refine fin1 (.inr rfl) rfl rfl ?_
   exact ⟨_, rfl, .inl ⟨rfl, shT_shut (hS1.pick [0, 1, 2, 3, 4, 5, 6, 7, 8] rfl)⟩⟩
  exact absurd h2 (by simp)
 | some f =>
  have hfl := (packM_le hpm).1
  have hss := sumF_le S.all S.cache
  refine calls_enter Tryz.func94 rfl Tryz.ntmps94 rfl ?_
  refine wc_seq (wc_region (wl_assign rfl rfl (wl_nil (qs_seq (wc_seq (wc_region (wl_move rfl rfl ?_)))))))
  have hC1 := hS.split [] [false, false, false, false, false, false, false, false, false] rfl; dsimp only [selF, pickA, nthA, List.cons_append, List.nil_append] at hC1
  refine wl_call cal_20 rfl (pack_sp hC1 x.pg hx64) rfl ?_
  rintro e w1 ⟨_, rfl, rfl, hS1⟩; refine ⟨_, rfl, ?_⟩
  replace hS1 := hS1.join rfl; dsimp only [List.dropLast, List.cons_append, List.nil_append] at hS1; clear hC1
  rw [hpm]
  dsimp only [packV, Option.getD_some, Option.isSome_some, Option.getD_none, Option.isSome_none]
  refine wl_move rfl rfl (wl_extract rfl rfl rfl (wl_extract rfl rfl rfl (wl_assign rfl rfl (wl_assign rfl rfl (wl_nil (qs_seq ?_))))))
  refine wc_sub (L' := [(8, _), (7, _), (6, _), (0, _), (1, _)]) (.cons rfl (.cons rfl (.cons rfl (.cons rfl (.cons rfl .nil))))) ?_
  refine wc_seq (wc_seq (wc_region (wl_move rfl rfl ?_)))
  refine wl_not rfl rfl ?_
  refine wl_move rfl rfl ?_
  refine wl_split 25 rfl (fun h2 => ?_) (fun h2 => ?_)
  ·exact absurd h2 (by simp)
  refine wl_guard rfl rfl h2 ?_
  refine wl_move rfl rfl ?_
  refine wl_guard rfl rfl h2 ?_
  refine wl_lenS Tryz.underlying9 rfl rfl ?_
  refine wl_guard rfl rfl h2 ?_
  refine wl_move rfl rfl ?_
  refine wl_guard rfl rfl h2 ?_
  refine wl_nilCheck rfl rfl ?_
  refine wl_guard rfl rfl h2 ?_
  refine wl_fieldAddr rfl fo_65_7 rfl ?_
  refine wl_guard rfl rfl h2 ?_
  refine wl_load rfl ag_3 (by first | assumption | exact hS1.cell 0 rfl rfl) rfl ?_
  refine wl_guard rfl rfl h2 ?_
  refine wl_gtr rfl rfl rfl ?_
  refine wl_pickF rfl h2 rfl rfl ?_
  refine wl_nil (qs_seq ?_)
  refine wc_sub (L' := [(33, _), (7, _), (6, _), (0, _), (1, _)]) (.cons rfl (.cons rfl (.cons rfl (.cons rfl (.cons rfl .nil))))) ?_
  refine wc_condD rfl (fun h3 => ?_) (fun h3 => ?_)
  ·refine wc_seq (wc_region (wl_assign rfl rfl (wl_nil (qs_seq (wc_ret (qs_then_ret ?_))))))
   refine fin1 (.inr rfl) rfl rfl ?_
   exact ⟨_, rfl, .inl ⟨rfl, shT_shut (hS1.pick [0, 1, 2, 3, 4, 5, 6, 7, 8] rfl)⟩⟩
  refine wc_skip (qs_seq (wc_seq (wc_region (wl_move rfl rfl ?_))))
  have hSc := shT_shut (hS1.pick [0, 1, 2, 3, 4, 5, 6, 7, 8] rfl)
  have hC4 := hSc.split [0] [true, false] rfl; dsimp only [selF, pickA, nthA, List.cons_append, List.nil_append] at hC4
  refine wl_call cal_104 rfl (shpacked_sp hC4 hI hN) rfl ?_
  rintro e w4 ⟨_, rfl, rfl, hS4⟩; refine ⟨_, rfl, ?_⟩
  replace hS4 := hS4.join rfl; dsimp only [List.dropLast, List.cons_append, List.nil_append] at hS4; clear hC4
  clear hSc
  obtain ⟨ba, bi, fp, sp, kp, ac, cc, at2, ct, hSo5⟩ := shT_open (hS4.pick [0, 1] rfl)
  obtain ⟨_, _, hqc, hccl, _⟩ := hSo5.own_shape 3 rfl; cases hqc
  refine wl_move rfl rfl ?_
  refine wl_lenS Tryz.underlying9 rfl rfl ?_
  refine wl_add rfl rfl (by omega) (by omega) rfl ?_
  refine wl_assign rfl rfl (wl_assign rfl rfl (wl_nil (qs_seq ?_)))
  refine wc_sub (L' := [(10, _), (9, _), (7, _), (6, _), (0, _), (1, _)]) (.cons rfl (.cons rfl (.cons rfl (.cons rfl (.cons rfl (.cons rfl .nil)))))) ?_
  refine wc_seq (wc_block ?_)
  refine wc_loop (fun K0 E0 W0 => ∃ (k : Nat), K0 = S.cache.length - k ∧ E0 = [(0, ptrV p 0), (1, intV id), (7, strV f), (9, intV (k : Int)), (10, intV ((sumF S.all (S.cache.drop k) + f.length : Nat) : Int))] ∧ Sat W0 [blkT p [.map (some ba), .map (some bi), .slice ac S.cache.length cc, ptrV fp 0, ptrV sp 0, ptrV kp 0, intV S.slots, intV S.budget, intV S.next, .slice at2 S.taken.length ct], mapT intK ba (aG S.all), mapT intK bi (gI S.inn), rowT inC (.slice ac S.cache.length cc) S.cache, frT fp S.fr, swT sp S.sl, ckT kp S.ck, rowT inC (.slice at2 S.taken.length ct) S.taken, F] ∧ (k ≤ S.cache.length)) (L0 := [(0, _), (1, _), (7, _), (9, _), (10, _)]) (S.cache.length - 0) (.cons rfl (.cons rfl (.cons rfl (.cons rfl (.cons rfl .nil))))) ⟨0, rfl, rfl, hSo5, by omega⟩ ?_
  rintro _ _ w6 ⟨k, rfl, rfl, hS6, hk⟩
  refine wc_seq (wc_seq (wc_region (wl_move rfl rfl (wl_move rfl rfl (wl_nilCheck rfl rfl ?_)))))
  refine wl_fieldAddr rfl fo_65_7 rfl ?_
  refine wl_load rfl ag_3 (by first | assumption | exact hS6.cell 0 rfl rfl) rfl ?_
  refine wl_gtr rfl rfl rfl ?_
  refine wl_nil (qs_seq ?_)
  refine wc_sub (L' := [(44, _), (0, _), (1, _), (7, _), (9, _), (10, _)]) (.cons rfl (.cons rfl (.cons rfl (.cons rfl (.cons rfl (.cons rfl .nil)))))) ?_
  refine wc_condD rfl (fun h7 => ?_) (fun h7 => ?_)
  ·have hkl : k < S.cache.length := by rcases Nat.lt_or_ge k S.cache.length with q | q; exact q; (exfalso; have hh := h7; rw [List.drop_of_length_le q] at hh; simp only [sumF, List.map_nil, List.sum_nil] at hh; omega)
   obtain ⟨j, hj⟩ : ∃ j, S.cache[k]? = some j := ⟨_, List.getElem?_eq_getElem hkl⟩
   obtain ⟨_, y, hy, hyp⟩ := hI.cch (List.mem_of_getElem? hj)
   have hsd := sumF_drop hj hy hyp
   have hsl := sumF_le S.all (S.cache.drop k)
   have hdl : (S.cache.drop k).length ≤ S.cache.length := by rw [List.length_drop]; omega
   refine wc_skip (qs_seq (wc_block (wc_seq ?_)))
   obtain ⟨ob, oc9, hq9, _⟩ := hS6.own_at 3 rfl (by omega)
   cases hq9
   have hS8 := hS6.drew
   refine wc_draw [0, 1, 2, 3, 4, 5, 6, 7, 8, 9, 10, 11, 12, 13, 14, 15, 16] [] mix (by kernel_rfl) ?_
   refine vc_p rfl rfl rfl (fun _ => (ev_move rfl)) ?_
   refine vc_p rfl rfl rfl (fun _ => (ev_move rfl)) ?_
   refine vc_p rfl rfl rfl (fun _ => (ev_nilCheck rfl)) ?_
   refine vc_p rfl rfl rfl (fun _ => (ev_fieldAddr rfl fo_65_0)) ?_
   refine vc_q rfl rfl rfl (ev_load rfl ag_56 (by first | assumption | exact hS8.cell 0 rfl rfl)) ?_
   refine vc_p rfl rfl rfl (fun _ => (ev_move rfl)) ?_
   refine vc_p rfl rfl rfl (fun _ => (ev_nilCheck rfl)) ?_
   refine vc_p rfl rfl rfl (fun _ => (ev_fieldAddr rfl fo_65_2)) ?_
   refine vc_q rfl rfl rfl (ev_load rfl ag_28 (by first | assumption | exact hS8.cell 0 rfl rfl)) ?_
   refine vc_p rfl rfl rfl (fun _ => (ev_move rfl)) ?_
   refine vc_p rfl rfl rfl (fun _ => (ev_indexAddr k rfl rfl (by first | rfl | omega) (by exact hkl) es_28)) ?_
   refine vc_q rfl rfl rfl (ev_rowLoad0 inC 3 k 0 hS8 rfl hj ag_3 rfl rfl) ?_
   refine vc_q rfl rfl rfl (ev_lookup (k := j) 1 hS8 keysInt Tryz.underlying56 rfl rfl rfl zr_76 (u := (.agg #[intV y.refs, intV y.place, intV y.at_, strV (fmE y)])) (aG_some hy)) ?_
   refine vc_p rfl rfl rfl (fun _ => (ev_field fv_76_3 rfl rfl)) ?_
   refine vc_p rfl rfl rfl (fun _ => (ev_lenS Tryz.underlying9 rfl)) ?_
   refine vc_p rfl rfl rfl (fun _ => (ev_sub' rfl rfl (by omega) (by omega))) ?_
   refine vc_p rfl rfl rfl (fun _ => (ev_assign rfl)) ?_
   refine VC.nil (qs_seq ?_)
   refine wc_sub (L' := [(10, _), (0, _), (1, _), (7, _), (9, _)]) (.cons rfl (.cons rfl (.cons rfl (.cons rfl (.cons rfl .nil))))) ?_
   refine wc_region (wl_move rfl rfl ?_)
   refine wl_add rfl rfl (by omega) (by omega) rfl ?_
   refine wl_assign rfl rfl (wl_nil (qs_block_normal ?_))
   exact qs_round (L1 := [(0, _), (1, _), (7, _), (9, intV ((k + 1 : Nat) : Int)), (10, intV ((sumF S.all (S.cache.drop (k + 1)) + f.length : Nat) : Int))]) (by rw [show sumF S.all (S.cache.drop (k + 1)) + f.length = sumF S.all (S.cache.drop k) + f.length - (fmE y).length by omega, Int.ofNat_sub (by omega)]; exact (.cons rfl (.cons rfl (.cons rfl (.cons rfl (.cons rfl .nil)))))) (k1 := S.cache.length - (k + 1)) (by omega) ⟨k + 1, rfl, rfl, hS8.pick [0, 1, 2, 3, 4, 5, 6, 7, 8] rfl, by omega⟩
  refine wc_exit (qs_then_exit (qs_then_exit (qs_block_exit (qs_seq (wc_seq (wc_seq ?_))))))
  have hS9 := hS6.drew
  refine wc_draw [0, 1, 2, 3, 4, 5, 6, 7, 10, 8, 9, 11] [8] mix (by kernel_rfl) ?_
  refine vc_p rfl rfl rfl (fun _ => (ev_move rfl)) ?_
  refine vc_p rfl rfl rfl (fun _ => (ev_nilCheck rfl)) ?_
  refine vc_p rfl rfl rfl (fun _ => (ev_fieldAddr rfl fo_65_6)) ?_
  refine vc_q rfl rfl rfl (ev_load rfl ag_3 (by first | assumption | exact hS9.cell 0 rfl rfl)) ?_
  refine vc_p rfl rfl rfl (fun _ => (ev_move rfl)) ?_
  refine vc_p rfl rfl rfl (fun _ => (ev_nilCheck rfl)) ?_
  refine vc_p rfl rfl rfl (fun _ => (ev_fieldAddr rfl fo_65_4)) ?_
  refine vc_q rfl rfl rfl (ev_load rfl ag_60 (by first | assumption | exact hS9.cell 0 rfl rfl)) ?_
  refine vc_p rfl rfl rfl (fun _ => (ev_move rfl)) ?_
  refine vc_s rfl rfl rfl rfl rfl rfl ?_
  have hC10 := hS9.split [5] [false, false, false, false, false, true, false, false, false] rfl; dsimp only [selF, pickA, nthA, List.cons_append, List.nil_append] at hC10
  refine wl_call cal_41 rfl (swused_sp hC10) rfl ?_
  rintro e w10 ⟨_, rfl, rfl, hS10⟩; refine ⟨_, rfl, ?_⟩
  replace hS10 := hS10.join rfl; dsimp only [List.dropLast, List.cons_append, List.nil_append] at hS10; clear hC10
  clear hS9
  refine vc_e (.skip (by kernel_rfl) (.cons (.inl ⟨rfl, (ev_load rfl ag_3 (by first | assumption | exact hS10.cell 1 rfl rfl))⟩) .nil)) ?_
  refine vc_p rfl rfl rfl (fun _ => (ev_sub' rfl rfl (by omega) (by omega))) ?_
  refine vc_p rfl rfl rfl (fun _ => (ev_lss rfl rfl)) ?_
  refine VC.nil (qs_seq ?_)
  refine wc_sub (L' := [(74, _), (0, _), (1, _), (7, _), (9, _)]) (.cons rfl (.cons rfl (.cons rfl (.cons rfl (.cons rfl .nil))))) ?_
  refine wc_condD rfl (fun h11 => ?_) (fun h11 => ?_)
  ·refine wc_seq (wc_region (wl_assign rfl rfl (wl_nil (qs_seq (wc_ret (qs_then_ret ?_))))))
   refine fin1 (.inr rfl) rfl rfl ?_
   exact ⟨_, rfl, .inl ⟨rfl, shT_shut (hS10.pick [1, 2, 3, 4, 5, 0, 6, 7, 8] rfl)⟩⟩
  refine wc_skip (qs_seq (wc_seq (wc_seq ?_)))
  have hS12 := hS10.pick [1, 2, 3, 4, 5, 0, 6, 7, 8] rfl
  refine wc_region (wl_move rfl rfl (wl_nilCheck rfl rfl ?_))
  refine wl_fieldAddr rfl fo_65_2 rfl ?_
  refine wl_load rfl ag_28 (by first | assumption | exact hS12.cell 0 rfl rfl) rfl ?_
  refine wl_move rfl rfl ?_
  refine wl_view 0 k Tryz.underlying28 sz_3 rfl (bndN _) (bndS k _ rfl rfl) (by omega) (by omega) rfl ?_
  refine wl_lenL (m := k) Tryz.underlying28 rfl rfl ?_
  refine wl_move rfl rfl (wl_nil (qs_seq ?_))
  refine wc_sub (L' := [(82, _), (81, _), (80, _), (0, _), (1, _), (7, _), (9, _)]) (.cons rfl (.cons rfl (.cons rfl (.cons rfl (.cons rfl (.cons rfl (.cons rfl .nil))))))) ?_
  refine wc_block ?_
  refine wc_loop (fun K0 E0 W0 => ∃ (S1 : SS) (i : Nat), K0 = k - i ∧ E0 = [(0, ptrV p 0), (1, intV id), (7, strV f), (9, intV (k : Int)), (80, viewV 1 (.slice ac S.cache.length cc) 0 k), (81, intV (k : Int)), (82, intV (i : Int))] ∧ Sat W0 [blkT p [.map (some ba), .map (some bi), .slice ac S.cache.length cc, ptrV fp 0, ptrV sp 0, ptrV kp 0, intV S.slots, intV S.budget, intV S.next, .slice at2 S.taken.length ct], mapT intK ba (aG S1.all), mapT intK bi (gI S.inn), rowT inC (.slice ac S.cache.length cc) S.cache, frT fp S.fr, swT sp S1.sl, ckT kp S.ck, rowT inC (.slice at2 S.taken.length ct) S.taken, F] ∧ (ShI E N S1) ∧ (PkS E S S1) ∧ (S1.cache = S.cache.drop i) ∧ (i ≤ k) ∧ (usedN S1.sl + (k - i) ≤ S1.sl.length)) (L0 := [(0, _), (1, _), (7, _), (9, _), (80, _), (81, _), (82, _)]) (k - 0) (.cons rfl (.cons rfl (.cons rfl (.cons rfl (.cons rfl (.cons rfl (.cons rfl .nil))))))) ⟨S, 0, rfl, (by unfold viewV; rfl), hS12, hI, PkS.refl E S, rfl, by omega, by omega⟩ ?_
  rintro _ _ w13 ⟨S1, i, rfl, rfl, hS13, hI1, hP1, hC0, hi, hU⟩
  refine wc_seq (wc_region ?_)
  refine wl_lss rfl rfl rfl ?_
  refine wl_nil (qs_seq (wc_seq ?_))
  refine wc_condD rfl (fun h14 => ?_) (fun h14 => ?_)
  ·obtain ⟨j, hj⟩ : ∃ j, S.cache[i]? = some j := ⟨_, List.getElem?_eq_getElem (by omega)⟩
   have hC1 : S1.cache = j :: S.cache.drop (i + 1) := by rw [hC0, List.drop_eq_getElem_cons (by omega)]; congr 1; exact (List.getElem?_eq_some_iff.1 hj).2
   have hC2 : S.cache.drop (i + 1) = S.cache.drop (i + 1) := rfl
   obtain ⟨hjE, y, hy, hyp⟩ := hI1.cch (j := j) (by rw [hC1]; simp)
   obtain ⟨_, hpky⟩ := hI1.pck hjE hy hyp
   obtain ⟨fy, hfy⟩ := Option.ne_none_iff_exists'.1 hpky
   have hfme : fmE y = fy := by unfold fmE fm; rw [if_pos hyp, hfy]; rfl
   have hy64 : y.pg.length = 64 := (hI1.ent hy).2.2.2.2.1
   have hype : y.pg ≠ [] := fun q => by rw [q] at hy64; simp at hy64
   have hvw : Ent (rowT inC (.slice ac S.cache.length cc) S.cache) (RdL inC (viewV 1 (.slice ac S.cache.length cc) 0 k) ((S.cache.take k).drop 0)) := ent_view (by omega) (by omega) (by omega) hccl
   refine wc_skip (qs_seq (wc_seq (wc_block (wc_seq (wc_region ?_)))))
   have hvr := Ent.sat hvw hS13 3 rfl
   obtain ⟨va, vc, hvv, _⟩ := hvr.shape
   rw [hvv] at hvr
   obtain ⟨vb, vo, rfl, hvc⟩ := hvr.get (i := i) (a := j) (by rw [List.drop_zero, List.getElem?_take, if_pos (by omega)]; exact hj)
   refine wl_indexAddr i (congrArg some hvv) rfl rfl (by rw [List.drop_zero, List.length_take]; omega) es_28 rfl ?_
   refine wl_load rfl ag_3 (hvc 0 _ rfl) rfl ?_
   refine wl_assign rfl rfl (wl_nil (qs_seq ?_))
   refine wc_sub (L' := [(12, _), (0, _), (1, _), (7, _), (9, _), (80, _), (81, _), (82, _)]) (.cons rfl (.cons rfl (.cons rfl (.cons rfl (.cons rfl (.cons rfl (.cons rfl (.cons rfl .nil)))))))) ?_
   refine wc_seq (wc_region (wl_move rfl rfl (wl_nilCheck rfl rfl ?_)))
   refine wl_fieldAddr rfl fo_65_0 rfl ?_
   refine wl_load rfl ag_56 (by first | assumption | exact hS13.cell 0 rfl rfl) rfl ?_
   refine wl_move rfl rfl ?_
   refine wl_lookup (k := j) 1 hS13 keysInt Tryz.underlying56 rfl rfl rfl zr_76 (u := (.agg #[intV y.refs, intV y.place, intV y.at_, strV (fmE y)])) (aG_some hy) rfl ?_
   refine wl_alloc hS13 zr_76 rfl rfl ?_
   intro b15 w15 hS15
   clear hS13
   first | (refine wl_storeA hS15 rfl rfl sz_76 rfl (by first | rfl | (simp [allOne, Value.oneCell']; done) | assumption | exact hone) (i := 0) rfl (by first | decide | exact Nat.le_of_ble_eq_true rfl | (simp; done) | omega) ?_) | (refine wl_storeA hS15 rfl rfl sz_76 rfl (by first | rfl | (simp [allOne, Value.oneCell']; done) | assumption | exact hone) (i := 1) rfl (by first | decide | exact Nat.le_of_ble_eq_true rfl | (simp; done) | omega) ?_)
   intro w16 hS17; dsimp only [List.set] at hS17
   clear hS15
   refine wl_nil (qs_seq ?_)
   refine wc_sub (L' := [(13, _), (12, _), (0, _), (1, _), (7, _), (9, _), (80, _), (81, _), (82, _)]) (.cons rfl (.cons rfl (.cons rfl (.cons rfl (.cons rfl (.cons rfl (.cons rfl (.cons rfl (.cons rfl .nil))))))))) ?_
   refine wc_seq (wc_region ?_)
   refine wl_fieldAddr rfl fo_76_3 rfl ?_
   refine wl_load rfl ag_9 (by first | assumption | exact hS17.cell 0 rfl rfl | exact hS17.cell 1 rfl rfl) rfl ?_
   have hC18 := hS17.split [] [false, false, false, false, false, false, false, false, false, false] rfl; dsimp only [selF, pickA, nthA, List.cons_append, List.nil_append] at hC18
   refine wl_call cal_51 rfl (unpack_sp hC18 hy64 (by rw [hfme]; exact hfy)) rfl ?_
   rintro e w18 ⟨_, rfl, rfl, hS18⟩; refine ⟨_, rfl, ?_⟩
   replace hS18 := hS18.join rfl; dsimp only [List.dropLast, List.cons_append, List.nil_append] at hS18; clear hC18
   clear hS17
   refine wl_move rfl rfl (wl_extract rfl rfl rfl (wl_extract rfl rfl rfl (wl_assign rfl rfl (wl_assign rfl rfl (wl_nil (qs_seq ?_))))))
   refine wc_sub (L' := [(14, _), (13, _), (12, _), (0, _), (1, _), (7, _), (9, _), (80, _), (81, _), (82, _)]) (.cons rfl (.cons rfl (.cons rfl (.cons rfl (.cons rfl (.cons rfl (.cons rfl (.cons rfl (.cons rfl (.cons rfl .nil)))))))))) ?_
   refine wc_seq (wc_region (wl_move rfl rfl (wl_nilCheck rfl rfl ?_)))
   refine wl_fieldAddr rfl fo_65_4 rfl ?_
   refine wl_load rfl ag_60 (by first | assumption | exact hS18.cell 0 rfl rfl | exact hS18.cell 1 rfl rfl) rfl ?_
   refine wl_move rfl rfl ?_
   have hC19 := hS18.split [6] [false, false, false, false, false, false, true, false, false, false] rfl; dsimp only [selF, pickA, nthA, List.cons_append, List.nil_append] at hC19
   refine wl_call cal_95 rfl (swput_sp hC19 y.pg hy64) rfl ?_
   rintro e w19 ⟨_, rfl, (⟨hfull, rfl, hS19⟩ | ⟨ks, hks, rfl, hS19⟩)⟩
   ·exact absurd hfull (by omega)
   refine ⟨_, rfl, ?_⟩
   replace hS19 := hS19.join rfl; dsimp only [List.dropLast, List.cons_append, List.nil_append] at hS19; clear hC19
   clear hS18
   refine wl_move rfl rfl (wl_extract rfl rfl rfl (wl_extract rfl rfl rfl (wl_assign rfl rfl (wl_assign rfl rfl (wl_nil (qs_seq ?_))))))
   refine wc_sub (L' := [(16, _), (13, _), (12, _), (0, _), (1, _), (7, _), (9, _), (80, _), (81, _), (82, _)]) (.cons rfl (.cons rfl (.cons rfl (.cons rfl (.cons rfl (.cons rfl (.cons rfl (.cons rfl (.cons rfl (.cons rfl .nil)))))))))) ?_
   have hS20 := hS19.drew
   refine wc_draw [0, 1, 2, 3, 4, 5, 6, 7, 8, 9] [9] mix (by kernel_rfl) ?_
   refine vc_p rfl rfl rfl (fun _ => (ev_move rfl)) ?_
   refine vc_p rfl rfl rfl (fun _ => (ev_nilCheck rfl)) ?_
   refine vc_p rfl rfl rfl (fun _ => (ev_fieldAddr rfl fo_65_0)) ?_
   refine vc_q rfl rfl rfl (ev_load rfl ag_56 (by first | assumption | exact hS20.cell 1 rfl rfl | exact hS20.cell 2 rfl rfl)) ?_
   refine vc_p rfl rfl rfl (fun _ => (ev_move rfl)) ?_
   refine vc_p rfl rfl rfl (fun _ => (ev_fieldAddr rfl fo_76_0)) ?_
   refine vc_q rfl rfl rfl (ev_load rfl ag_3 (by first | assumption | exact hS20.cell 1 rfl rfl | exact hS20.cell 2 rfl rfl)) ?_
   refine vc_p rfl rfl rfl (fun _ => (ev_move rfl)) ?_
   refine vc_p rfl rfl rfl (fun _ => (ev_buildS rfl pl_76_0_1_2 asz_76 zr_76 rfl)) ?_
   refine vc_s rfl rfl rfl rfl rfl rfl ?_
   refine wl_mapUpdate (k := j) (v := shV ⟨y.refs, 3, (ks : Nat), y.pg⟩) 3 hS20 keysInt Tryz.underlying56 rfl rfl rfl rfl ?_
   intro w21 hS21a; dsimp only [List.set] at hS21a; have hS21 := hS21a; rw [aG_up] at hS21
   clear hS20
   refine vc_e0 (.skip (by kernel_rfl) (.skip (by kernel_rfl) .nil)) ?_
   refine VC.nil (qs_block_normal (qs_seq ?_))
   refine wc_sub (L' := [(0, _), (1, _), (7, _), (9, _), (80, _), (81, _), (82, _)]) (.cons rfl (.cons rfl (.cons rfl (.cons rfl (.cons rfl (.cons rfl (.cons rfl .nil))))))) ?_
   refine wc_region ?_
   refine wl_add rfl rfl (by omega) (by omega) rfl ?_
   refine wl_move rfl rfl (wl_nil ?_)
   obtain ⟨hI2, hP2⟩ := pack_step hI1 hP1 hC1 hy hks
   exact qs_round (L1 := [(0, _), (1, _), (7, _), (9, _), (80, _), (81, _), (82, intV ((i + 1 : Nat) : Int))]) (.cons rfl (.cons rfl (.cons rfl (.cons rfl (.cons rfl (.cons rfl (.cons rfl .nil))))))) (k1 := k - (i + 1)) (by omega) ⟨{ S1 with all := up S1.all j (some ⟨y.refs, 3, (ks : Nat), y.pg⟩), sl := S1.sl.set ks y.pg, cache := S.cache.drop (i + 1) }, i + 1, rfl, rfl, hS21.pick [2, 3, 4, 5, 6, 0, 7, 8, 9] rfl, hI2, hP2, rfl, by omega, by dsimp only; rw [List.length_set, usedN_put hks hype]; omega⟩
  refine wc_exit (qs_then_exit (qs_then_exit (qs_block_exit (qs_seq (wc_seq ?_)))))
  have hx1 : S1.all id = some x := hP1.one id x hx (.inl hpl)
  refine wc_region (wl_move rfl rfl (wl_move rfl rfl (wl_nilCheck rfl rfl ?_)))
  refine wl_fieldAddr rfl fo_65_2 rfl ?_
  refine wl_load rfl ag_28 (by first | assumption | exact hS13.cell 0 rfl rfl) rfl ?_
  refine wl_move rfl rfl ?_
  refine wl_view k S.cache.length Tryz.underlying28 sz_3 rfl (bndS k _ rfl rfl) (bndN _) (by omega) (by omega) rfl ?_
  have hv2 : Ent (rowT inC (.slice ac S.cache.length cc) S.cache) (RdL inC (viewV 1 (.slice ac S.cache.length cc) k S.cache.length) (S.cache.drop k)) := fun hq => by have q := ent_view (C := inC) (A := k) (B := S.cache.length) (by omega) (by omega) (by omega) hccl hq; rwa [List.take_of_length_le (by omega)] at q
  have hC22 := hS13.split [] [false, false, false, false, false, false, false, false, false] rfl; dsimp only [selF, pickA, nthA, List.cons_append, List.nil_append] at hC22
  refine wl_call cal_55 rfl (cloneI_sp hC22 (Ent.starL hv2 3 rfl) (by rw [List.length_drop]; omega)) rfl ?_
  rintro e w22 ⟨_, rfl, hS22⟩; refine ⟨_, rfl, ?_⟩
  replace hS22 := hS22.join rfl; dsimp only [List.dropLast, List.cons_append, List.nil_append] at hS22; clear hC22
  clear hS13
  obtain ⟨na, nc, hnv, _⟩ := hS22.own_shape 0 rfl
  obtain rfl := hnv
  refine wl_move rfl rfl ?_
  refine wl_rowBuild inC [id] hS22 rfl Tryz.underlying28 ifz_3 rfl rfl rfl rfl (by first | rfl | simp [RowC.cells, fillL, splice]) rfl ?_
  intro b23 w23 hS23
  clear hS22
  refine wl_rowApp inC 1 hS23 rfl rfl rfl (hS23.rd 0 rfl (by simp)) Tryz.underlying28 Tryz.underlying28 (by intro k hk; cases hk) ifo_3 rfl (by simp only [List.length_cons, List.length_nil, List.length_drop]; omega) rfl (by simp only [List.length_cons, List.length_nil, List.length_drop]; omega) ?_
  intro v24 w24 hS24; dsimp only [List.set] at hS24
  clear hS23
  have h1v24 : v24.oneCell' = true := hS24.own_one 1 rfl
  refine wl_nilCheck rfl rfl ?_
  refine wl_fieldAddr rfl fo_65_2 rfl ?_
  first | (refine wl_store hS24 rfl rfl sz_28 (by first | rfl | assumption | exact hS24.own_one 0 rfl | exact hS24.own_one 1 rfl | exact hS24.own_one 5 rfl | exact hS24.own_one 9 rfl) (i := 2) rfl (by first | decide | exact Nat.le_of_ble_eq_true rfl | (simp; done) | omega) ?_)
  intro w25 hS26; dsimp only [List.set] at hS26
  clear hS24
  refine wl_nil (qs_seq ?_)
  refine wc_sub (L' := [(0, _), (1, _), (7, _)]) (.cons rfl (.cons rfl (.cons rfl .nil))) ?_
  refine wc_seq ?_
  have hS27 := hS26.drew
  refine wc_draw [0, 1, 2, 3, 4, 5, 6, 7, 8, 9, 10, 11, 12, 13, 14] [14] mix (by kernel_rfl) ?_
  refine vc_p rfl rfl rfl (fun _ => (ev_move rfl)) ?_
  refine vc_p rfl rfl rfl (fun _ => (ev_nilCheck rfl)) ?_
  refine vc_p rfl rfl rfl (fun _ => (ev_fieldAddr rfl fo_65_0)) ?_
  refine vc_q rfl rfl rfl (ev_load rfl ag_56 (by first | assumption | exact hS27.cell 2 rfl rfl)) ?_
  refine vc_p rfl rfl rfl (fun _ => (ev_move rfl)) ?_
  refine vc_p rfl rfl rfl (fun _ => (ev_move rfl)) ?_
  refine vc_p rfl rfl rfl (fun _ => (ev_nilCheck rfl)) ?_
  refine vc_p rfl rfl rfl (fun _ => (ev_fieldAddr rfl fo_65_0)) ?_
  refine vc_q rfl rfl rfl (ev_load rfl ag_56 (by first | assumption | exact hS27.cell 2 rfl rfl)) ?_
  refine vc_p rfl rfl rfl (fun _ => (ev_move rfl)) ?_
  refine vc_q rfl rfl rfl (ev_lookup (k := id) 3 hS27 keysInt Tryz.underlying56 rfl rfl rfl zr_76 (u := (.agg #[intV x.refs, intV x.place, intV x.at_, strV (fmE x)])) (aG_some hx1)) ?_
  refine vc_p rfl rfl rfl (fun _ => (ev_field fv_76_0 rfl rfl)) ?_
  refine vc_p rfl rfl rfl (fun _ => (ev_move rfl)) ?_
  refine vc_p rfl rfl rfl (fun _ => (ev_buildS rfl pl_76_0_1_3 asz_76 zr_76 rfl)) ?_
  refine vc_s rfl rfl rfl rfl rfl rfl ?_
  have hsv28 : Value.agg #[intV x.refs, intV 2, intV 0, strV f] = shV ⟨x.refs, 2, 0, x.pg⟩ := by unfold shV fmE fm; simp [hpm]
  refine wl_mapUpdate (k := id) (v := Value.agg #[intV x.refs, intV 2, intV 0, strV f]) 3 hS27 keysInt Tryz.underlying56 rfl rfl rfl rfl ?_
  intro w28 hS28a; dsimp only [List.set] at hS28a; have hS28 := hS28a; rw [hsv28, aG_up] at hS28
  clear hS27
  refine vc_e0 (.skip (by kernel_rfl) (.skip (by kernel_rfl) (.skip (by kernel_rfl) .nil))) ?_
  refine VC.nil (qs_seq ?_)
  refine wc_sub (L' := []) .nil ?_
  refine wc_seq (wc_region (wl_assign rfl rfl (wl_nil (qs_seq (wc_ret ?_)))))
  refine fin1 (.inr rfl) rfl rfl ?_
  have hc1 : S1.cache = S.cache.drop k := by rw [hC0, show i = k by omega]
  have hsm : sumF S1.all S1.cache = sumF S.all (S.cache.drop k) := by rw [hc1]; exact sumF_same fun j _ => by have := hP1.go.same j; cases hq : S1.all j <;> cases hq2 : S.all j <;> simp_all
  have hSe : ({ S1 with all := up S1.all id (some ⟨x.refs, 2, 0, x.pg⟩), cache := S1.cache ++ [id] } : SS) = ⟨up S1.all id (some ⟨x.refs, 2, 0, x.pg⟩), S.inn, S1.cache ++ [id], S.fr, S1.sl, S.ck, S.slots, S.budget, S.next, S.taken⟩ := by rw [← hP1.inn, ← hP1.fr, ← hP1.ck, ← hP1.tak, ← hP1.go.bud, ← hP1.go.slo, ← hP1.go.nxt]
  exact ⟨_, rfl, .inr ⟨f, S1, rfl, rfl, hI1, hP1, by rw [hsm, hP1.go.bud]; omega, by rw [hSe, hc1]; exact shT_shut (hS28.pick [2, 3, 4, 1, 6, 7, 8, 9, 10] rfl)⟩⟩
end Go.Proofs.YtnicmcdeoimhlaaGreat
/- sheets: evict, get -/
namespace Go.Proofs.YtnicmcdeoimhlaaGreat
open Go.RowKit M
set_option linter.unusedVariables false
set_option maxRecDepth 100000 in
set_option maxHeartbeats 1600000 in
theorem shevict_sp {w : World} {p : Nat} {S : SS} {F : Th} (hS : Sat w [shT p S, F]) {E : Int → Prop} {N : Nat} (hI : ShI E N S) (hN : N ≤ 800000) {f : Int} {b0 : Bs} (hf0 : frAt S.fr f = some b0) :
    Calls Tryz.prog 69 #[ptrV p 0, intV f] w (Ret fun v w' => (v = .bool false ∧ usedN S.sl = S.sl.length ∧ Sat w' [shT p S, F]) ∨ (v = .bool true ∧ ∃ S', EvS E N f S S' ∧ Sat w' [shT p S', F])) := by
 obtain ⟨id, x, hin, hE, hx, hpl, hat, hpg⟩ := frame_has hI hf0
 subst hpg
 have hf := hf0
 have hx64 : x.pg.length = 64 := (hI.ent hx).2.2.2.2.1
 replace hN : N ≤ 900000 := by omega
 obtain ⟨ba, bi, fp, sp, kp, ac, cc, at2, ct, hS⟩ := shT_open hS
 refine calls_enter Tryz.func69 rfl Tryz.ntmps69 rfl ?_
 refine wc_seq (wc_region (wl_assign rfl rfl (wl_nil (qs_seq (wc_seq (wc_region (wl_move rfl rfl (wl_nilCheck rfl rfl ?_))))))))
 refine wl_fieldAddr rfl fo_65_1 rfl ?_
 refine wl_load rfl ag_57 (by first | assumption | exact hS.cell 0 rfl rfl) rfl ?_
 refine wl_move rfl rfl ?_
 refine wl_lookup (k := f) 2 hS keysInt Tryz.underlying57 rfl rfl rfl zr_3 (u := intV id) (gI_some hin) rfl ?_
 refine wl_assign rfl rfl (wl_nil (qs_seq (wc_seq (wc_region (wl_move rfl rfl (wl_nilCheck rfl rfl ?_))))))
 refine wl_fieldAddr rfl fo_65_3 rfl ?_
 refine wl_load rfl ag_58 (by first | assumption | exact hS.cell 0 rfl rfl) rfl ?_
 refine wl_move rfl rfl ?_
 have hC1 := hS.split [4] [false, false, false, false, true, false, false, false, false] rfl; dsimp only [selF, pickA, nthA, List.cons_append, List.nil_append] at hC1
 refine wl_call cal_50 rfl (frpage_sp hC1 f) rfl ?_
 rintro e w1 ⟨_, rfl, rfl, hS1⟩; refine ⟨_, rfl, ?_⟩
 replace hS1 := hS1.join rfl; dsimp only [List.dropLast, List.cons_append, List.nil_append] at hS1; clear hC1
 rw [hf]
 dsimp only [Option.getD_some]
 refine wl_assign rfl rfl (wl_nil (qs_seq ?_))
 refine wc_sub (L' := [(6, _), (5, _), (4, _), (0, _), (1, _)]) (.cons rfl (.cons rfl (.cons rfl (.cons rfl (.cons rfl .nil))))) ?_
 refine wc_seq (wc_seq ?_)
 have hS2 := shT_shut (hS1.pick [1, 2, 3, 4, 0, 5, 6, 7, 8] rfl)
 refine wc_region (wl_move rfl rfl (wl_move rfl rfl (wl_move rfl rfl ?_)))
 have hC3 := hS2.split [0] [true, false] rfl; dsimp only [selF, pickA, nthA, List.cons_append, List.nil_append] at hC3
 refine wl_call cal_94 rfl (shpack_sp hC3 hI hN hx hpl) rfl ?_
 rintro e w3 ⟨_, rfl, (⟨rfl, hS3⟩ | ⟨fx, S1, rfl, hpm, hI1, hP1, hsum, hS3⟩)⟩
 ·refine ⟨_, rfl, ?_⟩
  replace hS3 := hS3.join rfl; dsimp only [List.dropLast, List.cons_append, List.nil_append] at hS3; clear hC3
  clear hS2
  refine wl_not rfl rfl ?_
  refine wl_nil (qs_seq ?_)
  refine wc_cond rfl (fun h4 => ?_) (fun h4 => ?_)
  ·refine wc_seq ?_
   obtain ⟨ba, bi, fp, sp, kp, ac, cc, at2, ct, hSo5⟩ := shT_open (hS3.pick [0, 1] rfl)
   refine wc_region (wl_move rfl rfl (wl_nilCheck rfl rfl ?_))
   refine wl_fieldAddr rfl fo_65_4 rfl ?_
   refine wl_load rfl ag_60 (by first | assumption | exact hSo5.cell 0 rfl rfl) rfl ?_
   refine wl_move rfl rfl ?_
   have hC6 := hSo5.split [5] [false, false, false, false, false, true, false, false, false] rfl; dsimp only [selF, pickA, nthA, List.cons_append, List.nil_append] at hC6
   refine wl_call cal_95 rfl (swput_sp hC6 x.pg hx64) rfl ?_
   rintro e w6 ⟨_, rfl, (⟨hfull, rfl, hS6⟩ | ⟨ks, hks, rfl, hS6⟩)⟩
   ·refine ⟨_, rfl, ?_⟩
    replace hS6 := hS6.join rfl; dsimp only [List.dropLast, List.cons_append, List.nil_append] at hS6; clear hC6
    clear hSo5
    refine wl_move rfl rfl (wl_extract rfl rfl rfl (wl_extract rfl rfl rfl (wl_assign rfl rfl (wl_assign rfl rfl (wl_nil (qs_seq ?_))))))
    refine wc_sub (L' := [(8, _), (7, _), (5, _), (4, _), (0, _), (1, _)]) (.cons rfl (.cons rfl (.cons rfl (.cons rfl (.cons rfl (.cons rfl .nil)))))) ?_
    refine wc_seq (wc_seq (wc_region (wl_move rfl rfl ?_)))
    refine wl_not rfl rfl ?_
    refine wl_nil (qs_seq ?_)
    refine wc_cond rfl (fun h7 => ?_) (fun h7 => ?_)
    ·refine wc_seq (wc_region (wl_assign rfl rfl (wl_nil (qs_seq (wc_ret (qs_then_ret (qs_then_ret ?_)))))))
     refine fin1 (.inr rfl) rfl rfl ?_
     exact ⟨_, rfl, .inl ⟨rfl, hfull, shT_shut (hS6.pick [1, 2, 3, 4, 5, 0, 6, 7, 8] rfl)⟩⟩
    exact absurd h7 (by simp)
   refine ⟨_, rfl, ?_⟩
   replace hS6 := hS6.join rfl; dsimp only [List.dropLast, List.cons_append, List.nil_append] at hS6; clear hC6
   clear hSo5
   refine wl_move rfl rfl (wl_extract rfl rfl rfl (wl_extract rfl rfl rfl (wl_assign rfl rfl (wl_assign rfl rfl (wl_nil (qs_seq ?_))))))
   refine wc_sub (L' := [(8, _), (7, _), (5, _), (4, _), (0, _), (1, _)]) (.cons rfl (.cons rfl (.cons rfl (.cons rfl (.cons rfl (.cons rfl .nil)))))) ?_
   refine wc_seq (wc_seq (wc_region (wl_move rfl rfl ?_)))
   refine wl_not rfl rfl ?_
   refine wl_nil (qs_seq ?_)
   refine wc_cond rfl (fun h8 => ?_) (fun h8 => ?_)
   ·exact absurd h8 (by simp)
   refine wc_skip (qs_seq ?_)
   have hS9 := hS6.drew
   refine wc_draw [0, 1, 2, 3, 4, 5, 6, 7, 8, 9, 10, 11, 12, 13, 14] [14] mix (by kernel_rfl) ?_
   refine vc_p rfl rfl rfl (fun _ => (ev_move rfl)) ?_
   refine vc_p rfl rfl rfl (fun _ => (ev_nilCheck rfl)) ?_
   refine vc_p rfl rfl rfl (fun _ => (ev_fieldAddr rfl fo_65_0)) ?_
   refine vc_q rfl rfl rfl (ev_load rfl ag_56 (by first | assumption | exact hS9.cell 1 rfl rfl)) ?_
   refine vc_p rfl rfl rfl (fun _ => (ev_move rfl)) ?_
   refine vc_p rfl rfl rfl (fun _ => (ev_move rfl)) ?_
   refine vc_p rfl rfl rfl (fun _ => (ev_nilCheck rfl)) ?_
   refine vc_p rfl rfl rfl (fun _ => (ev_fieldAddr rfl fo_65_0)) ?_
   refine vc_q rfl rfl rfl (ev_load rfl ag_56 (by first | assumption | exact hS9.cell 1 rfl rfl)) ?_
   refine vc_p rfl rfl rfl (fun _ => (ev_move rfl)) ?_
   refine vc_q rfl rfl rfl (ev_lookup (k := id) 2 hS9 keysInt Tryz.underlying56 rfl rfl rfl zr_76 (u := (.agg #[intV x.refs, intV x.place, intV x.at_, strV (fmE x)])) (aG_some hx)) ?_
   refine vc_p rfl rfl rfl (fun _ => (ev_field fv_76_0 rfl rfl)) ?_
   refine vc_p rfl rfl rfl (fun _ => (ev_move rfl)) ?_
   refine vc_p rfl rfl rfl (fun _ => (ev_buildS rfl pl_76_0_1_2 asz_76 zr_76 rfl)) ?_
   refine vc_s rfl rfl rfl rfl rfl rfl ?_
   have hsv10 : Value.agg #[intV x.refs, intV 3, intV (ks : Nat), strV []] = shV ⟨x.refs, 3, (ks : Nat), x.pg⟩ := rfl
   refine wl_mapUpdate (k := id) (v := Value.agg #[intV x.refs, intV 3, intV (ks : Nat), strV []]) 2 hS9 keysInt Tryz.underlying56 rfl rfl rfl rfl ?_
   intro w10 hS10a; dsimp only [List.set] at hS10a; have hS10 := hS10a; rw [hsv10, aG_up] at hS10
   clear hS9
   refine vc_e0 (.skip (by kernel_rfl) (.skip (by kernel_rfl) (.skip (by kernel_rfl) .nil))) ?_
   refine VC.nil (qs_seq ?_)
   refine wc_sub (L' := [(4, _), (0, _), (1, _)]) (.cons rfl (.cons rfl (.cons rfl .nil))) ?_
   refine wc_seq ?_
   have hS11 := shT_shut (S := { S with all := up S.all id (some ⟨x.refs, 3, (ks : Nat), x.pg⟩), sl := S.sl.set ks x.pg }) (hS10.pick [1, 2, 3, 4, 5, 0, 6, 7, 8] rfl)
   refine wc_region (wl_move rfl rfl (wl_move rfl rfl ?_))
   have hC12 := hS11.split [0] [true, false] rfl; dsimp only [selF, pickA, nthA, List.cons_append, List.nil_append] at hC12
   refine wl_call cal_65 rfl (shgive_sp hC12 (f := f) (b0 := x.pg) hf (by show S.ck.length = S.fr.length; rw [hI.ck, List.length_map]) (by show S.taken.length ≤ 900000; have := hI.tln; omega)) rfl ?_
   rintro e w12 ⟨_, rfl, rfl, hS12⟩; refine ⟨_, rfl, ?_⟩
   replace hS12 := hS12.join rfl; dsimp only [List.dropLast, List.cons_append, List.nil_append] at hS12; clear hC12
   clear hS11
   refine wl_nil (qs_seq (wc_seq (wc_region (wl_assign rfl rfl (wl_nil (qs_seq (wc_ret ?_)))))))
   refine fin1 (.inr rfl) rfl rfl ?_
   exact ⟨_, rfl, .inr ⟨rfl, _, evict_slot hI hE hx hpl hat hks, hS12.pick [0, 1] rfl⟩⟩
  exact absurd h4 (by simp)
 refine ⟨_, rfl, ?_⟩
 replace hS3 := hS3.join rfl; dsimp only [List.dropLast, List.cons_append, List.nil_append] at hS3; clear hC3
 clear hS2
 refine wl_not rfl rfl ?_
 refine wl_nil (qs_seq ?_)
 refine wc_cond rfl (fun h13 => ?_) (fun h13 => ?_)
 ·exact absurd h13 (by simp)
 refine wc_skip (qs_seq (wc_seq (wc_region (wl_move rfl rfl (wl_move rfl rfl ?_)))))
 have hC14 := hS3.split [0] [true, false] rfl; dsimp only [selF, pickA, nthA, List.cons_append, List.nil_append] at hC14
 refine wl_call cal_65 rfl (shgive_sp hC14 (f := f) (b0 := x.pg) (by show frAt S1.fr f = _; rw [hP1.fr]; exact hf) (by show S1.ck.length = S1.fr.length; rw [hI1.ck, List.length_map]) (by show S1.taken.length ≤ 900000; have := hI1.tln; omega)) rfl ?_
 rintro e w14 ⟨_, rfl, rfl, hS14⟩; refine ⟨_, rfl, ?_⟩
 replace hS14 := hS14.join rfl; dsimp only [List.dropLast, List.cons_append, List.nil_append] at hS14; clear hC14
 clear hS3
 refine wl_nil (qs_seq ?_)
 refine wc_sub (L' := [(4, _)]) (.cons rfl .nil) ?_
 refine wc_seq (wc_region (wl_assign rfl rfl (wl_nil (qs_seq (wc_ret ?_)))))
 refine fin1 (.inr rfl) rfl rfl ?_
 exact ⟨_, rfl, .inr ⟨rfl, _, evict_pack hI hI1 hP1 hE hx hpl hat (by rw [hpm]; simp) (by rw [show fm x.pg = fx by unfold fm; rw [hpm]; rfl]; exact hsum), hS14.pick [0, 1] rfl⟩⟩
noncomputable def gotF (S : SS) (k : Nat) : SS := { S with fr := S.fr.set k (some (b64 [])), ck := S.ck.set k true }
structure GetS (E : Int → Prop) (T : Nat) (k : Nat) (S S' : SS) : Prop where
  inv : ShI E T S'
  go : ShG S S'
  fr : S'.fr[k]? = some none
  lim : ∀ j x, S.all j = some x → E j → S'.all j = some x
theorem get_now {E : Int → Prop} {T : Nat} {S : SS} {k : Nat} (h : ShI E T S) (hk : S.fr[k]? = some none) : GetS E (T + 1) k S S := ⟨h.mono (by omega), ShG.refl S, hk, fun _ _ h _ => h⟩
theorem get_ev {E : Int → Prop} {T : Nat} {S S' : SS} {f : Int} {k : Nat} (h : EvS E T f S S') (hk : S'.fr[k]? = some none) : GetS E (T + 1) k S S' := ⟨h.inv, h.go, hk, h.lim⟩
theorem ck_has {E : Int → Prop} {T : Nat} {S : SS} {k : Nat} (h : ShI E T S) (hk : S.ck[k]? = some true) : ∃ b, frAt S.fr (k : Nat) = some b := by
  rw [h.ck, List.getElem?_map] at hk
  obtain ⟨o, h1, h2⟩ := Option.map_eq_some_iff.1 hk
  obtain ⟨b, rfl⟩ := Option.isSome_iff_exists.1 h2
  refine ⟨b, ?_⟩
  unfold frAt
  rw [if_pos (by omega)]; simp [h1]
theorem ck_some {E : Int → Prop} {T : Nat} {S : SS} (h : ShI E T S) (hall : ∀ o ∈ S.fr, o ≠ none) (hno : ∀ x ∈ S.ck, x = false) : False := by
  have h1 := h.fr1
  obtain ⟨o, ho⟩ : ∃ o, S.fr[0]? = some o := ⟨_, List.getElem?_eq_getElem (by omega)⟩
  have h2 := hall o (List.mem_of_getElem? ho)
  have h3 : S.ck[0]? = some o.isSome := by rw [h.ck, List.getElem?_map, ho]; rfl
  have h4 := hno _ (List.mem_of_getElem? h3)
  cases o with
  | none => exact h2 rfl
  | some b => cases h4
set_option maxRecDepth 100000 in
set_option maxHeartbeats 1600000 in
theorem shget_sp {w : World} {p : Nat} {S : SS} {F : Th} (hS : Sat w [shT p S, F]) {E : Int → Prop} {N : Nat} (hI : ShI E N S) (hN : N ≤ 800000) :
    Calls Tryz.prog 63 #[ptrV p 0] w (Ret fun v w' => (v = .tuple #[intV 0, .bool false] ∧ (∀ o ∈ S.fr, o ≠ none) ∧ usedN S.sl = S.sl.length ∧ Sat w' [shT p S, F]) ∨ (∃ k S1, v = .tuple #[intV (k : Nat), .bool true] ∧ GetS E (N + 1) k S S1 ∧ Sat w' [shT p (gotF S1 k), F])) := by
 obtain ⟨ba, bi, fp, sp, kp, ac, cc, at2, ct, hS⟩ := shT_open hS
 refine calls_enter Tryz.func63 rfl Tryz.ntmps63 rfl ?_
 refine wc_seq (wc_region (wl_assign rfl rfl (wl_assign rfl rfl (wl_nil (qs_seq (wc_seq (wc_region (wl_move rfl rfl (wl_nilCheck rfl rfl ?_)))))))))
 refine wl_fieldAddr rfl fo_65_3 rfl ?_
 refine wl_load rfl ag_58 (by first | assumption | exact hS.cell 0 rfl rfl) rfl ?_
 have hC1 := hS.split [4] [false, false, false, false, true, false, false, false, false] rfl; dsimp only [selF, pickA, nthA, List.cons_append, List.nil_append] at hC1
 refine wl_call cal_89 rfl (fralloc_sp hC1) rfl ?_
 rintro e w1 ⟨_, rfl, (⟨rfl, hall1, hS1⟩ | ⟨k, hk, rfl, hS1⟩)⟩
 ·refine ⟨_, rfl, ?_⟩
  replace hS1 := hS1.join rfl; dsimp only [List.dropLast, List.cons_append, List.nil_append] at hS1; clear hC1
  refine wl_move rfl rfl (wl_extract rfl rfl rfl (wl_extract rfl rfl rfl (wl_assign rfl rfl (wl_assign rfl rfl (wl_nil (qs_seq ?_))))))
  refine wc_sub (L' := [(5, _), (4, _), (3, _), (2, _), (0, _)]) (.cons rfl (.cons rfl (.cons rfl (.cons rfl (.cons rfl .nil))))) ?_
  refine wc_seq (wc_seq (wc_region (wl_move rfl rfl ?_)))
  refine wl_not rfl rfl ?_
  refine wl_nil (qs_seq ?_)
  refine wc_cond rfl (fun h2 => ?_) (fun h2 => ?_)
  ·refine wc_seq (wc_region (wl_move rfl rfl (wl_nilCheck rfl rfl ?_)))
   refine wl_fieldAddr rfl fo_65_5 rfl ?_
   refine wl_load rfl ag_62 (by first | assumption | exact hS1.cell 1 rfl rfl) rfl ?_
   have hC3 := hS1.split [6] [false, false, false, false, false, false, true, false, false] rfl; dsimp only [selF, pickA, nthA, List.cons_append, List.nil_append] at hC3
   refine wl_call cal_68 rfl (ckpick_sp hC3) rfl ?_
   rintro e w3 ⟨_, rfl, (⟨kv, hkv, rfl, hS3⟩ | ⟨hno, rfl, hS3⟩)⟩
   ·refine ⟨_, rfl, ?_⟩
    replace hS3 := hS3.join rfl; dsimp only [List.dropLast, List.cons_append, List.nil_append] at hS3; clear hC3
    clear hS1
    refine wl_move rfl rfl (wl_extract rfl rfl rfl (wl_extract rfl rfl rfl (wl_assign rfl rfl (wl_assign rfl rfl (wl_nil (qs_seq ?_))))))
    refine wc_sub (L' := [(7, _), (6, _), (5, _), (4, _), (3, _), (2, _), (0, _)]) (.cons rfl (.cons rfl (.cons rfl (.cons rfl (.cons rfl (.cons rfl (.cons rfl .nil))))))) ?_
    refine wc_seq (wc_seq (wc_region (wl_move rfl rfl ?_)))
    refine wl_not rfl rfl ?_
    refine wl_move rfl rfl ?_
    refine wl_split 28 rfl (fun h4 => ?_) (fun h4 => ?_)
    ·exact absurd h4 (by simp)
    refine wl_guard rfl rfl h4 ?_
    refine wl_move rfl rfl ?_
    refine wl_guard rfl rfl h4 ?_
    refine wl_move rfl rfl ?_
    refine wl_guard rfl rfl h4 ?_
    have hS5 := shT_shut (hS3.pick [2, 3, 4, 5, 1, 6, 0, 7, 8] rfl)
    obtain ⟨bk, hbk⟩ := ck_has hI hkv
    have hC6 := hS5.split [0] [true, false] rfl; dsimp only [selF, pickA, nthA, List.cons_append, List.nil_append] at hC6
    refine wl_call cal_69 rfl (shevict_sp hC6 hI hN hbk) rfl ?_
    rintro e w6 ⟨_, rfl, (⟨rfl, hfull, hS6⟩ | ⟨rfl, S2, hE2, hS6⟩)⟩
    ·refine ⟨_, rfl, ?_⟩
     replace hS6 := hS6.join rfl; dsimp only [List.dropLast, List.cons_append, List.nil_append] at hS6; clear hC6
     clear hS5
     refine wl_guard rfl rfl h4 ?_
     refine wl_not rfl rfl ?_
     refine wl_pickF rfl h4 rfl rfl ?_
     refine wl_nil (qs_seq ?_)
     refine wc_sub (L' := [(33, _), (5, _), (4, _), (3, _), (2, _), (0, _)]) (.cons rfl (.cons rfl (.cons rfl (.cons rfl (.cons rfl (.cons rfl .nil)))))) ?_
     refine wc_cond rfl (fun h7 => ?_) (fun h7 => ?_)
     ·refine wc_seq (wc_region (wl_assign rfl rfl (wl_assign rfl rfl (wl_nil (qs_seq (wc_ret (qs_then_ret (qs_then_ret ?_))))))))
      refine fin2 (.inr rfl) rfl rfl rfl ?_
      exact ⟨_, rfl, .inl ⟨rfl, hall1, hfull, hS6.pick [0, 1] rfl⟩⟩
     exact absurd h7 (by simp)
    refine ⟨_, rfl, ?_⟩
    replace hS6 := hS6.join rfl; dsimp only [List.dropLast, List.cons_append, List.nil_append] at hS6; clear hC6
    clear hS5
    refine wl_guard rfl rfl h4 ?_
    refine wl_not rfl rfl ?_
    refine wl_pickF rfl h4 rfl rfl ?_
    refine wl_nil (qs_seq ?_)
    refine wc_sub (L' := [(33, _), (5, _), (4, _), (3, _), (2, _), (0, _)]) (.cons rfl (.cons rfl (.cons rfl (.cons rfl (.cons rfl (.cons rfl .nil)))))) ?_
    refine wc_cond rfl (fun h8 => ?_) (fun h8 => ?_)
    ·exact absurd h8 (by simp)
    refine wc_skip (qs_seq ?_)
    obtain ⟨ba, bi, fp, sp, kp, ac, cc, at2, ct, hSo9⟩ := shT_open (hS6.pick [0, 1] rfl)
    refine wc_region (wl_move rfl rfl (wl_nilCheck rfl rfl ?_))
    refine wl_fieldAddr rfl fo_65_3 rfl ?_
    refine wl_load rfl ag_58 (by first | assumption | exact hSo9.cell 0 rfl rfl) rfl ?_
    have hC10 := hSo9.split [4] [false, false, false, false, true, false, false, false, false] rfl; dsimp only [selF, pickA, nthA, List.cons_append, List.nil_append] at hC10
    refine wl_call cal_89 rfl (fralloc_sp hC10) rfl ?_
    rintro e w10 ⟨_, rfl, (⟨rfl, hall2, hS10⟩ | ⟨k, hk, rfl, hS10⟩)⟩
    ·exact absurd rfl (hall2 none (by rw [hE2.fr]; exact List.mem_of_getElem? (List.getElem?_set_self (by have := (frAt_lt hbk).2; omega))))
    refine ⟨_, rfl, ?_⟩
    replace hS10 := hS10.join rfl; dsimp only [List.dropLast, List.cons_append, List.nil_append] at hS10; clear hC10
    clear hSo9
    refine wl_move rfl rfl (wl_extract rfl rfl rfl (wl_extract rfl rfl rfl (wl_assign rfl rfl (wl_assign rfl rfl (wl_nil (qs_seq ?_))))))
    refine wc_sub (L' := [(5, _), (4, _), (3, _), (2, _), (0, _)]) (.cons rfl (.cons rfl (.cons rfl (.cons rfl (.cons rfl .nil))))) ?_
    refine wc_seq (wc_seq (wc_region (wl_move rfl rfl (wl_nil (qs_seq ?_)))))
    refine wc_cond rfl (fun h11 => ?_) (fun h11 => ?_)
    ·refine wc_region (wl_move rfl rfl (wl_nilCheck rfl rfl ?_))
     refine wl_fieldAddr rfl fo_65_5 rfl ?_
     refine wl_load rfl ag_62 (by first | assumption | exact hS10.cell 1 rfl rfl) rfl ?_
     refine wl_move rfl rfl ?_
     have hkl : k < S2.fr.length := (List.getElem?_eq_some_iff.1 hk).1
     have hkc : S2.ck.length = S2.fr.length := by rw [(hE2.inv).ck, List.length_map]
     have hC12 := hS10.split [6] [false, false, false, false, false, false, true, false, false] rfl; dsimp only [selF, pickA, nthA, List.cons_append, List.nil_append] at hC12
     refine wl_call cal_70 rfl (ckuseT hC12 (k : Int) (by omega) 0) rfl ?_
     rintro e w12 ⟨_, rfl, rfl, hS12⟩; refine ⟨_, rfl, ?_⟩
     replace hS12 := hS12.join rfl; dsimp only [List.dropLast, List.cons_append, List.nil_append] at hS12; clear hC12
     clear hS10
     simp only [Int.toNat_natCast] at hS12
     refine wl_nil (qs_seq ?_)
     refine wc_sub (L' := [(5, _), (4, _), (3, _), (2, _)]) (.cons rfl (.cons rfl (.cons rfl (.cons rfl .nil)))) ?_
     refine wc_seq (wc_region (wl_move rfl rfl (wl_move rfl rfl (wl_assign rfl rfl (wl_assign rfl rfl (wl_nil (qs_seq (wc_ret ?_))))))))
     refine fin2 (.inr rfl) rfl rfl rfl ?_
     exact ⟨_, rfl, .inr ⟨k, S2, rfl, get_ev hE2 hk, shT_shut (S := gotF S2 k) (hS12.pick [2, 3, 4, 5, 1, 6, 0, 7, 8] rfl)⟩⟩
    exact absurd h11 (by simp)
   exact (ck_some hI hall1 hno).elim
  exact absurd h2 (by simp)
 refine ⟨_, rfl, ?_⟩
 replace hS1 := hS1.join rfl; dsimp only [List.dropLast, List.cons_append, List.nil_append] at hS1; clear hC1
 refine wl_move rfl rfl (wl_extract rfl rfl rfl (wl_extract rfl rfl rfl (wl_assign rfl rfl (wl_assign rfl rfl (wl_nil (qs_seq ?_))))))
 refine wc_sub (L' := [(5, _), (4, _), (3, _), (2, _), (0, _)]) (.cons rfl (.cons rfl (.cons rfl (.cons rfl (.cons rfl .nil))))) ?_
 refine wc_seq (wc_seq (wc_region (wl_move rfl rfl ?_)))
 refine wl_not rfl rfl ?_
 refine wl_nil (qs_seq ?_)
 refine wc_cond rfl (fun h13 => ?_) (fun h13 => ?_)
 ·exact absurd h13 (by simp)
 refine wc_skip (qs_seq (wc_seq (wc_seq (wc_region (wl_move rfl rfl (wl_nil (qs_seq ?_)))))))
 refine wc_cond rfl (fun h14 => ?_) (fun h14 => ?_)
 ·refine wc_region (wl_move rfl rfl (wl_nilCheck rfl rfl ?_))
  refine wl_fieldAddr rfl fo_65_5 rfl ?_
  refine wl_load rfl ag_62 (by first | assumption | exact hS1.cell 1 rfl rfl) rfl ?_
  refine wl_move rfl rfl ?_
  have hkl : k < S.fr.length := (List.getElem?_eq_some_iff.1 hk).1
  have hkc : S.ck.length = S.fr.length := by rw [(hI).ck, List.length_map]
  have hC15 := hS1.split [6] [false, false, false, false, false, false, true, false, false] rfl; dsimp only [selF, pickA, nthA, List.cons_append, List.nil_append] at hC15
  refine wl_call cal_70 rfl (ckuseT hC15 (k : Int) (by omega) 0) rfl ?_
  rintro e w15 ⟨_, rfl, rfl, hS15⟩; refine ⟨_, rfl, ?_⟩
  replace hS15 := hS15.join rfl; dsimp only [List.dropLast, List.cons_append, List.nil_append] at hS15; clear hC15
  clear hS1
  simp only [Int.toNat_natCast] at hS15
  refine wl_nil (qs_seq ?_)
  refine wc_sub (L' := [(5, _), (4, _), (3, _), (2, _)]) (.cons rfl (.cons rfl (.cons rfl (.cons rfl .nil)))) ?_
  refine wc_seq (wc_region (wl_move rfl rfl (wl_move rfl rfl (wl_assign rfl rfl (wl_assign rfl rfl (wl_nil (qs_seq (wc_ret ?_))))))))
  refine fin2 (.inr rfl) rfl rfl rfl ?_
  exact ⟨_, rfl, .inr ⟨k, S, rfl, get_now hI hk, shT_shut (S := gotF S k) (hS15.pick [2, 3, 4, 5, 1, 6, 0, 7, 8] rfl)⟩⟩
 exact absurd h14 (by simp)
end Go.Proofs.YtnicmcdeoimhlaaGreat
/- Look-ups with two results, and maps with as many keys as another. Conditions: each rule's own hypotheses. -/
namespace Go.Proofs.YtnicmcdeoimhlaaGreat.M
open Go.RowKit
section
variable {P : Program} {n : Nat} {ops : Array Oper} {Q : Exit → Act → World → Prop} {rest : List Oper} {L : Env} {w : World} {d : Nat} {ty : TypeId} {pos : String} {aft : Array Edge} {κ : Type} {kv : κ → Value} {As : List Th}
theorem ev_lookupOk {mt kt et : TypeId} {x y : Operand} {b : Nat} {f : κ → Option Value} {k : κ} {z : Value} (i : Nat) (hS : Sat w As) (K : KeyOk P kt kv) (hm : P.underlying mt = some (.map kt et)) (hi : As[i]? = some (mapT kv b f)) (hx : look L x = some (.map (some b))) (hy : look L y = some (kv k)) (hz : zeroOf P et = some (some z)) {u : Value} {g : Bool} (hv : (f k).getD z = u) (hg : (f k).isSome = g) : Ev P L w ⟨some d, .lookup mt x y true, ty, pos, aft, none⟩ (.tuple #[u, .bool g]) := fun ρ hρ => by
  subst hv; subst hg
  obtain ⟨es, c, h, h2⟩ := hS.map i hi
  have hx' := hρ _ _ hx
  have hy' := hρ _ _ hy
  rcases K.find k es.toList w h.keys with ⟨j, e, h1, h3, h4⟩ | ⟨h1, h4⟩
  · have : (f k) = some e.val := (h2 k e.val).2 ⟨e, List.mem_of_getElem? h1, h3, rfl⟩
    simp [execOp, hx', hy', Instr.lookup, run_underlying hm, MapKept.run_getObj_map h.blk, K.check, h4, this]
  · have : f k = none := by
      cases hf : f k with
      | none => rfl
      | some u => obtain ⟨e, he, hkk, _⟩ := (h2 k u).1 hf; exact absurd hkk (h1 e he)
    simp [execOp, hx', hy', Instr.lookup, run_underlying hm, MapKept.run_getObj_map h.blk, K.check, h4, this, run_zeroOf hz]
theorem wl_lookupOk {mt kt et : TypeId} {x y : Operand} {b : Nat} {f : κ → Option Value} {k : κ} {z : Value} (i : Nat) (hS : Sat w As) (K : KeyOk P kt kv) (hm : P.underlying mt = some (.map kt et)) (hi : As[i]? = some (mapT kv b f)) (hx : look L x = some (.map (some b))) (hy : look L y = some (kv k)) (hz : zeroOf P et = some (some z)) {u : Value} {g : Bool} (hv : (f k).getD z = u) (hg : (f k).isSome = g) (hd : Nat.blt d n = true)
    (hk : wl P n ops Q rest ((d, .tuple #[u, .bool g]) :: L) w) : wl P n ops Q (⟨some d, .lookup mt x y true, ty, pos, aft, none⟩ :: rest) L w := wl_val hd (ev_lookupOk i hS K hm hi hx hy hz hv hg) hk
theorem Card.sub {f g : κ → Option Value} {m : Nat} (h : Card f m) (h' : Card g m) (e : ∀ k v, f k = some v → g k = some v) : f = g := by
  obtain ⟨ks, h1, h2, h3⟩ := h
  obtain ⟨js, g1, g2, g3⟩ := h'
  have s1 : ∀ x ∈ ks, x ∈ js := fun x hx => (g3 x).1 fun q => by
    cases hf : f x with
    | none => exact ((h3 x).2 hx) hf
    | some v => rw [e x v hf] at q; cases q
  have s2 : ∀ x ∈ js, x ∈ ks := fun x hx => Classical.byContradiction fun hn => by
    have := List.Nodup.length_le_of_subset (l₂ := js) (List.nodup_cons.2 ⟨hn, h1⟩) (by
      intro y hy
      rcases List.mem_cons.1 hy with rfl | hy
      · exact hx
      · exact s1 y hy)
    simp at this; omega
  funext k
  cases hf : f k with
  | some v => exact (e k v hf).symm
  | none =>
    cases hg : g k with
    | none => rfl
    | some v => exact absurd hf ((h3 k).2 (s2 k ((g3 k).1 (by rw [hg]; simp))))
end
end Go.Proofs.YtnicmcdeoimhlaaGreat.M
