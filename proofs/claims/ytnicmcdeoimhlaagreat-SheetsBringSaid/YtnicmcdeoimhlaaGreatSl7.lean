/- laws of sheets: SheetsBring -/
import Derived.Test.YtnicmcdeoimhlaaGreatSl1
import Derived.Test.YtnicmcdeoimhlaaGreatMem
import Derived.ProofKit
import Derived.OpenShut
import Derived.ShutString
import Derived.ChangeOld
import Derived.Deep.Slices
import Derived.Deep.Fields
import Derived.ChangeSame
import Derived.JoinedCond
namespace Go.Proofs.YtnicmcdeoimhlaaGreat
open Go.RowKit M
set_option linter.unusedVariables false
/-- what Bring has done, whatever it was -/
structure BrU (N : Nat) (S S3 : SS) (id f e : Int) : Prop where
  inv : ShI no0 (N + 1) S3
  vw : vw S3 = vw S
  same : e ≠ 0 → S3 = S
  non : S.all id = none → e = 4 ∧ f = 0
  is : S.all id ≠ none → (e = 0 ∧ ∃ x, S3.all id = some x ∧ x.place = 1 ∧ x.at_ = f) ∨ (e = 6 ∧ f = 0 ∧ (∀ o ∈ S.fr, o ≠ none) ∧ usedN S.sl = S.sl.length ∧ ∃ x, S.all id = some x ∧ x.place = 2)
theorem shbringU {w : World} {p : Nat} {S : SS} {F : Th} (hS : Sat w [shT p S, F]) {N : Nat} (hI : ShI no0 N S) (hN : N ≤ 800000) (id : Int) : Calls Tryz.prog 24 #[ptrV p 0, intV id] w (Ret fun v w' => ∃ f e S3, v = .tuple #[intV f, intV e] ∧ BrU N S S3 id f e ∧ Sat w' [shT p S3, F]) := by
  refine (shbring_or hS hI hN id).mono fun e w h => h.mono fun v w h => ?_
  have hm := hI.mono (Nat.le_add_right N 1)
  rcases h with ⟨h1, h2, h3⟩ | ⟨x, h1, h4, h2, h3⟩ | ⟨x, k, S', h1, h4, h2, hB, h3⟩ | ⟨x, h1, h4, h2, h5, h6, h3⟩
  · exact ⟨0, 4, S, h2, ⟨hm, rfl, fun _ => rfl, fun _ => ⟨rfl, rfl⟩, fun q => absurd h1 q⟩, h3⟩
  · exact ⟨x.at_, 0, S, h2, ⟨hm, rfl, fun q => absurd rfl q, fun q => (by rw [h1] at q; cases q), fun _ => .inl ⟨rfl, x, h1, h4, rfl⟩⟩, h3⟩
  · exact ⟨(k : Nat), 0, S', h2, ⟨hB.inv, hB.go.vw, fun q => absurd rfl q, fun q => (by rw [h1] at q; cases q), fun _ => .inl ⟨rfl, _, hB.is, rfl, rfl⟩⟩, h3⟩
  · exact ⟨0, 6, S, h2, ⟨hm, rfl, fun _ => rfl, fun q => (by rw [h1] at q; cases q), fun _ => .inr ⟨rfl, rfl, h5, h6, x, h1, h4⟩⟩, h3⟩
def plOf (S : SS) (id : Int) : Int := match S.all id with | none => 0 | some x => x.place
theorem shplaceI_sp {w : World} {p : Nat} {S : SS} {F : Th} (hS : Sat w [shT p S, F]) (id : Int) : Calls Tryz.prog 19 #[ptrV p 0, intV id] w (Ret fun v w' => v = intV (plOf S id) ∧ Sat w' [shT p S, F]) := by
  refine (shplace_sp hS id).mono fun e w h => h.mono fun v w h => ?_
  unfold plOf
  cases hid : S.all id with
  | none => rw [hid] at h; exact h
  | some x => rw [hid] at h; exact h
theorem pg_same {S S3 : SS} (h : vw S3 = vw S) (j : Int) : shPg S3 j = shPg S j := by
  have := congrFun h j
  unfold vw at this
  unfold shPg
  cases h1 : S3.all j <;> cases h2 : S.all j <;> rw [h1, h2] at this <;> simp_all
theorem full_f : ∀ {fl : List (Option Bs)}, (∀ o ∈ fl, o ≠ none) → usedF fl = fl.length
  | [], _ => rfl
  | o :: fl, h => by
    have h1 := full_f (fl := fl) fun q hq => h q (List.mem_cons_of_mem _ hq)
    have h2 : o.isSome = true := by cases o with | none => exact absurd rfl (h none (by simp)) | some b => rfl
    unfold usedF at h1 ⊢
    rw [List.filter_cons, if_pos h2, List.length_cons, List.length_cons, h1]
set_option maxRecDepth 100000 in
set_option maxHeartbeats 3200000 in
theorem bring_law {w : World} {F : Th} (hS : Sat w [F]) {lv : Value} {l : List OpD} (count slots budget id : Int) (hL : Ent F (RdL opC lv l)) :
    Calls Tryz.prog 6 #[intV count, intV slots, intV budget, lv, intV id] w (Ret fun v w' => v = .bool true ∧ Sat w' [F]) := by
 obtain ⟨ao, cap, rfl, hmax⟩ := (hL.sat hS 0 rfl).shape
 refine calls_enter Tryz.func6 rfl Tryz.ntmps6 rfl ?_
 refine wc_seq (wc_region (wl_assign rfl rfl (wl_nil (qs_seq (wc_seq (wc_region ?_))))))
 have hC1 := hS.split [] [false] rfl; dsimp only [selF, pickA, nthA, List.cons_append, List.nil_append] at hC1
 refine wl_call cal_8 rfl (small_sp hC1) rfl ?_
 rintro e w1 ⟨_, rfl, rfl, hS1⟩; refine ⟨_, rfl, ?_⟩
 replace hS1 := hS1.join rfl; dsimp only [List.dropLast, List.cons_append, List.nil_append] at hS1; clear hC1
 refine wl_assign rfl rfl (wl_nil (qs_seq (wc_seq (wc_region (wl_move rfl rfl (wl_move rfl rfl (wl_move rfl rfl ?_)))))))
 have hC2 := hS1.split [] [false] rfl; dsimp only [selF, pickA, nthA, List.cons_append, List.nil_append] at hC2
 refine wl_call cal_9 rfl (shnew_sp hC2 count slots budget) rfl ?_
 rintro e w2 ⟨_, rfl, p, rfl, hS2⟩; refine ⟨_, rfl, ?_⟩
 replace hS2 := hS2.join rfl; dsimp only [List.dropLast, List.cons_append, List.nil_append] at hS2; clear hC2
 clear hS1
 refine wl_assign rfl rfl (wl_nil (qs_seq ?_))
 refine wc_sub (L' := [(12, _), (11, _), (10, _), (3, _), (4, _)]) (.cons rfl (.cons rfl (.cons rfl (.cons rfl (.cons rfl .nil))))) ?_
 refine wc_seq (wc_seq (wc_region (wl_move rfl rfl ?_)))
 have hC3 := hS2.split [] [false, false] rfl; dsimp only [selF, pickA, nthA, List.cons_append, List.nil_append] at hC3
 refine wl_call cal_10 rfl (few_sp hC3 (hL.starL 1 rfl) 50) rfl ?_
 rintro e w3 ⟨_, rfl, rfl, hS3⟩; refine ⟨_, rfl, ?_⟩
 replace hS3 := hS3.join rfl; dsimp only [List.dropLast, List.cons_append, List.nil_append] at hS3; clear hC3
 clear hS2
 refine wl_not rfl rfl ?_
 refine wl_move rfl rfl ?_
 refine wl_split 30 rfl (fun h4 => ?_) (fun h4 => ?_)
 ·refine wl_unwanted rfl rfl h4 rfl ?_
  refine wl_unwanted rfl rfl h4 rfl ?_
  refine wl_pickT rfl h4 rfl rfl ?_
  refine wl_nil (qs_seq ?_)
  refine wc_sub (L' := [(33, _), (12, _), (11, _), (10, _), (3, _), (4, _)]) (.cons rfl (.cons rfl (.cons rfl (.cons rfl (.cons rfl (.cons rfl .nil)))))) ?_
  refine wc_condT rfl ?_
  refine wc_seq (wc_region (wl_move rfl rfl (wl_move rfl rfl ?_)))
  refine wl_split 35 rfl (fun h5 => ?_) (fun h5 => ?_)
  ·refine wl_guard rfl rfl h5 ?_
   refine wl_move rfl rfl ?_
   refine wl_guard rfl rfl h5 ?_
   refine wl_neqNil Tryz.underlying24 rfl rfl rfl ?_
   refine wl_pickT rfl h5 rfl rfl ?_
   refine wl_assign rfl rfl (wl_nil (qs_seq ?_))
   refine wc_sub (L' := [(10, _), (12, _), (11, _), (3, _), (4, _)]) (.cons rfl (.cons rfl (.cons rfl (.cons rfl (.cons rfl .nil))))) ?_
   refine wc_ret (qs_then_ret ?_)
   refine fin1 (.inr rfl) rfl rfl ?_
   exact ⟨_, rfl, by first | rfl | exact congrArg Value.bool (decide_eq_true hp2) | (rw [decide_eq_true hp2]), hS3.pick [1] rfl⟩
  exact absurd h5 (by simp)
 have hfew : fewB l 50 = true := by simpa using h4
 have hall := few_all hfew
 refine wl_guard rfl rfl h4 ?_
 refine wl_move rfl rfl ?_
 refine wl_guard rfl rfl h4 ?_
 refine wl_eqlNil Tryz.underlying24 rfl rfl rfl ?_
 refine wl_pickF rfl h4 rfl rfl ?_
 refine wl_nil (qs_seq ?_)
 refine wc_sub (L' := [(33, _), (12, _), (11, _), (10, _), (3, _), (4, _)]) (.cons rfl (.cons rfl (.cons rfl (.cons rfl (.cons rfl (.cons rfl .nil)))))) ?_
 refine wc_condF rfl ?_
 refine wc_skip (qs_seq (wc_seq (wc_seq (wc_region (wl_assign rfl rfl (wl_nil (qs_seq (wc_block ?_))))))))
 refine wc_loop (fun K0 E0 W0 => ∃ (i : Nat) (S : SS), K0 = l.length - i ∧ E0 = [(3, .slice ao l.length cap), (4, intV id), (11, .bool true), (12, ptrV p 0), (13, intV (i : Int))] ∧ Sat W0 [shT p S, F] ∧ (i ≤ l.length) ∧ (ShI no0 (301 * i) S) ∧ (DomV (vw S) i)) (L0 := [(3, _), (4, _), (11, _), (12, _), (13, _)]) (l.length - 0) (.cons rfl (.cons rfl (.cons rfl (.cons rfl (.cons rfl .nil))))) ⟨0, _, rfl, rfl, hS3, by omega, newS_inv count slots budget, DomV.nil⟩ ?_
 rintro _ _ w6 ⟨i, S, rfl, rfl, hS6, hi, hI, hdm⟩
 refine wc_seq (wc_seq (wc_region (wl_move rfl rfl (wl_move rfl rfl ?_))))
 refine wl_lenL Tryz.underlying22 rfl rfl ?_
 refine wl_lss rfl rfl rfl ?_
 refine wl_nil (qs_seq ?_)
 refine wc_condD rfl (fun h7 => ?_) (fun h7 => ?_)
 ·obtain ⟨o, ho⟩ : ∃ o, l[i]? = some o := ⟨_, List.getElem?_eq_getElem (by omega)⟩
  obtain ⟨b, off, rfl, _⟩ := (hL.sat hS6 1 rfl).get ho
  have hil := (List.getElem?_eq_some_iff.1 ho).1
  have hoo := hall.1 i o ho
  refine wc_skip (qs_seq (wc_seq (wc_block (wc_region (wl_move rfl rfl (wl_move rfl rfl (wl_move rfl rfl ?_)))))))
  refine wl_indexAddr i rfl rfl (by first | rfl | omega) (by omega) es_22 rfl ?_
  refine wl_loadAt rfl ag_33 sz_33 (vs := opV o) ((hL.sat hS6 1 rfl).at_ ho) rfl ?_
  have hC8 := hS6.split [0] [true, false] rfl; dsimp only [selF, pickA, nthA, List.cons_append, List.nil_append] at hC8
  refine wl_call cal_11 rfl (do_sp hC8 hI (by omega) o hoo) rfl ?_
  rintro e w8 ⟨_, rfl, a, e, S2, rfl, hDo, hS8⟩; refine ⟨_, rfl, ?_⟩
  replace hS8 := hS8.join rfl; dsimp only [List.dropLast, List.cons_append, List.nil_append] at hS8; clear hC8
  clear hS6
  refine wl_nil (qs_block_normal (qs_seq ?_))
  refine wc_sub (L' := [(3, _), (4, _), (11, _), (12, _), (13, _)]) (.cons rfl (.cons rfl (.cons rfl (.cons rfl (.cons rfl .nil))))) ?_
  refine wc_region (wl_move rfl rfl ?_)
  refine wl_add rfl rfl (by omega) (by omega) rfl ?_
  refine wl_assign rfl rfl (wl_nil ?_)
  exact qs_round (L1 := [(3, _), (4, _), (11, _), (12, _), (13, intV ((i + 1 : Nat) : Int))]) (.cons rfl (.cons rfl (.cons rfl (.cons rfl (.cons rfl .nil))))) (k1 := l.length - (i + 1)) (by omega) ⟨i + 1, S2, rfl, rfl, hS8.pick [0, 1] rfl, by omega, by have := hDo.inv; rwa [show 301 * i + 301 = 301 * (i + 1) by omega] at this, hdm.step hDo.v⟩
 refine wc_exit (qs_then_exit (qs_then_exit (qs_block_exit (qs_seq (wc_seq (wc_region (wl_move rfl rfl ?_)))))))
 have hC9 := hS6.split [0] [true, false] rfl; dsimp only [selF, pickA, nthA, List.cons_append, List.nil_append] at hC9
 refine wl_call cal_23 rfl (shcopy_sp hC9 hI (by omega)) rfl ?_
 rintro e w9 ⟨_, rfl, p2, rfl, hS9⟩; refine ⟨_, rfl, ?_⟩
 replace hS9 := hS9.join rfl; dsimp only [List.dropLast, List.cons_append, List.nil_append] at hS9; clear hC9
 clear hS6
 refine wl_assign rfl rfl (wl_nil (qs_seq ?_))
 refine wc_sub (L' := [(14, _), (4, _), (11, _), (12, _)]) (.cons rfl (.cons rfl (.cons rfl (.cons rfl .nil)))) ?_
 refine wc_seq (wc_seq (wc_region (wl_move rfl rfl ?_)))
 refine wl_eqlNil Tryz.underlying24 rfl rfl rfl ?_
 refine wl_nil (qs_seq ?_)
 refine wc_condF rfl ?_
 refine wc_skip (qs_seq (wc_seq (wc_region (wl_move rfl rfl (wl_move rfl rfl ?_)))))
 have hC10 := hS9.split [1] [false, true, false] rfl; dsimp only [selF, pickA, nthA, List.cons_append, List.nil_append] at hC10
 refine wl_call cal_24 rfl (shbringU hC10 hI (by omega) id) rfl ?_
 rintro e w10 ⟨_, rfl, f, e, S3, rfl, hBr, hS10⟩; refine ⟨_, rfl, ?_⟩
 replace hS10 := hS10.join rfl; dsimp only [List.dropLast, List.cons_append, List.nil_append] at hS10; clear hC10
 clear hS9
 refine wl_move rfl rfl (wl_extract rfl rfl rfl (wl_extract rfl rfl rfl (wl_assign rfl rfl (wl_assign rfl rfl (wl_nil (qs_seq ?_))))))
 refine wc_sub (L' := [(16, _), (15, _), (14, _), (4, _), (11, _), (12, _)]) (.cons rfl (.cons rfl (.cons rfl (.cons rfl (.cons rfl (.cons rfl .nil)))))) ?_
 refine wc_seq (wc_region (wl_move rfl rfl ?_))
 have hC11 := hS10.split [1] [false, true, false] rfl; dsimp only [selF, pickA, nthA, List.cons_append, List.nil_append] at hC11
 refine wl_call cal_17 rfl (shliveL_sp hC11 hdm (by omega)) rfl ?_
 rintro e w11 ⟨_, rfl, L, hL0, hLn, hS11⟩; refine ⟨_, rfl, ?_⟩
 replace hS11 := hS11.join rfl; dsimp only [List.dropLast, List.cons_append, List.nil_append] at hS11; clear hC11
 clear hS10
 obtain ⟨la, lc, hlv, _⟩ := hS11.own_shape 0 rfl
 obtain rfl := hlv
 refine wl_assign rfl rfl (wl_nil (qs_seq (wc_seq (wc_region (wl_assign rfl rfl (wl_nil (qs_seq (wc_seq (wc_seq (wc_region (wl_assign rfl rfl (wl_nil (qs_seq (wc_block ?_))))))))))))))
 have hq1 := hS11.pick [0, 1, 2, 3] rfl
 refine wc_loop (fun K0 E0 W0 => ∃ (k : Nat) (th : Bool), K0 = L.length - k ∧ E0 = [(4, intV id), (11, .bool true), (12, ptrV p 0), (14, ptrV p2 0), (15, intV f), (16, intV e), (17, .slice la L.length lc), (18, .bool th), (19, intV (k : Int))] ∧ Sat W0 [rowT inC (.slice la L.length lc) L, shT p2 S, shT p S3, F] ∧ (k ≤ L.length) ∧ (th = true ↔ id ∈ L.take k)) (L0 := [(4, _), (11, _), (12, _), (14, _), (15, _), (16, _), (17, _), (18, _), (19, _)]) (L.length - 0) (.cons rfl (.cons rfl (.cons rfl (.cons rfl (.cons rfl (.cons rfl (.cons rfl (.cons rfl (.cons rfl .nil))))))))) ⟨0, false, rfl, rfl, hq1, by omega, by simp⟩ ?_
 rintro _ _ w12 ⟨k, th, rfl, rfl, hS12, hk, hth⟩
 refine wc_seq (wc_seq (wc_region (wl_move rfl rfl (wl_move rfl rfl ?_))))
 first | refine wl_lenL Tryz.underlying28 rfl rfl ?_ | refine wl_lenO 0 hS12 Tryz.underlying28 rfl rfl rfl ?_
 refine wl_lss rfl rfl rfl ?_
 refine wl_nil (qs_seq ?_)
 refine wc_sub (L' := [(66, _), (4, _), (11, _), (12, _), (14, _), (15, _), (16, _), (17, _), (18, _), (19, _)]) (.cons rfl (.cons rfl (.cons rfl (.cons rfl (.cons rfl (.cons rfl (.cons rfl (.cons rfl (.cons rfl (.cons rfl .nil)))))))))) ?_
 refine wc_condD rfl (fun h13 => ?_) (fun h13 => ?_)
 ·obtain ⟨j, hj⟩ : ∃ x, L[k]? = some x := ⟨_, List.getElem?_eq_getElem (by omega)⟩
  obtain ⟨lb, lc9, hql, _⟩ := hS12.own_at 0 rfl (by omega); cases hql
  refine wc_skip (qs_seq (wc_seq (wc_block (wc_seq (wc_region (wl_move rfl rfl (wl_move rfl rfl ?_)))))))
  refine wl_split 70 rfl (fun h14 => ?_) (fun h14 => ?_)
  ·refine wl_unwanted rfl rfl h14 rfl ?_
   refine wl_unwanted rfl rfl h14 rfl ?_
   refine wl_unwanted rfl rfl h14 rfl ?_
   refine wl_unwanted rfl rfl h14 rfl ?_
   refine wl_unwanted rfl rfl h14 rfl ?_
   refine wl_unwanted rfl rfl h14 rfl ?_
   refine wl_pickT rfl h14 rfl rfl ?_
   refine wl_assign rfl rfl (wl_nil (qs_seq ?_))
   refine wc_sub (L' := [(18, _), (4, _), (11, _), (12, _), (14, _), (15, _), (16, _), (17, _), (19, _)]) (.cons rfl (.cons rfl (.cons rfl (.cons rfl (.cons rfl (.cons rfl (.cons rfl (.cons rfl (.cons rfl .nil))))))))) ?_
   refine wc_seq ?_
   have hS15 := hS12.drew
   refine wc_draw [0, 1, 2, 3, 4, 6, 7, 8, 9, 10, 5, 11, 12, 13, 14, 15, 16, 17, 18, 19, 20, 21, 23, 24, 25, 26, 27, 22, 28, 29, 30, 31] [5, 11, 22, 28] mix (by kernel_rfl) ?_
   refine vc_p rfl rfl rfl (fun _ => (ev_move rfl)) ?_
   refine vc_p rfl rfl rfl (fun _ => (ev_move rfl)) ?_
   refine vc_p rfl rfl rfl (fun _ => (ev_move rfl)) ?_
   refine vc_p rfl rfl rfl (fun _ => (ev_indexAddr k rfl rfl (by first | rfl | omega) (by first | omega | exact (List.getElem?_eq_some_iff.1 hj).1) es_28)) ?_
   refine vc_q rfl rfl rfl (ev_rowLoad0 inC 0 k 0 hS15 rfl hj ag_3 rfl rfl) ?_
   refine vc_p rfl rfl rfl (fun _ => (ev_move rfl)) ?_
   refine vc_p rfl rfl rfl (fun _ => (ev_move rfl)) ?_
   refine vc_p rfl rfl rfl (fun _ => (ev_move rfl)) ?_
   refine vc_p rfl rfl rfl (fun _ => (ev_indexAddr k rfl rfl (by first | rfl | omega) (by first | omega | exact (List.getElem?_eq_some_iff.1 hj).1) es_28)) ?_
   refine vc_q rfl rfl rfl (ev_rowLoad0 inC 0 k 0 hS15 rfl hj ag_3 rfl rfl) ?_
   refine vc_s rfl rfl rfl rfl rfl rfl ?_
   have hC16 := hS15.split [2] [false, false, true, false] rfl; dsimp only [selF, pickA, nthA, List.cons_append, List.nil_append] at hC16
   refine wl_call cal_21 rfl (shpage_sp hC16 hBr.inv j (fun q => q)) rfl ?_
   rintro e w16 ⟨_, rfl, rfl, hS16⟩; refine ⟨_, rfl, ?_⟩
   replace hS16 := hS16.join rfl; dsimp only [List.dropLast, List.cons_append, List.nil_append] at hS16; clear hC16
   clear hS15
   rw [pg_same hBr.vw j]
   refine vc_e (.cons (.inl ⟨rfl, (ev_rowLoad0 inC 1 k 0 hS16 rfl hj ag_3 rfl rfl)⟩) (.skip (by kernel_rfl) .nil)) ?_
   refine vc_s rfl rfl rfl rfl rfl rfl ?_
   have hC17 := hS16.split [2] [false, false, true, false] rfl; dsimp only [selF, pickA, nthA, List.cons_append, List.nil_append] at hC17
   refine wl_call cal_21 rfl (shpage_sp hC17 hI j (fun q => q)) rfl ?_
   rintro e w17 ⟨_, rfl, rfl, hS17⟩; refine ⟨_, rfl, ?_⟩
   replace hS17 := hS17.join rfl; dsimp only [List.dropLast, List.cons_append, List.nil_append] at hS17; clear hC17
   clear hS16
   refine vc_e (.skip (by kernel_rfl) (.skip (by kernel_rfl) .nil)) ?_
   refine vc_p rfl rfl rfl (fun _ => (ev_neqS rfl rfl)) ?_
   refine vc_p rfl rfl rfl (fun _ => (ev_move rfl)) ?_
   refine vc_splitD 91 rfl (fun h18 => ?_) (fun h18 => ?_)
   ·exact absurd rfl h18
   refine vc_p rfl rfl (guard_yes rfl rfl (decide_eq_false h18)) (fun _ => (Ev.gd (ev_move rfl))) ?_
   refine vc_p rfl rfl (guard_yes rfl rfl (decide_eq_false h18)) (fun _ => (Ev.gd (ev_neq rfl rfl))) ?_
   refine vc_p rfl rfl (guard_yes rfl rfl (decide_eq_false h18)) (fun _ => (Ev.gd (ev_move rfl))) ?_
   refine vc_splitD 94 rfl (fun h19 => ?_) (fun h19 => ?_)
   ·refine vc_p rfl rfl (guard_yes rfl rfl (decide_eq_true h19)) (fun _ => (Ev.gd (ev_move rfl))) ?_
    refine vc_p rfl rfl (guard_yes rfl rfl (decide_eq_true h19)) (fun _ => (Ev.gd (ev_move rfl))) ?_
    refine vc_p rfl rfl (guard_yes rfl rfl (decide_eq_true h19)) (fun _ => (Ev.gd (ev_move rfl))) ?_
    refine vc_p rfl rfl (guard_yes rfl rfl (decide_eq_true h19)) (fun _ => (Ev.gd (ev_indexAddr k rfl rfl (by first | rfl | omega) (by first | omega | exact (List.getElem?_eq_some_iff.1 hj).1) es_28))) ?_
    refine vc_q rfl rfl (guard_yes rfl rfl (decide_eq_true h19)) (Ev.gd (ev_rowLoad0 inC 2 k 0 hS17 rfl hj ag_3 rfl rfl)) ?_
    refine vc_p rfl rfl (guard_yes rfl rfl (decide_eq_true h19)) (fun _ => (Ev.gd (ev_move rfl))) ?_
    refine vc_p rfl rfl (guard_yes rfl rfl (decide_eq_true h19)) (fun _ => (Ev.gd (ev_move rfl))) ?_
    refine vc_p rfl rfl (guard_yes rfl rfl (decide_eq_true h19)) (fun _ => (Ev.gd (ev_move rfl))) ?_
    refine vc_p rfl rfl (guard_yes rfl rfl (decide_eq_true h19)) (fun _ => (Ev.gd (ev_indexAddr k rfl rfl (by first | rfl | omega) (by first | omega | exact (List.getElem?_eq_some_iff.1 hj).1) es_28))) ?_
    refine vc_q rfl rfl (guard_yes rfl rfl (decide_eq_true h19)) (Ev.gd (ev_rowLoad0 inC 2 k 0 hS17 rfl hj ag_3 rfl rfl)) ?_
    refine vc_s rfl rfl (guard_yes rfl rfl (decide_eq_true h19)) rfl rfl rfl ?_
    have hC20 := hS17.split [1] [false, true, false, false] rfl; dsimp only [selF, pickA, nthA, List.cons_append, List.nil_append] at hC20
    refine wl_call cal_19 rfl (shplaceI_sp hC20 j) rfl ?_
    rintro e w20 ⟨_, rfl, rfl, hS20⟩; refine ⟨_, rfl, ?_⟩
    replace hS20 := hS20.join rfl; dsimp only [List.dropLast, List.cons_append, List.nil_append] at hS20; clear hC20
    clear hS17
    rw [show plOf S3 j = plOf S j by rw [hBr.same (by assumption)]]
    refine vc_e (.cons (.inl ⟨(guard_yes rfl rfl (decide_eq_true h19)), (Ev.gd (ev_rowLoad0 inC 2 k 0 hS20 rfl hj ag_3 rfl rfl))⟩) (.skip (by kernel_rfl) (.skip (by kernel_rfl) (.skip (by kernel_rfl) .nil)))) ?_
    refine vc_s rfl rfl (guard_yes rfl rfl (decide_eq_true h19)) rfl rfl rfl ?_
    have hC21 := hS20.split [1] [false, true, false, false] rfl; dsimp only [selF, pickA, nthA, List.cons_append, List.nil_append] at hC21
    refine wl_call cal_19 rfl (shplaceI_sp hC21 j) rfl ?_
    rintro e w21 ⟨_, rfl, rfl, hS21⟩; refine ⟨_, rfl, ?_⟩
    replace hS21 := hS21.join rfl; dsimp only [List.dropLast, List.cons_append, List.nil_append] at hS21; clear hC21
    clear hS20
    refine vc_e (.skip (by kernel_rfl) (.skip (by kernel_rfl) (.skip (by kernel_rfl) (.skip (by kernel_rfl) .nil)))) ?_
    refine vc_p rfl rfl (guard_yes rfl rfl (decide_eq_true h19)) (fun _ => (Ev.gd (ev_neq rfl rfl))) ?_
    refine vc_p rfl rfl (guard_yes rfl rfl (decide_eq_false h18)) (fun _ => (Ev.gd (ev_pickT rfl (decide_eq_true h19) rfl))) ?_
    refine vc_p rfl rfl rfl (fun _ => (ev_pickF rfl (decide_eq_false h18) rfl)) ?_
    refine VC.nil (qs_seq ?_)
    refine wc_sub (L' := [(109, _), (18, _), (4, _), (11, _), (12, _), (14, _), (15, _), (16, _), (17, _), (19, _)]) (.cons rfl (.cons rfl (.cons rfl (.cons rfl (.cons rfl (.cons rfl (.cons rfl (.cons rfl (.cons rfl (.cons rfl .nil)))))))))) ?_
    refine wc_condD rfl (fun h22 => ?_) (fun h22 => ?_)
    ·exact absurd rfl h22
    refine wc_skip (qs_block_normal (qs_seq (wc_region (wl_move rfl rfl ?_))))
    refine wl_add rfl rfl (by omega) (by omega) rfl ?_
    refine wl_assign rfl rfl (wl_nil ?_)
    exact qs_round (L1 := [(4, _), (11, _), (12, _), (14, _), (15, _), (16, _), (17, _), (18, .bool true), (19, intV ((k + 1 : Nat) : Int))]) (.cons rfl (.cons rfl (.cons rfl (.cons rfl (.cons rfl (.cons rfl (.cons rfl (.cons rfl (.cons rfl .nil))))))))) (k1 := L.length - (k + 1)) (by omega) ⟨k + 1, true, rfl, rfl, hS21.pick [2, 0, 1, 3] rfl, by omega, by rw [List.take_add_one, hj]; simp only [Option.toList_some, List.mem_append]; exact ⟨fun _ => .inl (hth.1 (by assumption)), fun _ => (by first | rfl | trivial)⟩⟩
   refine vc_not rfl rfl (guard_no rfl rfl (decide_eq_false h19)) ?_
   refine vc_not rfl rfl (guard_no rfl rfl (decide_eq_false h19)) ?_
   refine vc_not rfl rfl (guard_no rfl rfl (decide_eq_false h19)) ?_
   refine vc_not rfl rfl (guard_no rfl rfl (decide_eq_false h19)) ?_
   refine vc_not rfl rfl (guard_no rfl rfl (decide_eq_false h19)) ?_
   refine vc_not rfl rfl (guard_no rfl rfl (decide_eq_false h19)) ?_
   refine vc_not rfl rfl (guard_no rfl rfl (decide_eq_false h19)) ?_
   refine vc_not rfl rfl (guard_no rfl rfl (decide_eq_false h19)) ?_
   refine vc_not rfl rfl (guard_no rfl rfl (decide_eq_false h19)) ?_
   refine vc_not rfl rfl (guard_no rfl rfl (decide_eq_false h19)) ?_
   refine VC.spineNot rfl rfl (guard_no rfl rfl (decide_eq_false h19)) ?_
   refine VC.spineNot rfl rfl (guard_no rfl rfl (decide_eq_false h19)) ?_
   refine vc_not rfl rfl (guard_no rfl rfl (decide_eq_false h19)) ?_
   refine vc_p rfl rfl (guard_yes rfl rfl (decide_eq_false h18)) (fun _ => (Ev.gd (ev_pickF rfl (decide_eq_false h19) rfl))) ?_
   refine vc_p rfl rfl rfl (fun _ => (ev_pickF rfl (decide_eq_false h18) rfl)) ?_
   refine VC.nil (qs_seq ?_)
   refine wc_sub (L' := [(109, _), (18, _), (4, _), (11, _), (12, _), (14, _), (15, _), (16, _), (17, _), (19, _)]) (.cons rfl (.cons rfl (.cons rfl (.cons rfl (.cons rfl (.cons rfl (.cons rfl (.cons rfl (.cons rfl (.cons rfl .nil)))))))))) ?_
   refine wc_condF rfl ?_
   refine wc_skip (qs_block_normal (qs_seq (wc_region (wl_move rfl rfl ?_))))
   refine wl_add rfl rfl (by omega) (by omega) rfl ?_
   refine wl_assign rfl rfl (wl_nil ?_)
   exact qs_round (L1 := [(4, _), (11, _), (12, _), (14, _), (15, _), (16, _), (17, _), (18, .bool true), (19, intV ((k + 1 : Nat) : Int))]) (.cons rfl (.cons rfl (.cons rfl (.cons rfl (.cons rfl (.cons rfl (.cons rfl (.cons rfl (.cons rfl .nil))))))))) (k1 := L.length - (k + 1)) (by omega) ⟨k + 1, true, rfl, rfl, hS17.pick [2, 0, 1, 3] rfl, by omega, by rw [List.take_add_one, hj]; simp only [Option.toList_some, List.mem_append]; exact ⟨fun _ => .inl (hth.1 (by assumption)), fun _ => (by first | rfl | trivial)⟩⟩
  refine wl_guard rfl rfl h14 ?_
  refine wl_move rfl rfl ?_
  refine wl_guard rfl rfl h14 ?_
  refine wl_move rfl rfl ?_
  refine wl_guard rfl rfl h14 ?_
  refine wl_rowIdx inC 0 k hS12 rfl rfl rfl (by first | rfl | omega) hj es_28 rfl ?_
  intro bx23 capx23 hvx23
  refine wl_guard rfl rfl h14 ?_
  refine wl_rowLoad 0 k 0 hS12 rfl hvx23 rfl rfl hj ag_3 rfl rfl ?_
  refine wl_guard rfl rfl h14 ?_
  refine wl_move rfl rfl ?_
  refine wl_guard rfl rfl h14 ?_
  refine wl_eql rfl rfl rfl ?_
  refine wl_pickF rfl h14 rfl rfl ?_
  refine wl_assign rfl rfl (wl_nil (qs_seq ?_))
  refine wc_sub (L' := [(18, _), (4, _), (11, _), (12, _), (14, _), (15, _), (16, _), (17, _), (19, _)]) (.cons rfl (.cons rfl (.cons rfl (.cons rfl (.cons rfl (.cons rfl (.cons rfl (.cons rfl (.cons rfl .nil))))))))) ?_
  refine wc_seq ?_
  have hS24 := hS12.drew
  refine wc_draw [0, 1, 2, 3, 4, 6, 7, 8, 9, 10, 5, 11, 12, 13, 14, 15, 16, 17, 18, 19, 20, 21, 23, 24, 25, 26, 27, 22, 28, 29, 30, 31] [5, 11, 22, 28] mix (by kernel_rfl) ?_
  refine vc_p rfl rfl rfl (fun _ => (ev_move rfl)) ?_
  refine vc_p rfl rfl rfl (fun _ => (ev_move rfl)) ?_
  refine vc_p rfl rfl rfl (fun _ => (ev_move rfl)) ?_
  refine vc_p rfl rfl rfl (fun _ => (ev_indexAddr k rfl rfl (by first | rfl | omega) (by first | omega | exact (List.getElem?_eq_some_iff.1 hj).1) es_28)) ?_
  refine vc_q rfl rfl rfl (ev_rowLoad0 inC 0 k 0 hS24 rfl hj ag_3 rfl rfl) ?_
  refine vc_p rfl rfl rfl (fun _ => (ev_move rfl)) ?_
  refine vc_p rfl rfl rfl (fun _ => (ev_move rfl)) ?_
  refine vc_p rfl rfl rfl (fun _ => (ev_move rfl)) ?_
  refine vc_p rfl rfl rfl (fun _ => (ev_indexAddr k rfl rfl (by first | rfl | omega) (by first | omega | exact (List.getElem?_eq_some_iff.1 hj).1) es_28)) ?_
  refine vc_q rfl rfl rfl (ev_rowLoad0 inC 0 k 0 hS24 rfl hj ag_3 rfl rfl) ?_
  refine vc_s rfl rfl rfl rfl rfl rfl ?_
  have hC25 := hS24.split [2] [false, false, true, false] rfl; dsimp only [selF, pickA, nthA, List.cons_append, List.nil_append] at hC25
  refine wl_call cal_21 rfl (shpage_sp hC25 hBr.inv j (fun q => q)) rfl ?_
  rintro e w25 ⟨_, rfl, rfl, hS25⟩; refine ⟨_, rfl, ?_⟩
  replace hS25 := hS25.join rfl; dsimp only [List.dropLast, List.cons_append, List.nil_append] at hS25; clear hC25
  clear hS24
  rw [pg_same hBr.vw j]
  refine vc_e (.cons (.inl ⟨rfl, (ev_rowLoad0 inC 1 k 0 hS25 rfl hj ag_3 rfl rfl)⟩) (.skip (by kernel_rfl) .nil)) ?_
  refine vc_s rfl rfl rfl rfl rfl rfl ?_
  have hC26 := hS25.split [2] [false, false, true, false] rfl; dsimp only [selF, pickA, nthA, List.cons_append, List.nil_append] at hC26
  refine wl_call cal_21 rfl (shpage_sp hC26 hI j (fun q => q)) rfl ?_
  rintro e w26 ⟨_, rfl, rfl, hS26⟩; refine ⟨_, rfl, ?_⟩
  replace hS26 := hS26.join rfl; dsimp only [List.dropLast, List.cons_append, List.nil_append] at hS26; clear hC26
  clear hS25
  refine vc_e (.skip (by kernel_rfl) (.skip (by kernel_rfl) .nil)) ?_
  refine vc_p rfl rfl rfl (fun _ => (ev_neqS rfl rfl)) ?_
  refine vc_p rfl rfl rfl (fun _ => (ev_move rfl)) ?_
  refine vc_splitD 91 rfl (fun h27 => ?_) (fun h27 => ?_)
  ·exact absurd rfl h27
  refine vc_p rfl rfl (guard_yes rfl rfl (decide_eq_false h27)) (fun _ => (Ev.gd (ev_move rfl))) ?_
  refine vc_p rfl rfl (guard_yes rfl rfl (decide_eq_false h27)) (fun _ => (Ev.gd (ev_neq rfl rfl))) ?_
  refine vc_p rfl rfl (guard_yes rfl rfl (decide_eq_false h27)) (fun _ => (Ev.gd (ev_move rfl))) ?_
  refine vc_splitD 94 rfl (fun h28 => ?_) (fun h28 => ?_)
  ·refine vc_p rfl rfl (guard_yes rfl rfl (decide_eq_true h28)) (fun _ => (Ev.gd (ev_move rfl))) ?_
   refine vc_p rfl rfl (guard_yes rfl rfl (decide_eq_true h28)) (fun _ => (Ev.gd (ev_move rfl))) ?_
   refine vc_p rfl rfl (guard_yes rfl rfl (decide_eq_true h28)) (fun _ => (Ev.gd (ev_move rfl))) ?_
   refine vc_p rfl rfl (guard_yes rfl rfl (decide_eq_true h28)) (fun _ => (Ev.gd (ev_indexAddr k rfl rfl (by first | rfl | omega) (by first | omega | exact (List.getElem?_eq_some_iff.1 hj).1) es_28))) ?_
   refine vc_q rfl rfl (guard_yes rfl rfl (decide_eq_true h28)) (Ev.gd (ev_rowLoad0 inC 2 k 0 hS26 rfl hj ag_3 rfl rfl)) ?_
   refine vc_p rfl rfl (guard_yes rfl rfl (decide_eq_true h28)) (fun _ => (Ev.gd (ev_move rfl))) ?_
   refine vc_p rfl rfl (guard_yes rfl rfl (decide_eq_true h28)) (fun _ => (Ev.gd (ev_move rfl))) ?_
   refine vc_p rfl rfl (guard_yes rfl rfl (decide_eq_true h28)) (fun _ => (Ev.gd (ev_move rfl))) ?_
   refine vc_p rfl rfl (guard_yes rfl rfl (decide_eq_true h28)) (fun _ => (Ev.gd (ev_indexAddr k rfl rfl (by first | rfl | omega) (by first | omega | exact (List.getElem?_eq_some_iff.1 hj).1) es_28))) ?_
   refine vc_q rfl rfl (guard_yes rfl rfl (decide_eq_true h28)) (Ev.gd (ev_rowLoad0 inC 2 k 0 hS26 rfl hj ag_3 rfl rfl)) ?_
   refine vc_s rfl rfl (guard_yes rfl rfl (decide_eq_true h28)) rfl rfl rfl ?_
   have hC29 := hS26.split [1] [false, true, false, false] rfl; dsimp only [selF, pickA, nthA, List.cons_append, List.nil_append] at hC29
   refine wl_call cal_19 rfl (shplaceI_sp hC29 j) rfl ?_
   rintro e w29 ⟨_, rfl, rfl, hS29⟩; refine ⟨_, rfl, ?_⟩
   replace hS29 := hS29.join rfl; dsimp only [List.dropLast, List.cons_append, List.nil_append] at hS29; clear hC29
   clear hS26
   rw [show plOf S3 j = plOf S j by rw [hBr.same (by assumption)]]
   refine vc_e (.cons (.inl ⟨(guard_yes rfl rfl (decide_eq_true h28)), (Ev.gd (ev_rowLoad0 inC 2 k 0 hS29 rfl hj ag_3 rfl rfl))⟩) (.skip (by kernel_rfl) (.skip (by kernel_rfl) (.skip (by kernel_rfl) .nil)))) ?_
   refine vc_s rfl rfl (guard_yes rfl rfl (decide_eq_true h28)) rfl rfl rfl ?_
   have hC30 := hS29.split [1] [false, true, false, false] rfl; dsimp only [selF, pickA, nthA, List.cons_append, List.nil_append] at hC30
   refine wl_call cal_19 rfl (shplaceI_sp hC30 j) rfl ?_
   rintro e w30 ⟨_, rfl, rfl, hS30⟩; refine ⟨_, rfl, ?_⟩
   replace hS30 := hS30.join rfl; dsimp only [List.dropLast, List.cons_append, List.nil_append] at hS30; clear hC30
   clear hS29
   refine vc_e (.skip (by kernel_rfl) (.skip (by kernel_rfl) (.skip (by kernel_rfl) (.skip (by kernel_rfl) .nil)))) ?_
   refine vc_p rfl rfl (guard_yes rfl rfl (decide_eq_true h28)) (fun _ => (Ev.gd (ev_neq rfl rfl))) ?_
   refine vc_p rfl rfl (guard_yes rfl rfl (decide_eq_false h27)) (fun _ => (Ev.gd (ev_pickT rfl (decide_eq_true h28) rfl))) ?_
   refine vc_p rfl rfl rfl (fun _ => (ev_pickF rfl (decide_eq_false h27) rfl)) ?_
   refine VC.nil (qs_seq ?_)
   refine wc_sub (L' := [(109, _), (18, _), (4, _), (11, _), (12, _), (14, _), (15, _), (16, _), (17, _), (19, _)]) (.cons rfl (.cons rfl (.cons rfl (.cons rfl (.cons rfl (.cons rfl (.cons rfl (.cons rfl (.cons rfl (.cons rfl .nil)))))))))) ?_
   refine wc_condD rfl (fun h31 => ?_) (fun h31 => ?_)
   ·exact absurd rfl h31
   refine wc_skip (qs_block_normal (qs_seq (wc_region (wl_move rfl rfl ?_))))
   refine wl_add rfl rfl (by omega) (by omega) rfl ?_
   refine wl_assign rfl rfl (wl_nil ?_)
   exact qs_round (L1 := [(4, _), (11, _), (12, _), (14, _), (15, _), (16, _), (17, _), (18, .bool (decide (j = id))), (19, intV ((k + 1 : Nat) : Int))]) (.cons rfl (.cons rfl (.cons rfl (.cons rfl (.cons rfl (.cons rfl (.cons rfl (.cons rfl (.cons rfl .nil))))))))) (k1 := L.length - (k + 1)) (by omega) ⟨k + 1, (decide (j = id)), rfl, rfl, hS30.pick [2, 0, 1, 3] rfl, by omega, by rw [List.take_add_one, hj]; simp only [Option.toList_some, List.mem_append, List.mem_singleton, decide_eq_true_eq]; exact ⟨fun q => .inr q.symm, fun q => q.elim (fun q => absurd (hth.2 q) (by simp_all)) (fun q => q.symm)⟩⟩
  refine vc_not rfl rfl (guard_no rfl rfl (decide_eq_false h28)) ?_
  refine vc_not rfl rfl (guard_no rfl rfl (decide_eq_false h28)) ?_
  refine vc_not rfl rfl (guard_no rfl rfl (decide_eq_false h28)) ?_
  refine vc_not rfl rfl (guard_no rfl rfl (decide_eq_false h28)) ?_
  refine vc_not rfl rfl (guard_no rfl rfl (decide_eq_false h28)) ?_
  refine vc_not rfl rfl (guard_no rfl rfl (decide_eq_false h28)) ?_
  refine vc_not rfl rfl (guard_no rfl rfl (decide_eq_false h28)) ?_
  refine vc_not rfl rfl (guard_no rfl rfl (decide_eq_false h28)) ?_
  refine vc_not rfl rfl (guard_no rfl rfl (decide_eq_false h28)) ?_
  refine vc_not rfl rfl (guard_no rfl rfl (decide_eq_false h28)) ?_
  refine VC.spineNot rfl rfl (guard_no rfl rfl (decide_eq_false h28)) ?_
  refine VC.spineNot rfl rfl (guard_no rfl rfl (decide_eq_false h28)) ?_
  refine vc_not rfl rfl (guard_no rfl rfl (decide_eq_false h28)) ?_
  refine vc_p rfl rfl (guard_yes rfl rfl (decide_eq_false h27)) (fun _ => (Ev.gd (ev_pickF rfl (decide_eq_false h28) rfl))) ?_
  refine vc_p rfl rfl rfl (fun _ => (ev_pickF rfl (decide_eq_false h27) rfl)) ?_
  refine VC.nil (qs_seq ?_)
  refine wc_sub (L' := [(109, _), (18, _), (4, _), (11, _), (12, _), (14, _), (15, _), (16, _), (17, _), (19, _)]) (.cons rfl (.cons rfl (.cons rfl (.cons rfl (.cons rfl (.cons rfl (.cons rfl (.cons rfl (.cons rfl (.cons rfl .nil)))))))))) ?_
  refine wc_condF rfl ?_
  refine wc_skip (qs_block_normal (qs_seq (wc_region (wl_move rfl rfl ?_))))
  refine wl_add rfl rfl (by omega) (by omega) rfl ?_
  refine wl_assign rfl rfl (wl_nil ?_)
  exact qs_round (L1 := [(4, _), (11, _), (12, _), (14, _), (15, _), (16, _), (17, _), (18, .bool (decide (j = id))), (19, intV ((k + 1 : Nat) : Int))]) (.cons rfl (.cons rfl (.cons rfl (.cons rfl (.cons rfl (.cons rfl (.cons rfl (.cons rfl (.cons rfl .nil))))))))) (k1 := L.length - (k + 1)) (by omega) ⟨k + 1, (decide (j = id)), rfl, rfl, hS26.pick [2, 0, 1, 3] rfl, by omega, by rw [List.take_add_one, hj]; simp only [Option.toList_some, List.mem_append, List.mem_singleton, decide_eq_true_eq]; exact ⟨fun q => .inr q.symm, fun q => q.elim (fun q => absurd (hth.2 q) (by simp_all)) (fun q => q.symm)⟩⟩
 refine wc_exit (qs_then_exit (qs_then_exit (qs_block_exit (qs_seq (wc_seq (wc_seq (wc_region (wl_move rfl rfl ?_))))))))
 refine wl_not rfl rfl ?_
 refine wl_nil (qs_seq ?_)
 refine wc_sub (L' := [(111, _), (4, _), (11, _), (12, _), (14, _), (15, _), (16, _)]) (.cons rfl (.cons rfl (.cons rfl (.cons rfl (.cons rfl (.cons rfl (.cons rfl .nil))))))) ?_
 refine wc_cond rfl (fun h32 => ?_) (fun h32 => ?_)
 ·refine wc_seq ?_
  have hnone : S.all id = none := by cases hq : S.all id with | none => rfl | some x => (exfalso; have h1 := (hL0.mem id).2 (by rw [hq]; simp); rw [← List.take_of_length_le (show L.length ≤ k by omega), ← hth] at h1; simp_all)
  refine wc_region (wl_move rfl rfl (wl_move rfl rfl ?_))
  refine wl_split 113 rfl (fun h33 => ?_) (fun h33 => ?_)
  ·refine wl_guard rfl rfl h33 ?_
   refine wl_move rfl rfl ?_
   refine wl_guard rfl rfl h33 ?_
   refine wl_eql rfl rfl rfl ?_
   refine wl_pickT rfl h33 rfl rfl ?_
   refine wl_move rfl rfl ?_
   refine wl_splitD 117 rfl (fun h34 => ?_) (fun h34 => ?_)
   ·refine wl_guard rfl rfl (decide_eq_true h34) ?_
    refine wl_move rfl rfl ?_
    refine wl_guard rfl rfl (decide_eq_true h34) ?_
    refine wl_eql rfl rfl rfl ?_
    refine wl_pickT rfl (decide_eq_true h34) rfl rfl ?_
    refine wl_assign rfl rfl (wl_nil (qs_seq ?_))
    refine wc_sub (L' := [(10, _), (4, _), (11, _), (12, _), (14, _), (15, _), (16, _)]) (.cons rfl (.cons rfl (.cons rfl (.cons rfl (.cons rfl (.cons rfl (.cons rfl .nil))))))) ?_
    refine wc_ret (qs_then_ret ?_)
    refine fin1 (.inr rfl) rfl rfl ?_
    exact ⟨_, rfl, by rw [decide_eq_true (hBr.non hnone).2], hS12.pick [3] rfl⟩
   exact absurd (hBr.non hnone).1 h34
  exact absurd h33 (by simp)
 refine wc_skip (qs_seq (wc_seq ?_))
 have htt : th = true := by simpa using (by assumption : (!th) = false)
 have hsome : S.all id ≠ none := (hL0.mem id).1 (List.mem_of_mem_take (hth.1 htt))
 have his := hBr.is hsome
 refine wc_region (wl_move rfl rfl (wl_move rfl rfl ?_))
 have hC35 := hS12.split [2] [false, false, true, false] rfl; dsimp only [selF, pickA, nthA, List.cons_append, List.nil_append] at hC35
 refine wl_call cal_18 rfl (shframe_or hC35 id) rfl ?_
 rintro e w35 ⟨_, rfl, g, ig, rfl, hg1, hg0, hS35⟩; refine ⟨_, rfl, ?_⟩
 replace hS35 := hS35.join rfl; dsimp only [List.dropLast, List.cons_append, List.nil_append] at hS35; clear hC35
 clear hS12
 refine wl_move rfl rfl (wl_extract rfl rfl rfl (wl_extract rfl rfl rfl (wl_assign rfl rfl (wl_assign rfl rfl (wl_nil (qs_seq ?_))))))
 refine wc_sub (L' := [(21, _), (20, _), (4, _), (11, _), (14, _), (15, _), (16, _)]) (.cons rfl (.cons rfl (.cons rfl (.cons rfl (.cons rfl (.cons rfl (.cons rfl .nil))))))) ?_
 refine wc_seq (wc_seq (wc_region (wl_move rfl rfl ?_)))
 refine wl_eql rfl rfl rfl ?_
 refine wl_nil (qs_seq ?_)
 refine wc_condD rfl (fun h36 => ?_) (fun h36 => ?_)
 ·refine wc_seq ?_
  obtain ⟨y, hy, hyp, hya⟩ : ∃ x, S3.all id = some x ∧ x.place = 1 ∧ x.at_ = f := by rcases his with ⟨_, h⟩ | ⟨h, _⟩; exact h; omega
  have hig : ig = true := by cases ig with | true => rfl | false => exact absurd hyp (hg0 rfl y hy)
  have hfg : f = g := by obtain ⟨z, hz, _, hza⟩ := hg1 hig; rw [hy] at hz; cases hz; omega
  refine wc_region (wl_move rfl rfl (wl_move rfl rfl ?_))
  refine wl_split 130 rfl (fun h37 => ?_) (fun h37 => ?_)
  ·refine wl_guard rfl rfl h37 ?_
   refine wl_move rfl rfl ?_
   refine wl_pickT rfl h37 rfl rfl ?_
   refine wl_move rfl rfl ?_
   refine wl_split 133 rfl (fun h38 => ?_) (fun h38 => ?_)
   ·refine wl_guard rfl rfl h38 ?_
    refine wl_move rfl rfl ?_
    refine wl_guard rfl rfl h38 ?_
    refine wl_move rfl rfl ?_
    refine wl_guard rfl rfl h38 ?_
    refine wl_eql rfl rfl rfl ?_
    refine wl_pickT rfl h38 rfl rfl ?_
    refine wl_assign rfl rfl (wl_nil (qs_seq ?_))
    refine wc_sub (L' := [(10, _), (4, _), (11, _), (14, _), (15, _), (16, _)]) (.cons rfl (.cons rfl (.cons rfl (.cons rfl (.cons rfl (.cons rfl .nil)))))) ?_
    refine wc_ret (qs_then_ret ?_)
    refine fin1 (.inr rfl) rfl rfl ?_
    exact ⟨_, rfl, by rw [decide_eq_true hfg], hS35.pick [3] rfl⟩
   exact absurd hig (by simp_all)
  exact absurd h37 (by simp)
 refine wc_skip (qs_seq (wc_seq ?_))
 obtain ⟨he6, hf0, hfl, hsl, x, hx, hxp⟩ : e = 6 ∧ f = 0 ∧ (∀ o ∈ S.fr, o ≠ none) ∧ usedN S.sl = S.sl.length ∧ ∃ x, S.all id = some x ∧ x.place = 2 := by rcases his with ⟨h, _⟩ | h; (exfalso; omega); exact h
 have hrm : (S.fr.length : Int) - (usedF S.fr : Int) + S.slots - (usedN S.sl : Int) = 0 := by rw [full_f hfl, hsl, hI.slo]; omega
 have hp2 : x.place = 2 := hxp
 refine wc_region (wl_move rfl rfl (wl_move rfl rfl ?_))
 refine wl_split 139 rfl (fun h39 => ?_) (fun h39 => ?_)
 ·refine wl_guard rfl rfl h39 ?_
  refine wl_move rfl rfl ?_
  refine wl_guard rfl rfl h39 ?_
  refine wl_eql rfl rfl rfl ?_
  refine wl_pickT rfl h39 rfl rfl ?_
  refine wl_move rfl rfl ?_
  refine wl_splitD 143 rfl (fun h40 => ?_) (fun h40 => ?_)
  ·refine wl_guard rfl rfl (decide_eq_true h40) ?_
   refine wl_move rfl rfl ?_
   refine wl_guard rfl rfl (decide_eq_true h40) ?_
   refine wl_eql rfl rfl rfl ?_
   refine wl_pickT rfl (decide_eq_true h40) rfl rfl ?_
   refine wl_move rfl rfl ?_
   refine wl_splitD 147 rfl (fun h41 => ?_) (fun h41 => ?_)
   ·refine wl_guard rfl rfl (decide_eq_true h41) ?_
    refine wl_move rfl rfl ?_
    refine wl_guard rfl rfl (decide_eq_true h41) ?_
    have hC42 := hS35.split [2] [false, false, true, false] rfl; dsimp only [selF, pickA, nthA, List.cons_append, List.nil_append] at hC42
    refine wl_call cal_16 rfl (shroom_sp hC42 hI) rfl ?_
    rintro e w42 ⟨_, rfl, rfl, hS42⟩; refine ⟨_, rfl, ?_⟩
    replace hS42 := hS42.join rfl; dsimp only [List.dropLast, List.cons_append, List.nil_append] at hS42; clear hC42
    clear hS35
    rw [hrm]
    refine wl_guard rfl rfl (decide_eq_true h41) ?_
    refine wl_eql rfl rfl rfl ?_
    refine wl_pickT rfl (decide_eq_true h41) rfl rfl ?_
    refine wl_move rfl rfl ?_
    refine wl_splitD 152 rfl (fun h43 => ?_) (fun h43 => ?_)
    ·refine wl_guard rfl rfl (decide_eq_true h43) ?_
     refine wl_move rfl rfl ?_
     refine wl_guard rfl rfl (decide_eq_true h43) ?_
     refine wl_move rfl rfl ?_
     refine wl_guard rfl rfl (decide_eq_true h43) ?_
     have hC44 := hS42.split [0] [true, false, false, false] rfl; dsimp only [selF, pickA, nthA, List.cons_append, List.nil_append] at hC44
     refine wl_call cal_19 rfl (shplaceI_sp hC44 id) rfl ?_
     rintro e w44 ⟨_, rfl, rfl, hS44⟩; refine ⟨_, rfl, ?_⟩
     replace hS44 := hS44.join rfl; dsimp only [List.dropLast, List.cons_append, List.nil_append] at hS44; clear hC44
     clear hS42
     rw [show plOf S id = x.place by unfold plOf; rw [hx]]
     refine wl_guard rfl rfl (decide_eq_true h43) ?_
     refine wl_eql rfl rfl rfl ?_
     refine wl_pickT rfl (decide_eq_true h43) rfl rfl ?_
     refine wl_assign rfl rfl (wl_nil (qs_seq ?_))
     refine wc_sub (L' := [(10, _)]) (.cons rfl .nil) ?_
     refine wc_ret ?_
     refine fin1 (.inr rfl) rfl rfl ?_
     exact ⟨_, rfl, by first | rfl | exact congrArg Value.bool (decide_eq_true hp2) | (rw [decide_eq_true hp2]), hS44.pick [3] rfl⟩
    exact absurd rfl h43
   exact absurd hf0 h41
  exact absurd he6 h40
 exact absurd h39 (by simp)
end Go.Proofs.YtnicmcdeoimhlaaGreat
/- How the arguments of a law read: a relation between cells and plain data for each type, built by shape; and the step from a law's contract to its row. -/
namespace Go.Proofs.YtnicmcdeoimhlaaGreat.M
open Go.ChangeShapes Go.WideShapes Go.ChangeAt Go.RowKit Go.Deep
/-- the cells cs lie at ⟨b, off⟩ -/
def At (w : World) (b off : Nat) (cs : List Value) : Prop := ∀ j v, cs[j]? = some v → w.cell? ⟨b, off + j, none⟩ = some v
theorem At.cell {w : World} {b off : Nat} {cs : List Value} (h : At w b off cs) (j : Nat) {v : Value} (hv : cs[j]? = some v) : w.cell? ⟨b, off + j, none⟩ = some v := h j v hv
theorem At.below {B : Nat} {w w' : World} {b off : Nat} {cs : List Value} (h : At w b off cs) (hb : Below B w w') (hB : b < B) : At w' b off cs :=
  fun j v hv => (hb.cell (p := ⟨b, off + j, none⟩) hB).trans (h j v hv)
/-- a type, read as α -/
structure Cod (P : Program) (t : TypeId) (α : Type) where
  rd : World → List Value → α → Prop
  size : Nat
  cells : P.cellsOf t = size
  down : ∀ {H : Type} {enc : TypeId × Value → H} {w : World} {base : Nat} {spare : Nat → Bool} {held : Bool} {fuel : Nat} {cs : List Value} {x : DataW H × List MemPlace},
    DataW.trod enc P w base spare held fuel t cs = some x → ∃ a, rd w cs a
  len : ∀ {w cs a}, rd w cs a → cs.length = size
  keep : ∀ {w w' cs a}, Below w.heap.size w w' → rd w cs a → rd w' cs a
section
variable {P : Program}
def Cod.int {t : TypeId} (k : IntKind) (ht : P.underlying t = some (.int k)) (hc : P.cellsOf t = 1) : Cod P t Int where
  rd := fun _ cs n => cs = [.int k n] ∧ (Lit.int k n).wf = true
  size := 1
  cells := hc
  down := fun h => by
    obtain ⟨n, h1, _, h2⟩ := DataW.trod_int ht h
    exact ⟨n, h1, h2⟩
  len := fun h => by rw [h.1]; rfl
  keep := fun _ h => h
def Cod.byte {t : TypeId} (ht : P.underlying t = some (.int .u8)) (hc : P.cellsOf t = 1) : Cod P t UInt8 where
  rd := fun _ cs n => cs = [.int .u8 (n.toNat : Int)]
  size := 1
  cells := hc
  down := fun h => by
    obtain ⟨n, h1, _, h2⟩ := DataW.trod_int ht h
    have hb := bounds_u8 h2
    refine ⟨UInt8.ofNat n.toNat, ?_⟩
    have e : ((UInt8.ofNat n.toNat).toNat : Int) = n := by simp; omega
    rw [e]; exact h1
  len := fun h => by rw [h]; rfl
  keep := fun _ h => h
def Cod.bool {t : TypeId} (ht : P.underlying t = some .bool) (hc : P.cellsOf t = 1) : Cod P t Bool where
  rd := fun _ cs n => cs = [.bool n]
  size := 1
  cells := hc
  down := fun h => by
    obtain ⟨n, h1, _⟩ := DataW.trod_bool ht h
    exact ⟨n, h1⟩
  len := fun h => by rw [h]; rfl
  keep := fun _ h => h
def Cod.string {t : TypeId} (ht : P.underlying t = some .string) (hc : P.cellsOf t = 1) : Cod P t ByteArray where
  rd := fun _ cs s => cs = [.string s] ∧ s.size ≤ 9223372036854775807
  size := 1
  cells := hc
  down := fun h => by
    obtain ⟨n, h1, _, h2⟩ := DataW.trod_string ht h
    exact ⟨n, h1, h2⟩
  len := fun h => by rw [h.1]; rfl
  keep := fun _ h => h
/-- a slice's value v reads as l: each element's cells lie in its place -/
def SliceRd {α : Type} (rd : World → List Value → α → Prop) (size : Nat) (w : World) (v : Value) (l : List α) : Prop :=
  ∃ ao cap, v = .slice ao l.length cap ∧ l.length ≤ cap ∧ cap ≤ 9223372036854775807 ∧ ∀ (i : Nat) (a : α), l[i]? = some a → ∃ b off cs, ao = some ⟨b, off, none⟩ ∧ b < w.heap.size ∧ At w b (off + i * size) cs ∧ rd w cs a
def Cod.slice {t e : TypeId} {α : Type} [Inhabited α] (ht : P.underlying t = some (.slice e)) (hc : P.cellsOf t = 1) (c : Cod P e α) (hpos : 0 < c.size) : Cod P t (List α) where
  rd := fun w cs l => ∃ v, cs = [v] ∧ SliceRd c.rd c.size w v l
  size := 1
  cells := hc
  down := fun {H enc w base spare held fuel cs x} h => by
    rcases open_slice ht h with ⟨rfl, _⟩ | ⟨a, len, cap, m, n, D, Pl, rfl, hb, hl, hm, hmm, _, hx⟩
    · exact ⟨[], _, rfl, none, 0, rfl, Nat.le_refl _, by omega, fun i a hi => by simp at hi⟩
    · have hlm : len ≤ m := by rw [hmm]; split <;> omega
      have hex : ∀ i, i < len → ∃ y : α, ∃ cs', c.rd w cs' y ∧ (∀ j v, cs'[j]? = some v → w.cell? (a.add (i * c.size + j)) = some v) := by
        intro i hi
        obtain ⟨cs', h1, h2⟩ := hx i (by omega)
        obtain ⟨y, hy⟩ := c.down h2
        obtain ⟨_, hlen, hat⟩ := World.cells?_some h1
        refine ⟨y, cs', hy, fun j v hv => ?_⟩
        have hj : j < cs'.length := (List.getElem?_eq_some_iff.1 hv).1
        rw [c.cells] at hlen hat
        rw [← Go.Deep.add_add, hat j (by omega), hv]
      obtain ⟨f, hf⟩ := choose_lt hex
      refine ⟨(List.range len).map f, _, rfl, some a, cap, by simp, by simpa using hl, hm, fun i y hi => ?_⟩
      have hil : i < len := by have := (List.getElem?_eq_some_iff.1 hi).1; simpa using this
      simp [hil] at hi
      subst hi
      obtain ⟨cs', hrd, hat⟩ := hf i hil
      have hcl := c.len hrd
      obtain ⟨b, off, spot⟩ := a
      have h0 := hat 0 cs'[0] (List.getElem?_eq_getElem (by omega))
      have hspot : spot = none := by
        have := World.cell?_spot h0
        unfold Addr.add at this
        split at this
        · exact this
        · obtain ⟨i0, hi0⟩ : ∃ i0, i0 < len ∧ i0 = 0 := ⟨0, by omega, rfl⟩
          obtain ⟨hi1, rfl⟩ := hi0
          obtain ⟨cs0, hrd0, hat0⟩ := hf 0 hi1
          have hcl0 := c.len hrd0
          have h00 := hat0 0 cs0[0] (List.getElem?_eq_getElem (by omega))
          have := World.cell?_spot h00
          simpa [Addr.add] using this
      subst hspot
      refine ⟨b, off, cs', rfl, ?_, fun j v hv => ?_, hrd⟩
      · have := block_lt_of_cell h0
        rw [addr_add] at this
        exact this
      · have := hat j v hv
        rw [addr_add] at this
        rw [Nat.add_assoc]; exact this
  len := fun ⟨v, h, _⟩ => by rw [h]; rfl
  keep := fun {w w' cs l} hb ⟨v, h1, ao, cap, h2, h3, h4, h5⟩ => ⟨v, h1, ao, cap, h2, h3, h4, fun i a hi => by
    obtain ⟨b, off, cs', e1, e2, e3, e4⟩ := h5 i a hi
    exact ⟨b, off, cs', e1, Nat.lt_of_lt_of_le e2 hb.size, e3.below hb e2, c.keep hb e4⟩⟩
/-- fields one behind the other -/
structure Flds (P : Program) (fs : List Field) (off : Nat) (α : Type) where
  rd : World → List Value → α → Prop
  size : Nat
  down : ∀ {H : Type} {enc : TypeId × Value → H} {w : World} {base : Nat} {spare : Nat → Bool} {held : Bool} {n : Nat} {cs : List Value} {xs : List (DataW H × List MemPlace)},
    (∀ (i : Nat) (f : Field), fs[i]? = some f → ∃ x, DataW.trod enc P w base spare held n f.type ((cs.drop f.offset).take (P.cellsOf f.type)) = some x) → ∃ a, rd w ((cs.drop off).take size) a
  len : ∀ {w cs a}, rd w cs a → cs.length = size
  keep : ∀ {w w' cs a}, Below w.heap.size w w' → rd w cs a → rd w' cs a
def Flds.nil (off : Nat) : Flds P [] off Unit where
  rd := fun _ cs _ => cs = []
  size := 0
  down := fun _ => ⟨(), by simp⟩
  len := fun h => by rw [h]; rfl
  keep := fun _ h => h
def Flds.cons {f : Field} {fs : List Field} {off : Nat} {α β : Type} (c : Cod P f.type α) (ho : f.offset = off) (r : Flds P fs (off + c.size) β) : Flds P (f :: fs) off (α × β) where
  rd := fun w cs a => ∃ cs1 cs2, cs = cs1 ++ cs2 ∧ c.rd w cs1 a.1 ∧ r.rd w cs2 a.2
  size := c.size + r.size
  down := fun {H enc w base spare held n cs xs} h => by
    obtain ⟨x, hx⟩ := h 0 f rfl
    rw [ho, c.cells] at hx
    obtain ⟨a, ha⟩ := c.down hx
    obtain ⟨b, hb⟩ := r.down (xs := xs) (fun i g hg => h (i + 1) g (by simpa using hg))
    refine ⟨(a, b), _, _, ?_, ha, hb⟩
    rw [← List.drop_drop]
    exact List.take_add ..
  len := fun ⟨cs1, cs2, h, h1, h2⟩ => by rw [h, List.length_append, c.len h1, r.len h2]
  keep := fun hb ⟨cs1, cs2, h, h1, h2⟩ => ⟨cs1, cs2, h, c.keep hb h1, r.keep hb h2⟩
def Cod.struct {t : TypeId} {fs : List Field} {α : Type} (ht : P.underlying t = some (.struct fs.toArray)) (r : Flds P fs 0 α) (hc : P.cellsOf t = r.size) : Cod P t α where
  rd := r.rd
  size := r.size
  cells := hc
  down := fun {H enc w base spare held fuel cs x} h => by
    obtain ⟨xs, n, _, _, hl, hxl, hf⟩ := DataW.trod_struct ht h
    obtain ⟨a, ha⟩ := r.down (xs := xs) (n := n) (enc := enc) (w := w) (base := base) (spare := spare) (held := held) (cs := cs) (fun i f hi => by
      have h1 := hf i f (by simpa using hi)
      have hil := (List.getElem?_eq_some_iff.1 hi).1
      rw [h1, List.getElem?_eq_getElem (by rw [hxl]; simpa using hil)]
      exact ⟨_, rfl⟩)
    refine ⟨a, ?_⟩
    rw [List.drop_zero, List.take_of_length_le (by omega)] at ha
    exact ha
  len := r.len
  keep := r.keep
/-- as another type -/
def Cod.map {t : TypeId} {α β : Type} (c : Cod P t α) (f : α → β) : Cod P t β where
  rd := fun w cs b => ∃ a, b = f a ∧ c.rd w cs a
  size := c.size
  cells := c.cells
  down := fun h => by obtain ⟨a, ha⟩ := c.down h; exact ⟨f a, a, rfl, ha⟩
  len := fun ⟨a, _, h⟩ => c.len h
  keep := fun hb ⟨a, e, h⟩ => ⟨a, e, c.keep hb h⟩
/-- the arguments are all read again behind a call that has changed nothing that was there -/
theorem trodAll_stays {H : Type} {enc : TypeId × Value → H} (hl : laidOutB P = true) {W W' : World} (hb : Below W.heap.size W W') :
    ∀ (ts : List TypeId) (vs : List Value) (ds : List (DataW H)) (ps : List MemPlace), (∀ t ∈ ts, P.readableRec t = true ∧ t < P.types.size) →
      DataW.TrodAll enc P W 0 (fun _ => true) true ts vs ds ps → DataW.TrodAll enc P W' 0 (fun b => decide (b < W.heap.size)) true ts vs ds ps
  | [], vs, ds, ps, _, h => by
    obtain ⟨rfl, rfl, rfl⟩ := trodAll_nil h
    exact rfl
  | t :: ts, vs, ds, ps, hr, h => by
    obtain ⟨v, vs', d, ds', p, q, rfl, rfl, rfl, h0, h1⟩ := trodAll_cons h
    have lt0 : ∀ x ∈ p, x.block < W.heap.size := by obtain ⟨m, hm⟩ := h0; exact DataW.trod_lt m _ _ _ hm
    obtain ⟨r1, r2⟩ := hr t (by simp)
    exact trodAll_cons_mk (Below.trod hl r1 r2 h0 hb lt0) (trodAll_stays hl hb ts vs' ds' q (fun t ht => hr t (by simp [ht])) h1)
end
end Go.Proofs.YtnicmcdeoimhlaaGreat.M
/- laws of sheets: how the arguments read -/
namespace Go.Proofs.YtnicmcdeoimhlaaGreat
open Go.RowKit M
set_option linter.unusedVariables false
instance : Inhabited OpD := ⟨⟨0, 0, 0, 0, []⟩⟩
def intC : Cod Tryz.prog 3 Int := Cod.int .i64 Tryz.underlying3 (by kernel_rfl)
def strCd : Cod Tryz.prog 9 ByteArray := Cod.string Tryz.underlying9 (by kernel_rfl)
def opCod : Cod Tryz.prog 33 (Int × Int × Int × Int × ByteArray × Unit) :=
  Cod.struct (P := Tryz.prog) Tryz.underlying33
    (Flds.cons intC rfl (Flds.cons intC rfl (Flds.cons intC rfl (Flds.cons intC rfl (Flds.cons strCd rfl (Flds.nil _)))))) (by kernel_rfl)
theorem ops_of {W : World} {v : Value} {l : List (Int × Int × Int × Int × ByteArray × Unit)} (h : SliceRd opCod.rd opCod.size W v l) : ∃ l' : List OpD, ∀ w, Below W.heap.size W w → RdL opC v l' w := by
  obtain ⟨ao, cap, h1, h2, h3, h4⟩ := h
  have hex : ∀ i, i < l.length → ∃ a : OpD, ∀ w, Below W.heap.size W w → ∃ b off, ao = some ⟨b, off, none⟩ ∧ ∀ (j : Nat) (u : Value), (opV a)[j]? = some u → w.cell? ⟨b, off + i * 5 + j, none⟩ = some u := by
    intro i hi
    obtain ⟨b, off, cs, e1, e2, e3, e4⟩ := h4 i l[i] (List.getElem?_eq_getElem hi)
    obtain ⟨c1, cs1, rfl, ⟨rfl, _⟩, c2, cs2, rfl, ⟨rfl, _⟩, c3, cs3, rfl, ⟨rfl, _⟩, c4, cs4, rfl, ⟨rfl, _⟩, c5, cs5, rfl, ⟨rfl, _⟩, rfl⟩ := e4
    refine ⟨⟨l[i].1, l[i].2.1, l[i].2.2.1, l[i].2.2.2.1, l[i].2.2.2.2.1.data.toList⟩, fun w hb => ⟨b, off, e1, fun j u hu => ?_⟩⟩
    refine (hb.cell (p := ⟨b, off + i * 5 + j, none⟩) e2).trans (e3 j u ?_)
    simpa [opV] using hu
  obtain ⟨f, hf⟩ := Go.Deep.choose_lt (n := l.length) hex
  refine ⟨(List.range l.length).map f, fun w hb => ⟨ao, cap, by simpa using h1, by simp; omega, fun i a hi => ?_⟩⟩
  have hil : i < l.length := by have := (List.getElem?_eq_some_iff.1 hi).1; simpa using this
  simp [hil] at hi
  subst hi
  exact hf i hil w hb
theorem below_of {W w : World} (h : Sat w [frameT W]) : Below W.heap.size W w := h.below 0 rfl
theorem bring_row {W : World} {v0 : Value} {l0 : List (Int × Int × Int × Int × ByteArray × Unit)} {a b c d : Int} (h0 : SliceRd opCod.rd opCod.size W v0 l0) :
    Calls Tryz.prog 6 #[.int .i64 a, .int .i64 b, .int .i64 c, v0, .int .i64 d] W fun e W' => e = .returned (.bool true) ∧ Below W.heap.size W W' := by
  obtain ⟨a0, h0⟩ := ops_of h0
  exact (bring_law (Sat.start W) a b c d (Ent.frame h0)).mono fun e W' ⟨v, h4, h5, h6⟩ => ⟨by rw [h4, h5], below_of h6⟩
end Go.Proofs.YtnicmcdeoimhlaaGreat
