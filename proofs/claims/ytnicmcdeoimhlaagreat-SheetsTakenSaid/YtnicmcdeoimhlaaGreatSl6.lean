/- laws of sheets: SheetsTaken -/
import Derived.Test.YtnicmcdeoimhlaaGreatSl1
import Derived.Test.YtnicmcdeoimhlaaGreatMem
import Derived.ProofKit
import Derived.OpenShut
import Derived.ShutString
import Derived.ChangeOld
import Derived.Deep.Slices
import Derived.Deep.Fields
import Derived.ChangeSame
import Derived.JoinedCond
namespace Go.Proofs.YtnicmcdeoimhlaaGreat
open Go.RowKit M
set_option linter.unusedVariables false
/-- at most n sheets -/
def DomV (V : Int → Option (Int × Bs)) (n : Nat) : Prop := ∃ ids : List Int, ids.length ≤ n ∧ ∀ j, V j ≠ none → j ∈ ids
theorem DomV.nil : DomV (fun _ => none) 0 := ⟨[], Nat.le_refl _, fun j h => absurd rfl h⟩
theorem DomV.up1 {V : Int → Option (Int × Bs)} {n : Nat} (h : DomV V n) : DomV V (n + 1) := by obtain ⟨l, h1, h2⟩ := h; exact ⟨l, by omega, h2⟩
theorem DomV.put {V : Int → Option (Int × Bs)} {n : Nat} {j : Int} {o : Option (Int × Bs)} (h : DomV V n) : DomV (up V j o) (n + 1) := by
  obtain ⟨l, h1, h2⟩ := h
  refine ⟨j :: l, by simp; omega, fun i hi => ?_⟩
  by_cases q : i = j
  · subst q; simp
  · rw [up_ne q] at hi; exact List.mem_cons_of_mem _ (h2 i hi)
theorem DomV.step {o : OpD} {a e : Int} {V V' : Int → Option (Int × Bs)} {n : Nat} (hd : DomV V n) (h : DoV o a e V V') : DomV V' (n + 1) := by
  rcases h with ⟨_, _, _, _, h⟩ | ⟨_, ⟨_, _, h⟩ | ⟨_, _, _, h⟩⟩ | ⟨_, _, ⟨_, h⟩ | ⟨_, _, _, _, h⟩⟩ | ⟨_, _, ⟨_, h⟩ | ⟨_, _, _, _, ⟨_, h⟩ | ⟨_, h⟩⟩⟩ | ⟨_, _, ⟨_, h⟩ | ⟨_, _, _, _, _, h⟩⟩ | ⟨_, _, ⟨_, h⟩ | ⟨_, _, _, h⟩⟩ | ⟨_, h⟩
  all_goals subst h
  all_goals first | exact hd.up1 | exact hd.put
structure LiveL (S : SS) (L : List Int) : Prop where
  nod : L.Nodup
  mem : ∀ j, j ∈ L ↔ S.all j ≠ none
theorem live_of {S : SS} {ks : List Int} (h : AllC (aG S.all) ks) : LiveL S (sortI ks) := by
  refine ⟨(sortI_perm ks).nodup_iff.2 h.nodup, fun j => ?_⟩
  rw [(sortI_perm ks).mem_iff, h.mem j]
  unfold aG
  cases S.all j <;> simp
theorem LiveL.len {S : SS} {L : List Int} {n : Nat} (h : LiveL S L) (hd : DomV (vw S) n) : L.length ≤ n := by
  obtain ⟨ids, h1, h2⟩ := hd
  exact Nat.le_trans (nodup_le h.nod fun x hx => h2 x fun q => (h.mem x).1 hx (vw_nil q)) h1
def atOf (S : SS) (j : Int) : Int := match S.all j with | some x => if x.place = 1 then x.at_ else -1 | none => -1
theorem ShI.clean {N : Nat} {S : SS} (h : ShI no0 N S) : ShI no0 N { S with taken := [] } := { h with tln := Nat.zero_le _ }
theorem shliveL_sp {w : World} {p : Nat} {S : SS} {F : Th} (hS : Sat w [shT p S, F]) {n : Nat} (hd : DomV (vw S) n) (hn : n ≤ 1000000) : Calls Tryz.prog 17 #[ptrV p 0] w (Ret fun v w' => ∃ L, LiveL S L ∧ L.length ≤ n ∧ Sat w' [rowT inC v L, shT p S, F]) := by
  obtain ⟨ids, h1, h2⟩ := hd
  refine (shlive_sp hS (ids := ids) (fun j hj => h2 j fun q => hj (vw_nil q)) (by omega)).mono fun e w h => h.mono fun v w ⟨ks, hks, h3⟩ => ⟨sortI ks, live_of hks, ?_, h3⟩
  exact (live_of hks).len ⟨ids, h1, h2⟩
theorem shframe_or {w : World} {p : Nat} {S : SS} {F : Th} (hS : Sat w [shT p S, F]) (id : Int) : Calls Tryz.prog 18 #[ptrV p 0, intV id] w (Ret fun v w' => ∃ (f : Int) (g : Bool), v = .tuple #[intV f, .bool g] ∧ (g = true → ∃ x, S.all id = some x ∧ x.place = 1 ∧ x.at_ = f) ∧ (g = false → ∀ x, S.all id = some x → x.place ≠ 1) ∧ Sat w' [shT p S, F]) := by
  refine (shframe_sp hS id).mono fun e w h => h.mono fun v w h => ?_
  cases hid : S.all id with
  | none => rw [hid] at h; exact ⟨0, false, h.1, fun q => (by cases q), fun _ x q => (by cases q), h.2⟩
  | some x =>
    rw [hid] at h
    dsimp only at h
    by_cases hp : x.place = 1
    · rw [if_pos hp] at h; exact ⟨x.at_, true, h.1, fun _ => ⟨x, rfl, hp, rfl⟩, fun q => (by cases q), h.2⟩
    · rw [if_neg hp] at h; exact ⟨0, false, h.1, fun q => (by cases q), fun _ y q => (by cases q; exact hp), h.2⟩
theorem taken_ok {S S2 : SS} {L : List Int} {j : Int} (hf : ShF S S2) (ht : S.taken = []) (h0 : 0 ≤ atOf S j) (hno : ∀ y, S2.all j = some y → y.place = 1 → y.at_ = atOf S j → False) : atOf S j ∈ S2.taken := by
  obtain ⟨T, h1, h2⟩ := hf.tk
  rw [h1, ht, List.nil_append]
  unfold atOf at h0 hno ⊢
  cases hx : S.all j with
  | none => rw [hx] at h0; simp at h0
  | some x =>
    rw [hx] at h0 hno
    dsimp only at h0 hno ⊢
    by_cases hp : x.place = 1
    · rw [if_pos hp] at hno ⊢
      rcases h2 j x hx hp with h3 | ⟨y, h3, h4, h5⟩
      · exact h3
      · exact (hno y h3 h4 h5).elim
    · rw [if_neg hp] at h0; omega
set_option maxRecDepth 100000 in
set_option maxHeartbeats 3200000 in
theorem taken_law {w : World} {F : Th} (hS : Sat w [F]) {lv : Value} {l : List OpD} (count slots budget : Int) (hL : Ent F (RdL opC lv l)) :
    Calls Tryz.prog 5 #[intV count, intV slots, intV budget, lv] w (Ret fun v w' => v = .bool true ∧ Sat w' [F]) := by
 obtain ⟨ao, cap, rfl, hmax⟩ := (hL.sat hS 0 rfl).shape
 refine calls_enter Tryz.func5 rfl Tryz.ntmps5 rfl ?_
 refine wc_seq (wc_region (wl_assign rfl rfl (wl_nil (qs_seq (wc_seq (wc_region ?_))))))
 have hC1 := hS.split [] [false] rfl; dsimp only [selF, pickA, nthA, List.cons_append, List.nil_append] at hC1
 refine wl_call cal_8 rfl (small_sp hC1) rfl ?_
 rintro e w1 ⟨_, rfl, rfl, hS1⟩; refine ⟨_, rfl, ?_⟩
 replace hS1 := hS1.join rfl; dsimp only [List.dropLast, List.cons_append, List.nil_append] at hS1; clear hC1
 refine wl_assign rfl rfl (wl_nil (qs_seq (wc_seq (wc_region (wl_move rfl rfl (wl_move rfl rfl (wl_move rfl rfl ?_)))))))
 have hC2 := hS1.split [] [false] rfl; dsimp only [selF, pickA, nthA, List.cons_append, List.nil_append] at hC2
 refine wl_call cal_9 rfl (shnew_sp hC2 count slots budget) rfl ?_
 rintro e w2 ⟨_, rfl, p, rfl, hS2⟩; refine ⟨_, rfl, ?_⟩
 replace hS2 := hS2.join rfl; dsimp only [List.dropLast, List.cons_append, List.nil_append] at hS2; clear hC2
 clear hS1
 refine wl_assign rfl rfl (wl_nil (qs_seq ?_))
 refine wc_sub (L' := [(10, _), (9, _), (8, _), (3, _)]) (.cons rfl (.cons rfl (.cons rfl (.cons rfl .nil)))) ?_
 refine wc_seq (wc_seq (wc_region (wl_move rfl rfl ?_)))
 have hC3 := hS2.split [] [false, false] rfl; dsimp only [selF, pickA, nthA, List.cons_append, List.nil_append] at hC3
 refine wl_call cal_10 rfl (few_sp hC3 (hL.starL 1 rfl) 60) rfl ?_
 rintro e w3 ⟨_, rfl, rfl, hS3⟩; refine ⟨_, rfl, ?_⟩
 replace hS3 := hS3.join rfl; dsimp only [List.dropLast, List.cons_append, List.nil_append] at hS3; clear hC3
 clear hS2
 refine wl_not rfl rfl ?_
 refine wl_move rfl rfl ?_
 refine wl_split 31 rfl (fun h4 => ?_) (fun h4 => ?_)
 ·refine wl_unwanted rfl rfl h4 rfl ?_
  refine wl_unwanted rfl rfl h4 rfl ?_
  refine wl_pickT rfl h4 rfl rfl ?_
  refine wl_nil (qs_seq ?_)
  refine wc_sub (L' := [(34, _), (10, _), (9, _), (8, _), (3, _)]) (.cons rfl (.cons rfl (.cons rfl (.cons rfl (.cons rfl .nil))))) ?_
  refine wc_condT rfl ?_
  refine wc_seq (wc_region (wl_move rfl rfl (wl_move rfl rfl ?_)))
  refine wl_split 36 rfl (fun h5 => ?_) (fun h5 => ?_)
  ·refine wl_guard rfl rfl h5 ?_
   refine wl_move rfl rfl ?_
   refine wl_guard rfl rfl h5 ?_
   refine wl_neqNil Tryz.underlying24 rfl rfl rfl ?_
   refine wl_pickT rfl h5 rfl rfl ?_
   refine wl_assign rfl rfl (wl_nil (qs_seq (wc_ret (qs_then_ret ?_))))
   refine fin1 (.inr rfl) rfl rfl ?_
   exact ⟨_, rfl, by first | rfl | (rw [htk]; rfl) | simp [htk], hS3.pick [1] rfl⟩
  exact absurd h5 (by simp)
 have hfew : fewB l 60 = true := by simpa using h4
 have hall := few_all hfew
 refine wl_guard rfl rfl h4 ?_
 refine wl_move rfl rfl ?_
 refine wl_guard rfl rfl h4 ?_
 refine wl_eqlNil Tryz.underlying24 rfl rfl rfl ?_
 refine wl_pickF rfl h4 rfl rfl ?_
 refine wl_nil (qs_seq ?_)
 refine wc_sub (L' := [(34, _), (10, _), (9, _), (8, _), (3, _)]) (.cons rfl (.cons rfl (.cons rfl (.cons rfl (.cons rfl .nil))))) ?_
 refine wc_condF rfl ?_
 refine wc_skip (qs_seq (wc_seq (wc_seq (wc_region (wl_assign rfl rfl (wl_nil (qs_seq (wc_block ?_))))))))
 refine wc_loop (fun K0 E0 W0 => ∃ (i : Nat) (S : SS), K0 = l.length - i ∧ E0 = [(3, .slice ao l.length cap), (9, .bool true), (10, ptrV p 0), (11, intV (i : Int))] ∧ Sat W0 [shT p S, F] ∧ (i ≤ l.length) ∧ (ShI no0 (301 * i) S) ∧ (DomV (vw S) i) ∧ (S.taken = [])) (L0 := [(3, _), (9, _), (10, _), (11, _)]) (l.length - 0) (.cons rfl (.cons rfl (.cons rfl (.cons rfl .nil)))) ⟨0, _, rfl, rfl, hS3, by omega, newS_inv count slots budget, DomV.nil, rfl⟩ ?_
 rintro _ _ w6 ⟨i, S, rfl, rfl, hS6, hi, hI, hdm, htk⟩
 refine wc_seq (wc_seq (wc_region (wl_move rfl rfl (wl_move rfl rfl ?_))))
 refine wl_lenL Tryz.underlying22 rfl rfl ?_
 refine wl_lss rfl rfl rfl ?_
 refine wl_nil (qs_seq ?_)
 refine wc_condD rfl (fun h7 => ?_) (fun h7 => ?_)
 ·obtain ⟨o, ho⟩ : ∃ o, l[i]? = some o := ⟨_, List.getElem?_eq_getElem (by omega)⟩
  obtain ⟨b, off, rfl, _⟩ := (hL.sat hS6 1 rfl).get ho
  have hil := (List.getElem?_eq_some_iff.1 ho).1
  have hoo := hall.1 i o ho
  refine wc_skip (qs_seq (wc_seq (wc_block (wc_seq (wc_region (wl_move rfl rfl ?_))))))
  have hC8 := hS6.split [0] [true, false] rfl; dsimp only [selF, pickA, nthA, List.cons_append, List.nil_append] at hC8
  refine wl_call cal_17 rfl (shliveL_sp hC8 hdm (by omega)) rfl ?_
  rintro e w8 ⟨_, rfl, L, hL0, hLn, hS8⟩; refine ⟨_, rfl, ?_⟩
  replace hS8 := hS8.join rfl; dsimp only [List.dropLast, List.cons_append, List.nil_append] at hS8; clear hC8
  clear hS6
  obtain ⟨la, lc, hlv, _⟩ := hS8.own_shape 0 rfl
  obtain rfl := hlv
  refine wl_assign rfl rfl (wl_nil (qs_seq ?_))
  refine wc_sub (L' := [(12, _), (3, _), (9, _), (10, _), (11, _)]) (.cons rfl (.cons rfl (.cons rfl (.cons rfl (.cons rfl .nil))))) ?_
  refine wc_seq (wc_region (wl_assign rfl rfl (wl_nil (qs_seq (wc_seq (wc_seq (wc_region (wl_assign rfl rfl (wl_nil (qs_seq (wc_block ?_)))))))))))
  have hq0 := (hS8.pick [0, 1, 2] rfl).row_nil inC
  refine wc_loop (fun K0 E0 W0 => ∃ (k : Nat) (av : Value), K0 = L.length - k ∧ E0 = [(3, .slice (some ⟨b, off, none⟩) l.length cap), (9, .bool true), (10, ptrV p 0), (11, intV (i : Int)), (12, .slice la L.length lc), (13, av), (14, intV (k : Int))] ∧ Sat W0 [rowT inC av ((L.take k).map (atOf S)), rowT inC (.slice la L.length lc) L, shT p S, F] ∧ (k ≤ L.length)) (L0 := [(3, _), (9, _), (10, _), (11, _), (12, _), (13, _), (14, _)]) (L.length - 0) (.cons rfl (.cons rfl (.cons rfl (.cons rfl (.cons rfl (.cons rfl (.cons rfl .nil))))))) ⟨0, _, rfl, rfl, hq0, by omega⟩ ?_
  rintro _ _ w9 ⟨k, av, rfl, rfl, hS9, hk⟩
  refine wc_seq (wc_seq (wc_region (wl_move rfl rfl (wl_move rfl rfl ?_))))
  first | refine wl_lenL Tryz.underlying28 rfl rfl ?_ | refine wl_lenO 0 hS9 Tryz.underlying28 rfl rfl rfl ?_ | refine wl_lenO 1 hS9 Tryz.underlying28 rfl rfl rfl ?_
  refine wl_lss rfl rfl rfl ?_
  refine wl_nil (qs_seq ?_)
  refine wc_sub (L' := [(51, _), (3, _), (9, _), (10, _), (11, _), (12, _), (13, _), (14, _)]) (.cons rfl (.cons rfl (.cons rfl (.cons rfl (.cons rfl (.cons rfl (.cons rfl (.cons rfl .nil)))))))) ?_
  refine wc_condD rfl (fun h10 => ?_) (fun h10 => ?_)
  ·obtain ⟨j, hj⟩ : ∃ x, L[k]? = some x := ⟨_, List.getElem?_eq_getElem (by omega)⟩
   obtain ⟨x, hx⟩ := Option.ne_none_iff_exists'.1 ((hL0.mem j).1 (List.mem_of_getElem? hj))
   refine wc_skip (qs_seq (wc_seq (wc_block (wc_seq (wc_region (wl_move rfl rfl (wl_move rfl rfl (wl_move rfl rfl ?_))))))))
   refine wl_rowIdx inC 1 k hS9 rfl rfl rfl (by first | rfl | omega) hj es_28 rfl ?_
   intro bx11 capx11 hvx11
   refine wl_rowLoad 1 k 0 hS9 rfl hvx11 rfl rfl hj ag_3 rfl rfl ?_
   have hC12 := hS9.split [2] [false, false, true, false] rfl; dsimp only [selF, pickA, nthA, List.cons_append, List.nil_append] at hC12
   refine wl_call cal_18 rfl (shframe_sp hC12 j) rfl ?_
   rintro e w12 ⟨_, rfl, rfl, hS12⟩; refine ⟨_, rfl, ?_⟩
   replace hS12 := hS12.join rfl; dsimp only [List.dropLast, List.cons_append, List.nil_append] at hS12; clear hC12
   clear hS9
   rw [hx]
   dsimp only
   by_cases hpl : x.place = 1
   ·rw [if_pos hpl]
    refine wl_move rfl rfl (wl_extract rfl rfl rfl (wl_extract rfl rfl rfl (wl_assign rfl rfl (wl_assign rfl rfl (wl_nil (qs_seq ?_))))))
    refine wc_sub (L' := [(16, _), (15, _), (3, _), (9, _), (10, _), (11, _), (12, _), (13, _), (14, _)]) (.cons rfl (.cons rfl (.cons rfl (.cons rfl (.cons rfl (.cons rfl (.cons rfl (.cons rfl (.cons rfl .nil))))))))) ?_
    refine wc_seq (wc_seq (wc_region (wl_move rfl rfl ?_)))
    refine wl_not rfl rfl ?_
    refine wl_nil (qs_seq ?_)
    refine wc_cond rfl (fun h13 => ?_) (fun h13 => ?_)
    ·exact absurd h13 (by simp)
    refine wc_skip (qs_seq ?_)
    refine wc_sub (L' := [(15, _), (3, _), (9, _), (10, _), (11, _), (12, _), (13, _), (14, _)]) (.cons rfl (.cons rfl (.cons rfl (.cons rfl (.cons rfl (.cons rfl (.cons rfl (.cons rfl .nil)))))))) ?_
    refine wc_region (wl_move rfl rfl (wl_move rfl rfl ?_))
    refine wl_rowBuild inC [x.at_] hS12 rfl Tryz.underlying28 ifz_3 rfl rfl rfl rfl (by first | rfl | simp [RowC.cells, fillL, splice]) rfl ?_
    intro b14 w14 hS14
    clear hS12
    refine wl_rowApp inC 2 hS14 rfl rfl rfl (hS14.rd 0 rfl (by simp)) Tryz.underlying28 Tryz.underlying28 (by intro k hk; cases hk) ifo_3 rfl (by simp only [List.length_cons, List.length_nil, List.length_map, List.length_take]; omega) rfl (by simp only [List.length_cons, List.length_nil, List.length_map, List.length_take]; omega) ?_
    intro v15 w15 hS15; dsimp only [List.set] at hS15
    clear hS14
    have h1v15 : v15.oneCell' = true := hS15.own_one 2 rfl
    refine wl_assign rfl rfl (wl_nil (qs_block_normal (qs_seq ?_)))
    refine wc_sub (L' := [(13, _), (3, _), (9, _), (10, _), (11, _), (12, _), (14, _)]) (.cons rfl (.cons rfl (.cons rfl (.cons rfl (.cons rfl (.cons rfl (.cons rfl .nil))))))) ?_
    refine wc_region (wl_move rfl rfl ?_)
    refine wl_add rfl rfl (by omega) (by omega) rfl ?_
    refine wl_assign rfl rfl (wl_nil ?_)
    have hSz := hS15.pick [2, 3, 1, 4] rfl
    have hao : atOf S j = x.at_ := by unfold atOf; rw [hx]; dsimp only; exact if_pos (by assumption)
    rw [← hao, show ((L.take k).map (atOf S)) ++ [atOf S j] = ((L.take (k + 1)).map (atOf S)) by rw [List.take_add_one, hj]; simp] at hSz
    exact qs_round (L1 := [(3, _), (9, _), (10, _), (11, _), (12, _), (13, v15), (14, intV ((k + 1 : Nat) : Int))]) (.cons rfl (.cons rfl (.cons rfl (.cons rfl (.cons rfl (.cons rfl (.cons rfl .nil))))))) (k1 := L.length - (k + 1)) (by omega) ⟨k + 1, _, rfl, rfl, hSz, by omega⟩
   rw [if_neg hpl]
   refine wl_move rfl rfl (wl_extract rfl rfl rfl (wl_extract rfl rfl rfl (wl_assign rfl rfl (wl_assign rfl rfl (wl_nil (qs_seq ?_))))))
   refine wc_sub (L' := [(16, _), (15, _), (3, _), (9, _), (10, _), (11, _), (12, _), (13, _), (14, _)]) (.cons rfl (.cons rfl (.cons rfl (.cons rfl (.cons rfl (.cons rfl (.cons rfl (.cons rfl (.cons rfl .nil))))))))) ?_
   refine wc_seq (wc_seq (wc_region (wl_move rfl rfl ?_)))
   refine wl_not rfl rfl ?_
   refine wl_nil (qs_seq ?_)
   refine wc_cond rfl (fun h16 => ?_) (fun h16 => ?_)
   ·refine wc_region (wl_assign rfl rfl (wl_nil (qs_seq ?_)))
    refine wc_sub (L' := [(15, _), (3, _), (9, _), (10, _), (11, _), (12, _), (13, _), (14, _)]) (.cons rfl (.cons rfl (.cons rfl (.cons rfl (.cons rfl (.cons rfl (.cons rfl (.cons rfl .nil)))))))) ?_
    refine wc_region (wl_move rfl rfl (wl_move rfl rfl ?_))
    refine wl_rowBuild inC [(-1)] hS12 rfl Tryz.underlying28 ifz_3 rfl rfl rfl rfl (by first | rfl | simp [RowC.cells, fillL, splice]) rfl ?_
    intro b17 w17 hS17
    clear hS12
    refine wl_rowApp inC 2 hS17 rfl rfl rfl (hS17.rd 0 rfl (by simp)) Tryz.underlying28 Tryz.underlying28 (by intro k hk; cases hk) ifo_3 rfl (by simp only [List.length_cons, List.length_nil, List.length_map, List.length_take]; omega) rfl (by simp only [List.length_cons, List.length_nil, List.length_map, List.length_take]; omega) ?_
    intro v18 w18 hS18; dsimp only [List.set] at hS18
    clear hS17
    have h1v18 : v18.oneCell' = true := hS18.own_one 2 rfl
    refine wl_assign rfl rfl (wl_nil (qs_block_normal (qs_seq ?_)))
    refine wc_sub (L' := [(13, _), (3, _), (9, _), (10, _), (11, _), (12, _), (14, _)]) (.cons rfl (.cons rfl (.cons rfl (.cons rfl (.cons rfl (.cons rfl (.cons rfl .nil))))))) ?_
    refine wc_region (wl_move rfl rfl ?_)
    refine wl_add rfl rfl (by omega) (by omega) rfl ?_
    refine wl_assign rfl rfl (wl_nil ?_)
    have hSz := hS18.pick [2, 3, 1, 4] rfl
    have hao : atOf S j = (-1) := by unfold atOf; rw [hx]; dsimp only; exact if_neg (by assumption)
    rw [← hao, show ((L.take k).map (atOf S)) ++ [atOf S j] = ((L.take (k + 1)).map (atOf S)) by rw [List.take_add_one, hj]; simp] at hSz
    exact qs_round (L1 := [(3, _), (9, _), (10, _), (11, _), (12, _), (13, v18), (14, intV ((k + 1 : Nat) : Int))]) (.cons rfl (.cons rfl (.cons rfl (.cons rfl (.cons rfl (.cons rfl (.cons rfl .nil))))))) (k1 := L.length - (k + 1)) (by omega) ⟨k + 1, _, rfl, rfl, hSz, by omega⟩
   exact absurd h16 (by simp)
  refine wc_exit (qs_then_exit (qs_then_exit (qs_block_exit (qs_seq (wc_seq (wc_region (wl_move rfl rfl (wl_move rfl rfl (wl_move rfl rfl ?_)))))))))
  refine wl_indexAddr i rfl rfl (by first | rfl | omega) (by omega) es_22 rfl ?_
  refine wl_loadAt rfl ag_33 sz_33 (vs := opV o) ((hL.sat hS9 3 rfl).at_ ho) rfl ?_
  have hC19 := hS9.split [2] [false, false, true, false] rfl; dsimp only [selF, pickA, nthA, List.cons_append, List.nil_append] at hC19
  refine wl_call cal_11 rfl (do_sp hC19 hI (by omega) o hoo) rfl ?_
  rintro e w19 ⟨_, rfl, a, e, S2, rfl, hDo, hS19⟩; refine ⟨_, rfl, ?_⟩
  replace hS19 := hS19.join rfl; dsimp only [List.dropLast, List.cons_append, List.nil_append] at hS19; clear hC19
  clear hS9
  have htl2 := hDo.inv.tln
  refine wl_nil (qs_seq ?_)
  refine wc_sub (L' := [(3, _), (9, _), (10, _), (11, _), (12, _), (13, _)]) (.cons rfl (.cons rfl (.cons rfl (.cons rfl (.cons rfl (.cons rfl .nil)))))) ?_
  refine wc_seq (wc_region (wl_move rfl rfl ?_))
  have hC20 := hS19.split [0] [true, false, false, false] rfl; dsimp only [selF, pickA, nthA, List.cons_append, List.nil_append] at hC20
  refine wl_call cal_22 rfl (shtaken_sp hC20) rfl ?_
  rintro e w20 ⟨_, rfl, hS20⟩; refine ⟨_, rfl, ?_⟩
  replace hS20 := hS20.join rfl; dsimp only [List.dropLast, List.cons_append, List.nil_append] at hS20; clear hC20
  clear hS19
  obtain ⟨ta, tc, htv, _⟩ := hS20.own_shape 0 rfl
  obtain rfl := htv
  refine wl_assign rfl rfl (wl_nil (qs_seq (wc_seq (wc_region (wl_assign rfl rfl (wl_nil (qs_seq (wc_block ?_))))))))
  have hq2 := hS20.pick [2, 0, 3, 1, 4] rfl; rw [show k = L.length by omega] at hq2
  refine wc_loop (fun K0 E0 W0 => ∃ (k : Nat), K0 = L.length - k ∧ E0 = [(3, .slice (some ⟨b, off, none⟩) l.length cap), (9, .bool true), (10, ptrV p 0), (11, intV (i : Int)), (12, .slice la L.length lc), (13, av), (17, .slice ta S2.taken.length tc), (18, intV (k : Int))] ∧ Sat W0 [rowT inC av ((L.take L.length).map (atOf S)), rowT inC (.slice ta S2.taken.length tc) S2.taken, rowT inC (.slice la L.length lc) L, shT p { S2 with taken := [] }, F] ∧ (k ≤ L.length)) (L0 := [(3, _), (9, _), (10, _), (11, _), (12, _), (13, _), (17, _), (18, _)]) (L.length - 0) (.cons rfl (.cons rfl (.cons rfl (.cons rfl (.cons rfl (.cons rfl (.cons rfl (.cons rfl .nil)))))))) ⟨0, rfl, rfl, hq2, by omega⟩ ?_
  rintro _ _ w21 ⟨k, rfl, rfl, hS21, hk⟩
  refine wc_seq (wc_seq (wc_region (wl_move rfl rfl (wl_move rfl rfl ?_))))
  first | refine wl_lenL Tryz.underlying28 rfl rfl ?_ | refine wl_lenO 0 hS21 Tryz.underlying28 rfl rfl rfl ?_ | refine wl_lenO 1 hS21 Tryz.underlying28 rfl rfl rfl ?_ | refine wl_lenO 2 hS21 Tryz.underlying28 rfl rfl rfl ?_
  refine wl_lss rfl rfl rfl ?_
  refine wl_nil (qs_seq ?_)
  refine wc_sub (L' := [(80, _), (3, _), (9, _), (10, _), (11, _), (12, _), (13, _), (17, _), (18, _)]) (.cons rfl (.cons rfl (.cons rfl (.cons rfl (.cons rfl (.cons rfl (.cons rfl (.cons rfl (.cons rfl .nil))))))))) ?_
  refine wc_condD rfl (fun h22 => ?_) (fun h22 => ?_)
  ·obtain ⟨j, hj⟩ : ∃ x, L[k]? = some x := ⟨_, List.getElem?_eq_getElem (by omega)⟩
   have hja : ((L.take L.length).map (atOf S))[k]? = some (atOf S j) := by rw [List.take_length, List.getElem?_map, hj]; rfl
   obtain ⟨ab, ac9, hqa, _⟩ := hS21.own_at 0 rfl (by rw [List.length_map, List.length_take]; omega); subst hqa
   refine wc_skip (qs_seq (wc_seq (wc_block (wc_seq (wc_region (wl_move rfl rfl (wl_move rfl rfl (wl_move rfl rfl ?_))))))))
   refine wl_rowIdx inC 2 k hS21 rfl rfl rfl (by first | rfl | omega) hj es_28 rfl ?_
   intro bx23 capx23 hvx23
   refine wl_rowLoad 2 k 0 hS21 rfl hvx23 rfl rfl hj ag_3 rfl rfl ?_
   have hC24 := hS21.split [3] [false, false, false, true, false] rfl; dsimp only [selF, pickA, nthA, List.cons_append, List.nil_append] at hC24
   refine wl_call cal_18 rfl (shframe_or hC24 j) rfl ?_
   rintro e w24 ⟨_, rfl, f, g, rfl, hg1a, hg0, hS24⟩; refine ⟨_, rfl, ?_⟩
   replace hS24 := hS24.join rfl; dsimp only [List.dropLast, List.cons_append, List.nil_append] at hS24; clear hC24
   clear hS21
   have hg1 : g = true → atOf S2 j = f ∧ ∃ x, S2.all j = some x ∧ x.place = 1 ∧ x.at_ = f := fun q => by obtain ⟨x, h1, h2, h3⟩ := hg1a q; exact ⟨by unfold atOf; rw [show S2.all j = some x from h1]; dsimp only; rw [if_pos h2, h3], x, h1, h2, h3⟩
   replace hg0 : g = false → ∀ x, S2.all j = some x → x.place ≠ 1 := hg0
   refine wl_move rfl rfl (wl_extract rfl rfl rfl (wl_extract rfl rfl rfl (wl_assign rfl rfl (wl_assign rfl rfl (wl_nil (qs_seq ?_))))))
   refine wc_sub (L' := [(20, _), (19, _), (3, _), (9, _), (10, _), (11, _), (12, _), (13, _), (17, _), (18, _)]) (.cons rfl (.cons rfl (.cons rfl (.cons rfl (.cons rfl (.cons rfl (.cons rfl (.cons rfl (.cons rfl (.cons rfl .nil)))))))))) ?_
   refine wc_seq (wc_region (wl_assign rfl rfl (wl_nil (qs_seq (wc_seq (wc_seq (wc_region (wl_assign rfl rfl (wl_nil (qs_seq (wc_block ?_)))))))))))
   have hq3 := hS24.pick [1, 2, 3, 0, 4] rfl
   refine wc_loop (fun K0 E0 W0 => ∃ (m : Nat) (gv : Bool), K0 = S2.taken.length - m ∧ E0 = [(3, .slice (some ⟨b, off, none⟩) l.length cap), (9, .bool true), (10, ptrV p 0), (11, intV (i : Int)), (12, .slice la L.length lc), (13, .slice (some ⟨ab, 0, none⟩) ((L.take L.length).map (atOf S)).length ac9), (17, .slice ta S2.taken.length tc), (18, intV (k : Int)), (19, intV f), (20, .bool g), (21, .bool gv), (22, intV (m : Int))] ∧ Sat W0 [rowT inC (.slice (some ⟨ab, 0, none⟩) ((L.take L.length).map (atOf S)).length ac9) ((L.take L.length).map (atOf S)), rowT inC (.slice ta S2.taken.length tc) S2.taken, rowT inC (.slice la L.length lc) L, shT p { S2 with taken := [] }, F] ∧ (m ≤ S2.taken.length) ∧ (gv = true ↔ atOf S j ∈ S2.taken.take m)) (L0 := [(3, _), (9, _), (10, _), (11, _), (12, _), (13, _), (17, _), (18, _), (19, _), (20, _), (21, _), (22, _)]) (S2.taken.length - 0) (.cons rfl (.cons rfl (.cons rfl (.cons rfl (.cons rfl (.cons rfl (.cons rfl (.cons rfl (.cons rfl (.cons rfl (.cons rfl (.cons rfl .nil)))))))))))) ⟨0, false, rfl, rfl, hq3, by omega, by simp⟩ ?_
   rintro _ _ w25 ⟨m, gv, rfl, rfl, hS25, hm, hgv⟩
   refine wc_seq (wc_seq (wc_region (wl_move rfl rfl (wl_move rfl rfl ?_))))
   first | refine wl_lenL Tryz.underlying28 rfl rfl ?_ | refine wl_lenO 0 hS25 Tryz.underlying28 rfl rfl rfl ?_ | refine wl_lenO 1 hS25 Tryz.underlying28 rfl rfl rfl ?_ | refine wl_lenO 2 hS25 Tryz.underlying28 rfl rfl rfl ?_
   refine wl_lss rfl rfl rfl ?_
   refine wl_nil (qs_seq ?_)
   refine wc_sub (L' := [(95, _), (3, _), (9, _), (10, _), (11, _), (12, _), (13, _), (17, _), (18, _), (19, _), (20, _), (21, _), (22, _)]) (.cons rfl (.cons rfl (.cons rfl (.cons rfl (.cons rfl (.cons rfl (.cons rfl (.cons rfl (.cons rfl (.cons rfl (.cons rfl (.cons rfl (.cons rfl .nil))))))))))))) ?_
   refine wc_condD rfl (fun h26 => ?_) (fun h26 => ?_)
   ·obtain ⟨t0, htm⟩ : ∃ x, S2.taken[m]? = some x := ⟨_, List.getElem?_eq_getElem (by omega)⟩
    obtain ⟨tb, tc9, hqt, _⟩ := hS25.own_at 1 rfl (by omega); cases hqt
    refine wc_skip (qs_seq (wc_seq (wc_block ?_)))
    have hS27 := hS25.drew
    refine wc_draw [0, 1, 2, 3, 4, 5, 6, 7, 8, 9, 10, 11, 12] [] mix (by kernel_rfl) ?_
    refine vc_p rfl rfl rfl (fun _ => (ev_move rfl)) ?_
    refine vc_p rfl rfl rfl (fun _ => (ev_move rfl)) ?_
    refine vc_split 99 rfl (fun h28 => ?_) (fun h28 => ?_)
    ·refine vc_not rfl rfl (guard_no rfl rfl h28) ?_
     refine vc_not rfl rfl (guard_no rfl rfl h28) ?_
     refine vc_not rfl rfl (guard_no rfl rfl h28) ?_
     refine vc_not rfl rfl (guard_no rfl rfl h28) ?_
     refine vc_not rfl rfl (guard_no rfl rfl h28) ?_
     refine vc_not rfl rfl (guard_no rfl rfl h28) ?_
     refine vc_not rfl rfl (guard_no rfl rfl h28) ?_
     refine vc_not rfl rfl (guard_no rfl rfl h28) ?_
     refine vc_not rfl rfl (guard_no rfl rfl h28) ?_
     refine vc_p rfl rfl rfl (fun _ => (ev_pickT rfl h28 rfl)) ?_
     refine vc_p rfl rfl rfl (fun _ => (ev_assign rfl)) ?_
     refine VC.nil (qs_block_normal (qs_seq ?_))
     refine wc_sub (L' := [(21, _), (3, _), (9, _), (10, _), (11, _), (12, _), (13, _), (17, _), (18, _), (19, _), (20, _), (22, _)]) (.cons rfl (.cons rfl (.cons rfl (.cons rfl (.cons rfl (.cons rfl (.cons rfl (.cons rfl (.cons rfl (.cons rfl (.cons rfl (.cons rfl .nil)))))))))))) ?_
     refine wc_region (wl_move rfl rfl ?_)
     refine wl_add rfl rfl (by omega) (by omega) rfl ?_
     refine wl_assign rfl rfl (wl_nil ?_)
     exact qs_round (L1 := [(3, _), (9, _), (10, _), (11, _), (12, _), (13, _), (17, _), (18, _), (19, _), (20, _), (21, .bool true), (22, intV ((m + 1 : Nat) : Int))]) (.cons rfl (.cons rfl (.cons rfl (.cons rfl (.cons rfl (.cons rfl (.cons rfl (.cons rfl (.cons rfl (.cons rfl (.cons rfl (.cons rfl .nil)))))))))))) (k1 := S2.taken.length - (m + 1)) (by omega) ⟨m + 1, true, rfl, rfl, hS27.pick [0, 1, 2, 3, 4] rfl, by omega, by rw [List.take_add_one, htm]; simp only [Option.toList_some, List.mem_append]; exact ⟨fun _ => .inl (hgv.1 (by assumption)), fun _ => (by first | rfl | trivial)⟩⟩
    refine vc_p rfl rfl (guard_yes rfl rfl h28) (fun _ => (Ev.gd (ev_move rfl))) ?_
    refine vc_p rfl rfl (guard_yes rfl rfl h28) (fun _ => (Ev.gd (ev_move rfl))) ?_
    refine vc_p rfl rfl (guard_yes rfl rfl h28) (fun _ => (Ev.gd (ev_indexAddr m rfl rfl (by first | rfl | omega) (by first | omega | exact (List.getElem?_eq_some_iff.1 htm).1) es_28))) ?_
    refine vc_q rfl rfl (guard_yes rfl rfl h28) (Ev.gd (ev_rowLoad0 inC 1 m 0 hS27 rfl htm ag_3 rfl rfl)) ?_
    refine vc_p rfl rfl (guard_yes rfl rfl h28) (fun _ => (Ev.gd (ev_move rfl))) ?_
    refine vc_p rfl rfl (guard_yes rfl rfl h28) (fun _ => (Ev.gd (ev_move rfl))) ?_
    refine vc_p rfl rfl (guard_yes rfl rfl h28) (fun _ => (Ev.gd (ev_indexAddr k rfl rfl (by first | rfl | omega) (by rw [List.length_map, List.length_take]; omega) es_28))) ?_
    refine vc_q rfl rfl (guard_yes rfl rfl h28) (Ev.gd (ev_rowLoad0 inC 0 k 0 hS27 rfl hja ag_3 rfl rfl)) ?_
    refine vc_p rfl rfl (guard_yes rfl rfl h28) (fun _ => (Ev.gd (ev_eql rfl rfl))) ?_
    refine vc_p rfl rfl rfl (fun _ => (ev_pickF rfl h28 rfl)) ?_
    refine vc_p rfl rfl rfl (fun _ => (ev_assign rfl)) ?_
    refine VC.nil (qs_block_normal (qs_seq ?_))
    refine wc_sub (L' := [(21, _), (3, _), (9, _), (10, _), (11, _), (12, _), (13, _), (17, _), (18, _), (19, _), (20, _), (22, _)]) (.cons rfl (.cons rfl (.cons rfl (.cons rfl (.cons rfl (.cons rfl (.cons rfl (.cons rfl (.cons rfl (.cons rfl (.cons rfl (.cons rfl .nil)))))))))))) ?_
    refine wc_region (wl_move rfl rfl ?_)
    refine wl_add rfl rfl (by omega) (by omega) rfl ?_
    refine wl_assign rfl rfl (wl_nil ?_)
    exact qs_round (L1 := [(3, _), (9, _), (10, _), (11, _), (12, _), (13, _), (17, _), (18, _), (19, _), (20, _), (21, .bool (decide (t0 = atOf S j))), (22, intV ((m + 1 : Nat) : Int))]) (.cons rfl (.cons rfl (.cons rfl (.cons rfl (.cons rfl (.cons rfl (.cons rfl (.cons rfl (.cons rfl (.cons rfl (.cons rfl (.cons rfl .nil)))))))))))) (k1 := S2.taken.length - (m + 1)) (by omega) ⟨m + 1, (decide (t0 = atOf S j)), rfl, rfl, hS27.pick [0, 1, 2, 3, 4] rfl, by omega, by rw [List.take_add_one, htm]; simp only [Option.toList_some, List.mem_append, List.mem_singleton, decide_eq_true_eq]; exact ⟨fun q => .inr q.symm, fun q => q.elim (fun q => absurd (hgv.2 q) (by simp_all)) (fun q => q.symm)⟩⟩
   refine wc_exit (qs_then_exit (qs_then_exit (qs_block_exit (qs_seq (wc_seq ?_)))))
   have hgt : gv = true ↔ atOf S j ∈ S2.taken := by rw [hgv, List.take_of_length_le (by omega)]
   have hmain : 0 ≤ atOf S j → (g = false ∨ f ≠ atOf S j) → gv = true := by intro q1 q2; rw [hgt]; exact taken_ok hDo.f htk (L := L) q1 (fun y hy hp ha => by rcases q2 with q2 | q2; exact hg0 q2 y hy hp; cases g; exact hg0 rfl y hy hp; (obtain ⟨hg2, z, hz, hzp, hza⟩ := hg1 rfl; rw [hy] at hz; cases hz; exact q2 (by omega)))
   refine wc_region (wl_move rfl rfl (wl_move rfl rfl ?_))
   refine wl_rowIdx inC 0 k hS25 rfl rfl rfl (by first | rfl | omega) hja es_28 rfl ?_
   intro bx29 capx29 hvx29
   refine wl_rowLoad 0 k 0 hS25 rfl hvx29 rfl rfl hja ag_3 rfl rfl ?_
   refine wl_geq rfl rfl rfl ?_
   refine wl_move rfl rfl ?_
   refine wl_splitD 115 rfl (fun h30 => ?_) (fun h30 => ?_)
   ·have hq5 : atOf S j ≥ 0 := h30
    refine wl_guard rfl rfl (decide_eq_true h30) ?_
    refine wl_move rfl rfl ?_
    refine wl_guard rfl rfl (decide_eq_true h30) ?_
    refine wl_not rfl rfl ?_
    refine wl_guard rfl rfl (decide_eq_true h30) ?_
    refine wl_move rfl rfl ?_
    refine wl_split 118 rfl (fun h31 => ?_) (fun h31 => ?_)
    ·have hq8 : g = false := by simpa using h31
     refine wl_unwanted rfl rfl h31 rfl ?_
     refine wl_unwanted rfl rfl h31 rfl ?_
     refine wl_unwanted rfl rfl h31 rfl ?_
     refine wl_unwanted rfl rfl h31 rfl ?_
     refine wl_unwanted rfl rfl h31 rfl ?_
     refine wl_unwanted rfl rfl h31 rfl ?_
     refine wl_guard rfl rfl (decide_eq_true h30) ?_
     refine wl_pickT rfl h31 rfl rfl ?_
     refine wl_pickT rfl (decide_eq_true h30) rfl rfl ?_
     refine wl_move rfl rfl ?_
     refine wl_guard rfl rfl rfl ?_
     refine wl_move rfl rfl ?_
     refine wl_guard rfl rfl rfl ?_
     refine wl_not rfl rfl ?_
     refine wl_pickT rfl rfl rfl rfl ?_
     refine wl_nil (qs_seq ?_)
     refine wc_sub (L' := [(130, _), (3, _), (9, _), (10, _), (11, _), (12, _), (13, _), (17, _), (18, _)]) (.cons rfl (.cons rfl (.cons rfl (.cons rfl (.cons rfl (.cons rfl (.cons rfl (.cons rfl (.cons rfl .nil))))))))) ?_
     refine wc_cond rfl (fun h32 => ?_) (fun h32 => ?_)
     ·exact absurd h32 (by simp [hmain hq5 (.inl hq8)])
     refine wc_skip (qs_block_normal (qs_seq (wc_region (wl_move rfl rfl ?_))))
     refine wl_add rfl rfl (by omega) (by omega) rfl ?_
     refine wl_assign rfl rfl (wl_nil ?_)
     exact qs_round (L1 := [(3, _), (9, _), (10, _), (11, _), (12, _), (13, _), (17, _), (18, intV ((k + 1 : Nat) : Int))]) (.cons rfl (.cons rfl (.cons rfl (.cons rfl (.cons rfl (.cons rfl (.cons rfl (.cons rfl .nil)))))))) (k1 := L.length - (k + 1)) (by omega) ⟨k + 1, rfl, rfl, hS25.pick [0, 1, 2, 3, 4] rfl, by omega⟩
    refine wl_guard rfl rfl h31 ?_
    refine wl_move rfl rfl ?_
    refine wl_guard rfl rfl h31 ?_
    refine wl_move rfl rfl ?_
    refine wl_guard rfl rfl h31 ?_
    refine wl_move rfl rfl ?_
    refine wl_guard rfl rfl h31 ?_
    refine wl_rowIdx inC 0 k hS25 rfl rfl rfl (by first | rfl | omega) hja es_28 rfl ?_
    intro bx33 capx33 hvx33
    refine wl_guard rfl rfl h31 ?_
    refine wl_rowLoad 0 k 0 hS25 rfl hvx33 rfl rfl hja ag_3 rfl rfl ?_
    refine wl_guard rfl rfl h31 ?_
    refine wl_neq rfl rfl rfl ?_
    refine wl_guard rfl rfl (decide_eq_true h30) ?_
    refine wl_pickF rfl h31 rfl rfl ?_
    refine wl_pickT rfl (decide_eq_true h30) rfl rfl ?_
    refine wl_move rfl rfl ?_
    refine wl_splitD 127 rfl (fun h34 => ?_) (fun h34 => ?_)
    ·have hq17 := hmain hq5 (.inr (by assumption))
     refine wl_guard rfl rfl (decide_eq_true h34) ?_
     refine wl_move rfl rfl ?_
     refine wl_guard rfl rfl (decide_eq_true h34) ?_
     refine wl_not rfl rfl ?_
     refine wl_pickT rfl (decide_eq_true h34) rfl rfl ?_
     refine wl_nil (qs_seq ?_)
     refine wc_sub (L' := [(130, _), (3, _), (9, _), (10, _), (11, _), (12, _), (13, _), (17, _), (18, _)]) (.cons rfl (.cons rfl (.cons rfl (.cons rfl (.cons rfl (.cons rfl (.cons rfl (.cons rfl (.cons rfl .nil))))))))) ?_
     refine wc_cond rfl (fun h35 => ?_) (fun h35 => ?_)
     ·exact absurd h35 (by simp [hq17])
     refine wc_skip (qs_block_normal (qs_seq (wc_region (wl_move rfl rfl ?_))))
     refine wl_add rfl rfl (by omega) (by omega) rfl ?_
     refine wl_assign rfl rfl (wl_nil ?_)
     exact qs_round (L1 := [(3, _), (9, _), (10, _), (11, _), (12, _), (13, _), (17, _), (18, intV ((k + 1 : Nat) : Int))]) (.cons rfl (.cons rfl (.cons rfl (.cons rfl (.cons rfl (.cons rfl (.cons rfl (.cons rfl .nil)))))))) (k1 := L.length - (k + 1)) (by omega) ⟨k + 1, rfl, rfl, hS25.pick [0, 1, 2, 3, 4] rfl, by omega⟩
    refine wl_unwanted rfl rfl (decide_eq_false h34) rfl ?_
    refine wl_unwanted rfl rfl (decide_eq_false h34) rfl ?_
    refine wl_pickF rfl (decide_eq_false h34) rfl rfl ?_
    refine wl_nil (qs_seq ?_)
    refine wc_sub (L' := [(130, _), (3, _), (9, _), (10, _), (11, _), (12, _), (13, _), (17, _), (18, _)]) (.cons rfl (.cons rfl (.cons rfl (.cons rfl (.cons rfl (.cons rfl (.cons rfl (.cons rfl (.cons rfl .nil))))))))) ?_
    refine wc_condF rfl ?_
    refine wc_skip (qs_block_normal (qs_seq (wc_region (wl_move rfl rfl ?_))))
    refine wl_add rfl rfl (by omega) (by omega) rfl ?_
    refine wl_assign rfl rfl (wl_nil ?_)
    exact qs_round (L1 := [(3, _), (9, _), (10, _), (11, _), (12, _), (13, _), (17, _), (18, intV ((k + 1 : Nat) : Int))]) (.cons rfl (.cons rfl (.cons rfl (.cons rfl (.cons rfl (.cons rfl (.cons rfl (.cons rfl .nil)))))))) (k1 := L.length - (k + 1)) (by omega) ⟨k + 1, rfl, rfl, hS25.pick [0, 1, 2, 3, 4] rfl, by omega⟩
   refine wl_unwanted rfl rfl (decide_eq_false h30) rfl ?_
   refine wl_unwanted rfl rfl (decide_eq_false h30) rfl ?_
   refine wl_unwanted rfl rfl (decide_eq_false h30) rfl ?_
   refine wl_unguarded rfl rfl rfl ?_
   refine wl_unguarded rfl rfl rfl ?_
   refine wl_unguarded rfl rfl rfl ?_
   refine wl_unguarded rfl rfl rfl ?_
   refine wl_unguarded rfl rfl rfl ?_
   refine wl_unguarded rfl rfl rfl ?_
   refine wl_unwanted rfl rfl (decide_eq_false h30) rfl ?_
   refine wl_pickF rfl (decide_eq_false h30) rfl rfl ?_
   refine wl_move rfl rfl ?_
   refine wl_unwanted rfl rfl rfl rfl ?_
   refine wl_unwanted rfl rfl rfl rfl ?_
   refine wl_pickF rfl rfl rfl rfl ?_
   refine wl_nil (qs_seq ?_)
   refine wc_sub (L' := [(130, _), (3, _), (9, _), (10, _), (11, _), (12, _), (13, _), (17, _), (18, _)]) (.cons rfl (.cons rfl (.cons rfl (.cons rfl (.cons rfl (.cons rfl (.cons rfl (.cons rfl (.cons rfl .nil))))))))) ?_
   refine wc_condF rfl ?_
   refine wc_skip (qs_block_normal (qs_seq (wc_region (wl_move rfl rfl ?_))))
   refine wl_add rfl rfl (by omega) (by omega) rfl ?_
   refine wl_assign rfl rfl (wl_nil ?_)
   exact qs_round (L1 := [(3, _), (9, _), (10, _), (11, _), (12, _), (13, _), (17, _), (18, intV ((k + 1 : Nat) : Int))]) (.cons rfl (.cons rfl (.cons rfl (.cons rfl (.cons rfl (.cons rfl (.cons rfl (.cons rfl .nil)))))))) (k1 := L.length - (k + 1)) (by omega) ⟨k + 1, rfl, rfl, hS25.pick [0, 1, 2, 3, 4] rfl, by omega⟩
  refine wc_exit (qs_then_exit (qs_then_exit (qs_block_exit (qs_block_normal (qs_seq (wc_region (wl_move rfl rfl ?_)))))))
  refine wl_add rfl rfl (by omega) (by omega) rfl ?_
  refine wl_assign rfl rfl (wl_nil ?_)
  exact qs_round (L1 := [(3, _), (9, _), (10, _), (11, intV ((i + 1 : Nat) : Int))]) (.cons rfl (.cons rfl (.cons rfl (.cons rfl .nil)))) (k1 := l.length - (i + 1)) (by omega) ⟨i + 1, { S2 with taken := [] }, rfl, rfl, hS21.pick [3, 4] rfl, by omega, by have := hDo.inv.clean; rwa [show 301 * i + 301 = 301 * (i + 1) by omega] at this, hdm.step hDo.v, rfl⟩
 refine wc_exit (qs_then_exit (qs_then_exit (qs_block_exit (qs_seq (wc_seq (wc_region (wl_move rfl rfl (wl_move rfl rfl ?_))))))))
 refine wl_split 132 rfl (fun h36 => ?_) (fun h36 => ?_)
 ·refine wl_guard rfl rfl h36 ?_
  refine wl_move rfl rfl ?_
  refine wl_guard rfl rfl h36 ?_
  have hC37 := hS6.split [0] [true, false] rfl; dsimp only [selF, pickA, nthA, List.cons_append, List.nil_append] at hC37
  refine wl_call cal_22 rfl (shtaken_sp hC37) rfl ?_
  rintro e w37 ⟨_, rfl, hS37⟩; refine ⟨_, rfl, ?_⟩
  replace hS37 := hS37.join rfl; dsimp only [List.dropLast, List.cons_append, List.nil_append] at hS37; clear hC37
  clear hS6
  obtain ⟨ta, tc, htv, _⟩ := hS37.own_shape 0 rfl
  obtain rfl := htv
  refine wl_guard rfl rfl h36 ?_
  first | refine wl_lenL Tryz.underlying28 rfl rfl ?_ | refine wl_lenO 0 hS37 Tryz.underlying28 rfl rfl rfl ?_
  refine wl_guard rfl rfl h36 ?_
  refine wl_eql rfl rfl rfl ?_
  refine wl_pickT rfl h36 rfl rfl ?_
  refine wl_assign rfl rfl (wl_nil (qs_seq ?_))
  refine wc_sub (L' := [(8, _)]) (.cons rfl .nil) ?_
  refine wc_ret ?_
  refine fin1 (.inr rfl) rfl rfl ?_
  exact ⟨_, rfl, by first | rfl | (rw [htk]; rfl) | simp [htk], hS37.pick [2] rfl⟩
 exact absurd h36 (by simp)
end Go.Proofs.YtnicmcdeoimhlaaGreat
/- laws of sheets: SheetsBring -/
namespace Go.Proofs.YtnicmcdeoimhlaaGreat
open Go.RowKit M
set_option linter.unusedVariables false
/-- what Bring has done, whatever it was -/
structure BrU (N : Nat) (S S3 : SS) (id f e : Int) : Prop where
  inv : ShI no0 (N + 1) S3
  vw : vw S3 = vw S
  same : e ≠ 0 → S3 = S
  non : S.all id = none → e = 4 ∧ f = 0
  is : S.all id ≠ none → (e = 0 ∧ ∃ x, S3.all id = some x ∧ x.place = 1 ∧ x.at_ = f) ∨ (e = 6 ∧ f = 0 ∧ (∀ o ∈ S.fr, o ≠ none) ∧ usedN S.sl = S.sl.length ∧ ∃ x, S.all id = some x ∧ x.place = 2)
end Go.Proofs.YtnicmcdeoimhlaaGreat
/- How the arguments of a law read: a relation between cells and plain data for each type, built by shape; and the step from a law's contract to its row. -/
namespace Go.Proofs.YtnicmcdeoimhlaaGreat.M
open Go.ChangeShapes Go.WideShapes Go.ChangeAt Go.RowKit Go.Deep
/-- the cells cs lie at ⟨b, off⟩ -/
def At (w : World) (b off : Nat) (cs : List Value) : Prop := ∀ j v, cs[j]? = some v → w.cell? ⟨b, off + j, none⟩ = some v
theorem At.cell {w : World} {b off : Nat} {cs : List Value} (h : At w b off cs) (j : Nat) {v : Value} (hv : cs[j]? = some v) : w.cell? ⟨b, off + j, none⟩ = some v := h j v hv
theorem At.below {B : Nat} {w w' : World} {b off : Nat} {cs : List Value} (h : At w b off cs) (hb : Below B w w') (hB : b < B) : At w' b off cs :=
  fun j v hv => (hb.cell (p := ⟨b, off + j, none⟩) hB).trans (h j v hv)
/-- a type, read as α -/
structure Cod (P : Program) (t : TypeId) (α : Type) where
  rd : World → List Value → α → Prop
  size : Nat
  cells : P.cellsOf t = size
  down : ∀ {H : Type} {enc : TypeId × Value → H} {w : World} {base : Nat} {spare : Nat → Bool} {held : Bool} {fuel : Nat} {cs : List Value} {x : DataW H × List MemPlace},
    DataW.trod enc P w base spare held fuel t cs = some x → ∃ a, rd w cs a
  len : ∀ {w cs a}, rd w cs a → cs.length = size
  keep : ∀ {w w' cs a}, Below w.heap.size w w' → rd w cs a → rd w' cs a
section
variable {P : Program}
def Cod.int {t : TypeId} (k : IntKind) (ht : P.underlying t = some (.int k)) (hc : P.cellsOf t = 1) : Cod P t Int where
  rd := fun _ cs n => cs = [.int k n] ∧ (Lit.int k n).wf = true
  size := 1
  cells := hc
  down := fun h => by
    obtain ⟨n, h1, _, h2⟩ := DataW.trod_int ht h
    exact ⟨n, h1, h2⟩
  len := fun h => by rw [h.1]; rfl
  keep := fun _ h => h
def Cod.byte {t : TypeId} (ht : P.underlying t = some (.int .u8)) (hc : P.cellsOf t = 1) : Cod P t UInt8 where
  rd := fun _ cs n => cs = [.int .u8 (n.toNat : Int)]
  size := 1
  cells := hc
  down := fun h => by
    obtain ⟨n, h1, _, h2⟩ := DataW.trod_int ht h
    have hb := bounds_u8 h2
    refine ⟨UInt8.ofNat n.toNat, ?_⟩
    have e : ((UInt8.ofNat n.toNat).toNat : Int) = n := by simp; omega
    rw [e]; exact h1
  len := fun h => by rw [h]; rfl
  keep := fun _ h => h
def Cod.bool {t : TypeId} (ht : P.underlying t = some .bool) (hc : P.cellsOf t = 1) : Cod P t Bool where
  rd := fun _ cs n => cs = [.bool n]
  size := 1
  cells := hc
  down := fun h => by
    obtain ⟨n, h1, _⟩ := DataW.trod_bool ht h
    exact ⟨n, h1⟩
  len := fun h => by rw [h]; rfl
  keep := fun _ h => h
def Cod.string {t : TypeId} (ht : P.underlying t = some .string) (hc : P.cellsOf t = 1) : Cod P t ByteArray where
  rd := fun _ cs s => cs = [.string s] ∧ s.size ≤ 9223372036854775807
  size := 1
  cells := hc
  down := fun h => by
    obtain ⟨n, h1, _, h2⟩ := DataW.trod_string ht h
    exact ⟨n, h1, h2⟩
  len := fun h => by rw [h.1]; rfl
  keep := fun _ h => h
/-- a slice's value v reads as l: each element's cells lie in its place -/
def SliceRd {α : Type} (rd : World → List Value → α → Prop) (size : Nat) (w : World) (v : Value) (l : List α) : Prop :=
  ∃ ao cap, v = .slice ao l.length cap ∧ l.length ≤ cap ∧ cap ≤ 9223372036854775807 ∧ ∀ (i : Nat) (a : α), l[i]? = some a → ∃ b off cs, ao = some ⟨b, off, none⟩ ∧ b < w.heap.size ∧ At w b (off + i * size) cs ∧ rd w cs a
def Cod.slice {t e : TypeId} {α : Type} [Inhabited α] (ht : P.underlying t = some (.slice e)) (hc : P.cellsOf t = 1) (c : Cod P e α) (hpos : 0 < c.size) : Cod P t (List α) where
  rd := fun w cs l => ∃ v, cs = [v] ∧ SliceRd c.rd c.size w v l
  size := 1
  cells := hc
  down := fun {H enc w base spare held fuel cs x} h => by
    rcases open_slice ht h with ⟨rfl, _⟩ | ⟨a, len, cap, m, n, D, Pl, rfl, hb, hl, hm, hmm, _, hx⟩
    · exact ⟨[], _, rfl, none, 0, rfl, Nat.le_refl _, by omega, fun i a hi => by simp at hi⟩
    · have hlm : len ≤ m := by rw [hmm]; split <;> omega
      have hex : ∀ i, i < len → ∃ y : α, ∃ cs', c.rd w cs' y ∧ (∀ j v, cs'[j]? = some v → w.cell? (a.add (i * c.size + j)) = some v) := by
        intro i hi
        obtain ⟨cs', h1, h2⟩ := hx i (by omega)
        obtain ⟨y, hy⟩ := c.down h2
        obtain ⟨_, hlen, hat⟩ := World.cells?_some h1
        refine ⟨y, cs', hy, fun j v hv => ?_⟩
        have hj : j < cs'.length := (List.getElem?_eq_some_iff.1 hv).1
        rw [c.cells] at hlen hat
        rw [← Go.Deep.add_add, hat j (by omega), hv]
      obtain ⟨f, hf⟩ := choose_lt hex
      refine ⟨(List.range len).map f, _, rfl, some a, cap, by simp, by simpa using hl, hm, fun i y hi => ?_⟩
      have hil : i < len := by have := (List.getElem?_eq_some_iff.1 hi).1; simpa using this
      simp [hil] at hi
      subst hi
      obtain ⟨cs', hrd, hat⟩ := hf i hil
      have hcl := c.len hrd
      obtain ⟨b, off, spot⟩ := a
      have h0 := hat 0 cs'[0] (List.getElem?_eq_getElem (by omega))
      have hspot : spot = none := by
        have := World.cell?_spot h0
        unfold Addr.add at this
        split at this
        · exact this
        · obtain ⟨i0, hi0⟩ : ∃ i0, i0 < len ∧ i0 = 0 := ⟨0, by omega, rfl⟩
          obtain ⟨hi1, rfl⟩ := hi0
          obtain ⟨cs0, hrd0, hat0⟩ := hf 0 hi1
          have hcl0 := c.len hrd0
          have h00 := hat0 0 cs0[0] (List.getElem?_eq_getElem (by omega))
          have := World.cell?_spot h00
          simpa [Addr.add] using this
      subst hspot
      refine ⟨b, off, cs', rfl, ?_, fun j v hv => ?_, hrd⟩
      · have := block_lt_of_cell h0
        rw [addr_add] at this
        exact this
      · have := hat j v hv
        rw [addr_add] at this
        rw [Nat.add_assoc]; exact this
  len := fun ⟨v, h, _⟩ => by rw [h]; rfl
  keep := fun {w w' cs l} hb ⟨v, h1, ao, cap, h2, h3, h4, h5⟩ => ⟨v, h1, ao, cap, h2, h3, h4, fun i a hi => by
    obtain ⟨b, off, cs', e1, e2, e3, e4⟩ := h5 i a hi
    exact ⟨b, off, cs', e1, Nat.lt_of_lt_of_le e2 hb.size, e3.below hb e2, c.keep hb e4⟩⟩
/-- fields one behind the other -/
structure Flds (P : Program) (fs : List Field) (off : Nat) (α : Type) where
  rd : World → List Value → α → Prop
  size : Nat
  down : ∀ {H : Type} {enc : TypeId × Value → H} {w : World} {base : Nat} {spare : Nat → Bool} {held : Bool} {n : Nat} {cs : List Value} {xs : List (DataW H × List MemPlace)},
    (∀ (i : Nat) (f : Field), fs[i]? = some f → ∃ x, DataW.trod enc P w base spare held n f.type ((cs.drop f.offset).take (P.cellsOf f.type)) = some x) → ∃ a, rd w ((cs.drop off).take size) a
  len : ∀ {w cs a}, rd w cs a → cs.length = size
  keep : ∀ {w w' cs a}, Below w.heap.size w w' → rd w cs a → rd w' cs a
def Flds.nil (off : Nat) : Flds P [] off Unit where
  rd := fun _ cs _ => cs = []
  size := 0
  down := fun _ => ⟨(), by simp⟩
  len := fun h => by rw [h]; rfl
  keep := fun _ h => h
def Flds.cons {f : Field} {fs : List Field} {off : Nat} {α β : Type} (c : Cod P f.type α) (ho : f.offset = off) (r : Flds P fs (off + c.size) β) : Flds P (f :: fs) off (α × β) where
  rd := fun w cs a => ∃ cs1 cs2, cs = cs1 ++ cs2 ∧ c.rd w cs1 a.1 ∧ r.rd w cs2 a.2
  size := c.size + r.size
  down := fun {H enc w base spare held n cs xs} h => by
    obtain ⟨x, hx⟩ := h 0 f rfl
    rw [ho, c.cells] at hx
    obtain ⟨a, ha⟩ := c.down hx
    obtain ⟨b, hb⟩ := r.down (xs := xs) (fun i g hg => h (i + 1) g (by simpa using hg))
    refine ⟨(a, b), _, _, ?_, ha, hb⟩
    rw [← List.drop_drop]
    exact List.take_add ..
  len := fun ⟨cs1, cs2, h, h1, h2⟩ => by rw [h, List.length_append, c.len h1, r.len h2]
  keep := fun hb ⟨cs1, cs2, h, h1, h2⟩ => ⟨cs1, cs2, h, c.keep hb h1, r.keep hb h2⟩
def Cod.struct {t : TypeId} {fs : List Field} {α : Type} (ht : P.underlying t = some (.struct fs.toArray)) (r : Flds P fs 0 α) (hc : P.cellsOf t = r.size) : Cod P t α where
  rd := r.rd
  size := r.size
  cells := hc
  down := fun {H enc w base spare held fuel cs x} h => by
    obtain ⟨xs, n, _, _, hl, hxl, hf⟩ := DataW.trod_struct ht h
    obtain ⟨a, ha⟩ := r.down (xs := xs) (n := n) (enc := enc) (w := w) (base := base) (spare := spare) (held := held) (cs := cs) (fun i f hi => by
      have h1 := hf i f (by simpa using hi)
      have hil := (List.getElem?_eq_some_iff.1 hi).1
      rw [h1, List.getElem?_eq_getElem (by rw [hxl]; simpa using hil)]
      exact ⟨_, rfl⟩)
    refine ⟨a, ?_⟩
    rw [List.drop_zero, List.take_of_length_le (by omega)] at ha
    exact ha
  len := r.len
  keep := r.keep
/-- as another type -/
def Cod.map {t : TypeId} {α β : Type} (c : Cod P t α) (f : α → β) : Cod P t β where
  rd := fun w cs b => ∃ a, b = f a ∧ c.rd w cs a
  size := c.size
  cells := c.cells
  down := fun h => by obtain ⟨a, ha⟩ := c.down h; exact ⟨f a, a, rfl, ha⟩
  len := fun ⟨a, _, h⟩ => c.len h
  keep := fun hb ⟨a, e, h⟩ => ⟨a, e, c.keep hb h⟩
/-- the arguments are all read again behind a call that has changed nothing that was there -/
theorem trodAll_stays {H : Type} {enc : TypeId × Value → H} (hl : laidOutB P = true) {W W' : World} (hb : Below W.heap.size W W') :
    ∀ (ts : List TypeId) (vs : List Value) (ds : List (DataW H)) (ps : List MemPlace), (∀ t ∈ ts, P.readableRec t = true ∧ t < P.types.size) →
      DataW.TrodAll enc P W 0 (fun _ => true) true ts vs ds ps → DataW.TrodAll enc P W' 0 (fun b => decide (b < W.heap.size)) true ts vs ds ps
  | [], vs, ds, ps, _, h => by
    obtain ⟨rfl, rfl, rfl⟩ := trodAll_nil h
    exact rfl
  | t :: ts, vs, ds, ps, hr, h => by
    obtain ⟨v, vs', d, ds', p, q, rfl, rfl, rfl, h0, h1⟩ := trodAll_cons h
    have lt0 : ∀ x ∈ p, x.block < W.heap.size := by obtain ⟨m, hm⟩ := h0; exact DataW.trod_lt m _ _ _ hm
    obtain ⟨r1, r2⟩ := hr t (by simp)
    exact trodAll_cons_mk (Below.trod hl r1 r2 h0 hb lt0) (trodAll_stays hl hb ts vs' ds' q (fun t ht => hr t (by simp [ht])) h1)
end
end Go.Proofs.YtnicmcdeoimhlaaGreat.M
/- laws of sheets: how the arguments read -/
namespace Go.Proofs.YtnicmcdeoimhlaaGreat
open Go.RowKit M
set_option linter.unusedVariables false
instance : Inhabited OpD := ⟨⟨0, 0, 0, 0, []⟩⟩
def intC : Cod Tryz.prog 3 Int := Cod.int .i64 Tryz.underlying3 (by kernel_rfl)
def strCd : Cod Tryz.prog 9 ByteArray := Cod.string Tryz.underlying9 (by kernel_rfl)
def opCod : Cod Tryz.prog 33 (Int × Int × Int × Int × ByteArray × Unit) :=
  Cod.struct (P := Tryz.prog) Tryz.underlying33
    (Flds.cons intC rfl (Flds.cons intC rfl (Flds.cons intC rfl (Flds.cons intC rfl (Flds.cons strCd rfl (Flds.nil _)))))) (by kernel_rfl)
theorem ops_of {W : World} {v : Value} {l : List (Int × Int × Int × Int × ByteArray × Unit)} (h : SliceRd opCod.rd opCod.size W v l) : ∃ l' : List OpD, ∀ w, Below W.heap.size W w → RdL opC v l' w := by
  obtain ⟨ao, cap, h1, h2, h3, h4⟩ := h
  have hex : ∀ i, i < l.length → ∃ a : OpD, ∀ w, Below W.heap.size W w → ∃ b off, ao = some ⟨b, off, none⟩ ∧ ∀ (j : Nat) (u : Value), (opV a)[j]? = some u → w.cell? ⟨b, off + i * 5 + j, none⟩ = some u := by
    intro i hi
    obtain ⟨b, off, cs, e1, e2, e3, e4⟩ := h4 i l[i] (List.getElem?_eq_getElem hi)
    obtain ⟨c1, cs1, rfl, ⟨rfl, _⟩, c2, cs2, rfl, ⟨rfl, _⟩, c3, cs3, rfl, ⟨rfl, _⟩, c4, cs4, rfl, ⟨rfl, _⟩, c5, cs5, rfl, ⟨rfl, _⟩, rfl⟩ := e4
    refine ⟨⟨l[i].1, l[i].2.1, l[i].2.2.1, l[i].2.2.2.1, l[i].2.2.2.2.1.data.toList⟩, fun w hb => ⟨b, off, e1, fun j u hu => ?_⟩⟩
    refine (hb.cell (p := ⟨b, off + i * 5 + j, none⟩) e2).trans (e3 j u ?_)
    simpa [opV] using hu
  obtain ⟨f, hf⟩ := Go.Deep.choose_lt (n := l.length) hex
  refine ⟨(List.range l.length).map f, fun w hb => ⟨ao, cap, by simpa using h1, by simp; omega, fun i a hi => ?_⟩⟩
  have hil : i < l.length := by have := (List.getElem?_eq_some_iff.1 hi).1; simpa using this
  simp [hil] at hi
  subst hi
  exact hf i hil w hb
theorem below_of {W w : World} (h : Sat w [frameT W]) : Below W.heap.size W w := h.below 0 rfl
theorem taken_row {W : World} {v0 : Value} {l0 : List (Int × Int × Int × Int × ByteArray × Unit)} {a b c : Int} (h0 : SliceRd opCod.rd opCod.size W v0 l0) :
    Calls Tryz.prog 5 #[.int .i64 a, .int .i64 b, .int .i64 c, v0] W fun e W' => e = .returned (.bool true) ∧ Below W.heap.size W W' := by
  obtain ⟨a0, h0⟩ := ops_of h0
  exact (taken_law (Sat.start W) a b c (Ent.frame h0)).mono fun e W' ⟨v, h4, h5, h6⟩ => ⟨by rw [h4, h5], below_of h6⟩
end Go.Proofs.YtnicmcdeoimhlaaGreat
