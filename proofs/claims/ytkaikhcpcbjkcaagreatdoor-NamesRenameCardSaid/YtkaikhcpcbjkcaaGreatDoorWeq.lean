/- world: maps.Equal -/
import Derived.Test.YtkaikhcpcbjkcaaGreatDoorWcl
namespace Go.Proofs.YtkaikhcpcbjkcaaGreatDoor
open Go.RowKit M
set_option linter.unusedVariables false
theorem ev_neqArr {P : Program} {L : Env} {w : World} {d : Nat} {ty : TypeId} {pos : String} {aft : Array Edge} {t t2 e len : Nat} {x y : Operand} (xs ys : List UInt8) (hu : P.underlying t = some (.array len e)) (he : P.underlying e = some (.int .u8)) (h1 : szOf P e = some 1) (ha : aggB P e = some false) (hg : P.eqGuardType P.depth t = false) (hlx : xs.length = len) (hly : ys.length = len) (hx : M.look L x = some (.agg (xs.map byteV).toArray)) (hy : M.look L y = some (.agg (ys.map byteV).toArray)) : Ev P L w ⟨some d, .binOp .neq t x y t2, ty, pos, aft, none⟩ (.bool (decide (xs ≠ ys))) := fun ρ hρ => by
  have h := run_eqArr hu he h1 ha xs ys hlx hly w
  simp [execOp, hρ _ _ hx, hρ _ _ hy, eqGuard, binOp, program, Sem.run, hg] at h ⊢
  rw [h]
  simp
theorem wl_neqArr {P : Program} {n : Nat} {ops : Array Oper} {Q : Exit → Act → World → Prop} {rest : List Oper} {L : Env} {w : World} {d : Nat} {ty : TypeId} {pos : String} {aft : Array Edge} {t t2 e len : Nat} {x y : Operand} (xs ys : List UInt8) (hu : P.underlying t = some (.array len e)) (he : P.underlying e = some (.int .u8)) (h1 : szOf P e = some 1) (ha : aggB P e = some false) (hg : P.eqGuardType P.depth t = false) (hlx : xs.length = len) (hly : ys.length = len) (hx : M.look L x = some (.agg (xs.map byteV).toArray)) (hy : M.look L y = some (.agg (ys.map byteV).toArray)) (hd : Nat.blt d n = true)
    (hk : wl P n ops Q rest ((d, .bool (decide (xs ≠ ys))) :: L) w) : wl P n ops Q (⟨some d, .binOp .neq t x y t2, ty, pos, aft, none⟩ :: rest) L w := wl_val hd (ev_neqArr xs ys hu he h1 ha hg hlx hly hx hy) hk
theorem cellsG_eq {c1 c2 : Bs → Bs} (h : cellsG c1 = cellsG c2) : c1 = c2 := by
  funext k
  have := congrFun h k
  unfold cellsG at this
  split at this <;> split at this
  · simp_all
  · cases this
  · cases this
  · injection this with this; exact strV_inj this
theorem cellsG_val {c : Bs → Bs} {k : Bs} {v : Value} (h : cellsG c k = some v) : c k ≠ [] ∧ v = strV (c k) := by
  unfold cellsG at h; split at h
  · cases h
  · injection h with h; exact ⟨by assumption, h.symm⟩
theorem cellsG_isSome (c : Bs → Bs) (k : Bs) : (cellsG c k).isSome = decide (c k ≠ []) := by
  unfold cellsG; split <;> simp_all
theorem pagesG_val {o : Int → Option Bs} {k : Int} {v : Value} (h : pagesG o k = some v) : ∃ s, o k = some s ∧ v = pageV s := by
  unfold pagesG at h
  obtain ⟨s, h1, h2⟩ := Option.map_eq_some_iff.1 h
  exact ⟨s, h1, h2.symm⟩
theorem pageV_inj {s t : Bs} (h : pageV s = pageV t) : s = t := by
  unfold pageV at h
  injection h with h
  have h2 := congrArg Array.toList h
  simp only at h2
  refine (List.map_inj_right (fun a b hab => ?_)).1 h2
  injection hab with _ hab
  exact UInt8.toNat_inj.1 (by omega)
theorem pagesG_eq {o1 o2 : Int → Option Bs} (h : pagesG o1 = pagesG o2) : o1 = o2 := by
  funext k
  have := congrFun h k
  unfold pagesG at this
  cases h1 : o1 k <;> cases h2 : o2 k <;> simp [h1, h2] at this ⊢
  exact pageV_inj this
theorem eqS_end {c1 c2 : Bs → Bs} {n : Nat} {dn : Bs → Prop} (h1 : Card (cellsG c1) n) (h2 : Card (cellsG c2) n) (heq : ∀ k, dn k → c1 k = c2 k) (hd : ∀ k v, cellsG c1 k = some v → dn k) : c1 = c2 := by
  refine cellsG_eq (h1.sub h2 fun k v hv => ?_)
  have hk := heq k (hd k v hv)
  obtain ⟨hc, rfl⟩ := cellsG_val hv
  unfold cellsG; rw [if_neg (by rw [← hk]; exact hc), hk]
theorem eqP_end {o1 o2 : Int → Option Bs} {n : Nat} {dn : Int → Prop} (h1 : Card (pagesG o1) n) (h2 : Card (pagesG o2) n) (heq : ∀ k, dn k → o1 k = o2 k) (hd : ∀ k v, pagesG o1 k = some v → dn k) : o1 = o2 := by
  refine pagesG_eq (h1.sub h2 fun k v hv => ?_)
  rw [← hv]; unfold pagesG; rw [heq k (hd k v hv)]
theorem card_cast {κ : Type} {f : κ → Option Value} {n m : Nat} (h : Card f n) (e : n = m) : Card f m := e ▸ h
theorem eqg_sh : Tryz.prog.eqGuardType Tryz.prog.depth 97 = false := by kernel_rfl
set_option maxRecDepth 100000 in
theorem eqS_sp {w : World} {F : Th} {b1 b2 : Nat} {c1 c2 : Bs → Bs} (hS : Sat w [mapT strK b1 (cellsG c1), mapT strK b2 (cellsG c2), F]) :
    Calls Tryz.prog 85 #[.map (some b1), .map (some b2)] w (Ret fun v w' => ∃ g : Bool, v = .bool g ∧ (g = true ↔ c1 = c2) ∧ Sat w' [mapT strK b1 (cellsG c1), mapT strK b2 (cellsG c2), F]) := by
 refine calls_enter Tryz.func85 rfl Tryz.ntmps85 rfl ?_
 refine wc_seq (wc_region (wl_assign rfl rfl (wl_nil (qs_seq (wc_seq (wc_seq (wc_region (wl_move rfl rfl ?_))))))))
 refine wl_lenM 0 hS Tryz.underlying89 keysStr.inj rfl rfl rfl ?_
 intro cn1 hcn1
 refine wl_move rfl rfl ?_
 refine wl_lenM 1 hS Tryz.underlying89 keysStr.inj rfl rfl rfl ?_
 intro cn2 hcn2
 refine wl_neq rfl rfl rfl ?_
 refine wl_nil (qs_seq ?_)
 refine wc_condD rfl (fun h1 => ?_) (fun h1 => ?_)
 ·refine wc_seq (wc_region (wl_assign rfl rfl (wl_nil (qs_seq (wc_ret (qs_then_ret ?_))))))
  refine fin1 (.inr rfl) rfl rfl ?_
  exact ⟨_, rfl, false, rfl, ⟨(fun q => by cases q), fun e => absurd (by subst e; exact (congrArg (fun (z : Nat) => (z : Int)) (hcn1.uniq hcn2))) (by assumption)⟩, hS.pick [0, 1, 2] rfl⟩
 refine wc_skip (qs_seq (wc_seq (wc_seq (wc_region (wl_move rfl rfl ?_)))))
 refine wl_range 0 hS Tryz.underlying89 rfl rfl rfl ?_
 intro RR left0 wR hSR; dsimp only [List.set] at hSR
 refine wl_nil (qs_seq (wc_block ?_))
 refine wc_loop (fun K0 E0 W0 => ∃ (dn : Bs → Prop) (cur : Option Bs) (left : Nat), K0 = 1 * left ∧ E0 = [(1, .map (some b2)), (15, ptrV RR 0)] ∧ Sat W0 [rangeT strK b1 RR (cellsG c1) dn cur left, mapT strK b2 (cellsG c2), F] ∧ (∀ k, dn k → c1 k = c2 k)) (L0 := [(1, _), (15, _)]) (1 * left0) (.cons rfl (.cons rfl .nil)) ⟨_, _, _, rfl, rfl, hSR, fun _ h => h.elim⟩ ?_
 rintro _ _ w2 ⟨dn, cur, left, rfl, rfl, hS2, heq⟩
 refine wc_seq (wc_region ?_)
 refine wl_next 0 hS2 keysStr.inj rfl rfl rfl (fun hdone => ?_) (fun k v left2 w2 hleft hgk hnd hS2 => ?_)
 ·refine wl_extract rfl rfl rfl (wl_nil (qs_seq (wc_seq ?_)))
  refine wc_condF rfl ?_
  refine wc_exit (qs_then_exit (qs_then_exit (qs_block_exit (qs_seq (wc_seq (wc_region (wl_assign rfl rfl (wl_nil (qs_seq (wc_ret ?_))))))))))
  refine fin1 (.inr rfl) rfl rfl ?_
  exact ⟨_, rfl, true, rfl, ⟨fun _ => eqS_end hcn1 (card_cast hcn2 (by omega)) heq hdone, fun _ => rfl⟩, Sat.reorder (range_map (hS2.pick [0, 1, 2] rfl)) [0, 1, 2] rfl⟩
 dsimp only [List.set] at hS2
 obtain ⟨hck, rfl⟩ := cellsG_val hgk
 refine wl_extract rfl rfl rfl (wl_nil (qs_seq (wc_seq ?_)))
 refine wc_condT rfl ?_
 refine wc_skip (qs_seq (wc_block (wc_seq (wc_region ?_))))
 refine wl_entry 0 hS2 rfl hgk rfl rfl ?_
 refine wl_extract rfl rfl rfl (wl_extract rfl rfl rfl (wl_assign rfl rfl (wl_assign rfl rfl (wl_nil (qs_seq (wc_seq (wc_region (wl_move rfl rfl (wl_move rfl rfl ?_)))))))))
 refine wl_lookupOk (k := k) 1 hS2 keysStr Tryz.underlying89 rfl rfl rfl zr_9 (u := strV (c2 k)) (g := decide (c2 k ≠ [])) (cellsG_get _ _) (cellsG_isSome _ _) rfl ?_
 refine wl_move rfl rfl (wl_extract rfl rfl rfl (wl_extract rfl rfl rfl (wl_assign rfl rfl (wl_assign rfl rfl (wl_nil (qs_seq ?_))))))
 refine wc_sub (L' := [(8, _), (7, _), (6, _), (1, _), (15, _)]) (.cons rfl (.cons rfl (.cons rfl (.cons rfl (.cons rfl .nil))))) ?_
 refine wc_seq (wc_region (wl_move rfl rfl ?_))
 refine wl_not rfl rfl ?_
 refine wl_move rfl rfl ?_
 refine wl_split 29 rfl (fun h3 => ?_) (fun h3 => ?_)
 ·refine wl_unwanted rfl rfl h3 rfl ?_
  refine wl_unwanted rfl rfl h3 rfl ?_
  refine wl_unwanted rfl rfl h3 rfl ?_
  refine wl_pickT rfl h3 rfl rfl ?_
  refine wl_nil (qs_seq ?_)
  refine wc_sub (L' := [(33, _), (1, _), (15, _)]) (.cons rfl (.cons rfl (.cons rfl .nil))) ?_
  refine wc_condT rfl ?_
  refine wc_seq (wc_region (wl_assign rfl rfl (wl_nil (qs_seq (wc_ret (qs_block_ret (qs_then_ret (qs_block_ret (qs_then_ret ?_)))))))))
  refine fin1 (.inr rfl) rfl rfl ?_
  exact ⟨_, rfl, false, rfl, ⟨(fun q => by cases q), fun e => by subst e; simp_all⟩, Sat.reorder (range_map (hS2.pick [0, 1, 2] rfl)) [0, 1, 2] rfl⟩
 refine wl_guard rfl rfl h3 ?_
 refine wl_move rfl rfl ?_
 refine wl_guard rfl rfl h3 ?_
 refine wl_move rfl rfl ?_
 refine wl_guard rfl rfl h3 ?_
 refine wl_neqS rfl rfl rfl ?_
 refine wl_pickF rfl h3 rfl rfl ?_
 refine wl_nil (qs_seq ?_)
 refine wc_sub (L' := [(33, _), (1, _), (15, _)]) (.cons rfl (.cons rfl (.cons rfl .nil))) ?_
 refine wc_condD rfl (fun h4 => ?_) (fun h4 => ?_)
 ·refine wc_seq (wc_region (wl_assign rfl rfl (wl_nil (qs_seq (wc_ret (qs_block_ret (qs_then_ret (qs_block_ret (qs_then_ret ?_)))))))))
  refine fin1 (.inr rfl) rfl rfl ?_
  exact ⟨_, rfl, false, rfl, ⟨(fun q => by cases q), fun e => by subst e; simp_all⟩, Sat.reorder (range_map (hS2.pick [0, 1, 2] rfl)) [0, 1, 2] rfl⟩
 have hkk : c1 k = c2 k := Decidable.not_not.1 h4
 refine wc_skip (qs_block_normal ?_)
 exact qs_round (L1 := [(1, _), (15, _)]) (.cons rfl (.cons rfl .nil)) (k1 := 1 * left2) (by omega) ⟨_, _, _, rfl, rfl, hS2.pick [0, 1, 2] rfl, fun j hj => by rcases hj with hj | rfl; exact heq j hj; exact hkk⟩
set_option maxRecDepth 100000 in
theorem eqP_sp {w : World} {F : Th} {b1 b2 : Nat} {o1 o2 : Int → Option Bs} (hS : Sat w [mapT intK b1 (pagesG o1), mapT intK b2 (pagesG o2), F]) (H1 : ∀ q s, o1 q = some s → s.length = 64) (H2 : ∀ q, (pageOf (o2 q)).length = 64) :
    Calls Tryz.prog 84 #[.map (some b1), .map (some b2)] w (Ret fun v w' => ∃ g : Bool, v = .bool g ∧ (g = true ↔ o1 = o2) ∧ Sat w' [mapT intK b1 (pagesG o1), mapT intK b2 (pagesG o2), F]) := by
 refine calls_enter Tryz.func84 rfl Tryz.ntmps84 rfl ?_
 refine wc_seq (wc_region (wl_assign rfl rfl (wl_nil (qs_seq (wc_seq (wc_seq (wc_region (wl_move rfl rfl ?_))))))))
 refine wl_lenM 0 hS Tryz.underlying94 keysInt.inj rfl rfl rfl ?_
 intro cn1 hcn1
 refine wl_move rfl rfl ?_
 refine wl_lenM 1 hS Tryz.underlying94 keysInt.inj rfl rfl rfl ?_
 intro cn2 hcn2
 refine wl_neq rfl rfl rfl ?_
 refine wl_nil (qs_seq ?_)
 refine wc_condD rfl (fun h1 => ?_) (fun h1 => ?_)
 ·refine wc_seq (wc_region (wl_assign rfl rfl (wl_nil (qs_seq (wc_ret (qs_then_ret ?_))))))
  refine fin1 (.inr rfl) rfl rfl ?_
  exact ⟨_, rfl, false, rfl, ⟨(fun q => by cases q), fun e => absurd (by subst e; exact (congrArg (fun (z : Nat) => (z : Int)) (hcn1.uniq hcn2))) (by assumption)⟩, hS.pick [0, 1, 2] rfl⟩
 refine wc_skip (qs_seq (wc_seq (wc_seq (wc_region (wl_move rfl rfl ?_)))))
 refine wl_range 0 hS Tryz.underlying94 rfl rfl rfl ?_
 intro RR left0 wR hSR; dsimp only [List.set] at hSR
 refine wl_nil (qs_seq (wc_block ?_))
 refine wc_loop (fun K0 E0 W0 => ∃ (dn : Int → Prop) (cur : Option Int) (left : Nat), K0 = 1 * left ∧ E0 = [(1, .map (some b2)), (15, ptrV RR 0)] ∧ Sat W0 [rangeT intK b1 RR (pagesG o1) dn cur left, mapT intK b2 (pagesG o2), F] ∧ (∀ k, dn k → o1 k = o2 k)) (L0 := [(1, _), (15, _)]) (1 * left0) (.cons rfl (.cons rfl .nil)) ⟨_, _, _, rfl, rfl, hSR, fun _ h => h.elim⟩ ?_
 rintro _ _ w2 ⟨dn, cur, left, rfl, rfl, hS2, heq⟩
 refine wc_seq (wc_region ?_)
 refine wl_next 0 hS2 keysInt.inj rfl rfl rfl (fun hdone => ?_) (fun k v left2 w2 hleft hgk hnd hS2 => ?_)
 ·refine wl_extract rfl rfl rfl (wl_nil (qs_seq (wc_seq ?_)))
  refine wc_condF rfl ?_
  refine wc_exit (qs_then_exit (qs_then_exit (qs_block_exit (qs_seq (wc_seq (wc_region (wl_assign rfl rfl (wl_nil (qs_seq (wc_ret ?_))))))))))
  refine fin1 (.inr rfl) rfl rfl ?_
  exact ⟨_, rfl, true, rfl, ⟨fun _ => eqP_end hcn1 (card_cast hcn2 (by omega)) heq hdone, fun _ => rfl⟩, Sat.reorder (range_map (hS2.pick [0, 1, 2] rfl)) [0, 1, 2] rfl⟩
 dsimp only [List.set] at hS2
 obtain ⟨s, hs1, rfl⟩ := pagesG_val hgk
 refine wl_extract rfl rfl rfl (wl_nil (qs_seq (wc_seq ?_)))
 refine wc_condT rfl ?_
 refine wc_skip (qs_seq (wc_block (wc_seq (wc_region ?_))))
 refine wl_entry 0 hS2 rfl hgk rfl rfl ?_
 refine wl_extract rfl rfl rfl (wl_extract rfl rfl rfl ?_)
 refine wl_alloc hS2 zr_sheet (cs := bytesPg zero64) rfl rfl ?_
 intro ba wba hSba
 clear hS2
 refine wl_assign rfl rfl ?_
 refine wl_storeA (vs := (bytesPg s).toArray) hSba rfl rfl sz_97 (by simp [bytesPg]; exact (H1 k s hs1)) (bytesPg_one _) (i := 0) rfl (by decide) ?_
 intro w3 hS3; dsimp only [List.set] at hS3
 rw [show splice (bytesPg zero64) 0 (bytesPg s).toArray.toList = bytesPg s from bytesPg_splice ((H1 k s hs1)).symm] at hS3
 clear hSba
 refine wl_nil (qs_seq (wc_seq (wc_region (wl_move rfl rfl (wl_move rfl rfl ?_)))))
 refine wl_lookupOk (k := k) 2 hS3 keysInt Tryz.underlying94 rfl rfl rfl zr_sheet (u := pageV (pageOf (o2 k))) (g := (o2 k).isSome) (pagesG_get _ _) (by simp [pagesG]) rfl ?_
 refine wl_move rfl rfl (wl_extract rfl rfl rfl (wl_extract rfl rfl rfl ?_))
 refine wl_alloc hS3 zr_sheet (cs := bytesPg zero64) rfl rfl ?_
 intro bb wbb hSbb
 clear hS3
 refine wl_storeA (vs := (bytesPg (pageOf (o2 k))).toArray) hSbb rfl rfl sz_97 (by simp [bytesPg]; exact (H2 k)) (bytesPg_one _) (i := 0) rfl (by decide) ?_
 intro w4 hS4; dsimp only [List.set] at hS4
 rw [show splice (bytesPg zero64) 0 (bytesPg (pageOf (o2 k))).toArray.toList = bytesPg (pageOf (o2 k)) from bytesPg_splice ((H2 k)).symm] at hS4
 clear hSbb
 refine wl_assign rfl rfl (wl_nil (qs_seq ?_))
 refine wc_sub (L' := [(8, _), (7, _), (6, _), (1, _), (15, _)]) (.cons rfl (.cons rfl (.cons rfl (.cons rfl (.cons rfl .nil))))) ?_
 refine wc_seq (wc_region (wl_move rfl rfl ?_))
 refine wl_not rfl rfl ?_
 refine wl_move rfl rfl ?_
 refine wl_split 29 rfl (fun h5 => ?_) (fun h5 => ?_)
 ·refine wl_unwanted rfl rfl h5 rfl ?_
  refine wl_unwanted rfl rfl h5 rfl ?_
  refine wl_unwanted rfl rfl h5 rfl ?_
  refine wl_pickT rfl h5 rfl rfl ?_
  refine wl_nil (qs_seq ?_)
  refine wc_sub (L' := [(33, _), (1, _), (15, _)]) (.cons rfl (.cons rfl (.cons rfl .nil))) ?_
  refine wc_condT rfl ?_
  refine wc_seq (wc_region (wl_assign rfl rfl (wl_nil (qs_seq (wc_ret (qs_block_ret (qs_then_ret (qs_block_ret (qs_then_ret ?_)))))))))
  refine fin1 (.inr rfl) rfl rfl ?_
  exact ⟨_, rfl, false, rfl, ⟨(fun q => by cases q), fun e => by subst e; simp_all [pageOf]⟩, Sat.reorder (range_map (hS4.pick [2, 3, 4] rfl)) [0, 1, 2] rfl⟩
 refine wl_guard rfl rfl h5 ?_
 refine wl_loadA (cs := bytesPg s) (vs := bytesPg s) rfl ag_97 sz_97 (hS4.blk 1 rfl) (by simp [bytesPg]; exact Nat.le_of_eq ((H1 k s hs1)).symm) (by rw [List.drop_zero]; exact List.take_of_length_le (by simp [bytesPg]; exact Nat.le_of_eq ((H1 k s hs1)))) rfl ?_
 refine wl_guard rfl rfl h5 ?_
 refine wl_loadA (cs := bytesPg (pageOf (o2 k))) (vs := bytesPg (pageOf (o2 k))) rfl ag_97 sz_97 (hS4.blk 0 rfl) (by simp [bytesPg]; exact Nat.le_of_eq ((H2 k)).symm) (by rw [List.drop_zero]; exact List.take_of_length_le (by simp [bytesPg]; exact Nat.le_of_eq ((H2 k)))) rfl ?_
 refine wl_guard rfl rfl h5 ?_
 refine wl_neqArr s (pageOf (o2 k)) Tryz.underlying97 Tryz.underlying5 sz_5 ag_5 eqg_sh (H1 k s hs1) (H2 k) rfl rfl rfl ?_
 refine wl_pickF rfl h5 rfl rfl ?_
 refine wl_nil (qs_seq ?_)
 refine wc_sub (L' := [(33, _), (1, _), (15, _)]) (.cons rfl (.cons rfl (.cons rfl .nil))) ?_
 refine wc_condD rfl (fun h6 => ?_) (fun h6 => ?_)
 ·refine wc_seq (wc_region (wl_assign rfl rfl (wl_nil (qs_seq (wc_ret (qs_block_ret (qs_then_ret (qs_block_ret (qs_then_ret ?_)))))))))
  refine fin1 (.inr rfl) rfl rfl ?_
  exact ⟨_, rfl, false, rfl, ⟨(fun q => by cases q), fun e => by subst e; simp_all [pageOf]⟩, Sat.reorder (range_map (hS4.pick [2, 3, 4] rfl)) [0, 1, 2] rfl⟩
 have hkk : o1 k = o2 k := by have e9 : s = pageOf (o2 k) := Decidable.not_not.1 h6; have e8 : (o2 k).isSome = true := (by simpa using (by assumption : (!(o2 k).isSome) = false)); obtain ⟨t, ht⟩ := Option.isSome_iff_exists.1 e8; rw [hs1, ht]; rw [ht] at e9; rw [e9]; rfl
 refine wc_skip (qs_block_normal ?_)
 exact qs_round (L1 := [(1, _), (15, _)]) (.cons rfl (.cons rfl .nil)) (k1 := 1 * left2) (by omega) ⟨_, _, _, rfl, rfl, hS4.pick [2, 3, 4] rfl, fun j hj => by rcases hj with hj | rfl; exact heq j hj; exact hkk⟩
theorem eqPN_sp {w : World} {F : Th} {b1 : Nat} {o1 : Int → Option Bs} (hS : Sat w [mapT intK b1 (pagesG o1), F]) (hne : ∃ q, o1 q ≠ none) :
    Calls Tryz.prog 84 #[.map (some b1), .map none] w (Ret fun v w' => v = .bool false ∧ Sat w' [mapT intK b1 (pagesG o1), F]) := by
 refine calls_enter Tryz.func84 rfl Tryz.ntmps84 rfl ?_
 refine wc_seq (wc_region (wl_assign rfl rfl (wl_nil (qs_seq (wc_seq (wc_seq (wc_region (wl_move rfl rfl ?_))))))))
 refine wl_lenM 0 hS Tryz.underlying94 keysInt.inj rfl rfl rfl ?_
 intro cn1 hcn1
 refine wl_move rfl rfl ?_
 refine wl_lenMN Tryz.underlying94 rfl rfl ?_
 refine wl_neq rfl rfl rfl ?_
 refine wl_nil (qs_seq ?_)
 refine wc_condD rfl (fun h1 => ?_) (fun h1 => ?_)
 ·refine wc_seq (wc_region (wl_assign rfl rfl (wl_nil (qs_seq (wc_ret (qs_then_ret ?_))))))
  refine fin1 (.inr rfl) rfl rfl ?_
  exact ⟨_, rfl, rfl, hS⟩
 exact absurd (fun q => pagesG_none.1 (hcn1.zero.1 (by omega) q)) (fun hq => hne.elim fun q h => h (hq q))
end Go.Proofs.YtkaikhcpcbjkcaaGreatDoor
/- world: Same -/
namespace Go.Proofs.YtkaikhcpcbjkcaaGreatDoor
open Go.RowKit M
set_option linter.unusedVariables false
theorem same_objs {W W2 : WS} {Lo Lo2 : List (Bs × Nat)} {n : Nat} {dn : Bs → Prop} (hO : ObjL Lo W.objs) (hO2 : ObjL Lo2 W2.objs) (h1 : Card (namesG Lo) n) (h2 : Card (namesG Lo2) n) (heq : ∀ k, dn k → W.objs k = W2.objs k) (hd : ∀ k v, namesG Lo k = some v → dn k) : W.objs = W2.objs := by
  have hin : ∀ k, k ∈ Lo.map (·.1) → W.objs k = W2.objs k := fun k hk => by
    cases ha : assoc Lo k with
    | none => exact absurd hk (assoc_none.1 ha)
    | some m => exact heq k (hd k (.map (some m)) (by simp [namesG, ha]))
  obtain ⟨ks, a1, a2, a3⟩ := h1
  obtain ⟨js, b1, b2, b3⟩ := h2
  have m1 : ∀ k, k ∈ ks ↔ k ∈ Lo.map (·.1) := fun k => by
    rw [← a3 k]
    constructor
    · intro h; exact Decidable.byContradiction fun q => h (by simp [namesG, assoc_none.2 q])
    · intro h q; simp [namesG] at q; exact assoc_none.1 q h
  have m2 : ∀ k, k ∈ js ↔ k ∈ Lo2.map (·.1) := fun k => by
    rw [← b3 k]
    constructor
    · intro h; exact Decidable.byContradiction fun q => h (by simp [namesG, assoc_none.2 q])
    · intro h q; simp [namesG] at q; exact assoc_none.1 q h
  have s1 : ∀ k ∈ ks, k ∈ js := fun k hk => by
    rw [m2, hO2.has]
    obtain ⟨q, hq⟩ := (hO.has k).1 ((m1 k).1 hk)
    exact ⟨q, by rw [← hin k ((m1 k).1 hk)]; exact hq⟩
  funext k
  by_cases hk : k ∈ Lo.map (·.1)
  · exact hin k hk
  · have n1 : ∀ q, W.objs k q = none := fun q => Decidable.not_not.1 fun h => hk ((hO.has k).2 ⟨q, h⟩)
    have n2 : ∀ q, W2.objs k q = none := fun q => Decidable.not_not.1 fun h => by
      have hj : k ∈ js := (m2 k).2 ((hO2.has k).2 ⟨q, h⟩)
      have hnk : k ∉ ks := fun e => hk ((m1 k).1 e)
      have := List.Nodup.length_le_of_subset (l₂ := js) (List.nodup_cons.2 ⟨hnk, a1⟩) (by
        intro y hy
        rcases List.mem_cons.1 hy with rfl | hy
        · exact hj
        · exact s1 y hy)
      simp at this; omega
    funext q; rw [n1, n2]
theorem ws_eq {W W2 : WS} (h1 : W.cells = W2.cells) (h2 : W.objs = W2.objs) (h3 : W.logs = W2.logs) (h4 : W.time = W2.time) : W = W2 := by
  cases W; cases W2; simp_all
theorem card_names {w : World} {As : List Th} {b : Nat} {f : Bs → Option Value} (i : Nat) (h : Sat w As) (hi : As[i]? = some (mapT strK b f)) : ∃ n, Card f n := by
  obtain ⟨es, c, h1, h2⟩ := h.map i hi
  exact ⟨_, h1.card keysStr.inj h2⟩
theorem same_shut {w : World} {p q : Nat} {W W2 : WS} {LL LN : WL} {Lo Ln : List (Bs × Nat)} {F : Th} (hI : PagesOk W.objs) (hO : ObjL Lo W.objs) (hI2 : PagesOk W2.objs) (hN : ObjL Ln W2.objs)
    (h : Sat w [mapT strK LL.bo (namesG Lo), starL (Lo.map (thOf W.objs)), blkT p (cellsW LL W.time), mapT strK LL.bc (cellsG W.cells), mapT strK LL.bl (cellsG W.logs), mapT strK LN.bo (namesG Ln), starL (Ln.map (thOf W2.objs)), blkT q (cellsW LN W2.time), mapT strK LN.bc (cellsG W2.cells), mapT strK LN.bl (cellsG W2.logs), F]) : Sat w [worldT p W, worldT q W2, F] := by
  have h1 := world_same2 (As := [_, _, _, _, _, _]) hI hO h
  exact (world_same2 (As := [_, _]) hI2 hN (h1.reorder [1, 2, 3, 4, 5, 0, 6] rfl)).reorder [1, 0, 2] rfl
theorem big_back {w : World} {As : List Th} {O : Bs → Int → Option Bs} {Lo : List (Bs × Nat)} {k : Bs} {m im : Nat} (him : Lo[im]? = some (k, m)) (h : Sat w (mapT intK m (pagesG (O k)) :: starL ((Lo.map (thOf O)).eraseIdx im) :: As)) : Sat w (starL (Lo.map (thOf O)) :: As) := by
  rw [erase_map] at h
  exact big_perm (big_in (i := 0) h) (perm_back (x := (k, m)) him (thOf O))
theorem hO_card {W : WS} {Lo Ln : List (Bs × Nat)} {n m : Nat} (hO : ObjL Lo W.objs) (hN : ObjL Ln W.objs) (h1 : Card (namesG Lo) n) (h2 : Card (namesG Ln) m) : n = m := by
  refine h1.same h2 fun k => ?_
  have : ∀ (L : List (Bs × Nat)), ObjL L W.objs → (namesG L k = none ↔ ¬ ∃ q, W.objs k q ≠ none) := fun L h => by
    rw [← h.has k]; simp only [namesG, Option.map_eq_none_iff]; exact assoc_none
  rw [this Lo hO, this Ln hN]
set_option maxRecDepth 100000 in
theorem same_w {w : World} {p q : Nat} {W W2 : WS} {F : Th} (hS : Sat w [worldT p W, worldT q W2, F]) :
    Calls Tryz.prog 41 #[ptrV p 0, ptrV q 0] w (Ret fun v w' => ∃ g : Bool, v = .bool g ∧ (g = true ↔ W = W2) ∧ Sat w' [worldT p W, worldT q W2, F]) := by
 obtain ⟨LL, hI, hS⟩ := worldT_open hS
 obtain ⟨Lo, hO, hS⟩ := objsT_open (hS.pull 2 rfl); dsimp only [List.eraseIdx] at hS
 obtain ⟨LN, hI2, hS⟩ := worldT_open (hS.pull 5 rfl)
 dsimp only [List.eraseIdx] at hS
 obtain ⟨Ln, hN, hS⟩ := objsT_open (hS.pull 2 rfl); dsimp only [List.eraseIdx] at hS
 replace hS := hS.reorder [5, 6, 7, 8, 9, 0, 1, 2, 3, 4, 10] rfl; dsimp only [pickA, nthA] at hS
 refine calls_enter Tryz.func41 rfl Tryz.ntmps41 rfl ?_
 refine wc_seq (wc_region (wl_assign rfl rfl (wl_nil (qs_seq (wc_seq (wc_seq ?_))))))
 obtain ⟨n1, hcd1⟩ := card_names 0 hS rfl
 obtain ⟨n2, hcd2⟩ := card_names 5 hS rfl
 have hS1 := hS.drew
 refine wc_draw [0, 1, 2, 3, 4, 5, 6, 7, 8, 9, 10] [] mix (by kernel_rfl) ?_
 refine vc_p rfl rfl rfl (fun _ => (ev_move rfl)) ?_
 refine vc_p rfl rfl rfl (fun _ => (ev_nilCheck rfl)) ?_
 refine vc_p rfl rfl rfl (fun _ => (ev_fieldAddr rfl fo_93_1)) ?_
 refine vc_q rfl rfl rfl (ev_load rfl ag_91 (by first | assumption | exact hS1.cell 1 rfl rfl | exact hS1.cell 2 rfl rfl | exact hS1.cell 6 rfl rfl | exact hS1.cell 7 rfl rfl)) ?_
 refine vc_q rfl rfl rfl (ev_lenM 0 hS1 Tryz.underlying91 keysStr.inj rfl rfl hcd1) ?_
 refine vc_p rfl rfl rfl (fun _ => (ev_move rfl)) ?_
 refine vc_p rfl rfl rfl (fun _ => (ev_nilCheck rfl)) ?_
 refine vc_p rfl rfl rfl (fun _ => (ev_fieldAddr rfl fo_93_1)) ?_
 refine vc_q rfl rfl rfl (ev_load rfl ag_91 (by first | assumption | exact hS1.cell 1 rfl rfl | exact hS1.cell 2 rfl rfl | exact hS1.cell 6 rfl rfl | exact hS1.cell 7 rfl rfl)) ?_
 refine vc_q rfl rfl rfl (ev_lenM 5 hS1 Tryz.underlying91 keysStr.inj rfl rfl hcd2) ?_
 refine vc_p rfl rfl rfl (fun _ => (ev_neq rfl rfl)) ?_
 refine VC.nil (qs_seq ?_)
 refine wc_sub (L' := [(17, _), (4, _), (0, _), (1, _)]) (.cons rfl (.cons rfl (.cons rfl (.cons rfl .nil)))) ?_
 refine wc_condD rfl (fun h2 => ?_) (fun h2 => ?_)
 ·refine wc_seq (wc_region (wl_assign rfl rfl (wl_nil (qs_seq (wc_ret (qs_then_ret ?_))))))
  refine fin1 (.inr rfl) rfl rfl ?_
  exact ⟨_, rfl, false, rfl, ⟨(fun e => by cases e), fun e => by exfalso; subst e; have h9 := hO_card hO hN hcd1 hcd2; omega⟩, same_shut hI hO hI2 hN (hS1.pick [0, 1, 2, 3, 4, 5, 6, 7, 8, 9, 10] rfl)⟩
 refine wc_skip (qs_seq (wc_seq (wc_seq (wc_region (wl_move rfl rfl (wl_nilCheck rfl rfl ?_))))))
 refine wl_fieldAddr rfl fo_93_1 rfl ?_
 refine wl_load rfl ag_91 (by first | assumption | exact hS1.cell 1 rfl rfl | exact hS1.cell 2 rfl rfl | exact hS1.cell 6 rfl rfl | exact hS1.cell 7 rfl rfl) rfl ?_
 refine wl_range 0 hS1 Tryz.underlying91 rfl rfl rfl ?_
 intro RR left0 wR hSR; dsimp only [List.set] at hSR
 clear hS1
 refine wl_nil (qs_seq (wc_block ?_))
 refine wc_loop (fun K0 E0 W0 => ∃ (dn : Bs → Prop) (cur : Option Bs) (left : Nat), K0 = 1 * left ∧ E0 = [(0, ptrV p 0), (1, ptrV q 0), (22, ptrV RR 0)] ∧ Sat W0 [rangeT strK LL.bo RR (namesG Lo) dn cur left, starL (Lo.map (thOf W.objs)), blkT p (cellsW LL W.time), mapT strK LL.bc (cellsG W.cells), mapT strK LL.bl (cellsG W.logs), mapT strK LN.bo (namesG Ln), starL (Ln.map (thOf W2.objs)), blkT q (cellsW LN W2.time), mapT strK LN.bc (cellsG W2.cells), mapT strK LN.bl (cellsG W2.logs), F] ∧ (∀ k, dn k → W.objs k = W2.objs k)) (L0 := [(0, _), (1, _), (22, _)]) (1 * left0) (.cons rfl (.cons rfl (.cons rfl .nil))) ⟨_, _, _, rfl, rfl, hSR, fun _ h => h.elim⟩ ?_
 rintro _ _ w3 ⟨dn, cur, left, rfl, rfl, hS3, heq⟩
 refine wc_seq (wc_region ?_)
 refine wl_next 0 hS3 keysStr.inj rfl rfl rfl (fun hdone => ?_) (fun k v left2 w2 hleft hgk hnd hS2 => ?_)
 ·refine wl_extract rfl rfl rfl (wl_nil (qs_seq (wc_seq ?_)))
  refine wc_condF rfl ?_
  refine wc_exit (qs_then_exit (qs_then_exit (qs_block_exit (qs_seq (wc_seq ?_)))))
  have hS4 := hS3.drew
  refine wc_draw [0, 1, 2, 3, 4, 5, 6, 7, 8, 9, 10, 11, 12, 13, 14, 15, 16, 17, 18, 19, 20, 21, 22, 23, 24, 25, 26, 27, 28, 29, 30, 31] [8, 18] mix (by kernel_rfl) ?_
  refine vc_p rfl rfl rfl (fun _ => (ev_move rfl)) ?_
  refine vc_p rfl rfl rfl (fun _ => (ev_nilCheck rfl)) ?_
  refine vc_p rfl rfl rfl (fun _ => (ev_fieldAddr rfl fo_93_0)) ?_
  refine vc_q rfl rfl rfl (ev_load rfl ag_89 (by first | assumption | exact hS4.cell 1 rfl rfl | exact hS4.cell 2 rfl rfl | exact hS4.cell 6 rfl rfl | exact hS4.cell 7 rfl rfl)) ?_
  refine vc_p rfl rfl rfl (fun _ => (ev_move rfl)) ?_
  refine vc_p rfl rfl rfl (fun _ => (ev_nilCheck rfl)) ?_
  refine vc_p rfl rfl rfl (fun _ => (ev_fieldAddr rfl fo_93_0)) ?_
  refine vc_q rfl rfl rfl (ev_load rfl ag_89 (by first | assumption | exact hS4.cell 1 rfl rfl | exact hS4.cell 2 rfl rfl | exact hS4.cell 6 rfl rfl | exact hS4.cell 7 rfl rfl)) ?_
  refine vc_s rfl rfl rfl rfl rfl rfl ?_
  have hC5 := hS4.split [3, 8] [false, false, false, true, false, false, false, false, true, false, false] rfl; dsimp only [selF, pickA, nthA, List.cons_append, List.nil_append] at hC5
  refine wl_call cal_85 rfl (eqS_sp hC5) rfl ?_
  rintro e w5 ⟨_, rfl, g1, rfl, hg1i, hS5⟩; refine ⟨_, rfl, ?_⟩
  replace hS5 := hS5.join rfl; dsimp only [List.dropLast, List.cons_append, List.nil_append] at hS5; clear hC5
  clear hS4
  refine vc_e (.skip (by kernel_rfl) (.skip (by kernel_rfl) .nil)) ?_
  refine vc_p rfl rfl rfl (fun _ => (ev_move rfl)) ?_
  refine vc_split 46 rfl (fun h6 => ?_) (fun h6 => ?_)
  ·refine vc_p rfl rfl (guard_yes rfl rfl h6) (fun _ => (Ev.gd (ev_move rfl))) ?_
   refine vc_p rfl rfl (guard_yes rfl rfl h6) (fun _ => (Ev.gd (ev_nilCheck rfl))) ?_
   refine vc_p rfl rfl (guard_yes rfl rfl h6) (fun _ => (Ev.gd (ev_fieldAddr rfl fo_93_2))) ?_
   refine vc_q rfl rfl (guard_yes rfl rfl h6) (Ev.gd (ev_load rfl ag_89 (by first | assumption | exact hS5.cell 3 rfl rfl | exact hS5.cell 4 rfl rfl | exact hS5.cell 7 rfl rfl | exact hS5.cell 8 rfl rfl))) ?_
   refine vc_p rfl rfl (guard_yes rfl rfl h6) (fun _ => (Ev.gd (ev_move rfl))) ?_
   refine vc_p rfl rfl (guard_yes rfl rfl h6) (fun _ => (Ev.gd (ev_nilCheck rfl))) ?_
   refine vc_p rfl rfl (guard_yes rfl rfl h6) (fun _ => (Ev.gd (ev_fieldAddr rfl fo_93_2))) ?_
   refine vc_q rfl rfl (guard_yes rfl rfl h6) (Ev.gd (ev_load rfl ag_89 (by first | assumption | exact hS5.cell 3 rfl rfl | exact hS5.cell 4 rfl rfl | exact hS5.cell 7 rfl rfl | exact hS5.cell 8 rfl rfl))) ?_
   refine vc_s rfl rfl (guard_yes rfl rfl h6) rfl rfl rfl ?_
   have hC7 := hS5.split [5, 9] [false, false, false, false, false, true, false, false, false, true, false] rfl; dsimp only [selF, pickA, nthA, List.cons_append, List.nil_append] at hC7
   refine wl_call cal_85 rfl (eqS_sp hC7) rfl ?_
   rintro e w7 ⟨_, rfl, g2, rfl, hg2i, hS7⟩; refine ⟨_, rfl, ?_⟩
   replace hS7 := hS7.join rfl; dsimp only [List.dropLast, List.cons_append, List.nil_append] at hS7; clear hC7
   clear hS5
   refine vc_e (.skip (by kernel_rfl) (.skip (by kernel_rfl) (.skip (by kernel_rfl) (.skip (by kernel_rfl) .nil)))) ?_
   refine vc_p rfl rfl rfl (fun _ => (ev_pickT rfl h6 rfl)) ?_
   refine vc_p rfl rfl rfl (fun _ => (ev_move rfl)) ?_
   refine vc_split 57 rfl (fun h8 => ?_) (fun h8 => ?_)
   ·refine vc_p rfl rfl (guard_yes rfl rfl h8) (fun _ => (Ev.gd (ev_move rfl))) ?_
    refine vc_p rfl rfl (guard_yes rfl rfl h8) (fun _ => (Ev.gd (ev_nilCheck rfl))) ?_
    refine vc_p rfl rfl (guard_yes rfl rfl h8) (fun _ => (Ev.gd (ev_fieldAddr rfl fo_93_3))) ?_
    refine vc_q rfl rfl (guard_yes rfl rfl h8) (Ev.gd (ev_load rfl ag_3 (by first | assumption | exact hS7.cell 5 rfl rfl | exact hS7.cell 6 rfl rfl | exact hS7.cell 8 rfl rfl | exact hS7.cell 9 rfl rfl))) ?_
    refine vc_p rfl rfl (guard_yes rfl rfl h8) (fun _ => (Ev.gd (ev_move rfl))) ?_
    refine vc_p rfl rfl (guard_yes rfl rfl h8) (fun _ => (Ev.gd (ev_nilCheck rfl))) ?_
    refine vc_p rfl rfl (guard_yes rfl rfl h8) (fun _ => (Ev.gd (ev_fieldAddr rfl fo_93_3))) ?_
    refine vc_q rfl rfl (guard_yes rfl rfl h8) (Ev.gd (ev_load rfl ag_3 (by first | assumption | exact hS7.cell 5 rfl rfl | exact hS7.cell 6 rfl rfl | exact hS7.cell 8 rfl rfl | exact hS7.cell 9 rfl rfl))) ?_
    refine vc_p rfl rfl (guard_yes rfl rfl h8) (fun _ => (Ev.gd (ev_eql rfl rfl))) ?_
    refine vc_p rfl rfl rfl (fun _ => (ev_pickT rfl h8 rfl)) ?_
    refine vc_p rfl rfl rfl (fun _ => (ev_assign rfl)) ?_
    refine VC.nil (qs_seq ?_)
    refine wc_sub (L' := [(4, _)]) (.cons rfl .nil) ?_
    refine wc_ret ?_
    refine fin1 (.inr rfl) rfl rfl ?_
    have hob : W.objs = W2.objs := same_objs hO hN hcd1 (card_cast hcd2 (by omega)) heq hdone
    exact ⟨_, rfl, _, rfl, ⟨fun e => ws_eq (hg1i.1 (by assumption)) hob (hg2i.1 (by assumption)) (of_decide_eq_true e), fun e => by subst e; exact decide_eq_true rfl⟩, same_shut hI hO hI2 hN (range_map (hS7.pick [4, 5, 6, 2, 0, 7, 8, 9, 3, 1, 10] rfl))⟩
   refine vc_not rfl rfl (guard_no rfl rfl h8) ?_
   refine vc_not rfl rfl (guard_no rfl rfl h8) ?_
   refine vc_not rfl rfl (guard_no rfl rfl h8) ?_
   refine vc_not rfl rfl (guard_no rfl rfl h8) ?_
   refine vc_not rfl rfl (guard_no rfl rfl h8) ?_
   refine vc_not rfl rfl (guard_no rfl rfl h8) ?_
   refine vc_not rfl rfl (guard_no rfl rfl h8) ?_
   refine vc_not rfl rfl (guard_no rfl rfl h8) ?_
   refine vc_not rfl rfl (guard_no rfl rfl h8) ?_
   refine vc_p rfl rfl rfl (fun _ => (ev_pickF rfl h8 rfl)) ?_
   refine vc_p rfl rfl rfl (fun _ => (ev_assign rfl)) ?_
   refine VC.nil (qs_seq ?_)
   refine wc_sub (L' := [(4, _)]) (.cons rfl .nil) ?_
   refine wc_ret ?_
   refine fin1 (.inr rfl) rfl rfl ?_
   have hob : W.objs = W2.objs := same_objs hO hN hcd1 (card_cast hcd2 (by omega)) heq hdone
   exact ⟨_, rfl, false, rfl, ⟨(fun e => by cases e), fun e => by subst e; simp_all⟩, same_shut hI hO hI2 hN (range_map (hS7.pick [4, 5, 6, 2, 0, 7, 8, 9, 3, 1, 10] rfl))⟩
  refine vc_not rfl rfl (guard_no rfl rfl h6) ?_
  refine vc_not rfl rfl (guard_no rfl rfl h6) ?_
  refine vc_not rfl rfl (guard_no rfl rfl h6) ?_
  refine vc_not rfl rfl (guard_no rfl rfl h6) ?_
  refine vc_not rfl rfl (guard_no rfl rfl h6) ?_
  refine vc_not rfl rfl (guard_no rfl rfl h6) ?_
  refine vc_not rfl rfl (guard_no rfl rfl h6) ?_
  refine vc_not rfl rfl (guard_no rfl rfl h6) ?_
  refine VC.spineNot rfl rfl (guard_no rfl rfl h6) ?_
  refine vc_p rfl rfl rfl (fun _ => (ev_pickF rfl h6 rfl)) ?_
  refine vc_p rfl rfl rfl (fun _ => (ev_move rfl)) ?_
  refine vc_not rfl rfl (guard_no rfl rfl rfl) ?_
  refine vc_not rfl rfl (guard_no rfl rfl rfl) ?_
  refine vc_not rfl rfl (guard_no rfl rfl rfl) ?_
  refine vc_not rfl rfl (guard_no rfl rfl rfl) ?_
  refine vc_not rfl rfl (guard_no rfl rfl rfl) ?_
  refine vc_not rfl rfl (guard_no rfl rfl rfl) ?_
  refine vc_not rfl rfl (guard_no rfl rfl rfl) ?_
  refine vc_not rfl rfl (guard_no rfl rfl rfl) ?_
  refine vc_not rfl rfl (guard_no rfl rfl rfl) ?_
  refine vc_p rfl rfl rfl (fun _ => (ev_pickF rfl rfl rfl)) ?_
  refine vc_p rfl rfl rfl (fun _ => (ev_assign rfl)) ?_
  refine VC.nil (qs_seq ?_)
  refine wc_sub (L' := [(4, _)]) (.cons rfl .nil) ?_
  refine wc_ret ?_
  refine fin1 (.inr rfl) rfl rfl ?_
  have hob : W.objs = W2.objs := same_objs hO hN hcd1 (card_cast hcd2 (by omega)) heq hdone
  exact ⟨_, rfl, false, rfl, ⟨(fun e => by cases e), fun e => by subst e; simp_all⟩, same_shut hI hO hI2 hN (range_map (hS5.pick [2, 3, 4, 0, 5, 6, 7, 8, 1, 9, 10] rfl))⟩
 dsimp only [List.set] at hS2
 obtain ⟨m, im, rfl, him⟩ := names_some hgk
 have hS3 := big_out (i := im) (A := thOf W.objs (k, m)) (hS2.pull 1 rfl) (by simp [him]); dsimp only [List.eraseIdx, thOf] at hS3
 refine wl_extract rfl rfl rfl (wl_nil (qs_seq (wc_seq ?_)))
 refine wc_condT rfl ?_
 refine wc_skip (qs_seq (wc_block (wc_seq (wc_region ?_))))
 refine wl_entry 2 hS3 rfl hgk rfl rfl ?_
 refine wl_extract rfl rfl rfl (wl_extract rfl rfl rfl (wl_assign rfl rfl (wl_assign rfl rfl (wl_nil (qs_seq (wc_seq (wc_region (wl_move rfl rfl (wl_move rfl rfl (wl_nilCheck rfl rfl ?_))))))))))
 refine wl_fieldAddr rfl fo_93_1 rfl ?_
 refine wl_load rfl ag_91 (by first | assumption | exact hS3.cell 1 rfl rfl | exact hS3.cell 3 rfl rfl | exact hS3.cell 7 rfl rfl | exact hS3.cell 8 rfl rfl) rfl ?_
 refine wl_move rfl rfl ?_
 rcases hq : assoc Ln k with _ | m2
 ·have hno := obj_none hN hq
  refine wl_lookup (k := k) 6 hS3 keysStr Tryz.underlying91 rfl rfl rfl zr_94 (u := .map none) (by simp [namesG, hq]) rfl ?_
  have hC10 := hS3.split [0] [true, false, false, false, false, false, false, false, false, false, false, false] rfl; dsimp only [selF, pickA, nthA, List.cons_append, List.nil_append] at hC10
  refine wl_call cal_84 rfl (eqPN_sp hC10 (obj_some hO him)) rfl ?_
  rintro e w10 ⟨_, rfl, rfl, hS10⟩; refine ⟨_, rfl, ?_⟩
  replace hS10 := hS10.join rfl; dsimp only [List.dropLast, List.cons_append, List.nil_append] at hS10; clear hC10
  clear hS3
  refine wl_not rfl rfl ?_
  refine wl_nil (qs_seq ?_)
  refine wc_sub (L' := [(36, _), (0, _), (1, _), (22, _)]) (.cons rfl (.cons rfl (.cons rfl (.cons rfl .nil)))) ?_
  refine wc_condKT rfl rfl ?_
  refine wc_seq (wc_region (wl_assign rfl rfl (wl_nil (qs_seq (wc_ret (qs_block_ret (qs_then_ret (qs_block_ret (qs_then_ret ?_)))))))))
  refine fin1 (.inr rfl) rfl rfl ?_
  have hB11 := big_back him (hS10.pick [0, 1, 2, 3, 4, 5, 6, 7, 8, 9, 10, 11] rfl)
  exact ⟨_, rfl, false, rfl, ⟨(fun e => by cases e), fun e => by exfalso; subst e; obtain ⟨q0, hq0⟩ := obj_some hO him; exact hq0 (hno q0)⟩, same_shut hI hO hI2 hN (range_map (hB11.reorder [1, 0, 2, 3, 4, 5, 6, 7, 8, 9, 10] rfl))⟩
 obtain ⟨jm, hjm⟩ := assoc_mem hq
 refine wl_lookup (k := k) 6 hS3 keysStr Tryz.underlying91 rfl rfl rfl zr_94 (u := .map (some m2)) (by simp [namesG, hq]) rfl ?_
 have hS9 := big_out (i := jm) (A := thOf W2.objs (k, m2)) (hS3.pull 7 rfl) (by simp [hjm]); dsimp only [List.eraseIdx, thOf] at hS9
 have hC12 := hS9.split [2, 0] [true, false, true, false, false, false, false, false, false, false, false, false, false] rfl; dsimp only [selF, pickA, nthA, List.cons_append, List.nil_append] at hC12
 refine wl_call cal_84 rfl (eqP_sp hC12 (fun q s h => (hI.ok _ _ _ h).1) (fun q => hI2.len k q)) rfl ?_
 rintro e w12 ⟨_, rfl, g, rfl, hgi, hS12⟩; refine ⟨_, rfl, ?_⟩
 replace hS12 := hS12.join rfl; dsimp only [List.dropLast, List.cons_append, List.nil_append] at hS12; clear hC12
 clear hS9
 refine wl_not rfl rfl ?_
 refine wl_nil (qs_seq ?_)
 refine wc_sub (L' := [(36, _), (0, _), (1, _), (22, _)]) (.cons rfl (.cons rfl (.cons rfl (.cons rfl .nil)))) ?_
 refine wc_cond rfl (fun h13 => ?_) (fun h13 => ?_)
 ·refine wc_seq (wc_region (wl_assign rfl rfl (wl_nil (qs_seq (wc_ret (qs_block_ret (qs_then_ret (qs_block_ret (qs_then_ret ?_)))))))))
  refine fin1 (.inr rfl) rfl rfl ?_
  have hB14 := big_back him (hS12.pick [0, 3, 1, 2, 4, 5, 6, 7, 8, 9, 10, 11, 12] rfl)
  have hB15 := big_back hjm (hB14.reorder [1, 2, 0, 3, 4, 5, 6, 7, 8, 9, 10, 11] rfl)
  exact ⟨_, rfl, false, rfl, ⟨(fun e => by cases e), fun e => by exfalso; subst e; have h9 := hgi.2 rfl; have h8 : (!g) = true := (by assumption); rw [h9] at h8; cases h8⟩, same_shut hI hO hI2 hN (range_map (hB15.reorder [2, 1, 3, 4, 5, 6, 0, 7, 8, 9, 10] rfl))⟩
 have hkk : W.objs k = W2.objs k := hgi.1 (by simpa using (by assumption : (!g) = false))
 refine wc_skip (qs_block_normal ?_)
 have hB16 := big_back him (hS12.pick [0, 3, 1, 2, 4, 5, 6, 7, 8, 9, 10, 11, 12] rfl)
 have hB17 := big_back hjm (hB16.reorder [1, 2, 0, 3, 4, 5, 6, 7, 8, 9, 10, 11] rfl)
 exact qs_round (L1 := [(0, _), (1, _), (22, _)]) (.cons rfl (.cons rfl (.cons rfl .nil))) (k1 := 1 * left2) (by omega) ⟨_, _, _, rfl, rfl, (hB17.reorder [2, 1, 3, 4, 5, 6, 0, 7, 8, 9, 10] rfl), fun j hj => by rcases hj with hj | rfl; exact heq j hj; exact hkk⟩
end Go.Proofs.YtkaikhcpcbjkcaaGreatDoor
