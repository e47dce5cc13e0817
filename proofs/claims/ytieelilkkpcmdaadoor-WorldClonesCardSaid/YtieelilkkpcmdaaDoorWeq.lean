/- world: maps.Equal -/
import Derived.Test.YtieelilkkpcmdaaDoorWcl
namespace Go.Proofs.YtieelilkkpcmdaaDoor
open Go.RowKit M
set_option linter.unusedVariables false
theorem ev_neqArr {P : Program} {L : Env} {w : World} {d : Nat} {ty : TypeId} {pos : String} {aft : Array Edge} {t t2 e len : Nat} {x y : Operand} (xs ys : List UInt8) (hu : P.underlying t = some (.array len e)) (he : P.underlying e = some (.int .u8)) (h1 : szOf P e = some 1) (ha : aggB P e = some false) (hg : P.eqGuardType P.depth t = false) (hlx : xs.length = len) (hly : ys.length = len) (hx : M.look L x = some (.agg (xs.map byteV).toArray)) (hy : M.look L y = some (.agg (ys.map byteV).toArray)) : Ev P L w ⟨some d, .binOp .neq t x y t2, ty, pos, aft, none⟩ (.bool (decide (xs ≠ ys))) := fun ρ hρ => by
  have h := run_eqArr hu he h1 ha xs ys hlx hly w
  simp [execOp, hρ _ _ hx, hρ _ _ hy, eqGuard, binOp, program, Sem.run, hg] at h ⊢
  rw [h]
  simp
theorem wl_neqArr {P : Program} {n : Nat} {ops : Array Oper} {Q : Exit → Act → World → Prop} {rest : List Oper} {L : Env} {w : World} {d : Nat} {ty : TypeId} {pos : String} {aft : Array Edge} {t t2 e len : Nat} {x y : Operand} (xs ys : List UInt8) (hu : P.underlying t = some (.array len e)) (he : P.underlying e = some (.int .u8)) (h1 : szOf P e = some 1) (ha : aggB P e = some false) (hg : P.eqGuardType P.depth t = false) (hlx : xs.length = len) (hly : ys.length = len) (hx : M.look L x = some (.agg (xs.map byteV).toArray)) (hy : M.look L y = some (.agg (ys.map byteV).toArray)) (hd : Nat.blt d n = true)
    (hk : wl P n ops Q rest ((d, .bool (decide (xs ≠ ys))) :: L) w) : wl P n ops Q (⟨some d, .binOp .neq t x y t2, ty, pos, aft, none⟩ :: rest) L w := wl_val hd (ev_neqArr xs ys hu he h1 ha hg hlx hly hx hy) hk
theorem cellsG_eq {c1 c2 : Bs → Bs} (h : cellsG c1 = cellsG c2) : c1 = c2 := by
  funext k
  have := congrFun h k
  unfold cellsG at this
  split at this <;> split at this
  · simp_all
  · cases this
  · cases this
  · injection this with this; exact strV_inj this
theorem cellsG_val {c : Bs → Bs} {k : Bs} {v : Value} (h : cellsG c k = some v) : c k ≠ [] ∧ v = strV (c k) := by
  unfold cellsG at h; split at h
  · cases h
  · injection h with h; exact ⟨by assumption, h.symm⟩
theorem cellsG_isSome (c : Bs → Bs) (k : Bs) : (cellsG c k).isSome = decide (c k ≠ []) := by
  unfold cellsG; split <;> simp_all
theorem pagesG_val {o : Int → Option Bs} {k : Int} {v : Value} (h : pagesG o k = some v) : ∃ s, o k = some s ∧ v = pageV s := by
  unfold pagesG at h
  obtain ⟨s, h1, h2⟩ := Option.map_eq_some_iff.1 h
  exact ⟨s, h1, h2.symm⟩
theorem pageV_inj {s t : Bs} (h : pageV s = pageV t) : s = t := by
  unfold pageV at h
  injection h with h
  have h2 := congrArg Array.toList h
  simp only at h2
  refine (List.map_inj_right (fun a b hab => ?_)).1 h2
  injection hab with _ hab
  exact UInt8.toNat_inj.1 (by omega)
theorem pagesG_eq {o1 o2 : Int → Option Bs} (h : pagesG o1 = pagesG o2) : o1 = o2 := by
  funext k
  have := congrFun h k
  unfold pagesG at this
  cases h1 : o1 k <;> cases h2 : o2 k <;> simp [h1, h2] at this ⊢
  exact pageV_inj this
theorem bytesPg_splice2 {s t : Bs} (h : s.length = t.length) : splice (bytesPg s) 0 (bytesPg t) = bytesPg t := bytesPg_splice h
theorem eqS_end {c1 c2 : Bs → Bs} {n : Nat} {dn : Bs → Prop} (h1 : Card (cellsG c1) n) (h2 : Card (cellsG c2) n) (heq : ∀ k, dn k → c1 k = c2 k) (hd : ∀ k v, cellsG c1 k = some v → dn k) : c1 = c2 := by
  refine cellsG_eq (h1.sub h2 fun k v hv => ?_)
  have hk := heq k (hd k v hv)
  obtain ⟨hc, rfl⟩ := cellsG_val hv
  unfold cellsG; rw [if_neg (by rw [← hk]; exact hc), hk]
theorem eqP_end {o1 o2 : Int → Option Bs} {n : Nat} {dn : Int → Prop} (h1 : Card (pagesG o1) n) (h2 : Card (pagesG o2) n) (heq : ∀ k, dn k → o1 k = o2 k) (hd : ∀ k v, pagesG o1 k = some v → dn k) : o1 = o2 := by
  refine pagesG_eq (h1.sub h2 fun k v hv => ?_)
  rw [← hv]; unfold pagesG; rw [heq k (hd k v hv)]
theorem card_cast {κ : Type} {f : κ → Option Value} {n m : Nat} (h : Card f n) (e : n = m) : Card f m := e ▸ h
theorem eqg_sh : Tryd.prog.eqGuardType Tryd.prog.depth 71 = false := by kernel_rfl
set_option maxRecDepth 100000 in
theorem eqS_sp {w : World} {F : Th} {b1 b2 : Nat} {c1 c2 : Bs → Bs} (hS : Sat w [mapT strK b1 (cellsG c1), mapT strK b2 (cellsG c2), F]) :
    Calls Tryd.prog 52 #[.map (some b1), .map (some b2)] w (Ret fun v w' => ∃ g : Bool, v = .bool g ∧ (g = true ↔ c1 = c2) ∧ Sat w' [mapT strK b1 (cellsG c1), mapT strK b2 (cellsG c2), F]) := by
  refine calls_enter Tryd.func52 rfl Tryd.ntmps52 rfl ?_
  refine wc_seq ?_
  refine wc_region ?_
  refine wl_assign rfl rfl ?_
  refine wl_nil ?_
  refine qs_seq ?_
  refine wc_seq ?_
  refine wc_seq ?_
  refine wc_region ?_
  refine wl_move rfl rfl ?_
  refine wl_lenM 0 hS Tryd.underlying65 keysStr.inj rfl rfl rfl ?_
  intro cn1 hcn1
  refine wl_move rfl rfl ?_
  refine wl_lenM 1 hS Tryd.underlying65 keysStr.inj rfl rfl rfl ?_
  intro cn2 hcn2
  refine wl_neq rfl rfl rfl ?_
  refine wl_nil ?_
  refine qs_seq ?_
  refine wc_condD rfl (fun h1 => ?_) (fun h1 => ?_)
  · skip
    refine wc_seq ?_
    refine wc_region ?_
    refine wl_assign rfl rfl ?_
    refine wl_nil ?_
    refine qs_seq ?_
    refine wc_ret ?_
    refine qs_then_ret ?_
    refine fin1 (.inr rfl) rfl rfl ?_
    exact ⟨_, rfl, false, rfl, ⟨(fun q => by cases q), fun e => absurd (by subst e; exact (congrArg (fun (z : Nat) => (z : Int)) (hcn1.uniq hcn2))) (by assumption)⟩, hS.pick [0, 1, 2] rfl⟩
  · skip
    refine wc_skip ?_
    refine qs_seq ?_
    refine wc_seq ?_
    refine wc_seq ?_
    refine wc_region ?_
    refine wl_move rfl rfl ?_
    refine wl_range 0 hS Tryd.underlying65 rfl rfl rfl ?_
    intro RR left0 wR hSR; dsimp only [List.set] at hSR
    refine wl_nil ?_
    refine qs_seq ?_
    refine wc_block ?_
    refine wc_loop (fun K0 E0 W0 => ∃ (dn : Bs → Prop) (cur : Option Bs) (left : Nat), K0 = 1 * left ∧ E0 = [(1, .map (some b2)), (15, ptrV RR 0)] ∧ Sat W0 [rangeT strK b1 RR (cellsG c1) dn cur left, mapT strK b2 (cellsG c2), F] ∧ (∀ k, dn k → c1 k = c2 k)) (L0 := [(1, _), (15, _)]) (1 * left0) (.cons rfl (.cons rfl .nil)) ⟨_, _, _, rfl, rfl, hSR, fun _ h => h.elim⟩ ?_
    rintro _ _ w2 ⟨dn, cur, left, rfl, rfl, hS2, heq⟩
    refine wc_seq ?_
    refine wc_region ?_
    refine wl_next 0 hS2 keysStr.inj rfl rfl rfl (fun hdone => ?_) (fun k v left2 w2 hleft hgk hnd hS2 => ?_)
    · skip
      refine wl_extract rfl rfl rfl ?_
      refine wl_nil ?_
      refine qs_seq ?_
      refine wc_seq ?_
      refine wc_condF rfl ?_
      refine wc_exit ?_
      refine qs_then_exit ?_
      refine qs_then_exit ?_
      refine qs_block_exit ?_
      refine qs_seq ?_
      refine wc_seq ?_
      refine wc_region ?_
      refine wl_assign rfl rfl ?_
      refine wl_nil ?_
      refine qs_seq ?_
      refine wc_ret ?_
      refine fin1 (.inr rfl) rfl rfl ?_
      exact ⟨_, rfl, true, rfl, ⟨fun _ => eqS_end hcn1 (card_cast hcn2 (by omega)) heq hdone, fun _ => rfl⟩, Sat.reorder (range_map (hS2.pick [0, 1, 2] rfl)) [0, 1, 2] rfl⟩
    · skip
      dsimp only [List.set] at hS2
      obtain ⟨hck, rfl⟩ := cellsG_val hgk
      refine wl_extract rfl rfl rfl ?_
      refine wl_nil ?_
      refine qs_seq ?_
      refine wc_seq ?_
      refine wc_condT rfl ?_
      refine wc_skip ?_
      refine qs_seq ?_
      refine wc_block ?_
      refine wc_seq ?_
      refine wc_region ?_
      refine wl_entry 0 hS2 rfl hgk rfl rfl ?_
      refine wl_extract rfl rfl rfl ?_
      refine wl_extract rfl rfl rfl ?_
      refine wl_assign rfl rfl ?_
      refine wl_assign rfl rfl ?_
      refine wl_nil ?_
      refine qs_seq ?_
      refine wc_seq ?_
      refine wc_region ?_
      refine wl_move rfl rfl ?_
      refine wl_move rfl rfl ?_
      refine wl_lookupOk (k := k) 1 hS2 keysStr Tryd.underlying65 rfl rfl rfl zr_9 (u := strV (c2 k)) (g := decide (c2 k ≠ [])) (cellsG_get _ _) (cellsG_isSome _ _) rfl ?_
      refine wl_move rfl rfl ?_
      refine wl_extract rfl rfl rfl ?_
      refine wl_extract rfl rfl rfl ?_
      refine wl_assign rfl rfl ?_
      refine wl_assign rfl rfl ?_
      refine wl_nil ?_
      refine qs_seq ?_
      refine wc_sub (L' := [(8, _), (7, _), (6, _), (1, _), (15, _)]) (.cons rfl (.cons rfl (.cons rfl (.cons rfl (.cons rfl .nil))))) ?_
      refine wc_seq ?_
      refine wc_region ?_
      refine wl_move rfl rfl ?_
      refine wl_not rfl rfl ?_
      refine wl_move rfl rfl ?_
      refine wl_split 29 rfl (fun h3 => ?_) (fun h3 => ?_)
      · skip
        refine wl_unwanted rfl rfl h3 rfl ?_
        refine wl_unwanted rfl rfl h3 rfl ?_
        refine wl_unwanted rfl rfl h3 rfl ?_
        refine wl_pickT rfl h3 rfl rfl ?_
        refine wl_nil ?_
        refine qs_seq ?_
        refine wc_sub (L' := [(33, _), (1, _), (15, _)]) (.cons rfl (.cons rfl (.cons rfl .nil))) ?_
        refine wc_condT rfl ?_
        refine wc_seq ?_
        refine wc_region ?_
        refine wl_assign rfl rfl ?_
        refine wl_nil ?_
        refine qs_seq ?_
        refine wc_ret ?_
        refine qs_block_ret ?_
        refine qs_then_ret ?_
        refine qs_block_ret ?_
        refine qs_then_ret ?_
        refine fin1 (.inr rfl) rfl rfl ?_
        exact ⟨_, rfl, false, rfl, ⟨(fun q => by cases q), fun e => by subst e; simp_all⟩, Sat.reorder (range_map (hS2.pick [0, 1, 2] rfl)) [0, 1, 2] rfl⟩
      · skip
        refine wl_guard rfl rfl h3 ?_
        refine wl_move rfl rfl ?_
        refine wl_guard rfl rfl h3 ?_
        refine wl_move rfl rfl ?_
        refine wl_guard rfl rfl h3 ?_
        refine wl_neqS rfl rfl rfl ?_
        refine wl_pickF rfl h3 rfl rfl ?_
        refine wl_nil ?_
        refine qs_seq ?_
        refine wc_sub (L' := [(33, _), (1, _), (15, _)]) (.cons rfl (.cons rfl (.cons rfl .nil))) ?_
        refine wc_condD rfl (fun h4 => ?_) (fun h4 => ?_)
        · skip
          refine wc_seq ?_
          refine wc_region ?_
          refine wl_assign rfl rfl ?_
          refine wl_nil ?_
          refine qs_seq ?_
          refine wc_ret ?_
          refine qs_block_ret ?_
          refine qs_then_ret ?_
          refine qs_block_ret ?_
          refine qs_then_ret ?_
          refine fin1 (.inr rfl) rfl rfl ?_
          exact ⟨_, rfl, false, rfl, ⟨(fun q => by cases q), fun e => by subst e; simp_all⟩, Sat.reorder (range_map (hS2.pick [0, 1, 2] rfl)) [0, 1, 2] rfl⟩
        · skip
          have hkk : c1 k = c2 k := Decidable.not_not.1 h4
          refine wc_skip ?_
          refine qs_block_normal ?_
          exact qs_round (L1 := [(1, _), (15, _)]) (.cons rfl (.cons rfl .nil)) (k1 := 1 * left2) (by omega) ⟨_, _, _, rfl, rfl, hS2.pick [0, 1, 2] rfl, fun j hj => by rcases hj with hj | rfl; exact heq j hj; exact hkk⟩

set_option maxRecDepth 100000 in
theorem eqP_sp {w : World} {F : Th} {b1 b2 : Nat} {o1 o2 : Int → Option Bs} (hS : Sat w [mapT intK b1 (pagesG o1), mapT intK b2 (pagesG o2), F]) (H1 : ∀ q s, o1 q = some s → s.length = 64) (H2 : ∀ q, (pageOf (o2 q)).length = 64) :
    Calls Tryd.prog 51 #[.map (some b1), .map (some b2)] w (Ret fun v w' => ∃ g : Bool, v = .bool g ∧ (g = true ↔ o1 = o2) ∧ Sat w' [mapT intK b1 (pagesG o1), mapT intK b2 (pagesG o2), F]) := by
  refine calls_enter Tryd.func51 rfl Tryd.ntmps51 rfl ?_
  refine wc_seq ?_
  refine wc_region ?_
  refine wl_assign rfl rfl ?_
  refine wl_nil ?_
  refine qs_seq ?_
  refine wc_seq ?_
  refine wc_seq ?_
  refine wc_region ?_
  refine wl_move rfl rfl ?_
  refine wl_lenM 0 hS Tryd.underlying72 keysInt.inj rfl rfl rfl ?_
  intro cn1 hcn1
  refine wl_move rfl rfl ?_
  refine wl_lenM 1 hS Tryd.underlying72 keysInt.inj rfl rfl rfl ?_
  intro cn2 hcn2
  refine wl_neq rfl rfl rfl ?_
  refine wl_nil ?_
  refine qs_seq ?_
  refine wc_condD rfl (fun h1 => ?_) (fun h1 => ?_)
  · skip
    refine wc_seq ?_
    refine wc_region ?_
    refine wl_assign rfl rfl ?_
    refine wl_nil ?_
    refine qs_seq ?_
    refine wc_ret ?_
    refine qs_then_ret ?_
    refine fin1 (.inr rfl) rfl rfl ?_
    exact ⟨_, rfl, false, rfl, ⟨(fun q => by cases q), fun e => absurd (by subst e; exact (congrArg (fun (z : Nat) => (z : Int)) (hcn1.uniq hcn2))) (by assumption)⟩, hS.pick [0, 1, 2] rfl⟩
  · skip
    refine wc_skip ?_
    refine qs_seq ?_
    refine wc_seq ?_
    refine wc_seq ?_
    refine wc_region ?_
    refine wl_move rfl rfl ?_
    refine wl_range 0 hS Tryd.underlying72 rfl rfl rfl ?_
    intro RR left0 wR hSR; dsimp only [List.set] at hSR
    refine wl_nil ?_
    refine qs_seq ?_
    refine wc_block ?_
    refine wc_loop (fun K0 E0 W0 => ∃ (dn : Int → Prop) (cur : Option Int) (left : Nat), K0 = 1 * left ∧ E0 = [(1, .map (some b2)), (15, ptrV RR 0)] ∧ Sat W0 [rangeT intK b1 RR (pagesG o1) dn cur left, mapT intK b2 (pagesG o2), F] ∧ (∀ k, dn k → o1 k = o2 k)) (L0 := [(1, _), (15, _)]) (1 * left0) (.cons rfl (.cons rfl .nil)) ⟨_, _, _, rfl, rfl, hSR, fun _ h => h.elim⟩ ?_
    rintro _ _ w2 ⟨dn, cur, left, rfl, rfl, hS2, heq⟩
    refine wc_seq ?_
    refine wc_region ?_
    refine wl_next 0 hS2 keysInt.inj rfl rfl rfl (fun hdone => ?_) (fun k v left2 w2 hleft hgk hnd hS2 => ?_)
    · skip
      refine wl_extract rfl rfl rfl ?_
      refine wl_nil ?_
      refine qs_seq ?_
      refine wc_seq ?_
      refine wc_condF rfl ?_
      refine wc_exit ?_
      refine qs_then_exit ?_
      refine qs_then_exit ?_
      refine qs_block_exit ?_
      refine qs_seq ?_
      refine wc_seq ?_
      refine wc_region ?_
      refine wl_assign rfl rfl ?_
      refine wl_nil ?_
      refine qs_seq ?_
      refine wc_ret ?_
      refine fin1 (.inr rfl) rfl rfl ?_
      exact ⟨_, rfl, true, rfl, ⟨fun _ => eqP_end hcn1 (card_cast hcn2 (by omega)) heq hdone, fun _ => rfl⟩, Sat.reorder (range_map (hS2.pick [0, 1, 2] rfl)) [0, 1, 2] rfl⟩
    · skip
      dsimp only [List.set] at hS2
      obtain ⟨s, hs1, rfl⟩ := pagesG_val hgk
      refine wl_extract rfl rfl rfl ?_
      refine wl_nil ?_
      refine qs_seq ?_
      refine wc_seq ?_
      refine wc_condT rfl ?_
      refine wc_skip ?_
      refine qs_seq ?_
      refine wc_block ?_
      refine wc_seq ?_
      refine wc_region ?_
      refine wl_entry 0 hS2 rfl hgk rfl rfl ?_
      refine wl_extract rfl rfl rfl ?_
      refine wl_extract rfl rfl rfl ?_
      refine wl_alloc hS2 zr_sheet (cs := bytesPg zero64) rfl rfl ?_
      intro ba wba hSba
      clear hS2
      refine wl_assign rfl rfl ?_
      refine wl_storeA (vs := (bytesPg s).toArray) hSba rfl rfl sz_71 (by simp [bytesPg]; exact (H1 k s hs1)) (bytesPg_one _) (i := 0) rfl (by decide) ?_
      intro w3 hS3; dsimp only [List.set] at hS3
      rw [show splice (bytesPg zero64) 0 (bytesPg s).toArray.toList = bytesPg s from bytesPg_splice ((H1 k s hs1)).symm] at hS3
      clear hSba
      refine wl_nil ?_
      refine qs_seq ?_
      refine wc_seq ?_
      refine wc_region ?_
      refine wl_move rfl rfl ?_
      refine wl_move rfl rfl ?_
      refine wl_lookupOk (k := k) 2 hS3 keysInt Tryd.underlying72 rfl rfl rfl zr_sheet (u := pageV (pageOf (o2 k))) (g := (o2 k).isSome) (pagesG_get _ _) (by simp [pagesG]) rfl ?_
      refine wl_move rfl rfl ?_
      refine wl_extract rfl rfl rfl ?_
      refine wl_extract rfl rfl rfl ?_
      refine wl_alloc hS3 zr_sheet (cs := bytesPg zero64) rfl rfl ?_
      intro bb wbb hSbb
      clear hS3
      refine wl_storeA (vs := (bytesPg (pageOf (o2 k))).toArray) hSbb rfl rfl sz_71 (by simp [bytesPg]; exact (H2 k)) (bytesPg_one _) (i := 0) rfl (by decide) ?_
      intro w4 hS4; dsimp only [List.set] at hS4
      rw [show splice (bytesPg zero64) 0 (bytesPg (pageOf (o2 k))).toArray.toList = bytesPg (pageOf (o2 k)) from bytesPg_splice ((H2 k)).symm] at hS4
      clear hSbb
      refine wl_assign rfl rfl ?_
      refine wl_nil ?_
      refine qs_seq ?_
      refine wc_sub (L' := [(8, _), (7, _), (6, _), (1, _), (15, _)]) (.cons rfl (.cons rfl (.cons rfl (.cons rfl (.cons rfl .nil))))) ?_
      refine wc_seq ?_
      refine wc_region ?_
      refine wl_move rfl rfl ?_
      refine wl_not rfl rfl ?_
      refine wl_move rfl rfl ?_
      refine wl_split 29 rfl (fun h5 => ?_) (fun h5 => ?_)
      · skip
        refine wl_unwanted rfl rfl h5 rfl ?_
        refine wl_unwanted rfl rfl h5 rfl ?_
        refine wl_unwanted rfl rfl h5 rfl ?_
        refine wl_pickT rfl h5 rfl rfl ?_
        refine wl_nil ?_
        refine qs_seq ?_
        refine wc_sub (L' := [(33, _), (1, _), (15, _)]) (.cons rfl (.cons rfl (.cons rfl .nil))) ?_
        refine wc_condT rfl ?_
        refine wc_seq ?_
        refine wc_region ?_
        refine wl_assign rfl rfl ?_
        refine wl_nil ?_
        refine qs_seq ?_
        refine wc_ret ?_
        refine qs_block_ret ?_
        refine qs_then_ret ?_
        refine qs_block_ret ?_
        refine qs_then_ret ?_
        refine fin1 (.inr rfl) rfl rfl ?_
        exact ⟨_, rfl, false, rfl, ⟨(fun q => by cases q), fun e => by subst e; simp_all [pageOf]⟩, Sat.reorder (range_map (hS4.pick [2, 3, 4] rfl)) [0, 1, 2] rfl⟩
      · skip
        refine wl_guard rfl rfl h5 ?_
        refine wl_loadA (cs := bytesPg s) (vs := bytesPg s) rfl ag_71 sz_71 (hS4.blk 1 rfl) (by simp [bytesPg]; exact Nat.le_of_eq ((H1 k s hs1)).symm) (by rw [List.drop_zero]; exact List.take_of_length_le (by simp [bytesPg]; exact Nat.le_of_eq ((H1 k s hs1)))) rfl ?_
        refine wl_guard rfl rfl h5 ?_
        refine wl_loadA (cs := bytesPg (pageOf (o2 k))) (vs := bytesPg (pageOf (o2 k))) rfl ag_71 sz_71 (hS4.blk 0 rfl) (by simp [bytesPg]; exact Nat.le_of_eq ((H2 k)).symm) (by rw [List.drop_zero]; exact List.take_of_length_le (by simp [bytesPg]; exact Nat.le_of_eq ((H2 k)))) rfl ?_
        refine wl_guard rfl rfl h5 ?_
        refine wl_neqArr s (pageOf (o2 k)) Tryd.underlying71 Tryd.underlying5 sz_5 ag_5 eqg_sh (H1 k s hs1) (H2 k) rfl rfl rfl ?_
        refine wl_pickF rfl h5 rfl rfl ?_
        refine wl_nil ?_
        refine qs_seq ?_
        refine wc_sub (L' := [(33, _), (1, _), (15, _)]) (.cons rfl (.cons rfl (.cons rfl .nil))) ?_
        refine wc_condD rfl (fun h6 => ?_) (fun h6 => ?_)
        · skip
          refine wc_seq ?_
          refine wc_region ?_
          refine wl_assign rfl rfl ?_
          refine wl_nil ?_
          refine qs_seq ?_
          refine wc_ret ?_
          refine qs_block_ret ?_
          refine qs_then_ret ?_
          refine qs_block_ret ?_
          refine qs_then_ret ?_
          refine fin1 (.inr rfl) rfl rfl ?_
          exact ⟨_, rfl, false, rfl, ⟨(fun q => by cases q), fun e => by subst e; simp_all [pageOf]⟩, Sat.reorder (range_map (hS4.pick [2, 3, 4] rfl)) [0, 1, 2] rfl⟩
        · skip
          have hkk : o1 k = o2 k := by have e9 : s = pageOf (o2 k) := Decidable.not_not.1 h6; have e8 : (o2 k).isSome = true := (by simpa using (by assumption : (!(o2 k).isSome) = false)); obtain ⟨t, ht⟩ := Option.isSome_iff_exists.1 e8; rw [hs1, ht]; rw [ht] at e9; rw [e9]; rfl
          refine wc_skip ?_
          refine qs_block_normal ?_
          exact qs_round (L1 := [(1, _), (15, _)]) (.cons rfl (.cons rfl .nil)) (k1 := 1 * left2) (by omega) ⟨_, _, _, rfl, rfl, hS4.pick [2, 3, 4] rfl, fun j hj => by rcases hj with hj | rfl; exact heq j hj; exact hkk⟩

theorem eqPN_sp {w : World} {F : Th} {b1 : Nat} {o1 : Int → Option Bs} (hS : Sat w [mapT intK b1 (pagesG o1), F]) (hne : ∃ q, o1 q ≠ none) :
    Calls Tryd.prog 51 #[.map (some b1), .map none] w (Ret fun v w' => v = .bool false ∧ Sat w' [mapT intK b1 (pagesG o1), F]) := by
  refine calls_enter Tryd.func51 rfl Tryd.ntmps51 rfl ?_
  refine wc_seq ?_
  refine wc_region ?_
  refine wl_assign rfl rfl ?_
  refine wl_nil ?_
  refine qs_seq ?_
  refine wc_seq ?_
  refine wc_seq ?_
  refine wc_region ?_
  refine wl_move rfl rfl ?_
  refine wl_lenM 0 hS Tryd.underlying72 keysInt.inj rfl rfl rfl ?_
  intro cn1 hcn1
  refine wl_move rfl rfl ?_
  refine wl_lenMN Tryd.underlying72 rfl rfl ?_
  refine wl_neq rfl rfl rfl ?_
  refine wl_nil ?_
  refine qs_seq ?_
  refine wc_condD rfl (fun h1 => ?_) (fun h1 => ?_)
  · skip
    refine wc_seq ?_
    refine wc_region ?_
    refine wl_assign rfl rfl ?_
    refine wl_nil ?_
    refine qs_seq ?_
    refine wc_ret ?_
    refine qs_then_ret ?_
    refine fin1 (.inr rfl) rfl rfl ?_
    exact ⟨_, rfl, rfl, hS⟩
  · skip
    exact absurd (fun q => pagesG_none.1 (hcn1.zero.1 (by omega) q)) (fun hq => hne.elim fun q h => h (hq q))

end Go.Proofs.YtieelilkkpcmdaaDoor
