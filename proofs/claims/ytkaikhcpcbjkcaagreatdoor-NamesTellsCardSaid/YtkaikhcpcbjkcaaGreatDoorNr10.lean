/- laws of names: NamesTells -/
import Derived.Test.YtkaikhcpcbjkcaaGreatDoorNr9
import Derived.Laws.StructEq
import Derived.Test.YtkaikhcpcbjkcaaGreatDoorMem
import Derived.ProofKit
import Derived.OpenShut
import Derived.ShutString
import Derived.ChangeOld
import Derived.Deep.Slices
import Derived.Deep.Fields
import Derived.ChangeSame
import Derived.JoinedCond
namespace Go.Proofs.YtkaikhcpcbjkcaaGreatDoor
open Go.RowKit M
set_option linter.unusedVariables false
theorem eqInd (x y : InD) (w : World) : (Op.equal 35 (.agg #[intV x.k, intV x.sz, intV x.ln]) (.agg #[intV y.k, intV y.sz, intV y.ln])).run Tryz.prog w = .ok (decide (x.k = y.k ∧ x.sz = y.sz ∧ x.ln = y.ln)) w := by
  have u3 := Tryz.underlying3
  have a3 : aggB Tryz.prog 3 = some false := by kernel_rfl
  have hS : Tryz.prog.underlying 35 = some (.struct (Tryz.prog.fieldsOf 35)) := by kernel_rfl
  have hp : Tryz.prog.stoodInHeld 35 = false := by kernel_rfl
  unfold Op.equal Op.maxDepth
  generalize hN : (10000 : Nat) = N
  obtain ⟨m, rfl⟩ : ∃ m, N = m + 1 + 1 := ⟨9998, by omega⟩
  rw [run_equalIn_struct w (m + 1) 35 _ _ hS hp]
  have q0 := fun w => run_part1 (P := Tryz.prog) a3 #[intV x.k, intV x.sz, intV x.ln] 0 _ rfl w
  have q1 := fun w => run_part1 (P := Tryz.prog) a3 #[intV x.k, intV x.sz, intV x.ln] 1 _ rfl w
  have q2 := fun w => run_part1 (P := Tryz.prog) a3 #[intV x.k, intV x.sz, intV x.ln] 2 _ rfl w
  have r0 := fun w => run_part1 (P := Tryz.prog) a3 #[intV y.k, intV y.sz, intV y.ln] 0 _ rfl w
  have r1 := fun w => run_part1 (P := Tryz.prog) a3 #[intV y.k, intV y.sz, intV y.ln] 1 _ rfl w
  have r2 := fun w => run_part1 (P := Tryz.prog) a3 #[intV y.k, intV y.sz, intV y.ln] 2 _ rfl w
  simp only [Program.fieldsOf, Tryz.underlying35, Op.eqFields, Sem.run_bind, q0, q1, q2, r0, r1, r2, Result.andThen_ok, run_equalIn_int _ _ _ _ _ _ _ u3, Sem.run_ite, Sem.run_pure]
  by_cases h0 : x.k = y.k <;> by_cases h1 : x.sz = y.sz <;> by_cases h2 : x.ln = y.ln <;> simp [h0, h1, h2, run_equalIn_int _ _ _ _ _ _ _ u3]
theorem eqInd_self (x : InD) (w : World) : (Op.equal 35 (.agg #[intV x.k, intV x.sz, intV x.ln]) (.agg #[intV x.k, intV x.sz, intV x.ln])).run Tryz.prog w = .ok true w := by
  rw [eqInd x x w]; simp
section
variable {P : Program} {n : Nat} {ops : Array Oper} {Q : Exit → Act → World → Prop} {rest : List Oper} {L : Env} {w : World} {d : Nat} {ty : TypeId} {pos : String} {aft : Array Edge} {As : List Th}
theorem ev_neqAgg {t t2 : Nat} {x y : Operand} {xs ys : Array Value} {b : Bool} (h : ∀ w, (Op.equal t (.agg xs) (.agg ys)).run P w = .ok b w) (hg : P.eqGuardType P.depth t = false) (hx : M.look L x = some (.agg xs)) (hy : M.look L y = some (.agg ys)) : Ev P L w ⟨some d, .binOp .neq t x y t2, ty, pos, aft, none⟩ (.bool (!b)) := fun ρ hρ => by
  have h := h w
  simp [execOp, hρ _ _ hx, hρ _ _ hy, eqGuard, binOp, program, Sem.run, hg] at h ⊢
  rw [h]
  rfl
end
theorem keysOf_ex {W : WS} {n : Nat} (h : PI W n) (pre : Bs) : ∃ lk, KeysOf W.cells pre lk := by
  obtain ⟨ks, h1, h2⟩ := h.few
  obtain ⟨l, h3, h4, h5⟩ := ded (P := fun k => W.cells k ≠ [] ∧ Lib.hasPrefix k pre = true) ks
  exact ⟨sortS l, l, rfl, h3, fun k => by rw [h5]; exact ⟨fun q => q.2, fun q => ⟨h2 k q.1, q⟩⟩⟩
theorem keysOf_long {W : WS} {n : Nat} (h : PI W n) (dir : Bs) : ∀ lk : List Bs, (∀ l', KeysOf W.cells (kE dir []) l' → l' = lk) → ∀ y ∈ lk, (kE dir []).length ≤ y.length := by
  intro lk hu y hy
  obtain ⟨l', hl'⟩ := keysOf_ex h (kE dir [])
  obtain rfl := hu l' hl'
  exact hasPrefix_len (keysOf_has hl' hy).2
theorem list_same {W : WS} {dir : Bs} {L L' : List Bs} (h : (dirE W dir ≠ 0 ∧ L = []) ∨ (dirE W dir = 0 ∧ ∃ lk, KeysOf W.cells (kE dir []) lk ∧ L = lk.map (offK dir))) (h' : (dirE W dir ≠ 0 ∧ L' = []) ∨ (dirE W dir = 0 ∧ ∀ lk, KeysOf W.cells (kE dir []) lk → L' = lk.map (offK dir))) : L' = L := by
  rcases h with ⟨a, rfl⟩ | ⟨a, lk, hk, rfl⟩ <;> rcases h' with ⟨b, rfl⟩ | ⟨b, h2⟩
  · rfl
  · exact absurd b a
  · exact absurd a b
  · exact h2 lk hk
theorem keysOf_len2 {c : Bs → Bs} {pre : Bs} {l : List Bs} {n : Nat} (h : KeysOf c pre l) (hk : ∃ ks : List Bs, ks.length ≤ n ∧ ∀ k, c k ≠ [] → k ∈ ks) : l.length ≤ n := by
  obtain ⟨l0, rfl, hn, hm⟩ := h
  obtain ⟨ks, h1, h2⟩ := hk
  rw [sortS_len]
  exact Nat.le_trans (List.Nodup.length_le_of_subset hn fun k hk => h2 k ((hm k).1 hk).1) h1
theorem refC_keys {Z : List (Bs × Bs)} {W : WS} {n : Nat} (h : RefC Z W n) {lk : List Bs} (hk : KeysOf W.cells [] lk) : Z.map (·.1) = lk := by
  have e : withZ Z [] = Z.map (·.1) := by
    unfold withZ
    rw [List.filter_eq_self]
    intro a _; simp [Lib.hasPrefix]
  rw [← e]; exact (withZ_keys h.cells hk).symm
set_option maxRecDepth 100000 in
set_option maxHeartbeats 1600000 in
theorem cells_sp {w : World} {F : Th} {p q n : Nat} {W : WS} (hS : Sat w [worldT p W, refP q W n, F]) (hn : n ≤ 1000) {m : Nat} (hP : PI W m) (hm : m ≤ 1000) :
    Calls Tryz.prog 33 #[ptrV p 0, ptrV q 0] w (Ret fun v w' => v = .bool true ∧ Sat w' [worldT p W, refP q W n, F]) := by
 obtain ⟨Z, hR, hS⟩ := refP_open (hS.pull 1 rfl); dsimp only [List.eraseIdx] at hS
 obtain ⟨kv, vv, hS⟩ := rfT_open hS
 obtain ⟨ka, kc, hkv, _⟩ := hS.own_shape 1 rfl
 obtain rfl := hkv
 obtain ⟨va, vc, hvv, _⟩ := hS.own_shape 2 rfl
 obtain rfl := hvv
 have hml : (Z.map (·.1)).length = Z.length := by simp
 have hml2 : (Z.map (·.2)).length = Z.length := by simp
 have hZl := hR.len
 refine calls_enter Tryz.func33 rfl Tryz.ntmps33 rfl ?_
 refine wc_seq (wc_region (wl_assign rfl rfl (wl_nil (qs_seq (wc_seq (wc_seq ?_))))))
 have hS1 := hS.drew
 refine wc_draw [0, 2, 3, 4, 5, 1, 6, 7] [1, 6] mix (by kernel_rfl) ?_
 refine vc_p rfl rfl rfl (fun _ => (ev_move rfl)) ?_
 refine vc_p rfl rfl rfl (fun _ => (ev_move rfl)) ?_
 refine vc_p rfl rfl rfl (fun _ => (ev_nilCheck rfl)) ?_
 refine vc_p rfl rfl rfl (fun _ => (ev_fieldAddr rfl fo_50_0)) ?_
 refine vc_q rfl rfl rfl (ev_load rfl ag_40 (by first | assumption | exact hS1.cell 0 rfl rfl)) ?_
 refine vc_s rfl rfl rfl rfl rfl rfl ?_
 have hC2 := hS1.split [3] [false, false, false, true, false] rfl; dsimp only [selF, pickA, nthA, List.cons_append, List.nil_append] at hC2
 refine wl_call cal_17 rfl (keys_sp hC2 [] (hP.kin (by omega))) rfl ?_
 rintro e w2 ⟨_, rfl, lk, hlk, hS2⟩; refine ⟨_, rfl, ?_⟩
 replace hS2 := hS2.join rfl; dsimp only [List.dropLast, List.cons_append, List.nil_append] at hS2; clear hC2
 clear hS1
 obtain rfl := refC_keys hR hlk
 have hlkl := keysOf_len2 hlk hP.few
 refine vc_e (.cons (.inl ⟨rfl, (ev_load rfl ag_40 (by first | assumption | exact hS2.cell 2 rfl rfl))⟩) .nil) ?_
 refine vc_s rfl rfl rfl rfl rfl rfl ?_
 have hC3 := hS2.split [] [false, false, false, false, false, false] rfl; dsimp only [selF, pickA, nthA, List.cons_append, List.nil_append] at hC3
 refine wl_call cal_32 rfl (same_sp hC3 (Ent.starL (ent_row (C := stC) (by omega)) 0 rfl) (Ent.starL (ent_row (C := stC) (by omega)) 3 rfl)) rfl ?_
 rintro e w3 ⟨_, rfl, rfl, hS3⟩; refine ⟨_, rfl, ?_⟩
 replace hS3 := hS3.join rfl; dsimp only [List.dropLast, List.cons_append, List.nil_append] at hS3; clear hC3
 clear hS2
 refine vc_e (.skip (by kernel_rfl) .nil) ?_
 refine vc_p rfl rfl rfl (fun _ => (ev_not rfl)) ?_
 refine VC.nil (qs_seq ?_)
 refine wc_sub (L' := [(13, _), (4, _), (0, _), (1, _)]) (.cons rfl (.cons rfl (.cons rfl (.cons rfl .nil)))) ?_
 refine wc_cond rfl (fun h4 => ?_) (fun h4 => ?_)
 ·simp at h4
 refine wc_skip (qs_seq (wc_seq (wc_seq (wc_region (wl_assign rfl rfl (wl_nil (qs_seq (wc_block ?_))))))))
 refine wc_loop (fun K0 E0 W0 => ∃ (i : Nat), K0 = Z.length - i ∧ E0 = [(0, ptrV p 0), (1, ptrV q 0), (5, intV (i : Int))] ∧ Sat W0 [blkT q (.slice ka (Z.map (·.1)).length kc :: .slice va (Z.map (·.2)).length vc :: RZ0), rowT stC (.slice ka (Z.map (·.1)).length kc) (Z.map (·.1)), rowT stC (.slice va (Z.map (·.2)).length vc) (Z.map (·.2)), worldT p W, F] ∧ (i ≤ Z.length)) (L0 := [(0, _), (1, _), (5, _)]) (Z.length - 0) (.cons rfl (.cons rfl (.cons rfl .nil))) ⟨0, rfl, rfl, hS3.pick [2, 3, 4, 1, 5] rfl, by omega⟩ ?_
 rintro _ _ w5 ⟨i, rfl, rfl, hS5, hi⟩
 refine wc_seq (wc_seq (wc_region (wl_move rfl rfl (wl_move rfl rfl (wl_nilCheck rfl rfl ?_)))))
 refine wl_fieldAddr rfl fo_50_0 rfl ?_
 refine wl_load rfl ag_40 (by first | assumption | exact hS5.cell 0 rfl rfl) rfl ?_
 first | refine wl_lenL Tryz.underlying40 rfl rfl ?_ | refine wl_lenO 1 hS5 Tryz.underlying40 rfl rfl rfl ?_ | refine wl_lenO 2 hS5 Tryz.underlying40 rfl rfl rfl ?_
 refine wl_lss rfl rfl rfl ?_
 refine wl_nil (qs_seq ?_)
 refine wc_condD rfl (fun h6 => ?_) (fun h6 => ?_)
 ·obtain ⟨x, hx⟩ : ∃ x, Z[i]? = some x := ⟨_, List.getElem?_eq_getElem (by omega)⟩
  have hky : (Z.map (·.1))[i]? = some x.1 := by rw [List.getElem?_map, hx]; rfl
  have hvi := cells_at hR.cells hky
  obtain ⟨kb, ko, hqk, _⟩ := hS5.own_at 1 rfl (by omega)
  cases hqk
  obtain ⟨vb, vo, hqv, _⟩ := hS5.own_at 2 rfl (by omega)
  cases hqv
  refine wc_skip (qs_seq (wc_seq (wc_block (wc_seq ?_))))
  have hS7 := hS5.drew
  refine wc_draw [0, 1, 2, 3, 4, 5, 6, 7, 9, 10, 11, 12, 13, 14, 15, 8, 16] [8] mix (by kernel_rfl) ?_
  refine vc_p rfl rfl rfl (fun _ => (ev_move rfl)) ?_
  refine vc_p rfl rfl rfl (fun _ => (ev_move rfl)) ?_
  refine vc_p rfl rfl rfl (fun _ => (ev_nilCheck rfl)) ?_
  refine vc_p rfl rfl rfl (fun _ => (ev_fieldAddr rfl fo_50_0)) ?_
  refine vc_q rfl rfl rfl (ev_load rfl ag_40 (by first | assumption | exact hS7.cell 0 rfl rfl)) ?_
  refine vc_p rfl rfl rfl (fun _ => (ev_move rfl)) ?_
  refine vc_p rfl rfl rfl (fun _ => (ev_indexAddr i rfl rfl (by first | rfl | omega) (by first | omega | exact (List.getElem?_eq_some_iff.1 hky).1) es_40)) ?_
  refine vc_q rfl rfl rfl (ev_rowLoad0 stC 1 i 0 hS7 rfl hky ag_9 rfl rfl) ?_
  refine vc_p rfl rfl rfl (fun _ => (ev_move rfl)) ?_
  refine vc_p rfl rfl rfl (fun _ => (ev_nilCheck rfl)) ?_
  refine vc_p rfl rfl rfl (fun _ => (ev_fieldAddr rfl fo_50_1)) ?_
  refine vc_q rfl rfl rfl (ev_load rfl ag_40 (by first | assumption | exact hS7.cell 0 rfl rfl)) ?_
  refine vc_p rfl rfl rfl (fun _ => (ev_move rfl)) ?_
  refine vc_p rfl rfl rfl (fun _ => (ev_indexAddr i rfl rfl (by first | rfl | omega) (by first | omega | exact (List.getElem?_eq_some_iff.1 hvi).1) es_40)) ?_
  refine vc_q rfl rfl rfl (ev_rowLoad0 stC 2 i 0 hS7 rfl hvi ag_9 rfl rfl) ?_
  refine vc_s rfl rfl rfl rfl rfl rfl ?_
  have hC8 := hS7.split [3] [false, false, false, true, false] rfl; dsimp only [selF, pickA, nthA, List.cons_append, List.nil_append] at hC8
  refine wl_call cal_16 rfl (get_sp hC8 x.1) rfl ?_
  rintro e w8 ⟨_, rfl, rfl, hS8⟩; refine ⟨_, rfl, ?_⟩
  replace hS8 := hS8.join rfl; dsimp only [List.dropLast, List.cons_append, List.nil_append] at hS8; clear hC8
  clear hS7
  refine vc_e (.cons (.inl ⟨rfl, (ev_rowLoad0 stC 3 i 0 hS8 rfl hvi ag_9 rfl rfl)⟩) (.cons (.inl ⟨rfl, (ev_load rfl ag_40 (by first | assumption | exact hS8.cell 1 rfl rfl))⟩) (.skip (by kernel_rfl) (.skip (by kernel_rfl) .nil)))) ?_
  refine vc_p rfl rfl rfl (fun _ => (ev_neqS rfl rfl)) ?_
  refine VC.nil (qs_seq ?_)
  refine wc_sub (L' := [(39, _), (0, _), (1, _), (5, _)]) (.cons rfl (.cons rfl (.cons rfl (.cons rfl .nil)))) ?_
  refine wc_condD rfl (fun h9 => ?_) (fun h9 => ?_)
  ·exact absurd rfl h9
  refine wc_skip (qs_block_normal (qs_seq (wc_region (wl_move rfl rfl ?_))))
  refine wl_add rfl rfl (by first | omega | (simp; omega)) (by first | omega | (simp; omega)) rfl ?_
  refine wl_assign rfl rfl (wl_nil ?_)
  exact qs_round (L1 := [(0, _), (1, _), (5, intV ((i + 1 : Nat) : Int))]) (.cons rfl (.cons rfl (.cons rfl .nil))) (k1 := Z.length - (i + 1)) (by omega) ⟨i + 1, rfl, rfl, hS8.pick [1, 2, 3, 0, 4] rfl, by omega⟩
 refine wc_exit (qs_then_exit (qs_then_exit (qs_block_exit (qs_seq (wc_seq (wc_region (wl_assign rfl rfl (wl_nil (qs_seq ?_)))))))))
 refine wc_sub (L' := [(4, _)]) (.cons rfl .nil) ?_
 refine wc_ret ?_
 refine fin1 (.inr rfl) rfl rfl ?_
 exact ⟨_, rfl, rfl, (refP_shut hR (rfT_shut (hS5.pick [0, 1, 2, 3, 4] rfl))).reorder [1, 0, 2] rfl⟩
theorem rdl_at {α : Type} {C : RowC α} {b off n cap i j : Nat} {l : List α} {a : α} {u : Value} {w : World} (h : RdL C (.slice (some ⟨b, off, none⟩) n cap) l w) (ha : l[i]? = some a) (hu : (C.enc a)[j]? = some u) : w.cell? ⟨b, off + i * C.size + j, none⟩ = some u := by
  obtain ⟨_, _, he, hc⟩ := h.get ha
  cases he
  exact hc j u hu
theorem list_few {W : WS} {n : Nat} (h : PI W n) {m : Nat} (hm : n ≤ m) {dir : Bs} {L : List Bs} (hl : (dirE W dir ≠ 0 ∧ L = []) ∨ (dirE W dir = 0 ∧ ∃ lk, KeysOf W.cells (kE dir []) lk ∧ L = lk.map (offK dir))) : L.length ≤ m := by
  rcases hl with ⟨_, rfl⟩ | ⟨_, lk, hk, rfl⟩
  · exact Nat.zero_le _
  · rw [List.length_map]; have := keysOf_len2 hk h.few; omega
set_option maxRecDepth 100000 in
set_option maxHeartbeats 4000000 in
theorem tells_law {w : World} {F : Th} (hS : Sat w [F]) (hG : Ent F WireG) {lv fv : Value} {l : List AcD} {fl : List (Bs × Bs)} (hFL : Ent F (RdL pcC fv fl)) (hL : Ent F (RdL acC lv l)) (cwd path : Bs) (hnb : ∀ (i : Nat) (y : AcD), l[i]? = some y → InB y.n) :
    Calls Tryz.prog 5 #[fv, lv, strV cwd, strV path] w (Ret fun v w' => v = .bool true ∧ Sat w' [F]) := by
 obtain ⟨ao, cap, rfl, hmax⟩ := (hL.sat hS 0 rfl).shape
 obtain ⟨fo, fcap, rfl, hfmax⟩ := (hFL.sat hS 0 rfl).shape
 refine calls_enter Tryz.func5 rfl Tryz.ntmps5 rfl ?_
 refine wc_seq (wc_region (wl_assign rfl rfl (wl_nil (qs_seq (wc_seq (wc_region ?_))))))
 have hC1 := hS.split [] [false] rfl; dsimp only [selF, pickA, nthA, List.cons_append, List.nil_append] at hC1
 refine wl_call cal_8 rfl (small_sp hC1 (hG.starL 0 rfl)) rfl ?_
 rintro e w1 ⟨_, rfl, rfl, hS1⟩; refine ⟨_, rfl, ?_⟩
 replace hS1 := hS1.join rfl; dsimp only [List.dropLast, List.cons_append, List.nil_append] at hS1; clear hC1
 refine wl_assign rfl rfl (wl_nil (qs_seq (wc_seq (wc_seq (wc_region (wl_move rfl rfl ?_))))))
 have hC2 := hS1.split [] [false] rfl; dsimp only [selF, pickA, nthA, List.cons_append, List.nil_append] at hC2
 refine wl_call cal_9 rfl (few_sp hC2 (hL.starL 0 rfl)) rfl ?_
 rintro e w2 ⟨_, rfl, rfl, hS2⟩; refine ⟨_, rfl, ?_⟩
 replace hS2 := hS2.join rfl; dsimp only [List.dropLast, List.cons_append, List.nil_append] at hS2; clear hC2
 clear hS1
 refine wl_not rfl rfl ?_
 refine wl_move rfl rfl ?_
 refine wl_split 40 rfl (fun h3 => ?_) (fun h3 => ?_)
 ·refine wl_unwanted rfl rfl h3 rfl ?_
  refine wl_unwanted rfl rfl h3 rfl ?_
  refine wl_unwanted rfl rfl h3 rfl ?_
  refine wl_pickT rfl h3 rfl rfl ?_
  refine wl_move rfl rfl ?_
  refine wl_unwanted rfl rfl rfl rfl ?_
  refine wl_unwanted rfl rfl rfl rfl ?_
  refine wl_unwanted rfl rfl rfl rfl ?_
  refine wl_pickT rfl rfl rfl rfl ?_
  refine wl_move rfl rfl ?_
  refine wl_unwanted rfl rfl rfl rfl ?_
  refine wl_unwanted rfl rfl rfl rfl ?_
  refine wl_unwanted rfl rfl rfl rfl ?_
  refine wl_pickT rfl rfl rfl rfl ?_
  refine wl_nil (qs_seq ?_)
  refine wc_sub (L' := [(54, _), (9, _), (8, _), (0, _), (1, _), (2, _), (3, _)]) (.cons rfl (.cons rfl (.cons rfl (.cons rfl (.cons rfl (.cons rfl (.cons rfl .nil))))))) ?_
  refine wc_condT rfl ?_
  refine wc_seq (wc_region (wl_move rfl rfl (wl_assign rfl rfl (wl_nil (qs_seq (wc_ret (qs_then_ret ?_)))))))
  refine fin1 (.inr rfl) rfl rfl ?_
  exact ⟨_, rfl, by first | rfl | simp, hS2.pick [0] rfl⟩
 have hfl : fewA l = true := by simpa using h3
 refine wl_guard rfl rfl h3 ?_
 refine wl_move rfl rfl ?_
 refine wl_guard rfl rfl h3 ?_
 have hC4 := hS2.split [] [false] rfl; dsimp only [selF, pickA, nthA, List.cons_append, List.nil_append] at hC4
 refine wl_call cal_19 rfl (pairs_sp hC4 (hFL.starL 0 rfl)) rfl ?_
 rintro e w4 ⟨_, rfl, rfl, hS4⟩; refine ⟨_, rfl, ?_⟩
 replace hS4 := hS4.join rfl; dsimp only [List.dropLast, List.cons_append, List.nil_append] at hS4; clear hC4
 clear hS2
 refine wl_guard rfl rfl h3 ?_
 refine wl_not rfl rfl ?_
 refine wl_pickF rfl h3 rfl rfl ?_
 refine wl_move rfl rfl ?_
 refine wl_split 45 rfl (fun h5 => ?_) (fun h5 => ?_)
 ·refine wl_unwanted rfl rfl h5 rfl ?_
  refine wl_unwanted rfl rfl h5 rfl ?_
  refine wl_unwanted rfl rfl h5 rfl ?_
  refine wl_pickT rfl h5 rfl rfl ?_
  refine wl_move rfl rfl ?_
  refine wl_unwanted rfl rfl rfl rfl ?_
  refine wl_unwanted rfl rfl rfl rfl ?_
  refine wl_unwanted rfl rfl rfl rfl ?_
  refine wl_pickT rfl rfl rfl rfl ?_
  refine wl_nil (qs_seq ?_)
  refine wc_sub (L' := [(54, _), (9, _), (8, _), (0, _), (1, _), (2, _), (3, _)]) (.cons rfl (.cons rfl (.cons rfl (.cons rfl (.cons rfl (.cons rfl (.cons rfl .nil))))))) ?_
  refine wc_condT rfl ?_
  refine wc_seq (wc_region (wl_move rfl rfl (wl_assign rfl rfl (wl_nil (qs_seq (wc_ret (qs_then_ret ?_)))))))
  refine fin1 (.inr rfl) rfl rfl ?_
  exact ⟨_, rfl, by first | rfl | simp, hS4.pick [0] rfl⟩
 have hfq : fewP fl = true := by simpa using h5
 refine wl_guard rfl rfl h5 ?_
 refine wl_move rfl rfl ?_
 refine wl_guard rfl rfl h5 ?_
 refine wl_lenS Tryz.underlying9 rfl rfl ?_
 refine wl_guard rfl rfl h5 ?_
 refine wl_gtr rfl rfl rfl ?_
 refine wl_pickF rfl h5 rfl rfl ?_
 refine wl_move rfl rfl ?_
 refine wl_splitD 50 rfl (fun h6 => ?_) (fun h6 => ?_)
 ·refine wl_unwanted rfl rfl (decide_eq_true h6) rfl ?_
  refine wl_unwanted rfl rfl (decide_eq_true h6) rfl ?_
  refine wl_unwanted rfl rfl (decide_eq_true h6) rfl ?_
  refine wl_pickT rfl (decide_eq_true h6) rfl rfl ?_
  refine wl_nil (qs_seq ?_)
  refine wc_sub (L' := [(54, _), (9, _), (8, _), (0, _), (1, _), (2, _), (3, _)]) (.cons rfl (.cons rfl (.cons rfl (.cons rfl (.cons rfl (.cons rfl (.cons rfl .nil))))))) ?_
  refine wc_condT rfl ?_
  refine wc_seq (wc_region (wl_move rfl rfl (wl_assign rfl rfl (wl_nil (qs_seq (wc_ret (qs_then_ret ?_)))))))
  refine fin1 (.inr rfl) rfl rfl ?_
  exact ⟨_, rfl, by first | rfl | simp, hS4.pick [0] rfl⟩
 have hcw : cwd.length ≤ 30 := by omega
 refine wl_guard rfl rfl (decide_eq_false h6) ?_
 refine wl_move rfl rfl ?_
 refine wl_guard rfl rfl (decide_eq_false h6) ?_
 refine wl_lenS Tryz.underlying9 rfl rfl ?_
 refine wl_guard rfl rfl (decide_eq_false h6) ?_
 refine wl_gtr rfl rfl rfl ?_
 refine wl_pickF rfl (decide_eq_false h6) rfl rfl ?_
 refine wl_nil (qs_seq ?_)
 refine wc_sub (L' := [(54, _), (9, _), (8, _), (0, _), (1, _), (2, _), (3, _)]) (.cons rfl (.cons rfl (.cons rfl (.cons rfl (.cons rfl (.cons rfl (.cons rfl .nil))))))) ?_
 refine wc_condD rfl (fun h7 => ?_) (fun h7 => ?_)
 ·refine wc_seq (wc_region (wl_move rfl rfl (wl_assign rfl rfl (wl_nil (qs_seq (wc_ret (qs_then_ret ?_)))))))
  refine fin1 (.inr rfl) rfl rfl ?_
  exact ⟨_, rfl, by first | rfl | simp, hS4.pick [0] rfl⟩
 simp only [fewA, Bool.and_eq_true, decide_eq_true_eq, List.all_eq_true] at hfl
 have hok : ∀ (i : Nat) (y : AcD), l[i]? = some y → OkA y := fun i y hy => okA_is (hfl.1 y (List.mem_of_getElem? hy))
 have hfp := fewP_is hfq
 have hpth : path.length ≤ 100 := by omega
 refine wc_skip (qs_seq (wc_seq (wc_region ?_)))
 have hC8 := hS4.split [] [false] rfl; dsimp only [selF, pickA, nthA, List.cons_append, List.nil_append] at hC8
 refine wl_call cal_20 rfl (new_sp hC8) rfl ?_
 rintro e w8 ⟨_, rfl, p, rfl, hS8⟩; refine ⟨_, rfl, ?_⟩
 replace hS8 := hS8.join rfl; dsimp only [List.dropLast, List.cons_append, List.nil_append] at hS8; clear hC8
 clear hS4
 refine wl_assign rfl rfl (wl_nil (qs_seq (wc_seq (wc_region ?_))))
 refine wl_buildS rfl pl_50_ asz_50 zr_50 rfl rfl ?_
 refine wl_box hS8 rfl rfl rfl ?_
 intro fb wf hSf
 have hSg : Sat wf [refP fb emptyW 0, worldT p emptyW, F] := refP_shut ⟨CellsR.empty, by simp⟩ (rfT_shut (((hSf.row_nil stC).row_nil stC).reorder [2, 0, 1, 3, 4] rfl))
 clear hS8
 refine wl_assign rfl rfl (wl_nil (qs_seq ?_))
 refine wc_sub (L' := [(11, _), (10, _), (9, _), (8, _), (0, _), (1, _), (2, _), (3, _)]) (.cons rfl (.cons rfl (.cons rfl (.cons rfl (.cons rfl (.cons rfl (.cons rfl (.cons rfl .nil)))))))) ?_
 refine wc_seq (wc_seq (wc_region (wl_move rfl rfl ?_)))
 refine wl_eqlNil Tryz.underlying25 rfl rfl rfl ?_
 refine wl_nil (qs_seq ?_)
 refine wc_condF rfl ?_
 refine wc_skip (qs_seq (wc_seq (wc_region (wl_move rfl rfl ?_))))
 refine wl_makeIface nif_25 rfl rfl ?_
 have hC9 := hSg.split [1] [false, true, false] rfl; dsimp only [selF, pickA, nthA, List.cons_append, List.nil_append] at hC9
 refine wl_call cal_21 rfl (init_sp hC9 (hG.starL 1 rfl)) rfl ?_
 rintro e w9 ⟨_, rfl, rfl, hS9⟩; refine ⟨_, rfl, ?_⟩
 replace hS9 := hS9.join rfl; dsimp only [List.dropLast, List.cons_append, List.nil_append] at hS9; clear hC9
 clear hSg
 refine wl_nil (qs_seq ?_)
 refine wc_sub (L' := [(11, _), (10, _), (9, _), (8, _), (0, _), (1, _), (2, _), (3, _)]) (.cons rfl (.cons rfl (.cons rfl (.cons rfl (.cons rfl (.cons rfl (.cons rfl (.cons rfl .nil)))))))) ?_
 refine wc_seq (wc_region (wl_move rfl rfl ?_))
 have hC10 := hS9.split [1] [false, true, false] rfl; dsimp only [selF, pickA, nthA, List.cons_append, List.nil_append] at hC10
 refine wl_call cal_22 rfl (rinit_sp hC10 (by omega)) rfl ?_
 rintro e w10 ⟨_, rfl, rfl, hS10⟩; refine ⟨_, rfl, ?_⟩
 replace hS10 := hS10.join rfl; dsimp only [List.dropLast, List.cons_append, List.nil_append] at hS10; clear hC10
 clear hS9
 refine wl_nil (qs_seq (wc_seq (wc_seq (wc_region (wl_assign rfl rfl (wl_nil (qs_seq (wc_block ?_))))))))
 refine wc_loop (fun K0 E0 W0 => ∃ (i : Nat) (W : WS), K0 = fl.length - i ∧ E0 = [(0, .slice fo fl.length fcap), (1, .slice ao l.length cap), (2, strV cwd), (3, strV path), (9, .bool true), (10, ptrV p 0), (11, ptrV fb 0), (12, intV (i : Int))] ∧ Sat W0 [worldT p W, refP fb W (2 + i), F] ∧ (i ≤ fl.length) ∧ (PI W (2 + i))) (L0 := [(0, _), (1, _), (2, _), (3, _), (9, _), (10, _), (11, _), (12, _)]) (fl.length - 0) (.cons rfl (.cons rfl (.cons rfl (.cons rfl (.cons rfl (.cons rfl (.cons rfl (.cons rfl .nil)))))))) ⟨0, _, rfl, rfl, hS10.pick [1, 0, 2] rfl, by omega, initW_pi⟩ ?_
 rintro _ _ w11 ⟨i, W, rfl, rfl, hS11, hi, hP⟩
 refine wc_seq (wc_seq (wc_region (wl_move rfl rfl (wl_move rfl rfl ?_))))
 refine wl_lenL Tryz.underlying45 rfl rfl ?_
 refine wl_lss rfl rfl rfl ?_
 refine wl_nil (qs_seq ?_)
 refine wc_sub (L' := [(69, _), (0, _), (1, _), (2, _), (3, _), (9, _), (10, _), (11, _), (12, _)]) (.cons rfl (.cons rfl (.cons rfl (.cons rfl (.cons rfl (.cons rfl (.cons rfl (.cons rfl (.cons rfl .nil))))))))) ?_
 refine wc_condD rfl (fun h12 => ?_) (fun h12 => ?_)
 ·obtain ⟨x, ha⟩ : ∃ x, fl[i]? = some x := ⟨_, List.getElem?_eq_getElem (by omega)⟩
  obtain ⟨b, off, rfl, hcx⟩ := (hFL.sat hS11 2 rfl).get ha
  have hil := (List.getElem?_eq_some_iff.1 ha).1
  have hxp := hfp.2 i x ha
  refine wc_skip (qs_seq (wc_seq (wc_block (wc_seq ?_))))
  have hS13 := hS11.drew
  refine wc_draw [0, 1, 2, 3, 4, 5, 6, 7, 8, 9, 10, 11] [11] mix (by kernel_rfl) ?_
  refine vc_p rfl rfl rfl (fun _ => (ev_move rfl)) ?_
  refine vc_p rfl rfl rfl (fun _ => (ev_move rfl)) ?_
  refine vc_p rfl rfl rfl (fun _ => (ev_move rfl)) ?_
  refine vc_p rfl rfl rfl (fun _ => (ev_indexAddr i rfl rfl (by first | rfl | omega) (by omega) es_45)) ?_
  refine vc_p rfl rfl rfl (fun _ => (ev_fieldAddr rfl fo_55_0)) ?_
  refine vc_q rfl rfl rfl (ev_load rfl ag_9 (rdl_at (C := pcC) (j := 0) (hFL.sat hS13 2 rfl) ha rfl)) ?_
  refine vc_p rfl rfl rfl (fun _ => (ev_move rfl)) ?_
  refine vc_p rfl rfl rfl (fun _ => (ev_move rfl)) ?_
  refine vc_p rfl rfl rfl (fun _ => (ev_indexAddr i rfl rfl (by first | rfl | omega) (by omega) es_45)) ?_
  refine vc_p rfl rfl rfl (fun _ => (ev_fieldAddr rfl fo_55_1)) ?_
  refine vc_q rfl rfl rfl (ev_load rfl ag_9 (rdl_at (C := pcC) (j := 1) (hFL.sat hS13 2 rfl) ha rfl)) ?_
  refine vc_s rfl rfl rfl rfl rfl rfl ?_
  have hC14 := hS13.split [0] [true, false, false] rfl; dsimp only [selF, pickA, nthA, List.cons_append, List.nil_append] at hC14
  refine wl_call cal_23 rfl (put_sp hC14 x.1 x.2 (by omega) (by omega)) rfl ?_
  rintro e w14 ⟨_, rfl, rfl, hS14⟩; refine ⟨_, rfl, ?_⟩
  replace hS14 := hS14.join rfl; dsimp only [List.dropLast, List.cons_append, List.nil_append] at hS14; clear hC14
  clear hS13
  refine vc_e (.skip (by kernel_rfl) (.skip (by kernel_rfl) .nil)) ?_
  refine VC.nil (qs_seq ?_)
  refine wc_sub (L' := [(0, _), (1, _), (2, _), (3, _), (9, _), (10, _), (11, _), (12, _)]) (.cons rfl (.cons rfl (.cons rfl (.cons rfl (.cons rfl (.cons rfl (.cons rfl (.cons rfl .nil)))))))) ?_
  have hS15 := hS14.drew
  refine wc_draw [0, 1, 2, 3, 4, 5, 6, 7, 8, 9, 10, 11] [11] mix (by kernel_rfl) ?_
  refine vc_p rfl rfl rfl (fun _ => (ev_move rfl)) ?_
  refine vc_p rfl rfl rfl (fun _ => (ev_move rfl)) ?_
  refine vc_p rfl rfl rfl (fun _ => (ev_move rfl)) ?_
  refine vc_p rfl rfl rfl (fun _ => (ev_indexAddr i rfl rfl (by first | rfl | omega) (by omega) es_45)) ?_
  refine vc_p rfl rfl rfl (fun _ => (ev_fieldAddr rfl fo_55_0)) ?_
  refine vc_q rfl rfl rfl (ev_load rfl ag_9 (rdl_at (C := pcC) (j := 0) (hFL.sat hS15 2 rfl) ha rfl)) ?_
  refine vc_p rfl rfl rfl (fun _ => (ev_move rfl)) ?_
  refine vc_p rfl rfl rfl (fun _ => (ev_move rfl)) ?_
  refine vc_p rfl rfl rfl (fun _ => (ev_indexAddr i rfl rfl (by first | rfl | omega) (by omega) es_45)) ?_
  refine vc_p rfl rfl rfl (fun _ => (ev_fieldAddr rfl fo_55_1)) ?_
  refine vc_q rfl rfl rfl (ev_load rfl ag_9 (rdl_at (C := pcC) (j := 1) (hFL.sat hS15 2 rfl) ha rfl)) ?_
  refine vc_s rfl rfl rfl rfl rfl rfl ?_
  have hC16 := hS15.split [1] [false, true, false] rfl; dsimp only [selF, pickA, nthA, List.cons_append, List.nil_append] at hC16
  refine wl_call cal_24 rfl (qPut hC16 (by omega) x.1 x.2) rfl ?_
  rintro e w16 ⟨_, rfl, rfl, hS16⟩; refine ⟨_, rfl, ?_⟩
  replace hS16 := hS16.join rfl; dsimp only [List.dropLast, List.cons_append, List.nil_append] at hS16; clear hC16
  clear hS15
  refine vc_e (.skip (by kernel_rfl) (.skip (by kernel_rfl) .nil)) ?_
  refine VC.nil (qs_block_normal (qs_seq ?_))
  refine wc_sub (L' := [(0, _), (1, _), (2, _), (3, _), (9, _), (10, _), (11, _), (12, _)]) (.cons rfl (.cons rfl (.cons rfl (.cons rfl (.cons rfl (.cons rfl (.cons rfl (.cons rfl .nil)))))))) ?_
  refine wc_region (wl_move rfl rfl ?_)
  refine wl_add rfl rfl (by first | omega | (simp; omega)) (by first | omega | (simp; omega)) rfl ?_
  refine wl_assign rfl rfl (wl_nil ?_)
  exact qs_round (L1 := [(0, _), (1, _), (2, _), (3, _), (9, _), (10, _), (11, _), (12, intV ((i + 1 : Nat) : Int))]) (.cons rfl (.cons rfl (.cons rfl (.cons rfl (.cons rfl (.cons rfl (.cons rfl (.cons rfl .nil)))))))) (k1 := fl.length - (i + 1)) (by omega) ⟨i + 1, _, rfl, rfl, hS16.pick [1, 0, 2] rfl, by omega, hP.put (by omega) (by omega)⟩
 refine wc_exit (qs_then_exit (qs_then_exit (qs_block_exit (qs_seq (wc_seq (wc_seq (wc_region (wl_assign rfl rfl (wl_nil (qs_seq (wc_block ?_)))))))))))
 refine wc_loop (fun K0 E0 W0 => ∃ (i : Nat) (W : WS), K0 = l.length - i ∧ E0 = [(1, .slice ao l.length cap), (2, strV cwd), (3, strV path), (9, .bool true), (10, ptrV p 0), (11, ptrV fb 0), (13, intV (i : Int))] ∧ Sat W0 [worldT p W, refP fb W (22 + 5 * i), F] ∧ (i ≤ l.length) ∧ (PI W (22 + 5 * i))) (L0 := [(1, _), (2, _), (3, _), (9, _), (10, _), (11, _), (13, _)]) (l.length - 0) (.cons rfl (.cons rfl (.cons rfl (.cons rfl (.cons rfl (.cons rfl (.cons rfl .nil))))))) ⟨0, _, rfl, rfl, ((refP_up (m := 22 + 5 * 0) (by omega) (hS11.pick [1, 0, 2] rfl)).reorder [1, 0, 2] rfl), by omega, hP.mono (by omega)⟩ ?_
 rintro _ _ w17 ⟨i, W, rfl, rfl, hS17, hi, hP⟩
 refine wc_seq (wc_seq (wc_region (wl_move rfl rfl (wl_move rfl rfl ?_))))
 refine wl_lenL Tryz.underlying22 rfl rfl ?_
 refine wl_lss rfl rfl rfl ?_
 refine wl_nil (qs_seq ?_)
 refine wc_sub (L' := [(99, _), (1, _), (2, _), (3, _), (9, _), (10, _), (11, _), (13, _)]) (.cons rfl (.cons rfl (.cons rfl (.cons rfl (.cons rfl (.cons rfl (.cons rfl (.cons rfl .nil)))))))) ?_
 refine wc_condD rfl (fun h18 => ?_) (fun h18 => ?_)
 ·obtain ⟨x, ha⟩ : ∃ x, l[i]? = some x := ⟨_, List.getElem?_eq_getElem (by omega)⟩
  obtain ⟨b, off, rfl, hcx⟩ := (hL.sat hS17 2 rfl).get ha
  have hil := (List.getElem?_eq_some_iff.1 ha).1
  have hxo := hok i x ha
  have hxn := hnb i x ha
  refine wc_skip (qs_seq (wc_seq (wc_block (wc_seq (wc_region (wl_move rfl rfl ?_))))))
  refine wl_makeIface nif_25 rfl rfl ?_
  refine wl_move rfl rfl (wl_move rfl rfl ?_)
  refine wl_indexAddr i rfl rfl (by first | rfl | omega) (by omega) es_22 rfl ?_
  refine wl_loadAt rfl ag_37 sz_37 (vs := acV x) ((hL.sat hS17 2 rfl).at_ ha) rfl ?_
  have hC19 := hS17.split [0] [true, false, false] rfl; dsimp only [selF, pickA, nthA, List.cons_append, List.nil_append] at hC19
  refine wl_call cal_15 rfl (do_sp hC19 (hG.starL 1 rfl) hP (by omega) hxo hxn) rfl ?_
  rintro e w19 ⟨_, rfl, rfl, hS19⟩; refine ⟨_, rfl, ?_⟩
  replace hS19 := hS19.join rfl; dsimp only [List.dropLast, List.cons_append, List.nil_append] at hS19; clear hC19
  clear hS17
  refine wl_move rfl rfl (wl_extract rfl rfl rfl (wl_extract rfl rfl rfl (wl_assign rfl rfl (wl_assign rfl rfl (wl_nil (qs_seq ?_))))))
  refine wc_sub (L' := [(15, _), (14, _), (1, _), (2, _), (3, _), (9, _), (10, _), (11, _), (13, _)]) (.cons rfl (.cons rfl (.cons rfl (.cons rfl (.cons rfl (.cons rfl (.cons rfl (.cons rfl (.cons rfl .nil))))))))) ?_
  refine wc_seq (wc_region (wl_move rfl rfl (wl_move rfl rfl (wl_move rfl rfl ?_))))
  refine wl_indexAddr i rfl rfl (by first | rfl | omega) (by omega) es_22 rfl ?_
  refine wl_loadAt rfl ag_37 sz_37 (vs := acV x) ((hL.sat hS19 2 rfl).at_ ha) rfl ?_
  have hC20 := hS19.split [1] [false, true, false] rfl; dsimp only [selF, pickA, nthA, List.cons_append, List.nil_append] at hC20
  refine wl_call cal_25 rfl (tell_sp hC20 (by omega) hP.tb hxo hxn) rfl ?_
  rintro e w20 ⟨_, rfl, rfl, hS20⟩; refine ⟨_, rfl, ?_⟩
  replace hS20 := hS20.join rfl; dsimp only [List.dropLast, List.cons_append, List.nil_append] at hS20; clear hC20
  clear hS19
  refine wl_move rfl rfl (wl_extract rfl rfl rfl (wl_extract rfl rfl rfl (wl_assign rfl rfl (wl_assign rfl rfl (wl_nil (qs_seq ?_))))))
  refine wc_sub (L' := [(17, _), (16, _), (15, _), (14, _), (1, _), (2, _), (3, _), (9, _), (10, _), (11, _), (13, _)]) (.cons rfl (.cons rfl (.cons rfl (.cons rfl (.cons rfl (.cons rfl (.cons rfl (.cons rfl (.cons rfl (.cons rfl (.cons rfl .nil))))))))))) ?_
  refine wc_seq (wc_region (wl_move rfl rfl (wl_move rfl rfl ?_)))
  refine wl_neqS rfl rfl rfl ?_
  refine wl_move rfl rfl ?_
  refine wl_splitD 124 rfl (fun h21 => ?_) (fun h21 => ?_)
  ·exact absurd rfl h21
  refine wl_guard rfl rfl (decide_eq_false h21) ?_
  refine wl_move rfl rfl ?_
  refine wl_guard rfl rfl (decide_eq_false h21) ?_
  refine wl_move rfl rfl ?_
  refine wl_guard rfl rfl (decide_eq_false h21) ?_
  refine wl_neq rfl rfl rfl ?_
  refine wl_pickF rfl (decide_eq_false h21) rfl rfl ?_
  refine wl_nil (qs_seq ?_)
  refine wc_sub (L' := [(128, _), (1, _), (2, _), (3, _), (9, _), (10, _), (11, _), (13, _)]) (.cons rfl (.cons rfl (.cons rfl (.cons rfl (.cons rfl (.cons rfl (.cons rfl (.cons rfl .nil)))))))) ?_
  refine wc_condD rfl (fun h22 => ?_) (fun h22 => ?_)
  ·exact absurd rfl h22
  refine wc_skip (qs_block_normal (qs_seq (wc_region (wl_move rfl rfl ?_))))
  refine wl_add rfl rfl (by first | omega | (simp; omega)) (by first | omega | (simp; omega)) rfl ?_
  refine wl_assign rfl rfl (wl_nil ?_)
  exact qs_round (L1 := [(1, _), (2, _), (3, _), (9, _), (10, _), (11, _), (13, intV ((i + 1 : Nat) : Int))]) (.cons rfl (.cons rfl (.cons rfl (.cons rfl (.cons rfl (.cons rfl (.cons rfl .nil))))))) (k1 := l.length - (i + 1)) (by omega) ⟨i + 1, _, rfl, rfl, ((refP_up (m := 22 + 5 * (i + 1)) (by omega) (hS20.pick [0, 1, 2] rfl)).reorder [1, 0, 2] rfl), by omega, (doW_pi hP hxo hxn).mono (by omega)⟩
 refine wc_exit (qs_then_exit (qs_then_exit (qs_block_exit (qs_seq (wc_seq (wc_region (wl_move rfl rfl ?_)))))))
 refine wl_makeIface nif_25 rfl rfl ?_
 refine wl_move rfl rfl (wl_move rfl rfl ?_)
 have hC23 := hS17.split [0] [true, false, false] rfl; dsimp only [selF, pickA, nthA, List.cons_append, List.nil_append] at hC23
 refine wl_call cal_11 rfl (resolve_sp hC23 (hG.starL 1 rfl) hP (by omega) cwd path (by omega) (by omega)) rfl ?_
 rintro e w23 ⟨_, rfl, rfl, hS23⟩; refine ⟨_, rfl, ?_⟩
 replace hS23 := hS23.join rfl; dsimp only [List.dropLast, List.cons_append, List.nil_append] at hS23; clear hC23
 clear hS17
 refine wl_move rfl rfl (wl_extract rfl rfl rfl (wl_extract rfl rfl rfl (wl_assign rfl rfl (wl_assign rfl rfl (wl_nil (qs_seq ?_))))))
 refine wc_sub (L' := [(19, _), (18, _), (2, _), (3, _), (9, _), (10, _), (11, _)]) (.cons rfl (.cons rfl (.cons rfl (.cons rfl (.cons rfl (.cons rfl (.cons rfl .nil))))))) ?_
 refine wc_seq (wc_region (wl_move rfl rfl (wl_move rfl rfl (wl_move rfl rfl ?_))))
 have hC24 := hS23.split [1] [false, true, false] rfl; dsimp only [selF, pickA, nthA, List.cons_append, List.nil_append] at hC24
 refine wl_call cal_26 rfl (rresolve_sp hC24 (by omega) hP cwd path (by omega) (by omega)) rfl ?_
 rintro e w24 ⟨_, rfl, rfl, hS24⟩; refine ⟨_, rfl, ?_⟩
 replace hS24 := hS24.join rfl; dsimp only [List.dropLast, List.cons_append, List.nil_append] at hS24; clear hC24
 clear hS23
 refine wl_move rfl rfl (wl_extract rfl rfl rfl (wl_extract rfl rfl rfl (wl_assign rfl rfl (wl_assign rfl rfl (wl_nil (qs_seq ?_))))))
 refine wc_sub (L' := [(21, _), (20, _), (19, _), (18, _), (2, _), (3, _), (9, _), (10, _), (11, _)]) (.cons rfl (.cons rfl (.cons rfl (.cons rfl (.cons rfl (.cons rfl (.cons rfl (.cons rfl (.cons rfl .nil))))))))) ?_
 refine wc_seq (wc_region (wl_move rfl rfl ?_))
 refine wl_makeIface nif_25 rfl rfl ?_
 refine wl_move rfl rfl (wl_move rfl rfl ?_)
 have hC25 := hS24.split [1] [false, true, false] rfl; dsimp only [selF, pickA, nthA, List.cons_append, List.nil_append] at hC25
 refine wl_call cal_12 rfl (parent_sp hC25 (hG.starL 1 rfl) hP (by omega) cwd path (by omega) (by omega)) rfl ?_
 rintro e w25 ⟨_, rfl, rfl, hS25⟩; refine ⟨_, rfl, ?_⟩
 replace hS25 := hS25.join rfl; dsimp only [List.dropLast, List.cons_append, List.nil_append] at hS25; clear hC25
 clear hS24
 refine wl_move rfl rfl (wl_extract rfl rfl rfl (wl_extract rfl rfl rfl (wl_extract rfl rfl rfl (wl_assign rfl rfl (wl_assign rfl rfl (wl_assign rfl rfl (wl_nil (qs_seq ?_))))))))
 refine wc_sub (L' := [(24, _), (23, _), (22, _), (21, _), (20, _), (19, _), (18, _), (2, _), (3, _), (9, _), (10, _), (11, _)]) (.cons rfl (.cons rfl (.cons rfl (.cons rfl (.cons rfl (.cons rfl (.cons rfl (.cons rfl (.cons rfl (.cons rfl (.cons rfl (.cons rfl .nil)))))))))))) ?_
 refine wc_seq (wc_region (wl_move rfl rfl (wl_move rfl rfl (wl_move rfl rfl ?_))))
 have hC26 := hS25.split [1] [false, true, false] rfl; dsimp only [selF, pickA, nthA, List.cons_append, List.nil_append] at hC26
 refine wl_call cal_27 rfl (rparent_sp hC26 (by omega) hP cwd path (by omega) (by omega)) rfl ?_
 rintro e w26 ⟨_, rfl, rfl, hS26⟩; refine ⟨_, rfl, ?_⟩
 replace hS26 := hS26.join rfl; dsimp only [List.dropLast, List.cons_append, List.nil_append] at hS26; clear hC26
 clear hS25
 refine wl_move rfl rfl (wl_extract rfl rfl rfl (wl_extract rfl rfl rfl (wl_extract rfl rfl rfl (wl_assign rfl rfl (wl_assign rfl rfl (wl_assign rfl rfl (wl_nil (qs_seq ?_))))))))
 refine wc_sub (L' := [(27, _), (26, _), (25, _), (24, _), (23, _), (22, _), (21, _), (20, _), (19, _), (18, _), (2, _), (3, _), (9, _), (10, _), (11, _)]) (.cons rfl (.cons rfl (.cons rfl (.cons rfl (.cons rfl (.cons rfl (.cons rfl (.cons rfl (.cons rfl (.cons rfl (.cons rfl (.cons rfl (.cons rfl (.cons rfl (.cons rfl .nil))))))))))))))) ?_
 refine wc_seq (wc_region (wl_move rfl rfl ?_))
 refine wl_makeIface nif_25 rfl rfl ?_
 refine wl_move rfl rfl ?_
 have hC27 := hS26.split [1] [false, true, false] rfl; dsimp only [selF, pickA, nthA, List.cons_append, List.nil_append] at hC27
 refine wl_call cal_28 rfl (list_sp hC27 (hG.starL 1 rfl) hP (by omega) cwd (by omega)) rfl ?_
 rintro e w27 ⟨_, rfl, sv1, L1, rfl, hl1, hS27⟩; refine ⟨_, rfl, ?_⟩
 replace hS27 := hS27.join rfl; dsimp only [List.dropLast, List.cons_append, List.nil_append] at hS27; clear hC27
 clear hS26
 refine wl_move rfl rfl (wl_extract rfl rfl rfl (wl_extract rfl rfl rfl (wl_assign rfl rfl (wl_assign rfl rfl (wl_nil (qs_seq ?_))))))
 refine wc_sub (L' := [(29, _), (28, _), (27, _), (26, _), (25, _), (24, _), (23, _), (22, _), (21, _), (20, _), (19, _), (18, _), (2, _), (3, _), (9, _), (10, _), (11, _)]) (.cons rfl (.cons rfl (.cons rfl (.cons rfl (.cons rfl (.cons rfl (.cons rfl (.cons rfl (.cons rfl (.cons rfl (.cons rfl (.cons rfl (.cons rfl (.cons rfl (.cons rfl (.cons rfl (.cons rfl .nil))))))))))))))))) ?_
 refine wc_seq (wc_region (wl_move rfl rfl (wl_move rfl rfl ?_)))
 have hC28 := hS27.split [2] [false, false, true, false] rfl; dsimp only [selF, pickA, nthA, List.cons_append, List.nil_append] at hC28
 refine wl_call cal_29 rfl (rlist_sp hC28 (by omega) hP.tb cwd (by omega) (keysOf_long hP cwd)) rfl ?_
 rintro e w28 ⟨_, rfl, sv2, L2, rfl, hl2, hS28⟩; refine ⟨_, rfl, ?_⟩
 replace hS28 := hS28.join rfl; dsimp only [List.dropLast, List.cons_append, List.nil_append] at hS28; clear hC28
 clear hS27
 obtain rfl := list_same hl1 hl2
 have hll : L2.length ≤ 1000 := list_few hP (by omega) hl1
 refine wl_move rfl rfl (wl_extract rfl rfl rfl (wl_extract rfl rfl rfl (wl_assign rfl rfl (wl_assign rfl rfl (wl_nil (qs_seq ?_))))))
 refine wc_sub (L' := [(31, _), (30, _), (29, _), (28, _), (27, _), (26, _), (25, _), (24, _), (23, _), (22, _), (21, _), (20, _), (19, _), (18, _), (2, _), (3, _), (9, _), (10, _), (11, _)]) (.cons rfl (.cons rfl (.cons rfl (.cons rfl (.cons rfl (.cons rfl (.cons rfl (.cons rfl (.cons rfl (.cons rfl (.cons rfl (.cons rfl (.cons rfl (.cons rfl (.cons rfl (.cons rfl (.cons rfl (.cons rfl (.cons rfl .nil))))))))))))))))))) ?_
 refine wc_seq (wc_region (wl_move rfl rfl ?_))
 refine wl_makeIface nif_25 rfl rfl ?_
 refine wl_move rfl rfl ?_
 have hC29 := hS28.split [3] [false, false, false, true, false] rfl; dsimp only [selF, pickA, nthA, List.cons_append, List.nil_append] at hC29
 refine wl_call cal_30 rfl (inode_sp hC29 (hG.starL 3 rfl) cwd (by omega) (hP.tb _)) rfl ?_
 rintro e w29 ⟨_, rfl, rfl, hS29⟩; refine ⟨_, rfl, ?_⟩
 replace hS29 := hS29.join rfl; dsimp only [List.dropLast, List.cons_append, List.nil_append] at hS29; clear hC29
 clear hS28
 refine wl_move rfl rfl (wl_extract rfl rfl rfl (wl_extract rfl rfl rfl ?_))
 refine wl_alloc hS29 zr_35 rfl rfl ?_
 intro b30 w30 hS30
 clear hS29
 first | (refine wl_storeA hS30 rfl rfl sz_35 rfl (by first | rfl | (simp [allOne, Value.oneCell']; done) | assumption | exact hone) (i := 0) rfl (by first | decide | exact Nat.le_of_ble_eq_true rfl | (simp; done) | omega) ?_)
 intro w31 hS32; dsimp only [List.set] at hS32
 clear hS30
 refine wl_assign rfl rfl (wl_nil (qs_seq ?_))
 refine wc_sub (L' := [(33, _), (32, _), (31, _), (30, _), (29, _), (28, _), (27, _), (26, _), (25, _), (24, _), (23, _), (22, _), (21, _), (20, _), (19, _), (18, _), (2, _), (3, _), (9, _), (10, _), (11, _)]) (.cons rfl (.cons rfl (.cons rfl (.cons rfl (.cons rfl (.cons rfl (.cons rfl (.cons rfl (.cons rfl (.cons rfl (.cons rfl (.cons rfl (.cons rfl (.cons rfl (.cons rfl (.cons rfl (.cons rfl (.cons rfl (.cons rfl (.cons rfl (.cons rfl .nil))))))))))))))))))))) ?_
 refine wc_seq (wc_region (wl_move rfl rfl (wl_move rfl rfl ?_)))
 have hC33 := hS32.split [3] [false, false, false, true, false, false] rfl; dsimp only [selF, pickA, nthA, List.cons_append, List.nil_append] at hC33
 refine wl_call cal_31 rfl (rino_sp hC33 (by omega) cwd (by omega) (hP.tb _)) rfl ?_
 rintro e w33 ⟨_, rfl, rfl, hS33⟩; refine ⟨_, rfl, ?_⟩
 replace hS33 := hS33.join rfl; dsimp only [List.dropLast, List.cons_append, List.nil_append] at hS33; clear hC33
 clear hS32
 refine wl_move rfl rfl (wl_extract rfl rfl rfl (wl_extract rfl rfl rfl ?_))
 refine wl_alloc hS33 zr_35 rfl rfl ?_
 intro b34 w34 hS34
 clear hS33
 first | (refine wl_storeA hS34 rfl rfl sz_35 rfl (by first | rfl | (simp [allOne, Value.oneCell']; done) | assumption | exact hone) (i := 0) rfl (by first | decide | exact Nat.le_of_ble_eq_true rfl | (simp; done) | omega) ?_) | (refine wl_storeA hS34 rfl rfl sz_35 rfl (by first | rfl | (simp [allOne, Value.oneCell']; done) | assumption | exact hone) (i := 2) rfl (by first | decide | exact Nat.le_of_ble_eq_true rfl | (simp; done) | omega) ?_)
 intro w35 hS36; dsimp only [List.set] at hS36
 clear hS34
 refine wl_assign rfl rfl (wl_nil (qs_seq ?_))
 refine wc_sub (L' := [(35, _), (34, _), (33, _), (32, _), (31, _), (30, _), (29, _), (28, _), (27, _), (26, _), (25, _), (24, _), (23, _), (22, _), (21, _), (20, _), (19, _), (18, _), (2, _), (3, _), (9, _), (10, _), (11, _)]) (.cons rfl (.cons rfl (.cons rfl (.cons rfl (.cons rfl (.cons rfl (.cons rfl (.cons rfl (.cons rfl (.cons rfl (.cons rfl (.cons rfl (.cons rfl (.cons rfl (.cons rfl (.cons rfl (.cons rfl (.cons rfl (.cons rfl (.cons rfl (.cons rfl (.cons rfl (.cons rfl .nil))))))))))))))))))))))) ?_
 refine wc_seq (wc_seq (wc_region (wl_move rfl rfl (wl_move rfl rfl ?_))))
 refine wl_neqS rfl rfl rfl ?_
 refine wl_move rfl rfl ?_
 refine wl_splitD 190 rfl (fun h37 => ?_) (fun h37 => ?_)
 ·exact absurd rfl h37
 refine wl_guard rfl rfl (decide_eq_false h37) ?_
 refine wl_move rfl rfl ?_
 refine wl_guard rfl rfl (decide_eq_false h37) ?_
 refine wl_move rfl rfl ?_
 refine wl_guard rfl rfl (decide_eq_false h37) ?_
 refine wl_neq rfl rfl rfl ?_
 refine wl_pickF rfl (decide_eq_false h37) rfl rfl ?_
 refine wl_move rfl rfl ?_
 refine wl_splitD 195 rfl (fun h38 => ?_) (fun h38 => ?_)
 ·exact absurd rfl h38
 refine wl_guard rfl rfl (decide_eq_false h38) ?_
 refine wl_move rfl rfl ?_
 refine wl_guard rfl rfl (decide_eq_false h38) ?_
 refine wl_move rfl rfl ?_
 refine wl_guard rfl rfl (decide_eq_false h38) ?_
 refine wl_neqS rfl rfl rfl ?_
 refine wl_pickF rfl (decide_eq_false h38) rfl rfl ?_
 refine wl_move rfl rfl ?_
 refine wl_splitD 200 rfl (fun h39 => ?_) (fun h39 => ?_)
 ·exact absurd rfl h39
 refine wl_guard rfl rfl (decide_eq_false h39) ?_
 refine wl_move rfl rfl ?_
 refine wl_guard rfl rfl (decide_eq_false h39) ?_
 refine wl_move rfl rfl ?_
 refine wl_guard rfl rfl (decide_eq_false h39) ?_
 refine wl_neqS rfl rfl rfl ?_
 refine wl_pickF rfl (decide_eq_false h39) rfl rfl ?_
 refine wl_move rfl rfl ?_
 refine wl_splitD 205 rfl (fun h40 => ?_) (fun h40 => ?_)
 ·exact absurd rfl h40
 refine wl_guard rfl rfl (decide_eq_false h40) ?_
 refine wl_move rfl rfl ?_
 refine wl_guard rfl rfl (decide_eq_false h40) ?_
 refine wl_move rfl rfl ?_
 refine wl_guard rfl rfl (decide_eq_false h40) ?_
 refine wl_neq rfl rfl rfl ?_
 refine wl_pickF rfl (decide_eq_false h40) rfl rfl ?_
 refine wl_move rfl rfl ?_
 refine wl_splitD 210 rfl (fun h41 => ?_) (fun h41 => ?_)
 ·exact absurd rfl h41
 refine wl_guard rfl rfl (decide_eq_false h41) ?_
 refine wl_move rfl rfl ?_
 refine wl_guard rfl rfl (decide_eq_false h41) ?_
 refine wl_move rfl rfl ?_
 refine wl_guard rfl rfl (decide_eq_false h41) ?_
 refine wl_neq rfl rfl rfl ?_
 refine wl_pickF rfl (decide_eq_false h41) rfl rfl ?_
 refine wl_move rfl rfl ?_
 refine wl_splitD 215 rfl (fun h42 => ?_) (fun h42 => ?_)
 ·exact absurd rfl h42
 refine wl_guard rfl rfl (decide_eq_false h42) ?_
 refine wl_move rfl rfl ?_
 refine wl_guard rfl rfl (decide_eq_false h42) ?_
 refine wl_move rfl rfl ?_
 refine wl_guard rfl rfl (decide_eq_false h42) ?_
 have hC43 := hS36.split [] [false, false, false, false, false, false, false] rfl; dsimp only [selF, pickA, nthA, List.cons_append, List.nil_append] at hC43
 refine wl_call cal_32 rfl (same_sp hC43 (Ent.starL (ent_row (C := stC) (by omega)) 5 rfl) (Ent.starL (ent_row (C := stC) (by omega)) 4 rfl)) rfl ?_
 rintro e w43 ⟨_, rfl, rfl, hS43⟩; refine ⟨_, rfl, ?_⟩
 replace hS43 := hS43.join rfl; dsimp only [List.dropLast, List.cons_append, List.nil_append] at hS43; clear hC43
 clear hS36
 refine wl_guard rfl rfl (decide_eq_false h42) ?_
 refine wl_not rfl rfl ?_
 refine wl_pickF rfl (decide_eq_false h42) rfl rfl ?_
 refine wl_move rfl rfl ?_
 refine wl_split 221 rfl (fun h44 => ?_) (fun h44 => ?_)
 ·simp at h44
 refine wl_guard rfl rfl h44 ?_
 refine wl_loadA rfl ag_35 sz_35 (by first | exact hS43.blk 0 rfl | exact hS43.blk 2 rfl) (by first | decide | exact Nat.le_of_ble_eq_true rfl | (simp; done) | omega) rfl rfl ?_
 refine wl_guard rfl rfl h44 ?_
 refine wl_loadA rfl ag_35 sz_35 (by first | exact hS43.blk 0 rfl | exact hS43.blk 2 rfl) (by first | decide | exact Nat.le_of_ble_eq_true rfl | (simp; done) | omega) rfl rfl ?_
 refine wl_guard rfl rfl h44 ?_
 refine wl_val rfl (ev_neqAgg (eqInd_self _) (by kernel_rfl) rfl rfl) ?_
 refine wl_pickF rfl h44 rfl rfl ?_
 refine wl_move rfl rfl ?_
 refine wl_guard rfl rfl rfl ?_
 refine wl_move rfl rfl ?_
 refine wl_guard rfl rfl rfl ?_
 refine wl_move rfl rfl ?_
 refine wl_guard rfl rfl rfl ?_
 refine wl_neqB Tryz.underlying4 rfl rfl rfl ?_
 refine wl_pickF rfl rfl rfl rfl ?_
 refine wl_nil (qs_seq ?_)
 refine wc_sub (L' := [(230, _), (2, _), (3, _), (9, _), (10, _), (11, _)]) (.cons rfl (.cons rfl (.cons rfl (.cons rfl (.cons rfl (.cons rfl .nil)))))) ?_
 refine wc_cond rfl (fun h45 => ?_) (fun h45 => ?_)
 ·simp at h45
 refine wc_skip (qs_seq (wc_seq (wc_region (wl_move rfl rfl (wl_move rfl rfl ?_)))))
 refine wl_guard rfl rfl rfl ?_
 refine wl_move rfl rfl ?_
 refine wl_guard rfl rfl rfl ?_
 refine wl_move rfl rfl ?_
 refine wl_guard rfl rfl rfl ?_
 have hC46 := hS43.split [3, 1] [false, true, false, true, false, false, false] rfl; dsimp only [selF, pickA, nthA, List.cons_append, List.nil_append] at hC46
 refine wl_call cal_33 rfl (cells_sp hC46 (by omega) hP (by omega)) rfl ?_
 rintro e w46 ⟨_, rfl, rfl, hS46⟩; refine ⟨_, rfl, ?_⟩
 replace hS46 := hS46.join rfl; dsimp only [List.dropLast, List.cons_append, List.nil_append] at hS46; clear hC46
 clear hS43
 refine wl_pickT rfl rfl rfl rfl ?_
 refine wl_move rfl rfl ?_
 refine wl_guard rfl rfl rfl ?_
 refine wl_move rfl rfl ?_
 refine wl_guard rfl rfl rfl ?_
 refine wl_makeIface nif_25 rfl rfl ?_
 refine wl_guard rfl rfl rfl ?_
 have hC47 := hS46.split [0] [true, false, false, false, false, false, false] rfl; dsimp only [selF, pickA, nthA, List.cons_append, List.nil_append] at hC47
 refine wl_call cal_34 rfl (inodes_sp hC47 hP (by omega)) rfl ?_
 rintro e w47 ⟨_, rfl, rfl, hS47⟩; refine ⟨_, rfl, ?_⟩
 replace hS47 := hS47.join rfl; dsimp only [List.dropLast, List.cons_append, List.nil_append] at hS47; clear hC47
 clear hS46
 refine wl_guard rfl rfl rfl ?_
 refine wl_move rfl rfl ?_
 refine wl_guard rfl rfl rfl ?_
 have hC48 := hS47.split [1] [false, true, false, false, false, false, false] rfl; dsimp only [selF, pickA, nthA, List.cons_append, List.nil_append] at hC48
 refine wl_call cal_35 rfl (rinodes_sp hC48 (by omega)) rfl ?_
 rintro e w48 ⟨_, rfl, rfl, hS48⟩; refine ⟨_, rfl, ?_⟩
 replace hS48 := hS48.join rfl; dsimp only [List.dropLast, List.cons_append, List.nil_append] at hS48; clear hC48
 clear hS47
 refine wl_guard rfl rfl rfl ?_
 refine wl_eql rfl rfl rfl ?_
 refine wl_pickT rfl rfl rfl rfl ?_
 refine wl_move rfl rfl ?_
 refine wl_splitD 245 rfl (fun h49 => ?_) (fun h49 => ?_)
 ·refine wl_guard rfl rfl (decide_eq_true h49) ?_
  refine wl_move rfl rfl ?_
  refine wl_guard rfl rfl (decide_eq_true h49) ?_
  refine wl_makeIface nif_25 rfl rfl ?_
  refine wl_guard rfl rfl (decide_eq_true h49) ?_
  refine wl_move rfl rfl ?_
  refine wl_guard rfl rfl (decide_eq_true h49) ?_
  have hC50 := hS48.split [1] [false, true, false, false, false, false, false] rfl; dsimp only [selF, pickA, nthA, List.cons_append, List.nil_append] at hC50
  refine wl_call cal_36 rfl (depth_sp hC50 hP cwd (by omega)) rfl ?_
  rintro e w50 ⟨_, rfl, rfl, hS50⟩; refine ⟨_, rfl, ?_⟩
  replace hS50 := hS50.join rfl; dsimp only [List.dropLast, List.cons_append, List.nil_append] at hS50; clear hC50
  clear hS48
  refine wl_guard rfl rfl (decide_eq_true h49) ?_
  refine wl_move rfl rfl ?_
  refine wl_guard rfl rfl (decide_eq_true h49) ?_
  refine wl_move rfl rfl ?_
  refine wl_guard rfl rfl (decide_eq_true h49) ?_
  have hC51 := hS50.split [1] [false, true, false, false, false, false, false] rfl; dsimp only [selF, pickA, nthA, List.cons_append, List.nil_append] at hC51
  refine wl_call cal_37 rfl (rdepth_sp hC51 (by omega) hP.tb cwd (by omega)) rfl ?_
  rintro e w51 ⟨_, rfl, rfl, hS51⟩; refine ⟨_, rfl, ?_⟩
  replace hS51 := hS51.join rfl; dsimp only [List.dropLast, List.cons_append, List.nil_append] at hS51; clear hC51
  clear hS50
  refine wl_guard rfl rfl (decide_eq_true h49) ?_
  refine wl_eql rfl rfl rfl ?_
  refine wl_pickT rfl (decide_eq_true h49) rfl rfl ?_
  refine wl_move rfl rfl ?_
  refine wl_splitD 255 rfl (fun h52 => ?_) (fun h52 => ?_)
  ·refine wl_guard rfl rfl (decide_eq_true h52) ?_
   refine wl_move rfl rfl ?_
   refine wl_guard rfl rfl (decide_eq_true h52) ?_
   have hC53 := hS51.split [] [false, false, false, false, false, false, false] rfl; dsimp only [selF, pickA, nthA, List.cons_append, List.nil_append] at hC53
   refine wl_call cal_13 rfl (name_sp hC53 path (by omega)) rfl ?_
   rintro e w53 ⟨_, rfl, rfl, hS53⟩; refine ⟨_, rfl, ?_⟩
   replace hS53 := hS53.join rfl; dsimp only [List.dropLast, List.cons_append, List.nil_append] at hS53; clear hC53
   clear hS51
   refine wl_guard rfl rfl (decide_eq_true h52) ?_
   refine wl_move rfl rfl ?_
   refine wl_guard rfl rfl (decide_eq_true h52) ?_
   have hC54 := hS53.split [] [false, false, false, false, false, false, false] rfl; dsimp only [selF, pickA, nthA, List.cons_append, List.nil_append] at hC54
   refine wl_call cal_38 rfl (rname_sp hC54 path (by omega)) rfl ?_
   rintro e w54 ⟨_, rfl, rfl, hS54⟩; refine ⟨_, rfl, ?_⟩
   replace hS54 := hS54.join rfl; dsimp only [List.dropLast, List.cons_append, List.nil_append] at hS54; clear hC54
   clear hS53
   refine wl_guard rfl rfl (decide_eq_true h52) ?_
   refine wl_eqlB Tryz.underlying4 rfl rfl rfl ?_
   refine wl_pickT rfl (decide_eq_true h52) rfl rfl ?_
   refine wl_assign rfl rfl (wl_nil (qs_seq ?_))
   refine wc_sub (L' := [(8, _)]) (.cons rfl .nil) ?_
   refine wc_ret ?_
   refine fin1 (.inr rfl) rfl rfl ?_
   exact ⟨_, rfl, by first | rfl | simp, hS54.pick [6] rfl⟩
  exact absurd rfl h52
 exact absurd rfl h49
end Go.Proofs.YtkaikhcpcbjkcaaGreatDoor
/- How the arguments of a law read: a relation between cells and plain data for each type, built by shape; and the step from a law's contract to its row. -/
namespace Go.Proofs.YtkaikhcpcbjkcaaGreatDoor.M
open Go.ChangeShapes Go.WideShapes Go.ChangeAt Go.RowKit Go.Deep
/-- the cells cs lie at ⟨b, off⟩ -/
def At (w : World) (b off : Nat) (cs : List Value) : Prop := ∀ j v, cs[j]? = some v → w.cell? ⟨b, off + j, none⟩ = some v
theorem At.cell {w : World} {b off : Nat} {cs : List Value} (h : At w b off cs) (j : Nat) {v : Value} (hv : cs[j]? = some v) : w.cell? ⟨b, off + j, none⟩ = some v := h j v hv
theorem At.below {B : Nat} {w w' : World} {b off : Nat} {cs : List Value} (h : At w b off cs) (hb : Below B w w') (hB : b < B) : At w' b off cs :=
  fun j v hv => (hb.cell (p := ⟨b, off + j, none⟩) hB).trans (h j v hv)
/-- a type, read as α -/
structure Cod (P : Program) (t : TypeId) (α : Type) where
  rd : World → List Value → α → Prop
  size : Nat
  cells : P.cellsOf t = size
  down : ∀ {H : Type} {enc : TypeId × Value → H} {w : World} {base : Nat} {spare : Nat → Bool} {held : Bool} {fuel : Nat} {cs : List Value} {x : DataW H × List MemPlace},
    DataW.trod enc P w base spare held fuel t cs = some x → ∃ a, rd w cs a
  len : ∀ {w cs a}, rd w cs a → cs.length = size
  keep : ∀ {w w' cs a}, Below w.heap.size w w' → rd w cs a → rd w' cs a
section
variable {P : Program}
def Cod.int {t : TypeId} (k : IntKind) (ht : P.underlying t = some (.int k)) (hc : P.cellsOf t = 1) : Cod P t Int where
  rd := fun _ cs n => cs = [.int k n] ∧ (Lit.int k n).wf = true
  size := 1
  cells := hc
  down := fun h => by
    obtain ⟨n, h1, _, h2⟩ := DataW.trod_int ht h
    exact ⟨n, h1, h2⟩
  len := fun h => by rw [h.1]; rfl
  keep := fun _ h => h
def Cod.byte {t : TypeId} (ht : P.underlying t = some (.int .u8)) (hc : P.cellsOf t = 1) : Cod P t UInt8 where
  rd := fun _ cs n => cs = [.int .u8 (n.toNat : Int)]
  size := 1
  cells := hc
  down := fun h => by
    obtain ⟨n, h1, _, h2⟩ := DataW.trod_int ht h
    have hb := bounds_u8 h2
    refine ⟨UInt8.ofNat n.toNat, ?_⟩
    have e : ((UInt8.ofNat n.toNat).toNat : Int) = n := by simp; omega
    rw [e]; exact h1
  len := fun h => by rw [h]; rfl
  keep := fun _ h => h
def Cod.bool {t : TypeId} (ht : P.underlying t = some .bool) (hc : P.cellsOf t = 1) : Cod P t Bool where
  rd := fun _ cs n => cs = [.bool n]
  size := 1
  cells := hc
  down := fun h => by
    obtain ⟨n, h1, _⟩ := DataW.trod_bool ht h
    exact ⟨n, h1⟩
  len := fun h => by rw [h]; rfl
  keep := fun _ h => h
def Cod.string {t : TypeId} (ht : P.underlying t = some .string) (hc : P.cellsOf t = 1) : Cod P t ByteArray where
  rd := fun _ cs s => cs = [.string s] ∧ s.size ≤ 9223372036854775807
  size := 1
  cells := hc
  down := fun h => by
    obtain ⟨n, h1, _, h2⟩ := DataW.trod_string ht h
    exact ⟨n, h1, h2⟩
  len := fun h => by rw [h.1]; rfl
  keep := fun _ h => h
/-- a slice's value v reads as l: each element's cells lie in its place -/
def SliceRd {α : Type} (rd : World → List Value → α → Prop) (size : Nat) (w : World) (v : Value) (l : List α) : Prop :=
  ∃ ao cap, v = .slice ao l.length cap ∧ l.length ≤ cap ∧ cap ≤ 9223372036854775807 ∧ ∀ (i : Nat) (a : α), l[i]? = some a → ∃ b off cs, ao = some ⟨b, off, none⟩ ∧ b < w.heap.size ∧ At w b (off + i * size) cs ∧ rd w cs a
def Cod.slice {t e : TypeId} {α : Type} [Inhabited α] (ht : P.underlying t = some (.slice e)) (hc : P.cellsOf t = 1) (c : Cod P e α) (hpos : 0 < c.size) : Cod P t (List α) where
  rd := fun w cs l => ∃ v, cs = [v] ∧ SliceRd c.rd c.size w v l
  size := 1
  cells := hc
  down := fun {H enc w base spare held fuel cs x} h => by
    rcases open_slice ht h with ⟨rfl, _⟩ | ⟨a, len, cap, m, n, D, Pl, rfl, hb, hl, hm, hmm, _, hx⟩
    · exact ⟨[], _, rfl, none, 0, rfl, Nat.le_refl _, by omega, fun i a hi => by simp at hi⟩
    · have hlm : len ≤ m := by rw [hmm]; split <;> omega
      have hex : ∀ i, i < len → ∃ y : α, ∃ cs', c.rd w cs' y ∧ (∀ j v, cs'[j]? = some v → w.cell? (a.add (i * c.size + j)) = some v) := by
        intro i hi
        obtain ⟨cs', h1, h2⟩ := hx i (by omega)
        obtain ⟨y, hy⟩ := c.down h2
        obtain ⟨_, hlen, hat⟩ := World.cells?_some h1
        refine ⟨y, cs', hy, fun j v hv => ?_⟩
        have hj : j < cs'.length := (List.getElem?_eq_some_iff.1 hv).1
        rw [c.cells] at hlen hat
        rw [← Go.Deep.add_add, hat j (by omega), hv]
      obtain ⟨f, hf⟩ := choose_lt hex
      refine ⟨(List.range len).map f, _, rfl, some a, cap, by simp, by simpa using hl, hm, fun i y hi => ?_⟩
      have hil : i < len := by have := (List.getElem?_eq_some_iff.1 hi).1; simpa using this
      simp [hil] at hi
      subst hi
      obtain ⟨cs', hrd, hat⟩ := hf i hil
      have hcl := c.len hrd
      obtain ⟨b, off, spot⟩ := a
      have h0 := hat 0 cs'[0] (List.getElem?_eq_getElem (by omega))
      have hspot : spot = none := by
        have := World.cell?_spot h0
        unfold Addr.add at this
        split at this
        · exact this
        · obtain ⟨i0, hi0⟩ : ∃ i0, i0 < len ∧ i0 = 0 := ⟨0, by omega, rfl⟩
          obtain ⟨hi1, rfl⟩ := hi0
          obtain ⟨cs0, hrd0, hat0⟩ := hf 0 hi1
          have hcl0 := c.len hrd0
          have h00 := hat0 0 cs0[0] (List.getElem?_eq_getElem (by omega))
          have := World.cell?_spot h00
          simpa [Addr.add] using this
      subst hspot
      refine ⟨b, off, cs', rfl, ?_, fun j v hv => ?_, hrd⟩
      · have := block_lt_of_cell h0
        rw [addr_add] at this
        exact this
      · have := hat j v hv
        rw [addr_add] at this
        rw [Nat.add_assoc]; exact this
  len := fun ⟨v, h, _⟩ => by rw [h]; rfl
  keep := fun {w w' cs l} hb ⟨v, h1, ao, cap, h2, h3, h4, h5⟩ => ⟨v, h1, ao, cap, h2, h3, h4, fun i a hi => by
    obtain ⟨b, off, cs', e1, e2, e3, e4⟩ := h5 i a hi
    exact ⟨b, off, cs', e1, Nat.lt_of_lt_of_le e2 hb.size, e3.below hb e2, c.keep hb e4⟩⟩
/-- fields one behind the other -/
structure Flds (P : Program) (fs : List Field) (off : Nat) (α : Type) where
  rd : World → List Value → α → Prop
  size : Nat
  down : ∀ {H : Type} {enc : TypeId × Value → H} {w : World} {base : Nat} {spare : Nat → Bool} {held : Bool} {n : Nat} {cs : List Value} {xs : List (DataW H × List MemPlace)},
    (∀ (i : Nat) (f : Field), fs[i]? = some f → ∃ x, DataW.trod enc P w base spare held n f.type ((cs.drop f.offset).take (P.cellsOf f.type)) = some x) → ∃ a, rd w ((cs.drop off).take size) a
  len : ∀ {w cs a}, rd w cs a → cs.length = size
  keep : ∀ {w w' cs a}, Below w.heap.size w w' → rd w cs a → rd w' cs a
def Flds.nil (off : Nat) : Flds P [] off Unit where
  rd := fun _ cs _ => cs = []
  size := 0
  down := fun _ => ⟨(), by simp⟩
  len := fun h => by rw [h]; rfl
  keep := fun _ h => h
def Flds.cons {f : Field} {fs : List Field} {off : Nat} {α β : Type} (c : Cod P f.type α) (ho : f.offset = off) (r : Flds P fs (off + c.size) β) : Flds P (f :: fs) off (α × β) where
  rd := fun w cs a => ∃ cs1 cs2, cs = cs1 ++ cs2 ∧ c.rd w cs1 a.1 ∧ r.rd w cs2 a.2
  size := c.size + r.size
  down := fun {H enc w base spare held n cs xs} h => by
    obtain ⟨x, hx⟩ := h 0 f rfl
    rw [ho, c.cells] at hx
    obtain ⟨a, ha⟩ := c.down hx
    obtain ⟨b, hb⟩ := r.down (xs := xs) (fun i g hg => h (i + 1) g (by simpa using hg))
    refine ⟨(a, b), _, _, ?_, ha, hb⟩
    rw [← List.drop_drop]
    exact List.take_add ..
  len := fun ⟨cs1, cs2, h, h1, h2⟩ => by rw [h, List.length_append, c.len h1, r.len h2]
  keep := fun hb ⟨cs1, cs2, h, h1, h2⟩ => ⟨cs1, cs2, h, c.keep hb h1, r.keep hb h2⟩
def Cod.struct {t : TypeId} {fs : List Field} {α : Type} (ht : P.underlying t = some (.struct fs.toArray)) (r : Flds P fs 0 α) (hc : P.cellsOf t = r.size) : Cod P t α where
  rd := r.rd
  size := r.size
  cells := hc
  down := fun {H enc w base spare held fuel cs x} h => by
    obtain ⟨xs, n, _, _, hl, hxl, hf⟩ := DataW.trod_struct ht h
    obtain ⟨a, ha⟩ := r.down (xs := xs) (n := n) (enc := enc) (w := w) (base := base) (spare := spare) (held := held) (cs := cs) (fun i f hi => by
      have h1 := hf i f (by simpa using hi)
      have hil := (List.getElem?_eq_some_iff.1 hi).1
      rw [h1, List.getElem?_eq_getElem (by rw [hxl]; simpa using hil)]
      exact ⟨_, rfl⟩)
    refine ⟨a, ?_⟩
    rw [List.drop_zero, List.take_of_length_le (by omega)] at ha
    exact ha
  len := r.len
  keep := r.keep
/-- as another type -/
def Cod.map {t : TypeId} {α β : Type} (c : Cod P t α) (f : α → β) : Cod P t β where
  rd := fun w cs b => ∃ a, b = f a ∧ c.rd w cs a
  size := c.size
  cells := c.cells
  down := fun h => by obtain ⟨a, ha⟩ := c.down h; exact ⟨f a, a, rfl, ha⟩
  len := fun ⟨a, _, h⟩ => c.len h
  keep := fun hb ⟨a, e, h⟩ => ⟨a, e, c.keep hb h⟩
/-- the arguments are all read again behind a call that has changed nothing that was there -/
theorem trodAll_stays {H : Type} {enc : TypeId × Value → H} (hl : laidOutB P = true) {W W' : World} (hb : Below W.heap.size W W') :
    ∀ (ts : List TypeId) (vs : List Value) (ds : List (DataW H)) (ps : List MemPlace), (∀ t ∈ ts, P.readableRec t = true ∧ t < P.types.size) →
      DataW.TrodAll enc P W 0 (fun _ => true) true ts vs ds ps → DataW.TrodAll enc P W' 0 (fun b => decide (b < W.heap.size)) true ts vs ds ps
  | [], vs, ds, ps, _, h => by
    obtain ⟨rfl, rfl, rfl⟩ := trodAll_nil h
    exact rfl
  | t :: ts, vs, ds, ps, hr, h => by
    obtain ⟨v, vs', d, ds', p, q, rfl, rfl, rfl, h0, h1⟩ := trodAll_cons h
    have lt0 : ∀ x ∈ p, x.block < W.heap.size := by obtain ⟨m, hm⟩ := h0; exact DataW.trod_lt m _ _ _ hm
    obtain ⟨r1, r2⟩ := hr t (by simp)
    exact trodAll_cons_mk (Below.trod hl r1 r2 h0 hb lt0) (trodAll_stays hl hb ts vs' ds' q (fun t ht => hr t (by simp [ht])) h1)
end
end Go.Proofs.YtkaikhcpcbjkcaaGreatDoor.M
