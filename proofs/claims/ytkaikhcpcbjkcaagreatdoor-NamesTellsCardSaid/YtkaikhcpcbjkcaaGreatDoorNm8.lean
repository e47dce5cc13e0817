/- laws of names: few, do, right -/
import Derived.Test.YtkaikhcpcbjkcaaGreatDoorNm7
namespace Go.Proofs.YtkaikhcpcbjkcaaGreatDoor
open Go.RowKit M
set_option linter.unusedVariables false
/-- a call of the law -/
structure AcD where
  d : Int
  dir : Bs
  name : Bs
  id : Bs
  td : Bs
  to : Bs
  n : InD
def acV (x : AcD) : List Value := [intV x.d, strV x.dir, strV x.name, strV x.id, strV x.td, strV x.to, intV x.n.k, intV x.n.sz, intV x.n.ln]
def acC : RowC AcD := ⟨acV, 9, by decide, fun _ => rfl, fun _ => rfl⟩
def okA (x : AcD) : Bool := decide (x.dir.length ≤ 30) && decide (x.name.length ≤ 30) && decide (x.id.length ≤ 30) && decide (x.td.length ≤ 30) && decide (x.to.length ≤ 30)
def fewA (l : List AcD) : Bool := l.all okA && decide (l.length ≤ 40)
theorem fewA_bad {l : List AcD} {i : Nat} {x : AcD} (ha : l[i]? = some x) (h : okA x = false) : Value.bool false = .bool (fewA l) := by
  have : l.all okA = false := by
    rw [List.all_eq_false]; exact ⟨x, List.mem_of_getElem? ha, by rw [h]; simp⟩
  simp [fewA, this]
theorem fewA_end {l : List AcD} {i : Nat} (hok : ∀ j a, j < i → l[j]? = some a → okA a = true) (hi : i ≤ l.length) (he : ¬ i < l.length) : Value.bool (decide ((l.length : Int) ≤ 40)) = .bool (fewA l) := by
  have : l.all okA = true := by
    rw [List.all_eq_true]; intro a ha
    obtain ⟨j, hj⟩ := List.mem_iff_getElem?.1 ha
    exact hok j a (by have := (List.getElem?_eq_some_iff.1 hj).1; omega) hj
  unfold fewA
  rw [this, Bool.true_and]
  congr 1
  exact decide_eq_decide.2 (by omega)
structure OkA (x : AcD) : Prop where
  dir : x.dir.length ≤ 30
  name : x.name.length ≤ 30
  id : x.id.length ≤ 30
  td : x.td.length ≤ 30
  to : x.to.length ≤ 30
theorem okA_is {x : AcD} (h : okA x = true) : OkA x := by
  simp only [okA, Bool.and_eq_true, decide_eq_true_eq] at h
  exact ⟨h.1.1.1.1, h.1.1.1.2, h.1.1.2, h.1.2, h.2⟩
noncomputable def doV (W : WS) (x : AcD) : Bs × Int :=
  if x.d % 8 = 0 then ([], linkE W x.dir x.name x.id) else if x.d % 8 = 1 then (unlS W x.dir x.name, unlE W x.dir x.name) else if x.d % 8 = 2 ∨ x.d % 8 = 3 then ([], mkdE W x.dir x.name x.id) else
    if x.d % 8 = 4 then ([], rmdE W x.dir x.name) else if x.d % 8 = 5 then (renS W x.dir x.name x.td x.to, renE W x.dir x.name x.td x.to) else ([], 0)
noncomputable def doW (W : WS) (x : AcD) : WS :=
  if x.d % 8 = 0 then linkW W x.dir x.name x.id else if x.d % 8 = 1 then unlW W x.dir x.name else if x.d % 8 = 2 ∨ x.d % 8 = 3 then mkdW W x.dir x.name x.id else
    if x.d % 8 = 4 then rmdW W x.dir x.name else if x.d % 8 = 5 then renW W x.dir x.name x.td x.to else if x.d % 8 = 6 then setI W x.id x.n else noI W x.id
theorem kE_len (dir name : Bs) : (kE dir name).length = dir.length + name.length + 3 := by unfold kE; simp; omega
theorem doW_pi {W : WS} {m : Nat} (h : PI W m) {x : AcD} (hx : OkA x) (hn : InB x.n) : PI (doW W x) (m + 5) := by
  have hE : ∀ {V : WS} {k : Nat} {a b v : Bs}, PI V k → a.length ≤ 30 → b.length ≤ 30 → v.length ≤ 400 → PI (putS V (kE a b) v) (k + 1) := fun hV ha hb hv => hV.put (by rw [kE_len]; omega) hv
  have hd := hx.dir; have hnm := hx.name; have hi := hx.id; have htd := hx.td; have hto := hx.to
  have hl1 := lookV_len h x.dir x.name
  have hl2 := lookV_len h x.td x.to
  unfold doW
  split
  · unfold linkW
    split
    · exact (setI_pi (hE h hd hnm (by omega)) (by omega) (lnk_in (gI_in _ _) _)).mono (by omega)
    · exact h.mono (by omega)
  · split
    · unfold unlW
      split
      · exact (setI_pi (hE h hd hnm (by simp)) (by omega) (lnk_in (lookV_in _ _ _) _)).mono (by omega)
      · exact h.mono (by omega)
    · split
      · unfold mkdW
        split
        · exact (hE ((setI_pi h (by omega) mkdI_in).put (by unfold kU; simp; omega) (by omega)) hd hnm (by omega)).mono (by omega)
        · exact h.mono (by omega)
      · split
        · unfold rmdW
          split
          · exact (noI_pi (hE h hd hnm (by simp)) (by omega)).mono (by omega)
          · exact h.mono (by omega)
        · split
          · unfold renW
            split
            · exact (hE (hE (repW_pi h (by omega) (lookV_in _ _ _)) hd hnm (by simp)) htd hto (by omega)).mono (by omega)
            · exact h.mono (by omega)
          · split
            · exact (setI_pi h (by omega) hn).mono (by omega)
            · exact (noI_pi h (by omega)).mono (by omega)
def filI : InD := ⟨1, 0, 0⟩
theorem filI_in : InB filI := ⟨by unfold inI filI; simp, by unfold inI filI; simp, by unfold inI filI; simp⟩
theorem initW_pi : PI (initW emptyW) 2 := (setI_pi PI.empty (by simp) mkdI_in).put (by simp [kU]) (by simp)
set_option maxRecDepth 100000 in
set_option maxHeartbeats 800000 in
theorem few_sp {w : World} {F : Th} (hS : Sat w [F]) {lv : Value} {l : List AcD} (hL : Ent F (RdL acC lv l)) :
    Calls Tryz.prog 9 #[lv] w (Ret fun v w' => v = .bool (fewA l) ∧ Sat w' [F]) := by
 obtain ⟨ao, cap, rfl, hmax⟩ := (hL.sat hS 0 rfl).shape
 refine calls_enter Tryz.func9 rfl Tryz.ntmps9 rfl ?_
 refine wc_seq (wc_region (wl_assign rfl rfl (wl_nil (qs_seq (wc_seq (wc_seq (wc_region (wl_assign rfl rfl (wl_nil (qs_seq (wc_block ?_)))))))))))
 refine wc_loop (fun K0 E0 W0 => ∃ (i : Nat), K0 = l.length - i ∧ E0 = [(0, .slice ao l.length cap), (3, intV (i : Int))] ∧ Sat W0 [F] ∧ (i ≤ l.length) ∧ (∀ j a, j < i → l[j]? = some a → okA a = true)) (L0 := [(0, _), (3, _)]) (l.length - 0) (.cons rfl (.cons rfl .nil)) ⟨0, rfl, rfl, hS, by omega, by omega⟩ ?_
 rintro _ _ w1 ⟨i, rfl, rfl, hS1, hi, hok⟩
 refine wc_seq (wc_seq (wc_region (wl_move rfl rfl (wl_move rfl rfl ?_))))
 refine wl_lenL Tryz.underlying22 rfl rfl ?_
 refine wl_lss rfl rfl rfl ?_
 refine wl_nil (qs_seq ?_)
 refine wc_condD rfl (fun h2 => ?_) (fun h2 => ?_)
 ·obtain ⟨x, ha⟩ : ∃ x, l[i]? = some x := ⟨_, List.getElem?_eq_getElem (by omega)⟩
  obtain ⟨b, off, rfl, _⟩ := (hL.sat hS1 0 rfl).get ha
  have hil := (List.getElem?_eq_some_iff.1 ha).1
  refine wc_skip (qs_seq (wc_seq (wc_block (wc_seq (wc_region (wl_move rfl rfl (wl_move rfl rfl ?_)))))))
  refine wl_indexAddr i rfl rfl (by first | rfl | omega) (by omega) es_22 rfl ?_
  refine wl_loadAt rfl ag_37 sz_37 (vs := acV x) ((hL.sat hS1 0 rfl).at_ ha) rfl ?_
  refine wl_alloc hS1 zr_37 rfl rfl ?_
  intro b3 w3 hS3
  clear hS1
  first | (refine wl_storeA hS3 rfl rfl sz_37 rfl (by first | rfl | (simp [allOne, Value.oneCell']; done) | assumption | exact hone) (i := 0) rfl (by first | decide | exact Nat.le_of_ble_eq_true rfl | (simp; done) | omega) ?_)
  intro w4 hS5; dsimp only [List.set] at hS5
  clear hS3
  refine wl_nil (qs_seq ?_)
  refine wc_sub (L' := [(4, _), (0, _), (3, _)]) (.cons rfl (.cons rfl (.cons rfl .nil))) ?_
  refine wc_seq (wc_region ?_)
  refine wl_fieldAddr rfl fo_37_1 rfl ?_
  refine wl_load rfl ag_9 (by first | assumption | exact hS5.cell 0 rfl rfl) rfl ?_
  refine wl_lenS Tryz.underlying9 rfl rfl ?_
  refine wl_gtr rfl rfl rfl ?_
  refine wl_move rfl rfl ?_
  refine wl_splitD 19 rfl (fun h6 => ?_) (fun h6 => ?_)
  ·have hoo : okA x = false := by unfold okA; simp; omega
   refine wl_unwanted rfl rfl (decide_eq_true h6) rfl ?_
   refine wl_unwanted rfl rfl (decide_eq_true h6) rfl ?_
   refine wl_unwanted rfl rfl (decide_eq_true h6) rfl ?_
   refine wl_unwanted rfl rfl (decide_eq_true h6) rfl ?_
   refine wl_pickT rfl (decide_eq_true h6) rfl rfl ?_
   refine wl_move rfl rfl ?_
   refine wl_unwanted rfl rfl rfl rfl ?_
   refine wl_unwanted rfl rfl rfl rfl ?_
   refine wl_unwanted rfl rfl rfl rfl ?_
   refine wl_unwanted rfl rfl rfl rfl ?_
   refine wl_pickT rfl rfl rfl rfl ?_
   refine wl_move rfl rfl ?_
   refine wl_unwanted rfl rfl rfl rfl ?_
   refine wl_unwanted rfl rfl rfl rfl ?_
   refine wl_unwanted rfl rfl rfl rfl ?_
   refine wl_unwanted rfl rfl rfl rfl ?_
   refine wl_pickT rfl rfl rfl rfl ?_
   refine wl_move rfl rfl ?_
   refine wl_unwanted rfl rfl rfl rfl ?_
   refine wl_unwanted rfl rfl rfl rfl ?_
   refine wl_unwanted rfl rfl rfl rfl ?_
   refine wl_unwanted rfl rfl rfl rfl ?_
   refine wl_pickT rfl rfl rfl rfl ?_
   refine wl_nil (qs_seq ?_)
   refine wc_sub (L' := [(42, _), (0, _), (3, _)]) (.cons rfl (.cons rfl (.cons rfl .nil))) ?_
   refine wc_condT rfl ?_
   refine wc_seq (wc_region (wl_assign rfl rfl (wl_nil (qs_seq (wc_ret (qs_block_ret (qs_then_ret (qs_then_ret (qs_block_ret (qs_then_ret ?_))))))))))
   refine fin1 (.inr rfl) rfl rfl ?_
   exact ⟨_, rfl, fewA_bad ha hoo, hS5.pick [1] rfl⟩
  refine wl_guard rfl rfl (decide_eq_false h6) ?_
  refine wl_fieldAddr rfl fo_37_2 rfl ?_
  refine wl_guard rfl rfl (decide_eq_false h6) ?_
  refine wl_load rfl ag_9 (by first | assumption | exact hS5.cell 0 rfl rfl) rfl ?_
  refine wl_guard rfl rfl (decide_eq_false h6) ?_
  refine wl_lenS Tryz.underlying9 rfl rfl ?_
  refine wl_guard rfl rfl (decide_eq_false h6) ?_
  refine wl_gtr rfl rfl rfl ?_
  refine wl_pickF rfl (decide_eq_false h6) rfl rfl ?_
  refine wl_move rfl rfl ?_
  refine wl_splitD 25 rfl (fun h7 => ?_) (fun h7 => ?_)
  ·have hoo : okA x = false := by unfold okA; simp; omega
   refine wl_unwanted rfl rfl (decide_eq_true h7) rfl ?_
   refine wl_unwanted rfl rfl (decide_eq_true h7) rfl ?_
   refine wl_unwanted rfl rfl (decide_eq_true h7) rfl ?_
   refine wl_unwanted rfl rfl (decide_eq_true h7) rfl ?_
   refine wl_pickT rfl (decide_eq_true h7) rfl rfl ?_
   refine wl_move rfl rfl ?_
   refine wl_unwanted rfl rfl rfl rfl ?_
   refine wl_unwanted rfl rfl rfl rfl ?_
   refine wl_unwanted rfl rfl rfl rfl ?_
   refine wl_unwanted rfl rfl rfl rfl ?_
   refine wl_pickT rfl rfl rfl rfl ?_
   refine wl_move rfl rfl ?_
   refine wl_unwanted rfl rfl rfl rfl ?_
   refine wl_unwanted rfl rfl rfl rfl ?_
   refine wl_unwanted rfl rfl rfl rfl ?_
   refine wl_unwanted rfl rfl rfl rfl ?_
   refine wl_pickT rfl rfl rfl rfl ?_
   refine wl_nil (qs_seq ?_)
   refine wc_sub (L' := [(42, _), (0, _), (3, _)]) (.cons rfl (.cons rfl (.cons rfl .nil))) ?_
   refine wc_condT rfl ?_
   refine wc_seq (wc_region (wl_assign rfl rfl (wl_nil (qs_seq (wc_ret (qs_block_ret (qs_then_ret (qs_then_ret (qs_block_ret (qs_then_ret ?_))))))))))
   refine fin1 (.inr rfl) rfl rfl ?_
   exact ⟨_, rfl, fewA_bad ha hoo, hS5.pick [1] rfl⟩
  refine wl_guard rfl rfl (decide_eq_false h7) ?_
  refine wl_fieldAddr rfl fo_37_3 rfl ?_
  refine wl_guard rfl rfl (decide_eq_false h7) ?_
  refine wl_load rfl ag_9 (by first | assumption | exact hS5.cell 0 rfl rfl) rfl ?_
  refine wl_guard rfl rfl (decide_eq_false h7) ?_
  refine wl_lenS Tryz.underlying9 rfl rfl ?_
  refine wl_guard rfl rfl (decide_eq_false h7) ?_
  refine wl_gtr rfl rfl rfl ?_
  refine wl_pickF rfl (decide_eq_false h7) rfl rfl ?_
  refine wl_move rfl rfl ?_
  refine wl_splitD 31 rfl (fun h8 => ?_) (fun h8 => ?_)
  ·have hoo : okA x = false := by unfold okA; simp; omega
   refine wl_unwanted rfl rfl (decide_eq_true h8) rfl ?_
   refine wl_unwanted rfl rfl (decide_eq_true h8) rfl ?_
   refine wl_unwanted rfl rfl (decide_eq_true h8) rfl ?_
   refine wl_unwanted rfl rfl (decide_eq_true h8) rfl ?_
   refine wl_pickT rfl (decide_eq_true h8) rfl rfl ?_
   refine wl_move rfl rfl ?_
   refine wl_unwanted rfl rfl rfl rfl ?_
   refine wl_unwanted rfl rfl rfl rfl ?_
   refine wl_unwanted rfl rfl rfl rfl ?_
   refine wl_unwanted rfl rfl rfl rfl ?_
   refine wl_pickT rfl rfl rfl rfl ?_
   refine wl_nil (qs_seq ?_)
   refine wc_sub (L' := [(42, _), (0, _), (3, _)]) (.cons rfl (.cons rfl (.cons rfl .nil))) ?_
   refine wc_condT rfl ?_
   refine wc_seq (wc_region (wl_assign rfl rfl (wl_nil (qs_seq (wc_ret (qs_block_ret (qs_then_ret (qs_then_ret (qs_block_ret (qs_then_ret ?_))))))))))
   refine fin1 (.inr rfl) rfl rfl ?_
   exact ⟨_, rfl, fewA_bad ha hoo, hS5.pick [1] rfl⟩
  refine wl_guard rfl rfl (decide_eq_false h8) ?_
  refine wl_fieldAddr rfl fo_37_4 rfl ?_
  refine wl_guard rfl rfl (decide_eq_false h8) ?_
  refine wl_load rfl ag_9 (by first | assumption | exact hS5.cell 0 rfl rfl) rfl ?_
  refine wl_guard rfl rfl (decide_eq_false h8) ?_
  refine wl_lenS Tryz.underlying9 rfl rfl ?_
  refine wl_guard rfl rfl (decide_eq_false h8) ?_
  refine wl_gtr rfl rfl rfl ?_
  refine wl_pickF rfl (decide_eq_false h8) rfl rfl ?_
  refine wl_move rfl rfl ?_
  refine wl_splitD 37 rfl (fun h9 => ?_) (fun h9 => ?_)
  ·have hoo : okA x = false := by unfold okA; simp; omega
   refine wl_unwanted rfl rfl (decide_eq_true h9) rfl ?_
   refine wl_unwanted rfl rfl (decide_eq_true h9) rfl ?_
   refine wl_unwanted rfl rfl (decide_eq_true h9) rfl ?_
   refine wl_unwanted rfl rfl (decide_eq_true h9) rfl ?_
   refine wl_pickT rfl (decide_eq_true h9) rfl rfl ?_
   refine wl_nil (qs_seq ?_)
   refine wc_sub (L' := [(42, _), (0, _), (3, _)]) (.cons rfl (.cons rfl (.cons rfl .nil))) ?_
   refine wc_condT rfl ?_
   refine wc_seq (wc_region (wl_assign rfl rfl (wl_nil (qs_seq (wc_ret (qs_block_ret (qs_then_ret (qs_then_ret (qs_block_ret (qs_then_ret ?_))))))))))
   refine fin1 (.inr rfl) rfl rfl ?_
   exact ⟨_, rfl, fewA_bad ha hoo, hS5.pick [1] rfl⟩
  refine wl_guard rfl rfl (decide_eq_false h9) ?_
  refine wl_fieldAddr rfl fo_37_5 rfl ?_
  refine wl_guard rfl rfl (decide_eq_false h9) ?_
  refine wl_load rfl ag_9 (by first | assumption | exact hS5.cell 0 rfl rfl) rfl ?_
  refine wl_guard rfl rfl (decide_eq_false h9) ?_
  refine wl_lenS Tryz.underlying9 rfl rfl ?_
  refine wl_guard rfl rfl (decide_eq_false h9) ?_
  refine wl_gtr rfl rfl rfl ?_
  refine wl_pickF rfl (decide_eq_false h9) rfl rfl ?_
  refine wl_nil (qs_seq ?_)
  refine wc_sub (L' := [(42, _), (0, _), (3, _)]) (.cons rfl (.cons rfl (.cons rfl .nil))) ?_
  refine wc_condD rfl (fun h10 => ?_) (fun h10 => ?_)
  ·have hoo : okA x = false := by unfold okA; simp; omega
   refine wc_seq (wc_region (wl_assign rfl rfl (wl_nil (qs_seq (wc_ret (qs_block_ret (qs_then_ret (qs_then_ret (qs_block_ret (qs_then_ret ?_))))))))))
   refine fin1 (.inr rfl) rfl rfl ?_
   exact ⟨_, rfl, fewA_bad ha hoo, hS5.pick [1] rfl⟩
  have hoo : okA x = true := by unfold okA; simp; omega
  refine wc_skip (qs_block_normal (qs_seq (wc_region (wl_move rfl rfl ?_))))
  refine wl_add rfl rfl (by first | omega | (simp; omega)) (by first | omega | (simp; omega)) rfl ?_
  refine wl_assign rfl rfl (wl_nil ?_)
  exact qs_round (L1 := [(0, _), (3, intV ((i + 1 : Nat) : Int))]) (.cons rfl (.cons rfl .nil)) (k1 := l.length - (i + 1)) (by omega) ⟨i + 1, rfl, rfl, hS5.pick [1] rfl, by omega, fun j b hj hb => by by_cases e : j = i; (subst e; rw [ha] at hb; cases hb; exact hoo); exact hok j b (by omega) hb⟩
 refine wc_exit (qs_then_exit (qs_then_exit (qs_block_exit (qs_seq (wc_seq (wc_region (wl_move rfl rfl ?_)))))))
 refine wl_lenL Tryz.underlying22 rfl rfl ?_
 refine wl_leq rfl rfl rfl ?_
 refine wl_assign rfl rfl (wl_nil (qs_seq (wc_ret ?_)))
 refine fin1 (.inr rfl) rfl rfl ?_
 exact ⟨_, rfl, fewA_end hok hi (by omega), hS1.pick [0] rfl⟩
set_option maxRecDepth 100000 in
set_option maxHeartbeats 1600000 in
theorem do_sp {w : World} {p : Nat} {W : WS} {m : Nat} {F : Th} (hS : Sat w [worldT p W, F]) (hG : Ent F WireG) (hP : PI W m) (hm : m ≤ 900) {x : AcD} (hx : OkA x) (hn : InB x.n) :
    Calls Tryz.prog 15 #[.iface 25 (ptrV p 0), .agg #[intV x.d, strV x.dir, strV x.name, strV x.id, strV x.td, strV x.to, intV x.n.k, intV x.n.sz, intV x.n.ln]] w (Ret fun v w' => v = .tuple #[strV (doV W x).1, intV (doV W x).2] ∧ Sat w' [worldT p (doW W x), F]) := by
 refine calls_enter Tryz.func15 rfl Tryz.ntmps15 rfl ?_
 refine wc_seq (wc_region ?_)
 refine wl_box hS rfl rfl rfl ?_
 intro b1 w1 hS1
 refine wl_assign rfl rfl (wl_assign rfl rfl (wl_nil (qs_seq (wc_seq (wc_seq (wc_region ?_))))))
 refine wl_fieldAddr rfl fo_37_0 rfl ?_
 refine wl_load rfl ag_3 (by first | assumption | exact hS1.cell 0 rfl rfl) rfl ?_
 refine wl_mask 3 rfl rfl rfl rfl (q := 8) rfl rfl ?_
 refine wl_nil (qs_seq (wc_block (wc_seq (wc_region ?_))))
 refine wl_eql rfl rfl rfl ?_
 refine wl_assign rfl rfl (wl_nil (qs_seq ?_))
 refine wc_condD rfl (fun h2 => ?_) (fun h2 => ?_)
 ·refine wc_seq (wc_region (wl_move rfl rfl ?_))
  refine wl_fieldAddr rfl fo_37_1 rfl ?_
  refine wl_load rfl ag_9 (by first | assumption | exact hS1.cell 0 rfl rfl) rfl ?_
  refine wl_fieldAddr rfl fo_37_2 rfl ?_
  refine wl_load rfl ag_9 (by first | assumption | exact hS1.cell 0 rfl rfl) rfl ?_
  refine wl_fieldAddr rfl fo_37_3 rfl ?_
  refine wl_load rfl ag_9 (by first | assumption | exact hS1.cell 0 rfl rfl) rfl ?_
  have hC3 := hS1.split [1] [false, true, false] rfl; dsimp only [selF, pickA, nthA, List.cons_append, List.nil_append] at hC3
  refine wl_call cal_44 rfl (link_sp hC3 (hG.starL 1 rfl) hP hm x.dir x.name x.id (by have := hx.dir; omega) (by have := hx.name; omega) (by have := hx.id; omega)) rfl ?_
  rintro e w3 ⟨_, rfl, rfl, hS3⟩; refine ⟨_, rfl, ?_⟩
  replace hS3 := hS3.join rfl; dsimp only [List.dropLast, List.cons_append, List.nil_append] at hS3; clear hC3
  clear hS1
  refine wl_assign rfl rfl (wl_assign rfl rfl (wl_nil (qs_seq ?_)))
  refine wc_sub (L' := [(5, _), (4, _)]) (.cons rfl (.cons rfl .nil)) ?_
  refine wc_ret (qs_block_ret (qs_then_ret ?_))
  refine fin2 (.inr rfl) rfl rfl rfl ?_
  exact ⟨_, rfl, by unfold doV; rw [if_pos (by assumption)], by unfold doW; rw [if_pos (by assumption)]; exact hS3.pick [0, 2] rfl⟩
 refine wc_seq (wc_region ?_)
 refine wl_eql rfl rfl rfl ?_
 refine wl_assign rfl rfl (wl_nil (qs_seq ?_))
 refine wc_sub (L' := [(23, _), (8, _), (5, _), (4, _), (3, _), (0, _)]) (.cons rfl (.cons rfl (.cons rfl (.cons rfl (.cons rfl (.cons rfl .nil)))))) ?_
 refine wc_condD rfl (fun h4 => ?_) (fun h4 => ?_)
 ·refine wc_seq (wc_region (wl_move rfl rfl ?_))
  refine wl_fieldAddr rfl fo_37_1 rfl ?_
  refine wl_load rfl ag_9 (by first | assumption | exact hS1.cell 0 rfl rfl) rfl ?_
  refine wl_fieldAddr rfl fo_37_2 rfl ?_
  refine wl_load rfl ag_9 (by first | assumption | exact hS1.cell 0 rfl rfl) rfl ?_
  have hC5 := hS1.split [1] [false, true, false] rfl; dsimp only [selF, pickA, nthA, List.cons_append, List.nil_append] at hC5
  refine wl_call cal_46 rfl (unl_sp hC5 (hG.starL 1 rfl) hP hm x.dir x.name (by have := hx.dir; omega) (by have := hx.name; omega)) rfl ?_
  rintro e w5 ⟨_, rfl, rfl, hS5⟩; refine ⟨_, rfl, ?_⟩
  replace hS5 := hS5.join rfl; dsimp only [List.dropLast, List.cons_append, List.nil_append] at hS5; clear hC5
  clear hS1
  refine wl_extract rfl rfl rfl (wl_extract rfl rfl rfl (wl_assign rfl rfl (wl_assign rfl rfl (wl_nil (qs_seq ?_)))))
  refine wc_sub (L' := [(5, _), (4, _)]) (.cons rfl (.cons rfl .nil)) ?_
  refine wc_ret (qs_block_ret (qs_then_ret ?_))
  refine fin2 (.inr rfl) rfl rfl rfl ?_
  exact ⟨_, rfl, by unfold doV; rw [if_neg (by omega), if_pos (by assumption)], by unfold doW; rw [if_neg (by omega), if_pos (by assumption)]; exact hS5.pick [0, 2] rfl⟩
 refine wc_seq (wc_seq (wc_region ?_))
 refine wl_eql rfl rfl rfl ?_
 refine wl_assign rfl rfl (wl_nil (qs_seq ?_))
 refine wc_condD rfl (fun h6 => ?_) (fun h6 => ?_)
 ·refine wc_skip (qs_seq ?_)
  refine wc_condKT rfl (decide_eq_true h6) ?_
  refine wc_seq (wc_region (wl_move rfl rfl ?_))
  refine wl_fieldAddr rfl fo_37_1 rfl ?_
  refine wl_load rfl ag_9 (by first | assumption | exact hS1.cell 0 rfl rfl) rfl ?_
  refine wl_fieldAddr rfl fo_37_2 rfl ?_
  refine wl_load rfl ag_9 (by first | assumption | exact hS1.cell 0 rfl rfl) rfl ?_
  refine wl_fieldAddr rfl fo_37_3 rfl ?_
  refine wl_load rfl ag_9 (by first | assumption | exact hS1.cell 0 rfl rfl) rfl ?_
  have hC7 := hS1.split [1] [false, true, false] rfl; dsimp only [selF, pickA, nthA, List.cons_append, List.nil_append] at hC7
  refine wl_call cal_42 rfl (mkdir_sp hC7 (hG.starL 1 rfl) hP hm x.dir x.name x.id (by have := hx.dir; omega) (by have := hx.name; omega) (by have := hx.id; omega)) rfl ?_
  rintro e w7 ⟨_, rfl, rfl, hS7⟩; refine ⟨_, rfl, ?_⟩
  replace hS7 := hS7.join rfl; dsimp only [List.dropLast, List.cons_append, List.nil_append] at hS7; clear hC7
  clear hS1
  refine wl_assign rfl rfl (wl_assign rfl rfl (wl_nil (qs_seq ?_)))
  refine wc_sub (L' := [(5, _), (4, _)]) (.cons rfl (.cons rfl .nil)) ?_
  refine wc_ret (qs_block_ret (qs_then_ret ?_))
  refine fin2 (.inr rfl) rfl rfl rfl ?_
  exact ⟨_, rfl, by unfold doV; rw [if_neg (by omega), if_neg (by omega), if_pos (by omega)], by unfold doW; rw [if_neg (by omega), if_neg (by omega), if_pos (by omega)]; exact hS7.pick [0, 2] rfl⟩
 refine wc_region ?_
 refine wl_eql rfl rfl rfl ?_
 refine wl_assign rfl rfl (wl_nil (qs_seq ?_))
 refine wc_condD rfl (fun h8 => ?_) (fun h8 => ?_)
 ·refine wc_seq (wc_region (wl_move rfl rfl ?_))
  refine wl_fieldAddr rfl fo_37_1 rfl ?_
  refine wl_load rfl ag_9 (by first | assumption | exact hS1.cell 0 rfl rfl) rfl ?_
  refine wl_fieldAddr rfl fo_37_2 rfl ?_
  refine wl_load rfl ag_9 (by first | assumption | exact hS1.cell 0 rfl rfl) rfl ?_
  refine wl_fieldAddr rfl fo_37_3 rfl ?_
  refine wl_load rfl ag_9 (by first | assumption | exact hS1.cell 0 rfl rfl) rfl ?_
  have hC9 := hS1.split [1] [false, true, false] rfl; dsimp only [selF, pickA, nthA, List.cons_append, List.nil_append] at hC9
  refine wl_call cal_42 rfl (mkdir_sp hC9 (hG.starL 1 rfl) hP hm x.dir x.name x.id (by have := hx.dir; omega) (by have := hx.name; omega) (by have := hx.id; omega)) rfl ?_
  rintro e w9 ⟨_, rfl, rfl, hS9⟩; refine ⟨_, rfl, ?_⟩
  replace hS9 := hS9.join rfl; dsimp only [List.dropLast, List.cons_append, List.nil_append] at hS9; clear hC9
  clear hS1
  refine wl_assign rfl rfl (wl_assign rfl rfl (wl_nil (qs_seq ?_)))
  refine wc_sub (L' := [(5, _), (4, _)]) (.cons rfl (.cons rfl .nil)) ?_
  refine wc_ret (qs_block_ret (qs_then_ret ?_))
  refine fin2 (.inr rfl) rfl rfl rfl ?_
  exact ⟨_, rfl, by unfold doV; rw [if_neg (by omega), if_neg (by omega), if_pos (by omega)], by unfold doW; rw [if_neg (by omega), if_neg (by omega), if_pos (by omega)]; exact hS9.pick [0, 2] rfl⟩
 refine wc_seq (wc_region ?_)
 refine wl_eql rfl rfl rfl ?_
 refine wl_assign rfl rfl (wl_nil (qs_seq ?_))
 refine wc_sub (L' := [(44, _), (8, _), (5, _), (4, _), (3, _), (0, _)]) (.cons rfl (.cons rfl (.cons rfl (.cons rfl (.cons rfl (.cons rfl .nil)))))) ?_
 refine wc_condD rfl (fun h10 => ?_) (fun h10 => ?_)
 ·refine wc_seq (wc_region (wl_move rfl rfl ?_))
  refine wl_fieldAddr rfl fo_37_1 rfl ?_
  refine wl_load rfl ag_9 (by first | assumption | exact hS1.cell 0 rfl rfl) rfl ?_
  refine wl_fieldAddr rfl fo_37_2 rfl ?_
  refine wl_load rfl ag_9 (by first | assumption | exact hS1.cell 0 rfl rfl) rfl ?_
  have hC11 := hS1.split [1] [false, true, false] rfl; dsimp only [selF, pickA, nthA, List.cons_append, List.nil_append] at hC11
  refine wl_call cal_45 rfl (rmdir_sp hC11 (hG.starL 1 rfl) hP hm x.dir x.name (by have := hx.dir; omega) (by have := hx.name; omega)) rfl ?_
  rintro e w11 ⟨_, rfl, rfl, hS11⟩; refine ⟨_, rfl, ?_⟩
  replace hS11 := hS11.join rfl; dsimp only [List.dropLast, List.cons_append, List.nil_append] at hS11; clear hC11
  clear hS1
  refine wl_assign rfl rfl (wl_assign rfl rfl (wl_nil (qs_seq ?_)))
  refine wc_sub (L' := [(5, _), (4, _)]) (.cons rfl (.cons rfl .nil)) ?_
  refine wc_ret (qs_block_ret (qs_then_ret ?_))
  refine fin2 (.inr rfl) rfl rfl rfl ?_
  exact ⟨_, rfl, by unfold doV; rw [if_neg (by omega), if_neg (by omega), if_neg (by omega), if_pos (by assumption)], by unfold doW; rw [if_neg (by omega), if_neg (by omega), if_neg (by omega), if_pos (by assumption)]; exact hS11.pick [0, 2] rfl⟩
 refine wc_seq (wc_region ?_)
 refine wl_eql rfl rfl rfl ?_
 refine wl_assign rfl rfl (wl_nil (qs_seq ?_))
 refine wc_condD rfl (fun h12 => ?_) (fun h12 => ?_)
 ·refine wc_seq (wc_region (wl_move rfl rfl ?_))
  refine wl_fieldAddr rfl fo_37_1 rfl ?_
  refine wl_load rfl ag_9 (by first | assumption | exact hS1.cell 0 rfl rfl) rfl ?_
  refine wl_fieldAddr rfl fo_37_2 rfl ?_
  refine wl_load rfl ag_9 (by first | assumption | exact hS1.cell 0 rfl rfl) rfl ?_
  refine wl_fieldAddr rfl fo_37_4 rfl ?_
  refine wl_load rfl ag_9 (by first | assumption | exact hS1.cell 0 rfl rfl) rfl ?_
  refine wl_fieldAddr rfl fo_37_5 rfl ?_
  refine wl_load rfl ag_9 (by first | assumption | exact hS1.cell 0 rfl rfl) rfl ?_
  have hC13 := hS1.split [1] [false, true, false] rfl; dsimp only [selF, pickA, nthA, List.cons_append, List.nil_append] at hC13
  refine wl_call cal_40 rfl (rename_sp hC13 (hG.starL 1 rfl) hP hm x.dir x.name x.td x.to (by have := hx.dir; omega) (by have := hx.name; omega) (by have := hx.td; omega) (by have := hx.to; omega)) rfl ?_
  rintro e w13 ⟨_, rfl, rfl, hS13⟩; refine ⟨_, rfl, ?_⟩
  replace hS13 := hS13.join rfl; dsimp only [List.dropLast, List.cons_append, List.nil_append] at hS13; clear hC13
  clear hS1
  refine wl_extract rfl rfl rfl (wl_extract rfl rfl rfl (wl_assign rfl rfl (wl_assign rfl rfl (wl_nil (qs_seq ?_)))))
  refine wc_sub (L' := [(5, _), (4, _)]) (.cons rfl (.cons rfl .nil)) ?_
  refine wc_ret (qs_block_ret (qs_then_ret ?_))
  refine fin2 (.inr rfl) rfl rfl rfl ?_
  exact ⟨_, rfl, by unfold doV; rw [if_neg (by omega), if_neg (by omega), if_neg (by omega), if_neg (by omega), if_pos (by assumption)], by unfold doW; rw [if_neg (by omega), if_neg (by omega), if_neg (by omega), if_neg (by omega), if_pos (by assumption)]; exact hS13.pick [0, 2] rfl⟩
 refine wc_seq (wc_region ?_)
 refine wl_eql rfl rfl rfl ?_
 refine wl_assign rfl rfl (wl_nil (qs_seq ?_))
 refine wc_condD rfl (fun h14 => ?_) (fun h14 => ?_)
 ·refine wc_region (wl_move rfl rfl ?_)
  refine wl_fieldAddr rfl fo_37_3 rfl ?_
  refine wl_load rfl ag_9 (by first | assumption | exact hS1.cell 0 rfl rfl) rfl ?_
  refine wl_fieldAddr rfl fo_37_6 rfl ?_
  refine wl_loadA rfl ag_35 sz_35 (by first | exact hS1.blk 0 rfl) (by first | decide | exact Nat.le_of_ble_eq_true rfl | (simp; done) | omega) rfl rfl ?_
  have hC15 := hS1.split [1] [false, true, false] rfl; dsimp only [selF, pickA, nthA, List.cons_append, List.nil_append] at hC15
  refine wl_call cal_43 rfl (setI_sp hC15 (hG.starL 1 rfl) x.id (by have := hx.id; omega) hn) rfl ?_
  rintro e w15 ⟨_, rfl, rfl, hS15⟩; refine ⟨_, rfl, ?_⟩
  replace hS15 := hS15.join rfl; dsimp only [List.dropLast, List.cons_append, List.nil_append] at hS15; clear hC15
  clear hS1
  refine wl_nil (qs_block_normal (qs_seq ?_))
  refine wc_sub (L' := [(5, _), (4, _)]) (.cons rfl (.cons rfl .nil)) ?_
  refine wc_seq (wc_region (wl_assign rfl rfl (wl_assign rfl rfl (wl_nil (qs_seq (wc_ret ?_))))))
  refine fin2 (.inr rfl) rfl rfl rfl ?_
  exact ⟨_, rfl, by unfold doV; rw [if_neg (by omega), if_neg (by omega), if_neg (by omega), if_neg (by omega), if_neg (by omega)], by unfold doW; rw [if_neg (by omega), if_neg (by omega), if_neg (by omega), if_neg (by omega), if_neg (by omega), if_pos (by assumption)]; exact hS15.pick [0, 2] rfl⟩
 refine wc_region (wl_move rfl rfl ?_)
 refine wl_fieldAddr rfl fo_37_3 rfl ?_
 refine wl_load rfl ag_9 (by first | assumption | exact hS1.cell 0 rfl rfl) rfl ?_
 have hC16 := hS1.split [1] [false, true, false] rfl; dsimp only [selF, pickA, nthA, List.cons_append, List.nil_append] at hC16
 refine wl_call cal_56 rfl (noI_sp hC16 x.id (by have := hx.id; omega)) rfl ?_
 rintro e w16 ⟨_, rfl, rfl, hS16⟩; refine ⟨_, rfl, ?_⟩
 replace hS16 := hS16.join rfl; dsimp only [List.dropLast, List.cons_append, List.nil_append] at hS16; clear hC16
 clear hS1
 refine wl_nil (qs_block_normal (qs_seq ?_))
 refine wc_sub (L' := [(5, _), (4, _)]) (.cons rfl (.cons rfl .nil)) ?_
 refine wc_seq (wc_region (wl_assign rfl rfl (wl_assign rfl rfl (wl_nil (qs_seq (wc_ret ?_))))))
 refine fin2 (.inr rfl) rfl rfl rfl ?_
 exact ⟨_, rfl, by unfold doV; rw [if_neg (by omega), if_neg (by omega), if_neg (by omega), if_neg (by omega), if_neg (by omega)], by unfold doW; rw [if_neg (by omega), if_neg (by omega), if_neg (by omega), if_neg (by omega), if_neg (by omega), if_neg (by omega)]; exact hS16.pick [0, 2] rfl⟩
end Go.Proofs.YtkaikhcpcbjkcaaGreatDoor
/- laws of names: grown -/
namespace Go.Proofs.YtkaikhcpcbjkcaaGreatDoor
open Go.RowKit M
set_option linter.unusedVariables false
end Go.Proofs.YtkaikhcpcbjkcaaGreatDoor
/- laws of names: small -/
namespace Go.Proofs.YtkaikhcpcbjkcaaGreatDoor
open Go.RowKit M
set_option linter.unusedVariables false
theorem ded {P : Bs → Prop} : ∀ ks : List Bs, ∃ l : List Bs, l.Nodup ∧ l.length ≤ ks.length ∧ ∀ k, k ∈ l ↔ k ∈ ks ∧ P k
  | [] => ⟨[], List.nodup_nil, Nat.le_refl _, by simp⟩
  | a :: ks => by
    obtain ⟨l, h1, h2, h3⟩ := ded (P := P) ks
    by_cases hp : P a
    · by_cases hm : a ∈ l
      · refine ⟨l, h1, by simp; omega, fun k => ?_⟩
        rw [h3, List.mem_cons]
        constructor
        · rintro ⟨q1, q2⟩; exact ⟨.inr q1, q2⟩
        · rintro ⟨q1 | q1, q2⟩
          · subst q1; exact (h3 _).1 hm
          · exact ⟨q1, q2⟩
      · refine ⟨a :: l, List.nodup_cons.2 ⟨hm, h1⟩, by simp; exact h2, fun k => ?_⟩
        rw [List.mem_cons, h3, List.mem_cons]
        constructor
        · rintro (q | ⟨q1, q2⟩)
          · subst q; exact ⟨.inl rfl, hp⟩
          · exact ⟨.inr q1, q2⟩
        · rintro ⟨q1 | q1, q2⟩
          · exact .inl q1
          · exact .inr ⟨q1, q2⟩
    · refine ⟨l, h1, by simp; omega, fun k => ?_⟩
      rw [h3, List.mem_cons]
      constructor
      · rintro ⟨q1, q2⟩; exact ⟨.inr q1, q2⟩
      · rintro ⟨q1 | q1, q2⟩
        · subst q1; exact absurd q2 hp
        · exact ⟨q1, q2⟩
theorem PI.cnt {W : WS} {n : Nat} (h : PI W n) (pre : Bs) : ∃ c, CntOf W.cells pre c ∧ c ≤ n := by
  obtain ⟨ks, h1, h2⟩ := h.few
  obtain ⟨l, h3, h4, h5⟩ := ded (P := fun k => W.cells k ≠ [] ∧ Lib.hasPrefix k pre = true) ks
  refine ⟨l.length, ⟨l, rfl, h3, fun k => ?_⟩, by omega⟩
  rw [h5]
  exact ⟨fun q => q.2, fun q => ⟨h2 k q.1, q⟩⟩
theorem cntK_le {W : WS} {n : Nat} (h : PI W n) (pre : Bs) : cntK W pre ≤ n := by
  obtain ⟨c, h1, h2⟩ := h.cnt pre
  rw [cntK_eq h1]; exact h2
theorem cntK_pos {W : WS} {n : Nat} (h : PI W n) {pre k : Bs} (hk : W.cells k ≠ []) (hp : Lib.hasPrefix k pre = true) : 0 < cntK W pre := by
  obtain ⟨c, h1, _⟩ := h.cnt pre
  rw [cntK_eq h1]
  obtain ⟨l, rfl, _, h4⟩ := h1
  exact List.length_pos_of_mem ((h4 k).2 ⟨hk, hp⟩)
def bR : Bs := [114]
def bA : Bs := [97]
def bO : Bs := [49, 45, 49]
def bT : Bs := [49, 45, 50]
def bF : Bs := [102]
def oneI : InD := ⟨1, 0, 1⟩
theorem oneI_in : InB oneI := ⟨by unfold inI oneI; simp, by unfold inI oneI; simp, by unfold inI oneI; simp⟩
def sm1 : WS := initW emptyW
def sm2 : WS := putS (putS (setI sm1 bO mkdI) (kU bO) bR) (kE bR bA) bO
def sm3 : WS := setI sm2 bT filI
def sm4 : WS := setI (putS sm3 (kE bO bF) bT) bT oneI
theorem ino_of {W : WS} {id : Bs} {n : InD} (hn : InB n) (h : W.cells (kI id) = encI n) : inoW W id = some n := by unfold inoW; rw [h]; exact dec_enc hn
theorem ino_no {W : WS} {id : Bs} (h : W.cells (kI id) = []) : inoW W id = none := by unfold inoW; rw [h]; rfl
theorem look_of {W : WS} {dir name id : Bs} {n : InD} (hn : nameB name = true) (hd : inoW W dir = some mkdI) (hc : W.cells (kE dir name) = id) (hi : inoW W id = some n) (hid : id ≠ []) : lookV W dir name = ⟨id, n, true, 0⟩ := by
  have hd0 : dirE W dir = 0 := by unfold dirE bI gI'; rw [hd]; rfl
  unfold lookV
  rw [if_neg (by simp [hn]), if_neg (by simp [hd0]), hc]
  unfold gI' bI
  rw [hi]
  simp [hid]
theorem look_no {W : WS} {dir name : Bs} (hn : nameB name = true) (hd : inoW W dir = some mkdI) (hc : W.cells (kE dir name) = []) : (lookV W dir name).e = 0 ∧ (lookV W dir name).id = [] := by
  have hd0 : dirE W dir = 0 := by unfold dirE bI gI'; rw [hd]; rfl
  unfold lookV
  rw [if_neg (by simp [hn]), if_neg (by simp [hd0]), hc]
  exact ⟨rfl, rfl⟩
theorem s1r : inoW sm1 bR = some mkdI := ino_of mkdI_in (by simp [sm1, initW, setI, putS, updC, kI, kU, bR])
theorem s1o : inoW sm1 bO = none := ino_no (by simp [sm1, initW, setI, putS, updC, kI, kU, bO, emptyW])
theorem s1p : PI sm1 2 := initW_pi
theorem sm_mk : mkdE sm1 bR bA bO = 0 := by
  obtain ⟨h1, h2⟩ := look_no (W := sm1) (dir := bR) (name := bA) (by decide) s1r (by simp [sm1, initW, setI, putS, updC, kI, kU, kE, bR, bA, emptyW])
  unfold mkdE
  rw [if_neg (by simp [h1]), if_neg (by simp [h2]), if_neg (by decide), if_neg (by unfold bI; rw [s1o]; decide), if_neg]
  rintro (q | q)
  · unfold depF at q; rw [if_pos (by rfl)] at q; omega
  · have := cntK_le s1p [105, 47]; omega
theorem sm_mkW : mkdW sm1 bR bA bO = sm2 := by unfold mkdW; rw [if_pos sm_mk]; rfl
theorem s2p : PI sm2 5 := ((setI_pi s1p (by decide) mkdI_in).put (by decide) (by decide)).put (by decide) (by decide)
theorem s3p : PI sm3 6 := setI_pi s2p (by decide) filI_in
theorem s3o : inoW sm3 bO = some mkdI := ino_of mkdI_in (by simp [sm3, sm2, sm1, initW, setI, putS, updC, kI, kU, kE, bR, bA, bO, bT, emptyW])
theorem s3t : inoW sm3 bT = some filI := ino_of filI_in (by simp [sm3, sm2, sm1, initW, setI, putS, updC, kI, kU, kE, bR, bA, bO, bT, emptyW])
theorem sm_lk : linkE sm3 bO bF bT = 0 := by
  obtain ⟨h1, h2⟩ := look_no (W := sm3) (dir := bO) (name := bF) (by decide) s3o (by simp [sm3, sm2, sm1, initW, setI, putS, updC, kI, kU, kE, bR, bA, bO, bT, bF, emptyW])
  unfold linkE
  rw [if_neg (by simp [h1]), if_neg (by simp [h2]), if_neg (by unfold bI; rw [s3t]; decide), if_neg (by unfold gI'; rw [s3t]; decide)]
theorem sm_lkW : linkW sm3 bO bF bT = sm4 := by
  unfold linkW
  rw [if_pos sm_lk]
  have : lnk (gI' sm3 bT) 1 = oneI := by unfold gI'; rw [s3t]; show (⟨1, 0, IntKind.i64.wrap (0 + 1)⟩ : InD) = ⟨1, 0, 1⟩; rw [show IntKind.i64.wrap (0 + 1) = 1 by decide]
  rw [this]; rfl
theorem s4p : PI sm4 8 := setI_pi (s3p.put (by decide) (by decide)) (by decide) oneI_in
theorem s4r : inoW sm4 bR = some mkdI := ino_of mkdI_in (by simp [sm4, sm3, sm2, sm1, initW, setI, putS, updC, kI, kU, kE, bR, bA, bO, bT, bF, emptyW])
theorem s4o : inoW sm4 bO = some mkdI := ino_of mkdI_in (by simp [sm4, sm3, sm2, sm1, initW, setI, putS, updC, kI, kU, kE, bR, bA, bO, bT, bF, emptyW])
theorem s4t : inoW sm4 bT = some oneI := ino_of oneI_in (by simp [sm4, sm3, sm2, sm1, initW, setI, putS, updC, kI, kU, kE, bR, bA, bO, bT, bF, emptyW])
theorem s4a : sm4.cells (kE bR bA) = bO := by simp [sm4, sm3, sm2, sm1, initW, setI, putS, updC, kI, kU, kE, bR, bA, bO, bT, bF, emptyW]
theorem s4f : sm4.cells (kE bO bF) = bT := by simp [sm4, sm3, sm2, sm1, initW, setI, putS, updC, kI, kU, kE, bR, bA, bO, bT, bF, emptyW]
theorem s4u : sm4.cells (kU bO) = bR := by simp [sm4, sm3, sm2, sm1, initW, setI, putS, updC, kI, kU, kE, bR, bA, bO, bT, bF, emptyW]
theorem s4b : sm4.cells (kE bR [98]) = [] := by simp [sm4, sm3, sm2, sm1, initW, setI, putS, updC, kI, kU, kE, bR, bA, bO, bT, bF, emptyW]
theorem dir_of {W : WS} {id : Bs} (h : inoW W id = some mkdI) : dirE W id = 0 := by unfold dirE bI gI'; rw [h]; rfl
theorem step_of {W : WS} {id p x : Bs} (h : inoW W id = some mkdI) (h1 : p ≠ [46]) (h2 : p ≠ [46, 46]) (hn : nameB p = true) (hc : W.cells (kE id p) = x) (hx : x ≠ []) : stepV W id p = (x, 0) := by
  unfold stepV
  rw [if_neg (by simp [dir_of h]), if_neg h1, if_neg h2, if_neg (by simp [hn]), hc, if_pos hx]
theorem st_ra : stepV sm4 bR bA = (bO, 0) := step_of s4r (by decide) (by decide) (by decide) s4a (by decide)
theorem st_of : stepV sm4 bO bF = (bT, 0) := step_of s4o (by decide) (by decide) (by decide) s4f (by decide)
theorem st_od : stepV sm4 bO [46] = (bO, 0) := by unfold stepV; rw [if_neg (by simp [dir_of s4o]), if_pos rfl]
theorem st_ou : stepV sm4 bO [46, 46] = (bR, 0) := by unfold stepV; rw [if_neg (by simp [dir_of s4o]), if_neg (by decide), if_pos rfl, s4u]
theorem st_rb : stepV sm4 bR [98] = ([], 4) := by unfold stepV; rw [if_neg (by simp [dir_of s4r]), if_neg (by decide), if_neg (by decide), if_neg (by decide), s4b]; rfl
theorem st_tx : stepV sm4 bT [120] = ([], 14) := by
  have h : dirE sm4 bT = 14 := by unfold dirE bI gI'; rw [s4t]; rfl
  unfold stepV; rw [if_pos (by simp [h]), h]
theorem sm_r1 : resV sm4 bR [97, 47, 46, 47, 102] = (bT, 0) := by
  have e : partsL [97, 47, 46, 47, 102] = [bA, [46], bF] := by decide
  unfold resV
  rw [if_neg (by decide), e]
  show walkV sm4 bR _ = _
  rw [walkV, st_ra, if_neg (by decide), walkV, st_od, if_neg (by decide), walkV, st_of, if_neg (by decide), walkV]
theorem sm_r2 : resV sm4 bO [46, 46, 47, 97, 47, 47, 102] = (bT, 0) := by
  have e : partsL [46, 46, 47, 97, 47, 47, 102] = [[46, 46], bA, bF] := by decide
  unfold resV
  rw [if_neg (by decide), e]
  show walkV sm4 bO _ = _
  rw [walkV, st_ou, if_neg (by decide), walkV, st_ra, if_neg (by decide), walkV, st_of, if_neg (by decide), walkV]
theorem sm_r3 : resV sm4 bR [47, 98] = ([], 4) := by
  have e : partsL [47, 98] = [[98]] := by decide
  unfold resV
  rw [if_neg (by decide), e]
  show walkV sm4 bR _ = _
  rw [walkV, st_rb, if_pos (by decide)]
theorem sm_r4 : resV sm4 bR [97, 47, 102, 47, 120] = ([], 14) := by
  have e : partsL [97, 47, 102, 47, 120] = [bA, bF, [120]] := by decide
  unfold resV
  rw [if_neg (by decide), e]
  show walkV sm4 bR _ = _
  rw [walkV, st_ra, if_neg (by decide), walkV, st_of, if_neg (by decide), walkV, st_tx, if_pos (by decide)]
theorem sm_p1 : parV sm4 bR [97, 47, 120] = (bO, [120], 0) := by
  have e : partsL [97, 47, 120] = [bA, [120]] := by decide
  have e2 : walkP sm4 (begS bR [97, 47, 120]) [] [bA, [120]] = (bO, [120], 0) := by
    show walkP sm4 bR [] _ = _
    rw [walkP, if_neg (by decide), walkP, if_pos (by decide), st_ra, if_neg (by decide), walkP]
  unfold parV
  rw [if_neg (by decide), if_neg (by decide), e, e2, if_neg (by decide), if_neg (by simp [dir_of s4o])]
theorem sm_p2 : (parV sm4 bR [97, 47, 46, 46]).2.2 = 16 := by
  unfold parV
  rw [if_neg (by decide), if_pos (by decide)]
theorem sm_la : lookV sm4 bR bA = ⟨bO, mkdI, true, 0⟩ := look_of (by decide) s4r s4a s4o (by decide)
theorem sm_rm : rmdE sm4 bR bA = 15 := by
  unfold rmdE
  rw [sm_la, if_neg (by decide), if_neg (by decide)]
  unfold empE
  rw [if_neg (by decide), if_pos (cntK_pos s4p (k := kE bO bF) (by rw [s4f]; decide) (by decide))]
theorem sm_rmW : rmdW sm4 bR bA = sm4 := by unfold rmdW; rw [if_neg (by rw [sm_rm]; decide)]
theorem sm_ua : unlE sm4 bR bA = 13 := by
  unfold unlE
  rw [sm_la, if_neg (by decide), if_neg (by decide)]; rfl
theorem sm_uaW : unlW sm4 bR bA = sm4 := by unfold unlW; rw [if_neg (by rw [sm_ua]; decide)]
theorem sm_uf : unlE sm4 bO bF = 0 ∧ unlS sm4 bO bF = bT := by
  have h : lookV sm4 bO bF = ⟨bT, oneI, true, 0⟩ := look_of (by decide) s4o s4f s4t (by decide)
  have h0 : unlE sm4 bO bF = 0 := by
    unfold unlE
    rw [h, if_neg (by decide), if_neg (by decide), if_neg (by decide)]
  refine ⟨h0, ?_⟩
  unfold unlS
  rw [if_pos h0, h]
set_option maxRecDepth 100000 in
set_option maxHeartbeats 3200000 in
theorem small_sp {w : World} {F : Th} (hS : Sat w [F]) (hG : Ent F WireG) :
    Calls Tryz.prog 8 #[] w (Ret fun v w' => v = .bool true ∧ Sat w' [F]) := by
 refine calls_enter Tryz.func8 rfl Tryz.ntmps8 rfl ?_
 refine wc_seq (wc_region (wl_assign rfl rfl (wl_nil (qs_seq (wc_seq (wc_region ?_))))))
 have hC1 := hS.split [] [false] rfl; dsimp only [selF, pickA, nthA, List.cons_append, List.nil_append] at hC1
 refine wl_call cal_20 rfl (new_sp hC1) rfl ?_
 rintro e w1 ⟨_, rfl, p, rfl, hS1⟩; refine ⟨_, rfl, ?_⟩
 replace hS1 := hS1.join rfl; dsimp only [List.dropLast, List.cons_append, List.nil_append] at hS1; clear hC1
 refine wl_assign rfl rfl (wl_nil (qs_seq (wc_seq (wc_seq (wc_region (wl_move rfl rfl ?_))))))
 refine wl_eqlNil Tryz.underlying25 rfl rfl rfl ?_
 refine wl_nil (qs_seq ?_)
 refine wc_condF rfl ?_
 refine wc_skip (qs_seq (wc_seq (wc_region (wl_move rfl rfl ?_))))
 refine wl_makeIface nif_25 rfl rfl ?_
 have hC2 := hS1.split [0] [true, false] rfl; dsimp only [selF, pickA, nthA, List.cons_append, List.nil_append] at hC2
 refine wl_call cal_21 rfl (init_sp hC2 (hG.starL 0 rfl)) rfl ?_
 rintro e w2 ⟨_, rfl, rfl, hS2⟩; refine ⟨_, rfl, ?_⟩
 replace hS2 := hS2.join rfl; dsimp only [List.dropLast, List.cons_append, List.nil_append] at hS2; clear hC2
 clear hS1
 rw [show initW emptyW = sm1 from rfl] at hS2
 refine wl_nil (qs_seq (wc_seq (wc_region (wl_move rfl rfl ?_))))
 refine wl_makeIface nif_25 rfl rfl ?_
 have hC3 := hS2.split [0] [true, false] rfl; dsimp only [selF, pickA, nthA, List.cons_append, List.nil_append] at hC3
 refine wl_call cal_42 rfl (mkdir_sp hC3 (hG.starL 0 rfl) s1p (by decide) bR bA bO (by decide) (by decide) (by decide)) rfl ?_
 rintro e w3 ⟨_, rfl, rfl, hS3⟩; refine ⟨_, rfl, ?_⟩
 replace hS3 := hS3.join rfl; dsimp only [List.dropLast, List.cons_append, List.nil_append] at hS3; clear hC3
 clear hS2
 rw [sm_mkW] at hS3
 rw [sm_mk]
 refine wl_assign rfl rfl (wl_nil (qs_seq ?_))
 refine wc_sub (L' := [(2, _), (1, _), (0, _)]) (.cons rfl (.cons rfl (.cons rfl .nil))) ?_
 refine wc_seq (wc_region (wl_move rfl rfl ?_))
 refine wl_makeIface nif_25 rfl rfl ?_
 refine wl_buildX (vs' := [intV filI.k, intV filI.sz, intV filI.ln]) rfl pl_35_0 asz_35 zr_35 rfl rfl rfl ?_
 have hC4 := hS3.split [0] [true, false] rfl; dsimp only [selF, pickA, nthA, List.cons_append, List.nil_append] at hC4
 refine wl_call cal_43 rfl (setI_sp hC4 (hG.starL 0 rfl) bT (by decide) filI_in) rfl ?_
 rintro e w4 ⟨_, rfl, rfl, hS4⟩; refine ⟨_, rfl, ?_⟩
 replace hS4 := hS4.join rfl; dsimp only [List.dropLast, List.cons_append, List.nil_append] at hS4; clear hC4
 clear hS3
 rw [show setI sm2 bT filI = sm3 from rfl] at hS4
 refine wl_nil (qs_seq (wc_seq (wc_region (wl_move rfl rfl ?_))))
 refine wl_makeIface nif_25 rfl rfl ?_
 have hC5 := hS4.split [0] [true, false] rfl; dsimp only [selF, pickA, nthA, List.cons_append, List.nil_append] at hC5
 refine wl_call cal_44 rfl (link_sp hC5 (hG.starL 0 rfl) s3p (by decide) bO bF bT (by decide) (by decide) (by decide)) rfl ?_
 rintro e w5 ⟨_, rfl, rfl, hS5⟩; refine ⟨_, rfl, ?_⟩
 replace hS5 := hS5.join rfl; dsimp only [List.dropLast, List.cons_append, List.nil_append] at hS5; clear hC5
 clear hS4
 rw [sm_lkW] at hS5
 rw [sm_lk]
 refine wl_assign rfl rfl (wl_nil (qs_seq ?_))
 refine wc_sub (L' := [(3, _), (2, _), (1, _), (0, _)]) (.cons rfl (.cons rfl (.cons rfl (.cons rfl .nil)))) ?_
 refine wc_seq (wc_region (wl_move rfl rfl ?_))
 refine wl_makeIface nif_25 rfl rfl ?_
 have hC6 := hS5.split [0] [true, false] rfl; dsimp only [selF, pickA, nthA, List.cons_append, List.nil_append] at hC6
 refine wl_call cal_11 rfl (resolve_sp hC6 (hG.starL 0 rfl) s4p (by decide) bR [97, 47, 46, 47, 102] (by decide) (by decide)) rfl ?_
 rintro e w6 ⟨_, rfl, rfl, hS6⟩; refine ⟨_, rfl, ?_⟩
 replace hS6 := hS6.join rfl; dsimp only [List.dropLast, List.cons_append, List.nil_append] at hS6; clear hC6
 clear hS5
 rw [sm_r1]
 refine wl_move rfl rfl (wl_extract rfl rfl rfl (wl_extract rfl rfl rfl (wl_assign rfl rfl (wl_assign rfl rfl (wl_nil (qs_seq ?_))))))
 refine wc_sub (L' := [(5, _), (4, _), (3, _), (2, _), (1, _), (0, _)]) (.cons rfl (.cons rfl (.cons rfl (.cons rfl (.cons rfl (.cons rfl .nil)))))) ?_
 refine wc_seq (wc_region (wl_move rfl rfl ?_))
 refine wl_makeIface nif_25 rfl rfl ?_
 have hC7 := hS6.split [0] [true, false] rfl; dsimp only [selF, pickA, nthA, List.cons_append, List.nil_append] at hC7
 refine wl_call cal_11 rfl (resolve_sp hC7 (hG.starL 0 rfl) s4p (by decide) bO [46, 46, 47, 97, 47, 47, 102] (by decide) (by decide)) rfl ?_
 rintro e w7 ⟨_, rfl, rfl, hS7⟩; refine ⟨_, rfl, ?_⟩
 replace hS7 := hS7.join rfl; dsimp only [List.dropLast, List.cons_append, List.nil_append] at hS7; clear hC7
 clear hS6
 rw [sm_r2]
 refine wl_move rfl rfl (wl_extract rfl rfl rfl (wl_extract rfl rfl rfl (wl_assign rfl rfl (wl_assign rfl rfl (wl_nil (qs_seq ?_))))))
 refine wc_sub (L' := [(7, _), (6, _), (5, _), (4, _), (3, _), (2, _), (1, _), (0, _)]) (.cons rfl (.cons rfl (.cons rfl (.cons rfl (.cons rfl (.cons rfl (.cons rfl (.cons rfl .nil)))))))) ?_
 refine wc_seq (wc_region (wl_move rfl rfl ?_))
 refine wl_makeIface nif_25 rfl rfl ?_
 have hC8 := hS7.split [0] [true, false] rfl; dsimp only [selF, pickA, nthA, List.cons_append, List.nil_append] at hC8
 refine wl_call cal_11 rfl (resolve_sp hC8 (hG.starL 0 rfl) s4p (by decide) bR [47, 98] (by decide) (by decide)) rfl ?_
 rintro e w8 ⟨_, rfl, rfl, hS8⟩; refine ⟨_, rfl, ?_⟩
 replace hS8 := hS8.join rfl; dsimp only [List.dropLast, List.cons_append, List.nil_append] at hS8; clear hC8
 clear hS7
 rw [sm_r3]
 refine wl_move rfl rfl (wl_extract rfl rfl rfl (wl_extract rfl rfl rfl (wl_assign rfl rfl (wl_assign rfl rfl (wl_nil (qs_seq ?_))))))
 refine wc_sub (L' := [(9, _), (7, _), (6, _), (5, _), (4, _), (3, _), (2, _), (1, _), (0, _)]) (.cons rfl (.cons rfl (.cons rfl (.cons rfl (.cons rfl (.cons rfl (.cons rfl (.cons rfl (.cons rfl .nil))))))))) ?_
 refine wc_seq (wc_region (wl_move rfl rfl ?_))
 refine wl_makeIface nif_25 rfl rfl ?_
 have hC9 := hS8.split [0] [true, false] rfl; dsimp only [selF, pickA, nthA, List.cons_append, List.nil_append] at hC9
 refine wl_call cal_11 rfl (resolve_sp hC9 (hG.starL 0 rfl) s4p (by decide) bR [97, 47, 102, 47, 120] (by decide) (by decide)) rfl ?_
 rintro e w9 ⟨_, rfl, rfl, hS9⟩; refine ⟨_, rfl, ?_⟩
 replace hS9 := hS9.join rfl; dsimp only [List.dropLast, List.cons_append, List.nil_append] at hS9; clear hC9
 clear hS8
 rw [sm_r4]
 refine wl_move rfl rfl (wl_extract rfl rfl rfl (wl_extract rfl rfl rfl (wl_assign rfl rfl (wl_assign rfl rfl (wl_nil (qs_seq ?_))))))
 refine wc_sub (L' := [(11, _), (9, _), (7, _), (6, _), (5, _), (4, _), (3, _), (2, _), (1, _), (0, _)]) (.cons rfl (.cons rfl (.cons rfl (.cons rfl (.cons rfl (.cons rfl (.cons rfl (.cons rfl (.cons rfl (.cons rfl .nil)))))))))) ?_
 refine wc_seq (wc_region (wl_move rfl rfl ?_))
 refine wl_makeIface nif_25 rfl rfl ?_
 have hC10 := hS9.split [0] [true, false] rfl; dsimp only [selF, pickA, nthA, List.cons_append, List.nil_append] at hC10
 refine wl_call cal_12 rfl (parent_sp hC10 (hG.starL 0 rfl) s4p (by decide) bR [97, 47, 120] (by decide) (by decide)) rfl ?_
 rintro e w10 ⟨_, rfl, rfl, hS10⟩; refine ⟨_, rfl, ?_⟩
 replace hS10 := hS10.join rfl; dsimp only [List.dropLast, List.cons_append, List.nil_append] at hS10; clear hC10
 clear hS9
 rw [sm_p1]
 refine wl_move rfl rfl (wl_extract rfl rfl rfl (wl_extract rfl rfl rfl (wl_extract rfl rfl rfl (wl_assign rfl rfl (wl_assign rfl rfl (wl_assign rfl rfl (wl_nil (qs_seq ?_))))))))
 refine wc_sub (L' := [(14, _), (13, _), (12, _), (11, _), (9, _), (7, _), (6, _), (5, _), (4, _), (3, _), (2, _), (1, _), (0, _)]) (.cons rfl (.cons rfl (.cons rfl (.cons rfl (.cons rfl (.cons rfl (.cons rfl (.cons rfl (.cons rfl (.cons rfl (.cons rfl (.cons rfl (.cons rfl .nil))))))))))))) ?_
 refine wc_seq (wc_region (wl_move rfl rfl ?_))
 refine wl_makeIface nif_25 rfl rfl ?_
 have hC11 := hS10.split [0] [true, false] rfl; dsimp only [selF, pickA, nthA, List.cons_append, List.nil_append] at hC11
 refine wl_call cal_12 rfl (parent_sp hC11 (hG.starL 0 rfl) s4p (by decide) bR [97, 47, 46, 46] (by decide) (by decide)) rfl ?_
 rintro e w11 ⟨_, rfl, rfl, hS11⟩; refine ⟨_, rfl, ?_⟩
 replace hS11 := hS11.join rfl; dsimp only [List.dropLast, List.cons_append, List.nil_append] at hS11; clear hC11
 clear hS10
 rw [sm_p2]
 refine wl_move rfl rfl (wl_extract rfl rfl rfl (wl_extract rfl rfl rfl (wl_extract rfl rfl rfl (wl_assign rfl rfl (wl_assign rfl rfl (wl_assign rfl rfl (wl_nil (qs_seq ?_))))))))
 refine wc_sub (L' := [(17, _), (14, _), (13, _), (12, _), (11, _), (9, _), (7, _), (6, _), (5, _), (4, _), (3, _), (2, _), (1, _), (0, _)]) (.cons rfl (.cons rfl (.cons rfl (.cons rfl (.cons rfl (.cons rfl (.cons rfl (.cons rfl (.cons rfl (.cons rfl (.cons rfl (.cons rfl (.cons rfl (.cons rfl .nil)))))))))))))) ?_
 refine wc_seq (wc_region (wl_move rfl rfl ?_))
 refine wl_makeIface nif_25 rfl rfl ?_
 have hC12 := hS11.split [0] [true, false] rfl; dsimp only [selF, pickA, nthA, List.cons_append, List.nil_append] at hC12
 refine wl_call cal_45 rfl (rmdir_sp hC12 (hG.starL 0 rfl) s4p (by decide) bR bA (by decide) (by decide)) rfl ?_
 rintro e w12 ⟨_, rfl, rfl, hS12⟩; refine ⟨_, rfl, ?_⟩
 replace hS12 := hS12.join rfl; dsimp only [List.dropLast, List.cons_append, List.nil_append] at hS12; clear hC12
 clear hS11
 rw [sm_rmW] at hS12
 rw [sm_rm]
 refine wl_assign rfl rfl (wl_nil (qs_seq ?_))
 refine wc_sub (L' := [(18, _), (17, _), (14, _), (13, _), (12, _), (11, _), (9, _), (7, _), (6, _), (5, _), (4, _), (3, _), (2, _), (1, _), (0, _)]) (.cons rfl (.cons rfl (.cons rfl (.cons rfl (.cons rfl (.cons rfl (.cons rfl (.cons rfl (.cons rfl (.cons rfl (.cons rfl (.cons rfl (.cons rfl (.cons rfl (.cons rfl .nil))))))))))))))) ?_
 refine wc_seq (wc_region (wl_move rfl rfl ?_))
 refine wl_makeIface nif_25 rfl rfl ?_
 have hC13 := hS12.split [0] [true, false] rfl; dsimp only [selF, pickA, nthA, List.cons_append, List.nil_append] at hC13
 refine wl_call cal_46 rfl (unl_sp hC13 (hG.starL 0 rfl) s4p (by decide) bR bA (by decide) (by decide)) rfl ?_
 rintro e w13 ⟨_, rfl, rfl, hS13⟩; refine ⟨_, rfl, ?_⟩
 replace hS13 := hS13.join rfl; dsimp only [List.dropLast, List.cons_append, List.nil_append] at hS13; clear hC13
 clear hS12
 rw [sm_uaW] at hS13
 rw [sm_ua]
 refine wl_move rfl rfl (wl_extract rfl rfl rfl (wl_extract rfl rfl rfl (wl_assign rfl rfl (wl_assign rfl rfl (wl_nil (qs_seq ?_))))))
 refine wc_sub (L' := [(20, _), (18, _), (17, _), (14, _), (13, _), (12, _), (11, _), (9, _), (7, _), (6, _), (5, _), (4, _), (3, _), (2, _), (1, _), (0, _)]) (.cons rfl (.cons rfl (.cons rfl (.cons rfl (.cons rfl (.cons rfl (.cons rfl (.cons rfl (.cons rfl (.cons rfl (.cons rfl (.cons rfl (.cons rfl (.cons rfl (.cons rfl (.cons rfl .nil)))))))))))))))) ?_
 refine wc_seq (wc_region (wl_move rfl rfl ?_))
 refine wl_makeIface nif_25 rfl rfl ?_
 have hC14 := hS13.split [0] [true, false] rfl; dsimp only [selF, pickA, nthA, List.cons_append, List.nil_append] at hC14
 refine wl_call cal_46 rfl (unl_sp hC14 (hG.starL 0 rfl) s4p (by decide) bO bF (by decide) (by decide)) rfl ?_
 rintro e w14 ⟨_, rfl, rfl, hS14⟩; refine ⟨_, rfl, ?_⟩
 replace hS14 := hS14.join rfl; dsimp only [List.dropLast, List.cons_append, List.nil_append] at hS14; clear hC14
 clear hS13
 rw [sm_uf.1, sm_uf.2]
 refine wl_move rfl rfl (wl_extract rfl rfl rfl (wl_extract rfl rfl rfl (wl_assign rfl rfl (wl_assign rfl rfl (wl_nil (qs_seq ?_))))))
 refine wc_sub (L' := [(22, _), (21, _), (20, _), (18, _), (17, _), (14, _), (13, _), (12, _), (11, _), (9, _), (7, _), (6, _), (5, _), (4, _), (3, _), (2, _), (0, _)]) (.cons rfl (.cons rfl (.cons rfl (.cons rfl (.cons rfl (.cons rfl (.cons rfl (.cons rfl (.cons rfl (.cons rfl (.cons rfl (.cons rfl (.cons rfl (.cons rfl (.cons rfl (.cons rfl (.cons rfl .nil))))))))))))))))) ?_
 refine wc_seq (wc_region (wl_move rfl rfl ?_))
 refine wl_eql rfl rfl rfl ?_
 refine wl_move rfl rfl ?_
 refine wl_splitD 95 rfl (fun h15 => ?_) (fun h15 => ?_)
 ·refine wl_guard rfl rfl (decide_eq_true h15) ?_
  refine wl_move rfl rfl ?_
  refine wl_guard rfl rfl (decide_eq_true h15) ?_
  refine wl_eql rfl rfl rfl ?_
  refine wl_pickT rfl (decide_eq_true h15) rfl rfl ?_
  refine wl_move rfl rfl ?_
  refine wl_splitD 99 rfl (fun h16 => ?_) (fun h16 => ?_)
  ·refine wl_guard rfl rfl (decide_eq_true h16) ?_
   refine wl_move rfl rfl ?_
   refine wl_guard rfl rfl (decide_eq_true h16) ?_
   refine wl_eqlS rfl rfl rfl ?_
   refine wl_pickT rfl (decide_eq_true h16) rfl rfl ?_
   refine wl_move rfl rfl ?_
   refine wl_splitD 103 rfl (fun h17 => ?_) (fun h17 => ?_)
   ·refine wl_guard rfl rfl (decide_eq_true h17) ?_
    refine wl_move rfl rfl ?_
    refine wl_guard rfl rfl (decide_eq_true h17) ?_
    refine wl_eql rfl rfl rfl ?_
    refine wl_pickT rfl (decide_eq_true h17) rfl rfl ?_
    refine wl_move rfl rfl ?_
    refine wl_splitD 107 rfl (fun h18 => ?_) (fun h18 => ?_)
    ·refine wl_guard rfl rfl (decide_eq_true h18) ?_
     refine wl_move rfl rfl ?_
     refine wl_guard rfl rfl (decide_eq_true h18) ?_
     refine wl_eqlS rfl rfl rfl ?_
     refine wl_pickT rfl (decide_eq_true h18) rfl rfl ?_
     refine wl_move rfl rfl ?_
     refine wl_splitD 111 rfl (fun h19 => ?_) (fun h19 => ?_)
     ·refine wl_guard rfl rfl (decide_eq_true h19) ?_
      refine wl_move rfl rfl ?_
      refine wl_guard rfl rfl (decide_eq_true h19) ?_
      refine wl_eql rfl rfl rfl ?_
      refine wl_pickT rfl (decide_eq_true h19) rfl rfl ?_
      refine wl_move rfl rfl ?_
      refine wl_splitD 115 rfl (fun h20 => ?_) (fun h20 => ?_)
      ·refine wl_guard rfl rfl (decide_eq_true h20) ?_
       refine wl_move rfl rfl ?_
       refine wl_guard rfl rfl (decide_eq_true h20) ?_
       refine wl_eql rfl rfl rfl ?_
       refine wl_pickT rfl (decide_eq_true h20) rfl rfl ?_
       refine wl_move rfl rfl ?_
       refine wl_splitD 119 rfl (fun h21 => ?_) (fun h21 => ?_)
       ·refine wl_guard rfl rfl (decide_eq_true h21) ?_
        refine wl_move rfl rfl ?_
        refine wl_guard rfl rfl (decide_eq_true h21) ?_
        refine wl_eql rfl rfl rfl ?_
        refine wl_pickT rfl (decide_eq_true h21) rfl rfl ?_
        refine wl_assign rfl rfl (wl_nil (qs_seq ?_))
        refine wc_sub (L' := [(23, _), (22, _), (21, _), (20, _), (18, _), (17, _), (14, _), (13, _), (12, _), (0, _)]) (.cons rfl (.cons rfl (.cons rfl (.cons rfl (.cons rfl (.cons rfl (.cons rfl (.cons rfl (.cons rfl (.cons rfl .nil)))))))))) ?_
        refine wc_seq (wc_region (wl_move rfl rfl (wl_move rfl rfl ?_)))
        refine wl_splitD 124 rfl (fun h22 => ?_) (fun h22 => ?_)
        ·refine wl_guard rfl rfl (decide_eq_true h22) ?_
         refine wl_move rfl rfl ?_
         refine wl_guard rfl rfl (decide_eq_true h22) ?_
         refine wl_eqlS rfl rfl rfl ?_
         refine wl_pickT rfl (decide_eq_true h22) rfl rfl ?_
         refine wl_move rfl rfl ?_
         refine wl_splitD 128 rfl (fun h23 => ?_) (fun h23 => ?_)
         ·refine wl_guard rfl rfl (decide_eq_true h23) ?_
          refine wl_move rfl rfl ?_
          refine wl_guard rfl rfl (decide_eq_true h23) ?_
          refine wl_eqlS rfl rfl rfl ?_
          refine wl_pickT rfl (decide_eq_true h23) rfl rfl ?_
          refine wl_move rfl rfl ?_
          refine wl_splitD 132 rfl (fun h24 => ?_) (fun h24 => ?_)
          ·refine wl_guard rfl rfl (decide_eq_true h24) ?_
           refine wl_move rfl rfl ?_
           refine wl_guard rfl rfl (decide_eq_true h24) ?_
           refine wl_eql rfl rfl rfl ?_
           refine wl_pickT rfl (decide_eq_true h24) rfl rfl ?_
           refine wl_move rfl rfl ?_
           refine wl_splitD 136 rfl (fun h25 => ?_) (fun h25 => ?_)
           ·refine wl_guard rfl rfl (decide_eq_true h25) ?_
            refine wl_move rfl rfl ?_
            refine wl_guard rfl rfl (decide_eq_true h25) ?_
            refine wl_eql rfl rfl rfl ?_
            refine wl_pickT rfl (decide_eq_true h25) rfl rfl ?_
            refine wl_move rfl rfl ?_
            refine wl_splitD 140 rfl (fun h26 => ?_) (fun h26 => ?_)
            ·refine wl_guard rfl rfl (decide_eq_true h26) ?_
             refine wl_move rfl rfl ?_
             refine wl_guard rfl rfl (decide_eq_true h26) ?_
             refine wl_eql rfl rfl rfl ?_
             refine wl_pickT rfl (decide_eq_true h26) rfl rfl ?_
             refine wl_move rfl rfl ?_
             refine wl_splitD 144 rfl (fun h27 => ?_) (fun h27 => ?_)
             ·refine wl_guard rfl rfl (decide_eq_true h27) ?_
              refine wl_move rfl rfl ?_
              refine wl_guard rfl rfl (decide_eq_true h27) ?_
              refine wl_eql rfl rfl rfl ?_
              refine wl_pickT rfl (decide_eq_true h27) rfl rfl ?_
              refine wl_move rfl rfl ?_
              refine wl_splitD 148 rfl (fun h28 => ?_) (fun h28 => ?_)
              ·refine wl_guard rfl rfl (decide_eq_true h28) ?_
               refine wl_move rfl rfl ?_
               refine wl_guard rfl rfl (decide_eq_true h28) ?_
               refine wl_eqlS rfl rfl rfl ?_
               refine wl_pickT rfl (decide_eq_true h28) rfl rfl ?_
               refine wl_move rfl rfl ?_
               refine wl_splitD 152 rfl (fun h29 => ?_) (fun h29 => ?_)
               ·refine wl_guard rfl rfl (decide_eq_true h29) ?_
                refine wl_move rfl rfl ?_
                refine wl_guard rfl rfl (decide_eq_true h29) ?_
                refine wl_eql rfl rfl rfl ?_
                refine wl_pickT rfl (decide_eq_true h29) rfl rfl ?_
                refine wl_assign rfl rfl (wl_nil (qs_seq ?_))
                refine wc_sub (L' := [(0, _)]) (.cons rfl .nil) ?_
                refine wc_ret ?_
                refine fin1 (.inr rfl) rfl rfl ?_
                exact ⟨_, rfl, by first | rfl | simp, hS14.pick [1] rfl⟩
               exact absurd rfl h29
              exact absurd rfl h28
             exact absurd rfl h27
            exact absurd rfl h26
           exact absurd rfl h25
          exact absurd rfl h24
         exact absurd rfl h23
        exact absurd rfl h22
       exact absurd rfl h21
      exact absurd rfl h20
     exact absurd rfl h19
    exact absurd rfl h18
   exact absurd rfl h17
  exact absurd rfl h16
 exact absurd rfl h15
end Go.Proofs.YtkaikhcpcbjkcaaGreatDoor
/- laws of names: NamesPaths -/
namespace Go.Proofs.YtkaikhcpcbjkcaaGreatDoor
open Go.RowKit M
set_option linter.unusedVariables false
theorem splitB_app : ∀ (p q : Bs), splitB (p ++ 47 :: q) = splitB p ++ splitB q
  | [], q => by
    show splitB (47 :: q) = _
    rw [splitB_cons, if_pos rfl]; rfl
  | c :: p, q => by
    rw [List.cons_append, splitB_cons, splitB_cons, splitB_app p q]
    by_cases h : c = 47
    · rw [if_pos h, if_pos h]; rfl
    · rw [if_neg h, if_neg h]
      cases hs : splitB p with
      | nil => exact absurd hs (splitB_ne p)
      | cons y t => rfl
theorem partsL_app (p q : Bs) : partsL (p ++ 47 :: q) = partsL p ++ partsL q := by
  unfold partsL
  rw [splitB_app, List.filter_append]
theorem partsL_ne {p x : Bs} (h : x ∈ partsL p) : x ≠ [] := by
  have := (List.mem_filter.1 h).2
  simpa using this
theorem partsL_one {n : Bs} (h1 : n ≠ []) (h2 : (47 : UInt8) ∉ n) : partsL n = [n] := by
  unfold partsL
  rw [splitB_one h2]
  simp [h1]
theorem begE_ok {p : Bs} (h : p ≠ []) (hl : p.length ≤ 64) : begE p = 0 := by unfold begE; rw [if_neg (by omega), if_neg h]
theorem res_eq {W : WS} {cwd p : Bs} (h : p ≠ []) (hl : p.length ≤ 64) : resV W cwd p = walkV W (begS cwd p) (partsL p) := by
  unfold resV
  rw [if_neg (by simp [begE_ok h hl])]
theorem walkP_last {W : WS} : ∀ (ps : List Bs) (d nm x : Bs), nm ≠ [] → (∀ y ∈ ps, y ≠ []) →
    walkP W d nm (ps ++ [x]) = if (walkV W d (nm :: ps)).2 ≠ 0 then ([], [], (walkV W d (nm :: ps)).2) else ((walkV W d (nm :: ps)).1, x, 0)
  | [], d, nm, x, hn, _ => by
    rw [List.nil_append, walkP, if_pos hn, walkV]
    by_cases h : (stepV W d nm).2 ≠ 0
    · rw [if_pos h, if_pos h, if_pos h]
    · rw [if_neg h, if_neg h, walkP, walkV]; simp
  | y :: ps, d, nm, x, hn, hy => by
    rw [List.cons_append, walkP, if_pos hn, walkV]
    by_cases h : (stepV W d nm).2 ≠ 0
    · rw [if_pos h, if_pos h, if_pos h]
    · rw [if_neg h, if_neg h]
      exact walkP_last ps _ _ _ (hy y (by simp)) fun z hz => hy z (List.mem_cons_of_mem _ hz)
theorem walkP_init {W : WS} (ps : List Bs) (d x : Bs) (hy : ∀ y ∈ ps, y ≠ []) : walkP W d [] (ps ++ [x]) = if (walkV W d ps).2 ≠ 0 then ([], [], (walkV W d ps).2) else ((walkV W d ps).1, x, 0) := by
  cases ps with
  | nil => rw [List.nil_append, walkP, if_neg (by simp), walkP, walkV]; simp
  | cons y t => rw [List.cons_append, walkP, if_neg (by simp)]; exact walkP_last t d y x (hy y (by simp)) fun z hz => hy z (List.mem_cons_of_mem _ hz)
end Go.Proofs.YtkaikhcpcbjkcaaGreatDoor
/- world: maps.Equal -/
namespace Go.Proofs.YtkaikhcpcbjkcaaGreatDoor
open Go.RowKit M
set_option linter.unusedVariables false
end Go.Proofs.YtkaikhcpcbjkcaaGreatDoor
/- world: Same -/
namespace Go.Proofs.YtkaikhcpcbjkcaaGreatDoor
open Go.RowKit M
set_option linter.unusedVariables false
end Go.Proofs.YtkaikhcpcbjkcaaGreatDoor
/- laws of names: NamesRename -/
namespace Go.Proofs.YtkaikhcpcbjkcaaGreatDoor
open Go.RowKit M
set_option linter.unusedVariables false
structure RenS (W W' : WS) (x : AcD) : Prop where
  e1 : (resV W' x.td x.to).2 = 0
  e2 : (resV W' x.td x.to).1 = (resV W x.dir x.name).1
  e3 : decide ((resV W' x.dir x.name).2 = 4) = decide ((resV W x.dir x.name).1 ≠ (resV W x.td x.to).1)
  e4 : ∀ k, Lib.hasPrefix k [100, 47] = true → k ≠ kE x.dir x.name → k ≠ kE x.td x.to → W'.cells k = W.cells k
end Go.Proofs.YtkaikhcpcbjkcaaGreatDoor
