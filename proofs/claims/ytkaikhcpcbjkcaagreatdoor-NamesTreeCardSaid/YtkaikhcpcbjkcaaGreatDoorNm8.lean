/- laws of names: few, do, right -/
import Derived.Test.YtkaikhcpcbjkcaaGreatDoorNm7
namespace Go.Proofs.YtkaikhcpcbjkcaaGreatDoor
open Go.RowKit M
set_option linter.unusedVariables false
/-- a call of the law -/
structure AcD where
  d : Int
  dir : Bs
  name : Bs
  id : Bs
  td : Bs
  to : Bs
  n : InD
def acV (x : AcD) : List Value := [intV x.d, strV x.dir, strV x.name, strV x.id, strV x.td, strV x.to, intV x.n.k, intV x.n.sz, intV x.n.ln]
def acC : RowC AcD := ⟨acV, 9, by decide, fun _ => rfl, fun _ => rfl⟩
def okA (x : AcD) : Bool := decide (x.dir.length ≤ 30) && decide (x.name.length ≤ 30) && decide (x.id.length ≤ 30) && decide (x.td.length ≤ 30) && decide (x.to.length ≤ 30)
def fewA (l : List AcD) : Bool := l.all okA && decide (l.length ≤ 40)
theorem fewA_bad {l : List AcD} {i : Nat} {x : AcD} (ha : l[i]? = some x) (h : okA x = false) : Value.bool false = .bool (fewA l) := by
  have : l.all okA = false := by
    rw [List.all_eq_false]; exact ⟨x, List.mem_of_getElem? ha, by rw [h]; simp⟩
  simp [fewA, this]
theorem fewA_end {l : List AcD} {i : Nat} (hok : ∀ j a, j < i → l[j]? = some a → okA a = true) (hi : i ≤ l.length) (he : ¬ i < l.length) : Value.bool (decide ((l.length : Int) ≤ 40)) = .bool (fewA l) := by
  have : l.all okA = true := by
    rw [List.all_eq_true]; intro a ha
    obtain ⟨j, hj⟩ := List.mem_iff_getElem?.1 ha
    exact hok j a (by have := (List.getElem?_eq_some_iff.1 hj).1; omega) hj
  unfold fewA
  rw [this, Bool.true_and]
  congr 1
  exact decide_eq_decide.2 (by omega)
structure OkA (x : AcD) : Prop where
  dir : x.dir.length ≤ 30
  name : x.name.length ≤ 30
  id : x.id.length ≤ 30
  td : x.td.length ≤ 30
  to : x.to.length ≤ 30
theorem okA_is {x : AcD} (h : okA x = true) : OkA x := by
  simp only [okA, Bool.and_eq_true, decide_eq_true_eq] at h
  exact ⟨h.1.1.1.1, h.1.1.1.2, h.1.1.2, h.1.2, h.2⟩
noncomputable def doV (W : WS) (x : AcD) : Bs × Int :=
  if x.d % 8 = 0 then ([], linkE W x.dir x.name x.id) else if x.d % 8 = 1 then (unlS W x.dir x.name, unlE W x.dir x.name) else if x.d % 8 = 2 ∨ x.d % 8 = 3 then ([], mkdE W x.dir x.name x.id) else
    if x.d % 8 = 4 then ([], rmdE W x.dir x.name) else if x.d % 8 = 5 then (renS W x.dir x.name x.td x.to, renE W x.dir x.name x.td x.to) else ([], 0)
noncomputable def doW (W : WS) (x : AcD) : WS :=
  if x.d % 8 = 0 then linkW W x.dir x.name x.id else if x.d % 8 = 1 then unlW W x.dir x.name else if x.d % 8 = 2 ∨ x.d % 8 = 3 then mkdW W x.dir x.name x.id else
    if x.d % 8 = 4 then rmdW W x.dir x.name else if x.d % 8 = 5 then renW W x.dir x.name x.td x.to else if x.d % 8 = 6 then setI W x.id x.n else noI W x.id
theorem kE_len (dir name : Bs) : (kE dir name).length = dir.length + name.length + 3 := by unfold kE; simp; omega
theorem doW_pi {W : WS} {m : Nat} (h : PI W m) {x : AcD} (hx : OkA x) (hn : InB x.n) : PI (doW W x) (m + 5) := by
  have hE : ∀ {V : WS} {k : Nat} {a b v : Bs}, PI V k → a.length ≤ 30 → b.length ≤ 30 → v.length ≤ 400 → PI (putS V (kE a b) v) (k + 1) := fun hV ha hb hv => hV.put (by rw [kE_len]; omega) hv
  have hd := hx.dir; have hnm := hx.name; have hi := hx.id; have htd := hx.td; have hto := hx.to
  have hl1 := lookV_len h x.dir x.name
  have hl2 := lookV_len h x.td x.to
  unfold doW
  split
  · unfold linkW
    split
    · exact (setI_pi (hE h hd hnm (by omega)) (by omega) (lnk_in (gI_in _ _) _)).mono (by omega)
    · exact h.mono (by omega)
  · split
    · unfold unlW
      split
      · exact (setI_pi (hE h hd hnm (by simp)) (by omega) (lnk_in (lookV_in _ _ _) _)).mono (by omega)
      · exact h.mono (by omega)
    · split
      · unfold mkdW
        split
        · exact (hE ((setI_pi h (by omega) mkdI_in).put (by unfold kU; simp; omega) (by omega)) hd hnm (by omega)).mono (by omega)
        · exact h.mono (by omega)
      · split
        · unfold rmdW
          split
          · exact (noI_pi (hE h hd hnm (by simp)) (by omega)).mono (by omega)
          · exact h.mono (by omega)
        · split
          · unfold renW
            split
            · exact (hE (hE (repW_pi h (by omega) (lookV_in _ _ _)) hd hnm (by simp)) htd hto (by omega)).mono (by omega)
            · exact h.mono (by omega)
          · split
            · exact (setI_pi h (by omega) hn).mono (by omega)
            · exact (noI_pi h (by omega)).mono (by omega)
def rightB (id : Bs) : Bool := !decide ((47 : UInt8) ∈ id) && !decide (id = [])
def filI : InD := ⟨1, 0, 0⟩
theorem filI_in : InB filI := ⟨by unfold inI filI; simp, by unfold inI filI; simp, by unfold inI filI; simp⟩
noncomputable def groS (W : WS) (x : AcD) : WS := if x.d % 8 < 6 then doW W x else if bI W x.id = false ∧ rightB x.id = true then setI W x.id filI else W
noncomputable def groW (l : List AcD) : WS := l.foldl groS (initW emptyW)
theorem initW_pi : PI (initW emptyW) 2 := (setI_pi PI.empty (by simp) mkdI_in).put (by simp [kU]) (by simp)
theorem groS_pi {W : WS} {m : Nat} (h : PI W m) {x : AcD} (hx : OkA x) (hn : InB x.n) : PI (groS W x) (m + 5) := by
  unfold groS
  split
  · exact doW_pi h hx hn
  · split
    · exact (setI_pi h (by have := hx.id; omega) filI_in).mono (by omega)
    · exact h.mono (by omega)
set_option maxRecDepth 100000 in
set_option maxHeartbeats 800000 in
theorem few_sp {w : World} {F : Th} (hS : Sat w [F]) {lv : Value} {l : List AcD} (hL : Ent F (RdL acC lv l)) :
    Calls Tryz.prog 9 #[lv] w (Ret fun v w' => v = .bool (fewA l) ∧ Sat w' [F]) := by
 obtain ⟨ao, cap, rfl, hmax⟩ := (hL.sat hS 0 rfl).shape
 refine calls_enter Tryz.func9 rfl Tryz.ntmps9 rfl ?_
 refine wc_seq (wc_region (wl_assign rfl rfl (wl_nil (qs_seq (wc_seq (wc_seq (wc_region (wl_assign rfl rfl (wl_nil (qs_seq (wc_block ?_)))))))))))
 refine wc_loop (fun K0 E0 W0 => ∃ (i : Nat), K0 = l.length - i ∧ E0 = [(0, .slice ao l.length cap), (3, intV (i : Int))] ∧ Sat W0 [F] ∧ (i ≤ l.length) ∧ (∀ j a, j < i → l[j]? = some a → okA a = true)) (L0 := [(0, _), (3, _)]) (l.length - 0) (.cons rfl (.cons rfl .nil)) ⟨0, rfl, rfl, hS, by omega, by omega⟩ ?_
 rintro _ _ w1 ⟨i, rfl, rfl, hS1, hi, hok⟩
 refine wc_seq (wc_seq (wc_region (wl_move rfl rfl (wl_move rfl rfl ?_))))
 refine wl_lenL Tryz.underlying22 rfl rfl ?_
 refine wl_lss rfl rfl rfl ?_
 refine wl_nil (qs_seq ?_)
 refine wc_condD rfl (fun h2 => ?_) (fun h2 => ?_)
 ·obtain ⟨x, ha⟩ : ∃ x, l[i]? = some x := ⟨_, List.getElem?_eq_getElem (by omega)⟩
  obtain ⟨b, off, rfl, _⟩ := (hL.sat hS1 0 rfl).get ha
  have hil := (List.getElem?_eq_some_iff.1 ha).1
  refine wc_skip (qs_seq (wc_seq (wc_block (wc_seq (wc_region (wl_move rfl rfl (wl_move rfl rfl ?_)))))))
  refine wl_indexAddr i rfl rfl (by first | rfl | omega) (by omega) es_22 rfl ?_
  refine wl_loadAt rfl ag_37 sz_37 (vs := acV x) ((hL.sat hS1 0 rfl).at_ ha) rfl ?_
  refine wl_alloc hS1 zr_37 rfl rfl ?_
  intro b3 w3 hS3
  clear hS1
  first | (refine wl_storeA hS3 rfl rfl sz_37 rfl (by first | rfl | (simp [allOne, Value.oneCell']; done) | assumption | exact hone) (i := 0) rfl (by first | decide | exact Nat.le_of_ble_eq_true rfl | (simp; done) | omega) ?_)
  intro w4 hS5; dsimp only [List.set] at hS5
  clear hS3
  refine wl_nil (qs_seq ?_)
  refine wc_sub (L' := [(4, _), (0, _), (3, _)]) (.cons rfl (.cons rfl (.cons rfl .nil))) ?_
  refine wc_seq (wc_region ?_)
  refine wl_fieldAddr rfl fo_37_1 rfl ?_
  refine wl_load rfl ag_9 (by first | assumption | exact hS5.cell 0 rfl rfl) rfl ?_
  refine wl_lenS Tryz.underlying9 rfl rfl ?_
  refine wl_gtr rfl rfl rfl ?_
  refine wl_move rfl rfl ?_
  refine wl_splitD 19 rfl (fun h6 => ?_) (fun h6 => ?_)
  ·have hoo : okA x = false := by unfold okA; simp; omega
   refine wl_unwanted rfl rfl (decide_eq_true h6) rfl ?_
   refine wl_unwanted rfl rfl (decide_eq_true h6) rfl ?_
   refine wl_unwanted rfl rfl (decide_eq_true h6) rfl ?_
   refine wl_unwanted rfl rfl (decide_eq_true h6) rfl ?_
   refine wl_pickT rfl (decide_eq_true h6) rfl rfl ?_
   refine wl_move rfl rfl ?_
   refine wl_unwanted rfl rfl rfl rfl ?_
   refine wl_unwanted rfl rfl rfl rfl ?_
   refine wl_unwanted rfl rfl rfl rfl ?_
   refine wl_unwanted rfl rfl rfl rfl ?_
   refine wl_pickT rfl rfl rfl rfl ?_
   refine wl_move rfl rfl ?_
   refine wl_unwanted rfl rfl rfl rfl ?_
   refine wl_unwanted rfl rfl rfl rfl ?_
   refine wl_unwanted rfl rfl rfl rfl ?_
   refine wl_unwanted rfl rfl rfl rfl ?_
   refine wl_pickT rfl rfl rfl rfl ?_
   refine wl_move rfl rfl ?_
   refine wl_unwanted rfl rfl rfl rfl ?_
   refine wl_unwanted rfl rfl rfl rfl ?_
   refine wl_unwanted rfl rfl rfl rfl ?_
   refine wl_unwanted rfl rfl rfl rfl ?_
   refine wl_pickT rfl rfl rfl rfl ?_
   refine wl_nil (qs_seq ?_)
   refine wc_sub (L' := [(42, _), (0, _), (3, _)]) (.cons rfl (.cons rfl (.cons rfl .nil))) ?_
   refine wc_condT rfl ?_
   refine wc_seq (wc_region (wl_assign rfl rfl (wl_nil (qs_seq (wc_ret (qs_block_ret (qs_then_ret (qs_then_ret (qs_block_ret (qs_then_ret ?_))))))))))
   refine fin1 (.inr rfl) rfl rfl ?_
   exact ⟨_, rfl, fewA_bad ha hoo, hS5.pick [1] rfl⟩
  refine wl_guard rfl rfl (decide_eq_false h6) ?_
  refine wl_fieldAddr rfl fo_37_2 rfl ?_
  refine wl_guard rfl rfl (decide_eq_false h6) ?_
  refine wl_load rfl ag_9 (by first | assumption | exact hS5.cell 0 rfl rfl) rfl ?_
  refine wl_guard rfl rfl (decide_eq_false h6) ?_
  refine wl_lenS Tryz.underlying9 rfl rfl ?_
  refine wl_guard rfl rfl (decide_eq_false h6) ?_
  refine wl_gtr rfl rfl rfl ?_
  refine wl_pickF rfl (decide_eq_false h6) rfl rfl ?_
  refine wl_move rfl rfl ?_
  refine wl_splitD 25 rfl (fun h7 => ?_) (fun h7 => ?_)
  ·have hoo : okA x = false := by unfold okA; simp; omega
   refine wl_unwanted rfl rfl (decide_eq_true h7) rfl ?_
   refine wl_unwanted rfl rfl (decide_eq_true h7) rfl ?_
   refine wl_unwanted rfl rfl (decide_eq_true h7) rfl ?_
   refine wl_unwanted rfl rfl (decide_eq_true h7) rfl ?_
   refine wl_pickT rfl (decide_eq_true h7) rfl rfl ?_
   refine wl_move rfl rfl ?_
   refine wl_unwanted rfl rfl rfl rfl ?_
   refine wl_unwanted rfl rfl rfl rfl ?_
   refine wl_unwanted rfl rfl rfl rfl ?_
   refine wl_unwanted rfl rfl rfl rfl ?_
   refine wl_pickT rfl rfl rfl rfl ?_
   refine wl_move rfl rfl ?_
   refine wl_unwanted rfl rfl rfl rfl ?_
   refine wl_unwanted rfl rfl rfl rfl ?_
   refine wl_unwanted rfl rfl rfl rfl ?_
   refine wl_unwanted rfl rfl rfl rfl ?_
   refine wl_pickT rfl rfl rfl rfl ?_
   refine wl_nil (qs_seq ?_)
   refine wc_sub (L' := [(42, _), (0, _), (3, _)]) (.cons rfl (.cons rfl (.cons rfl .nil))) ?_
   refine wc_condT rfl ?_
   refine wc_seq (wc_region (wl_assign rfl rfl (wl_nil (qs_seq (wc_ret (qs_block_ret (qs_then_ret (qs_then_ret (qs_block_ret (qs_then_ret ?_))))))))))
   refine fin1 (.inr rfl) rfl rfl ?_
   exact ⟨_, rfl, fewA_bad ha hoo, hS5.pick [1] rfl⟩
  refine wl_guard rfl rfl (decide_eq_false h7) ?_
  refine wl_fieldAddr rfl fo_37_3 rfl ?_
  refine wl_guard rfl rfl (decide_eq_false h7) ?_
  refine wl_load rfl ag_9 (by first | assumption | exact hS5.cell 0 rfl rfl) rfl ?_
  refine wl_guard rfl rfl (decide_eq_false h7) ?_
  refine wl_lenS Tryz.underlying9 rfl rfl ?_
  refine wl_guard rfl rfl (decide_eq_false h7) ?_
  refine wl_gtr rfl rfl rfl ?_
  refine wl_pickF rfl (decide_eq_false h7) rfl rfl ?_
  refine wl_move rfl rfl ?_
  refine wl_splitD 31 rfl (fun h8 => ?_) (fun h8 => ?_)
  ·have hoo : okA x = false := by unfold okA; simp; omega
   refine wl_unwanted rfl rfl (decide_eq_true h8) rfl ?_
   refine wl_unwanted rfl rfl (decide_eq_true h8) rfl ?_
   refine wl_unwanted rfl rfl (decide_eq_true h8) rfl ?_
   refine wl_unwanted rfl rfl (decide_eq_true h8) rfl ?_
   refine wl_pickT rfl (decide_eq_true h8) rfl rfl ?_
   refine wl_move rfl rfl ?_
   refine wl_unwanted rfl rfl rfl rfl ?_
   refine wl_unwanted rfl rfl rfl rfl ?_
   refine wl_unwanted rfl rfl rfl rfl ?_
   refine wl_unwanted rfl rfl rfl rfl ?_
   refine wl_pickT rfl rfl rfl rfl ?_
   refine wl_nil (qs_seq ?_)
   refine wc_sub (L' := [(42, _), (0, _), (3, _)]) (.cons rfl (.cons rfl (.cons rfl .nil))) ?_
   refine wc_condT rfl ?_
   refine wc_seq (wc_region (wl_assign rfl rfl (wl_nil (qs_seq (wc_ret (qs_block_ret (qs_then_ret (qs_then_ret (qs_block_ret (qs_then_ret ?_))))))))))
   refine fin1 (.inr rfl) rfl rfl ?_
   exact ⟨_, rfl, fewA_bad ha hoo, hS5.pick [1] rfl⟩
  refine wl_guard rfl rfl (decide_eq_false h8) ?_
  refine wl_fieldAddr rfl fo_37_4 rfl ?_
  refine wl_guard rfl rfl (decide_eq_false h8) ?_
  refine wl_load rfl ag_9 (by first | assumption | exact hS5.cell 0 rfl rfl) rfl ?_
  refine wl_guard rfl rfl (decide_eq_false h8) ?_
  refine wl_lenS Tryz.underlying9 rfl rfl ?_
  refine wl_guard rfl rfl (decide_eq_false h8) ?_
  refine wl_gtr rfl rfl rfl ?_
  refine wl_pickF rfl (decide_eq_false h8) rfl rfl ?_
  refine wl_move rfl rfl ?_
  refine wl_splitD 37 rfl (fun h9 => ?_) (fun h9 => ?_)
  ·have hoo : okA x = false := by unfold okA; simp; omega
   refine wl_unwanted rfl rfl (decide_eq_true h9) rfl ?_
   refine wl_unwanted rfl rfl (decide_eq_true h9) rfl ?_
   refine wl_unwanted rfl rfl (decide_eq_true h9) rfl ?_
   refine wl_unwanted rfl rfl (decide_eq_true h9) rfl ?_
   refine wl_pickT rfl (decide_eq_true h9) rfl rfl ?_
   refine wl_nil (qs_seq ?_)
   refine wc_sub (L' := [(42, _), (0, _), (3, _)]) (.cons rfl (.cons rfl (.cons rfl .nil))) ?_
   refine wc_condT rfl ?_
   refine wc_seq (wc_region (wl_assign rfl rfl (wl_nil (qs_seq (wc_ret (qs_block_ret (qs_then_ret (qs_then_ret (qs_block_ret (qs_then_ret ?_))))))))))
   refine fin1 (.inr rfl) rfl rfl ?_
   exact ⟨_, rfl, fewA_bad ha hoo, hS5.pick [1] rfl⟩
  refine wl_guard rfl rfl (decide_eq_false h9) ?_
  refine wl_fieldAddr rfl fo_37_5 rfl ?_
  refine wl_guard rfl rfl (decide_eq_false h9) ?_
  refine wl_load rfl ag_9 (by first | assumption | exact hS5.cell 0 rfl rfl) rfl ?_
  refine wl_guard rfl rfl (decide_eq_false h9) ?_
  refine wl_lenS Tryz.underlying9 rfl rfl ?_
  refine wl_guard rfl rfl (decide_eq_false h9) ?_
  refine wl_gtr rfl rfl rfl ?_
  refine wl_pickF rfl (decide_eq_false h9) rfl rfl ?_
  refine wl_nil (qs_seq ?_)
  refine wc_sub (L' := [(42, _), (0, _), (3, _)]) (.cons rfl (.cons rfl (.cons rfl .nil))) ?_
  refine wc_condD rfl (fun h10 => ?_) (fun h10 => ?_)
  ·have hoo : okA x = false := by unfold okA; simp; omega
   refine wc_seq (wc_region (wl_assign rfl rfl (wl_nil (qs_seq (wc_ret (qs_block_ret (qs_then_ret (qs_then_ret (qs_block_ret (qs_then_ret ?_))))))))))
   refine fin1 (.inr rfl) rfl rfl ?_
   exact ⟨_, rfl, fewA_bad ha hoo, hS5.pick [1] rfl⟩
  have hoo : okA x = true := by unfold okA; simp; omega
  refine wc_skip (qs_block_normal (qs_seq (wc_region (wl_move rfl rfl ?_))))
  refine wl_add rfl rfl (by first | omega | (simp; omega)) (by first | omega | (simp; omega)) rfl ?_
  refine wl_assign rfl rfl (wl_nil ?_)
  exact qs_round (L1 := [(0, _), (3, intV ((i + 1 : Nat) : Int))]) (.cons rfl (.cons rfl .nil)) (k1 := l.length - (i + 1)) (by omega) ⟨i + 1, rfl, rfl, hS5.pick [1] rfl, by omega, fun j b hj hb => by by_cases e : j = i; (subst e; rw [ha] at hb; cases hb; exact hoo); exact hok j b (by omega) hb⟩
 refine wc_exit (qs_then_exit (qs_then_exit (qs_block_exit (qs_seq (wc_seq (wc_region (wl_move rfl rfl ?_)))))))
 refine wl_lenL Tryz.underlying22 rfl rfl ?_
 refine wl_leq rfl rfl rfl ?_
 refine wl_assign rfl rfl (wl_nil (qs_seq (wc_ret ?_)))
 refine fin1 (.inr rfl) rfl rfl ?_
 exact ⟨_, rfl, fewA_end hok hi (by omega), hS1.pick [0] rfl⟩
set_option maxRecDepth 100000 in
set_option maxHeartbeats 1600000 in
theorem do_sp {w : World} {p : Nat} {W : WS} {m : Nat} {F : Th} (hS : Sat w [worldT p W, F]) (hG : Ent F WireG) (hP : PI W m) (hm : m ≤ 900) {x : AcD} (hx : OkA x) (hn : InB x.n) :
    Calls Tryz.prog 15 #[.iface 25 (ptrV p 0), .agg #[intV x.d, strV x.dir, strV x.name, strV x.id, strV x.td, strV x.to, intV x.n.k, intV x.n.sz, intV x.n.ln]] w (Ret fun v w' => v = .tuple #[strV (doV W x).1, intV (doV W x).2] ∧ Sat w' [worldT p (doW W x), F]) := by
 refine calls_enter Tryz.func15 rfl Tryz.ntmps15 rfl ?_
 refine wc_seq (wc_region ?_)
 refine wl_box hS rfl rfl rfl ?_
 intro b1 w1 hS1
 refine wl_assign rfl rfl (wl_assign rfl rfl (wl_nil (qs_seq (wc_seq (wc_seq (wc_region ?_))))))
 refine wl_fieldAddr rfl fo_37_0 rfl ?_
 refine wl_load rfl ag_3 (by first | assumption | exact hS1.cell 0 rfl rfl) rfl ?_
 refine wl_mask 3 rfl rfl rfl rfl (q := 8) rfl rfl ?_
 refine wl_nil (qs_seq (wc_block (wc_seq (wc_region ?_))))
 refine wl_eql rfl rfl rfl ?_
 refine wl_assign rfl rfl (wl_nil (qs_seq ?_))
 refine wc_condD rfl (fun h2 => ?_) (fun h2 => ?_)
 ·refine wc_seq (wc_region (wl_move rfl rfl ?_))
  refine wl_fieldAddr rfl fo_37_1 rfl ?_
  refine wl_load rfl ag_9 (by first | assumption | exact hS1.cell 0 rfl rfl) rfl ?_
  refine wl_fieldAddr rfl fo_37_2 rfl ?_
  refine wl_load rfl ag_9 (by first | assumption | exact hS1.cell 0 rfl rfl) rfl ?_
  refine wl_fieldAddr rfl fo_37_3 rfl ?_
  refine wl_load rfl ag_9 (by first | assumption | exact hS1.cell 0 rfl rfl) rfl ?_
  have hC3 := hS1.split [1] [false, true, false] rfl; dsimp only [selF, pickA, nthA, List.cons_append, List.nil_append] at hC3
  refine wl_call cal_44 rfl (link_sp hC3 (hG.starL 1 rfl) hP hm x.dir x.name x.id (by have := hx.dir; omega) (by have := hx.name; omega) (by have := hx.id; omega)) rfl ?_
  rintro e w3 ⟨_, rfl, rfl, hS3⟩; refine ⟨_, rfl, ?_⟩
  replace hS3 := hS3.join rfl; dsimp only [List.dropLast, List.cons_append, List.nil_append] at hS3; clear hC3
  clear hS1
  refine wl_assign rfl rfl (wl_assign rfl rfl (wl_nil (qs_seq ?_)))
  refine wc_sub (L' := [(5, _), (4, _)]) (.cons rfl (.cons rfl .nil)) ?_
  refine wc_ret (qs_block_ret (qs_then_ret ?_))
  refine fin2 (.inr rfl) rfl rfl rfl ?_
  exact ⟨_, rfl, by unfold doV; rw [if_pos (by assumption)], by unfold doW; rw [if_pos (by assumption)]; exact hS3.pick [0, 2] rfl⟩
 refine wc_seq (wc_region ?_)
 refine wl_eql rfl rfl rfl ?_
 refine wl_assign rfl rfl (wl_nil (qs_seq ?_))
 refine wc_sub (L' := [(23, _), (8, _), (5, _), (4, _), (3, _), (0, _)]) (.cons rfl (.cons rfl (.cons rfl (.cons rfl (.cons rfl (.cons rfl .nil)))))) ?_
 refine wc_condD rfl (fun h4 => ?_) (fun h4 => ?_)
 ·refine wc_seq (wc_region (wl_move rfl rfl ?_))
  refine wl_fieldAddr rfl fo_37_1 rfl ?_
  refine wl_load rfl ag_9 (by first | assumption | exact hS1.cell 0 rfl rfl) rfl ?_
  refine wl_fieldAddr rfl fo_37_2 rfl ?_
  refine wl_load rfl ag_9 (by first | assumption | exact hS1.cell 0 rfl rfl) rfl ?_
  have hC5 := hS1.split [1] [false, true, false] rfl; dsimp only [selF, pickA, nthA, List.cons_append, List.nil_append] at hC5
  refine wl_call cal_46 rfl (unl_sp hC5 (hG.starL 1 rfl) hP hm x.dir x.name (by have := hx.dir; omega) (by have := hx.name; omega)) rfl ?_
  rintro e w5 ⟨_, rfl, rfl, hS5⟩; refine ⟨_, rfl, ?_⟩
  replace hS5 := hS5.join rfl; dsimp only [List.dropLast, List.cons_append, List.nil_append] at hS5; clear hC5
  clear hS1
  refine wl_extract rfl rfl rfl (wl_extract rfl rfl rfl (wl_assign rfl rfl (wl_assign rfl rfl (wl_nil (qs_seq ?_)))))
  refine wc_sub (L' := [(5, _), (4, _)]) (.cons rfl (.cons rfl .nil)) ?_
  refine wc_ret (qs_block_ret (qs_then_ret ?_))
  refine fin2 (.inr rfl) rfl rfl rfl ?_
  exact ⟨_, rfl, by unfold doV; rw [if_neg (by omega), if_pos (by assumption)], by unfold doW; rw [if_neg (by omega), if_pos (by assumption)]; exact hS5.pick [0, 2] rfl⟩
 refine wc_seq (wc_seq (wc_region ?_))
 refine wl_eql rfl rfl rfl ?_
 refine wl_assign rfl rfl (wl_nil (qs_seq ?_))
 refine wc_condD rfl (fun h6 => ?_) (fun h6 => ?_)
 ·refine wc_skip (qs_seq ?_)
  refine wc_condKT rfl (decide_eq_true h6) ?_
  refine wc_seq (wc_region (wl_move rfl rfl ?_))
  refine wl_fieldAddr rfl fo_37_1 rfl ?_
  refine wl_load rfl ag_9 (by first | assumption | exact hS1.cell 0 rfl rfl) rfl ?_
  refine wl_fieldAddr rfl fo_37_2 rfl ?_
  refine wl_load rfl ag_9 (by first | assumption | exact hS1.cell 0 rfl rfl) rfl ?_
  refine wl_fieldAddr rfl fo_37_3 rfl ?_
  refine wl_load rfl ag_9 (by first | assumption | exact hS1.cell 0 rfl rfl) rfl ?_
  have hC7 := hS1.split [1] [false, true, false] rfl; dsimp only [selF, pickA, nthA, List.cons_append, List.nil_append] at hC7
  refine wl_call cal_42 rfl (mkdir_sp hC7 (hG.starL 1 rfl) hP hm x.dir x.name x.id (by have := hx.dir; omega) (by have := hx.name; omega) (by have := hx.id; omega)) rfl ?_
  rintro e w7 ⟨_, rfl, rfl, hS7⟩; refine ⟨_, rfl, ?_⟩
  replace hS7 := hS7.join rfl; dsimp only [List.dropLast, List.cons_append, List.nil_append] at hS7; clear hC7
  clear hS1
  refine wl_assign rfl rfl (wl_assign rfl rfl (wl_nil (qs_seq ?_)))
  refine wc_sub (L' := [(5, _), (4, _)]) (.cons rfl (.cons rfl .nil)) ?_
  refine wc_ret (qs_block_ret (qs_then_ret ?_))
  refine fin2 (.inr rfl) rfl rfl rfl ?_
  exact ⟨_, rfl, by unfold doV; rw [if_neg (by omega), if_neg (by omega), if_pos (by omega)], by unfold doW; rw [if_neg (by omega), if_neg (by omega), if_pos (by omega)]; exact hS7.pick [0, 2] rfl⟩
 refine wc_region ?_
 refine wl_eql rfl rfl rfl ?_
 refine wl_assign rfl rfl (wl_nil (qs_seq ?_))
 refine wc_condD rfl (fun h8 => ?_) (fun h8 => ?_)
 ·refine wc_seq (wc_region (wl_move rfl rfl ?_))
  refine wl_fieldAddr rfl fo_37_1 rfl ?_
  refine wl_load rfl ag_9 (by first | assumption | exact hS1.cell 0 rfl rfl) rfl ?_
  refine wl_fieldAddr rfl fo_37_2 rfl ?_
  refine wl_load rfl ag_9 (by first | assumption | exact hS1.cell 0 rfl rfl) rfl ?_
  refine wl_fieldAddr rfl fo_37_3 rfl ?_
  refine wl_load rfl ag_9 (by first | assumption | exact hS1.cell 0 rfl rfl) rfl ?_
  have hC9 := hS1.split [1] [false, true, false] rfl; dsimp only [selF, pickA, nthA, List.cons_append, List.nil_append] at hC9
  refine wl_call cal_42 rfl (mkdir_sp hC9 (hG.starL 1 rfl) hP hm x.dir x.name x.id (by have := hx.dir; omega) (by have := hx.name; omega) (by have := hx.id; omega)) rfl ?_
  rintro e w9 ⟨_, rfl, rfl, hS9⟩; refine ⟨_, rfl, ?_⟩
  replace hS9 := hS9.join rfl; dsimp only [List.dropLast, List.cons_append, List.nil_append] at hS9; clear hC9
  clear hS1
  refine wl_assign rfl rfl (wl_assign rfl rfl (wl_nil (qs_seq ?_)))
  refine wc_sub (L' := [(5, _), (4, _)]) (.cons rfl (.cons rfl .nil)) ?_
  refine wc_ret (qs_block_ret (qs_then_ret ?_))
  refine fin2 (.inr rfl) rfl rfl rfl ?_
  exact ⟨_, rfl, by unfold doV; rw [if_neg (by omega), if_neg (by omega), if_pos (by omega)], by unfold doW; rw [if_neg (by omega), if_neg (by omega), if_pos (by omega)]; exact hS9.pick [0, 2] rfl⟩
 refine wc_seq (wc_region ?_)
 refine wl_eql rfl rfl rfl ?_
 refine wl_assign rfl rfl (wl_nil (qs_seq ?_))
 refine wc_sub (L' := [(44, _), (8, _), (5, _), (4, _), (3, _), (0, _)]) (.cons rfl (.cons rfl (.cons rfl (.cons rfl (.cons rfl (.cons rfl .nil)))))) ?_
 refine wc_condD rfl (fun h10 => ?_) (fun h10 => ?_)
 ·refine wc_seq (wc_region (wl_move rfl rfl ?_))
  refine wl_fieldAddr rfl fo_37_1 rfl ?_
  refine wl_load rfl ag_9 (by first | assumption | exact hS1.cell 0 rfl rfl) rfl ?_
  refine wl_fieldAddr rfl fo_37_2 rfl ?_
  refine wl_load rfl ag_9 (by first | assumption | exact hS1.cell 0 rfl rfl) rfl ?_
  have hC11 := hS1.split [1] [false, true, false] rfl; dsimp only [selF, pickA, nthA, List.cons_append, List.nil_append] at hC11
  refine wl_call cal_45 rfl (rmdir_sp hC11 (hG.starL 1 rfl) hP hm x.dir x.name (by have := hx.dir; omega) (by have := hx.name; omega)) rfl ?_
  rintro e w11 ⟨_, rfl, rfl, hS11⟩; refine ⟨_, rfl, ?_⟩
  replace hS11 := hS11.join rfl; dsimp only [List.dropLast, List.cons_append, List.nil_append] at hS11; clear hC11
  clear hS1
  refine wl_assign rfl rfl (wl_assign rfl rfl (wl_nil (qs_seq ?_)))
  refine wc_sub (L' := [(5, _), (4, _)]) (.cons rfl (.cons rfl .nil)) ?_
  refine wc_ret (qs_block_ret (qs_then_ret ?_))
  refine fin2 (.inr rfl) rfl rfl rfl ?_
  exact ⟨_, rfl, by unfold doV; rw [if_neg (by omega), if_neg (by omega), if_neg (by omega), if_pos (by assumption)], by unfold doW; rw [if_neg (by omega), if_neg (by omega), if_neg (by omega), if_pos (by assumption)]; exact hS11.pick [0, 2] rfl⟩
 refine wc_seq (wc_region ?_)
 refine wl_eql rfl rfl rfl ?_
 refine wl_assign rfl rfl (wl_nil (qs_seq ?_))
 refine wc_condD rfl (fun h12 => ?_) (fun h12 => ?_)
 ·refine wc_seq (wc_region (wl_move rfl rfl ?_))
  refine wl_fieldAddr rfl fo_37_1 rfl ?_
  refine wl_load rfl ag_9 (by first | assumption | exact hS1.cell 0 rfl rfl) rfl ?_
  refine wl_fieldAddr rfl fo_37_2 rfl ?_
  refine wl_load rfl ag_9 (by first | assumption | exact hS1.cell 0 rfl rfl) rfl ?_
  refine wl_fieldAddr rfl fo_37_4 rfl ?_
  refine wl_load rfl ag_9 (by first | assumption | exact hS1.cell 0 rfl rfl) rfl ?_
  refine wl_fieldAddr rfl fo_37_5 rfl ?_
  refine wl_load rfl ag_9 (by first | assumption | exact hS1.cell 0 rfl rfl) rfl ?_
  have hC13 := hS1.split [1] [false, true, false] rfl; dsimp only [selF, pickA, nthA, List.cons_append, List.nil_append] at hC13
  refine wl_call cal_40 rfl (rename_sp hC13 (hG.starL 1 rfl) hP hm x.dir x.name x.td x.to (by have := hx.dir; omega) (by have := hx.name; omega) (by have := hx.td; omega) (by have := hx.to; omega)) rfl ?_
  rintro e w13 ⟨_, rfl, rfl, hS13⟩; refine ⟨_, rfl, ?_⟩
  replace hS13 := hS13.join rfl; dsimp only [List.dropLast, List.cons_append, List.nil_append] at hS13; clear hC13
  clear hS1
  refine wl_extract rfl rfl rfl (wl_extract rfl rfl rfl (wl_assign rfl rfl (wl_assign rfl rfl (wl_nil (qs_seq ?_)))))
  refine wc_sub (L' := [(5, _), (4, _)]) (.cons rfl (.cons rfl .nil)) ?_
  refine wc_ret (qs_block_ret (qs_then_ret ?_))
  refine fin2 (.inr rfl) rfl rfl rfl ?_
  exact ⟨_, rfl, by unfold doV; rw [if_neg (by omega), if_neg (by omega), if_neg (by omega), if_neg (by omega), if_pos (by assumption)], by unfold doW; rw [if_neg (by omega), if_neg (by omega), if_neg (by omega), if_neg (by omega), if_pos (by assumption)]; exact hS13.pick [0, 2] rfl⟩
 refine wc_seq (wc_region ?_)
 refine wl_eql rfl rfl rfl ?_
 refine wl_assign rfl rfl (wl_nil (qs_seq ?_))
 refine wc_condD rfl (fun h14 => ?_) (fun h14 => ?_)
 ·refine wc_region (wl_move rfl rfl ?_)
  refine wl_fieldAddr rfl fo_37_3 rfl ?_
  refine wl_load rfl ag_9 (by first | assumption | exact hS1.cell 0 rfl rfl) rfl ?_
  refine wl_fieldAddr rfl fo_37_6 rfl ?_
  refine wl_loadA rfl ag_35 sz_35 (by first | exact hS1.blk 0 rfl) (by first | decide | exact Nat.le_of_ble_eq_true rfl | (simp; done) | omega) rfl rfl ?_
  have hC15 := hS1.split [1] [false, true, false] rfl; dsimp only [selF, pickA, nthA, List.cons_append, List.nil_append] at hC15
  refine wl_call cal_43 rfl (setI_sp hC15 (hG.starL 1 rfl) x.id (by have := hx.id; omega) hn) rfl ?_
  rintro e w15 ⟨_, rfl, rfl, hS15⟩; refine ⟨_, rfl, ?_⟩
  replace hS15 := hS15.join rfl; dsimp only [List.dropLast, List.cons_append, List.nil_append] at hS15; clear hC15
  clear hS1
  refine wl_nil (qs_block_normal (qs_seq ?_))
  refine wc_sub (L' := [(5, _), (4, _)]) (.cons rfl (.cons rfl .nil)) ?_
  refine wc_seq (wc_region (wl_assign rfl rfl (wl_assign rfl rfl (wl_nil (qs_seq (wc_ret ?_))))))
  refine fin2 (.inr rfl) rfl rfl rfl ?_
  exact ⟨_, rfl, by unfold doV; rw [if_neg (by omega), if_neg (by omega), if_neg (by omega), if_neg (by omega), if_neg (by omega)], by unfold doW; rw [if_neg (by omega), if_neg (by omega), if_neg (by omega), if_neg (by omega), if_neg (by omega), if_pos (by assumption)]; exact hS15.pick [0, 2] rfl⟩
 refine wc_region (wl_move rfl rfl ?_)
 refine wl_fieldAddr rfl fo_37_3 rfl ?_
 refine wl_load rfl ag_9 (by first | assumption | exact hS1.cell 0 rfl rfl) rfl ?_
 have hC16 := hS1.split [1] [false, true, false] rfl; dsimp only [selF, pickA, nthA, List.cons_append, List.nil_append] at hC16
 refine wl_call cal_56 rfl (noI_sp hC16 x.id (by have := hx.id; omega)) rfl ?_
 rintro e w16 ⟨_, rfl, rfl, hS16⟩; refine ⟨_, rfl, ?_⟩
 replace hS16 := hS16.join rfl; dsimp only [List.dropLast, List.cons_append, List.nil_append] at hS16; clear hC16
 clear hS1
 refine wl_nil (qs_block_normal (qs_seq ?_))
 refine wc_sub (L' := [(5, _), (4, _)]) (.cons rfl (.cons rfl .nil)) ?_
 refine wc_seq (wc_region (wl_assign rfl rfl (wl_assign rfl rfl (wl_nil (qs_seq (wc_ret ?_))))))
 refine fin2 (.inr rfl) rfl rfl rfl ?_
 exact ⟨_, rfl, by unfold doV; rw [if_neg (by omega), if_neg (by omega), if_neg (by omega), if_neg (by omega), if_neg (by omega)], by unfold doW; rw [if_neg (by omega), if_neg (by omega), if_neg (by omega), if_neg (by omega), if_neg (by omega), if_neg (by omega)]; exact hS16.pick [0, 2] rfl⟩
set_option maxRecDepth 100000 in
theorem right_sp {w : World} {F : Th} (hS : Sat w [F]) (id : Bs) (hid : id.length ≤ 3000) :
    Calls Tryz.prog 47 #[strV id] w (Ret fun v w' => v = .bool (rightB id) ∧ Sat w' [F]) := by
 refine calls_enter Tryz.func47 rfl Tryz.ntmps47 rfl ?_
 refine wc_seq (wc_region (wl_assign rfl rfl (wl_nil (qs_seq (wc_seq (wc_seq (wc_region (wl_assign rfl rfl (wl_nil (qs_seq (wc_block ?_)))))))))))
 refine wc_loop (fun K0 E0 W0 => ∃ (i : Nat), K0 = id.length - i ∧ E0 = [(0, strV id), (3, intV (i : Int))] ∧ Sat W0 [F] ∧ (i ≤ id.length) ∧ (∀ j, j < i → id[j]? ≠ some 47)) (L0 := [(0, _), (3, _)]) (id.length - 0) (.cons rfl (.cons rfl .nil)) ⟨0, rfl, rfl, hS, by omega, by omega⟩ ?_
 rintro _ _ w1 ⟨i, rfl, rfl, hS1, hi, hno⟩
 refine wc_seq (wc_seq (wc_region (wl_move rfl rfl (wl_move rfl rfl ?_))))
 refine wl_lenS Tryz.underlying9 rfl rfl ?_
 refine wl_lss rfl rfl rfl ?_
 refine wl_nil (qs_seq ?_)
 refine wc_condD rfl (fun h2 => ?_) (fun h2 => ?_)
 ·obtain ⟨c0, hc⟩ : ∃ c, id[i]? = some c := ⟨_, List.getElem?_eq_getElem (by omega)⟩
  refine wc_skip (qs_seq (wc_seq (wc_block (wc_seq (wc_region (wl_move rfl rfl (wl_move rfl rfl ?_)))))))
  refine wl_indexS i Tryz.underlying9 rfl rfl (by omega) hc rfl ?_
  refine wl_eql rfl rfl rfl ?_
  refine wl_nil (qs_seq ?_)
  refine wc_condD rfl (fun h3 => ?_) (fun h3 => ?_)
  ·refine wc_seq (wc_region (wl_assign rfl rfl (wl_nil (qs_seq ?_))))
   refine wc_sub (L' := [(2, _), (0, _), (3, _)]) (.cons rfl (.cons rfl (.cons rfl .nil))) ?_
   refine wc_ret (qs_block_ret (qs_then_ret (qs_then_ret (qs_block_ret (qs_then_ret ?_)))))
   refine fin1 (.inr rfl) rfl rfl ?_
   exact ⟨_, rfl, by unfold rightB; have : (47 : UInt8) ∈ id := List.mem_of_getElem? (hc.trans (congrArg some (u8_47.1 (by assumption)))); simp [this], hS1.pick [0] rfl⟩
  refine wc_skip (qs_block_normal (qs_seq (wc_region (wl_move rfl rfl ?_))))
  refine wl_add rfl rfl (by first | omega | (simp; omega)) (by first | omega | (simp; omega)) rfl ?_
  refine wl_assign rfl rfl (wl_nil ?_)
  exact qs_round (L1 := [(0, _), (3, intV ((i + 1 : Nat) : Int))]) (.cons rfl (.cons rfl .nil)) (k1 := id.length - (i + 1)) (by omega) ⟨i + 1, rfl, rfl, hS1.pick [0] rfl, by omega, fun j hj hq => by by_cases e : j = i; (subst e; rw [hc] at hq; cases hq; exact absurd rfl (by assumption)); exact hno j (by omega) hq⟩
 refine wc_exit (qs_then_exit (qs_then_exit (qs_block_exit (qs_seq (wc_seq (wc_region (wl_move rfl rfl ?_)))))))
 refine wl_neqS rfl rfl rfl ?_
 refine wl_assign rfl rfl (wl_nil (qs_seq (wc_ret ?_)))
 refine fin1 (.inr rfl) rfl rfl ?_
 exact ⟨_, rfl, by unfold rightB; have : ¬ (47 : UInt8) ∈ id := (fun q => by obtain ⟨j, hj⟩ := List.mem_iff_getElem?.1 q; exact hno j (by have := (List.getElem?_eq_some_iff.1 hj).1; omega) hj); simp [this], hS1.pick [0] rfl⟩
end Go.Proofs.YtkaikhcpcbjkcaaGreatDoor
/- laws of names: grown -/
namespace Go.Proofs.YtkaikhcpcbjkcaaGreatDoor
open Go.RowKit M
set_option linter.unusedVariables false
set_option maxRecDepth 100000 in
set_option maxHeartbeats 1600000 in
theorem grown_sp {w : World} {F : Th} (hS : Sat w [F]) (hG : Ent F WireG) {lv : Value} {l : List AcD} (hL : Ent F (RdL acC lv l)) (hlen : l.length ≤ 40) (hok : ∀ (i : Nat) (x : AcD), l[i]? = some x → OkA x) (hnb : ∀ (i : Nat) (x : AcD), l[i]? = some x → InB x.n) :
    Calls Tryz.prog 10 #[lv] w (Ret fun v w' => ∃ p, v = ptrV p 0 ∧ Sat w' [worldT p (groW l), F]) := by
 obtain ⟨ao, cap, rfl, hmax⟩ := (hL.sat hS 0 rfl).shape
 refine calls_enter Tryz.func10 rfl Tryz.ntmps10 rfl ?_
 refine wc_seq (wc_region (wl_assign rfl rfl (wl_nil (qs_seq (wc_seq (wc_region ?_))))))
 have hC1 := hS.split [] [false] rfl; dsimp only [selF, pickA, nthA, List.cons_append, List.nil_append] at hC1
 refine wl_call cal_20 rfl (new_sp hC1) rfl ?_
 rintro e w1 ⟨_, rfl, p, rfl, hS1⟩; refine ⟨_, rfl, ?_⟩
 replace hS1 := hS1.join rfl; dsimp only [List.dropLast, List.cons_append, List.nil_append] at hS1; clear hC1
 refine wl_assign rfl rfl (wl_nil (qs_seq (wc_seq (wc_seq (wc_region (wl_move rfl rfl ?_))))))
 refine wl_eqlNil Tryz.underlying25 rfl rfl rfl ?_
 refine wl_nil (qs_seq ?_)
 refine wc_condF rfl ?_
 refine wc_skip (qs_seq (wc_seq (wc_region (wl_move rfl rfl ?_))))
 refine wl_makeIface nif_25 rfl rfl ?_
 have hC2 := hS1.split [0] [true, false] rfl; dsimp only [selF, pickA, nthA, List.cons_append, List.nil_append] at hC2
 refine wl_call cal_21 rfl (init_sp hC2 (hG.starL 0 rfl)) rfl ?_
 rintro e w2 ⟨_, rfl, rfl, hS2⟩; refine ⟨_, rfl, ?_⟩
 replace hS2 := hS2.join rfl; dsimp only [List.dropLast, List.cons_append, List.nil_append] at hS2; clear hC2
 clear hS1
 refine wl_nil (qs_seq (wc_seq (wc_seq (wc_region (wl_assign rfl rfl (wl_nil (qs_seq (wc_block ?_))))))))
 refine wc_loop (fun K0 E0 W0 => ∃ (i : Nat), K0 = l.length - i ∧ E0 = [(0, .slice ao l.length cap), (3, ptrV p 0), (4, intV (i : Int))] ∧ Sat W0 [worldT p ((l.take i).foldl groS (initW emptyW)), F] ∧ (i ≤ l.length) ∧ (PI ((l.take i).foldl groS (initW emptyW)) (2 + 5 * i))) (L0 := [(0, _), (3, _), (4, _)]) (l.length - 0) (.cons rfl (.cons rfl (.cons rfl .nil))) ⟨0, rfl, rfl, hS2, by omega, initW_pi⟩ ?_
 rintro _ _ w3 ⟨i, rfl, rfl, hS3, hi, hP⟩
 refine wc_seq (wc_seq (wc_region (wl_move rfl rfl (wl_move rfl rfl ?_))))
 refine wl_lenL Tryz.underlying22 rfl rfl ?_
 refine wl_lss rfl rfl rfl ?_
 refine wl_nil (qs_seq ?_)
 refine wc_condD rfl (fun h4 => ?_) (fun h4 => ?_)
 ·obtain ⟨x, ha⟩ : ∃ x, l[i]? = some x := ⟨_, List.getElem?_eq_getElem (by omega)⟩
  obtain ⟨b, off, rfl, _⟩ := (hL.sat hS3 1 rfl).get ha
  have hil := (List.getElem?_eq_some_iff.1 ha).1
  have hxo := hok i x ha
  have hxn := hnb i x ha
  refine wc_skip (qs_seq (wc_seq (wc_block (wc_seq (wc_region (wl_move rfl rfl (wl_move rfl rfl ?_)))))))
  refine wl_indexAddr i rfl rfl (by first | rfl | omega) (by omega) es_22 rfl ?_
  refine wl_loadAt rfl ag_37 sz_37 (vs := acV x) ((hL.sat hS3 1 rfl).at_ ha) rfl ?_
  refine wl_alloc hS3 zr_37 rfl rfl ?_
  intro b5 w5 hS5
  clear hS3
  first | (refine wl_storeA hS5 rfl rfl sz_37 rfl (by first | rfl | (simp [allOne, Value.oneCell']; done) | assumption | exact hone) (i := 0) rfl (by first | decide | exact Nat.le_of_ble_eq_true rfl | (simp; done) | omega) ?_)
  intro w6 hS7; dsimp only [List.set] at hS7
  clear hS5
  refine wl_nil (qs_seq ?_)
  refine wc_sub (L' := [(5, _), (0, _), (3, _), (4, _)]) (.cons rfl (.cons rfl (.cons rfl (.cons rfl .nil)))) ?_
  refine wc_seq (wc_seq (wc_region ?_))
  refine wl_fieldAddr rfl fo_37_0 rfl ?_
  refine wl_load rfl ag_3 (by first | assumption | exact hS7.cell 0 rfl rfl) rfl ?_
  refine wl_mask 3 rfl rfl rfl rfl (q := 8) rfl rfl ?_
  refine wl_lss rfl rfl rfl ?_
  refine wl_nil (qs_seq ?_)
  refine wc_condD rfl (fun h8 => ?_) (fun h8 => ?_)
  ·refine wc_seq (wc_region (wl_move rfl rfl ?_))
   refine wl_makeIface nif_25 rfl rfl ?_
   refine wl_loadA rfl ag_37 sz_37 (by first | exact hS7.blk 0 rfl) (by first | decide | exact Nat.le_of_ble_eq_true rfl | (simp; done) | omega) rfl rfl ?_
   have hC9 := hS7.split [1] [false, true, false] rfl; dsimp only [selF, pickA, nthA, List.cons_append, List.nil_append] at hC9
   refine wl_call cal_15 rfl (do_sp hC9 (hG.starL 1 rfl) hP (by omega) hxo hxn) rfl ?_
   rintro e w9 ⟨_, rfl, rfl, hS9⟩; refine ⟨_, rfl, ?_⟩
   replace hS9 := hS9.join rfl; dsimp only [List.dropLast, List.cons_append, List.nil_append] at hS9; clear hC9
   clear hS7
   refine wl_nil (qs_seq ?_)
   refine wc_sub (L' := [(5, _), (0, _), (3, _), (4, _)]) (.cons rfl (.cons rfl (.cons rfl (.cons rfl .nil)))) ?_
   refine wc_exit (qs_then_exit (qs_block_exit (qs_seq (wc_region (wl_move rfl rfl ?_)))))
   refine wl_add rfl rfl (by first | omega | (simp; omega)) (by first | omega | (simp; omega)) rfl ?_
   refine wl_assign rfl rfl (wl_nil ?_)
   have hst : (l.take (i + 1)).foldl groS (initW emptyW) = doW ((l.take i).foldl groS (initW emptyW)) x := by rw [List.take_add_one, ha, Option.toList_some, List.foldl_append]; show (if x.d % 8 < 6 then doW ((l.take i).foldl groS (initW emptyW)) x else if bI ((l.take i).foldl groS (initW emptyW)) x.id = false ∧ rightB x.id = true then setI ((l.take i).foldl groS (initW emptyW)) x.id filI else ((l.take i).foldl groS (initW emptyW))) = _; rw [if_pos (by assumption)]
   have hpi := groS_pi hP hxo hxn; rw [show groS ((l.take i).foldl groS (initW emptyW)) x = (l.take (i + 1)).foldl groS (initW emptyW) by rw [List.take_add_one, ha, Option.toList_some, List.foldl_append]; rfl] at hpi
   exact qs_round (L1 := [(0, _), (3, _), (4, intV ((i + 1 : Nat) : Int))]) (.cons rfl (.cons rfl (.cons rfl .nil))) (k1 := l.length - (i + 1)) (by omega) ⟨i + 1, rfl, rfl, by rw [hst]; exact hS9.pick [0, 2] rfl, by omega, hpi.mono (by omega)⟩
  refine wc_skip (qs_seq (wc_seq (wc_region (wl_move rfl rfl ?_))))
  refine wl_makeIface nif_25 rfl rfl ?_
  refine wl_fieldAddr rfl fo_37_3 rfl ?_
  refine wl_load rfl ag_9 (by first | assumption | exact hS7.cell 0 rfl rfl) rfl ?_
  have hC10 := hS7.split [1] [false, true, false] rfl; dsimp only [selF, pickA, nthA, List.cons_append, List.nil_append] at hC10
  refine wl_call cal_30 rfl (inode_sp hC10 (hG.starL 1 rfl) x.id (by have := hxo.id; omega) (hP.tb _)) rfl ?_
  rintro e w10 ⟨_, rfl, rfl, hS10⟩; refine ⟨_, rfl, ?_⟩
  replace hS10 := hS10.join rfl; dsimp only [List.dropLast, List.cons_append, List.nil_append] at hS10; clear hC10
  clear hS7
  refine wl_move rfl rfl (wl_extract rfl rfl rfl (wl_extract rfl rfl rfl ?_))
  refine wl_alloc hS10 zr_35 rfl rfl ?_
  intro b11 w11 hS11
  clear hS10
  first | (refine wl_storeA hS11 rfl rfl sz_35 rfl (by first | rfl | (simp [allOne, Value.oneCell']; done) | assumption | exact hone) (i := 0) rfl (by first | decide | exact Nat.le_of_ble_eq_true rfl | (simp; done) | omega) ?_) | (refine wl_storeA hS11 rfl rfl sz_35 rfl (by first | rfl | (simp [allOne, Value.oneCell']; done) | assumption | exact hone) (i := 2) rfl (by first | decide | exact Nat.le_of_ble_eq_true rfl | (simp; done) | omega) ?_)
  intro w12 hS13; dsimp only [List.set] at hS13
  clear hS11
  refine wl_assign rfl rfl (wl_nil (qs_seq ?_))
  refine wc_sub (L' := [(7, _), (5, _), (0, _), (3, _), (4, _)]) (.cons rfl (.cons rfl (.cons rfl (.cons rfl (.cons rfl .nil))))) ?_
  refine wc_seq (wc_region (wl_move rfl rfl ?_))
  refine wl_not rfl rfl ?_
  refine wl_move rfl rfl ?_
  refine wl_split 42 rfl (fun h14 => ?_) (fun h14 => ?_)
  ·have hbi : bI ((l.take i).foldl groS (initW emptyW)) x.id = false := by simpa using h14
   refine wl_guard rfl rfl h14 ?_
   refine wl_fieldAddr rfl fo_37_3 rfl ?_
   refine wl_guard rfl rfl h14 ?_
   refine wl_load rfl ag_9 (by first | assumption | exact hS13.cell 0 rfl rfl | exact hS13.cell 2 rfl rfl) rfl ?_
   refine wl_guard rfl rfl h14 ?_
   have hC15 := hS13.split [] [false, false, false, false] rfl; dsimp only [selF, pickA, nthA, List.cons_append, List.nil_append] at hC15
   refine wl_call cal_47 rfl (right_sp hC15 x.id (by have := hxo.id; omega)) rfl ?_
   rintro e w15 ⟨_, rfl, rfl, hS15⟩; refine ⟨_, rfl, ?_⟩
   replace hS15 := hS15.join rfl; dsimp only [List.dropLast, List.cons_append, List.nil_append] at hS15; clear hC15
   clear hS13
   refine wl_pickT rfl h14 rfl rfl ?_
   refine wl_nil (qs_seq ?_)
   refine wc_sub (L' := [(46, _), (5, _), (0, _), (3, _), (4, _)]) (.cons rfl (.cons rfl (.cons rfl (.cons rfl (.cons rfl .nil))))) ?_
   refine wc_cond rfl (fun h16 => ?_) (fun h16 => ?_)
   ·refine wc_region (wl_move rfl rfl ?_)
    refine wl_makeIface nif_25 rfl rfl ?_
    refine wl_fieldAddr rfl fo_37_3 rfl ?_
    refine wl_load rfl ag_9 (by first | assumption | exact hS15.cell 0 rfl rfl | exact hS15.cell 2 rfl rfl) rfl ?_
    refine wl_buildX (vs' := [intV filI.k, intV filI.sz, intV filI.ln]) rfl pl_35_0 asz_35 zr_35 rfl rfl rfl ?_
    have hC17 := hS15.split [1] [false, true, false, false] rfl; dsimp only [selF, pickA, nthA, List.cons_append, List.nil_append] at hC17
    refine wl_call cal_43 rfl (setI_sp hC17 (hG.starL 2 rfl) x.id (by have := hxo.id; omega) filI_in) rfl ?_
    rintro e w17 ⟨_, rfl, rfl, hS17⟩; refine ⟨_, rfl, ?_⟩
    replace hS17 := hS17.join rfl; dsimp only [List.dropLast, List.cons_append, List.nil_append] at hS17; clear hC17
    clear hS15
    refine wl_nil (qs_block_normal (qs_seq ?_))
    refine wc_sub (L' := [(0, _), (3, _), (4, _)]) (.cons rfl (.cons rfl (.cons rfl .nil))) ?_
    refine wc_region (wl_move rfl rfl ?_)
    refine wl_add rfl rfl (by first | omega | (simp; omega)) (by first | omega | (simp; omega)) rfl ?_
    refine wl_assign rfl rfl (wl_nil ?_)
    have hst : (l.take (i + 1)).foldl groS (initW emptyW) = setI ((l.take i).foldl groS (initW emptyW)) x.id filI := by rw [List.take_add_one, ha, Option.toList_some, List.foldl_append]; show (if x.d % 8 < 6 then doW ((l.take i).foldl groS (initW emptyW)) x else if bI ((l.take i).foldl groS (initW emptyW)) x.id = false ∧ rightB x.id = true then setI ((l.take i).foldl groS (initW emptyW)) x.id filI else ((l.take i).foldl groS (initW emptyW))) = _; rw [if_neg (by assumption), if_pos ⟨hbi, by assumption⟩]
    have hpi := groS_pi hP hxo hxn; rw [show groS ((l.take i).foldl groS (initW emptyW)) x = (l.take (i + 1)).foldl groS (initW emptyW) by rw [List.take_add_one, ha, Option.toList_some, List.foldl_append]; rfl] at hpi
    exact qs_round (L1 := [(0, _), (3, _), (4, intV ((i + 1 : Nat) : Int))]) (.cons rfl (.cons rfl (.cons rfl .nil))) (k1 := l.length - (i + 1)) (by omega) ⟨i + 1, rfl, rfl, by rw [hst]; exact hS17.pick [0, 3] rfl, by omega, hpi.mono (by omega)⟩
   refine wc_skip (qs_block_normal (qs_seq (wc_region (wl_move rfl rfl ?_))))
   refine wl_add rfl rfl (by first | omega | (simp; omega)) (by first | omega | (simp; omega)) rfl ?_
   refine wl_assign rfl rfl (wl_nil ?_)
   have hst : (l.take (i + 1)).foldl groS (initW emptyW) = ((l.take i).foldl groS (initW emptyW)) := by rw [List.take_add_one, ha, Option.toList_some, List.foldl_append]; show (if x.d % 8 < 6 then doW ((l.take i).foldl groS (initW emptyW)) x else if bI ((l.take i).foldl groS (initW emptyW)) x.id = false ∧ rightB x.id = true then setI ((l.take i).foldl groS (initW emptyW)) x.id filI else ((l.take i).foldl groS (initW emptyW))) = _; rw [if_neg (by assumption), if_neg (fun q => by simp_all)]
   have hpi := groS_pi hP hxo hxn; rw [show groS ((l.take i).foldl groS (initW emptyW)) x = (l.take (i + 1)).foldl groS (initW emptyW) by rw [List.take_add_one, ha, Option.toList_some, List.foldl_append]; rfl] at hpi
   exact qs_round (L1 := [(0, _), (3, _), (4, intV ((i + 1 : Nat) : Int))]) (.cons rfl (.cons rfl (.cons rfl .nil))) (k1 := l.length - (i + 1)) (by omega) ⟨i + 1, rfl, rfl, by rw [hst]; exact hS15.pick [1, 3] rfl, by omega, hpi.mono (by omega)⟩
  have hbi : bI ((l.take i).foldl groS (initW emptyW)) x.id = true := by simpa using h14
  refine wl_unwanted rfl rfl h14 rfl ?_
  refine wl_unwanted rfl rfl h14 rfl ?_
  refine wl_unwanted rfl rfl h14 rfl ?_
  refine wl_pickF rfl h14 rfl rfl ?_
  refine wl_nil (qs_seq ?_)
  refine wc_sub (L' := [(46, _), (5, _), (0, _), (3, _), (4, _)]) (.cons rfl (.cons rfl (.cons rfl (.cons rfl (.cons rfl .nil))))) ?_
  refine wc_condF rfl ?_
  refine wc_skip (qs_block_normal (qs_seq (wc_region (wl_move rfl rfl ?_))))
  refine wl_add rfl rfl (by first | omega | (simp; omega)) (by first | omega | (simp; omega)) rfl ?_
  refine wl_assign rfl rfl (wl_nil ?_)
  have hst : (l.take (i + 1)).foldl groS (initW emptyW) = ((l.take i).foldl groS (initW emptyW)) := by rw [List.take_add_one, ha, Option.toList_some, List.foldl_append]; show (if x.d % 8 < 6 then doW ((l.take i).foldl groS (initW emptyW)) x else if bI ((l.take i).foldl groS (initW emptyW)) x.id = false ∧ rightB x.id = true then setI ((l.take i).foldl groS (initW emptyW)) x.id filI else ((l.take i).foldl groS (initW emptyW))) = _; rw [if_neg (by assumption), if_neg (fun q => by rw [hbi] at q; cases q.1)]
  have hpi := groS_pi hP hxo hxn; rw [show groS ((l.take i).foldl groS (initW emptyW)) x = (l.take (i + 1)).foldl groS (initW emptyW) by rw [List.take_add_one, ha, Option.toList_some, List.foldl_append]; rfl] at hpi
  exact qs_round (L1 := [(0, _), (3, _), (4, intV ((i + 1 : Nat) : Int))]) (.cons rfl (.cons rfl (.cons rfl .nil))) (k1 := l.length - (i + 1)) (by omega) ⟨i + 1, rfl, rfl, by rw [hst]; exact hS13.pick [1, 3] rfl, by omega, hpi.mono (by omega)⟩
 refine wc_exit (qs_then_exit (qs_then_exit (qs_block_exit (qs_seq (wc_seq (wc_region (wl_move rfl rfl (wl_assign rfl rfl (wl_nil (qs_seq (wc_ret ?_)))))))))))
 refine fin1 (.inr rfl) rfl rfl ?_
 have hS9 := hS3.pick [0, 1] rfl; rw [List.take_of_length_le (by omega)] at hS9
 exact ⟨_, rfl, _, rfl, hS9⟩
theorem groW_pi {l : List AcD} (hok : ∀ (i : Nat) (x : AcD), l[i]? = some x → OkA x) (hnb : ∀ (i : Nat) (x : AcD), l[i]? = some x → InB x.n) : ∀ i, PI ((l.take i).foldl groS (initW emptyW)) (2 + 5 * i)
  | 0 => initW_pi
  | i + 1 => by
    have h := groW_pi hok hnb i
    cases ha : l[i]? with
    | none => rw [List.take_add_one, ha, Option.toList_none, List.append_nil]; exact h.mono (by omega)
    | some x => rw [List.take_add_one, ha, Option.toList_some, List.foldl_append]; exact (groS_pi h (hok i x ha) (hnb i x ha)).mono (by omega)
theorem groW_all {l : List AcD} (hlen : l.length ≤ 40) (hok : ∀ (i : Nat) (x : AcD), l[i]? = some x → OkA x) (hnb : ∀ (i : Nat) (x : AcD), l[i]? = some x → InB x.n) : PI (groW l) 300 := by
  have h := groW_pi hok hnb l.length
  rw [List.take_length] at h
  exact h.mono (by omega)
end Go.Proofs.YtkaikhcpcbjkcaaGreatDoor
