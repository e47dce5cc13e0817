/- sheets: what Bring defers -/
import Derived.Test.YtnicmcdeoimhlaaGreatDl
namespace Go.Proofs.YtnicmcdeoimhlaaGreat
open Go.RowKit M
set_option linter.unusedVariables false
/-- Bring has brought a sheet into frame k -/
structure BrS (T : Nat) (S S' : SS) (id : Int) (k : Nat) (x : ShE) : Prop where
  inv : ShI no0 (T + 1) S'
  go : ShG S S'
  is : S'.all id = some ⟨x.refs, 1, (k : Nat), x.pg⟩
theorem bring_of {T : Nat} {S SL S1 : SS} {id : Int} {k : Nat} {x : ShE} (h : ShI no0 T S) (hx : S.all id = some x) (hp : x.place ≠ 1) (hL : SL.all = S.all ∧ SL.taken = S.taken ∧ SL.budget = S.budget ∧ SL.slots = S.slots ∧ SL.fr = S.fr ∧ SL.next = S.next) (hg : GetS (one id) (T + 1) k SL S1) : BrS T S (onF S1 id k x.refs x.pg S1.next) id k x := by
  obtain ⟨e1, e2, e3, e4, e5, e6⟩ := hL
  obtain ⟨a1, a2, a3, a4, a5, a6⟩ := h.ent hx
  have hgo : ShG S SL := ⟨fun j => by rw [e1], ⟨[], by rw [e2]; simp, fun j y hy hp1 => .inr ⟨y, by rw [e1]; exact hy, hp1, rfl⟩⟩, e3, e4, by rw [e5], e6⟩
  have hgo2 := hgo.trans hg.go
  have hx1 := hg.lim id x (by rw [e1]; exact hx) rfl
  obtain ⟨b1, b2, b3, b4, b5, b6⟩ := hg.inv.ent hx1
  have h3 := hg.inv.onFrame (j := id) (nx := S1.next) (r := x.refs) (pg := x.pg) rfl hg.fr a1 (by omega) hg.inv.nx2 b2 ⟨b3, b4⟩ a5
  have hf := ShF.on (j := id) (k := k) (r := x.refs) (pg := x.pg) (nx := S1.next) hgo2 (fun y hy => by rw [hx] at hy; cases hy; exact hp)
  refine ⟨h3.congr fun i _ => ⟨fun ⟨a, b⟩ => b a, False.elim⟩, ⟨fun j => ?_, hf.tk, hf.bud, hf.slo, hf.frn, hgo2.nxt⟩, up_self⟩
  show (up S1.all id _ j).map _ = _
  by_cases q : j = id
  · subst q; rw [up_self, hx]; rfl
  · rw [up_ne q]; exact hgo2.same j
set_option maxRecDepth 100000 in
theorem shback_sp {w : World} {eb ob sb p : Nat} {ev : Int} {ov : Value} {a0 a1 a2 a3 a4 a5 a6 a7 a8 a9 : Value} {F : Th} (h1 : ov.oneCell' = true) (hS : Sat w [blkT eb [intV ev], blkT ob [ov], blkT sb [ptrV p 0], blkT p [a0, a1, a2, a3, a4, a5, a6, a7, a8, a9], F]) :
    CallsD Tryz.prog 62 #[ptrV eb 0, ptrV ob 0, ptrV sb 0] .returning w (fun e u' w' => u' = .returning ∧ Ret (fun v w' => if ev = 0 then Sat w' [blkT eb [intV ev], blkT ob [ov], blkT sb [ptrV p 0], blkT p [a0, a1, a2, a3, a4, a5, a6, a7, a8, a9], F] else Sat w' [blkT eb [intV ev], blkT ob [ov], blkT sb [ptrV p 0], blkT p [a0, a1, ov, a3, a4, a5, a6, a7, a8, a9], F]) e w') := by
  refine callsD_enter Tryz.func62 rfl Tryz.ntmps62 rfl ?_
  refine wc_seq ?_
  refine wc_region ?_
  refine wl_load rfl ag_34 (by first | assumption | exact hS.cell 0 rfl rfl | exact hS.cell 1 rfl rfl | exact hS.cell 2 rfl rfl | exact hS.cell 3 rfl rfl) rfl ?_
  refine wl_neq rfl rfl rfl ?_
  refine wl_nil ?_
  refine qs_seq ?_
  refine wc_condD rfl (fun h1 => ?_) (fun h1 => ?_)
  · skip
    refine wc_region ?_
    refine wl_load rfl ag_24 (by first | assumption | exact hS.cell 0 rfl rfl | exact hS.cell 1 rfl rfl | exact hS.cell 2 rfl rfl | exact hS.cell 3 rfl rfl) rfl ?_
    refine wl_load rfl ag_28 (by first | assumption | exact hS.cell 0 rfl rfl | exact hS.cell 1 rfl rfl | exact hS.cell 2 rfl rfl | exact hS.cell 3 rfl rfl) rfl ?_
    refine wl_nilCheck rfl rfl ?_
    refine wl_fieldAddr rfl fo_65_2 rfl ?_
    first | (refine wl_store hS rfl rfl sz_28 (by first | rfl | assumption) (i := 0) rfl (by first | decide | exact Nat.le_of_ble_eq_true rfl | (simp; done) | omega) ?_) | (refine wl_store hS rfl rfl sz_28 (by first | rfl | assumption) (i := 1) rfl (by first | decide | exact Nat.le_of_ble_eq_true rfl | (simp; done) | omega) ?_) | (refine wl_store hS rfl rfl sz_28 (by first | rfl | assumption) (i := 2) rfl (by first | decide | exact Nat.le_of_ble_eq_true rfl | (simp; done) | omega) ?_) | (refine wl_store hS rfl rfl sz_28 (by first | rfl | assumption) (i := 3) rfl (by first | decide | exact Nat.le_of_ble_eq_true rfl | (simp; done) | omega) ?_)
    intro w2 hS3; dsimp only [List.set] at hS3
    refine wl_nil ?_
    refine fin0 (.inl rfl) rfl ?_
    exact ⟨_, rfl, by dsimp only; rw [if_neg (by omega)]; exact hS3⟩
  refine wc_skip ?_
  refine fin0 (.inl rfl) rfl ?_
  exact ⟨_, rfl, by dsimp only; rw [if_pos (by omega)]; exact hS⟩
theorem res_two {P : Program} {n : Nat} {L : Env} {w : World} {fn : Func} {r r2 : ResultVar} {v v2 : Value} (hf : fn.results = #[r, r2]) (hv : resOk P n L w r v) (hv2 : resOk P n L w r2 v2) (a : Act) (ha : Fr n L a) : (results fn a.tmps).run P w = .ok (.tuple #[v, v2]) w := by rw [results_eq, hf]; simp [hv a ha, hv2 a ha]
end Go.Proofs.YtnicmcdeoimhlaaGreat
