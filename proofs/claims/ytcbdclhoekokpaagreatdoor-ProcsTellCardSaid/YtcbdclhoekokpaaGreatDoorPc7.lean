/- procs: values compared with themselves -/
import Derived.Test.YtcbdclhoekokpaaGreatDoorPc6
import Derived.ChangeKeysEq
import Derived.Laws.StructEq
namespace Go.Proofs.YtcbdclhoekokpaaGreatDoor
open Go.RowKit M
set_option linter.unusedVariables false
section
variable {P : Program} {n : Nat} {ops : Array Oper} {Q : Exit → Act → World → Prop} {rest : List Oper} {L : Env} {w : World} {d : Nat} {ty : TypeId} {pos : String} {aft : Array Edge} {As : List Th}
theorem ev_neqAgg {t t2 : Nat} {x y : Operand} {xs ys : Array Value} {b : Bool} (h : ∀ w, (Op.equal t (.agg xs) (.agg ys)).run P w = .ok b w) (hg : P.eqGuardType P.depth t = false) (hx : M.look L x = some (.agg xs)) (hy : M.look L y = some (.agg ys)) : Ev P L w ⟨some d, .binOp .neq t x y t2, ty, pos, aft, none⟩ (.bool (!b)) := fun ρ hρ => by
  have h := h w
  simp [execOp, hρ _ _ hx, hρ _ _ hy, eqGuard, binOp, program, Sem.run, hg] at h ⊢
  rw [h]
  rfl
end
theorem eqItems_self {P : Program} {d e c : Nat} {xs : Array Value} : ∀ (is : List Nat), (∀ i ∈ is, ∃ a, (∀ w, (part e xs (i * c)).run P w = .ok a w) ∧ ∀ w, (Op.equalIn d e a a).run P w = .ok true w) → ∀ w, (Op.eqItems d e c xs xs is).run P w = .ok true w
  | [], _, w => by simp [Op.eqItems]
  | i :: is, h, w => by
    obtain ⟨a, h1, h2⟩ := h i List.mem_cons_self
    have h3 := eqItems_self is (fun j hj => h j (List.mem_cons_of_mem _ hj)) w
    simp only [Op.eqItems, Sem.run_bind, h1, Result.andThen_ok, h2, Sem.run_ite]
    simpa using h3
theorem run_partA {P : Program} {e s : TypeId} (ha : aggB P e = some true) (hs : szOf P e = some s) (xs : Array Value) (i : Nat) (w : World) : (part e xs i).run P w = .ok (.agg (xs.extract i (i + s))) w := by
  have h3 : ∀ w, (sizeOf e).run P w = .ok s w := fun w => M.run_sizeOf hs w
  have h4 : ∀ w, (isAgg e).run P w = .ok true w := fun w => aggB_true ha w
  simp [part, h4, h3]
theorem selfWait (x : ProcD) (w : World) : (Op.equal 36 (.agg #[intV (tq x 34), intV (tq x 35), intV (tq x 36)]) (.agg #[intV (tq x 34), intV (tq x 35), intV (tq x 36)])).run Tryz.prog w = .ok true w := by
  have u3 := Tryz.underlying3
  have a3 : aggB Tryz.prog 3 = some false := by kernel_rfl
  have hS : Tryz.prog.underlying 36 = some (.struct (Tryz.prog.fieldsOf 36)) := by kernel_rfl
  have hp : Tryz.prog.stoodInHeld 36 = false := by kernel_rfl
  unfold Op.equal Op.maxDepth
  generalize hN : (10000 : Nat) = N
  obtain ⟨m, rfl⟩ : ∃ m, N = m + 1 + 1 := ⟨9998, by omega⟩
  rw [run_equalIn_struct w (m + 1) 36 _ _ hS hp]
  have q0 := fun w => run_part1 (P := Tryz.prog) a3 #[intV (tq x 34), intV (tq x 35), intV (tq x 36)] 0 _ rfl w
  have q1 := fun w => run_part1 (P := Tryz.prog) a3 #[intV (tq x 34), intV (tq x 35), intV (tq x 36)] 1 _ rfl w
  have q2 := fun w => run_part1 (P := Tryz.prog) a3 #[intV (tq x 34), intV (tq x 35), intV (tq x 36)] 2 _ rfl w
  simp only [Program.fieldsOf, Tryz.underlying36, Op.eqFields, Sem.run_bind, q0, q1, q2, Result.andThen_ok, run_equalIn_int _ _ _ _ _ _ _ u3, Sem.run_ite, Sem.run_pure]
  simp [run_equalIn_int _ _ _ _ _ _ _ u3]
theorem selfArr (x : ProcD) (d : Nat) (w : World) : (Op.equalIn (d + 1 + 1) 27 (.agg (#[intV (hq x 10), intV (hq x 11), intV (hq x 12), intV (hq x 13), intV (hq x 14), intV (hq x 15), intV (hq x 16), intV (hq x 17), intV (hq x 18)].extract 0 (0 + 8))) (.agg (#[intV (hq x 10), intV (hq x 11), intV (hq x 12), intV (hq x 13), intV (hq x 14), intV (hq x 15), intV (hq x 16), intV (hq x 17), intV (hq x 18)].extract 0 (0 + 8)))).run Tryz.prog w = .ok true w := by
  have u3 := Tryz.underlying3
  have a3 : aggB Tryz.prog 3 = some false := by kernel_rfl
  obtain ⟨ii, hi⟩ : ∃ ii, Tryz.prog.info? 3 = some ii := Option.isSome_iff_exists.1 (by kernel_rfl)
  have hc : Tryz.prog.cellsOf 3 = 1 := by kernel_rfl
  rw [run_equalIn_array w (d + 1) _ _ Tryz.underlying27 hi, hc]
  refine eqItems_self _ (fun i hm => ?_) w
  have hm := List.mem_range.1 hm
  have key : ∀ a : Int, ((#[intV (hq x 10), intV (hq x 11), intV (hq x 12), intV (hq x 13), intV (hq x 14), intV (hq x 15), intV (hq x 16), intV (hq x 17), intV (hq x 18)].extract 0 (0 + 8)) : Array Value)[i * 1]? = some (intV a) → ∃ b, (∀ w, (part 3 (#[intV (hq x 10), intV (hq x 11), intV (hq x 12), intV (hq x 13), intV (hq x 14), intV (hq x 15), intV (hq x 16), intV (hq x 17), intV (hq x 18)].extract 0 (0 + 8)) (i * 1)).run Tryz.prog w = .ok b w) ∧ ∀ w, (Op.equalIn (d + 1) 3 b b).run Tryz.prog w = .ok true w := fun a h => ⟨_, fun w => run_part1 a3 _ _ _ h w, fun w => by rw [run_equalIn_int _ _ _ _ _ _ _ u3]; simp⟩
  match i, hm with
  | 0, _ => exact key _ rfl
  | 1, _ => exact key _ rfl
  | 2, _ => exact key _ rfl
  | 3, _ => exact key _ rfl
  | 4, _ => exact key _ rfl
  | 5, _ => exact key _ rfl
  | 6, _ => exact key _ rfl
  | 7, _ => exact key _ rfl
  | _ + 8, hm => exact absurd hm (by omega)
theorem selfRegs (x : ProcD) (w : World) : (Op.equal 29 (.agg #[intV (hq x 10), intV (hq x 11), intV (hq x 12), intV (hq x 13), intV (hq x 14), intV (hq x 15), intV (hq x 16), intV (hq x 17), intV (hq x 18)]) (.agg #[intV (hq x 10), intV (hq x 11), intV (hq x 12), intV (hq x 13), intV (hq x 14), intV (hq x 15), intV (hq x 16), intV (hq x 17), intV (hq x 18)])).run Tryz.prog w = .ok true w := by
  have u3 := Tryz.underlying3
  have a3 : aggB Tryz.prog 3 = some false := by kernel_rfl
  have hS : Tryz.prog.underlying 29 = some (.struct (Tryz.prog.fieldsOf 29)) := by kernel_rfl
  have hp : Tryz.prog.stoodInHeld 29 = false := by kernel_rfl
  have a8 : aggB Tryz.prog 27 = some true := by kernel_rfl
  have s8 : szOf Tryz.prog 27 = some 8 := by kernel_rfl
  unfold Op.equal Op.maxDepth
  generalize hN : (10000 : Nat) = N
  obtain ⟨m, rfl⟩ : ∃ m, N = m + 1 + 1 + 1 := ⟨9997, by omega⟩
  rw [run_equalIn_struct w (m + 1 + 1) 29 _ _ hS hp]
  have q0 := fun w => run_partA (P := Tryz.prog) a8 s8 #[intV (hq x 10), intV (hq x 11), intV (hq x 12), intV (hq x 13), intV (hq x 14), intV (hq x 15), intV (hq x 16), intV (hq x 17), intV (hq x 18)] 0 w
  have q1 := fun w => run_part1 (P := Tryz.prog) a3 #[intV (hq x 10), intV (hq x 11), intV (hq x 12), intV (hq x 13), intV (hq x 14), intV (hq x 15), intV (hq x 16), intV (hq x 17), intV (hq x 18)] 8 _ rfl w
  have e0 := selfArr x m
  simp only [Program.fieldsOf, Tryz.underlying29, Op.eqFields, Sem.run_bind, q0, q1, Result.andThen_ok, e0, run_equalIn_int _ _ _ _ _ _ _ u3, Sem.run_ite, Sem.run_pure]
  simp [run_equalIn_int _ _ _ _ _ _ _ u3]
theorem selfAct (x : ProcD) (i : Nat) (d : Nat) (w : World) : (Op.equalIn (d + 1 + 1) 33 (.agg (actU x i).toArray) (.agg (actU x i).toArray)).run Tryz.prog w = .ok true w := by
  have u3 := Tryz.underlying3
  have a3 : aggB Tryz.prog 3 = some false := by kernel_rfl
  have ub := Tryz.underlying4
  have ab : aggB Tryz.prog 4 = some false := by kernel_rfl
  have hS : Tryz.prog.underlying 33 = some (.struct (Tryz.prog.fieldsOf 33)) := by kernel_rfl
  have hp : Tryz.prog.stoodInHeld 33 = false := by kernel_rfl
  rw [run_equalIn_struct w (d + 1) 33 _ _ hS hp]
  have q0 : ∀ w, (part 3 (actU x i).toArray 0).run Tryz.prog w = .ok (intV (tq x (2 + 2 * i))) w := fun w => run_part1 (P := Tryz.prog) a3 (actU x i).toArray 0 _ rfl w
  have q1 : ∀ w, (part 4 (actU x i).toArray 1).run Tryz.prog w = .ok (.bool (decide (tq x (3 + 2 * i) = 1))) w := fun w => run_part1 (P := Tryz.prog) ab (actU x i).toArray 1 _ rfl w
  simp only [Program.fieldsOf, Tryz.underlying33, Op.eqFields, Sem.run_bind, q0, q1, Result.andThen_ok, run_equalIn_int _ _ _ _ _ _ _ u3, run_equalIn_bool' _ _ _ _ _ ub, Sem.run_ite, Sem.run_pure]
  simp [run_equalIn_int _ _ _ _ _ _ _ u3, run_equalIn_bool' _ _ _ _ _ ub]
theorem selfActs (x : ProcD) (av fv : Value) (w : World) : (Op.equal 34 (.agg (((procV x av fv).drop 24).take 32).toArray) (.agg (((procV x av fv).drop 24).take 32).toArray)).run Tryz.prog w = .ok true w := by
  obtain ⟨ii, hi⟩ : ∃ ii, Tryz.prog.info? 33 = some ii := Option.isSome_iff_exists.1 (by kernel_rfl)
  have hc : Tryz.prog.cellsOf 33 = 2 := by kernel_rfl
  have aa : aggB Tryz.prog 33 = some true := by kernel_rfl
  have sa : szOf Tryz.prog 33 = some 2 := by kernel_rfl
  unfold Op.equal Op.maxDepth
  generalize hN : (10000 : Nat) = N
  obtain ⟨m, rfl⟩ : ∃ m, N = m + 1 + 1 + 1 := ⟨9997, by omega⟩
  rw [run_equalIn_array w (m + 1 + 1) _ _ Tryz.underlying34 hi, hc]
  refine eqItems_self _ (fun i hm => ⟨.agg (actU x i).toArray, fun w => ?_, fun w => selfAct x i m w⟩) w
  rw [run_partA aa sa, act_at x av fv i (List.mem_range.1 hm)]
end Go.Proofs.YtcbdclhoekokpaaGreatDoor
