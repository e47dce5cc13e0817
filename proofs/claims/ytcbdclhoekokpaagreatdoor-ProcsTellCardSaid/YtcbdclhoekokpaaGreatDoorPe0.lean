/- procs: Same of any two records -/
import Derived.Test.YtcbdclhoekokpaaGreatDoorPc8
import Derived.Test.YtcbdclhoekokpaaGreatDoorPd2
import Derived.ChangeKeysEq
import Derived.Laws.StructEq
namespace Go.Proofs.YtcbdclhoekokpaaGreatDoor
open Go.RowKit M
set_option linter.unusedVariables false
theorem eqItems_val {P : Program} {d e c : Nat} {xs ys : Array Value} {b : Nat → Bool} : ∀ (is : List Nat), (∀ i ∈ is, ∃ a z, (∀ w, (part e xs (i * c)).run P w = .ok a w) ∧ (∀ w, (part e ys (i * c)).run P w = .ok z w) ∧ ∀ w, (Op.equalIn d e a z).run P w = .ok (b i) w) → ∀ w, (Op.eqItems d e c xs ys is).run P w = .ok (is.all b) w
  | [], _, w => by simp [Op.eqItems]
  | i :: is, h, w => by
    obtain ⟨a, z, h1, h2, h3⟩ := h i List.mem_cons_self
    have h4 := eqItems_val is (fun j hj => h j (List.mem_cons_of_mem _ hj)) w
    simp only [Op.eqItems, Sem.run_bind, h1, h2, Result.andThen_ok, h3, Sem.run_ite, Sem.run_pure, List.all_cons]
    cases hb : b i
    · simp
    · simpa using h4
def waitB (x y : ProcD) : Bool := (tq x 34 == tq y 34) && ((tq x 35 == tq y 35) && (tq x 36 == tq y 36))
def regB (x y : ProcD) (i : Nat) : Bool := hq x (10 + i) == hq y (10 + i)
def regsB (x y : ProcD) : Bool := (List.range 8).all (regB x y) && (hq x 18 == hq y 18)
def actB (x y : ProcD) (i : Nat) : Bool := (tq x (2 + 2 * i) == tq y (2 + 2 * i)) && (decide (tq x (3 + 2 * i) = 1) == decide (tq y (3 + 2 * i) = 1))
def actsB (x y : ProcD) : Bool := (List.range 16).all (actB x y)
theorem waitB_self (x : ProcD) : waitB x x = true := by simp [waitB]
theorem regsB_self (x : ProcD) : regsB x x = true := by simp [regsB, regB]
theorem actsB_self (x : ProcD) : actsB x x = true := by simp [actsB, actB]
theorem eqWait (x y : ProcD) (w : World) : (Op.equal 36 (.agg #[intV (tq x 34), intV (tq x 35), intV (tq x 36)]) (.agg #[intV (tq y 34), intV (tq y 35), intV (tq y 36)])).run Tryz.prog w = .ok (waitB x y) w := by
  have u3 := Tryz.underlying3
  have a3 : aggB Tryz.prog 3 = some false := by kernel_rfl
  have hS : Tryz.prog.underlying 36 = some (.struct (Tryz.prog.fieldsOf 36)) := by kernel_rfl
  have hp : Tryz.prog.stoodInHeld 36 = false := by kernel_rfl
  unfold Op.equal Op.maxDepth
  generalize hN : (10000 : Nat) = N
  obtain ⟨m, rfl⟩ : ∃ m, N = m + 1 + 1 := ⟨9998, by omega⟩
  rw [run_equalIn_struct w (m + 1) 36 _ _ hS hp]
  have q0 := fun w => run_part1 (P := Tryz.prog) a3 #[intV (tq x 34), intV (tq x 35), intV (tq x 36)] 0 _ rfl w
  have q1 := fun w => run_part1 (P := Tryz.prog) a3 #[intV (tq x 34), intV (tq x 35), intV (tq x 36)] 1 _ rfl w
  have q2 := fun w => run_part1 (P := Tryz.prog) a3 #[intV (tq x 34), intV (tq x 35), intV (tq x 36)] 2 _ rfl w
  have r0 := fun w => run_part1 (P := Tryz.prog) a3 #[intV (tq y 34), intV (tq y 35), intV (tq y 36)] 0 _ rfl w
  have r1 := fun w => run_part1 (P := Tryz.prog) a3 #[intV (tq y 34), intV (tq y 35), intV (tq y 36)] 1 _ rfl w
  have r2 := fun w => run_part1 (P := Tryz.prog) a3 #[intV (tq y 34), intV (tq y 35), intV (tq y 36)] 2 _ rfl w
  simp only [Program.fieldsOf, Tryz.underlying36, Op.eqFields, Sem.run_bind, q0, q1, q2, r0, r1, r2, Result.andThen_ok, run_equalIn_int _ _ _ _ _ _ _ u3, Sem.run_ite, Sem.run_pure]
  unfold waitB
  by_cases h0 : tq x 34 = tq y 34 <;> by_cases h1 : tq x 35 = tq y 35 <;> by_cases h2 : tq x 36 = tq y 36 <;> simp [run_equalIn_int _ _ _ _ _ _ _ u3, h0, h1, h2]
theorem eqRegArr (x y : ProcD) (d : Nat) (w : World) : (Op.equalIn (d + 1 + 1) 27 (.agg (#[intV (hq x 10), intV (hq x 11), intV (hq x 12), intV (hq x 13), intV (hq x 14), intV (hq x 15), intV (hq x 16), intV (hq x 17), intV (hq x 18)].extract 0 (0 + 8))) (.agg (#[intV (hq y 10), intV (hq y 11), intV (hq y 12), intV (hq y 13), intV (hq y 14), intV (hq y 15), intV (hq y 16), intV (hq y 17), intV (hq y 18)].extract 0 (0 + 8)))).run Tryz.prog w = .ok ((List.range 8).all (regB x y)) w := by
  have u3 := Tryz.underlying3
  have a3 : aggB Tryz.prog 3 = some false := by kernel_rfl
  obtain ⟨ii, hi⟩ : ∃ ii, Tryz.prog.info? 3 = some ii := Option.isSome_iff_exists.1 (by kernel_rfl)
  have hc : Tryz.prog.cellsOf 3 = 1 := by kernel_rfl
  rw [run_equalIn_array w (d + 1) _ _ Tryz.underlying27 hi, hc]
  refine eqItems_val _ (fun i hm => ?_) w
  have hm := List.mem_range.1 hm
  have key : ∀ a z : Int, ((#[intV (hq x 10), intV (hq x 11), intV (hq x 12), intV (hq x 13), intV (hq x 14), intV (hq x 15), intV (hq x 16), intV (hq x 17), intV (hq x 18)].extract 0 (0 + 8)) : Array Value)[i * 1]? = some (intV a) → ((#[intV (hq y 10), intV (hq y 11), intV (hq y 12), intV (hq y 13), intV (hq y 14), intV (hq y 15), intV (hq y 16), intV (hq y 17), intV (hq y 18)].extract 0 (0 + 8)) : Array Value)[i * 1]? = some (intV z) → ∃ b c, (∀ w, (part 3 (#[intV (hq x 10), intV (hq x 11), intV (hq x 12), intV (hq x 13), intV (hq x 14), intV (hq x 15), intV (hq x 16), intV (hq x 17), intV (hq x 18)].extract 0 (0 + 8)) (i * 1)).run Tryz.prog w = .ok b w) ∧ (∀ w, (part 3 (#[intV (hq y 10), intV (hq y 11), intV (hq y 12), intV (hq y 13), intV (hq y 14), intV (hq y 15), intV (hq y 16), intV (hq y 17), intV (hq y 18)].extract 0 (0 + 8)) (i * 1)).run Tryz.prog w = .ok c w) ∧ ∀ w, (Op.equalIn (d + 1) 3 b c).run Tryz.prog w = .ok (a == z) w := fun a z h1 h2 => ⟨_, _, fun w => run_part1 a3 _ _ _ h1 w, fun w => run_part1 a3 _ _ _ h2 w, fun w => run_equalIn_int _ _ _ _ _ _ _ u3⟩
  match i, hm with
  | 0, _ => exact key _ _ rfl rfl
  | 1, _ => exact key _ _ rfl rfl
  | 2, _ => exact key _ _ rfl rfl
  | 3, _ => exact key _ _ rfl rfl
  | 4, _ => exact key _ _ rfl rfl
  | 5, _ => exact key _ _ rfl rfl
  | 6, _ => exact key _ _ rfl rfl
  | 7, _ => exact key _ _ rfl rfl
  | _ + 8, hm => exact absurd hm (by omega)
theorem eqRegs (x y : ProcD) (w : World) : (Op.equal 29 (.agg #[intV (hq x 10), intV (hq x 11), intV (hq x 12), intV (hq x 13), intV (hq x 14), intV (hq x 15), intV (hq x 16), intV (hq x 17), intV (hq x 18)]) (.agg #[intV (hq y 10), intV (hq y 11), intV (hq y 12), intV (hq y 13), intV (hq y 14), intV (hq y 15), intV (hq y 16), intV (hq y 17), intV (hq y 18)])).run Tryz.prog w = .ok (regsB x y) w := by
  have u3 := Tryz.underlying3
  have a3 : aggB Tryz.prog 3 = some false := by kernel_rfl
  have hS : Tryz.prog.underlying 29 = some (.struct (Tryz.prog.fieldsOf 29)) := by kernel_rfl
  have hp : Tryz.prog.stoodInHeld 29 = false := by kernel_rfl
  have a8 : aggB Tryz.prog 27 = some true := by kernel_rfl
  have s8 : szOf Tryz.prog 27 = some 8 := by kernel_rfl
  unfold Op.equal Op.maxDepth
  generalize hN : (10000 : Nat) = N
  obtain ⟨m, rfl⟩ : ∃ m, N = m + 1 + 1 + 1 := ⟨9997, by omega⟩
  rw [run_equalIn_struct w (m + 1 + 1) 29 _ _ hS hp]
  have q0 := fun w => run_partA (P := Tryz.prog) a8 s8 #[intV (hq x 10), intV (hq x 11), intV (hq x 12), intV (hq x 13), intV (hq x 14), intV (hq x 15), intV (hq x 16), intV (hq x 17), intV (hq x 18)] 0 w
  have q1 := fun w => run_part1 (P := Tryz.prog) a3 #[intV (hq x 10), intV (hq x 11), intV (hq x 12), intV (hq x 13), intV (hq x 14), intV (hq x 15), intV (hq x 16), intV (hq x 17), intV (hq x 18)] 8 _ rfl w
  have r0 := fun w => run_partA (P := Tryz.prog) a8 s8 #[intV (hq y 10), intV (hq y 11), intV (hq y 12), intV (hq y 13), intV (hq y 14), intV (hq y 15), intV (hq y 16), intV (hq y 17), intV (hq y 18)] 0 w
  have r1 := fun w => run_part1 (P := Tryz.prog) a3 #[intV (hq y 10), intV (hq y 11), intV (hq y 12), intV (hq y 13), intV (hq y 14), intV (hq y 15), intV (hq y 16), intV (hq y 17), intV (hq y 18)] 8 _ rfl w
  have e0 := eqRegArr x y m
  simp only [Program.fieldsOf, Tryz.underlying29, Op.eqFields, Sem.run_bind, q0, q1, r0, r1, Result.andThen_ok, e0, run_equalIn_int _ _ _ _ _ _ _ u3, Sem.run_ite, Sem.run_pure]
  unfold regsB
  generalize (List.range 8).all (regB x y) = bb
  cases bb <;> by_cases h2 : hq x 18 = hq y 18 <;> simp [run_equalIn_int _ _ _ _ _ _ _ u3, h2]
theorem eqAct (x y : ProcD) (i : Nat) (d : Nat) (w : World) : (Op.equalIn (d + 1 + 1) 33 (.agg (actU x i).toArray) (.agg (actU y i).toArray)).run Tryz.prog w = .ok (actB x y i) w := by
  have u3 := Tryz.underlying3
  have a3 : aggB Tryz.prog 3 = some false := by kernel_rfl
  have ub := Tryz.underlying4
  have ab : aggB Tryz.prog 4 = some false := by kernel_rfl
  have hS : Tryz.prog.underlying 33 = some (.struct (Tryz.prog.fieldsOf 33)) := by kernel_rfl
  have hp : Tryz.prog.stoodInHeld 33 = false := by kernel_rfl
  rw [run_equalIn_struct w (d + 1) 33 _ _ hS hp]
  have q0 : ∀ (x : ProcD) w, (part 3 (actU x i).toArray 0).run Tryz.prog w = .ok (intV (tq x (2 + 2 * i))) w := fun x w => run_part1 (P := Tryz.prog) a3 (actU x i).toArray 0 _ rfl w
  have q1 : ∀ (x : ProcD) w, (part 4 (actU x i).toArray 1).run Tryz.prog w = .ok (.bool (decide (tq x (3 + 2 * i) = 1))) w := fun x w => run_part1 (P := Tryz.prog) ab (actU x i).toArray 1 _ rfl w
  simp only [Program.fieldsOf, Tryz.underlying33, Op.eqFields, Sem.run_bind, q0, q1, Result.andThen_ok, run_equalIn_int _ _ _ _ _ _ _ u3, run_equalIn_bool' _ _ _ _ _ ub, Sem.run_ite, Sem.run_pure]
  unfold actB
  by_cases h0 : tq x (2 + 2 * i) = tq y (2 + 2 * i) <;> by_cases h1 : tq x (3 + 2 * i) = 1 <;> by_cases h2 : tq y (3 + 2 * i) = 1 <;> simp [run_equalIn_int _ _ _ _ _ _ _ u3, run_equalIn_bool' _ _ _ _ _ ub, h0, h1, h2]
theorem eqActs (x y : ProcD) (av fv av2 fv2 : Value) (w : World) : (Op.equal 34 (.agg (((procV x av fv).drop 24).take 32).toArray) (.agg (((procV y av2 fv2).drop 24).take 32).toArray)).run Tryz.prog w = .ok (actsB x y) w := by
  obtain ⟨ii, hi⟩ : ∃ ii, Tryz.prog.info? 33 = some ii := Option.isSome_iff_exists.1 (by kernel_rfl)
  have hc : Tryz.prog.cellsOf 33 = 2 := by kernel_rfl
  have aa : aggB Tryz.prog 33 = some true := by kernel_rfl
  have sa : szOf Tryz.prog 33 = some 2 := by kernel_rfl
  unfold Op.equal Op.maxDepth
  generalize hN : (10000 : Nat) = N
  obtain ⟨m, rfl⟩ : ∃ m, N = m + 1 + 1 + 1 := ⟨9997, by omega⟩
  rw [run_equalIn_array w (m + 1 + 1) _ _ Tryz.underlying34 hi, hc]
  refine eqItems_val _ (fun i hm => ⟨.agg (actU x i).toArray, .agg (actU y i).toArray, fun w => ?_, fun w => ?_, fun w => eqAct x y i m w⟩) w
  · rw [run_partA aa sa, act_at x av fv i (List.mem_range.1 hm)]
  · rw [run_partA aa sa, act_at y av2 fv2 i (List.mem_range.1 hm)]
theorem eqArea (y z : ArD) (w : World) : (Op.equal 89 (.agg (arV6 y).toArray) (.agg (arV6 z).toArray)).run Tryz.prog w = .ok (decide (y = z)) w := by
  have u3 := Tryz.underlying3
  have a3 : aggB Tryz.prog 3 = some false := by kernel_rfl
  have ub := Tryz.underlying4
  have ab : aggB Tryz.prog 4 = some false := by kernel_rfl
  have us := Tryz.underlying9
  have as_ : aggB Tryz.prog 9 = some false := by kernel_rfl
  have hS : Tryz.prog.underlying 89 = some (.struct (Tryz.prog.fieldsOf 89)) := by kernel_rfl
  have hp : Tryz.prog.stoodInHeld 89 = false := by kernel_rfl
  unfold Op.equal Op.maxDepth
  generalize hN : (10000 : Nat) = N
  obtain ⟨m, rfl⟩ : ∃ m, N = m + 1 + 1 := ⟨9998, by omega⟩
  rw [run_equalIn_struct w (m + 1) 89 _ _ hS hp]
  have q0 : ∀ (y : ArD) w, (part 3 (arV6 y).toArray 0).run Tryz.prog w = .ok (intV y.a) w := fun y w => run_part1 (P := Tryz.prog) a3 (arV6 y).toArray 0 _ rfl w
  have q1 : ∀ (y : ArD) w, (part 3 (arV6 y).toArray 1).run Tryz.prog w = .ok (intV y.n) w := fun y w => run_part1 (P := Tryz.prog) a3 (arV6 y).toArray 1 _ rfl w
  have q2 : ∀ (y : ArD) w, (part 9 (arV6 y).toArray 2).run Tryz.prog w = .ok (strV y.o) w := fun y w => run_part1 (P := Tryz.prog) as_ (arV6 y).toArray 2 _ rfl w
  have q3 : ∀ (y : ArD) w, (part 3 (arV6 y).toArray 3).run Tryz.prog w = .ok (intV y.f) w := fun y w => run_part1 (P := Tryz.prog) a3 (arV6 y).toArray 3 _ rfl w
  have q4 : ∀ (y : ArD) w, (part 4 (arV6 y).toArray 4).run Tryz.prog w = .ok (.bool y.sh) w := fun y w => run_part1 (P := Tryz.prog) ab (arV6 y).toArray 4 _ rfl w
  have q5 : ∀ (y : ArD) w, (part 4 (arV6 y).toArray 5).run Tryz.prog w = .ok (.bool y.wr) w := fun y w => run_part1 (P := Tryz.prog) ab (arV6 y).toArray 5 _ rfl w
  simp only [Program.fieldsOf, Tryz.underlying89, Op.eqFields, Sem.run_bind, q0, q1, q2, q3, q4, q5, Result.andThen_ok, run_equalIn_int _ _ _ _ _ _ _ u3, run_equalIn_bool' _ _ _ _ _ ub, run_equalIn_string _ _ _ _ _ us, Sem.run_ite, Sem.run_pure]
  obtain ⟨a, n, o, f, s, r⟩ := y
  obtain ⟨a', n', o', f', s', r'⟩ := z
  simp only [ArD.mk.injEq]
  by_cases h0 : a = a' <;> by_cases h1 : n = n' <;> by_cases h2 : o = o' <;> by_cases h3 : f = f' <;> by_cases h4 : s = s' <;> by_cases h5 : r = r' <;> simp [h0, h1, h2, h3, h4, h5, run_equalIn_int _ _ _ _ _ _ _ u3, run_equalIn_bool' _ _ _ _ _ ub, run_equalIn_string _ _ _ _ _ us]
theorem same_endA {α : Type} {l1 l2 : List α} {i : Nat} (h : ∀ j, j < i → l1[j]? = l2[j]?) (h1 : i = l1.length) (h2 : l1.length = l2.length) : l1 = l2 := by
  apply List.ext_getElem?
  intro j
  by_cases hj : j < i
  · exact h j hj
  · rw [List.getElem?_eq_none (by omega), List.getElem?_eq_none (by omega)]
theorem procD_ext {x y : ProcD} (hx : WFR x) (hy : WFR y) (har : x.ar = y.ar) (hfd : x.fds = y.fds) (hr : regsB x y = true) (ha : actsB x y = true) (hw : waitB x y = true)
    (h : ∀ j, j < 10 → hq x j = hq y j) (hc : x.cwd = y.cwd) (h0 : tq x 0 = tq y 0) (h1 : tq x 1 = tq y 1) (h37 : tq x 37 = tq y 37) (hs : x.shl = y.shl) : x = y := by
  have e1 : x.hs = y.hs := by
    have a := list_getD hx.hl
    have b := list_getD hy.hl
    rw [a, b]
    refine List.map_congr_left fun j hj => ?_
    have hj := List.mem_range.1 hj
    have key : hq x j = hq y j := by
      simp only [regsB, Bool.and_eq_true, List.all_eq_true, beq_iff_eq] at hr
      by_cases q : j < 10
      · exact h j q
      · by_cases q2 : j < 18
        · have := hr.1 (j - 10) (List.mem_range.2 (by omega))
          simp only [regB, beq_iff_eq] at this
          rw [show 10 + (j - 10) = j by omega] at this
          exact this
        · obtain rfl : j = 18 := by omega
          exact hr.2
    unfold hq at key; exact key
  have e2 : x.ts = y.ts := by
    have a := list_getD hx.tl
    have b := list_getD hy.tl
    rw [a, b]
    refine List.map_congr_left fun j hj => ?_
    have hj := List.mem_range.1 hj
    have key : tq x j = tq y j := by
      simp only [waitB, Bool.and_eq_true, beq_iff_eq] at hw
      by_cases q : j < 2
      · rcases (by omega : j = 0 ∨ j = 1) with rfl | rfl <;> assumption
      · by_cases q2 : j < 34
        · simp only [actsB, List.all_eq_true] at ha
          have h4 := ha ((j - 2) / 2) (List.mem_range.2 (by omega))
          simp only [actB, Bool.and_eq_true, beq_iff_eq] at h4
          by_cases q3 : j % 2 = 0
          · have := h4.1
            rw [show 2 + 2 * ((j - 2) / 2) = j by omega] at this
            exact this
          · have h5 := h4.2
            rw [show 3 + 2 * ((j - 2) / 2) = j by omega] at h5
            have fl : ∀ {z : ProcD}, WFR z → tq z j = 0 ∨ tq z j = 1 := fun {z} hz => by
              have hf := hz.fl
              unfold flagsOk at hf
              rw [List.all_eq_true] at hf
              have h6 := hf ((j - 2) / 2) (List.mem_range.2 (by omega))
              rw [show 3 + 2 * ((j - 2) / 2) = j by omega] at h6
              have h7 : (z.ts[j]?).getD 0 = tq z j := by unfold tq; rw [List.getD_eq_getElem?_getD]
              rw [h7] at h6
              simpa [fl01] using h6
            have h8 := decide_eq_decide.1 h5
            rcases fl hx with r1 | r1 <;> rcases fl hy with r2 | r2 <;> omega
        · rcases (by omega : j = 34 ∨ j = 35 ∨ j = 36 ∨ j = 37) with rfl | rfl | rfl | rfl
          · exact hw.1
          · exact hw.2.1
          · exact hw.2.2
          · exact h37
    unfold tq at key; exact key
  obtain ⟨a, b, c, d, e, f⟩ := x
  obtain ⟨a', b', c', d', e', f'⟩ := y
  dsimp only at *
  subst e1 e2 har hfd hc hs; rfl
set_option maxRecDepth 100000 in
theorem gqA_sp {w : World} {F : Th} (hS : Sat w [F]) {v1 v2 : Value} {l1 l2 : List ArD} (hE1 : Ent F (RdL arC v1 l1)) (hE2 : Ent F (RdL arC v2 l2)) :
    Calls Tryz.prog 69 #[v1, v2] w (Ret fun v w' => v = .bool (decide (l1 = l2)) ∧ Sat w' [F]) := by
  obtain ⟨ao1, cap1, rfl, hm1⟩ := (hE1.sat hS 0 rfl).shape
  obtain ⟨ao2, cap2, rfl, hm2⟩ := (hE2.sat hS 0 rfl).shape
  refine calls_enter Tryz.func69 rfl Tryz.ntmps69 rfl ?_
  refine wc_seq ?_
  refine wc_region ?_
  refine wl_assign rfl rfl ?_
  refine wl_nil ?_
  refine qs_seq ?_
  refine wc_seq ?_
  refine wc_seq ?_
  refine wc_region ?_
  refine wl_move rfl rfl ?_
  refine wl_lenL Tryz.underlying30 rfl rfl ?_
  refine wl_move rfl rfl ?_
  refine wl_lenL Tryz.underlying30 rfl rfl ?_
  refine wl_neq rfl rfl rfl ?_
  refine wl_nil ?_
  refine qs_seq ?_
  refine wc_condD rfl (fun h1 => ?_) (fun h1 => ?_)
  · skip
    refine wc_seq ?_
    refine wc_region ?_
    refine wl_assign rfl rfl ?_
    refine wl_nil ?_
    refine qs_seq ?_
    refine wc_ret ?_
    refine qs_then_ret ?_
    refine fin1 (.inr rfl) rfl rfl ?_
    exact ⟨_, rfl, by rw [decide_eq_false (by rintro rfl; omega)], hS⟩
  refine wc_skip ?_
  refine qs_seq ?_
  refine wc_seq ?_
  refine wc_seq ?_
  refine wc_region ?_
  refine wl_move rfl rfl ?_
  refine wl_lenL Tryz.underlying30 rfl rfl ?_
  refine wl_move rfl rfl ?_
  refine wl_nil ?_
  refine qs_seq ?_
  refine wc_sub (L' := [(13, _), (12, _), (4, _), (0, _), (1, _)]) (.cons rfl (.cons rfl (.cons rfl (.cons rfl (.cons rfl .nil))))) ?_
  refine wc_block ?_
  refine wc_loop (fun K0 E0 W0 => ∃ (i : Nat), K0 = l1.length - i ∧ E0 = [(0, .slice ao1 l1.length cap1), (1, .slice ao2 l2.length cap2), (12, intV (l1.length : Int)), (13, intV (i : Int))] ∧ Sat W0 [F] ∧ (i ≤ l1.length) ∧ (∀ j, j < i → l1[j]? = l2[j]?)) (L0 := [(0, _), (1, _), (12, _), (13, _)]) (l1.length - 0) (.cons rfl (.cons rfl (.cons rfl (.cons rfl .nil)))) ⟨0, rfl, rfl, hS, by omega, by omega⟩ ?_
  rintro _ _ w2 ⟨i, rfl, rfl, hS2, hi, hok⟩
  refine wc_seq ?_
  refine wc_region ?_
  refine wl_lss rfl rfl rfl ?_
  refine wl_nil ?_
  refine qs_seq ?_
  refine wc_seq ?_
  refine wc_condD rfl (fun h3 => ?_) (fun h3 => ?_)
  · skip
    obtain ⟨y, hy⟩ : ∃ y, l1[i]? = some y := ⟨_, List.getElem?_eq_getElem (by omega)⟩
    obtain ⟨z, hz⟩ : ∃ z, l2[i]? = some z := ⟨_, List.getElem?_eq_getElem (by omega)⟩
    obtain ⟨b1, off1, rfl, hc1⟩ := (hE1.sat hS2 0 rfl).get hy
    obtain ⟨b2, off2, rfl, hc2⟩ := (hE2.sat hS2 0 rfl).get hz
    refine wc_skip ?_
    refine qs_seq ?_
    refine wc_seq ?_
    refine wc_block ?_
    refine wc_seq ?_
    refine wc_region ?_
    refine wl_move rfl rfl ?_
    refine wl_assign rfl rfl ?_
    refine wl_nil ?_
    refine qs_seq ?_
    refine wc_seq ?_
    have hS4 := hS2.drew
    refine wc_draw [0, 1, 2, 3, 4, 5, 6, 7, 8] [] mix (by kernel_rfl) ?_
    refine vc_p rfl rfl rfl (fun _ => (ev_move rfl)) ?_
    refine vc_p rfl rfl rfl (fun _ => (ev_move rfl)) ?_
    refine vc_p rfl rfl rfl (fun _ => (ev_indexAddr i rfl rfl (by first | rfl | omega) (by exact (List.getElem?_eq_some_iff.1 hy).1) es_30)) ?_
    refine vc_q rfl rfl rfl (ev_loadAt rfl ag_89 sz_89 (vs := arV6 y) hc1) ?_
    refine vc_p rfl rfl rfl (fun _ => (ev_move rfl)) ?_
    refine vc_p rfl rfl rfl (fun _ => (ev_move rfl)) ?_
    refine vc_p rfl rfl rfl (fun _ => (ev_indexAddr i rfl rfl (by first | rfl | omega) (by exact (List.getElem?_eq_some_iff.1 hz).1) es_30)) ?_
    refine vc_q rfl rfl rfl (ev_loadAt rfl ag_89 sz_89 (vs := arV6 z) hc2) ?_
    refine vc_p rfl rfl rfl (fun _ => (ev_neqAgg (eqArea y z) (by kernel_rfl) rfl rfl)) ?_
    refine VC.nil ?_
    refine qs_seq ?_
    refine wc_sub (L' := [(24, _), (0, _), (1, _), (12, _), (13, _)]) (.cons rfl (.cons rfl (.cons rfl (.cons rfl (.cons rfl .nil))))) ?_
    refine wc_cond rfl (fun h5 => ?_) (fun h5 => ?_)
    · skip
      have hne : y ≠ z := by simpa using h5
      refine wc_seq ?_
      refine wc_region ?_
      refine wl_assign rfl rfl ?_
      refine wl_nil ?_
      refine qs_seq ?_
      refine wc_ret ?_
      refine qs_block_ret ?_
      refine qs_then_ret ?_
      refine qs_then_ret ?_
      refine qs_block_ret ?_
      refine qs_then_ret ?_
      refine fin1 (.inr rfl) rfl rfl ?_
      exact ⟨_, rfl, by rw [decide_eq_false (by rintro rfl; rw [hy] at hz; cases hz; exact hne rfl)], hS4⟩
    have heq : y = z := by simpa using h5
    refine wc_skip ?_
    refine qs_block_normal ?_
    refine qs_seq ?_
    refine wc_region ?_
    refine wl_add rfl rfl (by first | omega | (simp; omega)) (by first | omega | (simp; omega)) rfl ?_
    refine wl_move rfl rfl ?_
    refine wl_nil ?_
    exact qs_round (L1 := [(0, _), (1, _), (12, _), (13, intV ((i + 1 : Nat) : Int))]) (.cons rfl (.cons rfl (.cons rfl (.cons rfl .nil)))) (k1 := l1.length - (i + 1)) (by omega) ⟨i + 1, rfl, rfl, hS4, by omega, fun j hj => by by_cases e : j = i; (subst e; rw [hy, hz, heq]); exact hok j (by omega)⟩
  refine wc_exit ?_
  refine qs_then_exit ?_
  refine qs_then_exit ?_
  refine qs_block_exit ?_
  refine qs_seq ?_
  refine wc_seq ?_
  refine wc_region ?_
  refine wl_assign rfl rfl ?_
  refine wl_nil ?_
  refine qs_seq ?_
  refine wc_ret ?_
  refine fin1 (.inr rfl) rfl rfl ?_
  exact ⟨_, rfl, by rw [decide_eq_true (same_endA hok (by omega) (by omega))], hS2⟩
set_option maxRecDepth 100000 in
theorem gqS_sp {w : World} {F : Th} (hS : Sat w [F]) {v1 v2 : Value} {l1 l2 : List Bs} (hE1 : Ent F (RdL stC v1 l1)) (hE2 : Ent F (RdL stC v2 l2)) :
    Calls Tryz.prog 70 #[v1, v2] w (Ret fun v w' => v = .bool (decide (l1 = l2)) ∧ Sat w' [F]) := by
  obtain ⟨ao1, cap1, rfl, hm1⟩ := (hE1.sat hS 0 rfl).shape
  obtain ⟨ao2, cap2, rfl, hm2⟩ := (hE2.sat hS 0 rfl).shape
  refine calls_enter Tryz.func70 rfl Tryz.ntmps70 rfl ?_
  refine wc_seq ?_
  refine wc_region ?_
  refine wl_assign rfl rfl ?_
  refine wl_nil ?_
  refine qs_seq ?_
  refine wc_seq ?_
  refine wc_seq ?_
  refine wc_region ?_
  refine wl_move rfl rfl ?_
  refine wl_lenL Tryz.underlying31 rfl rfl ?_
  refine wl_move rfl rfl ?_
  refine wl_lenL Tryz.underlying31 rfl rfl ?_
  refine wl_neq rfl rfl rfl ?_
  refine wl_nil ?_
  refine qs_seq ?_
  refine wc_condD rfl (fun h1 => ?_) (fun h1 => ?_)
  · skip
    refine wc_seq ?_
    refine wc_region ?_
    refine wl_assign rfl rfl ?_
    refine wl_nil ?_
    refine qs_seq ?_
    refine wc_ret ?_
    refine qs_then_ret ?_
    refine fin1 (.inr rfl) rfl rfl ?_
    exact ⟨_, rfl, by rw [decide_eq_false (by rintro rfl; omega)], hS⟩
  refine wc_skip ?_
  refine qs_seq ?_
  refine wc_seq ?_
  refine wc_seq ?_
  refine wc_region ?_
  refine wl_move rfl rfl ?_
  refine wl_lenL Tryz.underlying31 rfl rfl ?_
  refine wl_move rfl rfl ?_
  refine wl_nil ?_
  refine qs_seq ?_
  refine wc_sub (L' := [(13, _), (12, _), (4, _), (0, _), (1, _)]) (.cons rfl (.cons rfl (.cons rfl (.cons rfl (.cons rfl .nil))))) ?_
  refine wc_block ?_
  refine wc_loop (fun K0 E0 W0 => ∃ (i : Nat), K0 = l1.length - i ∧ E0 = [(0, .slice ao1 l1.length cap1), (1, .slice ao2 l2.length cap2), (12, intV (l1.length : Int)), (13, intV (i : Int))] ∧ Sat W0 [F] ∧ (i ≤ l1.length) ∧ (∀ j, j < i → l1[j]? = l2[j]?)) (L0 := [(0, _), (1, _), (12, _), (13, _)]) (l1.length - 0) (.cons rfl (.cons rfl (.cons rfl (.cons rfl .nil)))) ⟨0, rfl, rfl, hS, by omega, by omega⟩ ?_
  rintro _ _ w2 ⟨i, rfl, rfl, hS2, hi, hok⟩
  refine wc_seq ?_
  refine wc_region ?_
  refine wl_lss rfl rfl rfl ?_
  refine wl_nil ?_
  refine qs_seq ?_
  refine wc_seq ?_
  refine wc_condD rfl (fun h3 => ?_) (fun h3 => ?_)
  · skip
    obtain ⟨y, hy⟩ : ∃ y, l1[i]? = some y := ⟨_, List.getElem?_eq_getElem (by omega)⟩
    obtain ⟨z, hz⟩ : ∃ z, l2[i]? = some z := ⟨_, List.getElem?_eq_getElem (by omega)⟩
    obtain ⟨b1, off1, rfl, hc1⟩ := (hE1.sat hS2 0 rfl).get hy
    obtain ⟨b2, off2, rfl, hc2⟩ := (hE2.sat hS2 0 rfl).get hz
    refine wc_skip ?_
    refine qs_seq ?_
    refine wc_seq ?_
    refine wc_block ?_
    refine wc_seq ?_
    refine wc_region ?_
    refine wl_move rfl rfl ?_
    refine wl_assign rfl rfl ?_
    refine wl_nil ?_
    refine qs_seq ?_
    refine wc_seq ?_
    have hS4 := hS2.drew
    refine wc_draw [0, 1, 2, 3, 4, 5, 6, 7, 8] [] mix (by kernel_rfl) ?_
    refine vc_p rfl rfl rfl (fun _ => (ev_move rfl)) ?_
    refine vc_p rfl rfl rfl (fun _ => (ev_move rfl)) ?_
    refine vc_p rfl rfl rfl (fun _ => (ev_indexAddr i rfl rfl (by first | rfl | omega) (by exact (List.getElem?_eq_some_iff.1 hy).1) es_31)) ?_
    refine vc_q rfl rfl rfl (ev_load rfl ag_9 (hc1 0 _ rfl)) ?_
    refine vc_p rfl rfl rfl (fun _ => (ev_move rfl)) ?_
    refine vc_p rfl rfl rfl (fun _ => (ev_move rfl)) ?_
    refine vc_p rfl rfl rfl (fun _ => (ev_indexAddr i rfl rfl (by first | rfl | omega) (by exact (List.getElem?_eq_some_iff.1 hz).1) es_31)) ?_
    refine vc_q rfl rfl rfl (ev_load rfl ag_9 (hc2 0 _ rfl)) ?_
    refine vc_p rfl rfl rfl (fun _ => (ev_neqS rfl rfl)) ?_
    refine VC.nil ?_
    refine qs_seq ?_
    refine wc_sub (L' := [(24, _), (0, _), (1, _), (12, _), (13, _)]) (.cons rfl (.cons rfl (.cons rfl (.cons rfl (.cons rfl .nil))))) ?_
    refine wc_condD rfl (fun h5 => ?_) (fun h5 => ?_)
    · skip
      have hne : y ≠ z := by simpa using h5
      refine wc_seq ?_
      refine wc_region ?_
      refine wl_assign rfl rfl ?_
      refine wl_nil ?_
      refine qs_seq ?_
      refine wc_ret ?_
      refine qs_block_ret ?_
      refine qs_then_ret ?_
      refine qs_then_ret ?_
      refine qs_block_ret ?_
      refine qs_then_ret ?_
      refine fin1 (.inr rfl) rfl rfl ?_
      exact ⟨_, rfl, by rw [decide_eq_false (by rintro rfl; rw [hy] at hz; cases hz; exact hne rfl)], hS4⟩
    have heq : y = z := by simpa using h5
    refine wc_skip ?_
    refine qs_block_normal ?_
    refine qs_seq ?_
    refine wc_region ?_
    refine wl_add rfl rfl (by first | omega | (simp; omega)) (by first | omega | (simp; omega)) rfl ?_
    refine wl_move rfl rfl ?_
    refine wl_nil ?_
    exact qs_round (L1 := [(0, _), (1, _), (12, _), (13, intV ((i + 1 : Nat) : Int))]) (.cons rfl (.cons rfl (.cons rfl (.cons rfl .nil)))) (k1 := l1.length - (i + 1)) (by omega) ⟨i + 1, rfl, rfl, hS4, by omega, fun j hj => by by_cases e : j = i; (subst e; rw [hy, hz, heq]); exact hok j (by omega)⟩
  refine wc_exit ?_
  refine qs_then_exit ?_
  refine qs_then_exit ?_
  refine qs_block_exit ?_
  refine qs_seq ?_
  refine wc_seq ?_
  refine wc_region ?_
  refine wl_assign rfl rfl ?_
  refine wl_nil ?_
  refine qs_seq ?_
  refine wc_ret ?_
  refine fin1 (.inr rfl) rfl rfl ?_
  exact ⟨_, rfl, by rw [decide_eq_true (same_endA hok (by omega) (by omega))], hS2⟩
set_option maxRecDepth 100000 in
theorem gq22_sp {w : World} {F : Th} (hS : Sat w [F]) {v1 v2 : Value} {l1 l2 : List ArD} (hE1 : Ent F (RdL arC v1 l1)) (hE2 : Ent F (RdL arC v2 l2)) :
    Calls Tryz.prog 45 #[v1, v2] w (Ret fun v w' => v = .bool (decide (l1 = l2)) ∧ Sat w' [F]) := by
  obtain ⟨ao1, cap1, rfl, hm1⟩ := (hE1.sat hS 0 rfl).shape
  obtain ⟨ao2, cap2, rfl, hm2⟩ := (hE2.sat hS 0 rfl).shape
  refine calls_enter Tryz.func45 rfl Tryz.ntmps45 rfl ?_
  refine wc_seq ?_
  refine wc_region ?_
  refine wl_assign rfl rfl ?_
  refine wl_nil ?_
  refine qs_seq ?_
  refine wc_seq ?_
  refine wc_seq ?_
  refine wc_region ?_
  refine wl_move rfl rfl ?_
  refine wl_lenL Tryz.underlying30 rfl rfl ?_
  refine wl_move rfl rfl ?_
  refine wl_lenL Tryz.underlying30 rfl rfl ?_
  refine wl_neq rfl rfl rfl ?_
  refine wl_nil ?_
  refine qs_seq ?_
  refine wc_condD rfl (fun h1 => ?_) (fun h1 => ?_)
  · skip
    refine wc_seq ?_
    refine wc_region ?_
    refine wl_assign rfl rfl ?_
    refine wl_nil ?_
    refine qs_seq ?_
    refine wc_ret ?_
    refine qs_then_ret ?_
    refine fin1 (.inr rfl) rfl rfl ?_
    exact ⟨_, rfl, by rw [decide_eq_false (by rintro rfl; omega)], hS⟩
  refine wc_skip ?_
  refine qs_seq ?_
  refine wc_seq ?_
  refine wc_seq ?_
  refine wc_region ?_
  refine wl_assign rfl rfl ?_
  refine wl_nil ?_
  refine qs_seq ?_
  refine wc_block ?_
  refine wc_loop (fun K0 E0 W0 => ∃ (i : Nat), K0 = l1.length - i ∧ E0 = [(0, .slice ao1 l1.length cap1), (1, .slice ao2 l2.length cap2), (5, intV (i : Int))] ∧ Sat W0 [F] ∧ (i ≤ l1.length) ∧ (∀ j, j < i → l1[j]? = l2[j]?)) (L0 := [(0, _), (1, _), (5, _)]) (l1.length - 0) (.cons rfl (.cons rfl (.cons rfl .nil))) ⟨0, rfl, rfl, hS, by omega, by omega⟩ ?_
  rintro _ _ w2 ⟨i, rfl, rfl, hS2, hi, hok⟩
  refine wc_seq ?_
  refine wc_seq ?_
  refine wc_region ?_
  refine wl_move rfl rfl ?_
  refine wl_move rfl rfl ?_
  refine wl_lenL Tryz.underlying30 rfl rfl ?_
  refine wl_lss rfl rfl rfl ?_
  refine wl_nil ?_
  refine qs_seq ?_
  refine wc_condD rfl (fun h3 => ?_) (fun h3 => ?_)
  · skip
    obtain ⟨y, hy⟩ : ∃ y, l1[i]? = some y := ⟨_, List.getElem?_eq_getElem (by omega)⟩
    obtain ⟨z, hz⟩ : ∃ z, l2[i]? = some z := ⟨_, List.getElem?_eq_getElem (by omega)⟩
    obtain ⟨b1, off1, rfl, hc1⟩ := (hE1.sat hS2 0 rfl).get hy
    obtain ⟨b2, off2, rfl, hc2⟩ := (hE2.sat hS2 0 rfl).get hz
    refine wc_skip ?_
    refine qs_seq ?_
    refine wc_seq ?_
    refine wc_block ?_
    refine wc_seq ?_
    have hS4 := hS2.drew
    refine wc_draw [0, 1, 2, 3, 4, 5, 6, 7, 8] [] mix (by kernel_rfl) ?_
    refine vc_p rfl rfl rfl (fun _ => (ev_move rfl)) ?_
    refine vc_p rfl rfl rfl (fun _ => (ev_move rfl)) ?_
    refine vc_p rfl rfl rfl (fun _ => (ev_indexAddr i rfl rfl (by first | rfl | omega) (by exact (List.getElem?_eq_some_iff.1 hy).1) es_30)) ?_
    refine vc_q rfl rfl rfl (ev_loadAt rfl ag_89 sz_89 (vs := arV6 y) hc1) ?_
    refine vc_p rfl rfl rfl (fun _ => (ev_move rfl)) ?_
    refine vc_p rfl rfl rfl (fun _ => (ev_move rfl)) ?_
    refine vc_p rfl rfl rfl (fun _ => (ev_indexAddr i rfl rfl (by first | rfl | omega) (by exact (List.getElem?_eq_some_iff.1 hz).1) es_30)) ?_
    refine vc_q rfl rfl rfl (ev_loadAt rfl ag_89 sz_89 (vs := arV6 z) hc2) ?_
    refine vc_p rfl rfl rfl (fun _ => (ev_neqAgg (eqArea y z) (by kernel_rfl) rfl rfl)) ?_
    refine VC.nil ?_
    refine qs_seq ?_
    refine wc_sub (L' := [(25, _), (0, _), (1, _), (5, _)]) (.cons rfl (.cons rfl (.cons rfl (.cons rfl .nil)))) ?_
    refine wc_cond rfl (fun h5 => ?_) (fun h5 => ?_)
    · skip
      have hne : y ≠ z := by simpa using h5
      refine wc_seq ?_
      refine wc_region ?_
      refine wl_assign rfl rfl ?_
      refine wl_nil ?_
      refine qs_seq ?_
      refine wc_ret ?_
      refine qs_block_ret ?_
      refine qs_then_ret ?_
      refine qs_then_ret ?_
      refine qs_block_ret ?_
      refine qs_then_ret ?_
      refine fin1 (.inr rfl) rfl rfl ?_
      exact ⟨_, rfl, by rw [decide_eq_false (by rintro rfl; rw [hy] at hz; cases hz; exact hne rfl)], hS4⟩
    have heq : y = z := by simpa using h5
    refine wc_skip ?_
    refine qs_block_normal ?_
    refine qs_seq ?_
    refine wc_region ?_
    refine wl_move rfl rfl ?_
    refine wl_add rfl rfl (by first | omega | (simp; omega)) (by first | omega | (simp; omega)) rfl ?_
    refine wl_assign rfl rfl ?_
    refine wl_nil ?_
    exact qs_round (L1 := [(0, _), (1, _), (5, intV ((i + 1 : Nat) : Int))]) (.cons rfl (.cons rfl (.cons rfl .nil))) (k1 := l1.length - (i + 1)) (by omega) ⟨i + 1, rfl, rfl, hS4, by omega, fun j hj => by by_cases e : j = i; (subst e; rw [hy, hz, heq]); exact hok j (by omega)⟩
  refine wc_exit ?_
  refine qs_then_exit ?_
  refine qs_then_exit ?_
  refine qs_block_exit ?_
  refine qs_seq ?_
  refine wc_seq ?_
  refine wc_region ?_
  refine wl_assign rfl rfl ?_
  refine wl_nil ?_
  refine qs_seq ?_
  refine wc_ret ?_
  refine fin1 (.inr rfl) rfl rfl ?_
  exact ⟨_, rfl, by rw [decide_eq_true (same_endA hok (by omega) (by omega))], hS2⟩
set_option maxRecDepth 100000 in
set_option maxHeartbeats 4000000 in
theorem refSameG_sp {w : World} {F : Th} (hS : Sat w [F]) {x y : ProcD} (hx : WFR x) (hy : WFR y) {a1 f1 a2 f2 : Value} (hA1 : Ent F (RdL arC a1 x.ar)) (hF1 : Ent F (RdL stC f1 x.fds)) (hA2 : Ent F (RdL arC a2 y.ar)) (hF2 : Ent F (RdL stC f2 y.fds)) :
    Calls Tryz.prog 14 #[.agg (procV x a1 f1).toArray, .agg (procV y a2 f2).toArray] w (Ret fun v w' => v = .bool (decide (x = y)) ∧ Sat w' [F]) := by
  refine calls_enter Tryz.func14 rfl Tryz.ntmps14 rfl ?_
  refine wc_seq ?_
  refine wc_region ?_
  refine wl_box hS rfl rfl rfl ?_
  intro b1 w1 hS1a
  have hS1 : Sat w1 [blkT b1 (procV x a1 f1), F] := hS1a
  refine wl_box hS1 rfl rfl rfl ?_
  intro b2 w2 hS2a
  have hS2 : Sat w2 [blkT b2 (procV y a2 f2), blkT b1 (procV x a1 f1), F] := hS2a
  clear hS1
  refine wl_assign rfl rfl ?_
  refine wl_nil ?_
  refine qs_seq ?_
  refine wc_seq ?_
  refine wc_seq ?_
  refine wc_region ?_
  refine wl_fieldAddr rfl fo_38_11 rfl ?_
  refine wl_load rfl ag_30 (by first | assumption | exact hS2.cell 0 rfl rfl | exact hS2.cell 1 rfl rfl) rfl ?_
  refine wl_fieldAddr rfl fo_38_11 rfl ?_
  refine wl_load rfl ag_30 (by first | assumption | exact hS2.cell 0 rfl rfl | exact hS2.cell 1 rfl rfl) rfl ?_
  have hC3 := hS2.split [] [false, false, false] rfl; dsimp only [selF, pickA, nthA, List.cons_append, List.nil_append] at hC3
  refine wl_call cal_45 rfl (gq22_sp hC3 (hA1.starL 2 rfl) (hA2.starL 2 rfl)) rfl ?_
  rintro e w3 ⟨_, rfl, rfl, hS3⟩; refine ⟨_, rfl, ?_⟩
  replace hS3 := hS3.join rfl; dsimp only [List.dropLast, List.cons_append, List.nil_append] at hS3; clear hC3
  clear hS2
  refine wl_not rfl rfl ?_
  refine wl_move rfl rfl ?_
  refine wl_split 11 rfl (fun h4 => ?_) (fun h4 => ?_)
  · skip
    have hne : x ≠ y := by rintro rfl; first | exact absurd rfl h4 | (simp [waitB_self, regsB_self, actsB_self] at h4; done)
    refine wl_unwanted rfl rfl h4 rfl ?_
    refine wl_unwanted rfl rfl h4 rfl ?_
    refine wl_unwanted rfl rfl h4 rfl ?_
    refine wl_unwanted rfl rfl h4 rfl ?_
    refine wl_unwanted rfl rfl h4 rfl ?_
    refine wl_unwanted rfl rfl h4 rfl ?_
    refine wl_pickT rfl h4 rfl rfl ?_
    refine wl_move rfl rfl ?_
    refine wl_unwanted rfl rfl rfl rfl ?_
    refine wl_unwanted rfl rfl rfl rfl ?_
    refine wl_unwanted rfl rfl rfl rfl ?_
    refine wl_unwanted rfl rfl rfl rfl ?_
    refine wl_unwanted rfl rfl rfl rfl ?_
    refine wl_pickT rfl rfl rfl rfl ?_
    refine wl_move rfl rfl ?_
    refine wl_unwanted rfl rfl rfl rfl ?_
    refine wl_unwanted rfl rfl rfl rfl ?_
    refine wl_unwanted rfl rfl rfl rfl ?_
    refine wl_unwanted rfl rfl rfl rfl ?_
    refine wl_unwanted rfl rfl rfl rfl ?_
    refine wl_pickT rfl rfl rfl rfl ?_
    refine wl_move rfl rfl ?_
    refine wl_unwanted rfl rfl rfl rfl ?_
    refine wl_unwanted rfl rfl rfl rfl ?_
    refine wl_unwanted rfl rfl rfl rfl ?_
    refine wl_unwanted rfl rfl rfl rfl ?_
    refine wl_unwanted rfl rfl rfl rfl ?_
    refine wl_pickT rfl rfl rfl rfl ?_
    refine wl_nil ?_
    refine qs_seq ?_
    refine wc_sub (L' := [(39, _), (4, _), (3, _), (2, _)]) (.cons rfl (.cons rfl (.cons rfl (.cons rfl .nil)))) ?_
    refine wc_condT rfl ?_
    refine wc_seq ?_
    refine wc_region ?_
    refine wl_assign rfl rfl ?_
    refine wl_nil ?_
    refine qs_seq ?_
    refine wc_ret ?_
    refine qs_then_ret ?_
    refine fin1 (.inr rfl) rfl rfl ?_
    exact ⟨_, rfl, by rw [decide_eq_false (p := x = y) hne], hS3.pick [2] rfl⟩
  have har : x.ar = y.ar := by simpa using h4
  refine wl_guard rfl rfl h4 ?_
  refine wl_fieldAddr rfl fo_38_12 rfl ?_
  refine wl_guard rfl rfl h4 ?_
  refine wl_load rfl ag_31 (by first | assumption | exact hS3.cell 0 rfl rfl | exact hS3.cell 1 rfl rfl) rfl ?_
  refine wl_guard rfl rfl h4 ?_
  refine wl_fieldAddr rfl fo_38_12 rfl ?_
  refine wl_guard rfl rfl h4 ?_
  refine wl_load rfl ag_31 (by first | assumption | exact hS3.cell 0 rfl rfl | exact hS3.cell 1 rfl rfl) rfl ?_
  refine wl_guard rfl rfl h4 ?_
  have hC5 := hS3.split [] [false, false, false] rfl; dsimp only [selF, pickA, nthA, List.cons_append, List.nil_append] at hC5
  refine wl_call cal_30 rfl (same_sp hC5 (hF1.starL 2 rfl) (hF2.starL 2 rfl)) rfl ?_
  rintro e w5 ⟨_, rfl, rfl, hS5⟩; refine ⟨_, rfl, ?_⟩
  replace hS5 := hS5.join rfl; dsimp only [List.dropLast, List.cons_append, List.nil_append] at hS5; clear hC5
  clear hS3
  refine wl_guard rfl rfl h4 ?_
  refine wl_not rfl rfl ?_
  refine wl_pickF rfl h4 rfl rfl ?_
  refine wl_move rfl rfl ?_
  refine wl_split 19 rfl (fun h6 => ?_) (fun h6 => ?_)
  · skip
    have hne : x ≠ y := by rintro rfl; first | exact absurd rfl h6 | (simp [waitB_self, regsB_self, actsB_self] at h6; done)
    refine wl_unwanted rfl rfl h6 rfl ?_
    refine wl_unwanted rfl rfl h6 rfl ?_
    refine wl_unwanted rfl rfl h6 rfl ?_
    refine wl_unwanted rfl rfl h6 rfl ?_
    refine wl_unwanted rfl rfl h6 rfl ?_
    refine wl_pickT rfl h6 rfl rfl ?_
    refine wl_move rfl rfl ?_
    refine wl_unwanted rfl rfl rfl rfl ?_
    refine wl_unwanted rfl rfl rfl rfl ?_
    refine wl_unwanted rfl rfl rfl rfl ?_
    refine wl_unwanted rfl rfl rfl rfl ?_
    refine wl_unwanted rfl rfl rfl rfl ?_
    refine wl_pickT rfl rfl rfl rfl ?_
    refine wl_move rfl rfl ?_
    refine wl_unwanted rfl rfl rfl rfl ?_
    refine wl_unwanted rfl rfl rfl rfl ?_
    refine wl_unwanted rfl rfl rfl rfl ?_
    refine wl_unwanted rfl rfl rfl rfl ?_
    refine wl_unwanted rfl rfl rfl rfl ?_
    refine wl_pickT rfl rfl rfl rfl ?_
    refine wl_nil ?_
    refine qs_seq ?_
    refine wc_sub (L' := [(39, _), (4, _), (3, _), (2, _)]) (.cons rfl (.cons rfl (.cons rfl (.cons rfl .nil)))) ?_
    refine wc_condT rfl ?_
    refine wc_seq ?_
    refine wc_region ?_
    refine wl_assign rfl rfl ?_
    refine wl_nil ?_
    refine qs_seq ?_
    refine wc_ret ?_
    refine qs_then_ret ?_
    refine fin1 (.inr rfl) rfl rfl ?_
    exact ⟨_, rfl, by rw [decide_eq_false (p := x = y) hne], hS5.pick [2] rfl⟩
  have hfd : x.fds = y.fds := by simpa using h6
  refine wl_guard rfl rfl h6 ?_
  refine wl_fieldAddr rfl fo_38_10 rfl ?_
  refine wl_guard rfl rfl h6 ?_
  refine wl_loadA rfl ag_29 sz_29 (by first | exact hS5.blk 0 rfl | exact hS5.blk 1 rfl) (by first | decide | exact Nat.le_of_ble_eq_true rfl | (simp; done) | omega) rfl rfl ?_
  refine wl_guard rfl rfl h6 ?_
  refine wl_fieldAddr rfl fo_38_10 rfl ?_
  refine wl_guard rfl rfl h6 ?_
  refine wl_loadA rfl ag_29 sz_29 (by first | exact hS5.blk 0 rfl | exact hS5.blk 1 rfl) (by first | decide | exact Nat.le_of_ble_eq_true rfl | (simp; done) | omega) rfl rfl ?_
  refine wl_guard rfl rfl h6 ?_
  refine wl_val rfl (ev_neqAgg (eqRegs x y) (by kernel_rfl) rfl rfl) ?_
  refine wl_pickF rfl h6 rfl rfl ?_
  refine wl_move rfl rfl ?_
  refine wl_split 26 rfl (fun h7 => ?_) (fun h7 => ?_)
  · skip
    have hne : x ≠ y := by rintro rfl; first | exact absurd rfl h7 | (simp [waitB_self, regsB_self, actsB_self] at h7; done)
    refine wl_unwanted rfl rfl h7 rfl ?_
    refine wl_unwanted rfl rfl h7 rfl ?_
    refine wl_unwanted rfl rfl h7 rfl ?_
    refine wl_unwanted rfl rfl h7 rfl ?_
    refine wl_unwanted rfl rfl h7 rfl ?_
    refine wl_pickT rfl h7 rfl rfl ?_
    refine wl_move rfl rfl ?_
    refine wl_unwanted rfl rfl rfl rfl ?_
    refine wl_unwanted rfl rfl rfl rfl ?_
    refine wl_unwanted rfl rfl rfl rfl ?_
    refine wl_unwanted rfl rfl rfl rfl ?_
    refine wl_unwanted rfl rfl rfl rfl ?_
    refine wl_pickT rfl rfl rfl rfl ?_
    refine wl_nil ?_
    refine qs_seq ?_
    refine wc_sub (L' := [(39, _), (4, _), (3, _), (2, _)]) (.cons rfl (.cons rfl (.cons rfl (.cons rfl .nil)))) ?_
    refine wc_condT rfl ?_
    refine wc_seq ?_
    refine wc_region ?_
    refine wl_assign rfl rfl ?_
    refine wl_nil ?_
    refine qs_seq ?_
    refine wc_ret ?_
    refine qs_then_ret ?_
    refine fin1 (.inr rfl) rfl rfl ?_
    exact ⟨_, rfl, by rw [decide_eq_false (p := x = y) hne], hS5.pick [2] rfl⟩
  have hrg : regsB x y = true := by simpa using h7
  refine wl_guard rfl rfl h7 ?_
  refine wl_fieldAddr rfl fo_38_16 rfl ?_
  refine wl_guard rfl rfl h7 ?_
  refine wl_loadA rfl ag_34 sz_34 (by first | exact hS5.blk 0 rfl | exact hS5.blk 1 rfl) (by first | decide | exact Nat.le_of_ble_eq_true rfl | (simp; done) | omega) rfl rfl ?_
  refine wl_guard rfl rfl h7 ?_
  refine wl_fieldAddr rfl fo_38_16 rfl ?_
  refine wl_guard rfl rfl h7 ?_
  refine wl_loadA rfl ag_34 sz_34 (by first | exact hS5.blk 0 rfl | exact hS5.blk 1 rfl) (by first | decide | exact Nat.le_of_ble_eq_true rfl | (simp; done) | omega) rfl rfl ?_
  refine wl_guard rfl rfl h7 ?_
  refine wl_val rfl (ev_neqAgg (eqActs x y _ _ _ _) (by kernel_rfl) rfl rfl) ?_
  refine wl_pickF rfl h7 rfl rfl ?_
  refine wl_move rfl rfl ?_
  refine wl_split 33 rfl (fun h8 => ?_) (fun h8 => ?_)
  · skip
    have hne : x ≠ y := by rintro rfl; first | exact absurd rfl h8 | (simp [waitB_self, regsB_self, actsB_self] at h8; done)
    refine wl_unwanted rfl rfl h8 rfl ?_
    refine wl_unwanted rfl rfl h8 rfl ?_
    refine wl_unwanted rfl rfl h8 rfl ?_
    refine wl_unwanted rfl rfl h8 rfl ?_
    refine wl_unwanted rfl rfl h8 rfl ?_
    refine wl_pickT rfl h8 rfl rfl ?_
    refine wl_nil ?_
    refine qs_seq ?_
    refine wc_sub (L' := [(39, _), (4, _), (3, _), (2, _)]) (.cons rfl (.cons rfl (.cons rfl (.cons rfl .nil)))) ?_
    refine wc_condT rfl ?_
    refine wc_seq ?_
    refine wc_region ?_
    refine wl_assign rfl rfl ?_
    refine wl_nil ?_
    refine qs_seq ?_
    refine wc_ret ?_
    refine qs_then_ret ?_
    refine fin1 (.inr rfl) rfl rfl ?_
    exact ⟨_, rfl, by rw [decide_eq_false (p := x = y) hne], hS5.pick [2] rfl⟩
  have hac : actsB x y = true := by simpa using h8
  refine wl_guard rfl rfl h8 ?_
  refine wl_fieldAddr rfl fo_38_17 rfl ?_
  refine wl_guard rfl rfl h8 ?_
  refine wl_loadA rfl ag_36 sz_36 (by first | exact hS5.blk 0 rfl | exact hS5.blk 1 rfl) (by first | decide | exact Nat.le_of_ble_eq_true rfl | (simp; done) | omega) rfl rfl ?_
  refine wl_guard rfl rfl h8 ?_
  refine wl_fieldAddr rfl fo_38_17 rfl ?_
  refine wl_guard rfl rfl h8 ?_
  refine wl_loadA rfl ag_36 sz_36 (by first | exact hS5.blk 0 rfl | exact hS5.blk 1 rfl) (by first | decide | exact Nat.le_of_ble_eq_true rfl | (simp; done) | omega) rfl rfl ?_
  refine wl_guard rfl rfl h8 ?_
  refine wl_val rfl (ev_neqAgg (eqWait x y) (by kernel_rfl) rfl rfl) ?_
  refine wl_pickF rfl h8 rfl rfl ?_
  refine wl_nil ?_
  refine qs_seq ?_
  refine wc_sub (L' := [(39, _), (4, _), (3, _), (2, _)]) (.cons rfl (.cons rfl (.cons rfl (.cons rfl .nil)))) ?_
  refine wc_cond rfl (fun h9 => ?_) (fun h9 => ?_)
  · skip
    have hne : x ≠ y := by rintro rfl; first | exact absurd rfl h9 | (simp [waitB_self, regsB_self, actsB_self] at h9; done)
    refine wc_seq ?_
    refine wc_region ?_
    refine wl_assign rfl rfl ?_
    refine wl_nil ?_
    refine qs_seq ?_
    refine wc_ret ?_
    refine qs_then_ret ?_
    refine fin1 (.inr rfl) rfl rfl ?_
    exact ⟨_, rfl, by rw [decide_eq_false (p := x = y) hne], hS5.pick [2] rfl⟩
  have hwt : waitB x y = true := by simpa using h9
  refine wc_skip ?_
  refine qs_seq ?_
  refine wc_seq ?_
  refine wc_seq ?_
  refine wc_region ?_
  refine wl_fieldAddr rfl fo_38_0 rfl ?_
  refine wl_load rfl ag_3 (by first | assumption | exact hS5.cell 0 rfl rfl | exact hS5.cell 1 rfl rfl) rfl ?_
  refine wl_fieldAddr rfl fo_38_0 rfl ?_
  refine wl_load rfl ag_3 (by first | assumption | exact hS5.cell 0 rfl rfl | exact hS5.cell 1 rfl rfl) rfl ?_
  refine wl_neq rfl rfl rfl ?_
  refine wl_move rfl rfl ?_
  refine wl_splitD 45 rfl (fun h10 => ?_) (fun h10 => ?_)
  · skip
    have hne : x ≠ y := by rintro rfl; first | exact absurd rfl h10 | (simp [waitB_self, regsB_self, actsB_self] at h10; done)
    refine wl_unwanted rfl rfl (decide_eq_true h10) rfl ?_
    refine wl_unwanted rfl rfl (decide_eq_true h10) rfl ?_
    refine wl_unwanted rfl rfl (decide_eq_true h10) rfl ?_
    refine wl_unwanted rfl rfl (decide_eq_true h10) rfl ?_
    refine wl_unwanted rfl rfl (decide_eq_true h10) rfl ?_
    refine wl_pickT rfl (decide_eq_true h10) rfl rfl ?_
    refine wl_move rfl rfl ?_
    refine wl_unwanted rfl rfl rfl rfl ?_
    refine wl_unwanted rfl rfl rfl rfl ?_
    refine wl_unwanted rfl rfl rfl rfl ?_
    refine wl_unwanted rfl rfl rfl rfl ?_
    refine wl_unwanted rfl rfl rfl rfl ?_
    refine wl_pickT rfl rfl rfl rfl ?_
    refine wl_move rfl rfl ?_
    refine wl_unwanted rfl rfl rfl rfl ?_
    refine wl_unwanted rfl rfl rfl rfl ?_
    refine wl_unwanted rfl rfl rfl rfl ?_
    refine wl_unwanted rfl rfl rfl rfl ?_
    refine wl_unwanted rfl rfl rfl rfl ?_
    refine wl_pickT rfl rfl rfl rfl ?_
    refine wl_move rfl rfl ?_
    refine wl_unwanted rfl rfl rfl rfl ?_
    refine wl_unwanted rfl rfl rfl rfl ?_
    refine wl_unwanted rfl rfl rfl rfl ?_
    refine wl_unwanted rfl rfl rfl rfl ?_
    refine wl_unwanted rfl rfl rfl rfl ?_
    refine wl_pickT rfl rfl rfl rfl ?_
    refine wl_move rfl rfl ?_
    refine wl_unwanted rfl rfl rfl rfl ?_
    refine wl_unwanted rfl rfl rfl rfl ?_
    refine wl_unwanted rfl rfl rfl rfl ?_
    refine wl_unwanted rfl rfl rfl rfl ?_
    refine wl_unwanted rfl rfl rfl rfl ?_
    refine wl_pickT rfl rfl rfl rfl ?_
    refine wl_move rfl rfl ?_
    refine wl_unwanted rfl rfl rfl rfl ?_
    refine wl_unwanted rfl rfl rfl rfl ?_
    refine wl_unwanted rfl rfl rfl rfl ?_
    refine wl_unwanted rfl rfl rfl rfl ?_
    refine wl_unwanted rfl rfl rfl rfl ?_
    refine wl_pickT rfl rfl rfl rfl ?_
    refine wl_move rfl rfl ?_
    refine wl_unwanted rfl rfl rfl rfl ?_
    refine wl_unwanted rfl rfl rfl rfl ?_
    refine wl_unwanted rfl rfl rfl rfl ?_
    refine wl_unwanted rfl rfl rfl rfl ?_
    refine wl_unwanted rfl rfl rfl rfl ?_
    refine wl_pickT rfl rfl rfl rfl ?_
    refine wl_move rfl rfl ?_
    refine wl_unwanted rfl rfl rfl rfl ?_
    refine wl_unwanted rfl rfl rfl rfl ?_
    refine wl_unwanted rfl rfl rfl rfl ?_
    refine wl_unwanted rfl rfl rfl rfl ?_
    refine wl_unwanted rfl rfl rfl rfl ?_
    refine wl_pickT rfl rfl rfl rfl ?_
    refine wl_move rfl rfl ?_
    refine wl_unwanted rfl rfl rfl rfl ?_
    refine wl_unwanted rfl rfl rfl rfl ?_
    refine wl_unwanted rfl rfl rfl rfl ?_
    refine wl_unwanted rfl rfl rfl rfl ?_
    refine wl_unwanted rfl rfl rfl rfl ?_
    refine wl_pickT rfl rfl rfl rfl ?_
    refine wl_nil ?_
    refine qs_seq ?_
    refine wc_sub (L' := [(107, _), (4, _), (3, _), (2, _)]) (.cons rfl (.cons rfl (.cons rfl (.cons rfl .nil)))) ?_
    refine wc_condT rfl ?_
    refine wc_seq ?_
    refine wc_region ?_
    refine wl_assign rfl rfl ?_
    refine wl_nil ?_
    refine qs_seq ?_
    refine wc_ret ?_
    refine qs_then_ret ?_
    refine fin1 (.inr rfl) rfl rfl ?_
    exact ⟨_, rfl, by rw [decide_eq_false (p := x = y) hne], hS5.pick [2] rfl⟩
  have g0 : hq x 0 = hq y 0 := by simpa using h10
  refine wl_guard rfl rfl (decide_eq_false h10) ?_
  refine wl_fieldAddr rfl fo_38_1 rfl ?_
  refine wl_guard rfl rfl (decide_eq_false h10) ?_
  refine wl_load rfl ag_3 (by first | assumption | exact hS5.cell 0 rfl rfl | exact hS5.cell 1 rfl rfl) rfl ?_
  refine wl_guard rfl rfl (decide_eq_false h10) ?_
  refine wl_fieldAddr rfl fo_38_1 rfl ?_
  refine wl_guard rfl rfl (decide_eq_false h10) ?_
  refine wl_load rfl ag_3 (by first | assumption | exact hS5.cell 0 rfl rfl | exact hS5.cell 1 rfl rfl) rfl ?_
  refine wl_guard rfl rfl (decide_eq_false h10) ?_
  refine wl_neq rfl rfl rfl ?_
  refine wl_pickF rfl (decide_eq_false h10) rfl rfl ?_
  refine wl_move rfl rfl ?_
  refine wl_splitD 52 rfl (fun h11 => ?_) (fun h11 => ?_)
  · skip
    have hne : x ≠ y := by rintro rfl; first | exact absurd rfl h11 | (simp [waitB_self, regsB_self, actsB_self] at h11; done)
    refine wl_unwanted rfl rfl (decide_eq_true h11) rfl ?_
    refine wl_unwanted rfl rfl (decide_eq_true h11) rfl ?_
    refine wl_unwanted rfl rfl (decide_eq_true h11) rfl ?_
    refine wl_unwanted rfl rfl (decide_eq_true h11) rfl ?_
    refine wl_unwanted rfl rfl (decide_eq_true h11) rfl ?_
    refine wl_pickT rfl (decide_eq_true h11) rfl rfl ?_
    refine wl_move rfl rfl ?_
    refine wl_unwanted rfl rfl rfl rfl ?_
    refine wl_unwanted rfl rfl rfl rfl ?_
    refine wl_unwanted rfl rfl rfl rfl ?_
    refine wl_unwanted rfl rfl rfl rfl ?_
    refine wl_unwanted rfl rfl rfl rfl ?_
    refine wl_pickT rfl rfl rfl rfl ?_
    refine wl_move rfl rfl ?_
    refine wl_unwanted rfl rfl rfl rfl ?_
    refine wl_unwanted rfl rfl rfl rfl ?_
    refine wl_unwanted rfl rfl rfl rfl ?_
    refine wl_unwanted rfl rfl rfl rfl ?_
    refine wl_unwanted rfl rfl rfl rfl ?_
    refine wl_pickT rfl rfl rfl rfl ?_
    refine wl_move rfl rfl ?_
    refine wl_unwanted rfl rfl rfl rfl ?_
    refine wl_unwanted rfl rfl rfl rfl ?_
    refine wl_unwanted rfl rfl rfl rfl ?_
    refine wl_unwanted rfl rfl rfl rfl ?_
    refine wl_unwanted rfl rfl rfl rfl ?_
    refine wl_pickT rfl rfl rfl rfl ?_
    refine wl_move rfl rfl ?_
    refine wl_unwanted rfl rfl rfl rfl ?_
    refine wl_unwanted rfl rfl rfl rfl ?_
    refine wl_unwanted rfl rfl rfl rfl ?_
    refine wl_unwanted rfl rfl rfl rfl ?_
    refine wl_unwanted rfl rfl rfl rfl ?_
    refine wl_pickT rfl rfl rfl rfl ?_
    refine wl_move rfl rfl ?_
    refine wl_unwanted rfl rfl rfl rfl ?_
    refine wl_unwanted rfl rfl rfl rfl ?_
    refine wl_unwanted rfl rfl rfl rfl ?_
    refine wl_unwanted rfl rfl rfl rfl ?_
    refine wl_unwanted rfl rfl rfl rfl ?_
    refine wl_pickT rfl rfl rfl rfl ?_
    refine wl_move rfl rfl ?_
    refine wl_unwanted rfl rfl rfl rfl ?_
    refine wl_unwanted rfl rfl rfl rfl ?_
    refine wl_unwanted rfl rfl rfl rfl ?_
    refine wl_unwanted rfl rfl rfl rfl ?_
    refine wl_unwanted rfl rfl rfl rfl ?_
    refine wl_pickT rfl rfl rfl rfl ?_
    refine wl_move rfl rfl ?_
    refine wl_unwanted rfl rfl rfl rfl ?_
    refine wl_unwanted rfl rfl rfl rfl ?_
    refine wl_unwanted rfl rfl rfl rfl ?_
    refine wl_unwanted rfl rfl rfl rfl ?_
    refine wl_unwanted rfl rfl rfl rfl ?_
    refine wl_pickT rfl rfl rfl rfl ?_
    refine wl_nil ?_
    refine qs_seq ?_
    refine wc_sub (L' := [(107, _), (4, _), (3, _), (2, _)]) (.cons rfl (.cons rfl (.cons rfl (.cons rfl .nil)))) ?_
    refine wc_condT rfl ?_
    refine wc_seq ?_
    refine wc_region ?_
    refine wl_assign rfl rfl ?_
    refine wl_nil ?_
    refine qs_seq ?_
    refine wc_ret ?_
    refine qs_then_ret ?_
    refine fin1 (.inr rfl) rfl rfl ?_
    exact ⟨_, rfl, by rw [decide_eq_false (p := x = y) hne], hS5.pick [2] rfl⟩
  have g1 : hq x 1 = hq y 1 := by simpa using h11
  refine wl_guard rfl rfl (decide_eq_false h11) ?_
  refine wl_fieldAddr rfl fo_38_2 rfl ?_
  refine wl_guard rfl rfl (decide_eq_false h11) ?_
  refine wl_load rfl ag_3 (by first | assumption | exact hS5.cell 0 rfl rfl | exact hS5.cell 1 rfl rfl) rfl ?_
  refine wl_guard rfl rfl (decide_eq_false h11) ?_
  refine wl_fieldAddr rfl fo_38_2 rfl ?_
  refine wl_guard rfl rfl (decide_eq_false h11) ?_
  refine wl_load rfl ag_3 (by first | assumption | exact hS5.cell 0 rfl rfl | exact hS5.cell 1 rfl rfl) rfl ?_
  refine wl_guard rfl rfl (decide_eq_false h11) ?_
  refine wl_neq rfl rfl rfl ?_
  refine wl_pickF rfl (decide_eq_false h11) rfl rfl ?_
  refine wl_move rfl rfl ?_
  refine wl_splitD 59 rfl (fun h12 => ?_) (fun h12 => ?_)
  · skip
    have hne : x ≠ y := by rintro rfl; first | exact absurd rfl h12 | (simp [waitB_self, regsB_self, actsB_self] at h12; done)
    refine wl_unwanted rfl rfl (decide_eq_true h12) rfl ?_
    refine wl_unwanted rfl rfl (decide_eq_true h12) rfl ?_
    refine wl_unwanted rfl rfl (decide_eq_true h12) rfl ?_
    refine wl_unwanted rfl rfl (decide_eq_true h12) rfl ?_
    refine wl_unwanted rfl rfl (decide_eq_true h12) rfl ?_
    refine wl_pickT rfl (decide_eq_true h12) rfl rfl ?_
    refine wl_move rfl rfl ?_
    refine wl_unwanted rfl rfl rfl rfl ?_
    refine wl_unwanted rfl rfl rfl rfl ?_
    refine wl_unwanted rfl rfl rfl rfl ?_
    refine wl_unwanted rfl rfl rfl rfl ?_
    refine wl_unwanted rfl rfl rfl rfl ?_
    refine wl_pickT rfl rfl rfl rfl ?_
    refine wl_move rfl rfl ?_
    refine wl_unwanted rfl rfl rfl rfl ?_
    refine wl_unwanted rfl rfl rfl rfl ?_
    refine wl_unwanted rfl rfl rfl rfl ?_
    refine wl_unwanted rfl rfl rfl rfl ?_
    refine wl_unwanted rfl rfl rfl rfl ?_
    refine wl_pickT rfl rfl rfl rfl ?_
    refine wl_move rfl rfl ?_
    refine wl_unwanted rfl rfl rfl rfl ?_
    refine wl_unwanted rfl rfl rfl rfl ?_
    refine wl_unwanted rfl rfl rfl rfl ?_
    refine wl_unwanted rfl rfl rfl rfl ?_
    refine wl_unwanted rfl rfl rfl rfl ?_
    refine wl_pickT rfl rfl rfl rfl ?_
    refine wl_move rfl rfl ?_
    refine wl_unwanted rfl rfl rfl rfl ?_
    refine wl_unwanted rfl rfl rfl rfl ?_
    refine wl_unwanted rfl rfl rfl rfl ?_
    refine wl_unwanted rfl rfl rfl rfl ?_
    refine wl_unwanted rfl rfl rfl rfl ?_
    refine wl_pickT rfl rfl rfl rfl ?_
    refine wl_move rfl rfl ?_
    refine wl_unwanted rfl rfl rfl rfl ?_
    refine wl_unwanted rfl rfl rfl rfl ?_
    refine wl_unwanted rfl rfl rfl rfl ?_
    refine wl_unwanted rfl rfl rfl rfl ?_
    refine wl_unwanted rfl rfl rfl rfl ?_
    refine wl_pickT rfl rfl rfl rfl ?_
    refine wl_move rfl rfl ?_
    refine wl_unwanted rfl rfl rfl rfl ?_
    refine wl_unwanted rfl rfl rfl rfl ?_
    refine wl_unwanted rfl rfl rfl rfl ?_
    refine wl_unwanted rfl rfl rfl rfl ?_
    refine wl_unwanted rfl rfl rfl rfl ?_
    refine wl_pickT rfl rfl rfl rfl ?_
    refine wl_nil ?_
    refine qs_seq ?_
    refine wc_sub (L' := [(107, _), (4, _), (3, _), (2, _)]) (.cons rfl (.cons rfl (.cons rfl (.cons rfl .nil)))) ?_
    refine wc_condT rfl ?_
    refine wc_seq ?_
    refine wc_region ?_
    refine wl_assign rfl rfl ?_
    refine wl_nil ?_
    refine qs_seq ?_
    refine wc_ret ?_
    refine qs_then_ret ?_
    refine fin1 (.inr rfl) rfl rfl ?_
    exact ⟨_, rfl, by rw [decide_eq_false (p := x = y) hne], hS5.pick [2] rfl⟩
  have g2 : hq x 2 = hq y 2 := by simpa using h12
  refine wl_guard rfl rfl (decide_eq_false h12) ?_
  refine wl_fieldAddr rfl fo_38_3 rfl ?_
  refine wl_guard rfl rfl (decide_eq_false h12) ?_
  refine wl_load rfl ag_3 (by first | assumption | exact hS5.cell 0 rfl rfl | exact hS5.cell 1 rfl rfl) rfl ?_
  refine wl_guard rfl rfl (decide_eq_false h12) ?_
  refine wl_fieldAddr rfl fo_38_3 rfl ?_
  refine wl_guard rfl rfl (decide_eq_false h12) ?_
  refine wl_load rfl ag_3 (by first | assumption | exact hS5.cell 0 rfl rfl | exact hS5.cell 1 rfl rfl) rfl ?_
  refine wl_guard rfl rfl (decide_eq_false h12) ?_
  refine wl_neq rfl rfl rfl ?_
  refine wl_pickF rfl (decide_eq_false h12) rfl rfl ?_
  refine wl_move rfl rfl ?_
  refine wl_splitD 66 rfl (fun h13 => ?_) (fun h13 => ?_)
  · skip
    have hne : x ≠ y := by rintro rfl; first | exact absurd rfl h13 | (simp [waitB_self, regsB_self, actsB_self] at h13; done)
    refine wl_unwanted rfl rfl (decide_eq_true h13) rfl ?_
    refine wl_unwanted rfl rfl (decide_eq_true h13) rfl ?_
    refine wl_unwanted rfl rfl (decide_eq_true h13) rfl ?_
    refine wl_unwanted rfl rfl (decide_eq_true h13) rfl ?_
    refine wl_unwanted rfl rfl (decide_eq_true h13) rfl ?_
    refine wl_pickT rfl (decide_eq_true h13) rfl rfl ?_
    refine wl_move rfl rfl ?_
    refine wl_unwanted rfl rfl rfl rfl ?_
    refine wl_unwanted rfl rfl rfl rfl ?_
    refine wl_unwanted rfl rfl rfl rfl ?_
    refine wl_unwanted rfl rfl rfl rfl ?_
    refine wl_unwanted rfl rfl rfl rfl ?_
    refine wl_pickT rfl rfl rfl rfl ?_
    refine wl_move rfl rfl ?_
    refine wl_unwanted rfl rfl rfl rfl ?_
    refine wl_unwanted rfl rfl rfl rfl ?_
    refine wl_unwanted rfl rfl rfl rfl ?_
    refine wl_unwanted rfl rfl rfl rfl ?_
    refine wl_unwanted rfl rfl rfl rfl ?_
    refine wl_pickT rfl rfl rfl rfl ?_
    refine wl_move rfl rfl ?_
    refine wl_unwanted rfl rfl rfl rfl ?_
    refine wl_unwanted rfl rfl rfl rfl ?_
    refine wl_unwanted rfl rfl rfl rfl ?_
    refine wl_unwanted rfl rfl rfl rfl ?_
    refine wl_unwanted rfl rfl rfl rfl ?_
    refine wl_pickT rfl rfl rfl rfl ?_
    refine wl_move rfl rfl ?_
    refine wl_unwanted rfl rfl rfl rfl ?_
    refine wl_unwanted rfl rfl rfl rfl ?_
    refine wl_unwanted rfl rfl rfl rfl ?_
    refine wl_unwanted rfl rfl rfl rfl ?_
    refine wl_unwanted rfl rfl rfl rfl ?_
    refine wl_pickT rfl rfl rfl rfl ?_
    refine wl_move rfl rfl ?_
    refine wl_unwanted rfl rfl rfl rfl ?_
    refine wl_unwanted rfl rfl rfl rfl ?_
    refine wl_unwanted rfl rfl rfl rfl ?_
    refine wl_unwanted rfl rfl rfl rfl ?_
    refine wl_unwanted rfl rfl rfl rfl ?_
    refine wl_pickT rfl rfl rfl rfl ?_
    refine wl_nil ?_
    refine qs_seq ?_
    refine wc_sub (L' := [(107, _), (4, _), (3, _), (2, _)]) (.cons rfl (.cons rfl (.cons rfl (.cons rfl .nil)))) ?_
    refine wc_condT rfl ?_
    refine wc_seq ?_
    refine wc_region ?_
    refine wl_assign rfl rfl ?_
    refine wl_nil ?_
    refine qs_seq ?_
    refine wc_ret ?_
    refine qs_then_ret ?_
    refine fin1 (.inr rfl) rfl rfl ?_
    exact ⟨_, rfl, by rw [decide_eq_false (p := x = y) hne], hS5.pick [2] rfl⟩
  have g3 : hq x 3 = hq y 3 := by simpa using h13
  refine wl_guard rfl rfl (decide_eq_false h13) ?_
  refine wl_fieldAddr rfl fo_38_4 rfl ?_
  refine wl_guard rfl rfl (decide_eq_false h13) ?_
  refine wl_load rfl ag_3 (by first | assumption | exact hS5.cell 0 rfl rfl | exact hS5.cell 1 rfl rfl) rfl ?_
  refine wl_guard rfl rfl (decide_eq_false h13) ?_
  refine wl_fieldAddr rfl fo_38_4 rfl ?_
  refine wl_guard rfl rfl (decide_eq_false h13) ?_
  refine wl_load rfl ag_3 (by first | assumption | exact hS5.cell 0 rfl rfl | exact hS5.cell 1 rfl rfl) rfl ?_
  refine wl_guard rfl rfl (decide_eq_false h13) ?_
  refine wl_neq rfl rfl rfl ?_
  refine wl_pickF rfl (decide_eq_false h13) rfl rfl ?_
  refine wl_move rfl rfl ?_
  refine wl_splitD 73 rfl (fun h14 => ?_) (fun h14 => ?_)
  · skip
    have hne : x ≠ y := by rintro rfl; first | exact absurd rfl h14 | (simp [waitB_self, regsB_self, actsB_self] at h14; done)
    refine wl_unwanted rfl rfl (decide_eq_true h14) rfl ?_
    refine wl_unwanted rfl rfl (decide_eq_true h14) rfl ?_
    refine wl_unwanted rfl rfl (decide_eq_true h14) rfl ?_
    refine wl_unwanted rfl rfl (decide_eq_true h14) rfl ?_
    refine wl_unwanted rfl rfl (decide_eq_true h14) rfl ?_
    refine wl_pickT rfl (decide_eq_true h14) rfl rfl ?_
    refine wl_move rfl rfl ?_
    refine wl_unwanted rfl rfl rfl rfl ?_
    refine wl_unwanted rfl rfl rfl rfl ?_
    refine wl_unwanted rfl rfl rfl rfl ?_
    refine wl_unwanted rfl rfl rfl rfl ?_
    refine wl_unwanted rfl rfl rfl rfl ?_
    refine wl_pickT rfl rfl rfl rfl ?_
    refine wl_move rfl rfl ?_
    refine wl_unwanted rfl rfl rfl rfl ?_
    refine wl_unwanted rfl rfl rfl rfl ?_
    refine wl_unwanted rfl rfl rfl rfl ?_
    refine wl_unwanted rfl rfl rfl rfl ?_
    refine wl_unwanted rfl rfl rfl rfl ?_
    refine wl_pickT rfl rfl rfl rfl ?_
    refine wl_move rfl rfl ?_
    refine wl_unwanted rfl rfl rfl rfl ?_
    refine wl_unwanted rfl rfl rfl rfl ?_
    refine wl_unwanted rfl rfl rfl rfl ?_
    refine wl_unwanted rfl rfl rfl rfl ?_
    refine wl_unwanted rfl rfl rfl rfl ?_
    refine wl_pickT rfl rfl rfl rfl ?_
    refine wl_move rfl rfl ?_
    refine wl_unwanted rfl rfl rfl rfl ?_
    refine wl_unwanted rfl rfl rfl rfl ?_
    refine wl_unwanted rfl rfl rfl rfl ?_
    refine wl_unwanted rfl rfl rfl rfl ?_
    refine wl_unwanted rfl rfl rfl rfl ?_
    refine wl_pickT rfl rfl rfl rfl ?_
    refine wl_nil ?_
    refine qs_seq ?_
    refine wc_sub (L' := [(107, _), (4, _), (3, _), (2, _)]) (.cons rfl (.cons rfl (.cons rfl (.cons rfl .nil)))) ?_
    refine wc_condT rfl ?_
    refine wc_seq ?_
    refine wc_region ?_
    refine wl_assign rfl rfl ?_
    refine wl_nil ?_
    refine qs_seq ?_
    refine wc_ret ?_
    refine qs_then_ret ?_
    refine fin1 (.inr rfl) rfl rfl ?_
    exact ⟨_, rfl, by rw [decide_eq_false (p := x = y) hne], hS5.pick [2] rfl⟩
  have g4 : hq x 4 = hq y 4 := by simpa using h14
  refine wl_guard rfl rfl (decide_eq_false h14) ?_
  refine wl_fieldAddr rfl fo_38_5 rfl ?_
  refine wl_guard rfl rfl (decide_eq_false h14) ?_
  refine wl_load rfl ag_3 (by first | assumption | exact hS5.cell 0 rfl rfl | exact hS5.cell 1 rfl rfl) rfl ?_
  refine wl_guard rfl rfl (decide_eq_false h14) ?_
  refine wl_fieldAddr rfl fo_38_5 rfl ?_
  refine wl_guard rfl rfl (decide_eq_false h14) ?_
  refine wl_load rfl ag_3 (by first | assumption | exact hS5.cell 0 rfl rfl | exact hS5.cell 1 rfl rfl) rfl ?_
  refine wl_guard rfl rfl (decide_eq_false h14) ?_
  refine wl_neq rfl rfl rfl ?_
  refine wl_pickF rfl (decide_eq_false h14) rfl rfl ?_
  refine wl_move rfl rfl ?_
  refine wl_splitD 80 rfl (fun h15 => ?_) (fun h15 => ?_)
  · skip
    have hne : x ≠ y := by rintro rfl; first | exact absurd rfl h15 | (simp [waitB_self, regsB_self, actsB_self] at h15; done)
    refine wl_unwanted rfl rfl (decide_eq_true h15) rfl ?_
    refine wl_unwanted rfl rfl (decide_eq_true h15) rfl ?_
    refine wl_unwanted rfl rfl (decide_eq_true h15) rfl ?_
    refine wl_unwanted rfl rfl (decide_eq_true h15) rfl ?_
    refine wl_unwanted rfl rfl (decide_eq_true h15) rfl ?_
    refine wl_pickT rfl (decide_eq_true h15) rfl rfl ?_
    refine wl_move rfl rfl ?_
    refine wl_unwanted rfl rfl rfl rfl ?_
    refine wl_unwanted rfl rfl rfl rfl ?_
    refine wl_unwanted rfl rfl rfl rfl ?_
    refine wl_unwanted rfl rfl rfl rfl ?_
    refine wl_unwanted rfl rfl rfl rfl ?_
    refine wl_pickT rfl rfl rfl rfl ?_
    refine wl_move rfl rfl ?_
    refine wl_unwanted rfl rfl rfl rfl ?_
    refine wl_unwanted rfl rfl rfl rfl ?_
    refine wl_unwanted rfl rfl rfl rfl ?_
    refine wl_unwanted rfl rfl rfl rfl ?_
    refine wl_unwanted rfl rfl rfl rfl ?_
    refine wl_pickT rfl rfl rfl rfl ?_
    refine wl_move rfl rfl ?_
    refine wl_unwanted rfl rfl rfl rfl ?_
    refine wl_unwanted rfl rfl rfl rfl ?_
    refine wl_unwanted rfl rfl rfl rfl ?_
    refine wl_unwanted rfl rfl rfl rfl ?_
    refine wl_unwanted rfl rfl rfl rfl ?_
    refine wl_pickT rfl rfl rfl rfl ?_
    refine wl_nil ?_
    refine qs_seq ?_
    refine wc_sub (L' := [(107, _), (4, _), (3, _), (2, _)]) (.cons rfl (.cons rfl (.cons rfl (.cons rfl .nil)))) ?_
    refine wc_condT rfl ?_
    refine wc_seq ?_
    refine wc_region ?_
    refine wl_assign rfl rfl ?_
    refine wl_nil ?_
    refine qs_seq ?_
    refine wc_ret ?_
    refine qs_then_ret ?_
    refine fin1 (.inr rfl) rfl rfl ?_
    exact ⟨_, rfl, by rw [decide_eq_false (p := x = y) hne], hS5.pick [2] rfl⟩
  have g5 : hq x 5 = hq y 5 := by simpa using h15
  refine wl_guard rfl rfl (decide_eq_false h15) ?_
  refine wl_fieldAddr rfl fo_38_6 rfl ?_
  refine wl_guard rfl rfl (decide_eq_false h15) ?_
  refine wl_load rfl ag_3 (by first | assumption | exact hS5.cell 0 rfl rfl | exact hS5.cell 1 rfl rfl) rfl ?_
  refine wl_guard rfl rfl (decide_eq_false h15) ?_
  refine wl_fieldAddr rfl fo_38_6 rfl ?_
  refine wl_guard rfl rfl (decide_eq_false h15) ?_
  refine wl_load rfl ag_3 (by first | assumption | exact hS5.cell 0 rfl rfl | exact hS5.cell 1 rfl rfl) rfl ?_
  refine wl_guard rfl rfl (decide_eq_false h15) ?_
  refine wl_neq rfl rfl rfl ?_
  refine wl_pickF rfl (decide_eq_false h15) rfl rfl ?_
  refine wl_move rfl rfl ?_
  refine wl_splitD 87 rfl (fun h16 => ?_) (fun h16 => ?_)
  · skip
    have hne : x ≠ y := by rintro rfl; first | exact absurd rfl h16 | (simp [waitB_self, regsB_self, actsB_self] at h16; done)
    refine wl_unwanted rfl rfl (decide_eq_true h16) rfl ?_
    refine wl_unwanted rfl rfl (decide_eq_true h16) rfl ?_
    refine wl_unwanted rfl rfl (decide_eq_true h16) rfl ?_
    refine wl_unwanted rfl rfl (decide_eq_true h16) rfl ?_
    refine wl_unwanted rfl rfl (decide_eq_true h16) rfl ?_
    refine wl_pickT rfl (decide_eq_true h16) rfl rfl ?_
    refine wl_move rfl rfl ?_
    refine wl_unwanted rfl rfl rfl rfl ?_
    refine wl_unwanted rfl rfl rfl rfl ?_
    refine wl_unwanted rfl rfl rfl rfl ?_
    refine wl_unwanted rfl rfl rfl rfl ?_
    refine wl_unwanted rfl rfl rfl rfl ?_
    refine wl_pickT rfl rfl rfl rfl ?_
    refine wl_move rfl rfl ?_
    refine wl_unwanted rfl rfl rfl rfl ?_
    refine wl_unwanted rfl rfl rfl rfl ?_
    refine wl_unwanted rfl rfl rfl rfl ?_
    refine wl_unwanted rfl rfl rfl rfl ?_
    refine wl_unwanted rfl rfl rfl rfl ?_
    refine wl_pickT rfl rfl rfl rfl ?_
    refine wl_nil ?_
    refine qs_seq ?_
    refine wc_sub (L' := [(107, _), (4, _), (3, _), (2, _)]) (.cons rfl (.cons rfl (.cons rfl (.cons rfl .nil)))) ?_
    refine wc_condT rfl ?_
    refine wc_seq ?_
    refine wc_region ?_
    refine wl_assign rfl rfl ?_
    refine wl_nil ?_
    refine qs_seq ?_
    refine wc_ret ?_
    refine qs_then_ret ?_
    refine fin1 (.inr rfl) rfl rfl ?_
    exact ⟨_, rfl, by rw [decide_eq_false (p := x = y) hne], hS5.pick [2] rfl⟩
  have g6 : hq x 6 = hq y 6 := by simpa using h16
  refine wl_guard rfl rfl (decide_eq_false h16) ?_
  refine wl_fieldAddr rfl fo_38_7 rfl ?_
  refine wl_guard rfl rfl (decide_eq_false h16) ?_
  refine wl_load rfl ag_3 (by first | assumption | exact hS5.cell 0 rfl rfl | exact hS5.cell 1 rfl rfl) rfl ?_
  refine wl_guard rfl rfl (decide_eq_false h16) ?_
  refine wl_fieldAddr rfl fo_38_7 rfl ?_
  refine wl_guard rfl rfl (decide_eq_false h16) ?_
  refine wl_load rfl ag_3 (by first | assumption | exact hS5.cell 0 rfl rfl | exact hS5.cell 1 rfl rfl) rfl ?_
  refine wl_guard rfl rfl (decide_eq_false h16) ?_
  refine wl_neq rfl rfl rfl ?_
  refine wl_pickF rfl (decide_eq_false h16) rfl rfl ?_
  refine wl_move rfl rfl ?_
  refine wl_splitD 94 rfl (fun h17 => ?_) (fun h17 => ?_)
  · skip
    have hne : x ≠ y := by rintro rfl; first | exact absurd rfl h17 | (simp [waitB_self, regsB_self, actsB_self] at h17; done)
    refine wl_unwanted rfl rfl (decide_eq_true h17) rfl ?_
    refine wl_unwanted rfl rfl (decide_eq_true h17) rfl ?_
    refine wl_unwanted rfl rfl (decide_eq_true h17) rfl ?_
    refine wl_unwanted rfl rfl (decide_eq_true h17) rfl ?_
    refine wl_unwanted rfl rfl (decide_eq_true h17) rfl ?_
    refine wl_pickT rfl (decide_eq_true h17) rfl rfl ?_
    refine wl_move rfl rfl ?_
    refine wl_unwanted rfl rfl rfl rfl ?_
    refine wl_unwanted rfl rfl rfl rfl ?_
    refine wl_unwanted rfl rfl rfl rfl ?_
    refine wl_unwanted rfl rfl rfl rfl ?_
    refine wl_unwanted rfl rfl rfl rfl ?_
    refine wl_pickT rfl rfl rfl rfl ?_
    refine wl_nil ?_
    refine qs_seq ?_
    refine wc_sub (L' := [(107, _), (4, _), (3, _), (2, _)]) (.cons rfl (.cons rfl (.cons rfl (.cons rfl .nil)))) ?_
    refine wc_condT rfl ?_
    refine wc_seq ?_
    refine wc_region ?_
    refine wl_assign rfl rfl ?_
    refine wl_nil ?_
    refine qs_seq ?_
    refine wc_ret ?_
    refine qs_then_ret ?_
    refine fin1 (.inr rfl) rfl rfl ?_
    exact ⟨_, rfl, by rw [decide_eq_false (p := x = y) hne], hS5.pick [2] rfl⟩
  have g7 : hq x 7 = hq y 7 := by simpa using h17
  refine wl_guard rfl rfl (decide_eq_false h17) ?_
  refine wl_fieldAddr rfl fo_38_8 rfl ?_
  refine wl_guard rfl rfl (decide_eq_false h17) ?_
  refine wl_load rfl ag_3 (by first | assumption | exact hS5.cell 0 rfl rfl | exact hS5.cell 1 rfl rfl) rfl ?_
  refine wl_guard rfl rfl (decide_eq_false h17) ?_
  refine wl_fieldAddr rfl fo_38_8 rfl ?_
  refine wl_guard rfl rfl (decide_eq_false h17) ?_
  refine wl_load rfl ag_3 (by first | assumption | exact hS5.cell 0 rfl rfl | exact hS5.cell 1 rfl rfl) rfl ?_
  refine wl_guard rfl rfl (decide_eq_false h17) ?_
  refine wl_neq rfl rfl rfl ?_
  refine wl_pickF rfl (decide_eq_false h17) rfl rfl ?_
  refine wl_move rfl rfl ?_
  refine wl_splitD 101 rfl (fun h18 => ?_) (fun h18 => ?_)
  · skip
    have hne : x ≠ y := by rintro rfl; first | exact absurd rfl h18 | (simp [waitB_self, regsB_self, actsB_self] at h18; done)
    refine wl_unwanted rfl rfl (decide_eq_true h18) rfl ?_
    refine wl_unwanted rfl rfl (decide_eq_true h18) rfl ?_
    refine wl_unwanted rfl rfl (decide_eq_true h18) rfl ?_
    refine wl_unwanted rfl rfl (decide_eq_true h18) rfl ?_
    refine wl_unwanted rfl rfl (decide_eq_true h18) rfl ?_
    refine wl_pickT rfl (decide_eq_true h18) rfl rfl ?_
    refine wl_nil ?_
    refine qs_seq ?_
    refine wc_sub (L' := [(107, _), (4, _), (3, _), (2, _)]) (.cons rfl (.cons rfl (.cons rfl (.cons rfl .nil)))) ?_
    refine wc_condT rfl ?_
    refine wc_seq ?_
    refine wc_region ?_
    refine wl_assign rfl rfl ?_
    refine wl_nil ?_
    refine qs_seq ?_
    refine wc_ret ?_
    refine qs_then_ret ?_
    refine fin1 (.inr rfl) rfl rfl ?_
    exact ⟨_, rfl, by rw [decide_eq_false (p := x = y) hne], hS5.pick [2] rfl⟩
  have g8 : hq x 8 = hq y 8 := by simpa using h18
  refine wl_guard rfl rfl (decide_eq_false h18) ?_
  refine wl_fieldAddr rfl fo_38_9 rfl ?_
  refine wl_guard rfl rfl (decide_eq_false h18) ?_
  refine wl_load rfl ag_3 (by first | assumption | exact hS5.cell 0 rfl rfl | exact hS5.cell 1 rfl rfl) rfl ?_
  refine wl_guard rfl rfl (decide_eq_false h18) ?_
  refine wl_fieldAddr rfl fo_38_9 rfl ?_
  refine wl_guard rfl rfl (decide_eq_false h18) ?_
  refine wl_load rfl ag_3 (by first | assumption | exact hS5.cell 0 rfl rfl | exact hS5.cell 1 rfl rfl) rfl ?_
  refine wl_guard rfl rfl (decide_eq_false h18) ?_
  refine wl_neq rfl rfl rfl ?_
  refine wl_pickF rfl (decide_eq_false h18) rfl rfl ?_
  refine wl_nil ?_
  refine qs_seq ?_
  refine wc_sub (L' := [(107, _), (4, _), (3, _), (2, _)]) (.cons rfl (.cons rfl (.cons rfl (.cons rfl .nil)))) ?_
  refine wc_condD rfl (fun h19 => ?_) (fun h19 => ?_)
  · skip
    have hne : x ≠ y := by rintro rfl; first | exact absurd rfl h19 | (simp [waitB_self, regsB_self, actsB_self] at h19; done)
    refine wc_seq ?_
    refine wc_region ?_
    refine wl_assign rfl rfl ?_
    refine wl_nil ?_
    refine qs_seq ?_
    refine wc_ret ?_
    refine qs_then_ret ?_
    refine fin1 (.inr rfl) rfl rfl ?_
    exact ⟨_, rfl, by rw [decide_eq_false (p := x = y) hne], hS5.pick [2] rfl⟩
  have g9 : hq x 9 = hq y 9 := by simpa using h19
  refine wc_skip ?_
  refine qs_seq ?_
  refine wc_seq ?_
  refine wc_region ?_
  refine wl_fieldAddr rfl fo_38_13 rfl ?_
  refine wl_load rfl ag_9 (by first | assumption | exact hS5.cell 0 rfl rfl | exact hS5.cell 1 rfl rfl) rfl ?_
  refine wl_fieldAddr rfl fo_38_13 rfl ?_
  refine wl_load rfl ag_9 (by first | assumption | exact hS5.cell 0 rfl rfl | exact hS5.cell 1 rfl rfl) rfl ?_
  refine wl_eqlS rfl rfl rfl ?_
  refine wl_move rfl rfl ?_
  refine wl_splitD 113 rfl (fun h20 => ?_) (fun h20 => ?_)
  · skip
    have hcw : x.cwd = y.cwd := by simpa using h20
    refine wl_guard rfl rfl (decide_eq_true h20) ?_
    refine wl_fieldAddr rfl fo_38_14 rfl ?_
    refine wl_guard rfl rfl (decide_eq_true h20) ?_
    refine wl_load rfl ag_3 (by first | assumption | exact hS5.cell 0 rfl rfl | exact hS5.cell 1 rfl rfl) rfl ?_
    refine wl_guard rfl rfl (decide_eq_true h20) ?_
    refine wl_fieldAddr rfl fo_38_14 rfl ?_
    refine wl_guard rfl rfl (decide_eq_true h20) ?_
    refine wl_load rfl ag_3 (by first | assumption | exact hS5.cell 0 rfl rfl | exact hS5.cell 1 rfl rfl) rfl ?_
    refine wl_guard rfl rfl (decide_eq_true h20) ?_
    refine wl_eql rfl rfl rfl ?_
    refine wl_pickT rfl (decide_eq_true h20) rfl rfl ?_
    refine wl_move rfl rfl ?_
    refine wl_splitD 120 rfl (fun h21 => ?_) (fun h21 => ?_)
    · skip
      have t0 : tq x 0 = tq y 0 := by simpa using h21
      refine wl_guard rfl rfl (decide_eq_true h21) ?_
      refine wl_fieldAddr rfl fo_38_15 rfl ?_
      refine wl_guard rfl rfl (decide_eq_true h21) ?_
      refine wl_load rfl ag_3 (by first | assumption | exact hS5.cell 0 rfl rfl | exact hS5.cell 1 rfl rfl) rfl ?_
      refine wl_guard rfl rfl (decide_eq_true h21) ?_
      refine wl_fieldAddr rfl fo_38_15 rfl ?_
      refine wl_guard rfl rfl (decide_eq_true h21) ?_
      refine wl_load rfl ag_3 (by first | assumption | exact hS5.cell 0 rfl rfl | exact hS5.cell 1 rfl rfl) rfl ?_
      refine wl_guard rfl rfl (decide_eq_true h21) ?_
      refine wl_eql rfl rfl rfl ?_
      refine wl_pickT rfl (decide_eq_true h21) rfl rfl ?_
      refine wl_move rfl rfl ?_
      refine wl_splitD 127 rfl (fun h22 => ?_) (fun h22 => ?_)
      · skip
        have t1 : tq x 1 = tq y 1 := by simpa using h22
        refine wl_guard rfl rfl (decide_eq_true h22) ?_
        refine wl_fieldAddr rfl fo_38_18 rfl ?_
        refine wl_guard rfl rfl (decide_eq_true h22) ?_
        refine wl_load rfl ag_3 (by first | assumption | exact hS5.cell 0 rfl rfl | exact hS5.cell 1 rfl rfl) rfl ?_
        refine wl_guard rfl rfl (decide_eq_true h22) ?_
        refine wl_fieldAddr rfl fo_38_18 rfl ?_
        refine wl_guard rfl rfl (decide_eq_true h22) ?_
        refine wl_load rfl ag_3 (by first | assumption | exact hS5.cell 0 rfl rfl | exact hS5.cell 1 rfl rfl) rfl ?_
        refine wl_guard rfl rfl (decide_eq_true h22) ?_
        refine wl_eql rfl rfl rfl ?_
        refine wl_pickT rfl (decide_eq_true h22) rfl rfl ?_
        refine wl_move rfl rfl ?_
        refine wl_splitD 134 rfl (fun h23 => ?_) (fun h23 => ?_)
        · skip
          have t37 : tq x 37 = tq y 37 := by simpa using h23
          refine wl_guard rfl rfl (decide_eq_true h23) ?_
          refine wl_fieldAddr rfl fo_38_19 rfl ?_
          refine wl_guard rfl rfl (decide_eq_true h23) ?_
          refine wl_load rfl ag_9 (by first | assumption | exact hS5.cell 0 rfl rfl | exact hS5.cell 1 rfl rfl) rfl ?_
          refine wl_guard rfl rfl (decide_eq_true h23) ?_
          refine wl_fieldAddr rfl fo_38_19 rfl ?_
          refine wl_guard rfl rfl (decide_eq_true h23) ?_
          refine wl_load rfl ag_9 (by first | assumption | exact hS5.cell 0 rfl rfl | exact hS5.cell 1 rfl rfl) rfl ?_
          refine wl_guard rfl rfl (decide_eq_true h23) ?_
          refine wl_eqlS rfl rfl rfl ?_
          refine wl_pickT rfl (decide_eq_true h23) rfl rfl ?_
          refine wl_assign rfl rfl ?_
          refine wl_nil ?_
          refine qs_seq ?_
          refine wc_sub (L' := [(4, _)]) (.cons rfl .nil) ?_
          refine wc_ret ?_
          refine fin1 (.inr rfl) rfl rfl ?_
          exact ⟨_, rfl, congrArg Value.bool (decide_eq_decide.2 ⟨fun e => procD_ext hx hy har hfd hrg hac hwt (fun j hj => by rcases (by omega : j = 0 ∨ j = 1 ∨ j = 2 ∨ j = 3 ∨ j = 4 ∨ j = 5 ∨ j = 6 ∨ j = 7 ∨ j = 8 ∨ j = 9) with rfl | rfl | rfl | rfl | rfl | rfl | rfl | rfl | rfl | rfl <;> assumption) hcw t0 t1 t37 e, fun e => by rw [e]⟩), hS5.pick [2] rfl⟩
        have hne : x ≠ y := by rintro rfl; first | exact absurd rfl h23 | (simp at h23; done)
        refine wl_unwanted rfl rfl (decide_eq_false h23) rfl ?_
        refine wl_unwanted rfl rfl (decide_eq_false h23) rfl ?_
        refine wl_unwanted rfl rfl (decide_eq_false h23) rfl ?_
        refine wl_unwanted rfl rfl (decide_eq_false h23) rfl ?_
        refine wl_unwanted rfl rfl (decide_eq_false h23) rfl ?_
        refine wl_pickF rfl (decide_eq_false h23) rfl rfl ?_
        refine wl_assign rfl rfl ?_
        refine wl_nil ?_
        refine qs_seq ?_
        refine wc_sub (L' := [(4, _)]) (.cons rfl .nil) ?_
        refine wc_ret ?_
        refine fin1 (.inr rfl) rfl rfl ?_
        exact ⟨_, rfl, by rw [decide_eq_false (p := x = y) hne], hS5.pick [2] rfl⟩
      have hne : x ≠ y := by rintro rfl; first | exact absurd rfl h22 | (simp at h22; done)
      refine wl_unwanted rfl rfl (decide_eq_false h22) rfl ?_
      refine wl_unwanted rfl rfl (decide_eq_false h22) rfl ?_
      refine wl_unwanted rfl rfl (decide_eq_false h22) rfl ?_
      refine wl_unwanted rfl rfl (decide_eq_false h22) rfl ?_
      refine wl_unwanted rfl rfl (decide_eq_false h22) rfl ?_
      refine wl_pickF rfl (decide_eq_false h22) rfl rfl ?_
      refine wl_move rfl rfl ?_
      refine wl_unwanted rfl rfl rfl rfl ?_
      refine wl_unwanted rfl rfl rfl rfl ?_
      refine wl_unwanted rfl rfl rfl rfl ?_
      refine wl_unwanted rfl rfl rfl rfl ?_
      refine wl_unwanted rfl rfl rfl rfl ?_
      refine wl_pickF rfl rfl rfl rfl ?_
      refine wl_assign rfl rfl ?_
      refine wl_nil ?_
      refine qs_seq ?_
      refine wc_sub (L' := [(4, _)]) (.cons rfl .nil) ?_
      refine wc_ret ?_
      refine fin1 (.inr rfl) rfl rfl ?_
      exact ⟨_, rfl, by rw [decide_eq_false (p := x = y) hne], hS5.pick [2] rfl⟩
    have hne : x ≠ y := by rintro rfl; first | exact absurd rfl h21 | (simp at h21; done)
    refine wl_unwanted rfl rfl (decide_eq_false h21) rfl ?_
    refine wl_unwanted rfl rfl (decide_eq_false h21) rfl ?_
    refine wl_unwanted rfl rfl (decide_eq_false h21) rfl ?_
    refine wl_unwanted rfl rfl (decide_eq_false h21) rfl ?_
    refine wl_unwanted rfl rfl (decide_eq_false h21) rfl ?_
    refine wl_pickF rfl (decide_eq_false h21) rfl rfl ?_
    refine wl_move rfl rfl ?_
    refine wl_unwanted rfl rfl rfl rfl ?_
    refine wl_unwanted rfl rfl rfl rfl ?_
    refine wl_unwanted rfl rfl rfl rfl ?_
    refine wl_unwanted rfl rfl rfl rfl ?_
    refine wl_unwanted rfl rfl rfl rfl ?_
    refine wl_pickF rfl rfl rfl rfl ?_
    refine wl_move rfl rfl ?_
    refine wl_unwanted rfl rfl rfl rfl ?_
    refine wl_unwanted rfl rfl rfl rfl ?_
    refine wl_unwanted rfl rfl rfl rfl ?_
    refine wl_unwanted rfl rfl rfl rfl ?_
    refine wl_unwanted rfl rfl rfl rfl ?_
    refine wl_pickF rfl rfl rfl rfl ?_
    refine wl_assign rfl rfl ?_
    refine wl_nil ?_
    refine qs_seq ?_
    refine wc_sub (L' := [(4, _)]) (.cons rfl .nil) ?_
    refine wc_ret ?_
    refine fin1 (.inr rfl) rfl rfl ?_
    exact ⟨_, rfl, by rw [decide_eq_false (p := x = y) hne], hS5.pick [2] rfl⟩
  have hne : x ≠ y := by rintro rfl; first | exact absurd rfl h20 | (simp at h20; done)
  refine wl_unwanted rfl rfl (decide_eq_false h20) rfl ?_
  refine wl_unwanted rfl rfl (decide_eq_false h20) rfl ?_
  refine wl_unwanted rfl rfl (decide_eq_false h20) rfl ?_
  refine wl_unwanted rfl rfl (decide_eq_false h20) rfl ?_
  refine wl_unwanted rfl rfl (decide_eq_false h20) rfl ?_
  refine wl_pickF rfl (decide_eq_false h20) rfl rfl ?_
  refine wl_move rfl rfl ?_
  refine wl_unwanted rfl rfl rfl rfl ?_
  refine wl_unwanted rfl rfl rfl rfl ?_
  refine wl_unwanted rfl rfl rfl rfl ?_
  refine wl_unwanted rfl rfl rfl rfl ?_
  refine wl_unwanted rfl rfl rfl rfl ?_
  refine wl_pickF rfl rfl rfl rfl ?_
  refine wl_move rfl rfl ?_
  refine wl_unwanted rfl rfl rfl rfl ?_
  refine wl_unwanted rfl rfl rfl rfl ?_
  refine wl_unwanted rfl rfl rfl rfl ?_
  refine wl_unwanted rfl rfl rfl rfl ?_
  refine wl_unwanted rfl rfl rfl rfl ?_
  refine wl_pickF rfl rfl rfl rfl ?_
  refine wl_move rfl rfl ?_
  refine wl_unwanted rfl rfl rfl rfl ?_
  refine wl_unwanted rfl rfl rfl rfl ?_
  refine wl_unwanted rfl rfl rfl rfl ?_
  refine wl_unwanted rfl rfl rfl rfl ?_
  refine wl_unwanted rfl rfl rfl rfl ?_
  refine wl_pickF rfl rfl rfl rfl ?_
  refine wl_assign rfl rfl ?_
  refine wl_nil ?_
  refine qs_seq ?_
  refine wc_sub (L' := [(4, _)]) (.cons rfl .nil) ?_
  refine wc_ret ?_
  refine fin1 (.inr rfl) rfl rfl ?_
  exact ⟨_, rfl, by rw [decide_eq_false (p := x = y) hne], hS5.pick [2] rfl⟩
theorem x0_inj {x y : ProcD} (hx : WFR x) (hy : WFR y) (har : x.ar = y.ar) (hfd : x.fds = y.fds) (h : encR (x0 x) = encR (x0 y)) : x = y := by
  have e := enc_inj_p (x0_wf hx) (x0_wf hy) h
  obtain ⟨a, b, c, d, e1, f⟩ := x
  obtain ⟨a', b', c', d', e', f'⟩ := y
  simp only [x0, ProcD.mk.injEq] at e har hfd ⊢
  obtain ⟨e1, _, _, e4, e5, e6⟩ := e
  exact ⟨e1, har, hfd, e4, e5, e6⟩
set_option maxRecDepth 100000 in
set_option maxHeartbeats 2000000 in
theorem sameG28_sp {w : World} {F : Th} (hS : Sat w [F]) {x y : ProcD} (hx : WFR x) (hy : WFR y) {a1 f1 a2 f2 : Value} (hA1 : Ent F (RdL arC a1 x.ar)) (hF1 : Ent F (RdL stC f1 x.fds)) (hA2 : Ent F (RdL arC a2 y.ar)) (hF2 : Ent F (RdL stC f2 y.fds)) (hG : Ent F WireG) (hz : (encR x).length ≤ 1000000) (hz2 : (encR y).length ≤ 1000000) :
    Calls Tryz.prog 23 #[.agg (procV x a1 f1).toArray, .agg (procV y a2 f2).toArray] w (Ret fun v w' => v = .bool (decide (x = y)) ∧ Sat w' [F]) := by
  refine calls_enter Tryz.func23 rfl Tryz.ntmps23 rfl ?_
  refine wc_seq ?_
  refine wc_region ?_
  refine wl_box hS rfl rfl rfl ?_
  intro b1 w1 hS1a
  have hS1 : Sat w1 [blkT b1 (procV x a1 f1), F] := hS1a
  refine wl_box hS1 rfl rfl rfl ?_
  intro b2 w2 hS2a
  have hS2 : Sat w2 [blkT b2 (procV y a2 f2), blkT b1 (procV x a1 f1), F] := hS2a
  clear hS1
  refine wl_assign rfl rfl ?_
  refine wl_nil ?_
  refine qs_seq ?_
  refine wc_seq ?_
  refine wc_seq ?_
  refine wc_region ?_
  refine wl_fieldAddr rfl fo_38_11 rfl ?_
  refine wl_load rfl ag_30 (by first | assumption | exact hS2.cell 0 rfl rfl | exact hS2.cell 1 rfl rfl) rfl ?_
  refine wl_fieldAddr rfl fo_38_11 rfl ?_
  refine wl_load rfl ag_30 (by first | assumption | exact hS2.cell 0 rfl rfl | exact hS2.cell 1 rfl rfl) rfl ?_
  have hC3 := hS2.split [] [false, false, false] rfl; dsimp only [selF, pickA, nthA, List.cons_append, List.nil_append] at hC3
  refine wl_call cal_69 rfl (gqA_sp hC3 (hA1.starL 2 rfl) (hA2.starL 2 rfl)) rfl ?_
  rintro e w3 ⟨_, rfl, rfl, hS3⟩; refine ⟨_, rfl, ?_⟩
  replace hS3 := hS3.join rfl; dsimp only [List.dropLast, List.cons_append, List.nil_append] at hS3; clear hC3
  clear hS2
  refine wl_not rfl rfl ?_
  refine wl_move rfl rfl ?_
  refine wl_split 11 rfl (fun h4 => ?_) (fun h4 => ?_)
  · skip
    have hne : x ≠ y := by rintro rfl; first | exact absurd rfl h4 | (simp [waitB_self, regsB_self, actsB_self] at h4; done)
    refine wl_unwanted rfl rfl h4 rfl ?_
    refine wl_unwanted rfl rfl h4 rfl ?_
    refine wl_unwanted rfl rfl h4 rfl ?_
    refine wl_unwanted rfl rfl h4 rfl ?_
    refine wl_unwanted rfl rfl h4 rfl ?_
    refine wl_unwanted rfl rfl h4 rfl ?_
    refine wl_pickT rfl h4 rfl rfl ?_
    refine wl_nil ?_
    refine qs_seq ?_
    refine wc_sub (L' := [(18, _), (4, _), (3, _), (2, _)]) (.cons rfl (.cons rfl (.cons rfl (.cons rfl .nil)))) ?_
    refine wc_condT rfl ?_
    refine wc_seq ?_
    refine wc_region ?_
    refine wl_assign rfl rfl ?_
    refine wl_nil ?_
    refine qs_seq ?_
    refine wc_ret ?_
    refine qs_then_ret ?_
    refine fin1 (.inr rfl) rfl rfl ?_
    exact ⟨_, rfl, by rw [decide_eq_false (p := x = y) hne], hS3.pick [2] rfl⟩
  have har : x.ar = y.ar := by simpa using h4
  refine wl_guard rfl rfl h4 ?_
  refine wl_fieldAddr rfl fo_38_12 rfl ?_
  refine wl_guard rfl rfl h4 ?_
  refine wl_load rfl ag_31 (by first | assumption | exact hS3.cell 0 rfl rfl | exact hS3.cell 1 rfl rfl) rfl ?_
  refine wl_guard rfl rfl h4 ?_
  refine wl_fieldAddr rfl fo_38_12 rfl ?_
  refine wl_guard rfl rfl h4 ?_
  refine wl_load rfl ag_31 (by first | assumption | exact hS3.cell 0 rfl rfl | exact hS3.cell 1 rfl rfl) rfl ?_
  refine wl_guard rfl rfl h4 ?_
  have hC5 := hS3.split [] [false, false, false] rfl; dsimp only [selF, pickA, nthA, List.cons_append, List.nil_append] at hC5
  refine wl_call cal_70 rfl (gqS_sp hC5 (hF1.starL 2 rfl) (hF2.starL 2 rfl)) rfl ?_
  rintro e w5 ⟨_, rfl, rfl, hS5⟩; refine ⟨_, rfl, ?_⟩
  replace hS5 := hS5.join rfl; dsimp only [List.dropLast, List.cons_append, List.nil_append] at hS5; clear hC5
  clear hS3
  refine wl_guard rfl rfl h4 ?_
  refine wl_not rfl rfl ?_
  refine wl_pickF rfl h4 rfl rfl ?_
  refine wl_nil ?_
  refine qs_seq ?_
  refine wc_sub (L' := [(18, _), (4, _), (3, _), (2, _)]) (.cons rfl (.cons rfl (.cons rfl (.cons rfl .nil)))) ?_
  refine wc_cond rfl (fun h6 => ?_) (fun h6 => ?_)
  · skip
    have hne : x ≠ y := by rintro rfl; first | exact absurd rfl h6 | (simp [waitB_self, regsB_self, actsB_self] at h6; done)
    refine wc_seq ?_
    refine wc_region ?_
    refine wl_assign rfl rfl ?_
    refine wl_nil ?_
    refine qs_seq ?_
    refine wc_ret ?_
    refine qs_then_ret ?_
    refine fin1 (.inr rfl) rfl rfl ?_
    exact ⟨_, rfl, by rw [decide_eq_false (p := x = y) hne], hS5.pick [2] rfl⟩
  have hfd : x.fds = y.fds := by simpa using h6
  refine wc_skip ?_
  refine qs_seq ?_
  refine wc_seq ?_
  simp only [procV_eq] at hS5
  refine wc_region ?_
  refine wl_fieldAddr rfl fo_38_11 rfl ?_
  refine wl_store hS5 rfl rfl sz_30 (by first | rfl | assumption) (i := 1) rfl (by rw [pF_len]; omega) ?_
  intro w7 hS7; dsimp only [List.set] at hS7
  clear hS5
  rw [pF_av] at hS7
  refine wl_fieldAddr rfl fo_38_11 rfl ?_
  refine wl_store hS7 rfl rfl sz_30 (by first | rfl | assumption) (i := 0) rfl (by rw [pF_len]; omega) ?_
  intro w8 hS8; dsimp only [List.set] at hS8
  clear hS7
  rw [pF_av] at hS8
  refine wl_fieldAddr rfl fo_38_12 rfl ?_
  refine wl_store hS8 rfl rfl sz_31 (by first | rfl | assumption) (i := 1) rfl (by rw [pF_len]; omega) ?_
  intro w9 hS9; dsimp only [List.set] at hS9
  clear hS8
  rw [pF_fv] at hS9
  refine wl_fieldAddr rfl fo_38_12 rfl ?_
  refine wl_store hS9 rfl rfl sz_31 (by first | rfl | assumption) (i := 0) rfl (by rw [pF_len]; omega) ?_
  intro w10 hS10; dsimp only [List.set] at hS10
  clear hS9
  rw [pF_fv] at hS10
  refine wl_nil ?_
  refine qs_seq ?_
  refine wc_seq ?_
  rw [show pF x.hs x.ts (.slice none 0 0) (.slice none 0 0) x.cwd x.shl = procV (x0 x) (.slice none 0 0) (.slice none 0 0) from (procV_eq (x0 x) _ _).symm, show pF y.hs y.ts (.slice none 0 0) (.slice none 0 0) y.cwd y.shl = procV (x0 y) (.slice none 0 0) (.slice none 0 0) from (procV_eq (x0 y) _ _).symm] at hS10
  have hS11 := hS10.drew
  refine wc_draw [0, 2, 1, 3, 4, 5] [1, 3] mix (by kernel_rfl) ?_
  refine vc_q rfl rfl rfl (ev_loadA rfl ag_38 sz_38 (by first | exact hS11.blk 0 rfl | exact hS11.blk 1 rfl) (by first | decide | exact Nat.le_of_ble_eq_true rfl | (simp; done) | omega) rfl) ?_
  refine vc_q rfl rfl rfl (ev_loadA rfl ag_38 sz_38 (by first | exact hS11.blk 0 rfl | exact hS11.blk 1 rfl) (by first | decide | exact Nat.le_of_ble_eq_true rfl | (simp; done) | omega) rfl) ?_
  refine vc_s rfl rfl rfl rfl rfl rfl ?_
  have hC12 := hS11.split [] [false, false, false] rfl; dsimp only [selF, pickA, nthA, List.cons_append, List.nil_append] at hC12
  refine wl_call cal_22 rfl (bytesP_sp hC12 (hG.starL 2 rfl) (x0_wf hx) (fun _ => RdL.nil _ _) (fun _ => RdL.nil _ _) (by have := x0_len (x := x); omega)) rfl ?_
  rintro e w12 ⟨_, rfl, rfl, hS12⟩; refine ⟨_, rfl, ?_⟩
  replace hS12 := hS12.join rfl; dsimp only [List.dropLast, List.cons_append, List.nil_append] at hS12; clear hC12
  clear hS11
  refine vc_e (.cons (.inl ⟨rfl, (ev_loadA rfl ag_38 sz_38 (by first | exact hS12.blk 0 rfl | exact hS12.blk 1 rfl) (by first | decide | exact Nat.le_of_ble_eq_true rfl | (simp; done) | omega) rfl)⟩) (.skip (by kernel_rfl) .nil)) ?_
  refine vc_s rfl rfl rfl rfl rfl rfl ?_
  have hC13 := hS12.split [] [false, false, false] rfl; dsimp only [selF, pickA, nthA, List.cons_append, List.nil_append] at hC13
  refine wl_call cal_22 rfl (bytesP_sp hC13 (hG.starL 2 rfl) (x0_wf hy) (fun _ => RdL.nil _ _) (fun _ => RdL.nil _ _) (by have := x0_len (x := y); omega)) rfl ?_
  rintro e w13 ⟨_, rfl, rfl, hS13⟩; refine ⟨_, rfl, ?_⟩
  replace hS13 := hS13.join rfl; dsimp only [List.dropLast, List.cons_append, List.nil_append] at hS13; clear hC13
  clear hS12
  refine vc_e (.skip (by kernel_rfl) (.skip (by kernel_rfl) .nil)) ?_
  refine vc_p rfl rfl rfl (fun _ => (ev_eqlS rfl rfl)) ?_
  refine vc_p rfl rfl rfl (fun _ => (ev_assign rfl)) ?_
  refine VC.nil ?_
  refine qs_seq ?_
  refine wc_sub (L' := [(4, _)]) (.cons rfl .nil) ?_
  refine wc_ret ?_
  refine fin1 (.inr rfl) rfl rfl ?_
  exact ⟨_, rfl, congrArg Value.bool (decide_eq_decide.2 ⟨fun e => x0_inj hx hy har hfd e, fun e => by rw [e]⟩), hS13.pick [2] rfl⟩
end Go.Proofs.YtcbdclhoekokpaaGreatDoor
