/- Rules for operations on memory, and for calls. Conditions: each rule's own hypotheses. -/
import Derived.Test.YtfmkodmmbgibgaaGreatDoorWk
namespace Go.Proofs.YtfmkodmmbgibgaaGreatDoor.M
open Go.RowKit
def allOne (l : List Value) : Bool := l.all (·.oneCell')
theorem allOne_spec {l : List Value} (h : allOne l = true) : ∀ v ∈ l, v.oneCell' = true := List.all_eq_true.1 h
theorem allOne_mk {l : List Value} (h : ∀ v ∈ l, v.oneCell' = true) : allOne l = true := List.all_eq_true.2 h
section
variable {P : Program} {n : Nat} {ops : Array Oper} {Q : Exit → Act → World → Prop} {rest : List Oper} {L : Env} {w : World} {d : Nat} {ty : TypeId} {pos : String} {aft : Array Edge}
theorem ev_nilCheck {x : Operand} {q : Addr} (hx : look L x = some (.pointer (some q))) : Ev P L w ⟨some d, .nilCheck x, ty, pos, aft, none⟩ (.pointer (some q)) := fun ρ hρ => by simp [execOp, hρ _ _ hx]
theorem wl_nilCheck {x : Operand} {q : Addr} (hx : look L x = some (.pointer (some q))) (hd : Nat.blt d n = true) (hk : wl P n ops Q rest ((d, .pointer (some q)) :: L) w) : wl P n ops Q (⟨some d, .nilCheck x, ty, pos, aft, none⟩ :: rest) L w :=
  wl_val hd (ev_nilCheck hx) hk
theorem fldOff_spec {s j off : Nat} (h : fldOff P s j = some off) : ∃ fs f i, P.underlying s = some (.struct fs) ∧ fs[j]? = some f ∧ P.info? f.type = some i ∧ i.size ≠ 0 ∧ f.offset = off := by
  unfold fldOff at h
  split at h
  · rename_i fs hu
    split at h
    · rename_i f hf
      split at h
      · rename_i i hi
        cases hz : Nat.beq i.size 0 with
        | true => rw [hz] at h; simp at h
        | false => rw [hz] at h; simp at h; exact ⟨fs, f, i, hu, hf, hi, (by intro e; rw [e] at hz; cases hz), h⟩
      · cases h
    · cases h
  · cases h
theorem ev_fieldAddr {x : Operand} {s j off b o : Nat} (hx : look L x = some (ptrV b o)) (hf : fldOff P s j = some off) : Ev P L w ⟨some d, .fieldAddr s x j, ty, pos, aft, none⟩ (ptrV b (o + off)) := fun ρ hρ => by
    obtain ⟨fs, f, i, h1, h2, h3, h4, h5⟩ := fldOff_spec hf
    simp [execOp, hρ _ _ hx, Instr.fieldAt, run_underlying h1, h2, Instr.sureAddr, fieldPlace, sizeOf, typeInfo, h3, h4, h5, addr_add]
theorem wl_fieldAddr {x : Operand} {s j off b o : Nat} (hx : look L x = some (ptrV b o)) (hf : fldOff P s j = some off) (hd : Nat.blt d n = true) (hk : wl P n ops Q rest ((d, ptrV b (o + off)) :: L) w) : wl P n ops Q (⟨some d, .fieldAddr s x j, ty, pos, aft, none⟩ :: rest) L w :=
  wl_val hd (ev_fieldAddr hx hf) hk
theorem elemSz_spec {t sz : Nat} (h : elemSz P t = some sz) : ∃ e i, P.underlying t = some (.slice e) ∧ P.info? e = some i ∧ i.size = sz := by
  unfold elemSz at h
  split at h
  · rename_i e hu
    unfold szOf at h
    cases hi : P.info? e with
    | none => simp [hi] at h
    | some i => simp [hi] at h; exact ⟨e, i, hu, hi, h⟩
  · cases h
theorem ev_indexAddr {x y : Operand} {t sz b o m c : Nat} {k : IntKind} {i : Int} (j : Nat) (hx : look L x = some (.slice (some ⟨b, o, none⟩) m c)) (hy : look L y = some (.int k i)) (hi : i = (j : Int)) (hj : j < m) (hs : elemSz P t = some sz) : Ev P L w ⟨some d, .indexAddr t x y, ty, pos, aft, none⟩ (ptrV b (o + j * sz)) := fun ρ hρ => by
    obtain ⟨e, ii, h1, h2, h3⟩ := elemSz_spec hs
    subst hi
    have : (j : Int) < (m : Int) := by omega
    simp [execOp, hρ _ _ hx, hρ _ _ hy, Instr.indexAt, asIntOf, run_underlying h1, this, hj, sizeOf, typeInfo, h2, h3, addr_add]
theorem wl_indexAddr {x y : Operand} {t sz b o m c : Nat} {k : IntKind} {i : Int} (j : Nat) (hx : look L x = some (.slice (some ⟨b, o, none⟩) m c)) (hy : look L y = some (.int k i)) (hi : i = (j : Int)) (hj : j < m) (hs : elemSz P t = some sz) (hd : Nat.blt d n = true) (hk : wl P n ops Q rest ((d, ptrV b (o + j * sz)) :: L) w) : wl P n ops Q (⟨some d, .indexAddr t x y, ty, pos, aft, none⟩ :: rest) L w :=
  wl_val hd (ev_indexAddr j hx hy hi hj hs) hk
/-- &arr[i], arr an array in memory -/
theorem ev_indexAddrA {x y : Operand} {t e sz b o N : Nat} {k : IntKind} {i : Int} (j : Nat) (hu : P.underlying t = some (.array N e)) (hx : look L x = some (ptrV b o)) (hy : look L y = some (.int k i)) (hi : i = (j : Int)) (hj : j < N) (hs : szOf P e = some sz) : Ev P L w ⟨some d, .indexAddr t x y, ty, pos, aft, none⟩ (ptrV b (o + j * sz)) := fun ρ hρ => by
    subst hi
    have h3 : ∀ w, (sizeOf e).run P w = .ok sz w := fun w => run_sizeOf hs w
    have : (j : Int) < (N : Int) := by omega
    simp [execOp, hρ _ _ hx, hρ _ _ hy, Instr.indexAt, asIntOf, run_underlying hu, Instr.sureAddr, this, hj, h3, addr_add]
theorem wl_indexAddrA {x y : Operand} {t e sz b o N : Nat} {k : IntKind} {i : Int} (j : Nat) (hu : P.underlying t = some (.array N e)) (hx : look L x = some (ptrV b o)) (hy : look L y = some (.int k i)) (hi : i = (j : Int)) (hj : j < N) (hs : szOf P e = some sz) (hd : Nat.blt d n = true) (hk : wl P n ops Q rest ((d, ptrV b (o + j * sz)) :: L) w) : wl P n ops Q (⟨some d, .indexAddr t x y, ty, pos, aft, none⟩ :: rest) L w :=
  wl_val hd (ev_indexAddrA j hu hx hy hi hj hs) hk
theorem aggB_false {t : Nat} (h : aggB P t = some false) (w : World) : (isAgg t).run P w = .ok false w := by
  unfold aggB at h
  obtain ⟨d, hd, ha⟩ := Option.map_eq_some_iff.1 h
  cases d <;> simp [isAgg, run_underlying hd] <;> simp [aggDesc] at ha
theorem aggB_true {t : Nat} (h : aggB P t = some true) (w : World) : (isAgg t).run P w = .ok true w := by
  unfold aggB at h
  obtain ⟨d, hd, ha⟩ := Option.map_eq_some_iff.1 h
  exact run_isAgg hd ha w
theorem ev_load {x : Operand} {t b o : Nat} {v : Value} (hx : look L x = some (ptrV b o)) (ha : aggB P t = some false) (hc : w.cell? ⟨b, o, none⟩ = some v) : Ev P L w ⟨some d, .load t x, ty, pos, aft, none⟩ (v) := fun ρ hρ => by simp [execOp, hρ _ _ hx, Instr.loadAt, Instr.sureAddr, loadVar, aggB_false ha, load, Sem.run, hc]
theorem wl_load {x : Operand} {t b o : Nat} {v : Value} (hx : look L x = some (ptrV b o)) (ha : aggB P t = some false) (hc : w.cell? ⟨b, o, none⟩ = some v) (hd : Nat.blt d n = true) (hk : wl P n ops Q rest ((d, v) :: L) w) : wl P n ops Q (⟨some d, .load t x, ty, pos, aft, none⟩ :: rest) L w :=
  wl_val hd (ev_load hx ha hc) hk
/-- a struct or an array is read out of a row -/
theorem wl_loadA {x : Operand} {t b o m : Nat} {cs : List Value} (hx : look L x = some (ptrV b o)) (ha : aggB P t = some true) (hs : szOf P t = some m) (hb : Blk w b cs) (hm : o + m ≤ cs.length) {vs : List Value} (hvs : (cs.drop o).take m = vs) (hd : Nat.blt d n = true) (hk : wl P n ops Q rest ((d, .agg vs.toArray) :: L) w) : wl P n ops Q (⟨some d, .load t x, ty, pos, aft, none⟩ :: rest) L w := by
  subst hvs
  exact wl_val hd (fun ρ hρ => by simp [execOp, hρ _ _ hx, Instr.loadAt, Instr.sureAddr, loadVar, aggB_true ha, run_sizeOf hs, run_loadCells_blk hb o m hm]) hk
theorem ev_loadAt {x : Operand} {t b o : Nat} {vs : List Value} (hx : look L x = some (ptrV b o)) (ha : aggB P t = some true) (hs : szOf P t = some vs.length) (hat : ∀ j v, vs[j]? = some v → w.cell? ⟨b, o + j, none⟩ = some v) : Ev P L w ⟨some d, .load t x, ty, pos, aft, none⟩ (.agg vs.toArray) := fun ρ hρ => by
    have hr := run_loadCells_list (P := P) w ⟨b, o, none⟩ vs (fun j v hv => by rw [addr_add]; exact hat j v hv)
    simp [execOp, hρ _ _ hx, Instr.loadAt, Instr.sureAddr, loadVar, aggB_true ha, run_sizeOf hs, hr]
theorem wl_loadAt {x : Operand} {t b o : Nat} {vs : List Value} (hx : look L x = some (ptrV b o)) (ha : aggB P t = some true) (hs : szOf P t = some vs.length) (hat : ∀ j v, vs[j]? = some v → w.cell? ⟨b, o + j, none⟩ = some v) (hd : Nat.blt d n = true) (hk : wl P n ops Q rest ((d, .agg vs.toArray) :: L) w) : wl P n ops Q (⟨some d, .load t x, ty, pos, aft, none⟩ :: rest) L w :=
  wl_val hd (ev_loadAt hx ha hs hat) hk
/-- one cell is stored into -/
theorem wl_store {x y : Operand} {t b o i : Nat} {v : Value} {cs : List Value} {As : List Th} (hS : Sat w As) (hx : look L x = some (ptrV b o)) (hy : look L y = some v) (hs : szOf P t = some 1) (h1 : v.oneCell' = true) (hi : As[i]? = some (blkT b cs)) (ho : o < cs.length)
    (hk : ∀ w', Sat w' (As.set i (blkT b (cs.set o v))) → wl P n ops Q rest L w') : wl P n ops Q (⟨none, .store t x y, ty, pos, aft, none⟩ :: rest) L w := by
  have hb := hS.blk i hi
  have hc := hb.cell (List.getElem?_eq_getElem ho)
  have hf := hb.free o ho
  have hcs : v.cells = #[v] := by cases v <;> first | rfl | cases h1
  refine wl_does rfl rfl (R := fun _ w' => w' = w.setCell ⟨b, o, none⟩ v) (fun a ha => ⟨undef, _, .inr ⟨?_, rfl⟩, rfl⟩) (fun _ w' e => ?_)
  · have hst : (store ⟨b, o, none⟩ v).run P w = .ok () (w.setCell ⟨b, o, none⟩ v) := by
      rw [run_store P w _ v _ h1, hc]; simp [hf]
    have e0 : (⟨b, o, none⟩ : Addr).add 0 = ⟨b, o, none⟩ := by simp [Addr.add]
    simp [execOp, ha.eval hx, ha.eval hy, Instr.storeAt, Instr.sureAddr, storeVar, hcs, run_sizeOf hs, storeCells, e0, hst]
  · subst e
    exact hk _ (hS.blk_set i hi (hb.set o v) ((Only.refl _ _).setCell (.inl (by simp)) v))
/-- a struct or an array is stored into a row -/
theorem wl_storeA {x y : Operand} {t b o i m : Nat} {vs : Array Value} {cs : List Value} {As : List Th} (hS : Sat w As) (hx : look L x = some (ptrV b o)) (hy : look L y = some (.agg vs)) (hs : szOf P t = some m) (hm : vs.size = m) (h1 : allOne vs.toList = true) (hi : As[i]? = some (blkT b cs)) (ho : o + m ≤ cs.length)
    (hk : ∀ w', Sat w' (As.set i (blkT b (splice cs o vs.toList))) → wl P n ops Q rest L w') : wl P n ops Q (⟨none, .store t x y, ty, pos, aft, none⟩ :: rest) L w :=
  wl_does rfl rfl (fun a ha => does_store t x y rfl (ha.eval hx) (ha.eval hy) (hS.blk i hi) hs hm ho (allOne_spec h1)) (fun _ w' ⟨_, h2, h3, _⟩ => hk w' (hS.blk_set i hi h2 h3))
theorem run_zeroOf {t : Nat} {z : Value} (h : zeroOf P t = some (some z)) (w : World) : (zeroValue t).run P w = .ok z w := by
  cases hq : P.info? t with
  | none => simp [zeroOf, hq] at h
  | some i => have : i.zero = some z := by simpa [zeroOf, hq] using h
              simp [zeroValue, typeInfo, hq, this]
/-- a new variable -/
theorem wl_alloc {t : Nat} {z : Value} {As : List Th} (hS : Sat w As) (hz : zeroOf P t = some (some z)) {cs : List Value} (hcs : z.cells.toList = cs) (hd : Nat.blt d n = true) (hk : ∀ b w', Sat w' (blkT b cs :: As) → wl P n ops Q rest ((d, ptrV b 0) :: L) w') : wl P n ops Q (⟨some d, .alloc t, ty, pos, aft, none⟩ :: rest) L w := by
  subst hcs
  refine wl_does rfl hd (R := fun v w' => v = ptrV w.heap.size 0 ∧ w' = w.alloc (.cells z.cells t)) (fun a ha => ⟨_, _, .inl ?_, rfl, rfl⟩) (fun v w' ⟨e1, e2⟩ => ?_)
  · simp [execOp, Instr.alloc, run_zeroOf hz, newVar, newRow]
  · subst e1 e2
    exact hk _ _ (hS.blk_new (Blk.new' w _ t) ((Only.refl _ _).alloc _) (Nat.le_refl _))
theorem wl_box {t : Nat} {x : Operand} {v : Value} {As : List Th} (hS : Sat w As) (hx : look L x = some v) {cs : List Value} (hcs : v.cells.toList = cs) (hd : Nat.blt d n = true) (hk : ∀ b w', Sat w' (blkT b cs :: As) → wl P n ops Q rest ((d, ptrV b 0) :: L) w') : wl P n ops Q (⟨some d, .box t x, ty, pos, aft, none⟩ :: rest) L w := by
  subst hcs
  refine wl_does rfl hd (R := fun u w' => u = ptrV w.heap.size 0 ∧ w' = w.alloc (.cells v.cells t)) (fun a ha => ⟨_, _, .inl ?_, rfl, rfl⟩) (fun u w' ⟨e1, e2⟩ => ?_)
  · simp [execOp, ha.eval hx, Instr.box, newVar, newRow]
  · subst e1 e2
    exact hk _ _ (hS.blk_new (Blk.new' w _ t) ((Only.refl _ _).alloc _) (Nat.le_refl _))
/-- a field of a struct's value -/
theorem ev_field {x : Operand} {s j off : Nat} {cs : List Value} {v : Value} (hf : fldVal P s j = some (off, none)) (hx : look L x = some (.agg cs.toArray)) (hv : cs[off]? = some v) : Ev P L w ⟨some d, .field s x j, ty, pos, aft, none⟩ (v) := fun ρ hρ => by
    unfold fldVal at hf
    split at hf
    · rename_i fs hu
      split at hf
      · rename_i f hfj
        split at hf
        · rename_i dd i hd' hi
          have hagg : aggDesc dd = false := by cases hq : aggDesc dd <;> simp [hq] at hf; rfl
          have hoff : f.offset = off := by simp [hagg] at hf; exact hf
          have hg : aggB P f.type = some false := by simp [aggB, hd', hagg]
          simp [execOp, hρ _ _ hx, Instr.field, run_underlying hu, hfj, asAgg, part, aggB_false hg, hoff, hv]
        · cases hf
      · cases hf
    · cases hf
theorem wl_field {x : Operand} {s j off : Nat} {cs : List Value} {v : Value} (hf : fldVal P s j = some (off, none)) (hx : look L x = some (.agg cs.toArray)) (hv : cs[off]? = some v) (hd : Nat.blt d n = true) (hk : wl P n ops Q rest ((d, v) :: L) w) : wl P n ops Q (⟨some d, .field s x j, ty, pos, aft, none⟩ :: rest) L w :=
  wl_val hd (ev_field hf hx hv) hk
theorem ev_extract {x : Operand} {j : Nat} {vs : List Value} {v : Value} (hx : look L x = some (.tuple vs.toArray)) (hv : vs[j]? = some v) : Ev P L w ⟨some d, .extract x j, ty, pos, aft, none⟩ (v) := fun ρ hρ => by simp [execOp, hρ _ _ hx, Instr.extract, hv]
theorem wl_extract {x : Operand} {j : Nat} {vs : List Value} {v : Value} (hx : look L x = some (.tuple vs.toArray)) (hv : vs[j]? = some v) (hd : Nat.blt d n = true) (hk : wl P n ops Q rest ((d, v) :: L) w) : wl P n ops Q (⟨some d, .extract x j, ty, pos, aft, none⟩ :: rest) L w :=
  wl_val hd (ev_extract hx hv) hk
theorem callB_run {f : Nat} (h : callB P f = true) (args : Array Value) (w : World) : (callFunc f args).run P w = .ok (.enter f args) w := by
  unfold callB at h
  split at h
  · rename_i fn hf
    simp only [Bool.and_eq_true, Bool.not_eq_true'] at h
    obtain ⟨h1, h2⟩ := h
    have h1' : fn.name ≠ "runtime.NumGoroutine" := by simpa using h1
    simp [callFunc, program, Sem.run, hf, h1', Option.isSome_iff_ne_none.1 h2]
  · cases h
/-- a call of a function by its name -/
theorem wl_call {dst : Option Nat} {f : Nat} {args : List Operand} {vs : List Value} {ts : Array TypeId} {R : Ending → World → Prop} (hf : callB P f = true) (ha : looks L args = some vs) (hc : Calls P f vs.toArray w R) (hd : (match dst with | some d => Nat.blt d n | none => true) = true)
    (hk : ∀ e w', R e w' → ∃ v, e = .returned v ∧ wl P n ops Q rest (pd dst v L) w') : wl P n ops Q (⟨dst, .call ⟨.value (.func f), args.toArray, ts⟩, ty, pos, aft, none⟩ :: rest) L w := by
  unfold wl
  intro a hfr
  refine wpList_plain rfl fun K hK => ?_
  unfold Oper.wp
  have he := hfr.evals ha
  have hr : (execOp a.eval ⟨dst, .call ⟨.value (.func f), args.toArray, ts⟩, ty, pos, aft, none⟩).run P w = .ok (.enter f vs.toArray) w := by
    simp only [execOp, resolve, Act.eval, Deferred.ofValue, invoke]
    simp [he, callB_run hf]
  rw [hr]
  refine Calls.mono hc fun e w' hR => ?_
  obtain ⟨v, rfl, h⟩ := hk e w' hR
  unfold wl at h
  exact hK _ _ (h _ (hfr.put dst v hd))
/-- a call of a function value -/
theorem wl_callV {dst : Option Nat} {x : Operand} {f : Nat} {cap : List Value} {args : List Operand} {vs : List Value} {ts : Array TypeId} {R : Ending → World → Prop} (hx : look L x = some (.func (.func f) #[] cap.toArray)) (hf : callB P f = true) (ha : looks L args = some vs) (hc : Calls P f (vs ++ cap).toArray w R) (hd : (match dst with | some d => Nat.blt d n | none => true) = true)
    (hk : ∀ e w', R e w' → ∃ v, e = .returned v ∧ wl P n ops Q rest (pd dst v L) w') : wl P n ops Q (⟨dst, .call ⟨.value x, args.toArray, ts⟩, ty, pos, aft, none⟩ :: rest) L w := by
  unfold wl
  intro a hfr
  refine wpList_plain rfl fun K hK => ?_
  unfold Oper.wp
  have he := hfr.evals ha
  have hr : (execOp a.eval ⟨dst, .call ⟨.value x, args.toArray, ts⟩, ty, pos, aft, none⟩).run P w = .ok (.enter f (vs ++ cap).toArray) w := by
    simp only [execOp, resolve, hfr.eval hx, Deferred.ofValue, invoke]
    simp [he, callB_run hf]
  rw [hr]
  refine Calls.mono hc fun e w' hR => ?_
  obtain ⟨v, rfl, h⟩ := hk e w' hR
  unfold wl at h
  exact hK _ _ (h _ (hfr.put dst v hd))
end
end Go.Proofs.YtfmkodmmbgibgaaGreatDoor.M
