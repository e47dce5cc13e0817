/- More rules: maps with string keys, delete, len of a map, nil maps, array values, interface calls; things that lie below a block. Conditions: each rule's own hypotheses. -/
import Derived.Test.YtcbdclhoekokpaaGreatDoorRow
namespace Go.Proofs.YtcbdclhoekokpaaGreatDoor.M
open Go.RowKit

def strK (s : List UInt8) : Value := strV s
theorem strV_inj {s t : List UInt8} (h : strV s = strV t) : s = t := by
  simp only [strV, Value.string.injEq, ByteArray.mk.injEq] at h
  simpa using h
theorem keyOk_str {P : Program} {kt : TypeId} (hu : P.underlying kt = some .string) : KeyOk P kt strK where
  inj := fun a b h => strV_inj h
  bits := fun a => MapKept.sameBits_self (d := .string) (by simp [MapKept.IsKey, strK, strV]) _
  check := fun e a w => MapKept.run_checkKey hu (by simp [MapKept.IsKey, strK, strV]) e 9999
  find := fun a l w h => by
    rcases MapKept.findNow_spec (d := .string) (k := strK a) (by simp [MapKept.IsKey, strK, strV]) l 0 (fun x hx => by obtain ⟨b, hb⟩ := h x hx; rw [hb]; simp [MapKept.IsKey, strK, strV]) with ⟨h1, h2⟩ | ⟨j, e, h1, h2, h3⟩
    · exact .inr ⟨h2, MapKept.run_findKey hu h1⟩
    · refine .inl ⟨j, e, h2, h3, ?_⟩
      rw [Nat.zero_add] at h1
      exact MapKept.run_findKey hu h1

/-- how many keys a map has -/
def Card {κ : Type} (f : κ → Option Value) (n : Nat) : Prop := ∃ ks : List κ, ks.Nodup ∧ ks.length = n ∧ ∀ k, f k ≠ none ↔ k ∈ ks
theorem Card.zero {κ : Type} {f : κ → Option Value} {n : Nat} (h : Card f n) : n = 0 ↔ ∀ k, f k = none := by
  obtain ⟨ks, _, h2, h3⟩ := h
  constructor
  · intro h0 k
    have : ks = [] := List.eq_nil_of_length_eq_zero (by omega)
    subst this
    by_cases hq : f k = none
    · exact hq
    · exact absurd ((h3 k).1 hq) (by simp)
  · intro h
    cases ks with
    | nil => simpa using h2.symm
    | cons k ks => exact absurd (h k) ((h3 k).2 (by simp))
theorem Card.same {κ : Type} {f g : κ → Option Value} {n m : Nat} (h : Card f n) (h' : Card g m) (e : ∀ k, f k = none ↔ g k = none) : n = m := by
  obtain ⟨ks, h1, h2, h3⟩ := h
  obtain ⟨js, g1, g2, g3⟩ := h'
  have s1 : ∀ x ∈ ks, x ∈ js := fun x hx => (g3 x).1 fun q => ((h3 x).2 hx) ((e x).2 q)
  have s2 : ∀ x ∈ js, x ∈ ks := fun x hx => (h3 x).1 fun q => ((g3 x).2 hx) ((e x).1 q)
  have l1 := List.Nodup.length_le_of_subset h1 s1
  have l2 := List.Nodup.length_le_of_subset g1 s2
  omega
theorem MapAt.card {κ : Type} {kv : κ → Value} {w : World} {b : Nat} {es : Array MapEntry} {clock : Nat} {f : κ → Option Value} (h : MapAt kv w b es clock) (hinj : ∀ a b, kv a = kv b → a = b) (hr : Reads kv es f) : Card f es.size := by
  have hk : ∀ (l : List MapEntry), (∀ x ∈ l, ∃ a, x.key = kv a) → ∃ ks : List κ, l.map (·.key) = ks.map kv := by
    intro l
    induction l with
    | nil => intro _; exact ⟨[], rfl⟩
    | cons x l ih =>
      intro hl
      obtain ⟨a, ha⟩ := hl x (by simp)
      obtain ⟨ks, hks⟩ := ih fun y hy => hl y (by simp [hy])
      exact ⟨a :: ks, by simp [ha, hks]⟩
  obtain ⟨ks, hks⟩ := hk es.toList h.keys
  refine ⟨ks, ?_, ?_, fun k => ?_⟩
  · have hp : (es.toList.map (·.key)).Nodup := h.stamped.2.2
    rw [hks, List.Nodup, List.pairwise_map] at hp
    exact hp.imp fun hne e => hne (by rw [e])
  · have := congrArg List.length hks
    simpa using this.symm
  · constructor
    · intro hne
      cases hq : f k with
      | none => exact absurd hq hne
      | some v =>
        obtain ⟨e, he, hke, _⟩ := (hr k v).1 hq
        have : kv k ∈ ks.map kv := by rw [← hks, ← hke]; exact List.mem_map.2 ⟨e, he, rfl⟩
        obtain ⟨j, hj, hjk⟩ := List.mem_map.1 this
        rw [← hinj _ _ hjk]; exact hj
    · intro hm
      have : kv k ∈ es.toList.map (·.key) := by rw [hks]; exact List.mem_map.2 ⟨k, hm, rfl⟩
      obtain ⟨e, he, hke⟩ := List.mem_map.1 this
      rw [(hr k e.val).2 ⟨e, he, hke, rfl⟩]; simp

section
variable {κ : Type} {kv : κ → Value}
variable {P : Program} {n : Nat} {ops : Array Oper} {Q : Exit → Act → World → Prop} {rest : List Oper} {L : Env} {w : World} {d : Nat} {ty : TypeId} {pos : String} {aft : Array Edge} {As : List Th}

/-- delete(m, k) -/
theorem wl_delete {mt t2 kt et : TypeId} {x y : Operand} {b : Nat} {f : κ → Option Value} {k : κ} (i : Nat) (hS : Sat w As) (K : KeyOk P kt kv) (hm : P.underlying mt = some (.map kt et)) (hi : As[i]? = some (mapT kv b f)) (hx : look L x = some (.map (some b))) (hy : look L y = some (kv k)) {dst : Option Nat} (hd : dOk n dst = true)
    (hk : ∀ w', Sat w' (As.set i (mapT kv b (upd f k none))) → wl P n ops Q rest (pd dst (.tuple #[]) L) w') : wl P n ops Q (⟨dst, .call ⟨.builtin .delete, #[x, y], #[mt, t2]⟩, ty, pos, aft, none⟩ :: rest) L w := by
  obtain ⟨es, c, h1, h2⟩ := hS.map i hi
  refine wl_does rfl (by cases dst <;> exact hd) (fun a ha => does_delete mt t2 x y rfl K hm h1 (ha.eval hx) (ha.eval hy)) ?_
  rintro _ w' ⟨rfl, es', hes, h3, h4, _⟩
  refine hk w' (hS.map_set i hi h3 ?_ h4)
  intro j u
  by_cases hj : j = k
  · subst hj
    rw [upd_self]
    constructor
    · intro e; cases e
    · rintro ⟨e, he, hke, _⟩; exact absurd hke ((hes e).1 he).2
  · rw [upd_ne hj, h2 j u]
    constructor
    · rintro ⟨e, he, hke, hv⟩
      exact ⟨e, (hes e).2 ⟨he, fun q => hj (K.inj _ _ (hke.symm.trans q))⟩, hke, hv⟩
    · rintro ⟨e, he, hke, hv⟩
      exact ⟨e, ((hes e).1 he).1, hke, hv⟩
/-- delete(nil, k) -/
theorem wl_deleteNil {mt t2 kt et : TypeId} {x y : Operand} {k : κ} (K : KeyOk P kt kv) (hm : P.underlying mt = some (.map kt et)) (hx : look L x = some (.map none)) (hy : look L y = some (kv k)) {dst : Option Nat} (hd : dOk n dst = true)
    (hk : wl P n ops Q rest (pd dst (.tuple #[]) L) w) : wl P n ops Q (⟨dst, .call ⟨.builtin .delete, #[x, y], #[mt, t2]⟩, ty, pos, aft, none⟩ :: rest) L w :=
  wl_does rfl (by cases dst <;> exact hd) (R := fun u w' => u = .tuple #[] ∧ w' = w) (fun a ha => ⟨_, w, .inl (by simp [execOp, ha.eval hx, ha.eval hy, resolve, invoke, builtin, Builtin.delete_, run_underlying hm, K.check]), rfl, rfl⟩) (by rintro _ _ ⟨rfl, rfl⟩; exact hk)
/-- len(m) -/
theorem ev_lenM {t kt et : TypeId} {x : Operand} {b : Nat} {f : κ → Option Value} {m : Nat} (i : Nat) (hS : Sat w As) (hm : P.underlying t = some (.map kt et)) (hinj : ∀ a b, kv a = kv b → a = b) (hi : As[i]? = some (mapT kv b f)) (hx : look L x = some (.map (some b))) (hc : Card f m) : Ev P L w ⟨some d, .call ⟨.builtin .len, #[x], #[t]⟩, ty, pos, aft, none⟩ (.int .i64 (m : Int)) := fun ρ hρ => by
  obtain ⟨es, c, h1, h2⟩ := hS.map i hi
  have e : m = es.size := hc.same (h1.card hinj h2) fun _ => Iff.rfl
  subst e
  simp [execOp, hρ _ _ hx, resolve, invoke, builtin, Builtin.len_, run_underlying hm, MapKept.run_getObj_map h1.blk, goInt]
theorem wl_lenM {t kt et : TypeId} {x : Operand} {b : Nat} {f : κ → Option Value} (i : Nat) (hS : Sat w As) (hm : P.underlying t = some (.map kt et)) (hinj : ∀ a b, kv a = kv b → a = b) (hi : As[i]? = some (mapT kv b f)) (hx : look L x = some (.map (some b))) (hd : Nat.blt d n = true)
    (hk : ∀ m : Nat, Card f m → wl P n ops Q rest ((d, .int .i64 (m : Int)) :: L) w) : wl P n ops Q (⟨some d, .call ⟨.builtin .len, #[x], #[t]⟩, ty, pos, aft, none⟩ :: rest) L w := by
  obtain ⟨es, c, h1, h2⟩ := hS.map i hi
  have hc := h1.card hinj h2
  exact wl_val hd (ev_lenM i hS hm hinj hi hx hc) (hk _ hc)
theorem ev_lenMN {t kt et : TypeId} {x : Operand} (hm : P.underlying t = some (.map kt et)) (hx : look L x = some (.map none)) : Ev P L w ⟨some d, .call ⟨.builtin .len, #[x], #[t]⟩, ty, pos, aft, none⟩ (.int .i64 0) := fun ρ hρ => by
  simp [execOp, hρ _ _ hx, resolve, invoke, builtin, Builtin.len_, run_underlying hm, goInt]
theorem wl_lenMN {t kt et : TypeId} {x : Operand} (hm : P.underlying t = some (.map kt et)) (hx : look L x = some (.map none)) (hd : Nat.blt d n = true) (hk : wl P n ops Q rest ((d, .int .i64 0) :: L) w) : wl P n ops Q (⟨some d, .call ⟨.builtin .len, #[x], #[t]⟩, ty, pos, aft, none⟩ :: rest) L w := wl_val hd (ev_lenMN hm hx) hk
/-- nil[k] -/
theorem ev_lookupNil {mt kt et : TypeId} {x y : Operand} {k : κ} {z : Value} (K : KeyOk P kt kv) (hm : P.underlying mt = some (.map kt et)) (hz : zeroOf P et = some (some z)) (hx : look L x = some (.map none)) (hy : look L y = some (kv k)) : Ev P L w ⟨some d, .lookup mt x y false, ty, pos, aft, none⟩ z := fun ρ hρ => by
  have hf : (Instr.findKey kt (kv k) []).run P w = .ok none w := by
    rcases K.find k [] w (by simp) with ⟨i, x, h, _⟩ | ⟨_, h⟩
    · simp at h
    · exact h
  simp [execOp, hρ _ _ hx, hρ _ _ hy, Instr.lookup, run_underlying hm, K.check, hf, run_zeroOf hz w]
theorem wl_lookupNil {mt kt et : TypeId} {x y : Operand} {k : κ} {z : Value} (K : KeyOk P kt kv) (hm : P.underlying mt = some (.map kt et)) (hz : zeroOf P et = some (some z)) (hx : look L x = some (.map none)) (hy : look L y = some (kv k)) (hd : Nat.blt d n = true) (hk : wl P n ops Q rest ((d, z) :: L) w) : wl P n ops Q (⟨some d, .lookup mt x y false, ty, pos, aft, none⟩ :: rest) L w := wl_val hd (ev_lookupNil K hm hz hx hy) hk
/-- m == nil, of a nil map -/
theorem ev_eqlMapNilNil {x y : Operand} {t t2 kt et : TypeId} (hu : P.underlying t = some (.map kt et)) (hx : look L x = some (.map none)) (hy : look L y = some (.map none)) : Ev P L w ⟨some d, .binOp .eql t x y t2, ty, pos, aft, none⟩ (.bool true) := fun ρ hρ => by
  have h : (Op.equal t (.map none) (.map none)).run P w = .ok true w := by
    unfold Op.equal Op.maxDepth Op.equalIn
    simp only [Sem.run_bind, run_underlying hu, Result.andThen]
    rfl
  simp [execOp, hρ _ _ hx, hρ _ _ hy, eqGuard, binOp, h]
theorem wl_eqlMapNilNil {x y : Operand} {t t2 kt et : TypeId} (hu : P.underlying t = some (.map kt et)) (hx : look L x = some (.map none)) (hy : look L y = some (.map none)) (hd : Nat.blt d n = true) (hk : wl P n ops Q rest ((d, .bool true) :: L) w) : wl P n ops Q (⟨some d, .binOp .eql t x y t2, ty, pos, aft, none⟩ :: rest) L w := wl_val hd (ev_eqlMapNilNil hu hx hy) hk
end

def byteV (c : UInt8) : Value := .int .u8 (c.toNat : Int)
theorem run_part1 {P : Program} {e : TypeId} (ha : aggB P e = some false) (xs : Array Value) (i : Nat) (v : Value) (hv : xs[i]? = some v) (w : World) : (part e xs i).run P w = .ok v w := by
  unfold part
  simp [aggB_false ha, hv]
theorem run_forIn_all {P : Program} {w : World} (c : Nat → Bool) (F : Nat → Option Bool × Unit → Sem (ForInStep (Option Bool × Unit))) :
    ∀ (is : List Nat), (∀ i ∈ is, (F i (none, ())).run P w = .ok (if c i then .yield (none, ()) else .done (some false, ())) w) → (forIn is (none, ()) F).run P w = .ok (if is.all c then (none, ()) else (some false, ())) w
  | [], _ => by simp
  | i :: is, h => by
    have h1 := h i (by simp)
    have h2 := run_forIn_all c F is fun j hj => h j (by simp [hj])
    rw [List.forIn_cons, Sem.run_bind, h1]
    cases hc : c i with
    | true => simp [Result.andThen, hc, h2]
    | false => simp [Result.andThen, hc]
theorem run_eqArr {P : Program} {t e : TypeId} {len : Nat} (hu : P.underlying t = some (.array len e)) (he : P.underlying e = some (.int .u8)) (h1 : szOf P e = some 1) (ha : aggB P e = some false) (xs ys : List UInt8) (hx : xs.length = len) (hy : ys.length = len) (w : World) :
    (Op.equal t (.agg (xs.map byteV).toArray) (.agg (ys.map byteV).toArray)).run P w = .ok (decide (xs = ys)) w := by
  unfold Op.equal Op.maxDepth Op.equalIn
  simp only [Sem.run_bind, run_underlying hu, Result.andThen, run_sizeOf h1]
  rw [Std.Legacy.Range.forIn_eq_forIn_range']
  rw [run_forIn_all (fun i => decide (xs[i]? = ys[i]?))]
  · simp only
    have hall : (List.range' 0 ((([:len] : Std.Legacy.Range).size)) 1).all (fun i => decide (xs[i]? = ys[i]?)) = decide (xs = ys) := by
      rw [Bool.eq_iff_iff, List.all_eq_true, decide_eq_true_eq]
      constructor
      · intro h
        apply List.ext_getElem?
        intro i
        by_cases hi : i < len
        · have := h i (by simp [List.mem_range']; omega)
          simpa using this
        · rw [List.getElem?_eq_none (by omega), List.getElem?_eq_none (by omega)]
      · rintro rfl i _
        simp
    rw [hall]
    by_cases h : xs = ys
    · simp [h]
    · simp [h]
  · intro i hi
    have hil : i < len := by simp [List.mem_range'] at hi; omega
    obtain ⟨a, hxa⟩ : ∃ a, xs[i]? = some a := ⟨_, List.getElem?_eq_getElem (by omega)⟩
    obtain ⟨b, hyb⟩ : ∃ b, ys[i]? = some b := ⟨_, List.getElem?_eq_getElem (by omega)⟩
    have px := run_part1 (P := P) ha (xs.map byteV).toArray (i * 1) (byteV a) (by simp [hxa]) w
    have py := run_part1 (P := P) ha (ys.map byteV).toArray (i * 1) (byteV b) (by simp [hyb]) w
    simp only [Sem.run_bind, px, py, Result.andThen, byteV, run_equalIn_int he]
    rw [hxa, hyb]
    by_cases hab : a = b
    · subst hab; simp
    · have : ¬ ((a.toNat : Int) = (b.toNat : Int)) := fun q => hab (UInt8.toNat_inj.1 (by omega))
      simp [hab, this]

section
variable {P : Program} {n : Nat} {ops : Array Oper} {Q : Exit → Act → World → Prop} {rest : List Oper} {L : Env} {w : World} {d : Nat} {ty : TypeId} {pos : String} {aft : Array Edge} {As : List Th}
/-- x == y, arrays of bytes -/
theorem ev_eqlArr {t t2 e len : Nat} {x y : Operand} (xs ys : List UInt8) (hu : P.underlying t = some (.array len e)) (he : P.underlying e = some (.int .u8)) (h1 : szOf P e = some 1) (ha : aggB P e = some false) (hg : P.eqGuardType P.depth t = false) (hlx : xs.length = len) (hly : ys.length = len) (hx : look L x = some (.agg (xs.map byteV).toArray)) (hy : look L y = some (.agg (ys.map byteV).toArray)) : Ev P L w ⟨some d, .binOp .eql t x y t2, ty, pos, aft, none⟩ (.bool (decide (xs = ys))) := fun ρ hρ => by
  have h := run_eqArr hu he h1 ha xs ys hlx hly w
  simp [execOp, hρ _ _ hx, hρ _ _ hy, eqGuard, binOp, program, Sem.run, hg] at h ⊢
  rw [h]
  rfl
theorem wl_eqlArr {t t2 e len : Nat} {x y : Operand} (xs ys : List UInt8) (hu : P.underlying t = some (.array len e)) (he : P.underlying e = some (.int .u8)) (h1 : szOf P e = some 1) (ha : aggB P e = some false) (hg : P.eqGuardType P.depth t = false) (hlx : xs.length = len) (hly : ys.length = len) (hx : look L x = some (.agg (xs.map byteV).toArray)) (hy : look L y = some (.agg (ys.map byteV).toArray)) (hd : Nat.blt d n = true)
    (hk : wl P n ops Q rest ((d, .bool (decide (xs = ys))) :: L) w) : wl P n ops Q (⟨some d, .binOp .eql t x y t2, ty, pos, aft, none⟩ :: rest) L w := wl_val hd (ev_eqlArr xs ys hu he h1 ha hg hlx hly hx hy) hk
/-- x[j], an array's value -/
theorem ev_indexA {t e len : Nat} {x y : Operand} {k : IntKind} {i : Int} {cs : Array Value} {v : Value} (j : Nat) (hu : P.underlying t = some (.array len e)) (h1 : szOf P e = some 1) (ha : aggB P e = some false) (hi : i = (j : Int)) (hj : j < len) (hv : cs[j]? = some v) (hx : look L x = some (.agg cs)) (hy : look L y = some (.int k i)) : Ev P L w ⟨some d, .index t x y, ty, pos, aft, none⟩ v := fun ρ hρ => by
  subst hi
  have hp := run_part1 (P := P) ha cs j v hv w
  have hlt : (0 : Int) ≤ (j : Int) ∧ (j : Int) < (len : Int) := by omega
  simp [execOp, hρ _ _ hx, hρ _ _ hy, Instr.index, asIntOf, run_underlying hu, run_sizeOf h1, hp, hj]
theorem wl_indexA {t e len : Nat} {x y : Operand} {k : IntKind} {i : Int} {cs : Array Value} {v : Value} (j : Nat) (hu : P.underlying t = some (.array len e)) (h1 : szOf P e = some 1) (ha : aggB P e = some false) (hi : i = (j : Int)) (hj : j < len) (hv : cs[j]? = some v) (hx : look L x = some (.agg cs)) (hy : look L y = some (.int k i)) (hd : Nat.blt d n = true) (hk : wl P n ops Q rest ((d, v) :: L) w) : wl P n ops Q (⟨some d, .index t x y, ty, pos, aft, none⟩ :: rest) L w := wl_val hd (ev_indexA j hu h1 ha hi hj hv hx hy) hk
/-- T{}, an array -/
theorem ev_buildZ {t e len : Nat} {z : Array Value} (hu : P.underlying t = some (.array len e)) (h1 : szOf P e = some 1) (hz : zeroOf P t = some (some (.agg z))) : Ev P L w ⟨some d, .build t #[], ty, pos, aft, none⟩ (.agg z) := fun ρ _ => by
  simp [execOp, Instr.build, run_underlying hu, run_sizeOf h1, run_zeroOf hz w, Value.cells, Instr.fill]
theorem wl_buildZ {t e len : Nat} {z : Array Value} (hu : P.underlying t = some (.array len e)) (h1 : szOf P e = some 1) (hz : zeroOf P t = some (some (.agg z))) (hd : Nat.blt d n = true) (hk : wl P n ops Q rest ((d, .agg z) :: L) w) : wl P n ops Q (⟨some d, .build t #[], ty, pos, aft, none⟩ :: rest) L w := wl_val hd (ev_buildZ hu h1 hz) hk
/-- a method of an interface value is called -/
theorem wl_invoke {dst : Option Nat} {f t : Nat} {x : Operand} {name : String} {args : List Operand} {v v' : Value} {vs : List Value} {ts : Array TypeId} {R : Ending → World → Prop} (hx : look L x = some (.iface t v)) (hm : ∀ w : World, (method (P.types.size + Made.depth) t v name).run P w = .ok (f, v') w) (hf : callB P f = true) (ha : looks L args = some vs) (hc : Calls P f (v' :: vs).toArray w R) (hd : (match dst with | some d => Nat.blt d n | none => true) = true)
    (hk : ∀ e w', R e w' → ∃ v, e = .returned v ∧ wl P n ops Q rest (pd dst v L) w') : wl P n ops Q (⟨dst, .call ⟨.invoke x name, args.toArray, ts⟩, ty, pos, aft, none⟩ :: rest) L w := by
  unfold wl
  intro a hfr
  refine wpList_plain rfl fun K hK => ?_
  unfold Oper.wp
  have he := hfr.evals ha
  have hr : (execOp a.eval ⟨dst, .call ⟨.invoke x name, args.toArray, ts⟩, ty, pos, aft, none⟩).run P w = .ok (.enter f (v' :: vs).toArray) w := by
    have hm' := hm w
    simp only [execOp, resolve, hfr.eval hx]
    simp [invoke, callMethod, he, program, Sem.run] at hm' ⊢
    rw [hm']
    have := callB_run hf (v' :: vs).toArray w
    simpa [Sem.run] using this
  rw [hr]
  refine Calls.mono hc fun e w' hR => ?_
  obtain ⟨u, rfl, h⟩ := hk e w' hR
  unfold wl at h
  exact hK _ _ (h _ (hfr.put dst u hd))
/-- a method's value -/
theorem ev_makeMeth {name : String} {fs : List Operand} {vs : List Value} (hx : looks L fs = some vs) : Ev P L w ⟨some d, .makeFunc (.method name) fs.toArray #[], ty, pos, aft, none⟩ (.func (.method name) vs.toArray #[]) := fun ρ hρ => by
  have : fs.map ρ = vs := by
    induction fs generalizing vs with
    | nil => simp [looks] at hx; subst hx; rfl
    | cons y ys ih =>
      simp only [looks] at hx
      cases h1 : look L y with
      | none => simp [h1] at hx
      | some u =>
        cases h2 : looks L ys with
        | none => simp [h1, h2] at hx
        | some us => simp [h1, h2] at hx; subst hx; simp [hρ _ _ h1, ih h2]
  simp [execOp, Instr.makeFunc, this]
theorem wl_makeMeth {name : String} {fs : List Operand} {vs : List Value} (hx : looks L fs = some vs) (hd : Nat.blt d n = true) (hk : wl P n ops Q rest ((d, .func (.method name) vs.toArray #[]) :: L) w) : wl P n ops Q (⟨some d, .makeFunc (.method name) fs.toArray #[], ty, pos, aft, none⟩ :: rest) L w := wl_val hd (ev_makeMeth hx) hk
theorem ev_nilCheckMeth {x : Operand} {name : String} {t : Nat} {v : Value} (hx : look L x = some (.func (.method name) #[.iface t v] #[])) (hm : ∀ w : World, (nilAhead (P.types.size + Made.depth) t v name).run P w = .ok (some false) w) : Ev P L w ⟨some d, .nilCheck x, ty, pos, aft, none⟩ (.func (.method name) #[.iface t v] #[]) := fun ρ hρ => by
  have hm' := hm w
  simp [execOp, hρ _ _ hx, program, Sem.run] at hm' ⊢
  rw [hm']; simp
theorem wl_nilCheckMeth {x : Operand} {name : String} {t : Nat} {v : Value} (hx : look L x = some (.func (.method name) #[.iface t v] #[])) (hm : ∀ w : World, (nilAhead (P.types.size + Made.depth) t v name).run P w = .ok (some false) w) (hd : Nat.blt d n = true) (hk : wl P n ops Q rest ((d, .func (.method name) #[.iface t v] #[]) :: L) w) : wl P n ops Q (⟨some d, .nilCheck x, ty, pos, aft, none⟩ :: rest) L w := wl_val hd (ev_nilCheckMeth hx hm) hk
end

/-! ### what lies below a block -/
def lowT (B : Nat) (A : Th) : Th where
  at_ := fun w F => A.at_ w F ∧ ∀ k, F k → k < B
  fr := fun a ⟨h, g⟩ => ⟨A.fr a h, g⟩
  lt := fun ⟨h, _⟩ => A.lt h
theorem Sat.low {w : World} {As : List Th} (h : Sat w As) : Sat w [lowT w.heap.size (starL As)] := by
  obtain ⟨F, h⟩ := h
  exact ⟨F, F, fun _ => False, funext fun k => by simp, fun _ _ q => q, ⟨h, (starL As).lt h⟩, rfl⟩
theorem Sat.unlow {w : World} {B : Nat} {As Bs : List Th} (h : Sat w (lowT B (starL As) :: Bs)) : Sat w (As ++ Bs) := by
  refine Sat.flat ?_
  obtain ⟨F, F1, F2, e, d, ⟨h1, _⟩, h2⟩ := h
  exact ⟨F, F1, F2, e, d, h1, h2⟩
end Go.Proofs.YtcbdclhoekokpaaGreatDoor.M
