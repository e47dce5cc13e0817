/- More rules: maps with string keys, delete, len of a map, nil maps, array values, interface calls; things that lie below a block. Conditions: each rule's own hypotheses. -/
import Derived.Test.YtkaikhcpcbjkcaaGreatDoorMap
import Derived.Sort.EncStr
import Derived.Sort.Grow
import Derived.Lib.AtoiAll
import Derived.Lib.ItoaLen
import Derived.Lib.IndexLaws
import Derived.Sort.Walk0
namespace Go.Proofs.YtkaikhcpcbjkcaaGreatDoor.M
open Go.RowKit
def strK (s : List UInt8) : Value := strV s
theorem strV_inj {s t : List UInt8} (h : strV s = strV t) : s = t := by
  simp only [strV, Value.string.injEq, ByteArray.mk.injEq] at h
  simpa using h
theorem keyOk_str {P : Program} {kt : TypeId} (hu : P.underlying kt = some .string) : KeyOk P kt strK where
  inj := fun a b h => strV_inj h
  bits := fun a => MapKept.sameBits_self (d := .string) (by simp [MapKept.IsKey, strK, strV]) _
  check := fun e a w => MapKept.run_checkKey hu (by simp [MapKept.IsKey, strK, strV]) e 9999
  find := fun a l w h => by
    rcases MapKept.findNow_spec (d := .string) (k := strK a) (by simp [MapKept.IsKey, strK, strV]) l 0 (fun x hx => by obtain ⟨b, hb⟩ := h x hx; rw [hb]; simp [MapKept.IsKey, strK, strV]) with ⟨h1, h2⟩ | ⟨j, e, h1, h2, h3⟩
    · exact .inr ⟨h2, MapKept.run_findKey hu h1⟩
    · refine .inl ⟨j, e, h2, h3, ?_⟩
      rw [Nat.zero_add] at h1
      exact MapKept.run_findKey hu h1
/-- how many keys a map has -/
def Card {κ : Type} (f : κ → Option Value) (n : Nat) : Prop := ∃ ks : List κ, ks.Nodup ∧ ks.length = n ∧ ∀ k, f k ≠ none ↔ k ∈ ks
theorem Card.zero {κ : Type} {f : κ → Option Value} {n : Nat} (h : Card f n) : n = 0 ↔ ∀ k, f k = none := by
  obtain ⟨ks, _, h2, h3⟩ := h
  constructor
  · intro h0 k
    have : ks = [] := List.eq_nil_of_length_eq_zero (by omega)
    subst this
    by_cases hq : f k = none
    · exact hq
    · exact absurd ((h3 k).1 hq) (by simp)
  · intro h
    cases ks with
    | nil => simpa using h2.symm
    | cons k ks => exact absurd (h k) ((h3 k).2 (by simp))
theorem Card.same {κ : Type} {f g : κ → Option Value} {n m : Nat} (h : Card f n) (h' : Card g m) (e : ∀ k, f k = none ↔ g k = none) : n = m := by
  obtain ⟨ks, h1, h2, h3⟩ := h
  obtain ⟨js, g1, g2, g3⟩ := h'
  have s1 : ∀ x ∈ ks, x ∈ js := fun x hx => (g3 x).1 fun q => ((h3 x).2 hx) ((e x).2 q)
  have s2 : ∀ x ∈ js, x ∈ ks := fun x hx => (h3 x).1 fun q => ((g3 x).2 hx) ((e x).1 q)
  have l1 := List.Nodup.length_le_of_subset h1 s1
  have l2 := List.Nodup.length_le_of_subset g1 s2
  omega
theorem MapAt.card {κ : Type} {kv : κ → Value} {w : World} {b : Nat} {es : Array MapEntry} {clock : Nat} {f : κ → Option Value} (h : MapAt kv w b es clock) (hinj : ∀ a b, kv a = kv b → a = b) (hr : Reads kv es f) : Card f es.size := by
  have hk : ∀ (l : List MapEntry), (∀ x ∈ l, ∃ a, x.key = kv a) → ∃ ks : List κ, l.map (·.key) = ks.map kv := by
    intro l
    induction l with
    | nil => intro _; exact ⟨[], rfl⟩
    | cons x l ih =>
      intro hl
      obtain ⟨a, ha⟩ := hl x (by simp)
      obtain ⟨ks, hks⟩ := ih fun y hy => hl y (by simp [hy])
      exact ⟨a :: ks, by simp [ha, hks]⟩
  obtain ⟨ks, hks⟩ := hk es.toList h.keys
  refine ⟨ks, ?_, ?_, fun k => ?_⟩
  · have hp : (es.toList.map (·.key)).Nodup := h.stamped.2.2
    rw [hks, List.Nodup, List.pairwise_map] at hp
    exact hp.imp fun hne e => hne (by rw [e])
  · have := congrArg List.length hks
    simpa using this.symm
  · constructor
    · intro hne
      cases hq : f k with
      | none => exact absurd hq hne
      | some v =>
        obtain ⟨e, he, hke, _⟩ := (hr k v).1 hq
        have : kv k ∈ ks.map kv := by rw [← hks, ← hke]; exact List.mem_map.2 ⟨e, he, rfl⟩
        obtain ⟨j, hj, hjk⟩ := List.mem_map.1 this
        rw [← hinj _ _ hjk]; exact hj
    · intro hm
      have : kv k ∈ es.toList.map (·.key) := by rw [hks]; exact List.mem_map.2 ⟨k, hm, rfl⟩
      obtain ⟨e, he, hke⟩ := List.mem_map.1 this
      rw [(hr k e.val).2 ⟨e, he, hke, rfl⟩]; simp
section
variable {κ : Type} {kv : κ → Value}
variable {P : Program} {n : Nat} {ops : Array Oper} {Q : Exit → Act → World → Prop} {rest : List Oper} {L : Env} {w : World} {d : Nat} {ty : TypeId} {pos : String} {aft : Array Edge} {As : List Th}
/-- delete(m, k) -/
theorem wl_delete {mt t2 kt et : TypeId} {x y : Operand} {b : Nat} {f : κ → Option Value} {k : κ} (i : Nat) (hS : Sat w As) (K : KeyOk P kt kv) (hm : P.underlying mt = some (.map kt et)) (hi : As[i]? = some (mapT kv b f)) (hx : look L x = some (.map (some b))) (hy : look L y = some (kv k)) {dst : Option Nat} (hd : dOk n dst = true)
    (hk : ∀ w', Sat w' (As.set i (mapT kv b (upd f k none))) → wl P n ops Q rest (pd dst (.tuple #[]) L) w') : wl P n ops Q (⟨dst, .call ⟨.builtin .delete, #[x, y], #[mt, t2]⟩, ty, pos, aft, none⟩ :: rest) L w := by
  obtain ⟨es, c, h1, h2⟩ := hS.map i hi
  refine wl_does rfl (by cases dst <;> exact hd) (fun a ha => does_delete mt t2 x y rfl K hm h1 (ha.eval hx) (ha.eval hy)) ?_
  rintro _ w' ⟨rfl, es', hes, h3, h4, _⟩
  refine hk w' (hS.map_set i hi h3 ?_ h4)
  intro j u
  by_cases hj : j = k
  · subst hj
    rw [upd_self]
    constructor
    · intro e; cases e
    · rintro ⟨e, he, hke, _⟩; exact absurd hke ((hes e).1 he).2
  · rw [upd_ne hj, h2 j u]
    constructor
    · rintro ⟨e, he, hke, hv⟩
      exact ⟨e, (hes e).2 ⟨he, fun q => hj (K.inj _ _ (hke.symm.trans q))⟩, hke, hv⟩
    · rintro ⟨e, he, hke, hv⟩
      exact ⟨e, ((hes e).1 he).1, hke, hv⟩
end
def byteV (c : UInt8) : Value := .int .u8 (c.toNat : Int)
section
variable {P : Program} {n : Nat} {ops : Array Oper} {Q : Exit → Act → World → Prop} {rest : List Oper} {L : Env} {w : World} {d : Nat} {ty : TypeId} {pos : String} {aft : Array Edge} {As : List Th}
/-- a method of an interface value is called -/
theorem wl_invoke {dst : Option Nat} {f t : Nat} {x : Operand} {name : String} {args : List Operand} {v v' : Value} {vs : List Value} {ts : Array TypeId} {R : Ending → World → Prop} (hx : look L x = some (.iface t v)) (hm : ∀ w : World, (method (P.types.size + Made.depth) t v name).run P w = .ok (f, v') w) (hf : callB P f = true) (ha : looks L args = some vs) (hc : Calls P f (v' :: vs).toArray w R) (hd : (match dst with | some d => Nat.blt d n | none => true) = true)
    (hk : ∀ e w', R e w' → ∃ v, e = .returned v ∧ wl P n ops Q rest (pd dst v L) w') : wl P n ops Q (⟨dst, .call ⟨.invoke x name, args.toArray, ts⟩, ty, pos, aft, none⟩ :: rest) L w := by
  unfold wl
  intro a hfr
  refine wpList_plain rfl fun K hK => ?_
  unfold Oper.wp
  have he := hfr.evals ha
  have hr : (execOp a.eval ⟨dst, .call ⟨.invoke x name, args.toArray, ts⟩, ty, pos, aft, none⟩).run P w = .ok (.enter f (v' :: vs).toArray) w := by
    have hm' := hm w
    simp only [execOp, resolve, hfr.eval hx]
    simp [invoke, callMethod, he, program, Sem.run] at hm' ⊢
    rw [hm']
    have := callB_run hf (v' :: vs).toArray w
    simpa [Sem.run] using this
  rw [hr]
  refine Calls.mono hc fun e w' hR => ?_
  obtain ⟨u, rfl, h⟩ := hk e w' hR
  unfold wl at h
  exact hK _ _ (h _ (hfr.put dst u hd))
/-- a method's value -/
theorem ev_makeMeth {name : String} {fs : List Operand} {vs : List Value} (hx : looks L fs = some vs) : Ev P L w ⟨some d, .makeFunc (.method name) fs.toArray #[], ty, pos, aft, none⟩ (.func (.method name) vs.toArray #[]) := fun ρ hρ => by
  have : fs.map ρ = vs := by
    induction fs generalizing vs with
    | nil => simp [looks] at hx; subst hx; rfl
    | cons y ys ih =>
      simp only [looks] at hx
      cases h1 : look L y with
      | none => simp [h1] at hx
      | some u =>
        cases h2 : looks L ys with
        | none => simp [h1, h2] at hx
        | some us => simp [h1, h2] at hx; subst hx; simp [hρ _ _ h1, ih h2]
  simp [execOp, Instr.makeFunc, this]
theorem ev_nilCheckMeth {x : Operand} {name : String} {t : Nat} {v : Value} (hx : look L x = some (.func (.method name) #[.iface t v] #[])) (hm : ∀ w : World, (nilAhead (P.types.size + Made.depth) t v name).run P w = .ok (some false) w) : Ev P L w ⟨some d, .nilCheck x, ty, pos, aft, none⟩ (.func (.method name) #[.iface t v] #[]) := fun ρ hρ => by
  have hm' := hm w
  simp [execOp, hρ _ _ hx, program, Sem.run] at hm' ⊢
  rw [hm']; simp
end
/-! ### what lies below a block -/
end Go.Proofs.YtkaikhcpcbjkcaaGreatDoor.M
/- Look-ups with two results, and maps with as many keys as another. Conditions: each rule's own hypotheses. -/
namespace Go.Proofs.YtkaikhcpcbjkcaaGreatDoor.M
open Go.RowKit
section
variable {P : Program} {n : Nat} {ops : Array Oper} {Q : Exit → Act → World → Prop} {rest : List Oper} {L : Env} {w : World} {d : Nat} {ty : TypeId} {pos : String} {aft : Array Edge} {κ : Type} {kv : κ → Value} {As : List Th}
theorem Card.sub {f g : κ → Option Value} {m : Nat} (h : Card f m) (h' : Card g m) (e : ∀ k v, f k = some v → g k = some v) : f = g := by
  obtain ⟨ks, h1, h2, h3⟩ := h
  obtain ⟨js, g1, g2, g3⟩ := h'
  have s1 : ∀ x ∈ ks, x ∈ js := fun x hx => (g3 x).1 fun q => by
    cases hf : f x with
    | none => exact ((h3 x).2 hx) hf
    | some v => rw [e x v hf] at q; cases q
  have s2 : ∀ x ∈ js, x ∈ ks := fun x hx => Classical.byContradiction fun hn => by
    have := List.Nodup.length_le_of_subset (l₂ := js) (List.nodup_cons.2 ⟨hn, h1⟩) (by
      intro y hy
      rcases List.mem_cons.1 hy with rfl | hy
      · exact hx
      · exact s1 y hy)
    simp at this; omega
  funext k
  cases hf : f k with
  | some v => exact (e k v hf).symm
  | none =>
    cases hg : g k with
    | none => rfl
    | some v => exact absurd hf ((h3 k).2 (s2 k ((g3 k).1 (by rw [hg]; simp))))
end
end Go.Proofs.YtkaikhcpcbjkcaaGreatDoor.M
/- Rules for shifts and for | of numbers whose bits lie apart. Conditions: each rule's own hypotheses. -/
namespace Go.Proofs.YtkaikhcpcbjkcaaGreatDoor.M
open Go.RowKit
section
variable {P : Program} {n : Nat} {ops : Array Oper} {Q : Exit → Act → World → Prop} {rest : List Oper} {L : Env} {w : World} {d : Nat} {ty : TypeId} {pos : String} {aft : Array Edge} {t t2 : TypeId} {x y : Operand} {a b : Int} {yk : IntKind}
end
end Go.Proofs.YtkaikhcpcbjkcaaGreatDoor.M
/- world: what a world is, in plain data, and how it lies in memory. -/
namespace Go.Proofs.YtkaikhcpcbjkcaaGreatDoor
open Go.RowKit M
abbrev Bs := List UInt8
structure WS where
  cells : Bs → Bs
  objs : Bs → Int → Option Bs
  logs : Bs → Bs
  time : Int
def zero64 : Bs := List.replicate 64 0
def pageV (s : Bs) : Value := .agg (s.map byteV).toArray
def cellsG (c : Bs → Bs) (k : Bs) : Option Value := if c k = [] then none else some (strV (c k))
def pagesG (o : Int → Option Bs) (p : Int) : Option Value := (o p).map pageV
def pageOf (o : Option Bs) : Bs := o.getD zero64
structure PagesOk (O : Bs → Int → Option Bs) : Prop where
  ok : ∀ n p s, O n p = some s → s.length = 64 ∧ s ≠ zero64 ∧ 0 ≤ p ∧ p < 256
theorem PagesOk.len {O : Bs → Int → Option Bs} (h : PagesOk O) (n : Bs) (p : Int) : (pageOf (O n p)).length = 64 := by
  unfold pageOf
  cases hq : O n p with
  | none => rfl
  | some s => exact (h.ok n p s hq).1
def assoc (L : List (Bs × Nat)) (n : Bs) : Option Nat := (L.find? fun x => decide (x.1 = n)).map (·.2)
structure ObjL (L : List (Bs × Nat)) (O : Bs → Int → Option Bs) : Prop where
  nodup : (L.map (·.1)).Nodup
  has : ∀ n, n ∈ L.map (·.1) ↔ ∃ p, O n p ≠ none
def namesG (L : List (Bs × Nat)) (n : Bs) : Option Value := (assoc L n).map fun m => .map (some m)
def thOf (O : Bs → Int → Option Bs) (x : Bs × Nat) : Th := mapT intK x.2 (pagesG (O x.1))
def objsT (b : Nat) (O : Bs → Int → Option Bs) : Th := exT fun L : List (Bs × Nat) => starL [pureT (ObjL L O), mapT strK b (namesG L), starL (L.map (thOf O))]
structure WL where
  bc : Nat
  bo : Nat
  bl : Nat
def cellsW (L : WL) (t : Int) : List Value := [.map (some L.bc), .map (some L.bo), .map (some L.bl), intV t]
def worldT (p : Nat) (W : WS) : Th := exT fun L : WL => starL [pureT (PagesOk W.objs), blkT p (cellsW L W.time), mapT strK L.bc (cellsG W.cells), objsT L.bo W.objs, mapT strK L.bl (cellsG W.logs)]
section
variable {w : World} {As : List Th}
theorem worldT_open {p : Nat} {W : WS} (h : Sat w (worldT p W :: As)) : ∃ L : WL, PagesOk W.objs ∧ Sat w (blkT p (cellsW L W.time) :: mapT strK L.bc (cellsG W.cells) :: objsT L.bo W.objs :: mapT strK L.bl (cellsG W.logs) :: As) := by
  obtain ⟨L, h⟩ := h.ex
  exact ⟨L, h.flat.pure_elim⟩
theorem worldT_shut {p : Nat} {W : WS} (L : WL) (hi : PagesOk W.objs) (h : Sat w (blkT p (cellsW L W.time) :: mapT strK L.bc (cellsG W.cells) :: objsT L.bo W.objs :: mapT strK L.bl (cellsG W.logs) :: As)) : Sat w (worldT p W :: As) :=
  Sat.ex_intro L (Sat.fold (As := [pureT (PagesOk W.objs), blkT p (cellsW L W.time), mapT strK L.bc (cellsG W.cells), objsT L.bo W.objs, mapT strK L.bl (cellsG W.logs)]) (Sat.pure_intro hi h))
theorem objsT_shut {b : Nat} {O : Bs → Int → Option Bs} (L : List (Bs × Nat)) (hi : ObjL L O) (h : Sat w (mapT strK b (namesG L) :: starL (L.map (thOf O)) :: As)) : Sat w (objsT b O :: As) :=
  Sat.ex_intro L (Sat.fold (As := [pureT (ObjL L O), mapT strK b (namesG L), starL (L.map (thOf O))]) (Sat.pure_intro hi h))
end
theorem assoc_none {L : List (Bs × Nat)} {n : Bs} : assoc L n = none ↔ n ∉ L.map (·.1) := by
  unfold assoc
  rw [Option.map_eq_none_iff, List.find?_eq_none]
  simp
  constructor
  · intro h x hx; exact h _ _ hx rfl
  · intro h a b hab e; subst e; exact h b hab
def updC (c : Bs → Bs) (k v : Bs) : Bs → Bs := fun j => if j = k then v else c j
theorem cellsG_put {c : Bs → Bs} {k v : Bs} (h : v ≠ []) : upd (cellsG c) k (some (strV v)) = cellsG (updC c k v) := by
  funext j
  by_cases hj : j = k
  · subst hj; rw [upd_self]; simp [cellsG, updC, h]
  · rw [upd_ne hj]; simp [cellsG, updC, hj]
theorem cellsG_del {c : Bs → Bs} {k : Bs} : upd (cellsG c) k none = cellsG (updC c k []) := by
  funext j
  by_cases hj : j = k
  · subst hj; rw [upd_self]; simp [cellsG, updC]
  · rw [upd_ne hj]; simp [cellsG, updC, hj]
theorem cellsG_get (c : Bs → Bs) (k : Bs) : (cellsG c k).getD (strV []) = strV (c k) := by
  unfold cellsG; split
  · rename_i h; rw [h]; rfl
  · rfl
def setO (O : Bs → Int → Option Bs) (n : Bs) (p : Int) (s : Bs) : Bs → Int → Option Bs := fun m q => if m = n ∧ q = p then (if s = zero64 then none else some s) else O m q
theorem PagesOk.set {O : Bs → Int → Option Bs} (h : PagesOk O) {n : Bs} {p : Int} {s : Bs} (hs : s.length = 64) (hp : 0 ≤ p ∧ p < 256) : PagesOk (setO O n p s) := by
  refine ⟨fun m q t ht => ?_⟩
  unfold setO at ht
  split at ht
  · rename_i hc
    split at ht
    · cases ht
    · rename_i hz; cases ht; exact ⟨hs, hz, by omega, by omega⟩
  · exact h.ok m q t ht
end Go.Proofs.YtkaikhcpcbjkcaaGreatDoor
/- The shelf's contracts as contracts of things: fresh copies of strings, sorting. Conditions: each one's own hypotheses. -/
namespace Go.Proofs.YtkaikhcpcbjkcaaGreatDoor.M
open Go.RowKit Go.Sort
def stC : RowC (List UInt8) := ⟨fun s => [strV s], 1, by decide, fun _ => rfl, fun _ => rfl⟩
theorem stC_cells (l : List (List UInt8)) : stC.cells l = l.map strV := by induction l with | nil => rfl | cons a l ih => simp only [RowC.cells, List.flatMap_cons, List.map_cons] at ih ⊢; rw [ih]; rfl
theorem Sat.belowAll {w w' : World} {As : List Th} (h : Sat w As) (hb : RowKit.Below w.heap.size w w') : Sat w' As := h.only ⟨hb.os, hb.tape, hb.output, hb.size, fun k hk _ => hb.block k hk⟩
theorem calls_below {P : Program} {f : Nat} {args : Array Value} {w : World} {v : Value} {As : List Th} (hS : Sat w As) (h : Calls P f args w fun e w' => e = .returned v ∧ RowKit.Below w.heap.size w w') : Calls P f args w (Ret fun u w' => u = v ∧ Sat w' As) :=
  h.mono fun e w' ⟨h1, h2⟩ => ⟨v, h1, rfl, hS.belowAll h2⟩
def sortS (l : List (List UInt8)) : List (List UInt8) := l.mergeSort fun x y => decide (x ≤ y)
theorem sortS_perm (l : List (List UInt8)) : (sortS l).Perm l := List.mergeSort_perm _ _
theorem sortS_len (l : List (List UInt8)) : (sortS l).length = l.length := (sortS_perm l).length_eq
theorem putCells_all (d xs : List (List UInt8)) (sp : List Value) (h : d.length = xs.length) : (putCells encStr 0 d.toArray (xs.map strV ++ sp).toArray) = (d.map strV ++ sp).toArray := by
  apply Array.ext_getElem?
  intro k
  unfold putCells
  simp only [Array.getElem?_mapIdx, List.getElem?_toArray, Nat.zero_le, true_and, Nat.zero_add, Nat.sub_zero, List.size_toArray]
  by_cases hk : k < d.length
  · rw [List.getElem?_append_left (by simpa [← h] using hk), List.getElem?_append_left (by simpa using hk)]
    simp [hk, h ▸ hk, encStr, strV]
  · rw [List.getElem?_append_right (by simp; omega), List.getElem?_append_right (by simp; omega)]
    have hk' : ¬ k < xs.length := by omega
    simp only [List.length_map, h, hk', if_false, Option.map_id']
theorem calls_sort {P : Program} {f : Nat}
    (hsome : ∀ (blk off cap : Nat) (ss : List (List UInt8)) (w : World), Holds encStr w blk off ss.toArray → blk < w.heap.size → ss.length < 4611686018427387904 → Calls P f #[.slice (some ⟨blk, off, none⟩) ss.length cap] w fun e w' => e = .returned (.tuple #[]) ∧ ∃ n os, w' = grow (putRow encStr (Go.Sort.ahead w n) blk off (ss.mergeSort fun x y => decide (x ≤ y)).toArray) os)
    (hnone : ∀ (p : Option Addr) (cap : Nat) (w : World), Calls P f #[.slice p 0 cap] w fun e w' => e = .returned (.tuple #[]) ∧ w' = w)
    {w : World} {v : Value} {l : List (List UInt8)} {As : List Th} (hS : Sat w (rowT stC v l :: As)) (hl : l.length < 4611686018427387904) : Calls P f #[v] w (Ret fun u w' => u = .tuple #[] ∧ Sat w' (rowT stC v (sortS l) :: As)) := by
  obtain ⟨foot, hlen, h⟩ := hS.own 0 rfl
  rcases h with ⟨rfl, hn, hf⟩ | ⟨b, cap, sp, rfl, hcap, hb, hsz, hf⟩
  · have : l = [] := List.eq_nil_of_length_eq_zero hn
    subst this
    exact (hnone none 0 w).mono fun e w' ⟨h1, h2⟩ => ⟨_, h1, rfl, by rw [h2]; simpa [sortS] using hS⟩
  · have hH : Holds encStr w b 0 l.toArray := fun j hj => by
      have hj' : j < l.length := by simpa using hj
      rw [stC_cells] at hb
      refine ⟨?_, ?_⟩
      · rw [Nat.zero_add]
        refine hb.cell ?_
        rw [List.getElem?_append_left (by simpa using hj')]
        simp [hj', encStr, strV]
      · exact hb.free _ (by simp; omega)
    refine (hsome b 0 cap l w hH hb.lt hl).mono fun e w' ⟨h1, n, os, h2⟩ => ⟨_, h1, rfl, ?_⟩
    have hlt := hb.lt
    have hheap : ∀ k, k < w.heap.size → k ≠ b → w'.heap[k]? = w.heap[k]? := fun k hk hne => by
      rw [h2, heap_grow_old _ _ (by simpa using hk)]
      simp only [putRow, mapBlock, heap_ahead, Array.getElem?_modify]
      rw [if_neg (fun q => hne q.symm)]
    obtain ⟨T, lo, hi, hc, hfz⟩ := hb
    have hnew : w'.heap[b]? = some (.cells ((sortS l).map strV ++ sp).toArray T (lo, hi)) := by
      rw [h2, heap_grow_old _ _ (by simpa using hlt)]
      simp only [putRow, mapBlock, heap_ahead, Array.getElem?_modify, if_pos, hc, Option.map_some, onCells, stC_cells]
      rw [show (l.mergeSort fun x y => decide (x ≤ y)) = sortS l from rfl, putCells_all _ _ _ (sortS_len l)]
    have ho : Only [b] w w' := by
      refine ⟨?_, ?_, ?_, ?_, fun k hk hn => hheap k hk (by simpa using hn)⟩
      · rw [h2]; rfl
      · rw [h2]; rfl
      · rw [h2]; rfl
      · rw [h2]; simp
    have hfin := hS.own_set (w' := w') 0 rfl (v' := .slice (some ⟨b, 0, none⟩) l.length cap) (n' := l.length) (size' := 1) (xs' := stC.cells (sortS l)) (fun foot' g => by
      obtain ⟨_, g⟩ := g
      rcases g with ⟨g0, _⟩ | ⟨b', cap', sp', g0, g1, g2, g3, g4⟩
      · cases g0
      · simp only [Value.slice.injEq, Option.some.injEq, Addr.mk.injEq, and_true, true_and] at g0
        obtain ⟨rfl, rfl⟩ := g0
        refine ⟨[b], ⟨?_, .inr ⟨b, cap, sp, rfl, hcap, ⟨T, lo, hi, ?_, ?_⟩, ?_, rfl⟩⟩, ?_, ?_⟩
        · rw [stC.cells_len, sortS_len]; rfl
        · rw [stC_cells]; exact hnew
        · rcases hfz with q | q
          · exact .inl q
          · refine .inr ?_
            simp only [List.length_append, stC.cells_len, sortS_len] at q ⊢; exact q
        · simp only [List.length_append, stC.cells_len, sortS_len] at hsz ⊢; exact hsz
        · rw [g4]; exact ho
        · rw [g4]; intro k hk; exact .inl hk)
    have e : (sortS l).length = l.length := sortS_len l
    show Sat w' (ownT _ (sortS l).length 1 _ :: As)
    rw [e]; exact hfin
end Go.Proofs.YtkaikhcpcbjkcaaGreatDoor.M
/- wire: numbers as text and back, in plain data; comparing interface values with nil. Conditions: each lemma's own hypotheses. -/
namespace Go.Proofs.YtkaikhcpcbjkcaaGreatDoor
open Go.RowKit M
def inI (n : Int) : Prop := -9223372036854775808 ≤ n ∧ n ≤ 9223372036854775807
theorem nDigits_le : ∀ (k u : Nat), u < 10 ^ (k + 1) → Lib.nDigits u ≤ k + 1
  | 0, u, h => by rw [Lib.nDigits_small (by simpa using h)]; exact Nat.le_refl _
  | k + 1, u, h => by
    by_cases hu : u < 10
    · rw [Lib.nDigits_small hu]; omega
    · rw [Lib.nDigits_big hu]
      have := nDigits_le k (u / 10) (by rw [Nat.pow_succ] at h; omega)
      omega
theorem decDigits_digit (u : Nat) : ∀ b ∈ Lib.decDigits u, 48 ≤ b.toNat ∧ b.toNat ≤ 57 := by
  induction u using Nat.strongRecOn with
  | _ u ih =>
    rw [Lib.decDigits]
    split
    · rename_i h
      intro b hb
      simp only [List.mem_singleton] at hb
      subst hb
      have : (UInt8.ofNat (48 + u)).toNat = 48 + u := by simp; omega
      omega
    · rename_i h
      intro b hb
      rcases List.mem_append.1 hb with hb | hb
      · exact ih (u / 10) (by omega) b hb
      · simp only [List.mem_singleton] at hb
        subst hb
        have : (UInt8.ofNat (48 + u % 10)).toNat = 48 + u % 10 := by simp; omega
        omega
theorem decDigits_ne (u : Nat) : Lib.decDigits u ≠ [] := by
  rw [Lib.decDigits]; split <;> simp
theorem parse_append : ∀ (l r : Bs) (a : Nat), Lib.parseUint10 a (l ++ r) = match Lib.parseUint10 a l with | .ok v => Lib.parseUint10 v r | .«syntax» => .«syntax» | .range => .range
  | [], r, a => by simp [Lib.parseUint10]
  | c :: l, r, a => by
    simp only [List.cons_append, Lib.parseUint10]
    split
    · split
      · rfl
      · split
        · rfl
        · exact parse_append l r _
    · rfl
theorem parse_digits (u : Nat) (h : u < 18446744073709551616) : Lib.parseUint10 0 (Lib.decDigits u) = .ok u := by
  induction u using Nat.strongRecOn with
  | _ u ih =>
    rw [Lib.decDigits]
    split
    · rename_i hu
      have e : (UInt8.ofNat (48 + u)).toNat = 48 + u := by simp; omega
      simp only [Lib.parseUint10, e]
      rw [if_pos (by omega), if_neg (by omega), if_neg (by omega)]
      congr 1; omega
    · rename_i hu
      rw [parse_append, ih (u / 10) (by omega) (by omega)]
      have e : (UInt8.ofNat (48 + u % 10)).toNat = 48 + u % 10 := by simp; omega
      simp only [Lib.parseUint10, e]
      rw [if_pos (by omega), if_neg (by omega), if_neg (by omega)]
      congr 1; omega
theorem parseMag_digits (u : Nat) (h : u < 18446744073709551616) : Lib.parseMag (Lib.decDigits u) = .ok u := by
  rw [Lib.parseMag, if_neg (decDigits_ne u), parse_digits u h]
theorem atoi_itoa {n : Int} (h : inI n) : Lib.atoiAll (Lib.itoa n) = .ok n := by
  obtain ⟨h0, h1⟩ := h
  by_cases hn : n < 0
  · obtain ⟨u, rfl⟩ : ∃ u : Nat, n = -(u : Int) := ⟨n.natAbs, by omega⟩
    rw [Lib.itoa_neg u (by omega)]
    have e45 : (45 : UInt8).toNat = 45 := rfl
    simp only [Lib.atoiAll, e45]
    simp only [or_true, if_true, parseMag_digits u (show u < 18446744073709551616 by omega), not_true, false_and, if_false, true_and]
    rw [if_neg (by omega)]
  · obtain ⟨u, rfl⟩ : ∃ u : Nat, n = u := ⟨n.toNat, by omega⟩
    rw [Lib.itoa_nonneg]
    cases hd : Lib.decDigits u with
    | nil => exact absurd hd (decDigits_ne u)
    | cons c r =>
      have hc := decDigits_digit u c (by rw [hd]; simp)
      simp only [Lib.atoiAll]
      rw [if_neg (by omega), ← hd, parseMag_digits u (by omega)]
      simp only [show (c.toNat = 45) = False from by simp; omega, not_false_eq_true, true_and, false_and, if_false]
      rw [if_neg (by omega)]
theorem atoi_in {l : Bs} {n : Int} (h : Lib.atoiAll l = .ok n) : inI n := by
  cases l with
  | nil => simp [Lib.atoiAll] at h
  | cons c r =>
    simp only [Lib.atoiAll] at h
    split at h
    · cases h
    · cases h
    · rename_i u hu
      split at h
      · cases h
      split at h
      · cases h
      have hlt := Lib.parseMag_lt hu
      injection h with h
      subst h
      unfold inI
      split <;> omega
theorem itoa_len {n : Int} (h : inI n) : (Lib.itoa n).length ≤ 20 ∧ 1 ≤ (Lib.itoa n).length := by
  obtain ⟨h0, h1⟩ := h
  by_cases hn : n < 0
  · obtain ⟨u, rfl⟩ : ∃ u : Nat, n = -(u : Int) := ⟨n.natAbs, by omega⟩
    rw [Lib.itoa_neg u (by omega), List.length_cons, Lib.decDigits_length]
    have := nDigits_le 18 u (by simp; omega)
    omega
  · obtain ⟨u, rfl⟩ : ∃ u : Nat, n = u := ⟨n.toNat, by omega⟩
    rw [Lib.itoa_nonneg, Lib.decDigits_length]
    have := nDigits_le 18 u (by simp; omega)
    have := Lib.nDigits_pos u
    omega
theorem itoa_byte {n : Int} : ∀ b ∈ Lib.itoa n, b.toNat ≤ 57 := by
  intro b hb
  by_cases hn : n < 0
  · obtain ⟨u, rfl⟩ : ∃ u : Nat, n = -(u : Int) := ⟨n.natAbs, by omega⟩
    rw [Lib.itoa_neg u (by omega)] at hb
    rcases List.mem_cons.1 hb with rfl | hb
    · decide
    · exact (decDigits_digit u b hb).2
  · obtain ⟨u, rfl⟩ : ∃ u : Nat, n = u := ⟨n.toNat, by omega⟩
    rw [Lib.itoa_nonneg] at hb
    exact (decDigits_digit u b hb).2
theorem indexByte_app {e : UInt8} : ∀ (l r : Bs), e ∉ l → Lib.indexByte (l ++ e :: r) e = (l.length : Int)
  | [], r, _ => by simp [Lib.indexByte]
  | b :: l, r, h => by
    have hb : ¬ b = e := fun q => h (by simp [q])
    have := indexByte_app (e := e) l r (fun q => h (List.mem_cons_of_mem _ q))
    simp only [List.cons_append, Lib.indexByte, this]
    rw [if_neg (by simpa using hb), if_neg (by simp)]
    simp
/-- what 'number' reads: the number and the rest -/
def numP (e : UInt8) (least : Int) (rest : Bs) : Option (Int × Bs) :=
  if Lib.indexByte (rest.take 21) e < 0 then none
  else match Lib.atoiAll ((rest.take 21).take (Lib.indexByte (rest.take 21) e).toNat) with
    | .ok n => if Lib.itoa n = (rest.take 21).take (Lib.indexByte (rest.take 21) e).toNat ∧ least ≤ n then some (n, rest.drop ((Lib.indexByte (rest.take 21) e).toNat + 1)) else none
    | _ => none
theorem numP_enc {e : UInt8} {least n : Int} {r : Bs} (he : 57 < e.toNat) (hn : inI n) (hl : least ≤ n) : numP e least (Lib.itoa n ++ e :: r) = some (n, r) := by
  have hlen := itoa_len hn
  have hmem : e ∉ Lib.itoa n := fun q => by have := itoa_byte e q; omega
  have ht : (Lib.itoa n ++ e :: r).take 21 = Lib.itoa n ++ e :: r.take (20 - (Lib.itoa n).length) := by
    rw [List.take_append, List.take_of_length_le (by omega), show 21 - (Lib.itoa n).length = (20 - (Lib.itoa n).length) + 1 by omega, List.take_succ_cons]
  have hi : Lib.indexByte ((Lib.itoa n ++ e :: r).take 21) e = ((Lib.itoa n).length : Int) := by rw [ht]; exact indexByte_app _ _ hmem
  have ht2 : ((Lib.itoa n ++ e :: r).take 21).take (Lib.itoa n).length = Lib.itoa n := by rw [ht, List.take_left']; rfl
  unfold numP
  rw [hi, if_neg (by omega)]
  rw [Int.toNat_natCast, ht2, atoi_itoa hn]
  dsimp only
  rw [if_pos ⟨rfl, hl⟩, List.drop_append, List.drop_eq_nil_of_le (by omega), show (Lib.itoa n).length + 1 - (Lib.itoa n).length = 1 by omega]
  rfl
theorem numP_some {e : UInt8} {least n : Int} {rest r : Bs} (h : numP e least rest = some (n, r)) : rest = Lib.itoa n ++ e :: r ∧ inI n ∧ least ≤ n := by
  unfold numP at h
  split at h
  · cases h
  · rename_i hneg
    split at h
    · rename_i m hm
      split at h
      · rename_i hc
        injection h with h
        injection h with h1 h2
        subst h1
        obtain ⟨o, ho⟩ : ∃ o : Nat, Lib.indexByte (rest.take 21) e = o := ⟨(Lib.indexByte (rest.take 21) e).toNat, by omega⟩
        rw [ho, Int.toNat_natCast] at hc h2 hm
        have h3 := (Lib.indexByte_some ho).1
        have h4 : o < 21 ∧ rest[o]? = some e := by
          have := (List.getElem?_eq_some_iff.1 h3).1
          simp at this
          rw [List.getElem?_take, if_pos (by omega)] at h3
          exact ⟨by omega, h3⟩
        refine ⟨?_, atoi_in hm, hc.2⟩
        rw [hc.1, ← h2, List.take_take, Nat.min_eq_left (by omega)]
        have h5 := (List.getElem?_eq_some_iff.1 h4.2)
        rw [← h5.2, List.getElem_cons_drop, List.take_append_drop]
      · cases h
    · cases h
section
variable {P : Program} {n : Nat} {ops : Array Oper} {Q : Exit → Act → World → Prop} {rest : List Oper} {L : Env} {w : World} {d : Nat} {ty : TypeId} {pos : String} {aft : Array Edge}
def isIface (P : Program) (t : Nat) : Bool := match P.underlying t with | some (.interface _) => true | _ => false
theorem ev_neqIfNil {x : Operand} {t t2 : TypeId} {v : Value} {g : Bool} (hu : isIface P t = true) (hv : (v = .nilIface ∧ g = false) ∨ ∃ a b, v = .iface a b ∧ g = true) (hx : M.look L x = some v) : Ev P L w ⟨some d, .binOp .neq t x (.const .nilIface) t2, ty, pos, aft, none⟩ (.bool g) := fun ρ hρ => by
  have hy : ρ (.const .nilIface) = .nilIface := hρ _ _ rfl
  unfold isIface at hu
  cases hq : P.underlying t with
  | none => rw [hq] at hu; cases hu
  | some dsc =>
    rw [hq] at hu
    cases dsc <;> simp at hu
    rcases hv with ⟨rfl, rfl⟩ | ⟨a, b, rfl, rfl⟩
    · have hr : (Op.equal t .nilIface .nilIface).run P w = .ok true w := by
        unfold Op.equal Op.maxDepth Op.equalIn
        simp only [Sem.run_bind, run_underlying hq, Result.andThen]
        rfl
      simp [execOp, hρ _ _ hx, hy, eqGuard, binOp, hr]
    · have hr : (Op.equal t (.iface a b) .nilIface).run P w = .ok false w := by
        unfold Op.equal Op.maxDepth Op.equalIn
        simp only [Sem.run_bind, run_underlying hq, Result.andThen]
        rfl
      simp [execOp, hρ _ _ hx, hy, eqGuard, binOp, hr]
end
end Go.Proofs.YtkaikhcpcbjkcaaGreatDoor
/- The references 01 (numbers as text) and 15 (cells in order), in plain data; rules for strings in order and for division of numbers that are not positive. Conditions: each lemma's own hypotheses. -/
namespace Go.Proofs.YtkaikhcpcbjkcaaGreatDoor
open Go.RowKit M
section
variable {P : Program} {n : Nat} {ops : Array Oper} {Q : Exit → Act → World → Prop} {rest : List Oper} {L : Env} {w : World} {d : Nat} {ty : TypeId} {pos : String} {aft : Array Edge} {x y : Operand} {t t2 : TypeId}
theorem ev_makeIface {x : Operand} {t : TypeId} {v : Value} (ht : notIface P t = true) (hx : M.look L x = some v) : Ev P L w ⟨some d, .makeInterface t x, ty, pos, aft, none⟩ (.iface t v) := fun ρ hρ => by
    unfold notIface at ht
    cases hu : P.underlying t with
    | none => rw [hu] at ht; cases ht
    | some dd =>
      rw [hu] at ht
      simp only [execOp, hρ _ _ hx, Instr.makeInterface]
      cases dd <;> simp [run_underlying hu] <;> simp at ht
end
/-! ### numbers back from text, as the reference does it -/
theorem wrap_in (a : Int) : inI (IntKind.i64.wrap a) := by
  have h : IntKind.i64.wrap a = (a + 9223372036854775808) % 18446744073709551616 - 9223372036854775808 := by
    simp [IntKind.wrap, IntKind.signed, IntKind.bits]; split <;> omega
  rw [h]; unfold inI; omega
theorem numP_back {e : UInt8} {least m : Int} {r : Bs} {k : Nat} (he : 57 < e.toNat) (hk : r[k]? = some e) (hm : inI m) (hl : least ≤ m) (h : r.take k = Lib.itoa m) : numP e least r = some (m, r.drop (k + 1)) := by
  have e1 : r = Lib.itoa m ++ e :: r.drop (k + 1) := by
    have h5 := List.getElem?_eq_some_iff.1 hk
    rw [← h, ← h5.2, List.getElem_cons_drop, List.take_append_drop]
  have := numP_enc (r := r.drop (k + 1)) he hm hl
  rw [← e1] at this
  exact this
/-! ### cells in order -/
structure CellsR (Z : List (Bs × Bs)) (c : Bs → Bs) : Prop where
  sorted : (Z.map (·.1)).Pairwise (· < ·)
  val : ∀ x ∈ Z, x.2 ≠ [] ∧ c x.1 = x.2
  none : ∀ k, k ∉ Z.map (·.1) → c k = []
theorem CellsR.empty : CellsR [] (fun _ => []) := ⟨by simp, by simp, fun _ _ => rfl⟩
def putL (k v : Bs) : Bool → List (Bs × Bs) → List (Bs × Bs)
  | true, [] => []
  | false, [] => [(k, v)]
  | true, x :: r => if x.1 = k then putL k v true r else x :: putL k v true r
  | false, x :: r => if x.1 = k then putL k v false r else if k < x.1 then (k, v) :: x :: putL k v true r else x :: putL k v false r
theorem putL_true (k v : Bs) : ∀ Z, putL k v true Z = Z.filter (fun x => decide (x.1 ≠ k))
  | [] => rfl
  | x :: r => by
    simp only [putL]
    split
    · rename_i h; rw [putL_true k v r, List.filter_cons_of_neg (by simpa using h)]
    · rename_i h; rw [putL_true k v r, List.filter_cons_of_pos (by simpa using h)]
theorem putL_mem (k v : Bs) : ∀ (Z : List (Bs × Bs)) (x : Bs × Bs), x ∈ putL k v false Z ↔ (x ∈ Z ∧ x.1 ≠ k) ∨ x = (k, v)
  | [], x => by simp [putL]
  | y :: r, x => by
    simp only [putL]
    split
    · rename_i h
      rw [putL_mem k v r x, List.mem_cons]
      constructor
      · rintro (⟨a, b⟩ | a)
        · exact .inl ⟨.inr a, b⟩
        · exact .inr a
      · rintro (⟨a | a, b⟩ | a)
        · subst a; exact absurd h b
        · exact .inl ⟨a, b⟩
        · exact .inr a
    · rename_i h
      split
      · rw [putL_true]
        simp only [List.mem_cons, List.mem_filter, decide_eq_true_eq]
        constructor
        · rintro (a | a | ⟨a, b⟩)
          · exact .inr a
          · subst a; exact .inl ⟨.inl rfl, h⟩
          · exact .inl ⟨.inr a, b⟩
        · rintro (⟨a | a, b⟩ | a)
          · exact .inr (.inl a)
          · exact .inr (.inr ⟨a, b⟩)
          · exact .inl a
      · rw [List.mem_cons, putL_mem k v r x, List.mem_cons]
        constructor
        · rintro (a | ⟨a, b⟩ | a)
          · subst a; exact .inl ⟨.inl rfl, h⟩
          · exact .inl ⟨.inr a, b⟩
          · exact .inr a
        · rintro (⟨a | a, b⟩ | a)
          · exact .inl a
          · exact .inr (.inl ⟨a, b⟩)
          · exact .inr (.inr a)
theorem lt_of_ne {a b : Bs} (h : ¬ a < b) (g : a ≠ b) : b < a :=
  Decidable.byContradiction fun q => g (List.le_antisymm (List.not_lt.1 q) (List.not_lt.1 h))
theorem putL_sorted (k v : Bs) : ∀ (Z : List (Bs × Bs)), (Z.map (·.1)).Pairwise (· < ·) → ((putL k v false Z).map (·.1)).Pairwise (· < ·)
  | [], _ => by simp [putL]
  | y :: r, hp => by
    rw [List.map_cons, List.pairwise_cons] at hp
    obtain ⟨h1, h2⟩ := hp
    simp only [putL]
    split
    · exact putL_sorted k v r h2
    · rename_i hne
      split
      · rename_i hlt
        rw [putL_true, List.map_cons, List.map_cons, List.pairwise_cons, List.pairwise_cons]
        have hsub : ∀ a ∈ (r.filter (fun x => decide (x.1 ≠ k))).map (·.1), a ∈ r.map (·.1) := fun a ha => by
          obtain ⟨x, hx, rfl⟩ := List.mem_map.1 ha
          exact List.mem_map.2 ⟨x, (List.mem_filter.1 hx).1, rfl⟩
        refine ⟨fun a ha => ?_, fun a ha => h1 a (hsub a ha), h2.sublist ((List.filter_sublist).map _)⟩
        rcases List.mem_cons.1 ha with rfl | ha
        · exact hlt
        · exact List.lt_trans hlt (h1 a (hsub a ha))
      · rename_i hge
        rw [List.map_cons, List.pairwise_cons]
        refine ⟨fun a ha => ?_, putL_sorted k v r h2⟩
        obtain ⟨x, hx, rfl⟩ := List.mem_map.1 ha
        rcases (putL_mem k v r x).1 hx with ⟨a, _⟩ | a
        · exact h1 _ (List.mem_map.2 ⟨x, a, rfl⟩)
        · subst a; exact lt_of_ne hge (fun e => hne e.symm)
def putZ (Z : List (Bs × Bs)) (k v : Bs) : List (Bs × Bs) := putL k v (decide (v = [])) Z
theorem CellsR.put {Z : List (Bs × Bs)} {c : Bs → Bs} (h : CellsR Z c) (k v : Bs) : CellsR (putZ Z k v) (updC c k v) := by
  unfold putZ
  by_cases hv : v = []
  · subst hv
    rw [decide_eq_true rfl, putL_true]
    refine ⟨h.sorted.sublist ((List.filter_sublist).map _), fun x hx => ?_, fun j hj => ?_⟩
    · obtain ⟨h1, h2⟩ := List.mem_filter.1 hx
      have h3 := h.val x h1
      refine ⟨h3.1, ?_⟩
      unfold updC; rw [if_neg (by simpa using h2)]; exact h3.2
    · unfold updC
      split
      · rfl
      · rename_i hne
        refine h.none j fun hm => hj ?_
        obtain ⟨x, hx, rfl⟩ := List.mem_map.1 hm
        exact List.mem_map.2 ⟨x, List.mem_filter.2 ⟨hx, by simpa using hne⟩, rfl⟩
  · rw [decide_eq_false hv]
    refine ⟨putL_sorted k v Z h.sorted, fun x hx => ?_, fun j hj => ?_⟩
    · rcases (putL_mem k v Z x).1 hx with ⟨h1, h2⟩ | rfl
      · have h3 := h.val x h1
        refine ⟨h3.1, ?_⟩
        unfold updC; rw [if_neg h2]; exact h3.2
      · exact ⟨hv, by unfold updC; rw [if_pos rfl]⟩
    · unfold updC
      rw [if_neg]
      · refine h.none j fun hm => hj ?_
        obtain ⟨x, hx, rfl⟩ := List.mem_map.1 hm
        by_cases hxk : x.1 = k
        · exact List.mem_map.2 ⟨(k, v), (putL_mem k v Z _).2 (.inr rfl), hxk.symm⟩
        · exact List.mem_map.2 ⟨x, (putL_mem k v Z _).2 (.inl ⟨hx, hxk⟩), rfl⟩
      · rintro rfl
        exact hj (List.mem_map.2 ⟨(j, v), (putL_mem j v Z _).2 (.inr rfl), rfl⟩)
end Go.Proofs.YtkaikhcpcbjkcaaGreatDoor
/- Closed facts of the program: offsets, sizes, zero values. -/
namespace Go.Proofs.YtkaikhcpcbjkcaaGreatDoor
open Go.RowKit M
theorem ag_3 : aggB Tryz.prog 3 = some false := by kernel_rfl
theorem ag_4 : aggB Tryz.prog 4 = some false := by kernel_rfl
theorem ag_9 : aggB Tryz.prog 9 = some false := by kernel_rfl
theorem ag_25 : aggB Tryz.prog 25 = some false := by kernel_rfl
theorem ag_27 : aggB Tryz.prog 27 = some false := by kernel_rfl
theorem ag_32 : aggB Tryz.prog 32 = some false := by kernel_rfl
theorem ag_35 : aggB Tryz.prog 35 = some true := by kernel_rfl
theorem ag_37 : aggB Tryz.prog 37 = some true := by kernel_rfl
theorem ag_40 : aggB Tryz.prog 40 = some false := by kernel_rfl
theorem ag_82 : aggB Tryz.prog 82 = some false := by kernel_rfl
theorem ag_89 : aggB Tryz.prog 89 = some false := by kernel_rfl
theorem asz_35 : allSz Tryz.prog 35 = true := by kernel_rfl
theorem asz_74 : allSz Tryz.prog 74 = true := by kernel_rfl
theorem asz_93 : allSz Tryz.prog 93 = true := by kernel_rfl
theorem asz_132 : allSz Tryz.prog 132 = true := by kernel_rfl
theorem cal_8 : callB Tryz.prog 8 = true := by kernel_rfl
theorem cal_9 : callB Tryz.prog 9 = true := by kernel_rfl
theorem cal_10 : callB Tryz.prog 10 = true := by kernel_rfl
theorem cal_11 : callB Tryz.prog 11 = true := by kernel_rfl
theorem cal_12 : callB Tryz.prog 12 = true := by kernel_rfl
theorem cal_13 : callB Tryz.prog 13 = true := by kernel_rfl
theorem cal_15 : callB Tryz.prog 15 = true := by kernel_rfl
theorem cal_16 : callB Tryz.prog 16 = true := by kernel_rfl
theorem cal_17 : callB Tryz.prog 17 = true := by kernel_rfl
theorem cal_18 : callB Tryz.prog 18 = true := by kernel_rfl
theorem cal_20 : callB Tryz.prog 20 = true := by kernel_rfl
theorem cal_21 : callB Tryz.prog 21 = true := by kernel_rfl
theorem cal_23 : callB Tryz.prog 23 = true := by kernel_rfl
theorem cal_28 : callB Tryz.prog 28 = true := by kernel_rfl
theorem cal_30 : callB Tryz.prog 30 = true := by kernel_rfl
theorem cal_34 : callB Tryz.prog 34 = true := by kernel_rfl
theorem cal_36 : callB Tryz.prog 36 = true := by kernel_rfl
theorem cal_39 : callB Tryz.prog 39 = true := by kernel_rfl
theorem cal_40 : callB Tryz.prog 40 = true := by kernel_rfl
theorem cal_42 : callB Tryz.prog 42 = true := by kernel_rfl
theorem cal_43 : callB Tryz.prog 43 = true := by kernel_rfl
theorem cal_44 : callB Tryz.prog 44 = true := by kernel_rfl
theorem cal_45 : callB Tryz.prog 45 = true := by kernel_rfl
theorem cal_46 : callB Tryz.prog 46 = true := by kernel_rfl
theorem cal_47 : callB Tryz.prog 47 = true := by kernel_rfl
theorem cal_48 : callB Tryz.prog 48 = true := by kernel_rfl
theorem cal_49 : callB Tryz.prog 49 = true := by kernel_rfl
theorem cal_50 : callB Tryz.prog 50 = true := by kernel_rfl
theorem cal_51 : callB Tryz.prog 51 = true := by kernel_rfl
theorem cal_52 : callB Tryz.prog 52 = true := by kernel_rfl
theorem cal_53 : callB Tryz.prog 53 = true := by kernel_rfl
theorem cal_56 : callB Tryz.prog 56 = true := by kernel_rfl
theorem cal_57 : callB Tryz.prog 57 = true := by kernel_rfl
theorem cal_58 : callB Tryz.prog 58 = true := by kernel_rfl
theorem cal_59 : callB Tryz.prog 59 = true := by kernel_rfl
theorem cal_70 : callB Tryz.prog 70 = true := by kernel_rfl
theorem cal_71 : callB Tryz.prog 71 = true := by kernel_rfl
theorem cal_74 : callB Tryz.prog 74 = true := by kernel_rfl
theorem cal_75 : callB Tryz.prog 75 = true := by kernel_rfl
theorem cal_76 : callB Tryz.prog 76 = true := by kernel_rfl
theorem cal_82 : callB Tryz.prog 82 = true := by kernel_rfl
theorem cal_83 : callB Tryz.prog 83 = true := by kernel_rfl
theorem cal_86 : callB Tryz.prog 86 = true := by kernel_rfl
theorem cal_87 : callB Tryz.prog 87 = true := by kernel_rfl
theorem cal_88 : callB Tryz.prog 88 = true := by kernel_rfl
theorem cal_89 : callB Tryz.prog 89 = true := by kernel_rfl
theorem cal_90 : callB Tryz.prog 90 = true := by kernel_rfl
theorem cal_91 : callB Tryz.prog 91 = true := by kernel_rfl
theorem cal_93 : callB Tryz.prog 93 = true := by kernel_rfl
theorem cal_94 : callB Tryz.prog 94 = true := by kernel_rfl
theorem cal_100 : callB Tryz.prog 100 = true := by kernel_rfl
theorem cal_102 : callB Tryz.prog 102 = true := by kernel_rfl
theorem cal_104 : callB Tryz.prog 104 = true := by kernel_rfl
theorem cal_105 : callB Tryz.prog 105 = true := by kernel_rfl
theorem cal_106 : callB Tryz.prog 106 = true := by kernel_rfl
theorem cal_119 : callB Tryz.prog 119 = true := by kernel_rfl
theorem cal_120 : callB Tryz.prog 120 = true := by kernel_rfl
theorem cal_121 : callB Tryz.prog 121 = true := by kernel_rfl
theorem cal_122 : callB Tryz.prog 122 = true := by kernel_rfl
theorem cal_125 : callB Tryz.prog 125 = true := by kernel_rfl
theorem cal_127 : callB Tryz.prog 127 = true := by kernel_rfl
theorem es_22 : elemSz Tryz.prog 22 = some 9 := by kernel_rfl
theorem es_40 : elemSz Tryz.prog 40 = some 1 := by kernel_rfl
theorem fo_35_0 : fldOff Tryz.prog 35 0 = some 0 := by kernel_rfl
theorem fo_35_1 : fldOff Tryz.prog 35 1 = some 1 := by kernel_rfl
theorem fo_35_2 : fldOff Tryz.prog 35 2 = some 2 := by kernel_rfl
theorem fo_37_0 : fldOff Tryz.prog 37 0 = some 0 := by kernel_rfl
theorem fo_37_1 : fldOff Tryz.prog 37 1 = some 1 := by kernel_rfl
theorem fo_37_2 : fldOff Tryz.prog 37 2 = some 2 := by kernel_rfl
theorem fo_37_3 : fldOff Tryz.prog 37 3 = some 3 := by kernel_rfl
theorem fo_37_4 : fldOff Tryz.prog 37 4 = some 4 := by kernel_rfl
theorem fo_37_5 : fldOff Tryz.prog 37 5 = some 5 := by kernel_rfl
theorem fo_37_6 : fldOff Tryz.prog 37 6 = some 6 := by kernel_rfl
theorem fo_74_0 : fldOff Tryz.prog 74 0 = some 0 := by kernel_rfl
theorem fo_74_1 : fldOff Tryz.prog 74 1 = some 1 := by kernel_rfl
theorem fo_74_2 : fldOff Tryz.prog 74 2 = some 2 := by kernel_rfl
theorem fo_74_3 : fldOff Tryz.prog 74 3 = some 3 := by kernel_rfl
theorem fo_93_0 : fldOff Tryz.prog 93 0 = some 0 := by kernel_rfl
theorem fo_132_0 : fldOff Tryz.prog 132 0 = some 0 := by kernel_rfl
theorem fo_132_1 : fldOff Tryz.prog 132 1 = some 1 := by kernel_rfl
theorem ifo_9 : (Tryz.prog.info? 9).map (fun i => (i.zero, i.size, i.bytes)) = some (some (.string ⟨#[]⟩), 1, 16) := by kernel_rfl
theorem ifz_9 : (Tryz.prog.info? 9).map (fun i => (i.zero, i.size)) = some (some (.string ⟨#[]⟩), 1) := by kernel_rfl
theorem mix : Tryz.prog.follows .mixedOrders = true := by kernel_rfl
theorem nif_25 : notIface Tryz.prog 25 = true := by kernel_rfl
theorem pl_35_ : structPl Tryz.prog 35 [] = some [] := by kernel_rfl
theorem pl_35_0 : structPl Tryz.prog 35 [0] = some [(0, 1)] := by kernel_rfl
theorem pl_35_0_1_2 : structPl Tryz.prog 35 [0, 1, 2] = some [(0, 1), (1, 1), (2, 1)] := by kernel_rfl
theorem pl_35_0_2 : structPl Tryz.prog 35 [0, 2] = some [(0, 1), (2, 1)] := by kernel_rfl
theorem pl_74_0_3 : structPl Tryz.prog 74 [0, 3] = some [(0, 1), (3, 1)] := by kernel_rfl
theorem pl_93_0_1_2 : structPl Tryz.prog 93 [0, 1, 2] = some [(0, 1), (1, 1), (2, 1)] := by kernel_rfl
theorem pl_132_0 : structPl Tryz.prog 132 [0] = some [(0, 1)] := by kernel_rfl
theorem sz_3 : szOf Tryz.prog 3 = some 1 := by kernel_rfl
theorem sz_4 : szOf Tryz.prog 4 = some 1 := by kernel_rfl
theorem sz_9 : szOf Tryz.prog 9 = some 1 := by kernel_rfl
theorem sz_27 : szOf Tryz.prog 27 = some 1 := by kernel_rfl
theorem sz_35 : szOf Tryz.prog 35 = some 3 := by kernel_rfl
theorem sz_37 : szOf Tryz.prog 37 = some 9 := by kernel_rfl
theorem sz_40 : szOf Tryz.prog 40 = some 1 := by kernel_rfl
theorem zr_9 : zeroOf Tryz.prog 9 = some (some (.string ⟨#[]⟩)) := by kernel_rfl
theorem zr_27 : zeroOf Tryz.prog 27 = some (some (.int .i64 0)) := by kernel_rfl
theorem zr_35 : zeroOf Tryz.prog 35 = some (some (.agg #[(.int .i64 0), (.int .i64 0), (.int .i64 0)])) := by kernel_rfl
theorem zr_37 : zeroOf Tryz.prog 37 = some (some (.agg #[(.int .i64 0), (.string ⟨#[]⟩), (.string ⟨#[]⟩), (.string ⟨#[]⟩), (.string ⟨#[]⟩), (.string ⟨#[]⟩), (.int .i64 0), (.int .i64 0), (.int .i64 0)])) := by kernel_rfl
theorem zr_74 : zeroOf Tryz.prog 74 = some (some (.agg #[(.pointer none), (.slice none 0 0), (.slice none 0 0), (.bool false)])) := by kernel_rfl
theorem zr_93 : zeroOf Tryz.prog 93 = some (some (.agg #[(.map none), (.map none), (.map none), (.int .i64 0)])) := by kernel_rfl
theorem zr_132 : zeroOf Tryz.prog 132 = some (some (.agg #[(.string ⟨#[]⟩), (.bool false)])) := by kernel_rfl
end Go.Proofs.YtkaikhcpcbjkcaaGreatDoor
