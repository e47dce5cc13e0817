/- A region that draws its order, walked in one order: the operations that only look go as early as they can ('quiet'), the others ('spine') come one after the other in every order. Conditions: the rule's own hypotheses. -/
import Derived.Test.YtcbdclhoekokpaaGreatDoorMem
import Derived.StillTail
import Derived.MapKept
import Derived.Laws.IdiomRangeMap
import Derived.Maps.RangeRun
import Derived.Laws.Externs
namespace Go.Proofs.YtcbdclhoekokpaaGreatDoor.M
open Go.RowKit
/-- masks of all that come before, by a list of operations -/
def masks : List Oper → List Nat → List Nat
  | [], acc => acc
  | o :: l, acc => masks l (acc ++ [o.after.toList.foldl (fun s e => bif Region.binds .any e then s ||| (2 ^ e.on ||| acc.getD e.on 0) else s) 0])
def anc (M : List Nat) (j i : Nat) : Bool := (M.getD i 0).testBit j
theorem fold_bit (acc : List Nat) (j : Nat) : ∀ (es : List Edge) (s : Nat), (es.foldl (fun s e => bif Region.binds .any e then s ||| (2 ^ e.on ||| acc.getD e.on 0) else s) s).testBit j = true →
    s.testBit j = true ∨ ∃ e ∈ es, Region.binds .any e = true ∧ (e.on = j ∨ (acc.getD e.on 0).testBit j = true)
  | [], s, h => .inl h
  | e :: es, s, h => by
    simp only [List.foldl_cons] at h
    rcases fold_bit acc j es _ h with h1 | ⟨e', he, h1⟩
    · cases hb : Region.binds .any e with
      | false => rw [hb] at h1; exact .inl h1
      | true =>
        rw [hb] at h1
        simp only [cond_true, Nat.testBit_or, Bool.or_eq_true, Nat.testBit_two_pow, decide_eq_true_eq] at h1
        rcases h1 with h1 | h1 | h1
        · exact .inl h1
        · exact .inr ⟨e, by simp, hb, .inl h1⟩
        · exact .inr ⟨e, by simp, hb, .inr h1⟩
    · exact .inr ⟨e', by simp [he], h1⟩
theorem masks_get : ∀ (l : List Oper) (acc : List Nat) (pre : List Oper), acc.length = pre.length →
    (∀ i o, pre[i]? = some o → ∀ j, (acc.getD i 0).testBit j = true → ∃ e ∈ o.after.toList, Region.binds .any e = true ∧ (e.on = j ∨ (e.on < i ∧ (acc.getD e.on 0).testBit j = true))) →
    ∀ i o, (pre ++ l)[i]? = some o → ∀ j, ((masks l acc).getD i 0).testBit j = true → ∃ e ∈ o.after.toList, Region.binds .any e = true ∧ (e.on = j ∨ (e.on < i ∧ ((masks l acc).getD e.on 0).testBit j = true))
  | [], acc, pre, _, h => by simpa [masks] using h
  | q :: l, acc, pre, hl, h => by
    simp only [masks]
    have := masks_get l (acc ++ [q.after.toList.foldl (fun s e => bif Region.binds .any e then s ||| (2 ^ e.on ||| acc.getD e.on 0) else s) 0]) (pre ++ [q]) (by simp [hl]) ?_
    · simpa using this
    · intro i o hi j hj
      rcases Nat.lt_trichotomy i pre.length with g | g | g
      · rw [List.getElem?_append_left g] at hi
        have e1 : (acc ++ [q.after.toList.foldl (fun s e => bif Region.binds .any e then s ||| (2 ^ e.on ||| acc.getD e.on 0) else s) 0]).getD i 0 = acc.getD i 0 := by
          simp only [List.getD_eq_getElem?_getD]; rw [List.getElem?_append_left (by omega)]
        rw [e1] at hj
        obtain ⟨e, he, hb, hr⟩ := h i o hi j hj
        refine ⟨e, he, hb, hr.imp id fun ⟨x, y⟩ => ⟨x, ?_⟩⟩
        simp only [List.getD_eq_getElem?_getD] at y ⊢; rw [List.getElem?_append_left (by omega)]; exact y
      · subst g
        simp at hi; subst hi
        have e1 : (acc ++ [q.after.toList.foldl (fun s e => bif Region.binds .any e then s ||| (2 ^ e.on ||| acc.getD e.on 0) else s) 0]).getD pre.length 0 = q.after.toList.foldl (fun s e => bif Region.binds .any e then s ||| (2 ^ e.on ||| acc.getD e.on 0) else s) 0 := by
          simp only [List.getD_eq_getElem?_getD]; rw [← hl, List.getElem?_append_right (Nat.le_refl _)]; simp
        rw [e1] at hj
        rcases fold_bit acc j _ _ hj with h1 | ⟨e, he, hb, hr⟩
        · simp at h1
        · refine ⟨e, he, hb, hr.imp id fun y => ?_⟩
          have hlt : e.on < acc.length := by
            rcases Nat.lt_or_ge e.on acc.length with q1 | q1
            · exact q1
            · simp [List.getD_eq_getElem?_getD, List.getElem?_eq_none q1] at y
          refine ⟨by omega, ?_⟩
          simp only [List.getD_eq_getElem?_getD] at y ⊢; rw [List.getElem?_append_left hlt]; exact y
      · rw [List.getElem?_eq_none (by simp; omega)] at hi; cases hi
/-- a set that is closed under what stands before -/
theorem anc_in {l : List Oper} {S : Nat → Prop} (hc : ∀ i o, l[i]? = some o → S i → ∀ e ∈ o.after.toList, Region.binds .any e = true → S e.on) :
    ∀ i o j, l[i]? = some o → S i → anc (masks l []) j i = true → S j := by
  intro i
  induction i using Nat.strongRecOn with
  | _ i ih =>
    intro o j hi hl ha
    obtain ⟨e, he, hb, hr⟩ := masks_get l [] [] rfl (by simp) i o (by simpa using hi) j ha
    have h1 := hc i o hi hl e he hb
    rcases hr with rfl | ⟨hlt, hr⟩
    · exact h1
    · have hin : e.on < l.length := by have := (List.getElem?_eq_some_iff.1 hi).1; omega
      exact ih e.on hlt l[e.on] j (List.getElem?_eq_getElem hin) h1 hr
theorem anc_ready {l : List Oper} {S : Nat → Prop} (hc : ∀ i o, l[i]? = some o → S i → ∀ e ∈ o.after.toList, Region.binds .any e = true → S e.on)
    {i j : Nat} {o : Oper} (hi : l[i]? = some o) (hr : ∀ e ∈ o.after.toList, Region.binds .any e = true → S e.on) (ha : anc (masks l []) j i = true) : S j := by
  obtain ⟨e, he, hb, hq⟩ := masks_get l [] [] rfl (by simp) i o (by simpa using hi) j ha
  have h1 := hr e he hb
  rcases hq with rfl | ⟨hlt, hq⟩
  · exact h1
  · have hin : e.on < l.length := by have := (List.getElem?_eq_some_iff.1 hi).1; omega
    exact anc_in hc e.on l[e.on] j (List.getElem?_eq_getElem hin) h1 hq
/-- the slot that an operation's guard looks at, and whether it is wanted -/
def gTmp (l : List Oper) (o : Oper) : Option Nat := match o.guard with | some (j, _) => (l[j]?).bind (·.dst) | none => none
def guardL (l : List Oper) (L : Env) (o : Oper) : Option Bool := match o.guard with
  | none => some true
  | some (j, want) => match (l[j]?).bind (·.dst) with
    | some t => match eget L t with
      | some (.bool b) => some (b == want)
      | some (.tuple _) => some false
      | _ => none
    | none => none
theorem guard_yes {l : List Oper} {L : Env} {d : Option Nat} {op : Op} {ty : TypeId} {pos : String} {aft : Array Edge} {j t : Nat} {want g : Bool} (hj : (l[j]?).bind (·.dst) = some t) (ht : eget L t = some (.bool g)) (hg : g = want) : guardL l L ⟨d, op, ty, pos, aft, some (j, want)⟩ = some true := by
  subst hg; simp [guardL, hj, ht]
theorem guard_no {l : List Oper} {L : Env} {d : Option Nat} {op : Op} {ty : TypeId} {pos : String} {aft : Array Edge} {j t : Nat} {want g : Bool} (hj : (l[j]?).bind (·.dst) = some t) (ht : eget L t = some (.bool g)) (hg : g = !want) : guardL l L ⟨d, op, ty, pos, aft, some (j, want)⟩ = some false := by
  subst hg; cases want <;> simp [guardL, hj, ht]
/-- the operation gives v, or is not wanted -/
def Ev' (P : Program) (l : List Oper) (L : Env) (w : World) (o : Oper) (v : Value) : Prop := (guardL l L o = some true ∧ Ev P L w o v) ∨ (guardL l L o = some false ∧ v = undef)
structure Fl where
  i : Nat
  o : Oper
  L : Env
  v : Value
/-- what may be done behind operation i gives then what it gave -/
inductive Again (P : Program) (l : List Oper) (M : List Nat) (i : Nat) (w : World) : List Fl → Prop
  | nil : Again P l M i w []
  | skip {f : Fl} {fs : List Fl} (h : anc M f.i i = true) (r : Again P l M i w fs) : Again P l M i w (f :: fs)
  | cons {f : Fl} {fs : List Fl} (h : Ev' P l f.L w f.o f.v) (r : Again P l M i w fs) : Again P l M i w (f :: fs)
theorem Again.get {P : Program} {l : List Oper} {M : List Nat} {i : Nat} {w : World} {fs : List Fl} (h : Again P l M i w fs) : ∀ f ∈ fs, anc M f.i i = true ∨ Ev' P l f.L w f.o f.v := by
  induction h with
  | nil => simp
  | skip h _ ih => intro f hf; rcases List.mem_cons.1 hf with rfl | hf; exact .inl h; exact ih f hf
  | cons h _ ih => intro f hf; rcases List.mem_cons.1 hf with rfl | hf; exact .inr h; exact ih f hf
def OpEv (L : Env) (o : Oper) (a : Act) : Prop := ∀ x ∈ o.op.operands, ∀ u, look L x = some u → a.eval x = u
/-- one operation that changes things -/
def Spine (P : Program) (o : Oper) (L : Env) (w : World) (R : Value → World → Prop) : Prop := ∀ a, OpEv L o a → o.wp P a w (fun a' w2 => ∃ v, a' = a.put o.dst v ∧ R v w2) (fun _ _ _ => False)
def isSp (sp : List Nat) (i : Nat) : Bool := sp.contains i
inductive VC (P : Program) (n : Nat) (l : List Oper) (M : List Nat) (sp : List Nat) (Q : Exit → Act → World → Prop) : List Nat → Env → World → List Fl → Prop
  | nil {L : Env} {w : World} {pf : List Fl} (h : qs n Q .normal L w) : VC P n l M sp Q [] L w pf
  | pure {i : Nat} {ord : List Nat} {L : Env} {w : World} {pf : List Fl} {o : Oper} {v : Value} (ho : l[i]? = some o) (hs : isSp sp i = false) (h : ∀ w, Ev' P l L w o v) (r : VC P n l M sp Q ord (pd o.dst v L) w pf) : VC P n l M sp Q (i :: ord) L w pf
  | quiet {i : Nat} {ord : List Nat} {L : Env} {w : World} {pf : List Fl} {o : Oper} {v : Value} (ho : l[i]? = some o) (hs : isSp sp i = false) (h : Ev' P l L w o v) (r : VC P n l M sp Q ord (pd o.dst v L) w (⟨i, o, L, v⟩ :: pf)) : VC P n l M sp Q (i :: ord) L w pf
  | spine {i : Nat} {ord : List Nat} {L : Env} {w : World} {pf : List Fl} {o : Oper} {R : Value → World → Prop} (ho : l[i]? = some o) (hs : isSp sp i = true) (hg : guardL l L o = some true) (h : (∃ a, Fr n L a) → Spine P o L w R) (ha : ∀ v w2, R v w2 → Again P l M i w2 pf) (r : ∀ v w2, R v w2 → VC P n l M sp Q ord (pd o.dst v L) w2 pf) : VC P n l M sp Q (i :: ord) L w pf
  | spineNot {i : Nat} {ord : List Nat} {L : Env} {w : World} {pf : List Fl} {o : Oper} (ho : l[i]? = some o) (hs : isSp sp i = true) (hg : guardL l L o = some false) (r : VC P n l M sp Q ord (pd o.dst undef L) w pf) : VC P n l M sp Q (i :: ord) L w pf
structure Rc where
  i : Nat
  o : Oper
  v : Value
def envOf (L0 : Env) : List Rc → Env
  | [] => L0
  | r :: D => pd r.o.dst r.v (envOf L0 D)
def tmpsOf (l : List Oper) (o : Oper) : List Nat := (gTmp l o).toList ++ o.op.operands.toList.filterMap fun | .tmp t => some t | _ => none
def okOp (l : List Oper) (M : List Nat) (n : Nat) (i : Nat) : Bool := match l[i]? with
  | some o => (match o.op with | .select .. => false | _ => true) && (match o.dst with | some d => Nat.blt d n | none => true) &&
      (List.range l.length).all (fun m => Nat.beq m i || (match l[m]? with | some q => (match q.dst with | some t => !(tmpsOf l o).contains t || anc M m i || anc M i m | none => true) | none => true))
  | none => false
/-- the last of the spine stands before each that follows -/
def asap (M : List Nat) (sp : List Nat) : Option Nat → List Nat → Bool
  | _, [] => true
  | last, i :: ord => (match last with | some s => anc M s i | none => true) && asap M sp (bif isSp sp i then some i else last) ord
def topo (l : List Oper) : List Nat → List Nat → Bool
  | _, [] => true
  | pre, i :: ord => (match l[i]? with | some o => o.after.toList.all (fun e => !Region.binds .any e || pre.contains e.on) | none => false) && topo l (i :: pre) ord
def drawOk (l : List Oper) (n : Nat) (ord sp : List Nat) : Bool :=
  let M := masks l []
  (List.range l.length).all (fun i => ord.contains i) && ord.all (fun i => Nat.blt i l.length) && decide (ord.Nodup) && decide ((l.filterMap (·.dst)).Nodup) && (List.range l.length).all (okOp l M n) && asap M sp none ord && topo l [] ord
theorem topo_spec {l : List Oper} : ∀ (ord pre : List Nat), topo l pre ord = true → ∀ p i q, ord = p ++ i :: q → ∀ o, l[i]? = some o → ∀ e ∈ o.after.toList, Region.binds .any e = true → e.on ∈ pre ∨ e.on ∈ p
  | [], pre, h, p, i, q, he, _, _, _, _, _ => by simp at he
  | k :: ord, pre, h, p, i, q, he, o, ho, e, hee, hb => by
    simp only [topo, Bool.and_eq_true] at h
    obtain ⟨h1, h2⟩ := h
    cases p with
    | nil =>
      simp at he
      obtain ⟨rfl, rfl⟩ := he
      rw [ho] at h1
      have := List.all_eq_true.1 h1 e hee
      simp [hb] at this
      exact .inl this
    | cons p0 p =>
      simp at he
      obtain ⟨rfl, rfl⟩ := he
      rcases topo_spec _ _ h2 p i q rfl o ho e hee hb with h3 | h3
      · rcases List.mem_cons.1 h3 with rfl | h3
        · exact .inr (by simp)
        · exact .inl h3
      · exact .inr (by simp [h3])
/-- all that comes before i stands before i in the order -/
theorem topo_anc {l : List Oper} {ord : List Nat} (h : topo l [] ord = true) {p q : List Nat} {i j : Nat} {o : Oper} (he : ord = p ++ i :: q) (ho : l[i]? = some o) (ha : anc (masks l []) j i = true) : j ∈ p := by
  refine anc_ready (S := fun x => x ∈ p) ?_ ho (fun e hee hb => ?_) ha
  · intro k ok hk hkp e hee hb
    obtain ⟨p1, p2, rfl⟩ := List.append_of_mem hkp
    rcases topo_spec ord [] h p1 k (p2 ++ i :: q) (by simp [he]) ok hk e hee hb with h1 | h1
    · cases h1
    · simp [h1]
  · rcases topo_spec ord [] h p i q he o ho e hee hb with h1 | h1
    · cases h1
    · exact h1
theorem envOf_get {L0 : Env} {t : Nat} : ∀ (D : List Rc), (D.filterMap (·.o.dst)).Nodup → (∀ r ∈ D, r.o.dst = some t → eget (envOf L0 D) t = some r.v) ∧ ((∀ r ∈ D, r.o.dst ≠ some t) → eget (envOf L0 D) t = eget L0 t)
  | [], _ => ⟨by simp, fun _ => rfl⟩
  | q :: D, hn => by
    cases hd : q.o.dst with
    | none =>
      rw [List.filterMap_cons_none (f := fun x : Rc => x.o.dst) hd] at hn
      have ih := envOf_get (L0 := L0) (t := t) D hn
      simp only [envOf, hd, pd]
      refine ⟨fun r hr ht => ?_, fun h => ih.2 fun r hr => h r (by simp [hr])⟩
      rcases List.mem_cons.1 hr with rfl | hr
      · rw [hd] at ht; cases ht
      · exact ih.1 r hr ht
    | some d =>
      rw [List.filterMap_cons_some (f := fun x : Rc => x.o.dst) hd] at hn
      obtain ⟨hn1, hn2⟩ := List.nodup_cons.1 hn
      have ih := envOf_get (L0 := L0) (t := t) D hn2
      simp only [envOf, hd, pd, eget]
      refine ⟨fun r hr ht => ?_, fun h => ?_⟩
      · rcases List.mem_cons.1 hr with rfl | hr
        · rw [hd] at ht; cases ht; rw [Nat.beq_refl]; rfl
        · have : d ≠ t := fun e => by subst e; exact hn1 (List.mem_filterMap.2 ⟨r, hr, ht⟩)
          have hb : Nat.beq d t = false := by cases hq : Nat.beq d t with | false => rfl | true => exact absurd (Nat.eq_of_beq_eq_true hq) this
          rw [hb]; exact ih.1 r hr ht
      · have : d ≠ t := fun e => by subst e; exact h q (by simp) hd
        have hb : Nat.beq d t = false := by cases hq : Nat.beq d t with | false => rfl | true => exact absurd (Nat.eq_of_beq_eq_true hq) this
        rw [hb]; exact ih.2 fun r hr => h r (by simp [hr])
theorem Ev.at {P : Program} {L : Env} {w : World} {o : Oper} {v : Value} {a : Act} (h : Ev P L w o v) (hs : ∀ cs b, o.op ≠ .select cs b) (ho : OpEv L o a) : (execOp a.eval o).run P w = .ok (.value v) w := by
  rw [execOp_congr o hs (ρ' := fun x => (look L x).getD (a.eval x)) (fun x hx => by
    cases hl : look L x with
    | none => rfl
    | some u => exact ho x hx u hl)]
  exact h _ fun x u hx => by simp [hx]
section
variable {P : Program} {n : Nat} {l : List Oper} {sp : List Nat} {Q : Exit → Act → World → Prop}
/-- where a region stands -/
structure Inv (P : Program) (n : Nat) (l : List Oper) (sp ord : List Nat) (Q : Exit → Act → World → Prop) (a0 : Act) (L0 : Env) (listed : Array Bool) (a : Act) (w : World) (D : List Rc) (suf : List Nat) (pf : List Fl) (hd : Bool) : Prop where
  size : listed.size = l.length
  closed : ∀ i o, l[i]? = some o → listed.getD i false = true → ∀ e ∈ o.after.toList, Region.binds .any e = true → listed.getD e.on false = true
  order : ord = (D.map (·.i)).reverse ++ suf
  vc : VC P n l (masks l []) sp Q suf (envOf L0 D) w pf
  head : hd = true → suf = [] ∨ ∃ s q, suf = s :: q ∧ isSp sp s = true
  inD : ∀ i, listed.getD i false = true → i ∈ D.map (·.i)
  spD : ∀ r ∈ D, isSp sp r.i = true → listed.getD r.i false = true
  old : ∀ t, (∀ r ∈ D, listed.getD r.i false = true → r.o.dst ≠ some t) → a.tmps[t]? = a0.tmps[t]?
  val : ∀ r ∈ D, listed.getD r.i false = true → ∀ t, r.o.dst = some t → a.tmps[t]? = some r.v
  quiet : ∀ D1 r D2, D = D1 ++ r :: D2 → listed.getD r.i false = false → Ev' P l (envOf L0 D2) w r.o r.v
  again : ∀ D1 r D2, D = D1 ++ r :: D2 → isSp sp r.i = false → (∀ w, Ev' P l (envOf L0 D2) w r.o r.v) ∨ (⟨r.i, r.o, envOf L0 D2, r.v⟩ : Fl) ∈ pf
  ops : ∀ r ∈ D, l[r.i]? = some r.o
  tsize : a.tmps.size = n
  defers : a.defers = []
structure Stat (l : List Oper) (n : Nat) (ord sp : List Nat) : Prop where
  all : ∀ i, i < l.length → i ∈ ord
  lt : ∀ i ∈ ord, i < l.length
  nodup : ord.Nodup
  dst : (l.filterMap (·.dst)).Nodup
  okOp : ∀ i, i < l.length → okOp l (masks l []) n i = true
  asap : asap (masks l []) sp none ord = true
  topo : topo l [] ord = true
theorem drawOk_spec {ord : List Nat} (h : drawOk l n ord sp = true) : Stat l n ord sp := by
  simp only [drawOk, Bool.and_eq_true, decide_eq_true_eq, List.all_eq_true, List.mem_range, List.contains_iff_mem] at h
  obtain ⟨⟨⟨⟨⟨⟨h1, h2⟩, h3⟩, h4⟩, h5⟩, h6⟩, h7⟩ := h
  exact ⟨h1, fun i hi => by have := h2 i hi; simpa [Nat.blt_eq] using this, h3, h4, h5, h6, h7⟩
theorem okOp_spec {i : Nat} {o : Oper} (h : okOp l (masks l []) n i = true) (ho : l[i]? = some o) : (∀ cs b, o.op ≠ .select cs b) ∧ (match o.dst with | some d => Nat.blt d n | none => true) = true ∧ True ∧
    ∀ m q t, l[m]? = some q → q.dst = some t → t ∈ tmpsOf l o → m = i ∨ anc (masks l []) m i = true ∨ anc (masks l []) i m = true := by
  unfold okOp at h
  rw [ho] at h
  simp only [Bool.and_eq_true, List.all_eq_true, List.mem_range, Bool.or_eq_true] at h
  obtain ⟨⟨h2, h3⟩, h5⟩ := h
  refine ⟨(fun cs b e => by rw [e] at h2; cases h2), h3, trivial, fun m q t hm hq ht => ?_⟩
  · have hlt := (List.getElem?_eq_some_iff.1 hm).1
    have := h5 m hlt
    rcases this with h | h
    · exact .inl (Nat.eq_of_beq_eq_true h)
    · rw [hm] at h
      simp only [hq] at h
      have hc : (tmpsOf l o).contains t = true := by simpa using ht
      rw [hc] at h
      simp at h
      exact .inr h
/-- destinations of different operations differ -/
theorem dst_one : ∀ {l : List Oper}, (l.filterMap (·.dst)).Nodup → ∀ {i j : Nat} {x y : Oper} {t : Nat}, l[i]? = some x → l[j]? = some y → x.dst = some t → y.dst = some t → i = j
  | [], _, i, _, _, _, _, hi, _, _, _ => by simp at hi
  | z :: zs, hd, i, j, x, y, t, hi, hj, hx, hy => by
    cases hz : z.dst with
    | none =>
      rw [List.filterMap_cons_none hz] at hd
      cases i with
      | zero => simp at hi; subst hi; rw [hz] at hx; cases hx
      | succ i =>
        cases j with
        | zero => simp at hj; subst hj; rw [hz] at hy; cases hy
        | succ j => simp at hi hj; exact congrArg (· + 1) (dst_one hd hi hj hx hy)
    | some d =>
      rw [List.filterMap_cons_some hz] at hd
      obtain ⟨hd1, hd2⟩ := List.nodup_cons.1 hd
      cases i with
      | zero =>
        simp at hi; subst hi
        cases j with
        | zero => rfl
        | succ j =>
          simp at hj
          rw [hz] at hx; cases hx
          exact absurd (List.mem_filterMap.2 ⟨y, List.mem_of_getElem? hj, hy⟩) hd1
      | succ i =>
        simp at hi
        cases j with
        | zero =>
          simp at hj; subst hj
          rw [hz] at hy; cases hy
          exact absurd (List.mem_filterMap.2 ⟨x, List.mem_of_getElem? hi, hx⟩) hd1
        | succ j => simp at hj; exact congrArg (· + 1) (dst_one hd2 hi hj hx hy)
/-- what the operands of an operation that is ready are worth -/
theorem opEv_ready {ord : List Nat} {a0 : Act} {L0 : Env} {listed : Array Bool} {a : Act} {w : World} {D : List Rc} {suf : List Nat} {pf : List Fl} {hd : Bool} (st : Stat l n ord sp) (inv : Inv P n l sp ord Q a0 L0 listed a w D suf pf hd) (hf0 : Fr n L0 a0)
    {i : Nat} {o : Oper} (ho : l[i]? = some o) (hun : listed.getD i false = false) (hr : ∀ e ∈ o.after.toList, Region.binds .any e = true → listed.getD e.on false = true)
    {D1 D2 : List Rc} (hD : D = D1 ++ D2) {q : List Nat} (hp : ord = (D2.map (·.i)).reverse ++ i :: q) : OpEv (envOf L0 D2) o a ∧ ∀ t, gTmp l o = some t → ∀ u, eget (envOf L0 D2) t = some u → a.tmps[t]? = some u := by
  have hil := (List.getElem?_eq_some_iff.1 ho).1
  have hnd2 : (D2.filterMap (·.o.dst)).Nodup := by
    have hsub : ∀ r ∈ D2, l[r.i]? = some r.o := fun r hr => inv.ops r (by rw [hD]; simp [hr])
    have hn2 : (D2.map (·.i)).Nodup := by
      have := st.nodup; rw [hp] at this
      have := (List.nodup_append.1 this).1
      exact (List.reverse_perm _).nodup_iff.1 this
    clear hp hD hr inv
    induction D2 with
    | nil => simp
    | cons r D2 ih =>
      obtain ⟨hn3, hn4⟩ := List.nodup_cons.1 hn2
      have ih' := ih (fun r hr => hsub r (by simp [hr])) hn4
      cases hd : r.o.dst with
      | none => rw [List.filterMap_cons_none (f := fun x : Rc => x.o.dst) hd]; exact ih'
      | some d =>
        rw [List.filterMap_cons_some (f := fun x : Rc => x.o.dst) hd]
        refine List.nodup_cons.2 ⟨fun hm => ?_, ih'⟩
        obtain ⟨r2, hr2, hd2⟩ := List.mem_filterMap.1 hm
        have := dst_one st.dst (hsub r (by simp)) (hsub r2 (by simp [hr2])) hd hd2
        exact hn3 (List.mem_map.2 ⟨r2, hr2, this.symm⟩)
  have main : ∀ t, t ∈ tmpsOf l o → ∀ u, eget (envOf L0 D2) t = some u → a.tmps[t]? = some u := by
    intro t ht u hl'
    obtain ⟨_, _, _, hop⟩ := okOp_spec (st.okOp i hil) ho
    by_cases hex : ∃ r ∈ D2, r.o.dst = some t
    · obtain ⟨r, hr2, hrt⟩ := hex
      have hrD : r ∈ D := by rw [hD]; simp [hr2]
      have hne : r.i ≠ i := fun e => by
        have := st.nodup; rw [hp] at this
        have := (List.nodup_append.1 this).2.2 r.i (by simp; exact ⟨r, hr2, rfl⟩) i (by simp)
        exact this e
      have hrv : u = r.v := by have := (envOf_get (L0 := L0) D2 hnd2).1 r hr2 hrt; rw [hl'] at this; exact Option.some.inj this
      subst hrv
      rcases hop r.i r.o t (inv.ops r hrD) hrt ht with e | e | e
      · exact absurd e hne
      · exact inv.val r hrD (anc_ready inv.closed ho hr e) t hrt
      · exfalso
        obtain ⟨p1, p2, hpp⟩ := List.append_of_mem (show r.i ∈ (D2.map (·.i)).reverse by simp; exact ⟨r, hr2, rfl⟩)
        have h1 := topo_anc st.topo (p := p1) (q := p2 ++ i :: q) (i := r.i) (by rw [hp, hpp]; simp) (inv.ops r hrD) e
        have := st.nodup; rw [hp] at this
        have := (List.nodup_append.1 this).2.2 i (by rw [hpp]; simp [h1]) i (by simp)
        exact this rfl
    · have hno : ∀ r ∈ D2, r.o.dst ≠ some t := fun r hr2 e => hex ⟨r, hr2, e⟩
      have h0 := (envOf_get (L0 := L0) D2 hnd2).2 hno
      rw [hl'] at h0
      have h1 : a0.tmps[t]? = some u := hf0.get t u h0.symm
      rw [← h1]
      refine inv.old t fun r hrD hrl hrt => ?_
      rcases hop r.i r.o t (inv.ops r hrD) hrt ht with e | e | e
      · rw [e, hun] at hrl; cases hrl
      · have h2 := topo_anc st.topo hp ho e
        simp at h2
        obtain ⟨r2, hr2, he⟩ := h2
        have : r2.o = r.o := by have h3 := inv.ops r2 (by rw [hD]; simp [hr2]); rw [he, inv.ops r hrD] at h3; exact (Option.some.inj h3).symm
        exact hno r2 hr2 (by rw [this]; exact hrt)
      · have := anc_in inv.closed r.i r.o i (inv.ops r hrD) hrl e
        rw [hun] at this; cases this
  refine ⟨fun x hx u hl => ?_, fun t ht u hu => main t (by simp [tmpsOf, ht]) u hu⟩
  cases x with
  | const c => simpa [look, Act.eval] using hl
  | global g => simpa [look, Act.eval] using hl
  | func f => simpa [look, Act.eval] using hl
  | tmp t => have := main t (by unfold tmpsOf; exact List.mem_append.2 (.inr (List.mem_filterMap.2 ⟨.tmp t, by simpa using hx, rfl⟩))) u hl; simp [Act.eval, this]
theorem Inv.fresh {ord : List Nat} {a0 : Act} {L0 : Env} {listed : Array Bool} {a : Act} {w : World} {D : List Rc} {i : Nat} {suf : List Nat} {pf : List Fl} {hd : Bool} (st : Stat l n ord sp) (inv : Inv P n l sp ord Q a0 L0 listed a w D (i :: suf) pf hd) : listed.getD i false = false := by
  cases hq : listed.getD i false with
  | false => rfl
  | true =>
    have h1 := inv.inD i hq
    have := st.nodup; rw [inv.order] at this
    exact absurd rfl ((List.nodup_append.1 this).2.2 i (by simp at h1 ⊢; exact h1) i (by simp))
theorem Inv.push {ord : List Nat} {a0 : Act} {L0 : Env} {listed : Array Bool} {a : Act} {w : World} {D : List Rc} {i : Nat} {suf : List Nat} {pf pf' : List Fl} {hd : Bool} (st : Stat l n ord sp) (inv : Inv P n l sp ord Q a0 L0 listed a w D (i :: suf) pf hd) {o : Oper} {v : Value} (ho : l[i]? = some o) (hs : isSp sp i = false) (h : Ev' P l (envOf L0 D) w o v)
    (hag : (∀ w, Ev' P l (envOf L0 D) w o v) ∨ (⟨i, o, envOf L0 D, v⟩ : Fl) ∈ pf') (hpf : ∀ f ∈ pf, f ∈ pf') (hvc : VC P n l (masks l []) sp Q suf (pd o.dst v (envOf L0 D)) w pf') : Inv P n l sp ord Q a0 L0 listed a w (⟨i, o, v⟩ :: D) suf pf' false := by
  have hun := inv.fresh st
  refine { size := inv.size, closed := inv.closed, order := by rw [inv.order]; simp, vc := hvc, head := (by intro h; cases h), inD := fun j hj => by simp; exact .inr (by simpa using inv.inD j hj), spD := ?_, old := ?_, val := ?_, quiet := ?_, again := ?_, ops := ?_, tsize := inv.tsize, defers := inv.defers }
  · intro r hr hr2
    rcases List.mem_cons.1 hr with rfl | hr
    · rw [hs] at hr2; cases hr2
    · exact inv.spD r hr hr2
  · intro t ht
    exact inv.old t fun r hr => ht r (by simp [hr])
  · intro r hr hl
    rcases List.mem_cons.1 hr with rfl | hr
    · rw [hun] at hl; cases hl
    · exact inv.val r hr hl
  · intro D1 r D2 e hl
    cases D1 with
    | nil => simp at e; obtain ⟨rfl, rfl⟩ := e; exact h
    | cons x D1 => simp at e; exact inv.quiet D1 r D2 e.2 hl
  · intro D1 r D2 e hl
    cases D1 with
    | nil => simp at e; obtain ⟨rfl, rfl⟩ := e; exact hag
    | cons x D1 =>
      simp at e
      exact (inv.again D1 r D2 e.2 hl).imp id (hpf _)
  · intro r hr
    rcases List.mem_cons.1 hr with rfl | hr
    · exact ho
    · exact inv.ops r hr
theorem Inv.advance {ord : List Nat} {a0 : Act} {L0 : Env} {listed : Array Bool} {a : Act} {w : World} (st : Stat l n ord sp) : ∀ (suf : List Nat) (D : List Rc) (pf : List Fl), Inv P n l sp ord Q a0 L0 listed a w D suf pf false → ∃ D' suf' pf', Inv P n l sp ord Q a0 L0 listed a w D' suf' pf' true
  | [], D, pf, inv => ⟨D, [], pf, { inv with head := fun _ => .inl rfl }⟩
  | i :: suf, D, pf, inv => by
    have hvc := inv.vc
    cases hvc with
    | pure ho hs h r => exact Inv.advance st suf _ pf (inv.push st ho hs (h w) (.inl h) (fun _ hf => hf) r)
    | quiet ho hs h r => exact Inv.advance st suf _ _ (inv.push st ho hs h (.inr (by simp)) (fun _ hf => by simp [hf]) r)
    | spine ho hs hg h ha r => exact ⟨D, i :: suf, pf, { inv with head := fun _ => .inr ⟨i, suf, rfl, hs⟩ }⟩
    | spineNot ho hs hg r => exact ⟨D, i :: suf, pf, { inv with head := fun _ => .inr ⟨i, suf, rfl, hs⟩ }⟩
theorem getD_set_same {listed : Array Bool} {i : Nat} (h : i < listed.size) : (listed.setIfInBounds i true).getD i false = true := by simp [h]
theorem getD_set_other {listed : Array Bool} {i k : Nat} (h : k ≠ i) : (listed.setIfInBounds i true).getD k false = listed.getD k false := by
  simp only [Array.getD_eq_getD_getElem?]
  rw [Array.getElem?_setIfInBounds_ne (fun e => h e.symm)]
def todoN (listed : Array Bool) (n : Nat) : Nat := ((List.range n).filter fun i => !listed.getD i false).length
theorem todoN_set {listed : Array Bool} {n i : Nat} (hin : i < n) (hil : i < listed.size) (hun : listed.getD i false = false) : todoN (listed.setIfInBounds i true) n + 1 = todoN listed n := by
  unfold todoN
  induction n with
  | zero => omega
  | succ n ih =>
    rw [List.range_succ, List.filter_append, List.filter_append, List.length_append, List.length_append]
    by_cases hi : i = n
    · subst hi
      have e1 : (List.range i).filter (fun j => !(listed.setIfInBounds i true).getD j false) = (List.range i).filter (fun j => !listed.getD j false) := by
        apply List.filter_congr
        intro j hj
        have hji := List.mem_range.1 hj
        rw [getD_set_other (by omega)]
      rw [e1]
      simp only [List.filter_cons, getD_set_same hil, hun, List.filter_nil]
      rfl
    · have := ih (by omega)
      simp only [List.filter_cons, getD_set_other (Ne.symm hi), List.filter_nil] at this ⊢
      omega
theorem act_put_tmps (a : Act) (d : Option Nat) (v : Value) (t : Nat) : (a.put d v).tmps[t]? = if d = some t ∧ t < a.tmps.size then some v else a.tmps[t]? := by
  cases d with
  | none => simp [Act.put]
  | some d =>
    simp only [Act.put, Array.getElem?_setIfInBounds]
    by_cases e : d = t
    · subst e
      by_cases h : d < a.tmps.size
      · simp [h]
      · simp [h, Array.getElem?_eq_none (Nat.le_of_not_lt h)]
    · simp [e]
/-- an operation is done: it is listed, and its slot filled -/
theorem Inv.list {ord : List Nat} {a0 : Act} {L0 : Env} {listed : Array Bool} {a : Act} {w w2 : World} {D D' : List Rc} {suf suf' : List Nat} {pf : List Fl} {hd : Bool} (st : Stat l n ord sp) (inv : Inv P n l sp ord Q a0 L0 listed a w D suf pf hd)
    {i : Nat} {o : Oper} {v : Value} (ho : l[i]? = some o) (hun : listed.getD i false = false) (hr : ∀ e ∈ o.after.toList, Region.binds .any e = true → listed.getD e.on false = true) (hrc : ∀ r ∈ D', r.i = i → r.v = v) (hmem : ∃ r ∈ D', r.i = i) (hsub : ∀ r ∈ D, r ∈ D') (hsup : ∀ r ∈ D', r ∈ D ∨ r.i = i) (hops : ∀ r ∈ D', l[r.i]? = some r.o)
    (horder : ord = (D'.map (·.i)).reverse ++ suf') (hvc : VC P n l (masks l []) sp Q suf' (envOf L0 D') w2 pf) (hq : ∀ D1 r D2, D' = D1 ++ r :: D2 → listed.getD r.i false = false → r.i ≠ i → Ev' P l (envOf L0 D2) w2 r.o r.v)
    (hag : ∀ D1 r D2, D' = D1 ++ r :: D2 → isSp sp r.i = false → (∀ w, Ev' P l (envOf L0 D2) w r.o r.v) ∨ (⟨r.i, r.o, envOf L0 D2, r.v⟩ : Fl) ∈ pf) {hd' : Bool} (hhead : hd' = true → suf' = [] ∨ ∃ s q, suf' = s :: q ∧ isSp sp s = true) :
    Inv P n l sp ord Q a0 L0 (listed.setIfInBounds i true) (a.put o.dst v) w2 D' suf' pf hd' := by
  have hil : i < l.length := (List.getElem?_eq_some_iff.1 ho).1
  have hil' : i < listed.size := by rw [inv.size]; exact hil
  have hmono : ∀ k, listed.getD k false = true → (listed.setIfInBounds i true).getD k false = true := fun k hk => by
    by_cases e : k = i
    · subst e; exact getD_set_same hil'
    · rw [getD_set_other e]; exact hk
  have hinv : ∀ k, (listed.setIfInBounds i true).getD k false = true → k = i ∨ listed.getD k false = true := fun k hk => by
    by_cases e : k = i
    · exact .inl e
    · rw [getD_set_other e] at hk; exact .inr hk
  have hdst : ∀ r ∈ D', r.i = i → r.o = o := fun r hr e => by have := hops r hr; rw [e, ho] at this; exact (Option.some.inj this).symm
  have hbd := (okOp_spec (st.okOp i hil) ho).2.1
  refine { size := by simpa using inv.size, closed := ?_, order := horder, vc := hvc, head := hhead, inD := ?_, spD := ?_, old := ?_, val := ?_, quiet := ?_, again := hag, ops := hops, tsize := ?_, defers := ?_ }
  · intro k q hk hkl e he hb
    rcases hinv k hkl with rfl | hkl
    · rw [ho] at hk; cases hk
      exact hmono _ (hr e he hb)
    · exact hmono _ (inv.closed k q hk hkl e he hb)
  · intro k hk
    rcases hinv k hk with rfl | hk
    · obtain ⟨r, hr, e⟩ := hmem; exact List.mem_map.2 ⟨r, hr, e⟩
    · obtain ⟨r, hr, e⟩ := List.mem_map.1 (inv.inD k hk)
      exact List.mem_map.2 ⟨r, hsub r hr, e⟩
  · intro r hr hs
    rcases hsup r hr with h | h
    · exact hmono _ (inv.spD r h hs)
    · rw [h]; exact getD_set_same hil'
  · intro t ht
    rw [act_put_tmps]
    obtain ⟨r0, hr0, e0⟩ := hmem
    have hne : o.dst ≠ some t := by
      have := ht r0 hr0 (by rw [e0]; exact getD_set_same hil')
      rwa [hdst r0 hr0 e0] at this
    rw [if_neg (fun h => hne h.1)]
    exact inv.old t fun r hr hl => ht r (hsub r hr) (hmono _ hl)
  · intro r hr hl t ht
    rw [act_put_tmps]
    by_cases e : r.i = i
    · rw [hdst r hr e] at ht
      rw [ht] at hbd
      have : t < n := by simpa [Nat.blt_eq] using hbd
      rw [if_pos ⟨ht, by rw [inv.tsize]; exact this⟩, hrc r hr e]
    · have hrD : r ∈ D := (hsup r hr).resolve_right e
      have hl' : listed.getD r.i false = true := (hinv _ hl).resolve_left e
      have hne : o.dst ≠ some t := fun h => e (dst_one st.dst (hops r hr) ho ht h)
      rw [if_neg (fun h => hne h.1)]
      exact inv.val r hrD hl' t ht
  · intro D1 r D2 e hl
    by_cases hi : r.i = i
    · rw [hi, getD_set_same hil'] at hl; cases hl
    · rw [getD_set_other hi] at hl
      exact hq D1 r D2 e hl hi
  · cases hd : o.dst <;> simp [Act.put, inv.tsize]
  · cases hd : o.dst <;> simp [Act.put, inv.defers]
theorem asap_spec {M : List Nat} : ∀ (ord : List Nat) (last : Option Nat), asap M sp last ord = true → ∀ p i q, ord = p ++ i :: q → ∀ p1 s p2, p = p1 ++ s :: p2 → isSp sp s = true → (∀ x ∈ p2, isSp sp x = false) → anc M s i = true
  | [], _, _, p, i, q, he, _, _, _, _, _, _ => by simp at he
  | k :: ord, last, h, p, i, q, he, p1, s, p2, hp, hs, hno => by
    simp only [asap, Bool.and_eq_true] at h
    cases p with
    | nil => simp at hp
    | cons p0 p =>
      simp at he
      obtain ⟨rfl, rfl⟩ := he
      cases p1 with
      | nil =>
        simp at hp
        obtain ⟨rfl, rfl⟩ := hp
        have h2 := h.2
        rw [hs] at h2
        exact asap_last _ _ h2 p i q rfl hno
      | cons x p1 =>
        simp at hp
        exact asap_spec _ _ h.2 p i q rfl p1 s p2 hp.2 hs hno
where
  asap_last {M : List Nat} : ∀ (ord : List Nat) (s : Nat), asap M sp (some s) ord = true → ∀ p i q, ord = p ++ i :: q → (∀ x ∈ p, isSp sp x = false) → anc M s i = true
    | [], _, _, p, i, q, he, _ => by simp at he
    | k :: ord, s, h, p, i, q, he, hno => by
      simp only [asap, Bool.and_eq_true] at h
      cases p with
      | nil => simp at he; obtain ⟨rfl, rfl⟩ := he; exact h.1
      | cons p0 p =>
        simp at he
        obtain ⟨rfl, rfl⟩ := he
        have h2 := h.2
        rw [hno k (by simp)] at h2
        exact asap_last _ s h2 p i q rfl (fun x hx => hno x (by simp [hx]))
theorem last_sp : ∀ (q : List Nat) (s0 : Nat), isSp sp s0 = true → ∃ p1 s p2, s0 :: q = p1 ++ s :: p2 ∧ isSp sp s = true ∧ ∀ x ∈ p2, isSp sp x = false
  | [], s0, h => ⟨[], s0, [], rfl, h, by simp⟩
  | x :: q, s0, h => by
    cases hx : isSp sp x with
    | true => obtain ⟨p1, s, p2, e, h1, h2⟩ := last_sp q x hx; exact ⟨s0 :: p1, s, p2, by simp [e], h1, h2⟩
    | false =>
      obtain ⟨p1, s, p2, e, h1, h2⟩ := last_sp q s0 h
      cases p1 with
      | nil =>
        simp at e; obtain ⟨rfl, rfl⟩ := e
        exact ⟨[], s0, x :: q, rfl, h1, fun y hy => by rcases List.mem_cons.1 hy with rfl | hy; exact hx; exact h2 y hy⟩
      | cons y p1 =>
        simp at e
        obtain ⟨rfl, rfl⟩ := e
        exact ⟨s0 :: x :: p1, s, p2, rfl, h1, h2⟩
theorem Inv.fr {ord : List Nat} {a0 : Act} {L0 : Env} {listed : Array Bool} {a : Act} {w : World} {D : List Rc} {suf : List Nat} {pf : List Fl} {hd : Bool} (st : Stat l n ord sp) (inv : Inv P n l sp ord Q a0 L0 listed a w D suf pf hd) (hf0 : Fr n L0 a0) (hall : ∀ r ∈ D, listed.getD r.i false = true) : Fr n (envOf L0 D) a := by
  have hnd : (D.filterMap (·.o.dst)).Nodup := by
    have hn2 : (D.map (·.i)).Nodup := by
      have := st.nodup; rw [inv.order] at this
      exact (List.reverse_perm _).nodup_iff.1 (List.nodup_append.1 this).1
    have hsub := inv.ops
    clear inv hall
    induction D with
    | nil => simp
    | cons r D2 ih =>
      obtain ⟨hn3, hn4⟩ := List.nodup_cons.1 hn2
      have ih' := ih hn4 (fun r hr => hsub r (by simp [hr]))
      cases hd : r.o.dst with
      | none => rw [List.filterMap_cons_none (f := fun x : Rc => x.o.dst) hd]; exact ih'
      | some d =>
        rw [List.filterMap_cons_some (f := fun x : Rc => x.o.dst) hd]
        refine List.nodup_cons.2 ⟨fun hm => ?_, ih'⟩
        obtain ⟨r2, hr2, hd2⟩ := List.mem_filterMap.1 hm
        have := dst_one st.dst (hsub r (by simp)) (hsub r2 (by simp [hr2])) hd hd2
        exact hn3 (List.mem_map.2 ⟨r2, hr2, this.symm⟩)
  refine ⟨inv.tsize, inv.defers, fun t v ht => ?_⟩
  by_cases hex : ∃ r ∈ D, r.o.dst = some t
  · obtain ⟨r, hr, hrt⟩ := hex
    have := (envOf_get (L0 := L0) D hnd).1 r hr hrt
    rw [ht] at this
    rw [inv.val r hr (hall r hr) t hrt, Option.some.inj this]
  · have hno : ∀ r ∈ D, r.o.dst ≠ some t := fun r hr e => hex ⟨r, hr, e⟩
    have := (envOf_get (L0 := L0) D hnd).2 hno
    rw [ht] at this
    rw [inv.old t fun r hr _ => hno r hr]
    exact hf0.get t v this.symm
theorem wanted_of {L : Env} {o : Oper} {a : Act} {b : Bool} (hg : guardL l L o = some b) (h : ∀ t, gTmp l o = some t → ∀ u, eget L t = some u → a.tmps[t]? = some u) : Region.wanted o (yielded l.toArray a.tmps) = b := by
  unfold guardL at hg
  unfold gTmp at h
  cases hq : o.guard with
  | none => rw [hq] at hg; simp at hg; simp [Region.wanted, hq, hg]
  | some jw =>
    obtain ⟨j, want⟩ := jw
    rw [hq] at hg h
    simp only at hg h
    cases ht : (l[j]?).bind (·.dst) with
    | none => rw [ht] at hg; cases hg
    | some t =>
      rw [ht] at hg
      simp only at hg
      cases hv : eget L t with
      | none => rw [hv] at hg; cases hg
      | some u =>
        rw [hv] at hg
        have h1 := h t ht u hv
        have hy : yielded l.toArray a.tmps j = (match u with | .bool b => some b | _ => none) := by
          unfold yielded
          rw [List.getElem?_toArray, ht]
          simp only [Option.bind_some, h1]
          cases u <;> rfl
        cases u <;> simp at hg <;> simp [Region.wanted, hq, hy, ← hg]
theorem fr_env {L0 : Env} {a0 : Act} (hf0 : Fr n L0 a0) : ∀ (D : List Rc), (∀ r ∈ D, (match r.o.dst with | some d => Nat.blt d n | none => true) = true) → ∃ a, Fr n (envOf L0 D) a
  | [], _ => ⟨a0, hf0⟩
  | r :: D, h => by
    obtain ⟨a, ha⟩ := fr_env hf0 D (fun q hq => h q (by simp [hq]))
    exact ⟨a.put r.o.dst r.v, ha.put _ _ (h r (by simp))⟩
theorem vc_any {ord : List Nat} {a0 : Act} {L0 : Env} (st : Stat l n ord sp) (hf0 : Fr n L0 a0) : ∀ (f : Nat) (listed : Array Bool) (a : Act) (w : World) (D : List Rc) (suf : List Nat) (pf : List Fl),
    Inv P n l sp ord Q a0 L0 listed a w D suf pf true → todoN listed l.length = f → wpAny P .any l.toArray Q f listed a w
  | 0, listed, a, w, D, suf, pf, inv, hf => by
    have hall : ∀ i, i < l.length → listed.getD i false = true := by
      intro i hi
      cases hq : listed.getD i false with
      | true => rfl
      | false =>
        have h1 : i ∈ (List.range l.length).filter fun i => !listed.getD i false := by simp [List.mem_filter, hi]; simpa using hq
        have h0 : ((List.range l.length).filter fun i => !listed.getD i false) = [] := List.eq_nil_of_length_eq_zero hf
        rw [h0] at h1; cases h1
    have hsuf : suf = [] := by
      rcases inv.head rfl with h | ⟨s, q, h, _⟩
      · exact h
      · subst h
        have h1 := inv.fresh st
        have h2 : s < l.length := st.lt s (by rw [inv.order]; simp)
        rw [hall s h2] at h1; cases h1
    subst hsuf
    refine ⟨?_, ?_⟩
    · cases hr : Region.ready .any l.toArray listed with
      | nil => rfl
      | cons i rs =>
        have : i ∈ Region.ready .any l.toArray listed := by rw [hr]; simp
        obtain ⟨h1, o, ho, _⟩ := mem_ready.1 this
        have hil : i < l.length := by have := (Array.getElem?_eq_some_iff.1 ho).1; simpa using this
        have := getD_both h1
        rw [hall i hil] at this; cases this
    · have hvc := inv.vc
      cases hvc with
      | nil h =>
        unfold qs at h
        refine h a (inv.fr st hf0 fun r hr => hall r.i ?_)
        exact (List.getElem?_eq_some_iff.1 (inv.ops r hr)).1
  | f + 1, listed, a, w, D, suf, pf, inv, hf => by
    refine ⟨fun hnil => ?_, fun i hi => ?_⟩
    · exfalso
      have hex : ∃ i, i < l.length ∧ listed.getD i false = false := by
        have hne : ((List.range l.length).filter fun i => !listed.getD i false) ≠ [] := by
          intro e
          have : todoN listed l.length = 0 := by unfold todoN; rw [e]; rfl
          omega
        obtain ⟨i, hi⟩ := List.exists_mem_of_ne_nil _ hne
        simp only [List.mem_filter, List.mem_range] at hi
        exact ⟨i, hi.1, by simpa using hi.2⟩
      have hexp : ∃ p : Nat, p < ord.length ∧ listed.getD (ord.getD p 0) false = false := by
        obtain ⟨i, hil, hun⟩ := hex
        obtain ⟨p, hp, he⟩ := List.mem_iff_getElem.1 (st.all i hil)
        exact ⟨p, hp, by rw [List.getD_eq_getElem?_getD, List.getElem?_eq_getElem hp, Option.getD_some, he]; exact hun⟩
      obtain ⟨p, ⟨hpl, hun⟩, hleast⟩ := least_k hexp
      have hpe : ord.getD p 0 = ord[p] := by rw [List.getD_eq_getElem?_getD, List.getElem?_eq_getElem hpl, Option.getD_some]
      rw [hpe] at hun
      have hil : ord[p] < l.length := st.lt _ (List.getElem_mem hpl)
      have this : ord[p] ∈ Region.ready .any l.toArray listed := by
        refine mem_ready.2 ⟨getD_in (by rw [inv.size]; exact hil) hun, l[ord[p]], by simp [hil], fun e he hb => ?_⟩
        have hsp : ord = ord.take p ++ ord[p] :: ord.drop (p + 1) := by rw [List.getElem_cons_drop, List.take_append_drop]
        rcases topo_spec ord [] st.topo _ _ _ hsp _ (List.getElem?_eq_getElem hil) e (by simpa using he) hb with hq | hq
        · cases hq
        · obtain ⟨k, hk, hke⟩ := List.mem_iff_getElem.1 hq
          simp only [List.length_take] at hk
          rw [List.getElem_take] at hke
          cases hz : listed.getD e.on false with
          | true => rfl
          | false => exact absurd ⟨by omega, by rw [List.getD_eq_getElem?_getD, List.getElem?_eq_getElem (by omega), Option.getD_some, hke]; exact hz⟩ (hleast k (by omega))
      rw [hnil] at this; cases this
    · obtain ⟨hun0, o, ho', hpre0⟩ := mem_ready.1 hi
      have hun := getD_both hun0
      have ho : l[i]? = some o := by simpa using ho'
      have hil := (List.getElem?_eq_some_iff.1 ho).1
      have hpre : ∀ e ∈ o.after.toList, Region.binds .any e = true → listed.getD e.on false = true := fun e he hb => hpre0 e (Array.mem_def.2 he) hb
      obtain ⟨hsel, _, _, _⟩ := okOp_spec (st.okOp i hil) ho
      have htodo : todoN (listed.setIfInBounds i true) l.length = f := by have := todoN_set hil (by rw [inv.size]; exact hil) hun; omega
      unfold wpOp
      rw [ho']
      simp only
      have hiord : i ∈ ord := st.all i hil
      rw [inv.order] at hiord
      rcases List.mem_append.1 hiord with hiD | hiS
      · -- a quiet one
        simp only [List.mem_reverse, List.mem_map] at hiD
        obtain ⟨r, hr, rfl⟩ := hiD
        obtain ⟨D1, D2, hD⟩ := List.append_of_mem hr
        have hro : r.o = o := by have := inv.ops r hr; rw [ho] at this; exact (Option.some.inj this).symm
        subst hro
        have hev := inv.quiet D1 r D2 hD hun
        obtain ⟨hop, hgt⟩ := opEv_ready st inv hf0 ho hun hpre (D1 := D1 ++ [r]) (D2 := D2) (by simp [hD]) (q := (D1.map (·.i)).reverse ++ suf) (by rw [inv.order, hD]; simp)
        suffices hnx : wpAny P .any l.toArray Q f (listed.setIfInBounds r.i true) (a.put r.o.dst r.v) w by
          rcases hev with ⟨hg, hev⟩ | ⟨hg, hv⟩
          · rw [if_pos (wanted_of hg hgt)]
            refine .inl ?_
            unfold Oper.wp
            rw [hev.at hsel hop]
            exact hnx
          · rw [if_neg (by rw [wanted_of hg hgt]; simp)]
            rw [← hv]; exact hnx
        refine vc_any st hf0 f _ _ w D suf pf (inv.list st ho hun hpre (v := r.v) (D' := D) (suf' := suf) ?_ ⟨r, hr, rfl⟩ (fun _ h => h) (fun _ h => .inl h) inv.ops inv.order inv.vc (fun D1 q D2 e h _ => inv.quiet D1 q D2 e h) inv.again inv.head) htodo
        intro q hq e
        have hn : (D.map (·.i)).Nodup := by
          have := st.nodup; rw [inv.order] at this
          exact (List.reverse_perm _).nodup_iff.1 (List.nodup_append.1 this).1
        rw [hD] at hn hq
        simp only [List.map_append, List.map_cons] at hn
        obtain ⟨_, hn2, hn3⟩ := List.nodup_append.1 hn
        simp only [List.mem_append, List.mem_cons] at hq
        rcases hq with hq | rfl | hq
        · exact absurd e (hn3 q.i (List.mem_map.2 ⟨q, hq, rfl⟩) r.i (by simp))
        · rfl
        · exact absurd (List.mem_map.2 ⟨q, hq, e⟩) (List.nodup_cons.1 hn2).1
      · -- the next of the spine
        rcases inv.head rfl with h | ⟨s, q, hsuf, hs⟩
        · rw [h] at hiS; cases hiS
        · have his : i = s := by
            rw [hsuf] at hiS
            rcases List.mem_cons.1 hiS with h | h
            · exact h
            · exfalso
              obtain ⟨q1, q2, rfl⟩ := List.append_of_mem h
              obtain ⟨p1, s1, p2, e, h1, h2⟩ := last_sp q1 s hs
              have hanc := asap_spec ord none st.asap ((D.map (·.i)).reverse ++ s :: q1) i q2 (by rw [inv.order, hsuf]; simp) ((D.map (·.i)).reverse ++ p1) s1 p2 (by rw [e]; simp) h1 h2
              have hl := anc_ready inv.closed ho hpre hanc
              have hm := inv.inD s1 hl
              have hnd := st.nodup; rw [inv.order, hsuf] at hnd
              have hmem : s1 ∈ s :: (q1 ++ i :: q2) := by
                have : s1 ∈ s :: q1 := by rw [e]; simp
                rcases List.mem_cons.1 this with h | h
                · simp [h]
                · simp [h]
              exact (List.nodup_append.1 hnd).2.2 s1 (by simpa using hm) s1 hmem rfl
          subst his
          subst hsuf
          have hvc := inv.vc
          cases hvc with
          | pure ho2 hs2 _ _ => rw [hs2] at hs; cases hs
          | quiet ho2 hs2 _ _ => rw [hs2] at hs; cases hs
          | spineNot ho2 hs2 hg r =>
            rw [ho] at ho2; cases ho2
            obtain ⟨hop, hgt⟩ := opEv_ready st inv hf0 ho hun hpre (D1 := []) (D2 := D) rfl (q := q) inv.order
            rw [if_neg (by rw [wanted_of hg hgt]; simp)]
            have hne : ∀ x ∈ D, x.i ≠ i := fun x hx e => by
              have hnd := st.nodup; rw [inv.order] at hnd
              exact (List.nodup_append.1 hnd).2.2 i (by simp; exact ⟨x, hx, e⟩) i (by simp) rfl
            have inv2 : Inv P n l sp ord Q a0 L0 (listed.setIfInBounds i true) (a.put o.dst undef) w (⟨i, o, undef⟩ :: D) q pf false := by
              refine inv.list st ho hun hpre (v := undef) ?_ ⟨⟨i, o, undef⟩, by simp, rfl⟩ (fun _ h => by simp [h]) (fun x hx => by rcases List.mem_cons.1 hx with rfl | hx; exact .inr rfl; exact .inl hx) ?_ (by rw [inv.order]; simp) r ?_ ?_ (fun h => by cases h)
              · intro x hx e
                rcases List.mem_cons.1 hx with rfl | hx
                · rfl
                · exact absurd e (hne x hx)
              · intro x hx
                rcases List.mem_cons.1 hx with rfl | hx
                · exact ho
                · exact inv.ops x hx
              · intro D1 x D2 e hl hxi
                cases D1 with
                | nil => simp at e; obtain ⟨rfl, rfl⟩ := e; exact absurd rfl hxi
                | cons y D1 => simp at e; exact inv.quiet D1 x D2 e.2 hl
              · intro D1 x D2 e hxs
                cases D1 with
                | nil => simp at e; obtain ⟨rfl, rfl⟩ := e; rw [hs] at hxs; cases hxs
                | cons y D1 => simp at e; exact inv.again D1 x D2 e.2 hxs
            obtain ⟨D', suf', pf', inv3⟩ := inv2.advance st
            exact vc_any st hf0 f _ _ w D' suf' pf' inv3 htodo
          | spine ho2 hs2 hg h ha r =>
            rw [ho] at ho2; cases ho2
            obtain ⟨hop, hgt⟩ := opEv_ready st inv hf0 ho hun hpre (D1 := []) (D2 := D) rfl (q := q) inv.order
            rw [if_pos (wanted_of hg hgt)]
            refine .inl ?_
            have hstep := h (fr_env hf0 D fun x hx => (okOp_spec (st.okOp x.i (List.getElem?_eq_some_iff.1 (inv.ops x hx)).1) (inv.ops x hx)).2.1) a hop
            have hne : ∀ x ∈ D, x.i ≠ i := fun x hx e => by
              have hnd := st.nodup; rw [inv.order] at hnd
              exact (List.nodup_append.1 hnd).2.2 i (by simp; exact ⟨x, hx, e⟩) i (by simp) rfl
            have hnext : ∀ v w2, _ → wpAny P .any l.toArray Q f (listed.setIfInBounds i true) (a.put o.dst v) w2 := fun v w2 hR => by
              have hag := (ha v w2 hR).get
              have inv2 : Inv P n l sp ord Q a0 L0 (listed.setIfInBounds i true) (a.put o.dst v) w2 (⟨i, o, v⟩ :: D) q pf false := by
                refine inv.list st ho hun hpre (v := v) ?_ ⟨⟨i, o, v⟩, by simp, rfl⟩ (fun _ h => by simp [h]) (fun x hx => by rcases List.mem_cons.1 hx with rfl | hx; exact .inr rfl; exact .inl hx) ?_ (by rw [inv.order]; simp) (r v w2 hR) ?_ ?_ (fun h => by cases h)
                · intro x hx e
                  rcases List.mem_cons.1 hx with rfl | hx
                  · rfl
                  · exact absurd e (hne x hx)
                · intro x hx
                  rcases List.mem_cons.1 hx with rfl | hx
                  · exact ho
                  · exact inv.ops x hx
                · intro D1 x D2 e hl hxi
                  cases D1 with
                  | nil => simp at e; obtain ⟨rfl, rfl⟩ := e; exact absurd rfl hxi
                  | cons y D1 =>
                    simp at e
                    have hxD : x ∈ D := by rw [e.2]; simp
                    have hxs : isSp sp x.i = false := by
                      cases hq : isSp sp x.i with
                      | false => rfl
                      | true => rw [inv.spD x hxD hq] at hl; cases hl
                    rcases inv.again D1 x D2 e.2 hxs with hp | hp
                    · exact hp w2
                    · rcases hag _ hp with h1 | h1
                      · have := anc_ready inv.closed ho hpre h1
                        rw [hl] at this; cases this
                      · exact h1
                · intro D1 x D2 e hxs
                  cases D1 with
                  | nil => simp at e; obtain ⟨rfl, rfl⟩ := e; rw [hs] at hxs; cases hxs
                  | cons y D1 => simp at e; exact inv.again D1 x D2 e.2 hxs
              obtain ⟨D', suf', pf', inv3⟩ := inv2.advance st
              exact vc_any st hf0 f _ _ w2 D' suf' pf' inv3 htodo
            -- the operation itself
            unfold Oper.wp at hstep ⊢
            generalize (execOp a.eval o).run P w = res at hstep ⊢
            cases res with
            | ok m w' =>
              cases m <;> simp only [Oper.upon] at hstep ⊢ <;>
                first
                  | (obtain ⟨v, e, hR⟩ := hstep; rw [e]; exact hnext v _ hR)
                  | exact Calls.mono hstep (fun e w'' he => by
                      cases e with
                      | returned u => obtain ⟨v, e, hR⟩ := he; simp only; rw [e]; exact hnext v _ hR
                      | panicked ch => exact he.elim
                      | outgrown => obtain ⟨_, _, he⟩ := he; exact he.elim)
                  | exact Rows.mono hstep (fun u w'' he => by obtain ⟨v, e, hR⟩ := he; rw [e]; exact hnext v _ hR)
            | halt x w' => cases x <;> simp only [Oper.upon] at hstep ⊢
/-- a region that draws its order, by one order -/
theorem wc_draw {id : Nat} {L : Env} {w : World} (ord sp : List Nat) (hm : P.follows .mixedOrders = true) (hck : drawOk l n ord sp = true) (h : VC P n l (masks l []) sp Q ord L w.drew []) : wc P n (.region id l.toArray true) Q L w := by
  unfold wc
  intro a ha
  have st := drawOk_spec hck
  refine wp_region_any hm ?_
  have inv0 : Inv P n l sp ord Q a L (Array.replicate l.length false) a w.drew [] ord [] false :=
    { size := by simp, closed := fun i o _ hl => (by rw [getD_replicate_false] at hl; cases hl), order := rfl, vc := h, head := (fun h => by cases h), inD := fun i hl => (by rw [getD_replicate_false] at hl; cases hl),
      spD := by simp, old := fun _ _ => rfl, val := by simp, quiet := (by intro D1 r D2 e; simp at e), again := (by intro D1 r D2 e; simp at e), ops := by simp, tsize := ha.size, defers := ha.defers }
  obtain ⟨D, suf, pf, inv⟩ := inv0.advance st
  have htodo : todoN (Array.replicate l.length false) l.length = l.length := by
    unfold todoN
    rw [List.filter_eq_self.2 (fun i _ => by rw [getD_replicate_false]; rfl)]
    simp
  have := vc_any st ha l.length (Array.replicate l.length false) a w.drew D suf pf inv htodo
  simpa using this
/-! ### rules for a walk -/
variable {M : List Nat} {L : Env} {w : World} {pf : List Fl} {i : Nat} {ord : List Nat}
theorem vc_p {o : Oper} {v : Value} (ho : l[i]? = some o) (hs : isSp sp i = false) (hg : guardL l L o = some true) (h : ∀ w, Ev P L w o v) (r : VC P n l M sp Q ord (pd o.dst v L) w pf) : VC P n l M sp Q (i :: ord) L w pf := .pure ho hs (fun w => .inl ⟨hg, h w⟩) r
theorem vc_q {o : Oper} {v : Value} (ho : l[i]? = some o) (hs : isSp sp i = false) (hg : guardL l L o = some true) (h : Ev P L w o v) (r : VC P n l M sp Q ord (pd o.dst v L) w (⟨i, o, L, v⟩ :: pf)) : VC P n l M sp Q (i :: ord) L w pf := .quiet ho hs (.inl ⟨hg, h⟩) r
theorem vc_not {o : Oper} (ho : l[i]? = some o) (hs : isSp sp i = false) (hg : guardL l L o = some false) (r : VC P n l M sp Q ord (pd o.dst undef L) w pf) : VC P n l M sp Q (i :: ord) L w pf := .pure ho hs (fun w => .inr ⟨hg, rfl⟩) r
theorem vc_split (t : Nat) {g : Bool} (_ht : eget L t = some (.bool g)) (h1 : g = true → VC P n l M sp Q ord L w pf) (h2 : g = false → VC P n l M sp Q ord L w pf) : VC P n l M sp Q ord L w pf := by
  cases g with
  | true => exact h1 rfl
  | false => exact h2 rfl
theorem vc_splitD (t : Nat) {p : Prop} {dp : Decidable p} (_ht : eget L t = some (.bool (@decide p dp))) (h1 : p → VC P n l M sp Q ord L w pf) (h2 : ¬ p → VC P n l M sp Q ord L w pf) : VC P n l M sp Q ord L w pf := by
  by_cases h : p
  · exact h1 h
  · exact h2 h
/-- one operation that changes things, walked by the rules for lists -/
def VCs (P : Program) (n : Nat) (l : List Oper) (M sp : List Nat) (Q : Exit → Act → World → Prop) (i : Nat) (ord : List Nat) (L : Env) (dst : Option Nat) (pf : List Fl) : Exit → Act → World → Prop :=
  fun e a w2 => e = .normal ∧ a.defers = [] ∧ Again P l M i w2 pf ∧ VC P n l M sp Q ord (pd dst (match dst with | some d => (a.tmps[d]?).getD undef | none => undef) L) w2 pf
def dOk (n : Nat) (d : Option Nat) : Bool := match d with | some d => Nat.blt d n | none => true
def knownB (L : Env) (op : Op) : Bool := op.operands.toList.all fun x => (look L x).isSome
def notSel (op : Op) : Bool := match op with | .select .. => false | _ => true
theorem vc_s {dst : Option Nat} {op : Op} {ty : TypeId} {pos : String} {aft : Array Edge} {gd : Option (Nat × Bool)} (ho : l[i]? = some ⟨dst, op, ty, pos, aft, gd⟩) (hs : isSp sp i = true) (hg : guardL l L ⟨dst, op, ty, pos, aft, gd⟩ = some true) (hd : dOk n dst = true) (hsel : notSel op = true) (hkn : knownB L op = true)
    (h : wl P n #[] (VCs P n l M sp Q i ord L dst pf) [⟨dst, op, ty, pos, aft, none⟩] L w) : VC P n l M sp Q (i :: ord) L w pf := by
  refine .spine ho hs hg (R := fun v w2 => ∃ v', (dst ≠ none → v' = v) ∧ Again P l M i w2 pf ∧ VC P n l M sp Q ord (pd dst v' L) w2 pf) (fun ⟨a1, ha1⟩ a hop => ?_) (fun v w2 ⟨_, _, h, _⟩ => h) (fun v w2 ⟨v', hv, _, h⟩ => by cases dst with | none => exact h | some d => rw [← hv (by simp)]; exact h)
  have hselp : ∀ cs b, op ≠ .select cs b := fun cs b e => by rw [e] at hsel; cases hsel
  unfold wl at h
  have h1 := h a1 ha1
  unfold wpList at h1
  rw [if_pos (by simp [Region.wanted])] at h1
  rcases h1 with h1 | ⟨_, a0, w0, h0⟩
  · have hrun : (execOp a.eval ⟨dst, op, ty, pos, aft, gd⟩).run P w = (execOp a1.eval ⟨dst, op, ty, pos, aft, none⟩).run P w := by
      have e1 : execOp a.eval ⟨dst, op, ty, pos, aft, gd⟩ = execOp a.eval ⟨dst, op, ty, pos, aft, none⟩ := by cases op <;> rfl
      rw [e1]
      rw [execOp_congr (ρ' := fun x => (look L x).getD (a1.eval x)) ⟨dst, op, ty, pos, aft, none⟩ hselp (fun x hx => ?_), execOp_congr (ρ := a1.eval) (ρ' := fun x => (look L x).getD (a1.eval x)) ⟨dst, op, ty, pos, aft, none⟩ hselp (fun x hx => ?_)]
      · cases hl : look L x with
        | none => rfl
        | some u => exact ha1.eval hl
      · cases hl : look L x with
        | none => have := List.all_eq_true.1 hkn x (by simpa using hx); simp [hl] at this
        | some u => exact hop x hx u hl
    unfold Oper.wp at h1 ⊢
    rw [hrun]
    generalize (execOp a1.eval ⟨dst, op, ty, pos, aft, none⟩).run P w = res at h1 ⊢
    have hfin : ∀ v w2, wpList P #[] (VCs P n l M sp Q i ord L dst pf) [] (a1.put dst v) w2 → ∃ u, a.put dst v = a.put dst u ∧ ∃ v', (dst ≠ none → v' = u) ∧ Again P l M i w2 pf ∧ VC P n l M sp Q ord (pd dst v' L) w2 pf := by
      rintro v w2 ⟨_, _, h2, h3⟩
      refine ⟨v, rfl, v, fun _ => rfl, h2, ?_⟩
      cases dst with
      | none => exact h3
      | some d =>
        have hlt : d < a1.tmps.size := by rw [ha1.size]; simpa [dOk, Nat.blt_eq] using hd
        simpa [Act.put, hlt] using h3
    cases res with
    | ok m w' =>
      cases m <;> simp only [Oper.upon] at h1 ⊢ <;>
        first
          | exact hfin _ _ h1
          | exact Calls.mono h1 (fun e w'' he => by
              cases e with
              | returned u => exact hfin _ _ he
              | panicked ch => exact absurd he.1 (by simp)
              | outgrown => obtain ⟨_, _, he⟩ := he; exact absurd he.1 (by simp))
          | exact Rows.mono h1 (fun u w'' he => hfin _ _ he)
          | (have h2 := h1.2.1; cases dst <;> simp [Act.put] at h2)
          | (have h2 := h1.1; cases h2)
    | halt x w' => cases x <;> simp only [Oper.upon] at h1 ⊢ <;> exact absurd h1.1 (by simp)
  · exact absurd h0.1 (by simp)
theorem vc_e {d : Nat} {v : Value} {w2 : World} (ha : Again P l M i w2 pf) (r : VC P n l M sp Q ord ((d, v) :: L) w2 pf) : wl P n #[] (VCs P n l M sp Q i ord L (some d) pf) [] ((d, v) :: L) w2 := by
  refine wl_nil ?_
  unfold qs
  intro a hfr
  refine ⟨rfl, hfr.defers, ha, ?_⟩
  have := hfr.get d v (by simp [eget, Nat.beq_refl])
  simp only [this, Option.getD_some]; exact r
theorem vc_e0 {w2 : World} (ha : Again P l M i w2 pf) (r : VC P n l M sp Q ord L w2 pf) : wl P n #[] (VCs P n l M sp Q i ord L none pf) [] L w2 := by
  refine wl_nil ?_
  unfold qs
  exact fun a hfr => ⟨rfl, hfr.defers, ha, r⟩
end
end Go.Proofs.YtcbdclhoekokpaaGreatDoor.M
/- Maps: what lies in a map's block, and laws for the operations on maps. Keys: of one kind ('KeyOk'): integers, or structs of two integers. -/
namespace Go.Proofs.YtcbdclhoekokpaaGreatDoor.M
open Go.RowKit
/-- how the keys of a map are found -/
structure KeyOk {κ : Type} (P : Program) (kt : TypeId) (kv : κ → Value) : Prop where
  inj : ∀ a b, kv a = kv b → a = b
  bits : ∀ a, Instr.sameBits 10000 (kv a) (kv a) = true
  check : ∀ (e : Bool) (a : κ) (w : World), (Instr.checkKey e 10000 kt (kv a)).run P w = .ok () w
  find : ∀ (a : κ) (l : List MapEntry) (w : World), (∀ x ∈ l, ∃ b, x.key = kv b) →
    (∃ i x, l[i]? = some x ∧ x.key = kv a ∧ (Instr.findKey kt (kv a) l).run P w = .ok (some (i, x.val)) w) ∨ ((∀ x ∈ l, x.key ≠ kv a) ∧ (Instr.findKey kt (kv a) l).run P w = .ok none w)
def intK (a : Int) : Value := .int .i64 a
theorem run_equalIn_int {P : Program} {t : TypeId} {k : IntKind} (hu : P.underlying t = some (.int k)) (n : Nat) (a b : Int) (w : World) : (Op.equalIn (n + 1) t (.int k a) (.int k b)).run P w = .ok (a == b) w := by
  unfold Op.equalIn
  simp only [Sem.run_bind, run_underlying hu, Result.andThen]
  simp
/-- block b is a map with these entries -/
structure MapAt {κ : Type} (kv : κ → Value) (w : World) (b : Nat) (es : Array MapEntry) (clock : Nat) : Prop where
  blk : w.heap[b]? = some (.map es clock)
  stamped : MapKept.Stamped es clock
  keys : ∀ x ∈ es.toList, ∃ a, x.key = kv a
section
variable {κ : Type} {kv : κ → Value} {w : World} {b : Nat} {es : Array MapEntry} {clock : Nat}
theorem MapAt.lt (h : MapAt kv w b es clock) : b < w.heap.size := by
  rcases Nat.lt_or_ge b w.heap.size with g | g
  · exact g
  · have := h.blk; simp [Array.getElem?_eq_none g] at this
theorem MapAt.congr {w' : World} (h : MapAt kv w b es clock) (e : w'.heap[b]? = w.heap[b]?) : MapAt kv w' b es clock := ⟨by rw [e]; exact h.blk, h.stamped, h.keys⟩
theorem Only.setObj (w : World) (b : Nat) (o : Obj) : Only [b] w { w with heap := w.heap.setIfInBounds b o } :=
  ⟨rfl, rfl, rfl, by simp, fun k hk hn => by
    have : b ≠ k := by intro q; subst q; simp at hn
    simp [Array.getElem?_setIfInBounds, this]⟩
theorem does_makeMap {P : Program} {o : Oper} {a : Act} (kv : κ → Value) (t : TypeId) (ho : o.op = .makeMap t none) :
    does P o a w (fun v w' => v = .map (some w.heap.size) ∧ MapAt kv w' w.heap.size #[] 0 ∧ w' = w.alloc (.map #[] 0)) := by
  refine ⟨_, _, .inl ?_, rfl, ⟨(MapKept.heap_alloc w _).1, MapKept.stamped_empty _, by simp⟩, rfl⟩
  simp [execOp, ho, Instr.makeMap]
theorem does_lookup {P : Program} {o : Oper} {a : Act} (mt : TypeId) (x y : Operand) (ho : o.op = .lookup mt x y false) {kt et : TypeId} (K : KeyOk P kt kv) (hm : P.underlying mt = some (.map kt et)) (h : MapAt kv w b es clock)
    (hx : a.eval x = .map (some b)) {k : κ} (hy : a.eval y = kv k) {z : Value} (hz : (zeroValue et).run P w = .ok z w) :
    does P o a w (fun v w' => ((∃ e ∈ es.toList, e.key = kv k ∧ v = e.val) ∨ ((∀ e ∈ es.toList, e.key ≠ kv k) ∧ v = z)) ∧ w = w') := by
  rcases K.find k es.toList w h.keys with ⟨i, e, h1, h2, h3⟩ | ⟨h1, h2⟩
  · refine ⟨e.val, w, .inl ?_, .inl ⟨e, List.mem_of_getElem? h1, h2, rfl⟩, rfl⟩
    simp [execOp, ho, hx, hy, Instr.lookup, run_underlying hm, MapKept.run_getObj_map h.blk, K.check, h3]
  · refine ⟨z, w, .inl ?_, .inr ⟨h1, rfl⟩, rfl⟩
    simp [execOp, ho, hx, hy, Instr.lookup, run_underlying hm, MapKept.run_getObj_map h.blk, K.check, h2, hz]
/-- the entries after a store -/
def isPut (kv : κ → Value) (es es' : Array MapEntry) (clock clock' : Nat) (k : κ) (v : Value) : Prop :=
  (clock' = clock ∧ ∃ i e, es[i]? = some e ∧ e.key = kv k ∧ es' = es.modify i (fun e => { e with key := kv k, val := v })) ∨
  (clock' = clock + 1 ∧ (∀ e ∈ es.toList, e.key ≠ kv k) ∧ es' = es.push { key := kv k, val := v, born := clock })
theorem nodup_idx {α β : Type} (f : α → β) {l : List α} (h : (l.map f).Nodup) {i j : Nat} {x y : α} (hi : l[i]? = some x) (hj : l[j]? = some y) (e : f x = f y) : i = j := by
  have hp := List.pairwise_iff_getElem.1 h
  obtain ⟨hi', ex⟩ := List.getElem?_eq_some_iff.1 hi
  obtain ⟨hj', ey⟩ := List.getElem?_eq_some_iff.1 hj
  rcases Nat.lt_trichotomy i j with g | g | g
  · exact (hp i j (by simpa using hi') (by simpa using hj') g (by simp [ex, ey, e])).elim
  · exact g
  · exact (hp j i (by simpa using hj') (by simpa using hi') g (by simp [ex, ey, e])).elim
theorem key_idx {l : List MapEntry} (h : (l.map (·.key)).Nodup) {i j : Nat} {x y : MapEntry} (hi : l[i]? = some x) (hj : l[j]? = some y) (e : x.key = y.key) : i = j := nodup_idx _ h hi hj e
theorem born_idx {l : List MapEntry} (h : (l.map (·.born)).Nodup) {i j : Nat} {x y : MapEntry} (hi : l[i]? = some x) (hj : l[j]? = some y) (e : x.born = y.born) : i = j := nodup_idx _ h hi hj e
theorem key_one {l : List MapEntry} (h : (l.map (·.key)).Nodup) {x y : MapEntry} (hx : x ∈ l) (hy : y ∈ l) (e : x.key = y.key) : x = y := by
  obtain ⟨i, hi⟩ := List.mem_iff_getElem?.1 hx
  obtain ⟨j, hj⟩ := List.mem_iff_getElem?.1 hy
  have := key_idx h hi hj e
  subst this; rw [hi] at hj; exact Option.some.inj hj
theorem isPut.stamped {es' : Array MapEntry} {clock' : Nat} {k : κ} {v : Value} (h : isPut kv es es' clock clock' k v) (hs : MapKept.Stamped es clock) : MapKept.Stamped es' clock' := by
  rcases h with ⟨rfl, i, e, h1, h2, rfl⟩ | ⟨rfl, h1, rfl⟩
  · exact MapKept.stamped_modify hs i _ (fun _ _ => rfl) (fun x _ hx => by rw [h1] at hx; cases hx; exact h2.symm)
  · exact MapKept.stamped_push hs h1
theorem isPut.mem {es' : Array MapEntry} {clock' : Nat} {k : κ} {v : Value} (h : isPut kv es es' clock clock' k v) (hs : MapKept.Stamped es clock) :
    (∀ x ∈ es'.toList, (x.key = kv k ∧ x.val = v) ∨ (x.key ≠ kv k ∧ x ∈ es.toList)) ∧ (∀ x ∈ es.toList, x.key ≠ kv k → x ∈ es'.toList) ∧ ∃ x ∈ es'.toList, x.key = kv k ∧ x.val = v := by
  rcases h with ⟨rfl, i, e, h1, h2, rfl⟩ | ⟨rfl, h1, rfl⟩
  · have hil : es.toList[i]? = some e := by simpa using h1
    refine ⟨fun x hx => ?_, fun x hx hk => ?_, ?_⟩
    · obtain ⟨j, hj⟩ := List.mem_iff_getElem?.1 hx
      rw [Array.getElem?_toList, Array.getElem?_modify] at hj
      by_cases hij : i = j
      · subst hij
        rw [if_pos rfl, h1] at hj
        simp at hj; subst hj
        exact .inl ⟨rfl, rfl⟩
      · rw [if_neg hij] at hj
        have hj' : es.toList[j]? = some x := by simpa using hj
        exact .inr ⟨fun q => hij (key_idx hs.2.2 hil hj' (by rw [h2, q])), List.mem_of_getElem? hj'⟩
    · obtain ⟨j, hj⟩ := List.mem_iff_getElem?.1 hx
      have hij : i ≠ j := by intro q; subst q; rw [hil] at hj; cases hj; exact hk h2
      refine List.mem_of_getElem? (i := j) ?_
      rw [Array.getElem?_toList, Array.getElem?_modify, if_neg hij]; simpa using hj
    · refine ⟨{ e with key := kv k, val := v }, List.mem_of_getElem? (i := i) ?_, rfl, rfl⟩
      rw [Array.getElem?_toList, Array.getElem?_modify, if_pos rfl, h1]; rfl
  · refine ⟨fun x hx => ?_, fun x hx _ => by simp at hx ⊢; exact .inl hx, ⟨_, by simp; exact .inr rfl, rfl, rfl⟩⟩
    simp at hx
    rcases hx with hx | rfl
    · exact .inr ⟨h1 x (by simpa using hx), by simpa using hx⟩
    · exact .inl ⟨rfl, rfl⟩
theorem MapAt.put {es' : Array MapEntry} {clock' : Nat} {k : κ} {v : Value} (h : MapAt kv w b es clock) (hp : isPut kv es es' clock clock' k v) : MapAt kv { w with heap := w.heap.setIfInBounds b (.map es' clock') } b es' clock' :=
  ⟨(MapKept.heap_set h.blk).1, hp.stamped h.stamped, fun x hx => by
    rcases (hp.mem h.stamped).1 x hx with ⟨h1, _⟩ | ⟨_, h1⟩
    · exact ⟨k, h1⟩
    · exact h.keys x h1⟩
theorem does_mapUpdate {P : Program} {o : Oper} {a : Act} (mt : TypeId) (x y z : Operand) (ho : o.op = .mapUpdate mt x y z) {kt et : TypeId} (K : KeyOk P kt kv) (hm : P.underlying mt = some (.map kt et)) (h : MapAt kv w b es clock)
    (hx : a.eval x = .map (some b)) {k : κ} (hy : a.eval y = kv k) {v : Value} (hz : a.eval z = v) :
    does P o a w (fun u w' => u = undef ∧ ∃ es' clock', isPut kv es es' clock clock' k v ∧ MapAt kv w' b es' clock' ∧ Only [b] w w' ∧ w'.heap.size = w.heap.size) := by
  rcases K.find k es.toList w h.keys with ⟨i, e, h1, h2, h3⟩ | ⟨h1, h2⟩
  · have hp : isPut kv es (es.modify i (fun e => { e with key := kv k, val := v })) clock clock k v := .inl ⟨rfl, i, e, by simpa using h1, h2, rfl⟩
    refine ⟨undef, _, .inr ⟨?_, rfl⟩, rfl, _, _, hp, h.put hp, Only.setObj _ _ _, by simp⟩
    have h1' : es[i]? = some e := by simpa using h1
    simp [execOp, ho, hx, hy, hz, Instr.mapUpdate, run_underlying hm, MapKept.run_getObj_map h.blk, MapKept.run_setObj_map _ h.blk, K.check, h3, h1', h2, Instr.keyThatStays, K.bits]
  · have hp : isPut kv es (es.push { key := kv k, val := v, born := clock }) clock (clock + 1) k v := .inr ⟨rfl, h1, rfl⟩
    refine ⟨undef, _, .inr ⟨?_, rfl⟩, rfl, _, _, hp, h.put hp, Only.setObj _ _ _, by simp⟩
    simp [execOp, ho, hx, hy, hz, Instr.mapUpdate, run_underlying hm, MapKept.run_getObj_map h.blk, MapKept.run_setObj_map _ h.blk, K.check, h2]
/-- 'delete(m, k)' -/
theorem does_delete {P : Program} {o : Oper} {a : Act} (mt t2 : TypeId) (x y : Operand) (ho : o.op = .call { callee := .builtin .delete, args := #[x, y], argTypes := #[mt, t2] }) {kt et : TypeId} (K : KeyOk P kt kv) (hm : P.underlying mt = some (.map kt et)) (h : MapAt kv w b es clock)
    (hx : a.eval x = .map (some b)) {k : κ} (hy : a.eval y = kv k) :
    does P o a w (fun u w' => u = .tuple #[] ∧ ∃ es', (∀ e, e ∈ es'.toList ↔ e ∈ es.toList ∧ e.key ≠ kv k) ∧ MapAt kv w' b es' clock ∧ Only [b] w w' ∧ w'.heap.size = w.heap.size) := by
  rcases K.find k es.toList w h.keys with ⟨i, e, h1, h2, h3⟩ | ⟨h1, h2⟩
  · have hl : (es.eraseIdxIfInBounds i).toList = es.toList.eraseIdx i := by
      unfold Array.eraseIdxIfInBounds
      split
      · simp only [Array.toList_eraseIdx]
      · rename_i hn; rw [List.eraseIdx_of_length_le (by simpa using hn)]
    have hm' : ∀ x, x ∈ (es.eraseIdxIfInBounds i).toList ↔ x ∈ es.toList ∧ x.key ≠ kv k := by
      intro x
      rw [hl, List.mem_eraseIdx_iff_getElem?]
      constructor
      · rintro ⟨j, hj, hx⟩
        exact ⟨List.mem_of_getElem? hx, fun q => hj (key_idx h.stamped.2.2 hx h1 (by rw [h2, q]))⟩
      · rintro ⟨hx, hk⟩
        obtain ⟨j, hj⟩ := List.mem_iff_getElem?.1 hx
        exact ⟨j, fun q => by subst q; rw [hj] at h1; cases h1; exact hk h2, hj⟩
    refine ⟨_, _, .inl ?_, rfl, _, hm', ⟨(MapKept.heap_set h.blk).1, MapKept.stamped_erase h.stamped i, fun x hx => h.keys x ((hm' x).1 hx).1⟩, Only.setObj _ _ _, by simp⟩
    simp [execOp, ho, hx, hy, resolve, invoke, builtin, Builtin.delete_, run_underlying hm, MapKept.run_getObj_map h.blk, MapKept.run_setObj_map _ h.blk, K.check, h3]
  · refine ⟨_, _, .inl ?_, rfl, es, fun x => ⟨fun hx => ⟨hx, h1 x hx⟩, fun hx => hx.1⟩, ⟨(MapKept.heap_set h.blk).1, h.stamped, h.keys⟩, Only.setObj _ _ _, by simp⟩
    simp [execOp, ho, hx, hy, resolve, invoke, builtin, Builtin.delete_, run_underlying hm, MapKept.run_getObj_map h.blk, MapKept.run_setObj_map _ h.blk, K.check, h2]
/-- block r is an iterator over the map of block b -/
def IterAt (w : World) (r b since : Nat) (seen : Array Nat) (c0 : Nat) : Prop := w.heap[r]? = some (.mapIter (some b) since seen c0)
theorem IterAt.lt {r since c0 : Nat} {seen : Array Nat} (h : IterAt w r b since seen c0) : r < w.heap.size := by
  rcases Nat.lt_or_ge r w.heap.size with g | g
  · exact g
  · unfold IterAt at h; simp [Array.getElem?_eq_none g] at h
theorem does_range {P : Program} {o : Oper} {a : Act} (mt : TypeId) (x : Operand) (ho : o.op = .range mt x) {kt et : TypeId} (hm : P.underlying mt = some (.map kt et)) (h : MapAt kv w b es clock) (hx : a.eval x = .map (some b)) :
    does P o a w (fun v w' => v = .pointer (some ⟨w.heap.size, 0, none⟩) ∧ IterAt w' w.heap.size b clock #[] clock ∧ w' = w.alloc (.mapIter (some b) clock #[] clock)) := by
  refine ⟨_, _, .inl ?_, rfl, (MapKept.heap_alloc w _).1, rfl⟩
  simp [execOp, ho, hx, run_range_map w mt kt et b es clock hm h.blk]
theorem does_next {P : Program} {o : Oper} {a : Act} (x : Operand) (ho : o.op = .next x false) {r : Nat} {seen : Array Nat} (h : MapAt kv w b es clock) (hi : IterAt w r b clock seen clock) (hx : a.eval x = .pointer (some ⟨r, 0, none⟩)) :
    does P o a w (fun v w' => (v = .tuple #[.bool false] ∧ w = w' ∧ ∀ e ∈ es.toList, e.born ∈ seen.toList) ∨
      ∃ e ∈ es.toList, e.born ∉ seen.toList ∧ v = .tuple #[.bool true, e.key, e.val] ∧ Only [r] w w' ∧ IterAt w' r b clock (seen.push e.born) clock ∧ w'.heap.size = w.heap.size) := by
  rcases run_next_at (P := P) w o.type r b clock clock seen es clock hi h.blk h.stamped.1 (Nat.le_refl _) with ⟨h1, h2⟩ | ⟨e, he, w1, hw1, h2⟩
  · refine ⟨_, w, .inl ?_, .inl ⟨rfl, rfl, fun e he => ?_⟩⟩
    · simp [execOp, ho, hx, h2]
    · have hz : (leftOf es seen).toList = [] := List.eq_nil_of_length_eq_zero (by simpa using h1)
      apply Classical.byContradiction
      intro hn
      have : e ∈ (leftOf es seen).toList := by simp [leftOf] at he hn ⊢; exact ⟨he, hn⟩
      rw [hz] at this; cases this
  · have he' : e ∈ es.toList ∧ e.born ∉ seen.toList := by simpa [leftOf] using he
    refine ⟨.tuple #[.bool true, e.key, e.val], ChangeMaps.setBlock w1 r (.mapIter (some b) clock (seen.push e.born) clock), .inl ?_, .inr ⟨e, he'.1, he'.2, rfl, ?_, ?_, ?_⟩⟩
    · simp [execOp, ho, hx, h2]
    · rcases hw1 with rfl | rfl
      · exact Only.setObj _ _ _
      · exact (Only.refl _ w).drew.trans1 (Only.setObj w.drew r _)
    · have : r < w1.heap.size := by rcases hw1 with rfl | rfl <;> exact hi.lt
      simp [IterAt, ChangeMaps.setBlock, this]
    · rcases hw1 with rfl | rfl <;> simp [ChangeMaps.setBlock] <;> rfl
theorem does_entry {P : Program} {o : Oper} {a : Act} (x : Operand) (ho : o.op = .entry x) {r : Nat} {seen : Array Nat} {e : MapEntry} (h : MapAt kv w b es clock) (hi : IterAt w r b clock (seen.push e.born) clock) (he : e ∈ es.toList) (hx : a.eval x = .pointer (some ⟨r, 0, none⟩)) :
    does P o a w (fun v w' => v = .tuple #[e.key, e.val] ∧ w = w') := by
  refine ⟨_, w, .inl ?_, rfl, rfl⟩
  simp [execOp, ho, hx, run_entry_at (P := P) w r b clock seen es clock e hi h.blk he h.stamped.2.1]
end
end Go.Proofs.YtcbdclhoekokpaaGreatDoor.M
/- Maps as things: a map is a function from keys to values. Rules for the operations on maps. Conditions: each rule's own hypotheses. -/
namespace Go.Proofs.YtcbdclhoekokpaaGreatDoor.M
open Go.RowKit
section
variable {κ : Type} {kv : κ → Value}
/-- the entries es say f -/
def Reads (kv : κ → Value) (es : Array MapEntry) (f : κ → Option Value) : Prop := ∀ k v, f k = some v ↔ ∃ e ∈ es.toList, e.key = kv k ∧ e.val = v
def mapT (kv : κ → Value) (b : Nat) (f : κ → Option Value) : Th where
  at_ := fun w F => (F = fun k => k = b) ∧ ∃ es clock, MapAt kv w b es clock ∧ Reads kv es f
  fr := fun a ⟨e, es, c, h, r⟩ => ⟨e, es, c, h.congr (a.blk _ (by rw [e])), r⟩
  lt := fun ⟨e, es, c, h, _⟩ k hk => by rw [e] at hk; subst hk; exact h.lt
open Classical in
noncomputable def upd (f : κ → Option Value) (k : κ) (v : Option Value) : κ → Option Value := fun j => if j = k then v else f j
theorem upd_self {f : κ → Option Value} {k : κ} {v : Option Value} : upd f k v k = v := by simp [upd]
theorem upd_ne {f : κ → Option Value} {k j : κ} {v : Option Value} (h : j ≠ k) : upd f k v j = f j := by simp [upd, h]
theorem Sat.map {w : World} {As : List Th} (h : Sat w As) (i : Nat) {b : Nat} {f : κ → Option Value} (hi : As[i]? = some (mapT kv b f)) : ∃ es clock, MapAt kv w b es clock ∧ Reads kv es f := by
  obtain ⟨F, _, h⟩ := h.get i hi; exact h
theorem Sat.map_set {w w' : World} {As : List Th} (h : Sat w As) (i : Nat) {b : Nat} {f f' : κ → Option Value} (hi : As[i]? = some (mapT kv b f)) {es : Array MapEntry} {clock : Nat} (hm : MapAt kv w' b es clock) (hr : Reads kv es f') (ho : Only [b] w w') : Sat w' (As.set i (mapT kv b f')) :=
  h.step i hi fun F ⟨e, _⟩ => ⟨F, ⟨e, es, clock, hm, hr⟩, fun k hk => .inl hk, ho.agree (fun x hx => .inl (by simp only [List.mem_singleton] at hx; subst hx; rw [e]))⟩
theorem Reads.put {P : Program} {kt : TypeId} (K : KeyOk P kt kv) {es es' : Array MapEntry} {clock clock' : Nat} {f : κ → Option Value} (h : Reads kv es f) (hs : MapKept.Stamped es clock) {k : κ} {v : Value} (hp : isPut kv es es' clock clock' k v) : Reads kv es' (upd f k (some v)) := by
  intro j u
  obtain ⟨m1, m2, m3⟩ := hp.mem hs
  by_cases hj : j = k
  · subst hj
    rw [upd_self]
    constructor
    · intro e; cases e; exact m3
    · rintro ⟨e, he, hk, rfl⟩
      rcases m1 e he with ⟨_, h2⟩ | ⟨h2, _⟩
      · rw [h2]
      · exact absurd hk h2
  · rw [upd_ne hj, h j u]
    constructor
    · rintro ⟨e, he, hk, hv⟩
      exact ⟨e, m2 e he (fun q => hj (K.inj _ _ (hk.symm.trans q))), hk, hv⟩
    · rintro ⟨e, he, hk, hv⟩
      rcases m1 e he with ⟨h2, _⟩ | ⟨_, h2⟩
      · exact absurd (K.inj _ _ (hk.symm.trans h2)) hj
      · exact ⟨e, h2, hk, hv⟩
section
variable {P : Program} {n : Nat} {ops : Array Oper} {Q : Exit → Act → World → Prop} {rest : List Oper} {L : Env} {w : World} {d : Nat} {ty : TypeId} {pos : String} {aft : Array Edge}
theorem wl_makeMap (kv : κ → Value) {t : Nat} {As : List Th} (hS : Sat w As) (hd : Nat.blt d n = true) (hk : ∀ b w', Sat w' (mapT kv b (fun _ => none) :: As) → wl P n ops Q rest ((d, .map (some b)) :: L) w') : wl P n ops Q (⟨some d, .makeMap t none, ty, pos, aft, none⟩ :: rest) L w :=
  wl_does rfl hd (fun a _ => does_makeMap kv t rfl) (by
    rintro v w' ⟨rfl, h1, h2⟩
    have ho : Only [] w w' := by rw [h2]; exact (Only.refl _ _).alloc _
    exact hk _ _ (hS.new ho (A := mapT kv w.heap.size (fun _ => none)) ⟨rfl, _, _, h1, fun k v => by simp⟩ (fun k hk => by rw [hk]; exact Nat.le_refl _)))
theorem wl_lookup {mt kt et : TypeId} {x y : Operand} {b : Nat} {f : κ → Option Value} {As : List Th} {k : κ} {z : Value} (i : Nat) (hS : Sat w As) (K : KeyOk P kt kv) (hm : P.underlying mt = some (.map kt et)) (hi : As[i]? = some (mapT kv b f)) (hx : look L x = some (.map (some b))) (hy : look L y = some (kv k)) (hz : zeroOf P et = some (some z)) {u : Value} (hv : (f k).getD z = u) (hd : Nat.blt d n = true)
    (hk : wl P n ops Q rest ((d, u) :: L) w) : wl P n ops Q (⟨some d, .lookup mt x y false, ty, pos, aft, none⟩ :: rest) L w := by
  obtain ⟨es, c, h1, h2⟩ := hS.map i hi
  refine wl_does rfl hd (fun a ha => does_lookup mt x y rfl K hm h1 (ha.eval hx) (ha.eval hy) (run_zeroOf hz w)) ?_
  rintro v w' ⟨h3, rfl⟩
  have e : v = (f k).getD z := by
    rcases h3 with ⟨e, he, hkk, rfl⟩ | ⟨hn, rfl⟩
    · rw [(h2 k e.val).2 ⟨e, he, hkk, rfl⟩]; rfl
    · cases hf : f k with
      | none => rfl
      | some u => obtain ⟨e, he, hkk, _⟩ := (h2 k u).1 hf; exact absurd hkk (hn e he)
  subst e; subst hv
  exact hk
theorem wl_mapUpdate {mt kt et : TypeId} {x y z : Operand} {b : Nat} {f : κ → Option Value} {As : List Th} {k : κ} {v : Value} (i : Nat) (hS : Sat w As) (K : KeyOk P kt kv) (hm : P.underlying mt = some (.map kt et)) (hi : As[i]? = some (mapT kv b f)) (hx : look L x = some (.map (some b))) (hy : look L y = some (kv k)) (hz : look L z = some v)
    (hk : ∀ w', Sat w' (As.set i (mapT kv b (upd f k (some v)))) → wl P n ops Q rest L w') : wl P n ops Q (⟨none, .mapUpdate mt x y z, ty, pos, aft, none⟩ :: rest) L w := by
  obtain ⟨es, c, h1, h2⟩ := hS.map i hi
  refine wl_does rfl rfl (fun a ha => does_mapUpdate mt x y z rfl K hm h1 (ha.eval hx) (ha.eval hy) (ha.eval hz)) ?_
  rintro _ w' ⟨rfl, es', c', hp, h3, h4, _⟩
  exact hk w' (hS.map_set i hi h3 (h2.put K h1.stamped hp) h4)
end
end
end Go.Proofs.YtcbdclhoekokpaaGreatDoor.M
/- Rules for slices. Conditions: each rule's own hypotheses. -/
namespace Go.Proofs.YtcbdclhoekokpaaGreatDoor.M
open Go.RowKit
theorem Sat.drew {w : World} {As : List Th} (h : Sat w As) : Sat w.drew As := h.only ((Only.refl [] w).drew)
section
variable {P : Program} {n : Nat} {ops : Array Oper} {Q : Exit → Act → World → Prop} {rest : List Oper} {L : Env} {w : World} {d : Nat} {ty : TypeId} {pos : String} {aft : Array Edge}
theorem Sat.own_shape {As : List Th} (hS : Sat w As) (i : Nat) {v : Value} {m size : Nat} {xs : List Value} (hi : As[i]? = some (ownT v m size xs)) : ∃ ao cap, v = .slice ao m cap ∧ m ≤ cap ∧ xs.length = m * size := by
  obtain ⟨f, h⟩ := hS.own i hi
  obtain ⟨a, c, h1, h2⟩ := h.shape
  exact ⟨a, c, h1, h2, h.1⟩
theorem Sat.own_one {As : List Th} (hS : Sat w As) (i : Nat) {v : Value} {m size : Nat} {xs : List Value} (hi : As[i]? = some (ownT v m size xs)) : v.oneCell' = true := by
  obtain ⟨ao, cap, rfl, _⟩ := hS.own_shape i hi
  rfl
/-- an owned slice that is not empty: where it lies -/
theorem Sat.own_at {As : List Th} (hS : Sat w As) (i : Nat) {v : Value} {m size : Nat} {xs : List Value} (hi : As[i]? = some (ownT v m size xs)) (hm : 0 < m) : ∃ b cap, v = .slice (some ⟨b, 0, none⟩) m cap ∧ m ≤ cap := by
  obtain ⟨f, h⟩ := hS.own i hi
  obtain ⟨b, cap, sp, h1, h2, _⟩ := h.row hm
  exact ⟨b, cap, h1, h2⟩
theorem Sat.ocell {As : List Th} (hS : Sat w As) (i : Nat) {v u : Value} {m size b o k cap m' : Nat} {xs : List Value} (hi : As[i]? = some (ownT v m size xs)) (hv : v = .slice (some ⟨b, o, none⟩) m' cap) (hx : xs[k]? = some u) : w.cell? ⟨b, k, none⟩ = some u := by
  obtain ⟨f, h⟩ := hS.own i hi
  subst hv
  exact h.cell hx
theorem wl_lenO {As : List Th} (i : Nat) (hS : Sat w As) {x : Operand} {t e m size : Nat} {v : Value} {xs : List Value} (hu : P.underlying t = some (.slice e)) (hi : As[i]? = some (ownT v m size xs)) (hx : look L x = some v) (hd : Nat.blt d n = true) (hk : wl P n ops Q rest ((d, .int .i64 (m : Int)) :: L) w) : wl P n ops Q (⟨some d, .call ⟨.builtin .len, #[x], #[t]⟩, ty, pos, aft, none⟩ :: rest) L w := by
  obtain ⟨ao, cap, rfl, _⟩ := hS.own_shape i hi
  exact wl_lenL hu hx hd hk
/-- &x[j], x owned -/
theorem wl_indexO {As : List Th} (i j : Nat) (hS : Sat w As) {x y : Operand} {t sz m size : Nat} {k : IntKind} {a : Int} {v : Value} {xs : List Value} (hi : As[i]? = some (ownT v m size xs)) (hx : look L x = some v) (hy : look L y = some (.int k a)) (ha : a = (j : Int)) (hj : j < m) (hs : elemSz P t = some sz) (hd : Nat.blt d n = true)
    (hk : ∀ b cap, v = .slice (some ⟨b, 0, none⟩) m cap → wl P n ops Q rest ((d, ptrV b (j * sz)) :: L) w) : wl P n ops Q (⟨some d, .indexAddr t x y, ty, pos, aft, none⟩ :: rest) L w := by
  obtain ⟨b, cap, rfl, _⟩ := hS.own_at i hi (by omega)
  refine wl_indexAddr j hx hy ha hj hs hd ?_
  rw [Nat.zero_add]
  exact hk b cap rfl
theorem does_storeV {o : Oper} {a : Act} {t b off m : Nat} {x y : Operand} {u : Value} {cs : List Value} (ho : o.op = .store t x y) (hx : a.eval x = .pointer (some ⟨b, off, none⟩)) (hy : a.eval y = u) (hb : Blk w b cs) (hs : szOf P t = some m) (hm : u.cells.size = m) (hn : off + m ≤ cs.length) (h1 : ∀ v ∈ u.cells.toList, v.oneCell' = true) :
    does P o a w (fun v w' => v = undef ∧ Blk w' b (splice cs off u.cells.toList) ∧ Only [b] w w') := by
  obtain ⟨w', hr, hb', ho', hsz⟩ := run_storeCells_blk (P := P) u.cells.toList 0 cs w b off hb (by simp [hm]; omega) h1
  refine ⟨_, w', .inr ⟨?_, rfl⟩, rfl, hb', ho'⟩
  simp [execOp, ho, hx, hy, Instr.storeAt, Instr.sureAddr, storeVar, run_sizeOf hs, hm, hr]
/-- an owned slice is stored into: one cell, or several -/
theorem wl_storeO {As : List Th} (i : Nat) (hS : Sat w As) {x y : Operand} {t b o cap m m' q size : Nat} {v u : Value} {xs xs' : List Value} (hi : As[i]? = some (ownT v m size xs)) (hv : v = .slice (some ⟨b, 0, none⟩) m' cap) (hx : look L x = some (ptrV b o)) (hy : look L y = some u) (hs : szOf P t = some q) (hq : u.cells.size = q) (h1 : allOne u.cells.toList = true) (ho : o + q ≤ xs.length) (hxs : splice xs o u.cells.toList = xs')
    (hk : ∀ w', Sat w' (As.set i (ownT v m size xs')) → wl P n ops Q rest L w') : wl P n ops Q (⟨none, .store t x y, ty, pos, aft, none⟩ :: rest) L w := by
  subst hxs
  obtain ⟨f, hown⟩ := hS.own i hi
  subst hv
  obtain ⟨hl, ⟨h0, _⟩ | ⟨b', cap', sp, h0, hc, hb, hlen, rfl⟩⟩ := hown
  · cases h0
  · cases h0
    refine wl_does rfl rfl (fun a ha => does_storeV rfl (ha.eval hx) (ha.eval hy) hb hs hq (by simp; omega) (allOne_spec h1)) ?_
    rintro _ w' ⟨_, h2, h3⟩
    have hsl : (splice xs o u.cells.toList).length = xs.length := splice_length (by simp [hq]; omega)
    refine hk w' (hS.own_set i hi fun foot hown2 => ⟨[b], ?_, ?_, ?_⟩)
    · refine ⟨by rw [hsl]; exact hl, .inr ⟨b, cap, sp, rfl, hc, ?_, by rw [List.length_append, hsl, ← List.length_append]; exact hlen, rfl⟩⟩
      rw [splice_append_left (by simp [hq]; omega)] at h2
      exact h2
    · obtain ⟨_, ⟨h0, _⟩ | ⟨b2, cap2, sp2, h0, _, _, _, rfl⟩⟩ := hown2
      · cases h0
      · cases h0; exact h3
    · obtain ⟨_, ⟨h0, _⟩ | ⟨b2, cap2, sp2, h0, _, _, _, rfl⟩⟩ := hown2
      · cases h0
      · cases h0; exact fun k hk => .inl hk
/-- make([]T, m) -/
theorem wl_make {As : List Th} (hS : Sat w As) {t e size bytes : Nat} {x y : Operand} {z : Value} {kl kc : IntKind} {A : Int} (m : Nat) (hx : look L x = some (.int kl A)) (hy : look L y = some (.int kc A)) (hA : A = (m : Int)) (hu : P.underlying t = some (.slice e)) (hi : (P.info? e).map (fun i => (i.zero, i.size, i.bytes)) = some (some z, size, bytes)) (hz : z.cells.size = size) (hb : bytes * m ≤ 281474976710656) (hm : m ≤ 9223372036854775807) (hd : Nat.blt d n = true)
    (hk : ∀ b w', Sat w' (ownT (.slice (some ⟨b, 0, none⟩) m m) m size (List.replicate m z.cells.toList).flatten :: As) → wl P n ops Q rest ((d, .slice (some ⟨b, 0, none⟩) m m) :: L) w') : wl P n ops Q (⟨some d, .makeSlice t x y, ty, pos, aft, none⟩ :: rest) L w :=
  wl_does rfl hd (fun a ha => does_make t x y rfl (ha.eval hx) (ha.eval hy) hA hA (Nat.le_refl _) hu hi hz hb hm) (by
    rintro v w' ⟨rfl, h1, h2, _⟩
    refine hk _ _ (hS.new h2 (F' := fun k => k ∈ [w.heap.size]) (A := ownT _ _ _ _) ⟨[w.heap.size], rfl, own_of_blk (sp := []) (by simpa using h1) (by simp [hz]) (Nat.le_refl _) (by simp [hz])⟩ (fun k hk => by simp at hk; omega)))
/-- append(s, x...), both owned; or x read in any world with this heap -/
theorem wl_append {As : List Th} (i : Nat) (hS : Sat w As) {t t2 e size bytes m q : Nat} {s x : Operand} {z sv xv : Value} {d2 : TypeDesc} {xs news : List Value} (hi : As[i]? = some (ownT sv m size xs)) (hs : look L s = some sv) (hx : look L x = some xv) (hu : P.underlying t = some (.slice e)) (hu2 : P.underlying t2 = some d2) (hd2 : ∀ k, d2 ≠ .int k)
    (hif : (P.info? e).map (fun i => (i.zero, i.size, i.bytes)) = some (some z, size, bytes)) (hz : z.cells.size = size) (h0 : 0 < size) (hx1 : ∀ w1, (Builtin.lenOf xv).run P w1 = .ok q w1) (hx2 : ∀ w1 : World, w1.heap = w.heap → (Builtin.firstCells size q xv).run P w1 = .ok news.toArray w1) (hnl : news.length = q * size) (h1 : allOne news = true)
    (hb : (m + q) * bytes ≤ 140737488355328) (hm : m + q ≤ 9223372036854775807) (hd : Nat.blt d n = true) (hk : ∀ v w', Sat w' (As.set i (ownT v (m + q) size (xs ++ news))) → wl P n ops Q rest ((d, v) :: L) w') : wl P n ops Q (⟨some d, .call ⟨.builtin .append, #[s, x], #[t, t2]⟩, ty, pos, aft, none⟩ :: rest) L w := by
  obtain ⟨F, h⟩ := hS.own i hi
  refine wl_does rfl hd (R := fun v w' => Sat w' (As.set i (ownT v (m + q) size (xs ++ news)))) (fun a ha => ?_) (fun v w' hR => hk v w' hR)
  refine (does_append t t2 s x rfl (ha.eval hs) (ha.eval hx) h hu hu2 hd2 hif hz h0 hx1 hx2 hnl (allOne_spec h1) hb hm).mono ?_
  rintro v w' ⟨foot', hown, ho, hf, _⟩
  have hfoot : ∀ foot, Own w sv m size xs foot → foot = F := by
    intro foot h'
    obtain ⟨_, ⟨e1, _, rfl⟩ | ⟨b1, c1, s1, e1, _, _, _, rfl⟩⟩ := h
    · obtain ⟨_, ⟨e2, _, rfl⟩ | ⟨b2, c2, s2, e2, _, _, _, rfl⟩⟩ := h'
      · rfl
      · rw [e1] at e2; cases e2
    · obtain ⟨_, ⟨e2, _, rfl⟩ | ⟨b2, c2, s2, e2, _, _, _, rfl⟩⟩ := h'
      · rw [e1] at e2; cases e2
      · rw [e1] at e2; cases e2; rfl
  exact hS.own_set i hi fun foot h' => by rw [hfoot foot h'] at *; exact ⟨foot', hown, ho, hf⟩
theorem ev_loadA {x : Operand} {t b o m : Nat} {cs : List Value} (hx : look L x = some (ptrV b o)) (ha : aggB P t = some true) (hs : szOf P t = some m) (hb : Blk w b cs) (hm : o + m ≤ cs.length) {vs : List Value} (hvs : (cs.drop o).take m = vs) : Ev P L w ⟨some d, .load t x, ty, pos, aft, none⟩ (.agg vs.toArray) := by
  subst hvs
  exact fun ρ hρ => by simp [execOp, hρ _ _ hx, Instr.loadAt, Instr.sureAddr, loadVar, aggB_true ha, run_sizeOf hs, run_loadCells_blk hb o m hm]
theorem ev_build {t : Nat} {parts : List (Nat × Operand)} {vs : List Value} {V : Value} (hx : looks L (parts.map (·.2)) = some vs) (hr : ∀ w, (Instr.build t ((parts.map (·.1)).zip vs).toArray).run P w = .ok V w) : Ev P L w ⟨some d, .build t parts.toArray, ty, pos, aft, none⟩ V := fun ρ hρ => by
  have hev : ∀ (ps : List Operand) (us : List Value), looks L ps = some us → ps.map ρ = us := by
    intro ps
    induction ps with
    | nil => intro us h; simp [looks] at h; subst h; rfl
    | cons p ps ih =>
      intro us h
      simp only [looks] at h
      cases h1 : look L p with
      | none => simp [h1] at h
      | some v =>
        cases h2 : looks L ps with
        | none => simp [h1, h2] at h
        | some vs => simp [h1, h2] at h; subst h; simp [hρ _ _ h1, ih vs h2]
  have h1 := hev _ _ hx
  have he : (parts.toArray.map fun x => (x.1, ρ x.2)) = ((parts.map (·.1)).zip vs).toArray := by
    rw [← h1]
    apply Array.ext'
    simp
    clear hx hr h1 hev
    induction parts with
    | nil => rfl
    | cons p ps ih => simp [ih]
  have hr' := hr w
  rw [← he] at hr'
  simp only [execOp, Sem.run_bind, hr']
  rfl
/-- the row of an owned slice, and how it is owned again -/
theorem Sat.own_row {As : List Th} (hS : Sat w As) (i : Nat) {v : Value} {m size b o m' cap : Nat} {xs : List Value} (hi : As[i]? = some (ownT v m size xs)) (hv : v = .slice (some ⟨b, o, none⟩) m' cap) :
    ∃ sp, Blk w b (xs ++ sp) ∧ ∀ (w' : World) (xs' : List Value), xs'.length = xs.length → Blk w' b (xs' ++ sp) → Only [b] w w' → Sat w' (As.set i (ownT v m size xs')) := by
  obtain ⟨f, hown⟩ := hS.own i hi
  obtain ⟨hl, ⟨h0, _⟩ | ⟨b', cap', sp, h0, hc, hb, hlen, rfl⟩⟩ := hown
  · rw [hv] at h0; cases h0
  · have h00 := h0
    rw [hv] at h00; cases h00
    refine ⟨sp, hb, fun w' xs' hx' hb' ho => hS.own_set i hi fun foot hown2 => ⟨[b], ⟨by rw [hx']; exact hl, .inr ⟨b, cap, sp, h0, hc, hb', by rw [List.length_append, hx', ← List.length_append]; exact hlen, rfl⟩⟩, ?_, ?_⟩⟩
    · obtain ⟨_, ⟨h1, _⟩ | ⟨b2, cap2, sp2, h1, _, _, _, rfl⟩⟩ := hown2
      · rw [h0] at h1; cases h1
      · rw [h0] at h1; cases h1; exact ho
    · obtain ⟨_, ⟨h1, _⟩ | ⟨b2, cap2, sp2, h1, _, _, _, rfl⟩⟩ := hown2
      · rw [h0] at h1; cases h1
      · rw [h0] at h1; cases h1; exact fun k hk => .inl hk
/-- string(x), x a part of an owned slice of bytes -/
theorem ev_strB {As : List Th} (i : Nat) (hS : Sat w As) {x : Operand} {sT dT e b o off m m' cap dl dc : Nat} {v : Value} (l : List UInt8) {xs : List Value} (hi : As[i]? = some (ownT v m 1 xs)) (hv : v = .slice (some ⟨b, o, none⟩) m' cap) (hx : look L x = some (.slice (some ⟨b, off, none⟩) dl dc)) (hs : P.underlying sT = some (.slice e)) (he : P.underlying e = some (.int .u8)) (hd : P.underlying dT = some .string) (hl : (xs.drop off).take dl = bytesV l) (hn : l.length = dl) : Ev P L w ⟨some d, .convert sT dT x, ty, pos, aft, none⟩ (strV l) := fun ρ hρ => by
  obtain ⟨sp, hb, _⟩ := hS.own_row i hi hv
  subst hn
  have hr := run_convert_bytes_back (P := P) w sT dT e ⟨b, off, none⟩ dc l hs he hd (fun j hj => by
    rw [addr_add]
    refine hb.cell ?_
    have h1 := congrArg (fun q => q[j]?) hl
    simp only [List.getElem?_take, hj, if_true, List.getElem?_drop, bytesV_get] at h1
    have hlt : off + j < xs.length := by
      rcases Nat.lt_or_ge (off + j) xs.length with g | g
      · exact g
      · rw [List.getElem?_eq_none g, List.getElem?_eq_getElem hj] at h1; cases h1
    rw [List.getElem?_append_left hlt, h1, List.getElem?_eq_getElem hj]; rfl)
  simp [execOp, hρ _ _ hx, hr]
theorem wl_makeFunc {f : Nat} {cap : List Operand} {vs : List Value} (hx : looks L cap = some vs) (hd : Nat.blt d n = true) (hk : wl P n ops Q rest ((d, .func (.func f) #[] vs.toArray) :: L) w) : wl P n ops Q (⟨some d, .makeFunc (.func f) #[] cap.toArray, ty, pos, aft, none⟩ :: rest) L w := by
  refine wl_does rfl hd (R := fun v w' => v = .func (.func f) #[] vs.toArray ∧ w' = w) (fun a ha => ⟨_, _, .inl ?_, rfl, rfl⟩) ?_
  · have h1 := ha.evals hx
    simp [execOp, Instr.makeFunc, h1]
  · rintro v w' ⟨rfl, rfl⟩; exact hk
/-- the places of some fields of a struct: offset and size -/
def structPl (P : Program) (t : Nat) (idx : List Nat) : Option (List (Nat × Nat)) := match P.underlying t with
  | some (.struct fs) => idx.mapM fun i => match fs[i]? with
    | some f => (szOf P f.type).map fun n => (f.offset, n)
    | none => none
  | _ => none
def allSz (P : Program) (t : Nat) : Bool := match P.underlying t with
  | some (.struct fs) => fs.toList.all fun f => (szOf P f.type).isSome
  | _ => false
def fillL (z : List Value) : List (Nat × Nat) → List Value → List Value
  | p :: ps, v :: vs => fillL (splice z p.1 v.cells.toList) ps vs
  | _, _ => z
def fillOk (m : Nat) : List (Nat × Nat) → List Value → Bool
  | p :: ps, v :: vs => Nat.beq v.cells.size p.2 && Nat.ble (p.1 + p.2) m && fillOk m ps vs
  | [], [] => true
  | _, _ => false
theorem fold_splice : ∀ (vs : List Value) (k off : Nat) (cs : Array Value), off + k + vs.length ≤ cs.size → ((vs.zipIdx k).foldl (fun cs (c, j) => cs.setIfInBounds (off + j) c) cs).toList = splice cs.toList (off + k) vs
  | [], k, off, cs, _ => by simp [splice]
  | v :: vs, k, off, cs, h => by
    simp only [List.zipIdx_cons, List.foldl_cons]
    rw [fold_splice vs (k + 1) off _ (by simp at h ⊢; omega)]
    simp only [Array.toList_setIfInBounds]
    have e := list_seg_step cs.toList (off + k) v vs (by simp at h ⊢; omega)
    unfold splice
    rw [← Nat.add_assoc]
    simpa using e
theorem fill_fillL (place : Nat → Option (Nat × Nat)) : ∀ (idx : List Nat) (pls : List (Nat × Nat)) (vs : List Value) (cells : Array Value), idx.map place = pls.map some → fillOk cells.size pls vs = true → Instr.fill place cells (idx.zip vs) = some (fillL cells.toList pls vs).toArray
  | [], [], [], cells, _, _ => by simp [Instr.fill, fillL]
  | [], [], _ :: _, _, _, h => by simp [fillOk] at h
  | [], _ :: _, _, _, h, _ => by simp at h
  | _ :: _, [], _, _, h, _ => by simp at h
  | i :: idx, p :: pls, [], cells, _, h => by simp [fillOk] at h
  | i :: idx, p :: pls, v :: vs, cells, he, h => by
    simp only [List.map_cons, List.cons.injEq] at he
    simp only [fillOk, Bool.and_eq_true] at h
    obtain ⟨⟨h1, h2⟩, h3⟩ := h
    have h1 := Nat.eq_of_beq_eq_true h1
    have h2 := Nat.le_of_ble_eq_true h2
    have hf := fold_splice v.cells.toList 0 p.1 cells (by simp [h1]; omega)
    have hf2 : (v.cells.zipIdx.foldl (fun cs (c, j) => cs.setIfInBounds (p.1 + j) c) cells).toList = splice cells.toList p.1 v.cells.toList := by
      rw [← Array.foldl_toList, Array.toList_zipIdx]
      simpa using hf
    have hs : (v.cells.zipIdx.foldl (fun cs (c, j) => cs.setIfInBounds (p.1 + j) c) cells).size = cells.size := by
      have := congrArg List.length hf2
      rw [splice_length (by simp [h1]; omega)] at this
      simpa using this
    simp only [List.zip_cons_cons, Instr.fill, he.1]
    rw [if_neg (by simp [h1]; omega), fill_fillL place idx pls vs _ he.2 (by rw [hs]; exact h3), hf2]
    rfl
/-- []T{..} -/
theorem wl_buildSlice {As : List Th} (hS : Sat w As) {t e size len : Nat} {z : Value} {parts : List (Nat × Operand)} {vs : List Value} (hx : looks L (parts.map (·.2)) = some vs) (hu : P.underlying t = some (.slice e)) (hi : (P.info? e).map (fun i => (i.zero, i.size)) = some (some z, size)) (hlen : Nat.ble (len * size) 1000 = true) (hzs : z.cells.size = size)
    (hok : fillOk (len * size) ((parts.map (·.1)).map fun i => (i * size, size)) vs = true) (hd : Nat.blt d n = true)
    (hk : ∀ b w', Sat w' (ownT (.slice (some ⟨b, 0, none⟩) len len) len size (fillL (List.replicate len z.cells.toList).flatten ((parts.map (·.1)).map fun i => (i * size, size)) vs) :: As) → wl P n ops Q rest ((d, .slice (some ⟨b, 0, none⟩) len len) :: L) w') : wl P n ops Q (⟨some d, .buildSlice t len parts.toArray, ty, pos, aft, none⟩ :: rest) L w := by
  obtain ⟨ii, hi1, hi2⟩ := Option.map_eq_some_iff.1 hi
  simp only [Prod.mk.injEq] at hi2
  have hle : len * size ≤ 1000 := Nat.le_of_ble_eq_true hlen
  have hzl : ((Array.range (len * size)).map (z.cells[· % z.cells.size]!)).toList = (List.replicate len z.cells.toList).flatten := by
    rw [← hzs]; exact madeCells_toList z.cells len
  have hzsz : ((Array.range (len * size)).map (z.cells[· % z.cells.size]!)).size = len * size := by simp
  have hf := fill_fillL (fun i => some (i * size, size)) (parts.map (·.1)) ((parts.map (·.1)).map fun i => (i * size, size)) vs ((Array.range (len * size)).map (z.cells[· % z.cells.size]!)) (by simp [Function.comp_def]) (by rw [hzsz]; exact hok)
  rw [hzl] at hf
  generalize hcs : fillL (List.replicate len z.cells.toList).flatten ((parts.map (·.1)).map fun i => (i * size, size)) vs = cells at hf hk
  have hcl : cells.length = len * size := by
    have hgen : ∀ (pls : List (Nat × Nat)) (vs : List Value) (zz : List Value), fillOk zz.length pls vs = true → (fillL zz pls vs).length = zz.length := by
      intro pls
      induction pls with
      | nil => intro vs zz _; cases vs <;> rfl
      | cons p pls ih =>
        intro vs zz h
        cases vs with
        | nil => rfl
        | cons v vs =>
          simp only [fillOk, Bool.and_eq_true] at h
          have h1 := Nat.eq_of_beq_eq_true h.1.1
          have h2 := Nat.le_of_ble_eq_true h.1.2
          have hl : (splice zz p.1 v.cells.toList).length = zz.length := splice_length (by simp [h1]; omega)
          simp only [fillL]
          rw [ih vs _ (by rw [hl]; exact h.2), hl]
    have hzl2 : (List.replicate len z.cells.toList).flatten.length = len * size := by simp [hzs]
    rw [← hcs, hgen _ _ _ (by rw [hzl2]; exact hok), hzl2]
  refine wl_does rfl hd (R := fun v w' => v = .slice (some ⟨w.heap.size, 0, none⟩) len len ∧ w' = w.alloc (.cells cells.toArray e)) (fun a ha => ⟨_, _, .inl ?_, rfl, rfl⟩) ?_
  · have hzv : (zeroValue e).run P w = .ok z w := by simp [zeroValue, typeInfo, hi1, hi2.1]
    have hso : (sizeOf e).run P w = .ok size w := by simp [sizeOf, typeInfo, hi1, hi2.2]
    have hev := ha.evals hx
    have hp : (parts.toArray.map fun (i, x) => (i, a.eval x)).toList = (parts.map (·.1)).zip vs := by
      rw [← hev]
      simp
      clear hev hx hf hcs hok
      induction parts with
      | nil => rfl
      | cons p ps ih => simp [ih]
    have hno : ¬ (2 ^ 24 < len * size) := by omega
    by_cases hz0 : len * size = 0
    · have hf' : Instr.fill (fun i => some (i * size, size)) #[] ((parts.map (·.1)).zip vs) = some cells.toArray := by
        rw [hz0, show Array.range 0 = #[] from rfl] at hf; simpa using hf
      simp only [execOp, Instr.buildSlice]
      have hr0 : Array.range 0 = #[] := rfl
      simp [run_underlying hu, hso, hz0, newRow, hr0]
      simp at hp
      rw [hp, hf']
      simp
    · simp only [execOp, Instr.buildSlice]
      simp [run_underlying hu, hso, hz0, hno, hzv, newRow]
      simp at hp
      rw [hp, hf]
      simp
  · rintro v w' ⟨rfl, rfl⟩
    exact hk _ _ (hS.new ((Only.refl _ _).alloc _) (F' := fun k => k ∈ [w.heap.size]) (A := ownT _ _ _ _) ⟨[w.heap.size], rfl, own_of_blk (sp := []) (by simpa using Blk.new w cells e) (by simpa using hcl) (Nat.le_refl _) (by simpa using hcl)⟩ (fun k hk => by simp at hk; omega))
theorem ev_buildS {t : Nat} {parts : List (Nat × Operand)} {vs : List Value} {pls : List (Nat × Nat)} {z : List Value} (hx : looks L (parts.map (·.2)) = some vs) (hp : structPl P t (parts.map (·.1)) = some pls) (ha : allSz P t = true) (hz : zeroOf P t = some (some (.agg z.toArray))) (hok : fillOk z.length pls vs = true) : Ev P L w ⟨some d, .build t parts.toArray, ty, pos, aft, none⟩ (.agg (fillL z pls vs).toArray) := by
  refine ev_build hx fun w => ?_
  unfold structPl at hp
  unfold allSz at ha
  split at hp
  · rename_i fs hu
    rw [hu] at ha
    simp only at ha
    have hm : ∀ (l : List Field), (∀ f ∈ l, (szOf P f.type).isSome = true) → ∃ ps : List (Nat × Nat), ps = l.map (fun f => (f.offset, (szOf P f.type).getD 0)) ∧ (l.mapM (m := Sem) fun f => Prod.mk f.offset <$> sizeOf f.type).run P w = .ok ps w := by
      intro l
      induction l with
      | nil => intro _; exact ⟨[], rfl, by simp⟩
      | cons f l ih =>
        intro h
        obtain ⟨ps, h1, h2⟩ := ih (fun g hg => h g (by simp [hg]))
        obtain ⟨q, hq⟩ := Option.isSome_iff_exists.1 (h f (by simp))
        refine ⟨(f.offset, q) :: ps, by simp [h1, hq], ?_⟩
        simp [List.mapM_cons, run_sizeOf hq, h2]
    obtain ⟨ps, hps, hrun⟩ := hm fs.toList (fun f hf => List.all_eq_true.1 ha f hf)
    have hrun' : (fs.mapM (m := Sem) fun f => Prod.mk f.offset <$> sizeOf f.type).run P w = .ok ps.toArray w := by
      rw [Array.mapM_eq_mapM_toList]
      simp [hrun]
    have hpl : (parts.map (·.1)).map (fun i => ps.toArray[i]?) = pls.map some := by
      clear hok hx hz hrun hrun'
      generalize parts.map (·.1) = idx at hp
      induction idx generalizing pls with
      | nil => simp at hp; subst hp; rfl
      | cons i idx ih =>
        rw [List.mapM_cons] at hp
        simp only [Option.bind_eq_bind, Option.bind_eq_some_iff, Option.pure_def, Option.some.injEq] at hp
        obtain ⟨p, hp1, qs, hp2, rfl⟩ := hp
        simp only [List.map_cons, ih hp2, List.cons.injEq, and_true]
        cases hfi : fs[i]? with
        | none => simp [hfi] at hp1
        | some f =>
          simp only [hfi, Option.map_eq_some_iff] at hp1
          obtain ⟨q, hq, rfl⟩ := hp1
          rw [hps]
          have : fs.toList[i]? = some f := by simpa using hfi
          simp [hfi, hq]
    have hfill := fill_fillL (fun i => ps.toArray[i]?) (parts.map (·.1)) pls vs z.toArray hpl (by simpa using hok)
    simp only [List.getElem?_toArray] at hfill
    simp [Instr.build, run_zeroOf hz, Value.cells, run_underlying hu, hrun']
    rw [hfill]; rfl
  · cases hp
theorem wl_buildS {t : Nat} {parts : List (Nat × Operand)} {vs : List Value} {pls : List (Nat × Nat)} {z : List Value} (hx : looks L (parts.map (·.2)) = some vs) (hp : structPl P t (parts.map (·.1)) = some pls) (ha : allSz P t = true) (hz : zeroOf P t = some (some (.agg z.toArray))) (hok : fillOk z.length pls vs = true) (hd : Nat.blt d n = true) (hk : wl P n ops Q rest ((d, .agg (fillL z pls vs).toArray) :: L) w) : wl P n ops Q (⟨some d, .build t parts.toArray, ty, pos, aft, none⟩ :: rest) L w :=
  wl_val hd (ev_buildS hx hp ha hz hok) hk
end
end Go.Proofs.YtcbdclhoekokpaaGreatDoor.M
/- Rules for ranging over maps, for values in interfaces, and for calls into the model's own entries. Conditions: each rule's own hypotheses. -/
namespace Go.Proofs.YtcbdclhoekokpaaGreatDoor.M
open Go.RowKit
section
variable {κ : Type} {kv : κ → Value}
def notSeen (es : Array MapEntry) (seen : Array Nat) : List MapEntry := es.toList.filter fun e => !seen.toList.contains e.born
/-- a map that is being ranged over: what it says, which keys have been met, the last one met, and how many are still to come -/
def rangeT (kv : κ → Value) (b r : Nat) (g : κ → Option Value) (dn : κ → Prop) (cur : Option κ) (left : Nat) : Th where
  at_ := fun w F => (F = fun k => k = b ∨ k = r) ∧ b ≠ r ∧ ∃ es clock seen, MapAt kv w b es clock ∧ Reads kv es g ∧ IterAt w r b clock seen clock ∧ (∀ e ∈ es.toList, ∀ k, e.key = kv k → (e.born ∈ seen.toList ↔ dn k)) ∧ (notSeen es seen).length = left ∧
    (∀ k, cur = some k → ∃ (s0 : Array Nat) (e : MapEntry), seen = s0.push e.born ∧ e ∈ es.toList ∧ e.key = kv k)
  fr := fun {w w2 F} a h => by
    obtain ⟨e, hne, es, c, sn, h1, h2, h3, h4⟩ := h
    have hb := a.blk b (by rw [e]; exact .inl rfl)
    have hr := a.blk r (by rw [e]; exact .inr rfl)
    exact ⟨e, hne, es, c, sn, h1.congr hb, h2, by unfold IterAt at h3 ⊢; rw [hr]; exact h3, h4⟩
  lt := fun h k hk => by
    obtain ⟨e, _, es, c, sn, h1, _, h3, _⟩ := h
    rw [e] at hk
    rcases hk with rfl | rfl
    · exact h1.lt
    · exact h3.lt
theorem range_map {w : World} {As : List Th} {b r : Nat} {g : κ → Option Value} {dn : κ → Prop} {cur : Option κ} {left : Nat} (h : Sat w (rangeT kv b r g dn cur left :: As)) : Sat w (mapT kv b g :: As) := by
  obtain ⟨F, F1, F2, rfl, d, ⟨e, _, es, c, sn, h1, h2, _⟩, g2⟩ := h
  exact ⟨_, fun k => k = b, F2, rfl, fun k hk hf => d k (by rw [e]; exact .inl hk) hf, ⟨rfl, es, c, h1, h2⟩, g2⟩
section
variable {P : Program} {n : Nat} {ops : Array Oper} {Q : Exit → Act → World → Prop} {rest : List Oper} {L : Env} {w : World} {d : Nat} {ty : TypeId} {pos : String} {aft : Array Edge}
theorem wl_range {mt kt et : TypeId} {x : Operand} {b : Nat} {f : κ → Option Value} {As : List Th} (i : Nat) (hS : Sat w As) (hm : P.underlying mt = some (.map kt et)) (hi : As[i]? = some (mapT kv b f)) (hx : look L x = some (.map (some b))) (hd : Nat.blt d n = true)
    (hk : ∀ r left w', Sat w' (As.set i (rangeT kv b r f (fun _ => False) none left)) → wl P n ops Q rest ((d, ptrV r 0) :: L) w') : wl P n ops Q (⟨some d, .range mt x, ty, pos, aft, none⟩ :: rest) L w := by
  obtain ⟨es, c, h1, h2⟩ := hS.map i hi
  refine wl_does rfl hd (fun a ha => does_range mt x rfl hm h1 (ha.eval hx)) ?_
  rintro v w' ⟨rfl, h3, h4⟩
  have ho : Only [] w w' := by rw [h4]; exact (Only.refl _ _).alloc _
  refine hk w.heap.size _ w' (hS.step i hi fun F ⟨e, _⟩ => ⟨fun k => k = b ∨ k = w.heap.size, ⟨rfl, ?_, es, c, #[], ?_, h2, h3, by simp, rfl, by simp⟩, ?_, ?_⟩)
  · have := h1.lt; omega
  · exact h1.congr (ho.block b h1.lt (by simp))
  · rintro k (rfl | rfl)
    · exact .inl (by rw [e])
    · exact .inr (Nat.le_refl _)
  · exact ⟨ho.os, ho.tape, ho.output, fun k hk => ho.block k hk.1 (by simp)⟩
theorem wl_next {x : Operand} {b r left : Nat} {g : κ → Option Value} {dn : κ → Prop} {cur : Option κ} {As : List Th} (i : Nat) (hS : Sat w As) (hinj : ∀ a b, kv a = kv b → a = b) (hi : As[i]? = some (rangeT kv b r g dn cur left)) (hx : look L x = some (ptrV r 0)) (hd : Nat.blt d n = true)
    (h0 : (∀ k v, g k = some v → dn k) → wl P n ops Q rest ((d, .tuple #[.bool false]) :: L) w)
    (h1 : ∀ k v left' w', left = left' + 1 → g k = some v → ¬ dn k → Sat w' (As.set i (rangeT kv b r g (fun j => dn j ∨ j = k) (some k) left')) → wl P n ops Q rest ((d, .tuple #[.bool true, kv k, v]) :: L) w') : wl P n ops Q (⟨some d, .next x false, ty, pos, aft, none⟩ :: rest) L w := by
  obtain ⟨F, hF, hne, es, c, sn, m1, m2, m3, m4, m5, m6⟩ := hS.get i hi
  refine wl_does rfl hd (fun a ha => does_next x rfl m1 m3 (ha.eval hx)) ?_
  rintro v w' (⟨rfl, rfl, hall⟩ | ⟨e, he, hns, rfl, ho, hit, hsz⟩)
  · refine h0 fun k v hk => ?_
    obtain ⟨e, he, hkk, _⟩ := (m2 k v).1 hk
    exact (m4 e he k hkk).1 (hall e he)
  · obtain ⟨k, hk⟩ := m1.keys e he
    have hgk : g k = some e.val := (m2 k e.val).2 ⟨e, he, hk, rfl⟩
    have hcnt : (notSeen es (sn.push e.born)).length + 1 = (notSeen es sn).length := by
      unfold notSeen
      have hnd := m1.stamped.2.1
      have hmem : ∀ l : List MapEntry, (l.map (·.born)).Nodup → e ∈ l → (l.filter fun x => !(sn.push e.born).toList.contains x.born).length + 1 = (l.filter fun x => !sn.toList.contains x.born).length := by
        intro l
        induction l with
        | nil => intro _ h; cases h
        | cons y l ih =>
          intro hn hy
          simp only [List.map_cons, List.nodup_cons] at hn
          rcases List.mem_cons.1 hy with rfl | hy
          · have h1 : (!(sn.push e.born).toList.contains e.born) = false := by simp
            have h2 : (!sn.toList.contains e.born) = true := by simpa using hns
            have h3 : l.filter (fun x => !(sn.push e.born).toList.contains x.born) = l.filter fun x => !sn.toList.contains x.born := by
              apply List.filter_congr
              intro x hx
              have : x.born ≠ e.born := fun q => hn.1 (List.mem_map.2 ⟨x, hx, q⟩)
              simp [this]
            rw [List.filter_cons, List.filter_cons, h1, h2, h3]; simp
          · have hne2 : y.born ≠ e.born := fun q => hn.1 (List.mem_map.2 ⟨e, hy, q.symm⟩)
            have h1 : (!(sn.push e.born).toList.contains y.born) = (!sn.toList.contains y.born) := by simp [hne2]
            have := ih hn.2 hy
            rw [List.filter_cons, List.filter_cons, h1]
            split
            · simp only [List.length_cons]; omega
            · exact this
      exact hmem es.toList hnd he
    rw [hk]
    refine h1 k e.val (notSeen es (sn.push e.born)).length w' (by omega) hgk (fun q => hns ((m4 e he k hk).2 q)) (hS.step i hi fun F2 h2 => ?_)
    have hF2 := h2.1
    refine ⟨fun k => k = b ∨ k = r, ⟨rfl, hne, es, c, sn.push e.born, m1.congr (ho.block b m1.lt (by simpa using hne)), m2, hit, ?_, rfl, ?_⟩, fun q hq => .inl (by rw [hF2]; exact hq), ho.agree (fun x hx => .inl (by simp only [List.mem_singleton] at hx; subst hx; rw [hF2]; exact .inr rfl))⟩
    · intro e2 he2 j hj
      simp only [Array.toList_push, List.mem_append, List.mem_singleton]
      rw [m4 e2 he2 j hj]
      constructor
      · rintro (h | h)
        · exact .inl h
        · have : e2 = e := by
            obtain ⟨p, hp⟩ := List.mem_iff_getElem?.1 he2
            obtain ⟨q, hq⟩ := List.mem_iff_getElem?.1 he
            have := born_idx m1.stamped.2.1 hp hq h
            subst this; rw [hp] at hq; exact Option.some.inj hq
          subst this
          exact .inr (hinj _ _ (hj.symm.trans hk))
      · rintro (h | h)
        · exact .inl h
        · subst h
          exact .inr (by rw [key_one m1.stamped.2.2 he2 he (hj.trans hk.symm)])
    · intro j hj
      cases hj
      exact ⟨sn, e, rfl, he, hk⟩
theorem wl_entry {x : Operand} {b r left : Nat} {g : κ → Option Value} {dn : κ → Prop} {k : κ} {v : Value} {As : List Th} (i : Nat) (hS : Sat w As) (hi : As[i]? = some (rangeT kv b r g dn (some k) left)) (hg : g k = some v) (hx : look L x = some (ptrV r 0)) (hd : Nat.blt d n = true)
    (hk : wl P n ops Q rest ((d, .tuple #[kv k, v]) :: L) w) : wl P n ops Q (⟨some d, .entry x, ty, pos, aft, none⟩ :: rest) L w := by
  obtain ⟨F, hF, hne, es, c, sn, m1, m2, m3, m4, m5, m6⟩ := hS.get i hi
  obtain ⟨s0, e, rfl, he, hke⟩ := m6 k rfl
  have hv : v = e.val := by have := (m2 k e.val).2 ⟨e, he, hke, rfl⟩; rw [hg] at this; exact Option.some.inj this
  subst hv
  refine wl_does rfl hd (fun a ha => does_entry x rfl m1 m3 he (ha.eval hx)) ?_
  rintro u w' ⟨rfl, rfl⟩
  rw [hke]; exact hk
def notIface (P : Program) (t : Nat) : Bool := match P.underlying t with | some (.interface _) => false | some _ => true | none => false
theorem wl_makeIface {x : Operand} {t : TypeId} {v : Value} (ht : notIface P t = true) (hx : look L x = some v) (hd : Nat.blt d n = true) (hk : wl P n ops Q rest ((d, .iface t v) :: L) w) : wl P n ops Q (⟨some d, .makeInterface t x, ty, pos, aft, none⟩ :: rest) L w :=
  wl_val hd (fun ρ hρ => by
    unfold notIface at ht
    cases hu : P.underlying t with
    | none => rw [hu] at ht; cases ht
    | some dd =>
      rw [hu] at ht
      simp only [execOp, hρ _ _ hx, Instr.makeInterface]
      cases dd <;> simp [run_underlying hu] <;> simp at ht) hk
end
section
variable {P : Program} {n : Nat} {ops : Array Oper} {Q : Exit → Act → World → Prop} {rest : List Oper} {L : Env} {w : World} {d : Nat} {ty : TypeId} {pos : String} {aft : Array Edge}
end
end
end Go.Proofs.YtcbdclhoekokpaaGreatDoor.M
