/- A region that draws its order: its first n operations may make memory and call, each has a predicate of its own on what it gives; the rest follows in one order. -/
import Derived.Test.YtpcchkkpligemaaMem
import Derived.StillTail
namespace Go.Proofs.Ytpcchkkpligemaa.M
open Go.RowKit

/-- the values ys in the slots of the operations -/
def putAll : Nat → List Oper → (Nat → Value) → Act → Act
  | _, [], _, a => a
  | i, o :: rest, ys, a => putAll (i + 1) rest ys (a.put o.dst (ys i))

/-- what steps leave as it is: an order on worlds, in which those that change nothing that was there are -/
class Frm (E : World → World → Prop) : Prop where
  refl : ∀ w, E w w
  trans : ∀ {a b c}, E a b → E b c → E a c
  only : ∀ {a b}, Only [] a b → E a b
instance : Frm (Only []) := ⟨Only.refl [], fun h k => h.trans0 k, fun h => h⟩

/-- what was true of a value when it was made, seen from a later world -/
def St (E : World → World → Prop) (Rs : Nat → Value → World → Prop) (i : Nat) (v : Value) (w : World) : Prop := ∃ w1, E w1 w ∧ Rs i v w1

def predsOf (E : World → World → Prop) (Rs : Nat → Value → World → Prop) (ys : Nat → Value) (w : World) : List Edge → Prop
  | [] => True
  | e :: es => (Region.binds .any e = true → St E Rs e.on (ys e.on) w) ∧ predsOf E Rs ys w es

@[irreducible] def stepOf (P : Program) (ops : Array Oper) (E : World → World → Prop) (Rs : Nat → Value → World → Prop) (i : Nat) (o : Oper) (a : Act) (w : World) : Prop :=
  if Region.wanted o (yielded ops a.tmps) then o.wp P a w (fun a' w' => ∃ v, a' = a.put o.dst v ∧ E w w' ∧ Rs i v w') (fun _ _ _ => False) else Rs i undef w

def famSteps (P : Program) (ops : Array Oper) (head : List Oper) (a : Act) (w : World) (E : World → World → Prop) (Rs : Nat → Value → World → Prop) : Nat → List Oper → Prop
  | _, [] => True
  | i, o :: rest => (∀ (ys : Nat → Value) (w' : World), E w w' → predsOf E Rs ys w' o.after.toList → stepOf P ops E Rs i o (putAll 0 head ys a) w') ∧ famSteps P ops head a w E Rs (i + 1) rest

theorem famSteps_get {P : Program} {ops : Array Oper} {head : List Oper} {a : Act} {w : World} {E : World → World → Prop} {Rs : Nat → Value → World → Prop} : ∀ (l : List Oper) (k : Nat), famSteps P ops head a w E Rs k l → ∀ (j : Nat) (o : Oper), l[j]? = some o →
    ∀ (ys : Nat → Value) (w' : World), E w w' → predsOf E Rs ys w' o.after.toList → stepOf P ops E Rs (k + j) o (putAll 0 head ys a) w'
  | [], _, _, _, _, hj => by simp at hj
  | q :: l, k, h, j, o, hj => by
    cases j with
    | zero => simp at hj; subst hj; exact h.1
    | succ j =>
      simp at hj
      have := famSteps_get l (k + 1) h.2 j o hj
      rwa [show k + 1 + j = k + (j + 1) by omega] at this

theorem predsOf_mk {E : World → World → Prop} {Rs : Nat → Value → World → Prop} {ys : Nat → Value} {w : World} : ∀ (es : List Edge), (∀ e ∈ es, Region.binds .any e = true → St E Rs e.on (ys e.on) w) → predsOf E Rs ys w es
  | [], _ => trivial
  | e :: es, h => ⟨h e (by simp), predsOf_mk es (fun x hx => h x (by simp [hx]))⟩

theorem put_tmps (a : Act) (d : Nat) (v : Value) : a.put (some d) v = { a with tmps := a.tmps.setIfInBounds d v } := rfl

theorem put_comm (a : Act) {d d' : Option Nat} (h : d ≠ d' ∨ d = none) (v v' : Value) : (a.put d v).put d' v' = (a.put d' v').put d v := by
  cases d with
  | none => cases d' <;> rfl
  | some x =>
    cases d' with
    | none => rfl
    | some y =>
      have hxy : x ≠ y := by rcases h with h | h; exact fun e => h (by rw [e]); cases h
      simp only [put_tmps]
      congr 1
      exact Array.setIfInBounds_comm _ _ hxy

theorem put_put (a : Act) (d : Option Nat) (v v' : Value) : (a.put d v).put d v' = a.put d v' := by
  cases d with
  | none => rfl
  | some x =>
    simp only [put_tmps]
    congr 1
    simp

theorem putAll_put : ∀ (l : List Oper) (i : Nat) (ys : Nat → Value) (a : Act) (d : Option Nat) (v : Value), (∀ o ∈ l, o.dst ≠ d) → putAll i l ys (a.put d v) = (putAll i l ys a).put d v
  | [], _, _, _, _, _, _ => rfl
  | o :: l, i, ys, a, d, v, h => by
    simp only [putAll]
    rw [put_comm a (.inl (fun e => h o (by simp) e.symm)), putAll_put l (i + 1) ys _ d v (fun q hq => h q (by simp [hq]))]

theorem putAll_congr : ∀ (l : List Oper) (i : Nat) (ys zs : Nat → Value) (a : Act), (∀ j, i ≤ j → ys j = zs j) → putAll i l ys a = putAll i l zs a
  | [], _, _, _, _, _ => rfl
  | o :: l, i, ys, zs, a, h => by
    simp only [putAll]
    rw [h i (Nat.le_refl _)]
    exact putAll_congr l (i + 1) ys zs _ (fun j hj => h j (by omega))

/-- one of them put anew -/
theorem putAll_upd : ∀ (l : List Oper) (i : Nat) (ys : Nat → Value) (a : Act) (k : Nat) (o : Oper) (v : Value), (l.map (·.dst)).Nodup → l[k]? = some o →
    (putAll i l ys a).put o.dst v = putAll i l (fun j => if j = i + k then v else ys j) a
  | [], _, _, _, _, _, _, _, h => by simp at h
  | q :: l, i, ys, a, k, o, v, hn, hk => by
    simp only [List.map_cons, List.nodup_cons] at hn
    cases k with
    | zero =>
      simp at hk; subst hk
      simp only [putAll, Nat.add_zero, if_true]
      rw [← putAll_put l (i + 1) ys _ q.dst v (fun x hx e => hn.1 (by rw [← e]; exact List.mem_map_of_mem hx)), put_put]
      exact putAll_congr l (i + 1) _ _ _ (fun j hj => by rw [if_neg (by omega)])
    | succ k =>
      simp at hk
      simp only [putAll]
      rw [putAll_upd l (i + 1) ys _ k o v hn.2 hk, if_neg (by omega)]
      exact putAll_congr l (i + 1) _ _ _ (fun j hj => by rw [show i + 1 + k = i + (k + 1) by omega])

theorem put_self (a : Act) (d : Nat) : a.put (some d) (a.tmps.getD d undef) = a := by
  simp only [put_tmps]
  cases a with
  | mk tmps defers =>
    congr 1
    apply Array.ext_getElem?
    intro i
    rw [Array.getElem?_setIfInBounds]
    split
    · rename_i e
      subst e
      split
      · rename_i h; simp [h]
      · rename_i h; simp [Array.getElem?_eq_none (Nat.le_of_not_lt h)]
    · rfl

theorem least_of {p : Nat → Prop} (h : ∃ i, p i) : ∃ i, p i ∧ ∀ j, j < i → ¬ p j := by
  obtain ⟨i, hi⟩ := h
  induction i using Nat.strongRecOn with
  | _ i ih =>
    by_cases hex : ∃ j, j < i ∧ p j
    · obtain ⟨j, hj, hp⟩ := hex; exact ih j hj hp
    · exact ⟨i, hi, fun j hj hp => hex ⟨j, hj, hp⟩⟩

theorem putAll_self : ∀ (l : List Oper) (i : Nat) (a : Act), (∀ o ∈ l, o.dst ≠ none) → ∃ ys, putAll i l ys a = a
  | [], _, _, _ => ⟨fun _ => undef, rfl⟩
  | o :: l, i, a, h => by
    obtain ⟨zs, hz⟩ := putAll_self l (i + 1) a (fun q hq => h q (by simp [hq]))
    obtain ⟨d, hd⟩ : ∃ d, o.dst = some d := by cases hq : o.dst with | none => exact absurd hq (h o (by simp)) | some d => exact ⟨d, rfl⟩
    refine ⟨fun j => if j = i then a.tmps.getD d undef else zs j, ?_⟩
    simp only [putAll, if_true]
    rw [hd, put_self]
    rw [← hz]
    rw [hz]
    exact (putAll_congr l (i + 1) _ zs a (fun j hj => by rw [if_neg (by omega)])).trans hz

/-- the head is done, the tail not begun -/
def headDone (n m : Nat) : Array Bool := (List.replicate n true ++ List.replicate (m - n) false).toArray

def edgesUp (ops : Array Oper) (n : Nat) : Bool :=
  (List.range n).all fun i => match ops[i]? with | some o => o.after.all (fun e => !Region.binds .any e || decide (e.on < i)) && o.dst.isSome | none => false

def famB (ops : Array Oper) (n : Nat) : Bool :=
  decide (n < ops.size) && Region.sinkB .any ops n && Region.chainB .any ops n && Region.seqB .any ops (ops.size - n) n (headDone n ops.size) && edgesUp ops n && decide (((ops.toList.take n).map (·.dst)).Nodup)

/-- the predicates as a list -/
def rs (L : List (Value → World → Prop)) (i : Nat) : Value → World → Prop := L.getD i (fun _ _ => True)

section
variable {P : Program}

def todoOf (listed : Array Bool) (n : Nat) : Nat := ((List.range n).filter fun i => !listed.getD i false).length

theorem todo_set {listed : Array Bool} {n i : Nat} (hin : i < n) (hil : i < listed.size) (hun : listed.getD i false = false) : todoOf (listed.setIfInBounds i true) n + 1 = todoOf listed n := by
  unfold todoOf
  induction n with
  | zero => omega
  | succ n ih =>
    rw [List.range_succ, List.filter_append, List.filter_append, List.length_append, List.length_append]
    by_cases hi : i = n
    · subst hi
      have e1 : (List.range i).filter (fun j => !(listed.setIfInBounds i true).getD j false) = (List.range i).filter (fun j => !listed.getD j false) := by
        apply List.filter_congr
        intro j hj
        have hji := List.mem_range.1 hj
        rw [getD_set_ne false (by omega)]
      rw [e1]
      have e2 : (listed.setIfInBounds i true).getD i false = true := by simp [hil]
      simp only [List.filter_cons, e2, hun, List.filter_nil]
      rfl
    · have := ih (by omega)
      have e2 : (listed.setIfInBounds i true).getD n false = listed.getD n false := getD_set_ne false hi
      simp only [List.filter_cons, e2, List.filter_nil] at this ⊢
      omega

theorem wp_false_mono {o : Oper} {a : Act} {w : World} {K K' : Act → World → Prop} {Q : Exit → Act → World → Prop} (h : o.wp P a w K (fun _ _ _ => False)) (hk : ∀ a w, K a w → K' a w) : o.wp P a w K' Q := by
  unfold Oper.wp at *
  generalize (execOp a.eval o).run P w = r at *
  cases r with
  | ok n w' =>
    cases n <;> simp only [Oper.upon] at h ⊢ <;>
      first
        | exact hk _ _ h
        | exact Calls.mono h (fun e w'' he => by cases e <;> first | exact hk _ _ he | (obtain ⟨_, _, he⟩ := he; exact he.elim) | exact he.elim)
        | exact Rows.mono h (fun _ _ he => hk _ _ he)
  | halt x w' => cases x <;> simp only [Oper.upon] at h ⊢

theorem wpAny_fam {l : List Oper} {n : Nat} {Q : Exit → Act → World → Prop} {a : Act} {w : World} {E : World → World → Prop} [Frm E] {Rs : Nat → Value → World → Prop} (hn : n < l.length)
    (hs : Region.sinkB .any l.toArray n = true) (hc : Region.chainB .any l.toArray n = true) (hseq : Region.seqB .any l.toArray (l.length - n) n (headDone n l.length) = true)
    (hup : edgesUp l.toArray n = true) (hnd : ((l.take n).map (·.dst)).Nodup)
    (hsteps : famSteps P l.toArray (l.take n) a w E Rs 0 (l.take n))
    (htail : ∀ (ys : Nat → Value) (w' : World), E w w' → (∀ i, i < n → St E Rs i (ys i) w') → wpList P l.toArray Q (l.drop n) (putAll 0 (l.take n) ys a) w') :
    ∀ (f : Nat) (listed : Array Bool) (ys : Nat → Value) (w' : World), HeadInv .any l.toArray n listed → E w w' → (∀ i, i < n → listed.getD i false = true → St E Rs i (ys i) w') → todoOf listed n = f →
      wpAny P .any l.toArray Q (f + (l.length - n)) listed (putAll 0 (l.take n) ys a) w'
  | 0, listed, ys, w', inv, ho, hall, hf => by
    have hdone : ∀ i, i < n → listed.getD i false = true := by
      intro i hi
      cases hq : listed.getD i false with
      | true => rfl
      | false =>
        have : i ∈ (List.range n).filter fun i => !listed.getD i false := by simp [List.mem_filter, hi]; simpa using hq
        have h0 : ((List.range n).filter fun i => !listed.getD i false) = [] := List.eq_nil_of_length_eq_zero hf
        rw [h0] at this; cases this
    have hsz : listed.size = l.length := by simpa using inv.size
    have hl : listed = headDone n l.length := by
      apply Array.ext
      · simp [headDone, hsz]; omega
      · intro i h1 h2
        simp only [headDone, List.getElem_toArray]
        by_cases hi : i < n
        · rw [List.getElem_append_left (by simpa using hi), List.getElem_replicate]
          have := hdone i hi
          simpa [h1] using this
        · rw [List.getElem_append_right (by simpa using hi), List.getElem_replicate]
          have := inv.tail i (by omega) (by simpa [hsz] using h1)
          simpa [h1] using this
    have hw := htail ys w' ho (fun i hi => hall i hi (hdone i hi))
    have := wpAny_of_seq (P := P) (md := .any) (ops := l.toArray) (l.drop n) n listed (putAll 0 (l.take n) ys a) w' (fun j => by simp [List.getElem?_drop]) (by rw [hl, List.length_drop]; exact hseq) hw
    rw [List.length_drop] at this
    rw [Nat.zero_add]; exact this
  | f + 1, listed, ys, w', inv, ho, hall, hf => by
    have hsz : listed.size = l.length := by simpa using inv.size
    -- an operation of the head that is not done, the least one
    have hex : ∃ i, i < n ∧ listed.getD i false = false := by
      have hne : ((List.range n).filter fun i => !listed.getD i false) ≠ [] := by
        intro e
        have : todoOf listed n = 0 := by unfold todoOf; rw [e]; rfl
        omega
      obtain ⟨i, hi⟩ := List.exists_mem_of_ne_nil _ hne
      simp only [List.mem_filter, List.mem_range] at hi
      exact ⟨i, hi.1, by simpa using hi.2⟩
    obtain ⟨i, ⟨hin, hiun⟩, hleast⟩ := least_of hex
    have hup' := List.all_eq_true.1 hup
    have hready : i ∈ Region.ready .any l.toArray listed := by
      refine mem_ready.2 ⟨getD_in (by omega) hiun, ?_⟩
      have h1 := hup' i (List.mem_range.2 hin)
      cases hq : l.toArray[i]? with
      | none => simp [hq] at h1
      | some o =>
        rw [hq] at h1
        simp only [Bool.and_eq_true, Array.all_eq_true_iff_forall_mem] at h1
        refine ⟨o, rfl, fun e he hb => ?_⟩
        have h2 := h1.1 e he
        simp only [hb, Bool.not_true, Bool.false_or, decide_eq_true_eq] at h2
        cases hz : listed.getD e.on false with
        | true => rfl
        | false => exact absurd ⟨by omega, hz⟩ (hleast e.on h2)
    rw [show f + 1 + (l.length - n) = (f + (l.length - n)) + 1 by omega]
    refine ⟨fun h => (by rw [h] at hready; cases hready), fun j hj => ?_⟩
    have hjn : j < n := by
      rcases Nat.lt_or_ge j n with h | h
      · exact h
      · exact absurd hj (tail_waits hs hc (by simpa using hn) inv _ i rfl hin (getD_in (by omega) hiun) j h)
    obtain ⟨hjun, oj, hoj, hjall⟩ := mem_ready.1 hj
    have hoj' : (l.take n)[j]? = some oj := by rw [List.getElem?_take, if_pos hjn]; simpa using hoj
    have hpre : predsOf E Rs ys w' oj.after.toList := predsOf_mk _ (fun e he hb => by
      have hl := hjall e (Array.mem_def.2 he) hb
      have h1 := hup' j (List.mem_range.2 hjn)
      rw [hoj] at h1
      simp only [Bool.and_eq_true, Array.all_eq_true_iff_forall_mem] at h1
      have h2 := h1.1 e (Array.mem_def.2 he)
      simp only [hb, Bool.not_true, Bool.false_or, decide_eq_true_eq] at h2
      exact hall e.on (by omega) hl)
    have hstep := famSteps_get (l.take n) 0 hsteps j oj hoj' ys w' ho hpre
    rw [Nat.zero_add] at hstep
    have hnext : ∀ (v : Value) (w'' : World), E w' w'' → Rs j v w'' →
        wpAny P .any l.toArray Q (f + (l.length - n)) (listed.setIfInBounds j true) ((putAll 0 (l.take n) ys a).put oj.dst v) w'' := fun v w'' h1 h2 => by
      rw [putAll_upd (l.take n) 0 ys a j oj v hnd hoj']
      refine wpAny_fam hn hs hc hseq hup hnd hsteps htail f _ _ w'' (inv.set hj hjn) (Frm.trans ho h1) ?_ (by have := todo_set hjn (by omega) (getD_both hjun); omega)
      intro k hk hkl
      by_cases hkj : k = 0 + j
      · rw [if_pos hkj, show k = j by omega]; exact ⟨w'', Frm.refl _, h2⟩
      · rw [if_neg hkj]
        rw [getD_set_ne false (by omega)] at hkl
        obtain ⟨w1, q1, q2⟩ := hall k hk hkl
        exact ⟨w1, Frm.trans q1 h1, q2⟩
    unfold wpOp
    rw [hoj]
    unfold stepOf at hstep
    by_cases hwant : Region.wanted oj (yielded l.toArray (putAll 0 (l.take n) ys a).tmps) = true
    · simp only [hwant, if_true] at hstep ⊢
      refine .inl (wp_false_mono hstep ?_)
      rintro a' w'' ⟨v, rfl, h1, h2⟩
      exact hnext v w'' h1 h2
    · simp only [hwant] at hstep ⊢
      exact hnext undef w' (Frm.refl _) hstep

/-- a region that draws its order, by predicates on what its first n operations give -/
theorem wp_region_famE (E : World → World → Prop) [Frm E] {id : Nat} {Q : Exit → Act → World → Prop} {a : Act} {w : World} {l : List Oper} (n : Nat) (Rs : Nat → Value → World → Prop) (hm : P.follows .mixedOrders = true) (hB : famB l.toArray n = true)
    (hsteps : famSteps P l.toArray (l.take n) a w.drew E Rs 0 (l.take n))
    (htail : ∀ (ys : Nat → Value) (w' : World), E w.drew w' → (∀ i, i < n → St E Rs i (ys i) w') → wpList P l.toArray Q (l.drop n) (putAll 0 (l.take n) ys a) w') :
    (Code.region id l.toArray true).wp P Q a w := by
  simp only [famB, Bool.and_eq_true, decide_eq_true_eq] at hB
  obtain ⟨⟨⟨⟨⟨hn, hs⟩, hc⟩, hseq⟩, hup⟩, hnd⟩ := hB
  have hn' : n < l.length := by simpa using hn
  have inv0 : HeadInv .any l.toArray n (Array.replicate l.toArray.size false) :=
    ⟨by simp, fun j oj _ hl => (by rw [getD_replicate_false] at hl; cases hl), fun t _ ht => getD_in (by simpa using ht) (getD_replicate_false _ _)⟩
  obtain ⟨ys, hys⟩ := putAll_self (l.take n) 0 a (by
    intro o ho he
    obtain ⟨j, hj⟩ := List.mem_iff_getElem?.1 ho
    have hjn : j < n := by have := (List.getElem?_eq_some_iff.1 hj).1; simp at this; omega
    have h1 := List.all_eq_true.1 hup j (List.mem_range.2 hjn)
    rw [List.getElem?_take, if_pos hjn] at hj
    simp [hj, he] at h1)
  refine wp_region_any hm ?_
  have htodo : todoOf (Array.replicate l.toArray.size false) n = n := by
    unfold todoOf
    rw [List.filter_eq_self.2 (fun i _ => by rw [getD_replicate_false]; rfl)]
    simp
  have := wpAny_fam (P := P) (Q := Q) hn' hs hc (by simpa using hseq) hup (by simpa using hnd) hsteps htail n (Array.replicate l.toArray.size false) ys w.drew inv0 (Frm.refl _) (fun i _ hl => by rw [getD_replicate_false] at hl; cases hl) htodo
  rw [hys, show n + (l.length - n) = l.toArray.size by simp; omega] at this
  exact this

theorem wp_region_fam {id : Nat} {Q : Exit → Act → World → Prop} {a : Act} {w : World} {l : List Oper} (n : Nat) (Rs : Nat → Value → World → Prop) (hm : P.follows .mixedOrders = true) (hB : famB l.toArray n = true)
    (hsteps : famSteps P l.toArray (l.take n) a w.drew (Only []) Rs 0 (l.take n))
    (htail : ∀ (ys : Nat → Value) (w' : World), Only [] w.drew w' → (∀ i, i < n → St (Only []) Rs i (ys i) w') → wpList P l.toArray Q (l.drop n) (putAll 0 (l.take n) ys a) w') :
    (Code.region id l.toArray true).wp P Q a w := wp_region_famE (Only []) n Rs hm hB hsteps htail

/-- a slot that an operation of the list fills -/
theorem ev_dst : ∀ (l : List Oper) (i : Nat) (ys : Nat → Value) (a : Act) (k d : Nat), (l[k]?).bind (·.dst) = some d → (l.map (·.dst)).Nodup → d < a.tmps.size → (putAll i l ys a).eval (.tmp d) = ys (i + k)
  | [], _, _, _, _, _, h, _, _ => by simp at h
  | o :: l, i, ys, a, k, d, hk, hn, hs => by
    simp only [List.map_cons, List.nodup_cons] at hn
    cases k with
    | zero =>
      have hd : o.dst = some d := by simpa using hk
      simp only [putAll]
      rw [putAll_put l (i + 1) ys a o.dst (ys i) (fun x hx e => hn.1 (by rw [← e]; exact List.mem_map_of_mem hx)), hd]
      have hsz : (putAll (i + 1) l ys a).tmps.size = a.tmps.size := by
        clear hk hn hs hd
        generalize i + 1 = q
        induction l generalizing q a with
        | nil => rfl
        | cons x l ih =>
          simp only [putAll]
          rw [ih]
          cases x.dst <;> simp [Act.put]
      simp [Act.eval, Act.put, hsz, hs]
    | succ k =>
      have hk' : (l[k]?).bind (·.dst) = some d := by simpa using hk
      have hsz : d < (a.put o.dst (ys i)).tmps.size := by cases o.dst <;> simpa [Act.put] using hs
      simp only [putAll]
      rw [ev_dst l (i + 1) ys _ k d hk' hn.2 hsz]
      congr 1; omega

/-- a slot that none of them fills -/
theorem ev_old : ∀ (l : List Oper) (i : Nat) (ys : Nat → Value) (a : Act) (d : Nat), (l.all fun o => o.dst != some d) = true → (putAll i l ys a).eval (.tmp d) = a.eval (.tmp d)
  | [], _, _, _, _, _ => rfl
  | o :: l, i, ys, a, d, h => by
    simp only [List.all_cons, Bool.and_eq_true, bne_iff_ne] at h
    simp only [putAll]
    rw [ev_old l (i + 1) ys _ d h.2]
    cases hd : o.dst with
    | none => rfl
    | some x =>
      have hne : x ≠ d := fun e => h.1 (by rw [hd, e])
      simp [Act.eval, Act.put, Array.getElem?_setIfInBounds, hne]

theorem wanted_of {ops : Array Oper} {o : Oper} {a : Act} {j d : Nat} {b : Bool} (hg : o.guard = some (j, b)) (hd : (ops[j]?).bind (·.dst) = some d) (hv : a.eval (.tmp d) = .bool b) : Region.wanted o (yielded ops a.tmps) = true := by
  have hv' : a.tmps.getD d undef = .bool b := hv
  cases hq : ops[j]? with
  | none => simp [hq] at hd
  | some q =>
    have hqd : q.dst = some d := by simpa [hq] using hd
    have hv2 : a.tmps[d]?.getD undef = .bool b := by simpa using hv'
    cases hz : a.tmps[d]? with
    | none => simp [hz, undef] at hv2
    | some v =>
      simp [hz] at hv2
      subst hv2
      simp [Region.wanted, hg, yielded, hq, hqd, hz]

theorem wanted_not {ops : Array Oper} {o : Oper} {a : Act} {j d : Nat} {b c : Bool} (hg : o.guard = some (j, b)) (hd : (ops[j]?).bind (·.dst) = some d) (hv : a.eval (.tmp d) = .bool c) (hbc : (c == b) = false) : Region.wanted o (yielded ops a.tmps) = false := by
  have hv' : a.tmps.getD d undef = .bool c := hv
  cases hq : ops[j]? with
  | none => simp [hq] at hd
  | some q =>
    have hqd : q.dst = some d := by simpa [hq] using hd
    have hv2 : a.tmps[d]?.getD undef = .bool c := by simpa using hv'
    cases hz : a.tmps[d]? with
    | none => simp [hz, undef] at hv2
    | some v =>
      simp [hz] at hv2
      subst hv2
      have hbc' : c ≠ b := by simpa using hbc
      simp [Region.wanted, hg, yielded, hq, hqd, hz, hbc']

theorem step_val {E : World → World → Prop} [Frm E] {ops : Array Oper} {L : List (Value → World → Prop)} {i : Nat} {o : Oper} {A : Act} {w : World} (V : Value) (hw : Region.wanted o (yielded ops A.tmps) = true) (hrun : (execOp A.eval o).run P w = .ok (.value V) w) (hr : rs L i V w) :
    stepOf P ops E (rs L) i o A w := by
  unfold stepOf
  rw [if_pos hw]
  unfold Oper.wp
  rw [hrun]
  exact ⟨V, rfl, Frm.refl _, hr⟩

theorem step_does {E : World → World → Prop} [Frm E] {ops : Array Oper} {L : List (Value → World → Prop)} {i : Nat} {o : Oper} {A : Act} {w : World} {R : Value → World → Prop} (hw : Region.wanted o (yielded ops A.tmps) = true) (h : does P o A w R) (hr : ∀ v w', R v w' → Only [] w w' ∧ rs L i v w') :
    stepOf P ops E (rs L) i o A w := by
  unfold stepOf
  rw [if_pos hw]
  exact wp_does h (fun v w' q => ⟨v, rfl, Frm.only (hr v w' q).1, (hr v w' q).2⟩)

theorem step_doesE {E : World → World → Prop} {ops : Array Oper} {L : List (Value → World → Prop)} {i : Nat} {o : Oper} {A : Act} {w : World} {R : Value → World → Prop} (hw : Region.wanted o (yielded ops A.tmps) = true) (h : does P o A w R) (hr : ∀ v w', R v w' → E w w' ∧ rs L i v w') :
    stepOf P ops E (rs L) i o A w := by
  unfold stepOf
  rw [if_pos hw]
  exact wp_does h (fun v w' q => ⟨v, rfl, (hr v w' q).1, (hr v w' q).2⟩)

theorem step_call {E : World → World → Prop} [Frm E] {ops : Array Oper} {L : List (Value → World → Prop)} {i : Nat} {o : Oper} {A : Act} {w : World} {f : FuncId} {args : Array Value} (hw : Region.wanted o (yielded ops A.tmps) = true) (hrun : (execOp A.eval o).run P w = .ok (.enter f args) w)
    (hc : Calls P f args w fun e w' => ∃ v, e = .returned v ∧ Only [] w w' ∧ rs L i v w') : stepOf P ops E (rs L) i o A w := by
  unfold stepOf
  rw [if_pos hw]
  unfold Oper.wp
  rw [hrun]
  refine Calls.mono hc ?_
  rintro e w' ⟨v, rfl, h1, h2⟩
  exact ⟨v, rfl, Frm.only h1, h2⟩

theorem step_skip {E : World → World → Prop} {ops : Array Oper} {L : List (Value → World → Prop)} {i : Nat} {o : Oper} {A : Act} {w : World} (hw : Region.wanted o (yielded ops A.tmps) = false) (hr : rs L i undef w) : stepOf P ops E (rs L) i o A w := by
  unfold stepOf
  rw [if_neg (by rw [hw]; simp)]
  exact hr

/-- the frame under a name -/
theorem named_act {c : Code} {Q : Exit → Act → World → Prop} {a : Act} {w : World} (h : ∀ a', Hid (a' = a) → c.wp P Q a' w) : c.wp P Q a w := h a rfl

theorem ex_move {A : Act} {o : Oper} {w : World} {x : Operand} {X : Value} (ho : o.op = .move x) (hx : A.eval x = X) : (execOp A.eval o).run P w = .ok (.value X) w := by
  simp [execOp, ho, hx]
theorem ex_not {A : Act} {o : Oper} {w : World} {x : Operand} {t : TypeId} {b : Bool} (ho : o.op = .unOp .not t x) (hx : A.eval x = .bool b) : (execOp A.eval o).run P w = .ok (.value (.bool !b)) w := by
  simp only [execOp, ho, hx]
  simp [go_sem]
theorem ex_pickT {A : Act} {o : Oper} {w : World} {c x y : Operand} {V : Value} (ho : o.op = .pick c x y) (hc : A.eval c = .bool true) (hv : A.eval x = V) : (execOp A.eval o).run P w = .ok (.value V) w := by
  subst hv
  simp only [execOp, ho, hc]; rfl
theorem ex_pickF {A : Act} {o : Oper} {w : World} {c x y : Operand} {V : Value} (ho : o.op = .pick c x y) (hc : A.eval c = .bool false) (hv : A.eval y = V) : (execOp A.eval o).run P w = .ok (.value V) w := by
  subst hv
  simp only [execOp, ho, hc]; rfl
theorem ex_neqI {A : Act} {o : Oper} {w : World} {x y : Operand} {t t2 : TypeId} {k : IntKind} {m n : Int} (ho : o.op = .binOp .neq t x y t2) (hx : A.eval x = .int k m) (hy : A.eval y = .int k n) : (execOp A.eval o).run P w = .ok (.value (.bool (m != n))) w := by
  simp only [execOp, ho, hx, hy]
  simp [go_sem]
theorem ex_neqS {A : Act} {o : Oper} {w : World} {x y : Operand} {t t2 : TypeId} {m n : ByteArray} (ho : o.op = .binOp .neq t x y t2) (hx : A.eval x = .string m) (hy : A.eval y = .string n) : (execOp A.eval o).run P w = .ok (.value (.bool (!(m.toList == n.toList)))) w := by
  simp only [execOp, ho, hx, hy]
  simp [go_sem]

theorem ex_neqS_same {A : Act} {o : Oper} {w : World} {x y : Operand} {t t2 : TypeId} {m : ByteArray} (ho : o.op = .binOp .neq t x y t2) (hx : A.eval x = .string m) (hy : A.eval y = .string m) : (execOp A.eval o).run P w = .ok (.value (.bool false)) w := by
  rw [ex_neqS ho hx hy]; simp

/-- a call of a function of the program -/
theorem ex_call {A : Act} {o : Oper} {w : World} {f : FuncId} {args : Array Operand} {tys : Array TypeId} {fn : Func} {vs : List Value} (ho : o.op = .call { callee := .value (.func f), args := args, argTypes := tys }) (hv : args.toList.map A.eval = vs)
    (hf : P.funcs[f]? = some fn) (hn : (fn.name == "runtime.NumGoroutine") = false) (hb : fn.body.isNone = false) : (execOp A.eval o).run P w = .ok (.enter f vs.toArray) w := by
  have he : args.map A.eval = vs.toArray := by rw [← hv]; apply Array.ext'; rw [Array.toList_map]
  have hev : A.eval (.func f) = .func (.func f) #[] #[] := rfl
  simp only [execOp, ho]
  have hn' : ¬ fn.name = "runtime.NumGoroutine" := by simpa using hn
  have hb' : ¬ fn.body = none := fun e => by rw [e] at hb; cases hb
  simp [resolve, he, hev, Deferred.ofValue, invoke, callFunc, hf, program, Sem.run]
  rw [if_neg hn', if_neg hb']
end
end Go.Proofs.Ytpcchkkpligemaa.M
