/- A region that draws its order, one of whose first n operations (number q) may write into what the others have made: all others have a stronger frame. -/
import Derived.Test.YtpcchkkpligemaaFam
namespace Go.Proofs.Ytpcchkkpligemaa.M
open Go.RowKit

/-- operation q waits for operation j -/
def early (ops : Array Oper) (q j : Nat) : Bool := match ops[q]? with | some o => o.after.any (fun e => Region.binds .any e && e.on == j) | none => false

def relq (ops : Array Oper) (S E : World → World → Prop) (q i j : Nat) : World → World → Prop := if (i == q || early ops i q) || (j == q || early ops q j) then S else E

def predsOfq (ops : Array Oper) (S E : World → World → Prop) (q j : Nat) (Rs : Nat → Value → World → Prop) (ys : Nat → Value) (w : World) : List Edge → Prop
  | [] => True
  | e :: es => (Region.binds .any e = true → St (relq ops S E q e.on j) Rs e.on (ys e.on) w) ∧ predsOfq ops S E q j Rs ys w es

def frmq (S E : World → World → Prop) (q j : Nat) : World → World → Prop := if j == q then E else S

def famStepsq (P : Program) (ops : Array Oper) (head : List Oper) (a : Act) (w : World) (S E : World → World → Prop) (q : Nat) (Rs : Nat → Value → World → Prop) : Nat → List Oper → Prop
  | _, [] => True
  | i, o :: rest => (∀ (ys : Nat → Value) (w' : World), E w w' → predsOfq ops S E q i Rs ys w' o.after.toList → stepOf P ops (frmq S E q i) Rs i o (putAll 0 head ys a) w') ∧ famStepsq P ops head a w S E q Rs (i + 1) rest

theorem famStepsq_get {P : Program} {ops : Array Oper} {head : List Oper} {a : Act} {w : World} {S E : World → World → Prop} {q : Nat} {Rs : Nat → Value → World → Prop} : ∀ (l : List Oper) (k : Nat), famStepsq P ops head a w S E q Rs k l → ∀ (j : Nat) (o : Oper), l[j]? = some o →
    ∀ (ys : Nat → Value) (w' : World), E w w' → predsOfq ops S E q (k + j) Rs ys w' o.after.toList → stepOf P ops (frmq S E q (k + j)) Rs (k + j) o (putAll 0 head ys a) w'
  | [], _, _, _, _, hj => by simp at hj
  | x :: l, k, h, j, o, hj => by
    cases j with
    | zero => simp at hj; subst hj; exact h.1
    | succ j =>
      simp at hj
      have := famStepsq_get l (k + 1) h.2 j o hj
      rwa [show k + 1 + j = k + (j + 1) by omega] at this

theorem predsOfq_mk {ops : Array Oper} {S E : World → World → Prop} {q j : Nat} {Rs : Nat → Value → World → Prop} {ys : Nat → Value} {w : World} : ∀ (es : List Edge), (∀ e ∈ es, Region.binds .any e = true → St (relq ops S E q e.on j) Rs e.on (ys e.on) w) → predsOfq ops S E q j Rs ys w es
  | [], _ => trivial
  | e :: es, h => ⟨h e (by simp), predsOfq_mk es (fun x hx => h x (by simp [hx]))⟩

def invq (ops : Array Oper) (S E : World → World → Prop) (q : Nat) (listed : Array Bool) (i : Nat) : World → World → Prop := if (i == q || early ops i q) || !listed.getD q false then S else E

section
variable {P : Program}
theorem wpAny_famq {l : List Oper} {n : Nat} {Q : Exit → Act → World → Prop} {a : Act} {w : World} {S E : World → World → Prop} [Frm S] [Frm E] (sub : ∀ a b, S a b → E a b) (q : Nat) {Rs : Nat → Value → World → Prop} (hn : n < l.length)
    (hs : Region.sinkB .any l.toArray n = true) (hc : Region.chainB .any l.toArray n = true) (hseq : Region.seqB .any l.toArray (l.length - n) n (headDone n l.length) = true)
    (hup : edgesUp l.toArray n = true) (hnd : ((l.take n).map (·.dst)).Nodup)
    (hsteps : famStepsq P l.toArray (l.take n) a w S E q Rs 0 (l.take n))
    (htail : ∀ (ys : Nat → Value) (w' : World), E w w' → (∀ i, i < n → St (relq l.toArray S E q i n) Rs i (ys i) w') → wpList P l.toArray Q (l.drop n) (putAll 0 (l.take n) ys a) w') :
    ∀ (f : Nat) (listed : Array Bool) (ys : Nat → Value) (w' : World), HeadInv .any l.toArray n listed → E w w' → (∀ i, i < n → listed.getD i false = true → St (invq l.toArray S E q listed i) Rs i (ys i) w') → todoOf listed n = f →
      wpAny P .any l.toArray Q (f + (l.length - n)) listed (putAll 0 (l.take n) ys a) w'
  | 0, listed, ys, w', inv, ho, hall, hf => by
    have notq : ∀ {j : Nat}, early l.toArray q j = true → listed.getD j false = false → listed.getD q false = false := fun {j} he hj => by
      cases hq : listed.getD q false with
      | false => rfl
      | true =>
        unfold early at he
        cases ho : l.toArray[q]? with
        | none => rw [ho] at he; cases he
        | some o =>
          rw [ho] at he
          simp only [Array.any_eq_true', Bool.and_eq_true, beq_iff_eq] at he
          obtain ⟨e, hm, hb, rfl⟩ := he
          rw [inv.closed q o ho hq e hm hb] at hj; cases hj
    have hdone : ∀ i, i < n → listed.getD i false = true := by
      intro i hi
      cases hq : listed.getD i false with
      | true => rfl
      | false =>
        have : i ∈ (List.range n).filter fun i => !listed.getD i false := by simp [List.mem_filter, hi]; simpa using hq
        have h0 : ((List.range n).filter fun i => !listed.getD i false) = [] := List.eq_nil_of_length_eq_zero hf
        rw [h0] at this; cases this
    have hsz : listed.size = l.length := by simpa using inv.size
    have hl : listed = headDone n l.length := by
      apply Array.ext
      · simp [headDone, hsz]; omega
      · intro i h1 h2
        simp only [headDone, List.getElem_toArray]
        by_cases hi : i < n
        · rw [List.getElem_append_left (by simpa using hi), List.getElem_replicate]
          have := hdone i hi
          simpa [h1] using this
        · rw [List.getElem_append_right (by simpa using hi), List.getElem_replicate]
          have := inv.tail i (by omega) (by simpa [hsz] using h1)
          simpa [h1] using this
    have hw := htail ys w' ho (fun i hi => by
      obtain ⟨w1, h1, h2⟩ := hall i hi (hdone i hi)
      refine ⟨w1, ?_, h2⟩
      unfold relq
      unfold invq at h1
      by_cases hiq : (i == q || early l.toArray i q) = true
      · simp only [hiq, Bool.true_or, if_true] at h1 ⊢; exact h1
      · by_cases hnq : n = q
        · have hq0 : listed.getD q false = false := by rw [← hnq]; exact getD_both (inv.tail n (Nat.le_refl _) (by simpa using hn))
          simp only [hq0, Bool.not_false, Bool.or_true, if_true] at h1
          simp only [hnq, beq_self_eq_true, Bool.or_true, Bool.true_or, if_true]; exact h1
        · have e1 : (n == q) = false := by simp [hnq]
          rw [Bool.eq_false_iff.2 hiq, e1, Bool.false_or, Bool.false_or]
          by_cases hea : early l.toArray q n = true
          · have hq0 : listed.getD q false = false := notq hea (getD_both (inv.tail n (Nat.le_refl _) (by simpa using hn)))
            simp only [hq0, Bool.not_false, Bool.or_true, if_true] at h1
            rw [if_pos hea]; exact h1
          rw [if_neg hea]
          split at h1
          · exact sub _ _ h1
          · exact h1)
    have := wpAny_of_seq (P := P) (md := .any) (ops := l.toArray) (l.drop n) n listed (putAll 0 (l.take n) ys a) w' (fun j => by simp [List.getElem?_drop]) (by rw [hl, List.length_drop]; exact hseq) hw
    rw [List.length_drop] at this
    rw [Nat.zero_add]; exact this
  | f + 1, listed, ys, w', inv, ho, hall, hf => by
    have notq : ∀ {j : Nat}, early l.toArray q j = true → listed.getD j false = false → listed.getD q false = false := fun {j} he hj => by
      cases hq : listed.getD q false with
      | false => rfl
      | true =>
        unfold early at he
        cases ho : l.toArray[q]? with
        | none => rw [ho] at he; cases he
        | some o =>
          rw [ho] at he
          simp only [Array.any_eq_true', Bool.and_eq_true, beq_iff_eq] at he
          obtain ⟨e, hm, hb, rfl⟩ := he
          rw [inv.closed q o ho hq e hm hb] at hj; cases hj
    have hsz : listed.size = l.length := by simpa using inv.size
    -- an operation of the head that is not done, the least one
    have hex : ∃ i, i < n ∧ listed.getD i false = false := by
      have hne : ((List.range n).filter fun i => !listed.getD i false) ≠ [] := by
        intro e
        have : todoOf listed n = 0 := by unfold todoOf; rw [e]; rfl
        omega
      obtain ⟨i, hi⟩ := List.exists_mem_of_ne_nil _ hne
      simp only [List.mem_filter, List.mem_range] at hi
      exact ⟨i, hi.1, by simpa using hi.2⟩
    obtain ⟨i, ⟨hin, hiun⟩, hleast⟩ := least_of hex
    have hup' := List.all_eq_true.1 hup
    have hready : i ∈ Region.ready .any l.toArray listed := by
      refine mem_ready.2 ⟨getD_in (by omega) hiun, ?_⟩
      have h1 := hup' i (List.mem_range.2 hin)
      cases hq : l.toArray[i]? with
      | none => simp [hq] at h1
      | some o =>
        rw [hq] at h1
        simp only [Bool.and_eq_true, Array.all_eq_true_iff_forall_mem] at h1
        refine ⟨o, rfl, fun e he hb => ?_⟩
        have h2 := h1.1 e he
        simp only [hb, Bool.not_true, Bool.false_or, decide_eq_true_eq] at h2
        cases hz : listed.getD e.on false with
        | true => rfl
        | false => exact absurd ⟨by omega, hz⟩ (hleast e.on h2)
    rw [show f + 1 + (l.length - n) = (f + (l.length - n)) + 1 by omega]
    refine ⟨fun h => (by rw [h] at hready; cases hready), fun j hj => ?_⟩
    have hjn : j < n := by
      rcases Nat.lt_or_ge j n with h | h
      · exact h
      · exact absurd hj (tail_waits hs hc (by simpa using hn) inv _ i rfl hin (getD_in (by omega) hiun) j h)
    obtain ⟨hjun, oj, hoj, hjall⟩ := mem_ready.1 hj
    have hoj' : (l.take n)[j]? = some oj := by rw [List.getElem?_take, if_pos hjn]; simpa using hoj
    have hpre : predsOfq l.toArray S E q j Rs ys w' oj.after.toList := predsOfq_mk _ (fun e he hb => by
      have hl := hjall e (Array.mem_def.2 he) hb
      have h1 := hup' j (List.mem_range.2 hjn)
      rw [hoj] at h1
      simp only [Bool.and_eq_true, Array.all_eq_true_iff_forall_mem] at h1
      have h2 := h1.1 e (Array.mem_def.2 he)
      simp only [hb, Bool.not_true, Bool.false_or, decide_eq_true_eq] at h2
      obtain ⟨w1, g1, g2⟩ := hall e.on (by omega) hl
      refine ⟨w1, ?_, g2⟩
      unfold relq
      unfold invq at g1
      by_cases hiq : (e.on == q || early l.toArray e.on q) = true
      · simp only [hiq, Bool.true_or, if_true] at g1 ⊢; exact g1
      · by_cases hjq : j = q
        · have hq0 : listed.getD q false = false := by rw [← hjq]; exact getD_both hjun
          simp only [hq0, Bool.not_false, Bool.or_true, if_true] at g1
          simp only [hjq, beq_self_eq_true, Bool.or_true, Bool.true_or, if_true]; exact g1
        · have e1 : (j == q) = false := by simp [hjq]
          rw [Bool.eq_false_iff.2 hiq, e1, Bool.false_or, Bool.false_or]
          by_cases hea : early l.toArray q j = true
          · have hq0 : listed.getD q false = false := notq hea (getD_both hjun)
            simp only [hq0, Bool.not_false, Bool.or_true, if_true] at g1
            rw [if_pos hea]; exact g1
          rw [if_neg hea]
          split at g1
          · exact sub _ _ g1
          · exact g1)
    have hstep := famStepsq_get (l.take n) 0 hsteps j oj hoj' ys w' ho (by rw [Nat.zero_add]; exact hpre)
    rw [Nat.zero_add] at hstep
    have hsubE : ∀ a b, frmq S E q j a b → E a b := fun a b h => by unfold frmq at h; split at h; exact h; exact sub _ _ h
    have hnext : ∀ (v : Value) (w'' : World), frmq S E q j w' w'' → Rs j v w'' →
        wpAny P .any l.toArray Q (f + (l.length - n)) (listed.setIfInBounds j true) ((putAll 0 (l.take n) ys a).put oj.dst v) w'' := fun v w'' h1 h2 => by
      rw [putAll_upd (l.take n) 0 ys a j oj v hnd hoj']
      refine wpAny_famq sub q hn hs hc hseq hup hnd hsteps htail f _ _ w'' (inv.set hj hjn) (Frm.trans ho (hsubE _ _ h1)) ?_ (by have := todo_set hjn (by omega) (getD_both hjun); omega)
      intro k hk hkl
      by_cases hkj : k = 0 + j
      · rw [if_pos hkj, show k = j by omega]; exact ⟨w'', by unfold invq; split <;> exact Frm.refl _, h2⟩
      · rw [if_neg hkj]
        rw [getD_set_ne false (by omega)] at hkl
        obtain ⟨w1, q1, q2⟩ := hall k hk hkl
        refine ⟨w1, ?_, q2⟩
        unfold invq at q1 ⊢
        unfold frmq at h1
        by_cases hjq : j = q
        · have hq1 : (listed.setIfInBounds j true).getD q false = true := by rw [← hjq]; have : j < listed.size := by omega
                                                                             simp [this]
          have hkq : (k == q) = false := by simp; omega
          have hkq2 : early l.toArray k q = false := by
            cases hz : early l.toArray k q with
            | false => rfl
            | true =>
              have hun : listed.getD q false = false := by rw [← hjq]; exact getD_both hjun
              unfold early at hz
              cases ho : l.toArray[k]? with
              | none => rw [ho] at hz; cases hz
              | some o =>
                rw [ho] at hz
                simp only [Array.any_eq_true', Bool.and_eq_true, beq_iff_eq] at hz
                obtain ⟨e, hm, hb, he⟩ := hz
                have := inv.closed k o ho hkl e hm hb
                rw [he, hun] at this; cases this
          rw [hq1, hkq, hkq2]
          simp only [hjq, beq_self_eq_true, if_true] at h1
          simp only [Bool.not_true, Bool.or_self, Bool.false_eq_true, if_false]
          split at q1
          · exact Frm.trans (sub _ _ q1) h1
          · exact Frm.trans q1 h1
        · rw [getD_set_ne false hjq]
          have hjq' : (j == q) = false := by simp [hjq]
          simp only [hjq', Bool.false_eq_true, if_false] at h1
          split at q1
          · rename_i e1; rw [if_pos e1]; exact Frm.trans q1 h1
          · rename_i e1; rw [if_neg e1]; exact Frm.trans q1 (sub _ _ h1)
    unfold wpOp
    rw [hoj]
    unfold stepOf at hstep
    by_cases hwant : Region.wanted oj (yielded l.toArray (putAll 0 (l.take n) ys a).tmps) = true
    · simp only [hwant, if_true] at hstep ⊢
      refine .inl (wp_false_mono hstep ?_)
      rintro a' w'' ⟨v, rfl, h1, h2⟩
      exact hnext v w'' h1 h2
    · simp only [hwant] at hstep ⊢
      exact hnext undef w' (by unfold frmq; split <;> exact Frm.refl _) hstep

/-- a region that draws its order, by predicates on what its first n operations give -/
theorem wp_region_famq (S E : World → World → Prop) [Frm S] [Frm E] (sub : ∀ a b, S a b → E a b) (q : Nat) {id : Nat} {Q : Exit → Act → World → Prop} {a : Act} {w : World} {l : List Oper} (n : Nat) (Rs : Nat → Value → World → Prop) (hm : P.follows .mixedOrders = true) (hB : famB l.toArray n = true)
    (hsteps : famStepsq P l.toArray (l.take n) a w.drew S E q Rs 0 (l.take n))
    (htail : ∀ (ys : Nat → Value) (w' : World), E w.drew w' → (∀ i, i < n → St (relq l.toArray S E q i n) Rs i (ys i) w') → wpList P l.toArray Q (l.drop n) (putAll 0 (l.take n) ys a) w') :
    (Code.region id l.toArray true).wp P Q a w := by
  simp only [famB, Bool.and_eq_true, decide_eq_true_eq] at hB
  obtain ⟨⟨⟨⟨⟨hn, hs⟩, hc⟩, hseq⟩, hup⟩, hnd⟩ := hB
  have hn' : n < l.length := by simpa using hn
  have inv0 : HeadInv .any l.toArray n (Array.replicate l.toArray.size false) :=
    ⟨by simp, fun j oj _ hl => (by rw [getD_replicate_false] at hl; cases hl), fun t _ ht => getD_in (by simpa using ht) (getD_replicate_false _ _)⟩
  obtain ⟨ys, hys⟩ := putAll_self (l.take n) 0 a (by
    intro o ho he
    obtain ⟨j, hj⟩ := List.mem_iff_getElem?.1 ho
    have hjn : j < n := by have := (List.getElem?_eq_some_iff.1 hj).1; simp at this; omega
    have h1 := List.all_eq_true.1 hup j (List.mem_range.2 hjn)
    rw [List.getElem?_take, if_pos hjn] at hj
    simp [hj, he] at h1)
  refine wp_region_any hm ?_
  have htodo : todoOf (Array.replicate l.toArray.size false) n = n := by
    unfold todoOf
    rw [List.filter_eq_self.2 (fun i _ => by rw [getD_replicate_false]; rfl)]
    simp
  have := wpAny_famq (P := P) (Q := Q) sub q hn' hs hc (by simpa using hseq) hup (by simpa using hnd) hsteps htail n (Array.replicate l.toArray.size false) ys w.drew inv0 (Frm.refl _) (fun i _ hl => by rw [getD_replicate_false] at hl; cases hl) htodo
  rw [hys, show n + (l.length - n) = l.toArray.size by simp; omega] at this
  exact this


theorem step_onlyq {S E : World → World → Prop} [Frm S] {q i : Nat} (hq : (i == q) = false) {ops : Array Oper} {Rs : Nat → Value → World → Prop} {o : Oper} {A : Act} {w : World} (h : stepOf P ops S Rs i o A w) : stepOf P ops (frmq S E q i) Rs i o A w := by
  have e : frmq S E q i = S := by unfold frmq; rw [hq]; rfl
  rw [e]; exact h
end
end Go.Proofs.Ytpcchkkpligemaa.M
