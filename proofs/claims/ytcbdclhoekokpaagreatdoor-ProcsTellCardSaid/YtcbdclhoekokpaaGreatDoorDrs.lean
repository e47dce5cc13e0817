/- A region that draws its order, where operations that change things may come in more than one order: by cases on which of two comes first. Conditions: the rule's own hypotheses. -/
import Derived.Test.YtcbdclhoekokpaaGreatDoorDr
namespace Go.Proofs.YtcbdclhoekokpaaGreatDoor.M
open Go.RowKit
/-- s lists operations as a draw may, from what is listed on -/
def Sch (l : Array Oper) : Array Bool → List Nat → Prop
  | listed, [] => Region.ready .any l listed = []
  | listed, i :: s => i ∈ Region.ready .any l listed ∧ Sch l (listed.setIfInBounds i true) s
theorem ready_eq (ops : Array Oper) (listed : Array Bool) : Region.ready .any ops listed = (List.range ops.size).filter fun i => !listed.getD i true && ((ops[i]?).map (·.after.all fun e => !Region.binds .any e || listed.getD e.on false)).getD false := rfl
theorem getD_true {listed : Array Bool} {i : Nat} (h : (!listed.getD i true) = true) : i < listed.size ∧ listed.getD i false = false := by
  have hi : i < listed.size := by
    rcases Nat.lt_or_ge i listed.size with q | q
    · exact q
    · simp [Array.getD, Nat.not_lt.2 q] at h
  refine ⟨hi, ?_⟩
  simp [Array.getD, hi] at h ⊢
  exact h
theorem ready_lt {l : Array Oper} {listed : Array Bool} {i : Nat} (h : i ∈ Region.ready .any l listed) : i < l.size ∧ i < listed.size ∧ listed.getD i false = false := by
  rw [ready_eq] at h
  simp only [List.mem_filter, List.mem_range, Bool.and_eq_true] at h
  have := getD_true h.2.1
  exact ⟨h.1, this.1, this.2⟩
theorem go_sch (l : Array Oper) : ∀ (fuel t : Nat) (listed : Array Bool), todoN listed l.size ≤ fuel → Sch l listed (Region.linearise.go .any l fuel t listed [])
  | 0, t, listed, h => by
    simp only [Region.linearise.go, List.reverse_nil, Sch]
    cases hr : Region.ready .any l listed with
    | nil => rfl
    | cons i rs =>
      have hm : i ∈ Region.ready .any l listed := by rw [hr]; simp
      obtain ⟨h1, _, h2⟩ := ready_lt hm
      have h3 : i ∈ (List.range l.size).filter fun i => !listed.getD i false := by simp only [List.mem_filter, List.mem_range, h2]; exact ⟨h1, rfl⟩
      have h4 : ((List.range l.size).filter fun i => !listed.getD i false) = [] := List.eq_nil_of_length_eq_zero (by unfold todoN at h; omega)
      rw [h4] at h3; cases h3
  | fuel + 1, t, listed, h => by
    simp only [Region.linearise.go]
    change Sch l listed (match (Region.ready .any l listed)[t % (Region.ready .any l listed).length]? with
      | some i => Region.linearise.go .any l fuel (t / (Region.ready .any l listed).length) (listed.setIfInBounds i true) [i]
      | none => [].reverse)
    cases hi : (Region.ready .any l listed)[t % (Region.ready .any l listed).length]? with
    | none =>
      simp only [List.reverse_nil, Sch]
      cases hr : Region.ready .any l listed with
      | nil => rfl
      | cons x xs =>
        rw [hr] at hi
        have hlt : t % (x :: xs).length < (x :: xs).length := Nat.mod_lt _ (by simp)
        rw [List.getElem?_eq_getElem hlt] at hi; cases hi
    | some i =>
      simp only []
      have hm := List.mem_of_getElem? hi
      obtain ⟨h1, h2, h3⟩ := ready_lt hm
      rw [linearise_go_acc, List.reverse_singleton, List.singleton_append]
      refine ⟨hm, go_sch l fuel _ _ ?_⟩
      have := todoN_set h1 h2 h3
      omega
theorem any_sch {P : Program} {l : Array Oper} {Q : Exit → Act → World → Prop} : ∀ (s : List Nat) (fuel : Nat) (listed : Array Bool) (a : Act) (w : World), wpAny P .any l Q fuel listed a w → Sch l listed s → wpOps P l Q s a w
  | [], 0, _, _, _, h, _ => h.2
  | [], _ + 1, _, _, _, h, hs => h.1 hs
  | i :: s, 0, _, _, _, h, hs => by have := hs.1; rw [h.1] at this; cases this
  | i :: s, fuel + 1, _, _, _, h, hs => by
    rw [wpOps_cons]
    exact wpOp_mono (fun a w hk => any_sch s fuel _ a w hk hs.2) (h.2 i hs.1)
/-- what is done does not ask what stands before it -/
structure AlikeO (l l' : Array Oper) : Prop where
  at_ : ∀ i : Nat, (l[i]?).map (fun (o : Oper) => (o.dst, o.op, o.type, o.pos, o.guard)) = (l'[i]?).map (fun (o : Oper) => (o.dst, o.op, o.type, o.pos, o.guard))
theorem AlikeO.yielded {l l' : Array Oper} (h : AlikeO l l') (tmps : Array Value) : yielded l tmps = yielded l' tmps := by
  funext j
  have := h.at_ j
  unfold Go.yielded
  have e : (l[j]?).bind (·.dst) = (l'[j]?).bind (·.dst) := by
    cases h1 : l[j]? <;> cases h2 : l'[j]? <;> simp [h1, h2] at this ⊢
    exact this.1
  rw [e]
theorem AlikeO.wpOps {P : Program} {Q : Exit → Act → World → Prop} {l l' : Array Oper} (h : AlikeO l l') : ∀ (s : List Nat) (a : Act) (w : World), wpOps P l' Q s a w → wpOps P l Q s a w
  | [], _, _, hh => hh
  | i :: s, a, w, hh => by
    rw [wpOps_cons] at hh ⊢
    have hh2 := wpOp_mono (fun a w => h.wpOps s a w) hh
    have hi := h.at_ i
    unfold wpOp at hh2 ⊢
    cases h1 : l[i]? with
    | none =>
      cases h2 : l'[i]? with
      | none => rw [h2] at hh2; exact hh2
      | some o' => simp [h1, h2] at hi
    | some o =>
      cases h2 : l'[i]? with
      | none => simp [h1, h2] at hi
      | some o' =>
        rw [h2] at hh2
        simp only at hh2 ⊢
        obtain ⟨d, op, ty, pos, aft, g⟩ := o
        obtain ⟨d', op', ty', pos', aft', g'⟩ := o'
        simp [h1, h2] at hi
        obtain ⟨rfl, rfl, rfl, rfl, rfl⟩ := hi
        rw [h.yielded]
        have he : ∀ ρ : Operand → Value, execOp ρ ⟨d, op, ty, pos, aft, g⟩ = execOp ρ ⟨d, op, ty, pos, aft', g⟩ := by intro ρ; cases op <;> rfl
        have hw : Region.wanted ⟨d, op, ty, pos, aft, g⟩ (Go.yielded l' a.tmps) = Region.wanted ⟨d, op, ty, pos, aft', g⟩ (Go.yielded l' a.tmps) := rfl
        rw [hw]
        split
        · rename_i hwt
          rw [if_pos hwt] at hh2
          rcases hh2 with hq | ⟨hq, hl⟩
          · left
            unfold Oper.wp at hq ⊢
            rw [he]
            generalize (execOp a.eval ⟨d, op, ty, pos, aft', g⟩).run P w = r at hq ⊢
            cases r with
            | ok m w' => cases m <;> exact hq
            | halt x w' => cases x <;> exact hq
          · right
            refine ⟨?_, hl⟩
            unfold Oper.asks at hq ⊢
            rw [he]; exact hq
        · rename_i hwt
          rw [if_neg hwt] at hh2
          exact hh2
/-- operation i stands behind operation x, too -/
def addE : List Oper → Nat → Nat → List Oper
  | [], _, _ => []
  | o :: l, 0, x => { o with after := o.after.push ⟨x, .chain⟩ } :: l
  | o :: l, i + 1, x => o :: addE l i x
theorem addE_length : ∀ (l : List Oper) (i x : Nat), (addE l i x).length = l.length
  | [], _, _ => rfl
  | _ :: _, 0, _ => rfl
  | _ :: l, i + 1, x => by simp [addE, addE_length l i x]
theorem addE_get : ∀ (l : List Oper) (i x k : Nat), (addE l i x)[k]? = if k = i then (l[k]?).map (fun (o : Oper) => { o with after := o.after.push ⟨x, .chain⟩ }) else l[k]?
  | [], i, x, k => by simp [addE]
  | o :: l, 0, x, 0 => by simp [addE]
  | o :: l, 0, x, k + 1 => by simp [addE]
  | o :: l, i + 1, x, 0 => by simp [addE]
  | o :: l, i + 1, x, k + 1 => by simp [addE, addE_get l i x k]
theorem addE_ready {l : List Oper} {i x k : Nat} {listed : Array Bool} : k ∈ Region.ready .any (addE l i x).toArray listed ↔ k ∈ Region.ready .any l.toArray listed ∧ (k = i → listed.getD x false = true) := by
  rw [ready_eq, ready_eq]
  simp only [List.mem_filter, List.mem_range, List.size_toArray, addE_length, List.getElem?_toArray, addE_get, Bool.and_eq_true]
  by_cases hk : k = i
  · subst hk
    simp only [if_true]
    cases hl : l[k]? with
    | none => simp
    | some o => simp [Region.binds]; exact ⟨fun ⟨h1, h2, h3, h4⟩ => ⟨⟨h1, h2, h3⟩, h4⟩, fun ⟨⟨h1, h2, h3⟩, h4⟩ => ⟨h1, h2, h3, h4⟩⟩
  · simp [hk]
theorem addE_alike (l : List Oper) (i x : Nat) : AlikeO l.toArray (addE l i x).toArray := ⟨fun k => by
  simp only [List.getElem?_toArray, addE_get]
  split
  · cases l[k]? <;> rfl
  · rfl⟩
theorem AlikeO.trans {l l' l2 : Array Oper} (h : AlikeO l l') (g : AlikeO l' l2) : AlikeO l l2 := ⟨fun i => (h.at_ i).trans (g.at_ i)⟩
theorem AlikeO.refl (l : Array Oper) : AlikeO l l := ⟨fun _ => rfl⟩
theorem sch_add {l : List Oper} {i x : Nat} : ∀ (s : List Nat) (listed : Array Bool), Sch l.toArray listed s → (∀ p q, s = p ++ i :: q → listed.getD x false = true ∨ x ∈ p) → Sch (addE l i x).toArray listed s
  | [], listed, h, _ => by
    unfold Sch at h ⊢
    cases hr : Region.ready .any (addE l i x).toArray listed with
    | nil => rfl
    | cons k rs =>
      have hm : k ∈ Region.ready .any (addE l i x).toArray listed := by rw [hr]; simp
      have := (addE_ready.1 hm).1
      rw [h] at this; cases this
  | k :: s, listed, h, hx => by
    obtain ⟨h1, h2⟩ := h
    refine ⟨addE_ready.2 ⟨h1, fun e => ?_⟩, sch_add s _ h2 fun p q e => ?_⟩
    · subst e
      rcases hx [] s rfl with h3 | h3
      · exact h3
      · cases h3
    · rcases hx (k :: p) q (by rw [e]; rfl) with h3 | h3
      · left
        by_cases hkx : k = x
        · subst hkx; exact getD_set_same (ready_lt h1).2.1
        · rw [getD_set_other (fun e => hkx e.symm)]; exact h3
      · rcases List.mem_cons.1 h3 with h4 | h4
        · subst h4; exact .inl (getD_set_same (ready_lt h1).2.1)
        · exact .inr h4
theorem first_of (s : List Nat) {x y : Nat} (hne : x ≠ y) : (∀ p q, s = p ++ y :: q → x ∈ p) ∨ (∀ p q, s = p ++ x :: q → y ∈ p) := by
  by_cases h : ∀ p q, s = p ++ y :: q → x ∈ p
  · exact .inl h
  · right
    obtain ⟨p, hp⟩ := Classical.not_forall.1 h
    obtain ⟨q, hq⟩ := Classical.not_forall.1 hp
    obtain ⟨e, hx⟩ := Classical.not_imp.1 hq
    intro p' q' e'
    rw [e] at e'
    rcases List.append_eq_append_iff.1 e' with ⟨r, h1, h2⟩ | ⟨r, h1, h2⟩
    · cases r with
      | nil => simp at h2; exact absurd h2.1.symm hne
      | cons r0 r =>
        simp at h2
        rw [h1, h2.1]; simp
    · cases r with
      | nil => simp at h2; exact absurd h2.1 hne
      | cons r0 r =>
        simp at h2
        refine absurd ?_ hx
        rw [h1, h2.1]; simp
section
variable {P : Program} {n : Nat} {l0 l : List Oper} {sp : List Nat} {Q : Exit → Act → World → Prop}
@[irreducible] def DrW (P : Program) (n : Nat) (l0 l : List Oper) (Q : Exit → Act → World → Prop) (L : Env) (w : World) : Prop := AlikeO l0.toArray l.toArray → ∀ s, Sch l.toArray (Array.replicate l.length false) s → ∀ a, Fr n L a → wpOps P l0.toArray Q s a w
theorem wc_draws {id : Nat} {L : Env} {w : World} (hm : P.follows .mixedOrders = true) (h : DrW P n l l Q L w.drew) : wc P n (.region id l.toArray true) Q L w := by
  unfold wc
  unfold DrW at h
  intro a ha
  refine wp_region_draw fun t => ?_
  simp only [Region.schedule, hm, Bool.true_or, if_true]
  refine h (AlikeO.refl _) _ ?_ a ha
  have := go_sch l.toArray l.toArray.size t (Array.replicate l.length false) (by
    unfold todoN
    have := List.length_filter_le (fun i => !(Array.replicate l.length false).getD i false) (List.range l.toArray.size)
    simpa using this)
  simpa [Region.linearise] using this
theorem dr_split {L : Env} {w : World} (x y : Nat) (hne : Nat.beq x y = false) (h1 : DrW P n l0 (addE l y x) Q L w) (h2 : DrW P n l0 (addE l x y) Q L w) : DrW P n l0 l Q L w := by
  unfold DrW at *
  intro hal s hs a ha
  rcases first_of s (x := x) (y := y) (fun e => by subst e; rw [Nat.beq_refl] at hne; cases hne) with h | h
  · refine h1 (hal.trans (addE_alike l y x)) s ?_ a ha
    rw [addE_length]
    exact sch_add s _ hs fun p q e => .inr (h p q e)
  · refine h2 (hal.trans (addE_alike l x y)) s ?_ a ha
    rw [addE_length]
    exact sch_add s _ hs fun p q e => .inr (h p q e)
theorem dr_vc {L : Env} {w : World} (ord : List Nat) (hck : drawOk l n ord sp = true) (h : VC P n l (masks l []) sp Q ord L w []) : DrW P n l0 l Q L w := by
  unfold DrW
  intro hal s hs a ha
  refine hal.wpOps s a w (any_sch s l.length _ a w ?_ hs)
  have st := drawOk_spec hck
  have inv0 : Inv P n l sp ord Q a L (Array.replicate l.length false) a w [] ord [] false :=
    { size := by simp, closed := fun i o _ hl => (by rw [getD_replicate_false] at hl; cases hl), order := rfl, vc := h, head := (fun h => by cases h), inD := fun i hl => (by rw [getD_replicate_false] at hl; cases hl),
      spD := by simp, old := fun _ _ => rfl, val := by simp, quiet := (by intro D1 r D2 e; simp at e), again := (by intro D1 r D2 e; simp at e), ops := by simp, tsize := ha.size, defers := ha.defers }
  obtain ⟨D, suf, pf, inv⟩ := inv0.advance st
  have htodo : todoN (Array.replicate l.length false) l.length = l.length := by
    unfold todoN
    rw [List.filter_eq_self.2 (fun i _ => by rw [getD_replicate_false]; rfl)]
    simp
  exact vc_any st ha l.length (Array.replicate l.length false) a w D suf pf inv htodo
end
end Go.Proofs.YtcbdclhoekokpaaGreatDoor.M
