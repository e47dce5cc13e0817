/- Rules for ranging over maps, for values in interfaces, and for calls into the model's own entries. Conditions: each rule's own hypotheses. -/
import Derived.Test.YtcbdclhoekokpaaGreatDoorOp3
import Derived.Laws.Externs
namespace Go.Proofs.YtcbdclhoekokpaaGreatDoor.M
open Go.RowKit

section
variable {κ : Type} {kv : κ → Value}

def notSeen (es : Array MapEntry) (seen : Array Nat) : List MapEntry := es.toList.filter fun e => !seen.toList.contains e.born

/-- a map that is being ranged over: what it says, which keys have been met, the last one met, and how many are still to come -/
def rangeT (kv : κ → Value) (b r : Nat) (g : κ → Option Value) (dn : κ → Prop) (cur : Option κ) (left : Nat) : Th where
  at_ := fun w F => (F = fun k => k = b ∨ k = r) ∧ b ≠ r ∧ ∃ es clock seen, MapAt kv w b es clock ∧ Reads kv es g ∧ IterAt w r b clock seen clock ∧ (∀ e ∈ es.toList, ∀ k, e.key = kv k → (e.born ∈ seen.toList ↔ dn k)) ∧ (notSeen es seen).length = left ∧
    (∀ k, cur = some k → ∃ (s0 : Array Nat) (e : MapEntry), seen = s0.push e.born ∧ e ∈ es.toList ∧ e.key = kv k)
  fr := fun {w w2 F} a h => by
    obtain ⟨e, hne, es, c, sn, h1, h2, h3, h4⟩ := h
    have hb := a.blk b (by rw [e]; exact .inl rfl)
    have hr := a.blk r (by rw [e]; exact .inr rfl)
    exact ⟨e, hne, es, c, sn, h1.congr hb, h2, by unfold IterAt at h3 ⊢; rw [hr]; exact h3, h4⟩
  lt := fun h k hk => by
    obtain ⟨e, _, es, c, sn, h1, _, h3, _⟩ := h
    rw [e] at hk
    rcases hk with rfl | rfl
    · exact h1.lt
    · exact h3.lt

theorem range_map {w : World} {As : List Th} {b r : Nat} {g : κ → Option Value} {dn : κ → Prop} {cur : Option κ} {left : Nat} (h : Sat w (rangeT kv b r g dn cur left :: As)) : Sat w (mapT kv b g :: As) := by
  obtain ⟨F, F1, F2, rfl, d, ⟨e, _, es, c, sn, h1, h2, _⟩, g2⟩ := h
  exact ⟨_, fun k => k = b, F2, rfl, fun k hk hf => d k (by rw [e]; exact .inl hk) hf, ⟨rfl, es, c, h1, h2⟩, g2⟩

section
variable {P : Program} {n : Nat} {ops : Array Oper} {Q : Exit → Act → World → Prop} {rest : List Oper} {L : Env} {w : World} {d : Nat} {ty : TypeId} {pos : String} {aft : Array Edge}

theorem wl_range {mt kt et : TypeId} {x : Operand} {b : Nat} {f : κ → Option Value} {As : List Th} (i : Nat) (hS : Sat w As) (hm : P.underlying mt = some (.map kt et)) (hi : As[i]? = some (mapT kv b f)) (hx : look L x = some (.map (some b))) (hd : Nat.blt d n = true)
    (hk : ∀ r left w', Sat w' (As.set i (rangeT kv b r f (fun _ => False) none left)) → wl P n ops Q rest ((d, ptrV r 0) :: L) w') : wl P n ops Q (⟨some d, .range mt x, ty, pos, aft, none⟩ :: rest) L w := by
  obtain ⟨es, c, h1, h2⟩ := hS.map i hi
  refine wl_does rfl hd (fun a ha => does_range mt x rfl hm h1 (ha.eval hx)) ?_
  rintro v w' ⟨rfl, h3, h4⟩
  have ho : Only [] w w' := by rw [h4]; exact (Only.refl _ _).alloc _
  refine hk w.heap.size _ w' (hS.step i hi fun F ⟨e, _⟩ => ⟨fun k => k = b ∨ k = w.heap.size, ⟨rfl, ?_, es, c, #[], ?_, h2, h3, by simp, rfl, by simp⟩, ?_, ?_⟩)
  · have := h1.lt; omega
  · exact h1.congr (ho.block b h1.lt (by simp))
  · rintro k (rfl | rfl)
    · exact .inl (by rw [e])
    · exact .inr (Nat.le_refl _)
  · exact ⟨ho.os, ho.tape, ho.output, fun k hk => ho.block k hk.1 (by simp)⟩

theorem wl_next {x : Operand} {b r left : Nat} {g : κ → Option Value} {dn : κ → Prop} {cur : Option κ} {As : List Th} (i : Nat) (hS : Sat w As) (hinj : ∀ a b, kv a = kv b → a = b) (hi : As[i]? = some (rangeT kv b r g dn cur left)) (hx : look L x = some (ptrV r 0)) (hd : Nat.blt d n = true)
    (h0 : (∀ k v, g k = some v → dn k) → wl P n ops Q rest ((d, .tuple #[.bool false]) :: L) w)
    (h1 : ∀ k v left' w', left = left' + 1 → g k = some v → ¬ dn k → Sat w' (As.set i (rangeT kv b r g (fun j => dn j ∨ j = k) (some k) left')) → wl P n ops Q rest ((d, .tuple #[.bool true, kv k, v]) :: L) w') : wl P n ops Q (⟨some d, .next x false, ty, pos, aft, none⟩ :: rest) L w := by
  obtain ⟨F, hF, hne, es, c, sn, m1, m2, m3, m4, m5, m6⟩ := hS.get i hi
  refine wl_does rfl hd (fun a ha => does_next x rfl m1 m3 (ha.eval hx)) ?_
  rintro v w' (⟨rfl, rfl, hall⟩ | ⟨e, he, hns, rfl, ho, hit, hsz⟩)
  · refine h0 fun k v hk => ?_
    obtain ⟨e, he, hkk, _⟩ := (m2 k v).1 hk
    exact (m4 e he k hkk).1 (hall e he)
  · obtain ⟨k, hk⟩ := m1.keys e he
    have hgk : g k = some e.val := (m2 k e.val).2 ⟨e, he, hk, rfl⟩
    have hcnt : (notSeen es (sn.push e.born)).length + 1 = (notSeen es sn).length := by
      unfold notSeen
      have hnd := m1.stamped.2.1
      have hmem : ∀ l : List MapEntry, (l.map (·.born)).Nodup → e ∈ l → (l.filter fun x => !(sn.push e.born).toList.contains x.born).length + 1 = (l.filter fun x => !sn.toList.contains x.born).length := by
        intro l
        induction l with
        | nil => intro _ h; cases h
        | cons y l ih =>
          intro hn hy
          simp only [List.map_cons, List.nodup_cons] at hn
          rcases List.mem_cons.1 hy with rfl | hy
          · have h1 : (!(sn.push e.born).toList.contains e.born) = false := by simp
            have h2 : (!sn.toList.contains e.born) = true := by simpa using hns
            have h3 : l.filter (fun x => !(sn.push e.born).toList.contains x.born) = l.filter fun x => !sn.toList.contains x.born := by
              apply List.filter_congr
              intro x hx
              have : x.born ≠ e.born := fun q => hn.1 (List.mem_map.2 ⟨x, hx, q⟩)
              simp [this]
            rw [List.filter_cons, List.filter_cons, h1, h2, h3]; simp
          · have hne2 : y.born ≠ e.born := fun q => hn.1 (List.mem_map.2 ⟨e, hy, q.symm⟩)
            have h1 : (!(sn.push e.born).toList.contains y.born) = (!sn.toList.contains y.born) := by simp [hne2]
            have := ih hn.2 hy
            rw [List.filter_cons, List.filter_cons, h1]
            split
            · simp only [List.length_cons]; omega
            · exact this
      exact hmem es.toList hnd he
    rw [hk]
    refine h1 k e.val (notSeen es (sn.push e.born)).length w' (by omega) hgk (fun q => hns ((m4 e he k hk).2 q)) (hS.step i hi fun F2 h2 => ?_)
    have hF2 := h2.1
    refine ⟨fun k => k = b ∨ k = r, ⟨rfl, hne, es, c, sn.push e.born, m1.congr (ho.block b m1.lt (by simpa using hne)), m2, hit, ?_, rfl, ?_⟩, fun q hq => .inl (by rw [hF2]; exact hq), ho.agree (fun x hx => .inl (by simp only [List.mem_singleton] at hx; subst hx; rw [hF2]; exact .inr rfl))⟩
    · intro e2 he2 j hj
      simp only [Array.toList_push, List.mem_append, List.mem_singleton]
      rw [m4 e2 he2 j hj]
      constructor
      · rintro (h | h)
        · exact .inl h
        · have : e2 = e := by
            obtain ⟨p, hp⟩ := List.mem_iff_getElem?.1 he2
            obtain ⟨q, hq⟩ := List.mem_iff_getElem?.1 he
            have := born_idx m1.stamped.2.1 hp hq h
            subst this; rw [hp] at hq; exact Option.some.inj hq
          subst this
          exact .inr (hinj _ _ (hj.symm.trans hk))
      · rintro (h | h)
        · exact .inl h
        · subst h
          exact .inr (by rw [key_one m1.stamped.2.2 he2 he (hj.trans hk.symm)])
    · intro j hj
      cases hj
      exact ⟨sn, e, rfl, he, hk⟩

theorem wl_entry {x : Operand} {b r left : Nat} {g : κ → Option Value} {dn : κ → Prop} {k : κ} {v : Value} {As : List Th} (i : Nat) (hS : Sat w As) (hi : As[i]? = some (rangeT kv b r g dn (some k) left)) (hg : g k = some v) (hx : look L x = some (ptrV r 0)) (hd : Nat.blt d n = true)
    (hk : wl P n ops Q rest ((d, .tuple #[kv k, v]) :: L) w) : wl P n ops Q (⟨some d, .entry x, ty, pos, aft, none⟩ :: rest) L w := by
  obtain ⟨F, hF, hne, es, c, sn, m1, m2, m3, m4, m5, m6⟩ := hS.get i hi
  obtain ⟨s0, e, rfl, he, hke⟩ := m6 k rfl
  have hv : v = e.val := by have := (m2 k e.val).2 ⟨e, he, hke, rfl⟩; rw [hg] at this; exact Option.some.inj this
  subst hv
  refine wl_does rfl hd (fun a ha => does_entry x rfl m1 m3 he (ha.eval hx)) ?_
  rintro u w' ⟨rfl, rfl⟩
  rw [hke]; exact hk

/-- m[k] = v while m is being ranged over, k a key that is there -/
theorem wl_mapUpdateR {mt kt et : TypeId} {x y z : Operand} {b r left : Nat} {g : κ → Option Value} {dn : κ → Prop} {cur : Option κ} {As : List Th} {k : κ} {v v0 : Value} (i : Nat) (hS : Sat w As) (K : KeyOk P kt kv) (hm : P.underlying mt = some (.map kt et)) (hi : As[i]? = some (rangeT kv b r g dn cur left)) (hg : g k = some v0) (hx : look L x = some (.map (some b))) (hy : look L y = some (kv k)) (hz : look L z = some v)
    (hk : ∀ w', Sat w' (As.set i (rangeT kv b r (upd g k (some v)) dn cur left)) → wl P n ops Q rest L w') : wl P n ops Q (⟨none, .mapUpdate mt x y z, ty, pos, aft, none⟩ :: rest) L w := by
  obtain ⟨F, hF, hne, es, c, sn, m1, m2, m3, m4, m5, m6⟩ := hS.get i hi
  refine wl_does rfl rfl (fun a ha => does_mapUpdate mt x y z rfl K hm m1 (ha.eval hx) (ha.eval hy) (ha.eval hz)) ?_
  rintro _ w' ⟨rfl, es', c', hp, h3, h4, _⟩
  have hread := m2.put K m1.stamped hp
  obtain ⟨e0, he0, hk0, hv0⟩ := (m2 k v0).1 hg
  rcases hp with ⟨rfl, j, e, h1, h2, rfl⟩ | ⟨rfl, h1, rfl⟩
  · have hborn : ∀ e2 ∈ (es.modify j (fun e => { e with key := kv k, val := v })).toList, ∃ e1 ∈ es.toList, e1.born = e2.born ∧ e1.key = e2.key := by
      intro e2 he2
      obtain ⟨q, hq⟩ := List.mem_iff_getElem?.1 he2
      rw [Array.getElem?_toList, Array.getElem?_modify] at hq
      by_cases hjq : j = q
      · subst hjq
        rw [if_pos rfl, h1] at hq
        simp at hq; subst hq
        exact ⟨e, List.mem_of_getElem? (by simpa using h1), rfl, h2⟩
      · rw [if_neg hjq] at hq
        exact ⟨e2, List.mem_of_getElem? (by simpa using hq), rfl, rfl⟩
    have hmapb : (es.modify j (fun e => { e with key := kv k, val := v })).toList.map (·.born) = es.toList.map (·.born) := by
      apply List.ext_getElem?
      intro q
      simp only [List.getElem?_map, Array.getElem?_toList, Array.getElem?_modify]
      by_cases hjq : j = q
      · subst hjq; rw [if_pos rfl]; cases es[j]? <;> rfl
      · rw [if_neg hjq]
    have hlen : ∀ (l l' : List MapEntry), l.map (·.born) = l'.map (·.born) → (l.filter fun e => !sn.toList.contains e.born).length = (l'.filter fun e => !sn.toList.contains e.born).length := by
      intro l
      induction l with
      | nil => intro l' h; cases l' with | nil => rfl | cons => simp at h
      | cons y l ih =>
        intro l' h
        cases l' with
        | nil => simp at h
        | cons y' l' =>
          simp only [List.map_cons, List.cons.injEq] at h
          rw [List.filter_cons, List.filter_cons, h.1]
          split
          · simp only [List.length_cons, ih l' h.2]
          · exact ih l' h.2
    refine hk w' (hS.step i hi fun F2 hF2' => ?_)
    have hF2 := hF2'.1
    refine ⟨fun k => k = b ∨ k = r, ⟨rfl, hne, _, c', sn, h3, hread, ?_, ?_, ?_, ?_⟩, fun q hq => .inl (by rw [hF2]; exact hq), h4.agree (fun x hx => .inl (by simp only [List.mem_singleton] at hx; subst hx; rw [hF2]; exact .inl rfl))⟩
    · have hlt := m3.lt; unfold IterAt at m3 ⊢; rw [h4.block r hlt (by simpa using Ne.symm hne)]; exact m3
    · intro e2 he2 q hq
      obtain ⟨e1, he1, hb1, hk1⟩ := hborn e2 he2
      rw [← hb1]; exact m4 e1 he1 q (hk1.trans hq)
    · rw [← m5]; exact hlen _ _ hmapb
    · intro q hq
      obtain ⟨s0, e1, hs, he1, hk1⟩ := m6 q hq
      obtain ⟨p, hp⟩ := List.mem_iff_getElem?.1 he1
      by_cases hjp : j = p
      · subst hjp
        have : e1 = e := by rw [Array.getElem?_toList, h1] at hp; exact (Option.some.inj hp).symm
        subst this
        refine ⟨s0, { e1 with key := kv k, val := v }, hs, List.mem_of_getElem? (i := j) ?_, h2.symm.trans hk1⟩
        rw [Array.getElem?_toList, Array.getElem?_modify, if_pos rfl, h1]; rfl
      · refine ⟨s0, e1, hs, List.mem_of_getElem? (i := p) ?_, hk1⟩
        rw [Array.getElem?_toList, Array.getElem?_modify, if_neg hjp]; simpa using hp
  · exact absurd hk0 (h1 e0 he0)

/-- delete(m, k) while m is being ranged over, k the key met last -/
theorem wl_deleteR {mt t2 kt et : TypeId} {x y : Operand} {b r left : Nat} {g : κ → Option Value} {dn : κ → Prop} {As : List Th} {k : κ} (i : Nat) (hS : Sat w As) (K : KeyOk P kt kv) (hm : P.underlying mt = some (.map kt et)) (hi : As[i]? = some (rangeT kv b r g dn (some k) left)) (hdn : dn k) (hx : look L x = some (.map (some b))) (hy : look L y = some (kv k)) {dst : Option Nat} (hd : dOk n dst = true)
    (hk : ∀ w', Sat w' (As.set i (rangeT kv b r (upd g k none) dn none left)) → wl P n ops Q rest (pd dst (.tuple #[]) L) w') : wl P n ops Q (⟨dst, .call ⟨.builtin .delete, #[x, y], #[mt, t2]⟩, ty, pos, aft, none⟩ :: rest) L w := by
  obtain ⟨F, hF, hne, es, c, sn, m1, m2, m3, m4, m5, m6⟩ := hS.get i hi
  refine wl_does rfl (by cases dst <;> exact hd) (fun a ha => does_delete mt t2 x y rfl K hm m1 (ha.eval hx) (ha.eval hy)) ?_
  rintro _ w' ⟨rfl, es', hmem, h3, h4, _⟩
  refine hk w' (hS.step i hi fun F2 hF2' => ?_)
  have hF2 := hF2'.1
  have hsub : ∀ e ∈ es'.toList, e ∈ es.toList := fun e he => ((hmem e).1 he).1
  refine ⟨fun k => k = b ∨ k = r, ⟨rfl, hne, es', c, sn, h3, ?_, ?_, fun e he q hq => m4 e (hsub e he) q hq, ?_, by simp⟩, fun q hq => .inl (by rw [hF2]; exact hq), h4.agree (fun x hx => .inl (by simp only [List.mem_singleton] at hx; subst hx; rw [hF2]; exact .inl rfl))⟩
  · intro j v
    by_cases hj : j = k
    · subst hj
      rw [upd_self]
      constructor
      · intro h; cases h
      · rintro ⟨e, he, hk2, _⟩; exact absurd hk2 ((hmem e).1 he).2
    · rw [upd_ne hj, m2 j v]
      constructor
      · rintro ⟨e, he, hk2, hv⟩; exact ⟨e, (hmem e).2 ⟨he, fun q => hj (K.inj _ _ (hk2.symm.trans q))⟩, hk2, hv⟩
      · rintro ⟨e, he, hk2, hv⟩; exact ⟨e, hsub e he, hk2, hv⟩
  · have hlt := m3.lt; unfold IterAt at m3 ⊢; rw [h4.block r hlt (by simpa using Ne.symm hne)]; exact m3
  · rw [← m5]
    unfold notSeen
    apply List.Perm.length_eq
    refine (List.perm_ext_iff_of_nodup ?_ ?_).2 ?_
    · exact List.Pairwise.filter _ (nodup_of_map h3.stamped.2.1)
    · exact List.Pairwise.filter _ (nodup_of_map m1.stamped.2.1)
    · intro e
      simp only [List.mem_filter, hmem]
      constructor
      · rintro ⟨⟨h1, _⟩, h2⟩; exact ⟨h1, h2⟩
      · rintro ⟨h1, h2⟩
        refine ⟨⟨h1, fun q => ?_⟩, h2⟩
        have := (m4 e h1 k q).2 hdn
        simp at h2
        exact h2 (by simpa using this)
where
  nodup_of_map {α β : Type} {f : α → β} {l : List α} (h : (l.map f).Nodup) : l.Nodup := by
    induction l with
    | nil => exact List.nodup_nil
    | cons x l ih =>
      simp only [List.map_cons, List.nodup_cons] at h
      exact List.nodup_cons.2 ⟨fun hm => h.1 (List.mem_map.2 ⟨x, hm, rfl⟩), ih h.2⟩

theorem wl_eqlMapNil {x y : Operand} {t t2 kt et : TypeId} {b : Nat} (hu : P.underlying t = some (.map kt et)) (hx : look L x = some (.map (some b))) (hy : look L y = some (.map none)) (hd : Nat.blt d n = true) (hk : wl P n ops Q rest ((d, .bool false) :: L) w) : wl P n ops Q (⟨some d, .binOp .eql t x y t2, ty, pos, aft, none⟩ :: rest) L w :=
  wl_val hd (fun ρ hρ => by
    have : (Op.equal t (.map (some b)) (.map none)).run P w = .ok false w := by
      unfold Op.equal Op.maxDepth Op.equalIn
      simp only [Sem.run_bind, run_underlying hu, Result.andThen]
      rfl
    simp [execOp, hρ _ _ hx, hρ _ _ hy, eqGuard, binOp, this]) hk
def notIface (P : Program) (t : Nat) : Bool := match P.underlying t with | some (.interface _) => false | some _ => true | none => false
theorem wl_makeIface {x : Operand} {t : TypeId} {v : Value} (ht : notIface P t = true) (hx : look L x = some v) (hd : Nat.blt d n = true) (hk : wl P n ops Q rest ((d, .iface t v) :: L) w) : wl P n ops Q (⟨some d, .makeInterface t x, ty, pos, aft, none⟩ :: rest) L w :=
  wl_val hd (fun ρ hρ => by
    unfold notIface at ht
    cases hu : P.underlying t with
    | none => rw [hu] at ht; cases ht
    | some dd =>
      rw [hu] at ht
      simp only [execOp, hρ _ _ hx, Instr.makeInterface]
      cases dd <;> simp [run_underlying hu] <;> simp at ht) hk
theorem wl_typeAssert {x : Operand} {xt t : TypeId} {v : Value} (ht : notIface P t = true) (hx : look L x = some (.iface t v)) (hd : Nat.blt d n = true) (hk : wl P n ops Q rest ((d, v) :: L) w) : wl P n ops Q (⟨some d, .typeAssert x xt t false, ty, pos, aft, none⟩ :: rest) L w :=
  wl_val hd (fun ρ hρ => by
    unfold notIface at ht
    cases hu : P.underlying t with
    | none => rw [hu] at ht; cases ht
    | some dd =>
      rw [hu] at ht
      simp only [execOp, hρ _ _ hx, Instr.typeAssert]
      cases dd <;> simp [run_underlying hu] <;> simp at ht) hk

/-- the model's own copy of a map -/
theorem wl_mapsClone {f : Nat} {fn : Func} {x : Operand} {ts : Array TypeId} {t : TypeId} {b : Nat} {g : κ → Option Value} {As : List Th} (i : Nat) (hS : Sat w As) (hf : P.funcs[f]? = some fn) (hname : (fn.name == "runtime.NumGoroutine") = false) (hb : fn.body.isNone = true) (hn : Extern.findNext fn = none) (he : Extern.find fn = some Extern.MapsClone.clone)
    (hi : As[i]? = some (mapT kv b g)) (hx : look L x = some (.iface t (.map (some b)))) (hd : Nat.blt d n = true) (hk : ∀ b' w', Sat w' (mapT kv b' g :: As) → wl P n ops Q rest ((d, .iface t (.map (some b'))) :: L) w') : wl P n ops Q (⟨some d, .call ⟨.value (.func f), #[x], ts⟩, ty, pos, aft, none⟩ :: rest) L w := by
  obtain ⟨es, c, h1, h2⟩ := hS.map i hi
  refine wl_does rfl hd (R := fun v w' => v = .iface t (.map (some w.heap.size)) ∧ w' = w.alloc (.map es c)) (fun a ha => ⟨_, _, .inl ?_, rfl, rfl⟩) ?_
  · have hr : (Extern.MapsClone.clone #[.iface t (.map (some b))]).run P w = .ok (.iface t (.map (some w.heap.size))) (w.alloc (.map es c)) := by
      have e : Extern.MapsClone.clone #[.iface t (.map (some b))] = (getObj b >>= fun o => match o with
          | .map entries clock => (newObj (.map entries clock) >>= fun n => pure (.iface t (.map (some n))))
          | _ => stuck "maps.clone: a map expected") := rfl
      rw [e]
      simp [MapKept.run_getObj_map h1.blk]
    have hc := run_callFunc_extern hf hname hb hn he #[.iface t (.map (some b))] w
    rw [hr] at hc
    simp only [execOp, resolve, Act.eval, Deferred.ofValue, invoke]
    have hxe := ha.eval hx
    simp
    rw [hxe, hc]; rfl
  · rintro v w' ⟨rfl, rfl⟩
    exact hk _ _ (hS.new ((Only.refl _ _).alloc _) (A := mapT kv w.heap.size g) ⟨rfl, es, c, ⟨(MapKept.heap_alloc w _).1, h1.stamped, h1.keys⟩, h2⟩ (fun k hk => by rw [hk]; exact Nat.le_refl _))
end
section
variable {P : Program} {n : Nat} {ops : Array Oper} {Q : Exit → Act → World → Prop} {rest : List Oper} {L : Env} {w : World} {d : Nat} {ty : TypeId} {pos : String} {aft : Array Edge}

theorem Sat.oagg {As : List Th} (hS : Sat w As) (i : Nat) {v : Value} {m m' size b o o' cap k : Nat} {xs vs : List Value} (hi : As[i]? = some (ownT v m size xs)) (hv : v = .slice (some ⟨b, o', none⟩) m' cap) (hvs : (xs.drop o).take k = vs) : ∀ j u, vs[j]? = some u → w.cell? ⟨b, o + j, none⟩ = some u := by
  intro j u hj
  rw [← hvs, List.getElem?_take] at hj
  split at hj
  · rw [List.getElem?_drop] at hj; exact hS.ocell i hi hv hj
  · cases hj
/-- a struct in an owned slice is read -/
theorem wl_loadO {As : List Th} (i : Nat) (hS : Sat w As) {x : Operand} {t b o o' cap m m' k size : Nat} {v : Value} {xs vs : List Value} (hi : As[i]? = some (ownT v m size xs)) (hv : v = .slice (some ⟨b, o', none⟩) m' cap) (hx : look L x = some (ptrV b o)) (ha : aggB P t = some true) (hs : szOf P t = some k) (hvs : (xs.drop o).take k = vs) (hl : vs.length = k) (hd : Nat.blt d n = true)
    (hk : wl P n ops Q rest ((d, .agg vs.toArray) :: L) w) : wl P n ops Q (⟨some d, .load t x, ty, pos, aft, none⟩ :: rest) L w :=
  wl_loadAt hx ha (by rw [hl]; exact hs) (hS.oagg i hi hv hvs) hd hk
/-- clear(x), x a part of an owned slice -/
theorem wl_clearO {As : List Th} (i : Nat) (hS : Sat w As) {x : Operand} {t e b o off m m' cap size q dc : Nat} {v z : Value} {xs xs' : List Value} (hi : As[i]? = some (ownT v m size xs)) (hv : v = .slice (some ⟨b, o, none⟩) m' cap) (hx : look L x = some (.slice (some ⟨b, off, none⟩) q dc)) (hu : P.underlying t = some (.slice e)) (hz : zeroOf P e = some (some z)) (h1 : allOne z.cells.toList = true) (hfit : off + q * z.cells.size ≤ xs.length) (hxs : splice xs off (List.replicate q z.cells.toList).flatten = xs') {dst : Option Nat} (hd : dOk n dst = true)
    (hk : ∀ w', Sat w' (As.set i (ownT v m size xs')) → wl P n ops Q rest (pd dst (.tuple #[]) L) w') : wl P n ops Q (⟨dst, .call ⟨.builtin .clear, #[x], #[t]⟩, ty, pos, aft, none⟩ :: rest) L w := by
  subst hxs
  obtain ⟨sp, hb, hback⟩ := hS.own_row i hi hv
  refine wl_does rfl (by cases dst <;> exact hd) (fun a ha => does_clear t x rfl (ha.eval hx) hb hu hz (allOne_spec h1) (by simp; omega)) ?_
  rintro u w' ⟨rfl, h2, h3, _⟩
  have hl : off + (List.replicate q z.cells.toList).flatten.length ≤ xs.length := by simp; omega
  refine hk w' (hback w' _ (splice_length hl) ?_ h3)
  rw [← splice_append_left hl]
  exact h2
/-- the head of an owned slice -/
theorem Sat.own_head {As : List Th} (hS : Sat w As) (i : Nat) {v : Value} {m m' size b cap q : Nat} {xs : List Value} (hi : As[i]? = some (ownT v m size xs)) (hv : v = .slice (some ⟨b, 0, none⟩) m' cap) (hq : q ≤ m) : Sat w (As.set i (ownT (.slice (some ⟨b, 0, none⟩) q cap) q size (xs.take (q * size)))) := by
  refine hS.mono1 i hi fun F h => ?_
  obtain ⟨f, rfl, hl, ⟨h0, _⟩ | ⟨b', cap', sp, h0, hc, hb, hlen, rfl⟩⟩ := h
  · rw [hv] at h0; cases h0
  · rw [hv] at h0; cases h0
    have hle : q * size ≤ m * size := Nat.mul_le_mul_right _ hq
    refine ⟨[b], rfl, by rw [List.length_take, hl]; omega, .inr ⟨b, cap, xs.drop (q * size) ++ sp, rfl, by omega, ?_, ?_, rfl⟩⟩
    · rw [← List.append_assoc, List.take_append_drop]; exact hb
    · rw [← List.append_assoc, List.take_append_drop]; exact hlen
end
end
end Go.Proofs.YtcbdclhoekokpaaGreatDoor.M
