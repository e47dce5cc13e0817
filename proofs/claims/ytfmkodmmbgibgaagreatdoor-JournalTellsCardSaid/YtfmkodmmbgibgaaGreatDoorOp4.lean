/- Rules for ranging over maps, for values in interfaces, and for calls into the model's own entries. Conditions: each rule's own hypotheses. -/
import Derived.Test.YtfmkodmmbgibgaaGreatDoorMap
import Derived.Laws.Externs
namespace Go.Proofs.YtfmkodmmbgibgaaGreatDoor.M
open Go.RowKit
section
variable {κ : Type} {kv : κ → Value}
def notSeen (es : Array MapEntry) (seen : Array Nat) : List MapEntry := es.toList.filter fun e => !seen.toList.contains e.born
/-- a map that is being ranged over: what it says, which keys have been met, the last one met, and how many are still to come -/
def rangeT (kv : κ → Value) (b r : Nat) (g : κ → Option Value) (dn : κ → Prop) (cur : Option κ) (left : Nat) : Th where
  at_ := fun w F => (F = fun k => k = b ∨ k = r) ∧ b ≠ r ∧ ∃ es clock seen, MapAt kv w b es clock ∧ Reads kv es g ∧ IterAt w r b clock seen clock ∧ (∀ e ∈ es.toList, ∀ k, e.key = kv k → (e.born ∈ seen.toList ↔ dn k)) ∧ (notSeen es seen).length = left ∧
    (∀ k, cur = some k → ∃ (s0 : Array Nat) (e : MapEntry), seen = s0.push e.born ∧ e ∈ es.toList ∧ e.key = kv k)
  fr := fun {w w2 F} a h => by
    obtain ⟨e, hne, es, c, sn, h1, h2, h3, h4⟩ := h
    have hb := a.blk b (by rw [e]; exact .inl rfl)
    have hr := a.blk r (by rw [e]; exact .inr rfl)
    exact ⟨e, hne, es, c, sn, h1.congr hb, h2, by unfold IterAt at h3 ⊢; rw [hr]; exact h3, h4⟩
  lt := fun h k hk => by
    obtain ⟨e, _, es, c, sn, h1, _, h3, _⟩ := h
    rw [e] at hk
    rcases hk with rfl | rfl
    · exact h1.lt
    · exact h3.lt
theorem range_map {w : World} {As : List Th} {b r : Nat} {g : κ → Option Value} {dn : κ → Prop} {cur : Option κ} {left : Nat} (h : Sat w (rangeT kv b r g dn cur left :: As)) : Sat w (mapT kv b g :: As) := by
  obtain ⟨F, F1, F2, rfl, d, ⟨e, _, es, c, sn, h1, h2, _⟩, g2⟩ := h
  exact ⟨_, fun k => k = b, F2, rfl, fun k hk hf => d k (by rw [e]; exact .inl hk) hf, ⟨rfl, es, c, h1, h2⟩, g2⟩
section
variable {P : Program} {n : Nat} {ops : Array Oper} {Q : Exit → Act → World → Prop} {rest : List Oper} {L : Env} {w : World} {d : Nat} {ty : TypeId} {pos : String} {aft : Array Edge}
theorem wl_range {mt kt et : TypeId} {x : Operand} {b : Nat} {f : κ → Option Value} {As : List Th} (i : Nat) (hS : Sat w As) (hm : P.underlying mt = some (.map kt et)) (hi : As[i]? = some (mapT kv b f)) (hx : look L x = some (.map (some b))) (hd : Nat.blt d n = true)
    (hk : ∀ r left w', Sat w' (As.set i (rangeT kv b r f (fun _ => False) none left)) → wl P n ops Q rest ((d, ptrV r 0) :: L) w') : wl P n ops Q (⟨some d, .range mt x, ty, pos, aft, none⟩ :: rest) L w := by
  obtain ⟨es, c, h1, h2⟩ := hS.map i hi
  refine wl_does rfl hd (fun a ha => does_range mt x rfl hm h1 (ha.eval hx)) ?_
  rintro v w' ⟨rfl, h3, h4⟩
  have ho : Only [] w w' := by rw [h4]; exact (Only.refl _ _).alloc _
  refine hk w.heap.size _ w' (hS.step i hi fun F ⟨e, _⟩ => ⟨fun k => k = b ∨ k = w.heap.size, ⟨rfl, ?_, es, c, #[], ?_, h2, h3, by simp, rfl, by simp⟩, ?_, ?_⟩)
  · have := h1.lt; omega
  · exact h1.congr (ho.block b h1.lt (by simp))
  · rintro k (rfl | rfl)
    · exact .inl (by rw [e])
    · exact .inr (Nat.le_refl _)
  · exact ⟨ho.os, ho.tape, ho.output, fun k hk => ho.block k hk.1 (by simp)⟩
theorem wl_next {x : Operand} {b r left : Nat} {g : κ → Option Value} {dn : κ → Prop} {cur : Option κ} {As : List Th} (i : Nat) (hS : Sat w As) (hinj : ∀ a b, kv a = kv b → a = b) (hi : As[i]? = some (rangeT kv b r g dn cur left)) (hx : look L x = some (ptrV r 0)) (hd : Nat.blt d n = true)
    (h0 : (∀ k v, g k = some v → dn k) → wl P n ops Q rest ((d, .tuple #[.bool false]) :: L) w)
    (h1 : ∀ k v left' w', left = left' + 1 → g k = some v → ¬ dn k → Sat w' (As.set i (rangeT kv b r g (fun j => dn j ∨ j = k) (some k) left')) → wl P n ops Q rest ((d, .tuple #[.bool true, kv k, v]) :: L) w') : wl P n ops Q (⟨some d, .next x false, ty, pos, aft, none⟩ :: rest) L w := by
  obtain ⟨F, hF, hne, es, c, sn, m1, m2, m3, m4, m5, m6⟩ := hS.get i hi
  refine wl_does rfl hd (fun a ha => does_next x rfl m1 m3 (ha.eval hx)) ?_
  rintro v w' (⟨rfl, rfl, hall⟩ | ⟨e, he, hns, rfl, ho, hit, hsz⟩)
  · refine h0 fun k v hk => ?_
    obtain ⟨e, he, hkk, _⟩ := (m2 k v).1 hk
    exact (m4 e he k hkk).1 (hall e he)
  · obtain ⟨k, hk⟩ := m1.keys e he
    have hgk : g k = some e.val := (m2 k e.val).2 ⟨e, he, hk, rfl⟩
    have hcnt : (notSeen es (sn.push e.born)).length + 1 = (notSeen es sn).length := by
      unfold notSeen
      have hnd := m1.stamped.2.1
      have hmem : ∀ l : List MapEntry, (l.map (·.born)).Nodup → e ∈ l → (l.filter fun x => !(sn.push e.born).toList.contains x.born).length + 1 = (l.filter fun x => !sn.toList.contains x.born).length := by
        intro l
        induction l with
        | nil => intro _ h; cases h
        | cons y l ih =>
          intro hn hy
          simp only [List.map_cons, List.nodup_cons] at hn
          rcases List.mem_cons.1 hy with rfl | hy
          · have h1 : (!(sn.push e.born).toList.contains e.born) = false := by simp
            have h2 : (!sn.toList.contains e.born) = true := by simpa using hns
            have h3 : l.filter (fun x => !(sn.push e.born).toList.contains x.born) = l.filter fun x => !sn.toList.contains x.born := by
              apply List.filter_congr
              intro x hx
              have : x.born ≠ e.born := fun q => hn.1 (List.mem_map.2 ⟨x, hx, q⟩)
              simp [this]
            rw [List.filter_cons, List.filter_cons, h1, h2, h3]; simp
          · have hne2 : y.born ≠ e.born := fun q => hn.1 (List.mem_map.2 ⟨e, hy, q.symm⟩)
            have h1 : (!(sn.push e.born).toList.contains y.born) = (!sn.toList.contains y.born) := by simp [hne2]
            have := ih hn.2 hy
            rw [List.filter_cons, List.filter_cons, h1]
            split
            · simp only [List.length_cons]; omega
            · exact this
      exact hmem es.toList hnd he
    rw [hk]
    refine h1 k e.val (notSeen es (sn.push e.born)).length w' (by omega) hgk (fun q => hns ((m4 e he k hk).2 q)) (hS.step i hi fun F2 h2 => ?_)
    have hF2 := h2.1
    refine ⟨fun k => k = b ∨ k = r, ⟨rfl, hne, es, c, sn.push e.born, m1.congr (ho.block b m1.lt (by simpa using hne)), m2, hit, ?_, rfl, ?_⟩, fun q hq => .inl (by rw [hF2]; exact hq), ho.agree (fun x hx => .inl (by simp only [List.mem_singleton] at hx; subst hx; rw [hF2]; exact .inr rfl))⟩
    · intro e2 he2 j hj
      simp only [Array.toList_push, List.mem_append, List.mem_singleton]
      rw [m4 e2 he2 j hj]
      constructor
      · rintro (h | h)
        · exact .inl h
        · have : e2 = e := by
            obtain ⟨p, hp⟩ := List.mem_iff_getElem?.1 he2
            obtain ⟨q, hq⟩ := List.mem_iff_getElem?.1 he
            have := born_idx m1.stamped.2.1 hp hq h
            subst this; rw [hp] at hq; exact Option.some.inj hq
          subst this
          exact .inr (hinj _ _ (hj.symm.trans hk))
      · rintro (h | h)
        · exact .inl h
        · subst h
          exact .inr (by rw [key_one m1.stamped.2.2 he2 he (hj.trans hk.symm)])
    · intro j hj
      cases hj
      exact ⟨sn, e, rfl, he, hk⟩
theorem wl_entry {x : Operand} {b r left : Nat} {g : κ → Option Value} {dn : κ → Prop} {k : κ} {v : Value} {As : List Th} (i : Nat) (hS : Sat w As) (hi : As[i]? = some (rangeT kv b r g dn (some k) left)) (hg : g k = some v) (hx : look L x = some (ptrV r 0)) (hd : Nat.blt d n = true)
    (hk : wl P n ops Q rest ((d, .tuple #[kv k, v]) :: L) w) : wl P n ops Q (⟨some d, .entry x, ty, pos, aft, none⟩ :: rest) L w := by
  obtain ⟨F, hF, hne, es, c, sn, m1, m2, m3, m4, m5, m6⟩ := hS.get i hi
  obtain ⟨s0, e, rfl, he, hke⟩ := m6 k rfl
  have hv : v = e.val := by have := (m2 k e.val).2 ⟨e, he, hke, rfl⟩; rw [hg] at this; exact Option.some.inj this
  subst hv
  refine wl_does rfl hd (fun a ha => does_entry x rfl m1 m3 he (ha.eval hx)) ?_
  rintro u w' ⟨rfl, rfl⟩
  rw [hke]; exact hk
/-- m[k] = v while m is being ranged over, k a key that is there -/
theorem wl_mapUpdateR {mt kt et : TypeId} {x y z : Operand} {b r left : Nat} {g : κ → Option Value} {dn : κ → Prop} {cur : Option κ} {As : List Th} {k : κ} {v v0 : Value} (i : Nat) (hS : Sat w As) (K : KeyOk P kt kv) (hm : P.underlying mt = some (.map kt et)) (hi : As[i]? = some (rangeT kv b r g dn cur left)) (hg : g k = some v0) (hx : look L x = some (.map (some b))) (hy : look L y = some (kv k)) (hz : look L z = some v)
    (hk : ∀ w', Sat w' (As.set i (rangeT kv b r (upd g k (some v)) dn cur left)) → wl P n ops Q rest L w') : wl P n ops Q (⟨none, .mapUpdate mt x y z, ty, pos, aft, none⟩ :: rest) L w := by
  obtain ⟨F, hF, hne, es, c, sn, m1, m2, m3, m4, m5, m6⟩ := hS.get i hi
  refine wl_does rfl rfl (fun a ha => does_mapUpdate mt x y z rfl K hm m1 (ha.eval hx) (ha.eval hy) (ha.eval hz)) ?_
  rintro _ w' ⟨rfl, es', c', hp, h3, h4, _⟩
  have hread := m2.put K m1.stamped hp
  obtain ⟨e0, he0, hk0, hv0⟩ := (m2 k v0).1 hg
  rcases hp with ⟨rfl, j, e, h1, h2, rfl⟩ | ⟨rfl, h1, rfl⟩
  · have hborn : ∀ e2 ∈ (es.modify j (fun e => { e with key := kv k, val := v })).toList, ∃ e1 ∈ es.toList, e1.born = e2.born ∧ e1.key = e2.key := by
      intro e2 he2
      obtain ⟨q, hq⟩ := List.mem_iff_getElem?.1 he2
      rw [Array.getElem?_toList, Array.getElem?_modify] at hq
      by_cases hjq : j = q
      · subst hjq
        rw [if_pos rfl, h1] at hq
        simp at hq; subst hq
        exact ⟨e, List.mem_of_getElem? (by simpa using h1), rfl, h2⟩
      · rw [if_neg hjq] at hq
        exact ⟨e2, List.mem_of_getElem? (by simpa using hq), rfl, rfl⟩
    have hmapb : (es.modify j (fun e => { e with key := kv k, val := v })).toList.map (·.born) = es.toList.map (·.born) := by
      apply List.ext_getElem?
      intro q
      simp only [List.getElem?_map, Array.getElem?_toList, Array.getElem?_modify]
      by_cases hjq : j = q
      · subst hjq; rw [if_pos rfl]; cases es[j]? <;> rfl
      · rw [if_neg hjq]
    have hlen : ∀ (l l' : List MapEntry), l.map (·.born) = l'.map (·.born) → (l.filter fun e => !sn.toList.contains e.born).length = (l'.filter fun e => !sn.toList.contains e.born).length := by
      intro l
      induction l with
      | nil => intro l' h; cases l' with | nil => rfl | cons => simp at h
      | cons y l ih =>
        intro l' h
        cases l' with
        | nil => simp at h
        | cons y' l' =>
          simp only [List.map_cons, List.cons.injEq] at h
          rw [List.filter_cons, List.filter_cons, h.1]
          split
          · simp only [List.length_cons, ih l' h.2]
          · exact ih l' h.2
    refine hk w' (hS.step i hi fun F2 hF2' => ?_)
    have hF2 := hF2'.1
    refine ⟨fun k => k = b ∨ k = r, ⟨rfl, hne, _, c', sn, h3, hread, ?_, ?_, ?_, ?_⟩, fun q hq => .inl (by rw [hF2]; exact hq), h4.agree (fun x hx => .inl (by simp only [List.mem_singleton] at hx; subst hx; rw [hF2]; exact .inl rfl))⟩
    · have hlt := m3.lt; unfold IterAt at m3 ⊢; rw [h4.block r hlt (by simpa using Ne.symm hne)]; exact m3
    · intro e2 he2 q hq
      obtain ⟨e1, he1, hb1, hk1⟩ := hborn e2 he2
      rw [← hb1]; exact m4 e1 he1 q (hk1.trans hq)
    · rw [← m5]; exact hlen _ _ hmapb
    · intro q hq
      obtain ⟨s0, e1, hs, he1, hk1⟩ := m6 q hq
      obtain ⟨p, hp⟩ := List.mem_iff_getElem?.1 he1
      by_cases hjp : j = p
      · subst hjp
        have : e1 = e := by rw [Array.getElem?_toList, h1] at hp; exact (Option.some.inj hp).symm
        subst this
        refine ⟨s0, { e1 with key := kv k, val := v }, hs, List.mem_of_getElem? (i := j) ?_, h2.symm.trans hk1⟩
        rw [Array.getElem?_toList, Array.getElem?_modify, if_pos rfl, h1]; rfl
      · refine ⟨s0, e1, hs, List.mem_of_getElem? (i := p) ?_, hk1⟩
        rw [Array.getElem?_toList, Array.getElem?_modify, if_neg hjp]; simpa using hp
  · exact absurd hk0 (h1 e0 he0)
/-- delete(m, k) while m is being ranged over, k the key met last -/
theorem wl_deleteR {mt t2 kt et : TypeId} {x y : Operand} {b r left : Nat} {g : κ → Option Value} {dn : κ → Prop} {As : List Th} {k : κ} (i : Nat) (hS : Sat w As) (K : KeyOk P kt kv) (hm : P.underlying mt = some (.map kt et)) (hi : As[i]? = some (rangeT kv b r g dn (some k) left)) (hdn : dn k) (hx : look L x = some (.map (some b))) (hy : look L y = some (kv k)) {dst : Option Nat} (hd : dOk n dst = true)
    (hk : ∀ w', Sat w' (As.set i (rangeT kv b r (upd g k none) dn none left)) → wl P n ops Q rest (pd dst (.tuple #[]) L) w') : wl P n ops Q (⟨dst, .call ⟨.builtin .delete, #[x, y], #[mt, t2]⟩, ty, pos, aft, none⟩ :: rest) L w := by
  obtain ⟨F, hF, hne, es, c, sn, m1, m2, m3, m4, m5, m6⟩ := hS.get i hi
  refine wl_does rfl (by cases dst <;> exact hd) (fun a ha => does_delete mt t2 x y rfl K hm m1 (ha.eval hx) (ha.eval hy)) ?_
  rintro _ w' ⟨rfl, es', hmem, h3, h4, _⟩
  refine hk w' (hS.step i hi fun F2 hF2' => ?_)
  have hF2 := hF2'.1
  have hsub : ∀ e ∈ es'.toList, e ∈ es.toList := fun e he => ((hmem e).1 he).1
  refine ⟨fun k => k = b ∨ k = r, ⟨rfl, hne, es', c, sn, h3, ?_, ?_, fun e he q hq => m4 e (hsub e he) q hq, ?_, by simp⟩, fun q hq => .inl (by rw [hF2]; exact hq), h4.agree (fun x hx => .inl (by simp only [List.mem_singleton] at hx; subst hx; rw [hF2]; exact .inl rfl))⟩
  · intro j v
    by_cases hj : j = k
    · subst hj
      rw [upd_self]
      constructor
      · intro h; cases h
      · rintro ⟨e, he, hk2, _⟩; exact absurd hk2 ((hmem e).1 he).2
    · rw [upd_ne hj, m2 j v]
      constructor
      · rintro ⟨e, he, hk2, hv⟩; exact ⟨e, (hmem e).2 ⟨he, fun q => hj (K.inj _ _ (hk2.symm.trans q))⟩, hk2, hv⟩
      · rintro ⟨e, he, hk2, hv⟩; exact ⟨e, hsub e he, hk2, hv⟩
  · have hlt := m3.lt; unfold IterAt at m3 ⊢; rw [h4.block r hlt (by simpa using Ne.symm hne)]; exact m3
  · rw [← m5]
    unfold notSeen
    apply List.Perm.length_eq
    refine (List.perm_ext_iff_of_nodup ?_ ?_).2 ?_
    · exact List.Pairwise.filter _ (nodup_of_map h3.stamped.2.1)
    · exact List.Pairwise.filter _ (nodup_of_map m1.stamped.2.1)
    · intro e
      simp only [List.mem_filter, hmem]
      constructor
      · rintro ⟨⟨h1, _⟩, h2⟩; exact ⟨h1, h2⟩
      · rintro ⟨h1, h2⟩
        refine ⟨⟨h1, fun q => ?_⟩, h2⟩
        have := (m4 e h1 k q).2 hdn
        simp at h2
        exact h2 (by simpa using this)
where
  nodup_of_map {α β : Type} {f : α → β} {l : List α} (h : (l.map f).Nodup) : l.Nodup := by
    induction l with
    | nil => exact List.nodup_nil
    | cons x l ih =>
      simp only [List.map_cons, List.nodup_cons] at h
      exact List.nodup_cons.2 ⟨fun hm => h.1 (List.mem_map.2 ⟨x, hm, rfl⟩), ih h.2⟩
end
section
variable {P : Program} {n : Nat} {ops : Array Oper} {Q : Exit → Act → World → Prop} {rest : List Oper} {L : Env} {w : World} {d : Nat} {ty : TypeId} {pos : String} {aft : Array Edge}
theorem Sat.oagg {As : List Th} (hS : Sat w As) (i : Nat) {v : Value} {m m' size b o o' cap k : Nat} {xs vs : List Value} (hi : As[i]? = some (ownT v m size xs)) (hv : v = .slice (some ⟨b, o', none⟩) m' cap) (hvs : (xs.drop o).take k = vs) : ∀ j u, vs[j]? = some u → w.cell? ⟨b, o + j, none⟩ = some u := by
  intro j u hj
  rw [← hvs, List.getElem?_take] at hj
  split at hj
  · rw [List.getElem?_drop] at hj; exact hS.ocell i hi hv hj
  · cases hj
/-- a struct in an owned slice is read -/
theorem wl_loadO {As : List Th} (i : Nat) (hS : Sat w As) {x : Operand} {t b o o' cap m m' k size : Nat} {v : Value} {xs vs : List Value} (hi : As[i]? = some (ownT v m size xs)) (hv : v = .slice (some ⟨b, o', none⟩) m' cap) (hx : look L x = some (ptrV b o)) (ha : aggB P t = some true) (hs : szOf P t = some k) (hvs : (xs.drop o).take k = vs) (hl : vs.length = k) (hd : Nat.blt d n = true)
    (hk : wl P n ops Q rest ((d, .agg vs.toArray) :: L) w) : wl P n ops Q (⟨some d, .load t x, ty, pos, aft, none⟩ :: rest) L w :=
  wl_loadAt hx ha (by rw [hl]; exact hs) (hS.oagg i hi hv hvs) hd hk
/-- clear(x), x a part of an owned slice -/
theorem wl_clearO {As : List Th} (i : Nat) (hS : Sat w As) {x : Operand} {t e b o off m m' cap size q dc : Nat} {v z : Value} {xs xs' : List Value} (hi : As[i]? = some (ownT v m size xs)) (hv : v = .slice (some ⟨b, o, none⟩) m' cap) (hx : look L x = some (.slice (some ⟨b, off, none⟩) q dc)) (hu : P.underlying t = some (.slice e)) (hz : zeroOf P e = some (some z)) (h1 : allOne z.cells.toList = true) (hfit : off + q * z.cells.size ≤ xs.length) (hxs : splice xs off (List.replicate q z.cells.toList).flatten = xs') {dst : Option Nat} (hd : dOk n dst = true)
    (hk : ∀ w', Sat w' (As.set i (ownT v m size xs')) → wl P n ops Q rest (pd dst (.tuple #[]) L) w') : wl P n ops Q (⟨dst, .call ⟨.builtin .clear, #[x], #[t]⟩, ty, pos, aft, none⟩ :: rest) L w := by
  subst hxs
  obtain ⟨sp, hb, hback⟩ := hS.own_row i hi hv
  refine wl_does rfl (by cases dst <;> exact hd) (fun a ha => does_clear t x rfl (ha.eval hx) hb hu hz (allOne_spec h1) (by simp; omega)) ?_
  rintro u w' ⟨rfl, h2, h3, _⟩
  have hl : off + (List.replicate q z.cells.toList).flatten.length ≤ xs.length := by simp; omega
  refine hk w' (hback w' _ (splice_length hl) ?_ h3)
  rw [← splice_append_left hl]
  exact h2
/-- the head of an owned slice -/
theorem Sat.own_head {As : List Th} (hS : Sat w As) (i : Nat) {v : Value} {m m' size b cap q : Nat} {xs : List Value} (hi : As[i]? = some (ownT v m size xs)) (hv : v = .slice (some ⟨b, 0, none⟩) m' cap) (hq : q ≤ m) : Sat w (As.set i (ownT (.slice (some ⟨b, 0, none⟩) q cap) q size (xs.take (q * size)))) := by
  refine hS.mono1 i hi fun F h => ?_
  obtain ⟨f, rfl, hl, ⟨h0, _⟩ | ⟨b', cap', sp, h0, hc, hb, hlen, rfl⟩⟩ := h
  · rw [hv] at h0; cases h0
  · rw [hv] at h0; cases h0
    have hle : q * size ≤ m * size := Nat.mul_le_mul_right _ hq
    refine ⟨[b], rfl, by rw [List.length_take, hl]; omega, .inr ⟨b, cap, xs.drop (q * size) ++ sp, rfl, by omega, ?_, ?_, rfl⟩⟩
    · rw [← List.append_assoc, List.take_append_drop]; exact hb
    · rw [← List.append_assoc, List.take_append_drop]; exact hlen
end
end
end Go.Proofs.YtfmkodmmbgibgaaGreatDoor.M
/- Rows of elements: owned slices and slices that are read, by a codec of the element. Conditions: each rule's own hypotheses. -/
namespace Go.Proofs.YtfmkodmmbgibgaaGreatDoor.M
open Go.RowKit
/-- how an element lies in cells -/
structure RowC (α : Type) where
  enc : α → List Value
  size : Nat
  pos : 0 < size
  len : ∀ a, (enc a).length = size
  one : ∀ a, allOne (enc a) = true
def RowC.cells {α : Type} (C : RowC α) (l : List α) : List Value := l.flatMap C.enc
section
variable {α : Type} {C : RowC α} {l l2 : List α} {a : α} {j : Nat}
theorem RowC.cells_len (C : RowC α) (l : List α) : (C.cells l).length = l.length * C.size := by
  induction l with
  | nil => simp [RowC.cells]
  | cons a l ih => simp only [RowC.cells, List.flatMap_cons, List.length_append, C.len, List.length_cons] at ih ⊢; rw [ih, Nat.add_mul]; omega
theorem RowC.cells_one (C : RowC α) (l : List α) : allOne (C.cells l) = true := allOne_mk (by
  intro v hv
  obtain ⟨a, _, h⟩ := List.mem_flatMap.1 hv
  exact allOne_spec (C.one a) v h)
theorem RowC.cells_app (C : RowC α) (l l2 : List α) : C.cells l ++ C.cells l2 = C.cells (l ++ l2) := by simp [RowC.cells]
theorem RowC.cells_at : ∀ {l : List α} {j : Nat}, l[j]? = some a → ((C.cells l).drop (j * C.size)).take C.size = C.enc a
  | [], j, h => by simp at h
  | b :: l, 0, h => by
    simp at h; subst h
    rw [Nat.zero_mul, List.drop_zero]
    show (C.enc b ++ C.cells l).take C.size = _
    rw [← C.len b, List.take_left]
  | b :: l, j + 1, h => by
    have e : (j + 1) * C.size = (C.enc b).length + j * C.size := by rw [C.len, Nat.add_mul]; omega
    show ((C.enc b ++ C.cells l).drop _).take _ = _
    rw [e, ← List.drop_drop, List.drop_left]
    exact RowC.cells_at (by simpa using h)
theorem RowC.cells_get {o : Nat} {u : Value} (h : l[j]? = some a) (ho : (C.enc a)[o]? = some u) : (C.cells l)[j * C.size + o]? = some u := by
  have h1 := RowC.cells_at (C := C) h
  rw [← h1, List.getElem?_take] at ho
  split at ho
  · rw [List.getElem?_drop] at ho; exact ho
  · cases ho
theorem RowC.cells_set {X : List Value} (hX : X = C.enc a) : ∀ {l : List α} {j : Nat}, j < l.length → splice (C.cells l) (j * C.size) X = C.cells (l.set j a)
  | [], j, h => by simp at h
  | b :: l, 0, h => by
    subst hX
    rw [Nat.zero_mul]
    show splice (C.enc b ++ C.cells l) 0 (C.enc a) = C.enc a ++ C.cells l
    unfold splice
    rw [Nat.zero_add, C.len, ← C.len b, List.drop_left]; rfl
  | b :: l, j + 1, h => by
    have e : (j + 1) * C.size = (C.enc b).length + j * C.size := by rw [C.len, Nat.add_mul]; omega
    show splice (C.enc b ++ C.cells l) _ _ = C.enc b ++ C.cells (l.set j a)
    rw [e, splice_append_right, RowC.cells_set hX (by simpa using h)]
end
abbrev rowT {α : Type} (C : RowC α) (v : Value) (l : List α) : Th := ownT v l.length C.size (C.cells l)
theorem Sat.row_cast {α : Type} {C : RowC α} {w : World} {As : List Th} {v : Value} {m size : Nat} {xs : List Value} {l : List α} (h : Sat w (ownT v m size xs :: As)) (hm : m = l.length) (hs : size = C.size) (hx : xs = C.cells l) : Sat w (rowT C v l :: As) := by subst hm hs hx; exact h
def maskOf (n : Nat) (is : List Nat) : List Bool := (List.range n).map (is.contains ·)
/-- some of the things, in this order; the others are dropped -/
theorem Sat.pick {w : World} {As : List Th} (h : Sat w As) (is : List Nat) (hm : maskOk As.length is (maskOf As.length is) = true) : Sat w (pickA As is) := by
  have h1 := h.split is _ hm
  have h2 := h1.drop (pickA As is).length (A := starL (selF (maskOf As.length is) As)) (by simp)
  rw [List.eraseIdx_append_of_length_le (Nat.le_refl _), Nat.sub_self] at h2
  simpa using h2
/-- an empty row -/
theorem Sat.row_nil {α : Type} (C : RowC α) {w : World} {As : List Th} (h : Sat w As) : Sat w (rowT C (.slice none 0 0) [] :: As) :=
  h.new (Only.refl [] w) (A := ownT (.slice none 0 0) 0 C.size []) (F' := fun k => k ∈ ([] : List Nat)) ⟨[], rfl, Own.nil w C.size⟩ (by simp)
/-- a slice that is read -/
def RdL {α : Type} (C : RowC α) (v : Value) (l : List α) (w : World) : Prop := ∃ ao cap, v = .slice ao l.length cap ∧ l.length ≤ 9223372036854775807 ∧ ∀ (i : Nat) (a : α), l[i]? = some a → ∃ b off, ao = some ⟨b, off, none⟩ ∧ ∀ (j : Nat) (u : Value), (C.enc a)[j]? = some u → w.cell? ⟨b, off + i * C.size + j, none⟩ = some u
section
variable {α : Type} {C : RowC α} {l : List α} {w : World} {v : Value}
theorem RdL.shape (h : RdL C v l w) : ∃ ao cap, v = .slice ao l.length cap ∧ l.length ≤ 9223372036854775807 := by obtain ⟨ao, cap, h1, h2, _⟩ := h; exact ⟨ao, cap, h1, h2⟩
theorem RdL.get {ao : Option Addr} {n cap i : Nat} {a : α} (h : RdL C (.slice ao n cap) l w) (ha : l[i]? = some a) : ∃ b off, ao = some ⟨b, off, none⟩ ∧ ∀ (j : Nat) (u : Value), (C.enc a)[j]? = some u → w.cell? ⟨b, off + i * C.size + j, none⟩ = some u := by
  obtain ⟨ao', cap', h1, _, h3⟩ := h
  cases h1
  exact h3 i a ha
theorem RdL.nil (C : RowC α) (w : World) : RdL C (.slice none 0 0) [] w := ⟨none, 0, rfl, by simp, by simp⟩
theorem RdL.lenOf {P : Program} (h : RdL C v l w) : ∀ w1, (Builtin.lenOf v).run P w1 = .ok l.length w1 := by
  obtain ⟨ao, cap, rfl, _⟩ := h.shape
  exact lenOf_slice _ _ _
theorem RdL.first {P : Program} (h : RdL C v l w) : ∀ w1 : World, w1.heap = w.heap → (Builtin.firstCells C.size l.length v).run P w1 = .ok (C.cells l).toArray w1 := by
  obtain ⟨ao, cap, rfl, _⟩ := h.shape
  intro w1 hw
  cases hl : l with
  | nil => cases ao <;> simp [Builtin.firstCells, RowC.cells, loadCells, loadCellsFrom]
  | cons x l' =>
    obtain ⟨b, off, rfl, _⟩ := h.get (i := 0) (a := x) (by rw [hl]; rfl)
    rw [← hl]
    simp only [Builtin.firstCells]
    have := run_loadCells_list (P := P) w1 ⟨b, off, none⟩ (C.cells l) (fun j v hv => by
      rw [addr_add]
      have hjl := (List.getElem?_eq_some_iff.1 hv).1
      rw [C.cells_len] at hjl
      have hq : j / C.size < l.length := Nat.div_lt_of_lt_mul (by rw [Nat.mul_comm]; exact hjl)
      have ha : l[j / C.size]? = some l[j / C.size] := List.getElem?_eq_getElem hq
      obtain ⟨b2, o2, e, hc⟩ := h.get ha
      cases e
      have hr := Nat.mod_lt j C.pos
      have hm : j / C.size * C.size + j % C.size = j := by have := Nat.div_add_mod j C.size; rw [Nat.mul_comm]; exact this
      have hu : (C.enc l[j / C.size])[j % C.size]? = some v := by
        have h1 := RowC.cells_at (C := C) ha
        rw [← h1, List.getElem?_take, if_pos hr, List.getElem?_drop, hm]; exact hv
      have := hc _ _ hu
      rw [World.cell?_of_block (w := w) (by rw [hw])]
      rw [← this, Nat.add_assoc, hm])
    rw [C.cells_len] at this
    exact this
theorem Sat.rd {As : List Th} (hS : Sat w As) (i : Nat) (hi : As[i]? = some (rowT C v l)) (hl : l.length ≤ 9223372036854775807) : RdL C v l w := by
  obtain ⟨ao, cap, rfl, _⟩ := hS.own_shape i hi
  refine ⟨ao, cap, rfl, hl, fun k a ha => ?_⟩
  obtain ⟨b, cap', hv, _⟩ := hS.own_at i hi (by have := (List.getElem?_eq_some_iff.1 ha).1; omega)
  cases hv
  exact ⟨b, 0, rfl, fun j u hu => by rw [Nat.zero_add]; exact hS.ocell i hi rfl (RowC.cells_get ha hu)⟩
theorem ent_row {v : Value} {l : List α} (hl : l.length ≤ 9223372036854775807) : Ent (rowT C v l) (RdL C v l) := fun {w G} h =>
  Sat.rd (As := [rowT C v l]) (w := w) ⟨G, G, fun _ => False, by simp, fun _ _ h => h, h, rfl⟩ 0 rfl hl
end
section
variable {P : Program} {n : Nat} {ops : Array Oper} {Q : Exit → Act → World → Prop} {rest : List Oper} {L : Env} {w : World} {d : Nat} {ty : TypeId} {pos : String} {aft : Array Edge}
variable {α : Type} {C : RowC α} {l : List α} {v : Value} {a : α} {As : List Th}
/-- &x[j] -/
theorem wl_rowIdx (C : RowC α) (i j : Nat) (hS : Sat w As) {x y : Operand} {t : Nat} {k : IntKind} {q : Int} (hi : As[i]? = some (rowT C v l)) (hx : look L x = some v) (hy : look L y = some (.int k q)) (hq : q = (j : Int)) (ha : l[j]? = some a) (hs : elemSz P t = some C.size) (hd : Nat.blt d n = true)
    (hk : ∀ b cap, v = .slice (some ⟨b, 0, none⟩) l.length cap → wl P n ops Q rest ((d, ptrV b (j * C.size)) :: L) w) : wl P n ops Q (⟨some d, .indexAddr t x y, ty, pos, aft, none⟩ :: rest) L w :=
  wl_indexO i j hS hi hx hy hq (List.getElem?_eq_some_iff.1 ha).1 hs hd hk
/-- a struct of an owned row -/
theorem wl_rowLoadA (i j : Nat) (hS : Sat w As) {x : Operand} {t b cap m : Nat} {vs : List Value} (hi : As[i]? = some (rowT C v l)) (hv : v = .slice (some ⟨b, 0, none⟩) m cap) (hx : look L x = some (ptrV b (j * C.size))) (ha : l[j]? = some a) (hg : aggB P t = some true) (hs : szOf P t = some C.size) (hvs : C.enc a = vs) (hd : Nat.blt d n = true)
    (hk : wl P n ops Q rest ((d, .agg vs.toArray) :: L) w) : wl P n ops Q (⟨some d, .load t x, ty, pos, aft, none⟩ :: rest) L w := by
  subst hvs
  exact wl_loadO i hS hi hv hx hg hs (RowC.cells_at ha) (C.len a) hd hk
/-- a cell of an element of an owned row -/
theorem wl_rowLoad (i j o : Nat) (hS : Sat w As) {x : Operand} {t b cap m q : Nat} {u : Value} (hi : As[i]? = some (rowT C v l)) (hv : v = .slice (some ⟨b, 0, none⟩) m cap) (hx : look L x = some (ptrV b q)) (hq : q = j * C.size + o) (ha : l[j]? = some a) (hg : aggB P t = some false) (hu : (C.enc a)[o]? = some u) (hd : Nat.blt d n = true)
    (hk : wl P n ops Q rest ((d, u) :: L) w) : wl P n ops Q (⟨some d, .load t x, ty, pos, aft, none⟩ :: rest) L w := by
  subst hq
  exact wl_load hx hg (hS.ocell i hi hv (RowC.cells_get ha hu)) hd hk
/-- the same, the row's value written out -/
theorem ev_rowLoad0 (C : RowC α) (i j o : Nat) (hS : Sat w As) {x : Operand} {t b cap m : Nat} {u : Value} {a : α} {l : List α} (hi : As[i]? = some (rowT C (.slice (some ⟨b, 0, none⟩) m cap) l)) (ha : l[j]? = some a) (hg : aggB P t = some false) (hx : look L x = some (ptrV b (0 + j * C.size + o))) (hu : (C.enc a)[o]? = some u) : Ev P L w ⟨some d, .load t x, ty, pos, aft, none⟩ u := by
  refine ev_load hx hg ?_
  rw [Nat.zero_add]
  exact hS.ocell i hi rfl (RowC.cells_get ha hu)
/-- an element is stored into an owned row -/
theorem wl_rowStore (i j : Nat) (a' : α) (hS : Sat w As) {x y : Operand} {t b cap m' : Nat} {u : Value} (hi : As[i]? = some (rowT C v l)) (hv : v = .slice (some ⟨b, 0, none⟩) m' cap) (hx : look L x = some (ptrV b (j * C.size))) (hy : look L y = some u) (hs : szOf P t = some C.size) (hu : u.cells.toList = C.enc a') (hj : j < l.length)
    (hk : ∀ w', Sat w' (As.set i (rowT C v (l.set j a'))) → wl P n ops Q rest L w') : wl P n ops Q (⟨none, .store t x y, ty, pos, aft, none⟩ :: rest) L w := by
  have hfit : j * C.size + C.size ≤ (C.cells l).length := by
    rw [C.cells_len]
    have := Nat.mul_le_mul_right C.size (show j + 1 ≤ l.length from hj)
    rw [Nat.add_mul] at this; omega
  refine wl_storeO i hS hi hv hx hy hs (by rw [← Array.length_toList, hu, C.len]) (by rw [hu]; exact C.one a') hfit (RowC.cells_set hu hj) ?_
  intro w' h
  refine hk w' ?_
  show Sat w' (As.set i (ownT v (l.set j a').length C.size (C.cells (l.set j a'))))
  rw [List.length_set]
  exact h
/-- []T{..} -/
theorem wl_rowBuild (C : RowC α) (l : List α) (hS : Sat w As) {t e len : Nat} {z : Value} {parts : List (Nat × Operand)} {vs : List Value} (hx : looks L (parts.map (·.2)) = some vs) (hu : P.underlying t = some (.slice e)) (hi : (P.info? e).map (fun i => (i.zero, i.size)) = some (some z, C.size)) (hlen : Nat.ble (len * C.size) 1000 = true) (hzs : z.cells.size = C.size)
    (hok : fillOk (len * C.size) ((parts.map (·.1)).map fun i => (i * C.size, C.size)) vs = true) (hl : l.length = len) (he : fillL (List.replicate len z.cells.toList).flatten ((parts.map (·.1)).map fun i => (i * C.size, C.size)) vs = C.cells l) (hd : Nat.blt d n = true)
    (hk : ∀ b w', Sat w' (rowT C (.slice (some ⟨b, 0, none⟩) len len) l :: As) → wl P n ops Q rest ((d, .slice (some ⟨b, 0, none⟩) len len) :: L) w') : wl P n ops Q (⟨some d, .buildSlice t len parts.toArray, ty, pos, aft, none⟩ :: rest) L w := by
  refine wl_buildSlice hS hx hu hi hlen hzs hok hd ?_
  intro b w' h
  exact hk b w' (h.row_cast hl.symm rfl he)
/-- append(x, y...), x an owned row, y read -/
theorem wl_rowApp (C : RowC α) (i : Nat) {l2 : List α} (hS : Sat w As) {t t2 e bytes : Nat} {s x : Operand} {z xv : Value} {d2 : TypeDesc} (hi : As[i]? = some (rowT C v l)) (hs : look L s = some v) (hx : look L x = some xv) (hr : RdL C xv l2 w) (hu : P.underlying t = some (.slice e)) (hu2 : P.underlying t2 = some d2) (hd2 : ∀ k, d2 ≠ .int k)
    (hif : (P.info? e).map (fun i => (i.zero, i.size, i.bytes)) = some (some z, C.size, bytes)) (hz : z.cells.size = C.size) (hb : (l.length + l2.length) * bytes ≤ 140737488355328) (hd : Nat.blt d n = true) (hm : l.length + l2.length ≤ 9223372036854775807)
    (hk : ∀ v' w', Sat w' (As.set i (rowT C v' (l ++ l2))) → wl P n ops Q rest ((d, v') :: L) w') : wl P n ops Q (⟨some d, .call ⟨.builtin .append, #[s, x], #[t, t2]⟩, ty, pos, aft, none⟩ :: rest) L w := by
  refine wl_append i hS hi hs hx hu hu2 hd2 hif hz C.pos hr.lenOf hr.first (C.cells_len l2) (C.cells_one l2) hb hm hd ?_
  intro v' w' h
  refine hk v' w' ?_
  show Sat w' (As.set i (ownT v' (l ++ l2).length C.size (C.cells (l ++ l2))))
  rw [List.length_append, ← C.cells_app]
  exact h
end
/-! ### results that lie in cells -/
def resRun (tmps : Array Value) : ResultVar → Sem Value
  | .tmp t => pure (tmps.getD t undef)
  | .cell a t => do loadVar t (← asAddr (tmps.getD a undef))
def resOk (P : Program) (n : Nat) (L : Env) (w : World) (r : ResultVar) (v : Value) : Prop := ∀ a, Fr n L a → (resRun a.tmps r).run P w = .ok v w
section
variable {P : Program} {n : Nat} {L : Env} {w : World} {Q : Exit → Act → World → Prop}
theorem resCA {x t b o m : Nat} {cs vs : List Value} (h : eget L x = some (ptrV b o)) (ha : aggB P t = some true) (hs : szOf P t = some m) (hb : Blk w b cs) (hm : o + m ≤ cs.length) (hvs : (cs.drop o).take m = vs) : resOk P n L w (.cell x t) (.agg vs.toArray) := fun a hf => by
  subst hvs
  have := hf.get x _ h; simp [resRun, this, asAddr, loadVar, aggB_true ha, run_sizeOf hs, run_loadCells_blk hb o m hm]
theorem results_eq (fn : Func) (tmps : Array Value) : results fn tmps = (do let vs ← fn.results.mapM (resRun tmps); pure (if h : vs.size = 1 then vs[0] else .tuple vs)) := by
  have e : (resRun tmps) = (fun | .tmp t => pure (tmps.getD t undef) | .cell a t => do loadVar t (← asAddr (tmps.getD a undef)) : ResultVar → Sem Value) := by
    funext r; cases r <;> rfl
  rw [e]; rfl
theorem finR1 {fn : Func} {R : Ending → World → Prop} {r : ResultVar} {v : Value} {e : Exit} (he : e = .normal ∨ e = .ret) (hf : fn.results = #[r]) (hv : resOk P n L w r v) (h : R (.returned v) w) : qs n (bodyPost P fn R) e L w :=
  fin_of he (fun a ha => by rw [results_eq, hf]; simp [hv a ha]) h
end
/-! ### rows of bytes -/
def byC : RowC UInt8 := ⟨fun c => [.int .u8 (c.toNat : Int)], 1, by decide, fun _ => rfl, fun _ => rfl⟩
theorem byC_cells (l : List UInt8) : byC.cells l = bytesV l := by
  induction l with
  | nil => rfl
  | cons c l ih => show [_] ++ byC.cells l = _; rw [ih]; rfl
section
variable {P : Program} {n : Nat} {ops : Array Oper} {Q : Exit → Act → World → Prop} {rest : List Oper} {L : Env} {w : World} {d : Nat} {ty : TypeId} {pos : String} {aft : Array Edge} {As : List Th}
/-- []byte(s) -/
theorem wl_rowBytes (hS : Sat w As) {x : Operand} {sT dT e : Nat} {s : List UInt8} (hx : look L x = some (strV s)) (hs : P.underlying sT = some .string) (hd : P.underlying dT = some (.slice e)) (he : P.underlying e = some (.int .u8)) (hdd : Nat.blt d n = true)
    (hk : ∀ v w', Sat w' (rowT byC v s :: As) → wl P n ops Q rest ((d, v) :: L) w') : wl P n ops Q (⟨some d, .convert sT dT x, ty, pos, aft, none⟩ :: rest) L w := by
  refine wl_does rfl hdd (fun a ha => does_bytes sT dT x rfl (ha.eval hx) hs hd he) ?_
  rintro v w' ⟨cap, hc, rfl, hb, ho, hsz⟩
  have hl : (⟨s.toArray⟩ : ByteArray).size = s.length := by simp [ByteArray.size]
  rw [hl] at hc hb ⊢
  have e1 : (⟨s.toArray⟩ : ByteArray).data.toList = s := rfl
  rw [e1] at hb
  refine hk _ _ (hS.new ho (F' := fun k => k ∈ [w.heap.size]) (A := ownT _ _ _ _) ⟨[w.heap.size], rfl, own_of_blk (sp := bytesV (List.replicate (cap - s.length) 0)) ?_ (byC.cells_len s) hc ?_⟩ (fun k hk => by simp at hk; omega))
  · rw [byC_cells]; simpa [bytesV] using hb
  · rw [byC_cells]
    have : byC.size = 1 := rfl
    rw [this, List.length_append, bytesV_length, bytesV_length, List.length_replicate]; omega
/-- string(x), x a row of bytes -/
theorem ev_rowStr (i : Nat) (hS : Sat w As) {x : Operand} {sT dT e : Nat} {v : Value} {l : List UInt8} (hi : As[i]? = some (rowT byC v l)) (hx : look L x = some v) (hs : P.underlying sT = some (.slice e)) (he : P.underlying e = some (.int .u8)) (hd : P.underlying dT = some .string) : Ev P L w ⟨some d, .convert sT dT x, ty, pos, aft, none⟩ (strV l) := fun ρ hρ => by
  obtain ⟨foot, hown⟩ := hS.own i hi
  obtain ⟨hl, ⟨rfl, h0, rfl⟩ | ⟨b, cap, sp, rfl, hc, hb, hlen, rfl⟩⟩ := hown
  · have hl0 : l = [] := List.eq_nil_of_length_eq_zero h0
    subst hl0
    simp [execOp, hρ _ _ hx, run_convert_bytes_string w sT dT e none 0 0 hs he hd, Conv.bytesToString]
    rfl
  · refine ev_strB i hS l hi rfl hx hs he hd ?_ rfl ρ hρ
    rw [List.drop_zero, byC_cells, List.take_of_length_le (by rw [bytesV_length]; exact Nat.le_refl _)]
theorem wl_rowStr (i : Nat) (hS : Sat w As) {x : Operand} {sT dT e : Nat} {v : Value} {l : List UInt8} (hi : As[i]? = some (rowT byC v l)) (hx : look L x = some v) (hs : P.underlying sT = some (.slice e)) (he : P.underlying e = some (.int .u8)) (hd : P.underlying dT = some .string) (hdd : Nat.blt d n = true) (hk : wl P n ops Q rest ((d, strV l) :: L) w) : wl P n ops Q (⟨some d, .convert sT dT x, ty, pos, aft, none⟩ :: rest) L w :=
  wl_val hdd (ev_rowStr i hS hi hx hs he hd) hk
end
theorem Ev.gd {P : Program} {L : Env} {w : World} {d : Option Nat} {op : Op} {ty : TypeId} {pos : String} {aft : Array Edge} {gd : Option (Nat × Bool)} {v : Value} (h : Ev P L w ⟨d, op, ty, pos, aft, none⟩ v) : Ev P L w ⟨d, op, ty, pos, aft, gd⟩ v := h
/-- a slice that is read, whose elements say more of the memory -/
def RdX {α : Type} (enc : α → List Value) (size : Nat) (φ : α → World → Prop) (v : Value) (l : List α) (w : World) : Prop := ∃ ao cap, v = .slice ao l.length cap ∧ l.length ≤ 9223372036854775807 ∧ ∀ (i : Nat) (a : α), l[i]? = some a →
  (∃ b off, ao = some ⟨b, off, none⟩ ∧ ∀ (j : Nat) (u : Value), (enc a)[j]? = some u → w.cell? ⟨b, off + i * size + j, none⟩ = some u) ∧ φ a w
section
variable {α : Type} {enc : α → List Value} {size : Nat} {φ : α → World → Prop} {l : List α} {w : World} {v : Value}
theorem RdX.shape (h : RdX enc size φ v l w) : ∃ ao cap, v = .slice ao l.length cap ∧ l.length ≤ 9223372036854775807 := by obtain ⟨ao, cap, h1, h2, _⟩ := h; exact ⟨ao, cap, h1, h2⟩
theorem RdX.get {ao : Option Addr} {n cap i : Nat} {a : α} (h : RdX enc size φ (.slice ao n cap) l w) (ha : l[i]? = some a) :
    (∃ b off, ao = some ⟨b, off, none⟩ ∧ ∀ (j : Nat) (u : Value), (enc a)[j]? = some u → w.cell? ⟨b, off + i * size + j, none⟩ = some u) ∧ φ a w := by
  obtain ⟨ao', cap', h1, _, h3⟩ := h
  cases h1
  exact h3 i a ha
theorem RdX.cells {b off n cap i : Nat} {a : α} (h : RdX enc size φ (.slice (some ⟨b, off, none⟩) n cap) l w) (ha : l[i]? = some a) : ∀ (j : Nat) (u : Value), (enc a)[j]? = some u → w.cell? ⟨b, off + i * size + j, none⟩ = some u := by
  obtain ⟨⟨b2, o2, e, hc⟩, _⟩ := h.get ha
  cases e; exact hc
theorem RdX.elem {F : Th} {ao : Option Addr} {n cap i : Nat} {a : α} (h : Ent F (RdX enc size φ (.slice ao n cap) l)) (ha : l[i]? = some a) : Ent F (φ a) := fun g => ((h g).get ha).2
end
end Go.Proofs.YtfmkodmmbgibgaaGreatDoor.M
/- disk: what a disk is, in plain data, and how it lies in memory. -/
namespace Go.Proofs.YtfmkodmmbgibgaaGreatDoor
open Go.RowKit M
abbrev Bytes := List UInt8
structure DS where
  F : Int → Bytes × Bytes
  Q : List (Int × Int)
  lost : Int
  down : Bool
  armed : Int
  keep : List Int
/-- bytes put into a string -/
def putB (s : Bytes) (at_ : Nat) (t : Bytes) : Bytes := if t = [] then s else (s ++ List.replicate (at_ - s.length) 0).take at_ ++ t ++ s.drop (at_ + t.length)
def mayE (D : DS) (f : Int) : Int := if D.down then 9 else if f < 0 ∨ 16 ≤ f then 1 else 0
def endsB (D : DS) : Bool := !D.down && decide (D.armed = 1)
def endsD (D : DS) : DS := if D.down = true ∨ D.armed = 0 then D else { D with armed := D.armed - 1 }
def setF (F : Int → Bytes × Bytes) (f : Int) (x : Bytes × Bytes) : Int → Bytes × Bytes := fun k => if k = f then x else F k
/-- the sectors from n on, k of them, are pending too -/
def pend (f : Int) : Nat → Int → List (Int × Int) → List (Int × Int)
  | 0, _, Q => Q
  | k + 1, n, Q => pend f k (n + 1) (if (f, n) ∈ Q then Q else Q ++ [(f, n)])
def addD (D : DS) (f at_ : Int) (s : Bytes) : DS :=
  if s = [] then D else { D with F := setF D.F f (putB (D.F f).1 at_.toNat s, (D.F f).2), Q := pend f ((at_ + s.length - 1) / 64 - at_ / 64 + 1).toNat (at_ / 64) D.Q }
/-- what a write returns, if the machine is up, and the crash does not come -/
def writeE (D : DS) (f at_ : Int) (s : Bytes) : Int := if mayE D f ≠ 0 then mayE D f else if at_ < 0 then 1 else if 16777216 < at_ ∨ 16777216 - at_ < s.length then 6 else 0
def writeD (D : DS) (f at_ : Int) (s : Bytes) : DS := if writeE D f at_ s = 0 then addD D f at_ s else D
def survive (F : Int → Bytes × Bytes) (p : Int × Int) : Int → Bytes × Bytes :=
  if (F p.1).1.length ≤ 64 * p.2 then F else setF F p.1 ((F p.1).1, putB (F p.1).2 (64 * p.2).toNat (((F p.1).1.drop (64 * p.2).toNat).take 64))
def survives (keep : List Int) : Nat → List (Int × Int) → (Int → Bytes × Bytes) → (Int → Bytes × Bytes)
  | _, [], F => F
  | i, p :: Q, F => survives keep (i + 1) Q (if keep ≠ [] ∧ (keep.getD (i % keep.length) 0) % 2 = 1 then survive F p else F)
def crashD (D : DS) (keep : List Int) : DS :=
  if D.down then D else { D with down := true, armed := 0, F := fun k => let x := survives keep 0 D.Q D.F k; (x.2, x.2), Q := [] }
def settleD (D : DS) (f : Int) (s : Bytes) : DS := { D with F := setF D.F f (s, s), Q := D.Q.filter fun p => p.1 ≠ f }
def lateD (D : DS) : DS := if endsB D then crashD (endsD D) D.keep else endsD D
def WriteE (D : DS) (f at_ : Int) (s : Bytes) : Int := if endsB D then 9 else writeE (endsD D) f at_ s
def WriteD (D : DS) (f at_ : Int) (s : Bytes) : DS := let D1 := writeD (endsD D) f at_ s; if endsB D then crashD D1 D.keep else D1
def SyncE (D : DS) (f : Int) : Int := if mayE (lateD D) f ≠ 0 then mayE (lateD D) f else if 0 < (lateD D).lost then 10 else 0
def SyncD (D : DS) (f : Int) : DS := if mayE (lateD D) f ≠ 0 then lateD D else if 0 < (lateD D).lost then { lateD D with lost := (lateD D).lost - 1 } else settleD (lateD D) f ((lateD D).F f).1
def TruncE (D : DS) (f size : Int) : Int := if mayE (lateD D) f ≠ 0 then mayE (lateD D) f else if size < 0 ∨ (((lateD D).F f).1.length : Int) < size then 1 else 0
def TruncD (D : DS) (f size : Int) : DS := if TruncE D f size = 0 then settleD (lateD D) f (((lateD D).F f).1.take size.toNat) else lateD D
def ReadE (D : DS) (f at_ size : Int) : Int := if mayE D f ≠ 0 then mayE D f else if at_ < 0 ∨ size < 0 then 1 else 0
def ReadS (D : DS) (f at_ size : Int) : Bytes := if ReadE D f at_ size = 0 then ((D.F f).1.drop at_.toNat).take size.toNat else []
structure DInv (D : DS) : Prop where
  now : ∀ k, (D.F k).1.length ≤ 16777216
  last : ∀ k, (D.F k).2.length ≤ 16777216
  nodup : D.Q.Nodup
  secs : ∀ p ∈ D.Q, (0 ≤ p.1 ∧ p.1 < 16) ∧ 0 ≤ p.2 ∧ p.2 ≤ 262144
  lost : 0 ≤ D.lost ∧ D.lost ≤ 9223372036854775807
  armed : 0 ≤ D.armed ∧ D.armed ≤ 9223372036854775807
def fileV (x : Bytes × Bytes) : Value := .agg #[strV x.1, strV x.2]
def secV (Q : List (Int × Int)) : List Value := Q.flatMap fun p => [intV p.1, intV p.2]
structure DL where
  bf : Nat
  bs : Nat
  qv : Value
def cellsD (L : DL) (kp : Value) (D : DS) : List Value := [.map (some L.bf), L.qv, .map (some L.bs), intV D.lost, .bool D.down, intV D.armed, kp]
/-- the map of the files says F -/
def SaysF (g : Int → Option Value) (F : Int → Bytes × Bytes) : Prop := ∀ k, (g k).getD (fileV ([], [])) = fileV (F k)
def filesT (b : Nat) (F : Int → Bytes × Bytes) : Th := exT fun g : Int → Option Value => starL [pureT (SaysF g F), mapT intK b g]
def setT (b : Nat) (Q : List (Int × Int)) : Th := exT fun g : Int × Int → Option Value => starL [pureT (∀ p, g p = if p ∈ Q then some (.bool true) else none), mapT pairK b g]
/-- the list of numbers that a slice of numbers reads as -/
def RdI (v : Value) (l : List Int) (w : World) : Prop := ∃ ao cap, v = .slice ao l.length cap ∧ l.length ≤ 9223372036854775807 ∧ ∀ i x, l[i]? = some x → ∃ b off, ao = some ⟨b, off, none⟩ ∧ w.cell? ⟨b, off + i, none⟩ = some (intV x)
def diskT (p : Nat) (kp : Value) (D : DS) : Th := exT fun L : DL => starL [pureT (DInv D), blkT p (cellsD L kp D), filesT L.bf D.F, ownT L.qv D.Q.length 2 (secV D.Q), setT L.bs D.Q]
theorem diskT_open {w : World} {p : Nat} {kp : Value} {D : DS} {As : List Th} (h : Sat w (diskT p kp D :: As)) : ∃ L : DL, DInv D ∧ Sat w (blkT p (cellsD L kp D) :: filesT L.bf D.F :: ownT L.qv D.Q.length 2 (secV D.Q) :: setT L.bs D.Q :: As) := by
  obtain ⟨L, h⟩ := h.ex
  exact ⟨L, h.flat.pure_elim⟩
theorem diskT_shut {w : World} {p : Nat} {kp : Value} {D : DS} {As : List Th} (L : DL) (hi : DInv D) (h : Sat w (blkT p (cellsD L kp D) :: filesT L.bf D.F :: ownT L.qv D.Q.length 2 (secV D.Q) :: setT L.bs D.Q :: As)) : Sat w (diskT p kp D :: As) :=
  Sat.ex_intro L (Sat.fold (As := [pureT (DInv D), blkT p (cellsD L kp D), filesT L.bf D.F, ownT L.qv D.Q.length 2 (secV D.Q), setT L.bs D.Q]) (Sat.pure_intro hi h))
theorem filesT_open {w : World} {b : Nat} {F : Int → Bytes × Bytes} {As : List Th} (h : Sat w (filesT b F :: As)) : ∃ g, SaysF g F ∧ Sat w (mapT intK b g :: As) := by
  obtain ⟨L, h⟩ := h.ex
  exact ⟨L, h.flat.pure_elim⟩
theorem filesT_shut {w : World} {b : Nat} {F : Int → Bytes × Bytes} {As : List Th} (g : Int → Option Value) (hg : SaysF g F) (h : Sat w (mapT intK b g :: As)) : Sat w (filesT b F :: As) :=
  Sat.ex_intro g (Sat.fold (As := [pureT (SaysF g F), mapT intK b g]) (Sat.pure_intro hg h))
theorem setT_open {w : World} {b : Nat} {Q : List (Int × Int)} {As : List Th} (h : Sat w (setT b Q :: As)) : ∃ g : Int × Int → Option Value, (∀ p, g p = if p ∈ Q then some (.bool true) else none) ∧ Sat w (mapT pairK b g :: As) := by
  obtain ⟨L, h⟩ := h.ex
  exact ⟨L, h.flat.pure_elim⟩
theorem setT_shut {w : World} {b : Nat} {Q : List (Int × Int)} {As : List Th} (g : Int × Int → Option Value) (hg : ∀ p, g p = if p ∈ Q then some (.bool true) else none) (h : Sat w (mapT pairK b g :: As)) : Sat w (setT b Q :: As) :=
  Sat.ex_intro g (Sat.fold (As := [pureT (∀ p, g p = if p ∈ Q then some (.bool true) else none), mapT pairK b g]) (Sat.pure_intro hg h))
theorem bytesV_append (a b : Bytes) : bytesV (a ++ b) = bytesV a ++ bytesV b := by simp [bytesV]
theorem bytesV_take (a : Bytes) (k : Nat) : (bytesV a).take k = bytesV (a.take k) := by simp [bytesV]
theorem bytesV_drop (a : Bytes) (k : Nat) : (bytesV a).drop k = bytesV (a.drop k) := by simp [bytesV]
theorem bytesV_splice (X t : Bytes) (a : Nat) : splice (bytesV X) a (bytesV t) = bytesV (X.take a ++ t ++ X.drop (a + t.length)) := by
  simp [splice, bytesV_append, bytesV_take, bytesV_drop, bytesV_length]
theorem zeros_made (m : Nat) : (List.replicate m (Value.int .u8 0).cells.toList).flatten = bytesV (List.replicate m 0) := by
  have : (Value.int .u8 0).cells.toList = [.int .u8 0] := rfl
  rw [this, flat1]; simp [bytesV]
def fillB (s : Bytes) (m : Nat) : Bytes := s ++ List.replicate (m - s.length) 0
theorem put1 (s : Bytes) (m : Nat) (h : s.length ≤ m) : splice (bytesV (List.replicate m 0)) 0 (bytesV (s.take m)) = bytesV (fillB s m) := by
  rw [bytesV_splice, List.take_of_length_le h]
  simp [fillB]
theorem put2 (s t : Bytes) (a : Nat) (ht : t ≠ []) : (fillB s (max s.length (a + t.length))).take a ++ t ++ (fillB s (max s.length (a + t.length))).drop (a + t.length) = putB s a t := by
  unfold putB fillB
  rw [if_neg ht]
  congr 1
  · congr 1
    apply List.ext_getElem?
    intro i
    simp only [List.getElem?_take]
    by_cases hi : i < a
    · simp only [hi, if_true]
      by_cases h2 : i < s.length
      · rw [List.getElem?_append_left h2, List.getElem?_append_left h2]
      · rw [List.getElem?_append_right (by omega), List.getElem?_append_right (by omega), List.getElem?_replicate, List.getElem?_replicate, if_pos (by omega), if_pos (by omega)]
    · simp [hi]
  · by_cases h : s.length ≤ a + t.length
    · rw [List.drop_eq_nil_of_le h, List.drop_eq_nil_of_le (by simp; omega)]
    · rw [show max s.length (a + t.length) - s.length = 0 by omega]; simp
theorem putB_length (s t : Bytes) (a : Nat) (ht : t ≠ []) : (putB s a t).length = max s.length (a + t.length) := by
  rw [← put2 s t a ht]; simp [fillB]; omega
theorem putB_nil (s : Bytes) (a : Nat) : putB s a [] = s := by simp [putB]
theorem putB_le {s t : Bytes} {a m : Nat} (h1 : s.length ≤ m) (h2 : a + t.length ≤ m) : (putB s a t).length ≤ m := by
  by_cases ht : t = []
  · subst ht; rw [putB_nil]; exact h1
  · rw [putB_length s t a ht]; omega
end Go.Proofs.YtfmkodmmbgibgaaGreatDoor
/- the reference of layer 3: how its disk lies in memory; plain facts. -/
namespace Go.Proofs.YtfmkodmmbgibgaaGreatDoor
open Go.RowKit M
def rfC : RowC (Int × Bytes × Bytes) := ⟨fun x => [intV x.1, strV x.2.1, strV x.2.2], 3, by decide, fun _ => rfl, fun _ => rfl⟩
def scC : RowC (Int × Int) := ⟨fun p => [intV p.1, intV p.2], 2, by decide, fun _ => rfl, fun _ => rfl⟩
def inC : RowC Int := ⟨fun x => [intV x], 1, by decide, fun _ => rfl, fun _ => rfl⟩
theorem RdI.toL {v : Value} {l : List Int} {w : World} (h : RdI v l w) : RdL inC v l w := by
  obtain ⟨ao, cap, h1, h2, h3⟩ := h
  refine ⟨ao, cap, h1, h2, fun i x hx => ?_⟩
  obtain ⟨b, off, e, hc⟩ := h3 i x hx
  refine ⟨b, off, e, fun j u hu => ?_⟩
  cases j with
  | zero => have : inC.size = 1 := rfl; rw [this, Nat.mul_one, Nat.add_zero]; simp [inC] at hu; subst hu; exact hc
  | succ j => simp [inC] at hu
/-- the file of a number: the first one in the list -/
def getR : List (Int × Bytes × Bytes) → Int → Bytes × Bytes
  | [], _ => ([], [])
  | x :: l, f => if x.1 = f then x.2 else getR l f
structure RInv (l : List (Int × Bytes × Bytes)) (D : DS) : Prop where
  inv : DInv D
  says : ∀ k, getR l k = D.F k
  num : ∀ x ∈ l, 0 ≤ x.1 ∧ x.1 < 16
  nodup : (l.map (·.1)).Nodup
structure RL where
  fv : Value
  qv : Value
  l : List (Int × Bytes × Bytes)
def cellsR (L : RL) (kp : Value) (D : DS) : List Value := [L.fv, L.qv, intV D.lost, .bool D.down, intV D.armed, kp]
def refT (p : Nat) (kp : Value) (D : DS) : Th := exT fun L : RL => starL [pureT (RInv L.l D), blkT p (cellsR L kp D), rowT rfC L.fv L.l, rowT scC L.qv D.Q]
theorem refT_open {w : World} {p : Nat} {kp : Value} {D : DS} {As : List Th} (h : Sat w (refT p kp D :: As)) : ∃ L : RL, RInv L.l D ∧ Sat w (blkT p (cellsR L kp D) :: rowT rfC L.fv L.l :: rowT scC L.qv D.Q :: As) := by
  obtain ⟨L, h⟩ := h.ex
  exact ⟨L, h.flat.pure_elim⟩
theorem refT_shut {w : World} {p : Nat} {kp : Value} {D : DS} {As : List Th} (L : RL) (hi : RInv L.l D) (h : Sat w (blkT p (cellsR L kp D) :: rowT rfC L.fv L.l :: rowT scC L.qv D.Q :: As)) : Sat w (refT p kp D :: As) :=
  Sat.ex_intro L (Sat.fold (As := [pureT (RInv L.l D), blkT p (cellsR L kp D), rowT rfC L.fv L.l, rowT scC L.qv D.Q]) (Sat.pure_intro hi h))
theorem getR_none {l : List (Int × Bytes × Bytes)} {f : Int} (h : ∀ x ∈ l, x.1 ≠ f) : getR l f = ([], []) := by
  induction l with
  | nil => rfl
  | cons x l ih => rw [getR, if_neg (h x (by simp)), ih fun y hy => h y (by simp [hy])]
theorem getR_at {l : List (Int × Bytes × Bytes)} {i : Nat} {x : Int × Bytes × Bytes} (h : l[i]? = some x) (hno : ∀ j y, j < i → l[j]? = some y → y.1 ≠ x.1) : getR l x.1 = x.2 := by
  induction l generalizing i with
  | nil => simp at h
  | cons y l ih =>
    cases i with
    | zero => simp at h; subst h; simp [getR]
    | succ i =>
      rw [getR, if_neg (hno 0 y (by omega) rfl)]
      exact ih (by simpa using h) fun j z hj hz => hno (j + 1) z (by omega) (by simpa using hz)
theorem getR_app {l m : List (Int × Bytes × Bytes)} {f : Int} (h : ∀ x ∈ l, x.1 ≠ f) : getR (l ++ m) f = getR m f := by
  induction l with
  | nil => rfl
  | cons x l ih => rw [List.cons_append, getR, if_neg (h x (by simp)), ih fun y hy => h y (by simp [hy])]
theorem getR_filter {l : List (Int × Bytes × Bytes)} {f k : Int} (h : k ≠ f) (m : List (Int × Bytes × Bytes)) (hm : getR m k = ([], [])) : getR (l.filter (fun x => decide (x.1 ≠ f)) ++ m) k = getR l k := by
  induction l with
  | nil => exact hm
  | cons x l ih =>
    by_cases e : x.1 = f
    · rw [List.filter_cons_of_neg (by simp [e]), ih, getR, if_neg (by omega)]
    · rw [List.filter_cons_of_pos (by simp [e]), List.cons_append, getR, getR, ih]
def putR (l : List (Int × Bytes × Bytes)) (x : Int × Bytes × Bytes) : List (Int × Bytes × Bytes) := l.filter (fun y => decide (y.1 ≠ x.1)) ++ [x]
theorem putR_says {l : List (Int × Bytes × Bytes)} {F : Int → Bytes × Bytes} (h : ∀ k, getR l k = F k) (x : Int × Bytes × Bytes) (k : Int) : getR (putR l x) k = setF F x.1 x.2 k := by
  unfold putR setF
  by_cases e : k = x.1
  · subst e
    rw [getR_app (fun y hy => by simpa using (List.mem_filter.1 hy).2), if_pos rfl]
    simp [getR]
  · rw [getR_filter e [x] (by rw [getR, if_neg (Ne.symm e)]; rfl), if_neg e]; exact h k
theorem RInv.put {l : List (Int × Bytes × Bytes)} {D : DS} (h : RInv l D) (k : Int) (a b : Bytes) (hk : 0 ≤ k ∧ k < 16) (ha : a.length ≤ 16777216) (hb : b.length ≤ 16777216) : RInv (putR l (k, a, b)) { D with F := setF D.F k (a, b) } := by
  refine ⟨{ h.inv with now := fun j => ?_, last := fun j => ?_ }, putR_says h.says (k, a, b), fun x hx => ?_, ?_⟩
  · simp only [setF]; split
    · exact ha
    · exact h.inv.now j
  · simp only [setF]; split
    · exact hb
    · exact h.inv.last j
  · rcases List.mem_append.1 hx with q | q
    · exact h.num x (List.mem_filter.1 q).1
    · simp at q; subst q; exact hk
  · unfold putR
    rw [List.map_append]
    refine List.nodup_append.2 ⟨(h.nodup.sublist (List.filter_sublist.map _)), by simp, ?_⟩
    intro x hx y hy e
    obtain ⟨z, hz, rfl⟩ := List.mem_map.1 hx
    simp at hy
    have := (List.mem_filter.1 hz).2
    simp at this
    exact this (e.trans hy)
theorem RInv.count {l : List (Int × Bytes × Bytes)} {D : DS} (h : RInv l D) : l.length ≤ 16 := by
  have hs : ∀ x ∈ (l.map (·.1)).map Int.toNat, x ∈ List.range 16 := by
    intro x hx
    obtain ⟨y, hy, rfl⟩ := List.mem_map.1 hx
    obtain ⟨z, hz, rfl⟩ := List.mem_map.1 hy
    have := h.num z hz
    simp; omega
  have hm : ((l.map (·.1)).map Int.toNat).Nodup := by
    refine List.pairwise_map.2 (h.nodup.imp_of_mem ?_)
    intro a b ha hb hne e
    obtain ⟨z, hz, rfl⟩ := List.mem_map.1 ha
    obtain ⟨y, hy, rfl⟩ := List.mem_map.1 hb
    have := h.num z hz; have := h.num y hy
    exact hne (by omega)
  have := List.Nodup.length_le_of_subset hm hs
  simpa using this
theorem RInv.upd {l : List (Int × Bytes × Bytes)} {D D' : DS} (h : RInv l D) (hF : D'.F = D.F) (hi : DInv D') : RInv l D' := ⟨hi, fun k => by rw [hF]; exact h.says k, h.num, h.nodup⟩
end Go.Proofs.YtfmkodmmbgibgaaGreatDoor
/- cell: what a cell is, in plain data, and what Open and Set do. -/
namespace Go.Proofs.YtfmkodmmbgibgaaGreatDoor
open Go.RowKit M
structure CS where
  f : Int
  slot : Nat
  val : Bytes
  sure : Bool
def cellV (p : Nat) (C : CS) : List Value := [ptrV p 0, intV C.f, intV (C.slot : Int), strV C.val, .bool C.sure]
def slotOff (s : Nat) : Int := if s = 2 then 131072 else 64
def newC (f : Int) : CS := ⟨f, 0, [], false⟩
def hdrN (b1 b2 b3 b4 : UInt8) : Nat := b1.toNat + 256 * b2.toNat + 65536 * b3.toNat + 16777216 * b4.toNat
/-- the header as it is read -/
inductive Hd where
  | none | bad | slot (s : Nat) (n : Nat)
def hdrOf (h : Bytes) : Hd :=
  match h with
  | [] => .none
  | b0 :: r => if b0 = 0 then .none else
    match r with
    | [b1, b2, b3, b4] => if (b0 = 1 ∨ b0 = 2) ∧ hdrN b1 b2 b3 b4 ≤ 65536 then .slot b0.toNat (hdrN b1 b2 b3 b4) else .bad
    | _ => .bad
def hdrB (slot n : Nat) : Bytes := [UInt8.ofNat slot, UInt8.ofNat n, UInt8.ofNat (n / 256), UInt8.ofNat (n / 65536), 0]
def openE (D : DS) (f : Int) : Int :=
  if ReadE D f 0 5 ≠ 0 then ReadE D f 0 5 else
  match hdrOf (ReadS D f 0 5) with
  | .none => 0
  | .bad => 2
  | .slot s n => if (ReadS D f (slotOff s) n).length < n then 2 else 0
def openC (D : DS) (f : Int) : CS :=
  match hdrOf (ReadS D f 0 5) with
  | .slot s n => ⟨f, s, ReadS D f (slotOff s) n, false⟩
  | _ => newC f
def other (C : CS) : Nat := if C.slot = 1 then 2 else 1
structure SR where
  e : Int
  D : DS
  C : CS
def setR2 (D : DS) (C : CS) (s : Bytes) : SR :=
  let D1 := WriteD D C.f (slotOff (other C)) s
  if WriteE D C.f (slotOff (other C)) s ≠ 0 then ⟨WriteE D C.f (slotOff (other C)) s, D1, C⟩ else
  let D2 := SyncD D1 C.f
  if SyncE D1 C.f ≠ 0 then ⟨SyncE D1 C.f, D2, C⟩ else
  let D3 := WriteD D2 C.f 0 (hdrB (other C) s.length)
  if WriteE D2 C.f 0 (hdrB (other C) s.length) ≠ 0 then ⟨WriteE D2 C.f 0 (hdrB (other C) s.length), D3, C⟩ else
  ⟨SyncE D3 C.f, SyncD D3 C.f, ⟨C.f, other C, s, decide (SyncE D3 C.f = 0)⟩⟩
def setR (D : DS) (C : CS) (s : Bytes) : SR :=
  if 65536 < s.length then ⟨6, D, C⟩ else
  if C.sure = false ∧ 0 < C.slot then
    (if SyncE D C.f ≠ 0 then ⟨SyncE D C.f, SyncD D C.f, C⟩ else setR2 (SyncD D C.f) { C with sure := true } s)
  else setR2 D C s
/-- the table of the offsets lies at g -/
def Glob (g : Nat) (w : World) : Prop := ∀ (j : Nat) (v : Value), [intV 0, intV 64, intV 131072][j]? = some v → w.cell? ⟨g, j, none⟩ = some v
theorem Glob.off {g s : Nat} {w : World} (h : Glob g w) (hs : s = 1 ∨ s = 2) : w.cell? ⟨g, 0 + s * 1, none⟩ = some (intV (slotOff s)) := by
  rw [Nat.zero_add, Nat.mul_one]
  rcases hs with rfl | rfl
  · exact h 1 _ rfl
  · exact h 2 _ rfl
theorem ReadE_same {D : DS} {f a b n m : Int} (h : ReadE D f a n = 0) (hb : 0 ≤ b) (hm : 0 ≤ m) : ReadE D f b m = 0 := by
  unfold ReadE at h ⊢
  split at h
  · rename_i h1; exact absurd h h1
  · rename_i h1
    rw [if_neg h1, if_neg (by omega)]
theorem slotOff_pos (s : Nat) : 0 ≤ slotOff s := by unfold slotOff; split <;> decide
theorem u8_lt (b : UInt8) : b.toNat < 256 := b.toNat_lt
theorem ReadS_len {D : DS} {f a n : Int} : ((ReadS D f a n).length : Int) ≤ max n 0 := by
  unfold ReadS; split
  · simp; omega
  · simp; omega
end Go.Proofs.YtfmkodmmbgibgaaGreatDoor
