/- laws of world: WorldClones, in plain data -/
import Derived.Test.YtieelilkkpcmdaaDoorWsm
import Derived.Test.YtieelilkkpcmdaaDoorWq
namespace Go.Proofs.YtieelilkkpcmdaaDoor
open Go.RowKit M
set_option linter.unusedVariables false
theorem trim_split (l : Bs) : l = Lib.trimRightB l 0 ++ List.replicate (l.length - (Lib.trimRightB l 0).length) 0 := by
  unfold Lib.trimRightB
  have h : ∀ r : Bs, ∃ n, r = List.replicate n 0 ++ r.dropWhile (fun b => b == 0) := by
    intro r
    induction r with
    | nil => exact ⟨0, rfl⟩
    | cons a r ih =>
      by_cases ha : a = 0
      · obtain ⟨n, hn⟩ := ih
        subst ha
        refine ⟨n + 1, ?_⟩
        rw [List.dropWhile_cons_of_pos (by simp), List.replicate_succ, List.cons_append, ← hn]
      · exact ⟨0, by rw [List.dropWhile_cons_of_neg (by simpa using ha)]; rfl⟩
  obtain ⟨n, hn⟩ := h l.reverse
  have h2 := congrArg List.reverse hn
  rw [List.reverse_reverse, List.reverse_append, List.reverse_replicate] at h2
  have hl := congrArg List.length h2
  rw [List.length_append, List.length_replicate] at hl
  conv => lhs; rw [h2]
  congr 2; omega
theorem trim_inj {l m : Bs} (hl : l.length = m.length) (h : Lib.trimRightB l 0 = Lib.trimRightB m 0) : l = m := by
  rw [trim_split l, trim_split m, h, hl]
theorem pagesB_at {W : WS} (hI : PagesOk W.objs) (nm : Bs) : ∀ (n k : Nat), k < n → ((pagesB W nm n).drop (64 * k)).take 64 = pageB W nm (k : Int)
  | 0, k, h => by omega
  | n + 1, k, h => by
    have hl := pagesB_len hI nm n
    have hp := hI.len nm (n : Int)
    rw [pagesB_step]
    by_cases hk : k < n
    · rw [List.drop_append_of_le_length (by omega), List.take_append_of_le_length (by rw [List.length_drop]; omega)]
      exact pagesB_at hI nm n k hk
    · obtain rfl : k = n := by omega
      rw [List.drop_append, List.drop_eq_nil_of_le (by omega), hl, Nat.sub_self, List.drop_zero, List.nil_append]
      exact List.take_of_length_le (by simp only [pageB]; omega)
theorem objB_inj {W W2 : WS} (hI : PagesOk W.objs) (hI2 : PagesOk W2.objs) {nm : Bs} (h : objB W nm = objB W2 nm) : W.objs nm = W2.objs nm := by
  have hX := trim_inj (by rw [pagesB_len hI, pagesB_len hI2]) h
  funext q
  by_cases hq : 0 ≤ q ∧ q < 256
  · obtain ⟨k, rfl⟩ : ∃ k : Nat, q = k := ⟨q.toNat, by omega⟩
    have h1 := pagesB_at hI nm 256 k (by omega)
    have h2 := pagesB_at hI2 nm 256 k (by omega)
    rw [hX, h2] at h1
    simp only [pageB] at h1
    cases e1 : W.objs nm (k : Int) with
    | none =>
      cases e2 : W2.objs nm (k : Int) with
      | none => rfl
      | some t => rw [e1, e2] at h1; exact absurd h1 (hI2.ok _ _ _ e2).2.1
    | some s =>
      cases e2 : W2.objs nm (k : Int) with
      | none => rw [e1, e2] at h1; exact absurd h1.symm (hI.ok _ _ _ e1).2.1
      | some t => rw [e1, e2] at h1; simp only [pageOf, Option.getD_some] at h1; rw [h1]
  · cases e1 : W.objs nm q with
    | none =>
      cases e2 : W2.objs nm q with
      | none => rfl
      | some t => exact absurd (hI2.ok _ _ _ e2).2.2 hq
    | some s => exact absurd (hI.ok _ _ _ e1).2.2 hq
theorem sortS_eq {l0 l1 : List Bs} (h0 : l0.Nodup) (h1 : l1.Nodup) (hm : ∀ k, k ∈ l0 ↔ k ∈ l1) : sortS l0 = sortS l1 := by
  have hp : l0.Perm l1 := (List.perm_ext_iff_of_nodup h0 h1).2 hm
  have hs : ∀ l : List Bs, (sortS l).Pairwise (· ≤ ·) := fun l => by
    have := List.pairwise_mergeSort (le := fun x y : Bs => decide (x ≤ y)) (fun a b c h1 h2 => by simp at h1 h2 ⊢; exact List.le_trans h1 h2) (fun a b => by simp; exact List.le_total a b) l
    exact this.imp fun h => by simpa using h
  exact List.Perm.eq_of_pairwise (le := fun a b => a ≤ b) (fun a b _ _ h1 h2 => List.le_antisymm h1 h2) (hs l0) (hs l1) ((sortS_perm l0).trans (hp.trans (sortS_perm l1).symm))
theorem keys_iff {c1 c2 : Bs → Bs} {l1 l2 : List Bs} (h1 : KeysOf c1 [] l1) (h2 : KeysOf c2 [] l2) : l1 = l2 ↔ ∀ k, c1 k ≠ [] ↔ c2 k ≠ [] := by
  obtain ⟨a, rfl, an, am⟩ := h1
  obtain ⟨b, rfl, bn, bm⟩ := h2
  have hp : ∀ k : Bs, Lib.hasPrefix k [] = true := fun k => by simp [Lib.hasPrefix]
  constructor
  · intro h k
    have e1 : k ∈ a ↔ k ∈ b := by rw [← (sortS_perm a).mem_iff, h, (sortS_perm b).mem_iff]
    rw [am k, bm k] at e1
    simpa [hp] using e1
  · intro h
    refine sortS_eq an bn fun k => ?_
    rw [am k, bm k, h k]
theorem names_iff {O1 O2 : Bs → Int → Option Bs} {l1 l2 : List Bs} (h1 : NamesOf O1 l1) (h2 : NamesOf O2 l2) : l1 = l2 ↔ ∀ k, (∃ q, O1 k q ≠ none) ↔ ∃ q, O2 k q ≠ none := by
  obtain ⟨a, rfl, an, am⟩ := h1
  obtain ⟨b, rfl, bn, bm⟩ := h2
  constructor
  · intro h k
    have e1 : k ∈ a ↔ k ∈ b := by rw [← (sortS_perm a).mem_iff, h, (sortS_perm b).mem_iff]
    rwa [am k, bm k] at e1
  · intro h
    refine sortS_eq an bn fun k => ?_
    rw [am k, bm k, h k]
theorem keys_in {c : Bs → Bs} {l : List Bs} (h : KeysOf c [] l) {k : Bs} (hk : c k ≠ []) : k ∈ l := by
  obtain ⟨a, rfl, an, am⟩ := h
  exact (sortS_perm a).mem_iff.2 ((am k).2 ⟨hk, by simp [Lib.hasPrefix]⟩)
theorem names_in {O : Bs → Int → Option Bs} {l : List Bs} (h : NamesOf O l) {k : Bs} (hk : ∃ q, O k q ≠ none) : k ∈ l := by
  obtain ⟨a, rfl, an, am⟩ := h
  exact (sortS_perm a).mem_iff.2 ((am k).2 hk)
theorem keysOf_len' {c : Bs → Bs} {pre : Bs} {l : List Bs} {n : Nat} (h : KeysOf c pre l) (hk : KeysIn c n) : l.length ≤ n := by
  obtain ⟨l0, rfl, hn, hm⟩ := h
  obtain ⟨ks, h1, h2⟩ := hk.few
  rw [sortS_len]
  exact Nat.le_trans (List.Nodup.length_le_of_subset hn fun k hk => h2 k ((hm k).1 hk).1) h1
theorem namesOf_len {O : Bs → Int → Option Bs} {l : List Bs} {n : Nat} (h : NamesOf O l) (hk : ObjsIn O n) : l.length ≤ n := by
  obtain ⟨l0, rfl, hn, hm⟩ := h
  obtain ⟨ks, h1, h2⟩ := hk
  rw [sortS_len]
  exact Nat.le_trans (List.Nodup.length_le_of_subset hn fun k hk => h2 k ((hm k).1 hk)) h1
def playF (W : WS) (l : List OpD) : WS := l.foldl doS W
theorem playF_step {W : WS} {l : List OpD} {i : Nat} {o : OpD} (ho : l[i]? = some o) : playF W (l.take (i + 1)) = doS (playF W (l.take i)) o := by
  rw [List.take_add_one, ho]; simp [playF]
theorem playF_inv {W : WS} {l : List OpD} {n : Nat} (hW : PInv W n) (h : l.all fitsB = true) : ∀ i, i ≤ l.length → PInv (playF W (l.take i)) (n + i)
  | 0, _ => by simpa [playF] using hW
  | i + 1, hi => by
    have ho : l[i]? = some l[i] := List.getElem?_eq_getElem (by omega)
    rw [playF_step ho, ← Nat.add_assoc]
    exact (playF_inv hW h i (by omega)).step (fit_of (List.all_eq_true.1 h _ (List.mem_of_getElem? ho)))
theorem ObjsIn.mono {O : Bs → Int → Option Bs} {n m : Nat} (h : ObjsIn O n) (hm : n ≤ m) : ObjsIn O m := let ⟨ks, h1, h2⟩ := h; ⟨ks, by omega, h2⟩
theorem ObjsIn.step {W : WS} {n : Nat} (h : ObjsIn W.objs n) (o : OpD) : ObjsIn (doS W o).objs (n + 1) := by
  obtain ⟨ks, h1, h2⟩ := h
  refine ⟨(if o.k = 2 then o.b else o.a) :: ks, by simp; omega, fun k hk => ?_⟩
  by_cases hkn : k = if o.k = 2 then o.b else o.a
  · rw [hkn]; simp
  · refine List.mem_cons_of_mem _ (h2 k ?_)
    have he := do_objs (W := W) (o := o) (nm := k) (by
      rintro (⟨q1, q2⟩ | ⟨q1, q2⟩)
      · rw [if_neg (by omega)] at hkn; exact hkn q2.symm
      · rw [if_pos q1] at hkn; exact hkn q2.symm)
    rw [he] at hk; exact hk
theorem playF_objs {W : WS} {l : List OpD} {n : Nat} (hW : ObjsIn W.objs n) : ∀ i, i ≤ l.length → ObjsIn (playF W (l.take i)).objs (n + i)
  | 0, _ => by simpa [playF] using hW
  | i + 1, hi => by
    have ho : l[i]? = some l[i] := List.getElem?_eq_getElem (by omega)
    rw [playF_step ho, ← Nat.add_assoc]
    exact (playF_objs hW i (by omega)).step _
theorem playedF (l : List OpD) : playedW l = if fewB l 40 = true then playF emptyW l else emptyW := rfl
theorem played_objs (l : List OpD) : ObjsIn (playedW l).objs 40 := by
  have h0 : ObjsIn emptyW.objs 0 := ⟨[], by simp, fun k ⟨q, hq⟩ => absurd rfl hq⟩
  rw [playedF]
  split
  · rename_i hf
    simp [fewB] at hf
    have := playF_objs (l := l) h0 l.length (Nat.le_refl _)
    rw [List.take_length] at this
    exact this.mono (by omega)
  · exact h0.mono (by omega)
theorem do_logs_in {W : WS} {o : OpD} {k : Bs} (h : (doS W o).logs k ≠ []) : W.logs k ≠ [] ∨ o.a = k := by
  by_cases ha : o.a = k
  · exact .inr ha
  · left; rw [do_logs (fun q => ha q.2)] at h; exact h
theorem playF_logs {W : WS} {k : Bs} : ∀ (l : List OpD), (playF W l).logs k ≠ [] → W.logs k ≠ [] ∨ ∃ o ∈ l, o.a = k := by
  intro l
  induction l generalizing W with
  | nil => intro h; exact .inl h
  | cons o l ih =>
    intro h
    rcases ih (W := doS W o) h with h1 | ⟨o', h1, h2⟩
    · rcases do_logs_in h1 with h3 | h3
      · exact .inl h3
      · exact .inr ⟨o, by simp, h3⟩
    · exact .inr ⟨o', by simp [h1], h2⟩
theorem played_logs {l : List OpD} {k : Bs} (h : (playedW l).logs k ≠ []) : ∃ o ∈ l, o.a = k := by
  rw [playedF] at h
  split at h
  · rcases playF_logs l h with h1 | h1
    · exact absurd rfl h1
    · exact h1
  · exact absurd rfl h
structure CloneEq (W W2 : WS) : Prop where
  keys : ∀ k, W.cells k ≠ [] ↔ W2.cells k ≠ []
  names : ∀ k, (∃ q, W.objs k q ≠ none) ↔ ∃ q, W2.objs k q ≠ none
  time : W.time = W2.time
theorem clone_iff {l m : List OpD} {lk ln : List Bs} (hI : PagesOk (playedW l).objs) (hI2 : PagesOk (playF (playedW l) m).objs) (hlk : KeysOf (playedW l).cells [] lk) (hln : NamesOf (playedW l).objs ln) :
    (((CloneEq (playedW l) (playF (playedW l) m) ∧ ∀ k ∈ lk, (playedW l).cells k = (playF (playedW l) m).cells k) ∧ ∀ k ∈ ln, objB (playedW l) k = objB (playF (playedW l) m) k) ∧ ∀ o ∈ l ++ m, (playedW l).logs o.a = (playF (playedW l) m).logs o.a) ↔ playedW l = playF (playedW l) m := by
  constructor
  · rintro ⟨⟨⟨hC, hk⟩, hn⟩, ho⟩
    refine ws_eq (funext fun k => ?_) (funext fun k => ?_) (funext fun k => ?_) hC.time
    · by_cases h : (playedW l).cells k = []
      · rw [h]; exact (Decidable.not_not.1 fun q => (hC.keys k).2 q h).symm
      · exact hk k (keys_in hlk h)
    · by_cases h : ∃ q, (playedW l).objs k q ≠ none
      · exact objB_inj hI hI2 (hn k (names_in hln h))
      · have h2 : ¬ ∃ q, (playF (playedW l) m).objs k q ≠ none := fun q => h ((hC.names k).2 q)
        funext q
        rw [Decidable.not_not.1 fun e => h ⟨q, e⟩, Decidable.not_not.1 fun e => h2 ⟨q, e⟩]
    · by_cases h : ∃ o ∈ l ++ m, o.a = k
      · obtain ⟨o, ho1, rfl⟩ := h; exact ho o ho1
      · have e1 : (playedW l).logs k = [] := Decidable.not_not.1 fun q => h (let ⟨o, h1, h2⟩ := played_logs q; ⟨o, by simp [h1], h2⟩)
        have e2 : (playF (playedW l) m).logs k = [] := Decidable.not_not.1 fun q => by
          rcases playF_logs m q with h1 | ⟨o, h1, h2⟩
          · exact h1 e1
          · exact h ⟨o, by simp [h1], h2⟩
        rw [e1, e2]
  · intro h
    rw [← h]
    exact ⟨⟨⟨⟨fun _ => Iff.rfl, fun _ => Iff.rfl, rfl⟩, fun _ _ => rfl⟩, fun _ _ => rfl⟩, fun _ _ => rfl⟩
end Go.Proofs.YtieelilkkpcmdaaDoor
