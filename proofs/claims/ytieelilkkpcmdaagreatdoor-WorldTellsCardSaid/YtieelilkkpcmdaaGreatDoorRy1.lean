/- reference 15: Full, as of a world -/
import Derived.Test.YtieelilkkpcmdaaGreatDoorRx8
namespace Go.Proofs.YtieelilkkpcmdaaGreatDoor
open Go.RowKit M
set_option linter.unusedVariables false
theorem dw_nil : ∀ {l : Bs}, l.dropWhile (· == 0) = [] → ∀ c ∈ l, c = 0
  | [], _, c, hc => by cases hc
  | x :: l, h, c, hc => by
    rw [List.dropWhile_cons] at h
    split at h
    · rename_i hx
      rcases List.mem_cons.1 hc with rfl | hc
      · simpa using hx
      · exact dw_nil h c hc
    · cases h
theorem trim_nil {l : Bs} (h : Lib.trimRightB l 0 = []) : ∀ c ∈ l, c = 0 := fun c hc => by
  unfold Lib.trimRightB at h
  have h1 : l.reverse.dropWhile (· == 0) = [] := by simpa using h
  exact dw_nil h1 c (List.mem_reverse.2 hc)
theorem objB_nil {W : WS} (hI : PagesOk W.objs) {nm : Bs} (h : objB W nm = []) : ∀ q, W.objs nm q = none := fun q => by
  cases hq : W.objs nm q with
  | none => rfl
  | some s =>
    obtain ⟨h1, h2, h3, h4⟩ := hI.ok nm q s hq
    have hz := trim_nil h
    exact absurd (List.eq_replicate_iff.2 ⟨h1, fun c hc => hz c (List.mem_flatMap.2 ⟨q.toNat, by simp; omega, by
      rw [show ((q.toNat : Nat) : Int) = q by omega]; simp only [pageB, pageOf, hq, Option.getD_some]; exact hc⟩)⟩) h2
theorem objB_some {W : WS} (hI : PagesOk W.objs) {nm : Bs} : objB W nm ≠ [] ↔ ∃ q, W.objs nm q ≠ none := by
  constructor
  · intro h
    refine Classical.byContradiction fun hn => h (objB_none fun q => Decidable.byContradiction fun g => hn ⟨q, g⟩)
  · rintro ⟨q, hq⟩ h
    exact hq (objB_nil hI h q)
structure FullW (W : WS) (l : List Bs) : Prop where
  sorted : l.Pairwise (· < ·)
  mem : ∀ k, k ∈ l ↔ objB W k ≠ []
theorem FullW.names {W : WS} {l ln : List Bs} (h : FullW W l) (hI : PagesOk W.objs) (hn : NamesOf W.objs ln) : ln = l := by
  obtain ⟨l0, rfl, hd, hm⟩ := hn
  exact sorted_eq hd h.sorted fun k => by rw [hm k, h.mem, objB_some hI]
theorem FullW.objs {W : WS} {l : List Bs} {n : Nat} (h : FullW W l) (hI : PagesOk W.objs) (hl : l.length ≤ n) : ObjsIn W.objs n := ⟨l, hl, fun k hk => (h.mem k).2 ((objB_some hI).2 hk)⟩
theorem rFull {w : World} {F : Th} {p n : Nat} {W : WS} (hS : Sat w [refW p W n, F]) (hn : n ≤ 1000) (hI : PagesOk W.objs) : Calls Tryz.prog 15 #[ptrV p 0] w (Ret fun v w' => ∃ l, FullW W l ∧ l.length ≤ 2 * n ∧ Sat w' [rowT stC v l, refW p W n, F]) := by
  obtain ⟨Z, O, G, hR, hS⟩ := refW_open hS
  refine (fFull_sp hS hR.objs (by have := hR.ol; omega)).mono fun e w' h => h.mono fun v w' ⟨l, ⟨h1, h2⟩, h3⟩ => ?_
  have ht : ∀ x ∈ O, trimO x = objB W x.name := fun x hx => by
    unfold trimO; rw [data_pages hI (hR.objs.len x hx) (hR.objs.val x hx)]; rfl
  have hF : FullW W l := ⟨h1, fun k => by
    rw [h2]
    constructor
    · rintro ⟨x, hx, rfl, hne⟩; rwa [ht x hx] at hne
    · intro hne
      by_cases hk : k ∈ O.map (·.name)
      · obtain ⟨x, hx, rfl⟩ := List.mem_map.1 hk
        exact ⟨x, hx, rfl, by rwa [ht x hx]⟩
      · exact absurd (objB_zero hI (hR.objs.none k hk)) hne⟩
  refine ⟨l, hF, ?_, (refW_shut hR (h3.perm (List.Perm.swap _ _ _))).perm (List.Perm.swap _ _ _)⟩
  have h5 : l.Nodup := h1.imp fun {a b} hab e => by subst e; exact List.lt_irrefl _ hab
  have := List.Nodup.length_le_of_subset (l₂ := O.map (·.name)) h5 fun k hk => by
    obtain ⟨x, hx, rfl, _⟩ := (h2 k).1 hk
    exact List.mem_map.2 ⟨x, hx, rfl⟩
  have h6 := hR.ol
  simp at this; omega
theorem writeS_cells (nm : Bs) : ∀ (s : Bs) (W : WS) (a : Int), (writeS W nm a s).cells = W.cells
  | [], W, a => rfl
  | c :: s, W, a => by rw [writeS, writeS_cells nm s]; exact (setByteS_rest W nm a c).1
theorem writeS_ok (nm : Bs) : ∀ (s : Bs) (W : WS) (a : Int), PagesOk W.objs → PagesOk (writeS W nm a s).objs
  | [], W, a, h => h
  | c :: s, W, a, h => by rw [writeS]; exact writeS_ok nm s _ _ (setByteS_ok h nm a c)
theorem readB_length (W : WS) (nm : Bs) (a : Int) (k : Nat) : (readB W nm a k).length = k := by simp [readB]
theorem readB_at (W : WS) (n : Bs) (a : Int) {k i : Nat} (h : i < k) : (readB W n a k)[i]? = some (byteW W n (a + (i : Int))) := by simp [readB, h]
theorem world_pg {w : World} {As : List Th} {p : Nat} {W : WS} (i : Nat) (h : Sat w As) (hi : As[i]? = some (worldT p W)) : PagesOk W.objs := by
  obtain ⟨_, h1, _⟩ := worldT_open (h.pull i hi)
  exact h1
theorem ref_new {w : World} {fb : Nat} {As : List Th} (h : Sat w (blkT fb [.slice none 0 0, .slice none 0 0, .slice none 0 0, .slice none 0 0, .slice none 0 0, .slice none 0 0, intV 0] :: As)) : Sat w (refW fb emptyW 0 :: As) := by
  have h1 := (h.row_nil stC).row_nil stC
  have h2 := Sat.fold (As := []) h1
  have h3 := ((((h2.row_nil slC).row_nil stC).row_nil stC).row_nil stC)
  have h4 := h3.pull 7 rfl; dsimp only [List.eraseIdx] at h4
  exact refW_shut (Z := []) (O := []) (G := []) RefR.empty (full_shut h4)
end Go.Proofs.YtieelilkkpcmdaaGreatDoor
