/- FramesHold: the pages of the law, and its own helpers. -/
import Derived.Test.YtpcchkkpligemaaLf
import Derived.Test.YtpcchkkpligemaaCopy
import Derived.Test.YtpcchkkpligemaaFam
namespace Go.Proofs.Ytpcchkkpligemaa
open Go.RowKit M

theorem count_take' {fs : List (Bool × List UInt8)} {k : Nat} {g : Bool × List UInt8} (h : fs[k]? = some g) : count (fs.take (k + 1)) = count (fs.take k) + g.1.toNat := by
  have hk := (List.getElem?_eq_some_iff.1 h).1
  rw [List.take_succ_eq_append_getElem hk, (List.getElem?_eq_some_iff.1 h).2]
  simp only [count, List.filter_append, List.length_append]
  cases hg : g.1 <;> simp [hg]

/-- the value of page i -/
def pageV (blk caps : Nat → Nat) (i : Nat) (f : Bool × List UInt8) : Value := if f.1 then .slice (some ⟨blk i, 0, none⟩) 64 (caps i) else .slice none 0 0
def pagesV (blk caps : Nat → Nat) (fs : List (Bool × List UInt8)) : List Value := fs.mapIdx (pageV blk caps)

theorem pagesV_get (blk caps : Nat → Nat) (fs : List (Bool × List UInt8)) (i : Nat) : (pagesV blk caps fs)[i]? = fs[i]?.map (pageV blk caps i) := by simp [pagesV]
theorem pagesV_length (blk caps : Nat → Nat) (fs : List (Bool × List UInt8)) : (pagesV blk caps fs).length = fs.length := by simp [pagesV]

structure PagesAt (w : World) (pb : Nat) (blk caps : Nat → Nat) (fs : List (Bool × List UInt8)) : Prop where
  row : Blk w pb (pagesV blk caps fs)
  page : ∀ i l, fs[i]? = some (true, l) → 64 ≤ caps i ∧ ∃ sp, Blk w (blk i) (bytesV l ++ sp)
  inj : ∀ i j l l', fs[i]? = some (true, l) → fs[j]? = some (true, l') → i ≠ j → blk i ≠ blk j
  ne : ∀ i l, fs[i]? = some (true, l) → blk i ≠ pb
  wf : Wf fs
  len : fs.length ≤ 4096

def usedIdx (fs : List (Bool × List UInt8)) : List Nat := (List.range fs.length).filter fun i => (fs[i]?.map (·.1)).getD false
def footP (pb : Nat) (blk : Nat → Nat) (fs : List (Bool × List UInt8)) : List Nat := pb :: (usedIdx fs).map blk

theorem mem_footP {pb : Nat} {blk : Nat → Nat} {fs : List (Bool × List UInt8)} {k : Nat} : k ∈ footP pb blk fs ↔ k = pb ∨ ∃ i l, fs[i]? = some (true, l) ∧ k = blk i := by
  simp only [footP, usedIdx, List.mem_cons, List.mem_map, List.mem_filter, List.mem_range]
  constructor
  · rintro (h | ⟨i, ⟨hi, hu⟩, rfl⟩)
    · exact .inl h
    · right
      rw [List.getElem?_eq_getElem hi] at hu
      simp at hu
      exact ⟨i, fs[i].2, by rw [List.getElem?_eq_getElem hi, ← hu], rfl⟩
  · rintro (h | ⟨i, l, hi, rfl⟩)
    · exact .inl h
    · exact .inr ⟨i, ⟨(List.getElem?_eq_some_iff.1 hi).1, by simp [hi]⟩, rfl⟩

theorem PagesAt.congr {w w' : World} {pb : Nat} {blk caps : Nat → Nat} {fs : List (Bool × List UInt8)} (h : PagesAt w pb blk caps fs) (hk : ∀ k ∈ footP pb blk fs, w'.heap[k]? = w.heap[k]?) : PagesAt w' pb blk caps fs :=
  ⟨h.row.congr (hk pb (mem_footP.2 (.inl rfl))), fun i l hi => by
    obtain ⟨h1, sp, h2⟩ := h.page i l hi
    exact ⟨h1, sp, h2.congr (hk _ (mem_footP.2 (.inr ⟨i, l, hi, rfl⟩)))⟩, h.inj, h.ne, h.wf, h.len⟩

theorem PagesAt.lts {w : World} {pb : Nat} {blk caps : Nat → Nat} {fs : List (Bool × List UInt8)} (h : PagesAt w pb blk caps fs) : ∀ k ∈ footP pb blk fs, k < w.heap.size := by
  intro k hk
  rcases mem_footP.1 hk with rfl | ⟨i, l, hi, rfl⟩
  · exact h.row.lt
  · obtain ⟨_, sp, h2⟩ := h.page i l hi; exact h2.lt

def pagesA (pb : Nat) (blk caps : Nat → Nat) (fs : List (Bool × List UInt8)) : Ast := ⟨footP pb blk fs, fun w => PagesAt w pb blk caps fs, fun _ _ hk h => h.congr hk⟩

def upd (f : Nat → Nat) (k v : Nat) : Nat → Nat := fun i => if i = k then v else f i

/-- page k has got new bytes in a row of its own -/
theorem PagesAt.put {w w' : World} {pb : Nat} {blk caps : Nat → Nat} {fs : List (Bool × List UInt8)} (h : PagesAt w pb blk caps fs) {k b cap : Nat} {l : List UInt8} {sp : List Value} (hk : k < fs.length) (ho : Only [pb] w w')
    (hr : Blk w' pb ((pagesV blk caps fs).set k (.slice (some ⟨b, 0, none⟩) 64 cap))) (hb : Blk w' b (bytesV l ++ sp)) (hf : w.heap.size ≤ b) (hcap : 64 ≤ cap) (hl : l.length = 64) :
    PagesAt w' pb (upd blk k b) (upd caps k cap) (fs.set k (true, l)) := by
  have hget : ∀ i, (fs.set k (true, l))[i]? = if i = k then some (true, l) else fs[i]? := fun i => by
    rw [List.getElem?_set]
    by_cases e : k = i
    · subst e; simp [hk]
    · rw [if_neg e, if_neg (fun e' => e e'.symm)]
  refine ⟨?_, fun i l' hi => ?_, fun i j l1 l2 hi hj hij => ?_, fun i l' hi => ?_, h.wf.set hl, by simpa using h.len⟩
  · have e : pagesV (upd blk k b) (upd caps k cap) (fs.set k (true, l)) = (pagesV blk caps fs).set k (.slice (some ⟨b, 0, none⟩) 64 cap) := by
      apply List.ext_getElem?
      intro i
      rw [pagesV_get, hget, List.getElem?_set, pagesV_length]
      by_cases e : i = k
      · subst e; simp [hk, pageV, upd]
      · rw [if_neg e, if_neg (fun e' => e e'.symm), pagesV_get]
        congr 1; funext f; simp [pageV, upd, e]
    rw [e]; exact hr
  · rw [hget] at hi
    by_cases e : i = k
    · subst e; simp at hi; subst hi; exact ⟨by simpa [upd] using hcap, sp, by simpa [upd] using hb⟩
    · rw [if_neg e] at hi
      obtain ⟨h1, sp', h2⟩ := h.page i l' hi
      exact ⟨by simpa [upd, e] using h1, sp', by simpa [upd, e] using ho.blk h2 (by simpa using h.ne i l' hi)⟩
  · rw [hget] at hi hj
    have hlt : ∀ q l', fs[q]? = some (true, l') → blk q < w.heap.size := fun q l' hq => by obtain ⟨_, sp', h2⟩ := h.page q l' hq; exact h2.lt
    by_cases e1 : i = k
    · have e2 : j ≠ k := by omega
      rw [if_neg e2] at hj
      have := hlt j l2 hj
      simp only [upd, e1, e2, if_true, if_false]; omega
    · rw [if_neg e1] at hi
      have h1 := hlt i l1 hi
      by_cases e2 : j = k
      · simp only [upd, e1, e2, if_true, if_false]; omega
      · rw [if_neg e2] at hj
        simp only [upd, e1, e2, if_false]
        exact h.inj i j l1 l2 hi hj hij
  · rw [hget] at hi
    by_cases e : i = k
    · have := h.row.lt; simp only [upd, e, if_true]; omega
    · rw [if_neg e] at hi
      simp only [upd, e, if_false]; exact h.ne i l' hi

theorem footP_put {pb : Nat} {blk : Nat → Nat} {fs : List (Bool × List UInt8)} {k b : Nat} {l : List UInt8} {N : Nat} (hf : N ≤ b) : ∀ q ∈ footP pb (upd blk k b) (fs.set k (true, l)), q ∈ footP pb blk fs ∨ N ≤ q := by
  intro q hq
  rcases mem_footP.1 hq with rfl | ⟨i, l', hi, rfl⟩
  · exact .inl (mem_footP.2 (.inl rfl))
  · by_cases e : i = k
    · right; simp [upd, e]; exact hf
    · left
      rw [List.getElem?_set, if_neg (fun e' => e e'.symm)] at hi
      exact mem_footP.2 (.inr ⟨i, l', hi, by simp [upd, e]⟩)

theorem set_get {fs : List (Bool × List UInt8)} {k : Nat} {g : Bool × List UInt8} (hk : k < fs.length) (i : Nat) : (fs.set k g)[i]? = if i = k then some g else fs[i]? := by
  rw [List.getElem?_set]
  by_cases e : k = i
  · subst e; simp [hk]
  · rw [if_neg e, if_neg (fun e' => e e'.symm)]

/-- page k is given up -/
theorem PagesAt.drop {w w' : World} {pb : Nat} {blk caps : Nat → Nat} {fs : List (Bool × List UInt8)} (h : PagesAt w pb blk caps fs) {k : Nat} {l : List UInt8} (hk : k < fs.length) (ho : Only [pb] w w')
    (hr : Blk w' pb ((pagesV blk caps fs).set k (.slice none 0 0))) (hl : l.length = 64) : PagesAt w' pb blk caps (fs.set k (false, l)) := by
  have hold : ∀ i l', (fs.set k (false, l))[i]? = some (true, l') → fs[i]? = some (true, l') := fun i l' hi => by
    rw [set_get hk] at hi
    by_cases e : i = k
    · simp [e] at hi
    · rwa [if_neg e] at hi
  refine ⟨?_, fun i l' hi => ?_, fun i j l1 l2 hi hj hij => h.inj i j l1 l2 (hold i l1 hi) (hold j l2 hj) hij, fun i l' hi => h.ne i l' (hold i l' hi), h.wf.set hl, by simpa using h.len⟩
  · have e : pagesV blk caps (fs.set k (false, l)) = (pagesV blk caps fs).set k (.slice none 0 0) := by
      apply List.ext_getElem?
      intro i
      rw [pagesV_get, set_get hk, List.getElem?_set, pagesV_length]
      by_cases e : i = k
      · subst e; simp [hk, pageV]
      · rw [if_neg e, if_neg (fun e' => e e'.symm), pagesV_get]
    rw [e]; exact hr
  · obtain ⟨h1, sp, h2⟩ := h.page i l' (hold i l' hi)
    exact ⟨h1, sp, ho.blk h2 (by simpa using h.ne i l' (hold i l' hi))⟩

theorem footP_drop {pb : Nat} {blk : Nat → Nat} {fs : List (Bool × List UInt8)} {k : Nat} {l : List UInt8} (hk : k < fs.length) : ∀ q ∈ footP pb blk (fs.set k (false, l)), q ∈ footP pb blk fs := by
  intro q hq
  rcases mem_footP.1 hq with rfl | ⟨i, l', hi, rfl⟩
  · exact mem_footP.2 (.inl rfl)
  · rw [set_get hk] at hi
    by_cases e : i = k
    · simp [e] at hi
    · rw [if_neg e] at hi; exact mem_footP.2 (.inr ⟨i, l', hi, rfl⟩)

/-- a byte of page k is replaced -/
theorem PagesAt.byte {w : World} {pb : Nat} {blk caps : Nat → Nat} {fs : List (Bool × List UInt8)} (h : PagesAt w pb blk caps fs) {k j : Nat} {l : List UInt8} {c : UInt8} (hi : fs[k]? = some (true, l)) (hj : j < 64) :
    PagesAt (w.setCell ⟨blk k, j, none⟩ (.int .u8 (c.toNat : Int))) pb blk caps (fs.set k (true, l.set j c)) := by
  have hk := (List.getElem?_eq_some_iff.1 hi).1
  have hl : l.length = 64 := h.wf _ (List.mem_of_getElem? hi)
  have hold : ∀ i l', (fs.set k (true, l.set j c))[i]? = some (true, l') → ∃ l'', fs[i]? = some (true, l'') := fun i l' hq => by
    rw [set_get hk] at hq
    by_cases e : i = k
    · subst e; exact ⟨l, hi⟩
    · rw [if_neg e] at hq; exact ⟨l', hq⟩
  refine ⟨?_, fun i l' hq => ?_, fun i q l1 l2 h1 h2 hiq => ?_, fun i l' hq => ?_, h.wf.set (by simpa using hl), by simpa using h.len⟩
  · have e : pagesV blk caps (fs.set k (true, l.set j c)) = pagesV blk caps fs := by
      apply List.ext_getElem?
      intro i
      rw [pagesV_get, set_get hk, pagesV_get]
      by_cases e : i = k
      · subst e; simp [hi, pageV]
      · rw [if_neg e]
    rw [e]; exact h.row.other (fun e => h.ne k l hi e.symm) _
  · rw [set_get hk] at hq
    by_cases e : i = k
    · subst e
      simp at hq; subst hq
      obtain ⟨h1, sp, h2⟩ := h.page i l hi
      refine ⟨h1, sp, ?_⟩
      have := h2.set j (.int .u8 (c.toNat : Int))
      rw [List.set_append_left _ _ (by rw [bytesV_length]; omega)] at this
      simpa [bytesV, List.map_set] using this
    · rw [if_neg e] at hq
      obtain ⟨h1, sp, h2⟩ := h.page i l' hq
      exact ⟨h1, sp, h2.other (h.inj i k l' l hq hi e) _⟩
  · obtain ⟨a1, e1⟩ := hold i l1 h1
    obtain ⟨a2, e2⟩ := hold q l2 h2
    exact h.inj i q a1 a2 e1 e2 hiq
  · obtain ⟨a1, e1⟩ := hold i l' hq
    exact h.ne i a1 e1

theorem footP_byte {pb : Nat} {blk : Nat → Nat} {fs : List (Bool × List UInt8)} {k : Nat} {l l' : List UInt8} (hi : fs[k]? = some (true, l)) : ∀ q ∈ footP pb blk (fs.set k (true, l')), q ∈ footP pb blk fs := by
  have hk := (List.getElem?_eq_some_iff.1 hi).1
  intro q hq
  rcases mem_footP.1 hq with rfl | ⟨i, l2, h2, rfl⟩
  · exact mem_footP.2 (.inl rfl)
  · rw [set_get hk] at h2
    by_cases e : i = k
    · subst e; exact mem_footP.2 (.inr ⟨i, l, hi, rfl⟩)
    · rw [if_neg e] at h2; exact mem_footP.2 (.inr ⟨i, l2, h2, rfl⟩)

theorem PagesAt.cell {w : World} {pb : Nat} {blk caps : Nat → Nat} {fs : List (Bool × List UInt8)} (h : PagesAt w pb blk caps fs) {k : Nat} {g : Bool × List UInt8} (hk : fs[k]? = some g) : w.cell? ⟨pb, k, none⟩ = some (pageV blk caps k g) :=
  h.row.cell (by rw [pagesV_get, hk]; rfl)

set_option maxHeartbeats 400000 in
theorem pused_any {w : World} {pb cap : Nat} {blk caps : Nat → Nat} {fs : List (Bool × List UInt8)} (h : PagesAt w pb blk caps fs) :
    Calls Try.prog 23 #[.slice (some ⟨pb, 0, none⟩) fs.length cap] w fun e w' => e = .returned (.int .i64 (count fs)) ∧ w = w' := by
  have hlen := h.len
  go_enter Try.func23, Try.ntmps23
  go_wp2
  go_loop [3, 4] (fun n i => ∃ k : Nat, i = .int .i64 k ∧ k ≤ fs.length ∧ n = .int .i64 (count (fs.take k))) (fun _ i => fs.length - (intOf i).toNat)
  case atStart => exact ⟨0, rfl, by omega, rfl⟩
  case round =>
    obtain ⟨k, rfl, hk, rfl⟩ := hrel
    by_cases hlt : k < fs.length
    · obtain ⟨⟨b, l⟩, hg⟩ : ∃ g, fs[k]? = some g := ⟨_, List.getElem?_eq_getElem hlt⟩
      have hu := h.cell hg
      have Hc := hid (count_take' hg)
      have hb := count_le (fs.take k)
      have hbl : (fs.take k).length ≤ 4096 := by simp; omega
      clear hg
      cases b
      · have hu' : w.cell? ⟨pb, k, none⟩ = some (.slice none 0 0) := hu
        clear hu
        go_wp2
        exact ⟨⟨k + 1, by simp, by omega, by rw [Hc.out]; rfl⟩, by simp [intOf]; omega⟩
      · have hu' : w.cell? ⟨pb, k, none⟩ = some (.slice (some ⟨blk k, 0, none⟩) 64 (caps k)) := hu
        clear hu
        go_wp2
        exact ⟨⟨k + 1, by simp, by omega, by rw [Hc.out]; rfl⟩, by simp [intOf]; omega⟩
    · obtain rfl : k = fs.length := by omega
      rw [List.take_length]
      go_wp2
      go_ret
      exact ⟨rfl, rfl⟩

theorem only_drewN (w : World) (n : Nat) : Only [] w (w.drewN n) := ⟨rfl, rfl, rfl, Nat.le_refl _, fun _ _ _ => rfl⟩

theorem qof' {P : Program} {f : FuncId} {args : Array Value} {w : World} {n : Nat} {v : Value} (h : Calls P f args (w.drewN n) fun e w' => e = .returned v ∧ w.drewN n = w') :
    Calls P f args (w.drewN n) fun e w'' => e = .returned v ∧ ∃ m, w'' = w.drewN m := h.mono fun _ _ ⟨he, hm⟩ => ⟨he, n, hm.symm⟩

set_option maxHeartbeats 1000000 in
theorem holds_any {w : World} {p bb pb cap : Nat} {blk caps : Nat → Nat} {fs : List (Bool × List UInt8)} (hF : FramesAt w p bb fs) (hP : PagesAt w pb blk caps fs) :
    Calls Try.prog 24 #[.pointer (some ⟨p, 0, none⟩), .slice (some ⟨pb, 0, none⟩) fs.length cap] w fun e w' => e = .returned (.bool true) ∧ Only [] w w' := by
  have hlen := hP.len
  go_enter Try.func24, Try.ntmps24
  go_wp2
  go_loopw [5] (fun i wr => ∃ k : Nat, i = .int .i64 k ∧ k ≤ fs.length ∧ Only [] w wr) (fun i _ => fs.length - (intOf i).toNat)
  case atStart => exact ⟨0, rfl, by omega, Only.refl _ _⟩
  case round =>
    obtain ⟨k, rfl, hk, ho⟩ := hrel
    have G1 := hid (hF.only ho (by simp) (by simp))
    have G2 := hid (hP.congr (w' := wr) (fun q hq => ho.block q (hP.lts q hq) (by simp)))
    by_cases hlt : k < fs.length
    · obtain ⟨⟨b, l⟩, hg⟩ : ∃ g, fs[k]? = some g := ⟨_, List.getElem?_eq_getElem hlt⟩
      have hu := G2.out.cell hg
      have hk0 : (0 : Int) ≤ (k : Int) := by omega
      have hk1 : (k : Int) < (fs.length : Int) := by omega
      cases b
      · have hu' : wr.cell? ⟨pb, k, none⟩ = some (.slice none 0 0) := hu
        have hcv : ∀ n, (convert 46 9 (.slice none 0 0)).run Try.prog (wr.drewN n) = .ok (.string ⟨#[]⟩) (wr.drewN n) := fun n => by kernel_rfl
        have Hh := hid (show ∀ n, Calls Try.prog 15 #[.pointer (some ⟨p, 0, none⟩), .int .i64 k] (wr.drewN n) fun e w' => e = .returned (.bool false) ∧ wr.drewN n = w' from fun n => by
          have := has_any (w := wr.drewN n) (G1.out.congr rfl rfl) k
          rw [show hasB fs k = false by simp [hasB, hg]] at this; exact this)
        have Hp := hid (show ∀ n, Calls Try.prog 19 #[.pointer (some ⟨p, 0, none⟩), .int .i64 k] (wr.drewN n) fun e w' => e = .returned (.string ⟨#[]⟩) ∧ wr.drewN n = w' from fun n => by
          have := page_any (w := wr.drewN n) (G1.out.congr rfl rfl) k
          rw [show pageB fs k = [] by simp [pageB, hasB, hg]] at this; exact this)
        clear hu hg G1 G2
        go_wp2_with fail
        go_quiet (first
          | (go_at_call 15; exact qof' (Hh.out _))
          | (go_at_call 19; exact qof' (Hp.out _)))
        go_wp2_with fail
        exact ⟨⟨k + 1, by simp, by omega, ho.trans0 (only_drewN _ _)⟩, by simp [intOf]; omega⟩
      · have hu' : wr.cell? ⟨pb, k, none⟩ = some (.slice (some ⟨blk k, 0, none⟩) 64 (caps k)) := hu
        have hl : l.length = 64 := hP.wf _ (List.mem_of_getElem? hg)
        have hcv : ∀ n, (convert 46 9 (.slice (some ⟨blk k, 0, none⟩) 64 (caps k))).run Try.prog (wr.drewN n) = .ok (.string ⟨l.toArray⟩) (wr.drewN n) := fun n => by
          obtain ⟨_, sp, hb⟩ := G2.out.page k l hg
          have := run_convert_bytes_back (P := Try.prog) (wr.drewN n) 46 9 5 ⟨blk k, 0, none⟩ (caps k) l Try.underlying46 Try.underlying5 Try.underlying9 (fun j hj => by
            rw [addr_add, Nat.zero_add]
            have hb' : Blk (wr.drewN n) (blk k) (bytesV l ++ sp) := hb
            refine hb'.cell ?_
            rw [List.getElem?_append_left (by rw [bytesV_length]; exact hj), bytesV_get, List.getElem?_eq_getElem hj]; rfl)
          rw [hl] at this; exact this
        have Hh := hid (show ∀ n, Calls Try.prog 15 #[.pointer (some ⟨p, 0, none⟩), .int .i64 k] (wr.drewN n) fun e w' => e = .returned (.bool true) ∧ wr.drewN n = w' from fun n => by
          have := has_any (w := wr.drewN n) (G1.out.congr rfl rfl) k
          rw [show hasB fs k = true by simp [hasB, hg]] at this; exact this)
        have Hp := hid (show ∀ n, Calls Try.prog 19 #[.pointer (some ⟨p, 0, none⟩), .int .i64 k] (wr.drewN n) fun e w' => e = .returned (.string ⟨l.toArray⟩) ∧ wr.drewN n = w' from fun n => by
          have := page_any (w := wr.drewN n) (G1.out.congr rfl rfl) k
          rw [show pageB fs k = l by simp [pageB, hasB, hg]] at this; exact this)
        clear hu hg G1 G2 hl
        go_wp2_with fail
        go_quiet (first
          | (go_at_call 15; exact qof' (Hh.out _))
          | (go_at_call 19; exact qof' (Hp.out _)))
        go_wp2_with fail
        exact ⟨⟨k + 1, by simp, by omega, ho.trans0 (only_drewN _ _)⟩, by simp [intOf]; omega⟩
    · go_wp2_with fail
      refine (used_any G1.out).mono ?_
      rintro e w' ⟨rfl, rfl⟩
      go_wp2_with fail
      refine (pused_any G2.out).mono ?_
      rintro e w' ⟨rfl, rfl⟩
      go_wp2_with fail
      go_ret
      exact ⟨rfl, ho⟩
end Go.Proofs.Ytpcchkkpligemaa
