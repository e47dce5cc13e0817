/- Package rehearsalref07: what its functions do, said of the same list of frames as package frames. -/
import Derived.Test.YtpcchkkpligemaaFra
import Derived.Test.YtpcchkkpligemaaFam
namespace Go.Proofs.Ytpcchkkpligemaa
open Go.RowKit M

def refS (f : Bool × List UInt8) : List UInt8 := if f.1 then f.2 else []
def refV (fs : List (Bool × List UInt8)) : List Value := fs.map fun f => .string ⟨(refS f).toArray⟩

structure RefAt (w : World) (r lb : Nat) (fs : List (Bool × List UInt8)) : Prop where
  str : ∃ cap, Blk w r [.slice (some ⟨lb, 0, none⟩) fs.length cap] ∧ fs.length ≤ cap
  row : Blk w lb (refV fs)
  ne : r ≠ lb
  wf : Wf fs
  len : fs.length ≤ 4096

theorem RefAt.congr {w w' : World} {p bb : Nat} {fs : List (Bool × List UInt8)} (h : RefAt w p bb fs) (h1 : w'.heap[p]? = w.heap[p]?) (h2 : w'.heap[bb]? = w.heap[bb]?) : RefAt w' p bb fs := by
  obtain ⟨⟨cap, hp, hc⟩, hb, hne, hwf, hl⟩ := h
  exact ⟨⟨cap, hp.congr h1, hc⟩, hb.congr h2, hne, hwf, hl⟩
theorem RefAt.lts {w : World} {p bb : Nat} {fs : List (Bool × List UInt8)} (h : RefAt w p bb fs) : ∀ k ∈ [p, bb], k < w.heap.size := by
  intro k hk
  simp only [List.mem_cons, List.not_mem_nil, or_false] at hk
  rcases hk with rfl | rfl
  · obtain ⟨cap, hp, _⟩ := h.str; exact hp.lt
  · exact h.row.lt
def refA (p bb : Nat) (fs : List (Bool × List UInt8)) : Ast := ⟨[p, bb], fun w => RefAt w p bb fs, fun _ _ hk h => h.congr (hk p (by simp)) (hk bb (by simp))⟩

def LeftR (p bb : Nat) (w : World) (r : Value) (fs' : List (Bool × List UInt8)) (e : Ending) (w' : World) : Prop := e = .returned r ∧ RefAt w' p bb fs' ∧ Only [p, bb] w w'

theorem RefAt.cell {w : World} {r lb : Nat} {fs : List (Bool × List UInt8)} (h : RefAt w r lb fs) {k : Nat} {g : Bool × List UInt8} (hk : fs[k]? = some g) : w.cell? ⟨lb, k, none⟩ = some (.string ⟨(refS g).toArray⟩) :=
  h.row.cell (by simp [refV, hk])

theorem refS_true {l : List UInt8} : refS (true, l) = l := rfl
theorem refS_false {l : List UInt8} : refS (false, l) = [] := rfl

theorem str_ne {l : List UInt8} (h : l.length = 64) : l.isEmpty = false := by
  cases l with
  | nil => simp at h
  | cons c l => rfl

set_option maxHeartbeats 400000 in
theorem rhas_any {w : World} {r lb : Nat} {fs : List (Bool × List UInt8)} (h : RefAt w r lb fs) (f : Int) :
    Calls Try.prog 16 #[.pointer (some ⟨r, 0, none⟩), .int .i64 f] w fun e w' => e = .returned (.bool (hasB fs f)) ∧ w = w' := by
  obtain ⟨cap, hp, hcap⟩ := h.str
  have hlen := h.len
  have c0 := hp.cell (o := 0) rfl
  by_cases h0 : 0 ≤ f
  · obtain ⟨k, rfl⟩ := Int.eq_ofNat_of_zero_le h0
    by_cases hk : k < fs.length
    · obtain ⟨⟨b, l⟩, hg⟩ : ∃ g, fs[k]? = some g := ⟨_, List.getElem?_eq_getElem hk⟩
      have hu := h.cell hg
      have hl := h.wf _ (List.mem_of_getElem? hg)
      have hr : hasB fs k = b := by simp [hasB, hg]
      have Hr := hid hr
      clear hcap hp h0 hr hg
      cases b
      · rw [refS_false] at hu
        clear hl
        go_enter Try.func16, Try.ntmps16
        go_wp2
        go_ret
        exact ⟨by rw [Hr.out]; rfl, rfl⟩
      · rw [refS_true] at hu
        have hs := str_ne hl
        clear hl
        go_enter Try.func16, Try.ntmps16
        go_wp2
        go_ret
        exact ⟨by rw [Hr.out]; rfl, rfl⟩
    · have hr : hasB fs k = false := by simp [hasB, List.getElem?_eq_none (by omega : fs.length ≤ k)]
      have Hr := hid hr
      clear hcap hp h0 hr
      go_enter Try.func16, Try.ntmps16
      go_wp2
      go_ret
      exact ⟨by rw [Hr.out]; rfl, rfl⟩
  · have hr : hasB fs f = false := by simp [hasB, h0]
    have Hr := hid hr
    clear hcap hp hr
    go_enter Try.func16, Try.ntmps16
    go_wp2
    go_ret
    exact ⟨by rw [Hr.out]; rfl, rfl⟩

theorem count_take {fs : List (Bool × List UInt8)} {k : Nat} {g : Bool × List UInt8} (h : fs[k]? = some g) : count (fs.take (k + 1)) = count (fs.take k) + g.1.toNat := by
  have hk := (List.getElem?_eq_some_iff.1 h).1
  rw [List.take_succ_eq_append_getElem hk, (List.getElem?_eq_some_iff.1 h).2]
  simp only [count, List.filter_append, List.length_append]
  cases hg : g.1 <;> simp [hg]

set_option maxHeartbeats 400000 in
theorem rused_any {w : World} {r lb : Nat} {fs : List (Bool × List UInt8)} (h : RefAt w r lb fs) :
    Calls Try.prog 14 #[.pointer (some ⟨r, 0, none⟩)] w fun e w' => e = .returned (.int .i64 (count fs)) ∧ w = w' := by
  obtain ⟨cap, hp, hcap⟩ := h.str
  have hlen := h.len
  have c0 := hp.cell (o := 0) rfl
  clear hp hcap
  go_enter Try.func14, Try.ntmps14
  go_wp2
  go_loop [3, 4] (fun n i => ∃ k : Nat, i = .int .i64 k ∧ k ≤ fs.length ∧ n = .int .i64 (count (fs.take k))) (fun _ i => fs.length - (intOf i).toNat)
  case atStart => exact ⟨0, rfl, by omega, rfl⟩
  case round =>
    obtain ⟨k, rfl, hk, rfl⟩ := hrel
    by_cases hlt : k < fs.length
    · obtain ⟨⟨b, l⟩, hg⟩ : ∃ g, fs[k]? = some g := ⟨_, List.getElem?_eq_getElem hlt⟩
      have hu := h.cell hg
      have hl := h.wf _ (List.mem_of_getElem? hg)
      have Hc := hid (count_take hg)
      have hb := count_le (fs.take k)
      have hbl : (fs.take k).length ≤ 4096 := by simp; omega
      clear hg
      cases b
      · rw [refS_false] at hu
        clear hl
        go_wp2
        exact ⟨⟨k + 1, by simp, by omega, by rw [Hc.out]; rfl⟩, by simp [intOf]; omega⟩
      · rw [refS_true] at hu
        have hs := str_ne hl
        clear hl
        go_wp2
        exact ⟨⟨k + 1, by simp, by omega, by rw [Hc.out]; rfl⟩, by simp [intOf]; omega⟩
    · obtain rfl : k = fs.length := by omega
      rw [List.take_length]
      go_wp2
      go_ret
      exact ⟨rfl, rfl⟩

set_option maxHeartbeats 400000 in
theorem rpage_any {w : World} {r lb : Nat} {fs : List (Bool × List UInt8)} (h : RefAt w r lb fs) (f : Int) :
    Calls Try.prog 20 #[.pointer (some ⟨r, 0, none⟩), .int .i64 f] w fun e w' => e = .returned (.string ⟨(pageB fs f).toArray⟩) ∧ w = w' := by
  obtain ⟨cap, hp, hcap⟩ := h.str
  have hlen := h.len
  have c0 := hp.cell (o := 0) rfl
  have Hhas := hid (rhas_any h f)
  clear hp hcap
  cases hh : hasB fs f with
  | false =>
    have Hr := hid (show pageB fs f = [] by simp [pageB, hh])
    go_enter Try.func20, Try.ntmps20
    go_wp2_with (go_at_call 16; refine Hhas.out.mono ?_; rintro e w' ⟨rfl, rfl⟩)
    go_ret
    exact ⟨by rw [Hr.out]; rfl, rfl⟩
  | true =>
    obtain ⟨k, rfl, hk, l, hl⟩ := hasB_true hh
    have hu := h.cell hl
    rw [refS_true] at hu
    have Hr := hid (show pageB fs k = l by simp [pageB, hh, hl])
    clear hl
    go_enter Try.func20, Try.ntmps20
    go_wp2_with (go_at_call 16; refine Hhas.out.mono ?_; rintro e w' ⟨rfl, rfl⟩)
    go_ret
    exact ⟨by rw [Hr.out]; rfl, rfl⟩

set_option maxHeartbeats 400000 in
theorem rbyte_any {w : World} {r lb : Nat} {fs : List (Bool × List UInt8)} (h : RefAt w r lb fs) (f x : Int) :
    Calls Try.prog 18 #[.pointer (some ⟨r, 0, none⟩), .int .i64 f, .int .i64 x] w fun e w' => e = .returned (.int .u8 ((byteB fs f x).toNat : Int)) ∧ w = w' := by
  obtain ⟨cap, hp, hcap⟩ := h.str
  have hlen := h.len
  have c0 := hp.cell (o := 0) rfl
  have Hhas := hid (rhas_any h f)
  clear hp hcap
  cases hh : hasB fs f with
  | false =>
    have Hr := hid (show byteB fs f x = 0 by simp [byteB, hh])
    go_enter Try.func18, Try.ntmps18
    go_wp2_with (go_at_call 16; refine Hhas.out.mono ?_; rintro e w' ⟨rfl, rfl⟩)
    go_ret
    exact ⟨by rw [Hr.out]; rfl, rfl⟩
  | true =>
    obtain ⟨k, rfl, hk, l, hl⟩ := hasB_true hh
    have hl64 : l.length = 64 := h.wf _ (List.mem_of_getElem? hl)
    have hu := h.cell hl
    rw [refS_true] at hu
    by_cases h0 : 0 ≤ x
    · obtain ⟨j, rfl⟩ := Int.eq_ofNat_of_zero_le h0
      by_cases hj : j < 64
      · have Hr := hid (show byteB fs k j = l.getD j 0 by simp [byteB, hh, hl])
        have hj2 : j < l.length := by omega
        clear h0 hl
        go_enter Try.func18, Try.ntmps18
        go_wp2_with (go_at_call 16; refine Hhas.out.mono ?_; rintro e w' ⟨rfl, rfl⟩)
        go_ret
        refine ⟨?_, rfl⟩
        rw [Hr.out]
        simp [hj2]
        rfl
      · have Hr := hid (show byteB fs k j = 0 by simp [byteB, hh, hl, List.getElem?_eq_none (by omega : l.length ≤ j)])
        clear h0 hl hl64
        go_enter Try.func18, Try.ntmps18
        go_wp2_with (go_at_call 16; refine Hhas.out.mono ?_; rintro e w' ⟨rfl, rfl⟩)
        go_ret
        exact ⟨by rw [Hr.out]; rfl, rfl⟩
    · have Hr := hid (show byteB fs k x = 0 by simp [byteB, hh, h0])
      clear hl hl64
      go_enter Try.func18, Try.ntmps18
      go_wp2_with (go_at_call 16; refine Hhas.out.mono ?_; rintro e w' ⟨rfl, rfl⟩)
      go_ret
      exact ⟨by rw [Hr.out]; rfl, rfl⟩

theorem refV_set {fs : List (Bool × List UInt8)} (k : Nat) (g : Bool × List UInt8) : refV (fs.set k g) = (refV fs).set k (.string ⟨(refS g).toArray⟩) := by simp [refV, List.map_set]

set_option maxHeartbeats 400000 in
theorem rfree_any {w : World} {r lb : Nat} {fs : List (Bool × List UInt8)} (h : RefAt w r lb fs) (f : Int) :
    Calls Try.prog 31 #[.pointer (some ⟨r, 0, none⟩), .int .i64 f] w (LeftR r lb w (.int .i64 (freeE fs f)) (freeS fs f)) := by
  obtain ⟨cap, hp, hcap⟩ := h.str
  have hlen := h.len
  have c0 := hp.cell (o := 0) rfl
  have Hhas := hid (rhas_any h f)
  have HP := hid hp
  clear hp
  cases hh : hasB fs f with
  | false =>
    have Hr := hid (show freeE fs f = 4 ∧ freeS fs f = fs by simp [freeE, freeS, hh])
    go_enter Try.func31, Try.ntmps31
    go_wp2_with (go_at_call 16; refine Hhas.out.mono ?_; rintro e w' ⟨rfl, rfl⟩)
    go_ret
    exact ⟨by rw [Hr.out.1]; rfl, by rw [Hr.out.2]; exact h, Only.refl _ _⟩
  | true =>
    obtain ⟨k, rfl, hk, l, hl⟩ := hasB_true hh
    have hl64 : l.length = 64 := h.wf _ (List.mem_of_getElem? hl)
    have hu := h.cell hl
    have fu := h.row.free k (by simp [refV]; exact hk)
    have Hr := hid (show freeE fs k = 0 ∧ freeS fs k = fs.set k (false, l) by simp [freeE, freeS, hh, hl])
    have H64 := hid hl64
    clear hl hl64
    go_enter Try.func31, Try.ntmps31
    go_wp2_with (go_at_call 16; refine Hhas.out.mono ?_; rintro e w' ⟨rfl, rfl⟩)
    go_ret
    refine ⟨by rw [Hr.out.1]; rfl, ?_, (Only.refl _ _).setCell (.inl (by simp)) _⟩
    rw [Hr.out.2]
    refine ⟨⟨cap, by rw [List.length_set]; exact HP.out.other h.ne _, by simpa using hcap⟩, ?_, h.ne, h.wf.set H64.out, by simpa using hlen⟩
    rw [refV_set]
    exact h.row.set k _

def MadeR (n : Nat) (w : World) (e : Ending) (w' : World) : Prop :=
  ∃ p bb, e = .returned (.pointer (some ⟨p, 0, none⟩)) ∧ RefAt w' p bb (List.replicate n (false, zeros)) ∧ Only [] w w' ∧ w.heap.size ≤ p ∧ w.heap.size ≤ bb

set_option maxHeartbeats 400000 in
theorem rnew_any (w : World) (n : Int) (m : Nat) (hm : (m : Int) = min (max n 0) 4096) :
    Calls Try.prog 10 #[.int .i64 n] w (MadeR m w) := by
  have h1 : m ≤ 4096 := by omega
  have Hm := hid hm
  clear hm
  have hcase : n < 0 ∨ 4096 < n ∨ (0 ≤ n ∧ n ≤ 4096) := by omega
  rcases hcase with hc | hc | ⟨hc, hd⟩
  all_goals
    go_enter Try.func10, Try.ntmps10
    go_wp2_with ((with_reducible apply wpList_does (o := ⟨some 6, _, _, _, _, _⟩) rfl); (refine does_make 39 _ _ rfl rfl rfl (n := m) (m := m) (by have := Hm.out; omega) (by have := Hm.out; omega) (Nat.le_refl _) Try.underlying39 (z := .string ⟨#[]⟩) (size := 1) (bytes := 16) (by kernel_rfl) rfl (by omega) (by omega)); rintro v w' ⟨rfl, hb, ho, hs⟩; have HB := hid hb; have HS := hid hs; clear hb hs)
    go_ret
    have hs := HS.out
    refine ⟨w'.heap.size, w.heap.size, rfl, ⟨⟨m, ?_, by simp⟩, ?_, by omega, ?_, by simpa using h1⟩, ho.alloc _, by omega, Nat.le_refl _⟩
    · have := Blk.new w' [.slice (some ⟨w.heap.size, 0, none⟩) m m] 41
      simpa using this
    · have hb : Blk w' w.heap.size (List.replicate m [Value.string ⟨#[]⟩]).flatten := HB.out
      rw [flat1] at hb
      have e : refV (List.replicate m (false, zeros)) = List.replicate m (Value.string ⟨#[]⟩) := by simp [refV, refS]
      rw [e]; exact hb.alloc _
    · intro f hf; rw [List.mem_replicate] at hf; rw [hf.2]; exact zeros_length
end Go.Proofs.Ytpcchkkpligemaa
