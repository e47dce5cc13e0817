/- Package frames: what each of its functions does to a memory, said of a list of frames (used, bytes). Conditions: the memory lies at p (struct) and bb (frames). -/
import Derived.Test.YtpcchkkpligemaaMem
namespace Go.Proofs.Ytpcchkkpligemaa
open Go.RowKit M

/-- a frame as cells -/
def frameV (f : Bool × List UInt8) : List Value := .bool f.1 :: bytesV f.2
def framesV (fs : List (Bool × List UInt8)) : List Value := (fs.map frameV).flatten

def Wf (fs : List (Bool × List UInt8)) : Prop := ∀ f ∈ fs, f.2.length = 64

theorem framesV_length {fs : List (Bool × List UInt8)} (h : Wf fs) : (framesV fs).length = fs.length * 65 := by
  induction fs with
  | nil => rfl
  | cons f fs ih =>
    have h1 : f.2.length = 64 := h f (by simp)
    have h2 := ih (fun g hg => h g (by simp [hg]))
    simp only [framesV, List.map_cons, List.flatten_cons, List.length_append, List.length_cons] at h2 ⊢
    rw [h2]
    simp [frameV, bytesV, h1]; omega

theorem framesV_get {fs : List (Bool × List UInt8)} (h : Wf fs) {i : Nat} {f : Bool × List UInt8} (hi : fs[i]? = some f) {j : Nat} (hj : j < 65) : (framesV fs)[i * 65 + j]? = (frameV f)[j]? := by
  induction fs generalizing i with
  | nil => simp at hi
  | cons g fs ih =>
    have hg : (frameV g).length = 65 := by simp [frameV, bytesV, h g (by simp)]
    have hw : Wf fs := fun q hq => h q (by simp [hq])
    simp only [framesV, List.map_cons, List.flatten_cons]
    cases i with
    | zero => simp at hi; subst hi; rw [List.getElem?_append_left (by omega)]; simp
    | succ i =>
      simp at hi
      rw [List.getElem?_append_right (by omega), hg]
      have := ih hw hi
      simp only [framesV] at this
      rw [← this]; congr 1; omega

/-- cells of frame i replaced -/
theorem framesV_splice {fs : List (Bool × List UInt8)} (h : Wf fs) {i o : Nat} {f g : Bool × List UInt8} (hi : fs[i]? = some f) {vs : List Value} (hv : o + vs.length ≤ 65)
    (hg : splice (frameV f) o vs = frameV g) (sp : List Value) : splice (framesV fs ++ sp) (i * 65 + o) vs = framesV (fs.set i g) ++ sp := by
  induction fs generalizing i with
  | nil => simp at hi
  | cons q fs ih =>
    have hq : (frameV q).length = 65 := by simp [frameV, bytesV, h q (by simp)]
    have hw : Wf fs := fun q hq => h q (by simp [hq])
    simp only [framesV, List.map_cons, List.flatten_cons, List.append_assoc]
    cases i with
    | zero =>
      simp at hi; subst hi
      rw [Nat.zero_mul, Nat.zero_add, splice_append_left (by omega), hg]
      simp
    | succ i =>
      simp at hi
      have := ih hw hi
      simp only [framesV] at this
      rw [show (i + 1) * 65 + o = (frameV q).length + (i * 65 + o) by rw [hq]; omega, splice_append_right, this]
      simp

theorem Wf.set {fs : List (Bool × List UInt8)} (h : Wf fs) {i : Nat} {g : Bool × List UInt8} (hg : g.2.length = 64) : Wf (fs.set i g) := by
  intro f hf
  rcases List.mem_or_eq_of_mem_set hf with h1 | h1
  · exact h f h1
  · rw [h1]; exact hg

def count (fs : List (Bool × List UInt8)) : Nat := (fs.filter (·.1)).length

/-- a memory of frames: the struct at p, the frames at bb -/
structure FramesAt (w : World) (p bb : Nat) (fs : List (Bool × List UInt8)) : Prop where
  str : ∃ cap, Blk w p [.slice (some ⟨bb, 0, none⟩) fs.length cap, .int .i64 (count fs)] ∧ fs.length ≤ cap
  row : ∃ sp, Blk w bb (framesV fs ++ sp)
  ne : p ≠ bb
  wf : Wf fs
  len : fs.length ≤ 4096

def hasB (fs : List (Bool × List UInt8)) (f : Int) : Bool := decide (0 ≤ f) && ((fs[f.toNat]?).map (·.1)).getD false

theorem hasB_true {fs : List (Bool × List UInt8)} {f : Int} (h : hasB fs f = true) : ∃ k : Nat, f = k ∧ k < fs.length ∧ ∃ l, fs[k]? = some (true, l) := by
  simp only [hasB, Bool.and_eq_true, decide_eq_true_eq] at h
  obtain ⟨h0, h1⟩ := h
  refine ⟨f.toNat, by omega, ?_⟩
  cases hq : fs[f.toNat]? with
  | none => simp [hq] at h1
  | some g =>
    simp [hq] at h1
    exact ⟨(List.getElem?_eq_some_iff.1 hq).1, g.2, by rw [← h1]⟩

theorem FramesAt.used {w : World} {p bb : Nat} {fs : List (Bool × List UInt8)} (h : FramesAt w p bb fs) {k : Nat} {g : Bool × List UInt8} (hk : fs[k]? = some g) : w.cell? ⟨bb, k * 65, none⟩ = some (.bool g.1) := by
  obtain ⟨sp, hb⟩ := h.row
  have hlt := (List.getElem?_eq_some_iff.1 hk).1
  have hl := framesV_length h.wf
  refine hb.cell ?_
  rw [List.getElem?_append_left (by rw [hl]; omega)]
  have := framesV_get h.wf hk (j := 0) (by omega)
  rw [Nat.add_zero] at this
  rw [this]; rfl

theorem FramesAt.byte {w : World} {p bb : Nat} {fs : List (Bool × List UInt8)} (h : FramesAt w p bb fs) {k : Nat} {g : Bool × List UInt8} (hk : fs[k]? = some g) {j : Nat} {c : UInt8} (hj : g.2[j]? = some c) :
    w.cell? ⟨bb, k * 65 + 1 + j, none⟩ = some (.int .u8 (c.toNat : Int)) := by
  obtain ⟨sp, hb⟩ := h.row
  have hlt := (List.getElem?_eq_some_iff.1 hk).1
  have hl := framesV_length h.wf
  have hj2 := (List.getElem?_eq_some_iff.1 hj).1
  have hg := h.wf g (List.mem_of_getElem? hk)
  refine hb.cell ?_
  rw [List.getElem?_append_left (by rw [hl]; omega), Nat.add_assoc, framesV_get h.wf hk (j := 1 + j) (by omega)]
  simp [frameV, Nat.add_comm 1 j, bytesV_get, hj]

set_option maxHeartbeats 400000 in
theorem has_any {w : World} {p bb : Nat} {fs : List (Bool × List UInt8)} (h : FramesAt w p bb fs) (f : Int) :
    Calls Try.prog 15 #[.pointer (some ⟨p, 0, none⟩), .int .i64 f] w fun e w' => e = .returned (.bool (hasB fs f)) ∧ w = w' := by
  obtain ⟨cap, hp, hcap⟩ := h.str
  have hlen := h.len
  have c0 := hp.cell (o := 0) rfl
  by_cases h0 : 0 ≤ f
  · obtain ⟨k, rfl⟩ := Int.eq_ofNat_of_zero_le h0
    by_cases hk : k < fs.length
    · have hu := h.used (List.getElem?_eq_getElem hk)
      have hr : hasB fs k = fs[k].1 := by simp [hasB, hk]
      clear hcap hp h0
      go_enter Try.func15, Try.ntmps15
      go_wp2
      go_ret
      exact ⟨by first | rfl | (rw [hr]; rfl), rfl⟩
    · have hr : hasB fs k = false := by simp [hasB, List.getElem?_eq_none (by omega : fs.length ≤ k)]
      clear hcap hp h0
      go_enter Try.func15, Try.ntmps15
      go_wp2
      go_ret
      exact ⟨by first | rfl | (rw [hr]; rfl), rfl⟩
  · have hr : hasB fs f = false := by simp [hasB, h0]
    clear hcap hp
    go_enter Try.func15, Try.ntmps15
    go_wp2
    go_ret
    exact ⟨rfl, rfl⟩

set_option maxHeartbeats 400000 in
theorem used_any {w : World} {p bb : Nat} {fs : List (Bool × List UInt8)} (h : FramesAt w p bb fs) :
    Calls Try.prog 13 #[.pointer (some ⟨p, 0, none⟩)] w fun e w' => e = .returned (.int .i64 (count fs)) ∧ w = w' := by
  obtain ⟨cap, hp, hcap⟩ := h.str
  have c1 := hp.cell (o := 1) rfl
  clear hcap hp
  go_enter Try.func13, Try.ntmps13
  go_wp2
  go_ret
  exact ⟨rfl, rfl⟩

set_option maxHeartbeats 400000 in
theorem size_any {w : World} {p bb : Nat} {fs : List (Bool × List UInt8)} (h : FramesAt w p bb fs) :
    Calls Try.prog 21 #[.pointer (some ⟨p, 0, none⟩)] w fun e w' => e = .returned (.int .i64 (fs.length : Nat)) ∧ w = w' := by
  obtain ⟨cap, hp, hcap⟩ := h.str
  have c0 := hp.cell (o := 0) rfl
  clear hcap hp
  go_enter Try.func21, Try.ntmps21
  go_wp2
  go_ret
  exact ⟨rfl, rfl⟩

def byteB (fs : List (Bool × List UInt8)) (f at_ : Int) : UInt8 := if hasB fs f && decide (0 ≤ at_) then ((fs[f.toNat]?).bind (fun g => g.2[at_.toNat]?)).getD 0 else 0

set_option maxHeartbeats 400000 in
theorem byte_any {w : World} {p bb : Nat} {fs : List (Bool × List UInt8)} (h : FramesAt w p bb fs) (f x : Int) :
    Calls Try.prog 17 #[.pointer (some ⟨p, 0, none⟩), .int .i64 f, .int .i64 x] w fun e w' => e = .returned (.int .u8 ((byteB fs f x).toNat : Int)) ∧ w = w' := by
  obtain ⟨cap, hp, hcap⟩ := h.str
  have c0 := hp.cell (o := 0) rfl
  have hlen := h.len
  have hhas := has_any h f
  have Hhas := hid hhas
  clear hhas hcap hp
  cases hh : hasB fs f with
  | false =>
    have hr : byteB fs f x = 0 := by simp [byteB, hh]
    have Hr := hid hr
    clear hr
    go_enter Try.func17, Try.ntmps17
    go_wp2_with (go_at_call 15; refine Hhas.out.mono ?_; rintro e w' ⟨rfl, rfl⟩)
    go_ret
    exact ⟨by rw [Hr.out]; rfl, rfl⟩
  | true =>
    obtain ⟨k, rfl, hk, l, hl⟩ := hasB_true hh
    have hl64 : l.length = 64 := h.wf _ (List.mem_of_getElem? hl)
    by_cases h0 : 0 ≤ x
    · obtain ⟨j, rfl⟩ := Int.eq_ofNat_of_zero_le h0
      by_cases hj : j < 64
      · obtain ⟨c, hc⟩ : ∃ c, l[j]? = some c := ⟨_, List.getElem?_eq_getElem (by omega)⟩
        have hb := h.byte hl (j := j) hc
        have hr : byteB fs k j = c := by simp [byteB, hh, hl, hc]
        have Hr := hid hr
        clear hr h0 hl hc hl64
        go_enter Try.func17, Try.ntmps17
        go_wp2_with (go_at_call 15; refine Hhas.out.mono ?_; rintro e w' ⟨rfl, rfl⟩)
        go_ret
        exact ⟨by rw [Hr.out]; rfl, rfl⟩
      · have hr : byteB fs k j = 0 := by simp [byteB, hh, hl, List.getElem?_eq_none (by omega : l.length ≤ j)]
        have Hr := hid hr
        clear hr h0 hl hl64
        go_enter Try.func17, Try.ntmps17
        go_wp2_with (go_at_call 15; refine Hhas.out.mono ?_; rintro e w' ⟨rfl, rfl⟩)
        go_ret
        exact ⟨by rw [Hr.out]; rfl, rfl⟩
    · have hr : byteB fs k x = 0 := by simp [byteB, hh, h0]
      have Hr := hid hr
      clear hr hl hl64
      go_enter Try.func17, Try.ntmps17
      go_wp2_with (go_at_call 15; refine Hhas.out.mono ?_; rintro e w' ⟨rfl, rfl⟩)
      go_ret
      exact ⟨by rw [Hr.out]; rfl, rfl⟩

def pageB (fs : List (Bool × List UInt8)) (f : Int) : List UInt8 := if hasB fs f then ((fs[f.toNat]?).map (·.2)).getD [] else []

set_option maxHeartbeats 400000 in
theorem page_any {w : World} {p bb : Nat} {fs : List (Bool × List UInt8)} (h : FramesAt w p bb fs) (f : Int) :
    Calls Try.prog 19 #[.pointer (some ⟨p, 0, none⟩), .int .i64 f] w fun e w' => e = .returned (.string ⟨(pageB fs f).toArray⟩) ∧ w = w' := by
  obtain ⟨cap, hp, hcap⟩ := h.str
  have c0 := hp.cell (o := 0) rfl
  have hlen := h.len
  have hhas := has_any h f
  have Hhas := hid hhas
  clear hhas hcap hp
  cases hh : hasB fs f with
  | false =>
    have hr : pageB fs f = [] := by simp [pageB, hh]
    have Hr := hid hr
    clear hr
    go_enter Try.func19, Try.ntmps19
    go_wp2_with (go_at_call 15; refine Hhas.out.mono ?_; rintro e w' ⟨rfl, rfl⟩)
    go_ret
    exact ⟨by rw [Hr.out]; rfl, rfl⟩
  | true =>
    obtain ⟨k, rfl, hk, l, hl⟩ := hasB_true hh
    have hl64 : l.length = 64 := h.wf _ (List.mem_of_getElem? hl)
    obtain ⟨sp, hrow⟩ := h.row
    have hcut : ((framesV fs ++ sp).drop (k * 65 + 1)).take 64 = bytesV l := by
      apply List.ext_getElem?
      intro j
      rw [List.getElem?_take]
      by_cases hj : j < 64
      · rw [if_pos hj, List.getElem?_drop, List.getElem?_append_left (by rw [framesV_length h.wf]; omega), Nat.add_assoc, framesV_get h.wf hl (j := 1 + j) (by omega), Nat.add_comm 1 j]
        rfl
      · rw [if_neg hj, List.getElem?_eq_none (by rw [bytesV_length]; omega)]
    have Hcut := hid hcut
    have hr : pageB fs k = l := by simp [pageB, hh, hl]
    have Hr := hid hr
    have H64 := hid hl64
    clear hr hl hl64 hcut
    go_enter Try.func19, Try.ntmps19
    go_wp2_with (first | (go_at_call 15; refine Hhas.out.mono ?_; rintro e w' ⟨rfl, rfl⟩) | (with_reducible refine wpList_does (o := ⟨some 17, _, _, _, _, _⟩) rfl (does_string 46 9 _ rfl rfl hrow Try.underlying46 Try.underlying5 Try.underlying9 Hcut.out H64.out) ?_; rintro v w' ⟨rfl, rfl⟩))
    go_ret
    exact ⟨by rw [Hr.out]; rfl, rfl⟩

theorem FramesAt.congr {w w' : World} {p bb : Nat} {fs : List (Bool × List UInt8)} (h : FramesAt w p bb fs) (h1 : w'.heap[p]? = w.heap[p]?) (h2 : w'.heap[bb]? = w.heap[bb]?) : FramesAt w' p bb fs := by
  obtain ⟨⟨cap, hp, hc⟩, ⟨sp, hb⟩, hne, hwf, hl⟩ := h
  exact ⟨⟨cap, hp.congr h1, hc⟩, ⟨sp, hb.congr h2⟩, hne, hwf, hl⟩

theorem FramesAt.only {S : List Nat} {w w' : World} {p bb : Nat} {fs : List (Bool × List UInt8)} (h : FramesAt w p bb fs) (ho : Only S w w') (h1 : p ∉ S) (h2 : bb ∉ S) : FramesAt w' p bb fs := by
  have a1 : p < w.heap.size := by obtain ⟨⟨cap, hp, hc⟩, _⟩ := h; exact hp.lt
  have a2 : bb < w.heap.size := by obtain ⟨_, ⟨sp, hb⟩, _⟩ := h; exact hb.lt
  exact h.congr (ho.block p a1 h1) (ho.block bb a2 h2)

theorem FramesAt.lt1 {w : World} {p bb : Nat} {fs : List (Bool × List UInt8)} (h : FramesAt w p bb fs) : p < w.heap.size := by obtain ⟨⟨cap, hp, hc⟩, _⟩ := h; exact hp.lt
theorem FramesAt.lt2 {w : World} {p bb : Nat} {fs : List (Bool × List UInt8)} (h : FramesAt w p bb fs) : bb < w.heap.size := by obtain ⟨_, ⟨sp, hb⟩, _⟩ := h; exact hb.lt
theorem FramesAt.lts {w : World} {p bb : Nat} {fs : List (Bool × List UInt8)} (h : FramesAt w p bb fs) : ∀ k ∈ [p, bb], k < w.heap.size := by
  intro k hk
  simp only [List.mem_cons, List.not_mem_nil, or_false] at hk
  rcases hk with rfl | rfl
  · exact h.lt1
  · exact h.lt2
/-- a memory as a thing -/
def framesA (p bb : Nat) (fs : List (Bool × List UInt8)) : Ast := ⟨[p, bb], fun w => FramesAt w p bb fs, fun _ _ hk h => h.congr (hk p (by simp)) (hk bb (by simp))⟩

theorem count_set {fs : List (Bool × List UInt8)} {k : Nat} {g h : Bool × List UInt8} (hk : fs[k]? = some g) : count (fs.set k h) + g.1.toNat = count fs + h.1.toNat := by
  induction fs generalizing k with
  | nil => simp at hk
  | cons q fs ih =>
    cases k with
    | zero => simp at hk; subst hk; cases hq : q.1 <;> cases hh : h.1 <;> simp [count, hq, hh]
    | succ k =>
      simp at hk
      have := ih hk
      simp only [count, List.set_cons_succ, List.filter_cons] at this ⊢
      split <;> (try simp only [List.length_cons]) <;> omega

theorem count_le (fs : List (Bool × List UInt8)) : count fs ≤ fs.length := List.length_filter_le _ _

def freeS (fs : List (Bool × List UInt8)) (f : Int) : List (Bool × List UInt8) := if hasB fs f then fs.set f.toNat (false, ((fs[f.toNat]?).map (·.2)).getD []) else fs
def freeE (fs : List (Bool × List UInt8)) (f : Int) : Int := if hasB fs f then 0 else 4

/-- what a mutating call leaves -/
def Left (p bb : Nat) (w : World) (r : Value) (fs' : List (Bool × List UInt8)) (e : Ending) (w' : World) : Prop := e = .returned r ∧ FramesAt w' p bb fs' ∧ Only [p, bb] w w'

set_option maxHeartbeats 400000 in
theorem free_any {w : World} {p bb : Nat} {fs : List (Bool × List UInt8)} (h : FramesAt w p bb fs) (f : Int) :
    Calls Try.prog 27 #[.pointer (some ⟨p, 0, none⟩), .int .i64 f] w (Left p bb w (.int .i64 (freeE fs f)) (freeS fs f)) := by
  obtain ⟨cap, hp, hcap⟩ := h.str
  have c0 := hp.cell (o := 0) rfl
  have c1 := hp.cell (o := 1) rfl
  have f1 := hp.free 1 (by simp)
  have hlen := h.len
  have hne := h.ne
  have hne' : bb ≠ p := fun e => hne e.symm
  have hhas := has_any h f
  have Hhas := hid hhas
  have HP := hid hp
  clear hhas hcap hp
  cases hh : hasB fs f with
  | false =>
    have hr : freeE fs f = 4 ∧ freeS fs f = fs := by simp [freeE, freeS, hh]
    have Hr := hid hr
    clear hr
    go_enter Try.func27, Try.ntmps27
    go_wp2_with (go_at_call 15; refine Hhas.out.mono ?_; rintro e w' ⟨rfl, rfl⟩)
    go_ret
    exact ⟨by rw [Hr.out.1]; rfl, by rw [Hr.out.2]; exact h, Only.refl _ _⟩
  | true =>
    obtain ⟨k, rfl, hk, l, hl⟩ := hasB_true hh
    have hl64 : l.length = 64 := h.wf _ (List.mem_of_getElem? hl)
    obtain ⟨sp, hrow⟩ := h.row
    have hu := h.used hl
    have hrl : k * 65 < (framesV fs ++ sp).length := by rw [List.length_append, framesV_length h.wf]; omega
    have fu := hrow.free (k * 65) hrl
    have hcnt := count_set (h := (false, l)) hl
    have hcl := count_le fs
    simp at hcnt
    have hE : freeE fs k = 0 := by simp [freeE, hh]
    have hS : freeS fs k = fs.set k (false, l) := by simp [freeS, hh, hl]
    have hpos : 1 ≤ count fs := by omega
    have hbs : framesV (fs.set k (false, l)) ++ sp = splice (framesV fs ++ sp) (k * 65) [.bool false] := by
      rw [← framesV_splice h.wf hl (o := 0) (vs := [.bool false]) (by simp) (g := (false, l)) (by simp [splice, frameV]) sp]; simp
    have HH := hid (show Int.ofNat (count (fs.set k (false, l))) = count fs - 1 from by simp; omega)
    have Hl := hid hl
    have HE := hid hE
    have HS := hid hS
    have H64 := hid hl64
    have Hbs := hid hbs
    clear hE hS hcnt hl hl64 hbs
    go_enter Try.func27, Try.ntmps27
    go_wp2_with (go_at_call 15; refine Hhas.out.mono ?_; rintro e w' ⟨rfl, rfl⟩)
    go_ret
    refine ⟨by rw [HE.out]; rfl, ?_, ((Only.refl _ _).setCell (.inl (by simp)) _).setCell (.inl (by simp)) _⟩
    rw [HS.out]
    refine ⟨⟨cap, ?_, by simp; obtain ⟨cap', hp', hc'⟩ := h.str; have := hp'.cell (o := 0) rfl; rw [c0] at this; simp at this; omega⟩, ⟨sp, ?_⟩, hne, h.wf.set H64.out, by simpa using hlen⟩
    · have := (HP.out.other (a := ⟨bb, k * 65, none⟩) hne (.bool false)).set 1 (.int .i64 (count fs - 1))
      have e := HH.out
      simp only [Int.ofNat_eq_natCast] at e
      simpa [e] using this
    · rw [Hbs.out]
      exact (hrow.splice1 hrl (.bool false)).other (a := ⟨p, 1, none⟩) hne' _

def setE (fs : List (Bool × List UInt8)) (f x : Int) : Int := if hasB fs f then (if 0 ≤ x ∧ x < 64 then 0 else 3) else 4
def setS (fs : List (Bool × List UInt8)) (f x : Int) (b : UInt8) : List (Bool × List UInt8) :=
  if hasB fs f ∧ 0 ≤ x ∧ x < 64 then fs.set f.toNat (true, (((fs[f.toNat]?).map (·.2)).getD []).set x.toNat b) else fs

set_option maxHeartbeats 400000 in
theorem set_any {w : World} {p bb : Nat} {fs : List (Bool × List UInt8)} (h : FramesAt w p bb fs) (f x : Int) (b : UInt8) :
    Calls Try.prog 29 #[.pointer (some ⟨p, 0, none⟩), .int .i64 f, .int .i64 x, .int .u8 (b.toNat : Int)] w (Left p bb w (.int .i64 (setE fs f x)) (setS fs f x b)) := by
  obtain ⟨cap, hp, hcap⟩ := h.str
  have c0 := hp.cell (o := 0) rfl
  have hlen := h.len
  have hne := h.ne
  have hhas := has_any h f
  have Hhas := hid hhas
  have HP := hid hp
  clear hhas hp
  cases hh : hasB fs f with
  | false =>
    have hr : setE fs f x = 4 ∧ setS fs f x b = fs := by simp [setE, setS, hh]
    have Hr := hid hr
    clear hr
    go_enter Try.func29, Try.ntmps29
    go_wp2_with (go_at_call 15; refine Hhas.out.mono ?_; rintro e w' ⟨rfl, rfl⟩)
    go_ret
    exact ⟨by rw [Hr.out.1]; rfl, by rw [Hr.out.2]; exact h, Only.refl _ _⟩
  | true =>
    obtain ⟨k, rfl, hk, l, hl⟩ := hasB_true hh
    have hl64 : l.length = 64 := h.wf _ (List.mem_of_getElem? hl)
    by_cases hx : 0 ≤ x ∧ x < 64
    · obtain ⟨h0, h1⟩ := hx
      obtain ⟨j, rfl⟩ := Int.eq_ofNat_of_zero_le h0
      obtain ⟨sp, hrow⟩ := h.row
      obtain ⟨c, hc⟩ : ∃ c, l[j]? = some c := ⟨_, List.getElem?_eq_getElem (by omega)⟩
      have hu := h.byte hl hc
      have hrl : k * 65 + 1 + j < (framesV fs ++ sp).length := by rw [List.length_append, framesV_length h.wf]; omega
      have fu := hrow.free (k * 65 + 1 + j) hrl
      have hcnt := count_set (h := (true, l.set j b)) hl
      simp at hcnt
      have hE : setE fs k j = 0 := by simp only [setE, hh, if_true]; rw [if_pos ⟨h0, h1⟩]
      have hS : setS fs k j b = fs.set k (true, l.set j b) := by
        simp only [setS, hh]; rw [if_pos ⟨trivial, h0, h1⟩]; simp [hl]
      have hbs : framesV (fs.set k (true, l.set j b)) ++ sp = splice (framesV fs ++ sp) (k * 65 + 1 + j) [.int .u8 (b.toNat : Int)] := by
        rw [Nat.add_assoc, ← framesV_splice h.wf hl (o := 1 + j) (vs := [.int .u8 (b.toNat : Int)]) (by simp; omega) (g := (true, l.set j b)) ?_ sp]
        rw [← set_eq_splice (by simp [frameV, bytesV]; omega), Nat.add_comm 1 j]
        simp [frameV, bytesV, List.map_set]
      have Hl := hid hl
      have HE := hid hE
      have HS := hid hS
      have H64 := hid hl64
      have Hbs := hid hbs
      have Hcnt := hid hcnt
      have hj : j < 64 := by omega
      clear hE hS hcnt hl hl64 hbs hc
      go_enter Try.func29, Try.ntmps29
      go_wp2_with (go_at_call 15; refine Hhas.out.mono ?_; rintro e w' ⟨rfl, rfl⟩)
      go_ret
      refine ⟨by rw [HE.out]; rfl, ?_, (Only.refl _ _).setCell (.inl (by simp)) _⟩
      rw [HS.out]
      refine ⟨⟨cap, ?_, by simpa using hcap⟩, ⟨sp, ?_⟩, hne, h.wf.set (by simpa using H64.out), by simpa using hlen⟩
      · have e := Hcnt.out
        rw [e, List.length_set]
        exact HP.out.other hne _
      · rw [Hbs.out]
        exact hrow.splice1 hrl _
    · have hr : setE fs k x = 3 ∧ setS fs k x b = fs := by
        constructor
        · simp only [setE, hh, if_true]; rw [if_neg hx]
        · simp only [setS]; rw [if_neg (fun q => hx q.2)]
      have Hr := hid hr
      have hx' : x < 0 ∨ 64 ≤ x := by omega
      clear hr hl hl64 hx
      rcases hx' with hx | hx
      all_goals
        go_enter Try.func29, Try.ntmps29
        go_wp2_with (go_at_call 15; refine Hhas.out.mono ?_; rintro e w' ⟨rfl, rfl⟩)
        go_ret
        exact ⟨by rw [Hr.out.1]; rfl, by rw [Hr.out.2]; exact h, Only.refl _ _⟩

/-- a string cut or filled up to a page -/
def pad (s : List UInt8) : List UInt8 := s.take 64 ++ List.replicate (64 - s.length) 0
theorem pad_length (s : List UInt8) : (pad s).length = 64 := by simp [pad]; omega
def fillE (fs : List (Bool × List UInt8)) (f : Int) : Int := if hasB fs f then 0 else 4
def fillS (fs : List (Bool × List UInt8)) (f : Int) (s : List UInt8) : List (Bool × List UInt8) := if hasB fs f then fs.set f.toNat (true, pad s) else fs

theorem splice_twice {cs a b : List Value} {o : Nat} (h : o + a.length + b.length ≤ cs.length) : splice (splice cs o a) (o + a.length) b = splice cs o (a ++ b) := by
  apply List.ext_getElem?
  intro j
  have h1 : (splice cs o a).length = cs.length := splice_length (by omega)
  rw [splice_get (by rw [h1]; omega), splice_get (by omega), splice_get (by simp; omega)]
  simp only [List.length_append]
  by_cases h2 : o + a.length ≤ j ∧ j < o + a.length + b.length
  · rw [if_pos h2, if_pos (by omega), List.getElem?_append_right (by omega)]; congr 1; omega
  · rw [if_neg h2]
    by_cases h3 : o ≤ j ∧ j < o + a.length
    · rw [if_pos h3, if_pos (by omega), List.getElem?_append_left (by omega)]
    · rw [if_neg h3, if_neg (by omega)]

set_option maxHeartbeats 800000 in
theorem fill_any {w : World} {p bb : Nat} {fs : List (Bool × List UInt8)} (h : FramesAt w p bb fs) (f : Int) (s : ByteArray) (hs : s.size ≤ 9223372036854775807) :
    Calls Try.prog 26 #[.pointer (some ⟨p, 0, none⟩), .int .i64 f, .string s] w (Left p bb w (.int .i64 (fillE fs f)) (fillS fs f s.data.toList)) := by
  obtain ⟨cap, hp, hcap⟩ := h.str
  have c0 := hp.cell (o := 0) rfl
  have hlen := h.len
  have hne := h.ne
  have hhas := has_any h f
  have Hhas := hid hhas
  have HP := hid hp
  clear hhas hp
  cases hh : hasB fs f with
  | false =>
    have hr : fillE fs f = 4 ∧ fillS fs f s.data.toList = fs := by simp [fillE, fillS, hh]
    have Hr := hid hr
    clear hr
    go_enter Try.func26, Try.ntmps26
    go_wp2_with (go_at_call 15; refine Hhas.out.mono ?_; rintro e w' ⟨rfl, rfl⟩)
    go_ret
    exact ⟨by rw [Hr.out.1]; rfl, by rw [Hr.out.2]; exact h, Only.refl _ _⟩
  | true =>
    obtain ⟨k, rfl, hk, l, hl⟩ := hasB_true hh
    have hl64 : l.length = 64 := h.wf _ (List.mem_of_getElem? hl)
    obtain ⟨sp, hrow⟩ := h.row
    have hrl : k * 65 + 65 ≤ (framesV fs ++ sp).length := by rw [List.length_append, framesV_length h.wf]; omega
    have hcnt := count_set (h := (true, pad s.data.toList)) hl
    simp at hcnt
    have hE : fillE fs k = 0 := by simp [fillE, hh]
    have hS : fillS fs k s.data.toList = fs.set k (true, pad s.data.toList) := by simp [fillS, hh]
    have hbs : framesV (fs.set k (true, pad s.data.toList)) ++ sp = splice (framesV fs ++ sp) (k * 65 + 1) (bytesV (pad s.data.toList)) := by
      rw [← framesV_splice h.wf hl (o := 1) (vs := bytesV (pad s.data.toList)) (by rw [bytesV_length, pad_length]; omega) (g := (true, pad s.data.toList)) ?_ sp]
      simp only [splice, frameV, bytesV_length, pad_length]
      simp [bytesV, hl64]
    have hsz : s.data.toList.length = s.size := by simp
    have hpd : bytesV (pad s.data.toList) = bytesV (s.data.toList.take 64) ++ (List.replicate (64 - s.size) [Value.int .u8 0]).flatten := by
      simp only [pad, bytesV, List.map_append, hsz]
      congr 1
      generalize 64 - s.size = q
      induction q with
      | zero => rfl
      | succ q ih => simp only [List.replicate_succ, List.map_cons, List.flatten_cons, ih]; rfl
    have Hfin : Hid (∀ w', Blk w' bb (splice (framesV fs ++ sp) (k * 65 + 1) (bytesV (pad s.data.toList))) → Only [bb] w w' → Left p bb w (.int .i64 (fillE fs k)) (fillS fs k s.data.toList) (.returned (.int .i64 0)) w') := by
      intro w' hb' ho'
      refine ⟨by rw [hE], ?_, ho'.mono (by simp)⟩
      rw [hS]
      exact ⟨⟨cap, by rw [hcnt, List.length_set]; exact ho'.blk HP.out (by simpa using hne), by simpa using hcap⟩, ⟨sp, by rw [hbs]; exact hb'⟩, hne, h.wf.set (pad_length _), by simpa using hlen⟩
    have Hpd := hid hpd
    have hpl := HP.out.lt
    clear hE hS hcnt hl hl64 hbs hpd
    by_cases hs64 : s.size < 64
    · have hmin : min s.size 64 = s.size := by omega
      have htk : (bytesV (s.data.toList.take 64)).length = s.size := by simp [bytesV]; show min 64 s.size = s.size; omega
      have Htk := hid htk
      have Hsz := hid hsz
      clear htk hsz
      go_enter Try.func26, Try.ntmps26
      go_wp2_with (first
        | (go_at_call 15; refine Hhas.out.mono ?_; rintro e w' ⟨rfl, rfl⟩)
        | ((with_reducible refine wpList_does (o := ⟨some 21, _, _, _, _, _⟩) rfl (does_copy_str 46 9 _ _ rfl rfl rfl hrow Try.underlying46 (by kernel_rfl) (by omega)) ?_); rintro v w1 ⟨rfl, hb1, ho1, hs1⟩; have c1 := (ho1.cell (o := 0) hpl (by simpa using hne)).trans c0; have HO := hid ho1; have HB := hid hb1; clear ho1 hb1 hs1)
        | ((with_reducible refine wpList_does (o := ⟨some 30, _, _, _, _, _⟩) rfl (does_slice_arr 63 _ _ _ rfl rfl Try.underlying63 (sz := 1) (by kernel_rfl) s.size 64 (bnd_some rfl) bnd_none (by omega) (by omega)) ?_); rintro v w' ⟨rfl, rfl⟩; rw [if_neg (show ¬ 64 = s.size by omega)])
        | ((with_reducible apply wpList_does (o := ⟨none, .call ⟨.builtin .clear, _, _⟩, _, _, _, _⟩) rfl); (refine does_clear 46 _ rfl rfl HB.out Try.underlying46 (z := .int .u8 0) (by kernel_rfl) (by simp [Value.cells, Value.oneCell']) ?_); rw [splice_length (by rw [Htk.out]; omega)]; (first | (show _ + _ * 1 ≤ _; omega) | (refine Nat.le_trans ?_ hrl; simp)); rintro v w2 ⟨rfl, hb2, ho2, hs2⟩; have HO2 := hid ho2; have HB2 := hid hb2; clear ho2 hb2 hs2))
      go_ret
      refine Hfin.out _ ?_ (HO.out.trans1 HO2.out)
      have hb2 := HB2.out
      rw [Nat.mul_one] at hb2
      have e := splice_twice (cs := framesV fs ++ sp) (o := k * 65 + 1) (a := bytesV (List.take 64 s.data.toList)) (b := (List.replicate (64 - s.size) [Value.int .u8 0]).flatten) (by rw [Htk.out, flat_len]; show _ + _ + _ * 1 ≤ _; omega)
      rw [Htk.out] at e
      rw [Hpd.out, ← e]
      exact hb2
    · have hmin : min s.size 64 = 64 := by omega
      have htk : (bytesV (s.data.toList.take 64)).length = 64 := by simp [bytesV]; show min 64 s.size = 64; omega
      have Htk := hid htk
      have Hsz := hid hsz
      clear htk hsz
      go_enter Try.func26, Try.ntmps26
      go_wp2_with (first
        | (go_at_call 15; refine Hhas.out.mono ?_; rintro e w' ⟨rfl, rfl⟩)
        | ((with_reducible refine wpList_does (o := ⟨some 21, _, _, _, _, _⟩) rfl (does_copy_str 46 9 _ _ rfl rfl rfl hrow Try.underlying46 (by kernel_rfl) (by omega)) ?_); rintro v w1 ⟨rfl, hb1, ho1, hs1⟩; have c1 := (ho1.cell (o := 0) hpl (by simpa using hne)).trans c0; have HO := hid ho1; have HB := hid hb1; clear ho1 hb1 hs1)
        | ((with_reducible refine wpList_does (o := ⟨some 30, _, _, _, _, _⟩) rfl (does_slice_arr 63 _ _ _ rfl rfl Try.underlying63 (sz := 1) (by kernel_rfl) 64 64 (bnd_some rfl) bnd_none (by omega) (by omega)) ?_); rintro v w' ⟨rfl, rfl⟩)
        | ((with_reducible apply wpList_does (o := ⟨none, .call ⟨.builtin .clear, _, _⟩, _, _, _, _⟩) rfl); (refine does_clear 46 _ rfl rfl HB.out Try.underlying46 (z := .int .u8 0) (by kernel_rfl) (by simp [Value.cells, Value.oneCell']) ?_); rw [splice_length (by rw [Htk.out]; omega)]; (first | (show _ + _ * 1 ≤ _; omega) | (refine Nat.le_trans ?_ hrl; simp)); rintro v w2 ⟨rfl, hb2, ho2, hs2⟩; have HO2 := hid ho2; have HB2 := hid hb2; clear ho2 hb2 hs2))
      go_ret
      refine Hfin.out _ ?_ (HO.out.trans1 HO2.out)
      have hb2 := HB2.out
      rw [Hpd.out, show 64 - s.size = 0 by omega]
      simpa [splice] using hb2

end Go.Proofs.Ytpcchkkpligemaa
