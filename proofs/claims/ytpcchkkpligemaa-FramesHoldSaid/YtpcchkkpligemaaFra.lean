/- Package frames: New, Alloc and Copy. -/
import Derived.Test.YtpcchkkpligemaaFr
import Derived.Deep.RegionHeld3
namespace Go.Proofs.Ytpcchkkpligemaa
open Go.RowKit M

def zeros : List UInt8 := List.replicate 64 0
theorem zeros_length : zeros.length = 64 := by simp [zeros]

theorem framesV_replicate (n : Nat) : framesV (List.replicate n (false, zeros)) = (List.replicate n (frameV (false, zeros))).flatten := by
  simp [framesV]

theorem count_replicate (n : Nat) : count (List.replicate n (false, zeros)) = 0 := by
  simp [count]

/-- what New leaves -/
def Made (n : Nat) (w : World) (e : Ending) (w' : World) : Prop :=
  ∃ p bb, e = .returned (.pointer (some ⟨p, 0, none⟩)) ∧ FramesAt w' p bb (List.replicate n (false, zeros)) ∧ Only [] w w' ∧ w.heap.size ≤ p ∧ w.heap.size ≤ bb

set_option maxHeartbeats 400000 in
theorem new_any (w : World) (n : Int) (m : Nat) (hm : (m : Int) = min (max n 0) 4096) :
    Calls Try.prog 9 #[.int .i64 n] w (Made m w) := by
  have h1 : m ≤ 4096 := by omega
  have Hm := hid hm
  clear hm
  have hcase : n < 0 ∨ 4096 < n ∨ (0 ≤ n ∧ n ≤ 4096) := by omega
  rcases hcase with hc | hc | ⟨hc, hd⟩
  all_goals
    go_enter Try.func9, Try.ntmps9
    go_wp2_with ((with_reducible apply wpList_does (o := ⟨some 6, _, _, _, _, _⟩) rfl); (refine does_make 60 _ _ rfl rfl rfl (n := m) (m := m) (by have := Hm.out; omega) (by have := Hm.out; omega) (Nat.le_refl _) Try.underlying60 (z := .agg (frameV (false, zeros)).toArray) (size := 65) (bytes := 65) (by kernel_rfl) rfl (by omega) (by omega)); rintro v w' ⟨rfl, hb, ho, hs⟩; have HB := hid hb; have HS := hid hs; clear hb hs)
    go_ret
    have hs := HS.out
    refine ⟨w'.heap.size, w.heap.size, rfl, ⟨⟨m, ?_, by simp⟩, ⟨[], ?_⟩, by omega, ?_, by simpa using h1⟩, ho.alloc _, by omega, Nat.le_refl _⟩
    · have := Blk.new w' [.slice (some ⟨w.heap.size, 0, none⟩) m m, .int .i64 0] 62
      rw [count_replicate]; simpa using this
    · rw [List.append_nil, framesV_replicate]; exact HB.out.alloc _
    · intro f hf; rw [List.mem_replicate] at hf; rw [hf.2]; exact zeros_length

theorem closure_any (w : World) (g : Bool × List UInt8) :
    Calls Try.prog 35 #[.agg (frameV g).toArray] w fun e w' => e = .returned (.bool (!g.1)) ∧ Only [] w w' := by
  have hb := Blk.new w (frameV g) 65
  have hc := hb.cell (o := 0) rfl
  clear hb
  go_enter Try.func35, Try.ntmps35
  go_wp2
  go_ret
  exact ⟨rfl, (Only.refl _ _).alloc _⟩

def firstFree (fs : List (Bool × List UInt8)) : Option Nat := fs.findIdx? (!·.1)
def firstFreeI (fs : List (Bool × List UInt8)) : Int := match firstFree fs with | some k => k | none => -1

theorem firstFreeI_some {fs : List (Bool × List UInt8)} {k : Nat} (hk : k < fs.length) (hu : (fs[k]?).map (·.1) = some false) (ha : ∀ j g, j < k → fs[j]? = some g → g.1 = true) : firstFreeI fs = k := by
  have : firstFree fs = some k := by
    unfold firstFree
    rw [List.findIdx?_eq_some_iff_getElem]
    refine ⟨hk, ?_, ?_⟩
    · rw [List.getElem?_eq_getElem hk] at hu; simp at hu; simp [hu]
    · intro j hj
      have := ha j fs[j] hj (List.getElem?_eq_getElem (by omega))
      simp [this]
  simp [firstFreeI, this]

theorem firstFreeI_none {fs : List (Bool × List UInt8)} (ha : ∀ (j : Nat) (g : Bool × List UInt8), fs[j]? = some g → g.1 = true) : firstFreeI fs = -1 := by
  have : firstFree fs = none := by
    unfold firstFree
    rw [List.findIdx?_eq_none_iff]
    intro x hx
    obtain ⟨j, hj⟩ := List.mem_iff_getElem?.1 hx
    simp [ha j x hj]
  simp [firstFreeI, this]

theorem firstFree_some {fs : List (Bool × List UInt8)} {k : Nat} (h : firstFree fs = some k) : k < fs.length ∧ ∃ g, fs[k]? = some g ∧ g.1 = false := by
  unfold firstFree at h
  rw [List.findIdx?_eq_some_iff_getElem] at h
  obtain ⟨hk, h1, _⟩ := h
  exact ⟨hk, fs[k], List.getElem?_eq_getElem hk, by simpa using h1⟩

set_option maxHeartbeats 400000 in
theorem indexFunc_any {w : World} {p bb cap : Nat} {fs : List (Bool × List UInt8)} (h : FramesAt w p bb fs) :
    Calls Try.prog 34 #[.slice (some ⟨bb, 0, none⟩) fs.length cap, .func (.func 35) #[] #[]] w
      fun e w' => e = .returned (.int .i64 (firstFreeI fs)) ∧ Only [] w w' := by
  obtain ⟨sp, hrow⟩ := h.row
  have hlen := h.len
  go_enter Try.func34, Try.ntmps34
  go_wp2
  go_loopw [8] (fun i wr => ∃ k : Nat, i = .int .i64 k ∧ k ≤ fs.length ∧ Only [] w wr ∧ ∀ j g, j < k → fs[j]? = some g → g.1 = true) (fun i _ => fs.length - (intOf i).toNat)
  case atStart => exact ⟨0, rfl, by omega, Only.refl _ _, by intros; omega⟩
  case round =>
    obtain ⟨k, rfl, hk, ho, hall⟩ := hrel
    have HA := hid hall
    clear hall
    by_cases hlt : k < fs.length
    · obtain ⟨g, hg⟩ : ∃ g, fs[k]? = some g := ⟨_, List.getElem?_eq_getElem hlt⟩
      have hrow' := ho.blk hrow (by simp)
      have hcut : ((framesV fs ++ sp).drop (k * 65)).take 65 = frameV g := by
        apply List.ext_getElem?
        intro j
        have hgl : (frameV g).length = 65 := by simp [frameV, bytesV, h.wf g (List.mem_of_getElem? hg)]
        rw [List.getElem?_take]
        by_cases hj : j < 65
        · rw [if_pos hj, List.getElem?_drop, List.getElem?_append_left (by rw [framesV_length h.wf]; omega), framesV_get h.wf hg hj]
        · rw [if_neg hj, List.getElem?_eq_none (by omega)]
      have hrl : k * 65 + 65 ≤ (framesV fs ++ sp).length := by rw [List.length_append, framesV_length h.wf]; omega
      have Hg := hid hg
      have Hcut := hid hcut
      clear hg hcut
      cases hu : g.1
      · go_wp2_with (first
          | ((with_reducible apply wpList_does (o := ⟨some 15, _, _, _, _, _⟩) rfl); (refine (does_load 65 _ rfl rfl hrow' Try.underlying65 rfl (n := 65) (by kernel_rfl) hrl).mono (R' := fun v w' => v = .agg (frameV g).toArray ∧ wr = w') (fun v w' hv => by rw [Hcut.out] at hv; exact hv)); rintro v w' ⟨rfl, rfl⟩)
          | (go_at_call 35; refine (closure_any _ g).mono ?_; rintro e w1 ⟨rfl, ho1⟩))
        go_ret
        refine ⟨?_, ho.trans0 ho1⟩
        rw [firstFreeI_some hlt (by rw [Hg.out]; simp [hu]) HA.out]; rfl
      · go_wp2_with (first
          | ((with_reducible apply wpList_does (o := ⟨some 15, _, _, _, _, _⟩) rfl); (refine (does_load 65 _ rfl rfl hrow' Try.underlying65 rfl (n := 65) (by kernel_rfl) hrl).mono (R' := fun v w' => v = .agg (frameV g).toArray ∧ wr = w') (fun v w' hv => by rw [Hcut.out] at hv; exact hv)); rintro v w' ⟨rfl, rfl⟩)
          | (go_at_call 35; refine (closure_any _ g).mono ?_; rintro e w1 ⟨rfl, ho1⟩))
        refine ⟨⟨k + 1, by simp, by omega, ho.trans0 ho1, ?_⟩, by simp [intOf]; omega⟩
        intro j q hj hq
        by_cases hjk : j = k
        · subst hjk; rw [Hg.out] at hq; cases hq; exact hu
        · exact HA.out j q (by omega) hq
    · go_wp2
      go_ret
      refine ⟨?_, ho⟩
      rw [firstFreeI_none (fun j q hq => HA.out j q (by have := (List.getElem?_eq_some_iff.1 hq).1; omega) hq)]; rfl

def zframe : Bool × List UInt8 := (true, zeros)
def allocS (fs : List (Bool × List UInt8)) : List (Bool × List UInt8) := match firstFree fs with | some k => fs.set k zframe | none => fs
def allocV (fs : List (Bool × List UInt8)) : Value := match firstFree fs with | some k => .tuple #[.int .i64 k, .bool true] | none => .tuple #[.int .i64 0, .bool false]

set_option maxHeartbeats 400000 in
theorem alloc_any {w : World} {p bb : Nat} {fs : List (Bool × List UInt8)} (h : FramesAt w p bb fs) :
    Calls Try.prog 25 #[.pointer (some ⟨p, 0, none⟩)] w (Left p bb w (allocV fs) (allocS fs)) := by
  obtain ⟨cap, hp, hcap⟩ := h.str
  obtain ⟨sp, hrow⟩ := h.row
  have c0 := hp.cell (o := 0) rfl
  have c1 := hp.cell (o := 1) rfl
  have f1 := hp.free 1 (by simp)
  have hlen := h.len
  have hne := h.ne
  have hcl := count_le fs
  cases hf : firstFree fs with
  | none =>
    have hV : allocV fs = .tuple #[.int .i64 0, .bool false] := by simp [allocV, hf]
    have hS : allocS fs = fs := by simp [allocS, hf]
    have hI : firstFreeI fs = -1 := by simp [firstFreeI, hf]
    have HV := hid hV
    have HS := hid hS
    have HI := hid hI
    clear hV hS hI hf
    go_enter Try.func25, Try.ntmps25
    go_wp2_with (go_at_call 34; refine (indexFunc_any h).mono ?_; rintro e w1 ⟨rfl, ho1⟩; rw [HI.out])
    go_ret2
    refine ⟨by rw [HV.out]; rfl, ?_, ho1.mono (by simp)⟩
    rw [HS.out]; exact h.only ho1 (by simp) (by simp)
  | some k =>
    obtain ⟨hk, g, hg, hgu⟩ := firstFree_some hf
    have hrl : k * 65 + 65 ≤ (framesV fs ++ sp).length := by rw [List.length_append, framesV_length h.wf]; omega
    have hV : allocV fs = .tuple #[.int .i64 k, .bool true] := by simp [allocV, hf]
    have hS : allocS fs = fs.set k zframe := by simp [allocS, hf]
    have hI : firstFreeI fs = k := by simp [firstFreeI, hf]
    have hcnt := count_set (h := zframe) hg
    simp [hgu, zframe] at hcnt
    have hbs : framesV (fs.set k zframe) ++ sp = splice (framesV fs ++ sp) (k * 65) (frameV zframe) := by
      have hgl := h.wf g (List.mem_of_getElem? hg)
      have := framesV_splice h.wf hg (o := 0) (vs := frameV zframe) (by simp [frameV, zframe, bytesV, zeros_length]) (g := zframe) (by simp [splice, frameV, zframe, bytesV, zeros_length, hgl]) sp
      rw [← this]; simp
    have HV := hid hV
    have HS := hid hS
    have HI := hid hI
    have Hcnt := hid hcnt
    have Hbs := hid hbs
    have HP := hid hp
    have hpl := hp.lt
    have hbd : ∀ w, (Instr.build 65 #[(0, .bool true)]).run Try.prog w = .ok (.agg (frameV zframe).toArray) w := fun w => by kernel_rfl
    have Hbd := hid hbd
    clear hbd
    clear hV hS hI hf hg hgu hcnt hbs hp
    go_enter Try.func25, Try.ntmps25
    go_wp2_with (first
      | (go_at_call 34; refine (indexFunc_any h).mono ?_; rintro e w1 ⟨rfl, ho1⟩; rw [HI.out]; have HO1 := hid ho1; have d0 := (ho1.cell (o := 0) hpl (by simp)).trans c0; have hb1 := hid (ho1.blk hrow (by simp)); clear ho1)
      | ((with_reducible apply wpList_does (o := ⟨some 17, _, _, _, _, _⟩) rfl); (refine does_build 65 _ rfl (vs := [(0, .bool true)]) rfl Hbd.out); rintro v w' ⟨rfl, rfl⟩)
      | ((with_reducible apply wpList_does (o := ⟨none, .store 65 _ _, _, _, _, _⟩) rfl); (refine does_store 65 _ _ rfl rfl rfl hb1.out (n := 65) (by kernel_rfl) rfl hrl (by decide)); rintro v w2 ⟨rfl, hb2, ho2, hs2⟩; have hp2 := ho2.blk (HO1.out.blk HP.out (by simp)) (by simpa using hne); have e1 := hp2.cell (o := 1) rfl; have e2 := hp2.free 1 (by simp); have HP2 := hid hp2; have HO2 := hid ho2; have HB2 := hid hb2; clear hp2 ho2 hb2 hs2))
    go_ret2
    refine ⟨by rw [HV.out]; rfl, ?_, ((HO1.out.mono (S' := [p, bb]) (by simp)).trans (HO2.out) (by simp)).setCell (.inl (by simp)) _⟩
    rw [HS.out]
    refine ⟨⟨cap, ?_, by simpa using hcap⟩, ⟨sp, ?_⟩, hne, h.wf.set zeros_length, by simpa using hlen⟩
    · have e : count (fs.set k zframe) = count fs + 1 := Hcnt.out
      rw [e, List.length_set]
      exact HP2.out.set 1 _
    · rw [Hbs.out]
      exact HB2.out.other (fun e => hne e.symm) _

theorem clone_any {w : World} {p bb cap : Nat} {fs : List (Bool × List UInt8)} (h : FramesAt w p bb fs) :
    Calls Try.prog 36 #[.slice (some ⟨bb, 0, none⟩) fs.length cap] w fun e w' => ∃ b' cap' sp', fs.length ≤ cap' ∧ e = .returned (.slice (some ⟨b', 0, none⟩) fs.length cap') ∧ Blk w' b' (framesV fs ++ sp') ∧ Only [] w w' ∧ w.heap.size ≤ b' := by
  obtain ⟨sp, hrow⟩ := h.row
  have hlen := h.len
  have hbs : (Instr.buildSlice 60 0 #[]).run Try.prog w = .ok (.slice (some ⟨w.heap.size, 0, none⟩) 0 0) (w.alloc (.cells #[] 65)) := by kernel_rfl
  have hfl := framesV_length h.wf
  have hnil := Lib.run_eql_slice_nil (P := Try.prog) w 60 65 (some ⟨bb, 0, none⟩) fs.length cap 0 0 Try.underlying60
  have hown : Own (w.alloc (.cells #[] 65)) (.slice (some ⟨w.heap.size, 0, none⟩) 0 0) 0 65 [] [w.heap.size] :=
    ⟨by simp, .inr ⟨_, 0, [], rfl, Nat.le_refl _, Blk.new w [] _, by simp, rfl⟩⟩
  have hsrc := (hrow.alloc (.cells #[] 65))
  have Hfl := hid hfl
  have h1 : ∀ v ∈ framesV fs, v.oneCell' = true := by
    intro v hv
    simp only [framesV, List.mem_flatten, List.mem_map] at hv
    obtain ⟨l, ⟨f, _, rfl⟩, hv⟩ := hv
    simp only [frameV, List.mem_cons] at hv
    rcases hv with rfl | hv
    · rfl
    · exact bytesV_one _ v hv
  have H1 := hid h1
  clear hfl h1
  have Hsrc := hid (firstCells_of_blk (P := Try.prog) hsrc 65 fs.length 0 fs.length cap (by simp [Hfl.out]) (news := framesV fs) (by rw [List.drop_zero, ← Hfl.out, List.take_left]))
  go_enter Try.func36, Try.ntmps36
  go_wp2_with ((with_reducible apply wpList_does (o := ⟨some 7, _, _, _, _, _⟩) rfl); go_must (refine does_append 60 60 (.tmp 5) (.tmp 6) rfl rfl rfl hown Try.underlying60 Try.underlying60 (by intro k hk; cases hk) (z := .agg (frameV (false, zeros)).toArray) (size := 65) (bytes := 65) (m := fs.length) (news := framesV fs) (by kernel_rfl) rfl (by omega) (lenOf_slice _ _ _) Hsrc.out Hfl.out H1.out (by omega) (by omega)); rintro v w2 ⟨foot', ⟨hl2, hcase⟩, ho2, hf2, hnn⟩; have Hf2 := hid hf2; have Hnn := hid hnn; have HC := hid hcase; clear hf2 hnn hcase hl2)
  rcases HC.out with ⟨h0, _, _⟩ | ⟨b, cap', sp', rfl, hc', hb', hl', rfl⟩
  · have := Hnn.out h0; cases this
  · go_ret
    refine ⟨b, cap', sp', by omega, by simp, by simpa using hb', ((Only.refl _ _).alloc _).trans ho2 (by simp), ?_⟩
    rcases Hf2.out b (by simp) with h3 | h3 <;> simp at h3 <;> omega

set_option maxHeartbeats 400000 in
theorem copy_any {w : World} {p bb : Nat} {fs : List (Bool × List UInt8)} (h : FramesAt w p bb fs) :
    Calls Try.prog 28 #[.pointer (some ⟨p, 0, none⟩)] w fun e w' => ∃ p' bb', e = .returned (.pointer (some ⟨p', 0, none⟩)) ∧ FramesAt w' p' bb' fs ∧ Only [] w w' ∧ w.heap.size ≤ p' ∧ w.heap.size ≤ bb' := by
  obtain ⟨cap, hp, hcap⟩ := h.str
  have c0 := hp.cell (o := 0) rfl
  have c1 := hp.cell (o := 1) rfl
  have hpl := hp.lt
  clear hp
  go_enter Try.func28, Try.ntmps28
  go_wp2_with fail
  go_region_held3 (fun w' => w'.cell? ⟨p, 0, none⟩ = some (.slice (some ⟨bb, 0, none⟩) fs.length cap) ∧ w'.cell? ⟨p, 1, none⟩ = some (.int .i64 (count fs)))
    (first | exact ⟨c0, c1⟩ | exact ⟨(ho1.cell (o := 0) hpl (by simp)).trans c0, (ho1.cell (o := 1) hpl (by simp)).trans c1⟩ | go_keep)
    (first | (go_at_call 36; refine (clone_any (w := w.drew) (p := p) (h.congr rfl rfl)).mono ?_; rintro e w1 ⟨b', cap', sp', hc', rfl, hb', ho1, hsz⟩))
  go_wp2
  go_ret
  have h1 := hb'.lt
  have hsz' : w.heap.size ≤ b' := hsz
  refine ⟨w1.heap.size, b', rfl, ⟨⟨cap', ?_, hc'⟩, ⟨sp', hb'.alloc _⟩, by omega, h.wf, h.len⟩, (((Only.refl [] w).drew).trans0 ho1).alloc _, by have := ho1.size; simpa using this, hsz'⟩
  exact Blk.new w1 [.slice (some ⟨b', 0, none⟩) fs.length cap', .int .i64 (count fs)] 62
end Go.Proofs.Ytpcchkkpligemaa
