/- The parts of the statements on frames: operations, pick, few, do, small, used, holds. -/
import Derived.Test.YtpcchkkpligemaaFra
import Derived.Test.YtpcchkkpligemaaRd
namespace Go.Proofs.Ytpcchkkpligemaa
open Go.RowKit M

/-- an operation of the law -/
structure Op7 where
  d : Int
  f : Int
  x : Int
  b : UInt8
  s : ByteArray
instance : Inhabited Op7 := ⟨⟨0, 0, 0, 0, ByteArray.empty⟩⟩

def Op7.cells (o : Op7) : List Value := [.int .i64 o.d, .int .i64 o.f, .int .i64 o.x, .int .u8 (o.b.toNat : Int), .string o.s]

def opC : Cod Try.prog 33 Op7 :=
  (Cod.struct (P := Try.prog) Try.underlying33
    (Flds.cons (Cod.int .i64 Try.underlying3 (by kernel_rfl)) rfl (Flds.cons (Cod.int .i64 Try.underlying3 (by kernel_rfl)) rfl (Flds.cons (Cod.int .i64 Try.underlying3 (by kernel_rfl)) rfl
      (Flds.cons (Cod.byte Try.underlying5 (by kernel_rfl)) rfl (Flds.cons (Cod.string Try.underlying9 (by kernel_rfl)) rfl (Flds.nil _)))))) (by kernel_rfl)).map
    fun t => ⟨t.1, t.2.1, t.2.2.1, t.2.2.2.1, t.2.2.2.2.1⟩

theorem opC_rd {w : World} {cs : List Value} {o : Op7} (h : opC.rd w cs o) : cs = o.cells ∧ o.s.size ≤ 9223372036854775807 := by
  obtain ⟨⟨d, f, x, b, s, u⟩, rfl, c1, cs1, rfl, ⟨rfl, _⟩, c2, cs2, rfl, ⟨rfl, _⟩, c3, cs3, rfl, ⟨rfl, _⟩, c4, cs4, rfl, rfl, c5, cs5, rfl, ⟨rfl, hs⟩, rfl⟩ := h
  exact ⟨rfl, hs⟩

/-- a slice of operations -/
def Ops (w : World) (v : Value) (l : List Op7) : Prop := SliceRd opC.rd 5 w v l

theorem Ops.at {w : World} {ao : Option Addr} {n cap : Nat} {l : List Op7} (h : Ops w (.slice ao n cap) l) {i : Nat} {o : Op7} (hi : l[i]? = some o) :
    ∃ b off, ao = some ⟨b, off, none⟩ ∧ b < w.heap.size ∧ At w b (off + i * 5) o.cells ∧ o.s.size ≤ 9223372036854775807 := by
  obtain ⟨ao', cap', hv, _, _, hx⟩ := h
  cases hv
  obtain ⟨b, off, cs, e1, e2, e3, e4⟩ := hx i o hi
  obtain ⟨rfl, e5⟩ := opC_rd e4
  exact ⟨b, off, e1, e2, e3, e5⟩

theorem Ops.keep {w w' : World} {v : Value} {l : List Op7} (h : Ops w v l) (hb : Below w.heap.size w w') : Ops w' v l := by
  obtain ⟨ao, cap, h2, h3, h4, h5⟩ := h
  exact ⟨ao, cap, h2, h3, h4, fun i a hi => by
    obtain ⟨b, off, cs', e1, e2, e3, e4⟩ := h5 i a hi
    exact ⟨b, off, cs', e1, Nat.lt_of_lt_of_le e2 hb.size, e3.below hb e2, opC.keep hb e4⟩⟩

def fewB (l : List Op7) : Bool := l.all (fun o => decide (o.s.size ≤ 100)) && decide (l.length ≤ 100)

set_option maxHeartbeats 400000 in
theorem few_any {w : World} {v : Value} {l : List Op7} (h : Ops w v l) :
    Calls Try.prog 8 #[v] w fun e w' => e = .returned (.bool (fewB l)) ∧ w = w' := by
  obtain ⟨ao, cap, rfl, hc, hm, _⟩ := id h
  go_enter Try.func8, Try.ntmps8
  go_wp2
  go_loop [3] (fun i => ∃ k : Nat, i = .int .i64 k ∧ k ≤ l.length ∧ ∀ (j : Nat) (o : Op7), j < k → l[j]? = some o → o.s.size ≤ 100) (fun i => l.length - (intOf i).toNat)
  case atStart => exact ⟨0, rfl, by omega, by intros; omega⟩
  case round =>
    obtain ⟨k, rfl, hk, hall⟩ := hrel
    have HA := hid hall
    clear hall
    by_cases hlt : k < l.length
    · obtain ⟨o, ho⟩ : ∃ o, l[k]? = some o := ⟨_, List.getElem?_eq_getElem hlt⟩
      obtain ⟨b, off, rfl, hb, hat, hs⟩ := h.at ho
      have c4 := hat.cell 4 rfl
      have Ho := hid ho
      clear ho
      by_cases h100 : o.s.size ≤ 100
      · go_wp2
        refine ⟨⟨k + 1, by simp, by omega, ?_⟩, by simp [intOf]; omega⟩
        intro j q hj hq
        by_cases hjk : j = k
        · subst hjk; rw [Ho.out] at hq; cases hq; exact h100
        · exact HA.out j q (by omega) hq
      · go_wp2
        go_ret
        refine ⟨?_, rfl⟩
        have : fewB l = false := by
          simp only [fewB, Bool.and_eq_false_iff, List.all_eq_false]
          exact .inl ⟨o, List.mem_of_getElem? Ho.out, by simpa using h100⟩
        rw [this]; rfl
    · have hall : l.all (fun o => decide (o.s.size ≤ 100)) = true := by
        rw [List.all_eq_true]
        intro o ho
        obtain ⟨j, hj⟩ := List.mem_iff_getElem?.1 ho
        simpa using HA.out j o (by have := (List.getElem?_eq_some_iff.1 hj).1; omega) hj
      have Hall := hid hall
      clear hall
      go_wp2
      go_ret
      refine ⟨?_, rfl⟩
      simp [fewB, Hall.out]; omega

theorem pick_any (n : Int) (m : Nat) (hm : 0 < m) (hm2 : m ≤ 1000) (w : World) :
    Calls Try.prog 22 #[.int .i64 n, .int .i64 m] w fun e w' => e = .returned (.int .i64 (n % m)) ∧ w = w' := by
  have h0 : ((m : Int) == 0) = false := by rw [beq_eq_false_iff_ne]; omega
  have hneg : ((m : Int) == -1) = false := by rw [beq_eq_false_iff_ne]; omega
  have hb1 := Int.emod_nonneg n (show (m : Int) ≠ 0 by omega)
  have hb2 := Int.emod_lt_of_pos n (show (0 : Int) < m by omega)
  have ht0 := Int.tmod_eq_emod (a := n) (b := m)
  by_cases hc : 0 ≤ n ∨ (m : Int) ∣ n
  · rw [if_pos hc] at ht0
    clear hc
    go_enter Try.func22, Try.ntmps22
    go_wp2
    go_ret
    exact ⟨rfl, rfl⟩
  · rw [if_neg hc] at ht0
    have hnat : ((m : Int).natAbs : Int) = m := by simp
    rw [hnat] at ht0
    clear hc hnat
    go_enter Try.func22, Try.ntmps22
    go_wp2
    go_ret
    exact ⟨by simp, rfl⟩

/-- what an operation leaves, and what it gives -/
def doS (fs : List (Bool × List UInt8)) (o : Op7) : List (Bool × List UInt8) :=
  if o.d % 4 = 0 then allocS fs else if o.d % 4 = 1 then freeS fs o.f else if o.d % 4 = 2 then setS fs o.f o.x o.b else fillS fs o.f o.s.data.toList
def doR (fs : List (Bool × List UInt8)) (o : Op7) : Int × Bool × Int :=
  if o.d % 4 = 0 then (match firstFree fs with | some k => (k, true, 0) | none => (0, false, 0)) else if o.d % 4 = 1 then (0, false, freeE fs o.f) else if o.d % 4 = 2 then (0, false, setE fs o.f o.x) else (0, false, fillE fs o.f)
def tri (r : Int × Bool × Int) : Value := .tuple #[.int .i64 r.1, .bool r.2.1, .int .i64 r.2.2]

set_option maxHeartbeats 400000 in
theorem do_any {w : World} {p bb : Nat} {fs : List (Bool × List UInt8)} (h : FramesAt w p bb fs) (o : Op7) (hs : o.s.size ≤ 9223372036854775807) :
    Calls Try.prog 11 #[.pointer (some ⟨p, 0, none⟩), .agg o.cells.toArray] w (Left p bb w (tri (doR fs o)) (doS fs o)) := by
  have hnew := Blk.new w o.cells 33
  have d0 := hnew.cell (o := 0) rfl
  have d1 := hnew.cell (o := 1) rfl
  have d2 := hnew.cell (o := 2) rfl
  have d3 := hnew.cell (o := 3) rfl
  have d4 := hnew.cell (o := 4) rfl
  have hlp : p < w.heap.size := by obtain ⟨cap, hp, _⟩ := h.str; exact hp.lt
  have hlb : bb < w.heap.size := by obtain ⟨sp, hb⟩ := h.row; exact hb.lt
  have h' : FramesAt (w.alloc (.cells o.cells.toArray 33)) p bb fs := h.only ((Only.refl [] w).alloc _) (by simp) (by simp)
  have hpick := pick_any o.d 4 (by omega) (by omega) (w.alloc (.cells o.cells.toArray 33))
  have Hpick := hid hpick
  have hm0 := Int.emod_nonneg o.d (show (4 : Int) ≠ 0 by omega)
  have hm1 := Int.emod_lt_of_pos o.d (show (0 : Int) < 4 by omega)
  clear hnew hpick
  have hcase : o.d % 4 = 0 ∨ o.d % 4 = 1 ∨ o.d % 4 = 2 ∨ o.d % 4 = 3 := by omega
  have fin : ∀ e w' r s', Left p bb (w.alloc (.cells o.cells.toArray 33)) r s' e w' → Only [p, bb] w w' := fun e w' r s' hl => ((Only.refl [p, bb] w).alloc _).trans1 hl.2.2
  have Hfin := hid fin
  clear fin
  rcases hcase with hc | hc | hc | hc
  · have hS : doS fs o = allocS fs := by simp [doS, hc]
    have hR : tri (doR fs o) = (match firstFree fs with | some k => tri (k, true, 0) | none => tri (0, false, 0)) := by simp only [doR, hc, if_true]; cases firstFree fs <;> rfl
    have hV : allocV fs = (match firstFree fs with | some k => .tuple #[.int .i64 k, .bool true] | none => .tuple #[.int .i64 0, .bool false]) := rfl
    cases hff : firstFree fs
    all_goals
      rw [hff] at hR hV
      have HS := hid hS
      have HR := hid hR
      have HV := hid hV
      clear hS hR hV hff
      go_enter Try.func11, Try.ntmps11
      go_wp2_with (first
        | (go_at_call 22; refine Hpick.out.mono ?_; rintro e w' ⟨rfl, rfl⟩)
        | (go_at_call 25; refine (alloc_any h').mono ?_; rintro e w1 hl; have HL := hid hl; obtain ⟨rfl, hf1, ho1⟩ := hl; rw [HV.out]; clear hf1 ho1))
      go_ret3
      exact ⟨by rw [HR.out]; rfl, by rw [HS.out]; exact HL.out.2.1, Hfin.out _ _ _ _ HL.out⟩
  · have hS : doS fs o = freeS fs o.f := by simp [doS, hc]
    have hR : tri (doR fs o) = tri (0, false, freeE fs o.f) := by simp [doR, hc]
    have HS := hid hS
    have HR := hid hR
    clear hS hR
    go_enter Try.func11, Try.ntmps11
    go_wp2_with (first
      | (go_at_call 22; refine Hpick.out.mono ?_; rintro e w' ⟨rfl, rfl⟩)
      | (go_at_call 27; refine (free_any h' _).mono ?_; rintro e w1 hl; have HL := hid hl; obtain ⟨rfl, hf1, ho1⟩ := hl; clear hf1 ho1))
    go_ret3
    exact ⟨by rw [HR.out]; rfl, by rw [HS.out]; exact HL.out.2.1, Hfin.out _ _ _ _ HL.out⟩
  · have hS : doS fs o = setS fs o.f o.x o.b := by simp [doS, hc]
    have hR : tri (doR fs o) = tri (0, false, setE fs o.f o.x) := by simp [doR, hc]
    have HS := hid hS
    have HR := hid hR
    clear hS hR
    go_enter Try.func11, Try.ntmps11
    go_wp2_with (first
      | (go_at_call 22; refine Hpick.out.mono ?_; rintro e w' ⟨rfl, rfl⟩)
      | (go_at_call 29; refine (set_any h' _ _ _).mono ?_; rintro e w1 hl; have HL := hid hl; obtain ⟨rfl, hf1, ho1⟩ := hl; clear hf1 ho1))
    go_ret3
    exact ⟨by rw [HR.out]; rfl, by rw [HS.out]; exact HL.out.2.1, Hfin.out _ _ _ _ HL.out⟩
  · have hS : doS fs o = fillS fs o.f o.s.data.toList := by simp [doS, hc]
    have hR : tri (doR fs o) = tri (0, false, fillE fs o.f) := by simp [doR, hc]
    have HS := hid hS
    have HR := hid hR
    clear hS hR
    go_enter Try.func11, Try.ntmps11
    go_wp2_with (first
      | (go_at_call 22; refine Hpick.out.mono ?_; rintro e w' ⟨rfl, rfl⟩)
      | (go_at_call 26; refine (fill_any h' _ _ hs).mono ?_; rintro e w1 hl; have HL := hid hl; obtain ⟨rfl, hf1, ho1⟩ := hl; clear hf1 ho1))
    go_ret3
    exact ⟨by rw [HR.out]; rfl, by rw [HS.out]; exact HL.out.2.1, Hfin.out _ _ _ _ HL.out⟩

def q0 : List (Bool × List UInt8) := List.replicate 2 (false, zeros)
def q1 := allocS q0
def q2 := allocS q1
def q3 := allocS q2
def q4 := setS q3 0 63 7
def q5 := freeS q4 0
def q6 := allocS q5
def q7 := fillS q6 1 [97, 98]
theorem v0 : allocV q0 = .tuple #[.int .i64 0, .bool true] := by kernel_rfl
theorem v1 : allocV q1 = .tuple #[.int .i64 1, .bool true] := by kernel_rfl
theorem v2 : allocV q2 = .tuple #[.int .i64 0, .bool false] := by kernel_rfl
theorem v3 : setE q3 0 63 = 0 := by kernel_rfl
theorem v4 : freeE q4 0 = 0 := by kernel_rfl
theorem v5 : allocV q5 = .tuple #[.int .i64 0, .bool true] := by kernel_rfl
theorem v6 : fillE q6 1 = 0 := by kernel_rfl
theorem v7 : byteB q7 0 63 = 0 := by kernel_rfl
theorem v8 : (pageB q7 1).length = 64 := by kernel_rfl
theorem v9 : byteB q7 1 1 = 98 := by kernel_rfl
theorem v10 : byteB q7 1 2 = 0 := by kernel_rfl
theorem v11 : count q7 = 2 := by kernel_rfl
theorem v12 : q7.length = 2 := by kernel_rfl

set_option maxHeartbeats 1000000 in
theorem small_any (w : World) : Calls Try.prog 7 #[] w fun e w' => e = .returned (.bool true) ∧ Only [] w w' := by
  go_enter Try.func7, Try.ntmps7
  go_wp2_with fail
  refine (new_any w 2 2 (by decide)).mono ?_
  rintro e w0 ⟨p, bb, rfl, h0, ho, hp, hb⟩
  have F0 : FramesAt w0 p bb q0 := h0
  clear h0
  go_wp2_with fail
  refine (alloc_any F0).mono ?_
  rintro e w1 ⟨rfl, F1, o1⟩
  rw [v0]
  have F1 : FramesAt w1 p bb q1 := F1
  go_wp2_with fail
  refine (alloc_any F1).mono ?_
  rintro e w2 ⟨rfl, F2, o2⟩
  rw [v1]
  have F2 : FramesAt w2 p bb q2 := F2
  go_wp2_with fail
  refine (alloc_any F2).mono ?_
  rintro e w3 ⟨rfl, F3, o3⟩
  rw [v2]
  have F3 : FramesAt w3 p bb q3 := F3
  go_wp2_with fail
  have c3 := set_any F3 0 63 7
  rw [show (((7 : UInt8).toNat : Nat) : Int) = 7 from rfl] at c3
  refine c3.mono ?_
  clear c3
  rintro e w4 ⟨rfl, F4, o4⟩
  rw [v3]
  have F4 : FramesAt w4 p bb q4 := F4
  go_wp2_with fail
  refine (free_any F4 0).mono ?_
  rintro e w5 ⟨rfl, F5, o5⟩
  rw [v4]
  have F5 : FramesAt w5 p bb q5 := F5
  go_wp2_with fail
  refine (alloc_any F5).mono ?_
  rintro e w6 ⟨rfl, F6, o6⟩
  rw [v5]
  have F6 : FramesAt w6 p bb q6 := F6
  go_wp2_with fail
  refine (fill_any F6 1 ⟨#[97, 98]⟩ (by decide)).mono ?_
  rintro e w7 ⟨rfl, F7, o7⟩
  rw [v6]
  have F7 : FramesAt w7 p bb q7 := F7
  have O7 := hid ((((((((ho.mono (S' := [])) (by simp)).trans o1 (by simp [hp, hb])).trans o2 (by simp [hp, hb])).trans o3 (by simp [hp, hb])).trans o4 (by simp [hp, hb])).trans o5 (by simp [hp, hb])).trans o6 (by simp [hp, hb]) |>.trans o7 (by simp [hp, hb]))
  clear o1 o2 o3 o4 o5 o6 o7 ho
  have F : FramesAt w7 p bb q7 := F7
  clear F0 F1 F2 F3 F4 F5 F6 F7
  go_wp2_with fail
  refine (byte_any F 0 63).mono ?_
  rintro e w' ⟨rfl, rfl⟩
  rw [v7]
  go_wp2_with fail
  refine (page_any F 1).mono ?_
  rintro e w' ⟨rfl, rfl⟩
  have u8 := v8
  go_wp2_with fail
  refine (byte_any F 1 1).mono ?_
  rintro e w' ⟨rfl, rfl⟩
  rw [v9]
  go_wp2_with fail
  refine (byte_any F 1 2).mono ?_
  rintro e w' ⟨rfl, rfl⟩
  rw [v10]
  go_wp2_with fail
  refine (used_any F).mono ?_
  rintro e w' ⟨rfl, rfl⟩
  rw [v11]
  go_wp2_with fail
  refine (size_any F).mono ?_
  rintro e w' ⟨rfl, rfl⟩
  rw [v12]
  go_wp2_with fail
  go_ret
  exact ⟨rfl, O7.out⟩
end Go.Proofs.Ytpcchkkpligemaa
