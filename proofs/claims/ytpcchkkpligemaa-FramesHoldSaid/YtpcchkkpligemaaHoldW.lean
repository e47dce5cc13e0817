/- FramesHold: the walk . -/
import Derived.Test.YtpcchkkpligemaaHold
import Derived.Test.YtpcchkkpligemaaFamq
import Derived.Test.YtpcchkkpligemaaZer
namespace Go.Proofs.Ytpcchkkpligemaa
open Go.RowKit M

theorem pages_start {w : World} {pb m : Nat} (hb : Blk w pb (List.replicate m (List.replicate 1 (.slice none 0 0))).flatten) (hm : m ≤ 4096) : PagesAt w pb (fun _ => 0) (fun _ => 0) (List.replicate m (false, zeros)) := by
  refine ⟨?_, fun i l hi => ?_, fun i j l l' hi => ?_, fun i l hi => ?_, ?_, by simpa using hm⟩
  · have e : pagesV (fun _ => 0) (fun _ => 0) (List.replicate m (false, zeros)) = (List.replicate m (List.replicate 1 (.slice none 0 0))).flatten := by
      apply List.ext_getElem?
      intro i
      rw [pagesV_get]
      simp [List.getElem?_replicate, pageV]
    rw [e]; exact hb
  all_goals first
    | (intro f hf; simp at hf; rw [hf.2]; exact zeros_length)
    | (simp [List.getElem?_replicate] at hi)

theorem footP_start (pb m : Nat) : footP pb (fun _ => 0) (List.replicate m (false, zeros)) = [pb] := by
  simp [footP, usedIdx, List.getElem?_replicate]
  intro a ha; simp [ha]

theorem firstFree_none {fs : List (Bool × List UInt8)} (h : firstFree fs = none) : count fs = fs.length := by
  simp only [firstFree, List.findIdx?_eq_none_iff] at h
  simp only [count]
  rw [List.filter_eq_self.2]
  intro a ha; simpa using h a ha

theorem pused_at {w : World} {pb cap n : Nat} {blk caps : Nat → Nat} {fs : List (Bool × List UInt8)} (h : PagesAt w pb blk caps fs) (hn : fs.length = n) :
    Calls Try.prog 23 #[.slice (some ⟨pb, 0, none⟩) n cap] w fun e w' => e = .returned (.int .i64 (count fs)) ∧ w = w' := by subst hn; exact pused_any h
theorem holds_at {w : World} {p bb pb cap n : Nat} {blk caps : Nat → Nat} {fs : List (Bool × List UInt8)} (hF : FramesAt w p bb fs) (hP : PagesAt w pb blk caps fs) (hn : fs.length = n) :
    Calls Try.prog 24 #[.pointer (some ⟨p, 0, none⟩), .slice (some ⟨pb, 0, none⟩) n cap] w fun e w' => e = .returned (.bool true) ∧ Only [] w w' := by subst hn; exact holds_any hF hP

theorem op7_one (o : Op7) : ∀ v ∈ o.cells.toArray.toList, v.oneCell' = true := by
  intro v hv
  simp only [Op7.cells, List.mem_cons, List.not_mem_nil, or_false] at hv
  rcases hv with rfl | rfl | rfl | rfl | rfl <;> rfl

theorem blk_at {w : World} {b : Nat} {cs : List Value} (h : Blk w b cs) : ∀ j v, cs[j]? = some v → w.cell? ⟨b, 0 + j, none⟩ = some v := fun j v hv => by rw [Nat.zero_add]; exact h.cell hv

theorem sep_front {W w : World} {A B C : Ast} (h : Sepd W w [A, B, C]) : Sepd W w [A, B] := by
  refine ⟨h.bel, ⟨fun f hf => h.ap.lo f ?_, fun f hf => h.ap.hi f ?_, fun i j f g hij hi hj => h.ap.dis i j f g hij ?_ ?_⟩, fun X hX => h.all X ?_⟩
  · simp at hf ⊢; rcases hf with h | h <;> simp [h]
  · simp at hf ⊢; rcases hf with h | h <;> simp [h]
  · match i, hi with
    | 0, hi => exact hi
    | 1, hi => exact hi
    | n + 2, hi => simp at hi
  · match j, hj with
    | 0, hi => exact hi
    | 1, hi => exact hi
    | n + 2, hi => simp at hi
  · simp at hX ⊢; rcases hX with h | h <;> simp [h]

theorem pages_put {W w w5 : World} {A C : Ast} {pb : Nat} {blk caps : Nat → Nat} {st : List (Bool × List UInt8)} (S : Sepd W w [A, pagesA pb blk caps st, C]) (ho : Only [] w w5) {k b cap : Nat} (hk : k < st.length) {l : List UInt8} {sp : List Value}
    (hb : Blk w5 b (bytesV l ++ sp)) (hf : w.heap.size ≤ b) (hcap : 64 ≤ cap) (hl : l.length = 64) :
    Sepd W (w5.setCell ⟨pb, k, none⟩ (.slice (some ⟨b, 0, none⟩) 64 cap)) [A, pagesA pb (upd blk k b) (upd caps k cap) (st.set k (true, l)), C] := by
  have hP : PagesAt w pb blk caps st := S.get 1 rfl
  have hpb := hP.row.lt
  have ho' : Only [pb] w (w5.setCell ⟨pb, k, none⟩ (.slice (some ⟨b, 0, none⟩) 64 cap)) := (ho.mono (by simp)).setCell (.inl (by simp)) _
  have hP' := hP.put hk ho' ((ho.blk hP.row (by simp)).set k _) (hb.other (show b ≠ pb by omega) _) hf hcap hl
  exact S.upd 1 rfl (A' := pagesA pb (upd blk k b) (upd caps k cap) (st.set k (true, l))) (ho'.mono (by intro x hx; simp at hx; exact mem_footP.2 (.inl hx))) hP' (footP_put hf) hP'.lts

theorem pages_drop {W w : World} {A C : Ast} {pb : Nat} {blk caps : Nat → Nat} {st : List (Bool × List UInt8)} (S : Sepd W w [A, pagesA pb blk caps st, C]) {k : Nat} (hk : k < st.length) {l : List UInt8} (hl : l.length = 64) :
    Sepd W (w.setCell ⟨pb, k, none⟩ (.slice none 0 0)) [A, pagesA pb blk caps (st.set k (false, l)), C] := by
  have hP : PagesAt w pb blk caps st := S.get 1 rfl
  have ho' : Only [pb] w (w.setCell ⟨pb, k, none⟩ (.slice none 0 0)) := (Only.refl _ _).setCell (.inl (by simp)) _
  have hP' := hP.drop hk ho' (hP.row.set k _) hl
  exact S.upd 1 rfl (A' := pagesA pb blk caps (st.set k (false, l))) (ho'.mono (by intro x hx; simp at hx; exact mem_footP.2 (.inl hx))) hP' (fun q hq => .inl (footP_drop hk q hq)) hP'.lts

theorem pages_byte {W w : World} {A C : Ast} {pb : Nat} {blk caps : Nat → Nat} {st : List (Bool × List UInt8)} (S : Sepd W w [A, pagesA pb blk caps st, C]) {k j : Nat} {l : List UInt8} {c : UInt8} (hi : st[k]? = some (true, l)) (hj : j < 64) :
    Sepd W (w.setCell ⟨blk k, j, none⟩ (.int .u8 (c.toNat : Int))) [A, pagesA pb blk caps (st.set k (true, l.set j c)), C] := by
  have hP : PagesAt w pb blk caps st := S.get 1 rfl
  have hP' := hP.byte (c := c) hi hj
  exact S.upd 1 rfl (A' := pagesA pb blk caps (st.set k (true, l.set j c))) ((Only.refl _ _).setCell (.inl (mem_footP.2 (.inr ⟨k, l, hi, rfl⟩))) _) hP' (fun q hq => .inl (footP_byte hi q hq)) hP'.lts

theorem do_set_ok {st : List (Bool × List UInt8)} {o : Op7} {k1 j : Nat} {l1 : List UInt8} (hc : o.d % 4 = 2) (hh : hasB st o.f = true) (hf1 : o.f = (k1 : Int)) (hg1 : st[k1]? = some (true, l1)) (hxj : o.x = (j : Int)) (hj : j < 64) :
    doR st o = (0, false, 0) ∧ doS st o = st.set k1 (true, l1.set j o.b) := by
  have h2 : ¬ (o.d % 4 = 0) := by omega
  have h3 : ¬ (o.d % 4 = 1) := by omega
  constructor
  · have : (0 ≤ o.x ∧ o.x < 64) := by omega
    simp only [doR, setE, if_neg h2, if_neg h3, if_pos hc, hh, if_pos this, if_true]
  · have : hasB st o.f = true ∧ 0 ≤ o.x ∧ o.x < 64 := ⟨hh, by omega, by omega⟩
    simp only [doS, setS, if_neg h2, if_neg h3, if_pos hc, if_pos this]
    rw [hf1, hxj]
    simp [hg1]

theorem do_set_no {st : List (Bool × List UInt8)} {o : Op7} (hc : o.d % 4 = 2) (hok : ¬ (hasB st o.f = true ∧ 0 ≤ o.x ∧ o.x < 64)) :
    (∃ ev : Int, doR st o = (0, false, ev) ∧ (ev == 0) = false) ∧ doS st o = st := by
  have h2 : ¬ (o.d % 4 = 0) := by omega
  have h3 : ¬ (o.d % 4 = 1) := by omega
  constructor
  · simp only [doR, setE, if_neg h2, if_neg h3, if_pos hc]
    cases hh : hasB st o.f with
    | false => exact ⟨4, by simp, rfl⟩
    | true =>
      refine ⟨3, ?_, rfl⟩
      simp only [hh, true_and] at hok
      simp [hok]
  · simp only [doS, setS, if_neg h2, if_neg h3, if_pos hc, if_neg hok]

theorem do_fill_no {st : List (Bool × List UInt8)} {o : Op7} (hc : o.d % 4 = 3) (hh : hasB st o.f = false) : doR st o = (0, false, 4) ∧ doS st o = st := by
  have h1 : ¬ (o.d % 4 = 0) := by omega
  have h2 : ¬ (o.d % 4 = 1) := by omega
  have h3 : ¬ (o.d % 4 = 2) := by omega
  constructor
  · simp [doR, fillE, h1, h2, h3, hh]
  · simp [doS, fillS, h1, h2, h3, hh]

theorem do_fill_ok {st : List (Bool × List UInt8)} {o : Op7} {k1 : Nat} (hc : o.d % 4 = 3) (hh : hasB st o.f = true) (hf1 : o.f = (k1 : Int)) : doR st o = (0, false, 0) ∧ doS st o = st.set k1 (true, pad o.s.data.toList) := by
  have h1 : ¬ (o.d % 4 = 0) := by omega
  have h2 : ¬ (o.d % 4 = 1) := by omega
  have h3 : ¬ (o.d % 4 = 2) := by omega
  constructor
  · simp [doR, fillE, h1, h2, h3, hh]
  · simp only [doS, fillS, if_neg h1, if_neg h2, if_neg h3, hh, if_true]
    rw [hf1]; rfl

theorem relq_S {ops : Array Oper} {S E : World → World → Prop} {q i j : Nat} {a b : World} (h : relq ops S E q i j a b) (hb : ((i == q || M.early ops i q) || (j == q || M.early ops q j)) = true) : S a b := by
  unfold relq at h; rwa [if_pos hb] at h

/-- what lies below N stays -/
def EBel (N : Nat) (a b : World) : Prop := N ≤ a.heap.size → N ≤ b.heap.size ∧ Below N a b
instance (N : Nat) : Frm (EBel N) :=
  ⟨fun w h => ⟨h, Below.refl _ _⟩, fun h k ha => ⟨(k (h ha).1).1, (h ha).2.trans (k (h ha).1).2⟩, fun h ha => ⟨Nat.le_trans ha h.size, h.below.mono ha⟩⟩

theorem EBel.onlyd {w w' : World} (h : EBel w.heap.size w.drew w') : Only [] w w' := by
  have h2 := (h (Nat.le_refl _)).2
  exact ⟨h2.os, h2.tape, h2.output, h2.size, fun k hk _ => h2.block k hk⟩

theorem cellE {w w' : World} {b : Nat} (h : EBel w.heap.size w.drew w') (hb : b < w.drew.heap.size) (o : Nat) : w'.cell? ⟨b, o, none⟩ = w.cell? ⟨b, o, none⟩ := h.onlyd.cell hb (by simp)

theorem leE {w w' : World} (h : EBel w.heap.size w.drew w') : w.heap.size ≤ w'.heap.size := h.onlyd.size

theorem own_cut {w : World} {b cap nn : Nat} {s : ByteArray} (hb : Blk w b (bytesV (s.data.toList ++ List.replicate (cap - s.size) 0))) (h1 : nn ≤ s.size) (h2 : s.size ≤ cap) :
    Own w (.slice (some ⟨b, 0, none⟩) nn cap) nn 1 (bytesV (s.data.toList.take nn)) [b] := by
  have hz : s.data.toList.length = s.size := rfl
  have e : bytesV (s.data.toList ++ List.replicate (cap - s.size) 0) = bytesV (s.data.toList.take nn) ++ bytesV (s.data.toList.drop nn ++ List.replicate (cap - s.size) 0) := by
    simp only [bytesV, ← List.map_append, ← List.append_assoc, List.take_append_drop]
  rw [e] at hb
  refine ⟨by rw [bytesV_length, List.length_take]; omega, .inr ⟨b, cap, _, rfl, by omega, hb, ?_, rfl⟩⟩
  rw [← e, bytesV_length, List.length_append, List.length_replicate]; omega

theorem ap_done {N n : Nat} {w' w'' : World} {v : Value} {xs : List Value} {b : Nat} {foot' : List Nat} (hle : N ≤ w'.heap.size) (hb : N ≤ b) (hn : 0 < n) (h1 : Own w'' v n 1 xs foot') (h2 : Only [b] w' w'') (h3 : ∀ k ∈ foot', k ∈ [b] ∨ w'.heap.size ≤ k) :
    (∃ b, Own w'' v n 1 xs [b] ∧ N ≤ b) ∧ EBel N w' w'' := by
  obtain ⟨hx, hh⟩ := id h1
  refine ⟨?_, fun _ => ⟨Nat.le_trans hle h2.size, h2.os, h2.tape, h2.output, h2.size, fun k hk => h2.block k (by omega) (by simp; omega)⟩⟩
  rcases hh with ⟨_, h, _⟩ | ⟨b', cap, sp, _, _, _, _, hf⟩
  · omega
  · subst hf
    refine ⟨b', h1, ?_⟩
    have := h3 b' (by simp)
    simp at this; omega

theorem pad_cut {w : World} {v : Value} {b nn : Nat} {s : ByteArray} (hnn : nn = min s.size 64) (h : Own w v (nn + 64) 1 (bytesV (s.data.toList.take nn) ++ (List.replicate 64 [Value.int .u8 0]).flatten) [b]) :
    ∃ cap sp, v = .slice (some ⟨b, 0, none⟩) (nn + 64) cap ∧ 64 ≤ cap ∧ Blk w b (bytesV (pad s.data.toList) ++ sp) := by
  obtain ⟨hx, hh⟩ := h
  rcases hh with ⟨_, h, _⟩ | ⟨b', cap, sp, hv, hc, hb, hl, hf⟩
  · omega
  · simp only [List.cons.injEq, and_true] at hf
    subst hf
    have hz : s.data.toList.length = s.size := rfl
    refine ⟨cap, List.replicate nn (Value.int .u8 0) ++ sp, hv, by omega, ?_⟩
    have e : bytesV (s.data.toList.take nn) ++ (List.replicate 64 [Value.int .u8 0]).flatten = bytesV (pad s.data.toList) ++ List.replicate nn (Value.int .u8 0) := by
      rw [flat1]
      have e1 : List.replicate 64 (Value.int .u8 0) = List.replicate (64 - nn) (Value.int .u8 0) ++ List.replicate nn (Value.int .u8 0) := by
        rw [List.replicate_append_replicate]; congr 1; omega
      have e2 : s.data.toList.take nn = s.data.toList.take 64 := by
        rcases Nat.le_total s.size 64 with g | g
        · rw [List.take_of_length_le (by omega), List.take_of_length_le (by omega)]
        · congr 1; omega
      have e3 : 64 - nn = 64 - s.data.toList.length := by omega
      rw [e1, e2, e3, ← List.append_assoc]
      congr 1
      simp [pad, bytesV]
    rw [e] at hb
    rw [← List.append_assoc]; exact hb

set_option maxRecDepth 100000 in
set_option maxHeartbeats 4000000 in
theorem hold_law {W : World} {n : Int} {v1 : Value} {l : List Op7} (h1 : Ops W v1 l) :
    Calls Try.prog 4 #[.int .i64 n, v1] W fun e w' => e = .returned (.bool true) ∧ Below W.heap.size W w' := by
  obtain ⟨ao1, cap1, rfl, hc1, hm1, _⟩ := id h1
  have hl1 : l.length ≤ 9223372036854775807 := by omega
  by_cases hc : 1 ≤ n ∧ n ≤ 20 ∧ fewB l = true
  · obtain ⟨g1, g2, g3⟩ := hc
    obtain ⟨m, rfl⟩ := Int.eq_ofNat_of_zero_le (show 0 ≤ n by omega)
    have z1 : decide ((m : Int) < 1) = false := by simp; omega
    have z2 : decide (20 < (m : Int)) = false := by simp; omega
    go_enter Try.func4, Try.ntmps4
    go_wp2_with fail
    refine (small_any W).mono ?_
    rintro e w0 ⟨rfl, ho0⟩
    have K1 := hid (h1.keep ho0.below)
    go_wp2_with fail
    refine (few_any K1.out).mono ?_
    rintro e w' ⟨rfl, rfl⟩
    go_wp2_with fail
    refine (new_any w0 m m (by omega)).mono ?_
    rintro e w1 ⟨p, bb, rfl, F1, o1, hp, hbb⟩
    have S1 := hid (((Sepd.start W).only ho0).add (A' := framesA p bb (List.replicate m (false, zeros))) o1 F1 (by simp [framesA, hp, hbb]) F1.lts)
    clear F1 o1 ho0
    go_wp2_with ((with_reducible apply wpList_does (o := ⟨some 31, _, _, _, _, _⟩) rfl); (refine does_make 43 _ _ (by rfl) (by rfl) (by rfl) (n := m) (m := m) rfl rfl (Nat.le_refl _) Try.underlying43 (z := .slice none 0 0) (size := 1) (bytes := 24) (by kernel_rfl) rfl (by omega) (by omega)); rintro v w2 ⟨rfl, hb, ho, hs⟩; have HB := hid hb; have HO := hid ho; have HS := hid hs; clear hb ho hs)
    have S2 := hid (show Sepd W w2 [framesA p bb (List.replicate m (false, zeros)), pagesA w1.heap.size (fun _ => 0) (fun _ => 0) (List.replicate m (false, zeros))] from by
      refine S1.out.add (A' := pagesA w1.heap.size (fun _ => 0) (fun _ => 0) (List.replicate m (false, zeros))) HO.out (pages_start HB.out (by omega)) ?_ (pages_start HB.out (by omega)).lts
      simp [pagesA, footP_start])
    clear HB HO HS S1
    generalize hpb : w1.heap.size = pb at *
    clear hpb
    go_loopw [8] (fun i wr => ∃ (k : Nat) (blk caps : Nat → Nat), i = .int .i64 k ∧ k ≤ l.length ∧ Sepd W wr [framesA p bb (runS (List.replicate m (false, zeros)) (l.take k)), pagesA pb blk caps (runS (List.replicate m (false, zeros)) (l.take k))]) (fun i _ => l.length - (intOf i).toNat)
    case atStart => exact ⟨0, _, _, rfl, by omega, S2.out⟩
    case round =>
      obtain ⟨k, blk, caps, rfl, hk, F⟩ := hrel
      have S3 := hid F
      clear F S2
      by_cases hlt : k < l.length
      · obtain ⟨o, ho⟩ : ∃ o, l[k]? = some o := ⟨_, List.getElem?_eq_getElem hlt⟩
        obtain ⟨b, off, rfl, hbl, hat, hs⟩ := (h1.keep S3.out.bel).at ho
        have hat' := hid hat
        have HT := hid (runS_take (fs := List.replicate m (false, zeros)) ho)
        have hstl : (runS (List.replicate m (false, zeros)) (l.take k)).length = m := by rw [runS_length]; simp
        clear ho hat
        generalize runS (List.replicate m (false, zeros)) (List.take k l) = st at *
        go_wp2_with (first
          | ((with_reducible apply wpList_does (o := ⟨some 41, _, _, _, _, _⟩) rfl); (refine does_load_at 33 _ rfl rfl hat'.out Try.underlying33 rfl (by kernel_rfl)); rintro v w' ⟨rfl, rfl⟩)
          | ((with_reducible apply wpList_does (o := ⟨none, .store 33 (.tmp 9) _, _, _, _, _⟩) rfl); (refine does_store 33 _ _ rfl rfl rfl (Blk.new' wr _ _) (n := 5) (by kernel_rfl) rfl (by simp) (op7_one o)); rintro v w3 ⟨rfl, hb, ho, hsz⟩; have S4 := hid (S3.out.add (A' := blkA wr.heap.size o.cells) (((Only.refl [] wr).alloc _).trans ho (by simp)) hb (by simp [blkA]) (by simp [blkA, hsz])); clear hb ho hsz)
          | ((with_reducible apply wpList_does (o := ⟨some 44, _, _, _, _, _⟩) rfl); (refine does_load_at 33 _ rfl rfl (blk_at (S4.out.blk 2 rfl)) Try.underlying33 rfl (by kernel_rfl)); rintro v w' ⟨rfl, rfl⟩))
        refine (do_any (S4.out.get 0 rfl) o hs).mono ?_
        rintro e w4 ⟨rfl, F2, o2⟩
        have S5 := hid (S4.out.upd 0 rfl o2 (A' := framesA p bb (doS st o)) F2 (fun k hk => .inl hk) F2.lts)
        clear F2 o2 S4 hat'
        have B := (S5.out.blk 2 rfl)
        have d0 := B.cell (o := 0) rfl
        have d1 := B.cell (o := 1) rfl
        have d2 := B.cell (o := 2) rfl
        have d3 := B.cell (o := 3) rfl
        have d4 := B.cell (o := 4) rfl
        clear B
        have hcase : o.d % 4 = 0 ∨ o.d % 4 = 1 ∨ o.d % 4 = 2 ∨ o.d % 4 = 3 := by
          have := Int.emod_nonneg o.d (show (4 : Int) ≠ 0 by omega)
          have := Int.emod_lt_of_pos o.d (show (0 : Int) < 4 by omega)
          omega
        have Hpick := hid (pick_any o.d 4 (by omega) (by omega) w4)
        rcases hcase with hc | hc | hc | hc
        · cases hff : firstFree st with
          | none =>
            have hR : doR st o = (0, false, 0) := by simp [doR, hc, hff]
            have hS : doS st o = st := by simp [doS, hc, allocS, hff]
            rw [hS] at S5 HT
            have S6 := hid S5.out
            rw [hR]
            simp only [tri]
            have HC := hid (firstFree_none hff)
            clear hff hR hS S5
            have z3 : ¬ (count st < m) := by rw [HC.out]; omega
            go_wp2_with (first
              | (go_at_call 22; refine Hpick.out.mono ?_; rintro e w' ⟨rfl, rfl⟩)
              | (go_at_call 13; refine (used_any (S6.out.get 0 rfl)).mono ?_; rintro e w' ⟨rfl, rfl⟩)
              | (go_at_call 23; refine (pused_at (S6.out.get 1 rfl) hstl).mono ?_; rintro e w' ⟨rfl, rfl⟩)
              | (go_at_call 24; refine (holds_at (S6.out.get 0 rfl) (S6.out.get 1 rfl) hstl).mono ?_; rintro e w6 ⟨rfl, ho6⟩; have HO6 := hid ho6; clear ho6))
            exact ⟨⟨k + 1, blk, caps, by simp, by omega, by rw [HT.out]; exact sep_front (S6.out.only HO6.out)⟩, by simp [intOf]; omega⟩
          | some k1 =>
            obtain ⟨hk1, ⟨b1, l1⟩, hg1, hb1⟩ := firstFree_some hff
            simp only at hb1
            subst hb1
            have hR : doR st o = ((k1 : Int), true, 0) := by simp [doR, hc, hff]
            have hS : doS st o = st.set k1 zframe := by simp [doS, hc, allocS, hff]
            have hC : count (st.set k1 zframe) = count st + 1 := by have := count_set (h := zframe) hg1; simp [zframe] at this ⊢; omega
            rw [hS] at S5 HT
            rw [hR]
            simp only [tri]
            have z3 : count st < count (st.set k1 zframe) := by omega
            have z4 : k1 < m := by omega
            have HG1 := hid hg1
            have hstl' : (st.set k1 zframe).length = m := by simpa using hstl
            clear hff hR hS hg1 hC
            go_wp2_with (first
              | (go_at_call 22; refine Hpick.out.mono ?_; rintro e w' ⟨rfl, rfl⟩)
              | (go_at_call 13; refine (used_any (S5.out.get 0 rfl)).mono ?_; rintro e w' ⟨rfl, rfl⟩)
              | (go_at_call 23; refine (pused_at (S5.out.get 1 rfl) hstl).mono ?_; rintro e w' ⟨rfl, rfl⟩)
              | ((with_reducible apply wpList_does (o := ⟨some 124, _, _, _, _, _⟩) rfl); (refine does_make 46 _ _ (by rfl) (by rfl) (by rfl) (n := 64) (m := 64) rfl rfl (Nat.le_refl _) Try.underlying46 (z := .int .u8 0) (size := 1) (bytes := 1) (by kernel_rfl) rfl (by omega) (by omega)); rintro v w5 ⟨rfl, hb, ho, hs5⟩; have S6 := hid (pages_put S5.out ho (k := k1) (l := zeros) (sp := []) (cap := 64) (by omega) (by exact hb) (Nat.le_refl _) (Nat.le_refl _) zeros_length); have c1 := (((S5.out.get 1 rfl : PagesAt _ _ _ _ _)).congr (w' := w5) (fun q hq => ho.block q ((S5.out.get 1 rfl : PagesAt _ _ _ _ _).lts q hq) (by simp))).cell HG1.out; have c2 := (ho.blk (S5.out.get 1 rfl : PagesAt _ _ _ _ _).row (by simp)).free k1 (by rw [pagesV_length]; omega); clear hb ho hs5; simp only [pageV] at c1)
              | (go_at_call 24; refine (holds_at (S6.out.get 0 rfl) (S6.out.get 1 rfl) hstl').mono ?_; rintro e w6 ⟨rfl, ho6⟩; have HO6 := hid ho6; clear ho6))
            exact ⟨⟨k + 1, _, _, by simp, by omega, by rw [HT.out]; exact sep_front (S6.out.only HO6.out)⟩, by simp [intOf]; omega⟩
        · cases hh : hasB st o.f with
          | false =>
            have hR : doR st o = (0, false, 4) := by simp [doR, hc, freeE, hh]
            have hS : doS st o = st := by simp [doS, hc, freeS, hh]
            rw [hS] at S5 HT
            have S6 := hid S5.out
            rw [hR]
            simp only [tri]
            clear hh hR hS S5
            go_wp2_with (first
              | (go_at_call 22; refine Hpick.out.mono ?_; rintro e w' ⟨rfl, rfl⟩)
              | (go_at_call 24; refine (holds_at (S6.out.get 0 rfl) (S6.out.get 1 rfl) hstl).mono ?_; rintro e w6 ⟨rfl, ho6⟩; have HO6 := hid ho6; clear ho6))
            exact ⟨⟨k + 1, blk, caps, by simp, by omega, by rw [HT.out]; exact sep_front (S6.out.only HO6.out)⟩, by simp [intOf]; omega⟩
          | true =>
            obtain ⟨k1, hf1, hk1, l1, hg1⟩ := hasB_true hh
            have hR : doR st o = (0, false, 0) := by simp [doR, hc, freeE, hh]
            have hS : doS st o = st.set k1 (false, l1) := by rw [hf1] at hh; simp [doS, hc, freeS, hf1, hh, hg1]
            rw [hS] at S5 HT
            have hP : PagesAt w4 pb blk caps st := S5.out.get 1 rfl
            have hl1' : l1.length = 64 := hP.wf _ (List.mem_of_getElem? hg1)
            have S6 := hid (pages_drop S5.out hk1 hl1')
            have c1 := hP.cell hg1
            have c2 := hP.row.free k1 (by rw [pagesV_length]; omega)
            rw [hR]
            simp only [tri]
            rw [hf1] at d1
            simp only [pageV] at c1
            have z4 : k1 < m := by omega
            have hstl' : (st.set k1 (false, l1)).length = m := by simpa using hstl
            clear hh hR hS S5 hg1 hP
            go_wp2_with (first
              | (go_at_call 22; refine Hpick.out.mono ?_; rintro e w' ⟨rfl, rfl⟩)
              | (go_at_call 24; refine (holds_at (S6.out.get 0 rfl) (S6.out.get 1 rfl) hstl').mono ?_; rintro e w6 ⟨rfl, ho6⟩; have HO6 := hid ho6; clear ho6))
            exact ⟨⟨k + 1, _, _, by simp, by omega, by rw [HT.out]; exact sep_front (S6.out.only HO6.out)⟩, by simp [intOf]; omega⟩
        · by_cases hok : hasB st o.f = true ∧ 0 ≤ o.x ∧ o.x < 64
          · obtain ⟨hh, hx0, hx1⟩ := hok
            obtain ⟨k1, hf1, hk1, l1, hg1⟩ := hasB_true hh
            obtain ⟨j, hxj⟩ := Int.eq_ofNat_of_zero_le hx0
            have hj : j < 64 := by omega
            obtain ⟨hR, hS⟩ := do_set_ok hc hh hf1 hg1 hxj hj
            rw [hS] at S5 HT
            have hP : PagesAt w4 pb blk caps st := S5.out.get 1 rfl
            have hl1' : l1.length = 64 := hP.wf _ (List.mem_of_getElem? hg1)
            have c1 := hP.cell hg1
            rw [hR]
            simp only [tri]
            rw [hf1] at d1
            rw [hxj] at d2
            simp only [pageV] at c1
            have hcc : 64 ≤ caps k1 := (hP.page k1 l1 hg1).1
            have z4 : k1 < m := by omega
            have hk0 : (0 : Int) ≤ (k1 : Int) := by omega
            have hkm : (k1 : Int) < (m : Int) := by omega
            have hstl' : (st.set k1 (true, l1.set j o.b)).length = m := by simpa using hstl
            have HG := hid hg1
            have hxl : wr.heap.size < w4.drew.heap.size := (S5.out.blk 2 rfl).lt
            have hpl : pb < w4.drew.heap.size := hP.row.lt
            clear hh hR hS hg1 hP
            go_wp2_with (first
              | (go_at_call 22; refine Hpick.out.mono ?_; rintro e w' ⟨rfl, rfl⟩))
            refine named_act (fun A HA => ?_)
            have k7 : A.eval (.tmp 7) = .slice (some ⟨pb, 0, none⟩) m m := by rw [HA.out]; rfl
            have k9 : A.eval (.tmp 9) = .pointer (some ⟨wr.heap.size, 0, none⟩) := by rw [HA.out]; rfl
            have ksz : A.tmps.size = 198 := by rw [HA.out]; rfl
            refine wp_region_fam 9 (rs [fun v _ => v = .slice (some ⟨pb, 0, none⟩) m m, fun v _ => v = .pointer (some ⟨wr.heap.size, 1, none⟩), fun v _ => v = .int .i64 k1, fun v _ => v = .pointer (some ⟨pb, k1, none⟩), fun v _ => v = .slice (some ⟨blk k1, 0, none⟩) 64 (caps k1), fun v _ => v = .pointer (some ⟨wr.heap.size, 2, none⟩), fun v _ => v = .int .i64 j, fun v _ => v = .pointer (some ⟨wr.heap.size, 3, none⟩), fun v _ => v = .int .u8 (o.b.toNat : Int)]) (by kernel_rfl) (by kernel_rfl) ?_ ?_
            · refine ⟨?_, ?_, ?_, ?_, ?_, ?_, ?_, ?_, ?_, trivial⟩
              all_goals intro ys w' ho hp
              · exact step_val _ (by exact rfl) (ex_move rfl ((ev_old _ 0 ys A 7 (by decide)).trans k7)) rfl
              · refine step_val (.pointer (some ⟨wr.heap.size, 1, none⟩)) (by exact rfl) ?_ (by rfl)
                simp only [execOp]
                rw [((ev_old _ 0 ys A 9 (by decide)).trans k9)]
                simp [go_sem]
              · obtain ⟨_, _, q1⟩ := hp.1 rfl
                refine step_val (.int .i64 k1) (by exact rfl) ?_ (by rfl)
                simp only [execOp]
                rw [((ev_dst _ 0 ys A 1 184 rfl (by decide) (by omega)).trans q1)]
                simp [go_sem, (ho.cell (o := 1) hxl (by simp)).trans d1]
              · obtain ⟨_, _, q0⟩ := hp.1 rfl
                obtain ⟨_, _, q2⟩ := hp.2.1 rfl
                refine step_val (.pointer (some ⟨pb, k1, none⟩)) (by exact rfl) ?_ (by rfl)
                simp only [execOp]
                rw [((ev_dst _ 0 ys A 0 183 rfl (by decide) (by omega)).trans q0)]
                rw [((ev_dst _ 0 ys A 2 185 rfl (by decide) (by omega)).trans q2)]
                simp [go_sem, hk0, hkm]
              · obtain ⟨_, _, q3⟩ := hp.1 rfl
                refine step_val (.slice (some ⟨blk k1, 0, none⟩) 64 (caps k1)) (by exact rfl) ?_ (by rfl)
                simp only [execOp]
                rw [((ev_dst _ 0 ys A 3 186 rfl (by decide) (by omega)).trans q3)]
                simp [go_sem, (ho.cell (o := k1) hpl (by simp)).trans c1]
              · refine step_val (.pointer (some ⟨wr.heap.size, 2, none⟩)) (by exact rfl) ?_ (by rfl)
                simp only [execOp]
                rw [((ev_old _ 0 ys A 9 (by decide)).trans k9)]
                simp [go_sem]
              · obtain ⟨_, _, q5⟩ := hp.1 rfl
                refine step_val (.int .i64 j) (by exact rfl) ?_ (by rfl)
                simp only [execOp]
                rw [((ev_dst _ 0 ys A 5 188 rfl (by decide) (by omega)).trans q5)]
                simp [go_sem, (ho.cell (o := 2) hxl (by simp)).trans d2]
              · refine step_val (.pointer (some ⟨wr.heap.size, 3, none⟩)) (by exact rfl) ?_ (by rfl)
                simp only [execOp]
                rw [((ev_old _ 0 ys A 9 (by decide)).trans k9)]
                simp [go_sem]
              · obtain ⟨_, _, q7⟩ := hp.1 rfl
                refine step_val (.int .u8 (o.b.toNat : Int)) (by exact rfl) ?_ (by rfl)
                simp only [execOp]
                rw [((ev_dst _ 0 ys A 7 190 rfl (by decide) (by omega)).trans q7)]
                simp [go_sem, (ho.cell (o := 3) hxl (by simp)).trans d3]
            · intro ys w' ho hall
              have q0 : ys 0 = .slice (some ⟨pb, 0, none⟩) m m := by obtain ⟨_, _, q⟩ := hall 0 (by omega); exact q
              have q1 : ys 1 = .pointer (some ⟨wr.heap.size, 1, none⟩) := by obtain ⟨_, _, q⟩ := hall 1 (by omega); exact q
              have q2 : ys 2 = .int .i64 k1 := by obtain ⟨_, _, q⟩ := hall 2 (by omega); exact q
              have q3 : ys 3 = .pointer (some ⟨pb, k1, none⟩) := by obtain ⟨_, _, q⟩ := hall 3 (by omega); exact q
              have q4 : ys 4 = .slice (some ⟨blk k1, 0, none⟩) 64 (caps k1) := by obtain ⟨_, _, q⟩ := hall 4 (by omega); exact q
              have q5 : ys 5 = .pointer (some ⟨wr.heap.size, 2, none⟩) := by obtain ⟨_, _, q⟩ := hall 5 (by omega); exact q
              have q6 : ys 6 = .int .i64 j := by obtain ⟨_, _, q⟩ := hall 6 (by omega); exact q
              have q7 : ys 7 = .pointer (some ⟨wr.heap.size, 3, none⟩) := by obtain ⟨_, _, q⟩ := hall 7 (by omega); exact q
              have q8 : ys 8 = .int .u8 (o.b.toNat : Int) := by obtain ⟨_, _, q⟩ := hall 8 (by omega); exact q
              clear hall ksz k7 k9
              rw [HA.out]
              clear HA
              simp only [putAll, List.take, List.drop, Act.put, List.setIfInBounds_toArray, List.set_cons_succ, List.set_cons_zero, Nat.reduceAdd, q0, q1, q2, q3, q4, q5, q6, q7, q8]
              clear q0 q1 q2 q3 q4 q5 q6 q7 q8
              have S6 := hid (S5.out.only ((Only.refl _ _).drew.trans0 ho))
              have hP : PagesAt w' pb blk caps st := S6.out.get 1 rfl
              obtain ⟨_, sp, hpg⟩ := hP.page k1 l1 HG.out
              obtain ⟨v0, hv0⟩ : ∃ v0, (bytesV l1 ++ sp)[j]? = some v0 := ⟨_, List.getElem?_eq_getElem (by rw [List.length_append, bytesV_length]; omega)⟩
              have c3 := hpg.cell hv0
              have c4 := hpg.free j (by rw [List.length_append, bytesV_length]; omega)
              have S7 := hid (pages_byte S6.out (c := o.b) HG.out hj)
              clear hP hpg hv0 S5 S6 ho
              go_wp2_with (first
                | (go_at_call 24; refine (holds_at (S7.out.get 0 rfl) (S7.out.get 1 rfl) hstl').mono ?_; rintro e w6 ⟨rfl, ho6⟩; have HO6 := hid ho6; clear ho6))
              exact ⟨⟨k + 1, _, _, by simp, by omega, by rw [HT.out]; exact sep_front (S7.out.only HO6.out)⟩, by simp [intOf]; omega⟩
          · obtain ⟨⟨ev, hR, hev⟩, hS⟩ := do_set_no hc hok
            rw [hS] at S5 HT
            have S6 := hid S5.out
            rw [hR]
            simp only [tri]
            clear hok hR hS S5
            go_wp2_with (first
              | (go_at_call 22; refine Hpick.out.mono ?_; rintro e w' ⟨rfl, rfl⟩)
              | (go_at_call 24; refine (holds_at (S6.out.get 0 rfl) (S6.out.get 1 rfl) hstl).mono ?_; rintro e w6 ⟨rfl, ho6⟩; have HO6 := hid ho6; clear ho6))
            exact ⟨⟨k + 1, blk, caps, by simp, by omega, by rw [HT.out]; exact sep_front (S6.out.only HO6.out)⟩, by simp [intOf]; omega⟩
        · cases hh : hasB st o.f with
          | false =>
            obtain ⟨hR, hS⟩ := do_fill_no hc hh
            rw [hS] at S5 HT
            have S6 := hid S5.out
            rw [hR]
            simp only [tri]
            clear hh hR hS S5
            go_wp2_with (first
              | (go_at_call 22; refine Hpick.out.mono ?_; rintro e w' ⟨rfl, rfl⟩)
              | (go_at_call 24; refine (holds_at (S6.out.get 0 rfl) (S6.out.get 1 rfl) hstl).mono ?_; rintro e w6 ⟨rfl, ho6⟩; have HO6 := hid ho6; clear ho6))
            exact ⟨⟨k + 1, blk, caps, by simp, by omega, by rw [HT.out]; exact sep_front (S6.out.only HO6.out)⟩, by simp [intOf]; omega⟩
          | true =>
            obtain ⟨k1, hf1, hk1, l1, hg1⟩ := hasB_true hh
            obtain ⟨hR, hS⟩ := do_fill_ok hc hh hf1
            rw [hS] at S5 HT
            have hP : PagesAt w4 pb blk caps st := S5.out.get 1 rfl
            have c1 := hP.cell hg1
            have c2 := hP.row.free k1 (by rw [pagesV_length]; omega)
            rw [hR]
            simp only [tri]
            rw [hf1] at d1
            simp only [pageV] at c1
            have z4 : k1 < m := by omega
            have hk0 : (0 : Int) ≤ (k1 : Int) := by omega
            have hkm : (k1 : Int) < (m : Int) := by omega
            have hstl' : (st.set k1 (true, pad o.s.data.toList)).length = m := by simpa using hstl
            have HG := hid hg1
            have hpl' : pb < w4.heap.size := hP.row.lt
            have hxl : wr.heap.size < w4.drew.heap.size := (S5.out.blk 2 rfl).lt
            obtain ⟨nn, hnn⟩ : ∃ nn : Nat, nn = min o.s.size 64 := ⟨_, rfl⟩
            have hn1' : nn ≤ o.s.size := by omega
            have hn2' : nn ≤ 64 := by omega
            have hmin : (if (64 : Int) < (o.s.size : Int) then (64 : Int) else (o.s.size : Int)) = (nn : Int) := by split <;> omega
            have HNN := hid hnn
            clear hh hR hS hg1 hP hnn
            go_wp2_with (first
              | (go_at_call 22; refine Hpick.out.mono ?_; rintro e w' ⟨rfl, rfl⟩))
            refine named_act (fun A HA => ?_)
            have k7 : A.eval (.tmp 7) = .slice (some ⟨pb, 0, none⟩) m m := by rw [HA.out]; rfl
            have k9 : A.eval (.tmp 9) = .pointer (some ⟨wr.heap.size, 0, none⟩) := by rw [HA.out]; rfl
            have ksz : A.tmps.size = 198 := by rw [HA.out]; rfl
            refine wp_region_famq (Only []) (EBel w4.heap.size) (fun _ _ h => Frm.only h) 11 13 (rs [fun v _ => v = .slice (some ⟨pb, 0, none⟩) m m, fun v _ => v = .pointer (some ⟨wr.heap.size, 1, none⟩), fun v _ => v = .int .i64 k1, fun v _ => v = .pointer (some ⟨wr.heap.size, 4, none⟩), fun v _ => v = .string o.s, fun v w => ∃ b cap, v = .slice (some ⟨b, 0, none⟩) o.s.size cap ∧ o.s.size ≤ cap ∧ Blk w b (bytesV (o.s.data.toList ++ List.replicate (cap - o.s.size) 0)) ∧ w4.heap.size ≤ b, fun v _ => v = .pointer (some ⟨wr.heap.size, 4, none⟩), fun v _ => v = .string o.s, fun v _ => v = .int .i64 (o.s.size : Int), fun v _ => v = .int .i64 (nn : Int), fun v w => ∃ b, Own w v nn 1 (bytesV (o.s.data.toList.take nn)) [b] ∧ w4.heap.size ≤ b, fun v w => ∃ b, Own w v (nn + 64) 1 (bytesV (o.s.data.toList.take nn) ++ (List.replicate 64 [Value.int .u8 0]).flatten) [b] ∧ w4.heap.size ≤ b, fun v w => ∃ b cap sp, v = .slice (some ⟨b, 0, none⟩) 64 cap ∧ 64 ≤ cap ∧ Blk w b (bytesV (pad o.s.data.toList) ++ sp) ∧ w4.heap.size ≤ b]) (by kernel_rfl) (by kernel_rfl) ?_ ?_
            · refine ⟨?_, ?_, ?_, ?_, ?_, ?_, ?_, ?_, ?_, ?_, ?_, ?_, ?_, trivial⟩
              all_goals intro ys w' ho hp
              · refine step_onlyq (by rfl) ?_
                exact step_val _ (by exact rfl) (ex_move rfl ((ev_old _ 0 ys A 7 (by decide)).trans k7)) rfl
              · refine step_onlyq (by rfl) ?_
                refine step_val (.pointer (some ⟨wr.heap.size, 1, none⟩)) (by exact rfl) ?_ (by rfl)
                simp only [execOp]
                rw [((ev_old _ 0 ys A 9 (by decide)).trans k9)]
                simp [go_sem]
              · refine step_onlyq (by rfl) ?_
                obtain ⟨_, _, q1⟩ := hp.1 rfl
                refine step_val (.int .i64 k1) (by exact rfl) ?_ (by rfl)
                simp only [execOp]
                rw [((ev_dst _ 0 ys A 1 77 rfl (by decide) (by omega)).trans q1)]
                simp [go_sem, (cellE ho hxl 1).trans d1]
              · refine step_onlyq (by rfl) ?_
                refine step_val (.pointer (some ⟨wr.heap.size, 4, none⟩)) (by exact rfl) ?_ (by rfl)
                simp only [execOp]
                rw [((ev_old _ 0 ys A 9 (by decide)).trans k9)]
                simp [go_sem]
              · refine step_onlyq (by rfl) ?_
                obtain ⟨_, _, q3⟩ := hp.1 rfl
                refine step_val (.string o.s) (by exact rfl) ?_ (by rfl)
                simp only [execOp]
                rw [((ev_dst _ 0 ys A 3 79 rfl (by decide) (by omega)).trans q3)]
                simp [go_sem, (cellE ho hxl 4).trans d4]
              · refine step_onlyq (by rfl) ?_
                obtain ⟨_, _, q4⟩ := hp.1 rfl
                refine step_does (R := fun v w'' => ∃ b cap, v = .slice (some ⟨b, 0, none⟩) o.s.size cap ∧ o.s.size ≤ cap ∧ Blk w'' b (bytesV (o.s.data.toList ++ List.replicate (cap - o.s.size) 0)) ∧ w4.heap.size ≤ b ∧ Only [] w' w'') (by exact rfl) ?_ (fun v w'' ⟨b, cap, h1, h2, h3, h4, h5⟩ => ⟨h5, b, cap, h1, h2, h3, h4⟩)
                exact (does_bytes 9 46 (.tmp 80) rfl ((ev_dst _ 0 ys A 4 80 rfl (by decide) (by omega)).trans q4) Try.underlying9 Try.underlying46 Try.underlying5).mono (fun v w'' ⟨cap, h1, h2, h3, h4, _⟩ => ⟨_, cap, h2, h1, h3, leE ho, h4⟩)
              · refine step_onlyq (by rfl) ?_
                refine step_val (.pointer (some ⟨wr.heap.size, 4, none⟩)) (by exact rfl) ?_ (by rfl)
                simp only [execOp]
                rw [((ev_old _ 0 ys A 9 (by decide)).trans k9)]
                simp [go_sem]
              · refine step_onlyq (by rfl) ?_
                obtain ⟨_, _, q6⟩ := hp.1 rfl
                refine step_val (.string o.s) (by exact rfl) ?_ (by rfl)
                simp only [execOp]
                rw [((ev_dst _ 0 ys A 6 82 rfl (by decide) (by omega)).trans q6)]
                simp [go_sem, (cellE ho hxl 4).trans d4]
              · refine step_onlyq (by rfl) ?_
                obtain ⟨_, _, q7⟩ := hp.1 rfl
                refine step_val (.int .i64 (o.s.size : Int)) (by exact rfl) ?_ (by rfl)
                simp only [execOp, resolve, List.map_toArray, List.map_cons, List.map_nil]
                rw [((ev_dst _ 0 ys A 7 83 rfl (by decide) (by omega)).trans q7)]
                simp [go_sem, hs]
              · refine step_onlyq (by rfl) ?_
                obtain ⟨_, _, q8⟩ := hp.1 rfl
                refine step_val (.int .i64 (nn : Int)) (by exact rfl) ?_ (by rfl)
                simp only [execOp, resolve, List.map_toArray, List.map_cons, List.map_nil]
                rw [((ev_dst _ 0 ys A 8 84 rfl (by decide) (by omega)).trans q8)]
                simp [go_sem]
                exact hmin
              · refine step_onlyq (by rfl) ?_
                obtain ⟨w1, o1, b5, cap5, q5, g5, k5, n5⟩ := hp.1 rfl
                obtain ⟨_, _, q9⟩ := hp.2.1 rfl
                refine step_does (R := fun v w'' => (∃ b, Own w'' v nn 1 (bytesV (o.s.data.toList.take nn)) [b] ∧ w4.heap.size ≤ b) ∧ w' = w'') (by exact rfl) ?_ (fun v w'' ⟨h1, h2⟩ => ⟨h2 ▸ Only.refl _ _, h1⟩)
                exact (does_slice 46 (.tmp 81) none (some (.tmp 85)) rfl ((ev_dst _ 0 ys A 5 81 rfl (by decide) (by omega)).trans q5) Try.underlying46 (sz := 1) (by kernel_rfl) 0 nn bnd_none (bnd_some ((ev_dst _ 0 ys A 9 85 rfl (by decide) (by omega)).trans q9)) (by omega) (by omega)).mono (fun v w'' ⟨h1, h2⟩ => ⟨⟨b5, by subst h1 h2; rw [show (if cap5 = 0 then 0 else 0 + 0 * 1) = 0 from by split <;> rfl]; exact own_cut ((relq_S o1 (by kernel_rfl)).blk k5 (by simp)) hn1' g5, n5⟩, h2⟩)
              · change stepOf _ _ (EBel w4.heap.size) _ _ _ _ _
                obtain ⟨w2, o2, b10, q10, n10⟩ := hp.1 rfl
                refine step_doesE (R := fun v w'' => (∃ b, Own w'' v (nn + 64) 1 (bytesV (o.s.data.toList.take nn) ++ (List.replicate 64 [Value.int .u8 0]).flatten) [b] ∧ w4.heap.size ≤ b) ∧ EBel w4.heap.size w' w'') (by exact rfl) ?_ (fun v w'' ⟨h1, h2⟩ => ⟨h2, h1⟩)
                exact (does_append_zeros 46 3 (.tmp 86) (.const (.int .i64 64)) rfl ((relq_S o2 (by kernel_rfl)).own q10 (by simp)) ((ev_dst _ 0 ys A 10 86 rfl (by decide) (by omega))) rfl (m := 64) (bytes := 1) (z := .int .u8 0) Try.underlying46 Try.underlying3 (by kernel_rfl) rfl (by omega) (by omega) (by simp [Value.cells]; rfl) (by omega) (by omega)).mono (fun v w'' ⟨foot', h1, h2, h3, h4⟩ => ap_done (leE ho) n10 (by omega) h1 h2 h3)
              · refine step_onlyq (by rfl) ?_
                obtain ⟨w3, o3, b11, q11, n11⟩ := hp.1 rfl
                obtain ⟨cap, sp, hq, hcp, hbk⟩ := pad_cut HNN.out ((relq_S o3 (by kernel_rfl)).own q11 (by simp))
                refine step_does (R := fun v w'' => (∃ b cap sp, v = .slice (some ⟨b, 0, none⟩) 64 cap ∧ 64 ≤ cap ∧ Blk w'' b (bytesV (pad o.s.data.toList) ++ sp) ∧ w4.heap.size ≤ b) ∧ w' = w'') (by exact rfl) ?_ (fun v w'' ⟨h1, h2⟩ => ⟨h2 ▸ Only.refl _ _, h1⟩)
                exact (does_slice 46 (.tmp 87) none (some (.const (.int .i64 64))) rfl ((ev_dst _ 0 ys A 11 87 rfl (by decide) (by omega)).trans hq) Try.underlying46 (sz := 1) (by kernel_rfl) 0 64 bnd_none (bnd_some rfl) (by omega) (by omega)).mono (fun v w'' ⟨h1, h2⟩ => ⟨⟨b11, cap, sp, by subst h1; simp, hcp, h2 ▸ hbk, n11⟩, h2⟩)
            · intro ys w' ho hall
              have q0 : ys 0 = .slice (some ⟨pb, 0, none⟩) m m := by obtain ⟨_, _, q⟩ := hall 0 (by omega); exact q
              have q1 : ys 1 = .pointer (some ⟨wr.heap.size, 1, none⟩) := by obtain ⟨_, _, q⟩ := hall 1 (by omega); exact q
              have q2 : ys 2 = .int .i64 k1 := by obtain ⟨_, _, q⟩ := hall 2 (by omega); exact q
              have q3 : ys 3 = .pointer (some ⟨wr.heap.size, 4, none⟩) := by obtain ⟨_, _, q⟩ := hall 3 (by omega); exact q
              have q4 : ys 4 = .string o.s := by obtain ⟨_, _, q⟩ := hall 4 (by omega); exact q
              obtain ⟨w1, o1, b5, cap5, q5, g5, k5, n5⟩ := hall 5 (by omega)
              have q6 : ys 6 = .pointer (some ⟨wr.heap.size, 4, none⟩) := by obtain ⟨_, _, q⟩ := hall 6 (by omega); exact q
              have q7 : ys 7 = .string o.s := by obtain ⟨_, _, q⟩ := hall 7 (by omega); exact q
              have q8 : ys 8 = .int .i64 (o.s.size : Int) := by obtain ⟨_, _, q⟩ := hall 8 (by omega); exact q
              have q9 : ys 9 = .int .i64 (nn : Int) := by obtain ⟨_, _, q⟩ := hall 9 (by omega); exact q
              obtain ⟨w2, o2, b10, q10, n10⟩ := hall 10 (by omega)
              obtain ⟨w3, o3, b11, q11, n11⟩ := hall 11 (by omega)
              obtain ⟨w12, o12, b12, cap12, sp12, q12, g12, k12, n12⟩ := hall 12 (by omega)
              clear hall ksz k7 k9
              rw [HA.out]
              clear HA
              simp only [putAll, List.take, List.drop, Act.put, List.setIfInBounds_toArray, List.set_cons_succ, List.set_cons_zero, Nat.reduceAdd, q0, q1, q2, q3, q4, q6, q7, q8, q9]
              clear q0 q1 q2 q3 q4 q6 q7 q8 q9
              have ho' : Only [] w4 w' := ho.onlyd
              have S6 := hid (pages_put S5.out ho' (k := k1) (l := pad o.s.data.toList) (sp := sp12) (cap := cap12) (b := b12) (by omega) ((relq_S o12 (by kernel_rfl)).blk k12 (by simp)) n12 g12 (pad_length _))
              have c1' := (ho'.cell (o := k1) hpl' (by simp)).trans c1
              have c2' := (ho'.blk (S5.out.get 1 rfl : PagesAt _ _ _ _ _).row (by simp)).free k1 (by rw [pagesV_length]; omega)
              clear ho ho' S5 c1 c2 k12 o12 k5 q10 q11
              go_wp2_with (first
                | (go_at_call 24; refine (holds_at (S6.out.get 0 rfl) (S6.out.get 1 rfl) hstl').mono ?_; rintro e w6 ⟨rfl, ho6⟩; have HO6 := hid ho6; clear ho6))
              exact ⟨⟨k + 1, _, _, by simp, by omega, by rw [HT.out]; exact sep_front (S6.out.only HO6.out)⟩, by simp [intOf]; omega⟩
      · obtain rfl : k = l.length := by omega
        have hbel := S3.out.bel
        clear hk hlt S3
        go_wp2_with fail
        go_ret
        exact ⟨rfl, hbel⟩
  · have hcases : n < 1 ∨ (1 ≤ n ∧ 20 < n) ∨ (1 ≤ n ∧ n ≤ 20 ∧ fewB l = false) := by
      rcases Bool.eq_false_or_eq_true (fewB l) with e1 | e1 <;> simp [e1] at hc ⊢ <;> omega
    clear hc
    rcases hcases with g1 | ⟨g1, g2⟩ | ⟨g1, g2, g3⟩
    all_goals
      go_enter Try.func4, Try.ntmps4
      go_wp2_with fail
      refine (small_any W).mono ?_
      rintro e w0 ⟨rfl, ho0⟩
      have hb0 := ho0.below
      have K1 := hid (h1.keep hb0)
      go_wp2_with fail
      try (refine (few_any K1.out).mono ?_; rintro e w' ⟨rfl, rfl⟩; go_wp2_with fail)
      go_ret
      exact ⟨rfl, hb0⟩
end Go.Proofs.Ytpcchkkpligemaa
