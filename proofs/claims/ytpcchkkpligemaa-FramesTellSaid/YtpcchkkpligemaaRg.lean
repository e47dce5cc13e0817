/- Package rehearsalref07: Alloc, Set and Fill. -/
import Derived.Test.YtpcchkkpligemaaRf
namespace Go.Proofs.Ytpcchkkpligemaa
open Go.RowKit M

set_option maxHeartbeats 1000000 in
theorem ralloc_any {w : World} {r lb : Nat} {fs : List (Bool × List UInt8)} (h : RefAt w r lb fs) :
    Calls Try.prog 30 #[.pointer (some ⟨r, 0, none⟩)] w (LeftR r lb w (allocV fs) (allocS fs)) := by
  obtain ⟨cap, hp, hcap⟩ := h.str
  have hlen := h.len
  have c0 := hp.cell (o := 0) rfl
  have hrl := hp.lt
  have HP := hid hp
  clear hp
  go_enter Try.func30, Try.ntmps30
  go_wp2
  go_loop [4] (fun i => ∃ k : Nat, i = .int .i64 k ∧ k ≤ fs.length ∧ ∀ (j : Nat) (g : Bool × List UInt8), j < k → fs[j]? = some g → g.1 = true) (fun i => fs.length - (intOf i).toNat)
  case atStart => exact ⟨0, rfl, by omega, by intros; omega⟩
  case round =>
    obtain ⟨k, rfl, hk, hall⟩ := hrel
    have HA0 := hid hall
    clear hall
    by_cases hlt : k < fs.length
    · obtain ⟨⟨b, l⟩, hg⟩ : ∃ g, fs[k]? = some g := ⟨_, List.getElem?_eq_getElem hlt⟩
      have hu := h.cell hg
      have hl := h.wf _ (List.mem_of_getElem? hg)
      have Hg := hid hg
      have H64 := hid hl
      clear hg
      cases b
      · rw [refS_false] at hu
        clear hl
        have hff : firstFree fs = some k := by
          have := firstFreeI_some hlt (by rw [Hg.out]; rfl) HA0.out
          unfold firstFreeI at this
          cases hq : firstFree fs with
          | none => rw [hq] at this; simp at this
          | some q => rw [hq] at this; simp at this; rw [show q = k by omega]
        have Hff := hid (show allocV fs = .tuple #[.int .i64 k, .bool true] ∧ allocS fs = fs.set k zframe by simp [allocV, allocS, hff])
        clear hff
        go_wp2
        refine named_act (fun A HA => ?_)
        have k0 : A.eval (.tmp 0) = .pointer (some ⟨r, 0, none⟩) := by rw [HA.out]; rfl
        have k4 : A.eval (.tmp 4) = .int .i64 k := by rw [HA.out]; rfl
        have ksz : A.tmps.size = 31 := by rw [HA.out]; rfl
        refine wp_region_fam 7 (rs [fun v _ => v = .pointer (some ⟨r, 0, none⟩), fun v _ => v = .pointer (some ⟨r, 0, none⟩), fun v _ => v = .pointer (some ⟨r, 0, none⟩), fun v _ => v = .slice (some ⟨lb, 0, none⟩) fs.length cap, fun v _ => v = .int .i64 k, fun v w => ∃ b, v = .slice (some ⟨b, 0, none⟩) 64 64 ∧ Blk w b (bytesV zeros), fun v _ => v = .string ⟨zeros.toArray⟩]) (by kernel_rfl) (by kernel_rfl) ?_ ?_
        · refine ⟨?_, ?_, ?_, ?_, ?_, ?_, ?_, trivial⟩
          all_goals intro ys w' ho hp
          · exact step_val _ (by exact rfl) (ex_move rfl ((ev_old _ 0 ys A 0 (by decide)).trans k0)) rfl
          · obtain ⟨_, _, q0⟩ := hp.1 rfl
            refine step_val (.pointer (some ⟨r, 0, none⟩)) (by exact rfl) ?_ (by rfl)
            simp only [execOp]
            rw [((ev_dst _ 0 ys A 0 22 rfl (by decide) (by omega)).trans q0)]
            simp [go_sem]
          · obtain ⟨_, _, q1⟩ := hp.1 rfl
            refine step_val (.pointer (some ⟨r, 0, none⟩)) (by exact rfl) ?_ (by rfl)
            simp only [execOp]
            rw [((ev_dst _ 0 ys A 1 23 rfl (by decide) (by omega)).trans q1)]
            simp [go_sem]
          · obtain ⟨_, _, q2⟩ := hp.1 rfl
            refine step_val (.slice (some ⟨lb, 0, none⟩) fs.length cap) (by exact rfl) ?_ (by rfl)
            simp only [execOp]
            rw [((ev_dst _ 0 ys A 2 24 rfl (by decide) (by omega)).trans q2)]
            simp [go_sem, (ho.cell (o := 0) hrl (by simp)).trans c0]
          · exact step_val _ (by exact rfl) (ex_move rfl ((ev_old _ 0 ys A 4 (by decide)).trans k4)) rfl
          · refine step_does (R := fun v w'' => ∃ b, v = .slice (some ⟨b, 0, none⟩) 64 64 ∧ Blk w'' b (bytesV zeros) ∧ Only [] w' w'') (by exact rfl) ?_ (fun v w'' ⟨b, h1, h2, h3⟩ => ⟨h3, b, h1, h2⟩)
            exact (does_make 46 _ _ rfl rfl rfl (n := 64) (m := 64) rfl rfl (Nat.le_refl _) Try.underlying46 (z := .int .u8 0) (size := 1) (bytes := 1) (by kernel_rfl) rfl (by omega) (by omega)).mono (fun v w'' ⟨h1, h2, h3, _⟩ => ⟨_, h1, h2, h3⟩)
          · obtain ⟨w1, o1, b1, q5, qc⟩ := hp.1 rfl
            refine step_does (R := fun v w'' => v = .string ⟨zeros.toArray⟩ ∧ w' = w'') (by exact rfl) ?_ (fun v w'' ⟨h1, h2⟩ => ⟨h2 ▸ Only.refl _ _, h1⟩)
            exact does_string 46 9 (.tmp 27) rfl ((ev_dst _ 0 ys A 5 27 rfl (by decide) (by omega)).trans q5) (o1.blk qc (by simp)) Try.underlying46 Try.underlying5 Try.underlying9 rfl rfl
        · intro ys w' ho hall
          have q0 : ys 0 = .pointer (some ⟨r, 0, none⟩) := by obtain ⟨_, _, q⟩ := hall 0 (by omega); exact q
          have q1 : ys 1 = .pointer (some ⟨r, 0, none⟩) := by obtain ⟨_, _, q⟩ := hall 1 (by omega); exact q
          have q2 : ys 2 = .pointer (some ⟨r, 0, none⟩) := by obtain ⟨_, _, q⟩ := hall 2 (by omega); exact q
          have q3 : ys 3 = .slice (some ⟨lb, 0, none⟩) fs.length cap := by obtain ⟨_, _, q⟩ := hall 3 (by omega); exact q
          have q4 : ys 4 = .int .i64 k := by obtain ⟨_, _, q⟩ := hall 4 (by omega); exact q
          obtain ⟨w1, o1, b1, q5, qc⟩ := hall 5 (by omega)
          have q6 : ys 6 = .string ⟨zeros.toArray⟩ := by obtain ⟨_, _, q⟩ := hall 6 (by omega); exact q
          clear hall ksz k0 k4
          rw [HA.out]
          clear HA
          simp only [putAll, List.take, List.drop, Act.put, List.setIfInBounds_toArray, List.set_cons_succ, List.set_cons_zero, Nat.reduceAdd, q0, q1, q2, q3, q4, q6]
          clear q0 q1 q2 q3 q4 q6
          have hrow := ho.blk (w := w.drew) h.row (by simp)
          have d0 := hrow.cell (o := k) (v := .string ⟨(refS (false, l)).toArray⟩) (by simp [refV, Hg.out])
          have d1 := hrow.free k (by simp [refV]; exact hlt)
          have HO := hid ho
          have HR := hid hrow
          clear ho hrow
          go_wp2
          go_ret2
          refine ⟨by rw [Hff.out.1]; rfl, ?_, (((Only.refl [r, lb] w).drew).trans0 HO.out).setCell (.inl (by simp)) _⟩
          rw [Hff.out.2]
          refine ⟨⟨cap, by rw [List.length_set]; exact (HO.out.blk (w := w.drew) HP.out (by simp)).other h.ne _, by simpa using hcap⟩, ?_, h.ne, h.wf.set zeros_length, by simpa using hlen⟩
          rw [refV_set]
          exact HR.out.set k _
      · rw [refS_true] at hu
        have hs := str_ne hl
        clear hl
        go_wp2
        refine ⟨⟨k + 1, by simp, by omega, ?_⟩, by simp [intOf]; omega⟩
        intro j q hj hq
        by_cases hjk : j = k
        · subst hjk; rw [Hg.out] at hq; cases hq; rfl
        · exact HA0.out j q (by omega) hq
    · have hnone : firstFree fs = none := by
        have := firstFreeI_none (fs := fs) (fun j q hq => HA0.out j q (by have := (List.getElem?_eq_some_iff.1 hq).1; omega) hq)
        unfold firstFreeI at this
        cases hq : firstFree fs with
        | none => rfl
        | some q => rw [hq] at this; simp at this
      have Hff := hid (show allocV fs = .tuple #[.int .i64 0, .bool false] ∧ allocS fs = fs by simp [allocV, allocS, hnone])
      clear hnone
      go_wp2
      go_ret2
      exact ⟨by rw [Hff.out.1]; rfl, by rw [Hff.out.2]; exact h, Only.refl _ _⟩

theorem set_string {l : List UInt8} {j : Nat} {b : UInt8} (hl : l.length = 64) (hj : j < 64) : ByteArray.extract ⟨l.toArray⟩ 0 j ++ ⟨[b].toArray⟩ ++ ByteArray.extract ⟨l.toArray⟩ (j + 1) 64 = ⟨(l.set j b).toArray⟩ := by
  apply ByteArray.ext
  apply Array.ext'
  rw [ByteArray.data_append, ByteArray.data_append, ByteArray.data_extract, ByteArray.data_extract]
  rw [List.set_eq_take_append_cons_drop, if_pos (by omega)]
  simp
  rw [List.take_of_length_le (by simp; omega)]

set_option maxHeartbeats 1000000 in
theorem rset_any {w : World} {r lb : Nat} {fs : List (Bool × List UInt8)} (h : RefAt w r lb fs) (f x : Int) (b : UInt8) :
    Calls Try.prog 32 #[.pointer (some ⟨r, 0, none⟩), .int .i64 f, .int .i64 x, .int .u8 (b.toNat : Int)] w (LeftR r lb w (.int .i64 (setE fs f x)) (setS fs f x b)) := by
  obtain ⟨cap, hp, hcap⟩ := h.str
  have hlen := h.len
  have c0 := hp.cell (o := 0) rfl
  have hrl := hp.lt
  have hlbl := h.row.lt
  have Hhas := hid (rhas_any h f)
  have HP := hid hp
  clear hp
  cases hh : hasB fs f with
  | false =>
    have Hr := hid (show setE fs f x = 4 ∧ setS fs f x b = fs by simp [setE, setS, hh])
    go_enter Try.func32, Try.ntmps32
    go_wp2_with (go_at_call 16; refine Hhas.out.mono ?_; rintro e w' ⟨rfl, rfl⟩)
    go_ret
    exact ⟨by rw [Hr.out.1]; rfl, by rw [Hr.out.2]; exact h, Only.refl _ _⟩
  | true =>
    obtain ⟨k, rfl, hk, l, hl⟩ := hasB_true hh
    have hl64 : l.length = 64 := h.wf _ (List.mem_of_getElem? hl)
    have hu := h.cell hl
    rw [refS_true] at hu
    by_cases hx : 0 ≤ x ∧ x < 64
    · obtain ⟨h0, h1⟩ := hx
      obtain ⟨j, rfl⟩ := Int.eq_ofNat_of_zero_le h0
      have Hr := hid (show setE fs k j = 0 ∧ setS fs k j b = fs.set k (true, l.set j b) by
        constructor
        · simp only [setE, hh, if_true]; rw [if_pos ⟨h0, h1⟩]
        · simp only [setS, hh]; rw [if_pos ⟨trivial, h0, h1⟩]; simp [hl])
      have Hl := hid hl
      have hj : j < 64 := by omega
      have hk0 : (0 : Int) ≤ (k : Int) := by omega
      have hk1 : (k : Int) < (fs.length : Int) := by omega
      have hj1 : IntKind.i64.wrap ((j : Int) + 1) = (j : Int) + 1 := by rw [IntKind.wrap_i64]; omega
      clear hl
      go_enter Try.func32, Try.ntmps32
      go_wp2_with (go_at_call 16; refine Hhas.out.mono ?_; rintro e w' ⟨rfl, rfl⟩)
      refine named_act (fun A HA => ?_)
      have k0 : A.eval (.tmp 0) = .pointer (some ⟨r, 0, none⟩) := by rw [HA.out]; rfl
      have k1 : A.eval (.tmp 1) = .int .i64 k := by rw [HA.out]; rfl
      have k2 : A.eval (.tmp 2) = .int .i64 j := by rw [HA.out]; rfl
      have k3 : A.eval (.tmp 3) = .int .u8 (b.toNat : Int) := by rw [HA.out]; rfl
      have ksz : A.tmps.size = 49 := by rw [HA.out]; rfl
      refine wp_region_fam 29 (rs [fun v _ => v = .pointer (some ⟨r, 0, none⟩), fun v _ => v = .pointer (some ⟨r, 0, none⟩), fun v _ => v = .pointer (some ⟨r, 0, none⟩), fun v _ => v = .slice (some ⟨lb, 0, none⟩) fs.length cap, fun v _ => v = .int .i64 k, fun v _ => v = .pointer (some ⟨r, 0, none⟩), fun v _ => v = .pointer (some ⟨r, 0, none⟩), fun v _ => v = .pointer (some ⟨r, 0, none⟩), fun v _ => v = .slice (some ⟨lb, 0, none⟩) fs.length cap, fun v _ => v = .int .i64 k, fun v _ => v = .pointer (some ⟨lb, k, none⟩), fun v _ => v = .string ⟨l.toArray⟩, fun v _ => v = .int .i64 j, fun v _ => v = .string (ByteArray.extract ⟨l.toArray⟩ 0 j), fun v _ => v = .int .u8 (b.toNat : Int), fun v w => ∃ b1, v = .slice (some ⟨b1, 0, none⟩) 1 1 ∧ Blk w b1 (bytesV [b]), fun v _ => v = .string ⟨[b].toArray⟩, fun v _ => v = .string (ByteArray.extract ⟨l.toArray⟩ 0 j ++ ⟨[b].toArray⟩), fun v _ => v = .pointer (some ⟨r, 0, none⟩), fun v _ => v = .pointer (some ⟨r, 0, none⟩), fun v _ => v = .pointer (some ⟨r, 0, none⟩), fun v _ => v = .slice (some ⟨lb, 0, none⟩) fs.length cap, fun v _ => v = .int .i64 k, fun v _ => v = .pointer (some ⟨lb, k, none⟩), fun v _ => v = .string ⟨l.toArray⟩, fun v _ => v = .int .i64 j, fun v _ => v = .int .i64 ((j : Int) + 1), fun v _ => v = .string (ByteArray.extract ⟨l.toArray⟩ (j + 1) 64), fun v _ => v = .string (ByteArray.extract ⟨l.toArray⟩ 0 j ++ ⟨[b].toArray⟩ ++ ByteArray.extract ⟨l.toArray⟩ (j + 1) 64)]) (by kernel_rfl) (by kernel_rfl) ?_ ?_
      · refine ⟨?_, ?_, ?_, ?_, ?_, ?_, ?_, ?_, ?_, ?_, ?_, ?_, ?_, ?_, ?_, ?_, ?_, ?_, ?_, ?_, ?_, ?_, ?_, ?_, ?_, ?_, ?_, ?_, ?_, trivial⟩
        all_goals intro ys w' ho hp
        · exact step_val _ (by exact rfl) (ex_move rfl ((ev_old _ 0 ys A 0 (by decide)).trans k0)) rfl
        · obtain ⟨_, _, q0⟩ := hp.1 rfl
          refine step_val (.pointer (some ⟨r, 0, none⟩)) (by exact rfl) ?_ (by rfl)
          simp only [execOp]
          rw [((ev_dst _ 0 ys A 0 19 rfl (by decide) (by omega)).trans q0)]
          simp [go_sem]
        · obtain ⟨_, _, q1⟩ := hp.1 rfl
          refine step_val (.pointer (some ⟨r, 0, none⟩)) (by exact rfl) ?_ (by rfl)
          simp only [execOp]
          rw [((ev_dst _ 0 ys A 1 20 rfl (by decide) (by omega)).trans q1)]
          simp [go_sem]
        · obtain ⟨_, _, q2⟩ := hp.1 rfl
          refine step_val (.slice (some ⟨lb, 0, none⟩) fs.length cap) (by exact rfl) ?_ (by rfl)
          simp only [execOp]
          rw [((ev_dst _ 0 ys A 2 21 rfl (by decide) (by omega)).trans q2)]
          simp [go_sem, (ho.cell (o := 0) hrl (by simp)).trans c0]
        · exact step_val _ (by exact rfl) (ex_move rfl ((ev_old _ 0 ys A 1 (by decide)).trans k1)) rfl
        · exact step_val _ (by exact rfl) (ex_move rfl ((ev_old _ 0 ys A 0 (by decide)).trans k0)) rfl
        · obtain ⟨_, _, q5⟩ := hp.1 rfl
          refine step_val (.pointer (some ⟨r, 0, none⟩)) (by exact rfl) ?_ (by rfl)
          simp only [execOp]
          rw [((ev_dst _ 0 ys A 5 24 rfl (by decide) (by omega)).trans q5)]
          simp [go_sem]
        · obtain ⟨_, _, q6⟩ := hp.1 rfl
          refine step_val (.pointer (some ⟨r, 0, none⟩)) (by exact rfl) ?_ (by rfl)
          simp only [execOp]
          rw [((ev_dst _ 0 ys A 6 25 rfl (by decide) (by omega)).trans q6)]
          simp [go_sem]
        · obtain ⟨_, _, q7⟩ := hp.1 rfl
          refine step_val (.slice (some ⟨lb, 0, none⟩) fs.length cap) (by exact rfl) ?_ (by rfl)
          simp only [execOp]
          rw [((ev_dst _ 0 ys A 7 26 rfl (by decide) (by omega)).trans q7)]
          simp [go_sem, (ho.cell (o := 0) hrl (by simp)).trans c0]
        · exact step_val _ (by exact rfl) (ex_move rfl ((ev_old _ 0 ys A 1 (by decide)).trans k1)) rfl
        · obtain ⟨_, _, q8⟩ := hp.1 rfl
          obtain ⟨_, _, q9⟩ := hp.2.1 rfl
          refine step_val (.pointer (some ⟨lb, k, none⟩)) (by exact rfl) ?_ (by rfl)
          simp only [execOp]
          rw [((ev_dst _ 0 ys A 8 27 rfl (by decide) (by omega)).trans q8)]
          rw [((ev_dst _ 0 ys A 9 28 rfl (by decide) (by omega)).trans q9)]
          simp [go_sem, hk0, hk1]
        · obtain ⟨_, _, q10⟩ := hp.1 rfl
          refine step_val (.string ⟨l.toArray⟩) (by exact rfl) ?_ (by rfl)
          simp only [execOp]
          rw [((ev_dst _ 0 ys A 10 29 rfl (by decide) (by omega)).trans q10)]
          simp [go_sem, (ho.cell (o := k) hlbl (by simp)).trans hu]
        · exact step_val _ (by exact rfl) (ex_move rfl ((ev_old _ 0 ys A 2 (by decide)).trans k2)) rfl
        · obtain ⟨_, _, q11⟩ := hp.1 rfl
          obtain ⟨_, _, q12⟩ := hp.2.1 rfl
          refine step_does (R := fun v w'' => v = .string (ByteArray.extract ⟨l.toArray⟩ 0 j) ∧ w' = w'') (by exact rfl) ?_ (fun v w'' ⟨h1, h2⟩ => ⟨h2 ▸ Only.refl _ _, h1⟩)
          exact does_slice_str 9 (.tmp 30) none (some (.tmp 31)) rfl ((ev_dst _ 0 ys A 11 30 rfl (by decide) (by omega)).trans q11) Try.underlying9 0 j bnd_none (bnd_some ((ev_dst _ 0 ys A 12 31 rfl (by decide) (by omega)).trans q12)) (by omega) (by show j ≤ l.length; omega)
        · exact step_val _ (by exact rfl) (ex_move rfl ((ev_old _ 0 ys A 3 (by decide)).trans k3)) rfl
        · obtain ⟨_, _, q14⟩ := hp.1 rfl
          refine step_does (R := fun v w'' => ∃ b1, v = .slice (some ⟨b1, 0, none⟩) 1 1 ∧ Blk w'' b1 (bytesV [b]) ∧ Only [] w' w'') (by exact rfl) ?_ (fun v w'' ⟨b1, h1, h2, h3⟩ => ⟨h3, b1, h1, h2⟩)
          exact (does_buildSlice1 46 (.tmp 33) rfl ((ev_dst _ 0 ys A 14 33 rfl (by decide) (by omega)).trans q14) rfl Try.underlying46 (z := .int .u8 0) (by kernel_rfl) rfl).mono (fun v w'' ⟨h1, h2, h3, _⟩ => ⟨_, h1, h2, h3⟩)
        · obtain ⟨w1, o1, b1, q15, qc⟩ := hp.1 rfl
          refine step_does (R := fun v w'' => v = .string ⟨[b].toArray⟩ ∧ w' = w'') (by exact rfl) ?_ (fun v w'' ⟨h1, h2⟩ => ⟨h2 ▸ Only.refl _ _, h1⟩)
          exact does_string 46 9 (.tmp 34) rfl ((ev_dst _ 0 ys A 15 34 rfl (by decide) (by omega)).trans q15) (o1.blk qc (by simp)) Try.underlying46 Try.underlying5 Try.underlying9 rfl rfl
        · obtain ⟨_, _, q13⟩ := hp.1 rfl
          obtain ⟨_, _, q16⟩ := hp.2.1 rfl
          refine step_does (R := fun v w'' => v = .string (ByteArray.extract ⟨l.toArray⟩ 0 j ++ ⟨[b].toArray⟩) ∧ w' = w'') (by exact rfl) ?_ (fun v w'' ⟨h1, h2⟩ => ⟨h2 ▸ Only.refl _ _, h1⟩)
          exact does_concat 9 9 (.tmp 32) (.tmp 35) rfl ((ev_dst _ 0 ys A 13 32 rfl (by decide) (by omega)).trans q13) ((ev_dst _ 0 ys A 16 35 rfl (by decide) (by omega)).trans q16) (by rw [ByteArray.size_extract]; show _ + 1 ≤ _; have : (ByteArray.mk l.toArray).size = l.length := rfl; omega)
        · exact step_val _ (by exact rfl) (ex_move rfl ((ev_old _ 0 ys A 0 (by decide)).trans k0)) rfl
        · obtain ⟨_, _, q18⟩ := hp.1 rfl
          refine step_val (.pointer (some ⟨r, 0, none⟩)) (by exact rfl) ?_ (by rfl)
          simp only [execOp]
          rw [((ev_dst _ 0 ys A 18 37 rfl (by decide) (by omega)).trans q18)]
          simp [go_sem]
        · obtain ⟨_, _, q19⟩ := hp.1 rfl
          refine step_val (.pointer (some ⟨r, 0, none⟩)) (by exact rfl) ?_ (by rfl)
          simp only [execOp]
          rw [((ev_dst _ 0 ys A 19 38 rfl (by decide) (by omega)).trans q19)]
          simp [go_sem]
        · obtain ⟨_, _, q20⟩ := hp.1 rfl
          refine step_val (.slice (some ⟨lb, 0, none⟩) fs.length cap) (by exact rfl) ?_ (by rfl)
          simp only [execOp]
          rw [((ev_dst _ 0 ys A 20 39 rfl (by decide) (by omega)).trans q20)]
          simp [go_sem, (ho.cell (o := 0) hrl (by simp)).trans c0]
        · exact step_val _ (by exact rfl) (ex_move rfl ((ev_old _ 0 ys A 1 (by decide)).trans k1)) rfl
        · obtain ⟨_, _, q21⟩ := hp.1 rfl
          obtain ⟨_, _, q22⟩ := hp.2.1 rfl
          refine step_val (.pointer (some ⟨lb, k, none⟩)) (by exact rfl) ?_ (by rfl)
          simp only [execOp]
          rw [((ev_dst _ 0 ys A 21 40 rfl (by decide) (by omega)).trans q21)]
          rw [((ev_dst _ 0 ys A 22 41 rfl (by decide) (by omega)).trans q22)]
          simp [go_sem, hk0, hk1]
        · obtain ⟨_, _, q23⟩ := hp.1 rfl
          refine step_val (.string ⟨l.toArray⟩) (by exact rfl) ?_ (by rfl)
          simp only [execOp]
          rw [((ev_dst _ 0 ys A 23 42 rfl (by decide) (by omega)).trans q23)]
          simp [go_sem, (ho.cell (o := k) hlbl (by simp)).trans hu]
        · exact step_val _ (by exact rfl) (ex_move rfl ((ev_old _ 0 ys A 2 (by decide)).trans k2)) rfl
        · obtain ⟨_, _, q25⟩ := hp.1 rfl
          refine step_val (.int .i64 ((j : Int) + 1)) (by exact rfl) ?_ (by rfl)
          simp only [execOp]
          rw [((ev_dst _ 0 ys A 25 44 rfl (by decide) (by omega)).trans q25)]
          simp [go_sem, hj1]
        · obtain ⟨_, _, q24⟩ := hp.1 rfl
          obtain ⟨_, _, q26⟩ := hp.2.1 rfl
          refine step_does (R := fun v w'' => v = .string (ByteArray.extract ⟨l.toArray⟩ (j + 1) 64) ∧ w' = w'') (by exact rfl) ?_ (fun v w'' ⟨h1, h2⟩ => ⟨h2 ▸ Only.refl _ _, h1⟩)
          have e64 : (ByteArray.mk l.toArray).size = 64 := hl64
          exact does_slice_str 9 (.tmp 43) (some (.tmp 45)) none rfl ((ev_dst _ 0 ys A 24 43 rfl (by decide) (by omega)).trans q24) Try.underlying9 (j + 1) 64 (bnd_some (by rw [((ev_dst _ 0 ys A 26 45 rfl (by decide) (by omega)).trans q26)]; rfl)) (by rw [← e64]; exact bnd_none) (by omega) (by omega)
        · obtain ⟨_, _, q17⟩ := hp.1 rfl
          obtain ⟨_, _, q27⟩ := hp.2.1 rfl
          refine step_does (R := fun v w'' => v = .string (ByteArray.extract ⟨l.toArray⟩ 0 j ++ ⟨[b].toArray⟩ ++ ByteArray.extract ⟨l.toArray⟩ (j + 1) 64) ∧ w' = w'') (by exact rfl) ?_ (fun v w'' ⟨h1, h2⟩ => ⟨h2 ▸ Only.refl _ _, h1⟩)
          exact does_concat 9 9 (.tmp 36) (.tmp 46) rfl ((ev_dst _ 0 ys A 17 36 rfl (by decide) (by omega)).trans q17) ((ev_dst _ 0 ys A 27 46 rfl (by decide) (by omega)).trans q27) (by rw [ByteArray.size_append, ByteArray.size_extract, ByteArray.size_extract]; have e1 : (ByteArray.mk [b].toArray).size = 1 := rfl; have : (ByteArray.mk l.toArray).size = l.length := rfl; omega)
      · intro ys w' ho hall
        have q0 : ys 0 = .pointer (some ⟨r, 0, none⟩) := by obtain ⟨_, _, q⟩ := hall 0 (by omega); exact q
        have q1 : ys 1 = .pointer (some ⟨r, 0, none⟩) := by obtain ⟨_, _, q⟩ := hall 1 (by omega); exact q
        have q2 : ys 2 = .pointer (some ⟨r, 0, none⟩) := by obtain ⟨_, _, q⟩ := hall 2 (by omega); exact q
        have q3 : ys 3 = .slice (some ⟨lb, 0, none⟩) fs.length cap := by obtain ⟨_, _, q⟩ := hall 3 (by omega); exact q
        have q4 : ys 4 = .int .i64 k := by obtain ⟨_, _, q⟩ := hall 4 (by omega); exact q
        have q5 : ys 5 = .pointer (some ⟨r, 0, none⟩) := by obtain ⟨_, _, q⟩ := hall 5 (by omega); exact q
        have q6 : ys 6 = .pointer (some ⟨r, 0, none⟩) := by obtain ⟨_, _, q⟩ := hall 6 (by omega); exact q
        have q7 : ys 7 = .pointer (some ⟨r, 0, none⟩) := by obtain ⟨_, _, q⟩ := hall 7 (by omega); exact q
        have q8 : ys 8 = .slice (some ⟨lb, 0, none⟩) fs.length cap := by obtain ⟨_, _, q⟩ := hall 8 (by omega); exact q
        have q9 : ys 9 = .int .i64 k := by obtain ⟨_, _, q⟩ := hall 9 (by omega); exact q
        have q10 : ys 10 = .pointer (some ⟨lb, k, none⟩) := by obtain ⟨_, _, q⟩ := hall 10 (by omega); exact q
        have q11 : ys 11 = .string ⟨l.toArray⟩ := by obtain ⟨_, _, q⟩ := hall 11 (by omega); exact q
        have q12 : ys 12 = .int .i64 j := by obtain ⟨_, _, q⟩ := hall 12 (by omega); exact q
        have q13 : ys 13 = .string (ByteArray.extract ⟨l.toArray⟩ 0 j) := by obtain ⟨_, _, q⟩ := hall 13 (by omega); exact q
        have q14 : ys 14 = .int .u8 (b.toNat : Int) := by obtain ⟨_, _, q⟩ := hall 14 (by omega); exact q
        obtain ⟨w1, o1, b1, q15, qc⟩ := hall 15 (by omega)
        have q16 : ys 16 = .string ⟨[b].toArray⟩ := by obtain ⟨_, _, q⟩ := hall 16 (by omega); exact q
        have q17 : ys 17 = .string (ByteArray.extract ⟨l.toArray⟩ 0 j ++ ⟨[b].toArray⟩) := by obtain ⟨_, _, q⟩ := hall 17 (by omega); exact q
        have q18 : ys 18 = .pointer (some ⟨r, 0, none⟩) := by obtain ⟨_, _, q⟩ := hall 18 (by omega); exact q
        have q19 : ys 19 = .pointer (some ⟨r, 0, none⟩) := by obtain ⟨_, _, q⟩ := hall 19 (by omega); exact q
        have q20 : ys 20 = .pointer (some ⟨r, 0, none⟩) := by obtain ⟨_, _, q⟩ := hall 20 (by omega); exact q
        have q21 : ys 21 = .slice (some ⟨lb, 0, none⟩) fs.length cap := by obtain ⟨_, _, q⟩ := hall 21 (by omega); exact q
        have q22 : ys 22 = .int .i64 k := by obtain ⟨_, _, q⟩ := hall 22 (by omega); exact q
        have q23 : ys 23 = .pointer (some ⟨lb, k, none⟩) := by obtain ⟨_, _, q⟩ := hall 23 (by omega); exact q
        have q24 : ys 24 = .string ⟨l.toArray⟩ := by obtain ⟨_, _, q⟩ := hall 24 (by omega); exact q
        have q25 : ys 25 = .int .i64 j := by obtain ⟨_, _, q⟩ := hall 25 (by omega); exact q
        have q26 : ys 26 = .int .i64 ((j : Int) + 1) := by obtain ⟨_, _, q⟩ := hall 26 (by omega); exact q
        have q27 : ys 27 = .string (ByteArray.extract ⟨l.toArray⟩ (j + 1) 64) := by obtain ⟨_, _, q⟩ := hall 27 (by omega); exact q
        have q28 : ys 28 = .string (ByteArray.extract ⟨l.toArray⟩ 0 j ++ ⟨[b].toArray⟩ ++ ByteArray.extract ⟨l.toArray⟩ (j + 1) 64) := by obtain ⟨_, _, q⟩ := hall 28 (by omega); exact q
        clear hall ksz k0 k1 k2 k3
        rw [HA.out]
        clear HA
        simp only [putAll, List.take, List.drop, Act.put, List.setIfInBounds_toArray, List.set_cons_succ, List.set_cons_zero, Nat.reduceAdd, q0, q1, q2, q3, q4, q5, q6, q7, q8, q9, q10, q11, q12, q13, q14, q16, q17, q18, q19, q20, q21, q22, q23, q24, q25, q26, q27, q28]
        clear q0 q1 q2 q3 q4 q5 q6 q7 q8 q9 q10 q11 q12 q13 q14 q16 q17 q18 q19 q20 q21 q22 q23 q24 q25 q26 q27 q28
        have hrow := ho.blk (w := w.drew) h.row (by simp)
        have d0 := hrow.cell (o := k) (v := .string ⟨(refS (true, l)).toArray⟩) (by simp [refV, Hl.out])
        have d1 := hrow.free k (by simp [refV]; exact hk)
        have HO := hid ho
        have HR := hid hrow
        clear ho hrow hj1 hu c0
        go_wp2
        go_ret
        refine ⟨by rw [Hr.out.1]; rfl, ?_, (((Only.refl [r, lb] w).drew).trans0 HO.out).setCell (.inl (by simp)) _⟩
        rw [Hr.out.2]
        refine ⟨⟨cap, by rw [List.length_set]; exact (HO.out.blk (w := w.drew) HP.out (by simp)).other h.ne _, by simpa using hcap⟩, ?_, h.ne, h.wf.set (by simpa using hl64), by simpa using hlen⟩
        rw [refV_set, refS_true, ← set_string hl64 hj]
        exact HR.out.set k _
    · have Hr := hid (show setE fs k x = 3 ∧ setS fs k x b = fs by
        constructor
        · simp only [setE, hh, if_true]; rw [if_neg hx]
        · simp only [setS]; rw [if_neg (fun q => hx q.2)])
      have hx' : x < 0 ∨ 64 ≤ x := by omega
      clear hl hl64 hx
      rcases hx' with hx | hx
      all_goals
        go_enter Try.func32, Try.ntmps32
        go_wp2_with (go_at_call 16; refine Hhas.out.mono ?_; rintro e w' ⟨rfl, rfl⟩)
        go_ret
        exact ⟨by rw [Hr.out.1]; rfl, by rw [Hr.out.2]; exact h, Only.refl _ _⟩

theorem fill_string (s : ByteArray) (n : Nat) (h1 : n = min s.size 64) (h2 : n ≤ 64) : s.extract 0 n ++ ⟨(List.replicate (64 - n) (0 : UInt8)).toArray⟩ = ⟨(pad s.data.toList).toArray⟩ := by
  apply ByteArray.ext
  apply Array.ext'
  rw [ByteArray.data_append, ByteArray.data_extract]
  have hs : s.data.toList.length = s.size := by simp
  simp only [pad, hs, Array.toList_append]
  congr 1
  · have e : (s.data.extract 0 n).toList = s.data.toList.take n := by simp
    rw [e, List.take_eq_take_iff, hs]; omega
  · rw [show 64 - n = 64 - s.size by omega]

set_option maxHeartbeats 1000000 in
theorem rfill_any {w : World} {r lb : Nat} {fs : List (Bool × List UInt8)} (h : RefAt w r lb fs) (f : Int) (s : ByteArray) (hs : s.size ≤ 9223372036854775807) :
    Calls Try.prog 33 #[.pointer (some ⟨r, 0, none⟩), .int .i64 f, .string s] w (LeftR r lb w (.int .i64 (fillE fs f)) (fillS fs f s.data.toList)) := by
  have hRef := h
  obtain ⟨cap, hp, hcap⟩ := h.str
  have hlen := h.len
  have c0 := hp.cell (o := 0) rfl
  have hrl := hp.lt
  have hlbl := h.row.lt
  have Hhas := hid (rhas_any h f)
  have HP := hid hp
  clear hp
  cases hh : hasB fs f with
  | false =>
    have Hr := hid (show fillE fs f = 4 ∧ fillS fs f s.data.toList = fs by simp [fillE, fillS, hh])
    go_enter Try.func33, Try.ntmps33
    go_wp2_with (go_at_call 16; refine Hhas.out.mono ?_; rintro e w' ⟨rfl, rfl⟩)
    go_ret
    exact ⟨by rw [Hr.out.1]; rfl, by rw [Hr.out.2]; exact h, Only.refl _ _⟩
  | true =>
    obtain ⟨k, rfl, hk, l, hl⟩ := hasB_true hh
    have hu := h.cell hl
    rw [refS_true] at hu
    have Hr := hid (show fillE fs k = 0 ∧ fillS fs k s.data.toList = fs.set k (true, pad s.data.toList) by simp [fillE, fillS, hh])
    have Hl := hid hl
    have hk0 : (0 : Int) ≤ (k : Int) := by omega
    have hk1 : (k : Int) < (fs.length : Int) := by omega
    clear hl
    by_cases hs64 : s.size ≤ 64
    · have hsub : IntKind.i64.wrap (64 - (s.size : Int)) = ((64 - s.size : Nat) : Int) := by rw [IntKind.wrap_i64]; omega
      have Hsub := hid hsub
      clear hsub
      go_enter Try.func33, Try.ntmps33
      go_wp2_with (go_at_call 16; refine Hhas.out.mono ?_; rintro e w' ⟨rfl, rfl⟩)
      have hsub := Hsub.out
      refine named_act (fun A HA => ?_)
      have k0 : A.eval (.tmp 0) = .pointer (some ⟨r, 0, none⟩) := by rw [HA.out]; rfl
      have k1 : A.eval (.tmp 1) = .int .i64 k := by rw [HA.out]; rfl
      have k2 : A.eval (.tmp 2) = .string s := by rw [HA.out]; rfl
      have k7 : A.eval (.tmp 7) = .int .i64 ((s.size : Nat) : Int) := by rw [HA.out]; rfl
      have ksz : A.tmps.size = 29 := by rw [HA.out]; rfl
      refine wp_region_fam 13 (rs [fun v _ => v = .pointer (some ⟨r, 0, none⟩), fun v _ => v = .pointer (some ⟨r, 0, none⟩), fun v _ => v = .pointer (some ⟨r, 0, none⟩), fun v _ => v = .slice (some ⟨lb, 0, none⟩) fs.length cap, fun v _ => v = .int .i64 k, fun v _ => v = .string s, fun v _ => v = .int .i64 ((s.size : Nat) : Int), fun v _ => v = .string (s.extract 0 s.size), fun v _ => v = .int .i64 ((s.size : Nat) : Int), fun v _ => v = .int .i64 (((64 - s.size : Nat)) : Int), fun v w => ∃ b, v = .slice (some ⟨b, 0, none⟩) (64 - s.size) (64 - s.size) ∧ Blk w b (bytesV (List.replicate (64 - s.size) 0)), fun v _ => v = .string ⟨(List.replicate (64 - s.size) (0 : UInt8)).toArray⟩, fun v _ => v = .string (s.extract 0 s.size ++ ⟨(List.replicate (64 - s.size) (0 : UInt8)).toArray⟩)]) (by kernel_rfl) (by kernel_rfl) ?_ ?_
      · refine ⟨?_, ?_, ?_, ?_, ?_, ?_, ?_, ?_, ?_, ?_, ?_, ?_, ?_, trivial⟩
        all_goals intro ys w' ho hp
        · exact step_val _ (by exact rfl) (ex_move rfl ((ev_old _ 0 ys A 0 (by decide)).trans k0)) rfl
        · obtain ⟨_, _, q0⟩ := hp.1 rfl
          refine step_val (.pointer (some ⟨r, 0, none⟩)) (by exact rfl) ?_ (by rfl)
          simp only [execOp]
          rw [((ev_dst _ 0 ys A 0 15 rfl (by decide) (by omega)).trans q0)]
          simp [go_sem]
        · obtain ⟨_, _, q1⟩ := hp.1 rfl
          refine step_val (.pointer (some ⟨r, 0, none⟩)) (by exact rfl) ?_ (by rfl)
          simp only [execOp]
          rw [((ev_dst _ 0 ys A 1 16 rfl (by decide) (by omega)).trans q1)]
          simp [go_sem]
        · obtain ⟨_, _, q2⟩ := hp.1 rfl
          refine step_val (.slice (some ⟨lb, 0, none⟩) fs.length cap) (by exact rfl) ?_ (by rfl)
          simp only [execOp]
          rw [((ev_dst _ 0 ys A 2 17 rfl (by decide) (by omega)).trans q2)]
          simp [go_sem, (ho.cell (o := 0) hrl (by simp)).trans c0]
        · exact step_val _ (by exact rfl) (ex_move rfl ((ev_old _ 0 ys A 1 (by decide)).trans k1)) rfl
        · exact step_val _ (by exact rfl) (ex_move rfl ((ev_old _ 0 ys A 2 (by decide)).trans k2)) rfl
        · exact step_val _ (by exact rfl) (ex_move rfl ((ev_old _ 0 ys A 7 (by decide)).trans k7)) rfl
        · obtain ⟨_, _, q5⟩ := hp.1 rfl
          obtain ⟨_, _, q6⟩ := hp.2.1 rfl
          refine step_does (R := fun v w'' => v = .string (s.extract 0 s.size) ∧ w' = w'') (by exact rfl) ?_ (fun v w'' ⟨h1, h2⟩ => ⟨h2 ▸ Only.refl _ _, h1⟩)
          exact does_slice_str 9 (.tmp 20) none (some (.tmp 21)) rfl ((ev_dst _ 0 ys A 5 20 rfl (by decide) (by omega)).trans q5) Try.underlying9 0 s.size bnd_none (bnd_some ((ev_dst _ 0 ys A 6 21 rfl (by decide) (by omega)).trans q6)) (by omega) (by omega)
        · exact step_val _ (by exact rfl) (ex_move rfl ((ev_old _ 0 ys A 7 (by decide)).trans k7)) rfl
        · obtain ⟨_, _, q8⟩ := hp.1 rfl
          refine step_val (.int .i64 (((64 - s.size : Nat)) : Int)) (by exact rfl) ?_ (by rfl)
          simp only [execOp]
          rw [((ev_dst _ 0 ys A 8 23 rfl (by decide) (by omega)).trans q8)]
          simp [go_sem, hsub]
        · obtain ⟨_, _, q9⟩ := hp.1 rfl
          refine step_does (R := fun v w'' => ∃ b, v = .slice (some ⟨b, 0, none⟩) (64 - s.size) (64 - s.size) ∧ Blk w'' b (bytesV (List.replicate (64 - s.size) 0)) ∧ Only [] w' w'') (by exact rfl) ?_ (fun v w'' ⟨b, h1, h2, h3⟩ => ⟨h3, b, h1, h2⟩)
          exact (does_make 46 (.tmp 24) (.tmp 24) rfl ((ev_dst _ 0 ys A 9 24 rfl (by decide) (by omega)).trans q9) ((ev_dst _ 0 ys A 9 24 rfl (by decide) (by omega)).trans q9) (n := (64 - s.size)) (m := (64 - s.size)) rfl rfl (Nat.le_refl _) Try.underlying46 (z := .int .u8 0) (size := 1) (bytes := 1) (by kernel_rfl) rfl (by omega) (by omega)).mono (fun v w'' ⟨h1, h2, h3, _⟩ => ⟨_, h1, by have h2' : Blk w'' w'.heap.size (List.replicate (64 - s.size) [Value.int .u8 0]).flatten := h2; rw [flat1] at h2'; rw [bytesV, List.map_replicate]; exact h2', h3⟩)
        · obtain ⟨w1, o1, b1, q10, qc⟩ := hp.1 rfl
          refine step_does (R := fun v w'' => v = .string ⟨(List.replicate (64 - s.size) (0 : UInt8)).toArray⟩ ∧ w' = w'') (by exact rfl) ?_ (fun v w'' ⟨h1, h2⟩ => ⟨h2 ▸ Only.refl _ _, h1⟩)
          exact does_string 46 9 (.tmp 25) rfl ((ev_dst _ 0 ys A 10 25 rfl (by decide) (by omega)).trans q10) (o1.blk qc (by simp)) Try.underlying46 Try.underlying5 Try.underlying9 (by rw [List.drop_zero, List.take_of_length_le (by rw [bytesV_length]; simp)]) (by simp)
        · obtain ⟨_, _, q7⟩ := hp.1 rfl
          obtain ⟨_, _, q11⟩ := hp.2.1 rfl
          refine step_does (R := fun v w'' => v = .string (s.extract 0 s.size ++ ⟨(List.replicate (64 - s.size) (0 : UInt8)).toArray⟩) ∧ w' = w'') (by exact rfl) ?_ (fun v w'' ⟨h1, h2⟩ => ⟨h2 ▸ Only.refl _ _, h1⟩)
          exact does_concat 9 9 (.tmp 22) (.tmp 26) rfl ((ev_dst _ 0 ys A 7 22 rfl (by decide) (by omega)).trans q7) ((ev_dst _ 0 ys A 11 26 rfl (by decide) (by omega)).trans q11) (by rw [ByteArray.size_extract]; have e1 : (ByteArray.mk (List.replicate (64 - s.size) (0 : UInt8)).toArray).size = (64 - s.size) := (by show (List.replicate _ _).toArray.size = _; simp); omega)
      · intro ys w' ho hall
        have q0 : ys 0 = .pointer (some ⟨r, 0, none⟩) := by obtain ⟨_, _, q⟩ := hall 0 (by omega); exact q
        have q1 : ys 1 = .pointer (some ⟨r, 0, none⟩) := by obtain ⟨_, _, q⟩ := hall 1 (by omega); exact q
        have q2 : ys 2 = .pointer (some ⟨r, 0, none⟩) := by obtain ⟨_, _, q⟩ := hall 2 (by omega); exact q
        have q3 : ys 3 = .slice (some ⟨lb, 0, none⟩) fs.length cap := by obtain ⟨_, _, q⟩ := hall 3 (by omega); exact q
        have q4 : ys 4 = .int .i64 k := by obtain ⟨_, _, q⟩ := hall 4 (by omega); exact q
        have q5 : ys 5 = .string s := by obtain ⟨_, _, q⟩ := hall 5 (by omega); exact q
        have q6 : ys 6 = .int .i64 ((s.size : Nat) : Int) := by obtain ⟨_, _, q⟩ := hall 6 (by omega); exact q
        have q7 : ys 7 = .string (s.extract 0 s.size) := by obtain ⟨_, _, q⟩ := hall 7 (by omega); exact q
        have q8 : ys 8 = .int .i64 ((s.size : Nat) : Int) := by obtain ⟨_, _, q⟩ := hall 8 (by omega); exact q
        have q9 : ys 9 = .int .i64 (((64 - s.size : Nat)) : Int) := by obtain ⟨_, _, q⟩ := hall 9 (by omega); exact q
        obtain ⟨w1, o1, b1, q10, qc⟩ := hall 10 (by omega)
        have q11 : ys 11 = .string ⟨(List.replicate (64 - s.size) (0 : UInt8)).toArray⟩ := by obtain ⟨_, _, q⟩ := hall 11 (by omega); exact q
        have q12 : ys 12 = .string (s.extract 0 s.size ++ ⟨(List.replicate (64 - s.size) (0 : UInt8)).toArray⟩) := by obtain ⟨_, _, q⟩ := hall 12 (by omega); exact q
        clear hall ksz k0 k1 k2 k7
        rw [HA.out]
        clear HA
        simp only [putAll, List.take, List.drop, Act.put, List.setIfInBounds_toArray, List.set_cons_succ, List.set_cons_zero, Nat.reduceAdd, q0, q1, q2, q3, q4, q5, q6, q7, q8, q9, q11, q12]
        clear q0 q1 q2 q3 q4 q5 q6 q7 q8 q9 q11 q12
        clear hsub
        have hrow := ho.blk (w := w.drew) hRef.row (by simp)
        have d0 := hrow.cell (o := k) (v := .string ⟨(refS (true, l)).toArray⟩) (by simp [refV, Hl.out])
        have d1 := hrow.free k (by simp [refV]; exact hk)
        have HO := hid ho
        have HR := hid hrow
        have HST := hid (fill_string s s.size (by omega) (by omega))
        generalize (s.extract 0 s.size ++ ⟨(List.replicate (64 - s.size) (0 : UInt8)).toArray⟩ : ByteArray) = str at *
        clear ho hrow hu c0
        go_wp2
        go_ret
        refine ⟨by rw [Hr.out.1]; rfl, ?_, (((Only.refl [r, lb] w).drew).trans0 HO.out).setCell (.inl (by simp)) _⟩
        rw [Hr.out.2]
        refine ⟨⟨cap, by rw [List.length_set]; exact (HO.out.blk (w := w.drew) HP.out (by simp)).other hRef.ne _, by simpa using hcap⟩, ?_, hRef.ne, hRef.wf.set (pad_length _), by simpa using hlen⟩
        rw [refV_set, refS_true, ← HST.out]
        exact HR.out.set k _
    · go_enter Try.func33, Try.ntmps33
      go_wp2_with (go_at_call 16; refine Hhas.out.mono ?_; rintro e w' ⟨rfl, rfl⟩)
      refine named_act (fun A HA => ?_)
      have k0 : A.eval (.tmp 0) = .pointer (some ⟨r, 0, none⟩) := by rw [HA.out]; rfl
      have k1 : A.eval (.tmp 1) = .int .i64 k := by rw [HA.out]; rfl
      have k2 : A.eval (.tmp 2) = .string s := by rw [HA.out]; rfl
      have k7 : A.eval (.tmp 7) = .int .i64 ((64 : Nat) : Int) := by rw [HA.out]; rfl
      have ksz : A.tmps.size = 29 := by rw [HA.out]; rfl
      refine wp_region_fam 13 (rs [fun v _ => v = .pointer (some ⟨r, 0, none⟩), fun v _ => v = .pointer (some ⟨r, 0, none⟩), fun v _ => v = .pointer (some ⟨r, 0, none⟩), fun v _ => v = .slice (some ⟨lb, 0, none⟩) fs.length cap, fun v _ => v = .int .i64 k, fun v _ => v = .string s, fun v _ => v = .int .i64 ((64 : Nat) : Int), fun v _ => v = .string (s.extract 0 64), fun v _ => v = .int .i64 ((64 : Nat) : Int), fun v _ => v = .int .i64 (((64 - 64 : Nat)) : Int), fun v w => ∃ b, v = .slice (some ⟨b, 0, none⟩) (64 - 64) (64 - 64) ∧ Blk w b (bytesV (List.replicate (64 - 64) 0)), fun v _ => v = .string ⟨(List.replicate (64 - 64) (0 : UInt8)).toArray⟩, fun v _ => v = .string (s.extract 0 64 ++ ⟨(List.replicate (64 - 64) (0 : UInt8)).toArray⟩)]) (by kernel_rfl) (by kernel_rfl) ?_ ?_
      · refine ⟨?_, ?_, ?_, ?_, ?_, ?_, ?_, ?_, ?_, ?_, ?_, ?_, ?_, trivial⟩
        all_goals intro ys w' ho hp
        · exact step_val _ (by exact rfl) (ex_move rfl ((ev_old _ 0 ys A 0 (by decide)).trans k0)) rfl
        · obtain ⟨_, _, q0⟩ := hp.1 rfl
          refine step_val (.pointer (some ⟨r, 0, none⟩)) (by exact rfl) ?_ (by rfl)
          simp only [execOp]
          rw [((ev_dst _ 0 ys A 0 15 rfl (by decide) (by omega)).trans q0)]
          simp [go_sem]
        · obtain ⟨_, _, q1⟩ := hp.1 rfl
          refine step_val (.pointer (some ⟨r, 0, none⟩)) (by exact rfl) ?_ (by rfl)
          simp only [execOp]
          rw [((ev_dst _ 0 ys A 1 16 rfl (by decide) (by omega)).trans q1)]
          simp [go_sem]
        · obtain ⟨_, _, q2⟩ := hp.1 rfl
          refine step_val (.slice (some ⟨lb, 0, none⟩) fs.length cap) (by exact rfl) ?_ (by rfl)
          simp only [execOp]
          rw [((ev_dst _ 0 ys A 2 17 rfl (by decide) (by omega)).trans q2)]
          simp [go_sem, (ho.cell (o := 0) hrl (by simp)).trans c0]
        · exact step_val _ (by exact rfl) (ex_move rfl ((ev_old _ 0 ys A 1 (by decide)).trans k1)) rfl
        · exact step_val _ (by exact rfl) (ex_move rfl ((ev_old _ 0 ys A 2 (by decide)).trans k2)) rfl
        · exact step_val _ (by exact rfl) (ex_move rfl ((ev_old _ 0 ys A 7 (by decide)).trans k7)) rfl
        · obtain ⟨_, _, q5⟩ := hp.1 rfl
          obtain ⟨_, _, q6⟩ := hp.2.1 rfl
          refine step_does (R := fun v w'' => v = .string (s.extract 0 64) ∧ w' = w'') (by exact rfl) ?_ (fun v w'' ⟨h1, h2⟩ => ⟨h2 ▸ Only.refl _ _, h1⟩)
          exact does_slice_str 9 (.tmp 20) none (some (.tmp 21)) rfl ((ev_dst _ 0 ys A 5 20 rfl (by decide) (by omega)).trans q5) Try.underlying9 0 64 bnd_none (bnd_some ((ev_dst _ 0 ys A 6 21 rfl (by decide) (by omega)).trans q6)) (by omega) (by omega)
        · exact step_val _ (by exact rfl) (ex_move rfl ((ev_old _ 0 ys A 7 (by decide)).trans k7)) rfl
        · obtain ⟨_, _, q8⟩ := hp.1 rfl
          refine step_val (.int .i64 (((64 - 64 : Nat)) : Int)) (by exact rfl) ?_ (by rfl)
          simp only [execOp]
          rw [((ev_dst _ 0 ys A 8 23 rfl (by decide) (by omega)).trans q8)]
          simp [go_sem]
          rfl
        · obtain ⟨_, _, q9⟩ := hp.1 rfl
          refine step_does (R := fun v w'' => ∃ b, v = .slice (some ⟨b, 0, none⟩) (64 - 64) (64 - 64) ∧ Blk w'' b (bytesV (List.replicate (64 - 64) 0)) ∧ Only [] w' w'') (by exact rfl) ?_ (fun v w'' ⟨b, h1, h2, h3⟩ => ⟨h3, b, h1, h2⟩)
          exact (does_make 46 (.tmp 24) (.tmp 24) rfl ((ev_dst _ 0 ys A 9 24 rfl (by decide) (by omega)).trans q9) ((ev_dst _ 0 ys A 9 24 rfl (by decide) (by omega)).trans q9) (n := (64 - 64)) (m := (64 - 64)) rfl rfl (Nat.le_refl _) Try.underlying46 (z := .int .u8 0) (size := 1) (bytes := 1) (by kernel_rfl) rfl (by omega) (by omega)).mono (fun v w'' ⟨h1, h2, h3, _⟩ => ⟨_, h1, by have h2' : Blk w'' w'.heap.size (List.replicate (64 - 64) [Value.int .u8 0]).flatten := h2; rw [flat1] at h2'; rw [bytesV, List.map_replicate]; exact h2', h3⟩)
        · obtain ⟨w1, o1, b1, q10, qc⟩ := hp.1 rfl
          refine step_does (R := fun v w'' => v = .string ⟨(List.replicate (64 - 64) (0 : UInt8)).toArray⟩ ∧ w' = w'') (by exact rfl) ?_ (fun v w'' ⟨h1, h2⟩ => ⟨h2 ▸ Only.refl _ _, h1⟩)
          exact does_string 46 9 (.tmp 25) rfl ((ev_dst _ 0 ys A 10 25 rfl (by decide) (by omega)).trans q10) (o1.blk qc (by simp)) Try.underlying46 Try.underlying5 Try.underlying9 (by rw [List.drop_zero, List.take_of_length_le (by rw [bytesV_length]; simp)]) (by simp)
        · obtain ⟨_, _, q7⟩ := hp.1 rfl
          obtain ⟨_, _, q11⟩ := hp.2.1 rfl
          refine step_does (R := fun v w'' => v = .string (s.extract 0 64 ++ ⟨(List.replicate (64 - 64) (0 : UInt8)).toArray⟩) ∧ w' = w'') (by exact rfl) ?_ (fun v w'' ⟨h1, h2⟩ => ⟨h2 ▸ Only.refl _ _, h1⟩)
          exact does_concat 9 9 (.tmp 22) (.tmp 26) rfl ((ev_dst _ 0 ys A 7 22 rfl (by decide) (by omega)).trans q7) ((ev_dst _ 0 ys A 11 26 rfl (by decide) (by omega)).trans q11) (by rw [ByteArray.size_extract]; have e1 : (ByteArray.mk (List.replicate (64 - 64) (0 : UInt8)).toArray).size = (64 - 64) := (by show (List.replicate _ _).toArray.size = _; simp); omega)
      · intro ys w' ho hall
        have q0 : ys 0 = .pointer (some ⟨r, 0, none⟩) := by obtain ⟨_, _, q⟩ := hall 0 (by omega); exact q
        have q1 : ys 1 = .pointer (some ⟨r, 0, none⟩) := by obtain ⟨_, _, q⟩ := hall 1 (by omega); exact q
        have q2 : ys 2 = .pointer (some ⟨r, 0, none⟩) := by obtain ⟨_, _, q⟩ := hall 2 (by omega); exact q
        have q3 : ys 3 = .slice (some ⟨lb, 0, none⟩) fs.length cap := by obtain ⟨_, _, q⟩ := hall 3 (by omega); exact q
        have q4 : ys 4 = .int .i64 k := by obtain ⟨_, _, q⟩ := hall 4 (by omega); exact q
        have q5 : ys 5 = .string s := by obtain ⟨_, _, q⟩ := hall 5 (by omega); exact q
        have q6 : ys 6 = .int .i64 ((64 : Nat) : Int) := by obtain ⟨_, _, q⟩ := hall 6 (by omega); exact q
        have q7 : ys 7 = .string (s.extract 0 64) := by obtain ⟨_, _, q⟩ := hall 7 (by omega); exact q
        have q8 : ys 8 = .int .i64 ((64 : Nat) : Int) := by obtain ⟨_, _, q⟩ := hall 8 (by omega); exact q
        have q9 : ys 9 = .int .i64 (((64 - 64 : Nat)) : Int) := by obtain ⟨_, _, q⟩ := hall 9 (by omega); exact q
        obtain ⟨w1, o1, b1, q10, qc⟩ := hall 10 (by omega)
        have q11 : ys 11 = .string ⟨(List.replicate (64 - 64) (0 : UInt8)).toArray⟩ := by obtain ⟨_, _, q⟩ := hall 11 (by omega); exact q
        have q12 : ys 12 = .string (s.extract 0 64 ++ ⟨(List.replicate (64 - 64) (0 : UInt8)).toArray⟩) := by obtain ⟨_, _, q⟩ := hall 12 (by omega); exact q
        clear hall ksz k0 k1 k2 k7
        rw [HA.out]
        clear HA
        simp only [putAll, List.take, List.drop, Act.put, List.setIfInBounds_toArray, List.set_cons_succ, List.set_cons_zero, Nat.reduceAdd, q0, q1, q2, q3, q4, q5, q6, q7, q8, q9, q11, q12]
        clear q0 q1 q2 q3 q4 q5 q6 q7 q8 q9 q11 q12
        have hrow := ho.blk (w := w.drew) hRef.row (by simp)
        have d0 := hrow.cell (o := k) (v := .string ⟨(refS (true, l)).toArray⟩) (by simp [refV, Hl.out])
        have d1 := hrow.free k (by simp [refV]; exact hk)
        have HO := hid ho
        have HR := hid hrow
        have HST := hid (fill_string s 64 (by omega) (by omega))
        generalize (s.extract 0 64 ++ ⟨(List.replicate (64 - 64) (0 : UInt8)).toArray⟩ : ByteArray) = str at *
        clear ho hrow hu c0
        go_wp2
        go_ret
        refine ⟨by rw [Hr.out.1]; rfl, ?_, (((Only.refl [r, lb] w).drew).trans0 HO.out).setCell (.inl (by simp)) _⟩
        rw [Hr.out.2]
        refine ⟨⟨cap, by rw [List.length_set]; exact (HO.out.blk (w := w.drew) HP.out (by simp)).other hRef.ne _, by simpa using hcap⟩, ?_, hRef.ne, hRef.wf.set (pad_length _), by simpa using hlen⟩
        rw [refV_set, refS_true, ← HST.out]
        exact HR.out.set k _
end Go.Proofs.Ytpcchkkpligemaa
