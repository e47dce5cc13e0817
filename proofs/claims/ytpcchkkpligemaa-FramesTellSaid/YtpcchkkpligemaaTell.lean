/- FramesTell: for every input the law returns true, and what was there stays. -/
import Derived.Test.YtpcchkkpligemaaRg
import Derived.Test.YtpcchkkpligemaaLf
import Derived.Test.YtpcchkkpligemaaCopy
namespace Go.Proofs.Ytpcchkkpligemaa
open Go.RowKit M

set_option maxHeartbeats 400000 in
theorem model_any {w : World} {p bb : Nat} {fs : List (Bool × List UInt8)} (h : RefAt w p bb fs) (o : Op7) (hs : o.s.size ≤ 9223372036854775807) :
    Calls Try.prog 12 #[.pointer (some ⟨p, 0, none⟩), .agg o.cells.toArray] w (LeftR p bb w (tri (doR fs o)) (doS fs o)) := by
  have hnew := Blk.new w o.cells 33
  have d0 := hnew.cell (o := 0) rfl
  have d1 := hnew.cell (o := 1) rfl
  have d2 := hnew.cell (o := 2) rfl
  have d3 := hnew.cell (o := 3) rfl
  have d4 := hnew.cell (o := 4) rfl
  have h' : RefAt (w.alloc (.cells o.cells.toArray 33)) p bb fs := h.congr (Below.heap_alloc _ _ _ (h.lts p (by simp))) (Below.heap_alloc _ _ _ (h.lts bb (by simp)))
  have hpick := pick_any o.d 4 (by omega) (by omega) (w.alloc (.cells o.cells.toArray 33))
  have Hpick := hid hpick
  have hm0 := Int.emod_nonneg o.d (show (4 : Int) ≠ 0 by omega)
  have hm1 := Int.emod_lt_of_pos o.d (show (0 : Int) < 4 by omega)
  clear hnew hpick
  have hcase : o.d % 4 = 0 ∨ o.d % 4 = 1 ∨ o.d % 4 = 2 ∨ o.d % 4 = 3 := by omega
  have fin : ∀ e w' r s', LeftR p bb (w.alloc (.cells o.cells.toArray 33)) r s' e w' → Only [p, bb] w w' := fun e w' r s' hl => ((Only.refl [p, bb] w).alloc _).trans1 hl.2.2
  have Hfin := hid fin
  clear fin
  rcases hcase with hc | hc | hc | hc
  · have hS : doS fs o = allocS fs := by simp [doS, hc]
    have hR : tri (doR fs o) = (match firstFree fs with | some k => tri (k, true, 0) | none => tri (0, false, 0)) := by simp only [doR, hc, if_true]; cases firstFree fs <;> rfl
    have hV : allocV fs = (match firstFree fs with | some k => .tuple #[.int .i64 k, .bool true] | none => .tuple #[.int .i64 0, .bool false]) := rfl
    cases hff : firstFree fs
    all_goals
      rw [hff] at hR hV
      have HS := hid hS
      have HR := hid hR
      have HV := hid hV
      clear hS hR hV hff
      go_enter Try.func12, Try.ntmps12
      go_wp2_with (first
        | (go_at_call 22; refine Hpick.out.mono ?_; rintro e w' ⟨rfl, rfl⟩)
        | (go_at_call 30; refine (ralloc_any h').mono ?_; rintro e w1 hl; have HL := hid hl; obtain ⟨rfl, hf1, ho1⟩ := hl; rw [HV.out]; clear hf1 ho1))
      go_ret3
      exact ⟨by rw [HR.out]; rfl, by rw [HS.out]; exact HL.out.2.1, Hfin.out _ _ _ _ HL.out⟩
  · have hS : doS fs o = freeS fs o.f := by simp [doS, hc]
    have hR : tri (doR fs o) = tri (0, false, freeE fs o.f) := by simp [doR, hc]
    have HS := hid hS
    have HR := hid hR
    clear hS hR
    go_enter Try.func12, Try.ntmps12
    go_wp2_with (first
      | (go_at_call 22; refine Hpick.out.mono ?_; rintro e w' ⟨rfl, rfl⟩)
      | (go_at_call 31; refine (rfree_any h' _).mono ?_; rintro e w1 hl; have HL := hid hl; obtain ⟨rfl, hf1, ho1⟩ := hl; clear hf1 ho1))
    go_ret3
    exact ⟨by rw [HR.out]; rfl, by rw [HS.out]; exact HL.out.2.1, Hfin.out _ _ _ _ HL.out⟩
  · have hS : doS fs o = setS fs o.f o.x o.b := by simp [doS, hc]
    have hR : tri (doR fs o) = tri (0, false, setE fs o.f o.x) := by simp [doR, hc]
    have HS := hid hS
    have HR := hid hR
    clear hS hR
    go_enter Try.func12, Try.ntmps12
    go_wp2_with (first
      | (go_at_call 22; refine Hpick.out.mono ?_; rintro e w' ⟨rfl, rfl⟩)
      | (go_at_call 32; refine (rset_any h' _ _ _).mono ?_; rintro e w1 hl; have HL := hid hl; obtain ⟨rfl, hf1, ho1⟩ := hl; clear hf1 ho1))
    go_ret3
    exact ⟨by rw [HR.out]; rfl, by rw [HS.out]; exact HL.out.2.1, Hfin.out _ _ _ _ HL.out⟩
  · have hS : doS fs o = fillS fs o.f o.s.data.toList := by simp [doS, hc]
    have hR : tri (doR fs o) = tri (0, false, fillE fs o.f) := by simp [doR, hc]
    have HS := hid hS
    have HR := hid hR
    clear hS hR
    go_enter Try.func12, Try.ntmps12
    go_wp2_with (first
      | (go_at_call 22; refine Hpick.out.mono ?_; rintro e w' ⟨rfl, rfl⟩)
      | (go_at_call 33; refine (rfill_any h' _ _ hs).mono ?_; rintro e w1 hl; have HL := hid hl; obtain ⟨rfl, hf1, ho1⟩ := hl; clear hf1 ho1))
    go_ret3
    exact ⟨by rw [HR.out]; rfl, by rw [HS.out]; exact HL.out.2.1, Hfin.out _ _ _ _ HL.out⟩

theorem qof {P : Program} {f : FuncId} {args : Array Value} {w : World} {n : Nat} {v : Value} (h : Calls P f args (w.drewN n) fun e w' => e = .returned v ∧ w.drewN n = w') :
    Calls P f args (w.drewN n) fun e w'' => e = .returned v ∧ ∃ m, w'' = w.drewN m := h.mono fun _ _ ⟨he, hm⟩ => ⟨he, n, hm.symm⟩

set_option maxRecDepth 100000 in
set_option maxHeartbeats 4000000 in
theorem tell_law {W : World} {n f x : Int} {v1 : Value} {l : List Op7} (h1 : Ops W v1 l) :
    Calls Try.prog 3 #[.int .i64 n, v1, .int .i64 f, .int .i64 x] W fun e w' => e = .returned (.bool true) ∧ Below W.heap.size W w' := by
  obtain ⟨ao1, cap1, rfl, hc1, hm1, _⟩ := id h1
  have hl1 : l.length ≤ 9223372036854775807 := by omega
  by_cases hc : n ≤ 20 ∧ fewB l = true
  · obtain ⟨g1, g2⟩ := hc
    have z1 : decide (20 < n) = false := by simpa using g1
    go_enter Try.func3, Try.ntmps3
    go_wp2_with fail
    refine (small_any W).mono ?_
    rintro e w0 ⟨rfl, ho0⟩
    have K1 := hid (h1.keep ho0.below)
    go_wp2_with fail
    refine (few_any K1.out).mono ?_
    rintro e w' ⟨rfl, rfl⟩
    go_wp2_with fail
    obtain ⟨m, hm⟩ : ∃ m : Nat, (m : Int) = min (max n 0) 4096 := ⟨(min (max n 0) 4096).toNat, by omega⟩
    refine (new_any w0 n m hm).mono ?_
    rintro e w1 ⟨p, bb, rfl, F1, o1, hp, hbb⟩
    have S1 := hid (((Sepd.start W).only ho0).add (A' := framesA p bb (List.replicate m (false, zeros))) o1 F1 (by simp [framesA, hp, hbb]) F1.lts)
    clear F1 o1 ho0
    go_wp2_with fail
    refine (rnew_any w1 n m hm).mono ?_
    rintro e w2 ⟨r, lb, rfl, F1, o1, hp, hbb⟩
    have S2 := hid (S1.out.add (A' := refA r lb (List.replicate m (false, zeros))) o1 F1 (by simp [refA, hp, hbb]) F1.lts)
    clear F1 o1 S1 hm
    generalize hst : List.replicate m (false, zeros) = st at *
    clear hst
    go_wp2_with fail
    go_loopw [12] (fun i wr => ∃ k : Nat, i = .int .i64 k ∧ k ≤ l.length ∧ Sepd W wr [framesA p bb (runS st (l.take k)), refA r lb (runS st (l.take k))]) (fun i _ => l.length - (intOf i).toNat)
    case atStart => exact ⟨0, rfl, by omega, S2.out⟩
    case round =>
      obtain ⟨k, rfl, hk, F⟩ := hrel
      have S3 := hid F
      clear F S2
      have hF1 := hid (S3.out.get 0 rfl)
      by_cases hlt : k < l.length
      · obtain ⟨o, ho⟩ : ∃ o, l[k]? = some o := ⟨_, List.getElem?_eq_getElem hlt⟩
        obtain ⟨b, off, rfl, hbl, hat, hs⟩ := (h1.keep S3.out.bel).at ho
        have hat' := hid hat
        have Ho := hid ho
        clear ho hat
        have HRT := hid (runS_take (fs := st) Ho.out)
        obtain ⟨rr, HRR⟩ : ∃ rr, Hid (doR (runS st (List.take k l)) o = rr) := ⟨_, rfl⟩
        go_wp2_with (first
          | ((with_reducible apply wpList_does (o := ⟨some 45, _, _, _, _, _⟩) rfl); (refine does_load_at 33 _ rfl rfl hat'.out Try.underlying33 rfl (by kernel_rfl)); rintro v w' ⟨rfl, rfl⟩)
          | (go_at_call 11; refine (do_any hF1.out o hs).mono ?_; rintro e w3 ⟨rfl, F2, o2⟩; have S4 := hid (S3.out.upd 0 rfl o2 (A' := framesA p bb (runS st (l.take (k + 1)))) (by rw [HRT.out]; exact F2) (fun k hk => .inl hk) F2.lts); clear F2 o2; have hF2 := hid (S4.out.get 1 rfl); obtain ⟨b2, off2, e2, _, hat3, _⟩ := (h1.keep S4.out.bel).at Ho.out; cases e2; have hat2 := hid hat3; clear hat3; rw [HRR.out]; simp only [tri])
          | ((with_reducible apply wpList_does (o := ⟨some 55, _, _, _, _, _⟩) rfl); (refine does_load_at 33 _ rfl rfl hat2.out Try.underlying33 rfl (by kernel_rfl)); rintro v w' ⟨rfl, rfl⟩)
          | (go_at_call 12; refine (model_any hF2.out o hs).mono ?_; rintro e w4 ⟨rfl, F2, o2⟩; have S5 := hid (S4.out.upd 1 rfl o2 (A' := refA r lb (runS st (l.take (k + 1)))) (by rw [HRT.out]; exact F2) (fun k hk => .inl hk) F2.lts); clear F2 o2; obtain ⟨b2, off2, e2, _, hat3, _⟩ := (h1.keep S5.out.bel).at Ho.out; cases e2; have cF := hat3.cell 1 rfl; clear hat3; rw [HRR.out]; simp only [tri]))
        have G1 := hid (S5.out.get 0 rfl)
        have G2 := hid (S5.out.get 1 rfl)
        clear hF1 hF2 hat' hat2 S3 S4
        go_quiet (first
          | (go_at_call 13; exact qof (used_any (w := w4.drewN _) (G1.out.congr rfl rfl)))
          | (go_at_call 14; exact qof (rused_any (w := w4.drewN _) (G2.out.congr rfl rfl)))
          | (go_at_call 15; exact qof (has_any (w := w4.drewN _) (G1.out.congr rfl rfl) _))
          | (go_at_call 16; exact qof (rhas_any (w := w4.drewN _) (G2.out.congr rfl rfl) _))
          | (go_at_call 17; exact qof (byte_any (w := w4.drewN _) (G1.out.congr rfl rfl) _ _))
          | (go_at_call 18; exact qof (rbyte_any (w := w4.drewN _) (G2.out.congr rfl rfl) _ _))
          | (go_at_call 19; exact qof (page_any (w := w4.drewN _) (G1.out.congr rfl rfl) _))
          | (go_at_call 20; exact qof (rpage_any (w := w4.drewN _) (G2.out.congr rfl rfl) _)))
        go_wp2_with fail
        exact ⟨⟨k + 1, by simp, by omega, S5.out.only ⟨rfl, rfl, rfl, Nat.le_refl _, fun _ _ _ => rfl⟩⟩, by simp [intOf]; omega⟩
      · obtain rfl : k = l.length := by omega
        rw [List.take_length] at S3
        have G1 := hid (S3.out.get 0 rfl)
        have G2 := hid (S3.out.get 1 rfl)
        obtain ⟨capR, hpR, hcR⟩ := RefAt.str G2.out
        have cR := hpR.cell (o := 0) rfl
        clear hF1 hpR hcR hk hlt
        go_wp2_with fail
        go_quiet (first
          | (go_at_call 21; exact qof (size_any (w := wr.drewN _) (G1.out.congr rfl rfl)))
          | (go_at_call 19; exact qof (page_any (w := wr.drewN _) (G1.out.congr rfl rfl) _))
          | (go_at_call 20; exact qof (rpage_any (w := wr.drewN _) (G2.out.congr rfl rfl) _)))
        go_wp2_with fail
        go_ret
        exact ⟨rfl, (S3.out.only (w' := wr.drewN _) ⟨rfl, rfl, rfl, Nat.le_refl _, fun _ _ _ => rfl⟩).bel⟩
  · have hcases : 20 < n ∨ (n ≤ 20 ∧ fewB l = false) := by
      rcases Bool.eq_false_or_eq_true (fewB l) with e1 | e1 <;> simp [e1] at hc ⊢ <;> omega
    clear hc
    rcases hcases with g1 | ⟨g1, g2⟩
    all_goals
      go_enter Try.func3, Try.ntmps3
      go_wp2_with fail
      refine (small_any W).mono ?_
      rintro e w0 ⟨rfl, ho0⟩
      have hb0 := ho0.below
      have K1 := hid (h1.keep hb0)
      go_wp2_with fail
      try (refine (few_any K1.out).mono ?_; rintro e w' ⟨rfl, rfl⟩; go_wp2_with fail)
      go_ret
      exact ⟨rfl, hb0⟩
end Go.Proofs.Ytpcchkkpligemaa
