/- FramesCopy: for every input the law returns true, and what was there stays. -/
import Derived.Test.YtpcchkkpligemaaLf
namespace Go.Proofs.Ytpcchkkpligemaa
open Go.RowKit M

def runS (fs : List (Bool × List UInt8)) (l : List Op7) : List (Bool × List UInt8) := l.foldl doS fs

theorem runS_take {fs : List (Bool × List UInt8)} {l : List Op7} {k : Nat} {o : Op7} (h : l[k]? = some o) : runS fs (l.take (k + 1)) = doS (runS fs (l.take k)) o := by
  have hk := (List.getElem?_eq_some_iff.1 h).1
  rw [List.take_succ_eq_append_getElem hk, (List.getElem?_eq_some_iff.1 h).2]
  simp [runS]

theorem doS_length (fs : List (Bool × List UInt8)) (o : Op7) : (doS fs o).length = fs.length := by
  unfold doS allocS freeS setS fillS
  split
  · split <;> simp
  · split
    · split <;> simp
    · split
      · split <;> simp
      · split <;> simp
theorem runS_length (fs : List (Bool × List UInt8)) (l : List Op7) : (runS fs l).length = fs.length := by
  induction l generalizing fs with
  | nil => rfl
  | cons o l ih => simp only [runS, List.foldl_cons] at ih ⊢; rw [ih, doS_length]

/-- the results of the operations, one after the other -/
def trace : List (Bool × List UInt8) → List Op7 → List (Int × Bool × Int)
  | _, [] => []
  | fs, o :: l => doR fs o :: trace (doS fs o) l

theorem trace_snoc (fs : List (Bool × List UInt8)) (l : List Op7) (o : Op7) : trace fs (l ++ [o]) = trace fs l ++ [doR (runS fs l) o] := by
  induction l generalizing fs with
  | nil => rfl
  | cons q l ih => simp only [List.cons_append, trace, ih]; rfl

theorem trace_take {fs : List (Bool × List UInt8)} {l : List Op7} {k : Nat} {o : Op7} (h : l[k]? = some o) : trace fs (l.take (k + 1)) = trace fs (l.take k) ++ [doR (runS fs (l.take k)) o] := by
  have hk := (List.getElem?_eq_some_iff.1 h).1
  rw [List.take_succ_eq_append_getElem hk, (List.getElem?_eq_some_iff.1 h).2, trace_snoc]

theorem trace_length (fs : List (Bool × List UInt8)) (l : List Op7) : (trace fs l).length = l.length := by
  induction l generalizing fs with
  | nil => rfl
  | cons o l ih => simp [trace, ih]

theorem trace_get {fs : List (Bool × List UInt8)} {l : List Op7} {k : Nat} {o : Op7} (h : l[k]? = some o) : (trace fs l)[k]? = some (doR (runS fs (l.take k)) o) := by
  induction l generalizing fs k with
  | nil => simp at h
  | cons q l ih =>
    cases k with
    | zero => simp at h; subst h; rfl
    | succ k => simp at h; simp only [trace, List.getElem?_cons_succ, List.take_succ_cons]; rw [ih h]; rfl

set_option maxRecDepth 100000 in
set_option maxHeartbeats 4000000 in
theorem copy_law {W : World} {n : Int} {v1 v2 : Value} {l more : List Op7} (h1 : Ops W v1 l) (h2 : Ops W v2 more) :
    Calls Try.prog 6 #[.int .i64 n, v1, v2] W fun e w' => e = .returned (.bool true) ∧ Below W.heap.size W w' := by
  obtain ⟨ao1, cap1, rfl, hc1, hm1, _⟩ := id h1
  obtain ⟨ao2, cap2, rfl, hc2, hm2, _⟩ := id h2
  have hl1 : l.length ≤ 9223372036854775807 := by omega
  have hl2 : more.length ≤ 9223372036854775807 := by omega
  by_cases hc : n ≤ 20 ∧ fewB l = true ∧ fewB more = true ∧ l.length ≤ 50 ∧ more.length ≤ 50
  · obtain ⟨g1, g2, g3, g4, g5⟩ := hc
    go_enter Try.func6, Try.ntmps6
    go_wp2_with fail
    refine (small_any W).mono ?_
    rintro e w0 ⟨rfl, ho0⟩
    have hb0 := ho0.below
    have K1 := hid (h1.keep hb0)
    have K2 := hid (h2.keep hb0)
    go_wp2_with fail
    refine (few_any K1.out).mono ?_
    rintro e w' ⟨rfl, rfl⟩
    go_wp2_with fail
    refine (few_any K2.out).mono ?_
    rintro e w' ⟨rfl, rfl⟩
    go_wp2_with fail
    obtain ⟨m, hm⟩ : ∃ m : Nat, (m : Int) = min (max n 0) 4096 := ⟨(min (max n 0) 4096).toNat, by omega⟩
    refine (new_any w0 n m hm).mono ?_
    have hmn : m ≤ 20 ∧ n ≤ m := by omega
    rintro e w1 ⟨p, bb, rfl, F1, o1, hp, hbb⟩
    have S1 := hid (((Sepd.start W).only ho0).add (A' := framesA p bb (List.replicate m (false, zeros))) o1 F1 (by simp [framesA, hp, hbb]) F1.lts)
    clear F1 o1 hm hb0 ho0
    go_wp2_with fail
    go_loopw [9] (fun i wr => ∃ k : Nat, i = .int .i64 k ∧ k ≤ l.length ∧ Sepd W wr [framesA p bb (runS (List.replicate m (false, zeros)) (l.take k))]) (fun i _ => l.length - (intOf i).toNat)
    case atStart => exact ⟨0, rfl, by omega, S1.out⟩
    case round =>
      obtain ⟨k, rfl, hk, F⟩ := hrel
      have S2 := hid F
      clear F S1
      have hF1 := hid (S2.out.get 0 rfl)
      by_cases hlt : k < l.length
      · obtain ⟨o, ho⟩ : ∃ o, l[k]? = some o := ⟨_, List.getElem?_eq_getElem hlt⟩
        obtain ⟨b, off, rfl, hbl, hat, hs⟩ := (h1.keep S2.out.bel).at ho
        have hat' := hid hat
        have Ho := hid ho
        clear ho hat
        go_wp2_with (first
          | ((with_reducible apply wpList_does (o := ⟨some 62, _, _, _, _, _⟩) rfl); (refine does_load_at 33 _ rfl rfl hat'.out Try.underlying33 rfl (by kernel_rfl)); rintro v w' ⟨rfl, rfl⟩)
          | (go_at_call 11; refine (do_any hF1.out o hs).mono ?_; rintro e w2 ⟨rfl, F2, o2⟩; have HF2 := hid F2; have HO2 := hid o2; clear F2 o2))
        exact ⟨⟨k + 1, by simp, by omega, S2.out.upd 0 rfl HO2.out (A' := framesA p bb (runS (List.replicate m (false, zeros)) (l.take (k + 1)))) (by rw [runS_take Ho.out]; exact HF2.out) (fun k hk => .inl hk) HF2.out.lts⟩, by simp [intOf]; omega⟩
      · obtain rfl : k = l.length := by omega
        rw [List.take_length] at S2 hF1
        clear hk hlt
        go_wp2_with fail
        refine (copy_any hF1.out).mono ?_
        rintro e w2 ⟨p2, b2, rfl, F2, o2, hp2, hb2⟩
        generalize hS : runS (List.replicate m (false, zeros)) l = st at *
        have hlst : st.length = m := by rw [← hS, runS_length]; simp
        have S3 := hid (S2.out.add (A' := framesA p2 b2 st) o2 F2 (by simp [framesA, hp2, hb2]) F2.lts)
        have F2' := hid (S3.out.get 1 rfl)
        clear F2 o2 hp2 hb2 S2 hS hF1
        go_wp2_with fail
        refine (used_any F2'.out).mono ?_
        rintro e w' ⟨rfl, rfl⟩
        clear F2'
        go_wp2_with fail
        go_loopw [12, 13, 14, 15] (fun va vb vc i wr => ∃ (k : Nat) (fA fB fC : List Nat), i = .int .i64 k ∧ k ≤ more.length ∧
            Sepd W wr [framesA p bb (runS st (more.take k)), framesA p2 b2 st, ownA va k 1 ((trace st (more.take k)).map fun r => .int .i64 r.1) fA, ownA vb k 1 ((trace st (more.take k)).map fun r => .bool r.2.1) fB,
              ownA vc k 1 ((trace st (more.take k)).map fun r => .int .i64 r.2.2) fC]) (fun _ _ _ i _ => more.length - (intOf i).toNat)
        case atStart =>
          refine ⟨0, [], [], [], rfl, by omega, ?_⟩
          have e1 := S3.out.add (A' := ownA (.slice none 0 0) 0 1 [] []) (Only.refl [] _) (Own.nil _ _) (by simp [ownA]) (by simp [ownA])
          have e2 := e1.add (A' := ownA (.slice none 0 0) 0 1 [] []) (Only.refl [] _) (Own.nil _ _) (by simp [ownA]) (by simp [ownA])
          exact e2.add (A' := ownA (.slice none 0 0) 0 1 [] []) (Only.refl [] _) (Own.nil _ _) (by simp [ownA]) (by simp [ownA])
        case round =>
          obtain ⟨k, fA, fB, fC, rfl, hk, F⟩ := hrel
          have S4 := hid F
          clear F S3
          have hF1 := hid (S4.out.get 0 rfl)
          by_cases hlt : k < more.length
          · obtain ⟨o, ho⟩ : ∃ o, more[k]? = some o := ⟨_, List.getElem?_eq_getElem hlt⟩
            obtain ⟨b, off, rfl, hbl, hat, hs⟩ := (h2.keep S4.out.bel).at ho
            have hat' := hid hat
            have Ho := hid ho
            clear ho hat
            have HT := hid (trace_take (fs := st) Ho.out)
            go_wp2_with (first
              | ((with_reducible apply wpList_does (o := ⟨some 81, _, _, _, _, _⟩) rfl); (refine does_load_at 33 _ rfl rfl hat'.out Try.underlying33 rfl (by kernel_rfl)); rintro v w' ⟨rfl, rfl⟩)
              | (go_at_call 11; refine (do_any hF1.out o hs).mono ?_; rintro e w3 ⟨rfl, F2, o2⟩; have S5 := hid (S4.out.upd 0 rfl o2 (A' := framesA p bb (runS st (more.take (k + 1)))) (by rw [runS_take Ho.out]; exact F2) (fun k hk => .inl hk) F2.lts); clear F2 o2; generalize doR (runS st (List.take k more)) o = r at *; simp only [tri])
              | ((with_reducible apply wpList_does (o := ⟨some 89, _, _, _, _, _⟩) rfl); (refine does_append1 49 (.tmp 86) (.tmp 88) (by rfl) (by rfl) (by rfl) ((S5.out.alloc _).own 2 rfl) (Blk.new _ [_] _) rfl Try.underlying49 (z := .int .i64 0) (bytes := 8) (by kernel_rfl) rfl (by omega) (by omega)); rintro v4 w4 ⟨fA', q1, q2, q3⟩; have S6 := hid ((S5.out.alloc _).upd 2 rfl (A' := ownA v4 (k + 1) 1 _ fA') q2 q1 q3 q1.lt); clear q1 q2 q3)
              | ((with_reducible apply wpList_does (o := ⟨some 93, _, _, _, _, _⟩) rfl); (refine does_append1 53 (.tmp 90) (.tmp 92) (by rfl) (by rfl) (by rfl) ((S6.out.alloc _).own 3 rfl) (Blk.new _ [_] _) rfl Try.underlying53 (z := .bool false) (bytes := 1) (by kernel_rfl) rfl (by omega) (by omega)); rintro v5 w5 ⟨fB', q1, q2, q3⟩; have S7 := hid ((S6.out.alloc _).upd 3 rfl (A' := ownA v5 (k + 1) 1 _ fB') q2 q1 q3 q1.lt); clear q1 q2 q3)
              | ((with_reducible apply wpList_does (o := ⟨some 97, _, _, _, _, _⟩) rfl); (refine does_append1 57 (.tmp 94) (.tmp 96) (by rfl) (by rfl) (by rfl) ((S7.out.alloc _).own 4 rfl) (Blk.new _ [_] _) rfl Try.underlying57 (z := .int .i64 0) (bytes := 8) (by kernel_rfl) rfl (by omega) (by omega)); rintro v6 w6 ⟨fC', q1, q2, q3⟩; have S8 := hid ((S7.out.alloc _).upd 4 rfl (A' := ownA v6 (k + 1) 1 _ fC') q2 q1 q3 q1.lt); clear q1 q2 q3))
            refine ⟨⟨k + 1, fA', fB', fC', by simp, by omega, ?_⟩, by simp [intOf]; omega⟩
            rw [HT.out]
            simp only [List.map_append, List.map_cons, List.map_nil]
            exact S8.out
          · obtain rfl : k = more.length := by omega
            rw [List.take_length] at S4
            clear hk hlt hF1
            have hF2 := hid (S4.out.get 1 rfl)
            have hnn : ((count st : Nat) != count st) = false := by simp
            go_wp2_with fail
            refine (used_any hF2.out).mono ?_
            rintro e w' ⟨rfl, rfl⟩
            clear hF2 hnn
            go_wp2_with fail
            go_loopw [19] (fun i wr => ∃ (k : Nat), i = .int .i64 k ∧ k ≤ more.length ∧
                Sepd W wr [framesA p bb (runS st more), framesA p2 b2 (runS st (more.take k)), ownA u12 more.length 1 ((trace st more).map fun r => .int .i64 r.1) fA, ownA u13 more.length 1 ((trace st more).map fun r => .bool r.2.1) fB,
                  ownA u14 more.length 1 ((trace st more).map fun r => .int .i64 r.2.2) fC]) (fun i _ => more.length - (intOf i).toNat)
            case atStart => exact ⟨0, rfl, by omega, S4.out⟩
            case round =>
              obtain ⟨k, rfl, hk, F⟩ := hrel
              have S5 := hid F
              clear F S4
              have hF2 := hid (S5.out.get 1 rfl)
              by_cases hlt : k < more.length
              · obtain ⟨o, ho⟩ : ∃ o, more[k]? = some o := ⟨_, List.getElem?_eq_getElem hlt⟩
                obtain ⟨b, off, rfl, hbl, hat, hs⟩ := (h2.keep S5.out.bel).at ho
                obtain ⟨bA, capA, spA, rfl, _, _, _⟩ := (S5.out.own 2 rfl).row (by omega)
                obtain ⟨bB, capB, spB, rfl, _, _, _⟩ := (S5.out.own 3 rfl).row (by omega)
                obtain ⟨bC, capC, spC, rfl, _, _, _⟩ := (S5.out.own 4 rfl).row (by omega)
                have hat' := hid hat
                have Ho := hid ho
                clear ho hat
                have HT := hid (trace_get (fs := st) Ho.out)
                go_wp2_with (first
                  | ((with_reducible apply wpList_does (o := ⟨some 113, _, _, _, _, _⟩) rfl); (refine does_load_at 33 _ rfl rfl hat'.out Try.underlying33 rfl (by kernel_rfl)); rintro v w' ⟨rfl, rfl⟩)
                  | (go_at_call 11; refine (do_any hF2.out o hs).mono ?_; rintro e w3 ⟨rfl, F2, o2⟩; have S6 := hid (S5.out.upd 1 rfl o2 (A' := framesA p2 b2 (runS st (more.take (k + 1)))) (by rw [runS_take Ho.out]; exact F2) (fun k hk => .inl hk) F2.lts); clear F2 o2; generalize doR (runS st (List.take k more)) o = r at *; simp only [tri]; have cA := (S6.out.own 2 rfl).cell (j := k) (v := .int .i64 r.1) (by simp [HT.out]); have cB := (S6.out.own 3 rfl).cell (j := k) (v := .bool r.2.1) (by simp [HT.out]); have cC := (S6.out.own 4 rfl).cell (j := k) (v := .int .i64 r.2.2) (by simp [HT.out])))
                exact ⟨⟨k + 1, by simp, by omega, S6.out⟩, by simp [intOf]; omega⟩
              · obtain rfl : k = more.length := by omega
                rw [List.take_length] at S5
                clear hk hlt hF2
                have hF1 := hid (S5.out.get 0 rfl)
                have hF2 := hid (S5.out.get 1 rfl)
                have hbel := hid S5.out.bel
                clear S5
                go_wp2_with fail
                go_loop [23] (fun i => ∃ (k : Nat), i = .int .i64 k) (fun i => (n - intOf i).toNat)
                case atStart => exact ⟨0, rfl⟩
                case round =>
                  obtain ⟨k, rfl⟩ := hrel
                  have hp1 := hid (page_any hF1.out k)
                  have hp2 := hid (page_any hF2.out k)
                  generalize pageB (runS st more) k = pg at *
                  by_cases hlt : (k : Int) < n
                  · go_wp2_with fail
                    refine hp2.out.mono ?_
                    rintro e w' ⟨rfl, rfl⟩
                    go_wp2_with fail
                    refine hp1.out.mono ?_
                    rintro e w' ⟨rfl, rfl⟩
                    go_wp2_with fail
                    exact ⟨⟨k + 1, by simp⟩, by simp [intOf]; omega⟩
                  · go_wp2_with fail
                    go_ret
                    exact ⟨rfl, hbel.out⟩
  · have hcases : 20 < n ∨ (n ≤ 20 ∧ fewB l = false) ∨ (n ≤ 20 ∧ fewB l = true ∧ fewB more = false) ∨ (n ≤ 20 ∧ fewB l = true ∧ fewB more = true ∧ 50 < l.length) ∨ (n ≤ 20 ∧ fewB l = true ∧ fewB more = true ∧ l.length ≤ 50 ∧ 50 < more.length) := by
      rcases Bool.eq_false_or_eq_true (fewB l) with e1 | e1 <;> rcases Bool.eq_false_or_eq_true (fewB more) with e2 | e2 <;> simp [e1, e2] at hc ⊢ <;> omega
    clear hc
    rcases hcases with g1 | ⟨g1, g2⟩ | ⟨g1, g2, g3⟩ | ⟨g1, g2, g3, g4⟩ | ⟨g1, g2, g3, g4, g5⟩
    all_goals
      go_enter Try.func6, Try.ntmps6
      go_wp2_with fail
      refine (small_any W).mono ?_
      rintro e w0 ⟨rfl, ho0⟩
      have hb0 := ho0.below
      have K1 := hid (h1.keep hb0)
      have K2 := hid (h2.keep hb0)
      go_wp2_with fail
      try (refine (few_any K1.out).mono ?_; rintro e w' ⟨rfl, rfl⟩; go_wp2_with fail)
      try (refine (few_any K2.out).mono ?_; rintro e w' ⟨rfl, rfl⟩; go_wp2_with fail)
      go_ret
      exact ⟨rfl, hb0⟩
end Go.Proofs.Ytpcchkkpligemaa
