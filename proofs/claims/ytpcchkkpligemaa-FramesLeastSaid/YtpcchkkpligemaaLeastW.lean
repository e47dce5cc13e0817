/- FramesLeast: the walk. -/
import Derived.Test.YtpcchkkpligemaaLeast
import Derived.Deep.RegionHeld3
import Derived.Test.YtpcchkkpligemaaFam
namespace Go.Proofs.Ytpcchkkpligemaa
open Go.RowKit M

def intC : Cod Try.prog 3 Int := Cod.int .i64 Try.underlying3 (by kernel_rfl)

theorem Ints.at {w : World} {ao : Option Addr} {n cap : Nat} {l : List Int} (h : SliceRd intC.rd 1 w (.slice ao n cap) l) {i : Nat} {x : Int} (hi : l[i]? = some x) :
    ∃ b off, ao = some ⟨b, off, none⟩ ∧ w.cell? ⟨b, off + i, none⟩ = some (.int .i64 x) := by
  obtain ⟨ao', cap', hv, _, _, hx⟩ := h
  cases hv
  obtain ⟨b, off, cs, e1, e2, e3, e4⟩ := hx i x hi
  obtain ⟨rfl, _⟩ := e4
  exact ⟨b, off, e1, by have := e3.cell 0 rfl; rwa [Nat.mul_one] at this⟩

theorem Ints.keep {w w' : World} {v : Value} {l : List Int} (h : SliceRd intC.rd 1 w v l) (hb : Below w.heap.size w w') : SliceRd intC.rd 1 w' v l := by
  obtain ⟨ao, cap, h2, h3, h4, h5⟩ := h
  exact ⟨ao, cap, h2, h3, h4, fun i a hi => by
    obtain ⟨b, off, cs', e1, e2, e3, e4⟩ := h5 i a hi
    exact ⟨b, off, cs', e1, Nat.lt_of_lt_of_le e2 hb.size, e3.below hb e2, intC.keep hb e4⟩⟩

def ZV : Array Value := (List.replicate 64 (Value.int .u8 0)).toArray
theorem zmake : ∀ w : World, (Instr.makeSlice 46 (.int .i64 64) (.int .i64 64)).run Try.prog w = .ok (.slice (some ⟨w.heap.size, 0, none⟩) 64 64) (w.alloc (.cells ZV 5)) := fun w => by kernel_rfl
theorem zconv : ∀ w : World, (convert 46 9 (.slice (some ⟨w.heap.size, 0, none⟩) 64 64)).run Try.prog (w.alloc (.cells ZV 5)) = .ok (.string ⟨zeros.toArray⟩) (w.alloc (.cells ZV 5)) := fun w =>
  run_convert_bytes_back (P := Try.prog) (w.alloc (.cells ZV 5)) 46 9 5 ⟨w.heap.size, 0, none⟩ 64 zeros Try.underlying46 Try.underlying5 Try.underlying9 (fun j hj => by
    rw [addr_add, Nat.zero_add]
    refine (Blk.new' w ZV 5).cell ?_
    have hj' : j < 64 := hj
    show (List.replicate 64 (Value.int .u8 0))[j]? = some (.int .u8 ((List.replicate 64 (0 : UInt8))[j].toNat : Int))
    rw [List.getElem?_replicate, if_pos hj', List.getElem_replicate]; rfl)

theorem zconv' : ∀ w : World, (convert 46 9 (.slice (some ⟨w.heap.size, 0, none⟩) 64 64)).run Try.prog (w.alloc (.cells ZV 5)).drew = .ok (.string ⟨zeros.toArray⟩) (w.alloc (.cells ZV 5)).drew := fun w => zconv w.drew

set_option maxRecDepth 100000 in
set_option maxHeartbeats 4000000 in
theorem least_law {W : World} {n : Int} {v1 : Value} {freed : List Int} (h1 : SliceRd intC.rd 1 W v1 freed) :
    Calls Try.prog 5 #[.int .i64 n, v1] W fun e w' => e = .returned (.bool true) ∧ Below W.heap.size W w' := by
  obtain ⟨ao1, cap1, rfl, hc1, hm1, _⟩ := id h1
  have hl1 : freed.length ≤ 9223372036854775807 := by omega
  by_cases hc : 0 ≤ n ∧ n ≤ 60 ∧ freed.length ≤ 60
  · obtain ⟨g1, g2, g3⟩ := hc
    obtain ⟨m, rfl⟩ := Int.eq_ofNat_of_zero_le g1
    have z3 : decide (60 < (freed.length : Int)) = false := by simp; omega
    go_enter Try.func5, Try.ntmps5
    go_wp2_with fail
    refine (small_any W).mono ?_
    rintro e w0 ⟨rfl, ho0⟩
    go_wp2_with fail
    refine (new_any w0 m m (by omega)).mono ?_
    rintro e w1 ⟨p, bb, rfl, F1, o1, hp, hbb⟩
    have SS1 := hid (((Sepd.start W).only ho0).add (A' := framesA p bb (S1 m 0)) o1 F1 (by simp [framesA, hp, hbb]) F1.lts)
    clear F1 o1 ho0
    go_wp2_with fail
    go_loopw [7] (fun i wr => ∃ k : Nat, i = .int .i64 k ∧ k ≤ m ∧ Sepd W wr [framesA p bb (S1 m k)]) (fun i _ => m - (intOf i).toNat)
    case atStart => exact ⟨0, rfl, by omega, SS1.out⟩
    case round =>
      obtain ⟨k, rfl, hk, F⟩ := hrel
      have SS2 := hid F
      clear F SS1
      have hF1 := hid (SS2.out.get 0 rfl)
      by_cases hlt : k < m
      · have hV : allocV (S1 m k) = .tuple #[.int .i64 k, .bool true] := by simp [allocV, S1_free hlt]
        have HV := hid hV
        have HE := hid (S1_fillE hlt)
        have HS := hid (S1_step hlt)
        clear hV
        go_wp2_with fail
        refine (alloc_any hF1.out).mono ?_
        rintro e w2 ⟨rfl, F2, o2⟩
        rw [HV.out]
        have S3 := hid (SS2.out.upd 0 rfl o2 (A' := framesA p bb (allocS (S1 m k))) F2 (fun k hk => .inl hk) F2.lts)
        have HF2 := hid F2
        clear F2 o2 hF1
        go_wp2_with fail
        refine (fill_any HF2.out k ⟨contB.toArray⟩ (by decide)).mono ?_
        rintro e w3 ⟨rfl, F3, o3⟩
        rw [HE.out]
        have S4 := hid (S3.out.upd 0 rfl o3 (A' := framesA p bb (S1 m (k + 1))) (by have := F3; rw [show (ByteArray.data ⟨contB.toArray⟩).toList = contB from rfl, HS.out] at this; exact this) (fun k hk => .inl hk) F3.lts)
        clear F3 o3
        go_wp2_with fail
        exact ⟨⟨k + 1, by simp, by omega, S4.out⟩, by simp [intOf]; omega⟩
      · obtain rfl : k = m := by omega
        rw [S1_full] at SS2
        clear hk hlt hF1
        go_wp2_with ((with_reducible apply wpList_does (o := ⟨some 61, _, _, _, _, _⟩) rfl); (refine does_make 53 _ _ (by rfl) (by rfl) (by rfl) (n := k) (m := k) rfl rfl (Nat.le_refl _) Try.underlying53 (z := .bool false) (size := 1) (bytes := 1) (by kernel_rfl) rfl (by omega) (by omega)); rintro v w2 ⟨rfl, hb, ho, hs⟩; have S3 := hid (SS2.out.add (A' := blkA wr.heap.size ((List.replicate k false).map Value.bool)) ho (by have hb' : Blk w2 wr.heap.size (List.replicate k [Value.bool false]).flatten := hb; rw [flat1] at hb'; simpa [blkA] using hb') (by simp [blkA]) (by simp [blkA]; omega)); clear hb ho hs)
        generalize wr.heap.size = bF at *
        go_loopw [11] (fun i wr => ∃ (j : Nat) (fr : List Bool), i = .int .i64 j ∧ j ≤ freed.length ∧ fr.length = k ∧ Sepd W wr [framesA p bb (S2 fr), blkA bF (fr.map Value.bool)]) (fun i _ => freed.length - (intOf i).toNat)
        case atStart => exact ⟨0, _, rfl, by omega, by simp, S3.out⟩
        case round =>
          obtain ⟨j, fr, rfl, hj, hfr, F⟩ := hrel
          have S4 := hid F
          have HFR := hid hfr
          clear F S3 SS2 hfr
          have hF1 := hid (S4.out.get 0 rfl)
          by_cases hlt : j < freed.length
          · obtain ⟨f, hf⟩ : ∃ f, freed[j]? = some f := ⟨_, List.getElem?_eq_getElem hlt⟩
            obtain ⟨b, off, rfl, hat⟩ := Ints.at (Ints.keep h1 S4.out.bel) hf
            clear hf
            have hout : ∀ w', Sepd W w' [framesA p bb (S2 (mark fr f)), blkA bF ((mark fr f).map Value.bool)] → (∃ (j' : Nat) (fr' : List Bool), Value.int .i64 ((j : Int) + 1) = .int .i64 j' ∧ j' ≤ freed.length ∧ fr'.length = k ∧ Sepd W w' [framesA p bb (S2 fr'), blkA bF (fr'.map Value.bool)]) := fun w' h => ⟨j + 1, mark fr f, by simp, by omega, by rw [mark_length]; exact HFR.out, h⟩
            have HOUT := hid hout
            clear hout
            have hfree := hid (free_any hF1.out f)
            have HSF := hid (S2_free fr f)
            by_cases h0 : 0 ≤ f
            · obtain ⟨q, rfl⟩ := Int.eq_ofNat_of_zero_le h0
              by_cases hq : q < k
              · obtain ⟨bq, hbq⟩ : ∃ bq, fr[q]? = some bq := ⟨_, List.getElem?_eq_getElem (by rw [HFR.out]; exact hq)⟩
                have hcell : ∀ w', Sepd W w' [framesA p bb (S2 (mark fr q)), blkA bF (fr.map Value.bool)] → w'.cell? ⟨bF, q, none⟩ = some (.bool bq) ∧ w'.frozen? ⟨bF, q, none⟩ = false ∧ Sepd W (w'.setCell ⟨bF, q, none⟩ (.bool true)) [framesA p bb (S2 (mark fr q)), blkA bF ((mark fr q).map Value.bool)] := by
                  intro w' h
                  have hb := h.blk 1 rfl
                  refine ⟨hb.cell (by simp [hbq]), hb.free q (by simp [HFR.out, hq]), ?_⟩
                  refine h.upd 1 rfl ((Only.refl [bF] w').setCell (.inl (by simp)) _) (A' := blkA bF ((mark fr q).map Value.bool)) ?_ (fun k hk => .inl hk) (by simp [blkA, World.setCell]; exact hb.lt)
                  have := hb.set q (.bool true)
                  simp only [blkA, mark, h0, if_true, Int.toNat_natCast, List.map_set]
                  exact this
                have HCELL := hid hcell
                have hE : freeE (S2 fr) q = if bq then 4 else 0 := by
                  simp only [freeE, S2_has, Int.toNat_natCast, hbq, h0]
                  cases bq <;> simp
                have HE := hid hE
                clear hcell hE hbq
                cases bq
                all_goals
                  go_wp2_with fail
                  refine hfree.out.mono ?_
                  rintro e w3 ⟨rfl, F2, o2⟩
                  rw [HE.out]
                  have S5 := hid (S4.out.upd 0 rfl o2 (A' := framesA p bb (S2 (mark fr q))) (by rw [← HSF.out]; exact F2) (fun k hk => .inl hk) F2.lts)
                  clear F2 o2
                  obtain ⟨cq, fq, hfin⟩ := HCELL.out w3 S5.out
                  have HFIN := hid hfin
                  clear hfin
                  have hmx : max ((k : Int) - 1) 0 = (k : Int) - 1 := by omega
                  go_wp2_with fail
                  exact ⟨HOUT.out _ HFIN.out, by simp [intOf]; omega⟩
              · have hmk : mark fr q = fr := by simp only [mark, h0, if_true, Int.toNat_natCast]; exact List.set_eq_of_length_le (by rw [HFR.out]; omega)
                have hE : freeE (S2 fr) q = 4 := by simp [freeE, S2_has, List.getElem?_eq_none (show fr.length ≤ q by rw [HFR.out]; omega)]
                have HE := hid hE
                have HM := hid hmk
                clear hE hmk
                go_wp2_with fail
                refine hfree.out.mono ?_
                rintro e w3 ⟨rfl, F2, o2⟩
                rw [HE.out]
                have S5 := hid (S4.out.upd 0 rfl o2 (A' := framesA p bb (S2 (mark fr q))) (by rw [← HSF.out]; exact F2) (fun k hk => .inl hk) F2.lts)
                clear F2 o2
                go_wp2_with fail
                exact ⟨HOUT.out _ (by have h := S5.out; rw [HM.out] at h ⊢; exact h), by simp [intOf]; omega⟩
            · have hmk : mark fr f = fr := by simp [mark, h0]
              have hE : freeE (S2 fr) f = 4 := by simp [freeE, S2_has, h0]
              have HE := hid hE
              have HM := hid hmk
              clear hE hmk
              go_wp2_with fail
              refine hfree.out.mono ?_
              rintro e w3 ⟨rfl, F2, o2⟩
              rw [HE.out]
              have S5 := hid (S4.out.upd 0 rfl o2 (A' := framesA p bb (S2 (mark fr f))) (by rw [← HSF.out]; exact F2) (fun k hk => .inl hk) F2.lts)
              clear F2 o2
              go_wp2_with fail
              exact ⟨HOUT.out _ (by have h := S5.out; rw [HM.out] at h ⊢; exact h), by simp [intOf]; omega⟩
          · clear hF1
            rw [← S3_zero] at S4
            go_wp2_with fail
            go_loopw [15] (fun i wr => ∃ (j : Nat), i = .int .i64 j ∧ j ≤ k ∧ Sepd W wr [framesA p bb (S3 j fr), blkA bF (fr.map Value.bool)]) (fun i _ => k - (intOf i).toNat)
            case atStart => exact ⟨0, rfl, by omega, S4.out⟩
            case round =>
              obtain ⟨j, rfl, hj, F⟩ := hrel
              have S5 := hid F
              clear F S4
              have hF1 := hid (S5.out.get 0 rfl)
              by_cases hlt : j < k
              · obtain ⟨bq, hbq⟩ : ∃ bq, fr[j]? = some bq := ⟨_, List.getElem?_eq_getElem (by rw [HFR.out]; exact hlt)⟩
                have cq := (S5.out.blk 1 rfl).cell (o := j) (v := .bool bq) (by simp [hbq])
                have HBQ := hid hbq
                clear hbq
                cases bq
                · go_wp2_with fail
                  exact ⟨⟨j + 1, by simp, by omega, by rw [S3_keep HBQ.out]; exact S5.out⟩, by simp [intOf]; omega⟩
                · have hV : allocV (S3 j fr) = .tuple #[.int .i64 j, .bool true] := by simp [allocV, S3_first HBQ.out]
                  have HV := hid hV
                  clear hV
                  go_wp2_with fail
                  refine (alloc_any hF1.out).mono ?_
                  rintro e w3 ⟨rfl, F2, o2⟩
                  rw [HV.out]
                  have S6 := hid (S5.out.upd 0 rfl o2 (A' := framesA p bb (S3 (j + 1) fr)) (by rw [← S3_alloc HBQ.out]; exact F2) (fun k hk => .inl hk) F2.lts)
                  have HPG := hid (S3_page HBQ.out)
                  clear F2 o2 hF1
                  go_wp2_with fail
                  have hpg : ∀ w', Only [] w3 w' → Calls Try.prog 19 #[.pointer (some ⟨p, 0, none⟩), .int .i64 j] w' fun e w'' => e = .returned (.string ⟨zeros.toArray⟩) ∧ w' = w'' := fun w' h => by
                    have := page_any ((S6.out.only h).get 0 rfl) j
                    rw [HPG.out] at this
                    exact this
                  have Hpg := hid hpg
                  clear hpg
                  refine named_act (fun A HA => ?_)
                  have k16 : A.eval (.tmp 16) = .int .i64 j := by rw [HA.out]; rfl
                  have k15 : A.eval (.tmp 15) = .int .i64 j := by rw [HA.out]; rfl
                  have k17 : A.eval (.tmp 17) = .bool true := by rw [HA.out]; rfl
                  have k6 : A.eval (.tmp 6) = .pointer (some ⟨p, 0, none⟩) := by rw [HA.out]; rfl
                  have ksz : A.tmps.size = 169 := by rw [HA.out]; rfl
                  refine wp_region_fam 14 (rs [fun v _ => v = .int .i64 j, fun v _ => v = .int .i64 j, fun v _ => v = .bool false, fun v _ => v = .bool false, fun v _ => v = .bool true, fun v _ => v = .bool false, fun v _ => v = .bool false, fun v _ => v = .bool false,
                    fun v _ => v = .pointer (some ⟨p, 0, none⟩), fun v _ => v = .int .i64 j, fun v _ => v = .string ⟨zeros.toArray⟩, fun v w => ∃ b, v = .slice (some ⟨b, 0, none⟩) 64 64 ∧ Blk w b (bytesV zeros), fun v _ => v = .string ⟨zeros.toArray⟩, fun v _ => v = .bool false]) (by kernel_rfl) (by kernel_rfl) ?_ ?_
                  · refine ⟨?_, ?_, ?_, ?_, ?_, ?_, ?_, ?_, ?_, ?_, ?_, ?_, ?_, ?_, trivial⟩
                    all_goals intro ys w' ho hp
                    · exact step_val _ rfl rfl ((ev_old _ 0 ys A 16 (by decide)).trans k16)
                    · exact step_val _ rfl rfl ((ev_old _ 0 ys A 15 (by decide)).trans k15)
                    · obtain ⟨_, _, q0⟩ := hp.1 rfl
                      obtain ⟨_, _, q1⟩ := hp.2.1 rfl
                      exact step_val _ rfl (ex_neqI rfl ((ev_dst _ 0 ys A 0 138 rfl (by decide) (by omega)).trans q0) ((ev_dst _ 0 ys A 1 139 rfl (by decide) (by omega)).trans q1)) (by simp [rs])
                    · obtain ⟨_, _, q2⟩ := hp.1 rfl
                      exact step_val _ rfl (ex_move rfl ((ev_dst _ 0 ys A 2 140 rfl (by decide) (by omega)).trans q2)) rfl
                    · obtain ⟨_, _, q3⟩ := hp.1 rfl
                      exact step_val _ (by exact wanted_of (j := 3) (d := 141) (b := false) rfl rfl ((ev_dst _ 0 ys A 3 141 rfl (by decide) (by omega)).trans q3)) (ex_move rfl ((ev_old _ 0 ys A 17 (by decide)).trans k17)) rfl
                    · obtain ⟨_, _, q4⟩ := hp.1 rfl
                      obtain ⟨_, _, q3⟩ := hp.2.1 rfl
                      exact step_val _ (by exact wanted_of (j := 3) (d := 141) (b := false) rfl rfl ((ev_dst _ 0 ys A 3 141 rfl (by decide) (by omega)).trans q3)) (ex_not rfl ((ev_dst _ 0 ys A 4 142 rfl (by decide) (by omega)).trans q4)) rfl
                    · obtain ⟨_, _, q3⟩ := hp.1 rfl
                      obtain ⟨_, _, q5⟩ := hp.2.1 rfl
                      exact step_val _ rfl (ex_pickF rfl ((ev_dst _ 0 ys A 3 141 rfl (by decide) (by omega)).trans q3) ((ev_dst _ 0 ys A 5 143 rfl (by decide) (by omega)).trans q5)) rfl
                    · obtain ⟨_, _, q6⟩ := hp.1 rfl
                      exact step_val _ rfl (ex_move rfl ((ev_dst _ 0 ys A 6 144 rfl (by decide) (by omega)).trans q6)) rfl
                    · obtain ⟨_, _, q7⟩ := hp.1 rfl
                      exact step_val _ (by exact wanted_of (j := 7) (d := 145) (b := false) rfl rfl ((ev_dst _ 0 ys A 7 145 rfl (by decide) (by omega)).trans q7)) (ex_move rfl ((ev_old _ 0 ys A 6 (by decide)).trans k6)) rfl
                    · obtain ⟨_, _, q7⟩ := hp.1 rfl
                      exact step_val _ (by exact wanted_of (j := 7) (d := 145) (b := false) rfl rfl ((ev_dst _ 0 ys A 7 145 rfl (by decide) (by omega)).trans q7)) (ex_move rfl ((ev_old _ 0 ys A 15 (by decide)).trans k15)) rfl
                    · obtain ⟨_, _, q8⟩ := hp.1 rfl
                      obtain ⟨_, _, q9⟩ := hp.2.1 rfl
                      obtain ⟨_, _, q7⟩ := hp.2.2.1 rfl
                      refine step_call (f := 19) (args := #[.pointer (some ⟨p, 0, none⟩), .int .i64 j]) ?_ ?_ ?_
                      · exact wanted_of (j := 7) (d := 145) (b := false) rfl rfl ((ev_dst _ 0 ys A 7 145 rfl (by decide) (by omega)).trans q7)
                      · exact ex_call (vs := [.pointer (some ⟨p, 0, none⟩), .int .i64 j]) rfl (by
                          show [_, _] = _
                          rw [(ev_dst _ 0 ys A 8 146 rfl (by decide) (by omega)).trans q8, (ev_dst _ 0 ys A 9 147 rfl (by decide) (by omega)).trans q9]) Try.func19 (by kernel_rfl) (by kernel_rfl)
                      · exact (Hpg.out w' ((Only.refl _ _).drew.trans0 ho)).mono (by rintro e w'' ⟨rfl, rfl⟩; exact ⟨_, rfl, Only.refl _ _, rfl⟩)
                    · obtain ⟨_, _, q7⟩ := hp.1 rfl
                      refine step_does (R := fun v w'' => ∃ b, v = .slice (some ⟨b, 0, none⟩) 64 64 ∧ Blk w'' b (bytesV zeros) ∧ Only [] w' w'') ?_ ?_ (fun v w'' ⟨b, h1, h2, h3⟩ => ⟨h3, b, h1, h2⟩)
                      · exact wanted_of (j := 7) (d := 145) (b := false) rfl rfl ((ev_dst _ 0 ys A 7 145 rfl (by decide) (by omega)).trans q7)
                      · exact (does_make 46 _ _ rfl rfl rfl (n := 64) (m := 64) rfl rfl (Nat.le_refl _) Try.underlying46 (z := .int .u8 0) (size := 1) (bytes := 1) (by kernel_rfl) rfl (by omega) (by omega)).mono (fun v w'' ⟨h1, h2, h3, _⟩ => ⟨_, h1, h2, h3⟩)
                    · obtain ⟨w1, o1, b, qb, qc⟩ := hp.1 rfl
                      obtain ⟨_, _, q7⟩ := hp.2.1 rfl
                      refine step_does (R := fun v w'' => v = .string ⟨zeros.toArray⟩ ∧ w' = w'') ?_ ?_ (fun v w'' ⟨h1, h2⟩ => ⟨h2 ▸ Only.refl _ _, h1⟩)
                      · exact wanted_of (j := 7) (d := 145) (b := false) rfl rfl ((ev_dst _ 0 ys A 7 145 rfl (by decide) (by omega)).trans q7)
                      · exact does_string 46 9 (.tmp 149) rfl ((ev_dst _ 0 ys A 11 149 rfl (by decide) (by omega)).trans qb) (o1.blk qc (by simp)) Try.underlying46 Try.underlying5 Try.underlying9 rfl rfl
                    · obtain ⟨_, _, q10⟩ := hp.1 rfl
                      obtain ⟨_, _, q12⟩ := hp.2.1 rfl
                      obtain ⟨_, _, q7⟩ := hp.2.2.1 rfl
                      refine step_val (.bool false) ?_ ?_ rfl
                      · exact wanted_of (j := 7) (d := 145) (b := false) rfl rfl ((ev_dst _ 0 ys A 7 145 rfl (by decide) (by omega)).trans q7)
                      · exact ex_neqS_same rfl ((ev_dst _ 0 ys A 10 148 rfl (by decide) (by omega)).trans q10) ((ev_dst _ 0 ys A 12 150 rfl (by decide) (by omega)).trans q12)
                  · intro ys w4 ho hall
                    obtain ⟨_, _, q0⟩ := hall 0 (by omega)
                    obtain ⟨_, _, q1⟩ := hall 1 (by omega)
                    obtain ⟨_, _, q7⟩ := hall 7 (by omega)
                    obtain ⟨_, _, q13⟩ := hall 13 (by omega)
                    have q7' : ys 7 = .bool false := q7
                    have q13' : ys 13 = .bool false := q13
                    have S7 := hid (S6.out.drew.only ho)
                    clear hall q0 q1 q7 q13 k15 k16 k17 k6 ksz
                    rw [HA.out]
                    clear HA
                    simp only [putAll, List.take, List.drop, Act.put, List.setIfInBounds_toArray, List.set_cons_succ, List.set_cons_zero, Nat.reduceAdd]
                    go_wp2_with fail
                    exact ⟨⟨j + 1, by simp, by omega, S7.out⟩, by simp [intOf]; omega⟩
              · obtain rfl : j = k := by omega
                obtain rfl : fr.length = j := HFR.out
                have hV : allocV (S3 fr.length fr) = .tuple #[.int .i64 0, .bool false] := by simp [allocV, S3_none]
                have hS : allocS (S3 fr.length fr) = S3 fr.length fr := by simp [allocS, S3_none]
                have HV := hid hV
                have HS := hid hS
                have HCT := hid (S3_count (fr := fr))
                clear hV hS
                go_wp2_with fail
                refine (alloc_any hF1.out).mono ?_
                rintro e w3 ⟨rfl, F2, o2⟩
                rw [HV.out]
                have S6 := hid (S5.out.upd 0 rfl o2 (A' := framesA p bb (S3 fr.length fr)) (by rw [HS.out] at F2; exact F2) (fun k hk => .inl hk) F2.lts)
                clear F2 o2 hF1
                go_wp2_with fail
                refine (used_any (S6.out.get 0 rfl)).mono ?_
                rintro e w' ⟨rfl, rfl⟩
                rw [HCT.out]
                go_wp2_with fail
                go_ret
                exact ⟨rfl, S6.out.bel⟩
  · have hcases : n < 0 ∨ (0 ≤ n ∧ 60 < n) ∨ (0 ≤ n ∧ n ≤ 60 ∧ 60 < freed.length) := by omega
    clear hc
    rcases hcases with g1 | ⟨g1, g2⟩ | ⟨g1, g2, g3⟩
    all_goals
      go_enter Try.func5, Try.ntmps5
      go_wp2_with fail
      refine (small_any W).mono ?_
      rintro e w0 ⟨rfl, ho0⟩
      have hb0 := ho0.below
      go_wp2_with fail
      go_ret
      exact ⟨rfl, hb0⟩
end Go.Proofs.Ytpcchkkpligemaa
