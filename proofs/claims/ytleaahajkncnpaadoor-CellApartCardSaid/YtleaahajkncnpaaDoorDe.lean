/- disk: Crash -/
import Derived.Test.YtleaahajkncnpaaDoorDd
namespace Go.Proofs.YtleaahajkncnpaaDoor
open Go.RowKit M
set_option linter.unusedVariables false
theorem put_sp' {w : World} {F : Th} (hS : Sat w [F]) (s t : Bytes) (a : Nat) {x : Int} (ha : x = a) (h1 : s.length ≤ 16777216) (h2 : a + t.length ≤ 33554432) : Calls Tryd.prog 44 #[strV s, intV x, strV t] w (Ret fun v w' => v = strV (putB s a t) ∧ Sat w' [F]) := by
  subst ha; exact put_sp hS s t a h1 h2
theorem RdI.shape {v : Value} {l : List Int} {w : World} (h : RdI v l w) : ∃ ao cap, v = .slice ao l.length cap ∧ l.length ≤ 9223372036854775807 := by obtain ⟨ao, cap, h1, h2, _⟩ := h; exact ⟨ao, cap, h1, h2⟩
theorem RdI.get {ao : Option Addr} {n cap i : Nat} {l : List Int} {x : Int} {w : World} (h : RdI (.slice ao n cap) l w) (hx : l[i]? = some x) : ∃ b off, ao = some ⟨b, off, none⟩ ∧ w.cell? ⟨b, off + i * 1, none⟩ = some (intV x) := by
  obtain ⟨ao', cap', h1, _, h3⟩ := h
  cases h1
  obtain ⟨b, off, h4, h5⟩ := h3 i x hx
  exact ⟨b, off, h4, by rw [Nat.mul_one]; exact h5⟩
theorem survives_snoc (keep : List Int) (p : Int × Int) : ∀ (Q : List (Int × Int)) (k : Nat) (F : Int → Bytes × Bytes), survives keep k (Q ++ [p]) F = (if keep ≠ [] ∧ (keep.getD ((k + Q.length) % keep.length) 0) % 2 = 1 then survive (survives keep k Q F) p else survives keep k Q F)
  | [], k, F => by simp [survives]
  | q :: Q, k, F => by
    simp only [List.cons_append, survives]
    rw [survives_snoc keep p Q (k + 1)]
    rw [show k + 1 + Q.length = k + (q :: Q).length by simp; omega]
def upto (keep : List Int) (Q : List (Int × Int)) (F : Int → Bytes × Bytes) (i : Nat) : Int → Bytes × Bytes := survives keep 0 (Q.take i) F
theorem upto_step {keep : List Int} {Q : List (Int × Int)} {F : Int → Bytes × Bytes} {i : Nat} {p : Int × Int} (hp : Q[i]? = some p) : upto keep Q F (i + 1) = (if keep ≠ [] ∧ (keep.getD (i % keep.length) 0) % 2 = 1 then survive (upto keep Q F i) p else upto keep Q F i) := by
  have hi := (List.getElem?_eq_some_iff.1 hp).1
  unfold upto
  rw [List.take_add_one, hp]
  simp only [Option.toList_some]
  rw [survives_snoc, List.length_take, Nat.min_eq_left (by omega), Nat.zero_add]
theorem upto_same {keep : List Int} {Q : List (Int × Int)} {F : Int → Bytes × Bytes} {i : Nat} {p : Int × Int} (hp : Q[i]? = some p) (h : ¬ (keep ≠ [] ∧ (keep.getD (i % keep.length) 0) % 2 = 1) ∨ ((upto keep Q F i) p.1).1.length ≤ 64 * p.2) : upto keep Q F (i + 1) = upto keep Q F i := by
  rw [upto_step hp]
  split
  · rename_i hc
    rcases h with h | h
    · exact absurd hc h
    · rw [survive, if_pos h]
  · rfl
def cut64 (s : Bytes) (a : Nat) : Bytes := (s.drop a).take 64
theorem upto_put {keep : List Int} {Q : List (Int × Int)} {F : Int → Bytes × Bytes} {i a : Nat} {p : Int × Int} (hp : Q[i]? = some p) (hk : keep ≠ []) (hb : (keep.getD (i % keep.length) 0) % 2 = 1) (ha : 64 * p.2 = a) (hlt : a < ((upto keep Q F i) p.1).1.length) :
    upto keep Q F (i + 1) = setF (upto keep Q F i) p.1 (((upto keep Q F i) p.1).1, putB ((upto keep Q F i) p.1).2 a (cut64 ((upto keep Q F i) p.1).1 a)) := by
  rw [upto_step hp, if_pos ⟨hk, hb⟩, survive, if_neg (by omega), ha]
  simp [cut64]
structure Small (F : Int → Bytes × Bytes) : Prop where
  now : ∀ k, (F k).1.length ≤ 16777216
  last : ∀ k, (F k).2.length ≤ 16777216
theorem Small.set {F : Int → Bytes × Bytes} (h : Small F) (k : Int) {t : Bytes} (ht : t.length ≤ 16777216) : Small (setF F k ((F k).1, t)) := by
  refine ⟨fun j => ?_, fun j => ?_⟩
  · simp only [setF]; split
    · exact h.now k
    · exact h.now j
  · simp only [setF]; split
    · exact ht
    · exact h.last j
theorem cut_eq {s : Bytes} {a B : Nat} (h : min ((a : Int) + 64) (s.length : Int) = B) : (s.take B).drop a = cut64 s a := by
  unfold cut64
  rw [List.drop_take]
  by_cases hc : a + 64 ≤ s.length
  · rw [show B - a = 64 by omega]
  · rw [List.take_of_length_le (by simp; omega), List.take_of_length_le (by simp; omega)]
theorem cut_le2 (s : Bytes) (a : Nat) (h : a ≤ s.length) : a + (cut64 s a).length ≤ s.length := by simp [cut64]; omega
theorem cut_le (s : Bytes) (a : Nat) : (cut64 s a).length ≤ 64 := by simp [cut64]; omega
/-- the files while each is made what is durable of it -/
def Cr (G : Int → Bytes × Bytes) (g0 g : Int → Option Value) (dn : Int → Prop) : Prop := ∀ k, ((g k = none ↔ g0 k = none)) ∧ (dn k → g0 k ≠ none → g k = some (fileV ((G k).2, (G k).2))) ∧ (¬ dn k → g k = g0 k)
theorem fileV_inj {x y : Bytes × Bytes} (h : fileV x = fileV y) : x = y := by
  obtain ⟨a, b⟩ := x
  obtain ⟨c, d⟩ := y
  simp [fileV] at h
  simp [h]
theorem Cr.val {G : Int → Bytes × Bytes} {g0 g : Int → Option Value} {dn : Int → Prop} {k : Int} {v : Value} (h : Cr G g0 g dn) (hs : SaysF g0 G) (hk : ¬ dn k) (hv : g k = some v) : v = fileV (G k) := by
  have := hs k
  rw [← (h k).2.2 hk, hv] at this
  exact this
theorem Cr.step {G : Int → Bytes × Bytes} {g0 g : Int → Option Value} {dn : Int → Prop} {k : Int} {v : Value} (h : Cr G g0 g dn) (hk : ¬ dn k) (hv : g k = some v) : Cr G g0 (upd g k (some (fileV ((G k).2, (G k).2)))) (fun j => dn j ∨ j = k) := by
  intro j
  by_cases hj : j = k
  · subst hj
    have h0 : g0 j ≠ none := fun q => by have := (h j).1.2 q; rw [hv] at this; cases this
    exact ⟨⟨fun q => (by rw [upd_self] at q; cases q), fun q => absurd q h0⟩, fun _ _ => upd_self, fun q => absurd (.inr rfl) q⟩
  · rw [upd_ne hj]
    exact ⟨(h j).1, fun q => (h j).2.1 (q.resolve_right hj), fun q => (h j).2.2 fun r => q (.inl r)⟩
theorem Cr.done {G : Int → Bytes × Bytes} {g0 g : Int → Option Value} {dn : Int → Prop} (h : Cr G g0 g dn) (hs : SaysF g0 G) (hd : ∀ k v, g k = some v → dn k) : SaysF g (fun k => ((G k).2, (G k).2)) := by
  intro k
  cases hq : g k with
  | none =>
    have := hs k
    rw [(h k).1.1 hq] at this
    have := fileV_inj this
    show _ = fileV ((G k).2, (G k).2)
    rw [← this]; rfl
  | some v =>
    have h0 : g0 k ≠ none := fun q => by have := (h k).1.2 q; rw [hq] at this; cases this
    have := (h k).2.1 (hd k v hq) h0
    rw [hq] at this
    rw [this]; rfl
theorem cr_same {w : World} {p bf bs : Nat} {C : List Value} {qv : Value} {Q : List (Int × Int)} {U U' : Int → Bytes × Bytes} {g : Int → Option Value} {F X Y : Th} (hu : U' = U) (hg : SaysF g U) (h : Sat w [X, mapT intK bf g, Y, blkT p C, ownT qv Q.length 2 (secV Q), setT bs Q, F]) : Sat w [blkT p C, filesT bf U', ownT qv Q.length 2 (secV Q), setT bs Q, F] := by
  rw [hu]
  exact (filesT_shut (As := [Y, blkT p C, ownT qv Q.length 2 (secV Q), setT bs Q, F]) g hg h.tail).drop 1 rfl |>.reorder [1, 0, 2, 3, 4] rfl
theorem cr_put {w : World} {p bf bs : Nat} {C : List Value} {qv : Value} {Q : List (Int × Int)} {U U' : Int → Bytes × Bytes} {g : Int → Option Value} {F X Y : Th} {k : Int} {x : Bytes × Bytes} (hu : U' = setF U k x) (hg : SaysF g U) (h : Sat w [X, mapT intK bf (upd g k (some (fileV x))), Y, blkT p C, ownT qv Q.length 2 (secV Q), setT bs Q, F]) : Sat w [blkT p C, filesT bf U', ownT qv Q.length 2 (secV Q), setT bs Q, F] := by
  rw [hu]
  exact (filesT_shut (As := [Y, blkT p C, ownT qv Q.length 2 (secV Q), setT bs Q, F]) _ (SaysF_set hg k x) h.tail).drop 1 rfl |>.reorder [1, 0, 2, 3, 4] rfl
theorem crash_end {w : World} {p bf bs2 i : Nat} {kp : Value} {D : DS} {ks : List Int} {g : Int → Option Value} {dn : Int → Prop} {cur : Option Int} {left r : Nat} {F X Y : Th} (hI : DInv D) (hd : D.down = false) (hi : i = D.Q.length) (hsm : Small (upto ks D.Q D.F i)) (hg : SaysF g (fun k => ((upto ks D.Q D.F i k).2, (upto ks D.Q D.F i k).2)))
    (h : Sat w [mapT pairK bs2 (fun _ => none), rangeT intK bf r g dn cur left, blkT p [.map (some bf), .slice none 0 0, .map (some bs2), intV D.lost, .bool true, intV 0, kp], X, Y, F]) : Sat w [diskT p kp (crashD D ks), F] := by
  have h1 := setT_shut (Q := []) (fun _ => none) (by simp) h
  have h2 := filesT_shut (F := fun k => ((upto ks D.Q D.F i k).2, (upto ks D.Q D.F i k).2)) g hg (range_map (h1.reorder [1, 0, 2, 3, 4, 5] rfl))
  have h3 := h2.new (Only.refl [] w) (A := ownT (.slice none 0 0) 0 2 []) (F' := fun k => k ∈ ([] : List Nat)) ⟨[], rfl, Own.nil w 2⟩ (by simp)
  have h4 := (h3.drop 4 rfl).drop 4 rfl
  dsimp only [List.eraseIdx] at h4
  have hD : crashD D ks = { D with down := true, armed := 0, F := fun k => ((upto ks D.Q D.F i k).2, (upto ks D.Q D.F i k).2), Q := [] } := by
    rw [crashD, if_neg (by rw [hd]; simp), hi]
    simp [upto]
  rw [hD]
  refine diskT_shut ⟨bf, bs2, .slice none 0 0⟩ ?_ (h4.reorder [3, 1, 0, 2, 4] rfl)
  exact { hI with now := fun k => hsm.last k, last := fun k => hsm.last k, nodup := List.nodup_nil, secs := by simp, armed := by simp }
set_option maxRecDepth 100000 in
theorem crash_sp {w : World} {p : Nat} {kp : Value} {D : DS} {F : Th} (hS : Sat w [diskT p kp D, F]) {kv : Value} {ks : List Int} (hK : Ent F (RdI kv ks)) :
    Calls Tryd.prog 22 #[ptrV p 0, kv] w (Ret fun v w' => v = .tuple #[] ∧ Sat w' [diskT p kp (crashD D ks), F]) := by
  obtain ⟨ao, capk, rfl, hkmax⟩ := (hK.sat hS 1 rfl).shape
  obtain ⟨⟨bf, bs, qv⟩, hI, hS⟩ := diskT_open hS; dsimp only at hS
  refine calls_enter Tryd.func22 rfl Tryd.ntmps22 rfl ?_
  have hcnt := sec_count hI.secs hI.nodup
  refine wc_seq ?_
  refine wc_seq ?_
  refine wc_region ?_
  refine wl_move rfl rfl ?_
  refine wl_nilCheck rfl rfl ?_
  refine wl_fieldAddr rfl fo_61_4 rfl ?_
  refine wl_load rfl ag_4 (by first | assumption | exact hS.cell 0 rfl rfl) rfl ?_
  refine wl_nil ?_
  refine qs_seq ?_
  refine wc_cond rfl (fun h1 => ?_) (fun h1 => ?_)
  · skip
    have hd : D.down = true := h1
    refine wc_ret ?_
    refine qs_then_ret ?_
    refine fin0 (.inr rfl) rfl ?_
    exact ⟨_, rfl, rfl, by rw [crashD, if_pos hd]; exact diskT_shut ⟨bf, bs, qv⟩ hI hS⟩
  · skip
    have hd : D.down = false := h1
    refine wc_skip ?_
    refine qs_seq ?_
    refine wc_seq ?_
    refine wc_region ?_
    refine wl_move rfl rfl ?_
    refine wl_move rfl rfl ?_
    refine wl_nilCheck rfl rfl ?_
    refine wl_fieldAddr rfl fo_61_4 rfl ?_
    first | (refine wl_store hS rfl rfl sz_4 (by first | rfl | assumption | exact hS.own_one 2 rfl) (i := 0) rfl (by first | decide | exact Nat.le_of_ble_eq_true rfl | (simp; done) | omega) ?_)
    intro w2 hS3; dsimp only [List.set] at hS3
    refine wl_nilCheck rfl rfl ?_
    refine wl_fieldAddr rfl fo_61_5 rfl ?_
    first | (refine wl_store hS3 rfl rfl sz_3 (by first | rfl | assumption | exact hS3.own_one 2 rfl) (i := 0) rfl (by first | decide | exact Nat.le_of_ble_eq_true rfl | (simp; done) | omega) ?_)
    intro w4 hS5; dsimp only [List.set] at hS5
    clear hS3
    refine wl_nil ?_
    refine qs_seq ?_
    refine wc_sub (L' := [(0, _), (1, _)]) (.cons rfl (.cons rfl .nil)) ?_
    refine wc_seq ?_
    refine wc_seq ?_
    refine wc_region ?_
    refine wl_move rfl rfl ?_
    refine wl_nilCheck rfl rfl ?_
    refine wl_fieldAddr rfl fo_61_1 rfl ?_
    refine wl_load rfl ag_59 (by first | assumption | exact hS5.cell 0 rfl rfl) rfl ?_
    first | refine wl_lenL Tryd.underlying59 rfl rfl ?_ | refine wl_lenO 2 hS5 Tryd.underlying59 rfl rfl rfl ?_
    refine wl_move rfl rfl ?_
    refine wl_nil ?_
    refine qs_seq ?_
    refine wc_block ?_
    refine wc_loop (fun K0 E0 W0 => ∃ (i : Nat), K0 = D.Q.length - i ∧ E0 = [(0, ptrV p 0), (1, .slice ao ks.length capk), (23, qv), (24, intV (D.Q.length : Int)), (25, intV (i : Int))] ∧ Sat W0 [blkT p [.map (some bf), qv, .map (some bs), intV D.lost, .bool true, intV 0, kp], filesT bf (upto ks D.Q D.F i), ownT qv D.Q.length 2 (secV D.Q), setT bs D.Q, F] ∧ (i ≤ D.Q.length) ∧ (Small (upto ks D.Q D.F i))) (L0 := [(0, _), (1, _), (23, _), (24, _), (25, _)]) (D.Q.length) (.cons rfl (.cons rfl (.cons rfl (.cons rfl (.cons rfl .nil))))) ⟨0, by omega, rfl, hS5, by omega, ⟨hI.now, hI.last⟩⟩ ?_
    rintro _ _ w6 ⟨i, rfl, rfl, hS6, hi, hsm⟩
    refine wc_seq ?_
    refine wc_region ?_
    refine wl_lss rfl rfl rfl ?_
    refine wl_nil ?_
    refine qs_seq ?_
    refine wc_seq ?_
    refine wc_condD rfl (fun h7 => ?_) (fun h7 => ?_)
    · skip
      obtain ⟨⟨q1, q2⟩, hq⟩ : ∃ q, D.Q[i]? = some q := ⟨_, List.getElem?_eq_getElem (by omega)⟩
      have hsec := hI.secs _ (List.mem_of_getElem? hq)
      refine wc_skip ?_
      refine qs_seq ?_
      refine wc_seq ?_
      refine wc_block ?_
      refine wc_seq ?_
      refine wc_region ?_
      refine wl_move rfl rfl ?_
      refine wl_indexO 2 i hS6 rfl rfl rfl rfl (by omega) es_59 rfl ?_
      intro bq capq hv
      refine wl_loadO 2 hS6 rfl hv rfl ag_78 sz_78 (sec_at hq) rfl rfl ?_
      refine wl_alloc hS6 zr_78 rfl rfl ?_
      intro b8 w8 hS8
      clear hS6
      refine wl_assign rfl rfl ?_
      first | (refine wl_storeA hS8 rfl rfl sz_78 rfl (by first | rfl | (simp [allOne, Value.oneCell']; done) | assumption | exact hone) (i := 0) rfl (by first | decide | exact Nat.le_of_ble_eq_true rfl | (simp; done) | omega) ?_) | (refine wl_storeA hS8 rfl rfl sz_78 rfl (by first | rfl | (simp [allOne, Value.oneCell']; done) | assumption | exact hone) (i := 1) rfl (by first | decide | exact Nat.le_of_ble_eq_true rfl | (simp; done) | omega) ?_)
      intro w9 hS10; dsimp only [List.set] at hS10
      clear hS8
      refine wl_nil ?_
      refine qs_seq ?_
      refine wc_sub (L' := [(4, _), (5, _), (0, _), (1, _), (23, _), (24, _), (25, _)]) (.cons rfl (.cons rfl (.cons rfl (.cons rfl (.cons rfl (.cons rfl (.cons rfl .nil))))))) ?_
      refine wc_seq ?_
      obtain ⟨g, hg, hS10⟩ := filesT_open (hS10.pull 2 rfl); dsimp only [List.eraseIdx] at hS10
      have hS11 := hS10.drew
      refine wc_draw [0, 1, 2, 3, 4, 5, 6, 7, 8, 9, 10, 11, 12] [10, 11] mix (by kernel_rfl) ?_
      refine vc_p rfl rfl rfl (fun _ => (ev_move rfl)) ?_
      refine vc_p rfl rfl rfl (fun _ => (ev_nilCheck rfl)) ?_
      refine vc_p rfl rfl rfl (fun _ => (ev_fieldAddr rfl fo_61_0)) ?_
      refine vc_q rfl rfl rfl (ev_load rfl ag_57 (by first | assumption | exact hS11.cell 1 rfl rfl | exact hS11.cell 2 rfl rfl)) ?_
      refine vc_p rfl rfl rfl (fun _ => (ev_fieldAddr rfl fo_78_0)) ?_
      refine vc_q rfl rfl rfl (ev_load rfl ag_3 (by first | assumption | exact hS11.cell 1 rfl rfl | exact hS11.cell 2 rfl rfl)) ?_
      refine vc_q rfl rfl rfl (ev_lookup 0 hS11 keysInt Tryd.underlying57 rfl rfl rfl zr_80 (hg _)) ?_
      refine vc_p rfl rfl rfl (fun _ => (ev_fieldAddr rfl fo_78_1)) ?_
      refine vc_q rfl rfl rfl (ev_load rfl ag_3 (by first | assumption | exact hS11.cell 1 rfl rfl | exact hS11.cell 2 rfl rfl)) ?_
      refine vc_p rfl rfl rfl (fun _ => (ev_mul rfl rfl (by omega) (by omega))) ?_
      refine vc_s rfl rfl rfl rfl rfl rfl ?_
      refine wl_alloc hS11 zr_80 rfl rfl ?_
      intro b12 w12 hS12
      clear hS11
      refine vc_e (.cons (.inl ⟨rfl, (ev_load rfl ag_3 (by first | assumption | exact hS12.cell 0 rfl rfl | exact hS12.cell 2 rfl rfl | exact hS12.cell 3 rfl rfl))⟩) (.cons (.inl ⟨rfl, (ev_lookup 1 hS12 keysInt Tryd.underlying57 rfl rfl rfl zr_80 (hg _))⟩) (.cons (.inl ⟨rfl, (ev_load rfl ag_3 (by first | assumption | exact hS12.cell 0 rfl rfl | exact hS12.cell 2 rfl rfl | exact hS12.cell 3 rfl rfl))⟩) (.cons (.inl ⟨rfl, (ev_load rfl ag_57 (by first | assumption | exact hS12.cell 0 rfl rfl | exact hS12.cell 2 rfl rfl | exact hS12.cell 3 rfl rfl))⟩) .nil)))) ?_
      refine vc_s rfl rfl rfl rfl rfl rfl ?_
      first | (refine wl_storeA hS12 rfl rfl sz_80 rfl (by first | rfl | (simp [allOne, Value.oneCell']; done) | assumption | exact hone) (i := 0) rfl (by first | decide | exact Nat.le_of_ble_eq_true rfl | (simp; done) | omega) ?_) | (refine wl_storeA hS12 rfl rfl sz_80 rfl (by first | rfl | (simp [allOne, Value.oneCell']; done) | assumption | exact hone) (i := 2) rfl (by first | decide | exact Nat.le_of_ble_eq_true rfl | (simp; done) | omega) ?_) | (refine wl_storeA hS12 rfl rfl sz_80 rfl (by first | rfl | (simp [allOne, Value.oneCell']; done) | assumption | exact hone) (i := 3) rfl (by first | decide | exact Nat.le_of_ble_eq_true rfl | (simp; done) | omega) ?_)
      intro w13 hS14; dsimp only [List.set] at hS14
      clear hS12
      refine vc_e0 (.cons (.inl ⟨rfl, (ev_load rfl ag_3 (by first | assumption | exact hS14.cell 0 rfl rfl | exact hS14.cell 2 rfl rfl | exact hS14.cell 3 rfl rfl))⟩) (.skip (by kernel_rfl) (.skip (by kernel_rfl) (.skip (by kernel_rfl) .nil)))) ?_
      refine vc_p rfl rfl rfl (fun _ => (ev_assign rfl)) ?_
      refine VC.nil ?_
      refine qs_seq ?_
      refine wc_sub (L' := [(7, _), (6, _), (4, _), (5, _), (0, _), (1, _), (23, _), (24, _), (25, _)]) (.cons rfl (.cons rfl (.cons rfl (.cons rfl (.cons rfl (.cons rfl (.cons rfl (.cons rfl (.cons rfl .nil))))))))) ?_
      refine wc_seq ?_
      refine wc_seq ?_
      refine wc_region ?_
      refine wl_move rfl rfl ?_
      first | refine wl_lenL Tryd.underlying39 rfl rfl ?_ | refine wl_lenO 4 hS14 Tryd.underlying39 rfl rfl rfl ?_
      refine wl_eql rfl rfl rfl ?_
      refine wl_move rfl rfl ?_
      refine wl_splitD 43 rfl (fun h15 => ?_) (fun h15 => ?_)
      · skip
        have hk0 : ks = [] := List.length_eq_zero_iff.1 (by omega)
        refine wl_unwanted rfl rfl (decide_eq_true h15) rfl ?_
        refine wl_unwanted rfl rfl (decide_eq_true h15) rfl ?_
        refine wl_unwanted rfl rfl (decide_eq_true h15) rfl ?_
        refine wl_unwanted rfl rfl (decide_eq_true h15) rfl ?_
        refine wl_unwanted rfl rfl (decide_eq_true h15) rfl ?_
        refine wl_unwanted rfl rfl (decide_eq_true h15) rfl ?_
        refine wl_unwanted rfl rfl (decide_eq_true h15) rfl ?_
        refine wl_unwanted rfl rfl (decide_eq_true h15) rfl ?_
        refine wl_unwanted rfl rfl (decide_eq_true h15) rfl ?_
        refine wl_pickT rfl (decide_eq_true h15) rfl rfl ?_
        refine wl_move rfl rfl ?_
        refine wl_unwanted rfl rfl rfl rfl ?_
        refine wl_unwanted rfl rfl rfl rfl ?_
        refine wl_unwanted rfl rfl rfl rfl ?_
        refine wl_unwanted rfl rfl rfl rfl ?_
        refine wl_unwanted rfl rfl rfl rfl ?_
        refine wl_pickT rfl rfl rfl rfl ?_
        refine wl_nil ?_
        refine qs_seq ?_
        refine wc_sub (L' := [(60, _), (7, _), (6, _), (5, _), (0, _), (1, _), (23, _), (24, _), (25, _)]) (.cons rfl (.cons rfl (.cons rfl (.cons rfl (.cons rfl (.cons rfl (.cons rfl (.cons rfl (.cons rfl .nil))))))))) ?_
        refine wc_condT rfl ?_
        refine wc_exit ?_
        refine qs_then_exit ?_
        refine qs_block_exit ?_
        refine qs_seq ?_
        refine wc_region ?_
        refine wl_add rfl rfl (by omega) (by omega) rfl ?_
        refine wl_move rfl rfl ?_
        refine wl_nil ?_
        have hu := upto_same (keep := ks) (F := D.F) hq (.inl (by simp [hk0]))
        exact qs_round (L1 := [(0, ptrV p 0), (1, _), (23, qv), (24, intV (D.Q.length : Int)), (25, intV ((i + 1 : Nat) : Int))]) (.cons rfl (.cons rfl (.cons rfl (.cons rfl (.cons rfl .nil))))) (k1 := D.Q.length - (i + 1)) (by omega) ⟨i + 1, by omega, rfl, cr_same hu hg hS14, by omega, by rw [hu]; exact hsm⟩
      · skip
        have hkl : 0 < ks.length := by omega
        obtain ⟨x, hx⟩ : ∃ x, ks[i % ks.length]? = some x := ⟨_, List.getElem?_eq_getElem (Nat.mod_lt _ hkl)⟩
        have hkx : ks.getD (i % ks.length) 0 = x := by simp [List.getD_eq_getElem?_getD, hx]
        obtain ⟨bk, ok, rfl, hcell⟩ := (hK.sat hS14 6 rfl).get hx
        refine wl_guard rfl rfl (decide_eq_false h15) ?_
        refine wl_move rfl rfl ?_
        refine wl_guard rfl rfl (decide_eq_false h15) ?_
        refine wl_move rfl rfl ?_
        refine wl_guard rfl rfl (decide_eq_false h15) ?_
        refine wl_move rfl rfl ?_
        refine wl_guard rfl rfl (decide_eq_false h15) ?_
        first | refine wl_lenL Tryd.underlying39 rfl rfl ?_ | refine wl_lenO 4 hS14 Tryd.underlying39 rfl rfl rfl ?_
        refine wl_guard rfl rfl (decide_eq_false h15) ?_
        refine wl_rem rfl rfl (by omega) (by omega) rfl ?_
        refine wl_guard rfl rfl (decide_eq_false h15) ?_
        refine wl_indexAddr (i % ks.length) rfl rfl (by first | rfl | omega) (by exact Nat.mod_lt _ hkl) es_39 rfl ?_
        refine wl_guard rfl rfl (decide_eq_false h15) ?_
        refine wl_load rfl ag_3 (by first | assumption | exact hS14.cell 0 rfl rfl | exact hS14.cell 2 rfl rfl | exact hS14.cell 3 rfl rfl) rfl ?_
        refine wl_guard rfl rfl (decide_eq_false h15) ?_
        refine wl_mask 1 rfl rfl rfl rfl (q := 2) rfl rfl ?_
        refine wl_guard rfl rfl (decide_eq_false h15) ?_
        refine wl_eql rfl rfl rfl ?_
        refine wl_pickF rfl (decide_eq_false h15) rfl rfl ?_
        refine wl_move rfl rfl ?_
        refine wl_splitD 54 rfl (fun h16 => ?_) (fun h16 => ?_)
        · skip
          refine wl_unwanted rfl rfl (decide_eq_true h16) rfl ?_
          refine wl_unwanted rfl rfl (decide_eq_true h16) rfl ?_
          refine wl_unwanted rfl rfl (decide_eq_true h16) rfl ?_
          refine wl_unwanted rfl rfl (decide_eq_true h16) rfl ?_
          refine wl_unwanted rfl rfl (decide_eq_true h16) rfl ?_
          refine wl_pickT rfl (decide_eq_true h16) rfl rfl ?_
          refine wl_nil ?_
          refine qs_seq ?_
          refine wc_sub (L' := [(60, _), (7, _), (6, _), (5, _), (0, _), (1, _), (23, _), (24, _), (25, _)]) (.cons rfl (.cons rfl (.cons rfl (.cons rfl (.cons rfl (.cons rfl (.cons rfl (.cons rfl (.cons rfl .nil))))))))) ?_
          refine wc_condT rfl ?_
          refine wc_exit ?_
          refine qs_then_exit ?_
          refine qs_block_exit ?_
          refine qs_seq ?_
          refine wc_region ?_
          refine wl_add rfl rfl (by omega) (by omega) rfl ?_
          refine wl_move rfl rfl ?_
          refine wl_nil ?_
          have hu := upto_same (keep := ks) (F := D.F) hq (.inl (by rw [hkx]; omega))
          exact qs_round (L1 := [(0, ptrV p 0), (1, _), (23, qv), (24, intV (D.Q.length : Int)), (25, intV ((i + 1 : Nat) : Int))]) (.cons rfl (.cons rfl (.cons rfl (.cons rfl (.cons rfl .nil))))) (k1 := D.Q.length - (i + 1)) (by omega) ⟨i + 1, by omega, rfl, cr_same hu hg hS14, by omega, by rw [hu]; exact hsm⟩
        · skip
          refine wl_guard rfl rfl (decide_eq_false h16) ?_
          refine wl_move rfl rfl ?_
          refine wl_guard rfl rfl (decide_eq_false h16) ?_
          refine wl_fieldAddr rfl fo_80_0 rfl ?_
          refine wl_guard rfl rfl (decide_eq_false h16) ?_
          refine wl_load rfl ag_9 (by first | assumption | exact hS14.cell 0 rfl rfl | exact hS14.cell 2 rfl rfl | exact hS14.cell 3 rfl rfl) rfl ?_
          refine wl_guard rfl rfl (decide_eq_false h16) ?_
          refine wl_lenS Tryd.underlying9 rfl rfl ?_
          refine wl_guard rfl rfl (decide_eq_false h16) ?_
          refine wl_geq rfl rfl rfl ?_
          refine wl_pickF rfl (decide_eq_false h16) rfl rfl ?_
          refine wl_nil ?_
          refine qs_seq ?_
          refine wc_sub (L' := [(60, _), (7, _), (6, _), (5, _), (0, _), (1, _), (23, _), (24, _), (25, _)]) (.cons rfl (.cons rfl (.cons rfl (.cons rfl (.cons rfl (.cons rfl (.cons rfl (.cons rfl (.cons rfl .nil))))))))) ?_
          refine wc_condD rfl (fun h17 => ?_) (fun h17 => ?_)
          · skip
            refine wc_exit ?_
            refine qs_then_exit ?_
            refine qs_block_exit ?_
            refine qs_seq ?_
            refine wc_region ?_
            refine wl_add rfl rfl (by omega) (by omega) rfl ?_
            refine wl_move rfl rfl ?_
            refine wl_nil ?_
            have hu := upto_same (keep := ks) (F := D.F) hq (.inr (by dsimp only; omega))
            exact qs_round (L1 := [(0, ptrV p 0), (1, _), (23, qv), (24, intV (D.Q.length : Int)), (25, intV ((i + 1 : Nat) : Int))]) (.cons rfl (.cons rfl (.cons rfl (.cons rfl (.cons rfl .nil))))) (k1 := D.Q.length - (i + 1)) (by omega) ⟨i + 1, by omega, rfl, cr_same hu hg hS14, by omega, by rw [hu]; exact hsm⟩
          · skip
            refine wc_skip ?_
            refine qs_seq ?_
            refine wc_seq ?_
            have hkn : ks ≠ [] := by intro e; simp [e] at hkl
            obtain ⟨a, ha⟩ : ∃ a : Nat, q2 * 64 = a := ⟨(q2 * 64).toNat, by omega⟩
            obtain ⟨B, hB⟩ : ∃ B : Nat, min (q2 * 64 + 64) ((upto ks D.Q D.F i q1).1.length : Int) = B := ⟨(min (q2 * 64 + 64) ((upto ks D.Q D.F i q1).1.length : Int)).toNat, by omega⟩
            have hcut : ((upto ks D.Q D.F i q1).1.take B).drop a = cut64 (upto ks D.Q D.F i q1).1 a := cut_eq (by omega)
            have hu := upto_put (F := D.F) hq hkn (by rw [hkx]; omega) (a := a) (by simp; omega) (by simp; omega)
            dsimp only at hu; rw [← hcut] at hu
            have hfit := cut_le2 (upto ks D.Q D.F i q1).1 a (by omega)
            have hnow := hsm.now q1
            have hS18 := hS14.drew
            refine wc_draw [0, 1, 2, 3, 4, 5, 6, 7, 8, 9, 10, 11, 12, 13, 14, 15] [13, 15] mix (by kernel_rfl) ?_
            refine vc_p rfl rfl rfl (fun _ => (ev_fieldAddr rfl fo_80_1)) ?_
            refine vc_q rfl rfl rfl (ev_load rfl ag_9 (by first | assumption | exact hS18.cell 0 rfl rfl | exact hS18.cell 2 rfl rfl | exact hS18.cell 3 rfl rfl)) ?_
            refine vc_p rfl rfl rfl (fun _ => (ev_move rfl)) ?_
            refine vc_p rfl rfl rfl (fun _ => (ev_fieldAddr rfl fo_80_0)) ?_
            refine vc_q rfl rfl rfl (ev_load rfl ag_9 (by first | assumption | exact hS18.cell 0 rfl rfl | exact hS18.cell 2 rfl rfl | exact hS18.cell 3 rfl rfl)) ?_
            refine vc_p rfl rfl rfl (fun _ => (ev_move rfl)) ?_
            refine vc_p rfl rfl rfl (fun _ => (ev_move rfl)) ?_
            refine vc_p rfl rfl rfl (fun _ => (ev_add rfl rfl (by omega) (by omega))) ?_
            refine vc_p rfl rfl rfl (fun _ => (ev_fieldAddr rfl fo_80_0)) ?_
            refine vc_q rfl rfl rfl (ev_load rfl ag_9 (by first | assumption | exact hS18.cell 0 rfl rfl | exact hS18.cell 2 rfl rfl | exact hS18.cell 3 rfl rfl)) ?_
            refine vc_p rfl rfl rfl (fun _ => (ev_lenS Tryd.underlying9 rfl)) ?_
            refine vc_p rfl rfl rfl (fun _ => (ev_minI rfl rfl)) ?_
            refine vc_p rfl rfl rfl (fun _ => (ev_sliceS a B Tryd.underlying9 rfl (bndS a _ rfl ha) (bndS B _ rfl hB) (by omega) (by omega))) ?_
            refine vc_s rfl rfl rfl rfl rfl rfl ?_
            have hC19 := hS18.split [] [false, false, false, false, false, false, false] rfl; dsimp only [selF, pickA, nthA, List.cons_append, List.nil_append] at hC19
            refine wl_call cal_44 rfl (put_sp' hC19 _ _ a ha (hsm.last _) (by rw [hcut]; have := cut_le (upto ks D.Q D.F i q1).1 a; omega)) rfl ?_
            rintro e w19 ⟨_, rfl, rfl, hS19⟩; refine ⟨_, rfl, ?_⟩
            replace hS19 := hS19.join rfl; dsimp only [List.dropLast, List.cons_append, List.nil_append] at hS19; clear hC19
            clear hS18
            refine vc_e (.skip (by kernel_rfl) (.skip (by kernel_rfl) (.skip (by kernel_rfl) .nil))) ?_
            refine vc_p rfl rfl rfl (fun _ => (ev_fieldAddr rfl fo_80_1)) ?_
            refine vc_s rfl rfl rfl rfl rfl rfl ?_
            first | (refine wl_store hS19 rfl rfl sz_9 (by first | rfl | assumption | exact hS19.own_one 4 rfl) (i := 0) rfl (by first | decide | exact Nat.le_of_ble_eq_true rfl | (simp; done) | omega) ?_) | (refine wl_store hS19 rfl rfl sz_9 (by first | rfl | assumption | exact hS19.own_one 4 rfl) (i := 2) rfl (by first | decide | exact Nat.le_of_ble_eq_true rfl | (simp; done) | omega) ?_) | (refine wl_store hS19 rfl rfl sz_9 (by first | rfl | assumption | exact hS19.own_one 4 rfl) (i := 3) rfl (by first | decide | exact Nat.le_of_ble_eq_true rfl | (simp; done) | omega) ?_)
            intro w20 hS21; dsimp only [List.set] at hS21
            clear hS19
            refine vc_e0 (.skip (by kernel_rfl) (.skip (by kernel_rfl) (.skip (by kernel_rfl) .nil))) ?_
            refine VC.nil ?_
            refine qs_seq ?_
            refine wc_sub (L' := [(6, _), (5, _), (0, _), (1, _), (23, _), (24, _), (25, _)]) (.cons rfl (.cons rfl (.cons rfl (.cons rfl (.cons rfl (.cons rfl (.cons rfl .nil))))))) ?_
            have hS22 := hS21.drew
            refine wc_draw [0, 1, 2, 3, 4, 5, 6, 7] [7] mix (by kernel_rfl) ?_
            refine vc_p rfl rfl rfl (fun _ => (ev_move rfl)) ?_
            refine vc_p rfl rfl rfl (fun _ => (ev_nilCheck rfl)) ?_
            refine vc_p rfl rfl rfl (fun _ => (ev_fieldAddr rfl fo_61_0)) ?_
            refine vc_q rfl rfl rfl (ev_load rfl ag_57 (by first | assumption | exact hS22.cell 0 rfl rfl | exact hS22.cell 2 rfl rfl | exact hS22.cell 3 rfl rfl)) ?_
            refine vc_p rfl rfl rfl (fun _ => (ev_fieldAddr rfl fo_78_0)) ?_
            refine vc_q rfl rfl rfl (ev_load rfl ag_3 (by first | assumption | exact hS22.cell 0 rfl rfl | exact hS22.cell 2 rfl rfl | exact hS22.cell 3 rfl rfl)) ?_
            refine vc_q rfl rfl rfl (ev_loadA rfl ag_80 sz_80 (by first | exact hS22.blk 0 rfl | exact hS22.blk 2 rfl | exact hS22.blk 3 rfl) (by first | decide | exact Nat.le_of_ble_eq_true rfl | (simp; done) | omega) rfl) ?_
            refine vc_s rfl rfl rfl rfl rfl rfl ?_
            first | refine wl_mapUpdate 1 hS22 keysInt Tryd.underlying57 rfl rfl rfl rfl ?_
            intro w23 hS23; dsimp only [List.set] at hS23
            clear hS22
            refine vc_e0 (.skip (by kernel_rfl) (.skip (by kernel_rfl) (.skip (by kernel_rfl) .nil))) ?_
            refine VC.nil ?_
            refine qs_block_normal ?_
            refine qs_seq ?_
            refine wc_sub (L' := [(0, _), (1, _), (23, _), (24, _), (25, _)]) (.cons rfl (.cons rfl (.cons rfl (.cons rfl (.cons rfl .nil))))) ?_
            refine wc_region ?_
            refine wl_add rfl rfl (by omega) (by omega) rfl ?_
            refine wl_move rfl rfl ?_
            refine wl_nil ?_
            exact qs_round (L1 := [(0, ptrV p 0), (1, _), (23, qv), (24, intV (D.Q.length : Int)), (25, intV ((i + 1 : Nat) : Int))]) (.cons rfl (.cons rfl (.cons rfl (.cons rfl (.cons rfl .nil))))) (k1 := D.Q.length - (i + 1)) (by omega) ⟨i + 1, by omega, rfl, cr_put hu hg hS23, by omega, by rw [hu]; exact hsm.set _ (putB_le (hsm.last _) (by rw [hcut]; omega))⟩
    · skip
      refine wc_exit ?_
      refine qs_then_exit ?_
      refine qs_then_exit ?_
      refine qs_block_exit ?_
      refine qs_seq ?_
      refine wc_seq ?_
      refine wc_seq ?_
      obtain ⟨g, hg, hS6⟩ := filesT_open (hS6.pull 1 rfl); dsimp only [List.eraseIdx] at hS6
      refine wc_region ?_
      refine wl_move rfl rfl ?_
      refine wl_nilCheck rfl rfl ?_
      refine wl_fieldAddr rfl fo_61_0 rfl ?_
      refine wl_load rfl ag_57 (by first | assumption | exact hS6.cell 1 rfl rfl) rfl ?_
      refine wl_range 0 hS6 Tryd.underlying57 rfl rfl rfl ?_
      intro r24 left24 w24 hS24; dsimp only [List.set] at hS24
      clear hS6
      refine wl_nil ?_
      refine qs_seq ?_
      refine wc_sub (L' := [(88, _), (0, _)]) (.cons rfl (.cons rfl .nil)) ?_
      refine wc_block ?_
      have hg0 := hg; obtain ⟨RR, rfl⟩ : ∃ R, R = r24 := ⟨_, rfl⟩; obtain ⟨g0, rfl⟩ : ∃ g0, g0 = g := ⟨_, rfl⟩
      refine wc_loop (fun K0 E0 W0 => ∃ (g : Int → Option Value) (dn : Int → Prop) (cur : Option Int) (left : Nat), K0 = left ∧ E0 = [(0, ptrV p 0), (88, ptrV RR 0)] ∧ Sat W0 [rangeT intK bf RR g dn cur left, blkT p [.map (some bf), qv, .map (some bs), intV D.lost, .bool true, intV 0, kp], ownT qv D.Q.length 2 (secV D.Q), setT bs D.Q, F] ∧ (Cr (upto ks D.Q D.F i) g0 g dn)) (L0 := [(0, _), (88, _)]) (left24) (.cons rfl (.cons rfl .nil)) ⟨g0, _, _, _, rfl, rfl, hS24, fun k => ⟨Iff.rfl, fun h => h.elim, fun _ => rfl⟩⟩ ?_
      rintro _ _ w25 ⟨g, dn, cur, left, rfl, rfl, hS25, hcr⟩
      refine wc_seq ?_
      refine wc_region ?_
      refine wl_next 0 hS25 keysInt.inj rfl rfl rfl (fun hdone => ?_) (fun k v left2 w2 hleft hgk hnd hS2 => ?_)
      · skip
        refine wl_extract rfl rfl rfl ?_
        refine wl_nil ?_
        refine qs_seq ?_
        refine wc_seq ?_
        refine wc_condF rfl ?_
        refine wc_exit ?_
        refine qs_then_exit ?_
        refine qs_then_exit ?_
        refine qs_block_exit ?_
        refine qs_seq ?_
        refine wc_region ?_
        refine wl_move rfl rfl ?_
        refine wl_move rfl rfl ?_
        refine wl_makeMap pairK hS25 rfl ?_
        intro b26 w26 hS26
        clear hS25
        refine wl_nilCheck rfl rfl ?_
        refine wl_fieldAddr rfl fo_61_1 rfl ?_
        first | (refine wl_store hS26 rfl rfl sz_59 (by first | rfl | assumption | exact hS26.own_one 3 rfl) (i := 2) rfl (by first | decide | exact Nat.le_of_ble_eq_true rfl | (simp; done) | omega) ?_)
        intro w27 hS28; dsimp only [List.set] at hS28
        clear hS26
        refine wl_nilCheck rfl rfl ?_
        refine wl_fieldAddr rfl fo_61_2 rfl ?_
        first | (refine wl_store hS28 rfl rfl sz_58 (by first | rfl | assumption | exact hS28.own_one 3 rfl) (i := 2) rfl (by first | decide | exact Nat.le_of_ble_eq_true rfl | (simp; done) | omega) ?_)
        intro w29 hS30; dsimp only [List.set] at hS30
        clear hS28
        refine wl_nil ?_
        refine fin0 (.inl rfl) rfl ?_
        exact ⟨_, rfl, rfl, crash_end hI hd (by omega) hsm (hcr.done hg0 hdone) hS30⟩
      · skip
        dsimp only [List.set] at hS2; obtain rfl := hcr.val hg0 hnd hgk
        refine wl_extract rfl rfl rfl ?_
        refine wl_nil ?_
        refine qs_seq ?_
        refine wc_seq ?_
        refine wc_condT rfl ?_
        refine wc_skip ?_
        refine qs_seq ?_
        refine wc_block ?_
        refine wc_seq ?_
        refine wc_region ?_
        refine wl_entry 0 hS2 rfl hgk rfl rfl ?_
        refine wl_extract rfl rfl rfl ?_
        refine wl_extract rfl rfl rfl ?_
        refine wl_alloc hS2 zr_80 rfl rfl ?_
        intro b31 w31 hS31
        clear hS2
        refine wl_assign rfl rfl ?_
        first | (refine wl_storeA hS31 rfl rfl sz_80 rfl (by first | rfl | (simp [allOne, Value.oneCell']; done) | assumption | exact hone) (i := 0) rfl (by first | decide | exact Nat.le_of_ble_eq_true rfl | (simp; done) | omega) ?_) | (refine wl_storeA hS31 rfl rfl sz_80 rfl (by first | rfl | (simp [allOne, Value.oneCell']; done) | assumption | exact hone) (i := 2) rfl (by first | decide | exact Nat.le_of_ble_eq_true rfl | (simp; done) | omega) ?_)
        intro w32 hS33; dsimp only [List.set] at hS33
        clear hS31
        refine wl_nil ?_
        refine qs_seq ?_
        have hS34 := hS33.drew
        refine wc_draw [0, 1, 2, 3, 4, 5, 6, 7, 8, 9, 10] [10] mix (by kernel_rfl) ?_
        refine vc_p rfl rfl rfl (fun _ => (ev_move rfl)) ?_
        refine vc_p rfl rfl rfl (fun _ => (ev_nilCheck rfl)) ?_
        refine vc_p rfl rfl rfl (fun _ => (ev_fieldAddr rfl fo_61_0)) ?_
        refine vc_q rfl rfl rfl (ev_load rfl ag_57 (by first | assumption | exact hS34.cell 0 rfl rfl | exact hS34.cell 2 rfl rfl)) ?_
        refine vc_p rfl rfl rfl (fun _ => (ev_move rfl)) ?_
        refine vc_p rfl rfl rfl (fun _ => (ev_fieldAddr rfl fo_80_1)) ?_
        refine vc_q rfl rfl rfl (ev_load rfl ag_9 (by first | assumption | exact hS34.cell 0 rfl rfl | exact hS34.cell 2 rfl rfl)) ?_
        refine vc_p rfl rfl rfl (fun _ => (ev_fieldAddr rfl fo_80_1)) ?_
        refine vc_q rfl rfl rfl (ev_load rfl ag_9 (by first | assumption | exact hS34.cell 0 rfl rfl | exact hS34.cell 2 rfl rfl)) ?_
        refine vc_p rfl rfl rfl (fun _ => (ev_buildS rfl pl_80_0_1 asz_80 zr_80 rfl)) ?_
        refine vc_s rfl rfl rfl rfl rfl rfl ?_
        refine wl_mapUpdateR (k := k) 1 hS34 keysInt Tryd.underlying57 rfl hgk rfl rfl rfl ?_
        intro w13 hS13; dsimp only [List.set] at hS13
        refine vc_e0 (.skip (by kernel_rfl) (.skip (by kernel_rfl) (.skip (by kernel_rfl) .nil))) ?_
        refine VC.nil ?_
        refine qs_block_normal ?_
        exact qs_round (L1 := [(0, ptrV p 0), (88, ptrV RR 0)]) (.cons rfl (.cons rfl .nil)) (k1 := left2) (by omega) ⟨_, _, _, _, rfl, rfl, hS13.tail, hcr.step hnd hgk⟩

end Go.Proofs.YtleaahajkncnpaaDoor
