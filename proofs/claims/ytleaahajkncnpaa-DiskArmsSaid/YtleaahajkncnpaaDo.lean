/- laws of disk: two disks that agree -/
import Derived.Test.YtleaahajkncnpaaDn
namespace Go.Proofs.Ytleaahajkncnpaa
open Go.RowKit M
set_option linter.unusedVariables false
theorem _root_.Go.Proofs.Ytleaahajkncnpaa.M.Ev.gd {P : Program} {L : Env} {w : World} {d : Option Nat} {op : Op} {ty : TypeId} {pos : String} {aft : Array Edge} {gd : Option (Nat × Bool)} {v : Value} (h : Ev P L w ⟨d, op, ty, pos, aft, none⟩ v) : Ev P L w ⟨d, op, ty, pos, aft, gd⟩ v := h
def armX (C : DS) (k : Int) (ks : List Int) : DS := { C with armed := k, keep := ks }
theorem late_un {C : DS} (h : C.armed = 0) : lateD C = C := by rw [lateD_no (by simp [endsB, h])]; simp [endsD, h]
theorem ends_armX {C : DS} {k : Int} {ks : List Int} (h : C.down = false) (hk : 2 ≤ k) : endsB (armX C k ks) = false ∧ endsD (armX C k ks) = armX C (k - 1) ks := by
  constructor
  · simp [endsB, armX, h]; omega
  · rw [endsD, if_neg (by simp [armX, h]; omega)]; rfl
theorem late_armX {C : DS} {k : Int} {ks : List Int} (h : C.down = false) (hk : 2 ≤ k) : lateD (armX C k ks) = armX C (k - 1) ks := by
  rw [lateD_no (ends_armX h hk).1, (ends_armX h hk).2]
theorem ends_arm1 {C : DS} {ks : List Int} (h : C.down = false) : endsB (armX C 1 ks) = true ∧ endsD (armX C 1 ks) = armX C 0 ks := by
  constructor
  · simp [endsB, armX, h]
  · rw [endsD, if_neg (by simp [armX, h])]; rfl
theorem crash_arm {C : DS} {k : Int} {ks ls : List Int} : (crashD (armX C k ls) ks).F = (crashD C ks).F := by
  unfold crashD; show (if C.down = true then _ else _ : DS).F = _; split <;> rfl
theorem sync_armX {C : DS} {k f : Int} {ks : List Int} (h : C.down = false) (ha : C.armed = 0) (hk : 2 ≤ k) : SyncE (armX C k ks) f = SyncE C f ∧ SyncD (armX C k ks) f = armX (SyncD C f) (k - 1) ks ∧ (SyncD C f).down = false ∧ (SyncD C f).armed = 0 := by
  simp only [SyncE, SyncD, late_armX h hk, late_un ha]
  refine ⟨rfl, ?_⟩
  by_cases h1 : mayE C f ≠ 0
  · rw [if_pos (show mayE (armX C (k - 1) ks) f ≠ 0 from h1), if_pos h1]; exact ⟨rfl, h, ha⟩
  · rw [if_neg (show ¬ mayE (armX C (k - 1) ks) f ≠ 0 from h1), if_neg h1]
    by_cases h2 : 0 < C.lost
    · rw [if_pos (show 0 < (armX C (k - 1) ks).lost from h2), if_pos h2]; exact ⟨rfl, h, ha⟩
    · rw [if_neg (show ¬ 0 < (armX C (k - 1) ks).lost from h2), if_neg h2]; exact ⟨rfl, h, ha⟩
theorem trunc_armX {C : DS} {k f n : Int} {ks : List Int} (h : C.down = false) (ha : C.armed = 0) (hk : 2 ≤ k) : TruncE (armX C k ks) f n = TruncE C f n ∧ TruncD (armX C k ks) f n = armX (TruncD C f n) (k - 1) ks ∧ (TruncD C f n).down = false ∧ (TruncD C f n).armed = 0 := by
  have e : TruncE (armX C k ks) f n = TruncE C f n := by simp only [TruncE, late_armX h hk, late_un ha]; rfl
  refine ⟨e, ?_⟩
  rw [TruncD, TruncD, e]
  by_cases h1 : TruncE C f n = 0
  · rw [if_pos h1, if_pos h1, late_armX h hk, late_un ha]; exact ⟨rfl, h, ha⟩
  · rw [if_neg h1, if_neg h1, late_armX h hk, late_un ha]; exact ⟨rfl, h, ha⟩
theorem wr_armX {C : DS} {k f a : Int} {s : Bytes} {ks : List Int} : writeE (armX C k ks) f a s = writeE C f a s ∧ writeD (armX C k ks) f a s = armX (writeD C f a s) k ks ∧ (writeD C f a s).down = C.down ∧ (writeD C f a s).armed = C.armed := by
  have e : writeE (armX C k ks) f a s = writeE C f a s := rfl
  refine ⟨e, ?_⟩
  rw [writeD, writeD, e]
  by_cases h1 : writeE C f a s = 0
  · rw [if_pos h1, if_pos h1, addD, addD]
    by_cases h2 : s = []
    · rw [if_pos h2, if_pos h2]; exact ⟨rfl, rfl, rfl⟩
    · rw [if_neg h2, if_neg h2]; exact ⟨rfl, rfl, rfl⟩
  · rw [if_neg h1, if_neg h1]; exact ⟨rfl, rfl, rfl⟩
theorem write_armX {C : DS} {k f a : Int} {s : Bytes} {ks : List Int} (h : C.down = false) (ha : C.armed = 0) (hk : 2 ≤ k) : WriteE (armX C k ks) f a s = WriteE C f a s ∧ WriteD (armX C k ks) f a s = armX (WriteD C f a s) (k - 1) ks ∧ (WriteD C f a s).down = false ∧ (WriteD C f a s).armed = 0 := by
  rw [(write_un ha).1, (write_un ha).2]
  obtain ⟨w1, w2, w3, w4⟩ := wr_armX (C := C) (k := k - 1) (f := f) (a := a) (s := s) (ks := ks)
  refine ⟨?_, ?_, w3.trans h, w4.trans ha⟩
  · rw [WriteE, (ends_armX h hk).1, (ends_armX h hk).2]; exact w1
  · simp only [WriteD, (ends_armX h hk).1, (ends_armX h hk).2]; exact w2
/-- what a crash that is armed does, beside one that is called -/
def RelA (n : Int) (ks : List Int) (m : Int) (D C : DS) : Prop := (m < n ∧ C.down = false ∧ C.armed = 0 ∧ D = armX C (n - m) ks) ∨ (n ≤ m ∧ D.down = true ∧ C.down = true ∧ C.F = D.F)
theorem RelA.agree {n m : Int} {ks : List Int} {D C : DS} (h : RelA n ks m D C) : C.down = D.down ∧ C.F = D.F := by
  rcases h with ⟨_, _, _, rfl⟩ | ⟨_, h1, h2, h3⟩
  · exact ⟨rfl, rfl⟩
  · exact ⟨by rw [h1, h2], h3⟩
theorem RelA.start {n : Int} {ks : List Int} (h : 1 ≤ n) : RelA n ks 0 (armD newD n ks) newD := by
  refine .inl ⟨by omega, rfl, rfl, ?_⟩
  rw [armD, armX, show max n 0 = n - 0 by omega]
def stepK (a : ActD) (m m' : Int) : Prop := (a.d % 8 < 4 ∧ m' = m + 1) ∨ (a.d % 8 = 4 ∧ m' = m)
theorem act_cases (a : ActD) (h : a.d % 8 ≤ 4) : a.d % 8 = 2 ∨ a.d % 8 = 3 ∨ a.d % 8 = 4 ∨ (a.d % 8 < 2 ∧ ∀ D, doE D a = WriteE D a.f a.n a.s ∧ doD D a = WriteD D a.f a.n a.s) := by
  by_cases h1 : a.d % 8 < 2
  · right; right; right
    refine ⟨h1, fun D => ?_⟩
    rw [doE, doD, if_neg (by omega), if_neg (by omega), if_neg (by omega), if_neg (by omega), if_neg (by omega), if_neg (by omega), if_neg (by omega), if_neg (by omega), if_neg (by omega)]
    exact ⟨rfl, rfl⟩
  · omega
theorem do_sync {a : ActD} (h : a.d % 8 = 2) (D : DS) : doE D a = SyncE D a.f ∧ doD D a = SyncD D a.f := by simp [doE, doD, h]
theorem do_trunc {a : ActD} (h : a.d % 8 = 3) (D : DS) : doE D a = TruncE D a.f a.n ∧ doD D a = TruncD D a.f a.n := by simp [doE, doD, h]
theorem do_lose {a : ActD} (h : a.d % 8 = 4) (D : DS) : doE D a = 0 ∧ doD D a = { D with lost := max (a.n % 4) 0 } := by simp [doE, doD, h]
theorem RelA.same {n m m' : Int} {ks : List Int} {D C : DS} {a : ActD} (h : RelA n ks m D C) (hk : stepK a m m') (hlt : m' < n) : doE D a = doE C a ∧ RelA n ks m' (doD D a) (doD C a) := by
  rcases h with ⟨h1, h2, h3, rfl⟩ | ⟨h1, _⟩
  case inr => exfalso; rcases hk with ⟨_, e⟩ | ⟨_, e⟩ <;> omega
  rcases act_cases a (by rcases hk with ⟨e, _⟩ | ⟨e, _⟩ <;> omega) with e | e | e | ⟨e, hw⟩
  · have hm : m' = m + 1 := by rcases hk with ⟨_, e2⟩ | ⟨e2, _⟩ <;> omega
    obtain ⟨s1, s2, s3, s4⟩ := sync_armX (f := a.f) (ks := ks) h2 h3 (show 2 ≤ n - m by omega)
    rw [(do_sync e _).1, (do_sync e _).1, (do_sync e _).2, (do_sync e _).2]
    exact ⟨s1, .inl ⟨hlt, s3, s4, by rw [s2, hm, Int.sub_sub]⟩⟩
  · have hm : m' = m + 1 := by rcases hk with ⟨_, e2⟩ | ⟨e2, _⟩ <;> omega
    obtain ⟨s1, s2, s3, s4⟩ := trunc_armX (f := a.f) (n := a.n) (ks := ks) h2 h3 (show 2 ≤ n - m by omega)
    rw [(do_trunc e _).1, (do_trunc e _).1, (do_trunc e _).2, (do_trunc e _).2]
    exact ⟨s1, .inl ⟨hlt, s3, s4, by rw [s2, hm, Int.sub_sub]⟩⟩
  · have hm : m' = m := by rcases hk with ⟨e2, _⟩ | ⟨_, e2⟩ <;> omega
    rw [(do_lose e _).1, (do_lose e _).1, (do_lose e _).2, (do_lose e _).2, hm]
    exact ⟨rfl, .inl ⟨h1, h2, h3, rfl⟩⟩
  · have hm : m' = m + 1 := by rcases hk with ⟨_, e2⟩ | ⟨e2, _⟩ <;> omega
    obtain ⟨s1, s2, s3, s4⟩ := write_armX (f := a.f) (a := a.n) (s := a.s) (ks := ks) h2 h3 (show 2 ≤ n - m by omega)
    rw [(hw _).1, (hw _).1, (hw _).2, (hw _).2]
    exact ⟨s1, .inl ⟨hlt, s3, s4, by rw [s2, hm, Int.sub_sub]⟩⟩
/-- an act on a machine that is down -/
theorem do_down {D : DS} {a : ActD} (h : D.down = true) (hk : a.d % 8 ≤ 4) : (a.d % 8 < 4 → doE D a = 9) ∧ (doD D a).down = true ∧ (doD D a).F = D.F := by
  have hb : endsB D = false := by simp [endsB, h]
  have he : endsD D = D := by simp [endsD, h]
  have hl : lateD D = D := by rw [lateD_no hb, he]
  have hm : mayE D a.f = 9 := by rw [mayE, if_pos h]
  rcases act_cases a hk with e | e | e | ⟨e, hw⟩
  · rw [(do_sync e _).1, (do_sync e _).2, SyncE, SyncD, hl, if_pos (by rw [hm]; decide), if_pos (by rw [hm]; decide)]
    exact ⟨fun _ => hm, h, rfl⟩
  · have t : TruncE D a.f a.n = 9 := by rw [TruncE, hl, if_pos (by rw [hm]; decide)]; exact hm
    rw [(do_trunc e _).1, (do_trunc e _).2, TruncD, t, if_neg (by decide), hl]
    exact ⟨fun _ => rfl, h, rfl⟩
  · rw [(do_lose e _).2]; exact ⟨fun h => by omega, h, rfl⟩
  · have t : writeE D a.f a.n a.s = 9 := by rw [writeE, if_pos (by rw [hm]; decide)]; exact hm
    rw [(hw _).1, (hw _).2, WriteE]
    simp only [WriteD, hb, he, writeD, t]
    exact ⟨fun _ => rfl, h, rfl⟩
/-- the act at which the crash comes -/
theorem do_crash {C : DS} {ks : List Int} {a : ActD} (h : C.down = false) (ha : C.armed = 0) (hk : a.d % 8 < 4) : doE (armX C 1 ks) a = 9 ∧ (doD (armX C 1 ks) a).down = true ∧ (doD (armX C 1 ks) a).F = (crashD (if a.d % 8 < 2 then doD C a else C) ks).F := by
  obtain ⟨e1, e2⟩ := ends_arm1 (C := C) (ks := ks) h
  have hl : lateD (armX C 1 ks) = crashD (armX C 0 ks) ks := by rw [lateD_yes e1, e2]; rfl
  have hm (f : Int) : mayE (crashD (armX C 0 ks) ks) f = 9 := by rw [mayE, if_pos (crash_isDown _ _)]
  rcases act_cases a (by omega) with e | e | e | ⟨e, hw⟩
  · rw [(do_sync e _).1, (do_sync e _).2, SyncE, SyncD, hl, if_pos (by rw [hm]; decide), if_pos (by rw [hm]; decide), if_neg (by omega)]
    exact ⟨hm _, crash_isDown _ _, crash_arm⟩
  · have t : TruncE (armX C 1 ks) a.f a.n = 9 := by rw [TruncE, hl, if_pos (by rw [hm]; decide)]; exact hm _
    rw [(do_trunc e _).1, (do_trunc e _).2, TruncD, t, if_neg (by decide), hl, if_neg (by omega)]
    exact ⟨rfl, crash_isDown _ _, crash_arm⟩
  · omega
  · rw [(hw _).1, (hw _).2, WriteE, e1, if_pos e, (hw _).2, (write_un ha).2]
    simp only [WriteD, e1, e2, wr_armX.2.1, if_true]
    exact ⟨trivial, crash_isDown _ _, crash_arm⟩
theorem RelA.down {n m m' : Int} {ks : List Int} {D C : DS} {a : ActD} (h : RelA n ks m D C) (hk : stepK a m m') (hge : ¬ m' < n) : (a.d % 8 < 4 → doE D a = 9) ∧ (doD D a).down = true ∧
    ((m' = n ∧ a.d % 8 < 4) → C.down = false ∧ C.armed = 0 ∧ (doD D a).F = (crashD (if a.d % 8 < 2 then doD C a else C) ks).F) ∧ (¬ (m' = n ∧ a.d % 8 < 4) → C.down = true ∧ C.F = (doD D a).F) := by
  have hk4 : a.d % 8 ≤ 4 := by rcases hk with ⟨e, _⟩ | ⟨e, _⟩ <;> omega
  rcases h with ⟨h1, h2, h3, rfl⟩ | ⟨h1, h2, h3, h4⟩
  · have e4 : a.d % 8 < 4 ∧ m' = m + 1 := by rcases hk with e | ⟨_, e⟩; exact e; omega
    rw [show n - m = 1 by omega]
    obtain ⟨c1, c2, c3⟩ := do_crash (ks := ks) h2 h3 e4.1
    exact ⟨fun _ => c1, c2, fun _ => ⟨h2, h3, c3⟩, fun hn => absurd ⟨by omega, e4.1⟩ hn⟩
  · obtain ⟨c1, c2, c3⟩ := do_down h2 hk4
    exact ⟨c1, c2, fun ⟨e1, e2⟩ => by exfalso; rcases hk with ⟨_, e⟩ | ⟨e, _⟩ <;> omega, fun _ => ⟨h3, h4.trans c3.symm⟩⟩
theorem ActsRd.at_ {w : World} {b off n cap i : Nat} {l : List ActD} {a : ActD} (h : ActsRd (.slice (some ⟨b, off, none⟩) n cap) l w) (ha : l[i]? = some a) : ∀ (j : Nat) (u : Value), (actV a)[j]? = some u → w.cell? ⟨b, off + i * 5 + j, none⟩ = some u := by
  obtain ⟨⟨b', off', e, hc⟩, _⟩ := h.get ha
  cases e; exact hc
theorem ReadE_agree {D C : DS} {f a n : Int} (h : C.down = D.down ∧ C.F = D.F) : ReadE C f a n = ReadE D f a n := by unfold ReadE mayE; rw [h.1]
theorem ReadS_agree {D C : DS} {f a n : Int} (h : C.down = D.down ∧ C.F = D.F) : ReadS C f a n = ReadS D f a n := by simp only [ReadS, ReadE_agree h, h.2]
set_option maxRecDepth 100000 in
set_option maxHeartbeats 400000 in
theorem same_sp {w : World} {F : Th} {p q : Nat} {D C : DS} (hS : Sat w [dT p D, dT q C, F]) {lv : Value} {l : List ActD} (hL : Ent F (ActsRd lv l)) (hag : C.down = D.down ∧ C.F = D.F) :
    Calls Try.prog 25 #[ptrV p 0, ptrV q 0, lv] w (Ret fun v w' => v = .bool true ∧ Sat w' [dT p D, dT q C, F]) := by
  obtain ⟨ao, cap, rfl, hmax⟩ := (hL.sat hS 2 rfl).shape
  refine calls_enter Try.func25 rfl Try.ntmps25 rfl ?_
  refine wc_seq ?_
  refine wc_region ?_
  refine wl_assign rfl rfl ?_
  refine wl_nil ?_
  refine qs_seq ?_
  refine wc_seq ?_
  refine wc_seq ?_
  refine wc_region ?_
  refine wl_move rfl rfl ?_
  have hC1 := hS.split [0] [true, false, false] rfl; dsimp only [selF, pickA, nthA, List.cons_append, List.nil_append] at hC1
  refine wl_call cal_13 rfl (downT hC1) rfl ?_
  rintro e w1 ⟨_, rfl, rfl, hS1⟩; refine ⟨_, rfl, ?_⟩
  replace hS1 := hS1.join rfl; dsimp only [List.dropLast, List.cons_append, List.nil_append] at hS1; clear hC1
  refine wl_move rfl rfl ?_
  have hC2 := hS1.split [1] [false, true, false] rfl; dsimp only [selF, pickA, nthA, List.cons_append, List.nil_append] at hC2
  refine wl_call cal_13 rfl (downT hC2) rfl ?_
  rintro e w2 ⟨_, rfl, rfl, hS2⟩; refine ⟨_, rfl, ?_⟩
  replace hS2 := hS2.join rfl; dsimp only [List.dropLast, List.cons_append, List.nil_append] at hS2; clear hC2
  clear hS1
  refine wl_neqB Try.underlying4 rfl rfl rfl ?_
  refine wl_nil ?_
  refine qs_seq ?_
  refine wc_cond rfl (fun h3 => ?_) (fun h3 => ?_)
  · skip
    simp [hag.1] at h3
  · skip
    refine wc_skip ?_
    refine qs_seq ?_
    refine wc_seq ?_
    refine wc_seq ?_
    refine wc_region ?_
    refine wl_assign rfl rfl ?_
    refine wl_nil ?_
    refine qs_seq ?_
    refine wc_block ?_
    refine wc_loop (fun K0 E0 W0 => ∃ (i : Nat), K0 = l.length - i ∧ E0 = [(0, ptrV p 0), (1, ptrV q 0), (2, .slice ao l.length cap), (7, intV (i : Int))] ∧ Sat W0 [dT p D, dT q C, F] ∧ (i ≤ l.length)) (L0 := [(0, _), (1, _), (2, _), (7, _)]) (l.length) (.cons rfl (.cons rfl (.cons rfl (.cons rfl .nil)))) ⟨0, by omega, rfl, hS2.pull 1 rfl, by omega⟩ ?_
    rintro _ _ w4 ⟨i, rfl, rfl, hS4, hi⟩
    refine wc_seq ?_
    refine wc_seq ?_
    refine wc_region ?_
    refine wl_move rfl rfl ?_
    refine wl_move rfl rfl ?_
    refine wl_lenL Try.underlying22 rfl rfl ?_
    refine wl_lss rfl rfl rfl ?_
    refine wl_nil ?_
    refine qs_seq ?_
    refine wc_condD rfl (fun h5 => ?_) (fun h5 => ?_)
    · skip
      obtain ⟨a, ha⟩ : ∃ a, l[i]? = some a := ⟨_, List.getElem?_eq_getElem (by omega)⟩
      obtain ⟨⟨b, off, rfl, hc0⟩, hrk, hn⟩ := (hL.sat hS4 2 rfl).get ha
      refine wc_skip ?_
      refine qs_seq ?_
      refine wc_seq ?_
      refine wc_block ?_
      refine wc_seq ?_
      refine wc_region ?_
      refine wl_move rfl rfl ?_
      refine wl_move rfl rfl ?_
      refine wl_move rfl rfl ?_
      refine wl_indexAddr _ rfl rfl (by first | rfl | omega) (by omega) es_22 rfl ?_
      refine wl_fieldAddr rfl fo_33_1 rfl ?_
      refine wl_load rfl ag_3 (by first | assumption | exact (hL.sat hS4 2 rfl).at_ ha 0 _ rfl | exact (hL.sat hS4 2 rfl).at_ ha 1 _ rfl) rfl ?_
      have hC6 := hS4.split [0] [true, false, false] rfl; dsimp only [selF, pickA, nthA, List.cons_append, List.nil_append] at hC6
      refine wl_call cal_19 rfl (readT hC6 a.f 0 16777216) rfl ?_
      rintro e w6 ⟨_, rfl, rfl, hS6⟩; refine ⟨_, rfl, ?_⟩
      replace hS6 := hS6.join rfl; dsimp only [List.dropLast, List.cons_append, List.nil_append] at hS6; clear hC6
      clear hS4
      refine wl_move rfl rfl ?_
      refine wl_extract rfl rfl rfl ?_
      refine wl_extract rfl rfl rfl ?_
      refine wl_assign rfl rfl ?_
      refine wl_assign rfl rfl ?_
      refine wl_nil ?_
      refine qs_seq ?_
      refine wc_sub (L' := [(9, _), (8, _), (0, _), (1, _), (2, _), (7, _)]) (.cons rfl (.cons rfl (.cons rfl (.cons rfl (.cons rfl (.cons rfl .nil)))))) ?_
      refine wc_seq ?_
      refine wc_region ?_
      refine wl_move rfl rfl ?_
      refine wl_move rfl rfl ?_
      refine wl_move rfl rfl ?_
      refine wl_indexAddr _ rfl rfl (by first | rfl | omega) (by omega) es_22 rfl ?_
      refine wl_fieldAddr rfl fo_33_1 rfl ?_
      refine wl_load rfl ag_3 (by first | assumption | exact (hL.sat hS6 2 rfl).at_ ha 0 _ rfl | exact (hL.sat hS6 2 rfl).at_ ha 1 _ rfl) rfl ?_
      have hC7 := hS6.split [1] [false, true, false] rfl; dsimp only [selF, pickA, nthA, List.cons_append, List.nil_append] at hC7
      refine wl_call cal_19 rfl (readT hC7 a.f 0 16777216) rfl ?_
      rintro e w7 ⟨_, rfl, hv7, hS7⟩; refine ⟨_, rfl, ?_⟩
      replace hS7 := hS7.join rfl; dsimp only [List.dropLast, List.cons_append, List.nil_append] at hS7; clear hC7
      clear hS6
      replace hv7 := rd_eq hv7 (ReadS_agree hag) (ReadE_agree hag); subst hv7
      refine wl_move rfl rfl ?_
      refine wl_extract rfl rfl rfl ?_
      refine wl_extract rfl rfl rfl ?_
      refine wl_assign rfl rfl ?_
      refine wl_assign rfl rfl ?_
      refine wl_nil ?_
      refine qs_seq ?_
      refine wc_sub (L' := [(11, _), (10, _), (9, _), (8, _), (0, _), (1, _), (2, _), (7, _)]) (.cons rfl (.cons rfl (.cons rfl (.cons rfl (.cons rfl (.cons rfl (.cons rfl (.cons rfl .nil)))))))) ?_
      refine wc_seq ?_
      have hS8 := hS7.drew
      refine wc_draw [0, 1, 2, 3, 4, 5, 6, 7, 8, 9, 10, 11, 12, 13, 14, 16, 17, 18, 19, 20, 21, 15, 22, 23, 24] [15, 22] mix (by kernel_rfl) ?_
      refine vc_p rfl rfl rfl (fun _ => (ev_move rfl)) ?_
      refine vc_p rfl rfl rfl (fun _ => (ev_move rfl)) ?_
      refine vc_p rfl rfl rfl (fun _ => (ev_neqS rfl rfl)) ?_
      refine vc_p rfl rfl rfl (fun _ => (ev_move rfl)) ?_
      refine vc_splitD 46 rfl (fun h9 => ?_) (fun h9 => ?_)
      · skip
        exact absurd rfl h9
      · skip
        refine vc_p rfl rfl (guard_yes rfl rfl (decide_eq_false h9)) (fun _ => (Ev.gd (ev_move rfl))) ?_
        refine vc_p rfl rfl (guard_yes rfl rfl (decide_eq_false h9)) (fun _ => (Ev.gd (ev_move rfl))) ?_
        refine vc_p rfl rfl (guard_yes rfl rfl (decide_eq_false h9)) (fun _ => (Ev.gd (ev_neq rfl rfl))) ?_
        refine vc_p rfl rfl rfl (fun _ => (ev_pickF rfl (decide_eq_false h9) rfl)) ?_
        refine vc_p rfl rfl rfl (fun _ => (ev_move rfl)) ?_
        refine vc_splitD 51 rfl (fun h10 => ?_) (fun h10 => ?_)
        · skip
          exact absurd rfl h10
        · skip
          refine vc_p rfl rfl (guard_yes rfl rfl (decide_eq_false h10)) (fun _ => (Ev.gd (ev_move rfl))) ?_
          refine vc_p rfl rfl (guard_yes rfl rfl (decide_eq_false h10)) (fun _ => (Ev.gd (ev_move rfl))) ?_
          refine vc_p rfl rfl (guard_yes rfl rfl (decide_eq_false h10)) (fun _ => (Ev.gd (ev_move rfl))) ?_
          refine vc_p rfl rfl (guard_yes rfl rfl (decide_eq_false h10)) (fun _ => (Ev.gd (ev_indexAddr _ rfl rfl (by first | rfl | omega) (by omega) es_22))) ?_
          refine vc_p rfl rfl (guard_yes rfl rfl (decide_eq_false h10)) (fun _ => (Ev.gd (ev_fieldAddr rfl fo_33_1))) ?_
          refine vc_q rfl rfl (guard_yes rfl rfl (decide_eq_false h10)) (Ev.gd (ev_load rfl ag_3 (by first | assumption | exact (hL.sat hS8 2 rfl).at_ ha 0 _ rfl | exact (hL.sat hS8 2 rfl).at_ ha 1 _ rfl))) ?_
          refine vc_p rfl rfl (guard_yes rfl rfl (decide_eq_false h10)) (fun _ => (Ev.gd (ev_move rfl))) ?_
          refine vc_p rfl rfl (guard_yes rfl rfl (decide_eq_false h10)) (fun _ => (Ev.gd (ev_move rfl))) ?_
          refine vc_p rfl rfl (guard_yes rfl rfl (decide_eq_false h10)) (fun _ => (Ev.gd (ev_move rfl))) ?_
          refine vc_p rfl rfl (guard_yes rfl rfl (decide_eq_false h10)) (fun _ => (Ev.gd (ev_indexAddr _ rfl rfl (by first | rfl | omega) (by omega) es_22))) ?_
          refine vc_p rfl rfl (guard_yes rfl rfl (decide_eq_false h10)) (fun _ => (Ev.gd (ev_fieldAddr rfl fo_33_1))) ?_
          refine vc_q rfl rfl (guard_yes rfl rfl (decide_eq_false h10)) (Ev.gd (ev_load rfl ag_3 (by first | assumption | exact (hL.sat hS8 2 rfl).at_ ha 0 _ rfl | exact (hL.sat hS8 2 rfl).at_ ha 1 _ rfl))) ?_
          refine vc_s rfl rfl (guard_yes rfl rfl (decide_eq_false h10)) rfl rfl rfl ?_
          have hC11 := hS8.split [1] [false, true, false] rfl; dsimp only [selF, pickA, nthA, List.cons_append, List.nil_append] at hC11
          refine wl_call cal_15 rfl (sizeT hC11 a.f) rfl ?_
          rintro e w11 ⟨_, rfl, rfl, hS11⟩; refine ⟨_, rfl, ?_⟩
          replace hS11 := hS11.join rfl; dsimp only [List.dropLast, List.cons_append, List.nil_append] at hS11; clear hC11
          clear hS8
          refine vc_e (.cons (.inl ⟨(guard_yes rfl rfl (decide_eq_false h10)), (Ev.gd (ev_load rfl ag_3 (by first | assumption | exact (hL.sat hS11 2 rfl).at_ ha 0 _ rfl | exact (hL.sat hS11 2 rfl).at_ ha 1 _ rfl)))⟩) (.skip (by kernel_rfl) .nil)) ?_
          refine vc_s rfl rfl (guard_yes rfl rfl (decide_eq_false h10)) rfl rfl rfl ?_
          have hC12 := hS11.split [1] [false, true, false] rfl; dsimp only [selF, pickA, nthA, List.cons_append, List.nil_append] at hC12
          refine wl_call cal_15 rfl (sizeT hC12 a.f) rfl ?_
          rintro e w12 ⟨_, rfl, hv12, hS12⟩; refine ⟨_, rfl, ?_⟩
          replace hS12 := hS12.join rfl; dsimp only [List.dropLast, List.cons_append, List.nil_append] at hS12; clear hC12
          clear hS11
          rw [hag.2] at hv12; subst hv12
          refine vc_e (.skip (by kernel_rfl) (.skip (by kernel_rfl) .nil)) ?_
          refine vc_p rfl rfl (guard_yes rfl rfl (decide_eq_false h10)) (fun _ => (Ev.gd (ev_neq rfl rfl))) ?_
          refine vc_p rfl rfl rfl (fun _ => (ev_pickF rfl (decide_eq_false h10) rfl)) ?_
          refine VC.nil ?_
          refine qs_seq ?_
          refine wc_sub (L' := [(67, _), (0, _), (1, _), (2, _), (7, _)]) (.cons rfl (.cons rfl (.cons rfl (.cons rfl (.cons rfl .nil))))) ?_
          refine wc_condD rfl (fun h13 => ?_) (fun h13 => ?_)
          · skip
            exact absurd rfl h13
          · skip
            refine wc_skip ?_
            refine qs_block_normal ?_
            refine qs_seq ?_
            refine wc_region ?_
            refine wl_move rfl rfl ?_
            refine wl_add rfl rfl (by omega) (by omega) rfl ?_
            refine wl_assign rfl rfl ?_
            refine wl_nil ?_
            exact qs_round (L1 := [(0, ptrV p 0), (1, ptrV q 0), (2, _), (7, intV ((i + 1 : Nat) : Int))]) (.cons rfl (.cons rfl (.cons rfl (.cons rfl .nil)))) (k1 := l.length - (i + 1)) (by omega) ⟨i + 1, by omega, rfl, hS12.pull 1 rfl, by omega⟩
    · skip
      refine wc_exit ?_
      refine qs_then_exit ?_
      refine qs_then_exit ?_
      refine qs_block_exit ?_
      refine qs_seq ?_
      refine wc_seq ?_
      refine wc_region ?_
      refine wl_assign rfl rfl ?_
      refine wl_nil ?_
      refine qs_seq ?_
      refine wc_ret ?_
      refine fin1 (.inr rfl) rfl rfl ?_
      exact ⟨_, rfl, rfl, hS4⟩

end Go.Proofs.Ytleaahajkncnpaa
