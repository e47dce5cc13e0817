/- cell: plain facts: what a crash leaves of a cell's file. -/
import Derived.Test.YtfmkodmmbgibgaaGreatDoorOp4
import Derived.Test.YtfmkodmmbgibgaaGreatDoorDf
import Derived.Test.YtfmkodmmbgibgaaGreatDoorCb
import Derived.Sort.EncStr
import Derived.Sort.Grow
import Derived.Lib.AtoiAll
import Derived.Lib.ItoaLen
import Derived.Lib.IndexLaws
namespace Go.Proofs.YtfmkodmmbgibgaaGreatDoor
open Go.RowKit M
def hd (B : Bytes) : Hd := hdrOf (B.take 5)
theorem hd_five {B : Bytes} {s n : Nat} (h : hd B = .slot s n) : 5 ≤ B.length := by
  by_cases hl : 5 ≤ B.length
  · exact hl
  · exfalso
    unfold hd at h
    rw [List.take_of_length_le (by omega)] at h
    cases B with
    | nil => cases h
    | cons b r =>
      by_cases h0 : b = 0
      · subst h0; rw [hdr_none (.inr ⟨r, rfl⟩)] at h; cases h
      · rw [hdr_short h0 (by simp at hl; omega)] at h; cases h
theorem hd_put {B t : Bytes} {a : Nat} (ha : 5 ≤ a) (h : hd B ≠ .bad) : hd (putB B a t) = hd B := by
  by_cases ht : t = []
  · subst ht; rw [putB_nil]
  · have e : (putB B a t).take 5 = (B ++ List.replicate (a - B.length) 0).take 5 := by
      unfold putB; rw [if_neg ht, List.append_assoc, List.take_append_of_le_length (by simp; omega), List.take_take, Nat.min_eq_left ha]
    unfold hd at h ⊢
    rw [e]
    by_cases hl : 5 ≤ B.length
    · rw [List.take_append_of_le_length hl]
    · cases B with
      | nil =>
        have e1 : (([] : Bytes) ++ List.replicate (a - ([] : Bytes).length) (0 : UInt8)).take 5 = 0 :: List.replicate 4 0 := by
          rw [List.nil_append, List.take_replicate, Nat.min_eq_left (by simp; omega)]; rfl
        rw [e1, hdr_none (h := 0 :: List.replicate 4 0) (.inr ⟨_, rfl⟩)]; rfl
      | cons b r =>
        by_cases h0 : b = 0
        · subst h0
          rw [hdr_none (h := (0 :: r).take 5) (.inr ⟨_, List.take_succ_cons⟩), hdr_none (.inr ⟨_, by rw [List.cons_append]; exact List.take_succ_cons⟩)]
        · exfalso; apply h
          rw [List.take_of_length_le (by simp at hl ⊢; omega)]
          exact hdr_short h0 (by simp at hl; omega)
theorem putB_split {B t : Bytes} {a : Nat} (ht : t ≠ []) (ha : a ≤ B.length) : putB B a t = B.take a ++ t ++ B.drop (a + t.length) := by
  unfold putB; rw [if_neg ht, List.take_append_of_le_length ha]
theorem hd_put0 {B t : Bytes} (h : 5 ≤ t.length) : hd (putB B 0 t) = hd t := by
  unfold hd
  rw [putB_split (by intro e; subst e; simp at h) (by omega), List.take_zero, List.nil_append, List.take_append_of_le_length h]
theorem hd_take {N : Bytes} (h : 5 ≤ N.length) : hd (N.take 64) = hd N := by unfold hd; rw [List.take_take]; rfl
theorem hd_hdr {sl n : Nat} (hs : sl = 1 ∨ sl = 2) (hn : n ≤ 65536) : hd (hdrB sl n) = .slot sl n := by
  have e : hdrN (UInt8.ofNat n) (UInt8.ofNat (n / 256)) (UInt8.ofNat (n / 65536)) 0 = n := by simp only [hdrN]; simp; omega
  show hdrOf (hdrB sl n) = _
  unfold hdrB
  rw [hdr_ok (by rcases hs with rfl | rfl <;> simp) (by rw [e]; exact hn), e]
  rcases hs with rfl | rfl <;> rfl
theorem putB_read' (B s : Bytes) (a : Nat) : ((putB B a s).drop a).take s.length = s := by
  unfold putB; split
  · rename_i h; subst h; simp
  · have hl : ((B ++ List.replicate (a - B.length) 0).take a).length = a := by simp; omega
    rw [List.append_assoc, List.drop_append_of_le_length (by omega), List.drop_of_length_le (by omega)]
    simp
theorem reg_len {B v : Bytes} {off : Nat} (h : (B.drop off).take v.length = v) (hv : v ≠ []) : off + v.length ≤ B.length := by
  have h1 := congrArg List.length h
  have : 0 < v.length := List.length_pos_iff.2 hv
  simp at h1; omega
theorem reg_put {B t v : Bytes} {a off : Nat} (h : (B.drop off).take v.length = v) (ho : a + t.length ≤ off ∨ off + v.length ≤ a) : ((putB B a t).drop off).take v.length = v := by
  by_cases hv : v = []
  · subst hv; simp
  by_cases ht : t = []
  · subst ht; rw [putB_nil]; exact h
  have hl := reg_len h hv
  rcases ho with ho | ho
  · rw [putB_split ht (by omega)]
    have e : (B.take a ++ t).length = a + t.length := by simp; omega
    rw [List.drop_append, List.drop_eq_nil_of_le (by omega), List.nil_append, e, List.drop_drop, show a + t.length + (off - (a + t.length)) = off by omega]
    exact h
  · have e : (putB B a t).take (off + v.length) = B.take (off + v.length) := by
      unfold putB; rw [if_neg ht, List.append_assoc, List.take_append_of_le_length (by simp; omega), List.take_take, Nat.min_eq_left ho, List.take_append_of_le_length hl]
    have f (X : Bytes) : (X.drop off).take v.length = (X.take (off + v.length)).drop off := by rw [List.drop_take]; congr 1; omega
    rw [f, e, ← f]; exact h
/-- the bytes B say: slot s, value v -/
def Dec (B : Bytes) (s : Nat) (v : Bytes) : Prop := (s = 0 ∧ v = [] ∧ hd B = .none) ∨ ((s = 1 ∨ s = 2) ∧ hd B = .slot s v.length ∧ (B.drop (slotOff s).toNat).take v.length = v ∧ v.length ≤ 65536)
/-- a sector lies apart from the value of a slot -/
def Apart (n : Int) (s : Nat) (v : Bytes) : Prop := 64 * (n + 1) ≤ slotOff s ∨ slotOff s + v.length ≤ 64 * n
/-- the value of a slot is durable, and none of its sectors is pending -/
def KeptV (D : DS) (f : Int) (s : Nat) (v : Bytes) : Prop := s = 0 ∨ ((((D.F f).2.drop (slotOff s).toNat).take v.length = v) ∧ ∀ p ∈ D.Q, p.1 = f → Apart p.2 s v)
structure Good (D : DS) (f : Int) (C : CS) (P : Nat → Bytes → Prop) : Prop where
  up : mayE D f = 0
  cf : C.f = f
  pos : ∀ p ∈ D.Q, p.1 = f → 0 ≤ p.2
  now : Dec (D.F f).1 C.slot C.val
  here : KeptV D f C.slot C.val
  pc : P C.slot C.val
  hdr : ((∀ p ∈ D.Q, p.1 = f → p.2 ≠ 0) ∧ Dec (D.F f).2 C.slot C.val) ∨ (C.sure = false ∧ 0 < C.slot ∧ ∃ s v, Dec (D.F f).2 s v ∧ KeptV D f s v ∧ P s v)
/-- the machine is down: what stands there is allowed -/
structure Downed (D : DS) (f : Int) (P : Nat → Bytes → Prop) : Prop where
  ran : 0 ≤ f ∧ f < 16
  down : D.down = true
  same : (D.F f).2 = (D.F f).1
  quiet : ∀ p ∈ D.Q, p.1 ≠ f
  says : ∃ s v, Dec (D.F f).1 s v ∧ P s v
def OkSt (D : DS) (f : Int) (C : CS) (P : Nat → Bytes → Prop) : Prop := Good D f C P ∨ Downed D f P
theorem surv_ind {f : Int} {N : Bytes} {keep : List Int} (P : Bytes → Prop) : ∀ (Q : List (Int × Int)) (i : Nat) (F : Int → Bytes × Bytes), (F f).1 = N → P (F f).2 →
    (∀ B p, p ∈ Q → p.1 = f → P B → ¬ ((N.length : Int) ≤ 64 * p.2) → P (putB B (64 * p.2).toNat ((N.drop (64 * p.2).toNat).take 64))) → (survives keep i Q F f).1 = N ∧ P (survives keep i Q F f).2
  | [], _, F, h1, h2, _ => ⟨h1, h2⟩
  | p :: Q, i, F, h1, h2, h3 => by
    simp only [survives]
    have h3' : ∀ B q, q ∈ Q → q.1 = f → P B → ¬ ((N.length : Int) ≤ 64 * q.2) → P (putB B (64 * q.2).toNat ((N.drop (64 * q.2).toNat).take 64)) := fun B q hq => h3 B q (by simp [hq])
    split
    · refine surv_ind P Q (i + 1) _ ?_ ?_ h3'
      · by_cases hp : p.1 = f
        · unfold survive; split
          · exact h1
          · simp [setF, hp, h1]
        · rw [survive_ne hp]; exact h1
      · by_cases hp : p.1 = f
        · unfold survive; split
          · exact h2
          · rename_i hl
            subst hp
            simp only [setF, if_true, h1]
            exact h3 _ p (by simp) rfl h2 (by rw [h1] at hl; exact hl)
        · rw [survive_ne hp]; exact h2
    · exact surv_ind P Q (i + 1) F h1 h2 h3'
theorem slotOff_ge (s : Nat) : 64 ≤ slotOff s := by unfold slotOff; split <;> decide
theorem Dec.put {B t : Bytes} {s : Nat} {v : Bytes} {a : Nat} (h : Dec B s v) (ha : 5 ≤ a) (ho : s = 0 ∨ (a : Int) + t.length ≤ slotOff s ∨ slotOff s + v.length ≤ a) : Dec (putB B a t) s v := by
  rcases h with ⟨rfl, rfl, h1⟩ | ⟨hs, h1, h2, h3⟩
  · exact .inl ⟨rfl, rfl, by rw [hd_put ha (by rw [h1]; simp), h1]⟩
  · refine .inr ⟨hs, by rw [hd_put ha (by rw [h1]; simp), h1], reg_put h2 ?_, h3⟩
    have := slotOff_ge s
    rcases ho with ho | ho <;> omega
theorem Dec.five {B : Bytes} {s : Nat} {v : Bytes} (h : Dec B s v) (hs : 0 < s) : 5 ≤ B.length := by
  rcases h with ⟨rfl, _⟩ | ⟨_, h1, _⟩
  · omega
  · exact hd_five h1
theorem Dec.len {B : Bytes} {s : Nat} {v : Bytes} (h : Dec B s v) : v.length ≤ 65536 := by
  rcases h with ⟨_, rfl, _⟩ | ⟨_, _, _, h⟩
  · simp
  · exact h
theorem Dec.slot2 {B : Bytes} {s : Nat} {v : Bytes} (h : Dec B s v) : s ≤ 2 := by rcases h with ⟨rfl, _⟩ | ⟨hs, _⟩ <;> omega
theorem Dec.reg {B : Bytes} {s : Nat} {v : Bytes} (h : Dec B s v) (hs : 0 < s) : (B.drop (slotOff s).toNat).take v.length = v := by
  rcases h with ⟨rfl, _⟩ | ⟨_, _, h2, _⟩
  · omega
  · exact h2
/-- the header is another one: the value of that slot is what it was -/
theorem Dec.head {B B' : Bytes} {s : Nat} {v : Bytes} (h : Dec B s v) (hs : 0 < s) (h1 : hd B' = hd B) (h2 : (B'.drop (slotOff s).toNat).take v.length = v) : Dec B' s v := by
  rcases h with ⟨rfl, _⟩ | ⟨hs', h3, _, h4⟩
  · omega
  · exact .inr ⟨hs', by rw [h1, h3], h2, h4⟩
theorem apart_put {N : Bytes} {n : Int} {s : Nat} {v : Bytes} (h : Apart n s v) (h0 : 0 ≤ n) (hlt : ¬ ((N.length : Int) ≤ 64 * n)) : ((64 * n).toNat : Int) + (((N.drop (64 * n).toNat).take 64).length : Int) ≤ slotOff s ∨ slotOff s + v.length ≤ ((64 * n).toNat : Int) := by
  unfold Apart at h
  simp; omega
/-- whichever sectors survive a crash: what stands in the file is allowed -/
theorem Good.crash {D : DS} {f : Int} {C : CS} {P : Nat → Bytes → Prop} (h : Good D f C P) (ks : List Int) : Downed (crashD D ks) f P := by
  have hd0 : D.down = false := by
    cases hq : D.down with
    | false => rfl
    | true => have := h.up; rw [mayE, hq] at this; cases this
  have hf := may_ok h.up
  have hc : crashD D ks = { D with down := true, armed := 0, F := fun k => let x := survives ks 0 D.Q D.F k; (x.2, x.2), Q := [] } := by simp [crashD, hd0]
  rw [hc]
  refine ⟨⟨hf.1, by omega⟩, rfl, rfl, by simp, ?_⟩
  show ∃ s v, Dec (survives ks 0 D.Q D.F f).2 s v ∧ P s v
  rcases h.hdr with ⟨h1, h2⟩ | ⟨_, hs, s, v, h1, h2, h3⟩
  · refine ⟨C.slot, C.val, ?_, h.pc⟩
    refine (surv_ind (N := (D.F f).1) (fun B => Dec B C.slot C.val) D.Q 0 D.F rfl h2 fun B p hp hpf hB hlt => ?_).2
    have h0 := h.pos p hp hpf
    have hne := h1 p hp hpf
    refine hB.put (by omega) ?_
    rcases h.here with h4 | ⟨_, h4⟩
    · exact .inl h4
    · exact .inr (apart_put (h4 p hp hpf) h0 hlt)
  · have key : (survives ks 0 D.Q D.F f).1 = (D.F f).1 ∧ (fun B => (B.drop (slotOff C.slot).toNat).take C.val.length = C.val ∧ (hd B = hd (D.F f).1 ∨ Dec B s v) ∧ (s = 0 ∨ (B.drop (slotOff s).toNat).take v.length = v)) (survives ks 0 D.Q D.F f).2 := by
      have hC : (((D.F f).2.drop (slotOff C.slot).toNat).take C.val.length = C.val) ∧ ∀ p ∈ D.Q, p.1 = f → Apart p.2 C.slot C.val := by
        rcases h.here with h4 | h4
        · omega
        · exact h4
      refine surv_ind (N := (D.F f).1) (fun B => (B.drop (slotOff C.slot).toNat).take C.val.length = C.val ∧ (hd B = hd (D.F f).1 ∨ Dec B s v) ∧ (s = 0 ∨ (B.drop (slotOff s).toNat).take v.length = v)) D.Q 0 D.F rfl ⟨hC.1, .inr h1, ?_⟩ fun B p hp hpf hB hlt => ?_
      · rcases h2 with h2 | h2
        · exact .inl h2
        · exact .inr h2.1
      · have h0 := h.pos p hp hpf
        obtain ⟨b1, b2, b3⟩ := hB
        have ho := apart_put (hC.2 p hp hpf) h0 hlt
        have hs64 := slotOff_ge C.slot
        refine ⟨reg_put b1 (by omega), ?_, ?_⟩
        · by_cases hp0 : p.2 = 0
          · left
            have h5 := h.now.five hs
            rw [hp0]
            show hd (putB B 0 (((D.F f).1.drop 0).take 64)) = _
            rw [List.drop_zero, hd_put0 (by simp; omega), hd_take h5]
          · rcases b2 with b2 | b2
            · left
              have : hd B ≠ .bad := by
                rw [b2]; rcases h.now with ⟨e, _⟩ | ⟨_, e, _⟩
                · omega
                · rw [e]; simp
              rw [hd_put (by omega) this, b2]
            · right
              refine b2.put (by omega) ?_
              rcases h2 with h2 | ⟨_, h2⟩
              · exact .inl h2
              · exact .inr (apart_put (h2 p hp hpf) h0 hlt)
        · rcases h2 with h2 | ⟨_, h2⟩
          · exact .inl h2
          · rcases b3 with b3 | b3
            · exact .inl b3
            · right
              have ho2 := apart_put (h2 p hp hpf) h0 hlt
              have := slotOff_ge s
              exact reg_put b3 (by omega)
    obtain ⟨_, b1, b2, b3⟩ := key
    rcases b2 with b2 | b2
    · exact ⟨C.slot, C.val, h.now.head hs b2 b1, h.pc⟩
    · exact ⟨s, v, b2, h3⟩
theorem Good.congr {D D' : DS} {f : Int} {C : CS} {P : Nat → Bytes → Prop} (h : Good D f C P) (hF : D'.F f = D.F f) (hQ : ∀ p ∈ D'.Q, p.1 = f → p ∈ D.Q) (hd : D'.down = D.down) : Good D' f C P := by
  have hk : ∀ s v, KeptV D f s v → KeptV D' f s v := fun s v hk => by
    rcases hk with hk | ⟨h1, h2⟩
    · exact .inl hk
    · exact .inr ⟨by rw [hF]; exact h1, fun p hp hpf => h2 p (hQ p hp hpf) hpf⟩
  refine ⟨by rw [← h.up]; unfold mayE; rw [hd], h.cf, fun p hp hpf => h.pos p (hQ p hp hpf) hpf, by rw [hF]; exact h.now, hk _ _ h.here, h.pc, ?_⟩
  rw [hF]
  rcases h.hdr with ⟨h1, h2⟩ | ⟨h1, h2, s, v, h3, h4, h5⟩
  · exact .inl ⟨fun p hp hpf => h1 p (hQ p hp hpf) hpf, h2⟩
  · exact .inr ⟨h1, h2, s, v, h3, hk _ _ h4, h5⟩
theorem Good.ends {D : DS} {f : Int} {C : CS} {P : Nat → Bytes → Prop} (h : Good D f C P) : Good (endsD D) f C P := h.congr (by rw [endsD_F]) (by rw [endsD_Q]; exact fun _ hp _ => hp) (endsD_down D)
/-- the header is durable -/
def Firm (D : DS) (f : Int) (C : CS) : Prop := (∀ p ∈ D.Q, p.1 = f → p.2 ≠ 0) ∧ Dec (D.F f).2 C.slot C.val
theorem Good.settled {D : DS} {f : Int} {C : CS} {P : Nat → Bytes → Prop} (h : Good D f C P) (b : Bool) : Good (settleD (endsD D) f (D.F f).1) f { C with sure := b } P ∧ Firm (settleD (endsD D) f (D.F f).1) f C := by
  have hF : (settleD (endsD D) f (D.F f).1).F f = ((D.F f).1, (D.F f).1) := by simp [settleD, setF]
  have hQ : ∀ p ∈ (settleD (endsD D) f (D.F f).1).Q, p.1 = f → False := fun p hp hpf => by have := (List.mem_filter.1 hp).2; simp at this; exact this hpf
  have hfirm : Firm (settleD (endsD D) f (D.F f).1) f C := ⟨fun p hp hpf => (hQ p hp hpf).elim, by rw [hF]; exact h.now⟩
  refine ⟨⟨?_, h.cf, fun p hp hpf => (hQ p hp hpf).elim, by rw [hF]; exact h.now, ?_, h.pc, .inl hfirm⟩, hfirm⟩
  · have := h.up; simpa [mayE, settleD, endsD_down] using this
  · by_cases hs : C.slot = 0
    · exact .inl hs
    · exact .inr ⟨by rw [hF]; exact h.now.reg (by omega), fun p hp hpf => (hQ p hp hpf).elim⟩
theorem sync_cases {D : DS} {f : Int} (h : mayE D f = 0) : (SyncE D f = 9 ∧ SyncD D f = crashD (endsD D) D.keep) ∨ (SyncE D f = 10 ∧ SyncD D f = { endsD D with lost := (endsD D).lost - 1 }) ∨ (SyncE D f = 0 ∧ SyncD D f = settleD (endsD D) f (D.F f).1 ∧ endsB D = false) := by
  cases hb : endsB D with
  | true =>
    left
    have hl : lateD D = crashD (endsD D) D.keep := lateD_yes hb
    have hm : mayE (lateD D) f = 9 := by rw [mayE, if_pos]; rw [hl]; exact crash_isDown _ _
    exact ⟨by rw [SyncE, hm]; rfl, by rw [SyncD, hm]; exact hl⟩
  | false =>
    have hl : lateD D = endsD D := lateD_no hb
    have hm : mayE (lateD D) f = 0 := by rw [hl]; simpa [mayE, endsD_down] using h
    right
    by_cases hq : 0 < (lateD D).lost
    · left; rw [SyncE, SyncD, if_neg (by omega), if_pos hq, if_neg (by omega), if_pos hq, hl]; exact ⟨rfl, rfl⟩
    · right; rw [SyncE, SyncD, if_neg (by omega), if_neg hq, if_neg (by omega), if_neg hq, hl, endsD_F]; exact ⟨rfl, rfl, rfl⟩
theorem Good.sync {D : DS} {f : Int} {C : CS} {P : Nat → Bytes → Prop} (h : Good D f C P) : (SyncE D f ≠ 0 → OkSt (SyncD D f) f C P) ∧ (SyncE D f = 0 → ∀ b, Good (SyncD D f) f { C with sure := b } P ∧ Firm (SyncD D f) f C) := by
  rcases sync_cases h.up with ⟨h1, h2⟩ | ⟨h1, h2⟩ | ⟨h1, h2, _⟩
  · exact ⟨fun _ => by rw [h2]; exact .inr (h.ends.crash _), fun q => by rw [h1] at q; cases q⟩
  · exact ⟨fun _ => by rw [h2]; exact .inl (h.ends.congr rfl (fun _ hp _ => hp) rfl), fun q => by rw [h1] at q; cases q⟩
  · exact ⟨fun q => absurd h1 q, fun _ b => by rw [h2]; exact h.settled b⟩
theorem pend_mem2 {g : Int} : ∀ (k : Nat) (n : Int) (Q : List (Int × Int)) (p : Int × Int), p ∈ pend g k n Q → p ∈ Q ∨ (p.1 = g ∧ n ≤ p.2 ∧ p.2 < n + k)
  | 0, _, _, _, h => .inl h
  | k + 1, n, Q, p, h => by
    rcases pend_mem2 k (n + 1) _ p h with h1 | ⟨h1, h2, h3⟩
    · split at h1
      · exact .inl h1
      · rcases List.mem_append.1 h1 with h2 | h2
        · exact .inl h2
        · simp at h2; subst h2; exact .inr ⟨rfl, by simp, by simp; omega⟩
    · exact .inr ⟨h1, by omega, by omega⟩
theorem write_cases {D : DS} {f a : Int} {s : Bytes} (h : mayE D f = 0) (ha : 0 ≤ a) (hl : a + s.length ≤ 16777216) : (WriteE D f a s = 9 ∧ WriteD D f a s = crashD (addD (endsD D) f a s) D.keep) ∨ (WriteE D f a s = 0 ∧ WriteD D f a s = addD (endsD D) f a s) := by
  have hw : writeE (endsD D) f a s = 0 := by
    rw [writeE, if_neg (by rw [show mayE (endsD D) f = mayE D f by simp [mayE, endsD_down]]; omega), if_neg (by omega), if_neg (by omega)]
  have hwd : writeD (endsD D) f a s = addD (endsD D) f a s := by rw [writeD, if_pos hw]
  cases hb : endsB D with
  | true => left; exact ⟨by rw [WriteE, hb]; rfl, by simp only [WriteD, hb, hwd]; rfl⟩
  | false => right; exact ⟨by rw [WriteE, hb]; simpa using hw, by simp only [WriteD, hb, hwd]; rfl⟩
theorem add_F {D : DS} {f a : Int} {s : Bytes} : (addD D f a s).F f = (putB (D.F f).1 a.toNat s, (D.F f).2) := by
  unfold addD; split
  · rename_i h; subst h; rw [putB_nil]
  · simp [setF]
theorem add_Q {D : DS} {f a : Int} {s : Bytes} {p : Int × Int} (hp : p ∈ (addD D f a s).Q) : p ∈ D.Q ∨ (s ≠ [] ∧ p.1 = f ∧ a / 64 ≤ p.2 ∧ (p.2 ≤ (a + s.length - 1) / 64 ∨ p.2 ≤ a / 64)) := by
  unfold addD at hp; split at hp
  · exact .inl hp
  · rename_i hs
    rcases pend_mem2 _ _ _ p hp with h | ⟨h1, h2, h3⟩
    · exact .inl h
    · exact .inr ⟨hs, h1, h2, by omega⟩
theorem add_up {D : DS} {f a g : Int} {s : Bytes} : mayE (addD D f a s) g = mayE D g := by unfold addD; split <;> rfl
theorem add_pos {D : DS} {f a : Int} {s : Bytes} (ha : 0 ≤ a) (h : ∀ p ∈ D.Q, p.1 = f → 0 ≤ p.2) : ∀ p ∈ (addD D f a s).Q, p.1 = f → 0 ≤ p.2 := fun p hp hpf => by
  rcases add_Q hp with h1 | ⟨_, _, h1, _⟩
  · exact h p h1 hpf
  · omega
theorem other_12 (C : CS) : other C = 1 ∨ other C = 2 := by unfold other; split <;> simp
theorem other_apart {C : CS} {s v : Bytes} {n : Int} (hC : 0 < C.slot) (h2 : C.slot ≤ 2) (hs : s ≠ []) (hl : s.length ≤ 65536) (hv : v.length ≤ 65536) (h1 : slotOff (other C) / 64 ≤ n) (h3 : n ≤ (slotOff (other C) + s.length - 1) / 64 ∨ n ≤ slotOff (other C) / 64) : Apart n C.slot v := by
  have hpos : 0 < s.length := List.length_pos_iff.2 hs
  unfold Apart
  obtain h | h : C.slot = 1 ∨ C.slot = 2 := by omega
  · have e : slotOff (other C) = 131072 := by simp [other, h, slotOff]
    have e2 : slotOff C.slot = 64 := by simp [h, slotOff]
    rw [e] at h1 h3; rw [e2]; omega
  · have e : slotOff (other C) = 64 := by simp [other, h, slotOff]
    have e2 : slotOff C.slot = 131072 := by simp [h, slotOff]
    rw [e] at h1 h3; rw [e2]; omega
/-- the value is written into the other slot -/
theorem Good.value {D : DS} {f : Int} {C : CS} {P : Nat → Bytes → Prop} (h : Good D f C P) (hfirm : Firm D f C) (s : Bytes) (hl : s.length ≤ 65536) : Good (addD D f (slotOff (other C)) s) f C P ∧ Firm (addD D f (slotOff (other C)) s) f C ∧ (((addD D f (slotOff (other C)) s).F f).1.drop (slotOff (other C)).toNat).take s.length = s := by
  have hge := slotOff_ge (other C)
  have hS2 := h.now.slot2
  have hput (B : Bytes) (hB : Dec B C.slot C.val) : Dec (putB B (slotOff (other C)).toNat s) C.slot C.val := by
    refine hB.put (by omega) ?_
    by_cases h0 : C.slot = 0
    · exact .inl h0
    · right
      have hv := hB.len
      obtain h | h : C.slot = 1 ∨ C.slot = 2 := by omega
      · have e : slotOff (other C) = 131072 := by simp [other, h, slotOff]
        have e2 : slotOff C.slot = 64 := by simp [h, slotOff]
        rw [e, e2]; right; simp; omega
      · have e : slotOff (other C) = 64 := by simp [other, h, slotOff]
        have e2 : slotOff C.slot = 131072 := by simp [h, slotOff]
        rw [e, e2]; left; simp; omega
  have hne : ∀ p ∈ (addD D f (slotOff (other C)) s).Q, p.1 = f → p.2 ≠ 0 := fun p hp hpf => by
    rcases add_Q hp with h1 | ⟨_, _, h1, _⟩
    · exact hfirm.1 p h1 hpf
    · omega
  have hfirm' : Firm (addD D f (slotOff (other C)) s) f C := ⟨hne, by rw [add_F]; exact hfirm.2⟩
  refine ⟨⟨by rw [add_up]; exact h.up, h.cf, add_pos (by omega) h.pos, by rw [add_F]; exact hput _ h.now, ?_, h.pc, .inl hfirm'⟩, hfirm', ?_⟩
  · rcases h.here with h1 | ⟨h1, h2⟩
    · exact .inl h1
    · by_cases h0 : C.slot = 0
      · exact .inl h0
      · refine .inr ⟨by rw [add_F]; exact h1, fun p hp hpf => ?_⟩
        rcases add_Q hp with h3 | ⟨h3, _, h4, h5⟩
        · exact h2 p h3 hpf
        · exact other_apart (by omega) hS2 h3 hl h.now.len h4 h5
  · rw [add_F]
    unfold putB; split
    · rename_i e; subst e; simp
    · have hl2 : (((D.F f).1 ++ List.replicate ((slotOff (other C)).toNat - (D.F f).1.length) 0).take (slotOff (other C)).toNat).length = (slotOff (other C)).toNat := by simp; omega
      rw [List.append_assoc, List.drop_append_of_le_length (by omega), List.drop_of_length_le (by omega)]
      simp
/-- the header is written, behind a durable value -/
theorem Good.header {D : DS} {f : Int} {C : CS} {P : Nat → Bytes → Prop} (h : Good D f C P) (hq : ∀ p ∈ D.Q, p.1 ≠ f) (hsame : (D.F f).2 = (D.F f).1) (s : Bytes) (hl : s.length ≤ 65536) (hreg : ((D.F f).1.drop (slotOff (other C)).toNat).take s.length = s) (hP : P (other C) s) : Good (addD D f 0 (hdrB (other C) s.length)) f ⟨f, other C, s, false⟩ P := by
  have hge := slotOff_ge (other C)
  have h12 := other_12 C
  have hlen : (hdrB (other C) s.length).length = 5 := rfl
  have hQ : ∀ p ∈ (addD D f 0 (hdrB (other C) s.length)).Q, p.1 = f → p.2 = 0 := fun p hp hpf => by
    rcases add_Q hp with h1 | ⟨_, _, h1, h2⟩
    · exact absurd hpf (hq p h1)
    · rw [hlen] at h2; omega
  have hap (s' : Nat) (v' : Bytes) : ∀ p ∈ (addD D f 0 (hdrB (other C) s.length)).Q, p.1 = f → Apart p.2 s' v' := fun p hp hpf => by
    rw [Apart, hQ p hp hpf]; left; have := slotOff_ge s'; omega
  refine ⟨by rw [add_up]; exact h.up, rfl, add_pos (by omega) h.pos, ?_, .inr ⟨by rw [add_F]; show ((D.F f).2.drop _).take _ = _; rw [hsame]; exact hreg, hap _ _⟩, hP, .inr ⟨rfl, by show 0 < other C; omega, C.slot, C.val, ?_, ?_, h.pc⟩⟩
  · rw [add_F]
    refine .inr ⟨h12, ?_, reg_put hreg (.inl (by rw [hlen]; show 0 + 5 ≤ _; omega)), hl⟩
    show hd (putB (D.F f).1 0 (hdrB (other C) s.length)) = .slot (other C) s.length
    rw [hd_put0 (by rw [hlen]; omega), hd_hdr h12 hl]
  · rw [add_F]; show Dec (D.F f).2 _ _; rw [hsame]; exact h.now
  · by_cases h0 : C.slot = 0
    · exact .inl h0
    · refine .inr ⟨by rw [add_F]; show ((D.F f).2.drop _).take _ = _; rw [hsame]; exact h.now.reg (by omega), hap _ _⟩
/-- what Set does with a cell that is allowed -/
theorem Good.set2 {D : DS} {f : Int} {C : CS} {P : Nat → Bytes → Prop} (h : Good D f C P) (hfirm : Firm D f C) (s : Bytes) (hl : s.length ≤ 65536) (hP : ∀ sl, sl ≠ 0 → P sl s) :
    OkSt (setR2 D C s).D f (setR2 D C s).C P ∧ ((setR2 D C s).e = 0 → Good (setR2 D C s).D f (setR2 D C s).C P ∧ Firm (setR2 D C s).D f (setR2 D C s).C ∧ (setR2 D C s).C = ⟨f, other C, s, true⟩) := by
  have hcf := h.cf
  have hge := slotOff_ge (other C)
  have hle : slotOff (other C) ≤ 131072 := by unfold slotOff; split <;> decide
  have hfe : Firm (endsD D) f C := by unfold Firm; rw [endsD_F, endsD_Q]; exact hfirm
  obtain ⟨v1, v2, v3⟩ := h.ends.value hfe s hl
  rcases write_cases (a := slotOff (other C)) (s := s) h.up (by omega) (by omega) with ⟨w1, w2⟩ | ⟨w1, w2⟩
  · rw [setR2_a (by rw [hcf, w1]; decide), hcf, w1, w2]
    exact ⟨.inr (v1.crash _), fun q => absurd q (show ¬ ((9 : Int) = 0) by decide)⟩
  rw [← w2] at v1 v2 v3
  have hs := v1.sync
  by_cases s1 : SyncE (WriteD D f (slotOff (other C)) s) f = 0
  case neg =>
    rw [setR2_b (by rw [hcf]; exact w1) (by rw [hcf]; exact s1), hcf]
    exact ⟨hs.1 s1, fun q => absurd q s1⟩
  obtain ⟨g1, _⟩ := hs.2 s1 C.sure
  have hD2 : SyncD (WriteD D f (slotOff (other C)) s) f = settleD (endsD (WriteD D f (slotOff (other C)) s)) f ((WriteD D f (slotOff (other C)) s).F f).1 := by
    rcases sync_cases v1.up with ⟨q, _⟩ | ⟨q, _⟩ | ⟨_, q, _⟩
    · rw [q] at s1; cases s1
    · rw [q] at s1; cases s1
    · exact q
  have hF2 : (SyncD (WriteD D f (slotOff (other C)) s) f).F f = (((WriteD D f (slotOff (other C)) s).F f).1, ((WriteD D f (slotOff (other C)) s).F f).1) := by rw [hD2]; simp [settleD, setF]
  have hQ2 : ∀ p ∈ (SyncD (WriteD D f (slotOff (other C)) s) f).Q, p.1 ≠ f := by
    rw [hD2]; intro p hp; have := (List.mem_filter.1 hp).2; simpa using this
  have hg := Good.header (D := endsD (SyncD (WriteD D f (slotOff (other C)) s) f)) (C := C) g1.ends (by rw [endsD_Q]; exact hQ2) (by rw [endsD_F, hF2]) s hl (by rw [endsD_F, hF2]; exact v3) (hP _ (by have := other_12 C; omega))
  rcases write_cases (D := SyncD (WriteD D f (slotOff (other C)) s) f) (f := f) (a := 0) (s := hdrB (other C) s.length) g1.up (by omega) (by show (0 : Int) + 5 ≤ _; omega) with ⟨x1, x2⟩ | ⟨x1, x2⟩
  · rw [setR2_c (by rw [hcf]; exact w1) (by rw [hcf]; exact s1) (by rw [hcf, x1]; decide), hcf, x1, x2]
    exact ⟨.inr (hg.crash _), fun q => absurd q (show ¬ ((9 : Int) = 0) by decide)⟩
  rw [← x2] at hg
  have hs3 := hg.sync
  rw [setR2_d (by rw [hcf]; exact w1) (by rw [hcf]; exact s1) (by rw [hcf]; exact x1), hcf]
  generalize hD3 : WriteD (SyncD (WriteD D f (slotOff (other C)) s) f) f 0 (hdrB (other C) s.length) = D3 at hg hs3 ⊢
  by_cases s3 : SyncE D3 f = 0
  · have := hs3.2 s3 true
    refine ⟨.inl ?_, fun _ => ?_⟩
    · simp only [s3, decide_true]; exact this.1
    · simp only [s3, decide_true]; exact ⟨this.1, this.2, trivial⟩
  · refine ⟨?_, fun q => absurd q s3⟩
    simp only [s3, decide_false]; exact hs3.1 s3
theorem Good.firm {D : DS} {f : Int} {C : CS} {P : Nat → Bytes → Prop} (h : Good D f C P) (hs : ¬ (C.sure = false ∧ 0 < C.slot)) : Firm D f C := by
  rcases h.hdr with h1 | ⟨h1, h2, _⟩
  · exact h1
  · exact absurd ⟨h1, h2⟩ hs
theorem Good.set {D : DS} {f : Int} {C : CS} {P : Nat → Bytes → Prop} (h : Good D f C P) (s : Bytes) (hP : ∀ sl, sl ≠ 0 → P sl s) :
    OkSt (setR D C s).D f (setR D C s).C P ∧ ((setR D C s).e = 0 → Good (setR D C s).D f (setR D C s).C P ∧ Firm (setR D C s).D f (setR D C s).C ∧ (setR D C s).C.f = f ∧ (setR D C s).C.val = s ∧ 0 < (setR D C s).C.slot ∧ (setR D C s).C.sure = true) := by
  by_cases hlong : 65536 < s.length
  · rw [setR_long hlong]; exact ⟨.inl h, fun q => absurd q (show ¬ ((6 : Int) = 0) by decide)⟩
  have fin : ∀ {D' : DS} {C' : CS}, Good D' f C' P → Firm D' f C' → OkSt (setR2 D' C' s).D f (setR2 D' C' s).C P ∧ ((setR2 D' C' s).e = 0 → Good (setR2 D' C' s).D f (setR2 D' C' s).C P ∧ Firm (setR2 D' C' s).D f (setR2 D' C' s).C ∧ (setR2 D' C' s).C.f = f ∧ (setR2 D' C' s).C.val = s ∧ 0 < (setR2 D' C' s).C.slot ∧ (setR2 D' C' s).C.sure = true) := fun hg hf => by
    obtain ⟨r1, r2⟩ := hg.set2 hf s (by omega) hP
    refine ⟨r1, fun q => ?_⟩
    obtain ⟨a, b, c⟩ := r2 q
    refine ⟨a, b, ?_⟩
    rw [c]; exact ⟨rfl, rfl, by show 0 < other _; have := other_12 ‹CS›; omega, rfl⟩
  by_cases hc : C.sure = false ∧ 0 < C.slot
  · have hcf := h.cf
    subst hcf
    by_cases h3 : SyncE D C.f = 0
    · rw [setR_sync hlong hc.1 hc.2 h3]
      have := h.sync.2 h3 true
      exact fin this.1 this.2
    · rw [setR_late hlong hc.1 hc.2 h3]
      exact ⟨h.sync.1 h3, fun q => absurd q h3⟩
  · rw [setR_go hlong hc]
    exact fin h (h.firm hc)
/-! the machine is down: nothing changes -/
theorem Downed.stay {D : DS} {f : Int} {P : Nat → Bytes → Prop} (h : Downed D f P) : endsD D = D ∧ endsB D = false ∧ lateD D = D ∧ ∀ g, mayE D g = 9 := by
  have e1 : endsD D = D := by unfold endsD; rw [if_pos (.inl h.down)]
  have e2 : endsB D = false := by unfold endsB; simp [h.down]
  exact ⟨e1, e2, by rw [lateD_no e2, e1], fun g => by rw [mayE, if_pos h.down]⟩
theorem Downed.write {D : DS} {f g a : Int} {P : Nat → Bytes → Prop} (h : Downed D f P) (s : Bytes) : WriteE D g a s = 9 ∧ WriteD D g a s = D := by
  obtain ⟨e1, e2, _, e4⟩ := h.stay
  have : writeE D g a s = 9 := by rw [writeE, if_pos (by rw [e4]; decide), e4]
  exact ⟨by rw [WriteE, e2, e1]; simpa using this, by simp only [WriteD, e2, e1]; rw [writeD, this]; rfl⟩
theorem Downed.sync {D : DS} {f g : Int} {P : Nat → Bytes → Prop} (h : Downed D f P) : SyncE D g = 9 ∧ SyncD D g = D := by
  obtain ⟨_, _, e3, e4⟩ := h.stay
  exact ⟨by rw [SyncE, e3, e4]; rfl, by rw [SyncD, e3, e4]; rfl⟩
theorem Downed.set {D : DS} {f : Int} {P : Nat → Bytes → Prop} (h : Downed D f P) (C : CS) (s : Bytes) : (setR D C s).e ≠ 0 ∧ (setR D C s).D = D ∧ (setR D C s).C = C := by
  by_cases hlong : 65536 < s.length
  · rw [setR_long hlong]; exact ⟨show (6 : Int) ≠ 0 by decide, rfl, rfl⟩
  by_cases hc : C.sure = false ∧ 0 < C.slot
  · rw [setR_late hlong hc.1 hc.2 (by rw [h.sync.1]; decide), h.sync.1, h.sync.2]; exact ⟨show (9 : Int) ≠ 0 by decide, rfl, rfl⟩
  · rw [setR_go hlong hc, setR2_a (by rw [(h.write s).1]; decide), (h.write s).1, (h.write s).2]; exact ⟨show (9 : Int) ≠ 0 by decide, rfl, rfl⟩
theorem Downed.crash {D : DS} {f : Int} {P : Nat → Bytes → Prop} (h : Downed D f P) (ks : List Int) : Downed (crashD D ks) f P := by rw [crash_down h.down]; exact h
theorem OkSt.crash {D : DS} {f : Int} {C : CS} {P : Nat → Bytes → Prop} (h : OkSt D f C P) (ks : List Int) : Downed (crashD D ks) f P := h.elim (fun g => g.crash ks) (fun g => g.crash ks)
theorem OkSt.set {D : DS} {f : Int} {C : CS} {P : Nat → Bytes → Prop} (h : OkSt D f C P) (s : Bytes) (hP : ∀ sl, sl ≠ 0 → P sl s) :
    OkSt (setR D C s).D f (setR D C s).C P ∧ ((setR D C s).e = 0 → Good (setR D C s).D f (setR D C s).C P ∧ Firm (setR D C s).D f (setR D C s).C ∧ (setR D C s).C.f = f ∧ (setR D C s).C.val = s ∧ 0 < (setR D C s).C.slot ∧ (setR D C s).C.sure = true) := by
  rcases h with h | h
  · exact h.set s hP
  · obtain ⟨e1, e2, e3⟩ := h.set C s
    rw [e2, e3]; exact ⟨.inr h, fun q => absurd q e1⟩
theorem Good.narrow {D : DS} {f : Int} {C : CS} {P P' : Nat → Bytes → Prop} (h : Good D f C P) (hf : Firm D f C) (hp : P' C.slot C.val) : Good D f C P' := ⟨h.up, h.cf, h.pos, h.now, h.here, hp, .inl hf⟩
theorem Good.widen {D : DS} {f : Int} {C : CS} {P P' : Nat → Bytes → Prop} (h : Good D f C P) (hp : ∀ s v, P s v → P' s v) : Good D f C P' := ⟨h.up, h.cf, h.pos, h.now, h.here, hp _ _ h.pc, h.hdr.imp id fun ⟨a, b, s, v, c, d, e⟩ => ⟨a, b, s, v, c, d, hp _ _ e⟩⟩
theorem Downed.widen {D : DS} {f : Int} {P P' : Nat → Bytes → Prop} (h : Downed D f P) (hp : ∀ s v, P s v → P' s v) : Downed D f P' := ⟨h.ran, h.down, h.same, h.quiet, let ⟨s, v, a, b⟩ := h.says; ⟨s, v, a, hp _ _ b⟩⟩
theorem OkSt.widen {D : DS} {f : Int} {C : CS} {P P' : Nat → Bytes → Prop} (h : OkSt D f C P) (hp : ∀ s v, P s v → P' s v) : OkSt D f C P' := h.imp (fun g => g.widen hp) (fun g => g.widen hp)
theorem OkSt.lose {D : DS} {f : Int} {C : CS} {P : Nat → Bytes → Prop} (h : OkSt D f C P) (n : Int) : OkSt { D with lost := n } f C P := h.imp (fun g => g.congr rfl (fun _ hp _ => hp) rfl) (fun g => ⟨g.ran, g.down, g.same, g.quiet, g.says⟩)
/-- what Open says of a file that decodes -/
theorem open_dec {D : DS} {f : Int} {s : Nat} {v : Bytes} (hm : mayE D f = 0) (h : Dec (D.F f).1 s v) : openE D f = 0 ∧ openC D f = ⟨f, s, v, false⟩ := by
  have hr (a n : Nat) : ReadE D f a n = 0 ∧ ReadS D f a n = ((D.F f).1.drop a).take n := by
    have e : ReadE D f a n = 0 := by rw [ReadE, if_neg (by omega), if_neg (by omega)]
    exact ⟨e, by rw [ReadS, if_pos e, Int.toNat_natCast, Int.toNat_natCast]⟩
  have h5 := hr 0 5
  rw [List.drop_zero] at h5
  have hh : hdrOf (ReadS D f 0 5) = hd (D.F f).1 := by
    have := h5.2
    rw [show ReadS D f 0 5 = (D.F f).1.take 5 from this]; rfl
  rcases h with ⟨rfl, rfl, h1⟩ | ⟨hs, h1, h2, h3⟩
  · exact open_none h5.1 (by rw [hh, h1])
  · have e : ReadS D f (slotOff s) (v.length : Int) = v := by
      have := (hr (slotOff s).toNat v.length).2
      rw [Int.toNat_of_nonneg (slotOff_pos s)] at this
      rw [this, h2]
    have := open_ok h5.1 (by rw [hh, h1]) (by rw [e]; omega)
    rw [e] at this; exact this
theorem Downed.reopen {D : DS} {f : Int} {P : Nat → Bytes → Prop} (h : Downed D f P) : openE (startD D) f = 0 ∧ ∃ s v, openC (startD D) f = ⟨f, s, v, false⟩ ∧ s ≤ 2 ∧ P s v ∧ Good (startD D) f ⟨f, s, v, false⟩ P ∧ Firm (startD D) f ⟨f, s, v, false⟩ := by
  obtain ⟨s, v, h1, h2⟩ := h.says
  have hm : mayE (startD D) f = 0 := may_start h.ran
  obtain ⟨o1, o2⟩ := open_dec (D := startD D) hm h1
  have hfirm : Firm (startD D) f ⟨f, s, v, false⟩ := ⟨fun p hp hpf => absurd hpf (h.quiet p hp), by show Dec (D.F f).2 s v; rw [h.same]; exact h1⟩
  refine ⟨o1, s, v, o2, h1.slot2, h2, ⟨hm, rfl, fun p hp hpf => absurd hpf (h.quiet p hp), h1, ?_, h2, .inl hfirm⟩, hfirm⟩
  by_cases h0 : s = 0
  · exact .inl h0
  · exact .inr ⟨by show ((D.F f).2.drop _).take _ = _; rw [h.same]; exact h1.reg (by omega), fun p hp hpf => absurd hpf (h.quiet p hp)⟩
theorem OkSt.again {D : DS} {f : Int} {C : CS} {P : Nat → Bytes → Prop} (h : OkSt D f C P) (ks : List Int) : openE (startD (crashD D ks)) f = 0 ∧ ∃ s v, openC (startD (crashD D ks)) f = ⟨f, s, v, false⟩ ∧ s ≤ 2 ∧ P s v ∧ Good (startD (crashD D ks)) f ⟨f, s, v, false⟩ P ∧ Firm (startD (crashD D ks)) f ⟨f, s, v, false⟩ := (h.crash ks).reopen
theorem Good.begin {f : Int} {P : Nat → Bytes → Prop} (hf : 0 ≤ f ∧ f < 16) (hP : P 0 []) : openE newD f = 0 ∧ openC newD f = newC f ∧ Good newD f (newC f) P ∧ Firm newD f (newC f) := by
  have hm : mayE newD f = 0 := by show (if newD.down = true then (9 : Int) else _) = 0; simp [newD]; omega
  have hdec : Dec (newD.F f).1 0 [] := .inl ⟨rfl, rfl, rfl⟩
  obtain ⟨o1, o2⟩ := open_dec hm hdec
  have hfirm : Firm newD f (newC f) := ⟨fun p hp => by simp [newD] at hp, hdec⟩
  exact ⟨o1, o2, ⟨hm, rfl, fun p hp => by simp [newD] at hp, hdec, .inl rfl, hP, .inl hfirm⟩, hfirm⟩
theorem OkSt.slot2 {D : DS} {f : Int} {C : CS} {P : Nat → Bytes → Prop} (h : Good D f C P) : C.slot ≤ 2 := h.now.slot2
/-- nothing is armed and no sync gets lost -/
structure Calm (D : DS) : Prop where
  armed : D.armed = 0
  lost : D.lost ≤ 0
theorem Calm.write {D : DS} {f a : Int} {s : Bytes} (h : Calm D) (hm : mayE D f = 0) (ha : 0 ≤ a) (hl : a + s.length ≤ 16777216) : WriteE D f a s = 0 ∧ WriteD D f a s = addD D f a s ∧ Calm (addD D f a s) := by
  have e1 : endsB D = false := by simp [endsB, h.armed]
  have e2 : endsD D = D := by unfold endsD; rw [if_pos (.inr h.armed)]
  have hc : Calm (addD D f a s) := by unfold addD; split; exact h; exact ⟨h.armed, h.lost⟩
  have hw : writeE D f a s = 0 := by rw [writeE, if_neg (by omega), if_neg (by omega), if_neg (by omega)]
  exact ⟨by rw [WriteE, e1, e2]; simpa using hw, by simp only [WriteD, e1, e2]; rw [writeD, hw]; rfl, hc⟩
theorem Calm.sync {D : DS} {f : Int} (h : Calm D) (hm : mayE D f = 0) : SyncE D f = 0 ∧ SyncD D f = settleD D f (D.F f).1 ∧ Calm (settleD D f (D.F f).1) := by
  have e2 : endsD D = D := by unfold endsD; rw [if_pos (.inr h.armed)]
  have hl : lateD D = D := by rw [lateD_no (by simp [endsB, h.armed]), e2]
  have hn : ¬ 0 < D.lost := by have := h.lost; omega
  rw [SyncE, SyncD, hl, if_neg (by omega), if_neg hn, if_neg (by omega), if_neg hn]
  exact ⟨rfl, rfl, ⟨h.armed, h.lost⟩⟩
theorem Calm.set {D : DS} {f : Int} {C : CS} {s : Bytes} (h : Calm D) (hm : mayE D f = 0) (hcf : C.f = f) (hs : ¬ (C.sure = false ∧ 0 < C.slot)) (hl : s.length ≤ 65536) :
    (setR D C s).e = 0 ∧ Calm (setR D C s).D ∧ mayE (setR D C s).D f = 0 ∧ (setR D C s).C = ⟨f, other C, s, true⟩ ∧ ((setR D C s).D.F f).1 = putB (putB (D.F f).1 (slotOff (other C)).toNat s) 0 (hdrB (other C) s.length) := by
  subst hcf
  have hge := slotOff_ge (other C)
  have hle : slotOff (other C) ≤ 131072 := by unfold slotOff; split <;> decide
  have hup (a : Int) (t : Bytes) (X : DS) : mayE (addD X C.f a t) C.f = mayE X C.f := add_up
  obtain ⟨w1, w2, w3⟩ := h.write (f := C.f) (a := slotOff (other C)) (s := s) hm (by omega) (by omega)
  obtain ⟨s1, s2, s3⟩ := w3.sync (f := C.f) (by rw [hup]; exact hm)
  have hm2 : mayE (settleD (addD D C.f (slotOff (other C)) s) C.f ((addD D C.f (slotOff (other C)) s).F C.f).1) C.f = 0 := by show mayE (addD D C.f (slotOff (other C)) s) C.f = 0; rw [hup]; exact hm
  obtain ⟨x1, x2, x3⟩ := s3.write (f := C.f) (a := 0) (s := hdrB (other C) s.length) hm2 (by omega) (by show (0 : Int) + 5 ≤ _; omega)
  obtain ⟨y1, y2, y3⟩ := x3.sync (f := C.f) (by rw [hup]; exact hm2)
  rw [setR_go (by omega) hs, setR2_d (by exact w1) (by rw [w2]; exact s1) (by rw [w2, s2]; exact x1), w2, s2, x2, y1, y2]
  refine ⟨rfl, y3, ?_, rfl, ?_⟩
  · show mayE (addD _ _ _ _) _ = 0; rw [hup]; exact hm2
  · show (setF _ _ _ _).1 = _
    simp only [setF, if_true]
    rw [add_F]
    simp only [settleD, setF, if_true]
    rw [add_F]; rfl
/-! what is done to another file -/
theorem write_otherF {D : DS} {f g a : Int} {s : Bytes} (h : g ≠ f) : (writeD D g a s).F f = D.F f ∧ (∀ p ∈ (writeD D g a s).Q, p.1 = f → p ∈ D.Q) ∧ (writeD D g a s).down = D.down := by
  unfold writeD; split
  · unfold addD; split
    · exact ⟨rfl, fun p hp _ => hp, rfl⟩
    · refine ⟨setF_ne (Ne.symm h), fun p hp hpf => ?_, rfl⟩
      rcases pend_mem _ _ _ p hp with q | q
      · exact q
      · exact absurd (q.symm.trans hpf) h
  · exact ⟨rfl, fun p hp _ => hp, rfl⟩
theorem OkSt.write_other {D : DS} {f g a : Int} {C : CS} {P : Nat → Bytes → Prop} (h : OkSt D f C P) (hne : g ≠ f) (s : Bytes) : OkSt (WriteD D g a s) f C P := by
  rcases h with h | h
  · obtain ⟨e1, e2, e3⟩ := write_otherF (D := endsD D) (a := a) (s := s) hne
    have hg := h.ends.congr e1 e2 e3
    simp only [WriteD]
    split
    · exact .inr (hg.crash _)
    · exact .inl hg
  · rw [(h.write s).2]; exact .inr h
theorem OkSt.sync_other {D : DS} {f g : Int} {C : CS} {P : Nat → Bytes → Prop} (h : OkSt D f C P) (hne : g ≠ f) : OkSt (SyncD D g) f C P := by
  rcases h with h | h
  · have hl : OkSt (lateD D) f C P := by
      unfold lateD; split
      · exact .inr (h.ends.crash _)
      · exact .inl h.ends
    unfold SyncD; split
    · exact hl
    · rename_i hm
      split
      · exact hl.lose _
      · rcases hl with hl | hl
        · exact .inl (hl.congr (setF_ne (Ne.symm hne)) (fun p hp _ => (List.mem_filter.1 hp).1) rfl)
        · exact absurd (by rw [hl.stay.2.2.2]; decide) hm
  · rw [h.sync.2]; exact .inr h
end Go.Proofs.YtfmkodmmbgibgaaGreatDoor
/- More rules: maps with string keys, delete, len of a map, nil maps, array values, interface calls; things that lie below a block. Conditions: each rule's own hypotheses. -/
namespace Go.Proofs.YtfmkodmmbgibgaaGreatDoor.M
open Go.RowKit
/-- how many keys a map has -/
def Card {κ : Type} (f : κ → Option Value) (n : Nat) : Prop := ∃ ks : List κ, ks.Nodup ∧ ks.length = n ∧ ∀ k, f k ≠ none ↔ k ∈ ks
theorem Card.zero {κ : Type} {f : κ → Option Value} {n : Nat} (h : Card f n) : n = 0 ↔ ∀ k, f k = none := by
  obtain ⟨ks, _, h2, h3⟩ := h
  constructor
  · intro h0 k
    have : ks = [] := List.eq_nil_of_length_eq_zero (by omega)
    subst this
    by_cases hq : f k = none
    · exact hq
    · exact absurd ((h3 k).1 hq) (by simp)
  · intro h
    cases ks with
    | nil => simpa using h2.symm
    | cons k ks => exact absurd (h k) ((h3 k).2 (by simp))
theorem Card.same {κ : Type} {f g : κ → Option Value} {n m : Nat} (h : Card f n) (h' : Card g m) (e : ∀ k, f k = none ↔ g k = none) : n = m := by
  obtain ⟨ks, h1, h2, h3⟩ := h
  obtain ⟨js, g1, g2, g3⟩ := h'
  have s1 : ∀ x ∈ ks, x ∈ js := fun x hx => (g3 x).1 fun q => ((h3 x).2 hx) ((e x).2 q)
  have s2 : ∀ x ∈ js, x ∈ ks := fun x hx => (h3 x).1 fun q => ((g3 x).2 hx) ((e x).1 q)
  have l1 := List.Nodup.length_le_of_subset h1 s1
  have l2 := List.Nodup.length_le_of_subset g1 s2
  omega
theorem MapAt.card {κ : Type} {kv : κ → Value} {w : World} {b : Nat} {es : Array MapEntry} {clock : Nat} {f : κ → Option Value} (h : MapAt kv w b es clock) (hinj : ∀ a b, kv a = kv b → a = b) (hr : Reads kv es f) : Card f es.size := by
  have hk : ∀ (l : List MapEntry), (∀ x ∈ l, ∃ a, x.key = kv a) → ∃ ks : List κ, l.map (·.key) = ks.map kv := by
    intro l
    induction l with
    | nil => intro _; exact ⟨[], rfl⟩
    | cons x l ih =>
      intro hl
      obtain ⟨a, ha⟩ := hl x (by simp)
      obtain ⟨ks, hks⟩ := ih fun y hy => hl y (by simp [hy])
      exact ⟨a :: ks, by simp [ha, hks]⟩
  obtain ⟨ks, hks⟩ := hk es.toList h.keys
  refine ⟨ks, ?_, ?_, fun k => ?_⟩
  · have hp : (es.toList.map (·.key)).Nodup := h.stamped.2.2
    rw [hks, List.Nodup, List.pairwise_map] at hp
    exact hp.imp fun hne e => hne (by rw [e])
  · have := congrArg List.length hks
    simpa using this.symm
  · constructor
    · intro hne
      cases hq : f k with
      | none => exact absurd hq hne
      | some v =>
        obtain ⟨e, he, hke, _⟩ := (hr k v).1 hq
        have : kv k ∈ ks.map kv := by rw [← hks, ← hke]; exact List.mem_map.2 ⟨e, he, rfl⟩
        obtain ⟨j, hj, hjk⟩ := List.mem_map.1 this
        rw [← hinj _ _ hjk]; exact hj
    · intro hm
      have : kv k ∈ es.toList.map (·.key) := by rw [hks]; exact List.mem_map.2 ⟨k, hm, rfl⟩
      obtain ⟨e, he, hke⟩ := List.mem_map.1 this
      rw [(hr k e.val).2 ⟨e, he, hke, rfl⟩]; simp
section
variable {κ : Type} {kv : κ → Value}
variable {P : Program} {n : Nat} {ops : Array Oper} {Q : Exit → Act → World → Prop} {rest : List Oper} {L : Env} {w : World} {d : Nat} {ty : TypeId} {pos : String} {aft : Array Edge} {As : List Th}
/-- delete(m, k) -/
theorem wl_delete {mt t2 kt et : TypeId} {x y : Operand} {b : Nat} {f : κ → Option Value} {k : κ} (i : Nat) (hS : Sat w As) (K : KeyOk P kt kv) (hm : P.underlying mt = some (.map kt et)) (hi : As[i]? = some (mapT kv b f)) (hx : look L x = some (.map (some b))) (hy : look L y = some (kv k)) {dst : Option Nat} (hd : dOk n dst = true)
    (hk : ∀ w', Sat w' (As.set i (mapT kv b (upd f k none))) → wl P n ops Q rest (pd dst (.tuple #[]) L) w') : wl P n ops Q (⟨dst, .call ⟨.builtin .delete, #[x, y], #[mt, t2]⟩, ty, pos, aft, none⟩ :: rest) L w := by
  obtain ⟨es, c, h1, h2⟩ := hS.map i hi
  refine wl_does rfl (by cases dst <;> exact hd) (fun a ha => does_delete mt t2 x y rfl K hm h1 (ha.eval hx) (ha.eval hy)) ?_
  rintro _ w' ⟨rfl, es', hes, h3, h4, _⟩
  refine hk w' (hS.map_set i hi h3 ?_ h4)
  intro j u
  by_cases hj : j = k
  · subst hj
    rw [upd_self]
    constructor
    · intro e; cases e
    · rintro ⟨e, he, hke, _⟩; exact absurd hke ((hes e).1 he).2
  · rw [upd_ne hj, h2 j u]
    constructor
    · rintro ⟨e, he, hke, hv⟩
      exact ⟨e, (hes e).2 ⟨he, fun q => hj (K.inj _ _ (hke.symm.trans q))⟩, hke, hv⟩
    · rintro ⟨e, he, hke, hv⟩
      exact ⟨e, ((hes e).1 he).1, hke, hv⟩
end
def byteV (c : UInt8) : Value := .int .u8 (c.toNat : Int)
theorem run_part1 {P : Program} {e : TypeId} (ha : aggB P e = some false) (xs : Array Value) (i : Nat) (v : Value) (hv : xs[i]? = some v) (w : World) : (part e xs i).run P w = .ok v w := by
  unfold part
  simp [aggB_false ha, hv]
section
variable {P : Program} {n : Nat} {ops : Array Oper} {Q : Exit → Act → World → Prop} {rest : List Oper} {L : Env} {w : World} {d : Nat} {ty : TypeId} {pos : String} {aft : Array Edge} {As : List Th}
end
/-! ### what lies below a block -/
end Go.Proofs.YtfmkodmmbgibgaaGreatDoor.M
/- Look-ups with two results, and maps with as many keys as another. Conditions: each rule's own hypotheses. -/
namespace Go.Proofs.YtfmkodmmbgibgaaGreatDoor.M
open Go.RowKit
section
variable {P : Program} {n : Nat} {ops : Array Oper} {Q : Exit → Act → World → Prop} {rest : List Oper} {L : Env} {w : World} {d : Nat} {ty : TypeId} {pos : String} {aft : Array Edge} {κ : Type} {kv : κ → Value} {As : List Th}
theorem Card.sub {f g : κ → Option Value} {m : Nat} (h : Card f m) (h' : Card g m) (e : ∀ k v, f k = some v → g k = some v) : f = g := by
  obtain ⟨ks, h1, h2, h3⟩ := h
  obtain ⟨js, g1, g2, g3⟩ := h'
  have s1 : ∀ x ∈ ks, x ∈ js := fun x hx => (g3 x).1 fun q => by
    cases hf : f x with
    | none => exact ((h3 x).2 hx) hf
    | some v => rw [e x v hf] at q; cases q
  have s2 : ∀ x ∈ js, x ∈ ks := fun x hx => Classical.byContradiction fun hn => by
    have := List.Nodup.length_le_of_subset (l₂ := js) (List.nodup_cons.2 ⟨hn, h1⟩) (by
      intro y hy
      rcases List.mem_cons.1 hy with rfl | hy
      · exact hx
      · exact s1 y hy)
    simp at this; omega
  funext k
  cases hf : f k with
  | some v => exact (e k v hf).symm
  | none =>
    cases hg : g k with
    | none => rfl
    | some v => exact absurd hf ((h3 k).2 (s2 k ((g3 k).1 (by rw [hg]; simp))))
end
end Go.Proofs.YtfmkodmmbgibgaaGreatDoor.M
/- world: what a world is, in plain data, and how it lies in memory. -/
namespace Go.Proofs.YtfmkodmmbgibgaaGreatDoor
open Go.RowKit M
abbrev Bs := List UInt8
structure WS where
  cells : Bs → Bs
  objs : Bs → Int → Option Bs
  logs : Bs → Bs
  time : Int
def zero64 : Bs := List.replicate 64 0
def pageOf (o : Option Bs) : Bs := o.getD zero64
structure PagesOk (O : Bs → Int → Option Bs) : Prop where
  ok : ∀ n p s, O n p = some s → s.length = 64 ∧ s ≠ zero64 ∧ 0 ≤ p ∧ p < 256
theorem PagesOk.len {O : Bs → Int → Option Bs} (h : PagesOk O) (n : Bs) (p : Int) : (pageOf (O n p)).length = 64 := by
  unfold pageOf
  cases hq : O n p with
  | none => rfl
  | some s => exact (h.ok n p s hq).1
structure ObjL (L : List (Bs × Nat)) (O : Bs → Int → Option Bs) : Prop where
  nodup : (L.map (·.1)).Nodup
  has : ∀ n, n ∈ L.map (·.1) ↔ ∃ p, O n p ≠ none
structure WL where
  bc : Nat
  bo : Nat
  bl : Nat
section
variable {w : World} {As : List Th}
end
def updC (c : Bs → Bs) (k v : Bs) : Bs → Bs := fun j => if j = k then v else c j
def setO (O : Bs → Int → Option Bs) (n : Bs) (p : Int) (s : Bs) : Bs → Int → Option Bs := fun m q => if m = n ∧ q = p then (if s = zero64 then none else some s) else O m q
theorem PagesOk.set {O : Bs → Int → Option Bs} (h : PagesOk O) {n : Bs} {p : Int} {s : Bs} (hs : s.length = 64) (hp : 0 ≤ p ∧ p < 256) : PagesOk (setO O n p s) := by
  refine ⟨fun m q t ht => ?_⟩
  unfold setO at ht
  split at ht
  · rename_i hc
    split at ht
    · cases ht
    · rename_i hz; cases ht; exact ⟨hs, hz, by omega, by omega⟩
  · exact h.ok m q t ht
end Go.Proofs.YtfmkodmmbgibgaaGreatDoor
/- The shelf's contracts as contracts of things: fresh copies of strings, sorting. Conditions: each one's own hypotheses. -/
namespace Go.Proofs.YtfmkodmmbgibgaaGreatDoor.M
open Go.RowKit Go.Sort
theorem Sat.belowAll {w w' : World} {As : List Th} (h : Sat w As) (hb : RowKit.Below w.heap.size w w') : Sat w' As := h.only ⟨hb.os, hb.tape, hb.output, hb.size, fun k hk _ => hb.block k hk⟩
end Go.Proofs.YtfmkodmmbgibgaaGreatDoor.M
/- wire: numbers as text and back, in plain data; comparing interface values with nil. Conditions: each lemma's own hypotheses. -/
namespace Go.Proofs.YtfmkodmmbgibgaaGreatDoor
open Go.RowKit M
def inI (n : Int) : Prop := -9223372036854775808 ≤ n ∧ n ≤ 9223372036854775807
theorem nDigits_le : ∀ (k u : Nat), u < 10 ^ (k + 1) → Lib.nDigits u ≤ k + 1
  | 0, u, h => by rw [Lib.nDigits_small (by simpa using h)]; exact Nat.le_refl _
  | k + 1, u, h => by
    by_cases hu : u < 10
    · rw [Lib.nDigits_small hu]; omega
    · rw [Lib.nDigits_big hu]
      have := nDigits_le k (u / 10) (by rw [Nat.pow_succ] at h; omega)
      omega
theorem decDigits_digit (u : Nat) : ∀ b ∈ Lib.decDigits u, 48 ≤ b.toNat ∧ b.toNat ≤ 57 := by
  induction u using Nat.strongRecOn with
  | _ u ih =>
    rw [Lib.decDigits]
    split
    · rename_i h
      intro b hb
      simp only [List.mem_singleton] at hb
      subst hb
      have : (UInt8.ofNat (48 + u)).toNat = 48 + u := by simp; omega
      omega
    · rename_i h
      intro b hb
      rcases List.mem_append.1 hb with hb | hb
      · exact ih (u / 10) (by omega) b hb
      · simp only [List.mem_singleton] at hb
        subst hb
        have : (UInt8.ofNat (48 + u % 10)).toNat = 48 + u % 10 := by simp; omega
        omega
theorem decDigits_ne (u : Nat) : Lib.decDigits u ≠ [] := by
  rw [Lib.decDigits]; split <;> simp
theorem parse_append : ∀ (l r : Bs) (a : Nat), Lib.parseUint10 a (l ++ r) = match Lib.parseUint10 a l with | .ok v => Lib.parseUint10 v r | .«syntax» => .«syntax» | .range => .range
  | [], r, a => by simp [Lib.parseUint10]
  | c :: l, r, a => by
    simp only [List.cons_append, Lib.parseUint10]
    split
    · split
      · rfl
      · split
        · rfl
        · exact parse_append l r _
    · rfl
theorem parse_digits (u : Nat) (h : u < 18446744073709551616) : Lib.parseUint10 0 (Lib.decDigits u) = .ok u := by
  induction u using Nat.strongRecOn with
  | _ u ih =>
    rw [Lib.decDigits]
    split
    · rename_i hu
      have e : (UInt8.ofNat (48 + u)).toNat = 48 + u := by simp; omega
      simp only [Lib.parseUint10, e]
      rw [if_pos (by omega), if_neg (by omega), if_neg (by omega)]
      congr 1; omega
    · rename_i hu
      rw [parse_append, ih (u / 10) (by omega) (by omega)]
      have e : (UInt8.ofNat (48 + u % 10)).toNat = 48 + u % 10 := by simp; omega
      simp only [Lib.parseUint10, e]
      rw [if_pos (by omega), if_neg (by omega), if_neg (by omega)]
      congr 1; omega
theorem parseMag_digits (u : Nat) (h : u < 18446744073709551616) : Lib.parseMag (Lib.decDigits u) = .ok u := by
  rw [Lib.parseMag, if_neg (decDigits_ne u), parse_digits u h]
theorem atoi_itoa {n : Int} (h : inI n) : Lib.atoiAll (Lib.itoa n) = .ok n := by
  obtain ⟨h0, h1⟩ := h
  by_cases hn : n < 0
  · obtain ⟨u, rfl⟩ : ∃ u : Nat, n = -(u : Int) := ⟨n.natAbs, by omega⟩
    rw [Lib.itoa_neg u (by omega)]
    have e45 : (45 : UInt8).toNat = 45 := rfl
    simp only [Lib.atoiAll, e45]
    simp only [or_true, if_true, parseMag_digits u (show u < 18446744073709551616 by omega), not_true, false_and, if_false, true_and]
    rw [if_neg (by omega)]
  · obtain ⟨u, rfl⟩ : ∃ u : Nat, n = u := ⟨n.toNat, by omega⟩
    rw [Lib.itoa_nonneg]
    cases hd : Lib.decDigits u with
    | nil => exact absurd hd (decDigits_ne u)
    | cons c r =>
      have hc := decDigits_digit u c (by rw [hd]; simp)
      simp only [Lib.atoiAll]
      rw [if_neg (by omega), ← hd, parseMag_digits u (by omega)]
      simp only [show (c.toNat = 45) = False from by simp; omega, not_false_eq_true, true_and, false_and, if_false]
      rw [if_neg (by omega)]
theorem atoi_in {l : Bs} {n : Int} (h : Lib.atoiAll l = .ok n) : inI n := by
  cases l with
  | nil => simp [Lib.atoiAll] at h
  | cons c r =>
    simp only [Lib.atoiAll] at h
    split at h
    · cases h
    · cases h
    · rename_i u hu
      split at h
      · cases h
      split at h
      · cases h
      have hlt := Lib.parseMag_lt hu
      injection h with h
      subst h
      unfold inI
      split <;> omega
theorem itoa_len {n : Int} (h : inI n) : (Lib.itoa n).length ≤ 20 ∧ 1 ≤ (Lib.itoa n).length := by
  obtain ⟨h0, h1⟩ := h
  by_cases hn : n < 0
  · obtain ⟨u, rfl⟩ : ∃ u : Nat, n = -(u : Int) := ⟨n.natAbs, by omega⟩
    rw [Lib.itoa_neg u (by omega), List.length_cons, Lib.decDigits_length]
    have := nDigits_le 18 u (by simp; omega)
    omega
  · obtain ⟨u, rfl⟩ : ∃ u : Nat, n = u := ⟨n.toNat, by omega⟩
    rw [Lib.itoa_nonneg, Lib.decDigits_length]
    have := nDigits_le 18 u (by simp; omega)
    have := Lib.nDigits_pos u
    omega
theorem itoa_byte {n : Int} : ∀ b ∈ Lib.itoa n, b.toNat ≤ 57 := by
  intro b hb
  by_cases hn : n < 0
  · obtain ⟨u, rfl⟩ : ∃ u : Nat, n = -(u : Int) := ⟨n.natAbs, by omega⟩
    rw [Lib.itoa_neg u (by omega)] at hb
    rcases List.mem_cons.1 hb with rfl | hb
    · decide
    · exact (decDigits_digit u b hb).2
  · obtain ⟨u, rfl⟩ : ∃ u : Nat, n = u := ⟨n.toNat, by omega⟩
    rw [Lib.itoa_nonneg] at hb
    exact (decDigits_digit u b hb).2
theorem indexByte_app {e : UInt8} : ∀ (l r : Bs), e ∉ l → Lib.indexByte (l ++ e :: r) e = (l.length : Int)
  | [], r, _ => by simp [Lib.indexByte]
  | b :: l, r, h => by
    have hb : ¬ b = e := fun q => h (by simp [q])
    have := indexByte_app (e := e) l r (fun q => h (List.mem_cons_of_mem _ q))
    simp only [List.cons_append, Lib.indexByte, this]
    rw [if_neg (by simpa using hb), if_neg (by simp)]
    simp
/-- what 'number' reads: the number and the rest -/
def numP (e : UInt8) (least : Int) (rest : Bs) : Option (Int × Bs) :=
  if Lib.indexByte (rest.take 21) e < 0 then none
  else match Lib.atoiAll ((rest.take 21).take (Lib.indexByte (rest.take 21) e).toNat) with
    | .ok n => if Lib.itoa n = (rest.take 21).take (Lib.indexByte (rest.take 21) e).toNat ∧ least ≤ n then some (n, rest.drop ((Lib.indexByte (rest.take 21) e).toNat + 1)) else none
    | _ => none
theorem numP_enc {e : UInt8} {least n : Int} {r : Bs} (he : 57 < e.toNat) (hn : inI n) (hl : least ≤ n) : numP e least (Lib.itoa n ++ e :: r) = some (n, r) := by
  have hlen := itoa_len hn
  have hmem : e ∉ Lib.itoa n := fun q => by have := itoa_byte e q; omega
  have ht : (Lib.itoa n ++ e :: r).take 21 = Lib.itoa n ++ e :: r.take (20 - (Lib.itoa n).length) := by
    rw [List.take_append, List.take_of_length_le (by omega), show 21 - (Lib.itoa n).length = (20 - (Lib.itoa n).length) + 1 by omega, List.take_succ_cons]
  have hi : Lib.indexByte ((Lib.itoa n ++ e :: r).take 21) e = ((Lib.itoa n).length : Int) := by rw [ht]; exact indexByte_app _ _ hmem
  have ht2 : ((Lib.itoa n ++ e :: r).take 21).take (Lib.itoa n).length = Lib.itoa n := by rw [ht, List.take_left']; rfl
  unfold numP
  rw [hi, if_neg (by omega)]
  rw [Int.toNat_natCast, ht2, atoi_itoa hn]
  dsimp only
  rw [if_pos ⟨rfl, hl⟩, List.drop_append, List.drop_eq_nil_of_le (by omega), show (Lib.itoa n).length + 1 - (Lib.itoa n).length = 1 by omega]
  rfl
theorem numP_some {e : UInt8} {least n : Int} {rest r : Bs} (h : numP e least rest = some (n, r)) : rest = Lib.itoa n ++ e :: r ∧ inI n ∧ least ≤ n := by
  unfold numP at h
  split at h
  · cases h
  · rename_i hneg
    split at h
    · rename_i m hm
      split at h
      · rename_i hc
        injection h with h
        injection h with h1 h2
        subst h1
        obtain ⟨o, ho⟩ : ∃ o : Nat, Lib.indexByte (rest.take 21) e = o := ⟨(Lib.indexByte (rest.take 21) e).toNat, by omega⟩
        rw [ho, Int.toNat_natCast] at hc h2 hm
        have h3 := (Lib.indexByte_some ho).1
        have h4 : o < 21 ∧ rest[o]? = some e := by
          have := (List.getElem?_eq_some_iff.1 h3).1
          simp at this
          rw [List.getElem?_take, if_pos (by omega)] at h3
          exact ⟨by omega, h3⟩
        refine ⟨?_, atoi_in hm, hc.2⟩
        rw [hc.1, ← h2, List.take_take, Nat.min_eq_left (by omega)]
        have h5 := (List.getElem?_eq_some_iff.1 h4.2)
        rw [← h5.2, List.getElem_cons_drop, List.take_append_drop]
      · cases h
    · cases h
section
variable {P : Program} {n : Nat} {ops : Array Oper} {Q : Exit → Act → World → Prop} {rest : List Oper} {L : Env} {w : World} {d : Nat} {ty : TypeId} {pos : String} {aft : Array Edge}
def isIface (P : Program) (t : Nat) : Bool := match P.underlying t with | some (.interface _) => true | _ => false
theorem ev_neqIfNil {x : Operand} {t t2 : TypeId} {v : Value} {g : Bool} (hu : isIface P t = true) (hv : (v = .nilIface ∧ g = false) ∨ ∃ a b, v = .iface a b ∧ g = true) (hx : M.look L x = some v) : Ev P L w ⟨some d, .binOp .neq t x (.const .nilIface) t2, ty, pos, aft, none⟩ (.bool g) := fun ρ hρ => by
  have hy : ρ (.const .nilIface) = .nilIface := hρ _ _ rfl
  unfold isIface at hu
  cases hq : P.underlying t with
  | none => rw [hq] at hu; cases hu
  | some dsc =>
    rw [hq] at hu
    cases dsc <;> simp at hu
    rcases hv with ⟨rfl, rfl⟩ | ⟨a, b, rfl, rfl⟩
    · have hr : (Op.equal t .nilIface .nilIface).run P w = .ok true w := by
        unfold Op.equal Op.maxDepth Op.equalIn
        simp only [Sem.run_bind, run_underlying hq, Result.andThen]
        rfl
      simp [execOp, hρ _ _ hx, hy, eqGuard, binOp, hr]
    · have hr : (Op.equal t (.iface a b) .nilIface).run P w = .ok false w := by
        unfold Op.equal Op.maxDepth Op.equalIn
        simp only [Sem.run_bind, run_underlying hq, Result.andThen]
        rfl
      simp [execOp, hρ _ _ hx, hy, eqGuard, binOp, hr]
end
end Go.Proofs.YtfmkodmmbgibgaaGreatDoor
