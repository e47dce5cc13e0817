/- procs, in plain data: what Get answers -/
import Derived.Test.YtcbdclhoekokpaaGreatDoorPd1
namespace Go.Proofs.YtcbdclhoekokpaaGreatDoor
open Go.RowKit M
set_option linter.unusedVariables false
theorem updC_self (c : Bs → Bs) (k v : Bs) : updC c k v k = v := by unfold updC; rw [if_pos rfl]
theorem updC_ne (c : Bs → Bs) {k j : Bs} (v : Bs) (h : j ≠ k) : updC c k v j = c j := by unfold updC; rw [if_neg h]
theorem valid_key {n : Int} (h : keyP n ≠ []) : 1 ≤ n ∧ n ≤ 999999 := Decidable.byContradiction fun q => h (keyP_nil.2 q)
theorem getW_some {W : WS} {pid : Int} {x : ProcD} (h : getW W pid = some x) : keyP pid ≠ [] ∧ decP (W.cells (keyP pid)) = some x ∧ hq x 0 = pid := by
  unfold getW at h
  split at h
  · cases h
  · rename_i hk
    cases hd : decP (W.cells (keyP pid)) with
    | none => rw [hd] at h; cases h
    | some y =>
      rw [hd] at h; dsimp only at h
      split at h
      · cases h; exact ⟨hk, rfl, by assumption⟩
      · cases h
theorem getW_of {W : WS} {x : ProcD} (hk : keyP (hq x 0) ≠ []) (hd : decP (W.cells (keyP (hq x 0))) = some x) : getW W (hq x 0) = some x := by
  unfold getW; rw [if_neg hk, hd]; dsimp only; rw [if_pos rfl]
theorem getW_bad {W : WS} {pid : Int} (h : keyP pid = []) : getW W pid = none := by unfold getW; rw [if_pos h]
theorem getW_same {W V : WS} {pid : Int} (h : W.cells (keyP pid) = V.cells (keyP pid)) : getW W pid = getW V pid := by unfold getW; rw [h]
theorem getW_wf {W : WS} (hB : TB W) {pid : Int} {x : ProcD} (h : getW W pid = some x) : WFR x ∧ (encR x).length ≤ 1000000 := by
  obtain ⟨_, h2, _⟩ := getW_some h
  obtain ⟨h3, h4⟩ := dec_some h2
  exact ⟨h3, by rw [h4]; exact hB _⟩
theorem getW_put {W : WS} {x : ProcD} (hw : WFR x) (hl : (encR x).length ≤ 1000000) (pid : Int) : getW (putW W x) pid = if keyP (hq x 0) ≠ [] ∧ pid = hq x 0 then some x else getW W pid := by
  unfold putW
  by_cases hk : keyP (hq x 0) = []
  · rw [if_pos hk, if_neg (fun q => q.1 hk)]
  · rw [if_neg hk]
    by_cases e : pid = hq x 0
    · subst e
      rw [if_pos ⟨hk, rfl⟩]
      refine getW_of hk ?_
      show decP (updC W.cells _ _ _) = _
      rw [updC_self]; exact dec_enc hw hl
    · rw [if_neg (fun q => e q.2)]
      by_cases hp : keyP pid = []
      · rw [getW_bad hp, getW_bad hp]
      · refine getW_same ?_
        show updC W.cells _ _ _ = _
        exact updC_ne _ _ fun q => e (keyP_inj (valid_key hp) (valid_key hk) q)
theorem getW_rm {W : WS} {n : Int} (pid : Int) : getW (rmW W n) pid = if pid = n then none else getW W pid := by
  unfold rmW
  by_cases hk : keyP n = []
  · rw [if_pos hk]
    split
    · rename_i e; subst e; exact getW_bad hk
    · rfl
  · rw [if_neg hk]
    by_cases e : pid = n
    · subst e
      rw [if_pos rfl]
      unfold getW
      rw [if_neg hk, show (putS W (keyP pid) []).cells (keyP pid) = [] from updC_self _ _ _, dec_nil]
    · rw [if_neg e]
      by_cases hp : keyP pid = []
      · rw [getW_bad hp, getW_bad hp]
      · refine getW_same ?_
        show updC W.cells _ _ _ = _
        exact updC_ne _ _ fun q => e (keyP_inj (valid_key hp) (valid_key hk) q)
theorem mem_recs {W : WS} {pr : ProcD → Bool} {kl : List Bs} (h : KeysOf W.cells [80, 47] kl) {x : ProcD} : x ∈ recsF W pr kl ↔ pr x = true ∧ getW W (hq x 0) = some x := by
  constructor
  · intro hx
    obtain ⟨h1, h2, h3⟩ := recs_mem hx
    have hv := recs_valid hx fun k hk => ((keysOf_in h k).1 hk).2
    exact ⟨h1, getW_of (fun q => (keyP_nil.1 q) hv) h3⟩
  · rintro ⟨h1, h2⟩
    obtain ⟨h3, h4, _⟩ := getW_some h2
    have hc : W.cells (keyP (hq x 0)) ≠ [] := fun q => by rw [q, dec_nil] at h4; cases h4
    have hin := (keysOf_in h (keyP (hq x 0))).2 ⟨hc, keyP_pre (valid_key h3)⟩
    unfold recsF
    refine List.mem_filter.2 ⟨List.mem_filterMap.2 ⟨_, hin, ?_⟩, h1⟩
    unfold recF; rw [h4]; dsimp only; rw [if_pos rfl]
theorem mem_pids {W : WS} {pr : ProcD → Bool} {kl : List Bs} (h : KeysOf W.cells [80, 47] kl) {n : Int} : n ∈ pidsF W pr kl ↔ ∃ x, getW W n = some x ∧ pr x = true := by
  unfold pidsF
  constructor
  · intro hn
    obtain ⟨x, hx, rfl⟩ := List.mem_map.1 hn
    obtain ⟨h1, h2⟩ := (mem_recs h).1 hx
    exact ⟨x, h2, h1⟩
  · rintro ⟨x, h1, h2⟩
    obtain ⟨_, _, rfl⟩ := getW_some h1
    exact List.mem_map.2 ⟨x, (mem_recs h).2 ⟨h2, h1⟩, rfl⟩
theorem asc_uniq : ∀ {l m : List Int}, l.Pairwise (· < ·) → m.Pairwise (· < ·) → (∀ n, n ∈ l ↔ n ∈ m) → l = m
  | [], [], _, _, _ => rfl
  | [], b :: m, _, _, h => by have := (h b).2 (by simp); simp at this
  | a :: l, [], _, _, h => by have := (h a).1 (by simp); simp at this
  | a :: l, b :: m, hl, hm, h => by
    obtain ⟨hl1, hl2⟩ := List.pairwise_cons.1 hl
    obtain ⟨hm1, hm2⟩ := List.pairwise_cons.1 hm
    have e : a = b := by
      have h1 := (h a).1 (by simp)
      have h2 := (h b).2 (by simp)
      rcases List.mem_cons.1 h1 with q | q
      · exact q
      · rcases List.mem_cons.1 h2 with r | r
        · exact r.symm
        · have := hm1 a q; have := hl1 b r; omega
    subst e
    rw [asc_uniq hl2 hm2 fun n => ?_]
    constructor
    · intro q
      have h1 := hl1 n q
      rcases List.mem_cons.1 ((h n).1 (by simp [q])) with r | r
      · omega
      · exact r
    · intro q
      have h1 := hm1 n q
      rcases List.mem_cons.1 ((h n).2 (by simp [q])) with r | r
      · omega
      · exact r
/-- Reparent -/
theorem getW_repF {W : WS} {x : ProcD} (hw : WFR x) (hl : (encR x).length ≤ 1000000) (hk : keyP (hq x 0) ≠ []) (pid : Int) : getW (repF W x) pid = if pid = hq x 0 then (if hq x 5 = 3 then none else some (setPar x)) else getW W pid := by
  unfold repF
  by_cases h3 : hq x 5 = 3
  · rw [if_pos h3, getW_rm]; simp [h3]
  · have e0 : hq (setPar x) 0 = hq x 0 := by rw [hq_setPar hw]; rfl
    rw [if_neg h3, getW_put (wfr_setPar hw) (Nat.le_trans (len_setPar hw) hl), e0]
    by_cases e : pid = hq x 0
    · rw [if_pos ⟨hk, e⟩, if_pos e, if_neg h3]
    · rw [if_neg (fun q => e q.2), if_neg e]
def RecOk (x : ProcD) : Prop := WFR x ∧ (encR x).length ≤ 1000000 ∧ keyP (hq x 0) ≠ []
theorem getW_repW_no : ∀ {l : List ProcD} {W : WS} {pid : Int}, (∀ x ∈ l, RecOk x) → (∀ x ∈ l, hq x 0 ≠ pid) → getW (repW W l) pid = getW W pid
  | [], _, _, _, _ => rfl
  | x :: l, W, pid, h, hn => by
    have ih := getW_repW_no (l := l) (W := repF W x) (pid := pid) (fun y hy => h y (by simp [hy])) (fun y hy => hn y (by simp [hy]))
    show getW (repW (repF W x) l) pid = _
    obtain ⟨h1, h2, h3⟩ := h x (by simp)
    rw [ih, getW_repF h1 h2 h3, if_neg (fun q => hn x (by simp) q.symm)]
theorem getW_repW_in : ∀ {l : List ProcD} {W : WS} {x : ProcD}, (∀ x ∈ l, RecOk x) → l.Pairwise (fun x y => hq x 0 < hq y 0) → x ∈ l → getW (repW W l) (hq x 0) = if hq x 5 = 3 then none else some (setPar x)
  | y :: l, W, x, h, hp, hx => by
    obtain ⟨hp1, hp2⟩ := List.pairwise_cons.1 hp
    show getW (repW (repF W y) l) _ = _
    rcases List.mem_cons.1 hx with rfl | q
    · rw [getW_repW_no (fun z hz => h z (by simp [hz])) (fun z hz e => by have := hp1 z hz; omega)]
      obtain ⟨h1, h2, h3⟩ := h x (by simp)
      rw [getW_repF h1 h2 h3, if_pos rfl]
    · exact getW_repW_in (fun z hz => h z (by simp [hz])) hp2 q
noncomputable def repG (par : Int) (o : Option ProcD) : Option ProcD := match o with
  | none => none
  | some x => if par ≠ 1 ∧ hq x 1 = par then (if hq x 5 = 3 then none else some (setPar x)) else some x
theorem recs_ok {W : WS} (hB : TB W) {pr : ProcD → Bool} {kl : List Bs} (h : KeysOf W.cells [80, 47] kl) : ∀ x ∈ recsF W pr kl, RecOk x := fun x hx => by
  obtain ⟨_, h2⟩ := (mem_recs h).1 hx
  obtain ⟨h3, h4⟩ := getW_wf hB h2
  exact ⟨h3, h4, (getW_some h2).1⟩
theorem rep_get {W W' : WS} (hB : TB W) {par : Int} (h : RepP W par W') (pid : Int) : getW W' pid = repG par (getW W pid) := by
  unfold repG
  rcases h with ⟨rfl, rfl⟩ | ⟨hp, kl, hk, rfl⟩
  · cases getW W' pid with
    | none => rfl
    | some x => simp
  · cases hx : getW W pid with
    | none =>
      dsimp only
      rw [getW_repW_no (recs_ok hB hk) fun x hx2 e => ?_, hx]
      rw [← e, ((mem_recs hk).1 hx2).2] at hx; cases hx
    | some x =>
      dsimp only
      obtain ⟨_, _, e⟩ := getW_some hx
      by_cases hpar : hq x 1 = par
      · rw [if_pos ⟨hp, hpar⟩, ← e]
        exact getW_repW_in (recs_ok hB hk) (recs_asc hk) ((mem_recs hk).2 ⟨by simpa using hpar, by rw [e]; exact hx⟩)
      · rw [if_neg (fun q => hpar q.2), getW_repW_no (recs_ok hB hk) fun y hy e2 => ?_, hx]
        obtain ⟨h1, h2⟩ := (mem_recs hk).1 hy
        rw [e2, hx] at h2; cases h2
        exact hpar (by simpa using h1)
/-- what stays -/
structure PInv (W : WS) (n : Nat) : Prop where
  tb : TB W
  few : ∃ ks : List Bs, ks.length ≤ n ∧ ∀ k, W.cells k ≠ [] → k ∈ ks
  short : ∀ k, W.cells k ≠ [] → k.length ≤ 1000
theorem PInv.keys {W : WS} {n : Nat} (h : PInv W n) (hn : n ≤ 1000000) : KeysIn W.cells 1000000 := ⟨let ⟨ks, h1, h2⟩ := h.few; ⟨ks, by omega, h2⟩, h.short⟩
theorem PInv.empty : PInv emptyW 0 := ⟨TB.empty, ⟨[], by simp, fun k h => absurd rfl h⟩, fun k h => absurd rfl h⟩
theorem PInv.mono {W : WS} {n m : Nat} (h : PInv W n) (hm : n ≤ m) : PInv W m := ⟨h.tb, let ⟨ks, h1, h2⟩ := h.few; ⟨ks, by omega, h2⟩, h.short⟩
theorem PInv.putS {W : WS} {n : Nat} (h : PInv W n) {k v : Bs} (hk : k.length ≤ 1000) (hv : v.length ≤ 1000000) : PInv (putS W k v) (n + 1) := by
  obtain ⟨ks, h1, h2⟩ := h.few
  have hc : ∀ j, (Go.Proofs.YtcbdclhoekokpaaGreatDoor.putS W k v).cells j ≠ [] → j = k ∨ W.cells j ≠ [] := fun j hj => by
    by_cases e : j = k
    · exact .inl e
    · refine .inr fun q => hj ?_
      rw [show (Go.Proofs.YtcbdclhoekokpaaGreatDoor.putS W k v).cells j = W.cells j from updC_ne _ _ e, q]
  refine ⟨h.tb.put hv, ⟨k :: ks, by simp; omega, fun j hj => ?_⟩, fun j hj => ?_⟩
  · rcases hc j hj with q | q
    · simp [q]
    · simp [h2 j q]
  · rcases hc j hj with q | q
    · rw [q]; exact hk
    · exact h.short j q
theorem PInv.put {W : WS} {n : Nat} (h : PInv W n) {x : ProcD} (hl : (encR x).length ≤ 1000000) : PInv (putW W x) (n + 1) := by
  unfold putW; split
  · exact h.mono (by omega)
  · exact h.putS (by have := keyP_len (hq x 0); omega) hl
theorem PInv.rm {W : WS} {n : Nat} (h : PInv W n) (pid : Int) : PInv (rmW W pid) (n + 1) := by
  unfold rmW; split
  · exact h.mono (by omega)
  · exact h.putS (by have := keyP_len pid; omega) (by simp)
theorem PInv.sub {W V : WS} {n : Nat} (h : PInv W n) (hB : TB V) (hc : ∀ k, V.cells k ≠ [] → W.cells k ≠ []) : PInv V n := ⟨hB, let ⟨ks, h1, h2⟩ := h.few; ⟨ks, h1, fun k hk => h2 k (hc k hk)⟩, fun k hk => h.short k (hc k hk)⟩
theorem repF_cells {W : WS} {x : ProcD} {k : Bs} (h : (repF W x).cells k ≠ []) : k = keyP (hq x 0) ∨ k = keyP (hq (setPar x) 0) ∨ W.cells k ≠ [] := by
  unfold repF rmW putW at h
  by_cases e : k = keyP (hq x 0)
  · exact .inl e
  · by_cases e2 : k = keyP (hq (setPar x) 0)
    · exact .inr (.inl e2)
    · refine .inr (.inr fun q => h ?_)
      split
      · split
        · exact q
        · rw [show (putS W (keyP (hq x 0)) []).cells k = W.cells k from updC_ne _ _ e, q]
      · split
        · exact q
        · rw [show (putS W (keyP (hq (setPar x) 0)) (encR (setPar x))).cells k = W.cells k from updC_ne _ _ e2, q]
theorem repF_tb {W : WS} {x : ProcD} (hB : TB W) (hw : WFR x) (hl : (encR x).length ≤ 1000000) : TB (repF W x) := by
  unfold repF rmW putW
  split
  · split
    · exact hB
    · exact hB.put (by simp)
  · split
    · exact hB
    · exact hB.put (Nat.le_trans (len_setPar hw) hl)
theorem repW_inv {W0 : WS} {n : Nat} (h0 : PInv W0 n) : ∀ {l : List ProcD} {W : WS}, (∀ x ∈ l, WFR x ∧ (encR x).length ≤ 1000000 ∧ W0.cells (keyP (hq x 0)) ≠ []) → TB W → (∀ k, W.cells k ≠ [] → W0.cells k ≠ []) → PInv (repW W l) n
  | [], W, _, hB, hc => h0.sub hB hc
  | x :: l, W, h, hB, hc => by
    obtain ⟨h1, h2, h3⟩ := h x (by simp)
    refine repW_inv h0 (l := l) (W := repF W x) (fun y hy => h y (by simp [hy])) (repF_tb hB h1 h2) fun k hk => ?_
    rcases repF_cells hk with q | q | q
    · rw [q]; exact h3
    · rw [q, hq_setPar h1]; exact h3
    · exact hc k q
theorem PInv.rep {W W' : WS} {n : Nat} {par : Int} (h : PInv W n) (hr : RepP W par W') : PInv W' n := by
  rcases hr with ⟨_, rfl⟩ | ⟨_, kl, hk, rfl⟩
  · exact h
  · refine repW_inv h (fun x hx => ?_) h.tb fun k hk => hk
    obtain ⟨_, h2⟩ := (mem_recs hk).1 hx
    obtain ⟨h3, h4⟩ := getW_wf h.tb h2
    obtain ⟨_, h5, _⟩ := getW_some h2
    exact ⟨h3, h4, fun q => by rw [q, dec_nil] at h5; cases h5⟩
/-- records that came as arguments -/
structure Wf0 (x : ProcD) : Prop where
  hl : x.hs.length = 19
  hi : ∀ n ∈ x.hs, inI n
  tl : x.ts.length = 38
  ti : ∀ n ∈ x.ts, inI n
  fl : flagsOk x.ts = true
  ar : ∀ y ∈ x.ar, inI y.a ∧ inI y.n ∧ inI y.f
structure Light (x : ProcD) : Prop where
  ar : ∀ y ∈ x.ar, y.o.length ≤ 100
  fd : ∀ s ∈ x.fds, s.length ≤ 100
  al : x.ar.length ≤ 20
  fl : x.fds.length ≤ 20
  cwd : x.cwd.length ≤ 100
  shl : x.shl.length ≤ 100
theorem Light.wfr {x : ProcD} (h : Light x) (g : Wf0 x) : WFR x where
  hl := g.hl
  hi := g.hi
  tl := g.tl
  ti := g.ti
  fl := g.fl
  ar := fun y hy => ⟨(g.ar y hy).1, (g.ar y hy).2.1, (g.ar y hy).2.2, by have := h.ar y hy; omega⟩
  al := by have := h.al; omega
  fd := fun s hs => by have := h.fd s hs; omega
  fdl := by have := h.fl; omega
  cwd := by have := h.cwd; omega
  shl := by have := h.shl; omega
theorem flat_len {α : Type} {f : α → Bs} {l : List α} {n : Nat} (h : ∀ x ∈ l, (f x).length ≤ n) : (l.flatMap f).length ≤ l.length * n := by
  induction l with
  | nil => simp
  | cons x l ih =>
    rw [List.flatMap_cons, List.length_append, List.length_cons, Nat.add_mul]
    have h1 := h x (by simp)
    have h2 := ih fun y hy => h y (by simp [hy])
    omega
theorem Light.len {x : ProcD} (h : Light x) (g : Wf0 x) : (encR x).length ≤ 100000 := by
  have h1 := encIs_len g.hi
  have h2 := encIs_len g.ti
  have h3 : (encN (x.ar.length : Int)).length ≤ 30 := encN_len (by have := h.al; unfold inI; omega)
  have h4 : (x.ar.flatMap encAr).length ≤ x.ar.length * 400 := flat_len fun y hy => by
    obtain ⟨q1, q2, q3⟩ := g.ar y hy
    have a1 := encN_len q1
    have a2 := encN_len q2
    have a3 := encN_len q3
    have a4 := encT_len (s := y.o) (by have := h.ar y hy; omega)
    have a5 : ∀ b : Bool, (encN (bitN b)).length ≤ 30 := fun b => encN_len (by unfold bitN inI; split <;> omega)
    have a6 := a5 y.sh
    have a7 := a5 y.wr
    have a8 := h.ar y hy
    unfold encAr
    simp only [List.length_append]; omega
  have h5 : (x.fds.flatMap encT).length ≤ x.fds.length * 140 := flat_len fun s hs => by
    have a1 := h.fd s hs
    have a2 := encT_len (s := s) (by omega)
    omega
  have h6 := encT_len (s := x.cwd) (by have := h.cwd; omega)
  have h7 := encT_len (s := x.shl) (by have := h.shl; omega)
  have h8 := (itoa_len (n := (x.fds.length : Int)) (by have := h.fl; unfold inI; omega)).1
  have h9 : (encTs x.fds).length ≤ 3000 := by
    have := h.fl
    have h10 : x.fds.length * 140 ≤ 20 * 140 := Nat.mul_le_mul_right _ this
    unfold encTs
    simp only [List.length_append, List.length_cons, List.length_nil]; omega
  have h10 : x.ar.length * 400 ≤ 20 * 400 := Nat.mul_le_mul_right _ h.al
  have h11 := h.cwd
  have h12 := h.shl
  rw [g.hl] at h1
  rw [g.tl] at h2
  rw [encR_len]; omega
end Go.Proofs.YtcbdclhoekokpaaGreatDoor
