/- leaves: merged, plain -/
import Derived.Test.YtkcjfoaejijdoaaGreatDoorLv15
namespace Go.Proofs.YtkcjfoaejijdoaaGreatDoor
open Go.RowKit M
set_option linter.unusedVariables false
/-- a page with the bytes of a set out of another one -/
def U6 (now own : Bs) (wr : BitVec 64) : Bs := (List.range 64).map fun j => if wr.getLsbD j = true then own.getD j 0 else now.getD j 0
def MgI (now own r : Bs) (wr : BitVec 64) (i : Nat) : Prop := r.length = 64 ∧ ∀ j, j < 64 → r[j]? = if j < i ∧ wr.getLsbD j = true then own[j]? else now[j]?
theorem MgI.start {now own : Bs} {wr : BitVec 64} (h : now.length = 64) : MgI now own now wr 0 := ⟨h, fun j _ => by rw [if_neg (by omega)]⟩
theorem MgI.T {now own r : Bs} {wr : BitVec 64} {i : Nat} {c : UInt8} (h : MgI now own r wr i) (hi : i < 64) (hw : wr.getLsbD i = true) (hc : own[i]? = some c) : MgI now own (r.set i c) wr (i + 1) := by
  refine ⟨by rw [List.length_set]; exact h.1, fun j hj => ?_⟩
  by_cases e : j = i
  · subst e
    rw [List.getElem?_set_self (by rw [h.1]; omega), if_pos ⟨by omega, hw⟩, hc]
  · rw [List.getElem?_set_ne (fun q => e q.symm), h.2 j hj]
    by_cases q : j < i ∧ wr.getLsbD j = true
    · rw [if_pos q, if_pos ⟨by omega, q.2⟩]
    · rw [if_neg q, if_neg fun a => q ⟨by omega, a.2⟩]
theorem MgI.F {now own r : Bs} {wr : BitVec 64} {i : Nat} (h : MgI now own r wr i) (hw : wr.getLsbD i = false) : MgI now own r wr (i + 1) := by
  refine ⟨h.1, fun j hj => ?_⟩
  rw [h.2 j hj]
  by_cases q : j < i ∧ wr.getLsbD j = true
  · rw [if_pos q, if_pos ⟨by omega, q.2⟩]
  · rw [if_neg q, if_neg fun a => q ⟨by
      have : j ≠ i := fun e => by subst e; rw [hw] at a; simp at a
      omega, a.2⟩]
theorem getD_some {l : Bs} {j : Nat} (h : j < l.length) : l[j]? = some (l.getD j 0) := by simp [List.getD, h]
theorem MgI.fin {now own r : Bs} {wr : BitVec 64} (h : MgI now own r wr 64) (hn : now.length = 64) (ho : own.length = 64) : r = U6 now own wr := by
  apply List.ext_getElem?
  intro j
  by_cases hj : j < 64
  · rw [h.2 j hj]
    unfold U6
    rw [List.getElem?_map, List.getElem?_range hj]
    simp only [Option.map_some]
    split
    · rename_i q; rw [if_pos q.2, getD_some (by omega)]
    · rename_i q; rw [if_neg fun a => q ⟨hj, a⟩, getD_some (by omega)]
  · rw [List.getElem?_eq_none (by rw [h.1]; omega), List.getElem?_eq_none (by simp [U6]; omega)]
theorem Ul {now own : Bs} {wr : BitVec 64} : (U6 now own wr).length = 64 := by simp [U6]
def U5 (L : LvD) (t : TrD) (k : KD) (x : LfD) : Prop := x.wr ≠ 0#64 ∧ x.wr ≠ BitVec.allOnes 64 ∧ Xo L t.parent k ≠ x.base
open Classical in
noncomputable def Ji (t : TrD) (l : List KD) : Nat := (l.filter fun k => decide (∃ x, t.lv k = some x ∧ x.wr ≠ 0#64 ∧ x.wr ≠ BitVec.allOnes 64)).length
def Y8 (made : KD → Option Int) : KD → Int := fun k => (made k).getD 0
/-- the sheets that are made, with the references that nobody else holds -/
structure MdI (m : Nat) (L : LvD) (V V1 : VS) (t : TrD) (ex : Int → Int) (made : KD → Option Int) (l : List KD) : Prop where
  inv : LvX ex m L V1
  ab : Q5 L V1 = Q5 L V
  pg : ∀ s, XH V s → XM V1 s = XM V s
  av : ∀ s, XH V s → XH V1 s
  mx : ∀ j, j ≠ 0 → ∃ n : Nat, MO (Y8 made) j n ∧ ex j = n
  dom : ∀ k, made k ≠ none ↔ k ∈ l ∧ ∃ x, t.lv k = some x ∧ U5 L t k x
  con : ∀ k s x, made k = some s → t.lv k = some x → XM V1 s = U6 (XM V (Xo L t.parent k)) (XM V x.own) x.wr
  al : ∀ c, AliveLe V c → AliveLe V1 (c + Ji t l)
theorem Rr {κ : Type} {j : Int} (h : j ≠ 0) : MO (fun _ : κ => 0) j 0 := ⟨[], List.nodup_nil, fun p => by simp; omega, rfl⟩
theorem MdI.start {m : Nat} {L : LvD} {V : VS} {t : TrD} (h : LvI m L V) : MdI m L V V t (fun _ => 0) (fun _ => none) [] :=
  ⟨h, rfl, fun _ _ => rfl, fun _ q => q, fun j hj => ⟨0, Rr hj, rfl⟩, fun k => by simp, (fun k s x q => by cases q), fun c q => q⟩
theorem MdI.nn {m : Nat} {L : LvD} {V V1 : VS} {t : TrD} {ex : Int → Int} {made : KD → Option Int} {l : List KD} (h : MdI m L V V1 t ex made l) : NN ex := fun j hj => by
  obtain ⟨n, _, e⟩ := h.mx j hj
  rw [e]; omega
theorem MdI.ge {m : Nat} {L : LvD} {V V1 : VS} {t : TrD} {ex : Int → Int} {made : KD → Option Int} {l : List KD} (h : MdI m L V V1 t ex made l) {k : KD} {s : Int} (hk : made k = some s) (h0 : s ≠ 0) : 1 ≤ ex s := by
  obtain ⟨n, a, e⟩ := h.mx s h0
  have := Rq a (p := k) (by unfold Y8; rw [hk]; rfl)
  rw [e]; omega
theorem MdI.alive {m : Nat} {L : LvD} {V V1 : VS} {t : TrD} {ex : Int → Int} {made : KD → Option Int} {l : List KD} (h : MdI m L V V1 t ex made l) {k : KD} {s : Int} (hk : made k = some s) : XH V1 s := by
  by_cases h0 : s = 0
  · exact .inl h0
  · obtain ⟨n, a, b⟩ := h.inv.ref.1 s h0
    have := h.ge hk h0
    exact .inr (h.inv.ref.alive_of (by omega))
theorem PH {t : TrD} {l : List KD} {i : Nat} {k : KD} (hk : l[i]? = some k) : Ji t (l.take i) ≤ Ji t (l.take (i + 1)) := by
  unfold Ji
  rw [List.take_add_one, hk, List.filter_append, List.length_append]
  omega
theorem Nj {t : TrD} {l : List KD} {i : Nat} {k : KD} {x : LfD} (hk : l[i]? = some k) (hx : t.lv k = some x) (h1 : x.wr ≠ 0#64) (h2 : x.wr ≠ BitVec.allOnes 64) : Ji t (l.take (i + 1)) = Ji t (l.take i) + 1 := by
  unfold Ji
  rw [List.take_add_one, hk, List.filter_append, List.length_append]
  simp only [Option.toList_some]
  rw [List.filter_cons_of_pos (by simp; exact ⟨x, hx, h1, h2⟩)]
  rfl
theorem Um {l : List KD} {i : Nat} {k j : KD} (hk : l[i]? = some k) : j ∈ l.take (i + 1) ↔ j ∈ l.take i ∨ j = k := by
  rw [List.take_add_one, hk]; simp
theorem MdI.skip {m : Nat} {L : LvD} {V V1 : VS} {t : TrD} {ex : Int → Int} {made : KD → Option Int} {l : List KD} {i : Nat} {k : KD} {x : LfD} (h : MdI m L V V1 t ex made (l.take i)) (hk : l[i]? = some k) (hx : t.lv k = some x) (hn : ¬ U5 L t k x) : MdI m L V V1 t ex made (l.take (i + 1)) :=
  ⟨h.inv, h.ab, h.pg, h.av, h.mx, fun j => by
    rw [h.dom, Um hk]
    constructor
    · rintro ⟨a, b⟩; exact ⟨.inl a, b⟩
    · rintro ⟨a | rfl, y, hy, b⟩
      · exact ⟨a, y, hy, b⟩
      · rw [hx] at hy; cases hy; exact absurd b hn, h.con, fun c q => (h.al c q).mono (by have := PH (t := t) hk; omega)⟩
theorem mdF_up {made : KD → Option Int} {k : KD} {s : Int} : Y8 (Xj made k (some s)) = HW (Y8 made) k s := by
  funext j
  by_cases e : j = k
  · subst e; rw [X7]; unfold Y8; rw [Q3]; rfl
  · rw [XL e]; unfold Y8; rw [QI e]
theorem MdI.put {m : Nat} {L : LvD} {V V1 V2 : VS} {t : TrD} {ex ex2 : Int → Int} {made : KD → Option Int} {l : List KD} {i : Nat} {k : KD} {x : LfD} {s : Int} (h : MdI m L V V1 t ex made (l.take i)) (hk : l[i]? = some k) (hd : l.Nodup) (hx : t.lv k = some x) (hn : U5 L t k x)
    (h1 : LvX ex2 m L V2) (h2 : Q5 L V2 = Q5 L V) (h3 : ∀ j, XH V1 j → XM V2 j = XM V1 j ∧ XH V2 j) (h4 : ∀ j, j ≠ 0 → ex2 j = ex j + dl s j) (h5 : XM V2 s = U6 (XM V (Xo L t.parent k)) (XM V x.own) x.wr) (h6 : ∀ c, AliveLe V1 c → AliveLe V2 (c + 1)) :
    MdI m L V V2 t ex2 (Xj made k (some s)) (l.take (i + 1)) := by
  have hni := Ya hd hk
  have hm0 : made k = none := Classical.byContradiction fun q => hni ((h.dom k).1 q).1
  refine ⟨h1, h2, fun j hj => ((h3 j (h.av j hj)).1).trans (h.pg j hj), fun j hj => (h3 j (h.av j hj)).2, fun j hj => ?_, fun j => ?_, fun j u y hu hy => ?_, fun c q => (h6 _ (h.al c q)).mono (by rw [Nj hk hx hn.1 hn.2.1]; omega)⟩
  · obtain ⟨n, a, e⟩ := h.mx j hj
    rw [mdF_up]
    have hmk : Y8 made k = 0 := by unfold Y8; rw [hm0]; rfl
    by_cases q : j = s
    · subst q
      exact ⟨n + 1, SD (by rw [hmk]; omega) a, by rw [h4 j hj, ZE, e]; omega⟩
    · refine ⟨n, YY (fun p => ?_) a, by rw [h4 j hj, W2 q, e]; omega⟩
      by_cases e2 : p = k
      · subst e2; rw [X7, hmk]; exact ⟨fun a => absurd a.symm q, fun a => absurd a.symm hj⟩
      · rw [XL e2]
  · rw [Um hk]
    by_cases e : j = k
    · subst e; rw [Q3]; simp; exact ⟨x, hx, hn⟩
    · rw [QI e, h.dom]
      constructor
      · rintro ⟨a, b⟩; exact ⟨.inl a, b⟩
      · rintro ⟨a | a, b⟩
        · exact ⟨a, b⟩
        · exact absurd a e
  · by_cases e : j = k
    · subst e
      rw [Q3] at hu
      rw [hx] at hy
      cases hu; cases hy
      exact h5
    · rw [QI e] at hu
      rw [(h3 u (h.alive hu)).1]
      exact h.con j u y hu hy
theorem MdI.zero {m : Nat} {L : LvD} {V V1 : VS} {t : TrD} {ex : Int → Int} {made : KD → Option Int} {l : List KD} {i : Nat} {k : KD} {x : LfD} {pg : Bs} (h : MdI m L V V1 t ex made (l.take i)) (hk : l[i]? = some k) (hd : l.Nodup) (hx : t.lv k = some x) (hn : U5 L t k x)
    (hz : pg = zer) (hp : pg = U6 (XM V (Xo L t.parent k)) (XM V x.own) x.wr) : MdI m L V V1 t ex (Xj made k (some 0)) (l.take (i + 1)) :=
  h.put hk hd hx hn h.inv h.ab (fun j hj => ⟨rfl, hj⟩) (fun j hj => by rw [W2 hj]; omega) (by rw [WP h.inv.zero, ← hz, hp]) (fun c q => q.mono (by omega))
theorem MdI.fresh {m : Nat} {L : LvD} {V V1 : VS} {t : TrD} {ex : Int → Int} {made : KD → Option Int} {l : List KD} {i : Nat} {k : KD} {x : LfD} {pg : Bs} {s : Int} (h : MdI m L V V1 t ex made (l.take i)) (hk : l[i]? = some k) (hd : l.Nodup) (hx : t.lv k = some x) (hn : U5 L t k x)
    (hs : 1 ≤ s) (hv : V1 s = none) (hp : pg = U6 (XM V (Xo L t.parent k)) (XM V x.own) x.wr) : MdI m L V (Xj V1 s (some (1, pg))) t (fun j => ex j + dl s j) (Xj made k (some s)) (l.take (i + 1)) := by
  have hl : pg.length = 64 := by rw [hp]; exact Ul
  have hne : ∀ j, XH V1 j → j ≠ s := fun j hj e => by
    subst e
    rcases hj with e | e
    · omega
    · exact e hv
  have e1 : Q5 L (Xj V1 s (some (1, pg))) = Q5 L V1 := Hy fun p => Uj (hne _ (h.inv.aliveX h.nn p))
  refine h.put hk hd hx hn ⟨h.inv.ref.fresh hv hs hl, h.inv.rank, by rw [e1]; exact h.inv.agree⟩ (e1.trans h.ab) (fun j hj => ⟨Uj (hne j hj), ?_⟩) (fun _ _ => rfl) (by rw [WQ Q3]; exact hp) (fun c q => q.put)
  rcases hj with e | e
  · exact .inl e
  · refine .inr ?_; rw [QI (hne j (.inr e))]; exact e
/-- while what was made is given up -/
structure UnI (m : Nat) (L : LvD) (V V1 : VS) (made : KD → Option Int) (l : List KD) (ex : Int → Int) : Prop where
  inv : LvX ex m L V1
  ab : Q5 L V1 = Q5 L V
  mx : ∀ j, j ≠ 0 → ∃ n : Nat, MO (ZU (fun k => k ∈ l) 0 (Y8 made)) j n ∧ ex j = n
  al : ∀ c, AliveLe V c → AliveLe V1 c
theorem UnI.nn {m : Nat} {L : LvD} {V V1 : VS} {ex : Int → Int} {made : KD → Option Int} {l : List KD} (h : UnI m L V V1 made l ex) : NN ex := fun j hj => by
  obtain ⟨n, _, e⟩ := h.mx j hj
  rw [e]; omega
theorem UnI.step {m : Nat} {L : LvD} {V V1 : VS} {ex : Int → Int} {made : KD → Option Int} {l : List KD} {i : Nat} {k : KD} (h : UnI m L V V1 made (l.take i) ex) (hk : l[i]? = some k) (hd : l.Nodup) :
    UnI m L V (Zg V1 (Y8 made k)) made (l.take (i + 1)) (fun j => ex j - dl (Y8 made k) j) := by
  have hni := Ya hd hk
  have hz : ZU (fun k => k ∈ l.take i) 0 (Y8 made) k = Y8 made k := by unfold ZU; rw [if_neg hni]
  obtain ⟨h1, h2⟩ := h.inv.unr (s := Y8 made k) h.nn fun h0 => by
    obtain ⟨n, a, e⟩ := h.mx _ h0
    have := Rq a (p := k) hz
    rw [e]; omega
  refine ⟨h1, h2.trans h.ab, fun j hj => ?_, fun c q => (h.al c q).unr⟩
  obtain ⟨n, a, e⟩ := h.mx j hj
  rw [HR (P := fun k => k ∈ l.take i) (k := k) (fun p => (Um hk).trans Or.comm)]
  by_cases q : Y8 made k = j
  · obtain ⟨n', rfl, b⟩ := Dc (v := 0) (hz.trans q) (by omega) a
    exact ⟨n', b, by show ex j - dl (Y8 made k) j = _; rw [q, ZE, e]; omega⟩
  · refine ⟨n, YY (fun p => ?_) a, by show ex j - dl (Y8 made k) j = _; rw [W2 (fun a => q a.symm), e]; omega⟩
    by_cases e2 : p = k
    · subst e2; rw [X7, hz]; exact ⟨fun a => absurd a.symm hj, fun a => absurd a q⟩
    · rw [XL e2]
theorem UnI.fin {m : Nat} {L : LvD} {V V1 : VS} {ex : Int → Int} {made : KD → Option Int} {l : List KD} (h : UnI m L V V1 made l ex) (hl : ∀ k, made k ≠ none → k ∈ l) : LvI m L V1 := by
  refine h.inv.ext fun j hj => ?_
  obtain ⟨n, a, e⟩ := h.mx j hj
  have e1 : ZU (fun k => k ∈ l) 0 (Y8 made) = fun _ => 0 := by
    funext k
    unfold ZU
    split
    · rfl
    · rename_i q
      unfold Y8
      cases r : made k with
      | none => rfl
      | some s => exact absurd (hl k (by rw [r]; simp)) q
  rw [e1] at a
  rw [e, Cl a (Rr hj)]; rfl
def VZ (made : KD → Option Int) : KD → Option Value := fun k => (made k).map intV
theorem PP : VZ (fun _ => none) = fun _ => none := rfl
theorem BP {made : KD → Option Int} {k : KD} {s : Int} : upd (VZ made) k (some (intV s)) = VZ (Xj made k (some s)) := by
  funext j
  by_cases e : j = k
  · subst e; rw [ZD]; unfold VZ; rw [Q3]; rfl
  · rw [W5 e]; unfold VZ; rw [QI e]
theorem TV {made : KD → Option Int} {k : KD} : (VZ made k).getD (intV 0) = intV (Y8 made k) := by unfold VZ Y8; cases made k <;> rfl
theorem MdI.un {m : Nat} {L : LvD} {V V1 : VS} {t : TrD} {ex : Int → Int} {made : KD → Option Int} {l : List KD} (h : MdI m L V V1 t ex made l) : UnI m L V1 V1 made [] ex := by
  refine ⟨h.inv, rfl, fun j hj => ?_, fun _ q => q⟩
  obtain ⟨n, a, e⟩ := h.mx j hj
  exact ⟨n, by have e2 : ZU (fun k => k ∈ ([] : List KD)) 0 (Y8 made) = Y8 made := (by funext k; simp [ZU]); rw [e2]; exact a, e⟩
end Go.Proofs.YtkcjfoaejijdoaaGreatDoor
