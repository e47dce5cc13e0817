/- leaves: Commit by contents -/
import Derived.Test.YtkcjfoaejijdoaaGreatDoorLv27
namespace Go.Proofs.YtkcjfoaejijdoaaGreatDoor
open Go.RowKit M
set_option linter.unusedVariables false
/-- how many leaves are written in part; how many objects are dropped -/
def PartLe (t : TrA) (q : Nat) : Prop := ∃ l : List KD, l.length ≤ q ∧ ∀ k x, t.lv k = some x → x.wr ≠ 0#64 → x.wr ≠ BitVec.allOnes 64 → k ∈ l
def DrLe (t : TrA) (d : Nat) : Prop := ∃ l : List Bs, l.length ≤ d ∧ ∀ ob, t.dr ob = true → ob ∈ l
theorem PartLe.part {V : VS} {t : TrD} {q : Nat} {order : List KD} (h : PartLe (Zk V t) q) (hn : order.Nodup) : Ji t order ≤ q := by
  obtain ⟨l, h1, h2⟩ := h
  refine Nat.le_trans ?_ h1
  unfold Ji
  refine Wm (hn.filter _) fun k hk => ?_
  obtain ⟨_, hk⟩ := List.mem_filter.1 hk
  simp only [decide_eq_true_eq] at hk
  obtain ⟨x, hx, a, b⟩ := hk
  exact h2 k _ (Zq hx) a b
theorem DrLe.came {t : TrD} {V : VS} {d : Nat} (h : DrLe (Zk V t) d) {ks : List Bs} (hc : Came (Jc t.dr) ks) : ks.length ≤ d := by
  obtain ⟨l, h1, h2⟩ := h
  refine Nat.le_trans (Wm hc.nodup fun k hk => ?_) h1
  have h3 := hc.has k hk
  refine h2 k ?_
  show t.dr k = true
  cases q : t.dr k with
  | true => rfl
  | false => exact absurd (by unfold Jc; rw [q]; rfl) h3
theorem absL_ch {L : LvD} {V : VS} {id : Int} (h : ∀ i u, (Q5 L V).tr i = some u → u.parent ≠ id) : ∀ i u, L.tr i = some u → u.parent ≠ id := fun i u hu => h i _ (Zr hu)
theorem ls_com {w : World} {b p n m c e : Nat} {A : LvA} {F : Th} (hS : Sat w [Un b p n m c e A, F]) (hn : n ≤ 600000000) (hm : m < Z9) {d q : Nat} (hn2 : n + (16 * e + 4 * e * d) ≤ 600000000) (hdm : d ≤ 900000000) {id : Int} {tA : TrA} (ht : A.tr id = some tA) (hch : ∀ i u, A.tr i = some u → u.parent ≠ id) (hdr : DrA A) (hd : DrLe tA d) (hq : PartLe tA q) (hcq : c + q < 256) :
    Calls Tryz.prog 13 #[ptrV b 0, intV id] w (Ret fun v w' => ∃ order obs, v = intV 0 ∧ ((∀ k, k ∈ order ↔ tA.lv k ≠ none) ∧ order.Nodup ∧ (∀ ob, ob ∈ obs ↔ tA.dr ob = true)) ∧ Sat w' [Un b p (n + (16 * e + 4 * e * d)) m (c + q) e (SC A id tA order obs), F]) := by
  obtain ⟨L, V, ⟨h1, h2, rfl, h4, h5⟩, hS1⟩ := Jk hS
  obtain ⟨t, ht1, rfl⟩ := R9 ht
  refine (N9 hS1 hn2 h2 hm h5 ht1 (absL_ch hch) hdr (fun ks h => hd.came h) hdm).mono fun ew w h => h.mono fun v w h => ?_
  obtain ⟨L', V', h, hS⟩ := h
  rcases h with ⟨rfl, order, obs, a1, a2, a3, a4, a5, a6, a7, a8⟩ | ⟨_, _, order, a1, a2, a3, a4, a5, a6⟩
  · refine ⟨order, obs, rfl, ⟨fun k => (a1 k).trans ?_, a2, a3⟩, Jj ⟨a5.trans h1, a4, a6, (a8 _ h4).mono (Nat.add_le_add_left (hq.part a2) c), a7 _ h5⟩ hS⟩
    cases r : t.lv k with
    | none => rw [HQ r]; simp
    | some x => rw [Zq r]; simp
  · have x1 := a5 _ h4
    have x2 := hq.part a2
    omega
theorem Vr {w : World} {b p n m c e : Nat} {A : LvA} {F : Th} (hS : Sat w [Un b p n m c e A, F]) (hn : n ≤ 600000000) (hm : m < Z9) {d q : Nat} (hn2 : n + (16 * e + 4 * e * d) ≤ 600000000) (hdm : d ≤ 900000000) {id : Int} {tA : TrA} (ht : A.tr id = some tA) (hp : tA.parent = 0) (hch : ∀ i u, A.tr i = some u → u.parent ≠ id) (hdr : DrA A) (hd : DrLe tA d) (hq : PartLe tA q) (hcq : c + q < 256) :
    Calls Tryz.prog 13 #[ptrV b 0, intV id] w (Ret fun v w' => v = intV 0 ∧ Sat w' [Un b p (n + (16 * e + 4 * e * d)) m (c + q) e ⟨VG A tA, Xj A.tr id none⟩, F]) := by
  refine (ls_com hS hn hm hn2 hdm ht hch hdr hd hq hcq).mono fun ew w h => h.mono fun v w h => ?_
  obtain ⟨order, obs, rfl, ⟨a, b, c⟩, hS⟩ := h
  rw [NA hp b a c] at hS
  exact ⟨rfl, hS⟩
end Go.Proofs.YtkcjfoaejijdoaaGreatDoor
/- laws of leaves: small -/
namespace Go.Proofs.YtkcjfoaejijdoaaGreatDoor
open Go.RowKit M
set_option linter.unusedVariables false
/-! two trials that write bytes of one page -/
def kO : KD := ([111], 0)
theorem sees_nzero {A : LvA} {k : KD} {n : Nat} : Jg A (n + 1) 0 k = A.pres k := by rw [Jg, if_pos rfl]
/-- a trial that has seen at most the page kO -/
def Lf1 (A : LvA) (i : Int) (page own : Bs) (r w : BitVec 64) : Prop := ∃ lv, A.tr i = some ⟨0, lv, fun _ => false⟩ ∧ (∀ k, k ≠ kO → lv k = none) ∧ ((lv kO = none ∧ r = 0#64 ∧ w = 0#64 ∧ own = page) ∨ lv kO = some ⟨page, own, r, w⟩)
section
variable {A : LvA} {i j : Int} {page own own' o1 o2 : Bs} {r w r' w' r1 w1 r2 w2 x y : BitVec 64} {k : KD} {q : Nat}
theorem Lf1.tou (h : Lf1 A i page own r w) (hp : A.pres kO = page) (h0 : i ≠ 0) : Zb A i kO = ⟨page, own, r, w⟩ := by
  obtain ⟨lv, ht, hk, hl⟩ := h
  rcases hl with ⟨a, rfl, rfl, rfl⟩ | a
  · rw [GW ht a]
    have h1 : Wx A i kO = own := by
      unfold Wx
      rw [Jg, if_neg h0, ht]
      dsimp only
      rw [a]
      dsimp only
      rw [if_neg (by simp)]
      exact (show Jg A (99999 + 1) 0 kO = own from sees_nzero.trans hp)
    rw [h1]
    rfl
  · exact HY ht a
theorem Lf1.put (h : Lf1 A i page own r w) : Lf1 (Zt A i kO ⟨page, own', r', w'⟩) i page own' r' w' := by
  obtain ⟨lv, ht, hk, _⟩ := h
  exact ⟨Xj lv kO (some ⟨page, own', r', w'⟩), by rw [ZI ht]; exact Q3, fun k e => by rw [QI e]; exact hk k e, .inr Q3⟩
theorem Lf1.oth {y : LfA} (h : Lf1 A j page own r w) (hne : j ≠ i) : Lf1 (Zt A i k y) j page own r w := by
  obtain ⟨lv, ht, hk, hl⟩ := h
  exact ⟨lv, by rw [Y7 hne]; exact ht, hk, hl⟩
/-- the state of the law -/
def SB (A : LvA) (page o1 : Bs) (r1 w1 : BitVec 64) (o2 : Bs) (r2 w2 : BitVec 64) : Prop := A.pres kO = page ∧ Lf1 A 1 page o1 r1 w1 ∧ Lf1 A 2 page o2 r2 w2 ∧ ∀ i, i ≠ 1 → i ≠ 2 → A.tr i = none
theorem Bk {y : LfA} (h : A.tr j = none) : (Zt A i k y).tr j = none := by
  by_cases e : j = i
  · subst e; unfold Zt; rw [h]; exact h
  · rw [Y7 e]; exact h
theorem SB.put1 (h : SB A page o1 r1 w1 o2 r2 w2) : SB (Zt A 1 kO ⟨page, own', r', w'⟩) page own' r' w' o2 r2 w2 :=
  ⟨by rw [Uf]; exact h.1, h.2.1.put, h.2.2.1.oth (by decide), fun j a b => Bk (h.2.2.2 j a b)⟩
theorem SB.put2 (h : SB A page o1 r1 w1 o2 r2 w2) : SB (Zt A 2 kO ⟨page, own', r', w'⟩) page o1 r1 w1 own' r' w' :=
  ⟨by rw [Uf]; exact h.1, h.2.1.oth (by decide), h.2.2.1.put, fun j a b => Bk (h.2.2.2 j a b)⟩
/-- the bits of x below i -/
def MW (x w : BitVec 64) (i : Nat) : Prop := ∀ j, j < 64 → w.getLsbD j = (x.getLsbD j && decide (j < i))
theorem MW.zero : MW x 0#64 0 := fun j _ => by simp
theorem PK {i j : Nat} (hj : j < 64) : (w ||| (1#64 <<< i)).getLsbD j = (w.getLsbD j || decide (j = i)) := by
  rw [BitVec.getLsbD_or, BitVec.getLsbD_shiftLeft, BitVec.getLsbD_one]
  congr 1
  by_cases h : j = i
  · subst h; simp [hj]
  · by_cases h2 : j < i
    · simp [h2, h]
    · have : j - i ≠ 0 := by omega
      simp [h2, h, this]
theorem MW.T (h : MW x w q) (hb : x.getLsbD q = true) : MW x (w ||| (1#64 <<< q)) (q + 1) := fun j hj => by
  rw [PK hj, h j hj]
  by_cases e : j = q
  · subst e; simp [hb]
  · have h1 : decide (j < q + 1) = decide (j < q) := by
      by_cases f : j < q
      · rw [decide_eq_true f, decide_eq_true (by omega)]
      · rw [decide_eq_false f, decide_eq_false (by omega)]
    rw [h1]; simp [e]
theorem MW.F (h : MW x w q) (hb : x.getLsbD q = false) : MW x w (q + 1) := fun j hj => by
  rw [h j hj]
  by_cases e : j = q
  · subst e; simp [hb]
  · have h1 : decide (j < q + 1) = decide (j < q) := by
      by_cases f : j < q
      · rw [decide_eq_true f, decide_eq_true (by omega)]
      · rw [decide_eq_false f, decide_eq_false (by omega)]
    rw [h1]
theorem MW.fin (h : MW x w 64) : w = x := BitVec.eq_of_getLsbD_eq fun j hj => by rw [h j hj]; simp [hj]
/-- a page to whose bytes of a set something is added -/
def G5 (page : Bs) (f : UInt8) (w : BitVec 64) : Bs := (List.range 64).map fun j => if w.getLsbD j = true then page.getD j 0 + f else page.getD j 0
theorem Rw {f : UInt8} : (G5 page f w).length = 64 := by simp [G5]
theorem YF {f : UInt8} {j : Nat} (hj : j < 64) : (G5 page f w)[j]? = some (if w.getLsbD j = true then page.getD j 0 + f else page.getD j 0) := by
  unfold G5
  rw [List.getElem?_map, List.getElem?_range hj]
  rfl
theorem MM {f : UInt8} (hl : page.length = 64) : G5 page f 0#64 = page := by
  apply List.ext_getElem?
  intro j
  by_cases hj : j < 64
  · rw [YF hj, getD_some (by omega)]; simp
  · rw [List.getElem?_eq_none (by rw [Rw]; omega), List.getElem?_eq_none (by omega)]
theorem C8 {f : UInt8} (hq : q < 64) : (G5 page f w).set q (page.getD q 0 + f) = G5 page f (w ||| (1#64 <<< q)) := by
  apply List.ext_getElem?
  intro j
  by_cases hj : j < 64
  · rw [YF hj, PK hj]
    by_cases e : j = q
    · subst e; rw [List.getElem?_set_self (by rw [Rw]; omega)]; simp
    · rw [List.getElem?_set_ne (fun a => e a.symm), YF hj]; simp [e]
  · rw [List.getElem?_eq_none (by rw [List.length_set, Rw]; omega), List.getElem?_eq_none (by rw [Rw]; omega)]
theorem Hp {now own : Bs} {j : Nat} (hj : j < 64) : (U6 now own w)[j]? = some (if w.getLsbD j = true then own.getD j 0 else now.getD j 0) := by
  unfold U6
  rw [List.getElem?_map, List.getElem?_range hj]
  rfl
theorem Zu {l : Bs} {j : Nat} {v : UInt8} (h : l[j]? = some v) : l.getD j 0 = v := by simp [List.getD, h]
theorem DZ {now own : Bs} (hl : now.length = 64) : U6 now own 0#64 = now := by
  apply List.ext_getElem?
  intro j
  by_cases hj : j < 64
  · rw [Hp hj, getD_some (by omega)]; simp
  · rw [List.getElem?_eq_none (by rw [Ul]; omega), List.getElem?_eq_none (by omega)]
/-- a commit of such a trial -/
theorem Lf1.com {t : TrA} (h : Lf1 A i page own r w) (ht : A.tr i = some t) (hl : (A.pres kO).length = 64) : VG A t kO = U6 (A.pres kO) own w := by
  obtain ⟨lv, h1, hk, h2⟩ := h
  rw [h1] at ht
  cases ht
  unfold VG
  rcases h2 with ⟨a, rfl, rfl, rfl⟩ | a
  · dsimp only; rw [a]; dsimp only; rw [if_neg (by simp), DZ hl]
  · dsimp only; rw [a]; dsimp only
    by_cases e : w = 0#64
    · subst e; rw [if_pos rfl, if_neg (by simp), DZ hl]
    · rw [if_neg e]
theorem Lf1.parent (h : Lf1 A i page own r w) {t : TrA} (ht : A.tr i = some t) : t.parent = 0 ∧ ∀ ob, t.dr ob = false := by
  obtain ⟨lv, h1, _⟩ := h
  rw [h1] at ht
  cases ht
  exact ⟨rfl, fun _ => rfl⟩
theorem Lf1.get (h : Lf1 A i page own r w) : ∃ t, A.tr i = some t := by obtain ⟨lv, h1, _⟩ := h; exact ⟨_, h1⟩
theorem Lf1.part (h : Lf1 A i page own r w) {t : TrA} (ht : A.tr i = some t) : ∀ k x, t.lv k = some x → k = kO := fun k x hx => by
  obtain ⟨lv, h1, hk, _⟩ := h
  rw [h1] at ht
  cases ht
  exact Classical.byContradiction fun e => by
    have h3 : lv k = some x := hx
    rw [hk k e] at h3; cases h3
/-- what is left when one of them is gone -/
theorem Lf1.rest (h : Lf1 A j page own r w) (hne : j ≠ i) {P : KD → Bs} : Lf1 ⟨P, Xj A.tr i none⟩ j page own r w := by
  obtain ⟨lv, h1, hk⟩ := h
  exact ⟨lv, by show Xj A.tr i none j = _; rw [QI hne]; exact h1, hk⟩
theorem Lf1.valid (h : Lf1 A i page own r w) {t : TrA} (ht : A.tr i = some t) : VA A t ↔ ∀ j, j < 64 → r.getLsbD j = true → page[j]? = (A.pres kO)[j]? := by
  obtain ⟨lv, h1, hk, h2⟩ := h
  rw [h1] at ht
  cases ht
  constructor
  · intro hv q hq hr
    rcases h2 with ⟨_, rfl, _⟩ | a
    · simp at hr
    · have := hv kO _ a q hq hr
      rw [UF] at this
      exact this
  · intro hv k z hz q hq hr
    have e : k = kO := Classical.byContradiction fun e => by
      have : lv k = some z := hz
      rw [hk k e] at this; cases this
    subst e
    show z.base[q]? = (Wx A 0 kO)[q]?
    rw [UF]
    rcases h2 with ⟨a, _⟩ | a
    · have : lv kO = some z := hz
      rw [a] at this; cases this
    · have : lv kO = some z := hz
      rw [a] at this; cases this
      exact hv q hq hr
end
theorem u8_ne1 (c : UInt8) : c ≠ c + 1 := fun h => by
  have := congrArg UInt8.toNat h
  rw [UInt8.toNat_add] at this
  have h2 := c.toNat_lt
  have h3 : (1 : UInt8).toNat = 1 := rfl
  rw [h3] at this
  omega
/-- valid exactly if nothing that was read was written -/
theorem val_iff {page : Bs} {x r : BitVec 64} (hl : page.length = 64) : (∀ j, j < 64 → r.getLsbD j = true → page[j]? = (U6 page (G5 page 1 x) x)[j]?) ↔ r &&& x = 0#64 := by
  constructor
  · intro h
    apply BitVec.eq_of_getLsbD_eq
    intro j hj
    rw [BitVec.getLsbD_and, BitVec.getLsbD_zero]
    cases a : r.getLsbD j with
    | false => rfl
    | true =>
      cases b : x.getLsbD j with
      | false => rfl
      | true =>
        have h1 := h j hj a
        rw [Hp hj, if_pos b, Zu (YF hj), if_pos b, getD_some (by omega)] at h1
        exact absurd (Option.some.inj h1) (u8_ne1 _)
  · intro h j hj a
    have h1 : (r &&& x).getLsbD j = (0#64).getLsbD j := by rw [h]
    rw [BitVec.getLsbD_and, BitVec.getLsbD_zero, a, Bool.true_and] at h1
    rw [Hp hj, if_neg (by rw [h1]; decide), getD_some (by omega)]
/-- the page in the end -/
def GF (page : Bs) (x y : BitVec 64) (j : Nat) : UInt8 := if y.getLsbD j = true then page.getD j 0 + 2 else if x.getLsbD j = true then page.getD j 0 + 1 else page.getD j 0
theorem fin12 {page : Bs} {x y : BitVec 64} {j : Nat} (hj : j < 64) : (U6 (U6 page (G5 page 1 x) x) (G5 page 2 y) y).getD j 0 = GF page x y j := by
  rw [Zu (Hp hj)]
  unfold GF
  split
  · rename_i h; rw [Zu (YF hj), if_pos h]
  · rw [Zu (Hp hj)]
    split
    · rename_i h; rw [Zu (YF hj), if_pos h]
    · rfl
theorem fin21 {page : Bs} {x y : BitVec 64} {j : Nat} (hj : j < 64) (hd : x.getLsbD j = true → y.getLsbD j = false) : (U6 (U6 page (G5 page 2 y) y) (G5 page 1 x) x).getD j 0 = GF page x y j := by
  rw [Zu (Hp hj)]
  unfold GF
  by_cases h : x.getLsbD j = true
  · rw [if_pos h, if_neg (by rw [hd h]; decide), if_pos h, Zu (YF hj), if_pos h]
  · rw [if_neg h, Zu (Hp hj)]
    by_cases h2 : y.getLsbD j = true
    · rw [if_pos h2, if_pos h2, Zu (YF hj), if_pos h2]
    · rw [if_neg h2, if_neg h2, if_neg h]
/-! the examples of the document -/
def p7 : Bs := zer.set 5 7
def kP : KD := ([112], 3)
structure SmI (A : LvA) (P own : Bs) (r w : BitVec 64) : Prop where
  pr : A.pres kO = P
  tr : ∃ lv, A.tr 1 = some ⟨0, lv, fun _ => false⟩ ∧ lv kO = some ⟨p7, own, r, w⟩ ∧ ∀ k, k ≠ kO → lv k = none
  ot : ∀ i, i ≠ 1 → A.tr i = none
section
variable {A : LvA} {P own own' : Bs} {r w r' w' : BitVec 64}
theorem SmI.tou (h : SmI A P own r w) : Zb A 1 kO = ⟨p7, own, r, w⟩ := by
  obtain ⟨lv, a, b, _⟩ := h.tr
  exact HY a b
theorem SmI.lf (h : SmI A P own r w) : Lf1 A 1 p7 own r w := by
  obtain ⟨lv, a, b, c⟩ := h.tr
  exact ⟨lv, a, c, .inr b⟩
theorem SmI.wr (h : SmI A P own r w) (a : Int) (b : UInt8) : SmI (wrP A kO a b) (P.set a.toNat b) own r w :=
  ⟨by unfold wrP; dsimp only; rw [X7, h.pr], h.tr, h.ot⟩
theorem Po (h : Lf1 A 1 p7 own r w) (hp : A.pres kO = P) (ho : ∀ i, i ≠ 1 → A.tr i = none) : SmI (Zt A 1 kO ⟨p7, own', r', w'⟩) P own' r' w' := by
  obtain ⟨lv, a, c, _⟩ := h
  refine ⟨by rw [Uf]; exact hp, ⟨Xj lv kO (some ⟨p7, own', r', w'⟩), by rw [ZI a]; exact Q3, Q3, fun k e => by rw [QI e]; exact c k e⟩, fun i hi => by rw [Y7 hi]; exact ho i hi⟩
theorem SmI.put (h : SmI A P own r w) : SmI (Zt A 1 kO ⟨p7, own', r', w'⟩) P own' r' w' := Po h.lf h.pr h.ot
theorem SmI.get (h : SmI A P own r w) : ∃ t, A.tr 1 = some t := h.lf.get
end
/-- leaves of trials that have dropped nothing -/
theorem Ck {A : LvA} (h : ∀ i t, A.tr i = some t → ∀ ob, t.dr ob = false) : DrA A := fun i t k x ht hd _ => by rw [h i t ht k.1] at hd; cases hd
theorem Bz {t : TrA} (h : ∀ ob, t.dr ob = false) : DrLe t 0 := ⟨[], Nat.le_refl _, fun ob hd => by rw [h ob] at hd; cases hd⟩
theorem DY {t : TrA} (h : ∀ k x, t.lv k = some x → k = kO) : PartLe t 1 := ⟨[kO], Nat.le_refl _, fun k x hx _ _ => by rw [h k x hx]; simp⟩
theorem Dt {A : LvA} {i : Int} (hi : 1 ≤ i) (h : A.tr i = none) : MI A i 0 = 0 ∧ MJ A i 0 = { A with tr := Xj A.tr i (some ⟨0, fun _ => none, fun _ => false⟩) } := by
  have e : MI A i 0 = 0 := by
    unfold MI
    rw [if_neg (by omega), h, if_neg (by simp), if_neg (by simp [BD])]
  exact ⟨e, by unfold MJ; rw [if_pos e]⟩
theorem Te {m : Nat} {L L' : LvD} {V V' : VS} {q : Nat} {x0 x3 : Int} (hI : LvI m L V) (hI' : LvI m L' V') (hx0 : x0 = 0) (hx3 : x3 = 3) (hp : L'.pres = S9 L.pres [112] (3 + max 0 (-3)) (KN L [111] (0 + max 0 (-3)) q) q) (hq : max 0 (-3) + (q : Int) = min 1 (256 - 3) ∨ (q = 0 ∧ min (1 : Int) (256 - 3) ≤ max 0 (-3))) (hne : XM V (L.pres kO) ≠ zer) :
    (Xo L' 0 ([111], x0) = L.pres kO ∧ GD L' V' 0 ([111], x0) = false) ∧ (Xo L' 0 ([112], x3) = L.pres kO ∧ GD L' V' 0 ([112], x3) = false) ∧ L.pres kO ≠ 0 := by
  subst hx0; subst hx3
  have hq1 : q = 1 := by omega
  subst hq1
  have h0 : L.pres kO ≠ 0 := fun e => hne (by rw [e]; exact WP hI.zero)
  have e1 : KN L [111] (0 + max 0 (-3)) 1 = [L.pres kO] := by
    have e0 : max (0 : Int) (-3) = 0 := by decide
    unfold KN T4
    rw [e0]
    simp [kO]
  have e2 : L'.pres = XZ L.pres kP (L.pres kO) := by
    rw [hp, e1]
    show XZ L.pres ([112], 3 + max 0 (-3) + ((0 : Nat) : Int)) (([L.pres kO] : List Int).getD 0 0) = _
    rfl
  have a1 : L'.pres kO = L.pres kO := by rw [e2]; unfold XZ; rw [if_neg (by decide)]
  have a2 : L'.pres kP = L.pres kO := by rw [e2]; unfold XZ; rw [if_pos rfl]
  have s1 : Xo L' 0 kO = L.pres kO := (Jw rfl).trans a1
  have s2 : Xo L' 0 kP = L.pres kO := (Jw rfl).trans a2
  have hr : Za V' (L.pres kO) ≠ 1 := fun e => by
    have := hI'.ref.excl e rfl h0 (show Xf L' (.inl kO) = L.pres kO from a1) (.inl kP) a2
    exact absurd this (by decide)
  refine ⟨⟨s1, ?_⟩, ⟨s2, ?_⟩, h0⟩
  · show GD L' V' 0 kO = false
    unfold GD; rw [s1]; simp [hr]
  · show GD L' V' 0 kP = false
    unfold GD; rw [s2]; simp [hr]
theorem RT {w : World} {b p n m c e : Nat} {A : LvA} {F : Th} (hS : Sat w [Un b p n m c e A, F]) (hn : n ≤ 600000000) (hm : m < Z9)  (a : Int) (hr : 0 ≤ a ∧ a < 64) :
    Calls Tryz.prog 12 #[ptrV b 0, intV 0, strV [111], intV a] w (Ret fun v w' => v = WA (btA (A.pres kO) a) ∧ Sat w' [Un b p n m c e A, F]) := by
  refine (PV hS hn hm [111] a (by omega)).mono fun ew w h => h.mono fun v w h => ?_
  have e1 : a / 64 = 0 := by omega
  have e2 : a % 64 = a := by omega
  rw [e1, e2] at h
  exact h
theorem RS {w : World} {b p n m c e : Nat} {A : LvA} {F : Th} (hS : Sat w [Un b p n m c e A, F]) (hn : n ≤ 600000000) (hm : m < Z9) {id : Int} {tA : TrA} (ht : A.tr id = some tA) (a : Int) (hr : 0 ≤ a ∧ a < 64) :
    Calls Tryz.prog 12 #[ptrV b 0, intV id, strV [111], intV a] w (Ret fun v w' => v = WA (btA (Zb A id kO).own a) ∧ ∃ A', A' = Zt A id kO (rdX (Zb A id kO) a) ∧ Sat w' [Un b p (n + 2) m c (e + 1) A', F]) := by
  refine (PU hS hn hm ht [111] a (by omega)).mono fun ew w h => h.mono fun v w h => ?_
  have e1 : a / 64 = 0 := by omega
  have e2 : a % 64 = a := by omega
  rw [e1, e2] at h
  exact ⟨h.1, _, rfl, h.2⟩
theorem Vt {w : World} {b p n m c e : Nat} {A : LvA} {F : Th} (hS : Sat w [Un b p n m c e A, F]) (hn : n ≤ 600000000) (hm : m < Z9) (hc : c + 1 < 256) (a : Int) (hr : 0 ≤ a ∧ a < 64) (bt : UInt8) :
    Calls Tryz.prog 10 #[ptrV b 0, intV 0, strV [111], intV a, WA bt] w (Ret fun v w' => v = intV 0 ∧ ∃ A', A' = wrP A kO a bt ∧ Sat w' [Un b p (n + 5) m (c + 1) (e + 1) A', F]) := by
  refine (PT hS hn hm hc [111] a bt (by omega)).mono fun ew w h => h.mono fun v w h => ?_
  have e1 : a / 64 = 0 := by omega
  have e2 : a % 64 = a := by omega
  rw [e1, e2] at h
  exact ⟨h.1, _, rfl, h.2⟩
theorem Vs {w : World} {b p n m c e : Nat} {A : LvA} {F : Th} (hS : Sat w [Un b p n m c e A, F]) (hn : n ≤ 600000000) (hm : m < Z9) (hc : c + 1 < 256) {id : Int} {tA : TrA} (ht : A.tr id = some tA) (a : Int) (hr : 0 ≤ a ∧ a < 64) (bt : UInt8) :
    Calls Tryz.prog 10 #[ptrV b 0, intV id, strV [111], intV a, WA bt] w (Ret fun v w' => v = intV 0 ∧ ∃ A', A' = Zt A id kO (wrX (Zb A id kO) a bt) ∧ Sat w' [Un b p (n + 5) m (c + 1) (e + 1) A', F]) := by
  refine (PS hS hn hm ht hc [111] a bt (by omega)).mono fun ew w h => h.mono fun v w h => ?_
  have e1 : a / 64 = 0 := by omega
  have e2 : a % 64 = a := by omega
  rw [e1, e2] at h
  exact ⟨h.1, _, rfl, h.2⟩
set_option maxRecDepth 100000 in
set_option maxHeartbeats 1600000 in
theorem Pn {w : World} {F : Th} (hS : Sat w [F]) (hG : Ent F GT) :
    Calls Tryz.prog 8 #[] w (Ret fun v w' => v = .bool true ∧ Sat w' [F]) := by
 refine Qt Tryz.func8 rfl Tryz.ntmps8 rfl ?_
 refine Qd (Qa (Qe rfl rfl (Qf (Qc (Qd (Qa ?_))))))
 have hC1 := hS.split [] [false] rfl; dsimp only [QC, Qz, Q9, Q8, Q7] at hC1
 refine Qo cal_9 rfl (DN hC1) rfl ?_
 rintro e w1 ⟨_, rfl, b, p, mp, mt, ms, rfl, hS1⟩; refine ⟨_, rfl, ?_⟩
 replace hS1 := hS1.join rfl; dsimp only [QU, QT, Q8, Q7] at hS1; clear hC1
 have hz0 := DO (hS1.pick [0, 1, 2] rfl)
 refine Qb rfl rfl (Qw rfl rfl rfl (Qw rfl rfl rfl (Qe rfl rfl (Qe rfl rfl (Qf (Qc (Qd (Qd (Qa (Qb rfl rfl ?_))))))))))
 refine ZX Tryz.underlying24 rfl rfl rfl ?_
 refine Qf (Qc ?_)
 refine Xm rfl ?_
 refine Qy (Qc (Qd (Qa (Qb rfl rfl ?_))))
 have hC2 := hz0.split [0] [true, false] rfl; dsimp only [QC, Qz, Q9, Q8, Q7] at hC2
 refine Qo HN rfl (Vt hC2 (by omega) (by decide) (by omega) 5 (by omega) 7) rfl ?_
 rintro e w2 ⟨_, rfl, rfl, A1, hA1, hS2⟩; refine ⟨_, rfl, ?_⟩
 replace hS2 := hS2.join rfl; dsimp only [QU, QT, Q8, Q7] at hS2; clear hC2
 clear hz0
 have q1 : A1.pres kO = p7 := by rw [hA1]; unfold wrP; dsimp only; rw [X7]; rfl
 have q2 : ∀ i, A1.tr i = none := fun i => by rw [hA1]; rfl
 obtain ⟨be1, be2⟩ := Dt (i := 1) (by omega) (q2 1)
 refine Qf (Qc ?_)
 refine Qh (L' := [(1, _), (0, _)]) (H0 rfl rfl) ?_
 refine Qd (Qa (Qb rfl rfl ?_))
 have hC3 := hS2.split [0] [true, false] rfl; dsimp only [QC, Qz, Q9, Q8, Q7] at hC3
 refine Qo TB rfl (RQ hC3 (by omega) (by decide) 1 0) rfl ?_
 rintro e w3 ⟨_, rfl, rfl, hS3⟩; refine ⟨_, rfl, ?_⟩
 replace hS3 := hS3.join rfl; dsimp only [QU, QT, Q8, Q7] at hS3; clear hC3
 clear hS2
 rw [be1]
 rw [be2] at hS3
 obtain ⟨A2, hA2⟩ : ∃ A, A = ({ A1 with tr := Xj A1.tr 1 (some ⟨0, fun _ => none, fun _ => false⟩) } : LvA) := ⟨_, rfl⟩
 rw [← hA2] at hS3
 have f2 : Lf1 A2 1 p7 p7 0#64 0#64 := ⟨fun _ => none, by rw [hA2]; exact Q3, fun _ _ => rfl, .inl ⟨rfl, rfl, rfl, rfl⟩⟩
 have p2 : A2.pres kO = p7 := by rw [hA2]; exact q1
 have o2 : ∀ i, i ≠ 1 → A2.tr i = none := fun i hi => by rw [hA2]; exact (QI hi).trans (q2 i)
 obtain ⟨t2, ht2⟩ := f2.get
 have to2 := f2.tou p2 (by decide)
 refine Qe rfl rfl (Qf (Qc (Qd (Qa (Qb rfl rfl ?_)))))
 have hC4 := hS3.split [0] [true, false] rfl; dsimp only [QC, Qz, Q9, Q8, Q7] at hC4
 refine Qo HN rfl (Vs hC4 (by omega) (by decide) (by omega) ht2 6 (by omega) 8) rfl ?_
 rintro e w4 ⟨_, rfl, rfl, A3, hA3, hS4⟩; refine ⟨_, rfl, ?_⟩
 replace hS4 := hS4.join rfl; dsimp only [QU, QT, Q8, Q7] at hS4; clear hC4
 clear hS3
 rw [to2] at hA3
 have k3 : SmI A3 p7 (p7.set 6 8) 0#64 (1#64 <<< 6) := by rw [hA3]; exact Po f2 p2 o2
 refine Qf (Qc (Qd (Qa (Qb rfl rfl ?_))))
 have hC5 := hS4.split [0] [true, false] rfl; dsimp only [QC, Qz, Q9, Q8, Q7] at hC5
 refine Qo K2 rfl (RT hC5 (by omega) (by decide) 6 (by omega)) rfl ?_
 rintro e w5 ⟨_, rfl, rfl, hS5⟩; refine ⟨_, rfl, ?_⟩
 replace hS5 := hS5.join rfl; dsimp only [QU, QT, Q8, Q7] at hS5; clear hC5
 clear hS4
 rw [k3.pr]
 obtain ⟨t3, ht3⟩ := k3.get
 refine Qe rfl rfl (Qf (Qc (Qd (Qa (Qb rfl rfl ?_)))))
 have hC6 := hS5.split [0] [true, false] rfl; dsimp only [QC, Qz, Q9, Q8, Q7] at hC6
 refine Qo K2 rfl (RS hC6 (by omega) (by decide) ht3 5 (by omega)) rfl ?_
 rintro e w6 ⟨_, rfl, rfl, A4, hA4, hS6⟩; refine ⟨_, rfl, ?_⟩
 replace hS6 := hS6.join rfl; dsimp only [QU, QT, Q8, Q7] at hS6; clear hC6
 clear hS5
 rw [k3.tou] at hA4 ⊢
 have k4 : SmI A4 p7 (p7.set 6 8) (1#64 <<< 5) (1#64 <<< 6) := by rw [hA4]; exact k3.put
 refine Qe rfl rfl (Qf (Qc ?_))
 refine Qh (L' := [(5, _), (4, _), (3, _), (1, _), (0, _)]) (ZH rfl rfl rfl rfl rfl) ?_
 refine Qd (Qa (Qb rfl rfl ?_))
 have hC7 := hS6.split [0] [true, false] rfl; dsimp only [QC, Qz, Q9, Q8, Q7] at hC7
 refine Qo HN rfl (Vt hC7 (by omega) (by decide) (by omega) 5 (by omega) 9) rfl ?_
 rintro e w7 ⟨_, rfl, rfl, A5, hA5, hS7⟩; refine ⟨_, rfl, ?_⟩
 replace hS7 := hS7.join rfl; dsimp only [QU, QT, Q8, Q7] at hS7; clear hC7
 clear hS6
 have k5 := k4.wr 5 9
 rw [← hA5] at k5
 obtain ⟨t5, ht5⟩ := k5.get
 refine Qf (Qc (Qd (Qa (Qb rfl rfl ?_))))
 have hC8 := hS7.split [0] [true, false] rfl; dsimp only [QC, Qz, Q9, Q8, Q7] at hC8
 refine Qo K2 rfl (RS hC8 (by omega) (by decide) ht5 5 (by omega)) rfl ?_
 rintro e w8 ⟨_, rfl, rfl, A6, hA6, hS8⟩; refine ⟨_, rfl, ?_⟩
 replace hS8 := hS8.join rfl; dsimp only [QU, QT, Q8, Q7] at hS8; clear hC8
 clear hS7
 rw [k5.tou] at hA6 ⊢
 have k6 : SmI A6 (p7.set 5 9) (p7.set 6 8) (1#64 <<< 5) (1#64 <<< 6) := by rw [hA6]; exact k5.put
 obtain ⟨t6, ht6⟩ := k6.get
 refine Qe rfl rfl (Qf (Qc (Qd (Qa (Qb rfl rfl ?_)))))
 have hC9 := hS8.split [0] [true, false] rfl; dsimp only [QC, Qz, Q9, Q8, Q7] at hC9
 refine Qo Gt rfl (HC hC9 (by omega) (by decide) (hG.starL 0 rfl) ht6) rfl ?_
 rintro e w9 ⟨_, rfl, r6, rfl, hr6, hS9⟩; refine ⟨_, rfl, ?_⟩
 replace hS9 := hS9.join rfl; dsimp only [QU, QT, Q8, Q7] at hS9; clear hC9
 clear hS8
 have hr6f : r6 = false := by cases r6 with | false => rfl | true => exact absurd ((k6.lf.valid ht6).1 (hr6.1 rfl) 5 (by decide) (by decide)) (by rw [k6.pr]; decide)
 subst hr6f
 refine Qe rfl rfl (Qf (Qc ?_))
 refine Qh (L' := [(7, _), (6, _), (5, _), (4, _), (3, _), (1, _), (0, _)]) (WK rfl rfl rfl rfl rfl rfl rfl) ?_
 refine Qd (Qa (Qb rfl rfl ?_))
 have hC10 := hS9.split [0] [true, false] rfl; dsimp only [QC, Qz, Q9, Q8, Q7] at hC10
 refine Qo HN rfl (Vt hC10 (by omega) (by decide) (by omega) 5 (by omega) 7) rfl ?_
 rintro e w10 ⟨_, rfl, rfl, A7, hA7, hS10⟩; refine ⟨_, rfl, ?_⟩
 replace hS10 := hS10.join rfl; dsimp only [QU, QT, Q8, Q7] at hS10; clear hC10
 clear hS9
 have k7 := k6.wr 5 7
 rw [← hA7] at k7
 rw [show ((p7.set 5 9).set (5 : Int).toNat 7) = p7 by decide] at k7
 obtain ⟨t7, ht7⟩ := k7.get
 refine Qf (Qc (Qd (Qa (Qb rfl rfl ?_))))
 have hC11 := hS10.split [0] [true, false] rfl; dsimp only [QC, Qz, Q9, Q8, Q7] at hC11
 refine Qo Gt rfl (HC hC11 (by omega) (by decide) (hG.starL 0 rfl) ht7) rfl ?_
 rintro e w11 ⟨_, rfl, r7, rfl, hr7, hS11⟩; refine ⟨_, rfl, ?_⟩
 replace hS11 := hS11.join rfl; dsimp only [QU, QT, Q8, Q7] at hS11; clear hC11
 clear hS10
 have hr7t : r7 = true := hr7.2 ((k7.lf.valid ht7).2 fun j _ _ => by rw [k7.pr])
 subst hr7t
 have pa7 := k7.lf.parent ht7
 have un7 : ∀ i u, A7.tr i = some u → i = 1 := fun i u hu => Classical.byContradiction fun q => by rw [k7.ot i q] at hu; cases hu
 refine Qe rfl rfl (Qf (Qc ?_))
 refine Qh (L' := [(8, _), (7, _), (6, _), (5, _), (4, _), (3, _), (1, _), (0, _)]) (WT rfl rfl rfl rfl rfl rfl rfl rfl) ?_
 refine Qd (Qa (Qb rfl rfl ?_))
 have hC12 := hS11.split [0] [true, false] rfl; dsimp only [QC, Qz, Q9, Q8, Q7] at hC12
 refine Qo Gu rfl (Vr (d := 0) (q := 1) hC12 (by omega) (by decide) (by omega) (by omega) ht7 pa7.1 (fun i u hu => by have e := un7 i u hu; subst e; rw [ht7] at hu; cases hu; rw [pa7.1]; decide) (Ck fun i t ht => by have e := un7 i t ht; subst e; exact (k7.lf.parent ht).2) (Bz pa7.2) (DY (k7.lf.part ht7)) (by omega)) rfl ?_
 rintro e w12 ⟨_, rfl, rfl, hS12⟩; refine ⟨_, rfl, ?_⟩
 replace hS12 := hS12.join rfl; dsimp only [QU, QT, Q8, Q7] at hS12; clear hC12
 clear hS11
 have k8 := k7.lf.com ht7 (by rw [k7.pr]; decide)
 rw [k7.pr] at k8
 obtain ⟨A8, hA8⟩ : ∃ A, A = (⟨VG A7 t7, Xj A7.tr 1 none⟩ : LvA) := ⟨_, rfl⟩
 rw [← hA8] at hS12
 have k9 : A8.pres kO = U6 p7 (p7.set 6 8) (1#64 <<< 6) := by rw [hA8]; exact k8
 refine Qe rfl rfl (Qf (Qc (Qd (Qa (Qb rfl rfl ?_)))))
 have hC13 := hS12.split [0] [true, false] rfl; dsimp only [QC, Qz, Q9, Q8, Q7] at hC13
 refine Qo K2 rfl (RT hC13 (by omega) (by decide) 6 (by omega)) rfl ?_
 rintro e w13 ⟨_, rfl, rfl, hS13⟩; refine ⟨_, rfl, ?_⟩
 replace hS13 := hS13.join rfl; dsimp only [QU, QT, Q8, Q7] at hS13; clear hC13
 clear hS12
 rw [k9]
 refine Qe rfl rfl (Qf (Qc ?_))
 refine Qh (L' := [(10, _), (9, _), (8, _), (7, _), (6, _), (5, _), (4, _), (3, _), (1, _), (0, _)]) (Yg rfl rfl rfl rfl rfl rfl rfl rfl rfl rfl) ?_
 refine Qd ?_
 obtain ⟨L, V, ⟨g1, g2, g3, g4, g5⟩, hz1⟩ := Jk (hS13.pick [0, 1] rfl)
 refine Qa (Qb rfl rfl ?_)
 have hC14 := hz1.split [0, 1] [true, true, false] rfl; dsimp only [QC, Qz, Q9, Q8, Q7] at hC14
 refine Qo cal_41 rfl (SA hC14 (by omega) g2 (by decide) [111] [112] 0 1 3 (by omega) (by omega) (by omega)) rfl ?_
 rintro e w14 ⟨_, rfl, L2, V2, q, hq1, hq2, hq3, hq4, hS14⟩; refine ⟨_, rfl, ?_⟩
 replace hS14 := hS14.join rfl; dsimp only [QU, QT, Q8, Q7] at hS14; clear hC14
 clear hz1
 have hne : XM V (L.pres kO) ≠ zer := by intro hh; have h8 := k9; rw [← g3] at h8; have h9 : XM V (L.pres kO) = U6 p7 (p7.set 6 8) (1#64 <<< 6) := h8; rw [hh] at h9; exact absurd h9 (by decide)
 obtain ⟨⟨y1, y2⟩, ⟨y3, y4⟩, y5⟩ := Te (x0 := 0) (x3 := 3) g2 hq1.inv rfl rfl hq2 hq4 hne
 refine Qf (Qc (Qd (Qa (Qb rfl rfl ?_))))
 have hC15 := hS14.split [0, 1] [true, true, false] rfl; dsimp only [QC, Qz, Q9, Q8, Q7] at hC15
 refine Qo SP rfl (Bc hC15 (hq1.inv.rank.ends (by decide)) [111] 0 (by simp [Ub, ZY])) rfl ?_
 rintro e w15 ⟨_, rfl, rfl, hS15⟩; refine ⟨_, rfl, ?_⟩
 replace hS15 := hS15.join rfl; dsimp only [QU, QT, Q8, Q7] at hS15; clear hC15
 clear hS14
 rw [y1, y2]
 refine Qb rfl rfl (Qw rfl rfl rfl (Qw rfl rfl rfl (Qe rfl rfl (Qe rfl rfl (Qf (Qc ?_))))))
 refine Qh (L' := [(12, _), (11, _), (10, _), (9, _), (8, _), (7, _), (6, _), (5, _), (4, _), (3, _), (1, _), (0, _)]) (Kb rfl rfl rfl rfl rfl rfl rfl rfl rfl rfl rfl rfl) ?_
 refine Qd (Qa (Qb rfl rfl ?_))
 have hC16 := hS15.split [0, 1] [true, true, false] rfl; dsimp only [QC, Qz, Q9, Q8, Q7] at hC16
 refine Qo SP rfl (Bc hC16 (hq1.inv.rank.ends (by decide)) [112] 3 (by simp [Ub, ZY])) rfl ?_
 rintro e w16 ⟨_, rfl, rfl, hS16⟩; refine ⟨_, rfl, ?_⟩
 replace hS16 := hS16.join rfl; dsimp only [QU, QT, Q8, Q7] at hS16; clear hC16
 clear hS15
 rw [y3, y4]
 refine Qb rfl rfl (Qw rfl rfl rfl (Qw rfl rfl rfl (Qe rfl rfl (Qe rfl rfl (Qf (Qc ?_))))))
 refine Qh (L' := [(14, _), (13, _), (12, _), (11, _), (10, _), (9, _), (8, _), (7, _), (6, _), (5, _), (4, _), (3, _), (0, _)]) (zb13 rfl rfl rfl rfl rfl rfl rfl rfl rfl rfl rfl rfl rfl) ?_
 refine Qd (Qa (Qb rfl rfl ?_))
 refine X2 rfl rfl rfl ?_
 refine Qb rfl rfl ?_
 refine Xk 59 rfl (fun h17 => ?_) (fun h17 => ?_)
 ·refine Qn rfl rfl (decide_eq_true h17) ?_
  refine Qb rfl rfl ?_
  refine Qn rfl rfl (decide_eq_true h17) ?_
  refine X2 rfl rfl rfl ?_
  refine Xg rfl (decide_eq_true h17) rfl rfl ?_
  refine Qb rfl rfl ?_
  refine Xk 63 rfl (fun h18 => ?_) (fun h18 => ?_)
  ·refine Qn rfl rfl (decide_eq_true h18) ?_
   refine Qb rfl rfl ?_
   refine Qn rfl rfl (decide_eq_true h18) ?_
   refine X2 rfl rfl rfl ?_
   refine Xg rfl (decide_eq_true h18) rfl rfl ?_
   refine Qb rfl rfl ?_
   refine Xk 67 rfl (fun h19 => ?_) (fun h19 => ?_)
   ·refine Qn rfl rfl (decide_eq_true h19) ?_
    refine Qb rfl rfl ?_
    refine Qn rfl rfl (decide_eq_true h19) ?_
    refine X2 rfl rfl rfl ?_
    refine Xg rfl (decide_eq_true h19) rfl rfl ?_
    refine Qb rfl rfl ?_
    refine Xk 71 rfl (fun h20 => ?_) (fun h20 => ?_)
    ·refine Qn rfl rfl (decide_eq_true h20) ?_
     refine Qb rfl rfl ?_
     refine Qn rfl rfl (decide_eq_true h20) ?_
     refine QS rfl rfl ?_
     refine Xg rfl (decide_eq_true h20) rfl rfl ?_
     refine Qb rfl rfl ?_
     refine Zd 75 rfl (fun h21 => ?_) (fun h21 => ?_)
     ·refine Qn rfl rfl h21 ?_
      refine Qb rfl rfl ?_
      refine Xg rfl h21 rfl rfl ?_
      refine Qb rfl rfl ?_
      refine Zd 78 rfl (fun h22 => ?_) (fun h22 => ?_)
      ·refine Qn rfl rfl h22 ?_
       refine Qb rfl rfl ?_
       refine Qn rfl rfl h22 ?_
       refine X2 rfl rfl rfl ?_
       refine Xg rfl h22 rfl rfl ?_
       refine Qb rfl rfl ?_
       refine Xk 82 rfl (fun h23 => ?_) (fun h23 => ?_)
       ·refine Qn rfl rfl (decide_eq_true h23) ?_
        refine Qb rfl rfl ?_
        refine Qn rfl rfl (decide_eq_true h23) ?_
        refine X2 rfl rfl rfl ?_
        refine Xg rfl (decide_eq_true h23) rfl rfl ?_
        refine Qb rfl rfl ?_
        refine Xk 86 rfl (fun h24 => ?_) (fun h24 => ?_)
        ·refine Qn rfl rfl (decide_eq_true h24) ?_
         refine Qb rfl rfl ?_
         refine Qn rfl rfl (decide_eq_true h24) ?_
         refine Qb rfl rfl ?_
         refine Qn rfl rfl (decide_eq_true h24) ?_
         refine X2 rfl rfl rfl ?_
         refine Xg rfl (decide_eq_true h24) rfl rfl ?_
         refine Qb rfl rfl ?_
         refine Xk 91 rfl (fun h25 => ?_) (fun h25 => ?_)
         ·refine Qn rfl rfl (decide_eq_true h25) ?_
          refine Qb rfl rfl ?_
          refine Qn rfl rfl (decide_eq_true h25) ?_
          refine Xh rfl rfl rfl ?_
          refine Xg rfl (decide_eq_true h25) rfl rfl ?_
          refine Qb rfl rfl ?_
          refine Xk 95 rfl (fun h26 => ?_) (fun h26 => ?_)
          ·refine Qn rfl rfl (decide_eq_true h26) ?_
           refine Qb rfl rfl ?_
           refine Qn rfl rfl (decide_eq_true h26) ?_
           refine QS rfl rfl ?_
           refine Xg rfl (decide_eq_true h26) rfl rfl ?_
           refine Qb rfl rfl ?_
           refine Zd 99 rfl (fun h27 => ?_) (fun h27 => ?_)
           ·refine Qn rfl rfl h27 ?_
            refine Qb rfl rfl ?_
            refine Qn rfl rfl h27 ?_
            refine QS rfl rfl ?_
            refine Xg rfl h27 rfl rfl ?_
            refine Qe rfl rfl (Qf (Qc ?_))
            refine Qh (L' := [(0, _)]) (Hd rfl) ?_
            refine Q0 ?_
            refine QV (.inr rfl) rfl rfl ?_
            exact ⟨_, rfl, by rfl, hS16.pick [2] rfl⟩
           exact absurd h27 (by decide)
          exact absurd y5 h26
         exact absurd rfl h25
        exact absurd (by decide) h24
       exact absurd (by decide) h23
      exact absurd h22 (by decide)
     exact absurd h21 (by decide)
    exact absurd (by decide) h20
   exact absurd (by decide) h19
  exact absurd (by decide) h18
 exact absurd (by decide) h17
end Go.Proofs.YtkcjfoaejijdoaaGreatDoor
