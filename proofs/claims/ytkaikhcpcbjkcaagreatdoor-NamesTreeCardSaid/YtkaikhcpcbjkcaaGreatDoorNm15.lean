/- names: the tree of directories -/
import Derived.Test.YtkaikhcpcbjkcaaGreatDoorNm10
namespace Go.Proofs.YtkaikhcpcbjkcaaGreatDoor
open Go.RowKit M
set_option linter.unusedVariables false
/-- directories, files, who is above -/
def isD (W : WS) (id : Bs) : Prop := ∃ n, inoW W id = some n ∧ n.k = 2
def isF (W : WS) (id : Bs) : Prop := ∃ n, inoW W id = some n ∧ n.k = 1
def upD (W : WS) (id : Bs) : Bs := W.cells (kU id)
def Dp (W : WS) : Nat → Bs → Prop
  | 0, d => d = [114]
  | n + 1, d => d ≠ [114] ∧ Dp W n (upD W d)
/-- so many entries lead to an id -/
def EntC (W : WS) (id : Bs) (c : Nat) : Prop := ∃ l : List Bs, l.length = c ∧ l.Nodup ∧ ∀ k, k ∈ l ↔ Lib.hasPrefix k [100, 47] = true ∧ W.cells k = id
/-- the tree: the links of files differ by dl from the entries, the directories of E have no entry -/
structure TI (W : WS) (dl : Bs → Int) (E : Bs → Prop) : Prop where
  ino : ∀ id, W.cells (kI id) ≠ [] → rightB id = true ∧ ∃ n, inoW W id = some n ∧ (n.k = 1 ∨ n.k = 2)
  ent : ∀ k, Lib.hasPrefix k [100, 47] = true → W.cells k ≠ [] → (∃ d x, k = kE d x ∧ nameB x = true ∧ isD W d) ∧ ∃ n, inoW W (W.cells k) = some n
  root : isD W [114]
  noroot : ∀ k, Lib.hasPrefix k [100, 47] = true → W.cells k ≠ [114]
  own : ∀ d x, nameB x = true → isD W (W.cells (kE d x)) → upD W (W.cells (kE d x)) = d
  one : ∀ d x y, nameB x = true → nameB y = true → isD W (W.cells (kE d x)) → W.cells (kE d y) = W.cells (kE d x) → x = y
  has : ∀ id, isD W id → id ≠ [114] → isD W (upD W id) ∧ (¬ E id → ∃ x, nameB x = true ∧ W.cells (kE (upD W id) x) = id)
  out : ∀ id, E id → isD W id ∧ id ≠ [114] ∧ ∀ d x, nameB x = true → W.cells (kE d x) ≠ id
  dep : ∀ id, isD W id → ∃ n, n ≤ 8 ∧ Dp W n id
  lnk : ∀ id n, inoW W id = some n → n.k = 1 → ∃ c : Nat, EntC W id c ∧ n.ln = c + dl id
theorem ino_ne {W : WS} {id : Bs} {n : InD} (h : inoW W id = some n) : W.cells (kI id) ≠ [] := by
  intro q
  unfold inoW at h
  rw [q] at h
  simp [decI] at h
theorem right_is {id : Bs} (h : rightB id = true) : (47 : UInt8) ∉ id ∧ id ≠ [] := by
  unfold rightB at h
  simpa using h
theorem pre_kE (d x : Bs) : Lib.hasPrefix (kE d x) [100, 47] = true := by unfold kE; simp [Lib.hasPrefix]
theorem TI.right {W : WS} {dl : Bs → Int} {E : Bs → Prop} (h : TI W dl E) {id : Bs} {n : InD} (hi : inoW W id = some n) : rightB id = true := (h.ino id (ino_ne hi)).1
theorem TI.ne {W : WS} {dl : Bs → Int} {E : Bs → Prop} (h : TI W dl E) {id : Bs} {n : InD} (hi : inoW W id = some n) : id ≠ [] := (right_is (h.right hi)).2
theorem TI.neD {W : WS} {dl : Bs → Int} {E : Bs → Prop} (h : TI W dl E) {id : Bs} (hi : isD W id) : id ≠ [] := by obtain ⟨n, q, _⟩ := hi; exact h.ne q
theorem not_DF {W : WS} {id : Bs} (h : isD W id) (h' : isF W id) : False := by
  obtain ⟨n, a, b⟩ := h
  obtain ⟨m, c, d⟩ := h'
  rw [a] at c; cases c; omega
theorem ino_same {W V : WS} {id : Bs} (h : V.cells (kI id) = W.cells (kI id)) : inoW V id = inoW W id := by unfold inoW; rw [h]
theorem isD_same {W V : WS} {id : Bs} (h : V.cells (kI id) = W.cells (kI id)) : isD V id ↔ isD W id := by unfold isD; rw [ino_same h]
theorem Dp_same {W V : WS} (h : ∀ j, V.cells (kU j) = W.cells (kU j)) : ∀ n d, Dp V n d ↔ Dp W n d
  | 0, _ => Iff.rfl
  | n + 1, d => by
    unfold Dp upD
    rw [h, Dp_same h n]
theorem kU_inj {a b : Bs} (h : kU a = kU b) : a = b := by unfold kU at h; simpa using h
theorem pre_kI (a : Bs) : Lib.hasPrefix (kI a) [100, 47] = true → False := pre_no (a := a) (c := 105) (by decide)
theorem pre_kU (a : Bs) : Lib.hasPrefix (kU a) [100, 47] = true → False := pre_no (a := a) (c := 117) (by decide)
theorem nm47 {x : Bs} (h : nameB x = true) : (47 : UInt8) ∉ x := (nameB_is h).2.2
def bump (dl : Bs → Int) (id : Bs) (b : Int) : Bs → Int := fun j => if j = id then dl j + b else dl j
theorem TI.congr {W V : WS} {dl dl' : Bs → Int} {E E' : Bs → Prop} (h : TI W dl E) (hW : ∀ k, V.cells k = W.cells k) (hd : ∀ j, dl' j = dl j) (hE : ∀ j, E' j ↔ E j) : TI V dl' E' := by
  have e1 : V.cells = W.cells := funext hW
  have e2 : dl' = dl := funext hd
  have e3 : E' = E := funext fun j => propext (hE j)
  subst e2; subst e3
  have i1 : ∀ id, inoW V id = inoW W id := fun id => by unfold inoW; rw [e1]
  have i2 : ∀ id, isD V id = isD W id := fun id => by unfold isD; rw [i1]
  have i3 : ∀ id, upD V id = upD W id := fun id => by unfold upD; rw [e1]
  have i4 : ∀ n d, Dp V n d ↔ Dp W n d := Dp_same fun j => hW _
  obtain ⟨a1, a2, a3, a4, a5, a6, a7, a8, a9, b1⟩ := h
  constructor
  · simpa only [e1, i1, i2, i3] using a1
  · simpa only [e1, i1, i2, i3] using a2
  · simpa only [e1, i1, i2, i3] using a3
  · simpa only [e1, i1, i2, i3] using a4
  · simpa only [e1, i1, i2, i3] using a5
  · simpa only [e1, i1, i2, i3] using a6
  · simpa only [e1, i1, i2, i3] using a7
  · simpa only [e1, i1, i2, i3] using a8
  · simpa only [e1, i1, i2, i3, i4] using a9
  · intro id n hi hk
    rw [i1] at hi
    obtain ⟨c, ⟨l, l1, l2, l3⟩, hc⟩ := b1 id n hi hk
    exact ⟨c, ⟨l, l1, l2, fun k => by rw [hW]; exact l3 k⟩, hc⟩
/-- P1: an entry of a file goes -/
theorem TI.delF {W : WS} {dl : Bs → Int} {E : Bs → Prop} (h : TI W dl E) {d x : Bs} (hf : isF W (W.cells (kE d x))) : TI (putS W (kE d x) []) (bump dl (W.cells (kE d x)) 1) E := by
  have i1 : ∀ id, inoW (putS W (kE d x) []) id = inoW W id := fun id => ino_same (put_ne kI_kE)
  have i2 : ∀ id, isD (putS W (kE d x) []) id = isD W id := fun id => by unfold isD; rw [i1]
  have i3 : ∀ id, upD (putS W (kE d x) []) id = upD W id := fun id => put_ne kU_kE
  have i4 : ∀ n d', Dp (putS W (kE d x) []) n d' ↔ Dp W n d' := Dp_same fun j => put_ne kU_kE
  have hne : W.cells (kE d x) ≠ [] := by obtain ⟨n, q, _⟩ := hf; exact h.ne q
  have c1 : ∀ k, (putS W (kE d x) []).cells k ≠ [] → k ≠ kE d x ∧ (putS W (kE d x) []).cells k = W.cells k := fun k hk => by
    by_cases q : k = kE d x
    · subst q; rw [put_self] at hk; exact absurd rfl hk
    · exact ⟨q, put_ne q⟩
  constructor
  · intro id hi
    rw [put_ne kI_kE] at hi
    rw [i1]; exact h.ino id hi
  · intro k hp hk
    obtain ⟨_, e⟩ := c1 k hk
    rw [e, i1]
    rw [e] at hk
    simpa only [i2] using h.ent k hp hk
  · rw [i2]; exact h.root
  · intro k hp hk
    obtain ⟨_, e⟩ := c1 k (by rw [hk]; simp)
    rw [e] at hk
    exact h.noroot k hp hk
  · intro d' y hy hD
    rw [i2] at hD
    obtain ⟨_, e⟩ := c1 (kE d' y) (h.neD hD)
    rw [e] at hD ⊢
    rw [i3]; exact h.own d' y hy hD
  · intro d' y z hy hz hD he
    rw [i2] at hD
    obtain ⟨_, e⟩ := c1 (kE d' y) (h.neD hD)
    obtain ⟨_, e2⟩ := c1 (kE d' z) (by rw [he]; exact h.neD hD)
    rw [e2, e] at he
    rw [e] at hD
    exact h.one d' y z hy hz hD he
  · intro id hD hr
    rw [i2] at hD
    obtain ⟨a, b⟩ := h.has id hD hr
    rw [i2, i3]
    refine ⟨a, fun q => ?_⟩
    obtain ⟨y, y1, y2⟩ := b q
    refine ⟨y, y1, ?_⟩
    rw [put_ne]
    · exact y2
    · intro q2
      rw [q2] at y2
      rw [y2] at hf
      exact not_DF hD hf
  · intro id hE
    obtain ⟨a, b, c⟩ := h.out id hE
    refine ⟨by rw [i2]; exact a, b, fun d' y hy q => ?_⟩
    obtain ⟨_, e⟩ := c1 (kE d' y) (by rw [q]; exact h.neD a)
    rw [e] at q
    exact c d' y hy q
  · intro id hD
    rw [i2] at hD
    obtain ⟨n, a, b⟩ := h.dep id hD
    exact ⟨n, a, (i4 n id).2 b⟩
  · intro id n hi hk
    rw [i1] at hi
    obtain ⟨c, ⟨l, l1, l2, l3⟩, hc⟩ := h.lnk id n hi hk
    by_cases q : id = W.cells (kE d x)
    · subst q
      have hm : kE d x ∈ l := (l3 _).2 ⟨pre_kE _ _, rfl⟩
      have hp := List.length_pos_of_mem hm
      refine ⟨c - 1, ⟨l.erase (kE d x), by rw [List.length_erase_of_mem hm]; omega, l2.erase _, fun k => ?_⟩, by simp only [bump, if_true]; omega⟩
      rw [l2.mem_erase_iff, l3]
      constructor
      · rintro ⟨q1, q2, q3⟩; exact ⟨q2, by rw [put_ne q1]; exact q3⟩
      · rintro ⟨q2, q3⟩
        obtain ⟨q1, e⟩ := c1 k (by rw [q3]; exact hne)
        exact ⟨q1, q2, by rw [← e]; exact q3⟩
    · refine ⟨c, ⟨l, l1, l2, fun k => ?_⟩, by simp only [bump, if_neg q]; exact hc⟩
      rw [l3]
      constructor
      · rintro ⟨q2, q3⟩
        refine ⟨q2, ?_⟩
        rw [put_ne]
        · exact q3
        · rintro rfl; exact q q3.symm
      · rintro ⟨q2, q3⟩
        obtain ⟨_, e⟩ := c1 k (by rw [q3]; exact h.ne hi)
        exact ⟨q2, by rw [← e]; exact q3⟩
/-- P2: an entry of a file comes -/
theorem TI.putF {W : WS} {dl : Bs → Int} {E : Bs → Prop} (h : TI W dl E) {d x id : Bs} (hx : nameB x = true) (hd : isD W d) (h0 : W.cells (kE d x) = []) (hf : isF W id) : TI (putS W (kE d x) id) (bump dl id (-1)) E := by
  have i1 : ∀ j, inoW (putS W (kE d x) id) j = inoW W j := fun j => ino_same (put_ne kI_kE)
  have i2 : ∀ j, isD (putS W (kE d x) id) j = isD W j := fun j => by unfold isD; rw [i1]
  have i3 : ∀ j, upD (putS W (kE d x) id) j = upD W j := fun j => put_ne kU_kE
  have i4 : ∀ n d', Dp (putS W (kE d x) id) n d' ↔ Dp W n d' := Dp_same fun j => put_ne kU_kE
  have hne : id ≠ [] := by obtain ⟨n, q, _⟩ := hf; exact h.ne q
  have c1 : ∀ k, k = kE d x ∧ (putS W (kE d x) id).cells k = id ∨ k ≠ kE d x ∧ (putS W (kE d x) id).cells k = W.cells k := fun k => by
    by_cases q : k = kE d x
    · subst q; exact .inl ⟨rfl, put_self⟩
    · exact .inr ⟨q, put_ne q⟩
  have cD : ∀ k, isD W ((putS W (kE d x) id).cells k) → k ≠ kE d x ∧ (putS W (kE d x) id).cells k = W.cells k := fun k hk => by
    rcases c1 k with ⟨_, e⟩ | q
    · rw [e] at hk; exact (not_DF hk hf).elim
    · exact q
  constructor
  · intro j hi
    rw [put_ne kI_kE] at hi
    rw [i1]; exact h.ino j hi
  · intro k hp hk
    rcases c1 k with ⟨q, e⟩ | ⟨q, e⟩
    · rw [e, i1]
      obtain ⟨n, q2, _⟩ := hf
      exact ⟨⟨d, x, q, hx, by rw [i2]; exact hd⟩, n, q2⟩
    · rw [e, i1]
      rw [e] at hk
      simpa only [i2] using h.ent k hp hk
  · rw [i2]; exact h.root
  · intro k hp hk
    obtain ⟨_, e⟩ := cD k (by rw [hk]; exact h.root)
    rw [e] at hk
    exact h.noroot k hp hk
  · intro d' y hy hD
    rw [i2] at hD
    obtain ⟨_, e⟩ := cD _ hD
    rw [e] at hD ⊢
    rw [i3]; exact h.own d' y hy hD
  · intro d' y z hy hz hD he
    rw [i2] at hD
    obtain ⟨_, e⟩ := cD _ hD
    obtain ⟨_, e2⟩ := cD (kE d' z) (by rw [he]; exact hD)
    rw [e2, e] at he
    rw [e] at hD
    exact h.one d' y z hy hz hD he
  · intro j hD hr
    rw [i2] at hD
    obtain ⟨a, b⟩ := h.has j hD hr
    rw [i2, i3]
    refine ⟨a, fun q => ?_⟩
    obtain ⟨y, y1, y2⟩ := b q
    refine ⟨y, y1, ?_⟩
    rw [put_ne]
    · exact y2
    · intro q2
      rw [q2, h0] at y2
      exact h.neD hD y2.symm
  · intro j hE
    obtain ⟨a, b, c⟩ := h.out j hE
    refine ⟨by rw [i2]; exact a, b, fun d' y hy q => ?_⟩
    obtain ⟨_, e⟩ := cD (kE d' y) (by rw [q]; exact a)
    rw [e] at q
    exact c d' y hy q
  · intro j hD
    rw [i2] at hD
    obtain ⟨n, a, b⟩ := h.dep j hD
    exact ⟨n, a, (i4 n j).2 b⟩
  · intro j n hi hk
    rw [i1] at hi
    obtain ⟨c, ⟨l, l1, l2, l3⟩, hc⟩ := h.lnk j n hi hk
    by_cases q : j = id
    · subst q
      have hm : kE d x ∉ l := fun q => by
        have := ((l3 _).1 q).2
        rw [h0] at this; exact hne this.symm
      refine ⟨c + 1, ⟨kE d x :: l, by simp [l1], List.nodup_cons.2 ⟨hm, l2⟩, fun k => ?_⟩, by simp only [bump, if_true]; omega⟩
      rw [List.mem_cons, l3]
      constructor
      · rintro (rfl | ⟨q2, q3⟩)
        · exact ⟨pre_kE _ _, put_self⟩
        · refine ⟨q2, ?_⟩
          rw [put_ne]
          · exact q3
          · rintro rfl; rw [h0] at q3; exact hne q3.symm
      · rintro ⟨q2, q3⟩
        rcases c1 k with ⟨q, _⟩ | ⟨_, e⟩
        · exact .inl q
        · exact .inr ⟨q2, by rw [← e]; exact q3⟩
    · refine ⟨c, ⟨l, l1, l2, fun k => ?_⟩, by simp only [bump, if_neg q]; exact hc⟩
      rw [l3]
      constructor
      · rintro ⟨q2, q3⟩
        refine ⟨q2, ?_⟩
        rw [put_ne]
        · exact q3
        · rintro rfl; rw [h0] at q3; exact h.ne hi q3.symm
      · rintro ⟨q2, q3⟩
        rcases c1 k with ⟨_, e⟩ | ⟨_, e⟩
        · rw [e] at q3; exact absurd q3.symm q
        · exact ⟨q2, by rw [← e]; exact q3⟩
/-- P3: the links of a file -/
theorem TI.setF {W : WS} {dl : Bs → Int} {E : Bs → Prop} (h : TI W dl E) {id : Bs} {n n' : InD} {b : Int} (hi : inoW W id = some n) (hk : n.k = 1) (hk' : n'.k = 1) (hl : n'.ln = n.ln + b) (hI : InB n') : TI (setI W id n') (bump dl id b) E := by
  have i0 : inoW (setI W id n') id = some n' := by unfold inoW setI; rw [put_self]; exact dec_enc hI
  have i1 : ∀ j, j ≠ id → inoW (setI W id n') j = inoW W j := fun j q => ino_same (put_ne fun q2 => q (kI_inj q2))
  have i2 : ∀ j, isD (setI W id n') j = isD W j := fun j => by
    by_cases q : j = id
    · subst q
      refine propext ⟨?_, ?_⟩
      · rintro ⟨m, a, b⟩; rw [i0] at a; cases a; omega
      · rintro ⟨m, a, b⟩; rw [hi] at a; cases a; omega
    · unfold isD; rw [i1 j q]
  have i3 : ∀ j, upD (setI W id n') j = upD W j := fun j => put_ne fun q => kI_kU q.symm
  have i4 : ∀ m d', Dp (setI W id n') m d' ↔ Dp W m d' := Dp_same fun j => put_ne fun q => kI_kU q.symm
  have c1 : ∀ d x, (setI W id n').cells (kE d x) = W.cells (kE d x) := fun d x => put_ne fun q => kI_kE q.symm
  have c2 : ∀ k, Lib.hasPrefix k [100, 47] = true → (setI W id n').cells k = W.cells k := fun k hp => put_ne fun q => by subst q; exact pre_kI _ hp
  constructor
  · intro j hj
    by_cases q : j = id
    · subst q; exact ⟨h.right hi, n', i0, .inl hk'⟩
    · unfold setI at hj
      rw [put_ne fun q2 => q (kI_inj q2)] at hj
      rw [i1 j q]; exact h.ino j hj
  · intro k hp hk0
    rw [c2 k hp] at hk0 ⊢
    obtain ⟨⟨d, x, a1, a2, a3⟩, m, a4⟩ := h.ent k hp hk0
    refine ⟨⟨d, x, a1, a2, by rw [i2]; exact a3⟩, ?_⟩
    by_cases q : W.cells k = id
    · rw [q]; exact ⟨n', i0⟩
    · rw [i1 _ q]; exact ⟨m, a4⟩
  · rw [i2]; exact h.root
  · intro k hp; rw [c2 k hp]; exact h.noroot k hp
  · intro d x hx; rw [c1, i2, i3]; exact h.own d x hx
  · intro d x y hx hy; rw [c1, c1, i2]; exact h.one d x y hx hy
  · intro j; rw [i2, i2, i3]; simp only [c1]; exact h.has j
  · intro j; rw [i2]; simp only [c1]; exact h.out j
  · intro j hD
    rw [i2] at hD
    obtain ⟨m, a, b⟩ := h.dep j hD
    exact ⟨m, a, (i4 m j).2 b⟩
  · intro j m hj hmk
    have cc : ∀ c, EntC W j c → EntC (setI W id n') j c := by
      rintro c ⟨l, l1, l2, l3⟩
      refine ⟨l, l1, l2, fun k => ?_⟩
      rw [l3]
      constructor
      · rintro ⟨q1, q2⟩; exact ⟨q1, by rw [c2 k q1]; exact q2⟩
      · rintro ⟨q1, q2⟩; exact ⟨q1, by rw [← c2 k q1]; exact q2⟩
    by_cases q : j = id
    · subst q
      rw [i0] at hj; cases hj
      obtain ⟨c, a, e⟩ := h.lnk j n hi hk
      exact ⟨c, cc c a, by simp only [bump, if_true]; omega⟩
    · rw [i1 j q] at hj
      obtain ⟨c, a, e⟩ := h.lnk j m hj hmk
      exact ⟨c, cc c a, by simp only [bump, if_neg q]; exact e⟩
/-- P4: the entry of a directory goes -/
theorem TI.delD {W : WS} {dl : Bs → Int} {E : Bs → Prop} (h : TI W dl E) {d x : Bs} (hx : nameB x = true) (hf : isD W (W.cells (kE d x))) : TI (putS W (kE d x) []) dl (fun j => E j ∨ j = W.cells (kE d x)) := by
  have i1 : ∀ id, inoW (putS W (kE d x) []) id = inoW W id := fun id => ino_same (put_ne kI_kE)
  have i2 : ∀ id, isD (putS W (kE d x) []) id = isD W id := fun id => by unfold isD; rw [i1]
  have i3 : ∀ id, upD (putS W (kE d x) []) id = upD W id := fun id => put_ne kU_kE
  have i4 : ∀ n d', Dp (putS W (kE d x) []) n d' ↔ Dp W n d' := Dp_same fun j => put_ne kU_kE
  have hne : W.cells (kE d x) ≠ [] := h.neD hf
  have c1 : ∀ k, (putS W (kE d x) []).cells k ≠ [] → k ≠ kE d x ∧ (putS W (kE d x) []).cells k = W.cells k := fun k hk => by
    by_cases q : k = kE d x
    · subst q; rw [put_self] at hk; exact absurd rfl hk
    · exact ⟨q, put_ne q⟩
  constructor
  · intro id hi
    rw [put_ne kI_kE] at hi
    rw [i1]; exact h.ino id hi
  · intro k hp hk
    obtain ⟨_, e⟩ := c1 k hk
    rw [e, i1]
    rw [e] at hk
    simpa only [i2] using h.ent k hp hk
  · rw [i2]; exact h.root
  · intro k hp hk
    obtain ⟨_, e⟩ := c1 k (by rw [hk]; simp)
    rw [e] at hk
    exact h.noroot k hp hk
  · intro d' y hy hD
    rw [i2] at hD
    obtain ⟨_, e⟩ := c1 (kE d' y) (h.neD hD)
    rw [e] at hD ⊢
    rw [i3]; exact h.own d' y hy hD
  · intro d' y z hy hz hD he
    rw [i2] at hD
    obtain ⟨_, e⟩ := c1 (kE d' y) (h.neD hD)
    obtain ⟨_, e2⟩ := c1 (kE d' z) (by rw [he]; exact h.neD hD)
    rw [e2, e] at he
    rw [e] at hD
    exact h.one d' y z hy hz hD he
  · intro id hD hr
    rw [i2] at hD
    obtain ⟨a, b⟩ := h.has id hD hr
    rw [i2, i3]
    refine ⟨a, fun q => ?_⟩
    obtain ⟨y, y1, y2⟩ := b (fun q2 => q (.inl q2))
    refine ⟨y, y1, ?_⟩
    rw [put_ne]
    · exact y2
    · intro q2
      rw [q2] at y2
      exact q (.inr y2.symm)
  · intro id hE
    rcases hE with hE | rfl
    · obtain ⟨a, b, c⟩ := h.out id hE
      refine ⟨by rw [i2]; exact a, b, fun d' y hy q => ?_⟩
      obtain ⟨_, e⟩ := c1 (kE d' y) (by rw [q]; exact h.neD a)
      rw [e] at q
      exact c d' y hy q
    · refine ⟨by rw [i2]; exact hf, h.noroot _ (pre_kE _ _), fun d' y hy q => ?_⟩
      obtain ⟨q1, e⟩ := c1 (kE d' y) (by rw [q]; exact hne)
      rw [e] at q
      have e1 := h.own d x hx hf
      have e2 := h.own d' y hy (by rw [q]; exact hf)
      rw [q, e1] at e2
      subst e2
      exact q1 (by rw [h.one d x y hx hy hf q])
  · intro id hD
    rw [i2] at hD
    obtain ⟨n, a, b⟩ := h.dep id hD
    exact ⟨n, a, (i4 n id).2 b⟩
  · intro id n hi hk
    rw [i1] at hi
    obtain ⟨c, ⟨l, l1, l2, l3⟩, hc⟩ := h.lnk id n hi hk
    refine ⟨c, ⟨l, l1, l2, fun k => ?_⟩, hc⟩
    rw [l3]
    constructor
    · rintro ⟨q2, q3⟩
      refine ⟨q2, ?_⟩
      rw [put_ne]
      · exact q3
      · rintro rfl; rw [q3] at hf; exact not_DF hf ⟨n, hi, hk⟩
    · rintro ⟨q2, q3⟩
      obtain ⟨_, e⟩ := c1 k (by rw [q3]; exact h.ne hi)
      exact ⟨q2, by rw [← e]; exact q3⟩
/-- P5: the entry of a directory comes -/
theorem TI.putD {W : WS} {dl : Bs → Int} {E : Bs → Prop} (h : TI W dl E) {d x id : Bs} (hx : nameB x = true) (hd : isD W d) (h0 : W.cells (kE d x) = []) (hE : E id) (hu : upD W id = d) : TI (putS W (kE d x) id) dl (fun j => E j ∧ j ≠ id) := by
  have i1 : ∀ j, inoW (putS W (kE d x) id) j = inoW W j := fun j => ino_same (put_ne kI_kE)
  have i2 : ∀ j, isD (putS W (kE d x) id) j = isD W j := fun j => by unfold isD; rw [i1]
  have i3 : ∀ j, upD (putS W (kE d x) id) j = upD W j := fun j => put_ne kU_kE
  have i4 : ∀ n d', Dp (putS W (kE d x) id) n d' ↔ Dp W n d' := Dp_same fun j => put_ne kU_kE
  obtain ⟨hD, hr, hno⟩ := h.out id hE
  have hne : id ≠ [] := h.neD hD
  have c1 : ∀ k, k = kE d x ∧ (putS W (kE d x) id).cells k = id ∨ k ≠ kE d x ∧ (putS W (kE d x) id).cells k = W.cells k := fun k => by
    by_cases q : k = kE d x
    · subst q; exact .inl ⟨rfl, put_self⟩
    · exact .inr ⟨q, put_ne q⟩
  constructor
  · intro j hi
    rw [put_ne kI_kE] at hi
    rw [i1]; exact h.ino j hi
  · intro k hp hk
    rcases c1 k with ⟨q, e⟩ | ⟨q, e⟩
    · rw [e, i1]
      obtain ⟨n, q2, _⟩ := hD
      exact ⟨⟨d, x, q, hx, by rw [i2]; exact hd⟩, n, q2⟩
    · rw [e, i1]
      rw [e] at hk
      simpa only [i2] using h.ent k hp hk
  · rw [i2]; exact h.root
  · intro k hp hk
    rcases c1 k with ⟨q, e⟩ | ⟨q, e⟩
    · rw [e] at hk; exact hr hk
    · rw [e] at hk; exact h.noroot k hp hk
  · intro d' y hy hD'
    rw [i2] at hD'
    rw [i3]
    rcases c1 (kE d' y) with ⟨q, e⟩ | ⟨q, e⟩
    · rw [e, hu]; exact (kE_inj (nm47 hy) (nm47 hx) q).1.symm
    · rw [e] at hD' ⊢; exact h.own d' y hy hD'
  · intro d' y z hy hz hD' he
    rw [i2] at hD'
    rcases c1 (kE d' y) with ⟨q, e⟩ | ⟨q, e⟩
    · rcases c1 (kE d' z) with ⟨q2, e2⟩ | ⟨q2, e2⟩
      · exact (kE_inj (nm47 hy) (nm47 hz) (q.trans q2.symm)).2
      · rw [e2, e] at he; exact absurd he (hno d' z hz)
    · rcases c1 (kE d' z) with ⟨q2, e2⟩ | ⟨q2, e2⟩
      · rw [e2, e] at he; exact absurd he.symm (hno d' y hy)
      · rw [e2, e] at he
        rw [e] at hD'
        exact h.one d' y z hy hz hD' he
  · intro j hDj hrj
    rw [i2] at hDj
    obtain ⟨a, b⟩ := h.has j hDj hrj
    rw [i2, i3]
    refine ⟨a, fun q => ?_⟩
    by_cases qj : j = id
    · subst qj; exact ⟨x, hx, by rw [hu, put_self]⟩
    · obtain ⟨y, y1, y2⟩ := b (fun q2 => q ⟨q2, qj⟩)
      refine ⟨y, y1, ?_⟩
      rw [put_ne]
      · exact y2
      · intro q2
        rw [q2, h0] at y2
        exact h.neD hDj y2.symm
  · rintro j ⟨hE', qj⟩
    obtain ⟨a, b, c⟩ := h.out j hE'
    refine ⟨by rw [i2]; exact a, b, fun d' y hy q => ?_⟩
    rcases c1 (kE d' y) with ⟨_, e⟩ | ⟨_, e⟩
    · rw [e] at q; exact qj q.symm
    · rw [e] at q; exact c d' y hy q
  · intro j hDj
    rw [i2] at hDj
    obtain ⟨n, a, b⟩ := h.dep j hDj
    exact ⟨n, a, (i4 n j).2 b⟩
  · intro j n hi hk
    rw [i1] at hi
    obtain ⟨c, ⟨l, l1, l2, l3⟩, hc⟩ := h.lnk j n hi hk
    refine ⟨c, ⟨l, l1, l2, fun k => ?_⟩, hc⟩
    rw [l3]
    constructor
    · rintro ⟨q2, q3⟩
      refine ⟨q2, ?_⟩
      rw [put_ne]
      · exact q3
      · rintro rfl; rw [h0] at q3; exact h.ne hi q3.symm
    · rintro ⟨q2, q3⟩
      rcases c1 k with ⟨_, e⟩ | ⟨_, e⟩
      · rw [e] at q3; subst q3; exact (not_DF hD ⟨n, hi, hk⟩).elim
      · exact ⟨q2, by rw [← e]; exact q3⟩
theorem Dp_one {W : WS} : ∀ {n m : Nat} {d : Bs}, Dp W n d → Dp W m d → n = m
  | 0, 0, _, _, _ => rfl
  | 0, m + 1, _, a, b => absurd a b.1
  | n + 1, 0, _, a, b => absurd b a.1
  | n + 1, m + 1, _, a, b => by rw [Dp_one a.2 b.2]
/-- P6: a directory without entry and entries goes -/
theorem TI.rmD {W : WS} {dl : Bs → Int} {E : Bs → Prop} (h : TI W dl E) {id : Bs} (hE : E id) (hE1 : ∀ j, E j → j = id) (hemp : ∀ x, nameB x = true → W.cells (kE id x) = []) : TI (noI W id) dl (fun j => E j ∧ j ≠ id) := by
  obtain ⟨hD, hr, hno⟩ := h.out id hE
  have i0 : inoW (noI W id) id = none := by unfold inoW noI; rw [put_ne kI_kU, put_self]; rfl
  have i1 : ∀ j, j ≠ id → inoW (noI W id) j = inoW W j := fun j q => ino_same (by unfold noI; rw [put_ne kI_kU, put_ne fun q2 => q (kI_inj q2)])
  have i2 : ∀ j, isD (noI W id) j ↔ isD W j ∧ j ≠ id := fun j => by
    by_cases q : j = id
    · subst q
      constructor
      · rintro ⟨m, a, _⟩; rw [i0] at a; cases a
      · rintro ⟨_, b⟩; exact absurd rfl b
    · unfold isD; rw [i1 j q]; exact ⟨fun a => ⟨a, q⟩, fun a => a.1⟩
  have i3 : ∀ j, j ≠ id → upD (noI W id) j = upD W j := fun j q => by unfold upD noI; rw [put_ne fun q2 => q (kU_inj q2), put_ne fun q2 => kI_kU q2.symm]
  have hnc : ∀ x, isD W x → x ≠ [114] → upD W x ≠ id := fun x hx hxr q => by
    obtain ⟨a, b⟩ := h.has x hx hxr
    by_cases q2 : E x
    · have := hE1 x q2; subst this
      obtain ⟨n, _, hn⟩ := h.dep x hx
      have : Dp W (n + 1) x := ⟨hxr, by rw [q]; exact hn⟩
      have := Dp_one this hn; omega
    · obtain ⟨y, y1, y2⟩ := b q2
      rw [q, hemp y y1] at y2
      exact h.neD hx y2.symm
  have i4 : ∀ n j, isD W j → j ≠ id → Dp W n j → Dp (noI W id) n j := by
    intro n
    induction n with
    | zero => intro j _ _ hj; exact hj
    | succ n ih =>
      intro j hj qj hd
      exact ⟨hd.1, by rw [i3 j qj]; exact ih _ (h.has j hj hd.1).1 (hnc j hj hd.1) hd.2⟩
  have c2 : ∀ k, Lib.hasPrefix k [100, 47] = true → (noI W id).cells k = W.cells k := fun k hp => by
    unfold noI
    rw [put_ne fun q => by subst q; exact pre_kU _ hp, put_ne fun q => by subst q; exact pre_kI _ hp]
  have c1 : ∀ d x, (noI W id).cells (kE d x) = W.cells (kE d x) := fun d x => c2 _ (pre_kE _ _)
  constructor
  · intro j hj
    by_cases q : j = id
    · subst q; unfold noI at hj; rw [put_ne kI_kU, put_self] at hj; exact absurd rfl hj
    · unfold noI at hj
      rw [put_ne kI_kU, put_ne fun q2 => q (kI_inj q2)] at hj
      rw [i1 j q]; exact h.ino j hj
  · intro k hp hk
    rw [c2 k hp] at hk ⊢
    obtain ⟨⟨d, x, a1, a2, a3⟩, m, a4⟩ := h.ent k hp hk
    have q1 : d ≠ id := fun q => by
      subst q; subst a1
      exact hk (hemp x a2)
    have q2 : W.cells k ≠ id := fun q => by rw [a1] at q; exact hno d x a2 q
    exact ⟨⟨d, x, a1, a2, (i2 d).2 ⟨a3, q1⟩⟩, m, by rw [i1 _ q2]; exact a4⟩
  · exact (i2 _).2 ⟨h.root, hr.symm⟩
  · intro k hp; rw [c2 k hp]; exact h.noroot k hp
  · intro d x hx hDx
    rw [c1] at hDx ⊢
    obtain ⟨a, b⟩ := (i2 _).1 hDx
    rw [i3 _ b]; exact h.own d x hx a
  · intro d x y hx hy hDx
    rw [c1] at hDx
    rw [c1, c1]; exact h.one d x y hx hy ((i2 _).1 hDx).1
  · intro j hj hjr
    obtain ⟨a, b⟩ := (i2 j).1 hj
    obtain ⟨p, q⟩ := h.has j a hjr
    rw [i3 j b]
    refine ⟨(i2 _).2 ⟨p, hnc j a hjr⟩, fun hq => ?_⟩
    obtain ⟨y, y1, y2⟩ := q fun q3 => hq ⟨q3, b⟩
    exact ⟨y, y1, by rw [c1]; exact y2⟩
  · rintro j ⟨hj, q⟩
    exact absurd (hE1 j hj) q
  · intro j hj
    obtain ⟨a, b⟩ := (i2 j).1 hj
    obtain ⟨n, p, q⟩ := h.dep j a
    exact ⟨n, p, i4 n j a b q⟩
  · intro j m hj hmk
    by_cases q : j = id
    · subst q; rw [i0] at hj; cases hj
    · rw [i1 j q] at hj
      obtain ⟨c, ⟨l, l1, l2, l3⟩, e⟩ := h.lnk j m hj hmk
      refine ⟨c, ⟨l, l1, l2, fun k => ?_⟩, e⟩
      rw [l3]
      constructor
      · rintro ⟨q1, q2⟩; exact ⟨q1, by rw [c2 k q1]; exact q2⟩
      · rintro ⟨q1, q2⟩; exact ⟨q1, by rw [← c2 k q1]; exact q2⟩
/-- P7: a new directory -/
theorem TI.newD {W : WS} {dl : Bs → Int} {E : Bs → Prop} (h : TI W dl E) {id d : Bs} (h0 : inoW W id = none) (hid : rightB id = true) (hd : isD W d) {n : Nat} (hn : n < 8) (hdp : Dp W n d) : TI (putS (setI W id mkdI) (kU id) d) dl (fun j => E j ∨ j = id) := by
  have hne := (right_is hid).2
  have hD0 : ¬ isD W id := fun ⟨m, a, _⟩ => by rw [h0] at a; cases a
  have hr : id ≠ [114] := fun q => by subst q; exact hD0 h.root
  have i0 : inoW (putS (setI W id mkdI) (kU id) d) id = some mkdI := by unfold inoW setI; rw [put_ne kI_kU, put_self]; exact dec_enc mkdI_in
  have i1 : ∀ j, j ≠ id → inoW (putS (setI W id mkdI) (kU id) d) j = inoW W j := fun j q => ino_same (by unfold setI; rw [put_ne kI_kU, put_ne fun q2 => q (kI_inj q2)])
  have i2 : ∀ j, isD (putS (setI W id mkdI) (kU id) d) j ↔ isD W j ∨ j = id := fun j => by
    by_cases q : j = id
    · subst q; exact ⟨fun _ => .inr rfl, fun _ => ⟨mkdI, i0, rfl⟩⟩
    · unfold isD; rw [i1 j q]; exact ⟨fun a => .inl a, fun a => a.resolve_right q⟩
  have i3 : ∀ j, j ≠ id → upD (putS (setI W id mkdI) (kU id) d) j = upD W j := fun j q => by unfold upD setI; rw [put_ne fun q2 => q (kU_inj q2), put_ne fun q2 => kI_kU q2.symm]
  have i3' : upD (putS (setI W id mkdI) (kU id) d) id = d := put_self
  have nid : ∀ j, isD W j → j ≠ id := fun j hj q => by subst q; exact hD0 hj
  have i4 : ∀ n j, isD W j → Dp W n j → Dp (putS (setI W id mkdI) (kU id) d) n j := by
    intro n
    induction n with
    | zero => intro j _ hj; exact hj
    | succ n ih =>
      intro j hj hq
      exact ⟨hq.1, by rw [i3 j (nid j hj)]; exact ih _ (h.has j hj hq.1).1 hq.2⟩
  have c2 : ∀ k, Lib.hasPrefix k [100, 47] = true → (putS (setI W id mkdI) (kU id) d).cells k = W.cells k := fun k hp => by
    unfold setI
    rw [put_ne fun q => by subst q; exact pre_kU _ hp, put_ne fun q => by subst q; exact pre_kI _ hp]
  have c1 : ∀ d' x, (putS (setI W id mkdI) (kU id) d).cells (kE d' x) = W.cells (kE d' x) := fun d' x => c2 _ (pre_kE _ _)
  have noE : ∀ k, Lib.hasPrefix k [100, 47] = true → W.cells k ≠ id := fun k hp q => by
    obtain ⟨_, m, a⟩ := h.ent k hp (by rw [q]; exact hne)
    rw [q, h0] at a; cases a
  constructor
  · intro j hj
    by_cases q : j = id
    · subst q; exact ⟨hid, mkdI, i0, .inr rfl⟩
    · unfold setI at hj
      rw [put_ne kI_kU, put_ne fun q2 => q (kI_inj q2)] at hj
      rw [i1 j q]; exact h.ino j hj
  · intro k hp hk
    rw [c2 k hp] at hk ⊢
    obtain ⟨⟨d', x, a1, a2, a3⟩, m, a4⟩ := h.ent k hp hk
    exact ⟨⟨d', x, a1, a2, (i2 _).2 (.inl a3)⟩, m, by rw [i1 _ (noE k hp)]; exact a4⟩
  · exact (i2 _).2 (.inl h.root)
  · intro k hp; rw [c2 k hp]; exact h.noroot k hp
  · intro d' x hx hDx
    rw [c1] at hDx ⊢
    have q := noE _ (pre_kE d' x)
    rw [i3 _ q]; exact h.own d' x hx (((i2 _).1 hDx).resolve_right q)
  · intro d' x y hx hy hDx
    rw [c1] at hDx
    rw [c1, c1]; exact h.one d' x y hx hy (((i2 _).1 hDx).resolve_right (noE _ (pre_kE d' x)))
  · intro j hj hjr
    rcases (i2 j).1 hj with hj | rfl
    · have q := nid j hj
      obtain ⟨p1, p2⟩ := h.has j hj hjr
      rw [i3 j q]
      refine ⟨(i2 _).2 (.inl p1), fun hq => ?_⟩
      obtain ⟨y, y1, y2⟩ := p2 fun q3 => hq (.inl q3)
      exact ⟨y, y1, by rw [c1]; exact y2⟩
    · rw [i3']; exact ⟨(i2 _).2 (.inl hd), fun hq => absurd (.inr rfl) hq⟩
  · rintro j (hj | rfl)
    · obtain ⟨a, b, c⟩ := h.out j hj
      exact ⟨(i2 _).2 (.inl a), b, fun d' x hx => by rw [c1]; exact c d' x hx⟩
    · exact ⟨(i2 _).2 (.inr rfl), hr, fun d' x _ => by rw [c1]; exact noE _ (pre_kE _ _)⟩
  · intro j hj
    rcases (i2 j).1 hj with hj | rfl
    · obtain ⟨m, p, q⟩ := h.dep j hj
      exact ⟨m, p, i4 m j hj q⟩
    · exact ⟨n + 1, by omega, hr, by rw [i3']; exact i4 n d hd hdp⟩
  · intro j m hj hmk
    by_cases q : j = id
    · subst q; rw [i0] at hj; cases hj; exact absurd hmk (by decide)
    · rw [i1 j q] at hj
      obtain ⟨c, ⟨l, l1, l2, l3⟩, e⟩ := h.lnk j m hj hmk
      refine ⟨c, ⟨l, l1, l2, fun k => ?_⟩, e⟩
      rw [l3]
      constructor
      · rintro ⟨q1, q2⟩; exact ⟨q1, by rw [c2 k q1]; exact q2⟩
      · rintro ⟨q1, q2⟩; exact ⟨q1, by rw [← c2 k q1]; exact q2⟩
/-- P8: a new file -/
theorem TI.newF {W : WS} {dl : Bs → Int} {E : Bs → Prop} (h : TI W dl E) {id : Bs} (h0 : inoW W id = none) (hid : rightB id = true) (hz : dl id = 0) : TI (setI W id filI) dl E := by
  have hne := (right_is hid).2
  have hD0 : ¬ isD W id := fun ⟨m, a, _⟩ => by rw [h0] at a; cases a
  have i0 : inoW (setI W id filI) id = some filI := by unfold inoW setI; rw [put_self]; exact dec_enc filI_in
  have i1 : ∀ j, j ≠ id → inoW (setI W id filI) j = inoW W j := fun j q => ino_same (put_ne fun q2 => q (kI_inj q2))
  have i2 : ∀ j, isD (setI W id filI) j = isD W j := fun j => by
    by_cases q : j = id
    · subst q
      refine propext ⟨?_, fun a => absurd a hD0⟩
      rintro ⟨m, a, b⟩; rw [i0] at a; cases a; exact absurd b (by decide)
    · unfold isD; rw [i1 j q]
  have i3 : ∀ j, upD (setI W id filI) j = upD W j := fun j => put_ne fun q => kI_kU q.symm
  have i4 : ∀ m d', Dp (setI W id filI) m d' ↔ Dp W m d' := Dp_same fun j => put_ne fun q => kI_kU q.symm
  have c1 : ∀ d x, (setI W id filI).cells (kE d x) = W.cells (kE d x) := fun d x => put_ne fun q => kI_kE q.symm
  have c2 : ∀ k, Lib.hasPrefix k [100, 47] = true → (setI W id filI).cells k = W.cells k := fun k hp => put_ne fun q => by subst q; exact pre_kI _ hp
  have noE : ∀ k, Lib.hasPrefix k [100, 47] = true → W.cells k ≠ id := fun k hp q => by
    obtain ⟨_, m, a⟩ := h.ent k hp (by rw [q]; exact hne)
    rw [q, h0] at a; cases a
  constructor
  · intro j hj
    by_cases q : j = id
    · subst q; exact ⟨hid, filI, i0, .inl rfl⟩
    · unfold setI at hj
      rw [put_ne fun q2 => q (kI_inj q2)] at hj
      rw [i1 j q]; exact h.ino j hj
  · intro k hp hk0
    rw [c2 k hp] at hk0 ⊢
    obtain ⟨⟨d, x, a1, a2, a3⟩, m, a4⟩ := h.ent k hp hk0
    exact ⟨⟨d, x, a1, a2, by rw [i2]; exact a3⟩, m, by rw [i1 _ (noE k hp)]; exact a4⟩
  · rw [i2]; exact h.root
  · intro k hp; rw [c2 k hp]; exact h.noroot k hp
  · intro d x hx; rw [c1, i2, i3]; exact h.own d x hx
  · intro d x y hx hy; rw [c1, c1, i2]; exact h.one d x y hx hy
  · intro j; rw [i2, i2, i3]; simp only [c1]; exact h.has j
  · intro j; rw [i2]; simp only [c1]; exact h.out j
  · intro j hD
    rw [i2] at hD
    obtain ⟨m, a, b⟩ := h.dep j hD
    exact ⟨m, a, (i4 m j).2 b⟩
  · intro j m hj hmk
    by_cases q : j = id
    · subst q
      rw [i0] at hj; cases hj
      refine ⟨0, ⟨[], rfl, List.nodup_nil, fun k => ⟨fun q => (by cases q), fun q => ?_⟩⟩, by rw [hz]; rfl⟩
      rw [c2 k q.1] at q
      exact absurd q.2 (noE k q.1)
    · rw [i1 j q] at hj
      obtain ⟨c, ⟨l, l1, l2, l3⟩, e⟩ := h.lnk j m hj hmk
      refine ⟨c, ⟨l, l1, l2, fun k => ?_⟩, e⟩
      rw [l3]
      constructor
      · rintro ⟨q1, q2⟩; exact ⟨q1, by rw [c2 k q1]; exact q2⟩
      · rintro ⟨q1, q2⟩; exact ⟨q1, by rw [← c2 k q1]; exact q2⟩
/-- the tree at rest -/
def TreeI (W : WS) : Prop := TI W (fun _ => 0) (fun _ => False)
theorem bI_some {W : WS} {id : Bs} (h : bI W id = true) : inoW W id = some (gI' W id) := by
  unfold bI at h
  unfold gI'
  cases q : inoW W id with
  | none => rw [q] at h; cases h
  | some n => rfl
theorem bI_none {W : WS} {id : Bs} (h : bI W id = false) : inoW W id = none := by
  unfold bI at h
  cases q : inoW W id with
  | none => rfl
  | some n => rw [q] at h; cases h
theorem dirE_D {W : WS} {d : Bs} (h : dirE W d = 0) : isD W d := ⟨_, bI_some (dir_k h).1, (dir_k h).2⟩
theorem isD_dirE {W : WS} {d : Bs} (h : isD W d) : dirE W d = 0 := by
  obtain ⟨n, a, b⟩ := h
  unfold dirE bI gI'
  rw [a]
  rw [if_neg (by simp), if_neg (by simp [b])]
theorem TI.file {W : WS} {dl : Bs → Int} {E : Bs → Prop} (h : TI W dl E) {id : Bs} {n : InD} (hi : inoW W id = some n) (hk : n.k ≠ 2) : n.k = 1 := by
  obtain ⟨_, m, a, b⟩ := h.ino id (ino_ne hi)
  rw [hi] at a; cases a
  omega
theorem EntC_le {W : WS} {m : Nat} (hP : PI W m) {id : Bs} (hid : id ≠ []) {c : Nat} (h : EntC W id c) : c ≤ m := by
  obtain ⟨ks, h1, h2⟩ := hP.few
  obtain ⟨l, rfl, h3, h4⟩ := h
  exact Nat.le_trans (List.Nodup.length_le_of_subset h3 fun k hk => h2 k (by rw [((h4 k).1 hk).2]; exact hid)) h1
theorem TreeI.ln {W : WS} (h : TreeI W) {m : Nat} (hP : PI W m) {id : Bs} {n : InD} (hi : inoW W id = some n) (hk : n.k = 1) : 0 ≤ n.ln ∧ n.ln ≤ m := by
  obtain ⟨c, h1, h2⟩ := h.lnk id n hi hk
  have := EntC_le hP (h.ne hi) h1
  omega
theorem wrap_sm {a : Int} (h1 : -1000 ≤ a) (h2 : a ≤ 10000) : IntKind.i64.wrap a = a := by
  simp only [IntKind.wrap, IntKind.bits, IntKind.signed]
  simp
  omega
theorem tree_link {W : WS} {m : Nat} (h : TreeI W) (hP : PI W m) (hm : m ≤ 300) {dir name id : Bs} : TreeI (linkW W dir name id) := by
  unfold linkW
  split
  · rename_i he
    unfold linkE at he
    split at he
    · rename_i q; exact absurd he q
    · rename_i q1
      obtain ⟨hx, hd, hl⟩ := look_of0 (Decidable.not_not.1 q1)
      split at he
      · exact absurd he (by decide)
      · rename_i q2
        have hc0 : W.cells (kE dir name) = [] := by rw [hl] at q2; exact Decidable.not_not.1 q2
        split at he
        · exact absurd he (by decide)
        · rename_i q3
          have hb : bI W id = true := by simpa using q3
          split at he
          · exact absurd he (by decide)
          · rename_i q4
            have hi := bI_some hb
            have hk := h.file hi q4
            have hln := h.ln hP hi hk
            have s1 := TI.putF h hx (dirE_D hd) hc0 ⟨_, hi, hk⟩
            have hi2 : inoW (putS W (kE dir name) id) id = some (gI' W id) := by rw [ino_same (put_ne kI_kE)]; exact hi
            have s2 := s1.setF (n' := lnk (gI' W id) 1) (b := 1) hi2 hk hk (wrap_sm (by omega) (by omega)) (lnk_in (gI_in W id) 1)
            exact s2.congr (fun _ => rfl) (fun j => by simp only [bump]; split <;> omega) (fun _ => Iff.rfl)
  · exact h
theorem look_ok {W : WS} {dir name : Bs} (h : (lookV W dir name).e = 0) (ho : (lookV W dir name).ok = true) : nameB name = true ∧ dirE W dir = 0 ∧ (lookV W dir name).id = W.cells (kE dir name) ∧ (lookV W dir name).id ≠ [] ∧ inoW W (lookV W dir name).id = some (lookV W dir name).n := by
  obtain ⟨hx, hd, hl⟩ := look_of0 h
  rw [hl] at ho ⊢
  simp at ho
  exact ⟨hx, hd, rfl, by simpa using ho.2, bI_some ho.1⟩
theorem tree_unl {W : WS} {m : Nat} (h : TreeI W) (hP : PI W m) (hm : m ≤ 300) {dir name : Bs} : TreeI (unlW W dir name) := by
  unfold unlW
  split
  · rename_i he
    unfold unlE at he
    split at he
    · rename_i q; exact absurd he q
    · rename_i q1
      split at he
      · exact absurd he (by decide)
      · rename_i q2
        obtain ⟨hx, hd, hid, hne, hi⟩ := look_ok (Decidable.not_not.1 q1) (by simpa using q2)
        split at he
        · exact absurd he (by decide)
        · rename_i q3
          have hk := h.file hi q3
          have hln := h.ln hP hi hk
          have s1 := TI.delF h (d := dir) (x := name) (by rw [← hid]; exact ⟨_, hi, hk⟩)
          rw [← hid] at s1
          have hi2 : inoW (putS W (kE dir name) []) (lookV W dir name).id = some (lookV W dir name).n := by rw [ino_same (put_ne kI_kE)]; exact hi
          have s2 := s1.setF (n' := lnk (lookV W dir name).n (-1)) (b := -1) hi2 hk hk (wrap_sm (by omega) (by omega)) (lnk_in (lookV_in _ _ _) _)
          exact s2.congr (fun _ => rfl) (fun j => by simp only [bump]; split <;> omega) (fun _ => Iff.rfl)
  · exact h
theorem depF_of {W : WS} : ∀ {n m : Nat} {d : Bs}, Dp W n d → n < m → depF W m d = n
  | 0, m + 1, d, h, _ => by unfold depF; rw [if_pos (show d = [114] from h)]
  | n + 1, m + 1, d, h, hm => by
    unfold depF
    rw [if_neg h.1, depF_of (d := W.cells (kU d)) h.2 (by omega)]; omega
theorem tree_mkd {W : WS} {m : Nat} (h : TreeI W) (hP : PI W m) (hm : m ≤ 300) {dir name id : Bs} : TreeI (mkdW W dir name id) := by
  unfold mkdW
  split
  · rename_i he
    unfold mkdE at he
    split at he
    · rename_i q; exact absurd he q
    · rename_i q1
      obtain ⟨hx, hd, hl⟩ := look_of0 (Decidable.not_not.1 q1)
      split at he
      · exact absurd he (by decide)
      · rename_i q2
        have hc0 : W.cells (kE dir name) = [] := by rw [hl] at q2; exact Decidable.not_not.1 q2
        split at he
        · exact absurd he (by decide)
        · rename_i q3
          split at he
          · exact absurd he (by decide)
          · rename_i q4
            split at he
            · exact absurd he (by decide)
            · rename_i q5
              have hid : rightB id = true := by
                unfold rightB
                simp
                exact ⟨fun q => q3 (.inr q), fun q => q3 (.inl q)⟩
              have hD := dirE_D hd
              obtain ⟨n, hn, hdp⟩ := TI.dep h dir hD
              have hdf := depF_of hdp (m := 100) (by omega)
              have s1 := TI.newD h (bI_none (by simpa using q4)) hid hD (n := n) (by omega) hdp
              have s2 := s1.putD (d := dir) (x := name) (id := id) hx (by
                  rw [isD_same (W := W)]
                  · exact hD
                  · unfold setI; rw [put_ne kI_kU, put_ne]
                    intro q; have := kI_inj q; subst this
                    obtain ⟨k9, e9, _⟩ := hD
                    rw [bI_none (by simpa using q4)] at e9; cases e9) (by unfold setI; rw [put_ne fun q => kU_kE q.symm, put_ne fun q => kI_kE q.symm]; exact hc0) (.inr rfl) put_self
              exact s2.congr (fun _ => rfl) (fun _ => rfl) (fun j => ⟨fun q => q.elim, fun q => (by obtain ⟨q6, q7⟩ := q; rcases q6 with q6 | q6; exact q6; exact q7 q6)⟩)
  · exact h
theorem emp_of {W : WS} {m : Nat} (hP : PI W m) {id : Bs} {n : InD} (h : empE W id n = 0) : n.k = 2 ∧ ∀ x, W.cells (kE id x) = [] := by
  unfold empE at h
  split at h
  · exact absurd h (by decide)
  · rename_i q
    refine ⟨Decidable.not_not.1 q, fun x => ?_⟩
    by_cases q3 : W.cells (kE id x) = []
    · exact q3
    · have hp := cntK_pos hP (pre := kE id []) (k := kE id x) q3 (by unfold kE; simp [Lib.hasPrefix])
      rw [if_pos hp] at h; exact absurd h (by decide)
theorem tree_rmd {W : WS} {m : Nat} (h : TreeI W) (hP : PI W m) {dir name : Bs} : TreeI (rmdW W dir name) := by
  unfold rmdW
  split
  · rename_i he
    unfold rmdE at he
    split at he
    · rename_i q; exact absurd he q
    · rename_i q1
      split at he
      · exact absurd he (by decide)
      · rename_i q2
        obtain ⟨hx, hd, hid, hne, hi⟩ := look_ok (Decidable.not_not.1 q1) (by simpa using q2)
        obtain ⟨hk, hemp⟩ := emp_of hP he
        have s1 := TI.delD h (d := dir) (x := name) hx (by rw [← hid]; exact ⟨_, hi, hk⟩)
        rw [← hid] at s1
        have s2 := s1.rmD (id := (lookV W dir name).id) (.inr rfl) (fun j q => q.elim (fun q => q.elim) id) (fun x hx => by
          by_cases q : kE (lookV W dir name).id x = kE dir name
          · rw [q, put_self]
          · rw [put_ne q]; exact hemp x)
        exact s2.congr (fun _ => rfl) (fun _ => rfl) (fun j => ⟨fun q => q.elim, fun q => (by obtain ⟨q6, q7⟩ := q; rcases q6 with q6 | q6; exact q6; exact q7 q6)⟩)
  · exact h
theorem putS_get {W : WS} {k v j : Bs} : (putS W k v).cells j = if j = k then v else W.cells j := rfl
theorem tree_ren {W : WS} {m : Nat} (h : TreeI W) (hP : PI W m) (hm : m ≤ 300) {dir name td to : Bs} : TreeI (renW W dir name td to) := by
  unfold renW
  split
  · rename_i hb
    obtain ⟨he, hrb⟩ := hb
    unfold renE at he
    split at he
    · exact absurd he (by decide)
    · split at he
      · rename_i q; exact absurd he q
      · rename_i q1
        split at he
        · rename_i q; exact absurd he q
        · rename_i q2
          split at he
          · exact absurd he (by decide)
          · rename_i q3
            obtain ⟨hx, hd, hid, hne, hi⟩ := look_ok (Decidable.not_not.1 q1) (by simpa using q3)
            obtain ⟨hx2, hd2, hl2⟩ := look_of0 (Decidable.not_not.1 q2)
            split at he
            · rename_i q
              exfalso
              unfold renB at hrb
              rcases q with ⟨a, b⟩ | a
              · rw [a, b] at hrb; simp at hrb
              · rw [a] at hrb; simp at hrb
            · rename_i q4
              have hAB : kE dir name ≠ kE td to := fun q => q4 (.inl (kE_inj (nm47 hx) (nm47 hx2) q))
              have hio : (lookV W dir name).id ≠ (lookV W td to).id := fun q => q4 (.inr q)
              have hid2 : (lookV W td to).id = W.cells (kE td to) := by rw [hl2]
              split at he
              · exact absurd he (by decide)
              · rename_i q5
                have hDd := dirE_D hd
                have hDt := dirE_D hd2
                unfold repW
                by_cases ht : (lookV W td to).ok = false
                · rw [if_pos ht]
                  have hB0 : W.cells (kE td to) = [] := by
                    by_cases q : W.cells (kE td to) = []
                    · exact q
                    · exfalso
                      obtain ⟨_, n, hn⟩ := TI.ent h (kE td to) (pre_kE _ _) q
                      rw [hl2] at ht
                      simp at ht
                      exact q (ht (by unfold bI; rw [hn]; rfl))
                  by_cases hk : (lookV W dir name).n.k = 2
                  · have htd : td = dir := by
                      by_cases q : td = dir
                      · exact q
                      · exact absurd ⟨hk, q⟩ q5
                    have hDi : isD W (W.cells (kE dir name)) := by rw [← hid]; exact ⟨_, hi, hk⟩
                    have s1 := TI.delD h (d := dir) (x := name) hx hDi
                    have hu := TI.own h dir name hx hDi
                    rw [← hid] at s1 hu
                    have s2 := s1.putD (d := td) (x := to) (id := (lookV W dir name).id) hx2 (by rw [isD_same (put_ne kI_kE)]; exact hDt) (by rw [put_ne hAB.symm]; exact hB0) (.inr rfl) (by rw [htd]; exact (put_ne kU_kE).trans hu)
                    exact s2.congr (fun _ => rfl) (fun _ => rfl) (fun j => ⟨fun q => q.elim, fun q => (by obtain ⟨q6, q7⟩ := q; rcases q6 with q6 | q6; exact q6; exact q7 q6)⟩)
                  · have hk1 := TI.file h hi hk
                    have s1 := TI.delF h (d := dir) (x := name) (by rw [← hid]; exact ⟨_, hi, hk1⟩)
                    rw [← hid] at s1
                    have s2 := s1.putF (d := td) (x := to) (id := (lookV W dir name).id) hx2 (by rw [isD_same (put_ne kI_kE)]; exact hDt) (by rw [put_ne hAB.symm]; exact hB0) ⟨_, by rw [ino_same (put_ne kI_kE)]; exact hi, hk1⟩
                    exact s2.congr (fun _ => rfl) (fun j => by simp only [bump]; split <;> omega) (fun _ => Iff.rfl)
                · rw [if_neg ht]
                  obtain ⟨_, _, _, hne2, hi2⟩ := look_ok (Decidable.not_not.1 q2) (by simpa using ht)
                  unfold repE at he
                  rw [if_neg ht] at he
                  by_cases hk : (lookV W dir name).n.k = 2
                  · rw [if_pos hk] at he
                    rw [if_pos hk, if_pos he]
                    obtain ⟨hk2, hemp⟩ := emp_of hP he
                    have htd : td = dir := by
                      by_cases q : td = dir
                      · exact q
                      · exact absurd ⟨hk, q⟩ q5
                    have hDi : isD W (W.cells (kE dir name)) := by rw [← hid]; exact ⟨_, hi, hk⟩
                    have hu := TI.own h dir name hx hDi
                    have hDo : isD W (W.cells (kE td to)) := by rw [← hid2]; exact ⟨_, hi2, hk2⟩
                    have s1 := TI.delD h (d := td) (x := to) hx2 hDo
                    rw [← hid2] at s1
                    have s2 := s1.rmD (id := (lookV W td to).id) (.inr rfl) (fun j q => q.elim (fun q => q.elim) id) (fun x hx => by
                      by_cases q : kE (lookV W td to).id x = kE td to
                      · rw [q, put_self]
                      · rw [put_ne q]; exact hemp x)
                    have hdo : dir ≠ (lookV W td to).id := fun q => by
                      have := hemp name
                      rw [← q, ← hid] at this
                      exact hne this
                    have cA : (noI (putS W (kE td to) []) (lookV W td to).id).cells (kE dir name) = W.cells (kE dir name) := by
                      unfold noI; rw [put_ne fun q => kU_kE q.symm, put_ne fun q => kI_kE q.symm, put_ne hAB]
                    have jA : ∀ j, j ≠ (lookV W td to).id → inoW (noI (putS W (kE td to) []) (lookV W td to).id) j = inoW W j := fun j q => ino_same (by unfold noI; rw [put_ne kI_kU, put_ne fun q2 => q (kI_inj q2), put_ne kI_kE])
                    have dA : ∀ j, j ≠ (lookV W td to).id → (isD (noI (putS W (kE td to) []) (lookV W td to).id) j ↔ isD W j) := fun j q => by unfold isD; rw [jA j q]
                    have s3 := s2.delD (d := dir) (x := name) hx (by rw [cA, dA _ (by rw [← hid]; exact hio)]; exact hDi)
                    rw [cA, ← hid] at s3
                    have uA : upD (putS (noI (putS W (kE td to) []) (lookV W td to).id) (kE dir name) []) (lookV W dir name).id = dir := by
                      unfold upD noI
                      rw [put_ne kU_kE, put_ne fun q => hio (kU_inj q), put_ne fun q => kI_kU q.symm, put_ne kU_kE, hid]
                      exact hu
                    have s4 := s3.putD (d := td) (x := to) (id := (lookV W dir name).id) hx2 (by rw [isD_same (put_ne kI_kE)]; exact (dA td (fun q => hdo (htd.symm.trans q))).2 hDt) (by
                      rw [put_ne hAB.symm]; unfold noI; rw [put_ne fun q => kU_kE q.symm, put_ne fun q => kI_kE q.symm, put_self]) (.inr rfl) (by rw [uA, htd])
                    refine s4.congr (fun k => ?_) (fun _ => rfl) (fun j => ⟨fun q => q.elim, fun q => (by obtain ⟨q6, q7⟩ := q; rcases q6 with ⟨q6 | q6, q8⟩ | q6; exact q6; exact q8 q6; exact q7 q6)⟩)
                    unfold noI
                    simp only [putS_get]
                    by_cases e1 : k = kE td to
                    · simp [e1]
                    · simp [e1]
                  · rw [if_neg hk] at he
                    rw [if_neg hk]
                    by_cases ho : (lookV W td to).n.k = 2
                    · rw [if_pos ho] at he; exact absurd he (by decide)
                    · rw [if_neg ho]
                      have hk1 := TI.file h hi hk
                      have hk2 := TI.file h hi2 ho
                      have hln := TreeI.ln h hP hi2 hk2
                      have s1 := TI.setF h (n' := lnk (lookV W td to).n (-1)) (b := -1) hi2 hk2 hk2 (wrap_sm (by omega) (by omega)) (lnk_in (lookV_in _ _ _) _)
                      have c1 : ∀ d x, (setI W (lookV W td to).id (lnk (lookV W td to).n (-1))).cells (kE d x) = W.cells (kE d x) := fun d x => put_ne fun q => kI_kE q.symm
                      have j1 : ∀ j, j ≠ (lookV W td to).id → inoW (setI W (lookV W td to).id (lnk (lookV W td to).n (-1))) j = inoW W j := fun j q => ino_same (put_ne fun q2 => q (kI_inj q2))
                      have j0 : inoW (setI W (lookV W td to).id (lnk (lookV W td to).n (-1))) (lookV W td to).id = some (lnk (lookV W td to).n (-1)) := by unfold inoW setI; rw [put_self]; exact dec_enc (lnk_in (lookV_in _ _ _) _)
                      have s2 := s1.delF (d := td) (x := to) (by rw [c1, ← hid2]; exact ⟨_, j0, hk2⟩)
                      rw [c1, ← hid2] at s2
                      have c2 : (putS (setI W (lookV W td to).id (lnk (lookV W td to).n (-1))) (kE td to) []).cells (kE dir name) = W.cells (kE dir name) := by rw [put_ne hAB, c1]
                      have j2 : inoW (putS (setI W (lookV W td to).id (lnk (lookV W td to).n (-1))) (kE td to) []) (lookV W dir name).id = some (lookV W dir name).n := by rw [ino_same (put_ne kI_kE), j1 _ hio]; exact hi
                      have s3 := s2.delF (d := dir) (x := name) (by rw [c2, ← hid]; exact ⟨_, j2, hk1⟩)
                      rw [c2, ← hid] at s3
                      have s4 := s3.putF (d := td) (x := to) (id := (lookV W dir name).id) hx2 (by
                        rw [isD_same (put_ne kI_kE), isD_same (put_ne kI_kE)]
                        have q9 : td ≠ (lookV W td to).id := fun q => by
                          obtain ⟨n9, e9, f9⟩ := hDt
                          rw [q, hi2] at e9
                          injection e9 with e9
                          rw [← e9, hk2] at f9; exact absurd f9 (by decide)
                        unfold isD; rw [j1 _ q9]; exact hDt) (by rw [put_ne hAB.symm, put_self]) ⟨_, by rw [ino_same (put_ne kI_kE)]; exact j2, hk1⟩
                      refine s4.congr (fun k => ?_) (fun j => ?_) (fun _ => Iff.rfl)
                      · unfold setI
                        simp only [putS_get]
                        by_cases e1 : k = kE td to
                        · simp [e1]
                        · simp [e1]
                      · simp only [bump]
                        by_cases e1 : j = (lookV W dir name).id
                        · have e2 : j ≠ (lookV W td to).id := fun q => hio (e1.symm.trans q)
                          rw [if_pos e1, if_pos e1, if_neg e2, if_neg e2]; omega
                        · rw [if_neg e1, if_neg e1]
                          split <;> omega
  · exact h
theorem tree_do {W : WS} {m : Nat} (h : TreeI W) (hP : PI W m) (hm : m ≤ 300) {x : AcD} (hx : x.d % 8 < 6) : TreeI (doW W x) := by
  unfold doW
  split
  · exact tree_link h hP hm
  · split
    · exact tree_unl h hP hm
    · split
      · exact tree_mkd h hP hm
      · split
        · exact tree_rmd h hP
        · split
          · exact tree_ren h hP hm
          · exfalso; have := Int.emod_nonneg x.d (b := 8) (by decide); omega
theorem tree_gro {W : WS} {m : Nat} (h : TreeI W) (hP : PI W m) (hm : m ≤ 300) {x : AcD} : TreeI (groS W x) := by
  unfold groS
  split
  · rename_i q; exact tree_do h hP hm q
  · split
    · rename_i q; exact TI.newF h (bI_none q.1) q.2 rfl
    · exact h
theorem tree_init : TreeI (initW emptyW) := by
  have c0 : ∀ k, k ≠ kI [114] → k ≠ kU [114] → (initW emptyW).cells k = [] := fun k a b => by unfold initW setI; rw [put_ne b, put_ne a]; rfl
  have cd : ∀ k, Lib.hasPrefix k [100, 47] = true → (initW emptyW).cells k = [] := fun k hp => c0 k (fun q => by subst q; exact pre_kI _ hp) (fun q => by subst q; exact pre_kU _ hp)
  have ir : inoW (initW emptyW) [114] = some mkdI := s1r
  have io : ∀ j, j ≠ [114] → inoW (initW emptyW) j = none := fun j q => by unfold inoW; rw [c0 _ (fun q2 => q (kI_inj q2)) kI_kU]; rfl
  have iD : ∀ j, isD (initW emptyW) j → j = [114] := fun j ⟨n, a, _⟩ => by
    by_cases q : j = [114]
    · exact q
    · rw [io j q] at a; cases a
  constructor
  · intro id hi
    by_cases q : id = [114]
    · subst q; exact ⟨by decide, mkdI, ir, .inr rfl⟩
    · exact absurd (c0 _ (fun q2 => q (kI_inj q2)) kI_kU) hi
  · intro k hp hk; exact absurd (cd k hp) hk
  · exact ⟨mkdI, ir, rfl⟩
  · intro k hp; rw [cd k hp]; simp
  · intro d x hx hD
    rw [cd _ (pre_kE d x)] at hD
    have := iD _ hD; simp at this
  · intro d x y hx hy hD
    rw [cd _ (pre_kE d x)] at hD
    have := iD _ hD; simp at this
  · intro id hD hr; exact absurd (iD id hD) hr
  · intro id q; exact q.elim
  · intro id hD; exact ⟨0, by omega, iD id hD⟩
  · intro id n hi hk
    by_cases q : id = [114]
    · subst q; rw [ir] at hi; cases hi; exact absurd hk (by decide)
    · rw [io id q] at hi; cases hi
theorem tree_gros {l : List AcD} (hok : ∀ (i : Nat) (x : AcD), l[i]? = some x → OkA x) (hnb : ∀ (i : Nat) (x : AcD), l[i]? = some x → InB x.n) : ∀ i, 2 + 5 * i ≤ 300 → TreeI ((l.take i).foldl groS (initW emptyW))
  | 0, _ => tree_init
  | i + 1, hi => by
    have h := tree_gros hok hnb i (by omega)
    cases ha : l[i]? with
    | none => rw [List.take_add_one, ha, Option.toList_none, List.append_nil]; exact h
    | some x => rw [List.take_add_one, ha, Option.toList_some, List.foldl_append]; exact tree_gro h (groW_pi hok hnb i) (by omega)
theorem tree_all {l : List AcD} (hlen : l.length ≤ 40) (hok : ∀ (i : Nat) (x : AcD), l[i]? = some x → OkA x) (hnb : ∀ (i : Nat) (x : AcD), l[i]? = some x → InB x.n) : TreeI (groW l) := by
  have h := tree_gros hok hnb l.length (by omega)
  rw [List.take_length] at h
  exact h
end Go.Proofs.YtkaikhcpcbjkcaaGreatDoor
