/- names: walking through the tree -/
import Derived.Test.YtkaikhcpcbjkcaaGreatDoorNm15
import Derived.Test.YtkaikhcpcbjkcaaGreatDoorWm
import Derived.Test.YtkaikhcpcbjkcaaGreatDoorShelf
import Derived.Test.YtkaikhcpcbjkcaaGreatDoorNm1
namespace Go.Proofs.YtkaikhcpcbjkcaaGreatDoor
open Go.RowKit M
set_option linter.unusedVariables false
theorem nodup_map_on {α β : Type} {f : α → β} {l : List α} (h : l.Nodup) (hf : ∀ a ∈ l, ∀ b ∈ l, f a = f b → a = b) : (l.map f).Nodup := by
  unfold List.Nodup
  rw [List.pairwise_map]
  exact List.Pairwise.imp_of_mem (fun ha hb hne e => hne (hf _ ha _ hb e)) h
def upn (W : WS) : Nat → Bs → Bs
  | 0, x => x
  | j + 1, x => upD W (upn W j x)
/-- x is a directory below dir, or dir -/
def Desc (W : WS) (dir x : Bs) : Prop := isD W x ∧ ∃ j n, Dp W n dir ∧ Dp W (n + j) x ∧ upn W j x = dir
theorem TreeI.chain {W : WS} (h : TreeI W) : ∀ (j : Nat) {n : Nat} {x : Bs}, isD W x → Dp W (n + j) x → isD W (upn W j x) ∧ Dp W n (upn W j x)
  | 0, n, x, a, b => ⟨a, b⟩
  | j + 1, n, x, a, b => by
    obtain ⟨p, q⟩ := TreeI.chain h j (n := n + 1) (x := x) a (by rwa [show n + 1 + j = n + (j + 1) by omega])
    exact ⟨(TI.has h _ p q.1).1, q.2⟩
theorem Desc.refl {W : WS} {d : Bs} {n : Nat} (h : isD W d) (hd : Dp W n d) : Desc W d d := ⟨h, 0, n, hd, hd, rfl⟩
theorem Desc.up {W : WS} {d c x : Bs} (hr : c ≠ [114]) (hu : upD W c = d) (h : Desc W c x) : Desc W d x := by
  obtain ⟨a, j, n, b1, b2, b3⟩ := h
  cases n with
  | zero => exact absurd b1 hr
  | succ n =>
    refine ⟨a, j + 1, n, by rw [← hu]; exact b1.2, by rwa [show n + (j + 1) = n + 1 + j by omega], ?_⟩
    show upD W (upn W j x) = d
    rw [b3, hu]
theorem Desc.cases {W : WS} (h : TreeI W) {d x : Bs} (hx : Desc W d x) : x = d ∨ ∃ c, isD W c ∧ c ≠ [114] ∧ upD W c = d ∧ Desc W c x := by
  obtain ⟨a, j, n, b1, b2, b3⟩ := hx
  cases j with
  | zero => exact .inl b3
  | succ j =>
    have b4 : Dp W (n + 1 + j) x := by rwa [show n + 1 + j = n + (j + 1) by omega]
    obtain ⟨p, q⟩ := h.chain j (n := n + 1) a b4
    exact .inr ⟨upn W j x, p, q.1, b3, a, j, n + 1, q, b4, rfl⟩
theorem Desc.same {W : WS} {d c e x : Bs} (hc : c ≠ [114]) (he : e ≠ [114]) (h1 : upD W c = d) (h2 : upD W e = d) (a : Desc W c x) (b : Desc W e x) : c = e := by
  obtain ⟨_, j, n, b1, b2, b3⟩ := a
  obtain ⟨_, i, m, c1, c2, c3⟩ := b
  cases n with
  | zero => exact absurd b1 hc
  | succ n =>
    cases m with
    | zero => exact absurd c1 he
    | succ m =>
      have e1 : n = m := Dp_one (d := d) (by rw [← h1]; exact b1.2) (by rw [← h2]; exact c1.2)
      have e2 := Dp_one b2 c2
      have e3 : j = i := by omega
      subst e3
      rw [← b3, c3]
theorem Desc.not {W : WS} {d c : Bs} (hc : c ≠ [114]) (h1 : upD W c = d) (a : Desc W c d) : False := by
  obtain ⟨_, j, n, b1, b2, b3⟩ := a
  cases n with
  | zero => exact hc b1
  | succ n =>
    have q : Dp W n d := by rw [← h1]; exact b1.2
    have := Dp_one q b2
    omega
theorem Dp_root {W : WS} : ∀ {n : Nat} {x : Bs}, Dp W n x → upn W n x = [114]
  | 0, _, h => h
  | n + 1, x, h => by
    have e : ∀ j y, upn W (j + 1) y = upn W j (upD W y) := by
      intro j
      induction j with
      | zero => intro y; rfl
      | succ j ih => intro y; show upD W (upn W (j + 1) y) = upD W (upn W j (upD W y)); rw [ih]
    rw [e]; exact Dp_root h.2
theorem TreeI.all {W : WS} (h : TreeI W) (x : Bs) : Desc W [114] x ↔ isD W x := by
  constructor
  · exact fun a => a.1
  · intro a
    obtain ⟨n, _, b⟩ := TI.dep h x a
    exact ⟨a, n, 0, rfl, by rwa [Nat.zero_add], Dp_root b⟩
/-- the names in a directory -/
structure NamesL (W : WS) (dir : Bs) (L : List Bs) : Prop where
  nodup : L.Nodup
  nm : ∀ y ∈ L, nameB y = true ∧ W.cells (kE dir y) ≠ []
  all : ∀ y, nameB y = true → W.cells (kE dir y) ≠ [] → y ∈ L
theorem kE_inj2 {a b x y : Bs} (ha : (47 : UInt8) ∉ a) (hb : (47 : UInt8) ∉ b) (h : kE a x = kE b y) : a = b ∧ x = y := by
  have h1 : a ++ (47 :: x) = b ++ (47 :: y) := by unfold kE at h; simpa using h
  have key : ∀ (a b : Bs), (47 : UInt8) ∉ a → (47 : UInt8) ∉ b → a ++ (47 :: x) = b ++ (47 :: y) → a = b := by
    intro a
    induction a with
    | nil =>
      intro b _ hb h
      cases b with
      | nil => rfl
      | cons c t => simp at h; exact absurd (by rw [h.1]; simp) hb
    | cons c t ih =>
      intro b ha hb h
      cases b with
      | nil => simp at h; exact absurd (by rw [h.1]; simp) ha
      | cons c' t' =>
        simp at h
        rw [h.1, ih t' (fun q => ha (List.mem_cons_of_mem _ q)) (fun q => hb (List.mem_cons_of_mem _ q)) h.2]
  have h2 := key a b ha hb h1
  subst h2
  simp at h1
  exact ⟨rfl, h1⟩
theorem kE_split (dir k : Bs) (h : Lib.hasPrefix k (kE dir []) = true) : k = kE dir (offK dir k) := by
  unfold Lib.hasPrefix at h
  obtain ⟨t, ht⟩ := List.isPrefixOf_iff_prefix.1 h
  unfold offK
  rw [← ht, List.drop_left]
  unfold kE; simp
theorem TreeI.names {W : WS} (h : TreeI W) {dir : Bs} (hd : isD W dir) {lk : List Bs} (hk : KeysOf W.cells (kE dir []) lk) : NamesL W dir (lk.map (offK dir)) := by
  have hdr : (47 : UInt8) ∉ dir := by obtain ⟨n, a, _⟩ := hd; exact (right_is (TI.right h a)).1
  have hkk : ∀ k ∈ lk, W.cells k ≠ [] ∧ k = kE dir (offK dir k) ∧ nameB (offK dir k) = true := fun k hkm => by
    obtain ⟨a, b⟩ := keysOf_has hk hkm
    have e := kE_split dir k b
    refine ⟨a, e, ?_⟩
    obtain ⟨⟨d, x, q1, q2, q3⟩, _⟩ := TI.ent h k (by rw [e]; exact pre_kE _ _) a
    have hdd : (47 : UInt8) ∉ d := by obtain ⟨n, p, _⟩ := q3; exact (right_is (TI.right h p)).1
    rw [(kE_inj2 hdr hdd (e.symm.trans q1)).2]; exact q2
  refine ⟨?_, ?_, ?_⟩
  · obtain ⟨l0, rfl, hn, _⟩ := hk
    have hn2 : (sortS l0).Nodup := (sortS_perm l0).nodup_iff.2 hn
    refine nodup_map_on hn2 fun a ha b hb e => ?_
    rw [(hkk a ha).2.1, (hkk b hb).2.1, e]
  · intro y hy
    obtain ⟨k, hk1, rfl⟩ := List.mem_map.1 hy
    obtain ⟨a, b, c⟩ := hkk k hk1
    exact ⟨c, by rw [← b]; exact a⟩
  · intro y hy hc
    have hm : kE dir y ∈ lk := by
      obtain ⟨l0, rfl, _, hm⟩ := hk
      exact (sortS_perm l0).mem_iff.2 ((hm _).2 ⟨hc, by unfold kE; simp [Lib.hasPrefix]⟩)
    refine List.mem_map.2 ⟨_, hm, ?_⟩
    unfold offK kE; simp
/-- an entry below a directory -/
def EntOf (W : WS) (d k : Bs) : Prop := ∃ x y, Desc W d x ∧ nameB y = true ∧ k = kE x y ∧ W.cells k ≠ []
/-- what a walk from a directory has found -/
structure FromI (W : WS) (dir : Bs) (nd nk : List Bs) : Prop where
  dn : nd.Nodup
  dm : ∀ x, x ∈ nd ↔ Desc W dir x
  kn : nk.Nodup
  km : ∀ k, k ∈ nk ↔ EntOf W dir k
/-- .. after so many names -/
structure PartI (W : WS) (dir : Bs) (L : List Bs) (i : Nat) (nd nk : List Bs) : Prop where
  dn : nd.Nodup
  dm : ∀ x, x ∈ nd ↔ x = dir ∨ ∃ y, y ∈ L.take i ∧ isD W (W.cells (kE dir y)) ∧ Desc W (W.cells (kE dir y)) x
  kn : nk.Nodup
  km : ∀ k, k ∈ nk ↔ ∃ y, y ∈ L.take i ∧ (k = kE dir y ∨ isD W (W.cells (kE dir y)) ∧ EntOf W (W.cells (kE dir y)) k)
def filK (W : WS) (k : Bs) : Bool := !decide ((gI' W (W.cells k)).k = 2)
def filesOf (W : WS) (nk : List Bs) : List Bs := (nk.filter (filK W)).map W.cells
theorem PartI.start {W : WS} {dir : Bs} {L : List Bs} : PartI W dir L 0 [dir] [] := ⟨by simp, fun x => by simp, List.nodup_nil, fun k => by simp⟩
theorem take_mem {L : List Bs} {i : Nat} {y : Bs} (hy : L[i]? = some y) (z : Bs) : z ∈ L.take (i + 1) ↔ z ∈ L.take i ∨ z = y := by
  rw [List.take_add_one, hy, Option.toList_some, List.mem_append, List.mem_singleton]
theorem take_new {L : List Bs} (hn : L.Nodup) {i : Nat} {y : Bs} (hy : L[i]? = some y) : y ∉ L.take i := by
  intro q
  obtain ⟨j, hj⟩ := List.mem_iff_getElem?.1 q
  have hji : j < i := by have := (List.getElem?_eq_some_iff.1 hj).1; rw [List.length_take] at this; omega
  rw [List.getElem?_take_of_lt hji] at hj
  have h1 := (List.getElem?_eq_some_iff.1 hy)
  have h2 := (List.getElem?_eq_some_iff.1 hj)
  obtain ⟨p1, p2⟩ := h1
  obtain ⟨r1, r2⟩ := h2
  have := (List.getElem_inj hn).1 (r2.trans p2.symm)
  omega
/-- the child that a name leads to -/
theorem TreeI.child {W : WS} (h : TreeI W) {dir y : Bs} (hy : nameB y = true) (hD : isD W (W.cells (kE dir y))) : W.cells (kE dir y) ≠ [114] ∧ upD W (W.cells (kE dir y)) = dir := ⟨TI.noroot h _ (pre_kE _ _), TI.own h dir y hy hD⟩
theorem PartI.file {W : WS} (h : TreeI W) {dir : Bs} {L : List Bs} (hL : NamesL W dir L) {i : Nat} {nd nk : List Bs} (hp : PartI W dir L i nd nk) {y : Bs} (hy : L[i]? = some y) (hf : ¬ isD W (W.cells (kE dir y))) : PartI W dir L (i + 1) nd (nk ++ [kE dir y]) := by
  have hyn := (hL.nm y (List.mem_of_getElem? hy)).1
  refine ⟨hp.dn, fun x => ?_, ?_, fun k => ?_⟩
  · rw [hp.dm]
    refine or_congr Iff.rfl ⟨?_, ?_⟩
    · rintro ⟨z, a, b⟩; exact ⟨z, (take_mem hy z).2 (.inl a), b⟩
    · rintro ⟨z, a, b⟩
      rcases (take_mem hy z).1 a with a | rfl
      · exact ⟨z, a, b⟩
      · exact absurd b.1 hf
  · refine List.nodup_append.2 ⟨hp.kn, by simp, fun a ha b hb e => ?_⟩
    rw [List.mem_singleton] at hb
    subst hb; subst e
    obtain ⟨z, hz, q⟩ := (hp.km _).1 ha
    rcases q with q | ⟨q1, x, u, q2, q3, q4, q5⟩
    · have := (kE_inj (nm47 hyn) (nm47 (hL.nm z (List.mem_of_mem_take hz)).1) q).2
      subst this; exact take_new hL.nodup hy hz
    · have e := (kE_inj (nm47 hyn) (nm47 q3) q4).1
      obtain ⟨c1, c2⟩ := h.child (hL.nm z (List.mem_of_mem_take hz)).1 q1
      exact Desc.not c1 c2 (e ▸ q2)
  · rw [List.mem_append, hp.km, List.mem_singleton]
    constructor
    · rintro (⟨z, a, b⟩ | rfl)
      · exact ⟨z, (take_mem hy z).2 (.inl a), b⟩
      · exact ⟨y, (take_mem hy y).2 (.inr rfl), .inl rfl⟩
    · rintro ⟨z, a, b⟩
      rcases (take_mem hy z).1 a with a | rfl
      · exact .inl ⟨z, a, b⟩
      · rcases b with b | b
        · exact .inr b
        · exact absurd b.1 hf
theorem PartI.dir {W : WS} (h : TreeI W) {dir : Bs} {L : List Bs} (hL : NamesL W dir L) {i : Nat} {nd nk ed ek : List Bs} (hp : PartI W dir L i nd nk) {y : Bs} (hy : L[i]? = some y) (hf : isD W (W.cells (kE dir y))) (he : FromI W (W.cells (kE dir y)) ed ek) : PartI W dir L (i + 1) (nd ++ ed) (nk ++ (kE dir y :: ek)) := by
  have hyn := (hL.nm y (List.mem_of_getElem? hy)).1
  obtain ⟨y1, y2⟩ := h.child hyn hf
  have hyt := take_new hL.nodup hy
  have ne : ∀ z, z ∈ L.take i → isD W (W.cells (kE dir z)) → W.cells (kE dir z) ≠ W.cells (kE dir y) := fun z hz hD q => by
    have := TI.one h dir z y (hL.nm z (List.mem_of_mem_take hz)).1 hyn hD q.symm
    subst this; exact hyt hz
  have ap : ∀ z x, z ∈ L.take i → isD W (W.cells (kE dir z)) → Desc W (W.cells (kE dir z)) x → Desc W (W.cells (kE dir y)) x → False := fun z x hz hD a b => by
    obtain ⟨c1, c2⟩ := h.child (hL.nm z (List.mem_of_mem_take hz)).1 hD
    exact ne z hz hD (Desc.same c1 y1 c2 y2 a b)
  refine ⟨?_, fun x => ?_, ?_, fun k => ?_⟩
  · refine List.nodup_append.2 ⟨hp.dn, he.dn, fun a ha b hb e => ?_⟩
    subst e
    rw [he.dm] at hb
    rcases (hp.dm a).1 ha with rfl | ⟨z, a1, a2, a3⟩
    · exact Desc.not y1 y2 hb
    · exact ap z a a1 a2 a3 hb
  · rw [List.mem_append, hp.dm, he.dm]
    constructor
    · rintro ((q | ⟨z, a, b⟩) | q)
      · exact .inl q
      · exact .inr ⟨z, (take_mem hy z).2 (.inl a), b⟩
      · exact .inr ⟨y, (take_mem hy y).2 (.inr rfl), hf, q⟩
    · rintro (q | ⟨z, a, b⟩)
      · exact .inl (.inl q)
      · rcases (take_mem hy z).1 a with a | rfl
        · exact .inl (.inr ⟨z, a, b⟩)
        · exact .inr b.2
  · have hek : kE dir y ∉ ek := fun q => by
      obtain ⟨x, u, q2, q3, q4, _⟩ := (he.km _).1 q
      have e := (kE_inj (nm47 hyn) (nm47 q3) q4).1
      exact Desc.not y1 y2 (e ▸ q2)
    refine List.nodup_append.2 ⟨hp.kn, List.nodup_cons.2 ⟨hek, he.kn⟩, fun a ha b hb e => ?_⟩
    subst e
    obtain ⟨z, hz, q⟩ := (hp.km _).1 ha
    have hzn := (hL.nm z (List.mem_of_mem_take hz)).1
    rcases List.mem_cons.1 hb with rfl | hb
    · rcases q with q | ⟨q1, x, u, q2, q3, q4, q5⟩
      · have := (kE_inj (nm47 hyn) (nm47 hzn) q).2
        subst this; exact hyt hz
      · have e := (kE_inj (nm47 hyn) (nm47 q3) q4).1
        obtain ⟨c1, c2⟩ := h.child hzn q1
        exact Desc.not c1 c2 (e ▸ q2)
    · obtain ⟨x', u', p2, p3, p4, _⟩ := (he.km _).1 hb
      rcases q with q | ⟨q1, x, u, q2, q3, q4, q5⟩
      · have e := (kE_inj (nm47 hzn) (nm47 p3) (q.symm.trans p4)).1
        exact Desc.not y1 y2 (e ▸ p2)
      · have e := (kE_inj (nm47 q3) (nm47 p3) (q4.symm.trans p4)).1
        subst e
        exact ap z x hz q1 q2 p2
  · rw [List.mem_append, List.mem_cons, hp.km, he.km]
    constructor
    · rintro (⟨z, a, b⟩ | rfl | q)
      · exact ⟨z, (take_mem hy z).2 (.inl a), b⟩
      · exact ⟨y, (take_mem hy y).2 (.inr rfl), .inl rfl⟩
      · exact ⟨y, (take_mem hy y).2 (.inr rfl), .inr ⟨hf, q⟩⟩
    · rintro ⟨z, a, b⟩
      rcases (take_mem hy z).1 a with a | rfl
      · exact .inl ⟨z, a, b⟩
      · rcases b with b | b
        · exact .inr (.inl b)
        · exact .inr (.inr b.2)
theorem PartI.done {W : WS} (h : TreeI W) {dir : Bs} (hd : isD W dir) {n : Nat} (hdp : Dp W n dir) {L : List Bs} (hL : NamesL W dir L) {nd nk : List Bs} (hp : PartI W dir L L.length nd nk) : FromI W dir nd nk := by
  have ht : L.take L.length = L := List.take_length
  obtain ⟨a1, a2, a3, a4⟩ := hp
  rw [ht] at a2 a4
  refine ⟨a1, fun x => ?_, a3, fun k => ?_⟩
  · rw [a2]
    constructor
    · rintro (rfl | ⟨y, hy, hD, q⟩)
      · exact Desc.refl hd hdp
      · obtain ⟨c1, c2⟩ := h.child (hL.nm y hy).1 hD
        exact Desc.up c1 c2 q
    · intro q
      rcases q.cases h with q | ⟨c, q1, q2, q3, q4⟩
      · exact .inl q
      · obtain ⟨y, y1, y2⟩ := (TI.has h c q1 q2).2 (fun q => q)
        rw [q3] at y2
        refine .inr ⟨y, hL.all y y1 (by rw [y2]; exact TI.neD h q1), by rw [y2]; exact q1, by rw [y2]; exact q4⟩
  · rw [a4]
    constructor
    · rintro ⟨y, hy, q⟩
      obtain ⟨b1, b2⟩ := hL.nm y hy
      rcases q with rfl | ⟨hD, x, u, q2, q3⟩
      · exact ⟨dir, y, Desc.refl hd hdp, b1, rfl, b2⟩
      · obtain ⟨c1, c2⟩ := h.child b1 hD
        exact ⟨x, u, Desc.up c1 c2 q2, q3⟩
    · rintro ⟨x, u, q2, q3, q4, q5⟩
      rcases q2.cases h with rfl | ⟨c, p1, p2, p3, p4⟩
      · exact ⟨u, hL.all u q3 (by rw [← q4]; exact q5), .inl q4⟩
      · obtain ⟨y, y1, y2⟩ := (TI.has h c p1 p2).2 (fun q => q)
        rw [p3] at y2
        exact ⟨y, hL.all y y1 (by rw [y2]; exact TI.neD h p1), .inr ⟨by rw [y2]; exact p1, by rw [y2]; exact ⟨x, u, p4, q3, q4, q5⟩⟩⟩
theorem PartI.fresh {W : WS} (h : TreeI W) {dir : Bs} {L : List Bs} (hL : NamesL W dir L) {i : Nat} {nd nk ds : List Bs} (hp : PartI W dir L i nd nk) {y : Bs} (hy : L[i]? = some y) (hf : isD W (W.cells (kE dir y))) (hds : ∀ x ∈ ds, ¬ Desc W dir x) : ∀ x ∈ ds ++ nd, ¬ Desc W (W.cells (kE dir y)) x := by
  have hyn := (hL.nm y (List.mem_of_getElem? hy)).1
  obtain ⟨y1, y2⟩ := h.child hyn hf
  intro x hx q
  rcases List.mem_append.1 hx with hx | hx
  · exact hds x hx (Desc.up y1 y2 q)
  · rcases (hp.dm x).1 hx with rfl | ⟨z, a1, a2, a3⟩
    · exact Desc.not y1 y2 q
    · obtain ⟨c1, c2⟩ := h.child (hL.nm z (List.mem_of_mem_take a1)).1 a2
      have e := Desc.same c1 y1 c2 y2 a3 q
      have := TI.one h dir z y (hL.nm z (List.mem_of_mem_take a1)).1 hyn a2 e.symm
      subst this
      exact take_new hL.nodup hy a1
theorem filesOf_app (W : WS) (a b : List Bs) : filesOf W (a ++ b) = filesOf W a ++ filesOf W b := by unfold filesOf; rw [List.filter_append, List.map_append]
theorem gI_D {W : WS} {id : Bs} (h : isD W id) : (gI' W id).k = 2 := by obtain ⟨n, a, b⟩ := h; unfold gI'; rw [a]; exact b
theorem filesOf_file {W : WS} {k : Bs} (h : (gI' W (W.cells k)).k ≠ 2) : filesOf W [k] = [W.cells k] := by unfold filesOf filK; simp [h]
theorem filesOf_dir {W : WS} {k : Bs} {l : List Bs} (h : (gI' W (W.cells k)).k = 2) : filesOf W (k :: l) = filesOf W l := by unfold filesOf filK; simp [h]
/-- links of a file, as counted in the files found -/
theorem TreeI.links {W : WS} (h : TreeI W) {nd nk : List Bs} (hF : FromI W [114] nd nk) {id : Bs} {n : InD} (hi : inoW W id = some n) (hk : n.k ≠ 2) : n.ln = ((filesOf W nk).countP fun x => decide (x = id)) := by
  have hk1 := TI.file h hi hk
  obtain ⟨c, ⟨l, l1, l2, l3⟩, hc⟩ := TI.lnk h id n hi hk1
  have hne := TI.ne h hi
  have e : (filesOf W nk).countP (fun x => decide (x = id)) = (nk.filter fun k => decide (W.cells k = id)).length := by
    unfold filesOf
    rw [List.countP_map, List.countP_eq_length_filter, List.filter_filter]
    congr 1
    refine List.filter_congr fun k hkm => ?_
    by_cases q : W.cells k = id
    · have : filK W k = true := by
        unfold filK gI'; rw [q, hi]; simpa using hk
      simp [q, this]
    · simp [q]
  rw [e]
  have hp : (nk.filter fun k => decide (W.cells k = id)).Perm l := by
    refine (List.perm_ext_iff_of_nodup (hF.kn.filter _) l2).2 fun k => ?_
    rw [List.mem_filter, l3, hF.km, decide_eq_true_eq]
    constructor
    · rintro ⟨⟨x, y, _, _, q, _⟩, b⟩
      exact ⟨by rw [q]; exact pre_kE _ _, b⟩
    · rintro ⟨a, b⟩
      obtain ⟨⟨d, x, q1, q2, q3⟩, _⟩ := TI.ent h k a (by rw [b]; exact hne)
      exact ⟨⟨d, x, (h.all d).2 q3, q2, q1, by rw [b]; exact hne⟩, b⟩
  rw [hp.length_eq, l1]
  omega
theorem TreeI.keyI {W : WS} (h : TreeI W) {lk : List Bs} (hk : KeysOf W.cells [105, 47] lk) {k : Bs} (hkm : k ∈ lk) : k = kI (k.drop 2) ∧ ∃ n, inoW W (k.drop 2) = some n := by
  obtain ⟨a, b⟩ := keysOf_has hk hkm
  have e : k = kI (k.drop 2) := by
    unfold Lib.hasPrefix at b
    obtain ⟨t, ht⟩ := List.isPrefixOf_iff_prefix.1 b
    rw [← ht]; unfold kI; simp
  refine ⟨e, ?_⟩
  rw [e] at a
  obtain ⟨_, n, q, _⟩ := TI.ino h _ a
  exact ⟨n, q⟩
/-- the directories found are all that there are -/
theorem TreeI.dirs {W : WS} (h : TreeI W) {nd nk : List Bs} (hF : FromI W [114] nd nk) {lk : List Bs} (hk : KeysOf W.cells [105, 47] lk) : lk.countP (fun k => decide ((gI' W (k.drop 2)).k = 2)) = nd.length := by
  have hkk : ∀ k ∈ lk, k = kI (k.drop 2) ∧ ∃ n, inoW W (k.drop 2) = some n := fun k hkm => h.keyI hk hkm
  rw [List.countP_eq_length_filter]
  have hn2 : lk.Nodup := by obtain ⟨l0, rfl, hn, _⟩ := hk; exact (sortS_perm l0).nodup_iff.2 hn
  have hmap : ((lk.filter fun k => decide ((gI' W (k.drop 2)).k = 2)).map fun k => k.drop 2).Perm nd := by
    refine (List.perm_ext_iff_of_nodup ?_ hF.dn).2 fun x => ?_
    · refine nodup_map_on (hn2.filter _) fun a ha b hb e => ?_
      rw [(hkk a (List.mem_filter.1 ha).1).1, (hkk b (List.mem_filter.1 hb).1).1, e]
    · rw [hF.dm, h.all, List.mem_map]
      constructor
      · rintro ⟨k, hk1, rfl⟩
        obtain ⟨m1, m2⟩ := List.mem_filter.1 hk1
        obtain ⟨_, n, q⟩ := hkk k m1
        refine ⟨n, q, ?_⟩
        have := of_decide_eq_true m2
        unfold gI' at this; rw [q] at this; exact this
      · rintro ⟨n, a, b⟩
        have hm : kI x ∈ lk := by
          obtain ⟨l0, rfl, _, hm⟩ := hk
          exact (sortS_perm l0).mem_iff.2 ((hm _).2 ⟨ino_ne a, by unfold kI; simp [Lib.hasPrefix]⟩)
        have ed : (kI x).drop 2 = x := by unfold kI; simp
        refine ⟨kI x, List.mem_filter.2 ⟨hm, decide_eq_true ?_⟩, ed⟩
        rw [ed]; unfold gI'; rw [a]; exact b
  have := hmap.length_eq
  rw [List.length_map] at this
  exact this
/-- what the walk has so far -/
structure WkI (W : WS) (ds K : List Bs) : Prop where
  dn : ds.Nodup
  dd : ∀ x ∈ ds, isD W x
  kn : K.Nodup
  kc : ∀ k ∈ K, W.cells k ≠ [] ∧ ∃ x y, x ∈ ds ∧ nameB y = true ∧ k = kE x y
theorem WkI.nil {W : WS} : WkI W [] [] := ⟨List.nodup_nil, fun _ h => (by cases h), List.nodup_nil, fun _ h => (by cases h)⟩
theorem WkI.dlen {W : WS} {ds K : List Bs} (h : WkI W ds K) {m : Nat} (hP : PI W m) : ds.length ≤ m := by
  obtain ⟨ks, h1, h2⟩ := hP.few
  have hn : (ds.map kI).Nodup := nodup_map_on h.dn fun a _ b _ e => kI_inj e
  have := List.Nodup.length_le_of_subset (l₂ := ks) hn fun k hk => by
    obtain ⟨x, hx, rfl⟩ := List.mem_map.1 hk
    obtain ⟨n, a, _⟩ := h.dd x hx
    exact h2 _ (ino_ne a)
  rw [List.length_map] at this
  omega
theorem WkI.klen {W : WS} {ds K : List Bs} (h : WkI W ds K) {m : Nat} (hP : PI W m) : K.length ≤ m := by
  obtain ⟨ks, h1, h2⟩ := hP.few
  exact Nat.le_trans (List.Nodup.length_le_of_subset h.kn fun k hk => h2 k (h.kc k hk).1) h1
theorem filesOf_len (W : WS) (K : List Bs) : (filesOf W K).length ≤ K.length := by unfold filesOf; rw [List.length_map]; exact List.length_filter_le _ _
theorem WkI.join {W : WS} {ds K nd nk : List Bs} {dir : Bs} (h : WkI W ds K) (hf : ∀ x ∈ ds, ¬ Desc W dir x) (h1 : nd.Nodup) (h2 : ∀ x ∈ nd, Desc W dir x) (h3 : nk.Nodup) (h4 : ∀ k ∈ nk, W.cells k ≠ [] ∧ ∃ x y, x ∈ nd ∧ nameB y = true ∧ k = kE x y) : WkI W (ds ++ nd) (K ++ nk) := by
  refine ⟨List.nodup_append.2 ⟨h.dn, h1, fun a ha b hb e => ?_⟩, fun x hx => ?_, List.nodup_append.2 ⟨h.kn, h3, fun a ha b hb e => ?_⟩, fun k hk => ?_⟩
  · subst e; exact hf a ha (h2 a hb)
  · rcases List.mem_append.1 hx with q | q
    · exact h.dd x q
    · exact (h2 x q).1
  · subst e
    obtain ⟨_, x, y, q1, q2, q3⟩ := h.kc a ha
    obtain ⟨_, u, v, r1, r2, r3⟩ := h4 a hb
    have := (kE_inj (nm47 q2) (nm47 r2) (q3.symm.trans r3)).1
    subst this
    exact hf x q1 (h2 x r1)
  · rcases List.mem_append.1 hk with q | q
    · obtain ⟨a, x, y, q1, q2⟩ := h.kc k q
      exact ⟨a, x, y, List.mem_append_left _ q1, q2⟩
    · obtain ⟨a, x, y, q1, q2⟩ := h4 k q
      exact ⟨a, x, y, List.mem_append_right _ q1, q2⟩
theorem PartI.wk {W : WS} (h : TreeI W) {dir : Bs} {L : List Bs} (hL : NamesL W dir L) {i : Nat} {nd nk ds K : List Bs} (hp : PartI W dir L i nd nk) (hd : isD W dir) {n : Nat} (hdp : Dp W n dir) (hw : WkI W ds K) (hf : ∀ x ∈ ds, ¬ Desc W dir x) : WkI W (ds ++ nd) (K ++ nk) := by
  refine hw.join hf hp.dn (fun x hx => ?_) hp.kn (fun k hk => ?_)
  · rcases (hp.dm x).1 hx with rfl | ⟨y, hy, hD, q⟩
    · exact Desc.refl hd hdp
    · obtain ⟨c1, c2⟩ := h.child (hL.nm y (List.mem_of_mem_take hy)).1 hD
      exact Desc.up c1 c2 q
  · obtain ⟨y, hy, q⟩ := (hp.km k).1 hk
    obtain ⟨b1, b2⟩ := hL.nm y (List.mem_of_mem_take hy)
    rcases q with rfl | ⟨hD, x, u, q2, q3, q4, q5⟩
    · exact ⟨b2, dir, y, (hp.dm _).2 (.inl rfl), b1, rfl⟩
    · exact ⟨q5, x, u, (hp.dm _).2 (.inr ⟨y, hy, hD, q2⟩), q3, q4⟩
theorem res_up {W : WS} {id : Bs} (h : isD W id) : resV W id [46, 46] = (upD W id, 0) := by
  have e : partsL [46, 46] = [[46, 46]] := by decide
  have hd := isD_dirE h
  have hs : stepV W id [46, 46] = (upD W id, 0) := by
    unfold stepV
    rw [if_neg (by simp [hd]), if_neg (by decide), if_pos rfl]; rfl
  unfold resV
  rw [if_neg (by decide), e]
  show walkV W id _ = _
  rw [walkV, hs, if_neg (by simp), walkV]
def walkT (b p : Nat) (ds fs : List Bs) : Th := exT fun q : Value × Value => starL [blkT b [ptrV p 0, q.1, q.2, .bool true], rowT stC q.1 ds, rowT stC q.2 fs]
theorem walkT_open {w : World} {As : List Th} {b p : Nat} {ds fs : List Bs} (h : Sat w (walkT b p ds fs :: As)) : ∃ dv fv, Sat w (blkT b [ptrV p 0, dv, fv, .bool true] :: rowT stC dv ds :: rowT stC fv fs :: As) := by
  obtain ⟨⟨a, c⟩, h⟩ := h.ex
  exact ⟨a, c, h.flat⟩
theorem walkT_shut {w : World} {As : List Th} {b p : Nat} {ds fs : List Bs} {dv fv : Value} (h : Sat w (blkT b [ptrV p 0, dv, fv, .bool true] :: rowT stC dv ds :: rowT stC fv fs :: As)) : Sat w (walkT b p ds fs :: As) :=
  Sat.ex_intro (f := fun q : Value × Value => starL [blkT b [ptrV p 0, q.1, q.2, .bool true], rowT stC q.1 ds, rowT stC q.2 fs]) (dv, fv) (Sat.fold (As := [blkT b [ptrV p 0, dv, fv, .bool true], rowT stC dv ds, rowT stC fv fs]) h)
end Go.Proofs.YtkaikhcpcbjkcaaGreatDoor
/- reference 15: cells -/
namespace Go.Proofs.YtkaikhcpcbjkcaaGreatDoor
open Go.RowKit M
set_option linter.unusedVariables false
theorem cells_at {Z : List (Bs × Bs)} {c : Bs → Bs} (h : CellsR Z c) {j : Nat} {k : Bs} (hj : (Z.map (·.1))[j]? = some k) : (Z.map (·.2))[j]? = some (c k) := by
  rw [List.getElem?_map] at hj ⊢
  obtain ⟨x, hx, rfl⟩ := Option.map_eq_some_iff.1 hj
  rw [hx, (h.val x (List.mem_of_getElem? hx)).2]; rfl
set_option maxRecDepth 100000 in
theorem index_sp {w : World} {F : Th} (hS : Sat w [F]) {lv : Value} {l : List Bs} (hL : Ent F (RdL stC lv l)) (s : Bs) :
    Calls Tryz.prog 18 #[lv, strV s] w (Ret fun v w' => ∃ i : Int, v = intV i ∧ ((i = -1 ∧ s ∉ l) ∨ ∃ j : Nat, i = (j : Int) ∧ l[j]? = some s) ∧ Sat w' [F]) := by
 obtain ⟨ao, cap, rfl, hmax⟩ := (hL.sat hS 0 rfl).shape
 refine calls_enter Tryz.func18 rfl Tryz.ntmps18 rfl ?_
 refine wc_seq (wc_region (wl_assign rfl rfl (wl_nil (qs_seq (wc_seq (wc_seq (wc_region (wl_assign rfl rfl (wl_nil (qs_seq (wc_block ?_)))))))))))
 refine wc_loop (fun K0 E0 W0 => ∃ (i : Nat), K0 = l.length - i ∧ E0 = [(0, .slice ao l.length cap), (1, strV s), (5, intV (i : Int))] ∧ Sat W0 [F] ∧ (i ≤ l.length) ∧ (∀ j, j < i → l[j]? ≠ some s)) (L0 := [(0, _), (1, _), (5, _)]) (l.length - 0) (.cons rfl (.cons rfl (.cons rfl .nil))) ⟨0, rfl, rfl, hS, by omega, by omega⟩ ?_
 rintro _ _ w1 ⟨i, rfl, rfl, hS1, hi, hno⟩
 refine wc_seq (wc_seq (wc_region (wl_move rfl rfl (wl_move rfl rfl ?_))))
 refine wl_lenL Tryz.underlying40 rfl rfl ?_
 refine wl_lss rfl rfl rfl ?_
 refine wl_nil (qs_seq ?_)
 refine wc_condD rfl (fun h2 => ?_) (fun h2 => ?_)
 ·obtain ⟨x, hx⟩ : ∃ x, l[i]? = some x := ⟨_, List.getElem?_eq_getElem (by omega)⟩
  obtain ⟨b, off, rfl, hc⟩ := (hL.sat hS1 0 rfl).get hx
  refine wc_skip (qs_seq (wc_seq (wc_block (wc_seq (wc_region (wl_move rfl rfl (wl_move rfl rfl ?_)))))))
  refine wl_indexAddr i rfl rfl (by first | rfl | omega) (by omega) es_40 rfl ?_
  refine wl_load rfl ag_9 (hc 0 _ rfl) rfl ?_
  refine wl_move rfl rfl ?_
  refine wl_eqlS rfl rfl rfl ?_
  refine wl_nil (qs_seq ?_)
  refine wc_sub (L' := [(17, _), (0, _), (1, _), (5, _)]) (.cons rfl (.cons rfl (.cons rfl (.cons rfl .nil)))) ?_
  refine wc_condD rfl (fun h3 => ?_) (fun h3 => ?_)
  ·refine wc_seq (wc_region (wl_move rfl rfl (wl_assign rfl rfl (wl_nil (qs_seq (wc_ret (qs_block_ret (qs_then_ret (qs_then_ret (qs_block_ret (qs_then_ret ?_)))))))))))
   refine fin1 (.inr rfl) rfl rfl ?_
   exact ⟨_, rfl, _, rfl, .inr ⟨i, rfl, by rw [hx]; congr 1⟩, hS1⟩
  refine wc_skip (qs_block_normal (qs_seq (wc_region (wl_move rfl rfl ?_))))
  refine wl_add rfl rfl (by omega) (by omega) rfl ?_
  refine wl_assign rfl rfl (wl_nil ?_)
  exact qs_round (L1 := [(0, _), (1, _), (5, intV ((i + 1 : Nat) : Int))]) (.cons rfl (.cons rfl (.cons rfl .nil))) (k1 := l.length - (i + 1)) (by omega) ⟨i + 1, rfl, rfl, hS1, by omega, fun j hj => by by_cases ej : j = i; (subst ej; rw [hx]; intro qe; injection qe with qe; exact absurd qe (by assumption)); exact hno j (by omega)⟩
 refine wc_exit (qs_then_exit (qs_then_exit (qs_block_exit (qs_seq (wc_seq (wc_region (wl_assign rfl rfl (wl_nil (qs_seq (wc_ret ?_))))))))))
 refine fin1 (.inr rfl) rfl rfl ?_
 exact ⟨_, rfl, _, rfl, .inl ⟨rfl, fun hm => by obtain ⟨j, hj⟩ := List.mem_iff_getElem?.1 hm; exact hno j (by have := (List.getElem?_eq_some_iff.1 hj).1; omega) hj⟩, hS1⟩
end Go.Proofs.YtkaikhcpcbjkcaaGreatDoor
/- laws of names: the walk through the tree -/
namespace Go.Proofs.YtkaikhcpcbjkcaaGreatDoor
open Go.RowKit M
set_option linter.unusedVariables false
theorem keysOf_len3 {c : Bs → Bs} {pre : Bs} {l : List Bs} {n : Nat} (h : KeysOf c pre l) (hk : ∃ ks : List Bs, ks.length ≤ n ∧ ∀ k, c k ≠ [] → k ∈ ks) : l.length ≤ n := by
  obtain ⟨l0, rfl, hn, hm⟩ := h
  obtain ⟨ks, h1, h2⟩ := hk
  rw [sortS_len]
  exact Nat.le_trans (List.Nodup.length_le_of_subset hn fun k hk => h2 k ((hm k).1 hk).1) h1
set_option maxRecDepth 100000 in
set_option maxHeartbeats 3200000 in
theorem from_step {W : WS} {m b p : Nat} (hT : TreeI W) (hP : PI W m) (hm : m ≤ 300) {dep : Nat} (ih : ∀ {w : World} {G : Th} {ds K : List Bs} {c : Bs}, Sat w [walkT b p ds (filesOf W K), worldT p W, G] → Ent G WireG → isD W c → Dp W (dep + 1) c → (∀ x ∈ ds, ¬ Desc W c x) → WkI W ds K → Calls Tryz.prog 39 #[ptrV b 0, strV c, intV ((dep + 1 : Nat) : Int)] w (Ret fun v w' => v = .tuple #[] ∧ ∃ nd nk, FromI W c nd nk ∧ Sat w' [walkT b p (ds ++ nd) (filesOf W (K ++ nk)), worldT p W, G])) {w : World} {F : Th} {ds K : List Bs} {dir : Bs} (hS : Sat w [walkT b p ds (filesOf W K), worldT p W, F]) (hG : Ent F WireG) (hD : isD W dir) (hdp : Dp W dep dir) (hd8 : dep ≤ 8) (hfr : ∀ x ∈ ds, ¬ Desc W dir x) (hW : WkI W ds K) :
    Calls Tryz.prog 39 #[ptrV b 0, strV dir, intV (dep : Int)] w (Ret fun v w' => v = .tuple #[] ∧ ∃ nd nk, FromI W dir nd nk ∧ Sat w' [walkT b p (ds ++ nd) (filesOf W (K ++ nk)), worldT p W, F]) := by
 obtain ⟨dv, fv, hS⟩ := walkT_open hS
 have hd0 := isD_dirE hD
 have hdl0 := hW.dlen hP
 have hkl0 := hW.klen hP
 have hfl0 := filesOf_len W K
 have hdirl : dir.length ≤ 900 := by
  by_cases q : dir = [114]
  ·subst q; simp
  ·obtain ⟨y, _, y2⟩ := (TI.has hT dir hD q).2 (fun q => q)
   have := hP.val (kE (upD W dir) y)
   rw [y2] at this; omega
 refine calls_enter Tryz.func39 rfl Tryz.ntmps39 rfl ?_
 refine wc_seq (wc_region (wl_move rfl rfl (wl_nilCheck rfl rfl ?_)))
 refine wl_fieldAddr rfl fo_74_0 rfl ?_
 refine wl_load rfl ag_25 (by first | assumption | exact hS.cell 0 rfl rfl) rfl ?_
 refine wl_makeIface nif_25 rfl rfl ?_
 refine wl_move rfl rfl ?_
 have hC1 := hS.split [3] [false, false, false, true, false] rfl; dsimp only [selF, pickA, nthA, List.cons_append, List.nil_append] at hC1
 refine wl_call cal_28 rfl (list_sp hC1 (hG.starL 3 rfl) hP (by omega) dir (by omega)) rfl ?_
 rintro e w1 ⟨_, rfl, sv1, L, rfl, hl1, hS1⟩; refine ⟨_, rfl, ?_⟩
 replace hS1 := hS1.join rfl; dsimp only [List.dropLast, List.cons_append, List.nil_append] at hS1; clear hC1
 obtain ⟨_, lk, hlk, rfl⟩ := hl1.resolve_left (fun q => q.1 hd0)
 generalize hLe : lk.map (offK dir) = L at *
 have hNL : NamesL W dir L := by rw [← hLe]; exact hT.names hD hlk
 have hLl : L.length ≤ 300 := by rw [← hLe, List.length_map]; have := keysOf_len3 hlk hP.few; omega
 obtain ⟨la, lc, hlv, _⟩ := hS1.own_shape 0 rfl
 obtain rfl := hlv
 refine wl_move rfl rfl (wl_extract rfl rfl rfl (wl_extract rfl rfl rfl (wl_assign rfl rfl (wl_assign rfl rfl (wl_nil (qs_seq ?_))))))
 refine wc_sub (L' := [(7, _), (6, _), (0, _), (1, _), (2, _)]) (.cons rfl (.cons rfl (.cons rfl (.cons rfl (.cons rfl .nil))))) ?_
 refine wc_seq (wc_seq (wc_region (wl_move rfl rfl ?_)))
 refine wl_neq rfl rfl rfl ?_
 refine wl_move rfl rfl ?_
 refine wl_splitD 27 rfl (fun h2 => ?_) (fun h2 => ?_)
 ·exact absurd hd0 h2
 refine wl_guard rfl rfl (decide_eq_false h2) ?_
 refine wl_move rfl rfl ?_
 refine wl_guard rfl rfl (decide_eq_false h2) ?_
 refine wl_gtr rfl rfl rfl ?_
 refine wl_pickF rfl (decide_eq_false h2) rfl rfl ?_
 refine wl_move rfl rfl ?_
 refine wl_splitD 31 rfl (fun h3 => ?_) (fun h3 => ?_)
 ·exact absurd h3 (by omega)
 refine wl_guard rfl rfl (decide_eq_false h3) ?_
 refine wl_move rfl rfl ?_
 refine wl_guard rfl rfl (decide_eq_false h3) ?_
 refine wl_nilCheck rfl rfl ?_
 refine wl_guard rfl rfl (decide_eq_false h3) ?_
 refine wl_fieldAddr rfl fo_74_0 rfl ?_
 refine wl_guard rfl rfl (decide_eq_false h3) ?_
 refine wl_load rfl ag_25 (by first | assumption | exact hS1.cell 2 rfl rfl) rfl ?_
 refine wl_guard rfl rfl (decide_eq_false h3) ?_
 refine wl_makeIface nif_25 rfl rfl ?_
 refine wl_guard rfl rfl (decide_eq_false h3) ?_
 refine wl_move rfl rfl ?_
 refine wl_guard rfl rfl (decide_eq_false h3) ?_
 have hC4 := hS1.split [1] [false, true, false, false, false, false] rfl; dsimp only [selF, pickA, nthA, List.cons_append, List.nil_append] at hC4
 refine wl_call cal_36 rfl (depth_sp hC4 hP dir (by omega)) rfl ?_
 rintro e w4 ⟨_, rfl, rfl, hS4⟩; refine ⟨_, rfl, ?_⟩
 replace hS4 := hS4.join rfl; dsimp only [List.dropLast, List.cons_append, List.nil_append] at hS4; clear hC4
 clear hS1
 refine wl_guard rfl rfl (decide_eq_false h3) ?_
 refine wl_move rfl rfl ?_
 refine wl_guard rfl rfl (decide_eq_false h3) ?_
 refine wl_neq rfl rfl rfl ?_
 refine wl_pickF rfl (decide_eq_false h3) rfl rfl ?_
 refine wl_move rfl rfl ?_
 refine wl_splitD 42 rfl (fun h5 => ?_) (fun h5 => ?_)
 ·exact absurd (by rw [depF_of hdp (by omega)]) h5
 refine wl_guard rfl rfl (decide_eq_false h5) ?_
 refine wl_move rfl rfl ?_
 refine wl_guard rfl rfl (decide_eq_false h5) ?_
 refine wl_nilCheck rfl rfl ?_
 refine wl_guard rfl rfl (decide_eq_false h5) ?_
 refine wl_fieldAddr rfl fo_74_1 rfl ?_
 refine wl_guard rfl rfl (decide_eq_false h5) ?_
 refine wl_load rfl ag_40 (by first | assumption | exact hS4.cell 2 rfl rfl) rfl ?_
 refine wl_guard rfl rfl (decide_eq_false h5) ?_
 refine wl_move rfl rfl ?_
 refine wl_guard rfl rfl (decide_eq_false h5) ?_
 have hC6 := hS4.split [] [false, false, false, false, false, false] rfl; dsimp only [selF, pickA, nthA, List.cons_append, List.nil_append] at hC6
 refine wl_call cal_18 rfl (index_sp hC6 (Ent.starL (ent_row (C := stC) (l := ds) (by omega)) 3 rfl) dir) rfl ?_
 rintro e w6 ⟨_, rfl, ix, rfl, hix, hS6⟩; refine ⟨_, rfl, ?_⟩
 replace hS6 := hS6.join rfl; dsimp only [List.dropLast, List.cons_append, List.nil_append] at hS6; clear hC6
 clear hS4
 refine wl_guard rfl rfl (decide_eq_false h5) ?_
 refine wl_geq rfl rfl rfl ?_
 refine wl_pickF rfl (decide_eq_false h5) rfl rfl ?_
 refine wl_nil (qs_seq ?_)
 refine wc_sub (L' := [(50, _), (6, _), (0, _), (1, _), (2, _)]) (.cons rfl (.cons rfl (.cons rfl (.cons rfl (.cons rfl .nil))))) ?_
 refine wc_condD rfl (fun h7 => ?_) (fun h7 => ?_)
 ·rcases hix with ⟨q, _⟩ | ⟨j, q, q2⟩; (omega); exact absurd (Desc.refl hD hdp) (hfr dir (List.mem_of_getElem? q2))
 refine wc_skip (qs_seq (wc_seq (wc_region (wl_move rfl rfl (wl_move rfl rfl (wl_nilCheck rfl rfl ?_))))))
 refine wl_fieldAddr rfl fo_74_1 rfl ?_
 refine wl_load rfl ag_40 (by first | assumption | exact hS6.cell 2 rfl rfl) rfl ?_
 refine wl_move rfl rfl ?_
 refine wl_rowBuild stC [dir] hS6 rfl Tryz.underlying40 ifz_9 rfl rfl rfl rfl (by first | rfl | simp [RowC.cells, fillL, splice]) rfl ?_
 intro bbk w8 hS8
 clear hS6
 refine wl_rowApp stC 4 hS8 rfl rfl rfl (hS8.rd 0 rfl (by simp)) Tryz.underlying40 Tryz.underlying40 (by intro k hk; cases hk) ifo_9 rfl (by first | omega | (simp; omega)) rfl (by first | omega | (simp; omega)) ?_
 intro v9 w9 hS9; dsimp only [List.set] at hS9
 clear hS8
 have h1v9 : v9.oneCell' = true := hS9.own_one 4 rfl
 refine wl_nilCheck rfl rfl ?_
 refine wl_fieldAddr rfl fo_74_1 rfl ?_
 refine wl_store hS9 rfl rfl sz_40 (by first | rfl | exact hS9.own_one 4 rfl | exact hS9.own_one 5 rfl) (i := 3) rfl (by simp) ?_
 intro w10 hS10; dsimp only [List.set] at hS10
 clear hS9
 refine wl_nil (qs_seq ?_)
 refine wc_sub (L' := [(6, _), (0, _), (1, _), (2, _)]) (.cons rfl (.cons rfl (.cons rfl (.cons rfl .nil)))) ?_
 refine wc_seq (wc_region (wl_assign rfl rfl (wl_nil (qs_seq (wc_block ?_)))))
 have hS8 := hS10.pick [3, 4, 5, 2, 1, 6] rfl
 rw [show filesOf W K = filesOf W (K ++ []) by rw [List.append_nil]] at hS8
 refine wc_loop (fun K0 E0 W0 => ∃ (i : Nat) (nd nk : List Bs) (dv fv : Value), K0 = L.length - i ∧ E0 = [(0, ptrV b 0), (1, strV dir), (2, intV (dep : Int)), (6, .slice la L.length lc), (8, intV (i : Int))] ∧ Sat W0 [blkT b [ptrV p 0, dv, fv, .bool true], rowT stC dv (ds ++ nd), rowT stC fv (filesOf W (K ++ nk)), rowT stC (.slice la L.length lc) L, worldT p W, F] ∧ (i ≤ L.length) ∧ (PartI W dir L i nd nk)) (L0 := [(0, _), (1, _), (2, _), (6, _), (8, _)]) (L.length - 0) (.cons rfl (.cons rfl (.cons rfl (.cons rfl (.cons rfl .nil))))) ⟨0, [dir], [], _, _, rfl, rfl, hS8, by omega, PartI.start⟩ ?_
 rintro _ _ w11 ⟨i, nd, nk, dv, fv, rfl, rfl, hS11, hi, hpi⟩
 have hwk := hpi.wk hT hNL hD hdp hW hfr
 have hdl9 := hwk.dlen hP
 have hkl9 := hwk.klen hP
 have hfl9 := filesOf_len W (K ++ nk)
 refine wc_seq (wc_seq (wc_region (wl_move rfl rfl (wl_move rfl rfl ?_))))
 first | refine wl_lenL Tryz.underlying40 rfl rfl ?_ | refine wl_lenO 1 hS11 Tryz.underlying40 rfl rfl rfl ?_ | refine wl_lenO 2 hS11 Tryz.underlying40 rfl rfl rfl ?_ | refine wl_lenO 3 hS11 Tryz.underlying40 rfl rfl rfl ?_
 refine wl_lss rfl rfl rfl ?_
 refine wl_move rfl rfl ?_
 refine wl_splitD 68 rfl (fun h12 => ?_) (fun h12 => ?_)
 ·obtain ⟨y, hy⟩ : ∃ y, L[i]? = some y := ⟨_, List.getElem?_eq_getElem (by omega)⟩
  obtain ⟨lb, lo, hql, _⟩ := hS11.own_at 3 rfl (by omega)
  cases hql
  obtain ⟨hyn, hyc⟩ := hNL.nm y (List.mem_of_getElem? hy)
  have hyl := (nameB_is hyn).2.1
  have hcl := hP.val (kE dir y)
  have hres : resV W dir y = ((W.cells (kE dir y)), 0) := by rw [res_dir hyn hd0, if_pos hyc]
  obtain ⟨ny, hny⟩ := (TI.ent hT (kE dir y) (pre_kE _ _) hyc).2
  have hby : bI W (W.cells (kE dir y)) = true := by unfold bI; rw [hny]; rfl
  refine wl_guard rfl rfl (decide_eq_true h12) ?_
  refine wl_move rfl rfl ?_
  refine wl_guard rfl rfl (decide_eq_true h12) ?_
  refine wl_nilCheck rfl rfl ?_
  refine wl_guard rfl rfl (decide_eq_true h12) ?_
  refine wl_fieldAddr rfl fo_74_3 rfl ?_
  refine wl_guard rfl rfl (decide_eq_true h12) ?_
  refine wl_load rfl ag_4 (by first | assumption | exact hS11.cell 0 rfl rfl) rfl ?_
  refine wl_pickT rfl (decide_eq_true h12) rfl rfl ?_
  refine wl_nil (qs_seq ?_)
  refine wc_sub (L' := [(73, _), (0, _), (1, _), (2, _), (6, _), (8, _)]) (.cons rfl (.cons rfl (.cons rfl (.cons rfl (.cons rfl (.cons rfl .nil)))))) ?_
  refine wc_condT rfl ?_
  refine wc_skip (qs_seq (wc_seq (wc_block (wc_seq ?_))))
  have hS13 := hS11.drew
  refine wc_draw [0, 1, 2, 3, 4, 5, 6, 7, 8, 9, 10, 11, 12, 13, 14, 15] [10] mix (by kernel_rfl) ?_
  refine vc_p rfl rfl rfl (fun _ => (ev_move rfl)) ?_
  refine vc_p rfl rfl rfl (fun _ => (ev_nilCheck rfl)) ?_
  refine vc_p rfl rfl rfl (fun _ => (ev_fieldAddr rfl fo_74_0)) ?_
  refine vc_q rfl rfl rfl (ev_load rfl ag_25 (by first | assumption | exact hS13.cell 0 rfl rfl)) ?_
  refine vc_p rfl rfl rfl (fun _ => (ev_makeIface nif_25 rfl)) ?_
  refine vc_p rfl rfl rfl (fun _ => (ev_move rfl)) ?_
  refine vc_p rfl rfl rfl (fun _ => (ev_move rfl)) ?_
  refine vc_p rfl rfl rfl (fun _ => (ev_move rfl)) ?_
  refine vc_p rfl rfl rfl (fun _ => (ev_indexAddr i rfl rfl (by first | rfl | omega) (by first | omega | exact (List.getElem?_eq_some_iff.1 hy).1) es_40)) ?_
  refine vc_q rfl rfl rfl (ev_rowLoad0 stC 3 i 0 hS13 rfl hy ag_9 rfl rfl) ?_
  refine vc_s rfl rfl rfl rfl rfl rfl ?_
  have hC14 := hS13.split [4] [false, false, false, false, true, false] rfl; dsimp only [selF, pickA, nthA, List.cons_append, List.nil_append] at hC14
  refine wl_call cal_11 rfl (resolve_sp hC14 (hG.starL 4 rfl) hP (by omega) dir y (by omega) (by omega)) rfl ?_
  rintro e w14 ⟨_, rfl, rfl, hS14⟩; refine ⟨_, rfl, ?_⟩
  replace hS14 := hS14.join rfl; dsimp only [List.dropLast, List.cons_append, List.nil_append] at hS14; clear hC14
  clear hS13
  refine vc_e (.skip (by kernel_rfl) (.skip (by kernel_rfl) .nil)) ?_
  refine vc_p rfl rfl rfl (fun _ => (ev_move rfl)) ?_
  refine vc_p rfl rfl rfl (fun _ => (ev_extract rfl rfl)) ?_
  refine vc_p rfl rfl rfl (fun _ => (ev_extract rfl rfl)) ?_
  refine vc_p rfl rfl rfl (fun _ => (ev_assign rfl)) ?_
  refine vc_p rfl rfl rfl (fun _ => (ev_assign rfl)) ?_
  refine VC.nil ?_
  rw [hres]
  refine qs_seq ?_
  refine wc_sub (L' := [(10, _), (9, _), (0, _), (1, _), (2, _), (6, _), (8, _)]) (.cons rfl (.cons rfl (.cons rfl (.cons rfl (.cons rfl (.cons rfl (.cons rfl .nil))))))) ?_
  refine wc_seq (wc_region (wl_move rfl rfl (wl_nilCheck rfl rfl ?_)))
  refine wl_fieldAddr rfl fo_74_0 rfl ?_
  refine wl_load rfl ag_25 (by first | assumption | exact hS14.cell 1 rfl rfl) rfl ?_
  refine wl_makeIface nif_25 rfl rfl ?_
  refine wl_move rfl rfl ?_
  have hC15 := hS14.split [0] [true, false, false, false, false, false] rfl; dsimp only [selF, pickA, nthA, List.cons_append, List.nil_append] at hC15
  refine wl_call cal_30 rfl (inode_sp hC15 (hG.starL 4 rfl) (W.cells (kE dir y)) (by omega) (hP.tb _)) rfl ?_
  rintro e w15 ⟨_, rfl, rfl, hS15⟩; refine ⟨_, rfl, ?_⟩
  replace hS15 := hS15.join rfl; dsimp only [List.dropLast, List.cons_append, List.nil_append] at hS15; clear hC15
  clear hS14
  refine wl_move rfl rfl (wl_extract rfl rfl rfl (wl_extract rfl rfl rfl ?_))
  refine wl_alloc hS15 zr_35 rfl rfl ?_
  intro b16 w16 hS16
  clear hS15
  first | (refine wl_storeA hS16 rfl rfl sz_35 rfl (by first | rfl | (simp [allOne, Value.oneCell']; done) | assumption | exact hone) (i := 0) rfl (by first | decide | exact Nat.le_of_ble_eq_true rfl | (simp; done) | omega) ?_) | (refine wl_storeA hS16 rfl rfl sz_35 rfl (by first | rfl | (simp [allOne, Value.oneCell']; done) | assumption | exact hone) (i := 2) rfl (by first | decide | exact Nat.le_of_ble_eq_true rfl | (simp; done) | omega) ?_)
  intro w17 hS18; dsimp only [List.set] at hS18
  clear hS16
  refine wl_assign rfl rfl (wl_nil (qs_seq ?_))
  refine wc_sub (L' := [(12, _), (11, _), (10, _), (9, _), (0, _), (1, _), (2, _), (6, _), (8, _)]) (.cons rfl (.cons rfl (.cons rfl (.cons rfl (.cons rfl (.cons rfl (.cons rfl (.cons rfl (.cons rfl .nil))))))))) ?_
  refine wc_seq (wc_seq (wc_region (wl_move rfl rfl ?_)))
  refine wl_neq rfl rfl rfl ?_
  refine wl_move rfl rfl ?_
  refine wl_splitD 102 rfl (fun h19 => ?_) (fun h19 => ?_)
  ·exact absurd rfl h19
  refine wl_guard rfl rfl (decide_eq_false h19) ?_
  refine wl_move rfl rfl ?_
  refine wl_guard rfl rfl (decide_eq_false h19) ?_
  refine wl_not rfl rfl ?_
  refine wl_pickF rfl (decide_eq_false h19) rfl rfl ?_
  refine wl_move rfl rfl ?_
  refine wl_split 106 rfl (fun h20 => ?_) (fun h20 => ?_)
  ·exact absurd hby (by simpa using h20)
  refine wl_guard rfl rfl h20 ?_
  refine wl_move rfl rfl ?_
  refine wl_guard rfl rfl h20 ?_
  refine wl_move rfl rfl ?_
  refine wl_guard rfl rfl h20 ?_
  refine wl_rowIdx stC 5 i hS18 rfl rfl rfl (by first | rfl | omega) hy es_40 rfl ?_
  intro bx21 capx21 hvx21
  refine wl_guard rfl rfl h20 ?_
  refine wl_rowLoad 5 i 0 hS18 rfl hvx21 rfl rfl hy ag_9 rfl rfl ?_
  refine wl_guard rfl rfl h20 ?_
  have hC22 := hS18.split [] [false, false, false, false, false, false, false] rfl; dsimp only [selF, pickA, nthA, List.cons_append, List.nil_append] at hC22
  refine wl_call cal_13 rfl (name_sp hC22 y (by omega)) rfl ?_
  rintro e w22 ⟨_, rfl, rfl, hS22⟩; refine ⟨_, rfl, ?_⟩
  replace hS22 := hS22.join rfl; dsimp only [List.dropLast, List.cons_append, List.nil_append] at hS22; clear hC22
  clear hS18
  refine wl_guard rfl rfl h20 ?_
  refine wl_not rfl rfl ?_
  refine wl_pickF rfl h20 rfl rfl ?_
  refine wl_nil (qs_seq ?_)
  refine wc_sub (L' := [(113, _), (11, _), (9, _), (0, _), (1, _), (2, _), (6, _), (8, _)]) (.cons rfl (.cons rfl (.cons rfl (.cons rfl (.cons rfl (.cons rfl (.cons rfl (.cons rfl .nil)))))))) ?_
  refine wc_cond rfl (fun h23 => ?_) (fun h23 => ?_)
  ·exact absurd hyn (by simpa using h23)
  refine wc_skip (qs_seq (wc_seq (wc_seq (wc_region ?_))))
  refine wl_fieldAddr rfl fo_35_0 rfl ?_
  refine wl_load rfl ag_3 (by first | assumption | exact hS22.cell 0 rfl rfl | exact hS22.cell 2 rfl rfl) rfl ?_
  refine wl_neq rfl rfl rfl ?_
  refine wl_nil (qs_seq ?_)
  refine wc_sub (L' := [(119, _), (9, _), (0, _), (1, _), (2, _), (6, _), (8, _)]) (.cons rfl (.cons rfl (.cons rfl (.cons rfl (.cons rfl (.cons rfl (.cons rfl .nil))))))) ?_
  refine wc_condD rfl (fun h24 => ?_) (fun h24 => ?_)
  ·have hk2 : (gI' W (W.cells (kE dir y))).k ≠ 2 := h24
   have hfile : ¬ isD W (W.cells (kE dir y)) := fun q => hk2 (gI_D q)
   refine wc_seq (wc_region (wl_move rfl rfl (wl_move rfl rfl (wl_nilCheck rfl rfl ?_))))
   refine wl_fieldAddr rfl fo_74_2 rfl ?_
   refine wl_load rfl ag_40 (by first | assumption | exact hS22.cell 0 rfl rfl | exact hS22.cell 2 rfl rfl) rfl ?_
   refine wl_move rfl rfl ?_
   refine wl_rowBuild stC [(W.cells (kE dir y))] hS22 rfl Tryz.underlying40 ifz_9 rfl rfl rfl rfl (by first | rfl | simp [RowC.cells, fillL, splice]) rfl ?_
   intro bbk w25 hS25
   clear hS22
   refine wl_rowApp stC 5 hS25 rfl rfl rfl (hS25.rd 0 rfl (by simp)) Tryz.underlying40 Tryz.underlying40 (by intro k hk; cases hk) ifo_9 rfl (by first | omega | (simp; omega)) rfl (by first | omega | (simp; omega)) ?_
   intro v26 w26 hS26; dsimp only [List.set] at hS26
   clear hS25
   have h1v26 : v26.oneCell' = true := hS26.own_one 5 rfl
   refine wl_nilCheck rfl rfl ?_
   refine wl_fieldAddr rfl fo_74_2 rfl ?_
   refine wl_store hS26 rfl rfl sz_40 (by first | rfl | exact hS26.own_one 4 rfl | exact hS26.own_one 5 rfl) (i := 3) rfl (by simp) ?_
   intro w27 hS27; dsimp only [List.set] at hS27
   clear hS26
   refine wl_nil (qs_seq ?_)
   refine wc_sub (L' := [(9, _), (0, _), (1, _), (2, _), (6, _), (8, _)]) (.cons rfl (.cons rfl (.cons rfl (.cons rfl (.cons rfl (.cons rfl .nil)))))) ?_
   refine wc_exit (qs_then_exit (qs_block_exit (qs_seq (wc_region (wl_move rfl rfl ?_)))))
   refine wl_add rfl rfl (by first | omega | (simp; omega)) (by first | omega | (simp; omega)) rfl ?_
   refine wl_assign rfl rfl (wl_nil ?_)
   have hS9 := hS27.pick [3, 4, 5, 6, 2, 7] rfl
   rw [show filesOf W (K ++ nk) ++ [(W.cells (kE dir y))] = filesOf W (K ++ (nk ++ [kE dir y])) by rw [← List.append_assoc, filesOf_app W (K ++ nk), filesOf_file hk2]] at hS9
   exact qs_round (L1 := [(0, _), (1, _), (2, _), (6, _), (8, intV ((i + 1 : Nat) : Int))]) (.cons rfl (.cons rfl (.cons rfl (.cons rfl (.cons rfl .nil))))) (k1 := L.length - (i + 1)) (by omega) ⟨i + 1, nd, (nk ++ [kE dir y]), _, _, rfl, rfl, hS9, by omega, hpi.file hT hNL hy hfile⟩
  have hk2 : (gI' W (W.cells (kE dir y))).k = 2 := Decidable.not_not.1 h24
  have hcD : isD W (W.cells (kE dir y)) := ⟨_, bI_some hby, hk2⟩
  have hre2 : resV W (W.cells (kE dir y)) [46, 46] = (dir, 0) := by rw [res_up hcD, (hT.child hyn hcD).2]
  refine wc_skip (qs_seq (wc_seq (wc_region (wl_move rfl rfl (wl_nilCheck rfl rfl ?_)))))
  refine wl_fieldAddr rfl fo_74_0 rfl ?_
  refine wl_load rfl ag_25 (by first | assumption | exact hS22.cell 0 rfl rfl | exact hS22.cell 2 rfl rfl) rfl ?_
  refine wl_makeIface nif_25 rfl rfl ?_
  refine wl_move rfl rfl ?_
  have hC28 := hS22.split [1] [false, true, false, false, false, false, false] rfl; dsimp only [selF, pickA, nthA, List.cons_append, List.nil_append] at hC28
  refine wl_call cal_11 rfl (resolve_sp hC28 (hG.starL 5 rfl) hP (by omega) (W.cells (kE dir y)) [46, 46] (by omega) (by simp)) rfl ?_
  rintro e w28 ⟨_, rfl, rfl, hS28⟩; refine ⟨_, rfl, ?_⟩
  replace hS28 := hS28.join rfl; dsimp only [List.dropLast, List.cons_append, List.nil_append] at hS28; clear hC28
  clear hS22
  refine wl_move rfl rfl (wl_extract rfl rfl rfl (wl_extract rfl rfl rfl (wl_assign rfl rfl (wl_assign rfl rfl (wl_nil ?_)))))
  rw [hre2]
  refine qs_seq ?_
  refine wc_sub (L' := [(14, _), (13, _), (9, _), (0, _), (1, _), (2, _), (6, _), (8, _)]) (.cons rfl (.cons rfl (.cons rfl (.cons rfl (.cons rfl (.cons rfl (.cons rfl (.cons rfl .nil)))))))) ?_
  refine wc_seq (wc_seq (wc_region (wl_move rfl rfl ?_)))
  refine wl_neq rfl rfl rfl ?_
  refine wl_move rfl rfl ?_
  refine wl_splitD 142 rfl (fun h29 => ?_) (fun h29 => ?_)
  ·exact absurd rfl h29
  refine wl_guard rfl rfl (decide_eq_false h29) ?_
  refine wl_move rfl rfl ?_
  refine wl_guard rfl rfl (decide_eq_false h29) ?_
  refine wl_move rfl rfl ?_
  refine wl_guard rfl rfl (decide_eq_false h29) ?_
  refine wl_neqS rfl rfl rfl ?_
  refine wl_pickF rfl (decide_eq_false h29) rfl rfl ?_
  refine wl_nil (qs_seq ?_)
  refine wc_sub (L' := [(146, _), (9, _), (0, _), (1, _), (2, _), (6, _), (8, _)]) (.cons rfl (.cons rfl (.cons rfl (.cons rfl (.cons rfl (.cons rfl (.cons rfl .nil))))))) ?_
  refine wc_condD rfl (fun h30 => ?_) (fun h30 => ?_)
  ·exact absurd rfl h30
  refine wc_skip (qs_seq ?_)
  have hSf := walkT_shut (hS28.pick [2, 3, 4, 5, 0, 6] rfl)
  clear hS28
  refine wc_region (wl_move rfl rfl (wl_move rfl rfl (wl_move rfl rfl ?_)))
  refine wl_add rfl rfl (by first | omega | (simp; omega)) (by first | omega | (simp; omega)) rfl ?_
  have hC31 := hSf.split [0, 2] [true, false, true, false] rfl; dsimp only [selF, pickA, nthA, List.cons_append, List.nil_append] at hC31
  refine wl_call cal_39 rfl (ih hC31 (hG.starL 1 rfl) hcD ⟨(hT.child hyn hcD).1, by rw [(hT.child hyn hcD).2]; exact hdp⟩ (hpi.fresh hT hNL hy hcD hfr) hwk) rfl ?_
  rintro e w31 ⟨_, rfl, rfl, nd9, nk9, hF9, hS31⟩; refine ⟨_, rfl, ?_⟩
  replace hS31 := hS31.join rfl; dsimp only [List.dropLast, List.cons_append, List.nil_append] at hS31; clear hC31
  clear hSf
  refine wl_nil (qs_block_normal (qs_seq ?_))
  refine wc_sub (L' := [(0, _), (1, _), (2, _), (6, _), (8, _)]) (.cons rfl (.cons rfl (.cons rfl (.cons rfl (.cons rfl .nil))))) ?_
  refine wc_region (wl_move rfl rfl ?_)
  refine wl_add rfl rfl (by first | omega | (simp; omega)) (by first | omega | (simp; omega)) rfl ?_
  refine wl_assign rfl rfl (wl_nil ?_)
  obtain ⟨dv2, fv2, hSo⟩ := walkT_open (hS31.pick [0, 2, 1, 3] rfl)
  rw [List.append_assoc, show filesOf W (K ++ nk ++ nk9) = filesOf W (K ++ (nk ++ (kE dir y :: nk9))) by rw [filesOf_app, filesOf_app, filesOf_app, filesOf_app, filesOf_dir hk2, List.append_assoc]] at hSo
  exact qs_round (L1 := [(0, _), (1, _), (2, _), (6, _), (8, intV ((i + 1 : Nat) : Int))]) (.cons rfl (.cons rfl (.cons rfl (.cons rfl (.cons rfl .nil))))) (k1 := L.length - (i + 1)) (by omega) ⟨i + 1, (nd ++ nd9), (nk ++ (kE dir y :: nk9)), _, _, rfl, rfl, hSo, by omega, hpi.dir hT hNL hy hcD hF9⟩
 refine wl_unwanted rfl rfl (decide_eq_false h12) rfl ?_
 refine wl_unwanted rfl rfl (decide_eq_false h12) rfl ?_
 refine wl_unwanted rfl rfl (decide_eq_false h12) rfl ?_
 refine wl_unwanted rfl rfl (decide_eq_false h12) rfl ?_
 refine wl_pickF rfl (decide_eq_false h12) rfl rfl ?_
 refine wl_nil (qs_seq ?_)
 refine wc_sub (L' := [(73, _), (0, _), (1, _), (2, _), (6, _), (8, _)]) (.cons rfl (.cons rfl (.cons rfl (.cons rfl (.cons rfl (.cons rfl .nil)))))) ?_
 refine wc_condF rfl ?_
 refine wc_exit (qs_then_exit (qs_then_exit (qs_block_exit ?_)))
 refine fin0 (.inl rfl) rfl ?_
 obtain rfl : i = L.length := by omega
 exact ⟨_, rfl, rfl, nd, nk, hpi.done hT hD hdp hNL, walkT_shut (hS11.pick [0, 1, 2, 4, 5] rfl)⟩
theorem from_sp {W : WS} {m b p : Nat} (hT : TreeI W) (hP : PI W m) (hm : m ≤ 300) : ∀ (N dep : Nat), dep + N = 9 → ∀ {w : World} {F : Th} {ds K : List Bs} {dir : Bs}, Sat w [walkT b p ds (filesOf W K), worldT p W, F] → Ent F WireG → isD W dir → Dp W dep dir → (∀ x ∈ ds, ¬ Desc W dir x) → WkI W ds K → Calls Tryz.prog 39 #[ptrV b 0, strV dir, intV (dep : Int)] w (Ret fun v w' => v = .tuple #[] ∧ ∃ nd nk, FromI W dir nd nk ∧ Sat w' [walkT b p (ds ++ nd) (filesOf W (K ++ nk)), worldT p W, F])
  | 0, dep, hN, _, _, _, _, _, _, _, hD, hdp, _, _ => by
    obtain ⟨n, h1, h2⟩ := TI.dep hT _ hD
    have := Dp_one hdp h2
    omega
  | N + 1, dep, hN, _, _, _, _, _, hS, hG, hD, hdp, hfr, hW => from_step hT hP hm (fun a1 a2 a3 a4 a5 a6 => from_sp hT hP hm N (dep + 1) (by omega) a1 a2 a3 a4 a5 a6) hS hG hD hdp (by omega) hfr hW
end Go.Proofs.YtkaikhcpcbjkcaaGreatDoor
