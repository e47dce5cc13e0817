/- procs, in plain data -/
import Derived.Test.YtcbdclhoekokpaaGreatDoorWr
namespace Go.Proofs.YtcbdclhoekokpaaGreatDoor
open Go.RowKit M
set_option linter.unusedVariables false
structure ArD where
  a : Int
  n : Int
  o : Bs
  f : Int
  sh : Bool
  wr : Bool
instance : Inhabited ArD := ⟨⟨0, 0, [], 0, false, false⟩⟩
instance : DecidableEq ArD := fun x y => by
  cases x; cases y
  rw [ArD.mk.injEq]; infer_instance
/-- a record: hs = the numbers ahead of the areas (19), ts = the numbers behind the directory (38, with the flags as 0 and 1) -/
structure ProcD where
  hs : List Int
  ar : List ArD
  fds : List Bs
  cwd : Bs
  ts : List Int
  shl : Bs
instance : Inhabited ProcD := ⟨⟨[], [], [], [], [], []⟩⟩
instance : DecidableEq ProcD := fun x y => by
  cases x; cases y
  rw [ProcD.mk.injEq]; infer_instance
def encN (n : Int) : Bs := Lib.itoa n ++ [59]
def bitN (b : Bool) : Int := if b = true then 1 else 0
def encIs (l : List Int) : Bs := l.flatMap encN
def encAr (x : ArD) : Bs := encN x.a ++ encN x.n ++ encT x.o ++ encN x.f ++ encN (bitN x.sh) ++ encN (bitN x.wr)
def encTs (l : List Bs) : Bs := Lib.itoa (l.length : Int) ++ [91] ++ l.flatMap encT ++ [93]
def encR (p : ProcD) : Bs := encIs p.hs ++ encN (p.ar.length : Int) ++ p.ar.flatMap encAr ++ encTs p.fds ++ encT p.cwd ++ encIs p.ts ++ encT p.shl
/-- the readers -/
abbrev St := Bs × Bool
def iV (s : St) : Int := numV 59 imin s
def iR (s : St) : St := numR 59 imin s
def intsR : Nat → St → St
  | 0, s => s
  | n + 1, s => iR (intsR n s)
def intsV (n : Nat) (s : St) : List Int := (List.range n).map fun j => iV (intsR j s)
theorem intsV_len (n : Nat) (s : St) : (intsV n s).length = n := by simp [intsV]
theorem intsV_succ (n : Nat) (s : St) : intsV (n + 1) s = intsV n s ++ [iV (intsR n s)] := by simp [intsV, List.range_succ]
theorem intsR_add (n m : Nat) (s : St) : intsR (n + m) s = intsR m (intsR n s) := by
  induction m with
  | zero => rfl
  | succ m ih => show iR (intsR (n + m) s) = iR (intsR m (intsR n s)); rw [ih]
theorem intsV_add (n m : Nat) (s : St) : intsV (n + m) s = intsV n s ++ intsV m (intsR n s) := by
  induction m with
  | zero => simp [intsV]
  | succ m ih => rw [← Nat.add_assoc, intsV_succ, ih, intsV_succ, List.append_assoc, intsR_add]
def arV (s : St) : ArD := ⟨iV s, iV (iR s), txtV (iR (iR s)), iV (txtR (iR (iR s))), decide (iV (iR (txtR (iR (iR s)))) = 1), decide (iV (iR (iR (txtR (iR (iR s))))) = 1)⟩
def arR (s : St) : St := iR (iR (iR (txtR (iR (iR s)))))
def fl01 (n : Int) : Bool := decide (n = 0) || decide (n = 1)
def arF (s : St) : Bool := fl01 (iV (iR (txtR (iR (iR s))))) && fl01 (iV (iR (iR (txtR (iR (iR s))))))
/-- after k areas -/
def arSt : Nat → St → St
  | 0, s => s
  | k + 1, s => arR (arSt k s)
def arsV (k : Nat) (s : St) : List ArD := (List.range k).map fun j => arV (arSt j s)
def arsF (k : Nat) (s : St) : Bool := (List.range k).all fun j => arF (arSt j s)
theorem arsV_succ (k : Nat) (s : St) : arsV (k + 1) s = arsV k s ++ [arV (arSt k s)] := by simp [arsV, List.range_succ]
theorem arsF_succ (k : Nat) (s : St) : arsF (k + 1) s = (arsF k s && arF (arSt k s)) := by simp [arsF, List.range_succ]
theorem arsV_len (k : Nat) (s : St) : (arsV k s).length = k := by simp [arsV]
/-- after k texts of a list -/
def txSt : Nat → St → St
  | 0, s => s
  | k + 1, s => txtR (txSt k s)
def txsV (k : Nat) (s : St) : List Bs := (List.range k).map fun j => txtV (txSt j s)
theorem txsV_succ (k : Nat) (s : St) : txsV (k + 1) s = txsV k s ++ [txtV (txSt k s)] := by simp [txsV, List.range_succ]
theorem txsV_len (k : Nat) (s : St) : (txsV k s).length = k := by simp [txsV]
/-- k is where the loop over texts ends -/
def TxEnd (n : Int) (s : St) (k : Nat) : Prop := (k : Int) ≤ max n 0 ∧ (∀ j, j < k → (txSt j s).2 = false) ∧ ((k : Int) = max n 0 ∨ (txSt k s).2 = true)
/-- k is where the loop over areas ends -/
def ArEnd (n : Int) (s : St) (k : Nat) : Prop := (k : Int) ≤ n ∧ (∀ j, j < k → (arSt j s).1 ≠ []) ∧ ((k : Int) = n ∨ (arSt k s).1 = [])
theorem TxEnd.uniq {n : Int} {s : St} {k m : Nat} (h : TxEnd n s k) (g : TxEnd n s m) : k = m := by
  obtain ⟨h1, h2, h3⟩ := h
  obtain ⟨g1, g2, g3⟩ := g
  rcases Nat.lt_trichotomy k m with q | q | q
  · rcases h3 with h3 | h3
    · omega
    · have := g2 k q; rw [h3] at this; cases this
  · exact q
  · rcases g3 with g3 | g3
    · omega
    · have := h2 m q; rw [g3] at this; cases this
theorem ArEnd.uniq {n : Int} {s : St} {k m : Nat} (h : ArEnd n s k) (g : ArEnd n s m) : k = m := by
  obtain ⟨h1, h2, h3⟩ := h
  obtain ⟨g1, g2, g3⟩ := g
  rcases Nat.lt_trichotomy k m with q | q | q
  · rcases h3 with h3 | h3
    · omega
    · exact absurd h3 (g2 k q)
  · exact q
  · rcases g3 with g3 | g3
    · omega
    · exact absurd g3 (h2 m q)
/-- what is well formed -/
def flagsOk (l : List Int) : Bool := (List.range 16).all fun i => fl01 ((l[3 + 2 * i]?).getD 0)
structure WFA (x : ArD) : Prop where
  a : inI x.a
  n : inI x.n
  f : inI x.f
  o : x.o.length ≤ 1000000
structure WFR (p : ProcD) : Prop where
  hl : p.hs.length = 19
  hi : ∀ n ∈ p.hs, inI n
  tl : p.ts.length = 38
  ti : ∀ n ∈ p.ts, inI n
  fl : flagsOk p.ts = true
  ar : ∀ x ∈ p.ar, WFA x
  al : p.ar.length ≤ 1000000
  fd : ∀ x ∈ p.fds, x.length ≤ 1000000
  fdl : p.fds.length ≤ 1000000
  cwd : p.cwd.length ≤ 1000000
  shl : p.shl.length ≤ 1000000
theorem int_cons {m : Int} {rest : Bs} (hm : inI m) : iV (encN m ++ rest, false) = m ∧ iR (encN m ++ rest, false) = (rest, false) := by
  have e : encN m ++ rest = Lib.itoa m ++ 59 :: rest := by simp [encN]
  unfold iV iR
  rw [e]
  exact num_cons (by decide) hm (by unfold inI at hm; unfold imin; omega)
theorem nat_cons {m : Nat} {rest : Bs} (hm : m ≤ 1000000) : numV 59 0 (encN (m : Int) ++ rest, false) = m ∧ numR 59 0 (encN (m : Int) ++ rest, false) = (rest, false) := by
  have e : encN (m : Int) ++ rest = Lib.itoa (m : Int) ++ 59 :: rest := by simp [encN]
  rw [e]
  exact num_cons (by decide) (by unfold inI; omega) (by omega)
theorem intsR_front : ∀ (n : Nat) (s : St), intsR (n + 1) s = intsR n (iR s)
  | 0, _ => rfl
  | n + 1, s => by show iR (intsR (n + 1) s) = iR (intsR n (iR s)); rw [intsR_front n s]
theorem intsV_front (n : Nat) (s : St) : intsV (n + 1) s = iV s :: intsV n (iR s) := by
  unfold intsV
  rw [List.range_succ_eq_map, List.map_cons, List.map_map]
  congr 1
  refine List.map_congr_left fun j _ => ?_
  show iV (intsR (j + 1) s) = iV (intsR j (iR s))
  rw [intsR_front]
theorem ints_enc : ∀ {l : List Int}, (∀ n ∈ l, inI n) → ∀ rest : Bs, intsV l.length (encIs l ++ rest, false) = l ∧ intsR l.length (encIs l ++ rest, false) = (rest, false)
  | [], _, rest => ⟨rfl, rfl⟩
  | n :: l, h, rest => by
    have e : encIs (n :: l) ++ rest = encN n ++ (encIs l ++ rest) := by simp [encIs]
    obtain ⟨h1, h2⟩ := int_cons (rest := encIs l ++ rest) (h n List.mem_cons_self)
    obtain ⟨h3, h4⟩ := ints_enc (l := l) (fun m hm => h m (List.mem_cons_of_mem _ hm)) rest
    rw [List.length_cons, intsV_front, intsR_front, e, h1, h2, h3, h4]
    exact ⟨rfl, rfl⟩
/-- what was read well was there -/
theorem int_back {s : St} (h : (iR s).2 = false) : s = (encN (iV s) ++ (iR s).1, false) ∧ inI (iV s) := by
  obtain ⟨h1, h2, _⟩ := num_ok h
  refine ⟨?_, h2⟩
  rw [show encN (iV s) ++ (iR s).1 = Lib.itoa (iV s) ++ 59 :: (iR s).1 by simp [encN]]
  exact h1
theorem bad_num {s : St} {e : UInt8} {l : Int} (h : s.2 = true) : (numR e l s).2 = true := by
  unfold numR
  split <;> simp [h]
theorem bad_int {s : St} (h : s.2 = true) : (iR s).2 = true := bad_num h
theorem good_int {s : St} (h : (iR s).2 = false) : s.2 = false := by
  cases hs : s.2 with
  | false => rfl
  | true => rw [bad_int hs] at h; cases h
theorem ints_back : ∀ (n : Nat) (s : St), (intsR n s).2 = false → s = (encIs (intsV n s) ++ (intsR n s).1, false) ∧ ∀ m ∈ intsV n s, inI m
  | 0, s, h => by
    refine ⟨?_, fun m hm => by simp [intsV] at hm⟩
    obtain ⟨a, b⟩ := s
    simp [intsV, encIs, intsR] at h ⊢
    exact h
  | n + 1, s, h => by
    rw [intsR_front] at h ⊢
    rw [intsV_front]
    obtain ⟨h1, h2⟩ := ints_back n (iR s) h
    have h3 : (iR s).2 = false := by rw [h1]
    obtain ⟨h4, h5⟩ := int_back h3
    refine ⟨?_, fun m hm => ?_⟩
    · have e : (iR s).1 = encIs (intsV n (iR s)) ++ (intsR n (iR s)).1 := by conv => lhs; rw [h1]
      rw [e] at h4
      conv => lhs; rw [h4]
      simp [encIs]
    · rcases List.mem_cons.1 hm with rfl | hm
      · exact h5
      · exact h2 m hm
theorem good_txt {s : St} (h : (txtR s).2 = false) : s = (encT (txtV s) ++ (txtR s).1, false) ∧ (txtV s).length ≤ s.1.length := by
  have key : ¬ (((numR 58 0 s).1.length : Int) < numV 58 0 s) := by
    intro q; unfold txtR at h; rw [if_pos q] at h; cases h
  have e1 : txtR s = cutV 44 ((numR 58 0 s).1.drop (numV 58 0 s).toNat, (numR 58 0 s).2) := by unfold txtR; rw [if_neg key]
  have e2 : txtV s = (numR 58 0 s).1.take (numV 58 0 s).toNat := by unfold txtV; rw [if_neg key, ← e1, if_neg (by simp [h])]
  have h1 := cut_some e1.symm h
  have h2 : (numR 58 0 s).2 = false := congrArg Prod.snd h1
  have h3 : (numR 58 0 s).1.drop (numV 58 0 s).toNat = 44 :: (txtR s).1 := congrArg Prod.fst h1
  obtain ⟨h4, h5, h6⟩ := num_ok h2
  have e3 : (((txtV s).length : Nat) : Int) = numV 58 0 s := by rw [e2, List.length_take]; omega
  have e4 : (numR 58 0 s).1 = txtV s ++ 44 :: (txtR s).1 := by rw [e2, ← h3, List.take_append_drop]
  have e5 : s = (Lib.itoa (((txtV s).length : Nat) : Int) ++ 58 :: (txtV s ++ 44 :: (txtR s).1), false) := by rw [e3, ← e4]; exact h4
  have e6 : s = (encT (txtV s) ++ (txtR s).1, false) := e5.trans (by simp [encT])
  refine ⟨e6, ?_⟩
  have := congrArg (fun q : St => q.1.length) e6
  simp only [List.length_append] at this
  have h7 : (txtV s).length ≤ (encT (txtV s)).length := by simp [encT]; omega
  omega
theorem bad_cut {s : St} {e : UInt8} (h : s.2 = true) : (cutV e s).2 = true := by
  obtain ⟨l, b⟩ := s
  dsimp only at h
  subst h
  cases l with
  | nil => rfl
  | cons c l => simp only [cutV]; split <;> rfl
theorem bad_txt {s : St} (h : s.2 = true) : (txtR s).2 = true := by
  unfold txtR
  split
  · rfl
  · exact bad_cut (bad_num h)
theorem good_of {s : St} (h : (txtR s).2 = false) : s.2 = false := by
  cases hs : s.2 with
  | false => rfl
  | true => rw [bad_txt hs] at h; cases h
theorem txSt_front : ∀ (n : Nat) (s : St), txSt (n + 1) s = txSt n (txtR s)
  | 0, _ => rfl
  | n + 1, s => by show txtR (txSt (n + 1) s) = txtR (txSt n (txtR s)); rw [txSt_front n s]
theorem txsV_front (n : Nat) (s : St) : txsV (n + 1) s = txtV s :: txsV n (txtR s) := by
  unfold txsV
  rw [List.range_succ_eq_map, List.map_cons, List.map_map]
  congr 1
  refine List.map_congr_left fun j _ => ?_
  show txtV (txSt (j + 1) s) = txtV (txSt j (txtR s))
  rw [txSt_front]
theorem txts_back : ∀ (n : Nat) (s : St), (txSt n s).2 = false → s = ((txsV n s).flatMap encT ++ (txSt n s).1, false) ∧ ∀ x ∈ txsV n s, x.length ≤ s.1.length
  | 0, s, h => by
    refine ⟨?_, fun m hm => by simp [txsV] at hm⟩
    obtain ⟨a, b⟩ := s
    simp [txsV, txSt] at h ⊢
    exact h
  | n + 1, s, h => by
    rw [txSt_front] at h ⊢
    rw [txsV_front]
    obtain ⟨h1, h2⟩ := txts_back n (txtR s) h
    have h3 : (txtR s).2 = false := by rw [h1]
    obtain ⟨h4, h5⟩ := good_txt h3
    have e : (txtR s).1 = (txsV n (txtR s)).flatMap encT ++ (txSt n (txtR s)).1 := congrArg Prod.fst h1
    have hl : (txtR s).1.length ≤ s.1.length := txtR_len s
    refine ⟨?_, fun x hx => ?_⟩
    · refine h4.trans ?_
      rw [List.flatMap_cons, List.append_assoc, ← e]
    · rcases List.mem_cons.1 hx with rfl | hx
      · exact h5
      · exact Nat.le_trans (h2 x hx) hl
theorem txts_enc : ∀ {l : List Bs}, (∀ x ∈ l, x.length ≤ 1000000) → ∀ rest : Bs, txsV l.length (l.flatMap encT ++ rest, false) = l ∧ txSt l.length (l.flatMap encT ++ rest, false) = (rest, false)
  | [], _, rest => ⟨rfl, rfl⟩
  | x :: l, h, rest => by
    have e : (x :: l).flatMap encT ++ rest = encT x ++ (l.flatMap encT ++ rest) := by simp
    obtain ⟨h1, h2⟩ := txt_cons (s := x) (rest := l.flatMap encT ++ rest) (h x List.mem_cons_self)
    obtain ⟨h3, h4⟩ := txts_enc (l := l) (fun m hm => h m (List.mem_cons_of_mem _ hm)) rest
    rw [List.length_cons, txsV_front, txSt_front, e, h1, h2, h3, h4]
    exact ⟨rfl, rfl⟩
theorem txSt_good {n : Nat} {s : St} (h : (txSt n s).2 = false) : ∀ j, j ≤ n → (txSt j s).2 = false := by
  induction n with
  | zero => intro j hj; obtain rfl : j = 0 := by omega
            exact h
  | succ n ih =>
    intro j hj
    by_cases e : j = n + 1
    · subst e; exact h
    · exact ih (good_of h) j (by omega)
theorem arSt_front : ∀ (n : Nat) (s : St), arSt (n + 1) s = arSt n (arR s)
  | 0, _ => rfl
  | n + 1, s => by show arR (arSt (n + 1) s) = arR (arSt n (arR s)); rw [arSt_front n s]
theorem arsV_front (n : Nat) (s : St) : arsV (n + 1) s = arV s :: arsV n (arR s) := by
  unfold arsV
  rw [List.range_succ_eq_map, List.map_cons, List.map_map]
  exact congrArg (List.cons (arV s)) (List.map_congr_left fun j _ => congrArg arV (arSt_front j s))
theorem arsF_front : ∀ (n : Nat) (s : St), arsF (n + 1) s = (arF s && arsF n (arR s))
  | 0, s => by rw [arsF_succ]; simp [arsF, arSt]
  | n + 1, s => by rw [arsF_succ, arsF_front n s, arSt_front, arsF_succ, Bool.and_assoc]
theorem bit_fl {n : Int} (h : fl01 n = true) : bitN (decide (n = 1)) = n := by
  unfold fl01 at h
  simp only [Bool.or_eq_true, decide_eq_true_eq] at h
  rcases h with rfl | rfl <;> rfl
theorem ar_cat {a b c d e f g i0 i1 t i3 i4 i5 : Bs} (h0 : a = i0 ++ b) (h1 : b = i1 ++ c) (h2 : c = t ++ d) (h3 : d = i3 ++ e) (h4 : e = i4 ++ f) (h5 : f = i5 ++ g) : a = i0 ++ i1 ++ t ++ i3 ++ i4 ++ i5 ++ g := by
  subst h0 h1 h2 h3 h4 h5; simp
theorem ar_enc_eq {s : St} (hf : arF s = true) : encAr (arV s) = encN (iV s) ++ encN (iV (iR s)) ++ encT (txtV (iR (iR s))) ++ encN (iV (txtR (iR (iR s)))) ++ encN (iV (iR (txtR (iR (iR s))))) ++ encN (iV (iR (iR (txtR (iR (iR s)))))) := by
  simp only [arF, Bool.and_eq_true] at hf
  simp only [encAr, arV, bit_fl hf.1, bit_fl hf.2]
theorem iR_len (s : St) : (iR s).1.length ≤ s.1.length := numR_len _ _ _
section
attribute [local irreducible] iR iV txtR txtV
theorem ar_back {s : St} (h : (arR s).2 = false) (hf : arF s = true) (hl : s.1.length ≤ 1000000) : s = (encAr (arV s) ++ (arR s).1, false) ∧ WFA (arV s) := by
  have g5 : (iR (iR (iR (txtR (iR (iR s)))))).2 = false := h
  have g4 := good_int g5
  have g3 := good_int g4
  have g2 := good_int g3
  have g1 := good_of g2
  have g0 := good_int g1
  obtain ⟨h5, i5⟩ := int_back g5
  obtain ⟨h4, i4⟩ := int_back g4
  obtain ⟨h3, i3⟩ := int_back g3
  obtain ⟨h2, i2⟩ := good_txt g2
  obtain ⟨h1, i1⟩ := int_back g1
  obtain ⟨h0, i0⟩ := int_back g0
  have hl1 : (iR (iR s)).1.length ≤ s.1.length := Nat.le_trans (iR_len _) (iR_len _)
  have e : s.1 = encN (iV s) ++ encN (iV (iR s)) ++ encT (txtV (iR (iR s))) ++ encN (iV (txtR (iR (iR s)))) ++ encN (iV (iR (txtR (iR (iR s))))) ++ encN (iV (iR (iR (txtR (iR (iR s)))))) ++ (iR (iR (iR (txtR (iR (iR s)))))).1 := ar_cat (congrArg Prod.fst h0) (congrArg Prod.fst h1) (congrArg Prod.fst h2) (congrArg Prod.fst h3) (congrArg Prod.fst h4) (congrArg Prod.fst h5)
  rw [← ar_enc_eq hf] at e
  have h9 : s.2 = false := by have := congrArg Prod.snd h0; exact this
  exact ⟨Prod.ext e h9, ⟨i0, i1, i3, Nat.le_trans i2 (Nat.le_trans hl1 hl)⟩⟩
end
theorem arR_len (s : St) : (arR s).1.length ≤ s.1.length := by
  unfold arR
  exact Nat.le_trans (numR_len _ _ _) (Nat.le_trans (numR_len _ _ _) (Nat.le_trans (numR_len _ _ _) (Nat.le_trans (txtR_len _) (Nat.le_trans (numR_len _ _ _) (numR_len _ _ _)))))
theorem ars_back : ∀ (n : Nat) (s : St), (arSt n s).2 = false → arsF n s = true → s.1.length ≤ 1000000 → s = ((arsV n s).flatMap encAr ++ (arSt n s).1, false) ∧ ∀ x ∈ arsV n s, WFA x
  | 0, s, h, _, _ => by
    refine ⟨?_, fun m hm => by simp [arsV] at hm⟩
    obtain ⟨a, b⟩ := s
    simp [arsV, arSt] at h ⊢
    exact h
  | n + 1, s, h, hf, hl => by
    rw [arSt_front] at h ⊢
    rw [arsV_front]
    rw [arsF_front, Bool.and_eq_true] at hf
    obtain ⟨h1, h2⟩ := ars_back n (arR s) h hf.2 (Nat.le_trans (arR_len s) hl)
    have h3 : (arR s).2 = false := by rw [h1]
    obtain ⟨h4, h5⟩ := ar_back h3 hf.1 hl
    have e : (arR s).1 = (arsV n (arR s)).flatMap encAr ++ (arSt n (arR s)).1 := congrArg Prod.fst h1
    refine ⟨?_, fun x hx => ?_⟩
    · refine h4.trans ?_
      rw [List.flatMap_cons, List.append_assoc, ← e]
    · rcases List.mem_cons.1 hx with rfl | hx
      · exact h5
      · exact h2 x hx
theorem bit_in (b : Bool) : inI (bitN b) := by cases b <;> (unfold bitN inI; decide)
theorem bit_one (b : Bool) : decide (bitN b = 1) = b := by cases b <;> rfl
theorem fl_bit (b : Bool) : fl01 (bitN b) = true := by cases b <;> rfl
theorem ar_cons {x : ArD} (h : WFA x) (rest : Bs) : arV (encAr x ++ rest, false) = x ∧ arR (encAr x ++ rest, false) = (rest, false) ∧ arF (encAr x ++ rest, false) = true := by
  have e : encAr x ++ rest = encN x.a ++ (encN x.n ++ (encT x.o ++ (encN x.f ++ (encN (bitN x.sh) ++ (encN (bitN x.wr) ++ rest))))) := by simp [encAr]
  obtain ⟨a1, a2⟩ := int_cons (rest := encN x.n ++ (encT x.o ++ (encN x.f ++ (encN (bitN x.sh) ++ (encN (bitN x.wr) ++ rest))))) h.a
  obtain ⟨b1, b2⟩ := int_cons (rest := encT x.o ++ (encN x.f ++ (encN (bitN x.sh) ++ (encN (bitN x.wr) ++ rest)))) h.n
  obtain ⟨c1, c2⟩ := txt_cons (s := x.o) (rest := encN x.f ++ (encN (bitN x.sh) ++ (encN (bitN x.wr) ++ rest))) h.o
  obtain ⟨d1, d2⟩ := int_cons (rest := encN (bitN x.sh) ++ (encN (bitN x.wr) ++ rest)) h.f
  obtain ⟨f1, f2⟩ := int_cons (rest := encN (bitN x.wr) ++ rest) (bit_in x.sh)
  obtain ⟨g1, g2⟩ := int_cons (rest := rest) (bit_in x.wr)
  rw [e]
  unfold arV arR arF
  rw [a1, a2, b1, b2, c1, c2, d1, d2, f1, f2, g1, g2, bit_one, bit_one, fl_bit, fl_bit]
  exact ⟨rfl, rfl, rfl⟩
theorem ars_enc : ∀ {l : List ArD}, (∀ x ∈ l, WFA x) → ∀ rest : Bs, arsV l.length (l.flatMap encAr ++ rest, false) = l ∧ arSt l.length (l.flatMap encAr ++ rest, false) = (rest, false) ∧ arsF l.length (l.flatMap encAr ++ rest, false) = true
  | [], _, rest => ⟨rfl, rfl, rfl⟩
  | x :: l, h, rest => by
    have e : (x :: l).flatMap encAr ++ rest = encAr x ++ (l.flatMap encAr ++ rest) := by simp
    obtain ⟨h1, h2, h5⟩ := ar_cons (h x List.mem_cons_self) (l.flatMap encAr ++ rest)
    obtain ⟨h3, h4, h6⟩ := ars_enc (l := l) (fun m hm => h m (List.mem_cons_of_mem _ hm)) rest
    rw [List.length_cons, arsV_front, arSt_front, arsF_front, e, h1, h2, h3, h4, h5, h6]
    exact ⟨rfl, rfl, rfl⟩
theorem ars_mid : ∀ {l : List ArD}, (∀ x ∈ l, WFA x) → ∀ (rest : Bs) (j : Nat), j < l.length → (arSt j (l.flatMap encAr ++ rest, false)).1 ≠ []
  | [], _, _, _, hj => absurd hj (by simp)
  | x :: l, h, rest, j, hj => by
    have e : (x :: l).flatMap encAr ++ rest = encAr x ++ (l.flatMap encAr ++ rest) := by simp
    cases j with
    | zero => show (x :: l).flatMap encAr ++ rest ≠ []
              rw [e]; simp [encAr, encN]
    | succ j =>
      obtain ⟨h1, h2, h5⟩ := ar_cons (h x List.mem_cons_self) (l.flatMap encAr ++ rest)
      rw [arSt_front, e, h2]
      exact ars_mid (l := l) (fun m hm => h m (List.mem_cons_of_mem _ hm)) rest j (by simpa using hj)
theorem intsR_len (n : Nat) (z : St) : (intsR n z).1.length ≤ z.1.length := by
  induction n with
  | zero => exact Nat.le_refl _
  | succ n ih => exact Nat.le_trans (numR_len _ _ _) ih
theorem arSt_len (n : Nat) (z : St) : (arSt n z).1.length ≤ z.1.length := by
  induction n with
  | zero => exact Nat.le_refl _
  | succ n ih => exact Nat.le_trans (arR_len _) ih
theorem txSt_len (n : Nat) (z : St) : (txSt n z).1.length ≤ z.1.length := by
  induction n with
  | zero => exact Nat.le_refl _
  | succ n ih => exact Nat.le_trans (txtR_len _) ih
theorem encAr_few : ∀ l : List ArD, l.length ≤ (l.flatMap encAr).length
  | [] => by simp
  | x :: l => by
    have h1 := encAr_few l
    have h2 : 1 ≤ (encAr x).length := by simp [encAr, encN]; omega
    simp only [List.flatMap_cons, List.length_append, List.length_cons]; omega
theorem encT_few : ∀ l : List Bs, l.length ≤ (l.flatMap encT).length
  | [] => by simp
  | x :: l => by
    have h1 := encT_few l
    have h2 : 1 ≤ (encT x).length := by simp [encT]; omega
    simp only [List.flatMap_cons, List.length_append, List.length_cons]; omega
attribute [irreducible] intsR arSt txSt intsV arsV txsV
/-- what is read, with k areas and m texts -/
def nOf (s : Bs) : Int := numV 59 0 (intsR 19 (s, false))
def r2 (s : Bs) : St := numR 59 0 (intsR 19 (s, false))
def r3 (s : Bs) (k : Nat) : St := arSt k (r2 s)
def nT (s : Bs) (k : Nat) : Int := numV 91 0 (r3 s k)
def r4 (s : Bs) (k : Nat) : St := numR 91 0 (r3 s k)
def r5 (s : Bs) (k m : Nat) : St := cutV 93 (txSt m (r4 s k))
def r6 (s : Bs) (k m : Nat) : St := txtR (r5 s k m)
def r7 (s : Bs) (k m : Nat) : St := intsR 38 (r6 s k m)
def r8 (s : Bs) (k m : Nat) : St := txtR (r7 s k m)
def recO (s : Bs) (k m : Nat) : ProcD := ⟨intsV 19 (s, false), arsV k (r2 s), if (r5 s k m).2 = true then [] else txsV m (r4 s k), txtV (r5 s k m), intsV 38 (r6 s k m), txtV (r7 s k m)⟩
def okO (s : Bs) (k m : Nat) : Bool := !(r8 s k m).2 && decide ((r8 s k m).1 = []) && arsF k (r2 s) && flagsOk (intsV 38 (r6 s k m)) && decide ((k : Int) = nOf s)
structure Ends (s : Bs) (k m : Nat) : Prop where
  a : ArEnd (nOf s) (r2 s) k
  t : TxEnd (nT s k) (r4 s k) m
theorem Ends.uniq {s : Bs} {k m k' m' : Nat} (h : Ends s k m) (g : Ends s k' m') : k = k' ∧ m = m' := by
  have e := h.a.uniq g.a
  subst e
  exact ⟨rfl, h.t.uniq g.t⟩
/-- what was read well has this encoding -/
theorem ok_enc {s : Bs} {k m : Nat} (h : Ends s k m) (hs : s.length ≤ 1000000) (hok : okO s k m = true) : encR (recO s k m) = s ∧ WFR (recO s k m) := by
  simp only [okO, Bool.and_eq_true, Bool.not_eq_true', decide_eq_true_eq] at hok
  obtain ⟨⟨⟨⟨q8, q9⟩, qa⟩, qf⟩, qk⟩ := hok
  have g7 : (r7 s k m).2 = false := good_of q8
  obtain ⟨b8, c8⟩ := good_txt q8
  obtain ⟨b7, c7⟩ := ints_back 38 (r6 s k m) g7
  have g6 : (r6 s k m).2 = false := by rw [b7]
  obtain ⟨b6, c6⟩ := good_txt g6
  have g5 : (r5 s k m).2 = false := good_of g6
  have b5 : txSt m (r4 s k) = (93 :: (r5 s k m).1, false) := cut_some (e := 93) (s := txSt m (r4 s k)) rfl g5
  have g4 : (txSt m (r4 s k)).2 = false := by rw [b5]
  obtain ⟨b4, c4⟩ := txts_back m (r4 s k) g4
  have g3 : (r4 s k).2 = false := by rw [b4]
  obtain ⟨b3, c3, d3⟩ := num_ok (s := r3 s k) g3
  have g2 : (r3 s k).2 = false := by rw [b3]
  have l1 : (intsR 19 (s, false)).1.length ≤ s.length := intsR_len 19 (s, false)
  have l2 : (r2 s).1.length ≤ s.length := Nat.le_trans (numR_len _ _ _) l1
  obtain ⟨b2, c2⟩ := ars_back k (r2 s) g2 qa (by omega)
  have g1 : (r2 s).2 = false := by rw [b2]
  obtain ⟨b1, c1, d1⟩ := num_ok (s := intsR 19 (s, false)) g1
  have g0 : (intsR 19 (s, false)).2 = false := by rw [b1]
  obtain ⟨b0, c0⟩ := ints_back 19 (s, false) g0
  have hm : (m : Int) = nT s k := by
    obtain ⟨t1, t2, t3⟩ := h.t
    have t4 : 0 ≤ nT s k := d3
    rcases t3 with t3 | t3
    · omega
    · rw [g4] at t3; cases t3
  have l3 : (r3 s k).1.length ≤ s.length := Nat.le_trans (arSt_len k (r2 s)) l2
  have l4 : (r4 s k).1.length ≤ s.length := Nat.le_trans (numR_len _ _ _) l3
  have f0 : s = encIs (intsV 19 (s, false)) ++ (intsR 19 (s, false)).1 := congrArg Prod.fst b0
  have f1 : (intsR 19 (s, false)).1 = Lib.itoa (nOf s) ++ 59 :: (r2 s).1 := congrArg Prod.fst b1
  have f2 : (r2 s).1 = (arsV k (r2 s)).flatMap encAr ++ (r3 s k).1 := congrArg Prod.fst b2
  have f3 : (r3 s k).1 = Lib.itoa (nT s k) ++ 91 :: (r4 s k).1 := congrArg Prod.fst b3
  have f4 : (r4 s k).1 = (txsV m (r4 s k)).flatMap encT ++ (txSt m (r4 s k)).1 := congrArg Prod.fst b4
  have f5 : (txSt m (r4 s k)).1 = 93 :: (r5 s k m).1 := congrArg Prod.fst b5
  have f6 : (r5 s k m).1 = encT (txtV (r5 s k m)) ++ (r6 s k m).1 := congrArg Prod.fst b6
  have f7 : (r6 s k m).1 = encIs (intsV 38 (r6 s k m)) ++ (r7 s k m).1 := congrArg Prod.fst b7
  have f8 : (r7 s k m).1 = encT (txtV (r7 s k m)) ++ (r8 s k m).1 := congrArg Prod.fst b8
  have hall : s = encR (recO s k m) := by
    have z : encR (recO s k m) = encIs (intsV 19 (s, false)) ++ encN (nOf s) ++ (arsV k (r2 s)).flatMap encAr ++ (Lib.itoa (nT s k) ++ [91] ++ (txsV m (r4 s k)).flatMap encT ++ [93]) ++ encT (txtV (r5 s k m)) ++ encIs (intsV 38 (r6 s k m)) ++ encT (txtV (r7 s k m)) := by
      unfold encR recO encTs
      dsimp only
      rw [if_neg (by simp [g5]), arsV_len, txsV_len, qk, hm]
    have z2 : (r7 s k m).1 = encT (txtV (r7 s k m)) := by rw [q9, List.append_nil] at f8; exact f8
    have z3 : (r6 s k m).1 = encIs (intsV 38 (r6 s k m)) ++ encT (txtV (r7 s k m)) := by rw [← z2]; exact f7
    have z4 : (r5 s k m).1 = encT (txtV (r5 s k m)) ++ (encIs (intsV 38 (r6 s k m)) ++ encT (txtV (r7 s k m))) := by rw [← z3]; exact f6
    have z5 : (r4 s k).1 = (txsV m (r4 s k)).flatMap encT ++ 93 :: (encT (txtV (r5 s k m)) ++ (encIs (intsV 38 (r6 s k m)) ++ encT (txtV (r7 s k m)))) := by rw [← z4, ← f5]; exact f4
    have z6 : (r3 s k).1 = Lib.itoa (nT s k) ++ 91 :: ((txsV m (r4 s k)).flatMap encT ++ 93 :: (encT (txtV (r5 s k m)) ++ (encIs (intsV 38 (r6 s k m)) ++ encT (txtV (r7 s k m))))) := by rw [← z5]; exact f3
    have z7 : (r2 s).1 = (arsV k (r2 s)).flatMap encAr ++ (Lib.itoa (nT s k) ++ 91 :: ((txsV m (r4 s k)).flatMap encT ++ 93 :: (encT (txtV (r5 s k m)) ++ (encIs (intsV 38 (r6 s k m)) ++ encT (txtV (r7 s k m)))))) := by rw [← z6]; exact f2
    have z8 : (intsR 19 (s, false)).1 = Lib.itoa (nOf s) ++ 59 :: ((arsV k (r2 s)).flatMap encAr ++ (Lib.itoa (nT s k) ++ 91 :: ((txsV m (r4 s k)).flatMap encT ++ 93 :: (encT (txtV (r5 s k m)) ++ (encIs (intsV 38 (r6 s k m)) ++ encT (txtV (r7 s k m))))))) := by rw [← z7]; exact f1
    rw [z]
    refine f0.trans ?_
    rw [z8]
    simp [encN]
  have hk : k ≤ 1000000 := by
    have h1 := encAr_few (arsV k (r2 s))
    rw [arsV_len] at h1
    have h2 := congrArg List.length f2
    rw [List.length_append] at h2
    omega
  have hmm : m ≤ 1000000 := by
    have h1 := encT_few (txsV m (r4 s k))
    rw [txsV_len] at h1
    have h2 := congrArg List.length f4
    rw [List.length_append] at h2
    omega
  have l5 : (r5 s k m).1.length ≤ s.length := by
    have h1 := txSt_len m (r4 s k)
    have h2 := congrArg List.length f5
    rw [List.length_cons] at h2
    omega
  have l6 : (r6 s k m).1.length ≤ s.length := Nat.le_trans (txtR_len _) l5
  have l7 : (r7 s k m).1.length ≤ s.length := Nat.le_trans (intsR_len 38 (r6 s k m)) l6
  have hfd : (recO s k m).fds = txsV m (r4 s k) := by unfold recO; dsimp only; rw [if_neg (by simp [g5])]
  refine ⟨hall.symm, ⟨intsV_len _ _, c0, intsV_len _ _, c7, qf, c2, by show (arsV _ _).length ≤ _; rw [arsV_len]; exact hk, ?_, ?_, by show (txtV _).length ≤ _; omega, by show (txtV _).length ≤ _; omega⟩⟩
  · intro x hx
    rw [hfd] at hx
    have := c4 x hx
    omega
  · rw [hfd, txsV_len]; exact hmm
/-- an encoding is read as what it encodes -/
theorem enc_ok {p : ProcD} (h : WFR p) {k m : Nat} (he : Ends (encR p) k m) : okO (encR p) k m = true ∧ recO (encR p) k m = p := by
  have e0 : encR p = encIs p.hs ++ (encN (p.ar.length : Int) ++ (p.ar.flatMap encAr ++ (Lib.itoa (p.fds.length : Int) ++ 91 :: (p.fds.flatMap encT ++ 93 :: (encT p.cwd ++ (encIs p.ts ++ (encT p.shl ++ []))))))) := by simp [encR, encTs]
  obtain ⟨a1, a2⟩ := ints_enc h.hi (encN (p.ar.length : Int) ++ (p.ar.flatMap encAr ++ (Lib.itoa (p.fds.length : Int) ++ 91 :: (p.fds.flatMap encT ++ 93 :: (encT p.cwd ++ (encIs p.ts ++ (encT p.shl ++ [])))))))
  rw [h.hl, ← e0] at a1 a2
  obtain ⟨b1, b2⟩ := nat_cons (rest := p.ar.flatMap encAr ++ (Lib.itoa (p.fds.length : Int) ++ 91 :: (p.fds.flatMap encT ++ 93 :: (encT p.cwd ++ (encIs p.ts ++ (encT p.shl ++ [])))))) h.al
  have n1 : nOf (encR p) = p.ar.length := by unfold nOf; rw [a2]; exact b1
  have n2 : r2 (encR p) = (p.ar.flatMap encAr ++ (Lib.itoa (p.fds.length : Int) ++ 91 :: (p.fds.flatMap encT ++ 93 :: (encT p.cwd ++ (encIs p.ts ++ (encT p.shl ++ []))))), false) := by unfold r2; rw [a2]; exact b2
  obtain ⟨c1, c2, c3⟩ := ars_enc h.ar (Lib.itoa (p.fds.length : Int) ++ 91 :: (p.fds.flatMap encT ++ 93 :: (encT p.cwd ++ (encIs p.ts ++ (encT p.shl ++ [])))))
  have ek : k = p.ar.length := he.a.uniq ⟨by rw [n1]; omega, by rw [n2]; exact fun j hj => ars_mid h.ar _ j hj, .inl (by rw [n1])⟩
  subst ek
  rw [← n2] at c1 c2 c3
  have n3 : r3 (encR p) p.ar.length = (Lib.itoa (p.fds.length : Int) ++ 91 :: (p.fds.flatMap encT ++ 93 :: (encT p.cwd ++ (encIs p.ts ++ (encT p.shl ++ [])))), false) := c2
  obtain ⟨d1, d2⟩ := num_cons (e := 91) (least := 0) (m := (p.fds.length : Int)) (rest := p.fds.flatMap encT ++ 93 :: (encT p.cwd ++ (encIs p.ts ++ (encT p.shl ++ [])))) (b := false) (by decide) (by have := h.fdl; unfold inI; omega) (by omega)
  have n4 : nT (encR p) p.ar.length = p.fds.length := by unfold nT; rw [n3]; exact d1
  have n5 : r4 (encR p) p.ar.length = (p.fds.flatMap encT ++ 93 :: (encT p.cwd ++ (encIs p.ts ++ (encT p.shl ++ []))), false) := by unfold r4; rw [n3]; exact d2
  obtain ⟨f1, f2⟩ := txts_enc h.fd (93 :: (encT p.cwd ++ (encIs p.ts ++ (encT p.shl ++ []))))
  rw [← n5] at f1 f2
  have em : m = p.fds.length := he.t.uniq ⟨by rw [n4]; omega, fun j hj => txSt_good (n := p.fds.length) (by rw [f2]) j (by omega), .inl (by rw [n4]; omega)⟩
  subst em
  have n6 : r5 (encR p) p.ar.length p.fds.length = (encT p.cwd ++ (encIs p.ts ++ (encT p.shl ++ [])), false) := by unfold r5; rw [f2]; simp [cutV]
  obtain ⟨g1, g2⟩ := txt_cons (s := p.cwd) (rest := encIs p.ts ++ (encT p.shl ++ [])) h.cwd
  have n7 : r6 (encR p) p.ar.length p.fds.length = (encIs p.ts ++ (encT p.shl ++ []), false) := by unfold r6; rw [n6]; exact g2
  obtain ⟨i1, i2⟩ := ints_enc h.ti (encT p.shl ++ [])
  rw [h.tl, ← n7] at i1 i2
  have n8 : r7 (encR p) p.ar.length p.fds.length = (encT p.shl ++ [], false) := i2
  obtain ⟨j1, j2⟩ := txt_cons (s := p.shl) (rest := []) h.shl
  have n9 : r8 (encR p) p.ar.length p.fds.length = ([], false) := by unfold r8; rw [n8]; exact j2
  constructor
  · unfold okO
    rw [n9, c3, i1, h.fl, n1]
    simp
  · unfold recO
    rw [a1, c1, n6, if_neg (by simp), f1, g1, i1, n8, j1]
/-- the record that a string is the encoding of -/
noncomputable def decP (s : Bs) : Option ProcD := open Classical in if h : ∃ p, WFR p ∧ encR p = s then some h.choose else none
theorem dec_out {s : Bs} {k m : Nat} (he : Ends s k m) (hs : s.length ≤ 1000000) : okO s k m = (decP s).isSome ∧ (okO s k m = true → decP s = some (recO s k m)) := by
  unfold decP
  by_cases h : ∃ p, WFR p ∧ encR p = s
  · rw [dif_pos h]
    obtain ⟨h1, h2⟩ := h.choose_spec
    have he2 : Ends (encR h.choose) k m := by rw [h2]; exact he
    obtain ⟨h3, h4⟩ := enc_ok h1 he2
    rw [h2] at h3 h4
    exact ⟨by rw [h3]; rfl, fun _ => by rw [h4]⟩
  · rw [dif_neg h]
    have : okO s k m = false := by
      cases hq : okO s k m with
      | false => rfl
      | true => exact absurd ⟨_, (ok_enc he hs hq).2, (ok_enc he hs hq).1⟩ h
    exact ⟨by rw [this]; rfl, fun q => by rw [this] at q; cases q⟩
theorem dec_some {s : Bs} {p : ProcD} (h : decP s = some p) : WFR p ∧ encR p = s := by
  unfold decP at h
  split at h
  · rename_i hq
    cases h
    exact hq.choose_spec
  · cases h
/-- the loops end somewhere -/
theorem end_ex (P : Nat → Prop) (n : Nat) : ∃ k, k ≤ n ∧ (∀ j, j < k → ¬ P j) ∧ (k = n ∨ P k) := by
  induction n with
  | zero => exact ⟨0, by omega, fun j hj => absurd hj (by omega), .inl rfl⟩
  | succ n ih =>
    obtain ⟨k, h1, h2, h3⟩ := ih
    rcases Classical.em (P k) with hk | hk
    · exact ⟨k, by omega, h2, .inr hk⟩
    · have : k = n := by rcases h3 with h3 | h3; exact h3; exact absurd h3 hk
      subst this
      exact ⟨k + 1, by omega, fun j hj => by by_cases e : j = k; (subst e; exact hk); exact h2 j (by omega), .inl rfl⟩
theorem ends_ex (s : Bs) : ∃ k m, Ends s k m := by
  obtain ⟨k, h1, h2, h3⟩ := end_ex (fun j => (arSt j (r2 s)).1 = []) (nOf s).toNat
  have hn : 0 ≤ nOf s := by unfold nOf; exact numV_nn _ _
  obtain ⟨m, g1, g2, g3⟩ := end_ex (fun j => (txSt j (r4 s k)).2 = true) (max (nT s k) 0).toNat
  exact ⟨k, m, ⟨⟨by omega, h2, h3.imp (fun q => by omega) id⟩, ⟨by omega, fun j hj => by simpa using g2 j hj, g3.imp (fun q => by omega) id⟩⟩⟩
theorem dec_enc {p : ProcD} (h : WFR p) (hl : (encR p).length ≤ 1000000) : decP (encR p) = some p := by
  obtain ⟨k, m, he⟩ := ends_ex (encR p)
  obtain ⟨h1, h2⟩ := enc_ok h he
  rw [(dec_out he hl).2 h1, h2]
theorem enc_inj_p {p q : ProcD} (hp : WFR p) (hq : WFR q) (h : encR p = encR q) : p = q := by
  obtain ⟨k, m, he⟩ := ends_ex (encR p)
  have h1 := (enc_ok hp he).2
  rw [h] at he h1
  rw [← h1, (enc_ok hq he).2]
end Go.Proofs.YtcbdclhoekokpaaGreatDoor
