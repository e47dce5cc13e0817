/- disk: what a disk is, in plain data, and how it lies in memory. -/
import Derived.Test.YtkcjfoaejijdoaaGreatDoorMap
import Derived.Test.YtkcjfoaejijdoaaGreatDoorRow
namespace Go.Proofs.YtkcjfoaejijdoaaGreatDoor
open Go.RowKit M
abbrev Bytes := List UInt8
structure DS where
  F : Int → Bytes × Bytes
  Q : List (Int × Int)
  lost : Int
  down : Bool
  armed : Int
  keep : List Int
/-- bytes put into a string -/
def putB (s : Bytes) (at_ : Nat) (t : Bytes) : Bytes := if t = [] then s else (s ++ List.replicate (at_ - s.length) 0).take at_ ++ t ++ s.drop (at_ + t.length)
def P2 (F : Int → Bytes × Bytes) (f : Int) (x : Bytes × Bytes) : Int → Bytes × Bytes := fun k => if k = f then x else F k
structure DInv (D : DS) : Prop where
  now : ∀ k, (D.F k).1.length ≤ 16777216
  last : ∀ k, (D.F k).2.length ≤ 16777216
  nodup : D.Q.Nodup
  secs : ∀ p ∈ D.Q, (0 ≤ p.1 ∧ p.1 < 16) ∧ 0 ≤ p.2 ∧ p.2 ≤ 262144
  lost : 0 ≤ D.lost ∧ D.lost ≤ 9223372036854775807
  armed : 0 ≤ D.armed ∧ D.armed ≤ 9223372036854775807
structure DL where
  bf : Nat
  bs : Nat
  qv : Value
theorem GL (a b : Bytes) : X0 (a ++ b) = X0 a ++ X0 b := by simp [X0]
theorem M8 (a : Bytes) (k : Nat) : (X0 a).take k = X0 (a.take k) := by simp [X0]
theorem M9 (a : Bytes) (k : Nat) : (X0 a).drop k = X0 (a.drop k) := by simp [X0]
theorem GK (X t : Bytes) (a : Nat) : XC (X0 X) a (X0 t) = X0 (X.take a ++ t ++ X.drop (a + t.length)) := by
  simp [XC, GL, M8, M9, J4]
def Ms (s : Bytes) (m : Nat) : Bytes := s ++ List.replicate (m - s.length) 0
theorem put1 (s : Bytes) (m : Nat) (h : s.length ≤ m) : XC (X0 (List.replicate m 0)) 0 (X0 (s.take m)) = X0 (Ms s m) := by
  rw [GK, List.take_of_length_le h]
  simp [Ms]
theorem put2 (s t : Bytes) (a : Nat) (ht : t ≠ []) : (Ms s (max s.length (a + t.length))).take a ++ t ++ (Ms s (max s.length (a + t.length))).drop (a + t.length) = putB s a t := by
  unfold putB Ms
  rw [if_neg ht]
  congr 1
  · congr 1
    apply List.ext_getElem?
    intro i
    simp only [List.getElem?_take]
    by_cases hi : i < a
    · simp only [hi, if_true]
      by_cases h2 : i < s.length
      · rw [List.getElem?_append_left h2, List.getElem?_append_left h2]
      · rw [List.getElem?_append_right (by omega), List.getElem?_append_right (by omega), List.getElem?_replicate, List.getElem?_replicate, if_pos (by omega), if_pos (by omega)]
    · simp [hi]
  · by_cases h : s.length ≤ a + t.length
    · rw [List.drop_eq_nil_of_le h, List.drop_eq_nil_of_le (by simp; omega)]
    · rw [show max s.length (a + t.length) - s.length = 0 by omega]; simp
end Go.Proofs.YtkcjfoaejijdoaaGreatDoor
/- the reference of layer 3: how its disk lies in memory; plain facts. -/
namespace Go.Proofs.YtkcjfoaejijdoaaGreatDoor
open Go.RowKit M
def inC : RowC Int := ⟨fun x => [intV x], 1, by decide, fun _ => rfl, fun _ => rfl⟩
/-- the file of a number: the first one in the list -/
def UN : List (Int × Bytes × Bytes) → Int → Bytes × Bytes
  | [], _ => ([], [])
  | x :: l, f => if x.1 = f then x.2 else UN l f
structure RInv (l : List (Int × Bytes × Bytes)) (D : DS) : Prop where
  inv : DInv D
  says : ∀ k, UN l k = D.F k
  num : ∀ x ∈ l, 0 ≤ x.1 ∧ x.1 < 16
  nodup : (l.map (·.1)).Nodup
structure RL where
  fv : Value
  qv : Value
  l : List (Int × Bytes × Bytes)
theorem Si {l m : List (Int × Bytes × Bytes)} {f : Int} (h : ∀ x ∈ l, x.1 ≠ f) : UN (l ++ m) f = UN m f := by
  induction l with
  | nil => rfl
  | cons x l ih => rw [List.cons_append, UN, if_neg (h x (by simp)), ih fun y hy => h y (by simp [hy])]
theorem Mi {l : List (Int × Bytes × Bytes)} {f k : Int} (h : k ≠ f) (m : List (Int × Bytes × Bytes)) (hm : UN m k = ([], [])) : UN (l.filter (fun x => decide (x.1 ≠ f)) ++ m) k = UN l k := by
  induction l with
  | nil => exact hm
  | cons x l ih =>
    by_cases e : x.1 = f
    · rw [List.filter_cons_of_neg (by simp [e]), ih, UN, if_neg (by omega)]
    · rw [List.filter_cons_of_pos (by simp [e]), List.cons_append, UN, UN, ih]
def putR (l : List (Int × Bytes × Bytes)) (x : Int × Bytes × Bytes) : List (Int × Bytes × Bytes) := l.filter (fun y => decide (y.1 ≠ x.1)) ++ [x]
theorem CZ {l : List (Int × Bytes × Bytes)} {F : Int → Bytes × Bytes} (h : ∀ k, UN l k = F k) (x : Int × Bytes × Bytes) (k : Int) : UN (putR l x) k = P2 F x.1 x.2 k := by
  unfold putR P2
  by_cases e : k = x.1
  · subst e
    rw [Si (fun y hy => by simpa using (List.mem_filter.1 hy).2), if_pos rfl]
    simp [UN]
  · rw [Mi e [x] (by rw [UN, if_neg (Ne.symm e)]; rfl), if_neg e]; exact h k
theorem RInv.put {l : List (Int × Bytes × Bytes)} {D : DS} (h : RInv l D) (k : Int) (a b : Bytes) (hk : 0 ≤ k ∧ k < 16) (ha : a.length ≤ 16777216) (hb : b.length ≤ 16777216) : RInv (putR l (k, a, b)) { D with F := P2 D.F k (a, b) } := by
  refine ⟨{ h.inv with now := fun j => ?_, last := fun j => ?_ }, CZ h.says (k, a, b), fun x hx => ?_, ?_⟩
  · simp only [P2]; split
    · exact ha
    · exact h.inv.now j
  · simp only [P2]; split
    · exact hb
    · exact h.inv.last j
  · rcases List.mem_append.1 hx with q | q
    · exact h.num x (List.mem_filter.1 q).1
    · simp at q; subst q; exact hk
  · unfold putR
    rw [List.map_append]
    refine List.nodup_append.2 ⟨(h.nodup.sublist (List.filter_sublist.map _)), by simp, ?_⟩
    intro x hx y hy e
    obtain ⟨z, hz, rfl⟩ := List.mem_map.1 hx
    simp at hy
    have := (List.mem_filter.1 hz).2
    simp at this
    exact this (e.trans hy)
theorem RInv.count {l : List (Int × Bytes × Bytes)} {D : DS} (h : RInv l D) : l.length ≤ 16 := by
  have hs : ∀ x ∈ (l.map (·.1)).map Int.toNat, x ∈ List.range 16 := by
    intro x hx
    obtain ⟨y, hy, rfl⟩ := List.mem_map.1 hx
    obtain ⟨z, hz, rfl⟩ := List.mem_map.1 hy
    have := h.num z hz
    simp; omega
  have hm : ((l.map (·.1)).map Int.toNat).Nodup := by
    refine List.pairwise_map.2 (h.nodup.imp_of_mem ?_)
    intro a b ha hb hne e
    obtain ⟨z, hz, rfl⟩ := List.mem_map.1 ha
    obtain ⟨y, hy, rfl⟩ := List.mem_map.1 hb
    have := h.num z hz; have := h.num y hy
    exact hne (by omega)
  have := List.Nodup.length_le_of_subset hm hs
  simpa using this
theorem RInv.upd {l : List (Int × Bytes × Bytes)} {D D' : DS} (h : RInv l D) (hF : D'.F = D.F) (hi : DInv D') : RInv l D' := ⟨hi, fun k => by rw [hF]; exact h.says k, h.num, h.nodup⟩
end Go.Proofs.YtkcjfoaejijdoaaGreatDoor
/- Arrays in structs: an array as a slice, an element of an array's value; calls of bound methods. Conditions: the rules' own hypotheses. -/
namespace Go.Proofs.YtkcjfoaejijdoaaGreatDoor.M
open Go.RowKit
section
variable {P : Program} {n : Nat} {ops : Array Oper} {Q : Exit → Act → World → Prop} {rest : List Oper} {L : Env} {w : World} {d : Nat} {ty : TypeId} {pos : String} {aft : Array Edge} {As : List Th}
theorem K7 {x : Operand} {t e N b o sz : Nat} (hu : P.underlying t = some (.array N e)) (hN : Nat.blt 0 N = true) (hx : look L x = some (ptrV b o)) (hs : ZQ P e = some sz) (hd : Nat.blt d n = true) (hk : wl P n ops Q rest ((d, .slice (some ⟨b, o, none⟩) N N) :: L) w) : wl P n ops Q (⟨some d, .slice t x none none none, ty, pos, aft, none⟩ :: rest) L w :=
  Xq hd (fun ρ hρ => by
    have h3 : ∀ w, (sizeOf e).run P w = .ok sz w := fun w => Zm hs w
    have hn : ¬ N = 0 := by simp at hN; omega
    simp [execOp, hρ _ _ hx, Instr.sliceAt, run_underlying hu, Instr.sureAddr, Instr.sliceBounds, h3, hn]
    simp [Addr.add]) hk
end
end Go.Proofs.YtkcjfoaejijdoaaGreatDoor.M
/- Parts of slices that are read: x[A:B]. Conditions: the rules' own hypotheses. -/
namespace Go.Proofs.YtkcjfoaejijdoaaGreatDoor.M
open Go.RowKit
/-- x[A:B] -/
def YK (sz : Nat) (v : Value) (A B : Nat) : Value := match v with
  | .slice a _ cap => .slice (if cap = A then a else a.map fun p => p.add (A * sz)) (B - A) (cap - A)
  | v => v
section
variable {P : Program} {n : Nat} {ops : Array Oper} {Q : Exit → Act → World → Prop} {rest : List Oper} {L : Env} {w : World} {d : Nat} {ty : TypeId} {pos : String} {aft : Array Edge}
theorem ev_view {x : Operand} {t e m cap sz : Nat} {a : Option Addr} {lo hi : Option Operand} (A B : Nat) (hu : P.underlying t = some (.slice e)) (hs : ZQ P e = some sz) (hx : look L x = some (.slice a m cap)) (hlo : bndL L lo 0 A) (hhi : bndL L hi m B) (h1 : A ≤ B) (h2 : B ≤ cap) :
    Ev P L w ⟨some d, .slice t x lo hi none, ty, pos, aft, none⟩ (YK sz (.slice a m cap) A B) := fun ρ hρ => by
  have hb := UH (P := P) true m cap _ _ A B (hlo.val hρ) (hhi.val hρ) h1 h2 w
  simp only [execOp, hρ _ _ hx]
  simp [Instr.sliceAt, Instr.slice, run_underlying hu, hb, Zm hs, YK]
theorem KX {x : Operand} {t e m cap sz : Nat} {a : Option Addr} {lo hi : Option Operand} (A B : Nat) (hu : P.underlying t = some (.slice e)) (hs : ZQ P e = some sz) (hx : look L x = some (.slice a m cap)) (hlo : bndL L lo 0 A) (hhi : bndL L hi m B) (h1 : A ≤ B) (h2 : B ≤ cap) (hd : Nat.blt d n = true)
    (hk : wl P n ops Q rest ((d, YK sz (.slice a m cap) A B) :: L) w) : wl P n ops Q (⟨some d, .slice t x lo hi none, ty, pos, aft, none⟩ :: rest) L w := Xq hd (ev_view A B hu hs hx hlo hhi h1 h2) hk
end
theorem GS {sz b o m cap A B : Nat} (h : A < cap) : YK sz (.slice (some ⟨b, o, none⟩) m cap) A B = .slice (some ⟨b, o + A * sz, none⟩) (B - A) (cap - A) := by
  unfold YK
  dsimp only
  rw [if_neg (by omega), Option.map_some, Z3]
section
variable {α : Type} {C : RowC α} {l : List α} {w : World}
theorem RdL.view {a : Option Addr} {m cap A B : Nat} (h : RdL C (.slice a m cap) l w) (hc : m ≤ cap) (h1 : A ≤ B) (h2 : B ≤ l.length) : RdL C (YK C.size (.slice a m cap) A B) ((l.take B).drop A) w := by
  obtain ⟨ao, cap', e1, e2, e3⟩ := h
  cases e1
  have hl : ((l.take B).drop A).length = B - A := by rw [List.length_drop, List.length_take]; omega
  refine ⟨_, _, by rw [hl]; rfl, by omega, fun i x hx => ?_⟩
  have hi := (List.getElem?_eq_some_iff.1 hx).1
  rw [List.getElem?_drop, List.getElem?_take, if_pos (by omega)] at hx
  obtain ⟨b, off, rfl, hcell⟩ := e3 _ _ hx
  refine ⟨b, off + A * C.size, by rw [if_neg (by omega), Option.map_some, Z3], fun j u hu => ?_⟩
  have := hcell j u hu
  rw [Nat.add_mul] at this
  rw [show off + A * C.size + i * C.size + j = off + (A * C.size + i * C.size) + j by omega]
  exact this
theorem Mv {a : Option Addr} {cap A B : Nat} (hl : l.length ≤ 9223372036854775807) (h1 : A ≤ B) (h2 : B ≤ l.length) (hc : l.length ≤ cap) : Ent (rowT C (.slice a l.length cap) l) (RdL C (YK C.size (.slice a l.length cap) A B) ((l.take B).drop A)) := fun h => (Hr hl h).view hc h1 h2
theorem RdL.at_ {b off m cap i : Nat} {a : α} (h : RdL C (.slice (some ⟨b, off, none⟩) m cap) l w) (ha : l[i]? = some a) : ∀ (j : Nat) (u : Value), (C.enc a)[j]? = some u → w.cell? ⟨b, off + i * C.size + j, none⟩ = some u := by
  obtain ⟨b', off', e, h2⟩ := h.get ha
  cases e
  exact h2
end
end Go.Proofs.YtkcjfoaejijdoaaGreatDoor.M
/- swap -/
namespace Go.Proofs.YtkcjfoaejijdoaaGreatDoor
open Go.RowKit M
set_option linter.unusedVariables false
def ZS (sl : List Bs) : Nat := (sl.filter fun p => !decide (p = [])).length
def Ku (sl : List Bs) (slot : Int) : Bool := decide (0 ≤ slot) && (match sl[slot.toNat]? with | some p => !decide (p = []) | none => false)
theorem Yi (sl : List Bs) : ZS sl ≤ sl.length := List.length_filter_le _ _
theorem Kf : ∀ {sl : List Bs} {k : Nat} {p : Bs}, sl[k]? = some [] → p ≠ [] → ZS (sl.set k p) = ZS sl + 1
  | [], _, _, h, _ => by simp at h
  | a :: sl, 0, p, h, hp => by
    simp at h; subst h
    unfold ZS; simp [hp]
  | a :: sl, k + 1, p, h, hp => by
    have := Kf (sl := sl) (k := k) (by simpa using h) hp
    unfold ZS at this ⊢
    rw [List.set_cons_succ, List.filter_cons, List.filter_cons]
    split
    · rw [List.length_cons, List.length_cons, this]
    · exact this
theorem R5 : ∀ {sl : List Bs} {k : Nat} {p : Bs}, sl[k]? = some p → p ≠ [] → ZS (sl.set k []) + 1 = ZS sl
  | [], _, _, h, _ => by simp at h
  | a :: sl, 0, p, h, hp => by
    simp at h; subst h
    unfold ZS; simp [hp]
  | a :: sl, k + 1, p, h, hp => by
    have := R5 (sl := sl) (k := k) (by simpa using h) hp
    unfold ZS at this ⊢
    rw [List.set_cons_succ, List.filter_cons, List.filter_cons]
    split
    · rw [List.length_cons, List.length_cons, ← this]
    · exact this
theorem R4 {sl : List Bs} : ZS sl < sl.length ↔ [] ∈ sl := by
  unfold ZS
  induction sl with
  | nil => simp
  | cons a sl ih =>
    have hle := Yi sl
    unfold ZS at hle
    by_cases ha : a = []
    · subst ha
      rw [List.filter_cons, if_neg (by simp), List.length_cons]
      exact ⟨fun _ => List.mem_cons_self, fun _ => by omega⟩
    · rw [List.filter_cons, if_pos (by simp [ha]), List.length_cons, List.length_cons, List.mem_cons]
      constructor
      · intro h; exact .inr (ih.1 (by omega))
      · rintro (h | h)
        · exact absurd h.symm ha
        · have := ih.2 h; omega
theorem MU (m : Nat) : ZS (List.replicate m []) = 0 := by unfold ZS; simp
def VY (p : Nat) (sl : List Bs) : Th := Tt fun q : Value × Int × Int => starL [Jh (sl.length ≤ 4096), QO p [q.1, intV (ZS sl : Nat), intV q.2.1, intV q.2.2], rowT stC q.1 sl]
theorem Yn {w : World} {p : Nat} {sl : List Bs} {As : List Th} (h : Sat w (VY p sl :: As)) : ∃ ao cap du re, sl.length ≤ 4096 ∧ Sat w (QO p [.slice ao sl.length cap, intV (ZS sl : Nat), intV du, intV re] :: rowT stC (.slice ao sl.length cap) sl :: As) := by
  obtain ⟨⟨v, du, re⟩, h⟩ := h.ex
  obtain ⟨h1, h2⟩ := h.flat.pure_elim
  obtain ⟨ao, cap, hv, _⟩ := Sat.own_shape (As := QO p _ :: rowT stC v sl :: As) h2 1 rfl
  obtain rfl := hv
  exact ⟨ao, cap, du, re, h1, h2⟩
theorem W6 {w : World} {p : Nat} {sl : List Bs} {As : List Th} {v : Value} {du re : Int} (hl : sl.length ≤ 4096) (h : Sat w (QO p [v, intV (ZS sl : Nat), intV du, intV re] :: rowT stC v sl :: As)) : Sat w (VY p sl :: As) :=
  Sat.ex_intro (v, du, re) (Sat.fold (As := [Jh (sl.length ≤ 4096), QO p _, rowT stC v sl]) (Sat.pure_intro hl h))
theorem D9 {w : World} {p : Nat} {sl : List Bs} {F : Th} (hS : Sat w [VY p sl, F]) :
    Calls Tryz.prog 144 #[ptrV p 0] w (Ret fun v w' => v = .tuple #[] ∧ Sat w' [VY p sl, F]) := by
 obtain ⟨sa, sc, du, re, hsl, hS⟩ := Yn hS
 refine Qt Tryz.func144 rfl Tryz.ntmps144 rfl ?_
 refine Qd ?_
 have hS1 := hS.drew
 refine QK [0, 1, 2, 3, 4, 5, 6, 7, 8, 9, 10, 11] [11] ZT (by kernel_rfl) ?_
 refine Qk rfl rfl rfl (fun _ => (Qr rfl)) ?_
 refine Qk rfl rfl rfl (fun _ => (Qq rfl)) ?_
 refine Qk rfl rfl rfl (fun _ => (Qi rfl Mn)) ?_
 refine QF rfl rfl rfl (Qm rfl QW (by exact hS1.cell 0 rfl rfl)) ?_
 refine Qk rfl rfl rfl (fun _ => (Qr rfl)) ?_
 refine Qk rfl rfl rfl (fun _ => (Qq rfl)) ?_
 refine Qk rfl rfl rfl (fun _ => (Qi rfl Mo)) ?_
 refine QF rfl rfl rfl (Qm rfl QW (by exact hS1.cell 0 rfl rfl)) ?_
 refine Qk rfl rfl rfl (fun _ => (Rp rfl rfl rfl)) ?_
 refine Qk rfl rfl rfl (fun _ => (Qq rfl)) ?_
 refine Qk rfl rfl rfl (fun _ => (Qi rfl Mn)) ?_
 refine Xn rfl rfl rfl rfl rfl rfl ?_
 first | (refine Xb hS1 rfl rfl YM (by rfl) (i := 0) rfl (by exact Nat.le_of_ble_eq_true rfl) ?_)
 intro w2 hS3; dsimp only [List.set] at hS3
 clear hS1
 refine Zi (.skip (by kernel_rfl) (.skip (by kernel_rfl) .nil)) ?_
 refine VC.nil (Qc ?_)
 refine Qh (L' := [(0, _)]) (Hd rfl) ?_
 refine Qa (Qb rfl rfl (Qj rfl rfl ?_))
 refine Qg rfl Mo rfl ?_
 first | (refine Xb hS3 rfl rfl YM (by rfl) (i := 0) rfl (by exact Nat.le_of_ble_eq_true rfl) ?_)
 intro w4 hS5; dsimp only [List.set] at hS5
 clear hS3
 refine Qf ?_
 refine W4 (.inl rfl) rfl ?_
 exact ⟨_, rfl, rfl, W6 hsl (hS5.pick [0, 1, 2] rfl)⟩
theorem DB {w : World} {p : Nat} {sl : List Bs} {F : Th} (hS : Sat w [VY p sl, F]) (slot : Int) :
    Calls Tryz.prog 143 #[ptrV p 0, intV slot] w (Ret fun v w' => v = .bool (Ku sl slot) ∧ Sat w' [VY p sl, F]) := by
 obtain ⟨sa, sc, du, re, hsl, hS⟩ := Yn hS
 refine Qt Tryz.func143 rfl Tryz.ntmps143 rfl ?_
 refine Qd (Qa (Qe rfl rfl (Qf (Qc (Qd (Qa (Qb rfl rfl ?_)))))))
 refine JE rfl rfl rfl ?_
 refine Qb rfl rfl ?_
 refine Xk 7 rfl (fun h1 => ?_) (fun h1 => ?_)
 ·refine Qn rfl rfl (decide_eq_true h1) ?_
  refine Qb rfl rfl ?_
  refine Qn rfl rfl (decide_eq_true h1) ?_
  refine Qb rfl rfl ?_
  refine Qn rfl rfl (decide_eq_true h1) ?_
  refine Qj rfl rfl ?_
  refine Qn rfl rfl (decide_eq_true h1) ?_
  refine Qg rfl Yv rfl ?_
  refine Qn rfl rfl (decide_eq_true h1) ?_
  refine Qu rfl VU (by exact hS.cell 0 rfl rfl) rfl ?_
  refine Qn rfl rfl (decide_eq_true h1) ?_
  refine XU Tryz.underlying61 rfl rfl ?_
  refine Qn rfl rfl (decide_eq_true h1) ?_
  refine Xt rfl rfl rfl ?_
  refine Xg rfl (decide_eq_true h1) rfl rfl ?_
  refine Qb rfl rfl ?_
  refine Xk 16 rfl (fun h2 => ?_) (fun h2 => ?_)
  ·obtain ⟨pg, hp⟩ : ∃ p, sl[slot.toNat]? = some p := ⟨_, List.getElem?_eq_getElem (by omega)⟩
   refine Qn rfl rfl (decide_eq_true h2) ?_
   refine Qb rfl rfl ?_
   refine Qn rfl rfl (decide_eq_true h2) ?_
   refine Qj rfl rfl ?_
   refine Qn rfl rfl (decide_eq_true h2) ?_
   refine Qg rfl Yv rfl ?_
   refine Qn rfl rfl (decide_eq_true h2) ?_
   refine Qu rfl VU (by exact hS.cell 0 rfl rfl) rfl ?_
   refine Qn rfl rfl (decide_eq_true h2) ?_
   refine Qb rfl rfl ?_
   refine Qn rfl rfl (decide_eq_true h2) ?_
   refine Xp stC 1 slot.toNat hS rfl rfl rfl (by omega) hp By rfl ?_
   intro bx3 capx3 hvx3
   refine Qn rfl rfl (decide_eq_true h2) ?_
   refine Z4 1 slot.toNat 0 hS rfl hvx3 rfl rfl hp Yz rfl rfl ?_
   refine Qn rfl rfl (decide_eq_true h2) ?_
   refine B9 rfl rfl rfl ?_
   refine Xg rfl (decide_eq_true h2) rfl rfl ?_
   refine Qe rfl rfl (Qf (Qc ?_))
   refine Qh (L' := [(4, _)]) (Hd rfl) ?_
   refine Q0 ?_
   refine QV (.inr rfl) rfl rfl ?_
   exact ⟨_, rfl, by unfold Ku; rw [hp, decide_eq_true (show 0 ≤ slot by omega), Bool.true_and]; simp, W6 hsl (hS.pick [0, 1, 2] rfl)⟩
  refine Ql rfl rfl (decide_eq_false h2) rfl ?_
  refine Ql rfl rfl (decide_eq_false h2) rfl ?_
  refine Ql rfl rfl (decide_eq_false h2) rfl ?_
  refine Ql rfl rfl (decide_eq_false h2) rfl ?_
  refine Ql rfl rfl (decide_eq_false h2) rfl ?_
  refine Ql rfl rfl (decide_eq_false h2) rfl ?_
  refine Ql rfl rfl (decide_eq_false h2) rfl ?_
  refine Ql rfl rfl (decide_eq_false h2) rfl ?_
  refine QX rfl (decide_eq_false h2) rfl rfl ?_
  refine Qe rfl rfl (Qf (Qc ?_))
  refine Qh (L' := [(4, _)]) (Hd rfl) ?_
  refine Q0 ?_
  refine QV (.inr rfl) rfl rfl ?_
  exact ⟨_, rfl, by unfold Ku; rw [List.getElem?_eq_none (by omega), Bool.and_false], W6 hsl (hS.pick [0, 1, 2] rfl)⟩
 refine Ql rfl rfl (decide_eq_false h1) rfl ?_
 refine Ql rfl rfl (decide_eq_false h1) rfl ?_
 refine Ql rfl rfl (decide_eq_false h1) rfl ?_
 refine Ql rfl rfl (decide_eq_false h1) rfl ?_
 refine Ql rfl rfl (decide_eq_false h1) rfl ?_
 refine Ql rfl rfl (decide_eq_false h1) rfl ?_
 refine Ql rfl rfl (decide_eq_false h1) rfl ?_
 refine QX rfl (decide_eq_false h1) rfl rfl ?_
 refine Qb rfl rfl ?_
 refine Ql rfl rfl rfl rfl ?_
 refine Ql rfl rfl rfl rfl ?_
 refine Ql rfl rfl rfl rfl ?_
 refine Ql rfl rfl rfl rfl ?_
 refine Ql rfl rfl rfl rfl ?_
 refine Ql rfl rfl rfl rfl ?_
 refine Ql rfl rfl rfl rfl ?_
 refine Ql rfl rfl rfl rfl ?_
 refine QX rfl rfl rfl rfl ?_
 refine Qe rfl rfl (Qf (Qc ?_))
 refine Qh (L' := [(4, _)]) (Hd rfl) ?_
 refine Q0 ?_
 refine QV (.inr rfl) rfl rfl ?_
 exact ⟨_, rfl, by unfold Ku; rw [decide_eq_false (show ¬ 0 ≤ slot by omega), Bool.false_and], W6 hsl (hS.pick [0, 1, 2] rfl)⟩
theorem Me {sl : List Bs} {slot : Int} (h : Ku sl slot = true) : 0 ≤ slot ∧ ∃ p, sl[slot.toNat]? = some p ∧ p ≠ [] := by
  unfold Ku at h
  rw [Bool.and_eq_true, decide_eq_true_eq] at h
  refine ⟨h.1, ?_⟩
  cases hq : sl[slot.toNat]? with
  | none => rw [hq] at h; exact absurd h.2 (by simp)
  | some p => rw [hq] at h; exact ⟨p, rfl, by simpa using h.2⟩
def RB (sl : List Bs) (slot : Int) : Bs := if Ku sl slot = true then (sl[slot.toNat]?).getD [] else []
def UE (sl : List Bs) (slot : Int) : List Bs := if Ku sl slot = true then sl.set slot.toNat [] else sl
set_option maxRecDepth 100000 in
theorem six_sp {w : World} {F : Th} (hS : Sat w [F]) {lv : Value} {l : List Bs} (hL : Ent F (RdL stC lv l)) (e : Bs) :
    Calls Tryz.prog 205 #[lv, strV e] w (Ret fun v w' => (v = intV (-1) ∧ e ∉ l ∧ Sat w' [F]) ∨ (∃ k : Nat, v = intV (k : Int) ∧ l[k]? = some e ∧ Sat w' [F])) := by
 obtain ⟨ao, cap, rfl, hmax⟩ := (hL.sat hS 0 rfl).shape
 refine Qt Tryz.func205 rfl Tryz.ntmps205 rfl ?_
 refine Qd (Qa (Qe rfl rfl (Qf (Qc (Qd (Qd (Qa (Qb rfl rfl ?_))))))))
 refine XU Tryz.underlying61 rfl rfl ?_
 refine Qb rfl rfl (Qf (Qc (Q1 ?_)))
 refine Xw (fun K0 E0 W0 => ∃ (i : Nat), K0 = l.length - i ∧ E0 = [(0, .slice ao l.length cap), (1, strV e), (7, intV (l.length : Int)), (8, intV (i : Int))] ∧ Sat W0 [F] ∧ (i ≤ l.length) ∧ (∀ j y, j < i → l[j]? = some y → y ≠ e)) (L0 := [(0, _), (1, _), (7, _), (8, _)]) (l.length - 0) (Jr rfl rfl rfl rfl) ⟨0, rfl, rfl, hS, by omega, by omega⟩ ?_
 rintro _ _ w1 ⟨i, rfl, rfl, hS1, hi, hno⟩
 refine Qd (Qa ?_)
 refine Xt rfl rfl rfl ?_
 refine Qf (Qc (Qd ?_))
 refine Qx rfl (fun h2 => ?_) (fun h2 => ?_)
 ·obtain ⟨x, hx⟩ : ∃ x, l[i]? = some x := ⟨_, List.getElem?_eq_getElem (by omega)⟩
  obtain ⟨b, off, rfl, _⟩ := (hL.sat hS1 0 rfl).get hx
  refine Qy (Qc (Qd (Q1 (Qd (Qa (Qb rfl rfl (Qe rfl rfl (Qf (Qc (Qd (Qa (Qb rfl rfl (Qb rfl rfl (Qb rfl rfl ?_))))))))))))))
  refine Z1 i rfl rfl (by rfl) (by exact (List.getElem?_eq_some_iff.1 hx).1) By rfl ?_
  refine Qu rfl Yz (((hL.sat hS1 0 rfl).at_ hx) 0 _ rfl) rfl ?_
  refine KY rfl rfl rfl ?_
  refine Qf (Qc ?_)
  refine Qh (L' := [(16, _), (5, _), (0, _), (1, _), (7, _), (8, _)]) (Wf rfl rfl rfl rfl rfl rfl) ?_
  refine Qx rfl (fun h3 => ?_) (fun h3 => ?_)
  ·have heq : e = x := h3
   refine Qd (Qa (Qb rfl rfl (Qe rfl rfl (Qf (Qc (Q0 (QE (Qs (Qs (QE (Qs ?_)))))))))))
   refine QV (.inr rfl) rfl rfl ?_
   exact ⟨_, rfl, .inr ⟨i, rfl, by rw [hx, heq], hS1.pick [0] rfl⟩⟩
  have hne : ¬ e = x := h3
  refine Qy (Qp (Qc (Qa ?_)))
  refine QN rfl rfl (by omega) (by omega) rfl ?_
  refine Qb rfl rfl (Qf ?_)
  exact QG (L1 := [(0, _), (1, _), (7, _), (8, intV ((i + 1 : Nat) : Int))]) (Jr rfl rfl rfl rfl) (k1 := l.length - (i + 1)) (by omega) ⟨i + 1, rfl, rfl, hS1.pick [0] rfl, by omega, fun j y hj hq => by by_cases e : j = i; (subst e; rw [hx] at hq; cases hq; exact fun q => hne q.symm); exact hno j y (by omega) hq⟩
 refine QZ (Qv (Qv (Q4 (Qc (Qd (Qa (Qe rfl rfl (Qf (Qc (Q0 ?_))))))))))
 refine QV (.inr rfl) rfl rfl ?_
 exact ⟨_, rfl, .inl ⟨rfl, fun hm => by obtain ⟨j, hj⟩ := List.mem_iff_getElem?.1 hm; exact hno j e (by have := (List.getElem?_eq_some_iff.1 hj).1; omega) hj rfl, hS1.pick [0] rfl⟩⟩
set_option maxRecDepth 100000 in
theorem DA {w : World} {p : Nat} {sl : List Bs} {F : Th} (hS : Sat w [VY p sl, F]) (page : Bs) (hpl : page.length = 64) :
    Calls Tryz.prog 172 #[ptrV p 0, strV page] w (Ret fun v w' => (ZS sl = sl.length ∧ v = .tuple #[intV (-1), .bool false] ∧ Sat w' [VY p sl, F]) ∨ (∃ k : Nat, sl[k]? = some [] ∧ v = .tuple #[intV (k : Int), .bool true] ∧ Sat w' [VY p (sl.set k page), F])) := by
 refine Qt Tryz.func172 rfl Tryz.ntmps172 rfl ?_
 refine Qd (Qa (Qe rfl rfl (Qe rfl rfl (Qf (Qc (Qd (Qd ?_)))))))
 have hul := Yi sl
 obtain ⟨sa, sc, du, re, hsl, hSo⟩ := Yn (hS.pick [0, 1] rfl)
 have hS1 := hSo.drew
 refine QK [0, 1, 2, 3, 4, 5, 6, 7, 8, 9, 10, 11, 12, 13, 14] [] ZT (by kernel_rfl) ?_
 refine Qk rfl rfl rfl (fun _ => (Qr rfl)) ?_
 refine Qk rfl rfl rfl (fun _ => (Ro Tryz.underlying9 rfl)) ?_
 refine Qk rfl rfl rfl (fun _ => (BW rfl rfl)) ?_
 refine Qk rfl rfl rfl (fun _ => (Qr rfl)) ?_
 refine YL 10 rfl (fun h2 => ?_) (fun h2 => ?_)
 ·exact absurd h2 (by omega)
 refine Qk rfl rfl (Xy rfl rfl (decide_eq_false h2)) (fun _ => (Ev.gd (Qr rfl))) ?_
 refine Qk rfl rfl (Xy rfl rfl (decide_eq_false h2)) (fun _ => (Ev.gd (Qq rfl))) ?_
 refine Qk rfl rfl (Xy rfl rfl (decide_eq_false h2)) (fun _ => (Ev.gd (Qi rfl YV))) ?_
 refine QF rfl rfl (Xy rfl rfl (decide_eq_false h2)) (Ev.gd (Qm rfl QW (by exact hS1.cell 0 rfl rfl))) ?_
 refine Qk rfl rfl (Xy rfl rfl (decide_eq_false h2)) (fun _ => (Ev.gd (Qr rfl))) ?_
 refine Qk rfl rfl (Xy rfl rfl (decide_eq_false h2)) (fun _ => (Ev.gd (Qq rfl))) ?_
 refine Qk rfl rfl (Xy rfl rfl (decide_eq_false h2)) (fun _ => (Ev.gd (Qi rfl Yv))) ?_
 refine QF rfl rfl (Xy rfl rfl (decide_eq_false h2)) (Ev.gd (Qm rfl VU (by exact hS1.cell 0 rfl rfl))) ?_
 refine Qk rfl rfl (Xy rfl rfl (decide_eq_false h2)) (fun _ => (Ev.gd (Uq Tryz.underlying61 rfl))) ?_
 refine Qk rfl rfl (Xy rfl rfl (decide_eq_false h2)) (fun _ => (Ev.gd (Gh rfl rfl))) ?_
 refine Qk rfl rfl rfl (fun _ => (YW rfl (decide_eq_false h2) rfl)) ?_
 refine VC.nil (Qc ?_)
 refine Qh (L' := [(21, _), (5, _), (4, _), (0, _), (1, _)]) (ZH rfl rfl rfl rfl rfl) ?_
 refine Qx rfl (fun h3 => ?_) (fun h3 => ?_)
 ·refine Qd (Qa (Qe rfl rfl (Qe rfl rfl (Qf (Qc (Q0 (Qs ?_)))))))
  refine Wo (.inr rfl) rfl rfl rfl ?_
  exact ⟨_, rfl, .inl ⟨by omega, rfl, W6 hsl (hS1.pick [0, 1, 2] rfl)⟩⟩
 refine Qy (Qc (Qd ?_))
 have hSz := W6 hsl (hS1.pick [0, 1, 2] rfl)
 refine Qa (Qb rfl rfl ?_)
 have hC4 := hSz.split [0] [true, false] rfl; dsimp only [QC, Qz, Q9, Q8, Q7] at hC4
 refine Qo Cu rfl (D9 hC4) rfl ?_
 rintro e w4 ⟨_, rfl, rfl, hS4⟩; refine ⟨_, rfl, ?_⟩
 replace hS4 := hS4.join rfl; dsimp only [QU, QT, Q8, Q7] at hS4; clear hC4
 clear hSz
 refine Qf (Qc (Qd ?_))
 have hul := Yi sl
 obtain ⟨sa, sc, du, re, hsl, hSo⟩ := Yn (hS4.pick [0, 1] rfl)
 refine Qa (Qb rfl rfl (Qj rfl rfl ?_))
 refine Qg rfl Yv rfl ?_
 refine Qu rfl VU (by exact hSo.cell 0 rfl rfl) rfl ?_
 have hC5 := hSo.split [] [false, false, false] rfl; dsimp only [QC, Qz, Q9, Q8, Q7] at hC5
 refine Qo cal_205 rfl (six_sp hC5 (Ent.starL (Hr (C := stC) (l := sl) (by omega)) 1 rfl) []) rfl ?_
 rintro e w5 ⟨_, rfl, (⟨rfl, hno, hS5⟩ | ⟨k, rfl, hk, hS5⟩)⟩
 ·exact absurd (R4.1 (by have := Yi sl; omega)) hno
 refine ⟨_, rfl, ?_⟩
 replace hS5 := hS5.join rfl; dsimp only [QU, QT, Q8, Q7] at hS5; clear hC5
 clear hSo
 refine Qe rfl rfl (Qf (Qc ?_))
 refine Qh (L' := [(6, _), (5, _), (4, _), (0, _), (1, _)]) (ZH rfl rfl rfl rfl rfl) ?_
 refine Qd (Qa (Qb rfl rfl (Qj rfl rfl ?_)))
 refine Qg rfl Yv rfl ?_
 refine Qu rfl VU (by exact hS5.cell 0 rfl rfl) rfl ?_
 refine Qb rfl rfl (Qb rfl rfl ?_)
 refine Xp stC 1 k hS5 rfl rfl rfl (by rfl) hk By rfl ?_
 intro bx6 capx6 hvx6
 refine ZJ 1 k page hS5 rfl hvx6 rfl rfl sz_9 (by rfl) (by exact (List.getElem?_eq_some_iff.1 hk).1) ?_
 intro w7 hS8; dsimp only [List.set] at hS8
 clear hS5
 refine Qf (Qc ?_)
 refine Qh (L' := [(6, _), (5, _), (4, _), (0, _)]) (Jr rfl rfl rfl rfl) ?_
 refine Qd (Qa (Qb rfl rfl (Qj rfl rfl ?_)))
 refine Qg rfl YV rfl ?_
 refine Qu rfl QW (by exact hS8.cell 0 rfl rfl) rfl ?_
 refine QN rfl rfl (by omega) (by omega) rfl ?_
 refine Qj rfl rfl ?_
 refine Qg rfl YV rfl ?_
 first | (refine Xb hS8 rfl rfl YM (by rfl) (i := 0) rfl (by exact Nat.le_of_ble_eq_true rfl) ?_)
 intro w9 hS10; dsimp only [List.set] at hS10
 clear hS8
 refine Qf (Qc ?_)
 refine Qh (L' := [(6, _), (5, _), (4, _)]) (Y2 rfl rfl rfl) ?_
 refine Qd (Qa (Qb rfl rfl (Qe rfl rfl (Qe rfl rfl (Qf (Qc (Q0 ?_)))))))
 refine Wo (.inr rfl) rfl rfl rfl ?_
 have hpn : page ≠ [] := fun q => by subst q; simp at hpl
 exact ⟨_, rfl, .inr ⟨k, hk, rfl, W6 (by rw [List.length_set]; exact hsl) (by rw [Kf hk hpn, Int.natCast_add]; exact hS10.pick [0, 1, 2] rfl)⟩⟩
theorem DC {w : World} {p : Nat} {sl : List Bs} {F : Th} (hS : Sat w [VY p sl, F]) (slot : Int) :
    Calls Tryz.prog 93 #[ptrV p 0, intV slot] w (Ret fun v w' => ∃ e, v = .tuple #[strV (RB sl slot), intV e] ∧ Sat w' [VY p sl, F]) := by
 refine Qt Tryz.func93 rfl Tryz.ntmps93 rfl ?_
 refine Qd (Qa (Qe rfl rfl (Qe rfl rfl (Qf (Qc (Qd (Qd (Qa (Qb rfl rfl (Qb rfl rfl ?_))))))))))
 have hC1 := hS.split [0] [true, false] rfl; dsimp only [QC, Qz, Q9, Q8, Q7] at hC1
 refine Qo Cv rfl (DB hC1 slot) rfl ?_
 rintro e w1 ⟨_, rfl, rfl, hS1⟩; refine ⟨_, rfl, ?_⟩
 replace hS1 := hS1.join rfl; dsimp only [QU, QT, Q8, Q7] at hS1; clear hC1
 refine QS rfl rfl ?_
 refine Qf (Qc ?_)
 refine QR rfl (fun h2 => ?_) (fun h2 => ?_)
 ·refine Qd (Qa (Qe rfl rfl (Qe rfl rfl (Qf (Qc (Q0 (Qs ?_)))))))
  refine Wo (.inr rfl) rfl rfl rfl ?_
  exact ⟨_, rfl, _, by rw [show RB sl slot = [] by unfold RB; rw [if_neg (by simp_all)]], hS1.pick [0, 1] rfl⟩
 have hh : Ku sl slot = true := by simpa using h2
 obtain ⟨h0, pg, hp, hpn⟩ := Me hh
 refine Qy (Qc (Qd (Qa (Qb rfl rfl ?_))))
 have hC3 := hS1.split [0] [true, false] rfl; dsimp only [QC, Qz, Q9, Q8, Q7] at hC3
 refine Qo Cu rfl (D9 hC3) rfl ?_
 rintro e w3 ⟨_, rfl, rfl, hS3⟩; refine ⟨_, rfl, ?_⟩
 replace hS3 := hS3.join rfl; dsimp only [QU, QT, Q8, Q7] at hS3; clear hC3
 clear hS1
 refine Qf (Qc (Qd ?_))
 have hul := Yi sl
 obtain ⟨sa, sc, du, re, hsl, hSo⟩ := Yn (hS3.pick [0, 1] rfl)
 refine Qa (Qb rfl rfl (Qj rfl rfl ?_))
 refine Qg rfl Yv rfl ?_
 refine Qu rfl VU (by exact hSo.cell 0 rfl rfl) rfl ?_
 refine Qb rfl rfl ?_
 refine Xp stC 1 slot.toNat hSo rfl rfl rfl (by omega) hp By rfl ?_
 intro bx4 capx4 hvx4
 refine Z4 1 slot.toNat 0 hSo rfl hvx4 rfl rfl hp Yz rfl rfl ?_
 refine Qe rfl rfl (Qe rfl rfl (Qf (Qc ?_)))
 refine Qh (L' := [(5, _), (4, _)]) (H0 rfl rfl) ?_
 refine Q0 ?_
 refine Wo (.inr rfl) rfl rfl rfl ?_
 exact ⟨_, rfl, _, by rw [show RB sl slot = pg by unfold RB; rw [if_pos hh, hp]; rfl], W6 hsl (hSo.pick [0, 1, 2] rfl)⟩
theorem Kj {w : World} {p : Nat} {sl : List Bs} {F : Th} (hS : Sat w [VY p sl, F]) (slot : Int) :
    Calls Tryz.prog 155 #[ptrV p 0, intV slot] w (Ret fun v w' => v = .tuple #[] ∧ Sat w' [VY p (UE sl slot), F]) := by
 refine Qt Tryz.func155 rfl Tryz.ntmps155 rfl ?_
 refine Qd (Qa (Qb rfl rfl (Qb rfl rfl ?_)))
 have hC1 := hS.split [0] [true, false] rfl; dsimp only [QC, Qz, Q9, Q8, Q7] at hC1
 refine Qo Cv rfl (DB hC1 slot) rfl ?_
 rintro e w1 ⟨_, rfl, rfl, hS1⟩; refine ⟨_, rfl, ?_⟩
 replace hS1 := hS1.join rfl; dsimp only [QU, QT, Q8, Q7] at hS1; clear hC1
 refine Qf (Qc ?_)
 refine QR rfl (fun h2 => ?_) (fun h2 => ?_)
 ·have hh : Ku sl slot = true := by simpa using h2
  obtain ⟨h0, pg, hp, hpn⟩ := Me hh
  refine Qd ?_
  have hul := Yi sl
  obtain ⟨sa, sc, du, re, hsl, hSo⟩ := Yn (hS1.pick [0, 1] rfl)
  refine Qa (Qb rfl rfl (Qj rfl rfl ?_))
  refine Qg rfl Yv rfl ?_
  refine Qu rfl VU (by exact hSo.cell 0 rfl rfl) rfl ?_
  refine Qb rfl rfl ?_
  refine Xp stC 1 slot.toNat hSo rfl rfl rfl (by omega) hp By rfl ?_
  intro bx3 capx3 hvx3
  refine ZJ 1 slot.toNat [] hSo rfl hvx3 rfl rfl sz_9 (by rfl) (by exact (List.getElem?_eq_some_iff.1 hp).1) ?_
  intro w4 hS5; dsimp only [List.set] at hS5
  clear hSo
  refine Qf (Qc ?_)
  refine Qh (L' := [(0, _)]) (Hd rfl) ?_
  refine Qa (Qb rfl rfl (Qj rfl rfl ?_))
  refine Qg rfl YV rfl ?_
  refine Qu rfl QW (by exact hS5.cell 0 rfl rfl) rfl ?_
  refine UZ rfl rfl (by omega) (by omega) rfl ?_
  refine Qj rfl rfl ?_
  refine Qg rfl YV rfl ?_
  first | (refine Xb hS5 rfl rfl YM (by rfl) (i := 0) rfl (by exact Nat.le_of_ble_eq_true rfl) ?_)
  intro w6 hS7; dsimp only [List.set] at hS7
  clear hS5
  refine Qf ?_
  refine W4 (.inl rfl) rfl ?_
  exact ⟨_, rfl, rfl, by rw [show UE sl slot = sl.set slot.toNat [] by unfold UE; rw [if_pos hh]]; exact W6 (by rw [List.length_set]; exact hsl) (by rw [show ((ZS (sl.set slot.toNat []) : Nat) : Int) = (ZS sl : Nat) - 1 by have := R5 hp hpn; omega]; exact hS7.pick [0, 1, 2] rfl)⟩
 refine Qy ?_
 refine W4 (.inl rfl) rfl ?_
 exact ⟨_, rfl, rfl, by rw [show UE sl slot = sl by unfold UE; rw [if_neg (by simp_all)]]; exact hS1.pick [0, 1] rfl⟩
theorem CM {w : World} {p : Nat} {sl : List Bs} {F : Th} (hS : Sat w [VY p sl, F]) :
    Calls Tryz.prog 62 #[ptrV p 0] w (Ret fun v w' => v = intV (ZS sl : Nat) ∧ Sat w' [VY p sl, F]) := by
 obtain ⟨sa, sc, du, re, hsl, hS⟩ := Yn hS
 refine Qt Tryz.func62 rfl Tryz.ntmps62 rfl ?_
 refine Qd (Qa (Qe rfl rfl (Qf (Qc (Qd (Qa (Qb rfl rfl (Qj rfl rfl ?_))))))))
 refine Qg rfl YV rfl ?_
 refine Qu rfl QW (by exact hS.cell 0 rfl rfl) rfl ?_
 refine Qe rfl rfl (Qf (Qc (Q0 ?_)))
 refine QV (.inr rfl) rfl rfl ?_
 exact ⟨_, rfl, rfl, W6 hsl (hS.pick [0, 1, 2] rfl)⟩
theorem srow (m : Nat) : (List.replicate m [strV []]).flatten = stC.cells (List.replicate m []) := by
  induction m with
  | zero => rfl
  | succ m ih => rw [List.replicate_succ, List.flatten_cons, ih, List.replicate_succ]; rfl
theorem Pi {w : World} {F : Th} (hS : Sat w [F]) (n : Int) :
    Calls Tryz.prog 58 #[intV n] w (Ret fun v w' => ∃ p, v = ptrV p 0 ∧ Sat w' [VY p (List.replicate (max 0 (min n 4096)).toNat []), F]) := by
 refine Qt Tryz.func58 rfl Tryz.ntmps58 rfl ?_
 refine Qd (Qa (Qe rfl rfl (Qf (Qc (Qd (Qa (Qb rfl rfl ?_)))))))
 refine HS rfl rfl rfl ?_
 refine JL rfl rfl rfl ?_
 refine BA hS (max 0 (min n 4096)).toNat rfl rfl (by omega) Tryz.underlying61 ifo_9 rfl (by omega) (by omega) rfl ?_
 intro db w1 hS1a; have hS1 := hS1a.row_cast (l := List.replicate (max 0 (min n 4096)).toNat []) (C := stC) (by simp) rfl (srow _)
 refine Zy rfl PC asz_185 zr_185 rfl rfl ?_
 refine Zf hS1 rfl rfl rfl ?_
 intro bp wbp hSbp
 clear hS1
 refine Qe rfl rfl (Qf (Qc (Q0 ?_)))
 refine QV (.inr rfl) rfl rfl ?_
 exact ⟨_, rfl, _, rfl, W6 (du := 0) (re := 0) (by rw [List.length_replicate]; omega) (by rw [MU]; exact hSbp.pick [0, 1, 2] rfl)⟩
end Go.Proofs.YtkcjfoaejijdoaaGreatDoor
/- Parts of rows that are bytes: copy into them, their text. Conditions: the rules' own hypotheses. -/
namespace Go.Proofs.YtkcjfoaejijdoaaGreatDoor.M
open Go.RowKit
section
variable {P : Program} {n : Nat} {ops : Array Oper} {Q : Exit → Act → World → Prop} {rest : List Oper} {L : Env} {w : World} {d : Nat} {ty : TypeId} {pos : String} {aft : Array Edge}
theorem NY {As : List Th} (i : Nat) (hS : Sat w As) {x y : Operand} {dT sT e b o off m m' cap size dl dc : Nat} {v : Value} {s : List UInt8} {xs xs' : List Value} (hi : As[i]? = some (Wl v m size xs)) (hv : v = .slice (some ⟨b, o, none⟩) m' cap) (hx : look L x = some (.slice (some ⟨b, off, none⟩) dl dc)) (hy : look L y = some (strV s)) (hu : P.underlying dT = some (.slice e)) (hs : ZQ P e = some 1) (hfit : off + min s.length dl ≤ xs.length)
    (hxs : XC xs off (X0 (s.take dl)) = xs') (hd : Nat.blt d n = true) (hk : ∀ w', Sat w' (As.set i (Wl v m size xs')) → wl P n ops Q rest ((d, .int .i64 ((min s.length dl : Nat) : Int)) :: L) w') : wl P n ops Q (⟨some d, .call ⟨.builtin .copy, #[x, y], #[dT, sT]⟩, ty, pos, aft, none⟩ :: rest) L w := by
  subst hxs
  obtain ⟨sp, hb, hback⟩ := hS.own_row i hi hv
  refine XI rfl hd (fun a ha => GI dT sT x y rfl (ha.eval hx) (ha.eval hy) hb hu hs (by rw [Vg]; simp; omega)) ?_
  rintro u w' ⟨rfl, h1, h2, _⟩
  rw [Vg]
  have hl : off + (X0 (s.take dl)).length ≤ xs.length := by simp [X0]; omega
  refine hk w' (hback w' _ (Wq hl) ?_ h2)
  rw [← WW hl]
  exact h1
theorem ev_strR {As : List Th} (i : Nat) (hS : Sat w As) {x : Operand} {sT dT e b o off m m' cap size dl dc : Nat} {v : Value} (l : List UInt8) {xs : List Value} (hi : As[i]? = some (Wl v m size xs)) (hv : v = .slice (some ⟨b, o, none⟩) m' cap) (hx : look L x = some (.slice (some ⟨b, off, none⟩) dl dc)) (hs : P.underlying sT = some (.slice e)) (he : P.underlying e = some (.int .u8)) (hd : P.underlying dT = some .string) (hl : (xs.drop off).take dl = X0 l) (hn : l.length = dl) : Ev P L w ⟨some d, .convert sT dT x, ty, pos, aft, none⟩ (strV l) := fun ρ hρ => by
  obtain ⟨sp, hb, _⟩ := hS.own_row i hi hv
  subst hn
  have hr := run_convert_bytes_back (P := P) w sT dT e ⟨b, off, none⟩ dc l hs he hd (fun j hj => by
    rw [Z3]
    refine hb.cell ?_
    have h1 := congrArg (fun q => q[j]?) hl
    simp only [List.getElem?_take, hj, if_true, List.getElem?_drop, Gw] at h1
    have hlt : off + j < xs.length := by
      rcases Nat.lt_or_ge (off + j) xs.length with g | g
      · exact g
      · rw [List.getElem?_eq_none g, List.getElem?_eq_getElem hj] at h1; cases h1
    rw [List.getElem?_append_left hlt, h1, List.getElem?_eq_getElem hj]; rfl)
  simp [execOp, hρ _ _ hx, hr]
/-- p[N:], p a pointer to an array of N -/
theorem Ry {x y : Operand} {t e N b o sz : Nat} {k : IntKind} {i : Int} (hu : P.underlying t = some (.array N e)) (hN : Nat.blt 0 N = true) (hx : look L x = some (ptrV b o)) (hy : look L y = some (.int k i)) (hi : i = (N : Int)) (hs : ZQ P e = some sz) (hd : Nat.blt d n = true) (hk : wl P n ops Q rest ((d, .slice (some ⟨b, o, none⟩) 0 0) :: L) w) : wl P n ops Q (⟨some d, .slice t x (some y) none none, ty, pos, aft, none⟩ :: rest) L w :=
  Xq hd (fun ρ hρ => by
    have h3 : ∀ w, (sizeOf e).run P w = .ok sz w := fun w => Zm hs w
    have hn : ¬ N = 0 := by simp at hN; omega
    have hb := fun w => UH (P := P) false N N (some (.int k i)) none N N ⟨k, by rw [hi]⟩ rfl (Nat.le_refl _) (Nat.le_refl _) w
    simp [execOp, hρ _ _ hx, hρ _ _ hy, Instr.sliceAt, run_underlying hu, Instr.sureAddr, hb, h3, hn]) hk
end
end Go.Proofs.YtkcjfoaejijdoaaGreatDoor.M
/- frames -/
namespace Go.Proofs.YtkcjfoaejijdoaaGreatDoor
open Go.RowKit M
set_option linter.unusedVariables false
structure FrD where
  u : Bool
  b : Bs
def Du (b : Bs) : List UInt8 := (List.range 64).map fun i => (b[i]?).getD 0
theorem VR (b : Bs) : (Du b).length = 64 := by simp [Du]
theorem VQ {b : Bs} (h : b.length = 64) : Du b = b := by
  apply List.ext_getElem?
  intro i
  by_cases hi : i < 64
  · unfold Du; rw [List.getElem?_map, List.getElem?_range hi, Option.map_some, List.getElem?_eq_getElem (by omega)]; rfl
  · rw [List.getElem?_eq_none (by rw [VR]; omega), List.getElem?_eq_none (by omega)]
def Ml (x : FrD) : List Value := .bool x.u :: X0 (Du x.b)
theorem Gv (l : List UInt8) : (X0 l).length = l.length := by simp [X0]
theorem Ce (x : FrD) : (Ml x).length = 65 := by unfold Ml; rw [List.length_cons, Gv, VR]
theorem frE_one (x : FrD) : YI (Ml x) = true := by
  refine B6 fun v hv => ?_
  unfold Ml at hv
  rcases List.mem_cons.1 hv with rfl | hv
  · rfl
  · unfold X0 at hv
    obtain ⟨b, _, rfl⟩ := List.mem_map.1 hv
    rfl
def frC : RowC FrD := ⟨Ml, 65, by decide, Ce, frE_one⟩
/-- what a frame contains -/
def RZ (x : FrD) : Option Bs := if x.u = true then some (Du x.b) else none
def WZ (fl : List (Option Bs)) : Nat := (fl.filter Option.isSome).length
def Vy (p : Nat) (fl : List (Option Bs)) : Th := Tt fun q : Value × List FrD => starL [Jh (fl = q.2.map RZ ∧ fl.length ≤ 4096), QO p [q.1, intV (WZ fl : Nat)], rowT frC q.1 q.2]
theorem YT {w : World} {p : Nat} {fl : List (Option Bs)} {As : List Th} (h : Sat w (Vy p fl :: As)) : ∃ ao cap cl, fl = cl.map RZ ∧ cl.length ≤ 4096 ∧ Sat w (QO p [.slice ao cl.length cap, intV (WZ fl : Nat)] :: rowT frC (.slice ao cl.length cap) cl :: As) := by
  obtain ⟨⟨v, cl⟩, h⟩ := h.ex
  obtain ⟨⟨h1, h3⟩, h2⟩ := h.flat.pure_elim
  obtain ⟨ao, cap, hv, _⟩ := Sat.own_shape (As := QO p _ :: rowT frC v cl :: As) h2 1 rfl
  obtain rfl := hv
  exact ⟨ao, cap, cl, h1, by rw [h1, List.length_map] at h3; exact h3, h2⟩
theorem WR {w : World} {p : Nat} {fl : List (Option Bs)} {As : List Th} {v : Value} {cl : List FrD} (h1 : fl = cl.map RZ) (hl : cl.length ≤ 4096) (h : Sat w (QO p [v, intV (WZ fl : Nat)] :: rowT frC v cl :: As)) : Sat w (Vy p fl :: As) :=
  Sat.ex_intro (v, cl) (Sat.fold (As := [Jh _, QO p _, rowT frC v cl]) (Sat.pure_intro ⟨h1, by rw [h1, List.length_map]; exact hl⟩ h))
theorem H6 (fl : List (Option Bs)) : WZ fl ≤ fl.length := List.length_filter_le _ _
theorem GU : ∀ {fl : List (Option Bs)} {k : Nat} {b : Bs}, fl[k]? = some none → WZ (fl.set k (some b)) = WZ fl + 1
  | [], _, _, h => by simp at h
  | a :: fl, 0, b, h => by
    simp at h; subst h
    unfold WZ; simp
  | a :: fl, k + 1, b, h => by
    have := GU (fl := fl) (k := k) (b := b) (by simpa using h)
    unfold WZ at this ⊢
    rw [List.set_cons_succ, List.filter_cons, List.filter_cons]
    split
    · rw [List.length_cons, List.length_cons, this]
    · exact this
theorem R6 : ∀ {fl : List (Option Bs)} {k : Nat} {b : Bs}, fl[k]? = some (some b) → WZ (fl.set k none) + 1 = WZ fl
  | [], _, _, h => by simp at h
  | a :: fl, 0, b, h => by
    simp at h; subst h
    unfold WZ; simp
  | a :: fl, k + 1, b, h => by
    have := R6 (fl := fl) (k := k) (b := b) (by simpa using h)
    unfold WZ at this ⊢
    rw [List.set_cons_succ, List.filter_cons, List.filter_cons]
    split
    · rw [List.length_cons, List.length_cons, ← this]
    · exact this
theorem UC : ∀ {fl : List (Option Bs)} {k : Nat} {b c : Bs}, fl[k]? = some (some b) → WZ (fl.set k (some c)) = WZ fl
  | [], _, _, _, h => by simp at h
  | a :: fl, 0, b, c, h => by
    simp at h; subst h
    unfold WZ; simp
  | a :: fl, k + 1, b, c, h => by
    have := UC (fl := fl) (k := k) (b := b) (c := c) (by simpa using h)
    unfold WZ at this ⊢
    rw [List.set_cons_succ, List.filter_cons, List.filter_cons]
    split
    · rw [List.length_cons, List.length_cons, this]
    · exact this
/-- the content of a frame, if it is allocated -/
def Z2 (fl : List (Option Bs)) (f : Int) : Option Bs := if 0 ≤ f then (match fl[f.toNat]? with | some (some b) => some b | _ => none) else none
theorem Jy {fl : List (Option Bs)} {f : Int} {b : Bs} (h : Z2 fl f = some b) : 0 ≤ f ∧ fl[f.toNat]? = some (some b) := by
  unfold Z2 at h
  split at h
  · rename_i h0
    refine ⟨h0, ?_⟩
    split at h
    · rename_i b' hb; cases h; exact hb
    · cases h
  · cases h
theorem Sm {cl : List FrD} {f : Int} {x : FrD} (h0 : 0 ≤ f) (hx : cl[f.toNat]? = some x) : Z2 (cl.map RZ) f = RZ x := by
  unfold Z2
  rw [if_pos h0, List.getElem?_map, hx, Option.map_some]
  unfold RZ
  cases x.u <;> rfl
theorem Bw {cl : List FrD} {f : Int} (h : f < 0 ∨ (cl.length : Int) ≤ f) : Z2 (cl.map RZ) f = none := by
  unfold Z2
  split
  · rw [List.getElem?_eq_none (by rw [List.length_map]; omega)]
  · rfl
theorem Vx {w : World} {p : Nat} {fl : List (Option Bs)} {F : Th} (hS : Sat w [Vy p fl, F]) (f : Int) :
    Calls Tryz.prog 138 #[ptrV p 0, intV f] w (Ret fun v w' => v = .bool (Z2 fl f).isSome ∧ Sat w' [Vy p fl, F]) := by
 obtain ⟨fa, fc, cl, hfl, hcl, hS⟩ := YT hS
 refine Qt Tryz.func138 rfl Tryz.ntmps138 rfl ?_
 refine Qd (Qa (Qe rfl rfl (Qf (Qc (Qd (Qa (Qb rfl rfl ?_)))))))
 refine JE rfl rfl rfl ?_
 refine Qb rfl rfl ?_
 refine Xk 7 rfl (fun h1 => ?_) (fun h1 => ?_)
 ·refine Qn rfl rfl (decide_eq_true h1) ?_
  refine Qb rfl rfl ?_
  refine Qn rfl rfl (decide_eq_true h1) ?_
  refine Qb rfl rfl ?_
  refine Qn rfl rfl (decide_eq_true h1) ?_
  refine Qj rfl rfl ?_
  refine Qn rfl rfl (decide_eq_true h1) ?_
  refine Qg rfl Jn rfl ?_
  refine Qn rfl rfl (decide_eq_true h1) ?_
  refine Qu rfl Hw (by exact hS.cell 0 rfl rfl) rfl ?_
  refine Qn rfl rfl (decide_eq_true h1) ?_
  refine XU Tryz.underlying181 rfl rfl ?_
  refine Qn rfl rfl (decide_eq_true h1) ?_
  refine Xt rfl rfl rfl ?_
  refine Xg rfl (decide_eq_true h1) rfl rfl ?_
  refine Qb rfl rfl ?_
  refine Xk 16 rfl (fun h2 => ?_) (fun h2 => ?_)
  ·obtain ⟨x, hx⟩ : ∃ x, cl[f.toNat]? = some x := ⟨_, List.getElem?_eq_getElem (by omega)⟩
   refine Qn rfl rfl (decide_eq_true h2) ?_
   refine Qb rfl rfl ?_
   refine Qn rfl rfl (decide_eq_true h2) ?_
   refine Qj rfl rfl ?_
   refine Qn rfl rfl (decide_eq_true h2) ?_
   refine Qg rfl Jn rfl ?_
   refine Qn rfl rfl (decide_eq_true h2) ?_
   refine Qu rfl Hw (by exact hS.cell 0 rfl rfl) rfl ?_
   refine Qn rfl rfl (decide_eq_true h2) ?_
   refine Qb rfl rfl ?_
   refine Qn rfl rfl (decide_eq_true h2) ?_
   refine Xp frC 1 f.toNat hS rfl rfl rfl (by omega) hx HK rfl ?_
   intro bx3 capx3 hvx3
   refine Qn rfl rfl (decide_eq_true h2) ?_
   refine Qg rfl Gb rfl ?_
   refine Qn rfl rfl (decide_eq_true h2) ?_
   refine Z4 1 f.toNat 0 hS rfl hvx3 rfl rfl hx Gz rfl rfl ?_
   refine Xg rfl (decide_eq_true h2) rfl rfl ?_
   refine Qe rfl rfl (Qf (Qc ?_))
   refine Qh (L' := [(4, _)]) (Hd rfl) ?_
   refine Q0 ?_
   refine QV (.inr rfl) rfl rfl ?_
   exact ⟨_, rfl, by rw [hfl, Sm (by omega) hx]; unfold RZ; cases x.u <;> rfl, WR hfl hcl (hS.pick [0, 1, 2] rfl)⟩
  refine Ql rfl rfl (decide_eq_false h2) rfl ?_
  refine Ql rfl rfl (decide_eq_false h2) rfl ?_
  refine Ql rfl rfl (decide_eq_false h2) rfl ?_
  refine Ql rfl rfl (decide_eq_false h2) rfl ?_
  refine Ql rfl rfl (decide_eq_false h2) rfl ?_
  refine Ql rfl rfl (decide_eq_false h2) rfl ?_
  refine Ql rfl rfl (decide_eq_false h2) rfl ?_
  refine Ql rfl rfl (decide_eq_false h2) rfl ?_
  refine QX rfl (decide_eq_false h2) rfl rfl ?_
  refine Qe rfl rfl (Qf (Qc ?_))
  refine Qh (L' := [(4, _)]) (Hd rfl) ?_
  refine Q0 ?_
  refine QV (.inr rfl) rfl rfl ?_
  exact ⟨_, rfl, by rw [hfl, Bw (by omega)]; rfl, WR hfl hcl (hS.pick [0, 1, 2] rfl)⟩
 refine Ql rfl rfl (decide_eq_false h1) rfl ?_
 refine Ql rfl rfl (decide_eq_false h1) rfl ?_
 refine Ql rfl rfl (decide_eq_false h1) rfl ?_
 refine Ql rfl rfl (decide_eq_false h1) rfl ?_
 refine Ql rfl rfl (decide_eq_false h1) rfl ?_
 refine Ql rfl rfl (decide_eq_false h1) rfl ?_
 refine Ql rfl rfl (decide_eq_false h1) rfl ?_
 refine QX rfl (decide_eq_false h1) rfl rfl ?_
 refine Qb rfl rfl ?_
 refine Ql rfl rfl rfl rfl ?_
 refine Ql rfl rfl rfl rfl ?_
 refine Ql rfl rfl rfl rfl ?_
 refine Ql rfl rfl rfl rfl ?_
 refine Ql rfl rfl rfl rfl ?_
 refine Ql rfl rfl rfl rfl ?_
 refine Ql rfl rfl rfl rfl ?_
 refine Ql rfl rfl rfl rfl ?_
 refine QX rfl rfl rfl rfl ?_
 refine Qe rfl rfl (Qf (Qc ?_))
 refine Qh (L' := [(4, _)]) (Hd rfl) ?_
 refine Q0 ?_
 refine QV (.inr rfl) rfl rfl ?_
 exact ⟨_, rfl, by rw [hfl, Bw (by omega)]; rfl, WR hfl hcl (hS.pick [0, 1, 2] rfl)⟩
end Go.Proofs.YtkcjfoaejijdoaaGreatDoor
