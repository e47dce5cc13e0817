/- disk: what a disk is, in plain data, and how it lies in memory. -/
import Derived.Test.YtcbdclhoekokpaaGreatDoorDr
import Derived.Test.YtcbdclhoekokpaaGreatDoorRow
namespace Go.Proofs.YtcbdclhoekokpaaGreatDoor
open Go.RowKit M
abbrev Bytes := List UInt8
structure DS where
  F : Int → Bytes × Bytes
  Q : List (Int × Int)
  lost : Int
  down : Bool
  armed : Int
  keep : List Int
def setF (F : Int → Bytes × Bytes) (f : Int) (x : Bytes × Bytes) : Int → Bytes × Bytes := fun k => if k = f then x else F k
structure DInv (D : DS) : Prop where
  now : ∀ k, (D.F k).1.length ≤ 16777216
  last : ∀ k, (D.F k).2.length ≤ 16777216
  nodup : D.Q.Nodup
  secs : ∀ p ∈ D.Q, (0 ≤ p.1 ∧ p.1 < 16) ∧ 0 ≤ p.2 ∧ p.2 ≤ 262144
  lost : 0 ≤ D.lost ∧ D.lost ≤ 9223372036854775807
  armed : 0 ≤ D.armed ∧ D.armed ≤ 9223372036854775807
structure DL where
  bf : Nat
  bs : Nat
  qv : Value
end Go.Proofs.YtcbdclhoekokpaaGreatDoor
/- the reference of layer 3: how its disk lies in memory; plain facts. -/
namespace Go.Proofs.YtcbdclhoekokpaaGreatDoor
open Go.RowKit M
def inC : RowC Int := ⟨fun x => [intV x], 1, by decide, fun _ => rfl, fun _ => rfl⟩
/-- the file of a number: the first one in the list -/
def getR : List (Int × Bytes × Bytes) → Int → Bytes × Bytes
  | [], _ => ([], [])
  | x :: l, f => if x.1 = f then x.2 else getR l f
structure RInv (l : List (Int × Bytes × Bytes)) (D : DS) : Prop where
  inv : DInv D
  says : ∀ k, getR l k = D.F k
  num : ∀ x ∈ l, 0 ≤ x.1 ∧ x.1 < 16
  nodup : (l.map (·.1)).Nodup
structure RL where
  fv : Value
  qv : Value
  l : List (Int × Bytes × Bytes)
theorem getR_app {l m : List (Int × Bytes × Bytes)} {f : Int} (h : ∀ x ∈ l, x.1 ≠ f) : getR (l ++ m) f = getR m f := by
  induction l with
  | nil => rfl
  | cons x l ih => rw [List.cons_append, getR, if_neg (h x (by simp)), ih fun y hy => h y (by simp [hy])]
theorem getR_filter {l : List (Int × Bytes × Bytes)} {f k : Int} (h : k ≠ f) (m : List (Int × Bytes × Bytes)) (hm : getR m k = ([], [])) : getR (l.filter (fun x => decide (x.1 ≠ f)) ++ m) k = getR l k := by
  induction l with
  | nil => exact hm
  | cons x l ih =>
    by_cases e : x.1 = f
    · rw [List.filter_cons_of_neg (by simp [e]), ih, getR, if_neg (by omega)]
    · rw [List.filter_cons_of_pos (by simp [e]), List.cons_append, getR, getR, ih]
def putR (l : List (Int × Bytes × Bytes)) (x : Int × Bytes × Bytes) : List (Int × Bytes × Bytes) := l.filter (fun y => decide (y.1 ≠ x.1)) ++ [x]
theorem putR_says {l : List (Int × Bytes × Bytes)} {F : Int → Bytes × Bytes} (h : ∀ k, getR l k = F k) (x : Int × Bytes × Bytes) (k : Int) : getR (putR l x) k = setF F x.1 x.2 k := by
  unfold putR setF
  by_cases e : k = x.1
  · subst e
    rw [getR_app (fun y hy => by simpa using (List.mem_filter.1 hy).2), if_pos rfl]
    simp [getR]
  · rw [getR_filter e [x] (by rw [getR, if_neg (Ne.symm e)]; rfl), if_neg e]; exact h k
theorem RInv.put {l : List (Int × Bytes × Bytes)} {D : DS} (h : RInv l D) (k : Int) (a b : Bytes) (hk : 0 ≤ k ∧ k < 16) (ha : a.length ≤ 16777216) (hb : b.length ≤ 16777216) : RInv (putR l (k, a, b)) { D with F := setF D.F k (a, b) } := by
  refine ⟨{ h.inv with now := fun j => ?_, last := fun j => ?_ }, putR_says h.says (k, a, b), fun x hx => ?_, ?_⟩
  · simp only [setF]; split
    · exact ha
    · exact h.inv.now j
  · simp only [setF]; split
    · exact hb
    · exact h.inv.last j
  · rcases List.mem_append.1 hx with q | q
    · exact h.num x (List.mem_filter.1 q).1
    · simp at q; subst q; exact hk
  · unfold putR
    rw [List.map_append]
    refine List.nodup_append.2 ⟨(h.nodup.sublist (List.filter_sublist.map _)), by simp, ?_⟩
    intro x hx y hy e
    obtain ⟨z, hz, rfl⟩ := List.mem_map.1 hx
    simp at hy
    have := (List.mem_filter.1 hz).2
    simp at this
    exact this (e.trans hy)
theorem RInv.count {l : List (Int × Bytes × Bytes)} {D : DS} (h : RInv l D) : l.length ≤ 16 := by
  have hs : ∀ x ∈ (l.map (·.1)).map Int.toNat, x ∈ List.range 16 := by
    intro x hx
    obtain ⟨y, hy, rfl⟩ := List.mem_map.1 hx
    obtain ⟨z, hz, rfl⟩ := List.mem_map.1 hy
    have := h.num z hz
    simp; omega
  have hm : ((l.map (·.1)).map Int.toNat).Nodup := by
    refine List.pairwise_map.2 (h.nodup.imp_of_mem ?_)
    intro a b ha hb hne e
    obtain ⟨z, hz, rfl⟩ := List.mem_map.1 ha
    obtain ⟨y, hy, rfl⟩ := List.mem_map.1 hb
    have := h.num z hz; have := h.num y hy
    exact hne (by omega)
  have := List.Nodup.length_le_of_subset hm hs
  simpa using this
theorem RInv.upd {l : List (Int × Bytes × Bytes)} {D D' : DS} (h : RInv l D) (hF : D'.F = D.F) (hi : DInv D') : RInv l D' := ⟨hi, fun k => by rw [hF]; exact h.says k, h.num, h.nodup⟩
end Go.Proofs.YtcbdclhoekokpaaGreatDoor
/- Arrays in structs: an array as a slice, an element of an array's value; calls of bound methods. Conditions: the rules' own hypotheses. -/
namespace Go.Proofs.YtcbdclhoekokpaaGreatDoor.M
open Go.RowKit
section
variable {P : Program} {n : Nat} {ops : Array Oper} {Q : Exit → Act → World → Prop} {rest : List Oper} {L : Env} {w : World} {d : Nat} {ty : TypeId} {pos : String} {aft : Array Edge} {As : List Th}
theorem wl_sliceArr {x : Operand} {t e N b o sz : Nat} (hu : P.underlying t = some (.array N e)) (hN : Nat.blt 0 N = true) (hx : look L x = some (ptrV b o)) (hs : szOf P e = some sz) (hd : Nat.blt d n = true) (hk : wl P n ops Q rest ((d, .slice (some ⟨b, o, none⟩) N N) :: L) w) : wl P n ops Q (⟨some d, .slice t x none none none, ty, pos, aft, none⟩ :: rest) L w :=
  wl_val hd (fun ρ hρ => by
    have h3 : ∀ w, (sizeOf e).run P w = .ok sz w := fun w => run_sizeOf hs w
    have hn : ¬ N = 0 := by simp at hN; omega
    simp [execOp, hρ _ _ hx, Instr.sliceAt, run_underlying hu, Instr.sureAddr, Instr.sliceBounds, h3, hn]
    simp [Addr.add]) hk
theorem wl_indexArr {x y : Operand} {t e N sz : Nat} {xs : Array Value} {k : IntKind} {i : Int} (j : Nat) {us : List Value} (hu : P.underlying t = some (.array N e)) (hx : look L x = some (.agg xs)) (hy : look L y = some (.int k i)) (hi : i = (j : Int)) (hj : j < N) (ha : aggB P e = some true) (hs : szOf P e = some sz) (hus : xs.extract (j * sz) (j * sz + sz) = us.toArray) (hd : Nat.blt d n = true) (hk : wl P n ops Q rest ((d, .agg us.toArray) :: L) w) : wl P n ops Q (⟨some d, .index t x y, ty, pos, aft, none⟩ :: rest) L w :=
  wl_val hd (fun ρ hρ => by
    subst hi
    have h3 : ∀ w, (sizeOf e).run P w = .ok sz w := fun w => run_sizeOf hs w
    have h4 : ∀ w, (isAgg e).run P w = .ok true w := fun w => aggB_true ha w
    have : (j : Int) < (N : Int) := by omega
    simp [execOp, hρ _ _ hx, hρ _ _ hy, Instr.index, asIntOf, run_underlying hu, this, hj, h3, part, h4, hus]) hk
/-- a call of a bound method -/
theorem wl_callB {dst : Option Nat} {x : Operand} {f : Nat} {fs : List Value} {args : List Operand} {vs : List Value} {ts : Array TypeId} {R : Ending → World → Prop} (hx : look L x = some (.func (.func f) fs.toArray #[])) (hf : callB P f = true) (ha : looks L args = some vs) (hc : Calls P f (fs ++ vs).toArray w R) (hd : (match dst with | some d => Nat.blt d n | none => true) = true)
    (hk : ∀ e w', R e w' → ∃ v, e = .returned v ∧ wl P n ops Q rest (pd dst v L) w') : wl P n ops Q (⟨dst, .call ⟨.value x, args.toArray, ts⟩, ty, pos, aft, none⟩ :: rest) L w := by
  unfold wl
  intro a hfr
  refine wpList_plain rfl fun K hK => ?_
  unfold Oper.wp
  have he := hfr.evals ha
  have hr : (execOp a.eval ⟨dst, .call ⟨.value x, args.toArray, ts⟩, ty, pos, aft, none⟩).run P w = .ok (.enter f (fs ++ vs).toArray) w := by
    simp only [execOp, resolve, hfr.eval hx, Deferred.ofValue, invoke]
    simp [he, callB_run hf]
  rw [hr]
  refine Calls.mono hc fun e w' hR => ?_
  obtain ⟨v, rfl, h⟩ := hk e w' hR
  unfold wl at h
  exact hK _ _ (h _ (hfr.put dst v hd))
/-- a bound method -/
theorem ev_makeBound {f : Nat} {fs : List Operand} {vs : List Value} (hx : looks L fs = some vs) : Ev P L w ⟨some d, .makeFunc (.func f) fs.toArray #[], ty, pos, aft, none⟩ (.func (.func f) vs.toArray #[]) := fun ρ hρ => by
  have : fs.map ρ = vs := by
    induction fs generalizing vs with
    | nil => simp [looks] at hx; subst hx; rfl
    | cons y ys ih =>
      simp only [looks] at hx
      cases h1 : look L y with
      | none => simp [h1] at hx
      | some u =>
        cases h2 : looks L ys with
        | none => simp [h1, h2] at hx
        | some us => simp [h1, h2] at hx; subst hx; simp [hρ _ _ h1, ih h2]
  simp [execOp, Instr.makeFunc, this]
theorem wl_makeBound {f : Nat} {fs : List Operand} {vs : List Value} (hx : looks L fs = some vs) (hd : Nat.blt d n = true) (hk : wl P n ops Q rest ((d, .func (.func f) vs.toArray #[]) :: L) w) : wl P n ops Q (⟨some d, .makeFunc (.func f) fs.toArray #[], ty, pos, aft, none⟩ :: rest) L w :=
  wl_val hd (ev_makeBound hx) hk
end
theorem inC_cells2 (l : List Int) : inC.cells l = l.map intV := by
  induction l with
  | nil => rfl
  | cons a l ih => simp only [RowC.cells, List.flatMap_cons, List.map_cons] at ih ⊢; rw [ih]; rfl
/-- a slice of ints that is written out -/
theorem fill_ints (z : Value) : ∀ (l : List Int) (pre : List Value), fillL (pre ++ List.replicate l.length z) ((List.range' pre.length l.length).map fun i => (i * 1, 1)) (l.map intV) = pre ++ l.map intV
  | [], pre => by simp [fillL]
  | a :: l, pre => by
    have h := fill_ints z l (pre ++ [intV a])
    rw [List.length_append, List.length_cons, List.length_nil] at h
    rw [List.length_cons, List.range'_succ, List.map_cons, List.map_cons, List.replicate_succ]
    show fillL (splice (pre ++ z :: List.replicate l.length z) (pre.length * 1) [intV a]) _ _ = _
    have e : splice (pre ++ z :: List.replicate l.length z) (pre.length * 1) [intV a] = pre ++ [intV a] ++ List.replicate l.length z := by
      simp [splice]
    rw [e, h]
    simp
theorem fillOk_ints : ∀ (l : List Int) (o m : Nat), o + l.length ≤ m → fillOk m ((List.range' o l.length).map fun i => (i * 1, 1)) (l.map intV) = true
  | [], o, m, _ => by simp [fillOk]
  | a :: l, o, m, h => by
    rw [List.length_cons] at h
    rw [List.length_cons, List.range'_succ, List.map_cons, List.map_cons]
    unfold fillOk
    rw [fillOk_ints l (o + 1) m (by omega)]
    have : Nat.ble (o * 1 + 1) m = true := by simp; omega
    rw [this]; rfl
theorem wl_intsBuild {P : Program} {n : Nat} {ops : Array Oper} {Q : Exit → Act → World → Prop} {rest : List Oper} {L : Env} {w : World} {d : Nat} {ty : TypeId} {pos : String} {aft : Array Edge} {As : List Th} (l : List Int) (hS : Sat w As) {t e len : Nat} {z : Value} {parts : List (Nat × Operand)} (hx : looks L (parts.map (·.2)) = some (l.map intV)) (hidx : parts.map (·.1) = List.range' 0 l.length) (hu : P.underlying t = some (.slice e)) (hi : (P.info? e).map (fun i => (i.zero, i.size)) = some (some z, 1)) (hz : z.cells.toList = [z]) (hlen : l.length = len) (hmx : Nat.ble len 1000 = true) (hd : Nat.blt d n = true)
    (hk : ∀ b w', Sat w' (rowT inC (.slice (some ⟨b, 0, none⟩) len len) l :: As) → wl P n ops Q rest ((d, .slice (some ⟨b, 0, none⟩) len len) :: L) w') : wl P n ops Q (⟨some d, .buildSlice t len parts.toArray, ty, pos, aft, none⟩ :: rest) L w := by
  subst hlen
  have hzs : z.cells.size = 1 := by rw [← Array.length_toList, hz]; rfl
  have h0 : (List.replicate l.length z.cells.toList).flatten = List.replicate l.length z := by
    rw [hz]
    induction l.length with
    | zero => rfl
    | succ k ih => rw [List.replicate_succ, List.flatten_cons, ih, List.replicate_succ]; rfl
  refine wl_buildSlice hS hx hu hi (by rw [Nat.mul_one]; exact hmx) hzs (by rw [hidx, Nat.mul_one]; exact fillOk_ints l 0 _ (by omega)) hd ?_
  intro b w' h
  refine hk b w' (h.row_cast rfl rfl ?_)
  rw [hidx, h0]
  have := fill_ints z l []
  simp only [List.nil_append, List.length_nil] at this
  rw [this, inC_cells2]
/-- a part of a block, as a slice of ints -/
theorem ent_blkI {b o : Nat} {cs : List Value} {l : List Int} {m cap : Nat} (hm : m = l.length) (hl : l.length ≤ 9223372036854775807) (h : ∀ (i : Nat) (x : Int), l[i]? = some x → cs[o + i]? = some (intV x)) : Ent (blkT b cs) (RdL inC (.slice (some ⟨b, o, none⟩) m cap) l) := by
  subst hm
  intro w G hg
  refine ⟨_, _, rfl, hl, fun i a hi => ⟨b, o, rfl, fun j u hu => ?_⟩⟩
  have hs : Sat w [blkT b cs] := ⟨G, G, fun _ => False, by simp, fun _ _ h => h, hg, rfl⟩
  cases j with
  | zero =>
    simp [inC] at hu; subst hu
    have := hs.cell (o := o + i) 0 rfl (h i a hi)
    simpa [inC] using this
  | succ j => simp [inC] at hu
/-- a slice of one-cell values that is written out: pointers into a block -/
def ptC (b : Nat) : RowC Nat := ⟨fun o => [ptrV b o], 1, by decide, fun _ => rfl, fun _ => rfl⟩
theorem ptC_cells (b : Nat) (l : List Nat) : (ptC b).cells l = l.map (ptrV b) := by
  induction l with
  | nil => rfl
  | cons a l ih => simp only [RowC.cells, List.flatMap_cons, List.map_cons] at ih ⊢; rw [ih]; rfl
theorem fill_ptrs (b : Nat) (z : Value) : ∀ (l : List Nat) (pre : List Value), fillL (pre ++ List.replicate l.length z) ((List.range' pre.length l.length).map fun i => (i * 1, 1)) (l.map (ptrV b)) = pre ++ l.map (ptrV b)
  | [], pre => by simp [fillL]
  | a :: l, pre => by
    have h := fill_ptrs b z l (pre ++ [ptrV b a])
    rw [List.length_append, List.length_cons, List.length_nil] at h
    rw [List.length_cons, List.range'_succ, List.map_cons, List.map_cons, List.replicate_succ]
    show fillL (splice (pre ++ z :: List.replicate l.length z) (pre.length * 1) [ptrV b a]) _ _ = _
    have e : splice (pre ++ z :: List.replicate l.length z) (pre.length * 1) [ptrV b a] = pre ++ [ptrV b a] ++ List.replicate l.length z := by
      simp [splice]
    rw [e, h]
    simp
theorem fillOk_ptrs (b : Nat) : ∀ (l : List Nat) (o m : Nat), o + l.length ≤ m → fillOk m ((List.range' o l.length).map fun i => (i * 1, 1)) (l.map (ptrV b)) = true
  | [], o, m, _ => by simp [fillOk]
  | a :: l, o, m, h => by
    rw [List.length_cons] at h
    rw [List.length_cons, List.range'_succ, List.map_cons, List.map_cons]
    unfold fillOk
    rw [fillOk_ptrs b l (o + 1) m (by omega)]
    have : Nat.ble (o * 1 + 1) m = true := by simp; omega
    rw [this]; rfl
theorem wl_ptrsBuild {P : Program} {n : Nat} {ops : Array Oper} {Q : Exit → Act → World → Prop} {rest : List Oper} {L : Env} {w : World} {d : Nat} {ty : TypeId} {pos : String} {aft : Array Edge} {As : List Th} (b : Nat) (l : List Nat) (hS : Sat w As) {t e len : Nat} {z : Value} {parts : List (Nat × Operand)} (hx : looks L (parts.map (·.2)) = some (l.map (ptrV b))) (hidx : parts.map (·.1) = List.range' 0 l.length) (hu : P.underlying t = some (.slice e)) (hi : (P.info? e).map (fun i => (i.zero, i.size)) = some (some z, 1)) (hz : z.cells.toList = [z]) (hlen : l.length = len) (hmx : Nat.ble len 1000 = true) (hd : Nat.blt d n = true)
    (hk : ∀ b' w', Sat w' (rowT (ptC b) (.slice (some ⟨b', 0, none⟩) len len) l :: As) → wl P n ops Q rest ((d, .slice (some ⟨b', 0, none⟩) len len) :: L) w') : wl P n ops Q (⟨some d, .buildSlice t len parts.toArray, ty, pos, aft, none⟩ :: rest) L w := by
  subst hlen
  have hzs : z.cells.size = 1 := by rw [← Array.length_toList, hz]; rfl
  have h0 : (List.replicate l.length z.cells.toList).flatten = List.replicate l.length z := by
    rw [hz]
    induction l.length with
    | zero => rfl
    | succ k ih => rw [List.replicate_succ, List.flatten_cons, ih, List.replicate_succ]; rfl
  refine wl_buildSlice hS hx hu hi (by rw [Nat.mul_one]; exact hmx) hzs (by rw [hidx, Nat.mul_one]; exact fillOk_ptrs b l 0 _ (by omega)) hd ?_
  intro b' w' h
  refine hk b' w' (h.row_cast rfl rfl ?_)
  rw [hidx, h0]
  have := fill_ptrs b z l []
  simp only [List.nil_append, List.length_nil] at this
  rw [this, ptC_cells]
/-- numbers stored at places of a block -/
def setI : List Value → List Nat → List Int → List Value
  | cs, o :: os, v :: vs => setI (cs.set o (intV v)) os vs
  | cs, _, _ => cs
theorem setI_len : ∀ (cs : List Value) (os : List Nat) (vs : List Int), (setI cs os vs).length = cs.length
  | cs, [], _ => by simp [setI]
  | cs, _ :: _, [] => by simp [setI]
  | cs, o :: os, v :: vs => by simp [setI, setI_len (cs.set o (intV v)) os vs]
theorem setI_snoc : ∀ (cs : List Value) (os : List Nat) (vs : List Int) (o : Nat) (v : Int), os.length = vs.length → setI cs (os ++ [o]) (vs ++ [v]) = (setI cs os vs).set o (intV v)
  | cs, [], [], o, v, _ => rfl
  | cs, [], _ :: _, _, _, h => by simp at h
  | cs, _ :: _, [], _, _, h => by simp at h
  | cs, a :: os, b :: vs, o, v, h => by
    show setI (cs.set a (intV b)) (os ++ [o]) (vs ++ [v]) = _
    exact setI_snoc (cs.set a (intV b)) os vs o v (by simpa using h)
end Go.Proofs.YtcbdclhoekokpaaGreatDoor.M
