/- laws of procs: how the arguments read -/
import Derived.Test.YtcbdclhoekokpaaGreatDoorPe8
import Derived.Test.YtcbdclhoekokpaaGreatDoorRd
import Derived.Test.YtcbdclhoekokpaaGreatDoorFy
import Derived.Lib.LaidU8
import Derived.Test.YtcbdclhoekokpaaGreatDoorRows
namespace Go.Proofs.YtcbdclhoekokpaaGreatDoor
open Go.RowKit M
set_option linter.unusedVariables false
theorem var_iface {P : Program} {w : World} {name : String} {g t : Nat} (hn : P.globalNamed name = some g) (hy : (P.globals[g]?).map (·.type) = some t) (ht : isIface P t = true) {nm : String} {x : DataW Unit} (h : Lib.VarReads P w name (.iface nm x)) : ∃ tp p, w.var? P name = some #[.iface tp p] := by
  obtain ⟨g', t', cs, fuel, p, h1, h2, h3, h4⟩ := h
  obtain rfl := Option.some.inj (hn.symm.trans h1)
  obtain rfl := Option.some.inj (hy.symm.trans h2)
  unfold isIface at ht
  cases hq : P.underlying t with
  | none => rw [hq] at ht; cases ht
  | some d =>
    rw [hq] at ht
    cases d <;> simp at ht
    cases fuel with
    | zero => simp [DataW.trod] at h4
    | succ fuel =>
      obtain ⟨l⟩ := cs
      match l, h3, h4 with
      | [], _, h4 => simp [DataW.trod, hq] at h4
      | [v], h3, h4 =>
        cases v with
        | iface a b => exact ⟨a, b, h3⟩
        | _ => simp [DataW.trod, hq] at h4
      | _ :: _ :: _, _, h4 => simp [DataW.trod, hq] at h4
theorem gPow : Tryz.prog.globalNamed "internal/strconv.uint64pow10" = some 0 := by kernel_rfl
theorem gSyn : Tryz.prog.globalNamed "strconv.ErrSyntax" = some 2 := by kernel_rfl
theorem gRng : Tryz.prog.globalNamed "strconv.ErrRange" = some 3 := by kernel_rfl
theorem tPow : (Tryz.prog.globals[0]?).map (·.type) = some 185 := by kernel_rfl
theorem tSyn : (Tryz.prog.globals[2]?).map (·.type) = some 103 := by kernel_rfl
theorem tRng : (Tryz.prog.globals[3]?).map (·.type) = some 103 := by kernel_rfl
theorem cPow : Tryz.prog.cellsOf 185 = 20 := by kernel_rfl
theorem cU64 : Tryz.prog.cellsOf 153 = 1 := by kernel_rfl
theorem wireG_of {W : World} {l : List (String × DataW Unit)} (h : laidMet Tryz.prog l W) (h1 : ("internal/strconv.uint64pow10", Rows.laid_internal_strconv_uint64pow10) ∈ l) (h2 : ("strconv.ErrSyntax", Rows.laid_strconv_ErrSyntax) ∈ l) (h3 : ("strconv.ErrRange", Rows.laid_strconv_ErrRange) ∈ l) : WireG W where
  tab := by
    obtain ⟨g', t', cs, fuel, p, e1, e2, e3, e4⟩ := Lib.laidMet.reads h h1
    obtain rfl := Option.some.inj (gPow.symm.trans e1)
    obtain rfl := Option.some.inj (tPow.symm.trans e2)
    unfold Lib.TabIs
    rw [e3]
    have e5 := Lib.cells_of_tab (zs := Lib.pow10Tab) (k := .u64) Tryz.underlying185 Tryz.underlying153 cU64 cPow (by exact e4)
    rw [← e5]
  syn := var_iface gSyn tSyn (by kernel_rfl) (Lib.laidMet.reads h h2)
  rng := var_iface gRng tRng (by kernel_rfl) (Lib.laidMet.reads h h3)
section
variable {P : Program}
def Cod.array {t e n : Nat} {α : Type} [Inhabited α] (ht : P.underlying t = some (.array n e)) (c : Cod P e α) (hc : P.cellsOf t = n * c.size) : Cod P t (List α) where
  rd := fun w cs l => l.length = n ∧ cs.length = n * c.size ∧ ∀ (i : Nat) (a : α), l[i]? = some a → c.rd w ((cs.drop (i * c.size)).take c.size) a
  size := n * c.size
  cells := hc
  down := fun {H enc w base spare held fuel cs x} h => by
    obtain ⟨xs, m, _, _, hl, hxl, hf⟩ := DataW.trod_array ht h
    have hex : ∀ i, i < n → ∃ y : α, c.rd w ((cs.drop (i * c.size)).take c.size) y := fun i hi => by
      have h1 := hf i hi
      rw [List.getElem?_eq_getElem (by omega), c.cells] at h1
      exact c.down h1
    obtain ⟨f, hf⟩ := Go.Deep.choose_lt hex
    refine ⟨(List.range n).map f, by simp, by rw [hl, hc], fun i a hi => ?_⟩
    have hil : i < n := by have := (List.getElem?_eq_some_iff.1 hi).1; simpa using this
    simp [hil] at hi
    subst hi
    exact hf i hil
  len := fun h => h.2.1
  keep := fun hb h => ⟨h.1, h.2.1, fun i a hi => c.keep hb (h.2.2 i a hi)⟩
end
def qintC : Cod Tryz.prog 3 Int := Cod.int .i64 Tryz.underlying3 (by kernel_rfl)
def qstrC : Cod Tryz.prog 9 ByteArray := Cod.string Tryz.underlying9 (by kernel_rfl)
def qboolC : Cod Tryz.prog 4 Bool := Cod.bool Tryz.underlying4 (by kernel_rfl)
def qarC : Cod Tryz.prog 89 (Int × Int × ByteArray × Int × Bool × Bool × Unit) :=
  Cod.struct (P := Tryz.prog) Tryz.underlying89 (Flds.cons qintC rfl (Flds.cons qintC rfl (Flds.cons qstrC rfl (Flds.cons qintC rfl (Flds.cons qboolC rfl (Flds.cons qboolC rfl (Flds.nil _))))))) (by kernel_rfl)
def qactC : Cod Tryz.prog 33 (Int × Bool × Unit) :=
  Cod.struct (P := Tryz.prog) Tryz.underlying33 (Flds.cons qintC rfl (Flds.cons qboolC rfl (Flds.nil _))) (by kernel_rfl)
def qregC : Cod Tryz.prog 29 (List Int × Int × Unit) :=
  Cod.struct (P := Tryz.prog) Tryz.underlying29 (Flds.cons (Cod.array Tryz.underlying27 qintC (by kernel_rfl)) rfl (Flds.cons qintC rfl (Flds.nil _))) (by kernel_rfl)
def qwaitC : Cod Tryz.prog 36 (Int × Int × Int × Unit) :=
  Cod.struct (P := Tryz.prog) Tryz.underlying36 (Flds.cons qintC rfl (Flds.cons qintC rfl (Flds.cons qintC rfl (Flds.nil _)))) (by kernel_rfl)
def prCod : Cod Tryz.prog 38 (Int × Int × Int × Int × Int × Int × Int × Int × Int × Int × (List Int × Int × Unit) × List (Int × Int × ByteArray × Int × Bool × Bool × Unit) × List ByteArray × ByteArray × Int × Int × List (Int × Bool × Unit) × (Int × Int × Int × Unit) × Int × ByteArray × Unit) :=
  Cod.struct (P := Tryz.prog) Tryz.underlying38 (Flds.cons qintC rfl (Flds.cons qintC rfl (Flds.cons qintC rfl (Flds.cons qintC rfl (Flds.cons qintC rfl (Flds.cons qintC rfl (Flds.cons qintC rfl (Flds.cons qintC rfl (Flds.cons qintC rfl (Flds.cons qintC rfl
    (Flds.cons qregC rfl (Flds.cons (Cod.slice Tryz.underlying30 (by kernel_rfl) qarC (by decide)) rfl (Flds.cons (Cod.slice Tryz.underlying31 (by kernel_rfl) qstrC (by decide)) rfl (Flds.cons qstrC rfl (Flds.cons qintC rfl (Flds.cons qintC rfl
    (Flds.cons (Cod.array Tryz.underlying34 qactC (by kernel_rfl)) rfl (Flds.cons qwaitC rfl (Flds.cons qintC rfl (Flds.cons qstrC rfl (Flds.nil _))))))))))))))))))))) (by kernel_rfl)
theorem wf_in {n : Int} (h : (Lit.int .i64 n).wf = true) : inI n := by
  simp [Lit.wf, IntKind.min, IntKind.max, IntKind.signed, IntKind.bits] at h
  unfold inI; omega
theorem areas_of {W : World} {v : Value} {l : List (Int × Int × ByteArray × Int × Bool × Bool × Unit)} (h : SliceRd qarC.rd qarC.size W v l) : ∃ l' : List ArD, (∀ y ∈ l', inI y.a ∧ inI y.n ∧ inI y.f) ∧ ∀ w, Below W.heap.size W w → RdL arC v l' w := by
  obtain ⟨ao, cap, h1, h2, h3, h4⟩ := h
  have hex : ∀ i, i < l.length → ∃ a : ArD, (inI a.a ∧ inI a.n ∧ inI a.f) ∧ ∀ w, Below W.heap.size W w → ∃ b off, ao = some ⟨b, off, none⟩ ∧ ∀ (j : Nat) (u : Value), (arV6 a)[j]? = some u → w.cell? ⟨b, off + i * 6 + j, none⟩ = some u := by
    intro i hi
    obtain ⟨b, off, cs, e1, e2, e3, e4⟩ := h4 i l[i] (List.getElem?_eq_getElem hi)
    obtain ⟨c1, cs1, rfl, ⟨rfl, g1⟩, c2, cs2, rfl, ⟨rfl, g2⟩, c3, cs3, rfl, ⟨rfl, _⟩, c4, cs4, rfl, ⟨rfl, g4⟩, c5, cs5, rfl, rfl, c6, cs6, rfl, rfl, rfl⟩ := e4
    refine ⟨⟨l[i].1, l[i].2.1, l[i].2.2.1.data.toList, l[i].2.2.2.1, l[i].2.2.2.2.1, l[i].2.2.2.2.2.1⟩, ⟨wf_in g1, wf_in g2, wf_in g4⟩, fun w hb => ⟨b, off, e1, fun j u hu => ?_⟩⟩
    refine (hb.cell (p := ⟨b, off + i * 6 + j, none⟩) e2).trans (e3 j u ?_)
    simpa [arV6] using hu
  obtain ⟨f, hf⟩ := Go.Deep.choose_lt (n := l.length) hex
  refine ⟨(List.range l.length).map f, fun y hy => ?_, fun w hb => ⟨ao, cap, by simpa using h1, by simp; omega, fun i a hi => ?_⟩⟩
  · obtain ⟨i, hi, rfl⟩ := List.mem_map.1 hy
    exact (hf i (List.mem_range.1 hi)).1
  · have hil : i < l.length := by have := (List.getElem?_eq_some_iff.1 hi).1; simpa using this
    simp [hil] at hi
    subst hi
    exact (hf i hil).2 w hb
theorem texts_of {W : World} {v : Value} {l : List ByteArray} (h : SliceRd qstrC.rd qstrC.size W v l) : ∃ l' : List Bs, ∀ w, Below W.heap.size W w → RdL stC v l' w := by
  obtain ⟨ao, cap, h1, h2, h3, h4⟩ := h
  have hex : ∀ i, i < l.length → ∃ a : Bs, ∀ w, Below W.heap.size W w → ∃ b off, ao = some ⟨b, off, none⟩ ∧ ∀ (j : Nat) (u : Value), (stC.enc a)[j]? = some u → w.cell? ⟨b, off + i * 1 + j, none⟩ = some u := by
    intro i hi
    obtain ⟨b, off, cs, e1, e2, e3, e4⟩ := h4 i l[i] (List.getElem?_eq_getElem hi)
    obtain ⟨rfl, _⟩ := e4
    refine ⟨l[i].data.toList, fun w hb => ⟨b, off, e1, fun j u hu => ?_⟩⟩
    refine (hb.cell (p := ⟨b, off + i * 1 + j, none⟩) e2).trans (e3 j u ?_)
    simpa [stC] using hu
  obtain ⟨f, hf⟩ := Go.Deep.choose_lt (n := l.length) hex
  refine ⟨(List.range l.length).map f, fun w hb => ⟨ao, cap, by simpa using h1, by simp; omega, fun i a hi => ?_⟩⟩
  have hil : i < l.length := by have := (List.getElem?_eq_some_iff.1 hi).1; simpa using this
  simp [hil] at hi
  subst hi
  exact hf i hil w hb
theorem dec_bit (b : Bool) : decide (bitN b = 1) = b := by cases b <;> rfl
theorem fl_bitq (b : Bool) : fl01 (bitN b) = true := by cases b <;> rfl
theorem in_bit (b : Bool) : inI (bitN b) := by unfold bitN inI; split <;> omega
theorem proc_cells (a0 a1 a2 a3 a4 a5 a6 a7 a8 a9 r0 r1 r2 r3 r4 r5 r6 r7 pc m q n0 n1 n2 n3 n4 n5 n6 n7 n8 n9 n10 n11 n12 n13 n14 n15 w0 w1 w2 s0 : Int) (b0 b1 b2 b3 b4 b5 b6 b7 b8 b9 b10 b11 b12 b13 b14 b15 : Bool) (ar : List ArD) (fds : List Bs) (c sh : Bs) (av fv : Value) : [intV a0, intV a1, intV a2, intV a3, intV a4, intV a5, intV a6, intV a7, intV a8, intV a9, intV r0, intV r1, intV r2, intV r3, intV r4, intV r5, intV r6, intV r7, intV pc, av, fv, strV c, intV m, intV q, intV n0, .bool b0, intV n1, .bool b1, intV n2, .bool b2, intV n3, .bool b3, intV n4, .bool b4, intV n5, .bool b5, intV n6, .bool b6, intV n7, .bool b7, intV n8, .bool b8, intV n9, .bool b9, intV n10, .bool b10, intV n11, .bool b11, intV n12, .bool b12, intV n13, .bool b13, intV n14, .bool b14, intV n15, .bool b15, intV w0, intV w1, intV w2, intV s0, strV sh] = procV ⟨[a0, a1, a2, a3, a4, a5, a6, a7, a8, a9, r0, r1, r2, r3, r4, r5, r6, r7, pc], ar, fds, c, [m, q, n0, (bitN b0), n1, (bitN b1), n2, (bitN b2), n3, (bitN b3), n4, (bitN b4), n5, (bitN b5), n6, (bitN b6), n7, (bitN b7), n8, (bitN b8), n9, (bitN b9), n10, (bitN b10), n11, (bitN b11), n12, (bitN b12), n13, (bitN b13), n14, (bitN b14), n15, (bitN b15), w0, w1, w2, s0], sh⟩ av fv := by
  unfold procV
  rw [show hq _ 0 = a0 by unfold hq; rfl, show hq _ 1 = a1 by unfold hq; rfl, show hq _ 2 = a2 by unfold hq; rfl, show hq _ 3 = a3 by unfold hq; rfl, show hq _ 4 = a4 by unfold hq; rfl, show hq _ 5 = a5 by unfold hq; rfl, show hq _ 6 = a6 by unfold hq; rfl, show hq _ 7 = a7 by unfold hq; rfl, show hq _ 8 = a8 by unfold hq; rfl, show hq _ 9 = a9 by unfold hq; rfl, show hq _ 10 = r0 by unfold hq; rfl, show hq _ 11 = r1 by unfold hq; rfl, show hq _ 12 = r2 by unfold hq; rfl, show hq _ 13 = r3 by unfold hq; rfl, show hq _ 14 = r4 by unfold hq; rfl, show hq _ 15 = r5 by unfold hq; rfl, show hq _ 16 = r6 by unfold hq; rfl, show hq _ 17 = r7 by unfold hq; rfl, show hq _ 18 = pc by unfold hq; rfl, show tq _ 0 = m by unfold tq; rfl, show tq _ 1 = q by unfold tq; rfl, show tq _ 2 = n0 by unfold tq; rfl, show decide (tq _ 3 = 1) = b0 by unfold tq; exact dec_bit _, show tq _ 4 = n1 by unfold tq; rfl, show decide (tq _ 5 = 1) = b1 by unfold tq; exact dec_bit _, show tq _ 6 = n2 by unfold tq; rfl, show decide (tq _ 7 = 1) = b2 by unfold tq; exact dec_bit _, show tq _ 8 = n3 by unfold tq; rfl, show decide (tq _ 9 = 1) = b3 by unfold tq; exact dec_bit _, show tq _ 10 = n4 by unfold tq; rfl, show decide (tq _ 11 = 1) = b4 by unfold tq; exact dec_bit _, show tq _ 12 = n5 by unfold tq; rfl, show decide (tq _ 13 = 1) = b5 by unfold tq; exact dec_bit _, show tq _ 14 = n6 by unfold tq; rfl, show decide (tq _ 15 = 1) = b6 by unfold tq; exact dec_bit _, show tq _ 16 = n7 by unfold tq; rfl, show decide (tq _ 17 = 1) = b7 by unfold tq; exact dec_bit _, show tq _ 18 = n8 by unfold tq; rfl, show decide (tq _ 19 = 1) = b8 by unfold tq; exact dec_bit _, show tq _ 20 = n9 by unfold tq; rfl, show decide (tq _ 21 = 1) = b9 by unfold tq; exact dec_bit _, show tq _ 22 = n10 by unfold tq; rfl, show decide (tq _ 23 = 1) = b10 by unfold tq; exact dec_bit _, show tq _ 24 = n11 by unfold tq; rfl, show decide (tq _ 25 = 1) = b11 by unfold tq; exact dec_bit _, show tq _ 26 = n12 by unfold tq; rfl, show decide (tq _ 27 = 1) = b12 by unfold tq; exact dec_bit _, show tq _ 28 = n13 by unfold tq; rfl, show decide (tq _ 29 = 1) = b13 by unfold tq; exact dec_bit _, show tq _ 30 = n14 by unfold tq; rfl, show decide (tq _ 31 = 1) = b14 by unfold tq; exact dec_bit _, show tq _ 32 = n15 by unfold tq; rfl, show decide (tq _ 33 = 1) = b15 by unfold tq; exact dec_bit _, show tq _ 34 = w0 by unfold tq; rfl, show tq _ 35 = w1 by unfold tq; rfl, show tq _ 36 = w2 by unfold tq; rfl, show tq _ 37 = s0 by unfold tq; rfl]
theorem proc_wf {a0 a1 a2 a3 a4 a5 a6 a7 a8 a9 r0 r1 r2 r3 r4 r5 r6 r7 pc m q n0 n1 n2 n3 n4 n5 n6 n7 n8 n9 n10 n11 n12 n13 n14 n15 w0 w1 w2 s0 : Int} {b0 b1 b2 b3 b4 b5 b6 b7 b8 b9 b10 b11 b12 b13 b14 b15 : Bool} {ar : List ArD} {fds : List Bs} {c sh : Bs} (g_a0 : inI a0) (g_a1 : inI a1) (g_a2 : inI a2) (g_a3 : inI a3) (g_a4 : inI a4) (g_a5 : inI a5) (g_a6 : inI a6) (g_a7 : inI a7) (g_a8 : inI a8) (g_a9 : inI a9) (g_r0 : inI r0) (g_r1 : inI r1) (g_r2 : inI r2) (g_r3 : inI r3) (g_r4 : inI r4) (g_r5 : inI r5) (g_r6 : inI r6) (g_r7 : inI r7) (g_pc : inI pc) (g_m : inI m) (g_q : inI q) (g_n0 : inI n0) (g_n1 : inI n1) (g_n2 : inI n2) (g_n3 : inI n3) (g_n4 : inI n4) (g_n5 : inI n5) (g_n6 : inI n6) (g_n7 : inI n7) (g_n8 : inI n8) (g_n9 : inI n9) (g_n10 : inI n10) (g_n11 : inI n11) (g_n12 : inI n12) (g_n13 : inI n13) (g_n14 : inI n14) (g_n15 : inI n15) (g_w0 : inI w0) (g_w1 : inI w1) (g_w2 : inI w2) (g_s0 : inI s0) (har : ∀ y ∈ ar, inI y.a ∧ inI y.n ∧ inI y.f) : Wf0 ⟨[a0, a1, a2, a3, a4, a5, a6, a7, a8, a9, r0, r1, r2, r3, r4, r5, r6, r7, pc], ar, fds, c, [m, q, n0, (bitN b0), n1, (bitN b1), n2, (bitN b2), n3, (bitN b3), n4, (bitN b4), n5, (bitN b5), n6, (bitN b6), n7, (bitN b7), n8, (bitN b8), n9, (bitN b9), n10, (bitN b10), n11, (bitN b11), n12, (bitN b12), n13, (bitN b13), n14, (bitN b14), n15, (bitN b15), w0, w1, w2, s0], sh⟩ where
  hl := rfl
  hi := fun n hn => by
    simp only [List.mem_cons, List.not_mem_nil, or_false] at hn
    rcases hn with rfl | rfl | rfl | rfl | rfl | rfl | rfl | rfl | rfl | rfl | rfl | rfl | rfl | rfl | rfl | rfl | rfl | rfl | rfl <;> assumption
  tl := rfl
  ti := fun n hn => by
    simp only [List.mem_cons, List.not_mem_nil, or_false] at hn
    rcases hn with rfl | rfl | rfl | rfl | rfl | rfl | rfl | rfl | rfl | rfl | rfl | rfl | rfl | rfl | rfl | rfl | rfl | rfl | rfl | rfl | rfl | rfl | rfl | rfl | rfl | rfl | rfl | rfl | rfl | rfl | rfl | rfl | rfl | rfl | rfl | rfl | rfl | rfl <;> first | assumption | exact in_bit _
  fl := by
    unfold flagsOk
    rw [List.all_eq_true]
    intro i hi
    have hi := List.mem_range.1 hi
    match i, hi with
    | 0, _ => exact fl_bitq b0
    | 1, _ => exact fl_bitq b1
    | 2, _ => exact fl_bitq b2
    | 3, _ => exact fl_bitq b3
    | 4, _ => exact fl_bitq b4
    | 5, _ => exact fl_bitq b5
    | 6, _ => exact fl_bitq b6
    | 7, _ => exact fl_bitq b7
    | 8, _ => exact fl_bitq b8
    | 9, _ => exact fl_bitq b9
    | 10, _ => exact fl_bitq b10
    | 11, _ => exact fl_bitq b11
    | 12, _ => exact fl_bitq b12
    | 13, _ => exact fl_bitq b13
    | 14, _ => exact fl_bitq b14
    | 15, _ => exact fl_bitq b15
    | _ + 16, h => omega
  ar := har
theorem ints_of {W : World} {n : Nat} {cs : List Value} {l : List Int} (h1 : l.length = n) (h2 : cs.length = n * 1) (h3 : ∀ (i : Nat) (a : Int), l[i]? = some a → qintC.rd W ((cs.drop (i * 1)).take 1) a) : cs = l.map intV ∧ ∀ m ∈ l, inI m := by
  constructor
  · apply List.ext_getElem?
    intro i
    by_cases hi : i < n
    · have := (h3 i l[i] (List.getElem?_eq_getElem (by omega))).1
      have h4 := congrArg (fun q => q[0]?) this
      simp only [List.getElem?_take, List.getElem?_drop] at h4
      rw [List.getElem?_map, List.getElem?_eq_getElem (by omega : i < l.length)]
      simpa using h4
    · rw [List.getElem?_eq_none (by omega), List.getElem?_eq_none (by simp; omega)]
  · intro m hm
    obtain ⟨i, hi⟩ := List.mem_iff_getElem?.1 hm
    exact wf_in (h3 i m hi).2
theorem acts_of {W : World} {n : Nat} {cs : List Value} {l : List (Int × Bool × Unit)} (h1 : l.length = n) (h2 : cs.length = n * 2) (h3 : ∀ (i : Nat) (a : (Int × Bool × Unit)), l[i]? = some a → qactC.rd W ((cs.drop (i * 2)).take 2) a) : cs = l.flatMap (fun a => [intV a.1, .bool a.2.1]) ∧ ∀ m ∈ l, inI m.1 := by
  constructor
  · induction l generalizing n cs with
    | nil => subst h1; simp at h2; rw [h2]; rfl
    | cons a l ih =>
      subst h1
      obtain ⟨c1, cs1, e1, ⟨e2, _⟩, c2, cs2, e3, e4, e5⟩ := h3 0 a rfl
      have ih := ih (n := l.length) (cs := cs.drop 2) rfl (by rw [List.length_drop, h2, List.length_cons]; omega) (fun i b hi => by
        have := h3 (i + 1) b (by simpa using hi)
        rw [List.drop_drop, show 2 + i * 2 = (i + 1) * 2 by omega]; exact this)
      rw [List.flatMap_cons, ← ih, ← List.take_append_drop 2 cs, show cs.take 2 = [intV a.1, .bool a.2.1] by
        rw [Nat.zero_mul, List.drop_zero] at e1
        rw [e1, e2, e3, e4, e5]; rfl]
      simp
  · intro m hm
    obtain ⟨i, hi⟩ := List.mem_iff_getElem?.1 hm
    obtain ⟨c1, cs1, e1, ⟨e2, g⟩, _⟩ := h3 i m hi
    exact wf_in g
theorem proc_of {W : World} {cs : List Value} {l : (Int × Int × Int × Int × Int × Int × Int × Int × Int × Int × (List Int × Int × Unit) × List (Int × Int × ByteArray × Int × Bool × Bool × Unit) × List ByteArray × ByteArray × Int × Int × List (Int × Bool × Unit) × (Int × Int × Int × Unit) × Int × ByteArray × Unit)} (h : prCod.rd W cs l) : ∃ (x : ProcD) (av fv : Value), cs = procV x av fv ∧ Wf0 x ∧ ∀ w, Below W.heap.size W w → RdL arC av x.ar w ∧ RdL stC fv x.fds w := by
  obtain ⟨c0, cs0, rfl, ⟨rfl, g0⟩, c1, cs1, rfl, ⟨rfl, g1⟩, c2, cs2, rfl, ⟨rfl, g2⟩, c3, cs3, rfl, ⟨rfl, g3⟩, c4, cs4, rfl, ⟨rfl, g4⟩, c5, cs5, rfl, ⟨rfl, g5⟩, c6, cs6, rfl, ⟨rfl, g6⟩, c7, cs7, rfl, ⟨rfl, g7⟩, c8, cs8, rfl, ⟨rfl, g8⟩, c9, cs9, rfl, ⟨rfl, g9⟩, cr, csr, rfl, ⟨ca, cb, rfl, ⟨hr1, hr2, hr3⟩, cp, cpn, rfl, ⟨rfl, gpc⟩, rfl⟩, c11, cs11, rfl, ⟨av, rfl, hav⟩, c12, cs12, rfl, ⟨fv, rfl, hfv⟩, c13, cs13, rfl, ⟨rfl, _⟩, c14, cs14, rfl, ⟨rfl, gm⟩, c15, cs15, rfl, ⟨rfl, gq⟩, ck, csk, rfl, ⟨hk1, hk2, hk3⟩, cw, csw, rfl, ⟨cw0, csw0, rfl, ⟨rfl, gw0⟩, cw1, csw1, rfl, ⟨rfl, gw1⟩, cw2, csw2, rfl, ⟨rfl, gw2⟩, rfl⟩, ct, cst, rfl, ⟨rfl, gst⟩, cl, csl, rfl, ⟨rfl, _⟩, rfl⟩ := h
  obtain ⟨rfl, gr⟩ := ints_of hr1 hr2 hr3
  obtain ⟨rfl, gk⟩ := acts_of hk1 hk2 hk3
  obtain ⟨al, hal, har⟩ := areas_of hav
  obtain ⟨fl, hfr⟩ := texts_of hfv
  obtain ⟨a0, a1, a2, a3, a4, a5, a6, a7, a8, a9, ⟨r, pc, u1⟩, la, lf, c, m, q, ks, ⟨w0, w1, w2, u2⟩, s0, sh, u3⟩ := l
  dsimp only at *
  clear hr2 hr3 hk2 hk3
  obtain ⟨r0, r1, r2, r3, r4, r5, r6, r7, rfl⟩ : ∃ r0 r1 r2 r3 r4 r5 r6 r7 : Int, r = [r0, r1, r2, r3, r4, r5, r6, r7] := by
    match r, hr1 with
    | [r0, r1, r2, r3, r4, r5, r6, r7], _ => exact ⟨r0, r1, r2, r3, r4, r5, r6, r7, rfl⟩
  obtain ⟨k0, k1, k2, k3, k4, k5, k6, k7, k8, k9, k10, k11, k12, k13, k14, k15, rfl⟩ : ∃ k0 k1 k2 k3 k4 k5 k6 k7 k8 k9 k10 k11 k12 k13 k14 k15 : (Int × Bool × Unit), ks = [k0, k1, k2, k3, k4, k5, k6, k7, k8, k9, k10, k11, k12, k13, k14, k15] := by
    match ks, hk1 with
    | [k0, k1, k2, k3, k4, k5, k6, k7, k8, k9, k10, k11, k12, k13, k14, k15], _ => exact ⟨k0, k1, k2, k3, k4, k5, k6, k7, k8, k9, k10, k11, k12, k13, k14, k15, rfl⟩
  simp only [List.mem_cons, List.not_mem_nil, or_false, forall_eq_or_imp, forall_eq] at gr gk
  refine ⟨⟨[a0, a1, a2, a3, a4, a5, a6, a7, a8, a9, r0, r1, r2, r3, r4, r5, r6, r7, pc], al, fl, c.data.toList, [m, q, k0.1, bitN k0.2.1, k1.1, bitN k1.2.1, k2.1, bitN k2.2.1, k3.1, bitN k3.2.1, k4.1, bitN k4.2.1, k5.1, bitN k5.2.1, k6.1, bitN k6.2.1, k7.1, bitN k7.2.1, k8.1, bitN k8.2.1, k9.1, bitN k9.2.1, k10.1, bitN k10.2.1, k11.1, bitN k11.2.1, k12.1, bitN k12.2.1, k13.1, bitN k13.2.1, k14.1, bitN k14.2.1, k15.1, bitN k15.2.1, w0, w1, w2, s0], sh.data.toList⟩, av, fv, ?_, ?_, fun w hb => ⟨har w hb, hfr w hb⟩⟩
  · rw [← proc_cells]
    rfl
  · obtain ⟨gr0, gr1, gr2, gr3, gr4, gr5, gr6, gr7⟩ := gr
    obtain ⟨gk0, gk1, gk2, gk3, gk4, gk5, gk6, gk7, gk8, gk9, gk10, gk11, gk12, gk13, gk14, gk15⟩ := gk
    exact proc_wf (wf_in g0) (wf_in g1) (wf_in g2) (wf_in g3) (wf_in g4) (wf_in g5) (wf_in g6) (wf_in g7) (wf_in g8) (wf_in g9) gr0 gr1 gr2 gr3 gr4 gr5 gr6 gr7 (wf_in gpc) (wf_in gm) (wf_in gq) gk0 gk1 gk2 gk3 gk4 gk5 gk6 gk7 gk8 gk9 gk10 gk11 gk12 gk13 gk14 gk15 (wf_in gw0) (wf_in gw1) (wf_in gw2) (wf_in gst) hal
theorem qbelow_of {W w : World} (h : Sat w [frameT W]) : Below W.heap.size W w := h.below 0 rfl
theorem ent_wire {W : World} (h : WireG W) : Ent (frameT W) WireG := Ent.frame fun w hb => h.below hb
instance : Inhabited OpR := ⟨⟨0, ⟨[], [], [], [], [], []⟩, .nilFunc, .nilFunc⟩⟩
def orCod : Cod Tryz.prog 40 (Int × (Int × Int × Int × Int × Int × Int × Int × Int × Int × Int × (List Int × Int × Unit) × List (Int × Int × ByteArray × Int × Bool × Bool × Unit) × List ByteArray × ByteArray × Int × Int × List (Int × Bool × Unit) × (Int × Int × Int × Unit) × Int × ByteArray × Unit) × Unit) :=
  Cod.struct (P := Tryz.prog) Tryz.underlying40 (Flds.cons qintC rfl (Flds.cons prCod rfl (Flds.nil _))) (by kernel_rfl)
theorem ops_of {W : World} {v : Value} {l : List (Int × (Int × Int × Int × Int × Int × Int × Int × Int × Int × Int × (List Int × Int × Unit) × List (Int × Int × ByteArray × Int × Bool × Bool × Unit) × List ByteArray × ByteArray × Int × Int × List (Int × Bool × Unit) × (Int × Int × Int × Unit) × Int × ByteArray × Unit) × Unit)} (h : SliceRd orCod.rd orCod.size W v l) : ∃ l' : List OpR, ∀ w, Below W.heap.size W w → OrRd v l' w := by
  obtain ⟨ao, cap, h1, h2, h3, h4⟩ := h
  have hex : ∀ i, i < l.length → ∃ a : OpR, ∀ w, Below W.heap.size W w → (∃ b off, ao = some ⟨b, off, none⟩ ∧ ∀ (j : Nat) (u : Value), (opV a)[j]? = some u → w.cell? ⟨b, off + i * 62 + j, none⟩ = some u) ∧ (RdL arC a.av a.x.ar w ∧ RdL stC a.fv a.x.fds w ∧ Wf0 a.x) := by
    intro i hi
    obtain ⟨b, off, cs, e1, e2, e3, e4⟩ := h4 i l[i] (List.getElem?_eq_getElem hi)
    obtain ⟨c1, cs1, rfl, ⟨rfl, _⟩, c2, cs2, rfl, hp, rfl⟩ := e4
    obtain ⟨x, av, fv, rfl, hx, hr⟩ := proc_of hp
    refine ⟨⟨l[i].1, x, av, fv⟩, fun w hb => ⟨⟨b, off, e1, fun j u hu => ?_⟩, (hr w hb).1, (hr w hb).2, hx⟩⟩
    refine (hb.cell (p := ⟨b, off + i * 62 + j, none⟩) e2).trans (e3 j u ?_)
    simpa [opV] using hu
  obtain ⟨f, hf⟩ := Go.Deep.choose_lt (n := l.length) hex
  refine ⟨(List.range l.length).map f, fun w hb => ⟨ao, cap, by simpa using h1, by simp; omega, fun i a hi => ?_⟩⟩
  have hil : i < l.length := by have := (List.getElem?_eq_some_iff.1 hi).1; simpa using this
  simp [hil] at hi
  subst hi
  exact hf i hil w hb
theorem tell_row {W : World} {v0 : Value} {l0 : List (Int × (Int × Int × Int × Int × Int × Int × Int × Int × Int × Int × (List Int × Int × Unit) × List (Int × Int × ByteArray × Int × Bool × Bool × Unit) × List ByteArray × ByteArray × Int × Int × List (Int × Bool × Unit) × (Int × Int × Int × Unit) × Int × ByteArray × Unit) × Unit)} {kk vv : ByteArray} {n b : Int} (hG : WireG W) (h0 : SliceRd orCod.rd orCod.size W v0 l0) (hk : kk.size ≤ 9223372036854775807) (hv : vv.size ≤ 9223372036854775807) :
    Calls Tryz.prog 7 #[v0, .string kk, .string vv, intV n, intV b] W fun e W' => e = .returned (.bool true) ∧ Below W.heap.size W W' := by
  obtain ⟨a0, h0⟩ := ops_of h0
  exact (tell28_law (Sat.start W) (ent_wire hG) (Ent.frame h0) kk.data.toList vv.data.toList n b).mono fun e W' ⟨v, h4, h5, h6⟩ => ⟨by rw [h4, h5], qbelow_of h6⟩
end Go.Proofs.YtcbdclhoekokpaaGreatDoor
