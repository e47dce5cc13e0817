/- laws of names: how the arguments read -/
import Derived.Test.YtkaikhcpcbjkcaaGreatDoorNr10
import Derived.Lib.LaidU8
import Derived.Test.YtkaikhcpcbjkcaaGreatDoorRows
namespace Go.Proofs.YtkaikhcpcbjkcaaGreatDoor
open Go.RowKit M
set_option linter.unusedVariables false
theorem var_iface {P : Program} {w : World} {name : String} {g t : Nat} (hn : P.globalNamed name = some g) (hy : (P.globals[g]?).map (·.type) = some t) (ht : isIface P t = true) {nm : String} {x : DataW Unit} (h : Lib.VarReads P w name (.iface nm x)) : ∃ tp p, w.var? P name = some #[.iface tp p] := by
  obtain ⟨g', t', cs, fuel, p, h1, h2, h3, h4⟩ := h
  obtain rfl := Option.some.inj (hn.symm.trans h1)
  obtain rfl := Option.some.inj (hy.symm.trans h2)
  unfold isIface at ht
  cases hq : P.underlying t with
  | none => rw [hq] at ht; cases ht
  | some d =>
    rw [hq] at ht
    cases d <;> simp at ht
    cases fuel with
    | zero => simp [DataW.trod] at h4
    | succ fuel =>
      obtain ⟨l⟩ := cs
      match l, h3, h4 with
      | [], _, h4 => simp [DataW.trod, hq] at h4
      | [v], h3, h4 =>
        cases v with
        | iface a b => exact ⟨a, b, h3⟩
        | _ => simp [DataW.trod, hq] at h4
      | _ :: _ :: _, _, h4 => simp [DataW.trod, hq] at h4
theorem gPow : Tryz.prog.globalNamed "internal/strconv.uint64pow10" = some 5 := by kernel_rfl
theorem gSyn : Tryz.prog.globalNamed "strconv.ErrSyntax" = some 3 := by kernel_rfl
theorem gRng : Tryz.prog.globalNamed "strconv.ErrRange" = some 4 := by kernel_rfl
theorem tPow : (Tryz.prog.globals[5]?).map (·.type) = some 200 := by kernel_rfl
theorem tSyn : (Tryz.prog.globals[3]?).map (·.type) = some 156 := by kernel_rfl
theorem tRng : (Tryz.prog.globals[4]?).map (·.type) = some 156 := by kernel_rfl
theorem cPow : Tryz.prog.cellsOf 200 = 20 := by kernel_rfl
theorem cU64 : Tryz.prog.cellsOf 153 = 1 := by kernel_rfl
theorem wireG_of {W : World} {l : List (String × DataW Unit)} (h : laidMet Tryz.prog l W) (h1 : ("internal/strconv.uint64pow10", Rows.laid_internal_strconv_uint64pow10) ∈ l) (h2 : ("strconv.ErrSyntax", Rows.laid_strconv_ErrSyntax) ∈ l) (h3 : ("strconv.ErrRange", Rows.laid_strconv_ErrRange) ∈ l) : WireG W where
  tab := by
    obtain ⟨g', t', cs, fuel, p, e1, e2, e3, e4⟩ := Lib.laidMet.reads h h1
    obtain rfl := Option.some.inj (gPow.symm.trans e1)
    obtain rfl := Option.some.inj (tPow.symm.trans e2)
    unfold Lib.TabIs
    rw [e3]
    have e5 := Lib.cells_of_tab (zs := Lib.pow10Tab) (k := .u64) Tryz.underlying200 Tryz.underlying153 cU64 cPow (by exact e4)
    rw [← e5]
  syn := var_iface gSyn tSyn (by kernel_rfl) (Lib.laidMet.reads h h2)
  rng := var_iface gRng tRng (by kernel_rfl) (Lib.laidMet.reads h h3)
instance : Inhabited AcD := ⟨⟨0, [], [], [], [], [], zI⟩⟩
theorem nwf_in {n : Int} (h : (Lit.int .i64 n).wf = true) : inI n := by
  simp [Lit.wf, IntKind.min, IntKind.max, IntKind.signed, IntKind.bits] at h
  unfold inI; omega
def nintC : Cod Tryz.prog 3 Int := Cod.int .i64 Tryz.underlying3 (by kernel_rfl)
def nstrC : Cod Tryz.prog 9 ByteArray := Cod.string Tryz.underlying9 (by kernel_rfl)
def ninC : Cod Tryz.prog 35 (Int × Int × Int × Unit) :=
  Cod.struct (P := Tryz.prog) Tryz.underlying35 (Flds.cons nintC rfl (Flds.cons nintC rfl (Flds.cons nintC rfl (Flds.nil _)))) (by kernel_rfl)
def actCod : Cod Tryz.prog 37 (Int × ByteArray × ByteArray × ByteArray × ByteArray × ByteArray × (Int × Int × Int × Unit) × Unit) :=
  Cod.struct (P := Tryz.prog) Tryz.underlying37 (Flds.cons nintC rfl (Flds.cons nstrC rfl (Flds.cons nstrC rfl (Flds.cons nstrC rfl (Flds.cons nstrC rfl (Flds.cons nstrC rfl (Flds.cons ninC rfl (Flds.nil _)))))))) (by kernel_rfl)
def acOf (y : (Int × ByteArray × ByteArray × ByteArray × ByteArray × ByteArray × (Int × Int × Int × Unit) × Unit)) : AcD := ⟨y.1, y.2.1.data.toList, y.2.2.1.data.toList, y.2.2.2.1.data.toList, y.2.2.2.2.1.data.toList, y.2.2.2.2.2.1.data.toList, ⟨y.2.2.2.2.2.2.1.1, y.2.2.2.2.2.2.1.2.1, y.2.2.2.2.2.2.1.2.2.1⟩⟩
theorem act_of {W : World} {cs : List Value} {y : (Int × ByteArray × ByteArray × ByteArray × ByteArray × ByteArray × (Int × Int × Int × Unit) × Unit)} (h : actCod.rd W cs y) : InB (acOf y).n ∧ cs = acV (acOf y) := by
  obtain ⟨c1, cs1, rfl, ⟨rfl, _⟩, c2, cs2, rfl, ⟨rfl, _⟩, c3, cs3, rfl, ⟨rfl, _⟩, c4, cs4, rfl, ⟨rfl, _⟩, c5, cs5, rfl, ⟨rfl, _⟩, c6, cs6, rfl, ⟨rfl, _⟩, c7, cs7, rfl, ⟨k1, ks1, rfl, ⟨rfl, g1⟩, k2, ks2, rfl, ⟨rfl, g2⟩, k3, ks3, rfl, ⟨rfl, g3⟩, rfl⟩, rfl⟩ := h
  exact ⟨⟨nwf_in g1, nwf_in g2, nwf_in g3⟩, by simp [acV, acOf]⟩
theorem acts_of {W : World} {v : Value} {l : List (Int × ByteArray × ByteArray × ByteArray × ByteArray × ByteArray × (Int × Int × Int × Unit) × Unit)} (h : SliceRd actCod.rd actCod.size W v l) : ∃ l' : List AcD, (∀ (i : Nat) (x : AcD), l'[i]? = some x → InB x.n) ∧ ∀ w, Below W.heap.size W w → RdL acC v l' w := by
  obtain ⟨ao, cap, h1, h2, h3, h4⟩ := h
  have hex : ∀ i, i < l.length → ∃ a : AcD, InB a.n ∧ ∀ w, Below W.heap.size W w → ∃ b off, ao = some ⟨b, off, none⟩ ∧ ∀ (j : Nat) (u : Value), (acV a)[j]? = some u → w.cell? ⟨b, off + i * 9 + j, none⟩ = some u := by
    intro i hi
    obtain ⟨b, off, cs, e1, e2, e3, e4⟩ := h4 i l[i] (List.getElem?_eq_getElem hi)
    obtain ⟨g, e5⟩ := act_of e4
    refine ⟨acOf l[i], g, fun w hb => ⟨b, off, e1, fun j u hu => ?_⟩⟩
    exact (hb.cell (p := ⟨b, off + i * 9 + j, none⟩) e2).trans (e3 j u (by rw [e5]; exact hu))
  obtain ⟨f, hf⟩ := Go.Deep.choose_lt (n := l.length) hex
  refine ⟨(List.range l.length).map f, fun i x hx => ?_, fun w hb => ⟨ao, cap, by simpa using h1, by simp; omega, fun i a hi => ?_⟩⟩
  · have hil : i < l.length := by have := (List.getElem?_eq_some_iff.1 hx).1; simpa using this
    simp [hil] at hx
    subst hx
    exact (hf i hil).1
  · have hil : i < l.length := by have := (List.getElem?_eq_some_iff.1 hi).1; simpa using this
    simp [hil] at hi
    subst hi
    exact (hf i hil).2 w hb
theorem nbelow_of {W w : World} (h : Sat w [frameT W]) : Below W.heap.size W w := h.below 0 rfl
theorem ent_wire {W : World} (h : WireG W) : Ent (frameT W) WireG := Ent.frame fun w hb => h.below hb
def pcCod : Cod Tryz.prog 55 (ByteArray × ByteArray × Unit) :=
  Cod.struct (P := Tryz.prog) Tryz.underlying55 (Flds.cons nstrC rfl (Flds.cons nstrC rfl (Flds.nil _))) (by kernel_rfl)
theorem pc_of {W : World} {cs : List Value} {y : (ByteArray × ByteArray × Unit)} (h : pcCod.rd W cs y) : cs = pcC.enc (y.1.data.toList, y.2.1.data.toList) := by
  obtain ⟨c1, cs1, rfl, ⟨rfl, _⟩, c2, cs2, rfl, ⟨rfl, _⟩, rfl⟩ := h
  simp [pcC]
instance : Inhabited (Bs × Bs) := ⟨([], [])⟩
theorem pairs_of {W : World} {v : Value} {l : List (ByteArray × ByteArray × Unit)} (h : SliceRd pcCod.rd pcCod.size W v l) : ∃ l' : List (Bs × Bs), ∀ w, Below W.heap.size W w → RdL pcC v l' w := by
  obtain ⟨ao, cap, h1, h2, h3, h4⟩ := h
  have hex : ∀ i, i < l.length → ∃ a : Bs × Bs, ∀ w, Below W.heap.size W w → ∃ b off, ao = some ⟨b, off, none⟩ ∧ ∀ (j : Nat) (u : Value), (pcC.enc a)[j]? = some u → w.cell? ⟨b, off + i * 2 + j, none⟩ = some u := by
    intro i hi
    obtain ⟨b, off, cs, e1, e2, e3, e4⟩ := h4 i l[i] (List.getElem?_eq_getElem hi)
    have e5 := pc_of e4
    refine ⟨(l[i].1.data.toList, l[i].2.1.data.toList), fun w hb => ⟨b, off, e1, fun j u hu => ?_⟩⟩
    exact (hb.cell (p := ⟨b, off + i * 2 + j, none⟩) e2).trans (e3 j u (by rw [e5]; exact hu))
  obtain ⟨f, hf⟩ := Go.Deep.choose_lt (n := l.length) hex
  refine ⟨(List.range l.length).map f, fun w hb => ⟨ao, cap, by simpa using h1, by simp; omega, fun i a hi => ?_⟩⟩
  have hil : i < l.length := by have := (List.getElem?_eq_some_iff.1 hi).1; simpa using this
  simp [hil] at hi
  subst hi
  exact hf i hil w hb
theorem tells_row {W : World} {v0 v1 : Value} {l0 : List (ByteArray × ByteArray × Unit)} {l1 : List (Int × ByteArray × ByteArray × ByteArray × ByteArray × ByteArray × (Int × Int × Int × Unit) × Unit)} {c p : ByteArray} (hG : WireG W) (h0 : SliceRd pcCod.rd pcCod.size W v0 l0) (h1 : SliceRd actCod.rd actCod.size W v1 l1) (_ : c.size ≤ 9223372036854775807) (_ : p.size ≤ 9223372036854775807) :
    Calls Tryz.prog 5 #[v0, v1, .string c, .string p] W fun e W' => e = .returned (.bool true) ∧ Below W.heap.size W W' := by
  obtain ⟨a0, h0⟩ := pairs_of h0
  obtain ⟨a1, g1, h1⟩ := acts_of h1
  exact (tells_law (Sat.start W) (ent_wire hG) (Ent.frame h0) (Ent.frame h1) c.data.toList p.data.toList g1).mono fun e W' ⟨v, h4, h5, h6⟩ => ⟨by rw [h4, h5], nbelow_of h6⟩
end Go.Proofs.YtkaikhcpcbjkcaaGreatDoor
