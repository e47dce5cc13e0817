/- laws of tty: how the arguments read -/
import Derived.Test.YtdkfppcafpjomaaDoorTj
import Derived.Test.YtdkfppcafpjomaaDoorRd
import Derived.Lib.LaidU8
import Derived.Test.YtdkfppcafpjomaaDoorRows
namespace Go.Proofs.YtdkfppcafpjomaaDoor
open Go.RowKit M
set_option linter.unusedVariables false
theorem var_iface {P : Program} {w : World} {name : String} {g t : Nat} (hn : P.globalNamed name = some g) (hy : (P.globals[g]?).map (·.type) = some t) (ht : isIface P t = true) {nm : String} {x : DataW Unit} (h : Lib.VarReads P w name (.iface nm x)) : ∃ tp p, w.var? P name = some #[.iface tp p] := by
  obtain ⟨g', t', cs, fuel, p, h1, h2, h3, h4⟩ := h
  obtain rfl := Option.some.inj (hn.symm.trans h1)
  obtain rfl := Option.some.inj (hy.symm.trans h2)
  unfold isIface at ht
  cases hq : P.underlying t with
  | none => rw [hq] at ht; cases ht
  | some d =>
    rw [hq] at ht
    cases d <;> simp at ht
    cases fuel with
    | zero => simp [DataW.trod] at h4
    | succ fuel =>
      obtain ⟨l⟩ := cs
      match l, h3, h4 with
      | [], _, h4 => simp [DataW.trod, hq] at h4
      | [v], h3, h4 =>
        cases v with
        | iface a b => exact ⟨a, b, h3⟩
        | _ => simp [DataW.trod, hq] at h4
      | _ :: _ :: _, _, h4 => simp [DataW.trod, hq] at h4
theorem gPow : Tryd.prog.globalNamed "internal/strconv.uint64pow10" = some 3 := by kernel_rfl
theorem gSyn : Tryd.prog.globalNamed "strconv.ErrSyntax" = some 1 := by kernel_rfl
theorem gRng : Tryd.prog.globalNamed "strconv.ErrRange" = some 2 := by kernel_rfl
theorem tPow : (Tryd.prog.globals[3]?).map (·.type) = some 117 := by kernel_rfl
theorem tSyn : (Tryd.prog.globals[1]?).map (·.type) = some 77 := by kernel_rfl
theorem tRng : (Tryd.prog.globals[2]?).map (·.type) = some 77 := by kernel_rfl
theorem cPow : Tryd.prog.cellsOf 117 = 20 := by kernel_rfl
theorem cU64 : Tryd.prog.cellsOf 104 = 1 := by kernel_rfl
theorem wireG_of {W : World} {l : List (String × DataW Unit)} (h : laidMet Tryd.prog l W) (h1 : ("internal/strconv.uint64pow10", Rows.laid_internal_strconv_uint64pow10) ∈ l) (h2 : ("strconv.ErrSyntax", Rows.laid_strconv_ErrSyntax) ∈ l) (h3 : ("strconv.ErrRange", Rows.laid_strconv_ErrRange) ∈ l) : WireG W where
  tab := by
    obtain ⟨g', t', cs, fuel, p, e1, e2, e3, e4⟩ := Lib.laidMet.reads h h1
    obtain rfl := Option.some.inj (gPow.symm.trans e1)
    obtain rfl := Option.some.inj (tPow.symm.trans e2)
    unfold Lib.TabIs
    rw [e3]
    have e5 := Lib.cells_of_tab (zs := Lib.pow10Tab) (k := .u64) Tryd.underlying117 Tryd.underlying104 cU64 cPow (by exact e4)
    rw [← e5]
  syn := var_iface gSyn tSyn (by kernel_rfl) (Lib.laidMet.reads h h2)
  rng := var_iface gRng tRng (by kernel_rfl) (Lib.laidMet.reads h h3)
def tintC : Cod Tryd.prog 3 Int := Cod.int .i64 Tryd.underlying3 (by kernel_rfl)
def tstrC : Cod Tryd.prog 9 ByteArray := Cod.string Tryd.underlying9 (by kernel_rfl)
def itCod : Cod Tryd.prog 29 (Int × Int × ByteArray × Unit) :=
  Cod.struct (P := Tryd.prog) Tryd.underlying29 (Flds.cons tintC rfl (Flds.cons tintC rfl (Flds.cons tstrC rfl (Flds.nil _)))) (by kernel_rfl)
theorem items_of {W : World} {v : Value} {l : List (Int × Int × ByteArray × Unit)} (h : SliceRd itCod.rd itCod.size W v l) : ∃ l' : List ItemD, ∀ w, Below W.heap.size W w → RdL itC v l' w := by
  obtain ⟨ao, cap, h1, h2, h3, h4⟩ := h
  have hex : ∀ i, i < l.length → ∃ a : ItemD, ∀ w, Below W.heap.size W w → ∃ b off, ao = some ⟨b, off, none⟩ ∧ ∀ (j : Nat) (u : Value), (itV a)[j]? = some u → w.cell? ⟨b, off + i * 3 + j, none⟩ = some u := by
    intro i hi
    obtain ⟨b, off, cs, e1, e2, e3, e4⟩ := h4 i l[i] (List.getElem?_eq_getElem hi)
    obtain ⟨c1, cs1, rfl, ⟨rfl, _⟩, c2, cs2, rfl, ⟨rfl, _⟩, c3, cs3, rfl, ⟨rfl, _⟩, rfl⟩ := e4
    refine ⟨⟨l[i].1, l[i].2.1, l[i].2.2.1.data.toList⟩, fun w hb => ⟨b, off, e1, fun j u hu => ?_⟩⟩
    refine (hb.cell (p := ⟨b, off + i * 3 + j, none⟩) e2).trans (e3 j u ?_)
    simpa [itV] using hu
  obtain ⟨f, hf⟩ := Go.Deep.choose_lt (n := l.length) hex
  refine ⟨(List.range l.length).map f, fun w hb => ⟨ao, cap, by simpa using h1, by simp; omega, fun i a hi => ?_⟩⟩
  have hil : i < l.length := by have := (List.getElem?_eq_some_iff.1 hi).1; simpa using this
  simp [hil] at hi
  subst hi
  exact hf i hil w hb
theorem tbelow_of {W w : World} (h : Sat w [frameT W]) : Below W.heap.size W w := h.below 0 rfl
theorem ent_wire {W : World} (h : WireG W) : Ent (frameT W) WireG := Ent.frame fun w hb => h.below hb
instance : Inhabited OpT := ⟨⟨0, 0, 0, [], [], .nilFunc⟩⟩
def opCod : Cod Tryd.prog 41 (Int × Int × Int × ByteArray × List (Int × Int × ByteArray × Unit) × Unit) :=
  Cod.struct (P := Tryd.prog) Tryd.underlying41 (Flds.cons tintC rfl (Flds.cons tintC rfl (Flds.cons tintC rfl (Flds.cons tstrC rfl (Flds.cons (Cod.slice Tryd.underlying22 (by kernel_rfl) itCod (by decide)) rfl (Flds.nil _)))))) (by kernel_rfl)
theorem tops_of {W : World} {v : Value} {l : List (Int × Int × Int × ByteArray × List (Int × Int × ByteArray × Unit) × Unit)} (h : SliceRd opCod.rd opCod.size W v l) : ∃ l' : List OpT, ∀ w, Below W.heap.size W w → OtRd v l' w := by
  obtain ⟨ao, cap, h1, h2, h3, h4⟩ := h
  have hex : ∀ i, i < l.length → ∃ a : OpT, ∀ w, Below W.heap.size W w → (∃ b off, ao = some ⟨b, off, none⟩ ∧ ∀ (j : Nat) (u : Value), (otV a)[j]? = some u → w.cell? ⟨b, off + i * 5 + j, none⟩ = some u) ∧ (RdL itC a.lv a.l w ∧ inI a.n) := by
    intro i hi
    obtain ⟨b, off, cs, e1, e2, e3, e4⟩ := h4 i l[i] (List.getElem?_eq_getElem hi)
    obtain ⟨c1, cs1, rfl, ⟨rfl, _⟩, c2, cs2, rfl, ⟨rfl, _⟩, c3, cs3, rfl, ⟨rfl, hn⟩, c4, cs4, rfl, ⟨rfl, _⟩, c5, cs5, rfl, ⟨kv, rfl, hk⟩, rfl⟩ := e4
    obtain ⟨il, hil⟩ := items_of hk
    refine ⟨⟨l[i].1, l[i].2.1, l[i].2.2.1, l[i].2.2.2.1.data.toList, il, kv⟩, fun w hb => ⟨⟨b, off, e1, fun j u hu => ?_⟩, hil w hb, ?_⟩⟩
    · refine (hb.cell (p := ⟨b, off + i * 5 + j, none⟩) e2).trans (e3 j u ?_)
      simpa [otV] using hu
    · have := hn
      simp [Lit.wf, IntKind.min, IntKind.max, IntKind.signed, IntKind.bits] at this
      show inI l[i].2.2.1
      unfold inI; omega
  obtain ⟨f, hf⟩ := Go.Deep.choose_lt (n := l.length) hex
  refine ⟨(List.range l.length).map f, fun w hb => ⟨ao, cap, by simpa using h1, by simp; omega, fun i a hi => ?_⟩⟩
  have hil : i < l.length := by have := (List.getElem?_eq_some_iff.1 hi).1; simpa using this
  simp [hil] at hi
  subst hi
  exact hf i hil w hb
theorem controls_row {W : World} (hG : WireG W) {v0 : Value} {l0 : List (Int × Int × ByteArray × Unit)} (h0 : SliceRd itCod.rd itCod.size W v0 l0) {v1 : Value} {l1 : List (Int × Int × Int × ByteArray × List (Int × Int × ByteArray × Unit) × Unit)} (h1 : SliceRd opCod.rd opCod.size W v1 l1) :
    Calls Tryd.prog 6 #[v0, v1] W fun e W' => e = .returned (.bool true) ∧ Below W.heap.size W W' := by
  obtain ⟨a0, h0⟩ := items_of h0
  obtain ⟨a1, h1⟩ := tops_of h1
  exact (controls_law (Sat.start W) (ent_wire hG) (Ent.frame h0) (Ent.frame h1)).mono fun e W' ⟨v, h4, h5, h6⟩ => ⟨by rw [h4, h5], tbelow_of h6⟩
end Go.Proofs.YtdkfppcafpjomaaDoor
