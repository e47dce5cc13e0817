/- laws of tty: how the arguments read -/
import Derived.Test.YtdkfppcafpjomaaGreatDoorRt3
import Derived.Test.YtdkfppcafpjomaaGreatDoorRd
import Derived.Lib.LaidU8
import Derived.Test.YtdkfppcafpjomaaGreatDoorRows
namespace Go.Proofs.YtdkfppcafpjomaaGreatDoor
open Go.RowKit M
set_option linter.unusedVariables false
theorem var_iface {P : Program} {w : World} {name : String} {g t : Nat} (hn : P.globalNamed name = some g) (hy : (P.globals[g]?).map (·.type) = some t) (ht : isIface P t = true) {nm : String} {x : DataW Unit} (h : Lib.VarReads P w name (.iface nm x)) : ∃ tp p, w.var? P name = some #[.iface tp p] := by
  obtain ⟨g', t', cs, fuel, p, h1, h2, h3, h4⟩ := h
  obtain rfl := Option.some.inj (hn.symm.trans h1)
  obtain rfl := Option.some.inj (hy.symm.trans h2)
  unfold isIface at ht
  cases hq : P.underlying t with
  | none => rw [hq] at ht; cases ht
  | some d =>
    rw [hq] at ht
    cases d <;> simp at ht
    cases fuel with
    | zero => simp [DataW.trod] at h4
    | succ fuel =>
      obtain ⟨l⟩ := cs
      match l, h3, h4 with
      | [], _, h4 => simp [DataW.trod, hq] at h4
      | [v], h3, h4 =>
        cases v with
        | iface a b => exact ⟨a, b, h3⟩
        | _ => simp [DataW.trod, hq] at h4
      | _ :: _ :: _, _, h4 => simp [DataW.trod, hq] at h4
theorem gPow : Tryz.prog.globalNamed "internal/strconv.uint64pow10" = some 3 := by kernel_rfl
theorem gSyn : Tryz.prog.globalNamed "strconv.ErrSyntax" = some 1 := by kernel_rfl
theorem gRng : Tryz.prog.globalNamed "strconv.ErrRange" = some 2 := by kernel_rfl
theorem tPow : (Tryz.prog.globals[3]?).map (·.type) = some 158 := by kernel_rfl
theorem tSyn : (Tryz.prog.globals[1]?).map (·.type) = some 98 := by kernel_rfl
theorem tRng : (Tryz.prog.globals[2]?).map (·.type) = some 98 := by kernel_rfl
theorem cPow : Tryz.prog.cellsOf 158 = 20 := by kernel_rfl
theorem cU64 : Tryz.prog.cellsOf 125 = 1 := by kernel_rfl
theorem wireG_of {W : World} {l : List (String × DataW Unit)} (h : laidMet Tryz.prog l W) (h1 : ("internal/strconv.uint64pow10", Rows.laid_internal_strconv_uint64pow10) ∈ l) (h2 : ("strconv.ErrSyntax", Rows.laid_strconv_ErrSyntax) ∈ l) (h3 : ("strconv.ErrRange", Rows.laid_strconv_ErrRange) ∈ l) : WireG W where
  tab := by
    obtain ⟨g', t', cs, fuel, p, e1, e2, e3, e4⟩ := Lib.laidMet.reads h h1
    obtain rfl := Option.some.inj (gPow.symm.trans e1)
    obtain rfl := Option.some.inj (tPow.symm.trans e2)
    unfold Lib.TabIs
    rw [e3]
    have e5 := Lib.cells_of_tab (zs := Lib.pow10Tab) (k := .u64) Tryz.underlying158 Tryz.underlying125 cU64 cPow (by exact e4)
    rw [← e5]
  syn := var_iface gSyn tSyn (by kernel_rfl) (Lib.laidMet.reads h h2)
  rng := var_iface gRng tRng (by kernel_rfl) (Lib.laidMet.reads h h3)
def tintC : Cod Tryz.prog 3 Int := Cod.int .i64 Tryz.underlying3 (by kernel_rfl)
def tstrC : Cod Tryz.prog 9 ByteArray := Cod.string Tryz.underlying9 (by kernel_rfl)
def itCod : Cod Tryz.prog 49 (Int × Int × ByteArray × Unit) :=
  Cod.struct (P := Tryz.prog) Tryz.underlying49 (Flds.cons tintC rfl (Flds.cons tintC rfl (Flds.cons tstrC rfl (Flds.nil _)))) (by kernel_rfl)
theorem items_of {W : World} {v : Value} {l : List (Int × Int × ByteArray × Unit)} (h : SliceRd itCod.rd itCod.size W v l) : ∃ l' : List ItemD, ∀ w, Below W.heap.size W w → RdL itC v l' w := by
  obtain ⟨ao, cap, h1, h2, h3, h4⟩ := h
  have hex : ∀ i, i < l.length → ∃ a : ItemD, ∀ w, Below W.heap.size W w → ∃ b off, ao = some ⟨b, off, none⟩ ∧ ∀ (j : Nat) (u : Value), (itV a)[j]? = some u → w.cell? ⟨b, off + i * 3 + j, none⟩ = some u := by
    intro i hi
    obtain ⟨b, off, cs, e1, e2, e3, e4⟩ := h4 i l[i] (List.getElem?_eq_getElem hi)
    obtain ⟨c1, cs1, rfl, ⟨rfl, _⟩, c2, cs2, rfl, ⟨rfl, _⟩, c3, cs3, rfl, ⟨rfl, _⟩, rfl⟩ := e4
    refine ⟨⟨l[i].1, l[i].2.1, l[i].2.2.1.data.toList⟩, fun w hb => ⟨b, off, e1, fun j u hu => ?_⟩⟩
    refine (hb.cell (p := ⟨b, off + i * 3 + j, none⟩) e2).trans (e3 j u ?_)
    simpa [itV] using hu
  obtain ⟨f, hf⟩ := Go.Deep.choose_lt (n := l.length) hex
  refine ⟨(List.range l.length).map f, fun w hb => ⟨ao, cap, by simpa using h1, by simp; omega, fun i a hi => ?_⟩⟩
  have hil : i < l.length := by have := (List.getElem?_eq_some_iff.1 hi).1; simpa using this
  simp [hil] at hi
  subst hi
  exact hf i hil w hb
theorem tbelow_of {W w : World} (h : Sat w [frameT W]) : Below W.heap.size W w := h.below 0 rfl
theorem ent_wire {W : World} (h : WireG W) : Ent (frameT W) WireG := Ent.frame fun w hb => h.below hb
instance : Inhabited OpT := ⟨⟨0, 0, 0, [], [], .nilFunc⟩⟩
def opCod : Cod Tryz.prog 36 (Int × Int × Int × ByteArray × List (Int × Int × ByteArray × Unit) × Unit) :=
  Cod.struct (P := Tryz.prog) Tryz.underlying36 (Flds.cons tintC rfl (Flds.cons tintC rfl (Flds.cons tintC rfl (Flds.cons tstrC rfl (Flds.cons (Cod.slice Tryz.underlying34 (by kernel_rfl) itCod (by decide)) rfl (Flds.nil _)))))) (by kernel_rfl)
theorem tops_of {W : World} {v : Value} {l : List (Int × Int × Int × ByteArray × List (Int × Int × ByteArray × Unit) × Unit)} (h : SliceRd opCod.rd opCod.size W v l) : ∃ l' : List OpT, ∀ w, Below W.heap.size W w → OtRd v l' w := by
  obtain ⟨ao, cap, h1, h2, h3, h4⟩ := h
  have hex : ∀ i, i < l.length → ∃ a : OpT, ∀ w, Below W.heap.size W w → (∃ b off, ao = some ⟨b, off, none⟩ ∧ ∀ (j : Nat) (u : Value), (otV a)[j]? = some u → w.cell? ⟨b, off + i * 5 + j, none⟩ = some u) ∧ (RdL itC a.lv a.l w ∧ inI a.n) := by
    intro i hi
    obtain ⟨b, off, cs, e1, e2, e3, e4⟩ := h4 i l[i] (List.getElem?_eq_getElem hi)
    obtain ⟨c1, cs1, rfl, ⟨rfl, _⟩, c2, cs2, rfl, ⟨rfl, _⟩, c3, cs3, rfl, ⟨rfl, hn⟩, c4, cs4, rfl, ⟨rfl, _⟩, c5, cs5, rfl, ⟨kv, rfl, hk⟩, rfl⟩ := e4
    obtain ⟨il, hil⟩ := items_of hk
    refine ⟨⟨l[i].1, l[i].2.1, l[i].2.2.1, l[i].2.2.2.1.data.toList, il, kv⟩, fun w hb => ⟨⟨b, off, e1, fun j u hu => ?_⟩, hil w hb, ?_⟩⟩
    · refine (hb.cell (p := ⟨b, off + i * 5 + j, none⟩) e2).trans (e3 j u ?_)
      simpa [otV] using hu
    · have := hn
      simp [Lit.wf, IntKind.min, IntKind.max, IntKind.signed, IntKind.bits] at this
      show inI l[i].2.2.1
      unfold inI; omega
  obtain ⟨f, hf⟩ := Go.Deep.choose_lt (n := l.length) hex
  refine ⟨(List.range l.length).map f, fun w hb => ⟨ao, cap, by simpa using h1, by simp; omega, fun i a hi => ?_⟩⟩
  have hil : i < l.length := by have := (List.getElem?_eq_some_iff.1 hi).1; simpa using this
  simp [hil] at hi
  subst hi
  exact hf i hil w hb
theorem ttell_row {W : World} (hG : WireG W) {v0 : Value} {l0 : List (Int × Int × Int × ByteArray × List (Int × Int × ByteArray × Unit) × Unit)} (h0 : SliceRd opCod.rd opCod.size W v0 l0) :
    Calls Tryz.prog 3 #[v0] W fun e W' => e = .returned (.bool true) ∧ Below W.heap.size W W' := by
  obtain ⟨a0, h0⟩ := tops_of h0
  exact (ttell_law (Sat.start W) (ent_wire hG) (Ent.frame h0)).mono fun e W' ⟨v, h4, h5, h6⟩ => ⟨by rw [h4, h5], tbelow_of h6⟩
end Go.Proofs.YtdkfppcafpjomaaGreatDoor
