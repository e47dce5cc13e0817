/- laws of account: how the arguments of AccountCosts read -/
import Derived.Test.YtieelilkkpcmdaaDoorAu
import Derived.Test.YtieelilkkpcmdaaDoorRd
import Derived.Lib.LaidU8
import Derived.Test.YtieelilkkpcmdaaDoorRows
namespace Go.Proofs.YtieelilkkpcmdaaDoor
open Go.RowKit M
set_option linter.unusedVariables false
theorem var_iface {P : Program} {w : World} {name : String} {g t : Nat} (hn : P.globalNamed name = some g) (hy : (P.globals[g]?).map (·.type) = some t) (ht : isIface P t = true) {nm : String} {x : DataW Unit} (h : Lib.VarReads P w name (.iface nm x)) : ∃ tp p, w.var? P name = some #[.iface tp p] := by
  obtain ⟨g', t', cs, fuel, p, h1, h2, h3, h4⟩ := h
  obtain rfl := Option.some.inj (hn.symm.trans h1)
  obtain rfl := Option.some.inj (hy.symm.trans h2)
  unfold isIface at ht
  cases hq : P.underlying t with
  | none => rw [hq] at ht; cases ht
  | some d =>
    rw [hq] at ht
    cases d <;> simp at ht
    cases fuel with
    | zero => simp [DataW.trod] at h4
    | succ fuel =>
      obtain ⟨l⟩ := cs
      match l, h3, h4 with
      | [], _, h4 => simp [DataW.trod, hq] at h4
      | [v], h3, h4 =>
        cases v with
        | iface a b => exact ⟨a, b, h3⟩
        | _ => simp [DataW.trod, hq] at h4
      | _ :: _ :: _, _, h4 => simp [DataW.trod, hq] at h4
theorem gPow : Tryd.prog.globalNamed "internal/strconv.uint64pow10" = some 5 := by kernel_rfl
theorem gSyn : Tryd.prog.globalNamed "strconv.ErrSyntax" = some 3 := by kernel_rfl
theorem gRng : Tryd.prog.globalNamed "strconv.ErrRange" = some 4 := by kernel_rfl
theorem tPow : (Tryd.prog.globals[5]?).map (·.type) = some 184 := by kernel_rfl
theorem tSyn : (Tryd.prog.globals[3]?).map (·.type) = some 84 := by kernel_rfl
theorem tRng : (Tryd.prog.globals[4]?).map (·.type) = some 84 := by kernel_rfl
theorem cPow : Tryd.prog.cellsOf 184 = 20 := by kernel_rfl
theorem cU64 : Tryd.prog.cellsOf 145 = 1 := by kernel_rfl
theorem wireG_of {W : World} {l : List (String × DataW Unit)} (h : laidMet Tryd.prog l W) (h1 : ("internal/strconv.uint64pow10", Rows.laid_internal_strconv_uint64pow10) ∈ l) (h2 : ("strconv.ErrSyntax", Rows.laid_strconv_ErrSyntax) ∈ l) (h3 : ("strconv.ErrRange", Rows.laid_strconv_ErrRange) ∈ l) : WireG W where
  tab := by
    obtain ⟨g', t', cs, fuel, p, e1, e2, e3, e4⟩ := Lib.laidMet.reads h h1
    obtain rfl := Option.some.inj (gPow.symm.trans e1)
    obtain rfl := Option.some.inj (tPow.symm.trans e2)
    unfold Lib.TabIs
    rw [e3]
    have e5 := Lib.cells_of_tab (zs := Lib.pow10Tab) (k := .u64) Tryd.underlying184 Tryd.underlying145 cU64 cPow (by exact e4)
    rw [← e5]
  syn := var_iface gSyn tSyn (by kernel_rfl) (Lib.laidMet.reads h h2)
  rng := var_iface gRng tRng (by kernel_rfl) (Lib.laidMet.reads h h3)
instance : Inhabited ArD := ⟨arZ⟩
def bintC : Cod Tryd.prog 3 Int := Cod.int .i64 Tryd.underlying3 (by kernel_rfl)
def bstrC : Cod Tryd.prog 9 ByteArray := Cod.string Tryd.underlying9 (by kernel_rfl)
def bboolC : Cod Tryd.prog 4 Bool := Cod.bool Tryd.underlying4 (by kernel_rfl)
def arCod : Cod Tryd.prog 55 (Int × Int × ByteArray × Int × Bool × Bool × Unit) :=
  Cod.struct (P := Tryd.prog) Tryd.underlying55 (Flds.cons bintC rfl (Flds.cons bintC rfl (Flds.cons bstrC rfl (Flds.cons bintC rfl (Flds.cons bboolC rfl (Flds.cons bboolC rfl (Flds.nil _))))))) (by kernel_rfl)
theorem ars_of {W : World} {v : Value} {l : List (Int × Int × ByteArray × Int × Bool × Bool × Unit)} (h : SliceRd arCod.rd arCod.size W v l) : ∃ l' : List ArD, ∀ w, Below W.heap.size W w → RdL arC v l' w := by
  obtain ⟨ao, cap, h1, h2, h3, h4⟩ := h
  have hex : ∀ i, i < l.length → ∃ a : ArD, ∀ w, Below W.heap.size W w → ∃ b off, ao = some ⟨b, off, none⟩ ∧ ∀ (j : Nat) (u : Value), (arV a)[j]? = some u → w.cell? ⟨b, off + i * 6 + j, none⟩ = some u := by
    intro i hi
    obtain ⟨b, off, cs, e1, e2, e3, e4⟩ := h4 i l[i] (List.getElem?_eq_getElem hi)
    obtain ⟨c1, cs1, rfl, ⟨rfl, _⟩, c2, cs2, rfl, ⟨rfl, _⟩, c3, cs3, rfl, ⟨rfl, _⟩, c4, cs4, rfl, ⟨rfl, _⟩, c5, cs5, rfl, rfl, c6, cs6, rfl, rfl, rfl⟩ := e4
    refine ⟨⟨l[i].1, l[i].2.1, l[i].2.2.1.data.toList, l[i].2.2.2.1, l[i].2.2.2.2.1, l[i].2.2.2.2.2.1⟩, fun w hb => ⟨b, off, e1, fun j u hu => ?_⟩⟩
    refine (hb.cell (p := ⟨b, off + i * 6 + j, none⟩) e2).trans (e3 j u ?_)
    simpa [arV] using hu
  obtain ⟨f, hf⟩ := Go.Deep.choose_lt (n := l.length) hex
  refine ⟨(List.range l.length).map f, fun w hb => ⟨ao, cap, by simpa using h1, by simp; omega, fun i a hi => ?_⟩⟩
  have hil : i < l.length := by have := (List.getElem?_eq_some_iff.1 hi).1; simpa using this
  simp [hil] at hi
  subst hi
  exact hf i hil w hb
theorem abelow_of {W w : World} (h : Sat w [frameT W]) : Below W.heap.size W w := h.below 0 rfl
theorem ent_wire {W : World} (h : WireG W) : Ent (frameT W) WireG := Ent.frame fun w hb => h.below hb
theorem costs_row {W : World} {v0 : Value} {l0 : List (Int × Int × ByteArray × Int × Bool × Bool × Unit)} {p n c : Int} (hG : WireG W) (h0 : SliceRd arCod.rd arCod.size W v0 l0) :
    Calls Tryd.prog 7 #[v0, intV p, intV n, intV c] W fun e W' => e = .returned (.bool true) ∧ Below W.heap.size W W' := by
  obtain ⟨a0, h0⟩ := ars_of h0
  exact (costs_law (Sat.start W) (ent_wire hG) (Ent.frame h0) p n c).mono fun e W' ⟨v, h4, h5, h6⟩ => ⟨by rw [h4, h5], abelow_of h6⟩
end Go.Proofs.YtieelilkkpcmdaaDoor
