/- laws of world: how the arguments read -/
import Derived.Test.YtieelilkkpcmdaaDoorWpg
import Derived.Test.YtieelilkkpcmdaaDoorRd
namespace Go.Proofs.YtieelilkkpcmdaaDoor
open Go.RowKit M
set_option linter.unusedVariables false
instance : Inhabited OpD := ⟨⟨0, [], [], 0, 0, 0⟩⟩
def intC : Cod Tryd.prog 3 Int := Cod.int .i64 Tryd.underlying3 (by kernel_rfl)
def strCd : Cod Tryd.prog 9 ByteArray := Cod.string Tryd.underlying9 (by kernel_rfl)
def opCod : Cod Tryd.prog 24 (Int × ByteArray × ByteArray × Int × Int × Int × Unit) :=
  Cod.struct (P := Tryd.prog) Tryd.underlying24
    (Flds.cons intC rfl (Flds.cons strCd rfl (Flds.cons strCd rfl (Flds.cons intC rfl (Flds.cons intC rfl (Flds.cons intC rfl (Flds.nil _))))))) (by kernel_rfl)
theorem ops_of {W : World} {v : Value} {l : List (Int × ByteArray × ByteArray × Int × Int × Int × Unit)} (h : SliceRd opCod.rd opCod.size W v l) : ∃ l' : List OpD, ∀ w, Below W.heap.size W w → RdL opC v l' w := by
  obtain ⟨ao, cap, h1, h2, h3, h4⟩ := h
  have hex : ∀ i, i < l.length → ∃ a : OpD, ∀ w, Below W.heap.size W w → ∃ b off, ao = some ⟨b, off, none⟩ ∧ ∀ (j : Nat) (u : Value), (opV a)[j]? = some u → w.cell? ⟨b, off + i * 6 + j, none⟩ = some u := by
    intro i hi
    obtain ⟨b, off, cs, e1, e2, e3, e4⟩ := h4 i l[i] (List.getElem?_eq_getElem hi)
    obtain ⟨c1, cs1, rfl, ⟨rfl, _⟩, c2, cs2, rfl, ⟨rfl, _⟩, c3, cs3, rfl, ⟨rfl, _⟩, c4, cs4, rfl, ⟨rfl, _⟩, c5, cs5, rfl, ⟨rfl, _⟩, c6, cs6, rfl, ⟨rfl, _⟩, rfl⟩ := e4
    refine ⟨⟨l[i].1, l[i].2.1.data.toList, l[i].2.2.1.data.toList, l[i].2.2.2.1, l[i].2.2.2.2.1, l[i].2.2.2.2.2.1⟩, fun w hb => ⟨b, off, e1, fun j u hu => ?_⟩⟩
    refine (hb.cell (p := ⟨b, off + i * 6 + j, none⟩) e2).trans (e3 j u ?_)
    simpa [opV] using hu
  obtain ⟨f, hf⟩ := Go.Deep.choose_lt (n := l.length) hex
  refine ⟨(List.range l.length).map f, fun w hb => ⟨ao, cap, by simpa using h1, by simp; omega, fun i a hi => ?_⟩⟩
  have hil : i < l.length := by have := (List.getElem?_eq_some_iff.1 hi).1; simpa using this
  simp [hil] at hi
  subst hi
  exact hf i hil w hb
theorem below_of {W w : World} (h : Sat w [frameT W]) : Below W.heap.size W w := h.below 0 rfl
theorem op_of {W : World} {cs : List Value} {o : Int × ByteArray × ByteArray × Int × Int × Int × Unit} (h : opCod.rd W cs o) : cs = opV ⟨o.1, o.2.1.data.toList, o.2.2.1.data.toList, o.2.2.2.1, o.2.2.2.2.1, o.2.2.2.2.2.1⟩ := by
  obtain ⟨c1, cs1, rfl, ⟨rfl, _⟩, c2, cs2, rfl, ⟨rfl, _⟩, c3, cs3, rfl, ⟨rfl, _⟩, c4, cs4, rfl, ⟨rfl, _⟩, c5, cs5, rfl, ⟨rfl, _⟩, c6, cs6, rfl, ⟨rfl, _⟩, rfl⟩ := h
  rfl
theorem apart_row {W : World} {v0 : Value} {l0 : List (Int × ByteArray × ByteArray × Int × Int × Int × Unit)} {cs : Array Value} {o : Int × ByteArray × ByteArray × Int × Int × Int × Unit} {n : ByteArray} {a : Int} (h0 : SliceRd opCod.rd opCod.size W v0 l0) (h1 : opCod.rd W cs.toList o) (h2 : n.size ≤ 9223372036854775807) :
    Calls Tryd.prog 3 #[v0, .agg cs, .string n, .int .i64 a] W fun e W' => e = .returned (.bool true) ∧ Below W.heap.size W W' := by
  obtain ⟨a0, h0⟩ := ops_of h0
  have h3 := op_of h1
  obtain ⟨cl⟩ := cs
  simp only at h3
  subst h3
  exact (apart_law (Sat.start W) _ n.data.toList a (Ent.frame h0)).mono fun e W' ⟨v, h4, h5, h6⟩ => ⟨by rw [h4, h5], below_of h6⟩
theorem pages_row {W : World} {v0 : Value} {l0 : List (Int × ByteArray × ByteArray × Int × Int × Int × Unit)} {n m : ByteArray} {a b c : Int} (h0 : SliceRd opCod.rd opCod.size W v0 l0) (h1 : n.size ≤ 9223372036854775807) (h2 : m.size ≤ 9223372036854775807) :
    Calls Tryd.prog 4 #[v0, .string n, .int .i64 a, .int .i64 b, .string m, .int .i64 c] W fun e W' => e = .returned (.bool true) ∧ Below W.heap.size W W' := by
  obtain ⟨a0, h0⟩ := ops_of h0
  exact (pages_law (Sat.start W) n.data.toList a b m.data.toList c (Ent.frame h0)).mono fun e W' ⟨v, h4, h5, h6⟩ => ⟨by rw [h4, h5], below_of h6⟩
end Go.Proofs.YtieelilkkpcmdaaDoor
