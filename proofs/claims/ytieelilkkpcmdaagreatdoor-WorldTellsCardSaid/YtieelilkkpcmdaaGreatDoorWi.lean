/- laws of world: how the arguments read -/
import Derived.Test.YtieelilkkpcmdaaGreatDoorRy2
import Derived.Test.YtieelilkkpcmdaaGreatDoorRd
namespace Go.Proofs.YtieelilkkpcmdaaGreatDoor
open Go.RowKit M
set_option linter.unusedVariables false
instance : Inhabited OpD := ⟨⟨0, [], [], 0, 0, 0⟩⟩
def intC : Cod Tryz.prog 3 Int := Cod.int .i64 Tryz.underlying3 (by kernel_rfl)
def strCd : Cod Tryz.prog 9 ByteArray := Cod.string Tryz.underlying9 (by kernel_rfl)
def opCod : Cod Tryz.prog 34 (Int × ByteArray × ByteArray × Int × Int × Int × Unit) :=
  Cod.struct (P := Tryz.prog) Tryz.underlying34
    (Flds.cons intC rfl (Flds.cons strCd rfl (Flds.cons strCd rfl (Flds.cons intC rfl (Flds.cons intC rfl (Flds.cons intC rfl (Flds.nil _))))))) (by kernel_rfl)
theorem ops_of {W : World} {v : Value} {l : List (Int × ByteArray × ByteArray × Int × Int × Int × Unit)} (h : SliceRd opCod.rd opCod.size W v l) : ∃ l' : List OpD, ∀ w, Below W.heap.size W w → RdL opC v l' w := by
  obtain ⟨ao, cap, h1, h2, h3, h4⟩ := h
  have hex : ∀ i, i < l.length → ∃ a : OpD, ∀ w, Below W.heap.size W w → ∃ b off, ao = some ⟨b, off, none⟩ ∧ ∀ (j : Nat) (u : Value), (opV a)[j]? = some u → w.cell? ⟨b, off + i * 6 + j, none⟩ = some u := by
    intro i hi
    obtain ⟨b, off, cs, e1, e2, e3, e4⟩ := h4 i l[i] (List.getElem?_eq_getElem hi)
    obtain ⟨c1, cs1, rfl, ⟨rfl, _⟩, c2, cs2, rfl, ⟨rfl, _⟩, c3, cs3, rfl, ⟨rfl, _⟩, c4, cs4, rfl, ⟨rfl, _⟩, c5, cs5, rfl, ⟨rfl, _⟩, c6, cs6, rfl, ⟨rfl, _⟩, rfl⟩ := e4
    refine ⟨⟨l[i].1, l[i].2.1.data.toList, l[i].2.2.1.data.toList, l[i].2.2.2.1, l[i].2.2.2.2.1, l[i].2.2.2.2.2.1⟩, fun w hb => ⟨b, off, e1, fun j u hu => ?_⟩⟩
    refine (hb.cell (p := ⟨b, off + i * 6 + j, none⟩) e2).trans (e3 j u ?_)
    simpa [opV] using hu
  obtain ⟨f, hf⟩ := Go.Deep.choose_lt (n := l.length) hex
  refine ⟨(List.range l.length).map f, fun w hb => ⟨ao, cap, by simpa using h1, by simp; omega, fun i a hi => ?_⟩⟩
  have hil : i < l.length := by have := (List.getElem?_eq_some_iff.1 hi).1; simpa using this
  simp [hil] at hi
  subst hi
  exact hf i hil w hb
theorem below_of {W w : World} (h : Sat w [frameT W]) : Below W.heap.size W w := h.below 0 rfl
theorem tells_row {W : World} {v0 : Value} {l0 : List (Int × ByteArray × ByteArray × Int × Int × Int × Unit)} {n s : ByteArray} {a b : Int} (h0 : SliceRd opCod.rd opCod.size W v0 l0) (h1 : n.size ≤ 9223372036854775807) (h2 : s.size ≤ 9223372036854775807) :
    Calls Tryz.prog 3 #[v0, .string n, .int .i64 a, .int .i64 b, .string s] W fun e W' => e = .returned (.bool true) ∧ Below W.heap.size W W' := by
  obtain ⟨a0, h0⟩ := ops_of h0
  exact (tells_law (Sat.start W) (Ent.frame h0) n.data.toList a b s.data.toList).mono fun e W' ⟨v, h4, h5, h6⟩ => ⟨by rw [h4, h5], below_of h6⟩
end Go.Proofs.YtieelilkkpcmdaaGreatDoor
