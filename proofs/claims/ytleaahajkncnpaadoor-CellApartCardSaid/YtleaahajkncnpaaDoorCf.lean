/- laws of cell: how the arguments read -/
import Derived.Test.YtleaahajkncnpaaDoorCe
import Derived.Test.YtleaahajkncnpaaDoorRd
namespace Go.Proofs.YtleaahajkncnpaaDoor
open Go.RowKit M
set_option linter.unusedVariables false
instance : Inhabited OpD := ⟨⟨0, [], 0, .nilFunc, []⟩⟩
def intC : Cod Tryd.prog 3 Int := Cod.int .i64 Tryd.underlying3 (by kernel_rfl)
theorem rdI_of {W : World} {v : Value} {l : List Int} (h : SliceRd intC.rd intC.size W v l) : ∀ w, Below W.heap.size W w → RdI v l w := by
  obtain ⟨ao, cap, h1, h2, h3, h4⟩ := h
  intro w hb
  refine ⟨ao, cap, h1, by omega, fun i x hx => ?_⟩
  obtain ⟨b, off, cs, e1, e2, e3, e4, _⟩ := h4 i x hx
  subst e4
  have := e3 0 (.int .i64 x) rfl
  refine ⟨b, off, e1, (hb.cell (p := ⟨b, off + i, none⟩) e2).trans ?_⟩
  simpa [intC, Cod.int] using this
theorem below_of {W w : World} (h : Sat w [frameT W]) : Below W.heap.size W w := h.below 0 rfl
theorem Glob.frame {W : World} (h : Glob 0 W) : Ent (frameT W) (Glob 0) := Ent.frame fun w hb j v hv => (hb.cell (p := ⟨0, j, none⟩) (block_lt_of_cell (h j v hv))).trans (h j v hv)
theorem strV_of (s : ByteArray) : Value.string s = strV s.data.toList := by simp [strV]
theorem reads_row {W : World} (hG : Glob 0 W) {s t : ByteArray} {f : Int} (_hs : s.size ≤ 9223372036854775807) (_ht : t.size ≤ 9223372036854775807) :
    Calls Tryd.prog 3 #[.string s, .string t, .int .i64 f] W fun e W' => e = .returned (.bool true) ∧ Below W.heap.size W W' := by
  rw [strV_of, strV_of]
  exact (reads_law (Sat.start W) hG.frame s.data.toList t.data.toList f).mono fun e W' ⟨v, h4, h5, h6⟩ => ⟨by rw [h4, h5], below_of h6⟩
def opC : Cod Tryd.prog 42 (Int × ByteArray × Int × List Int × Unit) :=
  Cod.struct (P := Tryd.prog) Tryd.underlying42
    (Flds.cons intC rfl (Flds.cons (Cod.string Tryd.underlying9 (by kernel_rfl)) rfl (Flds.cons intC rfl (Flds.cons (Cod.slice Tryd.underlying39 (by kernel_rfl) intC (by decide)) rfl (Flds.nil _))))) (by kernel_rfl)
theorem ops_of {W : World} {v : Value} {l : List (Int × ByteArray × Int × List Int × Unit)} (h : SliceRd opC.rd opC.size W v l) : ∃ l' : List OpD, ∀ w, Below W.heap.size W w → OpsRd v l' w := by
  obtain ⟨ao, cap, h1, h2, h3, h4⟩ := h
  have hex : ∀ i, i < l.length → ∃ a : OpD, ∀ w, Below W.heap.size W w → (∃ b off, ao = some ⟨b, off, none⟩ ∧ ∀ (j : Nat) (u : Value), (opV a)[j]? = some u → w.cell? ⟨b, off + i * 4 + j, none⟩ = some u) ∧ opOk a w := by
    intro i hi
    obtain ⟨b, off, cs, e1, e2, e3, e4⟩ := h4 i l[i] (List.getElem?_eq_getElem hi)
    obtain ⟨c1, cs1, rfl, ⟨rfl, _⟩, c2, cs2, rfl, ⟨rfl, hs⟩, c3, cs3, rfl, ⟨rfl, hn⟩, c4, cs4, rfl, ⟨kv, rfl, hk⟩, rfl⟩ := e4
    refine ⟨⟨l[i].1, l[i].2.1.data.toList, l[i].2.2.1, kv, l[i].2.2.2.1⟩, fun w hb => ⟨⟨b, off, e1, fun j u hu => ?_⟩, rdI_of hk w hb, ?_⟩⟩
    · refine (hb.cell (p := ⟨b, off + i * 4 + j, none⟩) e2).trans (e3 j u ?_)
      simpa [opV] using hu
    · have := hn
      simp [Lit.wf, IntKind.min, IntKind.max, IntKind.signed, IntKind.bits] at this
      show l[i].2.2.1 ≤ _
      omega
  obtain ⟨f, hf⟩ := Go.Deep.choose_lt (n := l.length) hex
  refine ⟨(List.range l.length).map f, fun w hb => ⟨ao, cap, by simpa using h1, by simp; omega, fun i a hi => ?_⟩⟩
  have hil : i < l.length := by have := (List.getElem?_eq_some_iff.1 hi).1; simpa using this
  simp [hil] at hi
  subst hi
  exact hf i hil w hb
end Go.Proofs.YtleaahajkncnpaaDoor
