/- laws of disk: how the arguments read -/
import Derived.Test.YtleaahajkncnpaaDl
import Derived.Test.YtleaahajkncnpaaRd
namespace Go.Proofs.Ytleaahajkncnpaa
open Go.RowKit M
set_option linter.unusedVariables false
instance : Inhabited ActD := ⟨⟨0, 0, 0, [], .nilFunc, []⟩⟩
def intC : Cod Try.prog 3 Int := Cod.int .i64 Try.underlying3 (by kernel_rfl)
def actC : Cod Try.prog 33 (Int × Int × Int × ByteArray × List Int × Unit) :=
  Cod.struct (P := Try.prog) Try.underlying33
    (Flds.cons intC rfl (Flds.cons intC rfl (Flds.cons intC rfl (Flds.cons (Cod.string Try.underlying9 (by kernel_rfl)) rfl (Flds.cons (Cod.slice Try.underlying31 (by kernel_rfl) intC (by decide)) rfl (Flds.nil _)))))) (by kernel_rfl)
theorem rdI_of {W : World} {v : Value} {l : List Int} (h : SliceRd intC.rd intC.size W v l) : ∀ w, Below W.heap.size W w → RdI v l w := by
  obtain ⟨ao, cap, h1, h2, h3, h4⟩ := h
  intro w hb
  refine ⟨ao, cap, h1, by omega, fun i x hx => ?_⟩
  obtain ⟨b, off, cs, e1, e2, e3, e4, _⟩ := h4 i x hx
  subst e4
  have := e3 0 (.int .i64 x) rfl
  refine ⟨b, off, e1, (hb.cell (p := ⟨b, off + i, none⟩) e2).trans ?_⟩
  simpa [intC, Cod.int] using this
theorem acts_of {W : World} {v : Value} {l : List (Int × Int × Int × ByteArray × List Int × Unit)} (h : SliceRd actC.rd actC.size W v l) : ∃ l' : List ActD, ∀ w, Below W.heap.size W w → ActsRd v l' w := by
  obtain ⟨ao, cap, h1, h2, h3, h4⟩ := h
  have hex : ∀ i, i < l.length → ∃ a : ActD, ∀ w, Below W.heap.size W w → (∃ b off, ao = some ⟨b, off, none⟩ ∧ ∀ (j : Nat) (u : Value), (actV a)[j]? = some u → w.cell? ⟨b, off + i * 5 + j, none⟩ = some u) ∧ RdI a.kv a.ks w ∧ a.n ≤ 9223372036854775807 := by
    intro i hi
    obtain ⟨b, off, cs, e1, e2, e3, e4⟩ := h4 i l[i] (List.getElem?_eq_getElem hi)
    obtain ⟨c1, cs1, rfl, ⟨rfl, _⟩, c2, cs2, rfl, ⟨rfl, _⟩, c3, cs3, rfl, ⟨rfl, hn⟩, c4, cs4, rfl, ⟨rfl, hs⟩, c5, cs5, rfl, ⟨kv, rfl, hk⟩, rfl⟩ := e4
    refine ⟨⟨l[i].1, l[i].2.1, l[i].2.2.1, l[i].2.2.2.1.data.toList, kv, l[i].2.2.2.2.1⟩, fun w hb => ⟨⟨b, off, e1, fun j u hu => ?_⟩, rdI_of hk w hb, ?_⟩⟩
    · refine (hb.cell (p := ⟨b, off + i * 5 + j, none⟩) e2).trans (e3 j u ?_)
      simpa [actV] using hu
    · have := hn
      simp [Lit.wf, IntKind.min, IntKind.max, IntKind.signed, IntKind.bits] at this
      show l[i].2.2.1 ≤ _
      omega
  obtain ⟨f, hf⟩ := Go.Deep.choose_lt (n := l.length) hex
  refine ⟨(List.range l.length).map f, fun w hb => ⟨ao, cap, by simpa using h1, by simp; omega, fun i a hi => ?_⟩⟩
  have hil : i < l.length := by have := (List.getElem?_eq_some_iff.1 hi).1; simpa using this
  simp [hil] at hi
  subst hi
  exact hf i hil w hb
theorem below_of {W w : World} (h : Sat w [frameT W]) : Below W.heap.size W w := h.below 0 rfl
theorem synced_row {W : World} {v0 v2 v3 : Value} {f : Int} {l0 l2 : List (Int × Int × Int × ByteArray × List Int × Unit)} {l3 : List Int} (h0 : SliceRd actC.rd actC.size W v0 l0) (h2 : SliceRd actC.rd actC.size W v2 l2) (h3 : SliceRd intC.rd intC.size W v3 l3) :
    Calls Try.prog 4 #[v0, .int .i64 f, v2, v3] W fun e W' => e = .returned (.bool true) ∧ Below W.heap.size W W' := by
  obtain ⟨a0, h0⟩ := acts_of h0
  obtain ⟨a2, h2⟩ := acts_of h2
  exact (synced_law (Sat.start W) f (Ent.frame h0) (Ent.frame h2) (Ent.frame (rdI_of h3))).mono fun e W' ⟨v, h4, h5, h6⟩ => ⟨by rw [h4, h5], below_of h6⟩
end Go.Proofs.Ytleaahajkncnpaa
