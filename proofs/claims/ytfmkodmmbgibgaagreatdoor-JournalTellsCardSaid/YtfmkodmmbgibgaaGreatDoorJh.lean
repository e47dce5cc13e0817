/- laws of journal: how the arguments read -/
import Derived.Test.YtfmkodmmbgibgaaGreatDoorJl0
import Derived.Test.YtfmkodmmbgibgaaGreatDoorJl4
import Derived.Lib.LaidU8
import Derived.ChangeBears2
import Derived.Test.YtfmkodmmbgibgaaGreatDoorRows
namespace Go.Proofs.YtfmkodmmbgibgaaGreatDoor
open Go.RowKit M
set_option linter.unusedVariables false
theorem var_iface {P : Program} {w : World} {name : String} {g t : Nat} (hn : P.globalNamed name = some g) (hy : (P.globals[g]?).map (·.type) = some t) (ht : isIface P t = true) {nm : String} {x : DataW Unit} (h : Lib.VarReads P w name (.iface nm x)) : ∃ tp p, w.var? P name = some #[.iface tp p] := by
  obtain ⟨g', t', cs, fuel, p, h1, h2, h3, h4⟩ := h
  obtain rfl := Option.some.inj (hn.symm.trans h1)
  obtain rfl := Option.some.inj (hy.symm.trans h2)
  unfold isIface at ht
  cases hq : P.underlying t with
  | none => rw [hq] at ht; cases ht
  | some d =>
    rw [hq] at ht
    cases d <;> simp at ht
    cases fuel with
    | zero => simp [DataW.trod] at h4
    | succ fuel =>
      obtain ⟨l⟩ := cs
      match l, h3, h4 with
      | [], _, h4 => simp [DataW.trod, hq] at h4
      | [v], h3, h4 =>
        cases v with
        | iface a b => exact ⟨a, b, h3⟩
        | _ => simp [DataW.trod, hq] at h4
      | _ :: _ :: _, _, h4 => simp [DataW.trod, hq] at h4
theorem gPow : Tryz.prog.globalNamed "internal/strconv.uint64pow10" = some 4 := by kernel_rfl
theorem gSyn : Tryz.prog.globalNamed "strconv.ErrSyntax" = some 2 := by kernel_rfl
theorem gRng : Tryz.prog.globalNamed "strconv.ErrRange" = some 3 := by kernel_rfl
theorem tPow : (Tryz.prog.globals[4]?).map (·.type) = some 199 := by kernel_rfl
theorem tSyn : (Tryz.prog.globals[2]?).map (·.type) = some 122 := by kernel_rfl
theorem tRng : (Tryz.prog.globals[3]?).map (·.type) = some 122 := by kernel_rfl
theorem cPow : Tryz.prog.cellsOf 199 = 20 := by kernel_rfl
theorem cU64 : Tryz.prog.cellsOf 170 = 1 := by kernel_rfl
theorem wireG_of {W : World} {l : List (String × DataW Unit)} (h : laidMet Tryz.prog l W) (h1 : ("internal/strconv.uint64pow10", Rows.laid_internal_strconv_uint64pow10) ∈ l) (h2 : ("strconv.ErrSyntax", Rows.laid_strconv_ErrSyntax) ∈ l) (h3 : ("strconv.ErrRange", Rows.laid_strconv_ErrRange) ∈ l) : WireG W where
  tab := by
    obtain ⟨g', t', cs, fuel, p, e1, e2, e3, e4⟩ := Lib.laidMet.reads h h1
    obtain rfl := Option.some.inj (gPow.symm.trans e1)
    obtain rfl := Option.some.inj (tPow.symm.trans e2)
    unfold Lib.TabIs
    rw [e3]
    have e5 := Lib.cells_of_tab (zs := Lib.pow10Tab) (k := .u64) Tryz.underlying199 Tryz.underlying170 cU64 cPow (by exact e4)
    rw [← e5]
  syn := var_iface gSyn tSyn (by kernel_rfl) (Lib.laidMet.reads h h2)
  rng := var_iface gRng tRng (by kernel_rfl) (Lib.laidMet.reads h h3)
theorem gOff : Tryz.prog.globalNamed "rehearsal/cell.offsets" = some 0 := by kernel_rfl
theorem tOff : (Tryz.prog.globals[0]?).map (·.type) = some 111 := by kernel_rfl
theorem c1Off : Tryz.prog.cellsOf 3 = 1 := by kernel_rfl
theorem glob_of {W : World} {l : List (String × DataW Unit)} (h : laidMet Tryz.prog l W) (h1 : ("rehearsal/cell.offsets", Rows.laid_rehearsal_cell_offsets) ∈ l) : Glob 0 W := by
  obtain ⟨g0, t0, cs0, fuel, p, hg0, ht0, hv0, hd0⟩ := Lib.laidMet.reads h h1
  obtain rfl := Option.some.inj (gOff.symm.trans hg0)
  obtain rfl := Option.some.inj (tOff.symm.trans ht0)
  obtain ⟨xs, m1, rfl, hx1, hlen, hn3, hel⟩ := DataW.trod_array Tryz.underlying111 hd0
  simp only [Prod.mk.injEq] at hx1
  have key : ∀ (j : Nat) (n : Int), j < 3 → (xs.map (·.1))[j]? = some (.lit (.int .i64 n)) → cs0[j]? = some (intV n) := by
    intro j n hj hn
    have h1 := hel j hj
    rw [List.getElem?_map] at hn
    obtain ⟨x, hx, hx2⟩ := Option.map_eq_some_iff.1 hn
    rw [hx, c1Off, Nat.mul_one] at h1
    obtain ⟨k, e1, e2, _⟩ := DataW.trod_int Tryz.underlying3 h1
    have hk : k = n := by rw [e2] at hx2; simpa using hx2
    subst hk
    have h2 := congrArg (fun q => q[0]?) e1
    simp only [List.getElem?_take, List.getElem?_drop] at h2
    simpa using h2
  have hx2 := DataW.agg.inj (hx1.1 : DataW.agg _ = DataW.agg _)
  rw [← hx2] at key
  intro j v hv
  rw [World.var?_cell gOff hv0 j]
  match j with
  | 0 => obtain rfl := (Option.some.inj hv).symm; exact key 0 _ (by decide) rfl
  | 1 => obtain rfl := (Option.some.inj hv).symm; exact key 1 _ (by decide) rfl
  | 2 => obtain rfl := (Option.some.inj hv).symm; exact key 2 _ (by decide) rfl
  | j + 3 => simp at hv
def qintC : Cod Tryz.prog 3 Int := Cod.int .i64 Tryz.underlying3 (by kernel_rfl)
def qstrC : Cod Tryz.prog 9 ByteArray := Cod.string Tryz.underlying9 (by kernel_rfl)
def blCod : Cod Tryz.prog 34 (Int × ByteArray × Unit) :=
  Cod.struct (P := Tryz.prog) Tryz.underlying34 (Flds.cons qintC rfl (Flds.cons qstrC rfl (Flds.nil _))) (by kernel_rfl)
def bsCod : Cod Tryz.prog 32 (List (Int × ByteArray × Unit)) := Cod.slice Tryz.underlying32 (by kernel_rfl) blCod (by decide)
instance : Inhabited ChD := ⟨⟨.nilFunc, []⟩⟩
theorem blks_of {W : World} {v : Value} {l : List (Int × ByteArray × Unit)} (h : SliceRd blCod.rd blCod.size W v l) : ∃ l' : List Blk, ∀ w, Below W.heap.size W w → RdL jbC v l' w := by
  obtain ⟨ao, cap, h1, h2, h3, h4⟩ := h
  have hex : ∀ i, i < l.length → ∃ a : Blk, ∀ w, Below W.heap.size W w → ∃ b off, ao = some ⟨b, off, none⟩ ∧ ∀ (j : Nat) (u : Value), (jbC.enc a)[j]? = some u → w.cell? ⟨b, off + i * 2 + j, none⟩ = some u := by
    intro i hi
    obtain ⟨b, off, cs, e1, e2, e3, e4⟩ := h4 i l[i] (List.getElem?_eq_getElem hi)
    obtain ⟨c1, cs1, rfl, ⟨rfl, _⟩, c2, cs2, rfl, ⟨rfl, _⟩, rfl⟩ := e4
    refine ⟨⟨l[i].1, l[i].2.1.data.toList⟩, fun w hb => ⟨b, off, e1, fun j u hu => ?_⟩⟩
    refine (hb.cell (p := ⟨b, off + i * 2 + j, none⟩) e2).trans (e3 j u ?_)
    simpa [jbC, bV] using hu
  obtain ⟨f, hf⟩ := Go.Deep.choose_lt (n := l.length) hex
  refine ⟨(List.range l.length).map f, fun w hb => ⟨ao, cap, by simpa using h1, by simp; omega, fun i a hi => ?_⟩⟩
  have hil : i < l.length := by have := (List.getElem?_eq_some_iff.1 hi).1; simpa using this
  simp [hil] at hi
  subst hi
  exact hf i hil w hb
theorem chs_of {W : World} {v : Value} {l : List (List (Int × ByteArray × Unit))} (h : SliceRd bsCod.rd bsCod.size W v l) : ∃ l' : List ChD, ∀ w, Below W.heap.size W w → ChsRd v l' w := by
  obtain ⟨ao, cap, h1, h2, h3, h4⟩ := h
  have hex : ∀ i, i < l.length → ∃ a : ChD, ∀ w, Below W.heap.size W w → (∃ b off, ao = some ⟨b, off, none⟩ ∧ ∀ (j : Nat) (u : Value), (chV a)[j]? = some u → w.cell? ⟨b, off + i * 1 + j, none⟩ = some u) ∧ RdL jbC a.v a.l w := by
    intro i hi
    obtain ⟨b, off, cs, e1, e2, e3, e4⟩ := h4 i l[i] (List.getElem?_eq_getElem hi)
    obtain ⟨cv, rfl, hcv⟩ := e4
    obtain ⟨cl, hcl⟩ := blks_of hcv
    refine ⟨⟨cv, cl⟩, fun w hb => ⟨⟨b, off, e1, fun j u hu => ?_⟩, hcl w hb⟩⟩
    refine (hb.cell (p := ⟨b, off + i * 1 + j, none⟩) e2).trans (e3 j u ?_)
    simpa [chV] using hu
  obtain ⟨f, hf⟩ := Go.Deep.choose_lt (n := l.length) hex
  refine ⟨(List.range l.length).map f, fun w hb => ⟨ao, cap, by simpa using h1, by simp; omega, fun i a hi => ?_⟩⟩
  have hil : i < l.length := by have := (List.getElem?_eq_some_iff.1 hi).1; simpa using this
  simp [hil] at hi
  subst hi
  exact hf i hil w hb
theorem qbelow_of {W w : World} (h : Sat w [frameT W]) : Below W.heap.size W w := h.below 0 rfl
theorem ent_wire {W : World} (h : WireG W) : Ent (frameT W) WireG := Ent.frame fun w hb => h.below hb
theorem ent_glob {W : World} {g : Nat} (h : Glob g W) : Ent (frameT W) (Glob g) := Ent.frame fun w hb j v hv => (hb.cell (p := ⟨g, j, none⟩) (block_lt_of_cell (h j v hv))).trans (h j v hv)
theorem rdI_of {W : World} {v : Value} {l : List Int} (h : SliceRd qintC.rd qintC.size W v l) : ∀ w, Below W.heap.size W w → RdI v l w := by
  obtain ⟨ao, cap, h1, h2, h3, h4⟩ := h
  refine fun w hb => ⟨ao, cap, h1, by omega, fun i x hx => ?_⟩
  obtain ⟨b, off, cs, e1, e2, e3, e4⟩ := h4 i x hx
  obtain ⟨rfl, _⟩ := e4
  refine ⟨b, off, e1, ?_⟩
  have := (hb.cell (p := ⟨b, off + i * 1 + 0, none⟩) e2).trans (e3 0 (intV x) rfl)
  rw [Nat.mul_one, Nat.add_zero] at this
  exact this
end Go.Proofs.YtfmkodmmbgibgaaGreatDoor
/- laws of journal: how the arguments read -/
namespace Go.Proofs.YtfmkodmmbgibgaaGreatDoor
open Go.RowKit M
set_option linter.unusedVariables false
def fiCod : Cod Tryz.prog 49 (Int × ByteArray × Unit) :=
  Cod.struct (P := Tryz.prog) Tryz.underlying49 (Flds.cons qintC rfl (Flds.cons qstrC rfl (Flds.nil _))) (by kernel_rfl)
instance : Inhabited FilD := ⟨⟨0, []⟩⟩
theorem files_of {W : World} {v : Value} {l : List (Int × ByteArray × Unit)} (h : SliceRd fiCod.rd fiCod.size W v l) : ∃ l' : List FilD, ∀ w, Below W.heap.size W w → RdL fiC v l' w := by
  obtain ⟨ao, cap, h1, h2, h3, h4⟩ := h
  have hex : ∀ i, i < l.length → ∃ a : FilD, ∀ w, Below W.heap.size W w → ∃ b off, ao = some ⟨b, off, none⟩ ∧ ∀ (j : Nat) (u : Value), (fiC.enc a)[j]? = some u → w.cell? ⟨b, off + i * 2 + j, none⟩ = some u := by
    intro i hi
    obtain ⟨b, off, cs, e1, e2, e3, e4⟩ := h4 i l[i] (List.getElem?_eq_getElem hi)
    obtain ⟨c1, cs1, rfl, ⟨rfl, _⟩, c2, cs2, rfl, ⟨rfl, _⟩, rfl⟩ := e4
    refine ⟨⟨l[i].1, l[i].2.1.data.toList⟩, fun w hb => ⟨b, off, e1, fun j u hu => ?_⟩⟩
    refine (hb.cell (p := ⟨b, off + i * 2 + j, none⟩) e2).trans (e3 j u ?_)
    simpa [fiC, fiV] using hu
  obtain ⟨f, hf⟩ := Go.Deep.choose_lt (n := l.length) hex
  refine ⟨(List.range l.length).map f, fun w hb => ⟨ao, cap, by simpa using h1, by simp; omega, fun i a hi => ?_⟩⟩
  have hil : i < l.length := by have := (List.getElem?_eq_some_iff.1 hi).1; simpa using this
  simp [hil] at hi
  subst hi
  exact hf i hil w hb
theorem jtells_row {W : World} {v0 v2 v5 : Value} {l0 : List (Int × ByteArray × Unit)} {l2 : List (List (Int × ByteArray × Unit))} {l5 : List Int} {n a b : Int} (hG : WireG W ∧ Glob 0 W) (h0 : SliceRd fiCod.rd fiCod.size W v0 l0) (h2 : SliceRd bsCod.rd bsCod.size W v2 l2) (w3 : (Lit.int .i64 a).wf = true) (h5 : SliceRd qintC.rd qintC.size W v5 l5) :
    Calls Tryz.prog 5 #[v0, intV n, v2, intV a, intV b, v5] W fun e W' => e = .returned (.bool true) ∧ Below W.heap.size W W' := by
  obtain ⟨a0, h0⟩ := files_of h0
  obtain ⟨a2, h2⟩ := chs_of h2
  exact (jtells_law (Sat.start W) (ent_wire hG.1) (ent_glob hG.2) (Ent.frame h0) n (Ent.frame h2) a b (by simp [Lit.wf, IntKind.min, IntKind.max, IntKind.signed, IntKind.bits] at w3; omega) (Ent.frame (rdI_of h5))).mono fun e W' ⟨v, h4, h5, h6⟩ => ⟨by rw [h4, h5], qbelow_of h6⟩
end Go.Proofs.YtfmkodmmbgibgaaGreatDoor
