/- The references 01 (numbers as text) and 15 (cells in order), in plain data; rules for strings in order and for division of numbers that are not positive. Conditions: each lemma's own hypotheses. -/
import Derived.Test.YtfmkodmmbgibgaaGreatDoorCellP
import Derived.Sort.Walk0
import Derived.Test.YtfmkodmmbgibgaaGreatDoorDf
import Derived.Test.YtfmkodmmbgibgaaGreatDoorOp4
import Derived.Test.YtfmkodmmbgibgaaGreatDoorCb
import Derived.Shelf.Strings.Builder1
import Derived.Shelf.Small.Bits
import Derived.Shelf.Small.Strs
import Derived.Shelf.Small.Wraps
import Derived.Shelf.Strings.BuilderF
import Derived.Shelf.Strings.BuilderK
import Derived.Shelf.Strconv.Atoi
import Derived.Shelf.Strconv.Itoa0
import Derived.Shelf.Strconv.Itoa1
import Derived.Shelf.LaysM
import Derived.Shelf.Strconv.Itoa2
import Derived.Shelf.Strconv.Itoa3
import Derived.Shelf.Strconv.AtoiErrFast
import Derived.Shelf.Strconv.ParseIntEmpty
import Derived.Shelf.Strconv.AtoiFail
import Derived.Shelf.Strconv.Clone
import Derived.Shelf.Strconv.SyntaxError
import Derived.Shelf.LaysC
import Derived.Shelf.Strconv.ToError
import Derived.Shelf.Strconv.AtoiErr
import Derived.Shelf.Strconv.ErrVar
import Derived.Shelf.Strconv.Lower
import Derived.Shelf.Strconv.ParseUint10
import Derived.Shelf.Strconv.ParseUint10Empty
import Derived.Shelf.Strconv.ParseUint10Any
import Derived.Shelf.Strconv.ParseInt10
import Derived.Shelf.Strconv.AtoiLong
import Derived.Shelf.Strconv.AtoiInnerAll
import Derived.Shelf.Strconv.RangeError
import Derived.Shelf.Strconv.ToErrorRange
import Derived.Shelf.Strconv.AtoiAll
import Derived.Shelf.Strconv.ErrVarAll
import Derived.Shelf.Strconv.ParseUintEmpty
import Derived.Shelf.Strconv.ParseUint10b64
import Derived.Shelf.Strconv.ParseUint10b32
import Derived.Shelf.Strconv.ParseUint10b16
import Derived.Shelf.Strconv.ParseUint10b8
import Derived.Shelf.Strconv.ParseUint10At
import Derived.Shelf.Strconv.ParseInt10At64
import Derived.Shelf.Strconv.ParseInt10At32
import Derived.Shelf.Strconv.ParseInt10At16
import Derived.Shelf.Strconv.ParseInt10At8
import Derived.Shelf.Strconv.ParseInt10All
import Derived.Shelf.Strings.Search1
import Derived.Shelf.Sort.Plain
import Derived.Shelf.Strings.Prefix
import Derived.Shelf.Strings.BuilderCap
import Derived.Ground.Names2Prog
import Derived.Shelf.Slices.Clone
import Derived.Shelf.Slices.SearchI
import Derived.Shelf.Slices.In.SortNone
import Derived.Test.YtfmkodmmbgibgaaGreatDoorProg
namespace Go.Proofs.YtfmkodmmbgibgaaGreatDoor
open Go.RowKit M
section
variable {P : Program} {n : Nat} {ops : Array Oper} {Q : Exit → Act → World → Prop} {rest : List Oper} {L : Env} {w : World} {d : Nat} {ty : TypeId} {pos : String} {aft : Array Edge} {x y : Operand} {t t2 : TypeId}
end
/-! ### numbers back from text, as the reference does it -/
theorem numP_back {e : UInt8} {least m : Int} {r : Bs} {k : Nat} (he : 57 < e.toNat) (hk : r[k]? = some e) (hm : inI m) (hl : least ≤ m) (h : r.take k = Lib.itoa m) : numP e least r = some (m, r.drop (k + 1)) := by
  have e1 : r = Lib.itoa m ++ e :: r.drop (k + 1) := by
    have h5 := List.getElem?_eq_some_iff.1 hk
    rw [← h, ← h5.2, List.getElem_cons_drop, List.take_append_drop]
  have := numP_enc (r := r.drop (k + 1)) he hm hl
  rw [← e1] at this
  exact this
/-! ### cells in order -/
structure CellsR (Z : List (Bs × Bs)) (c : Bs → Bs) : Prop where
  sorted : (Z.map (·.1)).Pairwise (· < ·)
  val : ∀ x ∈ Z, x.2 ≠ [] ∧ c x.1 = x.2
  none : ∀ k, k ∉ Z.map (·.1) → c k = []
theorem CellsR.empty : CellsR [] (fun _ => []) := ⟨by simp, by simp, fun _ _ => rfl⟩
def putL (k v : Bs) : Bool → List (Bs × Bs) → List (Bs × Bs)
  | true, [] => []
  | false, [] => [(k, v)]
  | true, x :: r => if x.1 = k then putL k v true r else x :: putL k v true r
  | false, x :: r => if x.1 = k then putL k v false r else if k < x.1 then (k, v) :: x :: putL k v true r else x :: putL k v false r
theorem putL_true (k v : Bs) : ∀ Z, putL k v true Z = Z.filter (fun x => decide (x.1 ≠ k))
  | [] => rfl
  | x :: r => by
    simp only [putL]
    split
    · rename_i h; rw [putL_true k v r, List.filter_cons_of_neg (by simpa using h)]
    · rename_i h; rw [putL_true k v r, List.filter_cons_of_pos (by simpa using h)]
theorem putL_mem (k v : Bs) : ∀ (Z : List (Bs × Bs)) (x : Bs × Bs), x ∈ putL k v false Z ↔ (x ∈ Z ∧ x.1 ≠ k) ∨ x = (k, v)
  | [], x => by simp [putL]
  | y :: r, x => by
    simp only [putL]
    split
    · rename_i h
      rw [putL_mem k v r x, List.mem_cons]
      constructor
      · rintro (⟨a, b⟩ | a)
        · exact .inl ⟨.inr a, b⟩
        · exact .inr a
      · rintro (⟨a | a, b⟩ | a)
        · subst a; exact absurd h b
        · exact .inl ⟨a, b⟩
        · exact .inr a
    · rename_i h
      split
      · rw [putL_true]
        simp only [List.mem_cons, List.mem_filter, decide_eq_true_eq]
        constructor
        · rintro (a | a | ⟨a, b⟩)
          · exact .inr a
          · subst a; exact .inl ⟨.inl rfl, h⟩
          · exact .inl ⟨.inr a, b⟩
        · rintro (⟨a | a, b⟩ | a)
          · exact .inr (.inl a)
          · exact .inr (.inr ⟨a, b⟩)
          · exact .inl a
      · rw [List.mem_cons, putL_mem k v r x, List.mem_cons]
        constructor
        · rintro (a | ⟨a, b⟩ | a)
          · subst a; exact .inl ⟨.inl rfl, h⟩
          · exact .inl ⟨.inr a, b⟩
          · exact .inr a
        · rintro (⟨a | a, b⟩ | a)
          · exact .inl a
          · exact .inr (.inl ⟨a, b⟩)
          · exact .inr (.inr a)
theorem lt_of_ne {a b : Bs} (h : ¬ a < b) (g : a ≠ b) : b < a :=
  Decidable.byContradiction fun q => g (List.le_antisymm (List.not_lt.1 q) (List.not_lt.1 h))
theorem putL_sorted (k v : Bs) : ∀ (Z : List (Bs × Bs)), (Z.map (·.1)).Pairwise (· < ·) → ((putL k v false Z).map (·.1)).Pairwise (· < ·)
  | [], _ => by simp [putL]
  | y :: r, hp => by
    rw [List.map_cons, List.pairwise_cons] at hp
    obtain ⟨h1, h2⟩ := hp
    simp only [putL]
    split
    · exact putL_sorted k v r h2
    · rename_i hne
      split
      · rename_i hlt
        rw [putL_true, List.map_cons, List.map_cons, List.pairwise_cons, List.pairwise_cons]
        have hsub : ∀ a ∈ (r.filter (fun x => decide (x.1 ≠ k))).map (·.1), a ∈ r.map (·.1) := fun a ha => by
          obtain ⟨x, hx, rfl⟩ := List.mem_map.1 ha
          exact List.mem_map.2 ⟨x, (List.mem_filter.1 hx).1, rfl⟩
        refine ⟨fun a ha => ?_, fun a ha => h1 a (hsub a ha), h2.sublist ((List.filter_sublist).map _)⟩
        rcases List.mem_cons.1 ha with rfl | ha
        · exact hlt
        · exact List.lt_trans hlt (h1 a (hsub a ha))
      · rename_i hge
        rw [List.map_cons, List.pairwise_cons]
        refine ⟨fun a ha => ?_, putL_sorted k v r h2⟩
        obtain ⟨x, hx, rfl⟩ := List.mem_map.1 ha
        rcases (putL_mem k v r x).1 hx with ⟨a, _⟩ | a
        · exact h1 _ (List.mem_map.2 ⟨x, a, rfl⟩)
        · subst a; exact lt_of_ne hge (fun e => hne e.symm)
def putZ (Z : List (Bs × Bs)) (k v : Bs) : List (Bs × Bs) := putL k v (decide (v = [])) Z
theorem CellsR.put {Z : List (Bs × Bs)} {c : Bs → Bs} (h : CellsR Z c) (k v : Bs) : CellsR (putZ Z k v) (updC c k v) := by
  unfold putZ
  by_cases hv : v = []
  · subst hv
    rw [decide_eq_true rfl, putL_true]
    refine ⟨h.sorted.sublist ((List.filter_sublist).map _), fun x hx => ?_, fun j hj => ?_⟩
    · obtain ⟨h1, h2⟩ := List.mem_filter.1 hx
      have h3 := h.val x h1
      refine ⟨h3.1, ?_⟩
      unfold updC; rw [if_neg (by simpa using h2)]; exact h3.2
    · unfold updC
      split
      · rfl
      · rename_i hne
        refine h.none j fun hm => hj ?_
        obtain ⟨x, hx, rfl⟩ := List.mem_map.1 hm
        exact List.mem_map.2 ⟨x, List.mem_filter.2 ⟨hx, by simpa using hne⟩, rfl⟩
  · rw [decide_eq_false hv]
    refine ⟨putL_sorted k v Z h.sorted, fun x hx => ?_, fun j hj => ?_⟩
    · rcases (putL_mem k v Z x).1 hx with ⟨h1, h2⟩ | rfl
      · have h3 := h.val x h1
        refine ⟨h3.1, ?_⟩
        unfold updC; rw [if_neg h2]; exact h3.2
      · exact ⟨hv, by unfold updC; rw [if_pos rfl]⟩
    · unfold updC
      rw [if_neg]
      · refine h.none j fun hm => hj ?_
        obtain ⟨x, hx, rfl⟩ := List.mem_map.1 hm
        by_cases hxk : x.1 = k
        · exact List.mem_map.2 ⟨(k, v), (putL_mem k v Z _).2 (.inr rfl), hxk.symm⟩
        · exact List.mem_map.2 ⟨x, (putL_mem k v Z _).2 (.inl ⟨hx, hxk⟩), rfl⟩
      · rintro rfl
        exact hj (List.mem_map.2 ⟨(j, v), (putL_mem j v Z _).2 (.inr rfl), rfl⟩)
end Go.Proofs.YtfmkodmmbgibgaaGreatDoor
/- Closed facts of the program: offsets, sizes, zero values. -/
namespace Go.Proofs.YtfmkodmmbgibgaaGreatDoor
open Go.RowKit M
theorem ag_27 : aggB Tryz.prog 27 = some false := by kernel_rfl
theorem ag_32 : aggB Tryz.prog 32 = some false := by kernel_rfl
theorem ag_34 : aggB Tryz.prog 34 = some true := by kernel_rfl
theorem ag_68 : aggB Tryz.prog 68 = some false := by kernel_rfl
theorem ag_71 : aggB Tryz.prog 71 = some false := by kernel_rfl
theorem ag_75 : aggB Tryz.prog 75 = some false := by kernel_rfl
theorem ag_117 : aggB Tryz.prog 117 = some false := by kernel_rfl
theorem ag_118 : aggB Tryz.prog 118 = some false := by kernel_rfl
theorem asz_34 : allSz Tryz.prog 34 = true := by kernel_rfl
theorem asz_73 : allSz Tryz.prog 73 = true := by kernel_rfl
theorem asz_143 : allSz Tryz.prog 143 = true := by kernel_rfl
theorem cal_6 : callB Tryz.prog 6 = true := by kernel_rfl
theorem cal_7 : callB Tryz.prog 7 = true := by kernel_rfl
theorem cal_8 : callB Tryz.prog 8 = true := by kernel_rfl
theorem cal_9 : callB Tryz.prog 9 = true := by kernel_rfl
theorem cal_10 : callB Tryz.prog 10 = true := by kernel_rfl
theorem cal_11 : callB Tryz.prog 11 = true := by kernel_rfl
theorem cal_12 : callB Tryz.prog 12 = true := by kernel_rfl
theorem cal_13 : callB Tryz.prog 13 = true := by kernel_rfl
theorem cal_14 : callB Tryz.prog 14 = true := by kernel_rfl
theorem cal_15 : callB Tryz.prog 15 = true := by kernel_rfl
theorem cal_16 : callB Tryz.prog 16 = true := by kernel_rfl
theorem cal_17 : callB Tryz.prog 17 = true := by kernel_rfl
theorem cal_35 : callB Tryz.prog 35 = true := by kernel_rfl
theorem cal_36 : callB Tryz.prog 36 = true := by kernel_rfl
theorem cal_37 : callB Tryz.prog 37 = true := by kernel_rfl
theorem cal_38 : callB Tryz.prog 38 = true := by kernel_rfl
theorem cal_39 : callB Tryz.prog 39 = true := by kernel_rfl
theorem cal_40 : callB Tryz.prog 40 = true := by kernel_rfl
theorem cal_41 : callB Tryz.prog 41 = true := by kernel_rfl
theorem cal_42 : callB Tryz.prog 42 = true := by kernel_rfl
theorem cal_43 : callB Tryz.prog 43 = true := by kernel_rfl
theorem cal_44 : callB Tryz.prog 44 = true := by kernel_rfl
theorem cal_45 : callB Tryz.prog 45 = true := by kernel_rfl
theorem cal_46 : callB Tryz.prog 46 = true := by kernel_rfl
theorem cal_47 : callB Tryz.prog 47 = true := by kernel_rfl
theorem cal_48 : callB Tryz.prog 48 = true := by kernel_rfl
theorem cal_49 : callB Tryz.prog 49 = true := by kernel_rfl
theorem cal_50 : callB Tryz.prog 50 = true := by kernel_rfl
theorem cal_51 : callB Tryz.prog 51 = true := by kernel_rfl
theorem cal_75 : callB Tryz.prog 75 = true := by kernel_rfl
theorem cal_76 : callB Tryz.prog 76 = true := by kernel_rfl
theorem cal_77 : callB Tryz.prog 77 = true := by kernel_rfl
theorem cal_78 : callB Tryz.prog 78 = true := by kernel_rfl
theorem cal_79 : callB Tryz.prog 79 = true := by kernel_rfl
theorem cal_80 : callB Tryz.prog 80 = true := by kernel_rfl
theorem cal_81 : callB Tryz.prog 81 = true := by kernel_rfl
theorem cal_82 : callB Tryz.prog 82 = true := by kernel_rfl
theorem cal_83 : callB Tryz.prog 83 = true := by kernel_rfl
theorem cal_84 : callB Tryz.prog 84 = true := by kernel_rfl
theorem cal_85 : callB Tryz.prog 85 = true := by kernel_rfl
theorem cal_86 : callB Tryz.prog 86 = true := by kernel_rfl
theorem cal_87 : callB Tryz.prog 87 = true := by kernel_rfl
theorem cal_88 : callB Tryz.prog 88 = true := by kernel_rfl
theorem cal_89 : callB Tryz.prog 89 = true := by kernel_rfl
theorem cal_90 : callB Tryz.prog 90 = true := by kernel_rfl
theorem cal_91 : callB Tryz.prog 91 = true := by kernel_rfl
theorem cal_108 : callB Tryz.prog 108 = true := by kernel_rfl
theorem cal_109 : callB Tryz.prog 109 = true := by kernel_rfl
theorem cal_110 : callB Tryz.prog 110 = true := by kernel_rfl
theorem cal_111 : callB Tryz.prog 111 = true := by kernel_rfl
theorem cal_112 : callB Tryz.prog 112 = true := by kernel_rfl
theorem cal_113 : callB Tryz.prog 113 = true := by kernel_rfl
theorem cal_115 : callB Tryz.prog 115 = true := by kernel_rfl
theorem cal_124 : callB Tryz.prog 124 = true := by kernel_rfl
theorem cal_125 : callB Tryz.prog 125 = true := by kernel_rfl
theorem cal_126 : callB Tryz.prog 126 = true := by kernel_rfl
theorem cal_128 : callB Tryz.prog 128 = true := by kernel_rfl
theorem cal_145 : callB Tryz.prog 145 = true := by kernel_rfl
theorem cal_162 : callB Tryz.prog 162 = true := by kernel_rfl
theorem cal_171 : callB Tryz.prog 171 = true := by kernel_rfl
theorem es_22 : elemSz Tryz.prog 22 = some 1 := by kernel_rfl
theorem es_31 : elemSz Tryz.prog 31 = some 1 := by kernel_rfl
theorem es_32 : elemSz Tryz.prog 32 = some 2 := by kernel_rfl
theorem es_112 : elemSz Tryz.prog 112 = some 1 := by kernel_rfl
theorem fo_34_0 : fldOff Tryz.prog 34 0 = some 0 := by kernel_rfl
theorem fo_34_1 : fldOff Tryz.prog 34 1 = some 1 := by kernel_rfl
theorem fo_73_0 : fldOff Tryz.prog 73 0 = some 0 := by kernel_rfl
theorem fo_73_1 : fldOff Tryz.prog 73 1 = some 1 := by kernel_rfl
theorem fo_73_2 : fldOff Tryz.prog 73 2 = some 2 := by kernel_rfl
theorem fo_73_3 : fldOff Tryz.prog 73 3 = some 3 := by kernel_rfl
theorem fo_73_4 : fldOff Tryz.prog 73 4 = some 4 := by kernel_rfl
theorem fo_120_0 : fldOff Tryz.prog 120 0 = some 0 := by kernel_rfl
theorem fo_120_1 : fldOff Tryz.prog 120 1 = some 1 := by kernel_rfl
theorem fo_143_0 : fldOff Tryz.prog 143 0 = some 0 := by kernel_rfl
theorem fo_143_1 : fldOff Tryz.prog 143 1 = some 1 := by kernel_rfl
theorem ifo_9 : (Tryz.prog.info? 9).map (fun i => (i.zero, i.size, i.bytes)) = some (some (.string ⟨#[]⟩), 1, 16) := by kernel_rfl
theorem ifo_34 : (Tryz.prog.info? 34).map (fun i => (i.zero, i.size, i.bytes)) = some (some (.agg #[(.int .i64 0), (.string ⟨#[]⟩)]), 2, 24) := by kernel_rfl
theorem ifz_34 : (Tryz.prog.info? 34).map (fun i => (i.zero, i.size)) = some (some (.agg #[(.int .i64 0), (.string ⟨#[]⟩)]), 2) := by kernel_rfl
theorem ifz_75 : (Tryz.prog.info? 75).map (fun i => (i.zero, i.size)) = some (some .nilFunc, 1) := by kernel_rfl
theorem pl_34_0 : structPl Tryz.prog 34 [0] = some [(0, 1)] := by kernel_rfl
theorem pl_34_0_1 : structPl Tryz.prog 34 [0, 1] = some [(0, 1), (1, 1)] := by kernel_rfl
theorem pl_73_0_1_2_3 : structPl Tryz.prog 73 [0, 1, 2, 3] = some [(0, 1), (1, 1), (2, 1), (3, 1)] := by kernel_rfl
theorem pl_143_0 : structPl Tryz.prog 143 [0] = some [(0, 1)] := by kernel_rfl
theorem sz_32 : szOf Tryz.prog 32 = some 1 := by kernel_rfl
theorem sz_34 : szOf Tryz.prog 34 = some 2 := by kernel_rfl
theorem sz_117 : szOf Tryz.prog 117 = some 1 := by kernel_rfl
theorem sz_118 : szOf Tryz.prog 118 = some 1 := by kernel_rfl
theorem zr_3 : zeroOf Tryz.prog 3 = some (some (.int .i64 0)) := by kernel_rfl
theorem zr_9 : zeroOf Tryz.prog 9 = some (some (.string ⟨#[]⟩)) := by kernel_rfl
theorem zr_32 : zeroOf Tryz.prog 32 = some (some (.slice none 0 0)) := by kernel_rfl
theorem zr_34 : zeroOf Tryz.prog 34 = some (some (.agg #[(.int .i64 0), (.string ⟨#[]⟩)])) := by kernel_rfl
theorem zr_73 : zeroOf Tryz.prog 73 = some (some (.agg #[(.pointer none), (.int .i64 0), (.pointer none), (.map none), (.bool false)])) := by kernel_rfl
theorem zr_120 : zeroOf Tryz.prog 120 = some (some (.agg #[(.pointer none), (.slice none 0 0)])) := by kernel_rfl
theorem zr_143 : zeroOf Tryz.prog 143 = some (some (.agg #[(.string ⟨#[]⟩), (.bool false)])) := by kernel_rfl
end Go.Proofs.YtfmkodmmbgibgaaGreatDoor
/- Arrays in structs: an array as a slice, an element of an array's value; calls of bound methods. Conditions: the rules' own hypotheses. -/
namespace Go.Proofs.YtfmkodmmbgibgaaGreatDoor.M
open Go.RowKit
section
variable {P : Program} {n : Nat} {ops : Array Oper} {Q : Exit → Act → World → Prop} {rest : List Oper} {L : Env} {w : World} {d : Nat} {ty : TypeId} {pos : String} {aft : Array Edge} {As : List Th}
/-- a bound method -/
theorem ev_makeBound {f : Nat} {fs : List Operand} {vs : List Value} (hx : looks L fs = some vs) : Ev P L w ⟨some d, .makeFunc (.func f) fs.toArray #[], ty, pos, aft, none⟩ (.func (.func f) vs.toArray #[]) := fun ρ hρ => by
  have : fs.map ρ = vs := by
    induction fs generalizing vs with
    | nil => simp [looks] at hx; subst hx; rfl
    | cons y ys ih =>
      simp only [looks] at hx
      cases h1 : look L y with
      | none => simp [h1] at hx
      | some u =>
        cases h2 : looks L ys with
        | none => simp [h1, h2] at hx
        | some us => simp [h1, h2] at hx; subst hx; simp [hρ _ _ h1, ih h2]
  simp [execOp, Instr.makeFunc, this]
theorem wl_makeBound {f : Nat} {fs : List Operand} {vs : List Value} (hx : looks L fs = some vs) (hd : Nat.blt d n = true) (hk : wl P n ops Q rest ((d, .func (.func f) vs.toArray #[]) :: L) w) : wl P n ops Q (⟨some d, .makeFunc (.func f) fs.toArray #[], ty, pos, aft, none⟩ :: rest) L w :=
  wl_val hd (ev_makeBound hx) hk
end
theorem inC_cells2 (l : List Int) : inC.cells l = l.map intV := by
  induction l with
  | nil => rfl
  | cons a l ih => simp only [RowC.cells, List.flatMap_cons, List.map_cons] at ih ⊢; rw [ih]; rfl
end Go.Proofs.YtfmkodmmbgibgaaGreatDoor.M
/- The shelf's contract of sorting ints as a contract of things. Conditions: each one's own hypotheses. -/
namespace Go.Proofs.YtfmkodmmbgibgaaGreatDoor.M
open Go.RowKit Go.Sort
def sortI (l : List Int) : List Int := l.mergeSort fun x y => decide (x ≤ y)
theorem sortI_perm (l : List Int) : (sortI l).Perm l := List.mergeSort_perm _ _
theorem sortI_len (l : List Int) : (sortI l).length = l.length := (sortI_perm l).length_eq
theorem putCells_allI (d xs : List Int) (sp : List Value) (h : d.length = xs.length) : (putCells (Value.int .i64) 0 d.toArray (xs.map intV ++ sp).toArray) = (d.map intV ++ sp).toArray := by
  apply Array.ext_getElem?
  intro k
  unfold putCells
  simp only [Array.getElem?_mapIdx, List.getElem?_toArray, Nat.zero_le, true_and, Nat.zero_add, Nat.sub_zero, List.size_toArray]
  by_cases hk : k < d.length
  · rw [List.getElem?_append_left (by simpa [← h] using hk), List.getElem?_append_left (by simpa using hk)]
    simp [hk, h ▸ hk, intV]
  · rw [List.getElem?_append_right (by simp; omega), List.getElem?_append_right (by simp; omega)]
    have hk' : ¬ k < xs.length := by omega
    simp only [List.length_map, h, hk', if_false, Option.map_id']
theorem calls_sortI {P : Program} {f : Nat}
    (hsome : ∀ (blk off cap : Nat) (ss : List Int) (w : World), Holds (Value.int .i64) w blk off ss.toArray → blk < w.heap.size → ss.length < 4611686018427387904 → Calls P f #[.slice (some ⟨blk, off, none⟩) ss.length cap] w fun e w' => e = .returned (.tuple #[]) ∧ ∃ n os, w' = grow (putRow (Value.int .i64) (Go.Sort.ahead w n) blk off (ss.mergeSort fun x y => decide (x ≤ y)).toArray) os)
    (hnone : ∀ (p : Option Addr) (cap : Nat) (w : World), Calls P f #[.slice p 0 cap] w fun e w' => e = .returned (.tuple #[]) ∧ w' = w)
    {w : World} {v : Value} {l : List Int} {As : List Th} (hS : Sat w (rowT inC v l :: As)) (hl : l.length < 4611686018427387904) : Calls P f #[v] w (Ret fun u w' => u = .tuple #[] ∧ Sat w' (rowT inC v (sortI l) :: As)) := by
  obtain ⟨foot, hlen, h⟩ := hS.own 0 rfl
  rcases h with ⟨rfl, hn, hf⟩ | ⟨b, cap, sp, rfl, hcap, hb, hsz, hf⟩
  · have : l = [] := List.eq_nil_of_length_eq_zero hn
    subst this
    exact (hnone none 0 w).mono fun e w' ⟨h1, h2⟩ => ⟨_, h1, rfl, by rw [h2]; simpa [sortI] using hS⟩
  · have hH : Holds (Value.int .i64) w b 0 l.toArray := fun j hj => by
      have hj' : j < l.length := by simpa using hj
      rw [inC_cells2] at hb
      refine ⟨?_, ?_⟩
      · rw [Nat.zero_add]
        refine hb.cell ?_
        rw [List.getElem?_append_left (by simpa using hj')]
        simp [hj', intV]
      · exact hb.free _ (by simp; omega)
    refine (hsome b 0 cap l w hH hb.lt hl).mono fun e w' ⟨h1, n, os, h2⟩ => ⟨_, h1, rfl, ?_⟩
    have hlt := hb.lt
    have hheap : ∀ k, k < w.heap.size → k ≠ b → w'.heap[k]? = w.heap[k]? := fun k hk hne => by
      rw [h2, heap_grow_old _ _ (by simpa using hk)]
      simp only [putRow, mapBlock, heap_ahead, Array.getElem?_modify]
      rw [if_neg (fun q => hne q.symm)]
    obtain ⟨T, lo, hi, hc, hfz⟩ := hb
    have hnew : w'.heap[b]? = some (.cells ((sortI l).map intV ++ sp).toArray T (lo, hi)) := by
      rw [h2, heap_grow_old _ _ (by simpa using hlt)]
      simp only [putRow, mapBlock, heap_ahead, Array.getElem?_modify, if_pos, hc, Option.map_some, onCells, inC_cells2]
      rw [show (l.mergeSort fun x y => decide (x ≤ y)) = sortI l from rfl, putCells_allI _ _ _ (sortI_len l)]
    have ho : Only [b] w w' := by
      refine ⟨?_, ?_, ?_, ?_, fun k hk hn => hheap k hk (by simpa using hn)⟩
      · rw [h2]; rfl
      · rw [h2]; rfl
      · rw [h2]; rfl
      · rw [h2]; simp
    have hfin := hS.own_set (w' := w') 0 rfl (v' := .slice (some ⟨b, 0, none⟩) l.length cap) (n' := l.length) (size' := 1) (xs' := inC.cells (sortI l)) (fun foot' g => by
      obtain ⟨_, g⟩ := g
      rcases g with ⟨g0, _⟩ | ⟨b', cap', sp', g0, g1, g2, g3, g4⟩
      · cases g0
      · simp only [Value.slice.injEq, Option.some.injEq, Addr.mk.injEq, and_true, true_and] at g0
        obtain ⟨rfl, rfl⟩ := g0
        refine ⟨[b], ⟨?_, .inr ⟨b, cap, sp, rfl, hcap, ⟨T, lo, hi, ?_, ?_⟩, ?_, rfl⟩⟩, ?_, ?_⟩
        · rw [inC.cells_len, sortI_len]; rfl
        · rw [inC_cells2]; exact hnew
        · rcases hfz with q | q
          · exact .inl q
          · refine .inr ?_
            simp only [List.length_append, inC.cells_len, sortI_len] at q ⊢; exact q
        · simp only [List.length_append, inC.cells_len, sortI_len] at hsz ⊢; exact hsz
        · rw [g4]; exact ho
        · rw [g4]; intro k hk; exact .inl hk)
    have e : (sortI l).length = l.length := sortI_len l
    show Sat w' (ownT _ (sortI l).length 1 _ :: As)
    rw [e]; exact hfin
end Go.Proofs.YtfmkodmmbgibgaaGreatDoor.M
/- the reference of cell: Open -/
namespace Go.Proofs.YtfmkodmmbgibgaaGreatDoor
open Go.RowKit M
set_option linter.unusedVariables false
end Go.Proofs.YtfmkodmmbgibgaaGreatDoor
/-
  DERIVED: THE SHELF's CONTRACTS AT THIS DUMP, IN PLAIN WORDS (tools/lay-plain.mjs out of 'TryzShelf.lean', which tools/lay-shelf.mjs wrote): THE SAME DECLARATIONS UNDER THE SAME NAMES: 'import', 'namespace', 'open', 'def', 'theorem' AND NOTHING ELSE: no command of the shelf's: FOR A HAND-IN. Each laying: the table of numbers ('.._ren') and one theorem, a field a fact of the dump's own or the kernel's comparison; each contract: ONE APPLICATION.
-/
namespace Go.Proofs
open Go.Shelf
def Tryz.lays137_ren : Go.Shelf.Ren := ⟨fun | 137 => 124 | 217 => 141 | 266 => 152 | n => n, fun | 9 => 9 | 5 => 5 | 3 => 3 | n => n, fun | n => n⟩
theorem Tryz.lays137 : Go.Proofs.Lays.n137 Tryz.prog Tryz.lays137_ren := {
  mixed := by kernel_rfl
  f137 := Tryz.func124.trans (congrArg some (by kernel_rfl))
  f217 := Tryz.func141.trans (congrArg some (by kernel_rfl))
  f266 := Tryz.func152.trans (congrArg some (by kernel_rfl))
  t3 := Tryz.underlying3
  a3 := Tryz.isAgg3
  z3 := Tryz.sizeOf3
  v3 := Tryz.zeroValue3
  t5 := Tryz.underlying5
  a5 := Tryz.isAgg5
  z5 := Tryz.sizeOf5
  v5 := Tryz.zeroValue5
  t9 := Tryz.underlying9
  a9 := Tryz.isAgg9
  z9 := Tryz.sizeOf9
  v9 := Tryz.zeroValue9 }
open Go.RowKit in
/-- strings.IndexByte: "IndexByte returns the index of the first instance of c in s, or -1 if c is not present in s.": IT RETURNS 'Lib.indexByte s c'; the world is as it was. (LAID: no walk: one application.) -/
theorem Tryz.strings_IndexByte (s : ByteArray) (c : Int) (w : World) :
    Calls Tryz.prog 124 #[.string s, .int .u8 c] w fun e w' => e = .returned (.int .i64 (Lib.indexByte s.data.toList c.toNat.toUInt8)) ∧ w' = w := Any.strings_IndexByte Tryz.lays137 s c w
def Tryz.laysM171_ren : Go.Shelf.Ren := ⟨fun | 171 => 109 | 243 => 127 | 246 => 144 | 283 => 158 | 284 => 159 | 285 => 160 | 286 => 161 | 129 => 140 | 317 => 167 | 318 => 168 | 319 => 169 | 320 => 170 | 337 => 174 | 338 => 175 | n => n, fun | 3 => 3 | 9 => 9 | 2 => 2 | 4 => 4 | 171 => 186 | 0 => 0 | 53 => 170 | 37 => 118 | 5 => 5 | 173 => 188 | 212 => 199 | 51 => 168 | 20 => 20 | 213 => 200 | 46 => 110 | 232 => 207 | 233 => 208 | n => n, fun | 17 => 4 | 18 => 5 | 19 => 6 | n => n⟩
theorem Tryz.laysM171 : Go.Proofs.LaysM.n171 Tryz.prog Tryz.laysM171_ren := {
  mixed := by kernel_rfl
  f129 := Tryz.func140.trans (congrArg some (by kernel_rfl))
  f171 := Tryz.func109.trans (congrArg some (by kernel_rfl))
  f243 := Tryz.func127.trans (congrArg some (by kernel_rfl))
  f246 := Tryz.func144.trans (congrArg some (by kernel_rfl))
  f283 := Tryz.func158.trans (congrArg some (by kernel_rfl))
  f284 := Tryz.func159.trans (congrArg some (by kernel_rfl))
  f285 := Tryz.func160.trans (congrArg some (by kernel_rfl))
  f286 := Tryz.func161.trans (congrArg some (by kernel_rfl))
  f317 := Tryz.func167.trans (congrArg some (by kernel_rfl))
  f318 := Tryz.func168.trans (congrArg some (by kernel_rfl))
  f319 := Tryz.func169.trans (congrArg some (by kernel_rfl))
  f320 := Tryz.func170.trans (congrArg some (by kernel_rfl))
  f337 := Tryz.func174.trans (congrArg some (by kernel_rfl))
  f338 := Tryz.func175.trans (congrArg some (by kernel_rfl))
  t0 := Tryz.underlying0
  a0 := Tryz.isAgg0
  z0 := Tryz.sizeOf0
  v0 := Tryz.zeroValue0
  t2 := Tryz.underlying2
  a2 := Tryz.isAgg2
  z2 := Tryz.sizeOf2
  v2 := Tryz.zeroValue2
  t3 := Tryz.underlying3
  a3 := Tryz.isAgg3
  z3 := Tryz.sizeOf3
  v3 := Tryz.zeroValue3
  t4 := Tryz.underlying4
  a4 := Tryz.isAgg4
  z4 := Tryz.sizeOf4
  v4 := Tryz.zeroValue4
  t5 := Tryz.underlying5
  a5 := Tryz.isAgg5
  z5 := Tryz.sizeOf5
  v5 := Tryz.zeroValue5
  t9 := Tryz.underlying9
  a9 := Tryz.isAgg9
  z9 := Tryz.sizeOf9
  v9 := Tryz.zeroValue9
  t20 := Tryz.underlying20
  a20 := Tryz.isAgg20
  z20 := Tryz.sizeOf20
  v20 := Tryz.zeroValue20
  t37 := Tryz.underlying118
  a37 := Tryz.isAgg118
  z37 := Tryz.sizeOf118
  v37 := Tryz.zeroValue118
  t46 := Tryz.underlying110
  a46 := Tryz.isAgg110
  z46 := Tryz.sizeOf110
  v46 := Tryz.zeroValue110
  t51 := Tryz.underlying168
  a51 := Tryz.isAgg168
  z51 := Tryz.sizeOf168
  v51 := Tryz.zeroValue168
  t53 := Tryz.underlying170
  a53 := Tryz.isAgg170
  z53 := Tryz.sizeOf170
  v53 := Tryz.zeroValue170
  t171 := Tryz.underlying186
  a171 := Tryz.isAgg186
  z171 := Tryz.sizeOf186
  v171 := Tryz.zeroValue186
  t173 := Tryz.underlying188
  a173 := Tryz.isAgg188
  z173 := Tryz.sizeOf188
  v173 := Tryz.zeroValue188
  t212 := Tryz.underlying199
  a212 := Tryz.isAgg199
  z212 := Tryz.sizeOf199
  v212 := Tryz.zeroValue199
  t213 := Tryz.underlying200
  a213 := Tryz.isAgg200
  z213 := Tryz.sizeOf200
  t232 := Tryz.underlying207
  a232 := Tryz.isAgg207
  z232 := Tryz.sizeOf207
  v232 := Tryz.zeroValue207
  t233 := Tryz.underlying208
  a233 := Tryz.isAgg208
  z233 := Tryz.sizeOf208
  v233 := Tryz.zeroValue208
  g17 := by kernel_rfl
  g18 := by kernel_rfl
  g19 := by kernel_rfl
  i0 := by kernel_rfl
  i2 := by kernel_rfl
  i3 := by kernel_rfl
  i4 := by kernel_rfl
  i5 := by kernel_rfl
  i9 := by kernel_rfl
  i20 := by kernel_rfl
  i37 := by kernel_rfl
  i46 := by kernel_rfl
  i51 := by kernel_rfl
  i53 := by kernel_rfl
  i171 := by kernel_rfl
  i173 := by kernel_rfl
  i212 := by kernel_rfl
  i232 := by kernel_rfl
  i233 := by kernel_rfl
  m17 := by kernel_rfl
  m18 := by kernel_rfl
  m19 := by kernel_rfl }
open Go.RowKit Go.Sort Go.Lib in
/-- strconv.Itoa: "Itoa is equivalent to FormatInt(int64(i), 10).": i's DECIMAL NUMERAL ('Lib.itoa': a '-' where i is negative, then the digits), FOR EVERY int. The world behind the call: the world before it, new blocks behind the heap (the library's 'var a [24]byte'), draws. (LAID: no walk: one application.) -/
theorem Tryz.strconv_Itoa (n : Int) (h0 : -9223372036854775808 ≤ n) (h1 : n ≤ 9223372036854775807) (w : World) (htab : Lib.TabIs Tryz.prog w "internal/strconv.uint64pow10" .u64 Lib.pow10Tab) :
    Calls Tryz.prog 109 #[.int .i64 n] w fun e w' => e = .returned (.string ⟨(Lib.itoa n).toArray⟩) ∧ ∃ k os, w' = grow (w.drewN k) os := Any.strconv_Itoa Tryz.laysM171 n h0 h1 w htab
def Tryz.laysC172_ren : Go.Shelf.Ren := ⟨fun | 172 => 126 | 244 => 142 | 245 => 143 | 247 => 153 | 279 => 154 | 280 => 155 | 281 => 156 | 282 => 157 | 287 => 164 | 316 => 165 | 171 => 109 | 205 => 166 | 321 => 172 | 322 => 173 | 243 => 127 | 246 => 144 | 283 => 158 | 284 => 159 | 285 => 160 | 286 => 161 | 129 => 140 | 317 => 167 | 318 => 168 | 319 => 169 | 320 => 170 | 337 => 174 | 338 => 175 | n => n, fun | 9 => 9 | 3 => 3 | 75 => 122 | 76 => 123 | 4 => 4 | 5 => 5 | 167 => 180 | 37 => 118 | 0 => 0 | 85 => 181 | 2 => 2 | 168 => 183 | 53 => 170 | 175 => 193 | 46 => 110 | 210 => 196 | 127 => 146 | 145 => 206 | 143 => 204 | 21 => 21 | 171 => 186 | 173 => 188 | 212 => 199 | 51 => 168 | 20 => 20 | 213 => 200 | 232 => 207 | 233 => 208 | 80 => 126 | n => n, fun | 15 => 2 | 16 => 3 | 17 => 4 | 18 => 5 | 19 => 6 | n => n⟩
theorem Tryz.laysC172 : Go.Proofs.LaysC.n172 Tryz.prog Tryz.laysC172_ren := {
  mixed := by kernel_rfl
  f129 := Tryz.func140.trans (congrArg some (by kernel_rfl))
  f171 := Tryz.func109.trans (congrArg some (by kernel_rfl))
  f172 := Tryz.func126.trans (congrArg some (by kernel_rfl))
  f205 := Tryz.func166.trans (congrArg some (by kernel_rfl))
  f243 := Tryz.func127.trans (congrArg some (by kernel_rfl))
  f244 := Tryz.func142.trans (congrArg some (by kernel_rfl))
  f245 := Tryz.func143.trans (congrArg some (by kernel_rfl))
  f246 := Tryz.func144.trans (congrArg some (by kernel_rfl))
  f247 := Tryz.func153.trans (congrArg some (by kernel_rfl))
  f279 := Tryz.func154.trans (congrArg some (by kernel_rfl))
  f280 := Tryz.func155.trans (congrArg some (by kernel_rfl))
  f281 := Tryz.func156.trans (congrArg some (by kernel_rfl))
  f282 := Tryz.func157.trans (congrArg some (by kernel_rfl))
  f283 := Tryz.func158.trans (congrArg some (by kernel_rfl))
  f284 := Tryz.func159.trans (congrArg some (by kernel_rfl))
  f285 := Tryz.func160.trans (congrArg some (by kernel_rfl))
  f286 := Tryz.func161.trans (congrArg some (by kernel_rfl))
  f287 := Tryz.func164.trans (congrArg some (by kernel_rfl))
  f316 := Tryz.func165.trans (congrArg some (by kernel_rfl))
  f317 := Tryz.func167.trans (congrArg some (by kernel_rfl))
  f318 := Tryz.func168.trans (congrArg some (by kernel_rfl))
  f319 := Tryz.func169.trans (congrArg some (by kernel_rfl))
  f320 := Tryz.func170.trans (congrArg some (by kernel_rfl))
  f321 := Tryz.func172.trans (congrArg some (by kernel_rfl))
  f322 := Tryz.func173.trans (congrArg some (by kernel_rfl))
  f337 := Tryz.func174.trans (congrArg some (by kernel_rfl))
  f338 := Tryz.func175.trans (congrArg some (by kernel_rfl))
  t0 := Tryz.underlying0
  a0 := Tryz.isAgg0
  z0 := Tryz.sizeOf0
  v0 := Tryz.zeroValue0
  t2 := Tryz.underlying2
  a2 := Tryz.isAgg2
  z2 := Tryz.sizeOf2
  v2 := Tryz.zeroValue2
  t3 := Tryz.underlying3
  a3 := Tryz.isAgg3
  z3 := Tryz.sizeOf3
  v3 := Tryz.zeroValue3
  t4 := Tryz.underlying4
  a4 := Tryz.isAgg4
  z4 := Tryz.sizeOf4
  v4 := Tryz.zeroValue4
  t5 := Tryz.underlying5
  a5 := Tryz.isAgg5
  z5 := Tryz.sizeOf5
  v5 := Tryz.zeroValue5
  t9 := Tryz.underlying9
  a9 := Tryz.isAgg9
  z9 := Tryz.sizeOf9
  v9 := Tryz.zeroValue9
  t20 := Tryz.underlying20
  a20 := Tryz.isAgg20
  z20 := Tryz.sizeOf20
  v20 := Tryz.zeroValue20
  t21 := Tryz.underlying21
  a21 := Tryz.isAgg21
  z21 := Tryz.sizeOf21
  v21 := Tryz.zeroValue21
  t37 := Tryz.underlying118
  a37 := Tryz.isAgg118
  z37 := Tryz.sizeOf118
  v37 := Tryz.zeroValue118
  t46 := Tryz.underlying110
  a46 := Tryz.isAgg110
  z46 := Tryz.sizeOf110
  v46 := Tryz.zeroValue110
  t51 := Tryz.underlying168
  a51 := Tryz.isAgg168
  z51 := Tryz.sizeOf168
  v51 := Tryz.zeroValue168
  t53 := Tryz.underlying170
  a53 := Tryz.isAgg170
  z53 := Tryz.sizeOf170
  v53 := Tryz.zeroValue170
  t75 := Tryz.underlying122
  a75 := Tryz.isAgg122
  z75 := Tryz.sizeOf122
  v75 := Tryz.zeroValue122
  t76 := Tryz.underlying123
  a76 := Tryz.isAgg123
  z76 := Tryz.sizeOf123
  v76 := Tryz.zeroValue123
  t85 := Tryz.underlying181
  a85 := Tryz.isAgg181
  z85 := Tryz.sizeOf181
  v85 := Tryz.zeroValue181
  t127 := Tryz.underlying146
  a127 := Tryz.isAgg146
  z127 := Tryz.sizeOf146
  v127 := Tryz.zeroValue146
  t143 := Tryz.underlying204
  a143 := Tryz.isAgg204
  z143 := Tryz.sizeOf204
  v143 := Tryz.zeroValue204
  t145 := Tryz.underlying206
  a145 := Tryz.isAgg206
  z145 := Tryz.sizeOf206
  v145 := Tryz.zeroValue206
  t167 := Tryz.underlying180
  a167 := Tryz.isAgg180
  z167 := Tryz.sizeOf180
  v167 := Tryz.zeroValue180
  t168 := Tryz.underlying183
  a168 := Tryz.isAgg183
  z168 := Tryz.sizeOf183
  v168 := Tryz.zeroValue183
  t171 := Tryz.underlying186
  a171 := Tryz.isAgg186
  z171 := Tryz.sizeOf186
  v171 := Tryz.zeroValue186
  t173 := Tryz.underlying188
  a173 := Tryz.isAgg188
  z173 := Tryz.sizeOf188
  v173 := Tryz.zeroValue188
  t175 := Tryz.underlying193
  a175 := Tryz.isAgg193
  z175 := Tryz.sizeOf193
  v175 := Tryz.zeroValue193
  t210 := Tryz.underlying196
  a210 := Tryz.isAgg196
  z210 := Tryz.sizeOf196
  v210 := Tryz.zeroValue196
  t212 := Tryz.underlying199
  a212 := Tryz.isAgg199
  z212 := Tryz.sizeOf199
  v212 := Tryz.zeroValue199
  t213 := Tryz.underlying200
  a213 := Tryz.isAgg200
  z213 := Tryz.sizeOf200
  t232 := Tryz.underlying207
  a232 := Tryz.isAgg207
  z232 := Tryz.sizeOf207
  v232 := Tryz.zeroValue207
  t233 := Tryz.underlying208
  a233 := Tryz.isAgg208
  z233 := Tryz.sizeOf208
  v233 := Tryz.zeroValue208
  g15 := by kernel_rfl
  g16 := by kernel_rfl
  g17 := by kernel_rfl
  g18 := by kernel_rfl
  g19 := by kernel_rfl
  t80 := Tryz.underlying126
  a80 := Tryz.isAgg126
  z80 := Tryz.sizeOf126
  v80 := Tryz.zeroValue126
  i0 := by kernel_rfl
  i2 := by kernel_rfl
  i3 := by kernel_rfl
  i4 := by kernel_rfl
  i5 := by kernel_rfl
  i9 := by kernel_rfl
  i20 := by kernel_rfl
  i21 := by kernel_rfl
  i37 := by kernel_rfl
  i46 := by kernel_rfl
  i51 := by kernel_rfl
  i53 := by kernel_rfl
  i75 := by kernel_rfl
  i76 := by kernel_rfl
  i80 := by kernel_rfl
  i85 := by kernel_rfl
  i127 := by kernel_rfl
  i143 := by kernel_rfl
  i145 := by kernel_rfl
  i167 := by kernel_rfl
  i168 := by kernel_rfl
  i171 := by kernel_rfl
  i173 := by kernel_rfl
  i175 := by kernel_rfl
  i210 := by kernel_rfl
  i212 := by kernel_rfl
  i232 := by kernel_rfl
  i233 := by kernel_rfl
  m15 := by kernel_rfl
  m16 := by kernel_rfl
  m17 := by kernel_rfl
  m18 := by kernel_rfl
  m19 := by kernel_rfl
  c0 := by kernel_rfl
  c2 := by kernel_rfl
  c3 := by kernel_rfl
  c4 := by kernel_rfl
  c5 := by kernel_rfl
  c9 := by kernel_rfl
  c20 := by kernel_rfl
  c21 := by kernel_rfl
  c37 := by kernel_rfl
  c46 := by kernel_rfl
  c51 := by kernel_rfl
  c53 := by kernel_rfl
  c75 := by kernel_rfl
  c76 := by kernel_rfl
  c80 := by kernel_rfl
  c85 := by kernel_rfl
  c127 := by kernel_rfl
  c143 := by kernel_rfl
  c145 := by kernel_rfl
  c167 := by kernel_rfl
  c168 := by kernel_rfl
  c171 := by kernel_rfl
  c173 := by kernel_rfl
  c175 := by kernel_rfl
  c210 := by kernel_rfl
  c212 := by kernel_rfl
  c213 := by kernel_rfl
  c232 := by kernel_rfl
  c233 := by kernel_rfl }
open Go.RowKit in
/-- strconv.Atoi, AT EVERY STRING THAT SPELLS AN int ('Lib.atoiAll .. = .ok v'; of whatever length: leading zeros count): v, AND NO ERROR. The world: as it was, or with the one new row that '[]byte(..)' lays. (LAID: no walk: one application.) -/
theorem Tryz.strconv_Atoi_ok (s : ByteArray) (hmax : s.size ≤ 9223372036854775806) (v : Int) (h : Lib.atoiAll s.data.toList = .ok v) (w : World) :
    Calls Tryz.prog 126 #[.string s] w fun e w' => e = .returned (.tuple #[.int .i64 v, .nilIface]) ∧ (w' = w ∨ ∃ t, w' = Lib.bytesWorld w 5 t) := Any.strconv_Atoi_ok Tryz.laysC172 s hmax v h w
open Go.RowKit in
theorem Tryz.strconv_Atoi_syntax_var (s : ByteArray) (hlim : s.size ≤ 281474976710656) (h : Lib.atoiAll s.data.toList = .«syntax») (tp : TypeId) (p : Value) (w : World) (hvar : w.var? Tryz.prog "strconv.ErrSyntax" = some #[.iface tp p]) :
    Calls Tryz.prog 126 #[.string s] w fun e w' => ∃ N, e = .returned (.tuple #[.int .i64 0, .iface 183 (.pointer (some ⟨N, 0, none⟩))]) ∧ w.heap.size ≤ N ∧ w'.heap[N]? = some (.cells #[.string ⟨#[65, 116, 111, 105]⟩, .string s, .iface tp p] 196 (0, 0)) ∧ Below w.heap.size w w' := Any.strconv_Atoi_syntax_var Tryz.laysC172 s hlim h tp p w hvar
open Go.RowKit in
theorem Tryz.strconv_Atoi_range_var (s : ByteArray) (hlim : s.size ≤ 281474976710656) (h : Lib.atoiAll s.data.toList = .range) (tp : TypeId) (p : Value) (w : World) (hvar : w.var? Tryz.prog "strconv.ErrRange" = some #[.iface tp p]) :
    Calls Tryz.prog 126 #[.string s] w fun e w' => ∃ N, e = .returned (.tuple #[.int .i64 (Lib.atoiSat s.data.toList), .iface 183 (.pointer (some ⟨N, 0, none⟩))]) ∧ w.heap.size ≤ N ∧ w'.heap[N]? = some (.cells #[.string ⟨#[65, 116, 111, 105]⟩, .string s, .iface tp p] 196 (0, 0)) ∧ Below w.heap.size w w' := Any.strconv_Atoi_range_var Tryz.laysC172 s hlim h tp p w hvar
def Tryz.lays189_ren : Go.Shelf.Ren := ⟨fun | 189 => 90 | 125 => 117 | 257 => 116 | 128 => 139 | 129 => 140 | 294 => 130 | 295 => 131 | 296 => 132 | 297 => 133 | 298 => 134 | 299 => 135 | 216 => 136 | 300 => 137 | 301 => 138 | 328 => 146 | 329 => 147 | 330 => 148 | 331 => 149 | 332 => 150 | 215 => 151 | 343 => 163 | n => n, fun | 28 => 40 | 3 => 3 | 46 => 110 | 0 => 0 | 51 => 168 | 53 => 170 | 4 => 4 | 183 => 162 | 182 => 161 | 131 => 153 | 5 => 5 | 9 => 9 | 218 => 174 | 222 => 178 | 228 => 190 | 229 => 191 | n => n, fun | n => n⟩
theorem Tryz.lays189 : Go.Proofs.Lays.n189 Tryz.prog Tryz.lays189_ren := {
  mixed := by kernel_rfl
  f125 := Tryz.func117.trans (congrArg some (by kernel_rfl))
  f128 := Tryz.func139.trans (congrArg some (by kernel_rfl))
  f129 := Tryz.func140.trans (congrArg some (by kernel_rfl))
  f189 := Tryz.func90.trans (congrArg some (by kernel_rfl))
  f215 := Tryz.func151.trans (congrArg some (by kernel_rfl))
  f216 := Tryz.func136.trans (congrArg some (by kernel_rfl))
  f257 := Tryz.func116.trans (congrArg some (by kernel_rfl))
  f294 := Tryz.func130.trans (congrArg some (by kernel_rfl))
  f295 := Tryz.func131.trans (congrArg some (by kernel_rfl))
  f296 := Tryz.func132.trans (congrArg some (by kernel_rfl))
  f297 := Tryz.func133.trans (congrArg some (by kernel_rfl))
  f298 := Tryz.func134.trans (congrArg some (by kernel_rfl))
  f299 := Tryz.func135.trans (congrArg some (by kernel_rfl))
  f300 := Tryz.func137.trans (congrArg some (by kernel_rfl))
  f301 := Tryz.func138.trans (congrArg some (by kernel_rfl))
  f328 := Tryz.func146.trans (congrArg some (by kernel_rfl))
  f329 := Tryz.func147.trans (congrArg some (by kernel_rfl))
  f330 := Tryz.func148.trans (congrArg some (by kernel_rfl))
  f331 := Tryz.func149.trans (congrArg some (by kernel_rfl))
  f332 := Tryz.func150.trans (congrArg some (by kernel_rfl))
  f343 := Tryz.func163.trans (congrArg some (by kernel_rfl))
  t0 := Tryz.underlying0
  a0 := Tryz.isAgg0
  z0 := Tryz.sizeOf0
  v0 := Tryz.zeroValue0
  t3 := Tryz.underlying3
  a3 := Tryz.isAgg3
  z3 := Tryz.sizeOf3
  v3 := Tryz.zeroValue3
  t4 := Tryz.underlying4
  a4 := Tryz.isAgg4
  z4 := Tryz.sizeOf4
  v4 := Tryz.zeroValue4
  t5 := Tryz.underlying5
  a5 := Tryz.isAgg5
  z5 := Tryz.sizeOf5
  v5 := Tryz.zeroValue5
  t9 := Tryz.underlying9
  a9 := Tryz.isAgg9
  z9 := Tryz.sizeOf9
  v9 := Tryz.zeroValue9
  t28 := Tryz.underlying40
  a28 := Tryz.isAgg40
  z28 := Tryz.sizeOf40
  v28 := Tryz.zeroValue40
  t46 := Tryz.underlying110
  a46 := Tryz.isAgg110
  z46 := Tryz.sizeOf110
  v46 := Tryz.zeroValue110
  t51 := Tryz.underlying168
  a51 := Tryz.isAgg168
  z51 := Tryz.sizeOf168
  v51 := Tryz.zeroValue168
  t53 := Tryz.underlying170
  a53 := Tryz.isAgg170
  z53 := Tryz.sizeOf170
  v53 := Tryz.zeroValue170
  t131 := Tryz.underlying153
  a131 := Tryz.isAgg153
  z131 := Tryz.sizeOf153
  v131 := Tryz.zeroValue153
  t182 := Tryz.underlying161
  a182 := Tryz.isAgg161
  z182 := Tryz.sizeOf161
  v182 := Tryz.zeroValue161
  t183 := Tryz.underlying162
  a183 := Tryz.isAgg162
  z183 := Tryz.sizeOf162
  v183 := Tryz.zeroValue162
  t218 := Tryz.underlying174
  a218 := Tryz.isAgg174
  z218 := Tryz.sizeOf174
  v218 := Tryz.zeroValue174
  t222 := Tryz.underlying178
  a222 := Tryz.isAgg178
  z222 := Tryz.sizeOf178
  v222 := Tryz.zeroValue178
  t228 := Tryz.underlying190
  a228 := Tryz.isAgg190
  z228 := Tryz.sizeOf190
  v228 := Tryz.zeroValue190
  t229 := Tryz.underlying191
  a229 := Tryz.isAgg191
  z229 := Tryz.sizeOf191
  v229 := Tryz.zeroValue191 }
open Go.Sort Go.RowKit in
theorem Tryz.slices_Sort_int (blk off cap : Nat) (zs : List Int) (w : World) (hH : Holds (Value.int .i64) w blk off zs.toArray) (hblk : blk < w.heap.size) (hsz : zs.length < 4611686018427387904) :
    Calls Tryz.prog 90 #[.slice (some ⟨blk, off, none⟩) zs.length cap] w fun e w' =>
      e = .returned (.tuple #[]) ∧ ∃ n os, w' = grow (putRow (Value.int .i64) (Sort.ahead w n) blk off (zs.mergeSort fun x y => decide (x ≤ y)).toArray) os := Any.slices_Sort_int Tryz.lays189 blk off cap zs w hH hblk hsz
def Tryz.lays206_ren : Go.Shelf.Ren := ⟨fun | 206 => 171 | n => n, fun | 9 => 9 | 4 => 4 | 3 => 3 | n => n, fun | n => n⟩
theorem Tryz.lays206 : Go.Proofs.Lays.n206 Tryz.prog Tryz.lays206_ren := {
  mixed := by kernel_rfl
  f206 := Tryz.func171.trans (congrArg some (by kernel_rfl))
  t3 := Tryz.underlying3
  a3 := Tryz.isAgg3
  z3 := Tryz.sizeOf3
  v3 := Tryz.zeroValue3
  t4 := Tryz.underlying4
  a4 := Tryz.isAgg4
  z4 := Tryz.sizeOf4
  v4 := Tryz.zeroValue4
  t9 := Tryz.underlying9
  a9 := Tryz.isAgg9
  z9 := Tryz.sizeOf9
  v9 := Tryz.zeroValue9 }
open Go.RowKit Go.Lib in
/-- internal/stringslite.HasPrefix (what strings.HasPrefix calls). (LAID: no walk: one application.) -/
theorem Tryz.stringslite_HasPrefix (s p : ByteArray) (w : World) :
    Calls Tryz.prog 171 #[.string s, .string p] w fun e w' => e = .returned (.bool (Lib.hasPrefix s.data.toList p.data.toList)) ∧ w' = w := Any.stringslite_HasPrefix Tryz.lays206 s p w
open Go.RowKit Go.Sort in
/-- .. and plain. (LAID: no walk: one application.) -/
theorem Tryz.slices_Sort_int_none (p : Option Addr) (cap : Nat) (w : World) :
    Calls Tryz.prog 90 #[.slice p 0 cap] w fun e w' => e = .returned (.tuple #[]) ∧ w' = w := Any.slices_Sort_int_none Tryz.lays189 p cap w
end Go.Proofs
/- ints sorted -/
namespace Go.Proofs.YtfmkodmmbgibgaaGreatDoor
open Go.RowKit M
set_option linter.unusedVariables false
theorem sortI0 {w : World} {v : Value} {l : List Int} {As : List Th} (hS : Sat w (rowT inC v l :: As)) (hl : l.length < 4611686018427387904) : Calls Tryz.prog 90 #[v] w (Ret fun u w' => u = .tuple #[] ∧ Sat w' (rowT inC v (sortI l) :: As)) :=
  calls_sortI (fun blk off cap ss w h1 h2 h3 => Tryz.slices_Sort_int blk off cap ss w h1 h2 h3) (fun p cap w => Tryz.slices_Sort_int_none p cap w) hS hl
end Go.Proofs.YtfmkodmmbgibgaaGreatDoor
