/- wire: numbers -/
import Derived.Test.YtfmkodmmbgibgaaGreatDoorCellP
import Derived.Test.YtfmkodmmbgibgaaGreatDoorRefw
namespace Go.Proofs.YtfmkodmmbgibgaaGreatDoor
open Go.RowKit M
set_option linter.unusedVariables false
theorem sat_grow {w : World} {As : List Th} (hS : Sat w As) (k : Nat) (os : Array Obj) : Sat (Go.Sort.grow (w.drewN k) os) As := by
  refine hS.only ⟨rfl, rfl, rfl, by simp [Go.Sort.grow], fun j hj _ => ?_⟩
  have : j < (w.drewN k).heap.size := hj
  show (w.heap ++ os)[j]? = w.heap[j]?
  rw [Array.getElem?_append_left hj]
structure WireG (w : World) : Prop where
  tab : Lib.TabIs Tryz.prog w "internal/strconv.uint64pow10" .u64 Lib.pow10Tab
  syn : ∃ tp p, w.var? Tryz.prog "strconv.ErrSyntax" = some #[.iface tp p]
  rng : ∃ tp p, w.var? Tryz.prog "strconv.ErrRange" = some #[.iface tp p]
theorem var_below {P : Program} {W w : World} {name : String} {v : Array Value} (h : W.var? P name = some v) (hb : RowKit.Below W.heap.size W w) : w.var? P name = some v := by
  unfold World.var? at *
  cases hg : P.globalNamed name with
  | none => simp [hg] at h
  | some g =>
    simp only [hg, Option.bind_some] at h ⊢
    have hlt : g < W.heap.size := by
      rcases Nat.lt_or_ge g W.heap.size with q | q
      · exact q
      · rw [Array.getElem?_eq_none q] at h; cases h
    rw [hb.block g hlt]; exact h
theorem WireG.below {W w : World} (h : WireG W) (hb : RowKit.Below W.heap.size W w) : WireG w :=
  ⟨var_below h.tab hb, let ⟨a, b, h⟩ := h.syn; ⟨a, b, var_below h hb⟩, let ⟨a, b, h⟩ := h.rng; ⟨a, b, var_below h hb⟩⟩
theorem itoa0 {w : World} {As : List Th} (hS : Sat w As) (hG : WireG w) (n : Int) (hn : inI n) : Calls Tryz.prog 109 #[intV n] w (Ret fun v w' => v = strV (Lib.itoa n) ∧ Sat w' As) :=
  (Tryz.strconv_Itoa n hn.1 hn.2 w hG.tab).mono fun e w' ⟨h1, k, os, h2⟩ => ⟨_, h1, rfl, by rw [h2]; exact sat_grow hS k os⟩
theorem wInt_sp {w : World} {F : Th} (hS : Sat w [F]) (hG : Ent F WireG) (n : Int) (hn : inI n) :
    Calls Tryz.prog 78 #[intV n] w (Ret fun v w' => v = strV (Lib.itoa n ++ [59]) ∧ Sat w' [F]) := by
  refine calls_enter Tryz.func78 rfl Tryz.ntmps78 rfl ?_
  have hil := (itoa_len hn).1
  refine wc_seq ?_
  refine wc_region ?_
  refine wl_assign rfl rfl ?_
  refine wl_nil ?_
  refine qs_seq ?_
  refine wc_seq ?_
  refine wc_region ?_
  refine wl_move rfl rfl ?_
  have hC1 := hS.split [] [false] rfl; dsimp only [selF, pickA, nthA, List.cons_append, List.nil_append] at hC1
  refine wl_call cal_109 rfl (itoa0 hC1 (Ent.sat (hG.starL 0 rfl) hC1 0 rfl) n hn) rfl ?_
  rintro e w1 ⟨_, rfl, rfl, hS1⟩; refine ⟨_, rfl, ?_⟩
  replace hS1 := hS1.join rfl; dsimp only [List.dropLast, List.cons_append, List.nil_append] at hS1; clear hC1
  refine wl_concat rfl rfl (by first | omega | (simp; omega)) rfl ?_
  refine wl_assign rfl rfl ?_
  refine wl_nil ?_
  refine qs_seq ?_
  refine wc_ret ?_
  refine fin1 (.inr rfl) rfl rfl ?_
  exact ⟨_, rfl, rfl, hS1⟩
def readT (b : Nat) (s : Bs × Bool) : Th := blkT b [strV s.1, .bool s.2]
theorem wOpen_sp {w : World} {F : Th} (hS : Sat w [F]) (s : Bs) :
    Calls Tryz.prog 76 #[strV s] w (Ret fun v w' => ∃ b, v = ptrV b 0 ∧ Sat w' [readT b (s, false), F]) := by
  refine calls_enter Tryz.func76 rfl Tryz.ntmps76 rfl ?_
  refine wc_seq ?_
  refine wc_region ?_
  refine wl_assign rfl rfl ?_
  refine wl_nil ?_
  refine qs_seq ?_
  refine wc_seq ?_
  refine wc_region ?_
  refine wl_move rfl rfl ?_
  refine wl_buildS rfl pl_143_0 asz_143 zr_143 rfl rfl ?_
  refine wl_box hS rfl rfl rfl ?_
  intro b1 w1 hS1
  refine wl_assign rfl rfl ?_
  refine wl_nil ?_
  refine qs_seq ?_
  refine wc_ret ?_
  refine fin1 (.inr rfl) rfl rfl ?_
  exact ⟨_, rfl, _, rfl, hS1⟩
theorem wFail_sp {w : World} {F : Th} {b : Nat} {s : Bs × Bool} (hS : Sat w [readT b s, F]) :
    Calls Tryz.prog 125 #[ptrV b 0] w (Ret fun v w' => v = .tuple #[] ∧ Sat w' [readT b ([], true), F]) := by
  refine calls_enter Tryz.func125 rfl Tryz.ntmps125 rfl ?_
  refine wc_region ?_
  refine wl_move rfl rfl ?_
  refine wl_move rfl rfl ?_
  refine wl_nilCheck rfl rfl ?_
  refine wl_fieldAddr rfl fo_143_0 rfl ?_
  first | (refine wl_store hS rfl rfl sz_9 (by first | rfl | assumption) (i := 0) rfl (by first | decide | exact Nat.le_of_ble_eq_true rfl | (simp; done) | omega) ?_)
  intro w1 hS2; dsimp only [List.set] at hS2
  refine wl_nilCheck rfl rfl ?_
  refine wl_fieldAddr rfl fo_143_1 rfl ?_
  first | (refine wl_store hS2 rfl rfl sz_4 (by first | rfl | assumption) (i := 0) rfl (by first | decide | exact Nat.le_of_ble_eq_true rfl | (simp; done) | omega) ?_)
  intro w3 hS4; dsimp only [List.set] at hS4
  clear hS2
  refine wl_nil ?_
  refine fin0 (.inl rfl) rfl ?_
  exact ⟨_, rfl, rfl, hS4⟩
theorem isErr : isIface Tryz.prog 122 = true := by kernel_rfl
theorem atoi0 {w : World} {As : List Th} (hS : Sat w As) (hG : WireG w) (s : Bs) (hs : s.length ≤ 20000000) : Calls Tryz.prog 126 #[strV s] w (Ret fun v w' => (∃ x ev g, v = .tuple #[intV x, ev] ∧ ((ev = .nilIface ∧ g = false) ∨ ∃ a b, ev = .iface a b ∧ g = true) ∧ (g = false → Lib.atoiAll s = .ok x) ∧ (g = true → ∀ n, Lib.atoiAll s ≠ .ok n)) ∧ Sat w' As) := by
  cases h : Lib.atoiAll s with
  | ok n =>
    refine (Tryz.strconv_Atoi_ok ⟨s.toArray⟩ (by simp [ByteArray.size]; omega) n h w).mono fun e w' ⟨h1, h2⟩ => ⟨_, h1, ⟨n, _, false, rfl, .inl ⟨rfl, rfl⟩, (fun _ => rfl), (fun q => by cases q)⟩, ?_⟩
    rcases h2 with rfl | ⟨t, rfl⟩
    · exact hS
    · exact hS.belowAll (Lib.bytesWorld_below _ _ _)
  | «syntax» =>
    obtain ⟨tp, p, hv⟩ := hG.syn
    exact (Tryz.strconv_Atoi_syntax_var ⟨s.toArray⟩ (by simp [ByteArray.size]; omega) h tp p w hv).mono fun e w' ⟨N, h1, _, _, h2⟩ => ⟨_, h1, ⟨0, _, true, rfl, .inr ⟨_, _, rfl, rfl⟩, (fun q => by cases q), (fun _ n q => by cases q)⟩, hS.belowAll h2⟩
  | range =>
    obtain ⟨tp, p, hv⟩ := hG.rng
    exact (Tryz.strconv_Atoi_range_var ⟨s.toArray⟩ (by simp [ByteArray.size]; omega) h tp p w hv).mono fun e w' ⟨N, h1, _, _, h2⟩ => ⟨_, h1, ⟨_, _, true, rfl, .inr ⟨_, _, rfl, rfl⟩, (fun q => by cases q), (fun _ n q => by cases q)⟩, hS.belowAll h2⟩
theorem ixb0 {w : World} {As : List Th} (hS : Sat w As) (s : Bs) (e : UInt8) : Calls Tryz.prog 124 #[strV s, byteV e] w (Ret fun v w' => v = intV (Lib.indexByte s e) ∧ Sat w' As) := by
  refine (Tryz.strings_IndexByte ⟨s.toArray⟩ (e.toNat : Int) w).mono fun e' w' ⟨h1, h2⟩ => ⟨_, h1, ?_, by rw [h2]; exact hS⟩
  simp
def numV (e : UInt8) (least : Int) (s : Bs × Bool) : Int := match numP e least s.1 with | some (n, _) => n | none => 0
def numR (e : UInt8) (least : Int) (s : Bs × Bool) : Bs × Bool := match numP e least s.1 with | some (_, r) => (r, s.2) | none => ([], true)
theorem num_none {e : UInt8} {least : Int} {s : Bs × Bool} (h : numP e least s.1 = none) : numV e least s = 0 ∧ numR e least s = ([], true) := by simp [numV, numR, h]
theorem num_some {e : UInt8} {least n : Int} {s : Bs × Bool} {r : Bs} (h : numP e least s.1 = some (n, r)) : numV e least s = n ∧ numR e least s = (r, s.2) := by simp [numV, numR, h]
theorem num_neg {e : UInt8} {least : Int} {r : Bs} (h : Lib.indexByte (r.take 21) e < 0) : numP e least r = none := by unfold numP; rw [if_pos h]
theorem num_at {e : UInt8} {least : Int} {r : Bs} {o : Nat} (h : Lib.indexByte (r.take 21) e = (o : Int)) : numP e least r = match Lib.atoiAll ((r.take 21).take o) with | .ok n => if Lib.itoa n = (r.take 21).take o ∧ least ≤ n then some (n, r.drop (o + 1)) else none | _ => none := by
  unfold numP; rw [h, if_neg (by omega)]; rfl
theorem num_bad {e : UInt8} {least : Int} {r : Bs} {o : Nat} (h : Lib.indexByte (r.take 21) e = (o : Int)) (h2 : ∀ n, Lib.atoiAll ((r.take 21).take o) ≠ .ok n) : numP e least r = none := by
  rw [num_at h]
  cases hq : Lib.atoiAll ((r.take 21).take o) with
  | ok n => exact absurd hq (h2 n)
  | «syntax» => rfl
  | range => rfl
theorem num_not {e : UInt8} {least x : Int} {r : Bs} {o : Nat} (h : Lib.indexByte (r.take 21) e = (o : Int)) (h2 : Lib.atoiAll ((r.take 21).take o) = .ok x) (h3 : ¬ (Lib.itoa x = (r.take 21).take o ∧ least ≤ x)) : numP e least r = none := by
  rw [num_at h, h2]; dsimp only; rw [if_neg h3]
theorem num_yes {e : UInt8} {least x : Int} {r : Bs} {o : Nat} (h : Lib.indexByte (r.take 21) e = (o : Int)) (h2 : Lib.atoiAll ((r.take 21).take o) = .ok x) (h3 : Lib.itoa x = (r.take 21).take o ∧ least ≤ x) : numP e least r = some (x, r.drop (o + 1)) := by
  rw [num_at h, h2]; dsimp only; rw [if_pos h3]
set_option maxRecDepth 100000 in
theorem number_sp {w : World} {F : Th} {b : Nat} {s : Bs × Bool} (hS : Sat w [readT b s, F]) (hG : Ent F WireG) (e : UInt8) (least : Int) (hrl : s.1.length ≤ 9223372036854775806) :
    Calls Tryz.prog 108 #[ptrV b 0, byteV e, intV least] w (Ret fun v w' => v = intV (numV e least s) ∧ Sat w' [readT b (numR e least s), F]) := by
  obtain ⟨r, q⟩ := s
  dsimp only at hrl
  change Sat w [blkT b [strV r, .bool q], F] at hS
  refine calls_enter Tryz.func108 rfl Tryz.ntmps108 rfl ?_
  refine wc_seq ?_
  refine wc_region ?_
  refine wl_assign rfl rfl ?_
  refine wl_nil ?_
  refine qs_seq ?_
  refine wc_seq ?_
  have hS1 := hS.drew
  refine wc_draw [0, 1, 2, 3, 4, 5, 6, 7, 8, 9, 10, 11] [] mix (by kernel_rfl) ?_
  refine vc_p rfl rfl rfl (fun _ => (ev_move rfl)) ?_
  refine vc_p rfl rfl rfl (fun _ => (ev_nilCheck rfl)) ?_
  refine vc_p rfl rfl rfl (fun _ => (ev_fieldAddr rfl fo_143_0)) ?_
  refine vc_q rfl rfl rfl (ev_load rfl ag_9 (by first | assumption | exact hS1.cell 0 rfl rfl)) ?_
  refine vc_p rfl rfl rfl (fun _ => (ev_move rfl)) ?_
  refine vc_p rfl rfl rfl (fun _ => (ev_nilCheck rfl)) ?_
  refine vc_p rfl rfl rfl (fun _ => (ev_fieldAddr rfl fo_143_0)) ?_
  refine vc_q rfl rfl rfl (ev_load rfl ag_9 (by first | assumption | exact hS1.cell 0 rfl rfl)) ?_
  refine vc_p rfl rfl rfl (fun _ => (ev_lenS Tryz.underlying9 rfl)) ?_
  refine vc_p rfl rfl rfl (fun _ => (ev_minI rfl rfl)) ?_
  refine vc_p rfl rfl rfl (fun _ => (ev_sliceS 0 (min 21 r.length) Tryz.underlying9 rfl (bndN _) (bndS (min 21 r.length) _ rfl (by omega)) (by omega) (by omega))) ?_
  refine vc_p rfl rfl rfl (fun _ => (ev_assign rfl)) ?_
  refine VC.nil ?_
  rw [show List.drop 0 (List.take (min 21 r.length) r) = r.take 21 by rw [List.drop_zero, ← List.take_eq_take_min]]
  refine qs_seq ?_
  refine wc_sub (L' := [(7, _), (6, _), (0, _), (1, _), (2, _)]) (.cons rfl (.cons rfl (.cons rfl (.cons rfl (.cons rfl .nil))))) ?_
  refine wc_seq ?_
  refine wc_region ?_
  refine wl_move rfl rfl ?_
  refine wl_move rfl rfl ?_
  have hC2 := hS1.split [] [false, false] rfl; dsimp only [selF, pickA, nthA, List.cons_append, List.nil_append] at hC2
  refine wl_call cal_124 rfl (ixb0 hC2 _ e) rfl ?_
  rintro e w2 ⟨_, rfl, rfl, hS2⟩; refine ⟨_, rfl, ?_⟩
  replace hS2 := hS2.join rfl; dsimp only [List.dropLast, List.cons_append, List.nil_append] at hS2; clear hC2
  clear hS1
  refine wl_assign rfl rfl ?_
  refine wl_nil ?_
  refine qs_seq ?_
  refine wc_seq ?_
  refine wc_seq ?_
  refine wc_region ?_
  refine wl_move rfl rfl ?_
  refine wl_lss rfl rfl rfl ?_
  refine wl_nil ?_
  refine qs_seq ?_
  refine wc_sub (L' := [(26, _), (8, _), (7, _), (6, _), (0, _), (2, _)]) (.cons rfl (.cons rfl (.cons rfl (.cons rfl (.cons rfl (.cons rfl .nil)))))) ?_
  refine wc_condD rfl (fun h3 => ?_) (fun h3 => ?_)
  · skip
    refine wc_seq ?_
    refine wc_region ?_
    refine wl_move rfl rfl ?_
    have hC4 := hS2.split [0] [true, false] rfl; dsimp only [selF, pickA, nthA, List.cons_append, List.nil_append] at hC4
    refine wl_call cal_125 rfl (wFail_sp (s := (r, q)) hC4) rfl ?_
    rintro e w4 ⟨_, rfl, rfl, hS4⟩; refine ⟨_, rfl, ?_⟩
    replace hS4 := hS4.join rfl; dsimp only [List.dropLast, List.cons_append, List.nil_append] at hS4; clear hC4
    clear hS2
    refine wl_nil ?_
    refine qs_seq ?_
    refine wc_seq ?_
    refine wc_region ?_
    refine wl_assign rfl rfl ?_
    refine wl_nil ?_
    refine qs_seq ?_
    refine wc_ret ?_
    refine qs_then_ret ?_
    refine fin1 (.inr rfl) rfl rfl ?_
    have hnp : numP e least r = none := num_neg (by assumption)
    exact ⟨_, rfl, by rw [(num_none (s := (r, q)) hnp).1], by rw [(num_none (s := (r, q)) hnp).2]; exact hS4⟩
  obtain ⟨o, hio⟩ : ∃ o : Nat, Lib.indexByte (r.take 21) e = (o : Int) := ⟨(Lib.indexByte (r.take 21) e).toNat, by omega⟩
  have hol := (List.getElem?_eq_some_iff.1 (Lib.indexByte_some hio).1).1
  have hol2 : o < r.length := by simp at hol; omega
  have htl : (r.take 21).length ≤ 21 := by simp; omega
  rw [hio]
  refine wc_skip ?_
  refine qs_seq ?_
  refine wc_seq ?_
  refine wc_region ?_
  refine wl_move rfl rfl ?_
  refine wl_move rfl rfl ?_
  refine wl_sliceS 0 o Tryz.underlying9 rfl (bndN _) (bndS o _ rfl rfl) (by omega) (by omega) rfl ?_
  rw [List.drop_zero]
  have hC5 := hS2.split [] [false, false] rfl; dsimp only [selF, pickA, nthA, List.cons_append, List.nil_append] at hC5
  refine wl_call cal_126 rfl (atoi0 hC5 (Ent.sat (hG.starL 1 rfl) hC5 0 rfl) _ (by simp; omega)) rfl ?_
  rintro e w5 ⟨_, rfl, ⟨x, ev, g, rfl, hev, hok, hbad⟩, hS5⟩; refine ⟨_, rfl, ?_⟩
  replace hS5 := hS5.join rfl; dsimp only [List.dropLast, List.cons_append, List.nil_append] at hS5; clear hC5
  clear hS2
  refine wl_move rfl rfl ?_
  refine wl_extract rfl rfl rfl ?_
  refine wl_extract rfl rfl rfl ?_
  refine wl_assign rfl rfl ?_
  refine wl_assign rfl rfl ?_
  refine wl_nil ?_
  refine qs_seq ?_
  refine wc_sub (L' := [(10, _), (9, _), (8, _), (7, _), (6, _), (0, _), (2, _)]) (.cons rfl (.cons rfl (.cons rfl (.cons rfl (.cons rfl (.cons rfl (.cons rfl .nil))))))) ?_
  refine wc_seq ?_
  refine wc_seq ?_
  have hS6 := hS5.drew
  refine wc_draw [0, 1, 2, 3, 5, 6, 7, 4, 8, 9, 10, 11, 12, 13, 14] [4] mix (by kernel_rfl) ?_
  refine vc_p rfl rfl rfl (fun _ => (ev_move rfl)) ?_
  refine vc_p rfl rfl rfl (fun _ => (ev_neqIfNil isErr hev rfl)) ?_
  refine vc_p rfl rfl rfl (fun _ => (ev_move rfl)) ?_
  refine vc_split 38 rfl (fun h7 => ?_) (fun h7 => ?_)
  · skip
    refine vc_not rfl rfl (guard_no rfl rfl h7) ?_
    refine vc_not rfl rfl (guard_no rfl rfl h7) ?_
    refine vc_not rfl rfl (guard_no rfl rfl h7) ?_
    refine vc_not rfl rfl (guard_no rfl rfl h7) ?_
    refine VC.spineNot rfl rfl (guard_no rfl rfl h7) ?_
    refine vc_not rfl rfl (guard_no rfl rfl h7) ?_
    refine vc_p rfl rfl rfl (fun _ => (ev_pickT rfl h7 rfl)) ?_
    refine vc_p rfl rfl rfl (fun _ => (ev_move rfl)) ?_
    refine vc_not rfl rfl (guard_no rfl rfl rfl) ?_
    refine vc_not rfl rfl (guard_no rfl rfl rfl) ?_
    refine vc_not rfl rfl (guard_no rfl rfl rfl) ?_
    refine vc_p rfl rfl rfl (fun _ => (ev_pickT rfl rfl rfl)) ?_
    refine VC.nil ?_
    refine qs_seq ?_
    refine wc_sub (L' := [(50, _), (9, _), (8, _), (6, _), (0, _)]) (.cons rfl (.cons rfl (.cons rfl (.cons rfl (.cons rfl .nil))))) ?_
    refine wc_condT rfl ?_
    refine wc_seq ?_
    refine wc_region ?_
    refine wl_move rfl rfl ?_
    have hC8 := hS6.split [0] [true, false] rfl; dsimp only [selF, pickA, nthA, List.cons_append, List.nil_append] at hC8
    refine wl_call cal_125 rfl (wFail_sp (s := (r, q)) hC8) rfl ?_
    rintro e w8 ⟨_, rfl, rfl, hS8⟩; refine ⟨_, rfl, ?_⟩
    replace hS8 := hS8.join rfl; dsimp only [List.dropLast, List.cons_append, List.nil_append] at hS8; clear hC8
    clear hS6
    refine wl_nil ?_
    refine qs_seq ?_
    refine wc_seq ?_
    refine wc_region ?_
    refine wl_assign rfl rfl ?_
    refine wl_nil ?_
    refine qs_seq ?_
    refine wc_ret ?_
    refine qs_then_ret ?_
    refine fin1 (.inr rfl) rfl rfl ?_
    have hnp : numP e least r = none := num_bad hio (hbad (by assumption))
    exact ⟨_, rfl, by rw [(num_none (s := (r, q)) hnp).1], by rw [(num_none (s := (r, q)) hnp).2]; exact hS8⟩
  refine vc_p rfl rfl (guard_yes rfl rfl h7) (fun _ => (Ev.gd (ev_move rfl))) ?_
  refine vc_p rfl rfl (guard_yes rfl rfl h7) (fun _ => (Ev.gd (ev_move rfl))) ?_
  refine vc_p rfl rfl (guard_yes rfl rfl h7) (fun _ => (Ev.gd (ev_move rfl))) ?_
  refine vc_p rfl rfl (guard_yes rfl rfl h7) (fun _ => (Ev.gd (ev_sliceS 0 o Tryz.underlying9 rfl (bndN _) (bndS o _ rfl rfl) (by omega) (by omega)))) ?_
  refine vc_s rfl rfl (guard_yes rfl rfl h7) rfl rfl rfl ?_
  have hC9 := hS6.split [] [false, false] rfl; dsimp only [selF, pickA, nthA, List.cons_append, List.nil_append] at hC9
  refine wl_call cal_109 rfl (itoa0 hC9 (Ent.sat (hG.starL 1 rfl) hC9 0 rfl) x (atoi_in (hok (by assumption)))) rfl ?_
  rintro e w9 ⟨_, rfl, rfl, hS9⟩; refine ⟨_, rfl, ?_⟩
  replace hS9 := hS9.join rfl; dsimp only [List.dropLast, List.cons_append, List.nil_append] at hS9; clear hC9
  clear hS6
  refine vc_e .nil ?_
  refine vc_p rfl rfl (guard_yes rfl rfl h7) (fun _ => (Ev.gd (ev_neqS rfl rfl))) ?_
  refine vc_p rfl rfl rfl (fun _ => (ev_pickF rfl h7 rfl)) ?_
  refine vc_p rfl rfl rfl (fun _ => (ev_move rfl)) ?_
  refine vc_splitD 46 rfl (fun h10 => ?_) (fun h10 => ?_)
  · skip
    refine vc_not rfl rfl (guard_no rfl rfl (decide_eq_true h10)) ?_
    refine vc_not rfl rfl (guard_no rfl rfl (decide_eq_true h10)) ?_
    refine vc_not rfl rfl (guard_no rfl rfl (decide_eq_true h10)) ?_
    refine vc_p rfl rfl rfl (fun _ => (ev_pickT rfl (decide_eq_true h10) rfl)) ?_
    refine VC.nil ?_
    refine qs_seq ?_
    refine wc_sub (L' := [(50, _), (9, _), (8, _), (6, _), (0, _)]) (.cons rfl (.cons rfl (.cons rfl (.cons rfl (.cons rfl .nil))))) ?_
    refine wc_condT rfl ?_
    refine wc_seq ?_
    refine wc_region ?_
    refine wl_move rfl rfl ?_
    have hC11 := hS9.split [0] [true, false] rfl; dsimp only [selF, pickA, nthA, List.cons_append, List.nil_append] at hC11
    refine wl_call cal_125 rfl (wFail_sp (s := (r, q)) hC11) rfl ?_
    rintro e w11 ⟨_, rfl, rfl, hS11⟩; refine ⟨_, rfl, ?_⟩
    replace hS11 := hS11.join rfl; dsimp only [List.dropLast, List.cons_append, List.nil_append] at hS11; clear hC11
    clear hS9
    refine wl_nil ?_
    refine qs_seq ?_
    refine wc_seq ?_
    refine wc_region ?_
    refine wl_assign rfl rfl ?_
    refine wl_nil ?_
    refine qs_seq ?_
    refine wc_ret ?_
    refine qs_then_ret ?_
    refine fin1 (.inr rfl) rfl rfl ?_
    have hnp : numP e least r = none := num_not hio (hok (by assumption)) (by rintro ⟨q1, q2⟩; first | omega | (rename_i hh; exact hh q1) | (simp_all; done))
    exact ⟨_, rfl, by rw [(num_none (s := (r, q)) hnp).1], by rw [(num_none (s := (r, q)) hnp).2]; exact hS11⟩
  refine vc_p rfl rfl (guard_yes rfl rfl (decide_eq_false h10)) (fun _ => (Ev.gd (ev_move rfl))) ?_
  refine vc_p rfl rfl (guard_yes rfl rfl (decide_eq_false h10)) (fun _ => (Ev.gd (ev_move rfl))) ?_
  refine vc_p rfl rfl (guard_yes rfl rfl (decide_eq_false h10)) (fun _ => (Ev.gd (ev_lss rfl rfl))) ?_
  refine vc_p rfl rfl rfl (fun _ => (ev_pickF rfl (decide_eq_false h10) rfl)) ?_
  refine VC.nil ?_
  refine qs_seq ?_
  refine wc_sub (L' := [(50, _), (9, _), (8, _), (6, _), (0, _)]) (.cons rfl (.cons rfl (.cons rfl (.cons rfl (.cons rfl .nil))))) ?_
  refine wc_condD rfl (fun h12 => ?_) (fun h12 => ?_)
  · skip
    refine wc_seq ?_
    refine wc_region ?_
    refine wl_move rfl rfl ?_
    have hC13 := hS9.split [0] [true, false] rfl; dsimp only [selF, pickA, nthA, List.cons_append, List.nil_append] at hC13
    refine wl_call cal_125 rfl (wFail_sp (s := (r, q)) hC13) rfl ?_
    rintro e w13 ⟨_, rfl, rfl, hS13⟩; refine ⟨_, rfl, ?_⟩
    replace hS13 := hS13.join rfl; dsimp only [List.dropLast, List.cons_append, List.nil_append] at hS13; clear hC13
    clear hS9
    refine wl_nil ?_
    refine qs_seq ?_
    refine wc_seq ?_
    refine wc_region ?_
    refine wl_assign rfl rfl ?_
    refine wl_nil ?_
    refine qs_seq ?_
    refine wc_ret ?_
    refine qs_then_ret ?_
    refine fin1 (.inr rfl) rfl rfl ?_
    have hnp : numP e least r = none := num_not hio (hok (by assumption)) (by rintro ⟨q1, q2⟩; first | omega | (rename_i hh; exact hh q1) | (simp_all; done))
    exact ⟨_, rfl, by rw [(num_none (s := (r, q)) hnp).1], by rw [(num_none (s := (r, q)) hnp).2]; exact hS13⟩
  refine wc_skip ?_
  refine qs_seq ?_
  refine wc_seq ?_
  refine wc_region ?_
  refine wl_move rfl rfl ?_
  refine wl_move rfl rfl ?_
  refine wl_nilCheck rfl rfl ?_
  refine wl_fieldAddr rfl fo_143_0 rfl ?_
  refine wl_load rfl ag_9 (by first | assumption | exact hS9.cell 0 rfl rfl) rfl ?_
  refine wl_move rfl rfl ?_
  refine wl_add rfl rfl (by omega) (by omega) rfl ?_
  refine wl_sliceS (o + 1) r.length Tryz.underlying9 rfl (bndS (o + 1) _ rfl rfl) (bndN _) (by omega) (by omega) rfl ?_
  rw [List.take_length]
  refine wl_nilCheck rfl rfl ?_
  refine wl_fieldAddr rfl fo_143_0 rfl ?_
  first | (refine wl_store hS9 rfl rfl sz_9 (by first | rfl | assumption) (i := 0) rfl (by first | decide | exact Nat.le_of_ble_eq_true rfl | (simp; done) | omega) ?_)
  intro w14 hS15; dsimp only [List.set] at hS15
  clear hS9
  refine wl_nil ?_
  refine qs_seq ?_
  refine wc_sub (L' := [(9, _), (6, _)]) (.cons rfl (.cons rfl .nil)) ?_
  refine wc_seq ?_
  refine wc_region ?_
  refine wl_move rfl rfl ?_
  refine wl_assign rfl rfl ?_
  refine wl_nil ?_
  refine qs_seq ?_
  refine wc_ret ?_
  refine fin1 (.inr rfl) rfl rfl ?_
  have hnp : numP e least r = some (x, r.drop (o + 1)) := num_yes hio (hok (by assumption)) ⟨Decidable.not_not.1 (by assumption), by omega⟩
  exact ⟨_, rfl, by rw [(num_some (s := (r, q)) hnp).1], by rw [(num_some (s := (r, q)) hnp).2]; exact hS15⟩
theorem rInt_sp {w : World} {F : Th} {b : Nat} {s : Bs × Bool} (hS : Sat w [readT b s, F]) (hG : Ent F WireG) (hrl : s.1.length ≤ 9223372036854775806) :
    Calls Tryz.prog 77 #[ptrV b 0] w (Ret fun v w' => v = intV (numV 59 (-9223372036854775808) s) ∧ Sat w' [readT b (numR 59 (-9223372036854775808) s), F]) := by
  refine calls_enter Tryz.func77 rfl Tryz.ntmps77 rfl ?_
  refine wc_seq ?_
  refine wc_region ?_
  refine wl_assign rfl rfl ?_
  refine wl_nil ?_
  refine qs_seq ?_
  refine wc_seq ?_
  refine wc_region ?_
  refine wl_move rfl rfl ?_
  have hC1 := hS.split [0] [true, false] rfl; dsimp only [selF, pickA, nthA, List.cons_append, List.nil_append] at hC1
  refine wl_call cal_108 rfl (number_sp hC1 (hG.starL 0 rfl) 59 (-9223372036854775808) hrl) rfl ?_
  rintro e w1 ⟨_, rfl, rfl, hS1⟩; refine ⟨_, rfl, ?_⟩
  replace hS1 := hS1.join rfl; dsimp only [List.dropLast, List.cons_append, List.nil_append] at hS1; clear hC1
  refine wl_assign rfl rfl ?_
  refine wl_nil ?_
  refine qs_seq ?_
  refine wc_ret ?_
  refine fin1 (.inr rfl) rfl rfl ?_
  exact ⟨_, rfl, rfl, hS1⟩
theorem rNum_sp {w : World} {F : Th} {b : Nat} {s : Bs × Bool} (hS : Sat w [readT b s, F]) (hG : Ent F WireG) (hrl : s.1.length ≤ 9223372036854775806) :
    Calls Tryz.prog 110 #[ptrV b 0] w (Ret fun v w' => v = intV (numV 59 0 s) ∧ Sat w' [readT b (numR 59 0 s), F]) := by
  refine calls_enter Tryz.func110 rfl Tryz.ntmps110 rfl ?_
  refine wc_seq ?_
  refine wc_region ?_
  refine wl_assign rfl rfl ?_
  refine wl_nil ?_
  refine qs_seq ?_
  refine wc_seq ?_
  refine wc_region ?_
  refine wl_move rfl rfl ?_
  have hC1 := hS.split [0] [true, false] rfl; dsimp only [selF, pickA, nthA, List.cons_append, List.nil_append] at hC1
  refine wl_call cal_108 rfl (number_sp hC1 (hG.starL 0 rfl) 59 0 hrl) rfl ?_
  rintro e w1 ⟨_, rfl, rfl, hS1⟩; refine ⟨_, rfl, ?_⟩
  replace hS1 := hS1.join rfl; dsimp only [List.dropLast, List.cons_append, List.nil_append] at hS1; clear hC1
  refine wl_assign rfl rfl ?_
  refine wl_nil ?_
  refine qs_seq ?_
  refine wc_ret ?_
  refine fin1 (.inr rfl) rfl rfl ?_
  exact ⟨_, rfl, rfl, hS1⟩
end Go.Proofs.YtfmkodmmbgibgaaGreatDoor
/- pipes, in plain data -/
namespace Go.Proofs.YtfmkodmmbgibgaaGreatDoor
open Go.RowKit M
set_option linter.unusedVariables false
/-- what wire's reader makes of a byte that must stand there -/
def cutV (e : UInt8) (s : Bs × Bool) : Bs × Bool := match s.1 with | c :: r => if c = e then (r, s.2) else ([], true) | [] => ([], true)
/-- a text: its value, and the reader after it -/
def txtV (s : Bs × Bool) : Bs := if ((numR 58 0 s).1.length : Int) < numV 58 0 s then [] else if (cutV 44 ((numR 58 0 s).1.drop (numV 58 0 s).toNat, (numR 58 0 s).2)).2 = true then [] else (numR 58 0 s).1.take (numV 58 0 s).toNat
def txtR (s : Bs × Bool) : Bs × Bool := if ((numR 58 0 s).1.length : Int) < numV 58 0 s then ([], true) else cutV 44 ((numR 58 0 s).1.drop (numV 58 0 s).toNat, (numR 58 0 s).2)
def encT (s : Bs) : Bs := Lib.itoa (s.length : Int) ++ [58] ++ s ++ [44]
def imin : Int := -9223372036854775808
structure PipeD where
  d : Bs
  r : Int
  w : Int
theorem numP_cons {e : UInt8} {least m : Int} {rest : Bs} (he : 57 < e.toNat) (hm : inI m) (hl : least ≤ m) : numP e least (Lib.itoa m ++ e :: rest) = some (m, rest) := by
  have := numP_back (e := e) (least := least) (m := m) (r := Lib.itoa m ++ e :: rest) (k := (Lib.itoa m).length) he (by rw [List.getElem?_append_right (Nat.le_refl _)]; simp) hm hl (by rw [List.take_left'] <;> rfl)
  rw [this, List.drop_append, List.drop_eq_nil_of_le (by omega)]
  simp
theorem num_cons {e : UInt8} {least m : Int} {rest : Bs} {b : Bool} (he : 57 < e.toNat) (hm : inI m) (hl : least ≤ m) : numV e least (Lib.itoa m ++ e :: rest, b) = m ∧ numR e least (Lib.itoa m ++ e :: rest, b) = (rest, b) := num_some (numP_cons he hm hl)
theorem txt_cons {s rest : Bs} (hs : s.length ≤ 20000000) : txtV (encT s ++ rest, false) = s ∧ txtR (encT s ++ rest, false) = (rest, false) := by
  have e : encT s ++ rest = Lib.itoa (s.length : Int) ++ 58 :: (s ++ 44 :: rest) := by simp [encT]
  have hn := num_cons (e := 58) (least := 0) (m := (s.length : Int)) (rest := s ++ 44 :: rest) (b := false) (by decide) (by unfold inI; omega) (by omega)
  unfold txtV txtR
  rw [e, hn.1, hn.2]
  have h1 : ¬ (((s ++ 44 :: rest, false) : Bs × Bool).1.length : Int) < (s.length : Int) := by simp; omega
  rw [if_neg h1, if_neg h1]
  simp [cutV]
end Go.Proofs.YtfmkodmmbgibgaaGreatDoor
/- journal, in plain data -/
namespace Go.Proofs.YtfmkodmmbgibgaaGreatDoor
open Go.RowKit M
set_option linter.unusedVariables false
structure Blk where
  n : Int
  d : Bytes
instance : Inhabited Blk := ⟨⟨0, []⟩⟩
instance : DecidableEq Blk := fun x y => by
  cases x; cases y
  rw [Blk.mk.injEq]; infer_instance
def encN (n : Int) : Bs := Lib.itoa n ++ [59]
def encB (b : Blk) : Bs := encN b.n ++ encT b.d
def encJ (l : List Blk) : Bs := encN (l.length : Int) ++ l.flatMap encB
def okB (b : Blk) : Bool := !(decide (b.n < 0) || decide (2048 ≤ b.n) || decide (64 < b.d.length))
def rightJ (l : List Blk) : Bool := decide (l.length ≤ 2048) && l.all okB
abbrev St := Bs × Bool
def iV (s : St) : Int := numV 59 imin s
def iR (s : St) : St := numR 59 imin s
theorem iV_eq (s : St) : numV 59 (-9223372036854775808) s = iV s := by unfold iV; rfl
def bkSt : Nat → St → St
  | 0, s => s
  | k + 1, s => txtR (iR (bkSt k s))
def bkV (z : St) : Blk := ⟨iV z, txtV (iR z)⟩
def bksV (k : Nat) (s : St) : List Blk := (List.range k).map fun j => bkV (bkSt j s)
theorem bksV_succ (k : Nat) (s : St) : bksV (k + 1) s = bksV k s ++ [bkV (bkSt k s)] := by simp [bksV, List.range_succ]
theorem bksV_len (k : Nat) (s : St) : (bksV k s).length = k := by simp [bksV]
theorem bksV_zero (s : St) : bksV 0 s = [] := rfl
theorem bkSt_zero (s : St) : bkSt 0 s = s := rfl
theorem bkSt_succ (k : Nat) (s : St) : bkSt (k + 1) s = txtR (iR (bkSt k s)) := rfl
def cntJ (s : Bs) : Nat := (min (numV 59 0 (s, false)) 2049).toNat
def rawJ (s : Bs) : List Blk := bksV (cntJ s) (numR 59 0 (s, false))
def okJ (s : Bs) : Bool := decide (encJ (rawJ s) = s) && rightJ (rawJ s)
/-- a change brought home -/
def homeR : DS → Int → List Blk → Int × DS
  | D, f, [] => (SyncE D f, SyncD D f)
  | D, f, b :: l =>
    if WriteE D f (128 * b.n) [UInt8.ofNat b.d.length] ≠ 0 then (WriteE D f (128 * b.n) [UInt8.ofNat b.d.length], WriteD D f (128 * b.n) [UInt8.ofNat b.d.length]) else
    if b.d = [] then homeR (WriteD D f (128 * b.n) [UInt8.ofNat b.d.length]) f l else
    if WriteE (WriteD D f (128 * b.n) [UInt8.ofNat b.d.length]) f (128 * b.n + 64) b.d ≠ 0 then (WriteE (WriteD D f (128 * b.n) [UInt8.ofNat b.d.length]) f (128 * b.n + 64) b.d, WriteD (WriteD D f (128 * b.n) [UInt8.ofNat b.d.length]) f (128 * b.n + 64) b.d) else
    homeR (WriteD (WriteD D f (128 * b.n) [UInt8.ofNat b.d.length]) f (128 * b.n + 64) b.d) f l
structure JS where
  base : Int
  C : CS
  B : Int → Bytes
  bad : Bool
structure JR where
  e : Int
  D : DS
  J : JS
def updB (B : Int → Bytes) (n : Int) (d : Bytes) : Int → Bytes := fun k => if k = n then d else B k
def withB (B : Int → Bytes) (l : List Blk) : Int → Bytes := l.foldl (fun B b => updB B b.n b.d) B
/-- the steps of a commit behind the log: the note, the change, the note again -/
def noteR (D : DS) (C : CS) (n : Int) : SR := setR D C (encN n)
def endR (D : DS) (C : CS) (f : Int) (l : List Blk) : SR :=
  if (homeR D f l).1 ≠ 0 then ⟨(homeR D f l).1, (homeR D f l).2, C⟩ else noteR (homeR D f l).2 C 0
def midR (D : DS) (C : CS) (f : Int) (l : List Blk) : SR :=
  if (noteR D C ((encJ l).length : Int)).e ≠ 0 then noteR D C ((encJ l).length : Int) else endR (noteR D C ((encJ l).length : Int)).D (noteR D C ((encJ l).length : Int)).C f l
def putR0 (D : DS) (C : CS) (f : Int) (l : List Blk) : SR :=
  if TruncE D (f + 1) 0 ≠ 0 then ⟨TruncE D (f + 1) 0, TruncD D (f + 1) 0, C⟩ else
  if WriteE (TruncD D (f + 1) 0) (f + 1) 0 (encJ l) ≠ 0 then ⟨WriteE (TruncD D (f + 1) 0) (f + 1) 0 (encJ l), WriteD (TruncD D (f + 1) 0) (f + 1) 0 (encJ l), C⟩ else
  if SyncE (WriteD (TruncD D (f + 1) 0) (f + 1) 0 (encJ l)) (f + 1) ≠ 0 then ⟨SyncE (WriteD (TruncD D (f + 1) 0) (f + 1) 0 (encJ l)) (f + 1), SyncD (WriteD (TruncD D (f + 1) 0) (f + 1) 0 (encJ l)) (f + 1), C⟩ else
  midR (SyncD (WriteD (TruncD D (f + 1) 0) (f + 1) 0 (encJ l)) (f + 1)) C f l
def commitR (D : DS) (J : JS) (l : List Blk) : JR :=
  if J.bad = true then ⟨7, D, J⟩ else
  if rightJ l = false then ⟨1, D, J⟩ else
  if (putR0 D J.C J.base l).e ≠ 0 then ⟨(putR0 D J.C J.base l).e, (putR0 D J.C J.base l).D, ⟨J.base, (putR0 D J.C J.base l).C, J.B, true⟩⟩ else
  ⟨0, (putR0 D J.C J.base l).D, ⟨J.base, (putR0 D J.C J.base l).C, withB J.B l, false⟩⟩
/-- the block n of a home -/
def hdrJ (s : Bytes) (n : Nat) : Nat := ((s[128 * n]?).getD 0).toNat
def blkJ (s : Bytes) (n : Nat) : Bytes := if 0 < hdrJ s n ∧ hdrJ s n ≤ 64 ∧ 128 * n + 64 + hdrJ s n ≤ s.length then (s.drop (128 * n + 64)).take (hdrJ s n) else []
def loadB (s : Bytes) : Int → Bytes := fun k => if 0 ≤ k ∧ k < 2048 then blkJ s k.toNat else []
def replR (D : DS) (f : Int) (C : CS) : SR :=
  if encN (iV (C.val, false)) ≠ C.val ∨ iV (C.val, false) ≤ 0 then ⟨0, D, C⟩ else
  if ReadE D (f + 1) 0 (iV (C.val, false)) ≠ 0 then ⟨ReadE D (f + 1) 0 (iV (C.val, false)), D, C⟩ else
  if okJ (ReadS D (f + 1) 0 (iV (C.val, false))) = false then ⟨2, D, C⟩ else
  endR D C f (rawJ (ReadS D (f + 1) 0 (iV (C.val, false))))
def openJ (D : DS) (f : Int) : JR :=
  if f < 0 ∨ 13 < f then ⟨1, D, ⟨f, newC f, fun _ => [], true⟩⟩ else
  if openE D (f + 2) ≠ 0 then ⟨openE D (f + 2), D, ⟨f, newC f, fun _ => [], true⟩⟩ else
  if (replR D f (openC D (f + 2))).e ≠ 0 then ⟨(replR D f (openC D (f + 2))).e, (replR D f (openC D (f + 2))).D, ⟨f, newC f, fun _ => [], true⟩⟩ else
  if mayE (replR D f (openC D (f + 2))).D f ≠ 0 then ⟨mayE (replR D f (openC D (f + 2))).D f, (replR D f (openC D (f + 2))).D, ⟨f, newC f, fun _ => [], true⟩⟩ else
  ⟨0, (replR D f (openC D (f + 2))).D, ⟨f, (replR D f (openC D (f + 2))).C, loadB ((replR D f (openC D (f + 2))).D.F f).1, false⟩⟩
/-- the blocks in ascending order -/
def listB (B : Int → Bytes) : List Blk := (List.range 2048).filterMap fun n : Nat => if B (n : Int) = [] then none else some ⟨(n : Int), B (n : Int)⟩
end Go.Proofs.YtfmkodmmbgibgaaGreatDoor
/- wire: texts -/
namespace Go.Proofs.YtfmkodmmbgibgaaGreatDoor
open Go.RowKit M
set_option linter.unusedVariables false
theorem cutV_pre {e : UInt8} {l : Bs} {b : Bool} : cutV e (l, b) = if Lib.hasPrefix l [e] = true then (l.drop 1, b) else ([], true) := by
  cases l with
  | nil => rfl
  | cons c l =>
    have hp : Lib.hasPrefix (c :: l) [e] = decide (c = e) := by
      unfold Lib.hasPrefix
      rw [Bool.eq_iff_iff]
      simp only [List.isPrefixOf, Bool.and_true, beq_iff_eq, decide_eq_true_eq]
      exact ⟨fun q => q.symm, fun q => q.symm⟩
    rw [hp]
    simp only [cutV, decide_eq_true_eq, List.drop_succ_cons, List.drop_zero]
theorem numV_nn (e : UInt8) (s : Bs × Bool) : 0 ≤ numV e 0 s := by
  unfold numV
  split
  · rename_i n r h; exact (numP_some h).2.2
  · omega
theorem numR_len (e : UInt8) (l : Int) (s : Bs × Bool) : (numR e l s).1.length ≤ s.1.length := by
  unfold numR
  split
  · rename_i n r h; rw [(numP_some h).1]; simp only [List.length_append, List.length_cons]; omega
  · simp
theorem cutV_len (e : UInt8) (s : Bs × Bool) : (cutV e s).1.length ≤ s.1.length := by
  obtain ⟨l, b⟩ := s
  cases l with
  | nil => simp [cutV]
  | cons c l => simp only [cutV]; split <;> simp
theorem numV_in (e : UInt8) (least : Int) (s : Bs × Bool) : inI (numV e least s) := by
  unfold numV
  split
  · rename_i n r h; exact (numP_some h).2.1
  · unfold inI; omega
theorem hpi0 {w : World} {As : List Th} (hS : Sat w As) (s t : Bs) : Calls Tryz.prog 171 #[strV s, strV t] w (Ret fun v w' => v = .bool (Lib.hasPrefix s t) ∧ Sat w' As) :=
  (Tryz.stringslite_HasPrefix ⟨s.toArray⟩ ⟨t.toArray⟩ w).mono fun e w' ⟨h1, h2⟩ => ⟨_, h1, rfl, by rw [h2]; exact hS⟩
theorem hasPrefix_len {s t : Bs} (h : Lib.hasPrefix s t = true) : t.length ≤ s.length := by
  unfold Lib.hasPrefix at h
  exact (List.isPrefixOf_iff_prefix.1 h).length_le
theorem cutIn_sp {w : World} {F : Th} (hS : Sat w [F]) (s t : Bs) :
    Calls Tryz.prog 162 #[strV s, strV t] w (Ret fun v w' => v = .tuple #[strV (if Lib.hasPrefix s t = true then s.drop t.length else s), .bool (Lib.hasPrefix s t)] ∧ Sat w' [F]) := by
  refine calls_enter Tryz.func162 rfl Tryz.ntmps162 rfl ?_
  refine wc_seq ?_
  refine wc_region ?_
  refine wl_assign rfl rfl ?_
  refine wl_assign rfl rfl ?_
  refine wl_nil ?_
  refine qs_seq ?_
  refine wc_seq ?_
  refine wc_seq ?_
  refine wc_region ?_
  refine wl_move rfl rfl ?_
  refine wl_move rfl rfl ?_
  have hC1 := hS.split [] [false] rfl; dsimp only [selF, pickA, nthA, List.cons_append, List.nil_append] at hC1
  refine wl_call cal_171 rfl (hpi0 hC1 s t) rfl ?_
  rintro e w1 ⟨_, rfl, rfl, hS1⟩; refine ⟨_, rfl, ?_⟩
  replace hS1 := hS1.join rfl; dsimp only [List.dropLast, List.cons_append, List.nil_append] at hS1; clear hC1
  refine wl_not rfl rfl ?_
  refine wl_nil ?_
  refine qs_seq ?_
  refine wc_cond rfl (fun h2 => ?_) (fun h2 => ?_)
  · skip
    refine wc_seq ?_
    refine wc_region ?_
    refine wl_move rfl rfl ?_
    refine wl_assign rfl rfl ?_
    refine wl_assign rfl rfl ?_
    refine wl_nil ?_
    refine qs_seq ?_
    refine wc_ret ?_
    refine qs_then_ret ?_
    refine fin2 (.inr rfl) rfl rfl rfl ?_
    exact ⟨_, rfl, by rw [if_neg (by simp_all), show Lib.hasPrefix s t = false by simp_all], hS1⟩
  have htl : t.length ≤ s.length := hasPrefix_len (by simp_all)
  refine wc_skip ?_
  refine qs_seq ?_
  refine wc_seq ?_
  refine wc_region ?_
  refine wl_move rfl rfl ?_
  refine wl_move rfl rfl ?_
  refine wl_lenS Tryz.underlying9 rfl rfl ?_
  refine wl_sliceS t.length s.length Tryz.underlying9 rfl (bndS t.length _ rfl rfl) (bndN _) (by omega) (by omega) rfl ?_
  rw [List.take_length]
  refine wl_assign rfl rfl ?_
  refine wl_assign rfl rfl ?_
  refine wl_nil ?_
  refine qs_seq ?_
  refine wc_sub (L' := [(5, _), (4, _)]) (.cons rfl (.cons rfl .nil)) ?_
  refine wc_ret ?_
  refine fin2 (.inr rfl) rfl rfl rfl ?_
  exact ⟨_, rfl, by rw [if_pos (by simp_all), show Lib.hasPrefix s t = true by simp_all], hS1⟩
theorem cutS_sp {w : World} {F : Th} (hS : Sat w [F]) (s t : Bs) :
    Calls Tryz.prog 145 #[strV s, strV t] w (Ret fun v w' => v = .tuple #[strV (if Lib.hasPrefix s t = true then s.drop t.length else s), .bool (Lib.hasPrefix s t)] ∧ Sat w' [F]) := by
  refine calls_enter Tryz.func145 rfl Tryz.ntmps145 rfl ?_
  refine wc_seq ?_
  refine wc_region ?_
  refine wl_assign rfl rfl ?_
  refine wl_assign rfl rfl ?_
  refine wl_nil ?_
  refine qs_seq ?_
  refine wc_seq ?_
  refine wc_region ?_
  refine wl_move rfl rfl ?_
  refine wl_move rfl rfl ?_
  have hC1 := hS.split [] [false] rfl; dsimp only [selF, pickA, nthA, List.cons_append, List.nil_append] at hC1
  refine wl_call cal_162 rfl (cutIn_sp hC1 s t) rfl ?_
  rintro e w1 ⟨_, rfl, rfl, hS1⟩; refine ⟨_, rfl, ?_⟩
  replace hS1 := hS1.join rfl; dsimp only [List.dropLast, List.cons_append, List.nil_append] at hS1; clear hC1
  refine wl_extract rfl rfl rfl ?_
  refine wl_extract rfl rfl rfl ?_
  refine wl_assign rfl rfl ?_
  refine wl_assign rfl rfl ?_
  refine wl_nil ?_
  refine qs_seq ?_
  refine wc_ret ?_
  refine fin2 (.inr rfl) rfl rfl rfl ?_
  exact ⟨_, rfl, rfl, hS1⟩
theorem wText_sp {w : World} {F : Th} (hS : Sat w [F]) (hG : Ent F WireG) (s : Bs) (hs : s.length ≤ 20000000) :
    Calls Tryz.prog 86 #[strV s] w (Ret fun v w' => v = strV (encT s) ∧ Sat w' [F]) := by
  refine calls_enter Tryz.func86 rfl Tryz.ntmps86 rfl ?_
  refine wc_seq ?_
  refine wc_region ?_
  refine wl_assign rfl rfl ?_
  refine wl_nil ?_
  refine qs_seq ?_
  refine wc_seq ?_
  refine wc_region ?_
  refine wl_move rfl rfl ?_
  refine wl_lenS Tryz.underlying9 rfl rfl ?_
  have hC1 := hS.split [] [false] rfl; dsimp only [selF, pickA, nthA, List.cons_append, List.nil_append] at hC1
  refine wl_call cal_109 rfl (itoa0 hC1 (Ent.sat (hG.starL 0 rfl) hC1 0 rfl) (s.length : Int) (by unfold inI; omega)) rfl ?_
  rintro e w1 ⟨_, rfl, rfl, hS1⟩; refine ⟨_, rfl, ?_⟩
  replace hS1 := hS1.join rfl; dsimp only [List.dropLast, List.cons_append, List.nil_append] at hS1; clear hC1
  have hil := itoa_len (n := (s.length : Int)) (by unfold inI; omega)
  refine wl_concat rfl rfl (by first | omega | (simp; omega)) rfl ?_
  refine wl_move rfl rfl ?_
  refine wl_concat rfl rfl (by first | omega | (simp; omega)) rfl ?_
  refine wl_concat rfl rfl (by first | omega | (simp; omega)) rfl ?_
  refine wl_assign rfl rfl ?_
  refine wl_nil ?_
  refine qs_seq ?_
  refine wc_ret ?_
  refine fin1 (.inr rfl) rfl rfl ?_
  exact ⟨_, rfl, by simp [encT], hS1⟩
theorem rClose_sp {w : World} {F : Th} {b : Nat} {s : Bs × Bool} (hS : Sat w [readT b s, F]) (e : UInt8) :
    Calls Tryz.prog 128 #[ptrV b 0, strV [e]] w (Ret fun v w' => v = .tuple #[] ∧ Sat w' [readT b (cutV e s), F]) := by
  obtain ⟨r, q⟩ := s
  change Sat w [blkT b [strV r, .bool q], F] at hS
  refine calls_enter Tryz.func128 rfl Tryz.ntmps128 rfl ?_
  refine wc_seq ?_
  refine wc_region ?_
  refine wl_move rfl rfl ?_
  refine wl_nilCheck rfl rfl ?_
  refine wl_fieldAddr rfl fo_143_0 rfl ?_
  refine wl_load rfl ag_9 (by first | assumption | exact hS.cell 0 rfl rfl) rfl ?_
  refine wl_move rfl rfl ?_
  have hC1 := hS.split [] [false, false] rfl; dsimp only [selF, pickA, nthA, List.cons_append, List.nil_append] at hC1
  refine wl_call cal_145 rfl (cutS_sp hC1 r [e]) rfl ?_
  rintro e w1 ⟨_, rfl, rfl, hS1⟩; refine ⟨_, rfl, ?_⟩
  replace hS1 := hS1.join rfl; dsimp only [List.dropLast, List.cons_append, List.nil_append] at hS1; clear hC1
  refine wl_move rfl rfl ?_
  refine wl_extract rfl rfl rfl ?_
  refine wl_extract rfl rfl rfl ?_
  refine wl_assign rfl rfl ?_
  refine wl_assign rfl rfl ?_
  refine wl_nil ?_
  refine qs_seq ?_
  refine wc_sub (L' := [(5, _), (4, _), (0, _)]) (.cons rfl (.cons rfl (.cons rfl .nil))) ?_
  refine wc_seq ?_
  refine wc_region ?_
  refine wl_move rfl rfl ?_
  refine wl_move rfl rfl ?_
  refine wl_nilCheck rfl rfl ?_
  refine wl_fieldAddr rfl fo_143_0 rfl ?_
  first | (refine wl_store hS1 rfl rfl sz_9 (by first | rfl | assumption) (i := 0) rfl (by first | decide | exact Nat.le_of_ble_eq_true rfl | (simp; done) | omega) ?_)
  intro w2 hS3; dsimp only [List.set] at hS3
  clear hS1
  refine wl_nil ?_
  refine qs_seq ?_
  refine wc_seq ?_
  refine wc_region ?_
  refine wl_move rfl rfl ?_
  refine wl_not rfl rfl ?_
  refine wl_nil ?_
  refine qs_seq ?_
  refine wc_cond rfl (fun h4 => ?_) (fun h4 => ?_)
  · skip
    have hp1 : ¬ Lib.hasPrefix r [e] = true := by simp_all
    rw [if_neg hp1] at hS3
    refine wc_region ?_
    refine wl_move rfl rfl ?_
    have hC5 := hS3.split [0] [true, false] rfl; dsimp only [selF, pickA, nthA, List.cons_append, List.nil_append] at hC5
    refine wl_call cal_125 rfl (wFail_sp (s := (r, q)) hC5) rfl ?_
    rintro e w5 ⟨_, rfl, rfl, hS5⟩; refine ⟨_, rfl, ?_⟩
    replace hS5 := hS5.join rfl; dsimp only [List.dropLast, List.cons_append, List.nil_append] at hS5; clear hC5
    clear hS3
    refine wl_nil ?_
    refine fin0 (.inl rfl) rfl ?_
    exact ⟨_, rfl, rfl, by rw [cutV_pre, if_neg (by simp_all)]; exact hS5⟩
  have hp1 : Lib.hasPrefix r [e] = true := by simp_all
  rw [if_pos hp1] at hS3
  refine wc_skip ?_
  refine fin0 (.inl rfl) rfl ?_
  exact ⟨_, rfl, rfl, by rw [cutV_pre, if_pos (by simp_all)]; exact hS3⟩
set_option maxRecDepth 100000 in
theorem rText_sp {w : World} {F : Th} {b : Nat} {s : Bs × Bool} (hS : Sat w [readT b s, F]) (hG : Ent F WireG) (hrl : s.1.length ≤ 20000000) :
    Calls Tryz.prog 111 #[ptrV b 0] w (Ret fun v w' => v = strV (txtV s) ∧ Sat w' [readT b (txtR s), F]) := by
  refine calls_enter Tryz.func111 rfl Tryz.ntmps111 rfl ?_
  refine wc_seq ?_
  refine wc_region ?_
  refine wl_assign rfl rfl ?_
  refine wl_nil ?_
  refine qs_seq ?_
  refine wc_seq ?_
  refine wc_region ?_
  refine wl_move rfl rfl ?_
  have hC1 := hS.split [0] [true, false] rfl; dsimp only [selF, pickA, nthA, List.cons_append, List.nil_append] at hC1
  refine wl_call cal_108 rfl (number_sp hC1 (hG.starL 0 rfl) 58 0 (by omega)) rfl ?_
  rintro e w1 ⟨_, rfl, rfl, hS1⟩; refine ⟨_, rfl, ?_⟩
  replace hS1 := hS1.join rfl; dsimp only [List.dropLast, List.cons_append, List.nil_append] at hS1; clear hC1
  obtain ⟨k, hk⟩ : ∃ k : Nat, numV 58 0 s = (k : Int) := ⟨(numV 58 0 s).toNat, by have := numV_nn 58 s; omega⟩
  rw [hk]
  have hnl := numR_len 58 0 s
  rcases hN : numR 58 0 s with ⟨r1, q1⟩
  rw [hN] at hS1 hnl
  dsimp only at hnl
  change Sat w1 [blkT b [strV r1, .bool q1], F] at hS1
  refine wl_assign rfl rfl ?_
  refine wl_nil ?_
  refine qs_seq ?_
  refine wc_seq ?_
  refine wc_seq ?_
  refine wc_region ?_
  refine wl_move rfl rfl ?_
  refine wl_move rfl rfl ?_
  refine wl_nilCheck rfl rfl ?_
  refine wl_fieldAddr rfl fo_143_0 rfl ?_
  refine wl_load rfl ag_9 (by first | assumption | exact hS1.cell 0 rfl rfl) rfl ?_
  refine wl_lenS Tryz.underlying9 rfl rfl ?_
  refine wl_gtr rfl rfl rfl ?_
  refine wl_nil ?_
  refine qs_seq ?_
  refine wc_sub (L' := [(13, _), (3, _), (2, _), (0, _)]) (.cons rfl (.cons rfl (.cons rfl (.cons rfl .nil)))) ?_
  refine wc_condD rfl (fun h2 => ?_) (fun h2 => ?_)
  · skip
    refine wc_seq ?_
    refine wc_region ?_
    refine wl_move rfl rfl ?_
    have hC3 := hS1.split [0] [true, false] rfl; dsimp only [selF, pickA, nthA, List.cons_append, List.nil_append] at hC3
    refine wl_call cal_125 rfl (wFail_sp (s := (r1, q1)) hC3) rfl ?_
    rintro e w3 ⟨_, rfl, rfl, hS3⟩; refine ⟨_, rfl, ?_⟩
    replace hS3 := hS3.join rfl; dsimp only [List.dropLast, List.cons_append, List.nil_append] at hS3; clear hC3
    clear hS1
    refine wl_nil ?_
    refine qs_seq ?_
    refine wc_seq ?_
    refine wc_region ?_
    refine wl_assign rfl rfl ?_
    refine wl_nil ?_
    refine qs_seq ?_
    refine wc_ret ?_
    refine qs_then_ret ?_
    refine fin1 (.inr rfl) rfl rfl ?_
    exact ⟨_, rfl, by unfold txtV; rw [hN, hk]; dsimp only; rw [if_pos (by omega)], by unfold txtR; rw [hN, hk]; dsimp only; rw [if_pos (by omega)]; exact hS3⟩
  refine wc_skip ?_
  refine qs_seq ?_
  refine wc_seq ?_
  refine wc_region ?_
  refine wl_move rfl rfl ?_
  refine wl_nilCheck rfl rfl ?_
  refine wl_fieldAddr rfl fo_143_0 rfl ?_
  refine wl_load rfl ag_9 (by first | assumption | exact hS1.cell 0 rfl rfl) rfl ?_
  refine wl_move rfl rfl ?_
  refine wl_sliceS 0 k Tryz.underlying9 rfl (bndN _) (bndS k _ rfl rfl) (by omega) (by omega) rfl ?_
  rw [List.drop_zero]
  refine wl_assign rfl rfl ?_
  refine wl_nil ?_
  refine qs_seq ?_
  refine wc_sub (L' := [(4, _), (3, _), (2, _), (0, _)]) (.cons rfl (.cons rfl (.cons rfl (.cons rfl .nil)))) ?_
  refine wc_seq ?_
  refine wc_region ?_
  refine wl_move rfl rfl ?_
  refine wl_move rfl rfl ?_
  refine wl_nilCheck rfl rfl ?_
  refine wl_fieldAddr rfl fo_143_0 rfl ?_
  refine wl_load rfl ag_9 (by first | assumption | exact hS1.cell 0 rfl rfl) rfl ?_
  refine wl_move rfl rfl ?_
  refine wl_sliceS k r1.length Tryz.underlying9 rfl (bndS k _ rfl rfl) (bndN _) (by omega) (by omega) rfl ?_
  rw [List.take_length]
  refine wl_nilCheck rfl rfl ?_
  refine wl_fieldAddr rfl fo_143_0 rfl ?_
  first | (refine wl_store hS1 rfl rfl sz_9 (by first | rfl | assumption) (i := 0) rfl (by first | decide | exact Nat.le_of_ble_eq_true rfl | (simp; done) | omega) ?_)
  intro w4 hS5; dsimp only [List.set] at hS5
  clear hS1
  refine wl_nil ?_
  refine qs_seq ?_
  refine wc_sub (L' := [(4, _), (2, _), (0, _)]) (.cons rfl (.cons rfl (.cons rfl .nil))) ?_
  refine wc_seq ?_
  refine wc_seq ?_
  refine wc_region ?_
  refine wl_move rfl rfl ?_
  have hC6 := hS5.split [0] [true, false] rfl; dsimp only [selF, pickA, nthA, List.cons_append, List.nil_append] at hC6
  refine wl_call cal_128 rfl (rClose_sp (s := (r1.drop k, q1)) hC6 44) rfl ?_
  rintro e w6 ⟨_, rfl, rfl, hS6⟩; refine ⟨_, rfl, ?_⟩
  replace hS6 := hS6.join rfl; dsimp only [List.dropLast, List.cons_append, List.nil_append] at hS6; clear hC6
  clear hS5
  rcases hC2 : cutV 44 (r1.drop k, q1) with ⟨r2, q2⟩
  rw [hC2] at hS6
  refine wl_nil ?_
  refine qs_seq ?_
  refine wc_seq ?_
  refine wc_region ?_
  refine wl_move rfl rfl ?_
  refine wl_nilCheck rfl rfl ?_
  refine wl_fieldAddr rfl fo_143_1 rfl ?_
  refine wl_load rfl ag_4 (by first | assumption | exact hS6.cell 0 rfl rfl) rfl ?_
  refine wl_nil ?_
  refine qs_seq ?_
  refine wc_cond rfl (fun h7 => ?_) (fun h7 => ?_)
  · skip
    obtain rfl : q2 = true := h7
    refine wc_seq ?_
    refine wc_region ?_
    refine wl_assign rfl rfl ?_
    refine wl_nil ?_
    refine qs_seq ?_
    refine wc_ret ?_
    refine qs_then_ret ?_
    refine fin1 (.inr rfl) rfl rfl ?_
    exact ⟨_, rfl, by unfold txtV; rw [hN, hk]; dsimp only; rw [if_neg (by omega), Int.toNat_natCast, hC2]; first | done | rfl, by unfold txtR; rw [hN, hk]; dsimp only; rw [if_neg (by omega), Int.toNat_natCast, hC2]; exact hS6⟩
  obtain rfl : q2 = false := h7
  refine wc_skip ?_
  refine qs_seq ?_
  refine wc_seq ?_
  refine wc_region ?_
  refine wl_move rfl rfl ?_
  refine wl_assign rfl rfl ?_
  refine wl_nil ?_
  refine qs_seq ?_
  refine wc_ret ?_
  refine fin1 (.inr rfl) rfl rfl ?_
  exact ⟨_, rfl, by unfold txtV; rw [hN, hk]; dsimp only; rw [if_neg (by omega), Int.toNat_natCast, hC2]; first | done | rfl, by unfold txtR; rw [hN, hk]; dsimp only; rw [if_neg (by omega), Int.toNat_natCast, hC2]; exact hS6⟩
end Go.Proofs.YtfmkodmmbgibgaaGreatDoor
