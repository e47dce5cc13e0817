/- wire: numbers -/
import Derived.Test.YtkaikhcpcbjkcaaGreatDoorRow
import Derived.Test.YtkaikhcpcbjkcaaGreatDoorRefw
namespace Go.Proofs.YtkaikhcpcbjkcaaGreatDoor
open Go.RowKit M
set_option linter.unusedVariables false
theorem sat_grow {w : World} {As : List Th} (hS : Sat w As) (k : Nat) (os : Array Obj) : Sat (Go.Sort.grow (w.drewN k) os) As := by
  refine hS.only ⟨rfl, rfl, rfl, by simp [Go.Sort.grow], fun j hj _ => ?_⟩
  have : j < (w.drewN k).heap.size := hj
  show (w.heap ++ os)[j]? = w.heap[j]?
  rw [Array.getElem?_append_left hj]
structure WireG (w : World) : Prop where
  tab : Lib.TabIs Tryz.prog w "internal/strconv.uint64pow10" .u64 Lib.pow10Tab
  syn : ∃ tp p, w.var? Tryz.prog "strconv.ErrSyntax" = some #[.iface tp p]
  rng : ∃ tp p, w.var? Tryz.prog "strconv.ErrRange" = some #[.iface tp p]
theorem var_below {P : Program} {W w : World} {name : String} {v : Array Value} (h : W.var? P name = some v) (hb : RowKit.Below W.heap.size W w) : w.var? P name = some v := by
  unfold World.var? at *
  cases hg : P.globalNamed name with
  | none => simp [hg] at h
  | some g =>
    simp only [hg, Option.bind_some] at h ⊢
    have hlt : g < W.heap.size := by
      rcases Nat.lt_or_ge g W.heap.size with q | q
      · exact q
      · rw [Array.getElem?_eq_none q] at h; cases h
    rw [hb.block g hlt]; exact h
theorem WireG.below {W w : World} (h : WireG W) (hb : RowKit.Below W.heap.size W w) : WireG w :=
  ⟨var_below h.tab hb, let ⟨a, b, h⟩ := h.syn; ⟨a, b, var_below h hb⟩, let ⟨a, b, h⟩ := h.rng; ⟨a, b, var_below h hb⟩⟩
theorem itoa0 {w : World} {As : List Th} (hS : Sat w As) (hG : WireG w) (n : Int) (hn : inI n) : Calls Tryz.prog 122 #[intV n] w (Ret fun v w' => v = strV (Lib.itoa n) ∧ Sat w' As) :=
  (Tryz.strconv_Itoa n hn.1 hn.2 w hG.tab).mono fun e w' ⟨h1, k, os, h2⟩ => ⟨_, h1, rfl, by rw [h2]; exact sat_grow hS k os⟩
theorem wInt_sp {w : World} {F : Th} (hS : Sat w [F]) (hG : Ent F WireG) (n : Int) (hn : inI n) :
    Calls Tryz.prog 104 #[intV n] w (Ret fun v w' => v = strV (Lib.itoa n ++ [59]) ∧ Sat w' [F]) := by
 refine calls_enter Tryz.func104 rfl Tryz.ntmps104 rfl ?_
 have hil := (itoa_len hn).1
 refine wc_seq (wc_region (wl_assign rfl rfl (wl_nil (qs_seq (wc_seq (wc_region (wl_move rfl rfl ?_)))))))
 have hC1 := hS.split [] [false] rfl; dsimp only [selF, pickA, nthA, List.cons_append, List.nil_append] at hC1
 refine wl_call cal_122 rfl (itoa0 hC1 (Ent.sat (hG.starL 0 rfl) hC1 0 rfl) n hn) rfl ?_
 rintro e w1 ⟨_, rfl, rfl, hS1⟩; refine ⟨_, rfl, ?_⟩
 replace hS1 := hS1.join rfl; dsimp only [List.dropLast, List.cons_append, List.nil_append] at hS1; clear hC1
 refine wl_concat rfl rfl (by first | omega | (simp; omega)) rfl ?_
 refine wl_assign rfl rfl (wl_nil (qs_seq (wc_ret ?_)))
 refine fin1 (.inr rfl) rfl rfl ?_
 exact ⟨_, rfl, rfl, hS1⟩
def readT (b : Nat) (s : Bs × Bool) : Th := blkT b [strV s.1, .bool s.2]
theorem wOpen_sp {w : World} {F : Th} (hS : Sat w [F]) (s : Bs) :
    Calls Tryz.prog 74 #[strV s] w (Ret fun v w' => ∃ b, v = ptrV b 0 ∧ Sat w' [readT b (s, false), F]) := by
 refine calls_enter Tryz.func74 rfl Tryz.ntmps74 rfl ?_
 refine wc_seq (wc_region (wl_assign rfl rfl (wl_nil (qs_seq (wc_seq (wc_region (wl_move rfl rfl ?_)))))))
 refine wl_buildS rfl pl_132_0 asz_132 zr_132 rfl rfl ?_
 refine wl_box hS rfl rfl rfl ?_
 intro b1 w1 hS1
 refine wl_assign rfl rfl (wl_nil (qs_seq (wc_ret ?_)))
 refine fin1 (.inr rfl) rfl rfl ?_
 exact ⟨_, rfl, _, rfl, hS1⟩
theorem wFail_sp {w : World} {F : Th} {b : Nat} {s : Bs × Bool} (hS : Sat w [readT b s, F]) :
    Calls Tryz.prog 120 #[ptrV b 0] w (Ret fun v w' => v = .tuple #[] ∧ Sat w' [readT b ([], true), F]) := by
 refine calls_enter Tryz.func120 rfl Tryz.ntmps120 rfl ?_
 refine wc_region (wl_move rfl rfl (wl_move rfl rfl (wl_nilCheck rfl rfl ?_)))
 refine wl_fieldAddr rfl fo_132_0 rfl ?_
 first | (refine wl_store hS rfl rfl sz_9 (by first | rfl | assumption) (i := 0) rfl (by first | decide | exact Nat.le_of_ble_eq_true rfl | (simp; done) | omega) ?_)
 intro w1 hS2; dsimp only [List.set] at hS2
 refine wl_nilCheck rfl rfl ?_
 refine wl_fieldAddr rfl fo_132_1 rfl ?_
 first | (refine wl_store hS2 rfl rfl sz_4 (by first | rfl | assumption) (i := 0) rfl (by first | decide | exact Nat.le_of_ble_eq_true rfl | (simp; done) | omega) ?_)
 intro w3 hS4; dsimp only [List.set] at hS4
 clear hS2
 refine wl_nil ?_
 refine fin0 (.inl rfl) rfl ?_
 exact ⟨_, rfl, rfl, hS4⟩
theorem isErr : isIface Tryz.prog 156 = true := by kernel_rfl
theorem atoi0 {w : World} {As : List Th} (hS : Sat w As) (hG : WireG w) (s : Bs) (hs : s.length ≤ 1000000) : Calls Tryz.prog 121 #[strV s] w (Ret fun v w' => (∃ x ev g, v = .tuple #[intV x, ev] ∧ ((ev = .nilIface ∧ g = false) ∨ ∃ a b, ev = .iface a b ∧ g = true) ∧ (g = false → Lib.atoiAll s = .ok x) ∧ (g = true → ∀ n, Lib.atoiAll s ≠ .ok n)) ∧ Sat w' As) := by
  cases h : Lib.atoiAll s with
  | ok n =>
    refine (Tryz.strconv_Atoi_ok ⟨s.toArray⟩ (by simp [ByteArray.size]; omega) n h w).mono fun e w' ⟨h1, h2⟩ => ⟨_, h1, ⟨n, _, false, rfl, .inl ⟨rfl, rfl⟩, (fun _ => rfl), (fun q => by cases q)⟩, ?_⟩
    rcases h2 with rfl | ⟨t, rfl⟩
    · exact hS
    · exact hS.belowAll (Lib.bytesWorld_below _ _ _)
  | «syntax» =>
    obtain ⟨tp, p, hv⟩ := hG.syn
    exact (Tryz.strconv_Atoi_syntax_var ⟨s.toArray⟩ (by simp [ByteArray.size]; omega) h tp p w hv).mono fun e w' ⟨N, h1, _, _, h2⟩ => ⟨_, h1, ⟨0, _, true, rfl, .inr ⟨_, _, rfl, rfl⟩, (fun q => by cases q), (fun _ n q => by cases q)⟩, hS.belowAll h2⟩
  | range =>
    obtain ⟨tp, p, hv⟩ := hG.rng
    exact (Tryz.strconv_Atoi_range_var ⟨s.toArray⟩ (by simp [ByteArray.size]; omega) h tp p w hv).mono fun e w' ⟨N, h1, _, _, h2⟩ => ⟨_, h1, ⟨_, _, true, rfl, .inr ⟨_, _, rfl, rfl⟩, (fun q => by cases q), (fun _ n q => by cases q)⟩, hS.belowAll h2⟩
theorem ixb0 {w : World} {As : List Th} (hS : Sat w As) (s : Bs) (e : UInt8) : Calls Tryz.prog 119 #[strV s, byteV e] w (Ret fun v w' => v = intV (Lib.indexByte s e) ∧ Sat w' As) := by
  refine (Tryz.strings_IndexByte ⟨s.toArray⟩ (e.toNat : Int) w).mono fun e' w' ⟨h1, h2⟩ => ⟨_, h1, ?_, by rw [h2]; exact hS⟩
  simp
def numV (e : UInt8) (least : Int) (s : Bs × Bool) : Int := match numP e least s.1 with | some (n, _) => n | none => 0
def numR (e : UInt8) (least : Int) (s : Bs × Bool) : Bs × Bool := match numP e least s.1 with | some (_, r) => (r, s.2) | none => ([], true)
theorem num_none {e : UInt8} {least : Int} {s : Bs × Bool} (h : numP e least s.1 = none) : numV e least s = 0 ∧ numR e least s = ([], true) := by simp [numV, numR, h]
theorem num_some {e : UInt8} {least n : Int} {s : Bs × Bool} {r : Bs} (h : numP e least s.1 = some (n, r)) : numV e least s = n ∧ numR e least s = (r, s.2) := by simp [numV, numR, h]
theorem num_neg {e : UInt8} {least : Int} {r : Bs} (h : Lib.indexByte (r.take 21) e < 0) : numP e least r = none := by unfold numP; rw [if_pos h]
theorem num_at {e : UInt8} {least : Int} {r : Bs} {o : Nat} (h : Lib.indexByte (r.take 21) e = (o : Int)) : numP e least r = match Lib.atoiAll ((r.take 21).take o) with | .ok n => if Lib.itoa n = (r.take 21).take o ∧ least ≤ n then some (n, r.drop (o + 1)) else none | _ => none := by
  unfold numP; rw [h, if_neg (by omega)]; rfl
theorem num_bad {e : UInt8} {least : Int} {r : Bs} {o : Nat} (h : Lib.indexByte (r.take 21) e = (o : Int)) (h2 : ∀ n, Lib.atoiAll ((r.take 21).take o) ≠ .ok n) : numP e least r = none := by
  rw [num_at h]
  cases hq : Lib.atoiAll ((r.take 21).take o) with
  | ok n => exact absurd hq (h2 n)
  | «syntax» => rfl
  | range => rfl
theorem num_not {e : UInt8} {least x : Int} {r : Bs} {o : Nat} (h : Lib.indexByte (r.take 21) e = (o : Int)) (h2 : Lib.atoiAll ((r.take 21).take o) = .ok x) (h3 : ¬ (Lib.itoa x = (r.take 21).take o ∧ least ≤ x)) : numP e least r = none := by
  rw [num_at h, h2]; dsimp only; rw [if_neg h3]
theorem num_yes {e : UInt8} {least x : Int} {r : Bs} {o : Nat} (h : Lib.indexByte (r.take 21) e = (o : Int)) (h2 : Lib.atoiAll ((r.take 21).take o) = .ok x) (h3 : Lib.itoa x = (r.take 21).take o ∧ least ≤ x) : numP e least r = some (x, r.drop (o + 1)) := by
  rw [num_at h, h2]; dsimp only; rw [if_pos h3]
set_option maxRecDepth 100000 in
theorem number_sp {w : World} {F : Th} {b : Nat} {s : Bs × Bool} (hS : Sat w [readT b s, F]) (hG : Ent F WireG) (e : UInt8) (least : Int) (hrl : s.1.length ≤ 9223372036854775806) :
    Calls Tryz.prog 102 #[ptrV b 0, byteV e, intV least] w (Ret fun v w' => v = intV (numV e least s) ∧ Sat w' [readT b (numR e least s), F]) := by
 obtain ⟨r, q⟩ := s
 dsimp only at hrl
 change Sat w [blkT b [strV r, .bool q], F] at hS
 refine calls_enter Tryz.func102 rfl Tryz.ntmps102 rfl ?_
 refine wc_seq (wc_region (wl_assign rfl rfl (wl_nil (qs_seq (wc_seq ?_)))))
 have hS1 := hS.drew
 refine wc_draw [0, 1, 2, 3, 4, 5, 6, 7, 8, 9, 10, 11] [] mix (by kernel_rfl) ?_
 refine vc_p rfl rfl rfl (fun _ => (ev_move rfl)) ?_
 refine vc_p rfl rfl rfl (fun _ => (ev_nilCheck rfl)) ?_
 refine vc_p rfl rfl rfl (fun _ => (ev_fieldAddr rfl fo_132_0)) ?_
 refine vc_q rfl rfl rfl (ev_load rfl ag_9 (by first | assumption | exact hS1.cell 0 rfl rfl)) ?_
 refine vc_p rfl rfl rfl (fun _ => (ev_move rfl)) ?_
 refine vc_p rfl rfl rfl (fun _ => (ev_nilCheck rfl)) ?_
 refine vc_p rfl rfl rfl (fun _ => (ev_fieldAddr rfl fo_132_0)) ?_
 refine vc_q rfl rfl rfl (ev_load rfl ag_9 (by first | assumption | exact hS1.cell 0 rfl rfl)) ?_
 refine vc_p rfl rfl rfl (fun _ => (ev_lenS Tryz.underlying9 rfl)) ?_
 refine vc_p rfl rfl rfl (fun _ => (ev_minI rfl rfl)) ?_
 refine vc_p rfl rfl rfl (fun _ => (ev_sliceS 0 (min 21 r.length) Tryz.underlying9 rfl (bndN _) (bndS (min 21 r.length) _ rfl (by omega)) (by omega) (by omega))) ?_
 refine vc_p rfl rfl rfl (fun _ => (ev_assign rfl)) ?_
 refine VC.nil ?_
 rw [show List.drop 0 (List.take (min 21 r.length) r) = r.take 21 by rw [List.drop_zero, ← List.take_eq_take_min]]
 refine qs_seq ?_
 refine wc_sub (L' := [(7, _), (6, _), (0, _), (1, _), (2, _)]) (.cons rfl (.cons rfl (.cons rfl (.cons rfl (.cons rfl .nil))))) ?_
 refine wc_seq (wc_region (wl_move rfl rfl (wl_move rfl rfl ?_)))
 have hC2 := hS1.split [] [false, false] rfl; dsimp only [selF, pickA, nthA, List.cons_append, List.nil_append] at hC2
 refine wl_call cal_119 rfl (ixb0 hC2 _ e) rfl ?_
 rintro e w2 ⟨_, rfl, rfl, hS2⟩; refine ⟨_, rfl, ?_⟩
 replace hS2 := hS2.join rfl; dsimp only [List.dropLast, List.cons_append, List.nil_append] at hS2; clear hC2
 clear hS1
 refine wl_assign rfl rfl (wl_nil (qs_seq (wc_seq (wc_seq (wc_region (wl_move rfl rfl ?_))))))
 refine wl_lss rfl rfl rfl ?_
 refine wl_nil (qs_seq ?_)
 refine wc_sub (L' := [(26, _), (8, _), (7, _), (6, _), (0, _), (2, _)]) (.cons rfl (.cons rfl (.cons rfl (.cons rfl (.cons rfl (.cons rfl .nil)))))) ?_
 refine wc_condD rfl (fun h3 => ?_) (fun h3 => ?_)
 ·refine wc_seq (wc_region (wl_move rfl rfl ?_))
  have hC4 := hS2.split [0] [true, false] rfl; dsimp only [selF, pickA, nthA, List.cons_append, List.nil_append] at hC4
  refine wl_call cal_120 rfl (wFail_sp (s := (r, q)) hC4) rfl ?_
  rintro e w4 ⟨_, rfl, rfl, hS4⟩; refine ⟨_, rfl, ?_⟩
  replace hS4 := hS4.join rfl; dsimp only [List.dropLast, List.cons_append, List.nil_append] at hS4; clear hC4
  clear hS2
  refine wl_nil (qs_seq (wc_seq (wc_region (wl_assign rfl rfl (wl_nil (qs_seq (wc_ret (qs_then_ret ?_))))))))
  refine fin1 (.inr rfl) rfl rfl ?_
  have hnp : numP e least r = none := num_neg (by assumption)
  exact ⟨_, rfl, by rw [(num_none (s := (r, q)) hnp).1], by rw [(num_none (s := (r, q)) hnp).2]; exact hS4⟩
 obtain ⟨o, hio⟩ : ∃ o : Nat, Lib.indexByte (r.take 21) e = (o : Int) := ⟨(Lib.indexByte (r.take 21) e).toNat, by omega⟩
 have hol := (List.getElem?_eq_some_iff.1 (Lib.indexByte_some hio).1).1
 have hol2 : o < r.length := by simp at hol; omega
 have htl : (r.take 21).length ≤ 21 := by simp; omega
 rw [hio]
 refine wc_skip (qs_seq (wc_seq (wc_region (wl_move rfl rfl (wl_move rfl rfl ?_)))))
 refine wl_sliceS 0 o Tryz.underlying9 rfl (bndN _) (bndS o _ rfl rfl) (by omega) (by omega) rfl ?_
 rw [List.drop_zero]
 have hC5 := hS2.split [] [false, false] rfl; dsimp only [selF, pickA, nthA, List.cons_append, List.nil_append] at hC5
 refine wl_call cal_121 rfl (atoi0 hC5 (Ent.sat (hG.starL 1 rfl) hC5 0 rfl) _ (by simp; omega)) rfl ?_
 rintro e w5 ⟨_, rfl, ⟨x, ev, g, rfl, hev, hok, hbad⟩, hS5⟩; refine ⟨_, rfl, ?_⟩
 replace hS5 := hS5.join rfl; dsimp only [List.dropLast, List.cons_append, List.nil_append] at hS5; clear hC5
 clear hS2
 refine wl_move rfl rfl (wl_extract rfl rfl rfl (wl_extract rfl rfl rfl (wl_assign rfl rfl (wl_assign rfl rfl (wl_nil (qs_seq ?_))))))
 refine wc_sub (L' := [(10, _), (9, _), (8, _), (7, _), (6, _), (0, _), (2, _)]) (.cons rfl (.cons rfl (.cons rfl (.cons rfl (.cons rfl (.cons rfl (.cons rfl .nil))))))) ?_
 refine wc_seq (wc_seq ?_)
 have hS6 := hS5.drew
 refine wc_draw [0, 1, 2, 3, 5, 6, 7, 4, 8, 9, 10, 11, 12, 13, 14] [4] mix (by kernel_rfl) ?_
 refine vc_p rfl rfl rfl (fun _ => (ev_move rfl)) ?_
 refine vc_p rfl rfl rfl (fun _ => (ev_neqIfNil isErr hev rfl)) ?_
 refine vc_p rfl rfl rfl (fun _ => (ev_move rfl)) ?_
 refine vc_split 38 rfl (fun h7 => ?_) (fun h7 => ?_)
 ·refine vc_not rfl rfl (guard_no rfl rfl h7) ?_
  refine vc_not rfl rfl (guard_no rfl rfl h7) ?_
  refine vc_not rfl rfl (guard_no rfl rfl h7) ?_
  refine vc_not rfl rfl (guard_no rfl rfl h7) ?_
  refine VC.spineNot rfl rfl (guard_no rfl rfl h7) ?_
  refine vc_not rfl rfl (guard_no rfl rfl h7) ?_
  refine vc_p rfl rfl rfl (fun _ => (ev_pickT rfl h7 rfl)) ?_
  refine vc_p rfl rfl rfl (fun _ => (ev_move rfl)) ?_
  refine vc_not rfl rfl (guard_no rfl rfl rfl) ?_
  refine vc_not rfl rfl (guard_no rfl rfl rfl) ?_
  refine vc_not rfl rfl (guard_no rfl rfl rfl) ?_
  refine vc_p rfl rfl rfl (fun _ => (ev_pickT rfl rfl rfl)) ?_
  refine VC.nil (qs_seq ?_)
  refine wc_sub (L' := [(50, _), (9, _), (8, _), (6, _), (0, _)]) (.cons rfl (.cons rfl (.cons rfl (.cons rfl (.cons rfl .nil))))) ?_
  refine wc_condT rfl ?_
  refine wc_seq (wc_region (wl_move rfl rfl ?_))
  have hC8 := hS6.split [0] [true, false] rfl; dsimp only [selF, pickA, nthA, List.cons_append, List.nil_append] at hC8
  refine wl_call cal_120 rfl (wFail_sp (s := (r, q)) hC8) rfl ?_
  rintro e w8 ⟨_, rfl, rfl, hS8⟩; refine ⟨_, rfl, ?_⟩
  replace hS8 := hS8.join rfl; dsimp only [List.dropLast, List.cons_append, List.nil_append] at hS8; clear hC8
  clear hS6
  refine wl_nil (qs_seq (wc_seq (wc_region (wl_assign rfl rfl (wl_nil (qs_seq (wc_ret (qs_then_ret ?_))))))))
  refine fin1 (.inr rfl) rfl rfl ?_
  have hnp : numP e least r = none := num_bad hio (hbad (by assumption))
  exact ⟨_, rfl, by rw [(num_none (s := (r, q)) hnp).1], by rw [(num_none (s := (r, q)) hnp).2]; exact hS8⟩
 refine vc_p rfl rfl (guard_yes rfl rfl h7) (fun _ => (Ev.gd (ev_move rfl))) ?_
 refine vc_p rfl rfl (guard_yes rfl rfl h7) (fun _ => (Ev.gd (ev_move rfl))) ?_
 refine vc_p rfl rfl (guard_yes rfl rfl h7) (fun _ => (Ev.gd (ev_move rfl))) ?_
 refine vc_p rfl rfl (guard_yes rfl rfl h7) (fun _ => (Ev.gd (ev_sliceS 0 o Tryz.underlying9 rfl (bndN _) (bndS o _ rfl rfl) (by omega) (by omega)))) ?_
 refine vc_s rfl rfl (guard_yes rfl rfl h7) rfl rfl rfl ?_
 have hC9 := hS6.split [] [false, false] rfl; dsimp only [selF, pickA, nthA, List.cons_append, List.nil_append] at hC9
 refine wl_call cal_122 rfl (itoa0 hC9 (Ent.sat (hG.starL 1 rfl) hC9 0 rfl) x (atoi_in (hok (by assumption)))) rfl ?_
 rintro e w9 ⟨_, rfl, rfl, hS9⟩; refine ⟨_, rfl, ?_⟩
 replace hS9 := hS9.join rfl; dsimp only [List.dropLast, List.cons_append, List.nil_append] at hS9; clear hC9
 clear hS6
 refine vc_e .nil ?_
 refine vc_p rfl rfl (guard_yes rfl rfl h7) (fun _ => (Ev.gd (ev_neqS rfl rfl))) ?_
 refine vc_p rfl rfl rfl (fun _ => (ev_pickF rfl h7 rfl)) ?_
 refine vc_p rfl rfl rfl (fun _ => (ev_move rfl)) ?_
 refine vc_splitD 46 rfl (fun h10 => ?_) (fun h10 => ?_)
 ·refine vc_not rfl rfl (guard_no rfl rfl (decide_eq_true h10)) ?_
  refine vc_not rfl rfl (guard_no rfl rfl (decide_eq_true h10)) ?_
  refine vc_not rfl rfl (guard_no rfl rfl (decide_eq_true h10)) ?_
  refine vc_p rfl rfl rfl (fun _ => (ev_pickT rfl (decide_eq_true h10) rfl)) ?_
  refine VC.nil (qs_seq ?_)
  refine wc_sub (L' := [(50, _), (9, _), (8, _), (6, _), (0, _)]) (.cons rfl (.cons rfl (.cons rfl (.cons rfl (.cons rfl .nil))))) ?_
  refine wc_condT rfl ?_
  refine wc_seq (wc_region (wl_move rfl rfl ?_))
  have hC11 := hS9.split [0] [true, false] rfl; dsimp only [selF, pickA, nthA, List.cons_append, List.nil_append] at hC11
  refine wl_call cal_120 rfl (wFail_sp (s := (r, q)) hC11) rfl ?_
  rintro e w11 ⟨_, rfl, rfl, hS11⟩; refine ⟨_, rfl, ?_⟩
  replace hS11 := hS11.join rfl; dsimp only [List.dropLast, List.cons_append, List.nil_append] at hS11; clear hC11
  clear hS9
  refine wl_nil (qs_seq (wc_seq (wc_region (wl_assign rfl rfl (wl_nil (qs_seq (wc_ret (qs_then_ret ?_))))))))
  refine fin1 (.inr rfl) rfl rfl ?_
  have hnp : numP e least r = none := num_not hio (hok (by assumption)) (by rintro ⟨q1, q2⟩; first | omega | (rename_i hh; exact hh q1) | (simp_all; done))
  exact ⟨_, rfl, by rw [(num_none (s := (r, q)) hnp).1], by rw [(num_none (s := (r, q)) hnp).2]; exact hS11⟩
 refine vc_p rfl rfl (guard_yes rfl rfl (decide_eq_false h10)) (fun _ => (Ev.gd (ev_move rfl))) ?_
 refine vc_p rfl rfl (guard_yes rfl rfl (decide_eq_false h10)) (fun _ => (Ev.gd (ev_move rfl))) ?_
 refine vc_p rfl rfl (guard_yes rfl rfl (decide_eq_false h10)) (fun _ => (Ev.gd (ev_lss rfl rfl))) ?_
 refine vc_p rfl rfl rfl (fun _ => (ev_pickF rfl (decide_eq_false h10) rfl)) ?_
 refine VC.nil (qs_seq ?_)
 refine wc_sub (L' := [(50, _), (9, _), (8, _), (6, _), (0, _)]) (.cons rfl (.cons rfl (.cons rfl (.cons rfl (.cons rfl .nil))))) ?_
 refine wc_condD rfl (fun h12 => ?_) (fun h12 => ?_)
 ·refine wc_seq (wc_region (wl_move rfl rfl ?_))
  have hC13 := hS9.split [0] [true, false] rfl; dsimp only [selF, pickA, nthA, List.cons_append, List.nil_append] at hC13
  refine wl_call cal_120 rfl (wFail_sp (s := (r, q)) hC13) rfl ?_
  rintro e w13 ⟨_, rfl, rfl, hS13⟩; refine ⟨_, rfl, ?_⟩
  replace hS13 := hS13.join rfl; dsimp only [List.dropLast, List.cons_append, List.nil_append] at hS13; clear hC13
  clear hS9
  refine wl_nil (qs_seq (wc_seq (wc_region (wl_assign rfl rfl (wl_nil (qs_seq (wc_ret (qs_then_ret ?_))))))))
  refine fin1 (.inr rfl) rfl rfl ?_
  have hnp : numP e least r = none := num_not hio (hok (by assumption)) (by rintro ⟨q1, q2⟩; first | omega | (rename_i hh; exact hh q1) | (simp_all; done))
  exact ⟨_, rfl, by rw [(num_none (s := (r, q)) hnp).1], by rw [(num_none (s := (r, q)) hnp).2]; exact hS13⟩
 refine wc_skip (qs_seq (wc_seq (wc_region (wl_move rfl rfl (wl_move rfl rfl (wl_nilCheck rfl rfl ?_))))))
 refine wl_fieldAddr rfl fo_132_0 rfl ?_
 refine wl_load rfl ag_9 (by first | assumption | exact hS9.cell 0 rfl rfl) rfl ?_
 refine wl_move rfl rfl ?_
 refine wl_add rfl rfl (by omega) (by omega) rfl ?_
 refine wl_sliceS (o + 1) r.length Tryz.underlying9 rfl (bndS (o + 1) _ rfl rfl) (bndN _) (by omega) (by omega) rfl ?_
 rw [List.take_length]
 refine wl_nilCheck rfl rfl ?_
 refine wl_fieldAddr rfl fo_132_0 rfl ?_
 first | (refine wl_store hS9 rfl rfl sz_9 (by first | rfl | assumption) (i := 0) rfl (by first | decide | exact Nat.le_of_ble_eq_true rfl | (simp; done) | omega) ?_)
 intro w14 hS15; dsimp only [List.set] at hS15
 clear hS9
 refine wl_nil (qs_seq ?_)
 refine wc_sub (L' := [(9, _), (6, _)]) (.cons rfl (.cons rfl .nil)) ?_
 refine wc_seq (wc_region (wl_move rfl rfl (wl_assign rfl rfl (wl_nil (qs_seq (wc_ret ?_))))))
 refine fin1 (.inr rfl) rfl rfl ?_
 have hnp : numP e least r = some (x, r.drop (o + 1)) := num_yes hio (hok (by assumption)) ⟨Decidable.not_not.1 (by assumption), by omega⟩
 exact ⟨_, rfl, by rw [(num_some (s := (r, q)) hnp).1], by rw [(num_some (s := (r, q)) hnp).2]; exact hS15⟩
theorem rInt_sp {w : World} {F : Th} {b : Nat} {s : Bs × Bool} (hS : Sat w [readT b s, F]) (hG : Ent F WireG) (hrl : s.1.length ≤ 9223372036854775806) :
    Calls Tryz.prog 75 #[ptrV b 0] w (Ret fun v w' => v = intV (numV 59 (-9223372036854775808) s) ∧ Sat w' [readT b (numR 59 (-9223372036854775808) s), F]) := by
 refine calls_enter Tryz.func75 rfl Tryz.ntmps75 rfl ?_
 refine wc_seq (wc_region (wl_assign rfl rfl (wl_nil (qs_seq (wc_seq (wc_region (wl_move rfl rfl ?_)))))))
 have hC1 := hS.split [0] [true, false] rfl; dsimp only [selF, pickA, nthA, List.cons_append, List.nil_append] at hC1
 refine wl_call cal_102 rfl (number_sp hC1 (hG.starL 0 rfl) 59 (-9223372036854775808) hrl) rfl ?_
 rintro e w1 ⟨_, rfl, rfl, hS1⟩; refine ⟨_, rfl, ?_⟩
 replace hS1 := hS1.join rfl; dsimp only [List.dropLast, List.cons_append, List.nil_append] at hS1; clear hC1
 refine wl_assign rfl rfl (wl_nil (qs_seq (wc_ret ?_)))
 refine fin1 (.inr rfl) rfl rfl ?_
 exact ⟨_, rfl, rfl, hS1⟩
end Go.Proofs.YtkaikhcpcbjkcaaGreatDoor
/- pipes, in plain data -/
namespace Go.Proofs.YtkaikhcpcbjkcaaGreatDoor
open Go.RowKit M
set_option linter.unusedVariables false
def imin : Int := -9223372036854775808
structure PipeD where
  d : Bs
  r : Int
  w : Int
theorem numP_cons {e : UInt8} {least m : Int} {rest : Bs} (he : 57 < e.toNat) (hm : inI m) (hl : least ≤ m) : numP e least (Lib.itoa m ++ e :: rest) = some (m, rest) := by
  have := numP_back (e := e) (least := least) (m := m) (r := Lib.itoa m ++ e :: rest) (k := (Lib.itoa m).length) he (by rw [List.getElem?_append_right (Nat.le_refl _)]; simp) hm hl (by rw [List.take_left'] <;> rfl)
  rw [this, List.drop_append, List.drop_eq_nil_of_le (by omega)]
  simp
theorem num_cons {e : UInt8} {least m : Int} {rest : Bs} {b : Bool} (he : 57 < e.toNat) (hm : inI m) (hl : least ≤ m) : numV e least (Lib.itoa m ++ e :: rest, b) = m ∧ numR e least (Lib.itoa m ++ e :: rest, b) = (rest, b) := num_some (numP_cons he hm hl)
end Go.Proofs.YtkaikhcpcbjkcaaGreatDoor
/- wire: texts -/
namespace Go.Proofs.YtkaikhcpcbjkcaaGreatDoor
open Go.RowKit M
set_option linter.unusedVariables false
theorem numR_len (e : UInt8) (l : Int) (s : Bs × Bool) : (numR e l s).1.length ≤ s.1.length := by
  unfold numR
  split
  · rename_i n r h; rw [(numP_some h).1]; simp only [List.length_append, List.length_cons]; omega
  · simp
theorem numV_in (e : UInt8) (least : Int) (s : Bs × Bool) : inI (numV e least s) := by
  unfold numV
  split
  · rename_i n r h; exact (numP_some h).2.1
  · unfold inI; omega
end Go.Proofs.YtkaikhcpcbjkcaaGreatDoor
