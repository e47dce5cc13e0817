/- procs: Key, bit, ints, Texts -/
import Derived.Test.YtcbdclhoekokpaaGreatDoorPc0
import Derived.Test.YtcbdclhoekokpaaGreatDoorWbl
import Derived.Test.YtcbdclhoekokpaaGreatDoorDk
namespace Go.Proofs.YtcbdclhoekokpaaGreatDoor
open Go.RowKit M
set_option linter.unusedVariables false
theorem itoa_six {n : Int} (h : 1 ≤ n ∧ n ≤ 999999) : (Lib.itoa n).length ≤ 6 ∧ 1 ≤ (Lib.itoa n).length := by
  obtain ⟨u, rfl⟩ : ∃ u : Nat, n = u := ⟨n.toNat, by omega⟩
  rw [Lib.itoa_nonneg, Lib.decDigits_length]
  have := nDigits_le 5 u (by simp; omega)
  have := Lib.nDigits_pos u
  omega
def keyP (pid : Int) : Bs := if pid < 1 ∨ 999999 < pid then [] else [80, 47] ++ List.replicate (6 - (Lib.itoa pid).length) 48 ++ Lib.itoa pid
theorem rep_one (k : Nat) : Lib.repeatL [48] k = List.replicate k 48 := by
  induction k with
  | zero => rfl
  | succ k ih => rw [Lib.repeatL, ih]; rfl
theorem rep0 {w : World} {As : List Th} (hS : Sat w As) (k : Nat) (hk : k ≤ 6) : Calls Tryz.prog 72 #[strV [48], intV (k : Int)] w (Ret fun v w' => v = strV (List.replicate k 48) ∧ Sat w' As) := by
  have h := Tryz.strings_Repeat ⟨#[48]⟩ k w (by omega) (by show 1 * k ≤ _; omega)
  rw [show (⟨#[48]⟩ : ByteArray).data.toList = [48] from rfl, rep_one] at h
  exact calls_below hS h
theorem key_sp {w : World} {F : Th} (hS : Sat w [F]) (hG : Ent F WireG) (pid : Int) :
    Calls Tryz.prog 24 #[intV pid] w (Ret fun v w' => v = strV (keyP pid) ∧ Sat w' [F]) := by
  refine calls_enter Tryz.func24 rfl Tryz.ntmps24 rfl ?_
  refine wc_seq ?_
  refine wc_region ?_
  refine wl_assign rfl rfl ?_
  refine wl_nil ?_
  refine qs_seq ?_
  refine wc_seq ?_
  refine wc_seq ?_
  refine wc_region ?_
  refine wl_move rfl rfl ?_
  refine wl_lss rfl rfl rfl ?_
  refine wl_move rfl rfl ?_
  refine wl_splitD 6 rfl (fun h1 => ?_) (fun h1 => ?_)
  · skip
    refine wl_unwanted rfl rfl (decide_eq_true h1) rfl ?_
    refine wl_unwanted rfl rfl (decide_eq_true h1) rfl ?_
    refine wl_pickT rfl (decide_eq_true h1) rfl rfl ?_
    refine wl_nil ?_
    refine qs_seq ?_
    refine wc_condT rfl ?_
    refine wc_seq ?_
    refine wc_region ?_
    refine wl_assign rfl rfl ?_
    refine wl_nil ?_
    refine qs_seq ?_
    refine wc_ret ?_
    refine qs_then_ret ?_
    refine fin1 (.inr rfl) rfl rfl ?_
    exact ⟨_, rfl, by unfold keyP; rw [if_pos (by omega)], hS⟩
  refine wl_guard rfl rfl (decide_eq_false h1) ?_
  refine wl_move rfl rfl ?_
  refine wl_guard rfl rfl (decide_eq_false h1) ?_
  refine wl_gtr rfl rfl rfl ?_
  refine wl_pickF rfl (decide_eq_false h1) rfl rfl ?_
  refine wl_nil ?_
  refine qs_seq ?_
  refine wc_condD rfl (fun h2 => ?_) (fun h2 => ?_)
  · skip
    refine wc_seq ?_
    refine wc_region ?_
    refine wl_assign rfl rfl ?_
    refine wl_nil ?_
    refine qs_seq ?_
    refine wc_ret ?_
    refine qs_then_ret ?_
    refine fin1 (.inr rfl) rfl rfl ?_
    exact ⟨_, rfl, by unfold keyP; rw [if_pos (by omega)], hS⟩
  refine wc_skip ?_
  refine qs_seq ?_
  refine wc_seq ?_
  have hr : 1 ≤ pid ∧ pid ≤ 999999 := by omega
  refine wc_region ?_
  refine wl_move rfl rfl ?_
  have hC3 := hS.split [] [false] rfl; dsimp only [selF, pickA, nthA, List.cons_append, List.nil_append] at hC3
  refine wl_call cal_71 rfl (itoa0 hC3 (Ent.sat (hG.starL 0 rfl) hC3 0 rfl) pid (by unfold inI; omega)) rfl ?_
  rintro e w3 ⟨_, rfl, rfl, hS3⟩; refine ⟨_, rfl, ?_⟩
  replace hS3 := hS3.join rfl; dsimp only [List.dropLast, List.cons_append, List.nil_append] at hS3; clear hC3
  refine wl_assign rfl rfl ?_
  refine wl_nil ?_
  refine qs_seq ?_
  refine wc_sub (L' := [(3, _), (2, _)]) (.cons rfl (.cons rfl .nil)) ?_
  refine wc_seq ?_
  have hil := itoa_six hr
  obtain ⟨z, hz⟩ : ∃ z, z = Lib.itoa pid := ⟨_, rfl⟩
  rw [← hz] at hil ⊢
  refine wc_region ?_
  refine wl_move rfl rfl ?_
  refine wl_lenS Tryz.underlying9 rfl rfl ?_
  refine wl_sub' rfl rfl (by first | omega | (simp; omega)) (by first | omega | (simp; omega)) rfl ?_
  rw [show (6 : Int) - (z.length : Int) = ((6 - z.length : Nat) : Int) by omega]
  have hC4 := hS3.split [] [false] rfl; dsimp only [selF, pickA, nthA, List.cons_append, List.nil_append] at hC4
  refine wl_call cal_72 rfl (rep0 hC4 (6 - z.length) (by omega)) rfl ?_
  rintro e w4 ⟨_, rfl, rfl, hS4⟩; refine ⟨_, rfl, ?_⟩
  replace hS4 := hS4.join rfl; dsimp only [List.dropLast, List.cons_append, List.nil_append] at hS4; clear hC4
  clear hS3
  refine wl_concat rfl rfl (by first | omega | (simp; omega)) rfl ?_
  refine wl_move rfl rfl ?_
  refine wl_concat rfl rfl (by first | omega | (simp; omega)) rfl ?_
  refine wl_assign rfl rfl ?_
  refine wl_nil ?_
  refine qs_seq ?_
  refine wc_ret ?_
  refine fin1 (.inr rfl) rfl rfl ?_
  exact ⟨_, rfl, by unfold keyP; rw [if_neg (by omega), ← hz], hS4⟩
theorem bit_sp {w : World} {F : Th} (hS : Sat w [F]) (b : Bool) :
    Calls Tryz.prog 66 #[.bool b] w (Ret fun v w' => v = intV (bitN b) ∧ Sat w' [F]) := by
  refine calls_enter Tryz.func66 rfl Tryz.ntmps66 rfl ?_
  refine wc_seq ?_
  refine wc_region ?_
  refine wl_assign rfl rfl ?_
  refine wl_nil ?_
  refine qs_seq ?_
  refine wc_seq ?_
  refine wc_seq ?_
  refine wc_region ?_
  refine wl_move rfl rfl ?_
  refine wl_nil ?_
  refine qs_seq ?_
  refine wc_cond rfl (fun h1 => ?_) (fun h1 => ?_)
  · skip
    refine wc_seq ?_
    refine wc_region ?_
    refine wl_assign rfl rfl ?_
    refine wl_nil ?_
    refine qs_seq ?_
    refine wc_ret ?_
    refine qs_then_ret ?_
    refine fin1 (.inr rfl) rfl rfl ?_
    exact ⟨_, rfl, by unfold bitN; simp_all, hS⟩
  refine wc_skip ?_
  refine qs_seq ?_
  refine wc_seq ?_
  refine wc_region ?_
  refine wl_assign rfl rfl ?_
  refine wl_nil ?_
  refine qs_seq ?_
  refine wc_ret ?_
  refine fin1 (.inr rfl) rfl rfl ?_
  exact ⟨_, rfl, by unfold bitN; simp_all, hS⟩
theorem encN_len {n : Int} (h : inI n) : (encN n).length ≤ 30 := by
  have := (itoa_len h).1
  unfold encN; simp; omega
theorem encIs_len {l : List Int} (h : ∀ n ∈ l, inI n) : (encIs l).length ≤ 30 * l.length := by
  induction l with
  | nil => simp [encIs]
  | cons n l ih =>
    have h1 := encN_len (h n List.mem_cons_self)
    have h2 := ih fun m hm => h m (List.mem_cons_of_mem _ hm)
    have e : encIs (n :: l) = encN n ++ encIs l := by simp [encIs]
    rw [e]; simp only [List.length_append, List.length_cons]; omega
theorem encIs_succ {l : List Int} {i : Nat} {n : Int} (h : l[i]? = some n) : encIs (l.take (i + 1)) = encIs (l.take i) ++ encN n := by
  rw [List.take_add_one, h]; simp [encIs]
set_option maxRecDepth 100000 in
theorem ints_sp {w : World} {F : Th} {bb : Nat} {s : Bs} (hS : Sat w [bldT bb s, F]) (hG : Ent F WireG) {lv : Value} {l : List Int} (hL : Ent F (RdL inC lv l)) (hI : ∀ n ∈ l, inI n) (hl : l.length ≤ 1000) (hs : s.length ≤ 1000000000) :
    Calls Tryz.prog 61 #[lv, ptrV bb 0] w (Ret fun v w' => v = .tuple #[] ∧ Sat w' [bldT bb (s ++ encIs l), F]) := by
  obtain ⟨ao, cap, rfl, hmax⟩ := (hL.sat (hS.pull 1 rfl) 0 rfl).shape
  refine calls_enter Tryz.func61 rfl Tryz.ntmps61 rfl ?_
  refine wc_seq ?_
  refine wc_region ?_
  refine wl_move rfl rfl ?_
  refine wl_lenL Tryz.underlying46 rfl rfl ?_
  refine wl_move rfl rfl ?_
  refine wl_nil ?_
  refine qs_seq ?_
  refine wc_block ?_
  refine wc_loop (fun K0 E0 W0 => ∃ (i : Nat), K0 = l.length - i ∧ E0 = [(1, ptrV bb 0), (5, .slice ao l.length cap), (6, intV (l.length : Int)), (7, intV (i : Int))] ∧ Sat W0 [bldT bb (s ++ encIs (l.take i)), F] ∧ (i ≤ l.length)) (L0 := [(1, _), (5, _), (6, _), (7, _)]) (l.length - 0) (.cons rfl (.cons rfl (.cons rfl (.cons rfl .nil)))) ⟨0, rfl, rfl, (by rw [List.take_zero, show encIs [] = [] from rfl, List.append_nil]; exact hS), by omega⟩ ?_
  rintro _ _ w1 ⟨i, rfl, rfl, hS1, hi⟩
  have hel := encIs_len (l := l.take i) (fun n hn => hI n (List.mem_of_mem_take hn))
  have htl : (l.take i).length ≤ l.length := by rw [List.length_take]; omega
  refine wc_seq ?_
  refine wc_region ?_
  refine wl_lss rfl rfl rfl ?_
  refine wl_nil ?_
  refine qs_seq ?_
  refine wc_seq ?_
  refine wc_condD rfl (fun h2 => ?_) (fun h2 => ?_)
  · skip
    obtain ⟨n, hn⟩ : ∃ n, l[i]? = some n := ⟨_, List.getElem?_eq_getElem (by omega)⟩
    obtain ⟨b, off, rfl, hc⟩ := (hL.sat hS1 1 rfl).get hn
    have hni := hI n (List.mem_of_getElem? hn)
    have hnl := encN_len hni
    refine wc_skip ?_
    refine qs_seq ?_
    refine wc_seq ?_
    refine wc_block ?_
    refine wc_seq ?_
    refine wc_region ?_
    refine wl_indexAddr i rfl rfl (by first | rfl | omega) (by omega) es_46 rfl ?_
    refine wl_load rfl ag_3 (hc 0 _ rfl) rfl ?_
    refine wl_assign rfl rfl ?_
    refine wl_nil ?_
    refine qs_seq ?_
    refine wc_region ?_
    refine wl_move rfl rfl ?_
    have hC3 := hS1.split [] [false, false] rfl; dsimp only [selF, pickA, nthA, List.cons_append, List.nil_append] at hC3
    refine wl_call cal_63 rfl (wInt_sp hC3 (hG.starL 1 rfl) n hni) rfl ?_
    rintro e w3 ⟨_, rfl, rfl, hS3⟩; refine ⟨_, rfl, ?_⟩
    replace hS3 := hS3.join rfl; dsimp only [List.dropLast, List.cons_append, List.nil_append] at hS3; clear hC3
    clear hS1
    rw [show Lib.itoa n ++ [59] = encN n from rfl]
    have hC4 := hS3.split [0] [true, false] rfl; dsimp only [selF, pickA, nthA, List.cons_append, List.nil_append] at hC4
    refine wl_call cal_62 rfl (bl_writeString hC4 (encN n) (by rw [List.length_append]; omega)) rfl ?_
    rintro e w4 ⟨_, rfl, rfl, hS4⟩; refine ⟨_, rfl, ?_⟩
    replace hS4 := hS4.join rfl; dsimp only [List.dropLast, List.cons_append, List.nil_append] at hS4; clear hC4
    clear hS3
    refine wl_nil ?_
    refine qs_block_normal ?_
    refine qs_seq ?_
    refine wc_sub (L' := [(1, _), (5, _), (6, _), (7, _)]) (.cons rfl (.cons rfl (.cons rfl (.cons rfl .nil)))) ?_
    refine wc_region ?_
    refine wl_add rfl rfl (by first | omega | (simp; omega)) (by first | omega | (simp; omega)) rfl ?_
    refine wl_move rfl rfl ?_
    refine wl_nil ?_
    exact qs_round (L1 := [(1, _), (5, _), (6, _), (7, intV ((i + 1 : Nat) : Int))]) (.cons rfl (.cons rfl (.cons rfl (.cons rfl .nil)))) (k1 := l.length - (i + 1)) (by omega) ⟨i + 1, rfl, rfl, (by rw [encIs_succ hn, ← List.append_assoc]; exact hS4.pick [0, 1] rfl), by omega⟩
  refine wc_exit ?_
  refine qs_then_exit ?_
  refine qs_then_exit ?_
  refine qs_block_exit ?_
  refine fin0 (.inl rfl) rfl ?_
  exact ⟨_, rfl, rfl, by rw [show l = l.take i by rw [List.take_of_length_le (by omega)]]; exact hS1⟩
theorem encT_len {s : Bs} (h : s.length ≤ 1000000) : (encT s).length ≤ s.length + 40 := by
  have h1 := (itoa_len (n := (s.length : Int)) (by unfold inI; omega)).1
  unfold encT
  simp only [List.length_append, List.length_cons, List.length_nil]; omega
theorem encT_succ {l : List Bs} {i : Nat} {x : Bs} (h : l[i]? = some x) : (l.take (i + 1)).flatMap encT = (l.take i).flatMap encT ++ encT x := by
  rw [List.take_add_one, h]; simp
set_option maxRecDepth 100000 in
theorem list_sp {w : World} {F : Th} (hS : Sat w [F]) (hG : Ent F WireG) {lv : Value} {l : List Bs} (hL : Ent F (RdL stC lv l)) (hln : l.length ≤ 1000000) (hok : ∀ x ∈ l, x.length ≤ 1000000) :
    Calls Tryz.prog 105 #[lv, .func (.func 65) #[] #[]] w (Ret fun v w' => v = strV (encTs l) ∧ Sat w' [F]) := by
  obtain ⟨ao, cap, rfl, hmax⟩ := (hL.sat hS 0 rfl).shape
  refine calls_enter Tryz.func105 rfl Tryz.ntmps105 rfl ?_
  have hil := (itoa_len (n := (l.length : Int)) (by unfold inI; omega)).1
  have hhl : (Lib.itoa (l.length : Int) ++ [91]).length = (Lib.itoa (l.length : Int)).length + 1 := by simp
  refine wc_seq ?_
  refine wc_region ?_
  refine wl_assign rfl rfl ?_
  refine wl_nil ?_
  refine qs_seq ?_
  refine wc_seq ?_
  refine wc_region ?_
  refine wl_allocT hS zr_101 (cs := [.pointer none, .slice none 0 0]) rfl rfl ?_
  intro bb wB hSB
  have hSC := bldT_shut (.inl rfl) ((bufT_nil hSB).perm (List.Perm.swap _ _ _))
  refine wl_nil ?_
  refine qs_seq ?_
  refine wc_seq ?_
  refine wc_region ?_
  refine wl_move rfl rfl ?_
  refine wl_lenL Tryz.underlying31 rfl rfl ?_
  have hC1 := hSC.split [] [false, false] rfl; dsimp only [selF, pickA, nthA, List.cons_append, List.nil_append] at hC1
  refine wl_call cal_71 rfl (itoa0 hC1 (Ent.sat (hG.starL 1 rfl) hC1 0 rfl) (l.length : Int) (by unfold inI; omega)) rfl ?_
  rintro e w1 ⟨_, rfl, rfl, hS1⟩; refine ⟨_, rfl, ?_⟩
  replace hS1 := hS1.join rfl; dsimp only [List.dropLast, List.cons_append, List.nil_append] at hS1; clear hC1
  clear hSC
  refine wl_concat rfl rfl (by first | omega | (rw [List.length_append, hhl]; simp only [List.length_cons, List.length_nil]; omega) | (simp; omega)) rfl ?_
  have hC2 := hS1.split [0] [true, false] rfl; dsimp only [selF, pickA, nthA, List.cons_append, List.nil_append] at hC2
  refine wl_call cal_62 rfl (bl_writeString hC2 (Lib.itoa (l.length : Int) ++ [91]) (by simp only [List.length_nil]; omega)) rfl ?_
  rintro e w2 ⟨_, rfl, rfl, hS2⟩; refine ⟨_, rfl, ?_⟩
  replace hS2 := hS2.join rfl; dsimp only [List.dropLast, List.cons_append, List.nil_append] at hS2; clear hC2
  clear hS1
  refine wl_nil ?_
  refine qs_seq ?_
  refine wc_seq ?_
  refine wc_seq ?_
  refine wc_region ?_
  refine wl_move rfl rfl ?_
  refine wl_lenL Tryz.underlying31 rfl rfl ?_
  refine wl_move rfl rfl ?_
  refine wl_nil ?_
  refine qs_seq ?_
  refine wc_sub (L' := [(15, _), (14, _), (13, _), (5, _), (4, _), (1, _)]) (.cons rfl (.cons rfl (.cons rfl (.cons rfl (.cons rfl (.cons rfl .nil)))))) ?_
  refine wc_block ?_
  refine wc_loop (fun K0 E0 W0 => ∃ (i : Nat), K0 = l.length - i ∧ E0 = [(1, .func (.func 65) #[] #[]), (5, ptrV bb 0), (13, .slice ao l.length cap), (14, intV (l.length : Int)), (15, intV (i : Int))] ∧ Sat W0 [bldT bb ((Lib.itoa (l.length : Int) ++ [91]) ++ (l.take i).flatMap encT), F] ∧ (i ≤ l.length) ∧ (((l.take i).flatMap encT).length ≤ 1000040 * i)) (L0 := [(1, _), (5, _), (13, _), (14, _), (15, _)]) (l.length - 0) (.cons rfl (.cons rfl (.cons rfl (.cons rfl (.cons rfl .nil))))) ⟨0, rfl, rfl, (by rw [List.take_zero, List.flatMap_nil, List.append_nil]; exact hS2), by omega, by simp⟩ ?_
  rintro _ _ w3 ⟨i, rfl, rfl, hS3, hi, hbl⟩
  refine wc_seq ?_
  refine wc_region ?_
  refine wl_lss rfl rfl rfl ?_
  refine wl_nil ?_
  refine qs_seq ?_
  refine wc_seq ?_
  refine wc_condD rfl (fun h4 => ?_) (fun h4 => ?_)
  · skip
    obtain ⟨x, hx⟩ : ∃ x, l[i]? = some x := ⟨_, List.getElem?_eq_getElem (by omega)⟩
    obtain ⟨b, off, rfl, hc⟩ := (hL.sat hS3 1 rfl).get hx
    have hxl := hok x (List.mem_of_getElem? hx)
    have htl := encT_len hxl
    refine wc_skip ?_
    refine qs_seq ?_
    refine wc_seq ?_
    refine wc_block ?_
    refine wc_seq ?_
    refine wc_region ?_
    refine wl_indexAddr i rfl rfl (by first | rfl | omega) (by omega) es_31 rfl ?_
    refine wl_load rfl ag_9 (hc 0 _ rfl) rfl ?_
    refine wl_assign rfl rfl ?_
    refine wl_nil ?_
    refine qs_seq ?_
    refine wc_region ?_
    refine wl_move rfl rfl ?_
    refine wl_move rfl rfl ?_
    have hC5 := hS3.split [] [false, false] rfl; dsimp only [selF, pickA, nthA, List.cons_append, List.nil_append] at hC5
    refine wl_callV rfl cal_65 rfl (wText_sp hC5 (hG.starL 1 rfl) x hxl) rfl ?_
    rintro e w5 ⟨_, rfl, rfl, hS5⟩; refine ⟨_, rfl, ?_⟩
    replace hS5 := hS5.join rfl; dsimp only [List.dropLast, List.cons_append, List.nil_append] at hS5; clear hC5
    clear hS3
    have hC6 := hS5.split [0] [true, false] rfl; dsimp only [selF, pickA, nthA, List.cons_append, List.nil_append] at hC6
    refine wl_call cal_62 rfl (bl_writeString hC6 (encT x) (by rw [List.length_append]; omega)) rfl ?_
    rintro e w6 ⟨_, rfl, rfl, hS6⟩; refine ⟨_, rfl, ?_⟩
    replace hS6 := hS6.join rfl; dsimp only [List.dropLast, List.cons_append, List.nil_append] at hS6; clear hC6
    clear hS5
    refine wl_nil ?_
    refine qs_block_normal ?_
    refine qs_seq ?_
    refine wc_sub (L' := [(1, _), (5, _), (13, _), (14, _), (15, _)]) (.cons rfl (.cons rfl (.cons rfl (.cons rfl (.cons rfl .nil))))) ?_
    refine wc_region ?_
    refine wl_add rfl rfl (by first | omega | (rw [List.length_append, hhl]; simp only [List.length_cons, List.length_nil]; omega) | (simp; omega)) (by first | omega | (rw [List.length_append, hhl]; simp only [List.length_cons, List.length_nil]; omega) | (simp; omega)) rfl ?_
    refine wl_move rfl rfl ?_
    refine wl_nil ?_
    exact qs_round (L1 := [(1, _), (5, _), (13, _), (14, _), (15, intV ((i + 1 : Nat) : Int))]) (.cons rfl (.cons rfl (.cons rfl (.cons rfl (.cons rfl .nil))))) (k1 := l.length - (i + 1)) (by omega) ⟨i + 1, rfl, rfl, (by rw [encT_succ hx, ← List.append_assoc]; exact hS6.pick [0, 1] rfl), by omega, by rw [encT_succ hx, List.length_append]; omega⟩
  refine wc_exit ?_
  refine qs_then_exit ?_
  refine qs_then_exit ?_
  refine qs_block_exit ?_
  refine qs_seq ?_
  refine wc_seq ?_
  refine wc_region ?_
  have hC7 := hS3.split [0] [true, false] rfl; dsimp only [selF, pickA, nthA, List.cons_append, List.nil_append] at hC7
  refine wl_call cal_68 rfl (bl_string hC7 (by rw [List.length_append]; omega)) rfl ?_
  rintro e w7 ⟨_, rfl, rfl, hS7⟩; refine ⟨_, rfl, ?_⟩
  replace hS7 := hS7.join rfl; dsimp only [List.dropLast, List.cons_append, List.nil_append] at hS7; clear hC7
  clear hS3
  refine wl_concat rfl rfl (by first | omega | (rw [List.length_append, hhl]; simp only [List.length_cons, List.length_nil]; omega) | (simp; omega)) rfl ?_
  refine wl_assign rfl rfl ?_
  refine wl_nil ?_
  refine qs_seq ?_
  refine wc_ret ?_
  refine fin1 (.inr rfl) rfl rfl ?_
  exact ⟨_, rfl, by rw [List.take_of_length_le (by omega)]; rfl, hS7.pick [0] rfl⟩
theorem wTexts_sp {w : World} {F : Th} (hS : Sat w [F]) (hG : Ent F WireG) {lv : Value} {l : List Bs} (hL : Ent F (RdL stC lv l)) (hln : l.length ≤ 1000000) (hok : ∀ x ∈ l, x.length ≤ 1000000) :
    Calls Tryz.prog 67 #[lv] w (Ret fun v w' => v = strV (encTs l) ∧ Sat w' [F]) := by
  refine calls_enter Tryz.func67 rfl Tryz.ntmps67 rfl ?_
  refine wc_seq ?_
  refine wc_region ?_
  refine wl_assign rfl rfl ?_
  refine wl_nil ?_
  refine qs_seq ?_
  refine wc_seq ?_
  refine wc_region ?_
  refine wl_move rfl rfl ?_
  have hC1 := hS.split [] [false] rfl; dsimp only [selF, pickA, nthA, List.cons_append, List.nil_append] at hC1
  refine wl_call cal_105 rfl (list_sp hC1 (hG.starL 0 rfl) (hL.starL 0 rfl) hln hok) rfl ?_
  rintro e w1 ⟨_, rfl, rfl, hS1⟩; refine ⟨_, rfl, ?_⟩
  replace hS1 := hS1.join rfl; dsimp only [List.dropLast, List.cons_append, List.nil_append] at hS1; clear hC1
  refine wl_assign rfl rfl ?_
  refine wl_nil ?_
  refine qs_seq ?_
  refine wc_ret ?_
  refine fin1 (.inr rfl) rfl rfl ?_
  exact ⟨_, rfl, rfl, hS1⟩
end Go.Proofs.YtcbdclhoekokpaaGreatDoor
