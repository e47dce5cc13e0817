/- laws of journal: JournalAtomic -/
import Derived.Test.YtfmkodmmbgibgaaGreatDoorJl1
import Derived.Test.YtfmkodmmbgibgaaGreatDoorJw4
import Derived.Test.YtfmkodmmbgibgaaGreatDoorOp4
import Derived.ChangeKeysEq
import Derived.Laws.StructEq
import Derived.Test.YtfmkodmmbgibgaaGreatDoorRd
import Derived.Lib.LaidU8
import Derived.ChangeBears2
import Derived.Test.YtfmkodmmbgibgaaGreatDoorRows
namespace Go.Proofs.YtfmkodmmbgibgaaGreatDoor
open Go.RowKit M
set_option linter.unusedVariables false
theorem Sta.arm {D : DS} {f : Int} {C : CS} {B : Int → Bytes} (h : Sta D f C B) (n : Int) (ks : List Int) : Sta (armD D n ks) f C B :=
  ⟨⟨h.up.down, h.up.lost⟩, h.cell.congr (D' := armD D n ks) rfl (fun _ q _ => q) rfl, firm_congr h.firm rfl fun _ q _ => q, h.home.congr rfl fun _ q _ => q⟩
theorem arm_self {D : DS} (h : D.armed = 0) : armD D 0 D.keep = D := by
  cases D
  simp only at h
  subst h
  simp [armD]
theorem Sta.end_ {D : DS} {f : Int} {C : CS} {B : Int → Bytes} (h : Sta D f C B) (ks : List Int) : Lv (startD (crashD D ks)) f B [] ∧ (startD (crashD D ks)).armed = 0 := by
  have ha : (startD (crashD D ks)).armed = 0 := by
    show (crashD D ks).armed = 0
    unfold crashD; rw [if_neg (by rw [h.up.down]; decide)]
  refine ⟨?_, ha⟩
  rw [← arm_self ha]
  exact (h.crash [] ks).start 0 _
theorem listB_nil : listB (fun _ => []) = [] := by
  refine List.eq_nil_iff_forall_not_mem.2 fun b hb => ?_
  have := mem_listB.1 hb
  exact this.2.2 this.2.1.symm
theorem lopenR {w : World} {dp : Nat} {D : DS} {F : Th} (hS : Sat w [dT dp D, F]) (hG : Ent F WireG) (hO : Ent F (Glob 0)) {f : Int} {A : Int → Bytes} {l : List Blk} (hf : 0 ≤ f ∧ f ≤ 13) (hr : rightJ l = true) (hA : Ran A) (h : Lv D f A l) :
    Calls Tryz.prog 9 #[ptrV dp 0, intV f] w (Ret fun v w' => ∃ D', Rst D' f A (withB A l) ∧ Sat w' [dT dp D', F]) := by
  refine (lopenA hS hG hO hf hr hA h).mono fun e w' hh => hh.mono fun v w' hh => ?_
  rcases hh with ⟨jp, D', C, B, h1, h2, h3, h4, h5, h6⟩ | ⟨_, D', h1, h2, h3⟩
  · exact ⟨D', Rst.sta h3 h4 h2, h6.tail⟩
  · exact ⟨D', Rst.dw h2 hr hA, h3⟩
theorem rdI_nil (w : World) : RdI (.slice none 0 0) [] w := ⟨none, 0, rfl, by simp, by simp⟩
set_option maxRecDepth 100000 in
set_option maxHeartbeats 2000000 in
theorem atomic_law {w : World} {F : Th} (hS : Sat w [F]) (hG : Ent F WireG) (hO : Ent F (Glob 0)) (base : Int) {lv : Value} {ls : List ChD} (hL : Ent F (ChsRd lv ls)) (at_ again : Int) (hna : at_ ≤ 9223372036854775807) (hnb : again ≤ 9223372036854775807) {kv : Value} {ks : List Int} (hK : Ent F (RdI kv ks)) :
    Calls Tryz.prog 4 #[intV base, lv, intV at_, intV again, kv] w (Ret fun v w' => v = .bool true ∧ Sat w' [F]) := by
  obtain ⟨ao, cap, rfl, hmax⟩ := (hL.sat hS 0 rfl).shape
  obtain ⟨aok, capk, hkv, hkm⟩ := (hK.sat hS 0 rfl).toL.shape
  subst hkv
  have hKL : Ent F (RdL inC (.slice aok ks.length capk) ks) := fun q => (hK q).toL
  refine calls_enter Tryz.func4 rfl Tryz.ntmps4 rfl ?_
  refine wc_seq ?_
  refine wc_region ?_
  refine wl_assign rfl rfl ?_
  refine wl_nil ?_
  refine qs_seq ?_
  refine wc_seq ?_
  refine wc_region ?_
  have hC1 := hS.split [] [false] rfl; dsimp only [selF, pickA, nthA, List.cons_append, List.nil_append] at hC1
  refine wl_call cal_6 rfl (jsmall_sp hC1 (hG.starL 0 rfl) (hO.starL 0 rfl)) rfl ?_
  rintro e w1 ⟨_, rfl, rfl, hS1⟩; refine ⟨_, rfl, ?_⟩
  replace hS1 := hS1.join rfl; dsimp only [List.dropLast, List.cons_append, List.nil_append] at hS1; clear hC1
  refine wl_assign rfl rfl ?_
  refine wl_nil ?_
  refine qs_seq ?_
  refine wc_seq ?_
  refine wc_seq ?_
  refine wc_region ?_
  refine wl_move rfl rfl ?_
  refine wl_move rfl rfl ?_
  have hC2 := hS1.split [] [false] rfl; dsimp only [selF, pickA, nthA, List.cons_append, List.nil_append] at hC2
  refine wl_call cal_7 rfl (jfew_sp hC2 (hL.starL 0 rfl) (hKL.starL 0 rfl)) rfl ?_
  rintro e w2 ⟨_, rfl, bf, rfl, hfw, hS2⟩; refine ⟨_, rfl, ?_⟩
  replace hS2 := hS2.join rfl; dsimp only [List.dropLast, List.cons_append, List.nil_append] at hS2; clear hC2
  clear hS1
  refine wl_not rfl rfl ?_
  refine wl_move rfl rfl ?_
  refine wl_split 27 rfl (fun h3 => ?_) (fun h3 => ?_)
  · skip
    refine wl_unwanted rfl rfl h3 rfl ?_
    refine wl_unwanted rfl rfl h3 rfl ?_
    refine wl_pickT rfl h3 rfl rfl ?_
    refine wl_move rfl rfl ?_
    refine wl_unwanted rfl rfl rfl rfl ?_
    refine wl_unwanted rfl rfl rfl rfl ?_
    refine wl_pickT rfl rfl rfl rfl ?_
    refine wl_nil ?_
    refine qs_seq ?_
    refine wc_sub (L' := [(34, _), (11, _), (10, _), (0, _), (1, _), (2, _), (3, _), (4, _)]) (.cons rfl (.cons rfl (.cons rfl (.cons rfl (.cons rfl (.cons rfl (.cons rfl (.cons rfl .nil)))))))) ?_
    refine wc_condT rfl ?_
    refine wc_seq ?_
    refine wc_region ?_
    refine wl_move rfl rfl ?_
    refine wl_assign rfl rfl ?_
    refine wl_nil ?_
    refine qs_seq ?_
    refine wc_ret ?_
    refine qs_then_ret ?_
    refine fin1 (.inr rfl) rfl rfl ?_
    exact ⟨_, rfl, rfl, hS2.pick [0] rfl⟩
  have hfw2 := hfw (by simpa using h3)
  refine wl_guard rfl rfl h3 ?_
  refine wl_move rfl rfl ?_
  refine wl_guard rfl rfl h3 ?_
  refine wl_lss rfl rfl rfl ?_
  refine wl_pickF rfl h3 rfl rfl ?_
  refine wl_move rfl rfl ?_
  refine wl_splitD 31 rfl (fun h4 => ?_) (fun h4 => ?_)
  · skip
    refine wl_unwanted rfl rfl (decide_eq_true h4) rfl ?_
    refine wl_unwanted rfl rfl (decide_eq_true h4) rfl ?_
    refine wl_pickT rfl (decide_eq_true h4) rfl rfl ?_
    refine wl_nil ?_
    refine qs_seq ?_
    refine wc_sub (L' := [(34, _), (11, _), (10, _), (0, _), (1, _), (2, _), (3, _), (4, _)]) (.cons rfl (.cons rfl (.cons rfl (.cons rfl (.cons rfl (.cons rfl (.cons rfl (.cons rfl .nil)))))))) ?_
    refine wc_condT rfl ?_
    refine wc_seq ?_
    refine wc_region ?_
    refine wl_move rfl rfl ?_
    refine wl_assign rfl rfl ?_
    refine wl_nil ?_
    refine qs_seq ?_
    refine wc_ret ?_
    refine qs_then_ret ?_
    refine fin1 (.inr rfl) rfl rfl ?_
    exact ⟨_, rfl, rfl, hS2.pick [0] rfl⟩
  refine wl_guard rfl rfl (decide_eq_false h4) ?_
  refine wl_move rfl rfl ?_
  refine wl_guard rfl rfl (decide_eq_false h4) ?_
  refine wl_gtr rfl rfl rfl ?_
  refine wl_pickF rfl (decide_eq_false h4) rfl rfl ?_
  refine wl_nil ?_
  refine qs_seq ?_
  refine wc_sub (L' := [(34, _), (11, _), (10, _), (0, _), (1, _), (2, _), (3, _), (4, _)]) (.cons rfl (.cons rfl (.cons rfl (.cons rfl (.cons rfl (.cons rfl (.cons rfl (.cons rfl .nil)))))))) ?_
  refine wc_condD rfl (fun h5 => ?_) (fun h5 => ?_)
  · skip
    refine wc_seq ?_
    refine wc_region ?_
    refine wl_move rfl rfl ?_
    refine wl_assign rfl rfl ?_
    refine wl_nil ?_
    refine qs_seq ?_
    refine wc_ret ?_
    refine qs_then_ret ?_
    refine fin1 (.inr rfl) rfl rfl ?_
    exact ⟨_, rfl, rfl, hS2.pick [0] rfl⟩
  have hb : 0 ≤ base ∧ base ≤ 13 := by omega
  refine wc_skip ?_
  refine qs_seq ?_
  refine wc_seq ?_
  refine wc_region ?_
  have hC6 := hS2.split [] [false] rfl; dsimp only [selF, pickA, nthA, List.cons_append, List.nil_append] at hC6
  refine wl_call cal_8 rfl (new_sp hC6) rfl ?_
  rintro e w6 ⟨_, rfl, dp, rfl, hS6⟩; refine ⟨_, rfl, ?_⟩
  replace hS6 := hS6.join rfl; dsimp only [List.dropLast, List.cons_append, List.nil_append] at hS6; clear hC6
  clear hS2
  replace hS6 := dT_new hS6
  refine wl_assign rfl rfl ?_
  refine wl_nil ?_
  refine qs_seq ?_
  refine wc_seq ?_
  refine wc_seq ?_
  refine wc_region ?_
  refine wl_move rfl rfl ?_
  refine wl_eqlNil Tryz.underlying25 rfl rfl rfl ?_
  refine wl_nil ?_
  refine qs_seq ?_
  refine wc_sub (L' := [(38, _), (12, _), (11, _), (10, _), (0, _), (1, _), (2, _), (3, _), (4, _)]) (.cons rfl (.cons rfl (.cons rfl (.cons rfl (.cons rfl (.cons rfl (.cons rfl (.cons rfl (.cons rfl .nil))))))))) ?_
  refine wc_condF rfl ?_
  refine wc_skip ?_
  refine qs_seq ?_
  refine wc_seq ?_
  refine wc_region ?_
  refine wl_move rfl rfl ?_
  refine wl_move rfl rfl ?_
  have hC7 := hS6.split [0] [true, false] rfl; dsimp only [selF, pickA, nthA, List.cons_append, List.nil_append] at hC7
  refine wl_call cal_9 rfl (lopenS hC7 (hG.starL 0 rfl) (hO.starL 0 rfl) hb ran_nil (sta_new hb) rfl) rfl ?_
  rintro e w7 ⟨_, rfl, jp, D1, C1, rfl, hs1, ha1, hS7⟩; refine ⟨_, rfl, ?_⟩
  replace hS7 := hS7.join rfl; dsimp only [List.dropLast, List.cons_append, List.nil_append] at hS7; clear hC7
  clear hS6
  refine wl_move rfl rfl ?_
  refine wl_extract rfl rfl rfl ?_
  refine wl_extract rfl rfl rfl ?_
  refine wl_assign rfl rfl ?_
  refine wl_assign rfl rfl ?_
  refine wl_nil ?_
  refine qs_seq ?_
  refine wc_sub (L' := [(14, _), (13, _), (12, _), (11, _), (10, _), (0, _), (1, _), (2, _), (3, _), (4, _)]) (.cons rfl (.cons rfl (.cons rfl (.cons rfl (.cons rfl (.cons rfl (.cons rfl (.cons rfl (.cons rfl (.cons rfl .nil)))))))))) ?_
  refine wc_seq ?_
  refine wc_seq ?_
  refine wc_region ?_
  refine wl_move rfl rfl ?_
  refine wl_neq rfl rfl rfl ?_
  refine wl_move rfl rfl ?_
  refine wl_splitD 47 rfl (fun h8 => ?_) (fun h8 => ?_)
  · skip
    exact absurd rfl h8
  refine wl_guard rfl rfl (decide_eq_false h8) ?_
  refine wl_move rfl rfl ?_
  refine wl_guard rfl rfl (decide_eq_false h8) ?_
  refine wl_eqlNil Tryz.underlying27 rfl rfl rfl ?_
  refine wl_pickF rfl (decide_eq_false h8) rfl rfl ?_
  refine wl_nil ?_
  refine qs_seq ?_
  refine wc_sub (L' := [(50, _), (14, _), (13, _), (12, _), (11, _), (10, _), (0, _), (1, _), (2, _), (3, _), (4, _)]) (.cons rfl (.cons rfl (.cons rfl (.cons rfl (.cons rfl (.cons rfl (.cons rfl (.cons rfl (.cons rfl (.cons rfl (.cons rfl .nil))))))))))) ?_
  refine wc_condF rfl ?_
  refine wc_skip ?_
  refine qs_seq ?_
  refine wc_seq ?_
  refine wc_region ?_
  refine wl_move rfl rfl ?_
  refine wl_move rfl rfl ?_
  refine wl_move rfl rfl ?_
  have hC9 := hS7.split [1] [false, true, false] rfl; dsimp only [selF, pickA, nthA, List.cons_append, List.nil_append] at hC9
  refine wl_call cal_14 rfl (armT hC9 at_ hna (hK.starL 1 rfl) (by have := hfw2.2.2; omega)) rfl ?_
  rintro e w9 ⟨_, rfl, rfl, hS9⟩; refine ⟨_, rfl, ?_⟩
  replace hS9 := hS9.join rfl; dsimp only [List.dropLast, List.cons_append, List.nil_append] at hS9; clear hC9
  clear hS7
  refine wl_nil ?_
  refine qs_seq ?_
  refine wc_sub (L' := [(14, _), (13, _), (12, _), (11, _), (10, _), (0, _), (1, _), (3, _), (4, _)]) (.cons rfl (.cons rfl (.cons rfl (.cons rfl (.cons rfl (.cons rfl (.cons rfl (.cons rfl (.cons rfl .nil))))))))) ?_
  refine wc_seq ?_
  refine wc_region ?_
  refine wl_assign rfl rfl ?_
  refine wl_nil ?_
  refine qs_seq ?_
  refine wc_seq ?_
  refine wc_seq ?_
  refine wc_region ?_
  refine wl_assign rfl rfl ?_
  refine wl_nil ?_
  refine qs_seq ?_
  refine wc_block ?_
  have hSn := hS9.row_nil jbC
  rw [← listB_nil] at hSn
  refine wc_loop (fun K0 E0 W0 => ∃ (i jp : Nat) (D : DS) (C : CS) (B : Int → Bytes) (sv : Value), K0 = ls.length - i ∧ E0 = [(0, intV base), (1, .slice ao ls.length cap), (3, intV again), (4, .slice aok ks.length capk), (11, .bool true), (12, ptrV dp 0), (13, ptrV jp 0), (15, sv), (16, intV (i : Int))] ∧ Sat W0 [jT jp dp ⟨base, C, B, false⟩, dT dp D, rowT jbC sv (listB B), F] ∧ (i ≤ ls.length) ∧ (Sta D base C B) ∧ (Ran B)) (L0 := [(0, _), (1, _), (3, _), (4, _), (11, _), (12, _), (13, _), (15, _), (16, _)]) (ls.length - 0) (.cons rfl (.cons rfl (.cons rfl (.cons rfl (.cons rfl (.cons rfl (.cons rfl (.cons rfl (.cons rfl .nil))))))))) ⟨0, jp, _, C1, _, _, rfl, rfl, hSn.pick [2, 1, 0, 3] rfl, by omega, hs1.arm at_ ks, ran_nil⟩ ?_
  rintro _ _ w10 ⟨i, jp, D, C, B, sv, rfl, rfl, hS10, hi, hSta, hran⟩
  have h1sv : sv.oneCell' = true := hS10.own_one 2 rfl
  have hbl := listB_len B
  refine wc_seq ?_
  refine wc_seq ?_
  refine wc_region ?_
  refine wl_move rfl rfl ?_
  refine wl_move rfl rfl ?_
  first | refine wl_lenL Tryz.underlying22 rfl rfl ?_ | refine wl_lenO 2 hS10 Tryz.underlying22 rfl rfl rfl ?_
  refine wl_lss rfl rfl rfl ?_
  refine wl_nil ?_
  refine qs_seq ?_
  refine wc_sub (L' := [(58, _), (0, _), (1, _), (3, _), (4, _), (11, _), (12, _), (13, _), (15, _), (16, _)]) (.cons rfl (.cons rfl (.cons rfl (.cons rfl (.cons rfl (.cons rfl (.cons rfl (.cons rfl (.cons rfl (.cons rfl .nil)))))))))) ?_
  refine wc_condD rfl (fun h11 => ?_) (fun h11 => ?_)
  · skip
    obtain ⟨⟨cv, cl⟩, hcx⟩ : ∃ c, ls[i]? = some c := ⟨_, List.getElem?_eq_getElem (by omega)⟩
    obtain ⟨⟨b, off, rfl, _⟩, hrd⟩ := (hL.sat hS10 3 rfl).get hcx
    have hE5 : Ent F (RdL jbC cv cl) := RdX.elem hL hcx
    dsimp only at hrd
    obtain ⟨ao2, cap2, rfl, hm2⟩ := hrd.shape
    clear hrd
    refine wc_skip ?_
    refine qs_seq ?_
    refine wc_seq ?_
    refine wc_block ?_
    refine wc_seq ?_
    refine wc_region ?_
    refine wl_move rfl rfl ?_
    refine wl_move rfl rfl ?_
    refine wl_move rfl rfl ?_
    refine wl_indexAddr i rfl rfl (by first | rfl | omega) (by omega) es_22 rfl ?_
    refine wl_load rfl ag_32 (RdX.cells (hL.sat hS10 3 rfl) hcx 0 _ rfl) rfl ?_
    have hcl8 : cl.length ≤ 8 := hfw2.1 _ (List.mem_of_getElem? hcx)
    have hC12 := hS10.split [0, 1] [true, true, false, false] rfl; dsimp only [selF, pickA, nthA, List.cons_append, List.nil_append] at hC12
    refine wl_call cal_10 rfl (lcommit hC12 (hG.starL 1 rfl) (hO.starL 1 rfl) hb hSta (hE5.starL 1 rfl) (by omega)) rfl ?_
    rintro e w12 ⟨_, rfl, (⟨hrt, rfl, hS12⟩ | ⟨hrt, D2, C2, rfl, hs2, ha2, hS12⟩ | ⟨hrt, ha2, D2, J2, rfl, hJB, hDw, hdn, hS12⟩)⟩
    · skip
      refine ⟨_, rfl, ?_⟩
      replace hS12 := hS12.join rfl; dsimp only [List.dropLast, List.cons_append, List.nil_append] at hS12; clear hC12
      clear hS10
      refine wl_assign rfl rfl ?_
      refine wl_nil ?_
      refine qs_seq ?_
      refine wc_sub (L' := [(14, _), (0, _), (1, _), (3, _), (4, _), (11, _), (12, _), (13, _), (15, _), (16, _)]) (.cons rfl (.cons rfl (.cons rfl (.cons rfl (.cons rfl (.cons rfl (.cons rfl (.cons rfl (.cons rfl (.cons rfl .nil)))))))))) ?_
      refine wc_seq ?_
      refine wc_seq ?_
      refine wc_region ?_
      refine wl_move rfl rfl ?_
      refine wl_eql rfl rfl rfl ?_
      refine wl_nil ?_
      refine qs_seq ?_
      refine wc_condD rfl (fun h13 => ?_) (fun h13 => ?_)
      · skip
        refine wc_exit ?_
        refine qs_then_exit ?_
        refine qs_block_exit ?_
        refine qs_seq ?_
        refine wc_sub (L' := [(0, _), (1, _), (3, _), (4, _), (11, _), (12, _), (13, _), (15, _), (16, _)]) (.cons rfl (.cons rfl (.cons rfl (.cons rfl (.cons rfl (.cons rfl (.cons rfl (.cons rfl (.cons rfl .nil))))))))) ?_
        refine wc_region ?_
        refine wl_move rfl rfl ?_
        refine wl_add rfl rfl (by first | omega | (simp; omega)) (by first | omega | (simp; omega)) rfl ?_
        refine wl_assign rfl rfl ?_
        refine wl_nil ?_
        exact qs_round (L1 := [(0, _), (1, _), (3, _), (4, _), (11, _), (12, _), (13, _), (15, _), (16, intV ((i + 1 : Nat) : Int))]) (.cons rfl (.cons rfl (.cons rfl (.cons rfl (.cons rfl (.cons rfl (.cons rfl (.cons rfl (.cons rfl .nil))))))))) (k1 := ls.length - (i + 1)) (by omega) ⟨i + 1, jp, D, C, B, _, rfl, rfl, hS12.pick [0, 1, 2, 3] rfl, by omega, hSta, hran⟩
      exact absurd rfl h13
    · skip
      refine ⟨_, rfl, ?_⟩
      replace hS12 := hS12.join rfl; dsimp only [List.dropLast, List.cons_append, List.nil_append] at hS12; clear hC12
      clear hS10
      have hrm : ∀ x ∈ cl, 0 ≤ x.n ∧ x.n < 2048 := fun x hx => by have := (right_mem hrt).2 x hx; omega
      refine wl_assign rfl rfl ?_
      refine wl_nil ?_
      refine qs_seq ?_
      refine wc_sub (L' := [(14, _), (0, _), (1, _), (3, _), (4, _), (11, _), (12, _), (13, _), (15, _), (16, _)]) (.cons rfl (.cons rfl (.cons rfl (.cons rfl (.cons rfl (.cons rfl (.cons rfl (.cons rfl (.cons rfl (.cons rfl .nil)))))))))) ?_
      refine wc_seq ?_
      refine wc_seq ?_
      refine wc_region ?_
      refine wl_move rfl rfl ?_
      refine wl_eql rfl rfl rfl ?_
      refine wl_nil ?_
      refine qs_seq ?_
      refine wc_condD rfl (fun h14 => ?_) (fun h14 => ?_)
      · skip
        exact absurd h14 (by decide)
      refine wc_skip ?_
      refine qs_seq ?_
      refine wc_seq ?_
      refine wc_region ?_
      refine wl_move rfl rfl ?_
      refine wl_move rfl rfl ?_
      refine wl_move rfl rfl ?_
      refine wl_indexAddr i rfl rfl (by first | rfl | omega) (by omega) es_22 rfl ?_
      refine wl_load rfl ag_32 (RdX.cells (hL.sat hS12 3 rfl) hcx 0 _ rfl) rfl ?_
      have hC15 := hS12.split [] [false, false, false, false] rfl; dsimp only [selF, pickA, nthA, List.cons_append, List.nil_append] at hC15
      refine wl_call cal_15 rfl (with_sp hC15 (Ent.starL (ent_row (C := jbC) (l := listB B) (by omega)) 2 rfl) (hE5.starL 3 rfl) hrm) rfl ?_
      rintro e w15 ⟨_, rfl, hS15⟩; refine ⟨_, rfl, ?_⟩
      replace hS15 := hS15.join rfl; dsimp only [List.dropLast, List.cons_append, List.nil_append] at hS15; clear hC15
      clear hS12
      have hbl2 := listB_len (withB B cl)
      refine wl_assign rfl rfl ?_
      refine wl_nil ?_
      refine qs_seq ?_
      refine wc_sub (L' := [(17, _), (14, _), (0, _), (1, _), (3, _), (4, _), (11, _), (12, _), (13, _), (15, _), (16, _)]) (.cons rfl (.cons rfl (.cons rfl (.cons rfl (.cons rfl (.cons rfl (.cons rfl (.cons rfl (.cons rfl (.cons rfl (.cons rfl .nil))))))))))) ?_
      refine wc_seq ?_
      refine wc_seq ?_
      refine wc_region ?_
      refine wl_move rfl rfl ?_
      refine wl_eql rfl rfl rfl ?_
      refine wl_nil ?_
      refine qs_seq ?_
      refine wc_condD rfl (fun h16 => ?_) (fun h16 => ?_)
      · skip
        refine wc_seq ?_
        refine wc_region ?_
        refine wl_move rfl rfl ?_
        refine wl_assign rfl rfl ?_
        refine wl_nil ?_
        refine qs_seq ?_
        refine wc_sub (L' := [(15, _), (17, _), (14, _), (0, _), (1, _), (3, _), (4, _), (11, _), (12, _), (13, _), (16, _)]) (.cons rfl (.cons rfl (.cons rfl (.cons rfl (.cons rfl (.cons rfl (.cons rfl (.cons rfl (.cons rfl (.cons rfl (.cons rfl .nil))))))))))) ?_
        refine wc_seq ?_
        refine wc_seq ?_
        refine wc_region ?_
        refine wl_move rfl rfl ?_
        have hC17 := hS15.split [1] [false, true, false, false, false] rfl; dsimp only [selF, pickA, nthA, List.cons_append, List.nil_append] at hC17
        refine wl_call cal_13 rfl (jblocks hC17) rfl ?_
        rintro e w17 ⟨_, rfl, hS17⟩; refine ⟨_, rfl, ?_⟩
        replace hS17 := hS17.join rfl; dsimp only [List.dropLast, List.cons_append, List.nil_append] at hS17; clear hC17
        clear hS15
        have h1bl17 := hS17.own_one 0 rfl
        refine wl_move rfl rfl ?_
        have hC18 := hS17.split [] [false, false, false, false, false, false] rfl; dsimp only [selF, pickA, nthA, List.cons_append, List.nil_append] at hC18
        refine wl_call cal_12 rfl (bsame_sp hC18 (Ent.starL (ent_row (C := jbC) (l := listB (withB B cl)) (by omega)) 0 rfl) (Ent.starL (ent_row (C := jbC) (l := listB (withB B cl)) (by omega)) 2 rfl)) rfl ?_
        rintro e w18 ⟨_, rfl, rfl, hS18⟩; refine ⟨_, rfl, ?_⟩
        replace hS18 := hS18.join rfl; dsimp only [List.dropLast, List.cons_append, List.nil_append] at hS18; clear hC18
        clear hS17
        refine wl_not rfl rfl ?_
        refine wl_nil ?_
        refine qs_seq ?_
        refine wc_sub (L' := [(82, _), (15, _), (17, _), (14, _), (0, _), (1, _), (3, _), (4, _), (11, _), (12, _), (13, _), (16, _)]) (.cons rfl (.cons rfl (.cons rfl (.cons rfl (.cons rfl (.cons rfl (.cons rfl (.cons rfl (.cons rfl (.cons rfl (.cons rfl (.cons rfl .nil)))))))))))) ?_
        refine wc_cond rfl (fun h19 => ?_) (fun h19 => ?_)
        · skip
          simp at h19
        refine wc_skip ?_
        refine qs_seq ?_
        refine wc_exit ?_
        refine qs_then_exit ?_
        refine qs_block_exit ?_
        refine qs_seq ?_
        refine wc_sub (L' := [(15, _), (0, _), (1, _), (3, _), (4, _), (11, _), (12, _), (13, _), (16, _)]) (.cons rfl (.cons rfl (.cons rfl (.cons rfl (.cons rfl (.cons rfl (.cons rfl (.cons rfl (.cons rfl .nil))))))))) ?_
        refine wc_region ?_
        refine wl_move rfl rfl ?_
        refine wl_add rfl rfl (by first | omega | (simp; omega)) (by first | omega | (simp; omega)) rfl ?_
        refine wl_assign rfl rfl ?_
        refine wl_nil ?_
        exact qs_round (L1 := [(0, _), (1, _), (3, _), (4, _), (11, _), (12, _), (13, _), (15, _), (16, intV ((i + 1 : Nat) : Int))]) (.cons rfl (.cons rfl (.cons rfl (.cons rfl (.cons rfl (.cons rfl (.cons rfl (.cons rfl (.cons rfl .nil))))))))) (k1 := ls.length - (i + 1)) (by omega) ⟨i + 1, jp, D2, C2, withB B cl, _, rfl, rfl, hS18.pick [1, 3, 2, 5] rfl, by omega, hs2, withB_ran hran hrt⟩
      exact absurd rfl h16
    refine ⟨_, rfl, ?_⟩
    replace hS12 := hS12.join rfl; dsimp only [List.dropLast, List.cons_append, List.nil_append] at hS12; clear hC12
    clear hS10
    have hrm : ∀ x ∈ cl, 0 ≤ x.n ∧ x.n < 2048 := fun x hx => by have := (right_mem hrt).2 x hx; omega
    refine wl_assign rfl rfl ?_
    refine wl_nil ?_
    refine qs_seq ?_
    refine wc_sub (L' := [(14, _), (0, _), (1, _), (3, _), (4, _), (11, _), (12, _), (13, _), (15, _), (16, _)]) (.cons rfl (.cons rfl (.cons rfl (.cons rfl (.cons rfl (.cons rfl (.cons rfl (.cons rfl (.cons rfl (.cons rfl .nil)))))))))) ?_
    refine wc_seq ?_
    refine wc_seq ?_
    refine wc_region ?_
    refine wl_move rfl rfl ?_
    refine wl_eql rfl rfl rfl ?_
    refine wl_nil ?_
    refine qs_seq ?_
    refine wc_condD rfl (fun h20 => ?_) (fun h20 => ?_)
    · skip
      exact absurd h20 (by decide)
    refine wc_skip ?_
    refine qs_seq ?_
    refine wc_seq ?_
    refine wc_region ?_
    refine wl_move rfl rfl ?_
    refine wl_move rfl rfl ?_
    refine wl_move rfl rfl ?_
    refine wl_indexAddr i rfl rfl (by first | rfl | omega) (by omega) es_22 rfl ?_
    refine wl_load rfl ag_32 (RdX.cells (hL.sat hS12 3 rfl) hcx 0 _ rfl) rfl ?_
    have hC21 := hS12.split [] [false, false, false, false] rfl; dsimp only [selF, pickA, nthA, List.cons_append, List.nil_append] at hC21
    refine wl_call cal_15 rfl (with_sp hC21 (Ent.starL (ent_row (C := jbC) (l := listB B) (by omega)) 2 rfl) (hE5.starL 3 rfl) hrm) rfl ?_
    rintro e w21 ⟨_, rfl, hS21⟩; refine ⟨_, rfl, ?_⟩
    replace hS21 := hS21.join rfl; dsimp only [List.dropLast, List.cons_append, List.nil_append] at hS21; clear hC21
    clear hS12
    have hbl2 := listB_len (withB B cl)
    refine wl_assign rfl rfl ?_
    refine wl_nil ?_
    refine qs_seq ?_
    refine wc_sub (L' := [(17, _), (14, _), (0, _), (1, _), (3, _), (4, _), (11, _), (12, _), (13, _), (15, _), (16, _)]) (.cons rfl (.cons rfl (.cons rfl (.cons rfl (.cons rfl (.cons rfl (.cons rfl (.cons rfl (.cons rfl (.cons rfl (.cons rfl .nil))))))))))) ?_
    refine wc_seq ?_
    refine wc_seq ?_
    refine wc_region ?_
    refine wl_move rfl rfl ?_
    refine wl_eql rfl rfl rfl ?_
    refine wl_nil ?_
    refine qs_seq ?_
    refine wc_condD rfl (fun h22 => ?_) (fun h22 => ?_)
    · skip
      exact absurd h22 (by decide)
    refine wc_skip ?_
    refine qs_seq ?_
    refine wc_seq ?_
    refine wc_seq ?_
    refine wc_region ?_
    refine wl_move rfl rfl ?_
    refine wl_neq rfl rfl rfl ?_
    refine wl_move rfl rfl ?_
    refine wl_splitD 85 rfl (fun h23 => ?_) (fun h23 => ?_)
    · skip
      exact absurd rfl h23
    refine wl_guard rfl rfl (decide_eq_false h23) ?_
    refine wl_move rfl rfl ?_
    refine wl_guard rfl rfl (decide_eq_false h23) ?_
    have hC24 := hS21.split [2] [false, false, true, false, false] rfl; dsimp only [selF, pickA, nthA, List.cons_append, List.nil_append] at hC24
    refine wl_call cal_16 rfl (downT hC24) rfl ?_
    rintro e w24 ⟨_, rfl, rfl, hS24⟩; refine ⟨_, rfl, ?_⟩
    replace hS24 := hS24.join rfl; dsimp only [List.dropLast, List.cons_append, List.nil_append] at hS24; clear hC24
    clear hS21
    refine wl_guard rfl rfl (decide_eq_false h23) ?_
    refine wl_not rfl rfl ?_
    refine wl_pickF rfl (decide_eq_false h23) rfl rfl ?_
    refine wl_move rfl rfl ?_
    refine wl_split 90 rfl (fun h25 => ?_) (fun h25 => ?_)
    · skip
      rw [hdn] at h25; cases h25
    refine wl_guard rfl rfl h25 ?_
    refine wl_move rfl rfl ?_
    refine wl_guard rfl rfl h25 ?_
    have hC26 := hS24.split [2] [false, false, true, false, false] rfl; dsimp only [selF, pickA, nthA, List.cons_append, List.nil_append] at hC26
    refine wl_call cal_13 rfl (jblocks hC26) rfl ?_
    rintro e w26 ⟨_, rfl, hS26⟩; refine ⟨_, rfl, ?_⟩
    replace hS26 := hS26.join rfl; dsimp only [List.dropLast, List.cons_append, List.nil_append] at hS26; clear hC26
    clear hS24
    rw [hJB] at hS26
    have h1bl26 := hS26.own_one 0 rfl
    refine wl_guard rfl rfl h25 ?_
    refine wl_move rfl rfl ?_
    refine wl_guard rfl rfl h25 ?_
    have hC27 := hS26.split [] [false, false, false, false, false, false] rfl; dsimp only [selF, pickA, nthA, List.cons_append, List.nil_append] at hC27
    refine wl_call cal_12 rfl (bsame_sp hC27 (Ent.starL (ent_row (C := jbC) (l := listB B) (by omega)) 0 rfl) (Ent.starL (ent_row (C := jbC) (l := listB B) (by omega)) 4 rfl)) rfl ?_
    rintro e w27 ⟨_, rfl, rfl, hS27⟩; refine ⟨_, rfl, ?_⟩
    replace hS27 := hS27.join rfl; dsimp only [List.dropLast, List.cons_append, List.nil_append] at hS27; clear hC27
    clear hS26
    refine wl_guard rfl rfl h25 ?_
    refine wl_not rfl rfl ?_
    refine wl_pickF rfl h25 rfl rfl ?_
    refine wl_nil ?_
    refine qs_seq ?_
    refine wc_sub (L' := [(96, _), (17, _), (0, _), (1, _), (3, _), (4, _), (11, _), (12, _), (13, _), (15, _), (16, _)]) (.cons rfl (.cons rfl (.cons rfl (.cons rfl (.cons rfl (.cons rfl (.cons rfl (.cons rfl (.cons rfl (.cons rfl (.cons rfl .nil))))))))))) ?_
    refine wc_cond rfl (fun h28 => ?_) (fun h28 => ?_)
    · skip
      simp at h28
    refine wc_skip ?_
    refine qs_seq ?_
    refine wc_seq ?_
    refine wc_region ?_
    refine wl_move rfl rfl ?_
    have hC29 := hS27.split [2] [false, false, true, false, false, false] rfl; dsimp only [selF, pickA, nthA, List.cons_append, List.nil_append] at hC29
    refine wl_call cal_17 rfl (startT hC29) rfl ?_
    rintro e w29 ⟨_, rfl, rfl, hS29⟩; refine ⟨_, rfl, ?_⟩
    replace hS29 := hS29.join rfl; dsimp only [List.dropLast, List.cons_append, List.nil_append] at hS29; clear hC29
    clear hS27
    refine wl_nil ?_
    refine qs_seq ?_
    refine wc_sub (L' := [(17, _), (0, _), (1, _), (3, _), (4, _), (11, _), (12, _), (13, _), (15, _), (16, _)]) (.cons rfl (.cons rfl (.cons rfl (.cons rfl (.cons rfl (.cons rfl (.cons rfl (.cons rfl (.cons rfl (.cons rfl .nil)))))))))) ?_
    refine wc_seq ?_
    refine wc_region ?_
    refine wl_move rfl rfl ?_
    refine wl_move rfl rfl ?_
    refine wl_move rfl rfl ?_
    have hC30 := hS29.split [0] [true, false, false, false, false, false] rfl; dsimp only [selF, pickA, nthA, List.cons_append, List.nil_append] at hC30
    refine wl_call cal_14 rfl (armT hC30 again hnb (hK.starL 4 rfl) (by have := hfw2.2.2; omega)) rfl ?_
    rintro e w30 ⟨_, rfl, rfl, hS30⟩; refine ⟨_, rfl, ?_⟩
    replace hS30 := hS30.join rfl; dsimp only [List.dropLast, List.cons_append, List.nil_append] at hS30; clear hC30
    clear hS29
    refine wl_nil ?_
    refine qs_seq ?_
    refine wc_sub (L' := [(17, _), (0, _), (1, _), (3, _), (4, _), (11, _), (12, _), (13, _), (15, _), (16, _)]) (.cons rfl (.cons rfl (.cons rfl (.cons rfl (.cons rfl (.cons rfl (.cons rfl (.cons rfl (.cons rfl (.cons rfl .nil)))))))))) ?_
    refine wc_seq ?_
    refine wc_region ?_
    refine wl_move rfl rfl ?_
    refine wl_move rfl rfl ?_
    have hC31 := hS30.split [0] [true, false, false, false, false, false] rfl; dsimp only [selF, pickA, nthA, List.cons_append, List.nil_append] at hC31
    refine wl_call cal_9 rfl (lopenR hC31 (hG.starL 4 rfl) (hO.starL 4 rfl) hb hrt hran (hDw.start again ks)) rfl ?_
    rintro e w31 ⟨_, rfl, D3, hR3, hS31⟩; refine ⟨_, rfl, ?_⟩
    replace hS31 := hS31.join rfl; dsimp only [List.dropLast, List.cons_append, List.nil_append] at hS31; clear hC31
    clear hS30
    refine wl_nil ?_
    refine qs_seq ?_
    refine wc_sub (L' := [(17, _), (0, _), (1, _), (3, _), (4, _), (11, _), (12, _), (13, _), (15, _), (16, _)]) (.cons rfl (.cons rfl (.cons rfl (.cons rfl (.cons rfl (.cons rfl (.cons rfl (.cons rfl (.cons rfl (.cons rfl .nil)))))))))) ?_
    refine wc_seq ?_
    refine wc_region ?_
    refine wl_move rfl rfl ?_
    have hC32 := hS31.split [0] [true, false, false, false, false, false] rfl; dsimp only [selF, pickA, nthA, List.cons_append, List.nil_append] at hC32
    refine wl_call cal_17 rfl (startT hC32) rfl ?_
    rintro e w32 ⟨_, rfl, rfl, hS32⟩; refine ⟨_, rfl, ?_⟩
    replace hS32 := hS32.join rfl; dsimp only [List.dropLast, List.cons_append, List.nil_append] at hS32; clear hC32
    clear hS31
    refine wl_nil ?_
    refine qs_seq ?_
    refine wc_seq ?_
    refine wc_region ?_
    refine wl_move rfl rfl ?_
    have hC33 := hS32.split [0] [true, false, false, false, false, false] rfl; dsimp only [selF, pickA, nthA, List.cons_append, List.nil_append] at hC33
    refine wl_call cal_14 rfl (armT hC33 0 (by omega) (kv := .slice none 0 0) (ks := []) (fun _ => rdI_nil _) (by simp)) rfl ?_
    rintro e w33 ⟨_, rfl, rfl, hS33⟩; refine ⟨_, rfl, ?_⟩
    replace hS33 := hS33.join rfl; dsimp only [List.dropLast, List.cons_append, List.nil_append] at hS33; clear hC33
    clear hS32
    refine wl_nil ?_
    refine qs_seq ?_
    refine wc_sub (L' := [(17, _), (0, _), (1, _), (3, _), (4, _), (11, _), (12, _), (13, _), (15, _), (16, _)]) (.cons rfl (.cons rfl (.cons rfl (.cons rfl (.cons rfl (.cons rfl (.cons rfl (.cons rfl (.cons rfl (.cons rfl .nil)))))))))) ?_
    refine wc_seq ?_
    obtain ⟨A9, l9, hLv, hr9, hA9, h91, h92⟩ := hR3
    refine wc_region ?_
    refine wl_move rfl rfl ?_
    refine wl_move rfl rfl ?_
    have hC34 := hS33.split [0] [true, false, false, false, false, false] rfl; dsimp only [selF, pickA, nthA, List.cons_append, List.nil_append] at hC34
    refine wl_call cal_9 rfl (lopen hC34 (hG.starL 4 rfl) (hO.starL 4 rfl) hb hr9 hA9 hLv rfl) rfl ?_
    rintro e w34 ⟨_, rfl, jp2, D4, C4, B4, rfl, hq4, hs4, hr4, ha4, hS34⟩; refine ⟨_, rfl, ?_⟩
    replace hS34 := hS34.join rfl; dsimp only [List.dropLast, List.cons_append, List.nil_append] at hS34; clear hC34
    clear hS33
    have hB4 : B4 = B ∨ B4 = withB B cl := by rcases hq4 with rfl | rfl; exact h91; exact h92
    refine wl_move rfl rfl ?_
    refine wl_extract rfl rfl rfl ?_
    refine wl_extract rfl rfl rfl ?_
    refine wl_assign rfl rfl ?_
    refine wl_assign rfl rfl ?_
    refine wl_nil ?_
    refine qs_seq ?_
    refine wc_sub (L' := [(19, _), (18, _), (17, _), (0, _), (1, _), (3, _), (4, _), (11, _), (12, _), (13, _), (15, _), (16, _)]) (.cons rfl (.cons rfl (.cons rfl (.cons rfl (.cons rfl (.cons rfl (.cons rfl (.cons rfl (.cons rfl (.cons rfl (.cons rfl (.cons rfl .nil)))))))))))) ?_
    refine wc_seq ?_
    refine wc_seq ?_
    refine wc_region ?_
    refine wl_move rfl rfl ?_
    refine wl_neq rfl rfl rfl ?_
    refine wl_move rfl rfl ?_
    refine wl_splitD 118 rfl (fun h35 => ?_) (fun h35 => ?_)
    · skip
      exact absurd rfl h35
    refine wl_guard rfl rfl (decide_eq_false h35) ?_
    refine wl_move rfl rfl ?_
    refine wl_guard rfl rfl (decide_eq_false h35) ?_
    refine wl_eqlNil Tryz.underlying27 rfl rfl rfl ?_
    refine wl_pickF rfl (decide_eq_false h35) rfl rfl ?_
    refine wl_nil ?_
    refine qs_seq ?_
    refine wc_sub (L' := [(121, _), (18, _), (17, _), (0, _), (1, _), (3, _), (4, _), (11, _), (12, _), (13, _), (15, _), (16, _)]) (.cons rfl (.cons rfl (.cons rfl (.cons rfl (.cons rfl (.cons rfl (.cons rfl (.cons rfl (.cons rfl (.cons rfl (.cons rfl (.cons rfl .nil)))))))))))) ?_
    refine wc_condF rfl ?_
    refine wc_skip ?_
    refine qs_seq ?_
    refine wc_seq ?_
    refine wc_seq ?_
    refine wc_region ?_
    refine wl_move rfl rfl ?_
    have hC36 := hS34.split [0] [true, false, false, false, false, false, false] rfl; dsimp only [selF, pickA, nthA, List.cons_append, List.nil_append] at hC36
    refine wl_call cal_13 rfl (jblocks hC36) rfl ?_
    rintro e w36 ⟨_, rfl, hS36⟩; refine ⟨_, rfl, ?_⟩
    replace hS36 := hS36.join rfl; dsimp only [List.dropLast, List.cons_append, List.nil_append] at hS36; clear hC36
    clear hS34
    have h1bl36 := hS36.own_one 0 rfl
    refine wl_move rfl rfl ?_
    have hC37 := hS36.split [] [false, false, false, false, false, false, false, false] rfl; dsimp only [selF, pickA, nthA, List.cons_append, List.nil_append] at hC37
    refine wl_call cal_12 rfl (bsame_sp hC37 (Ent.starL (ent_row (C := jbC) (l := listB B4) (by have := listB_len B4; omega)) 0 rfl) (Ent.starL (ent_row (C := jbC) (l := listB B) (by omega)) 6 rfl)) rfl ?_
    rintro e w37 ⟨_, rfl, rfl, hS37⟩; refine ⟨_, rfl, ?_⟩
    replace hS37 := hS37.join rfl; dsimp only [List.dropLast, List.cons_append, List.nil_append] at hS37; clear hC37
    clear hS36
    refine wl_not rfl rfl ?_
    refine wl_move rfl rfl ?_
    refine wl_split 127 rfl (fun h38 => ?_) (fun h38 => ?_)
    · skip
      have hne1 : ¬ listB B4 = listB B := by simpa using h38
      refine wl_guard rfl rfl h38 ?_
      refine wl_move rfl rfl ?_
      refine wl_guard rfl rfl h38 ?_
      have hC39 := hS37.split [1] [false, true, false, false, false, false, false, false] rfl; dsimp only [selF, pickA, nthA, List.cons_append, List.nil_append] at hC39
      refine wl_call cal_13 rfl (jblocks hC39) rfl ?_
      rintro e w39 ⟨_, rfl, hS39⟩; refine ⟨_, rfl, ?_⟩
      replace hS39 := hS39.join rfl; dsimp only [List.dropLast, List.cons_append, List.nil_append] at hS39; clear hC39
      clear hS37
      have h1bl39 := hS39.own_one 0 rfl
      refine wl_guard rfl rfl h38 ?_
      refine wl_move rfl rfl ?_
      refine wl_guard rfl rfl h38 ?_
      have hC40 := hS39.split [] [false, false, false, false, false, false, false, false, false] rfl; dsimp only [selF, pickA, nthA, List.cons_append, List.nil_append] at hC40
      refine wl_call cal_12 rfl (bsame_sp hC40 (Ent.starL (ent_row (C := jbC) (l := listB B4) (by have := listB_len B4; omega)) 0 rfl) (Ent.starL (ent_row (C := jbC) (l := listB (withB B cl)) (by omega)) 6 rfl)) rfl ?_
      rintro e w40 ⟨_, rfl, rfl, hS40⟩; refine ⟨_, rfl, ?_⟩
      replace hS40 := hS40.join rfl; dsimp only [List.dropLast, List.cons_append, List.nil_append] at hS40; clear hC40
      clear hS39
      refine wl_guard rfl rfl h38 ?_
      refine wl_not rfl rfl ?_
      refine wl_pickT rfl h38 rfl rfl ?_
      refine wl_nil ?_
      refine qs_seq ?_
      refine wc_sub (L' := [(133, _), (18, _), (0, _), (1, _), (3, _), (4, _), (11, _), (12, _), (13, _), (15, _), (16, _)]) (.cons rfl (.cons rfl (.cons rfl (.cons rfl (.cons rfl (.cons rfl (.cons rfl (.cons rfl (.cons rfl (.cons rfl (.cons rfl .nil))))))))))) ?_
      refine wc_cond rfl (fun h41 => ?_) (fun h41 => ?_)
      · skip
        (have hne2 : ¬ listB B4 = listB (withB B cl) := by simpa using h41); rcases hB4 with q | q <;> (rw [q] at hne1 hne2; contradiction)
      refine wc_skip ?_
      refine qs_seq ?_
      refine wc_seq ?_
      refine wc_region ?_
      refine wl_move rfl rfl ?_
      have hC42 := hS40.split [1] [false, true, false, false, false, false, false, false, false] rfl; dsimp only [selF, pickA, nthA, List.cons_append, List.nil_append] at hC42
      refine wl_call cal_13 rfl (jblocks hC42) rfl ?_
      rintro e w42 ⟨_, rfl, hS42⟩; refine ⟨_, rfl, ?_⟩
      replace hS42 := hS42.join rfl; dsimp only [List.dropLast, List.cons_append, List.nil_append] at hS42; clear hC42
      clear hS40
      have h1bl42 := hS42.own_one 0 rfl
      refine wl_assign rfl rfl ?_
      refine wl_nil ?_
      refine qs_seq ?_
      refine wc_sub (L' := [(15, _), (18, _), (0, _), (1, _), (3, _), (4, _), (11, _), (12, _), (13, _), (16, _)]) (.cons rfl (.cons rfl (.cons rfl (.cons rfl (.cons rfl (.cons rfl (.cons rfl (.cons rfl (.cons rfl (.cons rfl .nil)))))))))) ?_
      refine wc_region ?_
      refine wl_move rfl rfl ?_
      refine wl_assign rfl rfl ?_
      refine wl_nil ?_
      refine qs_block_normal ?_
      refine qs_seq ?_
      refine wc_region ?_
      refine wl_move rfl rfl ?_
      refine wl_add rfl rfl (by first | omega | (simp; omega)) (by first | omega | (simp; omega)) rfl ?_
      refine wl_assign rfl rfl ?_
      refine wl_nil ?_
      exact qs_round (L1 := [(0, _), (1, _), (3, _), (4, _), (11, _), (12, _), (13, _), (15, _), (16, intV ((i + 1 : Nat) : Int))]) (.cons rfl (.cons rfl (.cons rfl (.cons rfl (.cons rfl (.cons rfl (.cons rfl (.cons rfl (.cons rfl .nil))))))))) (k1 := ls.length - (i + 1)) (by omega) ⟨i + 1, jp2, D4, C4, B4, _, rfl, rfl, hS42.pick [1, 4, 0, 9] rfl, by omega, hs4, hr4⟩
    refine wl_unwanted rfl rfl h38 rfl ?_
    refine wl_unwanted rfl rfl h38 rfl ?_
    refine wl_unwanted rfl rfl h38 rfl ?_
    refine wl_unwanted rfl rfl h38 rfl ?_
    refine wl_unwanted rfl rfl h38 rfl ?_
    refine wl_pickF rfl h38 rfl rfl ?_
    refine wl_nil ?_
    refine qs_seq ?_
    refine wc_sub (L' := [(133, _), (18, _), (0, _), (1, _), (3, _), (4, _), (11, _), (12, _), (13, _), (15, _), (16, _)]) (.cons rfl (.cons rfl (.cons rfl (.cons rfl (.cons rfl (.cons rfl (.cons rfl (.cons rfl (.cons rfl (.cons rfl (.cons rfl .nil))))))))))) ?_
    refine wc_condF rfl ?_
    refine wc_skip ?_
    refine qs_seq ?_
    refine wc_seq ?_
    refine wc_region ?_
    refine wl_move rfl rfl ?_
    have hC43 := hS37.split [1] [false, true, false, false, false, false, false, false] rfl; dsimp only [selF, pickA, nthA, List.cons_append, List.nil_append] at hC43
    refine wl_call cal_13 rfl (jblocks hC43) rfl ?_
    rintro e w43 ⟨_, rfl, hS43⟩; refine ⟨_, rfl, ?_⟩
    replace hS43 := hS43.join rfl; dsimp only [List.dropLast, List.cons_append, List.nil_append] at hS43; clear hC43
    clear hS37
    have h1bl43 := hS43.own_one 0 rfl
    refine wl_assign rfl rfl ?_
    refine wl_nil ?_
    refine qs_seq ?_
    refine wc_sub (L' := [(15, _), (18, _), (0, _), (1, _), (3, _), (4, _), (11, _), (12, _), (13, _), (16, _)]) (.cons rfl (.cons rfl (.cons rfl (.cons rfl (.cons rfl (.cons rfl (.cons rfl (.cons rfl (.cons rfl (.cons rfl .nil)))))))))) ?_
    refine wc_region ?_
    refine wl_move rfl rfl ?_
    refine wl_assign rfl rfl ?_
    refine wl_nil ?_
    refine qs_block_normal ?_
    refine qs_seq ?_
    refine wc_region ?_
    refine wl_move rfl rfl ?_
    refine wl_add rfl rfl (by first | omega | (simp; omega)) (by first | omega | (simp; omega)) rfl ?_
    refine wl_assign rfl rfl ?_
    refine wl_nil ?_
    exact qs_round (L1 := [(0, _), (1, _), (3, _), (4, _), (11, _), (12, _), (13, _), (15, _), (16, intV ((i + 1 : Nat) : Int))]) (.cons rfl (.cons rfl (.cons rfl (.cons rfl (.cons rfl (.cons rfl (.cons rfl (.cons rfl (.cons rfl .nil))))))))) (k1 := ls.length - (i + 1)) (by omega) ⟨i + 1, jp2, D4, C4, B4, _, rfl, rfl, hS43.pick [1, 3, 0, 8] rfl, by omega, hs4, hr4⟩
  refine wc_exit ?_
  refine qs_then_exit ?_
  refine qs_then_exit ?_
  refine qs_block_exit ?_
  refine qs_seq ?_
  refine wc_seq ?_
  refine wc_region ?_
  refine wl_move rfl rfl ?_
  refine wl_move rfl rfl ?_
  have hC44 := hS10.split [1] [false, true, false, false] rfl; dsimp only [selF, pickA, nthA, List.cons_append, List.nil_append] at hC44
  refine wl_call cal_18 rfl (crashT hC44 (hK.starL 2 rfl)) rfl ?_
  rintro e w44 ⟨_, rfl, rfl, hS44⟩; refine ⟨_, rfl, ?_⟩
  replace hS44 := hS44.join rfl; dsimp only [List.dropLast, List.cons_append, List.nil_append] at hS44; clear hC44
  clear hS10
  refine wl_nil ?_
  refine qs_seq ?_
  refine wc_sub (L' := [(0, _), (11, _), (12, _), (15, _)]) (.cons rfl (.cons rfl (.cons rfl (.cons rfl .nil)))) ?_
  refine wc_seq ?_
  refine wc_region ?_
  refine wl_move rfl rfl ?_
  have hC45 := hS44.split [0] [true, false, false, false] rfl; dsimp only [selF, pickA, nthA, List.cons_append, List.nil_append] at hC45
  refine wl_call cal_17 rfl (startT hC45) rfl ?_
  rintro e w45 ⟨_, rfl, rfl, hS45⟩; refine ⟨_, rfl, ?_⟩
  replace hS45 := hS45.join rfl; dsimp only [List.dropLast, List.cons_append, List.nil_append] at hS45; clear hC45
  clear hS44
  refine wl_nil ?_
  refine qs_seq ?_
  refine wc_seq ?_
  refine wc_region ?_
  refine wl_move rfl rfl ?_
  refine wl_move rfl rfl ?_
  have hC46 := hS45.split [0] [true, false, false, false] rfl; dsimp only [selF, pickA, nthA, List.cons_append, List.nil_append] at hC46
  refine wl_call cal_9 rfl (lopen hC46 (hG.starL 2 rfl) (hO.starL 2 rfl) hb (l := []) rfl hran (hSta.end_ ks).1 (hSta.end_ ks).2) rfl ?_
  rintro e w46 ⟨_, rfl, jp3, D9, C9, B9, rfl, hq9, hs9, hr9, ha9, hS46⟩; refine ⟨_, rfl, ?_⟩
  replace hS46 := hS46.join rfl; dsimp only [List.dropLast, List.cons_append, List.nil_append] at hS46; clear hC46
  clear hS45
  have hB9 : B9 = B := by rcases hq9 with q | q; exact q; exact q
  refine wl_move rfl rfl ?_
  refine wl_extract rfl rfl rfl ?_
  refine wl_extract rfl rfl rfl ?_
  refine wl_assign rfl rfl ?_
  refine wl_assign rfl rfl ?_
  refine wl_nil ?_
  refine qs_seq ?_
  refine wc_sub (L' := [(21, _), (20, _), (11, _), (15, _)]) (.cons rfl (.cons rfl (.cons rfl (.cons rfl .nil)))) ?_
  refine wc_seq ?_
  refine wc_seq ?_
  refine wc_region ?_
  refine wl_move rfl rfl ?_
  refine wl_neq rfl rfl rfl ?_
  refine wl_move rfl rfl ?_
  refine wl_splitD 150 rfl (fun h47 => ?_) (fun h47 => ?_)
  · skip
    exact absurd rfl h47
  refine wl_guard rfl rfl (decide_eq_false h47) ?_
  refine wl_move rfl rfl ?_
  refine wl_guard rfl rfl (decide_eq_false h47) ?_
  refine wl_eqlNil Tryz.underlying27 rfl rfl rfl ?_
  refine wl_pickF rfl (decide_eq_false h47) rfl rfl ?_
  refine wl_nil ?_
  refine qs_seq ?_
  refine wc_condF rfl ?_
  refine wc_skip ?_
  refine qs_seq ?_
  refine wc_seq ?_
  refine wc_region ?_
  refine wl_move rfl rfl ?_
  refine wl_move rfl rfl ?_
  refine wl_guard rfl rfl rfl ?_
  refine wl_move rfl rfl ?_
  refine wl_guard rfl rfl rfl ?_
  have hC48 := hS46.split [0] [true, false, false, false, false] rfl; dsimp only [selF, pickA, nthA, List.cons_append, List.nil_append] at hC48
  refine wl_call cal_13 rfl (jblocks hC48) rfl ?_
  rintro e w48 ⟨_, rfl, hS48⟩; refine ⟨_, rfl, ?_⟩
  replace hS48 := hS48.join rfl; dsimp only [List.dropLast, List.cons_append, List.nil_append] at hS48; clear hC48
  clear hS46
  have h1bl48 := hS48.own_one 0 rfl
  refine wl_guard rfl rfl rfl ?_
  refine wl_move rfl rfl ?_
  refine wl_guard rfl rfl rfl ?_
  have hC49 := hS48.split [] [false, false, false, false, false, false] rfl; dsimp only [selF, pickA, nthA, List.cons_append, List.nil_append] at hC49
  refine wl_call cal_12 rfl (bsame_sp hC49 (Ent.starL (ent_row (C := jbC) (l := listB B9) (by have := listB_len B9; omega)) 0 rfl) (Ent.starL (ent_row (C := jbC) (l := listB B) (by omega)) 4 rfl)) rfl ?_
  rintro e w49 ⟨_, rfl, rfl, hS49⟩; refine ⟨_, rfl, ?_⟩
  replace hS49 := hS49.join rfl; dsimp only [List.dropLast, List.cons_append, List.nil_append] at hS49; clear hC49
  clear hS48
  refine wl_pickT rfl rfl rfl rfl ?_
  refine wl_assign rfl rfl ?_
  refine wl_nil ?_
  refine qs_seq ?_
  refine wc_sub (L' := [(10, _)]) (.cons rfl .nil) ?_
  refine wc_ret ?_
  refine fin1 (.inr rfl) rfl rfl ?_
  exact ⟨_, rfl, by rw [hB9]; simp, hS49.pick [5] rfl⟩
end Go.Proofs.YtfmkodmmbgibgaaGreatDoor
/- laws of journal: how the arguments read -/
namespace Go.Proofs.YtfmkodmmbgibgaaGreatDoor
open Go.RowKit M
set_option linter.unusedVariables false
theorem rdI_of {W : World} {v : Value} {l : List Int} (h : SliceRd qintC.rd qintC.size W v l) : ∀ w, Below W.heap.size W w → RdI v l w := by
  obtain ⟨ao, cap, h1, h2, h3, h4⟩ := h
  refine fun w hb => ⟨ao, cap, h1, by omega, fun i x hx => ?_⟩
  obtain ⟨b, off, cs, e1, e2, e3, e4⟩ := h4 i x hx
  obtain ⟨rfl, _⟩ := e4
  refine ⟨b, off, e1, ?_⟩
  have := (hb.cell (p := ⟨b, off + i * 1 + 0, none⟩) e2).trans (e3 0 (intV x) rfl)
  rw [Nat.mul_one, Nat.add_zero] at this
  exact this
theorem atomic_row {W : World} {v1 v4 : Value} {l1 : List (List (Int × ByteArray × Unit))} {l4 : List Int} {n a b : Int} (hG : WireG W ∧ Glob 0 W) (h1 : SliceRd bsCod.rd bsCod.size W v1 l1) (w2 : (Lit.int .i64 a).wf = true) (w3 : (Lit.int .i64 b).wf = true) (h4 : SliceRd qintC.rd qintC.size W v4 l4) :
    Calls Tryz.prog 4 #[intV n, v1, intV a, intV b, v4] W fun e W' => e = .returned (.bool true) ∧ Below W.heap.size W W' := by
  obtain ⟨a1, h1⟩ := chs_of h1
  exact (atomic_law (Sat.start W) (ent_wire hG.1) (ent_glob hG.2) n (Ent.frame h1) a b (by simp [Lit.wf, IntKind.min, IntKind.max, IntKind.signed, IntKind.bits] at w2; omega) (by simp [Lit.wf, IntKind.min, IntKind.max, IntKind.signed, IntKind.bits] at w3; omega) (Ent.frame (rdI_of h4))).mono fun e W' ⟨v, h4, h5, h6⟩ => ⟨by rw [h4, h5], qbelow_of h6⟩
end Go.Proofs.YtfmkodmmbgibgaaGreatDoor
