/- laws of procs: ProcsNew -/
import Derived.Test.YtcbdclhoekokpaaGreatDoorPd4
import Derived.ChangeKeysEq
import Derived.Laws.StructEq
namespace Go.Proofs.YtcbdclhoekokpaaGreatDoor
open Go.RowKit M
set_option linter.unusedVariables false
/-- the least number of the block that is free, looking down to n -/
def LeastP (W : WS) (b n L : Int) : Prop :=
  (L = 0 ∧ ∀ m : Int, n < m → m < 64 * b + 64 → getW W m ≠ none) ∨ (n < L ∧ L < 64 * b + 64 ∧ getW W L = none ∧ ∀ m : Int, n < m → m < L → getW W m ≠ none)
theorem LeastP.start (W : WS) (b : Int) : LeastP W b (64 * b + 63) 0 := .inl ⟨rfl, fun m h1 h2 => by omega⟩
theorem LeastP.hit {W : WS} {b n L : Int} (h : LeastP W b n L) (hb : 0 ≤ b) (hn : 64 * b < n ∧ n < 64 * b + 64) (hg : getW W n = none) : LeastP W b (n - 1) n := .inr ⟨by omega, hn.2, hg, fun m h1 h2 => by omega⟩
theorem LeastP.miss {W : WS} {b n L : Int} (h : LeastP W b n L) (hg : getW W n ≠ none) : LeastP W b (n - 1) L := by
  rcases h with ⟨h1, h2⟩ | ⟨h1, h2, h3, h4⟩
  · exact .inl ⟨h1, fun m q1 q2 => by
      by_cases e : m = n
      · rw [e]; exact hg
      · exact h2 m (by omega) q2⟩
  · exact .inr ⟨by omega, h2, h3, fun m q1 q2 => by
      by_cases e : m = n
      · rw [e]; exact hg
      · exact h4 m (by omega) q2⟩
theorem new_fin {W : WS} {b L n e : Int} {kl : List Bs} (hk : KeysOf W.cells [80, 47] kl) (hb : 0 ≤ b ∧ b ≤ 15000) (h : NewP b (pidsF W (fun _ => true) kl) n e) (hl : LeastP W b (64 * b) L) :
    (64 ≤ (pidsF W (fun _ => true) kl).length ∨ L = 0 → n = 0 ∧ e = 6) ∧ ((pidsF W (fun _ => true) kl).length < 64 → L ≠ 0 → e = 0 ∧ n = L) := by
  have hm : ∀ m, m ∈ pidsF W (fun _ => true) kl ↔ getW W m ≠ none := fun m => by
    rw [mem_pids hk]
    cases getW W m <;> simp
  obtain ⟨_, h2, h3⟩ := h
  constructor
  · intro q
    by_cases q64 : 64 ≤ (pidsF W (fun _ => true) kl).length
    · exact h2 (by omega) q64
    · rcases h3 (by omega) (by omega) with ⟨a1, a2, a3, a4, a5⟩ | ⟨a1, a2, _⟩
      · exfalso
        rcases hl with ⟨l1, l2⟩ | ⟨l1, l2, _⟩
        · exact a4 ((hm n).2 (l2 n a2 a3))
        · omega
      · exact ⟨a1, a2⟩
  · intro q64 q0
    rcases hl with ⟨l1, _⟩ | ⟨l1, l2, l3, l4⟩
    · exact absurd l1 q0
    · have hLn : L ∉ pidsF W (fun _ => true) kl := fun q => (hm L).1 q l3
      rcases h3 (by omega) q64 with ⟨a1, a2, a3, a4, a5⟩ | ⟨_, _, a3⟩
      · refine ⟨a1, ?_⟩
        by_cases c1 : n < L
        · exact absurd ((hm n).2 (l4 n a2 c1)) a4
        · by_cases c2 : L < n
          · exact absurd (a5 L l1 c2) hLn
          · omega
      · exact absurd (a3 L l1 l2) hLn
set_option maxRecDepth 100000 in
set_option maxHeartbeats 2000000 in
theorem pnew_law {w : World} {F : Th} (hS : Sat w [F]) (hG : Ent F WireG) (block : Int) {lv : Value} {zs : List Int} (hU : Ent F (RdL inC lv zs)) :
    Calls Tryz.prog 4 #[intV block, lv] w (Ret fun v w' => v = .bool true ∧ Sat w' [F]) := by
  obtain ⟨ao, cap, rfl, hmax⟩ := (hU.sat hS 0 rfl).shape
  refine calls_enter Tryz.func4 rfl Tryz.ntmps4 rfl ?_
  refine wc_seq ?_
  refine wc_region ?_
  refine wl_assign rfl rfl ?_
  refine wl_nil ?_
  refine qs_seq ?_
  refine wc_seq ?_
  refine wc_region ?_
  have hC1 := hS.split [] [false] rfl; dsimp only [selF, pickA, nthA, List.cons_append, List.nil_append] at hC1
  refine wl_call cal_8 rfl (small28_sp hC1 (hG.starL 0 rfl)) rfl ?_
  rintro e w1 ⟨_, rfl, rfl, hS1⟩; refine ⟨_, rfl, ?_⟩
  replace hS1 := hS1.join rfl; dsimp only [List.dropLast, List.cons_append, List.nil_append] at hS1; clear hC1
  refine wl_assign rfl rfl ?_
  refine wl_nil ?_
  refine qs_seq ?_
  refine wc_seq ?_
  refine wc_seq ?_
  refine wc_region ?_
  refine wl_move rfl rfl ?_
  refine wl_lss rfl rfl rfl ?_
  refine wl_move rfl rfl ?_
  refine wl_splitD 17 rfl (fun h2 => ?_) (fun h2 => ?_)
  · skip
    refine wl_unwanted rfl rfl (decide_eq_true h2) rfl ?_
    refine wl_unwanted rfl rfl (decide_eq_true h2) rfl ?_
    refine wl_pickT rfl (decide_eq_true h2) rfl rfl ?_
    refine wl_move rfl rfl ?_
    refine wl_unwanted rfl rfl rfl rfl ?_
    refine wl_unwanted rfl rfl rfl rfl ?_
    refine wl_unwanted rfl rfl rfl rfl ?_
    refine wl_pickT rfl rfl rfl rfl ?_
    refine wl_nil ?_
    refine qs_seq ?_
    refine wc_sub (L' := [(25, _), (5, _), (4, _), (0, _), (1, _)]) (.cons rfl (.cons rfl (.cons rfl (.cons rfl (.cons rfl .nil))))) ?_
    refine wc_condT rfl ?_
    refine wc_seq ?_
    refine wc_region ?_
    refine wl_move rfl rfl ?_
    refine wl_assign rfl rfl ?_
    refine wl_nil ?_
    refine qs_seq ?_
    refine wc_ret ?_
    refine qs_then_ret ?_
    refine fin1 (.inr rfl) rfl rfl ?_
    exact ⟨_, rfl, by first | rfl | (simp; done) | (simp; omega), hS1.pick [0] rfl⟩
  · skip
    refine wl_guard rfl rfl (decide_eq_false h2) ?_
    refine wl_move rfl rfl ?_
    refine wl_guard rfl rfl (decide_eq_false h2) ?_
    refine wl_gtr rfl rfl rfl ?_
    refine wl_pickF rfl (decide_eq_false h2) rfl rfl ?_
    refine wl_move rfl rfl ?_
    refine wl_splitD 21 rfl (fun h3 => ?_) (fun h3 => ?_)
    · skip
      refine wl_unwanted rfl rfl (decide_eq_true h3) rfl ?_
      refine wl_unwanted rfl rfl (decide_eq_true h3) rfl ?_
      refine wl_unwanted rfl rfl (decide_eq_true h3) rfl ?_
      refine wl_pickT rfl (decide_eq_true h3) rfl rfl ?_
      refine wl_nil ?_
      refine qs_seq ?_
      refine wc_sub (L' := [(25, _), (5, _), (4, _), (0, _), (1, _)]) (.cons rfl (.cons rfl (.cons rfl (.cons rfl (.cons rfl .nil))))) ?_
      refine wc_condT rfl ?_
      refine wc_seq ?_
      refine wc_region ?_
      refine wl_move rfl rfl ?_
      refine wl_assign rfl rfl ?_
      refine wl_nil ?_
      refine qs_seq ?_
      refine wc_ret ?_
      refine qs_then_ret ?_
      refine fin1 (.inr rfl) rfl rfl ?_
      exact ⟨_, rfl, by first | rfl | (simp; done) | (simp; omega), hS1.pick [0] rfl⟩
    · skip
      refine wl_guard rfl rfl (decide_eq_false h3) ?_
      refine wl_move rfl rfl ?_
      refine wl_guard rfl rfl (decide_eq_false h3) ?_
      refine wl_lenL Tryz.underlying46 rfl rfl ?_
      refine wl_guard rfl rfl (decide_eq_false h3) ?_
      refine wl_gtr rfl rfl rfl ?_
      refine wl_pickF rfl (decide_eq_false h3) rfl rfl ?_
      refine wl_nil ?_
      refine qs_seq ?_
      refine wc_sub (L' := [(25, _), (5, _), (4, _), (0, _), (1, _)]) (.cons rfl (.cons rfl (.cons rfl (.cons rfl (.cons rfl .nil))))) ?_
      refine wc_condD rfl (fun h4 => ?_) (fun h4 => ?_)
      · skip
        refine wc_seq ?_
        refine wc_region ?_
        refine wl_move rfl rfl ?_
        refine wl_assign rfl rfl ?_
        refine wl_nil ?_
        refine qs_seq ?_
        refine wc_ret ?_
        refine qs_then_ret ?_
        refine fin1 (.inr rfl) rfl rfl ?_
        exact ⟨_, rfl, by first | rfl | (simp; done) | (simp; omega), hS1.pick [0] rfl⟩
      · skip
        refine wc_skip ?_
        refine qs_seq ?_
        refine wc_seq ?_
        refine wc_region ?_
        have hC5 := hS1.split [] [false] rfl; dsimp only [selF, pickA, nthA, List.cons_append, List.nil_append] at hC5
        refine wl_call cal_10 rfl (new_sp hC5) rfl ?_
        rintro e w5 ⟨_, rfl, p, rfl, hS5⟩; refine ⟨_, rfl, ?_⟩
        replace hS5 := hS5.join rfl; dsimp only [List.dropLast, List.cons_append, List.nil_append] at hS5; clear hC5
        clear hS1
        refine wl_assign rfl rfl ?_
        refine wl_nil ?_
        refine qs_seq ?_
        refine wc_seq ?_
        refine wc_seq ?_
        refine wc_region ?_
        refine wl_move rfl rfl ?_
        refine wl_eqlNil Tryz.underlying25 rfl rfl rfl ?_
        refine wl_nil ?_
        refine qs_seq ?_
        refine wc_condF rfl ?_
        refine wc_skip ?_
        refine qs_seq ?_
        refine wc_seq ?_
        refine wc_seq ?_
        refine wc_region ?_
        refine wl_assign rfl rfl ?_
        refine wl_nil ?_
        refine qs_seq ?_
        refine wc_block ?_
        refine wc_loop (fun K0 E0 W0 => ∃ (i : Nat) (W : WS), K0 = zs.length - i ∧ E0 = [(0, intV block), (1, .slice ao zs.length cap), (5, .bool true), (6, ptrV p 0), (7, intV (i : Int))] ∧ Sat W0 [worldT p W, F] ∧ (i ≤ zs.length) ∧ (PInv W i)) (L0 := [(0, _), (1, _), (5, _), (6, _), (7, _)]) (zs.length - 0) (.cons rfl (.cons rfl (.cons rfl (.cons rfl (.cons rfl .nil))))) ⟨0, _, rfl, rfl, hS5.pick [0, 1] rfl, by omega, PInv.empty⟩ ?_
        rintro _ _ w6 ⟨i, W, rfl, rfl, hS6, hi, hP⟩
        refine wc_seq ?_
        refine wc_seq ?_
        refine wc_region ?_
        refine wl_move rfl rfl ?_
        refine wl_move rfl rfl ?_
        refine wl_lenL Tryz.underlying46 rfl rfl ?_
        refine wl_lss rfl rfl rfl ?_
        refine wl_nil ?_
        refine qs_seq ?_
        refine wc_condD rfl (fun h7 => ?_) (fun h7 => ?_)
        · skip
          obtain ⟨z, hz⟩ : ∃ z, zs[i]? = some z := ⟨_, List.getElem?_eq_getElem (by omega)⟩
          obtain ⟨b, off, rfl, hc⟩ := (hU.sat hS6 1 rfl).get hz
          refine wc_skip ?_
          refine qs_seq ?_
          refine wc_seq ?_
          refine wc_block ?_
          refine wc_region ?_
          refine wl_move rfl rfl ?_
          refine wl_makeIface nif_25 rfl rfl ?_
          refine wl_move rfl rfl ?_
          refine wl_mul rfl rfl (by first | omega | (simp; omega)) (by first | omega | (simp; omega)) rfl ?_
          refine wl_add rfl rfl (by first | omega | (simp; omega)) (by first | omega | (simp; omega)) rfl ?_
          refine wl_move rfl rfl ?_
          refine wl_move rfl rfl ?_
          refine wl_indexAddr i rfl rfl (by first | rfl | omega) (by omega) es_46 rfl ?_
          refine wl_load rfl ag_3 (hc 0 _ rfl) rfl ?_
          have hC8 := hS6.split [] [false, false] rfl; dsimp only [selF, pickA, nthA, List.cons_append, List.nil_append] at hC8
          refine wl_call cal_13 rfl (pick_sp hC8 z 126 (by omega)) rfl ?_
          rintro e w8 ⟨_, rfl, rfl, hS8⟩; refine ⟨_, rfl, ?_⟩
          replace hS8 := hS8.join rfl; dsimp only [List.dropLast, List.cons_append, List.nil_append] at hS8; clear hC8
          clear hS6
          refine wl_add rfl rfl (by first | omega | (simp; omega)) (by first | omega | (simp; omega)) rfl ?_
          refine wl_buildX (vs' := procV (pk3 (64 * block + 1 + z % 126) 0 0) (.slice none 0 0) (.slice none 0 0)) rfl pl_38_0 asz_38 zr_38 rfl rfl (by rw [pk3_V]; rfl) ?_
          have hC9 := hS8.split [0] [true, false] rfl; dsimp only [selF, pickA, nthA, List.cons_append, List.nil_append] at hC9
          refine wl_call cal_16 rfl (putP_sp hC9 (hG.starL 0 rfl) (pk3_wf (by unfold inI; omega) (by unfold inI; omega) (by unfold inI; omega)).1 (fun _ => RdL.nil _ _) (fun _ => RdL.nil _ _) (pk3_wf (by unfold inI; omega) (by unfold inI; omega) (by unfold inI; omega)).2) rfl ?_
          rintro e w9 ⟨_, rfl, rfl, hS9⟩; refine ⟨_, rfl, ?_⟩
          replace hS9 := hS9.join rfl; dsimp only [List.dropLast, List.cons_append, List.nil_append] at hS9; clear hC9
          clear hS8
          refine wl_nil ?_
          refine qs_block_normal ?_
          refine qs_seq ?_
          refine wc_sub (L' := [(0, _), (1, _), (5, _), (6, _), (7, _)]) (.cons rfl (.cons rfl (.cons rfl (.cons rfl (.cons rfl .nil))))) ?_
          refine wc_region ?_
          refine wl_move rfl rfl ?_
          refine wl_add rfl rfl (by first | omega | (simp; omega)) (by first | omega | (simp; omega)) rfl ?_
          refine wl_assign rfl rfl ?_
          refine wl_nil ?_
          exact qs_round (L1 := [(0, _), (1, _), (5, _), (6, _), (7, intV ((i + 1 : Nat) : Int))]) (.cons rfl (.cons rfl (.cons rfl (.cons rfl (.cons rfl .nil))))) (k1 := zs.length - (i + 1)) (by omega) ⟨i + 1, _, rfl, rfl, hS9.pick [0, 1] rfl, by omega, hP.put (pk3_wf (by unfold inI; omega) (by unfold inI; omega) (by unfold inI; omega)).2⟩
        · skip
          refine wc_exit ?_
          refine qs_then_exit ?_
          refine qs_then_exit ?_
          refine qs_block_exit ?_
          refine qs_seq ?_
          refine wc_seq ?_
          refine wc_region ?_
          refine wl_move rfl rfl ?_
          refine wl_makeIface nif_25 rfl rfl ?_
          refine wl_move rfl rfl ?_
          have hC10 := hS6.split [0] [true, false] rfl; dsimp only [selF, pickA, nthA, List.cons_append, List.nil_append] at hC10
          refine wl_call cal_17 rfl (newP_sp hC10 (hG.starL 0 rfl) hP.tb (hP.keys (by omega)) block) rfl ?_
          rintro e w10 ⟨_, rfl, pid, er, rfl, hn, hS10⟩; refine ⟨_, rfl, ?_⟩
          replace hS10 := hS10.join rfl; dsimp only [List.dropLast, List.cons_append, List.nil_append] at hS10; clear hC10
          clear hS6
          obtain ⟨kl, hkl, hN⟩ := hn.resolve_left (by omega)
          refine wl_move rfl rfl ?_
          refine wl_extract rfl rfl rfl ?_
          refine wl_extract rfl rfl rfl ?_
          refine wl_assign rfl rfl ?_
          refine wl_assign rfl rfl ?_
          refine wl_nil ?_
          refine qs_seq ?_
          refine wc_sub (L' := [(9, _), (8, _), (0, _), (5, _), (6, _)]) (.cons rfl (.cons rfl (.cons rfl (.cons rfl (.cons rfl .nil))))) ?_
          refine wc_seq ?_
          refine wc_region ?_
          refine wl_assign rfl rfl ?_
          refine wl_nil ?_
          refine qs_seq ?_
          refine wc_seq ?_
          refine wc_seq ?_
          refine wc_region ?_
          refine wl_move rfl rfl ?_
          refine wl_mul rfl rfl (by first | omega | (simp; omega)) (by first | omega | (simp; omega)) rfl ?_
          refine wl_add rfl rfl (by first | omega | (simp; omega)) (by first | omega | (simp; omega)) rfl ?_
          refine wl_assign rfl rfl ?_
          refine wl_nil ?_
          refine qs_seq ?_
          refine wc_block ?_
          refine wc_loop (fun K0 E0 W0 => ∃ (n L : Int), K0 = (n - 64 * block).toNat ∧ E0 = [(0, intV block), (5, .bool true), (6, ptrV p 0), (8, intV pid), (9, intV er), (10, intV L), (11, intV n)] ∧ Sat W0 [worldT p W, F] ∧ (64 * block ≤ n) ∧ (n ≤ 64 * block + 63) ∧ (LeastP W block n L)) (L0 := [(0, _), (5, _), (6, _), (8, _), (9, _), (10, _), (11, _)]) ((64 * block + 63 - 64 * block).toNat) (.cons rfl (.cons rfl (.cons rfl (.cons rfl (.cons rfl (.cons rfl (.cons rfl .nil))))))) ⟨64 * block + 63, 0, rfl, rfl, hS10.pick [0, 1] rfl, by omega, by omega, LeastP.start W block⟩ ?_
          rintro _ _ w11 ⟨n, L, rfl, rfl, hS11, hn1, hn2, hl⟩
          refine wc_seq ?_
          refine wc_seq ?_
          refine wc_region ?_
          refine wl_move rfl rfl ?_
          refine wl_move rfl rfl ?_
          refine wl_mul rfl rfl (by first | omega | (simp; omega)) (by first | omega | (simp; omega)) rfl ?_
          refine wl_gtr rfl rfl rfl ?_
          refine wl_nil ?_
          refine qs_seq ?_
          refine wc_sub (L' := [(62, _), (0, _), (5, _), (6, _), (8, _), (9, _), (10, _), (11, _)]) (.cons rfl (.cons rfl (.cons rfl (.cons rfl (.cons rfl (.cons rfl (.cons rfl (.cons rfl .nil)))))))) ?_
          refine wc_condD rfl (fun h12 => ?_) (fun h12 => ?_)
          · skip
            refine wc_skip ?_
            refine qs_seq ?_
            refine wc_seq ?_
            refine wc_block ?_
            refine wc_seq ?_
            refine wc_region ?_
            refine wl_move rfl rfl ?_
            refine wl_makeIface nif_25 rfl rfl ?_
            refine wl_move rfl rfl ?_
            have hC13 := hS11.split [0] [true, false] rfl; dsimp only [selF, pickA, nthA, List.cons_append, List.nil_append] at hC13
            refine wl_call cal_11 rfl (getP_sp hC13 (hG.starL 0 rfl) hP.tb n) rfl ?_
            rintro e w13 ⟨_, rfl, av, fv, rfl, hS13⟩; refine ⟨_, rfl, ?_⟩
            replace hS13 := hS13.join rfl; dsimp only [List.dropLast, List.cons_append, List.nil_append] at hS13; clear hC13
            clear hS11
            refine wl_move rfl rfl ?_
            refine wl_extract rfl rfl rfl ?_
            refine wl_extract rfl rfl rfl ?_
            have hone := procV_one (x := ((getW W n).getD zeroP)) (hS13.own_one 0 rfl) (hS13.own_one 1 rfl)
            refine wl_alloc hS13 zr_38 rfl rfl ?_
            intro bq w14 hS14
            clear hS13
            refine wl_storeA hS14 rfl rfl sz_38 rfl (by first | rfl | (simp [allOne, Value.oneCell']; done) | assumption) (i := 0) rfl (by first | decide | exact Nat.le_of_ble_eq_true rfl | (simp; done) | omega) ?_
            intro w15 hS15; dsimp only [List.set] at hS15
            clear hS14
            rw [splice_all _ _ (by rfl)] at hS15
            refine wl_assign rfl rfl ?_
            refine wl_nil ?_
            refine qs_seq ?_
            refine wc_sub (L' := [(13, _), (0, _), (5, _), (6, _), (8, _), (9, _), (10, _), (11, _)]) (.cons rfl (.cons rfl (.cons rfl (.cons rfl (.cons rfl (.cons rfl (.cons rfl (.cons rfl .nil)))))))) ?_
            refine wc_seq ?_
            refine wc_region ?_
            refine wl_move rfl rfl ?_
            refine wl_not rfl rfl ?_
            refine wl_nil ?_
            refine qs_seq ?_
            refine wc_cond rfl (fun h16 => ?_) (fun h16 => ?_)
            · skip
              refine wc_region ?_
              refine wl_move rfl rfl ?_
              refine wl_assign rfl rfl ?_
              refine wl_nil ?_
              refine qs_block_normal ?_
              refine qs_seq ?_
              refine wc_sub (L' := [(10, _), (0, _), (5, _), (6, _), (8, _), (9, _), (11, _)]) (.cons rfl (.cons rfl (.cons rfl (.cons rfl (.cons rfl (.cons rfl (.cons rfl .nil))))))) ?_
              refine wc_region ?_
              refine wl_move rfl rfl ?_
              refine wl_sub' rfl rfl (by first | omega | (simp; omega)) (by first | omega | (simp; omega)) rfl ?_
              refine wl_assign rfl rfl ?_
              refine wl_nil ?_
              exact qs_round (L1 := [(0, _), (5, _), (6, _), (8, _), (9, _), (10, _), (11, intV (n - 1))]) (.cons rfl (.cons rfl (.cons rfl (.cons rfl (.cons rfl (.cons rfl (.cons rfl .nil))))))) (k1 := (n - 1 - 64 * block).toNat) (by omega) ⟨n - 1, _, rfl, rfl, hS15.pick [3, 4] rfl, by omega, by omega, hl.hit (by omega) (by omega) (optNo (by simpa using h16))⟩
            · skip
              refine wc_skip ?_
              refine qs_block_normal ?_
              refine qs_seq ?_
              refine wc_region ?_
              refine wl_move rfl rfl ?_
              refine wl_sub' rfl rfl (by first | omega | (simp; omega)) (by first | omega | (simp; omega)) rfl ?_
              refine wl_assign rfl rfl ?_
              refine wl_nil ?_
              exact qs_round (L1 := [(0, _), (5, _), (6, _), (8, _), (9, _), (10, _), (11, intV (n - 1))]) (.cons rfl (.cons rfl (.cons rfl (.cons rfl (.cons rfl (.cons rfl (.cons rfl .nil))))))) (k1 := (n - 1 - 64 * block).toNat) (by omega) ⟨n - 1, _, rfl, rfl, hS15.pick [3, 4] rfl, by omega, by omega, hl.miss (fun q => by rw [q] at h16; simp at h16)⟩
          · skip
            refine wc_exit ?_
            refine qs_then_exit ?_
            refine qs_then_exit ?_
            refine qs_block_exit ?_
            refine qs_seq ?_
            refine wc_seq ?_
            refine wc_seq ?_
            refine wc_region ?_
            refine wl_move rfl rfl ?_
            refine wl_makeIface nif_25 rfl rfl ?_
            have hC17 := hS11.split [0] [true, false] rfl; dsimp only [selF, pickA, nthA, List.cons_append, List.nil_append] at hC17
            refine wl_call cal_15 rfl (all_sp hC17 (hG.starL 0 rfl) hP.tb (hP.keys (by omega))) rfl ?_
            rintro e w17 ⟨_, rfl, kl2, hkl2, hS17⟩; refine ⟨_, rfl, ?_⟩
            replace hS17 := hS17.join rfl; dsimp only [List.dropLast, List.cons_append, List.nil_append] at hS17; clear hC17
            clear hS11
            obtain rfl := keysOf_uniq hkl hkl2
            obtain ⟨au, cu, rfl, _⟩ := hS17.own_shape 0 rfl
            obtain rfl : n = 64 * block := by omega
            have hfin := new_fin hkl (by omega) hN hl
            first | refine wl_lenL Tryz.underlying46 rfl rfl ?_ | refine wl_lenO 0 hS17 Tryz.underlying46 rfl rfl rfl ?_
            refine wl_geq rfl rfl rfl ?_
            refine wl_move rfl rfl ?_
            refine wl_splitD 80 rfl (fun h18 => ?_) (fun h18 => ?_)
            · skip
              refine wl_unwanted rfl rfl (decide_eq_true h18) rfl ?_
              refine wl_unwanted rfl rfl (decide_eq_true h18) rfl ?_
              refine wl_pickT rfl (decide_eq_true h18) rfl rfl ?_
              refine wl_nil ?_
              refine qs_seq ?_
              refine wc_sub (L' := [(83, _), (5, _), (8, _), (9, _), (10, _)]) (.cons rfl (.cons rfl (.cons rfl (.cons rfl (.cons rfl .nil))))) ?_
              refine wc_condT rfl ?_
              refine wc_seq ?_
              obtain ⟨rfl, rfl⟩ := hfin.1 (by omega)
              refine wc_region ?_
              refine wl_move rfl rfl ?_
              refine wl_move rfl rfl ?_
              refine wl_guard rfl rfl rfl ?_
              refine wl_move rfl rfl ?_
              refine wl_guard rfl rfl rfl ?_
              refine wl_eql rfl rfl rfl ?_
              refine wl_pickT rfl rfl rfl rfl ?_
              refine wl_move rfl rfl ?_
              refine wl_splitD 89 rfl (fun h19 => ?_) (fun h19 => ?_)
              · skip
                refine wl_guard rfl rfl (decide_eq_true h19) ?_
                refine wl_move rfl rfl ?_
                refine wl_guard rfl rfl (decide_eq_true h19) ?_
                refine wl_eql rfl rfl rfl ?_
                refine wl_pickT rfl (decide_eq_true h19) rfl rfl ?_
                refine wl_assign rfl rfl ?_
                refine wl_nil ?_
                refine qs_seq ?_
                refine wc_sub (L' := [(4, _), (5, _), (8, _), (9, _), (10, _)]) (.cons rfl (.cons rfl (.cons rfl (.cons rfl (.cons rfl .nil))))) ?_
                refine wc_ret ?_
                refine qs_then_ret ?_
                refine fin1 (.inr rfl) rfl rfl ?_
                exact ⟨_, rfl, by first | rfl | (simp; done) | (simp; omega), hS17.pick [2] rfl⟩
              · skip
                first | exact absurd rfl h19 | (simp at h19; done)
            · skip
              refine wl_guard rfl rfl (decide_eq_false h18) ?_
              refine wl_move rfl rfl ?_
              refine wl_guard rfl rfl (decide_eq_false h18) ?_
              refine wl_eql rfl rfl rfl ?_
              refine wl_pickF rfl (decide_eq_false h18) rfl rfl ?_
              refine wl_nil ?_
              refine qs_seq ?_
              refine wc_sub (L' := [(83, _), (5, _), (8, _), (9, _), (10, _)]) (.cons rfl (.cons rfl (.cons rfl (.cons rfl (.cons rfl .nil))))) ?_
              refine wc_condD rfl (fun h20 => ?_) (fun h20 => ?_)
              · skip
                refine wc_seq ?_
                obtain ⟨rfl, rfl⟩ := hfin.1 (by omega)
                refine wc_region ?_
                refine wl_move rfl rfl ?_
                refine wl_move rfl rfl ?_
                refine wl_guard rfl rfl rfl ?_
                refine wl_move rfl rfl ?_
                refine wl_guard rfl rfl rfl ?_
                refine wl_eql rfl rfl rfl ?_
                refine wl_pickT rfl rfl rfl rfl ?_
                refine wl_move rfl rfl ?_
                refine wl_splitD 89 rfl (fun h21 => ?_) (fun h21 => ?_)
                · skip
                  refine wl_guard rfl rfl (decide_eq_true h21) ?_
                  refine wl_move rfl rfl ?_
                  refine wl_guard rfl rfl (decide_eq_true h21) ?_
                  refine wl_eql rfl rfl rfl ?_
                  refine wl_pickT rfl (decide_eq_true h21) rfl rfl ?_
                  refine wl_assign rfl rfl ?_
                  refine wl_nil ?_
                  refine qs_seq ?_
                  refine wc_sub (L' := [(4, _), (5, _), (8, _), (9, _), (10, _)]) (.cons rfl (.cons rfl (.cons rfl (.cons rfl (.cons rfl .nil))))) ?_
                  refine wc_ret ?_
                  refine qs_then_ret ?_
                  refine fin1 (.inr rfl) rfl rfl ?_
                  exact ⟨_, rfl, by first | rfl | (simp; done) | (simp; omega), hS17.pick [2] rfl⟩
                · skip
                  first | exact absurd rfl h21 | (simp at h21; done)
              · skip
                refine wc_skip ?_
                refine qs_seq ?_
                refine wc_seq ?_
                obtain ⟨rfl, rfl⟩ := hfin.2 (by omega) (by omega)
                refine wc_region ?_
                refine wl_move rfl rfl ?_
                refine wl_move rfl rfl ?_
                refine wl_guard rfl rfl rfl ?_
                refine wl_move rfl rfl ?_
                refine wl_guard rfl rfl rfl ?_
                refine wl_eql rfl rfl rfl ?_
                refine wl_pickT rfl rfl rfl rfl ?_
                refine wl_move rfl rfl ?_
                refine wl_splitD 98 rfl (fun h22 => ?_) (fun h22 => ?_)
                · skip
                  refine wl_guard rfl rfl (decide_eq_true h22) ?_
                  refine wl_move rfl rfl ?_
                  refine wl_guard rfl rfl (decide_eq_true h22) ?_
                  refine wl_move rfl rfl ?_
                  refine wl_guard rfl rfl (decide_eq_true h22) ?_
                  refine wl_eql rfl rfl rfl ?_
                  refine wl_pickT rfl (decide_eq_true h22) rfl rfl ?_
                  refine wl_assign rfl rfl ?_
                  refine wl_nil ?_
                  refine qs_seq ?_
                  refine wc_sub (L' := [(4, _)]) (.cons rfl .nil) ?_
                  refine wc_ret ?_
                  refine fin1 (.inr rfl) rfl rfl ?_
                  exact ⟨_, rfl, by first | rfl | (simp; done) | (simp; omega), hS17.pick [2] rfl⟩
                · skip
                  first | exact absurd rfl h22 | (simp at h22; done)

end Go.Proofs.YtcbdclhoekokpaaGreatDoor
