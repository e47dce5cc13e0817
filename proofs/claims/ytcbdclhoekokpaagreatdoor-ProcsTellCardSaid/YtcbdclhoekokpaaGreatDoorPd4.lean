/- laws of procs: small -/
import Derived.Test.YtcbdclhoekokpaaGreatDoorPd3
import Derived.Test.YtcbdclhoekokpaaGreatDoorWb
import Derived.ChangeKeysEq
import Derived.Laws.StructEq
namespace Go.Proofs.YtcbdclhoekokpaaGreatDoor
open Go.RowKit M
set_option linter.unusedVariables false
section
variable {P : Program} {n : Nat} {ops : Array Oper} {Q : Exit → Act → World → Prop} {rest : List Oper} {L : Env} {w : World} {d : Nat} {ty : TypeId} {pos : String} {aft : Array Edge}
theorem wl_buildX {t : Nat} {parts : List (Nat × Operand)} {vs vs' : List Value} {pls : List (Nat × Nat)} {z : List Value} (hx : looks L (parts.map (·.2)) = some vs) (hp : structPl P t (parts.map (·.1)) = some pls) (ha : allSz P t = true) (hz : zeroOf P t = some (some (.agg z.toArray))) (hok : fillOk z.length pls vs = true) (hd : Nat.blt d n = true) (he : fillL z pls vs = vs') (hk : wl P n ops Q rest ((d, .agg vs'.toArray) :: L) w) : wl P n ops Q (⟨some d, .build t parts.toArray, ty, pos, aft, none⟩ :: rest) L w := by
  subst he; exact wl_buildS hx hp ha hz hok hd hk
end
def pk3 (n q s : Int) : ProcD := ⟨[n, q, 0, 0, 0, s, 0, 0, 0, 0, 0, 0, 0, 0, 0, 0, 0, 0, 0], [], [], [], List.replicate 38 0, []⟩
theorem pk3_wf {n q s : Int} (hn : inI n) (hq : inI q) (hs : inI s) : WFR (pk3 n q s) ∧ (encR (pk3 n q s)).length ≤ 1000000 := by
  have h0 : inI 0 := by unfold inI; omega
  have g : Wf0 (pk3 n q s) := {
    hl := rfl
    hi := fun m hm => by
      simp only [pk3, List.mem_cons, List.not_mem_nil, or_false] at hm
      rcases hm with rfl | rfl | rfl | rfl | rfl | rfl | rfl | rfl | rfl | rfl | rfl | rfl | rfl | rfl | rfl | rfl | rfl | rfl | rfl <;> assumption
    tl := rfl
    ti := fun m hm => by rw [List.eq_of_mem_replicate hm]; exact h0
    fl := by show flagsOk (List.replicate 38 0) = true; decide
    ar := fun y hy => (by cases hy) }
  have l : Light (pk3 n q s) := ⟨fun y hy => (by cases hy), fun y hy => (by cases hy), Nat.zero_le _, Nat.zero_le _, Nat.zero_le _, Nat.zero_le _⟩
  exact ⟨l.wfr g, by have := l.len g; omega⟩
theorem pk3_0 (n q s : Int) : hq (pk3 n q s) 0 = n := by unfold hq; rfl
theorem pk3_1 (n q s : Int) : hq (pk3 n q s) 1 = q := by unfold hq; rfl
theorem pk3_5 (n q s : Int) : hq (pk3 n q s) 5 = s := by unfold hq; rfl
theorem pk3_V (n q s : Int) : procV (pk3 n q s) (.slice none 0 0) (.slice none 0 0) = [intV n, intV q, intV 0, intV 0, intV 0, intV s, intV 0, intV 0, intV 0, intV 0, intV 0, intV 0, intV 0, intV 0, intV 0, intV 0, intV 0, intV 0, intV 0, (.slice none 0 0), (.slice none 0 0), strV [], intV 0, intV 0, intV 0, .bool false, intV 0, .bool false, intV 0, .bool false, intV 0, .bool false, intV 0, .bool false, intV 0, .bool false, intV 0, .bool false, intV 0, .bool false, intV 0, .bool false, intV 0, .bool false, intV 0, .bool false, intV 0, .bool false, intV 0, .bool false, intV 0, .bool false, intV 0, .bool false, intV 0, .bool false, intV 0, intV 0, intV 0, intV 0, strV []] := by
  unfold procV hq tq; rfl
theorem getW_empty (n : Int) : getW emptyW n = none := by
  unfold getW; split
  · rfl
  · rw [show emptyW.cells (keyP n) = [] from rfl, dec_nil]
theorem keysOf_empty {kl : List Bs} (h : KeysOf emptyW.cells [80, 47] kl) (pr : ProcD → Bool) : pidsF emptyW pr kl = [] := by
  cases hq : pidsF emptyW pr kl with
  | nil => rfl
  | cons n l =>
    obtain ⟨x, hx, _⟩ := (mem_pids h (pr := pr) (n := n)).1 (by rw [hq]; simp)
    rw [getW_empty] at hx; cases hx
theorem new_empty {b n e : Int} (hb : b = 0 ∨ b = 2) (h : (b < 0 ∨ b > 15623) ∧ n = 0 ∧ e = 1 ∨ ∃ kl, KeysOf emptyW.cells [80, 47] kl ∧ NewP b (pidsF emptyW (fun _ => true) kl) n e) : n = 64 * b + 1 ∧ e = 0 := by
  rcases h with ⟨h, _⟩ | ⟨kl, hk, _, _, h3⟩
  · omega
  · rw [keysOf_empty hk] at h3
    rcases h3 (by omega) (by simp) with ⟨h4, h5, h6, _, h8⟩ | ⟨_, _, h8⟩
    · refine ⟨?_, h4⟩
      by_cases q : n = 64 * b + 1
      · exact q
      · have := h8 (64 * b + 1) (by omega) (by omega); simp at this
    · have := h8 (64 * b + 1) (by omega) (by omega); simp at this
structure Two (W : WS) : Prop where
  inv : PInv W 2
  six : getW W 6 = some (pk3 6 5 0)
  sev : getW W 7 = some (pk3 7 5 3)
  no : ∀ n, n ≠ 6 → n ≠ 7 → getW W n = none
theorem key_in {n : Int} (h : 1 ≤ n ∧ n ≤ 999999) : keyP n ≠ [] := fun q => keyP_nil.1 q h
theorem two_W : Two (putW (putW emptyW (pk3 6 5 0)) (pk3 7 5 3)) := by
  obtain ⟨a1, a2⟩ := pk3_wf (n := 6) (q := 5) (s := 0) (by unfold inI; omega) (by unfold inI; omega) (by unfold inI; omega)
  obtain ⟨b1, b2⟩ := pk3_wf (n := 7) (q := 5) (s := 3) (by unfold inI; omega) (by unfold inI; omega) (by unfold inI; omega)
  have hg : ∀ n, getW (putW (putW emptyW (pk3 6 5 0)) (pk3 7 5 3)) n = if n = 7 then some (pk3 7 5 3) else if n = 6 then some (pk3 6 5 0) else none := fun n => by
    rw [getW_put b1 b2, getW_put a1 a2, getW_empty, pk3_0, pk3_0]
    simp [key_in (n := 6) (by omega), key_in (n := 7) (by omega)]
  exact ⟨(PInv.empty.put a2).put b2, by rw [hg]; simp, by rw [hg]; simp, fun n h1 h2 => by rw [hg, if_neg h2, if_neg h1]⟩
theorem Two.kids {W : WS} (h : Two W) {kl : List Bs} (hk : KeysOf W.cells [80, 47] kl) : pidsF W (fun x => decide (hq x 1 = 5)) kl = [6, 7] := by
  refine asc_uniq (pids_asc hk) (by simp) fun n => ?_
  rw [mem_pids hk]
  constructor
  · rintro ⟨x, hx, _⟩
    by_cases e6 : n = 6
    · simp [e6]
    · by_cases e7 : n = 7
      · simp [e7]
      · rw [h.no n e6 e7] at hx; cases hx
  · intro hn
    simp only [List.mem_cons, List.not_mem_nil, or_false] at hn
    rcases hn with rfl | rfl
    · exact ⟨_, h.six, by simp [pk3_1]⟩
    · exact ⟨_, h.sev, by simp [pk3_1]⟩
theorem Two.rep {W W' : WS} (h : Two W) (hr : RepP W 5 W') : getW W' 6 = some (setPar (pk3 6 5 0)) ∧ getW W' 7 = none := by
  constructor
  · rw [rep_get h.inv.tb hr, h.six]; unfold repG; dsimp only
    rw [if_pos ⟨by omega, pk3_1 _ _ _⟩, if_neg (by rw [pk3_5]; omega)]
  · rw [rep_get h.inv.tb hr, h.sev]; unfold repG; dsimp only
    rw [if_pos ⟨by omega, pk3_1 _ _ _⟩, if_pos (pk3_5 _ _ _)]
theorem par_one : hq (setPar (pk3 6 5 0)) 1 = 1 := by
  rw [hq_setPar (pk3_wf (by unfold inI; omega) (by unfold inI; omega) (by unfold inI; omega)).1, if_pos rfl]
theorem keyP_one : keyP 1 = [80, 47, 48, 48, 48, 48, 48, 49] := keyP_pad (n := 1) (by omega)
theorem keyP_top : keyP 999999 = [80, 47, 57, 57, 57, 57, 57, 57] := keyP_pad (n := 999999) (by omega)
theorem keyP_zero : keyP 0 = [] := keyP_nil.2 (by omega)
set_option maxRecDepth 100000 in
set_option maxHeartbeats 1000000 in
theorem small28_sp {w : World} {F : Th} (hS : Sat w [F]) (hG : Ent F WireG) :
    Calls Tryz.prog 8 #[] w (Ret fun v w' => v = .bool true ∧ Sat w' [F]) := by
  refine calls_enter Tryz.func8 rfl Tryz.ntmps8 rfl ?_
  refine wc_seq ?_
  refine wc_region ?_
  refine wl_assign rfl rfl ?_
  refine wl_nil ?_
  refine qs_seq ?_
  refine wc_seq ?_
  refine wc_region ?_
  have hC1 := hS.split [] [false] rfl; dsimp only [selF, pickA, nthA, List.cons_append, List.nil_append] at hC1
  refine wl_call cal_10 rfl (new_sp hC1) rfl ?_
  rintro e w1 ⟨_, rfl, p, rfl, hS1⟩; refine ⟨_, rfl, ?_⟩
  replace hS1 := hS1.join rfl; dsimp only [List.dropLast, List.cons_append, List.nil_append] at hS1; clear hC1
  refine wl_assign rfl rfl ?_
  refine wl_nil ?_
  refine qs_seq ?_
  refine wc_seq ?_
  refine wc_seq ?_
  refine wc_region ?_
  refine wl_move rfl rfl ?_
  refine wl_eqlNil Tryz.underlying25 rfl rfl rfl ?_
  refine wl_nil ?_
  refine qs_seq ?_
  refine wc_condF rfl ?_
  refine wc_skip ?_
  refine qs_seq ?_
  refine wc_seq ?_
  refine wc_region ?_
  refine wl_move rfl rfl ?_
  refine wl_makeIface nif_25 rfl rfl ?_
  have hC2 := hS1.split [0] [true, false] rfl; dsimp only [selF, pickA, nthA, List.cons_append, List.nil_append] at hC2
  refine wl_call cal_17 rfl (newP_sp hC2 (hG.starL 0 rfl) TB.empty (PInv.empty.keys (by omega)) 0) rfl ?_
  rintro e w2 ⟨_, rfl, n0, e0, rfl, hn0, hS2⟩; refine ⟨_, rfl, ?_⟩
  replace hS2 := hS2.join rfl; dsimp only [List.dropLast, List.cons_append, List.nil_append] at hS2; clear hC2
  clear hS1
  obtain ⟨rfl, rfl⟩ := new_empty (.inl rfl) hn0
  refine wl_move rfl rfl ?_
  refine wl_extract rfl rfl rfl ?_
  refine wl_extract rfl rfl rfl ?_
  refine wl_assign rfl rfl ?_
  refine wl_assign rfl rfl ?_
  refine wl_nil ?_
  refine qs_seq ?_
  refine wc_sub (L' := [(3, _), (2, _), (1, _), (0, _)]) (.cons rfl (.cons rfl (.cons rfl (.cons rfl .nil)))) ?_
  refine wc_seq ?_
  refine wc_region ?_
  refine wl_move rfl rfl ?_
  refine wl_makeIface nif_25 rfl rfl ?_
  have hC3 := hS2.split [0] [true, false] rfl; dsimp only [selF, pickA, nthA, List.cons_append, List.nil_append] at hC3
  refine wl_call cal_17 rfl (newP_sp hC3 (hG.starL 0 rfl) TB.empty (PInv.empty.keys (by omega)) 2) rfl ?_
  rintro e w3 ⟨_, rfl, n1, e1, rfl, hn1, hS3⟩; refine ⟨_, rfl, ?_⟩
  replace hS3 := hS3.join rfl; dsimp only [List.dropLast, List.cons_append, List.nil_append] at hS3; clear hC3
  clear hS2
  obtain ⟨rfl, rfl⟩ := new_empty (.inr rfl) hn1
  refine wl_move rfl rfl ?_
  refine wl_extract rfl rfl rfl ?_
  refine wl_extract rfl rfl rfl ?_
  refine wl_assign rfl rfl ?_
  refine wl_assign rfl rfl ?_
  refine wl_nil ?_
  refine qs_seq ?_
  refine wc_sub (L' := [(5, _), (4, _), (3, _), (2, _), (1, _), (0, _)]) (.cons rfl (.cons rfl (.cons rfl (.cons rfl (.cons rfl (.cons rfl .nil)))))) ?_
  refine wc_seq ?_
  refine wc_region ?_
  refine wl_move rfl rfl ?_
  refine wl_makeIface nif_25 rfl rfl ?_
  refine wl_buildX (vs' := procV (pk3 6 5 0) (.slice none 0 0) (.slice none 0 0)) rfl pl_38_0_1 asz_38 zr_38 rfl rfl (by rw [pk3_V]; rfl) ?_
  have hC4 := hS3.split [0] [true, false] rfl; dsimp only [selF, pickA, nthA, List.cons_append, List.nil_append] at hC4
  refine wl_call cal_16 rfl (putP_sp hC4 (hG.starL 0 rfl) (pk3_wf (by unfold inI; omega) (by unfold inI; omega) (by unfold inI; omega)).1 (fun _ => RdL.nil _ _) (fun _ => RdL.nil _ _) (pk3_wf (by unfold inI; omega) (by unfold inI; omega) (by unfold inI; omega)).2) rfl ?_
  rintro e w4 ⟨_, rfl, rfl, hS4⟩; refine ⟨_, rfl, ?_⟩
  replace hS4 := hS4.join rfl; dsimp only [List.dropLast, List.cons_append, List.nil_append] at hS4; clear hC4
  clear hS3
  refine wl_nil ?_
  refine qs_seq ?_
  refine wc_seq ?_
  refine wc_region ?_
  refine wl_move rfl rfl ?_
  refine wl_makeIface nif_25 rfl rfl ?_
  refine wl_buildX (vs' := procV (pk3 7 5 3) (.slice none 0 0) (.slice none 0 0)) rfl pl_38_0_1_5 asz_38 zr_38 rfl rfl (by rw [pk3_V]; rfl) ?_
  have hC5 := hS4.split [0] [true, false] rfl; dsimp only [selF, pickA, nthA, List.cons_append, List.nil_append] at hC5
  refine wl_call cal_16 rfl (putP_sp hC5 (hG.starL 0 rfl) (pk3_wf (by unfold inI; omega) (by unfold inI; omega) (by unfold inI; omega)).1 (fun _ => RdL.nil _ _) (fun _ => RdL.nil _ _) (pk3_wf (by unfold inI; omega) (by unfold inI; omega) (by unfold inI; omega)).2) rfl ?_
  rintro e w5 ⟨_, rfl, rfl, hS5⟩; refine ⟨_, rfl, ?_⟩
  replace hS5 := hS5.join rfl; dsimp only [List.dropLast, List.cons_append, List.nil_append] at hS5; clear hC5
  clear hS4
  refine wl_nil ?_
  refine qs_seq ?_
  refine wc_sub (L' := [(5, _), (4, _), (3, _), (2, _), (1, _), (0, _)]) (.cons rfl (.cons rfl (.cons rfl (.cons rfl (.cons rfl (.cons rfl .nil)))))) ?_
  refine wc_seq ?_
  refine wc_region ?_
  have hT := two_W
  generalize putW (putW emptyW (pk3 6 5 0)) (pk3 7 5 3) = W2 at hS5 hT
  refine wl_move rfl rfl ?_
  refine wl_makeIface nif_25 rfl rfl ?_
  have hC6 := hS5.split [0] [true, false] rfl; dsimp only [selF, pickA, nthA, List.cons_append, List.nil_append] at hC6
  refine wl_call cal_19 rfl (children_sp hC6 (hG.starL 0 rfl) hT.inv.tb (hT.inv.keys (by omega)) 5) rfl ?_
  rintro e w6 ⟨_, rfl, kl, hkl, hS6⟩; refine ⟨_, rfl, ?_⟩
  replace hS6 := hS6.join rfl; dsimp only [List.dropLast, List.cons_append, List.nil_append] at hS6; clear hC6
  clear hS5
  rw [hT.kids hkl] at hS6
  obtain ⟨ao, cap, rfl, _⟩ := hS6.own_shape 0 rfl
  first | refine wl_lenL Tryz.underlying46 rfl rfl ?_ | refine wl_lenO 0 hS6 Tryz.underlying46 rfl rfl rfl ?_
  refine wl_eql rfl rfl rfl ?_
  refine wl_assign rfl rfl ?_
  refine wl_nil ?_
  refine qs_seq ?_
  refine wc_sub (L' := [(6, _), (5, _), (4, _), (3, _), (2, _), (1, _), (0, _)]) (.cons rfl (.cons rfl (.cons rfl (.cons rfl (.cons rfl (.cons rfl (.cons rfl .nil))))))) ?_
  refine wc_seq ?_
  refine wc_region ?_
  refine wl_move rfl rfl ?_
  refine wl_makeIface nif_25 rfl rfl ?_
  have hC7 := hS6.split [1] [false, true, false] rfl; dsimp only [selF, pickA, nthA, List.cons_append, List.nil_append] at hC7
  refine wl_call cal_18 rfl (rep_sp hC7 (hG.starL 1 rfl) hT.inv.tb (hT.inv.keys (by omega)) 5) rfl ?_
  rintro e w7 ⟨_, rfl, rfl, W3, hr, hS7⟩; refine ⟨_, rfl, ?_⟩
  replace hS7 := hS7.join rfl; dsimp only [List.dropLast, List.cons_append, List.nil_append] at hS7; clear hC7
  clear hS6
  obtain ⟨g6, g7⟩ := hT.rep hr
  have hI3 := hT.inv.rep hr
  refine wl_nil ?_
  refine qs_seq ?_
  refine wc_seq ?_
  refine wc_region ?_
  refine wl_move rfl rfl ?_
  refine wl_makeIface nif_25 rfl rfl ?_
  have hC8 := hS7.split [0] [true, false, false] rfl; dsimp only [selF, pickA, nthA, List.cons_append, List.nil_append] at hC8
  refine wl_call cal_11 rfl (getP_sp hC8 (hG.starL 1 rfl) hI3.tb 6) rfl ?_
  rintro e w8 ⟨_, rfl, av6, fv6, rfl, hS8⟩; refine ⟨_, rfl, ?_⟩
  replace hS8 := hS8.join rfl; dsimp only [List.dropLast, List.cons_append, List.nil_append] at hS8; clear hC8
  clear hS7
  rw [g6] at hS8 ⊢
  dsimp only [Option.getD_some, Option.isSome_some] at hS8 ⊢
  refine wl_move rfl rfl ?_
  refine wl_extract rfl rfl rfl ?_
  refine wl_extract rfl rfl rfl ?_
  have hone := procV_one (x := setPar (pk3 6 5 0)) (hS8.own_one 0 rfl) (hS8.own_one 1 rfl)
  refine wl_alloc hS8 zr_38 rfl rfl ?_
  intro b6 w9 hS9
  clear hS8
  refine wl_storeA hS9 rfl rfl sz_38 rfl (by first | rfl | (simp [allOne, Value.oneCell']; done) | assumption) (i := 0) rfl (by first | decide | exact Nat.le_of_ble_eq_true rfl | (simp; done) | omega) ?_
  intro w10 hS10; dsimp only [List.set] at hS10
  clear hS9
  rw [splice_all _ _ (by rfl)] at hS10
  refine wl_assign rfl rfl ?_
  refine wl_nil ?_
  refine qs_seq ?_
  refine wc_sub (L' := [(8, _), (7, _), (6, _), (5, _), (4, _), (3, _), (2, _), (1, _), (0, _)]) (.cons rfl (.cons rfl (.cons rfl (.cons rfl (.cons rfl (.cons rfl (.cons rfl (.cons rfl (.cons rfl .nil))))))))) ?_
  refine wc_seq ?_
  refine wc_region ?_
  refine wl_move rfl rfl ?_
  refine wl_makeIface nif_25 rfl rfl ?_
  have hC11 := hS10.split [3] [false, false, false, true, false, false] rfl; dsimp only [selF, pickA, nthA, List.cons_append, List.nil_append] at hC11
  refine wl_call cal_11 rfl (getP_sp hC11 (hG.starL 4 rfl) hI3.tb 7) rfl ?_
  rintro e w11 ⟨_, rfl, av7, fv7, rfl, hS11⟩; refine ⟨_, rfl, ?_⟩
  replace hS11 := hS11.join rfl; dsimp only [List.dropLast, List.cons_append, List.nil_append] at hS11; clear hC11
  clear hS10
  rw [g7] at hS11 ⊢
  dsimp only [Option.getD_none, Option.isSome_none] at hS11 ⊢
  refine wl_move rfl rfl ?_
  refine wl_extract rfl rfl rfl ?_
  refine wl_extract rfl rfl rfl ?_
  have hone := procV_one (x := zeroP) (hS11.own_one 0 rfl) (hS11.own_one 1 rfl)
  refine wl_alloc hS11 zr_38 rfl rfl ?_
  intro b7 w12 hS12
  clear hS11
  refine wl_storeA hS12 rfl rfl sz_38 rfl (by first | rfl | (simp [allOne, Value.oneCell']; done) | assumption) (i := 0) rfl (by first | decide | exact Nat.le_of_ble_eq_true rfl | (simp; done) | omega) ?_
  intro w13 hS13; dsimp only [List.set] at hS13
  clear hS12
  rw [splice_all _ _ (by rfl)] at hS13
  refine wl_assign rfl rfl ?_
  refine wl_nil ?_
  refine qs_seq ?_
  refine wc_sub (L' := [(10, _), (8, _), (7, _), (6, _), (5, _), (4, _), (3, _), (2, _), (0, _)]) (.cons rfl (.cons rfl (.cons rfl (.cons rfl (.cons rfl (.cons rfl (.cons rfl (.cons rfl (.cons rfl .nil))))))))) ?_
  refine wc_seq ?_
  refine wc_region ?_
  have hC14 := hS13.split [] [false, false, false, false, false, false, false, false, false] rfl; dsimp only [selF, pickA, nthA, List.cons_append, List.nil_append] at hC14
  refine wl_call cal_24 rfl (key_sp hC14 (hG.starL 8 rfl) 1) rfl ?_
  rintro e w14 ⟨_, rfl, rfl, hS14⟩; refine ⟨_, rfl, ?_⟩
  replace hS14 := hS14.join rfl; dsimp only [List.dropLast, List.cons_append, List.nil_append] at hS14; clear hC14
  clear hS13
  rw [keyP_one]
  refine wl_eqlS rfl rfl rfl ?_
  refine wl_move rfl rfl ?_
  refine wl_splitD 56 rfl (fun h15 => ?_) (fun h15 => ?_)
  · skip
    refine wl_guard rfl rfl (decide_eq_true h15) ?_
    have hC16 := hS14.split [] [false, false, false, false, false, false, false, false, false] rfl; dsimp only [selF, pickA, nthA, List.cons_append, List.nil_append] at hC16
    refine wl_call cal_24 rfl (key_sp hC16 (hG.starL 8 rfl) 999999) rfl ?_
    rintro e w16 ⟨_, rfl, rfl, hS16⟩; refine ⟨_, rfl, ?_⟩
    replace hS16 := hS16.join rfl; dsimp only [List.dropLast, List.cons_append, List.nil_append] at hS16; clear hC16
    clear hS14
    rw [keyP_top]
    refine wl_guard rfl rfl (decide_eq_true h15) ?_
    refine wl_eqlS rfl rfl rfl ?_
    refine wl_pickT rfl (decide_eq_true h15) rfl rfl ?_
    refine wl_move rfl rfl ?_
    refine wl_splitD 60 rfl (fun h17 => ?_) (fun h17 => ?_)
    · skip
      refine wl_guard rfl rfl (decide_eq_true h17) ?_
      have hC18 := hS16.split [] [false, false, false, false, false, false, false, false, false] rfl; dsimp only [selF, pickA, nthA, List.cons_append, List.nil_append] at hC18
      refine wl_call cal_24 rfl (key_sp hC18 (hG.starL 8 rfl) 0) rfl ?_
      rintro e w18 ⟨_, rfl, rfl, hS18⟩; refine ⟨_, rfl, ?_⟩
      replace hS18 := hS18.join rfl; dsimp only [List.dropLast, List.cons_append, List.nil_append] at hS18; clear hC18
      clear hS16
      rw [keyP_zero]
      refine wl_guard rfl rfl (decide_eq_true h17) ?_
      refine wl_eqlS rfl rfl rfl ?_
      refine wl_pickT rfl (decide_eq_true h17) rfl rfl ?_
      refine wl_move rfl rfl ?_
      refine wl_splitD 64 rfl (fun h19 => ?_) (fun h19 => ?_)
      · skip
        refine wl_guard rfl rfl (decide_eq_true h19) ?_
        refine wl_move rfl rfl ?_
        refine wl_guard rfl rfl (decide_eq_true h19) ?_
        refine wl_eql rfl rfl rfl ?_
        refine wl_pickT rfl (decide_eq_true h19) rfl rfl ?_
        refine wl_move rfl rfl ?_
        refine wl_splitD 68 rfl (fun h20 => ?_) (fun h20 => ?_)
        · skip
          refine wl_guard rfl rfl (decide_eq_true h20) ?_
          refine wl_move rfl rfl ?_
          refine wl_guard rfl rfl (decide_eq_true h20) ?_
          refine wl_eql rfl rfl rfl ?_
          refine wl_pickT rfl (decide_eq_true h20) rfl rfl ?_
          refine wl_move rfl rfl ?_
          refine wl_splitD 72 rfl (fun h21 => ?_) (fun h21 => ?_)
          · skip
            refine wl_guard rfl rfl (decide_eq_true h21) ?_
            refine wl_move rfl rfl ?_
            refine wl_guard rfl rfl (decide_eq_true h21) ?_
            refine wl_eql rfl rfl rfl ?_
            refine wl_pickT rfl (decide_eq_true h21) rfl rfl ?_
            refine wl_move rfl rfl ?_
            refine wl_splitD 76 rfl (fun h22 => ?_) (fun h22 => ?_)
            · skip
              refine wl_guard rfl rfl (decide_eq_true h22) ?_
              refine wl_move rfl rfl ?_
              refine wl_guard rfl rfl (decide_eq_true h22) ?_
              refine wl_eql rfl rfl rfl ?_
              refine wl_pickT rfl (decide_eq_true h22) rfl rfl ?_
              refine wl_move rfl rfl ?_
              refine wl_splitD 80 rfl (fun h23 => ?_) (fun h23 => ?_)
              · skip
                refine wl_guard rfl rfl (decide_eq_true h23) ?_
                refine wl_move rfl rfl ?_
                refine wl_pickT rfl (decide_eq_true h23) rfl rfl ?_
                refine wl_move rfl rfl ?_
                refine wl_splitD 83 rfl (fun h24 => ?_) (fun h24 => ?_)
                · skip
                  refine wl_guard rfl rfl (decide_eq_true h24) ?_
                  refine wl_move rfl rfl ?_
                  refine wl_pickT rfl (decide_eq_true h24) rfl rfl ?_
                  refine wl_move rfl rfl ?_
                  refine wl_split 86 rfl (fun h25 => ?_) (fun h25 => ?_)
                  · skip
                    refine wl_guard rfl rfl h25 ?_
                    refine wl_fieldAddr rfl fo_38_1 rfl ?_
                    refine wl_guard rfl rfl h25 ?_
                    refine wl_load rfl ag_3 (by first | assumption | exact hS18.cell 0 rfl rfl | exact hS18.cell 4 rfl rfl) rfl ?_
                    refine wl_guard rfl rfl h25 ?_
                    refine wl_eql rfl rfl rfl ?_
                    refine wl_pickT rfl h25 rfl rfl ?_
                    refine wl_move rfl rfl ?_
                    refine wl_splitD 91 rfl (fun h26 => ?_) (fun h26 => ?_)
                    · skip
                      refine wl_guard rfl rfl (decide_eq_true h26) ?_
                      refine wl_move rfl rfl ?_
                      refine wl_guard rfl rfl (decide_eq_true h26) ?_
                      refine wl_not rfl rfl ?_
                      refine wl_pickT rfl (decide_eq_true h26) rfl rfl ?_
                      refine wl_assign rfl rfl ?_
                      refine wl_nil ?_
                      refine qs_seq ?_
                      refine wc_sub (L' := [(0, _)]) (.cons rfl .nil) ?_
                      refine wc_ret ?_
                      refine fin1 (.inr rfl) rfl rfl ?_
                      exact ⟨_, rfl, by first | rfl | decide | simp, hS18.pick [8] rfl⟩
                    first | exact absurd rfl h26 | exact absurd (by decide) h26 | exact absurd par_one h26 | (simp at h26; done)
                  first | exact absurd rfl h25 | exact absurd (by decide) h25 | exact absurd par_one h25 | (simp at h25; done)
                first | exact absurd rfl h24 | exact absurd (by decide) h24 | exact absurd par_one h24 | (simp at h24; done)
              first | exact absurd rfl h23 | exact absurd (by decide) h23 | exact absurd par_one h23 | (simp at h23; done)
            first | exact absurd rfl h22 | exact absurd (by decide) h22 | exact absurd par_one h22 | (simp at h22; done)
          first | exact absurd rfl h21 | exact absurd (by decide) h21 | exact absurd par_one h21 | (simp at h21; done)
        first | exact absurd rfl h20 | exact absurd (by decide) h20 | exact absurd par_one h20 | (simp at h20; done)
      first | exact absurd rfl h19 | exact absurd (by decide) h19 | exact absurd par_one h19 | (simp at h19; done)
    first | exact absurd rfl h17 | exact absurd (by decide) h17 | exact absurd par_one h17 | (simp at h17; done)
  first | exact absurd rfl h15 | exact absurd (by decide) h15 | exact absurd par_one h15 | (simp at h15; done)
end Go.Proofs.YtcbdclhoekokpaaGreatDoor
