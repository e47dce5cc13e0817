/- journal: openings and commits for laws; few, small -/
import Derived.Test.YtfmkodmmbgibgaaGreatDoorJl0
import Derived.ChangeKeysEq
import Derived.Laws.StructEq
namespace Go.Proofs.YtfmkodmmbgibgaaGreatDoor
open Go.RowKit M
set_option linter.unusedVariables false
theorem Sta.lv {D : DS} {f : Int} {C : CS} {B : Int → Bytes} (h : Sta D f C B) : Lv D f B [] :=
  ⟨h.up, C, h.cell.widen (fun s v hv => .inl ⟨hv, .inl h.home⟩), h.firm⟩
theorem lopenA {w : World} {dp : Nat} {D : DS} {F : Th} (hS : Sat w [dT dp D, F]) (hG : Ent F WireG) (hO : Ent F (Glob 0)) {f : Int} {A : Int → Bytes} {l : List Blk} (hf : 0 ≤ f ∧ f ≤ 13) (hr : rightJ l = true) (hA : Ran A) (h : Lv D f A l) :
    Calls Tryz.prog 9 #[ptrV dp 0, intV f] w (Ret fun v w' => (∃ jp D' C B, v = .tuple #[ptrV jp 0, intV 0] ∧ (B = A ∨ B = withB A l) ∧ Sta D' f C B ∧ Ran B ∧ (D.armed = 0 → D'.armed = 0) ∧ Sat w' [jT jp dp ⟨f, C, B, false⟩, dT dp D', F]) ∨ (D.armed ≠ 0 ∧ ∃ D', v = .tuple #[.pointer none, intV 9] ∧ Dw D' f A l ∧ Sat w' [dT dp D', F])) := by
  refine (jopen_sp hS hG hO f).mono fun e w' hh => hh.mono fun v w' hh => ?_
  have hZ := withB_ran hA hr
  rcases openJ_ok hf hr hA h with ⟨a, ⟨B, b1, b2, b3⟩, c⟩ | ⟨a, b, c⟩
  · rcases hh with ⟨_, jp, h1, h2⟩ | ⟨h1, _⟩
    · rw [b2] at h2
      refine .inl ⟨jp, _, _, B, h1, b1, b3, ?_, c, h2⟩
      rcases b1 with rfl | rfl
      · exact hA
      · exact hZ
    · exact absurd a h1
  · rcases hh with ⟨h0, _⟩ | ⟨_, h1, h2⟩
    · rw [a] at h0; cases h0
    · rw [a] at h1
      exact .inr ⟨b, _, h1, c, h2⟩
theorem lopen {w : World} {dp : Nat} {D : DS} {F : Th} (hS : Sat w [dT dp D, F]) (hG : Ent F WireG) (hO : Ent F (Glob 0)) {f : Int} {A : Int → Bytes} {l : List Blk} (hf : 0 ≤ f ∧ f ≤ 13) (hr : rightJ l = true) (hA : Ran A) (h : Lv D f A l) (ha : D.armed = 0) :
    Calls Tryz.prog 9 #[ptrV dp 0, intV f] w (Ret fun v w' => ∃ jp D' C B, v = .tuple #[ptrV jp 0, intV 0] ∧ (B = A ∨ B = withB A l) ∧ Sta D' f C B ∧ Ran B ∧ D'.armed = 0 ∧ Sat w' [jT jp dp ⟨f, C, B, false⟩, dT dp D', F]) := by
  refine (lopenA hS hG hO hf hr hA h).mono fun e w' hh => hh.mono fun v w' hh => ?_
  rcases hh with ⟨jp, D', C, B, h1, h2, h3, h4, h5, h6⟩ | ⟨h1, _⟩
  · exact ⟨jp, D', C, B, h1, h2, h3, h4, h5 ha, h6⟩
  · exact absurd ha h1
/-- an opening of what stands -/
theorem lopenS {w : World} {dp : Nat} {D : DS} {F : Th} (hS : Sat w [dT dp D, F]) (hG : Ent F WireG) (hO : Ent F (Glob 0)) {f : Int} {C : CS} {B : Int → Bytes} (hf : 0 ≤ f ∧ f ≤ 13) (hA : Ran B) (h : Sta D f C B) (ha : D.armed = 0) :
    Calls Tryz.prog 9 #[ptrV dp 0, intV f] w (Ret fun v w' => ∃ jp D' C', v = .tuple #[ptrV jp 0, intV 0] ∧ Sta D' f C' B ∧ D'.armed = 0 ∧ Sat w' [jT jp dp ⟨f, C', B, false⟩, dT dp D', F]) := by
  refine (lopen hS hG hO hf (l := []) rfl hA h.lv ha).mono fun e w' hh => hh.mono fun v w' ⟨jp, D', C', B', h1, h2, h3, h4, h5, h6⟩ => ?_
  have e : B' = B := by rcases h2 with q | q; exact q; exact q
  subst e
  exact ⟨jp, D', C', h1, h3, h5, h6⟩
theorem lcommit {w : World} {jp dp : Nat} {D : DS} {F : Th} {f : Int} {C : CS} {B : Int → Bytes} (hS : Sat w [jT jp dp ⟨f, C, B, false⟩, dT dp D, F]) (hG : Ent F WireG) (hO : Ent F (Glob 0)) (hf : 0 ≤ f ∧ f ≤ 13) (h : Sta D f C B) {lv : Value} {l : List Blk} (hL : Ent F (RdL jbC lv l)) (hln : l.length ≤ 1000000000) :
    Calls Tryz.prog 10 #[ptrV jp 0, lv] w (Ret fun v w' => (rightJ l = false ∧ v = intV 1 ∧ Sat w' [jT jp dp ⟨f, C, B, false⟩, dT dp D, F]) ∨
      (rightJ l = true ∧ ∃ D' C', v = intV 0 ∧ Sta D' f C' (withB B l) ∧ (D.armed = 0 → D'.armed = 0) ∧ Sat w' [jT jp dp ⟨f, C', withB B l, false⟩, dT dp D', F]) ∨
      (rightJ l = true ∧ D.armed ≠ 0 ∧ ∃ D' J', v = intV 9 ∧ J'.B = B ∧ Dw D' f B l ∧ D'.down = true ∧ Sat w' [jT jp dp J', dT dp D', F])) := by
  refine (jcommit_sp hS hG hO hL hln).mono fun e w' hh => hh.mono fun v w' ⟨h1, h2⟩ => ?_
  obtain ⟨c1, c2⟩ := commit_ok (J := ⟨f, C, B, false⟩) (l := l) hf rfl rfl h
  cases hq : rightJ l with
  | false =>
    rw [c1 hq] at h1 h2
    exact .inl ⟨rfl, h1, h2⟩
  | true =>
    rcases c2 hq with ⟨a, b, c, d⟩ | ⟨a, b, c, d⟩
    · rw [a] at h1; rw [b] at h2
      exact .inr (.inl ⟨rfl, _, _, h1, c, d, h2⟩)
    · rw [a] at h1
      exact .inr (.inr ⟨rfl, b, _, _, h1, c, d, d.cell.down, h2⟩)
/-- a commit while no crash is scheduled -/
theorem lcommit0 {w : World} {jp dp : Nat} {D : DS} {F : Th} {f : Int} {C : CS} {B : Int → Bytes} (hS : Sat w [jT jp dp ⟨f, C, B, false⟩, dT dp D, F]) (hG : Ent F WireG) (hO : Ent F (Glob 0)) (hf : 0 ≤ f ∧ f ≤ 13) (h : Sta D f C B) (ha : D.armed = 0) {lv : Value} {l : List Blk} (hL : Ent F (RdL jbC lv l)) (hln : l.length ≤ 1000000000) :
    Calls Tryz.prog 10 #[ptrV jp 0, lv] w (Ret fun v w' => ∃ D' C', v = intV (if rightJ l = true then 0 else 1) ∧ Sta D' f C' (if rightJ l = true then withB B l else B) ∧ D'.armed = 0 ∧ Sat w' [jT jp dp ⟨f, C', if rightJ l = true then withB B l else B, false⟩, dT dp D', F]) := by
  refine (lcommit hS hG hO hf h hL hln).mono fun e w' hh => hh.mono fun v w' hh => ?_
  rcases hh with ⟨h1, h2, h3⟩ | ⟨h1, D', C', h2, h3, h4, h5⟩ | ⟨_, h2, _⟩
  · rw [h1]; exact ⟨D, C, h2, h, ha, h3⟩
  · rw [h1]; exact ⟨D', C', h2, h3, h4 ha, h5⟩
  · exact absurd ha h2
/-- what an opening leaves, whatever became of it, and what stands after a start -/
def Rst (D : DS) (f : Int) (A Z : Int → Bytes) : Prop := ∃ A' l', Lv (armD (startD D) 0 []) f A' l' ∧ rightJ l' = true ∧ Ran A' ∧ (A' = A ∨ A' = Z) ∧ (withB A' l' = A ∨ withB A' l' = Z)
theorem Rst.sta {D : DS} {f : Int} {C : CS} {A Z B : Int → Bytes} (h : Sta D f C B) (hr : Ran B) (hB : B = A ∨ B = Z) : Rst D f A Z := ⟨B, [], h.live [] 0 [], rfl, hr, hB, hB⟩
theorem Rst.dw {D : DS} {f : Int} {A : Int → Bytes} {l : List Blk} (h : Dw D f A l) (hr : rightJ l = true) (hA : Ran A) : Rst D f A (withB A l) := ⟨A, l, h.start 0 [], hr, hA, .inl rfl, .inr rfl⟩
/-- changes in an array of changes -/
structure ChD where
  v : Value
  l : List Blk
def chV (c : ChD) : List Value := [c.v]
abbrev ChsRd (v : Value) (l : List ChD) (w : World) : Prop := RdX chV 1 (fun c w => RdL jbC c.v c.l w) v l w
def FewJ (ls : List ChD) (n : Nat) : Prop := (∀ c ∈ ls, c.l.length ≤ 8) ∧ ls.length ≤ 12 ∧ n ≤ 30
set_option maxRecDepth 100000 in
theorem jfew_sp {w : World} {F : Th} (hS : Sat w [F]) {lv kv : Value} {ls : List ChD} {ks : List Int} (hL : Ent F (ChsRd lv ls)) (hK : Ent F (RdL inC kv ks)) :
    Calls Tryz.prog 7 #[lv, kv] w (Ret fun v w' => ∃ b, v = .bool b ∧ (b = true → FewJ ls ks.length) ∧ Sat w' [F]) := by
  obtain ⟨ao, cap, rfl, hmax⟩ := (hL.sat hS 0 rfl).shape
  obtain ⟨aok, capk, rfl, hmk⟩ := (hK.sat hS 0 rfl).shape
  refine calls_enter Tryz.func7 rfl Tryz.ntmps7 rfl ?_
  refine wc_seq ?_
  refine wc_region ?_
  refine wl_assign rfl rfl ?_
  refine wl_nil ?_
  refine qs_seq ?_
  refine wc_seq ?_
  refine wc_seq ?_
  refine wc_region ?_
  refine wl_assign rfl rfl ?_
  refine wl_nil ?_
  refine qs_seq ?_
  refine wc_block ?_
  refine wc_loop (fun K0 E0 W0 => ∃ (i : Nat), K0 = ls.length - i ∧ E0 = [(0, .slice ao ls.length cap), (1, .slice aok ks.length capk), (5, intV (i : Int))] ∧ Sat W0 [F] ∧ (i ≤ ls.length) ∧ (∀ j c, j < i → ls[j]? = some c → c.l.length ≤ 8)) (L0 := [(0, _), (1, _), (5, _)]) (ls.length - 0) (.cons rfl (.cons rfl (.cons rfl .nil))) ⟨0, rfl, rfl, hS, by omega, by omega⟩ ?_
  rintro _ _ w1 ⟨i, rfl, rfl, hS1, hi, hok⟩
  refine wc_seq ?_
  refine wc_seq ?_
  refine wc_region ?_
  refine wl_move rfl rfl ?_
  refine wl_move rfl rfl ?_
  refine wl_lenL Tryz.underlying22 rfl rfl ?_
  refine wl_lss rfl rfl rfl ?_
  refine wl_nil ?_
  refine qs_seq ?_
  refine wc_condD rfl (fun h2 => ?_) (fun h2 => ?_)
  · skip
    obtain ⟨⟨cv, cl⟩, hcx⟩ : ∃ c, ls[i]? = some c := ⟨_, List.getElem?_eq_getElem (by omega)⟩
    obtain ⟨⟨b, off, rfl, _⟩, hrd⟩ := (hL.sat hS1 0 rfl).get hcx
    have hE5 : Ent F (RdL jbC cv cl) := RdX.elem hL hcx
    dsimp only at hrd
    obtain ⟨ao2, cap2, rfl, hm2⟩ := hrd.shape
    clear hrd
    refine wc_skip ?_
    refine qs_seq ?_
    refine wc_seq ?_
    refine wc_block ?_
    refine wc_seq ?_
    refine wc_seq ?_
    refine wc_region ?_
    refine wl_assign rfl rfl ?_
    refine wl_nil ?_
    refine qs_seq ?_
    refine wc_block ?_
    refine wc_loop (fun K0 E0 W0 => ∃ (k : Nat), K0 = cl.length - k ∧ E0 = [(0, .slice (some ⟨b, off, none⟩) ls.length cap), (1, .slice aok ks.length capk), (5, intV (i : Int)), (6, intV (k : Int))] ∧ Sat W0 [F] ∧ (k ≤ cl.length)) (L0 := [(0, _), (1, _), (5, _), (6, _)]) (cl.length - 0) (.cons rfl (.cons rfl (.cons rfl (.cons rfl .nil)))) ⟨0, rfl, rfl, hS1, by omega⟩ ?_
    rintro _ _ w3 ⟨k, rfl, rfl, hS3, hk⟩
    refine wc_seq ?_
    refine wc_seq ?_
    refine wc_region ?_
    refine wl_move rfl rfl ?_
    refine wl_move rfl rfl ?_
    refine wl_move rfl rfl ?_
    refine wl_indexAddr i rfl rfl (by first | rfl | omega) (by omega) es_22 rfl ?_
    refine wl_load rfl ag_32 (RdX.cells (hL.sat hS3 0 rfl) hcx 0 _ rfl) rfl ?_
    refine wl_lenL Tryz.underlying32 rfl rfl ?_
    refine wl_lss rfl rfl rfl ?_
    refine wl_nil ?_
    refine qs_seq ?_
    refine wc_sub (L' := [(19, _), (0, _), (1, _), (5, _), (6, _)]) (.cons rfl (.cons rfl (.cons rfl (.cons rfl (.cons rfl .nil))))) ?_
    refine wc_condD rfl (fun h4 => ?_) (fun h4 => ?_)
    · skip
      obtain ⟨y, hy⟩ : ∃ y, cl[k]? = some y := ⟨_, List.getElem?_eq_getElem (by omega)⟩
      obtain ⟨b2, off2, rfl, _⟩ := (hE5.sat hS3 0 rfl).get hy
      refine wc_skip ?_
      refine qs_seq ?_
      refine wc_seq ?_
      refine wc_block ?_
      refine wc_seq ?_
      refine wc_region ?_
      refine wl_move rfl rfl ?_
      refine wl_move rfl rfl ?_
      refine wl_indexAddr i rfl rfl (by first | rfl | omega) (by omega) es_22 rfl ?_
      refine wl_load rfl ag_32 (RdX.cells (hL.sat hS3 0 rfl) hcx 0 _ rfl) rfl ?_
      refine wl_move rfl rfl ?_
      refine wl_indexAddr k rfl rfl (by first | rfl | omega) (by omega) es_32 rfl ?_
      refine wl_fieldAddr rfl fo_34_1 rfl ?_
      refine wl_load rfl ag_9 (((hE5.sat hS3 0 rfl).at_ hy) 1 _ rfl) rfl ?_
      refine wl_lenS Tryz.underlying9 rfl rfl ?_
      refine wl_gtr rfl rfl rfl ?_
      refine wl_nil ?_
      refine qs_seq ?_
      refine wc_sub (L' := [(31, _), (0, _), (1, _), (5, _), (6, _)]) (.cons rfl (.cons rfl (.cons rfl (.cons rfl (.cons rfl .nil))))) ?_
      refine wc_condD rfl (fun h5 => ?_) (fun h5 => ?_)
      · skip
        refine wc_seq ?_
        refine wc_region ?_
        refine wl_assign rfl rfl ?_
        refine wl_nil ?_
        refine qs_seq ?_
        refine wc_ret ?_
        refine qs_block_ret ?_
        refine qs_then_ret ?_
        refine qs_then_ret ?_
        refine qs_block_ret ?_
        refine qs_then_ret ?_
        refine qs_block_ret ?_
        refine qs_then_ret ?_
        refine qs_then_ret ?_
        refine qs_block_ret ?_
        refine qs_then_ret ?_
        refine fin1 (.inr rfl) rfl rfl ?_
        exact ⟨_, rfl, _, rfl, fun q => (by cases q), hS3.pick [0] rfl⟩
      refine wc_skip ?_
      refine qs_block_normal ?_
      refine qs_seq ?_
      refine wc_region ?_
      refine wl_move rfl rfl ?_
      refine wl_add rfl rfl (by omega) (by omega) rfl ?_
      refine wl_assign rfl rfl ?_
      refine wl_nil ?_
      exact qs_round (L1 := [(0, _), (1, _), (5, _), (6, intV ((k + 1 : Nat) : Int))]) (.cons rfl (.cons rfl (.cons rfl (.cons rfl .nil)))) (k1 := cl.length - (k + 1)) (by omega) ⟨k + 1, rfl, rfl, hS3.pick [0] rfl, by omega⟩
    refine wc_exit ?_
    refine qs_then_exit ?_
    refine qs_then_exit ?_
    refine qs_block_exit ?_
    refine qs_seq ?_
    refine wc_seq ?_
    refine wc_region ?_
    refine wl_move rfl rfl ?_
    refine wl_move rfl rfl ?_
    refine wl_indexAddr i rfl rfl (by first | rfl | omega) (by omega) es_22 rfl ?_
    refine wl_load rfl ag_32 (RdX.cells (hL.sat hS3 0 rfl) hcx 0 _ rfl) rfl ?_
    refine wl_lenL Tryz.underlying32 rfl rfl ?_
    refine wl_gtr rfl rfl rfl ?_
    refine wl_nil ?_
    refine qs_seq ?_
    refine wc_sub (L' := [(37, _), (0, _), (1, _), (5, _)]) (.cons rfl (.cons rfl (.cons rfl (.cons rfl .nil)))) ?_
    refine wc_condD rfl (fun h6 => ?_) (fun h6 => ?_)
    · skip
      refine wc_seq ?_
      refine wc_region ?_
      refine wl_assign rfl rfl ?_
      refine wl_nil ?_
      refine qs_seq ?_
      refine wc_ret ?_
      refine qs_block_ret ?_
      refine qs_then_ret ?_
      refine qs_then_ret ?_
      refine qs_block_ret ?_
      refine qs_then_ret ?_
      refine fin1 (.inr rfl) rfl rfl ?_
      exact ⟨_, rfl, _, rfl, fun q => (by cases q), hS3.pick [0] rfl⟩
    refine wc_skip ?_
    refine qs_block_normal ?_
    refine qs_seq ?_
    refine wc_region ?_
    refine wl_move rfl rfl ?_
    refine wl_add rfl rfl (by omega) (by omega) rfl ?_
    refine wl_assign rfl rfl ?_
    refine wl_nil ?_
    exact qs_round (L1 := [(0, _), (1, _), (5, intV ((i + 1 : Nat) : Int))]) (.cons rfl (.cons rfl (.cons rfl .nil))) (k1 := ls.length - (i + 1)) (by omega) ⟨i + 1, rfl, rfl, hS3.pick [0] rfl, by omega, fun j c hj hc => by by_cases e : j = i; (subst e; rw [hcx] at hc; cases hc; show cl.length ≤ 8; omega); exact hok j c (by omega) hc⟩
  refine wc_exit ?_
  refine qs_then_exit ?_
  refine qs_then_exit ?_
  refine qs_block_exit ?_
  refine qs_seq ?_
  refine wc_seq ?_
  refine wc_region ?_
  refine wl_move rfl rfl ?_
  refine wl_lenL Tryz.underlying22 rfl rfl ?_
  refine wl_leq rfl rfl rfl ?_
  refine wl_move rfl rfl ?_
  refine wl_splitD 41 rfl (fun h7 => ?_) (fun h7 => ?_)
  · skip
    refine wl_guard rfl rfl (decide_eq_true h7) ?_
    refine wl_move rfl rfl ?_
    refine wl_guard rfl rfl (decide_eq_true h7) ?_
    refine wl_lenL Tryz.underlying40 rfl rfl ?_
    refine wl_guard rfl rfl (decide_eq_true h7) ?_
    refine wl_leq rfl rfl rfl ?_
    refine wl_pickT rfl (decide_eq_true h7) rfl rfl ?_
    refine wl_assign rfl rfl ?_
    refine wl_nil ?_
    refine qs_seq ?_
    refine wc_sub (L' := [(4, _)]) (.cons rfl .nil) ?_
    refine wc_ret ?_
    refine fin1 (.inr rfl) rfl rfl ?_
    exact ⟨_, rfl, _, rfl, fun q => ⟨fun c hc => by obtain ⟨j, hj⟩ := List.mem_iff_getElem?.1 hc; exact hok j c (by have := (List.getElem?_eq_some_iff.1 hj).1; omega) hj, by omega, by have := of_decide_eq_true q; omega⟩, hS1.pick [0] rfl⟩
  refine wl_unwanted rfl rfl (decide_eq_false h7) rfl ?_
  refine wl_unwanted rfl rfl (decide_eq_false h7) rfl ?_
  refine wl_unwanted rfl rfl (decide_eq_false h7) rfl ?_
  refine wl_pickF rfl (decide_eq_false h7) rfl rfl ?_
  refine wl_assign rfl rfl ?_
  refine wl_nil ?_
  refine qs_seq ?_
  refine wc_sub (L' := [(4, _)]) (.cons rfl .nil) ?_
  refine wc_ret ?_
  refine fin1 (.inr rfl) rfl rfl ?_
  exact ⟨_, rfl, _, rfl, fun q => (by cases q), hS1.pick [0] rfl⟩
def sm1 : List Blk := [⟨5, [97]⟩, ⟨7, [98]⟩]
def sm2 : List Blk := [⟨5, []⟩, ⟨9, [99]⟩]
def sm3 : List Blk := [⟨7, [98]⟩, ⟨9, [99]⟩]
theorem sm_right : rightJ sm1 = true ∧ rightJ sm2 = true := by decide
theorem sm_read : withB (fun _ => []) sm1 5 = [97] := by decide
theorem sm_val (k : Int) : withB (withB (fun _ => []) sm1) sm2 k = if k = 9 then [99] else if k = 7 then [98] else [] := by
  show updB (updB (updB (updB _ 5 [97]) 7 [98]) 5 []) 9 [99] k = _
  unfold updB
  by_cases h9 : k = 9
  · rw [if_pos h9, if_pos h9]
  · rw [if_neg h9, if_neg h9]
    by_cases h5 : k = 5
    · rw [if_pos h5, if_neg (by omega)]
    · rw [if_neg h5]
      by_cases h7 : k = 7
      · rw [if_pos h7, if_pos h7]
      · rw [if_neg h7, if_neg h7, if_neg h5]
theorem sm_list : listB (withB (withB (fun _ => []) sm1) sm2) = sm3 := by
  refine sort_uniq (listB_sort _) (by unfold SortB sm3; simp) fun b => ?_
  rw [mem_listB, sm_val]
  unfold sm3
  simp only [List.mem_cons, List.not_mem_nil, or_false]
  constructor
  · rintro ⟨_, h2, h3⟩
    split at h2
    · rename_i h; right; cases b; simp_all
    · split at h2
      · rename_i h; left; cases b; simp_all
      · exact absurd h2.symm h3
  · rintro (rfl | rfl) <;> simp
set_option maxRecDepth 100000 in
theorem jsmall_sp {w : World} {F : Th} (hS : Sat w [F]) (hG : Ent F WireG) (hO : Ent F (Glob 0)) :
    Calls Tryz.prog 6 #[] w (Ret fun v w' => v = .bool true ∧ Sat w' [F]) := by
  refine calls_enter Tryz.func6 rfl Tryz.ntmps6 rfl ?_
  refine wc_seq ?_
  refine wc_region ?_
  refine wl_assign rfl rfl ?_
  refine wl_nil ?_
  refine qs_seq ?_
  refine wc_seq ?_
  refine wc_region ?_
  have hC1 := hS.split [] [false] rfl; dsimp only [selF, pickA, nthA, List.cons_append, List.nil_append] at hC1
  refine wl_call cal_8 rfl (new_sp hC1) rfl ?_
  rintro e w1 ⟨_, rfl, p, rfl, hS1⟩; refine ⟨_, rfl, ?_⟩
  replace hS1 := hS1.join rfl; dsimp only [List.dropLast, List.cons_append, List.nil_append] at hS1; clear hC1
  replace hS1 := dT_new hS1
  refine wl_assign rfl rfl ?_
  refine wl_nil ?_
  refine qs_seq ?_
  refine wc_seq ?_
  refine wc_seq ?_
  refine wc_region ?_
  refine wl_move rfl rfl ?_
  refine wl_eqlNil Tryz.underlying25 rfl rfl rfl ?_
  refine wl_nil ?_
  refine qs_seq ?_
  refine wc_condF rfl ?_
  refine wc_skip ?_
  refine qs_seq ?_
  refine wc_seq ?_
  refine wc_region ?_
  refine wl_move rfl rfl ?_
  have hC2 := hS1.split [0] [true, false] rfl; dsimp only [selF, pickA, nthA, List.cons_append, List.nil_append] at hC2
  refine wl_call cal_9 rfl (lopenS hC2 (hG.starL 0 rfl) (hO.starL 0 rfl) (by omega) ran_nil (sta_new (by omega)) rfl) rfl ?_
  rintro e w2 ⟨_, rfl, jp, D1, C1, rfl, hs1, ha1, hS2⟩; refine ⟨_, rfl, ?_⟩
  replace hS2 := hS2.join rfl; dsimp only [List.dropLast, List.cons_append, List.nil_append] at hS2; clear hC2
  clear hS1
  refine wl_move rfl rfl ?_
  refine wl_extract rfl rfl rfl ?_
  refine wl_extract rfl rfl rfl ?_
  refine wl_assign rfl rfl ?_
  refine wl_assign rfl rfl ?_
  refine wl_nil ?_
  refine qs_seq ?_
  refine wc_sub (L' := [(3, _), (2, _), (1, _), (0, _)]) (.cons rfl (.cons rfl (.cons rfl (.cons rfl .nil)))) ?_
  refine wc_seq ?_
  refine wc_seq ?_
  refine wc_region ?_
  refine wl_move rfl rfl ?_
  refine wl_neq rfl rfl rfl ?_
  refine wl_move rfl rfl ?_
  refine wl_splitD 19 rfl (fun h3 => ?_) (fun h3 => ?_)
  · skip
    exact absurd rfl h3
  refine wl_guard rfl rfl (decide_eq_false h3) ?_
  refine wl_move rfl rfl ?_
  refine wl_guard rfl rfl (decide_eq_false h3) ?_
  refine wl_eqlNil Tryz.underlying27 rfl rfl rfl ?_
  refine wl_pickF rfl (decide_eq_false h3) rfl rfl ?_
  refine wl_nil ?_
  refine qs_seq ?_
  refine wc_condF rfl ?_
  refine wc_skip ?_
  refine qs_seq ?_
  refine wc_seq ?_
  refine wc_region ?_
  refine wl_move rfl rfl ?_
  refine wl_buildS rfl pl_34_0_1 asz_34 zr_34 rfl rfl ?_
  refine wl_buildS rfl pl_34_0_1 asz_34 zr_34 rfl rfl ?_
  refine wl_rowBuild jbC sm1 hS2 rfl Tryz.underlying32 ifz_34 rfl rfl rfl rfl (by first | rfl | simp [RowC.cells, fillL, splice]) rfl ?_
  intro b4 w4 hS4
  clear hS2
  have hC5 := hS4.split [1, 2] [false, true, true, false] rfl; dsimp only [selF, pickA, nthA, List.cons_append, List.nil_append] at hC5
  refine wl_call cal_10 rfl (lcommit0 hC5 (hG.starL 1 rfl) (hO.starL 1 rfl) (by omega) hs1 ha1 (Ent.starL (ent_row (C := jbC) (l := sm1) (by decide)) 0 rfl) (by decide)) rfl ?_
  rintro e w5 ⟨_, rfl, D2, C2, rfl, hs2, ha2, hS5⟩; refine ⟨_, rfl, ?_⟩
  replace hS5 := hS5.join rfl; dsimp only [List.dropLast, List.cons_append, List.nil_append] at hS5; clear hC5
  clear hS4
  refine wl_assign rfl rfl ?_
  refine wl_nil ?_
  rw [if_pos sm_right.1]
  simp only [if_pos sm_right.1] at hS5 hs2
  refine qs_seq ?_
  refine wc_sub (L' := [(4, _), (2, _), (1, _), (0, _)]) (.cons rfl (.cons rfl (.cons rfl (.cons rfl .nil)))) ?_
  refine wc_seq ?_
  refine wc_region ?_
  refine wl_move rfl rfl ?_
  have hC6 := hS5.split [0] [true, false, false, false] rfl; dsimp only [selF, pickA, nthA, List.cons_append, List.nil_append] at hC6
  refine wl_call cal_11 rfl (jread hC6 5) rfl ?_
  rintro e w6 ⟨_, rfl, rfl, hS6⟩; refine ⟨_, rfl, ?_⟩
  replace hS6 := hS6.join rfl; dsimp only [List.dropLast, List.cons_append, List.nil_append] at hS6; clear hC6
  clear hS5
  refine wl_assign rfl rfl ?_
  refine wl_nil ?_
  refine qs_seq ?_
  refine wc_seq ?_
  refine wc_region ?_
  refine wl_move rfl rfl ?_
  refine wl_buildS rfl pl_34_0 asz_34 zr_34 rfl rfl ?_
  refine wl_buildS rfl pl_34_0_1 asz_34 zr_34 rfl rfl ?_
  refine wl_rowBuild jbC sm2 hS6 rfl Tryz.underlying32 ifz_34 rfl rfl rfl rfl (by first | rfl | simp [RowC.cells, fillL, splice]) rfl ?_
  intro b7 w7 hS7
  clear hS6
  have hC8 := hS7.split [1, 2] [false, true, true, false, false] rfl; dsimp only [selF, pickA, nthA, List.cons_append, List.nil_append] at hC8
  refine wl_call cal_10 rfl (lcommit0 hC8 (hG.starL 2 rfl) (hO.starL 2 rfl) (by omega) hs2 ha2 (Ent.starL (ent_row (C := jbC) (l := sm2) (by decide)) 0 rfl) (by decide)) rfl ?_
  rintro e w8 ⟨_, rfl, D3, C3, rfl, hs3, ha3, hS8⟩; refine ⟨_, rfl, ?_⟩
  replace hS8 := hS8.join rfl; dsimp only [List.dropLast, List.cons_append, List.nil_append] at hS8; clear hC8
  clear hS7
  refine wl_assign rfl rfl ?_
  refine wl_nil ?_
  rw [if_pos sm_right.2]
  simp only [if_pos sm_right.2] at hS8 hs3
  refine qs_seq ?_
  refine wc_sub (L' := [(6, _), (5, _), (4, _), (1, _), (0, _)]) (.cons rfl (.cons rfl (.cons rfl (.cons rfl (.cons rfl .nil))))) ?_
  refine wc_seq ?_
  refine wc_region ?_
  refine wl_move rfl rfl ?_
  have hC9 := hS8.split [1] [false, true, false, false, false] rfl; dsimp only [selF, pickA, nthA, List.cons_append, List.nil_append] at hC9
  refine wl_call cal_9 rfl (lopenS hC9 (hG.starL 3 rfl) (hO.starL 3 rfl) (by omega) (withB_ran (withB_ran ran_nil sm_right.1) sm_right.2) hs3 ha3) rfl ?_
  rintro e w9 ⟨_, rfl, jp2, D4, C4, rfl, hs4, ha4, hS9⟩; refine ⟨_, rfl, ?_⟩
  replace hS9 := hS9.join rfl; dsimp only [List.dropLast, List.cons_append, List.nil_append] at hS9; clear hC9
  clear hS8
  refine wl_move rfl rfl ?_
  refine wl_extract rfl rfl rfl ?_
  refine wl_extract rfl rfl rfl ?_
  refine wl_assign rfl rfl ?_
  refine wl_assign rfl rfl ?_
  refine wl_nil ?_
  refine qs_seq ?_
  refine wc_sub (L' := [(8, _), (7, _), (6, _), (5, _), (4, _), (0, _)]) (.cons rfl (.cons rfl (.cons rfl (.cons rfl (.cons rfl (.cons rfl .nil)))))) ?_
  refine wc_seq ?_
  refine wc_seq ?_
  refine wc_region ?_
  refine wl_move rfl rfl ?_
  refine wl_neq rfl rfl rfl ?_
  refine wl_move rfl rfl ?_
  refine wl_splitD 42 rfl (fun h10 => ?_) (fun h10 => ?_)
  · skip
    exact absurd rfl h10
  refine wl_guard rfl rfl (decide_eq_false h10) ?_
  refine wl_move rfl rfl ?_
  refine wl_guard rfl rfl (decide_eq_false h10) ?_
  refine wl_eqlNil Tryz.underlying27 rfl rfl rfl ?_
  refine wl_pickF rfl (decide_eq_false h10) rfl rfl ?_
  refine wl_nil ?_
  refine qs_seq ?_
  refine wc_sub (L' := [(45, _), (7, _), (6, _), (5, _), (4, _), (0, _)]) (.cons rfl (.cons rfl (.cons rfl (.cons rfl (.cons rfl (.cons rfl .nil)))))) ?_
  refine wc_condF rfl ?_
  refine wc_skip ?_
  refine qs_seq ?_
  refine wc_seq ?_
  refine wc_region ?_
  refine wl_move rfl rfl ?_
  refine wl_eql rfl rfl rfl ?_
  refine wl_move rfl rfl ?_
  refine wl_splitD 48 rfl (fun h11 => ?_) (fun h11 => ?_)
  · skip
    refine wl_guard rfl rfl (decide_eq_true h11) ?_
    refine wl_move rfl rfl ?_
    refine wl_guard rfl rfl (decide_eq_true h11) ?_
    refine wl_eqlS rfl rfl rfl ?_
    refine wl_pickT rfl (decide_eq_true h11) rfl rfl ?_
    refine wl_move rfl rfl ?_
    refine wl_splitD 52 rfl (fun h12 => ?_) (fun h12 => ?_)
    · skip
      refine wl_guard rfl rfl (decide_eq_true h12) ?_
      refine wl_move rfl rfl ?_
      refine wl_guard rfl rfl (decide_eq_true h12) ?_
      refine wl_eql rfl rfl rfl ?_
      refine wl_pickT rfl (decide_eq_true h12) rfl rfl ?_
      refine wl_move rfl rfl ?_
      refine wl_splitD 56 rfl (fun h13 => ?_) (fun h13 => ?_)
      · skip
        refine wl_guard rfl rfl (decide_eq_true h13) ?_
        refine wl_move rfl rfl ?_
        refine wl_guard rfl rfl (decide_eq_true h13) ?_
        have hC14 := hS9.split [0] [true, false, false, false, false, false] rfl; dsimp only [selF, pickA, nthA, List.cons_append, List.nil_append] at hC14
        refine wl_call cal_13 rfl (jblocks hC14) rfl ?_
        rintro e w14 ⟨_, rfl, hS14⟩; refine ⟨_, rfl, ?_⟩
        replace hS14 := hS14.join rfl; dsimp only [List.dropLast, List.cons_append, List.nil_append] at hS14; clear hC14
        clear hS9
        rename Value => blv
        refine wl_guard rfl rfl (decide_eq_true h13) ?_
        refine wl_buildS rfl pl_34_0_1 asz_34 zr_34 rfl rfl ?_
        refine wl_guard rfl rfl (decide_eq_true h13) ?_
        refine wl_buildS rfl pl_34_0_1 asz_34 zr_34 rfl rfl ?_
        refine wl_guard rfl rfl (decide_eq_true h13) ?_
        refine wl_rowBuild jbC sm3 hS14 rfl Tryz.underlying32 ifz_34 rfl rfl rfl rfl (by first | rfl | simp [RowC.cells, fillL, splice]) rfl ?_
        intro b15 w15 hS15
        clear hS14
        refine wl_guard rfl rfl (decide_eq_true h13) ?_
        have hC16 := hS15.split [] [false, false, false, false, false, false, false, false] rfl; dsimp only [selF, pickA, nthA, List.cons_append, List.nil_append] at hC16
        refine wl_call cal_12 rfl (bsame_sp hC16 (Ent.starL (ent_row (C := jbC) (l := listB (withB (withB (fun _ => []) sm1) sm2)) (by rw [sm_list]; decide)) 1 rfl) (Ent.starL (ent_row (C := jbC) (l := sm3) (by decide)) 0 rfl)) rfl ?_
        rintro e w16 ⟨_, rfl, rfl, hS16⟩; refine ⟨_, rfl, ?_⟩
        replace hS16 := hS16.join rfl; dsimp only [List.dropLast, List.cons_append, List.nil_append] at hS16; clear hC16
        clear hS15
        refine wl_pickT rfl (decide_eq_true h13) rfl rfl ?_
        refine wl_assign rfl rfl ?_
        refine wl_nil ?_
        refine qs_seq ?_
        refine wc_sub (L' := [(0, _)]) (.cons rfl .nil) ?_
        refine wc_ret ?_
        refine fin1 (.inr rfl) rfl rfl ?_
        exact ⟨_, rfl, by rw [decide_eq_true sm_list], hS16.pick [7] rfl⟩
      exact absurd rfl h13
    exact absurd sm_read h12
  exact absurd rfl h11
end Go.Proofs.YtfmkodmmbgibgaaGreatDoor
