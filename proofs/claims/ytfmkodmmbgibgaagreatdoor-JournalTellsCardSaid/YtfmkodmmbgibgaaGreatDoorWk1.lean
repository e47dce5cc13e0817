/- maps.Keys -/
import Derived.Test.YtfmkodmmbgibgaaGreatDoorJw2
import Derived.Test.YtfmkodmmbgibgaaGreatDoorShelf
namespace Go.Proofs.YtfmkodmmbgibgaaGreatDoor
open Go.RowKit M
set_option linter.unusedVariables false
set_option maxRecDepth 100000 in
theorem keysI_it {w : World} {l c b : Nat} {g : Int → Option Value} {J : List Int → Th} {F : Th} (hS : Sat w [J [], blkT c [.map (some b)], mapT intK b g, F]) (hY : YieldsT Tryz.prog l intK (okC g) J) :
    Calls Tryz.prog 91 #[.func (.yield l) #[] #[], ptrV c 0] w (Ret fun v w' => ∃ ks, AllC g ks ∧ Sat w' [J ks, blkT c [.map (some b)], mapT intK b g, F]) := by
 refine calls_enter Tryz.func91 rfl Tryz.ntmps91 rfl ?_
 refine wc_seq (wc_region ?_)
 refine wl_load rfl ag_71 (by first | assumption | exact hS.cell 1 rfl rfl) rfl ?_
 refine wl_range 2 hS Tryz.underlying71 rfl rfl rfl ?_
 intro RR left0 wR hSR; dsimp only [List.set] at hSR
 refine wl_nil (qs_seq (wc_block ?_))
 refine wc_loop (fun K0 E0 W0 => ∃ (dn : Int → Prop) (cur : Option Int) (left : Nat) (ks : List Int), K0 = 1 * left ∧ E0 = [(0, .func (.yield l) #[] #[]), (5, ptrV RR 0)] ∧ Sat W0 [J ks, rangeT intK b RR g dn cur left, blkT c [.map (some b)], F] ∧ (CSt g dn ks)) (L0 := [(0, _), (5, _)]) (1 * left0) (.cons rfl (.cons rfl .nil)) ⟨_, _, _, _, rfl, rfl, hSR.reorder [0, 2, 1, 3] rfl, CSt.start g⟩ ?_
 rintro _ _ w1 ⟨dn, cur, left, ks, rfl, rfl, hS1, hcs⟩
 refine wc_seq (wc_region ?_)
 refine wl_next 1 hS1 keysInt.inj rfl rfl rfl (fun hdone => ?_) (fun k v left2 w2 hleft hgk hnd hS2 => ?_)
 ·refine wl_extract rfl rfl rfl (wl_nil (qs_seq (wc_seq ?_)))
  refine wc_condF rfl ?_
  refine wc_exit (qs_then_exit (qs_then_exit (qs_block_exit ?_)))
  refine fin0 (.inl rfl) rfl ?_
  exact ⟨_, rfl, ks, hcs.all hdone, by have hSz := range_map (hS1.reorder [1, 0, 2, 3] rfl); exact hSz.reorder [1, 2, 0, 3] rfl⟩
 dsimp only [List.set] at hS2
 refine wl_extract rfl rfl rfl (wl_nil (qs_seq (wc_seq ?_)))
 refine wc_condT rfl ?_
 refine wc_skip (qs_seq (wc_block (wc_seq (wc_region ?_))))
 refine wl_entry 1 hS2 rfl hgk rfl rfl ?_
 refine wl_extract rfl rfl rfl (wl_assign rfl rfl (wl_nil (qs_seq (wc_seq ?_))))
 refine wc_regionI ?_
 refine wlI_val rfl (ev_move rfl) ?_
 refine wlI_val rfl (ev_move rfl) ?_
 have hSy := (hS2.split [0] [true, false, false, false] rfl); dsimp only [selF, pickA, nthA, List.cons_append, List.nil_append] at hSy
 refine wlI_yield rfl rfl rfl (hY _ _ _ _ (hcs.ok hnd hgk) hSy) ?_
 intro w5 hS5; replace hS5 := hS5.join rfl; dsimp only [List.dropLast, List.cons_append, List.nil_append] at hS5
 refine wlI_val rfl (ev_not rfl) ?_
 refine wlI_nil ?_
 refine qs_seq ?_
 refine wc_sub (L' := [(13, _), (0, _), (5, _)]) (.cons rfl (.cons rfl (.cons rfl .nil))) ?_
 refine wc_condF rfl ?_
 refine wc_skip (qs_block_normal ?_)
 have hSz := hS5.reorder [0, 1, 2, 3] rfl; dsimp only [pickA, nthA] at hSz
 exact qs_round (L1 := [(0, _), (5, _)]) (.cons rfl (.cons rfl .nil)) (k1 := 1 * left2) (by omega) ⟨_, _, _, _, rfl, rfl, hSz, hcs.step hnd hgk⟩
theorem keysI_sp {w : World} {v0 : Value} {F : Th} (hS : Sat w [F]) (h0 : v0.oneCell' = true) :
    Calls Tryz.prog 51 #[v0] w (Ret fun v w' => ∃ c, v = .func (.func 91) #[] #[ptrV c 0] ∧ Sat w' [blkT c v0.cells.toList, F]) := by
 refine calls_enter Tryz.func51 rfl Tryz.ntmps51 rfl ?_
 refine wc_seq (wc_region ?_)
 refine wl_box hS rfl rfl rfl ?_
 intro b1 w1 hS1
 refine wl_assign rfl rfl (wl_nil (qs_seq (wc_seq (wc_region ?_))))
 refine wl_makeFunc rfl rfl ?_
 refine wl_assign rfl rfl (wl_nil (qs_seq (wc_ret ?_)))
 refine fin1 (.inr rfl) rfl rfl ?_
 exact ⟨_, rfl, _, rfl, hS1⟩
end Go.Proofs.YtfmkodmmbgibgaaGreatDoor
/- slices.AppendSeq, Collect, Sorted -/
namespace Go.Proofs.YtfmkodmmbgibgaaGreatDoor
open Go.RowKit M
set_option linter.unusedVariables false
def ItI (g : Int → Option Value) (gf : Nat) (caps : List Value) (It : Th) : Prop := ∀ (l : Nat) (J : List Int → Th) (X : Th) (w : World), Sat w [J [], It, X] → YieldsT Tryz.prog l intK (okC g) J → Calls Tryz.prog gf (.func (.yield l) #[] #[] :: caps).toArray w (Ret fun _ w' => ∃ ks, AllC g ks ∧ Sat w' [J ks, It, X])
def JI (l D b : Nat) (rec : Loop) (ks : List Int) : Th := exT fun v : Value => starL [loopT l rec, deferT D, blkT b [v], rowT inC v ks]
set_option maxRecDepth 100000 in
theorem appI {w : World} {g : Int → Option Value} {It F : Th} {gf : Nat} {caps : List Value} (hS : Sat w [It, F]) (hcal : callB Tryz.prog gf = true) (hIt : ItI g gf caps It) (hlen : ∀ ks, Came g ks → ks.length ≤ 20000000) :
    Calls Tryz.prog 115 [.slice none 0 0, .func (.func gf) #[] caps.toArray].toArray w (Ret fun v w' => ∃ ks, AllC g ks ∧ Sat w' [rowT inC v ks, It, F]) := by
 refine calls_enterM Tryz.func115 rfl Tryz.ntmps115 rfl ?_
 refine wc_seq (wc_region ?_)
 refine wl_box hS rfl rfl rfl ?_
 intro b1 w1 hS1
 refine wl_assign rfl rfl (wl_nil (qs_seq (wc_seq (wc_seq (wc_region (wl_move rfl rfl (wl_nil (qs_seq (wc_block ?_)))))))))
 refine wc_rangeFunc (caps := caps) rfl hcal ?_
 intro rec hr1 hr2 hr3 hr4 hr5 htn htf
 have hE := ((hS1.enter_loop rec).row_nil inC)
 have hE2 := (hE.split [1, 2, 3, 0] [true, true, true, true, false, false] rfl); dsimp only [selF, pickA, nthA, List.cons_append, List.nil_append] at hE2
 have hJ0 := Sat.ex_intro (f := fun v : Value => starL [loopT _ _, deferT _, blkT _ [v], rowT inC v []]) _ (Sat.fold (As := [loopT _ _, deferT _, blkT _ [_], rowT inC _ []]) hE2)
 refine (hIt _ (JI _ _ _ _) _ _ (hJ0.join rfl) ?_).mono ?_
 ·intro ks k R w2 hok hw2
  obtain ⟨v, hw3⟩ := hw2.ex
  have hw4 := hw3.flat; dsimp only [List.cons_append, List.nil_append] at hw4
  have hl1 := hlen _ hok
  simp only [List.length_append, List.length_cons, List.length_nil] at hl1
  refine yield_sp (hw4.loop 0 rfl) hr1 hr2 hr3 hr4 hr5 htn htf rfl (by intro o ho c; simp at ho; subst ho; simp) (by intro o ho c; simp at ho; rcases ho with rfl | rfl | rfl | rfl | rfl <;> simp) ?_
  intro QA hA
  refine wl_assign rfl rfl (wl_nil ?_)
  refine hA _ _ (hw4.loop 0 rfl) ?_
  intro QB hB
  have h1v : v.oneCell' = true := hw4.own_one 3 rfl
  have hw5 := hw4.loop_put 0 rfl (rec' := { rec with state := .busy }); dsimp only [List.set] at hw5
  refine wl_load rfl ag_40 (hw5.cell 2 rfl rfl) rfl ?_
  refine wl_move rfl rfl ?_
  refine wl_rowBuild inC [k] hw5 rfl Tryz.underlying40 ifz_3 rfl rfl rfl rfl (by first | rfl | simp [RowC.cells, fillL, splice]) rfl ?_
  intro b3 w3 hw6
  refine wl_rowApp inC 4 hw6 rfl rfl rfl (hw6.rd 0 rfl (by simp)) Tryz.underlying40 Tryz.underlying40 (by intro k hk; cases hk) ifo_3 rfl (by simp; omega) rfl (by simp; omega) ?_
  intro v4 w4 hw7; dsimp only [List.set] at hw7
  have h1v4 : v4.oneCell' = true := hw7.own_one 4 rfl
  refine wl_store hw7 rfl rfl sz_40 h1v4 (i := 3) rfl (by simp) ?_
  intro w5 hw8; dsimp only [List.set] at hw8
  refine wl_nil ?_
  refine hB _ _ (hw8.loop 1 rfl) ?_
  have hw9 := hw8.loop_put 1 rfl (rec' := rec); dsimp only [List.set] at hw9
  exact (Sat.ex_intro (f := fun v : Value => starL [loopT _ _, deferT _, blkT _ [v], rowT inC v (ks ++ [k])]) v4 (Sat.fold (As := [loopT _ _, deferT _, blkT _ [_], rowT inC _ _]) (hw9.pick [1, 2, 3, 4, 5] rfl)))
 ·rintro e w3 ⟨v0, rfl, ks, hall, hw3⟩
  obtain ⟨v, hw4⟩ := hw3.ex
  have hw5 := hw4.flat; dsimp only [List.cons_append, List.nil_append] at hw5
  refine ⟨⟨v0, rfl⟩, rec, hw5.loop 0 rfl, by rw [hr1]; simp, hr2, ?_⟩
  intro a ha1 ha2
  have hw6 := hw5.loop_put 0 rfl (rec' := { rec with state := .exhausted }); dsimp only [List.set] at hw6
  obtain ⟨hD, hw7⟩ := hw6.defer_put (o := .deferred none) 1 rfl
  dsimp only [List.eraseIdx] at hw7
  refine tail_ret (n := 13) (by rw [ha1]; exact htn) (by rw [ha1]; exact htf) ha2 rfl ag_40 (hw6.cell 2 rfl rfl) hD rfl rfl rfl ?_
  exact ⟨_, rfl, ks, hall, hw7.pick [2, 3, 4] rfl⟩
def keysTI (c b : Nat) (g : Int → Option Value) : Th := starL [blkT c [.map (some b)], mapT intK b g]
theorem itI (c b : Nat) (g : Int → Option Value) : ItI g 91 [ptrV c 0] (keysTI c b g) := fun l J X w hS hY => by
  have h1 := (hS.perm (List.Perm.swap _ _ _)).flat; dsimp only [List.cons_append, List.nil_append] at h1
  refine (keysI_it (h1.reorder [2, 0, 1, 3] rfl) hY).mono fun e w' h => h.mono fun v w' ⟨ks, h2, h3⟩ => ⟨ks, h2, ?_⟩
  exact (Sat.fold (As := [blkT c [.map (some b)], mapT intK b g]) (h3.reorder [1, 2, 0, 3] rfl)).perm (List.Perm.swap _ _ _)
theorem Came.of_all {κ : Type} {g : κ → Option Value} {ks : List κ} (h : AllC g ks) : Came g ks := ⟨h.nodup, fun k hk => (h.mem k).1 hk⟩
theorem colI {w : World} {g : Int → Option Value} {It F : Th} {gf : Nat} {caps : List Value} (hS : Sat w [It, F]) (hcal : callB Tryz.prog gf = true) (hIt : ItI g gf caps It) (hlen : ∀ ks, Came g ks → ks.length ≤ 20000000) :
    Calls Tryz.prog 89 #[.func (.func gf) #[] caps.toArray] w (Ret fun v w' => ∃ ks, AllC g ks ∧ Sat w' [rowT inC v ks, It, F]) := by
 refine calls_enter Tryz.func89 rfl Tryz.ntmps89 rfl ?_
 refine wc_seq (wc_region (wl_assign rfl rfl (wl_nil (qs_seq (wc_seq (wc_region (wl_move rfl rfl ?_)))))))
 have hC1 := hS.split [0] [true, false] rfl; dsimp only [selF, pickA, nthA, List.cons_append, List.nil_append] at hC1
 refine wl_call cal_115 rfl (appI hC1 hcal hIt hlen) rfl ?_
 rintro e w1 ⟨_, rfl, ks, hks, hS1⟩; refine ⟨_, rfl, ?_⟩
 replace hS1 := hS1.join rfl; dsimp only [List.dropLast, List.cons_append, List.nil_append] at hS1; clear hC1
 have h1v := hS1.own_one 0 rfl
 refine wl_assign rfl rfl (wl_nil (qs_seq (wc_ret ?_)))
 refine fin1 (.inr rfl) rfl rfl ?_
 exact ⟨_, rfl, ks, hks, hS1⟩
theorem sortedI_sp {w : World} {g : Int → Option Value} {It F : Th} {gf : Nat} {caps : List Value} (hS : Sat w [It, F]) (hcal : callB Tryz.prog gf = true) (hIt : ItI g gf caps It) (hlen : ∀ ks, Came g ks → ks.length ≤ 20000000) :
    Calls Tryz.prog 50 #[.func (.func gf) #[] caps.toArray] w (Ret fun v w' => ∃ ks, AllC g ks ∧ Sat w' [rowT inC v (sortI ks), It, F]) := by
 refine calls_enter Tryz.func50 rfl Tryz.ntmps50 rfl ?_
 refine wc_seq (wc_region (wl_assign rfl rfl (wl_nil (qs_seq (wc_seq (wc_region (wl_move rfl rfl ?_)))))))
 have hC1 := hS.split [0] [true, false] rfl; dsimp only [selF, pickA, nthA, List.cons_append, List.nil_append] at hC1
 refine wl_call cal_89 rfl (colI hC1 hcal hIt hlen) rfl ?_
 rintro e w1 ⟨_, rfl, ks, hks, hS1⟩; refine ⟨_, rfl, ?_⟩
 replace hS1 := hS1.join rfl; dsimp only [List.dropLast, List.cons_append, List.nil_append] at hS1; clear hC1
 have h1v := hS1.own_one 0 rfl
 have hln := hlen _ (Came.of_all hks)
 refine wl_assign rfl rfl (wl_nil (qs_seq (wc_seq (wc_region (wl_move rfl rfl ?_)))))
 have hC2 := hS1.split [0] [true, false, false] rfl; dsimp only [selF, pickA, nthA, List.cons_append, List.nil_append] at hC2
 refine wl_call cal_90 rfl (sortI0 hC2 (by omega)) rfl ?_
 rintro e w2 ⟨_, rfl, rfl, hS2⟩; refine ⟨_, rfl, ?_⟩
 replace hS2 := hS2.join rfl; dsimp only [List.dropLast, List.cons_append, List.nil_append] at hS2; clear hC2
 clear hS1
 refine wl_nil (qs_seq (wc_seq (wc_region (wl_move rfl rfl (wl_assign rfl rfl (wl_nil (qs_seq (wc_ret ?_))))))))
 refine fin1 (.inr rfl) rfl rfl ?_
 exact ⟨_, rfl, ks, hks, hS2⟩
end Go.Proofs.YtfmkodmmbgibgaaGreatDoor
/- journal: load, Read, Blocks -/
namespace Go.Proofs.YtfmkodmmbgibgaaGreatDoor
open Go.RowKit M
set_option linter.unusedVariables false
def jmG (B : Int → Bytes) : Int → Option Value := fun n => if B n = [] then none else some (strV (B n))
theorem jm_val (B : Int → Bytes) (n : Int) : (jmG B n).getD (.string ⟨#[]⟩) = strV (B n) := by
  unfold jmG; split
  · rename_i h; rw [h]; rfl
  · rfl
theorem jm_nil : jmG (fun _ => []) = fun _ => none := by funext n; unfold jmG; rw [if_pos rfl]
theorem jm_put {B : Int → Bytes} {n : Int} {d : Bytes} (h : d ≠ []) : upd (jmG B) n (some (strV d)) = jmG (updB B n d) := by
  funext k; unfold upd jmG updB
  by_cases e : k = n
  · rw [if_pos e, if_pos e, if_neg h]
  · rw [if_neg e, if_neg e]
theorem jm_del {B : Int → Bytes} {n : Int} {v : Option Value} : upd (upd (jmG B) n v) n none = jmG (updB B n []) := by
  funext k; unfold upd jmG updB
  by_cases e : k = n
  · rw [if_pos e, if_pos e, if_pos rfl]
  · rw [if_neg e, if_neg e, if_neg e]
theorem jm_mem {B : Int → Bytes} {n : Int} : jmG B n ≠ none ↔ B n ≠ [] := by
  unfold jmG; split
  · rename_i h; simp [h]
  · rename_i h; simp [h]
theorem jm_few {B : Int → Bytes} (hr : Ran B) : ∀ ks, Came (jmG B) ks → ks.length ≤ 20000000 := fun ks h => by
  have h1 : ks ⊆ (List.range 2048).map fun n : Nat => (n : Int) := fun k hk => by
    have h2 := jm_mem.1 (h.has k hk)
    have h3 : 0 ≤ k ∧ k < 2048 := Decidable.byContradiction fun q => h2 (hr k q)
    exact List.mem_map.2 ⟨k.toNat, List.mem_range.2 (by omega), by omega⟩
  have h4 := List.Nodup.length_le_of_subset h.nodup h1
  rw [List.length_map, List.length_range] at h4; omega
theorem sorted_listB {B : Int → Bytes} (hr : Ran B) {ks : List Int} (h : AllC (jmG B) ks) : (sortI ks).map (fun n => (⟨n, B n⟩ : Blk)) = listB B := by
  have hp := sortI_perm ks
  have hs : (sortI ks).Pairwise fun a b => a ≤ b := by
    have := List.pairwise_mergeSort (le := fun x y : Int => decide (x ≤ y)) (fun a b c h1 h2 => by simp only [decide_eq_true_eq] at *; omega) (fun a b => by simp only [Bool.or_eq_true, decide_eq_true_eq]; omega) ks
    exact this.imp fun q => by simpa using q
  have hn : (sortI ks).Pairwise fun a b => a ≠ b := hp.nodup_iff.2 h.nodup
  have hlt : (sortI ks).Pairwise fun a b => a < b := (hs.and hn).imp fun ⟨q1, q2⟩ => by omega
  refine sort_uniq ?_ (listB_sort B) fun b => ?_
  · exact List.pairwise_map.2 hlt
  · rw [List.mem_map, mem_listB]
    constructor
    · rintro ⟨n, hn1, rfl⟩
      have h2 := jm_mem.1 ((h.mem n).1 (hp.mem_iff.1 hn1))
      exact ⟨Decidable.byContradiction fun q => h2 (hr n q), rfl, h2⟩
    · rintro ⟨_, h2, h3⟩
      exact ⟨b.n, hp.mem_iff.2 ((h.mem b.n).2 (jm_mem.2 (by rw [h2]; exact h3))), by rw [h2]⟩
theorem read_len {D : DS} {f : Int} : ReadE D f 0 ((D.F f).1.length : Int) = mayE D f ∧ (mayE D f = 0 → ReadS D f 0 ((D.F f).1.length : Int) = (D.F f).1) := by
  have h1 : ReadE D f 0 ((D.F f).1.length : Int) = mayE D f := by
    unfold ReadE; split
    · rfl
    · rename_i h; rw [if_neg (by omega)]; omega
  refine ⟨h1, fun h => ?_⟩
  unfold ReadS; rw [h1, if_pos h]; simp
/-- what load has put into the map before block n -/
def loadN (B : Int → Bytes) (s : Bytes) (n : Nat) : Int → Bytes := fun k => if 0 ≤ k ∧ k < n ∧ blkJ s k.toNat ≠ [] then blkJ s k.toNat else B k
theorem loadN_zero (B : Int → Bytes) (s : Bytes) : loadN B s 0 = B := by
  funext k; unfold loadN; rw [if_neg (by omega)]
theorem loadN_no {B : Int → Bytes} {s : Bytes} {n : Nat} (h : blkJ s n = []) : loadN B s (n + 1) = loadN B s n := by
  funext k; unfold loadN
  by_cases e : k = n
  · subst e
    rw [if_neg (by rintro ⟨_, _, q⟩; exact q (by simpa using h)), if_neg (by omega)]
  · by_cases q : 0 ≤ k ∧ k < (n : Int) ∧ blkJ s k.toNat ≠ []
    · rw [if_pos q, if_pos ⟨q.1, by omega, q.2.2⟩]
    · rw [if_neg q, if_neg (fun r => q ⟨r.1, by omega, r.2.2⟩)]
theorem loadN_yes {B : Int → Bytes} {s : Bytes} {n : Nat} (h : blkJ s n ≠ []) : upd (jmG (loadN B s n)) (n : Int) (some (strV (blkJ s n))) = jmG (loadN B s (n + 1)) := by
  rw [jm_put h]; congr 1
  funext k; unfold updB loadN
  by_cases e : k = n
  · subst e
    rw [if_pos rfl, if_pos ⟨by omega, by omega, by simpa using h⟩]; simp
  · rw [if_neg e]
    by_cases q : 0 ≤ k ∧ k < (n : Int) ∧ blkJ s k.toNat ≠ []
    · rw [if_pos q, if_pos ⟨q.1, by omega, q.2.2⟩]
    · rw [if_neg q, if_neg (fun r => q ⟨r.1, by omega, r.2.2⟩)]
theorem blk_over {s : Bytes} {n : Nat} (h : s.length ≤ 128 * n) : blkJ s n = [] := by
  unfold blkJ hdrJ; rw [List.getElem?_eq_none h, if_neg (by simp)]
theorem blk_yes {s : Bytes} {n : Nat} {c : UInt8} (hc : s[128 * n]? = some c) (h0 : 0 < c.toNat) (h1 : c.toNat ≤ 64) (h2 : 128 * n + 64 + c.toNat ≤ s.length) : blkJ s n = (s.take (128 * n + 64 + c.toNat)).drop (128 * n + 64) ∧ blkJ s n ≠ [] := by
  have e : hdrJ s n = c.toNat := by unfold hdrJ; rw [hc]; rfl
  have e2 : blkJ s n = (s.drop (128 * n + 64)).take c.toNat := by unfold blkJ; rw [e, if_pos ⟨h0, h1, h2⟩]
  refine ⟨?_, ?_⟩
  · rw [e2, List.drop_take]; congr 1; omega
  · rw [e2]; intro q
    have := congrArg List.length q
    rw [List.length_take, List.length_drop, List.length_nil] at this; omega
theorem blk_no {s : Bytes} {n : Nat} {c : UInt8} (hc : s[128 * n]? = some c) (h : ¬ (0 < c.toNat ∧ c.toNat ≤ 64 ∧ 128 * n + 64 + c.toNat ≤ s.length)) : blkJ s n = [] := by
  have e : hdrJ s n = c.toNat := by unfold hdrJ; rw [hc]; rfl
  unfold blkJ; rw [e, if_neg h]
def loadF (B : Int → Bytes) (s : Bytes) : Int → Bytes := loadN B s 2048
theorem loadN_end {B : Int → Bytes} {s : Bytes} {n : Nat} (hn : n ≤ 2048) (h : 2048 ≤ n ∨ s.length ≤ 128 * n) : loadN B s n = loadF B s := by
  unfold loadF
  rcases h with h | h
  · rw [show n = 2048 by omega]
  · have key : ∀ m, loadN B s (n + m) = loadN B s n := fun m => by
      induction m with
      | zero => rfl
      | succ m ih => rw [← Nat.add_assoc, loadN_no (blk_over (by omega)), ih]
    have := key (2048 - n)
    rw [show n + (2048 - n) = 2048 by omega] at this
    exact this.symm
theorem loadF_nil (s : Bytes) : loadF (fun _ => []) s = loadB s := by
  funext k; unfold loadF loadN loadB
  by_cases q : 0 ≤ k ∧ k < 2048
  · rw [if_pos q]
    by_cases r : blkJ s k.toNat = []
    · rw [if_neg (fun t => t.2.2 r), r]
    · rw [if_pos ⟨q.1, by omega, r⟩]
  · rw [if_neg q, if_neg (fun t => q ⟨t.1, by omega⟩)]
theorem loadB_ran (s : Bytes) : Ran (loadB s) := fun k hk => by unfold loadB; rw [if_neg hk]
set_option maxRecDepth 100000 in
theorem load_sp {w : World} {jp dp cp mb : Nat} {base : Int} {bad : Bool} {D : DS} {B : Int → Bytes} {F : Th} (hS : Sat w [blkT jp (jV dp base cp mb bad), dT dp D, mapT intK mb (jmG B), F]) :
    Calls Tryz.prog 38 #[ptrV jp 0] w (Ret fun v w' => v = intV (mayE D base) ∧ Sat w' [blkT jp (jV dp base cp mb bad), dT dp D, mapT intK mb (jmG (if mayE D base = 0 then loadF B (D.F base).1 else B)), F]) := by
 refine calls_enter Tryz.func38 rfl Tryz.ntmps38 rfl ?_
 have hIv := dT_inv hS 1 rfl
 obtain ⟨hRE, hRS⟩ := read_len (D := D) (f := base)
 have hsz := hIv.now base
 refine wc_seq (wc_region (wl_assign rfl rfl (wl_nil (qs_seq (wc_seq ?_)))))
 have hS1 := hS.drew
 refine wc_draw [0, 1, 2, 3, 4, 5, 6, 7, 8, 9, 10, 11, 12, 13, 14, 15, 16, 17, 18, 19, 20, 21, 22] [16, 17] mix (by kernel_rfl) ?_
 refine vc_p rfl rfl rfl (fun _ => (ev_move rfl)) ?_
 refine vc_p rfl rfl rfl (fun _ => (ev_nilCheck rfl)) ?_
 refine vc_p rfl rfl rfl (fun _ => (ev_fieldAddr rfl fo_73_0)) ?_
 refine vc_q rfl rfl rfl (ev_load rfl ag_25 (by first | assumption | exact hS1.cell 0 rfl rfl)) ?_
 refine vc_p rfl rfl rfl (fun _ => (ev_move rfl)) ?_
 refine vc_p rfl rfl rfl (fun _ => (ev_nilCheck rfl)) ?_
 refine vc_p rfl rfl rfl (fun _ => (ev_fieldAddr rfl fo_73_1)) ?_
 refine vc_q rfl rfl rfl (ev_load rfl ag_3 (by first | assumption | exact hS1.cell 0 rfl rfl)) ?_
 refine vc_p rfl rfl rfl (fun _ => (ev_move rfl)) ?_
 refine vc_p rfl rfl rfl (fun _ => (ev_nilCheck rfl)) ?_
 refine vc_p rfl rfl rfl (fun _ => (ev_fieldAddr rfl fo_73_0)) ?_
 refine vc_q rfl rfl rfl (ev_load rfl ag_25 (by first | assumption | exact hS1.cell 0 rfl rfl)) ?_
 refine vc_p rfl rfl rfl (fun _ => (ev_move rfl)) ?_
 refine vc_p rfl rfl rfl (fun _ => (ev_nilCheck rfl)) ?_
 refine vc_p rfl rfl rfl (fun _ => (ev_fieldAddr rfl fo_73_1)) ?_
 refine vc_q rfl rfl rfl (ev_load rfl ag_3 (by first | assumption | exact hS1.cell 0 rfl rfl)) ?_
 refine vc_s rfl rfl rfl rfl rfl rfl ?_
 have hC2 := hS1.split [1] [false, true, false, false] rfl; dsimp only [selF, pickA, nthA, List.cons_append, List.nil_append] at hC2
 refine wl_call cal_32 rfl (sizeT hC2 base) rfl ?_
 rintro e w2 ⟨_, rfl, rfl, hS2⟩; refine ⟨_, rfl, ?_⟩
 replace hS2 := hS2.join rfl; dsimp only [List.dropLast, List.cons_append, List.nil_append] at hS2; clear hC2
 clear hS1
 refine vc_e (.skip (by kernel_rfl) (.skip (by kernel_rfl) (.cons (.inl ⟨rfl, (ev_load rfl ag_3 (by first | assumption | exact hS2.cell 1 rfl rfl))⟩) (.cons (.inl ⟨rfl, (ev_load rfl ag_25 (by first | assumption | exact hS2.cell 1 rfl rfl))⟩) .nil)))) ?_
 refine vc_s rfl rfl rfl rfl rfl rfl ?_
 have hC3 := hS2.split [0] [true, false, false, false] rfl; dsimp only [selF, pickA, nthA, List.cons_append, List.nil_append] at hC3
 refine wl_call cal_31 rfl (dreadT hC3 base 0 ((D.F base).1.length : Int)) rfl ?_
 rintro e w3 ⟨_, rfl, rfl, hS3⟩; refine ⟨_, rfl, ?_⟩
 replace hS3 := hS3.join rfl; dsimp only [List.dropLast, List.cons_append, List.nil_append] at hS3; clear hC3
 clear hS2
 refine vc_e (.skip (by kernel_rfl) (.skip (by kernel_rfl) (.skip (by kernel_rfl) (.skip (by kernel_rfl) .nil)))) ?_
 refine vc_p rfl rfl rfl (fun _ => (ev_move rfl)) ?_
 refine vc_p rfl rfl rfl (fun _ => (ev_extract rfl rfl)) ?_
 refine vc_p rfl rfl rfl (fun _ => (ev_extract rfl rfl)) ?_
 refine vc_p rfl rfl rfl (fun _ => (ev_assign rfl)) ?_
 refine vc_p rfl rfl rfl (fun _ => (ev_assign rfl)) ?_
 refine VC.nil (qs_seq ?_)
 refine wc_sub (L' := [(4, _), (3, _), (2, _), (0, _)]) (.cons rfl (.cons rfl (.cons rfl (.cons rfl .nil)))) ?_
 refine wc_seq (wc_seq (wc_region (wl_move rfl rfl ?_)))
 refine wl_neq rfl rfl rfl ?_
 refine wl_nil (qs_seq ?_)
 refine wc_condD rfl (fun h4 => ?_) (fun h4 => ?_)
 ·refine wc_seq (wc_region (wl_move rfl rfl (wl_assign rfl rfl (wl_nil (qs_seq (wc_ret (qs_then_ret ?_)))))))
  refine fin1 (.inr rfl) rfl rfl ?_
  exact ⟨_, rfl, by rw [hRE], by rw [if_neg (by rw [← hRE]; assumption)]; exact hS3.pick [1, 0, 2, 3] rfl⟩
 have hm0 : mayE D base = 0 := by rw [← hRE]; exact Decidable.not_not.1 h4
 rw [hRS hm0]
 obtain ⟨s, hs⟩ : ∃ s, s = (D.F base).1 := ⟨_, rfl⟩
 rw [← hs] at hsz ⊢
 refine wc_skip (qs_seq (wc_seq (wc_seq (wc_region (wl_assign rfl rfl (wl_nil (qs_seq (wc_block ?_))))))))
 refine wc_loop (fun K0 E0 W0 => ∃ (n : Nat), K0 = 2048 - n ∧ E0 = [(0, ptrV jp 0), (3, strV s), (5, intV (n : Int))] ∧ Sat W0 [blkT jp (jV dp base cp mb bad), dT dp D, mapT intK mb (jmG (loadN B s n)), F] ∧ (n ≤ 2048)) (L0 := [(0, _), (3, _), (5, _)]) (2048 - 0) (.cons rfl (.cons rfl (.cons rfl .nil))) ⟨0, rfl, rfl, by rw [loadN_zero]; exact hS3.pick [1, 0, 2, 3] rfl, by omega⟩ ?_
 rintro _ _ w5 ⟨n, rfl, rfl, hS5, hn⟩
 refine wc_seq (wc_seq (wc_region (wl_move rfl rfl ?_)))
 refine wl_lss rfl rfl rfl ?_
 refine wl_move rfl rfl ?_
 refine wl_splitD 34 rfl (fun h6 => ?_) (fun h6 => ?_)
 ·refine wl_guard rfl rfl (decide_eq_true h6) ?_
  refine wl_move rfl rfl ?_
  refine wl_guard rfl rfl (decide_eq_true h6) ?_
  refine wl_mul rfl rfl (by omega) (by omega) rfl ?_
  refine wl_guard rfl rfl (decide_eq_true h6) ?_
  refine wl_move rfl rfl ?_
  refine wl_guard rfl rfl (decide_eq_true h6) ?_
  refine wl_lenS Tryz.underlying9 rfl rfl ?_
  refine wl_guard rfl rfl (decide_eq_true h6) ?_
  refine wl_lss rfl rfl rfl ?_
  refine wl_pickT rfl (decide_eq_true h6) rfl rfl ?_
  refine wl_nil (qs_seq ?_)
  refine wc_sub (L' := [(40, _), (0, _), (3, _), (5, _)]) (.cons rfl (.cons rfl (.cons rfl (.cons rfl .nil)))) ?_
  refine wc_condD rfl (fun h7 => ?_) (fun h7 => ?_)
  ·obtain ⟨c, hc⟩ : ∃ c, s[128 * n]? = some c := ⟨_, List.getElem?_eq_getElem (by omega)⟩
   have hcu := u8_lt c
   refine wc_skip (qs_seq (wc_seq (wc_block (wc_seq (wc_region (wl_move rfl rfl ?_))))))
   refine wl_mul rfl rfl (by omega) (by omega) rfl ?_
   refine wl_add rfl rfl (by omega) (by omega) rfl ?_
   refine wl_assign rfl rfl (wl_nil (qs_seq (wc_seq (wc_region (wl_move rfl rfl (wl_move rfl rfl ?_))))))
   refine wl_mul rfl rfl (by omega) (by omega) rfl ?_
   refine wl_indexS (128 * n) Tryz.underlying9 rfl rfl (by omega) hc rfl ?_
   refine wl_convU8 Tryz.underlying5 Tryz.underlying3 rfl rfl ?_
   refine wl_assign rfl rfl (wl_nil (qs_seq ?_))
   refine wc_sub (L' := [(7, _), (6, _), (0, _), (3, _), (5, _)]) (.cons rfl (.cons rfl (.cons rfl (.cons rfl (.cons rfl .nil))))) ?_
   refine wc_seq (wc_region (wl_move rfl rfl ?_))
   refine wl_gtr rfl rfl rfl ?_
   refine wl_move rfl rfl ?_
   refine wl_splitD 53 rfl (fun h8 => ?_) (fun h8 => ?_)
   ·refine wl_guard rfl rfl (decide_eq_true h8) ?_
    refine wl_move rfl rfl ?_
    refine wl_guard rfl rfl (decide_eq_true h8) ?_
    refine wl_leq rfl rfl rfl ?_
    refine wl_pickT rfl (decide_eq_true h8) rfl rfl ?_
    refine wl_move rfl rfl ?_
    refine wl_splitD 57 rfl (fun h9 => ?_) (fun h9 => ?_)
    ·refine wl_guard rfl rfl (decide_eq_true h9) ?_
     refine wl_move rfl rfl ?_
     refine wl_guard rfl rfl (decide_eq_true h9) ?_
     refine wl_move rfl rfl ?_
     refine wl_guard rfl rfl (decide_eq_true h9) ?_
     refine wl_add rfl rfl (by omega) (by omega) rfl ?_
     refine wl_guard rfl rfl (decide_eq_true h9) ?_
     refine wl_move rfl rfl ?_
     refine wl_guard rfl rfl (decide_eq_true h9) ?_
     refine wl_lenS Tryz.underlying9 rfl rfl ?_
     refine wl_guard rfl rfl (decide_eq_true h9) ?_
     refine wl_leq rfl rfl rfl ?_
     refine wl_pickT rfl (decide_eq_true h9) rfl rfl ?_
     refine wl_nil (qs_seq ?_)
     refine wc_sub (L' := [(64, _), (7, _), (6, _), (0, _), (3, _), (5, _)]) (.cons rfl (.cons rfl (.cons rfl (.cons rfl (.cons rfl (.cons rfl .nil)))))) ?_
     refine wc_condD rfl (fun h10 => ?_) (fun h10 => ?_)
     ·have hS11 := hS5.drew
      refine wc_draw [0, 1, 2, 3, 4, 5, 6, 7, 8, 9, 10, 11] [11] mix (by kernel_rfl) ?_
      refine vc_p rfl rfl rfl (fun _ => (ev_move rfl)) ?_
      refine vc_p rfl rfl rfl (fun _ => (ev_nilCheck rfl)) ?_
      refine vc_p rfl rfl rfl (fun _ => (ev_fieldAddr rfl fo_73_3)) ?_
      refine vc_q rfl rfl rfl (ev_load rfl ag_71 (by first | assumption | exact hS11.cell 0 rfl rfl)) ?_
      refine vc_p rfl rfl rfl (fun _ => (ev_move rfl)) ?_
      refine vc_p rfl rfl rfl (fun _ => (ev_move rfl)) ?_
      refine vc_p rfl rfl rfl (fun _ => (ev_move rfl)) ?_
      refine vc_p rfl rfl rfl (fun _ => (ev_move rfl)) ?_
      refine vc_p rfl rfl rfl (fun _ => (ev_move rfl)) ?_
      refine vc_p rfl rfl rfl (fun _ => (ev_add rfl rfl (by omega) (by omega))) ?_
      refine vc_p rfl rfl rfl (fun _ => (ev_sliceS (128 * n + 64) (128 * n + 64 + c.toNat) Tryz.underlying9 rfl (bndS (128 * n + 64) _ rfl (by omega)) (bndS (128 * n + 64 + c.toNat) _ rfl (by omega)) (by omega) (by omega))) ?_
      refine vc_s rfl rfl rfl rfl rfl rfl ?_
      first | refine wl_mapUpdate (k := (n : Int)) 2 hS11 keysInt Tryz.underlying71 rfl rfl rfl rfl ?_
      intro w12 hS12; dsimp only [List.set] at hS12
      clear hS11
      refine vc_e0 (.skip (by kernel_rfl) .nil) ?_
      refine VC.nil (qs_block_normal (qs_seq ?_))
      refine wc_sub (L' := [(0, _), (3, _), (5, _)]) (.cons rfl (.cons rfl (.cons rfl .nil))) ?_
      refine wc_region (wl_move rfl rfl ?_)
      refine wl_add rfl rfl (by omega) (by omega) rfl ?_
      refine wl_assign rfl rfl (wl_nil ?_)
      exact qs_round (L1 := [(0, _), (3, _), (5, intV ((n + 1 : Nat) : Int))]) (.cons rfl (.cons rfl (.cons rfl .nil))) (k1 := 2048 - (n + 1)) (by omega) ⟨n + 1, rfl, rfl, by rw [← loadN_yes (blk_yes hc (by omega) (by omega) (by omega)).2, (blk_yes hc (by omega) (by omega) (by omega)).1]; exact hS12.pick [0, 1, 2, 3] rfl, by omega⟩
     refine wc_skip (qs_block_normal (qs_seq (wc_region (wl_move rfl rfl ?_))))
     refine wl_add rfl rfl (by omega) (by omega) rfl ?_
     refine wl_assign rfl rfl (wl_nil ?_)
     exact qs_round (L1 := [(0, _), (3, _), (5, intV ((n + 1 : Nat) : Int))]) (.cons rfl (.cons rfl (.cons rfl .nil))) (k1 := 2048 - (n + 1)) (by omega) ⟨n + 1, rfl, rfl, by rw [loadN_no (blk_no hc (by omega))]; exact hS5.pick [0, 1, 2, 3] rfl, by omega⟩
    refine wl_unwanted rfl rfl (decide_eq_false h9) rfl ?_
    refine wl_unwanted rfl rfl (decide_eq_false h9) rfl ?_
    refine wl_unwanted rfl rfl (decide_eq_false h9) rfl ?_
    refine wl_unwanted rfl rfl (decide_eq_false h9) rfl ?_
    refine wl_unwanted rfl rfl (decide_eq_false h9) rfl ?_
    refine wl_unwanted rfl rfl (decide_eq_false h9) rfl ?_
    refine wl_pickF rfl (decide_eq_false h9) rfl rfl ?_
    refine wl_nil (qs_seq ?_)
    refine wc_sub (L' := [(64, _), (7, _), (6, _), (0, _), (3, _), (5, _)]) (.cons rfl (.cons rfl (.cons rfl (.cons rfl (.cons rfl (.cons rfl .nil)))))) ?_
    refine wc_condF rfl ?_
    refine wc_skip (qs_block_normal (qs_seq (wc_region (wl_move rfl rfl ?_))))
    refine wl_add rfl rfl (by omega) (by omega) rfl ?_
    refine wl_assign rfl rfl (wl_nil ?_)
    exact qs_round (L1 := [(0, _), (3, _), (5, intV ((n + 1 : Nat) : Int))]) (.cons rfl (.cons rfl (.cons rfl .nil))) (k1 := 2048 - (n + 1)) (by omega) ⟨n + 1, rfl, rfl, by rw [loadN_no (blk_no hc (by omega))]; exact hS5.pick [0, 1, 2, 3] rfl, by omega⟩
   refine wl_unwanted rfl rfl (decide_eq_false h8) rfl ?_
   refine wl_unwanted rfl rfl (decide_eq_false h8) rfl ?_
   refine wl_pickF rfl (decide_eq_false h8) rfl rfl ?_
   refine wl_move rfl rfl ?_
   refine wl_unwanted rfl rfl rfl rfl ?_
   refine wl_unwanted rfl rfl rfl rfl ?_
   refine wl_unwanted rfl rfl rfl rfl ?_
   refine wl_unwanted rfl rfl rfl rfl ?_
   refine wl_unwanted rfl rfl rfl rfl ?_
   refine wl_unwanted rfl rfl rfl rfl ?_
   refine wl_pickF rfl rfl rfl rfl ?_
   refine wl_nil (qs_seq ?_)
   refine wc_sub (L' := [(64, _), (7, _), (6, _), (0, _), (3, _), (5, _)]) (.cons rfl (.cons rfl (.cons rfl (.cons rfl (.cons rfl (.cons rfl .nil)))))) ?_
   refine wc_condF rfl ?_
   refine wc_skip (qs_block_normal (qs_seq (wc_region (wl_move rfl rfl ?_))))
   refine wl_add rfl rfl (by omega) (by omega) rfl ?_
   refine wl_assign rfl rfl (wl_nil ?_)
   exact qs_round (L1 := [(0, _), (3, _), (5, intV ((n + 1 : Nat) : Int))]) (.cons rfl (.cons rfl (.cons rfl .nil))) (k1 := 2048 - (n + 1)) (by omega) ⟨n + 1, rfl, rfl, by rw [loadN_no (blk_no hc (by omega))]; exact hS5.pick [0, 1, 2, 3] rfl, by omega⟩
  refine wc_exit (qs_then_exit (qs_then_exit (qs_block_exit (qs_seq (wc_seq (wc_region (wl_assign rfl rfl (wl_nil (qs_seq (wc_ret ?_))))))))))
  refine fin1 (.inr rfl) rfl rfl ?_
  exact ⟨_, rfl, by rw [hm0], by rw [if_pos hm0, ← loadN_end (n := n) (by omega) (by omega)]; exact hS5.pick [0, 1, 2, 3] rfl⟩
 refine wl_unwanted rfl rfl (decide_eq_false h6) rfl ?_
 refine wl_unwanted rfl rfl (decide_eq_false h6) rfl ?_
 refine wl_unwanted rfl rfl (decide_eq_false h6) rfl ?_
 refine wl_unwanted rfl rfl (decide_eq_false h6) rfl ?_
 refine wl_unwanted rfl rfl (decide_eq_false h6) rfl ?_
 refine wl_pickF rfl (decide_eq_false h6) rfl rfl ?_
 refine wl_nil (qs_seq ?_)
 refine wc_sub (L' := [(40, _), (0, _), (3, _), (5, _)]) (.cons rfl (.cons rfl (.cons rfl (.cons rfl .nil)))) ?_
 refine wc_condF rfl ?_
 refine wc_exit (qs_then_exit (qs_then_exit (qs_block_exit (qs_seq (wc_seq (wc_region (wl_assign rfl rfl (wl_nil (qs_seq (wc_ret ?_))))))))))
 refine fin1 (.inr rfl) rfl rfl ?_
 exact ⟨_, rfl, by rw [hm0], by rw [if_pos hm0, ← loadN_end (n := n) (by omega) (by omega)]; exact hS5.pick [0, 1, 2, 3] rfl⟩
theorem jread_sp {w : World} {jp dp cp mb : Nat} {base : Int} {bad : Bool} {B : Int → Bytes} {F : Th} (hS : Sat w [blkT jp (jV dp base cp mb bad), mapT intK mb (jmG B), F]) (n : Int) :
    Calls Tryz.prog 11 #[ptrV jp 0, intV n] w (Ret fun v w' => v = strV (B n) ∧ Sat w' [blkT jp (jV dp base cp mb bad), mapT intK mb (jmG B), F]) := by
 refine calls_enter Tryz.func11 rfl Tryz.ntmps11 rfl ?_
 refine wc_seq (wc_region (wl_assign rfl rfl (wl_nil (qs_seq (wc_seq (wc_region (wl_move rfl rfl (wl_nilCheck rfl rfl ?_))))))))
 refine wl_fieldAddr rfl fo_73_3 rfl ?_
 refine wl_load rfl ag_71 (by first | assumption | exact hS.cell 0 rfl rfl) rfl ?_
 refine wl_move rfl rfl ?_
 refine wl_lookup 1 hS keysInt Tryz.underlying71 rfl rfl rfl zr_9 (jm_val B n) rfl ?_
 refine wl_assign rfl rfl (wl_nil (qs_seq (wc_ret ?_)))
 refine fin1 (.inr rfl) rfl rfl ?_
 exact ⟨_, rfl, rfl, hS⟩
set_option maxRecDepth 100000 in
theorem blocks_sp {w : World} {jp dp cp mb : Nat} {base : Int} {bad : Bool} {B : Int → Bytes} {F : Th} (hS : Sat w [blkT jp (jV dp base cp mb bad), mapT intK mb (jmG B), F]) (hr : Ran B) :
    Calls Tryz.prog 13 #[ptrV jp 0] w (Ret fun v w' => Sat w' [rowT jbC v (listB B), blkT jp (jV dp base cp mb bad), mapT intK mb (jmG B), F]) := by
 refine calls_enter Tryz.func13 rfl Tryz.ntmps13 rfl ?_
 refine wc_seq (wc_region (wl_assign rfl rfl (wl_nil (qs_seq (wc_seq (wc_region (wl_assign rfl rfl (wl_nil (qs_seq (wc_seq (wc_seq (wc_region (wl_move rfl rfl (wl_nilCheck rfl rfl ?_))))))))))))))
 refine wl_fieldAddr rfl fo_73_3 rfl ?_
 refine wl_load rfl ag_71 (by first | assumption | exact hS.cell 0 rfl rfl) rfl ?_
 have hC1 := hS.split [] [false, false, false] rfl; dsimp only [selF, pickA, nthA, List.cons_append, List.nil_append] at hC1
 refine wl_call cal_51 rfl (keysI_sp hC1 rfl) rfl ?_
 rintro e w1 ⟨_, rfl, c1, rfl, hS1⟩; refine ⟨_, rfl, ?_⟩
 replace hS1 := hS1.join rfl; dsimp only [List.dropLast, List.cons_append, List.nil_append] at hS1; clear hC1
 have hP := Sat.fold (As := [blkT _ [.map (some mb)], mapT intK mb (jmG B)]) (hS1.pick [0, 2, 1, 3] rfl)
 have hC9 := hP.split [0] [true, false, false] rfl; dsimp only [selF, pickA, nthA, List.cons_append, List.nil_append] at hC9
 refine wl_call cal_50 rfl (sortedI_sp hC9 cal_91 (itI _ _ _) (jm_few hr)) rfl ?_
 rintro e w9 ⟨sv, rfl, ks, hks, hS9⟩; refine ⟨_, rfl, ?_⟩
 replace hS9 := hS9.join rfl; dsimp only [List.dropLast, List.cons_append, List.nil_append] at hS9
 have hSa := (hS9.pull 1 rfl).flat; dsimp only [List.cons_append, List.nil_append, List.eraseIdx] at hSa
 clear hS1
 refine wl_lenO 2 hSa Tryz.underlying40 rfl rfl rfl ?_
 refine wl_move rfl rfl (wl_nil ?_)
 have hkl : (sortI ks).length ≤ 20000000 := by rw [sortI_len]; exact jm_few hr _ (Came.of_all hks)
 refine qs_seq ?_
 refine wc_sub (L' := [(13, _), (12, _), (11, _), (3, _), (2, _), (0, _)]) (.cons rfl (.cons rfl (.cons rfl (.cons rfl (.cons rfl (.cons rfl .nil)))))) ?_
 refine wc_block ?_
 have hSn := hSa.row_nil jbC
 refine wc_loop (fun K0 E0 W0 => ∃ (i : Nat) (ov : Value), K0 = (sortI ks).length - i ∧ E0 = [(0, ptrV jp 0), (3, ov), (11, sv), (12, intV ((sortI ks).length : Int)), (13, intV (i : Int))] ∧ Sat W0 [rowT jbC ov (((sortI ks).take i).map (fun n => (⟨n, B n⟩ : Blk))), rowT inC sv (sortI ks), blkT jp (jV dp base cp mb bad), mapT intK mb (jmG B), F] ∧ (i ≤ (sortI ks).length)) (L0 := [(0, _), (3, _), (11, _), (12, _), (13, _)]) ((sortI ks).length - 0) (.cons rfl (.cons rfl (.cons rfl (.cons rfl (.cons rfl .nil))))) ⟨0, _, rfl, rfl, hSn.pick [0, 3, 4, 2, 5] rfl, by omega⟩ ?_
 rintro _ _ w2 ⟨i, ov, rfl, rfl, hS2, hi⟩
 have h1ov : ov.oneCell' = true := hS2.own_one 0 rfl
 have hlt : (((sortI ks).take i).map (fun n => (⟨n, B n⟩ : Blk))).length ≤ (sortI ks).length := by rw [List.length_map, List.length_take]; omega
 refine wc_seq (wc_region ?_)
 refine wl_lss rfl rfl rfl ?_
 refine wl_nil (qs_seq (wc_seq ?_))
 refine wc_condD rfl (fun h3 => ?_) (fun h3 => ?_)
 ·obtain ⟨k, hk⟩ : ∃ k, (sortI ks)[i]? = some k := ⟨_, List.getElem?_eq_getElem (by omega)⟩
  refine wc_skip (qs_seq (wc_seq (wc_block (wc_seq (wc_region ?_)))))
  refine wl_rowIdx inC 1 i hS2 rfl rfl rfl (by first | rfl | omega) hk es_40 rfl ?_
  intro bx4 capx4 hvx4
  refine wl_rowLoad 1 i 0 hS2 rfl hvx4 rfl rfl hk ag_3 rfl rfl ?_
  refine wl_assign rfl rfl (wl_nil (qs_seq (wc_region (wl_move rfl rfl (wl_move rfl rfl (wl_move rfl rfl (wl_nilCheck rfl rfl ?_)))))))
  refine wl_fieldAddr rfl fo_73_3 rfl ?_
  refine wl_load rfl ag_71 (by first | assumption | exact hS2.cell 2 rfl rfl) rfl ?_
  refine wl_move rfl rfl ?_
  refine wl_lookup 3 hS2 keysInt Tryz.underlying71 rfl rfl rfl zr_9 (jm_val B k) rfl ?_
  refine wl_buildS rfl pl_34_0_1 asz_34 zr_34 rfl rfl ?_
  refine wl_rowBuild jbC [⟨k, B k⟩] hS2 rfl Tryz.underlying32 ifz_34 rfl rfl rfl rfl (by first | rfl | simp [RowC.cells, fillL, splice]) rfl ?_
  intro b5 w5 hS5
  clear hS2
  refine wl_rowApp jbC 1 hS5 rfl rfl rfl (hS5.rd 0 rfl (by simp)) Tryz.underlying32 Tryz.underlying32 (by intro k hk; cases hk) ifo_34 rfl (by simp only [List.length_cons, List.length_nil]; omega) rfl (by simp only [List.length_cons, List.length_nil]; omega) ?_
  intro v6 w6 hS6; dsimp only [List.set] at hS6
  clear hS5
  have h1v6 : v6.oneCell' = true := hS6.own_one 1 rfl
  refine wl_assign rfl rfl (wl_nil (qs_block_normal (qs_seq ?_)))
  refine wc_sub (L' := [(3, _), (0, _), (11, _), (12, _), (13, _)]) (.cons rfl (.cons rfl (.cons rfl (.cons rfl (.cons rfl .nil))))) ?_
  refine wc_region ?_
  refine wl_add rfl rfl (by omega) (by omega) rfl ?_
  refine wl_move rfl rfl (wl_nil ?_)
  exact qs_round (L1 := [(0, _), (3, _), (11, _), (12, _), (13, intV ((i + 1 : Nat) : Int))]) (.cons rfl (.cons rfl (.cons rfl (.cons rfl (.cons rfl .nil))))) (k1 := (sortI ks).length - (i + 1)) (by omega) ⟨i + 1, _, rfl, rfl, by rw [List.take_add_one, hk, List.map_append]; exact hS6.pick [1, 2, 3, 4, 5] rfl, by omega⟩
 refine wc_exit (qs_then_exit (qs_then_exit (qs_block_exit (qs_seq (wc_seq (wc_region (wl_move rfl rfl (wl_assign rfl rfl (wl_nil (qs_seq (wc_ret ?_)))))))))))
 refine fin1 (.inr rfl) rfl rfl ?_
 exact ⟨_, rfl, by rw [← sorted_listB hr hks]; have hq : (sortI ks).take i = sortI ks := List.take_of_length_le (by omega); rw [hq] at hS2; exact hS2.pick [0, 2, 3, 4] rfl⟩
end Go.Proofs.YtfmkodmmbgibgaaGreatDoor
