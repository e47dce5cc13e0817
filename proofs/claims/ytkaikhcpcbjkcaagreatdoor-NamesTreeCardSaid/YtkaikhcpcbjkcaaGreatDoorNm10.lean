/- laws of names: small -/
import Derived.Test.YtkaikhcpcbjkcaaGreatDoorNm8
import Derived.Test.YtkaikhcpcbjkcaaGreatDoorNm7
namespace Go.Proofs.YtkaikhcpcbjkcaaGreatDoor
open Go.RowKit M
set_option linter.unusedVariables false
theorem ded {P : Bs → Prop} : ∀ ks : List Bs, ∃ l : List Bs, l.Nodup ∧ l.length ≤ ks.length ∧ ∀ k, k ∈ l ↔ k ∈ ks ∧ P k
  | [] => ⟨[], List.nodup_nil, Nat.le_refl _, by simp⟩
  | a :: ks => by
    obtain ⟨l, h1, h2, h3⟩ := ded (P := P) ks
    by_cases hp : P a
    · by_cases hm : a ∈ l
      · refine ⟨l, h1, by simp; omega, fun k => ?_⟩
        rw [h3, List.mem_cons]
        constructor
        · rintro ⟨q1, q2⟩; exact ⟨.inr q1, q2⟩
        · rintro ⟨q1 | q1, q2⟩
          · subst q1; exact (h3 _).1 hm
          · exact ⟨q1, q2⟩
      · refine ⟨a :: l, List.nodup_cons.2 ⟨hm, h1⟩, by simp; exact h2, fun k => ?_⟩
        rw [List.mem_cons, h3, List.mem_cons]
        constructor
        · rintro (q | ⟨q1, q2⟩)
          · subst q; exact ⟨.inl rfl, hp⟩
          · exact ⟨.inr q1, q2⟩
        · rintro ⟨q1 | q1, q2⟩
          · exact .inl q1
          · exact .inr ⟨q1, q2⟩
    · refine ⟨l, h1, by simp; omega, fun k => ?_⟩
      rw [h3, List.mem_cons]
      constructor
      · rintro ⟨q1, q2⟩; exact ⟨.inr q1, q2⟩
      · rintro ⟨q1 | q1, q2⟩
        · subst q1; exact absurd q2 hp
        · exact ⟨q1, q2⟩
theorem PI.cnt {W : WS} {n : Nat} (h : PI W n) (pre : Bs) : ∃ c, CntOf W.cells pre c ∧ c ≤ n := by
  obtain ⟨ks, h1, h2⟩ := h.few
  obtain ⟨l, h3, h4, h5⟩ := ded (P := fun k => W.cells k ≠ [] ∧ Lib.hasPrefix k pre = true) ks
  refine ⟨l.length, ⟨l, rfl, h3, fun k => ?_⟩, by omega⟩
  rw [h5]
  exact ⟨fun q => q.2, fun q => ⟨h2 k q.1, q⟩⟩
theorem cntK_le {W : WS} {n : Nat} (h : PI W n) (pre : Bs) : cntK W pre ≤ n := by
  obtain ⟨c, h1, h2⟩ := h.cnt pre
  rw [cntK_eq h1]; exact h2
theorem cntK_pos {W : WS} {n : Nat} (h : PI W n) {pre k : Bs} (hk : W.cells k ≠ []) (hp : Lib.hasPrefix k pre = true) : 0 < cntK W pre := by
  obtain ⟨c, h1, _⟩ := h.cnt pre
  rw [cntK_eq h1]
  obtain ⟨l, rfl, _, h4⟩ := h1
  exact List.length_pos_of_mem ((h4 k).2 ⟨hk, hp⟩)
def bR : Bs := [114]
def bA : Bs := [97]
def bO : Bs := [49, 45, 49]
def bT : Bs := [49, 45, 50]
def bF : Bs := [102]
def oneI : InD := ⟨1, 0, 1⟩
theorem oneI_in : InB oneI := ⟨by unfold inI oneI; simp, by unfold inI oneI; simp, by unfold inI oneI; simp⟩
def sm1 : WS := initW emptyW
def sm2 : WS := putS (putS (setI sm1 bO mkdI) (kU bO) bR) (kE bR bA) bO
def sm3 : WS := setI sm2 bT filI
def sm4 : WS := setI (putS sm3 (kE bO bF) bT) bT oneI
theorem ino_of {W : WS} {id : Bs} {n : InD} (hn : InB n) (h : W.cells (kI id) = encI n) : inoW W id = some n := by unfold inoW; rw [h]; exact dec_enc hn
theorem ino_no {W : WS} {id : Bs} (h : W.cells (kI id) = []) : inoW W id = none := by unfold inoW; rw [h]; rfl
theorem look_of {W : WS} {dir name id : Bs} {n : InD} (hn : nameB name = true) (hd : inoW W dir = some mkdI) (hc : W.cells (kE dir name) = id) (hi : inoW W id = some n) (hid : id ≠ []) : lookV W dir name = ⟨id, n, true, 0⟩ := by
  have hd0 : dirE W dir = 0 := by unfold dirE bI gI'; rw [hd]; rfl
  unfold lookV
  rw [if_neg (by simp [hn]), if_neg (by simp [hd0]), hc]
  unfold gI' bI
  rw [hi]
  simp [hid]
theorem look_no {W : WS} {dir name : Bs} (hn : nameB name = true) (hd : inoW W dir = some mkdI) (hc : W.cells (kE dir name) = []) : (lookV W dir name).e = 0 ∧ (lookV W dir name).id = [] := by
  have hd0 : dirE W dir = 0 := by unfold dirE bI gI'; rw [hd]; rfl
  unfold lookV
  rw [if_neg (by simp [hn]), if_neg (by simp [hd0]), hc]
  exact ⟨rfl, rfl⟩
theorem s1r : inoW sm1 bR = some mkdI := ino_of mkdI_in (by simp [sm1, initW, setI, putS, updC, kI, kU, bR])
theorem s1o : inoW sm1 bO = none := ino_no (by simp [sm1, initW, setI, putS, updC, kI, kU, bO, emptyW])
theorem s1p : PI sm1 2 := initW_pi
theorem sm_mk : mkdE sm1 bR bA bO = 0 := by
  obtain ⟨h1, h2⟩ := look_no (W := sm1) (dir := bR) (name := bA) (by decide) s1r (by simp [sm1, initW, setI, putS, updC, kI, kU, kE, bR, bA, emptyW])
  unfold mkdE
  rw [if_neg (by simp [h1]), if_neg (by simp [h2]), if_neg (by decide), if_neg (by unfold bI; rw [s1o]; decide), if_neg]
  rintro (q | q)
  · unfold depF at q; rw [if_pos (by rfl)] at q; omega
  · have := cntK_le s1p [105, 47]; omega
theorem sm_mkW : mkdW sm1 bR bA bO = sm2 := by unfold mkdW; rw [if_pos sm_mk]; rfl
theorem s2p : PI sm2 5 := ((setI_pi s1p (by decide) mkdI_in).put (by decide) (by decide)).put (by decide) (by decide)
theorem s3p : PI sm3 6 := setI_pi s2p (by decide) filI_in
theorem s3o : inoW sm3 bO = some mkdI := ino_of mkdI_in (by simp [sm3, sm2, sm1, initW, setI, putS, updC, kI, kU, kE, bR, bA, bO, bT, emptyW])
theorem s3t : inoW sm3 bT = some filI := ino_of filI_in (by simp [sm3, sm2, sm1, initW, setI, putS, updC, kI, kU, kE, bR, bA, bO, bT, emptyW])
theorem sm_lk : linkE sm3 bO bF bT = 0 := by
  obtain ⟨h1, h2⟩ := look_no (W := sm3) (dir := bO) (name := bF) (by decide) s3o (by simp [sm3, sm2, sm1, initW, setI, putS, updC, kI, kU, kE, bR, bA, bO, bT, bF, emptyW])
  unfold linkE
  rw [if_neg (by simp [h1]), if_neg (by simp [h2]), if_neg (by unfold bI; rw [s3t]; decide), if_neg (by unfold gI'; rw [s3t]; decide)]
theorem sm_lkW : linkW sm3 bO bF bT = sm4 := by
  unfold linkW
  rw [if_pos sm_lk]
  have : lnk (gI' sm3 bT) 1 = oneI := by unfold gI'; rw [s3t]; show (⟨1, 0, IntKind.i64.wrap (0 + 1)⟩ : InD) = ⟨1, 0, 1⟩; rw [show IntKind.i64.wrap (0 + 1) = 1 by decide]
  rw [this]; rfl
theorem s4p : PI sm4 8 := setI_pi (s3p.put (by decide) (by decide)) (by decide) oneI_in
theorem s4r : inoW sm4 bR = some mkdI := ino_of mkdI_in (by simp [sm4, sm3, sm2, sm1, initW, setI, putS, updC, kI, kU, kE, bR, bA, bO, bT, bF, emptyW])
theorem s4o : inoW sm4 bO = some mkdI := ino_of mkdI_in (by simp [sm4, sm3, sm2, sm1, initW, setI, putS, updC, kI, kU, kE, bR, bA, bO, bT, bF, emptyW])
theorem s4t : inoW sm4 bT = some oneI := ino_of oneI_in (by simp [sm4, sm3, sm2, sm1, initW, setI, putS, updC, kI, kU, kE, bR, bA, bO, bT, bF, emptyW])
theorem s4a : sm4.cells (kE bR bA) = bO := by simp [sm4, sm3, sm2, sm1, initW, setI, putS, updC, kI, kU, kE, bR, bA, bO, bT, bF, emptyW]
theorem s4f : sm4.cells (kE bO bF) = bT := by simp [sm4, sm3, sm2, sm1, initW, setI, putS, updC, kI, kU, kE, bR, bA, bO, bT, bF, emptyW]
theorem s4u : sm4.cells (kU bO) = bR := by simp [sm4, sm3, sm2, sm1, initW, setI, putS, updC, kI, kU, kE, bR, bA, bO, bT, bF, emptyW]
theorem s4b : sm4.cells (kE bR [98]) = [] := by simp [sm4, sm3, sm2, sm1, initW, setI, putS, updC, kI, kU, kE, bR, bA, bO, bT, bF, emptyW]
theorem dir_of {W : WS} {id : Bs} (h : inoW W id = some mkdI) : dirE W id = 0 := by unfold dirE bI gI'; rw [h]; rfl
theorem step_of {W : WS} {id p x : Bs} (h : inoW W id = some mkdI) (h1 : p ≠ [46]) (h2 : p ≠ [46, 46]) (hn : nameB p = true) (hc : W.cells (kE id p) = x) (hx : x ≠ []) : stepV W id p = (x, 0) := by
  unfold stepV
  rw [if_neg (by simp [dir_of h]), if_neg h1, if_neg h2, if_neg (by simp [hn]), hc, if_pos hx]
theorem st_ra : stepV sm4 bR bA = (bO, 0) := step_of s4r (by decide) (by decide) (by decide) s4a (by decide)
theorem st_of : stepV sm4 bO bF = (bT, 0) := step_of s4o (by decide) (by decide) (by decide) s4f (by decide)
theorem st_od : stepV sm4 bO [46] = (bO, 0) := by unfold stepV; rw [if_neg (by simp [dir_of s4o]), if_pos rfl]
theorem st_ou : stepV sm4 bO [46, 46] = (bR, 0) := by unfold stepV; rw [if_neg (by simp [dir_of s4o]), if_neg (by decide), if_pos rfl, s4u]
theorem st_rb : stepV sm4 bR [98] = ([], 4) := by unfold stepV; rw [if_neg (by simp [dir_of s4r]), if_neg (by decide), if_neg (by decide), if_neg (by decide), s4b]; rfl
theorem st_tx : stepV sm4 bT [120] = ([], 14) := by
  have h : dirE sm4 bT = 14 := by unfold dirE bI gI'; rw [s4t]; rfl
  unfold stepV; rw [if_pos (by simp [h]), h]
theorem sm_r1 : resV sm4 bR [97, 47, 46, 47, 102] = (bT, 0) := by
  have e : partsL [97, 47, 46, 47, 102] = [bA, [46], bF] := by decide
  unfold resV
  rw [if_neg (by decide), e]
  show walkV sm4 bR _ = _
  rw [walkV, st_ra, if_neg (by decide), walkV, st_od, if_neg (by decide), walkV, st_of, if_neg (by decide), walkV]
theorem sm_r2 : resV sm4 bO [46, 46, 47, 97, 47, 47, 102] = (bT, 0) := by
  have e : partsL [46, 46, 47, 97, 47, 47, 102] = [[46, 46], bA, bF] := by decide
  unfold resV
  rw [if_neg (by decide), e]
  show walkV sm4 bO _ = _
  rw [walkV, st_ou, if_neg (by decide), walkV, st_ra, if_neg (by decide), walkV, st_of, if_neg (by decide), walkV]
theorem sm_r3 : resV sm4 bR [47, 98] = ([], 4) := by
  have e : partsL [47, 98] = [[98]] := by decide
  unfold resV
  rw [if_neg (by decide), e]
  show walkV sm4 bR _ = _
  rw [walkV, st_rb, if_pos (by decide)]
theorem sm_r4 : resV sm4 bR [97, 47, 102, 47, 120] = ([], 14) := by
  have e : partsL [97, 47, 102, 47, 120] = [bA, bF, [120]] := by decide
  unfold resV
  rw [if_neg (by decide), e]
  show walkV sm4 bR _ = _
  rw [walkV, st_ra, if_neg (by decide), walkV, st_of, if_neg (by decide), walkV, st_tx, if_pos (by decide)]
theorem sm_p1 : parV sm4 bR [97, 47, 120] = (bO, [120], 0) := by
  have e : partsL [97, 47, 120] = [bA, [120]] := by decide
  have e2 : walkP sm4 (begS bR [97, 47, 120]) [] [bA, [120]] = (bO, [120], 0) := by
    show walkP sm4 bR [] _ = _
    rw [walkP, if_neg (by decide), walkP, if_pos (by decide), st_ra, if_neg (by decide), walkP]
  unfold parV
  rw [if_neg (by decide), if_neg (by decide), e, e2, if_neg (by decide), if_neg (by simp [dir_of s4o])]
theorem sm_p2 : (parV sm4 bR [97, 47, 46, 46]).2.2 = 16 := by
  unfold parV
  rw [if_neg (by decide), if_pos (by decide)]
theorem sm_la : lookV sm4 bR bA = ⟨bO, mkdI, true, 0⟩ := look_of (by decide) s4r s4a s4o (by decide)
theorem sm_rm : rmdE sm4 bR bA = 15 := by
  unfold rmdE
  rw [sm_la, if_neg (by decide), if_neg (by decide)]
  unfold empE
  rw [if_neg (by decide), if_pos (cntK_pos s4p (k := kE bO bF) (by rw [s4f]; decide) (by decide))]
theorem sm_rmW : rmdW sm4 bR bA = sm4 := by unfold rmdW; rw [if_neg (by rw [sm_rm]; decide)]
theorem sm_ua : unlE sm4 bR bA = 13 := by
  unfold unlE
  rw [sm_la, if_neg (by decide), if_neg (by decide)]; rfl
theorem sm_uaW : unlW sm4 bR bA = sm4 := by unfold unlW; rw [if_neg (by rw [sm_ua]; decide)]
theorem sm_uf : unlE sm4 bO bF = 0 ∧ unlS sm4 bO bF = bT := by
  have h : lookV sm4 bO bF = ⟨bT, oneI, true, 0⟩ := look_of (by decide) s4o s4f s4t (by decide)
  have h0 : unlE sm4 bO bF = 0 := by
    unfold unlE
    rw [h, if_neg (by decide), if_neg (by decide), if_neg (by decide)]
  refine ⟨h0, ?_⟩
  unfold unlS
  rw [if_pos h0, h]
set_option maxRecDepth 100000 in
set_option maxHeartbeats 3200000 in
theorem small_sp {w : World} {F : Th} (hS : Sat w [F]) (hG : Ent F WireG) :
    Calls Tryz.prog 8 #[] w (Ret fun v w' => v = .bool true ∧ Sat w' [F]) := by
 refine calls_enter Tryz.func8 rfl Tryz.ntmps8 rfl ?_
 refine wc_seq (wc_region (wl_assign rfl rfl (wl_nil (qs_seq (wc_seq (wc_region ?_))))))
 have hC1 := hS.split [] [false] rfl; dsimp only [selF, pickA, nthA, List.cons_append, List.nil_append] at hC1
 refine wl_call cal_20 rfl (new_sp hC1) rfl ?_
 rintro e w1 ⟨_, rfl, p, rfl, hS1⟩; refine ⟨_, rfl, ?_⟩
 replace hS1 := hS1.join rfl; dsimp only [List.dropLast, List.cons_append, List.nil_append] at hS1; clear hC1
 refine wl_assign rfl rfl (wl_nil (qs_seq (wc_seq (wc_seq (wc_region (wl_move rfl rfl ?_))))))
 refine wl_eqlNil Tryz.underlying25 rfl rfl rfl ?_
 refine wl_nil (qs_seq ?_)
 refine wc_condF rfl ?_
 refine wc_skip (qs_seq (wc_seq (wc_region (wl_move rfl rfl ?_))))
 refine wl_makeIface nif_25 rfl rfl ?_
 have hC2 := hS1.split [0] [true, false] rfl; dsimp only [selF, pickA, nthA, List.cons_append, List.nil_append] at hC2
 refine wl_call cal_21 rfl (init_sp hC2 (hG.starL 0 rfl)) rfl ?_
 rintro e w2 ⟨_, rfl, rfl, hS2⟩; refine ⟨_, rfl, ?_⟩
 replace hS2 := hS2.join rfl; dsimp only [List.dropLast, List.cons_append, List.nil_append] at hS2; clear hC2
 clear hS1
 rw [show initW emptyW = sm1 from rfl] at hS2
 refine wl_nil (qs_seq (wc_seq (wc_region (wl_move rfl rfl ?_))))
 refine wl_makeIface nif_25 rfl rfl ?_
 have hC3 := hS2.split [0] [true, false] rfl; dsimp only [selF, pickA, nthA, List.cons_append, List.nil_append] at hC3
 refine wl_call cal_42 rfl (mkdir_sp hC3 (hG.starL 0 rfl) s1p (by decide) bR bA bO (by decide) (by decide) (by decide)) rfl ?_
 rintro e w3 ⟨_, rfl, rfl, hS3⟩; refine ⟨_, rfl, ?_⟩
 replace hS3 := hS3.join rfl; dsimp only [List.dropLast, List.cons_append, List.nil_append] at hS3; clear hC3
 clear hS2
 rw [sm_mkW] at hS3
 rw [sm_mk]
 refine wl_assign rfl rfl (wl_nil (qs_seq ?_))
 refine wc_sub (L' := [(2, _), (1, _), (0, _)]) (.cons rfl (.cons rfl (.cons rfl .nil))) ?_
 refine wc_seq (wc_region (wl_move rfl rfl ?_))
 refine wl_makeIface nif_25 rfl rfl ?_
 refine wl_buildX (vs' := [intV filI.k, intV filI.sz, intV filI.ln]) rfl pl_35_0 asz_35 zr_35 rfl rfl rfl ?_
 have hC4 := hS3.split [0] [true, false] rfl; dsimp only [selF, pickA, nthA, List.cons_append, List.nil_append] at hC4
 refine wl_call cal_43 rfl (setI_sp hC4 (hG.starL 0 rfl) bT (by decide) filI_in) rfl ?_
 rintro e w4 ⟨_, rfl, rfl, hS4⟩; refine ⟨_, rfl, ?_⟩
 replace hS4 := hS4.join rfl; dsimp only [List.dropLast, List.cons_append, List.nil_append] at hS4; clear hC4
 clear hS3
 rw [show setI sm2 bT filI = sm3 from rfl] at hS4
 refine wl_nil (qs_seq (wc_seq (wc_region (wl_move rfl rfl ?_))))
 refine wl_makeIface nif_25 rfl rfl ?_
 have hC5 := hS4.split [0] [true, false] rfl; dsimp only [selF, pickA, nthA, List.cons_append, List.nil_append] at hC5
 refine wl_call cal_44 rfl (link_sp hC5 (hG.starL 0 rfl) s3p (by decide) bO bF bT (by decide) (by decide) (by decide)) rfl ?_
 rintro e w5 ⟨_, rfl, rfl, hS5⟩; refine ⟨_, rfl, ?_⟩
 replace hS5 := hS5.join rfl; dsimp only [List.dropLast, List.cons_append, List.nil_append] at hS5; clear hC5
 clear hS4
 rw [sm_lkW] at hS5
 rw [sm_lk]
 refine wl_assign rfl rfl (wl_nil (qs_seq ?_))
 refine wc_sub (L' := [(3, _), (2, _), (1, _), (0, _)]) (.cons rfl (.cons rfl (.cons rfl (.cons rfl .nil)))) ?_
 refine wc_seq (wc_region (wl_move rfl rfl ?_))
 refine wl_makeIface nif_25 rfl rfl ?_
 have hC6 := hS5.split [0] [true, false] rfl; dsimp only [selF, pickA, nthA, List.cons_append, List.nil_append] at hC6
 refine wl_call cal_11 rfl (resolve_sp hC6 (hG.starL 0 rfl) s4p (by decide) bR [97, 47, 46, 47, 102] (by decide) (by decide)) rfl ?_
 rintro e w6 ⟨_, rfl, rfl, hS6⟩; refine ⟨_, rfl, ?_⟩
 replace hS6 := hS6.join rfl; dsimp only [List.dropLast, List.cons_append, List.nil_append] at hS6; clear hC6
 clear hS5
 rw [sm_r1]
 refine wl_move rfl rfl (wl_extract rfl rfl rfl (wl_extract rfl rfl rfl (wl_assign rfl rfl (wl_assign rfl rfl (wl_nil (qs_seq ?_))))))
 refine wc_sub (L' := [(5, _), (4, _), (3, _), (2, _), (1, _), (0, _)]) (.cons rfl (.cons rfl (.cons rfl (.cons rfl (.cons rfl (.cons rfl .nil)))))) ?_
 refine wc_seq (wc_region (wl_move rfl rfl ?_))
 refine wl_makeIface nif_25 rfl rfl ?_
 have hC7 := hS6.split [0] [true, false] rfl; dsimp only [selF, pickA, nthA, List.cons_append, List.nil_append] at hC7
 refine wl_call cal_11 rfl (resolve_sp hC7 (hG.starL 0 rfl) s4p (by decide) bO [46, 46, 47, 97, 47, 47, 102] (by decide) (by decide)) rfl ?_
 rintro e w7 ⟨_, rfl, rfl, hS7⟩; refine ⟨_, rfl, ?_⟩
 replace hS7 := hS7.join rfl; dsimp only [List.dropLast, List.cons_append, List.nil_append] at hS7; clear hC7
 clear hS6
 rw [sm_r2]
 refine wl_move rfl rfl (wl_extract rfl rfl rfl (wl_extract rfl rfl rfl (wl_assign rfl rfl (wl_assign rfl rfl (wl_nil (qs_seq ?_))))))
 refine wc_sub (L' := [(7, _), (6, _), (5, _), (4, _), (3, _), (2, _), (1, _), (0, _)]) (.cons rfl (.cons rfl (.cons rfl (.cons rfl (.cons rfl (.cons rfl (.cons rfl (.cons rfl .nil)))))))) ?_
 refine wc_seq (wc_region (wl_move rfl rfl ?_))
 refine wl_makeIface nif_25 rfl rfl ?_
 have hC8 := hS7.split [0] [true, false] rfl; dsimp only [selF, pickA, nthA, List.cons_append, List.nil_append] at hC8
 refine wl_call cal_11 rfl (resolve_sp hC8 (hG.starL 0 rfl) s4p (by decide) bR [47, 98] (by decide) (by decide)) rfl ?_
 rintro e w8 ⟨_, rfl, rfl, hS8⟩; refine ⟨_, rfl, ?_⟩
 replace hS8 := hS8.join rfl; dsimp only [List.dropLast, List.cons_append, List.nil_append] at hS8; clear hC8
 clear hS7
 rw [sm_r3]
 refine wl_move rfl rfl (wl_extract rfl rfl rfl (wl_extract rfl rfl rfl (wl_assign rfl rfl (wl_assign rfl rfl (wl_nil (qs_seq ?_))))))
 refine wc_sub (L' := [(9, _), (7, _), (6, _), (5, _), (4, _), (3, _), (2, _), (1, _), (0, _)]) (.cons rfl (.cons rfl (.cons rfl (.cons rfl (.cons rfl (.cons rfl (.cons rfl (.cons rfl (.cons rfl .nil))))))))) ?_
 refine wc_seq (wc_region (wl_move rfl rfl ?_))
 refine wl_makeIface nif_25 rfl rfl ?_
 have hC9 := hS8.split [0] [true, false] rfl; dsimp only [selF, pickA, nthA, List.cons_append, List.nil_append] at hC9
 refine wl_call cal_11 rfl (resolve_sp hC9 (hG.starL 0 rfl) s4p (by decide) bR [97, 47, 102, 47, 120] (by decide) (by decide)) rfl ?_
 rintro e w9 ⟨_, rfl, rfl, hS9⟩; refine ⟨_, rfl, ?_⟩
 replace hS9 := hS9.join rfl; dsimp only [List.dropLast, List.cons_append, List.nil_append] at hS9; clear hC9
 clear hS8
 rw [sm_r4]
 refine wl_move rfl rfl (wl_extract rfl rfl rfl (wl_extract rfl rfl rfl (wl_assign rfl rfl (wl_assign rfl rfl (wl_nil (qs_seq ?_))))))
 refine wc_sub (L' := [(11, _), (9, _), (7, _), (6, _), (5, _), (4, _), (3, _), (2, _), (1, _), (0, _)]) (.cons rfl (.cons rfl (.cons rfl (.cons rfl (.cons rfl (.cons rfl (.cons rfl (.cons rfl (.cons rfl (.cons rfl .nil)))))))))) ?_
 refine wc_seq (wc_region (wl_move rfl rfl ?_))
 refine wl_makeIface nif_25 rfl rfl ?_
 have hC10 := hS9.split [0] [true, false] rfl; dsimp only [selF, pickA, nthA, List.cons_append, List.nil_append] at hC10
 refine wl_call cal_12 rfl (parent_sp hC10 (hG.starL 0 rfl) s4p (by decide) bR [97, 47, 120] (by decide) (by decide)) rfl ?_
 rintro e w10 ⟨_, rfl, rfl, hS10⟩; refine ⟨_, rfl, ?_⟩
 replace hS10 := hS10.join rfl; dsimp only [List.dropLast, List.cons_append, List.nil_append] at hS10; clear hC10
 clear hS9
 rw [sm_p1]
 refine wl_move rfl rfl (wl_extract rfl rfl rfl (wl_extract rfl rfl rfl (wl_extract rfl rfl rfl (wl_assign rfl rfl (wl_assign rfl rfl (wl_assign rfl rfl (wl_nil (qs_seq ?_))))))))
 refine wc_sub (L' := [(14, _), (13, _), (12, _), (11, _), (9, _), (7, _), (6, _), (5, _), (4, _), (3, _), (2, _), (1, _), (0, _)]) (.cons rfl (.cons rfl (.cons rfl (.cons rfl (.cons rfl (.cons rfl (.cons rfl (.cons rfl (.cons rfl (.cons rfl (.cons rfl (.cons rfl (.cons rfl .nil))))))))))))) ?_
 refine wc_seq (wc_region (wl_move rfl rfl ?_))
 refine wl_makeIface nif_25 rfl rfl ?_
 have hC11 := hS10.split [0] [true, false] rfl; dsimp only [selF, pickA, nthA, List.cons_append, List.nil_append] at hC11
 refine wl_call cal_12 rfl (parent_sp hC11 (hG.starL 0 rfl) s4p (by decide) bR [97, 47, 46, 46] (by decide) (by decide)) rfl ?_
 rintro e w11 ⟨_, rfl, rfl, hS11⟩; refine ⟨_, rfl, ?_⟩
 replace hS11 := hS11.join rfl; dsimp only [List.dropLast, List.cons_append, List.nil_append] at hS11; clear hC11
 clear hS10
 rw [sm_p2]
 refine wl_move rfl rfl (wl_extract rfl rfl rfl (wl_extract rfl rfl rfl (wl_extract rfl rfl rfl (wl_assign rfl rfl (wl_assign rfl rfl (wl_assign rfl rfl (wl_nil (qs_seq ?_))))))))
 refine wc_sub (L' := [(17, _), (14, _), (13, _), (12, _), (11, _), (9, _), (7, _), (6, _), (5, _), (4, _), (3, _), (2, _), (1, _), (0, _)]) (.cons rfl (.cons rfl (.cons rfl (.cons rfl (.cons rfl (.cons rfl (.cons rfl (.cons rfl (.cons rfl (.cons rfl (.cons rfl (.cons rfl (.cons rfl (.cons rfl .nil)))))))))))))) ?_
 refine wc_seq (wc_region (wl_move rfl rfl ?_))
 refine wl_makeIface nif_25 rfl rfl ?_
 have hC12 := hS11.split [0] [true, false] rfl; dsimp only [selF, pickA, nthA, List.cons_append, List.nil_append] at hC12
 refine wl_call cal_45 rfl (rmdir_sp hC12 (hG.starL 0 rfl) s4p (by decide) bR bA (by decide) (by decide)) rfl ?_
 rintro e w12 ⟨_, rfl, rfl, hS12⟩; refine ⟨_, rfl, ?_⟩
 replace hS12 := hS12.join rfl; dsimp only [List.dropLast, List.cons_append, List.nil_append] at hS12; clear hC12
 clear hS11
 rw [sm_rmW] at hS12
 rw [sm_rm]
 refine wl_assign rfl rfl (wl_nil (qs_seq ?_))
 refine wc_sub (L' := [(18, _), (17, _), (14, _), (13, _), (12, _), (11, _), (9, _), (7, _), (6, _), (5, _), (4, _), (3, _), (2, _), (1, _), (0, _)]) (.cons rfl (.cons rfl (.cons rfl (.cons rfl (.cons rfl (.cons rfl (.cons rfl (.cons rfl (.cons rfl (.cons rfl (.cons rfl (.cons rfl (.cons rfl (.cons rfl (.cons rfl .nil))))))))))))))) ?_
 refine wc_seq (wc_region (wl_move rfl rfl ?_))
 refine wl_makeIface nif_25 rfl rfl ?_
 have hC13 := hS12.split [0] [true, false] rfl; dsimp only [selF, pickA, nthA, List.cons_append, List.nil_append] at hC13
 refine wl_call cal_46 rfl (unl_sp hC13 (hG.starL 0 rfl) s4p (by decide) bR bA (by decide) (by decide)) rfl ?_
 rintro e w13 ⟨_, rfl, rfl, hS13⟩; refine ⟨_, rfl, ?_⟩
 replace hS13 := hS13.join rfl; dsimp only [List.dropLast, List.cons_append, List.nil_append] at hS13; clear hC13
 clear hS12
 rw [sm_uaW] at hS13
 rw [sm_ua]
 refine wl_move rfl rfl (wl_extract rfl rfl rfl (wl_extract rfl rfl rfl (wl_assign rfl rfl (wl_assign rfl rfl (wl_nil (qs_seq ?_))))))
 refine wc_sub (L' := [(20, _), (18, _), (17, _), (14, _), (13, _), (12, _), (11, _), (9, _), (7, _), (6, _), (5, _), (4, _), (3, _), (2, _), (1, _), (0, _)]) (.cons rfl (.cons rfl (.cons rfl (.cons rfl (.cons rfl (.cons rfl (.cons rfl (.cons rfl (.cons rfl (.cons rfl (.cons rfl (.cons rfl (.cons rfl (.cons rfl (.cons rfl (.cons rfl .nil)))))))))))))))) ?_
 refine wc_seq (wc_region (wl_move rfl rfl ?_))
 refine wl_makeIface nif_25 rfl rfl ?_
 have hC14 := hS13.split [0] [true, false] rfl; dsimp only [selF, pickA, nthA, List.cons_append, List.nil_append] at hC14
 refine wl_call cal_46 rfl (unl_sp hC14 (hG.starL 0 rfl) s4p (by decide) bO bF (by decide) (by decide)) rfl ?_
 rintro e w14 ⟨_, rfl, rfl, hS14⟩; refine ⟨_, rfl, ?_⟩
 replace hS14 := hS14.join rfl; dsimp only [List.dropLast, List.cons_append, List.nil_append] at hS14; clear hC14
 clear hS13
 rw [sm_uf.1, sm_uf.2]
 refine wl_move rfl rfl (wl_extract rfl rfl rfl (wl_extract rfl rfl rfl (wl_assign rfl rfl (wl_assign rfl rfl (wl_nil (qs_seq ?_))))))
 refine wc_sub (L' := [(22, _), (21, _), (20, _), (18, _), (17, _), (14, _), (13, _), (12, _), (11, _), (9, _), (7, _), (6, _), (5, _), (4, _), (3, _), (2, _), (0, _)]) (.cons rfl (.cons rfl (.cons rfl (.cons rfl (.cons rfl (.cons rfl (.cons rfl (.cons rfl (.cons rfl (.cons rfl (.cons rfl (.cons rfl (.cons rfl (.cons rfl (.cons rfl (.cons rfl (.cons rfl .nil))))))))))))))))) ?_
 refine wc_seq (wc_region (wl_move rfl rfl ?_))
 refine wl_eql rfl rfl rfl ?_
 refine wl_move rfl rfl ?_
 refine wl_splitD 95 rfl (fun h15 => ?_) (fun h15 => ?_)
 ·refine wl_guard rfl rfl (decide_eq_true h15) ?_
  refine wl_move rfl rfl ?_
  refine wl_guard rfl rfl (decide_eq_true h15) ?_
  refine wl_eql rfl rfl rfl ?_
  refine wl_pickT rfl (decide_eq_true h15) rfl rfl ?_
  refine wl_move rfl rfl ?_
  refine wl_splitD 99 rfl (fun h16 => ?_) (fun h16 => ?_)
  ·refine wl_guard rfl rfl (decide_eq_true h16) ?_
   refine wl_move rfl rfl ?_
   refine wl_guard rfl rfl (decide_eq_true h16) ?_
   refine wl_eqlS rfl rfl rfl ?_
   refine wl_pickT rfl (decide_eq_true h16) rfl rfl ?_
   refine wl_move rfl rfl ?_
   refine wl_splitD 103 rfl (fun h17 => ?_) (fun h17 => ?_)
   ·refine wl_guard rfl rfl (decide_eq_true h17) ?_
    refine wl_move rfl rfl ?_
    refine wl_guard rfl rfl (decide_eq_true h17) ?_
    refine wl_eql rfl rfl rfl ?_
    refine wl_pickT rfl (decide_eq_true h17) rfl rfl ?_
    refine wl_move rfl rfl ?_
    refine wl_splitD 107 rfl (fun h18 => ?_) (fun h18 => ?_)
    ·refine wl_guard rfl rfl (decide_eq_true h18) ?_
     refine wl_move rfl rfl ?_
     refine wl_guard rfl rfl (decide_eq_true h18) ?_
     refine wl_eqlS rfl rfl rfl ?_
     refine wl_pickT rfl (decide_eq_true h18) rfl rfl ?_
     refine wl_move rfl rfl ?_
     refine wl_splitD 111 rfl (fun h19 => ?_) (fun h19 => ?_)
     ·refine wl_guard rfl rfl (decide_eq_true h19) ?_
      refine wl_move rfl rfl ?_
      refine wl_guard rfl rfl (decide_eq_true h19) ?_
      refine wl_eql rfl rfl rfl ?_
      refine wl_pickT rfl (decide_eq_true h19) rfl rfl ?_
      refine wl_move rfl rfl ?_
      refine wl_splitD 115 rfl (fun h20 => ?_) (fun h20 => ?_)
      ·refine wl_guard rfl rfl (decide_eq_true h20) ?_
       refine wl_move rfl rfl ?_
       refine wl_guard rfl rfl (decide_eq_true h20) ?_
       refine wl_eql rfl rfl rfl ?_
       refine wl_pickT rfl (decide_eq_true h20) rfl rfl ?_
       refine wl_move rfl rfl ?_
       refine wl_splitD 119 rfl (fun h21 => ?_) (fun h21 => ?_)
       ·refine wl_guard rfl rfl (decide_eq_true h21) ?_
        refine wl_move rfl rfl ?_
        refine wl_guard rfl rfl (decide_eq_true h21) ?_
        refine wl_eql rfl rfl rfl ?_
        refine wl_pickT rfl (decide_eq_true h21) rfl rfl ?_
        refine wl_assign rfl rfl (wl_nil (qs_seq ?_))
        refine wc_sub (L' := [(23, _), (22, _), (21, _), (20, _), (18, _), (17, _), (14, _), (13, _), (12, _), (0, _)]) (.cons rfl (.cons rfl (.cons rfl (.cons rfl (.cons rfl (.cons rfl (.cons rfl (.cons rfl (.cons rfl (.cons rfl .nil)))))))))) ?_
        refine wc_seq (wc_region (wl_move rfl rfl (wl_move rfl rfl ?_)))
        refine wl_splitD 124 rfl (fun h22 => ?_) (fun h22 => ?_)
        ·refine wl_guard rfl rfl (decide_eq_true h22) ?_
         refine wl_move rfl rfl ?_
         refine wl_guard rfl rfl (decide_eq_true h22) ?_
         refine wl_eqlS rfl rfl rfl ?_
         refine wl_pickT rfl (decide_eq_true h22) rfl rfl ?_
         refine wl_move rfl rfl ?_
         refine wl_splitD 128 rfl (fun h23 => ?_) (fun h23 => ?_)
         ·refine wl_guard rfl rfl (decide_eq_true h23) ?_
          refine wl_move rfl rfl ?_
          refine wl_guard rfl rfl (decide_eq_true h23) ?_
          refine wl_eqlS rfl rfl rfl ?_
          refine wl_pickT rfl (decide_eq_true h23) rfl rfl ?_
          refine wl_move rfl rfl ?_
          refine wl_splitD 132 rfl (fun h24 => ?_) (fun h24 => ?_)
          ·refine wl_guard rfl rfl (decide_eq_true h24) ?_
           refine wl_move rfl rfl ?_
           refine wl_guard rfl rfl (decide_eq_true h24) ?_
           refine wl_eql rfl rfl rfl ?_
           refine wl_pickT rfl (decide_eq_true h24) rfl rfl ?_
           refine wl_move rfl rfl ?_
           refine wl_splitD 136 rfl (fun h25 => ?_) (fun h25 => ?_)
           ·refine wl_guard rfl rfl (decide_eq_true h25) ?_
            refine wl_move rfl rfl ?_
            refine wl_guard rfl rfl (decide_eq_true h25) ?_
            refine wl_eql rfl rfl rfl ?_
            refine wl_pickT rfl (decide_eq_true h25) rfl rfl ?_
            refine wl_move rfl rfl ?_
            refine wl_splitD 140 rfl (fun h26 => ?_) (fun h26 => ?_)
            ·refine wl_guard rfl rfl (decide_eq_true h26) ?_
             refine wl_move rfl rfl ?_
             refine wl_guard rfl rfl (decide_eq_true h26) ?_
             refine wl_eql rfl rfl rfl ?_
             refine wl_pickT rfl (decide_eq_true h26) rfl rfl ?_
             refine wl_move rfl rfl ?_
             refine wl_splitD 144 rfl (fun h27 => ?_) (fun h27 => ?_)
             ·refine wl_guard rfl rfl (decide_eq_true h27) ?_
              refine wl_move rfl rfl ?_
              refine wl_guard rfl rfl (decide_eq_true h27) ?_
              refine wl_eql rfl rfl rfl ?_
              refine wl_pickT rfl (decide_eq_true h27) rfl rfl ?_
              refine wl_move rfl rfl ?_
              refine wl_splitD 148 rfl (fun h28 => ?_) (fun h28 => ?_)
              ·refine wl_guard rfl rfl (decide_eq_true h28) ?_
               refine wl_move rfl rfl ?_
               refine wl_guard rfl rfl (decide_eq_true h28) ?_
               refine wl_eqlS rfl rfl rfl ?_
               refine wl_pickT rfl (decide_eq_true h28) rfl rfl ?_
               refine wl_move rfl rfl ?_
               refine wl_splitD 152 rfl (fun h29 => ?_) (fun h29 => ?_)
               ·refine wl_guard rfl rfl (decide_eq_true h29) ?_
                refine wl_move rfl rfl ?_
                refine wl_guard rfl rfl (decide_eq_true h29) ?_
                refine wl_eql rfl rfl rfl ?_
                refine wl_pickT rfl (decide_eq_true h29) rfl rfl ?_
                refine wl_assign rfl rfl (wl_nil (qs_seq ?_))
                refine wc_sub (L' := [(0, _)]) (.cons rfl .nil) ?_
                refine wc_ret ?_
                refine fin1 (.inr rfl) rfl rfl ?_
                exact ⟨_, rfl, by first | rfl | simp, hS14.pick [1] rfl⟩
               exact absurd rfl h29
              exact absurd rfl h28
             exact absurd rfl h27
            exact absurd rfl h26
           exact absurd rfl h25
          exact absurd rfl h24
         exact absurd rfl h23
        exact absurd rfl h22
       exact absurd rfl h21
      exact absurd rfl h20
     exact absurd rfl h19
    exact absurd rfl h18
   exact absurd rfl h17
  exact absurd rfl h16
 exact absurd rfl h15
end Go.Proofs.YtkaikhcpcbjkcaaGreatDoor
/- laws of names: NamesPaths -/
namespace Go.Proofs.YtkaikhcpcbjkcaaGreatDoor
open Go.RowKit M
set_option linter.unusedVariables false
theorem partsL_one {n : Bs} (h1 : n ≠ []) (h2 : (47 : UInt8) ∉ n) : partsL n = [n] := by
  unfold partsL
  rw [splitB_one h2]
  simp [h1]
theorem begE_ok {p : Bs} (h : p ≠ []) (hl : p.length ≤ 64) : begE p = 0 := by unfold begE; rw [if_neg (by omega), if_neg h]
theorem begS_rel {cwd q : Bs} (hl : q.length ≤ 64) (hq : q ≠ []) (h0 : q[0]? ≠ some 47) : begS cwd q = cwd := by
  unfold begS
  rw [if_neg (by omega)]
  cases q with
  | nil => exact absurd rfl hq
  | cons c r =>
    dsimp only
    rw [if_neg]
    intro e
    exact h0 (by simp [e])
theorem res_eq {W : WS} {cwd p : Bs} (h : p ≠ []) (hl : p.length ≤ 64) : resV W cwd p = walkV W (begS cwd p) (partsL p) := by
  unfold resV
  rw [if_neg (by simp [begE_ok h hl])]
theorem paths_rel {W : WS} {cwd q : Bs} (hl : q.length ≤ 64) (hq : q ≠ []) (h0 : q[0]? ≠ some 47) : resV W cwd q = walkV W cwd (partsL q) := by
  rw [res_eq hq hl, begS_rel hl hq h0]
theorem nameB_is {n : Bs} (h : nameB n = true) : n ≠ [] ∧ n.length ≤ 14 ∧ (47 : UInt8) ∉ n := by
  unfold nameB at h
  simp only [Bool.and_eq_true, Bool.not_eq_true', decide_eq_true_eq, decide_eq_false_iff_not] at h
  exact ⟨h.1.1.1.1, h.1.1.1.2, h.2⟩
end Go.Proofs.YtkaikhcpcbjkcaaGreatDoor
/- world: maps.Equal -/
namespace Go.Proofs.YtkaikhcpcbjkcaaGreatDoor
open Go.RowKit M
set_option linter.unusedVariables false
end Go.Proofs.YtkaikhcpcbjkcaaGreatDoor
/- world: Same -/
namespace Go.Proofs.YtkaikhcpcbjkcaaGreatDoor
open Go.RowKit M
set_option linter.unusedVariables false
end Go.Proofs.YtkaikhcpcbjkcaaGreatDoor
/- laws of names: NamesRename -/
namespace Go.Proofs.YtkaikhcpcbjkcaaGreatDoor
open Go.RowKit M
set_option linter.unusedVariables false
theorem kE_inj {a b x y : Bs} (hx : (47 : UInt8) ∉ x) (hy : (47 : UInt8) ∉ y) (h : kE a x = kE b y) : a = b ∧ x = y := by
  have h1 : a ++ ([47] ++ x) = b ++ ([47] ++ y) := by unfold kE at h; simpa using h
  have key : ∀ (a b : Bs), a ++ ([47] ++ x) = b ++ ([47] ++ y) → a.length = b.length := by
    intro a b h
    rcases Nat.lt_trichotomy a.length b.length with q | q | q
    · exfalso
      obtain ⟨c, hc⟩ : ∃ c, b = a ++ c := by
        have h5 := congrArg (List.take a.length) h
        rw [List.take_left' rfl, List.take_append_of_le_length (by omega)] at h5
        exact ⟨b.drop a.length, ((congrArg (· ++ b.drop a.length) h5).trans (List.take_append_drop a.length b)).symm⟩
      subst hc
      have h2 : [47] ++ x = c ++ ([47] ++ y) := by simpa using h
      cases c with
      | nil => simp at q
      | cons d c =>
        have h3 : x = c ++ ([47] ++ y) := by simp at h2; simpa using h2.2
        exact hx (by rw [h3]; simp)
    · exact q
    · exfalso
      obtain ⟨c, hc⟩ : ∃ c, a = b ++ c := by
        have h5 := congrArg (List.take b.length) h.symm
        rw [List.take_left' rfl, List.take_append_of_le_length (by omega)] at h5
        exact ⟨a.drop b.length, ((congrArg (· ++ a.drop b.length) h5).trans (List.take_append_drop b.length a)).symm⟩
      subst hc
      have h2 : [47] ++ y = c ++ ([47] ++ x) := by simpa using h.symm
      cases c with
      | nil => simp at q
      | cons d c =>
        have h3 : y = c ++ ([47] ++ x) := by simp at h2; simpa using h2.2
        exact hy (by rw [h3]; simp)
  have h2 := List.append_inj h1 (key a b h1)
  refine ⟨h2.1, ?_⟩
  have := h2.2
  simpa using this
theorem res_name {W : WS} {dir n : Bs} (h : nameB n = true) : resV W dir n = if (stepV W dir n).2 ≠ 0 then ([], (stepV W dir n).2) else ((stepV W dir n).1, 0) := by
  obtain ⟨n1, n2, n3⟩ := nameB_is h
  rw [paths_rel (by omega) n1 (fun q => n3 (List.mem_of_getElem? q)), partsL_one n1 n3, walkV, walkV]
theorem name_dots {n : Bs} (h : nameB n = true) : n ≠ [46] ∧ n ≠ [46, 46] := by
  unfold nameB at h
  simp only [Bool.and_eq_true, Bool.not_eq_true', decide_eq_true_eq, decide_eq_false_iff_not] at h
  exact ⟨h.1.1.2, h.1.2⟩
theorem res_dir {W : WS} {dir n : Bs} (h : nameB n = true) (hd : dirE W dir = 0) : resV W dir n = if W.cells (kE dir n) ≠ [] then (W.cells (kE dir n), 0) else ([], 4) := by
  have hs : stepV W dir n = if W.cells (kE dir n) ≠ [] then (W.cells (kE dir n), 0) else ([], 4) := by
    unfold stepV
    rw [if_neg (by simp [hd]), if_neg (name_dots h).1, if_neg (name_dots h).2, if_neg (by simp [h])]
  rw [res_name h, hs]
  by_cases q : W.cells (kE dir n) ≠ []
  · rw [if_pos q]; rfl
  · rw [if_neg q]; rfl
theorem look_of0 {W : WS} {dir n : Bs} (h : (lookV W dir n).e = 0) : nameB n = true ∧ dirE W dir = 0 ∧ lookV W dir n = ⟨W.cells (kE dir n), gI' W (W.cells (kE dir n)), bI W (W.cells (kE dir n)) && decide (W.cells (kE dir n) ≠ []), 0⟩ := by
  unfold lookV at h ⊢
  split at h
  · exact absurd h (by decide)
  · rename_i q
    rw [if_neg q]
    split at h
    · rename_i q2; exact absurd h q2
    · rename_i q2
      rw [if_neg q2]
      exact ⟨by simpa using q, Decidable.not_not.1 q2, rfl⟩
theorem dir_k {W : WS} {d : Bs} (h : dirE W d = 0) : bI W d = true ∧ (gI' W d).k = 2 := by
  unfold dirE at h
  split at h
  · exact absurd h (by decide)
  · rename_i q
    split at h
    · exact absurd h (by decide)
    · rename_i q2; exact ⟨by simpa using q, Decidable.not_not.1 q2⟩
theorem put_ne {V : WS} {k v j : Bs} (h : j ≠ k) : (putS V k v).cells j = V.cells j := by simp only [putS, updC]; rw [if_neg h]
theorem put_self {V : WS} {k v : Bs} : (putS V k v).cells k = v := by simp [putS, updC]
theorem kI_inj {a b : Bs} (h : kI a = kI b) : a = b := by unfold kI at h; simpa using h
theorem kI_kE {a b c : Bs} : kI a ≠ kE b c := by unfold kI kE; simp
theorem kI_kU {a b : Bs} : kI a ≠ kU b := by unfold kI kU; simp
theorem kU_kE {a b c : Bs} : kU a ≠ kE b c := by unfold kU kE; simp
structure RenS (W W' : WS) (x : AcD) : Prop where
  e1 : (resV W' x.td x.to).2 = 0
  e2 : (resV W' x.td x.to).1 = (resV W x.dir x.name).1
  e3 : decide ((resV W' x.dir x.name).2 = 4) = decide ((resV W x.dir x.name).1 ≠ (resV W x.td x.to).1)
  e4 : ∀ k, Lib.hasPrefix k [100, 47] = true → k ≠ kE x.dir x.name → k ≠ kE x.td x.to → W'.cells k = W.cells k
theorem pre_no {a : Bs} {c : UInt8} (hc : c ≠ 100) : Lib.hasPrefix ([c, 47] ++ a) [100, 47] = true → False := by
  intro h
  simp [Lib.hasPrefix] at h
  exact hc h.symm
end Go.Proofs.YtkaikhcpcbjkcaaGreatDoor
/- names: List -/
namespace Go.Proofs.YtkaikhcpcbjkcaaGreatDoor
open Go.RowKit M
set_option linter.unusedVariables false
theorem hpi0 {w : World} {As : List Th} (hS : Sat w As) (s t : Bs) : Calls Tryz.prog 93 #[strV s, strV t] w (Ret fun v w' => v = .bool (Lib.hasPrefix s t) ∧ Sat w' As) :=
  (Tryz.stringslite_HasPrefix ⟨s.toArray⟩ ⟨t.toArray⟩ w).mono fun e w' ⟨h1, h2⟩ => ⟨_, h1, rfl, by rw [h2]; exact hS⟩
theorem hasPrefix_len {s t : Bs} (h : Lib.hasPrefix s t = true) : t.length ≤ s.length := by
  unfold Lib.hasPrefix at h
  exact (List.isPrefixOf_iff_prefix.1 h).length_le
theorem keysOf_has {c : Bs → Bs} {pre : Bs} {l : List Bs} {k : Bs} (h : KeysOf c pre l) (hk : k ∈ l) : c k ≠ [] ∧ Lib.hasPrefix k pre = true := by
  obtain ⟨l0, rfl, _, hm⟩ := h
  exact (hm k).1 ((sortS_perm l0).mem_iff.1 hk)
def offK (dir : Bs) (k : Bs) : Bs := k.drop (kE dir []).length
theorem trimI_sp {w : World} {F : Th} (hS : Sat w [F]) (s t : Bs) (hp : Lib.hasPrefix s t = true) :
    Calls Tryz.prog 100 #[strV s, strV t] w (Ret fun v w' => v = strV (s.drop t.length) ∧ Sat w' [F]) := by
 have htl := hasPrefix_len hp
 refine calls_enter Tryz.func100 rfl Tryz.ntmps100 rfl ?_
 refine wc_seq (wc_region (wl_assign rfl rfl (wl_nil (qs_seq (wc_seq (wc_seq (wc_region (wl_move rfl rfl (wl_move rfl rfl ?_)))))))))
 have hC1 := hS.split [] [false] rfl; dsimp only [selF, pickA, nthA, List.cons_append, List.nil_append] at hC1
 refine wl_call cal_93 rfl (hpi0 hC1 s t) rfl ?_
 rintro e w1 ⟨_, rfl, rfl, hS1⟩; refine ⟨_, rfl, ?_⟩
 replace hS1 := hS1.join rfl; dsimp only [List.dropLast, List.cons_append, List.nil_append] at hS1; clear hC1
 rw [hp]
 refine wl_nil (qs_seq ?_)
 refine wc_cond rfl (fun h2 => ?_) (fun h2 => ?_)
 ·refine wc_seq (wc_region (wl_move rfl rfl (wl_move rfl rfl ?_)))
  refine wl_lenS Tryz.underlying9 rfl rfl ?_
  refine wl_sliceS t.length s.length Tryz.underlying9 rfl (bndS t.length _ rfl rfl) (bndN _) (by first | omega | (simp; omega)) (by first | omega | (simp; omega)) rfl ?_
  rw [List.take_length]
  refine wl_assign rfl rfl (wl_nil (qs_seq (wc_ret (qs_then_ret ?_))))
  refine fin1 (.inr rfl) rfl rfl ?_
  exact ⟨_, rfl, rfl, hS1⟩
 exact absurd h2 (by simp)
theorem trim_sp {w : World} {F : Th} (hS : Sat w [F]) (s t : Bs) (hp : Lib.hasPrefix s t = true) :
    Calls Tryz.prog 71 #[strV s, strV t] w (Ret fun v w' => v = strV (s.drop t.length) ∧ Sat w' [F]) := by
 refine calls_enter Tryz.func71 rfl Tryz.ntmps71 rfl ?_
 refine wc_seq (wc_region (wl_assign rfl rfl (wl_nil (qs_seq (wc_seq (wc_region (wl_move rfl rfl (wl_move rfl rfl ?_))))))))
 have hC1 := hS.split [] [false] rfl; dsimp only [selF, pickA, nthA, List.cons_append, List.nil_append] at hC1
 refine wl_call cal_100 rfl (trimI_sp hC1 s t hp) rfl ?_
 rintro e w1 ⟨_, rfl, rfl, hS1⟩; refine ⟨_, rfl, ?_⟩
 replace hS1 := hS1.join rfl; dsimp only [List.dropLast, List.cons_append, List.nil_append] at hS1; clear hC1
 refine wl_assign rfl rfl (wl_nil (qs_seq (wc_ret ?_)))
 refine fin1 (.inr rfl) rfl rfl ?_
 exact ⟨_, rfl, rfl, hS1⟩
set_option maxRecDepth 100000 in
theorem list_sp {w : World} {p : Nat} {W : WS} {m : Nat} {F : Th} (hS : Sat w [worldT p W, F]) (hG : Ent F WireG) (hP : PI W m) (hm : m ≤ 900) (dir : Bs) (hd : dir.length ≤ 900) :
    Calls Tryz.prog 28 #[.iface 25 (ptrV p 0), strV dir] w (Ret fun v w' => ∃ sv L, v = .tuple #[sv, intV (dirE W dir)] ∧ ((dirE W dir ≠ 0 ∧ L = []) ∨ (dirE W dir = 0 ∧ ∃ lk, KeysOf W.cells (kE dir []) lk ∧ L = lk.map (offK dir))) ∧ Sat w' [rowT stC sv L, worldT p W, F]) := by
 refine calls_enter Tryz.func28 rfl Tryz.ntmps28 rfl ?_
 refine wc_seq (wc_region (wl_assign rfl rfl (wl_assign rfl rfl (wl_nil (qs_seq (wc_seq (wc_seq (wc_region (wl_move rfl rfl (wl_move rfl rfl ?_))))))))))
 have hC1 := hS.split [0] [true, false] rfl; dsimp only [selF, pickA, nthA, List.cons_append, List.nil_append] at hC1
 refine wl_call cal_52 rfl (dir_sp hC1 (hG.starL 0 rfl) hP.tb dir (by omega)) rfl ?_
 rintro e w1 ⟨_, rfl, rfl, hS1⟩; refine ⟨_, rfl, ?_⟩
 replace hS1 := hS1.join rfl; dsimp only [List.dropLast, List.cons_append, List.nil_append] at hS1; clear hC1
 refine wl_assign rfl rfl (wl_nil (qs_seq (wc_seq (wc_region (wl_move rfl rfl ?_)))))
 refine wl_neq rfl rfl rfl ?_
 refine wl_nil (qs_seq ?_)
 refine wc_condD rfl (fun h2 => ?_) (fun h2 => ?_)
 ·refine wc_seq (wc_region (wl_move rfl rfl (wl_assign rfl rfl (wl_assign rfl rfl (wl_nil (qs_seq ?_))))))
  refine wc_sub (L' := [(5, _), (4, _), (0, _), (1, _)]) (.cons rfl (.cons rfl (.cons rfl (.cons rfl .nil)))) ?_
  refine wc_ret (qs_then_ret ?_)
  refine fin2 (.inr rfl) rfl rfl rfl ?_
  exact ⟨_, rfl, _, _, rfl, .inl ⟨by assumption, rfl⟩, (hS1.pick [0, 1] rfl).row_nil stC⟩
 refine wc_skip (qs_seq (wc_seq (wc_region (wl_assign rfl rfl (wl_nil (qs_seq ?_))))))
 refine wc_sub (L' := [(7, _), (5, _), (4, _), (0, _), (1, _)]) (.cons rfl (.cons rfl (.cons rfl (.cons rfl (.cons rfl .nil))))) ?_
 refine wc_seq (wc_seq ?_)
 have hS3 := hS1.drew
 refine wc_draw [0, 1, 3, 4, 5, 8, 2, 6, 7] [2, 6] mix (by kernel_rfl) ?_
 refine vc_p rfl rfl rfl (fun _ => (ev_move rfl)) ?_
 refine vc_p rfl rfl rfl (fun _ => (ev_move rfl)) ?_
 refine vc_p rfl rfl rfl (fun _ => (ev_makeMeth rfl)) ?_
 refine vc_p rfl rfl rfl (fun _ => (ev_nilCheckMeth rfl (mnil_Keys p))) ?_
 refine vc_p rfl rfl rfl (fun _ => (ev_move rfl)) ?_
 refine vc_p rfl rfl rfl (fun _ => (ev_move rfl)) ?_
 refine vc_s rfl rfl rfl rfl rfl rfl ?_
 have hC4 := hS3.split [] [false, false] rfl; dsimp only [selF, pickA, nthA, List.cons_append, List.nil_append] at hC4
 refine wl_call cal_70 rfl (entry_sp hC4 dir [] (by omega) (by simp)) rfl ?_
 rintro e w4 ⟨_, rfl, rfl, hS4⟩; refine ⟨_, rfl, ?_⟩
 replace hS4 := hS4.join rfl; dsimp only [List.dropLast, List.cons_append, List.nil_append] at hS4; clear hC4
 clear hS3
 refine vc_e .nil ?_
 refine vc_s rfl rfl rfl rfl rfl rfl ?_
 have hC5 := hS4.split [0] [true, false] rfl; dsimp only [selF, pickA, nthA, List.cons_append, List.nil_append] at hC5
 refine wl_invoke (vs := [strV (kE dir [])]) rfl (imeth_Keys p) cal_17 rfl (keys_sp hC5 (kE dir []) (hP.kin (by omega))) rfl ?_
 rintro e w5 ⟨_, rfl, lk, hlk, hS5⟩; refine ⟨_, rfl, ?_⟩
 replace hS5 := hS5.join rfl; dsimp only [List.dropLast, List.cons_append, List.nil_append] at hS5; clear hC5
 clear hS4
 have hkn := cntK_le hP (kE dir []); rw [cntK_eq (CntOf.keys hlk)] at hkn
 obtain ⟨ka, kc, hkv, _⟩ := hS5.own_shape 0 rfl
 obtain rfl := hkv
 refine vc_e .nil ?_
 refine vc_p rfl rfl rfl (fun _ => (ev_lenL Tryz.underlying40 rfl)) ?_
 refine VC.nil (qs_seq ?_)
 refine wc_sub (L' := [(23, _), (22, _), (24, _), (7, _), (5, _), (4, _), (1, _)]) (.cons rfl (.cons rfl (.cons rfl (.cons rfl (.cons rfl (.cons rfl (.cons rfl .nil))))))) ?_
 refine wc_block ?_
 have hq0 := (hS5.pick [0, 1, 2] rfl).row_nil stC
 refine wc_loop (fun K0 E0 W0 => ∃ (i : Nat) (ov : Value), K0 = lk.length - i ∧ E0 = [(1, strV dir), (7, ov), (22, .slice ka lk.length kc), (23, intV (lk.length : Int)), (24, intV (i : Int))] ∧ Sat W0 [rowT stC ov ((lk.take i).map (offK dir)), rowT stC (.slice ka lk.length kc) lk, worldT p W, F] ∧ (i ≤ lk.length)) (L0 := [(1, _), (7, _), (22, _), (23, _), (24, _)]) (lk.length - 0) (.cons rfl (.cons rfl (.cons rfl (.cons rfl (.cons rfl .nil))))) ⟨0, _, rfl, rfl, hq0, by omega⟩ ?_
 rintro _ _ w6 ⟨i, ov, rfl, rfl, hS6, hi⟩
 refine wc_seq (wc_region ?_)
 refine wl_lss rfl rfl rfl ?_
 refine wl_nil (qs_seq (wc_seq ?_))
 refine wc_condD rfl (fun h7 => ?_) (fun h7 => ?_)
 ·obtain ⟨ky, hky⟩ : ∃ y, lk[i]? = some y := ⟨_, List.getElem?_eq_getElem (by omega)⟩
  obtain ⟨kb, kc9, hqk, _⟩ := hS6.own_at 1 rfl (by omega)
  cases hqk
  have hkp := (keysOf_has hlk (List.mem_of_getElem? hky)).2
  refine wc_skip (qs_seq (wc_seq (wc_block (wc_seq (wc_region ?_)))))
  refine wl_rowIdx stC 1 i hS6 rfl rfl rfl (by first | rfl | omega) hky es_40 rfl ?_
  intro bx8 capx8 hvx8
  refine wl_rowLoad 1 i 0 hS6 rfl hvx8 rfl rfl hky ag_9 rfl rfl ?_
  refine wl_assign rfl rfl (wl_nil (qs_seq (wc_region (wl_move rfl rfl (wl_move rfl rfl (wl_move rfl rfl ?_))))))
  have hC9 := hS6.split [] [false, false, false, false] rfl; dsimp only [selF, pickA, nthA, List.cons_append, List.nil_append] at hC9
  refine wl_call cal_70 rfl (entry_sp hC9 dir [] (by omega) (by simp)) rfl ?_
  rintro e w9 ⟨_, rfl, rfl, hS9⟩; refine ⟨_, rfl, ?_⟩
  replace hS9 := hS9.join rfl; dsimp only [List.dropLast, List.cons_append, List.nil_append] at hS9; clear hC9
  clear hS6
  have hC10 := hS9.split [] [false, false, false, false] rfl; dsimp only [selF, pickA, nthA, List.cons_append, List.nil_append] at hC10
  refine wl_call cal_71 rfl (trim_sp hC10 ky (kE dir []) hkp) rfl ?_
  rintro e w10 ⟨_, rfl, rfl, hS10⟩; refine ⟨_, rfl, ?_⟩
  replace hS10 := hS10.join rfl; dsimp only [List.dropLast, List.cons_append, List.nil_append] at hS10; clear hC10
  clear hS9
  refine wl_rowBuild stC [offK dir ky] hS10 rfl Tryz.underlying40 ifz_9 rfl rfl rfl rfl (by first | rfl | simp [RowC.cells, fillL, splice]) rfl ?_
  intro bbk w11 hS11
  clear hS10
  refine wl_rowApp stC 1 hS11 rfl rfl rfl (hS11.rd 0 rfl (by simp)) Tryz.underlying40 Tryz.underlying40 (by intro k hk; cases hk) ifo_9 rfl (by first | omega | (rw [List.length_map, List.length_take]; simp; omega)) rfl (by first | omega | (rw [List.length_map, List.length_take]; simp; omega)) ?_
  intro v12 w12 hS12; dsimp only [List.set] at hS12
  clear hS11
  have h1v12 : v12.oneCell' = true := hS12.own_one 1 rfl
  refine wl_assign rfl rfl (wl_nil (qs_block_normal (qs_seq ?_)))
  refine wc_sub (L' := [(7, _), (1, _), (22, _), (23, _), (24, _)]) (.cons rfl (.cons rfl (.cons rfl (.cons rfl (.cons rfl .nil))))) ?_
  refine wc_region ?_
  refine wl_add rfl rfl (by first | omega | (simp; omega)) (by first | omega | (simp; omega)) rfl ?_
  refine wl_move rfl rfl (wl_nil ?_)
  have hSy : Sat _ [rowT stC v12 (((lk.take i).map (offK dir)) ++ [offK dir ky]), _, _, _] := hS12.pick [1, 2, 3, 4] rfl
  rw [show ((lk.take i).map (offK dir)) ++ [offK dir ky] = ((lk.take (i + 1)).map (offK dir)) by rw [List.take_add_one, hky, Option.toList_some, List.map_append]; rfl] at hSy
  exact qs_round (L1 := [(1, _), (7, v12), (22, _), (23, _), (24, intV ((i + 1 : Nat) : Int))]) (.cons rfl (.cons rfl (.cons rfl (.cons rfl (.cons rfl .nil))))) (k1 := lk.length - (i + 1)) (by omega) ⟨i + 1, _, rfl, rfl, hSy, by omega⟩
 refine wc_exit (qs_then_exit (qs_then_exit (qs_block_exit (qs_seq (wc_seq (wc_region (wl_move rfl rfl (wl_assign rfl rfl (wl_assign rfl rfl (wl_nil (qs_seq (wc_ret ?_))))))))))))
 refine fin2 (.inr rfl) rfl rfl rfl ?_
 have hd0 : dirE W dir = 0 := Decidable.not_not.1 (by assumption)
 have hS9 := hS6.pick [0, 2, 3] rfl
 rw [List.take_of_length_le (by omega)] at hS9
 exact ⟨_, rfl, _, _, by rw [hd0], .inr ⟨hd0, lk, hlk, rfl⟩, hS9⟩
end Go.Proofs.YtkaikhcpcbjkcaaGreatDoor
