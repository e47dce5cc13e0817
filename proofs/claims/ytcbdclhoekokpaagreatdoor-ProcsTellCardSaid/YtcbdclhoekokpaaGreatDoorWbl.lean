/- strings.Builder: its methods -/
import Derived.Test.YtcbdclhoekokpaaGreatDoorBld
import Derived.Test.YtcbdclhoekokpaaGreatDoorFw
import Derived.Test.YtcbdclhoekokpaaGreatDoorWa
namespace Go.Proofs.YtcbdclhoekokpaaGreatDoor
open Go.RowKit M
set_option linter.unusedVariables false
theorem ne1 : (Tryz.f125.name == "runtime.NumGoroutine") = false := by kernel_rfl
theorem ne2 : Tryz.f125.body.isNone = true := by kernel_rfl
theorem ne3 : Extern.findNext Tryz.f125 = none := by kernel_rfl
theorem ne4 : Extern.find Tryz.f125 = some Extern.AbiNoEscape.same := by kernel_rfl
theorem bl_info : (Tryz.prog.info? 101).map (fun j => decide (j.size ≠ 0)) = some true := by kernel_rfl
theorem bl_lies : liesAt Tryz.prog Tryz.prog.depth 101 (2 / Tryz.prog.cellsOf 101) 0 101 1 = true := by kernel_rfl
theorem bl_byte : Tryz.prog.cellsOf 5 = 1 := by kernel_rfl
theorem bl_some : ∃ j, Tryz.prog.info? 101 = some j ∧ j.size ≠ 0 := by
  have h := bl_info
  cases hq : Tryz.prog.info? 101 with
  | none => rw [hq] at h; cases h
  | some j => rw [hq] at h; exact ⟨j, rfl, by simpa using h⟩
theorem bl_check0 {w : World} {b : Nat} {v : Value} {F : Th} (hS : Sat w [tblkT 101 b [.pointer none, v], F]) :
    Calls Tryz.prog 104 #[ptrV b 0] w (Ret fun u_ w' => u_ = .tuple #[] ∧ Sat w' [tblkT 101 b [ptrV b 0, v], F]) := by
  obtain ⟨j, hj, hj0⟩ := bl_some
  refine calls_enter Tryz.func104 rfl Tryz.ntmps104 rfl ?_
  refine wc_seq ?_
  refine wc_region ?_
  refine wl_move rfl rfl ?_
  refine wl_nilCheck rfl rfl ?_
  refine wl_fieldAddr rfl fo_101_0 rfl ?_
  refine wl_load rfl ag_98 (hS.tcell 0 rfl (o := 0) rfl) rfl ?_
  refine wl_eqlNilNil Tryz.underlying98 rfl rfl rfl ?_
  refine wl_nil ?_
  refine qs_seq ?_
  refine wc_condT rfl ?_
  refine wc_region ?_
  refine wl_move rfl rfl ?_
  refine wl_move rfl rfl ?_
  refine wl_toUnsafe rfl Tryz.underlying98 Tryz.underlying147 hj hj0 (hS.tshape 0 rfl) (by simp) rfl ?_
  refine wl_extSame Tryz.func125 ne1 ne2 ne3 ne4 rfl rfl ?_
  refine wl_fromUnsafe rfl Tryz.underlying147 Tryz.underlying98 hj (hS.tshape 0 rfl) bl_lies rfl ?_
  refine wl_nilCheck rfl rfl ?_
  refine wl_fieldAddr rfl fo_101_0 rfl ?_
  refine wl_storeT hS rfl rfl sz_98 (by first | rfl | assumption) (i := 0) rfl (by simp) ?_
  intro w1 hS1; dsimp only [List.set] at hS1
  refine wl_nil ?_
  refine fin0 (.inl rfl) rfl ?_
  exact ⟨_, rfl, rfl, hS1⟩
theorem bl_check1 {w : World} {b : Nat} {v : Value} {F : Th} (hS : Sat w [tblkT 101 b [ptrV b 0, v], F]) :
    Calls Tryz.prog 104 #[ptrV b 0] w (Ret fun u_ w' => u_ = .tuple #[] ∧ Sat w' [tblkT 101 b [ptrV b 0, v], F]) := by
  obtain ⟨j, hj, hj0⟩ := bl_some
  refine calls_enter Tryz.func104 rfl Tryz.ntmps104 rfl ?_
  refine wc_seq ?_
  refine wc_region ?_
  refine wl_move rfl rfl ?_
  refine wl_nilCheck rfl rfl ?_
  refine wl_fieldAddr rfl fo_101_0 rfl ?_
  refine wl_load rfl ag_98 (hS.tcell 0 rfl (o := 0) rfl) rfl ?_
  refine wl_eqlNil Tryz.underlying98 rfl rfl rfl ?_
  refine wl_nil ?_
  refine qs_seq ?_
  refine wc_condF rfl ?_
  refine wc_seq ?_
  refine wc_region ?_
  refine wl_move rfl rfl ?_
  refine wl_nilCheck rfl rfl ?_
  refine wl_fieldAddr rfl fo_101_0 rfl ?_
  refine wl_load rfl ag_98 (hS.tcell 0 rfl (o := 0) rfl) rfl ?_
  refine wl_move rfl rfl ?_
  refine wl_neqPtrSame Tryz.underlying98 hj rfl rfl rfl ?_
  refine wl_nil ?_
  refine qs_seq ?_
  refine wc_sub (L' := [(19, _)]) (.cons rfl .nil) ?_
  refine wc_condF rfl ?_
  refine wc_skip ?_
  refine fin0 (.inl rfl) rfl ?_
  exact ⟨_, rfl, rfl, hS⟩
def bldT (b : Nat) (bs : Bs) : Th := exT fun q : Value × Value => starL [pureT (q.1 = .pointer none ∨ q.1 = ptrV b 0), tblkT 101 b [q.1, q.2], bufT 5 q.2 bs]
theorem bldT_open {w : World} {b : Nat} {bs : Bs} {As : List Th} (h : Sat w (bldT b bs :: As)) : ∃ p v, (p = .pointer none ∨ p = ptrV b 0) ∧ Sat w (tblkT 101 b [p, v] :: bufT 5 v bs :: As) := by
  obtain ⟨⟨p, v⟩, h⟩ := h.ex
  obtain ⟨h1, h2⟩ := h.flat.pure_elim
  exact ⟨p, v, h1, h2⟩
theorem bldT_shut {w : World} {b : Nat} {bs : Bs} {As : List Th} {p v : Value} (hp : p = .pointer none ∨ p = ptrV b 0) (h : Sat w (tblkT 101 b [p, v] :: bufT 5 v bs :: As)) : Sat w (bldT b bs :: As) :=
  Sat.ex_intro (p, v) (Sat.fold (As := [pureT _, tblkT 101 b [p, v], bufT 5 v bs]) (Sat.pure_intro hp h))
theorem bl_check {w : World} {b : Nat} {p v : Value} {F : Th} (hp : p = .pointer none ∨ p = ptrV b 0) (hS : Sat w [tblkT 101 b [p, v], F]) : Calls Tryz.prog 104 #[ptrV b 0] w (Ret fun u w' => u = .tuple #[] ∧ Sat w' [tblkT 101 b [ptrV b 0, v], F]) := by
  rcases hp with rfl | rfl
  · exact bl_check0 hS
  · exact bl_check1 hS
theorem bufT_nil {w : World} {As : List Th} {e : Nat} (h : Sat w As) : Sat w (bufT e (.slice none 0 0) [] :: As) :=
  h.new (Only.refl [] w) (A := bufT e (.slice none 0 0) []) (F' := fun k => Value.ownBlock (.slice none 0 0) = some k) ⟨rfl, World.ownsRow_nil w 0 e 1, fun _ => rfl⟩ (by simp [Value.ownBlock])
theorem bl_writeString {w : World} {b : Nat} {bs : Bs} {F : Th} (hS : Sat w [bldT b bs, F]) (s : Bs) (hl : bs.length + s.length ≤ 70368744177663) :
    Calls Tryz.prog 62 #[ptrV b 0, strV s] w (Ret fun v w' => v = .tuple #[intV (s.length : Int), .nilIface] ∧ Sat w' [bldT b (bs ++ s), F]) := by
  obtain ⟨p, v, hp, hS⟩ := bldT_open hS
  refine calls_enter Tryz.func62 rfl Tryz.ntmps62 rfl ?_
  refine wc_seq ?_
  refine wc_region ?_
  refine wl_assign rfl rfl ?_
  refine wl_assign rfl rfl ?_
  refine wl_nil ?_
  refine qs_seq ?_
  refine wc_seq ?_
  refine wc_region ?_
  refine wl_move rfl rfl ?_
  have hC1 := hS.split [0] [true, false, false] rfl; dsimp only [selF, pickA, nthA, List.cons_append, List.nil_append] at hC1
  refine wl_call cal_104 rfl (bl_check hp hC1) rfl ?_
  rintro e w1 ⟨_, rfl, rfl, hS1⟩; refine ⟨_, rfl, ?_⟩
  replace hS1 := hS1.join rfl; dsimp only [List.dropLast, List.cons_append, List.nil_append] at hS1; clear hC1
  refine wl_nil ?_
  refine qs_seq ?_
  refine wc_seq ?_
  refine wc_region ?_
  refine wl_move rfl rfl ?_
  refine wl_move rfl rfl ?_
  refine wl_nilCheck rfl rfl ?_
  refine wl_fieldAddr rfl fo_101_1 rfl ?_
  refine wl_load rfl ag_99 (hS1.tcell 0 rfl (o := 1) rfl) rfl ?_
  refine wl_move rfl rfl ?_
  refine wl_bufAppS 1 hS1 rfl rfl rfl Tryz.underlying99 Tryz.underlying9 ifo_5 (by omega) rfl ?_
  intro v2 w2 hS2; dsimp only [List.set] at hS2
  clear hS1
  obtain ⟨_, _, _, h1v2, _⟩ := hS2.bufv 1 rfl
  refine wl_nilCheck rfl rfl ?_
  refine wl_fieldAddr rfl fo_101_1 rfl ?_
  refine wl_storeT hS2 rfl rfl sz_99 (by first | rfl | assumption) (i := 0) rfl (by simp) ?_
  intro w3 hS3; dsimp only [List.set] at hS3
  clear hS2
  refine wl_nil ?_
  refine qs_seq ?_
  refine wc_sub (L' := [(5, _), (4, _), (1, _)]) (.cons rfl (.cons rfl (.cons rfl .nil))) ?_
  refine wc_seq ?_
  refine wc_region ?_
  refine wl_move rfl rfl ?_
  refine wl_lenS Tryz.underlying9 rfl rfl ?_
  refine wl_assign rfl rfl ?_
  refine wl_assign rfl rfl ?_
  refine wl_nil ?_
  refine qs_seq ?_
  refine wc_ret ?_
  refine fin2 (.inr rfl) rfl rfl rfl ?_
  exact ⟨_, rfl, rfl, bldT_shut (.inr rfl) (hS3.pick [0, 1, 2] rfl)⟩
theorem bl_string {w : World} {b : Nat} {bs : Bs} {F : Th} (hS : Sat w [bldT b bs, F]) (hl : bs.length ≤ 70368744177663) :
    Calls Tryz.prog 68 #[ptrV b 0] w (Ret fun v w' => v = strV bs ∧ Sat w' [F]) := by
  obtain ⟨p, v, hp, hS⟩ := bldT_open hS
  obtain ⟨ao, cap, rfl, h1v, hq⟩ := hS.bufv 1 rfl
  have hao : ao = none ∨ cap ≠ 0 := by rcases hq with ⟨h, _⟩ | ⟨_, _, h, _⟩; exact .inl h; exact .inr h
  refine calls_enter Tryz.func68 rfl Tryz.ntmps68 rfl ?_
  refine wc_seq ?_
  refine wc_region ?_
  refine wl_assign rfl rfl ?_
  refine wl_nil ?_
  refine qs_seq ?_
  refine wc_seq ?_
  have hS1 := hS.drew
  refine wc_draw [0, 1, 2, 3, 5, 6, 7, 8, 9, 4, 10, 11] [4, 10] mix (by kernel_rfl) ?_
  refine vc_p rfl rfl rfl (fun _ => (ev_move rfl)) ?_
  refine vc_p rfl rfl rfl (fun _ => (ev_nilCheck rfl)) ?_
  refine vc_p rfl rfl rfl (fun _ => (ev_fieldAddr rfl fo_101_1)) ?_
  refine vc_q rfl rfl rfl (ev_load rfl ag_99 (hS1.tcell 0 rfl (o := 1) rfl)) ?_
  refine vc_p rfl rfl rfl (fun _ => (ev_move rfl)) ?_
  refine vc_p rfl rfl rfl (fun _ => (ev_nilCheck rfl)) ?_
  refine vc_p rfl rfl rfl (fun _ => (ev_fieldAddr rfl fo_101_1)) ?_
  refine vc_q rfl rfl rfl (ev_load rfl ag_99 (hS1.tcell 0 rfl (o := 1) rfl)) ?_
  refine vc_p rfl rfl rfl (fun _ => (ev_lenL Tryz.underlying99 rfl)) ?_
  refine vc_s rfl rfl rfl rfl rfl rfl ?_
  refine wl_sliceData rfl hao rfl ?_
  refine vc_e (.cons (.inl ⟨rfl, (ev_load rfl ag_99 (hS1.tcell 0 rfl (o := 1) rfl))⟩) (.skip (by kernel_rfl) .nil)) ?_
  refine vc_s rfl rfl rfl rfl rfl rfl ?_
  refine wl_unsafeString 1 hS1 rfl rfl rfl Tryz.underlying133 bl_byte (by omega) rfl ?_
  intro w2 hS2; dsimp only [List.eraseIdx] at hS2
  clear hS1
  refine vc_e (.skip (by kernel_rfl) (.skip (by kernel_rfl) .nil)) ?_
  refine vc_p rfl rfl rfl (fun _ => (ev_assign rfl)) ?_
  refine VC.nil ?_
  refine qs_seq ?_
  refine wc_sub (L' := [(2, _)]) (.cons rfl .nil) ?_
  refine wc_ret ?_
  refine fin1 (.inr rfl) rfl rfl ?_
  exact ⟨_, rfl, rfl, hS2.tail⟩
end Go.Proofs.YtcbdclhoekokpaaGreatDoor
