/- MoveEnds: for every input the law returns true, and each argument reads afterwards as it did. No condition. -/
import Derived.Test.YtiibgheijbbmaaaGreatDoorRd
import Derived.Test.YtiibgheijbbmaaaGreatDoorTie
import Derived.Test.YtiibgheijbbmaaaGreatDoorCards
import Derived.Lay
import Derived.MakeChecks
import Derived.SevenTiedAt
set_option linter.unusedVariables false
set_option maxRecDepth 100000
namespace Go.Proofs.YtiibgheijbbmaaaGreatDoor.moveEndsP
open Go.ChangeShapes Go.WideShapes Go.ChangeAt Go.RowKit M
open Go.ChangeMaps (open_string shut_string)
theorem own:ownKnob Tryz.prog.godebug=none:= by kernel_rfl
theorem laidOut:laidOutB Tryz.prog=true:= by kernel_rfl
theorem of_laid {W:World} (h:laidMetH Tryz.prog Rows.moveEndsRow.laid W):WireG W∧Glob 0 W:= by
  rw[MakeChecks.laidMetH_plain _ _ _ (by kernel_rfl)]at h
  have m: ∀x∈Rows.moveEndsRow.laid,x∈Rows.moveEndsRow.laid:= fun _ h=>h
  exact⟨Oe h (m _ (by simp [Rows.moveEndsRow])) (m _ (by simp [Rows.moveEndsRow])) (m _ (by simp [Rows.moveEndsRow])),glob_of h (m _ (by simp [Rows.moveEndsRow]))⟩
theorem lifted (os:Os) (started:os.Started) (H:Type) (enc:TypeId×Value→H):
    ReturnsInHanded {} Tryz.checked os 6 .any (fun w args=>(Rows.moveEndsSpec.pre enc Tryz.prog Tryz.f6 Rows.moveEndsRow.domain false w args∧laidMetH Tryz.prog Rows.moveEndsRow.laid w)∧sizedMet enc Tryz.prog Tryz.f6 (OpenSpec.ofChange Rows.moveEndsSpec) false w args) (Rows.moveEndsSpec.post enc Tryz.prog Tryz.f6 false true false false):= by
  refine returnsInHanded_of_change_and (C:=Tryz.checked) (X:= fun w _=>laidMetH Tryz.prog Rows.moveEndsRow.laid w) (fun _ _ _ hh h=>h.of_heap hh) own started (by kernel_rfl) Tryz.func6
    (ChangeSpec.witness_shaped (enc:=enc) (C:=Tryz.checked) (os:=os) (X:= fun w _=>laidMetH Tryz.prog Rows.moveEndsRow.laid w) false (World.laidAll Tryz.prog os Rows.moveEndsRow.laid) #[.agg #[.string ByteArray.empty,.slice none 0 0],.int .i64 0,.slice none 0 0] 8 (World.laidAll_os _ _ _) (World.shaped_of_ZipB (by kernel_rfl) (by kernel_rfl)) (by kernel_rfl) (by kernel_rfl) (by kernel_rfl) (by rw[MakeChecks.laidMetH_plain _ _ _ (by kernel_rfl)]; exact laidMet_laidAll _ (by kernel_rfl) (by kernel_rfl))) ?_
  intro W base args ds gs before hval0 hW hcnd _ hL _
  have hval: ∀(j:Nat) t v,Tryz.f6.params[j]? =some t→args[j]? =some v→Value.okWide Tryz.prog W .any base t v:=hval0
  have hW':=hW
  obtain⟨p,q,hA0,hV,rfl,hfz,hnd⟩:=hW
  have hA:DataW.TrodAll enc Tryz.prog W 0 (fun _=>true) true Tryz.f6.params.toList args.toList ds p:=hA0
  have hAll:=hA
  rw[Tryz.params6]at hA hval
  obtain⟨v0,vs0,d0,ds0,p0,q0,hargs,rfl,rfl,h0,r0⟩:=trodAll_cons hA
  obtain⟨v1,vs1,d1,ds1,p1,q1,rfl,rfl,rfl,h1,r1⟩:=trodAll_cons r0
  obtain⟨v2,vs2,d2,ds2,p2,q2,rfl,rfl,rfl,h2,r2⟩:=trodAll_cons r1
  obtain⟨rfl,rfl,rfl⟩:=trodAll_nil r2
  obtain rfl:args= #[v0,v1,v2]:= by cases args;simp_all
  obtain⟨rfl,rfl⟩:=trodVars_none hV
  obtain⟨cs0,rfl,hsz0⟩:=okWide_struct Tryz.underlying24 (hval 0 24 v0 rfl rfl)
  obtain⟨l0,w0⟩: ∃l,sesCod.rd W cs0.toList l:= by
    obtain⟨fuel,hf⟩:=h0
    exact sesCod.down hf
  obtain⟨a1,rfl,rfl,rfl,w1⟩:=open_int Tryz.underlying3 (hval 1 3 v1 rfl rfl) h1
  obtain⟨x2,y2,z2,rfl⟩:=okWide_slice Tryz.underlying25 (hval 2 25 v2 rfl rfl)
  obtain⟨l2,w2⟩: ∃l,Rp opCod.rd opCod.size W (.slice x2 y2 z2) l:= by
    obtain⟨fuel,hf⟩:=h2
    obtain⟨l,v,hv,hs⟩:=(Cod.slice Tryz.underlying25 (by kernel_rfl) opCod (by decide)).down hf
    simp only[Value.cells,List.cons.injEq,and_true]at hv
    subst hv
    exact⟨l,hs⟩
  clear hA0 hval0
  refine(IH (of_laid hL) w0 w2).mono fun e W' ⟨he,bel⟩=> ?_
  subst he
  have hst:=Rx laidOut bel _ _ _ _ (by rw[Tryz.params6]; intro t ht; simp only[List.mem_cons,List.not_mem_nil,or_false]at ht; rcases ht with rfl | rfl | rfl<;> exact⟨by kernel_rfl,of_decide_eq_true (by kernel_rfl)⟩) hAll
  exact⟨_,rfl,_,_,_,[],_,[],hW',trodAll_mk1 (shut_bool Tryz.underlying4 _),hst,rfl,bel.frame _, fun h=> by cases h⟩
theorem over:Rows.moveEndsRow.holds Tryz.pinned (OpenSpec.ofChange Rows.moveEndsSpec):=
  OpenClaim.holds_of_wide 6 Tryz.f6 rfl rfl rfl rfl rfl rfl rfl ⟨rfl,rfl,rfl,rfl,rfl⟩ rfl rfl rfl rfl rfl (by kernel_rfl) Tryz.func6 (by kernel_rfl)
    (of_decide_eq_true (by kernel_rfl)) (by unfold Func.isWrapper;first | (rw[if_pos (by decide+kernel)];kernel_rfl) | (rw[if_neg (by decide+kernel)]; exact⟨rfl,rfl⟩))
    (fun os started H enc _=>lifted os started H enc)
theorem card:Rows.MoveEndsCardSaid:=
  Claim7.holds_tied_plain_at .later [] [.data, .data, .data, .data, .sentinel, .sentinel] true (true, "2789a164fa4da8ad83bb7d4dbc08bd1251bb090603369dc755b42a4bb2b213cb") true over (fun _ h => by cases h) (by kernel_rfl) (fun _ h => by cases h) moveEnds_row_tie rfl ⟨rfl, rfl⟩ (by kernel_rfl) rfl
    (fun f fn hf hfn=> by
      obtain rfl : f = 6 := Option.some.inj ((show Tryz.prog.funcNamed "rehearsal/rehearsallaw47.MoveEnds" = some 6 by kernel_rfl).symm.trans hf) |>.symm
      obtain rfl:fn=Tryz.f6:=(Option.some.inj (Tryz.func6.symm.trans hfn)).symm
      refine⟨by kernel_rfl, fun j t ht=> ?_⟩
      rw[Tryz.params6]at ht
      have hall: ∀t∈([24,3,25]:List TypeId),Tryz.prog.wantsStandIn t=false:= by intro t ht; simp only[List.mem_cons,List.not_mem_nil,or_false]at ht; rcases ht with rfl | rfl | rfl<;>kernel_rfl
      exact hall t (by have :=Array.mem_of_getElem? ht;simpa using this))
    (by kernel_rfl)
end Go.Proofs.YtiibgheijbbmaaaGreatDoor.moveEndsP
namespace Go.Proofs.YtiibgheijbbmaaaGreatDoor
theorem moveEnds_holds:Rows.MoveEndsCardSaid:=moveEndsP.card
