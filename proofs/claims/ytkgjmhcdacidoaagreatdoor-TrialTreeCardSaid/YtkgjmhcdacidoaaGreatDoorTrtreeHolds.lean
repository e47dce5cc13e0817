/- TrialTree: for every input the law returns true, and each argument reads afterwards as it did. No condition. -/
import Derived.Test.YtkgjmhcdacidoaaGreatDoorRd
import Derived.Test.YtkgjmhcdacidoaaGreatDoorTie
import Derived.Test.YtkgjmhcdacidoaaGreatDoorCards
import Derived.Lay
import Derived.MakeChecks
import Derived.SevenTiedAt
set_option linter.unusedVariables false
set_option maxRecDepth 100000
namespace Go.Proofs.YtkgjmhcdacidoaaGreatDoor.trialTreeP
open Go.ChangeShapes Go.WideShapes Go.ChangeAt Go.RowKit M
open Go.ChangeMaps (open_string shut_string)
theorem own:ownKnob Tryz.prog.godebug=none:= by kernel_rfl
theorem laidOut:laidOutB Tryz.prog=true:= by kernel_rfl
theorem gT : Tryz.prog.globalNamed "math/bits.deBruijn64tab" = some 0 := by kernel_rfl
theorem tT:(Tryz.prog.globals[0]?).map (·.type)=some 166:= by kernel_rfl
theorem c1:Tryz.prog.cellsOf 5=1:= by kernel_rfl
theorem of_laid {W:World} (h:laidMetH Tryz.prog Rows.trialTreeRow.laid W):GT W:= by
  rw[MakeChecks.laidMetH_plain _ _ _ (by kernel_rfl)]at h
  obtain⟨ps,⟨g0,t0,cs0,f0,p0,q0,hg0,ht0,hv0,hd0,_,_⟩,_,_⟩:=h
  obtain rfl:=Option.some.inj (gT.symm.trans hg0)
  obtain rfl:=Option.some.inj (tT.symm.trans ht0)
  obtain⟨xs,m1,rfl,hx1,hlen,hn3,hel⟩:=DataW.trod_array Tryz.underlying166 hd0
  simp only[Prod.mk.injEq]at hx1
  have key: ∀(j:Nat) (n:Int),j<64→(xs.map (·.1))[j]? =some (.lit (.int .u8 n))→cs0[j]? =some (.int .u8 n):= by
    intro j n hj hn
    have h1:=hel j hj
    rw[List.getElem?_map]at hn
    obtain⟨x,hx,hx2⟩:=Option.map_eq_some_iff.1 hn
    rw[hx,c1,Nat.mul_one]at h1
    obtain⟨k,e1,e2,_⟩:=DataW.trod_int Tryz.underlying5 h1
    have hk:k=n:= by rw[e2]at hx2;simpa using hx2
    subst hk
    have h2:=congrArg (fun q=>q[0]?) e1
    simp only[List.getElem?_take,List.getElem?_drop]at h2
    simpa using h2
  have hx2:=DataW.agg.inj (hx1.1:DataW.agg _=DataW.agg _)
  rw[←hx2]at key
  intro j hj
  refine(World.var?_cell gT hv0 j).trans ?_
  match j,hj with
  | 0,_=> exact key 0 _ (by decide) rfl
  | 1,_=> exact key 1 _ (by decide) rfl
  | 2,_=> exact key 2 _ (by decide) rfl
  | 3,_=> exact key 3 _ (by decide) rfl
  | 4,_=> exact key 4 _ (by decide) rfl
  | 5,_=> exact key 5 _ (by decide) rfl
  | 6,_=> exact key 6 _ (by decide) rfl
  | 7,_=> exact key 7 _ (by decide) rfl
  | 8,_=> exact key 8 _ (by decide) rfl
  | 9,_=> exact key 9 _ (by decide) rfl
  | 10,_=> exact key 10 _ (by decide) rfl
  | 11,_=> exact key 11 _ (by decide) rfl
  | 12,_=> exact key 12 _ (by decide) rfl
  | 13,_=> exact key 13 _ (by decide) rfl
  | 14,_=> exact key 14 _ (by decide) rfl
  | 15,_=> exact key 15 _ (by decide) rfl
  | 16,_=> exact key 16 _ (by decide) rfl
  | 17,_=> exact key 17 _ (by decide) rfl
  | 18,_=> exact key 18 _ (by decide) rfl
  | 19,_=> exact key 19 _ (by decide) rfl
  | 20,_=> exact key 20 _ (by decide) rfl
  | 21,_=> exact key 21 _ (by decide) rfl
  | 22,_=> exact key 22 _ (by decide) rfl
  | 23,_=> exact key 23 _ (by decide) rfl
  | 24,_=> exact key 24 _ (by decide) rfl
  | 25,_=> exact key 25 _ (by decide) rfl
  | 26,_=> exact key 26 _ (by decide) rfl
  | 27,_=> exact key 27 _ (by decide) rfl
  | 28,_=> exact key 28 _ (by decide) rfl
  | 29,_=> exact key 29 _ (by decide) rfl
  | 30,_=> exact key 30 _ (by decide) rfl
  | 31,_=> exact key 31 _ (by decide) rfl
  | 32,_=> exact key 32 _ (by decide) rfl
  | 33,_=> exact key 33 _ (by decide) rfl
  | 34,_=> exact key 34 _ (by decide) rfl
  | 35,_=> exact key 35 _ (by decide) rfl
  | 36,_=> exact key 36 _ (by decide) rfl
  | 37,_=> exact key 37 _ (by decide) rfl
  | 38,_=> exact key 38 _ (by decide) rfl
  | 39,_=> exact key 39 _ (by decide) rfl
  | 40,_=> exact key 40 _ (by decide) rfl
  | 41,_=> exact key 41 _ (by decide) rfl
  | 42,_=> exact key 42 _ (by decide) rfl
  | 43,_=> exact key 43 _ (by decide) rfl
  | 44,_=> exact key 44 _ (by decide) rfl
  | 45,_=> exact key 45 _ (by decide) rfl
  | 46,_=> exact key 46 _ (by decide) rfl
  | 47,_=> exact key 47 _ (by decide) rfl
  | 48,_=> exact key 48 _ (by decide) rfl
  | 49,_=> exact key 49 _ (by decide) rfl
  | 50,_=> exact key 50 _ (by decide) rfl
  | 51,_=> exact key 51 _ (by decide) rfl
  | 52,_=> exact key 52 _ (by decide) rfl
  | 53,_=> exact key 53 _ (by decide) rfl
  | 54,_=> exact key 54 _ (by decide) rfl
  | 55,_=> exact key 55 _ (by decide) rfl
  | 56,_=> exact key 56 _ (by decide) rfl
  | 57,_=> exact key 57 _ (by decide) rfl
  | 58,_=> exact key 58 _ (by decide) rfl
  | 59,_=> exact key 59 _ (by decide) rfl
  | 60,_=> exact key 60 _ (by decide) rfl
  | 61,_=> exact key 61 _ (by decide) rfl
  | 62,_=> exact key 62 _ (by decide) rfl
  | 63,_=> exact key 63 _ (by decide) rfl
  | j+64,hj=> exact absurd hj (by simp [Lib.deBruijn64tab])
theorem lifted (os:Os) (started:os.Started) (H:Type) (enc:TypeId×Value→H):
    ReturnsInHanded {} Tryz.checked os 4 .any (fun w args=>(Rows.trialTreeSpec.pre enc Tryz.prog Tryz.f4 Rows.trialTreeRow.domain false w args∧laidMetH Tryz.prog Rows.trialTreeRow.laid w)∧sizedMet enc Tryz.prog Tryz.f4 (OpenSpec.ofChange Rows.trialTreeSpec) false w args) (Rows.trialTreeSpec.post enc Tryz.prog Tryz.f4 false true false false):= by
  refine returnsInHanded_of_change_and (C:=Tryz.checked) (X:= fun w _=>laidMetH Tryz.prog Rows.trialTreeRow.laid w) (fun _ _ _ hh h=>h.of_heap hh) own started (by kernel_rfl) Tryz.func4
    (ChangeSpec.witness_shaped (enc:=enc) (C:=Tryz.checked) (os:=os) (X:= fun w _=>laidMetH Tryz.prog Rows.trialTreeRow.laid w) false (World.laidAll Tryz.prog os Rows.trialTreeRow.laid) #[.slice none 0 0] 8 (World.laidAll_os _ _ _) (World.shaped_of_ZipB (by kernel_rfl) (by kernel_rfl)) (by kernel_rfl) (by kernel_rfl) (by kernel_rfl) (by rw[MakeChecks.laidMetH_plain _ _ _ (by kernel_rfl)]; exact laidMet_laidAll _ (by kernel_rfl) (by kernel_rfl))) ?_
  intro W base args ds gs before hval0 hW hcnd _ hL _
  have hval: ∀(j:Nat) t v,Tryz.f4.params[j]? =some t→args[j]? =some v→Value.okWide Tryz.prog W .any base t v:=hval0
  have hW':=hW
  obtain⟨p,q,hA0,hV,rfl,hfz,hnd⟩:=hW
  have hA:DataW.TrodAll enc Tryz.prog W 0 (fun _=>true) true Tryz.f4.params.toList args.toList ds p:=hA0
  have hAll:=hA
  rw[Tryz.params4]at hA hval
  obtain⟨v0,vs0,d0,ds0,p0,q0,hargs,rfl,rfl,h0,r0⟩:=trodAll_cons hA
  obtain⟨rfl,rfl,rfl⟩:=trodAll_nil r0
  obtain rfl:args= #[v0]:= by cases args;simp_all
  obtain⟨rfl,rfl⟩:=trodVars_none hV
  obtain⟨x0,y0,z0,rfl⟩:=okWide_slice Tryz.underlying22 (hval 0 22 v0 rfl rfl)
  obtain⟨l0,w0⟩: ∃l,G0 qintC.rd qintC.size W (.slice x0 y0 z0) l:= by
    obtain⟨fuel,hf⟩:=h0
    obtain⟨l,v,hv,hs⟩:=(Cod.slice Tryz.underlying22 (by kernel_rfl) qintC (by decide)).down hf
    simp only[Value.cells,List.cons.injEq,and_true]at hv
    subst hv
    exact⟨l,hs⟩
  clear hA0 hval0
  refine(FM (of_laid hL) w0).mono fun e W' ⟨he,bel⟩=> ?_
  subst he
  have hst:=Vr laidOut bel _ _ _ _ (by rw[Tryz.params4]; intro t ht; simp only[List.mem_cons,List.not_mem_nil,or_false]at ht; rcases ht with rfl<;> exact⟨by kernel_rfl,of_decide_eq_true (by kernel_rfl)⟩) hAll
  exact⟨_,rfl,_,_,_,[],_,[],hW',trodAll_mk1 (shut_bool Tryz.underlying4 _),hst,rfl,bel.frame _, fun h=> by cases h⟩
theorem over:Rows.trialTreeRow.holds Tryz.pinned (OpenSpec.ofChange Rows.trialTreeSpec):=
  OpenClaim.holds_of_wide 4 Tryz.f4 rfl rfl rfl rfl rfl rfl rfl ⟨rfl,rfl,rfl,rfl,rfl⟩ rfl rfl rfl rfl rfl (by kernel_rfl) Tryz.func4 (by kernel_rfl)
    (of_decide_eq_true (by kernel_rfl)) (by unfold Func.isWrapper;first | (rw[if_pos (by decide+kernel)];kernel_rfl) | (rw[if_neg (by decide+kernel)]; exact⟨rfl,rfl⟩))
    (fun os started H enc _=>lifted os started H enc)
theorem card:Rows.TrialTreeCardSaid:=
  Claim7.holds_tied_plain_at .later [] [.data] true (true, "ae6f6c85c47331d3b6b6ad261afd244b7a5d5d098a77ef277e3eee270c424b99") false over (fun _ h => by cases h) (by kernel_rfl) (fun _ h => by cases h) trialTree_row_tie rfl ⟨rfl, rfl⟩ (by kernel_rfl) rfl
    (fun f fn hf hfn=> by
      obtain rfl : f = 4 := Option.some.inj ((show Tryz.prog.funcNamed "rehearsal/rehearsallaw18.TrialTree" = some 4 by kernel_rfl).symm.trans hf) |>.symm
      obtain rfl:fn=Tryz.f4:=(Option.some.inj (Tryz.func4.symm.trans hfn)).symm
      refine⟨by kernel_rfl, fun j t ht=> ?_⟩
      rw[Tryz.params4]at ht
      have hall: ∀t∈([22]:List TypeId),Tryz.prog.wantsStandIn t=false:= by intro t ht; simp only[List.mem_cons,List.not_mem_nil,or_false]at ht; rcases ht with rfl<;>kernel_rfl
      exact hall t (by have :=Array.mem_of_getElem? ht;simpa using this))
    (by kernel_rfl)
end Go.Proofs.YtkgjmhcdacidoaaGreatDoor.trialTreeP
namespace Go.Proofs.YtkgjmhcdacidoaaGreatDoor
theorem trialTree_holds:Rows.TrialTreeCardSaid:=trialTreeP.card
