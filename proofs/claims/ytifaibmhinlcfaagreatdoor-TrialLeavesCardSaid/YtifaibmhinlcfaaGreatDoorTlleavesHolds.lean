/- TrialLeaves: for every input the law returns true, and each argument reads afterwards as it did. No condition. -/
import Derived.Test.YtifaibmhinlcfaaGreatDoorTli
import Derived.Test.YtifaibmhinlcfaaGreatDoorTie
import Derived.Test.YtifaibmhinlcfaaGreatDoorCards
import Derived.Lay
import Derived.MakeChecks
import Derived.SevenTiedAt
set_option linter.unusedVariables false
set_option maxRecDepth 100000
namespace Go.Proofs.YtifaibmhinlcfaaGreatDoor.trialLeavesP
open Go.ChangeShapes Go.WideShapes Go.ChangeAt Go.RowKit M
open Go.ChangeMaps (open_string shut_string)
theorem own:ownKnob Tryz.prog.godebug=none:=by kernel_rfl
theorem laidOut:laidOutB Tryz.prog=true:=by kernel_rfl
theorem gT : Tryz.prog.globalNamed "math/bits.deBruijn64tab" = some 0 := by kernel_rfl
theorem tT:(Tryz.prog.globals[0]?).map (·.type)=some 186:=by kernel_rfl
theorem c1:Tryz.prog.cellsOf 5=1:=by kernel_rfl
theorem of_laid {W:World} (h:laidMetH Tryz.prog Rows.trialLeavesRow.laid W):GT W:=by
  rw[MakeChecks.laidMetH_plain _ _ _ (by kernel_rfl)]at h;obtain⟨ps,⟨w,t0,cs0,f0,p0,y,d,e,f,g,_,_⟩,_,_⟩:=h;obtain rfl:=Option.some.inj (gT.symm.trans d);obtain rfl:=Option.some.inj (tT.symm.trans e);obtain⟨xs,z,rfl,b,l,r,i⟩:=DataW.trod_array Tryz.underlying186 g;simp only[Prod.mk.injEq]at b
  have key: ∀(j:Nat) (n:Int),j<64->(xs.map (·.1))[j]? =some (.lit (.int .u8 n))->cs0[j]? =some (.int .u8 n):=by
    intro j n c m;have o:=i j c;rw[List.getElem?_map]at m;obtain⟨x,s,a⟩:=Option.map_eq_some_iff.1 m;rw[s,c1,Nat.mul_one]at o;obtain⟨k,t,u,_⟩:=DataW.trod_int Tryz.underlying5 o;have v:k=n:=by rw[u]at a;simpa using a
    subst v;have p:=congrArg (λq=>q[0]?) t;simp only[List.getElem?_take,List.getElem?_drop]at p
    simpa using p
  have a:=DataW.agg.inj (b.1:DataW.agg _=DataW.agg _);rw[<-a]at key;intro j c;refine(World.var?_cell gT f j).trans ?_
  match j,c with
  | 0,_=> exact key 0 _ (by decide) rfl
  | 1,_=> exact key 1 _ (by decide) rfl
  | 2,_=> exact key 2 _ (by decide) rfl
  | 3,_=> exact key 3 _ (by decide) rfl
  | 4,_=> exact key 4 _ (by decide) rfl
  | 5,_=> exact key 5 _ (by decide) rfl
  | 6,_=> exact key 6 _ (by decide) rfl
  | 7,_=> exact key 7 _ (by decide) rfl
  | 8,_=> exact key 8 _ (by decide) rfl
  | 9,_=> exact key 9 _ (by decide) rfl
  | 10,_=> exact key 10 _ (by decide) rfl
  | 11,_=> exact key 11 _ (by decide) rfl
  | 12,_=> exact key 12 _ (by decide) rfl
  | 13,_=> exact key 13 _ (by decide) rfl
  | 14,_=> exact key 14 _ (by decide) rfl
  | 15,_=> exact key 15 _ (by decide) rfl
  | 16,_=> exact key 16 _ (by decide) rfl
  | 17,_=> exact key 17 _ (by decide) rfl
  | 18,_=> exact key 18 _ (by decide) rfl
  | 19,_=> exact key 19 _ (by decide) rfl
  | 20,_=> exact key 20 _ (by decide) rfl
  | 21,_=> exact key 21 _ (by decide) rfl
  | 22,_=> exact key 22 _ (by decide) rfl
  | 23,_=> exact key 23 _ (by decide) rfl
  | 24,_=> exact key 24 _ (by decide) rfl
  | 25,_=> exact key 25 _ (by decide) rfl
  | 26,_=> exact key 26 _ (by decide) rfl
  | 27,_=> exact key 27 _ (by decide) rfl
  | 28,_=> exact key 28 _ (by decide) rfl
  | 29,_=> exact key 29 _ (by decide) rfl
  | 30,_=> exact key 30 _ (by decide) rfl
  | 31,_=> exact key 31 _ (by decide) rfl
  | 32,_=> exact key 32 _ (by decide) rfl
  | 33,_=> exact key 33 _ (by decide) rfl
  | 34,_=> exact key 34 _ (by decide) rfl
  | 35,_=> exact key 35 _ (by decide) rfl
  | 36,_=> exact key 36 _ (by decide) rfl
  | 37,_=> exact key 37 _ (by decide) rfl
  | 38,_=> exact key 38 _ (by decide) rfl
  | 39,_=> exact key 39 _ (by decide) rfl
  | 40,_=> exact key 40 _ (by decide) rfl
  | 41,_=> exact key 41 _ (by decide) rfl
  | 42,_=> exact key 42 _ (by decide) rfl
  | 43,_=> exact key 43 _ (by decide) rfl
  | 44,_=> exact key 44 _ (by decide) rfl
  | 45,_=> exact key 45 _ (by decide) rfl
  | 46,_=> exact key 46 _ (by decide) rfl
  | 47,_=> exact key 47 _ (by decide) rfl
  | 48,_=> exact key 48 _ (by decide) rfl
  | 49,_=> exact key 49 _ (by decide) rfl
  | 50,_=> exact key 50 _ (by decide) rfl
  | 51,_=> exact key 51 _ (by decide) rfl
  | 52,_=> exact key 52 _ (by decide) rfl
  | 53,_=> exact key 53 _ (by decide) rfl
  | 54,_=> exact key 54 _ (by decide) rfl
  | 55,_=> exact key 55 _ (by decide) rfl
  | 56,_=> exact key 56 _ (by decide) rfl
  | 57,_=> exact key 57 _ (by decide) rfl
  | 58,_=> exact key 58 _ (by decide) rfl
  | 59,_=> exact key 59 _ (by decide) rfl
  | 60,_=> exact key 60 _ (by decide) rfl
  | 61,_=> exact key 61 _ (by decide) rfl
  | 62,_=> exact key 62 _ (by decide) rfl
  | 63,_=> exact key 63 _ (by decide) rfl
  | j+64,c=> exact absurd c (by simp [Lib.deBruijn64tab])
theorem lifted (os:Os) (started:os.Started) (H:Type) (enc:TypeId×Value->H):
    ReturnsInHanded {} Tryz.checked os 3 .any (λw args=>(Rows.trialLeavesSpec.pre enc Tryz.prog Tryz.f3 Rows.trialLeavesRow.domain false w args/\laidMetH Tryz.prog Rows.trialLeavesRow.laid w)/\sizedMet enc Tryz.prog Tryz.f3 (OpenSpec.ofChange Rows.trialLeavesSpec) false w args) (Rows.trialLeavesSpec.post enc Tryz.prog Tryz.f3 false true false false):=by
  refine returnsInHanded_of_change_and (C:=Tryz.checked) (X:= λw _=>laidMetH Tryz.prog Rows.trialLeavesRow.laid w) (λ_ _ _ x h=>h.of_heap x) own started (by kernel_rfl) Tryz.func3
    (ChangeSpec.witness_shaped (enc:=enc) (C:=Tryz.checked) (os:=os) (X:= λw _=>laidMetH Tryz.prog Rows.trialLeavesRow.laid w) false (World.laidAll Tryz.prog os Rows.trialLeavesRow.laid) #[.int .i64 0,.slice none 0 0,.slice none 0 0,.slice none 0 0,.slice none 0 0] 8 (World.laidAll_os _ _ _) (World.shaped_of_ZipB (by kernel_rfl) (by kernel_rfl)) (by kernel_rfl) (by kernel_rfl) (by kernel_rfl) (by rw[MakeChecks.laidMetH_plain _ _ _ (by kernel_rfl)];exact laidMet_laidAll _ (by kernel_rfl) (by kernel_rfl))) ?_
  intro W base args ds gs before b r s _ y _;have a: ∀(j:Nat) t v,Tryz.f3.params[j]? =some t->args[j]? =some v->Value.okWide Tryz.prog W .any base t v:=b;have k:=r;obtain⟨p,q,g,z,rfl,A,B⟩:=r;have m:DataW.TrodAll enc Tryz.prog W 0 (λ_=>true) true Tryz.f3.params.toList args.toList ds p:=g;have i:=m;rw[Tryz.params3]at m a;obtain⟨v0,vs0,d0,ds0,p0,q0,n,rfl,rfl,D,E⟩:=trodAll_cons m;obtain⟨v1,vs1,d1,ds1,p1,q1,rfl,rfl,rfl,F,G⟩:=trodAll_cons E;obtain⟨v2,vs2,d2,ds2,p2,q2,rfl,rfl,rfl,I,J⟩:=trodAll_cons G;obtain⟨v3,vs3,d3,ds3,p3,q3,rfl,rfl,rfl,K,L⟩:=trodAll_cons J;obtain⟨v4,vs4,d4,ds4,p4,q4,rfl,rfl,rfl,M,N⟩:=trodAll_cons L;obtain⟨rfl,rfl,rfl⟩:=trodAll_nil N;obtain rfl:args= #[v0,v1,v2,v3,v4]:=by cases args;simp_all
  obtain⟨rfl,rfl⟩:=trodVars_none z;obtain⟨a0,rfl,rfl,rfl,w0⟩:=open_int Tryz.underlying3 (a 0 3 v0 rfl rfl) D;obtain⟨x1,O,P,rfl⟩:=okWide_slice Tryz.underlying22 (a 1 22 v1 rfl rfl)
  obtain⟨l1,Q⟩: ∃l,Yy spCod.rd spCod.size W (.slice x1 O P) l:=by
    obtain⟨fuel,d⟩:=F;obtain⟨l,v,c,f⟩:=(Cod.slice Tryz.underlying22 (by kernel_rfl) spCod (by decide)).down d;simp only[Value.cells,List.cons.injEq,and_true]at c;subst c;exact⟨l,f⟩
  obtain⟨x2,R,S,rfl⟩:=okWide_slice Tryz.underlying23 (a 2 23 v2 rfl rfl)
  obtain⟨l2,w2⟩: ∃l,Yy ssCod.rd ssCod.size W (.slice x2 R S) l:=by
    obtain⟨fuel,d⟩:=I;obtain⟨l,v,c,f⟩:=(Cod.slice Tryz.underlying23 (by kernel_rfl) ssCod (by decide)).down d;simp only[Value.cells,List.cons.injEq,and_true]at c;subst c;exact⟨l,f⟩
  obtain⟨T,U,V,rfl⟩:=okWide_slice Tryz.underlying24 (a 3 24 v3 rfl rfl)
  obtain⟨l3,Y⟩: ∃l,Yy qintC.rd qintC.size W (.slice T U V) l:=by
    obtain⟨fuel,d⟩:=K;obtain⟨l,v,c,f⟩:=(Cod.slice Tryz.underlying24 (by kernel_rfl) qintC (by decide)).down d;simp only[Value.cells,List.cons.injEq,and_true]at c;subst c;exact⟨l,f⟩
  obtain⟨Z,y4,z4,rfl⟩:=okWide_slice Tryz.underlying24 (a 4 24 v4 rfl rfl)
  obtain⟨l4,w4⟩: ∃l,Yy qintC.rd qintC.size W (.slice Z y4 z4) l:=by
    obtain⟨fuel,d⟩:=M;obtain⟨l,v,c,f⟩:=(Cod.slice Tryz.underlying24 (by kernel_rfl) qintC (by decide)).down d;simp only[Value.cells,List.cons.injEq,and_true]at c;subst c;exact⟨l,f⟩
  clear g b;refine(Ph (of_laid y) Q w2 Y w4).mono λe W' ⟨he,bel⟩=> ?_;subst he;have o:=Rt laidOut bel _ _ _ _ (by rw[Tryz.params3];intro t u;simp only[List.mem_cons,List.not_mem_nil,or_false]at u;rcases u with rfl | rfl | rfl | rfl | rfl<;> exact⟨by kernel_rfl,of_decide_eq_true (by kernel_rfl)⟩) i
  exact⟨_,rfl,_,_,_,[],_,[],k,trodAll_mk1 (shut_bool Tryz.underlying4 _),o,rfl,bel.frame _,λh=>by cases h⟩
theorem over:Rows.trialLeavesRow.holds Tryz.pinned (OpenSpec.ofChange Rows.trialLeavesSpec):=
  OpenClaim.holds_of_wide 3 Tryz.f3 rfl rfl rfl rfl rfl rfl rfl ⟨rfl,rfl,rfl,rfl,rfl⟩ rfl rfl rfl rfl rfl (by kernel_rfl) Tryz.func3 (by kernel_rfl)
    (of_decide_eq_true (by kernel_rfl)) (by unfold Func.isWrapper;(rw[if_neg (by decide+kernel)];exact⟨rfl,rfl⟩))
    (λos started H enc _=>lifted os started H enc)
theorem card:Rows.TrialLeavesCardSaid:=
  Claim7.holds_tied_plain_at .later [] [.data] true (true, "582b80db200077d6d014dfb0bbd5157d4251e4a16076ea2fcd27c0fe9d2ae777") true over (fun _ h => by cases h) (by kernel_rfl) (fun _ h => by cases h) trialLeaves_row_tie rfl ⟨rfl, rfl⟩ (by kernel_rfl) rfl
    (fun f fn hf hfn=> by
      obtain rfl : f = 3 := Option.some.inj ((show Tryz.prog.funcNamed "rehearsal/rehearsallaw18.TrialLeaves" = some 3 by kernel_rfl).symm.trans hf) |>.symm
      obtain rfl:fn=Tryz.f3:=(Option.some.inj (Tryz.func3.symm.trans hfn)).symm
      refine⟨by kernel_rfl, fun j t ht=> ?_⟩
      rw[Tryz.params3]at ht
      have hall: ∀t∈([3,22,23,24,24]:List TypeId),Tryz.prog.wantsStandIn t=false:= by intro t ht; simp only[List.mem_cons,List.not_mem_nil,or_false]at ht; rcases ht with rfl | rfl | rfl | rfl | rfl<;>kernel_rfl
      exact hall t (by have :=Array.mem_of_getElem? ht;simpa using this))
    (by kernel_rfl)
end Go.Proofs.YtifaibmhinlcfaaGreatDoor.trialLeavesP
namespace Go.Proofs.YtifaibmhinlcfaaGreatDoor
theorem trialLeaves_holds:Rows.TrialLeavesCardSaid:=trialLeavesP.card
