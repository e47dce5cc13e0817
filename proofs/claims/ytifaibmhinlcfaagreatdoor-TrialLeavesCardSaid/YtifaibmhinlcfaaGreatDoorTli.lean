/- laws of trials: TrialLeaves -/
import Derived.Test.YtifaibmhinlcfaaGreatDoorTlc
import Derived.Test.YtifaibmhinlcfaaGreatDoorTle
import Derived.Test.YtifaibmhinlcfaaGreatDoorTr13
import Derived.Test.YtifaibmhinlcfaaGreatDoorLv1
import Derived.Test.YtifaibmhinlcfaaGreatDoorMem
import Derived.ProofKit
import Derived.OpenShut
import Derived.ShutString
import Derived.ChangeOld
import Derived.Deep.Slices
import Derived.Deep.Fields
import Derived.ChangeSame
import Derived.JoinedCond
set_option linter.unusedSectionVars false
set_option linter.unusedVariables false
set_option maxRecDepth 100000
set_option maxHeartbeats 6400000
namespace Go.Proofs.YtifaibmhinlcfaaGreatDoor
open Go.RowKit M Proofs.Tryz
theorem qdu: ∀m:Nat,(List.replicate m (intV 0).cells.toList).flatten=inC.cells (List.replicate m 0)
  | 0=>rfl
  | m+1=>by rw[List.replicate_succ,List.flatten_cons,qdu m];rfl
theorem Pi {w:World} {F:Th} (hS:Sat w [F]) (hG:Ent F GT) (count:Int) {fv lv kv sv:Value} {fl:List StD} {ls:List TkD} {ks sl:List Int} (u:Ent F (RdL FM fv fl)) (hL:Ent F (RdL Ci lv ls)) (hE: ∀t∈ls,Ent F (RdL FM (U5 t.v) t.l)) (hK:Ent F (RdL inC kv ks)) (r:Ent F (RdL inC sv sl)):
    Calls prog 3 #[intV count,fv,lv,kv,sv] w (Ret λv w'=>v= .bool true/\Sat w' [F]):=by
 letI:Inhabited SlW:=⟨⟨4096,4000⟩⟩
 have S:400<(default:SlW).f:=by decide
 obtain⟨af,cf,rfl,c4⟩:=(u.sat hS 0 rfl).shape;obtain⟨ao,cap,rfl,c0⟩:=(hL.sat hS 0 rfl).shape;obtain⟨aok,capk,rfl,c5⟩:=(hK.sat hS 0 rfl).shape;obtain⟨asc,csc,rfl,c6⟩:=(r.sat hS 0 rfl).shape;refine Qn func3 U ntmps3 U ?_;refine Qe<|Qa<|Qd U U<|Qf<|Qc<|Qe<|Qa<|Qw cal_4 U (small18 (hS.sp [] U) (hG.starL 0 U)) U ?_;rintro _ w1 ⟨rfl,j1⟩;replace j1:=j1.jn U U;refine Qd U U<|Qf<|Qc<|Qe<|Qa<|Qb U U ?_;refine Qw cal_5 U (EY (j1.sp [] U) count U (by show 4000<=(min (max count 1) 256).toNat+(min (max 4096 0) 4096:Int).toNat;omega)) U ?_;rintro _ w2 ⟨a,p,C0,rfl,b0,j2⟩;replace j2:=j2.jn U U;have j3:=qbd b0 (j2.pick [0,1,2,3] U);refine Qb U U<|Qr U U U<|Qr U U U<|Qd U U<|Qd U U<|Qf<|Qc<|Qh [4,3,2,1,10,11,12,13] U<|Qe<|Qa<|Qw cal_6 U (new_sp (j3.sp [] U)) U ?_;rintro _ w4 ⟨wq,rfl,j4⟩;replace j4:=j4.jn U U;refine Qd U U<|Qf<|Qc<|Qe<|Qa<|Qb U U<|X8 Ci [(⟨⟨af,fl.length,cf⟩,fl⟩:TkD)] j4 U underlying23 L9 U U U U (by first | rfl | simp [RowC.cells,Jz,X6]) U ?_
 intro b5 w5 j5;refine Qd U U<|Qf<|Qc<|Qh [4,3,2,1,10,11,12,13,14,15] U<|Qe<|Qe<|Qa<|Qb U U<|Qb U U<|Qw cal_7 U (Fi (j5.sp [] U) (hL.starL 3 U) (λt N=>Ent.starL (hE t N) 3 U) (hK.starL 3 U)) U ?_;rintro _ w6 ⟨bf,rfl,b1,j6⟩;replace j6:=j6.jn U U;refine QX U U<|Qb U U<|X9 37 U (λA=> ?_) (λA=> ?_)
 ·refine Qi U U A U<|Qi U U A U<|Qi U U A U<|Qi U U A U<|QF U A U U<|Qb U U<|Qi U U U U<|Qi U U U U<|Qi U U U U<|QF U U U U<|Qb U U<|Qi U U U U<|Qi U U U U<|QF U U U U<|Qb U U<|Qi U U U U<|Qi U U U U<|QF U U U U<|Qb U U<|Qi U U U U<|Qi U U U U<|QF U U U U<|Qf<|Qc<|Qh [4,3,2,1,10,11,12,13,14,59] U<|Xm U<|Qe<|Qa<|Qb U U<|Qb U U<|X9 61 U (λh8=> ?_) (λh8=> ?_)
  ·exact Qk U U h8 (Qb U U (Qk U U h8 (Zi underlying26 U U U (QF U h8 U U (Qb U U (Qk U U U (Qb U U (Qk U U U (Zi underlying30 U U U (QF U U U U (Qd U U (Qf (Qc (Qh [4,3,2,1,11,12,13,14,10] U (Qu (Qq (QJ (.inr U) U U (⟨_,U,U,j6.pick [3] U⟩))))))))))))))))))
  exact absurd h8 (by decide)
 have hF:=b1 (by simpa using A);have c7:=hF.n;refine Qk U U A<|Qb U U<|Qk U U A<|X8 inC [0] j6 U underlying24 Uf U U U U (by rfl) rfl ?_;intro b9 w9 j9;refine Qk U U A ?_;refine Qw cal_7 rfl (Fi (j9.sp [] rfl) (ls:=[(⟨⟨af,fl.length,cf⟩,fl⟩:TkD)]) (ks:=[0]) (Ent.starL (Ja (C:=Ci) (by simp)) 1 rfl) (λt N=>by obtain rfl:=List.mem_singleton.1 N;exact u.starL 4 rfl) (Ent.starL (Ja (C:=inC) (by simp)) 0 rfl)) rfl ?_;rintro _ c8 ⟨bf1,rfl,ac,B⟩;replace B:=B.jn U U;refine Qk U U A<|QX U U<|Q9 U A U U<|Qb U U<|X9 43 U (λd=> ?_) (λd=> ?_)
 ·refine Qi U U d U<|Qi U U d U<|Qi U U d U<|QF U d U U<|Qb U U<|Qi U U U U<|Qi U U U U<|QF U U U U<|Qb U U<|Qi U U U U<|Qi U U U U<|QF U U U U<|Qb U U<|Qi U U U U<|Qi U U U U<|QF U U U U<|Qf<|Qc<|Qh [4,3,2,1,10,11,12,13,14,59] U<|Xm U<|Qe<|Qa<|Qb U U<|Qb U U<|X9 61 U (λD=> ?_) (λD=> ?_)
  ·exact Qk U U D (Qb U U (Qk U U D (Zi underlying26 U U U (QF U D U U (Qb U U (Qk U U U (Qb U U (Qk U U U (Zi underlying30 U U U (QF U U U U (Qd U U (Qf (Qc (Qh [4,3,2,1,11,12,13,14,10] U (Qu (Qq (QJ (.inr U) U U (⟨_,U,U,B.pick [4] U⟩))))))))))))))))))
  exact absurd D (by decide)
 have ad:=ac (by simpa using d);have O:=(ad.t _ (List.mem_singleton_self _)).2;have b2:=(ad.t _ (List.mem_singleton_self _)).1;dsimp only at O b2;refine Qk U U d<|Qb U U<|Qk U U d<|Xl underlying24 U U<|Qk U U d<|JJ U U U<|Q9 U d U U<|Qb U U<|QZ 48 U (λh=> ?_) (λh=> ?_)
 ·refine Qi U U (det h) U<|Qi U U (det h) U<|QF U (det h) U U<|Qb U U<|Qi U U U U<|Qi U U U U<|QF U U U U<|Qb U U<|Qi U U U U<|Qi U U U U<|QF U U U U<|Qf<|Qc<|Qh [4,3,2,1,10,11,12,13,14,59] U<|Xm U<|Qe<|Qa<|Qb U U<|Qb U U<|X9 61 U (λE=> ?_) (λE=> ?_)
  ·exact Qk U U E (Qb U U (Qk U U E (Zi underlying26 U U U (QF U E U U (Qb U U (Qk U U U (Qb U U (Qk U U U (Zi underlying30 U U U (QF U U U U (Qd U U (Qf (Qc (Qh [4,3,2,1,11,12,13,14,10] U (Qu (Qq (QJ (.inr U) U U (⟨_,U,U,B.pick [4] U⟩))))))))))))))))))
  exact absurd E (by decide)
 refine Qk U U (QH h)<|Qb U U<|Qk U U (QH h)<|XG underlying26 U U U<|Q9 U (QH h) U U<|Qb U U<|Qk U U U<|Qb U U<|Qk U U U<|XG underlying27 U U U<|Q9 U U U U<|Qb U U<|Qk U U U<|Qb U U<|Qk U U U<|XG underlying30 U U U<|Q9 U U U U<|Qf<|Qc<|Qh [4,3,2,1,10,11,12,13,14,59] U<|QM U<|Qt<|Qc<|Qe<|Qa<|Qb U U<|Qw cal_9 U (Lc (B.sp [3] U)) U ?_;rintro _ c9 ⟨vb,rfl,T⟩;replace T:=T.jn U U;refine Qb U U<|Qw cal_8 U (OS (T.sp [0,1] U) (u.starL 3 U) O (by omega) S) U ?_;rintro _ ca V;replace V:=V.jn U U;obtain⟨P,b3⟩:=tlT_fix (VZ (j:=30) (by omega) (V.pick [1,0,2,3,4,5] rfl));refine Qf<|Qc<|Qh [4,3,2,1,10,11,12,13,14] U<|Qe<|Qa<|Qb U U<|Qb U U<|Qw cal_10 U (OO (b3.sp [4] U) wok_empty (u.starL 4 U) O (by omega)) U ?_;rintro _ cb W;replace W:=W.jn U U;have ae:=wok_empty.run O;refine Qf<|Qc<|Qh [4,3,2,1,10,11,12,13,14] U<|Qe<|Qa<|Qb U U<|Qw qfw U (El (W.sp [1] U) (by omega)) U ?_;rintro _ cc ⟨il,ag,c1,Q⟩;replace Q:=Q.jn U U;obtain⟨ai,ci,b4,_⟩:=Q.own_shape 0 rfl;obtain rfl:=b4;refine Qd U U<|Qf<|Qc<|Qe<|Qa<|Qd U U<|Qf<|Qc<|Qe<|Qe<|Qa<|Qd U U<|Qf<|Qc<|Qx ?_;have X:=(Q.pick [0,1,2,3,4,5,6] U).row_nil inC;refine QU (λK0 E0 W0=> ∃(x:Nat) (rv:Value) (rl:List Int),K0=il.length -x/\E0=[(1,.slice af fl.length cf),(2,.slice ao ls.length cap),(3,.slice aok ks.length capk),(4,.slice asc sl.length csc),(11,.bool true),(12,ptrV a.t 0),(13,ptrV p 0),(14,ptrV wq 0),(16,.slice ai il.length ci),(17,rv),(18,intV (x:Int))]/\Sat W0 [rowT inC (.slice ai il.length ci) il,rowT inC rv rl,J1 a p 30 (RK emptyW fl) [] (some P),Xv wq (RK emptyW fl),F]/\(x<=il.length)/\(RfL P il rl)/\(rl.length=x)) (L0:=[(1,_),(2,_),(3,_),(4,_),(11,_),(12,_),(13,_),(14,_),(16,_),(17,_),(18,_)]) (il.length) (On U U U U U U U U U U U) ⟨0,_,[],rfl,rfl,X.pick [1,0,2,3,7] U,by omega,.nil,rfl⟩ ?_;rintro _ _ cd ⟨x,rv,rl,rfl,rfl,G,hx,ah,aj⟩;refine Qe<|Qe<|Qa<|Qb U U<|Qb U U<|Wa 0 G underlying24 U U U<|Xa U U U<|Qf<|Qc<|Qh [18,17,16,14,13,12,11,4,3,2,1,81] U<|Qs U (λb6=> ?_) (λb6=> ?_)
 ·obtain⟨s,hs⟩: ∃s,il[x]? =some s:=⟨_,XQ (by omega)⟩;have b7:=((ag.2 s).1 (List.mem_of_getElem? hs)).1;refine Qt<|Qc<|Qe<|Qx<|Qa<|Qb U U<|Qb U U<|Qb U U<|Qb U U<|Xj inC 0 x G U U U (by first | rfl | omega) hs WZ U ?_
  intro bx23 capx23 Y;refine Zh 0 x 0 G U Y U U hs QL U U<|Qw TO U (Ek (G.sp [2] U) (by omega) b7) U ?_;rintro _ ce ⟨n,hn,rfl,Z⟩;replace Z:=Z.jn U U;refine X8 inC [(n:Int)] Z U underlying24 Uf U U U U (by rfl) rfl ?_;intro cg ch ak;refine Zx inC 3 ak U U U (ak.rd 0 U (by simp)) underlying24 underlying24 (by intro k hk;cases hk) H0 U (by simp only[List.length_cons,List.length_nil,inC];omega) U (by simp only[List.length_cons,List.length_nil,inC];omega) ?_;intro b8 cj a0;dsimp only[List.set]at a0;have bb:b8.oneCell'=true:=a0.own_one 3 U;refine Qd U U<|Qf<|Qm<|Qc<|Qh [18,16,14,13,12,11,4,3,2,1,17] U<|Qa<|Qb U U<|QE U U (by omega) (by omega) U ?_;refine Qd U U<|Qf ?_;exact Q5 (L1:=[(1,_),(2,_),(3,_),(4,_),(11,_),(12,_),(13,_),(14,_),(16,_),(17,_),(18,intV ((x+1:Nat):Int))]) (On U U U U U U U U U U U) (k1:=il.length -(x+1)) (by omega) ⟨x+1,_,_,rfl,rfl,a0.pick [2,3,1,4,5] U,by omega,ah.app (aj▸hs) hn,by rw[List.length_append,aj];rfl⟩
 refine QQ<|Qp<|Qp<|Qy<|Qc<|Qe<|Qa<|X8 Ci [] G U underlying23 L9 U U U U (by first | rfl | simp [RowC.cells,Jz,X6]) U ?_
 intro ck cl al;refine Qb U U ?_;refine Zx Ci 0 al U U U (hL.sat al 5 U) underlying23 underlying23 (by intro k hk;cases hk) qdz U (by simp only[List.length_nil,Ci];omega) U (by simp only[List.length_nil,Ci];omega) ?_;intro bc cm a1;dsimp only[List.set]at a1;have bd:bc.oneCell'=true:=a1.own_one 0 U;refine Qb U U<|X8 Ci [(⟨⟨af,fl.length,cf⟩,fl⟩:TkD)] a1 U underlying23 L9 U U U U (by rfl) rfl ?_;intro co cp am;refine Zx Ci 1 am U U U (am.rd 0 U (by simp)) underlying23 underlying23 (by intro k hk;cases hk) qdz U (by simp only[List.length_append,List.length_cons,List.length_nil,Ci];omega) U (by simp only[List.length_append,List.length_cons,List.length_nil,Ci];omega) ?_;intro be cq a2;dsimp only[List.set]at a2;have bg:be.oneCell'=true:=a2.own_one 1 U;refine Qd U U<|Qf<|Qc<|Qh [17,16,14,13,12,11,4,3,2,19] U ?_;refine Mt (λE0 W0=> ∃(pb bi ba:Nat) (alv:Value),E0=[(2,.slice ao ls.length cap),(4,.slice asc sl.length csc),(11,.bool true),(12,ptrV a.t 0),(13,ptrV p 0),(14,ptrV wq 0),(16,.slice ai il.length ci),(17,rv),(19,alv),(20,ptrV pb 0)]/\Sat W0 [Q6 pb [ptrV a.t 0,intV 0,.slice ao ls.length cap,.slice aok ks.length capk,.slice (some ⟨bi,0,none⟩) ls.length ls.length,.slice (some ⟨ba,0,none⟩) ls.length ls.length,intV 0,.bool true],rowT inC (.slice (some ⟨bi,0,none⟩) ls.length ls.length) (List.replicate ls.length 0),rowT inC (.slice (some ⟨ba,0,none⟩) ls.length ls.length) (List.replicate ls.length 0),rowT Ci alv (([]++ls)++[(⟨⟨af,fl.length,cf⟩,fl⟩:TkD)]),rowT inC (.slice ai il.length ci) il,rowT inC rv rl,J1 a p 30 (RK emptyW fl) [] (some P),Xv wq (RK emptyW fl),F]) ?_ ?_
 ·have ap:=a2.drew;refine Mu Z9<|T9 5 8 U ?_ ?_
  ·refine R1 (sp:=[5,8,10]) [0,1,2,3,4,6,7,5,8,9,10,11] (by kernel_rfl) ?_;refine Q3 U U U<|Q3 U U U<|Q3 U U U<|Q3 U U U<|Xi U U U (λ_=>(YT underlying23 U)) ?_;refine Q3 U U U<|Xi U U U (λ_=>(YT underlying23 U)) ?_;refine QO U U U U U U ?_;refine Ve ap ls.length U U U underlying24 H0 U (by omega) (by omega) U ?_;intro bi cr H;have bh:=H.row_cast (l:=List.replicate ls.length 0) (C:=inC) (by simp) U (qdu _);clear H;refine Xh .nil<|QO U U U U U U ?_;refine Ve bh ls.length U U U underlying24 H0 U (by omega) (by omega) U ?_;intro ba cs I;have bj:=I.row_cast (l:=List.replicate ls.length 0) (C:=inC) (by simp) U (qdu _);clear I;refine Xh .nil<|Xi U U U (λ_=>(Wy U Uq qga zr_41 U)) ?_;refine QO U U U U U U ?_;refine XL bj U U U ?_;intro pb bk a3;replace a3:Sat bk (Q6 pb [ptrV a.t 0,intV 0,.slice ao ls.length cap,.slice aok ks.length capk,.slice (some ⟨bi,0,none⟩) ls.length ls.length,.slice (some ⟨ba,0,none⟩) ls.length ls.length,intV 0,.bool true]::_):=a3;exact Xh .nil (Zd U U U (VC.nil (Hx (Cc U U U U U U U U U U) ⟨pb,bi,ba,_,U,a3.pick [0,2,1,4,5,6,7,8,9] U⟩)))
  refine R1 (sp:=[5,8,10]) [0,1,2,3,4,6,7,8,5,9,10,11] (by kernel_rfl) ?_;refine Q3 U U U<|Q3 U U U<|Q3 U U U<|Q3 U U U<|Xi U U U (λ_=>(YT underlying23 U)) ?_;refine Q3 U U U<|Xi U U U (λ_=>(YT underlying23 U)) ?_;refine QO U U U U U U ?_;refine Ve ap ls.length U U U underlying24 H0 U (by omega) (by omega) U ?_;intro ba ct J;have bl:=J.row_cast (l:=List.replicate ls.length 0) (C:=inC) (by simp) U (qdu _);clear J;refine Xh .nil<|QO U U U U U U ?_;refine Ve bl ls.length U U U underlying24 H0 U (by omega) (by omega) U ?_;intro bi cu K;have bm:=K.row_cast (l:=List.replicate ls.length 0) (C:=inC) (by simp) U (qdu _);clear K;refine Xh .nil<|Xi U U U (λ_=>(Wy U Uq qga zr_41 U)) ?_;refine QO U U U U U U ?_;refine XL bm U U U ?_;intro pb bn a4;replace a4:Sat bn (Q6 pb [ptrV a.t 0,intV 0,.slice ao ls.length cap,.slice aok ks.length capk,.slice (some ⟨bi,0,none⟩) ls.length ls.length,.slice (some ⟨ba,0,none⟩) ls.length ls.length,intV 0,.bool true]::_):=a4;exact Xh .nil (Zd U U U (VC.nil (Hx (Cc U U U U U U U U U U) ⟨pb,bi,ba,_,U,a4.pick [0,1,2,4,5,6,7,8,9] U⟩)))
 rintro _ cv ⟨pb,bi,ba,alv,rfl,bo⟩;refine Qe<|Qe<|Qa<|Qd U U<|Qf<|Qc<|Qx ?_;refine QU (λK0 E0 W0=> ∃(y:Nat) (ids idl atl:List Int),K0=sl.length -y/\E0=[(2,.slice ao ls.length cap),(4,.slice asc sl.length csc),(11,.bool true),(12,ptrV a.t 0),(13,ptrV p 0),(14,ptrV wq 0),(16,.slice ai il.length ci),(17,rv),(19,alv),(20,ptrV pb 0),(21,intV (y:Int))]/\Sat W0 [Q6 pb [ptrV a.t 0,intV 0,.slice ao ls.length cap,.slice aok ks.length capk,.slice (some ⟨bi,0,none⟩) ls.length ls.length,.slice (some ⟨ba,0,none⟩) ls.length ls.length,intV 0,.bool true],rowT inC (.slice (some ⟨bi,0,none⟩) ls.length ls.length) idl,rowT inC (.slice (some ⟨ba,0,none⟩) ls.length ls.length) atl,rowT Ci alv (([]++ls)++[(⟨⟨af,fl.length,cf⟩,fl⟩:TkD)]),rowT inC (.slice ai il.length ci) il,rowT inC rv rl,J1 a p (30+3*y) (RK emptyW fl) ids (some P),Xv wq (RK emptyW fl),F]/\(y<=sl.length)/\(PlI ls ids idl atl)) (L0:=[(2,_),(4,_),(11,_),(12,_),(13,_),(14,_),(16,_),(17,_),(19,_),(20,_),(21,_)]) (sl.length) (On U U U U U U U U U U U) ⟨0,[],_,_,rfl,rfl,bo.pick [0,1,2,3,4,5,6,7,8] U,by omega,.start⟩ ?_;rintro _ _ cw ⟨y,ids,idl,atl,rfl,rfl,e,hy,hP⟩;refine Qe<|Qe<|Qa<|Qb U U<|Qb U U<|Xl underlying24 U U<|Xa U U U<|Qb U U<|QZ 114 U (λc=> ?_) (λc=> ?_)
 ·refine Qk U U (det c)<|Qb U U<|Qk U U (det c)<|Qj U U<|Qk U U (det c)<|Qg U DZ U<|Qk U U (det c)<|Qo U VM (e.cell 0 U U) U<|QF U (det c) U U<|Qf<|Qc<|Qh [21,20,19,17,16,14,13,12,11,4,2,119] U<|QR U (λaq=> ?_) (λaq=> ?_)
  ·obtain⟨z,hz⟩: ∃z,sl[y]? =some z:=⟨_,XQ (by omega)⟩;obtain⟨b9,off9,rfl,_⟩:=(r.sat e 8 rfl).get hz;refine Qt<|Qc<|Qe<|Qx<|Qe<|Qa<|Qb U U<|Xl underlying23 U U<|JJ U U U<|Qb U U<|QZ 125 U (λb=> ?_) (λb=> ?_)
   ·refine Qk U U (det b)<|Qb U U<|Qk U U (det b)<|Qb U U<|Qk U U (det b)<|Xt y U U (by rfl) (by omega) WZ U ?_;refine Qk U U (det b)<|Qo U QL ((r.sat e 8 U).at_ hz 0 _ U) U<|Qk U U (det b)<|WU U U U<|QF U (det b) U U<|Qf<|Qc<|Qh [21,20,19,17,16,14,13,12,11,4,2,131] U<|Qs U (λbp=> ?_) (λbp=> ?_)
    ·obtain⟨kz,bq,br⟩: ∃kz:Nat,z%(ls.length:Int)=(kz:Int)/\kz<ls.length:=⟨(z%(ls.length:Int)).toNat,(Int.toNat_of_nonneg (Int.emod_nonneg _ (by omega))).symm,by have :=Int.emod_lt_of_pos z (show 0<(ls.length:Int)by omega);have :=Int.emod_nonneg z (show(ls.length:Int)≠0 by omega);omega⟩;refine Qa<|Qb U U<|Qb U U<|Qb U U<|Xt y U U (by first | rfl | omega) (by omega) WZ U ?_
     refine Qo U QL ((r.sat e 8 U).at_ hz 0 _ U) U<|Qb U U<|Xl underlying23 U U<|Vd U U (by omega) (by omega) U ?_;rw[bq];refine Qw cal_13 U (qgk (e.sp [0,1,2,6] U) (by omega) S (hL.starL 4 U) (λt N=>Ent.starL (hE t N) 4 U) (hK.starL 4 U) hF hP br) U ?_;rintro _ cx ⟨ids2,idl2,atl2,bs,a5⟩;replace a5:=a5.jn U U;refine Qf<|Qm<|Qc<|Qh [21,20,19,17,16,14,13,12,11,4,2] U<|Qa<|Qb U U<|QE U U (by omega) (by omega) U ?_;refine Qd U U<|Qf ?_;have ar:=VZ (j:=30+3*(y+1)) (by omega) (a5.pick [3,0,1,2,4,5,6,7,8] U);exact Q5 (L1:=[(2,_),(4,_),(11,_),(12,_),(13,_),(14,_),(16,_),(17,_),(19,_),(20,_),(21,intV ((y+1:Nat):Int))]) (On U U U U U U U U U U U) (k1:=sl.length -(y+1)) (by omega) ⟨y+1,_,_,_,rfl,rfl,ar.pick [1,2,3,4,5,6,0,7,8] U,by omega,bs⟩
    refine Qt<|Qm<|Qc<|Qa<|Qb U U<|QE U U (by omega) (by omega) U ?_;refine Qd U U<|Qf ?_;have au:=VZ (j:=30+3*(y+1)) (by omega) (e.pick [6,0,1,2,3,4,5,7,8] U);exact Q5 (L1:=[(2,_),(4,_),(11,_),(12,_),(13,_),(14,_),(16,_),(17,_),(19,_),(20,_),(21,intV ((y+1:Nat):Int))]) (On U U U U U U U U U U U) (k1:=sl.length -(y+1)) (by omega) ⟨y+1,_,_,_,rfl,rfl,au.pick [1,2,3,4,5,6,0,7,8] U,by omega,hP⟩
   refine Qi U U (QH b) U<|Qi U U (QH b) U<|Qi U U (QH b) U<|Qi U U (QH b) U<|Qi U U (QH b) U<|Q9 U (QH b) U U<|Qf<|Qc<|Qh [21,20,19,17,16,14,13,12,11,4,2,131] U<|QM U<|Qt<|Qm<|Qc<|Qa<|Qb U U<|QE U U (by omega) (by omega) U ?_;refine Qd U U<|Qf ?_;have av:=VZ (j:=30+3*(y+1)) (by omega) (e.pick [6,0,1,2,3,4,5,7,8] U);exact Q5 (L1:=[(2,_),(4,_),(11,_),(12,_),(13,_),(14,_),(16,_),(17,_),(19,_),(20,_),(21,intV ((y+1:Nat):Int))]) (On U U U U U U U U U U U) (k1:=sl.length -(y+1)) (by omega) ⟨y+1,_,_,_,rfl,rfl,av.pick [1,2,3,4,5,6,0,7,8] U,by omega,hP⟩
  exact absurd aq (by decide)
 refine Qi U U (QH c) U<|Qi U U (QH c) U<|Qi U U (QH c) U<|Qi U U (QH c) U<|Q9 U (QH c) U U<|Qf<|Qc<|Qh [21,20,19,17,16,14,13,12,11,4,2,119] U<|QM U<|QQ<|Qp<|Qp<|Qy<|Qc<|Qh [20,19,17,16,14,13,12,11] U<|Qe<|Qe<|Qa<|Qb U U<|Qj U U<|Qg U DZ U<|Qo U VM (e.cell 0 U U) U<|QX U U<|Qb U U<|X9 146 U (λg=> ?_) (λg=> ?_)
 ·exact absurd g (by decide)
 refine Qk U U g<|Qb U U<|Qk U U g<|Qb U U<|Qk U U g<|Qb U U<|Qk U U g ?_;refine Qw qfv rfl (FJ (e.sp [6,7] rfl) ae (by omega) (by omega) (ls:=(([]++ls)++[(⟨⟨af,fl.length,cf⟩,fl⟩:TkD)])) (Ent.starL (Ja (C:=Ci) (by simp only[List.length_append,List.length_cons,List.length_nil];omega)) 3 rfl) (λt N=>by rcases List.mem_append.1 N with L | L;(rw[List.nil_append]at L;exact Ent.starL (hE t L) 6 rfl);(obtain rfl:=List.mem_singleton.1 L;exact u.starL 6 rfl))) rfl ?_
 rintro _ cy ⟨rfl,a6⟩;replace a6:=a6.jn U U;refine Qk U U g<|QX U U<|Q9 U g U U<|Qf<|Qc<|Qh [19,17,16,14,13,12,11,152] U<|QR U (λaw=> ?_) (λaw=> ?_)
 ·exact absurd aw (by decide)
 refine Qt<|Qc<|Qe<|Qa<|Qb U U<|Qw LW U (EK (a6.sp [0] U)) U ?_;rintro _ bt ⟨nl,bu,c2,M⟩;replace M:=M.jn U U;rw[<-bu]at M;obtain⟨an,cn,bv,_⟩:=M.own_shape 0 rfl;obtain rfl:=bv;refine Qd U U<|Qf<|Qc<|Qh [19,17,16,14,13,12,11,22] U<|Qe<|Qe<|Qa<|Qd U U<|Qf<|Qc<|Qx ?_
 have ax:Sat bt [rowT O7 (.slice an nl.length cn) nl,rowT Ci alv (([]++ls)++[(⟨⟨af,fl.length,cf⟩,fl⟩:TkD)]),rowT inC (.slice ai il.length ci) il,rowT inC rv rl,J1 a p (30+3*y+1+0) (RK emptyW fl) ((nl.drop 0).map NodeD.id) (some P),Xv wq (RK emptyW fl),F]:=by
  have L:=M.pick [0,6,7,8,1,2,9] U;rw[List.drop_zero];exact L
 refine QU (λK0 E0 W0=> ∃(q:Nat),K0=nl.length -q/\E0=[(11,.bool true),(12,ptrV a.t 0),(13,ptrV p 0),(14,ptrV wq 0),(16,.slice ai il.length ci),(17,rv),(19,alv),(22,.slice an nl.length cn),(23,intV (q:Int))]/\Sat W0 [rowT O7 (.slice an nl.length cn) nl,rowT Ci alv (([]++ls)++[(⟨⟨af,fl.length,cf⟩,fl⟩:TkD)]),rowT inC (.slice ai il.length ci) il,rowT inC rv rl,J1 a p (30+3*y+1+q) (RK emptyW fl) ((nl.drop q).map NodeD.id) (some P),Xv wq (RK emptyW fl),F]/\(q<=nl.length)) (L0:=[(11,_),(12,_),(13,_),(14,_),(16,_),(17,_),(19,_),(22,_),(23,_)]) (nl.length) (zb9 U U U U U U U U U) ⟨0,rfl,rfl,ax.pick [0,1,2,3,4,5,6] U,by omega⟩ ?_;rintro _ _ cz ⟨q,rfl,rfl,i,hq⟩;refine Qe<|Qe<|Qa<|Qb U U<|Qb U U<|Wa 0 i underlying44 U U U<|Xa U U U<|Qf<|Qc<|Qh [23,22,19,17,16,14,13,12,11,158] U<|Qs U (λbw=> ?_) (λbw=> ?_)
 ·obtain⟨nn,a7⟩: ∃n,nl[q]? =some n:=⟨_,XQ (by omega)⟩;have bx:(nl.drop q).map NodeD.id=nn.id::(nl.drop (q+1)).map NodeD.id:=by rw[List.drop_eq_getElem_cons (show q<nl.length by omega),(Za a7).2];rfl
  rw[bx]at i;refine Qt<|Qc<|Qe<|Qx<|Qe<|Qa<|Qb U U<|Qb U U<|Qb U U<|Xj O7 0 q i U U U (by first | rfl | omega) a7 es_44 U ?_
  intro bx55 capx55 a8;refine Qg U GG U<|Zh 0 q 0 i U a8 U U a7 QL U U<|Qw cal_16 U (qgm (i.sp [4] U) (by omega) S) U ?_;rintro _ d0 ⟨rfl,a9⟩;replace a9:=a9.jn U U;refine Xz U U U<|Qf<|Qc<|Qh [23,22,19,17,16,14,13,12,11,168] U<|Qs U (λay=> ?_) (λay=> ?_)
  ·exact absurd U ay
  refine Qt<|Qm<|Qc<|Qa<|Qb U U<|QE U U (by omega) (by omega) U ?_;refine Qd U U<|Qf ?_;exact Q5 (L1:=[(11,_),(12,_),(13,_),(14,_),(16,_),(17,_),(19,_),(22,_),(23,intV ((q+1:Nat):Int))]) (zb9 U U U U U U U U U) (k1:=nl.length -(q+1)) (by omega) ⟨q+1,rfl,rfl,a9.pick [1,2,3,4,0,5,6] U,by omega⟩
 refine QQ<|Qp<|Qp<|Qy<|Qc<|Qe ?_;have az:(nl.drop q).map NodeD.id=[]:=by rw[List.drop_eq_nil_of_le (by omega)];rfl
 rw[az]at i;refine Qa<|Qb U U<|Qb U U<|Qk U U U<|Qb U U<|Qk U U U<|Qw LW U (EK (i.sp [4] U)) U ?_;rintro _ d1 ⟨n2,bz,c3,R⟩;replace R:=R.jn U U;obtain rfl:=List.map_eq_nil_iff.1 bz;refine Qk U U U<|Wa 0 R underlying44 U U U<|Qk U U U<|Xg U U U<|QF U U U U<|Qb U U<|QZ 176 U (λm=> ?_) (λm=> ?_)
 ·refine Qk U U (det m)<|Qb U U<|Qk U U (det m)<|Qb U U<|Qk U U (det m)<|Qb U U<|Qk U U (det m) ?_;refine Qw qfv rfl (FJ (R.sp [1,6] rfl) ae (by omega) (by omega) (ls:=(([]++ls)++[(⟨⟨af,fl.length,cf⟩,fl⟩:TkD)])) (Ent.starL (Ja (C:=Ci) (by simp only[List.length_append,List.length_cons,List.length_nil];omega)) 2 rfl) (λt N=>by rcases List.mem_append.1 N with L | L;(rw[List.nil_append]at L;exact Ent.starL (hE t L) 5 rfl);(obtain rfl:=List.mem_singleton.1 L;exact u.starL 5 rfl))) rfl ?_
  rintro _ d2 ⟨rfl,aa⟩;replace aa:=aa.jn U U;refine QF U (det m) U U<|Qb U U<|X9 182 U (λo=> ?_) (λo=> ?_)
  ·refine Qk U U o<|Qb U U<|Qk U U o<|Qb U U<|Qk U U o<|Qb U U<|Qk U U o<|Qw cal_17 U (sref_sp (aa.sp [5,6,0] U) (by omega) ag ah (by omega)) U ?_;rintro _ d3 ⟨rfl,ab⟩;replace ab:=ab.jn U U;exact QF U o U U (Qd U U (Qf (Qc (Qh [10] U (Qu (QJ (.inr U) U U (⟨_,U,U,ab.pick [7] U⟩)))))))
  exact absurd o (by decide)
 exact absurd U m
end Go.Proofs.YtifaibmhinlcfaaGreatDoor
namespace Go.Proofs.YtifaibmhinlcfaaGreatDoor.M
open Proofs.Tryz
open Go.ChangeShapes Go.WideShapes Go.ChangeAt Go.RowKit Go.Deep
def At (w:World) (b off:Nat) (cs:List Value):Prop:= ∀j v,cs[j]? =some v->w.cell? ⟨b,off+j,none⟩=some v
theorem At.cell {w:World} {b off:Nat} {cs:List Value} (h:At w b off cs) (j:Nat) {v:Value} (a:cs[j]? =some v):w.cell? ⟨b,off+j,none⟩=some v:=h j v a
theorem At.below {B:Nat} {w w':World} {b off:Nat} {cs:List Value} (h:At w b off cs) (a:Below B w w') (c:b<B):At w' b off cs:=
  λj v d=>(a.cell (p:=⟨b,off+j,none⟩) c).trans (h j v d)
structure Cod (P:Program) (t:TypeId) (α:Type) where
  rd:World→List Value→α→Prop
  size:Nat
  cells:P.cellsOf t=size
  down: ∀{H:Type} {enc:TypeId×Value→H} {w:World} {base:Nat} {spare:Nat→Bool} {held:Bool} {fuel:Nat} {cs:List Value} {x:DataW H×List MemPlace},
    DataW.trod enc P w base spare held fuel t cs=some x→ ∃a,rd w cs a
  len: ∀{w cs a},rd w cs a→cs.length=size
  keep: ∀{w w' cs a},Below w.heap.size w w'→rd w cs a→rd w' cs a
section
variable {P:Program}
def Cod.int {t:TypeId} (k:IntKind) (a:P.underlying t=some (.int k)) (b:P.cellsOf t=1):Cod P t Int where
  rd:= λ_ cs n=>cs=[.int k n]/\(Lit.int k n).wf=true
  size:=1
  cells:=b
  down:= λh=>by
    obtain⟨n,c,_,d⟩:=DataW.trod_int a h;exact⟨n,c,d⟩
  len:= λh=>by rw[h.1];rfl
  keep:= λ_ h=>h
def Cod.byte {t:TypeId} (a:P.underlying t=some (.int .u8)) (b:P.cellsOf t=1):Cod P t UInt8 where
  rd:= λ_ cs n=>cs=[.int .u8 (n.toNat:Int)]
  size:=1
  cells:=b
  down:= λh=>by
    obtain⟨n,c,_,d⟩:=DataW.trod_int a h;have f:=bounds_u8 d;refine⟨UInt8.ofNat n.toNat, ?_⟩;have e:((UInt8.ofNat n.toNat).toNat:Int)=n:=by simp;omega
    rw[e];exact c
  len:= λh=>by rw[h];rfl
  keep:= λ_ h=>h
def Cod.bool {t:TypeId} (a:P.underlying t=some .bool) (b:P.cellsOf t=1):Cod P t Bool where
  rd:= λ_ cs n=>cs=[.bool n]
  size:=1
  cells:=b
  down:= λh=>by
    obtain⟨n,c,_⟩:=DataW.trod_bool a h;exact⟨n,c⟩
  len:= λh=>by rw[h];rfl
  keep:= λ_ h=>h
def Cod.string {t:TypeId} (a:P.underlying t=some .string) (b:P.cellsOf t=1):Cod P t ByteArray where
  rd:= λ_ cs s=>cs=[.string s]/\s.size<=9223372036854775807
  size:=1
  cells:=b
  down:= λh=>by
    obtain⟨n,c,_,d⟩:=DataW.trod_string a h;exact⟨n,c,d⟩
  len:= λh=>by rw[h.1];rfl
  keep:= λ_ h=>h
def Yy {α:Type} (rd:World->List Value->α->Prop) (size:Nat) (w:World) (v:Value) (l:List α):Prop:=
  ∃ao cap,v= .slice ao l.length cap/\l.length<=cap/\cap<=9223372036854775807/\ ∀(i:Nat) (a:α),l[i]? =some a-> ∃b off cs,ao=some ⟨b,off,none⟩/\b<w.heap.size/\At w b (off+i*size) cs/\rd w cs a
def Cod.slice {t e:TypeId} {α:Type} [Inhabited α] (N:P.underlying t=some (.slice e)) (O:P.cellsOf t=1) (c:Cod P e α) (I:0<c.size):Cod P t (List α) where
  rd:= λw cs l=> ∃v,cs=[v]/\Yy c.rd c.size w v l
  size:=1
  cells:=O
  down:= λ{H enc w base spare held fuel cs x} h=>by
    rcases open_slice N h with⟨rfl,_⟩ | ⟨a,len,cap,m,n,D,Pl,rfl,s,Q,R,z,_,S⟩
    · exact⟨[],_,rfl,none,0,rfl,Nat.le_refl _,by omega,λi a hi=>by simp at hi⟩
    · have T:len<=m:=by rw[z];split<;>omega
      have A: ∀i,i<len-> ∃y:α,∃cs',c.rd w cs' y/\(∀j v,cs'[j]? =some v->w.cell? (a.add (i*c.size+j))=some v):=by
        intro i hi;obtain⟨cs',B,C⟩:=S i (by omega);obtain⟨y,U⟩:=c.down C;obtain⟨_,k,d⟩:=World.cells?_some B;refine⟨y,cs',U,λj v u=> ?_⟩;have hj:j<cs'.length:=(List.getElem?_eq_some_iff.1 u).1;rw[c.cells]at k d;rw[<-Go.Deep.add_add,d j (by omega),u]
      obtain⟨f,J⟩:=choose_lt A;refine⟨(List.range len).map f,_,rfl,some a,cap,by simp,by simpa using Q,R,λi y hi=> ?_⟩;have o:i<len:=by have :=(List.getElem?_eq_some_iff.1 hi).1;simpa using this
      simp [o]at hi;subst hi;obtain⟨cs',p,d⟩:=J i o;have V:=c.len p;obtain⟨b,off,spot⟩:=a;have K:=d 0 cs'[0] (List.getElem?_eq_getElem (by omega))
      have g:spot=none:=by
        have :=World.cell?_spot K;unfold Addr.add at this;split at this
        · exact this
        · obtain⟨i0,E⟩: ∃i0,i0<len/\i0=0:=⟨0,by omega,rfl⟩;obtain⟨F,rfl⟩:=E;obtain⟨cs0,q,r⟩:=J 0 F;have L:=c.len q;have G:=r 0 cs0[0] (List.getElem?_eq_getElem (by omega));have :=World.cell?_spot G
          simpa [Addr.add]using this
      subst g;refine⟨b,off,cs',rfl, ?_,λj v u=> ?_,p⟩
      · have :=block_lt_of_cell K;rw[Wx]at this;exact this
      · have :=d j v u;rw[Wx]at this;rw[Nat.add_assoc];exact this
  len:= λ⟨v,h,_⟩=>by rw[h];rfl
  keep:= λ{w w' cs l} s ⟨v,B,ao,cap,C,W,X,Y⟩=>⟨v,B,ao,cap,C,W,X,λi a hi=>by
    obtain⟨b,off,cs',Z,M,e3,e4⟩:=Y i a hi;exact⟨b,off,cs',Z,Nat.lt_of_lt_of_le M s.size,e3.below s M,c.keep s e4⟩⟩
structure Flds (P:Program) (fs:List Field) (off:Nat) (α:Type) where
  rd:World→List Value→α→Prop
  size:Nat
  down: ∀{H:Type} {enc:TypeId×Value→H} {w:World} {base:Nat} {spare:Nat→Bool} {held:Bool} {n:Nat} {cs:List Value} {xs:List (DataW H×List MemPlace)},
    (∀(i:Nat) (f:Field),fs[i]? =some f→ ∃x,DataW.trod enc P w base spare held n f.type ((cs.drop f.offset).take (P.cellsOf f.type))=some x)→ ∃a,rd w ((cs.drop off).take size) a
  len: ∀{w cs a},rd w cs a→cs.length=size
  keep: ∀{w w' cs a},Below w.heap.size w w'→rd w cs a→rd w' cs a
def Flds.nil (off:Nat):Flds P [] off Unit where
  rd:= λ_ cs _=>cs=[]
  size:=0
  down:= λ_=>⟨(),by simp⟩
  len:= λh=>by rw[h];rfl
  keep:= λ_ h=>h
def Flds.cons {f:Field} {fs:List Field} {off:Nat} {α β:Type} (c:Cod P f.type α) (l:f.offset=off) (r:Flds P fs (off+c.size) β):Flds P (f::fs) off (α×β) where
  rd:= λw cs a=> ∃cs1 cs2,cs=cs1++cs2/\c.rd w cs1 a.1/\r.rd w cs2 a.2
  size:=c.size+r.size
  down:= λ{H enc w base spare held n cs xs} h=>by
    obtain⟨x,k⟩:=h 0 f rfl;rw[l,c.cells]at k;obtain⟨a,m⟩:=c.down k;obtain⟨b,d⟩:=r.down (xs:=xs) (λi g o=>h (i+1) g (by simpa using o));refine⟨(a,b),_,_, ?_,m,d⟩;rw[<-List.drop_drop];exact List.take_add ..
  len:= λ⟨cs1,cs2,h,e,j⟩=>by rw[h,List.length_append,c.len e,r.len j]
  keep:= λd ⟨cs1,cs2,h,e,j⟩=>⟨cs1,cs2,h,c.keep d e,r.keep d j⟩
def Cod.struct {t:TypeId} {fs:List Field} {α:Type} (e:P.underlying t=some (.struct fs.toArray)) (r:Flds P fs 0 α) (g:P.cellsOf t=r.size):Cod P t α where
  rd:=r.rd
  size:=r.size
  cells:=g
  down:= λ{H enc w base spare held fuel cs x} h=>by
    obtain⟨xs,n,_,_,l,b,j⟩:=DataW.trod_struct e h
    obtain⟨a,d⟩:=r.down (xs:=xs) (n:=n) (enc:=enc) (w:=w) (base:=base) (spare:=spare) (held:=held) (cs:=cs) (λi f hi=>by
      have k:=j i f (by simpa using hi);have c:=(List.getElem?_eq_some_iff.1 hi).1;rw[k,List.getElem?_eq_getElem (by rw[b];simpa using c)];exact⟨_,U⟩)
    refine⟨a, ?_⟩;rw[List.drop_zero,List.take_of_length_le (by omega)]at d;exact d
  len:=r.len
  keep:=r.keep
def Cod.map {t:TypeId} {α β:Type} (c:Cod P t α) (f:α->β):Cod P t β where
  rd:= λw cs b=> ∃a,b=f a/\c.rd w cs a
  size:=c.size
  cells:=c.cells
  down:= λh=>by obtain⟨a,d⟩:=c.down h;exact⟨f a,a,rfl,d⟩
  len:= λ⟨a,_,h⟩=>c.len h
  keep:= λg ⟨a,e,h⟩=>⟨a,e,c.keep g h⟩
theorem Rt {H:Type} {enc:TypeId×Value->H} (a:laidOutB P=true) {W W':World} (c:Below W.heap.size W W'):
    ∀ (ts:List TypeId) (vs:List Value) (ds:List (DataW H)) (ps:List MemPlace),(∀t∈ts,P.readableRec t=true/\t<P.types.size)->
      DataW.TrodAll enc P W 0 (λ_=>true) true ts vs ds ps->DataW.TrodAll enc P W' 0 (λb=>decide (b<W.heap.size)) true ts vs ds ps
  | [],vs,ds,ps,_,h=>by
    obtain⟨rfl,rfl,rfl⟩:=trodAll_nil h;exact U
  | t::ts,vs,ds,ps,e,h=>by
    obtain⟨v,vs',d,ds',p,q,rfl,rfl,rfl,f,g⟩:=trodAll_cons h;have lt0: ∀x∈p,x.block<W.heap.size:=by obtain⟨m,i⟩:=f;exact DataW.trod_lt m _ _ _ i
    obtain⟨j,k⟩:=e t (by simp);exact trodAll_cons_mk (Below.trod a j k f c lt0) (Rt a c ts vs' ds' q (λt l=>e t (by simp [l])) g)
end
end Go.Proofs.YtifaibmhinlcfaaGreatDoor.M
namespace Go.Proofs.YtifaibmhinlcfaaGreatDoor
open Go.RowKit M Proofs.Tryz
variable {W:World} {v:Value}
theorem ent_gt (h:GT W):Ent (Tg W) GT:=Ent.frame λw b j a=>(b.cell (block_lt_of_cell (h j a))).trans (h j a)
theorem Io {w:World} (h:Sat w [Tg W]):Below W.heap.size W w:=h.below 0 U
def qintC:Cod prog 3 Int:=Cod.int .i64 underlying3 (by kernel_rfl)
def qstrC:Cod prog 9 ByteArray:=Cod.string underlying9 (by kernel_rfl)
def spCod:Cod prog 67 (Int×ByteArray×ByteArray×Int×Int×Int×Unit):=
  Cod.struct (P:=prog) underlying67 (Flds.cons qintC U (Flds.cons qstrC U (Flds.cons qstrC U (Flds.cons qintC U (Flds.cons qintC U (Flds.cons qintC U (Flds.nil _))))))) (by kernel_rfl)
def ssCod:Cod prog 22 (List (Int×ByteArray×ByteArray×Int×Int×Int×Unit)):=Cod.slice underlying22 (by kernel_rfl) spCod (by decide)
theorem ET {l:List Int} (h:Yy qintC.rd qintC.size W v l): ∀w,Below W.heap.size W w->RdL inC v l w:=by
  obtain⟨ao,cap,c,o,q,d⟩:=h;refine λw e=>⟨ao,cap,c,by omega,λi a hi=> ?_⟩;obtain⟨b,off,cs,f,g,k,m⟩:=d i a hi;obtain⟨rfl,_⟩:=m;refine⟨b,off,f,λj u n=> ?_⟩;refine(e.cell (p:=⟨b,off+i*1+j,none⟩) g).trans (k j u ?_)
  simpa [inC]using n
def stOf (y:(Int×ByteArray×ByteArray×Int×Int×Int×Unit)):StD:=⟨y.1,y.2.1.data.toList,y.2.2.1.data.toList,y.2.2.2.1,y.2.2.2.2.1,y.2.2.2.2.2.1⟩
theorem Sp {l:List (Int×ByteArray×ByteArray×Int×Int×Int×Unit)} (h:Yy spCod.rd spCod.size W v l): ∃l':List StD,∀w,Below W.heap.size W w->RdL FM v l' w:=by
  obtain⟨ao,cap,c,q,r,d⟩:=h;refine⟨l.map stOf,λw e=>⟨ao,cap,by simpa using c,by simp;omega,λi a hi=> ?_⟩⟩;rw[List.getElem?_map]at hi;obtain⟨y,f,rfl⟩:=Option.map_eq_some_iff.1 hi;obtain⟨b,off,cs,g,k,m,n⟩:=d i y f;obtain⟨c1,cs1,rfl,⟨rfl,_⟩,s,cs2,rfl,⟨rfl,_⟩,t,cs3,rfl,⟨rfl,_⟩,x,cs4,rfl,⟨rfl,_⟩,z,cs5,rfl,⟨rfl,_⟩,A,cs6,rfl,⟨rfl,_⟩,rfl⟩:=n;refine⟨b,off,g,λj u o=> ?_⟩;refine(e.cell (p:=⟨b,off+i*6+j,none⟩) k).trans (m j u ?_)
  simpa [FM,So,stOf]using o
instance:Inhabited TkD:=⟨⟨⟨none,0,0⟩,[]⟩⟩
theorem qbf {l:List (List (Int×ByteArray×ByteArray×Int×Int×Int×Unit))} (h:Yy ssCod.rd ssCod.size W v l): ∃l':List TkD,(∀w,Below W.heap.size W w->RdL Ci v l' w)/\ ∀t∈l',∀w,Below W.heap.size W w->RdL FM (U5 t.v) t.l w:=by
  obtain⟨ao,cap,o,B,C,q⟩:=h
  have e: ∀i,i<l.length-> ∃a:TkD,(∀w,Below W.heap.size W w-> ∃b off,ao=some ⟨b,off,none⟩/\ ∀(j:Nat) (u:Value),[U5 a.v][j]? =some u->w.cell? ⟨b,off+i*1+j,none⟩=some u)/\ ∀w,Below W.heap.size W w->RdL FM (U5 a.v) a.l w:=by
    intro i hi;obtain⟨b,off,cs,r,s,x,y⟩:=q i l[i] (XQ hi);obtain⟨cv,rfl,c⟩:=y;obtain⟨cl,g⟩:=Sp c;obtain⟨oa,oc,rfl,_⟩:=c;refine⟨⟨⟨oa,_,oc⟩,cl⟩,λw k=>⟨b,off,r,λj u z=> ?_⟩,g⟩;refine(k.cell (p:=⟨b,off+i*1+j,none⟩) s).trans (x j u ?_)
    simpa [U5]using z
  obtain⟨f,m⟩:=Go.Deep.choose_lt (n:=l.length) e;refine⟨(List.range l.length).map f,λw k=>⟨ao,cap,by simpa using o,by simp;omega,λi a hi=> ?_⟩,λt A=> ?_⟩
  · have d:i<l.length:=by have :=(Za hi).1;simpa using this
    simp [d]at hi;subst hi;exact(m i d).1 w k
  · obtain⟨i,hi,rfl⟩:=List.mem_map.1 A;exact(m i (List.mem_range.1 hi)).2
theorem Ph {n:Int} {v1 v2 v3 v4:Value} {l1:List (Int×ByteArray×ByteArray×Int×Int×Int×Unit)} {l2:List (List (Int×ByteArray×ByteArray×Int×Int×Int×Unit))} {l3 l4:List Int} (d:GT W) (a:Yy spCod.rd spCod.size W v1 l1) (b:Yy ssCod.rd ssCod.size W v2 l2) (f:Yy qintC.rd qintC.size W v3 l3) (g:Yy qintC.rd qintC.size W v4 l4):
    Calls prog 3 #[.int .i64 n,v1,v2,v3,v4] W λe W'=>e= .returned (.bool true)/\Below W.heap.size W W':=by
  obtain⟨k,a⟩:=Sp a;obtain⟨l,b,c⟩:=qbf b;exact(Pi (Sat.start W) (ent_gt d) n (Ent.frame a) (Ent.frame b) (λt h=>Ent.frame (c t h)) (Ent.frame (ET f)) (Ent.frame (ET g))).mono λe W' ⟨v,c,i,j⟩=>⟨by rw[c,i],Io j⟩
