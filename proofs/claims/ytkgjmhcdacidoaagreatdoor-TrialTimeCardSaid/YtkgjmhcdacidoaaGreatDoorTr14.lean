/- laws of trials: TrialTime -/
import Derived.Test.YtkgjmhcdacidoaaGreatDoorTr13
import Derived.Test.YtkgjmhcdacidoaaGreatDoorLv1
import Derived.Test.YtkgjmhcdacidoaaGreatDoorMem
import Derived.ProofKit
import Derived.OpenShut
import Derived.ShutString
import Derived.ChangeOld
import Derived.Deep.Slices
import Derived.Deep.Fields
import Derived.ChangeSame
import Derived.JoinedCond
set_option linter.unusedSectionVars false
set_option linter.unusedVariables false
set_option maxRecDepth 100000
set_option maxHeartbeats 3200000
namespace Go.Proofs.YtkgjmhcdacidoaaGreatDoor
open Go.RowKit M Proofs.Tryz
theorem SU {w:World} {F:Th} (hS:Sat w [F]) (hG:Ent F GT) (first guess look:Int) {lv:Value} {l:List Int} (hL:Ent F (RdL inC lv l)):
    Calls prog 3 #[intV first,intV guess,lv,intV look] w (Ret fun v w'=>v= .bool true∧Sat w' [F]):= by
 letI:Inhabited SlW:=⟨⟨4096,2⟩⟩
 obtain⟨ao,cap,rfl,hmax⟩:=(hL.sat hS 0 rfl).shape
 refine Qm func3 U ntmps3 U ?_
 refine Qe (Qa (Qd U U (Qf (Qc (Qe (Qa ?_))))))
 have hC1:=hS.sp [] U
 refine Qy cal_5 U (small18 hC1 (hG.starL 0 U)) U ?_
 rintro _ w1 ⟨rfl,j1⟩
 replace j1:=j1.jn U U; clear hC1
 refine Qd U U (Qf (Qc (Qe (Qa (Qy cal_6 U (NH (j1.sp [] U) 2 U U) U ?_)))))
 rintro _ w2 ⟨a,p,C0,rfl,hQ0,j2⟩
 replace j2:=j2.jn U U
 refine Qb U U (Qp U U U (Qp U U U (Qd U U (Qd U U (Qf (Qc (Qh [3,2,1,0,8,9,10] U (Qe (Qe (Qa (Qb U U (XQ underlying24 U U U (Qb U U (Qj U U U (Qb U U (Qj U U U (XK underlying22 U U (Qj U U U (J1 U U U (QG U U U U (Qb U U (QS 34 U (fun h3=> ?_) (fun h3=> ?_)))))))))))))))))))))))
 ·refine Qk U U (det h3) U (Qk U U (det h3) U (QH U (det h3) U U (Qb U U (Qk U U U U (Qk U U U U (QH U U U U (Qb U U (Qk U U U U (Qk U U U U (QH U U U U (Qb U U (Qk U U U U (Qk U U U U (QH U U U U (Qf (Qc (Qh [3,2,1,0,8,9,10,49] U (X3 U (Qe (Qa (Qb U U (Qb U U (Xu 51 U (fun h4=> ?_) (fun h4=> ?_))))))))))))))))))))))))
  ·refine Qj U U h4 (Qb U U (Qj U U h4 (Zy underlying24 U U U (QH U h4 U U (Qd U U (Qf (Qc (Qh [3,2,1,0,9,10,8] U (Qv (Qq (QM (.inr U) U U ?_)))))))))))
   exact⟨_,rfl, by first | rfl | (congr 1; simp [H0,rN,oN];done) | (congr 1;decide),j2.pick [3] U⟩
  first | exact absurd (by decide) h4 | exact absurd U h4 | exact absurd h4 (by decide)
 refine Qj U U (QJ h3) (Qb U U (Qj U U (QJ h3) (Xk U U U (QG U (QJ h3) U U (Qb U U (QS 38 U (fun h5=> ?_) (fun h5=> ?_)))))))
 ·refine Qk U U (det h5) U (Qk U U (det h5) U (QH U (det h5) U U (Qb U U (Qk U U U U (Qk U U U U (QH U U U U (Qb U U (Qk U U U U (Qk U U U U (QH U U U U (Qf (Qc (Qh [3,2,1,0,8,9,10,49] U (X3 U (Qe (Qa (Qb U U (Qb U U (Xu 51 U (fun h6=> ?_) (fun h6=> ?_))))))))))))))))))))
  ·refine Qj U U h6 (Qb U U (Qj U U h6 (Zy underlying24 U U U (QH U h6 U U (Qd U U (Qf (Qc (Qh [3,2,1,0,9,10,8] U (Qv (Qq (QM (.inr U) U U ?_)))))))))))
   exact⟨_,rfl, by first | rfl | (congr 1; simp [H0,rN,oN];done) | (congr 1;decide),j2.pick [3] U⟩
  first | exact absurd (by decide) h6 | exact absurd U h6 | exact absurd h6 (by decide)
 refine Qj U U (QJ h5) (Qb U U (Qj U U (QJ h5) (J1 U U U (QG U (QJ h5) U U (Qb U U (QS 42 U (fun h7=> ?_) (fun h7=> ?_)))))))
 ·refine Qk U U (det h7) U (Qk U U (det h7) U (QH U (det h7) U U (Qb U U (Qk U U U U (Qk U U U U (QH U U U U (Qf (Qc (Qh [3,2,1,0,8,9,10,49] U (X3 U (Qe (Qa (Qb U U (Qb U U (Xu 51 U (fun h8=> ?_) (fun h8=> ?_))))))))))))))))
  ·refine Qj U U h8 (Qb U U (Qj U U h8 (Zy underlying24 U U U (QH U h8 U U (Qd U U (Qf (Qc (Qh [3,2,1,0,9,10,8] U (Qv (Qq (QM (.inr U) U U ?_)))))))))))
   exact⟨_,rfl, by first | rfl | (congr 1; simp [H0,rN,oN];done) | (congr 1;decide),j2.pick [3] U⟩
  first | exact absurd (by decide) h8 | exact absurd U h8 | exact absurd h8 (by decide)
 refine Qj U U (QJ h7) (Qb U U (Qj U U (QJ h7) (Xk U U U (QG U (QJ h7) U U (Qb U U (QS 46 U (fun h9=> ?_) (fun h9=> ?_)))))))
 ·refine Qk U U (det h9) U (Qk U U (det h9) U (QH U (det h9) U U (Qf (Qc (Qh [3,2,1,0,8,9,10,49] U (X3 U (Qe (Qa (Qb U U (Qb U U (Xu 51 U (fun h10=> ?_) (fun h10=> ?_))))))))))))
  ·refine Qj U U h10 (Qb U U (Qj U U h10 (Zy underlying24 U U U (QH U h10 U U (Qd U U (Qf (Qc (Qh [3,2,1,0,9,10,8] U (Qv (Qq (QM (.inr U) U U ?_)))))))))))
   exact⟨_,rfl, by first | rfl | (congr 1; simp [H0,rN,oN];done) | (congr 1;decide),j2.pick [3] U⟩
  first | exact absurd (by decide) h10 | exact absurd U h10 | exact absurd h10 (by decide)
 refine Qj U U (QJ h9) (Qb U U (Qj U U (QJ h9) (J1 U U U (QG U (QJ h9) U U (Qf (Qc (Qh [3,2,1,0,8,9,10,49] U (Qu U (fun h11=> ?_) (fun h11=> ?_)))))))))
 ·refine Qe (Qa (Qb U U (Qb U U (Xu 51 U (fun h12=> ?_) (fun h12=> ?_)))))
  ·refine Qj U U h12 (Qb U U (Qj U U h12 (Zy underlying24 U U U (QH U h12 U U (Qd U U (Qf (Qc (Qh [3,2,1,0,9,10,8] U (Qv (Qq (QM (.inr U) U U ?_)))))))))))
   exact⟨_,rfl, by first | rfl | (congr 1; simp [H0,rN,oN];done) | (congr 1;decide),j2.pick [3] U⟩
  first | exact absurd (by decide) h12 | exact absurd U h12 | exact absurd h12 (by decide)
 refine Qt (Qc (Qe (Qa (Qb U U ?_))))
 refine Qy cal_7 U (GG (j2.sp [0] U) (by show Hi 0≠none; rw[show Hi 0=some zN from Qr]; simp)) U ?_
 rintro _ w13 ⟨pb,rfl,j13⟩
 replace j13:=j13.jn U U
 refine Qd U U (Qf (Qc (Qh [3,2,1,0,8,9,10,12] U (Qe (Qa (Qb U U (Qb U U (Qy cal_8 U (Gu (j13.sp [0,1] U) (n:=zN) Qr first ⟨by decide, by decide, by omega⟩) U ?_))))))))
 rintro _ w14 j14
 replace j14:=j14.jn U U
 rw[elN_z (by omega)]at j14
 have hz1:QK Hi 0 (some (rN first)) 0=some (rN first):=Qr
 have hQ1:=hQ0.mod (i:=0) (n:=zN) (n':=rN first) Qr U U U
 obtain⟨y0,hy0⟩:=hQ1.ce.get hz1
 refine Qf (Qc (Qh [3,2,1,0,8,9,10,12] U (Qe (Qa (Qb U U (Qb U U (Xv NZ U (KC (j14.sp [1,2,3] U) (by omega) (by decide) hQ1.tri hQ1.ce.toCeW hQ1.few (parent:=0) (guess:=guess) hz1 hy0 (by omega) (show(0:Int)≤8 by decide) (show(0:Int)≤0 by decide) (by decide)) U ?_)))))))
 rintro e w15 ⟨_,rfl,(⟨hful,_,j15⟩ | ⟨_,rfl,x1,hn1,hxp1,hxk1,hxq1,j15⟩)⟩
 ·exact absurd hful (by rintro(q | q); exact absurd q (show ¬(8:Int)≤0 by decide); exact absurd q (by decide))
 refine⟨_,U, ?_⟩
 replace j15:=j15.jn U U
 refine Qb U U (Qp U U U (Qp U U U (Qd U U (Qd U U (Qf ?_)))))
 have hQ2:=hQ1.begin (by decide) (n:=guess) hz1 hy0 hn1 hxp1 hxk1 hxq1
 obtain⟨C1,hC1⟩: ∃q,q=(⟨C0.ma,QK (QK C0.all 0 (some {y0 with kids:=y0.kids+1})) 1 (some x1)⟩:CeD):=⟨_,rfl⟩
 obtain⟨A1,hA1⟩: ∃q,q=(Uz DR 1 0:LvA):=⟨_,rfl⟩
 replace hQ2:TQ (TT first guess 0 false) 1 C1 A1 [1]:= by rw[hC1,hA1]; exact hQ2
 have c1:C1.all 1=some x1:= by rw[hC1]; exact K4
 obtain⟨y1,hy1⟩:=hQ2.ce.get Rs
 have j16:=U9 (l2:=1) (j15.pick [0,1,2,3,4] U) (show TT first guess 0 false=_ from rfl) hC1 hA1 (by decide)
 refine Qc (Qh [3,2,1,0,8,9,10,12,13,14] U (Qe (Qa (Qb U U (Qb U U (Xv Bp U (VR (j16.sp [0] U) 1) U ?_))))))
 rintro e w17 ⟨_,rfl,(⟨hq,_,j17⟩ | ⟨_,vb,rfl,j17⟩)⟩
 ·exact absurd hq (by rw[HX]; simp)
 refine⟨_,U, ?_⟩
 replace j17:=j17.jn U U
 refine Qd U U (Qf (Qc (Qh [3,2,1,0,8,9,10,12,13,14,15] U (Qe (Qe (Qa (Qb U U (Xn U U U (Qb U U (QS 71 U (fun h18=> ?_) (fun h18=> ?_)))))))))))
 ·exact absurd U h18
 refine Qj U U (QJ h18) (Qb U U (Qj U U (QJ h18) (XQ underlying28 U U U (QG U (QJ h18) U U (Qb U U (Qj U U U (Qb U U (Qj U U U ?_))))))))
 refine Qy Eb U (BI (j17.sp [4,1] U) Rs ⟨show(0:Int)≤0 by decide, show(0:Int)≤4000000000000000000 by decide, by show 0≤first;omega, by show first≤_;omega⟩) U ?_
 rintro _ w19 ⟨rfl,j19⟩
 replace j19:=j19.jn U U
 rw[if_pos U]at j19
 rw[show(rN first).gue+(rN first).el=first by show 0+first=first;omega]
 refine Qj U U U (Qb U U (Qj U U U (Xn U U U (QG U U U U (Qb U U (QS 81 U (fun h20=> ?_) (fun h20=> ?_)))))))
 ·exact absurd U h20
 refine Qj U U (QJ h20) (Qb U U (Qj U U (QJ h20) (Qb U U (Qj U U (QJ h20) ?_))))
 refine Qy HR U (Yp (j19.sp [1] U) 1 (by rw[XU HX]; exact⟨by show 0≤guess;omega, by show guess≤_;omega, by show 0≤(0:Int);omega, by show(0:Int)≤_;omega⟩)) U ?_
 rintro _ w21 ⟨rfl,j21⟩
 replace j21:=j21.jn U U
 rw[XU HX, show(oN guess 0 false).gue+(oN guess 0 false).el=guess by show guess+0=guess;omega]
 refine Qj U U (QJ h20) (Qb U U (Qj U U (QJ h20) (Xn U U U (QG U (QJ h20) U U (Qf (Qc (Qh [3,2,1,0,8,9,10,12,13,15,87] U (Qu U (fun h22=> ?_) (fun h22=> ?_)))))))))
 ·exact absurd U h22
 refine Qt (Qc (Qe (Qa (Qd U U (Qf (Qc (Qe (Qa (Qd U U (Qf (Qc (Qe (Qe (Qa (Qd U U (Qf (Qc (Qz ?_))))))))))))))))))
 refine Xh (fun K0 E0 W0=> ∃(i:Nat) (s:Int) (lk:Bool),K0=l.length -i∧E0=[(0,intV first),(1,intV guess),(2,.slice ao l.length cap),(3,intV look),(9,.bool true),(10,ptrV a.t 0),(12,ptrV pb 0),(13,intV 1),(15,ptrV vb 0),(16,intV s),(17,.bool lk),(18,intV (i:Int))]∧Sat W0 [QC pb [ptrV a.t 0,intV 0],QC vb [ptrV a.t 0,intV 1],ZQ a (TT first guess s lk) 1,Ua a.c C1,UI a.b p 0 1 0 0 A1,F]∧(i≤l.length)∧(0≤s)∧(s≤(i:Int)*1099511627776)) (L0:=[(0,_),(1,_),(2,_),(3,_),(9,_),(10,_),(12,_),(13,_),(15,_),(16,_),(17,_),(18,_)]) (l.length) (D6 U U U U U U U U U U U U) ⟨0,0,false,rfl,rfl,j21.pick [1,2,0,3,4,5] U, by omega, by omega, by omega⟩ ?_
 rintro _ _ w23 ⟨i,s,lk,rfl,rfl,j23,hi,hs0,hs1⟩
 refine Qe (Qe (Qa (Qb U U (Qb U U (XK underlying22 U U (Xk U U U (Qf (Qc (Qh [18,17,16,15,13,12,10,9,3,2,1,0,91] U (Qu U (fun h24=> ?_) (fun h24=> ?_)))))))))))
 ·obtain⟨k,hk⟩: ∃k,l[i]? =some k:=⟨_,Zk (by omega)⟩
  obtain⟨b9,off9,rfl,hck⟩:=(hL.sat j23 5 rfl).get hk
  refine Qt (Qc (Qe (Qz (Qe (Qa (Qb U U (Qb U U (Zj i U U (by first | rfl | omega) ((XP hk).1) Ku U ?_))))))))
  refine Qn U QO (((hL.sat j23 5 U).at_ hk) 0 _ U) U (U4 U U U (Qd U U (Qf (Qc (Qh [18,17,16,15,13,12,10,9,3,2,1,0,19] U (Qe (Qa (Qb U U (Qb U U ?_)))))))))
  refine Qy cal_8 U (Gu (j23.sp [1,2] U) HX (min k 1099511627776) ⟨hs0, by show s≤_;omega, by omega⟩) U ?_
  rintro _ w25 j25
  replace j25:=j25.jn U U
  rw[elN_o,Ew]at j25
  refine Qf (Qc (Qh [18,17,16,15,13,12,10,9,3,2,1,0,19] U (Qe ?_)))
  have hsb:0≤(s+max (min k 1099511627776) 0)∧(s+max (min k 1099511627776) 0)≤(i:Int)*1099511627776+1099511627776∧(i:Int)≤20:= by omega
  refine Qa (Qb U U (Qb U U (JT U U U (QN U U (by omega) (by omega) U ?_))))
  refine Qd U U (Qf (Qc (Qh [18,17,15,13,12,10,9,3,2,1,0,16] U (Qe (Qe (Qa (Qb U U (Qb U U (Xl U U U (Qf (Qc (Qu U (fun h26=> ?_) (fun h26=> ?_)))))))))))))
  ·refine Qe (Qa (Qd U U (Qf (Qc (Qh [18,15,13,12,10,9,3,2,1,0,16,17] U (Qe (Qa (Qb U U ?_))))))))
   refine Qy Eb U (BI (j25.sp [0,1] U) HX ⟨by show 0≤guess;omega, by show guess≤_;omega, by show 0≤(s+max (min k 1099511627776) 0);omega, by show(s+max (min k 1099511627776) 0)≤_;omega⟩) U ?_
   rintro _ w27 ⟨rfl,j27⟩
   replace j27:=j27.jn U U
   rw[if_neg (by decide),tmN_o,Ew]at j27
   rw[show(oN guess (s+max (min k 1099511627776) 0) lk).gue+(oN guess (s+max (min k 1099511627776) 0) lk).el=guess+(s+max (min k 1099511627776) 0) from rfl]
   refine Qb U U (Qb U U (QN U U (by omega) (by omega) U ?_))
   refine Xn U U U (Qf (Qc (Qh [18,15,13,12,10,9,3,2,1,0,16,17,114] U (Qu U (fun h28=> ?_) (fun h28=> ?_)))))
   ·exact absurd U h28
   refine Qt (Qc (Qe (Qa (Qb U U ?_))))
   refine Qy Rm U (Y1 (j27.sp [0,1] U) (by rw[XU HX]; exact⟨by show 0≤guess;omega, by show guess≤_;omega, by show 0≤(s+max (min k 1099511627776) 0);omega, by show(s+max (min k 1099511627776) 0)≤_;omega⟩)) U ?_
   rintro _ w29 ⟨rfl,j29⟩
   replace j29:=j29.jn U U
   rw[XU HX, show(oN guess (s+max (min k 1099511627776) 0) true).gue+(oN guess (s+max (min k 1099511627776) 0) true).el=guess+(s+max (min k 1099511627776) 0) from rfl]
   refine Qb U U (Qb U U (QN U U (by omega) (by omega) U ?_))
   refine Xn U U U (Qb U U (QS 121 U (fun h30=> ?_) (fun h30=> ?_)))
   ·exact absurd U h30
   refine Qj U U (QJ h30) (Qb U U (Qj U U (QJ h30) (Qb U U (Qj U U (QJ h30) ?_))))
   refine Qy HR U (Yp (j29.sp [1] U) 1 (by rw[XU HX]; exact⟨by show 0≤guess;omega, by show guess≤_;omega, by show 0≤(s+max (min k 1099511627776) 0);omega, by show(s+max (min k 1099511627776) 0)≤_;omega⟩)) U ?_
   rintro _ w31 ⟨rfl,j31⟩
   replace j31:=j31.jn U U
   rw[XU HX, show(oN guess (s+max (min k 1099511627776) 0) true).gue+(oN guess (s+max (min k 1099511627776) 0) true).el=guess+(s+max (min k 1099511627776) 0) from rfl]
   refine Qj U U (QJ h30) (Qb U U (Qj U U (QJ h30) (Qb U U (Qj U U (QJ h30) (QN U U (by omega) (by omega) U ?_)))))
   refine Qj U U (QJ h30) (Xn U U U (QG U (QJ h30) U U (Qb U U (QS 130 U (fun h32=> ?_) (fun h32=> ?_)))))
   ·exact absurd U h32
   refine Qj U U (QJ h32) (Qb U U (Qj U U (QJ h32) (Qb U U (Qj U U (QJ h32) (Qy Ms U (VU (j31.sp [0] U) 1) U ?_)))))
   rintro _ w33 ⟨rfl,j33⟩
   replace j33:=j33.jn U U
   rw[XU HX, show(oN guess (s+max (min k 1099511627776) 0) true).timed=true from rfl]
   refine Qj U U (QJ h32) (Qb U U (Qj U U (QJ h32) (VN underlying4 U U U (QG U (QJ h32) U U (Qb U U (Xu 137 U (fun h34=> ?_) (fun h34=> ?_)))))))
   ·exact absurd h34 (by simp)
   refine Qj U U h34 (Qb U U (Qj U U h34 ?_))
   refine Qy Rm U (Y1 (j33.sp [2,0] U) (by rw[XU Rs]; exact⟨show(0:Int)≤0 by decide, show(0:Int)≤4000000000000000000 by decide, by show 0≤first;omega, by show first≤_;omega⟩)) U ?_
   rintro _ w35 ⟨rfl,j35⟩
   replace j35:=j35.jn U U
   rw[XU Rs, show(rN first).gue+(rN first).el=first by show 0+first=first;omega]
   refine Qj U U h34 (Qb U U (Qj U U h34 (Xn U U U (QG U h34 U U (Qf (Qc (Qh [18,15,13,12,10,9,3,2,1,0,16,17,142] U (Qu U (fun h36=> ?_) (fun h36=> ?_)))))))))
   ·exact absurd U h36
   refine Qt (Qo (Qc (Qa (Qb U U (QN U U (by omega) (by omega) U ?_)))))
   refine Qd U U (Qf ?_)
   have hmx:(((i+1:Nat):Int))*1099511627776=(i:Int)*1099511627776+1099511627776:= by omega
   exact Q8 (L1:=[(0,_),(1,_),(2,_),(3,_),(9,_),(10,_),(12,_),(13,_),(15,_),(16,_),(17,_),(18,intV ((i+1:Nat):Int))]) (D6 U U U U U U U U U U U U) (k1:=l.length -(i+1)) (by omega) ⟨i+1,_,true,rfl,rfl,j35.pick [0,2,1,3,4,5] U, by omega, by omega, by omega⟩
  refine Qt (Qc (Qh [18,17,15,13,12,10,9,3,2,1,0,16] U (Qe (Qa (Qb U U ?_)))))
  refine Qy Rm U (Y1 (j25.sp [0,1] U) (by rw[XU HX]; exact⟨by show 0≤guess;omega, by show guess≤_;omega, by show 0≤(s+max (min k 1099511627776) 0);omega, by show(s+max (min k 1099511627776) 0)≤_;omega⟩)) U ?_
  rintro _ w37 ⟨rfl,j37⟩
  replace j37:=j37.jn U U
  rw[XU HX, show(oN guess (s+max (min k 1099511627776) 0) lk).gue+(oN guess (s+max (min k 1099511627776) 0) lk).el=guess+(s+max (min k 1099511627776) 0) from rfl]
  refine Qb U U (Qb U U (QN U U (by omega) (by omega) U ?_))
  refine Xn U U U (Qb U U (QS 121 U (fun h38=> ?_) (fun h38=> ?_)))
  ·exact absurd U h38
  refine Qj U U (QJ h38) (Qb U U (Qj U U (QJ h38) (Qb U U (Qj U U (QJ h38) ?_))))
  refine Qy HR U (Yp (j37.sp [1] U) 1 (by rw[XU HX]; exact⟨by show 0≤guess;omega, by show guess≤_;omega, by show 0≤(s+max (min k 1099511627776) 0);omega, by show(s+max (min k 1099511627776) 0)≤_;omega⟩)) U ?_
  rintro _ w39 ⟨rfl,j39⟩
  replace j39:=j39.jn U U
  rw[XU HX, show(oN guess (s+max (min k 1099511627776) 0) lk).gue+(oN guess (s+max (min k 1099511627776) 0) lk).el=guess+(s+max (min k 1099511627776) 0) from rfl]
  refine Qj U U (QJ h38) (Qb U U (Qj U U (QJ h38) (Qb U U (Qj U U (QJ h38) (QN U U (by omega) (by omega) U ?_)))))
  refine Qj U U (QJ h38) (Xn U U U (QG U (QJ h38) U U (Qb U U (QS 130 U (fun h40=> ?_) (fun h40=> ?_)))))
  ·exact absurd U h40
  refine Qj U U (QJ h40) (Qb U U (Qj U U (QJ h40) (Qb U U (Qj U U (QJ h40) (Qy Ms U (VU (j39.sp [0] U) 1) U ?_)))))
  rintro _ w41 ⟨rfl,j41⟩
  replace j41:=j41.jn U U
  rw[XU HX, show(oN guess (s+max (min k 1099511627776) 0) lk).timed=lk from rfl]
  refine Qj U U (QJ h40) (Qb U U (Qj U U (QJ h40) (VN underlying4 U U U (QG U (QJ h40) U U (Qb U U (Xu 137 U (fun h42=> ?_) (fun h42=> ?_)))))))
  ·exact absurd h42 (by simp)
  refine Qj U U h42 (Qb U U (Qj U U h42 ?_))
  refine Qy Rm U (Y1 (j41.sp [2,0] U) (by rw[XU Rs]; exact⟨show(0:Int)≤0 by decide, show(0:Int)≤4000000000000000000 by decide, by show 0≤first;omega, by show first≤_;omega⟩)) U ?_
  rintro _ w43 ⟨rfl,j43⟩
  replace j43:=j43.jn U U
  rw[XU Rs, show(rN first).gue+(rN first).el=first by show 0+first=first;omega]
  refine Qj U U h42 (Qb U U (Qj U U h42 (Xn U U U (QG U h42 U U (Qf (Qc (Qh [18,17,15,13,12,10,9,3,2,1,0,16,142] U (Qu U (fun h44=> ?_) (fun h44=> ?_)))))))))
  ·exact absurd U h44
  refine Qt (Qo (Qc (Qa (Qb U U (QN U U (by omega) (by omega) U ?_)))))
  refine Qd U U (Qf ?_)
  have hmx:(((i+1:Nat):Int))*1099511627776=(i:Int)*1099511627776+1099511627776:= by omega
  exact Q8 (L1:=[(0,_),(1,_),(2,_),(3,_),(9,_),(10,_),(12,_),(13,_),(15,_),(16,_),(17,_),(18,intV ((i+1:Nat):Int))]) (D6 U U U U U U U U U U U U) (k1:=l.length -(i+1)) (by omega) ⟨i+1,_,_,rfl,rfl,j43.pick [0,2,1,3,4,5] U, by omega, by omega, by omega⟩
 refine Xc (Qs (Qs (Q3 (Qc (Qh [17,16,13,12,10,9,1,0] U (Co (fun E0 W0=> ∃(gd:Bool),E0=[(0,intV first),(9,.bool true),(10,ptrV a.t 0),(12,ptrV pb 0),(13,intV 1),(16,intV s),(20,.bool gd)]∧Sat W0 [QC pb [ptrV a.t 0,intV 0],QC vb [ptrV a.t 0,intV 1],ZQ a (TT first guess s lk) 1,Ua a.c C1,UI a.b p 0 1 0 0 A1,F]∧(gd=true↔(lk=true→guess=first))) ?_ ?_))))))
 ·refine Qa (Qb U U (QV U U (Qb U U (Xu 145 U (fun h46=> ?_) (fun h46=> ?_)))))
  ·have hlk:lk=false:= by simpa using h46
   refine Qk U U h46 U (Qk U U h46 U (Qk U U h46 U (QH U h46 U U (Qd U U (Qf ?_)))))
   exact Vr (Cf U U U U U U U) ⟨true,rfl,j23.pick [0,1,2,3,4,5] U,⟨fun _ q=>(by rw[hlk]at q; cases q), fun _=>rfl⟩⟩
  have hlk:lk=true:= by simpa using h46
  exact Qj U U h46 (Qb U U (Qj U U h46 (Qb U U (Qj U U h46 (Xl U U U (QG U h46 U U (Qd U U (Qf (Vr (Cf U U U U U U U) ⟨(decide (guess=first)),rfl,j23.pick [0,1,2,3,4,5] U,⟨fun q _=>of_decide_eq_true q, fun q=>det (q hlk)⟩⟩)))))))))
 rintro _ w45 ⟨gd,rfl,j45,hgd⟩
 refine Qe (Qe (Qa (Qb U U (Qb U U ?_))))
 have hsb:0≤s∧s≤21990232555520:= by omega
 have hQ3:TQ (TT first guess s lk) 1 C1 A1 [1]:= by have :=hQ2.mod (i:=1) (n':=oN guess s lk) HX U U U;rwa [Ew]at this
 have htA:=hQ3.qu.get (by decide) HX
 have hxq2:=hQ3.ce.quiet c1
 have hvp:VaP (TT first guess s lk) C1 A1 (oN guess s lk) x1 _↔gd=true:=⟨fun q=>hgd.2 fun z=> by have :=q.1 z; rw[show(oN guess s lk).par=0 from rfl,XU Rs]at this; exact this.trans (by show 0+first=first;omega), fun q=>⟨fun z=> by rw[show(oN guess s lk).par=0 from rfl,XU Rs]; exact(hgd.1 q z).trans (by show first=0+first;omega), fun z hz=>(by rw[hxq2.2.2.2]at hz; cases hz),hQ3.qu.va htA⟩⟩
 refine Qy Ea U (ME (j45.sp [2,3,4] U) (by omega) (by decide) (hG.starL 2 U) hQ3.tri hQ3.ce.toCeW HX (by decide) U c1 (by rw[hxq2.2.2.2];decide) htA (by rw[show(oN guess s lk).par=0 from rfl,XU Rs]; exact⟨show(0:Int)≤0 by decide, show(0:Int)≤4000000000000000000 by decide, by show 0≤first;omega, by show first≤_;omega⟩)) U ?_
 rintro _ w47 ⟨r,rfl,hr,j47⟩
 replace j47:=j47.jn U U
 have hrg:r=gd:= by rw[Bool.eq_iff_iff]; exact hr.trans hvp
 subst hrg
 refine Qb U U (VN underlying4 U U U (Qb U U (Xu 155 U (fun h48=> ?_) (fun h48=> ?_))))
 ·exact absurd h48 (by simp)
 refine Qj U U h48 (Qb U U (Qj U U h48 (Qb U U (Qj U U h48 ?_))))
 refine Xv Mr U (UP (d:=0) (q:=0) (j47.sp [0,1,2] U) (hG.starL 2 U) hQ3.tri hQ3.ce.toCeW hQ3.few hQ3.qu.toLvP (by omega) (by decide) HX (by decide) Rs U c1 hy1 (by rw[hxq2.2.2.2];decide) htA (fun _=>⟨hxq2.2.2.2,hxq2.2.1⟩) hQ3.qu.dr ⟨[],Nat.le_refl _, fun _ q=> by cases q⟩ (by decide) ⟨[],Nat.le_refl _, fun _ _ q=> by cases q⟩ (by decide) ⟨show(0:Int)≤0 by decide, show(0:Int)≤4000000000000000000 by decide, by show 0≤first;omega, by show first≤_;omega, by show 0≤s;omega, by show first+s≤_;omega⟩) U ?_
 rintro e w49 ⟨_,rfl,(⟨hk,_,j49⟩ | ⟨_,hnv,rfl,j49⟩ | ⟨_,hva,rfl,order,obs,hoo,j49⟩)⟩
 ·exact absurd (fun j ⟨n9,q1,q2,q3⟩=> by unfold TT at q1;by_cases e:j=1;(subst e; rw[Qr]at q1; cases q1; exact absurd q3 (show ¬(0:Int)=1 by decide)); rw[Qw e,Qw q2]at q1;unfold Hi at q1; rw[Qw q2]at q1; cases q1) hk
 ·refine⟨_,U, ?_⟩
  replace j49:=j49.jn U U
  have hg0:r=false:= by cases r with | false=>rfl | true=> exact absurd (hvp.2 U) hnv
  subst hg0
  refine Qj U U h48 (Xl U U U (Qj U U h48 (Qb U U (Qj U U h48 (VN underlying4 U U U (QG U h48 U U (Qf (Qc (Qh [20,16,12,10,9,0,162] U (QP U (fun h50=> ?_) (fun h50=> ?_)))))))))))
  ·exact absurd h50 (by decide)
  refine Qt (Qc (Qe (Qa (Qb U U (Qd U U (Qf (Qc (Qe (Qe (Qa (Qb U U (Qf (Qc (QP U (fun h51=> ?_) (fun h51=> ?_)))))))))))))))
  ·exact absurd h51 (by decide)
  refine Qt (Qc (Qe (Qa (Qb U U (Qb U U (Xu 169 U (fun h52=> ?_) (fun h52=> ?_)))))))
  ·refine Qj U U h52 (Qb U U (Qj U U h52 ?_))
   refine Qy Rm U (Y1 (j49.sp [3,0] U) (by rw[XU Rs]; exact⟨show(0:Int)≤0 by decide, show(0:Int)≤4000000000000000000 by decide, by show 0≤first;omega, by show first≤_;omega⟩)) U ?_
   rintro _ w53 ⟨rfl,j53⟩
   replace j53:=j53.jn U U
   rw[XU Rs, show(rN first).gue+(rN first).el=first by show 0+first=first;omega]
   refine Qj U U h52 (Qb U U (Qj U U h52 (Xl U U U (QH U h52 U U (Qb U U (QS 175 U (fun h54=> ?_) (fun h54=> ?_)))))))
   ·refine Qj U U (det h54) (Qb U U (Qj U U (det h54) ?_))
    refine Qy HR U (Yp (j53.sp [1] U) 99 (by rw[RV (show TT first guess s lk 99=none by unfold TT Hi; rw[Qw (by decide),Qw (by decide),Qw (by decide)])];decide)) U ?_
    rintro _ w55 ⟨rfl,j55⟩
    replace j55:=j55.jn U U
    rw[RV (show TT first guess s lk 99=none by unfold TT Hi; rw[Qw (by decide),Qw (by decide),Qw (by decide)])]
    refine Qj U U (det h54) (Xl U U U (QH U (det h54) U U (Qb U U (QS 180 U (fun h56=> ?_) (fun h56=> ?_)))))
    ·refine Qj U U (det h56) (Qb U U (Qj U U (det h56) (Qy Ms U (VU (j55.sp [0] U) 0) U ?_)))
     rintro _ w57 ⟨rfl,j57⟩
     replace j57:=j57.jn U U
     rw[XU Rs]
     refine Qj U U (det h56) (QV U U (QH U (det h56) U U (Qd U U (Qf (Qc (Qh [8] U (Qv (QM (.inr U) U U ?_))))))))
     exact⟨_,rfl, by first | rfl | (congr 1; simp [H0,rN,oN];done) | (congr 1;decide),j57.pick [5] U⟩
    first | exact absurd (by decide) h56 | exact absurd U h56 | exact absurd h56 (by decide)
   first | exact absurd (by decide) h54 | exact absurd U h54 | exact absurd h54 (by decide)
  first | exact absurd (by decide) h52 | exact absurd U h52 | exact absurd h52 (by decide)
 refine⟨_,U, ?_⟩
 replace j49:=j49.jn U U
 have hg1:=hvp.1 hva
 subst hg1
 obtain⟨T9,hT9⟩: ∃q,q=Vi (TT first guess s lk) 1 (oN guess s lk) (rN first):=⟨_,rfl⟩
 have t90:T9 0=some (H0 (rN first) (oN guess s lk)):= by rw[hT9];unfold Vi; rw[Qw (by decide)]; exact Qr
 have t99:T9 99=none:= by rw[hT9];unfold Vi TT Hi; rw[show(oN guess s lk).par=0 from rfl]; rw[Qw (by decide),Qw (by decide),Qw (by decide),Qw (by decide),Qw (by decide)]
 refine Qj U U h48 (Xl U U U (Qj U U h48 (Qb U U (Qj U U h48 (VN underlying4 U U U (QG U h48 U U (Qf (Qc (Qh [20,16,12,10,9,0,162] U (QP U (fun h58=> ?_) (fun h58=> ?_)))))))))))
 ·exact absurd h58 (by decide)
 refine Qt (Qc (Qe (Qa (Qb U U (Qd U U (Qf (Qc (Qe (Qe (Qa (Qb U U (Qf (Qc (QP U (fun h59=> ?_) (fun h59=> ?_)))))))))))))))
 ·refine Qa (Qb U U (Qb U U (QN U U (by omega) (by omega) U ?_)))
  refine Qd U U (Qf (Qc (Qh [12,10,9,21] U (Qe ?_))))
  have j60:=(j49.pick [0,1,2,3,4,5] U); rw[←hT9]at j60
  refine Qa (Qb U U (Qb U U (Xu 169 U (fun h61=> ?_) (fun h61=> ?_))))
  ·refine Qj U U h61 (Qb U U (Qj U U h61 ?_))
   refine Qy Rm U (Y1 (j60.sp [3,0] U) (by rw[XU t90]; exact⟨show(0:Int)≤0 by decide, show(0:Int)≤4000000000000000000 by decide, by show 0≤first+s;omega, by show first+s≤_;omega⟩)) U ?_
   rintro _ w62 ⟨rfl,j62⟩
   replace j62:=j62.jn U U
   rw[XU t90, show(H0 (rN first) (oN guess s lk)).gue+(H0 (rN first) (oN guess s lk)).el=first+s by show 0+(first+s)=first+s;omega]
   refine Qj U U h61 (Qb U U (Qj U U h61 (Xl U U U (QH U h61 U U (Qb U U (QS 175 U (fun h63=> ?_) (fun h63=> ?_)))))))
   ·refine Qj U U (det h63) (Qb U U (Qj U U (det h63) ?_))
    refine Qy HR U (Yp (j62.sp [1] U) 99 (by rw[RV t99];decide)) U ?_
    rintro _ w64 ⟨rfl,j64⟩
    replace j64:=j64.jn U U
    rw[RV t99]
    refine Qj U U (det h63) (Xl U U U (QH U (det h63) U U (Qb U U (QS 180 U (fun h65=> ?_) (fun h65=> ?_)))))
    ·refine Qj U U (det h65) (Qb U U (Qj U U (det h65) (Qy Ms U (VU (j64.sp [0] U) 0) U ?_)))
     rintro _ w66 ⟨rfl,j66⟩
     replace j66:=j66.jn U U
     rw[XU t90]
     refine Qj U U (det h65) (QV U U (QH U (det h65) U U (Qd U U (Qf (Qc (Qh [8] U (Qv (QM (.inr U) U U ?_))))))))
     exact⟨_,rfl, by first | rfl | (congr 1; simp [H0,rN,oN];done) | (congr 1;decide),j66.pick [5] U⟩
    first | exact absurd (by decide) h65 | exact absurd U h65 | exact absurd h65 (by decide)
   first | exact absurd (by decide) h63 | exact absurd U h63 | exact absurd h63 (by decide)
  first | exact absurd (by decide) h61 | exact absurd U h61 | exact absurd h61 (by decide)
 exact absurd h59 (by decide)
end Go.Proofs.YtkgjmhcdacidoaaGreatDoor
namespace Go.Proofs.YtkgjmhcdacidoaaGreatDoor.M
open Proofs.Tryz
open Go.ChangeShapes Go.WideShapes Go.ChangeAt Go.RowKit Go.Deep
def At (w:World) (b off:Nat) (cs:List Value):Prop:= ∀j v,cs[j]? =some v→w.cell? ⟨b,off+j,none⟩=some v
theorem At.cell {w:World} {b off:Nat} {cs:List Value} (h:At w b off cs) (j:Nat) {v:Value} (hv:cs[j]? =some v):w.cell? ⟨b,off+j,none⟩=some v:=h j v hv
theorem At.below {B:Nat} {w w':World} {b off:Nat} {cs:List Value} (h:At w b off cs) (hb:Below B w w') (hB:b<B):At w' b off cs:=
  fun j v hv=>(hb.cell (p:=⟨b,off+j,none⟩) hB).trans (h j v hv)
structure Cod (P:Program) (t:TypeId) (α:Type) where
  rd:World→List Value→α→Prop
  size:Nat
  cells:P.cellsOf t=size
  down: ∀{H:Type} {enc:TypeId×Value→H} {w:World} {base:Nat} {spare:Nat→Bool} {held:Bool} {fuel:Nat} {cs:List Value} {x:DataW H×List MemPlace},
    DataW.trod enc P w base spare held fuel t cs=some x→ ∃a,rd w cs a
  len: ∀{w cs a},rd w cs a→cs.length=size
  keep: ∀{w w' cs a},Below w.heap.size w w'→rd w cs a→rd w' cs a
section
variable {P:Program}
def Cod.int {t:TypeId} (k:IntKind) (ht:P.underlying t=some (.int k)) (hc:P.cellsOf t=1):Cod P t Int where
  rd:= fun _ cs n=>cs=[.int k n]∧(Lit.int k n).wf=true
  size:=1
  cells:=hc
  down:= fun h=> by
    obtain⟨n,h1,_,h2⟩:=DataW.trod_int ht h
    exact⟨n,h1,h2⟩
  len:= fun h=> by rw[h.1];rfl
  keep:= fun _ h=>h
def Cod.byte {t:TypeId} (ht:P.underlying t=some (.int .u8)) (hc:P.cellsOf t=1):Cod P t UInt8 where
  rd:= fun _ cs n=>cs=[.int .u8 (n.toNat:Int)]
  size:=1
  cells:=hc
  down:= fun h=> by
    obtain⟨n,h1,_,h2⟩:=DataW.trod_int ht h
    have hb:=bounds_u8 h2
    refine⟨UInt8.ofNat n.toNat, ?_⟩
    have e:((UInt8.ofNat n.toNat).toNat:Int)=n:= by simp;omega
    rw[e]; exact h1
  len:= fun h=> by rw[h];rfl
  keep:= fun _ h=>h
def Cod.bool {t:TypeId} (ht:P.underlying t=some .bool) (hc:P.cellsOf t=1):Cod P t Bool where
  rd:= fun _ cs n=>cs=[.bool n]
  size:=1
  cells:=hc
  down:= fun h=> by
    obtain⟨n,h1,_⟩:=DataW.trod_bool ht h
    exact⟨n,h1⟩
  len:= fun h=> by rw[h];rfl
  keep:= fun _ h=>h
def Cod.string {t:TypeId} (ht:P.underlying t=some .string) (hc:P.cellsOf t=1):Cod P t ByteArray where
  rd:= fun _ cs s=>cs=[.string s]∧s.size≤9223372036854775807
  size:=1
  cells:=hc
  down:= fun h=> by
    obtain⟨n,h1,_,h2⟩:=DataW.trod_string ht h
    exact⟨n,h1,h2⟩
  len:= fun h=> by rw[h.1];rfl
  keep:= fun _ h=>h
def Gm {α:Type} (rd:World→List Value→α→Prop) (size:Nat) (w:World) (v:Value) (l:List α):Prop:=
  ∃ao cap,v= .slice ao l.length cap∧l.length≤cap∧cap≤9223372036854775807∧ ∀(i:Nat) (a:α),l[i]? =some a→ ∃b off cs,ao=some ⟨b,off,none⟩∧b<w.heap.size∧At w b (off+i*size) cs∧rd w cs a
def Cod.slice {t e:TypeId} {α:Type} [Inhabited α] (ht:P.underlying t=some (.slice e)) (hc:P.cellsOf t=1) (c:Cod P e α) (hpos:0<c.size):Cod P t (List α) where
  rd:= fun w cs l=> ∃v,cs=[v]∧Gm c.rd c.size w v l
  size:=1
  cells:=hc
  down:= fun {H enc w base spare held fuel cs x} h=> by
    rcases open_slice ht h with⟨rfl,_⟩ | ⟨a,len,cap,m,n,D,Pl,rfl,hb,hl,hm,hmm,_,hx⟩
    · exact⟨[],_,rfl,none,0,rfl,Nat.le_refl _, by omega, fun i a hi=> by simp at hi⟩
    · have hlm:len≤m:= by rw[hmm];split<;>omega
      have hex: ∀i,i<len→ ∃y:α,∃cs',c.rd w cs' y∧(∀j v,cs'[j]? =some v→w.cell? (a.add (i*c.size+j))=some v):= by
        intro i hi
        obtain⟨cs',h1,h2⟩:=hx i (by omega)
        obtain⟨y,hy⟩:=c.down h2
        obtain⟨_,hlen,hat⟩:=World.cells?_some h1
        refine⟨y,cs',hy, fun j v hv=> ?_⟩
        have hj:j<cs'.length:=(List.getElem?_eq_some_iff.1 hv).1
        rw[c.cells]at hlen hat
        rw[←Go.Deep.add_add,hat j (by omega),hv]
      obtain⟨f,hf⟩:=choose_lt hex
      refine⟨(List.range len).map f,_,rfl,some a,cap, by simp, by simpa using hl,hm, fun i y hi=> ?_⟩
      have hil:i<len:= by have :=(List.getElem?_eq_some_iff.1 hi).1;simpa using this
      simp [hil]at hi
      subst hi
      obtain⟨cs',hrd,hat⟩:=hf i hil
      have hcl:=c.len hrd
      obtain⟨b,off,spot⟩:=a
      have h0:=hat 0 cs'[0] (List.getElem?_eq_getElem (by omega))
      have hspot:spot=none:= by
        have :=World.cell?_spot h0
        unfold Addr.add at this
        split at this
        · exact this
        · obtain⟨i0,hi0⟩: ∃i0,i0<len∧i0=0:=⟨0, by omega,rfl⟩
          obtain⟨hi1,rfl⟩:=hi0
          obtain⟨cs0,hrd0,hat0⟩:=hf 0 hi1
          have hcl0:=c.len hrd0
          have h00:=hat0 0 cs0[0] (List.getElem?_eq_getElem (by omega))
          have :=World.cell?_spot h00
          simpa [Addr.add]using this
      subst hspot
      refine⟨b,off,cs',rfl, ?_, fun j v hv=> ?_,hrd⟩
      · have :=block_lt_of_cell h0
        rw[ZD]at this
        exact this
      · have :=hat j v hv
        rw[ZD]at this
        rw[Nat.add_assoc]; exact this
  len:= fun ⟨v,h,_⟩=> by rw[h];rfl
  keep:= fun {w w' cs l} hb ⟨v,h1,ao,cap,h2,h3,h4,h5⟩=>⟨v,h1,ao,cap,h2,h3,h4, fun i a hi=> by
    obtain⟨b,off,cs',e1,e2,e3,e4⟩:=h5 i a hi
    exact⟨b,off,cs',e1,Nat.lt_of_lt_of_le e2 hb.size,e3.below hb e2,c.keep hb e4⟩⟩
structure Flds (P:Program) (fs:List Field) (off:Nat) (α:Type) where
  rd:World→List Value→α→Prop
  size:Nat
  down: ∀{H:Type} {enc:TypeId×Value→H} {w:World} {base:Nat} {spare:Nat→Bool} {held:Bool} {n:Nat} {cs:List Value} {xs:List (DataW H×List MemPlace)},
    (∀(i:Nat) (f:Field),fs[i]? =some f→ ∃x,DataW.trod enc P w base spare held n f.type ((cs.drop f.offset).take (P.cellsOf f.type))=some x)→ ∃a,rd w ((cs.drop off).take size) a
  len: ∀{w cs a},rd w cs a→cs.length=size
  keep: ∀{w w' cs a},Below w.heap.size w w'→rd w cs a→rd w' cs a
def Flds.nil (off:Nat):Flds P [] off Unit where
  rd:= fun _ cs _=>cs=[]
  size:=0
  down:= fun _=>⟨(), by simp⟩
  len:= fun h=> by rw[h];rfl
  keep:= fun _ h=>h
def Flds.cons {f:Field} {fs:List Field} {off:Nat} {α β:Type} (c:Cod P f.type α) (ho:f.offset=off) (r:Flds P fs (off+c.size) β):Flds P (f::fs) off (α×β) where
  rd:= fun w cs a=> ∃cs1 cs2,cs=cs1++cs2∧c.rd w cs1 a.1∧r.rd w cs2 a.2
  size:=c.size+r.size
  down:= fun {H enc w base spare held n cs xs} h=> by
    obtain⟨x,hx⟩:=h 0 f rfl
    rw[ho,c.cells]at hx
    obtain⟨a,ha⟩:=c.down hx
    obtain⟨b,hb⟩:=r.down (xs:=xs) (fun i g hg=>h (i+1) g (by simpa using hg))
    refine⟨(a,b),_,_, ?_,ha,hb⟩
    rw[←List.drop_drop]
    exact List.take_add ..
  len:= fun ⟨cs1,cs2,h,h1,h2⟩=> by rw[h,List.length_append,c.len h1,r.len h2]
  keep:= fun hb ⟨cs1,cs2,h,h1,h2⟩=>⟨cs1,cs2,h,c.keep hb h1,r.keep hb h2⟩
def Cod.struct {t:TypeId} {fs:List Field} {α:Type} (ht:P.underlying t=some (.struct fs.toArray)) (r:Flds P fs 0 α) (hc:P.cellsOf t=r.size):Cod P t α where
  rd:=r.rd
  size:=r.size
  cells:=hc
  down:= fun {H enc w base spare held fuel cs x} h=> by
    obtain⟨xs,n,_,_,hl,hxl,hf⟩:=DataW.trod_struct ht h
    obtain⟨a,ha⟩:=r.down (xs:=xs) (n:=n) (enc:=enc) (w:=w) (base:=base) (spare:=spare) (held:=held) (cs:=cs) (fun i f hi=> by
      have h1:=hf i f (by simpa using hi)
      have hil:=(List.getElem?_eq_some_iff.1 hi).1
      rw[h1,List.getElem?_eq_getElem (by rw[hxl];simpa using hil)]
      exact⟨_,U⟩)
    refine⟨a, ?_⟩
    rw[List.drop_zero,List.take_of_length_le (by omega)]at ha
    exact ha
  len:=r.len
  keep:=r.keep
def Cod.map {t:TypeId} {α β:Type} (c:Cod P t α) (f:α→β):Cod P t β where
  rd:= fun w cs b=> ∃a,b=f a∧c.rd w cs a
  size:=c.size
  cells:=c.cells
  down:= fun h=> by obtain⟨a,ha⟩:=c.down h; exact⟨f a,a,rfl,ha⟩
  len:= fun ⟨a,_,h⟩=>c.len h
  keep:= fun hb ⟨a,e,h⟩=>⟨a,e,c.keep hb h⟩
theorem Vd {H:Type} {enc:TypeId×Value→H} (hl:laidOutB P=true) {W W':World} (hb:Below W.heap.size W W'):
    ∀ (ts:List TypeId) (vs:List Value) (ds:List (DataW H)) (ps:List MemPlace),(∀t∈ts,P.readableRec t=true∧t<P.types.size)→
      DataW.TrodAll enc P W 0 (fun _=>true) true ts vs ds ps→DataW.TrodAll enc P W' 0 (fun b=>decide (b<W.heap.size)) true ts vs ds ps
  | [],vs,ds,ps,_,h=> by
    obtain⟨rfl,rfl,rfl⟩:=trodAll_nil h
    exact U
  | t::ts,vs,ds,ps,hr,h=> by
    obtain⟨v,vs',d,ds',p,q,rfl,rfl,rfl,h0,h1⟩:=trodAll_cons h
    have lt0: ∀x∈p,x.block<W.heap.size:= by obtain⟨m,hm⟩:=h0; exact DataW.trod_lt m _ _ _ hm
    obtain⟨r1,r2⟩:=hr t (by simp)
    exact trodAll_cons_mk (Below.trod hl r1 r2 h0 hb lt0) (Vd hl hb ts vs' ds' q (fun t ht=>hr t (by simp [ht])) h1)
end
