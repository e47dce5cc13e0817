/- LeavesNested -/
import Derived.Test.YtkcjfoaejijdoaaGreatDoorLv46
import Derived.Test.YtkcjfoaejijdoaaGreatDoorMem
import Derived.ProofKit
import Derived.OpenShut
import Derived.ShutString
import Derived.ChangeOld
import Derived.Deep.Slices
import Derived.Deep.Fields
import Derived.ChangeSame
import Derived.JoinedCond
set_option linter.unusedVariables false
set_option maxRecDepth 100000
set_option maxHeartbeats 6400000
namespace Go.Proofs.YtkcjfoaejijdoaaGreatDoor
open Go.RowKit M
theorem SN {w:World} {F:Th} (hS:Sat w [F]) (hG:Ent F GT) {fv av bv cv:Value} {l1 l2 l3 l4:List AcL} (hF:Ent F (RdL AI fv l1)) (hA:Ent F (RdL AI av l2)) (hB:Ent F (RdL AI bv l3)) (hC:Ent F (RdL AI cv l4)) (cm:Bool):
    Calls Tryz.prog 7 #[fv,av,bv,cv,.bool cm] w (Ret fun v w'=>v= .bool true∧Sat w' [F]):= by
 letI:Inhabited SlW:=⟨⟨4096⟩⟩
 obtain⟨ao1,cap1,rfl,hm1⟩:=(hF.sat hS 0 rfl).shape
 obtain⟨ao2,cap2,rfl,hm2⟩:=(hA.sat hS 0 rfl).shape
 obtain⟨ao3,cap3,rfl,hm3⟩:=(hB.sat hS 0 rfl).shape
 obtain⟨ao4,cap4,rfl,hm4⟩:=(hC.sat hS 0 rfl).shape
 refine Qo Tryz.func7 rfl Tryz.ntmps7 rfl ?_
 refine Qd (Qa (Qe rfl rfl (Qf (Qc (Qd (Qa (Qv cal_8 rfl (Oj (hS.sp [] rfl) (hG.starL 0 rfl)) rfl ?_)))))))
 rintro _ w1 ⟨rfl,hS1⟩
 replace hS1:=hS1.jn rfl rfl
 refine Qe rfl rfl (Qf (Qc (Qd (Qa (Qv cal_9 rfl (NV (hS1.sp [] rfl) rfl) rfl ?_)))))
 rintro _ w2 ⟨b,p,mp,mt,ms,rfl,hS2⟩
 replace hS2:=hS2.jn rfl rfl
 clear hS1
 have hz0:=NW (hS2.pick [0,1,2] rfl)
 refine Qb rfl rfl (Qs rfl rfl rfl (Qs rfl rfl rfl (Qe rfl rfl (Qe rfl rfl (Qf (Qc (Qh [4,3,2,1,0,10,11,12,13] rfl (Qd (Qa ?_)))))))))
 have hC3:=hz0.sp [] rfl
 refine Qv cal_35 rfl (new_sp hC3) rfl ?_
 rintro _ w3 ⟨fw,rfl,hS3⟩
 replace hS3:=hS3.jn rfl rfl; clear hC3
 clear hz0
 refine Qe rfl rfl (Qf (Qc (Qd (Qd (Qa (Qb rfl rfl (Z8 Tryz.underlying24 rfl rfl rfl (Qb rfl rfl (Qk rfl rfl rfl (Qb rfl rfl (Qk rfl rfl rfl (Z8 Tryz.underlying25 rfl rfl rfl (QO rfl rfl rfl rfl (Qb rfl rfl (Qk rfl rfl rfl (Qb rfl rfl (Qk rfl rfl rfl (Z8 Tryz.underlying66 rfl rfl rfl (QO rfl rfl rfl rfl (Qf (Qc (Qh [4,3,2,1,0,10,11,12,13,14,36] rfl (QT rfl (Qr (Qc (Qd (Qd (Qa (Qb rfl rfl (Qv Nf rfl (CH (hS3.sp [] rfl) (hF.starL 2 rfl) 20) rfl ?_))))))))))))))))))))))))))))))
 rintro _ w4 ⟨rfl,hS4⟩
 replace hS4:=hS4.jn rfl rfl
 clear hS3
 refine QQ rfl rfl (Qb rfl rfl (Zc 40 rfl (fun h5=> ?_) (fun h5=> ?_)))
 ·refine Qi rfl rfl h5 rfl (Qi rfl rfl h5 rfl (Qi rfl rfl h5 rfl (QC rfl h5 rfl rfl (Qb rfl rfl (Qi rfl rfl rfl rfl (Qi rfl rfl rfl rfl (Qi rfl rfl rfl rfl (QC rfl rfl rfl rfl (Qb rfl rfl (Qi rfl rfl rfl rfl (Qi rfl rfl rfl rfl (Qi rfl rfl rfl rfl (QC rfl rfl rfl rfl (Qf (Qc (Qh [4,3,2,1,0,10,11,12,13,14,54] rfl (Xl rfl (Qd (Qa (Qb rfl rfl (Qe rfl rfl (Qf (Qc (Qu (Qn (QP (.inr rfl) rfl rfl ?_))))))))))))))))))))))))))
  exact⟨_,rfl, by rfl,hS4.pick [2] rfl⟩
 have q1:M3 l1 20=true:= by simpa using h5
 refine Qk rfl rfl h5 (Qb rfl rfl (Qk rfl rfl h5 (Qv Nf rfl (CH (hS4.sp [] rfl) (hA.starL 2 rfl) 20) rfl ?_)))
 rintro _ w6 ⟨rfl,hS6⟩
 replace hS6:=hS6.jn rfl rfl
 clear hS4
 refine Qk rfl rfl h5 (QQ rfl rfl (QO rfl h5 rfl rfl (Qb rfl rfl (Zc 45 rfl (fun h7=> ?_) (fun h7=> ?_)))))
 ·refine Qi rfl rfl h7 rfl (Qi rfl rfl h7 rfl (Qi rfl rfl h7 rfl (QC rfl h7 rfl rfl (Qb rfl rfl (Qi rfl rfl rfl rfl (Qi rfl rfl rfl rfl (Qi rfl rfl rfl rfl (QC rfl rfl rfl rfl (Qf (Qc (Qh [4,3,2,1,0,10,11,12,13,14,54] rfl (Xl rfl (Qd (Qa (Qb rfl rfl (Qe rfl rfl (Qf (Qc (Qu (Qn (QP (.inr rfl) rfl rfl ?_)))))))))))))))))))))
  exact⟨_,rfl, by rfl,hS6.pick [2] rfl⟩
 have q2:M3 l2 20=true:= by simpa using h7
 refine Qk rfl rfl h7 (Qb rfl rfl (Qk rfl rfl h7 (Qv Nf rfl (CH (hS6.sp [] rfl) (hB.starL 2 rfl) 20) rfl ?_)))
 rintro _ w8 ⟨rfl,hS8⟩
 replace hS8:=hS8.jn rfl rfl
 clear hS6
 refine Qk rfl rfl h7 (QQ rfl rfl (QO rfl h7 rfl rfl (Qb rfl rfl (Zc 50 rfl (fun h9=> ?_) (fun h9=> ?_)))))
 ·refine Qi rfl rfl h9 rfl (Qi rfl rfl h9 rfl (Qi rfl rfl h9 rfl (QC rfl h9 rfl rfl (Qf (Qc (Qh [4,3,2,1,0,10,11,12,13,14,54] rfl (Xl rfl (Qd (Qa (Qb rfl rfl (Qe rfl rfl (Qf (Qc (Qu (Qn (QP (.inr rfl) rfl rfl ?_))))))))))))))))
  exact⟨_,rfl, by rfl,hS8.pick [2] rfl⟩
 have q3:M3 l3 20=true:= by simpa using h9
 refine Qk rfl rfl h9 (Qb rfl rfl (Qk rfl rfl h9 (Qv Nf rfl (CH (hS8.sp [] rfl) (hC.starL 2 rfl) 20) rfl ?_)))
 rintro _ w10 ⟨rfl,hS10⟩
 replace hS10:=hS10.jn rfl rfl
 clear hS8
 refine Qk rfl rfl h9 (QQ rfl rfl (QO rfl h9 rfl rfl (Qf (Qc (Qh [4,3,2,1,0,10,11,12,13,14,54] rfl (QL rfl (fun h11=> ?_) (fun h11=> ?_)))))))
 ·refine Qd (Qa (Qb rfl rfl (Qe rfl rfl (Qf (Qc (Qu (Qn (QP (.inr rfl) rfl rfl ?_))))))))
  exact⟨_,rfl, by rfl,hS10.pick [2] rfl⟩
 have q4:M3 l4 20=true:= by simpa using h11
 have g1:=Df q1
 have g2:=Df q2
 have g3:=Df q3
 have g4:=Df q4
 refine Qr (Qc (Qd (Qd (Qa (Qe rfl rfl (Qf (Qc (Qw ?_))))))))
 refine Xa (fun K0 E0 W0=> ∃(i:Nat) (A:LvA),K0=l1.length -i∧E0=[(0,.slice ao1 l1.length cap1),(1,.slice ao2 l2.length cap2),(2,.slice ao3 l3.length cap3),(3,.slice ao4 l4.length cap4),(4,.bool cm),(11,.bool true),(12,ptrV b 0),(13,ptrV p 0),(14,ptrV fw 0),(15,intV (i:Int))]∧Sat W0 [JX b p (100000*i) 0 i (512*i) A,Xp fw (Vm emptyW (l1.take i)),F]∧(i≤l1.length)∧(∀j,A.tr j=none)∧(VisP A.pres (Vm emptyW (l1.take i)))) (L0:=[(0,_),(1,_),(2,_),(3,_),(4,_),(11,_),(12,_),(13,_),(14,_),(15,_)]) (l1.length -0) (Rs rfl rfl rfl rfl rfl rfl rfl rfl rfl rfl) ⟨0,OZ,rfl,rfl,hS10.pick [1,0,2] rfl, by omega, fun _=>rfl, fun _ _=>(by first | rfl | (unfold XC W2;rfl))⟩ ?_
 rintro _ _ w12 ⟨i,A,rfl,rfl,hS12,hi,hnt,hv⟩
 refine Qd (Qd (Qa (Qb rfl rfl (Qb rfl rfl (XE Tryz.underlying36 rfl rfl (Xg rfl rfl rfl (Qf (Qc (Qh [15,14,13,12,11,4,3,2,1,0,59] rfl (Qt rfl (fun h13=> ?_) (fun h13=> ?_)))))))))))
 ·obtain⟨x1,ha1⟩: ∃y,l1[i]? =some y:=⟨_,Zi (by omega)⟩
  obtain⟨bqx1,offx1,rfl,hcx1⟩:=(hF.sat hS12 2 rfl).get ha1
  have hilx1:=(XW ha1).1
  clear hcx1
  refine Qr (Qc (Qd (Qw (Qd (Qa (Qb rfl rfl (Qb rfl rfl (Qb rfl rfl (Qb rfl rfl (Ze i rfl rfl (by first | rfl | omega) (by omega) PG rfl ?_))))))))))
  refine Y8 rfl Sm T2 (vs:=Bm x1) ((hF.sat hS12 2 rfl).at_ ha1) rfl (Qv CZ rfl (Og (hS12.sp [0,1] rfl) (by omega) (by decide) (by omega) hv (g1.2 i x1 ha1)) rfl ?_)
  rintro _ w14 ⟨rfl,hS14⟩
  replace hS14:=hS14.jn rfl rfl
  clear hS12
  refine QQ rfl rfl (Qf (Qc (Qh [15,14,13,12,11,4,3,2,1,0,69] rfl (QL rfl (fun h15=> ?_) (fun h15=> ?_)))))
  ·exact absurd h15 (by decide)
  refine Qr (Ql (Qc (Qa (Qb rfl rfl (QK rfl rfl (by omega) (by omega) rfl ?_)))))
  refine Qe rfl rfl (Qf ?_)
  exact Q4 (L1:=[(0,_),(1,_),(2,_),(3,_),(4,_),(11,_),(12,_),(13,_),(14,_),(15,intV ((i+1:Nat):Int))]) (Rs rfl rfl rfl rfl rfl rfl rfl rfl rfl rfl) (k1:=l1.length -(i+1)) (by omega) ⟨i+1,{A with pres:=Vz A.pres x1},rfl,rfl, by rw[←V9 ha1]; exact WD (by omega) (by omega) (by omega) (by omega) (hS14.pick [0,1,2] rfl), by omega,hnt, by rw[←V9 ha1]; exact hv.step (C2 Cb _)⟩
 refine QR (Qq (Qq (Qy (Qc (Qh [14,13,12,11,4,3,2,1] rfl (Qd ?_))))))
 have hnl1: ¬i<l1.length:= by omega
 obtain⟨Wz,hW0⟩: ∃W,W=Vm emptyW (l1.take i):=⟨_,rfl⟩
 rw[←hW0]at hv hS12
 have hok0:PagesOk Wz.objs:= by rw[hW0]; exact C2 Cb _
 have hb64:=lsT_len hS12
 obtain⟨P,hP⟩: ∃P,P=A.pres:=⟨_,rfl⟩
 rw[←hP]at hv hb64
 obtain⟨hbe1,hN1⟩:=Ne1.start hnt
 rw[←hP]at hN1
 refine Qa (Qb rfl rfl (Qv qbb rfl (Lv (hS12.sp [1] rfl)) rfl ?_))
 rintro _ w16 ⟨ww,rfl,hS16⟩
 replace hS16:=hS16.jn rfl rfl
 clear hS12
 refine Qe rfl rfl (Qf (Qc (Qd (Qd (Qa (Qb rfl rfl (Z8 Tryz.underlying66 rfl rfl rfl (Qb rfl rfl (Qk rfl rfl rfl (Qb rfl rfl (Qk rfl rfl rfl (Qv F6 rfl (Mm (hS16.sp [2] rfl) (by omega) (by decide) 1 0) rfl ?_))))))))))))
 rintro _ w17 ⟨rfl,hS17⟩
 replace hS17:=hS17.jn rfl rfl
 clear hS16
 rw[hbe1]
 refine Qk rfl rfl rfl (X0 rfl rfl rfl (QO rfl rfl rfl rfl (Qf (Qc (Qh [14,13,12,11,4,3,2,1,16,78] rfl (Qt rfl (fun h18=> ?_) (fun h18=> ?_)))))))
 ·exact absurd h18 (by decide)
 refine Qr (Qc (Qd (Qd (Qa (Qe rfl rfl (Qf (Qc (Qw ?_))))))))
 have hz1:=WD (n':=100000*(i+0)) (m':=1) (c':=i+0) (e':=512*(i+0)) (by omega) (by omega) (by omega) (by omega) (hS17.pick [0,1,2,3] rfl)
 refine Xa (fun K0 E0 W0=> ∃(j:Nat) (A:LvA),K0=l2.length -j∧E0=[(2,.slice ao3 l3.length cap3),(3,.slice ao4 l4.length cap4),(4,.bool cm),(11,.bool true),(12,ptrV b 0),(13,ptrV p 0),(14,ptrV fw 0),(1,.slice ao2 l2.length cap2),(16,ptrV ww 0),(17,intV (j:Int))]∧Sat W0 [JX b p (100000*(i+j)) 1 (i+j) (512*(i+j)) A,Xp ww (Vm Wz (l2.take j)),Xp fw Wz,F]∧(j≤l2.length)∧(Ne1 A P (HH P t00 (l2.take j)))) (L0:=[(2,_),(3,_),(4,_),(11,_),(12,_),(13,_),(14,_),(1,_),(16,_),(17,_)]) (l2.length -0) (Rs rfl rfl rfl rfl rfl rfl rfl rfl rfl rfl) ⟨0,_,rfl,rfl,hz1.pick [0,1,2,3] rfl, by omega,hN1⟩ ?_
 rintro _ _ w19 ⟨j,A,rfl,rfl,hS19,hj,hN⟩
 refine Qd (Qd (Qa (Qb rfl rfl (Qb rfl rfl (XE Tryz.underlying36 rfl rfl (Xg rfl rfl rfl (Qf (Qc (Qh [17,16,1,14,13,12,11,4,3,2,82] rfl (Qt rfl (fun h20=> ?_) (fun h20=> ?_)))))))))))
 ·obtain⟨x2,ha2⟩: ∃y,l2[j]? =some y:=⟨_,Zi (by omega)⟩
  obtain⟨bqx2,offx2,rfl,hcx2⟩:=(hA.sat hS19 3 rfl).get ha2
  have hilx2:=(XW ha2).1
  clear hcx2
  refine Qr (Qc (Qd (Qw (Qd (Qa (Qb rfl rfl (Qb rfl rfl (Qb rfl rfl (Qb rfl rfl (Ze j rfl rfl (by first | rfl | omega) (by omega) PG rfl ?_))))))))))
  refine Y8 rfl Sm T2 (vs:=Bm x2) ((hA.sat hS19 3 rfl).at_ ha2) rfl (Qv CZ rfl (DG (hS19.sp [0,1] rfl) (by omega) (by decide) (by omega) hN.t1 (UN _) hN.bg (HG _ (FJ hv) hok0) (g2.2 j x2 ha2)) rfl ?_)
  rintro _ w21 ⟨rfl,hS21⟩
  replace hS21:=hS21.jn rfl rfl
  clear hS19
  rw[V9 ha2]at hS21
  have hN2:=hN.st (v:=Jk P (HH P t00 (l2.take j)) x2) (by rw[H5 ha2]; exact UN _)
  rw[H5 ha2]at hS21 hN2
  refine QQ rfl rfl (Qf (Qc (Qh [17,16,1,14,13,12,11,4,3,2,92] rfl (QL rfl (fun h22=> ?_) (fun h22=> ?_)))))
  ·exact absurd h22 (by decide)
  refine Qr (Ql (Qc (Qa (Qb rfl rfl (QK rfl rfl (by omega) (by omega) rfl ?_)))))
  refine Qe rfl rfl (Qf ?_)
  exact Q4 (L1:=[(2,_),(3,_),(4,_),(11,_),(12,_),(13,_),(14,_),(1,_),(16,_),(17,intV ((j+1:Nat):Int))]) (Rs rfl rfl rfl rfl rfl rfl rfl rfl rfl rfl) (k1:=l2.length -(j+1)) (by omega) ⟨j+1,_,rfl,rfl,WD (by omega) (by omega) (by omega) (by omega) (hS21.pick [0,1,2,3] rfl), by omega,hN2⟩
 refine QR (Qq (Qq (Qy (Qc (Qh [16,14,13,12,11,4,3,2] rfl (Qd ?_))))))
 have hj2:l2.length≤j:= by omega
 rw[List.take_of_length_le hj2]at hS19 hN
 have hku:TrK P (HH P t00 l2) 20 20:=(BU l2 t00_trk).up (by omega) (by omega)
 have hvu:VisT P (HH P t00 l2) (Vm Wz l2):=HG _ (FJ hv) hok0
 have hoku:=C2 hok0 l2
 obtain⟨u,hu⟩: ∃u,u=HH P t00 l2:=⟨_,rfl⟩
 obtain⟨Wu,hWu⟩: ∃W,W=Vm Wz l2:=⟨_,rfl⟩
 rw[←hu]at hN hku hvu
 rw[←hWu]at hS19 hvu hoku
 obtain⟨hbe2,hN3⟩:=hN.two
 have halu:=SR hS19 hN.t1
 have hbv:=bgU_vis hvu
 refine Qa (Qb rfl rfl (Qv qbb rfl (Lv (hS19.sp [1] rfl)) rfl ?_))
 rintro _ w23 ⟨xw,rfl,hS23⟩
 replace hS23:=hS23.jn rfl rfl
 clear hS19
 refine Qe rfl rfl (Qf (Qc (Qd (Qd (Qa (Qb rfl rfl (Z8 Tryz.underlying66 rfl rfl rfl (Qb rfl rfl (Qk rfl rfl rfl (Qb rfl rfl (Qk rfl rfl rfl (Qv F6 rfl (Mm (hS23.sp [2] rfl) (by omega) (by decide) 7 1) rfl ?_))))))))))))
 rintro _ w24 ⟨rfl,hS24⟩
 replace hS24:=hS24.jn rfl rfl
 clear hS23
 rw[hbe2]
 refine Qk rfl rfl rfl (X0 rfl rfl rfl (QO rfl rfl rfl rfl (Qf (Qc (Qh [16,14,13,12,11,4,3,2,18,101] rfl (Qt rfl (fun h25=> ?_) (fun h25=> ?_)))))))
 ·exact absurd h25 (by decide)
 refine Qr (Qc (Qd (Qd (Qa (Qe rfl rfl (Qf (Qc (Qw ?_))))))))
 have hz1:=WD (n':=100000*(i+j+0)) (m':=2) (c':=i+j+0) (e':=512*(i+j+0)) (by omega) (by omega) (by omega) (by omega) (hS24.pick [0,1,2,3,4] rfl)
 refine Xa (fun K0 E0 W0=> ∃(k:Nat) (A:LvA),K0=l3.length -k∧E0=[(3,.slice ao4 l4.length cap4),(4,.bool cm),(11,.bool true),(12,ptrV b 0),(13,ptrV p 0),(14,ptrV fw 0),(2,.slice ao3 l3.length cap3),(16,ptrV ww 0),(18,ptrV xw 0),(19,intV (k:Int))]∧Sat W0 [JX b p (100000*(i+j+k)) 2 (i+j+k) (512*(i+j+k)) A,Xp xw (Vm Wu (l3.take k)),Xp ww Wu,Xp fw Wz,F]∧(k≤l3.length)∧(Ne2 A P u (HH (Sp P u) t01 (l3.take k)))) (L0:=[(3,_),(4,_),(11,_),(12,_),(13,_),(14,_),(2,_),(16,_),(18,_),(19,_)]) (l3.length -0) (Rs rfl rfl rfl rfl rfl rfl rfl rfl rfl rfl) ⟨0,_,rfl,rfl,hz1.pick [0,1,2,3,4] rfl, by omega,hN3⟩ ?_
 rintro _ _ w26 ⟨k,A,rfl,rfl,hS26,hk,hN⟩
 refine Qd (Qd (Qa (Qb rfl rfl (Qb rfl rfl (XE Tryz.underlying36 rfl rfl (Xg rfl rfl rfl (Qf (Qc (Qh [19,18,16,2,14,13,12,11,4,3,105] rfl (Qt rfl (fun h27=> ?_) (fun h27=> ?_)))))))))))
 ·obtain⟨x3,ha3⟩: ∃y,l3[k]? =some y:=⟨_,Zi (by omega)⟩
  obtain⟨bqx3,offx3,rfl,hcx3⟩:=(hB.sat hS26 4 rfl).get ha3
  have hilx3:=(XW ha3).1
  clear hcx3
  refine Qr (Qc (Qd (Qw (Qd (Qa (Qb rfl rfl (Qb rfl rfl (Qb rfl rfl (Qb rfl rfl (Ze k rfl rfl (by first | rfl | omega) (by omega) PG rfl ?_))))))))))
  refine Y8 rfl Sm T2 (vs:=Bm x3) ((hB.sat hS26 4 rfl).at_ ha3) rfl (Qv CZ rfl (DG (hS26.sp [0,1] rfl) (by omega) (by decide) (by omega) hN.t7 (UN _) hN.bg (HG _ (FI hbv) hoku) (g3.2 k x3 ha3)) rfl ?_)
  rintro _ w28 ⟨rfl,hS28⟩
  replace hS28:=hS28.jn rfl rfl
  clear hS26
  rw[V9 ha3]at hS28
  have hN4:=hN.st (v:=Jk (Sp P u) (HH (Sp P u) t01 (l3.take k)) x3) (by rw[H5 ha3]; exact UN _)
  rw[H5 ha3]at hS28 hN4
  refine QQ rfl rfl (Qf (Qc (Qh [19,18,16,2,14,13,12,11,4,3,115] rfl (QL rfl (fun h29=> ?_) (fun h29=> ?_)))))
  ·exact absurd h29 (by decide)
  refine Qr (Ql (Qc (Qa (Qb rfl rfl (QK rfl rfl (by omega) (by omega) rfl ?_)))))
  refine Qe rfl rfl (Qf ?_)
  exact Q4 (L1:=[(3,_),(4,_),(11,_),(12,_),(13,_),(14,_),(2,_),(16,_),(18,_),(19,intV ((k+1:Nat):Int))]) (Rs rfl rfl rfl rfl rfl rfl rfl rfl rfl rfl) (k1:=l3.length -(k+1)) (by omega) ⟨k+1,_,rfl,rfl,WD (by omega) (by omega) (by omega) (by omega) (hS28.pick [0,1,2,3,4] rfl), by omega,hN4⟩
 refine QR (Qq (Qq (Qy (Qc (Qh [18,16,14,13,12,11,4,3] rfl (Qd (Qd ?_)))))))
 have hk3:l3.length≤k:= by omega
 rw[List.take_of_length_le hk3]at hS26 hN
 have hkt:TrK (Sp P u) (HH (Sp P u) t01 l3) 20 20:=(BU l3 t01_trk).up (by omega) (by omega)
 have hvt:VisT (Sp P u) (HH (Sp P u) t01 l3) (Vm Wu l3):=HG _ (FI hbv) hoku
 have hokt:=C2 hoku l3
 have halt:=SR hS26 hN.t7
 have hbl:=bgU_len halu hb64
 have hrd:=hN.rdy hku hkt
 refine Qa (Qb rfl rfl (Qb rfl rfl (Qb rfl rfl ?_)))
 refine Qv CY rfl (Da (hS26.sp [0,2] rfl) (by omega) (by decide) (by omega) (.inr ⟨_,hN.t1⟩) (fun nm pg=> by rw[hN.sees]; exact hvu nm pg)) rfl ?_
 rintro _ w30 ⟨rfl,hS30⟩
 replace hS30:=hS30.jn rfl rfl
 clear hS26
 refine QQ rfl rfl (Qb rfl rfl (Zc 121 rfl (fun h31=> ?_) (fun h31=> ?_)))
 ·exact absurd h31 (by decide)
 refine Qk rfl rfl h31 (Qb rfl rfl (Qk rfl rfl h31 (Qv Nk rfl (RJ (hS30.sp [0] rfl) (by omega) (by decide) (hG.starL 3 rfl) hN.t7) rfl ?_)))
 rintro _ w32 ⟨r1,rfl,hr1,hS32⟩
 replace hS32:=hS32.jn rfl rfl
 clear hS30
 have hr1t:r1=true:=hr1.2 (hN.val hkt)
 subst hr1t
 refine Qk rfl rfl h31 (QQ rfl rfl (QO rfl h31 rfl rfl (Qb rfl rfl (Zc 126 rfl (fun h33=> ?_) (fun h33=> ?_)))))
 ·exact absurd h33 (by decide)
 refine Qk rfl rfl h33 (Qb rfl rfl (Qk rfl rfl h33 (Qv Nl rfl (ls_busy (hS32.sp [0] rfl) (by omega) (by decide) hN.t1 hN.t7 hN.par7) rfl ?_)))
 rintro _ w34 ⟨rfl,hS34⟩
 replace hS34:=hS34.jn rfl rfl
 clear hS32
 refine Qk rfl rfl h33 (X0 rfl rfl rfl (QO rfl h33 rfl rfl (Qf (Qc (Qh [18,16,14,13,12,11,4,3,130] rfl (Qt rfl (fun h35=> ?_) (fun h35=> ?_)))))))
 ·exact absurd h35 (by decide)
 refine Qr (Qc (UE (fun E0 W0=> ∃(A:LvA) (v:TrA) (Wv:WS) (xq:Nat),E0=[(3,.slice ao4 l4.length cap4),(11,.bool true),(12,ptrV b 0),(13,ptrV p 0),(14,ptrV fw 0),(18,ptrV xq 0)]∧Sat W0 [JX b p (100000*(i+j+k)+3000000) 2 ((i+j+k)+20) (512*(i+j+k)) A,Xp xq Wv,Xp fw Wz,F]∧(Ne1 A P v)∧(TrK P v 40 40)∧(VisT P v Wv)∧(PagesOk Wv.objs)) ?_ ?_))
 ·refine Qd (Qa (Qb rfl rfl (QQ rfl rfl (Qf (Qc (Qh [18,16,14,13,12,11,3,132] rfl (QL rfl (fun h37=> ?_) (fun h37=> ?_))))))))
  ·refine Qd (Qa (Qb rfl rfl ?_))
   refine Qv cal_25 rfl (Ir (hS34.sp [0] rfl) (by omega) (by decide) (by omega) hN.t7 hrd.1 (ids:=[1,7]) (fun i u hu=> by rcases hN.key hu with⟨q,_⟩ | ⟨q,_⟩<;> rw[q]<;>decide) (by decide)) rfl ?_
   rintro _ w38 hS38
   replace hS38:=hS38.jn rfl rfl
   clear hS34
   exact Qf (Qc (Qa (Qb rfl rfl (Qe rfl rfl (Qf (Wc (Vg rfl rfl rfl rfl rfl rfl) ⟨_,u,Wu,_,rfl,WD (by omega) (by omega) (by omega) (by omega) (hS38.pick [0,1,3,4] rfl),hN.abo,hku.up (by omega) (by omega),hvu,hoku⟩))))))
  refine Qd (Qa (Qb rfl rfl (Qv Nl rfl (Iq (d:=20) (q:=20) (hS34.sp [0] rfl) (by omega) (by decide) (by omega) (by omega) hN.t7 hrd.1 hrd.2 hkt.dl hkt.pt (by omega)) rfl ?_)))
  rintro _ w39 ⟨order,obs,rfl,⟨hord,hnd,hob⟩,hS39⟩
  replace hS39:=hS39.jn rfl rfl
  clear hS34
  obtain⟨vv,hN5,hkv,hvv⟩:=hN.com hku hkt halt hbl hnd hord hob hvt
  refine X0 rfl rfl rfl (Qf (Qc (Qh [18,14,13,12,11,3,138] rfl (Qt rfl (fun h40=> ?_) (fun h40=> ?_)))))
  ·exact absurd h40 (by decide)
  exact Qr (Wc (Vg rfl rfl rfl rfl rfl rfl) ⟨_,vv,_,_,rfl,WD (by omega) (by omega) (by omega) (by omega) (hS39.pick [0,2,3,4] rfl),hN5,hkv,hvv,hokt⟩)
 rintro _ w36 ⟨A,v,Wv,xq,rfl,hS36,hN,hkv,hvv,hokv⟩
 refine Qd (Qd (Qa (Qb rfl rfl (Qb rfl rfl (Qb rfl rfl ?_)))))
 refine Qv CY rfl (Da (hS36.sp [0,1] rfl) (by omega) (by decide) (by omega) (.inr ⟨_,hN.t1⟩) (fun nm pg=> by rw[hN.sees]; exact hvv nm pg)) rfl ?_
 rintro _ w41 ⟨rfl,hS41⟩
 replace hS41:=hS41.jn rfl rfl
 clear hS36
 refine QQ rfl rfl (Qf (Qc (Qh [18,14,13,12,11,3,143] rfl (QL rfl (fun h42=> ?_) (fun h42=> ?_)))))
 ·exact absurd h42 (by decide)
 refine Qr (Qc (Qd (Qd ?_)))
 have hpv:=hN.par
 refine Qa (Qe rfl rfl (Qf (Qc (Qw ?_))))
 have hz1:=WD (n':=100000*(i+j+k+0)+3000000) (m':=2) (c':=i+j+k+20+0) (e':=512*(i+j+k+0)) (by omega) (by omega) (by omega) (by omega) (hS41.pick [0,1,2,3] rfl)
 refine Xa (fun K0 E0 W0=> ∃(q:Nat) (A:LvA),K0=l4.length -q∧E0=[(3,.slice ao4 l4.length cap4),(11,.bool true),(12,ptrV b 0),(13,ptrV p 0),(14,ptrV fw 0),(18,ptrV xq 0),(20,intV (q:Int))]∧Sat W0 [JX b p (100000*(i+j+k+q)+3000000) 2 (i+j+k+20+q) (512*(i+j+k+q)) A,Xp xq (Vm Wv (l4.take q)),Xp fw Wz,F]∧(q≤l4.length)∧(Ne1 A P (HH P v (l4.take q)))) (L0:=[(3,_),(11,_),(12,_),(13,_),(14,_),(18,_),(20,_)]) (l4.length -0) (Cq rfl rfl rfl rfl rfl rfl rfl) ⟨0,_,rfl,rfl,hz1.pick [0,1,2,3] rfl, by omega,hN⟩ ?_
 rintro _ _ w43 ⟨q,A,rfl,rfl,hS43,hq,hN⟩
 refine Qd (Qd (Qa (Qb rfl rfl (Qb rfl rfl (XE Tryz.underlying36 rfl rfl (Xg rfl rfl rfl (Qf (Qc (Qh [20,18,14,13,12,11,3,147] rfl (Qt rfl (fun h44=> ?_) (fun h44=> ?_)))))))))))
 ·obtain⟨x4,ha4⟩: ∃y,l4[q]? =some y:=⟨_,Zi (by omega)⟩
  obtain⟨bqx4,offx4,rfl,hcx4⟩:=(hC.sat hS43 3 rfl).get ha4
  have hilx4:=(XW ha4).1
  clear hcx4
  refine Qr (Qc (Qd (Qw (Qd (Qa (Qb rfl rfl (Qb rfl rfl (Qb rfl rfl (Qb rfl rfl (Ze q rfl rfl (by first | rfl | omega) (by omega) PG rfl ?_))))))))))
  refine Y8 rfl Sm T2 (vs:=Bm x4) ((hC.sat hS43 3 rfl).at_ ha4) rfl (Qv CZ rfl (DG (hS43.sp [0,1] rfl) (by omega) (by decide) (by omega) hN.t1 ((UN _).trans hpv) hN.bg (HG _ hvv hokv) (g4.2 q x4 ha4)) rfl ?_)
  rintro _ w45 ⟨rfl,hS45⟩
  replace hS45:=hS45.jn rfl rfl
  clear hS43
  rw[V9 ha4]at hS45
  have hN6:=hN.st (v:=Jk P (HH P v (l4.take q)) x4) (by rw[H5 ha4]; exact(UN _).trans hpv)
  rw[H5 ha4]at hS45 hN6
  refine QQ rfl rfl (Qf (Qc (Qh [20,18,14,13,12,11,3,157] rfl (QL rfl (fun h46=> ?_) (fun h46=> ?_)))))
  ·exact absurd h46 (by decide)
  refine Qr (Ql (Qc (Qa (Qb rfl rfl (QK rfl rfl (by omega) (by omega) rfl ?_)))))
  refine Qe rfl rfl (Qf ?_)
  exact Q4 (L1:=[(3,_),(11,_),(12,_),(13,_),(14,_),(18,_),(20,intV ((q+1:Nat):Int))]) (Cq rfl rfl rfl rfl rfl rfl rfl) (k1:=l4.length -(q+1)) (by omega) ⟨q+1,_,rfl,rfl,WD (by omega) (by omega) (by omega) (by omega) (hS45.pick [0,1,2,3] rfl), by omega,hN6⟩
 refine QR (Qq (Qq (Qy (Qc (Qd ?_)))))
 have hq4:l4.length≤q:= by omega
 rw[List.take_of_length_le hq4]at hS43 hN
 have hkc:TrK P (HH P v l4) 60 60:=(BU l4 hkv).up (by omega) (by omega)
 have hvc:VisT P (HH P v l4) (Vm Wv l4):=HG _ hvv hokv
 have halc:=SR hS43 hN.t1
 have hrd:=hN.rdy hkc
 refine Qa (Qb rfl rfl (Qb rfl rfl (Zc 159 rfl (fun h47=> ?_) (fun h47=> ?_))))
 ·refine Qk rfl rfl h47 (Qb rfl rfl (Qk rfl rfl h47 (Qb rfl rfl (Qk rfl rfl h47 (Qb rfl rfl (Qk rfl rfl h47 ?_))))))
  refine Qv CY rfl (Da (hS43.sp [0,2] rfl) (by omega) (by decide) (by omega) (.inl rfl) (fun nm pg=> by rw[Ja,hN.pres]; exact hv nm pg)) rfl ?_
  rintro _ w48 ⟨rfl,hS48⟩
  replace hS48:=hS48.jn rfl rfl
  clear hS43
  refine QC rfl h47 rfl rfl (Qb rfl rfl (Zc 165 rfl (fun h49=> ?_) (fun h49=> ?_)))
  ·refine Qk rfl rfl h49 (Qb rfl rfl (Qk rfl rfl h49 (Qv Nk rfl (RJ (hS48.sp [0] rfl) (by omega) (by decide) (hG.starL 2 rfl) hN.t1) rfl ?_)))
   rintro _ w50 ⟨r2,rfl,hr2,hS50⟩
   replace hS50:=hS50.jn rfl rfl
   clear hS48
   have hr2t:r2=true:=hr2.2 (val_of (by rw[hN.pres]; exact hkc) hN.par)
   subst hr2t
   refine QC rfl h49 rfl rfl (Qb rfl rfl (Zc 169 rfl (fun h51=> ?_) (fun h51=> ?_)))
   ·refine Qk rfl rfl h51 (Qb rfl rfl (Qk rfl rfl h51 (Qv Nl rfl (FZ (d:=60) (q:=60) (hS50.sp [0] rfl) (by omega) (by decide) (by omega) (by omega) hN.t1 hN.par hrd.1 hrd.2 hkc.dl hkc.pt (by omega)) rfl ?_)))
    rintro _ w52 ⟨rfl,hS52⟩
    replace hS52:=hS52.jn rfl rfl
    clear hS50
    obtain⟨A2,hA2⟩: ∃B,B=(⟨MD A (HH P v l4),X1 A.tr 1 none⟩:LvA):=⟨_,rfl⟩
    rw[←hA2]at hS52
    have hv1:VisP A2.pres (Vm Wv l4):= fun nm q=> by rw[hA2]; show MD A (HH P v l4) (nm,q)=_; rw[com_cm hkc (by rw[hN.pres]; exact hb64),hN.pres,Lt hkc halc hb64]; exact hvc nm q
    refine Qk rfl rfl h51 (Xe rfl rfl rfl (QC rfl h51 rfl rfl (Qb rfl rfl (QW 174 rfl (fun h53=> ?_) (fun h53=> ?_)))))
    ·refine Qk rfl rfl (Xf h53) (Qb rfl rfl (Qk rfl rfl (Xf h53) (Qb rfl rfl (Qk rfl rfl (Xf h53) (Qb rfl rfl (Qk rfl rfl (Xf h53) ?_))))))
     refine Qv CY rfl (Da (hS52.sp [0,2] rfl) (by omega) (by decide) (by omega) (.inl rfl) (fun nm pg=> by rw[Ja]; exact hv1 nm pg)) rfl ?_
     rintro _ w54 ⟨rfl,hS54⟩
     replace hS54:=hS54.jn rfl rfl
     clear hS52
     refine QC rfl (Xf h53) rfl rfl (Qe rfl rfl (Qf (Qc (Qh [10] rfl (Qu (QP (.inr rfl) rfl rfl ?_))))))
     exact⟨_,rfl, by rfl,hS54.pick [3] rfl⟩
    exact absurd h53 (by decide)
   exact absurd h51 (by decide)
  exact absurd h49 (by decide)
 exact absurd h47 (by decide)
end Go.Proofs.YtkcjfoaejijdoaaGreatDoor
namespace Go.Proofs.YtkcjfoaejijdoaaGreatDoor.M
open Go.ChangeShapes Go.WideShapes Go.ChangeAt Go.RowKit Go.Deep
def At (w:World) (b off:Nat) (cs:List Value):Prop:= ∀j v,cs[j]? =some v→w.cell? ⟨b,off+j,none⟩=some v
theorem At.cell {w:World} {b off:Nat} {cs:List Value} (h:At w b off cs) (j:Nat) {v:Value} (hv:cs[j]? =some v):w.cell? ⟨b,off+j,none⟩=some v:=h j v hv
theorem At.below {B:Nat} {w w':World} {b off:Nat} {cs:List Value} (h:At w b off cs) (hb:Below B w w') (hB:b<B):At w' b off cs:=
  fun j v hv=>(hb.cell (p:=⟨b,off+j,none⟩) hB).trans (h j v hv)
structure Cod (P:Program) (t:TypeId) (α:Type) where
  rd:World→List Value→α→Prop
  size:Nat
  cells:P.cellsOf t=size
  down: ∀{H:Type} {enc:TypeId×Value→H} {w:World} {base:Nat} {spare:Nat→Bool} {held:Bool} {fuel:Nat} {cs:List Value} {x:DataW H×List MemPlace},
    DataW.trod enc P w base spare held fuel t cs=some x→ ∃a,rd w cs a
  len: ∀{w cs a},rd w cs a→cs.length=size
  keep: ∀{w w' cs a},Below w.heap.size w w'→rd w cs a→rd w' cs a
section
variable {P:Program}
def Cod.int {t:TypeId} (k:IntKind) (ht:P.underlying t=some (.int k)) (hc:P.cellsOf t=1):Cod P t Int where
  rd:= fun _ cs n=>cs=[.int k n]∧(Lit.int k n).wf=true
  size:=1
  cells:=hc
  down:= fun h=> by
    obtain⟨n,h1,_,h2⟩:=DataW.trod_int ht h
    exact⟨n,h1,h2⟩
  len:= fun h=> by rw[h.1];rfl
  keep:= fun _ h=>h
def Cod.byte {t:TypeId} (ht:P.underlying t=some (.int .u8)) (hc:P.cellsOf t=1):Cod P t UInt8 where
  rd:= fun _ cs n=>cs=[.int .u8 (n.toNat:Int)]
  size:=1
  cells:=hc
  down:= fun h=> by
    obtain⟨n,h1,_,h2⟩:=DataW.trod_int ht h
    have hb:=bounds_u8 h2
    refine⟨UInt8.ofNat n.toNat, ?_⟩
    have e:((UInt8.ofNat n.toNat).toNat:Int)=n:= by simp;omega
    rw[e]; exact h1
  len:= fun h=> by rw[h];rfl
  keep:= fun _ h=>h
def Cod.bool {t:TypeId} (ht:P.underlying t=some .bool) (hc:P.cellsOf t=1):Cod P t Bool where
  rd:= fun _ cs n=>cs=[.bool n]
  size:=1
  cells:=hc
  down:= fun h=> by
    obtain⟨n,h1,_⟩:=DataW.trod_bool ht h
    exact⟨n,h1⟩
  len:= fun h=> by rw[h];rfl
  keep:= fun _ h=>h
def Cod.string {t:TypeId} (ht:P.underlying t=some .string) (hc:P.cellsOf t=1):Cod P t ByteArray where
  rd:= fun _ cs s=>cs=[.string s]∧s.size≤9223372036854775807
  size:=1
  cells:=hc
  down:= fun h=> by
    obtain⟨n,h1,_,h2⟩:=DataW.trod_string ht h
    exact⟨n,h1,h2⟩
  len:= fun h=> by rw[h.1];rfl
  keep:= fun _ h=>h
def YS {α:Type} (rd:World→List Value→α→Prop) (size:Nat) (w:World) (v:Value) (l:List α):Prop:=
  ∃ao cap,v= .slice ao l.length cap∧l.length≤cap∧cap≤9223372036854775807∧ ∀(i:Nat) (a:α),l[i]? =some a→ ∃b off cs,ao=some ⟨b,off,none⟩∧b<w.heap.size∧At w b (off+i*size) cs∧rd w cs a
def Cod.slice {t e:TypeId} {α:Type} [Inhabited α] (ht:P.underlying t=some (.slice e)) (hc:P.cellsOf t=1) (c:Cod P e α) (hpos:0<c.size):Cod P t (List α) where
  rd:= fun w cs l=> ∃v,cs=[v]∧YS c.rd c.size w v l
  size:=1
  cells:=hc
  down:= fun {H enc w base spare held fuel cs x} h=> by
    rcases open_slice ht h with⟨rfl,_⟩ | ⟨a,len,cap,m,n,D,Pl,rfl,hb,hl,hm,hmm,_,hx⟩
    · exact⟨[],_,rfl,none,0,rfl,Nat.le_refl _, by omega, fun i a hi=> by simp at hi⟩
    · have hlm:len≤m:= by rw[hmm];split<;>omega
      have hex: ∀i,i<len→ ∃y:α,∃cs',c.rd w cs' y∧(∀j v,cs'[j]? =some v→w.cell? (a.add (i*c.size+j))=some v):= by
        intro i hi
        obtain⟨cs',h1,h2⟩:=hx i (by omega)
        obtain⟨y,hy⟩:=c.down h2
        obtain⟨_,hlen,hat⟩:=World.cells?_some h1
        refine⟨y,cs',hy, fun j v hv=> ?_⟩
        have hj:j<cs'.length:=(List.getElem?_eq_some_iff.1 hv).1
        rw[c.cells]at hlen hat
        rw[←Go.Deep.add_add,hat j (by omega),hv]
      obtain⟨f,hf⟩:=choose_lt hex
      refine⟨(List.range len).map f,_,rfl,some a,cap, by simp, by simpa using hl,hm, fun i y hi=> ?_⟩
      have hil:i<len:= by have :=(List.getElem?_eq_some_iff.1 hi).1;simpa using this
      simp [hil]at hi
      subst hi
      obtain⟨cs',hrd,hat⟩:=hf i hil
      have hcl:=c.len hrd
      obtain⟨b,off,spot⟩:=a
      have h0:=hat 0 cs'[0] (List.getElem?_eq_getElem (by omega))
      have hspot:spot=none:= by
        have :=World.cell?_spot h0
        unfold Addr.add at this
        split at this
        · exact this
        · obtain⟨i0,hi0⟩: ∃i0,i0<len∧i0=0:=⟨0, by omega,rfl⟩
          obtain⟨hi1,rfl⟩:=hi0
          obtain⟨cs0,hrd0,hat0⟩:=hf 0 hi1
          have hcl0:=c.len hrd0
          have h00:=hat0 0 cs0[0] (List.getElem?_eq_getElem (by omega))
          have :=World.cell?_spot h00
          simpa [Addr.add]using this
      subst hspot
      refine⟨b,off,cs',rfl, ?_, fun j v hv=> ?_,hrd⟩
      · have :=block_lt_of_cell h0
        rw[Wa]at this
        exact this
      · have :=hat j v hv
        rw[Wa]at this
        rw[Nat.add_assoc]; exact this
  len:= fun ⟨v,h,_⟩=> by rw[h];rfl
  keep:= fun {w w' cs l} hb ⟨v,h1,ao,cap,h2,h3,h4,h5⟩=>⟨v,h1,ao,cap,h2,h3,h4, fun i a hi=> by
    obtain⟨b,off,cs',e1,e2,e3,e4⟩:=h5 i a hi
    exact⟨b,off,cs',e1,Nat.lt_of_lt_of_le e2 hb.size,e3.below hb e2,c.keep hb e4⟩⟩
structure Flds (P:Program) (fs:List Field) (off:Nat) (α:Type) where
  rd:World→List Value→α→Prop
  size:Nat
  down: ∀{H:Type} {enc:TypeId×Value→H} {w:World} {base:Nat} {spare:Nat→Bool} {held:Bool} {n:Nat} {cs:List Value} {xs:List (DataW H×List MemPlace)},
    (∀(i:Nat) (f:Field),fs[i]? =some f→ ∃x,DataW.trod enc P w base spare held n f.type ((cs.drop f.offset).take (P.cellsOf f.type))=some x)→ ∃a,rd w ((cs.drop off).take size) a
  len: ∀{w cs a},rd w cs a→cs.length=size
  keep: ∀{w w' cs a},Below w.heap.size w w'→rd w cs a→rd w' cs a
def Flds.nil (off:Nat):Flds P [] off Unit where
  rd:= fun _ cs _=>cs=[]
  size:=0
  down:= fun _=>⟨(), by simp⟩
  len:= fun h=> by rw[h];rfl
  keep:= fun _ h=>h
def Flds.cons {f:Field} {fs:List Field} {off:Nat} {α β:Type} (c:Cod P f.type α) (ho:f.offset=off) (r:Flds P fs (off+c.size) β):Flds P (f::fs) off (α×β) where
  rd:= fun w cs a=> ∃cs1 cs2,cs=cs1++cs2∧c.rd w cs1 a.1∧r.rd w cs2 a.2
  size:=c.size+r.size
  down:= fun {H enc w base spare held n cs xs} h=> by
    obtain⟨x,hx⟩:=h 0 f rfl
    rw[ho,c.cells]at hx
    obtain⟨a,ha⟩:=c.down hx
    obtain⟨b,hb⟩:=r.down (xs:=xs) (fun i g hg=>h (i+1) g (by simpa using hg))
    refine⟨(a,b),_,_, ?_,ha,hb⟩
    rw[←List.drop_drop]
    exact List.take_add ..
  len:= fun ⟨cs1,cs2,h,h1,h2⟩=> by rw[h,List.length_append,c.len h1,r.len h2]
  keep:= fun hb ⟨cs1,cs2,h,h1,h2⟩=>⟨cs1,cs2,h,c.keep hb h1,r.keep hb h2⟩
def Cod.struct {t:TypeId} {fs:List Field} {α:Type} (ht:P.underlying t=some (.struct fs.toArray)) (r:Flds P fs 0 α) (hc:P.cellsOf t=r.size):Cod P t α where
  rd:=r.rd
  size:=r.size
  cells:=hc
  down:= fun {H enc w base spare held fuel cs x} h=> by
    obtain⟨xs,n,_,_,hl,hxl,hf⟩:=DataW.trod_struct ht h
    obtain⟨a,ha⟩:=r.down (xs:=xs) (n:=n) (enc:=enc) (w:=w) (base:=base) (spare:=spare) (held:=held) (cs:=cs) (fun i f hi=> by
      have h1:=hf i f (by simpa using hi)
      have hil:=(List.getElem?_eq_some_iff.1 hi).1
      rw[h1,List.getElem?_eq_getElem (by rw[hxl];simpa using hil)]
      exact⟨_,rfl⟩)
    refine⟨a, ?_⟩
    rw[List.drop_zero,List.take_of_length_le (by omega)]at ha
    exact ha
  len:=r.len
  keep:=r.keep
def Cod.map {t:TypeId} {α β:Type} (c:Cod P t α) (f:α→β):Cod P t β where
  rd:= fun w cs b=> ∃a,b=f a∧c.rd w cs a
  size:=c.size
  cells:=c.cells
  down:= fun h=> by obtain⟨a,ha⟩:=c.down h; exact⟨f a,a,rfl,ha⟩
  len:= fun ⟨a,_,h⟩=>c.len h
  keep:= fun hb ⟨a,e,h⟩=>⟨a,e,c.keep hb h⟩
theorem KB {H:Type} {enc:TypeId×Value→H} (hl:laidOutB P=true) {W W':World} (hb:Below W.heap.size W W'):
    ∀ (ts:List TypeId) (vs:List Value) (ds:List (DataW H)) (ps:List MemPlace),(∀t∈ts,P.readableRec t=true∧t<P.types.size)→
      DataW.TrodAll enc P W 0 (fun _=>true) true ts vs ds ps→DataW.TrodAll enc P W' 0 (fun b=>decide (b<W.heap.size)) true ts vs ds ps
  | [],vs,ds,ps,_,h=> by
    obtain⟨rfl,rfl,rfl⟩:=trodAll_nil h
    exact rfl
  | t::ts,vs,ds,ps,hr,h=> by
    obtain⟨v,vs',d,ds',p,q,rfl,rfl,rfl,h0,h1⟩:=trodAll_cons h
    have lt0: ∀x∈p,x.block<W.heap.size:= by obtain⟨m,hm⟩:=h0; exact DataW.trod_lt m _ _ _ hm
    obtain⟨r1,r2⟩:=hr t (by simp)
    exact trodAll_cons_mk (Below.trod hl r1 r2 h0 hb lt0) (KB hl hb ts vs' ds' q (fun t ht=>hr t (by simp [ht])) h1)
end
end Go.Proofs.YtkcjfoaejijdoaaGreatDoor.M
namespace Go.Proofs.YtkcjfoaejijdoaaGreatDoor
open Go.RowKit M
theorem ent_gt {W:World} (h:GT W):Ent (Mq W) GT:=Ent.frame fun w hb j hj=>(hb.cell (block_lt_of_cell (h j hj))).trans (h j hj)
theorem EQ {W w:World} (h:Sat w [Mq W]):Below W.heap.size W w:=h.below 0 rfl
instance:Inhabited AcL:=⟨⟨0,0,[],[],0,0,0,0⟩⟩
def TP:Cod Tryz.prog 3 Int:=Cod.int .i64 Tryz.underlying3 (by kernel_rfl)
def lstrC:Cod Tryz.prog 9 ByteArray:=Cod.string Tryz.underlying9 (by kernel_rfl)
def acCod:Cod Tryz.prog 43 (Int×Int×ByteArray×ByteArray×Int×Int×Int×Int×Unit):=
  Cod.struct (P:=Tryz.prog) Tryz.underlying43 (Flds.cons TP rfl (Flds.cons TP rfl (Flds.cons lstrC rfl (Flds.cons lstrC rfl (Flds.cons TP rfl (Flds.cons TP rfl (Flds.cons TP rfl (Flds.cons TP rfl (Flds.nil _))))))))) (by kernel_rfl)
def acOf (y:(Int×Int×ByteArray×ByteArray×Int×Int×Int×Int×Unit)):AcL:=⟨y.1,y.2.1,y.2.2.1.data.toList,y.2.2.2.1.data.toList,y.2.2.2.2.1,y.2.2.2.2.2.1,y.2.2.2.2.2.2.1,y.2.2.2.2.2.2.2.1⟩
theorem Dv {W:World} {v:Value} {l:List (Int×Int×ByteArray×ByteArray×Int×Int×Int×Int×Unit)} (h:YS acCod.rd acCod.size W v l):capOk v∧ ∃l':List AcL,∀w,Below W.heap.size W w→RdL AI v l' w:= by
  obtain⟨ao,cap,h1,h2,h3,h4⟩:=h
  have hex: ∀i,i<l.length→ ∃a:AcL,∀w,Below W.heap.size W w→ ∃b off,ao=some ⟨b,off,none⟩∧ ∀(j:Nat) (u:Value),(Bm a)[j]? =some u→w.cell? ⟨b,off+i*8+j,none⟩=some u:= by
    intro i hi
    obtain⟨b,off,cs,e1,e2,e3,e4⟩:=h4 i l[i] (Zi hi)
    obtain⟨c1,cs1,rfl,⟨rfl,_⟩,c2,cs2,rfl,⟨rfl,_⟩,c3,cs3,rfl,⟨rfl,_⟩,c4,cs4,rfl,⟨rfl,_⟩,c5,cs5,rfl,⟨rfl,_⟩,c6,cs6,rfl,⟨rfl,_⟩,c7,cs7,rfl,⟨rfl,_⟩,c8,cs8,rfl,⟨rfl,_⟩,rfl⟩:=e4
    refine⟨acOf l[i], fun w hb=>⟨b,off,e1, fun j u hu=> ?_⟩⟩
    refine(hb.cell (p:=⟨b,off+i*8+j,none⟩) e2).trans (e3 j u ?_)
    simpa [Bm,acOf]using hu
  obtain⟨f,hf⟩:=Go.Deep.choose_lt (n:=l.length) hex
  refine⟨fun a m c e=> by rw[h1]at e; cases e; exact h2,(List.range l.length).map f, fun w hb=>⟨ao,cap, by simpa using h1, by simp;omega, fun i a hi=> ?_⟩⟩
  have hil:i<l.length:= by have :=(XW hi).1;simpa using this
  simp [hil]at hi
  subst hi
  exact hf i hil w hb
theorem SM {W:World} {v1 v2 v3 v4:Value} {l1 l2 l3 l4:List (Int×Int×ByteArray×ByteArray×Int×Int×Int×Int×Unit)} {t:Bool} (hG:GT W) (h1:YS acCod.rd acCod.size W v1 l1) (h2:YS acCod.rd acCod.size W v2 l2) (h3:YS acCod.rd acCod.size W v3 l3) (h4:YS acCod.rd acCod.size W v4 l4):
    Calls Tryz.prog 7 #[v1,v2,v3,v4,.bool t] W fun e W'=>e= .returned (.bool true)∧Below W.heap.size W W':= by
  obtain⟨_,a1,h1⟩:=Dv h1
  obtain⟨_,a2,h2⟩:=Dv h2
  obtain⟨_,a3,h3⟩:=Dv h3
  obtain⟨_,a4,h4⟩:=Dv h4
  exact(SN (Sat.start W) (ent_gt hG) (Ent.frame h1) (Ent.frame h2) (Ent.frame h3) (Ent.frame h4) t).mono fun e W' ⟨v,h5,h6,h7⟩=>⟨by rw[h5,h6],EQ h7⟩
end Go.Proofs.YtkcjfoaejijdoaaGreatDoor
