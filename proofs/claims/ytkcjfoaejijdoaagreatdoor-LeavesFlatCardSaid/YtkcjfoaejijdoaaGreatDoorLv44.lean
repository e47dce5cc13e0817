/- LeavesFlat -/
import Derived.Test.YtkcjfoaejijdoaaGreatDoorLv40
set_option linter.unusedVariables false
set_option maxRecDepth 100000
set_option maxHeartbeats 6400000
namespace Go.Proofs.YtkcjfoaejijdoaaGreatDoor
open Go.RowKit M
theorem IE {w:World} {F:Th} (hS:Sat w [F]) (hG:Ent F GT) {fv av bv:Value} {l1 l2 l3:List AcL} (hF:Ent F (RdL AD fv l1)) (hA:Ent F (RdL AD av l2)) (hB:Ent F (RdL AD bv l3)) (hcb:capOk bv):
    Calls Tryz.prog 6 #[fv,av,bv] w (Ret fun v w'=>v= .bool true∧Sat w' [F]):= by
 obtain⟨ao1,cap1,rfl,hm1⟩:=(hF.sat hS 0 rfl).shape
 obtain⟨ao2,cap2,rfl,hm2⟩:=(hA.sat hS 0 rfl).shape
 obtain⟨ao3,cap3,rfl,hm3⟩:=(hB.sat hS 0 rfl).shape
 have hcp:l3.length≤cap3:=hcb _ _ _ rfl
 letI:Inhabited SlW:=⟨⟨4096⟩⟩
 refine Qq Tryz.func6 rfl Tryz.ntmps6 rfl ?_
 refine Qd (Qa (Qe rfl rfl (Qf (Qc (Qd (Qa (Qv cal_8 rfl (Of (hS.sp [] rfl) (hG.starL 0 rfl)) rfl ?_)))))))
 rintro _ w1 ⟨rfl,hS1⟩
 replace hS1:=hS1.jn rfl rfl
 refine Qe rfl rfl (Qf (Qc (Qd (Qa (Qv cal_9 rfl (NY (hS1.sp [] rfl) rfl) rfl ?_)))))
 rintro _ w2 ⟨b,p,mp,mt,ms,rfl,hS2⟩
 replace hS2:=hS2.jn rfl rfl
 clear hS1
 have hz0:=NZ (hS2.pick [0,1,2] rfl)
 refine Qb rfl rfl (Qt rfl rfl rfl (Qt rfl rfl rfl (Qe rfl rfl (Qe rfl rfl (Qf (Qc (Qi [2,1,0,6,7,8,9] rfl (Qd (Qa ?_)))))))))
 have hC3:=hz0.sp [] rfl
 refine Qv cal_35 rfl (new_sp hC3) rfl ?_
 rintro _ w3 ⟨fw,rfl,hS3⟩
 replace hS3:=hS3.jn rfl rfl; clear hC3
 clear hz0
 refine Qe rfl rfl (Qf (Qc (Qd (Qd (Qa (Qb rfl rfl (ZJ Tryz.underlying24 rfl rfl rfl (Qb rfl rfl (Qj rfl rfl rfl (Qb rfl rfl (Qj rfl rfl rfl (ZJ Tryz.underlying25 rfl rfl rfl (QG rfl rfl rfl rfl (Qb rfl rfl (Qj rfl rfl rfl (Qb rfl rfl (Qj rfl rfl rfl (ZJ Tryz.underlying66 rfl rfl rfl (QG rfl rfl rfl rfl (Qf (Qc (Qi [2,1,0,6,7,8,9,10,35] rfl (QV rfl (Qr (Qc (Qd (Qd (Qa (Qb rfl rfl (Qv F3 rfl (SM (hS3.sp [] rfl) (hF.starL 2 rfl) 25) rfl ?_))))))))))))))))))))))))))))))
 rintro _ w4 ⟨rfl,hS4⟩
 replace hS4:=hS4.jn rfl rfl
 clear hS3
 refine QR rfl rfl (Qb rfl rfl (Zh 39 rfl (fun h5=> ?_) (fun h5=> ?_)))
 ·refine Qh rfl rfl h5 rfl (Qh rfl rfl h5 rfl (Qh rfl rfl h5 rfl (QC rfl h5 rfl rfl (Qb rfl rfl (Qh rfl rfl rfl rfl (Qh rfl rfl rfl rfl (Qh rfl rfl rfl rfl (QC rfl rfl rfl rfl (Qf (Qc (Qi [2,1,0,6,7,8,9,10,48] rfl (Xr rfl (Qd (Qa (Qb rfl rfl (Qe rfl rfl (Qf (Qc (Qu (Qn (QQ (.inr rfl) rfl rfl ?_)))))))))))))))))))))
  exact⟨_,rfl, by rfl,hS4.pick [2] rfl⟩
 have q1:Tb l1 25=true:= by simpa using h5
 refine Qj rfl rfl h5 (Qb rfl rfl (Qj rfl rfl h5 (Qv F3 rfl (SM (hS4.sp [] rfl) (hA.starL 2 rfl) 25) rfl ?_)))
 rintro _ w6 ⟨rfl,hS6⟩
 replace hS6:=hS6.jn rfl rfl
 clear hS4
 refine Qj rfl rfl h5 (QR rfl rfl (QG rfl h5 rfl rfl (Qb rfl rfl (Zh 44 rfl (fun h7=> ?_) (fun h7=> ?_)))))
 ·refine Qh rfl rfl h7 rfl (Qh rfl rfl h7 rfl (Qh rfl rfl h7 rfl (QC rfl h7 rfl rfl (Qf (Qc (Qi [2,1,0,6,7,8,9,10,48] rfl (Xr rfl (Qd (Qa (Qb rfl rfl (Qe rfl rfl (Qf (Qc (Qu (Qn (QQ (.inr rfl) rfl rfl ?_))))))))))))))))
  exact⟨_,rfl, by rfl,hS6.pick [2] rfl⟩
 have q2:Tb l2 25=true:= by simpa using h7
 refine Qj rfl rfl h7 (Qb rfl rfl (Qj rfl rfl h7 (Qv F3 rfl (SM (hS6.sp [] rfl) (hB.starL 2 rfl) 25) rfl ?_)))
 rintro _ w8 ⟨rfl,hS8⟩
 replace hS8:=hS8.jn rfl rfl
 clear hS6
 refine Qj rfl rfl h7 (QR rfl rfl (QG rfl h7 rfl rfl (Qf (Qc (Qi [2,1,0,6,7,8,9,10,48] rfl (QM rfl (fun h9=> ?_) (fun h9=> ?_)))))))
 ·refine Qd (Qa (Qb rfl rfl (Qe rfl rfl (Qf (Qc (Qu (Qn (QQ (.inr rfl) rfl rfl ?_))))))))
  exact⟨_,rfl, by rfl,hS8.pick [2] rfl⟩
 have q3:Tb l3 25=true:= by simpa using h9
 have g1:=CF q1
 have g2:=CF q2
 have g3:=CF q3
 refine Qr (Qc (Qd (Qd (Qa (Qe rfl rfl (Qf (Qc (Qw ?_))))))))
 refine Xe (fun K0 E0 W0=> ∃(i:Nat) (A:LvA),K0=l1.length -i∧E0=[(0,.slice ao1 l1.length cap1),(1,.slice ao2 l2.length cap2),(2,.slice ao3 l3.length cap3),(7,.bool true),(8,ptrV b 0),(9,ptrV p 0),(10,ptrV fw 0),(11,intV (i:Int))]∧Sat W0 [Yb b p (100000*i) 0 i (512*i) A,Xi fw (JM emptyW (l1.take i)),F]∧(i≤l1.length)∧(∀j,A.tr j=none)∧(VisP A.pres (JM emptyW (l1.take i)))) (L0:=[(0,_),(1,_),(2,_),(7,_),(8,_),(9,_),(10,_),(11,_)]) (l1.length -0) (LI rfl rfl rfl rfl rfl rfl rfl rfl) ⟨0,OW,rfl,rfl,hS8.pick [1,0,2] rfl, by omega, fun _=>rfl, fun _ _=>(by first | rfl | (unfold XD W2;rfl))⟩ ?_
 rintro _ _ w10 ⟨i,A,rfl,rfl,hS10,hi,hnt,hv⟩
 refine Qd (Qd (Qa (Qb rfl rfl (Qb rfl rfl (X5 Tryz.underlying36 rfl rfl (Xb rfl rfl rfl (Qf (Qc (Qi [11,10,9,8,7,2,1,0,53] rfl (Qs rfl (fun h11=> ?_) (fun h11=> ?_)))))))))))
 ·obtain⟨x1,ha1⟩: ∃y,l1[i]? =some y:=⟨_,Zd (by omega)⟩
  obtain⟨bqx1,offx1,rfl,hcx1⟩:=(hF.sat hS10 2 rfl).get ha1
  have hilx1:=(XQ ha1).1
  clear hcx1
  refine Qr (Qc (Qd (Qw (Qd (Qa (Qb rfl rfl (Qb rfl rfl (Qb rfl rfl (Qb rfl rfl (XI i rfl rfl (by first | rfl | omega) (by omega) VG rfl ?_))))))))))
  refine Jh rfl VT HO (vs:=U8 x1) ((hF.sat hS10 2 rfl).at_ ha1) rfl (Qv Nb rfl (Oc (hS10.sp [0,1] rfl) (by omega) (by decide) (by omega) hv (g1.2 i x1 ha1)) rfl ?_)
  rintro _ w12 ⟨rfl,hS12⟩
  replace hS12:=hS12.jn rfl rfl
  clear hS10
  refine QR rfl rfl (Qf (Qc (Qi [11,10,9,8,7,2,1,0,63] rfl (QM rfl (fun h13=> ?_) (fun h13=> ?_)))))
  ·exact absurd h13 (by decide)
  refine Qr (Ql (Qc (Qa (Qb rfl rfl (QK rfl rfl (by omega) (by omega) rfl ?_)))))
  refine Qe rfl rfl (Qf ?_)
  exact Q6 (L1:=[(0,_),(1,_),(2,_),(7,_),(8,_),(9,_),(10,_),(11,intV ((i+1:Nat):Int))]) (LI rfl rfl rfl rfl rfl rfl rfl rfl) (k1:=l1.length -(i+1)) (by omega) ⟨i+1,{A with pres:=Vv A.pres x1},rfl,rfl, by rw[←YS ha1]; exact Jm (by omega) (by omega) (by omega) (by omega) (hS12.pick [0,1,2] rfl), by omega,hnt, by rw[←YS ha1]; exact hv.step (DX TZ _)⟩
 refine QS (Qp (Qp (Qz (Qc (Qd ?_)))))
 have hnl1: ¬i<l1.length:= by omega
 obtain⟨Wz,hW0⟩: ∃W,W=JM emptyW (l1.take i):=⟨_,rfl⟩
 rw[←hW0]at hv hS10
 have hok0:PagesOk Wz.objs:= by rw[hW0]; exact DX TZ _
 have hb64:=FX hS10
 obtain⟨P,hP⟩: ∃P,P=A.pres:=⟨_,rfl⟩
 rw[←hP]at hv hb64
 obtain⟨hbe1,hbe2,hfl0⟩:=FlI.start hnt
 rw[←hP]at hfl0
 refine Qa (Qb rfl rfl (Qv Fx rfl (CU (hS10.sp [1] rfl)) rfl ?_))
 rintro _ w14 ⟨xw,rfl,hS14⟩
 replace hS14:=hS14.jn rfl rfl
 clear hS10
 refine Qe rfl rfl (Qf (Qc (Qi [10,9,8,7,2,1,12] rfl (Qd (Qa (Qb rfl rfl (Qv Fx rfl (CU (hS14.sp [1] rfl)) rfl ?_)))))))
 rintro _ w15 ⟨yw,rfl,hS15⟩
 replace hS15:=hS15.jn rfl rfl
 clear hS14
 refine Qe rfl rfl (Qf (Qc (Qd (Qd (Qa (Qb rfl rfl (ZJ Tryz.underlying66 rfl rfl rfl (Qb rfl rfl (Qj rfl rfl rfl (Qb rfl rfl (Qj rfl rfl rfl (ZJ Tryz.underlying66 rfl rfl rfl (QG rfl rfl rfl rfl (Qb rfl rfl (Qj rfl rfl rfl (Qb rfl rfl (Qj rfl rfl rfl (Qv F4 rfl (Mo (hS15.sp [3] rfl) (by omega) (by decide) 1 0) rfl ?_))))))))))))))))))
 rintro _ w16 ⟨rfl,hS16⟩
 replace hS16:=hS16.jn rfl rfl
 clear hS15
 rw[hbe1]
 refine Qj rfl rfl rfl (X0 rfl rfl rfl (QG rfl rfl rfl rfl (Qb rfl rfl (QN 79 rfl (fun h17=> ?_) (fun h17=> ?_)))))
 ·exact absurd h17 (by decide)
 refine Qj rfl rfl (Q0 h17) (Qb rfl rfl (Qj rfl rfl (Q0 h17) (Qv F4 rfl (Mo (hS16.sp [0] rfl) (by omega) (by decide) 2 0) rfl ?_)))
 rintro _ w18 ⟨rfl,hS18⟩
 replace hS18:=hS18.jn rfl rfl
 clear hS16
 rw[hbe2]
 refine Qj rfl rfl (Q0 h17) (X0 rfl rfl rfl (QG rfl (Q0 h17) rfl rfl (Qf (Qc (Qi [10,9,8,7,2,1,12,13,83] rfl (Qs rfl (fun h19=> ?_) (fun h19=> ?_)))))))
 ·exact absurd h19 (by decide)
 refine Qr (Qc (Qd (Qd (Qa (Qe rfl rfl (Qf (Qc (Qw ?_))))))))
 have hz1:=Jm (n':=100000*(i+2*0)) (m':=2) (c':=i+2*0) (e':=512*(i+2*0)) (by omega) (by omega) (by omega) (by omega) (hS18.pick [0,1,2,3,4] rfl)
 refine Xe (fun K0 E0 W0=> ∃(j:Nat) (A:LvA),K0=25 -j∧E0=[(1,.slice ao2 l2.length cap2),(2,.slice ao3 l3.length cap3),(7,.bool true),(8,ptrV b 0),(9,ptrV p 0),(10,ptrV fw 0),(12,ptrV xw 0),(13,ptrV yw 0),(14,intV (j:Int))]∧Sat W0 [Yb b p (100000*(i+2*j)) 2 (i+2*j) (512*(i+2*j)) A,Xi xw (JM Wz (l2.take j)),Xi yw (JM Wz (l3.take j)),Xi fw Wz,F]∧(j≤25)∧(FlI A P (JN P DH (l2.take j)) (JN P DH (l3.take j)))) (L0:=[(1,_),(2,_),(7,_),(8,_),(9,_),(10,_),(12,_),(13,_),(14,_)]) (25 -0) (AE rfl rfl rfl rfl rfl rfl rfl rfl rfl) ⟨0,_,rfl,rfl,hz1.pick [0,3,1,2,4] rfl, by omega,hfl0⟩ ?_
 rintro _ _ w20 ⟨j,A,rfl,rfl,hS20,hj,hfl⟩
 refine Qd (Ue (fun E0 W0=> ∃(bb:Bool),E0=[(1,.slice ao2 l2.length cap2),(2,.slice ao3 l3.length cap3),(7,.bool true),(8,ptrV b 0),(9,ptrV p 0),(10,ptrV fw 0),(12,ptrV xw 0),(13,ptrV yw 0),(14,intV (j:Int)),(93,.bool bb)]∧Sat W0 [Yb b p (100000*(i+2*j)) 2 (i+2*j) (512*(i+2*j)) A,Xi xw (JM Wz (l2.take j)),Xi yw (JM Wz (l3.take j)),Xi fw Wz,F]∧(bb=true↔(j<l2.length∨j<l3.length))) ?_ ?_)
 ·refine Qa (Qb rfl rfl (Qb rfl rfl (X5 Tryz.underlying36 rfl rfl (Xb rfl rfl rfl (Qb rfl rfl (QN 88 rfl (fun h22=> ?_) (fun h22=> ?_)))))))
  ·refine Qh rfl rfl (QW h22) rfl (Qh rfl rfl (QW h22) rfl (Qh rfl rfl (QW h22) rfl (Qh rfl rfl (QW h22) rfl (QC rfl (QW h22) rfl rfl (Qf ?_)))))
   exact Z9 (KJ rfl rfl rfl rfl rfl rfl rfl rfl rfl rfl) ⟨_,rfl,hS20.pick [0,1,2,3,4] rfl, by first | (rw[decide_eq_true_eq];omega) | (simp;omega)⟩
  refine Qj rfl rfl (Q0 h22) (Qb rfl rfl (Qj rfl rfl (Q0 h22) (Qb rfl rfl (Qj rfl rfl (Q0 h22) (X5 Tryz.underlying36 rfl rfl (Qj rfl rfl (Q0 h22) (Xb rfl rfl rfl (QG rfl (Q0 h22) rfl rfl (Qf ?_)))))))))
  exact Z9 (KJ rfl rfl rfl rfl rfl rfl rfl rfl rfl rfl) ⟨_,rfl,hS20.pick [0,1,2,3,4] rfl, by first | (rw[decide_eq_true_eq];omega) | (simp;omega)⟩
 rintro _ w21 ⟨bb,rfl,hS21,hbb⟩
 refine QM rfl (fun h23=> ?_) (fun h23=> ?_)
 ·have hjor:=hbb.1 h23
  refine Qr (Qc (Qd (Qw (Qd (Qa (Qb rfl rfl (Qb rfl rfl (X5 Tryz.underlying36 rfl rfl (Xb rfl rfl rfl (Qb rfl rfl (QN 100 rfl (fun h24=> ?_) (fun h24=> ?_))))))))))))
  ·obtain⟨x2,ha2⟩: ∃y,l2[j]? =some y:=⟨_,Zd (by omega)⟩
   obtain⟨bqx2,offx2,rfl,hcx2⟩:=(hA.sat hS21 4 rfl).get ha2
   have hilx2:=(XQ ha2).1
   clear hcx2
   refine Qj rfl rfl (QW h24) (Qb rfl rfl (Qj rfl rfl (QW h24) (Qb rfl rfl (Qj rfl rfl (QW h24) (Qb rfl rfl (Qj rfl rfl (QW h24) (Qb rfl rfl (Qj rfl rfl (QW h24) (XI j rfl rfl (by rfl) (by omega) VG rfl ?_)))))))))
   refine Qj rfl rfl (QW h24) (Jh rfl VT HO (vs:=U8 x2) ((hA.sat hS21 4 rfl).at_ ha2) rfl (Qj rfl rfl (QW h24) (Qv Nb rfl (DK (hS21.sp [0,1] rfl) (by omega) (by decide) (by omega) hfl.t1 (Ki _) (hfl.pres▸F7 (by decide)) (Ur _ (Ry hv) hok0) (g2.2 j x2 ha2)) rfl ?_)))
   rintro _ w25 ⟨rfl,hS25⟩
   replace hS25:=hS25.jn rfl rfl
   clear hS21
   rw[YS ha2]at hS25
   have hfl2:=hfl.sa (t:=WM P (JN P DH (l2.take j)) x2)
   rw[Kh ha2]at hS25 hfl2
   refine Qj rfl rfl (QW h24) (QR rfl rfl (QC rfl (QW h24) rfl rfl (Qb rfl rfl (Zh 110 rfl (fun h26=> ?_) (fun h26=> ?_)))))
   ·exact absurd h26 (by decide)
   refine Qj rfl rfl h26 (Qb rfl rfl (Qj rfl rfl h26 (Qb rfl rfl (Qj rfl rfl h26 (X5 Tryz.underlying36 rfl rfl (Qj rfl rfl h26 (Xb rfl rfl rfl (Qj rfl rfl h26 (Qb rfl rfl (QN 115 rfl (fun h27=> ?_) (fun h27=> ?_)))))))))))
   ·obtain⟨x3,ha3⟩: ∃y,l3[j]? =some y:=⟨_,Zd (by omega)⟩
    obtain⟨bqx3,offx3,rfl,hcx3⟩:=(hB.sat hS25 4 rfl).get ha3
    have hilx3:=(XQ ha3).1
    clear hcx3
    refine Qj rfl rfl (QW h27) (Qb rfl rfl (Qj rfl rfl (QW h27) (Qb rfl rfl (Qj rfl rfl (QW h27) (Qb rfl rfl (Qj rfl rfl (QW h27) (Qb rfl rfl (Qj rfl rfl (QW h27) (XI j rfl rfl (by rfl) (by omega) VG rfl ?_)))))))))
    refine Qj rfl rfl (QW h27) (Jh rfl VT HO (vs:=U8 x3) ((hB.sat hS25 4 rfl).at_ ha3) rfl (Qj rfl rfl (QW h27) (Qv Nb rfl (DK (hS25.sp [0,2] rfl) (by omega) (by decide) (by omega) hfl2.t2 (Ki _) (hfl2.pres▸F7 (by decide)) (Ur _ (Ry hv) hok0) (g3.2 j x3 ha3)) rfl ?_)))
    rintro _ w28 ⟨rfl,hS28⟩
    replace hS28:=hS28.jn rfl rfl
    clear hS25
    rw[YS ha3]at hS28
    have hfl3:=hfl2.sb (t:=WM P (JN P DH (l3.take j)) x3)
    rw[Kh ha3]at hS28 hfl3
    refine Qj rfl rfl (QW h27) (QR rfl rfl (Qj rfl rfl h26 (QC rfl (QW h27) rfl rfl (QG rfl h26 rfl rfl (Qf (Qc (Qi [14,13,12,10,9,8,7,2,1,125] rfl (QM rfl (fun h29=> ?_) (fun h29=> ?_)))))))))
    ·exact absurd h29 (by decide)
    refine Qr (Ql (Qc (Qa (Qb rfl rfl (QK rfl rfl (by omega) (by omega) rfl ?_)))))
    refine Qe rfl rfl (Qf ?_)
    exact Q6 (L1:=[(1,_),(2,_),(7,_),(8,_),(9,_),(10,_),(12,_),(13,_),(14,intV ((j+1:Nat):Int))]) (AE rfl rfl rfl rfl rfl rfl rfl rfl rfl) (k1:=25 -(j+1)) (by omega) ⟨j+1,_,rfl,rfl,Jm (by omega) (by omega) (by omega) (by omega) (hS28.pick [0,2,1,3,4] rfl), by omega,hfl3⟩
   rw[←GB (l:=l3) (i:=j) (by omega)]at hS25 hfl2
   have hfl3:=hfl2
   refine Qh rfl rfl (Q0 h27) rfl (Qh rfl rfl (Q0 h27) rfl (Qh rfl rfl (Q0 h27) rfl (Qh rfl rfl (Q0 h27) rfl (Qh rfl rfl (Q0 h27) rfl (Qh rfl rfl (Q0 h27) rfl (Qh rfl rfl (Q0 h27) rfl (Qh rfl rfl (Q0 h27) rfl (Qj rfl rfl h26 (QG rfl (Q0 h27) rfl rfl (QG rfl h26 rfl rfl (Qf (Qc (Qi [14,13,12,10,9,8,7,2,1,125] rfl (QV rfl (Qr (Ql (Qc (Qa (Qb rfl rfl (QK rfl rfl (by omega) (by omega) rfl ?_))))))))))))))))))))
   refine Qe rfl rfl (Qf ?_)
   exact Q6 (L1:=[(1,_),(2,_),(7,_),(8,_),(9,_),(10,_),(12,_),(13,_),(14,intV ((j+1:Nat):Int))]) (AE rfl rfl rfl rfl rfl rfl rfl rfl rfl) (k1:=25 -(j+1)) (by omega) ⟨j+1,_,rfl,rfl,Jm (by omega) (by omega) (by omega) (by omega) (hS25.pick [0,1,2,3,4] rfl), by omega,hfl3⟩
  rw[←GB (l:=l2) (i:=j) (by omega)]at hS21 hfl
  have hfl2:=hfl
  refine Qh rfl rfl (Q0 h24) rfl (Qh rfl rfl (Q0 h24) rfl (Qh rfl rfl (Q0 h24) rfl (Qh rfl rfl (Q0 h24) rfl (Qh rfl rfl (Q0 h24) rfl (Qh rfl rfl (Q0 h24) rfl (Qh rfl rfl (Q0 h24) rfl (Qh rfl rfl (Q0 h24) rfl (QG rfl (Q0 h24) rfl rfl (Qb rfl rfl (Qj rfl rfl rfl (Qb rfl rfl (Qj rfl rfl rfl (Qb rfl rfl (Qj rfl rfl rfl (X5 Tryz.underlying36 rfl rfl (Qj rfl rfl rfl (Xb rfl rfl rfl (Qj rfl rfl rfl (Qb rfl rfl (QN 115 rfl (fun h30=> ?_) (fun h30=> ?_)))))))))))))))))))))
  ·obtain⟨x3,ha3⟩: ∃y,l3[j]? =some y:=⟨_,Zd (by omega)⟩
   obtain⟨bqx3,offx3,rfl,hcx3⟩:=(hB.sat hS21 4 rfl).get ha3
   have hilx3:=(XQ ha3).1
   clear hcx3
   refine Qj rfl rfl (QW h30) (Qb rfl rfl (Qj rfl rfl (QW h30) (Qb rfl rfl (Qj rfl rfl (QW h30) (Qb rfl rfl (Qj rfl rfl (QW h30) (Qb rfl rfl (Qj rfl rfl (QW h30) (XI j rfl rfl (by rfl) (by omega) VG rfl ?_)))))))))
   refine Qj rfl rfl (QW h30) (Jh rfl VT HO (vs:=U8 x3) ((hB.sat hS21 4 rfl).at_ ha3) rfl (Qj rfl rfl (QW h30) (Qv Nb rfl (DK (hS21.sp [0,2] rfl) (by omega) (by decide) (by omega) hfl2.t2 (Ki _) (hfl2.pres▸F7 (by decide)) (Ur _ (Ry hv) hok0) (g3.2 j x3 ha3)) rfl ?_)))
   rintro _ w31 ⟨rfl,hS31⟩
   replace hS31:=hS31.jn rfl rfl
   clear hS21
   rw[YS ha3]at hS31
   have hfl3:=hfl2.sb (t:=WM P (JN P DH (l3.take j)) x3)
   rw[Kh ha3]at hS31 hfl3
   refine Qj rfl rfl (QW h30) (QR rfl rfl (Qj rfl rfl rfl (QC rfl (QW h30) rfl rfl (QG rfl rfl rfl rfl (Qf (Qc (Qi [14,13,12,10,9,8,7,2,1,125] rfl (QM rfl (fun h32=> ?_) (fun h32=> ?_)))))))))
   ·exact absurd h32 (by decide)
   refine Qr (Ql (Qc (Qa (Qb rfl rfl (QK rfl rfl (by omega) (by omega) rfl ?_)))))
   refine Qe rfl rfl (Qf ?_)
   exact Q6 (L1:=[(1,_),(2,_),(7,_),(8,_),(9,_),(10,_),(12,_),(13,_),(14,intV ((j+1:Nat):Int))]) (AE rfl rfl rfl rfl rfl rfl rfl rfl rfl) (k1:=25 -(j+1)) (by omega) ⟨j+1,_,rfl,rfl,Jm (by omega) (by omega) (by omega) (by omega) (hS31.pick [0,2,1,3,4] rfl), by omega,hfl3⟩
  rw[←GB (l:=l3) (i:=j) (by omega)]at hS21 hfl2
  have hfl3:=hfl2
  refine Qh rfl rfl (Q0 h30) rfl (Qh rfl rfl (Q0 h30) rfl (Qh rfl rfl (Q0 h30) rfl (Qh rfl rfl (Q0 h30) rfl (Qh rfl rfl (Q0 h30) rfl (Qh rfl rfl (Q0 h30) rfl (Qh rfl rfl (Q0 h30) rfl (Qh rfl rfl (Q0 h30) rfl (Qj rfl rfl rfl (QG rfl (Q0 h30) rfl rfl (QG rfl rfl rfl rfl (Qf (Qc (Qi [14,13,12,10,9,8,7,2,1,125] rfl (QV rfl (Qr (Ql (Qc (Qa (Qb rfl rfl (QK rfl rfl (by omega) (by omega) rfl ?_))))))))))))))))))))
  refine Qe rfl rfl (Qf ?_)
  exact Q6 (L1:=[(1,_),(2,_),(7,_),(8,_),(9,_),(10,_),(12,_),(13,_),(14,intV ((j+1:Nat):Int))]) (AE rfl rfl rfl rfl rfl rfl rfl rfl rfl) (k1:=25 -(j+1)) (by omega) ⟨j+1,_,rfl,rfl,Jm (by omega) (by omega) (by omega) (by omega) (hS21.pick [0,1,2,3,4] rfl), by omega,hfl3⟩
 have hjor: ¬(j<l2.length∨j<l3.length):= fun q=> by have q2:=hbb.2 q; rw[q2]at h23; cases h23
 refine QS (Qp (Qp (Qz (Qc (Qd (Qd ?_))))))
 have hj2:l2.length≤j∧l3.length≤j:= by omega
 rw[List.take_of_length_le hj2.1,List.take_of_length_le hj2.2]at hS21 hfl
 have hTa:TrK P (JN P DH l2) 25 25:=(Cz l2 FI).up (by omega) (by omega)
 have hTb:TrK P (JN P DH l3) 25 25:=(Cz l3 FI).up (by omega) (by omega)
 have hpa:((JN P DH l2)).parent=0:=Ki _
 have hpb:((JN P DH l3)).parent=0:=Ki _
 have hAa:AL (JN P DH l2):=O4 DG hb64 l2
 have hrd:=hfl.rdy hTa hTb hpa hpb
 refine Qa (Qb rfl rfl (Qb rfl rfl (Qb rfl rfl ?_)))
 refine Qv Na rfl (BV (hS21.sp [0,3] rfl) (by omega) (by decide) (by omega) (.inl rfl) (fun nm pg=> by rw[We]; exact(by rw[hfl.pres]; exact hv nm pg))) rfl ?_
 rintro _ w33 ⟨rfl,hS33⟩
 replace hS33:=hS33.jn rfl rfl
 clear hS21
 refine QR rfl rfl (Qb rfl rfl (Zh 131 rfl (fun h34=> ?_) (fun h34=> ?_)))
 ·exact absurd h34 (by decide)
 refine Qj rfl rfl h34 (Qb rfl rfl (Qj rfl rfl h34 (Qv Nn rfl (RJ (hS33.sp [0] rfl) (by omega) (by decide) (hG.starL 3 rfl) hfl.t1) rfl ?_)))
 rintro _ w35 ⟨r1,rfl,hr1,hS35⟩
 replace hS35:=hS35.jn rfl rfl
 clear hS33
 have hr1t:r1=true:=hr1.2 (val_of (by rw[hfl.pres]; exact hTa) hpa)
 subst hr1t
 refine Qj rfl rfl h34 (QR rfl rfl (QG rfl h34 rfl rfl (Qb rfl rfl (Zh 136 rfl (fun h36=> ?_) (fun h36=> ?_)))))
 ·exact absurd h36 (by decide)
 refine Qj rfl rfl h36 (Qb rfl rfl (Qj rfl rfl h36 ?_))
 refine Qv Np rfl (BW (d:=25) (q:=25) (hS35.sp [0] rfl) (by omega) (by decide) (by omega) (by omega) hfl.t1 hpa (fun i u hu=> by rw[hrd.1 i u hu];decide) hrd.2 hTa.dl hTa.pt (by omega)) rfl ?_
 rintro _ w37 ⟨rfl,hS37⟩
 replace hS37:=hS37.jn rfl rfl
 clear hS35
 obtain⟨A2,hA2⟩: ∃B,B=(⟨ME A (JN P DH l2),Xz A.tr 1 none⟩:LvA):=⟨_,rfl⟩
 rw[←hA2]at hS37
 have hf1:Fl1 A2 (JN P DH l3):= by rw[hA2]; exact hfl.com
 have hv1:VisP A2.pres (JM Wz l2):= fun nm q=> by rw[hA2]; show ME A (JN P DH l2) (nm,q)=_; rw[Fe hTa (by rw[hfl.pres]; exact hb64),hfl.pres,cm_self hTa hAa hb64]; exact Ur _ (Ry hv) hok0 nm q
 have hc64:=FX hS37
 refine Qj rfl rfl h36 (X0 rfl rfl rfl (QG rfl h36 rfl rfl (Qb rfl rfl (QN 141 rfl (fun h38=> ?_) (fun h38=> ?_)))))
 ·exact absurd h38 (by decide)
 refine Qj rfl rfl (Q0 h38) (Qb rfl rfl (Qj rfl rfl (Q0 h38) (Qb rfl rfl (Qj rfl rfl (Q0 h38) (Qb rfl rfl (Qj rfl rfl (Q0 h38) ?_))))))
 refine Qv Na rfl (BV (hS37.sp [0,2] rfl) (by omega) (by decide) (by omega) (.inl rfl) (fun nm pg=> by rw[We]; exact hv1 nm pg)) rfl ?_
 rintro _ w39 ⟨rfl,hS39⟩
 replace hS39:=hS39.jn rfl rfl
 clear hS37
 refine Qj rfl rfl (Q0 h38) (QR rfl rfl (QG rfl (Q0 h38) rfl rfl (Qf (Qc (Qi [12,10,9,8,7,2,147] rfl (QM rfl (fun h40=> ?_) (fun h40=> ?_)))))))
 ·exact absurd h40 (by decide)
 refine Qr (Qc (Qd (Qa (Qb rfl rfl (Qv Nn rfl (RJ (hS39.sp [0] rfl) (by omega) (by decide) (hG.starL 3 rfl) hf1.t2) rfl ?_)))))
 rintro _ w41 ⟨r2,rfl,hr2,hS41⟩
 replace hS41:=hS41.jn rfl rfl
 clear hS39
 rw[VA_val hpb]at hr2
 refine Qe rfl rfl (Qf (Qc (Qd (Qa (Qe rfl rfl (Qf (Qc (Qi [12,10,9,8,7,2,15,16] rfl (Qd (Qd (Qa (Qe rfl rfl (Qf (Qc (Qw ?_)))))))))))))))
 refine Xe (fun K0 E0 W0=> ∃(k:Nat) (sm:Bool),K0=l3.length -k∧E0=[(2,.slice ao3 l3.length cap3),(7,.bool true),(8,ptrV b 0),(9,ptrV p 0),(10,ptrV fw 0),(12,ptrV xw 0),(15,.bool r2),(16,.bool sm),(17,intV (k:Int))]∧Sat W0 [Yb b p (100000*(i+2*j)+(16*(512*(i+2*j))+4*(512*(i+2*j))*25)) 2 (i+2*j+25) (512*(i+2*j)) A2,Xi xw (JM Wz l2),Xi fw Wz,F]∧(k≤l3.length)∧(r2=true→sm=true)) (L0:=[(2,_),(7,_),(8,_),(9,_),(10,_),(12,_),(15,_),(16,_),(17,_)]) (l3.length -0) (AE rfl rfl rfl rfl rfl rfl rfl rfl rfl) ⟨0,true,rfl,rfl,hS41.pick [0,1,2,4] rfl, by omega, fun _=>rfl⟩ ?_
 rintro _ _ w42 ⟨k,sm,rfl,rfl,hS42,hk,hsm⟩
 refine Qd (Qd (Qa (Qb rfl rfl (Qb rfl rfl (X5 Tryz.underlying36 rfl rfl (Xb rfl rfl rfl (Qf (Qc (Qi [17,16,15,12,10,9,8,7,2,153] rfl (Qs rfl (fun h43=> ?_) (fun h43=> ?_)))))))))))
 ·obtain⟨x3,ha3⟩: ∃y,l3[k]? =some y:=⟨_,Zd (by omega)⟩
  obtain⟨bqx3,offx3,rfl,hcx3⟩:=(hB.sat hS42 3 rfl).get ha3
  have hilx3:=(XQ ha3).1
  have c0x3:=hcx3 0 _ rfl
  clear hcx3
  refine Qr (Qc (Qd (Qw (Qd (Qa (Qb rfl rfl (Qb rfl rfl (XI k rfl rfl (by first | rfl | omega) (by omega) VG rfl ?_))))))))
  refine Qg rfl Db rfl (Qo rfl QO (by first | assumption) rfl ?_)
  refine Qv Nf rfl (BS (hS42.sp [] rfl) x3.dk 14 (by omega)) rfl ?_
  rintro _ w44 ⟨rfl,hS44⟩
  replace hS44:=hS44.jn rfl rfl
  clear hS42
  refine Qe rfl rfl (Qf (Qc (Qi [17,16,15,12,10,9,8,7,2,18] rfl (Ue (fun E0 W0=> ∃(bb:Bool),E0=[(2,.slice (some ⟨bqx3,offx3,none⟩) l3.length cap3),(7,.bool true),(8,ptrV b 0),(9,ptrV p 0),(10,ptrV fw 0),(12,ptrV xw 0),(15,.bool r2),(16,.bool sm),(17,intV (k:Int)),(179,.bool bb)]∧Sat W0 [Yb b p (100000*(i+2*j)+(16*(512*(i+2*j))+4*(512*(i+2*j))*25)) 2 (i+2*j+25) (512*(i+2*j)) A2,Xi xw (JM Wz l2),Xi fw Wz,F]∧(bb=true↔(x3.dk%14=0∨x3.dk%14=1∨x3.dk%14=2∨x3.dk%14=7∨x3.dk%14=8))) ?_ ?_))))
  ·refine Qa (Qb rfl rfl (QX rfl rfl rfl (Qb rfl rfl (QN 164 rfl (fun h46=> ?_) (fun h46=> ?_)))))
   ·refine Qh rfl rfl (QW h46) rfl (Qh rfl rfl (QW h46) rfl (QC rfl (QW h46) rfl rfl (Qb rfl rfl (Qh rfl rfl rfl rfl (Qh rfl rfl rfl rfl (QC rfl rfl rfl rfl (Qb rfl rfl (Qh rfl rfl rfl rfl (Qh rfl rfl rfl rfl (QC rfl rfl rfl rfl (Qb rfl rfl (Qh rfl rfl rfl rfl (Qh rfl rfl rfl rfl (QC rfl rfl rfl rfl (Qf ?_)))))))))))))))
    exact Z9 (KJ rfl rfl rfl rfl rfl rfl rfl rfl rfl rfl) ⟨_,rfl,hS44.pick [0,1,2,3] rfl, by first | (rw[decide_eq_true_eq];omega) | (simp;omega)⟩
   refine Qj rfl rfl (Q0 h46) (Qb rfl rfl (Qj rfl rfl (Q0 h46) (QX rfl rfl rfl (QG rfl (Q0 h46) rfl rfl (Qb rfl rfl (QN 168 rfl (fun h47=> ?_) (fun h47=> ?_)))))))
   ·refine Qh rfl rfl (QW h47) rfl (Qh rfl rfl (QW h47) rfl (QC rfl (QW h47) rfl rfl (Qb rfl rfl (Qh rfl rfl rfl rfl (Qh rfl rfl rfl rfl (QC rfl rfl rfl rfl (Qb rfl rfl (Qh rfl rfl rfl rfl (Qh rfl rfl rfl rfl (QC rfl rfl rfl rfl (Qf ?_)))))))))))
    exact Z9 (KJ rfl rfl rfl rfl rfl rfl rfl rfl rfl rfl) ⟨_,rfl,hS44.pick [0,1,2,3] rfl, by first | (rw[decide_eq_true_eq];omega) | (simp;omega)⟩
   refine Qj rfl rfl (Q0 h47) (Qb rfl rfl (Qj rfl rfl (Q0 h47) (QX rfl rfl rfl (QG rfl (Q0 h47) rfl rfl (Qb rfl rfl (QN 172 rfl (fun h48=> ?_) (fun h48=> ?_)))))))
   ·refine Qh rfl rfl (QW h48) rfl (Qh rfl rfl (QW h48) rfl (QC rfl (QW h48) rfl rfl (Qb rfl rfl (Qh rfl rfl rfl rfl (Qh rfl rfl rfl rfl (QC rfl rfl rfl rfl (Qf ?_)))))))
    exact Z9 (KJ rfl rfl rfl rfl rfl rfl rfl rfl rfl rfl) ⟨_,rfl,hS44.pick [0,1,2,3] rfl, by first | (rw[decide_eq_true_eq];omega) | (simp;omega)⟩
   refine Qj rfl rfl (Q0 h48) (Qb rfl rfl (Qj rfl rfl (Q0 h48) (QX rfl rfl rfl (QG rfl (Q0 h48) rfl rfl (Qb rfl rfl (QN 176 rfl (fun h49=> ?_) (fun h49=> ?_)))))))
   ·refine Qh rfl rfl (QW h49) rfl (Qh rfl rfl (QW h49) rfl (QC rfl (QW h49) rfl rfl (Qf ?_)))
    exact Z9 (KJ rfl rfl rfl rfl rfl rfl rfl rfl rfl rfl) ⟨_,rfl,hS44.pick [0,1,2,3] rfl, by first | (rw[decide_eq_true_eq];omega) | (simp;omega)⟩
   refine Qj rfl rfl (Q0 h49) (Qb rfl rfl (Qj rfl rfl (Q0 h49) (QX rfl rfl rfl (QG rfl (Q0 h49) rfl rfl (Qf ?_)))))
   exact Z9 (KJ rfl rfl rfl rfl rfl rfl rfl rfl rfl rfl) ⟨_,rfl,hS44.pick [0,1,2,3] rfl, by first | (rw[decide_eq_true_eq];omega) | (simp;omega)⟩
  rintro _ w45 ⟨bb,rfl,hS45,hbb⟩
  refine QM rfl (fun h50=> ?_) (fun h50=> ?_)
  ·have hK:=hbb.1 h50
   have hrk:Wc x3=0∨Wc x3=1∨Wc x3=2∨Wc x3=7∨Wc x3=8:= by unfold Wc;omega
   have hsame:r2=true→HF (JM Wz (l3.take k)) x3.ob x3.at_=HF (JM (JM Wz l2) (l3.take k)) x3.ob x3.at_:= fun hr=>Er hb64 hc64 hok0 (DX hok0 _) hv hv1 (hr2.1 hr) ha3 hrk
   have hS51:=hS45.drew
   refine QJ [0,1,2,3,4,5,6,7,8,9,11,12,13,14,15,16,17,18,10,19,20,21,22] [10,19] Wp (by kernel_rfl) ?_
   refine QE rfl rfl rfl (QE rfl rfl rfl (AP 181 rfl (fun h52=> ?_) (fun h52=> ?_)))
   ·refine QU rfl rfl (Qy rfl rfl h52) (fun _=>(Ev.gd (Xa rfl))) ?_
    refine QU rfl rfl (Qy rfl rfl h52) (fun _=>(Ev.gd (Xa rfl))) ?_
    refine QU rfl rfl (Qy rfl rfl h52) (fun _=>(Ev.gd (Xa rfl))) ?_
    refine QU rfl rfl (Qy rfl rfl h52) (fun _=>(Ev.gd (CH 0 k Tryz.underlying36 HO rfl (F6 _) (Rk k _ rfl rfl) (by omega) (by omega)))) ?_
    refine QU rfl rfl (Qy rfl rfl h52) (fun _=>(Ev.gd (Xa rfl))) ?_
    refine QU rfl rfl (Qy rfl rfl h52) (fun _=>(Ev.gd (Xa rfl))) ?_
    refine QU rfl rfl (Qy rfl rfl h52) (fun _=>(Ev.gd (WB k rfl rfl (by rfl) (by omega) VG))) ?_
    refine Q9 rfl rfl (Qy rfl rfl h52) (Ev.gd (Kq (vs:=U8 x3) rfl VT HO ((hB.sat hS51 3 rfl).at_ ha3))) (QU rfl rfl (Qy rfl rfl h52) (fun _=>(Ev.gd (Xa rfl))) ?_)
    refine QU rfl rfl (Qy rfl rfl h52) (fun _=>(Ev.gd (Xa rfl))) ?_
    refine QU rfl rfl (Qy rfl rfl h52) (fun _=>(Ev.gd (Xa rfl))) ?_
    refine QU rfl rfl (Qy rfl rfl h52) (fun _=>(Ev.gd (CH 0 k Tryz.underlying36 HO rfl (F6 _) (Rk k _ rfl rfl) (by omega) (by omega)))) ?_
    refine QU rfl rfl (Qy rfl rfl h52) (fun _=>(Ev.gd (Xa rfl))) ?_
    refine QU rfl rfl (Qy rfl rfl h52) (fun _=>(Ev.gd (Xa rfl))) ?_
    refine QU rfl rfl (Qy rfl rfl h52) (fun _=>(Ev.gd (WB k rfl rfl (by rfl) (by omega) VG))) ?_
    refine Q9 rfl rfl (Qy rfl rfl h52) (Ev.gd (Kq (vs:=U8 x3) rfl VT HO ((hB.sat hS51 3 rfl).at_ ha3))) (Xj rfl rfl (Qy rfl rfl h52) rfl rfl rfl ?_)
    refine XY qaz rfl (Ps (hS51.sp [2] rfl) (fun h=> by have hq:=((hB.starL 2 rfl) h).view hcp (A:=0) (B:=k) (by omega) (by omega);rwa [List.drop_zero]at hq) (fun i x hx=>g3.2 i x (by rw[List.getElem?_take]at hx;split at hx; exact hx; cases hx)) x3) rfl ?_
    rintro e w53 ⟨_,rfl,rfl,hS53⟩; refine⟨_,rfl, ?_⟩
    replace hS53:=hS53.jn rfl rfl
    clear hS51
    refine X6 (.cons (.inl ⟨(Qy rfl rfl h52),(Ev.gd (Kq (vs:=U8 x3) rfl VT HO ((hB.sat hS53 3 rfl).at_ ha3)))⟩) (Xq (by kernel_rfl))) ?_
    refine Xj rfl rfl (Qy rfl rfl h52) rfl rfl rfl ?_
    refine XY qaz rfl (Ps (hS53.sp [2] rfl) (fun h=> by have hq:=((hB.starL 2 rfl) h).view hcp (A:=0) (B:=k) (by omega) (by omega);rwa [List.drop_zero]at hq) (fun i x hx=>g3.2 i x (by rw[List.getElem?_take]at hx;split at hx; exact hx; cases hx)) x3) rfl ?_
    rintro e w54 ⟨_,rfl,rfl,hS54⟩; refine⟨_,rfl, ?_⟩
    replace hS54:=hS54.jn rfl rfl
    clear hS53
    refine X6 (Xq (by kernel_rfl)) ?_
    refine QU rfl rfl (Qy rfl rfl h52) (fun _=>(Ev.gd (Hb rfl rfl))) ?_
    refine QU rfl rfl rfl (fun _=>(Jf rfl h52 rfl)) ?_
    refine XN rfl rfl rfl (VC.nil (Ql (Qc (Qi [17,15,12,10,9,8,7,2,16] rfl (Qa (Qb rfl rfl (QK rfl rfl (by omega) (by omega) rfl ?_)))))))
    refine Qe rfl rfl (Qf ?_)
    exact Q6 (L1:=[(2,_),(7,_),(8,_),(9,_),(10,_),(12,_),(15,_),(16,_),(17,intV ((k+1:Nat):Int))]) (AE rfl rfl rfl rfl rfl rfl rfl rfl rfl) (k1:=l3.length -(k+1)) (by omega) ⟨k+1,_,rfl,rfl,hS54.pick [2,0,1,3] rfl, by omega, fun hr=> by rw[hsame hr]; simp⟩
   refine Q4 rfl rfl (Q7 rfl rfl h52) (Q4 rfl rfl (Q7 rfl rfl h52) (Q4 rfl rfl (Q7 rfl rfl h52) (Q4 rfl rfl (Q7 rfl rfl h52) (Q4 rfl rfl (Q7 rfl rfl h52) (Q4 rfl rfl (Q7 rfl rfl h52) (Q4 rfl rfl (Q7 rfl rfl h52) (Q4 rfl rfl (Q7 rfl rfl h52) (Q4 rfl rfl (Q7 rfl rfl h52) (Q4 rfl rfl (Q7 rfl rfl h52) (Q4 rfl rfl (Q7 rfl rfl h52) (Q4 rfl rfl (Q7 rfl rfl h52) (Q4 rfl rfl (Q7 rfl rfl h52) (Q4 rfl rfl (Q7 rfl rfl h52) (Q4 rfl rfl (Q7 rfl rfl h52) (Q4 rfl rfl (Q7 rfl rfl h52) (VC.spineNot rfl rfl (Q7 rfl rfl h52) (VC.spineNot rfl rfl (Q7 rfl rfl h52) (Q4 rfl rfl (Q7 rfl rfl h52) (QU rfl rfl rfl (fun _=>(Wa rfl h52 rfl)) ?_)))))))))))))))))))
   refine XN rfl rfl rfl (VC.nil (Ql (Qc (Qi [17,15,12,10,9,8,7,2,16] rfl (Qa (Qb rfl rfl (QK rfl rfl (by omega) (by omega) rfl ?_)))))))
   refine Qe rfl rfl (Qf ?_)
   exact Q6 (L1:=[(2,_),(7,_),(8,_),(9,_),(10,_),(12,_),(15,_),(16,_),(17,intV ((k+1:Nat):Int))]) (AE rfl rfl rfl rfl rfl rfl rfl rfl rfl) (k1:=l3.length -(k+1)) (by omega) ⟨k+1,_,rfl,rfl,hS51.pick [0,1,2,3] rfl, by omega, fun hr=> by have :=hsm hr;simp_all⟩
  refine Qr (Ql (Qc (Qa (Qb rfl rfl (QK rfl rfl (by omega) (by omega) rfl ?_)))))
  refine Qe rfl rfl (Qf ?_)
  exact Q6 (L1:=[(2,_),(7,_),(8,_),(9,_),(10,_),(12,_),(15,_),(16,_),(17,intV ((k+1:Nat):Int))]) (AE rfl rfl rfl rfl rfl rfl rfl rfl rfl) (k1:=l3.length -(k+1)) (by omega) ⟨k+1,_,rfl,rfl,hS45.pick [0,1,2,3] rfl, by omega,hsm⟩
 refine QS (Qp (Qp (Qz (Qc (Qd (Qd (Qa (Qb rfl rfl (Qb rfl rfl (Zh 203 rfl (fun h55=> ?_) (fun h55=> ?_)))))))))))
 ·refine Qj rfl rfl h55 (Qb rfl rfl (Qj rfl rfl h55 (QR rfl rfl (QC rfl h55 rfl rfl (Qf (Qc (Qi [15,12,9,8,7,2,206] rfl (QM rfl (fun h56=> ?_) (fun h56=> ?_)))))))))
  ·exact absurd (hsm (by assumption)) (by simpa using h56)
  refine Qr (Qc (Qd (Qd (Qa (Qb rfl rfl (QR rfl rfl (Qf (Qc (QM rfl (fun h57=> ?_) (fun h57=> ?_))))))))))
  ·refine Qd (Qa (Qb rfl rfl (Qe rfl rfl (Qf (Qc (Qi [12,9,8,7,2,6] rfl (Qu (Qn (QQ (.inr rfl) rfl rfl ?_)))))))))
   exact⟨_,rfl, by rfl,hS42.pick [3] rfl⟩
  have hval:=hr2.1 (by simpa using h57)
  refine Qr (Qc (Qd (Qd (Qa (Qe rfl rfl (Qf (Qc (Qw ?_))))))))
  refine Xe (fun K0 E0 W0=> ∃(k:Nat),K0=l3.length -k∧E0=[(2,.slice ao3 l3.length cap3),(7,.bool true),(8,ptrV b 0),(9,ptrV p 0),(12,ptrV xw 0),(19,intV (k:Int))]∧Sat W0 [Yb b p (100000*(i+2*j)+(16*(512*(i+2*j))+4*(512*(i+2*j))*25)) 2 (i+2*j+25) (512*(i+2*j)) A2,Xi xw (JM (JM Wz l2) (l3.take k)),F]∧(k≤l3.length)) (L0:=[(2,_),(7,_),(8,_),(9,_),(12,_),(19,_)]) (l3.length -0) (U9 rfl rfl rfl rfl rfl rfl) ⟨0,rfl,rfl,hS42.pick [0,1,3] rfl, by omega⟩ ?_
  rintro _ _ w58 ⟨k,rfl,rfl,hS58,hk⟩
  refine Qd (Qd (Qa (Qb rfl rfl (Qb rfl rfl (X5 Tryz.underlying36 rfl rfl (Xb rfl rfl rfl (Qf (Qc (Qs rfl (fun h59=> ?_) (fun h59=> ?_))))))))))
  ·obtain⟨x3,ha3⟩: ∃y,l3[k]? =some y:=⟨_,Zd (by omega)⟩
   obtain⟨bqx3,offx3,rfl,hcx3⟩:=(hB.sat hS58 2 rfl).get ha3
   have hilx3:=(XQ ha3).1
   clear hcx3
   refine Qr (Qc (Qd (Qw (Qa (Qb rfl rfl (Qb rfl rfl (Qb rfl rfl (XI k rfl rfl (by first | rfl | omega) (by omega) VG rfl ?_))))))))
   refine Jh rfl VT HO (vs:=U8 x3) ((hB.sat hS58 2 rfl).at_ ha3) rfl (Qv Fw rfl (Dw (hS58.sp [1] rfl) (g3.2 k x3 ha3)) rfl ?_)
   rintro _ w60 hS60
   replace hS60:=hS60.jn rfl rfl
   clear hS58
   refine Qf (Ql (Qc (Qi [19,12,9,8,7,2] rfl (Qa (Qb rfl rfl (QK rfl rfl (by omega) (by omega) rfl ?_))))))
   refine Qe rfl rfl (Qf ?_)
   exact Q6 (L1:=[(2,_),(7,_),(8,_),(9,_),(12,_),(19,intV ((k+1:Nat):Int))]) (U9 rfl rfl rfl rfl rfl rfl) (k1:=l3.length -(k+1)) (by omega) ⟨k+1,rfl,rfl, by rw[←YS ha3]; exact hS60.pick [1,0,2] rfl, by omega⟩
  refine QS (Qp (Qp (Qz (Qc (Qd ?_)))))
  have hkk:k=l3.length:= by omega
  rw[hkk,List.take_length]at hS58
  have hrd2:=hf1.rdy hTb hpb
  have hvf:VisC A2.pres (JN P DH l3) (JM (JM Wz l2) l3):=BP hb64 hc64 l3 (DF hv1) DG (DX hok0 _) hval
  refine Qa (Qb rfl rfl (Qb rfl rfl (Qj rfl rfl rfl (Qb rfl rfl (Qj rfl rfl rfl ?_)))))
  refine Qv Np rfl (BW (d:=25) (q:=25) (hS58.sp [0] rfl) (by omega) (by decide) (by omega) (by omega) hf1.t2 hpb (fun i u hu=> by rw[hrd2.1 i u hu];decide) hrd2.2 hTb.dl hTb.pt (by omega)) rfl ?_
  rintro _ w61 ⟨rfl,hS61⟩
  replace hS61:=hS61.jn rfl rfl
  clear hS58
  refine Qj rfl rfl rfl (QX rfl rfl rfl (QC rfl rfl rfl rfl (Qb rfl rfl (QN 228 rfl (fun h62=> ?_) (fun h62=> ?_)))))
  ·refine Qj rfl rfl (QW h62) (Qb rfl rfl (Qj rfl rfl (QW h62) (Qb rfl rfl (Qj rfl rfl (QW h62) (Qb rfl rfl (Qj rfl rfl (QW h62) ?_))))))
   refine Qv Na rfl (BV (hS61.sp [0,1] rfl) (by omega) (by decide) (by omega) (.inl rfl) (fun nm pg=> by rw[We]; exact((Fe hTb hc64 _).trans (hvf nm pg)))) rfl ?_
   rintro _ w63 ⟨rfl,hS63⟩
   replace hS63:=hS63.jn rfl rfl
   clear hS61
   refine QC rfl (QW h62) rfl rfl (Qe rfl rfl (Qf (Qc (Qi [6] rfl (Qu (QQ (.inr rfl) rfl rfl ?_))))))
   exact⟨_,rfl, by rfl,hS63.pick [2] rfl⟩
  exact absurd (by decide) h62
 refine Qh rfl rfl h55 rfl (Qh rfl rfl h55 rfl (QG rfl h55 rfl rfl (Qf (Qc (Qi [15,12,9,8,7,2,206] rfl (QV rfl (Qr (Qc (Qd (Qd (Qa (Qb rfl rfl (QR rfl rfl (Qf (Qc (QM rfl (fun h64=> ?_) (fun h64=> ?_)))))))))))))))))
 ·refine Qd (Qa (Qb rfl rfl (Qe rfl rfl (Qf (Qc (Qi [12,9,8,7,2,6] rfl (Qu (Qn (QQ (.inr rfl) rfl rfl ?_)))))))))
  exact⟨_,rfl, by rfl,hS42.pick [3] rfl⟩
 have hval:=hr2.1 (by simpa using h64)
 refine Qr (Qc (Qd (Qd (Qa (Qe rfl rfl (Qf (Qc (Qw ?_))))))))
 refine Xe (fun K0 E0 W0=> ∃(k:Nat),K0=l3.length -k∧E0=[(2,.slice ao3 l3.length cap3),(7,.bool true),(8,ptrV b 0),(9,ptrV p 0),(12,ptrV xw 0),(19,intV (k:Int))]∧Sat W0 [Yb b p (100000*(i+2*j)+(16*(512*(i+2*j))+4*(512*(i+2*j))*25)) 2 (i+2*j+25) (512*(i+2*j)) A2,Xi xw (JM (JM Wz l2) (l3.take k)),F]∧(k≤l3.length)) (L0:=[(2,_),(7,_),(8,_),(9,_),(12,_),(19,_)]) (l3.length -0) (U9 rfl rfl rfl rfl rfl rfl) ⟨0,rfl,rfl,hS42.pick [0,1,3] rfl, by omega⟩ ?_
 rintro _ _ w65 ⟨k,rfl,rfl,hS65,hk⟩
 refine Qd (Qd (Qa (Qb rfl rfl (Qb rfl rfl (X5 Tryz.underlying36 rfl rfl (Xb rfl rfl rfl (Qf (Qc (Qs rfl (fun h66=> ?_) (fun h66=> ?_))))))))))
 ·obtain⟨x3,ha3⟩: ∃y,l3[k]? =some y:=⟨_,Zd (by omega)⟩
  obtain⟨bqx3,offx3,rfl,hcx3⟩:=(hB.sat hS65 2 rfl).get ha3
  have hilx3:=(XQ ha3).1
  clear hcx3
  refine Qr (Qc (Qd (Qw (Qa (Qb rfl rfl (Qb rfl rfl (Qb rfl rfl (XI k rfl rfl (by first | rfl | omega) (by omega) VG rfl ?_))))))))
  refine Jh rfl VT HO (vs:=U8 x3) ((hB.sat hS65 2 rfl).at_ ha3) rfl (Qv Fw rfl (Dw (hS65.sp [1] rfl) (g3.2 k x3 ha3)) rfl ?_)
  rintro _ w67 hS67
  replace hS67:=hS67.jn rfl rfl
  clear hS65
  refine Qf (Ql (Qc (Qi [19,12,9,8,7,2] rfl (Qa (Qb rfl rfl (QK rfl rfl (by omega) (by omega) rfl ?_))))))
  refine Qe rfl rfl (Qf ?_)
  exact Q6 (L1:=[(2,_),(7,_),(8,_),(9,_),(12,_),(19,intV ((k+1:Nat):Int))]) (U9 rfl rfl rfl rfl rfl rfl) (k1:=l3.length -(k+1)) (by omega) ⟨k+1,rfl,rfl, by rw[←YS ha3]; exact hS67.pick [1,0,2] rfl, by omega⟩
 refine QS (Qp (Qp (Qz (Qc (Qd ?_)))))
 have hkk:k=l3.length:= by omega
 rw[hkk,List.take_length]at hS65
 have hrd2:=hf1.rdy hTb hpb
 have hvf:VisC A2.pres (JN P DH l3) (JM (JM Wz l2) l3):=BP hb64 hc64 l3 (DF hv1) DG (DX hok0 _) hval
 refine Qa (Qb rfl rfl (Qb rfl rfl (Qj rfl rfl rfl (Qb rfl rfl (Qj rfl rfl rfl ?_)))))
 refine Qv Np rfl (BW (d:=25) (q:=25) (hS65.sp [0] rfl) (by omega) (by decide) (by omega) (by omega) hf1.t2 hpb (fun i u hu=> by rw[hrd2.1 i u hu];decide) hrd2.2 hTb.dl hTb.pt (by omega)) rfl ?_
 rintro _ w68 ⟨rfl,hS68⟩
 replace hS68:=hS68.jn rfl rfl
 clear hS65
 refine Qj rfl rfl rfl (QX rfl rfl rfl (QC rfl rfl rfl rfl (Qb rfl rfl (QN 228 rfl (fun h69=> ?_) (fun h69=> ?_)))))
 ·refine Qj rfl rfl (QW h69) (Qb rfl rfl (Qj rfl rfl (QW h69) (Qb rfl rfl (Qj rfl rfl (QW h69) (Qb rfl rfl (Qj rfl rfl (QW h69) ?_))))))
  refine Qv Na rfl (BV (hS68.sp [0,1] rfl) (by omega) (by decide) (by omega) (.inl rfl) (fun nm pg=> by rw[We]; exact((Fe hTb hc64 _).trans (hvf nm pg)))) rfl ?_
  rintro _ w70 ⟨rfl,hS70⟩
  replace hS70:=hS70.jn rfl rfl
  clear hS68
  refine QC rfl (QW h69) rfl rfl (Qe rfl rfl (Qf (Qc (Qi [6] rfl (Qu (QQ (.inr rfl) rfl rfl ?_))))))
  exact⟨_,rfl, by rfl,hS70.pick [2] rfl⟩
 exact absurd (by decide) h69
end Go.Proofs.YtkcjfoaejijdoaaGreatDoor
