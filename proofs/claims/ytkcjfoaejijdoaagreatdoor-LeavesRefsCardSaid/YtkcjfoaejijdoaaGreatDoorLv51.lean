/- leaves: Copy, Drop of nobody; Note, Own -/
import Derived.Test.YtkcjfoaejijdoaaGreatDoorLv33
import Derived.Shelf.Spec.TrailingZeros
set_option linter.unusedSectionVars false
set_option linter.unusedVariables false
set_option maxRecDepth 100000
set_option maxHeartbeats 80000000000
namespace Go.Proofs.YtkcjfoaejijdoaaGreatDoor
open Go.RowKit M
variable [Inhabited SlW]
theorem O4 {w:World} {b n Fr:Nat} {L:LvD} {V:VS} {F:Th} (hS:Sat w [XY b L,XG L.sp n Fr V,F]) (hn:n≤60000000000) (id:Int) (hth:Zt L id=false) (ob to:Bs) (first cnt aa:Int):
    Calls Tryz.prog 41 #[ptrV b 0,intV id,strV ob,intV first,intV cnt,strV to,intV aa] w (Ret fun v w'=>Sat w' [XY b L,XG L.sp n Fr V,F]):= by
 refine Qm Tryz.func41 U Tryz.ntmps41 U ?_
 refine Qd (Qd (Qa (Qb U U (Qb U U (Qw WX U (ZH (hS.sp [0] U) id) U ?_)))))
 rintro _ w1 ⟨rfl,hS1⟩
 replace hS1:=hS1.jn U U
 refine QQ U U (Qf (Qc (Qh [6,5,4,3,2,1,0,27] U (QN U (fun h2=> ?_) (fun h2=> ?_)))))
 ·exact Qu (Qp (ZD (.inr U) U (⟨_,rfl,hS1.pick [0,1,2] U⟩)))
 exact absurd hth (by simpa using h2)
theorem Ox {w:World} {b n Fr:Nat} {L:LvD} {V:VS} {F:Th} (hS:Sat w [XY b L,XG L.sp n Fr V,F]) (hn:n≤60000000000) {id:Int} (h0:id≠0) (ht:L.tr id=none) (ob:Bs):
    Calls Tryz.prog 27 #[ptrV b 0,intV id,strV ob] w (Ret fun v w'=>Sat w' [XY b L,XG L.sp n Fr V,F]):= by
 replace hS:=Xy hS
 refine Qm Tryz.func27 U Tryz.ntmps27 U ?_
 refine Qd (Qd (Qa (Qb U U (Xd U U U (Qf (Qc (Qs U (fun h1=> ?_) (fun h1=> ?_))))))))
 ·exact absurd h1 h0
 exact Qt (Qc (Qd (Qa (Qb U U (Qj U U (Qg U Z7 U (Qn U WN (hS.cell 0 U U) U (Qb U U (XT (k:=id) 2 hS keysInt Tryz.underlying82 U U U Yu (u:= .pointer none) (Vw ht) U (Qe U U (Qf (Qc (Qh [2,0,8] U (Qd (Qd (Qa (Qb U U (Wy Tryz.underlying94 U U U (Qf (Qc (Xf U (Qu (Qp (ZD (.inr U) U (⟨_,rfl,QZ (hS.pick [0,1,2,3,4,5,6] U)⟩)))))))))))))))))))))))))
theorem Ag {w:World} {b n Fr:Nat} {L:LvD} {V:VS} {F:Th} (hS:Sat w [XY b L,XG L.sp n Fr V,F]) (hn:n≤60000000000) (ob:Bs) (a:Int) (wr:Bool) (id:Int) (hr: ¬(0≤a∧a<16384)):
    Calls Tryz.prog 63 #[ptrV b 0,intV id,strV ob,intV a,.bool wr] w (Ret fun v w'=>Sat w' [XY b L,XG L.sp n Fr V,F]):= by
 refine Qm Tryz.func63 U Tryz.ntmps63 U ?_
 refine Qd (Qa (Qb U U (Qb U U (Qw Y2 U (WF (hS.sp [] U) ob a) U ?_))))
 rintro _ w1 ⟨rfl,hS1⟩
 replace hS1:=hS1.jn U U
 rw[Ux hr]
 refine Qb U U (Qq U U U (Qq U U U (Qq U U U (QX hS1 Z2 U U ?_))))
 intro kb w2 hS2
 clear hS1
 refine QK hS2 U U Xc U (by rfl) (i:=0) U (by decide) ?_
 intro w3 hS3; dsimp only[List.set]at hS3
 clear hS2
 replace hS3:=X5 (k:=([],0)) hS3
 refine Qe U U (Qe U U (Qf (Qc (Qh [4,1,0,10,11,12] U (Qd (Qd (Qa (Qb U U (QQ U U (Qb U U (Ze 23 U (fun h4=> ?_) (fun h4=> ?_))))))))))))
 ·exact Qi U U h4 U (Qi U U h4 U (Q9 U h4 U U (Qb U U (Qi U U U U (Qi U U U U (Qi U U U U (Qi U U U U (Q9 U U U U (Qf (Qc (Qh [4,1,0,10,11,32] U (Xf U (Qu (Qp (ZD (.inr U) U (⟨_,rfl,hS3.pick [1,2,3] U⟩))))))))))))))))
 exact absurd h4 (by decide)
theorem Ah {w:World} {b n Fr:Nat} {L:LvD} {V:VS} {F:Th} (hS:Sat w [XY b L,XG L.sp n Fr V,F]) (hn:n≤60000000000) (ob:Bs) (a:Int) (wr:Bool) (id:Int) (hr:0≤a∧a<16384) (hth:Zt L id=false):
    Calls Tryz.prog 63 #[ptrV b 0,intV id,strV ob,intV a,.bool wr] w (Ret fun v w'=>Sat w' [XY b L,XG L.sp n Fr V,F]):= by
 refine Qm Tryz.func63 U Tryz.ntmps63 U ?_
 refine Qd (Qa (Qb U U (Qb U U (Qw Y2 U (WF (hS.sp [] U) ob a) U ?_))))
 rintro _ w1 ⟨rfl,hS1⟩
 replace hS1:=hS1.jn U U
 rw[J3 hr]
 refine Qb U U (Qq U U U (Qq U U U (Qq U U U (QX hS1 Z2 U U ?_))))
 intro kb w2 hS2
 clear hS1
 refine QK hS2 U U Xc U (by rfl) (i:=0) U (by decide) ?_
 intro w3 hS3; dsimp only[List.set]at hS3
 clear hS2
 replace hS3:=X5 (k:=(ob,a/ 64)) hS3
 refine Qe U U (Qe U U (Qf (Qc (Qh [4,1,0,10,11,12] U (Qd (Qd (Qa (Qb U U (QQ U U (Qb U U (Ze 23 U (fun h4=> ?_) (fun h4=> ?_))))))))))))
 ·exact absurd h4 (by decide)
 refine Ql U U h4 (Qb U U (Ql U U h4 (Xd U U U (QP U h4 U U (Qb U U (QU 27 U (fun h5=> ?_) (fun h5=> ?_)))))))
 ·exact Qi U U (Xl h5) U (Qi U U (Xl h5) U (Qi U U (Xl h5) U (Qi U U (Xl h5) U (Q9 U (Xl h5) U U (Qf (Qc (Qh [4,1,0,10,11,32] U (Xf U (Qu (Qp (ZD (.inr U) U (⟨_,rfl,hS3.pick [1,2,3] U⟩))))))))))))
 refine Ql U U (QC h5) (Qb U U (Ql U U (QC h5) (Qb U U (Ql U U (QC h5) (Qw WX U (ZH (hS3.sp [1] U) id) U ?_)))))
 rintro _ w6 ⟨rfl,hS6⟩
 replace hS6:=hS6.jn U U
 clear hS3
 refine Ql U U (QC h5) (QQ U U (QP U (QC h5) U U (Qf (Qc (Qh [4,1,0,10,11,32] U (QN U (fun h7=> ?_) (fun h7=> ?_)))))))
 ·exact Qu (Qp (ZD (.inr U) U (⟨_,rfl,hS6.pick [0,2,3] U⟩)))
 exact absurd hth (by simpa using h7)
theorem Ai {w:World} {b n Fr:Nat} {L:LvD} {V:VS} {F:Th} (hS:Sat w [XY b L,XG L.sp n Fr V,F]) (hn:n≤60000000000) (ob:Bs) (a:Int) (wr:Bool) (hr:0≤a∧a<16384):
    Calls Tryz.prog 63 #[ptrV b 0,intV 0,strV ob,intV a,.bool wr] w (Ret fun v w'=>Sat w' [XY b L,XG L.sp n Fr V,F]):= by
 refine Qm Tryz.func63 U Tryz.ntmps63 U ?_
 refine Qd (Qa (Qb U U (Qb U U (Qw Y2 U (WF (hS.sp [] U) ob a) U ?_))))
 rintro _ w1 ⟨rfl,hS1⟩
 replace hS1:=hS1.jn U U
 rw[J3 hr]
 refine Qb U U (Qq U U U (Qq U U U (Qq U U U (QX hS1 Z2 U U ?_))))
 intro kb w2 hS2
 clear hS1
 refine QK hS2 U U Xc U (by rfl) (i:=0) U (by decide) ?_
 intro w3 hS3; dsimp only[List.set]at hS3
 clear hS2
 replace hS3:=X5 (k:=(ob,a/ 64)) hS3
 refine Qe U U (Qe U U (Qf (Qc (Qh [4,1,0,10,11,12] U (Qd (Qd (Qa (Qb U U (QQ U U (Qb U U (Ze 23 U (fun h4=> ?_) (fun h4=> ?_))))))))))))
 ·exact absurd h4 (by decide)
 refine Ql U U h4 (Qb U U (Ql U U h4 (Xd U U U (QP U h4 U U (Qb U U (QU 27 U (fun h5=> ?_) (fun h5=> ?_)))))))
 ·exact Qi U U (Xl h5) U (Qi U U (Xl h5) U (Qi U U (Xl h5) U (Qi U U (Xl h5) U (Q9 U (Xl h5) U U (Qf (Qc (Qh [4,1,0,10,11,32] U (Xf U (Qu (Qp (ZD (.inr U) U (⟨_,rfl,hS3.pick [1,2,3] U⟩))))))))))))
 exact absurd U h5
theorem Af {w:World} {m:Nat} {b n Fr:Nat} {L:LvD} {V:VS} {F:Th} (hS:Sat w [XY b L,XG L.sp n Fr V,F]) (hn:n≤60000000000) (ob:Bs) (a:Int) (wr:Bool) (hI:LvI m L V) (hm:m<Zs) {id:Int} {t:TrD} (ht:L.tr id=some t) (hr:0≤a∧a<16384):
    Calls Tryz.prog 63 #[ptrV b 0,intV id,strV ob,intV a,.bool wr] w (Ret fun v w'=> ∃L' V' y,StepI m L V m 0 1 L' V'∧Q1 L' V'=Z6 (Q1 L V) id (ob,a/ 64) y∧(∃r,y.wr=(Zo (Q1 L V) id (ob,a/ 64)).wr ||| r)∧Sat w' [XY b L',XG L'.sp (n+2) Fr V',F]):= by
 have h0:id≠0:=hI.rank.none0 ht
 refine Qm Tryz.func63 U Tryz.ntmps63 U ?_
 refine Qd (Qa (Qb U U (Qb U U (Qw Y2 U (WF (hS.sp [] U) ob a) U ?_))))
 rintro _ w1 ⟨rfl,hS1⟩
 replace hS1:=hS1.jn U U
 rw[J3 hr]
 refine Qb U U (Qq U U U (Qq U U U (Qq U U U (QX hS1 Z2 U U ?_))))
 intro kb w2 hS2
 clear hS1
 refine QK hS2 U U Xc U (by rfl) (i:=0) U (by decide) ?_
 intro w3 hS3; dsimp only[List.set]at hS3
 clear hS2
 replace hS3:=X5 (k:=(ob,a/ 64)) hS3
 refine Qe U U (Qe U U (Qf (Qc (Qh [4,1,0,10,11,12] U (Qd (Qd (Qa (Qb U U (QQ U U (Qb U U (Ze 23 U (fun h4=> ?_) (fun h4=> ?_))))))))))))
 ·exact absurd h4 (by decide)
 refine Ql U U h4 (Qb U U (Ql U U h4 (Xd U U U (QP U h4 U U (Qb U U (QU 27 U (fun h5=> ?_) (fun h5=> ?_)))))))
 ·exact absurd h5 h0
 refine Ql U U (QC h5) (Qb U U (Ql U U (QC h5) (Qb U U (Ql U U (QC h5) (Qw WX U (ZH (hS3.sp [1] U) id) U ?_)))))
 rintro _ w6 ⟨rfl,hS6⟩
 replace hS6:=hS6.jn U U
 clear hS3
 refine Ql U U (QC h5) (QQ U U (QP U (QC h5) U U (Qf (Qc (Qh [4,1,0,10,11,32] U (QN U (fun h7=> ?_) (fun h7=> ?_)))))))
 ·exact absurd h7 (by simp [Zt,ht])
 refine Qt (Qc (Qd (Qa (Qb U U (Qb U U ?_)))))
 refine Xt U X7 Xc (by first | exact hS6.blk 1 U) (by first | decide | exact Xa U | (simp;done) | omega) U U ?_
 refine Qw K6 U (Hr (hS6.sp [0,2] U) (by omega) (hI.rank.ends hm) ht (k:=(ob,a/ 64))) U ?_
 rintro _ w8 ⟨L1,V1,t1,x1,rfl,hT,hS8⟩
 replace hS8:=hS8.jn U U
 clear hS6
 have ht1:=hT.tr ht
 have hx1:=hT.lv
 refine Qe U U (Qf (Qc (Qh [4,11,13] U (Qd (Qa (Qb U U (Qf (Qc (QN U (fun h9=> ?_) (fun h9=> ?_))))))))))
 ·have hS10:=J5 ht1 hx1 (hS8.pick [0,1,2,3] U)
  refine Qa (Qb U U (Qj U U (Qg U ZV U (Qn U Jm (hS10.cell 0 U U) U (Qb U U (PO U U U (Qj U U (Qg U ZV U (Q6 hS10 U U VZ U (i:=0) U (Xa U) ?_)))))))))
  intro w11 hS11; dsimp only[List.set]at hS11
  clear hS10
  refine Qf (ZD (.inl U) U ?_)
  have hS12:=W4 (L:=_) (y:={x1 with wr:=x1.wr ||| N8 a}) ht1 hx1 U (hS11.pick [0,1,2,3,4,5,6,7,8,9,10,11,12] U)
  have hi2:=(hT.inv ht hI).2.1
  obtain⟨q1,q2⟩:=Bz hT ht hI (rd:=x1.rd) (wr:=x1.wr ||| N8 a) fun j _ h=> by rw[BitVec.getLsbD_or,Bool.or_eq_false_iff]at h; exact h.1
  exact⟨_,rfl,_,_,_,q1,q2,⟨N8 a, by rw[←hi2];rfl⟩,hS12.pick [0,1,3] U⟩
 have hS13:=J5 ht1 hx1 (hS8.pick [0,1,2,3] U)
 have hS14:=hS13.drew
 refine QF [0,1,2,3,4,5,6,7,8,9,10,11,12,13] [13] We (by kernel_rfl) ?_
 refine QG U U U (Xh U U U (QV U U U J6 (Q4 U U U (Qr U Jm (hS14.cell 0 U U)) (QG U U U (QG U U U (Xh U U U (QV U U U ZV (Q4 U U U (Qr U Jm (hS14.cell 0 U U)) (X8 U U U (fun _=>(HD U U)) ?_)))))))))
 refine X8 U U U (fun _=>(V9 U U)) ?_
 refine Xh U U U (QV U U U J6 (Xn U U U U U U ?_))
 refine Q6 hS14 U U VZ U (i:=0) U (Xa U) ?_
 intro w15 hS15; dsimp only[List.set]at hS15
 clear hS14
 refine Z4 (X1 (by kernel_rfl)) ?_
 refine VC.nil (ZD (.inl U) U ?_)
 have hS16:=W4 (L:=_) (y:={x1 with rd:=x1.rd ||| (N8 a&&& ~~~x1.wr)}) ht1 hx1 U (hS15.pick [0,1,2,3,4,5,6,7,8,9,10,11,12] U)
 have hi2:=(hT.inv ht hI).2.1
 obtain⟨q1,q2⟩:=Bz hT ht hI (rd:=x1.rd ||| (N8 a&&& ~~~x1.wr)) (wr:=x1.wr) fun _ _ h=>h
 exact⟨_,rfl,_,_,_,q1,q2,⟨0#64, by rw[←hi2]; exact(BitVec.or_zero).symm⟩,hS16.pick [0,1,3] U⟩
theorem Sh {w:World} {b n Fr:Nat} {L:LvD} {V:VS} {F:Th} (hS:Sat w [XY b L,XG L.sp n Fr V,F]) (hn:n≤60000000000) (ob:Bs) (page:Int) (id:Int) (hth:Zt L id=false):
    Calls Tryz.prog 64 #[ptrV b 0,intV id,strV ob,intV page] w (Ret fun v w'=>v=intV 4∧Sat w' [XY b L,XG L.sp n Fr V,F]):= by
 refine Qm Tryz.func64 U Tryz.ntmps64 U ?_
 refine Qd (Qa (Qe U U (Qf (Qc (Qd (Qv (Qd (Qa (Qb U U (Qb U U (Qw WX U (ZH (hS.sp [0] U) id) U ?_)))))))))))
 rintro _ w1 ⟨rfl,hS1⟩
 replace hS1:=hS1.jn U U
 refine QQ U U (Qe U U (Qf (Qc (QN U (fun h2=> ?_) (fun h2=> ?_)))))
 ·exact Qd (Qa (Qe U U (Qf (Qc (Qu (Qz (Qp (QR (.inr U) U U (⟨_,rfl,rfl,hS1.pick [0,1,2] U⟩)))))))))
 exact absurd hth (by simpa using h2)
theorem ownR_sp {w:World} {b n Fr:Nat} {L:LvD} {V:VS} {F:Th} (hS:Sat w [XY b L,XG L.sp n Fr V,F]) (hn:n≤60000000000) (ob:Bs) (page:Int) (id:Int) (hth:Zt L id=true) (hr: ¬(0≤page∧page<256)):
    Calls Tryz.prog 64 #[ptrV b 0,intV id,strV ob,intV page] w (Ret fun v w'=>v=intV 3∧Sat w' [XY b L,XG L.sp n Fr V,F]):= by
 refine Qm Tryz.func64 U Tryz.ntmps64 U ?_
 refine Qd (Qa (Qe U U (Qf (Qc (Qd (Qv (Qd (Qa (Qb U U (Qb U U (Qw WX U (ZH (hS.sp [0] U) id) U ?_)))))))))))
 rintro _ w1 ⟨rfl,hS1⟩
 replace hS1:=hS1.jn U U
 refine QQ U U (Qe U U (Qf (Qc (QN U (fun h2=> ?_) (fun h2=> ?_)))))
 ·exact absurd hth (by simpa using h2)
 refine Qd (Qa (Qb U U (Xg U U U (Qb U U (QU 19 U (fun h3=> ?_) (fun h3=> ?_))))))
 ·exact Qi U U (Xl h3) U (Qi U U (Xl h3) U (Q9 U (Xl h3) U U (Qe U U (Qf (Qc (Qh [3,2,1,0,8,16] U (Xf U (Qd (Qa (Qe U U (Qf (Qc (Qu (Qz (Qp (QR (.inr U) U U (⟨_,rfl,rfl,hS1.pick [0,1,2] U⟩)))))))))))))))))
 refine Ql U U (QC h3) (Qb U U (Ql U U (QC h3) (JA U U U (QP U (QC h3) U U (Qe U U (Qf (Qc (Qh [3,2,1,0,8,16] U (Qs U (fun h4=> ?_) (fun h4=> ?_))))))))))
 ·exact Qd (Qa (Qe U U (Qf (Qc (Qu (Qz (Qp (QR (.inr U) U U (⟨_,rfl,rfl,hS1.pick [0,1,2] U⟩)))))))))
 omega
theorem ownP_sp {w:World} {m:Nat} {b n Fr:Nat} {L:LvD} {V:VS} {F:Th} (hS:Sat w [XY b L,XG L.sp n Fr V,F]) (hn:n≤60000000000) (ob:Bs) (page:Int) (hI:LvI m L V) (hm:m<Zs) (hr:0≤page∧page<256):
    Calls Tryz.prog 64 #[ptrV b 0,intV 0,strV ob,intV page] w (Ret fun v w'=> ∃L' V' e,v=intV e∧StepI m L V m 1 1 L' V'∧Q1 L' V'=Q1 L V∧Sat w' [XY b L',XG L'.sp (n+4) Fr V',F]):= by
 refine Qm Tryz.func64 U Tryz.ntmps64 U ?_
 refine Qd (Qa (Qe U U (Qf (Qc (Qd (Qv (Qd (Qa (Qb U U (Qb U U (Qw WX U (ZH (hS.sp [0] U) 0) U ?_)))))))))))
 rintro _ w1 ⟨rfl,hS1⟩
 replace hS1:=hS1.jn U U
 refine QQ U U (Qe U U (Qf (Qc (QN U (fun h2=> ?_) (fun h2=> ?_)))))
 ·exact absurd h2 (by simp [Zt])
 refine Qd (Qa (Qb U U (Xg U U U (Qb U U (QU 19 U (fun h3=> ?_) (fun h3=> ?_))))))
 ·omega
 refine Ql U U (QC h3) (Qb U U (Ql U U (QC h3) (JA U U U (QP U (QC h3) U U (Qe U U (Qf (Qc (Qh [3,2,1,0,8,16] U (Qs U (fun h4=> ?_) (fun h4=> ?_))))))))))
 ·omega
 refine Qt (Qk (Qc (Qd (Qa (Qb U U (Qb U U (Qb U U (Qb U U (Zu U Yc HN Z2 U U (Qw TH U (Si (hS1.sp [0,1] U) (by omega) (hI.rank.ends hm) (k:=(ob,page)) (hI.alive (.inl (ob,page)))) U ?_))))))))))
 rintro _ w5 ⟨L2,V2,s,e,rfl,hO,hS5⟩
 replace hS5:=hS5.jn U U
 clear hS1
 exact Qb U U (Qq U U U (Qq U U U (Qe U U (Qe U U (Qf (Qc (Qh [8,10] U (Qd (Qa (Qb U U (Qe U U (Qf (Qc (Qu (QR (.inr U) U U (⟨_,rfl,L2,V2,e,rfl,hO.step hI,(hO.inv hI).1.2.1,hS5.pick [0,1,2] U⟩))))))))))))))))
theorem Ae {w:World} {m:Nat} {b n Fr:Nat} {L:LvD} {V:VS} {F:Th} (hS:Sat w [XY b L,XG L.sp n Fr V,F]) (hn:n≤60000000000) (ob:Bs) (page:Int) (hI:LvI m L V) (hm:m<Zs) {id:Int} {t:TrD} (ht:L.tr id=some t) (hr:0≤page∧page<256):
    Calls Tryz.prog 64 #[ptrV b 0,intV id,strV ob,intV page] w (Ret fun v w'=> ∃L' V' e,v=intV e∧StepI m L V m 1 1 L' V'∧Q1 L' V'=Z6 (Q1 L V) id (ob,page) (Zo (Q1 L V) id (ob,page))∧Sat w' [XY b L',XG L'.sp (n+4) Fr V',F]):= by
 have h0:id≠0:=hI.rank.none0 ht
 refine Qm Tryz.func64 U Tryz.ntmps64 U ?_
 refine Qd (Qa (Qe U U (Qf (Qc (Qd (Qv (Qd (Qa (Qb U U (Qb U U (Qw WX U (ZH (hS.sp [0] U) id) U ?_)))))))))))
 rintro _ w1 ⟨rfl,hS1⟩
 replace hS1:=hS1.jn U U
 refine QQ U U (Qe U U (Qf (Qc (QN U (fun h2=> ?_) (fun h2=> ?_)))))
 ·exact absurd h2 (by simp [Zt,ht])
 refine Qd (Qa (Qb U U (Xg U U U (Qb U U (QU 19 U (fun h3=> ?_) (fun h3=> ?_))))))
 ·omega
 refine Ql U U (QC h3) (Qb U U (Ql U U (QC h3) (JA U U U (QP U (QC h3) U U (Qe U U (Qf (Qc (Qh [3,2,1,0,8,16] U (Qs U (fun h4=> ?_) (fun h4=> ?_))))))))))
 ·omega
 refine Qt (Qk (Qc (Qd (Qa (Qb U U (Qb U U (Qb U U (Qb U U (Zu U Yc HN Z2 U U (Qw TH U (Sg (hS1.sp [0,1] U) (by omega) (hI.rank.ends hm) ht (k:=(ob,page)) h0 (hI.aliveS id (ob,page))) U ?_))))))))))
 rintro _ w5 ⟨L1,V1,t1,x1,L2,V2,s,e,rfl,hT,hO,hS5⟩
 replace hS5:=hS5.jn U U
 clear hS1
 have hW:=BA hT ht hI hO
 exact Qb U U (Qq U U U (Qq U U U (Qe U U (Qe U U (Qf (Qc (Qh [8,10] U (Qd (Qa (Qb U U (Qe U U (Qf (Qc (Qu (QR (.inr U) U U (⟨_,rfl,L2,V2,e,rfl,hW.1,hW.2.2.1,hS5.pick [0,1,2] U⟩))))))))))))))))
end Go.Proofs.YtkcjfoaejijdoaaGreatDoor
namespace Go.Proofs.YtkcjfoaejijdoaaGreatDoor
open Go.RowKit M
variable [Inhabited SlW]
theorem GQ {κ:Type} {f:κ→Bool} {k j:κ}:Wv f k j=true↔f j=true∨j=k:= by
  unfold Wv
  by_cases e:j=k<;> simp [e]
end Go.Proofs.YtkcjfoaejijdoaaGreatDoor
namespace Go.Proofs.YtkcjfoaejijdoaaGreatDoor
open Go.RowKit M
variable [Inhabited SlW]
def kO:KD:=([111],0)
theorem sees_nzero {A:LvA} {k:KD} {n:Nat}:Yh A (n+1) 0 k=A.pres k:= by rw[Yh,if_pos U]
def Lf1 (A:LvA) (i:Int) (page own:Bs) (r w:BitVec 64):Prop:= ∃lv,A.tr i=some ⟨0,lv, fun _=>false⟩∧(∀k,k≠kO→lv k=none)∧((lv kO=none∧r=0#64∧w=0#64∧own=page)∨lv kO=some ⟨page,own,r,w⟩)
section
variable {A:LvA} {i j:Int} {page own own' o1 o2:Bs} {r w r' w' r1 w1 r2 w2 x y:BitVec 64} {k:KD} {q:Nat}
theorem Lf1.tou (h:Lf1 A i page own r w) (hp:A.pres kO=page) (h0:i≠0):Zo A i kO=⟨page,own,r,w⟩:= by
  obtain⟨lv,ht,hk,hl⟩:=h
  rcases hl with⟨a,rfl,rfl,rfl⟩ | a
  · rw[RJ ht a]
    have h1:Wp A i kO=own:= by
      unfold Wp
      rw[Yh,if_neg h0,ht]
      dsimp only
      rw[a]
      dsimp only
      rw[if_neg (by simp)]
      exact(show Yh A (99999+1) 0 kO=own from sees_nzero.trans hp)
    rw[h1]
    rfl
  · exact HV ht a
theorem Lf1.put (h:Lf1 A i page own r w):Lf1 (Z6 A i kO ⟨page,own',r',w'⟩) i page own' r' w':= by
  obtain⟨lv,ht,hk,_⟩:=h
  exact⟨Xi lv kO (some ⟨page,own',r',w'⟩), by rw[ZR ht]; exact Qy, fun k e=> by rw[Q7 e]; exact hk k e,.inr Qy⟩
theorem Lf1.oth {y:LfA} (h:Lf1 A j page own r w) (hne:j≠i):Lf1 (Z6 A i k y) j page own r w:= by
  obtain⟨lv,ht,hk,hl⟩:=h
  exact⟨lv, by rw[H8 hne]; exact ht,hk,hl⟩
def SB (A:LvA) (page o1:Bs) (r1 w1:BitVec 64) (o2:Bs) (r2 w2:BitVec 64):Prop:=A.pres kO=page∧Lf1 A 1 page o1 r1 w1∧Lf1 A 2 page o2 r2 w2∧ ∀i,i≠1→i≠2→A.tr i=none
theorem FT {y:LfA} (h:A.tr j=none):(Z6 A i k y).tr j=none:= by
  by_cases e:j=i
  · subst e;unfold Z6; rw[h]; exact h
  · rw[H8 e]; exact h
theorem SB.put1 (h:SB A page o1 r1 w1 o2 r2 w2):SB (Z6 A 1 kO ⟨page,own',r',w'⟩) page own' r' w' o2 r2 w2:=
  ⟨by rw[RU]; exact h.1,h.2.1.put,h.2.2.1.oth (by decide), fun j a b=>FT (h.2.2.2 j a b)⟩
def MW (x w:BitVec 64) (i:Nat):Prop:= ∀j,j<64→w.getLsbD j=(x.getLsbD j&&decide (j<i))
theorem MW.zero:MW x 0#64 0:= fun j _=> by simp
theorem Tn {i j:Nat} (hj:j<64):(w ||| (1#64<<<i)).getLsbD j=(w.getLsbD j || decide (j=i)):= by
  rw[BitVec.getLsbD_or,BitVec.getLsbD_shiftLeft,BitVec.getLsbD_one]
  congr 1
  by_cases h:j=i
  · subst h; simp [hj]
  · by_cases h2:j<i
    · simp [h2,h]
    · have :j -i≠0:= by omega
      simp [h2,h,this]
theorem MW.T (h:MW x w q) (hb:x.getLsbD q=true):MW x (w ||| (1#64<<<q)) (q+1):= fun j hj=> by
  rw[Tn hj,h j hj]
  by_cases e:j=q
  · subst e; simp [hb]
  · have h1:decide (j<q+1)=decide (j<q):= by
      by_cases f:j<q
      · rw[Xl f,Xl (by omega)]
      · rw[QC f,QC (by omega)]
    rw[h1]; simp [e]
theorem MW.F (h:MW x w q) (hb:x.getLsbD q=false):MW x w (q+1):= fun j hj=> by
  rw[h j hj]
  by_cases e:j=q
  · subst e; simp [hb]
  · have h1:decide (j<q+1)=decide (j<q):= by
      by_cases f:j<q
      · rw[Xl f,Xl (by omega)]
      · rw[QC f,QC (by omega)]
    rw[h1]
theorem MW.fin (h:MW x w 64):w=x:=BitVec.eq_of_getLsbD_eq fun j hj=> by rw[h j hj]; simp [hj]
theorem GV {now own:Bs} {j:Nat} (hj:j<64):(KZ now own w)[j]? =some (if w.getLsbD j=true then own.getD j 0 else now.getD j 0):= by
  unfold KZ
  rw[List.getElem?_map,List.getElem?_range hj]
  rfl
theorem CS {l:Bs} {j:Nat} {v:UInt8} (h:l[j]? =some v):l.getD j 0=v:= by simp [List.getD,h]
theorem BS {now own:Bs} (hl:now.length=64):KZ now own 0#64=now:= by
  apply List.ext_getElem?
  intro j
  by_cases hj:j<64
  · rw[GV hj,getD_some (by omega)]; simp
  · rw[List.getElem?_eq_none (by rw[U1];omega),List.getElem?_eq_none (by omega)]
theorem Lf1.com {t:TrA} (h:Lf1 A i page own r w) (ht:A.tr i=some t) (hl:(A.pres kO).length=64):P7 A t kO=KZ (A.pres kO) own w:= by
  obtain⟨lv,h1,hk,h2⟩:=h
  rw[h1]at ht
  cases ht
  unfold P7
  rcases h2 with⟨a,rfl,rfl,rfl⟩ | a
  · dsimp only; rw[a]; dsimp only; rw[if_neg (by simp),BS hl]
  · dsimp only; rw[a]; dsimp only
    by_cases e:w=0#64
    · subst e; rw[if_pos U,if_neg (by simp),BS hl]
    · rw[if_neg e]
theorem Lf1.parent (h:Lf1 A i page own r w) {t:TrA} (ht:A.tr i=some t):t.parent=0∧ ∀ob,t.dr ob=false:= by
  obtain⟨lv,h1,_⟩:=h
  rw[h1]at ht
  cases ht
  exact⟨rfl, fun _=>rfl⟩
theorem Lf1.get (h:Lf1 A i page own r w): ∃t,A.tr i=some t:= by obtain⟨lv,h1,_⟩:=h; exact⟨_,h1⟩
theorem Lf1.part (h:Lf1 A i page own r w) {t:TrA} (ht:A.tr i=some t): ∀k x,t.lv k=some x→k=kO:= fun k x hx=> by
  obtain⟨lv,h1,hk,_⟩:=h
  rw[h1]at ht
  cases ht
  exact Classical.byContradiction fun e=> by
    have h3:lv k=some x:=hx
    rw[hk k e]at h3; cases h3
theorem Lf1.rest (h:Lf1 A j page own r w) (hne:j≠i) {P:KD→Bs}:Lf1 ⟨P,Xi A.tr i none⟩ j page own r w:= by
  obtain⟨lv,h1,hk⟩:=h
  exact⟨lv, by show Xi A.tr i none j=_; rw[Q7 hne]; exact h1,hk⟩
theorem Lf1.valid (h:Lf1 A i page own r w) {t:TrA} (ht:A.tr i=some t):VA A t↔ ∀j,j<64→r.getLsbD j=true→page[j]? =(A.pres kO)[j]? := by
  obtain⟨lv,h1,hk,h2⟩:=h
  rw[h1]at ht
  cases ht
  constructor
  · intro hv q hq hr
    rcases h2 with⟨_,rfl,_⟩ | a
    · simp at hr
    · have :=hv kO _ a q hq hr
      rw[Kj]at this
      exact this
  · intro hv k z hz q hq hr
    have e:k=kO:=Classical.byContradiction fun e=> by
      have :lv k=some z:=hz
      rw[hk k e]at this; cases this
    subst e
    show z.base[q]? =(Wp A 0 kO)[q]?
    rw[Kj]
    rcases h2 with⟨a,_⟩ | a
    · have :lv kO=some z:=hz
      rw[a]at this; cases this
    · have :lv kO=some z:=hz
      rw[a]at this; cases this
      exact hv q hq hr
end
def p7:Bs:=zer.set 5 7
def kP:KD:=([112],3)
structure SmI (A:LvA) (P own:Bs) (r w:BitVec 64):Prop where
  pr:A.pres kO=P
  tr: ∃lv,A.tr 1=some ⟨0,lv, fun _=>false⟩∧lv kO=some ⟨p7,own,r,w⟩∧ ∀k,k≠kO→lv k=none
  ot: ∀i,i≠1→A.tr i=none
section
variable {A:LvA} {P own own':Bs} {r w r' w':BitVec 64}
theorem SmI.tou (h:SmI A P own r w):Zo A 1 kO=⟨p7,own,r,w⟩:= by
  obtain⟨lv,a,b,_⟩:=h.tr
  exact HV a b
theorem SmI.lf (h:SmI A P own r w):Lf1 A 1 p7 own r w:= by
  obtain⟨lv,a,b,c⟩:=h.tr
  exact⟨lv,a,c,.inr b⟩
theorem SmI.wr (h:SmI A P own r w) (a:Int) (b:UInt8):SmI (wrP A kO a b) (P.set a.toNat b) own r w:=
  ⟨by unfold wrP; dsimp only; rw[X4,h.pr],h.tr,h.ot⟩
theorem Ez (h:Lf1 A 1 p7 own r w) (hp:A.pres kO=P) (ho: ∀i,i≠1→A.tr i=none):SmI (Z6 A 1 kO ⟨p7,own',r',w'⟩) P own' r' w':= by
  obtain⟨lv,a,c,_⟩:=h
  refine⟨by rw[RU]; exact hp,⟨Xi lv kO (some ⟨p7,own',r',w'⟩), by rw[ZR a]; exact Qy,Qy, fun k e=> by rw[Q7 e]; exact c k e⟩, fun i hi=> by rw[H8 hi]; exact ho i hi⟩
theorem SmI.put (h:SmI A P own r w):SmI (Z6 A 1 kO ⟨p7,own',r',w'⟩) P own' r' w':=Ez h.lf h.pr h.ot
theorem SmI.get (h:SmI A P own r w): ∃t,A.tr 1=some t:=h.lf.get
end
theorem dr_none {A:LvA} (h: ∀i t,A.tr i=some t→ ∀ob,t.dr ob=false):DrA A:= fun i t k x ht hd _=> by rw[h i t ht k.1]at hd; cases hd
theorem L6 {t:TrA} (h: ∀ob,t.dr ob=false):DrLe t 0:=⟨[],Nat.le_refl _, fun ob hd=> by rw[h ob]at hd; cases hd⟩
theorem Aa {t:TrA} (h: ∀k x,t.lv k=some x→k=kO):PartLe t 1:=⟨[kO],Nat.le_refl _, fun k x hx _ _=> by rw[h k x hx]; simp⟩
theorem TU {A:LvA} {i:Int} (hi:1≤i) (h:A.tr i=none):DR A i 0=0∧GG A i 0={A with tr:=Xi A.tr i (some ⟨0, fun _=>none, fun _=>false⟩)}:= by
  have e:DR A i 0=0:= by
    unfold DR
    rw[if_neg (by omega),h,if_neg (by simp),if_neg (by simp [Ta])]
  exact⟨e, by unfold GG; rw[if_pos e]⟩
theorem NY {m:Nat} {L L':LvD} {V V':VS} {q:Nat} {x0 x3:Int} (hI:LvI m L V) (hI':LvI m L' V') (hx0:x0=0) (hx3:x3=3) (hp:L'.pres=O1 L.pres [112] (3+max 0 (-3)) (G3 L [111] (0+max 0 (-3)) q) q) (hq:max 0 (-3)+(q:Int)=min 1 (256 -3)∨(q=0∧min (1:Int) (256 -3)≤max 0 (-3))) (hne:XH V (L.pres kO)≠zer):
    (X2 L' 0 ([111],x0)=L.pres kO∧DI L' V' 0 ([111],x0)=false)∧(X2 L' 0 ([112],x3)=L.pres kO∧DI L' V' 0 ([112],x3)=false)∧L.pres kO≠0:= by
  subst hx0; subst hx3
  have hq1:q=1:= by omega
  subst hq1
  have h0:L.pres kO≠0:= fun e=>hne (by rw[e]; exact WG hI.zero)
  have e1:G3 L [111] (0+max 0 (-3)) 1=[L.pres kO]:= by
    have e0:max (0:Int) (-3)=0:= by decide
    unfold G3 P4
    rw[e0]
    simp [kO]
  have e2:L'.pres=Zv L.pres kP (L.pres kO):= by
    rw[hp,e1]
    show Zv L.pres ([112],3+max 0 (-3)+((0:Nat):Int)) (([L.pres kO]:List Int).getD 0 0)=_
    rfl
  have a1:L'.pres kO=L.pres kO:= by rw[e2];unfold Zv; rw[if_neg (by decide)]
  have a2:L'.pres kP=L.pres kO:= by rw[e2];unfold Zv; rw[if_pos U]
  have s1:X2 L' 0 kO=L.pres kO:=(Yy U).trans a1
  have s2:X2 L' 0 kP=L.pres kO:=(Yy U).trans a2
  have hr:Zc V' (L.pres kO)≠1:= fun e=> by
    have :=hI'.ref.excl e U h0 (show QJ L' (.inl kO)=L.pres kO from a1) (.inl kP) a2
    exact absurd this (by decide)
  refine⟨⟨s1, ?_⟩,⟨s2, ?_⟩,h0⟩
  · show DI L' V' 0 kO=false
    unfold DI; rw[s1]; simp [hr]
  · show DI L' V' 0 kP=false
    unfold DI; rw[s2]; simp [hr]
theorem CF {w:World} {b p n m c e:Nat} {A:LvA} {F:Th} (hS:Sat w [Ga b p n m c e A,F]) (hn:n≤60000000000) (hm:m<Zs) (a:Int) (hr:0≤a∧a<64):
    Calls Tryz.prog 12 #[ptrV b 0,intV 0,strV [111],intV a] w (Ret fun v w'=>v=Wu (NI (A.pres kO) a)∧Sat w' [Ga b p n m c e A,F]):= by
  refine(AA hS hn hm [111] a (by omega)).mono fun ew w h=>h.mono fun v w h=> ?_
  have e1:a/ 64=0:= by omega
  have e2:a%64=a:= by omega
  rw[e1,e2]at h
  exact h
theorem CE {w:World} {b p n m c e:Nat} {A:LvA} {F:Th} (hS:Sat w [Ga b p n m c e A,F]) (hn:n≤60000000000) (hm:m<Zs) {id:Int} {tA:TrA} (ht:A.tr id=some tA) (a:Int) (hr:0≤a∧a<64):
    Calls Tryz.prog 12 #[ptrV b 0,intV id,strV [111],intV a] w (Ret fun v w'=>v=Wu (NI (Zo A id kO).own a)∧ ∃A',A'=Z6 A id kO (rdX (Zo A id kO) a)∧Sat w' [Ga b p (n+2) m c (e+1) A',F]):= by
  refine(A9 hS hn hm ht [111] a (by omega)).mono fun ew w h=>h.mono fun v w h=> ?_
  have e1:a/ 64=0:= by omega
  have e2:a%64=a:= by omega
  rw[e1,e2]at h
  exact⟨h.1,_,rfl,h.2⟩
theorem BV {w:World} {b p n m c e:Nat} {A:LvA} {F:Th} (hS:Sat w [Ga b p n m c e A,F]) (hn:n≤60000000000) (hm:m<Zs) (hc:c+1<256) (a:Int) (hr:0≤a∧a<64) (bt:UInt8):
    Calls Tryz.prog 10 #[ptrV b 0,intV 0,strV [111],intV a,Wu bt] w (Ret fun v w'=>v=intV 0∧ ∃A',A'=wrP A kO a bt∧Sat w' [Ga b p (n+5) m (c+1) (e+1) A',F]):= by
  refine(Az hS hn hm hc [111] a bt (by omega)).mono fun ew w h=>h.mono fun v w h=> ?_
  have e1:a/ 64=0:= by omega
  have e2:a%64=a:= by omega
  rw[e1,e2]at h
  exact⟨h.1,_,rfl,h.2⟩
theorem AC {w:World} {b p n m c e:Nat} {A:LvA} {F:Th} (hS:Sat w [Ga b p n m c e A,F]) (hn:n≤60000000000) (hm:m<Zs) (hc:c+1<256) {id:Int} {tA:TrA} (ht:A.tr id=some tA) (a:Int) (hr:0≤a∧a<64) (bt:UInt8):
    Calls Tryz.prog 10 #[ptrV b 0,intV id,strV [111],intV a,Wu bt] w (Ret fun v w'=>v=intV 0∧ ∃A',A'=Z6 A id kO (wrX (Zo A id kO) a bt)∧Sat w' [Ga b p (n+5) m (c+1) (e+1) A',F]):= by
  refine(Ay hS hn hm ht hc [111] a bt (by omega)).mono fun ew w h=>h.mono fun v w h=> ?_
  have e1:a/ 64=0:= by omega
  have e2:a%64=a:= by omega
  rw[e1,e2]at h
  exact⟨h.1,_,rfl,h.2⟩
theorem Ey {w:World} {F:Th} (hS:Sat w [F]) (hG:Ent F GT):
    Calls Tryz.prog 8 #[] w (Ret fun v w'=>v= .bool true∧Sat w' [F]):= by
 letI:Inhabited SlW:=⟨⟨4096⟩⟩
 refine Qm Tryz.func8 U Tryz.ntmps8 U ?_
 refine Qd (Qa (Qe U U (Qf (Qc (Qd (Qa (Qw cal_9 U (EI (hS.sp [] U) U) U ?_)))))))
 rintro _ w1 ⟨b,p,mp,mt,ms,rfl,hS1⟩
 replace hS1:=hS1.jn U U
 have hz0:=EJ (hS1.pick [0,1,2] U)
 refine Qb U U (Qq U U U (Qq U U U (Qe U U (Qe U U (Qf (Qc (Qd (Qd (Qa (Qb U U (ZO Tryz.underlying24 U U U (Qf (Qc (QT U (Qt (Qc (Qd (Qa (Qb U U ?_)))))))))))))))))))
 have hC2:=hz0.sp [0] U
 refine Qw Gi U (BV hC2 (by omega) (by decide) (by omega) 5 (by omega) 7) U ?_
 rintro _ w2 ⟨rfl,A1,hA1,hS2⟩
 replace hS2:=hS2.jn U U; clear hC2
 clear hz0
 have q1:A1.pres kO=p7:= by rw[hA1];unfold wrP; dsimp only; rw[X4];rfl
 have q2: ∀i,A1.tr i=none:= fun i=> by rw[hA1];rfl
 obtain⟨be1,be2⟩:=TU (i:=1) (by omega) (q2 1)
 refine Qf (Qc (Qh [0,1] U (Qd (Qa (Qb U U (Qw OY U (AB (hS2.sp [0] U) (by omega) (by decide) 1 0) U ?_))))))
 rintro _ w3 ⟨rfl,hS3⟩
 replace hS3:=hS3.jn U U
 clear hS2
 rw[be1]
 rw[be2]at hS3
 obtain⟨A2,hA2⟩: ∃A,A=({A1 with tr:=Xi A1.tr 1 (some ⟨0, fun _=>none, fun _=>false⟩)}:LvA):=⟨_,rfl⟩
 rw[←hA2]at hS3
 have f2:Lf1 A2 1 p7 p7 0#64 0#64:=⟨fun _=>none, by rw[hA2]; exact Qy, fun _ _=>rfl,.inl ⟨rfl,rfl,rfl,rfl⟩⟩
 have p2:A2.pres kO=p7:= by rw[hA2]; exact q1
 have o2: ∀i,i≠1→A2.tr i=none:= fun i hi=> by rw[hA2]; exact(Q7 hi).trans (q2 i)
 obtain⟨t2,ht2⟩:=f2.get
 have to2:=f2.tou p2 (by decide)
 refine Qe U U (Qf (Qc (Qd (Qa (Qb U U (Qw Gi U (AC (hS3.sp [0] U) (by omega) (by decide) (by omega) ht2 6 (by omega) 8) U ?_))))))
 rintro _ w4 ⟨rfl,A3,hA3,hS4⟩
 replace hS4:=hS4.jn U U
 clear hS3
 rw[to2]at hA3
 have k3:SmI A3 p7 (p7.set 6 8) 0#64 (1#64<<<6):= by rw[hA3]; exact Ez f2 p2 o2
 refine Qf (Qc (Qd (Qa (Qb U U (Qw Gh U (CF (hS4.sp [0] U) (by omega) (by decide) 6 (by omega)) U ?_)))))
 rintro _ w5 ⟨rfl,hS5⟩
 replace hS5:=hS5.jn U U
 clear hS4
 rw[k3.pr]
 obtain⟨t3,ht3⟩:=k3.get
 refine Qe U U (Qf (Qc (Qd (Qa (Qb U U (Qw Gh U (CE (hS5.sp [0] U) (by omega) (by decide) ht3 5 (by omega)) U ?_))))))
 rintro _ w6 ⟨rfl,A4,hA4,hS6⟩
 replace hS6:=hS6.jn U U
 clear hS5
 rw[k3.tou]at hA4⊢
 have k4:SmI A4 p7 (p7.set 6 8) (1#64<<<5) (1#64<<<6):= by rw[hA4]; exact k3.put
 refine Qe U U (Qf (Qc (Qh [0,1,3,4,5] U (Qd (Qa (Qb U U (Qw Gi U (BV (hS6.sp [0] U) (by omega) (by decide) (by omega) 5 (by omega) 9) U ?_)))))))
 rintro _ w7 ⟨rfl,A5,hA5,hS7⟩
 replace hS7:=hS7.jn U U
 clear hS6
 have k5:=k4.wr 5 9
 rw[←hA5]at k5
 obtain⟨t5,ht5⟩:=k5.get
 refine Qf (Qc (Qd (Qa (Qb U U (Qw Gh U (CE (hS7.sp [0] U) (by omega) (by decide) ht5 5 (by omega)) U ?_)))))
 rintro _ w8 ⟨rfl,A6,hA6,hS8⟩
 replace hS8:=hS8.jn U U
 clear hS7
 rw[k5.tou]at hA6⊢
 have k6:SmI A6 (p7.set 5 9) (p7.set 6 8) (1#64<<<5) (1#64<<<6):= by rw[hA6]; exact k5.put
 obtain⟨t6,ht6⟩:=k6.get
 refine Qe U U (Qf (Qc (Qd (Qa (Qb U U (Qw OW U (CD (hS8.sp [0] U) (by omega) (by decide) (hG.starL 0 U) ht6) U ?_))))))
 rintro _ w9 ⟨r6,rfl,hr6,hS9⟩
 replace hS9:=hS9.jn U U
 clear hS8
 have hr6f:r6=false:= by cases r6 with | false=>rfl | true=> exact absurd ((k6.lf.valid ht6).1 (hr6.1 U) 5 (by decide) (by decide)) (by rw[k6.pr];decide)
 subst hr6f
 refine Qe U U (Qf (Qc (Qh [0,1,3,4,5,6,7] U (Qd (Qa (Qb U U (Qw Gi U (BV (hS9.sp [0] U) (by omega) (by decide) (by omega) 5 (by omega) 7) U ?_)))))))
 rintro _ w10 ⟨rfl,A7,hA7,hS10⟩
 replace hS10:=hS10.jn U U
 clear hS9
 have k7:=k6.wr 5 7
 rw[←hA7]at k7
 rw[show((p7.set 5 9).set (5:Int).toNat 7)=p7 by decide]at k7
 obtain⟨t7,ht7⟩:=k7.get
 refine Qf (Qc (Qd (Qa (Qb U U (Qw OW U (CD (hS10.sp [0] U) (by omega) (by decide) (hG.starL 0 U) ht7) U ?_)))))
 rintro _ w11 ⟨r7,rfl,hr7,hS11⟩
 replace hS11:=hS11.jn U U
 clear hS10
 have hr7t:r7=true:=hr7.2 ((k7.lf.valid ht7).2 fun j _ _=> by rw[k7.pr])
 subst hr7t
 have pa7:=k7.lf.parent ht7
 have un7: ∀i u,A7.tr i=some u→i=1:= fun i u hu=>Classical.byContradiction fun q=> by rw[k7.ot i q]at hu; cases hu
 refine Qe U U (Qf (Qc (Qh [0,1,3,4,5,6,7,8] U (Qd (Qa (Qb U U ?_))))))
 refine Qw OX U (ls_com0 (d:=0) (q:=1) (hS11.sp [0] U) (by omega) (by decide) (by omega) (by omega) ht7 pa7.1 (fun i u hu=> by have e:=un7 i u hu; subst e; rw[ht7]at hu; cases hu; rw[pa7.1];decide) (dr_none fun i t ht=> by have e:=un7 i t ht; subst e; exact(k7.lf.parent ht).2) (L6 pa7.2) (Aa (k7.lf.part ht7)) (by omega)) U ?_
 rintro _ w12 ⟨rfl,hS12⟩
 replace hS12:=hS12.jn U U
 clear hS11
 have k8:=k7.lf.com ht7 (by rw[k7.pr];decide)
 rw[k7.pr]at k8
 obtain⟨A8,hA8⟩: ∃A,A=(⟨P7 A7 t7,Xi A7.tr 1 none⟩:LvA):=⟨_,rfl⟩
 rw[←hA8]at hS12
 have k9:A8.pres kO=KZ p7 (p7.set 6 8) (1#64<<<6):= by rw[hA8]; exact k8
 refine Qe U U (Qf (Qc (Qd (Qa (Qb U U (Qw Gh U (CF (hS12.sp [0] U) (by omega) (by decide) 6 (by omega)) U ?_))))))
 rintro _ w13 ⟨rfl,hS13⟩
 replace hS13:=hS13.jn U U
 clear hS12
 rw[k9]
 refine Qe U U (Qf (Qc (Qh [0,1,3,4,5,6,7,8,9,10] U (Qd ?_))))
 obtain⟨L,V,⟨g1,g2,g3,g4,g5⟩,hz1⟩:=YD (hS13.pick [0,1] rfl)
 refine Qa (Qb U U ?_)
 have hC14:=hz1.sp [0,1] U
 refine Qw OO U (Nw hC14 (by omega) g2 (by decide) [111] [112] 0 1 3 (by omega) (by omega) (by omega)) U ?_
 rintro _ w14 ⟨L2,V2,q,hq1,hq2,hq3,hq4,hS14⟩
 replace hS14:=hS14.jn U U; clear hC14
 clear hz1
 have hne:XH V (L.pres kO)≠zer:= by intro hh; have h8:=k9; rw[←g3]at h8; have h9:XH V (L.pres kO)=KZ p7 (p7.set 6 8) (1#64<<<6):=h8; rw[hh]at h9; exact absurd h9 (by decide)
 obtain⟨⟨y1,y2⟩,⟨y3,y4⟩,y5⟩:=NY (x0:=0) (x3:=3) g2 hq1.inv rfl rfl hq2 hq4 hne
 refine Qf (Qc (Qd (Qa (Qb U U (Qw OP U (Mh (hS14.sp [0,1] U) (hq1.inv.rank.ends (by decide)) [111] 0 (by simp [Vt,Zt])) U ?_)))))
 rintro _ w15 ⟨rfl,hS15⟩
 replace hS15:=hS15.jn U U
 clear hS14
 rw[y1,y2]
 refine Qb U U (Qq U U U (Qq U U U (Qe U U (Qe U U (Qf (Qc (Qh [0,1,3,4,5,6,7,8,9,10,11,12] U (Qd (Qa (Qb U U (Qw OP U (Mh (hS15.sp [0,1] U) (hq1.inv.rank.ends (by decide)) [112] 3 (by simp [Vt,Zt])) U ?_)))))))))))
 rintro _ w16 ⟨rfl,hS16⟩
 replace hS16:=hS16.jn U U
 clear hS15
 rw[y3,y4]
 refine Qb U U (Qq U U U (Qq U U U (Qe U U (Qe U U (Qf (Qc (Qh [0,3,4,5,6,7,8,9,10,11,12,13,14] U (Qd (Qa (Qb U U (Xd U U U (Qb U U (QU 59 U (fun h17=> ?_) (fun h17=> ?_))))))))))))))
 ·refine Ql U U (Xl h17) (Qb U U (Ql U U (Xl h17) (Xd U U U (Q9 U (Xl h17) U U (Qb U U (QU 63 U (fun h18=> ?_) (fun h18=> ?_)))))))
  ·refine Ql U U (Xl h18) (Qb U U (Ql U U (Xl h18) (Xd U U U (Q9 U (Xl h18) U U (Qb U U (QU 67 U (fun h19=> ?_) (fun h19=> ?_)))))))
   ·refine Ql U U (Xl h19) (Qb U U (Ql U U (Xl h19) (Xd U U U (Q9 U (Xl h19) U U (Qb U U (QU 71 U (fun h20=> ?_) (fun h20=> ?_)))))))
    ·refine Ql U U (Xl h20) (Qb U U (Ql U U (Xl h20) (QQ U U (Q9 U (Xl h20) U U (Qb U U (Ze 75 U (fun h21=> ?_) (fun h21=> ?_)))))))
     ·refine Ql U U h21 (Qb U U (Q9 U h21 U U (Qb U U (Ze 78 U (fun h22=> ?_) (fun h22=> ?_)))))
      ·refine Ql U U h22 (Qb U U (Ql U U h22 (Xd U U U (Q9 U h22 U U (Qb U U (QU 82 U (fun h23=> ?_) (fun h23=> ?_)))))))
       ·refine Ql U U (Xl h23) (Qb U U (Ql U U (Xl h23) (Xd U U U (Q9 U (Xl h23) U U (Qb U U (QU 86 U (fun h24=> ?_) (fun h24=> ?_)))))))
        ·refine Ql U U (Xl h24) (Qb U U (Ql U U (Xl h24) (Qb U U (Ql U U (Xl h24) (Xd U U U (Q9 U (Xl h24) U U (Qb U U (QU 91 U (fun h25=> ?_) (fun h25=> ?_)))))))))
         ·refine Ql U U (Xl h25) (Qb U U (Ql U U (Xl h25) (X0 U U U (Q9 U (Xl h25) U U (Qb U U (QU 95 U (fun h26=> ?_) (fun h26=> ?_)))))))
          ·refine Ql U U (Xl h26) (Qb U U (Ql U U (Xl h26) (QQ U U (Q9 U (Xl h26) U U (Qb U U (Ze 99 U (fun h27=> ?_) (fun h27=> ?_)))))))
           ·refine Ql U U h27 (Qb U U (Ql U U h27 (QQ U U (Q9 U h27 U U (Qe U U (Qf (Qc (Qh [0] U (Qu (QR (.inr U) U U ?_))))))))))
            exact⟨_,rfl, by rfl,hS16.pick [2] U⟩
           first | exact absurd (by decide) h27 | exact absurd h27 (by decide) | exact absurd U h27 | exact absurd y5 h27
          first | exact absurd (by decide) h26 | exact absurd h26 (by decide) | exact absurd U h26 | exact absurd y5 h26
         first | exact absurd (by decide) h25 | exact absurd h25 (by decide) | exact absurd U h25 | exact absurd y5 h25
        first | exact absurd (by decide) h24 | exact absurd h24 (by decide) | exact absurd U h24 | exact absurd y5 h24
       first | exact absurd (by decide) h23 | exact absurd h23 (by decide) | exact absurd U h23 | exact absurd y5 h23
      first | exact absurd (by decide) h22 | exact absurd h22 (by decide) | exact absurd U h22 | exact absurd y5 h22
     first | exact absurd (by decide) h21 | exact absurd h21 (by decide) | exact absurd U h21 | exact absurd y5 h21
    first | exact absurd (by decide) h20 | exact absurd h20 (by decide) | exact absurd U h20 | exact absurd y5 h20
   first | exact absurd (by decide) h19 | exact absurd h19 (by decide) | exact absurd U h19 | exact absurd y5 h19
  first | exact absurd (by decide) h18 | exact absurd h18 (by decide) | exact absurd U h18 | exact absurd y5 h18
 first | exact absurd (by decide) h17 | exact absurd h17 (by decide) | exact absurd U h17 | exact absurd y5 h17
end Go.Proofs.YtkcjfoaejijdoaaGreatDoor
