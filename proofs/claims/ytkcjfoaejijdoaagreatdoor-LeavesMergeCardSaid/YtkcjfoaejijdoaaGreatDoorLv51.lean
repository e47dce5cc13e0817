/- leaves: Copy, Drop of nobody; Note, Own -/
import Derived.Test.YtkcjfoaejijdoaaGreatDoorLv33
import Derived.Shelf.Spec.TrailingZeros
set_option linter.unusedSectionVars false
set_option linter.unusedVariables false
set_option maxRecDepth 100000
set_option maxHeartbeats 80000000000
namespace Go.Proofs.YtkcjfoaejijdoaaGreatDoor
open Go.RowKit M Proofs.Tryz
variable [Inhabited SlW]
theorem I1 {w:World} {b n Fr:Nat} {L:LvD} {V:VS} {F:Th} (hS:Sat w [XX b L,XD L.sp n Fr V,F]) (hn:n≤60000000000) (id:Int) (hth:Zk L id=false) (ob to:Bs) (first cnt aa:Int):
    Calls prog 41 #[ptrV b 0,intV id,strV ob,intV first,intV cnt,strV to,intV aa] w (Ret fun v w'=>Sat w' [XX b L,XD L.sp n Fr V,F]):= by
 refine Qm func41 U ntmps41 U ?_
 refine Qd (Qd (Qa (Qb U U (Qb U U (Qv W4 U (Z8 (hS.sp [0] U) id) U ?_)))))
 rintro _ w1 ⟨rfl,j1⟩
 replace j1:=j1.jn U U
 refine Xb U U (Qf (Qc (Qh [6,5,4,3,2,1,0,27] U (QT U (fun h2=> ?_) (fun h2=> ?_)))))
 ·exact Qu (Qp (ZU (.inr U) U (⟨_,U,j1.pick [0,1,2] U⟩)))
 exact absurd hth (by simpa using h2)
theorem Iv {w:World} {b n Fr:Nat} {L:LvD} {V:VS} {F:Th} (hS:Sat w [XX b L,XD L.sp n Fr V,F]) (hn:n≤60000000000) {id:Int} (h0:id≠0) (ht:L.tr id=none) (ob:Bs):
    Calls prog 27 #[ptrV b 0,intV id,strV ob] w (Ret fun v w'=>Sat w' [XX b L,XD L.sp n Fr V,F]):= by
 replace hS:=X1 hS
 refine Qm func27 U ntmps27 U ?_
 refine Qd (Qd (Qa (Qb U U (Xq U U U (Qf (Qc (Qt U (fun h1=> ?_) (fun h1=> ?_))))))))
 ·exact absurd h1 h0
 exact Qs (Qc (Qd (Qa (Qb U U (Qj U U (Qg U Zr U (Qr U Wx (hS.cell 0 U U) U (Qb U U (XV (k:=id) 2 hS keysInt underlying82 U U U JU (u:= .pointer none) (Ur ht) U (Qe U U (Qf (Qc (Qh [2,0,8] U (Qd (Qd (Qa (Qb U U (WG underlying94 U U U (Qf (Qc (Xd U (Qu (Qp (ZU (.inr U) U (⟨_,U,QX (hS.pick [0,1,2,3,4,5,6] U)⟩)))))))))))))))))))))))))
theorem Oj {w:World} {b n Fr:Nat} {L:LvD} {V:VS} {F:Th} (hS:Sat w [XX b L,XD L.sp n Fr V,F]) (hn:n≤60000000000) (ob:Bs) (a:Int) (wr:Bool) (id:Int) (hr: ¬(0≤a∧a<16384)):
    Calls prog 63 #[ptrV b 0,intV id,strV ob,intV a,.bool wr] w (Ret fun v w'=>Sat w' [XX b L,XD L.sp n Fr V,F]):= by
 refine Qm func63 U ntmps63 U ?_
 refine Qd (Qa (Qb U U (Qb U U (Qv YO U (WY (hS.sp [] U) ob a) U ?_))))
 rintro _ w1 ⟨rfl,j1⟩
 replace j1:=j1.jn U U
 rw[UG hr]
 refine Qb U U (Qn U U U (Qn U U U (Qn U U U (Xa j1 Zy U U ?_))))
 intro kb w2 j2
 refine QG j2 U U Xf U (by rfl) (i:=0) U (by decide) ?_
 intro w3 j3; dsimp only[List.set]at j3
 replace j3:=X6 (k:=([],0)) j3
 refine Qe U U (Qe U U (Qf (Qc (Qh [4,1,0,10,11,12] U (Qd (Qd (Qa (Qb U U (Xb U U (Qb U U (Zl 23 U (fun h4=> ?_) (fun h4=> ?_))))))))))))
 ·exact Qi U U h4 U (Qi U U h4 U (QK U h4 U U (Qb U U (Qi U U U U (Qi U U U U (Qi U U U U (Qi U U U U (QK U U U U (Qf (Qc (Qh [4,1,0,10,11,32] U (Xd U (Qu (Qp (ZU (.inr U) U (⟨_,U,j3.pick [1,2,3] U⟩))))))))))))))))
 exact absurd h4 (by decide)
theorem Ok {w:World} {b n Fr:Nat} {L:LvD} {V:VS} {F:Th} (hS:Sat w [XX b L,XD L.sp n Fr V,F]) (hn:n≤60000000000) (ob:Bs) (a:Int) (wr:Bool) (id:Int) (hr:0≤a∧a<16384) (hth:Zk L id=false):
    Calls prog 63 #[ptrV b 0,intV id,strV ob,intV a,.bool wr] w (Ret fun v w'=>Sat w' [XX b L,XD L.sp n Fr V,F]):= by
 refine Qm func63 U ntmps63 U ?_
 refine Qd (Qa (Qb U U (Qb U U (Qv YO U (WY (hS.sp [] U) ob a) U ?_))))
 rintro _ w1 ⟨rfl,j1⟩
 replace j1:=j1.jn U U
 rw[JO hr]
 refine Qb U U (Qn U U U (Qn U U U (Qn U U U (Xa j1 Zy U U ?_))))
 intro kb w2 j2
 refine QG j2 U U Xf U (by rfl) (i:=0) U (by decide) ?_
 intro w3 j3; dsimp only[List.set]at j3
 replace j3:=X6 (k:=(ob,a/ 64)) j3
 refine Qe U U (Qe U U (Qf (Qc (Qh [4,1,0,10,11,12] U (Qd (Qd (Qa (Qb U U (Xb U U (Qb U U (Zl 23 U (fun h4=> ?_) (fun h4=> ?_))))))))))))
 ·exact absurd h4 (by decide)
 refine Qo U U h4 (Qb U U (Qo U U h4 (Xq U U U (QW U h4 U U (Qb U U (Xc 27 U (fun h5=> ?_) (fun h5=> ?_)))))))
 ·exact Qi U U (Xm h5) U (Qi U U (Xm h5) U (Qi U U (Xm h5) U (Qi U U (Xm h5) U (QK U (Xm h5) U U (Qf (Qc (Qh [4,1,0,10,11,32] U (Xd U (Qu (Qp (ZU (.inr U) U (⟨_,U,j3.pick [1,2,3] U⟩))))))))))))
 refine Qo U U (Q7 h5) (Qb U U (Qo U U (Q7 h5) (Qb U U (Qo U U (Q7 h5) (Qv W4 U (Z8 (j3.sp [1] U) id) U ?_)))))
 rintro _ w6 ⟨rfl,j6⟩
 replace j6:=j6.jn U U
 refine Qo U U (Q7 h5) (Xb U U (QW U (Q7 h5) U U (Qf (Qc (Qh [4,1,0,10,11,32] U (QT U (fun h7=> ?_) (fun h7=> ?_)))))))
 ·exact Qu (Qp (ZU (.inr U) U (⟨_,U,j6.pick [0,2,3] U⟩)))
 exact absurd hth (by simpa using h7)
theorem Ol {w:World} {b n Fr:Nat} {L:LvD} {V:VS} {F:Th} (hS:Sat w [XX b L,XD L.sp n Fr V,F]) (hn:n≤60000000000) (ob:Bs) (a:Int) (wr:Bool) (hr:0≤a∧a<16384):
    Calls prog 63 #[ptrV b 0,intV 0,strV ob,intV a,.bool wr] w (Ret fun v w'=>Sat w' [XX b L,XD L.sp n Fr V,F]):= by
 refine Qm func63 U ntmps63 U ?_
 refine Qd (Qa (Qb U U (Qb U U (Qv YO U (WY (hS.sp [] U) ob a) U ?_))))
 rintro _ w1 ⟨rfl,j1⟩
 replace j1:=j1.jn U U
 rw[JO hr]
 refine Qb U U (Qn U U U (Qn U U U (Qn U U U (Xa j1 Zy U U ?_))))
 intro kb w2 j2
 refine QG j2 U U Xf U (by rfl) (i:=0) U (by decide) ?_
 intro w3 j3; dsimp only[List.set]at j3
 replace j3:=X6 (k:=(ob,a/ 64)) j3
 refine Qe U U (Qe U U (Qf (Qc (Qh [4,1,0,10,11,12] U (Qd (Qd (Qa (Qb U U (Xb U U (Qb U U (Zl 23 U (fun h4=> ?_) (fun h4=> ?_))))))))))))
 ·exact absurd h4 (by decide)
 refine Qo U U h4 (Qb U U (Qo U U h4 (Xq U U U (QW U h4 U U (Qb U U (Xc 27 U (fun h5=> ?_) (fun h5=> ?_)))))))
 ·exact Qi U U (Xm h5) U (Qi U U (Xm h5) U (Qi U U (Xm h5) U (Qi U U (Xm h5) U (QK U (Xm h5) U U (Qf (Qc (Qh [4,1,0,10,11,32] U (Xd U (Qu (Qp (ZU (.inr U) U (⟨_,U,j3.pick [1,2,3] U⟩))))))))))))
 exact absurd U h5
theorem Oi {w:World} {m:Nat} {b n Fr:Nat} {L:LvD} {V:VS} {F:Th} (hS:Sat w [XX b L,XD L.sp n Fr V,F]) (hn:n≤60000000000) (ob:Bs) (a:Int) (wr:Bool) (hI:LvI m L V) (hm:m<Zg) {id:Int} {t:TrD} (ht:L.tr id=some t) (hr:0≤a∧a<16384):
    Calls prog 63 #[ptrV b 0,intV id,strV ob,intV a,.bool wr] w (Ret fun v w'=> ∃L' V' y,StepI m L V m 0 1 L' V'∧Q1 L' V'=ZJ (Q1 L V) id (ob,a/ 64) y∧(∃r,y.wr=(Z0 (Q1 L V) id (ob,a/ 64)).wr ||| r)∧Sat w' [XX b L',XD L'.sp (n+2) Fr V',F]):= by
 have h0:id≠0:=hI.rank.none0 ht
 refine Qm func63 U ntmps63 U ?_
 refine Qd (Qa (Qb U U (Qb U U (Qv YO U (WY (hS.sp [] U) ob a) U ?_))))
 rintro _ w1 ⟨rfl,j1⟩
 replace j1:=j1.jn U U
 rw[JO hr]
 refine Qb U U (Qn U U U (Qn U U U (Qn U U U (Xa j1 Zy U U ?_))))
 intro kb w2 j2
 refine QG j2 U U Xf U (by rfl) (i:=0) U (by decide) ?_
 intro w3 j3; dsimp only[List.set]at j3
 replace j3:=X6 (k:=(ob,a/ 64)) j3
 refine Qe U U (Qe U U (Qf (Qc (Qh [4,1,0,10,11,12] U (Qd (Qd (Qa (Qb U U (Xb U U (Qb U U (Zl 23 U (fun h4=> ?_) (fun h4=> ?_))))))))))))
 ·exact absurd h4 (by decide)
 refine Qo U U h4 (Qb U U (Qo U U h4 (Xq U U U (QW U h4 U U (Qb U U (Xc 27 U (fun h5=> ?_) (fun h5=> ?_)))))))
 ·exact absurd h5 h0
 refine Qo U U (Q7 h5) (Qb U U (Qo U U (Q7 h5) (Qb U U (Qo U U (Q7 h5) (Qv W4 U (Z8 (j3.sp [1] U) id) U ?_)))))
 rintro _ w6 ⟨rfl,j6⟩
 replace j6:=j6.jn U U
 refine Qo U U (Q7 h5) (Xb U U (QW U (Q7 h5) U U (Qf (Qc (Qh [4,1,0,10,11,32] U (QT U (fun h7=> ?_) (fun h7=> ?_)))))))
 ·exact absurd h7 (by simp [Zk,ht])
 refine Qs (Qc (Qd (Qa (Qb U U (Qb U U (Xw U X9 Xf (by first | exact j6.blk 1 U) (Xv U) U U ?_))))))
 refine Qv Rd U (HE (j6.sp [0,2] U) (by omega) (hI.rank.ends hm) ht (k:=(ob,a/ 64))) U ?_
 rintro _ w8 ⟨L1,V1,t1,x1,rfl,hT,j8⟩
 replace j8:=j8.jn U U
 have ht1:=hT.tr ht
 have hx1:=hT.lv
 refine Qe U U (Qf (Qc (Qh [4,11,13] U (Qd (Qa (Qb U U (Qf (Qc (QT U (fun h9=> ?_) (fun h9=> ?_))))))))))
 ·have j10:=JQ ht1 hx1 (j8.pick [0,1,2,3] U)
  refine Qa (Qb U U (Qj U U (Qg U Wj U (Qr U J6 (j10.cell 0 U U) U (Qb U U (Su U U U (Qj U U (Qg U Wj U (QV j10 U U Kx U (i:=0) U (Xv U) ?_)))))))))
  intro w11 j11; dsimp only[List.set]at j11
  refine Qf (ZU (.inl U) U ?_)
  have j12:=WJ (L:=_) (y:={x1 with wr:=x1.wr ||| NW a}) ht1 hx1 U (j11.pick [0,1,2,3,4,5,6,7,8,9,10,11,12] U)
  have hi2:=(hT.inv ht hI).2.1
  obtain⟨q1,q2⟩:=BZ hT ht hI (rd:=x1.rd) (wr:=x1.wr ||| NW a) fun j _ h=> by rw[BitVec.getLsbD_or,Bool.or_eq_false_iff]at h; exact h.1
  exact⟨_,rfl,_,_,_,q1,q2,⟨NW a, by rw[←hi2];rfl⟩,j12.pick [0,1,3] U⟩
 have j13:=JQ ht1 hx1 (j8.pick [0,1,2,3] U)
 have j14:=j13.drew
 refine QE [0,1,2,3,4,5,6,7,8,9,10,11,12,13] [13] Wa (by kernel_rfl) ?_
 refine Q9 U U U (Xi U U U (QQ U U U JR (Q4 U U U (Ql U J6 (j14.cell 0 U U)) (Q9 U U U (Q9 U U U (Xi U U U (QQ U U U Wj (Q4 U U U (Ql U J6 (j14.cell 0 U U)) (QZ U U U (fun _=>(Ub U U)) ?_)))))))))
 refine QZ U U U (fun _=>(Kd U U)) ?_
 refine Xi U U U (QQ U U U JR (Xe U U U U U U ?_))
 refine QV j14 U U Kx U (i:=0) U (Xv U) ?_
 intro w15 j15; dsimp only[List.set]at j15
 refine Zu (Xj (by kernel_rfl)) ?_
 refine VC.nil (ZU (.inl U) U ?_)
 have j16:=WJ (L:=_) (y:={x1 with rd:=x1.rd ||| (NW a&&& ~~~x1.wr)}) ht1 hx1 U (j15.pick [0,1,2,3,4,5,6,7,8,9,10,11,12] U)
 have hi2:=(hT.inv ht hI).2.1
 obtain⟨q1,q2⟩:=BZ hT ht hI (rd:=x1.rd ||| (NW a&&& ~~~x1.wr)) (wr:=x1.wr) fun _ _ h=>h
 exact⟨_,rfl,_,_,_,q1,q2,⟨0#64, by rw[←hi2]; exact(BitVec.or_zero).symm⟩,j16.pick [0,1,3] U⟩
theorem SG {w:World} {b n Fr:Nat} {L:LvD} {V:VS} {F:Th} (hS:Sat w [XX b L,XD L.sp n Fr V,F]) (hn:n≤60000000000) (ob:Bs) (page:Int) (id:Int) (hth:Zk L id=false):
    Calls prog 64 #[ptrV b 0,intV id,strV ob,intV page] w (Ret fun v w'=>v=intV 4∧Sat w' [XX b L,XD L.sp n Fr V,F]):= by
 refine Qm func64 U ntmps64 U ?_
 refine Qd (Qa (Qe U U (Qf (Qc (Qd (Qw (Qd (Qa (Qb U U (Qb U U (Qv W4 U (Z8 (hS.sp [0] U) id) U ?_)))))))))))
 rintro _ w1 ⟨rfl,j1⟩
 replace j1:=j1.jn U U
 refine Xb U U (Qe U U (Qf (Qc (QT U (fun h2=> ?_) (fun h2=> ?_)))))
 ·exact Qd (Qa (Qe U U (Qf (Qc (Qu (Qz (Qp (QY (.inr U) U U (⟨_,U,U,j1.pick [0,1,2] U⟩)))))))))
 exact absurd hth (by simpa using h2)
theorem ownR_sp {w:World} {b n Fr:Nat} {L:LvD} {V:VS} {F:Th} (hS:Sat w [XX b L,XD L.sp n Fr V,F]) (hn:n≤60000000000) (ob:Bs) (page:Int) (id:Int) (hth:Zk L id=true) (hr: ¬(0≤page∧page<256)):
    Calls prog 64 #[ptrV b 0,intV id,strV ob,intV page] w (Ret fun v w'=>v=intV 3∧Sat w' [XX b L,XD L.sp n Fr V,F]):= by
 refine Qm func64 U ntmps64 U ?_
 refine Qd (Qa (Qe U U (Qf (Qc (Qd (Qw (Qd (Qa (Qb U U (Qb U U (Qv W4 U (Z8 (hS.sp [0] U) id) U ?_)))))))))))
 rintro _ w1 ⟨rfl,j1⟩
 replace j1:=j1.jn U U
 refine Xb U U (Qe U U (Qf (Qc (QT U (fun h2=> ?_) (fun h2=> ?_)))))
 ·exact absurd hth (by simpa using h2)
 refine Qd (Qa (Qb U U (Xk U U U (Qb U U (Xc 19 U (fun h3=> ?_) (fun h3=> ?_))))))
 ·exact Qi U U (Xm h3) U (Qi U U (Xm h3) U (QK U (Xm h3) U U (Qe U U (Qf (Qc (Qh [3,2,1,0,8,16] U (Xd U (Qd (Qa (Qe U U (Qf (Qc (Qu (Qz (Qp (QY (.inr U) U U (⟨_,U,U,j1.pick [0,1,2] U⟩)))))))))))))))))
 refine Qo U U (Q7 h3) (Qb U U (Qo U U (Q7 h3) (Jf U U U (QW U (Q7 h3) U U (Qe U U (Qf (Qc (Qh [3,2,1,0,8,16] U (Qt U (fun h4=> ?_) (fun h4=> ?_))))))))))
 ·exact Qd (Qa (Qe U U (Qf (Qc (Qu (Qz (Qp (QY (.inr U) U U (⟨_,U,U,j1.pick [0,1,2] U⟩)))))))))
 omega
theorem ownP_sp {w:World} {m:Nat} {b n Fr:Nat} {L:LvD} {V:VS} {F:Th} (hS:Sat w [XX b L,XD L.sp n Fr V,F]) (hn:n≤60000000000) (ob:Bs) (page:Int) (hI:LvI m L V) (hm:m<Zg) (hr:0≤page∧page<256):
    Calls prog 64 #[ptrV b 0,intV 0,strV ob,intV page] w (Ret fun v w'=> ∃L' V' e,v=intV e∧StepI m L V m 1 1 L' V'∧Q1 L' V'=Q1 L V∧Sat w' [XX b L',XD L'.sp (n+4) Fr V',F]):= by
 refine Qm func64 U ntmps64 U ?_
 refine Qd (Qa (Qe U U (Qf (Qc (Qd (Qw (Qd (Qa (Qb U U (Qb U U (Qv W4 U (Z8 (hS.sp [0] U) 0) U ?_)))))))))))
 rintro _ w1 ⟨rfl,j1⟩
 replace j1:=j1.jn U U
 refine Xb U U (Qe U U (Qf (Qc (QT U (fun h2=> ?_) (fun h2=> ?_)))))
 ·exact absurd h2 (by simp [Zk])
 refine Qd (Qa (Qb U U (Xk U U U (Qb U U (Xc 19 U (fun h3=> ?_) (fun h3=> ?_))))))
 ·omega
 refine Qo U U (Q7 h3) (Qb U U (Qo U U (Q7 h3) (Jf U U U (QW U (Q7 h3) U U (Qe U U (Qf (Qc (Qh [3,2,1,0,8,16] U (Qt U (fun h4=> ?_) (fun h4=> ?_))))))))))
 ·omega
 refine Qs (Qk (Qc (Qd (Qa (Qb U U (Qb U U (Qb U U (Qb U U (Zo U Jw Hn Zy U U (Qv Cb U (SH (j1.sp [0,1] U) (by omega) (hI.rank.ends hm) (k:=(ob,page)) (hI.alive (.inl (ob,page)))) U ?_))))))))))
 rintro _ w5 ⟨L2,V2,s,e,rfl,hO,j5⟩
 replace j5:=j5.jn U U
 exact Qb U U (Qn U U U (Qn U U U (Qe U U (Qe U U (Qf (Qc (Qh [8,10] U (Qd (Qa (Qb U U (Qe U U (Qf (Qc (Qu (QY (.inr U) U U (⟨_,U,L2,V2,e,U,hO.step hI,(hO.inv hI).1.2.1,j5.pick [0,1,2] U⟩))))))))))))))))
theorem Oh {w:World} {m:Nat} {b n Fr:Nat} {L:LvD} {V:VS} {F:Th} (hS:Sat w [XX b L,XD L.sp n Fr V,F]) (hn:n≤60000000000) (ob:Bs) (page:Int) (hI:LvI m L V) (hm:m<Zg) {id:Int} {t:TrD} (ht:L.tr id=some t) (hr:0≤page∧page<256):
    Calls prog 64 #[ptrV b 0,intV id,strV ob,intV page] w (Ret fun v w'=> ∃L' V' e,v=intV e∧StepI m L V m 1 1 L' V'∧Q1 L' V'=ZJ (Q1 L V) id (ob,page) (Z0 (Q1 L V) id (ob,page))∧Sat w' [XX b L',XD L'.sp (n+4) Fr V',F]):= by
 have h0:id≠0:=hI.rank.none0 ht
 refine Qm func64 U ntmps64 U ?_
 refine Qd (Qa (Qe U U (Qf (Qc (Qd (Qw (Qd (Qa (Qb U U (Qb U U (Qv W4 U (Z8 (hS.sp [0] U) id) U ?_)))))))))))
 rintro _ w1 ⟨rfl,j1⟩
 replace j1:=j1.jn U U
 refine Xb U U (Qe U U (Qf (Qc (QT U (fun h2=> ?_) (fun h2=> ?_)))))
 ·exact absurd h2 (by simp [Zk,ht])
 refine Qd (Qa (Qb U U (Xk U U U (Qb U U (Xc 19 U (fun h3=> ?_) (fun h3=> ?_))))))
 ·omega
 refine Qo U U (Q7 h3) (Qb U U (Qo U U (Q7 h3) (Jf U U U (QW U (Q7 h3) U U (Qe U U (Qf (Qc (Qh [3,2,1,0,8,16] U (Qt U (fun h4=> ?_) (fun h4=> ?_))))))))))
 ·omega
 refine Qs (Qk (Qc (Qd (Qa (Qb U U (Qb U U (Qb U U (Qb U U (Zo U Jw Hn Zy U U (Qv Cb U (SF (j1.sp [0,1] U) (by omega) (hI.rank.ends hm) ht (k:=(ob,page)) h0 (hI.aliveS id (ob,page))) U ?_))))))))))
 rintro _ w5 ⟨L1,V1,t1,x1,L2,V2,s,e,rfl,hT,hO,j5⟩
 replace j5:=j5.jn U U
 have hW:=Dj hT ht hI hO
 exact Qb U U (Qn U U U (Qn U U U (Qe U U (Qe U U (Qf (Qc (Qh [8,10] U (Qd (Qa (Qb U U (Qe U U (Qf (Qc (Qu (QY (.inr U) U U (⟨_,U,L2,V2,e,U,hW.1,hW.2.2.1,j5.pick [0,1,2] U⟩))))))))))))))))
theorem AR {p:KD→Int} {k:KD} {v:Value} (h:XN p k=some v):p k≠0:= by
  intro e
  unfold XN at h
  simp [e]at h
theorem AS {p:KD→Int} {k:KD} (h:p k≠0): ∃v,XN p k=some v:= by
  unfold XN
  exact⟨_, by simp [h];rfl⟩
theorem JL {κ:Type} {f:κ→Bool} {k j:κ}:WC f k j=true↔f j=true∨j=k:= by
  unfold WC
  by_cases e:j=k<;> simp [e]
theorem boG_in {κ:Type} {f:κ→Bool} {k:κ} (h:f k=true):ZF f k=some (.bool true):= by unfold ZF; rw[if_pos h]
theorem NU {κ:Type} {f:κ→Bool} {k:κ} {v:Value} (h:ZF f k=some v):f k=true:= by
  unfold ZF at h
  split at h
  · assumption
  · cases h
def Pc (L:LvD) (k:KD):Prop:= ∃j,Cv L j k
theorem obj_up {L:LvD} {id i:Int} {m2:Nat} {t:TrD} {S S2:KD→Bool} (hse: ∀k,S k=false→Xo L id k=0∨Xo L id k=J1 L (m2+1+1) i k) (h0:i≠0) (ht:L.tr i=some t) (hsub: ∀k,S k=true→S2 k=true) (hall: ∀k,t.lv k≠none→S2 k=true):
    ∀k,S2 k=false→Xo L id k=0∨Xo L id k=J1 L (m2+1) t.parent k:= fun k hk=> by
  have h1:S k=false:= by
    cases q:S k with
    | false=>rfl
    | true=> rw[hsub k q]at hk; cases hk
  have h2:t.lv k=none:=Classical.byContradiction fun q=> by rw[hall k q]at hk; cases hk
  rcases hse k h1 with e | e
  · exact .inl e
  · cases hd:t.dr k.1 with
    | true=>left; rw[e,G3 h0 ht h2 hd]
    | false=>right; rw[e,Tz h0 ht h2 hd]
theorem AP {T:Int→Option TrD} {m:Nat} (h:RankI T m) {i:Int} {t:TrD} (ht:T i=some t):t.parent=0∨ ∃u,T t.parent=some u:= by
  obtain⟨_,r,_,h2⟩:=h
  rcases h2 i t ht with e | ⟨e,_⟩
  · exact .inl e
  · right
    cases q:T t.parent with
    | none=> exact absurd q e
    | some u=> exact⟨u,rfl⟩
def NmI (A:LvA) (id:Int) (ns:List Bs):Prop:=ns.Nodup∧ ∀ob,ob∈ns↔ ∃pg,Wq A id (ob,pg)≠zer
theorem Om {L:LvD} {c:Nat} (hc:SzLe L c) {Nm:Bs→Bool} (hn: ∀ob,Nm ob=true→ ∃k:KD,k.1=ob∧Pc L k) {ks:List Bs} (h:Came (ZF Nm) ks):ks.length≤c:= by
  obtain⟨l,a,b⟩:=hc.keys
  refine Nat.le_trans (Zp h.nodup (b:=l.map fun e=>e.2.1) fun ob hob=> ?_) (by simpa using a)
  have h1:=h.has ob hob
  have h2:Nm ob=true:= by
    cases q:Nm ob with
    | true=>rfl
    | false=> exact absurd (by unfold ZF; rw[q];rfl) h1
  obtain⟨k,rfl,j,hk⟩:=hn ob h2
  exact List.mem_map.2 ⟨(j,k),b j k hk,U⟩
theorem nm_fin {m:Nat} {L:LvD} {V:VS} {id:Int} {S:KD→Bool} {Nm:Bs→Bool} {ns:List Bs} (hI:LvI m L V) (hz: ∀k,S k=false→Xo L id k=0) (h1: ∀k,S k=true→XH V (Xo L id k)≠zer→Nm k.1=true) (h2: ∀ob,Nm ob=true→ ∃k:KD,k.1=ob∧S k=true∧XH V (Xo L id k)≠zer) (hns:AllC (ZF Nm) ns):NmI (Q1 L V) id ns:= by
  refine⟨hns.nodup, fun ob=> ?_⟩
  have h3:ob∈ns↔Nm ob=true:= by rw[←allS hns,(HH ns).mem_iff]
  rw[h3]
  constructor
  · intro h
    obtain⟨k,rfl,_,q⟩:=h2 ob h
    exact⟨k.2, by rw[←hI.sees]; exact q⟩
  · rintro⟨pg,q⟩
    rw[←hI.sees]at q
    refine h1 (ob,pg) ?_ q
    cases r:S (ob,pg)with
    | true=>rfl
    | false=> exact absurd (by rw[hz _ r]; exact Wk hI.zero) q
theorem P8 {w:World} {m c:Nat} {b n Fr:Nat} {L:LvD} {V:VS} {F:Th} (hS:Sat w [XX b L,XD L.sp n Fr V,F]) (hn:n≤60000000000) (hI:LvI m L V) (hm:m<Zg) (hc:SzLe L c) (hcm:c≤90000000000) (id:Int) (hth:Zk L id=true) (hid:id=0∨ ∃u,L.tr id=some u):
    Calls prog 32 #[ptrV b 0,intV id] w (Ret fun v w'=> ∃ns,NmI (Q1 L V) id ns∧ns.length≤c∧Sat w' [rowT stC v (ZK ns),XX b L,XD L.sp n Fr V,F]):= by
 refine Qm func32 U ntmps32 U ?_
 refine Qd (Qa (Qe U U (Qf (Qc (Qd (Qd (Qa (Qb U U (Qb U U (Qv W4 U (Z8 (hS.sp [0] U) id) U ?_))))))))))
 rintro _ w1 ⟨rfl,j1⟩
 replace j1:=j1.jn U U
 refine Xb U U (Qf (Qc (QT U (fun h2=> ?_) (fun h2=> ?_))))
 ·exact absurd h2 (by rw[hth];decide)
 refine Qs (Qc (Qd (Qa (Zi Xr j1 U ?_))))
 intro sb w3 j3
 rw[←Gd]at j3
 refine Qe U U (Qf (Qc (Qd (Qd ?_))))
 have j4:=X1 (j3.pick [1,0,2,3] U)
 refine Qa (Qb U U (Qj U U (Qg U Jm U (Qr U Hf (j4.cell 0 U U) U (ZN 1 j4 underlying81 U U U ?_)))))
 intro RR left0 wR5 hSR5; dsimp only[List.set]at hSR5
 refine Qf (Qc (Qh [1,0,4,5,21] U (Qw ?_)))
 refine Xg (fun K0 E0 W0=> ∃(dn:KD→Prop) (cur:Option KD) (left:Nat) (S:KD→Bool),K0=left∧E0=[(0,ptrV b 0),(1,intV id),(5,.map (some sb)),(21,ptrV RR 0)]∧Sat W0 [Q8 b [ptrV L.sp 0,.map (some L.mp),.map (some L.mt),intV L.cur,.map (some L.ms)],ZS Xr L.mp RR (XN L.pres) dn cur left,Q5 QN L.mt (X0 TrD.ad L.tr),XW YW L.tr,Q5 QN L.ms (ZF L.sh),Q5 Xr sb (ZF S),XD L.sp n Fr V,F]∧(∀k,dn k→S k=true)∧(∀k,S k=true→Pc L k)) (L0:=[(0,_),(1,_),(5,_),(21,_)]) (left0) (HR U U U U) ⟨_,_,_, fun _=>false,rfl,rfl,hSR5.pick [0,1,2,3,4,5,6,7] U, fun _ h=>h.elim, fun _ h=> by cases h⟩ ?_
 rintro _ _ w6 ⟨dn,cur,left,S,rfl,rfl,j6,hd,hs⟩
 refine Qd (Qa (Wp 1 j6 keysKey.inj U U U (fun hdone=> ?_) (fun k v left2 wN7 hleft hgk hnd hSN7=> ?_)))
 ·refine Qn U U U (Qf (Qc (Qd (QR U (QU (Qq (Qq (Qx (Qc (Qd (Qd (Qa (Qb U U (Qe U U (Qf (Qc (Qw ?_)))))))))))))))))
  have hz0:=ZA (j6.pick [1,0,2,3,4,5,6,7] U)
  have hp: ∀k,L.pres k≠0→S k=true:= fun k hk=> by obtain⟨v,hv⟩:=AS hk; exact hd k (hdone k v hv)
  have j8:=QX (L:=L) (hz0.pick [1,0,2,3,4,5,6,7] U)
  refine Xg (fun K0 E0 W0=> ∃(m1:Nat) (i:Int) (S:KD→Bool),K0=m1+1∧E0=[(0,ptrV b 0),(1,intV id),(5,.map (some sb)),(7,intV i)]∧Sat W0 [XX b L,Q5 Xr sb (ZF S),XD L.sp n Fr V,F]∧(∀k,L.pres k≠0→S k=true)∧(∀k,S k=true→Pc L k)∧(∀k,S k=false→Xo L id k=0∨Xo L id k=J1 L (m1+1) i k)∧(YE L.tr m1 i)∧(m1≤Zg)∧(i=0∨ ∃u,L.tr i=some u)) (L0:=[(0,_),(1,_),(5,_),(7,_)]) (Zg+1) (HR U U U U) ⟨Zg,id,S,rfl,rfl,j8.pick [0,1,2,3] U,hp,hs, fun _ _=> .inr U,hI.rank.ends hm id,Nat.le_refl _,hid⟩ ?_
  rintro _ _ w9 ⟨m1,i,S,rfl,rfl,j9,hp,hs,hse,hen,hm1,hti⟩
  refine Qd (Qd (Qa (Qb U U (XC U U U (Qf (Qc (Qt U (fun h10=> ?_) (fun h10=> ?_))))))))
  ·have hid0:i≠0:=h10
   obtain⟨t,ht⟩:=hti.resolve_left hid0
   refine Qs (Qc (Qd (Qw (Qd ?_))))
   have j11:=X1 (j9.pick [0,1,2,3] U)
   have j12:=Z3 (j11.pick [3,0,1,2,4,5,6,7] U) ht
   refine Qa (Qb U U (Qj U U (Qg U Zr U (Qr U Wx (j12.cell 5 U U) U (Qb U U (XV (k:=i) 7 j12 keysInt underlying82 U U U JU (u:=(ptrV t.ad 0)) (XY ht) U (Qj U U (Qg U ZE U (Qr U WR (j12.cell 0 U U) U (ZN 1 j12 underlying90 U U U ?_))))))))))
   intro RR left0 wR13 hSR13; dsimp only[List.set]at hSR13
   refine Qf (Qc (Qh [7,5,1,0,49] U (Qw (Xg (fun K0 E0 W0=> ∃(dn:KD→Prop) (cur:Option KD) (left:Nat) (S2:KD→Bool),K0=left∧E0=[(0,ptrV b 0),(1,intV id),(5,.map (some sb)),(7,intV i),(49,ptrV RR 0)]∧Sat W0 [Q8 t.ad [intV t.parent,.map (some t.ml),.map (some t.md)],ZS Xr t.ml RR (X0 LfD.ad t.lv) dn cur left,XW UW t.lv,Q5 W8 t.md (ZF t.dr),XW YW (Xu L.tr i none),Q8 b [ptrV L.sp 0,.map (some L.mp),.map (some L.mt),intV L.cur,.map (some L.ms)],Q5 Xr L.mp (XN L.pres),Q5 QN L.mt (X0 TrD.ad L.tr),Q5 QN L.ms (ZF L.sh),Q5 Xr sb (ZF S2),XD L.sp n Fr V,F]∧(∀k,dn k→S2 k=true)∧(∀k,S2 k=true→Pc L k)∧(∀k,S k=true→S2 k=true)) (L0:=[(0,_),(1,_),(5,_),(7,_),(49,_)]) (left0) (Hi U U U U U) ⟨_,_,_,S,rfl,rfl,hSR13.pick [0,1,2,3,4,5,6,7,8,9,10,11] U, fun _ h=>h.elim,hs, fun _ h=>h⟩ ?_))))
   rintro _ _ w14 ⟨dn,cur,left,S2,rfl,rfl,j14,hd2,hs2,hsub⟩
   refine Qd (Qa (Wp 1 j14 keysKey.inj U U U (fun hdone=> ?_) (fun k v left2 wN15 hleft hgk hnd hSN15=> ?_)))
   ·refine Qn U U U (Qf (Qc (Qd (QR U (QU (Qq (Qq (Qx (Qk (Qc ?_))))))))))
    have hall: ∀k,t.lv k≠none→S2 k=true:= fun k hk=> by obtain⟨x,hx⟩:=Option.ne_none_iff_exists'.1 hk; exact hd2 k (hdone k _ (show X0 LfD.ad t.lv k=some (ptrV x.ad 0) by unfold X0; rw[hx];rfl))
    have hz1:=ZA (j14.pick [1,0,2,3,4,5,6,7,8,9,10,11] U)
    refine Qa (Qb U U (Qj U U (Qg U Zr U (Qr U Wx (hz1.cell 5 U U) U (Qb U U (XV (k:=i) 7 hz1 keysInt underlying82 U U U JU (u:=(ptrV t.ad 0)) (XY ht) U (Qj U U (Qg U Jl U (Qr U QL (hz1.cell 1 U U) U (Qe U U (Qf ?_)))))))))))
    have j16:=Zw ht (hz1.pick [1,0,2,3,4,5,6,7,8,9,10,11] U)
    have j17:=QX (L:=L) (j16.pick [1,2,3,0,4,5,6,7] U)
    obtain⟨m2,hm2,hen2⟩:=TM hen hid0 ht
    subst hm2
    exact Q3 (L1:=[(0,_),(1,_),(5,_),(7,intV t.parent)]) (HR U U U U) (k1:=m2+1) (by omega) ⟨m2,t.parent,S2,rfl,rfl,j17.pick [0,1,2,3] U, fun k hk=>hsub k (hp k hk),hs2,obj_up hse hid0 ht hsub hall,hen2, by omega,AP hI.rank ht⟩
   dsimp only[List.set]at hSN15
   obtain⟨x,hx,rfl⟩:=YR hgk
   refine Qn U U U (Qf (Qc (Qd (Xd U (Qs (Qc (Qw (Qd (Qa (ZP 1 hSN15 U hgk U U (Qn U U U (Xa hSN15 Zy U U ?_))))))))))))
   intro kb wk18 hk18
   clear hSN15
   refine QG hk18 U U Xf U (by rfl) (i:=0) U (by decide) ?_
   intro wk19 hk19; dsimp only[List.set]at hk19
   clear hk18
   replace hk19:=X6 (k:=k) hk19
   refine Qf (Qc (Qa (Qb U U (Xw U X9 Xf (hk19.blk 0 U) (Xv U) U U (Xp (k:=k) (v:= .bool true) 10 hk19 keysKey underlying148 U U U U ?_)))))
   intro w20 j20; dsimp only[List.set]at j20; rw[YT]at j20
   clear hk19
   refine Qf (Qk ?_)
   exact Q3 (L1:=[(0,_),(1,_),(5,_),(7,_),(49,_)]) (Hi U U U U U) (k1:=left2) (by omega) ⟨_,_,_,_,rfl,rfl,j20.pick [1,2,3,4,5,6,7,8,9,10,11,12] U, fun j hj=>JL.2 (hj.imp (hd2 j) (fun e=>e)), fun j hj=>(JL.1 hj).elim (hs2 j) (fun e=> by subst e; exact⟨i,.inr ⟨t,x,ht,hx⟩⟩), fun j hj=>JL.2 (.inl (hsub j hj))⟩
  have hid0:i=0:=Decidable.not_not.1 h10
  refine QU (Qq (Qq (Qx (Qc (Qd ?_)))))
  have hz: ∀k,S k=false→Xo L id k=0:= fun k hk=>(hse k hk).elim (fun e=>e) fun e=> by rw[e,hid0,Yo U]; exact Classical.byContradiction fun q=> by rw[hp k q]at hk; cases hk
  refine Qa (Zi W8 j9 U ?_)
  intro nb w21 j21
  rw[←Gd]at j21
  refine Qe U U (Qf (Qc (Qd (Qd (Qa (Qb U U (ZN 2 j21 underlying148 U U U ?_)))))))
  intro RR left0 wR22 hSR22; dsimp only[List.set]at hSR22
  refine Qf (Qc (Qw ?_))
  refine Xg (fun K0 E0 W0=> ∃(dn:KD→Prop) (cur:Option KD) (left:Nat) (Nm:Bs→Bool),K0=left∧E0=[(0,ptrV b 0),(1,intV id),(9,.map (some nb)),(58,ptrV RR 0)]∧Sat W0 [XX b L,ZS Xr sb RR (ZF S) dn cur left,Q5 W8 nb (ZF Nm),XD L.sp n Fr V,F]∧(∀k,dn k→XH V (Xo L id k)≠zer→Nm k.1=true)∧(∀ob,Nm ob=true→ ∃k:KD,k.1=ob∧S k=true∧XH V (Xo L id k)≠zer)) (L0:=[(0,_),(1,_),(9,_),(58,_)]) (left0) (HR U U U U) ⟨_,_,_, fun _=>false,rfl,rfl,hSR22.pick [1,2,0,3,4] U, fun _ h=>h.elim, fun _ h=> by cases h⟩ ?_
  rintro _ _ w23 ⟨dn,cur,left,Nm,rfl,rfl,j23,hn1,hn2⟩
  refine Qd (Qa (Wp 1 j23 keysKey.inj U U U (fun hdone=> ?_) (fun k v left2 wN24 hleft hgk hnd hSN24=> ?_)))
  ·refine Qn U U U (Qf (Qc (Qd (QR U (QU (Qq (Qq (Qx (Qc (Qd (Qa (Qb U U (Qv Sj U (kd_sp (j23.sp [] U) U) U ?_)))))))))))))
   rintro _ w25 ⟨ck,rfl,j25⟩
   replace j25:=j25.jn U U
   have hnmc: ∀ob,Nm ob=true→ ∃k:KD,k.1=ob∧Pc L k:= fun ob hob=> by obtain⟨k,a,b,_⟩:=hn2 ob hob; exact⟨k,a,hs k b⟩
   have hK:=Sat.fold (As:=[Q8 ck [.map (some nb)],Q5 W8 nb (ZF Nm)]) (j25.pick [0,3,1,2,4,5] U)
   have hC26:=hK.sp [0] U
   refine Qv II U (Df hC26 F9 (itS ck nb (ZF Nm)) (fun ks h=> by have :=Om hc hnmc h;omega)) U ?_
   rintro _ w26 ⟨ns,hns,j26⟩
   replace j26:=j26.jn U U; clear hC26
   clear hK
   exact Qe U U (Qf (Qc (Qu (QY (.inr U) U U (⟨_,rfl,ns,nm_fin hI hz (fun k hk hq=>hn1 k (hdone k _ (boG_in hk)) hq) hn2 hns,Om hc hnmc (Came.of_all hns),j26.pick [0,2,4,5] U⟩)))))
  dsimp only[List.set]at hSN24
  refine Qn U U U (Qf (Qc (Qd (Xd U (Qs (Qc (Qw (Qd (Qa (ZP 1 hSN24 U hgk U U (Qn U U U (Xa hSN24 Zy U U ?_))))))))))))
  intro kb wk27 hk27
  clear hSN24
  refine QG hk27 U U Xf U (by rfl) (i:=0) U (by decide) ?_
  intro wk28 hk28; dsimp only[List.set]at hk28
  clear hk27
  replace hk28:=X6 (k:=k) hk28
  refine Qf (Qc (Qd (Qa (Qb U U (Qb U U (Xw U X9 Xf (by first | exact hk28.blk 0 U) (Xv U) U U ?_))))))
  have hC29:=hk28.sp [1] U
  refine Qv YN U (Yy hC29 (hI.rank.ends hm) id k) U ?_
  rintro _ w29 ⟨rfl,j29⟩
  replace j29:=j29.jn U U; clear hC29
  clear hk28
  refine Qe U U (Qf (Qc (Qh [58,9,1,0,10,11] U (Qd ?_))))
  have j30:=j29.drew
  refine Va Wa (U2 8 9 U ?_ ?_)
  ·refine HQ (sp:=[8,9]) [0,1,2,3,4,5,6,7,8,9,10,11,12] (by kernel_rfl) ?_
   refine Q9 U U U (QZ U U U (fun _=>(Vx U U)) ?_)
   refine Q9 U U U (Wy 69 U (fun h31=> ?_) (fun h31=> ?_))
   ·refine QZ U U (Q0 U U (Xm h31)) (fun _=>(Ev.gd (Xl U))) ?_
    refine QZ U U (Q0 U U (Xm h31)) (fun _=>(Ev.gd (ZQ U))) ?_
    refine QZ U U (Q0 U U (Xm h31)) (fun _=>(Ev.gd (ZB U XJ))) ?_
    refine Q4 U U (Q0 U U (Xm h31)) (Ev.gd (Ql U Xy (Jk j30 0 U))) (QZ U U (Q0 U U (Xm h31)) (fun _=>(Ev.gd (Xl U))) ?_)
    refine Xe U U (Q0 U U (Xm h31)) U U U ?_
    refine Qv W5 U (WX (j30.sp [4] U) (Xo L id k)) U ?_
    rintro _ w32 ⟨rfl,j32⟩
    replace j32:=j32.jn U U
    refine Xz (Xj (by kernel_rfl)) ?_
    refine Xe U U (Q0 U U (Xm h31)) U U U ?_
    refine VD j32 64 U U U underlying143 Nl U (by omega) (by omega) U ?_
    intro bz w33 j33; rw[KB]at j33
    refine Xz (Xj (by kernel_rfl)) ?_
    refine Q4 U U (Q0 U U (Xm h31)) (Ev.gd (Kb 0 j33 zer U U U underlying143 underlying5 underlying9 U U)) (QZ U U (Q0 U U (Xm h31)) (fun _=>(Ev.gd (RQ U U))) ?_)
    refine QZ U U U (fun _=>(JE U (Xm h31) U)) ?_
    refine VC.nil (Qc (Qh [58,9,1,0,10,79] U (Qt U (fun h34=> ?_) (fun h34=> ?_))))
    ·have hpz:XH V (Xo L id k)≠zer:=h34
     refine Qa (Qb U U (Qg U JT U (Qr U W9 (j33.cell 3 U U) U (Xp (k:=k.1) (v:= .bool true) 5 j33 keysStr underlying91 U U U U ?_))))
     intro w35 j35; dsimp only[List.set]at j35; rw[YT]at j35
     exact Qf (Qk (Q3 (L1:=[(0,_),(1,_),(9,_),(58,_)]) (HR U U U U) (k1:=left2) (by omega) ⟨_,_,_,_,rfl,rfl,j35.pick [2,4,5,1,6] U, fun j hj hq=>JL.2 (hj.elim (fun h=> .inl (hn1 j h hq)) (fun e=> .inr (by rw[e]))), fun ob hob=>(JL.1 hob).elim (hn2 ob) (fun e=>⟨k,e.symm,NU hgk,hpz⟩)⟩))
    have hpz:XH V (Xo L id k)=zer:=Decidable.not_not.1 h34
    refine Qs (Qk ?_)
    exact Q3 (L1:=[(0,_),(1,_),(9,_),(58,_)]) (HR U U U U) (k1:=left2) (by omega) ⟨_,_,_,_,rfl,rfl,j33.pick [2,4,5,1,6] U, fun j hj hq=>hj.elim (fun h=>hn1 j h hq) (fun e=> by subst e; exact absurd hpz hq),hn2⟩
   have hpz:XH V (Xo L id k)=zer:= by rw[Decidable.not_not.1 h31]; exact Wk hI.zero
   refine QC U U (QJ U U (Q7 h31)) (QC U U (QJ U U (Q7 h31)) (QC U U (QJ U U (Q7 h31)) (QC U U (QJ U U (Q7 h31)) (QC U U (QJ U U (Q7 h31)) (VC.spineNot U U (QJ U U (Q7 h31)) (VC.spineNot U U (QJ U U (Q7 h31)) (QC U U (QJ U U (Q7 h31)) (QC U U (QJ U U (Q7 h31)) (QZ U U U (fun _=>(Wm U (Q7 h31) U)) ?_)))))))))
   refine VC.nil (Qc (Qh [58,9,1,0,10,79] U (QR U (Qs (Qk ?_)))))
   exact Q3 (L1:=[(0,_),(1,_),(9,_),(58,_)]) (HR U U U U) (k1:=left2) (by omega) ⟨_,_,_,_,rfl,rfl,j30.pick [0,2,3,4,5] U, fun j hj hq=>hj.elim (fun h=>hn1 j h hq) (fun e=> by subst e; exact absurd hpz hq),hn2⟩
  refine HQ (sp:=[8,9]) [0,1,2,3,4,5,6,7,9,10,8,11,12] (by kernel_rfl) ?_
  refine Q9 U U U (QZ U U U (fun _=>(Vx U U)) ?_)
  refine Q9 U U U (Wy 69 U (fun h36=> ?_) (fun h36=> ?_))
  ·refine QZ U U (Q0 U U (Xm h36)) (fun _=>(Ev.gd (Xl U))) ?_
   refine QZ U U (Q0 U U (Xm h36)) (fun _=>(Ev.gd (ZQ U))) ?_
   refine QZ U U (Q0 U U (Xm h36)) (fun _=>(Ev.gd (ZB U XJ))) ?_
   refine Q4 U U (Q0 U U (Xm h36)) (Ev.gd (Ql U Xy (Jk j30 0 U))) (QZ U U (Q0 U U (Xm h36)) (fun _=>(Ev.gd (Xl U))) ?_)
   refine Xe U U (Q0 U U (Xm h36)) U U U ?_
   refine VD j30 64 U U U underlying143 Nl U (by omega) (by omega) U ?_
   intro bz w37 j37; rw[KB]at j37
   refine Xz (.cons (.inl ⟨(Q0 U U (Xm h36)),(Ev.gd (Ql U Xy (Jk j37 1 U)))⟩) .nil) (Q4 U U (Q0 U U (Xm h36)) (Ev.gd (Kb 0 j37 zer U U U underlying143 underlying5 underlying9 U U)) (Xe U U (Q0 U U (Xm h36)) U U U ?_))
   refine Qv W5 U (WX (j37.sp [5] U) (Xo L id k)) U ?_
   rintro _ w38 ⟨rfl,j38⟩
   replace j38:=j38.jn U U
   refine Xz (.cons (.inl ⟨(Q0 U U (Xm h36)),(Ev.gd (Kb 1 j38 zer U U U underlying143 underlying5 underlying9 U U))⟩) (Xj (by kernel_rfl))) ?_
   refine QZ U U (Q0 U U (Xm h36)) (fun _=>(Ev.gd (RQ U U))) ?_
   refine QZ U U U (fun _=>(JE U (Xm h36) U)) ?_
   refine VC.nil (Qc (Qh [58,9,1,0,10,79] U (Qt U (fun h39=> ?_) (fun h39=> ?_))))
   ·have hpz:XH V (Xo L id k)≠zer:=h39
    refine Qa (Qb U U (Qg U JT U (Qr U W9 (j38.cell 3 U U) U (Xp (k:=k.1) (v:= .bool true) 5 j38 keysStr underlying91 U U U U ?_))))
    intro w40 j40; dsimp only[List.set]at j40; rw[YT]at j40
    exact Qf (Qk (Q3 (L1:=[(0,_),(1,_),(9,_),(58,_)]) (HR U U U U) (k1:=left2) (by omega) ⟨_,_,_,_,rfl,rfl,j40.pick [2,4,5,0,6] U, fun j hj hq=>JL.2 (hj.elim (fun h=> .inl (hn1 j h hq)) (fun e=> .inr (by rw[e]))), fun ob hob=>(JL.1 hob).elim (hn2 ob) (fun e=>⟨k,e.symm,NU hgk,hpz⟩)⟩))
   have hpz:XH V (Xo L id k)=zer:=Decidable.not_not.1 h39
   refine Qs (Qk ?_)
   exact Q3 (L1:=[(0,_),(1,_),(9,_),(58,_)]) (HR U U U U) (k1:=left2) (by omega) ⟨_,_,_,_,rfl,rfl,j38.pick [2,4,5,0,6] U, fun j hj hq=>hj.elim (fun h=>hn1 j h hq) (fun e=> by subst e; exact absurd hpz hq),hn2⟩
  have hpz:XH V (Xo L id k)=zer:= by rw[Decidable.not_not.1 h36]; exact Wk hI.zero
  refine QC U U (QJ U U (Q7 h36)) (QC U U (QJ U U (Q7 h36)) (QC U U (QJ U U (Q7 h36)) (QC U U (QJ U U (Q7 h36)) (QC U U (QJ U U (Q7 h36)) (VC.spineNot U U (QJ U U (Q7 h36)) (QC U U (QJ U U (Q7 h36)) (VC.spineNot U U (QJ U U (Q7 h36)) (QC U U (QJ U U (Q7 h36)) (QZ U U U (fun _=>(Wm U (Q7 h36) U)) ?_)))))))))
  refine VC.nil (Qc (Qh [58,9,1,0,10,79] U (QR U (Qs (Qk ?_)))))
  exact Q3 (L1:=[(0,_),(1,_),(9,_),(58,_)]) (HR U U U U) (k1:=left2) (by omega) ⟨_,_,_,_,rfl,rfl,j30.pick [0,2,3,4,5] U, fun j hj hq=>hj.elim (fun h=>hn1 j h hq) (fun e=> by subst e; exact absurd hpz hq),hn2⟩
 dsimp only[List.set]at hSN7
 refine Qn U U U (Qf (Qc (Qd (Xd U (Qs (Qc (Qw (Qd (Qa (ZP 1 hSN7 U hgk U U (Qn U U U (Xa hSN7 Zy U U ?_))))))))))))
 intro kb wk41 hk41
 clear hSN7
 refine QG hk41 U U Xf U (by rfl) (i:=0) U (by decide) ?_
 intro wk42 hk42; dsimp only[List.set]at hk42
 clear hk41
 replace hk42:=X6 (k:=k) hk42
 refine Qf (Qc (Qa (Qb U U (Xw U X9 Xf (hk42.blk 0 U) (Xv U) U U (Xp (k:=k) (v:= .bool true) 6 hk42 keysKey underlying148 U U U U ?_)))))
 intro w43 j43; dsimp only[List.set]at j43; rw[YT]at j43
 clear hk42
 refine Qf (Qk ?_)
 exact Q3 (L1:=[(0,_),(1,_),(5,_),(21,_)]) (HR U U U U) (k1:=left2) (by omega) ⟨_,_,_,_,rfl,rfl,j43.pick [1,2,3,4,5,6,7,8] U, fun j hj=>JL.2 (hj.imp (hd j) (fun e=>e)), fun j hj=>(JL.1 hj).elim (hs j) (fun e=> by subst e; exact⟨0,.inl ⟨rfl,AR hgk⟩⟩)⟩
