/- leaves: SetByte -/
import Derived.Test.YtkcjfoaejijdoaaGreatDoorLv5
set_option linter.unusedSectionVars false
set_option linter.unusedVariables false
set_option maxRecDepth 100000
set_option maxHeartbeats 80000000000
namespace Go.Proofs.YtkcjfoaejijdoaaGreatDoor
open Go.RowKit M Proofs.Tryz
variable [Inhabited SlW]
def Tu (A:LvA) (id:Int):Bool:=decide (id=0) || (A.tr id).isSome
theorem Le {L:LvD} {V:VS} {id:Int}:Tu (Q1 L V) id=Zk L id:= by simp [Tu,Zk,Q1]
theorem Uq {A:LvA} {id:Int} {k:KD} {x y:LfA}:ZJ (ZJ A id k x) id k y=ZJ A id k y:= by
  cases h:A.tr id with
  | none=>unfold ZJ; simp [h]
  | some t=>
    rw[Wg h,Wg (t:={t with lv:=Xu t.lv k (some x)}) Qy,Wg h]
    simp only[J0]
section
variable {L L1 L2 L':LvD} {V V1 V2 V':VS} {id:Int} {t t1 t2:TrD} {k:KD} {x1 x2:LfD} {m Fr:Nat} {s e a r:Int} {pg:Bs} {b:UInt8} {p:Pl}
theorem OwnI.tight_own (h:OwnI L V p m Fr L' V' s e) (he:e≠0):Tq V Fr:= by
  rcases h.2.2.2.2 with⟨_,_,hg⟩ | ⟨h0,_⟩
  · exact fun c q=> by have :=Ue q hg;omega
  · exact absurd h0 he
theorem OwnI.tight_set (h:OwnI L V p m Fr L' V' s e) (he:e=0) (ha:0≤a∧a<64) (hb:V' s=none∨1<Zm V' s∨a<0∨64≤a∨H3 V' Fr):Tq V Fr:= by
  rcases h.2.2.2.2 with⟨h1,_,hg⟩ | ⟨h0,h1,h2,h3⟩
  · omega
  · rcases hb with hb | hb | hb | hb | hb
    · rw[YJ hb]at h2;omega
    · omega
    · omega
    · omega
    · exact fun c q=> by have :=Ue (h.2.2.1 c q) hb;omega
theorem OwnP.step (hO:OwnP L V k Fr L' V' s e) (hI:LvI m L V):StepI m L V m 1 1 L' V':= by
  refine⟨(hO.inv hI).1.1, ?_,(hO.inv hI).1.2.2.1, fun c q=>hO.sz q⟩
  rcases hO with⟨_,_,_,_,rfl,_⟩ | ⟨_,_,_,rfl,_⟩ | ⟨_,_,_,_,_,rfl⟩<;>rfl
noncomputable def wrP (A:LvA) (k:KD) (a:Int) (b:UInt8):LvA:={A with pres:=UV A.pres k ((A.pres k).set a.toNat b)}
theorem AG (hO:OwnP L V k Fr L' V' s 0) (hI:LvI m L V) (hs:V' s=some (r,pg)) (ha:0≤a∧a<64):StepI m L V m 1 1 L' (Xu V' s (some (r,pg.set a.toNat b)))∧Q1 L' (Xu V' s (some (r,pg.set a.toNat b)))=wrP (Q1 L V) k a b:= by
  have h1:=(hO.inv hI).1
  have h2:=hO.step hI
  obtain⟨c1,c2,c3⟩:s≠0∧Zm V' s=1∧QP L' (.inl k)=s:= by
    rcases h1.2.2.2.2 with⟨q,_⟩ | ⟨_,q⟩
    · omega
    · exact q
  obtain⟨d1,d2⟩:=AD (b:=b) h1.1 c2 hs c3 ha
  refine⟨⟨d1,h2.sp, fun c q=>(h2.al c q).sub fun j hj=> ?_,h2.sz⟩, by rw[d2,h1.2.1];rfl⟩
  by_cases e:j=s
  · subst e; rw[hs]; simp
  · rwa [QF e]at hj
theorem Dj (hT:TouR L V id t k L1 V1 t1 x1) (ht:L.tr id=some t) (hI:LvI m L V) (hO:OwnT L1 V1 id t1 k x1 Fr L2 V2 s e):
    StepI m L V m 1 1 L2 V2∧OwnI L1 V1 (.inr (id,k,true)) m Fr L2 V2 s e∧Q1 L2 V2=ZJ (Q1 L V) id k (Z0 (Q1 L V) id k)∧(Tq V1 Fr→Tq V Fr):= by
  obtain⟨h1,h2,h3,h4,h5⟩:=hT.inv ht hI
  have h6:=(hO.inv (hT.tr ht) hT.lv h1).1
  exact⟨⟨h6.1,hO.sp.trans hT.sp, fun c q=>h6.2.2.1 c (h4 c q), fun c q=>hO.sz (hT.tr ht) hT.lv (hT.sz ht q)⟩,h6,h6.2.1.trans h3, fun q c hc=>q c (h4 c hc)⟩
def wrX (x:LfA) (a:Int) (b:UInt8):LfA:={x with own:=x.own.set a.toNat b,wr:=x.wr ||| (1#64<<<a.toNat)}
theorem AE (hT:TouR L V id t k L1 V1 t1 x1) (ht:L.tr id=some t) (hI:LvI m L V) (hO:OwnT L1 V1 id t1 k x1 Fr L2 V2 s 0) (ht2:L2.tr id=some t2) (hx2:t2.lv k=some x2) (hs:V2 s=some (r,pg)) (ha:0≤a∧a<64):
    StepI m L V m 1 1 (ZD L2 id t2 k {x2 with wr:=x2.wr ||| (1#64<<<a.toNat)}) (Xu V2 s (some (r,pg.set a.toNat b)))∧
    Q1 (ZD L2 id t2 k {x2 with wr:=x2.wr ||| (1#64<<<a.toNat)}) (Xu V2 s (some (r,pg.set a.toNat b)))=ZJ (Q1 L V) id k (wrX (Z0 (Q1 L V) id k) a b):= by
  obtain⟨h1,h2,h3,h4⟩:=Dj hT ht hI hO
  obtain⟨g1,g2,g3,g4,g5⟩:=hT.inv ht hI
  obtain⟨c1,c2,c3⟩:s≠0∧Zm V2 s=1∧QP L2 (.inr (id,k,true))=s:= by
    rcases h2.2.2.2.2 with⟨q,_⟩ | ⟨_,q⟩
    · omega
    · exact q
  obtain⟨d1,d2⟩:=AC (b:=b) h2.1 c2 hs c3 ht2 hx2 ha
  have d3:Wu V2 x2=Z0 (Q1 L V) id k:=(qap h2.2.1 (hT.tr ht) hT.lv ht2 hx2).trans g2
  have d4:x2.wr=(Z0 (Q1 L V) id k).wr:= by rw[←d3];rfl
  refine⟨⟨d1,h1.sp, fun c q=>(h1.al c q).sub fun j hj=> ?_, fun c q=>(h1.sz c q).putOld ht2 hx2 U U⟩, ?_⟩
  · by_cases e:j=s
    · subst e; rw[hs]; simp
    · rwa [QF e]at hj
  · rw[d2,h3,Uq,d3,d4];rfl
end
theorem L6 {w:World} {b n Fr:Nat} {L:LvD} {V:VS} {F:Th} (hS:Sat w [XX b L,XD L.sp n Fr V,F]) (hn:n≤60000000000) (ob:Bs) (a:Int) (bt:UInt8) (id:Int) (hr:0≤a∧a<16384) (hth:Zk L id=false):
    Calls prog 10 #[ptrV b 0,intV id,strV ob,intV a,WA bt] w (Ret fun v w'=>v=intV 4∧Sat w' [XX b L,XD L.sp n Fr V,F]):= by
 refine Qm func10 U ntmps10 U ?_
 refine Qd (Qa (Qe U U (Qf (Qc (Qd (Qa (Qb U U (Qb U U (Qv YO U (WY (hS.sp [] U) ob a) U ?_)))))))))
 rintro _ w1 ⟨rfl,j1⟩
 replace j1:=j1.jn U U
 rw[JO hr]
 refine Qb U U (Qn U U U (Qn U U U (Qn U U U (Xa j1 Zy U U ?_))))
 intro kb w2 j2
 refine QG j2 U U Xf U (by rfl) (i:=0) U (by decide) ?_
 intro w3 j3; dsimp only[List.set]at j3
 replace j3:=X6 (k:=(ob,a/ 64)) j3
 refine Qe U U (Qe U U (Qf (Qc (Qh [4,3,1,0,10,11,12,13] U (Qd (Qw (Qd (Qa (Qb U U (Qb U U (Qv W4 U (Z8 (j3.sp [1] U) id) U ?_)))))))))))
 rintro _ w4 ⟨rfl,j4⟩
 replace j4:=j4.jn U U
 refine Xb U U (Qe U U (Qf (Qc (Qh [4,3,1,0,10,11,12,13,24] U (QT U (fun h5=> ?_) (fun h5=> ?_))))))
 ·exact Qd (Qa (Qe U U (Qf (Qc (Qu (Qz (Qp (QY (.inr U) U U (⟨_,U,U,j4.pick [0,2,3] U⟩)))))))))
 exact absurd hth (by simpa using h5)
theorem Lz {w:World} {b n Fr:Nat} {L:LvD} {V:VS} {F:Th} (hS:Sat w [XX b L,XD L.sp n Fr V,F]) (hn:n≤60000000000) (ob:Bs) (a:Int) (bt:UInt8) (id:Int) (hr: ¬(0≤a∧a<16384)) (hth:Zk L id=false):
    Calls prog 10 #[ptrV b 0,intV id,strV ob,intV a,WA bt] w (Ret fun v w'=>v=intV 4∧Sat w' [XX b L,XD L.sp n Fr V,F]):= by
 refine Qm func10 U ntmps10 U ?_
 refine Qd (Qa (Qe U U (Qf (Qc (Qd (Qa (Qb U U (Qb U U (Qv YO U (WY (hS.sp [] U) ob a) U ?_)))))))))
 rintro _ w1 ⟨rfl,j1⟩
 replace j1:=j1.jn U U
 rw[UG hr]
 refine Qb U U (Qn U U U (Qn U U U (Qn U U U (Xa j1 Zy U U ?_))))
 intro kb w2 j2
 refine QG j2 U U Xf U (by rfl) (i:=0) U (by decide) ?_
 intro w3 j3; dsimp only[List.set]at j3
 replace j3:=X6 (k:=([],0)) j3
 refine Qe U U (Qe U U (Qf (Qc (Qh [4,3,1,0,10,11,12,13] U (Qd (Qw (Qd (Qa (Qb U U (Qb U U (Qv W4 U (Z8 (j3.sp [1] U) id) U ?_)))))))))))
 rintro _ w4 ⟨rfl,j4⟩
 replace j4:=j4.jn U U
 refine Xb U U (Qe U U (Qf (Qc (Qh [4,3,1,0,10,11,12,13,24] U (QT U (fun h5=> ?_) (fun h5=> ?_))))))
 ·exact Qd (Qa (Qe U U (Qf (Qc (Qu (Qz (Qp (QY (.inr U) U U (⟨_,U,U,j4.pick [0,2,3] U⟩)))))))))
 exact absurd hth (by simpa using h5)
theorem Az {w:World} {b n Fr:Nat} {L:LvD} {V:VS} {F:Th} (hS:Sat w [XX b L,XD L.sp n Fr V,F]) (hn:n≤60000000000) (ob:Bs) (a:Int) (bt:UInt8) (id:Int) (hr: ¬(0≤a∧a<16384)) (hth:Zk L id=true):
    Calls prog 10 #[ptrV b 0,intV id,strV ob,intV a,WA bt] w (Ret fun v w'=>v=intV 0∧Sat w' [XX b L,XD L.sp n Fr V,F]):= by
 refine Qm func10 U ntmps10 U ?_
 refine Qd (Qa (Qe U U (Qf (Qc (Qd (Qa (Qb U U (Qb U U (Qv YO U (WY (hS.sp [] U) ob a) U ?_)))))))))
 rintro _ w1 ⟨rfl,j1⟩
 replace j1:=j1.jn U U
 rw[UG hr]
 refine Qb U U (Qn U U U (Qn U U U (Qn U U U (Xa j1 Zy U U ?_))))
 intro kb w2 j2
 refine QG j2 U U Xf U (by rfl) (i:=0) U (by decide) ?_
 intro w3 j3; dsimp only[List.set]at j3
 replace j3:=X6 (k:=([],0)) j3
 refine Qe U U (Qe U U (Qf (Qc (Qh [4,3,1,0,10,11,12,13] U (Qd (Qw (Qd (Qa (Qb U U (Qb U U (Qv W4 U (Z8 (j3.sp [1] U) id) U ?_)))))))))))
 rintro _ w4 ⟨rfl,j4⟩
 replace j4:=j4.jn U U
 refine Xb U U (Qe U U (Qf (Qc (Qh [4,3,1,0,10,11,12,13,24] U (QT U (fun h5=> ?_) (fun h5=> ?_))))))
 ·exact absurd hth (by simpa using h5)
 refine Qd (Qa (Qb U U (Xb U U (Qe U U (Qf (Qc (Qh [4,3,1,0,10,11,12,29] U (QT U (fun h6=> ?_) (fun h6=> ?_)))))))))
 ·exact Qd (Qa (Qe U U (Qf (Qc (Qu (Qz (Qp (QY (.inr U) U U (⟨_,U,U,j4.pick [0,2,3] U⟩)))))))))
 exact absurd h6 (by decide)
theorem CH {w:World} {m:Nat} {b n Fr:Nat} {L:LvD} {V:VS} {F:Th} (hS:Sat w [XX b L,XD L.sp n Fr V,F]) (hn:n≤60000000000) (ob:Bs) (a:Int) (bt:UInt8) (hI:LvI m L V) (hm:m<Zg) (hr:0≤a∧a<16384):
    Calls prog 10 #[ptrV b 0,intV 0,strV ob,intV a,WA bt] w (Ret fun v w'=> ∃L' V' e,v=intV e∧StepI m L V m 1 1 L' V'∧((e=0∧Q1 L' V'=wrP (Q1 L V) (ob,a/ 64) (a%64) bt)∨(e≠0∧Q1 L' V'=Q1 L V∧Tq V Fr))∧Sat w' [XX b L',XD L'.sp (n+5) Fr V',F]):= by
 refine Qm func10 U ntmps10 U ?_
 refine Qd (Qa (Qe U U (Qf (Qc (Qd (Qa (Qb U U (Qb U U (Qv YO U (WY (hS.sp [] U) ob a) U ?_)))))))))
 rintro _ w1 ⟨rfl,j1⟩
 replace j1:=j1.jn U U
 rw[JO hr]
 refine Qb U U (Qn U U U (Qn U U U (Qn U U U (Xa j1 Zy U U ?_))))
 intro kb w2 j2
 refine QG j2 U U Xf U (by rfl) (i:=0) U (by decide) ?_
 intro w3 j3; dsimp only[List.set]at j3
 replace j3:=X6 (k:=(ob,a/ 64)) j3
 refine Qe U U (Qe U U (Qf (Qc (Qh [4,3,1,0,10,11,12,13] U (Qd (Qw (Qd (Qa (Qb U U (Qb U U (Qv W4 U (Z8 (j3.sp [1] U) 0) U ?_)))))))))))
 rintro _ w4 ⟨rfl,j4⟩
 replace j4:=j4.jn U U
 refine Xb U U (Qe U U (Qf (Qc (Qh [4,3,1,0,10,11,12,13,24] U (QT U (fun h5=> ?_) (fun h5=> ?_))))))
 ·exact absurd h5 (by simp [Zk])
 refine Qd (Qa (Qb U U (Xb U U (Qe U U (Qf (Qc (Qh [4,3,1,0,10,11,12,29] U (QT U (fun h6=> ?_) (fun h6=> ?_)))))))))
 ·exact absurd h6 (by decide)
 refine Qs (Qk (Qc (Qd (Qa (Qb U U (Qb U U (Xw U X9 Xf (by first | exact j4.blk 1 U) (Xv U) U U ?_)))))))
 refine Qv Cb U (SH (j4.sp [0,2] U) (by omega) (hI.rank.ends hm) (k:=(ob,a/ 64)) (hI.alive (.inl (ob,a/ 64)))) U ?_
 rintro _ w7 ⟨L1,V1,s,e,rfl,hO,j7⟩
 replace j7:=j7.jn U U
 have hOI:=(hO.inv hI).1
 refine Qb U U (Qn U U U (Qn U U U (Qe U U (Qe U U (Qf (Qc (Qh [4,3,1,0,10,11,12,14,15] U (Qd (Qd (Qa (Qb U U (XC U U U (Qf (Qc (Qt U (fun h8=> ?_) (fun h8=> ?_))))))))))))))))
 ·have he:e≠0:=h8
  exact Qd (Qa (Qb U U (Qe U U (Qf (Qc (Qh [4,3,1,0,11,12,14,10] U (Qu (Qp (QY (.inr U) U U (⟨_,rfl,L1,V1,e,rfl,hO.step hI,.inr ⟨he,hOI.2.1,hOI.tight_own he⟩,(Xn (m:=n+5) (by omega) (j7.pick [1,0,3] U)).reorder [1,0,2] U⟩))))))))))
 have he:e=0:=Decidable.not_not.1 h8
 refine Qs (Qc (Qh [4,3,1,0,10,11,12,14] U (Qd (Qd (Qa (Qb U U (Qj U U (Qg U XJ U (Qr U Xy (Jk j7 0 U) U (Qb U U (Qb U U (EQ U U (by omega) (by omega) U ?_))))))))))))
 refine Qb U U (Zc IK U (stSet (j7.sp [1] U) (by omega) s (a%64) bt) U ?_)
 rintro e w9 ⟨_,rfl,(⟨e2,rfl,he2,hbad,j9⟩ | ⟨r,pg,hs,rfl,ha,j9⟩)⟩
 ·refine⟨_,U, ?_⟩
  replace j9:=j9.jn U U
  refine Qe U U (Qf (Qc (Qh [1,0,10,11,12,16] U (Qd (Qa (Qb U U (XC U U U (Qf (Qc (Qt U (fun h10=> ?_) (fun h10=> ?_)))))))))))
  ·exact Qd (Qa (Qb U U (Qe U U (Qf (Qc (Qu (Qp (QY (.inr U) U U (⟨_,rfl,L1,V1,e2,rfl,hO.step hI,.inr ⟨he2,hOI.2.1,hOI.tight_set he (by omega) hbad⟩,(Xn (m:=n+5) (by omega) (j9.pick [0,1,3] U)).reorder [1,0,2] U⟩)))))))))
  exact absurd (Decidable.not_not.1 h10) he2
 refine⟨_,U, ?_⟩
 replace j9:=j9.jn U U
 refine Qe U U (Qf (Qc (Qh [1,0,10,11,12,16] U (Qd (Qa (Qb U U (XC U U U (Qf (Qc (Qt U (fun h11=> ?_) (fun h11=> ?_)))))))))))
 ·exact absurd U h11
 refine Qs (Qc (Qd (Qd (Qa (Qb U U (XC U U U (Qf (Qc (Qt U (fun h12=> ?_) (fun h12=> ?_))))))))))
 ·exact absurd U h12
 refine Qs (Qc (Qd (Qa (Qe U U (Qf (Qc (Qu (QY (.inr U) U U ?_))))))))
 subst he
 have hfin:=AG (b:=bt) hO hI hs (by omega:0≤a%64∧a%64<64)
 exact⟨_,rfl,L1,_,0,rfl,hfin.1,.inl ⟨rfl,hfin.2⟩,(Xn (m:=n+5) (by omega) (j9.pick [0,1,3] U)).reorder [1,0,2] U⟩
theorem CG {w:World} {m:Nat} {b n Fr:Nat} {L:LvD} {V:VS} {F:Th} (hS:Sat w [XX b L,XD L.sp n Fr V,F]) (hn:n≤60000000000) (ob:Bs) (a:Int) (bt:UInt8) (hI:LvI m L V) (hm:m<Zg) {id:Int} {t:TrD} (ht:L.tr id=some t) (hr:0≤a∧a<16384):
    Calls prog 10 #[ptrV b 0,intV id,strV ob,intV a,WA bt] w (Ret fun v w'=> ∃L' V' e,v=intV e∧StepI m L V m 1 1 L' V'∧((e=0∧Q1 L' V'=ZJ (Q1 L V) id (ob,a/ 64) (wrX (Z0 (Q1 L V) id (ob,a/ 64)) (a%64) bt))∨(e≠0∧Q1 L' V'=ZJ (Q1 L V) id (ob,a/ 64) (Z0 (Q1 L V) id (ob,a/ 64))∧Tq V Fr))∧Sat w' [XX b L',XD L'.sp (n+5) Fr V',F]):= by
 have h0:id≠0:=hI.rank.none0 ht
 refine Qm func10 U ntmps10 U ?_
 refine Qd (Qa (Qe U U (Qf (Qc (Qd (Qa (Qb U U (Qb U U (Qv YO U (WY (hS.sp [] U) ob a) U ?_)))))))))
 rintro _ w1 ⟨rfl,j1⟩
 replace j1:=j1.jn U U
 rw[JO hr]
 refine Qb U U (Qn U U U (Qn U U U (Qn U U U (Xa j1 Zy U U ?_))))
 intro kb w2 j2
 refine QG j2 U U Xf U (by rfl) (i:=0) U (by decide) ?_
 intro w3 j3; dsimp only[List.set]at j3
 replace j3:=X6 (k:=(ob,a/ 64)) j3
 refine Qe U U (Qe U U (Qf (Qc (Qh [4,3,1,0,10,11,12,13] U (Qd (Qw (Qd (Qa (Qb U U (Qb U U (Qv W4 U (Z8 (j3.sp [1] U) id) U ?_)))))))))))
 rintro _ w4 ⟨rfl,j4⟩
 replace j4:=j4.jn U U
 refine Xb U U (Qe U U (Qf (Qc (Qh [4,3,1,0,10,11,12,13,24] U (QT U (fun h5=> ?_) (fun h5=> ?_))))))
 ·exact absurd h5 (by simp [Zk,ht])
 refine Qd (Qa (Qb U U (Xb U U (Qe U U (Qf (Qc (Qh [4,3,1,0,10,11,12,29] U (QT U (fun h6=> ?_) (fun h6=> ?_)))))))))
 ·exact absurd h6 (by decide)
 refine Qs (Qk (Qc (Qd (Qa (Qb U U (Qb U U (Xw U X9 Xf (by first | exact j4.blk 1 U) (Xv U) U U ?_)))))))
 refine Qv Cb U (SF (j4.sp [0,2] U) (by omega) (hI.rank.ends hm) ht (k:=(ob,a/ 64)) h0 (hI.aliveS id (ob,a/ 64))) U ?_
 rintro _ w7 ⟨L1,V1,t1,x1,L2,V2,s,e,rfl,hT,hO,j7⟩
 replace j7:=j7.jn U U
 have hW:=Dj hT ht hI hO
 refine Qb U U (Qn U U U (Qn U U U (Qe U U (Qe U U (Qf (Qc (Qh [4,3,1,0,10,11,12,14,15] U (Qd (Qd (Qa (Qb U U (XC U U U (Qf (Qc (Qt U (fun h8=> ?_) (fun h8=> ?_))))))))))))))))
 ·have he:e≠0:=h8
  exact Qd (Qa (Qb U U (Qe U U (Qf (Qc (Qh [4,3,1,0,11,12,14,10] U (Qu (Qp (QY (.inr U) U U (⟨_,rfl,L2,V2,e,rfl,hW.1,.inr ⟨he,hW.2.2.1,hW.2.2.2 (hW.2.1.tight_own he)⟩,(Xn (m:=n+5) (by omega) (j7.pick [1,0,3] U)).reorder [1,0,2] U⟩))))))))))
 have he:e=0:=Decidable.not_not.1 h8
 refine Qs (Qc (Qh [4,3,1,0,10,11,12,14] U (Qd (Qd (Qa (Qb U U (Qj U U (Qg U XJ U (Qr U Xy (Jk j7 0 U) U (Qb U U (Qb U U (EQ U U (by omega) (by omega) U ?_))))))))))))
 refine Qb U U (Zc IK U (stSet (j7.sp [1] U) (by omega) s (a%64) bt) U ?_)
 rintro e w9 ⟨_,rfl,(⟨e2,rfl,he2,hbad,j9⟩ | ⟨r,pg,hs,rfl,ha,j9⟩)⟩
 ·refine⟨_,U, ?_⟩
  replace j9:=j9.jn U U
  refine Qe U U (Qf (Qc (Qh [1,0,10,11,12,16] U (Qd (Qa (Qb U U (XC U U U (Qf (Qc (Qt U (fun h10=> ?_) (fun h10=> ?_)))))))))))
  ·exact Qd (Qa (Qb U U (Qe U U (Qf (Qc (Qu (Qp (QY (.inr U) U U (⟨_,rfl,L2,V2,e2,rfl,hW.1,.inr ⟨he2,hW.2.2.1,hW.2.2.2 (hW.2.1.tight_set he (by omega) hbad)⟩,(Xn (m:=n+5) (by omega) (j9.pick [0,1,3] U)).reorder [1,0,2] U⟩)))))))))
  exact absurd (Decidable.not_not.1 h10) he2
 refine⟨_,U, ?_⟩
 replace j9:=j9.jn U U
 refine Qe U U (Qf (Qc (Qh [1,0,10,11,12,16] U (Qd (Qa (Qb U U (XC U U U (Qf (Qc (Qt U (fun h11=> ?_) (fun h11=> ?_)))))))))))
 ·exact absurd U h11
 refine Qs (Qc (Qd (Qd (Qa (Qb U U (XC U U U (Qf (Qc (Qt U (fun h12=> ?_) (fun h12=> ?_))))))))))
 ·obtain⟨t2,x2,ht2,hx2,_⟩:=hO.leaf (hT.tr ht) hT.lv
  have j13:=JQ ht2 hx2 (j9.pick [1,0,2,3] U)
  have j14:=j13.drew
  refine QE [0,1,2,3,4,5,6,7,8,9,10,11,12,13,14,15,16,17,18] [18] Wa (by kernel_rfl) ?_
  refine Q9 U U U (Xi U U U (QQ U U U Zr (Q4 U U U (Ql U Wx (j14.cell 6 U U)) (Q9 U U U (Q4 U U U (X2 (k:=id) 8 j14 keysInt underlying82 U U U JU (u:=ptrV t2.ad 0) (XY ht2)) (Xi U U U (QQ U U U ZE (Q4 U U U (Ql U WR (j14.cell 2 U U)) (Q4 U U U (XB U X9 Xf (j14.blk 11 U) (Xv U) U) (Q4 U U U (X2 (k:=(ob,a/ 64)) 3 j14 keysKey underlying90 U U U HB (u:=ptrV x2.ad 0) (XY hx2)) (Xi U U U (QQ U U U Wj (Q4 U U U (Ql U J6 (j14.cell 0 U U)) (Q9 U U U (QZ U U U (fun _=>(Kd U U)) ?_)))))))))))))))
  refine Xi U U U (QQ U U U Wj (Xe U U U U U U ?_))
  refine QV j14 U U Kx U (i:=0) U (Xv U) ?_
  intro w15 j15; dsimp only[List.set]at j15
  refine Zu (Xj (by kernel_rfl)) ?_
  refine VC.nil (Qc (Qh [10] U (Qd (Qa (Qe U U (Qf (Qc (Qu (QY (.inr U) U U ?_)))))))))
  have j16:=WJ (L:=_) (y:={x2 with wr:=x2.wr ||| (1#64<<<(a%64).toNat)}) ht2 hx2 U (j15.pick [0,1,2,3,4,5,6,7,8,9,10,11,12] U)
  subst he
  have hfin:=AE (b:=bt) hT ht hI hO ht2 hx2 hs (by omega:0≤a%64∧a%64<64)
  exact⟨_,rfl,_,_,0,rfl,hfin.1,.inl ⟨rfl,hfin.2⟩,(Xn (m:=n+5) (by omega) (j16.pick [1,0,3] U)).reorder [1,0,2] U⟩
 exact absurd (Decidable.not_not.1 h12) h0
