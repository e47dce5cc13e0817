/- leaves: SetByte -/
import Derived.Test.YtkcjfoaejijdoaaGreatDoorLv5
import Derived.Shelf.Lays7
import Derived.Ground.Names7Prog
import Derived.Test.YtkcjfoaejijdoaaGreatDoorProg
set_option linter.unusedSectionVars false
set_option linter.unusedVariables false
set_option maxRecDepth 100000
set_option maxHeartbeats 80000000000
namespace Go.Proofs.YtkcjfoaejijdoaaGreatDoor
open Go.RowKit M
variable [Inhabited SlW]
def Ta (A:LvA) (id:Int):Bool:=decide (id=0) || (A.tr id).isSome
theorem F3 {L:LvD} {V:VS} {id:Int}:Ta (Q1 L V) id=Zt L id:= by simp [Ta,Zt,Q1]
theorem HZ {A:LvA} {id:Int} {k:KD} {x y:LfA}:Z6 (Z6 A id k x) id k y=Z6 A id k y:= by
  cases h:A.tr id with
  | none=>unfold Z6; simp [h]
  | some t=>
    rw[ZR h,ZR (t:={t with lv:=Xi t.lv k (some x)}) Qy,ZR h]
    simp only[Ji]
section
variable {L L1 L2 L':LvD} {V V1 V2 V':VS} {id:Int} {t t1 t2:TrD} {k:KD} {x1 x2:LfD} {m Fr:Nat} {s e a r:Int} {pg:Bs} {b:UInt8} {p:Pl}
theorem OwnI.tight_own (h:OwnI L V p m Fr L' V' s e) (he:e≠0):MS V Fr:= by
  rcases h.2.2.2.2 with⟨_,_,hg⟩ | ⟨h0,_⟩
  · exact fun c q=> by have :=HH q hg;omega
  · exact absurd h0 he
theorem OwnI.tight_set (h:OwnI L V p m Fr L' V' s e) (he:e=0) (ha:0≤a∧a<64) (hb:V' s=none∨1<Zc V' s∨a<0∨64≤a∨Hi V' Fr):MS V Fr:= by
  rcases h.2.2.2.2 with⟨h1,_,hg⟩ | ⟨h0,h1,h2,h3⟩
  · omega
  · rcases hb with hb | hb | hb | hb | hb
    · rw[Yz hb]at h2;omega
    · omega
    · omega
    · omega
    · exact fun c q=> by have :=HH (h.2.2.1 c q) hb;omega
theorem OwnP.step (hO:OwnP L V k Fr L' V' s e) (hI:LvI m L V):StepI m L V m 1 1 L' V':= by
  refine⟨(hO.inv hI).1.1, ?_,(hO.inv hI).1.2.2.1, fun c q=>hO.sz q⟩
  rcases hO with⟨_,_,_,_,rfl,_⟩ | ⟨_,_,_,rfl,_⟩ | ⟨_,_,_,_,_,rfl⟩<;>rfl
noncomputable def wrP (A:LvA) (k:KD) (a:Int) (b:UInt8):LvA:={A with pres:=UA A.pres k ((A.pres k).set a.toNat b)}
theorem ED (hO:OwnP L V k Fr L' V' s 0) (hI:LvI m L V) (hs:V' s=some (r,pg)) (ha:0≤a∧a<64):StepI m L V m 1 1 L' (Xi V' s (some (r,pg.set a.toNat b)))∧Q1 L' (Xi V' s (some (r,pg.set a.toNat b)))=wrP (Q1 L V) k a b:= by
  have h1:=(hO.inv hI).1
  have h2:=hO.step hI
  obtain⟨c1,c2,c3⟩:s≠0∧Zc V' s=1∧QJ L' (.inl k)=s:= by
    rcases h1.2.2.2.2 with⟨q,_⟩ | ⟨_,q⟩
    · omega
    · exact q
  obtain⟨d1,d2⟩:=EA (b:=b) h1.1 c2 hs c3 ha
  refine⟨⟨d1,h2.sp, fun c q=>(h2.al c q).sub fun j hj=> ?_,h2.sz⟩, by rw[d2,h1.2.1];rfl⟩
  by_cases e:j=s
  · subst e; rw[hs]; simp
  · rwa [Q7 e]at hj
theorem BA (hT:TouR L V id t k L1 V1 t1 x1) (ht:L.tr id=some t) (hI:LvI m L V) (hO:OwnT L1 V1 id t1 k x1 Fr L2 V2 s e):
    StepI m L V m 1 1 L2 V2∧OwnI L1 V1 (.inr (id,k,true)) m Fr L2 V2 s e∧Q1 L2 V2=Z6 (Q1 L V) id k (Zo (Q1 L V) id k)∧(MS V1 Fr→MS V Fr):= by
  obtain⟨h1,h2,h3,h4,h5⟩:=hT.inv ht hI
  have h6:=(hO.inv (hT.tr ht) hT.lv h1).1
  exact⟨⟨h6.1,hO.sp.trans hT.sp, fun c q=>h6.2.2.1 c (h4 c q), fun c q=>hO.sz (hT.tr ht) hT.lv (hT.sz ht q)⟩,h6,h6.2.1.trans h3, fun q c hc=>q c (h4 c hc)⟩
def wrX (x:LfA) (a:Int) (b:UInt8):LfA:={x with own:=x.own.set a.toNat b,wr:=x.wr ||| (1#64<<<a.toNat)}
theorem EB (hT:TouR L V id t k L1 V1 t1 x1) (ht:L.tr id=some t) (hI:LvI m L V) (hO:OwnT L1 V1 id t1 k x1 Fr L2 V2 s 0) (ht2:L2.tr id=some t2) (hx2:t2.lv k=some x2) (hs:V2 s=some (r,pg)) (ha:0≤a∧a<64):
    StepI m L V m 1 1 (Z1 L2 id t2 k {x2 with wr:=x2.wr ||| (1#64<<<a.toNat)}) (Xi V2 s (some (r,pg.set a.toNat b)))∧
    Q1 (Z1 L2 id t2 k {x2 with wr:=x2.wr ||| (1#64<<<a.toNat)}) (Xi V2 s (some (r,pg.set a.toNat b)))=Z6 (Q1 L V) id k (wrX (Zo (Q1 L V) id k) a b):= by
  obtain⟨h1,h2,h3,h4⟩:=BA hT ht hI hO
  obtain⟨g1,g2,g3,g4,g5⟩:=hT.inv ht hI
  obtain⟨c1,c2,c3⟩:s≠0∧Zc V2 s=1∧QJ L2 (.inr (id,k,true))=s:= by
    rcases h2.2.2.2.2 with⟨q,_⟩ | ⟨_,q⟩
    · omega
    · exact q
  obtain⟨d1,d2⟩:=E9 (b:=b) h2.1 c2 hs c3 ht2 hx2 ha
  have d3:Wl V2 x2=Zo (Q1 L V) id k:=(Ix h2.2.1 (hT.tr ht) hT.lv ht2 hx2).trans g2
  have d4:x2.wr=(Zo (Q1 L V) id k).wr:= by rw[←d3];rfl
  refine⟨⟨d1,h1.sp, fun c q=>(h1.al c q).sub fun j hj=> ?_, fun c q=>(h1.sz c q).putOld ht2 hx2 U U⟩, ?_⟩
  · by_cases e:j=s
    · subst e; rw[hs]; simp
    · rwa [Q7 e]at hj
  · rw[d2,h3,HZ,d3,d4];rfl
end
theorem FJ {w:World} {b n Fr:Nat} {L:LvD} {V:VS} {F:Th} (hS:Sat w [XY b L,XG L.sp n Fr V,F]) (hn:n≤60000000000) (ob:Bs) (a:Int) (bt:UInt8) (id:Int) (hr:0≤a∧a<16384) (hth:Zt L id=false):
    Calls Tryz.prog 10 #[ptrV b 0,intV id,strV ob,intV a,Wu bt] w (Ret fun v w'=>v=intV 4∧Sat w' [XY b L,XG L.sp n Fr V,F]):= by
 refine Qm Tryz.func10 U Tryz.ntmps10 U ?_
 refine Qd (Qa (Qe U U (Qf (Qc (Qd (Qa (Qb U U (Qb U U (Qw Y2 U (WF (hS.sp [] U) ob a) U ?_)))))))))
 rintro _ w1 ⟨rfl,hS1⟩
 replace hS1:=hS1.jn U U
 rw[J3 hr]
 refine Qb U U (Qq U U U (Qq U U U (Qq U U U (QX hS1 Z2 U U ?_))))
 intro kb w2 hS2
 clear hS1
 refine QK hS2 U U Xc U (by rfl) (i:=0) U (by decide) ?_
 intro w3 hS3; dsimp only[List.set]at hS3
 clear hS2
 replace hS3:=X5 (k:=(ob,a/ 64)) hS3
 refine Qe U U (Qe U U (Qf (Qc (Qh [4,3,1,0,10,11,12,13] U (Qd (Qv (Qd (Qa (Qb U U (Qb U U (Qw WX U (ZH (hS3.sp [1] U) id) U ?_)))))))))))
 rintro _ w4 ⟨rfl,hS4⟩
 replace hS4:=hS4.jn U U
 clear hS3
 refine QQ U U (Qe U U (Qf (Qc (Qh [4,3,1,0,10,11,12,13,24] U (QN U (fun h5=> ?_) (fun h5=> ?_))))))
 ·exact Qd (Qa (Qe U U (Qf (Qc (Qu (Qz (Qp (QR (.inr U) U U (⟨_,rfl,rfl,hS4.pick [0,2,3] U⟩)))))))))
 exact absurd hth (by simpa using h5)
theorem FI {w:World} {b n Fr:Nat} {L:LvD} {V:VS} {F:Th} (hS:Sat w [XY b L,XG L.sp n Fr V,F]) (hn:n≤60000000000) (ob:Bs) (a:Int) (bt:UInt8) (id:Int) (hr: ¬(0≤a∧a<16384)) (hth:Zt L id=false):
    Calls Tryz.prog 10 #[ptrV b 0,intV id,strV ob,intV a,Wu bt] w (Ret fun v w'=>v=intV 4∧Sat w' [XY b L,XG L.sp n Fr V,F]):= by
 refine Qm Tryz.func10 U Tryz.ntmps10 U ?_
 refine Qd (Qa (Qe U U (Qf (Qc (Qd (Qa (Qb U U (Qb U U (Qw Y2 U (WF (hS.sp [] U) ob a) U ?_)))))))))
 rintro _ w1 ⟨rfl,hS1⟩
 replace hS1:=hS1.jn U U
 rw[Ux hr]
 refine Qb U U (Qq U U U (Qq U U U (Qq U U U (QX hS1 Z2 U U ?_))))
 intro kb w2 hS2
 clear hS1
 refine QK hS2 U U Xc U (by rfl) (i:=0) U (by decide) ?_
 intro w3 hS3; dsimp only[List.set]at hS3
 clear hS2
 replace hS3:=X5 (k:=([],0)) hS3
 refine Qe U U (Qe U U (Qf (Qc (Qh [4,3,1,0,10,11,12,13] U (Qd (Qv (Qd (Qa (Qb U U (Qb U U (Qw WX U (ZH (hS3.sp [1] U) id) U ?_)))))))))))
 rintro _ w4 ⟨rfl,hS4⟩
 replace hS4:=hS4.jn U U
 clear hS3
 refine QQ U U (Qe U U (Qf (Qc (Qh [4,3,1,0,10,11,12,13,24] U (QN U (fun h5=> ?_) (fun h5=> ?_))))))
 ·exact Qd (Qa (Qe U U (Qf (Qc (Qu (Qz (Qp (QR (.inr U) U U (⟨_,rfl,rfl,hS4.pick [0,2,3] U⟩)))))))))
 exact absurd hth (by simpa using h5)
theorem E5 {w:World} {b n Fr:Nat} {L:LvD} {V:VS} {F:Th} (hS:Sat w [XY b L,XG L.sp n Fr V,F]) (hn:n≤60000000000) (ob:Bs) (a:Int) (bt:UInt8) (id:Int) (hr: ¬(0≤a∧a<16384)) (hth:Zt L id=true):
    Calls Tryz.prog 10 #[ptrV b 0,intV id,strV ob,intV a,Wu bt] w (Ret fun v w'=>v=intV 0∧Sat w' [XY b L,XG L.sp n Fr V,F]):= by
 refine Qm Tryz.func10 U Tryz.ntmps10 U ?_
 refine Qd (Qa (Qe U U (Qf (Qc (Qd (Qa (Qb U U (Qb U U (Qw Y2 U (WF (hS.sp [] U) ob a) U ?_)))))))))
 rintro _ w1 ⟨rfl,hS1⟩
 replace hS1:=hS1.jn U U
 rw[Ux hr]
 refine Qb U U (Qq U U U (Qq U U U (Qq U U U (QX hS1 Z2 U U ?_))))
 intro kb w2 hS2
 clear hS1
 refine QK hS2 U U Xc U (by rfl) (i:=0) U (by decide) ?_
 intro w3 hS3; dsimp only[List.set]at hS3
 clear hS2
 replace hS3:=X5 (k:=([],0)) hS3
 refine Qe U U (Qe U U (Qf (Qc (Qh [4,3,1,0,10,11,12,13] U (Qd (Qv (Qd (Qa (Qb U U (Qb U U (Qw WX U (ZH (hS3.sp [1] U) id) U ?_)))))))))))
 rintro _ w4 ⟨rfl,hS4⟩
 replace hS4:=hS4.jn U U
 clear hS3
 refine QQ U U (Qe U U (Qf (Qc (Qh [4,3,1,0,10,11,12,13,24] U (QN U (fun h5=> ?_) (fun h5=> ?_))))))
 ·exact absurd hth (by simpa using h5)
 refine Qd (Qa (Qb U U (QQ U U (Qe U U (Qf (Qc (Qh [4,3,1,0,10,11,12,29] U (QN U (fun h6=> ?_) (fun h6=> ?_)))))))))
 ·exact Qd (Qa (Qe U U (Qf (Qc (Qu (Qz (Qp (QR (.inr U) U U (⟨_,rfl,rfl,hS4.pick [0,2,3] U⟩)))))))))
 exact absurd h6 (by decide)
theorem Cs {w:World} {m:Nat} {b n Fr:Nat} {L:LvD} {V:VS} {F:Th} (hS:Sat w [XY b L,XG L.sp n Fr V,F]) (hn:n≤60000000000) (ob:Bs) (a:Int) (bt:UInt8) (hI:LvI m L V) (hm:m<Zs) (hr:0≤a∧a<16384):
    Calls Tryz.prog 10 #[ptrV b 0,intV 0,strV ob,intV a,Wu bt] w (Ret fun v w'=> ∃L' V' e,v=intV e∧StepI m L V m 1 1 L' V'∧((e=0∧Q1 L' V'=wrP (Q1 L V) (ob,a/ 64) (a%64) bt)∨(e≠0∧Q1 L' V'=Q1 L V∧MS V Fr))∧Sat w' [XY b L',XG L'.sp (n+5) Fr V',F]):= by
 refine Qm Tryz.func10 U Tryz.ntmps10 U ?_
 refine Qd (Qa (Qe U U (Qf (Qc (Qd (Qa (Qb U U (Qb U U (Qw Y2 U (WF (hS.sp [] U) ob a) U ?_)))))))))
 rintro _ w1 ⟨rfl,hS1⟩
 replace hS1:=hS1.jn U U
 rw[J3 hr]
 refine Qb U U (Qq U U U (Qq U U U (Qq U U U (QX hS1 Z2 U U ?_))))
 intro kb w2 hS2
 clear hS1
 refine QK hS2 U U Xc U (by rfl) (i:=0) U (by decide) ?_
 intro w3 hS3; dsimp only[List.set]at hS3
 clear hS2
 replace hS3:=X5 (k:=(ob,a/ 64)) hS3
 refine Qe U U (Qe U U (Qf (Qc (Qh [4,3,1,0,10,11,12,13] U (Qd (Qv (Qd (Qa (Qb U U (Qb U U (Qw WX U (ZH (hS3.sp [1] U) 0) U ?_)))))))))))
 rintro _ w4 ⟨rfl,hS4⟩
 replace hS4:=hS4.jn U U
 clear hS3
 refine QQ U U (Qe U U (Qf (Qc (Qh [4,3,1,0,10,11,12,13,24] U (QN U (fun h5=> ?_) (fun h5=> ?_))))))
 ·exact absurd h5 (by simp [Zt])
 refine Qd (Qa (Qb U U (QQ U U (Qe U U (Qf (Qc (Qh [4,3,1,0,10,11,12,29] U (QN U (fun h6=> ?_) (fun h6=> ?_)))))))))
 ·exact absurd h6 (by decide)
 refine Qt (Qk (Qc (Qd (Qa (Qb U U (Qb U U ?_))))))
 refine Xt U X7 Xc (by first | exact hS4.blk 1 U) (by first | decide | exact Xa U | (simp;done) | omega) U U ?_
 refine Qw TH U (Si (hS4.sp [0,2] U) (by omega) (hI.rank.ends hm) (k:=(ob,a/ 64)) (hI.alive (.inl (ob,a/ 64)))) U ?_
 rintro _ w7 ⟨L1,V1,s,e,rfl,hO,hS7⟩
 replace hS7:=hS7.jn U U
 clear hS4
 have hOI:=(hO.inv hI).1
 refine Qb U U (Qq U U U (Qq U U U (Qe U U (Qe U U (Qf (Qc (Qh [4,3,1,0,10,11,12,14,15] U (Qd (Qd (Qa (Qb U U (X0 U U U (Qf (Qc (Qs U (fun h8=> ?_) (fun h8=> ?_))))))))))))))))
 ·have he:e≠0:=h8
  exact Qd (Qa (Qb U U (Qe U U (Qf (Qc (Qh [4,3,1,0,11,12,14,10] U (Qu (Qp (QR (.inr U) U U (⟨_,rfl,L1,V1,e,rfl,hO.step hI,.inr ⟨he,hOI.2.1,hOI.tight_own he⟩,(Xe (m:=n+5) (by omega) (hS7.pick [1,0,3] U)).reorder [1,0,2] U⟩))))))))))
 have he:e=0:=Decidable.not_not.1 h8
 refine Qt (Qc (Qh [4,3,1,0,10,11,12,14] U (Qd (Qd (Qa (Qb U U (Qj U U (Qg U XN U (Qn U Xk (JB hS7 0 U) U (Qb U U (Qb U U (LZ U U (by omega) (by omega) U ?_))))))))))))
 refine Qb U U (XU ON U (stSet (hS7.sp [1] U) (by omega) s (a%64) bt) U ?_)
 rintro e w9 ⟨_,rfl,(⟨e2,rfl,he2,hbad,hS9⟩ | ⟨r,pg,hs,rfl,ha,hS9⟩)⟩
 ·refine⟨_,rfl, ?_⟩
  replace hS9:=hS9.jn U U
  clear hS7
  refine Qe U U (Qf (Qc (Qh [1,0,10,11,12,16] U (Qd (Qa (Qb U U (X0 U U U (Qf (Qc (Qs U (fun h10=> ?_) (fun h10=> ?_)))))))))))
  ·exact Qd (Qa (Qb U U (Qe U U (Qf (Qc (Qu (Qp (QR (.inr U) U U (⟨_,rfl,L1,V1,e2,rfl,hO.step hI,.inr ⟨he2,hOI.2.1,hOI.tight_set he (by omega) hbad⟩,(Xe (m:=n+5) (by omega) (hS9.pick [0,1,3] U)).reorder [1,0,2] U⟩)))))))))
  exact absurd (Decidable.not_not.1 h10) he2
 refine⟨_,rfl, ?_⟩
 replace hS9:=hS9.jn U U
 clear hS7
 refine Qe U U (Qf (Qc (Qh [1,0,10,11,12,16] U (Qd (Qa (Qb U U (X0 U U U (Qf (Qc (Qs U (fun h11=> ?_) (fun h11=> ?_)))))))))))
 ·exact absurd U h11
 refine Qt (Qc (Qd (Qd (Qa (Qb U U (X0 U U U (Qf (Qc (Qs U (fun h12=> ?_) (fun h12=> ?_))))))))))
 ·exact absurd U h12
 refine Qt (Qc (Qd (Qa (Qe U U (Qf (Qc (Qu (QR (.inr U) U U ?_))))))))
 subst he
 have hfin:=ED (b:=bt) hO hI hs (by omega:0≤a%64∧a%64<64)
 exact⟨_,rfl,L1,_,0,rfl,hfin.1,.inl ⟨rfl,hfin.2⟩,(Xe (m:=n+5) (by omega) (hS9.pick [0,1,3] U)).reorder [1,0,2] U⟩
theorem Cr {w:World} {m:Nat} {b n Fr:Nat} {L:LvD} {V:VS} {F:Th} (hS:Sat w [XY b L,XG L.sp n Fr V,F]) (hn:n≤60000000000) (ob:Bs) (a:Int) (bt:UInt8) (hI:LvI m L V) (hm:m<Zs) {id:Int} {t:TrD} (ht:L.tr id=some t) (hr:0≤a∧a<16384):
    Calls Tryz.prog 10 #[ptrV b 0,intV id,strV ob,intV a,Wu bt] w (Ret fun v w'=> ∃L' V' e,v=intV e∧StepI m L V m 1 1 L' V'∧((e=0∧Q1 L' V'=Z6 (Q1 L V) id (ob,a/ 64) (wrX (Zo (Q1 L V) id (ob,a/ 64)) (a%64) bt))∨(e≠0∧Q1 L' V'=Z6 (Q1 L V) id (ob,a/ 64) (Zo (Q1 L V) id (ob,a/ 64))∧MS V Fr))∧Sat w' [XY b L',XG L'.sp (n+5) Fr V',F]):= by
 have h0:id≠0:=hI.rank.none0 ht
 refine Qm Tryz.func10 U Tryz.ntmps10 U ?_
 refine Qd (Qa (Qe U U (Qf (Qc (Qd (Qa (Qb U U (Qb U U (Qw Y2 U (WF (hS.sp [] U) ob a) U ?_)))))))))
 rintro _ w1 ⟨rfl,hS1⟩
 replace hS1:=hS1.jn U U
 rw[J3 hr]
 refine Qb U U (Qq U U U (Qq U U U (Qq U U U (QX hS1 Z2 U U ?_))))
 intro kb w2 hS2
 clear hS1
 refine QK hS2 U U Xc U (by rfl) (i:=0) U (by decide) ?_
 intro w3 hS3; dsimp only[List.set]at hS3
 clear hS2
 replace hS3:=X5 (k:=(ob,a/ 64)) hS3
 refine Qe U U (Qe U U (Qf (Qc (Qh [4,3,1,0,10,11,12,13] U (Qd (Qv (Qd (Qa (Qb U U (Qb U U (Qw WX U (ZH (hS3.sp [1] U) id) U ?_)))))))))))
 rintro _ w4 ⟨rfl,hS4⟩
 replace hS4:=hS4.jn U U
 clear hS3
 refine QQ U U (Qe U U (Qf (Qc (Qh [4,3,1,0,10,11,12,13,24] U (QN U (fun h5=> ?_) (fun h5=> ?_))))))
 ·exact absurd h5 (by simp [Zt,ht])
 refine Qd (Qa (Qb U U (QQ U U (Qe U U (Qf (Qc (Qh [4,3,1,0,10,11,12,29] U (QN U (fun h6=> ?_) (fun h6=> ?_)))))))))
 ·exact absurd h6 (by decide)
 refine Qt (Qk (Qc (Qd (Qa (Qb U U (Qb U U ?_))))))
 refine Xt U X7 Xc (by first | exact hS4.blk 1 U) (by first | decide | exact Xa U | (simp;done) | omega) U U ?_
 refine Qw TH U (Sg (hS4.sp [0,2] U) (by omega) (hI.rank.ends hm) ht (k:=(ob,a/ 64)) h0 (hI.aliveS id (ob,a/ 64))) U ?_
 rintro _ w7 ⟨L1,V1,t1,x1,L2,V2,s,e,rfl,hT,hO,hS7⟩
 replace hS7:=hS7.jn U U
 clear hS4
 have hW:=BA hT ht hI hO
 refine Qb U U (Qq U U U (Qq U U U (Qe U U (Qe U U (Qf (Qc (Qh [4,3,1,0,10,11,12,14,15] U (Qd (Qd (Qa (Qb U U (X0 U U U (Qf (Qc (Qs U (fun h8=> ?_) (fun h8=> ?_))))))))))))))))
 ·have he:e≠0:=h8
  exact Qd (Qa (Qb U U (Qe U U (Qf (Qc (Qh [4,3,1,0,11,12,14,10] U (Qu (Qp (QR (.inr U) U U (⟨_,rfl,L2,V2,e,rfl,hW.1,.inr ⟨he,hW.2.2.1,hW.2.2.2 (hW.2.1.tight_own he)⟩,(Xe (m:=n+5) (by omega) (hS7.pick [1,0,3] U)).reorder [1,0,2] U⟩))))))))))
 have he:e=0:=Decidable.not_not.1 h8
 refine Qt (Qc (Qh [4,3,1,0,10,11,12,14] U (Qd (Qd (Qa (Qb U U (Qj U U (Qg U XN U (Qn U Xk (JB hS7 0 U) U (Qb U U (Qb U U (LZ U U (by omega) (by omega) U ?_))))))))))))
 refine Qb U U (XU ON U (stSet (hS7.sp [1] U) (by omega) s (a%64) bt) U ?_)
 rintro e w9 ⟨_,rfl,(⟨e2,rfl,he2,hbad,hS9⟩ | ⟨r,pg,hs,rfl,ha,hS9⟩)⟩
 ·refine⟨_,rfl, ?_⟩
  replace hS9:=hS9.jn U U
  clear hS7
  refine Qe U U (Qf (Qc (Qh [1,0,10,11,12,16] U (Qd (Qa (Qb U U (X0 U U U (Qf (Qc (Qs U (fun h10=> ?_) (fun h10=> ?_)))))))))))
  ·exact Qd (Qa (Qb U U (Qe U U (Qf (Qc (Qu (Qp (QR (.inr U) U U (⟨_,rfl,L2,V2,e2,rfl,hW.1,.inr ⟨he2,hW.2.2.1,hW.2.2.2 (hW.2.1.tight_set he (by omega) hbad)⟩,(Xe (m:=n+5) (by omega) (hS9.pick [0,1,3] U)).reorder [1,0,2] U⟩)))))))))
  exact absurd (Decidable.not_not.1 h10) he2
 refine⟨_,rfl, ?_⟩
 replace hS9:=hS9.jn U U
 clear hS7
 refine Qe U U (Qf (Qc (Qh [1,0,10,11,12,16] U (Qd (Qa (Qb U U (X0 U U U (Qf (Qc (Qs U (fun h11=> ?_) (fun h11=> ?_)))))))))))
 ·exact absurd U h11
 refine Qt (Qc (Qd (Qd (Qa (Qb U U (X0 U U U (Qf (Qc (Qs U (fun h12=> ?_) (fun h12=> ?_))))))))))
 ·obtain⟨t2,x2,ht2,hx2,_⟩:=hO.leaf (hT.tr ht) hT.lv
  have hS13:=J5 ht2 hx2 (hS9.pick [1,0,2,3] U)
  have hS14:=hS13.drew
  refine QF [0,1,2,3,4,5,6,7,8,9,10,11,12,13,14,15,16,17,18] [18] We (by kernel_rfl) ?_
  refine QG U U U (Xh U U U (QV U U U Z7 (Q4 U U U (Qr U WN (hS14.cell 6 U U)) (QG U U U (Q4 U U U (Xz (k:=id) 8 hS14 keysInt Tryz.underlying82 U U U Yu (u:=ptrV t2.ad 0) (Zw ht2)) (Xh U U U (QV U U U ZU (Q4 U U U (Qr U Jy (hS14.cell 2 U U)) (Q4 U U U (XF U X7 Xc (hS14.blk 11 U) (Xa U) U) (Q4 U U U (Xz (k:=(ob,a/ 64)) 3 hS14 keysKey Tryz.underlying90 U U U HQ (u:=ptrV x2.ad 0) (Zw hx2)) (Xh U U U (QV U U U ZV (Q4 U U U (Qr U Jm (hS14.cell 0 U U)) (QG U U U (X8 U U U (fun _=>(V9 U U)) ?_)))))))))))))))
  refine Xh U U U (QV U U U ZV (Xn U U U U U U ?_))
  refine Q6 hS14 U U VZ U (i:=0) U (Xa U) ?_
  intro w15 hS15; dsimp only[List.set]at hS15
  clear hS14
  refine Z4 (X1 (by kernel_rfl)) ?_
  refine VC.nil (Qc (Qh [10] U (Qd (Qa (Qe U U (Qf (Qc (Qu (QR (.inr U) U U ?_)))))))))
  have hS16:=W4 (L:=_) (y:={x2 with wr:=x2.wr ||| (1#64<<<(a%64).toNat)}) ht2 hx2 U (hS15.pick [0,1,2,3,4,5,6,7,8,9,10,11,12] U)
  subst he
  have hfin:=EB (b:=bt) hT ht hI hO ht2 hx2 hs (by omega:0≤a%64∧a%64<64)
  exact⟨_,rfl,_,_,0,rfl,hfin.1,.inl ⟨rfl,hfin.2⟩,(Xe (m:=n+5) (by omega) (hS16.pick [1,0,3] U)).reorder [1,0,2] U⟩
 exact absurd (Decidable.not_not.1 h12) h0
end Go.Proofs.YtkcjfoaejijdoaaGreatDoor
namespace Go.Proofs.YtkcjfoaejijdoaaGreatDoor
open Go.RowKit M
variable [Inhabited SlW]
section
variable {L L1 L':LvD} {V V1 V':VS} {id:Int} {t t1 t':TrD} {k:KD} {x y x1:LfD} {m Fr:Nat} {a:Int}
theorem EP (hI:LvI m L V) (ht:L.tr id=some t) (hx:t.lv k=some x) (hb:y.base=x.base) (ho:y.own=x.own) (hg:NH (Wl V y)):
    LvI m (Z1 L id t k y) V∧Q1 (Z1 L id t k y) V=Z6 (Q1 L V) id k (Wl V y):= by
  generalize hL':Z1 L id t k y=L'
  have hP:L'.pres=L.pres:= by subst hL';rfl
  have hT:L'.tr=Xi L.tr id (some {t with lv:=Xi t.lv k (some y)}):= by subst hL';rfl
  have hf: ∀q,QJ L' q=QJ L q:= fun q=> by
    rw[Y0 (x:=y) hP hT ht U,hb,ho]
    rw[Yf (f:=QJ L) (v:=x.base) (by rw[Xj ht hx];rfl),Yf (by rw[Xj ht hx];rfl)]
  have e1:Q1 L' V=Z6 (Q1 L V) id k (Wl V y):=Yb hP hT ht U fun _ _ _=>rfl
  exact⟨⟨hI.ref.fn hf, by rw[hT]; exact hI.rank.same (WA ht U), by rw[e1]; exact hI.agree.put hg⟩,e1⟩
theorem TouR.step (hT:TouR L V id t k L1 V1 t1 x1) (ht:L.tr id=some t) (hI:LvI m L V):StepI m L V m 0 1 L1 V1:= by
  obtain⟨h1,h2,h3,h4,h5⟩:=hT.inv ht hI
  exact⟨h1,hT.sp, fun c q=>(h4 c q).mono (by omega), fun c q=>hT.sz ht q⟩
theorem Bz (hT:TouR L V id t k L1 V1 t1 x1) (ht:L.tr id=some t) (hI:LvI m L V) {rd wr:BitVec 64} (hw: ∀j,j<64→wr.getLsbD j=false→x1.wr.getLsbD j=false):
    StepI m L V m 0 1 (Z1 L1 id t1 k {x1 with rd:=rd,wr:=wr}) V1∧Q1 (Z1 L1 id t1 k {x1 with rd:=rd,wr:=wr}) V1=Z6 (Q1 L V) id k {Zo (Q1 L V) id k with rd:=rd,wr:=wr}:= by
  obtain⟨h1,h2,h3,h4,h5⟩:=hT.inv ht hI
  obtain⟨a1,a2⟩:=EP (y:={x1 with rd:=rd,wr:=wr}) h1 (hT.tr ht) hT.lv rfl rfl (fun j hj h=>(h1.agree id _ k _ (Zk (hT.tr ht)) (ZC hT.lv)) j hj (hw j hj h))
  refine⟨⟨a1,hT.sp, fun c q=>(h4 c q).mono (by omega), fun c q=>(hT.sz ht q).putOld (hT.tr ht) hT.lv U U⟩, ?_⟩
  rw[a2,h3,HZ]
  congr 1
  rw[←h2];rfl
def rdX (x:LfA) (a:Int):LfA:={x with rd:=x.rd ||| ((1#64<<<a.toNat)&&& ~~~x.wr)}
def NI (c:Bs) (a:Int):UInt8:=c.getD a.toNat 0
theorem Ig {s:Int} (ha:0≤a∧a<64):btV V s a=NI (XH V s) a:= by unfold btV NI; rw[if_pos ha]
theorem LH (hT:TouR L V id t k L1 V1 t1 x1) (ht:L.tr id=some t) (hI:LvI m L V) (ha:0≤a∧a<64):
    StepI m L V m 0 1 (Z1 L1 id t1 k {x1 with rd:=x1.rd ||| ((1#64<<<a.toNat)&&& ~~~x1.wr)}) V1∧Q1 (Z1 L1 id t1 k {x1 with rd:=x1.rd ||| ((1#64<<<a.toNat)&&& ~~~x1.wr)}) V1=Z6 (Q1 L V) id k (rdX (Zo (Q1 L V) id k) a)∧btV V1 x1.own a=NI (Zo (Q1 L V) id k).own a:= by
  obtain⟨h1,h2,h3,h4,h5⟩:=hT.inv ht hI
  obtain⟨a1,a2⟩:=Bz hT ht hI (rd:=x1.rd ||| ((1#64<<<a.toNat)&&& ~~~x1.wr)) (wr:=x1.wr) fun _ _ h=>h
  have e:x1.wr=(Zo (Q1 L V) id k).wr:= by rw[←h2];rfl
  have e2:x1.rd=(Zo (Q1 L V) id k).rd:= by rw[←h2];rfl
  refine⟨a1, ?_, by rw[Ig ha,←h2];rfl⟩
  rw[a2,e,e2];rfl
theorem RankI.beg {T:Int→Option TrD} (h:RankI T m) {i p:Int} {u:TrD} (hi:1≤i) (hn:T i=none) (hp:u.parent=0∨T u.parent≠none):RankI (Xi T i (some u)) (m+1):= by
  obtain⟨h0,r,a,b⟩:=h
  refine⟨by rw[Q7 (by omega)]; exact h0,UA r i (r u.parent+1), fun j=> ?_, fun j v hj=> ?_⟩
  · by_cases e:j=i
    · subst e; rw[X4]; have :=a u.parent;omega
    · rw[XM e]; have :=a j;omega
  · have hsome: ∀q,T q≠none→Xi T i (some u) q≠none∧q≠i:= fun q hq=> by
      have :q≠i:= fun e=>hq (e▸hn)
      exact⟨by rw[Q7 this]; exact hq,this⟩
    by_cases e:j=i
    · subst e
      rw[Qy]at hj
      cases hj
      rcases hp with hp | hp
      · exact .inl hp
      · obtain⟨h1,h2⟩:=hsome _ hp
        exact .inr ⟨h1, by rw[X4,XM h2];omega⟩
    · rw[Q7 e]at hj
      rcases b j v hj with h1 | ⟨h1,h2⟩
      · exact .inl h1
      · obtain⟨h3,h4⟩:=hsome _ h1
        exact .inr ⟨h3, by rw[XM e,XM h4]; exact h2⟩
def DR (A:LvA) (id parent:Int):Int:= if id<1 then 1 else if(A.tr id).isSome=true then 5 else if Ta A parent=false then 4 else 0
noncomputable def GG (A:LvA) (id parent:Int):LvA:= if DR A id parent=0 then{A with tr:=Xi A.tr id (some ⟨parent, fun _=>none, fun _=>false⟩)}else A
theorem NE {parent:Int}:DR (Q1 L V) id parent=JE L id parent:= by unfold DR JE; rw[F3]; simp [Q1]
theorem beg_fin (hI:LvI m L V) {parent:Int} {ad ml md:Nat}:StepI m L V (m+1) 0 0 (ND L id parent ad ml md) V∧Q1 (ND L id parent ad ml md) V=GG (Q1 L V) id parent:= by
  unfold GG
  rw[NE]
  unfold ND
  by_cases he:JE L id parent=0
  · rw[if_pos he,if_pos he]
    have h1: ¬id<1:= fun q=> by unfold JE at he; rw[if_pos q]at he;omega
    have h2:L.tr id=none:= by
      unfold JE at he; rw[if_neg h1]at he
      cases q:L.tr id with
      | none=>rfl
      | some u=> rw[q]at he; simp at he
    have h3:Zt L parent=true:= by
      unfold JE at he; rw[if_neg h1,h2]at he
      cases q:Zt L parent with
      | true=>rfl
      | false=> rw[q]at he; simp at he
    have h4:parent=0∨L.tr parent≠none:= by
      unfold Zt at h3
      simp only[Bool.or_eq_true,decide_eq_true_eq]at h3
      exact h3.imp_right fun q e=> by rw[e]at q; cases q
    generalize hL':({L with tr:=Xi L.tr id (some ⟨ad,ml,md,parent, fun _=>none, fun _=>false⟩)}:LvD)=L'
    have hP:L'.pres=L.pres:= by subst hL';rfl
    have hT:L'.tr=Xi L.tr id (some ⟨ad,ml,md,parent, fun _=>none, fun _=>false⟩):= by subst hL';rfl
    have hf: ∀q,QJ L' q=QJ L q:= fun q=> by
      cases q with
      | inl j=> simp [QJ,hP]
      | inr q=>
        obtain⟨i,j,o⟩:=q
        simp only[QJ,hT]
        by_cases e:i=id
        · subst e; rw[Qy,h2]
        · rw[Q7 e]
    have e1:Q1 L' V={Q1 L V with tr:=Xi (Q1 L V).tr id (some ⟨parent, fun _=>none, fun _=>false⟩)}:= by
      unfold Q1
      rw[hP,hT]
      congr 1
      funext i
      by_cases e:i=id
      · subst e; rw[Qy,Qy];rfl
      · rw[Q7 e,Q7 e]
    refine⟨⟨⟨hI.ref.fn hf, by rw[hT]; exact hI.rank.beg (p:=parent) (by omega) h2 h4, ?_⟩, by subst hL';rfl, fun _ q=>q, fun c q=> ?_⟩,e1⟩
    · rw[e1]
      intro i u k x hi hk
      dsimp only at hi
      by_cases e:i=id
      · subst e; rw[Qy]at hi; cases hi; cases hk
      · rw[Q7 e]at hi; exact hI.agree i u k x hi hk
    · obtain⟨l,a,b,d⟩:=q
      refine⟨l,a, fun k hk=>b k (by rwa [hP]at hk), fun j u k x hj hk=> ?_⟩
      rw[hT]at hj
      by_cases e:j=id
      · subst e; rw[Qy]at hj; cases hj; cases hk
      · rw[Q7 e]at hj; exact d j u k x hj hk
  · rw[if_neg he,if_neg he]
    exact⟨⟨⟨hI.ref,(by obtain⟨h0,r,a,b⟩:=hI.rank; exact⟨h0,r, fun i=>Nat.le_succ_of_le (a i),b⟩),hI.agree⟩,rfl, fun _ q=>q, fun _ q=>q⟩,rfl⟩
def Sr (L:LvD) (id:Int) (k:KD):Bool:= match L.tr id with | none=>false | some t=>(t.lv k).isSome
def DI (L:LvD) (V:VS) (id:Int) (k:KD):Bool:=decide (X2 L id k≠0)&&(decide (Zc V (X2 L id k)=1)&&(decide (id=0) || Sr L id k))
def Vt (L:LvD) (id page:Int):Bool:=decide (0≤page∧page<256)&&Zt L id
end
theorem MJ {w:World} {m:Nat} {b n Fr:Nat} {L:LvD} {V:VS} {F:Th} (hS:Sat w [XY b L,XG L.sp n Fr V,F]) (hn:n≤60000000000) (ob:Bs) (a:Int) (hI:LvI m L V) (hm:m<Zs) {id:Int} {t:TrD} (ht:L.tr id=some t) (hr:0≤a∧a<16384):
    Calls Tryz.prog 12 #[ptrV b 0,intV id,strV ob,intV a] w (Ret fun v w'=> ∃L' V',v=Wu (NI (Zo (Q1 L V) id (ob,a/ 64)).own (a%64))∧StepI m L V m 0 1 L' V'∧Q1 L' V'=Z6 (Q1 L V) id (ob,a/ 64) (rdX (Zo (Q1 L V) id (ob,a/ 64)) (a%64))∧Sat w' [XY b L',XG L'.sp (n+2) Fr V',F]):= by
  refine(Ib hS hn (hI.rank.ends hm) ht (hI.rank.none0 ht) ob a hr).mono fun e w h=>h.mono fun v w h=> ?_
  obtain⟨L1,V1,t1,x1,hT,rfl,h⟩:=h
  obtain⟨h1,h2,h3⟩:=LH hT ht hI (by omega:0≤a%64∧a%64<64)
  exact⟨_,_, by rw[h3],h1,h2,h⟩
theorem MK {w:World} {m:Nat} {b n Fr:Nat} {L:LvD} {V:VS} {F:Th} (hS:Sat w [XY b L,XG L.sp n Fr V,F]) (hn:n≤60000000000) (ob:Bs) (a:Int) (hI:LvI m L V) (hm:m<Zs) (hr:0≤a∧a<16384):
    Calls Tryz.prog 12 #[ptrV b 0,intV 0,strV ob,intV a] w (Ret fun v w'=>v=Wu (NI ((Q1 L V).pres (ob,a/ 64)) (a%64))∧Sat w' [XY b L,XG L.sp n Fr V,F]):= by
  refine(If hS hn ob a (hI.rank.ends hm) hr).mono fun e w h=>h.mono fun v w h=> ?_
  exact⟨by rw[h.1,Ig (by omega)];rfl,h.2⟩
theorem Fg {w:World} {m b n Fr:Nat} {L:LvD} {V:VS} {F:Th} (hS:Sat w [XY b L,XG L.sp n Fr V,F]) (hI:LvI m L V) (id parent:Int):
    Calls Tryz.prog 11 #[ptrV b 0,intV id,intV parent] w (Ret fun v w'=> ∃L',v=intV (DR (Q1 L V) id parent)∧StepI m L V (m+1) 0 0 L' V∧Q1 L' V=GG (Q1 L V) id parent∧Sat w' [XY b L',XG L'.sp n Fr V,F]):= by
  refine(Il (hS.split [0] [true,false,false] U) id parent).mono fun e w h=>h.mono fun v w h=> ?_
  obtain⟨rfl,ad,ml,md,h⟩:=h
  have h1:=h.join U
  obtain⟨h2,h3⟩:=beg_fin (id:=id) (parent:=parent) (ad:=ad) (ml:=ml) (md:=md) hI
  refine⟨_, by rw[NE],h2,h3, ?_⟩
  rw[h2.sp]; exact h1
theorem Mh {w:World} {b n Fr:Nat} {L:LvD} {V:VS} {F:Th} (hS:Sat w [XY b L,XG L.sp n Fr V,F]) (hE: ∀i,YS L.tr Zs i) (ob:Bs) (page:Int) (hok:Vt L 0 page=true):
    Calls Tryz.prog 33 #[ptrV b 0,intV 0,strV ob,intV page] w (Ret fun v w'=>v= .tuple #[intV (X2 L 0 (ob,page)),.bool (DI L V 0 (ob,page))]∧Sat w' [XY b L,XG L.sp n Fr V,F]):= by
 refine Qm Tryz.func33 U Tryz.ntmps33 U ?_
 refine Qd (Qa (Qe U U (Qe U U (Qf (Qc (Qd (Qd (Qa (Qb U U (Xg U U U (Qb U U (QU 14 U (fun h1=> ?_) (fun h1=> ?_)))))))))))))
 ·exact absurd hok (by unfold Vt; rw[QC (by omega: ¬(0≤page∧page<256))]; simp)
 refine Ql U U (QC h1) (Qb U U (Ql U U (QC h1) (JA U U U (QP U (QC h1) U U (Qb U U (QU 18 U (fun h2=> ?_) (fun h2=> ?_)))))))
 ·exact absurd hok (by unfold Vt; rw[QC (by omega: ¬(0≤page∧page<256))]; simp)
 refine Ql U U (QC h2) (Qb U U (Ql U U (QC h2) (Qb U U (Ql U U (QC h2) (Qw WX U (ZH (hS.sp [0] U) 0) U ?_)))))
 rintro _ w3 ⟨rfl,hS3⟩
 replace hS3:=hS3.jn U U
 refine Ql U U (QC h2) (QQ U U (QP U (QC h2) U U (Qf (Qc (Qh [3,2,1,0,8,9,23] U (QN U (fun h4=> ?_) (fun h4=> ?_)))))))
 ·exact absurd hok (by unfold Vt; simp at h4; simp [h4])
 refine Qt (Qc (Qd (Qa (Qb U U (Qb U U (Zu U Yc HN Z2 U U (QX hS3 Z2 U U ?_)))))))
 intro kb w5 hS5
 clear hS3
 refine QK hS5 U U Xc U (by rfl) (i:=0) U (by decide) ?_
 intro w6 hS6; dsimp only[List.set]at hS6
 clear hS5
 replace hS6:=X5 (k:=(ob,page)) hS6
 refine Qf (Qc (Qh [1,0,8,9,10] U (Qd (Qa (Qb U U (Qb U U ?_))))))
 refine Xt U X7 Xc (by first | exact hS6.blk 0 U) (by first | decide | exact Xa U | (simp;done) | omega) U U ?_
 refine Qw HM U (H7 (hS6.sp [1] U) hE 0 (ob,page)) U ?_
 rintro _ w7 ⟨rfl,hS7⟩
 replace hS7:=hS7.jn U U
 clear hS6
 refine Qe U U (Qf (Qc (Qd ?_)))
 have hS8:=Xy (hS7.pick [0,1,2,3] U)
 have hS9:=hS8.drew
 refine QF [0,1,2,3,4,5,6,7,8,9,10,11,12,13,14,15,16,17,18,19,20,21,22,23,24,25,26,27,28,29,30,31] [9] We (by kernel_rfl) ?_
 refine QG U U U (QG U U U (X8 U U U (fun _=>(Tz U U)) ?_))
 refine QG U U U (HR 34 U (fun h10=> ?_) (fun h10=> ?_))
 ·refine X8 U U (XD U U (Xl h10)) (fun _=>(Ev.gd (XO U))) ?_
  refine X8 U U (XD U U (Xl h10)) (fun _=>(Ev.gd (YI U))) ?_
  refine X8 U U (XD U U (Xl h10)) (fun _=>(Ev.gd (Yq U XN))) ?_
  refine Q4 U U (XD U U (Xl h10)) (Ev.gd (Qr U Xk (hS9.cell 0 U U))) (X8 U U (XD U U (Xl h10)) (fun _=>(Ev.gd (XO U))) ?_)
  refine Xn U U (XD U U (Xl h10)) U U U ?_
  refine Qw Dw U (B4 (hS9.sp [6] U) (X2 L 0 (ob,page))) U ?_
  rintro _ w11 ⟨rfl,hS11⟩
  replace hS11:=hS11.jn U U
  clear hS9
  refine XQ (X1 (by kernel_rfl)) ?_
  refine X8 U U (XD U U (Xl h10)) (fun _=>(Ev.gd (U5 U U))) ?_
  refine X8 U U U (fun _=>(UZ U (Xl h10) U)) ?_
  refine QG U U U (HR 43 U (fun h12=> ?_) (fun h12=> ?_))
  ·refine X8 U U (XD U U (Xl h12)) (fun _=>(Ev.gd (XO U))) ?_
   refine X8 U U (XD U U (Xl h12)) (fun _=>(Ev.gd (U5 U U))) ?_
   refine X8 U U (XD U U (Xl h12)) (fun _=>(Ev.gd (XO U))) ?_
   refine HR 46 U (fun h13=> ?_) (fun h13=> ?_)
   ·refine Xx U U (XB U U (Xl h13)) (Xx U U (XB U U (Xl h13)) (Xx U U (XB U U (Xl h13)) (Xx U U (XB U U (Xl h13)) (Xx U U (XB U U (Xl h13)) (Xx U U (XB U U (Xl h13)) (Xx U U (XB U U (Xl h13)) (Xx U U (XB U U (Xl h13)) (Xx U U (XB U U (Xl h13)) (Xx U U (XB U U (Xl h13)) (Xx U U (XB U U (Xl h13)) (Xx U U (XB U U (Xl h13)) (X8 U U (XD U U (Xl h12)) (fun _=>(Ev.gd (UZ U (Xl h13) U))) ?_))))))))))))
    refine X8 U U U (fun _=>(UZ U (Xl h12) U)) ?_
    exact Za U U U (Za U U U (VC.nil (Qc (Qh [8,9] U (Qu (WW (.inr U) U U U (⟨_,rfl, by simp [DI,Sr, *],QZ (hS11.pick [1,2,3,4,5,0,7] U)⟩)))))))
   exact absurd U h13
  refine Xx U U (XB U U (QC h12)) (Xx U U (XB U U (QC h12)) (Xx U U (XB U U (QC h12)) (Xx U U (X6 U U) (Xx U U (X6 U U) (Xx U U (X6 U U) (Xx U U (X6 U U) (Xx U U (X6 U U) (Xx U U (X6 U U) (Xx U U (X6 U U) (Xx U U (X6 U U) (Xx U U (X6 U U) (Xx U U (X6 U U) (Xx U U (X6 U U) (Xx U U (X6 U U) (Xx U U (XB U U (QC h12)) (X8 U U U (fun _=>(Uh U (QC h12) U)) ?_))))))))))))))))
  exact Za U U U (Za U U U (VC.nil (Qc (Qh [8,9] U (Qu (WW (.inr U) U U U (⟨_,rfl, by simp [DI,Sr, *],QZ (hS11.pick [1,2,3,4,5,0,7] U)⟩)))))))
 refine Xx U U (XB U U (QC h10)) (Xx U U (XB U U (QC h10)) (Xx U U (XB U U (QC h10)) (Xx U U (XB U U (QC h10)) (Xx U U (XB U U (QC h10)) (VC.spineNot U U (XB U U (QC h10)) (Xx U U (XB U U (QC h10)) (X8 U U U (fun _=>(Uh U (QC h10) U)) ?_)))))))
 refine QG U U U (Xx U U (XB U U U) (Xx U U (XB U U U) (Xx U U (XB U U U) (Xx U U (X6 U U) (Xx U U (X6 U U) (Xx U U (X6 U U) (Xx U U (X6 U U) (Xx U U (X6 U U) (Xx U U (X6 U U) (Xx U U (X6 U U) (Xx U U (X6 U U) (Xx U U (X6 U U) (Xx U U (X6 U U) (Xx U U (X6 U U) (Xx U U (X6 U U) (Xx U U (XB U U U) (X8 U U U (fun _=>(Uh U U U)) ?_)))))))))))))))))
 exact Za U U U (Za U U U (VC.nil (Qc (Qh [8,9] U (Qu (WW (.inr U) U U U (⟨_,rfl, by simp [DI,Sr, *],QZ (hS9.pick [0,1,2,3,4,6,7] U)⟩)))))))
end Go.Proofs.YtkcjfoaejijdoaaGreatDoor
namespace Go.Proofs
open Go.Shelf
def Tryz.tz64_ren:Go.Shelf.Ren:=⟨fun | 29=>56 | n=>n, fun | 22=>22 | 3=>3 | 4=>4 | 25=>31 | 54=>166 | 0=>0 | 5=>5 | n=>n, fun | 1=>0 | n=>n⟩
theorem Tryz.tz64:Go.Proofs.Lays7.n29 Tryz.prog Tryz.tz64_ren:={
  mixed:= by kernel_rfl
  f29:=Tryz.func56.trans (congrArg some (by kernel_rfl))
  t0:=Tryz.underlying0
  a0:=Tryz.isAgg0
  z0:=Tryz.sizeOf0
  v0:=Tryz.zeroValue0
  i0:= by kernel_rfl
  t3:=Tryz.underlying3
  a3:=Tryz.isAgg3
  z3:=Tryz.sizeOf3
  v3:=Tryz.zeroValue3
  i3:= by kernel_rfl
  t4:=Tryz.underlying4
  a4:=Tryz.isAgg4
  z4:=Tryz.sizeOf4
  v4:=Tryz.zeroValue4
  i4:= by kernel_rfl
  t5:=Tryz.underlying5
  a5:=Tryz.isAgg5
  z5:=Tryz.sizeOf5
  v5:=Tryz.zeroValue5
  i5:= by kernel_rfl
  t22:=Tryz.underlying22
  a22:=Tryz.isAgg22
  z22:=Tryz.sizeOf22
  v22:=Tryz.zeroValue22
  i22:= by kernel_rfl
  t25:=Tryz.underlying31
  a25:=Tryz.isAgg31
  z25:=Tryz.sizeOf31
  v25:=Tryz.zeroValue31
  i25:= by kernel_rfl
  t54:=Tryz.underlying166
  a54:=Tryz.isAgg166
  z54:=Tryz.sizeOf166
  g1:= by kernel_rfl}
end Go.Proofs
