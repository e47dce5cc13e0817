/- leaves: SetByte -/
import Derived.Test.YtkcjfoaejijdoaaGreatDoorLv5
set_option linter.unusedVariables false
set_option maxRecDepth 100000
set_option maxHeartbeats 80000000000
namespace Go.Proofs.YtkcjfoaejijdoaaGreatDoor
open Go.RowKit M
set_option linter.unusedSectionVars false
variable [Inhabited SlW]
def DD (A:LvA) (id:Int):Bool:=decide (id=0) || (A.tr id).isSome
theorem T1 {L:LvD} {V:VS} {id:Int}:DD (Q8 L V) id=Z8 L id:= by simp [DD,Z8,Q8]
theorem Ut {A:LvA} {id:Int} {k:KD} {x y:LfA}:ZA (ZA A id k x) id k y=ZA A id k y:= by
  cases h:A.tr id with
  | none=>unfold ZA; simp [h]
  | some t=>
    rw[ZS h,ZS (t:={t with lv:=Xz t.lv k (some x)}) Q1,ZS h]
    simp only[YK]
section
variable {L L1 L2 L':LvD} {V V1 V2 V':VS} {id:Int} {t t1 t2:TrD} {k:KD} {x1 x2:LfD} {m Fr:Nat} {s e a r:Int} {pg:Bs} {b:UInt8} {p:Pl}
theorem OwnI.tight_own (h:OwnI L V p m Fr L' V' s e) (he:e≠0):Cl V Fr:= by
  rcases h.2.2.2.2 with⟨_,_,hg⟩ | ⟨h0,_⟩
  · exact fun c q=> by have :=HY q hg;omega
  · exact absurd h0 he
theorem OwnI.tight_set (h:OwnI L V p m Fr L' V' s e) (he:e=0) (ha:0≤a∧a<64) (hb:V' s=none∨1<Zz V' s∨a<0∨64≤a∨Ho V' Fr):Cl V Fr:= by
  rcases h.2.2.2.2 with⟨h1,_,hg⟩ | ⟨h0,h1,h2,h3⟩
  · omega
  · rcases hb with hb | hb | hb | hb | hb
    · rw[UM hb]at h2;omega
    · omega
    · omega
    · omega
    · exact fun c q=> by have :=HY (h.2.2.1 c q) hb;omega
theorem OwnP.step (hO:OwnP L V k Fr L' V' s e) (hI:LvI m L V):StepI m L V m 1 1 L' V':= by
  refine⟨(hO.inv hI).1.1, ?_,(hO.inv hI).1.2.2.1, fun c q=>hO.sz q⟩
  rcases hO with⟨_,_,_,_,rfl,_⟩ | ⟨_,_,_,rfl,_⟩ | ⟨_,_,_,_,_,rfl⟩<;>rfl
noncomputable def wrP (A:LvA) (k:KD) (a:Int) (b:UInt8):LvA:={A with pres:=Vn A.pres k ((A.pres k).set a.toNat b)}
theorem Oz (hO:OwnP L V k Fr L' V' s 0) (hI:LvI m L V) (hs:V' s=some (r,pg)) (ha:0≤a∧a<64):StepI m L V m 1 1 L' (Xz V' s (some (r,pg.set a.toNat b)))∧Q8 L' (Xz V' s (some (r,pg.set a.toNat b)))=wrP (Q8 L V) k a b:= by
  have h1:=(hO.inv hI).1
  have h2:=hO.step hI
  obtain⟨c1,c2,c3⟩:s≠0∧Zz V' s=1∧Xw L' (.inl k)=s:= by
    rcases h1.2.2.2.2 with⟨q,_⟩ | ⟨_,q⟩
    · omega
    · exact q
  obtain⟨d1,d2⟩:=Ov (b:=b) h1.1 c2 hs c3 ha
  refine⟨⟨d1,h2.sp, fun c q=>(h2.al c q).sub fun j hj=> ?_,h2.sz⟩, by rw[d2,h1.2.1];rfl⟩
  by_cases e:j=s
  · subst e; rw[hs]; simp
  · rwa [QI e]at hj
theorem NR (hT:TouR L V id t k L1 V1 t1 x1) (ht:L.tr id=some t) (hI:LvI m L V) (hO:OwnT L1 V1 id t1 k x1 Fr L2 V2 s e):
    StepI m L V m 1 1 L2 V2∧OwnI L1 V1 (.inr (id,k,true)) m Fr L2 V2 s e∧Q8 L2 V2=ZA (Q8 L V) id k (Zi (Q8 L V) id k)∧(Cl V1 Fr→Cl V Fr):= by
  obtain⟨h1,h2,h3,h4,h5⟩:=hT.inv ht hI
  have h6:=(hO.inv (hT.tr ht) hT.lv h1).1
  exact⟨⟨h6.1,hO.sp.trans hT.sp, fun c q=>h6.2.2.1 c (h4 c q), fun c q=>hO.sz (hT.tr ht) hT.lv (hT.sz ht q)⟩,h6,h6.2.1.trans h3, fun q c hc=>q c (h4 c hc)⟩
def wrX (x:LfA) (a:Int) (b:UInt8):LfA:={x with own:=x.own.set a.toNat b,wr:=x.wr ||| (1#64<<<a.toNat)}
theorem Ow (hT:TouR L V id t k L1 V1 t1 x1) (ht:L.tr id=some t) (hI:LvI m L V) (hO:OwnT L1 V1 id t1 k x1 Fr L2 V2 s 0) (ht2:L2.tr id=some t2) (hx2:t2.lv k=some x2) (hs:V2 s=some (r,pg)) (ha:0≤a∧a<64):
    StepI m L V m 1 1 (Zs L2 id t2 k {x2 with wr:=x2.wr ||| (1#64<<<a.toNat)}) (Xz V2 s (some (r,pg.set a.toNat b)))∧
    Q8 (Zs L2 id t2 k {x2 with wr:=x2.wr ||| (1#64<<<a.toNat)}) (Xz V2 s (some (r,pg.set a.toNat b)))=ZA (Q8 L V) id k (wrX (Zi (Q8 L V) id k) a b):= by
  obtain⟨h1,h2,h3,h4⟩:=NR hT ht hI hO
  obtain⟨g1,g2,g3,g4,g5⟩:=hT.inv ht hI
  obtain⟨c1,c2,c3⟩:s≠0∧Zz V2 s=1∧Xw L2 (.inr (id,k,true))=s:= by
    rcases h2.2.2.2.2 with⟨q,_⟩ | ⟨_,q⟩
    · omega
    · exact q
  obtain⟨d1,d2⟩:=Ou (b:=b) h2.1 c2 hs c3 ht2 hx2 ha
  have d3:Wy V2 x2=Zi (Q8 L V) id k:=(qbf h2.2.1 (hT.tr ht) hT.lv ht2 hx2).trans g2
  have d4:x2.wr=(Zi (Q8 L V) id k).wr:= by rw[←d3];rfl
  refine⟨⟨d1,h1.sp, fun c q=>(h1.al c q).sub fun j hj=> ?_, fun c q=>(h1.sz c q).putOld ht2 hx2 rfl rfl⟩, ?_⟩
  · by_cases e:j=s
    · subst e; rw[hs]; simp
    · rwa [QI e]at hj
  · rw[d2,h3,Ut,d3,d4];rfl
end
theorem NP {w:World} {b n Fr:Nat} {L:LvD} {V:VS} {F:Th} (hS:Sat w [ZY b L,Zq L.sp n Fr V,F]) (hn:n≤60000000000) (ob:Bs) (a:Int) (bt:UInt8) (id:Int) (hr: ¬(0≤a∧a<16384)) (hth:Z8 L id=true):
    Calls Tryz.prog 10 #[ptrV b 0,intV id,strV ob,intV a,XS bt] w (Ret fun v w'=>v=intV 0∧Sat w' [ZY b L,Zq L.sp n Fr V,F]):= by
 refine Qq Tryz.func10 rfl Tryz.ntmps10 rfl ?_
 refine Qd (Qa (Qe rfl rfl (Qf (Qc (Qd (Qa (Qb rfl rfl (Qb rfl rfl (Qv Be rfl (Uv (hS.sp [] rfl) ob a) rfl ?_)))))))))
 rintro _ w1 ⟨rfl,hS1⟩
 replace hS1:=hS1.jn rfl rfl
 rw[Ma hr]
 refine Qb rfl rfl (Qt rfl rfl rfl (Qt rfl rfl rfl (Qt rfl rfl rfl (Xg hS1 ZM rfl rfl ?_))))
 intro kb w2 hS2
 clear hS1
 refine QY hS2 rfl rfl Xh rfl (by rfl) (i:=0) rfl (by decide) ?_
 intro w3 hS3; dsimp only[List.set]at hS3
 clear hS2
 replace hS3:=XM (k:=([],0)) hS3
 refine Qe rfl rfl (Qe rfl rfl (Qf (Qc (Qi [4,3,1,0,10,11,12,13] rfl (Qd (Qw (Qd (Qa (Qb rfl rfl (Qb rfl rfl (Qv Hd rfl (Jd (hS3.sp [1] rfl) id) rfl ?_)))))))))))
 rintro _ w4 ⟨rfl,hS4⟩
 replace hS4:=hS4.jn rfl rfl
 clear hS3
 refine QR rfl rfl (Qe rfl rfl (Qf (Qc (Qi [4,3,1,0,10,11,12,13,24] rfl (QM rfl (fun h5=> ?_) (fun h5=> ?_))))))
 ·exact absurd hth (by simpa using h5)
 refine Qd (Qa (Qb rfl rfl (QR rfl rfl (Qe rfl rfl (Qf (Qc (Qi [4,3,1,0,10,11,12,29] rfl (QM rfl (fun h6=> ?_) (fun h6=> ?_)))))))))
 ·exact Qd (Qa (Qe rfl rfl (Qf (Qc (Qu (Qx (Qn (QQ (.inr rfl) rfl rfl (⟨_,rfl,rfl,hS4.pick [0,2,3] rfl⟩)))))))))
 exact absurd h6 (by decide)
theorem Om {w:World} {m:Nat} {b n Fr:Nat} {L:LvD} {V:VS} {F:Th} (hS:Sat w [ZY b L,Zq L.sp n Fr V,F]) (hn:n≤60000000000) (ob:Bs) (a:Int) (bt:UInt8) (hI:LvI m L V) (hm:m<Zp) (hr:0≤a∧a<16384):
    Calls Tryz.prog 10 #[ptrV b 0,intV 0,strV ob,intV a,XS bt] w (Ret fun v w'=> ∃L' V' e,v=intV e∧StepI m L V m 1 1 L' V'∧((e=0∧Q8 L' V'=wrP (Q8 L V) (ob,a/ 64) (a%64) bt)∨(e≠0∧Q8 L' V'=Q8 L V∧Cl V Fr))∧Sat w' [ZY b L',Zq L'.sp (n+5) Fr V',F]):= by
 refine Qq Tryz.func10 rfl Tryz.ntmps10 rfl ?_
 refine Qd (Qa (Qe rfl rfl (Qf (Qc (Qd (Qa (Qb rfl rfl (Qb rfl rfl (Qv Be rfl (Uv (hS.sp [] rfl) ob a) rfl ?_)))))))))
 rintro _ w1 ⟨rfl,hS1⟩
 replace hS1:=hS1.jn rfl rfl
 rw[Kl hr]
 refine Qb rfl rfl (Qt rfl rfl rfl (Qt rfl rfl rfl (Qt rfl rfl rfl (Xg hS1 ZM rfl rfl ?_))))
 intro kb w2 hS2
 clear hS1
 refine QY hS2 rfl rfl Xh rfl (by rfl) (i:=0) rfl (by decide) ?_
 intro w3 hS3; dsimp only[List.set]at hS3
 clear hS2
 replace hS3:=XM (k:=(ob,a/ 64)) hS3
 refine Qe rfl rfl (Qe rfl rfl (Qf (Qc (Qi [4,3,1,0,10,11,12,13] rfl (Qd (Qw (Qd (Qa (Qb rfl rfl (Qb rfl rfl (Qv Hd rfl (Jd (hS3.sp [1] rfl) 0) rfl ?_)))))))))))
 rintro _ w4 ⟨rfl,hS4⟩
 replace hS4:=hS4.jn rfl rfl
 clear hS3
 refine QR rfl rfl (Qe rfl rfl (Qf (Qc (Qi [4,3,1,0,10,11,12,13,24] rfl (QM rfl (fun h5=> ?_) (fun h5=> ?_))))))
 ·exact absurd h5 (by simp [Z8])
 refine Qd (Qa (Qb rfl rfl (QR rfl rfl (Qe rfl rfl (Qf (Qc (Qi [4,3,1,0,10,11,12,29] rfl (QM rfl (fun h6=> ?_) (fun h6=> ?_)))))))))
 ·exact absurd h6 (by decide)
 refine Qr (Ql (Qc (Qd (Qa (Qb rfl rfl (Qb rfl rfl ?_))))))
 refine XA rfl X9 Xh (by first | exact hS4.blk 1 rfl) (by first | decide | exact Xn rfl | (simp;done) | omega) rfl rfl ?_
 refine Qv qay rfl (own0_sp (hS4.sp [0,2] rfl) (by omega) (hI.rank.ends hm) (k:=(ob,a/ 64)) (hI.alive (.inl (ob,a/ 64)))) rfl ?_
 rintro _ w7 ⟨L1,V1,s,e,rfl,hO,hS7⟩
 replace hS7:=hS7.jn rfl rfl
 clear hS4
 have hOI:=(hO.inv hI).1
 refine Qb rfl rfl (Qt rfl rfl rfl (Qt rfl rfl rfl (Qe rfl rfl (Qe rfl rfl (Qf (Qc (Qi [4,3,1,0,10,11,12,14,15] rfl (Qd (Qd (Qa (Qb rfl rfl (X0 rfl rfl rfl (Qf (Qc (Qs rfl (fun h8=> ?_) (fun h8=> ?_))))))))))))))))
 ·have he:e≠0:=h8
  exact Qd (Qa (Qb rfl rfl (Qe rfl rfl (Qf (Qc (Qi [4,3,1,0,11,12,14,10] rfl (Qu (Qn (QQ (.inr rfl) rfl rfl (⟨_,rfl,L1,V1,e,rfl,hO.step hI,.inr ⟨he,hOI.2.1,hOI.tight_own he⟩,(X1 (m:=n+5) (by omega) (hS7.pick [1,0,3] rfl)).reorder [1,0,2] rfl⟩))))))))))
 have he:e=0:=Decidable.not_not.1 h8
 refine Qr (Qc (Qi [4,3,1,0,10,11,12,14] rfl (Qd (Qd (Qa (Qb rfl rfl (Qk rfl rfl (Qg rfl XF rfl (Qo rfl Xm (J4 hS7 0 rfl) rfl (Qb rfl rfl (Qb rfl rfl (G4 rfl rfl (by omega) (by omega) rfl ?_))))))))))))
 refine Qb rfl rfl (XY qax rfl (stSet (hS7.sp [1] rfl) (by omega) s (a%64) bt) rfl ?_)
 rintro e w9 ⟨_,rfl,(⟨e2,rfl,he2,hbad,hS9⟩ | ⟨r,pg,hs,rfl,ha,hS9⟩)⟩
 ·refine⟨_,rfl, ?_⟩
  replace hS9:=hS9.jn rfl rfl
  clear hS7
  refine Qe rfl rfl (Qf (Qc (Qi [1,0,10,11,12,16] rfl (Qd (Qa (Qb rfl rfl (X0 rfl rfl rfl (Qf (Qc (Qs rfl (fun h10=> ?_) (fun h10=> ?_)))))))))))
  ·exact Qd (Qa (Qb rfl rfl (Qe rfl rfl (Qf (Qc (Qu (Qn (QQ (.inr rfl) rfl rfl (⟨_,rfl,L1,V1,e2,rfl,hO.step hI,.inr ⟨he2,hOI.2.1,hOI.tight_set he (by omega) hbad⟩,(X1 (m:=n+5) (by omega) (hS9.pick [0,1,3] rfl)).reorder [1,0,2] rfl⟩)))))))))
  exact absurd (Decidable.not_not.1 h10) he2
 refine⟨_,rfl, ?_⟩
 replace hS9:=hS9.jn rfl rfl
 clear hS7
 refine Qe rfl rfl (Qf (Qc (Qi [1,0,10,11,12,16] rfl (Qd (Qa (Qb rfl rfl (X0 rfl rfl rfl (Qf (Qc (Qs rfl (fun h11=> ?_) (fun h11=> ?_)))))))))))
 ·exact absurd rfl h11
 refine Qr (Qc (Qd (Qd (Qa (Qb rfl rfl (X0 rfl rfl rfl (Qf (Qc (Qs rfl (fun h12=> ?_) (fun h12=> ?_))))))))))
 ·exact absurd rfl h12
 refine Qr (Qc (Qd (Qa (Qe rfl rfl (Qf (Qc (Qu (QQ (.inr rfl) rfl rfl ?_))))))))
 subst he
 have hfin:=Oz (b:=bt) hO hI hs (by omega:0≤a%64∧a%64<64)
 exact⟨_,rfl,L1,_,0,rfl,hfin.1,.inl ⟨rfl,hfin.2⟩,(X1 (m:=n+5) (by omega) (hS9.pick [0,1,3] rfl)).reorder [1,0,2] rfl⟩
theorem Ol {w:World} {m:Nat} {b n Fr:Nat} {L:LvD} {V:VS} {F:Th} (hS:Sat w [ZY b L,Zq L.sp n Fr V,F]) (hn:n≤60000000000) (ob:Bs) (a:Int) (bt:UInt8) (hI:LvI m L V) (hm:m<Zp) {id:Int} {t:TrD} (ht:L.tr id=some t) (hr:0≤a∧a<16384):
    Calls Tryz.prog 10 #[ptrV b 0,intV id,strV ob,intV a,XS bt] w (Ret fun v w'=> ∃L' V' e,v=intV e∧StepI m L V m 1 1 L' V'∧((e=0∧Q8 L' V'=ZA (Q8 L V) id (ob,a/ 64) (wrX (Zi (Q8 L V) id (ob,a/ 64)) (a%64) bt))∨(e≠0∧Q8 L' V'=ZA (Q8 L V) id (ob,a/ 64) (Zi (Q8 L V) id (ob,a/ 64))∧Cl V Fr))∧Sat w' [ZY b L',Zq L'.sp (n+5) Fr V',F]):= by
 have h0:id≠0:=hI.rank.none0 ht
 refine Qq Tryz.func10 rfl Tryz.ntmps10 rfl ?_
 refine Qd (Qa (Qe rfl rfl (Qf (Qc (Qd (Qa (Qb rfl rfl (Qb rfl rfl (Qv Be rfl (Uv (hS.sp [] rfl) ob a) rfl ?_)))))))))
 rintro _ w1 ⟨rfl,hS1⟩
 replace hS1:=hS1.jn rfl rfl
 rw[Kl hr]
 refine Qb rfl rfl (Qt rfl rfl rfl (Qt rfl rfl rfl (Qt rfl rfl rfl (Xg hS1 ZM rfl rfl ?_))))
 intro kb w2 hS2
 clear hS1
 refine QY hS2 rfl rfl Xh rfl (by rfl) (i:=0) rfl (by decide) ?_
 intro w3 hS3; dsimp only[List.set]at hS3
 clear hS2
 replace hS3:=XM (k:=(ob,a/ 64)) hS3
 refine Qe rfl rfl (Qe rfl rfl (Qf (Qc (Qi [4,3,1,0,10,11,12,13] rfl (Qd (Qw (Qd (Qa (Qb rfl rfl (Qb rfl rfl (Qv Hd rfl (Jd (hS3.sp [1] rfl) id) rfl ?_)))))))))))
 rintro _ w4 ⟨rfl,hS4⟩
 replace hS4:=hS4.jn rfl rfl
 clear hS3
 refine QR rfl rfl (Qe rfl rfl (Qf (Qc (Qi [4,3,1,0,10,11,12,13,24] rfl (QM rfl (fun h5=> ?_) (fun h5=> ?_))))))
 ·exact absurd h5 (by simp [Z8,ht])
 refine Qd (Qa (Qb rfl rfl (QR rfl rfl (Qe rfl rfl (Qf (Qc (Qi [4,3,1,0,10,11,12,29] rfl (QM rfl (fun h6=> ?_) (fun h6=> ?_)))))))))
 ·exact absurd h6 (by decide)
 refine Qr (Ql (Qc (Qd (Qa (Qb rfl rfl (Qb rfl rfl ?_))))))
 refine XA rfl X9 Xh (by first | exact hS4.blk 1 rfl) (by first | decide | exact Xn rfl | (simp;done) | omega) rfl rfl ?_
 refine Qv qay rfl (ownT_sp (hS4.sp [0,2] rfl) (by omega) (hI.rank.ends hm) ht (k:=(ob,a/ 64)) h0 (hI.aliveS id (ob,a/ 64))) rfl ?_
 rintro _ w7 ⟨L1,V1,t1,x1,L2,V2,s,e,rfl,hT,hO,hS7⟩
 replace hS7:=hS7.jn rfl rfl
 clear hS4
 have hW:=NR hT ht hI hO
 refine Qb rfl rfl (Qt rfl rfl rfl (Qt rfl rfl rfl (Qe rfl rfl (Qe rfl rfl (Qf (Qc (Qi [4,3,1,0,10,11,12,14,15] rfl (Qd (Qd (Qa (Qb rfl rfl (X0 rfl rfl rfl (Qf (Qc (Qs rfl (fun h8=> ?_) (fun h8=> ?_))))))))))))))))
 ·have he:e≠0:=h8
  exact Qd (Qa (Qb rfl rfl (Qe rfl rfl (Qf (Qc (Qi [4,3,1,0,11,12,14,10] rfl (Qu (Qn (QQ (.inr rfl) rfl rfl (⟨_,rfl,L2,V2,e,rfl,hW.1,.inr ⟨he,hW.2.2.1,hW.2.2.2 (hW.2.1.tight_own he)⟩,(X1 (m:=n+5) (by omega) (hS7.pick [1,0,3] rfl)).reorder [1,0,2] rfl⟩))))))))))
 have he:e=0:=Decidable.not_not.1 h8
 refine Qr (Qc (Qi [4,3,1,0,10,11,12,14] rfl (Qd (Qd (Qa (Qb rfl rfl (Qk rfl rfl (Qg rfl XF rfl (Qo rfl Xm (J4 hS7 0 rfl) rfl (Qb rfl rfl (Qb rfl rfl (G4 rfl rfl (by omega) (by omega) rfl ?_))))))))))))
 refine Qb rfl rfl (XY qax rfl (stSet (hS7.sp [1] rfl) (by omega) s (a%64) bt) rfl ?_)
 rintro e w9 ⟨_,rfl,(⟨e2,rfl,he2,hbad,hS9⟩ | ⟨r,pg,hs,rfl,ha,hS9⟩)⟩
 ·refine⟨_,rfl, ?_⟩
  replace hS9:=hS9.jn rfl rfl
  clear hS7
  refine Qe rfl rfl (Qf (Qc (Qi [1,0,10,11,12,16] rfl (Qd (Qa (Qb rfl rfl (X0 rfl rfl rfl (Qf (Qc (Qs rfl (fun h10=> ?_) (fun h10=> ?_)))))))))))
  ·exact Qd (Qa (Qb rfl rfl (Qe rfl rfl (Qf (Qc (Qu (Qn (QQ (.inr rfl) rfl rfl (⟨_,rfl,L2,V2,e2,rfl,hW.1,.inr ⟨he2,hW.2.2.1,hW.2.2.2 (hW.2.1.tight_set he (by omega) hbad)⟩,(X1 (m:=n+5) (by omega) (hS9.pick [0,1,3] rfl)).reorder [1,0,2] rfl⟩)))))))))
  exact absurd (Decidable.not_not.1 h10) he2
 refine⟨_,rfl, ?_⟩
 replace hS9:=hS9.jn rfl rfl
 clear hS7
 refine Qe rfl rfl (Qf (Qc (Qi [1,0,10,11,12,16] rfl (Qd (Qa (Qb rfl rfl (X0 rfl rfl rfl (Qf (Qc (Qs rfl (fun h11=> ?_) (fun h11=> ?_)))))))))))
 ·exact absurd rfl h11
 refine Qr (Qc (Qd (Qd (Qa (Qb rfl rfl (X0 rfl rfl rfl (Qf (Qc (Qs rfl (fun h12=> ?_) (fun h12=> ?_))))))))))
 ·obtain⟨t2,x2,ht2,hx2,_⟩:=hO.leaf (hT.tr ht) hT.lv
  have hS13:=Yu ht2 hx2 (hS9.pick [1,0,2,3] rfl)
  have hS14:=hS13.drew
  refine QJ [0,1,2,3,4,5,6,7,8,9,10,11,12,13,14,15,16,17,18] [18] Wp (by kernel_rfl) ?_
  refine QE rfl rfl rfl (Xl rfl rfl rfl (QT rfl rfl rfl Wu (Q9 rfl rfl rfl (Qm rfl Y4 (hS14.cell 6 rfl rfl)) (QE rfl rfl rfl (Q9 rfl rfl rfl (Xx (k:=id) 8 hS14 keysInt Tryz.underlying82 rfl rfl rfl Hv (u:=ptrV t2.ad 0) (Zg ht2)) (Xl rfl rfl rfl (QT rfl rfl rfl Wd (Q9 rfl rfl rfl (Qm rfl JH (hS14.cell 2 rfl rfl)) (Q9 rfl rfl rfl (XE rfl X9 Xh (hS14.blk 11 rfl) (Xn rfl) rfl) (Q9 rfl rfl rfl (Xx (k:=(ob,a/ 64)) 3 hS14 keysKey Tryz.underlying90 rfl rfl rfl HI (u:=ptrV x2.ad 0) (Zg hx2)) (Xl rfl rfl rfl (QT rfl rfl rfl W8 (Q9 rfl rfl rfl (Qm rfl Y0 (hS14.cell 0 rfl rfl)) (QE rfl rfl rfl (QU rfl rfl rfl (fun _=>(Gb rfl rfl)) ?_)))))))))))))))
  refine Xl rfl rfl rfl (QT rfl rfl rfl W8 (Xj rfl rfl rfl rfl rfl rfl ?_))
  refine QL hS14 rfl rfl Br rfl (i:=0) rfl (Xn rfl) ?_
  intro w15 hS15; dsimp only[List.set]at hS15
  clear hS14
  refine Zx (Xq (by kernel_rfl)) ?_
  refine VC.nil (Qc (Qi [10] rfl (Qd (Qa (Qe rfl rfl (Qf (Qc (Qu (QQ (.inr rfl) rfl rfl ?_)))))))))
  have hS16:=Jb (L:=_) (y:={x2 with wr:=x2.wr ||| (1#64<<<(a%64).toNat)}) ht2 hx2 rfl (hS15.pick [0,1,2,3,4,5,6,7,8,9,10,11,12] rfl)
  subst he
  have hfin:=Ow (b:=bt) hT ht hI hO ht2 hx2 hs (by omega:0≤a%64∧a%64<64)
  exact⟨_,rfl,_,_,0,rfl,hfin.1,.inl ⟨rfl,hfin.2⟩,(X1 (m:=n+5) (by omega) (hS16.pick [1,0,3] rfl)).reorder [1,0,2] rfl⟩
 exact absurd (Decidable.not_not.1 h12) h0
end Go.Proofs.YtkcjfoaejijdoaaGreatDoor
