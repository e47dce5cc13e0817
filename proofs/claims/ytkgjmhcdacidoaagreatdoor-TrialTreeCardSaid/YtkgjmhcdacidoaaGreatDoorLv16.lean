/- leaves: Drop in a trial -/
import Derived.Test.YtkgjmhcdacidoaaGreatDoorSk
import Derived.Shelf.Spec.TrailingZeros
set_option linter.unusedSectionVars false
set_option linter.unusedVariables false
set_option maxRecDepth 100000
set_option maxHeartbeats 1600000
namespace Go.Proofs.YtkgjmhcdacidoaaGreatDoor
open Go.RowKit M Proofs.Tryz
variable [Inhabited SlW]
theorem Yh {L:LvD} {id:Int} {t:TrD} {k:KD} {x:LfD} (ht:L.tr id=some t) (hx:t.lv k=some x):We L id t k x=L:= by
  unfold We
  rw[Wk hx,Wk ht]
def DrI (L L1:LvD) (V V1:VS) (id:Int) (t:TrD) (l:List KD) (ob:Bs):Prop:=
  ∃ g:KD→Option LfD,L1.tr=QO L.tr id (some {t with lv:=g})∧L1.pres=L.pres∧(∀k,(g k=none↔t.lv k=none)∧ ∀x,g k=some x→ ∃y,t.lv k=some y∧y.ad=x.ad)∧
    QG L1 V1={QG L V with tr:=QO (QG L V).tr id (some {Zy V t with lv:=ZU (inD l ob) (Zy V t).lv})}
theorem DrI.start {L:LvD} {V:VS} {id:Int} {t:TrD} {ob:Bs} (ht:L.tr id=some t):DrI L L V V id t [] ob:= by
  refine⟨t.lv,(Wk ht).symm,rfl, fun k=>⟨Iff.rfl, fun x hx=>⟨x,hx,rfl⟩⟩, ?_⟩
  rw[Nx]
  have :=Wk (f:=(QG L V).tr) (k:=id) (Z6 ht)
  show QG L V={QG L V with tr:=QO (QG L V).tr id (some (Zy V t))}
  rw[this]
theorem DrI.F {L L1:LvD} {V V1:VS} {id:Int} {t:TrD} {l:List KD} {i:Nat} {k:KD} {ob:Bs} (h:DrI L L1 V V1 id t (l.take i) ob) (hk:l[i]? =some k) (hob:k.1≠ob):DrI L L1 V V1 id t (l.take (i+1)) ob:= by
  obtain⟨g,a,b,c,d⟩:=h
  refine⟨g,a,b,c, ?_⟩
  rw[d,B1 fun j _=>(LS hk hob j).symm]
theorem DrI.T {L L1:LvD} {V V1 V2:VS} {id:Int} {t t1:TrD} {l:List KD} {i:Nat} {k:KD} {x y:LfD} {ob:Bs} {f:Int→Bool} (h:DrI L L1 V V1 id t (l.take i) ob) (hk:l[i]? =some k) (hob:k.1=ob) (ht1:L1.tr id=some t1) (hx:t1.lv k=some x) (hy:y.ad=x.ad)
    (hab:QG (We {L1 with sh:=f} id t1 k y) V2=Ww (QG L1 V1) id k (NK (Ws V1 x) zer)):DrI L (We {L1 with sh:=f} id t1 k y) V V2 id t (l.take (i+1)) ob:= by
  obtain⟨g,a,b,c,d⟩:=h
  rw[a,Qu]at ht1
  cases ht1
  dsimp only at hx
  refine⟨QO g k (some y), ?_,b, fun j=> ?_, ?_⟩
  · show QO L1.tr id _=_
    rw[a,Yl]
  · by_cases e:j=k
    · subst e
      rw[Qu]
      obtain⟨z,hz,hza⟩:=(c j).2 x hx
      refine⟨⟨(fun q=> by cases q),(fun q=> by rw[hz]at q; cases q)⟩, fun w hw=> ?_⟩
      cases hw
      exact⟨z,hz,hza.trans hy.symm⟩
    · rw[Qz e]; exact c j
  · have htA:(QG L1 V1).tr id=some {Zy V t with lv:=ZU (inD (l.take i) ob) (Zy V t).lv}:= by rw[d]; exact Qu
    have hxA:({Zy V t with lv:=ZU (inD (l.take i) ob) (Zy V t).lv}:TrA).lv k=some (Ws V1 x):= by
      have h1:=Z6 (V:=V1) (show L1.tr id=some {t with lv:=g} by rw[a,Qu])
      rw[htA]at h1
      have h2:=Z8 (V:=V1) (t:={t with lv:=g}) hx
      have h3:({Zy V t with lv:=ZU (inD (l.take i) ob) (Zy V t).lv}:TrA)=Zy V1 {t with lv:=g}:= by simpa using h1
      rw[h3]; exact h2
    rw[hab,ZX htA,d]
    simp only[Yl]
    rw[SV (LR hk hob) hxA]
theorem SU {V:VS} {t:TrD} {l:List KD} {ob:Bs} (hl: ∀k,k∈l↔t.lv k≠none):ZU (inD l ob) (Zy V t).lv=ZU (fun j=>j.1=ob) (Zy V t).lv:=
  B1 fun j hj=> by
    have :t.lv j≠none:= fun q=>hj (UF q)
    unfold inD
    rw[hl]; simp [this]
theorem ST {ex:Int→Int} {m:Nat} {L L1:LvD} {V V1:VS} {id:Int} {t:TrD} {l:List KD} {ob:Bs} {g:KD→Option LfD} (hI1:LvX ex m L1 V1) (hsp:L1.sp=L.sp) (hal: ∀c,AliveLe V c→AliveLe V1 c) (hpg:Pgs V V1) (hdr:DrI L L1 V V1 id t l ob) (ht:L.tr id=some t) (hl: ∀k,k∈l↔t.lv k≠none)
    (hg1:L1.tr=QO L.tr id (some {t with lv:=g})) (hg2:L1.pres=L.pres) (hg3: ∀k,(g k=none↔t.lv k=none)∧ ∀x,g k=some x→ ∃y,t.lv k=some y∧y.ad=x.ad)
    (hg4:QG L1 V1={QG L V with tr:=QO (QG L V).tr id (some {Zy V t with lv:=ZU (inD l ob) (Zy V t).lv})}):
    StepX ex m L V ex m 0 0 {L1 with tr:=QO L1.tr id (some {t with lv:=g,dr:=Y0 t.dr ob})} V1∧QG {L1 with tr:=QO L1.tr id (some {t with lv:=g,dr:=Y0 t.dr ob})} V1=U9 (QG L V) id ob:= by
  have ht1:L1.tr id=some {t with lv:=g}:= by rw[hg1,Qu]
  generalize hL2:({L1 with tr:=QO L1.tr id (some {t with lv:=g,dr:=Y0 t.dr ob})}:LvD)=L2
  have hP:L2.pres=L1.pres:= by subst hL2;rfl
  have hT:L2.tr=QO L1.tr id (some {t with lv:=g,dr:=Y0 t.dr ob}):= by subst hL2;rfl
  have hf: ∀q,Xy L2 q=Xy L1 q:= fun q=> by
    cases q with
    | inl j=> simp [Xy,hP]
    | inr q=>
      obtain⟨i,j,o⟩:=q
      simp only[Xy,hT]
      by_cases e:i=id
      · subst e; rw[Qu,ht1]
      · rw[Qz e]
  have e1:QG L2 V1=U9 (QG L V) id ob:= by
    have h2:QG L2 V1={QG L1 V1 with tr:=QO (QG L1 V1).tr id (some (Zy V1 {t with lv:=g,dr:=Y0 t.dr ob}))}:= by
      unfold QG
      rw[hP,hT]
      congr 1
      funext i
      by_cases e:i=id
      · subst e; rw[Qu,Qu];rfl
      · rw[Qz e,Qz e]
    have h3:Zy V1 {t with lv:=g}={Zy V t with lv:=ZU (inD l ob) (Zy V t).lv}:= by
      have h4:=Z6 (V:=V1) ht1
      rw[hg4]at h4
      dsimp only at h4
      rw[Qu]at h4
      simpa using h4.symm
    have h5:Zy V1 {t with lv:=g,dr:=Y0 t.dr ob}={Zy V t with lv:=ZU (fun j=>j.1=ob) (Zy V t).lv,dr:=Y0 t.dr ob}:= by
      have h6:(Zy V1 {t with lv:=g,dr:=Y0 t.dr ob}).lv=(Zy V1 {t with lv:=g}).lv:=rfl
      show(⟨t.parent,(Zy V1 {t with lv:=g,dr:=Y0 t.dr ob}).lv,Y0 t.dr ob⟩:TrA)=_
      rw[h6,h3,SU hl]
      rfl
    rw[h2,hg4,h5]
    unfold U9
    rw[Z6 ht]
    dsimp only
    rw[Yl]
    rfl
  refine⟨⟨⟨hI1.ref.fn hf, by rw[hT]; exact hI1.rank.same (JA ht1 U), ?_⟩, by subst hL2; exact hsp,hal, fun c q=> ?_,hpg⟩,e1⟩
  · have h7:QG L2 V1={QG L1 V1 with tr:=QO (QG L1 V1).tr id (some (Zy V1 {t with lv:=g,dr:=Y0 t.dr ob}))}:= by
      unfold QG
      rw[hP,hT]
      congr 1
      funext i
      by_cases e:i=id
      · subst e; rw[Qu,Qu];rfl
      · rw[Qz e,Qz e]
    rw[h7]
    intro i u k x hi hk
    dsimp only at hi
    by_cases e:i=id
    · subst e; rw[Qu]at hi; cases hi; exact hI1.agree i _ k x (Z6 ht1) hk
    · rw[Qz e]at hi; exact hI1.agree i u k x hi hk
  · obtain⟨li,a,b,d⟩:=q
    refine⟨li,a, fun k hk=>b k (by rwa [hP,hg2]at hk), fun j u k x hj hk=> ?_⟩
    rw[hT,hg1,Yl]at hj
    by_cases e:j=id
    · subst e
      rw[Qu]at hj
      cases hj
      obtain⟨y,hy,_⟩:=(hg3 k).2 x hk
      exact d j t k y ht hy
    · rw[Qz e]at hj; exact d j u k x hj hk
theorem Eo {w:World} {ex:Int→Int} {m:Nat} {b n Fr:Nat} {L:LvD} {V:VS} {F:Th} (hS:Sat w [WU b L,ZT L.sp n Fr V,F]) {c:Nat} (hc:SzLe L c) (hn:n+2*c≤60000000000) (hI:LvX ex m L V) (hx:NN ex) {id:Int} {t:TrD} (ht:L.tr id=some t) (ob:Bs):
    Calls prog 62 #[ptrV b 0,intV id,strV ob] w (Ret fun v w'=> ∃L' V',StepX ex m L V ex m 0 0 L' V'∧QG L' V'=U9 (QG L V) id ob∧OthK L L' id (fun _=>False)∧Sat w' [WU b L',ZT L'.sp (n+2*c) Fr V',F]):= by
 have h0:id≠0:=hI.rank.none0 ht
 replace hS:=Zb hS
 refine Qn func62 U ntmps62 U ?_
 refine Qe (Qe (Qa (Qb U U (Xc U U U (Qf (Qc (Qt U (fun h1=> ?_) (fun h1=> ?_))))))))
 ·exact absurd h1 h0
 refine Qs (Qc (Qe (Qa (Qb U U (Qi U U (Qg U ZJ U (Qo U WN (by first | assumption | exact hS.cell 0 U U) U ?_)))))))
 refine Qb U U (X8 (k:=id) 2 hS keysInt underlying106 U U U Yf (u:=ptrV t.ad 0) (XJ ht) U (Qd U U (Qf (Qc (Qh [2,0,8] U (Qe (Qe (Qa (Qb U U (XI underlying104 U U U (Qf (Qc (QL U (Qs (Qc (Qe (Qe ?_)))))))))))))))))
 have j2:=ZQ (hS.pick [3,0,1,2,4,5,6] U) ht
 refine Qa (Qb U U (Qi U U (Qg U ZI U (Qo U WF (by first | assumption | exact j2.cell 0 U U | exact j2.cell 5 U U) U ?_))))
 refine Q0 NE U (Bk (j2.sp [1] U) (fun ks h=> by have :=hc.keysL ht h;omega)) U ?_
 rintro _ w3 ⟨ks,hks,j3⟩
 replace j3:=j3.jn U U
 obtain⟨ar,cr,hvr,_⟩:=j3.own_shape 0 rfl; obtain rfl:=hvr
 first | refine XB underlying123 U U ?_ | refine Xo 0 j3 underlying123 U U U ?_
 refine Qb U U (Qf (Qc (Qh [2,0,8,44,45,46] U (Qw ?_))))
 have j4:=ZR ht (j3.pick [2,1,3,4,5,0,6,7,8,9,10,11] U)
 have hz:=Xx (j4.pick [2,3,4,0,5,1,6,7] U)
 have hlk:(QQ ks).length≤c:= by rw[Wz]; exact hc.keysL ht (Came.of_all hks)
 refine Xe (fun K0 E0 W0=> ∃(i:Nat) (L1:LvD) (V1:VS),K0=(QQ ks).length -i∧E0=[(0,ptrV b 0),(2,strV ob),(8,ptrV t.ad 0),(44,.slice ar (QQ ks).length cr),(45,intV ((QQ ks).length:Int)),(46,intV (i:Int))]∧Sat W0 [WU b L1,ZT L1.sp (n+2*i) Fr V1,rowT kC (.slice ar (QQ ks).length cr) (QQ ks),F]∧(i≤(QQ ks).length)∧(LvX ex m L1 V1)∧(L1.sp=L.sp)∧(∀c,AliveLe V c→AliveLe V1 c)∧(Pgs V V1)∧(DrI L L1 V V1 id t ((QQ ks).take i) ob)) (L0:=[(0,_),(2,_),(8,_),(44,_),(45,_),(46,_)]) ((QQ ks).length) (G4 U U U U U U) ⟨0,L,V, by omega,rfl,hz.pick [0,2,1,3] U, by omega,hI,rfl, fun _ q=>q,.refl,DrI.start ht⟩ ?_
 rintro _ _ w5 ⟨i,L1,V1,rfl,rfl,j5,hi,hI1,hsp,hal,hpg,hdr⟩
 refine Qe (Qa (Xn U U U (Qf (Qc (Qe (Qt U (fun h6=> ?_) (fun h6=> ?_)))))))
 ·obtain⟨k,hk⟩: ∃k,(QQ ks)[i]? =some k:=⟨_,Zd (by omega)⟩
  refine Qs (Qc (Qe (Qw (Qe (Qa (Xg kC 2 i j5 U U U (by first | rfl | omega) hk U8 U ?_))))))
  intro bx7 capx7 hvx7
  refine ZG 2 i j5 U hvx7 U hk X2 Xf U U (Xa j5 WK U U ?_)
  intro kb wk8 hk8
  refine Q9 hk8 U U Xf U (by first | rfl | (simp [QV,Value.oneCell'];done)) (i:=0) U (by first | decide | exact Q7 U) ?_
  intro wk9 hk9; dsimp only[List.set]at hk9
  clear hk8
  replace hk9:=Z4 (k:=k) hk9
  refine Qf (Qc (Qe ?_))
  obtain⟨g,hg1,hg2,hg3,hg4⟩:=_root_.id hdr
  have ht1:L1.tr id=some {t with lv:=g}:= by rw[hg1,Qu]
  obtain⟨x1,hx1⟩: ∃x,g k=some x:=Option.ne_none_iff_exists'.1 fun q=>absurd ((hg3 k).1.1 q) ((Ae hks k).1 (List.mem_of_getElem? hk))
  have j10:=Ht ht1 hx1 (hk9.pick [1,0,2,3,4] U)
  have j11:=j10.drew
  refine QH [0,1,2,3,4,5,6] [] ZW (by kernel_rfl) ?_
  refine QJ U U U (Xd U U U (QP U U U ZI (Q3 U U U (Qm U WF (by first | assumption | exact j11.cell 0 U U | exact j11.cell 2 U U | exact j11.cell 6 U U | exact j11.cell 10 U U)) ?_)))
  refine Q3 U U U (X3 U X2 Xf (by first | exact j11.blk 0 U | exact j11.blk 2 U | exact j11.blk 6 U | exact j11.blk 10 U) (by first | decide | exact Q7 U | (simp;done) | omega) U) ?_
  refine Q3 U U U (Xt (k:=k) 3 j11 keysKey underlying110 U U U Yz (u:=ptrV x1.ad 0) (XJ hx1)) (Zo U U U (VC.nil (Qc (Qh [46,45,44,8,2,0,10,11] U (Qe (Qa (Qg U JZ U (Qo U Yd (by first | assumption | exact j11.cell 0 U U | exact j11.cell 2 U U | exact j11.cell 6 U U | exact j11.cell 10 U U) U ?_))))))))
  refine Qb U U (Hp U U U (Qf (Qc (Qh [46,45,44,8,2,0,11,59] U (Qt U (fun h12=> ?_) (fun h12=> ?_))))))
  ·have hob:k.1=ob:=h12
   refine Qe (Qa (Qb U U (Qb U U (Qi U U (Qg U W4 U (Q0 cal_102 U (hold_p (j11.sp [6,9,11,0] U) (by omega) 0) U ?_))))))
   rintro _ w13 ⟨rfl,j13⟩
   replace j13:=j13.jn U U
   refine Qf (Qc (Qh [46,45,44,8,2,0,11] U (Qa (Qb U U (Qi U U (Qg U Wo U ?_))))))
   refine Qx (v:=Zr (BitVec.allOnes 64)) j13 U U GO U (i:=3) U (by first | decide | exact Q7 U | (simp;done)) ?_
   intro w14 j14; dsimp only[List.set]at j14
   refine Qf (Ql (Qc (Qa (QK U U (by omega) (by omega) U ?_))))
   refine Qb U U (Qf ?_)
   have j15:=J4 (L:={L1 with sh:=YX (refW V1 0) (Y1 L1.sh 0) x1.own}) (y:={x1 with own:=0,wr:=BitVec.allOnes 64}) ht1 hx1 U (j14.pick [3,4,5,6,7,8,0,9,10,1,2,11,12,13] U)
   obtain⟨hs1,hs2⟩:=SF (s:=0) hI1 hx (.inl rfl) ht1 hx1 (YX (refW V1 0) (Y1 L1.sh 0) x1.own)
   rw[JO hI1.zero]at hs2
   have hd2:=hdr.T (y:={x1 with own:=0,wr:=BitVec.allOnes 64}) hk hob ht1 hx1 U hs2
   exact Q5 (L1:=[(0,_),(2,_),(8,_),(44,_),(45,_),(46,intV ((i+1:Nat):Int))]) (G4 U U U U U U) (k1:=(QQ ks).length -(i+1)) (by omega) ⟨i+1,_,_, by omega,rfl,(XM (m:=n+2*(i+1)) (by omega) (j15.pick [1,0,3,4] U)).reorder [1,0,2,3] U, by omega,hs1.inv,hs1.sp.trans hsp, fun c q=>hs1.al c (hal c q),hpg.trans hs1.pg,hd2⟩
  have hob:k.1≠ob:=h12
  refine Qs (Ql (Qc (Qa (QK U U (by omega) (by omega) U ?_))))
  refine Qb U U (Qf ?_)
  have j16:=J4 (L:=L1) (y:=x1) ht1 hx1 U (j11.pick [0,1,2,3,4,5,6,7,8,9,10,11,12,13] U)
  rw[Yh ht1 hx1]at j16
  exact Q5 (L1:=[(0,_),(2,_),(8,_),(44,_),(45,_),(46,intV ((i+1:Nat):Int))]) (G4 U U U U U U) (k1:=(QQ ks).length -(i+1)) (by omega) ⟨i+1,L1,V1, by omega,rfl,(XM (m:=n+2*(i+1)) (by omega) (j16.pick [2,0,3,4] U)).reorder [1,0,2,3] U, by omega,hI1,hsp,hal,hpg,hdr.F hk hob⟩
 refine QT (Qq (Qq (Qy (Qc ?_))))
 have hil:i=(QQ ks).length:= by omega
 rw[hil,List.take_length]at hdr
 obtain⟨g,hg1,hg2,hg3,hg4⟩:=_root_.id hdr
 have ht1:L1.tr id=some {t with lv:=g}:= by rw[hg1,Qu]
 have j17:=Zb (j5.pick [0,1,2,3] U)
 have j18:=ZQ (j17.pick [3,0,1,2,4,5,6,7] U) ht1
 refine Qa (Qb U U (Qi U U (Qg U U5 U (Qo U R1 (by first | assumption | exact j18.cell 0 U U | exact j18.cell 5 U U) U ?_))))
 refine Qb U U (Xi (k:=ob) (v:= .bool true) 3 j18 keysStr underlying111 U U U U ?_)
 intro w19 j19; dsimp only[List.set]at j19; rw[MM]at j19
 refine Qf (ZP (.inl U) U ?_)
 have j20:=Kh (t:=({t with lv:=g,dr:=Y0 t.dr ob}:TrD)) (j19.pick [0,1,2,3,4,5,6,7,8,9,10,11] U)
 rw[←WI (ad:=TrD.ad) (f:=L1.tr) (k:=id) (y:=({t with lv:=g,dr:=Y0 t.dr ob}:TrD)) ht1 U]at j20
 have hfin:=ST hI1 hsp hal hpg hdr ht (Ae hks) hg1 hg2 hg3 hg4
 exact⟨_,rfl,{L1 with tr:=QO L1.tr id (some ({t with lv:=g,dr:=Y0 t.dr ob}:TrD))},V1,hfin.1,hfin.2,Nv ht hg2 (by show QO L1.tr id _=_; rw[hg1,Yl]) (fun k x hx=> by obtain⟨y,hy,_⟩:=(hg3 k).2 x hx; rw[hy]; simp),(XM (m:=n+2*c) (by omega) ((Xx (L:={L1 with tr:=QO L1.tr id (some ({t with lv:=g,dr:=Y0 t.dr ob}:TrD))}) (j20.pick [1,2,3,0,4,5,7] rfl)).reorder [1,0,2] rfl)).reorder [1,0,2] rfl⟩
theorem YP {α:Type} {L:List α} (hn:L.Nodup) {i:Nat} {y:α} (hy:L[i]? =some y):y∉L.take i:= by
  intro q
  obtain⟨j,hj⟩:=List.mem_iff_getElem?.1 q
  have hji:j<i:= by have :=(XL hj).1; rw[List.length_take]at this;omega
  rw[List.getElem?_take_of_lt hji]at hj
  have h1:=(XL hy)
  have h2:=(XL hj)
  obtain⟨p1,p2⟩:=h1
  obtain⟨r1,r2⟩:=h2
  have :=(List.getElem_inj hn).1 (r2.trans p2.symm)
  omega
def LQ (id:Int) (l:List KD):Pl→Prop:= fun p=> ∃k o,p= .inr (id,k,o)∧k∈l
theorem GY {κ α:Type} {ad:α→Nat} {f:κ→Option α} {k:κ}:upd (XC ad f) k none=XC ad (QO f k none):= by
  funext j
  by_cases h:j=k
  · subst h; rw[Z0];unfold XC; rw[Qu];rfl
  · rw[Wp h];unfold XC; rw[Qz h]
structure RemI (ex:Int→Int) (L:LvD) (V V1:VS) (id:Int) (l:List KD):Prop where
  ref:RefI (Wv (LQ id l) 0 (Xy L)) V1 ex
  pg:Pgs V V1
  al: ∀c,AliveLe V c→AliveLe V1 c
theorem RemI.start {ex:Int→Int} {m:Nat} {L:LvD} {V:VS} {id:Int} (h:LvX ex m L V):RemI ex L V V id []:=
  ⟨h.ref.fn fun p=> by simp [Wv,LQ],.refl, fun _ q=>q⟩
theorem Dt {κ:Type} {f:κ→Int} {V:VS} {ex:Int→Int} (h:RefI f V ex) (hx:NN ex) (p:κ):RefI (KQ f p 0) (Z7 V (f p)) ex:=
  ((h.put p 0).unr (h.aliveN U (hx _))).ext fun j hj=> by rw[Jb (s:=0) hj];omega
theorem RemI.step {ex:Int→Int} {L:LvD} {V V1:VS} {id:Int} {t:TrD} {l:List KD} {i:Nat} {k:KD} {x:LfD} (h:RemI ex L V V1 id (l.take i)) (hx:NN ex) (ht:L.tr id=some t) (hl:t.lv k=some x) (hk:l[i]? =some k) (hn:l.Nodup):
    RemI ex L V (Z7 (Z7 V1 x.base) x.own) id (l.take (i+1)):= by
  have hni:k∉l.take i:=YP hn hk
  have hnz: ∀o,¬LQ id (l.take i) (.inr (id,k,o)):= fun o=> by
    rintro⟨k',o',e,q⟩
    simp at e
    obtain⟨rfl,rfl⟩:=e
    exact hni q
  have e1:Wv (LQ id (l.take i)) 0 (Xy L) (.inr (id,k,false))=x.base:= by unfold Wv; rw[if_neg (hnz _),XF ht hl];rfl
  have a1:=Dt h.ref hx (.inr (id,k,false))
  rw[e1]at a1
  have e2:KQ (Wv (LQ id (l.take i)) 0 (Xy L)) (.inr (id,k,false)) 0 (.inr (id,k,true))=x.own:= by rw[XT (by simp)];unfold Wv; rw[if_neg (hnz _),XF ht hl];rfl
  have a2:=Dt a1 hx (.inr (id,k,true))
  rw[e2]at a2
  refine⟨a2.fn fun p=> ?_,(h.pg.trans (Pgs.unr h.ref.zero)).trans (Pgs.unr a1.zero), fun c q=>(h.al c q).unr.unr⟩
  · have hz: ∀p,LQ id (l.take (i+1)) p↔(p= .inr (id,k,true)∨(p= .inr (id,k,false)∨LQ id (l.take i) p)):= fun p=> by
      unfold LQ
      rw[List.take_add_one,hk]
      simp only[Option.toList_some,List.mem_append,List.mem_singleton]
      constructor
      · rintro⟨k',o,rfl,q | q⟩
        · exact .inr (.inr ⟨k',o,U,q⟩)
        · subst q; cases o
          · exact .inr (.inl U)
          · exact .inl U
      · rintro(rfl | rfl | ⟨k',o,rfl,q⟩)
        · exact⟨k,true,U,.inr U⟩
        · exact⟨k,false,U,.inr U⟩
        · exact⟨k',o,U,.inl q⟩
    rw[UG (P:= fun p=>p= .inr (id,k,false)∨LQ id (l.take i) p) hz,UG (P:=LQ id (l.take i)) (fun _=>Iff.rfl)]
noncomputable def VP (A:LvA) (id:Int):LvA:={A with tr:=QO A.tr id none}
theorem RankI.del {T:Int→Option TrD} {m:Nat} {id:Int} (h:RankI T m) (hch: ∀i u,T i=some u→u.parent≠id):RankI (QO T id none) m:= by
  obtain⟨h0,r,a,b⟩:=h
  have h00:QO T id none 0=none:= by
    by_cases e:(0:Int)=id
    · rw[←e,Qu]
    · rw[Qz e]; exact h0
  refine⟨h00,r,a, fun i t ht=> ?_⟩
  by_cases e:i=id
  · subst e; rw[Qu]at ht; cases ht
  · rw[Qz e]at ht
    rcases b i t ht with h1 | ⟨h1,h2⟩
    · exact .inl h1
    · exact .inr ⟨by rw[Qz (hch i t ht)]; exact h1,h2⟩
theorem rem_fin {ex:Int→Int} {m:Nat} {L:LvD} {V V1:VS} {id:Int} {t:TrD} {l:List KD} {f:Int→Bool} (hI:LvX ex m L V) (hx:NN ex) (h:RemI ex L V V1 id l) (ht:L.tr id=some t) (hl: ∀k,k∈l↔t.lv k≠none) (hch: ∀i u,L.tr i=some u→u.parent≠id):
    StepX ex m L V ex m 0 0 {L with tr:=QO L.tr id none,sh:=f} V1∧QG {L with tr:=QO L.tr id none,sh:=f} V1=VP (QG L V) id:= by
  generalize hL2:({L with tr:=QO L.tr id none,sh:=f}:LvD)=L2
  have hP:L2.pres=L.pres:= by subst hL2;rfl
  have hT:L2.tr=QO L.tr id none:= by subst hL2;rfl
  have hf: ∀p,Xy L2 p=Wv (LQ id l) 0 (Xy L) p:= fun p=> by
    unfold Wv
    cases p with
    | inl j=>
      rw[if_neg (by rintro⟨_,_,e,_⟩; cases e)]
      simp [Xy,hP]
    | inr q=>
      obtain⟨i,k,o⟩:=q
      by_cases e:i=id
      · subst e
        have e1:Xy L2 (.inr (i,k,o))=0:= by simp only[Xy,hT,Qu]
        rw[e1]
        split
        · rfl
        · rename_i hq
          cases hk:t.lv k with
          | none=> rw[VH ht hk]
          | some x=> exact absurd ⟨k,o,rfl,(hl k).2 (by rw[hk]; simp)⟩ hq
      · rw[if_neg (by rintro⟨_,_,e2,_⟩; cases e2; exact e rfl)]
        simp only[Xy,hT]
        rw[Qz e]
  have a1:RefI (Xy L2) V1 ex:=h.ref.fn hf
  have hc: ∀p,Zf V1 (Xy L2 p)=Zf V (Xy L2 p):= fun p=>(h.pg _ (a1.aliveN U (hx _))).2
  have e1:QG L2 V1=VP (QG L V) id:= by
    rw[Uj (V:=V) hc]
    unfold QG VP
    rw[hP,hT]
    congr 1
    funext i
    by_cases e:i=id
    · subst e; rw[Qu,Qu];rfl
    · rw[Qz e,Qz e]
  refine⟨⟨⟨a1, by rw[hT]; exact hI.rank.del hch, ?_⟩, by subst hL2;rfl,h.al, fun c q=> ?_,h.pg⟩,e1⟩
  · rw[e1]
    intro i u k x hi hk
    dsimp only[VP]at hi
    by_cases e:i=id
    · subst e; rw[Qu]at hi; cases hi
    · rw[Qz e]at hi; exact hI.agree i u k x hi hk
  · obtain⟨li,a,b,d⟩:=q
    refine⟨li,a, fun k hk=>b k (by rwa [hP]at hk), fun j u k x hj hk=> ?_⟩
    rw[hT]at hj
    by_cases e:j=id
    · subst e; rw[Qu]at hj; cases hj
    · rw[Qz e]at hj; exact d j u k x hj hk
theorem Ds {w:World} {ex:Int→Int} {m:Nat} {b n Fr:Nat} {L:LvD} {V:VS} {F:Th} (hS:Sat w [WU b L,ZT L.sp n Fr V,F]) {c:Nat} (hc:SzLe L c) (hn:n+2*c≤60000000000) (hI:LvX ex m L V) (hx:NN ex) {id:Int} {t:TrD} (ht:L.tr id=some t) (hch: ∀i u,L.tr i=some u→u.parent≠id):
    Calls prog 65 #[ptrV b 0,intV id] w (Ret fun v w'=> ∃L' V',StepX ex m L V ex m 0 0 L' V'∧QG L' V'=VP (QG L V) id∧L'.pres=L.pres∧L'.tr=QO L.tr id none∧Sat w' [WU b L',ZT L'.sp (n+2*c) Fr V',F]):= by
 replace hS:=Zb hS
 refine Qn func65 U ntmps65 U ?_
 refine Qe (Qa (Qb U U (Qi U U (Qg U ZJ U (Qo U WN (by first | assumption | exact hS.cell 0 U U) U ?_)))))
 refine Qb U U (X8 (k:=id) 2 hS keysInt underlying106 U U U Yf (u:=ptrV t.ad 0) (XJ ht) U (Qd U U (Qf (Qc (Qe (Qe ?_))))))
 have j1:=ZQ (hS.pick [3,0,1,2,4,5,6] U) ht
 refine Qa (Qb U U (Qi U U (Qg U ZI U (Qo U WF (by first | assumption | exact j1.cell 0 U U | exact j1.cell 5 U U) U ?_))))
 refine Q0 NE U (Bk (j1.sp [1] U) (fun ks h=> by have :=hc.keysL ht h;omega)) U ?_
 rintro _ w2 ⟨ks,hks,j2⟩
 replace j2:=j2.jn U U
 obtain⟨ar,cr,hvr,_⟩:=j2.own_shape 0 rfl; obtain rfl:=hvr
 first | refine XB underlying123 U U ?_ | refine Xo 0 j2 underlying123 U U U ?_
 refine Qb U U (Qf (Qc (Qh [1,0,4,17,18,19] U (Qw ?_))))
 have hnd:=Hr hks.nodup
 have hlk:(QQ ks).length≤c:= by rw[Wz]; exact hc.keysL ht (Came.of_all hks)
 refine Xe (fun K0 E0 W0=> ∃(i:Nat) (f:Int→Bool) (V1:VS),K0=(QQ ks).length -i∧E0=[(0,ptrV b 0),(1,intV id),(4,ptrV t.ad 0),(17,.slice ar (QQ ks).length cr),(18,intV ((QQ ks).length:Int)),(19,intV (i:Int))]∧Sat W0 [QE t.ad [intV t.parent,.map (some t.ml),.map (some t.md)],Q6 X0 t.ml (XC LfD.ad t.lv),X6 KT t.lv,Q6 Zl t.md (JF t.dr),X6 VW (QO L.tr id none),QE b [ptrV L.sp 0,.map (some L.mp),.map (some L.mt),intV L.cur,.map (some L.ms)],Q6 X0 L.mp (Z3 L.pres),Q6 QX L.mt (XC TrD.ad L.tr),Q6 QX L.ms (JF f),ZT L.sp (n+2*i) Fr V1,rowT kC (.slice ar (QQ ks).length cr) (QQ ks),F]∧(i≤(QQ ks).length)∧(RemI ex L V V1 id ((QQ ks).take i))) (L0:=[(0,_),(1,_),(4,_),(17,_),(18,_),(19,_)]) ((QQ ks).length) (G4 U U U U U U) ⟨0,L.sh,V, by omega,rfl,j2.pick [2,1,3,4,5,6,7,8,9,10,0,11] U, by omega,RemI.start hI⟩ ?_
 rintro _ _ w3 ⟨i,f,V1,rfl,rfl,j3,hi,hrm⟩
 refine Qe (Qa (Xn U U U (Qf (Qc (Qe (Qt U (fun h4=> ?_) (fun h4=> ?_)))))))
 ·obtain⟨k,hk⟩: ∃k,(QQ ks)[i]? =some k:=⟨_,Zd (by omega)⟩
  refine Qs (Qc (Qe (Qw (Qe (Qa (Xg kC 10 i j3 U U U (by first | rfl | omega) hk U8 U ?_))))))
  intro bx5 capx5 hvx5
  refine ZG 10 i j3 U hvx5 U hk X2 Xf U U (Xa j3 WK U U ?_)
  intro kb wk6 hk6
  refine Q9 hk6 U U Xf U (by first | rfl | (simp [QV,Value.oneCell'];done)) (i:=0) U (by first | decide | exact Q7 U) ?_
  intro wk7 hk7; dsimp only[List.set]at hk7
  clear hk6
  replace hk7:=Z4 (k:=k) hk7
  refine Qf (Qc (Qe ?_))
  obtain⟨x,hl⟩: ∃x,t.lv k=some x:=Option.ne_none_iff_exists'.1 ((Ae hks k).1 (List.mem_of_getElem? hk))
  have j8:=Hg (hk7.pick [3,0,1,2,4,5,6,7,8,9,10,11,12] U) hl
  have j9:=j8.drew
  refine QH [0,1,2,3,4,5,6,7,8,9,10] [10] ZW (by kernel_rfl) ?_
  refine QJ U U U (QJ U U U (Xd U U U (QP U U U ZI (Q3 U U U (Qm U WF (by first | assumption | exact j9.cell 0 U U | exact j9.cell 2 U U | exact j9.cell 3 U U | exact j9.cell 7 U U)) ?_))))
  refine Q3 U U U (X3 U X2 Xf (by first | exact j9.blk 0 U | exact j9.blk 2 U | exact j9.blk 3 U | exact j9.blk 7 U) (by first | decide | exact Q7 U | (simp;done) | omega) U) ?_
  refine Q3 U U U (Xt (k:=k) 4 j9 keysKey underlying110 U U U Yz (u:=ptrV x.ad 0) (XJ hl)) (Xd U U U (QP U U U K7 (Q3 U U U (Qm U QM (by first | assumption | exact j9.cell 0 U U | exact j9.cell 2 U U | exact j9.cell 3 U U | exact j9.cell 7 U U)) ?_)))
  refine Xl U U U U U U ?_
  refine Q0 Uf U (HS (j9.sp [7,10,11] U) (by omega) x.base) U ?_
  rintro _ w10 ⟨rfl,j10⟩
  replace j10:=j10.jn U U
  refine XH (Xq (by kernel_rfl)) ?_
  refine VC.nil (Qc (Qh [19,18,17,4,1,0,6] U ?_))
  have j11:=j10.drew
  refine QH [0,1,2,3,4,5,6,7,8,9,10] [10] ZW (by kernel_rfl) ?_
  refine QJ U U U (QJ U U U (Xd U U U (QP U U U ZI (Q3 U U U (Qm U WF (by first | assumption | exact j11.cell 0 U U | exact j11.cell 3 U U | exact j11.cell 5 U U | exact j11.cell 6 U U)) ?_))))
  refine Q3 U U U (X3 U X2 Xf (by first | exact j11.blk 0 U | exact j11.blk 3 U | exact j11.blk 5 U | exact j11.blk 6 U) (by first | decide | exact Q7 U | (simp;done) | omega) U) ?_
  refine Q3 U U U (Xt (k:=k) 7 j11 keysKey underlying110 U U U Yz (u:=ptrV x.ad 0) (XJ hl)) (Xd U U U (QP U U U W4 (Q3 U U U (Qm U QM (by first | assumption | exact j11.cell 0 U U | exact j11.cell 3 U U | exact j11.cell 5 U U | exact j11.cell 6 U U)) ?_)))
  refine Xl U U U U U U ?_
  refine Q0 Uf U (HS (j11.sp [0,1,2] U) (by omega) x.own) U ?_
  rintro _ w12 ⟨rfl,j12⟩
  replace j12:=j12.jn U U
  refine XH (Xq (by kernel_rfl)) ?_
  refine VC.nil (Ql (Qc (Qh [19,18,17,4,1,0] U (Qa (QK U U (by omega) (by omega) U ?_)))))
  refine Qb U U (Qf ?_)
  have j13:=ZS hl (j12.pick [3,4,0,1,2,5,6,7,8,9,10,11,12,13] U)
  have hr2:=hrm.step hx ht hl hk hnd
  exact Q5 (L1:=[(0,_),(1,_),(4,_),(17,_),(18,_),(19,intV ((i+1:Nat):Int))]) (G4 U U U U U U) (k1:=(QQ ks).length -(i+1)) (by omega) ⟨i+1,_,_, by omega,rfl,j13.pick [5,6,0,7,8,1,9,10,2,3,11,12] U, by omega,hr2⟩
 refine QT (Qq (Qq (Qy (Qc (Qa (Qb U U (Qi U U (Qg U ZJ U (Qo U WN (by first | assumption | exact j3.cell 0 U U | exact j3.cell 5 U U) U ?_)))))))))
 refine Qb U U (WG (k:=id) 7 j3 keysInt underlying106 U U U U ?_)
 intro w14 j14; dsimp only[List.set]at j14; rw[GY]at j14
 refine Qf (ZP (.inl U) U ?_)
 have hil:i=(QQ ks).length:= by omega
 rw[hil,List.take_length]at hrm
 have hfin:=rem_fin (f:=f) hI hx hrm ht (Ae hks) hch
 exact⟨_,rfl,{L with tr:=QO L.tr id none,sh:=f},V1,hfin.1,hfin.2,rfl,rfl,(XM (m:=n+2*c) (by omega) ((Xx (L:={L with tr:=QO L.tr id none,sh:=f}) (j14.pick [5,6,7,4,8,9,11] U)).reorder [1,0,2] U)).reorder [1,0,2] U⟩
def BK (now own:Bs) (wr:BitVec 64):Bs:=(List.range 64).map fun j=> if wr.getLsbD j=true then own.getD j 0 else now.getD j 0
def MgI (now own r:Bs) (wr:BitVec 64) (i:Nat):Prop:=r.length=64∧ ∀j,j<64→r[j]? = if j<i∧wr.getLsbD j=true then own[j]? else now[j]?
theorem MgI.start {now own:Bs} {wr:BitVec 64} (h:now.length=64):MgI now own now wr 0:=⟨h, fun j _=> by rw[if_neg (by omega)]⟩
theorem MgI.T {now own r:Bs} {wr:BitVec 64} {i:Nat} {c:UInt8} (h:MgI now own r wr i) (hi:i<64) (hw:wr.getLsbD i=true) (hc:own[i]? =some c):MgI now own (r.set i c) wr (i+1):= by
  refine⟨by rw[List.length_set]; exact h.1, fun j hj=> ?_⟩
  by_cases e:j=i
  · subst e
    rw[List.getElem?_set_self (by rw[h.1];omega),if_pos ⟨by omega,hw⟩,hc]
  · rw[List.getElem?_set_ne (fun q=>e q.symm),h.2 j hj]
    by_cases q:j<i∧wr.getLsbD j=true
    · rw[if_pos q,if_pos ⟨by omega,q.2⟩]
    · rw[if_neg q,if_neg fun a=>q ⟨by omega,a.2⟩]
theorem MgI.F {now own r:Bs} {wr:BitVec 64} {i:Nat} (h:MgI now own r wr i) (hw:wr.getLsbD i=false):MgI now own r wr (i+1):= by
  refine⟨h.1, fun j hj=> ?_⟩
  rw[h.2 j hj]
  by_cases q:j<i∧wr.getLsbD j=true
  · rw[if_pos q,if_pos ⟨by omega,q.2⟩]
  · rw[if_neg q,if_neg fun a=>q ⟨by
      have :j≠i:= fun e=> by subst e; rw[hw]at a; simp at a
      omega,a.2⟩]
theorem getD_some {l:Bs} {j:Nat} (h:j<l.length):l[j]? =some (l.getD j 0):= by simp [List.getD,h]
theorem MgI.fin {now own r:Bs} {wr:BitVec 64} (h:MgI now own r wr 64) (hn:now.length=64) (ho:own.length=64):r=BK now own wr:= by
  apply List.ext_getElem?
  intro j
  by_cases hj:j<64
  · rw[h.2 j hj]
    unfold BK
    rw[List.getElem?_map,List.getElem?_range hj]
    simp only[Option.map_some]
    split
    · rename_i q; rw[if_pos q.2,getD_some (by omega)]
    · rename_i q; rw[if_neg fun a=>q ⟨hj,a⟩,getD_some (by omega)]
  · rw[List.getElem?_eq_none (by rw[h.1];omega),List.getElem?_eq_none (by simp [BK];omega)]
theorem Ms {now own:Bs} {wr:BitVec 64}:(BK now own wr).length=64:= by simp [BK]
def Vv (L:LvD) (t:TrD) (k:KD) (x:LfD):Prop:=x.wr≠0#64∧x.wr≠BitVec.allOnes 64∧X4 L t.parent k≠x.base
open Classical in
noncomputable def JP (t:TrD) (l:List KD):Nat:=(l.filter fun k=>decide (∃x,t.lv k=some x∧x.wr≠0#64∧x.wr≠BitVec.allOnes 64)).length
def Hs (made:KD→Option Int):KD→Int:= fun k=>(made k).getD 0
structure MdI (m:Nat) (L:LvD) (V V1:VS) (t:TrD) (ex:Int→Int) (made:KD→Option Int) (l:List KD):Prop where
  inv:LvX ex m L V1
  ab:QG L V1=QG L V
  pg: ∀s,XZ V s→Zf V1 s=Zf V s
  av: ∀s,XZ V s→XZ V1 s
  mx: ∀j,j≠0→ ∃n:Nat,CI (Hs made) j n∧ex j=n
  dom: ∀k,made k≠none↔k∈l∧ ∃x,t.lv k=some x∧Vv L t k x
  con: ∀k s x,made k=some s→t.lv k=some x→Zf V1 s=BK (Zf V (X4 L t.parent k)) (Zf V x.own) x.wr
  al: ∀c,AliveLe V c→AliveLe V1 (c+JP t l)
theorem Gv {κ:Type} {j:Int} (h:j≠0):CI (fun _:κ=>0) j 0:=⟨[],List.nodup_nil, fun p=> by simp;omega,rfl⟩
theorem MdI.start {m:Nat} {L:LvD} {V:VS} {t:TrD} (h:LvI m L V):MdI m L V V t (fun _=>0) (fun _=>none) []:=
  ⟨h,rfl, fun _ _=>rfl, fun _ q=>q, fun j hj=>⟨0,Gv hj,rfl⟩, fun k=> by simp,(fun k s x q=> by cases q), fun c q=>q⟩
theorem MdI.nn {m:Nat} {L:LvD} {V V1:VS} {t:TrD} {ex:Int→Int} {made:KD→Option Int} {l:List KD} (h:MdI m L V V1 t ex made l):NN ex:= fun j hj=> by
  obtain⟨n,_,e⟩:=h.mx j hj
  rw[e];omega
theorem MdI.ge {m:Nat} {L:LvD} {V V1:VS} {t:TrD} {ex:Int→Int} {made:KD→Option Int} {l:List KD} (h:MdI m L V V1 t ex made l) {k:KD} {s:Int} (hk:made k=some s) (h0:s≠0):1≤ex s:= by
  obtain⟨n,a,e⟩:=h.mx s h0
  have :=Gu a (p:=k) (by unfold Hs; rw[hk];rfl)
  rw[e];omega
theorem MdI.alive {m:Nat} {L:LvD} {V V1:VS} {t:TrD} {ex:Int→Int} {made:KD→Option Int} {l:List KD} (h:MdI m L V V1 t ex made l) {k:KD} {s:Int} (hk:made k=some s):XZ V1 s:= by
  by_cases h0:s=0
  · exact .inl h0
  · obtain⟨n,a,b⟩:=h.inv.ref.1 s h0
    have :=h.ge hk h0
    exact .inr (h.inv.ref.alive_of (by omega))
theorem Lu {t:TrD} {l:List KD} {i:Nat} {k:KD} (hk:l[i]? =some k):JP t (l.take i)≤JP t (l.take (i+1)):= by
  unfold JP
  rw[List.take_add_one,hk,List.filter_append,List.length_append]
  omega
theorem S8 {t:TrD} {l:List KD} {i:Nat} {k:KD} {x:LfD} (hk:l[i]? =some k) (hx:t.lv k=some x) (h1:x.wr≠0#64) (h2:x.wr≠BitVec.allOnes 64):JP t (l.take (i+1))=JP t (l.take i)+1:= by
  unfold JP
  rw[List.take_add_one,hk,List.filter_append,List.length_append]
  simp only[Option.toList_some]
  rw[List.filter_cons_of_pos (by simp; exact⟨x,hx,h1,h2⟩)]
  rfl
theorem UT {l:List KD} {i:Nat} {k j:KD} (hk:l[i]? =some k):j∈l.take (i+1)↔j∈l.take i∨j=k:= by
  rw[List.take_add_one,hk]; simp
theorem MdI.skip {m:Nat} {L:LvD} {V V1:VS} {t:TrD} {ex:Int→Int} {made:KD→Option Int} {l:List KD} {i:Nat} {k:KD} {x:LfD} (h:MdI m L V V1 t ex made (l.take i)) (hk:l[i]? =some k) (hx:t.lv k=some x) (hn: ¬Vv L t k x):MdI m L V V1 t ex made (l.take (i+1)):=
  ⟨h.inv,h.ab,h.pg,h.av,h.mx, fun j=> by
    rw[h.dom,UT hk]
    constructor
    · rintro⟨a,b⟩; exact⟨.inl a,b⟩
    · rintro⟨a | rfl,y,hy,b⟩
      · exact⟨a,y,hy,b⟩
      · rw[hx]at hy; cases hy; exact absurd b hn,h.con, fun c q=>(h.al c q).mono (by have :=Lu (t:=t) hk;omega)⟩
theorem mdF_up {made:KD→Option Int} {k:KD} {s:Int}:Hs (QO made k (some s))=KQ (Hs made) k s:= by
  funext j
  by_cases e:j=k
  · subst e; rw[XK];unfold Hs; rw[Qu];rfl
  · rw[XT e];unfold Hs; rw[Qz e]
theorem MdI.put {m:Nat} {L:LvD} {V V1 V2:VS} {t:TrD} {ex ex2:Int→Int} {made:KD→Option Int} {l:List KD} {i:Nat} {k:KD} {x:LfD} {s:Int} (h:MdI m L V V1 t ex made (l.take i)) (hk:l[i]? =some k) (hd:l.Nodup) (hx:t.lv k=some x) (hn:Vv L t k x)
    (h1:LvX ex2 m L V2) (h2:QG L V2=QG L V) (h3: ∀j,XZ V1 j→Zf V2 j=Zf V1 j∧XZ V2 j) (h4: ∀j,j≠0→ex2 j=ex j+dl s j) (h5:Zf V2 s=BK (Zf V (X4 L t.parent k)) (Zf V x.own) x.wr) (h6: ∀c,AliveLe V1 c→AliveLe V2 (c+1)):
    MdI m L V V2 t ex2 (QO made k (some s)) (l.take (i+1)):= by
  have hni:=YP hd hk
  have hm0:made k=none:=Classical.byContradiction fun q=>hni ((h.dom k).1 q).1
  refine⟨h1,h2, fun j hj=>((h3 j (h.av j hj)).1).trans (h.pg j hj), fun j hj=>(h3 j (h.av j hj)).2, fun j hj=> ?_, fun j=> ?_, fun j u y hu hy=> ?_, fun c q=>(h6 _ (h.al c q)).mono (by rw[S8 hk hx hn.1 hn.2.1];omega)⟩
  · obtain⟨n,a,e⟩:=h.mx j hj
    rw[mdF_up]
    have hmk:Hs made k=0:= by unfold Hs; rw[hm0];rfl
    by_cases q:j=s
    · subst q
      exact⟨n+1,Ey (by rw[hmk];omega) a, by rw[h4 j hj,Wx,e];omega⟩
    · refine⟨n,HF (fun p=> ?_) a, by rw[h4 j hj,Jb q,e];omega⟩
      by_cases e2:p=k
      · subst e2; rw[XK,hmk]; exact⟨fun a=>absurd a.symm q, fun a=>absurd a.symm hj⟩
      · rw[XT e2]
  · rw[UT hk]
    by_cases e:j=k
    · subst e; rw[Qu]; simp; exact⟨x,hx,hn⟩
    · rw[Qz e,h.dom]
      constructor
      · rintro⟨a,b⟩; exact⟨.inl a,b⟩
      · rintro⟨a | a,b⟩
        · exact⟨a,b⟩
        · exact absurd a e
  · by_cases e:j=k
    · subst e
      rw[Qu]at hu
      rw[hx]at hy
      cases hu; cases hy
      exact h5
    · rw[Qz e]at hu
      rw[(h3 u (h.alive hu)).1]
      exact h.con j u y hu hy
theorem MdI.zero {m:Nat} {L:LvD} {V V1:VS} {t:TrD} {ex:Int→Int} {made:KD→Option Int} {l:List KD} {i:Nat} {k:KD} {x:LfD} {pg:Bs} (h:MdI m L V V1 t ex made (l.take i)) (hk:l[i]? =some k) (hd:l.Nodup) (hx:t.lv k=some x) (hn:Vv L t k x)
    (hz:pg=zer) (hp:pg=BK (Zf V (X4 L t.parent k)) (Zf V x.own) x.wr):MdI m L V V1 t ex (QO made k (some 0)) (l.take (i+1)):=
  h.put hk hd hx hn h.inv h.ab (fun j hj=>⟨rfl,hj⟩) (fun j hj=> by rw[Jb hj];omega) (by rw[JO h.inv.zero,←hz,hp]) (fun c q=>q.mono (by omega))
theorem MdI.fresh {m:Nat} {L:LvD} {V V1:VS} {t:TrD} {ex:Int→Int} {made:KD→Option Int} {l:List KD} {i:Nat} {k:KD} {x:LfD} {pg:Bs} {s:Int} (h:MdI m L V V1 t ex made (l.take i)) (hk:l[i]? =some k) (hd:l.Nodup) (hx:t.lv k=some x) (hn:Vv L t k x)
    (hs:1≤s) (hv:V1 s=none) (hp:pg=BK (Zf V (X4 L t.parent k)) (Zf V x.own) x.wr):MdI m L V (QO V1 s (some (1,pg))) t (fun j=>ex j+dl s j) (QO made k (some s)) (l.take (i+1)):= by
  have hl:pg.length=64:= by rw[hp]; exact Ms
  have hne: ∀j,XZ V1 j→j≠s:= fun j hj e=> by
    subst e
    rcases hj with e | e
    · omega
    · exact e hv
  have e1:QG L (QO V1 s (some (1,pg)))=QG L V1:=Uj fun p=>UP (hne _ (h.inv.aliveX h.nn p))
  refine h.put hk hd hx hn ⟨h.inv.ref.fresh hv hs hl,h.inv.rank, by rw[e1]; exact h.inv.agree⟩ (e1.trans h.ab) (fun j hj=>⟨UP (hne j hj), ?_⟩) (fun _ _=>rfl) (by rw[J0 Qu]; exact hp) (fun c q=>q.put)
  rcases hj with e | e
  · exact .inl e
  · refine .inr ?_; rw[Qz (hne j (.inr e))]; exact e
structure UnI (m:Nat) (L:LvD) (V V1:VS) (made:KD→Option Int) (l:List KD) (ex:Int→Int):Prop where
  inv:LvX ex m L V1
  ab:QG L V1=QG L V
  mx: ∀j,j≠0→ ∃n:Nat,CI (Wv (fun k=>k∈l) 0 (Hs made)) j n∧ex j=n
  al: ∀c,AliveLe V c→AliveLe V1 c
theorem UnI.nn {m:Nat} {L:LvD} {V V1:VS} {ex:Int→Int} {made:KD→Option Int} {l:List KD} (h:UnI m L V V1 made l ex):NN ex:= fun j hj=> by
  obtain⟨n,_,e⟩:=h.mx j hj
  rw[e];omega
theorem UnI.step {m:Nat} {L:LvD} {V V1:VS} {ex:Int→Int} {made:KD→Option Int} {l:List KD} {i:Nat} {k:KD} (h:UnI m L V V1 made (l.take i) ex) (hk:l[i]? =some k) (hd:l.Nodup):
    UnI m L V (Z7 V1 (Hs made k)) made (l.take (i+1)) (fun j=>ex j -dl (Hs made k) j):= by
  have hni:=YP hd hk
  have hz:Wv (fun k=>k∈l.take i) 0 (Hs made) k=Hs made k:= by unfold Wv; rw[if_neg hni]
  obtain⟨h1,h2⟩:=h.inv.unr (s:=Hs made k) h.nn fun h0=> by
    obtain⟨n,a,e⟩:=h.mx _ h0
    have :=Gu a (p:=k) hz
    rw[e];omega
  refine⟨h1,h2.trans h.ab, fun j hj=> ?_, fun c q=>(h.al c q).unr⟩
  obtain⟨n,a,e⟩:=h.mx j hj
  rw[UG (P:= fun k=>k∈l.take i) (k:=k) (fun p=>(UT hk).trans Or.comm)]
  by_cases q:Hs made k=j
  · obtain⟨n',rfl,b⟩:=M8 (v:=0) (hz.trans q) (by omega) a
    exact⟨n',b, by show ex j -dl (Hs made k) j=_; rw[q,Wx,e];omega⟩
  · refine⟨n,HF (fun p=> ?_) a, by show ex j -dl (Hs made k) j=_; rw[Jb (fun a=>q a.symm),e];omega⟩
    by_cases e2:p=k
    · subst e2; rw[XK,hz]; exact⟨fun a=>absurd a.symm hj, fun a=>absurd a q⟩
    · rw[XT e2]
theorem UnI.fin {m:Nat} {L:LvD} {V V1:VS} {ex:Int→Int} {made:KD→Option Int} {l:List KD} (h:UnI m L V V1 made l ex) (hl: ∀k,made k≠none→k∈l):LvI m L V1:= by
  refine h.inv.ext fun j hj=> ?_
  obtain⟨n,a,e⟩:=h.mx j hj
  have e1:Wv (fun k=>k∈l) 0 (Hs made)= fun _=>0:= by
    funext k
    unfold Wv
    split
    · rfl
    · rename_i q
      unfold Hs
      cases r:made k with
      | none=>rfl
      | some s=> exact absurd (hl k (by rw[r]; simp)) q
  rw[e1]at a
  rw[e,P6 a (Gv hj)];rfl
def KS (made:KD→Option Int):KD→Option Value:= fun k=>(made k).map intV
theorem L9:KS (fun _=>none)= fun _=>none:=rfl
theorem Mt {made:KD→Option Int} {k:KD} {s:Int}:upd (KS made) k (some (intV s))=KS (QO made k (some s)):= by
  funext j
  by_cases e:j=k
  · subst e; rw[Z0];unfold KS; rw[Qu];rfl
  · rw[Wp e];unfold KS; rw[Qz e]
theorem Pm {made:KD→Option Int} {k:KD}:(KS made k).getD (intV 0)=intV (Hs made k):= by unfold KS Hs; cases made k<;>rfl
theorem MdI.un {m:Nat} {L:LvD} {V V1:VS} {t:TrD} {ex:Int→Int} {made:KD→Option Int} {l:List KD} (h:MdI m L V V1 t ex made l):UnI m L V1 V1 made [] ex:= by
  refine⟨h.inv,rfl, fun j hj=> ?_, fun _ q=>q⟩
  obtain⟨n,a,e⟩:=h.mx j hj
  exact⟨n, by have e2:Wv (fun k=>k∈([]:List KD)) 0 (Hs made)=Hs made:=(by funext k; simp [Wv]); rw[e2]; exact a,e⟩
