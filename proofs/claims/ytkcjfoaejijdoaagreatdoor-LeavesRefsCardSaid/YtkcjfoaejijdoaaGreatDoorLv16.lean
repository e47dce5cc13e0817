/- leaves: Drop in a trial -/
import Derived.Test.YtkcjfoaejijdoaaGreatDoorSk
import Derived.Shelf.Spec.TrailingZeros
set_option linter.unusedSectionVars false
set_option linter.unusedVariables false
set_option maxRecDepth 100000
set_option maxHeartbeats 1600000
namespace Go.Proofs.YtkcjfoaejijdoaaGreatDoor
open Go.RowKit M
variable [Inhabited SlW]
theorem Yx {L:LvD} {id:Int} {t:TrD} {k:KD} {x:LfD} (ht:L.tr id=some t) (hx:t.lv k=some x):Z1 L id t k x=L:= by
  unfold Z1
  rw[WE hx,WE ht]
def DrI (L L1:LvD) (V V1:VS) (id:Int) (t:TrD) (l:List KD) (ob:Bs):Prop:=
  ∃ g:KD→Option LfD,L1.tr=Xi L.tr id (some {t with lv:=g})∧L1.pres=L.pres∧(∀k,(g k=none↔t.lv k=none)∧ ∀x,g k=some x→ ∃y,t.lv k=some y∧y.ad=x.ad)∧
    Q1 L1 V1={Q1 L V with tr:=Xi (Q1 L V).tr id (some {ZF V t with lv:=Zp (inD l ob) (ZF V t).lv})}
theorem DrI.start {L:LvD} {V:VS} {id:Int} {t:TrD} {ob:Bs} (ht:L.tr id=some t):DrI L L V V id t [] ob:= by
  refine⟨t.lv,(WE ht).symm,rfl, fun k=>⟨Iff.rfl, fun x hx=>⟨x,hx,rfl⟩⟩, ?_⟩
  rw[Py]
  have :=WE (f:=(Q1 L V).tr) (k:=id) (Zk ht)
  show Q1 L V={Q1 L V with tr:=Xi (Q1 L V).tr id (some (ZF V t))}
  rw[this]
theorem DrI.F {L L1:LvD} {V V1:VS} {id:Int} {t:TrD} {l:List KD} {i:Nat} {k:KD} {ob:Bs} (h:DrI L L1 V V1 id t (l.take i) ob) (hk:l[i]? =some k) (hob:k.1≠ob):DrI L L1 V V1 id t (l.take (i+1)) ob:= by
  obtain⟨g,a,b,c,d⟩:=h
  refine⟨g,a,b,c, ?_⟩
  rw[d,Dp fun j _=>(CM hk hob j).symm]
theorem DrI.T {L L1:LvD} {V V1 V2:VS} {id:Int} {t t1:TrD} {l:List KD} {i:Nat} {k:KD} {x y:LfD} {ob:Bs} {f:Int→Bool} (h:DrI L L1 V V1 id t (l.take i) ob) (hk:l[i]? =some k) (hob:k.1=ob) (ht1:L1.tr id=some t1) (hx:t1.lv k=some x) (hy:y.ad=x.ad)
    (hab:Q1 (Z1 {L1 with sh:=f} id t1 k y) V2=Z6 (Q1 L1 V1) id k (allX (Wl V1 x) zer)):DrI L (Z1 {L1 with sh:=f} id t1 k y) V V2 id t (l.take (i+1)) ob:= by
  obtain⟨g,a,b,c,d⟩:=h
  rw[a,Qy]at ht1
  cases ht1
  dsimp only at hx
  refine⟨Xi g k (some y), ?_,b, fun j=> ?_, ?_⟩
  · show Xi L1.tr id _=_
    rw[a,Ji]
  · by_cases e:j=k
    · subst e
      rw[Qy]
      obtain⟨z,hz,hza⟩:=(c j).2 x hx
      refine⟨⟨(fun q=> by cases q),(fun q=> by rw[hz]at q; cases q)⟩, fun w hw=> ?_⟩
      cases hw
      exact⟨z,hz,hza.trans hy.symm⟩
    · rw[Q7 e]; exact c j
  · have htA:(Q1 L1 V1).tr id=some {ZF V t with lv:=Zp (inD (l.take i) ob) (ZF V t).lv}:= by rw[d]; exact Qy
    have hxA:({ZF V t with lv:=Zp (inD (l.take i) ob) (ZF V t).lv}:TrA).lv k=some (Wl V1 x):= by
      have h1:=Zk (V:=V1) (show L1.tr id=some {t with lv:=g} by rw[a,Qy])
      rw[htA]at h1
      have h2:=ZC (V:=V1) (t:={t with lv:=g}) hx
      have h3:({ZF V t with lv:=Zp (inD (l.take i) ob) (ZF V t).lv}:TrA)=ZF V1 {t with lv:=g}:= by simpa using h1
      rw[h3]; exact h2
    rw[hab,ZR htA,d]
    simp only[Ji]
    rw[L4 (CL hk hob) hxA]
theorem Lz {V:VS} {t:TrD} {l:List KD} {ob:Bs} (hl: ∀k,k∈l↔t.lv k≠none):Zp (inD l ob) (ZF V t).lv=Zp (fun j=>j.1=ob) (ZF V t).lv:=
  Dp fun j hj=> by
    have :t.lv j≠none:= fun q=>hj (Vf q)
    unfold inD
    rw[hl]; simp [this]
theorem Ly {ex:Int→Int} {m:Nat} {L L1:LvD} {V V1:VS} {id:Int} {t:TrD} {l:List KD} {ob:Bs} {g:KD→Option LfD} (hI1:LvX ex m L1 V1) (hsp:L1.sp=L.sp) (hal: ∀c,AliveLe V c→AliveLe V1 c) (hpg:Pgs V V1) (hdr:DrI L L1 V V1 id t l ob) (ht:L.tr id=some t) (hl: ∀k,k∈l↔t.lv k≠none)
    (hg1:L1.tr=Xi L.tr id (some {t with lv:=g})) (hg2:L1.pres=L.pres) (hg3: ∀k,(g k=none↔t.lv k=none)∧ ∀x,g k=some x→ ∃y,t.lv k=some y∧y.ad=x.ad)
    (hg4:Q1 L1 V1={Q1 L V with tr:=Xi (Q1 L V).tr id (some {ZF V t with lv:=Zp (inD l ob) (ZF V t).lv})}):
    StepX ex m L V ex m 0 0 {L1 with tr:=Xi L1.tr id (some {t with lv:=g,dr:=Wv t.dr ob})} V1∧Q1 {L1 with tr:=Xi L1.tr id (some {t with lv:=g,dr:=Wv t.dr ob})} V1=dropT (Q1 L V) id ob:= by
  have ht1:L1.tr id=some {t with lv:=g}:= by rw[hg1,Qy]
  generalize hL2:({L1 with tr:=Xi L1.tr id (some {t with lv:=g,dr:=Wv t.dr ob})}:LvD)=L2
  have hP:L2.pres=L1.pres:= by subst hL2;rfl
  have hT:L2.tr=Xi L1.tr id (some {t with lv:=g,dr:=Wv t.dr ob}):= by subst hL2;rfl
  have hf: ∀q,QJ L2 q=QJ L1 q:= fun q=> by
    cases q with
    | inl j=> simp [QJ,hP]
    | inr q=>
      obtain⟨i,j,o⟩:=q
      simp only[QJ,hT]
      by_cases e:i=id
      · subst e; rw[Qy,ht1]
      · rw[Q7 e]
  have e1:Q1 L2 V1=dropT (Q1 L V) id ob:= by
    have h2:Q1 L2 V1={Q1 L1 V1 with tr:=Xi (Q1 L1 V1).tr id (some (ZF V1 {t with lv:=g,dr:=Wv t.dr ob}))}:= by
      unfold Q1
      rw[hP,hT]
      congr 1
      funext i
      by_cases e:i=id
      · subst e; rw[Qy,Qy];rfl
      · rw[Q7 e,Q7 e]
    have h3:ZF V1 {t with lv:=g}={ZF V t with lv:=Zp (inD l ob) (ZF V t).lv}:= by
      have h4:=Zk (V:=V1) ht1
      rw[hg4]at h4
      dsimp only at h4
      rw[Qy]at h4
      simpa using h4.symm
    have h5:ZF V1 {t with lv:=g,dr:=Wv t.dr ob}={ZF V t with lv:=Zp (fun j=>j.1=ob) (ZF V t).lv,dr:=Wv t.dr ob}:= by
      have h6:(ZF V1 {t with lv:=g,dr:=Wv t.dr ob}).lv=(ZF V1 {t with lv:=g}).lv:=rfl
      show(⟨t.parent,(ZF V1 {t with lv:=g,dr:=Wv t.dr ob}).lv,Wv t.dr ob⟩:TrA)=_
      rw[h6,h3,Lz hl]
      rfl
    rw[h2,hg4,h5]
    unfold dropT
    rw[Zk ht]
    dsimp only
    rw[Ji]
    rfl
  refine⟨⟨⟨hI1.ref.fn hf, by rw[hT]; exact hI1.rank.same (WA ht1 U), ?_⟩, by subst hL2; exact hsp,hal, fun c q=> ?_,hpg⟩,e1⟩
  · have h7:Q1 L2 V1={Q1 L1 V1 with tr:=Xi (Q1 L1 V1).tr id (some (ZF V1 {t with lv:=g,dr:=Wv t.dr ob}))}:= by
      unfold Q1
      rw[hP,hT]
      congr 1
      funext i
      by_cases e:i=id
      · subst e; rw[Qy,Qy];rfl
      · rw[Q7 e,Q7 e]
    rw[h7]
    intro i u k x hi hk
    dsimp only at hi
    by_cases e:i=id
    · subst e; rw[Qy]at hi; cases hi; exact hI1.agree i _ k x (Zk ht1) hk
    · rw[Q7 e]at hi; exact hI1.agree i u k x hi hk
  · obtain⟨li,a,b,d⟩:=q
    refine⟨li,a, fun k hk=>b k (by rwa [hP,hg2]at hk), fun j u k x hj hk=> ?_⟩
    rw[hT,hg1,Ji]at hj
    by_cases e:j=id
    · subst e
      rw[Qy]at hj
      cases hj
      obtain⟨y,hy,_⟩:=(hg3 k).2 x hk
      exact d j t k y ht hy
    · rw[Q7 e]at hj; exact d j u k x hj hk
theorem Nk {w:World} {ex:Int→Int} {m:Nat} {b n Fr:Nat} {L:LvD} {V:VS} {F:Th} (hS:Sat w [XY b L,XG L.sp n Fr V,F]) {c:Nat} (hc:SzLe L c) (hn:n+2*c≤60000000000) (hI:LvX ex m L V) (hx:NN ex) {id:Int} {t:TrD} (ht:L.tr id=some t) (ob:Bs):
    Calls Tryz.prog 27 #[ptrV b 0,intV id,strV ob] w (Ret fun v w'=> ∃L' V',StepX ex m L V ex m 0 0 L' V'∧Q1 L' V'=dropT (Q1 L V) id ob∧OthK L L' id (fun _=>False)∧Sat w' [XY b L',XG L'.sp (n+2*c) Fr V',F]):= by
 have h0:id≠0:=hI.rank.none0 ht
 replace hS:=Xy hS
 refine Qm Tryz.func27 U Tryz.ntmps27 U ?_
 refine Qd (Qd (Qa (Qb U U (Xd U U U (Qf (Qc (Qs U (fun h1=> ?_) (fun h1=> ?_))))))))
 ·exact absurd h1 h0
 refine Qt (Qc (Qd (Qa (Qb U U (Qj U U (Qg U Z7 U (Qn U WN (hS.cell 0 U U) U (Qb U U (XT (k:=id) 2 hS keysInt Tryz.underlying82 U U U Yu (u:=ptrV t.ad 0) (Zw ht) U (Qe U U (Qf (Qc (Qh [2,0,8] U (Qd (Qd (Qa (Qb U U (ZO Tryz.underlying94 U U U (Qf (Qc (QT U (Qt (Qc (Qd (Qd ?_)))))))))))))))))))))))))
 have hS2:=ZB (hS.pick [3,0,1,2,4,5,6] U) ht
 refine Qa (Qb U U (Qj U U (Qg U ZU U (Qn U Jy (hS2.cell 0 U U) U ?_))))
 refine Qw TG U (Ra (hS2.sp [1] U) (fun ks h=> by have :=hc.keysL ht h;omega)) U ?_
 rintro _ w3 ⟨ks,hks,hS3⟩
 replace hS3:=hS3.jn U U
 clear hS2
 obtain⟨ar,cr,hvr,_⟩:=hS3.own_shape 0 rfl; obtain rfl:=hvr
 refine Xr Tryz.underlying98 U U (Qb U U (Qf (Qc (Qh [2,0,8,44,45,46] U (Qv ?_)))))
 have hS4:=ZW ht (hS3.pick [2,1,3,4,5,0,6,7,8,9,10,11] U)
 have hz:=QZ (hS4.pick [2,3,4,0,5,1,6,7] U)
 have hlk:(Q8 ks).length≤c:= by rw[ZJ]; exact hc.keysL ht (Came.of_all hks)
 refine Xb (fun K0 E0 W0=> ∃(i:Nat) (L1:LvD) (V1:VS),K0=(Q8 ks).length -i∧E0=[(0,ptrV b 0),(2,strV ob),(8,ptrV t.ad 0),(44,.slice ar (Q8 ks).length cr),(45,intV ((Q8 ks).length:Int)),(46,intV (i:Int))]∧Sat W0 [XY b L1,XG L1.sp (n+2*i) Fr V1,rowT kC (.slice ar (Q8 ks).length cr) (Q8 ks),F]∧(i≤(Q8 ks).length)∧(LvX ex m L1 V1)∧(L1.sp=L.sp)∧(∀c,AliveLe V c→AliveLe V1 c)∧(Pgs V V1)∧(DrI L L1 V V1 id t ((Q8 ks).take i) ob)) (L0:=[(0,_),(2,_),(8,_),(44,_),(45,_),(46,_)]) ((Q8 ks).length) (Gp U U U U U U) ⟨0,L,V, by omega,rfl,hz.pick [0,2,1,3] U, by omega,hI,rfl, fun _ q=>q,.refl,DrI.start ht⟩ ?_
 rintro _ _ w5 ⟨i,L1,V1,rfl,rfl,hS5,hi,hI1,hsp,hal,hpg,hdr⟩
 refine Qd (Qa (Xg U U U (Qf (Qc (Qd (Qs U (fun h6=> ?_) (fun h6=> ?_)))))))
 ·obtain⟨k,hk⟩: ∃k,(Q8 ks)[i]? =some k:=⟨_,Zi (by omega)⟩
  refine Qt (Qc (Qd (Qv (Qd (Qa (QW kC 2 i hS5 U U U (by first | rfl | omega) hk Va U ?_))))))
  intro bx7 capx7 hvx7
  refine ZA 2 i hS5 U hvx7 U hk X7 Xc U U (QX hS5 Z2 U U ?_)
  intro kb wk8 hk8
  clear hS5
  refine QK hk8 U U Xc U (by rfl) (i:=0) U (by decide) ?_
  intro wk9 hk9; dsimp only[List.set]at hk9
  clear hk8
  replace hk9:=X5 (k:=k) hk9
  refine Qf (Qc (Qd ?_))
  obtain⟨g,hg1,hg2,hg3,hg4⟩:=_root_.id hdr
  have ht1:L1.tr id=some {t with lv:=g}:= by rw[hg1,Qy]
  obtain⟨x1,hx1⟩: ∃x,g k=some x:=Option.ne_none_iff_exists'.1 fun q=>absurd ((hg3 k).1.1 q) ((PJ hks k).1 (List.mem_of_getElem? hk))
  have hS10:=J5 ht1 hx1 (hk9.pick [1,0,2,3,4] U)
  have hS11:=hS10.drew
  refine QF [0,1,2,3,4,5,6] [] We (by kernel_rfl) ?_
  refine QG U U U (Xh U U U (QV U U U ZU (Q4 U U U (Qr U Jy (hS11.cell 2 U U)) (Q4 U U U (XF U X7 Xc (hS11.blk 10 U) (Xa U) U) (Q4 U U U (Xz (k:=k) 3 hS11 keysKey Tryz.underlying90 U U U HQ (u:=ptrV x1.ad 0) (Zw hx1)) (Za U U U (VC.nil (Qc (Qh [46,45,44,8,2,0,10,11] U (Qd (Qa (Qg U JV U (Qn U WC (hS11.cell 10 U U) U (Qb U U (KE U U U (Qf (Qc (Qh [46,45,44,8,2,0,11,59] U (Qs U (fun h12=> ?_) (fun h12=> ?_))))))))))))))))))))
  ·have hob:k.1=ob:=h12
   refine Qd (Qa (Qb U U (Qb U U (Qj U U (Qg U W5 U (Qw TF U (Po (hS11.sp [6,9,11,0] U) (by omega) 0) U ?_))))))
   rintro _ w13 ⟨rfl,hS13⟩
   replace hS13:=hS13.jn U U
   clear hS11
   refine Qf (Qc (Qh [46,45,44,8,2,0,11] U (Qa (Qb U U (Qj U U (Qg U ZV U (Q6 (v:=Zz (BitVec.allOnes 64)) hS13 U U VZ U (i:=3) U (Xa U) ?_)))))))
   intro w14 hS14; dsimp only[List.set]at hS14
   clear hS13
   refine Qf (Qk (Qc (Qa (QI U U (by omega) (by omega) U ?_))))
   refine Qb U U (Qf ?_)
   have hS15:=W4 (L:={L1 with sh:=Jq (refW V1 0) (J1 L1.sh 0) x1.own}) (y:={x1 with own:=0,wr:=BitVec.allOnes 64}) ht1 hx1 U (hS14.pick [3,4,5,6,7,8,0,9,10,1,2,11,12,13] U)
   obtain⟨hs1,hs2⟩:=M2 (s:=0) hI1 hx (.inl rfl) ht1 hx1 (Jq (refW V1 0) (J1 L1.sh 0) x1.own)
   rw[WG hI1.zero]at hs2
   have hd2:=hdr.T (y:={x1 with own:=0,wr:=BitVec.allOnes 64}) hk hob ht1 hx1 U hs2
   exact Q0 (L1:=[(0,_),(2,_),(8,_),(44,_),(45,_),(46,intV ((i+1:Nat):Int))]) (Gp U U U U U U) (k1:=(Q8 ks).length -(i+1)) (by omega) ⟨i+1,_,_, by omega,rfl,(Xe (m:=n+2*(i+1)) (by omega) (hS15.pick [1,0,3,4] U)).reorder [1,0,2,3] U, by omega,hs1.inv,hs1.sp.trans hsp, fun c q=>hs1.al c (hal c q),hpg.trans hs1.pg,hd2⟩
  have hob:k.1≠ob:=h12
  refine Qt (Qk (Qc (Qa (QI U U (by omega) (by omega) U ?_))))
  refine Qb U U (Qf ?_)
  have hS16:=W4 (L:=L1) (y:=x1) ht1 hx1 U (hS11.pick [0,1,2,3,4,5,6,7,8,9,10,11,12,13] U)
  rw[Yx ht1 hx1]at hS16
  exact Q0 (L1:=[(0,_),(2,_),(8,_),(44,_),(45,_),(46,intV ((i+1:Nat):Int))]) (Gp U U U U U U) (k1:=(Q8 ks).length -(i+1)) (by omega) ⟨i+1,L1,V1, by omega,rfl,(Xe (m:=n+2*(i+1)) (by omega) (hS16.pick [2,0,3,4] U)).reorder [1,0,2,3] U, by omega,hI1,hsp,hal,hpg,hdr.F hk hob⟩
 refine QM (Qo (Qo (Qx (Qc ?_))))
 have hil:i=(Q8 ks).length:= by omega
 rw[hil,List.take_length]at hdr
 obtain⟨g,hg1,hg2,hg3,hg4⟩:=_root_.id hdr
 have ht1:L1.tr id=some {t with lv:=g}:= by rw[hg1,Qy]
 have hS17:=Xy (hS5.pick [0,1,2,3] U)
 have hS18:=ZB (hS17.pick [3,0,1,2,4,5,6,7] U) ht1
 refine Qa (Qb U U (Qj U U (Qg U Rh U (Qn U MQ (hS18.cell 0 U U) U (Qb U U (Xw (k:=ob) (v:= .bool true) 3 hS18 keysStr Tryz.underlying91 U U U U ?_))))))
 intro w19 hS19; dsimp only[List.set]at hS19; rw[VI]at hS19
 clear hS18
 refine Qf (ZD (.inl U) U ?_)
 have hS20:=HT (t:=({t with lv:=g,dr:=Wv t.dr ob}:TrD)) (hS19.pick [0,1,2,3,4,5,6,7,8,9,10,11] U)
 rw[←J2 (ad:=TrD.ad) (f:=L1.tr) (k:=id) (y:=({t with lv:=g,dr:=Wv t.dr ob}:TrD)) ht1 U]at hS20
 have hfin:=Ly hI1 hsp hal hpg hdr ht (PJ hks) hg1 hg2 hg3 hg4
 exact⟨_,rfl,{L1 with tr:=Xi L1.tr id (some ({t with lv:=g,dr:=Wv t.dr ob}:TrD))},V1,hfin.1,hfin.2,Pw ht hg2 (by show Xi L1.tr id _=_; rw[hg1,Ji]) (fun k x hx=> by obtain⟨y,hy,_⟩:=(hg3 k).2 x hx; rw[hy]; simp),(Xe (m:=n+2*c) (by omega) ((QZ (L:={L1 with tr:=Xi L1.tr id (some ({t with lv:=g,dr:=Wv t.dr ob}:TrD))}) (hS20.pick [1,2,3,0,4,5,7] rfl)).reorder [1,0,2] rfl)).reorder [1,0,2] rfl⟩
end Go.Proofs.YtkcjfoaejijdoaaGreatDoor
namespace Go.Proofs.YtkcjfoaejijdoaaGreatDoor
open Go.RowKit M
variable [Inhabited SlW]
theorem Hm {α:Type} {L:List α} (hn:L.Nodup) {i:Nat} {y:α} (hy:L[i]? =some y):y∉L.take i:= by
  intro q
  obtain⟨j,hj⟩:=List.mem_iff_getElem?.1 q
  have hji:j<i:= by have :=(XR hj).1; rw[List.length_take]at this;omega
  rw[List.getElem?_take_of_lt hji]at hj
  have h1:=(XR hy)
  have h2:=(XR hj)
  obtain⟨p1,p2⟩:=h1
  obtain⟨r1,r2⟩:=h2
  have :=(List.getElem_inj hn).1 (r2.trans p2.symm)
  omega
def AN (id:Int) (l:List KD):Pl→Prop:= fun p=> ∃k o,p= .inr (id,k,o)∧k∈l
theorem C7 {κ α:Type} {ad:α→Nat} {f:κ→Option α} {k:κ}:upd (Xv ad f) k none=Xv ad (Xi f k none):= by
  funext j
  by_cases h:j=k
  · subst h; rw[Wd];unfold Xv; rw[Qy];rfl
  · rw[Jd h];unfold Xv; rw[Q7 h]
structure RemI (ex:Int→Int) (L:LvD) (V V1:VS) (id:Int) (l:List KD):Prop where
  ref:RefI (Wf (AN id l) 0 (QJ L)) V1 ex
  pg:Pgs V V1
  al: ∀c,AliveLe V c→AliveLe V1 c
theorem RemI.start {ex:Int→Int} {m:Nat} {L:LvD} {V:VS} {id:Int} (h:LvX ex m L V):RemI ex L V V id []:=
  ⟨h.ref.fn fun p=> by simp [Wf,AN],.refl, fun _ q=>q⟩
theorem Mq {κ:Type} {f:κ→Int} {V:VS} {ex:Int→Int} (h:RefI f V ex) (hx:NN ex) (p:κ):RefI (UA f p 0) (Zb V (f p)) ex:=
  ((h.put p 0).unr (h.aliveN U (hx _))).ext fun j hj=> by rw[Ja (s:=0) hj];omega
theorem RemI.step {ex:Int→Int} {L:LvD} {V V1:VS} {id:Int} {t:TrD} {l:List KD} {i:Nat} {k:KD} {x:LfD} (h:RemI ex L V V1 id (l.take i)) (hx:NN ex) (ht:L.tr id=some t) (hl:t.lv k=some x) (hk:l[i]? =some k) (hn:l.Nodup):
    RemI ex L V (Zb (Zb V1 x.base) x.own) id (l.take (i+1)):= by
  have hni:k∉l.take i:=Hm hn hk
  have hnz: ∀o,¬AN id (l.take i) (.inr (id,k,o)):= fun o=> by
    rintro⟨k',o',e,q⟩
    simp at e
    obtain⟨rfl,rfl⟩:=e
    exact hni q
  have e1:Wf (AN id (l.take i)) 0 (QJ L) (.inr (id,k,false))=x.base:= by unfold Wf; rw[if_neg (hnz _),Xj ht hl];rfl
  have a1:=Mq h.ref hx (.inr (id,k,false))
  rw[e1]at a1
  have e2:UA (Wf (AN id (l.take i)) 0 (QJ L)) (.inr (id,k,false)) 0 (.inr (id,k,true))=x.own:= by rw[XM (by simp)];unfold Wf; rw[if_neg (hnz _),Xj ht hl];rfl
  have a2:=Mq a1 hx (.inr (id,k,true))
  rw[e2]at a2
  refine⟨a2.fn fun p=> ?_,(h.pg.trans (Pgs.unr h.ref.zero)).trans (Pgs.unr a1.zero), fun c q=>(h.al c q).unr.unr⟩
  · have hz: ∀p,AN id (l.take (i+1)) p↔(p= .inr (id,k,true)∨(p= .inr (id,k,false)∨AN id (l.take i) p)):= fun p=> by
      unfold AN
      rw[List.take_add_one,hk]
      simp only[Option.toList_some,List.mem_append,List.mem_singleton]
      constructor
      · rintro⟨k',o,rfl,q | q⟩
        · exact .inr (.inr ⟨k',o,rfl,q⟩)
        · subst q; cases o
          · exact .inr (.inl U)
          · exact .inl U
      · rintro(rfl | rfl | ⟨k',o,rfl,q⟩)
        · exact⟨k,true,rfl,.inr U⟩
        · exact⟨k,false,rfl,.inr U⟩
        · exact⟨k',o,rfl,.inl q⟩
    rw[H3 (P:= fun p=>p= .inr (id,k,false)∨AN id (l.take i) p) hz,H3 (P:=AN id (l.take i)) (fun _=>Iff.rfl)]
noncomputable def GE (A:LvA) (id:Int):LvA:={A with tr:=Xi A.tr id none}
theorem RankI.del {T:Int→Option TrD} {m:Nat} {id:Int} (h:RankI T m) (hch: ∀i u,T i=some u→u.parent≠id):RankI (Xi T id none) m:= by
  obtain⟨h0,r,a,b⟩:=h
  have h00:Xi T id none 0=none:= by
    by_cases e:(0:Int)=id
    · rw[←e,Qy]
    · rw[Q7 e]; exact h0
  refine⟨h00,r,a, fun i t ht=> ?_⟩
  by_cases e:i=id
  · subst e; rw[Qy]at ht; cases ht
  · rw[Q7 e]at ht
    rcases b i t ht with h1 | ⟨h1,h2⟩
    · exact .inl h1
    · exact .inr ⟨by rw[Q7 (hch i t ht)]; exact h1,h2⟩
theorem rem_fin {ex:Int→Int} {m:Nat} {L:LvD} {V V1:VS} {id:Int} {t:TrD} {l:List KD} {f:Int→Bool} (hI:LvX ex m L V) (hx:NN ex) (h:RemI ex L V V1 id l) (ht:L.tr id=some t) (hl: ∀k,k∈l↔t.lv k≠none) (hch: ∀i u,L.tr i=some u→u.parent≠id):
    StepX ex m L V ex m 0 0 {L with tr:=Xi L.tr id none,sh:=f} V1∧Q1 {L with tr:=Xi L.tr id none,sh:=f} V1=GE (Q1 L V) id:= by
  generalize hL2:({L with tr:=Xi L.tr id none,sh:=f}:LvD)=L2
  have hP:L2.pres=L.pres:= by subst hL2;rfl
  have hT:L2.tr=Xi L.tr id none:= by subst hL2;rfl
  have hf: ∀p,QJ L2 p=Wf (AN id l) 0 (QJ L) p:= fun p=> by
    unfold Wf
    cases p with
    | inl j=>
      rw[if_neg (by rintro⟨_,_,e,_⟩; cases e)]
      simp [QJ,hP]
    | inr q=>
      obtain⟨i,k,o⟩:=q
      by_cases e:i=id
      · subst e
        have e1:QJ L2 (.inr (i,k,o))=0:= by simp only[QJ,hT,Qy]
        rw[e1]
        split
        · rfl
        · rename_i hq
          cases hk:t.lv k with
          | none=> rw[Ks ht hk]
          | some x=> exact absurd ⟨k,o,rfl,(hl k).2 (by rw[hk]; simp)⟩ hq
      · rw[if_neg (by rintro⟨_,_,e2,_⟩; cases e2; exact e rfl)]
        simp only[QJ,hT]
        rw[Q7 e]
  have a1:RefI (QJ L2) V1 ex:=h.ref.fn hf
  have hc: ∀p,XH V1 (QJ L2 p)=XH V (QJ L2 p):= fun p=>(h.pg _ (a1.aliveN U (hx _))).2
  have e1:Q1 L2 V1=GE (Q1 L V) id:= by
    rw[U9 (V:=V) hc]
    unfold Q1 GE
    rw[hP,hT]
    congr 1
    funext i
    by_cases e:i=id
    · subst e; rw[Qy,Qy];rfl
    · rw[Q7 e,Q7 e]
  refine⟨⟨⟨a1, by rw[hT]; exact hI.rank.del hch, ?_⟩, by subst hL2;rfl,h.al, fun c q=> ?_,h.pg⟩,e1⟩
  · rw[e1]
    intro i u k x hi hk
    dsimp only[GE]at hi
    by_cases e:i=id
    · subst e; rw[Qy]at hi; cases hi
    · rw[Q7 e]at hi; exact hI.agree i u k x hi hk
  · obtain⟨li,a,b,d⟩:=q
    refine⟨li,a, fun k hk=>b k (by rwa [hP]at hk), fun j u k x hj hk=> ?_⟩
    rw[hT]at hj
    by_cases e:j=id
    · subst e; rw[Qy]at hj; cases hj
    · rw[Q7 e]at hj; exact d j u k x hj hk
theorem Mo {w:World} {ex:Int→Int} {m:Nat} {b n Fr:Nat} {L:LvD} {V:VS} {F:Th} (hS:Sat w [XY b L,XG L.sp n Fr V,F]) {c:Nat} (hc:SzLe L c) (hn:n+2*c≤60000000000) (hI:LvX ex m L V) (hx:NN ex) {id:Int} {t:TrD} (ht:L.tr id=some t) (hch: ∀i u,L.tr i=some u→u.parent≠id):
    Calls Tryz.prog 55 #[ptrV b 0,intV id] w (Ret fun v w'=> ∃L' V',StepX ex m L V ex m 0 0 L' V'∧Q1 L' V'=GE (Q1 L V) id∧L'.pres=L.pres∧L'.tr=Xi L.tr id none∧Sat w' [XY b L',XG L'.sp (n+2*c) Fr V',F]):= by
 replace hS:=Xy hS
 refine Qm Tryz.func55 U Tryz.ntmps55 U ?_
 refine Qd (Qa (Qb U U (Qj U U (Qg U Z7 U (Qn U WN (hS.cell 0 U U) U (Qb U U (XT (k:=id) 2 hS keysInt Tryz.underlying82 U U U Yu (u:=ptrV t.ad 0) (Zw ht) U (Qe U U (Qf (Qc (Qd (Qd ?_))))))))))))
 have hS1:=ZB (hS.pick [3,0,1,2,4,5,6] U) ht
 refine Qa (Qb U U (Qj U U (Qg U ZU U (Qn U Jy (hS1.cell 0 U U) U ?_))))
 refine Qw TG U (Ra (hS1.sp [1] U) (fun ks h=> by have :=hc.keysL ht h;omega)) U ?_
 rintro _ w2 ⟨ks,hks,hS2⟩
 replace hS2:=hS2.jn U U
 clear hS1
 obtain⟨ar,cr,hvr,_⟩:=hS2.own_shape 0 rfl; obtain rfl:=hvr
 refine Xr Tryz.underlying98 U U (Qb U U (Qf (Qc (Qh [1,0,4,17,18,19] U (Qv ?_)))))
 have hnd:=H6 hks.nodup
 have hlk:(Q8 ks).length≤c:= by rw[ZJ]; exact hc.keysL ht (Came.of_all hks)
 refine Xb (fun K0 E0 W0=> ∃(i:Nat) (f:Int→Bool) (V1:VS),K0=(Q8 ks).length -i∧E0=[(0,ptrV b 0),(1,intV id),(4,ptrV t.ad 0),(17,.slice ar (Q8 ks).length cr),(18,intV ((Q8 ks).length:Int)),(19,intV (i:Int))]∧Sat W0 [Q3 t.ad [intV t.parent,.map (some t.ml),.map (some t.md)],Q5 Xo t.ml (Xv LfD.ad t.lv),Zj VQ t.lv,Q5 Js t.md (ZZ t.dr),Zj HK (Xi L.tr id none),Q3 b [ptrV L.sp 0,.map (some L.mp),.map (some L.mt),intV L.cur,.map (some L.ms)],Q5 Xo L.mp (Zg L.pres),Q5 QO L.mt (Xv TrD.ad L.tr),Q5 QO L.ms (ZZ f),XG L.sp (n+2*i) Fr V1,rowT kC (.slice ar (Q8 ks).length cr) (Q8 ks),F]∧(i≤(Q8 ks).length)∧(RemI ex L V V1 id ((Q8 ks).take i))) (L0:=[(0,_),(1,_),(4,_),(17,_),(18,_),(19,_)]) ((Q8 ks).length) (Gp U U U U U U) ⟨0,L.sh,V, by omega,rfl,hS2.pick [2,1,3,4,5,6,7,8,9,10,0,11] U, by omega,RemI.start hI⟩ ?_
 rintro _ _ w3 ⟨i,f,V1,rfl,rfl,hS3,hi,hrm⟩
 refine Qd (Qa (Xg U U U (Qf (Qc (Qd (Qs U (fun h4=> ?_) (fun h4=> ?_)))))))
 ·obtain⟨k,hk⟩: ∃k,(Q8 ks)[i]? =some k:=⟨_,Zi (by omega)⟩
  refine Qt (Qc (Qd (Qv (Qd (Qa (QW kC 10 i hS3 U U U (by first | rfl | omega) hk Va U ?_))))))
  intro bx5 capx5 hvx5
  refine ZA 10 i hS3 U hvx5 U hk X7 Xc U U (QX hS3 Z2 U U ?_)
  intro kb wk6 hk6
  clear hS3
  refine QK hk6 U U Xc U (by rfl) (i:=0) U (by decide) ?_
  intro wk7 hk7; dsimp only[List.set]at hk7
  clear hk6
  replace hk7:=X5 (k:=k) hk7
  refine Qf (Qc (Qd ?_))
  obtain⟨x,hl⟩: ∃x,t.lv k=some x:=Option.ne_none_iff_exists'.1 ((PJ hks k).1 (List.mem_of_getElem? hk))
  have hS8:=JO (hk7.pick [3,0,1,2,4,5,6,7,8,9,10,11,12] U) hl
  have hS9:=hS8.drew
  refine QF [0,1,2,3,4,5,6,7,8,9,10] [10] We (by kernel_rfl) ?_
  refine QG U U U (QG U U U (Xh U U U (QV U U U ZU (Q4 U U U (Qr U Jy (hS9.cell 3 U U)) (Q4 U U U (XF U X7 Xc (hS9.blk 2 U) (Xa U) U) (Q4 U U U (Xz (k:=k) 4 hS9 keysKey Tryz.underlying90 U U U HQ (u:=ptrV x.ad 0) (Zw hl)) (Xh U U U (QV U U U U3 (Q4 U U U (Qr U QL (hS9.cell 0 U U)) (Xn U U U U U U ?_))))))))))
  refine Qw HF U (H5 (hS9.sp [7,10,11] U) (by omega) x.base) U ?_
  rintro _ w10 ⟨rfl,hS10⟩
  replace hS10:=hS10.jn U U
  clear hS9
  refine XQ (X1 (by kernel_rfl)) ?_
  refine VC.nil (Qc (Qh [19,18,17,4,1,0,6] U ?_))
  have hS11:=hS10.drew
  refine QF [0,1,2,3,4,5,6,7,8,9,10] [10] We (by kernel_rfl) ?_
  refine QG U U U (QG U U U (Xh U U U (QV U U U ZU (Q4 U U U (Qr U Jy (hS11.cell 6 U U)) (Q4 U U U (XF U X7 Xc (hS11.blk 5 U) (Xa U) U) (Q4 U U U (Xz (k:=k) 7 hS11 keysKey Tryz.underlying90 U U U HQ (u:=ptrV x.ad 0) (Zw hl)) (Xh U U U (QV U U U W5 (Q4 U U U (Qr U QL (hS11.cell 3 U U)) (Xn U U U U U U ?_))))))))))
  refine Qw HF U (H5 (hS11.sp [0,1,2] U) (by omega) x.own) U ?_
  rintro _ w12 ⟨rfl,hS12⟩
  replace hS12:=hS12.jn U U
  clear hS11
  refine XQ (X1 (by kernel_rfl)) ?_
  refine VC.nil (Qk (Qc (Qh [19,18,17,4,1,0] U (Qa (QI U U (by omega) (by omega) U ?_)))))
  refine Qb U U (Qf ?_)
  have hS13:=ZX hl (hS12.pick [3,4,0,1,2,5,6,7,8,9,10,11,12,13] U)
  have hr2:=hrm.step hx ht hl hk hnd
  exact Q0 (L1:=[(0,_),(1,_),(4,_),(17,_),(18,_),(19,intV ((i+1:Nat):Int))]) (Gp U U U U U U) (k1:=(Q8 ks).length -(i+1)) (by omega) ⟨i+1,_,_, by omega,rfl,hS13.pick [5,6,0,7,8,1,9,10,2,3,11,12] U, by omega,hr2⟩
 refine QM (Qo (Qo (Qx (Qc (Qa (Qb U U (Qj U U (Qg U Z7 U (Qn U WN (hS3.cell 5 U U) U (Qb U U (Yv (k:=id) 7 hS3 keysInt Tryz.underlying82 U U U U ?_)))))))))))
 intro w14 hS14; dsimp only[List.set]at hS14; rw[C7]at hS14
 clear hS3
 refine Qf (ZD (.inl U) U ?_)
 have hil:i=(Q8 ks).length:= by omega
 rw[hil,List.take_length]at hrm
 have hfin:=rem_fin (f:=f) hI hx hrm ht (PJ hks) hch
 exact⟨_,rfl,{L with tr:=Xi L.tr id none,sh:=f},V1,hfin.1,hfin.2,rfl,rfl,(Xe (m:=n+2*c) (by omega) ((QZ (L:={L with tr:=Xi L.tr id none,sh:=f}) (hS14.pick [5,6,7,4,8,9,11] U)).reorder [1,0,2] U)).reorder [1,0,2] U⟩
end Go.Proofs.YtkcjfoaejijdoaaGreatDoor
namespace Go.Proofs.YtkcjfoaejijdoaaGreatDoor
open Go.RowKit M
variable [Inhabited SlW]
def KZ (now own:Bs) (wr:BitVec 64):Bs:=(List.range 64).map fun j=> if wr.getLsbD j=true then own.getD j 0 else now.getD j 0
def MgI (now own r:Bs) (wr:BitVec 64) (i:Nat):Prop:=r.length=64∧ ∀j,j<64→r[j]? = if j<i∧wr.getLsbD j=true then own[j]? else now[j]?
theorem MgI.start {now own:Bs} {wr:BitVec 64} (h:now.length=64):MgI now own now wr 0:=⟨h, fun j _=> by rw[if_neg (by omega)]⟩
theorem MgI.T {now own r:Bs} {wr:BitVec 64} {i:Nat} {c:UInt8} (h:MgI now own r wr i) (hi:i<64) (hw:wr.getLsbD i=true) (hc:own[i]? =some c):MgI now own (r.set i c) wr (i+1):= by
  refine⟨by rw[List.length_set]; exact h.1, fun j hj=> ?_⟩
  by_cases e:j=i
  · subst e
    rw[List.getElem?_set_self (by rw[h.1];omega),if_pos ⟨by omega,hw⟩,hc]
  · rw[List.getElem?_set_ne (fun q=>e q.symm),h.2 j hj]
    by_cases q:j<i∧wr.getLsbD j=true
    · rw[if_pos q,if_pos ⟨by omega,q.2⟩]
    · rw[if_neg q,if_neg fun a=>q ⟨by omega,a.2⟩]
theorem MgI.F {now own r:Bs} {wr:BitVec 64} {i:Nat} (h:MgI now own r wr i) (hw:wr.getLsbD i=false):MgI now own r wr (i+1):= by
  refine⟨h.1, fun j hj=> ?_⟩
  rw[h.2 j hj]
  by_cases q:j<i∧wr.getLsbD j=true
  · rw[if_pos q,if_pos ⟨by omega,q.2⟩]
  · rw[if_neg q,if_neg fun a=>q ⟨by
      have :j≠i:= fun e=> by subst e; rw[hw]at a; simp at a
      omega,a.2⟩]
theorem getD_some {l:Bs} {j:Nat} (h:j<l.length):l[j]? =some (l.getD j 0):= by simp [List.getD,h]
theorem MgI.fin {now own r:Bs} {wr:BitVec 64} (h:MgI now own r wr 64) (hn:now.length=64) (ho:own.length=64):r=KZ now own wr:= by
  apply List.ext_getElem?
  intro j
  by_cases hj:j<64
  · rw[h.2 j hj]
    unfold KZ
    rw[List.getElem?_map,List.getElem?_range hj]
    simp only[Option.map_some]
    split
    · rename_i q; rw[if_pos q.2,getD_some (by omega)]
    · rename_i q; rw[if_neg fun a=>q ⟨hj,a⟩,getD_some (by omega)]
  · rw[List.getElem?_eq_none (by rw[h.1];omega),List.getElem?_eq_none (by simp [KZ];omega)]
theorem U1 {now own:Bs} {wr:BitVec 64}:(KZ now own wr).length=64:= by simp [KZ]
def Ka (L:LvD) (t:TrD) (k:KD) (x:LfD):Prop:=x.wr≠0#64∧x.wr≠BitVec.allOnes 64∧X2 L t.parent k≠x.base
open Classical in
noncomputable def Yi (t:TrD) (l:List KD):Nat:=(l.filter fun k=>decide (∃x,t.lv k=some x∧x.wr≠0#64∧x.wr≠BitVec.allOnes 64)).length
def H9 (made:KD→Option Int):KD→Int:= fun k=>(made k).getD 0
structure MdI (m:Nat) (L:LvD) (V V1:VS) (t:TrD) (ex:Int→Int) (made:KD→Option Int) (l:List KD):Prop where
  inv:LvX ex m L V1
  ab:Q1 L V1=Q1 L V
  pg: ∀s,Xq V s→XH V1 s=XH V s
  av: ∀s,Xq V s→Xq V1 s
  mx: ∀j,j≠0→ ∃n:Nat,TZ (H9 made) j n∧ex j=n
  dom: ∀k,made k≠none↔k∈l∧ ∃x,t.lv k=some x∧Ka L t k x
  con: ∀k s x,made k=some s→t.lv k=some x→XH V1 s=KZ (XH V (X2 L t.parent k)) (XH V x.own) x.wr
  al: ∀c,AliveLe V c→AliveLe V1 (c+Yi t l)
theorem Bh {κ:Type} {j:Int} (h:j≠0):TZ (fun _:κ=>0) j 0:=⟨[],List.nodup_nil, fun p=> by simp;omega,rfl⟩
theorem MdI.start {m:Nat} {L:LvD} {V:VS} {t:TrD} (h:LvI m L V):MdI m L V V t (fun _=>0) (fun _=>none) []:=
  ⟨h,rfl, fun _ _=>rfl, fun _ q=>q, fun j hj=>⟨0,Bh hj,rfl⟩, fun k=> by simp,(fun k s x q=> by cases q), fun c q=>q⟩
theorem MdI.nn {m:Nat} {L:LvD} {V V1:VS} {t:TrD} {ex:Int→Int} {made:KD→Option Int} {l:List KD} (h:MdI m L V V1 t ex made l):NN ex:= fun j hj=> by
  obtain⟨n,_,e⟩:=h.mx j hj
  rw[e];omega
theorem MdI.ge {m:Nat} {L:LvD} {V V1:VS} {t:TrD} {ex:Int→Int} {made:KD→Option Int} {l:List KD} (h:MdI m L V V1 t ex made l) {k:KD} {s:Int} (hk:made k=some s) (h0:s≠0):1≤ex s:= by
  obtain⟨n,a,e⟩:=h.mx s h0
  have :=Bg a (p:=k) (by unfold H9; rw[hk];rfl)
  rw[e];omega
theorem MdI.alive {m:Nat} {L:LvD} {V V1:VS} {t:TrD} {ex:Int→Int} {made:KD→Option Int} {l:List KD} (h:MdI m L V V1 t ex made l) {k:KD} {s:Int} (hk:made k=some s):Xq V1 s:= by
  by_cases h0:s=0
  · exact .inl h0
  · obtain⟨n,a,b⟩:=h.inv.ref.1 s h0
    have :=h.ge hk h0
    exact .inr (h.inv.ref.alive_of (by omega))
theorem Ab {t:TrD} {l:List KD} {i:Nat} {k:KD} (hk:l[i]? =some k):Yi t (l.take i)≤Yi t (l.take (i+1)):= by
  unfold Yi
  rw[List.take_add_one,hk,List.filter_append,List.length_append]
  omega
theorem La {t:TrD} {l:List KD} {i:Nat} {k:KD} {x:LfD} (hk:l[i]? =some k) (hx:t.lv k=some x) (h1:x.wr≠0#64) (h2:x.wr≠BitVec.allOnes 64):Yi t (l.take (i+1))=Yi t (l.take i)+1:= by
  unfold Yi
  rw[List.take_add_one,hk,List.filter_append,List.length_append]
  simp only[Option.toList_some]
  rw[List.filter_cons_of_pos (by simp; exact⟨x,hx,h1,h2⟩)]
  rfl
theorem V5 {l:List KD} {i:Nat} {k j:KD} (hk:l[i]? =some k):j∈l.take (i+1)↔j∈l.take i∨j=k:= by
  rw[List.take_add_one,hk]; simp
theorem MdI.skip {m:Nat} {L:LvD} {V V1:VS} {t:TrD} {ex:Int→Int} {made:KD→Option Int} {l:List KD} {i:Nat} {k:KD} {x:LfD} (h:MdI m L V V1 t ex made (l.take i)) (hk:l[i]? =some k) (hx:t.lv k=some x) (hn: ¬Ka L t k x):MdI m L V V1 t ex made (l.take (i+1)):=
  ⟨h.inv,h.ab,h.pg,h.av,h.mx, fun j=> by
    rw[h.dom,V5 hk]
    constructor
    · rintro⟨a,b⟩; exact⟨.inl a,b⟩
    · rintro⟨a | rfl,y,hy,b⟩
      · exact⟨a,y,hy,b⟩
      · rw[hx]at hy; cases hy; exact absurd b hn,h.con, fun c q=>(h.al c q).mono (by have :=Ab (t:=t) hk;omega)⟩
theorem mdF_up {made:KD→Option Int} {k:KD} {s:Int}:H9 (Xi made k (some s))=UA (H9 made) k s:= by
  funext j
  by_cases e:j=k
  · subst e; rw[X4];unfold H9; rw[Qy];rfl
  · rw[XM e];unfold H9; rw[Q7 e]
theorem MdI.put {m:Nat} {L:LvD} {V V1 V2:VS} {t:TrD} {ex ex2:Int→Int} {made:KD→Option Int} {l:List KD} {i:Nat} {k:KD} {x:LfD} {s:Int} (h:MdI m L V V1 t ex made (l.take i)) (hk:l[i]? =some k) (hd:l.Nodup) (hx:t.lv k=some x) (hn:Ka L t k x)
    (h1:LvX ex2 m L V2) (h2:Q1 L V2=Q1 L V) (h3: ∀j,Xq V1 j→XH V2 j=XH V1 j∧Xq V2 j) (h4: ∀j,j≠0→ex2 j=ex j+dl s j) (h5:XH V2 s=KZ (XH V (X2 L t.parent k)) (XH V x.own) x.wr) (h6: ∀c,AliveLe V1 c→AliveLe V2 (c+1)):
    MdI m L V V2 t ex2 (Xi made k (some s)) (l.take (i+1)):= by
  have hni:=Hm hd hk
  have hm0:made k=none:=Classical.byContradiction fun q=>hni ((h.dom k).1 q).1
  refine⟨h1,h2, fun j hj=>((h3 j (h.av j hj)).1).trans (h.pg j hj), fun j hj=>(h3 j (h.av j hj)).2, fun j hj=> ?_, fun j=> ?_, fun j u y hu hy=> ?_, fun c q=>(h6 _ (h.al c q)).mono (by rw[La hk hx hn.1 hn.2.1];omega)⟩
  · obtain⟨n,a,e⟩:=h.mx j hj
    rw[mdF_up]
    have hmk:H9 made k=0:= by unfold H9; rw[hm0];rfl
    by_cases q:j=s
    · subst q
      exact⟨n+1,O5 (by rw[hmk];omega) a, by rw[h4 j hj,Wt,e];omega⟩
    · refine⟨n,Uk (fun p=> ?_) a, by rw[h4 j hj,Ja q,e];omega⟩
      by_cases e2:p=k
      · subst e2; rw[X4,hmk]; exact⟨fun a=>absurd a.symm q, fun a=>absurd a.symm hj⟩
      · rw[XM e2]
  · rw[V5 hk]
    by_cases e:j=k
    · subst e; rw[Qy]; simp; exact⟨x,hx,hn⟩
    · rw[Q7 e,h.dom]
      constructor
      · rintro⟨a,b⟩; exact⟨.inl a,b⟩
      · rintro⟨a | a,b⟩
        · exact⟨a,b⟩
        · exact absurd a e
  · by_cases e:j=k
    · subst e
      rw[Qy]at hu
      rw[hx]at hy
      cases hu; cases hy
      exact h5
    · rw[Q7 e]at hu
      rw[(h3 u (h.alive hu)).1]
      exact h.con j u y hu hy
theorem MdI.zero {m:Nat} {L:LvD} {V V1:VS} {t:TrD} {ex:Int→Int} {made:KD→Option Int} {l:List KD} {i:Nat} {k:KD} {x:LfD} {pg:Bs} (h:MdI m L V V1 t ex made (l.take i)) (hk:l[i]? =some k) (hd:l.Nodup) (hx:t.lv k=some x) (hn:Ka L t k x)
    (hz:pg=zer) (hp:pg=KZ (XH V (X2 L t.parent k)) (XH V x.own) x.wr):MdI m L V V1 t ex (Xi made k (some 0)) (l.take (i+1)):=
  h.put hk hd hx hn h.inv h.ab (fun j hj=>⟨rfl,hj⟩) (fun j hj=> by rw[Ja hj];omega) (by rw[WG h.inv.zero,←hz,hp]) (fun c q=>q.mono (by omega))
theorem MdI.fresh {m:Nat} {L:LvD} {V V1:VS} {t:TrD} {ex:Int→Int} {made:KD→Option Int} {l:List KD} {i:Nat} {k:KD} {x:LfD} {pg:Bs} {s:Int} (h:MdI m L V V1 t ex made (l.take i)) (hk:l[i]? =some k) (hd:l.Nodup) (hx:t.lv k=some x) (hn:Ka L t k x)
    (hs:1≤s) (hv:V1 s=none) (hp:pg=KZ (XH V (X2 L t.parent k)) (XH V x.own) x.wr):MdI m L V (Xi V1 s (some (1,pg))) t (fun j=>ex j+dl s j) (Xi made k (some s)) (l.take (i+1)):= by
  have hl:pg.length=64:= by rw[hp]; exact U1
  have hne: ∀j,Xq V1 j→j≠s:= fun j hj e=> by
    subst e
    rcases hj with e | e
    · omega
    · exact e hv
  have e1:Q1 L (Xi V1 s (some (1,pg)))=Q1 L V1:=U9 fun p=>Vx (hne _ (h.inv.aliveX h.nn p))
  refine h.put hk hd hx hn ⟨h.inv.ref.fresh hv hs hl,h.inv.rank, by rw[e1]; exact h.inv.agree⟩ (e1.trans h.ab) (fun j hj=>⟨Vx (hne j hj), ?_⟩) (fun _ _=>rfl) (by rw[JN Qy]; exact hp) (fun c q=>q.put)
  rcases hj with e | e
  · exact .inl e
  · refine .inr ?_; rw[Q7 (hne j (.inr e))]; exact e
structure UnI (m:Nat) (L:LvD) (V V1:VS) (made:KD→Option Int) (l:List KD) (ex:Int→Int):Prop where
  inv:LvX ex m L V1
  ab:Q1 L V1=Q1 L V
  mx: ∀j,j≠0→ ∃n:Nat,TZ (Wf (fun k=>k∈l) 0 (H9 made)) j n∧ex j=n
  al: ∀c,AliveLe V c→AliveLe V1 c
theorem UnI.nn {m:Nat} {L:LvD} {V V1:VS} {ex:Int→Int} {made:KD→Option Int} {l:List KD} (h:UnI m L V V1 made l ex):NN ex:= fun j hj=> by
  obtain⟨n,_,e⟩:=h.mx j hj
  rw[e];omega
theorem UnI.step {m:Nat} {L:LvD} {V V1:VS} {ex:Int→Int} {made:KD→Option Int} {l:List KD} {i:Nat} {k:KD} (h:UnI m L V V1 made (l.take i) ex) (hk:l[i]? =some k) (hd:l.Nodup):
    UnI m L V (Zb V1 (H9 made k)) made (l.take (i+1)) (fun j=>ex j -dl (H9 made k) j):= by
  have hni:=Hm hd hk
  have hz:Wf (fun k=>k∈l.take i) 0 (H9 made) k=H9 made k:= by unfold Wf; rw[if_neg hni]
  obtain⟨h1,h2⟩:=h.inv.unr (s:=H9 made k) h.nn fun h0=> by
    obtain⟨n,a,e⟩:=h.mx _ h0
    have :=Bg a (p:=k) hz
    rw[e];omega
  refine⟨h1,h2.trans h.ab, fun j hj=> ?_, fun c q=>(h.al c q).unr⟩
  obtain⟨n,a,e⟩:=h.mx j hj
  rw[H3 (P:= fun k=>k∈l.take i) (k:=k) (fun p=>(V5 hk).trans Or.comm)]
  by_cases q:H9 made k=j
  · obtain⟨n',rfl,b⟩:=T8 (v:=0) (hz.trans q) (by omega) a
    exact⟨n',b, by show ex j -dl (H9 made k) j=_; rw[q,Wt,e];omega⟩
  · refine⟨n,Uk (fun p=> ?_) a, by show ex j -dl (H9 made k) j=_; rw[Ja (fun a=>q a.symm),e];omega⟩
    by_cases e2:p=k
    · subst e2; rw[X4,hz]; exact⟨fun a=>absurd a.symm hj, fun a=>absurd a q⟩
    · rw[XM e2]
theorem UnI.fin {m:Nat} {L:LvD} {V V1:VS} {ex:Int→Int} {made:KD→Option Int} {l:List KD} (h:UnI m L V V1 made l ex) (hl: ∀k,made k≠none→k∈l):LvI m L V1:= by
  refine h.inv.ext fun j hj=> ?_
  obtain⟨n,a,e⟩:=h.mx j hj
  have e1:Wf (fun k=>k∈l) 0 (H9 made)= fun _=>0:= by
    funext k
    unfold Wf
    split
    · rfl
    · rename_i q
      unfold H9
      cases r:made k with
      | none=>rfl
      | some s=> exact absurd (hl k (by rw[r]; simp)) q
  rw[e1]at a
  rw[e,T9 a (Bh hj)];rfl
def RA (made:KD→Option Int):KD→Option Value:= fun k=>(made k).map intV
theorem Ao:RA (fun _=>none)= fun _=>none:=rfl
theorem To {made:KD→Option Int} {k:KD} {s:Int}:upd (RA made) k (some (intV s))=RA (Xi made k (some s)):= by
  funext j
  by_cases e:j=k
  · subst e; rw[Wd];unfold RA; rw[Qy];rfl
  · rw[Jd e];unfold RA; rw[Q7 e]
theorem Sl {made:KD→Option Int} {k:KD}:(RA made k).getD (intV 0)=intV (H9 made k):= by unfold RA H9; cases made k<;>rfl
theorem MdI.un {m:Nat} {L:LvD} {V V1:VS} {t:TrD} {ex:Int→Int} {made:KD→Option Int} {l:List KD} (h:MdI m L V V1 t ex made l):UnI m L V1 V1 made [] ex:= by
  refine⟨h.inv,rfl, fun j hj=> ?_, fun _ q=>q⟩
  obtain⟨n,a,e⟩:=h.mx j hj
  exact⟨n, by have e2:Wf (fun k=>k∈([]:List KD)) 0 (H9 made)=H9 made:=(by funext k; simp [Wf]); rw[e2]; exact a,e⟩
end Go.Proofs.YtkcjfoaejijdoaaGreatDoor
