/- leaves: Drop in a trial -/
import Derived.Test.YtkcjfoaejijdoaaGreatDoorSk
import Derived.Shelf.Spec.TrailingZeros
set_option linter.unusedSectionVars false
set_option linter.unusedVariables false
set_option maxRecDepth 100000
set_option maxHeartbeats 1600000
namespace Go.Proofs.YtkcjfoaejijdoaaGreatDoor
open Go.RowKit M Proofs.Tryz
variable [Inhabited SlW]
theorem YI {L:LvD} {id:Int} {t:TrD} {k:KD} {x:LfD} (ht:L.tr id=some t) (hx:t.lv k=some x):ZD L id t k x=L:= by
  unfold ZD
  rw[WU hx,WU ht]
def DrI (L L1:LvD) (V V1:VS) (id:Int) (t:TrD) (l:List KD) (ob:Bs):Prop:=
  ∃ g:KD→Option LfD,L1.tr=Xu L.tr id (some {t with lv:=g})∧L1.pres=L.pres∧(∀k,(g k=none↔t.lv k=none)∧ ∀x,g k=some x→ ∃y,t.lv k=some y∧y.ad=x.ad)∧
    Q1 L1 V1={Q1 L V with tr:=Xu (Q1 L V).tr id (some {ZG V t with lv:=Z1 (inD l ob) (ZG V t).lv})}
theorem DrI.start {L:LvD} {V:VS} {id:Int} {t:TrD} {ob:Bs} (ht:L.tr id=some t):DrI L L V V id t [] ob:= by
  refine⟨t.lv,(WU ht).symm,rfl, fun k=>⟨Iff.rfl, fun x hx=>⟨x,hx,rfl⟩⟩, ?_⟩
  rw[PP]
  have :=WU (f:=(Q1 L V).tr) (k:=id) (Zh ht)
  show Q1 L V={Q1 L V with tr:=Xu (Q1 L V).tr id (some (ZG V t))}
  rw[this]
theorem DrI.F {L L1:LvD} {V V1:VS} {id:Int} {t:TrD} {l:List KD} {i:Nat} {k:KD} {ob:Bs} (h:DrI L L1 V V1 id t (l.take i) ob) (hk:l[i]? =some k) (hob:k.1≠ob):DrI L L1 V V1 id t (l.take (i+1)) ob:= by
  obtain⟨g,a,b,c,d⟩:=h
  refine⟨g,a,b,c, ?_⟩
  rw[d,DP fun j _=>(OM hk hob j).symm]
theorem DrI.T {L L1:LvD} {V V1 V2:VS} {id:Int} {t t1:TrD} {l:List KD} {i:Nat} {k:KD} {x y:LfD} {ob:Bs} {f:Int→Bool} (h:DrI L L1 V V1 id t (l.take i) ob) (hk:l[i]? =some k) (hob:k.1=ob) (ht1:L1.tr id=some t1) (hx:t1.lv k=some x) (hy:y.ad=x.ad)
    (hab:Q1 (ZD {L1 with sh:=f} id t1 k y) V2=ZJ (Q1 L1 V1) id k (allX (Wu V1 x) zer)):DrI L (ZD {L1 with sh:=f} id t1 k y) V V2 id t (l.take (i+1)) ob:= by
  obtain⟨g,a,b,c,d⟩:=h
  rw[a,Qy]at ht1
  cases ht1
  dsimp only at hx
  refine⟨Xu g k (some y), ?_,b, fun j=> ?_, ?_⟩
  · show Xu L1.tr id _=_
    rw[a,J0]
  · by_cases e:j=k
    · subst e
      rw[Qy]
      obtain⟨z,hz,hza⟩:=(c j).2 x hx
      refine⟨⟨(fun q=> by cases q),(fun q=> by rw[hz]at q; cases q)⟩, fun w hw=> ?_⟩
      cases hw
      exact⟨z,hz,hza.trans hy.symm⟩
    · rw[QF e]; exact c j
  · have htA:(Q1 L1 V1).tr id=some {ZG V t with lv:=Z1 (inD (l.take i) ob) (ZG V t).lv}:= by rw[d]; exact Qy
    have hxA:({ZG V t with lv:=Z1 (inD (l.take i) ob) (ZG V t).lv}:TrA).lv k=some (Wu V1 x):= by
      have h1:=Zh (V:=V1) (show L1.tr id=some {t with lv:=g} by rw[a,Qy])
      rw[htA]at h1
      have h2:=ZR (V:=V1) (t:={t with lv:=g}) hx
      have h3:({ZG V t with lv:=Z1 (inD (l.take i) ob) (ZG V t).lv}:TrA)=ZG V1 {t with lv:=g}:= by simpa using h1
      rw[h3]; exact h2
    rw[hab,Wg htA,d]
    simp only[J0]
    rw[En (OL hk hob) hxA]
theorem Em {V:VS} {t:TrD} {l:List KD} {ob:Bs} (hl: ∀k,k∈l↔t.lv k≠none):Z1 (inD l ob) (ZG V t).lv=Z1 (fun j=>j.1=ob) (ZG V t).lv:=
  DP fun j hj=> by
    have :t.lv j≠none:= fun q=>hj (V8 q)
    unfold inD
    rw[hl]; simp [this]
theorem El {ex:Int→Int} {m:Nat} {L L1:LvD} {V V1:VS} {id:Int} {t:TrD} {l:List KD} {ob:Bs} {g:KD→Option LfD} (hI1:LvX ex m L1 V1) (hsp:L1.sp=L.sp) (hal: ∀c,AliveLe V c→AliveLe V1 c) (hpg:Pgs V V1) (hdr:DrI L L1 V V1 id t l ob) (ht:L.tr id=some t) (hl: ∀k,k∈l↔t.lv k≠none)
    (hg1:L1.tr=Xu L.tr id (some {t with lv:=g})) (hg2:L1.pres=L.pres) (hg3: ∀k,(g k=none↔t.lv k=none)∧ ∀x,g k=some x→ ∃y,t.lv k=some y∧y.ad=x.ad)
    (hg4:Q1 L1 V1={Q1 L V with tr:=Xu (Q1 L V).tr id (some {ZG V t with lv:=Z1 (inD l ob) (ZG V t).lv})}):
    StepX ex m L V ex m 0 0 {L1 with tr:=Xu L1.tr id (some {t with lv:=g,dr:=WC t.dr ob})} V1∧Q1 {L1 with tr:=Xu L1.tr id (some {t with lv:=g,dr:=WC t.dr ob})} V1=dropT (Q1 L V) id ob:= by
  have ht1:L1.tr id=some {t with lv:=g}:= by rw[hg1,Qy]
  generalize hL2:({L1 with tr:=Xu L1.tr id (some {t with lv:=g,dr:=WC t.dr ob})}:LvD)=L2
  have hP:L2.pres=L1.pres:= by subst hL2;rfl
  have hT:L2.tr=Xu L1.tr id (some {t with lv:=g,dr:=WC t.dr ob}):= by subst hL2;rfl
  have hf: ∀q,QP L2 q=QP L1 q:= fun q=> by
    cases q with
    | inl j=> simp [QP,hP]
    | inr q=>
      obtain⟨i,j,o⟩:=q
      simp only[QP,hT]
      by_cases e:i=id
      · subst e; rw[Qy,ht1]
      · rw[QF e]
  have e1:Q1 L2 V1=dropT (Q1 L V) id ob:= by
    have h2:Q1 L2 V1={Q1 L1 V1 with tr:=Xu (Q1 L1 V1).tr id (some (ZG V1 {t with lv:=g,dr:=WC t.dr ob}))}:= by
      unfold Q1
      rw[hP,hT]
      congr 1
      funext i
      by_cases e:i=id
      · subst e; rw[Qy,Qy];rfl
      · rw[QF e,QF e]
    have h3:ZG V1 {t with lv:=g}={ZG V t with lv:=Z1 (inD l ob) (ZG V t).lv}:= by
      have h4:=Zh (V:=V1) ht1
      rw[hg4]at h4
      dsimp only at h4
      rw[Qy]at h4
      simpa using h4.symm
    have h5:ZG V1 {t with lv:=g,dr:=WC t.dr ob}={ZG V t with lv:=Z1 (fun j=>j.1=ob) (ZG V t).lv,dr:=WC t.dr ob}:= by
      have h6:(ZG V1 {t with lv:=g,dr:=WC t.dr ob}).lv=(ZG V1 {t with lv:=g}).lv:=rfl
      show(⟨t.parent,(ZG V1 {t with lv:=g,dr:=WC t.dr ob}).lv,WC t.dr ob⟩:TrA)=_
      rw[h6,h3,Em hl]
      rfl
    rw[h2,hg4,h5]
    unfold dropT
    rw[Zh ht]
    dsimp only
    rw[J0]
    rfl
  refine⟨⟨⟨hI1.ref.fn hf, by rw[hT]; exact hI1.rank.same (WO ht1 U), ?_⟩, by subst hL2; exact hsp,hal, fun c q=> ?_,hpg⟩,e1⟩
  · have h7:Q1 L2 V1={Q1 L1 V1 with tr:=Xu (Q1 L1 V1).tr id (some (ZG V1 {t with lv:=g,dr:=WC t.dr ob}))}:= by
      unfold Q1
      rw[hP,hT]
      congr 1
      funext i
      by_cases e:i=id
      · subst e; rw[Qy,Qy];rfl
      · rw[QF e,QF e]
    rw[h7]
    intro i u k x hi hk
    dsimp only at hi
    by_cases e:i=id
    · subst e; rw[Qy]at hi; cases hi; exact hI1.agree i _ k x (Zh ht1) hk
    · rw[QF e]at hi; exact hI1.agree i u k x hi hk
  · obtain⟨li,a,b,d⟩:=q
    refine⟨li,a, fun k hk=>b k (by rwa [hP,hg2]at hk), fun j u k x hj hk=> ?_⟩
    rw[hT,hg1,J0]at hj
    by_cases e:j=id
    · subst e
      rw[Qy]at hj
      cases hj
      obtain⟨y,hy,_⟩:=(hg3 k).2 x hk
      exact d j t k y ht hy
    · rw[QF e]at hj; exact d j u k x hj hk
theorem N8 {w:World} {ex:Int→Int} {m:Nat} {b n Fr:Nat} {L:LvD} {V:VS} {F:Th} (hS:Sat w [XX b L,XD L.sp n Fr V,F]) {c:Nat} (hc:SzLe L c) (hn:n+2*c≤60000000000) (hI:LvX ex m L V) (hx:NN ex) {id:Int} {t:TrD} (ht:L.tr id=some t) (ob:Bs):
    Calls prog 27 #[ptrV b 0,intV id,strV ob] w (Ret fun v w'=> ∃L' V',StepX ex m L V ex m 0 0 L' V'∧Q1 L' V'=dropT (Q1 L V) id ob∧OthK L L' id (fun _=>False)∧Sat w' [XX b L',XD L'.sp (n+2*c) Fr V',F]):= by
 have h0:id≠0:=hI.rank.none0 ht
 replace hS:=X1 hS
 refine Qm func27 U ntmps27 U ?_
 refine Qd (Qd (Qa (Qb U U (Xq U U U (Qf (Qc (Qt U (fun h1=> ?_) (fun h1=> ?_))))))))
 ·exact absurd h1 h0
 refine Qs (Qc (Qd (Qa (Qb U U (Qj U U (Qg U Zr U (Qr U Wx (hS.cell 0 U U) U (Qb U U (XV (k:=id) 2 hS keysInt underlying82 U U U JU (u:=ptrV t.ad 0) (XY ht) U (Qe U U (Qf (Qc (Qh [2,0,8] U (Qd (Qd (Qa (Qb U U (ZO underlying94 U U U (Qf (Qc (QR U (Qs (Qc (Qd (Qd ?_)))))))))))))))))))))))))
 have j2:=Z3 (hS.pick [3,0,1,2,4,5,6] U) ht
 refine Qa (Qb U U (Qj U U (Qg U ZE U (Qr U WR (j2.cell 0 U U) U ?_))))
 refine Qv Ca U (R9 (j2.sp [1] U) (fun ks h=> by have :=hc.keysL ht h;omega)) U ?_
 rintro _ w3 ⟨ks,hks,j3⟩
 replace j3:=j3.jn U U
 obtain⟨ar,cr,hvr,_⟩:=j3.own_shape 0 rfl; obtain rfl:=hvr
 refine X7 underlying98 U U (Qb U U (Qf (Qc (Qh [2,0,8,44,45,46] U (Qw ?_)))))
 have j4:=Zw ht (j3.pick [2,1,3,4,5,0,6,7,8,9,10,11] U)
 have hz:=QX (j4.pick [2,3,4,0,5,1,6,7] U)
 have hlk:(QM ks).length≤c:= by rw[Wd]; exact hc.keysL ht (Came.of_all hks)
 refine Xg (fun K0 E0 W0=> ∃(i:Nat) (L1:LvD) (V1:VS),K0=(QM ks).length -i∧E0=[(0,ptrV b 0),(2,strV ob),(8,ptrV t.ad 0),(44,.slice ar (QM ks).length cr),(45,intV ((QM ks).length:Int)),(46,intV (i:Int))]∧Sat W0 [XX b L1,XD L1.sp (n+2*i) Fr V1,rowT kC (.slice ar (QM ks).length cr) (QM ks),F]∧(i≤(QM ks).length)∧(LvX ex m L1 V1)∧(L1.sp=L.sp)∧(∀c,AliveLe V c→AliveLe V1 c)∧(Pgs V V1)∧(DrI L L1 V V1 id t ((QM ks).take i) ob)) (L0:=[(0,_),(2,_),(8,_),(44,_),(45,_),(46,_)]) ((QM ks).length) (Mx U U U U U U) ⟨0,L,V, by omega,rfl,hz.pick [0,2,1,3] U, by omega,hI,rfl, fun _ q=>q,.refl,DrI.start ht⟩ ?_
 rintro _ _ w5 ⟨i,L1,V1,rfl,rfl,j5,hi,hI1,hsp,hal,hpg,hdr⟩
 refine Qd (Qa (Xk U U U (Qf (Qc (Qd (Qt U (fun h6=> ?_) (fun h6=> ?_)))))))
 ·obtain⟨k,hk⟩: ∃k,(QM ks)[i]? =some k:=⟨_,Zq (by omega)⟩
  refine Qs (Qc (Qd (Qw (Qd (Qa (Xx kC 2 i j5 U U U (by rfl) hk K6 U ?_))))))
  intro bx7 capx7 hvx7
  refine ZZ 2 i j5 U hvx7 U hk X9 Xf U U (Xa j5 Zy U U ?_)
  intro kb wk8 hk8
  refine QG hk8 U U Xf U (by rfl) (i:=0) U (by decide) ?_
  intro wk9 hk9; dsimp only[List.set]at hk9
  clear hk8
  replace hk9:=X6 (k:=k) hk9
  refine Qf (Qc (Qd ?_))
  obtain⟨g,hg1,hg2,hg3,hg4⟩:=_root_.id hdr
  have ht1:L1.tr id=some {t with lv:=g}:= by rw[hg1,Qy]
  obtain⟨x1,hx1⟩: ∃x,g k=some x:=Option.ne_none_iff_exists'.1 fun q=>absurd ((hg3 k).1.1 q) ((So hks k).1 (List.mem_of_getElem? hk))
  have j10:=JQ ht1 hx1 (hk9.pick [1,0,2,3,4] U)
  have j11:=j10.drew
  refine QE [0,1,2,3,4,5,6] [] Wa (by kernel_rfl) ?_
  refine Q9 U U U (Xi U U U (QQ U U U ZE (Q4 U U U (Ql U WR (j11.cell 2 U U)) (Q4 U U U (XB U X9 Xf (j11.blk 10 U) (Xv U) U) (Q4 U U U (X2 (k:=k) 3 j11 keysKey underlying90 U U U HB (u:=ptrV x1.ad 0) (XY hx1)) (XK U U U (VC.nil (Qc (Qh [46,45,44,8,2,0,10,11] U (Qd (Qa (Qg U JT U (Qr U W9 (j11.cell 10 U U) U (Qb U U (Rk U U U (Qf (Qc (Qh [46,45,44,8,2,0,11,59] U (Qt U (fun h12=> ?_) (fun h12=> ?_))))))))))))))))))))
  ·have hob:k.1=ob:=h12
   refine Qd (Qa (Qb U U (Qb U U (Qj U U (Qg U WK U (Qv TY U (PG (j11.sp [6,9,11,0] U) (by omega) 0) U ?_))))))
   rintro _ w13 ⟨rfl,j13⟩
   replace j13:=j13.jn U U
   refine Qf (Qc (Qh [46,45,44,8,2,0,11] U (Qa (Qb U U (Qj U U (Qg U Wj U (QV (v:=Z5 (BitVec.allOnes 64)) j13 U U Kx U (i:=3) U (Xv U) ?_)))))))
   intro w14 j14; dsimp only[List.set]at j14
   refine Qf (Qk (Qc (Qa (QO U U (by omega) (by omega) U ?_))))
   refine Qb U U (Qf ?_)
   have j15:=WJ (L:={L1 with sh:=JJ (refW V1 0) (JM L1.sh 0) x1.own}) (y:={x1 with own:=0,wr:=BitVec.allOnes 64}) ht1 hx1 U (j14.pick [3,4,5,6,7,8,0,9,10,1,2,11,12,13] U)
   obtain⟨hs1,hs2⟩:=MR (s:=0) hI1 hx (.inl rfl) ht1 hx1 (JJ (refW V1 0) (JM L1.sh 0) x1.own)
   rw[Wk hI1.zero]at hs2
   have hd2:=hdr.T (y:={x1 with own:=0,wr:=BitVec.allOnes 64}) hk hob ht1 hx1 U hs2
   exact Q3 (L1:=[(0,_),(2,_),(8,_),(44,_),(45,_),(46,intV ((i+1:Nat):Int))]) (Mx U U U U U U) (k1:=(QM ks).length -(i+1)) (by omega) ⟨i+1,_,_, by omega,rfl,(Xn (m:=n+2*(i+1)) (by omega) (j15.pick [1,0,3,4] U)).reorder [1,0,2,3] U, by omega,hs1.inv,hs1.sp.trans hsp, fun c q=>hs1.al c (hal c q),hpg.trans hs1.pg,hd2⟩
  have hob:k.1≠ob:=h12
  refine Qs (Qk (Qc (Qa (QO U U (by omega) (by omega) U ?_))))
  refine Qb U U (Qf ?_)
  have j16:=WJ (L:=L1) (y:=x1) ht1 hx1 U (j11.pick [0,1,2,3,4,5,6,7,8,9,10,11,12,13] U)
  rw[YI ht1 hx1]at j16
  exact Q3 (L1:=[(0,_),(2,_),(8,_),(44,_),(45,_),(46,intV ((i+1:Nat):Int))]) (Mx U U U U U U) (k1:=(QM ks).length -(i+1)) (by omega) ⟨i+1,L1,V1, by omega,rfl,(Xn (m:=n+2*(i+1)) (by omega) (j16.pick [2,0,3,4] U)).reorder [1,0,2,3] U, by omega,hI1,hsp,hal,hpg,hdr.F hk hob⟩
 refine QU (Qq (Qq (Qx (Qc ?_))))
 have hil:i=(QM ks).length:= by omega
 rw[hil,List.take_length]at hdr
 obtain⟨g,hg1,hg2,hg3,hg4⟩:=_root_.id hdr
 have ht1:L1.tr id=some {t with lv:=g}:= by rw[hg1,Qy]
 have j17:=X1 (j5.pick [0,1,2,3] U)
 have j18:=Z3 (j17.pick [3,0,1,2,4,5,6,7] U) ht1
 refine Qa (Qb U U (Qj U U (Qg U UM U (Qr U K7 (j18.cell 0 U U) U (Qb U U (Xp (k:=ob) (v:= .bool true) 3 j18 keysStr underlying91 U U U U ?_))))))
 intro w19 j19; dsimp only[List.set]at j19; rw[YT]at j19
 refine Qf (ZU (.inl U) U ?_)
 have j20:=Uk (t:=({t with lv:=g,dr:=WC t.dr ob}:TrD)) (j19.pick [0,1,2,3,4,5,6,7,8,9,10,11] U)
 rw[←JN (ad:=TrD.ad) (f:=L1.tr) (k:=id) (y:=({t with lv:=g,dr:=WC t.dr ob}:TrD)) ht1 U]at j20
 have hfin:=El hI1 hsp hal hpg hdr ht (So hks) hg1 hg2 hg3 hg4
 exact⟨_,rfl,{L1 with tr:=Xu L1.tr id (some ({t with lv:=g,dr:=WC t.dr ob}:TrD))},V1,hfin.1,hfin.2,PN ht hg2 (by show Xu L1.tr id _=_; rw[hg1,J0]) (fun k x hx=> by obtain⟨y,hy,_⟩:=(hg3 k).2 x hx; rw[hy]; simp),(Xn (m:=n+2*c) (by omega) ((QX (L:={L1 with tr:=Xu L1.tr id (some ({t with lv:=g,dr:=WC t.dr ob}:TrD))}) (j20.pick [1,2,3,0,4,5,7] rfl)).reorder [1,0,2] rfl)).reorder [1,0,2] rfl⟩
theorem H7 {α:Type} {L:List α} (hn:L.Nodup) {i:Nat} {y:α} (hy:L[i]? =some y):y∉L.take i:= by
  intro q
  obtain⟨j,hj⟩:=List.mem_iff_getElem?.1 q
  have hji:j<i:= by have :=(Zb hj).1; rw[List.length_take]at this;omega
  rw[List.getElem?_take_of_lt hji]at hj
  have h1:=(Zb hy)
  have h2:=(Zb hj)
  obtain⟨p1,p2⟩:=h1
  obtain⟨r1,r2⟩:=h2
  have :=(List.getElem_inj hn).1 (r2.trans p2.symm)
  omega
def OK (id:Int) (l:List KD):Pl→Prop:= fun p=> ∃k o,p= .inr (id,k,o)∧k∈l
theorem CX {κ α:Type} {ad:α→Nat} {f:κ→Option α} {k:κ}:upd (X0 ad f) k none=X0 ad (Xu f k none):= by
  funext j
  by_cases h:j=k
  · subst h; rw[Ws];unfold X0; rw[Qy];rfl
  · rw[Jy h];unfold X0; rw[QF h]
structure RemI (ex:Int→Int) (L:LvD) (V V1:VS) (id:Int) (l:List KD):Prop where
  ref:RefI (WE (OK id l) 0 (QP L)) V1 ex
  pg:Pgs V V1
  al: ∀c,AliveLe V c→AliveLe V1 c
theorem RemI.start {ex:Int→Int} {m:Nat} {L:LvD} {V:VS} {id:Int} (h:LvX ex m L V):RemI ex L V V id []:=
  ⟨h.ref.fn fun p=> by simp [WE,OK],.refl, fun _ q=>q⟩
theorem MH {κ:Type} {f:κ→Int} {V:VS} {ex:Int→Int} (h:RefI f V ex) (hx:NN ex) (p:κ):RefI (UV f p 0) (Zj V (f p)) ex:=
  ((h.put p 0).unr (h.aliveN U (hx _))).ext fun j hj=> by rw[J4 (s:=0) hj];omega
theorem RemI.step {ex:Int→Int} {L:LvD} {V V1:VS} {id:Int} {t:TrD} {l:List KD} {i:Nat} {k:KD} {x:LfD} (h:RemI ex L V V1 id (l.take i)) (hx:NN ex) (ht:L.tr id=some t) (hl:t.lv k=some x) (hk:l[i]? =some k) (hn:l.Nodup):
    RemI ex L V (Zj (Zj V1 x.base) x.own) id (l.take (i+1)):= by
  have hni:k∉l.take i:=H7 hn hk
  have hnz: ∀o,¬OK id (l.take i) (.inr (id,k,o)):= fun o=> by
    rintro⟨k',o',e,q⟩
    simp at e
    obtain⟨rfl,rfl⟩:=e
    exact hni q
  have e1:WE (OK id (l.take i)) 0 (QP L) (.inr (id,k,false))=x.base:= by unfold WE; rw[if_neg (hnz _),Xt ht hl];rfl
  have a1:=MH h.ref hx (.inr (id,k,false))
  rw[e1]at a1
  have e2:UV (WE (OK id (l.take i)) 0 (QP L)) (.inr (id,k,false)) 0 (.inr (id,k,true))=x.own:= by rw[XQ (by simp)];unfold WE; rw[if_neg (hnz _),Xt ht hl];rfl
  have a2:=MH a1 hx (.inr (id,k,true))
  rw[e2]at a2
  refine⟨a2.fn fun p=> ?_,(h.pg.trans (Pgs.unr h.ref.zero)).trans (Pgs.unr a1.zero), fun c q=>(h.al c q).unr.unr⟩
  · have hz: ∀p,OK id (l.take (i+1)) p↔(p= .inr (id,k,true)∨(p= .inr (id,k,false)∨OK id (l.take i) p)):= fun p=> by
      unfold OK
      rw[List.take_add_one,hk]
      simp only[Option.toList_some,List.mem_append,List.mem_singleton]
      constructor
      · rintro⟨k',o,rfl,q | q⟩
        · exact .inr (.inr ⟨k',o,U,q⟩)
        · subst q; cases o
          · exact .inr (.inl U)
          · exact .inl U
      · rintro(rfl | rfl | ⟨k',o,rfl,q⟩)
        · exact⟨k,true,U,.inr U⟩
        · exact⟨k,false,U,.inr U⟩
        · exact⟨k',o,U,.inl q⟩
    rw[V9 (P:= fun p=>p= .inr (id,k,false)∨OK id (l.take i) p) hz,V9 (P:=OK id (l.take i)) (fun _=>Iff.rfl)]
noncomputable def Bw (A:LvA) (id:Int):LvA:={A with tr:=Xu A.tr id none}
theorem RankI.del {T:Int→Option TrD} {m:Nat} {id:Int} (h:RankI T m) (hch: ∀i u,T i=some u→u.parent≠id):RankI (Xu T id none) m:= by
  obtain⟨h0,r,a,b⟩:=h
  have h00:Xu T id none 0=none:= by
    by_cases e:(0:Int)=id
    · rw[←e,Qy]
    · rw[QF e]; exact h0
  refine⟨h00,r,a, fun i t ht=> ?_⟩
  by_cases e:i=id
  · subst e; rw[Qy]at ht; cases ht
  · rw[QF e]at ht
    rcases b i t ht with h1 | ⟨h1,h2⟩
    · exact .inl h1
    · exact .inr ⟨by rw[QF (hch i t ht)]; exact h1,h2⟩
theorem rem_fin {ex:Int→Int} {m:Nat} {L:LvD} {V V1:VS} {id:Int} {t:TrD} {l:List KD} {f:Int→Bool} (hI:LvX ex m L V) (hx:NN ex) (h:RemI ex L V V1 id l) (ht:L.tr id=some t) (hl: ∀k,k∈l↔t.lv k≠none) (hch: ∀i u,L.tr i=some u→u.parent≠id):
    StepX ex m L V ex m 0 0 {L with tr:=Xu L.tr id none,sh:=f} V1∧Q1 {L with tr:=Xu L.tr id none,sh:=f} V1=Bw (Q1 L V) id:= by
  generalize hL2:({L with tr:=Xu L.tr id none,sh:=f}:LvD)=L2
  have hP:L2.pres=L.pres:= by subst hL2;rfl
  have hT:L2.tr=Xu L.tr id none:= by subst hL2;rfl
  have hf: ∀p,QP L2 p=WE (OK id l) 0 (QP L) p:= fun p=> by
    unfold WE
    cases p with
    | inl j=>
      rw[if_neg (by rintro⟨_,_,e,_⟩; cases e)]
      simp [QP,hP]
    | inr q=>
      obtain⟨i,k,o⟩:=q
      by_cases e:i=id
      · subst e
        have e1:QP L2 (.inr (i,k,o))=0:= by simp only[QP,hT,Qy]
        rw[e1]
        split
        · rfl
        · rename_i hq
          cases hk:t.lv k with
          | none=> rw[KS ht hk]
          | some x=> exact absurd ⟨k,o,rfl,(hl k).2 (by rw[hk]; simp)⟩ hq
      · rw[if_neg (by rintro⟨_,_,e2,_⟩; cases e2; exact e rfl)]
        simp only[QP,hT]
        rw[QF e]
  have a1:RefI (QP L2) V1 ex:=h.ref.fn hf
  have hc: ∀p,XH V1 (QP L2 p)=XH V (QP L2 p):= fun p=>(h.pg _ (a1.aliveN U (hx _))).2
  have e1:Q1 L2 V1=Bw (Q1 L V) id:= by
    rw[UU (V:=V) hc]
    unfold Q1 Bw
    rw[hP,hT]
    congr 1
    funext i
    by_cases e:i=id
    · subst e; rw[Qy,Qy];rfl
    · rw[QF e,QF e]
  refine⟨⟨⟨a1, by rw[hT]; exact hI.rank.del hch, ?_⟩, by subst hL2;rfl,h.al, fun c q=> ?_,h.pg⟩,e1⟩
  · rw[e1]
    intro i u k x hi hk
    dsimp only[Bw]at hi
    by_cases e:i=id
    · subst e; rw[Qy]at hi; cases hi
    · rw[QF e]at hi; exact hI.agree i u k x hi hk
  · obtain⟨li,a,b,d⟩:=q
    refine⟨li,a, fun k hk=>b k (by rwa [hP]at hk), fun j u k x hj hk=> ?_⟩
    rw[hT]at hj
    by_cases e:j=id
    · subst e; rw[Qy]at hj; cases hj
    · rw[QF e]at hj; exact d j u k x hj hk
theorem MF {w:World} {ex:Int→Int} {m:Nat} {b n Fr:Nat} {L:LvD} {V:VS} {F:Th} (hS:Sat w [XX b L,XD L.sp n Fr V,F]) {c:Nat} (hc:SzLe L c) (hn:n+2*c≤60000000000) (hI:LvX ex m L V) (hx:NN ex) {id:Int} {t:TrD} (ht:L.tr id=some t) (hch: ∀i u,L.tr i=some u→u.parent≠id):
    Calls prog 55 #[ptrV b 0,intV id] w (Ret fun v w'=> ∃L' V',StepX ex m L V ex m 0 0 L' V'∧Q1 L' V'=Bw (Q1 L V) id∧L'.pres=L.pres∧L'.tr=Xu L.tr id none∧Sat w' [XX b L',XD L'.sp (n+2*c) Fr V',F]):= by
 replace hS:=X1 hS
 refine Qm func55 U ntmps55 U ?_
 refine Qd (Qa (Qb U U (Qj U U (Qg U Zr U (Qr U Wx (hS.cell 0 U U) U (Qb U U (XV (k:=id) 2 hS keysInt underlying82 U U U JU (u:=ptrV t.ad 0) (XY ht) U (Qe U U (Qf (Qc (Qd (Qd ?_))))))))))))
 have j1:=Z3 (hS.pick [3,0,1,2,4,5,6] U) ht
 refine Qa (Qb U U (Qj U U (Qg U ZE U (Qr U WR (j1.cell 0 U U) U ?_))))
 refine Qv Ca U (R9 (j1.sp [1] U) (fun ks h=> by have :=hc.keysL ht h;omega)) U ?_
 rintro _ w2 ⟨ks,hks,j2⟩
 replace j2:=j2.jn U U
 obtain⟨ar,cr,hvr,_⟩:=j2.own_shape 0 rfl; obtain rfl:=hvr
 refine X7 underlying98 U U (Qb U U (Qf (Qc (Qh [1,0,4,17,18,19] U (Qw ?_)))))
 have hnd:=HW hks.nodup
 have hlk:(QM ks).length≤c:= by rw[Wd]; exact hc.keysL ht (Came.of_all hks)
 refine Xg (fun K0 E0 W0=> ∃(i:Nat) (f:Int→Bool) (V1:VS),K0=(QM ks).length -i∧E0=[(0,ptrV b 0),(1,intV id),(4,ptrV t.ad 0),(17,.slice ar (QM ks).length cr),(18,intV ((QM ks).length:Int)),(19,intV (i:Int))]∧Sat W0 [Q8 t.ad [intV t.parent,.map (some t.ml),.map (some t.md)],Q5 Xr t.ml (X0 LfD.ad t.lv),XW UW t.lv,Q5 W8 t.md (ZF t.dr),XW YW (Xu L.tr id none),Q8 b [ptrV L.sp 0,.map (some L.mp),.map (some L.mt),intV L.cur,.map (some L.ms)],Q5 Xr L.mp (XN L.pres),Q5 QN L.mt (X0 TrD.ad L.tr),Q5 QN L.ms (ZF f),XD L.sp (n+2*i) Fr V1,rowT kC (.slice ar (QM ks).length cr) (QM ks),F]∧(i≤(QM ks).length)∧(RemI ex L V V1 id ((QM ks).take i))) (L0:=[(0,_),(1,_),(4,_),(17,_),(18,_),(19,_)]) ((QM ks).length) (Mx U U U U U U) ⟨0,L.sh,V, by omega,rfl,j2.pick [2,1,3,4,5,6,7,8,9,10,0,11] U, by omega,RemI.start hI⟩ ?_
 rintro _ _ w3 ⟨i,f,V1,rfl,rfl,j3,hi,hrm⟩
 refine Qd (Qa (Xk U U U (Qf (Qc (Qd (Qt U (fun h4=> ?_) (fun h4=> ?_)))))))
 ·obtain⟨k,hk⟩: ∃k,(QM ks)[i]? =some k:=⟨_,Zq (by omega)⟩
  refine Qs (Qc (Qd (Qw (Qd (Qa (Xx kC 10 i j3 U U U (by rfl) hk K6 U ?_))))))
  intro bx5 capx5 hvx5
  refine ZZ 10 i j3 U hvx5 U hk X9 Xf U U (Xa j3 Zy U U ?_)
  intro kb wk6 hk6
  refine QG hk6 U U Xf U (by rfl) (i:=0) U (by decide) ?_
  intro wk7 hk7; dsimp only[List.set]at hk7
  clear hk6
  replace hk7:=X6 (k:=k) hk7
  refine Qf (Qc (Qd ?_))
  obtain⟨x,hl⟩: ∃x,t.lv k=some x:=Option.ne_none_iff_exists'.1 ((So hks k).1 (List.mem_of_getElem? hk))
  have j8:=JC (hk7.pick [3,0,1,2,4,5,6,7,8,9,10,11,12] U) hl
  have j9:=j8.drew
  refine QE [0,1,2,3,4,5,6,7,8,9,10] [10] Wa (by kernel_rfl) ?_
  refine Q9 U U U (Q9 U U U (Xi U U U (QQ U U U ZE (Q4 U U U (Ql U WR (j9.cell 3 U U)) (Q4 U U U (XB U X9 Xf (j9.blk 2 U) (Xv U) U) (Q4 U U U (X2 (k:=k) 4 j9 keysKey underlying90 U U U HB (u:=ptrV x.ad 0) (XY hl)) (Xi U U U (QQ U U U UN (Q4 U U U (Ql U QL (j9.cell 0 U U)) (Xe U U U U U U ?_))))))))))
  refine Qv Uc U (HV (j9.sp [7,10,11] U) (by omega) x.base) U ?_
  rintro _ w10 ⟨rfl,j10⟩
  replace j10:=j10.jn U U
  refine Xz (Xj (by kernel_rfl)) ?_
  refine VC.nil (Qc (Qh [19,18,17,4,1,0,6] U ?_))
  have j11:=j10.drew
  refine QE [0,1,2,3,4,5,6,7,8,9,10] [10] Wa (by kernel_rfl) ?_
  refine Q9 U U U (Q9 U U U (Xi U U U (QQ U U U ZE (Q4 U U U (Ql U WR (j11.cell 6 U U)) (Q4 U U U (XB U X9 Xf (j11.blk 5 U) (Xv U) U) (Q4 U U U (X2 (k:=k) 7 j11 keysKey underlying90 U U U HB (u:=ptrV x.ad 0) (XY hl)) (Xi U U U (QQ U U U WK (Q4 U U U (Ql U QL (j11.cell 3 U U)) (Xe U U U U U U ?_))))))))))
  refine Qv Uc U (HV (j11.sp [0,1,2] U) (by omega) x.own) U ?_
  rintro _ w12 ⟨rfl,j12⟩
  replace j12:=j12.jn U U
  refine Xz (Xj (by kernel_rfl)) ?_
  refine VC.nil (Qk (Qc (Qh [19,18,17,4,1,0] U (Qa (QO U U (by omega) (by omega) U ?_)))))
  refine Qb U U (Qf ?_)
  have j13:=Wc hl (j12.pick [3,4,0,1,2,5,6,7,8,9,10,11,12,13] U)
  have hr2:=hrm.step hx ht hl hk hnd
  exact Q3 (L1:=[(0,_),(1,_),(4,_),(17,_),(18,_),(19,intV ((i+1:Nat):Int))]) (Mx U U U U U U) (k1:=(QM ks).length -(i+1)) (by omega) ⟨i+1,_,_, by omega,rfl,j13.pick [5,6,0,7,8,1,9,10,2,3,11,12] U, by omega,hr2⟩
 refine QU (Qq (Qq (Qx (Qc (Qa (Qb U U (Qj U U (Qg U Zr U (Qr U Wx (j3.cell 5 U U) U (Qb U U (YG (k:=id) 7 j3 keysInt underlying82 U U U U ?_)))))))))))
 intro w14 j14; dsimp only[List.set]at j14; rw[CX]at j14
 refine Qf (ZU (.inl U) U ?_)
 have hil:i=(QM ks).length:= by omega
 rw[hil,List.take_length]at hrm
 have hfin:=rem_fin (f:=f) hI hx hrm ht (So hks) hch
 exact⟨_,rfl,{L with tr:=Xu L.tr id none,sh:=f},V1,hfin.1,hfin.2,rfl,rfl,(Xn (m:=n+2*c) (by omega) ((QX (L:={L with tr:=Xu L.tr id none,sh:=f}) (j14.pick [5,6,7,4,8,9,11] U)).reorder [1,0,2] U)).reorder [1,0,2] U⟩
def R7 (now own:Bs) (wr:BitVec 64):Bs:=(List.range 64).map fun j=> if wr.getLsbD j=true then own.getD j 0 else now.getD j 0
def MgI (now own r:Bs) (wr:BitVec 64) (i:Nat):Prop:=r.length=64∧ ∀j,j<64→r[j]? = if j<i∧wr.getLsbD j=true then own[j]? else now[j]?
theorem MgI.start {now own:Bs} {wr:BitVec 64} (h:now.length=64):MgI now own now wr 0:=⟨h, fun j _=> by rw[if_neg (by omega)]⟩
theorem MgI.T {now own r:Bs} {wr:BitVec 64} {i:Nat} {c:UInt8} (h:MgI now own r wr i) (hi:i<64) (hw:wr.getLsbD i=true) (hc:own[i]? =some c):MgI now own (r.set i c) wr (i+1):= by
  refine⟨by rw[List.length_set]; exact h.1, fun j hj=> ?_⟩
  by_cases e:j=i
  · subst e
    rw[List.getElem?_set_self (by rw[h.1];omega),if_pos ⟨by omega,hw⟩,hc]
  · rw[List.getElem?_set_ne (fun q=>e q.symm),h.2 j hj]
    by_cases q:j<i∧wr.getLsbD j=true
    · rw[if_pos q,if_pos ⟨by omega,q.2⟩]
    · rw[if_neg q,if_neg fun a=>q ⟨by omega,a.2⟩]
theorem MgI.F {now own r:Bs} {wr:BitVec 64} {i:Nat} (h:MgI now own r wr i) (hw:wr.getLsbD i=false):MgI now own r wr (i+1):= by
  refine⟨h.1, fun j hj=> ?_⟩
  rw[h.2 j hj]
  by_cases q:j<i∧wr.getLsbD j=true
  · rw[if_pos q,if_pos ⟨by omega,q.2⟩]
  · rw[if_neg q,if_neg fun a=>q ⟨by
      have :j≠i:= fun e=> by subst e; rw[hw]at a; simp at a
      omega,a.2⟩]
theorem getD_some {l:Bs} {j:Nat} (h:j<l.length):l[j]? =some (l.getD j 0):= by simp [List.getD,h]
theorem MgI.fin {now own r:Bs} {wr:BitVec 64} (h:MgI now own r wr 64) (hn:now.length=64) (ho:own.length=64):r=R7 now own wr:= by
  apply List.ext_getElem?
  intro j
  by_cases hj:j<64
  · rw[h.2 j hj]
    unfold R7
    rw[List.getElem?_map,List.getElem?_range hj]
    simp only[Option.map_some]
    split
    · rename_i q; rw[if_pos q.2,getD_some (by omega)]
    · rename_i q; rw[if_neg fun a=>q ⟨hj,a⟩,getD_some (by omega)]
  · rw[List.getElem?_eq_none (by rw[h.1];omega),List.getElem?_eq_none (by simp [R7];omega)]
theorem UK {now own:Bs} {wr:BitVec 64}:(R7 now own wr).length=64:= by simp [R7]
def Ky (L:LvD) (t:TrD) (k:KD) (x:LfD):Prop:=x.wr≠0#64∧x.wr≠BitVec.allOnes 64∧Xo L t.parent k≠x.base
open Classical in
noncomputable def Y0 (t:TrD) (l:List KD):Nat:=(l.filter fun k=>decide (∃x,t.lv k=some x∧x.wr≠0#64∧x.wr≠BitVec.allOnes 64)).length
def HY (made:KD→Option Int):KD→Int:= fun k=>(made k).getD 0
structure MdI (m:Nat) (L:LvD) (V V1:VS) (t:TrD) (ex:Int→Int) (made:KD→Option Int) (l:List KD):Prop where
  inv:LvX ex m L V1
  ab:Q1 L V1=Q1 L V
  pg: ∀s,X5 V s→XH V1 s=XH V s
  av: ∀s,X5 V s→X5 V1 s
  mx: ∀j,j≠0→ ∃n:Nat,Pd (HY made) j n∧ex j=n
  dom: ∀k,made k≠none↔k∈l∧ ∃x,t.lv k=some x∧Ky L t k x
  con: ∀k s x,made k=some s→t.lv k=some x→XH V1 s=R7 (XH V (Xo L t.parent k)) (XH V x.own) x.wr
  al: ∀c,AliveLe V c→AliveLe V1 (c+Y0 t l)
theorem BJ {κ:Type} {j:Int} (h:j≠0):Pd (fun _:κ=>0) j 0:=⟨[],List.nodup_nil, fun p=> by simp;omega,rfl⟩
theorem MdI.start {m:Nat} {L:LvD} {V:VS} {t:TrD} (h:LvI m L V):MdI m L V V t (fun _=>0) (fun _=>none) []:=
  ⟨h,rfl, fun _ _=>rfl, fun _ q=>q, fun j hj=>⟨0,BJ hj,rfl⟩, fun k=> by simp,(fun k s x q=> by cases q), fun c q=>q⟩
theorem MdI.nn {m:Nat} {L:LvD} {V V1:VS} {t:TrD} {ex:Int→Int} {made:KD→Option Int} {l:List KD} (h:MdI m L V V1 t ex made l):NN ex:= fun j hj=> by
  obtain⟨n,_,e⟩:=h.mx j hj
  rw[e];omega
theorem MdI.ge {m:Nat} {L:LvD} {V V1:VS} {t:TrD} {ex:Int→Int} {made:KD→Option Int} {l:List KD} (h:MdI m L V V1 t ex made l) {k:KD} {s:Int} (hk:made k=some s) (h0:s≠0):1≤ex s:= by
  obtain⟨n,a,e⟩:=h.mx s h0
  have :=BI a (p:=k) (by unfold HY; rw[hk];rfl)
  rw[e];omega
theorem MdI.alive {m:Nat} {L:LvD} {V V1:VS} {t:TrD} {ex:Int→Int} {made:KD→Option Int} {l:List KD} (h:MdI m L V V1 t ex made l) {k:KD} {s:Int} (hk:made k=some s):X5 V1 s:= by
  by_cases h0:s=0
  · exact .inl h0
  · obtain⟨n,a,b⟩:=h.inv.ref.1 s h0
    have :=h.ge hk h0
    exact .inr (h.inv.ref.alive_of (by omega))
theorem Of {t:TrD} {l:List KD} {i:Nat} {k:KD} (hk:l[i]? =some k):Y0 t (l.take i)≤Y0 t (l.take (i+1)):= by
  unfold Y0
  rw[List.take_add_one,hk,List.filter_append,List.length_append]
  omega
theorem LM {t:TrD} {l:List KD} {i:Nat} {k:KD} {x:LfD} (hk:l[i]? =some k) (hx:t.lv k=some x) (h1:x.wr≠0#64) (h2:x.wr≠BitVec.allOnes 64):Y0 t (l.take (i+1))=Y0 t (l.take i)+1:= by
  unfold Y0
  rw[List.take_add_one,hk,List.filter_append,List.length_append]
  simp only[Option.toList_some]
  rw[List.filter_cons_of_pos (by simp; exact⟨x,hx,h1,h2⟩)]
  rfl
theorem VX {l:List KD} {i:Nat} {k j:KD} (hk:l[i]? =some k):j∈l.take (i+1)↔j∈l.take i∨j=k:= by
  rw[List.take_add_one,hk]; simp
theorem MdI.skip {m:Nat} {L:LvD} {V V1:VS} {t:TrD} {ex:Int→Int} {made:KD→Option Int} {l:List KD} {i:Nat} {k:KD} {x:LfD} (h:MdI m L V V1 t ex made (l.take i)) (hk:l[i]? =some k) (hx:t.lv k=some x) (hn: ¬Ky L t k x):MdI m L V V1 t ex made (l.take (i+1)):=
  ⟨h.inv,h.ab,h.pg,h.av,h.mx, fun j=> by
    rw[h.dom,VX hk]
    constructor
    · rintro⟨a,b⟩; exact⟨.inl a,b⟩
    · rintro⟨a | rfl,y,hy,b⟩
      · exact⟨a,y,hy,b⟩
      · rw[hx]at hy; cases hy; exact absurd b hn,h.con, fun c q=>(h.al c q).mono (by have :=Of (t:=t) hk;omega)⟩
theorem mdF_up {made:KD→Option Int} {k:KD} {s:Int}:HY (Xu made k (some s))=UV (HY made) k s:= by
  funext j
  by_cases e:j=k
  · subst e; rw[XF];unfold HY; rw[Qy];rfl
  · rw[XQ e];unfold HY; rw[QF e]
theorem MdI.put {m:Nat} {L:LvD} {V V1 V2:VS} {t:TrD} {ex ex2:Int→Int} {made:KD→Option Int} {l:List KD} {i:Nat} {k:KD} {x:LfD} {s:Int} (h:MdI m L V V1 t ex made (l.take i)) (hk:l[i]? =some k) (hd:l.Nodup) (hx:t.lv k=some x) (hn:Ky L t k x)
    (h1:LvX ex2 m L V2) (h2:Q1 L V2=Q1 L V) (h3: ∀j,X5 V1 j→XH V2 j=XH V1 j∧X5 V2 j) (h4: ∀j,j≠0→ex2 j=ex j+dl s j) (h5:XH V2 s=R7 (XH V (Xo L t.parent k)) (XH V x.own) x.wr) (h6: ∀c,AliveLe V1 c→AliveLe V2 (c+1)):
    MdI m L V V2 t ex2 (Xu made k (some s)) (l.take (i+1)):= by
  have hni:=H7 hd hk
  have hm0:made k=none:=Classical.byContradiction fun q=>hni ((h.dom k).1 q).1
  refine⟨h1,h2, fun j hj=>((h3 j (h.av j hj)).1).trans (h.pg j hj), fun j hj=>(h3 j (h.av j hj)).2, fun j hj=> ?_, fun j=> ?_, fun j u y hu hy=> ?_, fun c q=>(h6 _ (h.al c q)).mono (by rw[LM hk hx hn.1 hn.2.1];omega)⟩
  · obtain⟨n,a,e⟩:=h.mx j hj
    rw[mdF_up]
    have hmk:HY made k=0:= by unfold HY; rw[hm0];rfl
    by_cases q:j=s
    · subst q
      exact⟨n+1,I2 (by rw[hmk];omega) a, by rw[h4 j hj,W7,e];omega⟩
    · refine⟨n,U3 (fun p=> ?_) a, by rw[h4 j hj,J4 q,e];omega⟩
      by_cases e2:p=k
      · subst e2; rw[XF,hmk]; exact⟨fun a=>absurd a.symm q, fun a=>absurd a.symm hj⟩
      · rw[XQ e2]
  · rw[VX hk]
    by_cases e:j=k
    · subst e; rw[Qy]; simp; exact⟨x,hx,hn⟩
    · rw[QF e,h.dom]
      constructor
      · rintro⟨a,b⟩; exact⟨.inl a,b⟩
      · rintro⟨a | a,b⟩
        · exact⟨a,b⟩
        · exact absurd a e
  · by_cases e:j=k
    · subst e
      rw[Qy]at hu
      rw[hx]at hy
      cases hu; cases hy
      exact h5
    · rw[QF e]at hu
      rw[(h3 u (h.alive hu)).1]
      exact h.con j u y hu hy
theorem MdI.zero {m:Nat} {L:LvD} {V V1:VS} {t:TrD} {ex:Int→Int} {made:KD→Option Int} {l:List KD} {i:Nat} {k:KD} {x:LfD} {pg:Bs} (h:MdI m L V V1 t ex made (l.take i)) (hk:l[i]? =some k) (hd:l.Nodup) (hx:t.lv k=some x) (hn:Ky L t k x)
    (hz:pg=zer) (hp:pg=R7 (XH V (Xo L t.parent k)) (XH V x.own) x.wr):MdI m L V V1 t ex (Xu made k (some 0)) (l.take (i+1)):=
  h.put hk hd hx hn h.inv h.ab (fun j hj=>⟨rfl,hj⟩) (fun j hj=> by rw[J4 hj];omega) (by rw[Wk h.inv.zero,←hz,hp]) (fun c q=>q.mono (by omega))
theorem MdI.fresh {m:Nat} {L:LvD} {V V1:VS} {t:TrD} {ex:Int→Int} {made:KD→Option Int} {l:List KD} {i:Nat} {k:KD} {x:LfD} {pg:Bs} {s:Int} (h:MdI m L V V1 t ex made (l.take i)) (hk:l[i]? =some k) (hd:l.Nodup) (hx:t.lv k=some x) (hn:Ky L t k x)
    (hs:1≤s) (hv:V1 s=none) (hp:pg=R7 (XH V (Xo L t.parent k)) (XH V x.own) x.wr):MdI m L V (Xu V1 s (some (1,pg))) t (fun j=>ex j+dl s j) (Xu made k (some s)) (l.take (i+1)):= by
  have hl:pg.length=64:= by rw[hp]; exact UK
  have hne: ∀j,X5 V1 j→j≠s:= fun j hj e=> by
    subst e
    rcases hj with e | e
    · omega
    · exact e hv
  have e1:Q1 L (Xu V1 s (some (1,pg)))=Q1 L V1:=UU fun p=>VV (hne _ (h.inv.aliveX h.nn p))
  refine h.put hk hd hx hn ⟨h.inv.ref.fresh hv hs hl,h.inv.rank, by rw[e1]; exact h.inv.agree⟩ (e1.trans h.ab) (fun j hj=>⟨VV (hne j hj), ?_⟩) (fun _ _=>rfl) (by rw[Yd Qy]; exact hp) (fun c q=>q.put)
  rcases hj with e | e
  · exact .inl e
  · refine .inr ?_; rw[QF (hne j (.inr e))]; exact e
structure UnI (m:Nat) (L:LvD) (V V1:VS) (made:KD→Option Int) (l:List KD) (ex:Int→Int):Prop where
  inv:LvX ex m L V1
  ab:Q1 L V1=Q1 L V
  mx: ∀j,j≠0→ ∃n:Nat,Pd (WE (fun k=>k∈l) 0 (HY made)) j n∧ex j=n
  al: ∀c,AliveLe V c→AliveLe V1 c
theorem UnI.nn {m:Nat} {L:LvD} {V V1:VS} {ex:Int→Int} {made:KD→Option Int} {l:List KD} (h:UnI m L V V1 made l ex):NN ex:= fun j hj=> by
  obtain⟨n,_,e⟩:=h.mx j hj
  rw[e];omega
theorem UnI.step {m:Nat} {L:LvD} {V V1:VS} {ex:Int→Int} {made:KD→Option Int} {l:List KD} {i:Nat} {k:KD} (h:UnI m L V V1 made (l.take i) ex) (hk:l[i]? =some k) (hd:l.Nodup):
    UnI m L V (Zj V1 (HY made k)) made (l.take (i+1)) (fun j=>ex j -dl (HY made k) j):= by
  have hni:=H7 hd hk
  have hz:WE (fun k=>k∈l.take i) 0 (HY made) k=HY made k:= by unfold WE; rw[if_neg hni]
  obtain⟨h1,h2⟩:=h.inv.unr (s:=HY made k) h.nn fun h0=> by
    obtain⟨n,a,e⟩:=h.mx _ h0
    have :=BI a (p:=k) hz
    rw[e];omega
  refine⟨h1,h2.trans h.ab, fun j hj=> ?_, fun c q=>(h.al c q).unr⟩
  obtain⟨n,a,e⟩:=h.mx j hj
  rw[V9 (P:= fun k=>k∈l.take i) (k:=k) (fun p=>(VX hk).trans Or.comm)]
  by_cases q:HY made k=j
  · obtain⟨n',rfl,b⟩:=TR (v:=0) (hz.trans q) (by omega) a
    exact⟨n',b, by show ex j -dl (HY made k) j=_; rw[q,W7,e];omega⟩
  · refine⟨n,U3 (fun p=> ?_) a, by show ex j -dl (HY made k) j=_; rw[J4 (fun a=>q a.symm),e];omega⟩
    by_cases e2:p=k
    · subst e2; rw[XF,hz]; exact⟨fun a=>absurd a.symm hj, fun a=>absurd a q⟩
    · rw[XQ e2]
theorem UnI.fin {m:Nat} {L:LvD} {V V1:VS} {ex:Int→Int} {made:KD→Option Int} {l:List KD} (h:UnI m L V V1 made l ex) (hl: ∀k,made k≠none→k∈l):LvI m L V1:= by
  refine h.inv.ext fun j hj=> ?_
  obtain⟨n,a,e⟩:=h.mx j hj
  have e1:WE (fun k=>k∈l) 0 (HY made)= fun _=>0:= by
    funext k
    unfold WE
    split
    · rfl
    · rename_i q
      unfold HY
      cases r:made k with
      | none=>rfl
      | some s=> exact absurd (hl k (by rw[r]; simp)) q
  rw[e1]at a
  rw[e,Fo a (BJ hj)];rfl
def Gm (made:KD→Option Int):KD→Option Value:= fun k=>(made k).map intV
theorem Ox:Gm (fun _=>none)= fun _=>none:=rfl
theorem TA {made:KD→Option Int} {k:KD} {s:Int}:upd (Gm made) k (some (intV s))=Gm (Xu made k (some s)):= by
  funext j
  by_cases e:j=k
  · subst e; rw[Ws];unfold Gm; rw[Qy];rfl
  · rw[Jy e];unfold Gm; rw[QF e]
theorem SN {made:KD→Option Int} {k:KD}:(Gm made k).getD (intV 0)=intV (HY made k):= by unfold Gm HY; cases made k<;>rfl
theorem MdI.un {m:Nat} {L:LvD} {V V1:VS} {t:TrD} {ex:Int→Int} {made:KD→Option Int} {l:List KD} (h:MdI m L V V1 t ex made l):UnI m L V1 V1 made [] ex:= by
  refine⟨h.inv,rfl, fun j hj=> ?_, fun _ q=>q⟩
  obtain⟨n,a,e⟩:=h.mx j hj
  exact⟨n, by have e2:WE (fun k=>k∈([]:List KD)) 0 (HY made)=HY made:=(by funext k; simp [WE]); rw[e2]; exact a,e⟩
