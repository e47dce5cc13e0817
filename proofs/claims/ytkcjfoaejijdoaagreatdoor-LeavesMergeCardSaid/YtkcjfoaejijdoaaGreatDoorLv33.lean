/- leaves: Copy in a trial -/
import Derived.Test.YtkcjfoaejijdoaaGreatDoorLv27
import Derived.Test.YtkcjfoaejijdoaaGreatDoorFw
set_option linter.unusedSectionVars false
set_option linter.unusedVariables false
set_option maxRecDepth 100000
set_option maxHeartbeats 1600000
namespace Go.Proofs.YtkcjfoaejijdoaaGreatDoor
open Go.RowKit M Proofs.Tryz
variable [Inhabited SlW]
noncomputable def cpRf (id:Int) (ob:Bs) (p0:Int) (A:LvA):Nat→LvA
  | 0=>A
  | q+1=>cpRd id ob (cpRf id ob p0 A q) (p0+(q:Int))
noncomputable def cpWf (id:Int) (A:LvA) (to:Bs) (base:Int) (f:Nat→Bs):Nat→LvA
  | 0=>A
  | q+1=>cpWr id (cpWf id A to base f q) ((to,base+(q:Int)),f q)
theorem BH {id:Int} {ob:Bs} {p0:Int} {A:LvA} (ht: ∃t,A.tr id=some t): ∀q,∃t,(cpRf id ob p0 A q).tr id=some t
  | 0=>ht
  | q+1=>cpRd_tr (BH ht q)
theorem MD {id:Int} {ob:Bs} {p0:Int} {A:LvA} (ht: ∃t,A.tr id=some t) (j:KD): ∀q,Wq (cpRf id ob p0 A q) id j=Wq A id j
  | 0=>rfl
  | q+1=> by
    obtain⟨t,h⟩:=BH (ob:=ob) (p0:=p0) ht q
    exact(L9 (fun _=>h) j).trans (MD ht j q)
section
variable {ex ex':Int→Int} {m e j:Nat} {L L1 L2:LvD} {V V1 V2:VS} {id p0 p s:Int} {t t2:TrD} {ob to:Bs} {l:List Int} {y:LfD} {A0:LvA}
structure CtI (ex:Int→Int) (m:Nat) (L L1:LvD) (V V1:VS) (id:Int) (ob:Bs) (p0:Int) (l:List Int) (j:Nat):Prop where
  inv:LvX ex m L1 V1
  no:NoI ex l
  len:l.length=j
  sp:L1.sp=L.sp
  ab:Q1 L1 V1=cpRf id ob p0 (Q1 L V) j
  al: ∀c,AliveLe V c→AliveLe V1 c
  sz: ∀c,SzLe L c→SzLe L1 (c+j)
  pg:Pgs V V1
  con: ∀q,q<j→XH V1 (l.getD q 0)=cpC (Q1 L V) id ob (p0+(q:Int))
theorem CtI.start (hI:LvI m L V):CtI (fun _=>0) m L L V V id ob p0 [] 0:=⟨hI, fun _ _=>rfl,rfl,rfl,rfl, fun _ q=>q, fun _ q=>q,.refl, fun q h=> by omega⟩
theorem CtI.get (h:CtI ex m L L1 V V1 id ob p0 l j) (ht:L.tr id=some t): ∃u,L1.tr id=some u:= by
  obtain⟨u,hu⟩:=BH (ob:=ob) (p0:=p0) ⟨_,Zh (V:=V) ht⟩ j
  rw[←h.ab]at hu
  obtain⟨u,hu,_⟩:=KF hu
  exact⟨u,hu⟩
theorem CtI.next (h:CtI ex m L L1 V V1 id ob p0 l j) (hs:StepX ex m L1 V1 ex m 0 1 L2 V2) (ha:X5 V2 s) (hab:Q1 L2 V2=cpRd id ob (cpRf id ob p0 (Q1 L V) j) (p0+(j:Int))) (hpg: ∀q,XH V2 q=XH V1 q) (hc:XH V2 s=cpC (Q1 L V) id ob (p0+(j:Int))):
    CtI (fun q=>ex q+dl s q) m L L2 V (Hv V2 s) id ob p0 (l++[s]) (j+1):= by
  obtain⟨h1,h2,h3⟩:=UJ hs.inv h.no ha
  refine⟨h1.inv,h2, by rw[List.length_append,h.len];rfl,hs.sp.trans h.sp,h3.trans hab, fun c q=>h1.al _ (hs.al c (h.al c q)), fun c q=> by have :=h1.sz _ (hs.sz _ (h.sz c q)); exact this,(h.pg.trans hs.pg).trans h1.pg, fun q hq=> ?_⟩
  rw[AN hs.inv.zero,Yg]
  by_cases e:q=j
  · subst e
    rw[show(l++[s]).getD q 0=s by simp [List.getD,←h.len]]
    exact hc
  · rw[show(l++[s]).getD q 0=l.getD q 0 by simp [List.getD,List.getElem?_append_left (show q<l.length by rw[h.len];omega)],hpg]
    exact h.con q (by omega)
theorem CtI.in_ (h:CtI ex m L L1 V V1 id ob p0 l j) (ht:L.tr id=some t) (h0:id≠0) (ht1:L1.tr id=some t2) {x1:LfD} {t1:TrD} (hp:0≤p0+(j:Int)∧p0+(j:Int)<256) (hT:TouR L1 V1 id t2 (ob,p0+(j:Int)) L2 V2 t1 x1):
    CtI (fun q=>ex q+dl x1.own q) m L (ZD L2 id t1 (ob,p0+(j:Int)) {x1 with rd:=x1.rd ||| (BitVec.allOnes 64&&& ~~~x1.wr)}) V (Hv V2 x1.own) id ob p0 (l++[x1.own]) (j+1):= by
  obtain⟨a1,a2⟩:=qam hT ht1 h.inv h.no.nn
  obtain⟨b1,b2,b3,b4,b5⟩:=hT.invX ht1 h.inv h.no.nn
  have hx1:=hT.lv
  have hal:X5 V2 x1.own:= by
    have :=a1.inv.aliveX h.no.nn (.inr (id,(ob,p0+(j:Int)),true))
    rw[Xt Dk Qy]at this
    exact this
  have htA: ∃t,(Q1 L V).tr id=some t:=⟨_,Zh ht⟩
  refine h.next a1 hal ?_ hT.pg ?_
  · rw[a2,h.ab]
    unfold cpRd
    rw[if_pos ⟨h0,hp.1,hp.2⟩]
  · have e1:XH V2 x1.own=(Z0 (Q1 L1 V1) id (ob,p0+(j:Int))).own:= by rw[←b2];rfl
    obtain⟨u,hu⟩:=BH (ob:=ob) (p0:=p0) htA j
    rw[e1,h.ab,B2 h0 hu,MD htA]
    unfold cpC
    rw[if_pos hp]
theorem CtI.out (h:CtI ex m L L1 V V1 id ob p0 l j) (hp: ¬(0≤p0+(j:Int)∧p0+(j:Int)<256)):CtI (fun q=>ex q+dl 0 q) m L L1 V (Hv V1 0) id ob p0 (l++[0]) (j+1):= by
  refine h.next (StepX.refl h.inv) (.inl U) ?_ (fun _=>rfl) ?_
  · rw[h.ab]
    unfold cpRd
    rw[if_neg (fun q=>hp q.2)]
  · unfold cpC
    rw[if_neg hp,Wk h.inv.zero]
theorem Fm {id:Int} {to:Bs} {base:Int} {A:LvA} {f:Nat→Bs} (ht: ∃t,A.tr id=some t): ∀q,∃t,(cpWf id A to base f q).tr id=some t
  | 0=>ht
  | q+1=> by
    obtain⟨t,h⟩:=Fm (to:=to) (base:=base) (f:=f) ht q
    show ∃u,(cpWr id _ _).tr id=some u
    unfold cpWr
    split
    · exact⟨t,h⟩
    · exact⟨_, by rw[Wg h]; exact Qy⟩
end
theorem NF {id:Int} {A:LvA} {to:Bs} {base:Int} {f g:Nat→Bs}: ∀q,(∀i,i<q→f i=g i)→cpWf id A to base f q=cpWf id A to base g q
  | 0,_=>rfl
  | q+1,h=> by
    show cpWr id (cpWf id A to base f q) _=cpWr id (cpWf id A to base g q) _
    rw[NF q fun i hi=>h i (by omega),h q (by omega)]
theorem Tc {A:LvA} {to:Bs} {base:Int} {f:Nat→Bs}: ∀q,Ew A to base f q=cpWf 0 A to base f q
  | 0=>rfl
  | q+1=> by
    show cpWr 0 (Ew A to base f q) _=cpWr 0 (cpWf 0 A to base f q) _
    rw[Tc q]
theorem I0 {w:World} {m:Nat} {b n Fr:Nat} {L:LvD} {V:VS} {F:Th} (hS:Sat w [XX b L,XD L.sp n Fr V,F]) (hn:n+2100≤60000000000) (hI:LvI m L V) (hm:m<Zg) {id:Int} {t:TrD} (ht:L.tr id=some t) (ob to:Bs) (first cnt aa:Int) (hf: -2147483648≤first∧first≤2147483648) (ha: -2147483648≤aa∧aa≤2147483648) (hc: -2147483648≤cnt∧cnt≤300):
    Calls prog 41 #[ptrV b 0,intV id,strV ob,intV first,intV cnt,strV to,intV aa] w (Ret fun v w'=> ∃L' V' q,StepI m L V m 0 512 L' V'∧Q1 L' V'=cpWf id (cpRf id ob (first+max 0 (-aa)) (Q1 L V) q) to (aa+max 0 (-aa)) (fun i=>cpC (Q1 L V) id ob (first+max 0 (-aa)+(i:Int))) q∧(max 0 (-aa)+(q:Int)=min cnt (256 -aa)∨(q=0∧min cnt (256 -aa)≤max 0 (-aa)))∧Sat w' [XX b L',XD L'.sp (n+2100) Fr V',F]):= by
 have h0:id≠0:=hI.rank.none0 ht
 refine Qm func41 U ntmps41 U ?_
 refine Qd (Qd (Qa (Qb U U (Qb U U (Qv W4 U (Z8 (hS.sp [0] U) id) U ?_)))))
 rintro _ w1 ⟨rfl,j1⟩
 replace j1:=j1.jn U U
 refine Xb U U (Qf (Qc (Qh [6,5,4,3,2,1,0,27] U (QT U (fun h2=> ?_) (fun h2=> ?_)))))
 ·exact absurd h2 (by simp [Zk,ht])
 refine Qs (Qc (Qd (Qa (Qb U U (ER U (by omega) (by omega) U ?_)))))
 refine YP U U U (Qb U U (Qb U U (VB U U (by omega) (by omega) U ?_)))
 refine U9 U U U (Qe U U (Qe U U (Qf (Qc (Qh [6,5,3,2,1,0,14,15] U (Qd (Qa (Qe U U (Qf (Qc (Qd (Qd (Qa (Qb U U (Qe U U (Qf (Qc (Qw ?_))))))))))))))))))
 have hrn:=j1.row_nil inC
 refine Xg (fun K0 E0 W0=> ∃(j:Nat) (L1:LvD) (V1:VS) (ex:Int→Int) (l:List Int) (nv:Value),K0=((min cnt (256 -aa)) -(max 0 (-aa))).toNat -j∧E0=[(0,ptrV b 0),(1,intV id),(2,strV ob),(3,intV first),(5,strV to),(6,intV aa),(14,intV (max 0 (-aa))),(15,intV (min cnt (256 -aa))),(16,nv),(17,intV ((max 0 (-aa))+(j:Int)))]∧Sat W0 [XX b L1,XD L1.sp (n+3*j) Fr V1,rowT inC nv l,F]∧(j≤256)∧(j=0∨(max 0 (-aa))+(j:Int)≤(min cnt (256 -aa)))∧(CtI ex m L L1 V V1 id ob (first+(max 0 (-aa))) l j)) (L0:=[(0,_),(1,_),(2,_),(3,_),(5,_),(6,_),(14,_),(15,_),(16,_),(17,_)]) (((min cnt (256 -aa)) -(max 0 (-aa))).toNat) (Cy U U U U U U U U U U) ⟨0,L,V, fun _=>0,[],_, by omega, by simp,hrn.pick [1,2,0,3] U, by omega,.inl U,CtI.start hI⟩ ?_
 rintro _ _ w3 ⟨j,L1,V1,ex,l,nv,rfl,rfl,j3,hjb,hj,hct⟩
 refine Qd (Qd (Qa (Qb U U (Qb U U (Xk U U U (Qf (Qc (Qt U (fun h4=> ?_) (fun h4=> ?_)))))))))
 ·refine Qs (Qc (Qh [17,16,15,14,6,5,3,2,1,0] U (Qd (Qw (Qd (Qa (Qe U U (Qf (Qc (Qd (Qd (Qa (Qb U U (Qb U U (QO U U (by omega) (by omega) U ?_)))))))))))))))
  refine Qe U U (Qf (Qc (Qh [17,16,15,14,6,5,3,2,1,0,18,19] U (Qd (Qa (Qb U U (Jf U U U (Qb U U (Xc 46 U (fun h5=> ?_) (fun h5=> ?_))))))))))
  ·refine Qo U U (Xm h5) (Qb U U (Qo U U (Xm h5) (Xk U U U (QK U (Xm h5) U U (Qf (Qc (Qh [17,16,15,14,6,5,3,2,1,0,18,19,49] U (Qt U (fun h6=> ?_) (fun h6=> ?_)))))))))
   ·refine Qd (Qa (Qb U U (Qb U U (Zo U Jw Hn Zy U U (Xa j3 Zy U U ?_)))))
    intro kb wk7 hk7
    refine QG hk7 U U Xf U (by rfl) (i:=0) U (by decide) ?_
    intro wk8 hk8; dsimp only[List.set]at hk8
    clear hk7
    replace hk8:=X6 (k:=(ob,first+((max 0 (-aa))+(j:Int)))) hk8
    dsimp only at hk8; rw[show first+((max 0 (-aa))+(j:Int))=(first+(max 0 (-aa)))+(j:Int) from(Int.add_assoc _ _ _).symm]at hk8
    refine Qf (Qc (Qh [17,16,15,14,6,5,3,2,1,0,18,20] U (Qd (Qd (Qa (Qb U U (XC U U U (Qf (Qc (Qt U (fun h9=> ?_) (fun h9=> ?_)))))))))))
    ·refine Qd ?_
     obtain⟨t1,ht1⟩:=hct.get ht
     refine Qa (Qb U U (Qb U U (Xw U X9 Xf (by first | exact hk8.blk 0 U) (Xv U) U U ?_)))
     have hC10:=hk8.sp [1,2] U
     refine Qv Rd U (HE hC10 (by omega) (hct.inv.rank.ends hm) ht1 (k:=(ob,(first+(max 0 (-aa)))+(j:Int)))) U ?_
     rintro _ w10 ⟨L2,V2,t2,x1,rfl,hT,j10⟩
     replace j10:=j10.jn U U; clear hC10
     clear hk8
     have ht2:=hT.tr ht1
     have hx2:=hT.lv
     refine Qe U U (Qf (Qc (Qh [17,16,15,14,6,5,3,2,1,0,18,20,21] U ?_)))
     have j11:=JQ ht2 hx2 (j10.pick [0,1,2,3,4] U)
     have j12:=j11.drew
     refine QE [0,1,2,3,4,5,6,7,8,9,10,11,12] [12] Wa (by kernel_rfl) ?_
     refine Q9 U U U (Xi U U U (QQ U U U JR (Q4 U U U (Ql U J6 (j12.cell 0 U U)) (Q9 U U U (Xi U U U (QQ U U U Wj (Q4 U U U (Ql U J6 (j12.cell 0 U U)) (QZ U U U (fun _=>(Ub (a:=BitVec.allOnes 64) U U)) ?_))))))))
     refine QZ U U U (fun _=>(Kd U U)) ?_
     refine Xi U U U (QQ U U U JR (Xe U U U U U U ?_))
     refine QV j12 U U Kx U (i:=0) U (Xv U) ?_
     intro w13 j13; dsimp only[List.set]at j13
     refine Zu (Xj (by kernel_rfl)) ?_
     refine VC.nil (Qc (Qh [17,16,15,14,6,5,3,2,1,0,18,20] U ?_))
     have j14:=WJ (L:=L2) (y:={x1 with rd:=x1.rd ||| (BitVec.allOnes 64&&& ~~~x1.wr)}) ht2 hx2 U (j13.pick [0,1,2,3,4,5,6,7,8,9,10,11,12,13] U)
     have hct2:=hct.in_ ht h0 ht1 (by omega) hT
     refine Qa (Qb U U (Qb U U (Xw U X9 Xf (by first | exact j14.blk 2 U) (Xv U) U U ?_)))
     refine Qv YN U (Yy (j14.sp [0] U) (hct2.inv.rank.ends hm) id (ob,(first+(max 0 (-aa)))+(j:Int))) U ?_
     rintro _ w15 ⟨rfl,j15⟩
     replace j15:=j15.jn U U
     rw[Dl h0]
     refine Qe U U (Qf (Qc (Qh [17,16,15,14,6,5,3,2,1,0,18] U (Qd (Qa (Qb U U (Qj U U (Qg U XJ U (Qr U Xy (Jk j15 0 U) U (Qb U U (Qv UQ U (De (j15.sp [1] U) (by omega) (x1.own)) U ?_)))))))))))
     rintro _ w16 ⟨e0,rfl,j16⟩
     replace j16:=j16.jn U U
     refine Qf (Qc (Qh [17,16,15,14,6,5,3,2,1,0,18] U (Qa (Qb U U (Qb U U (XU inC [x1.own] j16 U underlying47 Uu U U U U (by rfl) rfl ?_))))))
     intro b17 w17 j17
     refine ZH inC 4 j17 U U U (j17.rd 0 U (by simp)) underlying47 underlying47 (by intro k hk; cases hk) UX U (by simp only[hct.len,List.length_cons,List.length_nil];omega) U (by simp only[hct.len,List.length_cons,List.length_nil];omega) ?_
     intro v18 w18 j18; dsimp only[List.set]at j18
     have h1v18:v18.oneCell'=true:=j18.own_one 4 U
     refine Qe U U (Qf (Qk (Qc (Qh [17,15,14,6,5,3,2,1,0,16] U (Qa (Qb U U (QO U U (by omega) (by omega) U ?_)))))))
     refine Qe U U (Qf ?_)
     exact Q3 (L1:=[(0,_),(1,_),(2,_),(3,_),(5,_),(6,_),(14,_),(15,_),(16,_),(17,intV ((max 0 (-aa))+(j:Int)+1))]) (Cy U U U U U U U U U U) (k1:=((min cnt (256 -aa)) -(max 0 (-aa))).toNat -(j+1)) (by omega) ⟨j+1,_,_,_,_,_,rfl,(by rw[show(max 0 (-aa))+((j+1:Nat):Int)=(max 0 (-aa))+(j:Int)+1 by omega]),(Xn (m:=n+3*(j+1)) (by omega) (j18.pick [1,2,4,5] U)).reorder [1,0,2,3] U, by omega, by omega,hct2⟩
    exact absurd (Decidable.not_not.1 h9) h0
   refine Qs (Qc (Qd (Qa (Qb U U (Qj U U (Qg U XJ U (Qr U Xy (Jk j3 0 U) U (Qb U U (Qv UQ U (De (j3.sp [1] U) (by omega) (0)) U ?_)))))))))
   rintro _ w19 ⟨e0,rfl,j19⟩
   replace j19:=j19.jn U U
   refine Qf (Qc (Qh [17,16,15,14,6,5,3,2,1,0,18] U (Qa (Qb U U (Qb U U (XU inC [0] j19 U underlying47 Uu U U U U (by rfl) rfl ?_))))))
   intro b20 w20 j20
   refine ZH inC 3 j20 U U U (j20.rd 0 U (by simp)) underlying47 underlying47 (by intro k hk; cases hk) UX U (by simp only[hct.len,List.length_cons,List.length_nil];omega) U (by simp only[hct.len,List.length_cons,List.length_nil];omega) ?_
   intro v21 w21 j21; dsimp only[List.set]at j21
   have h1v21:v21.oneCell'=true:=j21.own_one 3 U
   refine Qe U U (Qf (Qk (Qc (Qh [17,15,14,6,5,3,2,1,0,16] U (Qa (Qb U U (QO U U (by omega) (by omega) U ?_)))))))
   exact Qe U U (Qf (Q3 (L1:=[(0,_),(1,_),(2,_),(3,_),(5,_),(6,_),(14,_),(15,_),(16,_),(17,intV ((max 0 (-aa))+(j:Int)+1))]) (Cy U U U U U U U U U U) (k1:=((min cnt (256 -aa)) -(max 0 (-aa))).toNat -(j+1)) (by omega) ⟨j+1,_,_,_,_,_,rfl,(by rw[show(max 0 (-aa))+((j+1:Nat):Int)=(max 0 (-aa))+(j:Int)+1 by omega]),(Xn (m:=n+3*(j+1)) (by omega) (j21.pick [1,2,3,4] U)).reorder [1,0,2,3] U, by omega, by omega,hct.out (by omega)⟩))
  refine Qi U U (Q7 h5) U (Qi U U (Q7 h5) U (QW U (Q7 h5) U U (Qf (Qc (Qh [17,16,15,14,6,5,3,2,1,0,18,19,49] U (QR U (Qs (Qc (Qd (Qa (Qb U U (Qj U U (Qg U XJ U (Qr U Xy (Jk j3 0 U) U (Qb U U (Qv UQ U (De (j3.sp [1] U) (by omega) (0)) U ?_))))))))))))))))
  rintro _ w22 ⟨e0,rfl,j22⟩
  replace j22:=j22.jn U U
  refine Qf (Qc (Qh [17,16,15,14,6,5,3,2,1,0,18] U (Qa (Qb U U (Qb U U (XU inC [0] j22 U underlying47 Uu U U U U (by rfl) rfl ?_))))))
  intro b23 w23 j23
  refine ZH inC 3 j23 U U U (j23.rd 0 U (by simp)) underlying47 underlying47 (by intro k hk; cases hk) UX U (by simp only[hct.len,List.length_cons,List.length_nil];omega) U (by simp only[hct.len,List.length_cons,List.length_nil];omega) ?_
  intro v24 w24 j24; dsimp only[List.set]at j24
  have h1v24:v24.oneCell'=true:=j24.own_one 3 U
  refine Qe U U (Qf (Qk (Qc (Qh [17,15,14,6,5,3,2,1,0,16] U (Qa (Qb U U (QO U U (by omega) (by omega) U ?_)))))))
  exact Qe U U (Qf (Q3 (L1:=[(0,_),(1,_),(2,_),(3,_),(5,_),(6,_),(14,_),(15,_),(16,_),(17,intV ((max 0 (-aa))+(j:Int)+1))]) (Cy U U U U U U U U U U) (k1:=((min cnt (256 -aa)) -(max 0 (-aa))).toNat -(j+1)) (by omega) ⟨j+1,_,_,_,_,_,rfl,(by rw[show(max 0 (-aa))+((j+1:Nat):Int)=(max 0 (-aa))+(j:Int)+1 by omega]),(Xn (m:=n+3*(j+1)) (by omega) (j24.pick [1,2,3,4] U)).reorder [1,0,2,3] U, by omega, by omega,hct.out (by omega)⟩))
 refine QU (Qq (Qq (Qx (Qc (Qh [16,14,6,5,1,0] U (Qd ?_))))))
 obtain⟨an,cn,hvn,_⟩:=j3.own_shape 2 rfl; obtain rfl:=hvn
 refine Qa (Qb U U (X7 underlying47 U U (Qb U U (Qf (Qc (Qw ?_))))))
 have hln:=hct.len
 refine Xg (fun K0 E0 W0=> ∃(q:Nat) (L2:LvD) (V2:VS) (ex2:Int→Int),K0=j -q∧E0=[(0,ptrV b 0),(1,intV id),(5,strV to),(6,intV aa),(14,intV (max 0 (-aa))),(85,.slice an l.length cn),(86,intV (l.length:Int)),(87,intV (q:Int))]∧Sat W0 [XX b L2,XD L2.sp (n+3*j+5*q) Fr V2,rowT inC (.slice an l.length cn) l,F]∧(q≤j)∧(LvX ex2 m L2 V2)∧(NoI ex2 (l.drop q))∧(L2.sp=L.sp)∧(Q1 L2 V2=cpWf id (Q1 L1 V1) to (aa+(max 0 (-aa))) (fun q=>XH V1 (l.getD q 0)) q)∧(∀c,AliveLe V c→AliveLe V2 c)∧(∀c,SzLe L c→SzLe L2 (c+j+q))∧(Pgs V1 V2)) (L0:=[(0,_),(1,_),(5,_),(6,_),(14,_),(85,_),(86,_),(87,_)]) (j) (zb8 U U U U U U U U) ⟨0,L1,V1,ex,rfl,rfl,j3.pick [0,1,2,3] U, by omega,hct.inv,hct.no,hct.sp,rfl,hct.al,hct.sz,.refl⟩ ?_
 rintro _ _ w25 ⟨q,L2,V2,ex2,rfl,rfl,j25,hq,hI2,hno2,hsp,hab2,hal2,hsz2,hpg2⟩
 refine Qd (Qa (Xk U U U (Qf (Qc (Qd (Qt U (fun h26=> ?_) (fun h26=> ?_)))))))
 ·obtain⟨s,hs⟩: ∃s,l[q]? =some s:=⟨_,Zq (by have :=hct.len;omega)⟩; rw[Tb hs]at hno2; have hsa:=hI2.held (s:=s) fun h0=>hno2.ge h0; obtain⟨t2,ht2⟩: ∃u,L2.tr id=some u:= by obtain⟨t1,ht1⟩:=hct.get ht; obtain⟨u,hu⟩:=Fm (to:=to) (base:=(aa+(max 0 (-aa)))) (f:=(fun q=>XH V1 (l.getD q 0))) ⟨_,Zh (V:=V1) ht1⟩ q; rw[←hab2]at hu; obtain⟨u2,hu2,_⟩:=KF hu; exact⟨u2,hu2⟩
  refine Qs (Qc (Qd (Qw (Qd (Qa (Qb U U (Xx inC 2 q j25 U U U (by rfl) hs Jr U ?_)))))))
  intro bx27 capx27 hvx27
  refine Zz 2 q 0 j25 U hvx27 U U hs QL U U (Qe U U (Qe U U (Qf (Qc (Qh [87,86,85,14,6,5,1,0,22,23] U (Qd (Qa (Qb U U (Qb U U (Qb U U (Qb U U (Qb U U (QO U U (by omega) (by omega) U ?_)))))))))))))
  refine Qb U U (QO U U (by omega) (by omega) U ?_)
  refine Zo U Jw Hn Zy U U (Qb U U (Qv FG U (CS (j25.sp [0,1] U) (by omega) hI2 hno2.nn hm ht2 hsa (to,(aa+(max 0 (-aa)))+(q:Int))) U ?_))
  rintro _ w28 ⟨L3,V3,hr1,hr2,j28⟩
  replace j28:=j28.jn U U
  refine Qf (Qc (Qh [87,86,85,14,6,5,1,0,23] U (Qa (Qb U U (Qj U U (Qg U XJ U (Qr U Xy (Jk j28 0 U) U (Qb U U (Qv Ga U (Rq (j28.sp [1] U) (by omega) s) U ?_)))))))))
  rintro _ w29 ⟨e0,rfl,j29⟩
  replace j29:=j29.jn U U
  refine Qf (Qk (Qc (Qh [87,86,85,14,6,5,1,0] U (Qa (QO U U (by omega) (by omega) U ?_)))))
  refine Qb U U (Qf ?_)
  obtain⟨hu1,hu2,hu3⟩:=Rm hr1.inv hno2
  exact Q3 (L1:=[(0,_),(1,_),(5,_),(6,_),(14,_),(85,_),(86,_),(87,intV ((q+1:Nat):Int))]) (zb8 U U U U U U U U) (k1:=j -(q+1)) (by omega) ⟨q+1,_,_,_,rfl,rfl,j29.pick [1,0,2,3] U, by omega,hu1.inv,hu2,hu1.sp.trans (hr1.sp.trans hsp), by rw[hu3,hr2,hab2,cpWf];unfold cpWr; rw[if_neg h0]; dsimp only; rw[TF hs,(hpg2 s hsa).2], fun c q2=>hu1.al _ (hr1.al _ (hal2 c q2)), fun c q2=> by have :=hu1.sz _ (hr1.sz _ (hsz2 c q2)); exact this.mono (by omega),(hpg2.trans hr1.pg).trans hu1.pg⟩
 refine QU (Qq (Qq (Qx (ZU (.inl U) U ?_))))
 have hln:=hct.len
 have hqj:q=j:= by omega
 subst hqj
 have hjj:q≤256:= by omega
 exact⟨_,rfl,L2,V2,q,⟨hI2.ext fun i hi=> by rw[hno2 i hi,List.drop_eq_nil_of_le (by rw[hct.len];omega)];rfl,hsp, fun c h=>(hal2 c h).mono (by omega), fun c h=>(hsz2 c h).mono (by omega)⟩, by rw[hab2,hct.ab]; exact NF q hct.con, by omega,(Xn (m:=n+2100) (by omega) (j25.pick [1,0,3] U)).reorder [1,0,2] U⟩
def PartLe (t:TrA) (q:Nat):Prop:= ∃l:List KD,l.length≤q∧ ∀k x,t.lv k=some x→x.wr≠0#64→x.wr≠BitVec.allOnes 64→k∈l
def DrLe (t:TrA) (d:Nat):Prop:= ∃l:List Bs,l.length≤d∧ ∀ob,t.dr ob=true→ob∈l
theorem PartLe.part {V:VS} {t:TrD} {q:Nat} {order:List KD} (h:PartLe (ZG V t) q) (hn:order.Nodup):Y0 t order≤q:= by
  obtain⟨l,h1,h2⟩:=h
  refine Nat.le_trans ?_ h1
  unfold Y0
  refine Zp (hn.filter _) fun k hk=> ?_
  obtain⟨_,hk⟩:=List.mem_filter.1 hk
  simp only[decide_eq_true_eq]at hk
  obtain⟨x,hx,a,b⟩:=hk
  exact h2 k _ (ZR hx) a b
theorem DrLe.came {t:TrD} {V:VS} {d:Nat} (h:DrLe (ZG V t) d) {ks:List Bs} (hc:Came (ZF t.dr) ks):ks.length≤d:= by
  obtain⟨l,h1,h2⟩:=h
  refine Nat.le_trans (Zp hc.nodup fun k hk=> ?_) h1
  have h3:=hc.has k hk
  refine h2 k ?_
  show t.dr k=true
  cases q:t.dr k with
  | true=>rfl
  | false=> exact absurd (by unfold ZF; rw[q];rfl) h3
theorem absL_ch {L:LvD} {V:VS} {id:Int} (h: ∀i u,(Q1 L V).tr i=some u→u.parent≠id): ∀i u,L.tr i=some u→u.parent≠id:= fun i u hu=>h i _ (Zh hu)
theorem ls_com {w:World} {b p n m c e:Nat} {A:LvA} {F:Th} (hS:Sat w [GE b p n m c e A,F]) (hn:n≤60000000000) (hm:m<Zg) {d q:Nat} (hn2:n+(16*e+4*e*d)≤60000000000) (hdm:d≤90000000000) {id:Int} {tA:TrA} (ht:A.tr id=some tA) (hch: ∀i u,A.tr i=some u→u.parent≠id) (hdr:DrA A) (hd:DrLe tA d) (hq:PartLe tA q) (hcq:c+q<256):
    Calls prog 13 #[ptrV b 0,intV id] w (Ret fun v w'=> ∃order obs,v=intV 0∧((∀k,k∈order↔tA.lv k≠none)∧order.Nodup∧(∀ob,ob∈obs↔tA.dr ob=true))∧Sat w' [GE b p (n+(16*e+4*e*d)) m (c+q) e (PZ A id tA order obs),F]):= by
  obtain⟨L,V,⟨h1,h2,rfl,h4,h5⟩,j1⟩:=Hb hS
  obtain⟨t,ht1,rfl⟩:=KF ht
  refine(Te j1 hn2 h2 hm h5 ht1 (absL_ch hch) hdr (fun ks h=>hd.came h) hdm).mono fun ew w h=>h.mono fun v w h=> ?_
  obtain⟨L',V',h,hS⟩:=h
  rcases h with⟨rfl,order,obs,a1,a2,a3,a4,a5,a6,a7,a8⟩ | ⟨_,_,order,a1,a2,a3,a4,a5,a6⟩
  · refine⟨order,obs,rfl,⟨fun k=>(a1 k).trans ?_,a2,a3⟩,Ha ⟨a5.trans h1,a4,a6,(a8 _ h4).mono (Nat.add_le_add_left (hq.part a2) c),a7 _ h5⟩ hS⟩
    cases r:t.lv k with
    | none=> rw[V8 r]; simp
    | some x=> rw[ZR r]; simp
  · have x1:=a5 _ h4
    have x2:=hq.part a2
    omega
theorem ls_com0 {w:World} {b p n m c e:Nat} {A:LvA} {F:Th} (hS:Sat w [GE b p n m c e A,F]) (hn:n≤60000000000) (hm:m<Zg) {d q:Nat} (hn2:n+(16*e+4*e*d)≤60000000000) (hdm:d≤90000000000) {id:Int} {tA:TrA} (ht:A.tr id=some tA) (hp:tA.parent=0) (hch: ∀i u,A.tr i=some u→u.parent≠id) (hdr:DrA A) (hd:DrLe tA d) (hq:PartLe tA q) (hcq:c+q<256):
    Calls prog 13 #[ptrV b 0,intV id] w (Ret fun v w'=>v=intV 0∧Sat w' [GE b p (n+(16*e+4*e*d)) m (c+q) e ⟨PY A tA,Xu A.tr id none⟩,F]):= by
  refine(ls_com hS hn hm hn2 hdm ht hch hdr hd hq hcq).mono fun ew w h=>h.mono fun v w h=> ?_
  obtain⟨order,obs,rfl,⟨a,b,c⟩,hS⟩:=h
  rw[Ex hp b a c]at hS
  exact⟨U,hS⟩
end Go.Proofs.YtkcjfoaejijdoaaGreatDoor
namespace Go.Proofs.YtkcjfoaejijdoaaGreatDoor
open Go.RowKit M Proofs.Tryz
theorem Uf:Wo prog 24=some false:= by kernel_rfl
theorem Je:Wo prog 45=some true:= by kernel_rfl
theorem ag_88:Wo prog 88=some true:= by kernel_rfl
theorem asz_45:He prog 45=true:= by kernel_rfl
theorem qah:He prog 56=true:= by kernel_rfl
theorem cal_20:QI prog 20=true:= by kernel_rfl
theorem Sk:QI prog 21=true:= by kernel_rfl
theorem cal_26:QI prog 26=true:= by kernel_rfl
theorem cal_28:QI prog 28=true:= by kernel_rfl
theorem cal_29:QI prog 29=true:= by kernel_rfl
theorem Cd:QI prog 30=true:= by kernel_rfl
theorem cal_63:QI prog 63=true:= by kernel_rfl
theorem cal_64:QI prog 64=true:= by kernel_rfl
theorem cal_65:QI prog 65=true:= by kernel_rfl
theorem cal_66:QI prog 66=true:= by kernel_rfl
theorem TW:QI prog 80=true:= by kernel_rfl
theorem Si:QI prog 81=true:= by kernel_rfl
theorem IF:QI prog 82=true:= by kernel_rfl
theorem cal_83:QI prog 83=true:= by kernel_rfl
theorem cal_84:QI prog 84=true:= by kernel_rfl
theorem cal_86:QI prog 86=true:= by kernel_rfl
theorem ID:QI prog 87=true:= by kernel_rfl
theorem IC:QI prog 88=true:= by kernel_rfl
theorem Sh:QI prog 89=true:= by kernel_rfl
theorem F6:QI prog 131=true:= by kernel_rfl
theorem cal_132:QI prog 132=true:= by kernel_rfl
theorem cal_135:QI prog 135=true:= by kernel_rfl
theorem Cn:QI prog 136=true:= by kernel_rfl
theorem Fi:YB prog 52=some 6:= by kernel_rfl
theorem Y5:X3 prog 43 1=some 1:= by kernel_rfl
theorem TH:X3 prog 45 0=some 0:= by kernel_rfl
theorem RH:X3 prog 45 1=some 1:= by kernel_rfl
theorem fo_45_2:X3 prog 45 2=some 2:= by kernel_rfl
theorem Fc:X3 prog 56 0=some 0:= by kernel_rfl
theorem Fb:X3 prog 56 1=some 1:= by kernel_rfl
theorem VZ:X3 prog 85 3=some 3:= by kernel_rfl
theorem OP:(prog.info? 56).map (fun i=>(i.zero,i.size,i.bytes))=some (some (.agg #[(.string ⟨#[]⟩),(.int .i64 0),(.int .i64 0),(.int .i64 0),(.int .u64 0),(.int .u64 0)]),6,56):= by kernel_rfl
theorem ON:(prog.info? 56).map (fun i=>(i.zero,i.size))=some (some (.agg #[(.string ⟨#[]⟩),(.int .i64 0),(.int .i64 0),(.int .i64 0),(.int .u64 0),(.int .u64 0)]),6):= by kernel_rfl
theorem Oq:Y2 prog 81=true:= by kernel_rfl
theorem Oo:Y2 prog 83=true:= by kernel_rfl
theorem On:Y2 prog 91=true:= by kernel_rfl
theorem pl_45_:Z4 prog 45 []=some []:= by kernel_rfl
theorem Mo:Z4 prog 56 [0,1,2,3]=some [(0,1),(1,1),(2,1),(3,1)]:= by kernel_rfl
theorem Rz:Z4 prog 56 [0,1,2,3,4,5]=some [(0,1),(1,1),(2,1),(3,1),(4,1),(5,1)]:= by kernel_rfl
theorem Hl:Z4 prog 85 [0,1,2,3,4]=some [(0,1),(1,1),(2,1),(3,1),(4,1)]:= by kernel_rfl
theorem ZT:Wb prog 45=some 3:= by kernel_rfl
theorem sz_83:Wb prog 83=some 1:= by kernel_rfl
theorem sz_88:Wb prog 88=some 4:= by kernel_rfl
theorem zr_9:Zt prog 9=some (some (.string ⟨#[]⟩)):= by kernel_rfl
theorem EH:Zt prog 45=some (some (.agg #[(.int .i64 0),(.int .i64 0),(.string ⟨#[]⟩)])):= by kernel_rfl
theorem zr_56:Zt prog 56=some (some (.agg #[(.string ⟨#[]⟩),(.int .i64 0),(.int .i64 0),(.int .i64 0),(.int .u64 0),(.int .u64 0)])):= by kernel_rfl
theorem zr_83:Zt prog 83=some (some (.map none)):= by kernel_rfl
variable [Inhabited SlW]
structure XL (A:LvA) (ids:List Int) (obs:List Bs):Prop where
  dr:DrA A
  ids: ∀j,A.tr j≠none→j∈ids
  obs: ∀j t ob,A.tr j=some t→t.dr ob=true→ob∈obs
section
variable {A A':LvA} {ids ids':List Int} {obs obs' ks:List Bs} {id p i:Int} {k:KD} {y:LfA} {t:TrA} {ob:Bs} {l:List KD}
theorem XL.pres (h:XL A ids obs) {p:KD→Bs}:XL {A with pres:=p} ids obs:=⟨h.dr,h.ids,h.obs⟩
theorem XL.set (h:XL A ids obs) (ht:A.tr id=some t) {u:TrA} (h1: ∀k x,u.dr k.1=true→u.lv k=some x→x.wr=BitVec.allOnes 64) (h2: ∀o∈obs,o∈obs') (h3: ∀ob,u.dr ob=true→ob∈obs'):XL {A with tr:=Xu A.tr id (some u)} ids obs':= by
  refine⟨fun i v j x hu hd hx=> ?_, fun j hj=> ?_, fun j v o hu hd=> ?_⟩
  · have hu':Xu A.tr id (some u) i=some v:=hu
    by_cases e:i=id
    · subst e
      rw[Qy]at hu'
      cases hu'
      exact h1 j x hd hx
    · rw[QF e]at hu'
      exact h.dr i v j x hu' hd hx
  · refine h.ids j fun q=>hj ?_
    show Xu A.tr id (some u) j=none
    by_cases e:j=id
    · subst e; rw[ht]at q; cases q
    · rw[QF e]; exact q
  · have hu':Xu A.tr id (some u) j=some v:=hu
    by_cases e:j=id
    · subst e
      rw[Qy]at hu'
      cases hu'
      exact h3 o hd
    · rw[QF e]at hu'
      exact h2 o (h.obs j v o hu' hd)
theorem XL.put (h:XL A ids obs) (hy: ∀t,A.tr id=some t→t.dr k.1=true→y.wr=BitVec.allOnes 64):XL (ZJ A id k y) ids obs:= by
  cases ht:A.tr id with
  | none=>
    have e:ZJ A id k y=A:= by unfold ZJ; rw[ht]
    rw[e]; exact h
  | some t=>
    rw[Wg ht]
    refine h.set ht (fun j x hd hx=> ?_) (fun o ho=>ho) (fun o ho=>h.obs id t o ht ho)
    have hx':Xu t.lv k (some y) j=some x:=hx
    by_cases e2:j=k
    · subst e2
      rw[Qy]at hx'
      cases hx'
      exact hy t ht hd
    · rw[QF e2]at hx'
      exact h.dr id t j x ht hd hx'
theorem Sx (h:DrA A): ∀t,A.tr id=some t→t.dr k.1=true→(Z0 A id k).wr=BitVec.allOnes 64:= fun t ht hd=> by
  cases hx:t.lv k with
  | some x=> rw[Um ht hx]; exact h id t k x ht hd hx
  | none=> rw[Gu ht hx]; dsimp only; rw[if_pos hd]
theorem ones_or {r:BitVec 64}:BitVec.allOnes 64 ||| r=BitVec.allOnes 64:= by
  apply BitVec.eq_of_getLsbD_eq
  intro i hi
  simp only[BitVec.getLsbD_or,BitVec.getLsbD_allOnes,hi,decide_true,Bool.true_or]
theorem XL.tou (h:XL A ids obs) {r:BitVec 64} (hy:y.wr=(Z0 A id k).wr ||| r):XL (ZJ A id k y) ids obs:=
  h.put fun t ht hd=> by rw[hy,Sx h.dr t ht hd,ones_or]
theorem XL.tou0 (h:XL A ids obs) (hy:y.wr=(Z0 A id k).wr):XL (ZJ A id k y) ids obs:=
  h.put fun t ht hd=> by rw[hy,Sx h.dr t ht hd]
theorem XL.dropT (h:XL A ids obs) (h2: ∀o∈obs,o∈obs') (h3:ob∈obs'):XL (dropT A id ob) ids obs':= by
  unfold Go.Proofs.YtkcjfoaejijdoaaGreatDoor.dropT
  cases ht:A.tr id with
  | none=> exact⟨h.dr,h.ids, fun j t o a b=>h2 o (h.obs j t o a b)⟩
  | some t=>
    refine h.set ht (fun j x hd hx=> ?_) h2 (fun o ho=> ?_)
    · have hx':Z1 (fun j=>j.1=ob) t.lv j=some x:=hx
      unfold Z1 at hx'
      by_cases e:j.1=ob
      · rw[if_pos e]at hx'
        obtain⟨z,hz,rfl⟩:=Option.map_eq_some_iff.1 hx'
        rfl
      · rw[if_neg e]at hx'
        rcases(show WC t.dr ob j.1=true from hd)with hd
        unfold WC at hd
        rw[if_neg e]at hd
        exact h.dr id t j x ht hd hx'
    · have ho:WC t.dr ob o=true:=ho
      unfold WC at ho
      by_cases e:o=ob
      · rw[e]; exact h3
      · rw[if_neg e]at ho
        exact h2 o (h.obs id t o ht ho)
theorem XL.del (h:XL A ids obs):XL (Bw A id) ids obs:= by
  have hq: ∀j u,(Bw A id).tr j=some u→A.tr j=some u:= fun j u hu=> by
    have hu':Xu A.tr id none j=some u:=hu
    by_cases e:j=id
    · subst e; rw[Qy]at hu'; cases hu'
    · rwa [QF e]at hu'
  refine⟨fun i v j x hu hd hx=>h.dr i v j x (hq i v hu) hd hx, fun j hj=> ?_, fun j v o hu hd=>h.obs j v o (hq j v hu) hd⟩
  obtain⟨u,hu⟩:=Option.ne_none_iff_exists'.1 hj
  exact h.ids j (by rw[hq j u hu]; simp)
theorem XL.beg (h:XL A ids obs):XL (Bx A id p) (id::ids) obs:= by
  unfold Bx
  split
  · refine⟨fun i v j x hu hd hx=> ?_, fun j hj=> ?_, fun j v o hu hd=> ?_⟩
    · have hu':Xu A.tr id (some ⟨p, fun _=>none, fun _=>false⟩) i=some v:=hu
      by_cases e:i=id
      · subst e; rw[Qy]at hu'; cases hu'; cases hd
      · rw[QF e]at hu'; exact h.dr i v j x hu' hd hx
    · by_cases e:j=id
      · rw[e]; exact List.mem_cons_self
      · refine List.mem_cons_of_mem _ (h.ids j fun q=>hj ?_)
        show Xu A.tr id (some ⟨p, fun _=>none, fun _=>false⟩) j=none
        rw[QF e]; exact q
    · have hu':Xu A.tr id (some ⟨p, fun _=>none, fun _=>false⟩) j=some v:=hu
      by_cases e:j=id
      · subst e; rw[Qy]at hu'; cases hu'; cases hd
      · rw[QF e]at hu'; exact h.obs j v o hu' hd
  · exact⟨h.dr, fun j hj=>List.mem_cons_of_mem _ (h.ids j hj),h.obs⟩
theorem XL.rdS (h:XL A ids obs):XL (rdS p t A k) ids obs:= by
  unfold Go.Proofs.YtkcjfoaejijdoaaGreatDoor.rdS
  cases t.lv k with
  | none=> exact h
  | some x=>
    dsimp only
    split
    · exact h
    · exact h.tou0 U
theorem XL.rds (h:XL A ids obs): ∀l:List KD,XL (l.foldl (Go.Proofs.YtkcjfoaejijdoaaGreatDoor.rdS p t) A) ids obs:= fun l=> by
  induction l generalizing A with
  | nil=> exact h
  | cons k l ih=> exact ih h.rdS
theorem XL.drops (h:XL A ids obs): ∀ks:List Bs,(∀o∈ks,o∈obs)→XL (ks.foldl (Js p) A) ids obs:= fun ks=> by
  induction ks generalizing A with
  | nil=> exact fun _=>h
  | cons o ks ih=>
    intro hk
    refine ih ?_ fun q hq=>hk q (List.mem_cons_of_mem _ hq)
    unfold Js
    split
    · exact h.pres
    · exact h.dropT (fun _ q=>q) (hk o List.mem_cons_self)
theorem XL.gvS {A0:LvA} (h:XL A ids obs):XL (gvS A0 p t A k) ids obs:= by
  unfold Go.Proofs.YtkcjfoaejijdoaaGreatDoor.gvS
  cases t.lv k with
  | none=> exact h
  | some x=>
    dsimp only
    split
    · exact h
    · split
      · exact h.pres
      · exact h.tou (r:=x.wr) U
theorem XL.gvs {A0:LvA} (h:XL A ids obs): ∀l:List KD,XL (l.foldl (Go.Proofs.YtkcjfoaejijdoaaGreatDoor.gvS A0 p t) A) ids obs:= fun l=> by
  induction l generalizing A with
  | nil=> exact h
  | cons k l ih=> exact ih h.gvS
theorem XL.com (h:XL A ids obs) (ht:A.tr id=some t) (hk: ∀o∈ks,t.dr o=true):XL (PZ A id t l ks) ids obs:= by
  unfold PZ
  refine(XL.gvs (XL.drops ?_ ks fun o ho=>h.obs id t o ht (hk o ho)) l).del
  split
  · exact h
  · exact h.rds l
theorem XL.cpRd (h:XL A ids obs) {q:Int}:XL (cpRd id ob A q) ids obs:= by
  unfold Go.Proofs.YtkcjfoaejijdoaaGreatDoor.cpRd
  split
  · exact h.tou0 U
  · exact h
theorem XL.cpRf (h:XL A ids obs) {q:Int}: ∀n,XL (cpRf id ob q A n) ids obs
  | 0=>h
  | n+1=>(XL.cpRf h n).cpRd
theorem XL.cpWr (h:XL A ids obs) {q:KD×Bs}:XL (cpWr id A q) ids obs:= by
  unfold Go.Proofs.YtkcjfoaejijdoaaGreatDoor.cpWr
  split
  · exact h.pres
  · exact h.put fun _ _ _=>rfl
theorem XL.cpWf (h:XL A ids obs) {q:Int} {f:Nat→Bs}: ∀n,XL (cpWf id A ob q f n) ids obs
  | 0=>h
  | n+1=>(XL.cpWf h n).cpWr
end
def XA (A:LvA) (i:Nat):Prop:= ∃ids obs,ids.length≤i∧obs.length≤i∧XL A ids obs
theorem XA.up {A A':LvA} {i:Nat} (h:XA A i) (hq: ∀ids obs,XL A ids obs→XL A' ids obs):XA A' (i+1):= by
  obtain⟨ids,obs,h1,h2,h3⟩:=h
  exact⟨ids,obs, by omega, by omega,hq _ _ h3⟩
theorem XA.beg {A:LvA} {i:Nat} (h:XA A i) {id p:Int}:XA (Bx A id p) (i+1):= by
  obtain⟨ids,obs,h1,h2,h3⟩:=h
  exact⟨id::ids,obs, by simp;omega, by omega,h3.beg⟩
theorem XA.drop {A:LvA} {i:Nat} (h:XA A i) {id:Int} {ob:Bs}:XA (dropT A id ob) (i+1):= by
  obtain⟨ids,obs,h1,h2,h3⟩:=h
  exact⟨ids,ob::obs, by omega, by simp;omega,h3.dropT (fun o ho=>List.mem_cons_of_mem _ ho) List.mem_cons_self⟩
theorem XA.mono {A:LvA} {i j:Nat} (h:XA A i) (hj:i≤j):XA A j:= by
  obtain⟨ids,obs,h1,h2,h3⟩:=h
  exact⟨ids,obs, by omega, by omega,h3⟩
theorem XA.new:XA PA 0:=⟨[],[],Nat.le_refl _,Nat.le_refl _,⟨(fun i t k x h=> by cases h),(fun j h=>absurd U h),(fun j t ob h=> by cases h)⟩⟩
theorem XA.drle {A:LvA} {i:Nat} (h:XA A i) {id:Int} {t:TrA} (ht:A.tr id=some t):DrLe t i:= by
  obtain⟨ids,obs,h1,h2,h3⟩:=h
  exact⟨obs,h2, fun ob hd=>h3.obs id t ob ht hd⟩
theorem XA.dra {A:LvA} {i:Nat} (h:XA A i):DrA A:= by
  obtain⟨ids,obs,h1,h2,h3⟩:=h
  exact h3.dr
def LxP (p i:Nat) (A:LvA) (L:LvD) (V:VS):Prop:=L.sp=p∧LvI i L V∧Q1 L V=A∧SzLe L (512*i)∧XA A i
def Kz (b p Fr n i:Nat) (A:LvA):Th:=Cw fun L=>Cw fun V=>starL [Yc (LxP p i A L V),XX b L,XD L.sp n Fr V]
section
variable {w:World} {b p Fr n i:Nat} {A:LvA} {As:List Th}
theorem WI (h:Sat w (Kz b p Fr n i A::As)): ∃L V,LxP p i A L V∧Sat w (XX b L::XD L.sp n Fr V::As):= by
  obtain⟨L,h⟩:=h.ex
  obtain⟨V,h⟩:=h.ex
  have h:=h.flat
  dsimp only[Gl,Gk]at h
  obtain⟨hp,h⟩:=h.pure_elim
  exact⟨L,V,hp,h⟩
theorem Zn {L:LvD} {V:VS} (hp:LxP p i A L V) (h:Sat w (XX b L::XD L.sp n Fr V::As)):Sat w (Kz b p Fr n i A::As):=
  Sat.ex_intro L (Sat.ex_intro V (Sat.fold (As:=[Yc (LxP p i A L V),XX b L,XD L.sp n Fr V]) (Sat.pure_intro hp h)))
theorem LvI.upm {m m':Nat} {L:LvD} {V:VS} (h2:LvI m L V) (hm:m≤m'):LvI m' L V:=⟨h2.ref,(by obtain⟨h0,r,a,b⟩:=h2.rank; exact⟨h0,r, fun i=>Nat.le_trans (a i) hm,b⟩),h2.agree⟩
theorem Wv {n':Nat} (hn:n≤n') (h:Sat w (Kz b p Fr n i A::As)):Sat w (Kz b p Fr n' i A::As):= by
  obtain⟨L,V,hp,h⟩:=WI h
  exact Zn hp ((Xn hn (h.perm (List.Perm.swap _ _ _))).perm (List.Perm.swap _ _ _))
theorem Jj {n':Nat} (hn:n≤n') (h:Sat w (Kz b p Fr n i A::As)):Sat w (Kz b p Fr n' (i+1) A::As):= by
  obtain⟨L,V,⟨h1,h2,h3,h4,h5⟩,h⟩:=WI (Wv hn h)
  exact Zn ⟨h1,h2.upm (by omega),h3,h4.mono (by omega),h5.mono (by omega)⟩ h
theorem WZ {L L':LvD} {V V':VS} {A A':LvA} {m d e:Nat} (hp:LxP p i A L V) (hs:StepI i L V m d e L' V') (hm:m≤i+1) (he:e≤512) (ha:Q1 L' V'=A') (hx:XA A' (i+1)) (h:Sat w (XX b L'::XD L'.sp n Fr V'::As)):Sat w (Kz b p Fr n (i+1) A'::As):= by
  obtain⟨h1,h2,h3,h4,h5⟩:=hp
  exact Zn ⟨hs.sp.trans h1,hs.inv.upm hm,ha,(hs.sz _ h4).mono (by omega),hx⟩ h
end
