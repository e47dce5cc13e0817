/- leaves: Copy in a trial -/
import Derived.Test.YtkcjfoaejijdoaaGreatDoorLv27
import Derived.Shelf.Spec.TrailingZeros
set_option linter.unusedVariables false
set_option maxRecDepth 100000
set_option maxHeartbeats 1600000
namespace Go.Proofs.YtkcjfoaejijdoaaGreatDoor
open Go.RowKit M
noncomputable def CQ (id:Int) (ob:Bs) (p0:Int) (A:LvA):Nat→LvA
  | 0=>A
  | q+1=>Tf id ob (CQ id ob p0 A q) (p0+(q:Int))
noncomputable def VM (id:Int) (A:LvA) (to:Bs) (base:Int) (f:Nat→Bs):Nat→LvA
  | 0=>A
  | q+1=>Gh id (VM id A to base f q) ((to,base+(q:Int)),f q)
theorem Dj {id:Int} {ob:Bs} {p0:Int} {A:LvA} (ht: ∃t,A.tr id=some t): ∀q,∃t,(CQ id ob p0 A q).tr id=some t
  | 0=>ht
  | q+1=>cpRd_tr (Dj ht q)
theorem T8 {id:Int} {ob:Bs} {p0:Int} {A:LvA} (ht: ∃t,A.tr id=some t) (j:KD): ∀q,ZT (CQ id ob p0 A q) id j=ZT A id j
  | 0=>rfl
  | q+1=> by
    obtain⟨t,h⟩:=Dj (ob:=ob) (p0:=p0) ht q
    exact(En (fun _=>h) j).trans (T8 ht j q)
section
variable {ex ex':Int→Int} {m e j:Nat} {L L1 L2:LvD} {V V1 V2:VS} {id p0 p s:Int} {t t2:TrD} {ob to:Bs} {l:List Int} {y:LfD} {A0:LvA}
structure CtI (ex:Int→Int) (m:Nat) (L L1:LvD) (V V1:VS) (id:Int) (ob:Bs) (p0:Int) (l:List Int) (j:Nat):Prop where
  inv:LvX ex m L1 V1
  no:NoI ex l
  len:l.length=j
  sp:L1.sp=L.sp
  ab:QG L1 V1=CQ id ob p0 (QG L V) j
  al: ∀c,AliveLe V c→AliveLe V1 c
  sz: ∀c,SzLe L c→SzLe L1 (c+j)
  pg:Pgs V V1
  con: ∀q,q<j→Za V1 (l.getD q 0)=cpC (QG L V) id ob (p0+(q:Int))
theorem CtI.start (hI:LvI m L V):CtI (fun _=>0) m L L V V id ob p0 [] 0:=⟨hI, fun _ _=>rfl,rfl,rfl,rfl, fun _ q=>q, fun _ q=>q,.refl, fun q h=> by omega⟩
theorem CtI.get (h:CtI ex m L L1 V V1 id ob p0 l j) (ht:L.tr id=some t): ∃u,L1.tr id=some u:= by
  obtain⟨u,hu⟩:=Dj (ob:=ob) (p0:=p0) ⟨_,Z1 (V:=V) ht⟩ j
  rw[←h.ab]at hu
  obtain⟨u,hu,_⟩:=Uh hu
  exact⟨u,hu⟩
theorem CtI.next (h:CtI ex m L L1 V V1 id ob p0 l j) (hs:StepX ex m L1 V1 ex m 0 1 L2 V2) (ha:XW V2 s) (hab:QG L2 V2=Tf id ob (CQ id ob p0 (QG L V) j) (p0+(j:Int))) (hpg: ∀q,Za V2 q=Za V1 q) (hc:Za V2 s=cpC (QG L V) id ob (p0+(j:Int))):
    CtI (fun q=>ex q+dl s q) m L L2 V (H7 V2 s) id ob p0 (l++[s]) (j+1):= by
  obtain⟨h1,h2,h3⟩:=US hs.inv h.no ha
  refine⟨h1.inv,h2, by rw[List.length_append,h.len];rfl,hs.sp.trans h.sp,h3.trans hab, fun c q=>h1.al _ (hs.al c (h.al c q)), fun c q=> by have :=h1.sz _ (hs.sz _ (h.sz c q)); exact this,(h.pg.trans hs.pg).trans h1.pg, fun q hq=> ?_⟩
  rw[O5 hs.inv.zero,Yt]
  by_cases e:q=j
  · subst e
    rw[show(l++[s]).getD q 0=s by simp [List.getD,←h.len]]
    exact hc
  · rw[show(l++[s]).getD q 0=l.getD q 0 by simp [List.getD,List.getElem?_append_left (show q<l.length by rw[h.len];omega)],hpg]
    exact h.con q (by omega)
theorem CtI.in_ (h:CtI ex m L L1 V V1 id ob p0 l j) (ht:L.tr id=some t) (h0:id≠0) (ht1:L1.tr id=some t2) {x1:LfD} {t1:TrD} (hp:0≤p0+(j:Int)∧p0+(j:Int)<256) (hT:TouR L1 V1 id t2 (ob,p0+(j:Int)) L2 V2 t1 x1):
    CtI (fun q=>ex q+dl x1.own q) m L (Zy L2 id t1 (ob,p0+(j:Int)) {x1 with rd:=x1.rd ||| (BitVec.allOnes 64&&& ~~~x1.wr)}) V (H7 V2 x1.own) id ob p0 (l++[x1.own]) (j+1):= by
  obtain⟨a1,a2⟩:=qa9 hT ht1 h.inv h.no.nn
  obtain⟨b1,b2,b3,b4,b5⟩:=hT.invX ht1 h.inv h.no.nn
  have hx1:=hT.lv
  have hal:XW V2 x1.own:= by
    have :=a1.inv.aliveX h.no.nn (.inr (id,(ob,p0+(j:Int)),true))
    rw[XG DP Q7]at this
    exact this
  have htA: ∃t,(QG L V).tr id=some t:=⟨_,Z1 ht⟩
  refine h.next a1 hal ?_ hT.pg ?_
  · rw[a2,h.ab]
    unfold Tf
    rw[if_pos ⟨h0,hp.1,hp.2⟩]
  · have e1:Za V2 x1.own=(Zo (QG L1 V1) id (ob,p0+(j:Int))).own:= by rw[←b2];rfl
    obtain⟨u,hu⟩:=Dj (ob:=ob) (p0:=p0) htA j
    rw[e1,h.ab,BM h0 hu,T8 htA]
    unfold cpC
    rw[if_pos hp]
theorem CtI.out (h:CtI ex m L L1 V V1 id ob p0 l j) (hp: ¬(0≤p0+(j:Int)∧p0+(j:Int)<256)):CtI (fun q=>ex q+dl 0 q) m L L1 V (H7 V1 0) id ob p0 (l++[0]) (j+1):= by
  refine h.next (StepX.refl h.inv) (.inl rfl) ?_ (fun _=>rfl) ?_
  · rw[h.ab]
    unfold Tf
    rw[if_neg (fun q=>hp q.2)]
  · unfold cpC
    rw[if_neg hp,Ww h.inv.zero]
theorem Lj {id:Int} {to:Bs} {base:Int} {A:LvA} {f:Nat→Bs} (ht: ∃t,A.tr id=some t): ∀q,∃t,(VM id A to base f q).tr id=some t
  | 0=>ht
  | q+1=> by
    obtain⟨t,h⟩:=Lj (to:=to) (base:=base) (f:=f) ht q
    show ∃u,(Gh id _ _).tr id=some u
    unfold Gh
    split
    · exact⟨t,h⟩
    · exact⟨_, by rw[ZY h]; exact Q7⟩
end
theorem MC {id:Int} {A:LvA} {to:Bs} {base:Int} {f g:Nat→Bs}: ∀q,(∀i,i<q→f i=g i)→VM id A to base f q=VM id A to base g q
  | 0,_=>rfl
  | q+1,h=> by
    show Gh id (VM id A to base f q) _=Gh id (VM id A to base g q) _
    rw[MC q fun i hi=>h i (by omega),h q (by omega)]
theorem Cb {A:LvA} {to:Bs} {base:Int} {f:Nat→Bs}: ∀q,Aj A to base f q=VM 0 A to base f q
  | 0=>rfl
  | q+1=> by
    show Gh 0 (Aj A to base f q) _=Gh 0 (VM 0 A to base f q) _
    rw[Cb q]
theorem qae {w:World} {m:Nat} {b n Fr:Nat} {L:LvD} {V:VS} {F:Th} (hS:Sat w [We b L,Zw L.sp n Fr V,F]) (hn:n+2100≤600000000) (hI:LvI m L V) (hm:m<Zv) {id:Int} {t:TrD} (ht:L.tr id=some t) (ob to:Bs) (first cnt aa:Int) (hf: -2147483648≤first∧first≤2147483648) (ha: -2147483648≤aa∧aa≤2147483648) (hc: -2147483648≤cnt∧cnt≤300):
    Calls Tryz.prog 41 #[ptrV b 0,intV id,strV ob,intV first,intV cnt,strV to,intV aa] w (Ret fun v w'=> ∃L' V' q,StepI m L V m 0 512 L' V'∧QG L' V'=VM id (CQ id ob (first+max 0 (-aa)) (QG L V) q) to (aa+max 0 (-aa)) (fun i=>cpC (QG L V) id ob (first+max 0 (-aa)+(i:Int))) q∧(max 0 (-aa)+(q:Int)=min cnt (256 -aa)∨(q=0∧min cnt (256 -aa)≤max 0 (-aa)))∧Sat w' [We b L',Zw L'.sp (n+2100) Fr V',F]):= by
 have h0:id≠0:=hI.rank.none0 ht
 refine Qr Tryz.func41 rfl Tryz.ntmps41 rfl ?_
 refine Qd (Qd (Qa (Qb rfl rfl (Qb rfl rfl (qac Hf rfl (Jh (hS.sp [0] rfl) id) rfl ?_)))))
 rintro _ w1 ⟨rfl,hS1⟩
 replace hS1:=hS1.jn rfl rfl
 refine QX rfl rfl (Qf (Qc (Qi [6,5,4,3,2,1,0,27] rfl (QQ rfl (fun h2=> ?_) (fun h2=> ?_)))))
 ·exact absurd h2 (by simp [ZE,ht])
 refine Qs (Qc (Qd (Qa (Qb rfl rfl (AG rfl (by omega) (by omega) rfl ?_)))))
 refine Yl rfl rfl rfl (Qb rfl rfl (Qb rfl rfl (Hj rfl rfl (by omega) (by omega) rfl ?_)))
 refine HN rfl rfl rfl (Qe rfl rfl (Qe rfl rfl (Qf (Qc (Qi [6,5,3,2,1,0,14,15] rfl (Qd (Qa (Qe rfl rfl (Qf (Qc (Qd (Qd (Qa (Qb rfl rfl (Qe rfl rfl (Qf (Qc (Qx ?_))))))))))))))))))
 have hrn:=hS1.row_nil inC
 refine Xk (fun K0 E0 W0=> ∃(j:Nat) (L1:LvD) (V1:VS) (ex:Int→Int) (l:List Int) (nv:Value),K0=((min cnt (256 -aa)) -(max 0 (-aa))).toNat -j∧E0=[(0,ptrV b 0),(1,intV id),(2,strV ob),(3,intV first),(5,strV to),(6,intV aa),(14,intV (max 0 (-aa))),(15,intV (min cnt (256 -aa))),(16,nv),(17,intV ((max 0 (-aa))+(j:Int)))]∧Sat W0 [We b L1,Zw L1.sp (n+3*j) Fr V1,rowT inC nv l,F]∧(j≤256)∧(j=0∨(max 0 (-aa))+(j:Int)≤(min cnt (256 -aa)))∧(CtI ex m L L1 V V1 id ob (first+(max 0 (-aa))) l j)) (L0:=[(0,_),(1,_),(2,_),(3,_),(5,_),(6,_),(14,_),(15,_),(16,_),(17,_)]) (((min cnt (256 -aa)) -(max 0 (-aa))).toNat) (KJ rfl rfl rfl rfl rfl rfl rfl rfl rfl rfl) ⟨0,L,V, fun _=>0,[],_, by omega, by simp,hrn.pick [1,2,0,3] rfl, by omega,.inl rfl,CtI.start hI⟩ ?_
 rintro _ _ w3 ⟨j,L1,V1,ex,l,nv,rfl,rfl,hS3,hjb,hj,hct⟩
 refine Qd (Qd (Qa (Qb rfl rfl (Qb rfl rfl (Xh rfl rfl rfl (Qf (Qc (Qt rfl (fun h4=> ?_) (fun h4=> ?_)))))))))
 ·refine Qs (Qc (Qi [17,16,15,14,6,5,3,2,1,0] rfl (Qd (Qx (Qd (Qa (Qe rfl rfl (Qf (Qc (Qd (Qd (Qa (Qb rfl rfl (Qb rfl rfl (QP rfl rfl (by omega) (by omega) rfl ?_)))))))))))))))
  refine Qe rfl rfl (Qf (Qc (Qi [17,16,15,14,6,5,3,2,1,0,18,19] rfl (Qd (Qa (Qb rfl rfl (JN rfl rfl rfl (Qb rfl rfl (QR 46 rfl (fun h5=> ?_) (fun h5=> ?_))))))))))
  ·refine Qj rfl rfl (Xc h5) (Qb rfl rfl (Qj rfl rfl (Xc h5) (Xh rfl rfl rfl (QI rfl (Xc h5) rfl rfl (Qf (Qc (Qi [17,16,15,14,6,5,3,2,1,0,18,19,49] rfl (Qt rfl (fun h6=> ?_) (fun h6=> ?_)))))))))
   ·refine Qd (Qa (Qb rfl rfl (Qb rfl rfl (Zr rfl Yh Ui ZS rfl rfl (Xm hS3 ZS rfl rfl ?_)))))
    intro kb wk7 hk7
    clear hS3
    refine Xe hk7 rfl rfl Xn rfl (by rfl) (i:=0) rfl (by decide) ?_
    intro wk8 hk8; dsimp only[List.set]at hk8
    clear hk7
    replace hk8:=XT (k:=(ob,first+((max 0 (-aa))+(j:Int)))) hk8
    dsimp only at hk8; rw[show first+((max 0 (-aa))+(j:Int))=(first+(max 0 (-aa)))+(j:Int) from(Int.add_assoc _ _ _).symm]at hk8
    refine Qf (Qc (Qi [17,16,15,14,6,5,3,2,1,0,18,20] rfl (Qd (Qd (Qa (Qb rfl rfl (X6 rfl rfl rfl (Qf (Qc (Qt rfl (fun h9=> ?_) (fun h9=> ?_)))))))))))
    ·refine Qd ?_
     obtain⟨t1,ht1⟩:=hct.get ht
     refine Qa (Qb rfl rfl (Qb rfl rfl (XF rfl XE Xn (by first | exact hk8.blk 0 rfl) (XJ rfl) rfl rfl ?_)))
     have hC10:=hk8.sp [1,2] rfl
     refine qac Be rfl (Up hC10 (by omega) (hct.inv.rank.ends hm) ht1 (k:=(ob,(first+(max 0 (-aa)))+(j:Int)))) rfl ?_
     rintro _ w10 ⟨L2,V2,t2,x1,rfl,hT,hS10⟩
     replace hS10:=hS10.jn rfl rfl; clear hC10
     clear hk8
     have ht2:=hT.tr ht1
     have hx2:=hT.lv
     refine Qe rfl rfl (Qf (Qc (Qi [17,16,15,14,6,5,3,2,1,0,18,20,21] rfl ?_)))
     have hS11:=Yw ht2 hx2 (hS10.pick [0,1,2,3,4] rfl)
     have hS12:=hS11.drew
     refine QO [0,1,2,3,4,5,6,7,8,9,10,11,12] [12] Wu (by kernel_rfl) ?_
     refine QJ rfl rfl rfl (Xr rfl rfl rfl (QZ rfl rfl rfl YP (QH rfl rfl rfl (Qn rfl Y2 (hS12.cell 0 rfl rfl)) (QJ rfl rfl rfl (Xr rfl rfl rfl (QZ rfl rfl rfl WD (QH rfl rfl rfl (Qn rfl Y2 (hS12.cell 0 rfl rfl)) (Xa rfl rfl rfl (fun _=>(VG (a:=BitVec.allOnes 64) rfl rfl)) ?_))))))))
     refine Xa rfl rfl rfl (fun _=>(Gc rfl rfl)) ?_
     refine Xr rfl rfl rfl (QZ rfl rfl rfl YP (Xp rfl rfl rfl rfl rfl rfl (Xt hS12 rfl rfl Bu rfl (i:=0) rfl (XJ rfl) ?_)))
     intro w13 hS13; dsimp only[List.set]at hS13
     clear hS12
     refine Z3 (Xx (by kernel_rfl)) ?_
     refine VC.nil (Qc (Qi [17,16,15,14,6,5,3,2,1,0,18,20] rfl ?_))
     have hS14:=Jf (L:=L2) (y:={x1 with rd:=x1.rd ||| (BitVec.allOnes 64&&& ~~~x1.wr)}) ht2 hx2 rfl (hS13.pick [0,1,2,3,4,5,6,7,8,9,10,11,12,13] rfl)
     have hct2:=hct.in_ ht h0 ht1 (by omega) hT
     refine Qa (Qb rfl rfl (Qb rfl rfl (XF rfl XE Xn (by first | exact hS14.blk 2 rfl) (XJ rfl) rfl rfl ?_)))
     refine qac YG rfl (Yq (hS14.sp [0] rfl) (hct2.inv.rank.ends hm) id (ob,(first+(max 0 (-aa)))+(j:Int))) rfl ?_
     rintro _ w15 ⟨rfl,hS15⟩
     replace hS15:=hS15.jn rfl rfl
     clear hS14
     rw[DQ h0]
     refine Qe rfl rfl (Qf (Qc (Qi [17,16,15,14,6,5,3,2,1,0,18] rfl (Qd (Qa (Qb rfl rfl (Qk rfl rfl (Qg rfl XM rfl (Qp rfl Xu (J9 hS15 0 rfl) rfl (Qb rfl rfl (qac UZ rfl (DM (hS15.sp [1] rfl) (by omega) (x1.own)) rfl ?_)))))))))))
     rintro _ w16 ⟨e0,rfl,hS16⟩
     replace hS16:=hS16.jn rfl rfl
     clear hS15
     refine Qf (Qc (Qi [17,16,15,14,6,5,3,2,1,0,18] rfl (Qa (Qb rfl rfl (Qb rfl rfl (ZA inC [x1.own] hS16 rfl Tryz.underlying47 Vj rfl rfl rfl rfl (by rfl) rfl ?_))))))
     intro b17 w17 hS17
     clear hS16
     refine W8 inC 4 hS17 rfl rfl rfl (hS17.rd 0 rfl (by simp)) Tryz.underlying47 Tryz.underlying47 (by intro k hk; cases hk) KE rfl (by simp only[hct.len,List.length_cons,List.length_nil];omega) rfl (by simp only[hct.len,List.length_cons,List.length_nil];omega) ?_
     intro v18 w18 hS18; dsimp only[List.set]at hS18
     clear hS17
     have h1v18:v18.oneCell'=true:=hS18.own_one 4 rfl
     refine Qe rfl rfl (Qf (Qm (Qc (Qi [17,15,14,6,5,3,2,1,0,16] rfl (Qa (Qb rfl rfl (QP rfl rfl (by omega) (by omega) rfl ?_)))))))
     refine Qe rfl rfl (Qf ?_)
     exact QE (L1:=[(0,_),(1,_),(2,_),(3,_),(5,_),(6,_),(14,_),(15,_),(16,_),(17,intV ((max 0 (-aa))+(j:Int)+1))]) (KJ rfl rfl rfl rfl rfl rfl rfl rfl rfl rfl) (k1:=((min cnt (256 -aa)) -(max 0 (-aa))).toNat -(j+1)) (by omega) ⟨j+1,_,_,_,_,_,rfl,(by rw[show(max 0 (-aa))+((j+1:Nat):Int)=(max 0 (-aa))+(j:Int)+1 by omega]),(X7 (m:=n+3*(j+1)) (by omega) (hS18.pick [1,2,4,5] rfl)).reorder [1,0,2,3] rfl, by omega, by omega,hct2⟩
    exact absurd (Decidable.not_not.1 h9) h0
   refine Qs (Qc (Qd (Qa (Qb rfl rfl (Qk rfl rfl (Qg rfl XM rfl (Qp rfl Xu (J9 hS3 0 rfl) rfl (Qb rfl rfl (qac UZ rfl (DM (hS3.sp [1] rfl) (by omega) (0)) rfl ?_)))))))))
   rintro _ w19 ⟨e0,rfl,hS19⟩
   replace hS19:=hS19.jn rfl rfl
   clear hS3
   refine Qf (Qc (Qi [17,16,15,14,6,5,3,2,1,0,18] rfl (Qa (Qb rfl rfl (Qb rfl rfl (ZA inC [0] hS19 rfl Tryz.underlying47 Vj rfl rfl rfl rfl (by rfl) rfl ?_))))))
   intro b20 w20 hS20
   clear hS19
   refine W8 inC 3 hS20 rfl rfl rfl (hS20.rd 0 rfl (by simp)) Tryz.underlying47 Tryz.underlying47 (by intro k hk; cases hk) KE rfl (by simp only[hct.len,List.length_cons,List.length_nil];omega) rfl (by simp only[hct.len,List.length_cons,List.length_nil];omega) ?_
   intro v21 w21 hS21; dsimp only[List.set]at hS21
   clear hS20
   have h1v21:v21.oneCell'=true:=hS21.own_one 3 rfl
   refine Qe rfl rfl (Qf (Qm (Qc (Qi [17,15,14,6,5,3,2,1,0,16] rfl (Qa (Qb rfl rfl (QP rfl rfl (by omega) (by omega) rfl ?_)))))))
   exact Qe rfl rfl (Qf (QE (L1:=[(0,_),(1,_),(2,_),(3,_),(5,_),(6,_),(14,_),(15,_),(16,_),(17,intV ((max 0 (-aa))+(j:Int)+1))]) (KJ rfl rfl rfl rfl rfl rfl rfl rfl rfl rfl) (k1:=((min cnt (256 -aa)) -(max 0 (-aa))).toNat -(j+1)) (by omega) ⟨j+1,_,_,_,_,_,rfl,(by rw[show(max 0 (-aa))+((j+1:Nat):Int)=(max 0 (-aa))+(j:Int)+1 by omega]),(X7 (m:=n+3*(j+1)) (by omega) (hS21.pick [1,2,3,4] rfl)).reorder [1,0,2,3] rfl, by omega, by omega,hct.out (by omega)⟩))
  refine Qh rfl rfl (Q6 h5) rfl (Qh rfl rfl (Q6 h5) rfl (QL rfl (Q6 h5) rfl rfl (Qf (Qc (Qi [17,16,15,14,6,5,3,2,1,0,18,19,49] rfl (Xb rfl (Qs (Qc (Qd (Qa (Qb rfl rfl (Qk rfl rfl (Qg rfl XM rfl (Qp rfl Xu (J9 hS3 0 rfl) rfl (Qb rfl rfl (qac UZ rfl (DM (hS3.sp [1] rfl) (by omega) (0)) rfl ?_))))))))))))))))
  rintro _ w22 ⟨e0,rfl,hS22⟩
  replace hS22:=hS22.jn rfl rfl
  clear hS3
  refine Qf (Qc (Qi [17,16,15,14,6,5,3,2,1,0,18] rfl (Qa (Qb rfl rfl (Qb rfl rfl (ZA inC [0] hS22 rfl Tryz.underlying47 Vj rfl rfl rfl rfl (by rfl) rfl ?_))))))
  intro b23 w23 hS23
  clear hS22
  refine W8 inC 3 hS23 rfl rfl rfl (hS23.rd 0 rfl (by simp)) Tryz.underlying47 Tryz.underlying47 (by intro k hk; cases hk) KE rfl (by simp only[hct.len,List.length_cons,List.length_nil];omega) rfl (by simp only[hct.len,List.length_cons,List.length_nil];omega) ?_
  intro v24 w24 hS24; dsimp only[List.set]at hS24
  clear hS23
  have h1v24:v24.oneCell'=true:=hS24.own_one 3 rfl
  refine Qe rfl rfl (Qf (Qm (Qc (Qi [17,15,14,6,5,3,2,1,0,16] rfl (Qa (Qb rfl rfl (QP rfl rfl (by omega) (by omega) rfl ?_)))))))
  exact Qe rfl rfl (Qf (QE (L1:=[(0,_),(1,_),(2,_),(3,_),(5,_),(6,_),(14,_),(15,_),(16,_),(17,intV ((max 0 (-aa))+(j:Int)+1))]) (KJ rfl rfl rfl rfl rfl rfl rfl rfl rfl rfl) (k1:=((min cnt (256 -aa)) -(max 0 (-aa))).toNat -(j+1)) (by omega) ⟨j+1,_,_,_,_,_,rfl,(by rw[show(max 0 (-aa))+((j+1:Nat):Int)=(max 0 (-aa))+(j:Int)+1 by omega]),(X7 (m:=n+3*(j+1)) (by omega) (hS24.pick [1,2,3,4] rfl)).reorder [1,0,2,3] rfl, by omega, by omega,hct.out (by omega)⟩))
 refine QY (Qq (Qq (Q0 (Qc (Qi [16,14,6,5,1,0] rfl (Qd ?_))))))
 obtain⟨an,cn,hvn,_⟩:=hS3.own_shape 2 rfl; obtain rfl:=hvn
 refine Qa (Qb rfl rfl (XA Tryz.underlying47 rfl rfl (Qb rfl rfl (Qf (Qc (Qx ?_))))))
 have hln:=hct.len
 refine Xk (fun K0 E0 W0=> ∃(q:Nat) (L2:LvD) (V2:VS) (ex2:Int→Int),K0=j -q∧E0=[(0,ptrV b 0),(1,intV id),(5,strV to),(6,intV aa),(14,intV (max 0 (-aa))),(85,.slice an l.length cn),(86,intV (l.length:Int)),(87,intV (q:Int))]∧Sat W0 [We b L2,Zw L2.sp (n+3*j+5*q) Fr V2,rowT inC (.slice an l.length cn) l,F]∧(q≤j)∧(LvX ex2 m L2 V2)∧(NoI ex2 (l.drop q))∧(L2.sp=L.sp)∧(QG L2 V2=VM id (QG L1 V1) to (aa+(max 0 (-aa))) (fun q=>Za V1 (l.getD q 0)) q)∧(∀c,AliveLe V c→AliveLe V2 c)∧(∀c,SzLe L c→SzLe L2 (c+j+q))∧(Pgs V1 V2)) (L0:=[(0,_),(1,_),(5,_),(6,_),(14,_),(85,_),(86,_),(87,_)]) (j) (LH rfl rfl rfl rfl rfl rfl rfl rfl) ⟨0,L1,V1,ex,rfl,rfl,hS3.pick [0,1,2,3] rfl, by omega,hct.inv,hct.no,hct.sp,rfl,hct.al,hct.sz,.refl⟩ ?_
 rintro _ _ w25 ⟨q,L2,V2,ex2,rfl,rfl,hS25,hq,hI2,hno2,hsp,hab2,hal2,hsz2,hpg2⟩
 refine Qd (Qa (Xh rfl rfl rfl (Qf (Qc (Qd (Qt rfl (fun h26=> ?_) (fun h26=> ?_)))))))
 ·obtain⟨s,hs⟩: ∃s,l[q]? =some s:=⟨_,Zj (by have :=hct.len;omega)⟩; rw[Ca hs]at hno2; have hsa:=hI2.held (s:=s) fun h0=>hno2.ge h0; obtain⟨t2,ht2⟩: ∃u,L2.tr id=some u:= by obtain⟨t1,ht1⟩:=hct.get ht; obtain⟨u,hu⟩:=Lj (to:=to) (base:=(aa+(max 0 (-aa)))) (f:=(fun q=>Za V1 (l.getD q 0))) ⟨_,Z1 (V:=V1) ht1⟩ q; rw[←hab2]at hu; obtain⟨u2,hu2,_⟩:=Uh hu; exact⟨u2,hu2⟩
  refine Qs (Qc (Qd (Qx (Qd (Qa (Qb rfl rfl (X0 inC 2 q hS25 rfl rfl rfl (by rfl) hs Gf rfl ?_)))))))
  intro bx27 capx27 hvx27
  refine Z7 2 q 0 hS25 rfl hvx27 rfl rfl hs QS rfl rfl (Qe rfl rfl (Qe rfl rfl (Qf (Qc (Qi [87,86,85,14,6,5,1,0,22,23] rfl (Qd (Qa (Qb rfl rfl (Qb rfl rfl (Qb rfl rfl (Qb rfl rfl (Qb rfl rfl (QP rfl rfl (by omega) (by omega) rfl ?_)))))))))))))
  refine Qb rfl rfl (QP rfl rfl (by omega) (by omega) rfl ?_)
  refine Zr rfl Yh Ui ZS rfl rfl (Qb rfl rfl (qac LA rfl (Pb (hS25.sp [0,1] rfl) (by omega) hI2 hno2.nn hm ht2 hsa (to,(aa+(max 0 (-aa)))+(q:Int))) rfl ?_))
  rintro _ w28 ⟨L3,V3,hr1,hr2,hS28⟩
  replace hS28:=hS28.jn rfl rfl
  clear hS25
  refine Qf (Qc (Qi [87,86,85,14,6,5,1,0,23] rfl (Qa (Qb rfl rfl (Qk rfl rfl (Qg rfl XM rfl (Qp rfl Xu (J9 hS28 0 rfl) rfl (Qb rfl rfl (qac Gn rfl (R1 (hS28.sp [1] rfl) (by omega) s) rfl ?_)))))))))
  rintro _ w29 ⟨e0,rfl,hS29⟩
  replace hS29:=hS29.jn rfl rfl
  clear hS28
  refine Qf (Qm (Qc (Qi [87,86,85,14,6,5,1,0] rfl (Qa (QP rfl rfl (by omega) (by omega) rfl ?_)))))
  refine Qb rfl rfl (Qf ?_)
  obtain⟨hu1,hu2,hu3⟩:=Rw hr1.inv hno2
  exact QE (L1:=[(0,_),(1,_),(5,_),(6,_),(14,_),(85,_),(86,_),(87,intV ((q+1:Nat):Int))]) (LH rfl rfl rfl rfl rfl rfl rfl rfl) (k1:=j -(q+1)) (by omega) ⟨q+1,_,_,_,rfl,rfl,hS29.pick [1,0,2,3] rfl, by omega,hu1.inv,hu2,hu1.sp.trans (hr1.sp.trans hsp), by rw[hu3,hr2,hab2,VM];unfold Gh; rw[if_neg h0]; dsimp only; rw[CC hs,(hpg2 s hsa).2], fun c q2=>hu1.al _ (hr1.al _ (hal2 c q2)), fun c q2=> by have :=hu1.sz _ (hr1.sz _ (hsz2 c q2)); exact this.mono (by omega),(hpg2.trans hr1.pg).trans hu1.pg⟩
 refine QY (Qq (Qq (Q0 (ZH (.inl rfl) rfl ?_))))
 have hln:=hct.len
 have hqj:q=j:= by omega
 subst hqj
 have hjj:q≤256:= by omega
 exact⟨_,rfl,L2,V2,q,⟨hI2.ext fun i hi=> by rw[hno2 i hi,List.drop_eq_nil_of_le (by rw[hct.len];omega)];rfl,hsp, fun c h=>(hal2 c h).mono (by omega), fun c h=>(hsz2 c h).mono (by omega)⟩, by rw[hab2,hct.ab]; exact MC q hct.con, by omega,(X7 (m:=n+2100) (by omega) (hS25.pick [1,0,3] rfl)).reorder [1,0,2] rfl⟩
theorem OB {p:KD→Int} {k:KD} {v:Value} (h:Zz p k=some v):p k≠0:= by
  intro e
  unfold Zz at h
  simp [e]at h
theorem OC {p:KD→Int} {k:KD} (h:p k≠0): ∃v,Zz p k=some v:= by
  unfold Zz
  exact⟨_, by simp [h];rfl⟩
theorem JF {κ:Type} {f:κ→Bool} {k j:κ}:JG f k j=true↔f j=true∨j=k:= by
  unfold JG
  by_cases e:j=k<;> simp [e]
theorem boG_in {κ:Type} {f:κ→Bool} {k:κ} (h:f k=true):Jl f k=some (.bool true):= by unfold Jl; rw[if_pos h]
theorem Sc {κ:Type} {f:κ→Bool} {k:κ} {v:Value} (h:Jl f k=some v):f k=true:= by
  unfold Jl at h
  split at h
  · assumption
  · cases h
def Sk (L:LvD) (k:KD):Prop:= ∃j,N3 L j k
theorem obj_up {L:LvD} {id i:Int} {m2:Nat} {t:TrD} {S S2:KD→Bool} (hse: ∀k,S k=false→Xi L id k=0∨Xi L id k=Jv L (m2+1+1) i k) (h0:i≠0) (ht:L.tr i=some t) (hsub: ∀k,S k=true→S2 k=true) (hall: ∀k,t.lv k≠none→S2 k=true):
    ∀k,S2 k=false→Xi L id k=0∨Xi L id k=Jv L (m2+1) t.parent k:= fun k hk=> by
  have h1:S k=false:= by
    cases q:S k with
    | false=>rfl
    | true=> rw[hsub k q]at hk; cases hk
  have h2:t.lv k=none:=Classical.byContradiction fun q=> by rw[hall k q]at hk; cases hk
  rcases hse k h1 with e | e
  · exact .inl e
  · cases hd:t.dr k.1 with
    | true=>left; rw[e,GK h0 ht h2 hd]
    | false=>right; rw[e,Cw h0 ht h2 hd]
theorem O8 {T:Int→Option TrD} {m:Nat} (h:RankI T m) {i:Int} {t:TrD} (ht:T i=some t):t.parent=0∨ ∃u,T t.parent=some u:= by
  obtain⟨_,r,_,h2⟩:=h
  rcases h2 i t ht with e | ⟨e,_⟩
  · exact .inl e
  · right
    cases q:T t.parent with
    | none=> exact absurd q e
    | some u=> exact⟨u,rfl⟩
def NmI (A:LvA) (id:Int) (ns:List Bs):Prop:=ns.Nodup∧ ∀ob,ob∈ns↔ ∃pg,ZT A id (ob,pg)≠zer
theorem OR {L:LvD} {c:Nat} (hc:SzLe L c) {Nm:Bs→Bool} (hn: ∀ob,Nm ob=true→ ∃k:KD,k.1=ob∧Sk L k) {ks:List Bs} (h:Came (Jl Nm) ks):ks.length≤c:= by
  obtain⟨l,a,b⟩:=hc.keys
  refine Nat.le_trans (WC h.nodup (b:=l.map fun e=>e.2.1) fun ob hob=> ?_) (by simpa using a)
  have h1:=h.has ob hob
  have h2:Nm ob=true:= by
    cases q:Nm ob with
    | true=>rfl
    | false=> exact absurd (by unfold Jl; rw[q];rfl) h1
  obtain⟨k,rfl,j,hk⟩:=hn ob h2
  exact List.mem_map.2 ⟨(j,k),b j k hk,rfl⟩
theorem nm_fin {m:Nat} {L:LvD} {V:VS} {id:Int} {S:KD→Bool} {Nm:Bs→Bool} {ns:List Bs} (hI:LvI m L V) (hz: ∀k,S k=false→Xi L id k=0) (h1: ∀k,S k=true→Za V (Xi L id k)≠zer→Nm k.1=true) (h2: ∀ob,Nm ob=true→ ∃k:KD,k.1=ob∧S k=true∧Za V (Xi L id k)≠zer) (hns:AllC (Jl Nm) ns):NmI (QG L V) id ns:= by
  refine⟨hns.nodup, fun ob=> ?_⟩
  have h3:ob∈ns↔Nm ob=true:= by rw[←allS hns,(H6 ns).mem_iff]
  rw[h3]
  constructor
  · intro h
    obtain⟨k,rfl,_,q⟩:=h2 ob h
    exact⟨k.2, by rw[←hI.sees]; exact q⟩
  · rintro⟨pg,q⟩
    rw[←hI.sees]at q
    refine h1 (ob,pg) ?_ q
    cases r:S (ob,pg)with
    | true=>rfl
    | false=> exact absurd (by rw[hz _ r]; exact Ww hI.zero) q
theorem SD {w:World} {m c:Nat} {b n Fr:Nat} {L:LvD} {V:VS} {F:Th} (hS:Sat w [We b L,Zw L.sp n Fr V,F]) (hn:n≤600000000) (hI:LvI m L V) (hm:m<Zv) (hc:SzLe L c) (hcm:c≤900000000) (id:Int) (hth:ZE L id=true) (hid:id=0∨ ∃u,L.tr id=some u):
    Calls Tryz.prog 32 #[ptrV b 0,intV id] w (Ret fun v w'=> ∃ns,NmI (QG L V) id ns∧ns.length≤c∧Sat w' [rowT stC v (Zi ns),We b L,Zw L.sp n Fr V,F]):= by
 refine Qr Tryz.func32 rfl Tryz.ntmps32 rfl ?_
 refine Qd (Qa (Qe rfl rfl (Qf (Qc (Qd (Qd (Qa (Qb rfl rfl (Qb rfl rfl (qac Hf rfl (Jh (hS.sp [0] rfl) id) rfl ?_))))))))))
 rintro _ w1 ⟨rfl,hS1⟩
 replace hS1:=hS1.jn rfl rfl
 refine QX rfl rfl (Qf (Qc (QQ rfl (fun h2=> ?_) (fun h2=> ?_))))
 ·exact absurd h2 (by rw[hth];decide)
 refine Qs (Qc (Qd (Qa (Zg X4 hS1 rfl ?_))))
 intro sb w3 hS3
 clear hS1
 rw[←Nr]at hS3
 refine Qe rfl rfl (Qf (Qc (Qd (Qd ?_))))
 have hS4:=Ze (hS3.pick [1,0,2,3] rfl)
 refine Qa (Qb rfl rfl (Qk rfl rfl (Qg rfl UU rfl (Qp rfl BB (hS4.cell 0 rfl rfl) rfl (J2 1 hS4 Tryz.underlying81 rfl rfl rfl ?_)))))
 intro RR left0 wR5 hSR5; dsimp only[List.set]at hSR5
 clear hS4
 refine Qf (Qc (Qi [1,0,4,5,21] rfl (Qx ?_)))
 refine Xk (fun K0 E0 W0=> ∃(dn:KD→Prop) (cur:Option KD) (left:Nat) (S:KD→Bool),K0=left∧E0=[(0,ptrV b 0),(1,intV id),(5,.map (some sb)),(21,ptrV RR 0)]∧Sat W0 [QK b [ptrV L.sp 0,.map (some L.mp),.map (some L.mt),intV L.cur,.map (some L.ms)],J7 X4 L.mp RR (Zz L.pres) dn cur left,Q8 Xl L.mt (Zp TrD.ad L.tr),Z6 K7 L.tr,Q8 Xl L.ms (Jl L.sh),Q8 X4 sb (Jl S),Zw L.sp n Fr V,F]∧(∀k,dn k→S k=true)∧(∀k,S k=true→Sk L k)) (L0:=[(0,_),(1,_),(5,_),(21,_)]) (left0) (Vl rfl rfl rfl rfl) ⟨_,_,_, fun _=>false,rfl,rfl,hSR5.pick [0,1,2,3,4,5,6,7] rfl, fun _ h=>h.elim, fun _ h=> by cases h⟩ ?_
 rintro _ _ w6 ⟨dn,cur,left,S,rfl,rfl,hS6,hd,hs⟩
 refine Qd (Qa (Yj 1 hS6 keysKey.inj rfl rfl rfl (fun hdone=> ?_) (fun k v left2 wN7 hleft hgk hnd hSN7=> ?_)))
 ·refine Qu rfl rfl rfl (Qf (Qc (Qd (Xb rfl (QY (Qq (Qq (Q0 (Qc (Qd (Qd (Qa (Qb rfl rfl (Qe rfl rfl (Qf (Qc (Qx ?_)))))))))))))))))
  have hz0:=WM (hS6.pick [1,0,2,3,4,5,6,7] rfl)
  have hp: ∀k,L.pres k≠0→S k=true:= fun k hk=> by obtain⟨v,hv⟩:=OC hk; exact hd k (hdone k v hv)
  have hS8:=Xj (L:=L) (hz0.pick [1,0,2,3,4,5,6,7] rfl)
  refine Xk (fun K0 E0 W0=> ∃(m1:Nat) (i:Int) (S:KD→Bool),K0=m1+1∧E0=[(0,ptrV b 0),(1,intV id),(5,.map (some sb)),(7,intV i)]∧Sat W0 [We b L,Q8 X4 sb (Jl S),Zw L.sp n Fr V,F]∧(∀k,L.pres k≠0→S k=true)∧(∀k,S k=true→Sk L k)∧(∀k,S k=false→Xi L id k=0∨Xi L id k=Jv L (m1+1) i k)∧(Y5 L.tr m1 i)∧(m1≤Zv)∧(i=0∨ ∃u,L.tr i=some u)) (L0:=[(0,_),(1,_),(5,_),(7,_)]) (Zv+1) (Vl rfl rfl rfl rfl) ⟨Zv,id,S,rfl,rfl,hS8.pick [0,1,2,3] rfl,hp,hs, fun _ _=> .inr rfl,hI.rank.ends hm id,Nat.le_refl _,hid⟩ ?_
  rintro _ _ w9 ⟨m1,i,S,rfl,rfl,hS9,hp,hs,hse,hen,hm1,hti⟩
  refine Qd (Qd (Qa (Qb rfl rfl (X6 rfl rfl rfl (Qf (Qc (Qt rfl (fun h10=> ?_) (fun h10=> ?_))))))))
  ·have hid0:i≠0:=h10
   obtain⟨t,ht⟩:=hti.resolve_left hid0
   refine Qs (Qc (Qd (Qx (Qd ?_))))
   have hS11:=Ze (hS9.pick [0,1,2,3] rfl)
   have hS12:=ZK (hS11.pick [3,0,1,2,4,5,6,7] rfl) ht
   refine Qa (Qb rfl rfl (Qk rfl rfl (Qg rfl W2 rfl (Qp rfl Y6 (hS12.cell 5 rfl rfl) rfl (Qb rfl rfl (X8 (k:=i) 7 hS12 keysInt Tryz.underlying82 rfl rfl rfl Hz (u:=(ptrV t.ad 0)) (Zm ht) rfl (Qk rfl rfl (Qg rfl Wj rfl (Qp rfl JM (hS12.cell 0 rfl rfl) rfl (J2 1 hS12 Tryz.underlying90 rfl rfl rfl ?_))))))))))
   intro RR left0 wR13 hSR13; dsimp only[List.set]at hSR13
   clear hS12
   refine Qf (Qc (Qi [7,5,1,0,49] rfl (Qx ?_)))
   refine Xk (fun K0 E0 W0=> ∃(dn:KD→Prop) (cur:Option KD) (left:Nat) (S2:KD→Bool),K0=left∧E0=[(0,ptrV b 0),(1,intV id),(5,.map (some sb)),(7,intV i),(49,ptrV RR 0)]∧Sat W0 [QK t.ad [intV t.parent,.map (some t.ml),.map (some t.md)],J7 X4 t.ml RR (Zp LfD.ad t.lv) dn cur left,Z6 RM t.lv,Q8 Xw t.md (Jl t.dr),Z6 K7 (X5 L.tr i none),QK b [ptrV L.sp 0,.map (some L.mp),.map (some L.mt),intV L.cur,.map (some L.ms)],Q8 X4 L.mp (Zz L.pres),Q8 Xl L.mt (Zp TrD.ad L.tr),Q8 Xl L.ms (Jl L.sh),Q8 X4 sb (Jl S2),Zw L.sp n Fr V,F]∧(∀k,dn k→S2 k=true)∧(∀k,S2 k=true→Sk L k)∧(∀k,S k=true→S2 k=true)) (L0:=[(0,_),(1,_),(5,_),(7,_),(49,_)]) (left0) (VY rfl rfl rfl rfl rfl) ⟨_,_,_,S,rfl,rfl,hSR13.pick [0,1,2,3,4,5,6,7,8,9,10,11] rfl, fun _ h=>h.elim,hs, fun _ h=>h⟩ ?_
   rintro _ _ w14 ⟨dn,cur,left,S2,rfl,rfl,hS14,hd2,hs2,hsub⟩
   refine Qd (Qa (Yj 1 hS14 keysKey.inj rfl rfl rfl (fun hdone=> ?_) (fun k v left2 wN15 hleft hgk hnd hSN15=> ?_)))
   ·refine Qu rfl rfl rfl (Qf (Qc (Qd (Xb rfl (QY (Qq (Qq (Q0 (Qm (Qc ?_))))))))))
    have hall: ∀k,t.lv k≠none→S2 k=true:= fun k hk=> by obtain⟨x,hx⟩:=Option.ne_none_iff_exists'.1 hk; exact hd2 k (hdone k _ (show Zp LfD.ad t.lv k=some (ptrV x.ad 0) by unfold Zp; rw[hx];rfl))
    have hz1:=WM (hS14.pick [1,0,2,3,4,5,6,7,8,9,10,11] rfl)
    refine Qa (Qb rfl rfl (Qk rfl rfl (Qg rfl W2 rfl (Qp rfl Y6 (hz1.cell 5 rfl rfl) rfl (Qb rfl rfl (X8 (k:=i) 7 hz1 keysInt Tryz.underlying82 rfl rfl rfl Hz (u:=(ptrV t.ad 0)) (Zm ht) rfl (Qk rfl rfl (Qg rfl Yy rfl (Qp rfl QS (hz1.cell 1 rfl rfl) rfl (Qe rfl rfl (Qf ?_)))))))))))
    have hS16:=Zs ht (hz1.pick [1,0,2,3,4,5,6,7,8,9,10,11] rfl)
    have hS17:=Xj (L:=L) (hS16.pick [1,2,3,0,4,5,6,7] rfl)
    obtain⟨m2,hm2,hen2⟩:=CL hen hid0 ht
    subst hm2
    exact QE (L1:=[(0,_),(1,_),(5,_),(7,intV t.parent)]) (Vl rfl rfl rfl rfl) (k1:=m2+1) (by omega) ⟨m2,t.parent,S2,rfl,rfl,hS17.pick [0,1,2,3] rfl, fun k hk=>hsub k (hp k hk),hs2,obj_up hse hid0 ht hsub hall,hen2, by omega,O8 hI.rank ht⟩
   dsimp only[List.set]at hSN15
   obtain⟨x,hx,rfl⟩:=C2 hgk
   refine Qu rfl rfl rfl (Qf (Qc (Qd (Xy rfl (Qs (Qc (Qx (Qd (Qa (J3 1 hSN15 rfl hgk rfl rfl (Qu rfl rfl rfl (Xm hSN15 ZS rfl rfl ?_))))))))))))
   intro kb wk18 hk18
   clear hSN15
   refine Xe hk18 rfl rfl Xn rfl (by rfl) (i:=0) rfl (by decide) ?_
   intro wk19 hk19; dsimp only[List.set]at hk19
   clear hk18
   replace hk19:=XT (k:=k) hk19
   refine Qf (Qc (Qa (Qb rfl rfl (XF rfl XE Xn (hk19.blk 0 rfl) (XJ rfl) rfl rfl (Xq (k:=k) (v:= .bool true) 10 hk19 keysKey Tryz.underlying148 rfl rfl rfl rfl ?_)))))
   intro w20 hS20; dsimp only[List.set]at hS20; rw[Va]at hS20
   clear hk19
   refine Qf (Qm ?_)
   exact QE (L1:=[(0,_),(1,_),(5,_),(7,_),(49,_)]) (VY rfl rfl rfl rfl rfl) (k1:=left2) (by omega) ⟨_,_,_,_,rfl,rfl,hS20.pick [1,2,3,4,5,6,7,8,9,10,11,12] rfl, fun j hj=>JF.2 (hj.imp (hd2 j) (fun e=>e)), fun j hj=>(JF.1 hj).elim (hs2 j) (fun e=> by subst e; exact⟨i,.inr ⟨t,x,ht,hx⟩⟩), fun j hj=>JF.2 (.inl (hsub j hj))⟩
  have hid0:i=0:=Decidable.not_not.1 h10
  refine QY (Qq (Qq (Q0 (Qc (Qd ?_)))))
  have hz: ∀k,S k=false→Xi L id k=0:= fun k hk=>(hse k hk).elim (fun e=>e) fun e=> by rw[e,hid0,Yg rfl]; exact Classical.byContradiction fun q=> by rw[hp k q]at hk; cases hk
  refine Qa (Zg Xw hS9 rfl ?_)
  intro nb w21 hS21
  clear hS9
  rw[←Nr]at hS21
  refine Qe rfl rfl (Qf (Qc (Qd (Qd (Qa (Qb rfl rfl (J2 2 hS21 Tryz.underlying148 rfl rfl rfl ?_)))))))
  intro RR left0 wR22 hSR22; dsimp only[List.set]at hSR22
  clear hS21
  refine Qf (Qc (Qx ?_))
  refine Xk (fun K0 E0 W0=> ∃(dn:KD→Prop) (cur:Option KD) (left:Nat) (Nm:Bs→Bool),K0=left∧E0=[(0,ptrV b 0),(1,intV id),(9,.map (some nb)),(58,ptrV RR 0)]∧Sat W0 [We b L,J7 X4 sb RR (Jl S) dn cur left,Q8 Xw nb (Jl Nm),Zw L.sp n Fr V,F]∧(∀k,dn k→Za V (Xi L id k)≠zer→Nm k.1=true)∧(∀ob,Nm ob=true→ ∃k:KD,k.1=ob∧S k=true∧Za V (Xi L id k)≠zer)) (L0:=[(0,_),(1,_),(9,_),(58,_)]) (left0) (Vl rfl rfl rfl rfl) ⟨_,_,_, fun _=>false,rfl,rfl,hSR22.pick [1,2,0,3,4] rfl, fun _ h=>h.elim, fun _ h=> by cases h⟩ ?_
  rintro _ _ w23 ⟨dn,cur,left,Nm,rfl,rfl,hS23,hn1,hn2⟩
  refine Qd (Qa (Yj 1 hS23 keysKey.inj rfl rfl rfl (fun hdone=> ?_) (fun k v left2 wN24 hleft hgk hnd hSN24=> ?_)))
  ·refine Qu rfl rfl rfl (Qf (Qc (Qd (Xb rfl (QY (Qq (Qq (Q0 (Qc (Qd (Qa (Qb rfl rfl (qac qat rfl (kd_sp (hS23.sp [] rfl) rfl) rfl ?_)))))))))))))
   rintro _ w25 ⟨ck,rfl,hS25⟩
   replace hS25:=hS25.jn rfl rfl
   clear hS23
   have hnmc: ∀ob,Nm ob=true→ ∃k:KD,k.1=ob∧Sk L k:= fun ob hob=> by obtain⟨k,a,b,_⟩:=hn2 ob hob; exact⟨k,a,hs k b⟩
   have hK:=Sat.fold (As:=[QK ck [.map (some nb)],Q8 Xw nb (Jl Nm)]) (hS25.pick [0,3,1,2,4,5] rfl)
   have hC26:=hK.sp [0] rfl
   refine qac Ft rfl (KO hC26 Lz (itS ck nb (Jl Nm)) (fun ks h=> by have :=OR hc hnmc h;omega)) rfl ?_
   rintro _ w26 ⟨ns,hns,hS26⟩
   replace hS26:=hS26.jn rfl rfl; clear hC26
   clear hK
   exact Qe rfl rfl (Qf (Qc (Qw (QW (.inr rfl) rfl rfl (⟨_,rfl,ns,nm_fin hI hz (fun k hk hq=>hn1 k (hdone k _ (boG_in hk)) hq) hn2 hns,OR hc hnmc (Came.of_all hns),hS26.pick [0,2,4,5] rfl⟩)))))
  dsimp only[List.set]at hSN24
  refine Qu rfl rfl rfl (Qf (Qc (Qd (Xy rfl (Qs (Qc (Qx (Qd (Qa (J3 1 hSN24 rfl hgk rfl rfl (Qu rfl rfl rfl (Xm hSN24 ZS rfl rfl ?_))))))))))))
  intro kb wk27 hk27
  clear hSN24
  refine Xe hk27 rfl rfl Xn rfl (by rfl) (i:=0) rfl (by decide) ?_
  intro wk28 hk28; dsimp only[List.set]at hk28
  clear hk27
  replace hk28:=XT (k:=k) hk28
  refine Qf (Qc (Qd (Qa (Qb rfl rfl (Qb rfl rfl (XF rfl XE Xn (by first | exact hk28.blk 0 rfl) (XJ rfl) rfl rfl ?_))))))
  have hC29:=hk28.sp [1] rfl
  refine qac YG rfl (Yq hC29 (hI.rank.ends hm) id k) rfl ?_
  rintro _ w29 ⟨rfl,hS29⟩
  replace hS29:=hS29.jn rfl rfl; clear hC29
  clear hk28
  refine Qe rfl rfl (Qf (Qc (Qi [58,9,1,0,10,11] rfl (Qd ?_))))
  have hS30:=hS29.drew
  refine Rv Wu (VJ 8 9 rfl ?_ ?_)
  ·refine U6 (sp:=[8,9]) [0,1,2,3,4,5,6,7,8,9,10,11,12] (by kernel_rfl) ?_
   refine QJ rfl rfl rfl (Xa rfl rfl rfl (fun _=>(VF rfl rfl)) ?_)
   refine QJ rfl rfl rfl (Ws 69 rfl (fun h31=> ?_) (fun h31=> ?_))
   ·refine Xa rfl rfl (Qz rfl rfl (Xc h31)) (fun _=>(Ev.gd (Xg rfl))) ?_
    refine Xa rfl rfl (Qz rfl rfl (Xc h31)) (fun _=>(Ev.gd (ZD rfl))) ?_
    refine Xa rfl rfl (Qz rfl rfl (Xc h31)) (fun _=>(Ev.gd (Zx rfl XM))) ?_
    refine QH rfl rfl (Qz rfl rfl (Xc h31)) (Ev.gd (Qn rfl Xu (J9 hS30 0 rfl))) (Xa rfl rfl (Qz rfl rfl (Xc h31)) (fun _=>(Ev.gd (Xg rfl))) ?_)
    refine Xp rfl rfl (Qz rfl rfl (Xc h31)) rfl rfl rfl (qac JU rfl (Y9 (hS30.sp [4] rfl) (Xi L id k)) rfl ?_)
    rintro _ w32 ⟨rfl,hS32⟩
    replace hS32:=hS32.jn rfl rfl
    clear hS30
    refine XB (Xx (by kernel_rfl)) ?_
    refine Xp rfl rfl (Qz rfl rfl (Xc h31)) rfl rfl rfl (Rt hS32 64 rfl rfl rfl Tryz.underlying143 Py rfl (by omega) (by omega) rfl ?_)
    intro bz w33 hS33; rw[Dt]at hS33
    clear hS32
    refine XB (Xx (by kernel_rfl)) ?_
    refine QH rfl rfl (Qz rfl rfl (Xc h31)) (Ev.gd (Df 0 hS33 zer rfl rfl rfl Tryz.underlying143 Tryz.underlying5 Tryz.underlying9 rfl rfl)) (Xa rfl rfl (Qz rfl rfl (Xc h31)) (fun _=>(Ev.gd (Dg rfl rfl))) ?_)
    refine Xa rfl rfl rfl (fun _=>(Jk rfl (Xc h31) rfl)) ?_
    refine VC.nil (Qc (Qi [58,9,1,0,10,79] rfl (Qt rfl (fun h34=> ?_) (fun h34=> ?_))))
    ·have hpz:Za V (Xi L id k)≠zer:=h34
     refine Qa (Qb rfl rfl (Qg rfl Yz rfl (Qp rfl ZI (hS33.cell 3 rfl rfl) rfl (Xq (k:=k.1) (v:= .bool true) 5 hS33 keysStr Tryz.underlying91 rfl rfl rfl rfl ?_))))
     intro w35 hS35; dsimp only[List.set]at hS35; rw[Va]at hS35
     clear hS33
     exact Qf (Qm (QE (L1:=[(0,_),(1,_),(9,_),(58,_)]) (Vl rfl rfl rfl rfl) (k1:=left2) (by omega) ⟨_,_,_,_,rfl,rfl,hS35.pick [2,4,5,1,6] rfl, fun j hj hq=>JF.2 (hj.elim (fun h=> .inl (hn1 j h hq)) (fun e=> .inr (by rw[e]))), fun ob hob=>(JF.1 hob).elim (hn2 ob) (fun e=>⟨k,e.symm,Sc hgk,hpz⟩)⟩))
    have hpz:Za V (Xi L id k)=zer:=Decidable.not_not.1 h34
    refine Qs (Qm ?_)
    exact QE (L1:=[(0,_),(1,_),(9,_),(58,_)]) (Vl rfl rfl rfl rfl) (k1:=left2) (by omega) ⟨_,_,_,_,rfl,rfl,hS33.pick [2,4,5,1,6] rfl, fun j hj hq=>hj.elim (fun h=>hn1 j h hq) (fun e=> by subst e; exact absurd hpz hq),hn2⟩
   have hpz:Za V (Xi L id k)=zer:= by rw[Decidable.not_not.1 h31]; exact Ww hI.zero
   refine Q9 rfl rfl (QF rfl rfl (Q6 h31)) (Q9 rfl rfl (QF rfl rfl (Q6 h31)) (Q9 rfl rfl (QF rfl rfl (Q6 h31)) (Q9 rfl rfl (QF rfl rfl (Q6 h31)) (Q9 rfl rfl (QF rfl rfl (Q6 h31)) (VC.spineNot rfl rfl (QF rfl rfl (Q6 h31)) (VC.spineNot rfl rfl (QF rfl rfl (Q6 h31)) (Q9 rfl rfl (QF rfl rfl (Q6 h31)) (Q9 rfl rfl (QF rfl rfl (Q6 h31)) (Xa rfl rfl rfl (fun _=>(Wg rfl (Q6 h31) rfl)) ?_)))))))))
   refine VC.nil (Qc (Qi [58,9,1,0,10,79] rfl (Xb rfl (Qs (Qm ?_)))))
   exact QE (L1:=[(0,_),(1,_),(9,_),(58,_)]) (Vl rfl rfl rfl rfl) (k1:=left2) (by omega) ⟨_,_,_,_,rfl,rfl,hS30.pick [0,2,3,4,5] rfl, fun j hj hq=>hj.elim (fun h=>hn1 j h hq) (fun e=> by subst e; exact absurd hpz hq),hn2⟩
  refine U6 (sp:=[8,9]) [0,1,2,3,4,5,6,7,9,10,8,11,12] (by kernel_rfl) ?_
  refine QJ rfl rfl rfl (Xa rfl rfl rfl (fun _=>(VF rfl rfl)) ?_)
  refine QJ rfl rfl rfl (Ws 69 rfl (fun h36=> ?_) (fun h36=> ?_))
  ·refine Xa rfl rfl (Qz rfl rfl (Xc h36)) (fun _=>(Ev.gd (Xg rfl))) ?_
   refine Xa rfl rfl (Qz rfl rfl (Xc h36)) (fun _=>(Ev.gd (ZD rfl))) ?_
   refine Xa rfl rfl (Qz rfl rfl (Xc h36)) (fun _=>(Ev.gd (Zx rfl XM))) ?_
   refine QH rfl rfl (Qz rfl rfl (Xc h36)) (Ev.gd (Qn rfl Xu (J9 hS30 0 rfl))) (Xa rfl rfl (Qz rfl rfl (Xc h36)) (fun _=>(Ev.gd (Xg rfl))) ?_)
   refine Xp rfl rfl (Qz rfl rfl (Xc h36)) rfl rfl rfl (Rt hS30 64 rfl rfl rfl Tryz.underlying143 Py rfl (by omega) (by omega) rfl ?_)
   intro bz w37 hS37; rw[Dt]at hS37
   clear hS30
   refine XB (.cons (.inl ⟨(Qz rfl rfl (Xc h36)),(Ev.gd (Qn rfl Xu (J9 hS37 1 rfl)))⟩) .nil) (QH rfl rfl (Qz rfl rfl (Xc h36)) (Ev.gd (Df 0 hS37 zer rfl rfl rfl Tryz.underlying143 Tryz.underlying5 Tryz.underlying9 rfl rfl)) (Xp rfl rfl (Qz rfl rfl (Xc h36)) rfl rfl rfl (qac JU rfl (Y9 (hS37.sp [5] rfl) (Xi L id k)) rfl ?_)))
   rintro _ w38 ⟨rfl,hS38⟩
   replace hS38:=hS38.jn rfl rfl
   clear hS37
   refine XB (.cons (.inl ⟨(Qz rfl rfl (Xc h36)),(Ev.gd (Df 1 hS38 zer rfl rfl rfl Tryz.underlying143 Tryz.underlying5 Tryz.underlying9 rfl rfl))⟩) (Xx (by kernel_rfl))) ?_
   refine Xa rfl rfl (Qz rfl rfl (Xc h36)) (fun _=>(Ev.gd (Dg rfl rfl))) ?_
   refine Xa rfl rfl rfl (fun _=>(Jk rfl (Xc h36) rfl)) ?_
   refine VC.nil (Qc (Qi [58,9,1,0,10,79] rfl (Qt rfl (fun h39=> ?_) (fun h39=> ?_))))
   ·have hpz:Za V (Xi L id k)≠zer:=h39
    refine Qa (Qb rfl rfl (Qg rfl Yz rfl (Qp rfl ZI (hS38.cell 3 rfl rfl) rfl (Xq (k:=k.1) (v:= .bool true) 5 hS38 keysStr Tryz.underlying91 rfl rfl rfl rfl ?_))))
    intro w40 hS40; dsimp only[List.set]at hS40; rw[Va]at hS40
    clear hS38
    exact Qf (Qm (QE (L1:=[(0,_),(1,_),(9,_),(58,_)]) (Vl rfl rfl rfl rfl) (k1:=left2) (by omega) ⟨_,_,_,_,rfl,rfl,hS40.pick [2,4,5,0,6] rfl, fun j hj hq=>JF.2 (hj.elim (fun h=> .inl (hn1 j h hq)) (fun e=> .inr (by rw[e]))), fun ob hob=>(JF.1 hob).elim (hn2 ob) (fun e=>⟨k,e.symm,Sc hgk,hpz⟩)⟩))
   have hpz:Za V (Xi L id k)=zer:=Decidable.not_not.1 h39
   refine Qs (Qm ?_)
   exact QE (L1:=[(0,_),(1,_),(9,_),(58,_)]) (Vl rfl rfl rfl rfl) (k1:=left2) (by omega) ⟨_,_,_,_,rfl,rfl,hS38.pick [2,4,5,0,6] rfl, fun j hj hq=>hj.elim (fun h=>hn1 j h hq) (fun e=> by subst e; exact absurd hpz hq),hn2⟩
  have hpz:Za V (Xi L id k)=zer:= by rw[Decidable.not_not.1 h36]; exact Ww hI.zero
  refine Q9 rfl rfl (QF rfl rfl (Q6 h36)) (Q9 rfl rfl (QF rfl rfl (Q6 h36)) (Q9 rfl rfl (QF rfl rfl (Q6 h36)) (Q9 rfl rfl (QF rfl rfl (Q6 h36)) (Q9 rfl rfl (QF rfl rfl (Q6 h36)) (VC.spineNot rfl rfl (QF rfl rfl (Q6 h36)) (Q9 rfl rfl (QF rfl rfl (Q6 h36)) (VC.spineNot rfl rfl (QF rfl rfl (Q6 h36)) (Q9 rfl rfl (QF rfl rfl (Q6 h36)) (Xa rfl rfl rfl (fun _=>(Wg rfl (Q6 h36) rfl)) ?_)))))))))
  refine VC.nil (Qc (Qi [58,9,1,0,10,79] rfl (Xb rfl (Qs (Qm ?_)))))
  exact QE (L1:=[(0,_),(1,_),(9,_),(58,_)]) (Vl rfl rfl rfl rfl) (k1:=left2) (by omega) ⟨_,_,_,_,rfl,rfl,hS30.pick [0,2,3,4,5] rfl, fun j hj hq=>hj.elim (fun h=>hn1 j h hq) (fun e=> by subst e; exact absurd hpz hq),hn2⟩
 dsimp only[List.set]at hSN7
 refine Qu rfl rfl rfl (Qf (Qc (Qd (Xy rfl (Qs (Qc (Qx (Qd (Qa (J3 1 hSN7 rfl hgk rfl rfl (Qu rfl rfl rfl (Xm hSN7 ZS rfl rfl ?_))))))))))))
 intro kb wk41 hk41
 clear hSN7
 refine Xe hk41 rfl rfl Xn rfl (by rfl) (i:=0) rfl (by decide) ?_
 intro wk42 hk42; dsimp only[List.set]at hk42
 clear hk41
 replace hk42:=XT (k:=k) hk42
 refine Qf (Qc (Qa (Qb rfl rfl (XF rfl XE Xn (hk42.blk 0 rfl) (XJ rfl) rfl rfl (Xq (k:=k) (v:= .bool true) 6 hk42 keysKey Tryz.underlying148 rfl rfl rfl rfl ?_)))))
 intro w43 hS43; dsimp only[List.set]at hS43; rw[Va]at hS43
 clear hk42
 refine Qf (Qm ?_)
 exact QE (L1:=[(0,_),(1,_),(5,_),(21,_)]) (Vl rfl rfl rfl rfl) (k1:=left2) (by omega) ⟨_,_,_,_,rfl,rfl,hS43.pick [1,2,3,4,5,6,7,8] rfl, fun j hj=>JF.2 (hj.imp (hd j) (fun e=>e)), fun j hj=>(JF.1 hj).elim (hs j) (fun e=> by subst e; exact⟨0,.inl ⟨rfl,OB hgk⟩⟩)⟩
end Go.Proofs.YtkcjfoaejijdoaaGreatDoor
