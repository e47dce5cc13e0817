/- leaves: Copy in a trial -/
import Derived.Test.YtkcjfoaejijdoaaGreatDoorLv27
set_option linter.unusedVariables false
set_option maxRecDepth 100000
set_option maxHeartbeats 1600000
namespace Go.Proofs.YtkcjfoaejijdoaaGreatDoor
open Go.RowKit M
set_option linter.unusedSectionVars false
variable [Inhabited SlW]
noncomputable def CQ (id:Int) (ob:Bs) (p0:Int) (A:LvA):Nat→LvA
  | 0=>A
  | q+1=>Tf id ob (CQ id ob p0 A q) (p0+(q:Int))
noncomputable def VL (id:Int) (A:LvA) (to:Bs) (base:Int) (f:Nat→Bs):Nat→LvA
  | 0=>A
  | q+1=>Gg id (VL id A to base f q) ((to,base+(q:Int)),f q)
theorem Dh {id:Int} {ob:Bs} {p0:Int} {A:LvA} (ht: ∃t,A.tr id=some t): ∀q,∃t,(CQ id ob p0 A q).tr id=some t
  | 0=>ht
  | q+1=>cpRd_tr (Dh ht q)
theorem T8 {id:Int} {ob:Bs} {p0:Int} {A:LvA} (ht: ∃t,A.tr id=some t) (j:KD): ∀q,ZN (CQ id ob p0 A q) id j=ZN A id j
  | 0=>rfl
  | q+1=> by
    obtain⟨t,h⟩:=Dh (ob:=ob) (p0:=p0) ht q
    exact(Eo (fun _=>h) j).trans (T8 ht j q)
section
variable {ex ex':Int→Int} {m e j:Nat} {L L1 L2:LvD} {V V1 V2:VS} {id p0 p s:Int} {t t2:TrD} {ob to:Bs} {l:List Int} {y:LfD} {A0:LvA}
structure CtI (ex:Int→Int) (m:Nat) (L L1:LvD) (V V1:VS) (id:Int) (ob:Bs) (p0:Int) (l:List Int) (j:Nat):Prop where
  inv:LvX ex m L1 V1
  no:NoI ex l
  len:l.length=j
  sp:L1.sp=L.sp
  ab:Q8 L1 V1=CQ id ob p0 (Q8 L V) j
  al: ∀c,AliveLe V c→AliveLe V1 c
  sz: ∀c,SzLe L c→SzLe L1 (c+j)
  pg:Pgs V V1
  con: ∀q,q<j→XT V1 (l.getD q 0)=cpC (Q8 L V) id ob (p0+(q:Int))
theorem CtI.start (hI:LvI m L V):CtI (fun _=>0) m L L V V id ob p0 [] 0:=⟨hI, fun _ _=>rfl,rfl,rfl,rfl, fun _ q=>q, fun _ q=>q,.refl, fun q h=> by omega⟩
theorem CtI.get (h:CtI ex m L L1 V V1 id ob p0 l j) (ht:L.tr id=some t): ∃u,L1.tr id=some u:= by
  obtain⟨u,hu⟩:=Dh (ob:=ob) (p0:=p0) ⟨_,Zv (V:=V) ht⟩ j
  rw[←h.ab]at hu
  obtain⟨u,hu,_⟩:=Uf hu
  exact⟨u,hu⟩
theorem CtI.next (h:CtI ex m L L1 V V1 id ob p0 l j) (hs:StepX ex m L1 V1 ex m 0 1 L2 V2) (ha:XP V2 s) (hab:Q8 L2 V2=Tf id ob (CQ id ob p0 (Q8 L V) j) (p0+(j:Int))) (hpg: ∀q,XT V2 q=XT V1 q) (hc:XT V2 s=cpC (Q8 L V) id ob (p0+(j:Int))):
    CtI (fun q=>ex q+dl s q) m L L2 V (H3 V2 s) id ob p0 (l++[s]) (j+1):= by
  obtain⟨h1,h2,h3⟩:=UR hs.inv h.no ha
  refine⟨h1.inv,h2, by rw[List.length_append,h.len];rfl,hs.sp.trans h.sp,h3.trans hab, fun c q=>h1.al _ (hs.al c (h.al c q)), fun c q=> by have :=h1.sz _ (hs.sz _ (h.sz c q)); exact this,(h.pg.trans hs.pg).trans h1.pg, fun q hq=> ?_⟩
  rw[O6 hs.inv.zero,Yq]
  by_cases e:q=j
  · subst e
    rw[show(l++[s]).getD q 0=s by simp [List.getD,←h.len]]
    exact hc
  · rw[show(l++[s]).getD q 0=l.getD q 0 by simp [List.getD,List.getElem?_append_left (show q<l.length by rw[h.len];omega)],hpg]
    exact h.con q (by omega)
theorem CtI.in_ (h:CtI ex m L L1 V V1 id ob p0 l j) (ht:L.tr id=some t) (h0:id≠0) (ht1:L1.tr id=some t2) {x1:LfD} {t1:TrD} (hp:0≤p0+(j:Int)∧p0+(j:Int)<256) (hT:TouR L1 V1 id t2 (ob,p0+(j:Int)) L2 V2 t1 x1):
    CtI (fun q=>ex q+dl x1.own q) m L (Zs L2 id t1 (ob,p0+(j:Int)) {x1 with rd:=x1.rd ||| (BitVec.allOnes 64&&& ~~~x1.wr)}) V (H3 V2 x1.own) id ob p0 (l++[x1.own]) (j+1):= by
  obtain⟨a1,a2⟩:=qbb hT ht1 h.inv h.no.nn
  obtain⟨b1,b2,b3,b4,b5⟩:=hT.invX ht1 h.inv h.no.nn
  have hx1:=hT.lv
  have hal:XP V2 x1.own:= by
    have :=a1.inv.aliveX h.no.nn (.inr (id,(ob,p0+(j:Int)),true))
    rw[XB DP Q1]at this
    exact this
  have htA: ∃t,(Q8 L V).tr id=some t:=⟨_,Zv ht⟩
  refine h.next a1 hal ?_ hT.pg ?_
  · rw[a2,h.ab]
    unfold Tf
    rw[if_pos ⟨h0,hp.1,hp.2⟩]
  · have e1:XT V2 x1.own=(Zi (Q8 L1 V1) id (ob,p0+(j:Int))).own:= by rw[←b2];rfl
    obtain⟨u,hu⟩:=Dh (ob:=ob) (p0:=p0) htA j
    rw[e1,h.ab,BK h0 hu,T8 htA]
    unfold cpC
    rw[if_pos hp]
theorem CtI.out (h:CtI ex m L L1 V V1 id ob p0 l j) (hp: ¬(0≤p0+(j:Int)∧p0+(j:Int)<256)):CtI (fun q=>ex q+dl 0 q) m L L1 V (H3 V1 0) id ob p0 (l++[0]) (j+1):= by
  refine h.next (StepX.refl h.inv) (.inl rfl) ?_ (fun _=>rfl) ?_
  · rw[h.ab]
    unfold Tf
    rw[if_neg (fun q=>hp q.2)]
  · unfold cpC
    rw[if_neg hp,Wr h.inv.zero]
theorem Lk {id:Int} {to:Bs} {base:Int} {A:LvA} {f:Nat→Bs} (ht: ∃t,A.tr id=some t): ∀q,∃t,(VL id A to base f q).tr id=some t
  | 0=>ht
  | q+1=> by
    obtain⟨t,h⟩:=Lk (to:=to) (base:=base) (f:=f) ht q
    show ∃u,(Gg id _ _).tr id=some u
    unfold Gg
    split
    · exact⟨t,h⟩
    · exact⟨_, by rw[ZS h]; exact Q1⟩
end
theorem MC {id:Int} {A:LvA} {to:Bs} {base:Int} {f g:Nat→Bs}: ∀q,(∀i,i<q→f i=g i)→VL id A to base f q=VL id A to base g q
  | 0,_=>rfl
  | q+1,h=> by
    show Gg id (VL id A to base f q) _=Gg id (VL id A to base g q) _
    rw[MC q fun i hi=>h i (by omega),h q (by omega)]
theorem Cb {A:LvA} {to:Bs} {base:Int} {f:Nat→Bs}: ∀q,Ak A to base f q=VL 0 A to base f q
  | 0=>rfl
  | q+1=> by
    show Gg 0 (Ak A to base f q) _=Gg 0 (VL 0 A to base f q) _
    rw[Cb q]
theorem qag {w:World} {m:Nat} {b n Fr:Nat} {L:LvD} {V:VS} {F:Th} (hS:Sat w [ZY b L,Zq L.sp n Fr V,F]) (hn:n+2100≤60000000000) (hI:LvI m L V) (hm:m<Zp) {id:Int} {t:TrD} (ht:L.tr id=some t) (ob to:Bs) (first cnt aa:Int) (hf: -2147483648≤first∧first≤2147483648) (ha: -2147483648≤aa∧aa≤2147483648) (hc: -2147483648≤cnt∧cnt≤300):
    Calls Tryz.prog 41 #[ptrV b 0,intV id,strV ob,intV first,intV cnt,strV to,intV aa] w (Ret fun v w'=> ∃L' V' q,StepI m L V m 0 512 L' V'∧Q8 L' V'=VL id (CQ id ob (first+max 0 (-aa)) (Q8 L V) q) to (aa+max 0 (-aa)) (fun i=>cpC (Q8 L V) id ob (first+max 0 (-aa)+(i:Int))) q∧(max 0 (-aa)+(q:Int)=min cnt (256 -aa)∨(q=0∧min cnt (256 -aa)≤max 0 (-aa)))∧Sat w' [ZY b L',Zq L'.sp (n+2100) Fr V',F]):= by
 have h0:id≠0:=hI.rank.none0 ht
 refine Qq Tryz.func41 rfl Tryz.ntmps41 rfl ?_
 refine Qd (Qd (Qa (Qb rfl rfl (Qb rfl rfl (Qv Hd rfl (Jd (hS.sp [0] rfl) id) rfl ?_)))))
 rintro _ w1 ⟨rfl,hS1⟩
 replace hS1:=hS1.jn rfl rfl
 refine QR rfl rfl (Qf (Qc (Qi [6,5,4,3,2,1,0,27] rfl (QM rfl (fun h2=> ?_) (fun h2=> ?_)))))
 ·exact absurd h2 (by simp [Z8,ht])
 refine Qr (Qc (Qd (Qa (Qb rfl rfl (AH rfl (by omega) (by omega) rfl ?_)))))
 refine Yj rfl rfl rfl (Qb rfl rfl (Qb rfl rfl (Hf rfl rfl (by omega) (by omega) rfl ?_)))
 refine HL rfl rfl rfl (Qe rfl rfl (Qe rfl rfl (Qf (Qc (Qi [6,5,3,2,1,0,14,15] rfl (Qd (Qa (Qe rfl rfl (Qf (Qc (Qd (Qd (Qa (Qb rfl rfl (Qe rfl rfl (Qf (Qc (Qw ?_))))))))))))))))))
 have hrn:=hS1.row_nil inC
 refine Xe (fun K0 E0 W0=> ∃(j:Nat) (L1:LvD) (V1:VS) (ex:Int→Int) (l:List Int) (nv:Value),K0=((min cnt (256 -aa)) -(max 0 (-aa))).toNat -j∧E0=[(0,ptrV b 0),(1,intV id),(2,strV ob),(3,intV first),(5,strV to),(6,intV aa),(14,intV (max 0 (-aa))),(15,intV (min cnt (256 -aa))),(16,nv),(17,intV ((max 0 (-aa))+(j:Int)))]∧Sat W0 [ZY b L1,Zq L1.sp (n+3*j) Fr V1,rowT inC nv l,F]∧(j≤256)∧(j=0∨(max 0 (-aa))+(j:Int)≤(min cnt (256 -aa)))∧(CtI ex m L L1 V V1 id ob (first+(max 0 (-aa))) l j)) (L0:=[(0,_),(1,_),(2,_),(3,_),(5,_),(6,_),(14,_),(15,_),(16,_),(17,_)]) (((min cnt (256 -aa)) -(max 0 (-aa))).toNat) (KJ rfl rfl rfl rfl rfl rfl rfl rfl rfl rfl) ⟨0,L,V, fun _=>0,[],_, by omega, by simp,hrn.pick [1,2,0,3] rfl, by omega,.inl rfl,CtI.start hI⟩ ?_
 rintro _ _ w3 ⟨j,L1,V1,ex,l,nv,rfl,rfl,hS3,hjb,hj,hct⟩
 refine Qd (Qd (Qa (Qb rfl rfl (Qb rfl rfl (Xb rfl rfl rfl (Qf (Qc (Qs rfl (fun h4=> ?_) (fun h4=> ?_)))))))))
 ·refine Qr (Qc (Qi [17,16,15,14,6,5,3,2,1,0] rfl (Qd (Qw (Qd (Qa (Qe rfl rfl (Qf (Qc (Qd (Qd (Qa (Qb rfl rfl (Qb rfl rfl (QK rfl rfl (by omega) (by omega) rfl ?_)))))))))))))))
  refine Qe rfl rfl (Qf (Qc (Qi [17,16,15,14,6,5,3,2,1,0,18,19] rfl (Qd (Qa (Qb rfl rfl (JJ rfl rfl rfl (Qb rfl rfl (QN 46 rfl (fun h5=> ?_) (fun h5=> ?_))))))))))
  ·refine Qj rfl rfl (QW h5) (Qb rfl rfl (Qj rfl rfl (QW h5) (Xb rfl rfl rfl (QC rfl (QW h5) rfl rfl (Qf (Qc (Qi [17,16,15,14,6,5,3,2,1,0,18,19,49] rfl (Qs rfl (fun h6=> ?_) (fun h6=> ?_)))))))))
   ·refine Qd (Qa (Qb rfl rfl (Qb rfl rfl (Zl rfl Yf Uh ZM rfl rfl (Xg hS3 ZM rfl rfl ?_)))))
    intro kb wk7 hk7
    clear hS3
    refine QY hk7 rfl rfl Xh rfl (by rfl) (i:=0) rfl (by decide) ?_
    intro wk8 hk8; dsimp only[List.set]at hk8
    clear hk7
    replace hk8:=XM (k:=(ob,first+((max 0 (-aa))+(j:Int)))) hk8
    dsimp only at hk8; rw[show first+((max 0 (-aa))+(j:Int))=(first+(max 0 (-aa)))+(j:Int) from(Int.add_assoc _ _ _).symm]at hk8
    refine Qf (Qc (Qi [17,16,15,14,6,5,3,2,1,0,18,20] rfl (Qd (Qd (Qa (Qb rfl rfl (X0 rfl rfl rfl (Qf (Qc (Qs rfl (fun h9=> ?_) (fun h9=> ?_)))))))))))
    ·refine Qd ?_
     obtain⟨t1,ht1⟩:=hct.get ht
     refine Qa (Qb rfl rfl (Qb rfl rfl ?_))
     refine XA rfl X9 Xh (by first | exact hk8.blk 0 rfl) (by first | decide | exact Xn rfl | (simp;done) | omega) rfl rfl ?_
     have hC10:=hk8.sp [1,2] rfl
     refine Qv Bd rfl (Uo hC10 (by omega) (hct.inv.rank.ends hm) ht1 (k:=(ob,(first+(max 0 (-aa)))+(j:Int)))) rfl ?_
     rintro _ w10 ⟨L2,V2,t2,x1,rfl,hT,hS10⟩
     replace hS10:=hS10.jn rfl rfl; clear hC10
     clear hk8
     have ht2:=hT.tr ht1
     have hx2:=hT.lv
     refine Qe rfl rfl (Qf (Qc (Qi [17,16,15,14,6,5,3,2,1,0,18,20,21] rfl ?_)))
     have hS11:=Yu ht2 hx2 (hS10.pick [0,1,2,3,4] rfl)
     have hS12:=hS11.drew
     refine QJ [0,1,2,3,4,5,6,7,8,9,10,11,12] [12] Wp (by kernel_rfl) ?_
     refine QE rfl rfl rfl (Xl rfl rfl rfl (QT rfl rfl rfl YN (Q9 rfl rfl rfl (Qm rfl Y0 (hS12.cell 0 rfl rfl)) (QE rfl rfl rfl (Xl rfl rfl rfl (QT rfl rfl rfl W8 (Q9 rfl rfl rfl (Qm rfl Y0 (hS12.cell 0 rfl rfl)) (QU rfl rfl rfl (fun _=>(VF (a:=BitVec.allOnes 64) rfl rfl)) ?_))))))))
     refine QU rfl rfl rfl (fun _=>(Gb rfl rfl)) ?_
     refine Xl rfl rfl rfl (QT rfl rfl rfl YN (Xj rfl rfl rfl rfl rfl rfl ?_))
     refine QL hS12 rfl rfl Br rfl (i:=0) rfl (Xn rfl) ?_
     intro w13 hS13; dsimp only[List.set]at hS13
     clear hS12
     refine Zx (Xq (by kernel_rfl)) ?_
     refine VC.nil (Qc (Qi [17,16,15,14,6,5,3,2,1,0,18,20] rfl ?_))
     have hS14:=Jb (L:=L2) (y:={x1 with rd:=x1.rd ||| (BitVec.allOnes 64&&& ~~~x1.wr)}) ht2 hx2 rfl (hS13.pick [0,1,2,3,4,5,6,7,8,9,10,11,12,13] rfl)
     have hct2:=hct.in_ ht h0 ht1 (by omega) hT
     refine Qa (Qb rfl rfl (Qb rfl rfl ?_))
     refine XA rfl X9 Xh (by first | exact hS14.blk 2 rfl) (by first | decide | exact Xn rfl | (simp;done) | omega) rfl rfl ?_
     refine Qv YE rfl (Yo (hS14.sp [0] rfl) (hct2.inv.rank.ends hm) id (ob,(first+(max 0 (-aa)))+(j:Int))) rfl ?_
     rintro _ w15 ⟨rfl,hS15⟩
     replace hS15:=hS15.jn rfl rfl
     clear hS14
     rw[DQ h0]
     refine Qe rfl rfl (Qf (Qc (Qi [17,16,15,14,6,5,3,2,1,0,18] rfl (Qd (Qa (Qb rfl rfl (Qk rfl rfl (Qg rfl XF rfl (Qo rfl Xm (J4 hS15 0 rfl) rfl (Qb rfl rfl (Qv UY rfl (DM (hS15.sp [1] rfl) (by omega) (x1.own)) rfl ?_)))))))))))
     rintro _ w16 ⟨e0,rfl,hS16⟩
     replace hS16:=hS16.jn rfl rfl
     clear hS15
     refine Qf (Qc (Qi [17,16,15,14,6,5,3,2,1,0,18] rfl (Qa (Qb rfl rfl (Qb rfl rfl (Z4 inC [x1.own] hS16 rfl Tryz.underlying47 Vi rfl rfl rfl rfl (by first | rfl | simp [RowC.cells,J7,X3]) rfl ?_))))))
     intro b17 w17 hS17
     clear hS16
     refine W3 inC 4 hS17 rfl rfl rfl (hS17.rd 0 rfl (by simp)) Tryz.underlying47 Tryz.underlying47 (by intro k hk; cases hk) KE rfl (by simp only[hct.len,List.length_cons,List.length_nil];omega) rfl (by simp only[hct.len,List.length_cons,List.length_nil];omega) ?_
     intro v18 w18 hS18; dsimp only[List.set]at hS18
     clear hS17
     have h1v18:v18.oneCell'=true:=hS18.own_one 4 rfl
     refine Qe rfl rfl (Qf (Ql (Qc (Qi [17,15,14,6,5,3,2,1,0,16] rfl (Qa (Qb rfl rfl (QK rfl rfl (by omega) (by omega) rfl ?_)))))))
     refine Qe rfl rfl (Qf ?_)
     exact Q6 (L1:=[(0,_),(1,_),(2,_),(3,_),(5,_),(6,_),(14,_),(15,_),(16,_),(17,intV ((max 0 (-aa))+(j:Int)+1))]) (KJ rfl rfl rfl rfl rfl rfl rfl rfl rfl rfl) (k1:=((min cnt (256 -aa)) -(max 0 (-aa))).toNat -(j+1)) (by omega) ⟨j+1,_,_,_,_,_,rfl,(by rw[show(max 0 (-aa))+((j+1:Nat):Int)=(max 0 (-aa))+(j:Int)+1 by omega]),(X1 (m:=n+3*(j+1)) (by omega) (hS18.pick [1,2,4,5] rfl)).reorder [1,0,2,3] rfl, by omega, by omega,hct2⟩
    exact absurd (Decidable.not_not.1 h9) h0
   refine Qr (Qc (Qd (Qa (Qb rfl rfl (Qk rfl rfl (Qg rfl XF rfl (Qo rfl Xm (J4 hS3 0 rfl) rfl (Qb rfl rfl (Qv UY rfl (DM (hS3.sp [1] rfl) (by omega) (0)) rfl ?_)))))))))
   rintro _ w19 ⟨e0,rfl,hS19⟩
   replace hS19:=hS19.jn rfl rfl
   clear hS3
   refine Qf (Qc (Qi [17,16,15,14,6,5,3,2,1,0,18] rfl (Qa (Qb rfl rfl (Qb rfl rfl (Z4 inC [0] hS19 rfl Tryz.underlying47 Vi rfl rfl rfl rfl (by first | rfl | simp [RowC.cells,J7,X3]) rfl ?_))))))
   intro b20 w20 hS20
   clear hS19
   refine W3 inC 3 hS20 rfl rfl rfl (hS20.rd 0 rfl (by simp)) Tryz.underlying47 Tryz.underlying47 (by intro k hk; cases hk) KE rfl (by simp only[hct.len,List.length_cons,List.length_nil];omega) rfl (by simp only[hct.len,List.length_cons,List.length_nil];omega) ?_
   intro v21 w21 hS21; dsimp only[List.set]at hS21
   clear hS20
   have h1v21:v21.oneCell'=true:=hS21.own_one 3 rfl
   refine Qe rfl rfl (Qf (Ql (Qc (Qi [17,15,14,6,5,3,2,1,0,16] rfl (Qa (Qb rfl rfl (QK rfl rfl (by omega) (by omega) rfl ?_)))))))
   exact Qe rfl rfl (Qf (Q6 (L1:=[(0,_),(1,_),(2,_),(3,_),(5,_),(6,_),(14,_),(15,_),(16,_),(17,intV ((max 0 (-aa))+(j:Int)+1))]) (KJ rfl rfl rfl rfl rfl rfl rfl rfl rfl rfl) (k1:=((min cnt (256 -aa)) -(max 0 (-aa))).toNat -(j+1)) (by omega) ⟨j+1,_,_,_,_,_,rfl,(by rw[show(max 0 (-aa))+((j+1:Nat):Int)=(max 0 (-aa))+(j:Int)+1 by omega]),(X1 (m:=n+3*(j+1)) (by omega) (hS21.pick [1,2,3,4] rfl)).reorder [1,0,2,3] rfl, by omega, by omega,hct.out (by omega)⟩))
  refine Qh rfl rfl (Q0 h5) rfl (Qh rfl rfl (Q0 h5) rfl (QG rfl (Q0 h5) rfl rfl (Qf (Qc (Qi [17,16,15,14,6,5,3,2,1,0,18,19,49] rfl (QV rfl (Qr (Qc (Qd (Qa (Qb rfl rfl (Qk rfl rfl (Qg rfl XF rfl (Qo rfl Xm (J4 hS3 0 rfl) rfl (Qb rfl rfl (Qv UY rfl (DM (hS3.sp [1] rfl) (by omega) (0)) rfl ?_))))))))))))))))
  rintro _ w22 ⟨e0,rfl,hS22⟩
  replace hS22:=hS22.jn rfl rfl
  clear hS3
  refine Qf (Qc (Qi [17,16,15,14,6,5,3,2,1,0,18] rfl (Qa (Qb rfl rfl (Qb rfl rfl (Z4 inC [0] hS22 rfl Tryz.underlying47 Vi rfl rfl rfl rfl (by first | rfl | simp [RowC.cells,J7,X3]) rfl ?_))))))
  intro b23 w23 hS23
  clear hS22
  refine W3 inC 3 hS23 rfl rfl rfl (hS23.rd 0 rfl (by simp)) Tryz.underlying47 Tryz.underlying47 (by intro k hk; cases hk) KE rfl (by simp only[hct.len,List.length_cons,List.length_nil];omega) rfl (by simp only[hct.len,List.length_cons,List.length_nil];omega) ?_
  intro v24 w24 hS24; dsimp only[List.set]at hS24
  clear hS23
  have h1v24:v24.oneCell'=true:=hS24.own_one 3 rfl
  refine Qe rfl rfl (Qf (Ql (Qc (Qi [17,15,14,6,5,3,2,1,0,16] rfl (Qa (Qb rfl rfl (QK rfl rfl (by omega) (by omega) rfl ?_)))))))
  exact Qe rfl rfl (Qf (Q6 (L1:=[(0,_),(1,_),(2,_),(3,_),(5,_),(6,_),(14,_),(15,_),(16,_),(17,intV ((max 0 (-aa))+(j:Int)+1))]) (KJ rfl rfl rfl rfl rfl rfl rfl rfl rfl rfl) (k1:=((min cnt (256 -aa)) -(max 0 (-aa))).toNat -(j+1)) (by omega) ⟨j+1,_,_,_,_,_,rfl,(by rw[show(max 0 (-aa))+((j+1:Nat):Int)=(max 0 (-aa))+(j:Int)+1 by omega]),(X1 (m:=n+3*(j+1)) (by omega) (hS24.pick [1,2,3,4] rfl)).reorder [1,0,2,3] rfl, by omega, by omega,hct.out (by omega)⟩))
 refine QS (Qp (Qp (Qz (Qc (Qi [16,14,6,5,1,0] rfl (Qd ?_))))))
 obtain⟨an,cn,hvn,_⟩:=hS3.own_shape 2 rfl; obtain rfl:=hvn
 refine Qa (Qb rfl rfl ?_)
 first | refine X5 Tryz.underlying47 rfl rfl ?_ | refine JB 2 hS3 Tryz.underlying47 rfl rfl rfl ?_
 refine Qb rfl rfl (Qf (Qc (Qw ?_)))
 have hln:=hct.len
 refine Xe (fun K0 E0 W0=> ∃(q:Nat) (L2:LvD) (V2:VS) (ex2:Int→Int),K0=j -q∧E0=[(0,ptrV b 0),(1,intV id),(5,strV to),(6,intV aa),(14,intV (max 0 (-aa))),(85,.slice an l.length cn),(86,intV (l.length:Int)),(87,intV (q:Int))]∧Sat W0 [ZY b L2,Zq L2.sp (n+3*j+5*q) Fr V2,rowT inC (.slice an l.length cn) l,F]∧(q≤j)∧(LvX ex2 m L2 V2)∧(NoI ex2 (l.drop q))∧(L2.sp=L.sp)∧(Q8 L2 V2=VL id (Q8 L1 V1) to (aa+(max 0 (-aa))) (fun q=>XT V1 (l.getD q 0)) q)∧(∀c,AliveLe V c→AliveLe V2 c)∧(∀c,SzLe L c→SzLe L2 (c+j+q))∧(Pgs V1 V2)) (L0:=[(0,_),(1,_),(5,_),(6,_),(14,_),(85,_),(86,_),(87,_)]) (j) (LI rfl rfl rfl rfl rfl rfl rfl rfl) ⟨0,L1,V1,ex,rfl,rfl,hS3.pick [0,1,2,3] rfl, by omega,hct.inv,hct.no,hct.sp,rfl,hct.al,hct.sz,.refl⟩ ?_
 rintro _ _ w25 ⟨q,L2,V2,ex2,rfl,rfl,hS25,hq,hI2,hno2,hsp,hab2,hal2,hsz2,hpg2⟩
 refine Qd (Qa (Xb rfl rfl rfl (Qf (Qc (Qd (Qs rfl (fun h26=> ?_) (fun h26=> ?_)))))))
 ·obtain⟨s,hs⟩: ∃s,l[q]? =some s:=⟨_,Zd (by have :=hct.len;omega)⟩; rw[Ca hs]at hno2; have hsa:=hI2.held (s:=s) fun h0=>hno2.ge h0; obtain⟨t2,ht2⟩: ∃u,L2.tr id=some u:= by obtain⟨t1,ht1⟩:=hct.get ht; obtain⟨u,hu⟩:=Lk (to:=to) (base:=(aa+(max 0 (-aa)))) (f:=(fun q=>XT V1 (l.getD q 0))) ⟨_,Zv (V:=V1) ht1⟩ q; rw[←hab2]at hu; obtain⟨u2,hu2,_⟩:=Uf hu; exact⟨u2,hu2⟩
  refine Qr (Qc (Qd (Qw (Qd (Qa (Qb rfl rfl (Xu inC 2 q hS25 rfl rfl rfl (by first | rfl | omega) hs Ge rfl ?_)))))))
  intro bx27 capx27 hvx27
  refine Z1 2 q 0 hS25 rfl hvx27 rfl rfl hs QO rfl rfl (Qe rfl rfl (Qe rfl rfl (Qf (Qc (Qi [87,86,85,14,6,5,1,0,22,23] rfl (Qd (Qa (Qb rfl rfl (Qb rfl rfl (Qb rfl rfl (Qb rfl rfl (Qb rfl rfl (QK rfl rfl (by omega) (by omega) rfl ?_)))))))))))))
  refine Qb rfl rfl (QK rfl rfl (by omega) (by omega) rfl ?_)
  refine Zl rfl Yf Uh ZM rfl rfl (Qb rfl rfl (Qv LB rfl (Pb (hS25.sp [0,1] rfl) (by omega) hI2 hno2.nn hm ht2 hsa (to,(aa+(max 0 (-aa)))+(q:Int))) rfl ?_))
  rintro _ w28 ⟨L3,V3,hr1,hr2,hS28⟩
  replace hS28:=hS28.jn rfl rfl
  clear hS25
  refine Qf (Qc (Qi [87,86,85,14,6,5,1,0,23] rfl (Qa (Qb rfl rfl (Qk rfl rfl (Qg rfl XF rfl (Qo rfl Xm (J4 hS28 0 rfl) rfl (Qb rfl rfl (Qv Gm rfl (R1 (hS28.sp [1] rfl) (by omega) s) rfl ?_)))))))))
  rintro _ w29 ⟨e0,rfl,hS29⟩
  replace hS29:=hS29.jn rfl rfl
  clear hS28
  refine Qf (Ql (Qc (Qi [87,86,85,14,6,5,1,0] rfl (Qa (QK rfl rfl (by omega) (by omega) rfl ?_)))))
  refine Qb rfl rfl (Qf ?_)
  obtain⟨hu1,hu2,hu3⟩:=Rw hr1.inv hno2
  exact Q6 (L1:=[(0,_),(1,_),(5,_),(6,_),(14,_),(85,_),(86,_),(87,intV ((q+1:Nat):Int))]) (LI rfl rfl rfl rfl rfl rfl rfl rfl) (k1:=j -(q+1)) (by omega) ⟨q+1,_,_,_,rfl,rfl,hS29.pick [1,0,2,3] rfl, by omega,hu1.inv,hu2,hu1.sp.trans (hr1.sp.trans hsp), by rw[hu3,hr2,hab2,VL];unfold Gg; rw[if_neg h0]; dsimp only; rw[CC hs,(hpg2 s hsa).2], fun c q2=>hu1.al _ (hr1.al _ (hal2 c q2)), fun c q2=> by have :=hu1.sz _ (hr1.sz _ (hsz2 c q2)); exact this.mono (by omega),(hpg2.trans hr1.pg).trans hu1.pg⟩
 refine QS (Qp (Qp (Qz (ZB (.inl rfl) rfl ?_))))
 have hln:=hct.len
 have hqj:q=j:= by omega
 subst hqj
 have hjj:q≤256:= by omega
 exact⟨_,rfl,L2,V2,q,⟨hI2.ext fun i hi=> by rw[hno2 i hi,List.drop_eq_nil_of_le (by rw[hct.len];omega)];rfl,hsp, fun c h=>(hal2 c h).mono (by omega), fun c h=>(hsz2 c h).mono (by omega)⟩, by rw[hab2,hct.ab]; exact MC q hct.con, by omega,(X1 (m:=n+2100) (by omega) (hS25.pick [1,0,3] rfl)).reorder [1,0,2] rfl⟩
end Go.Proofs.YtkcjfoaejijdoaaGreatDoor
