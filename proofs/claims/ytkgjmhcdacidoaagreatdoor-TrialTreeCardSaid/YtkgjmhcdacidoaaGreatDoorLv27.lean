/- leaves: Commit -/
import Derived.Test.YtkgjmhcdacidoaaGreatDoorLv20
set_option linter.unusedSectionVars false
set_option linter.unusedVariables false
set_option maxRecDepth 100000
set_option maxHeartbeats 3200000
namespace Go.Proofs.YtkgjmhcdacidoaaGreatDoor
open Go.RowKit M Proofs.Tryz
variable [Inhabited SlW]
noncomputable def comR (A:LvA) (t:TrA) (l:List KD):LvA:= if t.parent=0 then A else l.foldl (rdS t.parent t) A
theorem SeI.comR {A0:LvA} {id:Int} {t:TrA} {l:List KD} (h:SeI A0 A0 id t.parent t [] []) (hne:id≠t.parent):SeI A0 (comR A0 t l) id t.parent t [] []:= by
  unfold Go.Proofs.YtkgjmhcdacidoaaGreatDoor.comR
  by_cases h0:t.parent=0
  · rw[if_pos h0]; exact h
  · rw[if_neg h0]; exact SeI.reads hne h0 l h
theorem comA_eq {A:LvA} {id:Int} {t:TrA} {l:List KD} {obs:List Bs}:RT A id t l obs=VP (l.foldl (Gg A t.parent t) (obs.foldl (Ja t.parent) (comR A t l))) id:=rfl
theorem SeI.first {m:Nat} {L:LvD} {V:VS} {id:Int} {t:TrD} (hI:LvI m L V) (ht:L.tr id=some t):SeI (QG L V) (QG L V) id t.parent (Zy V t) [] []:=
  SeI.start (Z6 ht) fun h0=> by
    obtain⟨_,r,_,h2⟩:=hI.rank
    have a:=((h2 id t ht).resolve_left h0).1
    cases q:L.tr t.parent with
    | none=> exact absurd q a
    | some tp=> exact⟨_,Z6 q⟩
theorem allS {f:Bs→Bool} {ks:List Bs} (h:AllC (JF f) ks) (ob:Bs):ob∈Wl ks↔f ob=true:= by
  rw[(GQ ks).mem_iff,h.mem]
  unfold JF
  cases f ob<;> simp
def ComY (m:Nat) (L L':LvD) (V V':VS) (id:Int) (t:TrD):Prop:= ∃order obs,(∀k,k∈order↔t.lv k≠none)∧order.Nodup∧(∀ob,ob∈obs↔t.dr ob=true)∧LvI m L' V'∧L'.sp=L.sp∧QG L' V'=RT (QG L V) id (Zy V t) order obs∧(∀c,SzLe L c→SzLe L' c)∧ ∀c,AliveLe V c→AliveLe V' (c+JP t order)
def ComN (m Fr:Nat) (L:LvD) (V V':VS) (t:TrD):Prop:= ∃order:List KD,(∀k,k∈order↔t.lv k≠none)∧order.Nodup∧LvI m L V'∧QG L V'=QG L V∧(∀c,AliveLe V c→Fr≤c+JP t order)∧ ∀c,AliveLe V c→AliveLe V' (c+JP t order)
theorem gv_end {m:Nat} {L L1 L2:LvD} {V V1 V2 V3:VS} {id:Int} {t:TrD} {made:KD→Option Int} {ex ex0:Int→Int} {order:List KD} {obs:List Bs} (hI:LvI m L V) (ht:L.tr id=some t) (hmd:MdI m L V V1 t ex0 made order) (hgv:GvI ex m L L1 V V1 V2 id t made (QG L V) (obs.foldl (Ja t.parent) (comR (QG L V) (Zy V t) order)) order order.length)
    (hord: ∀k,k∈order↔t.lv k≠none) (hnd:order.Nodup) (hob: ∀ob,ob∈obs↔t.dr ob=true) (hs:StepX (fun _=>0) m L1 V2 (fun _=>0) m 0 0 L2 V3) (hab:QG L2 V3=VP (QG L1 V2) id) (hp:L2.pres=L1.pres) (hT:L2.tr=QO L1.tr id none):ComY m L L2 V V3 id t:= by
  refine⟨order,obs,hord,hnd,hob,hs.inv,hs.sp.trans hgv.cm.sp, ?_, fun c hc=>hgv.cm.ok.szRem (Pr ht) (hI.rank.none0 ht) hp hT hc, fun c hc=>hs.al _ (hgv.cm.al _ (hmd.al c hc))⟩
  rw[hab,comA_eq,hgv.cm.ab,List.take_length]
  rfl
theorem nn_add {ex:Int→Int} {s:Int} (h:NN ex):NN (fun j=>ex j+dl s j):= fun j hj=> by
  show 0≤ex j+dl s j
  have :=h j hj
  by_cases e:j=s
  · subst e; rw[Wx];omega
  · rw[Jb e];omega
theorem Fb {w:World} {m c d:Nat} {b n Fr:Nat} {L:LvD} {V:VS} {F:Th} (hS:Sat w [WU b L,ZT L.sp n Fr V,F]) (hn:n+(16*c+4*c*d)≤60000000000) (hI:LvI m L V) (hm:m<Wd) (hc:SzLe L c) {id:Int} {t:TrD} (ht:L.tr id=some t) (hch: ∀i u,L.tr i=some u→u.parent≠id) (hdr:DrA (QG L V)) (hd: ∀ks,Came (JF t.dr) ks→ks.length≤d) (hdm:d≤90000000000):
    Calls prog 31 #[ptrV b 0,intV id] w (Ret fun v w'=> ∃L' V',((v=intV 0∧ComY m L L' V V' id t)∨(v=intV 6∧L'=L∧ComN m Fr L V V' t))∧Sat w' [WU b L',ZT L'.sp (n+(16*c+4*c*d)) Fr V',F]):= by
 replace hS:=Zb hS
 refine Qn func31 U ntmps31 U ?_
 refine Qe (Qa (Qd U U (Qf (Qc (Qe (Qa (Qb U U (Qi U U (Qg U ZJ U (Qo U WN (by first | assumption | exact hS.cell 0 U U) U ?_))))))))))
 refine Qb U U (X8 (k:=id) 2 hS keysInt underlying106 U U U Yf (u:=ptrV t.ad 0) (XJ ht) U (Qd U U (Qf (Qc (Qe (Qe (Qa (Qb U U (XI underlying104 U U U (Qf (Qc (Qh [1,0,4,5,29] U (QL U (Qs (Qc (Qe (Qe (Qa (Qb U U (Qi U U (Qg U ZJ U (Qo U WN (by first | assumption | exact hS.cell 0 U U) U ?_))))))))))))))))))))))
 refine Jw 2 hS underlying106 U U U ?_
 intro RR left0 wR hSR; dsimp only[List.set]at hSR
 refine Qf (Qc (Qw (Xe (fun K0 E0 W0=> ∃(dn:Int→Prop) (cur:Option Int) (left:Nat),K0=left∧E0=[(0,ptrV b 0),(1,intV id),(5,ptrV t.ad 0),(34,ptrV RR 0)]∧Sat W0 [QE b [ptrV L.sp 0,.map (some L.mp),.map (some L.mt),intV L.cur,.map (some L.ms)],Q6 X0 L.mp (Z3 L.pres),Jt QX L.mt RR (XC TrD.ad L.tr) dn cur left,X6 VW L.tr,Q6 QX L.ms (JF L.sh),ZT L.sp n Fr V,F]) (L0:=[(0,_),(1,_),(5,_),(34,_)]) (left0) (Vj U U U U) ⟨_,_,_,rfl,rfl,hSR.pick [0,1,2,3,4,5,6] U⟩ ?_)))
 rintro _ _ w1 ⟨dn,cur,left,rfl,rfl,j1⟩
 refine Qe (Qa (Yk 2 j1 keysInt.inj U U U (fun hdone=> ?_) (fun i v left2 wN hleft hgk hnd hSN=> ?_)))
 ·refine Qp U U U (Qf (Qc (Qe (QL U (QT (Qq (Qq (Qy (Qc (Qe ?_))))))))))
  have hz0:=W2 (j1.pick [2,0,1,3,4,5,6] U)
  have j2:=ZQ (hz0.pick [3,0,1,2,4,5,6] U) ht
  refine Qa (Qb U U (Qi U U (Qg U ZI U (Qo U WF (by first | assumption | exact j2.cell 0 U U | exact j2.cell 6 U U) U ?_))))
  refine Q0 NE U (Bk (j2.sp [1] U) (fun ks h=> by have :=hc.keysL ht h;omega)) U ?_
  rintro _ w3 ⟨ks,hks,j3⟩
  replace j3:=j3.jn U U
  obtain⟨ar,cr,hvr,_⟩:=j3.own_shape 0 rfl; obtain rfl:=hvr
  refine Qd U U (Qf (Qc (Qh [5,1,0,8] U (Qe ?_))))
  have j4:=ZR ht (j3.pick [2,1,3,4,5,0,6,7,8,9,10,11] U)
  have j5:=Xx (L:=L) (j4.pick [3,4,2,0,5,1,6,7] U)
  have hord:=Ae hks
  have hnd:=Hr hks.nodup
  have hoc:(QQ ks).length≤c:= by rw[Wz]; exact hc.keysL ht (Came.of_all hks)
  refine Qa (Qb U U (Qb U U (Qb U U (Xr cal_58 U (Nl (j5.sp [0,2,1] U) (by omega) hI hm ht hord hnd hoc) U ?_))))
  rintro e w6 ⟨_,rfl,(⟨V1,mm,made,ex1,rfl,hmd,j6⟩ | ⟨V1,rfl,hmi,hmab,hmf,hmal,j6⟩)⟩
  ·refine⟨_,U, ?_⟩
   replace j6:=j6.jn U U
   refine Qb U U (Qp U U U (Qp U U U (Qd U U (Qd U U (Qf (Qc (Qh [5,1,0,8,9,10] U (Qe (Qe (Qa (Qb U U (Xp U U U (Qf (Qc (Qt U (fun h7=> ?_) (fun h7=> ?_))))))))))))))))
   ·exact absurd U h7
   have hne:id≠t.parent:= fun q=>hch id t ht q.symm
   have hse0:=SeI.first hI ht
   have hcm0:=CmI.start hmd.inv ht
   rw[hmd.ab]at hcm0
   refine Qs (Qc (GB (fun E0 W0=> ∃(L1:LvD) (V2:VS),E0=[(0,ptrV b 0),(1,intV id),(5,ptrV t.ad 0),(8,.slice ar (QQ ks).length cr),(9,.map (some mm))]∧Sat W0 [WU b L1,ZT L1.sp (n+4*c) Fr V2,rowT kC (.slice ar (QQ ks).length cr) (QQ ks),Q6 X0 mm (KS made),F]∧(CmI ex1 m L L1 V1 V2 id t (comR (QG L V) (Zy V t) (QQ ks)))) ?_ ?_))
   ·refine Qe (Qa (Qb U U (Qi U U (Qg U WZ U (Qo U QM (UU j6 0 U ht 0 U) U (Xp U U U (Qf (Qc (Qh [5,1,0,8,9,64] U (Qt U (fun h9=> ?_) (fun h9=> ?_)))))))))))
    ·have hp0:t.parent≠0:=h9
     refine Qe (Qa (Qb U U ?_))
     first | refine XB underlying123 U U ?_ | refine Xo 2 j6 underlying123 U U U ?_
     refine Qb U U (Qf (Qc (Qw ?_)))
     refine Xe (fun K0 E0 W0=> ∃(i:Nat) (L1:LvD) (V2:VS),K0=(QQ ks).length -i∧E0=[(0,ptrV b 0),(1,intV id),(5,ptrV t.ad 0),(8,.slice ar (QQ ks).length cr),(9,.map (some mm)),(65,.slice ar (QQ ks).length cr),(66,intV ((QQ ks).length:Int)),(67,intV (i:Int))]∧Sat W0 [WU b L1,ZT L1.sp (n+2*c+2*i) Fr V2,rowT kC (.slice ar (QQ ks).length cr) (QQ ks),Q6 X0 mm (KS made),F]∧(i≤(QQ ks).length)∧(CmI ex1 m L L1 V1 V2 id t (((QQ ks).take i).foldl (rdS t.parent (Zy V t)) (QG L V)))) (L0:=[(0,_),(1,_),(5,_),(8,_),(9,_),(65,_),(66,_),(67,_)]) ((QQ ks).length) (F6 U U U U U U U U) ⟨0,L,V1, by omega,rfl,j6.pick [0,1,2,3,4] U, by omega,hcm0⟩ ?_
     rintro _ _ w10 ⟨i,L1,V2,rfl,rfl,j10,hi,hcm⟩
     refine Qe (Qa (Xn U U U (Qf (Qc (Qe (Qt U (fun h11=> ?_) (fun h11=> ?_)))))))
     ·obtain⟨k,hk⟩: ∃k,(QQ ks)[i]? =some k:=⟨_,Zd (by omega)⟩
      obtain⟨x,hl⟩: ∃x,t.lv k=some x:=Option.ne_none_iff_exists'.1 ((hord k).1 (List.mem_of_getElem? hk))
      refine Qs (Qc (Qe (Qw (Qe (Qa (Xg kC 2 i j10 U U U (by first | rfl | omega) hk U8 U ?_))))))
      intro bx12 capx12 hvx12
      refine ZG 2 i j10 U hvx12 U hk X2 Xf U U (Xa j10 WK U U ?_)
      intro kb wk13 hk13
      refine Q9 hk13 U U Xf U (by first | rfl | (simp [QV,Value.oneCell'];done)) (i:=0) U (by first | decide | exact Q7 U) ?_
      intro wk14 hk14; dsimp only[List.set]at hk14
      clear hk13
      replace hk14:=Z4 (k:=k) hk14
      refine Qf (Qc (Qh [67,66,65,9,8,5,1,0,12] U (Qe ?_)))
      have j15:=Ht hcm.tr hl (hk14.pick [1,0,2,3,4,5] U)
      have j16:=j15.drew
      refine QH [0,1,2,3,4,5,6] [] ZW (by kernel_rfl) ?_
      refine QJ U U U (Xd U U U (QP U U U ZI (Q3 U U U (Qm U WF (by first | assumption | exact j16.cell 0 U U | exact j16.cell 2 U U | exact j16.cell 6 U U | exact j16.cell 10 U U)) ?_)))
      refine Q3 U U U (X3 U X2 Xf (by first | exact j16.blk 0 U | exact j16.blk 2 U | exact j16.blk 6 U | exact j16.blk 10 U) (by first | decide | exact Q7 U | (simp;done) | omega) U) ?_
      refine Q3 U U U (Xt (k:=k) 3 j16 keysKey underlying110 U U U Yz (u:=ptrV x.ad 0) (XJ hl)) (Zo U U U (VC.nil (Qc (Qh [67,66,65,9,8,5,1,0,12,13] U (Qe (Qa (Qb U U (Qi U U (Qg U HB U (Qo U JB (by first | assumption | exact j16.cell 0 U U | exact j16.cell 2 U U | exact j16.cell 6 U U | exact j16.cell 10 U U) U ?_))))))))))
      refine Xp U U U (Qf (Qc (Qh [67,66,65,9,8,5,1,0,12,13,81] U (Qt U (fun h17=> ?_) (fun h17=> ?_)))))
      ·have hrd:x.rd≠0#64:= fun e=>h17 (by rw[e];rfl)
       refine Qe ?_
       have j18:=J4 (L:=L1) (y:=x) hcm.tr hl U (j16.pick [0,1,2,3,4,5,6,7,8,9,10,11,12,13,14] U)
       rw[Yh hcm.tr hl]at j18
       obtain⟨tp,htp⟩:=(hcm.par (SeI.reads hne hp0 ((QQ ks).take i) hse0)).resolve_left hp0
       have j19:=j18.drew
       refine QH [0,1,2,3,4,5,6,7] [6] ZW (by kernel_rfl) ?_
       refine QJ U U U (QJ U U U (Xd U U U (QP U U U WZ (Q3 U U U (Qm U QM (UU j19 0 U hcm.tr 0 U)) ?_))))
       refine Q3 U U U (X3 U X2 Xf (by first | exact j19.blk 1 U) (by first | decide | exact Q7 U | (simp;done) | omega) U) ?_
       refine Xl U U U U U U ?_
       refine Q0 ND U (GK (j19.sp [0,2] U) (by omega) (hcm.inv.rank.ends hm) htp (k:=k)) U ?_
       rintro _ w20 ⟨L2,V3,t2,y,rfl,hT,j20⟩
       replace j20:=j20.jn U U
       have ht2:=hT.tr htp
       have hy2:=hT.lv
       have htid:L2.tr id=some t:=(hT.oth hne).trans hcm.tr
       refine XH (Xq (by kernel_rfl)) ?_
       refine Zo U U U (VC.nil (Qc (Qh [67,66,65,9,8,5,1,0,13,14] U ?_)))
       have j21:=Ht ht2 hy2 (j20.pick [0,1,2,3,4,5] U)
       have htu:QO L2.tr t.parent none id=some t:= by rw[Qz hne]; exact htid
       have j22:=j21.drew
       refine QH [0,1,2,3,4,5,6,7,8,9,10,11,12,13,14,15,16] [16] ZW (by kernel_rfl) ?_
       refine QJ U U U (Xd U U U (QP U U U HB (Q3 U U U (Qm U JB (by first | assumption | exact j22.cell 0 U U | exact j22.cell 2 U U | exact j22.cell 6 U U | exact j22.cell 11 U U)) ?_)))
       refine QJ U U U (Xd U U U (QP U U U HB (Q3 U U U (Qm U JB (Pn j22 5 U htu hl 2 U)) (QJ U U U (Xd U U U (QP U U U Wo (Q3 U U U (Qm U JB (by first | assumption | exact j22.cell 0 U U | exact j22.cell 2 U U | exact j22.cell 6 U U | exact j22.cell 11 U U)) ?_)))))))
       refine Xh U U U (fun _=>(Cb U U)) ?_
       refine Xh U U U (fun _=>(M0 U U)) ?_
       refine Xd U U U (QP U U U HB (Xl U U U U U U ?_))
       refine Qx j22 U U GO U (i:=0) U (by first | decide | exact Q7 U | (simp;done)) ?_
       intro w23 j23; dsimp only[List.set]at j23
       refine Zj (Xq (by kernel_rfl)) ?_
       refine VC.nil (Ql (Qc (Qh [67,66,65,9,8,5,1,0] U (Qa (QK U U (by omega) (by omega) U ?_)))))
       refine Qb U U (Qf ?_)
       have j24:=J4 (L:=L2) (y:={y with rd:=y.rd ||| (x.rd&&& ~~~y.wr)}) ht2 hy2 U (j23.pick [0,1,2,3,4,5,6,7,8,9,10,11,12,13,14] U)
       exact Q5 (L1:=[(0,_),(1,_),(5,_),(8,_),(9,_),(65,_),(66,_),(67,intV ((i+1:Nat):Int))]) (F6 U U U U U U U U) (k1:=(QQ ks).length -(i+1)) (by omega) ⟨i+1,_,_, by omega,rfl,(XM (m:=n+2*c+2*(i+1)) (by omega) (j24.pick [1,0,3,4,5] U)).reorder [1,0,2,3,4] U, by omega, by rw[Hu hk]; exact hcm.read hmd.nn hl hrd hne htp hT⟩
      have hrd0:x.rd=0#64:=zerW (Decidable.not_not.1 h17)
      refine Qs (Ql (Qc (Qh [67,66,65,9,8,5,1,0] U (Qa (QK U U (by omega) (by omega) U ?_)))))
      refine Qb U U (Qf ?_)
      have j25:=J4 (L:=L1) (y:=x) hcm.tr hl U (j16.pick [0,1,2,3,4,5,6,7,8,9,10,11,12,13,14] U)
      rw[Yh hcm.tr hl]at j25
      exact Q5 (L1:=[(0,_),(1,_),(5,_),(8,_),(9,_),(65,_),(66,_),(67,intV ((i+1:Nat):Int))]) (F6 U U U U U U U U) (k1:=(QQ ks).length -(i+1)) (by omega) ⟨i+1,L1,V2, by omega,rfl,(XM (m:=n+2*c+2*(i+1)) (by omega) (j25.pick [2,0,3,4,5] U)).reorder [1,0,2,3,4] U, by omega, by rw[Hu hk,Lk (Z8 hl) hrd0]; exact hcm⟩
     refine QT (Qq (Qq (Qy ?_)))
     have hil:i=(QQ ks).length:= by omega
     rw[hil,List.take_length]at hcm
     exact Wq (Ym U U U U U) ⟨L1,V2,rfl,(XM (m:=n+4*c) (by omega) (j10.pick [1,0,2,3,4] U)).reorder [1,0,2,3,4] U, by unfold comR; rw[if_neg (show ¬(Zy V t).parent=0 from hp0)]; exact hcm⟩
    have hp0:t.parent=0:=Decidable.not_not.1 h9
    refine Qs ?_
    exact Wq (Ym U U U U U) ⟨L,V1,rfl,(XM (m:=n+4*c) (by omega) (j6.pick [1,0,2,3,4] U)).reorder [1,0,2,3,4] U, by unfold comR; rw[if_pos (show(Zy V t).parent=0 from hp0)]; exact hcm0⟩
   rintro _ w8 ⟨L1,V2,rfl,j8,hcm⟩
   have hseR:=SeI.comR (t:=Zy V t) (l:=(QQ ks)) hse0 hne
   refine Qe (Qe ?_)
   have j26:=Zb (j8.pick [0,1,2,3,4] U)
   have j27:=ZQ (j26.pick [3,0,1,2,4,5,6,7,8] U) hcm.tr
   refine Qa (Qb U U (Qi U U (Qg U U5 U (Qo U R1 (by first | assumption | exact j27.cell 0 U U | exact j27.cell 5 U U) U ?_))))
   refine Q0 cal_61 U (kd_sp (j27.sp [] U) U) U ?_
   rintro _ w28 ⟨ck,rfl,j28⟩
   replace j28:=j28.jn U U
   have hK:=Sat.fold (As:=[QE ck [.map (some t.md)],Q6 Zl t.md (JF t.dr)]) (j28.pick [0,4,1,2,3,5,6,7,8,9,10,11,12,13] U)
   have hC29:=hK.sp [0] U
   refine Q0 cal_60 U (CU hC29 cal_100 (itS ck t.md (JF t.dr)) (fun ks h=> by have :=hd ks h;omega)) U ?_
   rintro _ w29 ⟨ns,hns,j29⟩
   replace j29:=j29.jn U U; clear hC29
   clear hK
   have hz2:=(j29.pick [1,0,2,3,4,5,6,7,8,9,10,11,12,13] U).flat; dsimp only[RX,RW]at hz2
   obtain⟨an,cn,hvn,_⟩:=hz2.own_shape 2 rfl; obtain rfl:=hvn
   have j30:=ZR hcm.tr (hz2.pick [3,4,5,1,6,0,2,7,8,9,10,11,12,13,14] U)
   have j31:=Xx (L:=L1) (j30.pick [3,4,5,0,6,1,2,7,8,9,10] U)
   have hnl:(Wl ns).length≤d:= by rw[YQ]; exact hd _ (Came.of_all hns)
   have hob:=allS hns
   first | refine XB underlying92 U U ?_ | refine Xo 2 j31 underlying92 U U U ?_ | refine Xo 4 j31 underlying92 U U U ?_
   refine Qb U U (Qf (Qc (Qh [9,8,5,1,0,111,112,113] U (Qw ?_))))
   refine Xe (fun K0 E0 W0=> ∃(j:Nat) (L1:LvD) (V2:VS),K0=(Wl ns).length -j∧E0=[(0,ptrV b 0),(1,intV id),(5,ptrV t.ad 0),(8,.slice ar (QQ ks).length cr),(9,.map (some mm)),(111,.slice an (Wl ns).length cn),(112,intV ((Wl ns).length:Int)),(113,intV (j:Int))]∧Sat W0 [WU b L1,ZT L1.sp (n+4*c+4*c*j) Fr V2,rowT kC (.slice ar (QQ ks).length cr) (QQ ks),Q6 X0 mm (KS made),rowT stC (.slice an (Wl ns).length cn) (Wl ns),F]∧(j≤(Wl ns).length)∧(CmI ex1 m L L1 V1 V2 id t (((Wl ns).take j).foldl (Ja t.parent) (comR (QG L V) (Zy V t) (QQ ks))))) (L0:=[(0,_),(1,_),(5,_),(8,_),(9,_),(111,_),(112,_),(113,_)]) ((Wl ns).length) (F6 U U U U U U U U) ⟨0,L1,V2, by omega,rfl,j31.pick [0,3,4,5,2,6] U, by omega,hcm⟩ ?_
   rintro _ _ w32 ⟨j,L1,V2,rfl,rfl,j32,hj,hcm⟩
   have hcd:4*c*j≤4*c*d:=Nat.mul_le_mul_left _ (by omega)
   refine Qe (Qa (Xn U U U (Qf (Qc (Qe (Qt U (fun h33=> ?_) (fun h33=> ?_)))))))
   ·obtain⟨ob,hjb⟩: ∃ob,(Wl ns)[j]? =some ob:=⟨_,Zd (by omega)⟩
    refine Qs (Qc (Qe (Qw (Qe (Qa (Xg stC 4 j j32 U U U (by first | rfl | omega) hjb DJ U ?_))))))
    intro bx34 capx34 hvx34
    refine XY 4 j 0 j32 U hvx34 U U hjb Yd U U (Qd U U (Qf (Qc (Qh [113,112,111,9,8,5,1,0,16] U (Qa (Qb U U (Qb U U (Qi U U (Qg U WZ U (Qo U QM (UU j32 0 U hcm.tr 0 U) U (Qb U U (Q0 cal_62 U (En (c:=2*c) (j32.sp [0,1] U) (hcm.sz2 ht hc) (by omega) hcm.inv hmd.nn (hcm.par (SeI.drops hne ((Wl ns).take j) hseR)) ob) U ?_))))))))))))
    rintro _ w35 ⟨L2,V3,hs,hab,ho,j35⟩
    replace j35:=j35.jn U U
    refine Qf (Ql (Qc (Qh [113,112,111,9,8,5,1,0] U (Qa (QK U U (by omega) (by omega) U ?_)))))
    refine Qb U U (Qf ?_)
    have hcm2:=hcm.step hs ho (fun _ q=>q.elim) hne (hab.trans (by rw[hcm.ab]))
    exact Q5 (L1:=[(0,_),(1,_),(5,_),(8,_),(9,_),(111,_),(112,_),(113,intV ((j+1:Nat):Int))]) (F6 U U U U U U U U) (k1:=(Wl ns).length -(j+1)) (by omega) ⟨j+1,_,_, by omega,rfl,(XM (m:=n+4*c+4*c*(j+1)) (by rw[Nat.mul_succ];omega) (j35.pick [1,0,2,3,4,5] U)).reorder [1,0,2,3,4,5] U, by omega, by rw[Hu hjb]; exact hcm2⟩
   refine QT (Qq (Qq (Qy (Qc (Qe (Qe (Qa (Qb U U ?_))))))))
   first | refine XB underlying123 U U ?_ | refine Xo 2 j32 underlying123 U U U ?_ | refine Xo 4 j32 underlying123 U U U ?_
   refine Qb U U (Qf (Qc (Qh [9,5,1,0,125,126,127] U (Qw ?_))))
   have hjl:j=(Wl ns).length:= by omega
   rw[hjl,List.take_length]at hcm
   have hgv0:=GvI.start (V0:=V) (made:=made) (A0:=(QG L V)) (order:=(QQ ks)) hcm hmd.mx
   have hseD:=SeI.drops hne (Wl ns) hseR
   rw[List.nil_append]at hseD
   have hcd2:4*c*j≤4*c*d:=Nat.mul_le_mul_left _ (by omega)
   have hz3:=(XM (m:=n+4*c+4*c*d+5*0) (by omega) (j32.pick [1,0,2,3,5] U)).reorder [1,0,2,3,4] U
   refine Xe (fun K0 E0 W0=> ∃(i:Nat) (L1:LvD) (V2:VS) (ex2:Int→Int),K0=(QQ ks).length -i∧E0=[(0,ptrV b 0),(1,intV id),(5,ptrV t.ad 0),(9,.map (some mm)),(125,.slice ar (QQ ks).length cr),(126,intV ((QQ ks).length:Int)),(127,intV (i:Int))]∧Sat W0 [WU b L1,ZT L1.sp (n+4*c+4*c*d+5*i) Fr V2,rowT kC (.slice ar (QQ ks).length cr) (QQ ks),Q6 X0 mm (KS made),F]∧(i≤(QQ ks).length)∧(GvI ex2 m L L1 V V1 V2 id t made (QG L V) ((Wl ns).foldl (Ja t.parent) (comR (QG L V) (Zy V t) (QQ ks))) (QQ ks) i)) (L0:=[(0,_),(1,_),(5,_),(9,_),(125,_),(126,_),(127,_)]) ((QQ ks).length) (DW U U U U U U U) ⟨0,L1,V2,ex1, by omega,rfl,hz3.pick [0,1,2,3,4] U, by omega,hgv0⟩ ?_
   rintro _ _ w36 ⟨i,L1,V2,ex2,rfl,rfl,j36,hi,hgv⟩
   refine Qe (Qa (Xn U U U (Qf (Qc (Qe (Qt U (fun h37=> ?_) (fun h37=> ?_)))))))
   ·obtain⟨k,hk⟩: ∃k,(QQ ks)[i]? =some k:=⟨_,Zd (by omega)⟩
    obtain⟨x,hl⟩: ∃x,t.lv k=some x:=Option.ne_none_iff_exists'.1 ((hord k).1 (List.mem_of_getElem? hk))
    refine Qs (Qc (Qe (Qw (Qe (Qa (Xg kC 2 i j36 U U U (by first | rfl | omega) hk U8 U ?_))))))
    intro bx38 capx38 hvx38
    refine ZG 2 i j36 U hvx38 U hk X2 Xf U U (Xa j36 WK U U ?_)
    intro kb wk39 hk39
    refine Q9 hk39 U U Xf U (by first | rfl | (simp [QV,Value.oneCell'];done)) (i:=0) U (by first | decide | exact Q7 U) ?_
    intro wk40 hk40; dsimp only[List.set]at hk40
    clear hk39
    replace hk40:=Z4 (k:=k) hk40
    refine Qf (Qc (Qh [127,126,125,9,5,1,0,18] U (Qe ?_)))
    have j41:=Ht hgv.cm.tr hl (hk40.pick [1,0,2,3,4,5] U)
    have j42:=j41.drew
    refine QH [0,1,2,3,4,5,6] [] ZW (by kernel_rfl) ?_
    refine QJ U U U (Xd U U U (QP U U U ZI (Q3 U U U (Qm U WF (by first | assumption | exact j42.cell 0 U U | exact j42.cell 2 U U | exact j42.cell 6 U U | exact j42.cell 10 U U)) ?_)))
    refine Q3 U U U (X3 U X2 Xf (by first | exact j42.blk 0 U | exact j42.blk 2 U | exact j42.blk 6 U | exact j42.blk 10 U) (by first | decide | exact Q7 U | (simp;done) | omega) U) ?_
    refine Q3 U U U (Xt (k:=k) 3 j42 keysKey underlying110 U U U Yz (u:=ptrV x.ad 0) (XJ hl)) (Zo U U U (VC.nil (Qc (Qh [127,126,125,9,5,1,0,18,19] U (Qe (Qa (Qb U U (Qi U U (Qg U Wo U (Qo U JB (by first | assumption | exact j42.cell 0 U U | exact j42.cell 2 U U | exact j42.cell 6 U U | exact j42.cell 10 U U) U ?_))))))))))
    refine Xp U U U (Qf (Qc (Qh [127,126,125,9,5,1,0,18,19,141] U (Qt U (fun h43=> ?_) (fun h43=> ?_)))))
    ·have hw:x.wr≠0#64:= fun e=>h43 (by rw[e];rfl)
     refine Qe (Qa (Qb U U ?_))
     refine Wi U X2 Xf (by first | exact j42.blk 0 U | exact j42.blk 2 U | exact j42.blk 6 U | exact j42.blk 10 U) (by first | decide | exact Q7 U | (simp;done) | omega) U U ?_
     rcases hmk:made k with _ | s
     ·refine Xj (k:=k) 13 j42 keysKey underlying105 U U U Hm (u:=intV 0) (g:=false) (by unfold KS; rw[hmk];rfl) (by unfold KS; rw[hmk];rfl) U ?_
      refine Qb U U (Qp U U U (Qp U U U (Qd U U (Qd U U (Qf (Qc (Qh [127,126,125,9,5,1,0,18,19,20,21] U (Qe (Qe (Qa (Qb U U (QU U U (Qf (Qc (QS U (fun h44=> ?_) (fun h44=> ?_))))))))))))))))
      ·refine Qe (Qa (Qb U U (Qi U U (Qg U W4 U (Qo U QM (by first | assumption | exact j42.cell 0 U U | exact j42.cell 2 U U | exact j42.cell 6 U U | exact j42.cell 10 U U) U ?_)))))
       refine Qd U U (Qf (Qc (Qh [127,126,125,9,5,1,0,18,19,20] U (Qa (Qb U U (Qb U U (Q0 MB U (Pb (j42.sp [6,9,11] U) (by omega) x.own) U ?_)))))))
       rintro _ w45 ⟨rfl,j45⟩
       replace j45:=j45.jn U U
       refine Qf (Qc (Qh [127,126,125,9,5,1,0,18,19,20] U ?_))
       have j46:=J4 (L:={L1 with sh:=Y1 L1.sh x.own}) (y:=x) hgv.cm.tr hl U (j45.pick [3,4,5,6,7,8,0,9,10,1,2,11,12,13,14] U)
       rw[Yh (L:={L1 with sh:=Y1 L1.sh x.own}) hgv.cm.tr hl]at j46
       have hdrk:k.1∈(Wl ns)→x.wr=BitVec.allOnes 64:= fun q=>hdr id _ k _ (Z6 ht) ((hob _).1 q) (Z8 hl)
       have hpar:=hgv.cm.par (SeI.gives hne ((QQ ks).take i) hseD)
       have j47:=j46.drew
       refine QH [0,1,2,3,4,5,6,7,8,9,10,11] [11] ZW (by kernel_rfl) ?_
       refine QJ U U U (QJ U U U (Xd U U U (QP U U U WZ (Q3 U U U (Qm U QM (UU j47 0 U hgv.cm.tr 0 U)) ?_))))
       refine Q3 U U U (X3 U X2 Xf (by first | exact j47.blk 2 U) (by first | decide | exact Q7 U | (simp;done) | omega) U) ?_
       refine QJ U U U (QJ U U U (Xd U U U (QP U U U Wo (Q3 U U U (Qm U JB (TA j47 0 U hgv.cm.tr hl 3 U)) (Xl U U U U U U ?_)))))
       have hr:=hgv.cm.ref (hgv.own_alive hl) (Y1 L1.sh x.own)
       have hnr:NN (fun j=>ex2 j+dl x.own j):=nn_add hgv.nn
       have hcon:=(YA (V:=V2) (s:=x.own) (j:=x.own)).trans (hgv.con_own hmd hI ht hk hl hw hmk)
       refine Q0 EK U (TM (j47.sp [0,1] U) (by omega) hr.inv hnr hm hpar (fun h0=> by have :=hgv.nn x.own h0; show 1≤ex2 x.own+dl x.own x.own; rw[Wx];omega) k x.wr (fun h0=>hgv.ag hI hseD hne hk hnd hdrk (hr.ab.trans hgv.cm.ab.symm) hcon h0)) U ?_
       rintro _ w48 ⟨L2,V3,hs,hab,ho,j48⟩
       replace j48:=j48.jn U U
       refine XH (Xq (by kernel_rfl)) ?_
       refine VC.nil (Ql (Qc (Qh [127,126,125,9,5,1,0] U (Qa (QK U U (by omega) (by omega) U ?_)))))
       refine Qb U U (Qf ?_)
       exact Q5 (L1:=[(0,_),(1,_),(5,_),(9,_),(125,_),(126,_),(127,intV ((i+1:Nat):Int))]) (DW U U U U U U U) (k1:=(QQ ks).length -(i+1)) (by omega) ⟨i+1,_,_,_, by omega,rfl,(XM (m:=n+4*c+4*c*d+5*(i+1)) (by omega) (j48.pick [1,0,3,4,5] U)).reorder [1,0,2,3,4] U, by omega,hgv.own_next hmd hI hne ht hk hnd hl hw hmk hs hab ho⟩
      exact absurd h44 (by decide)
     refine Xj (k:=k) 13 j42 keysKey underlying105 U U U Hm (u:=intV s) (g:=true) (by unfold KS; rw[hmk];rfl) (by unfold KS; rw[hmk];rfl) U ?_
     refine Qb U U (Qp U U U (Qp U U U (Qd U U (Qd U U (Qf (Qc (Qh [127,126,125,9,5,1,0,18,19,20,21] U (Qe (Qe (Qa (Qb U U (QU U U (Qf (Qc (QS U (fun h49=> ?_) (fun h49=> ?_))))))))))))))))
     ·exact absurd h49 (by decide)
     refine Qs (Qc (Qh [127,126,125,9,5,1,0,18,19,20] U ?_))
     have j50:=J4 (L:=L1) (y:=x) hgv.cm.tr hl U (j42.pick [0,1,2,3,4,5,6,7,8,9,10,11,12,13,14] U)
     rw[Yh hgv.cm.tr hl]at j50
     have hdrk:k.1∈(Wl ns)→x.wr=BitVec.allOnes 64:= fun q=>hdr id _ k _ (Z6 ht) ((hob _).1 q) (Z8 hl)
     have hpar:=hgv.cm.par (SeI.gives hne ((QQ ks).take i) hseD)
     have j51:=j50.drew
     refine QH [0,1,2,3,4,5,6,7,8,9,10,11] [11] ZW (by kernel_rfl) ?_
     refine QJ U U U (QJ U U U (Xd U U U (QP U U U WZ (Q3 U U U (Qm U QM (UU j51 0 U hgv.cm.tr 0 U)) ?_))))
     refine Q3 U U U (X3 U X2 Xf (by first | exact j51.blk 1 U) (by first | decide | exact Q7 U | (simp;done) | omega) U) ?_
     refine QJ U U U (QJ U U U (Xd U U U (QP U U U Wo (Q3 U U U (Qm U JB (TA j51 0 U hgv.cm.tr hl 3 U)) (Xl U U U U U U ?_)))))
     refine Q0 EK U (TM (j51.sp [0,2] U) (by omega) hgv.cm.inv hgv.nn hm hpar (fun h0=>hgv.ge hk hnd hmk h0) k x.wr (fun h0=>hgv.ag hI hseD hne hk hnd hdrk U (hgv.con_made hmd hI hk hnd hl hmk) h0)) U ?_
     rintro _ w52 ⟨L2,V3,hs,hab,ho,j52⟩
     replace j52:=j52.jn U U
     refine XH (Xq (by kernel_rfl)) ?_
     refine VC.nil (Ql (Qc (Qh [127,126,125,9,5,1,0] U (Qa (QK U U (by omega) (by omega) U ?_)))))
     refine Qb U U (Qf ?_)
     exact Q5 (L1:=[(0,_),(1,_),(5,_),(9,_),(125,_),(126,_),(127,intV ((i+1:Nat):Int))]) (DW U U U U U U U) (k1:=(QQ ks).length -(i+1)) (by omega) ⟨i+1,_,_,_, by omega,rfl,(XM (m:=n+4*c+4*c*d+5*(i+1)) (by omega) (j52.pick [1,0,3,4,5] U)).reorder [1,0,2,3,4] U, by omega,hgv.made_next hmd hI hne hk hnd hl hw hmk hs hab ho⟩
    have hw0:x.wr=0#64:=zerW (Decidable.not_not.1 h43)
    refine Qs (Ql (Qc (Qa (QK U U (by omega) (by omega) U ?_))))
    refine Qb U U (Qf ?_)
    have j53:=J4 (L:=L1) (y:=x) hgv.cm.tr hl U (j42.pick [0,1,2,3,4,5,6,7,8,9,10,11,12,13,14] U)
    rw[Yh hgv.cm.tr hl]at j53
    exact Q5 (L1:=[(0,_),(1,_),(5,_),(9,_),(125,_),(126,_),(127,intV ((i+1:Nat):Int))]) (DW U U U U U U U) (k1:=(QQ ks).length -(i+1)) (by omega) ⟨i+1,L1,V2,_, by omega,rfl,(XM (m:=n+4*c+4*c*d+5*(i+1)) (by omega) (j53.pick [2,0,3,4,5] U)).reorder [1,0,2,3,4] U, by omega,hgv.skip hmd hk hnd hl hw0⟩
   refine QT (Qq (Qq (Qy (Qc (Qe ?_)))))
   have hil:i=(QQ ks).length:= by omega
   rw[hil]at hgv
   have hfin:=hgv.fin (fun k hk=>((hmd.dom k).1 hk).1)
   refine Qa (Qb U U (Qb U U (Q0 EJ U (Ds (c:=2*c) (ex:= fun _=>0) (j36.sp [0,1] U) (hgv.cm.sz2 ht hc) (by omega) hfin (fun _ _=>Int.le_refl _) hgv.cm.tr (hgv.cm.noch hch)) U ?_)))
   rintro _ w54 ⟨L3,V4,hs3,hab3,hp3,ht3,j54⟩
   replace j54:=j54.jn U U
   exact Qf (Qc (Mc (L':=[]) .nil (Qe (Qa (Qd U U (Qf (Qc (Qv (QR (.inr U) U U (⟨_,rfl,L3,V4,.inl ⟨rfl,gv_end hI ht hmd hgv hord hnd hob hs3 hab3 hp3 ht3⟩,(XM (m:=n+(16*c+4*c*d)) (by omega) (j54.pick [1,0,4] U)).reorder [1,0,2] U⟩))))))))))
  refine⟨_,U, ?_⟩
  replace j6:=j6.jn U U
  refine Qb U U (Qp U U U (Qp U U U (Qd U U (Qd U U (Qf (Qc (Qh [5,1,0,8,9,10] U (Qe (Qe (Qa (Qb U U (Xp U U U (Qf (Qc (Qt U (fun h55=> ?_) (fun h55=> ?_))))))))))))))))
  ·exact Qe (Qa (Qb U U (Qd U U (Qf (Qc (Qv (Qr (QR (.inr U) U U (⟨_,rfl,L,V1,.inr ⟨rfl,rfl,(QQ ks),hord,hnd,hmi,hmab,hmf,hmal⟩,(XM (m:=n+(16*c+4*c*d)) (by omega) (j6.pick [1,0,3] U)).reorder [1,0,2] U⟩)))))))))
  exact absurd (by decide) h55
 dsimp only[List.set]at hSN
 obtain⟨u,hu,rfl⟩:=Pd hgk
 refine Qp U U U (Qf (Qc (Qe (XD U (Qs (Qc (Qw (Qe (Qa (JG 2 hSN U hgk U U (Qp U U U (Qd U U (Qf (Qc (Qe (Qa (Qb U U (Qi U U (Qg U WZ U (Qo U QM ((ZQ (hSN.pull 3 U) hu).cell 0 U U) U (Qb U U (Xc U U U (Qf (Qc (Qh [34,5,1,0,44] U (Qt U (fun h56=> ?_) (fun h56=> ?_)))))))))))))))))))))))))))
 ·exact absurd h56 (hch _ _ hu)
 exact Qs (Ql (Q5 (L1:=[(0,_),(1,_),(5,_),(34,_)]) (Vj U U U U) (k1:=left2) (by omega) ⟨_,_,_,rfl,rfl,hSN.pick [0,1,2,3,4,5,6] U⟩))
def Ex (A:LvA) (t:TrA) (k:KD):Bs:= match t.lv k with
  | some x=> if x.wr=0#64 then(if t.dr k.1=true then zer else A.pres k)else BK (A.pres k) x.own x.wr
  | none=> if t.dr k.1=true then zer else A.pres k
theorem LvA.eq2 {A B:LvA} (h1:A.pres=B.pres) (h2:A.tr=B.tr):A=B:= by cases A; cases B; simp at h1 h2; subst h1; subst h2;rfl
theorem Na {A:LvA} {k:KD}:WX A 0 k=A.pres k:= by unfold WX; rw[JM,if_pos U]
theorem gvS0_tr {A0 A:LvA} {t:TrA} {j:KD}:(Gg A0 0 t A j).tr=A.tr:= by
  unfold Gg
  cases t.lv j with
  | none=>rfl
  | some x=>
    dsimp only
    by_cases q:x.wr=0#64
    · rw[if_pos q]
    · rw[if_neg q,if_pos U]
theorem SG {A0 A:LvA} {t:TrA} {j k:KD} (h:k≠j):(Gg A0 0 t A j).pres k=A.pres k:= by
  unfold Gg
  cases t.lv j with
  | none=>rfl
  | some x=>
    dsimp only
    by_cases q:x.wr=0#64
    · rw[if_pos q]
    · rw[if_neg q,if_pos U]; exact XT h
theorem DB {A0:LvA} {t:TrA}: ∀(l:List KD) (A:LvA),l.Nodup→(l.foldl (Gg A0 0 t) A).tr=A.tr∧ ∀k,(l.foldl (Gg A0 0 t) A).pres k= if k∈l then(match t.lv k with | none=>A.pres k | some x=> if x.wr=0#64 then A.pres k else RP A0 0 k x)else A.pres k
  | [],A,_=>⟨rfl, fun k=> by simp⟩
  | j::l,A,hn=> by
    obtain⟨hj,hn⟩:=List.nodup_cons.1 hn
    obtain⟨a,b⟩:=DB (A0:=A0) (t:=t) l (Gg A0 0 t A j) hn
    refine⟨a.trans gvS0_tr, fun k=> ?_⟩
    show(l.foldl (Gg A0 0 t) (Gg A0 0 t A j)).pres k=_
    rw[b k]
    by_cases e:k=j
    · subst e
      rw[if_neg hj,if_pos List.mem_cons_self]
      unfold Gg
      cases t.lv k with
      | none=>rfl
      | some x=>
        dsimp only
        by_cases q:x.wr=0#64
        · rw[if_pos q,if_pos q]
        · rw[if_neg q,if_neg q,if_pos U]; exact XK
    · rw[SG e]
      by_cases q:k∈l
      · rw[if_pos q,if_pos (List.mem_cons_of_mem _ q)]
      · rw[if_neg q,if_neg (by simp [e,q])]
theorem B2: ∀(l:List Bs) (A:LvA),(l.foldl (Ja 0) A).tr=A.tr∧ ∀k,(l.foldl (Ja 0) A).pres k= if k.1∈l then zer else A.pres k
  | [],A=>⟨rfl, fun k=> by simp⟩
  | ob::l,A=> by
    obtain⟨a,b⟩:=B2 l (Ja 0 A ob)
    have h1:(Ja 0 A ob).tr=A.tr:= by unfold Ja; rw[if_pos U];rfl
    refine⟨a.trans h1, fun k=> ?_⟩
    show(l.foldl (Ja 0) (Ja 0 A ob)).pres k=_
    rw[b k]
    have h2:(Ja 0 A ob).pres k= if k.1=ob then zer else A.pres k:= by
      unfold Ja
      rw[if_pos U]
      show Wv (fun j:KD=>j.1=ob) zer A.pres k=_
      unfold Wv
      by_cases e:k.1=ob
      · rw[if_pos e,if_pos e]
      · rw[if_neg e,if_neg e]
    rw[h2]
    by_cases q:k.1∈l
    · rw[if_pos q,if_pos (List.mem_cons_of_mem _ q)]
    · rw[if_neg q]
      by_cases e:k.1=ob
      · rw[if_pos e,if_pos (by simp [e])]
      · rw[if_neg e,if_neg (by simp [e,q])]
theorem Fc {A:LvA} {id:Int} {t:TrA} {order:List KD} {obs:List Bs} (hp:t.parent=0) (hn:order.Nodup) (ho: ∀k,k∈order↔t.lv k≠none) (hob: ∀ob,ob∈obs↔t.dr ob=true):
    RT A id t order obs=⟨Ex A t,QO A.tr id none⟩:= by
  obtain⟨a,b⟩:=DB (A0:=A) (t:=t) order (obs.foldl (Ja 0) A) hn
  obtain⟨c,d⟩:=B2 obs A
  unfold RT
  rw[hp,if_pos U]
  apply LvA.eq2
  · funext k
    show(order.foldl (Gg A 0 t) (obs.foldl (Ja 0) A)).pres k=Ex A t k
    rw[b k,d k]
    unfold Ex
    cases q:t.lv k with
    | none=>
      rw[if_neg (by rw[ho,q]; simp)]
      by_cases e:t.dr k.1=true
      · rw[if_pos ((hob _).2 e),if_pos e]
      · rw[if_neg (fun h=>e ((hob _).1 h)),if_neg e]
    | some x=>
      rw[if_pos ((ho k).2 (by rw[q]; simp))]
      dsimp only
      by_cases w:x.wr=0#64
      · rw[if_pos w,if_pos w]
        by_cases e:t.dr k.1=true
        · rw[if_pos ((hob _).2 e),if_pos e]
        · rw[if_neg (fun h=>e ((hob _).1 h)),if_neg e]
      · rw[if_neg w,if_neg w];unfold RP; rw[Na]
  · show QO (order.foldl (Gg A 0 t) (obs.foldl (Ja 0) A)).tr id none=QO A.tr id none
    rw[a,c]
def LsP (p m c e:Nat) (A:LvA) (L:LvD) (V:VS):Prop:=L.sp=p∧LvI m L V∧QG L V=A∧AliveLe V c∧SzLe L e
def Yr (b p n m c e:Nat) (A:LvA):Th:=CH fun L=>CH fun V=>starL [JN (LsP p m c e A L V),WU b L,ZT L.sp n (default:SlW).f V]
section
variable {w:World} {b p n m c e:Nat} {A:LvA} {As:List Th}
theorem H5 (h:Sat w (Yr b p n m c e A::As)): ∃L V,LsP p m c e A L V∧Sat w (WU b L::ZT L.sp n (default:SlW).f V::As):= by
  obtain⟨L,h⟩:=h.ex
  obtain⟨V,h⟩:=h.ex
  have h:=h.flat
  dsimp only[RX,RW]at h
  obtain⟨hp,h⟩:=h.pure_elim
  exact⟨L,V,hp,h⟩
theorem Hf {L:LvD} {V:VS} (hp:LsP p m c e A L V) (h:Sat w (WU b L::ZT L.sp n (default:SlW).f V::As)):Sat w (Yr b p n m c e A::As):=
  Sat.ex_intro L (Sat.ex_intro V (Sat.fold (As:=[JN (LsP p m c e A L V),WU b L,ZT L.sp n (default:SlW).f V]) (Sat.pure_intro hp h)))
end
def VA (A:LvA) (t:TrA):Prop:= ∀k x,t.lv k=some x→ ∀j,j<64→x.rd.getLsbD j=true→x.base[j]? =(WX A t.parent k)[j]?
theorem VA_iff {m:Nat} {L:LvD} {V:VS} {t:TrD} (hI:LvI m L V):(∀k x,t.lv k=some x→VK L V t k x)↔VA (QG L V) (Zy V t):= by
  constructor
  · intro h k y hy j hj hr
    cases q:t.lv k with
    | none=> rw[UF q]at hy; cases hy
    | some x=>
      rw[Z8 q]at hy
      cases hy
      have h1:=h k x q j hj hr
      rw[hI.sees]at h1
      exact h1
  · intro h k x hx j hj hr
    have h1:=h k _ (Z8 hx) j hj hr
    rw[hI.sees]
    exact h1
theorem LF {w:World} {b p n m c e:Nat} {A:LvA} {F:Th} (hS:Sat w [Yr b p n m c e A,F]) (hn:n≤60000000000) (hm:m<Wd) (id parent:Int):
    Calls prog 48 #[ptrV b 0,intV id,intV parent] w (Ret fun v w'=>v=intV (Cz A id parent)∧Sat w' [Yr b p n (m+1) c e (UD A id parent),F]):= by
  obtain⟨L,V,⟨h1,h2,rfl,h4,h5⟩,j1⟩:=H5 hS
  refine(begI_sp j1 h2 id parent).mono fun ew w h=>h.mono fun v w h=> ?_
  obtain⟨L',rfl,hs,ha,hS⟩:=h
  exact⟨U,Hf ⟨hs.sp.trans h1,hs.inv,ha,hs.al _ h4,hs.sz _ h5⟩ hS⟩
theorem LE {w:World} {b p n m c e:Nat} {A:LvA} {F:Th} (hS:Sat w [Yr b p n m c e A,F]) (hn:n≤60000000000) (hm:m<Wd) (ob:Bs) (a:Int) (hr:0≤a∧a<16384):
    Calls prog 41 #[ptrV b 0,intV 0,strV ob,intV a] w (Ret fun v w'=>v=Y3 (btA (A.pres (ob,a/ 64)) (a%64))∧Sat w' [Yr b p n m c e A,F]):= by
  obtain⟨L,V,⟨h1,h2,rfl,h4,h5⟩,j1⟩:=H5 hS
  refine(Fi j1 hn ob a h2 hm hr).mono fun ew w h=>h.mono fun v w h=> ?_
  exact⟨h.1,Hf ⟨h1,h2,U,h4,h5⟩ h.2⟩
theorem LD {w:World} {b p n m c e:Nat} {A:LvA} {F:Th} (hS:Sat w [Yr b p n m c e A,F]) (hn:n≤60000000000) (hm:m<Wd) {id:Int} {tA:TrA} (ht:A.tr id=some tA) (hc:c+1<(default:SlW).f) (ob:Bs) (a:Int) (bt:UInt8) (hr:0≤a∧a<16384):
    Calls prog 39 #[ptrV b 0,intV id,strV ob,intV a,Y3 bt] w (Ret fun v w'=>v=intV 0∧Sat w' [Yr b p (n+5) m (c+1) (e+1) (Ww A id (ob,a/ 64) (wrX (ZN A id (ob,a/ 64)) (a%64) bt)),F]):= by
  obtain⟨L,V,⟨h1,h2,rfl,h4,h5⟩,j1⟩:=H5 hS
  obtain⟨t,ht1,rfl⟩:=GI ht
  refine(Lb j1 hn ob a bt h2 hm ht1 hr).mono fun ew w h=>h.mono fun v w h=> ?_
  obtain⟨L',V',er,rfl,hs,hq,hS⟩:=h
  rcases hq with⟨rfl,ha⟩ | ⟨_,_,hT⟩
  · exact⟨U,Hf ⟨hs.sp.trans h1,hs.inv,ha,hs.al _ h4,hs.sz _ h5⟩ hS⟩
  · have :=hT c h4
    omega
theorem TB {w:World} {b p n m c e:Nat} {A:LvA} {F:Th} (hS:Sat w [Yr b p n m c e A,F]) (hn:n≤60000000000) (hm:m<Wd) (hG:Ent F GT) {id:Int} {tA:TrA} (ht:A.tr id=some tA):
    Calls prog 30 #[ptrV b 0,intV id] w (Ret fun v w'=> ∃r:Bool,v= .bool r∧(r=true↔VA A tA)∧Sat w' [Yr b p n m c e A,F]):= by
  obtain⟨L,V,⟨h1,h2,rfl,h4,h5⟩,j1⟩:=H5 hS
  obtain⟨t,ht1,rfl⟩:=GI ht
  refine(Sg j1 hn h2 hm hG ht1).mono fun ew w h=>h.mono fun v w h=> ?_
  obtain⟨r,rfl,hr,hS⟩:=h
  exact⟨r,U,hr.trans (VA_iff h2),Hf ⟨h1,h2,U,h4,h5⟩ hS⟩
def PartLe (t:TrA) (q:Nat):Prop:= ∃l:List KD,l.length≤q∧ ∀k x,t.lv k=some x→x.wr≠0#64→x.wr≠BitVec.allOnes 64→k∈l
def DrLe (t:TrA) (d:Nat):Prop:= ∃l:List Bs,l.length≤d∧ ∀ob,t.dr ob=true→ob∈l
theorem PartLe.part {V:VS} {t:TrD} {q:Nat} {order:List KD} (h:PartLe (Zy V t) q) (hn:order.Nodup):JP t order≤q:= by
  obtain⟨l,h1,h2⟩:=h
  refine Nat.le_trans ?_ h1
  unfold JP
  refine Wn (hn.filter _) fun k hk=> ?_
  obtain⟨_,hk⟩:=List.mem_filter.1 hk
  simp only[decide_eq_true_eq]at hk
  obtain⟨x,hx,a,b⟩:=hk
  exact h2 k _ (Z8 hx) a b
theorem DrLe.came {t:TrD} {V:VS} {d:Nat} (h:DrLe (Zy V t) d) {ks:List Bs} (hc:Came (JF t.dr) ks):ks.length≤d:= by
  obtain⟨l,h1,h2⟩:=h
  refine Nat.le_trans (Wn hc.nodup fun k hk=> ?_) h1
  have h3:=hc.has k hk
  refine h2 k ?_
  show t.dr k=true
  cases q:t.dr k with
  | true=>rfl
  | false=> exact absurd (by unfold JF; rw[q];rfl) h3
theorem PT {L:LvD} {V:VS} {id:Int} (h: ∀i u,(QG L V).tr i=some u→u.parent≠id): ∀i u,L.tr i=some u→u.parent≠id:= fun i u hu=>h i _ (Z6 hu)
theorem ls_com {w:World} {b p n m c e:Nat} {A:LvA} {F:Th} (hS:Sat w [Yr b p n m c e A,F]) (hn:n≤60000000000) (hm:m<Wd) {d q:Nat} (hn2:n+(16*e+4*e*d)≤60000000000) (hdm:d≤90000000000) {id:Int} {tA:TrA} (ht:A.tr id=some tA) (hch: ∀i u,A.tr i=some u→u.parent≠id) (hdr:DrA A) (hd:DrLe tA d) (hq:PartLe tA q) (hcq:c+q<(default:SlW).f):
    Calls prog 31 #[ptrV b 0,intV id] w (Ret fun v w'=> ∃order obs,v=intV 0∧((∀k,k∈order↔tA.lv k≠none)∧order.Nodup∧(∀ob,ob∈obs↔tA.dr ob=true))∧Sat w' [Yr b p (n+(16*e+4*e*d)) m (c+q) e (RT A id tA order obs),F]):= by
  obtain⟨L,V,⟨h1,h2,rfl,h4,h5⟩,j1⟩:=H5 hS
  obtain⟨t,ht1,rfl⟩:=GI ht
  refine(Fb j1 hn2 h2 hm h5 ht1 (PT hch) hdr (fun ks h=>hd.came h) hdm).mono fun ew w h=>h.mono fun v w h=> ?_
  obtain⟨L',V',h,hS⟩:=h
  rcases h with⟨rfl,order,obs,a1,a2,a3,a4,a5,a6,a7,a8⟩ | ⟨_,_,order,a1,a2,a3,a4,a5,a6⟩
  · refine⟨order,obs,rfl,⟨fun k=>(a1 k).trans ?_,a2,a3⟩,Hf ⟨a5.trans h1,a4,a6,(a8 _ h4).mono (Nat.add_le_add_left (hq.part a2) c),a7 _ h5⟩ hS⟩
    cases r:t.lv k with
    | none=> rw[UF r]; simp
    | some x=> rw[Z8 r]; simp
  · have x1:=a5 _ h4
    have x2:=hq.part a2
    omega
