/- leaves: Commit -/
import Derived.Test.YtkcjfoaejijdoaaGreatDoorLv26
set_option linter.unusedVariables false
set_option maxRecDepth 100000
set_option maxHeartbeats 3200000
namespace Go.Proofs.YtkcjfoaejijdoaaGreatDoor
open Go.RowKit M
set_option linter.unusedSectionVars false
variable [Inhabited SlW]
noncomputable def comR (A:LvA) (t:TrA) (l:List KD):LvA:= if t.parent=0 then A else l.foldl (rdS t.parent t) A
theorem SeI.comR {A0:LvA} {id:Int} {t:TrA} {l:List KD} (h:SeI A0 A0 id t.parent t [] []) (hne:id≠t.parent):SeI A0 (comR A0 t l) id t.parent t [] []:= by
  unfold Go.Proofs.YtkcjfoaejijdoaaGreatDoor.comR
  by_cases h0:t.parent=0
  · rw[if_pos h0]; exact h
  · rw[if_neg h0]; exact SeI.reads hne h0 l h
theorem comA_eq {A:LvA} {id:Int} {t:TrA} {l:List KD} {obs:List Bs}:qak A id t l obs=PP (l.foldl (BX A t.parent t) (obs.foldl (J8 t.parent) (comR A t l))) id:=rfl
theorem SeI.first {m:Nat} {L:LvD} {V:VS} {id:Int} {t:TrD} (hI:LvI m L V) (ht:L.tr id=some t):SeI (Q8 L V) (Q8 L V) id t.parent (ZD V t) [] []:=
  SeI.start (Zv ht) fun h0=> by
    obtain⟨_,r,_,h2⟩:=hI.rank
    have a:=((h2 id t ht).resolve_left h0).1
    cases q:L.tr t.parent with
    | none=> exact absurd q a
    | some tp=> exact⟨_,Zv q⟩
theorem allS {f:Bs→Bool} {ks:List Bs} (h:AllC (Jg f) ks) (ob:Bs):ob∈Zc ks↔f ob=true:= by
  rw[(H2 ks).mem_iff,h.mem]
  unfold Jg
  cases f ob<;> simp
def ComY (m:Nat) (L L':LvD) (V V':VS) (id:Int) (t:TrD):Prop:= ∃order obs,(∀k,k∈order↔t.lv k≠none)∧order.Nodup∧(∀ob,ob∈obs↔t.dr ob=true)∧LvI m L' V'∧L'.sp=L.sp∧Q8 L' V'=qak (Q8 L V) id (ZD V t) order obs∧(∀c,SzLe L c→SzLe L' c)∧ ∀c,AliveLe V c→AliveLe V' (c+Yr t order)
def ComN (m Fr:Nat) (L:LvD) (V V':VS) (t:TrD):Prop:= ∃order:List KD,(∀k,k∈order↔t.lv k≠none)∧order.Nodup∧LvI m L V'∧Q8 L V'=Q8 L V∧(∀c,AliveLe V c→Fr≤c+Yr t order)∧ ∀c,AliveLe V c→AliveLe V' (c+Yr t order)
theorem gv_end {m:Nat} {L L1 L2:LvD} {V V1 V2 V3:VS} {id:Int} {t:TrD} {made:KD→Option Int} {ex ex0:Int→Int} {order:List KD} {obs:List Bs} (hI:LvI m L V) (ht:L.tr id=some t) (hmd:MdI m L V V1 t ex0 made order) (hgv:GvI ex m L L1 V V1 V2 id t made (Q8 L V) (obs.foldl (J8 t.parent) (comR (Q8 L V) (ZD V t) order)) order order.length)
    (hord: ∀k,k∈order↔t.lv k≠none) (hnd:order.Nodup) (hob: ∀ob,ob∈obs↔t.dr ob=true) (hs:StepX (fun _=>0) m L1 V2 (fun _=>0) m 0 0 L2 V3) (hab:Q8 L2 V3=PP (Q8 L1 V2) id) (hp:L2.pres=L1.pres) (hT:L2.tr=Xz L1.tr id none):ComY m L L2 V V3 id t:= by
  refine⟨order,obs,hord,hnd,hob,hs.inv,hs.sp.trans hgv.cm.sp, ?_, fun c hc=>hgv.cm.ok.szRem (Lb ht) (hI.rank.none0 ht) hp hT hc, fun c hc=>hs.al _ (hgv.cm.al _ (hmd.al c hc))⟩
  rw[hab,comA_eq,hgv.cm.ab,List.take_length]
  rfl
theorem nn_add {ex:Int→Int} {s:Int} (h:NN ex):NN (fun j=>ex j+dl s j):= fun j hj=> by
  show 0≤ex j+dl s j
  have :=h j hj
  by_cases e:j=s
  · subst e; rw[Ww];omega
  · rw[Ju e];omega
theorem Al {w:World} {m c d:Nat} {b n Fr:Nat} {L:LvD} {V:VS} {F:Th} (hS:Sat w [ZY b L,Zq L.sp n Fr V,F]) (hn:n+(16*c+4*c*d)≤60000000000) (hI:LvI m L V) (hm:m<Zp) (hc:SzLe L c) {id:Int} {t:TrD} (ht:L.tr id=some t) (hch: ∀i u,L.tr i=some u→u.parent≠id) (hdr:DrA (Q8 L V)) (hd: ∀ks,Came (Jg t.dr) ks→ks.length≤d) (hdm:d≤90000000000):
    Calls Tryz.prog 13 #[ptrV b 0,intV id] w (Ret fun v w'=> ∃L' V',((v=intV 0∧ComY m L L' V V' id t)∨(v=intV 6∧L'=L∧ComN m Fr L V V' t))∧Sat w' [ZY b L',Zq L'.sp (n+(16*c+4*c*d)) Fr V',F]):= by
 replace hS:=XX hS
 refine Qq Tryz.func13 rfl Tryz.ntmps13 rfl ?_
 refine Qd (Qa (Qe rfl rfl (Qf (Qc (Qd (Qa (Qb rfl rfl (Qk rfl rfl (Qg rfl Wu rfl (Qo rfl Y4 (hS.cell 0 rfl rfl) rfl (Qb rfl rfl (X2 (k:=id) 2 hS keysInt Tryz.underlying82 rfl rfl rfl Hv (u:=ptrV t.ad 0) (Zg ht) rfl (Qe rfl rfl (Qf (Qc (Qd (Qd (Qa (Qb rfl rfl (ZJ Tryz.underlying94 rfl rfl rfl (Qf (Qc (Qi [1,0,4,5,29] rfl (QV rfl (Qr (Qc (Qd (Qd (Qa (Qb rfl rfl (Qk rfl rfl (Qg rfl Wu rfl (Qo rfl Y4 (hS.cell 0 rfl rfl) rfl (Jx 2 hS Tryz.underlying82 rfl rfl rfl ?_))))))))))))))))))))))))))))))))))
 intro RR left0 wR hSR; dsimp only[List.set]at hSR
 refine Qf (Qc (Qw (Xe (fun K0 E0 W0=> ∃(dn:Int→Prop) (cur:Option Int) (left:Nat),K0=left∧E0=[(0,ptrV b 0),(1,intV id),(5,ptrV t.ad 0),(34,ptrV RR 0)]∧Sat W0 [QF b [ptrV L.sp 0,.map (some L.mp),.map (some L.mt),intV L.cur,.map (some L.ms)],Q3 Xy L.mp (Zt L.pres),J2 Xf L.mt RR (Zj TrD.ad L.tr) dn cur left,Z0 K7 L.tr,Q3 Xf L.ms (Jg L.sh),Zq L.sp n Fr V,F]) (L0:=[(0,_),(1,_),(5,_),(34,_)]) (left0) (Vk rfl rfl rfl rfl) ⟨_,_,_,rfl,rfl,hSR.pick [0,1,2,3,4,5,6] rfl⟩ ?_)))
 rintro _ _ w1 ⟨dn,cur,left,rfl,rfl,hS1⟩
 refine Qd (Qa (Yh 2 hS1 keysInt.inj rfl rfl rfl (fun hdone=> ?_) (fun i v left2 wN hleft hgk hnd hSN=> ?_)))
 ·refine Qt rfl rfl rfl (Qf (Qc (Qd (QV rfl (QS (Qp (Qp (Qz (Qc (Qd ?_))))))))))
  have hz0:=WG (hS1.pick [2,0,1,3,4,5,6] rfl)
  have hS2:=ZE (hz0.pick [3,0,1,2,4,5,6] rfl) ht
  refine Qa (Qb rfl rfl (Qk rfl rfl (Qg rfl Wd rfl (Qo rfl JH (hS2.cell 0 rfl rfl) rfl ?_))))
  refine Qv Fu rfl (Mr (hS2.sp [1] rfl) (fun ks h=> by have :=hc.keysL ht h;omega)) rfl ?_
  rintro _ w3 ⟨ks,hks,hS3⟩
  replace hS3:=hS3.jn rfl rfl
  clear hS2
  obtain⟨ar,cr,hvr,_⟩:=hS3.own_shape 0 rfl; obtain rfl:=hvr
  refine Qe rfl rfl (Qf (Qc (Qi [5,1,0,8] rfl (Qd ?_))))
  have hS4:=Zm ht (hS3.pick [2,1,3,4,5,0,6,7,8,9,10,11] rfl)
  have hS5:=Xd (L:=L) (hS4.pick [3,4,2,0,5,1,6,7] rfl)
  have hord:=qbc hks
  have hnd:=HP hks.nodup
  have hoc:(QP ks).length≤c:= by rw[WF]; exact hc.keysL ht (Came.of_all hks)
  refine Qa (Qb rfl rfl (Qb rfl rfl (Qb rfl rfl (XY cal_50 rfl (SH (hS5.sp [0,2,1] rfl) (by omega) hI hm ht hord hnd hoc) rfl ?_))))
  rintro e w6 ⟨_,rfl,(⟨V1,mm,made,ex1,rfl,hmd,hS6⟩ | ⟨V1,rfl,hmi,hmab,hmf,hmal,hS6⟩)⟩
  ·refine⟨_,rfl, ?_⟩
   replace hS6:=hS6.jn rfl rfl
   clear hS5
   refine Qb rfl rfl (Qt rfl rfl rfl (Qt rfl rfl rfl (Qe rfl rfl (Qe rfl rfl (Qf (Qc (Qi [5,1,0,8,9,10] rfl (Qd (Qd (Qa (Qb rfl rfl (X0 rfl rfl rfl (Qf (Qc (Qs rfl (fun h7=> ?_) (fun h7=> ?_))))))))))))))))
   ·exact absurd rfl h7
   have hne:id≠t.parent:= fun q=>hch id t ht q.symm
   have hse0:=SeI.first hI ht
   have hcm0:=CmI.start hmd.inv ht
   rw[hmd.ab]at hcm0
   refine Qr (Qc (Ue (fun E0 W0=> ∃(L1:LvD) (V2:VS),E0=[(0,ptrV b 0),(1,intV id),(5,ptrV t.ad 0),(8,.slice ar (QP ks).length cr),(9,.map (some mm))]∧Sat W0 [ZY b L1,Zq L1.sp (n+4*c) Fr V2,rowT kC (.slice ar (QP ks).length cr) (QP ks),Q3 Xy mm (Gy made),F]∧(CmI ex1 m L L1 V1 V2 id t (comR (Q8 L V) (ZD V t) (QP ks)))) ?_ ?_))
   ·refine Qd (Qa (Qb rfl rfl (Qk rfl rfl (Qg rfl Yw rfl (Qo rfl QO (RI hS6 0 rfl ht 0 rfl) rfl (X0 rfl rfl rfl (Qf (Qc (Qi [5,1,0,8,9,64] rfl (Qs rfl (fun h9=> ?_) (fun h9=> ?_)))))))))))
    ·have hp0:t.parent≠0:=h9
     refine Qd (Qa (Qb rfl rfl ?_))
     first | refine X5 Tryz.underlying98 rfl rfl ?_ | refine JB 2 hS6 Tryz.underlying98 rfl rfl rfl ?_
     refine Qb rfl rfl (Qf (Qc (Qw ?_)))
     refine Xe (fun K0 E0 W0=> ∃(i:Nat) (L1:LvD) (V2:VS),K0=(QP ks).length -i∧E0=[(0,ptrV b 0),(1,intV id),(5,ptrV t.ad 0),(8,.slice ar (QP ks).length cr),(9,.map (some mm)),(65,.slice ar (QP ks).length cr),(66,intV ((QP ks).length:Int)),(67,intV (i:Int))]∧Sat W0 [ZY b L1,Zq L1.sp (n+2*c+2*i) Fr V2,rowT kC (.slice ar (QP ks).length cr) (QP ks),Q3 Xy mm (Gy made),F]∧(i≤(QP ks).length)∧(CmI ex1 m L L1 V1 V2 id t (((QP ks).take i).foldl (rdS t.parent (ZD V t)) (Q8 L V)))) (L0:=[(0,_),(1,_),(5,_),(8,_),(9,_),(65,_),(66,_),(67,_)]) ((QP ks).length) (LI rfl rfl rfl rfl rfl rfl rfl rfl) ⟨0,L,V1, by omega,rfl,hS6.pick [0,1,2,3,4] rfl, by omega,hcm0⟩ ?_
     rintro _ _ w10 ⟨i,L1,V2,rfl,rfl,hS10,hi,hcm⟩
     refine Qd (Qa (Xb rfl rfl rfl (Qf (Qc (Qd (Qs rfl (fun h11=> ?_) (fun h11=> ?_)))))))
     ·obtain⟨k,hk⟩: ∃k,(QP ks)[i]? =some k:=⟨_,Zd (by omega)⟩
      obtain⟨x,hl⟩: ∃x,t.lv k=some x:=Option.ne_none_iff_exists'.1 ((hord k).1 (List.mem_of_getElem? hk))
      refine Qr (Qc (Qd (Qw (Qd (Qa (Xu kC 2 i hS10 rfl rfl rfl (by first | rfl | omega) hk B2 rfl ?_))))))
      intro bx12 capx12 hvx12
      refine Wk 2 i hS10 rfl hvx12 rfl hk X9 Xh rfl rfl (Xg hS10 ZM rfl rfl ?_)
      intro kb wk13 hk13
      clear hS10
      refine QY hk13 rfl rfl Xh rfl (by rfl) (i:=0) rfl (by decide) ?_
      intro wk14 hk14; dsimp only[List.set]at hk14
      clear hk13
      replace hk14:=XM (k:=k) hk14
      refine Qf (Qc (Qi [67,66,65,9,8,5,1,0,12] rfl (Qd ?_)))
      have hS15:=Yu hcm.tr hl (hk14.pick [1,0,2,3,4,5] rfl)
      have hS16:=hS15.drew
      refine QJ [0,1,2,3,4,5,6] [] Wp (by kernel_rfl) ?_
      refine QE rfl rfl rfl (Xl rfl rfl rfl (QT rfl rfl rfl Wd (Q9 rfl rfl rfl (Qm rfl JH (hS16.cell 2 rfl rfl)) (Q9 rfl rfl rfl (XE rfl X9 Xh (hS16.blk 10 rfl) (Xn rfl) rfl) (Q9 rfl rfl rfl (Xx (k:=k) 3 hS16 keysKey Tryz.underlying90 rfl rfl rfl HI (u:=ptrV x.ad 0) (Zg hl)) (XN rfl rfl rfl (VC.nil (Qc (Qi [67,66,65,9,8,5,1,0,12,13] rfl (Qd (Qa (Qb rfl rfl (Qk rfl rfl (Qg rfl YN rfl (Qo rfl Y0 (hS16.cell 0 rfl rfl) rfl (X0 rfl rfl rfl (Qf (Qc (Qi [67,66,65,9,8,5,1,0,12,13,81] rfl (Qs rfl (fun h17=> ?_) (fun h17=> ?_)))))))))))))))))))))
      ·have hrd:x.rd≠0#64:= fun e=>h17 (by rw[e];rfl)
       refine Qd ?_
       have hS18:=Jb (L:=L1) (y:=x) hcm.tr hl rfl (hS16.pick [0,1,2,3,4,5,6,7,8,9,10,11,12,13,14] rfl)
       rw[YA hcm.tr hl]at hS18
       obtain⟨tp,htp⟩:=(hcm.par (SeI.reads hne hp0 ((QP ks).take i) hse0)).resolve_left hp0
       have hS19:=hS18.drew
       refine QJ [0,1,2,3,4,5,6,7] [6] Wp (by kernel_rfl) ?_
       refine QE rfl rfl rfl (QE rfl rfl rfl (Xl rfl rfl rfl (QT rfl rfl rfl Yw (Q9 rfl rfl rfl (Qm rfl QO (RI hS19 0 rfl hcm.tr 0 rfl)) (Q9 rfl rfl rfl (XE rfl X9 Xh (by first | exact hS19.blk 1 rfl) (Xn rfl) rfl) ?_)))))
       refine Xj rfl rfl rfl rfl rfl rfl ?_
       refine Qv Bd rfl (Uo (hS19.sp [0,2] rfl) (by omega) (hcm.inv.rank.ends hm) htp (k:=k)) rfl ?_
       rintro _ w20 ⟨L2,V3,t2,y,rfl,hT,hS20⟩
       replace hS20:=hS20.jn rfl rfl
       clear hS19
       have ht2:=hT.tr htp
       have hy2:=hT.lv
       have htid:L2.tr id=some t:=(hT.oth hne).trans hcm.tr
       refine X6 (Xq (by kernel_rfl)) ?_
       refine XN rfl rfl rfl (VC.nil (Qc (Qi [67,66,65,9,8,5,1,0,13,14] rfl ?_)))
       have hS21:=Yu ht2 hy2 (hS20.pick [0,1,2,3,4,5] rfl)
       have htu:Xz L2.tr t.parent none id=some t:= by rw[QI hne]; exact htid
       have hS22:=hS21.drew
       refine QJ [0,1,2,3,4,5,6,7,8,9,10,11,12,13,14,15,16] [16] Wp (by kernel_rfl) ?_
       refine QE rfl rfl rfl (Xl rfl rfl rfl (QT rfl rfl rfl YN (Q9 rfl rfl rfl (Qm rfl Y0 (hS22.cell 0 rfl rfl)) (QE rfl rfl rfl (Xl rfl rfl rfl (QT rfl rfl rfl YN (Q9 rfl rfl rfl (Qm rfl Y0 (FY hS22 5 rfl htu hl 2 rfl)) (QE rfl rfl rfl (Xl rfl rfl rfl (QT rfl rfl rfl W8 (Q9 rfl rfl rfl (Qm rfl Y0 (hS22.cell 0 rfl rfl)) (QU rfl rfl rfl (fun _=>(VF rfl rfl)) ?_))))))))))))
       refine QU rfl rfl rfl (fun _=>(Gb rfl rfl)) ?_
       refine Xl rfl rfl rfl (QT rfl rfl rfl YN (Xj rfl rfl rfl rfl rfl rfl ?_))
       refine QL hS22 rfl rfl Br rfl (i:=0) rfl (Xn rfl) ?_
       intro w23 hS23; dsimp only[List.set]at hS23
       clear hS22
       refine Zx (Xq (by kernel_rfl)) ?_
       refine VC.nil (Ql (Qc (Qi [67,66,65,9,8,5,1,0] rfl (Qa (QK rfl rfl (by omega) (by omega) rfl ?_)))))
       refine Qb rfl rfl (Qf ?_)
       have hS24:=Jb (L:=L2) (y:={y with rd:=y.rd ||| (x.rd&&& ~~~y.wr)}) ht2 hy2 rfl (hS23.pick [0,1,2,3,4,5,6,7,8,9,10,11,12,13,14] rfl)
       exact Q6 (L1:=[(0,_),(1,_),(5,_),(8,_),(9,_),(65,_),(66,_),(67,intV ((i+1:Nat):Int))]) (LI rfl rfl rfl rfl rfl rfl rfl rfl) (k1:=(QP ks).length -(i+1)) (by omega) ⟨i+1,_,_, by omega,rfl,(X1 (m:=n+2*c+2*(i+1)) (by omega) (hS24.pick [1,0,3,4,5] rfl)).reorder [1,0,2,3,4] rfl, by omega, by rw[HT hk]; exact hcm.read hmd.nn hl hrd hne htp hT⟩
      have hrd0:x.rd=0#64:=zerW (Decidable.not_not.1 h17)
      refine Qr (Ql (Qc (Qi [67,66,65,9,8,5,1,0] rfl (Qa (QK rfl rfl (by omega) (by omega) rfl ?_)))))
      refine Qb rfl rfl (Qf ?_)
      have hS25:=Jb (L:=L1) (y:=x) hcm.tr hl rfl (hS16.pick [0,1,2,3,4,5,6,7,8,9,10,11,12,13,14] rfl)
      rw[YA hcm.tr hl]at hS25
      exact Q6 (L1:=[(0,_),(1,_),(5,_),(8,_),(9,_),(65,_),(66,_),(67,intV ((i+1:Nat):Int))]) (LI rfl rfl rfl rfl rfl rfl rfl rfl) (k1:=(QP ks).length -(i+1)) (by omega) ⟨i+1,L1,V2, by omega,rfl,(X1 (m:=n+2*c+2*(i+1)) (by omega) (hS25.pick [2,0,3,4,5] rfl)).reorder [1,0,2,3,4] rfl, by omega, by rw[HT hk,O8 (ZI hl) hrd0]; exact hcm⟩
     refine QS (Qp (Qp (Qz ?_)))
     have hil:i=(QP ks).length:= by omega
     rw[hil,List.take_length]at hcm
     exact Z9 (VX rfl rfl rfl rfl rfl) ⟨L1,V2,rfl,(X1 (m:=n+4*c) (by omega) (hS10.pick [1,0,2,3,4] rfl)).reorder [1,0,2,3,4] rfl, by unfold comR; rw[if_neg (show ¬(ZD V t).parent=0 from hp0)]; exact hcm⟩
    have hp0:t.parent=0:=Decidable.not_not.1 h9
    refine Qr ?_
    exact Z9 (VX rfl rfl rfl rfl rfl) ⟨L,V1,rfl,(X1 (m:=n+4*c) (by omega) (hS6.pick [1,0,2,3,4] rfl)).reorder [1,0,2,3,4] rfl, by unfold comR; rw[if_pos (show(ZD V t).parent=0 from hp0)]; exact hcm0⟩
   rintro _ w8 ⟨L1,V2,rfl,hS8,hcm⟩
   have hseR:=SeI.comR (t:=ZD V t) (l:=(QP ks)) hse0 hne
   refine Qd (Qd ?_)
   have hS26:=XX (hS8.pick [0,1,2,3,4] rfl)
   have hS27:=ZE (hS26.pick [3,0,1,2,4,5,6,7,8] rfl) hcm.tr
   refine Qa (Qb rfl rfl (Qk rfl rfl (Qg rfl RS rfl (Qo rfl Ck (hS27.cell 0 rfl rfl) rfl (Qv qav rfl (kd_sp (hS27.sp [] rfl) rfl) rfl ?_)))))
   rintro _ w28 ⟨ck,rfl,hS28⟩
   replace hS28:=hS28.jn rfl rfl
   clear hS27
   have hK:=Sat.fold (As:=[QF ck [.map (some t.md)],Q3 Xp t.md (Jg t.dr)]) (hS28.pick [0,4,1,2,3,5,6,7,8,9,10,11,12,13] rfl)
   have hC29:=hK.sp [0] rfl
   refine Qv Ft rfl (KO hC29 L4 (itS ck t.md (Jg t.dr)) (fun ks h=> by have :=hd ks h;omega)) rfl ?_
   rintro _ w29 ⟨ns,hns,hS29⟩
   replace hS29:=hS29.jn rfl rfl; clear hC29
   clear hK
   have hz2:=(hS29.pick [1,0,2,3,4,5,6,7,8,9,10,11,12,13] rfl).flat; dsimp only[Ds,Dr]at hz2
   obtain⟨an,cn,hvn,_⟩:=hz2.own_shape 2 rfl; obtain rfl:=hvn
   have hS30:=Zm hcm.tr (hz2.pick [3,4,5,1,6,0,2,7,8,9,10,11,12,13,14] rfl)
   have hS31:=Xd (L:=L1) (hS30.pick [3,4,5,0,6,1,2,7,8,9,10] rfl)
   have hnl:(Zc ns).length≤d:= by rw[Y8]; exact hd _ (Came.of_all hns)
   have hob:=allS hns
   refine X5 Tryz.underlying61 rfl rfl (Qb rfl rfl (Qf (Qc (Qi [9,8,5,1,0,111,112,113] rfl (Qw ?_)))))
   refine Xe (fun K0 E0 W0=> ∃(j:Nat) (L1:LvD) (V2:VS),K0=(Zc ns).length -j∧E0=[(0,ptrV b 0),(1,intV id),(5,ptrV t.ad 0),(8,.slice ar (QP ks).length cr),(9,.map (some mm)),(111,.slice an (Zc ns).length cn),(112,intV ((Zc ns).length:Int)),(113,intV (j:Int))]∧Sat W0 [ZY b L1,Zq L1.sp (n+4*c+4*c*j) Fr V2,rowT kC (.slice ar (QP ks).length cr) (QP ks),Q3 Xy mm (Gy made),rowT stC (.slice an (Zc ns).length cn) (Zc ns),F]∧(j≤(Zc ns).length)∧(CmI ex1 m L L1 V1 V2 id t (((Zc ns).take j).foldl (J8 t.parent) (comR (Q8 L V) (ZD V t) (QP ks))))) (L0:=[(0,_),(1,_),(5,_),(8,_),(9,_),(111,_),(112,_),(113,_)]) ((Zc ns).length) (LI rfl rfl rfl rfl rfl rfl rfl rfl) ⟨0,L1,V2, by omega,rfl,hS31.pick [0,3,4,5,2,6] rfl, by omega,hcm⟩ ?_
   rintro _ _ w32 ⟨j,L1,V2,rfl,rfl,hS32,hj,hcm⟩
   have hcd:4*c*j≤4*c*d:=Nat.mul_le_mul_left _ (by omega)
   refine Qd (Qa (Xb rfl rfl rfl (Qf (Qc (Qd (Qs rfl (fun h33=> ?_) (fun h33=> ?_)))))))
   ·obtain⟨ob,hjb⟩: ∃ob,(Zc ns)[j]? =some ob:=⟨_,Zd (by omega)⟩
    refine Qr (Qc (Qd (Qw (Qd (Qa (Xu stC 4 j hS32 rfl rfl rfl (by first | rfl | omega) hjb KG rfl ?_))))))
    intro bx34 capx34 hvx34
    refine Z1 4 j 0 hS32 rfl hvx34 rfl rfl hjb ZC rfl rfl (Qe rfl rfl (Qf (Qc (Qi [113,112,111,9,8,5,1,0,16] rfl (Qa (Qb rfl rfl (Qb rfl rfl (Qk rfl rfl (Qg rfl Yw rfl (Qo rfl QO (RI hS32 0 rfl hcm.tr 0 rfl) rfl (Qb rfl rfl (Qv Fz rfl (IY (c:=2*c) (hS32.sp [0,1] rfl) (hcm.sz2 ht hc) (by omega) hcm.inv hmd.nn (hcm.par (SeI.drops hne ((Zc ns).take j) hseR)) ob) rfl ?_))))))))))))
    rintro _ w35 ⟨L2,V3,hs,hab,ho,hS35⟩
    replace hS35:=hS35.jn rfl rfl
    clear hS32
    refine Qf (Ql (Qc (Qi [113,112,111,9,8,5,1,0] rfl (Qa (QK rfl rfl (by omega) (by omega) rfl ?_)))))
    refine Qb rfl rfl (Qf ?_)
    have hcm2:=hcm.step hs ho (fun _ q=>q.elim) hne (hab.trans (by rw[hcm.ab]))
    exact Q6 (L1:=[(0,_),(1,_),(5,_),(8,_),(9,_),(111,_),(112,_),(113,intV ((j+1:Nat):Int))]) (LI rfl rfl rfl rfl rfl rfl rfl rfl) (k1:=(Zc ns).length -(j+1)) (by omega) ⟨j+1,_,_, by omega,rfl,(X1 (m:=n+4*c+4*c*(j+1)) (by rw[Nat.mul_succ];omega) (hS35.pick [1,0,2,3,4,5] rfl)).reorder [1,0,2,3,4,5] rfl, by omega, by rw[HT hjb]; exact hcm2⟩
   refine QS (Qp (Qp (Qz (Qc (Qd (Qd (Qa (Qb rfl rfl ?_))))))))
   first | refine X5 Tryz.underlying98 rfl rfl ?_ | refine JB 2 hS32 Tryz.underlying98 rfl rfl rfl ?_ | refine JB 4 hS32 Tryz.underlying98 rfl rfl rfl ?_
   refine Qb rfl rfl (Qf (Qc (Qi [9,5,1,0,125,126,127] rfl (Qw ?_))))
   have hjl:j=(Zc ns).length:= by omega
   rw[hjl,List.take_length]at hcm
   have hgv0:=GvI.start (V0:=V) (made:=made) (A0:=(Q8 L V)) (order:=(QP ks)) hcm hmd.mx
   have hseD:=SeI.drops hne (Zc ns) hseR
   rw[List.nil_append]at hseD
   have hcd2:4*c*j≤4*c*d:=Nat.mul_le_mul_left _ (by omega)
   have hz3:=(X1 (m:=n+4*c+4*c*d+5*0) (by omega) (hS32.pick [1,0,2,3,5] rfl)).reorder [1,0,2,3,4] rfl
   refine Xe (fun K0 E0 W0=> ∃(i:Nat) (L1:LvD) (V2:VS) (ex2:Int→Int),K0=(QP ks).length -i∧E0=[(0,ptrV b 0),(1,intV id),(5,ptrV t.ad 0),(9,.map (some mm)),(125,.slice ar (QP ks).length cr),(126,intV ((QP ks).length:Int)),(127,intV (i:Int))]∧Sat W0 [ZY b L1,Zq L1.sp (n+4*c+4*c*d+5*i) Fr V2,rowT kC (.slice ar (QP ks).length cr) (QP ks),Q3 Xy mm (Gy made),F]∧(i≤(QP ks).length)∧(GvI ex2 m L L1 V V1 V2 id t made (Q8 L V) ((Zc ns).foldl (J8 t.parent) (comR (Q8 L V) (ZD V t) (QP ks))) (QP ks) i)) (L0:=[(0,_),(1,_),(5,_),(9,_),(125,_),(126,_),(127,_)]) ((QP ks).length) (N6 rfl rfl rfl rfl rfl rfl rfl) ⟨0,L1,V2,ex1, by omega,rfl,hz3.pick [0,1,2,3,4] rfl, by omega,hgv0⟩ ?_
   rintro _ _ w36 ⟨i,L1,V2,ex2,rfl,rfl,hS36,hi,hgv⟩
   refine Qd (Qa (Xb rfl rfl rfl (Qf (Qc (Qd (Qs rfl (fun h37=> ?_) (fun h37=> ?_)))))))
   ·obtain⟨k,hk⟩: ∃k,(QP ks)[i]? =some k:=⟨_,Zd (by omega)⟩
    obtain⟨x,hl⟩: ∃x,t.lv k=some x:=Option.ne_none_iff_exists'.1 ((hord k).1 (List.mem_of_getElem? hk))
    refine Qr (Qc (Qd (Qw (Qd (Qa (Xu kC 2 i hS36 rfl rfl rfl (by first | rfl | omega) hk B2 rfl ?_))))))
    intro bx38 capx38 hvx38
    refine Wk 2 i hS36 rfl hvx38 rfl hk X9 Xh rfl rfl (Xg hS36 ZM rfl rfl ?_)
    intro kb wk39 hk39
    clear hS36
    refine QY hk39 rfl rfl Xh rfl (by rfl) (i:=0) rfl (by decide) ?_
    intro wk40 hk40; dsimp only[List.set]at hk40
    clear hk39
    replace hk40:=XM (k:=k) hk40
    refine Qf (Qc (Qi [127,126,125,9,5,1,0,18] rfl (Qd ?_)))
    have hS41:=Yu hgv.cm.tr hl (hk40.pick [1,0,2,3,4,5] rfl)
    have hS42:=hS41.drew
    refine QJ [0,1,2,3,4,5,6] [] Wp (by kernel_rfl) ?_
    refine QE rfl rfl rfl (Xl rfl rfl rfl (QT rfl rfl rfl Wd (Q9 rfl rfl rfl (Qm rfl JH (hS42.cell 2 rfl rfl)) (Q9 rfl rfl rfl (XE rfl X9 Xh (hS42.blk 10 rfl) (Xn rfl) rfl) (Q9 rfl rfl rfl (Xx (k:=k) 3 hS42 keysKey Tryz.underlying90 rfl rfl rfl HI (u:=ptrV x.ad 0) (Zg hl)) (XN rfl rfl rfl (VC.nil (Qc (Qi [127,126,125,9,5,1,0,18,19] rfl (Qd (Qa (Qb rfl rfl (Qk rfl rfl (Qg rfl W8 rfl (Qo rfl Y0 (hS42.cell 0 rfl rfl) rfl (X0 rfl rfl rfl (Qf (Qc (Qi [127,126,125,9,5,1,0,18,19,141] rfl (Qs rfl (fun h43=> ?_) (fun h43=> ?_)))))))))))))))))))))
    ·have hw:x.wr≠0#64:= fun e=>h43 (by rw[e];rfl)
     refine Qd (Qa (Qb rfl rfl ?_))
     refine XA rfl X9 Xh (by first | exact hS42.blk 0 rfl | exact hS42.blk 2 rfl | exact hS42.blk 6 rfl | exact hS42.blk 10 rfl) (by first | decide | exact Xn rfl | (simp;done) | omega) rfl rfl ?_
     rcases hmk:made k with _ | s
     ·refine Wl (k:=k) 13 hS42 keysKey Tryz.underlying81 rfl rfl rfl HH (u:=intV 0) (g:=false) (by unfold Gy; rw[hmk];rfl) (by unfold Gy; rw[hmk];rfl) rfl ?_
      refine Qb rfl rfl (Qt rfl rfl rfl (Qt rfl rfl rfl (Qe rfl rfl (Qe rfl rfl (Qf (Qc (Qi [127,126,125,9,5,1,0,18,19,20,21] rfl (Qd (Qd (Qa (Qb rfl rfl (QR rfl rfl (Qf (Qc (QM rfl (fun h44=> ?_) (fun h44=> ?_))))))))))))))))
      ·refine Qd (Qa (Qb rfl rfl (Qk rfl rfl (Qg rfl Jt rfl (Qo rfl QO (hS42.cell 0 rfl rfl) rfl (Qe rfl rfl (Qf (Qc (Qi [127,126,125,9,5,1,0,18,19,20] rfl (Qa (Qb rfl rfl (Qb rfl rfl (Qv MI rfl (Pd (hS42.sp [6,9,11] rfl) (by omega) x.own) rfl ?_)))))))))))))
       rintro _ w45 ⟨rfl,hS45⟩
       replace hS45:=hS45.jn rfl rfl
       clear hS42
       refine Qf (Qc (Qi [127,126,125,9,5,1,0,18,19,20] rfl ?_))
       have hS46:=Jb (L:={L1 with sh:=Y2 L1.sh x.own}) (y:=x) hgv.cm.tr hl rfl (hS45.pick [3,4,5,6,7,8,0,9,10,1,2,11,12,13,14] rfl)
       rw[YA (L:={L1 with sh:=Y2 L1.sh x.own}) hgv.cm.tr hl]at hS46
       have hdrk:k.1∈(Zc ns)→x.wr=BitVec.allOnes 64:= fun q=>hdr id _ k _ (Zv ht) ((hob _).1 q) (ZI hl)
       have hpar:=hgv.cm.par (SeI.gives hne ((QP ks).take i) hseD)
       have hS47:=hS46.drew
       refine QJ [0,1,2,3,4,5,6,7,8,9,10,11] [11] Wp (by kernel_rfl) ?_
       refine QE rfl rfl rfl (QE rfl rfl rfl (Xl rfl rfl rfl (QT rfl rfl rfl Yw (Q9 rfl rfl rfl (Qm rfl QO (RI hS47 0 rfl hgv.cm.tr 0 rfl)) (Q9 rfl rfl rfl (XE rfl X9 Xh (by first | exact hS47.blk 2 rfl) (Xn rfl) rfl) ?_)))))
       refine QE rfl rfl rfl (QE rfl rfl rfl (Xl rfl rfl rfl (QT rfl rfl rfl W8 (Q9 rfl rfl rfl (Qm rfl Y0 (Pn hS47 0 rfl hgv.cm.tr hl 3 rfl)) (Xj rfl rfl rfl rfl rfl rfl ?_)))))
       have hr:=hgv.cm.ref (hgv.own_alive hl) (Y2 L1.sh x.own)
       have hnr:NN (fun j=>ex2 j+dl x.own j):=nn_add hgv.nn
       have hcon:=(Yq (V:=V2) (s:=x.own) (j:=x.own)).trans (hgv.con_own hmd hI ht hk hl hw hmk)
       refine Qv qau rfl (P2 (hS47.sp [0,1] rfl) (by omega) hr.inv hnr hm hpar (fun h0=> by have :=hgv.nn x.own h0; show 1≤ex2 x.own+dl x.own x.own; rw[Ww];omega) k x.wr (fun h0=>hgv.ag hI hseD hne hk hnd hdrk (hr.ab.trans hgv.cm.ab.symm) hcon h0)) rfl ?_
       rintro _ w48 ⟨L2,V3,hs,hab,ho,hS48⟩
       replace hS48:=hS48.jn rfl rfl
       clear hS47
       refine X6 (Xq (by kernel_rfl)) ?_
       refine VC.nil (Ql (Qc (Qi [127,126,125,9,5,1,0] rfl (Qa (QK rfl rfl (by omega) (by omega) rfl ?_)))))
       refine Qb rfl rfl (Qf ?_)
       exact Q6 (L1:=[(0,_),(1,_),(5,_),(9,_),(125,_),(126,_),(127,intV ((i+1:Nat):Int))]) (N6 rfl rfl rfl rfl rfl rfl rfl) (k1:=(QP ks).length -(i+1)) (by omega) ⟨i+1,_,_,_, by omega,rfl,(X1 (m:=n+4*c+4*c*d+5*(i+1)) (by omega) (hS48.pick [1,0,3,4,5] rfl)).reorder [1,0,2,3,4] rfl, by omega,hgv.own_next hmd hI hne ht hk hnd hl hw hmk hs hab ho⟩
      exact absurd h44 (by decide)
     refine Wl (k:=k) 13 hS42 keysKey Tryz.underlying81 rfl rfl rfl HH (u:=intV s) (g:=true) (by unfold Gy; rw[hmk];rfl) (by unfold Gy; rw[hmk];rfl) rfl ?_
     refine Qb rfl rfl (Qt rfl rfl rfl (Qt rfl rfl rfl (Qe rfl rfl (Qe rfl rfl (Qf (Qc (Qi [127,126,125,9,5,1,0,18,19,20,21] rfl (Qd (Qd (Qa (Qb rfl rfl (QR rfl rfl (Qf (Qc (QM rfl (fun h49=> ?_) (fun h49=> ?_))))))))))))))))
     ·exact absurd h49 (by decide)
     refine Qr (Qc (Qi [127,126,125,9,5,1,0,18,19,20] rfl ?_))
     have hS50:=Jb (L:=L1) (y:=x) hgv.cm.tr hl rfl (hS42.pick [0,1,2,3,4,5,6,7,8,9,10,11,12,13,14] rfl)
     rw[YA hgv.cm.tr hl]at hS50
     have hdrk:k.1∈(Zc ns)→x.wr=BitVec.allOnes 64:= fun q=>hdr id _ k _ (Zv ht) ((hob _).1 q) (ZI hl)
     have hpar:=hgv.cm.par (SeI.gives hne ((QP ks).take i) hseD)
     have hS51:=hS50.drew
     refine QJ [0,1,2,3,4,5,6,7,8,9,10,11] [11] Wp (by kernel_rfl) ?_
     refine QE rfl rfl rfl (QE rfl rfl rfl (Xl rfl rfl rfl (QT rfl rfl rfl Yw (Q9 rfl rfl rfl (Qm rfl QO (RI hS51 0 rfl hgv.cm.tr 0 rfl)) (Q9 rfl rfl rfl (XE rfl X9 Xh (by first | exact hS51.blk 1 rfl) (Xn rfl) rfl) ?_)))))
     refine QE rfl rfl rfl (QE rfl rfl rfl (Xl rfl rfl rfl (QT rfl rfl rfl W8 (Q9 rfl rfl rfl (Qm rfl Y0 (Pn hS51 0 rfl hgv.cm.tr hl 3 rfl)) (Xj rfl rfl rfl rfl rfl rfl ?_)))))
     refine Qv qau rfl (P2 (hS51.sp [0,2] rfl) (by omega) hgv.cm.inv hgv.nn hm hpar (fun h0=>hgv.ge hk hnd hmk h0) k x.wr (fun h0=>hgv.ag hI hseD hne hk hnd hdrk rfl (hgv.con_made hmd hI hk hnd hl hmk) h0)) rfl ?_
     rintro _ w52 ⟨L2,V3,hs,hab,ho,hS52⟩
     replace hS52:=hS52.jn rfl rfl
     clear hS51
     refine X6 (Xq (by kernel_rfl)) ?_
     refine VC.nil (Ql (Qc (Qi [127,126,125,9,5,1,0] rfl (Qa (QK rfl rfl (by omega) (by omega) rfl ?_)))))
     refine Qb rfl rfl (Qf ?_)
     exact Q6 (L1:=[(0,_),(1,_),(5,_),(9,_),(125,_),(126,_),(127,intV ((i+1:Nat):Int))]) (N6 rfl rfl rfl rfl rfl rfl rfl) (k1:=(QP ks).length -(i+1)) (by omega) ⟨i+1,_,_,_, by omega,rfl,(X1 (m:=n+4*c+4*c*d+5*(i+1)) (by omega) (hS52.pick [1,0,3,4,5] rfl)).reorder [1,0,2,3,4] rfl, by omega,hgv.made_next hmd hI hne hk hnd hl hw hmk hs hab ho⟩
    have hw0:x.wr=0#64:=zerW (Decidable.not_not.1 h43)
    refine Qr (Ql (Qc (Qa (QK rfl rfl (by omega) (by omega) rfl ?_))))
    refine Qb rfl rfl (Qf ?_)
    have hS53:=Jb (L:=L1) (y:=x) hgv.cm.tr hl rfl (hS42.pick [0,1,2,3,4,5,6,7,8,9,10,11,12,13,14] rfl)
    rw[YA hgv.cm.tr hl]at hS53
    exact Q6 (L1:=[(0,_),(1,_),(5,_),(9,_),(125,_),(126,_),(127,intV ((i+1:Nat):Int))]) (N6 rfl rfl rfl rfl rfl rfl rfl) (k1:=(QP ks).length -(i+1)) (by omega) ⟨i+1,L1,V2,_, by omega,rfl,(X1 (m:=n+4*c+4*c*d+5*(i+1)) (by omega) (hS53.pick [2,0,3,4,5] rfl)).reorder [1,0,2,3,4] rfl, by omega,hgv.skip hmd hk hnd hl hw0⟩
   refine QS (Qp (Qp (Qz (Qc (Qd ?_)))))
   have hil:i=(QP ks).length:= by omega
   rw[hil]at hgv
   have hfin:=hgv.fin (fun k hk=>((hmd.dom k).1 hk).1)
   refine Qa (Qb rfl rfl (Qb rfl rfl (Qv cal_55 rfl (Ey (c:=2*c) (ex:= fun _=>0) (hS36.sp [0,1] rfl) (hgv.cm.sz2 ht hc) (by omega) hfin (fun _ _=>Int.le_refl _) hgv.cm.tr (hgv.cm.noch hch)) rfl ?_)))
   rintro _ w54 ⟨L3,V4,hs3,hab3,hp3,ht3,hS54⟩
   replace hS54:=hS54.jn rfl rfl
   clear hS36
   exact Qf (Qc (Sr (L':=[]) .nil (Qd (Qa (Qe rfl rfl (Qf (Qc (Qu (QQ (.inr rfl) rfl rfl (⟨_,rfl,L3,V4,.inl ⟨rfl,gv_end hI ht hmd hgv hord hnd hob hs3 hab3 hp3 ht3⟩,(X1 (m:=n+(16*c+4*c*d)) (by omega) (hS54.pick [1,0,4] rfl)).reorder [1,0,2] rfl⟩))))))))))
  refine⟨_,rfl, ?_⟩
  replace hS6:=hS6.jn rfl rfl
  clear hS5
  refine Qb rfl rfl (Qt rfl rfl rfl (Qt rfl rfl rfl (Qe rfl rfl (Qe rfl rfl (Qf (Qc (Qi [5,1,0,8,9,10] rfl (Qd (Qd (Qa (Qb rfl rfl (X0 rfl rfl rfl (Qf (Qc (Qs rfl (fun h55=> ?_) (fun h55=> ?_))))))))))))))))
  ·exact Qd (Qa (Qb rfl rfl (Qe rfl rfl (Qf (Qc (Qu (Qn (QQ (.inr rfl) rfl rfl (⟨_,rfl,L,V1,.inr ⟨rfl,rfl,(QP ks),hord,hnd,hmi,hmab,hmf,hmal⟩,(X1 (m:=n+(16*c+4*c*d)) (by omega) (hS6.pick [1,0,3] rfl)).reorder [1,0,2] rfl⟩)))))))))
  exact absurd (by decide) h55
 dsimp only[List.set]at hSN
 obtain⟨u,hu,rfl⟩:=C2 hgk
 refine Qt rfl rfl rfl (Qf (Qc (Qd (Xr rfl (Qr (Qc (Qw (Qd (Qa (Jy 2 hSN rfl hgk rfl rfl (Qt rfl rfl rfl (Qe rfl rfl (Qf (Qc (Qd (Qa (Qb rfl rfl (Qk rfl rfl (Qg rfl Yw rfl (Qo rfl QO ((ZE (hSN.pull 3 rfl) hu).cell 0 rfl rfl) rfl (Qb rfl rfl (QX rfl rfl rfl (Qf (Qc (Qi [34,5,1,0,44] rfl (Qs rfl (fun h56=> ?_) (fun h56=> ?_)))))))))))))))))))))))))))
 ·exact absurd h56 (hch _ _ hu)
 exact Qr (Ql (Q6 (L1:=[(0,_),(1,_),(5,_),(34,_)]) (Vk rfl rfl rfl rfl) (k1:=left2) (by omega) ⟨_,_,_,rfl,rfl,hSN.pick [0,1,2,3,4,5,6] rfl⟩))
end Go.Proofs.YtkcjfoaejijdoaaGreatDoor
namespace Go.Proofs.YtkcjfoaejijdoaaGreatDoor
open Go.RowKit M
set_option linter.unusedSectionVars false
variable [Inhabited SlW]
def ME (A:LvA) (t:TrA) (k:KD):Bs:= match t.lv k with
  | some x=> if x.wr=0#64 then(if t.dr k.1=true then zer else A.pres k)else RH (A.pres k) x.own x.wr
  | none=> if t.dr k.1=true then zer else A.pres k
theorem LvA.eq2 {A B:LvA} (h1:A.pres=B.pres) (h2:A.tr=B.tr):A=B:= by cases A; cases B; simp at h1 h2; subst h1; subst h2;rfl
theorem We {A:LvA} {k:KD}:ZN A 0 k=A.pres k:= by unfold ZN; rw[J1,if_pos rfl]
theorem gvS0_tr {A0 A:LvA} {t:TrA} {j:KD}:(BX A0 0 t A j).tr=A.tr:= by
  unfold BX
  cases t.lv j with
  | none=>rfl
  | some x=>
    dsimp only
    by_cases q:x.wr=0#64
    · rw[if_pos q]
    · rw[if_neg q,if_pos rfl]
theorem EO {A0 A:LvA} {t:TrA} {j k:KD} (h:k≠j):(BX A0 0 t A j).pres k=A.pres k:= by
  unfold BX
  cases t.lv j with
  | none=>rfl
  | some x=>
    dsimp only
    by_cases q:x.wr=0#64
    · rw[if_pos q]
    · rw[if_neg q,if_pos rfl]; exact Zb h
theorem TR {A0:LvA} {t:TrA}: ∀(l:List KD) (A:LvA),l.Nodup→(l.foldl (BX A0 0 t) A).tr=A.tr∧ ∀k,(l.foldl (BX A0 0 t) A).pres k= if k∈l then(match t.lv k with | none=>A.pres k | some x=> if x.wr=0#64 then A.pres k else BD A0 0 k x)else A.pres k
  | [],A,_=>⟨rfl, fun k=> by simp⟩
  | j::l,A,hn=> by
    obtain⟨hj,hn⟩:=List.nodup_cons.1 hn
    obtain⟨a,b⟩:=TR (A0:=A0) (t:=t) l (BX A0 0 t A j) hn
    refine⟨a.trans gvS0_tr, fun k=> ?_⟩
    show(l.foldl (BX A0 0 t) (BX A0 0 t A j)).pres k=_
    rw[b k]
    by_cases e:k=j
    · subst e
      rw[if_neg hj,if_pos List.mem_cons_self]
      unfold BX
      cases t.lv k with
      | none=>rfl
      | some x=>
        dsimp only
        by_cases q:x.wr=0#64
        · rw[if_pos q,if_pos q]
        · rw[if_neg q,if_neg q,if_pos rfl]; exact XG
    · rw[EO e]
      by_cases q:k∈l
      · rw[if_pos q,if_pos (List.mem_cons_of_mem _ q)]
      · rw[if_neg q,if_neg (by simp [e,q])]
theorem MA: ∀(l:List Bs) (A:LvA),(l.foldl (J8 0) A).tr=A.tr∧ ∀k,(l.foldl (J8 0) A).pres k= if k.1∈l then zer else A.pres k
  | [],A=>⟨rfl, fun k=> by simp⟩
  | ob::l,A=> by
    obtain⟨a,b⟩:=MA l (J8 0 A ob)
    have h1:(J8 0 A ob).tr=A.tr:= by unfold J8; rw[if_pos rfl];rfl
    refine⟨a.trans h1, fun k=> ?_⟩
    show(l.foldl (J8 0) (J8 0 A ob)).pres k=_
    rw[b k]
    have h2:(J8 0 A ob).pres k= if k.1=ob then zer else A.pres k:= by
      unfold J8
      rw[if_pos rfl]
      show W4 (fun j:KD=>j.1=ob) zer A.pres k=_
      unfold W4
      by_cases e:k.1=ob
      · rw[if_pos e,if_pos e]
      · rw[if_neg e,if_neg e]
    rw[h2]
    by_cases q:k.1∈l
    · rw[if_pos q,if_pos (List.mem_cons_of_mem _ q)]
    · rw[if_neg q]
      by_cases e:k.1=ob
      · rw[if_pos e,if_pos (by simp [e])]
      · rw[if_neg e,if_neg (by simp [e,q])]
theorem Am {A:LvA} {id:Int} {t:TrA} {order:List KD} {obs:List Bs} (hp:t.parent=0) (hn:order.Nodup) (ho: ∀k,k∈order↔t.lv k≠none) (hob: ∀ob,ob∈obs↔t.dr ob=true):
    qak A id t order obs=⟨ME A t,Xz A.tr id none⟩:= by
  obtain⟨a,b⟩:=TR (A0:=A) (t:=t) order (obs.foldl (J8 0) A) hn
  obtain⟨c,d⟩:=MA obs A
  unfold qak
  rw[hp,if_pos rfl]
  apply LvA.eq2
  · funext k
    show(order.foldl (BX A 0 t) (obs.foldl (J8 0) A)).pres k=ME A t k
    rw[b k,d k]
    unfold ME
    cases q:t.lv k with
    | none=>
      rw[if_neg (by rw[ho,q]; simp)]
      by_cases e:t.dr k.1=true
      · rw[if_pos ((hob _).2 e),if_pos e]
      · rw[if_neg (fun h=>e ((hob _).1 h)),if_neg e]
    | some x=>
      rw[if_pos ((ho k).2 (by rw[q]; simp))]
      dsimp only
      by_cases w:x.wr=0#64
      · rw[if_pos w,if_pos w]
        by_cases e:t.dr k.1=true
        · rw[if_pos ((hob _).2 e),if_pos e]
        · rw[if_neg (fun h=>e ((hob _).1 h)),if_neg e]
      · rw[if_neg w,if_neg w];unfold BD; rw[We]
  · show Xz (order.foldl (BX A 0 t) (obs.foldl (J8 0) A)).tr id none=Xz A.tr id none
    rw[a,c]
def LsP (p m c e:Nat) (A:LvA) (L:LvD) (V:VS):Prop:=L.sp=p∧LvI m L V∧Q8 L V=A∧AliveLe V c∧SzLe L e
def Yb (b p n m c e:Nat) (A:LvA):Th:=CG fun L=>CG fun V=>starL [WN (LsP p m c e A L V),ZY b L,Zq L.sp n 256 V]
section
variable {w:World} {b p n m c e:Nat} {A:LvA} {As:List Th}
theorem ZH (h:Sat w (Yb b p n m c e A::As)): ∃L V,LsP p m c e A L V∧Sat w (ZY b L::Zq L.sp n 256 V::As):= by
  obtain⟨L,h⟩:=h.ex
  obtain⟨V,h⟩:=h.ex
  have h:=h.flat
  dsimp only[Ds,Dr]at h
  obtain⟨hp,h⟩:=h.pure_elim
  exact⟨L,V,hp,h⟩
theorem ZO {L:LvD} {V:VS} (hp:LsP p m c e A L V) (h:Sat w (ZY b L::Zq L.sp n 256 V::As)):Sat w (Yb b p n m c e A::As):=
  Sat.ex_intro L (Sat.ex_intro V (Sat.fold (As:=[WN (LsP p m c e A L V),ZY b L,Zq L.sp n 256 V]) (Sat.pure_intro hp h)))
theorem Jm {n' m' c' e':Nat} (hn:n≤n') (hm:m≤m') (hc:c≤c') (he:e≤e') (h:Sat w (Yb b p n m c e A::As)):Sat w (Yb b p n' m' c' e' A::As):= by
  obtain⟨L,V,⟨h1,h2,h3,h4,h5⟩,h⟩:=ZH h
  have h6:LvI m' L V:=⟨h2.ref,(by obtain⟨h0,r,a,b⟩:=h2.rank; exact⟨h0,r, fun i=>Nat.le_trans (a i) hm,b⟩),h2.agree⟩
  exact ZO ⟨h1,h6,h3,h4.mono hc,h5.mono he⟩ ((X1 hn (h.perm (List.Perm.swap _ _ _))).perm (List.Perm.swap _ _ _))
end
theorem NZ {w:World} {b p mp mt ms:Nat} {As:List Th} (h:Sat w (ZY b (Hi p mp mt ms)::Zq p 0 256 (fun _=>none)::As)):Sat w (Yb b p 0 0 0 0 OW::As):= by
  obtain⟨h1,h2,h3,h4,_⟩:=OV (sp:=p) (mp:=mp) (mt:=mt) (ms:=ms)
  exact ZO (L:=Hi p mp mt ms) (V:= fun _=>none) ⟨rfl,h1,h2,h3,h4⟩ h
def VA (A:LvA) (t:TrA):Prop:= ∀k x,t.lv k=some x→ ∀j,j<64→x.rd.getLsbD j=true→x.base[j]? =(ZN A t.parent k)[j]?
theorem VA_iff {m:Nat} {L:LvD} {V:VS} {t:TrD} (hI:LvI m L V):(∀k x,t.lv k=some x→VK L V t k x)↔VA (Q8 L V) (ZD V t):= by
  constructor
  · intro h k y hy j hj hr
    cases q:t.lv k with
    | none=> rw[VV q]at hy; cases hy
    | some x=>
      rw[ZI q]at hy
      cases hy
      have h1:=h k x q j hj hr
      rw[hI.sees]at h1
      exact h1
  · intro h k x hx j hj hr
    have h1:=h k _ (ZI hx) j hj hr
    rw[hI.sees]
    exact h1
theorem Mo {w:World} {b p n m c e:Nat} {A:LvA} {F:Th} (hS:Sat w [Yb b p n m c e A,F]) (hn:n≤60000000000) (hm:m<Zp) (id parent:Int):
    Calls Tryz.prog 11 #[ptrV b 0,intV id,intV parent] w (Ret fun v w'=>v=intV (Tk A id parent)∧Sat w' [Yb b p n (m+1) c e (Nu A id parent),F]):= by
  obtain⟨L,V,⟨h1,h2,rfl,h4,h5⟩,hS1⟩:=ZH hS
  refine(begI_sp hS1 h2 id parent).mono fun ew w h=>h.mono fun v w h=> ?_
  obtain⟨L',rfl,hs,ha,hS⟩:=h
  exact⟨rfl,ZO ⟨hs.sp.trans h1,hs.inv,ha,hs.al _ h4,hs.sz _ h5⟩ hS⟩
theorem Pr {w:World} {b p n m c e:Nat} {A:LvA} {F:Th} (hS:Sat w [Yb b p n m c e A,F]) (hn:n≤60000000000) (hm:m<Zp) (ob:Bs) (a:Int) (hr:0≤a∧a<16384):
    Calls Tryz.prog 12 #[ptrV b 0,intV 0,strV ob,intV a] w (Ret fun v w'=>v=XS (N4 (A.pres (ob,a/ 64)) (a%64))∧Sat w' [Yb b p n m c e A,F]):= by
  obtain⟨L,V,⟨h1,h2,rfl,h4,h5⟩,hS1⟩:=ZH hS
  refine(Ax hS1 hn ob a h2 hm hr).mono fun ew w h=>h.mono fun v w h=> ?_
  exact⟨h.1,ZO ⟨h1,h2,rfl,h4,h5⟩ h.2⟩
theorem Pq {w:World} {b p n m c e:Nat} {A:LvA} {F:Th} (hS:Sat w [Yb b p n m c e A,F]) (hn:n≤60000000000) (hm:m<Zp) {id:Int} {tA:TrA} (ht:A.tr id=some tA) (ob:Bs) (a:Int) (hr:0≤a∧a<16384):
    Calls Tryz.prog 12 #[ptrV b 0,intV id,strV ob,intV a] w (Ret fun v w'=>v=XS (N4 (Zi A id (ob,a/ 64)).own (a%64))∧Sat w' [Yb b p (n+2) m c (e+1) (ZA A id (ob,a/ 64) (rdX (Zi A id (ob,a/ 64)) (a%64))),F]):= by
  obtain⟨L,V,⟨h1,h2,rfl,h4,h5⟩,hS1⟩:=ZH hS
  obtain⟨t,ht1,rfl⟩:=Uf ht
  refine(Aw hS1 hn ob a h2 hm ht1 hr).mono fun ew w h=>h.mono fun v w h=> ?_
  obtain⟨L',V',rfl,hs,ha,hS⟩:=h
  exact⟨rfl,ZO ⟨hs.sp.trans h1,hs.inv,ha,hs.al _ h4,hs.sz _ h5⟩ hS⟩
theorem Pp {w:World} {b p n m c e:Nat} {A:LvA} {F:Th} (hS:Sat w [Yb b p n m c e A,F]) (hn:n≤60000000000) (hm:m<Zp) (hc:c+1<256) (ob:Bs) (a:Int) (bt:UInt8) (hr:0≤a∧a<16384):
    Calls Tryz.prog 10 #[ptrV b 0,intV 0,strV ob,intV a,XS bt] w (Ret fun v w'=>v=intV 0∧Sat w' [Yb b p (n+5) m (c+1) (e+1) (wrP A (ob,a/ 64) (a%64) bt),F]):= by
  obtain⟨L,V,⟨h1,h2,rfl,h4,h5⟩,hS1⟩:=ZH hS
  refine(Om hS1 hn ob a bt h2 hm hr).mono fun ew w h=>h.mono fun v w h=> ?_
  obtain⟨L',V',er,rfl,hs,hq,hS⟩:=h
  rcases hq with⟨rfl,ha⟩ | ⟨_,_,hT⟩
  · exact⟨rfl,ZO ⟨hs.sp.trans h1,hs.inv,ha,hs.al _ h4,hs.sz _ h5⟩ hS⟩
  · have :=hT c h4
    omega
theorem Po {w:World} {b p n m c e:Nat} {A:LvA} {F:Th} (hS:Sat w [Yb b p n m c e A,F]) (hn:n≤60000000000) (hm:m<Zp) {id:Int} {tA:TrA} (ht:A.tr id=some tA) (hc:c+1<256) (ob:Bs) (a:Int) (bt:UInt8) (hr:0≤a∧a<16384):
    Calls Tryz.prog 10 #[ptrV b 0,intV id,strV ob,intV a,XS bt] w (Ret fun v w'=>v=intV 0∧Sat w' [Yb b p (n+5) m (c+1) (e+1) (ZA A id (ob,a/ 64) (wrX (Zi A id (ob,a/ 64)) (a%64) bt)),F]):= by
  obtain⟨L,V,⟨h1,h2,rfl,h4,h5⟩,hS1⟩:=ZH hS
  obtain⟨t,ht1,rfl⟩:=Uf ht
  refine(Ol hS1 hn ob a bt h2 hm ht1 hr).mono fun ew w h=>h.mono fun v w h=> ?_
  obtain⟨L',V',er,rfl,hs,hq,hS⟩:=h
  rcases hq with⟨rfl,ha⟩ | ⟨_,_,hT⟩
  · exact⟨rfl,ZO ⟨hs.sp.trans h1,hs.inv,ha,hs.al _ h4,hs.sz _ h5⟩ hS⟩
  · have :=hT c h4
    omega
theorem RJ {w:World} {b p n m c e:Nat} {A:LvA} {F:Th} (hS:Sat w [Yb b p n m c e A,F]) (hn:n≤60000000000) (hm:m<Zp) (hG:Ent F GT) {id:Int} {tA:TrA} (ht:A.tr id=some tA):
    Calls Tryz.prog 14 #[ptrV b 0,intV id] w (Ret fun v w'=> ∃r:Bool,v= .bool r∧(r=true↔VA A tA)∧Sat w' [Yb b p n m c e A,F]):= by
  obtain⟨L,V,⟨h1,h2,rfl,h4,h5⟩,hS1⟩:=ZH hS
  obtain⟨t,ht1,rfl⟩:=Uf ht
  refine(LW hS1 hn h2 hm hG ht1).mono fun ew w h=>h.mono fun v w h=> ?_
  obtain⟨r,rfl,hr,hS⟩:=h
  exact⟨r,rfl,hr.trans (VA_iff h2),ZO ⟨h1,h2,rfl,h4,h5⟩ hS⟩
end Go.Proofs.YtkcjfoaejijdoaaGreatDoor
