/- leaves: Commit -/
import Derived.Test.YtkcjfoaejijdoaaGreatDoorLv26
set_option linter.unusedVariables false
set_option maxRecDepth 100000
set_option maxHeartbeats 3200000
namespace Go.Proofs.YtkcjfoaejijdoaaGreatDoor
open Go.RowKit M
set_option linter.unusedSectionVars false
variable [Inhabited SlW]
noncomputable def comR (A:LvA) (t:TrA) (l:List KD):LvA:= if t.parent=0 then A else l.foldl (SH t.parent t) A
theorem SeI.comR {A0:LvA} {id:Int} {t:TrA} {l:List KD} (h:SeI A0 A0 id t.parent t [] []) (hne:id≠t.parent):SeI A0 (comR A0 t l) id t.parent t [] []:= by
  unfold Go.Proofs.YtkcjfoaejijdoaaGreatDoor.comR
  by_cases h0:t.parent=0
  · rw[if_pos h0]; exact h
  · rw[if_neg h0]; exact SeI.reads hne h0 l h
theorem comA_eq {A:LvA} {id:Int} {t:TrA} {l:List KD} {obs:List Bs}:PU A id t l obs=BJ (l.foldl (RM A t.parent t) (obs.foldl (WG t.parent) (comR A t l))) id:=rfl
theorem SeI.first {m:Nat} {L:LvD} {V:VS} {id:Int} {t:TrD} (hI:LvI m L V) (ht:L.tr id=some t):SeI (Q5 L V) (Q5 L V) id t.parent (ZH V t) [] []:=
  SeI.start (Zp ht) fun h0=> by
    obtain⟨_,r,_,h2⟩:=hI.rank
    have a:=((h2 id t ht).resolve_left h0).1
    cases q:L.tr t.parent with
    | none=> exact absurd q a
    | some tp=> exact⟨_,Zp q⟩
theorem allS {f:Bs→Bool} {ks:List Bs} (h:AllC (Jh f) ks) (ob:Bs):ob∈Zd ks↔f ob=true:= by
  rw[(HE ks).mem_iff,h.mem]
  unfold Jh
  cases f ob<;> simp
def ComY (m:Nat) (L L':LvD) (V V':VS) (id:Int) (t:TrD):Prop:= ∃order obs,(∀k,k∈order↔t.lv k≠none)∧order.Nodup∧(∀ob,ob∈obs↔t.dr ob=true)∧LvI m L' V'∧L'.sp=L.sp∧Q5 L' V'=PU (Q5 L V) id (ZH V t) order obs∧(∀c,SzLe L c→SzLe L' c)∧ ∀c,AliveLe V c→AliveLe V' (c+Yu t order)
def ComN (m Fr:Nat) (L:LvD) (V V':VS) (t:TrD):Prop:= ∃order:List KD,(∀k,k∈order↔t.lv k≠none)∧order.Nodup∧LvI m L V'∧Q5 L V'=Q5 L V∧(∀c,AliveLe V c→Fr≤c+Yu t order)∧ ∀c,AliveLe V c→AliveLe V' (c+Yu t order)
theorem gv_end {m:Nat} {L L1 L2:LvD} {V V1 V2 V3:VS} {id:Int} {t:TrD} {made:KD→Option Int} {ex ex0:Int→Int} {order:List KD} {obs:List Bs} (hI:LvI m L V) (ht:L.tr id=some t) (hmd:MdI m L V V1 t ex0 made order) (hgv:GvI ex m L L1 V V1 V2 id t made (Q5 L V) (obs.foldl (WG t.parent) (comR (Q5 L V) (ZH V t) order)) order order.length)
    (hord: ∀k,k∈order↔t.lv k≠none) (hnd:order.Nodup) (hob: ∀ob,ob∈obs↔t.dr ob=true) (hs:StepX (fun _=>0) m L1 V2 (fun _=>0) m 0 0 L2 V3) (hab:Q5 L2 V3=BJ (Q5 L1 V2) id) (hp:L2.pres=L1.pres) (hT:L2.tr=X1 L1.tr id none):ComY m L L2 V V3 id t:= by
  refine⟨order,obs,hord,hnd,hob,hs.inv,hs.sp.trans hgv.cm.sp, ?_, fun c hc=>hgv.cm.ok.szRem (Ld ht) (hI.rank.none0 ht) hp hT hc, fun c hc=>hs.al _ (hgv.cm.al _ (hmd.al c hc))⟩
  rw[hab,comA_eq,hgv.cm.ab,List.take_length]
  rfl
theorem nn_add {ex:Int→Int} {s:Int} (h:NN ex):NN (fun j=>ex j+dl s j):= fun j hj=> by
  show 0≤ex j+dl s j
  have :=h j hj
  by_cases e:j=s
  · subst e; rw[Ww];omega
  · rw[J0 e];omega
theorem Aq {w:World} {m c d:Nat} {b n Fr:Nat} {L:LvD} {V:VS} {F:Th} (hS:Sat w [ZN b L,Zo L.sp n Fr V,F]) (hn:n+(16*c+4*c*d)≤60000000000) (hI:LvI m L V) (hm:m<Zl) (hc:SzLe L c) {id:Int} {t:TrD} (ht:L.tr id=some t) (hch: ∀i u,L.tr i=some u→u.parent≠id) (hdr:DrA (Q5 L V)) (hd: ∀ks,Came (Jh t.dr) ks→ks.length≤d) (hdm:d≤90000000000):
    Calls Tryz.prog 13 #[ptrV b 0,intV id] w (Ret fun v w'=> ∃L' V',((v=intV 0∧ComY m L L' V V' id t)∨(v=intV 6∧L'=L∧ComN m Fr L V V' t))∧Sat w' [ZN b L',Zo L'.sp (n+(16*c+4*c*d)) Fr V',F]):= by
 replace hS:=XK hS
 refine Qo Tryz.func13 rfl Tryz.ntmps13 rfl ?_
 refine Qd (Qa (Qe rfl rfl (Qf (Qc (Qd (Qa (Qb rfl rfl (Qj rfl rfl (Qg rfl ZK rfl (Qp rfl J2 (hS.cell 0 rfl rfl) rfl (Qb rfl rfl (Xt (k:=id) 2 hS keysInt Tryz.underlying82 rfl rfl rfl Y6 (u:=ptrV t.ad 0) (XV ht) rfl (Qe rfl rfl (Qf (Qc (Qd (Qd (Qa (Qb rfl rfl (Z8 Tryz.underlying94 rfl rfl rfl (Qf (Qc (Qh [1,0,4,5,29] rfl (QT rfl (Qr (Qc (Qd (Qd (Qa (Qb rfl rfl (Qj rfl rfl (Qg rfl ZK rfl (Qp rfl J2 (hS.cell 0 rfl rfl) rfl (WI 2 hS Tryz.underlying82 rfl rfl rfl ?_))))))))))))))))))))))))))))))))))
 intro RR left0 wR hSR; dsimp only[List.set]at hSR
 refine Qf (Qc (Qw (Xa (fun K0 E0 W0=> ∃(dn:Int→Prop) (cur:Option Int) (left:Nat),K0=left∧E0=[(0,ptrV b 0),(1,intV id),(5,ptrV t.ad 0),(34,ptrV RR 0)]∧Sat W0 [QG b [ptrV L.sp 0,.map (some L.mp),.map (some L.mt),intV L.cur,.map (some L.ms)],Q0 Xy L.mp (Zt L.pres),Jd QX L.mt RR (XY TrD.ad L.tr) dn cur left,Z3 K4 L.tr,Q0 QX L.ms (Jh L.sh),Zo L.sp n Fr V,F]) (L0:=[(0,_),(1,_),(5,_),(34,_)]) (left0) (Vl rfl rfl rfl rfl) ⟨_,_,_,rfl,rfl,hSR.pick [0,1,2,3,4,5,6] rfl⟩ ?_)))
 rintro _ _ w1 ⟨dn,cur,left,rfl,rfl,hS1⟩
 refine Qd (Qa (JF 2 hS1 keysInt.inj rfl rfl rfl (fun hdone=> ?_) (fun i v left2 wN hleft hgk hnd hSN=> ?_)))
 ·refine Qs rfl rfl rfl (Qf (Qc (Qd (QT rfl (QR (Qq (Qq (Qy (Qc (Qd ?_))))))))))
  have hz0:=Wo (hS1.pick [2,0,1,3,4,5,6] rfl)
  have hS2:=ZA (hz0.pick [3,0,1,2,4,5,6] rfl) ht
  refine Qa (Qb rfl rfl (Qj rfl rfl (Qg rfl Wb rfl (Qp rfl JP (hS2.cell 0 rfl rfl) rfl ?_))))
  refine Qv Fz rfl (Mp (hS2.sp [1] rfl) (fun ks h=> by have :=hc.keysL ht h;omega)) rfl ?_
  rintro _ w3 ⟨ks,hks,hS3⟩
  replace hS3:=hS3.jn rfl rfl
  clear hS2
  obtain⟨ar,cr,hvr,_⟩:=hS3.own_shape 0 rfl; obtain rfl:=hvr
  refine Qe rfl rfl (Qf (Qc (Qh [5,1,0,8] rfl (Qd ?_))))
  have hS4:=Zq ht (hS3.pick [2,1,3,4,5,0,6,7,8,9,10,11] rfl)
  have hS5:=QV (L:=L) (hS4.pick [3,4,2,0,5,1,6,7] rfl)
  have hord:=qbr hks
  have hnd:=Ub hks.nodup
  have hoc:(QM ks).length≤c:= by rw[WK]; exact hc.keysL ht (Came.of_all hks)
  refine Qa (Qb rfl rfl (Qb rfl rfl (Qb rfl rfl (Zf cal_50 rfl (SQ (hS5.sp [0,2,1] rfl) (by omega) hI hm ht hord hnd hoc) rfl ?_))))
  rintro e w6 ⟨_,rfl,(⟨V1,mm,made,ex1,rfl,hmd,hS6⟩ | ⟨V1,rfl,hmi,hmab,hmf,hmal,hS6⟩)⟩
  ·refine⟨_,rfl, ?_⟩
   replace hS6:=hS6.jn rfl rfl
   clear hS5
   refine Qb rfl rfl (Qs rfl rfl rfl (Qs rfl rfl rfl (Qe rfl rfl (Qe rfl rfl (Qf (Qc (Qh [5,1,0,8,9,10] rfl (Qd (Qd (Qa (Qb rfl rfl (X0 rfl rfl rfl (Qf (Qc (Qt rfl (fun h7=> ?_) (fun h7=> ?_))))))))))))))))
   ·exact absurd rfl h7
   have hne:id≠t.parent:= fun q=>hch id t ht q.symm
   have hse0:=SeI.first hI ht
   have hcm0:=CmI.start hmd.inv ht
   rw[hmd.ab]at hcm0
   refine Qr (Qc (UE (fun E0 W0=> ∃(L1:LvD) (V2:VS),E0=[(0,ptrV b 0),(1,intV id),(5,ptrV t.ad 0),(8,.slice ar (QM ks).length cr),(9,.map (some mm))]∧Sat W0 [ZN b L1,Zo L1.sp (n+4*c) Fr V2,rowT kC (.slice ar (QM ks).length cr) (QM ks),Q0 Xy mm (Gy made),F]∧(CmI ex1 m L L1 V1 V2 id t (comR (Q5 L V) (ZH V t) (QM ks)))) ?_ ?_))
   ·refine Qd (Qa (Qb rfl rfl (Qj rfl rfl (Qg rfl JJ rfl (Qp rfl QN (Kr hS6 0 rfl ht 0 rfl) rfl (X0 rfl rfl rfl (Qf (Qc (Qh [5,1,0,8,9,64] rfl (Qt rfl (fun h9=> ?_) (fun h9=> ?_)))))))))))
    ·have hp0:t.parent≠0:=h9
     refine Qd (Qa (Qb rfl rfl ?_))
     first | refine XE Tryz.underlying98 rfl rfl ?_ | refine JG 2 hS6 Tryz.underlying98 rfl rfl rfl ?_
     refine Qb rfl rfl (Qf (Qc (Qw ?_)))
     refine Xa (fun K0 E0 W0=> ∃(i:Nat) (L1:LvD) (V2:VS),K0=(QM ks).length -i∧E0=[(0,ptrV b 0),(1,intV id),(5,ptrV t.ad 0),(8,.slice ar (QM ks).length cr),(9,.map (some mm)),(65,.slice ar (QM ks).length cr),(66,intV ((QM ks).length:Int)),(67,intV (i:Int))]∧Sat W0 [ZN b L1,Zo L1.sp (n+2*c+2*i) Fr V2,rowT kC (.slice ar (QM ks).length cr) (QM ks),Q0 Xy mm (Gy made),F]∧(i≤(QM ks).length)∧(CmI ex1 m L L1 V1 V2 id t (((QM ks).take i).foldl (SH t.parent (ZH V t)) (Q5 L V)))) (L0:=[(0,_),(1,_),(5,_),(8,_),(9,_),(65,_),(66,_),(67,_)]) ((QM ks).length) (AK rfl rfl rfl rfl rfl rfl rfl rfl) ⟨0,L,V1, by omega,rfl,hS6.pick [0,1,2,3,4] rfl, by omega,hcm0⟩ ?_
     rintro _ _ w10 ⟨i,L1,V2,rfl,rfl,hS10,hi,hcm⟩
     refine Qd (Qa (Xg rfl rfl rfl (Qf (Qc (Qd (Qt rfl (fun h11=> ?_) (fun h11=> ?_)))))))
     ·obtain⟨k,hk⟩: ∃k,(QM ks)[i]? =some k:=⟨_,Zi (by omega)⟩
      obtain⟨x,hl⟩: ∃x,t.lv k=some x:=Option.ne_none_iff_exists'.1 ((hord k).1 (List.mem_of_getElem? hk))
      refine Qr (Qc (Qd (Qw (Qd (Qa (Xr kC 2 i hS10 rfl rfl rfl (by first | rfl | omega) hk B3 rfl ?_))))))
      intro bx12 capx12 hvx12
      refine Wj 2 i hS10 rfl hvx12 rfl hk X8 Xd rfl rfl (Xc hS10 ZO rfl rfl ?_)
      intro kb wk13 hk13
      clear hS10
      refine QU hk13 rfl rfl Xd rfl (by rfl) (i:=0) rfl (by decide) ?_
      intro wk14 hk14; dsimp only[List.set]at hk14
      clear hk13
      replace hk14:=XM (k:=k) hk14
      refine Qf (Qc (Qh [67,66,65,9,8,5,1,0,12] rfl (Qd ?_)))
      have hS15:=Yw hcm.tr hl (hk14.pick [1,0,2,3,4,5] rfl)
      have hS16:=hS15.drew
      refine QI [0,1,2,3,4,5,6] [] Wq (by kernel_rfl) ?_
      refine QE rfl rfl rfl (Xj rfl rfl rfl (QS rfl rfl rfl Wb (Q8 rfl rfl rfl (Qm rfl JP (hS16.cell 2 rfl rfl)) (Q8 rfl rfl rfl (XD rfl X8 Xd (hS16.blk 10 rfl) (Xn rfl) rfl) (Q8 rfl rfl rfl (Xz (k:=k) 3 hS16 keysKey Tryz.underlying90 rfl rfl rfl HW (u:=ptrV x.ad 0) (XV hl)) (XP rfl rfl rfl (VC.nil (Qc (Qh [67,66,65,9,8,5,1,0,12,13] rfl (Qd (Qa (Qb rfl rfl (Qj rfl rfl (Qg rfl YQ rfl (Qp rfl Y1 (hS16.cell 0 rfl rfl) rfl (X0 rfl rfl rfl (Qf (Qc (Qh [67,66,65,9,8,5,1,0,12,13,81] rfl (Qt rfl (fun h17=> ?_) (fun h17=> ?_)))))))))))))))))))))
      ·have hrd:x.rd≠0#64:= fun e=>h17 (by rw[e];rfl)
       refine Qd ?_
       have hS18:=Jg (L:=L1) (y:=x) hcm.tr hl rfl (hS16.pick [0,1,2,3,4,5,6,7,8,9,10,11,12,13,14] rfl)
       rw[YE hcm.tr hl]at hS18
       obtain⟨tp,htp⟩:=(hcm.par (SeI.reads hne hp0 ((QM ks).take i) hse0)).resolve_left hp0
       have hS19:=hS18.drew
       refine QI [0,1,2,3,4,5,6,7] [6] Wq (by kernel_rfl) ?_
       refine QE rfl rfl rfl (QE rfl rfl rfl (Xj rfl rfl rfl (QS rfl rfl rfl JJ (Q8 rfl rfl rfl (Qm rfl QN (Kr hS19 0 rfl hcm.tr 0 rfl)) (Q8 rfl rfl rfl (XD rfl X8 Xd (by first | exact hS19.blk 1 rfl) (Xn rfl) rfl) ?_)))))
       refine Xi rfl rfl rfl rfl rfl rfl ?_
       refine Qv Bc rfl (Us (hS19.sp [0,2] rfl) (by omega) (hcm.inv.rank.ends hm) htp (k:=k)) rfl ?_
       rintro _ w20 ⟨L2,V3,t2,y,rfl,hT,hS20⟩
       replace hS20:=hS20.jn rfl rfl
       clear hS19
       have ht2:=hT.tr htp
       have hy2:=hT.lv
       have htid:L2.tr id=some t:=(hT.oth hne).trans hcm.tr
       refine X9 (Xu (by kernel_rfl)) ?_
       refine XP rfl rfl rfl (VC.nil (Qc (Qh [67,66,65,9,8,5,1,0,13,14] rfl ?_)))
       have hS21:=Yw ht2 hy2 (hS20.pick [0,1,2,3,4,5] rfl)
       have htu:X1 L2.tr t.parent none id=some t:= by rw[QF hne]; exact htid
       have hS22:=hS21.drew
       refine QI [0,1,2,3,4,5,6,7,8,9,10,11,12,13,14,15,16] [16] Wq (by kernel_rfl) ?_
       refine QE rfl rfl rfl (Xj rfl rfl rfl (QS rfl rfl rfl YQ (Q8 rfl rfl rfl (Qm rfl Y1 (hS22.cell 0 rfl rfl)) (QE rfl rfl rfl (Xj rfl rfl rfl (QS rfl rfl rfl YQ (Q8 rfl rfl rfl (Qm rfl Y1 (La hS22 5 rfl htu hl 2 rfl)) (QE rfl rfl rfl (Xj rfl rfl rfl (QS rfl rfl rfl W8 (Q8 rfl rfl rfl (Qm rfl Y1 (hS22.cell 0 rfl rfl)) (QZ rfl rfl rfl (fun _=>(VN rfl rfl)) ?_))))))))))))
       refine QZ rfl rfl rfl (fun _=>(Gc rfl rfl)) ?_
       refine Xj rfl rfl rfl (QS rfl rfl rfl YQ (Xi rfl rfl rfl rfl rfl rfl ?_))
       refine QJ hS22 rfl rfl Bt rfl (i:=0) rfl (Xn rfl) ?_
       intro w23 hS23; dsimp only[List.set]at hS23
       clear hS22
       refine Z0 (Xu (by kernel_rfl)) ?_
       refine VC.nil (Ql (Qc (Qh [67,66,65,9,8,5,1,0] rfl (Qa (QK rfl rfl (by omega) (by omega) rfl ?_)))))
       refine Qb rfl rfl (Qf ?_)
       have hS24:=Jg (L:=L2) (y:={y with rd:=y.rd ||| (x.rd&&& ~~~y.wr)}) ht2 hy2 rfl (hS23.pick [0,1,2,3,4,5,6,7,8,9,10,11,12,13,14] rfl)
       exact Q4 (L1:=[(0,_),(1,_),(5,_),(8,_),(9,_),(65,_),(66,_),(67,intV ((i+1:Nat):Int))]) (AK rfl rfl rfl rfl rfl rfl rfl rfl) (k1:=(QM ks).length -(i+1)) (by omega) ⟨i+1,_,_, by omega,rfl,(X2 (m:=n+2*c+2*(i+1)) (by omega) (hS24.pick [1,0,3,4,5] rfl)).reorder [1,0,2,3,4] rfl, by omega, by rw[Uf hk]; exact hcm.read hmd.nn hl hrd hne htp hT⟩
      have hrd0:x.rd=0#64:=zerW (Decidable.not_not.1 h17)
      refine Qr (Ql (Qc (Qh [67,66,65,9,8,5,1,0] rfl (Qa (QK rfl rfl (by omega) (by omega) rfl ?_)))))
      refine Qb rfl rfl (Qf ?_)
      have hS25:=Jg (L:=L1) (y:=x) hcm.tr hl rfl (hS16.pick [0,1,2,3,4,5,6,7,8,9,10,11,12,13,14] rfl)
      rw[YE hcm.tr hl]at hS25
      exact Q4 (L1:=[(0,_),(1,_),(5,_),(8,_),(9,_),(65,_),(66,_),(67,intV ((i+1:Nat):Int))]) (AK rfl rfl rfl rfl rfl rfl rfl rfl) (k1:=(QM ks).length -(i+1)) (by omega) ⟨i+1,L1,V2, by omega,rfl,(X2 (m:=n+2*c+2*(i+1)) (by omega) (hS25.pick [2,0,3,4,5] rfl)).reorder [1,0,2,3,4] rfl, by omega, by rw[Uf hk,OB (ZE hl) hrd0]; exact hcm⟩
     refine QR (Qq (Qq (Qy ?_)))
     have hil:i=(QM ks).length:= by omega
     rw[hil,List.take_length]at hcm
     exact Wc (Vp rfl rfl rfl rfl rfl) ⟨L1,V2,rfl,(X2 (m:=n+4*c) (by omega) (hS10.pick [1,0,2,3,4] rfl)).reorder [1,0,2,3,4] rfl, by unfold comR; rw[if_neg (show ¬(ZH V t).parent=0 from hp0)]; exact hcm⟩
    have hp0:t.parent=0:=Decidable.not_not.1 h9
    refine Qr ?_
    exact Wc (Vp rfl rfl rfl rfl rfl) ⟨L,V1,rfl,(X2 (m:=n+4*c) (by omega) (hS6.pick [1,0,2,3,4] rfl)).reorder [1,0,2,3,4] rfl, by unfold comR; rw[if_pos (show(ZH V t).parent=0 from hp0)]; exact hcm0⟩
   rintro _ w8 ⟨L1,V2,rfl,hS8,hcm⟩
   have hseR:=SeI.comR (t:=ZH V t) (l:=(QM ks)) hse0 hne
   refine Qd (Qd ?_)
   have hS26:=XK (hS8.pick [0,1,2,3,4] rfl)
   have hS27:=ZA (hS26.pick [3,0,1,2,4,5,6,7,8] rfl) hcm.tr
   refine Qa (Qb rfl rfl (Qj rfl rfl (Qg rfl RT rfl (Qp rfl Cn (hS27.cell 0 rfl rfl) rfl (Qv qa7 rfl (kd_sp (hS27.sp [] rfl) rfl) rfl ?_)))))
   rintro _ w28 ⟨ck,rfl,hS28⟩
   replace hS28:=hS28.jn rfl rfl
   clear hS27
   have hK:=Sat.fold (As:=[QG ck [.map (some t.md)],Q0 Xq t.md (Jh t.dr)]) (hS28.pick [0,4,1,2,3,5,6,7,8,9,10,11,12,13] rfl)
   have hC29:=hK.sp [0] rfl
   refine Qv Fy rfl (KT hC29 LC (itS ck t.md (Jh t.dr)) (fun ks h=> by have :=hd ks h;omega)) rfl ?_
   rintro _ w29 ⟨ns,hns,hS29⟩
   replace hS29:=hS29.jn rfl rfl; clear hC29
   clear hK
   have hz2:=(hS29.pick [1,0,2,3,4,5,6,7,8,9,10,11,12,13] rfl).flat; dsimp only[BC,BB]at hz2
   obtain⟨an,cn,hvn,_⟩:=hz2.own_shape 2 rfl; obtain rfl:=hvn
   have hS30:=Zq hcm.tr (hz2.pick [3,4,5,1,6,0,2,7,8,9,10,11,12,13,14] rfl)
   have hS31:=QV (L:=L1) (hS30.pick [3,4,5,0,6,1,2,7,8,9,10] rfl)
   have hnl:(Zd ns).length≤d:= by rw[YC]; exact hd _ (Came.of_all hns)
   have hob:=allS hns
   refine XE Tryz.underlying61 rfl rfl (Qb rfl rfl (Qf (Qc (Qh [9,8,5,1,0,111,112,113] rfl (Qw ?_)))))
   refine Xa (fun K0 E0 W0=> ∃(j:Nat) (L1:LvD) (V2:VS),K0=(Zd ns).length -j∧E0=[(0,ptrV b 0),(1,intV id),(5,ptrV t.ad 0),(8,.slice ar (QM ks).length cr),(9,.map (some mm)),(111,.slice an (Zd ns).length cn),(112,intV ((Zd ns).length:Int)),(113,intV (j:Int))]∧Sat W0 [ZN b L1,Zo L1.sp (n+4*c+4*c*j) Fr V2,rowT kC (.slice ar (QM ks).length cr) (QM ks),Q0 Xy mm (Gy made),rowT stC (.slice an (Zd ns).length cn) (Zd ns),F]∧(j≤(Zd ns).length)∧(CmI ex1 m L L1 V1 V2 id t (((Zd ns).take j).foldl (WG t.parent) (comR (Q5 L V) (ZH V t) (QM ks))))) (L0:=[(0,_),(1,_),(5,_),(8,_),(9,_),(111,_),(112,_),(113,_)]) ((Zd ns).length) (AK rfl rfl rfl rfl rfl rfl rfl rfl) ⟨0,L1,V2, by omega,rfl,hS31.pick [0,3,4,5,2,6] rfl, by omega,hcm⟩ ?_
   rintro _ _ w32 ⟨j,L1,V2,rfl,rfl,hS32,hj,hcm⟩
   have hcd:4*c*j≤4*c*d:=Nat.mul_le_mul_left _ (by omega)
   refine Qd (Qa (Xg rfl rfl rfl (Qf (Qc (Qd (Qt rfl (fun h33=> ?_) (fun h33=> ?_)))))))
   ·obtain⟨ob,hjb⟩: ∃ob,(Zd ns)[j]? =some ob:=⟨_,Zi (by omega)⟩
    refine Qr (Qc (Qd (Qw (Qd (Qa (Xr stC 4 j hS32 rfl rfl rfl (by first | rfl | omega) hjb KK rfl ?_))))))
    intro bx34 capx34 hvx34
    refine Zx 4 j 0 hS32 rfl hvx34 rfl rfl hjb ZZ rfl rfl (Qe rfl rfl (Qf (Qc (Qh [113,112,111,9,8,5,1,0,16] rfl (Qa (Qb rfl rfl (Qb rfl rfl (Qj rfl rfl (Qg rfl JJ rfl (Qp rfl QN (Kr hS32 0 rfl hcm.tr 0 rfl) rfl (Qb rfl rfl (Qv F5 rfl (qae (c:=2*c) (hS32.sp [0,1] rfl) (hcm.sz2 ht hc) (by omega) hcm.inv hmd.nn (hcm.par (SeI.drops hne ((Zd ns).take j) hseR)) ob) rfl ?_))))))))))))
    rintro _ w35 ⟨L2,V3,hs,hab,ho,hS35⟩
    replace hS35:=hS35.jn rfl rfl
    clear hS32
    refine Qf (Ql (Qc (Qh [113,112,111,9,8,5,1,0] rfl (Qa (QK rfl rfl (by omega) (by omega) rfl ?_)))))
    refine Qb rfl rfl (Qf ?_)
    have hcm2:=hcm.step hs ho (fun _ q=>q.elim) hne (hab.trans (by rw[hcm.ab]))
    exact Q4 (L1:=[(0,_),(1,_),(5,_),(8,_),(9,_),(111,_),(112,_),(113,intV ((j+1:Nat):Int))]) (AK rfl rfl rfl rfl rfl rfl rfl rfl) (k1:=(Zd ns).length -(j+1)) (by omega) ⟨j+1,_,_, by omega,rfl,(X2 (m:=n+4*c+4*c*(j+1)) (by rw[Nat.mul_succ];omega) (hS35.pick [1,0,2,3,4,5] rfl)).reorder [1,0,2,3,4,5] rfl, by omega, by rw[Uf hjb]; exact hcm2⟩
   refine QR (Qq (Qq (Qy (Qc (Qd (Qd (Qa (Qb rfl rfl ?_))))))))
   first | refine XE Tryz.underlying98 rfl rfl ?_ | refine JG 2 hS32 Tryz.underlying98 rfl rfl rfl ?_ | refine JG 4 hS32 Tryz.underlying98 rfl rfl rfl ?_
   refine Qb rfl rfl (Qf (Qc (Qh [9,5,1,0,125,126,127] rfl (Qw ?_))))
   have hjl:j=(Zd ns).length:= by omega
   rw[hjl,List.take_length]at hcm
   have hgv0:=GvI.start (V0:=V) (made:=made) (A0:=(Q5 L V)) (order:=(QM ks)) hcm hmd.mx
   have hseD:=SeI.drops hne (Zd ns) hseR
   rw[List.nil_append]at hseD
   have hcd2:4*c*j≤4*c*d:=Nat.mul_le_mul_left _ (by omega)
   have hz3:=(X2 (m:=n+4*c+4*c*d+5*0) (by omega) (hS32.pick [1,0,2,3,5] rfl)).reorder [1,0,2,3,4] rfl
   refine Xa (fun K0 E0 W0=> ∃(i:Nat) (L1:LvD) (V2:VS) (ex2:Int→Int),K0=(QM ks).length -i∧E0=[(0,ptrV b 0),(1,intV id),(5,ptrV t.ad 0),(9,.map (some mm)),(125,.slice ar (QM ks).length cr),(126,intV ((QM ks).length:Int)),(127,intV (i:Int))]∧Sat W0 [ZN b L1,Zo L1.sp (n+4*c+4*c*d+5*i) Fr V2,rowT kC (.slice ar (QM ks).length cr) (QM ks),Q0 Xy mm (Gy made),F]∧(i≤(QM ks).length)∧(GvI ex2 m L L1 V V1 V2 id t made (Q5 L V) ((Zd ns).foldl (WG t.parent) (comR (Q5 L V) (ZH V t) (QM ks))) (QM ks) i)) (L0:=[(0,_),(1,_),(5,_),(9,_),(125,_),(126,_),(127,_)]) ((QM ks).length) (Cq rfl rfl rfl rfl rfl rfl rfl) ⟨0,L1,V2,ex1, by omega,rfl,hz3.pick [0,1,2,3,4] rfl, by omega,hgv0⟩ ?_
   rintro _ _ w36 ⟨i,L1,V2,ex2,rfl,rfl,hS36,hi,hgv⟩
   refine Qd (Qa (Xg rfl rfl rfl (Qf (Qc (Qd (Qt rfl (fun h37=> ?_) (fun h37=> ?_)))))))
   ·obtain⟨k,hk⟩: ∃k,(QM ks)[i]? =some k:=⟨_,Zi (by omega)⟩
    obtain⟨x,hl⟩: ∃x,t.lv k=some x:=Option.ne_none_iff_exists'.1 ((hord k).1 (List.mem_of_getElem? hk))
    refine Qr (Qc (Qd (Qw (Qd (Qa (Xr kC 2 i hS36 rfl rfl rfl (by first | rfl | omega) hk B3 rfl ?_))))))
    intro bx38 capx38 hvx38
    refine Wj 2 i hS36 rfl hvx38 rfl hk X8 Xd rfl rfl (Xc hS36 ZO rfl rfl ?_)
    intro kb wk39 hk39
    clear hS36
    refine QU hk39 rfl rfl Xd rfl (by rfl) (i:=0) rfl (by decide) ?_
    intro wk40 hk40; dsimp only[List.set]at hk40
    clear hk39
    replace hk40:=XM (k:=k) hk40
    refine Qf (Qc (Qh [127,126,125,9,5,1,0,18] rfl (Qd ?_)))
    have hS41:=Yw hgv.cm.tr hl (hk40.pick [1,0,2,3,4,5] rfl)
    have hS42:=hS41.drew
    refine QI [0,1,2,3,4,5,6] [] Wq (by kernel_rfl) ?_
    refine QE rfl rfl rfl (Xj rfl rfl rfl (QS rfl rfl rfl Wb (Q8 rfl rfl rfl (Qm rfl JP (hS42.cell 2 rfl rfl)) (Q8 rfl rfl rfl (XD rfl X8 Xd (hS42.blk 10 rfl) (Xn rfl) rfl) (Q8 rfl rfl rfl (Xz (k:=k) 3 hS42 keysKey Tryz.underlying90 rfl rfl rfl HW (u:=ptrV x.ad 0) (XV hl)) (XP rfl rfl rfl (VC.nil (Qc (Qh [127,126,125,9,5,1,0,18,19] rfl (Qd (Qa (Qb rfl rfl (Qj rfl rfl (Qg rfl W8 rfl (Qp rfl Y1 (hS42.cell 0 rfl rfl) rfl (X0 rfl rfl rfl (Qf (Qc (Qh [127,126,125,9,5,1,0,18,19,141] rfl (Qt rfl (fun h43=> ?_) (fun h43=> ?_)))))))))))))))))))))
    ·have hw:x.wr≠0#64:= fun e=>h43 (by rw[e];rfl)
     refine Qd (Qa (Qb rfl rfl ?_))
     refine XA rfl X8 Xd (by first | exact hS42.blk 0 rfl | exact hS42.blk 2 rfl | exact hS42.blk 6 rfl | exact hS42.blk 10 rfl) (by first | decide | exact Xn rfl | (simp;done) | omega) rfl rfl ?_
     rcases hmk:made k with _ | s
     ·refine Wk (k:=k) 13 hS42 keysKey Tryz.underlying81 rfl rfl rfl HV (u:=intV 0) (g:=false) (by unfold Gy; rw[hmk];rfl) (by unfold Gy; rw[hmk];rfl) rfl ?_
      refine Qb rfl rfl (Qs rfl rfl rfl (Qs rfl rfl rfl (Qe rfl rfl (Qe rfl rfl (Qf (Qc (Qh [127,126,125,9,5,1,0,18,19,20,21] rfl (Qd (Qd (Qa (Qb rfl rfl (QQ rfl rfl (Qf (Qc (QL rfl (fun h44=> ?_) (fun h44=> ?_))))))))))))))))
      ·refine Qd (Qa (Qb rfl rfl (Qj rfl rfl (Qg rfl Jy rfl (Qp rfl QN (hS42.cell 0 rfl rfl) rfl (Qe rfl rfl (Qf (Qc (Qh [127,126,125,9,5,1,0,18,19,20] rfl (Qa (Qb rfl rfl (Qb rfl rfl (Qv MH rfl (Pa (hS42.sp [6,9,11] rfl) (by omega) x.own) rfl ?_)))))))))))))
       rintro _ w45 ⟨rfl,hS45⟩
       replace hS45:=hS45.jn rfl rfl
       clear hS42
       refine Qf (Qc (Qh [127,126,125,9,5,1,0,18,19,20] rfl ?_))
       have hS46:=Jg (L:={L1 with sh:=Y4 L1.sh x.own}) (y:=x) hgv.cm.tr hl rfl (hS45.pick [3,4,5,6,7,8,0,9,10,1,2,11,12,13,14] rfl)
       rw[YE (L:={L1 with sh:=Y4 L1.sh x.own}) hgv.cm.tr hl]at hS46
       have hdrk:k.1∈(Zd ns)→x.wr=BitVec.allOnes 64:= fun q=>hdr id _ k _ (Zp ht) ((hob _).1 q) (ZE hl)
       have hpar:=hgv.cm.par (SeI.gives hne ((QM ks).take i) hseD)
       have hS47:=hS46.drew
       refine QI [0,1,2,3,4,5,6,7,8,9,10,11] [11] Wq (by kernel_rfl) ?_
       refine QE rfl rfl rfl (QE rfl rfl rfl (Xj rfl rfl rfl (QS rfl rfl rfl JJ (Q8 rfl rfl rfl (Qm rfl QN (Kr hS47 0 rfl hgv.cm.tr 0 rfl)) (Q8 rfl rfl rfl (XD rfl X8 Xd (by first | exact hS47.blk 2 rfl) (Xn rfl) rfl) ?_)))))
       refine QE rfl rfl rfl (QE rfl rfl rfl (Xj rfl rfl rfl (QS rfl rfl rfl W8 (Q8 rfl rfl rfl (Qm rfl Y1 (Pm hS47 0 rfl hgv.cm.tr hl 3 rfl)) (Xi rfl rfl rfl rfl rfl rfl ?_)))))
       have hr:=hgv.cm.ref (hgv.own_alive hl) (Y4 L1.sh x.own)
       have hnr:NN (fun j=>ex2 j+dl x.own j):=nn_add hgv.nn
       have hcon:=(Yt (V:=V2) (s:=x.own) (j:=x.own)).trans (hgv.con_own hmd hI ht hk hl hw hmk)
       refine Qv qa6 rfl (P1 (hS47.sp [0,1] rfl) (by omega) hr.inv hnr hm hpar (fun h0=> by have :=hgv.nn x.own h0; show 1≤ex2 x.own+dl x.own x.own; rw[Ww];omega) k x.wr (fun h0=>hgv.ag hI hseD hne hk hnd hdrk (hr.ab.trans hgv.cm.ab.symm) hcon h0)) rfl ?_
       rintro _ w48 ⟨L2,V3,hs,hab,ho,hS48⟩
       replace hS48:=hS48.jn rfl rfl
       clear hS47
       refine X9 (Xu (by kernel_rfl)) ?_
       refine VC.nil (Ql (Qc (Qh [127,126,125,9,5,1,0] rfl (Qa (QK rfl rfl (by omega) (by omega) rfl ?_)))))
       refine Qb rfl rfl (Qf ?_)
       exact Q4 (L1:=[(0,_),(1,_),(5,_),(9,_),(125,_),(126,_),(127,intV ((i+1:Nat):Int))]) (Cq rfl rfl rfl rfl rfl rfl rfl) (k1:=(QM ks).length -(i+1)) (by omega) ⟨i+1,_,_,_, by omega,rfl,(X2 (m:=n+4*c+4*c*d+5*(i+1)) (by omega) (hS48.pick [1,0,3,4,5] rfl)).reorder [1,0,2,3,4] rfl, by omega,hgv.own_next hmd hI hne ht hk hnd hl hw hmk hs hab ho⟩
      exact absurd h44 (by decide)
     refine Wk (k:=k) 13 hS42 keysKey Tryz.underlying81 rfl rfl rfl HV (u:=intV s) (g:=true) (by unfold Gy; rw[hmk];rfl) (by unfold Gy; rw[hmk];rfl) rfl ?_
     refine Qb rfl rfl (Qs rfl rfl rfl (Qs rfl rfl rfl (Qe rfl rfl (Qe rfl rfl (Qf (Qc (Qh [127,126,125,9,5,1,0,18,19,20,21] rfl (Qd (Qd (Qa (Qb rfl rfl (QQ rfl rfl (Qf (Qc (QL rfl (fun h49=> ?_) (fun h49=> ?_))))))))))))))))
     ·exact absurd h49 (by decide)
     refine Qr (Qc (Qh [127,126,125,9,5,1,0,18,19,20] rfl ?_))
     have hS50:=Jg (L:=L1) (y:=x) hgv.cm.tr hl rfl (hS42.pick [0,1,2,3,4,5,6,7,8,9,10,11,12,13,14] rfl)
     rw[YE hgv.cm.tr hl]at hS50
     have hdrk:k.1∈(Zd ns)→x.wr=BitVec.allOnes 64:= fun q=>hdr id _ k _ (Zp ht) ((hob _).1 q) (ZE hl)
     have hpar:=hgv.cm.par (SeI.gives hne ((QM ks).take i) hseD)
     have hS51:=hS50.drew
     refine QI [0,1,2,3,4,5,6,7,8,9,10,11] [11] Wq (by kernel_rfl) ?_
     refine QE rfl rfl rfl (QE rfl rfl rfl (Xj rfl rfl rfl (QS rfl rfl rfl JJ (Q8 rfl rfl rfl (Qm rfl QN (Kr hS51 0 rfl hgv.cm.tr 0 rfl)) (Q8 rfl rfl rfl (XD rfl X8 Xd (by first | exact hS51.blk 1 rfl) (Xn rfl) rfl) ?_)))))
     refine QE rfl rfl rfl (QE rfl rfl rfl (Xj rfl rfl rfl (QS rfl rfl rfl W8 (Q8 rfl rfl rfl (Qm rfl Y1 (Pm hS51 0 rfl hgv.cm.tr hl 3 rfl)) (Xi rfl rfl rfl rfl rfl rfl ?_)))))
     refine Qv qa6 rfl (P1 (hS51.sp [0,2] rfl) (by omega) hgv.cm.inv hgv.nn hm hpar (fun h0=>hgv.ge hk hnd hmk h0) k x.wr (fun h0=>hgv.ag hI hseD hne hk hnd hdrk rfl (hgv.con_made hmd hI hk hnd hl hmk) h0)) rfl ?_
     rintro _ w52 ⟨L2,V3,hs,hab,ho,hS52⟩
     replace hS52:=hS52.jn rfl rfl
     clear hS51
     refine X9 (Xu (by kernel_rfl)) ?_
     refine VC.nil (Ql (Qc (Qh [127,126,125,9,5,1,0] rfl (Qa (QK rfl rfl (by omega) (by omega) rfl ?_)))))
     refine Qb rfl rfl (Qf ?_)
     exact Q4 (L1:=[(0,_),(1,_),(5,_),(9,_),(125,_),(126,_),(127,intV ((i+1:Nat):Int))]) (Cq rfl rfl rfl rfl rfl rfl rfl) (k1:=(QM ks).length -(i+1)) (by omega) ⟨i+1,_,_,_, by omega,rfl,(X2 (m:=n+4*c+4*c*d+5*(i+1)) (by omega) (hS52.pick [1,0,3,4,5] rfl)).reorder [1,0,2,3,4] rfl, by omega,hgv.made_next hmd hI hne hk hnd hl hw hmk hs hab ho⟩
    have hw0:x.wr=0#64:=zerW (Decidable.not_not.1 h43)
    refine Qr (Ql (Qc (Qa (QK rfl rfl (by omega) (by omega) rfl ?_))))
    refine Qb rfl rfl (Qf ?_)
    have hS53:=Jg (L:=L1) (y:=x) hgv.cm.tr hl rfl (hS42.pick [0,1,2,3,4,5,6,7,8,9,10,11,12,13,14] rfl)
    rw[YE hgv.cm.tr hl]at hS53
    exact Q4 (L1:=[(0,_),(1,_),(5,_),(9,_),(125,_),(126,_),(127,intV ((i+1:Nat):Int))]) (Cq rfl rfl rfl rfl rfl rfl rfl) (k1:=(QM ks).length -(i+1)) (by omega) ⟨i+1,L1,V2,_, by omega,rfl,(X2 (m:=n+4*c+4*c*d+5*(i+1)) (by omega) (hS53.pick [2,0,3,4,5] rfl)).reorder [1,0,2,3,4] rfl, by omega,hgv.skip hmd hk hnd hl hw0⟩
   refine QR (Qq (Qq (Qy (Qc (Qd ?_)))))
   have hil:i=(QM ks).length:= by omega
   rw[hil]at hgv
   have hfin:=hgv.fin (fun k hk=>((hmd.dom k).1 hk).1)
   refine Qa (Qb rfl rfl (Qb rfl rfl (Qv qa5 rfl (TA (c:=2*c) (ex:= fun _=>0) (hS36.sp [0,1] rfl) (hgv.cm.sz2 ht hc) (by omega) hfin (fun _ _=>Int.le_refl _) hgv.cm.tr (hgv.cm.noch hch)) rfl ?_)))
   rintro _ w54 ⟨L3,V4,hs3,hab3,hp3,ht3,hS54⟩
   replace hS54:=hS54.jn rfl rfl
   clear hS36
   exact Qf (Qc (Sv (L':=[]) .nil (Qd (Qa (Qe rfl rfl (Qf (Qc (Qu (QP (.inr rfl) rfl rfl (⟨_,rfl,L3,V4,.inl ⟨rfl,gv_end hI ht hmd hgv hord hnd hob hs3 hab3 hp3 ht3⟩,(X2 (m:=n+(16*c+4*c*d)) (by omega) (hS54.pick [1,0,4] rfl)).reorder [1,0,2] rfl⟩))))))))))
  refine⟨_,rfl, ?_⟩
  replace hS6:=hS6.jn rfl rfl
  clear hS5
  refine Qb rfl rfl (Qs rfl rfl rfl (Qs rfl rfl rfl (Qe rfl rfl (Qe rfl rfl (Qf (Qc (Qh [5,1,0,8,9,10] rfl (Qd (Qd (Qa (Qb rfl rfl (X0 rfl rfl rfl (Qf (Qc (Qt rfl (fun h55=> ?_) (fun h55=> ?_))))))))))))))))
  ·exact Qd (Qa (Qb rfl rfl (Qe rfl rfl (Qf (Qc (Qu (Qn (QP (.inr rfl) rfl rfl (⟨_,rfl,L,V1,.inr ⟨rfl,rfl,(QM ks),hord,hnd,hmi,hmab,hmf,hmal⟩,(X2 (m:=n+(16*c+4*c*d)) (by omega) (hS6.pick [1,0,3] rfl)).reorder [1,0,2] rfl⟩)))))))))
  exact absurd (by decide) h55
 dsimp only[List.set]at hSN
 obtain⟨u,hu,rfl⟩:=BX hgk
 refine Qs rfl rfl rfl (Qf (Qc (Qd (Xl rfl (Qr (Qc (Qw (Qd (Qa (WJ 2 hSN rfl hgk rfl rfl (Qs rfl rfl rfl (Qe rfl rfl (Qf (Qc (Qd (Qa (Qb rfl rfl (Qj rfl rfl (Qg rfl JJ rfl (Qp rfl QN ((ZA (hSN.pull 3 rfl) hu).cell 0 rfl rfl) rfl (Qb rfl rfl (Xe rfl rfl rfl (Qf (Qc (Qh [34,5,1,0,44] rfl (Qt rfl (fun h56=> ?_) (fun h56=> ?_)))))))))))))))))))))))))))
 ·exact absurd h56 (hch _ _ hu)
 exact Qr (Ql (Q4 (L1:=[(0,_),(1,_),(5,_),(34,_)]) (Vl rfl rfl rfl rfl) (k1:=left2) (by omega) ⟨_,_,_,rfl,rfl,hSN.pick [0,1,2,3,4,5,6] rfl⟩))
end Go.Proofs.YtkcjfoaejijdoaaGreatDoor
namespace Go.Proofs.YtkcjfoaejijdoaaGreatDoor
open Go.RowKit M
set_option linter.unusedSectionVars false
variable [Inhabited SlW]
def MD (A:LvA) (t:TrA) (k:KD):Bs:= match t.lv k with
  | some x=> if x.wr=0#64 then(if t.dr k.1=true then zer else A.pres k)else Rf (A.pres k) x.own x.wr
  | none=> if t.dr k.1=true then zer else A.pres k
theorem LvA.eq2 {A B:LvA} (h1:A.pres=B.pres) (h2:A.tr=B.tr):A=B:= by cases A; cases B; simp at h1 h2; subst h1; subst h2;rfl
theorem Ja {A:LvA} {k:KD}:Zr A 0 k=A.pres k:= by unfold Zr; rw[Jq,if_pos rfl]
theorem gvS0_tr {A0 A:LvA} {t:TrA} {j:KD}:(RM A0 0 t A j).tr=A.tr:= by
  unfold RM
  cases t.lv j with
  | none=>rfl
  | some x=>
    dsimp only
    by_cases q:x.wr=0#64
    · rw[if_pos q]
    · rw[if_neg q,if_pos rfl]
theorem ET {A0 A:LvA} {t:TrA} {j k:KD} (h:k≠j):(RM A0 0 t A j).pres k=A.pres k:= by
  unfold RM
  cases t.lv j with
  | none=>rfl
  | some x=>
    dsimp only
    by_cases q:x.wr=0#64
    · rw[if_pos q]
    · rw[if_neg q,if_pos rfl]; exact Zb h
theorem TT {A0:LvA} {t:TrA}: ∀(l:List KD) (A:LvA),l.Nodup→(l.foldl (RM A0 0 t) A).tr=A.tr∧ ∀k,(l.foldl (RM A0 0 t) A).pres k= if k∈l then(match t.lv k with | none=>A.pres k | some x=> if x.wr=0#64 then A.pres k else BH A0 0 k x)else A.pres k
  | [],A,_=>⟨rfl, fun k=> by simp⟩
  | j::l,A,hn=> by
    obtain⟨hj,hn⟩:=List.nodup_cons.1 hn
    obtain⟨a,b⟩:=TT (A0:=A0) (t:=t) l (RM A0 0 t A j) hn
    refine⟨a.trans gvS0_tr, fun k=> ?_⟩
    show(l.foldl (RM A0 0 t) (RM A0 0 t A j)).pres k=_
    rw[b k]
    by_cases e:k=j
    · subst e
      rw[if_neg hj,if_pos List.mem_cons_self]
      unfold RM
      cases t.lv k with
      | none=>rfl
      | some x=>
        dsimp only
        by_cases q:x.wr=0#64
        · rw[if_pos q,if_pos q]
        · rw[if_neg q,if_neg q,if_pos rfl]; exact XG
    · rw[ET e]
      by_cases q:k∈l
      · rw[if_pos q,if_pos (List.mem_cons_of_mem _ q)]
      · rw[if_neg q,if_neg (by simp [e,q])]
theorem M9: ∀(l:List Bs) (A:LvA),(l.foldl (WG 0) A).tr=A.tr∧ ∀k,(l.foldl (WG 0) A).pres k= if k.1∈l then zer else A.pres k
  | [],A=>⟨rfl, fun k=> by simp⟩
  | ob::l,A=> by
    obtain⟨a,b⟩:=M9 l (WG 0 A ob)
    have h1:(WG 0 A ob).tr=A.tr:= by unfold WG; rw[if_pos rfl];rfl
    refine⟨a.trans h1, fun k=> ?_⟩
    show(l.foldl (WG 0) (WG 0 A ob)).pres k=_
    rw[b k]
    have h2:(WG 0 A ob).pres k= if k.1=ob then zer else A.pres k:= by
      unfold WG
      rw[if_pos rfl]
      show W4 (fun j:KD=>j.1=ob) zer A.pres k=_
      unfold W4
      by_cases e:k.1=ob
      · rw[if_pos e,if_pos e]
      · rw[if_neg e,if_neg e]
    rw[h2]
    by_cases q:k.1∈l
    · rw[if_pos q,if_pos (List.mem_cons_of_mem _ q)]
    · rw[if_neg q]
      by_cases e:k.1=ob
      · rw[if_pos e,if_pos (by simp [e])]
      · rw[if_neg e,if_neg (by simp [e,q])]
theorem Ar {A:LvA} {id:Int} {t:TrA} {order:List KD} {obs:List Bs} (hp:t.parent=0) (hn:order.Nodup) (ho: ∀k,k∈order↔t.lv k≠none) (hob: ∀ob,ob∈obs↔t.dr ob=true):
    PU A id t order obs=⟨MD A t,X1 A.tr id none⟩:= by
  obtain⟨a,b⟩:=TT (A0:=A) (t:=t) order (obs.foldl (WG 0) A) hn
  obtain⟨c,d⟩:=M9 obs A
  unfold PU
  rw[hp,if_pos rfl]
  apply LvA.eq2
  · funext k
    show(order.foldl (RM A 0 t) (obs.foldl (WG 0) A)).pres k=MD A t k
    rw[b k,d k]
    unfold MD
    cases q:t.lv k with
    | none=>
      rw[if_neg (by rw[ho,q]; simp)]
      by_cases e:t.dr k.1=true
      · rw[if_pos ((hob _).2 e),if_pos e]
      · rw[if_neg (fun h=>e ((hob _).1 h)),if_neg e]
    | some x=>
      rw[if_pos ((ho k).2 (by rw[q]; simp))]
      dsimp only
      by_cases w:x.wr=0#64
      · rw[if_pos w,if_pos w]
        by_cases e:t.dr k.1=true
        · rw[if_pos ((hob _).2 e),if_pos e]
        · rw[if_neg (fun h=>e ((hob _).1 h)),if_neg e]
      · rw[if_neg w,if_neg w];unfold BH; rw[Ja]
  · show X1 (order.foldl (RM A 0 t) (obs.foldl (WG 0) A)).tr id none=X1 A.tr id none
    rw[a,c]
def LsP (p m c e:Nat) (A:LvA) (L:LvD) (V:VS):Prop:=L.sp=p∧LvI m L V∧Q5 L V=A∧AliveLe V c∧SzLe L e
def JX (b p n m c e:Nat) (A:LvA):Th:=CI fun L=>CI fun V=>starL [WR (LsP p m c e A L V),ZN b L,Zo L.sp n 256 V]
section
variable {w:World} {b p n m c e:Nat} {A:LvA} {As:List Th}
theorem Zw (h:Sat w (JX b p n m c e A::As)): ∃L V,LsP p m c e A L V∧Sat w (ZN b L::Zo L.sp n 256 V::As):= by
  obtain⟨L,h⟩:=h.ex
  obtain⟨V,h⟩:=h.ex
  have h:=h.flat
  dsimp only[BC,BB]at h
  obtain⟨hp,h⟩:=h.pure_elim
  exact⟨L,V,hp,h⟩
theorem ZC {L:LvD} {V:VS} (hp:LsP p m c e A L V) (h:Sat w (ZN b L::Zo L.sp n 256 V::As)):Sat w (JX b p n m c e A::As):=
  Sat.ex_intro L (Sat.ex_intro V (Sat.fold (As:=[WR (LsP p m c e A L V),ZN b L,Zo L.sp n 256 V]) (Sat.pure_intro hp h)))
theorem WD {n' m' c' e':Nat} (hn:n≤n') (hm:m≤m') (hc:c≤c') (he:e≤e') (h:Sat w (JX b p n m c e A::As)):Sat w (JX b p n' m' c' e' A::As):= by
  obtain⟨L,V,⟨h1,h2,h3,h4,h5⟩,h⟩:=Zw h
  have h6:LvI m' L V:=⟨h2.ref,(by obtain⟨h0,r,a,b⟩:=h2.rank; exact⟨h0,r, fun i=>Nat.le_trans (a i) hm,b⟩),h2.agree⟩
  exact ZC ⟨h1,h6,h3,h4.mono hc,h5.mono he⟩ ((X2 hn (h.perm (List.Perm.swap _ _ _))).perm (List.Perm.swap _ _ _))
end
theorem NW {w:World} {b p mp mt ms:Nat} {As:List Th} (h:Sat w (ZN b (Hr p mp mt ms)::Zo p 0 256 (fun _=>none)::As)):Sat w (JX b p 0 0 0 0 OZ::As):= by
  obtain⟨h1,h2,h3,h4,_⟩:=OY (sp:=p) (mp:=mp) (mt:=mt) (ms:=ms)
  exact ZC (L:=Hr p mp mt ms) (V:= fun _=>none) ⟨rfl,h1,h2,h3,h4⟩ h
def VA (A:LvA) (t:TrA):Prop:= ∀k x,t.lv k=some x→ ∀j,j<64→x.rd.getLsbD j=true→x.base[j]? =(Zr A t.parent k)[j]?
theorem VA_iff {m:Nat} {L:LvD} {V:VS} {t:TrD} (hI:LvI m L V):(∀k x,t.lv k=some x→VK L V t k x)↔VA (Q5 L V) (ZH V t):= by
  constructor
  · intro h k y hy j hj hr
    cases q:t.lv k with
    | none=> rw[UA q]at hy; cases hy
    | some x=>
      rw[ZE q]at hy
      cases hy
      have h1:=h k x q j hj hr
      rw[hI.sees]at h1
      exact h1
  · intro h k x hx j hj hr
    have h1:=h k _ (ZE hx) j hj hr
    rw[hI.sees]
    exact h1
theorem Mm {w:World} {b p n m c e:Nat} {A:LvA} {F:Th} (hS:Sat w [JX b p n m c e A,F]) (hn:n≤60000000000) (hm:m<Zl) (id parent:Int):
    Calls Tryz.prog 11 #[ptrV b 0,intV id,intV parent] w (Ret fun v w'=>v=intV (Gq A id parent)∧Sat w' [JX b p n (m+1) c e (BL A id parent),F]):= by
  obtain⟨L,V,⟨h1,h2,rfl,h4,h5⟩,hS1⟩:=Zw hS
  refine(begI_sp hS1 h2 id parent).mono fun ew w h=>h.mono fun v w h=> ?_
  obtain⟨L',rfl,hs,ha,hS⟩:=h
  exact⟨rfl,ZC ⟨hs.sp.trans h1,hs.inv,ha,hs.al _ h4,hs.sz _ h5⟩ hS⟩
theorem Pq {w:World} {b p n m c e:Nat} {A:LvA} {F:Th} (hS:Sat w [JX b p n m c e A,F]) (hn:n≤60000000000) (hm:m<Zl) (ob:Bs) (a:Int) (hr:0≤a∧a<16384):
    Calls Tryz.prog 12 #[ptrV b 0,intV 0,strV ob,intV a] w (Ret fun v w'=>v=XS (Ny (A.pres (ob,a/ 64)) (a%64))∧Sat w' [JX b p n m c e A,F]):= by
  obtain⟨L,V,⟨h1,h2,rfl,h4,h5⟩,hS1⟩:=Zw hS
  refine(AB hS1 hn ob a h2 hm hr).mono fun ew w h=>h.mono fun v w h=> ?_
  exact⟨h.1,ZC ⟨h1,h2,rfl,h4,h5⟩ h.2⟩
theorem Pp {w:World} {b p n m c e:Nat} {A:LvA} {F:Th} (hS:Sat w [JX b p n m c e A,F]) (hn:n≤60000000000) (hm:m<Zl) {id:Int} {tA:TrA} (ht:A.tr id=some tA) (ob:Bs) (a:Int) (hr:0≤a∧a<16384):
    Calls Tryz.prog 12 #[ptrV b 0,intV id,strV ob,intV a] w (Ret fun v w'=>v=XS (Ny (Zk A id (ob,a/ 64)).own (a%64))∧Sat w' [JX b p (n+2) m c (e+1) (ZG A id (ob,a/ 64) (rdX (Zk A id (ob,a/ 64)) (a%64))),F]):= by
  obtain⟨L,V,⟨h1,h2,rfl,h4,h5⟩,hS1⟩:=Zw hS
  obtain⟨t,ht1,rfl⟩:=Yp ht
  refine(AA hS1 hn ob a h2 hm ht1 hr).mono fun ew w h=>h.mono fun v w h=> ?_
  obtain⟨L',V',rfl,hs,ha,hS⟩:=h
  exact⟨rfl,ZC ⟨hs.sp.trans h1,hs.inv,ha,hs.al _ h4,hs.sz _ h5⟩ hS⟩
theorem Po {w:World} {b p n m c e:Nat} {A:LvA} {F:Th} (hS:Sat w [JX b p n m c e A,F]) (hn:n≤60000000000) (hm:m<Zl) (hc:c+1<256) (ob:Bs) (a:Int) (bt:UInt8) (hr:0≤a∧a<16384):
    Calls Tryz.prog 10 #[ptrV b 0,intV 0,strV ob,intV a,XS bt] w (Ret fun v w'=>v=intV 0∧Sat w' [JX b p (n+5) m (c+1) (e+1) (wrP A (ob,a/ 64) (a%64) bt),F]):= by
  obtain⟨L,V,⟨h1,h2,rfl,h4,h5⟩,hS1⟩:=Zw hS
  refine(Ot hS1 hn ob a bt h2 hm hr).mono fun ew w h=>h.mono fun v w h=> ?_
  obtain⟨L',V',er,rfl,hs,hq,hS⟩:=h
  rcases hq with⟨rfl,ha⟩ | ⟨_,_,hT⟩
  · exact⟨rfl,ZC ⟨hs.sp.trans h1,hs.inv,ha,hs.al _ h4,hs.sz _ h5⟩ hS⟩
  · have :=hT c h4
    omega
theorem Pn {w:World} {b p n m c e:Nat} {A:LvA} {F:Th} (hS:Sat w [JX b p n m c e A,F]) (hn:n≤60000000000) (hm:m<Zl) {id:Int} {tA:TrA} (ht:A.tr id=some tA) (hc:c+1<256) (ob:Bs) (a:Int) (bt:UInt8) (hr:0≤a∧a<16384):
    Calls Tryz.prog 10 #[ptrV b 0,intV id,strV ob,intV a,XS bt] w (Ret fun v w'=>v=intV 0∧Sat w' [JX b p (n+5) m (c+1) (e+1) (ZG A id (ob,a/ 64) (wrX (Zk A id (ob,a/ 64)) (a%64) bt)),F]):= by
  obtain⟨L,V,⟨h1,h2,rfl,h4,h5⟩,hS1⟩:=Zw hS
  obtain⟨t,ht1,rfl⟩:=Yp ht
  refine(Oq hS1 hn ob a bt h2 hm ht1 hr).mono fun ew w h=>h.mono fun v w h=> ?_
  obtain⟨L',V',er,rfl,hs,hq,hS⟩:=h
  rcases hq with⟨rfl,ha⟩ | ⟨_,_,hT⟩
  · exact⟨rfl,ZC ⟨hs.sp.trans h1,hs.inv,ha,hs.al _ h4,hs.sz _ h5⟩ hS⟩
  · have :=hT c h4
    omega
theorem RJ {w:World} {b p n m c e:Nat} {A:LvA} {F:Th} (hS:Sat w [JX b p n m c e A,F]) (hn:n≤60000000000) (hm:m<Zl) (hG:Ent F GT) {id:Int} {tA:TrA} (ht:A.tr id=some tA):
    Calls Tryz.prog 14 #[ptrV b 0,intV id] w (Ret fun v w'=> ∃r:Bool,v= .bool r∧(r=true↔VA A tA)∧Sat w' [JX b p n m c e A,F]):= by
  obtain⟨L,V,⟨h1,h2,rfl,h4,h5⟩,hS1⟩:=Zw hS
  obtain⟨t,ht1,rfl⟩:=Yp ht
  refine(Ee hS1 hn h2 hm hG ht1).mono fun ew w h=>h.mono fun v w h=> ?_
  obtain⟨r,rfl,hr,hS⟩:=h
  exact⟨r,rfl,hr.trans (VA_iff h2),ZC ⟨h1,h2,rfl,h4,h5⟩ hS⟩
end Go.Proofs.YtkcjfoaejijdoaaGreatDoor
