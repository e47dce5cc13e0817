/- leaves: Commit -/
import Derived.Test.YtkcjfoaejijdoaaGreatDoorLv25
set_option linter.unusedSectionVars false
set_option linter.unusedVariables false
set_option maxRecDepth 100000
set_option maxHeartbeats 3200000
namespace Go.Proofs.YtkcjfoaejijdoaaGreatDoor
open Go.RowKit M
variable [Inhabited SlW]
noncomputable def comR (A:LvA) (t:TrA) (l:List KD):LvA:= if t.parent=0 then A else l.foldl (rdS t.parent t) A
theorem SeI.comR {A0:LvA} {id:Int} {t:TrA} {l:List KD} (h:SeI A0 A0 id t.parent t [] []) (hne:id≠t.parent):SeI A0 (comR A0 t l) id t.parent t [] []:= by
  unfold Go.Proofs.YtkcjfoaejijdoaaGreatDoor.comR
  by_cases h0:t.parent=0
  · rw[if_pos h0]; exact h
  · rw[if_neg h0]; exact SeI.reads hne h0 l h
theorem comA_eq {A:LvA} {id:Int} {t:TrA} {l:List KD} {obs:List Bs}:P8 A id t l obs=GE (l.foldl (gvS A t.parent t) (obs.foldl (WZ t.parent) (comR A t l))) id:=rfl
theorem SeI.first {m:Nat} {L:LvD} {V:VS} {id:Int} {t:TrD} (hI:LvI m L V) (ht:L.tr id=some t):SeI (Q1 L V) (Q1 L V) id t.parent (ZF V t) [] []:=
  SeI.start (Zk ht) fun h0=> by
    obtain⟨_,r,_,h2⟩:=hI.rank
    have a:=((h2 id t ht).resolve_left h0).1
    cases q:L.tr t.parent with
    | none=> exact absurd q a
    | some tp=> exact⟨_,Zk q⟩
theorem allS {f:Bs→Bool} {ks:List Bs} (h:AllC (ZZ f) ks) (ob:Bs):ob∈W2 ks↔f ob=true:= by
  rw[(B6 ks).mem_iff,h.mem]
  unfold ZZ
  cases f ob<;> simp
def ComY (m:Nat) (L L':LvD) (V V':VS) (id:Int) (t:TrD):Prop:= ∃order obs,(∀k,k∈order↔t.lv k≠none)∧order.Nodup∧(∀ob,ob∈obs↔t.dr ob=true)∧LvI m L' V'∧L'.sp=L.sp∧Q1 L' V'=P8 (Q1 L V) id (ZF V t) order obs∧(∀c,SzLe L c→SzLe L' c)∧ ∀c,AliveLe V c→AliveLe V' (c+Yi t order)
def ComN (m Fr:Nat) (L:LvD) (V V':VS) (t:TrD):Prop:= ∃order:List KD,(∀k,k∈order↔t.lv k≠none)∧order.Nodup∧LvI m L V'∧Q1 L V'=Q1 L V∧(∀c,AliveLe V c→Fr≤c+Yi t order)∧ ∀c,AliveLe V c→AliveLe V' (c+Yi t order)
theorem gv_end {m:Nat} {L L1 L2:LvD} {V V1 V2 V3:VS} {id:Int} {t:TrD} {made:KD→Option Int} {ex ex0:Int→Int} {order:List KD} {obs:List Bs} (hI:LvI m L V) (ht:L.tr id=some t) (hmd:MdI m L V V1 t ex0 made order) (hgv:GvI ex m L L1 V V1 V2 id t made (Q1 L V) (obs.foldl (WZ t.parent) (comR (Q1 L V) (ZF V t) order)) order order.length)
    (hord: ∀k,k∈order↔t.lv k≠none) (hnd:order.Nodup) (hob: ∀ob,ob∈obs↔t.dr ob=true) (hs:StepX (fun _=>0) m L1 V2 (fun _=>0) m 0 0 L2 V3) (hab:Q1 L2 V3=GE (Q1 L1 V2) id) (hp:L2.pres=L1.pres) (hT:L2.tr=Xi L1.tr id none):ComY m L L2 V V3 id t:= by
  refine⟨order,obs,hord,hnd,hob,hs.inv,hs.sp.trans hgv.cm.sp, ?_, fun c hc=>hgv.cm.ok.szRem (Ss ht) (hI.rank.none0 ht) hp hT hc, fun c hc=>hs.al _ (hgv.cm.al _ (hmd.al c hc))⟩
  rw[hab,comA_eq,hgv.cm.ab,List.take_length]
  rfl
theorem nn_add {ex:Int→Int} {s:Int} (h:NN ex):NN (fun j=>ex j+dl s j):= fun j hj=> by
  show 0≤ex j+dl s j
  have :=h j hj
  by_cases e:j=s
  · subst e; rw[Wt];omega
  · rw[Ja e];omega
theorem ME {w:World} {m c d:Nat} {b n Fr:Nat} {L:LvD} {V:VS} {F:Th} (hS:Sat w [XY b L,XG L.sp n Fr V,F]) (hn:n+(16*c+4*c*d)≤60000000000) (hI:LvI m L V) (hm:m<Zs) (hc:SzLe L c) {id:Int} {t:TrD} (ht:L.tr id=some t) (hch: ∀i u,L.tr i=some u→u.parent≠id) (hdr:DrA (Q1 L V)) (hd: ∀ks,Came (ZZ t.dr) ks→ks.length≤d) (hdm:d≤90000000000):
    Calls Tryz.prog 13 #[ptrV b 0,intV id] w (Ret fun v w'=> ∃L' V',((v=intV 0∧ComY m L L' V V' id t)∨(v=intV 6∧L'=L∧ComN m Fr L V V' t))∧Sat w' [XY b L',XG L'.sp (n+(16*c+4*c*d)) Fr V',F]):= by
 replace hS:=Xy hS
 refine Qm Tryz.func13 U Tryz.ntmps13 U ?_
 refine Qd (Qa (Qe U U (Qf (Qc (Qd (Qa (Qb U U (Qj U U (Qg U Z7 U (Qn U WN (hS.cell 0 U U) U (Qb U U (XT (k:=id) 2 hS keysInt Tryz.underlying82 U U U Yu (u:=ptrV t.ad 0) (Zw ht) U (Qe U U (Qf (Qc (Qd (Qd (Qa (Qb U U (ZO Tryz.underlying94 U U U (Qf (Qc (Qh [1,0,4,5,29] U (QT U (Qt (Qc (Qd (Qd (Qa (Qb U U (Qj U U (Qg U Z7 U (Qn U WN (hS.cell 0 U U) U (Wm 2 hS Tryz.underlying82 U U U ?_))))))))))))))))))))))))))))))))))
 intro RR left0 wR hSR; dsimp only[List.set]at hSR
 refine Qf (Qc (Qv (Xb (fun K0 E0 W0=> ∃(dn:Int→Prop) (cur:Option Int) (left:Nat),K0=left∧E0=[(0,ptrV b 0),(1,intV id),(5,ptrV t.ad 0),(34,ptrV RR 0)]∧Sat W0 [Q3 b [ptrV L.sp 0,.map (some L.mp),.map (some L.mt),intV L.cur,.map (some L.ms)],Q5 Xo L.mp (Zg L.pres),Wq QO L.mt RR (Xv TrD.ad L.tr) dn cur left,Zj HK L.tr,Q5 QO L.ms (ZZ L.sh),XG L.sp n Fr V,F]) (L0:=[(0,_),(1,_),(5,_),(34,_)]) (left0) (VN U U U U) ⟨_,_,_,rfl,rfl,hSR.pick [0,1,2,3,4,5,6] U⟩ ?_)))
 rintro _ _ w1 ⟨dn,cur,left,rfl,rfl,hS1⟩
 refine Qd (Qa (WP 2 hS1 keysInt.inj U U U (fun hdone=> ?_) (fun i v left2 wN hleft hgk hnd hSN=> ?_)))
 ·refine Qq U U U (Qf (Qc (Qd (QT U (QM (Qo (Qo (Qx (Qc (Qd ?_))))))))))
  have hz0:=ZQ (hS1.pick [2,0,1,3,4,5,6] U)
  have hS2:=ZB (hz0.pick [3,0,1,2,4,5,6] U) ht
  refine Qa (Qb U U (Qj U U (Qg U ZU U (Qn U Jy (hS2.cell 0 U U) U ?_))))
  refine Qw TG U (Ra (hS2.sp [1] U) (fun ks h=> by have :=hc.keysL ht h;omega)) U ?_
  rintro _ w3 ⟨ks,hks,hS3⟩
  replace hS3:=hS3.jn U U
  clear hS2
  obtain⟨ar,cr,hvr,_⟩:=hS3.own_shape 0 rfl; obtain rfl:=hvr
  refine Qe U U (Qf (Qc (Qh [5,1,0,8] U (Qd ?_))))
  have hS4:=ZW ht (hS3.pick [2,1,3,4,5,0,6,7,8,9,10,11] U)
  have hS5:=QZ (L:=L) (hS4.pick [3,4,2,0,5,1,6,7] U)
  have hord:=PJ hks
  have hnd:=H6 hks.nodup
  have hoc:(Q8 ks).length≤c:= by rw[ZJ]; exact hc.keysL ht (Came.of_all hks)
  refine Qa (Qb U U (Qb U U (Qb U U (XU cal_50 U (Pj (hS5.sp [0,2,1] U) (by omega) hI hm ht hord hnd hoc) U ?_))))
  rintro e w6 ⟨_,rfl,(⟨V1,mm,made,ex1,rfl,hmd,hS6⟩ | ⟨V1,rfl,hmi,hmab,hmf,hmal,hS6⟩)⟩
  ·refine⟨_,rfl, ?_⟩
   replace hS6:=hS6.jn U U
   clear hS5
   refine Qb U U (Qq U U U (Qq U U U (Qe U U (Qe U U (Qf (Qc (Qh [5,1,0,8,9,10] U (Qd (Qd (Qa (Qb U U (X0 U U U (Qf (Qc (Qs U (fun h7=> ?_) (fun h7=> ?_))))))))))))))))
   ·exact absurd U h7
   have hne:id≠t.parent:= fun q=>hch id t ht q.symm
   have hse0:=SeI.first hI ht
   have hcm0:=CmI.start hmd.inv ht
   rw[hmd.ab]at hcm0
   refine Qt (Qc (Ee (fun E0 W0=> ∃(L1:LvD) (V2:VS),E0=[(0,ptrV b 0),(1,intV id),(5,ptrV t.ad 0),(8,.slice ar (Q8 ks).length cr),(9,.map (some mm))]∧Sat W0 [XY b L1,XG L1.sp (n+4*c) Fr V2,rowT kC (.slice ar (Q8 ks).length cr) (Q8 ks),Q5 Xo mm (RA made),F]∧(CmI ex1 m L L1 V1 V2 id t (comR (Q1 L V) (ZF V t) (Q8 ks)))) ?_ ?_))
   ·refine Qd (Qa (Qb U U (Qj U U (Qg U JT U (Qn U QL (V6 hS6 0 U ht 0 U) U (X0 U U U (Qf (Qc (Qh [5,1,0,8,9,64] U (Qs U (fun h9=> ?_) (fun h9=> ?_)))))))))))
    ·have hp0:t.parent≠0:=h9
     refine Qd (Qa (Qb U U ?_))
     first | refine Xr Tryz.underlying98 U U ?_ | refine ZG 2 hS6 Tryz.underlying98 U U U ?_
     refine Qb U U (Qf (Qc (Qv ?_)))
     refine Xb (fun K0 E0 W0=> ∃(i:Nat) (L1:LvD) (V2:VS),K0=(Q8 ks).length -i∧E0=[(0,ptrV b 0),(1,intV id),(5,ptrV t.ad 0),(8,.slice ar (Q8 ks).length cr),(9,.map (some mm)),(65,.slice ar (Q8 ks).length cr),(66,intV ((Q8 ks).length:Int)),(67,intV (i:Int))]∧Sat W0 [XY b L1,XG L1.sp (n+2*c+2*i) Fr V2,rowT kC (.slice ar (Q8 ks).length cr) (Q8 ks),Q5 Xo mm (RA made),F]∧(i≤(Q8 ks).length)∧(CmI ex1 m L L1 V1 V2 id t (((Q8 ks).take i).foldl (rdS t.parent (ZF V t)) (Q1 L V)))) (L0:=[(0,_),(1,_),(5,_),(8,_),(9,_),(65,_),(66,_),(67,_)]) ((Q8 ks).length) (zb8 U U U U U U U U) ⟨0,L,V1, by omega,rfl,hS6.pick [0,1,2,3,4] U, by omega,hcm0⟩ ?_
     rintro _ _ w10 ⟨i,L1,V2,rfl,rfl,hS10,hi,hcm⟩
     refine Qd (Qa (Xg U U U (Qf (Qc (Qd (Qs U (fun h11=> ?_) (fun h11=> ?_)))))))
     ·obtain⟨k,hk⟩: ∃k,(Q8 ks)[i]? =some k:=⟨_,Zi (by omega)⟩
      obtain⟨x,hl⟩: ∃x,t.lv k=some x:=Option.ne_none_iff_exists'.1 ((hord k).1 (List.mem_of_getElem? hk))
      refine Qt (Qc (Qd (Qv (Qd (Qa (QW kC 2 i hS10 U U U (by first | rfl | omega) hk Va U ?_))))))
      intro bx12 capx12 hvx12
      refine ZA 2 i hS10 U hvx12 U hk X7 Xc U U (QX hS10 Z2 U U ?_)
      intro kb wk13 hk13
      clear hS10
      refine QK hk13 U U Xc U (by rfl) (i:=0) U (by decide) ?_
      intro wk14 hk14; dsimp only[List.set]at hk14
      clear hk13
      replace hk14:=X5 (k:=k) hk14
      refine Qf (Qc (Qh [67,66,65,9,8,5,1,0,12] U (Qd ?_)))
      have hS15:=J5 hcm.tr hl (hk14.pick [1,0,2,3,4,5] U)
      have hS16:=hS15.drew
      refine QF [0,1,2,3,4,5,6] [] We (by kernel_rfl) ?_
      refine QG U U U (Xh U U U (QV U U U ZU (Q4 U U U (Qr U Jy (hS16.cell 2 U U)) (Q4 U U U (XF U X7 Xc (hS16.blk 10 U) (Xa U) U) (Q4 U U U (Xz (k:=k) 3 hS16 keysKey Tryz.underlying90 U U U HQ (u:=ptrV x.ad 0) (Zw hl)) (Za U U U (VC.nil (Qc (Qh [67,66,65,9,8,5,1,0,12,13] U (Qd (Qa (Qb U U (Qj U U (Qg U J6 U (Qn U Jm (hS16.cell 0 U U) U (X0 U U U (Qf (Qc (Qh [67,66,65,9,8,5,1,0,12,13,81] U (Qs U (fun h17=> ?_) (fun h17=> ?_)))))))))))))))))))))
      ·have hrd:x.rd≠0#64:= fun e=>h17 (by rw[e];rfl)
       refine Qd ?_
       have hS18:=W4 (L:=L1) (y:=x) hcm.tr hl U (hS16.pick [0,1,2,3,4,5,6,7,8,9,10,11,12,13,14] U)
       rw[Yx hcm.tr hl]at hS18
       obtain⟨tp,htp⟩:=(hcm.par (SeI.reads hne hp0 ((Q8 ks).take i) hse0)).resolve_left hp0
       have hS19:=hS18.drew
       refine QF [0,1,2,3,4,5,6,7] [6] We (by kernel_rfl) ?_
       refine QG U U U (QG U U U (Xh U U U (QV U U U JT (Q4 U U U (Qr U QL (V6 hS19 0 U hcm.tr 0 U)) (Q4 U U U (XF U X7 Xc (by first | exact hS19.blk 1 U) (Xa U) U) ?_)))))
       refine Xn U U U U U U ?_
       refine Qw K6 U (Hr (hS19.sp [0,2] U) (by omega) (hcm.inv.rank.ends hm) htp (k:=k)) U ?_
       rintro _ w20 ⟨L2,V3,t2,y,rfl,hT,hS20⟩
       replace hS20:=hS20.jn U U
       clear hS19
       have ht2:=hT.tr htp
       have hy2:=hT.lv
       have htid:L2.tr id=some t:=(hT.oth hne).trans hcm.tr
       refine XQ (X1 (by kernel_rfl)) ?_
       refine Za U U U (VC.nil (Qc (Qh [67,66,65,9,8,5,1,0,13,14] U ?_)))
       have hS21:=J5 ht2 hy2 (hS20.pick [0,1,2,3,4,5] U)
       have htu:Xi L2.tr t.parent none id=some t:= by rw[Q7 hne]; exact htid
       have hS22:=hS21.drew
       refine QF [0,1,2,3,4,5,6,7,8,9,10,11,12,13,14,15,16] [16] We (by kernel_rfl) ?_
       refine QG U U U (Xh U U U (QV U U U J6 (Q4 U U U (Qr U Jm (hS22.cell 0 U U)) (QG U U U (Xh U U U (QV U U U J6 (Q4 U U U (Qr U Jm (So hS22 5 U htu hl 2 U)) (QG U U U (Xh U U U (QV U U U ZV (Q4 U U U (Qr U Jm (hS22.cell 0 U U)) (X8 U U U (fun _=>(HD U U)) ?_))))))))))))
       refine X8 U U U (fun _=>(V9 U U)) ?_
       refine Xh U U U (QV U U U J6 (Xn U U U U U U ?_))
       refine Q6 hS22 U U VZ U (i:=0) U (Xa U) ?_
       intro w23 hS23; dsimp only[List.set]at hS23
       clear hS22
       refine Z4 (X1 (by kernel_rfl)) ?_
       refine VC.nil (Qk (Qc (Qh [67,66,65,9,8,5,1,0] U (Qa (QI U U (by omega) (by omega) U ?_)))))
       refine Qb U U (Qf ?_)
       have hS24:=W4 (L:=L2) (y:={y with rd:=y.rd ||| (x.rd&&& ~~~y.wr)}) ht2 hy2 U (hS23.pick [0,1,2,3,4,5,6,7,8,9,10,11,12,13,14] U)
       exact Q0 (L1:=[(0,_),(1,_),(5,_),(8,_),(9,_),(65,_),(66,_),(67,intV ((i+1:Nat):Int))]) (zb8 U U U U U U U U) (k1:=(Q8 ks).length -(i+1)) (by omega) ⟨i+1,_,_, by omega,rfl,(Xe (m:=n+2*c+2*(i+1)) (by omega) (hS24.pick [1,0,3,4,5] U)).reorder [1,0,2,3,4] U, by omega, by rw[HA hk]; exact hcm.read hmd.nn hl hrd hne htp hT⟩
      have hrd0:x.rd=0#64:=zerW (Decidable.not_not.1 h17)
      refine Qt (Qk (Qc (Qh [67,66,65,9,8,5,1,0] U (Qa (QI U U (by omega) (by omega) U ?_)))))
      refine Qb U U (Qf ?_)
      have hS25:=W4 (L:=L1) (y:=x) hcm.tr hl U (hS16.pick [0,1,2,3,4,5,6,7,8,9,10,11,12,13,14] U)
      rw[Yx hcm.tr hl]at hS25
      exact Q0 (L1:=[(0,_),(1,_),(5,_),(8,_),(9,_),(65,_),(66,_),(67,intV ((i+1:Nat):Int))]) (zb8 U U U U U U U U) (k1:=(Q8 ks).length -(i+1)) (by omega) ⟨i+1,L1,V2, by omega,rfl,(Xe (m:=n+2*c+2*(i+1)) (by omega) (hS25.pick [2,0,3,4,5] U)).reorder [1,0,2,3,4] U, by omega, by rw[HA hk,EO (ZC hl) hrd0]; exact hcm⟩
     refine QM (Qo (Qo (Qx ?_)))
     have hil:i=(Q8 ks).length:= by omega
     rw[hil,List.take_length]at hcm
     exact Ti (YU U U U U U) ⟨L1,V2,rfl,(Xe (m:=n+4*c) (by omega) (hS10.pick [1,0,2,3,4] U)).reorder [1,0,2,3,4] U, by unfold comR; rw[if_neg (show ¬(ZF V t).parent=0 from hp0)]; exact hcm⟩
    have hp0:t.parent=0:=Decidable.not_not.1 h9
    refine Qt ?_
    exact Ti (YU U U U U U) ⟨L,V1,rfl,(Xe (m:=n+4*c) (by omega) (hS6.pick [1,0,2,3,4] U)).reorder [1,0,2,3,4] U, by unfold comR; rw[if_pos (show(ZF V t).parent=0 from hp0)]; exact hcm0⟩
   rintro _ w8 ⟨L1,V2,rfl,hS8,hcm⟩
   have hseR:=SeI.comR (t:=ZF V t) (l:=(Q8 ks)) hse0 hne
   refine Qd (Qd ?_)
   have hS26:=Xy (hS8.pick [0,1,2,3,4] U)
   have hS27:=ZB (hS26.pick [3,0,1,2,4,5,6,7,8] U) hcm.tr
   refine Qa (Qb U U (Qj U U (Qg U Rh U (Qn U MQ (hS27.cell 0 U U) U (Qw OL U (kd_sp (hS27.sp [] U) U) U ?_)))))
   rintro _ w28 ⟨ck,rfl,hS28⟩
   replace hS28:=hS28.jn U U
   clear hS27
   have hK:=Sat.fold (As:=[Q3 ck [.map (some t.md)],Q5 Js t.md (ZZ t.dr)]) (hS28.pick [0,4,1,2,3,5,6,7,8,9,10,11,12,13] U)
   have hC29:=hK.sp [0] U
   refine Qw cal_51 U (NV hC29 cal_118 (itS ck t.md (ZZ t.dr)) (fun ks h=> by have :=hd ks h;omega)) U ?_
   rintro _ w29 ⟨ns,hns,hS29⟩
   replace hS29:=hS29.jn U U; clear hC29
   clear hK
   have hz2:=(hS29.pick [1,0,2,3,4,5,6,7,8,9,10,11,12,13] U).flat; dsimp only[R8,R7]at hz2
   obtain⟨an,cn,hvn,_⟩:=hz2.own_shape 2 rfl; obtain rfl:=hvn
   have hS30:=ZW hcm.tr (hz2.pick [3,4,5,1,6,0,2,7,8,9,10,11,12,13,14] U)
   have hS31:=QZ (L:=L1) (hS30.pick [3,4,5,0,6,1,2,7,8,9,10] U)
   have hnl:(W2 ns).length≤d:= by rw[Hn]; exact hd _ (Came.of_all hns)
   have hob:=allS hns
   refine Xr Tryz.underlying61 U U (Qb U U (Qf (Qc (Qh [9,8,5,1,0,111,112,113] U (Qv ?_)))))
   refine Xb (fun K0 E0 W0=> ∃(j:Nat) (L1:LvD) (V2:VS),K0=(W2 ns).length -j∧E0=[(0,ptrV b 0),(1,intV id),(5,ptrV t.ad 0),(8,.slice ar (Q8 ks).length cr),(9,.map (some mm)),(111,.slice an (W2 ns).length cn),(112,intV ((W2 ns).length:Int)),(113,intV (j:Int))]∧Sat W0 [XY b L1,XG L1.sp (n+4*c+4*c*j) Fr V2,rowT kC (.slice ar (Q8 ks).length cr) (Q8 ks),Q5 Xo mm (RA made),rowT stC (.slice an (W2 ns).length cn) (W2 ns),F]∧(j≤(W2 ns).length)∧(CmI ex1 m L L1 V1 V2 id t (((W2 ns).take j).foldl (WZ t.parent) (comR (Q1 L V) (ZF V t) (Q8 ks))))) (L0:=[(0,_),(1,_),(5,_),(8,_),(9,_),(111,_),(112,_),(113,_)]) ((W2 ns).length) (zb8 U U U U U U U U) ⟨0,L1,V2, by omega,rfl,hS31.pick [0,3,4,5,2,6] U, by omega,hcm⟩ ?_
   rintro _ _ w32 ⟨j,L1,V2,rfl,rfl,hS32,hj,hcm⟩
   have hcd:4*c*j≤4*c*d:=Nat.mul_le_mul_left _ (by omega)
   refine Qd (Qa (Xg U U U (Qf (Qc (Qd (Qs U (fun h33=> ?_) (fun h33=> ?_)))))))
   ·obtain⟨ob,hjb⟩: ∃ob,(W2 ns)[j]? =some ob:=⟨_,Zi (by omega)⟩
    refine Qt (Qc (Qd (Qv (Qd (Qa (QW stC 4 j hS32 U U U (by first | rfl | omega) hjb MA U ?_))))))
    intro bx34 capx34 hvx34
    refine XE 4 j 0 hS32 U hvx34 U U hjb WC U U (Qe U U (Qf (Qc (Qh [113,112,111,9,8,5,1,0,16] U (Qa (Qb U U (Qb U U (Qj U U (Qg U JT U (Qn U QL (V6 hS32 0 U hcm.tr 0 U) U (Qb U U (Qw PF U (Ow (c:=2*c) (hS32.sp [0,1] U) (hcm.sz2 ht hc) (by omega) hcm.inv hmd.nn (hcm.par (SeI.drops hne ((W2 ns).take j) hseR)) ob) U ?_))))))))))))
    rintro _ w35 ⟨L2,V3,hs,hab,ho,hS35⟩
    replace hS35:=hS35.jn U U
    clear hS32
    refine Qf (Qk (Qc (Qh [113,112,111,9,8,5,1,0] U (Qa (QI U U (by omega) (by omega) U ?_)))))
    refine Qb U U (Qf ?_)
    have hcm2:=hcm.step hs ho (fun _ q=>q.elim) hne (hab.trans (by rw[hcm.ab]))
    exact Q0 (L1:=[(0,_),(1,_),(5,_),(8,_),(9,_),(111,_),(112,_),(113,intV ((j+1:Nat):Int))]) (zb8 U U U U U U U U) (k1:=(W2 ns).length -(j+1)) (by omega) ⟨j+1,_,_, by omega,rfl,(Xe (m:=n+4*c+4*c*(j+1)) (by rw[Nat.mul_succ];omega) (hS35.pick [1,0,2,3,4,5] U)).reorder [1,0,2,3,4,5] U, by omega, by rw[HA hjb]; exact hcm2⟩
   refine QM (Qo (Qo (Qx (Qc (Qd (Qd (Qa (Qb U U ?_))))))))
   first | refine Xr Tryz.underlying98 U U ?_ | refine ZG 2 hS32 Tryz.underlying98 U U U ?_ | refine ZG 4 hS32 Tryz.underlying98 U U U ?_
   refine Qb U U (Qf (Qc (Qh [9,5,1,0,125,126,127] U (Qv ?_))))
   have hjl:j=(W2 ns).length:= by omega
   rw[hjl,List.take_length]at hcm
   have hgv0:=GvI.start (V0:=V) (made:=made) (A0:=(Q1 L V)) (order:=(Q8 ks)) hcm hmd.mx
   have hseD:=SeI.drops hne (W2 ns) hseR
   rw[List.nil_append]at hseD
   have hcd2:4*c*j≤4*c*d:=Nat.mul_le_mul_left _ (by omega)
   have hz3:=(Xe (m:=n+4*c+4*c*d+5*0) (by omega) (hS32.pick [1,0,2,3,5] U)).reorder [1,0,2,3,4] U
   refine Xb (fun K0 E0 W0=> ∃(i:Nat) (L1:LvD) (V2:VS) (ex2:Int→Int),K0=(Q8 ks).length -i∧E0=[(0,ptrV b 0),(1,intV id),(5,ptrV t.ad 0),(9,.map (some mm)),(125,.slice ar (Q8 ks).length cr),(126,intV ((Q8 ks).length:Int)),(127,intV (i:Int))]∧Sat W0 [XY b L1,XG L1.sp (n+4*c+4*c*d+5*i) Fr V2,rowT kC (.slice ar (Q8 ks).length cr) (Q8 ks),Q5 Xo mm (RA made),F]∧(i≤(Q8 ks).length)∧(GvI ex2 m L L1 V V1 V2 id t made (Q1 L V) ((W2 ns).foldl (WZ t.parent) (comR (Q1 L V) (ZF V t) (Q8 ks))) (Q8 ks) i)) (L0:=[(0,_),(1,_),(5,_),(9,_),(125,_),(126,_),(127,_)]) ((Q8 ks).length) (D8 U U U U U U U) ⟨0,L1,V2,ex1, by omega,rfl,hz3.pick [0,1,2,3,4] U, by omega,hgv0⟩ ?_
   rintro _ _ w36 ⟨i,L1,V2,ex2,rfl,rfl,hS36,hi,hgv⟩
   refine Qd (Qa (Xg U U U (Qf (Qc (Qd (Qs U (fun h37=> ?_) (fun h37=> ?_)))))))
   ·obtain⟨k,hk⟩: ∃k,(Q8 ks)[i]? =some k:=⟨_,Zi (by omega)⟩
    obtain⟨x,hl⟩: ∃x,t.lv k=some x:=Option.ne_none_iff_exists'.1 ((hord k).1 (List.mem_of_getElem? hk))
    refine Qt (Qc (Qd (Qv (Qd (Qa (QW kC 2 i hS36 U U U (by first | rfl | omega) hk Va U ?_))))))
    intro bx38 capx38 hvx38
    refine ZA 2 i hS36 U hvx38 U hk X7 Xc U U (QX hS36 Z2 U U ?_)
    intro kb wk39 hk39
    clear hS36
    refine QK hk39 U U Xc U (by rfl) (i:=0) U (by decide) ?_
    intro wk40 hk40; dsimp only[List.set]at hk40
    clear hk39
    replace hk40:=X5 (k:=k) hk40
    refine Qf (Qc (Qh [127,126,125,9,5,1,0,18] U (Qd ?_)))
    have hS41:=J5 hgv.cm.tr hl (hk40.pick [1,0,2,3,4,5] U)
    have hS42:=hS41.drew
    refine QF [0,1,2,3,4,5,6] [] We (by kernel_rfl) ?_
    refine QG U U U (Xh U U U (QV U U U ZU (Q4 U U U (Qr U Jy (hS42.cell 2 U U)) (Q4 U U U (XF U X7 Xc (hS42.blk 10 U) (Xa U) U) (Q4 U U U (Xz (k:=k) 3 hS42 keysKey Tryz.underlying90 U U U HQ (u:=ptrV x.ad 0) (Zw hl)) (Za U U U (VC.nil (Qc (Qh [127,126,125,9,5,1,0,18,19] U (Qd (Qa (Qb U U (Qj U U (Qg U ZV U (Qn U Jm (hS42.cell 0 U U) U (X0 U U U (Qf (Qc (Qh [127,126,125,9,5,1,0,18,19,141] U (Qs U (fun h43=> ?_) (fun h43=> ?_)))))))))))))))))))))
    ·have hw:x.wr≠0#64:= fun e=>h43 (by rw[e];rfl)
     refine Qd (Qa (Qb U U ?_))
     refine Xt U X7 Xc (by first | exact hS42.blk 0 U | exact hS42.blk 2 U | exact hS42.blk 6 U | exact hS42.blk 10 U) (by first | decide | exact Xa U | (simp;done) | omega) U U ?_
     rcases hmk:made k with _ | s
     ·refine Wj (k:=k) 13 hS42 keysKey Tryz.underlying81 U U U YN (u:=intV 0) (g:=false) (by unfold RA; rw[hmk];rfl) (by unfold RA; rw[hmk];rfl) U ?_
      refine Qb U U (Qq U U U (Qq U U U (Qe U U (Qe U U (Qf (Qc (Qh [127,126,125,9,5,1,0,18,19,20,21] U (Qd (Qd (Qa (Qb U U (QQ U U (Qf (Qc (QN U (fun h44=> ?_) (fun h44=> ?_))))))))))))))))
      ·refine Qd (Qa (Qb U U (Qj U U (Qg U W5 U (Qn U QL (hS42.cell 0 U U) U (Qe U U (Qf (Qc (Qh [127,126,125,9,5,1,0,18,19,20] U (Qa (Qb U U (Qb U U (Qw K5 U (BJ (hS42.sp [6,9,11] U) (by omega) x.own) U ?_)))))))))))))
       rintro _ w45 ⟨rfl,hS45⟩
       replace hS45:=hS45.jn U U
       clear hS42
       refine Qf (Qc (Qh [127,126,125,9,5,1,0,18,19,20] U ?_))
       have hS46:=W4 (L:={L1 with sh:=J1 L1.sh x.own}) (y:=x) hgv.cm.tr hl U (hS45.pick [3,4,5,6,7,8,0,9,10,1,2,11,12,13,14] U)
       rw[Yx (L:={L1 with sh:=J1 L1.sh x.own}) hgv.cm.tr hl]at hS46
       have hdrk:k.1∈(W2 ns)→x.wr=BitVec.allOnes 64:= fun q=>hdr id _ k _ (Zk ht) ((hob _).1 q) (ZC hl)
       have hpar:=hgv.cm.par (SeI.gives hne ((Q8 ks).take i) hseD)
       have hS47:=hS46.drew
       refine QF [0,1,2,3,4,5,6,7,8,9,10,11] [11] We (by kernel_rfl) ?_
       refine QG U U U (QG U U U (Xh U U U (QV U U U JT (Q4 U U U (Qr U QL (V6 hS47 0 U hgv.cm.tr 0 U)) (Q4 U U U (XF U X7 Xc (by first | exact hS47.blk 2 U) (Xa U) U) ?_)))))
       refine QG U U U (QG U U U (Xh U U U (QV U U U ZV (Q4 U U U (Qr U Jm (CC hS47 0 U hgv.cm.tr hl 3 U)) (Xn U U U U U U ?_)))))
       have hr:=hgv.cm.ref (hgv.own_alive hl) (J1 L1.sh x.own)
       have hnr:NN (fun j=>ex2 j+dl x.own j):=nn_add hgv.nn
       have hcon:=(JR (V:=V2) (s:=x.own) (j:=x.own)).trans (hgv.con_own hmd hI ht hk hl hw hmk)
       refine Qw OK U (CQ (hS47.sp [0,1] U) (by omega) hr.inv hnr hm hpar (fun h0=> by have :=hgv.nn x.own h0; show 1≤ex2 x.own+dl x.own x.own; rw[Wt];omega) k x.wr (fun h0=>hgv.ag hI hseD hne hk hnd hdrk (hr.ab.trans hgv.cm.ab.symm) hcon h0)) U ?_
       rintro _ w48 ⟨L2,V3,hs,hab,ho,hS48⟩
       replace hS48:=hS48.jn U U
       clear hS47
       refine XQ (X1 (by kernel_rfl)) ?_
       refine VC.nil (Qk (Qc (Qh [127,126,125,9,5,1,0] U (Qa (QI U U (by omega) (by omega) U ?_)))))
       refine Qb U U (Qf ?_)
       exact Q0 (L1:=[(0,_),(1,_),(5,_),(9,_),(125,_),(126,_),(127,intV ((i+1:Nat):Int))]) (D8 U U U U U U U) (k1:=(Q8 ks).length -(i+1)) (by omega) ⟨i+1,_,_,_, by omega,rfl,(Xe (m:=n+4*c+4*c*d+5*(i+1)) (by omega) (hS48.pick [1,0,3,4,5] U)).reorder [1,0,2,3,4] U, by omega,hgv.own_next hmd hI hne ht hk hnd hl hw hmk hs hab ho⟩
      exact absurd h44 (by decide)
     refine Wj (k:=k) 13 hS42 keysKey Tryz.underlying81 U U U YN (u:=intV s) (g:=true) (by unfold RA; rw[hmk];rfl) (by unfold RA; rw[hmk];rfl) U ?_
     refine Qb U U (Qq U U U (Qq U U U (Qe U U (Qe U U (Qf (Qc (Qh [127,126,125,9,5,1,0,18,19,20,21] U (Qd (Qd (Qa (Qb U U (QQ U U (Qf (Qc (QN U (fun h49=> ?_) (fun h49=> ?_))))))))))))))))
     ·exact absurd h49 (by decide)
     refine Qt (Qc (Qh [127,126,125,9,5,1,0,18,19,20] U ?_))
     have hS50:=W4 (L:=L1) (y:=x) hgv.cm.tr hl U (hS42.pick [0,1,2,3,4,5,6,7,8,9,10,11,12,13,14] U)
     rw[Yx hgv.cm.tr hl]at hS50
     have hdrk:k.1∈(W2 ns)→x.wr=BitVec.allOnes 64:= fun q=>hdr id _ k _ (Zk ht) ((hob _).1 q) (ZC hl)
     have hpar:=hgv.cm.par (SeI.gives hne ((Q8 ks).take i) hseD)
     have hS51:=hS50.drew
     refine QF [0,1,2,3,4,5,6,7,8,9,10,11] [11] We (by kernel_rfl) ?_
     refine QG U U U (QG U U U (Xh U U U (QV U U U JT (Q4 U U U (Qr U QL (V6 hS51 0 U hgv.cm.tr 0 U)) (Q4 U U U (XF U X7 Xc (by first | exact hS51.blk 1 U) (Xa U) U) ?_)))))
     refine QG U U U (QG U U U (Xh U U U (QV U U U ZV (Q4 U U U (Qr U Jm (CC hS51 0 U hgv.cm.tr hl 3 U)) (Xn U U U U U U ?_)))))
     refine Qw OK U (CQ (hS51.sp [0,2] U) (by omega) hgv.cm.inv hgv.nn hm hpar (fun h0=>hgv.ge hk hnd hmk h0) k x.wr (fun h0=>hgv.ag hI hseD hne hk hnd hdrk U (hgv.con_made hmd hI hk hnd hl hmk) h0)) U ?_
     rintro _ w52 ⟨L2,V3,hs,hab,ho,hS52⟩
     replace hS52:=hS52.jn U U
     clear hS51
     refine XQ (X1 (by kernel_rfl)) ?_
     refine VC.nil (Qk (Qc (Qh [127,126,125,9,5,1,0] U (Qa (QI U U (by omega) (by omega) U ?_)))))
     refine Qb U U (Qf ?_)
     exact Q0 (L1:=[(0,_),(1,_),(5,_),(9,_),(125,_),(126,_),(127,intV ((i+1:Nat):Int))]) (D8 U U U U U U U) (k1:=(Q8 ks).length -(i+1)) (by omega) ⟨i+1,_,_,_, by omega,rfl,(Xe (m:=n+4*c+4*c*d+5*(i+1)) (by omega) (hS52.pick [1,0,3,4,5] U)).reorder [1,0,2,3,4] U, by omega,hgv.made_next hmd hI hne hk hnd hl hw hmk hs hab ho⟩
    have hw0:x.wr=0#64:=zerW (Decidable.not_not.1 h43)
    refine Qt (Qk (Qc (Qa (QI U U (by omega) (by omega) U ?_))))
    refine Qb U U (Qf ?_)
    have hS53:=W4 (L:=L1) (y:=x) hgv.cm.tr hl U (hS42.pick [0,1,2,3,4,5,6,7,8,9,10,11,12,13,14] U)
    rw[Yx hgv.cm.tr hl]at hS53
    exact Q0 (L1:=[(0,_),(1,_),(5,_),(9,_),(125,_),(126,_),(127,intV ((i+1:Nat):Int))]) (D8 U U U U U U U) (k1:=(Q8 ks).length -(i+1)) (by omega) ⟨i+1,L1,V2,_, by omega,rfl,(Xe (m:=n+4*c+4*c*d+5*(i+1)) (by omega) (hS53.pick [2,0,3,4,5] U)).reorder [1,0,2,3,4] U, by omega,hgv.skip hmd hk hnd hl hw0⟩
   refine QM (Qo (Qo (Qx (Qc (Qd ?_)))))
   have hil:i=(Q8 ks).length:= by omega
   rw[hil]at hgv
   have hfin:=hgv.fin (fun k hk=>((hmd.dom k).1 hk).1)
   refine Qa (Qb U U (Qb U U (Qw OJ U (Mo (c:=2*c) (ex:= fun _=>0) (hS36.sp [0,1] U) (hgv.cm.sz2 ht hc) (by omega) hfin (fun _ _=>Int.le_refl _) hgv.cm.tr (hgv.cm.noch hch)) U ?_)))
   rintro _ w54 ⟨L3,V4,hs3,hab3,hp3,ht3,hS54⟩
   replace hS54:=hS54.jn U U
   clear hS36
   exact Qf (Qc (NM (L':=[]) .nil (Qd (Qa (Qe U U (Qf (Qc (Qu (QR (.inr U) U U (⟨_,rfl,L3,V4,.inl ⟨rfl,gv_end hI ht hmd hgv hord hnd hob hs3 hab3 hp3 ht3⟩,(Xe (m:=n+(16*c+4*c*d)) (by omega) (hS54.pick [1,0,4] U)).reorder [1,0,2] U⟩))))))))))
  refine⟨_,rfl, ?_⟩
  replace hS6:=hS6.jn U U
  clear hS5
  refine Qb U U (Qq U U U (Qq U U U (Qe U U (Qe U U (Qf (Qc (Qh [5,1,0,8,9,10] U (Qd (Qd (Qa (Qb U U (X0 U U U (Qf (Qc (Qs U (fun h55=> ?_) (fun h55=> ?_))))))))))))))))
  ·exact Qd (Qa (Qb U U (Qe U U (Qf (Qc (Qu (Qp (QR (.inr U) U U (⟨_,rfl,L,V1,.inr ⟨rfl,rfl,(Q8 ks),hord,hnd,hmi,hmab,hmf,hmal⟩,(Xe (m:=n+(16*c+4*c*d)) (by omega) (hS6.pick [1,0,3] U)).reorder [1,0,2] U⟩)))))))))
  exact absurd (by decide) h55
 dsimp only[List.set]at hSN
 obtain⟨u,hu,rfl⟩:=Uv hgk
 refine Qq U U U (Qf (Qc (Qd (Xf U (Qt (Qc (Qv (Qd (Qa (Wn 2 hSN U hgk U U (Qq U U U (Qe U U (Qf (Qc (Qd (Qa (Qb U U (Qj U U (Qg U JT U (Qn U QL ((ZB (hSN.pull 3 U) hu).cell 0 U U) U (Qb U U (Xd U U U (Qf (Qc (Qh [34,5,1,0,44] U (Qs U (fun h56=> ?_) (fun h56=> ?_)))))))))))))))))))))))))))
 ·exact absurd h56 (hch _ _ hu)
 exact Qt (Qk (Q0 (L1:=[(0,_),(1,_),(5,_),(34,_)]) (VN U U U U) (k1:=left2) (by omega) ⟨_,_,_,rfl,rfl,hSN.pick [0,1,2,3,4,5,6] U⟩))
end Go.Proofs.YtkcjfoaejijdoaaGreatDoor
namespace Go.Proofs.YtkcjfoaejijdoaaGreatDoor
open Go.RowKit M
variable [Inhabited SlW]
def P7 (A:LvA) (t:TrA) (k:KD):Bs:= match t.lv k with
  | some x=> if x.wr=0#64 then(if t.dr k.1=true then zer else A.pres k)else KZ (A.pres k) x.own x.wr
  | none=> if t.dr k.1=true then zer else A.pres k
theorem LvA.eq2 {A B:LvA} (h1:A.pres=B.pres) (h2:A.tr=B.tr):A=B:= by cases A; cases B; simp at h1 h2; subst h1; subst h2;rfl
theorem Kj {A:LvA} {k:KD}:Wp A 0 k=A.pres k:= by unfold Wp; rw[Yh,if_pos U]
theorem gvS0_tr {A0 A:LvA} {t:TrA} {j:KD}:(gvS A0 0 t A j).tr=A.tr:= by
  unfold gvS
  cases t.lv j with
  | none=>rfl
  | some x=>
    dsimp only
    by_cases q:x.wr=0#64
    · rw[if_pos q]
    · rw[if_neg q,if_pos U]
theorem Ll {A0 A:LvA} {t:TrA} {j k:KD} (h:k≠j):(gvS A0 0 t A j).pres k=A.pres k:= by
  unfold gvS
  cases t.lv j with
  | none=>rfl
  | some x=>
    dsimp only
    by_cases q:x.wr=0#64
    · rw[if_pos q]
    · rw[if_neg q,if_pos U]; exact XM h
theorem M3 {A0:LvA} {t:TrA}: ∀(l:List KD) (A:LvA),l.Nodup→(l.foldl (gvS A0 0 t) A).tr=A.tr∧ ∀k,(l.foldl (gvS A0 0 t) A).pres k= if k∈l then(match t.lv k with | none=>A.pres k | some x=> if x.wr=0#64 then A.pres k else GD A0 0 k x)else A.pres k
  | [],A,_=>⟨rfl, fun k=> by simp⟩
  | j::l,A,hn=> by
    obtain⟨hj,hn⟩:=List.nodup_cons.1 hn
    obtain⟨a,b⟩:=M3 (A0:=A0) (t:=t) l (gvS A0 0 t A j) hn
    refine⟨a.trans gvS0_tr, fun k=> ?_⟩
    show(l.foldl (gvS A0 0 t) (gvS A0 0 t A j)).pres k=_
    rw[b k]
    by_cases e:k=j
    · subst e
      rw[if_neg hj,if_pos List.mem_cons_self]
      unfold gvS
      cases t.lv k with
      | none=>rfl
      | some x=>
        dsimp only
        by_cases q:x.wr=0#64
        · rw[if_pos q,if_pos q]
        · rw[if_neg q,if_neg q,if_pos U]; exact X4
    · rw[Ll e]
      by_cases q:k∈l
      · rw[if_pos q,if_pos (List.mem_cons_of_mem _ q)]
      · rw[if_neg q,if_neg (by simp [e,q])]
theorem Dq: ∀(l:List Bs) (A:LvA),(l.foldl (WZ 0) A).tr=A.tr∧ ∀k,(l.foldl (WZ 0) A).pres k= if k.1∈l then zer else A.pres k
  | [],A=>⟨rfl, fun k=> by simp⟩
  | ob::l,A=> by
    obtain⟨a,b⟩:=Dq l (WZ 0 A ob)
    have h1:(WZ 0 A ob).tr=A.tr:= by unfold WZ; rw[if_pos U];rfl
    refine⟨a.trans h1, fun k=> ?_⟩
    show(l.foldl (WZ 0) (WZ 0 A ob)).pres k=_
    rw[b k]
    have h2:(WZ 0 A ob).pres k= if k.1=ob then zer else A.pres k:= by
      unfold WZ
      rw[if_pos U]
      show Wf (fun j:KD=>j.1=ob) zer A.pres k=_
      unfold Wf
      by_cases e:k.1=ob
      · rw[if_pos e,if_pos e]
      · rw[if_neg e,if_neg e]
    rw[h2]
    by_cases q:k.1∈l
    · rw[if_pos q,if_pos (List.mem_cons_of_mem _ q)]
    · rw[if_neg q]
      by_cases e:k.1=ob
      · rw[if_pos e,if_pos (by simp [e])]
      · rw[if_neg e,if_neg (by simp [e,q])]
theorem LD {A:LvA} {id:Int} {t:TrA} {order:List KD} {obs:List Bs} (hp:t.parent=0) (hn:order.Nodup) (ho: ∀k,k∈order↔t.lv k≠none) (hob: ∀ob,ob∈obs↔t.dr ob=true):
    P8 A id t order obs=⟨P7 A t,Xi A.tr id none⟩:= by
  obtain⟨a,b⟩:=M3 (A0:=A) (t:=t) order (obs.foldl (WZ 0) A) hn
  obtain⟨c,d⟩:=Dq obs A
  unfold P8
  rw[hp,if_pos U]
  apply LvA.eq2
  · funext k
    show(order.foldl (gvS A 0 t) (obs.foldl (WZ 0) A)).pres k=P7 A t k
    rw[b k,d k]
    unfold P7
    cases q:t.lv k with
    | none=>
      rw[if_neg (by rw[ho,q]; simp)]
      by_cases e:t.dr k.1=true
      · rw[if_pos ((hob _).2 e),if_pos e]
      · rw[if_neg (fun h=>e ((hob _).1 h)),if_neg e]
    | some x=>
      rw[if_pos ((ho k).2 (by rw[q]; simp))]
      dsimp only
      by_cases w:x.wr=0#64
      · rw[if_pos w,if_pos w]
        by_cases e:t.dr k.1=true
        · rw[if_pos ((hob _).2 e),if_pos e]
        · rw[if_neg (fun h=>e ((hob _).1 h)),if_neg e]
      · rw[if_neg w,if_neg w];unfold GD; rw[Kj]
  · show Xi (order.foldl (gvS A 0 t) (obs.foldl (WZ 0) A)).tr id none=Xi A.tr id none
    rw[a,c]
def LsP (p m c e:Nat) (A:LvA) (L:LvD) (V:VS):Prop:=L.sp=p∧LvI m L V∧Q1 L V=A∧AliveLe V c∧SzLe L e
def Ga (b p n m c e:Nat) (A:LvA):Th:=Ca fun L=>Ca fun V=>starL [JM (LsP p m c e A L V),XY b L,XG L.sp n 256 V]
section
variable {w:World} {b p n m c e:Nat} {A:LvA} {As:List Th}
theorem YD (h:Sat w (Ga b p n m c e A::As)): ∃L V,LsP p m c e A L V∧Sat w (XY b L::XG L.sp n 256 V::As):= by
  obtain⟨L,h⟩:=h.ex
  obtain⟨V,h⟩:=h.ex
  have h:=h.flat
  dsimp only[R8,R7]at h
  obtain⟨hp,h⟩:=h.pure_elim
  exact⟨L,V,hp,h⟩
theorem YC {L:LvD} {V:VS} (hp:LsP p m c e A L V) (h:Sat w (XY b L::XG L.sp n 256 V::As)):Sat w (Ga b p n m c e A::As):=
  Sat.ex_intro L (Sat.ex_intro V (Sat.fold (As:=[JM (LsP p m c e A L V),XY b L,XG L.sp n 256 V]) (Sat.pure_intro hp h)))
end
theorem EJ {w:World} {b p mp mt ms:Nat} {As:List Th} (h:Sat w (XY b (Hb p mp mt ms)::XG p 0 256 (fun _=>none)::As)):Sat w (Ga b p 0 0 0 0 Pi::As):= by
  obtain⟨h1,h2,h3,h4,_⟩:=KY (sp:=p) (mp:=mp) (mt:=mt) (ms:=ms)
  exact YC (L:=Hb p mp mt ms) (V:= fun _=>none) ⟨rfl,h1,h2,h3,h4⟩ h
def VA (A:LvA) (t:TrA):Prop:= ∀k x,t.lv k=some x→ ∀j,j<64→x.rd.getLsbD j=true→x.base[j]? =(Wp A t.parent k)[j]?
theorem VA_iff {m:Nat} {L:LvD} {V:VS} {t:TrD} (hI:LvI m L V):(∀k x,t.lv k=some x→VK L V t k x)↔VA (Q1 L V) (ZF V t):= by
  constructor
  · intro h k y hy j hj hr
    cases q:t.lv k with
    | none=> rw[Vf q]at hy; cases hy
    | some x=>
      rw[ZC q]at hy
      cases hy
      have h1:=h k x q j hj hr
      rw[hI.sees]at h1
      exact h1
  · intro h k x hx j hj hr
    have h1:=h k _ (ZC hx) j hj hr
    rw[hI.sees]
    exact h1
theorem AB {w:World} {b p n m c e:Nat} {A:LvA} {F:Th} (hS:Sat w [Ga b p n m c e A,F]) (hn:n≤60000000000) (hm:m<Zs) (id parent:Int):
    Calls Tryz.prog 11 #[ptrV b 0,intV id,intV parent] w (Ret fun v w'=>v=intV (DR A id parent)∧Sat w' [Ga b p n (m+1) c e (GG A id parent),F]):= by
  obtain⟨L,V,⟨h1,h2,rfl,h4,h5⟩,hS1⟩:=YD hS
  refine(Fg hS1 h2 id parent).mono fun ew w h=>h.mono fun v w h=> ?_
  obtain⟨L',rfl,hs,ha,hS⟩:=h
  exact⟨rfl,YC ⟨hs.sp.trans h1,hs.inv,ha,hs.al _ h4,hs.sz _ h5⟩ hS⟩
theorem AA {w:World} {b p n m c e:Nat} {A:LvA} {F:Th} (hS:Sat w [Ga b p n m c e A,F]) (hn:n≤60000000000) (hm:m<Zs) (ob:Bs) (a:Int) (hr:0≤a∧a<16384):
    Calls Tryz.prog 12 #[ptrV b 0,intV 0,strV ob,intV a] w (Ret fun v w'=>v=Wu (NI (A.pres (ob,a/ 64)) (a%64))∧Sat w' [Ga b p n m c e A,F]):= by
  obtain⟨L,V,⟨h1,h2,rfl,h4,h5⟩,hS1⟩:=YD hS
  refine(MK hS1 hn ob a h2 hm hr).mono fun ew w h=>h.mono fun v w h=> ?_
  exact⟨h.1,YC ⟨h1,h2,rfl,h4,h5⟩ h.2⟩
theorem A9 {w:World} {b p n m c e:Nat} {A:LvA} {F:Th} (hS:Sat w [Ga b p n m c e A,F]) (hn:n≤60000000000) (hm:m<Zs) {id:Int} {tA:TrA} (ht:A.tr id=some tA) (ob:Bs) (a:Int) (hr:0≤a∧a<16384):
    Calls Tryz.prog 12 #[ptrV b 0,intV id,strV ob,intV a] w (Ret fun v w'=>v=Wu (NI (Zo A id (ob,a/ 64)).own (a%64))∧Sat w' [Ga b p (n+2) m c (e+1) (Z6 A id (ob,a/ 64) (rdX (Zo A id (ob,a/ 64)) (a%64))),F]):= by
  obtain⟨L,V,⟨h1,h2,rfl,h4,h5⟩,hS1⟩:=YD hS
  obtain⟨t,ht1,rfl⟩:=Kg ht
  refine(MJ hS1 hn ob a h2 hm ht1 hr).mono fun ew w h=>h.mono fun v w h=> ?_
  obtain⟨L',V',rfl,hs,ha,hS⟩:=h
  exact⟨rfl,YC ⟨hs.sp.trans h1,hs.inv,ha,hs.al _ h4,hs.sz _ h5⟩ hS⟩
theorem Az {w:World} {b p n m c e:Nat} {A:LvA} {F:Th} (hS:Sat w [Ga b p n m c e A,F]) (hn:n≤60000000000) (hm:m<Zs) (hc:c+1<256) (ob:Bs) (a:Int) (bt:UInt8) (hr:0≤a∧a<16384):
    Calls Tryz.prog 10 #[ptrV b 0,intV 0,strV ob,intV a,Wu bt] w (Ret fun v w'=>v=intV 0∧Sat w' [Ga b p (n+5) m (c+1) (e+1) (wrP A (ob,a/ 64) (a%64) bt),F]):= by
  obtain⟨L,V,⟨h1,h2,rfl,h4,h5⟩,hS1⟩:=YD hS
  refine(Cs hS1 hn ob a bt h2 hm hr).mono fun ew w h=>h.mono fun v w h=> ?_
  obtain⟨L',V',er,rfl,hs,hq,hS⟩:=h
  rcases hq with⟨rfl,ha⟩ | ⟨_,_,hT⟩
  · exact⟨rfl,YC ⟨hs.sp.trans h1,hs.inv,ha,hs.al _ h4,hs.sz _ h5⟩ hS⟩
  · have :=hT c h4
    omega
theorem Ay {w:World} {b p n m c e:Nat} {A:LvA} {F:Th} (hS:Sat w [Ga b p n m c e A,F]) (hn:n≤60000000000) (hm:m<Zs) {id:Int} {tA:TrA} (ht:A.tr id=some tA) (hc:c+1<256) (ob:Bs) (a:Int) (bt:UInt8) (hr:0≤a∧a<16384):
    Calls Tryz.prog 10 #[ptrV b 0,intV id,strV ob,intV a,Wu bt] w (Ret fun v w'=>v=intV 0∧Sat w' [Ga b p (n+5) m (c+1) (e+1) (Z6 A id (ob,a/ 64) (wrX (Zo A id (ob,a/ 64)) (a%64) bt)),F]):= by
  obtain⟨L,V,⟨h1,h2,rfl,h4,h5⟩,hS1⟩:=YD hS
  obtain⟨t,ht1,rfl⟩:=Kg ht
  refine(Cr hS1 hn ob a bt h2 hm ht1 hr).mono fun ew w h=>h.mono fun v w h=> ?_
  obtain⟨L',V',er,rfl,hs,hq,hS⟩:=h
  rcases hq with⟨rfl,ha⟩ | ⟨_,_,hT⟩
  · exact⟨rfl,YC ⟨hs.sp.trans h1,hs.inv,ha,hs.al _ h4,hs.sz _ h5⟩ hS⟩
  · have :=hT c h4
    omega
theorem CD {w:World} {b p n m c e:Nat} {A:LvA} {F:Th} (hS:Sat w [Ga b p n m c e A,F]) (hn:n≤60000000000) (hm:m<Zs) (hG:Ent F GT) {id:Int} {tA:TrA} (ht:A.tr id=some tA):
    Calls Tryz.prog 14 #[ptrV b 0,intV id] w (Ret fun v w'=> ∃r:Bool,v= .bool r∧(r=true↔VA A tA)∧Sat w' [Ga b p n m c e A,F]):= by
  obtain⟨L,V,⟨h1,h2,rfl,h4,h5⟩,hS1⟩:=YD hS
  obtain⟨t,ht1,rfl⟩:=Kg ht
  refine(Fy hS1 hn h2 hm hG ht1).mono fun ew w h=>h.mono fun v w h=> ?_
  obtain⟨r,rfl,hr,hS⟩:=h
  exact⟨r,rfl,hr.trans (VA_iff h2),YC ⟨h1,h2,rfl,h4,h5⟩ hS⟩
end Go.Proofs.YtkcjfoaejijdoaaGreatDoor
