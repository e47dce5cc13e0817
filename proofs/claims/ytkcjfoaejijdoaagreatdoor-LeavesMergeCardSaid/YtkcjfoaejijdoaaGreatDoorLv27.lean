/- leaves: Commit -/
import Derived.Test.YtkcjfoaejijdoaaGreatDoorLv25
set_option linter.unusedSectionVars false
set_option linter.unusedVariables false
set_option maxRecDepth 100000
set_option maxHeartbeats 3200000
namespace Go.Proofs.YtkcjfoaejijdoaaGreatDoor
open Go.RowKit M Proofs.Tryz
variable [Inhabited SlW]
noncomputable def comR (A:LvA) (t:TrA) (l:List KD):LvA:= if t.parent=0 then A else l.foldl (rdS t.parent t) A
theorem SeI.comR {A0:LvA} {id:Int} {t:TrA} {l:List KD} (h:SeI A0 A0 id t.parent t [] []) (hne:id≠t.parent):SeI A0 (comR A0 t l) id t.parent t [] []:= by
  unfold Go.Proofs.YtkcjfoaejijdoaaGreatDoor.comR
  by_cases h0:t.parent=0
  · rw[if_pos h0]; exact h
  · rw[if_neg h0]; exact SeI.reads hne h0 l h
theorem comA_eq {A:LvA} {id:Int} {t:TrA} {l:List KD} {obs:List Bs}:PZ A id t l obs=Bw (l.foldl (gvS A t.parent t) (obs.foldl (Js t.parent) (comR A t l))) id:=rfl
theorem SeI.first {m:Nat} {L:LvD} {V:VS} {id:Int} {t:TrD} (hI:LvI m L V) (ht:L.tr id=some t):SeI (Q1 L V) (Q1 L V) id t.parent (ZG V t) [] []:=
  SeI.start (Zh ht) fun h0=> by
    obtain⟨_,r,_,h2⟩:=hI.rank
    have a:=((h2 id t ht).resolve_left h0).1
    cases q:L.tr t.parent with
    | none=> exact absurd q a
    | some tp=> exact⟨_,Zh q⟩
theorem allS {f:Bs→Bool} {ks:List Bs} (h:AllC (ZF f) ks) (ob:Bs):ob∈ZK ks↔f ob=true:= by
  rw[(HH ks).mem_iff,h.mem]
  unfold ZF
  cases f ob<;> simp
def ComY (m:Nat) (L L':LvD) (V V':VS) (id:Int) (t:TrD):Prop:= ∃order obs,(∀k,k∈order↔t.lv k≠none)∧order.Nodup∧(∀ob,ob∈obs↔t.dr ob=true)∧LvI m L' V'∧L'.sp=L.sp∧Q1 L' V'=PZ (Q1 L V) id (ZG V t) order obs∧(∀c,SzLe L c→SzLe L' c)∧ ∀c,AliveLe V c→AliveLe V' (c+Y0 t order)
def ComN (m Fr:Nat) (L:LvD) (V V':VS) (t:TrD):Prop:= ∃order:List KD,(∀k,k∈order↔t.lv k≠none)∧order.Nodup∧LvI m L V'∧Q1 L V'=Q1 L V∧(∀c,AliveLe V c→Fr≤c+Y0 t order)∧ ∀c,AliveLe V c→AliveLe V' (c+Y0 t order)
theorem gv_end {m:Nat} {L L1 L2:LvD} {V V1 V2 V3:VS} {id:Int} {t:TrD} {made:KD→Option Int} {ex ex0:Int→Int} {order:List KD} {obs:List Bs} (hI:LvI m L V) (ht:L.tr id=some t) (hmd:MdI m L V V1 t ex0 made order) (hgv:GvI ex m L L1 V V1 V2 id t made (Q1 L V) (obs.foldl (Js t.parent) (comR (Q1 L V) (ZG V t) order)) order order.length)
    (hord: ∀k,k∈order↔t.lv k≠none) (hnd:order.Nodup) (hob: ∀ob,ob∈obs↔t.dr ob=true) (hs:StepX (fun _=>0) m L1 V2 (fun _=>0) m 0 0 L2 V3) (hab:Q1 L2 V3=Bw (Q1 L1 V2) id) (hp:L2.pres=L1.pres) (hT:L2.tr=Xu L1.tr id none):ComY m L L2 V V3 id t:= by
  refine⟨order,obs,hord,hnd,hob,hs.inv,hs.sp.trans hgv.cm.sp, ?_, fun c hc=>hgv.cm.ok.szRem (SU ht) (hI.rank.none0 ht) hp hT hc, fun c hc=>hs.al _ (hgv.cm.al _ (hmd.al c hc))⟩
  rw[hab,comA_eq,hgv.cm.ab,List.take_length]
  rfl
theorem nn_add {ex:Int→Int} {s:Int} (h:NN ex):NN (fun j=>ex j+dl s j):= fun j hj=> by
  show 0≤ex j+dl s j
  have :=h j hj
  by_cases e:j=s
  · subst e; rw[W7];omega
  · rw[J4 e];omega
theorem Te {w:World} {m c d:Nat} {b n Fr:Nat} {L:LvD} {V:VS} {F:Th} (hS:Sat w [XX b L,XD L.sp n Fr V,F]) (hn:n+(16*c+4*c*d)≤60000000000) (hI:LvI m L V) (hm:m<Zg) (hc:SzLe L c) {id:Int} {t:TrD} (ht:L.tr id=some t) (hch: ∀i u,L.tr i=some u→u.parent≠id) (hdr:DrA (Q1 L V)) (hd: ∀ks,Came (ZF t.dr) ks→ks.length≤d) (hdm:d≤90000000000):
    Calls prog 13 #[ptrV b 0,intV id] w (Ret fun v w'=> ∃L' V',((v=intV 0∧ComY m L L' V V' id t)∨(v=intV 6∧L'=L∧ComN m Fr L V V' t))∧Sat w' [XX b L',XD L'.sp (n+(16*c+4*c*d)) Fr V',F]):= by
 replace hS:=X1 hS
 refine Qm func13 U ntmps13 U ?_
 refine Qd (Qa (Qe U U (Qf (Qc (Qd (Qa (Qb U U (Qj U U (Qg U Zr U (Qr U Wx (hS.cell 0 U U) U (Qb U U (XV (k:=id) 2 hS keysInt underlying82 U U U JU (u:=ptrV t.ad 0) (XY ht) U (Qe U U (Qf (Qc (Qd (Qd (Qa (Qb U U (ZO underlying94 U U U (Qf (Qc (Qh [1,0,4,5,29] U (QR U (Qs (Qc (Qd (Qd (Qa (Qb U U (Qj U U (Qg U Zr U (Qr U Wx (hS.cell 0 U U) U (ZN 2 hS underlying82 U U U ?_))))))))))))))))))))))))))))))))))
 intro RR left0 wR hSR; dsimp only[List.set]at hSR
 refine Qf (Qc (Qw (Xg (fun K0 E0 W0=> ∃(dn:Int→Prop) (cur:Option Int) (left:Nat),K0=left∧E0=[(0,ptrV b 0),(1,intV id),(5,ptrV t.ad 0),(34,ptrV RR 0)]∧Sat W0 [Q8 b [ptrV L.sp 0,.map (some L.mp),.map (some L.mt),intV L.cur,.map (some L.ms)],Q5 Xr L.mp (XN L.pres),ZS QN L.mt RR (X0 TrD.ad L.tr) dn cur left,XW YW L.tr,Q5 QN L.ms (ZF L.sh),XD L.sp n Fr V,F]) (L0:=[(0,_),(1,_),(5,_),(34,_)]) (left0) (HR U U U U) ⟨_,_,_,rfl,rfl,hSR.pick [0,1,2,3,4,5,6] U⟩ ?_)))
 rintro _ _ w1 ⟨dn,cur,left,rfl,rfl,j1⟩
 refine Qd (Qa (Wp 2 j1 keysInt.inj U U U (fun hdone=> ?_) (fun i v left2 wN hleft hgk hnd hSN=> ?_)))
 ·refine Qn U U U (Qf (Qc (Qd (QR U (QU (Qq (Qq (Qx (Qc (Qd ?_))))))))))
  have hz0:=ZA (j1.pick [2,0,1,3,4,5,6] U)
  have j2:=Z3 (hz0.pick [3,0,1,2,4,5,6] U) ht
  refine Qa (Qb U U (Qj U U (Qg U ZE U (Qr U WR (j2.cell 0 U U) U ?_))))
  refine Qv Ca U (R9 (j2.sp [1] U) (fun ks h=> by have :=hc.keysL ht h;omega)) U ?_
  rintro _ w3 ⟨ks,hks,j3⟩
  replace j3:=j3.jn U U
  obtain⟨ar,cr,hvr,_⟩:=j3.own_shape 0 rfl; obtain rfl:=hvr
  refine Qe U U (Qf (Qc (Qh [5,1,0,8] U (Qd ?_))))
  have j4:=Zw ht (j3.pick [2,1,3,4,5,0,6,7,8,9,10,11] U)
  have j5:=QX (L:=L) (j4.pick [3,4,2,0,5,1,6,7] U)
  have hord:=So hks
  have hnd:=HW hks.nodup
  have hoc:(QM ks).length≤c:= by rw[Wd]; exact hc.keysL ht (Came.of_all hks)
  refine Qa (Qb U U (Qb U U (Qb U U (Zc cal_50 U (PB (j5.sp [0,2,1] U) (by omega) hI hm ht hord hnd hoc) U ?_))))
  rintro e w6 ⟨_,rfl,(⟨V1,mm,made,ex1,rfl,hmd,j6⟩ | ⟨V1,rfl,hmi,hmab,hmf,hmal,j6⟩)⟩
  ·refine⟨_,U, ?_⟩
   replace j6:=j6.jn U U
   refine Qb U U (Qn U U U (Qn U U U (Qe U U (Qe U U (Qf (Qc (Qh [5,1,0,8,9,10] U (Qd (Qd (Qa (Qb U U (XC U U U (Qf (Qc (Qt U (fun h7=> ?_) (fun h7=> ?_))))))))))))))))
   ·exact absurd U h7
   have hne:id≠t.parent:= fun q=>hch id t ht q.symm
   have hse0:=SeI.first hI ht
   have hcm0:=CmI.start hmd.inv ht
   rw[hmd.ab]at hcm0
   refine Qs (Qc (Ts (fun E0 W0=> ∃(L1:LvD) (V2:VS),E0=[(0,ptrV b 0),(1,intV id),(5,ptrV t.ad 0),(8,.slice ar (QM ks).length cr),(9,.map (some mm))]∧Sat W0 [XX b L1,XD L1.sp (n+4*c) Fr V2,rowT kC (.slice ar (QM ks).length cr) (QM ks),Q5 Xr mm (Gm made),F]∧(CmI ex1 m L L1 V1 V2 id t (comR (Q1 L V) (ZG V t) (QM ks)))) ?_ ?_))
   ·refine Qd (Qa (Qb U U (Qj U U (Qg U Jl U (Qr U QL (VY j6 0 U ht 0 U) U (XC U U U (Qf (Qc (Qh [5,1,0,8,9,64] U (Qt U (fun h9=> ?_) (fun h9=> ?_)))))))))))
    ·have hp0:t.parent≠0:=h9
     refine Qd (Qa (Qb U U (X7 underlying98 U U (Qb U U (Qf (Qc (Qw ?_)))))))
     refine Xg (fun K0 E0 W0=> ∃(i:Nat) (L1:LvD) (V2:VS),K0=(QM ks).length -i∧E0=[(0,ptrV b 0),(1,intV id),(5,ptrV t.ad 0),(8,.slice ar (QM ks).length cr),(9,.map (some mm)),(65,.slice ar (QM ks).length cr),(66,intV ((QM ks).length:Int)),(67,intV (i:Int))]∧Sat W0 [XX b L1,XD L1.sp (n+2*c+2*i) Fr V2,rowT kC (.slice ar (QM ks).length cr) (QM ks),Q5 Xr mm (Gm made),F]∧(i≤(QM ks).length)∧(CmI ex1 m L L1 V1 V2 id t (((QM ks).take i).foldl (rdS t.parent (ZG V t)) (Q1 L V)))) (L0:=[(0,_),(1,_),(5,_),(8,_),(9,_),(65,_),(66,_),(67,_)]) ((QM ks).length) (zb8 U U U U U U U U) ⟨0,L,V1, by omega,rfl,j6.pick [0,1,2,3,4] U, by omega,hcm0⟩ ?_
     rintro _ _ w10 ⟨i,L1,V2,rfl,rfl,j10,hi,hcm⟩
     refine Qd (Qa (Xk U U U (Qf (Qc (Qd (Qt U (fun h11=> ?_) (fun h11=> ?_)))))))
     ·obtain⟨k,hk⟩: ∃k,(QM ks)[i]? =some k:=⟨_,Zq (by omega)⟩
      obtain⟨x,hl⟩: ∃x,t.lv k=some x:=Option.ne_none_iff_exists'.1 ((hord k).1 (List.mem_of_getElem? hk))
      refine Qs (Qc (Qd (Qw (Qd (Qa (Xx kC 2 i j10 U U U (by rfl) hk K6 U ?_))))))
      intro bx12 capx12 hvx12
      refine ZZ 2 i j10 U hvx12 U hk X9 Xf U U (Xa j10 Zy U U ?_)
      intro kb wk13 hk13
      refine QG hk13 U U Xf U (by rfl) (i:=0) U (by decide) ?_
      intro wk14 hk14; dsimp only[List.set]at hk14
      clear hk13
      replace hk14:=X6 (k:=k) hk14
      refine Qf (Qc (Qh [67,66,65,9,8,5,1,0,12] U (Qd ?_)))
      have j15:=JQ hcm.tr hl (hk14.pick [1,0,2,3,4,5] U)
      have j16:=j15.drew
      refine QE [0,1,2,3,4,5,6] [] Wa (by kernel_rfl) ?_
      refine Q9 U U U (Xi U U U (QQ U U U ZE (Q4 U U U (Ql U WR (j16.cell 2 U U)) (Q4 U U U (XB U X9 Xf (j16.blk 10 U) (Xv U) U) (Q4 U U U (X2 (k:=k) 3 j16 keysKey underlying90 U U U HB (u:=ptrV x.ad 0) (XY hl)) (XK U U U (VC.nil (Qc (Qh [67,66,65,9,8,5,1,0,12,13] U (Qd (Qa (Qb U U (Qj U U (Qg U JR U (Qr U J6 (j16.cell 0 U U) U (XC U U U (Qf (Qc (Qh [67,66,65,9,8,5,1,0,12,13,81] U (Qt U (fun h17=> ?_) (fun h17=> ?_)))))))))))))))))))))
      ·have hrd:x.rd≠0#64:= fun e=>h17 (by rw[e];rfl)
       refine Qd ?_
       have j18:=WJ (L:=L1) (y:=x) hcm.tr hl U (j16.pick [0,1,2,3,4,5,6,7,8,9,10,11,12,13,14] U)
       rw[YI hcm.tr hl]at j18
       obtain⟨tp,htp⟩:=(hcm.par (SeI.reads hne hp0 ((QM ks).take i) hse0)).resolve_left hp0
       have j19:=j18.drew
       refine QE [0,1,2,3,4,5,6,7] [6] Wa (by kernel_rfl) ?_
       refine Q9 U U U (Q9 U U U (Xi U U U (QQ U U U Jl (Q4 U U U (Ql U QL (VY j19 0 U hcm.tr 0 U)) (Q4 U U U (XB U X9 Xf (by first | exact j19.blk 1 U) (Xv U) U) ?_)))))
       refine Xe U U U U U U ?_
       refine Qv Rd U (HE (j19.sp [0,2] U) (by omega) (hcm.inv.rank.ends hm) htp (k:=k)) U ?_
       rintro _ w20 ⟨L2,V3,t2,y,rfl,hT,j20⟩
       replace j20:=j20.jn U U
       have ht2:=hT.tr htp
       have hy2:=hT.lv
       have htid:L2.tr id=some t:=(hT.oth hne).trans hcm.tr
       refine Xz (Xj (by kernel_rfl)) ?_
       refine XK U U U (VC.nil (Qc (Qh [67,66,65,9,8,5,1,0,13,14] U ?_)))
       have j21:=JQ ht2 hy2 (j20.pick [0,1,2,3,4,5] U)
       have htu:Xu L2.tr t.parent none id=some t:= by rw[QF hne]; exact htid
       have j22:=j21.drew
       refine QE [0,1,2,3,4,5,6,7,8,9,10,11,12,13,14,15,16] [16] Wa (by kernel_rfl) ?_
       refine Q9 U U U (Xi U U U (QQ U U U JR (Q4 U U U (Ql U J6 (j22.cell 0 U U)) (Q9 U U U (Xi U U U (QQ U U U JR (Q4 U U U (Ql U J6 (SR j22 5 U htu hl 2 U)) (Q9 U U U (Xi U U U (QQ U U U Wj (Q4 U U U (Ql U J6 (j22.cell 0 U U)) (QZ U U U (fun _=>(Ub U U)) ?_))))))))))))
       refine QZ U U U (fun _=>(Kd U U)) ?_
       refine Xi U U U (QQ U U U JR (Xe U U U U U U ?_))
       refine QV j22 U U Kx U (i:=0) U (Xv U) ?_
       intro w23 j23; dsimp only[List.set]at j23
       refine Zu (Xj (by kernel_rfl)) ?_
       refine VC.nil (Qk (Qc (Qh [67,66,65,9,8,5,1,0] U (Qa (QO U U (by omega) (by omega) U ?_)))))
       refine Qb U U (Qf ?_)
       have j24:=WJ (L:=L2) (y:={y with rd:=y.rd ||| (x.rd&&& ~~~y.wr)}) ht2 hy2 U (j23.pick [0,1,2,3,4,5,6,7,8,9,10,11,12,13,14] U)
       exact Q3 (L1:=[(0,_),(1,_),(5,_),(8,_),(9,_),(65,_),(66,_),(67,intV ((i+1:Nat):Int))]) (zb8 U U U U U U U U) (k1:=(QM ks).length -(i+1)) (by omega) ⟨i+1,_,_, by omega,rfl,(Xn (m:=n+2*c+2*(i+1)) (by omega) (j24.pick [1,0,3,4,5] U)).reorder [1,0,2,3,4] U, by omega, by rw[HZ hk]; exact hcm.read hmd.nn hl hrd hne htp hT⟩
      have hrd0:x.rd=0#64:=zerW (Decidable.not_not.1 h17)
      refine Qs (Qk (Qc (Qh [67,66,65,9,8,5,1,0] U (Qa (QO U U (by omega) (by omega) U ?_)))))
      refine Qb U U (Qf ?_)
      have j25:=WJ (L:=L1) (y:=x) hcm.tr hl U (j16.pick [0,1,2,3,4,5,6,7,8,9,10,11,12,13,14] U)
      rw[YI hcm.tr hl]at j25
      exact Q3 (L1:=[(0,_),(1,_),(5,_),(8,_),(9,_),(65,_),(66,_),(67,intV ((i+1:Nat):Int))]) (zb8 U U U U U U U U) (k1:=(QM ks).length -(i+1)) (by omega) ⟨i+1,L1,V2, by omega,rfl,(Xn (m:=n+2*c+2*(i+1)) (by omega) (j25.pick [2,0,3,4,5] U)).reorder [1,0,2,3,4] U, by omega, by rw[HZ hk,AO (ZR hl) hrd0]; exact hcm⟩
     refine QU (Qq (Qq (Qx ?_)))
     have hil:i=(QM ks).length:= by omega
     rw[hil,List.take_length]at hcm
     exact UD (Hi U U U U U) ⟨L1,V2,rfl,(Xn (m:=n+4*c) (by omega) (j10.pick [1,0,2,3,4] U)).reorder [1,0,2,3,4] U, by unfold comR; rw[if_neg (show ¬(ZG V t).parent=0 from hp0)]; exact hcm⟩
    have hp0:t.parent=0:=Decidable.not_not.1 h9
    refine Qs ?_
    exact UD (Hi U U U U U) ⟨L,V1,rfl,(Xn (m:=n+4*c) (by omega) (j6.pick [1,0,2,3,4] U)).reorder [1,0,2,3,4] U, by unfold comR; rw[if_pos (show(ZG V t).parent=0 from hp0)]; exact hcm0⟩
   rintro _ w8 ⟨L1,V2,rfl,j8,hcm⟩
   have hseR:=SeI.comR (t:=ZG V t) (l:=(QM ks)) hse0 hne
   refine Qd (Qd ?_)
   have j26:=X1 (j8.pick [0,1,2,3,4] U)
   have j27:=Z3 (j26.pick [3,0,1,2,4,5,6,7,8] U) hcm.tr
   refine Qa (Qb U U (Qj U U (Qg U UM U (Qr U K7 (j27.cell 0 U U) U (Qv Sj U (kd_sp (j27.sp [] U) U) U ?_)))))
   rintro _ w28 ⟨ck,rfl,j28⟩
   replace j28:=j28.jn U U
   have hK:=Sat.fold (As:=[Q8 ck [.map (some t.md)],Q5 W8 t.md (ZF t.dr)]) (j28.pick [0,4,1,2,3,5,6,7,8,9,10,11,12,13] U)
   have hC29:=hK.sp [0] U
   refine Qv II U (Df hC29 F9 (itS ck t.md (ZF t.dr)) (fun ks h=> by have :=hd ks h;omega)) U ?_
   rintro _ w29 ⟨ns,hns,j29⟩
   replace j29:=j29.jn U U; clear hC29
   clear hK
   have hz2:=(j29.pick [1,0,2,3,4,5,6,7,8,9,10,11,12,13] U).flat; dsimp only[Gl,Gk]at hz2
   obtain⟨an,cn,hvn,_⟩:=hz2.own_shape 2 rfl; obtain rfl:=hvn
   have j30:=Zw hcm.tr (hz2.pick [3,4,5,1,6,0,2,7,8,9,10,11,12,13,14] U)
   have j31:=QX (L:=L1) (j30.pick [3,4,5,0,6,1,2,7,8,9,10] U)
   have hnl:(ZK ns).length≤d:= by rw[Yn]; exact hd _ (Came.of_all hns)
   have hob:=allS hns
   refine X7 underlying61 U U (Qb U U (Qf (Qc (Qh [9,8,5,1,0,111,112,113] U (Qw ?_)))))
   refine Xg (fun K0 E0 W0=> ∃(j:Nat) (L1:LvD) (V2:VS),K0=(ZK ns).length -j∧E0=[(0,ptrV b 0),(1,intV id),(5,ptrV t.ad 0),(8,.slice ar (QM ks).length cr),(9,.map (some mm)),(111,.slice an (ZK ns).length cn),(112,intV ((ZK ns).length:Int)),(113,intV (j:Int))]∧Sat W0 [XX b L1,XD L1.sp (n+4*c+4*c*j) Fr V2,rowT kC (.slice ar (QM ks).length cr) (QM ks),Q5 Xr mm (Gm made),rowT stC (.slice an (ZK ns).length cn) (ZK ns),F]∧(j≤(ZK ns).length)∧(CmI ex1 m L L1 V1 V2 id t (((ZK ns).take j).foldl (Js t.parent) (comR (Q1 L V) (ZG V t) (QM ks))))) (L0:=[(0,_),(1,_),(5,_),(8,_),(9,_),(111,_),(112,_),(113,_)]) ((ZK ns).length) (zb8 U U U U U U U U) ⟨0,L1,V2, by omega,rfl,j31.pick [0,3,4,5,2,6] U, by omega,hcm⟩ ?_
   rintro _ _ w32 ⟨j,L1,V2,rfl,rfl,j32,hj,hcm⟩
   have hcd:4*c*j≤4*c*d:=Nat.mul_le_mul_left _ (by omega)
   refine Qd (Qa (Xk U U U (Qf (Qc (Qd (Qt U (fun h33=> ?_) (fun h33=> ?_)))))))
   ·obtain⟨ob,hjb⟩: ∃ob,(ZK ns)[j]? =some ob:=⟨_,Zq (by omega)⟩
    refine Qs (Qc (Qd (Qw (Qd (Qa (Xx stC 4 j j32 U U U (by rfl) hjb Bf U ?_))))))
    intro bx34 capx34 hvx34
    refine Zz 4 j 0 j32 U hvx34 U U hjb W9 U U (Qe U U (Qf (Qc (Qh [113,112,111,9,8,5,1,0,16] U (Qa (Qb U U (Qb U U (Qj U U (Qg U Jl U (Qr U QL (VY j32 0 U hcm.tr 0 U) U (Qb U U (Qv IP U (Iu (c:=2*c) (j32.sp [0,1] U) (hcm.sz2 ht hc) (by omega) hcm.inv hmd.nn (hcm.par (SeI.drops hne ((ZK ns).take j) hseR)) ob) U ?_))))))))))))
    rintro _ w35 ⟨L2,V3,hs,hab,ho,j35⟩
    replace j35:=j35.jn U U
    refine Qf (Qk (Qc (Qh [113,112,111,9,8,5,1,0] U (Qa (QO U U (by omega) (by omega) U ?_)))))
    refine Qb U U (Qf ?_)
    have hcm2:=hcm.step hs ho (fun _ q=>q.elim) hne (hab.trans (by rw[hcm.ab]))
    exact Q3 (L1:=[(0,_),(1,_),(5,_),(8,_),(9,_),(111,_),(112,_),(113,intV ((j+1:Nat):Int))]) (zb8 U U U U U U U U) (k1:=(ZK ns).length -(j+1)) (by omega) ⟨j+1,_,_, by omega,rfl,(Xn (m:=n+4*c+4*c*(j+1)) (by rw[Nat.mul_succ];omega) (j35.pick [1,0,2,3,4,5] U)).reorder [1,0,2,3,4,5] U, by omega, by rw[HZ hjb]; exact hcm2⟩
   refine QU (Qq (Qq (Qx (Qc (Qd (Qd (Qa (Qb U U (X7 underlying98 U U (Qb U U (Qf (Qc (Qh [9,5,1,0,125,126,127] U (Qw ?_))))))))))))))
   have hjl:j=(ZK ns).length:= by omega
   rw[hjl,List.take_length]at hcm
   have hgv0:=GvI.start (V0:=V) (made:=made) (A0:=(Q1 L V)) (order:=(QM ks)) hcm hmd.mx
   have hseD:=SeI.drops hne (ZK ns) hseR
   rw[List.nil_append]at hseD
   have hcd2:4*c*j≤4*c*d:=Nat.mul_le_mul_left _ (by omega)
   have hz3:=(Xn (m:=n+4*c+4*c*d+5*0) (by omega) (j32.pick [1,0,2,3,5] U)).reorder [1,0,2,3,4] U
   refine Xg (fun K0 E0 W0=> ∃(i:Nat) (L1:LvD) (V2:VS) (ex2:Int→Int),K0=(QM ks).length -i∧E0=[(0,ptrV b 0),(1,intV id),(5,ptrV t.ad 0),(9,.map (some mm)),(125,.slice ar (QM ks).length cr),(126,intV ((QM ks).length:Int)),(127,intV (i:Int))]∧Sat W0 [XX b L1,XD L1.sp (n+4*c+4*c*d+5*i) Fr V2,rowT kC (.slice ar (QM ks).length cr) (QM ks),Q5 Xr mm (Gm made),F]∧(i≤(QM ks).length)∧(GvI ex2 m L L1 V V1 V2 id t made (Q1 L V) ((ZK ns).foldl (Js t.parent) (comR (Q1 L V) (ZG V t) (QM ks))) (QM ks) i)) (L0:=[(0,_),(1,_),(5,_),(9,_),(125,_),(126,_),(127,_)]) ((QM ks).length) (Pf U U U U U U U) ⟨0,L1,V2,ex1, by omega,rfl,hz3.pick [0,1,2,3,4] U, by omega,hgv0⟩ ?_
   rintro _ _ w36 ⟨i,L1,V2,ex2,rfl,rfl,j36,hi,hgv⟩
   refine Qd (Qa (Xk U U U (Qf (Qc (Qd (Qt U (fun h37=> ?_) (fun h37=> ?_)))))))
   ·obtain⟨k,hk⟩: ∃k,(QM ks)[i]? =some k:=⟨_,Zq (by omega)⟩
    obtain⟨x,hl⟩: ∃x,t.lv k=some x:=Option.ne_none_iff_exists'.1 ((hord k).1 (List.mem_of_getElem? hk))
    refine Qs (Qc (Qd (Qw (Qd (Qa (Xx kC 2 i j36 U U U (by rfl) hk K6 U ?_))))))
    intro bx38 capx38 hvx38
    refine ZZ 2 i j36 U hvx38 U hk X9 Xf U U (Xa j36 Zy U U ?_)
    intro kb wk39 hk39
    refine QG hk39 U U Xf U (by rfl) (i:=0) U (by decide) ?_
    intro wk40 hk40; dsimp only[List.set]at hk40
    clear hk39
    replace hk40:=X6 (k:=k) hk40
    refine Qf (Qc (Qh [127,126,125,9,5,1,0,18] U (Qd ?_)))
    have j41:=JQ hgv.cm.tr hl (hk40.pick [1,0,2,3,4,5] U)
    have j42:=j41.drew
    refine QE [0,1,2,3,4,5,6] [] Wa (by kernel_rfl) ?_
    refine Q9 U U U (Xi U U U (QQ U U U ZE (Q4 U U U (Ql U WR (j42.cell 2 U U)) (Q4 U U U (XB U X9 Xf (j42.blk 10 U) (Xv U) U) (Q4 U U U (X2 (k:=k) 3 j42 keysKey underlying90 U U U HB (u:=ptrV x.ad 0) (XY hl)) (XK U U U (VC.nil (Qc (Qh [127,126,125,9,5,1,0,18,19] U (Qd (Qa (Qb U U (Qj U U (Qg U Wj U (Qr U J6 (j42.cell 0 U U) U (XC U U U (Qf (Qc (Qh [127,126,125,9,5,1,0,18,19,141] U (Qt U (fun h43=> ?_) (fun h43=> ?_)))))))))))))))))))))
    ·have hw:x.wr≠0#64:= fun e=>h43 (by rw[e];rfl)
     refine Qd (Qa (Qb U U (Xw U X9 Xf (j42.blk 10 U) (Xv U) U U ?_)))
     rcases hmk:made k with _ | s
     ·refine Ww (k:=k) 13 j42 keysKey underlying81 U U U Hj (u:=intV 0) (g:=false) (by unfold Gm; rw[hmk];rfl) (by unfold Gm; rw[hmk];rfl) U ?_
      refine Qb U U (Qn U U U (Qn U U U (Qe U U (Qe U U (Qf (Qc (Qh [127,126,125,9,5,1,0,18,19,20,21] U (Qd (Qd (Qa (Qb U U (Xb U U (Qf (Qc (QT U (fun h44=> ?_) (fun h44=> ?_))))))))))))))))
      ·refine Qd (Qa (Qb U U (Qj U U (Qg U WK U (Qr U QL (j42.cell 0 U U) U (Qe U U (Qf (Qc (Qh [127,126,125,9,5,1,0,18,19,20] U (Qa (Qb U U (Qb U U (Qv Rb U (Ds (j42.sp [6,9,11] U) (by omega) x.own) U ?_)))))))))))))
       rintro _ w45 ⟨rfl,j45⟩
       replace j45:=j45.jn U U
       refine Qf (Qc (Qh [127,126,125,9,5,1,0,18,19,20] U ?_))
       have j46:=WJ (L:={L1 with sh:=JM L1.sh x.own}) (y:=x) hgv.cm.tr hl U (j45.pick [3,4,5,6,7,8,0,9,10,1,2,11,12,13,14] U)
       rw[YI (L:={L1 with sh:=JM L1.sh x.own}) hgv.cm.tr hl]at j46
       have hdrk:k.1∈(ZK ns)→x.wr=BitVec.allOnes 64:= fun q=>hdr id _ k _ (Zh ht) ((hob _).1 q) (ZR hl)
       have hpar:=hgv.cm.par (SeI.gives hne ((QM ks).take i) hseD)
       have j47:=j46.drew
       refine QE [0,1,2,3,4,5,6,7,8,9,10,11] [11] Wa (by kernel_rfl) ?_
       refine Q9 U U U (Q9 U U U (Xi U U U (QQ U U U Jl (Q4 U U U (Ql U QL (VY j47 0 U hgv.cm.tr 0 U)) (Q4 U U U (XB U X9 Xf (by first | exact j47.blk 2 U) (Xv U) U) ?_)))))
       refine Q9 U U U (Q9 U U U (Xi U U U (QQ U U U Wj (Q4 U U U (Ql U J6 (Nc j47 0 U hgv.cm.tr hl 3 U)) (Xe U U U U U U ?_)))))
       have hr:=hgv.cm.ref (hgv.own_alive hl) (JM L1.sh x.own)
       have hnr:NN (fun j=>ex2 j+dl x.own j):=nn_add hgv.nn
       have hcon:=(Yg (V:=V2) (s:=x.own) (j:=x.own)).trans (hgv.con_own hmd hI ht hk hl hw hmk)
       refine Qv IH U (Nr (j47.sp [0,1] U) (by omega) hr.inv hnr hm hpar (fun h0=> by have :=hgv.nn x.own h0; show 1≤ex2 x.own+dl x.own x.own; rw[W7];omega) k x.wr (fun h0=>hgv.ag hI hseD hne hk hnd hdrk (hr.ab.trans hgv.cm.ab.symm) hcon h0)) U ?_
       rintro _ w48 ⟨L2,V3,hs,hab,ho,j48⟩
       replace j48:=j48.jn U U
       refine Xz (Xj (by kernel_rfl)) ?_
       refine VC.nil (Qk (Qc (Qh [127,126,125,9,5,1,0] U (Qa (QO U U (by omega) (by omega) U ?_)))))
       refine Qb U U (Qf ?_)
       exact Q3 (L1:=[(0,_),(1,_),(5,_),(9,_),(125,_),(126,_),(127,intV ((i+1:Nat):Int))]) (Pf U U U U U U U) (k1:=(QM ks).length -(i+1)) (by omega) ⟨i+1,_,_,_, by omega,rfl,(Xn (m:=n+4*c+4*c*d+5*(i+1)) (by omega) (j48.pick [1,0,3,4,5] U)).reorder [1,0,2,3,4] U, by omega,hgv.own_next hmd hI hne ht hk hnd hl hw hmk hs hab ho⟩
      exact absurd h44 (by decide)
     refine Ww (k:=k) 13 j42 keysKey underlying81 U U U Hj (u:=intV s) (g:=true) (by unfold Gm; rw[hmk];rfl) (by unfold Gm; rw[hmk];rfl) U ?_
     refine Qb U U (Qn U U U (Qn U U U (Qe U U (Qe U U (Qf (Qc (Qh [127,126,125,9,5,1,0,18,19,20,21] U (Qd (Qd (Qa (Qb U U (Xb U U (Qf (Qc (QT U (fun h49=> ?_) (fun h49=> ?_))))))))))))))))
     ·exact absurd h49 (by decide)
     refine Qs (Qc (Qh [127,126,125,9,5,1,0,18,19,20] U ?_))
     have j50:=WJ (L:=L1) (y:=x) hgv.cm.tr hl U (j42.pick [0,1,2,3,4,5,6,7,8,9,10,11,12,13,14] U)
     rw[YI hgv.cm.tr hl]at j50
     have hdrk:k.1∈(ZK ns)→x.wr=BitVec.allOnes 64:= fun q=>hdr id _ k _ (Zh ht) ((hob _).1 q) (ZR hl)
     have hpar:=hgv.cm.par (SeI.gives hne ((QM ks).take i) hseD)
     have j51:=j50.drew
     refine QE [0,1,2,3,4,5,6,7,8,9,10,11] [11] Wa (by kernel_rfl) ?_
     refine Q9 U U U (Q9 U U U (Xi U U U (QQ U U U Jl (Q4 U U U (Ql U QL (VY j51 0 U hgv.cm.tr 0 U)) (Q4 U U U (XB U X9 Xf (by first | exact j51.blk 1 U) (Xv U) U) ?_)))))
     refine Q9 U U U (Q9 U U U (Xi U U U (QQ U U U Wj (Q4 U U U (Ql U J6 (Nc j51 0 U hgv.cm.tr hl 3 U)) (Xe U U U U U U ?_)))))
     refine Qv IH U (Nr (j51.sp [0,2] U) (by omega) hgv.cm.inv hgv.nn hm hpar (fun h0=>hgv.ge hk hnd hmk h0) k x.wr (fun h0=>hgv.ag hI hseD hne hk hnd hdrk U (hgv.con_made hmd hI hk hnd hl hmk) h0)) U ?_
     rintro _ w52 ⟨L2,V3,hs,hab,ho,j52⟩
     replace j52:=j52.jn U U
     refine Xz (Xj (by kernel_rfl)) ?_
     refine VC.nil (Qk (Qc (Qh [127,126,125,9,5,1,0] U (Qa (QO U U (by omega) (by omega) U ?_)))))
     refine Qb U U (Qf ?_)
     exact Q3 (L1:=[(0,_),(1,_),(5,_),(9,_),(125,_),(126,_),(127,intV ((i+1:Nat):Int))]) (Pf U U U U U U U) (k1:=(QM ks).length -(i+1)) (by omega) ⟨i+1,_,_,_, by omega,rfl,(Xn (m:=n+4*c+4*c*d+5*(i+1)) (by omega) (j52.pick [1,0,3,4,5] U)).reorder [1,0,2,3,4] U, by omega,hgv.made_next hmd hI hne hk hnd hl hw hmk hs hab ho⟩
    have hw0:x.wr=0#64:=zerW (Decidable.not_not.1 h43)
    refine Qs (Qk (Qc (Qa (QO U U (by omega) (by omega) U ?_))))
    refine Qb U U (Qf ?_)
    have j53:=WJ (L:=L1) (y:=x) hgv.cm.tr hl U (j42.pick [0,1,2,3,4,5,6,7,8,9,10,11,12,13,14] U)
    rw[YI hgv.cm.tr hl]at j53
    exact Q3 (L1:=[(0,_),(1,_),(5,_),(9,_),(125,_),(126,_),(127,intV ((i+1:Nat):Int))]) (Pf U U U U U U U) (k1:=(QM ks).length -(i+1)) (by omega) ⟨i+1,L1,V2,_, by omega,rfl,(Xn (m:=n+4*c+4*c*d+5*(i+1)) (by omega) (j53.pick [2,0,3,4,5] U)).reorder [1,0,2,3,4] U, by omega,hgv.skip hmd hk hnd hl hw0⟩
   refine QU (Qq (Qq (Qx (Qc (Qd ?_)))))
   have hil:i=(QM ks).length:= by omega
   rw[hil]at hgv
   have hfin:=hgv.fin (fun k hk=>((hmd.dom k).1 hk).1)
   refine Qa (Qb U U (Qb U U (Qv IG U (MF (c:=2*c) (ex:= fun _=>0) (j36.sp [0,1] U) (hgv.cm.sz2 ht hc) (by omega) hfin (fun _ _=>Int.le_refl _) hgv.cm.tr (hgv.cm.noch hch)) U ?_)))
   rintro _ w54 ⟨L3,V4,hs3,hab3,hp3,ht3,j54⟩
   replace j54:=j54.jn U U
   exact Qf (Qc (Pk (L':=[]) .nil (Qd (Qa (Qe U U (Qf (Qc (Qu (QY (.inr U) U U (⟨_,rfl,L3,V4,.inl ⟨rfl,gv_end hI ht hmd hgv hord hnd hob hs3 hab3 hp3 ht3⟩,(Xn (m:=n+(16*c+4*c*d)) (by omega) (j54.pick [1,0,4] U)).reorder [1,0,2] U⟩))))))))))
  refine⟨_,U, ?_⟩
  replace j6:=j6.jn U U
  refine Qb U U (Qn U U U (Qn U U U (Qe U U (Qe U U (Qf (Qc (Qh [5,1,0,8,9,10] U (Qd (Qd (Qa (Qb U U (XC U U U (Qf (Qc (Qt U (fun h55=> ?_) (fun h55=> ?_))))))))))))))))
  ·exact Qd (Qa (Qb U U (Qe U U (Qf (Qc (Qu (Qp (QY (.inr U) U U (⟨_,rfl,L,V1,.inr ⟨rfl,rfl,(QM ks),hord,hnd,hmi,hmab,hmf,hmal⟩,(Xn (m:=n+(16*c+4*c*d)) (by omega) (j6.pick [1,0,3] U)).reorder [1,0,2] U⟩)))))))))
  exact absurd (by decide) h55
 dsimp only[List.set]at hSN
 obtain⟨u,hu,rfl⟩:=YR hgk
 refine Qn U U U (Qf (Qc (Qd (Xd U (Qs (Qc (Qw (Qd (Qa (ZP 2 hSN U hgk U U (Qn U U U (Qe U U (Qf (Qc (Qd (Qa (Qb U U (Qj U U (Qg U Jl U (Qr U QL ((Z3 (hSN.pull 3 U) hu).cell 0 U U) U (Qb U U (Xq U U U (Qf (Qc (Qh [34,5,1,0,44] U (Qt U (fun h56=> ?_) (fun h56=> ?_)))))))))))))))))))))))))))
 ·exact absurd h56 (hch _ _ hu)
 exact Qs (Qk (Q3 (L1:=[(0,_),(1,_),(5,_),(34,_)]) (HR U U U U) (k1:=left2) (by omega) ⟨_,_,_,rfl,rfl,hSN.pick [0,1,2,3,4,5,6] U⟩))
def PY (A:LvA) (t:TrA) (k:KD):Bs:= match t.lv k with
  | some x=> if x.wr=0#64 then(if t.dr k.1=true then zer else A.pres k)else R7 (A.pres k) x.own x.wr
  | none=> if t.dr k.1=true then zer else A.pres k
theorem LvA.eq2 {A B:LvA} (h1:A.pres=B.pres) (h2:A.tr=B.tr):A=B:= by cases A; cases B; simp at h1 h2; subst h1; subst h2;rfl
theorem KJ {A:LvA} {k:KD}:Wq A 0 k=A.pres k:= by unfold Wq; rw[Yz,if_pos U]
theorem gvS0_tr {A0 A:LvA} {t:TrA} {j:KD}:(gvS A0 0 t A j).tr=A.tr:= by
  unfold gvS
  cases t.lv j with
  | none=>rfl
  | some x=>
    dsimp only
    by_cases q:x.wr=0#64
    · rw[if_pos q]
    · rw[if_neg q,if_pos U]
theorem Ec {A0 A:LvA} {t:TrA} {j k:KD} (h:k≠j):(gvS A0 0 t A j).pres k=A.pres k:= by
  unfold gvS
  cases t.lv j with
  | none=>rfl
  | some x=>
    dsimp only
    by_cases q:x.wr=0#64
    · rw[if_pos q]
    · rw[if_neg q,if_pos U]; exact XQ h
theorem MS {A0:LvA} {t:TrA}: ∀(l:List KD) (A:LvA),l.Nodup→(l.foldl (gvS A0 0 t) A).tr=A.tr∧ ∀k,(l.foldl (gvS A0 0 t) A).pres k= if k∈l then(match t.lv k with | none=>A.pres k | some x=> if x.wr=0#64 then A.pres k else Bv A0 0 k x)else A.pres k
  | [],A,_=>⟨rfl, fun k=> by simp⟩
  | j::l,A,hn=> by
    obtain⟨hj,hn⟩:=List.nodup_cons.1 hn
    obtain⟨a,b⟩:=MS (A0:=A0) (t:=t) l (gvS A0 0 t A j) hn
    refine⟨a.trans gvS0_tr, fun k=> ?_⟩
    show(l.foldl (gvS A0 0 t) (gvS A0 0 t A j)).pres k=_
    rw[b k]
    by_cases e:k=j
    · subst e
      rw[if_neg hj,if_pos List.mem_cons_self]
      unfold gvS
      cases t.lv k with
      | none=>rfl
      | some x=>
        dsimp only
        by_cases q:x.wr=0#64
        · rw[if_pos q,if_pos q]
        · rw[if_neg q,if_neg q,if_pos U]; exact XF
    · rw[Ec e]
      by_cases q:k∈l
      · rw[if_pos q,if_pos (List.mem_cons_of_mem _ q)]
      · rw[if_neg q,if_neg (by simp [e,q])]
theorem DQ: ∀(l:List Bs) (A:LvA),(l.foldl (Js 0) A).tr=A.tr∧ ∀k,(l.foldl (Js 0) A).pres k= if k.1∈l then zer else A.pres k
  | [],A=>⟨rfl, fun k=> by simp⟩
  | ob::l,A=> by
    obtain⟨a,b⟩:=DQ l (Js 0 A ob)
    have h1:(Js 0 A ob).tr=A.tr:= by unfold Js; rw[if_pos U];rfl
    refine⟨a.trans h1, fun k=> ?_⟩
    show(l.foldl (Js 0) (Js 0 A ob)).pres k=_
    rw[b k]
    have h2:(Js 0 A ob).pres k= if k.1=ob then zer else A.pres k:= by
      unfold Js
      rw[if_pos U]
      show WE (fun j:KD=>j.1=ob) zer A.pres k=_
      unfold WE
      by_cases e:k.1=ob
      · rw[if_pos e,if_pos e]
      · rw[if_neg e,if_neg e]
    rw[h2]
    by_cases q:k.1∈l
    · rw[if_pos q,if_pos (List.mem_cons_of_mem _ q)]
    · rw[if_neg q]
      by_cases e:k.1=ob
      · rw[if_pos e,if_pos (by simp [e])]
      · rw[if_neg e,if_neg (by simp [e,q])]
theorem Ex {A:LvA} {id:Int} {t:TrA} {order:List KD} {obs:List Bs} (hp:t.parent=0) (hn:order.Nodup) (ho: ∀k,k∈order↔t.lv k≠none) (hob: ∀ob,ob∈obs↔t.dr ob=true):
    PZ A id t order obs=⟨PY A t,Xu A.tr id none⟩:= by
  obtain⟨a,b⟩:=MS (A0:=A) (t:=t) order (obs.foldl (Js 0) A) hn
  obtain⟨c,d⟩:=DQ obs A
  unfold PZ
  rw[hp,if_pos U]
  apply LvA.eq2
  · funext k
    show(order.foldl (gvS A 0 t) (obs.foldl (Js 0) A)).pres k=PY A t k
    rw[b k,d k]
    unfold PY
    cases q:t.lv k with
    | none=>
      rw[if_neg (by rw[ho,q]; simp)]
      by_cases e:t.dr k.1=true
      · rw[if_pos ((hob _).2 e),if_pos e]
      · rw[if_neg (fun h=>e ((hob _).1 h)),if_neg e]
    | some x=>
      rw[if_pos ((ho k).2 (by rw[q]; simp))]
      dsimp only
      by_cases w:x.wr=0#64
      · rw[if_pos w,if_pos w]
        by_cases e:t.dr k.1=true
        · rw[if_pos ((hob _).2 e),if_pos e]
        · rw[if_neg (fun h=>e ((hob _).1 h)),if_neg e]
      · rw[if_neg w,if_neg w];unfold Bv; rw[KJ]
  · show Xu (order.foldl (gvS A 0 t) (obs.foldl (Js 0) A)).tr id none=Xu A.tr id none
    rw[a,c]
def LsP (p m c e:Nat) (A:LvA) (L:LvD) (V:VS):Prop:=L.sp=p∧LvI m L V∧Q1 L V=A∧AliveLe V c∧SzLe L e
def GE (b p n m c e:Nat) (A:LvA):Th:=Cw fun L=>Cw fun V=>starL [Yc (LsP p m c e A L V),XX b L,XD L.sp n 256 V]
section
variable {w:World} {b p n m c e:Nat} {A:LvA} {As:List Th}
theorem Hb (h:Sat w (GE b p n m c e A::As)): ∃L V,LsP p m c e A L V∧Sat w (XX b L::XD L.sp n 256 V::As):= by
  obtain⟨L,h⟩:=h.ex
  obtain⟨V,h⟩:=h.ex
  have h:=h.flat
  dsimp only[Gl,Gk]at h
  obtain⟨hp,h⟩:=h.pure_elim
  exact⟨L,V,hp,h⟩
theorem Ha {L:LvD} {V:VS} (hp:LsP p m c e A L V) (h:Sat w (XX b L::XD L.sp n 256 V::As)):Sat w (GE b p n m c e A::As):=
  Sat.ex_intro L (Sat.ex_intro V (Sat.fold (As:=[Yc (LsP p m c e A L V),XX b L,XD L.sp n 256 V]) (Sat.pure_intro hp h)))
end
theorem AM {w:World} {b p mp mt ms:Nat} {As:List Th} (h:Sat w (XX b (Hw p mp mt ms)::XD p 0 256 (fun _=>none)::As)):Sat w (GE b p 0 0 0 0 PA::As):= by
  obtain⟨h1,h2,h3,h4,_⟩:=R6 (sp:=p) (mp:=mp) (mt:=mt) (ms:=ms)
  exact Ha (L:=Hw p mp mt ms) (V:= fun _=>none) ⟨rfl,h1,h2,h3,h4⟩ h
def VA (A:LvA) (t:TrA):Prop:= ∀k x,t.lv k=some x→ ∀j,j<64→x.rd.getLsbD j=true→x.base[j]? =(Wq A t.parent k)[j]?
theorem qar {m:Nat} {L:LvD} {V:VS} {t:TrD} (hI:LvI m L V):(∀k x,t.lv k=some x→VK L V t k x)↔VA (Q1 L V) (ZG V t):= by
  constructor
  · intro h k y hy j hj hr
    cases q:t.lv k with
    | none=> rw[V8 q]at hy; cases hy
    | some x=>
      rw[ZR q]at hy
      cases hy
      have h1:=h k x q j hj hr
      rw[hI.sees]at h1
      exact h1
  · intro h k x hx j hj hr
    have h1:=h k _ (ZR hx) j hj hr
    rw[hI.sees]
    exact h1
theorem O9 {w:World} {b p n m c e:Nat} {A:LvA} {F:Th} (hS:Sat w [GE b p n m c e A,F]) (hn:n≤60000000000) (hm:m<Zg) (id parent:Int):
    Calls prog 11 #[ptrV b 0,intV id,intV parent] w (Ret fun v w'=>v=intV (Mw A id parent)∧Sat w' [GE b p n (m+1) c e (Bx A id parent),F]):= by
  obtain⟨L,V,⟨h1,h2,rfl,h4,h5⟩,j1⟩:=Hb hS
  refine(FL j1 h2 id parent).mono fun ew w h=>h.mono fun v w h=> ?_
  obtain⟨L',rfl,hs,ha,hS⟩:=h
  exact⟨U,Ha ⟨hs.sp.trans h1,hs.inv,ha,hs.al _ h4,hs.sz _ h5⟩ hS⟩
theorem O8 {w:World} {b p n m c e:Nat} {A:LvA} {F:Th} (hS:Sat w [GE b p n m c e A,F]) (hn:n≤60000000000) (hm:m<Zg) (ob:Bs) (a:Int) (hr:0≤a∧a<16384):
    Calls prog 12 #[ptrV b 0,intV 0,strV ob,intV a] w (Ret fun v w'=>v=WA (Ph (A.pres (ob,a/ 64)) (a%64))∧Sat w' [GE b p n m c e A,F]):= by
  obtain⟨L,V,⟨h1,h2,rfl,h4,h5⟩,j1⟩:=Hb hS
  refine(Tk j1 hn ob a h2 hm hr).mono fun ew w h=>h.mono fun v w h=> ?_
  exact⟨h.1,Ha ⟨h1,h2,U,h4,h5⟩ h.2⟩
theorem O7 {w:World} {b p n m c e:Nat} {A:LvA} {F:Th} (hS:Sat w [GE b p n m c e A,F]) (hn:n≤60000000000) (hm:m<Zg) {id:Int} {tA:TrA} (ht:A.tr id=some tA) (ob:Bs) (a:Int) (hr:0≤a∧a<16384):
    Calls prog 12 #[ptrV b 0,intV id,strV ob,intV a] w (Ret fun v w'=>v=WA (Ph (Z0 A id (ob,a/ 64)).own (a%64))∧Sat w' [GE b p (n+2) m c (e+1) (ZJ A id (ob,a/ 64) (rdX (Z0 A id (ob,a/ 64)) (a%64))),F]):= by
  obtain⟨L,V,⟨h1,h2,rfl,h4,h5⟩,j1⟩:=Hb hS
  obtain⟨t,ht1,rfl⟩:=KF ht
  refine(Tj j1 hn ob a h2 hm ht1 hr).mono fun ew w h=>h.mono fun v w h=> ?_
  obtain⟨L',V',rfl,hs,ha,hS⟩:=h
  exact⟨U,Ha ⟨hs.sp.trans h1,hs.inv,ha,hs.al _ h4,hs.sz _ h5⟩ hS⟩
theorem O6 {w:World} {b p n m c e:Nat} {A:LvA} {F:Th} (hS:Sat w [GE b p n m c e A,F]) (hn:n≤60000000000) (hm:m<Zg) (hc:c+1<256) (ob:Bs) (a:Int) (bt:UInt8) (hr:0≤a∧a<16384):
    Calls prog 10 #[ptrV b 0,intV 0,strV ob,intV a,WA bt] w (Ret fun v w'=>v=intV 0∧Sat w' [GE b p (n+5) m (c+1) (e+1) (wrP A (ob,a/ 64) (a%64) bt),F]):= by
  obtain⟨L,V,⟨h1,h2,rfl,h4,h5⟩,j1⟩:=Hb hS
  refine(CH j1 hn ob a bt h2 hm hr).mono fun ew w h=>h.mono fun v w h=> ?_
  obtain⟨L',V',er,rfl,hs,hq,hS⟩:=h
  rcases hq with⟨rfl,ha⟩ | ⟨_,_,hT⟩
  · exact⟨U,Ha ⟨hs.sp.trans h1,hs.inv,ha,hs.al _ h4,hs.sz _ h5⟩ hS⟩
  · have :=hT c h4
    omega
theorem O5 {w:World} {b p n m c e:Nat} {A:LvA} {F:Th} (hS:Sat w [GE b p n m c e A,F]) (hn:n≤60000000000) (hm:m<Zg) {id:Int} {tA:TrA} (ht:A.tr id=some tA) (hc:c+1<256) (ob:Bs) (a:Int) (bt:UInt8) (hr:0≤a∧a<16384):
    Calls prog 10 #[ptrV b 0,intV id,strV ob,intV a,WA bt] w (Ret fun v w'=>v=intV 0∧Sat w' [GE b p (n+5) m (c+1) (e+1) (ZJ A id (ob,a/ 64) (wrX (Z0 A id (ob,a/ 64)) (a%64) bt)),F]):= by
  obtain⟨L,V,⟨h1,h2,rfl,h4,h5⟩,j1⟩:=Hb hS
  obtain⟨t,ht1,rfl⟩:=KF ht
  refine(CG j1 hn ob a bt h2 hm ht1 hr).mono fun ew w h=>h.mono fun v w h=> ?_
  obtain⟨L',V',er,rfl,hs,hq,hS⟩:=h
  rcases hq with⟨rfl,ha⟩ | ⟨_,_,hT⟩
  · exact⟨U,Ha ⟨hs.sp.trans h1,hs.inv,ha,hs.al _ h4,hs.sz _ h5⟩ hS⟩
  · have :=hT c h4
    omega
theorem Nd {w:World} {b p n m c e:Nat} {A:LvA} {F:Th} (hS:Sat w [GE b p n m c e A,F]) (hn:n≤60000000000) (hm:m<Zg) (hG:Ent F GT) {id:Int} {tA:TrA} (ht:A.tr id=some tA):
    Calls prog 14 #[ptrV b 0,intV id] w (Ret fun v w'=> ∃r:Bool,v= .bool r∧(r=true↔VA A tA)∧Sat w' [GE b p n m c e A,F]):= by
  obtain⟨L,V,⟨h1,h2,rfl,h4,h5⟩,j1⟩:=Hb hS
  obtain⟨t,ht1,rfl⟩:=KF ht
  refine(M2 j1 hn h2 hm hG ht1).mono fun ew w h=>h.mono fun v w h=> ?_
  obtain⟨r,rfl,hr,hS⟩:=h
  exact⟨r,U,hr.trans (qar h2),Ha ⟨h1,h2,U,h4,h5⟩ hS⟩
