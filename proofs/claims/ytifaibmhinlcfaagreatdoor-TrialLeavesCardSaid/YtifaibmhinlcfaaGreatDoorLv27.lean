/- leaves: Commit -/
import Derived.Test.YtifaibmhinlcfaaGreatDoorLv26
set_option linter.unusedSectionVars false
set_option linter.unusedVariables false
set_option maxRecDepth 100000
set_option maxHeartbeats 3200000
namespace Go.Proofs.YtifaibmhinlcfaaGreatDoor
open Go.RowKit M Proofs.Tryz
variable [Inhabited SlW]
variable {A A0:LvA} {G:(KD→Int)→Prop} {L:LvD} {V:VS} {b c e m n p:Nat} {id:Int} {j k:KD} {obs:List Bs} {order:List KD} {t tA:TrA} {w:World}
noncomputable def comR (A:LvA) (t:TrA) (l:List KD):LvA:= if t.parent=0 then A else l.foldl (rdS t.parent t) A
theorem SeI.comR {A0:LvA} {id:Int} {t:TrA} {l:List KD} (h:SeI A0 A0 id t.parent t [] []) (a:id≠t.parent):SeI A0 (comR A0 t l) id t.parent t [] []:=by
  unfold Go.Proofs.YtifaibmhinlcfaaGreatDoor.comR;by_cases b:t.parent=0
  · rw[if_pos b];exact h
  · rw[if_neg b];exact SeI.reads a b l h
theorem comA_eq {l:List KD} :DA A id t l obs=Kw (l.foldl (DR A t.parent t) (obs.foldl (JU t.parent) (comR A t l))) id:=rfl
theorem SeI.first {t:TrD} (c:LvI m L V) (b:L.tr id=some t):SeI (QC L V) (QC L V) id t.parent (ZR V t) [] []:=
  SeI.start (Z1 b) λd=>by
    obtain⟨_,r,_,e⟩:=c.rank;have a:=((e id t b).resolve_left d).1;cases q:L.tr t.parent with
    | none=> exact absurd q a
    | some tp=> exact⟨_,Z1 q⟩
theorem allS {f:Bs->Bool} {ks:List Bs} (h:AllC (YA f) ks) (ob:Bs):ob∈Wk ks↔f ob=true:=by
  rw[(Y1 ks).mem_iff,h.mem];unfold YA;cases f ob<;> simp
def ComY (m:Nat) (L L':LvD) (V V':VS) (id:Int) (t:TrD):Prop:= ∃order obs,(∀k,k∈order↔t.lv k≠none)/\order.Nodup/\(∀ob,ob∈obs↔t.dr ob=true)/\LvI m L' V'/\L'.sp=L.sp/\QC L' V'=DA (QC L V) id (ZR V t) order obs/\(∀c,SzLe L c->SzLe L' c)/\ ∀c,AliveLe V c->AliveLe V' (c+YG t order)
def ComN (m Fr:Nat) (L:LvD) (V V':VS) (t:TrD):Prop:= ∃order:List KD,(∀k,k∈order↔t.lv k≠none)/\order.Nodup/\LvI m L V'/\QC L V'=QC L V/\(∀c,AliveLe V c->Fr<=c+YG t order)/\ ∀c,AliveLe V c->AliveLe V' (c+YG t order)
theorem gv_end {L1 L2:LvD} {V1 V2 V3:VS} {t:TrD} {made:KD->Option Int} {ex ex0:Int->Int} (l:LvI m L V) (j:L.tr id=some t) (d:MdI m L V V1 t ex0 made order) (a:GvI ex m L L1 V V1 V2 id t made (QC L V) (obs.foldl (JU t.parent) (comR (QC L V) (ZR V t) order)) order order.length)
    (b: ∀k,k∈order↔t.lv k≠none) (e:order.Nodup) (f: ∀ob,ob∈obs↔t.dr ob=true) (g:StepX (λ_=>0) m L1 V2 (λ_=>0) m 0 0 L2 V3) (h:QC L2 V3=Kw (QC L1 V2) id) (n:L2.pres=L1.pres) (o:L2.tr=QN L1.tr id none):ComY m L L2 V V3 id t:=by
  refine⟨order,obs,b,e,f,g.inv,g.sp.trans a.cm.sp, ?_,λc i=>a.cm.ok.szRem (EQ j) (l.rank.none0 j) n o i,λc i=>g.al _ (a.cm.al _ (d.al c i))⟩;rw[h,comA_eq,a.cm.ab,List.take_length];rfl
theorem nn_add {ex:Int->Int} {s:Int} (h:NN ex):NN (λj=>ex j+dl s j):= λj a=>by
  show 0<=ex j+dl s j;have :=h j a;by_cases e:j=s
  · subst e;rw[WE];omega
  · rw[JE e];omega
theorem IN {d:Nat} {Fr:Nat} {F:Th} (hS:Sat w [WB b L,ZP L.sp n Fr V,F]) (hn:n+(16*c+4*c*d)<=60000000000) (R:LvI m L V) (hm:m<ZO) (hc:SzLe L c) {t:TrD} (D:L.tr id=some t) (a5: ∀i u,L.tr i=some u->u.parent≠id) (ax:DrA (QC L V)) (hd: ∀ks,Came (YA t.dr) ks->ks.length<=d) (cg:d<=90000000000):
    Calls prog 53 #[ptrV b 0,intV id] w (Ret λv w'=> ∃L' V',((v=intV 0/\ComY m L L' V V' id t)\/(v=intV 6/\L'=L/\ComN m Fr L V V' t))/\Sat w' [WB b L',ZP L'.sp (n+(16*c+4*c*d)) Fr V',F]):=by
 replace hS:=Zo hS;refine Qn func53 U ntmps53 U ?_;refine Qe<|Qa<|Qd U U<|Qf<|Qc<|Qe<|Qa<|Qb U U<|Qj U U<|Qg U Wv U<|Qo U J9 (hS.cell 0 U U) U<|Qb U U<|Xf (k:=id) 2 hS keysInt underlying141 U U U YY (u:=ptrV t.ad 0) (XH D) U<|Qd U U<|Qf<|Qc<|Qe<|Qe<|Qa<|Qb U U<|XG underlying139 U U U<|Qf<|Qc<|Qh [1,0,4,5,29] U<|QM U<|Qt<|Qc<|Qe<|Qe<|Qa<|Qb U U<|Qj U U<|Qg U Wv U<|Qo U J9 (hS.cell 0 U U) U<|WN 2 hS underlying141 U U U ?_;intro RR left0 wR ay;dsimp only[List.set]at ay;refine Qf<|Qc<|Qx<|QU (λK0 E0 W0=> ∃(dn:Int->Prop) (cur:Option Int) (left:Nat),K0=left/\E0=[(0,ptrV b 0),(1,intV id),(5,ptrV t.ad 0),(34,ptrV RR 0)]/\Sat W0 [Q6 b [ptrV L.sp 0,.map (some L.mp),.map (some L.mt),intV L.cur,.map (some L.ms)],Q4 X7 L.mp (ZU L.pres),WI QY L.mt RR (XM TrD.ad L.tr) dn cur left,Xw Gi L.tr,Q4 QY L.ms (YA L.sh),ZP L.sp n Fr V,F]) (L0:=[(0,_),(1,_),(5,_),(34,_)]) (left0) (Rs U U U U) ⟨_,_,_,rfl,rfl,ay.pick [0,1,2,3,4,5,6] U⟩ ?_;rintro _ _ w1 ⟨dn,cur,left,rfl,rfl,j1⟩;refine Qe<|Qa<|JA 2 j1 keysInt.inj U U U (λbn=> ?_) (λi v left2 wN bo az A S=> ?_)
 ·refine Qr U U U<|Qf<|Qc<|Qe<|QM U<|QQ<|Qp<|Qp<|Qy<|Qc<|Qe ?_;have bp:=Wh (j1.pick [2,0,1,3,4,5,6] U);have j2:=W3 (bp.pick [3,0,1,2,4,5,6] U) D;refine Qa<|Qb U U<|Qj U U<|Qg U Wu U<|Qo U Jv (j2.cell 0 U U) U ?_;refine Qw PR U (Tf (j2.sp [1] U) (λks h=>by have :=hc.keysL D h;omega)) U ?_;rintro _ w3 ⟨ks,a6,j3⟩;replace j3:=j3.jn U U;obtain⟨ar,cr,bq,_⟩:=j3.own_shape 0 rfl;obtain rfl:=bq;refine Qd U U<|Qf<|Qc<|Qh [5,1,0,8] U<|Qe ?_;have j4:=W4 D (j3.pick [2,1,3,4,5,0,6,7,8,9,10,11] U);have j5:=Xq (L:=L) (j4.pick [3,4,2,0,5,1,6,7] U);have E:=qgf a6;have A:=Up a6.nodup;have br:(QV ks).length<=c:=by rw[Jd];exact hc.keysL D (Came.of_all a6)
  refine Qa<|Qb U U<|Qb U U<|Qb U U<|XF cal_107 U (L7 (j5.sp [0,2,1] U) (by omega) R hm D E A br) U ?_;rintro e w6 ⟨_,rfl,(⟨V1,mm,made,ex1,rfl,z,Q⟩ | ⟨V1,rfl,bs,b0,bt,b1,Q⟩)⟩
  ·refine⟨_,U, ?_⟩;replace Q:=Q.jn U U;refine Qb U U<|Qr U U U<|Qr U U U<|Qd U U<|Qd U U<|Qf<|Qc<|Qh [5,1,0,8,9,10] U<|Qe<|Qe<|Qa<|Qb U U<|Xz U U U<|Qf<|Qc<|Qs U (λh7=> ?_) (λh7=> ?_)
   ·exact absurd U h7
   have o:id≠t.parent:= λq=>a5 id t D q.symm;have a0:=SeI.first R D
   have M:=CmI.start z.inv D;rw[z.ab]at M;refine Qt<|Qc<|Mt (λE0 W0=> ∃(L1:LvD) (V2:VS),E0=[(0,ptrV b 0),(1,intV id),(5,ptrV t.ad 0),(8,.slice ar (QV ks).length cr),(9,.map (some mm))]/\Sat W0 [WB b L1,ZP L1.sp (n+4*c) Fr V2,rowT kC (.slice ar (QV ks).length cr) (QV ks),Q4 X7 mm (Br made),F]/\(CmI ex1 m L L1 V1 V2 id t (comR (QC L V) (ZR V t) (QV ks)))) ?_ ?_
   ·refine Qe<|Qa<|Qb U U<|Qj U U<|Qg U JR U<|Qo U QL (KW Q 0 U D 0 U) U<|Xz U U U<|Qf<|Qc<|Qh [5,1,0,8,9,64] U<|Qs U (λh9=> ?_) (λh9=> ?_)
    ·have Is:t.parent≠0:=h9;refine Qe<|Qa<|Qb U U ?_
     first | refine Xl underlying163 U U ?_ | refine Wa 2 Q underlying163 U U U ?_
     refine Qb U U<|Qf<|Qc<|Qx ?_;refine QU (λK0 E0 W0=> ∃(i:Nat) (L1:LvD) (V2:VS),K0=(QV ks).length -i/\E0=[(0,ptrV b 0),(1,intV id),(5,ptrV t.ad 0),(8,.slice ar (QV ks).length cr),(9,.map (some mm)),(65,.slice ar (QV ks).length cr),(66,intV ((QV ks).length:Int)),(67,intV (i:Int))]/\Sat W0 [WB b L1,ZP L1.sp (n+2*c+2*i) Fr V2,rowT kC (.slice ar (QV ks).length cr) (QV ks),Q4 X7 mm (Br made),F]/\(i<=(QV ks).length)/\(CmI ex1 m L L1 V1 V2 id t (((QV ks).take i).foldl (rdS t.parent (ZR V t)) (QC L V)))) (L0:=[(0,_),(1,_),(5,_),(8,_),(9,_),(65,_),(66,_),(67,_)]) ((QV ks).length) (zb8 U U U U U U U U) ⟨0,L,V1,by omega,rfl,Q.pick [0,1,2,3,4] U,by omega,M⟩ ?_;rintro _ _ ch ⟨i,L1,V2,rfl,rfl,T,hi,f⟩;refine Qe<|Qa<|Xa U U U<|Qf<|Qc<|Qe<|Qs U (λbu=> ?_) (λbu=> ?_)
     ·obtain⟨k,B⟩: ∃k,(QV ks)[i]? =some k:=⟨_,XQ (by omega)⟩;obtain⟨x,r⟩: ∃x,t.lv k=some x:=Option.ne_none_iff_exists'.1 ((E k).1 (List.mem_of_getElem? B));refine Qt<|Qc<|Qe<|Qx<|Qe<|Qa<|Xj kC 2 i T U U U (by first | rfl | omega) B Ku U ?_
      intro bx12 capx12 a7;refine Wq 2 i T U a7 U B Xu Xb U U<|Xc T Wo U U ?_;intro kb wk13 a1;refine QW a1 U U Xb U (by rfl) (i:=0) U (by decide) ?_;intro wk14 I;dsimp only[List.set]at I;clear a1;replace I:=Zr (k:=k) I;refine Qf<|Qc<|Qh [67,66,65,9,8,5,1,0,12] U<|Qe ?_;have bv:=YL f.tr r (I.pick [1,0,2,3,4,5] U);have K:=bv.drew;refine Q7 [0,1,2,3,4,5,6] [] Z9 (by kernel_rfl) ?_;refine Q3 U U U<|QP U U U<|QG U U U Wu<|Q0 U U U (Ql U Jv (K.cell 2 U U))<|Q0 U U U (X5 U Xu Xb (K.blk 10 U) (Xk U) U)<|Q0 U U U (X4 (k:=k) 3 K keysKey underlying145 U U U Ht (u:=ptrV x.ad 0) (XH r))<|Zd U U U (VC.nil (Qc (Qh [67,66,65,9,8,5,1,0,12,13] U (Qe (Qa (Qb U U (Qj U U (Qg U Yx U (Qo U Ju (K.cell 0 U U) U (Xz U U U (Qf (Qc (Qh [67,66,65,9,8,5,1,0,12,13,81] U (Qs U (λa8=> ?_) (λa8=> ?_)))))))))))))))
      ·have bw:x.rd≠0#64:= λe=>a8 (by rw[e];rfl);refine Qe ?_;have b2:=Js (L:=L1) (y:=x) f.tr r U (K.pick [0,1,2,3,4,5,6,7,8,9,10,11,12,13,14] U);rw[Hf f.tr r]at b2;obtain⟨tp,a9⟩:=(f.par (SeI.reads o Is ((QV ks).take i) a0)).resolve_left Is;have aa:=b2.drew;refine Q7 [0,1,2,3,4,5,6,7] [6] Z9 (by kernel_rfl) ?_;refine Q3 U U U<|Q3 U U U<|QP U U U<|QG U U U JR<|Q0 U U U (Ql U QL (KW aa 0 U f.tr 0 U))<|Q0 U U U (X5 U Xu Xb (by first | exact aa.blk 1 U) (Xk U) U) ?_
       refine QO U U U U U U ?_;refine Qw Rg U (UA (aa.sp [0,2] U) (by omega) (f.inv.rank.ends hm) a9 (k:=k)) U ?_;rintro _ ci ⟨L2,V3,t2,y,rfl,hT,ac⟩;replace ac:=ac.jn U U;have b3:=hT.tr a9;have b4:=hT.lv;have b5:L2.tr id=some t:=(hT.oth o).trans f.tr;refine Xh (Xd (by kernel_rfl)) ?_;refine Zd U U U (VC.nil (Qc (Qh [67,66,65,9,8,5,1,0,13,14] U ?_)));have bx:=YL b3 b4 (ac.pick [0,1,2,3,4,5] U);have bz:QN L2.tr t.parent none id=some t:=by rw[Qz o];exact b5
       have W:=bx.drew;refine Q7 [0,1,2,3,4,5,6,7,8,9,10,11,12,13,14,15,16] [16] Z9 (by kernel_rfl) ?_;refine Q3 U U U<|QP U U U<|QG U U U Yx<|Q0 U U U (Ql U Ju (W.cell 0 U U))<|Q3 U U U<|QP U U U<|QG U U U Yx<|Q0 U U U (Ql U Ju (EL W 5 U bz r 2 U))<|Q3 U U U<|QP U U U<|QG U U U Wt<|Q0 U U U (Ql U Ju (W.cell 0 U U))<|Xi U U U (λ_=>(Ks U U)) ?_;refine Xi U U U (λ_=>(GR U U)) ?_;refine QP U U U<|QG U U U Yx<|QO U U U U U U ?_;refine QK W U U Kb U (i:=0) U (Xk U) ?_;intro cj b6;dsimp only[List.set]at b6;refine Zc (Xd (by kernel_rfl)) ?_;refine VC.nil (Qm (Qc (Qh [67,66,65,9,8,5,1,0] U (Qa (QE U U (by omega) (by omega) U ?_)))));refine Qb U U<|Qf ?_;have c0:=Js (L:=L2) (y:={y with rd:=y.rd ||| (x.rd&&& ~~~y.wr)}) b3 b4 U (b6.pick [0,1,2,3,4,5,6,7,8,9,10,11,12,13,14] U)
       exact Q5 (L1:=[(0,_),(1,_),(5,_),(8,_),(9,_),(65,_),(66,_),(67,intV ((i+1:Nat):Int))]) (zb8 U U U U U U U U) (k1:=(QV ks).length -(i+1)) (by omega) ⟨i+1,_,_,by omega,rfl,(X3 (m:=n+2*c+2*(i+1)) (by omega) (c0.pick [1,0,3,4,5] U)).reorder [1,0,2,3,4] U,by omega,by rw[Us B];exact f.read z.nn r bw o a9 hT⟩
      have b7:x.rd=0#64:=zerW (Decidable.not_not.1 a8);refine Qt<|Qm<|Qc<|Qh [67,66,65,9,8,5,1,0] U<|Qa<|QE U U (by omega) (by omega) U ?_;refine Qb U U<|Qf ?_;have b8:=Js (L:=L1) (y:=x) f.tr r U (K.pick [0,1,2,3,4,5,6,7,8,9,10,11,12,13,14] U);rw[Hf f.tr r]at b8;exact Q5 (L1:=[(0,_),(1,_),(5,_),(8,_),(9,_),(65,_),(66,_),(67,intV ((i+1:Nat):Int))]) (zb8 U U U U U U U U) (k1:=(QV ks).length -(i+1)) (by omega) ⟨i+1,L1,V2,by omega,rfl,(X3 (m:=n+2*c+2*(i+1)) (by omega) (b8.pick [2,0,3,4,5] U)).reorder [1,0,2,3,4] U,by omega,by rw[Us B,qcb (ZW r) b7];exact f⟩
     refine QQ<|Qp<|Qp<|Qy ?_;have ae:i=(QV ks).length:=by omega
     rw[ae,List.take_length]at f;exact Hx (Vb U U U U U) ⟨L1,V2,rfl,(X3 (m:=n+4*c) (by omega) (T.pick [1,0,2,3,4] U)).reorder [1,0,2,3,4] U,by unfold comR;rw[if_neg (show ¬(ZR V t).parent=0 from Is)];exact f⟩
    have Is:t.parent=0:=Decidable.not_not.1 h9;refine Qt ?_;exact Hx (Vb U U U U U) ⟨L,V1,rfl,(X3 (m:=n+4*c) (by omega) (Q.pick [1,0,2,3,4] U)).reorder [1,0,2,3,4] U,by unfold comR;rw[if_pos (show(ZR V t).parent=0 from Is)];exact M⟩
   rintro _ w8 ⟨L1,V2,rfl,j8,f⟩;have a2:=SeI.comR (t:=ZR V t) (l:=(QV ks)) a0 o;refine Qe<|Qe ?_;have c1:=Zo (j8.pick [0,1,2,3,4] U);have b9:=W3 (c1.pick [3,0,1,2,4,5,6,7,8] U) f.tr;refine Qa<|Qb U U<|Qj U U<|Qg U Ko U<|Qo U Db (b9.cell 0 U U) U<|Qw AU U (kd_sp (b9.sp [] U) U) U ?_;rintro _ cl ⟨ck,rfl,af⟩;replace af:=af.jn U U;have hK:=Sat.fold (As:=[Q6 ck [.map (some t.md)],Q4 Xo t.md (YA t.dr)]) (af.pick [0,4,1,2,3,5,6,7,8,9,10,11,12,13] U);have a3:=hK.sp [0] U;refine Qw AV U (M9 a3 AG (itS ck t.md (YA t.dr)) (λks h=>by have :=hd ks h;omega)) U ?_;rintro _ co ⟨ns,ba,ah⟩;replace ah:=ah.jn U U;clear a3;clear hK;have ai:=(ah.pick [1,0,2,3,4,5,6,7,8,9,10,11,12,13] U).flat;dsimp only[Dg,Df]at ai;obtain⟨an,cn,c2,_⟩:=ai.own_shape 2 rfl;obtain rfl:=c2;have c3:=W4 f.tr (ai.pick [3,4,5,1,6,0,2,7,8,9,10,11,12,13,14] U);have c4:=Xq (L:=L1) (c3.pick [3,4,5,0,6,1,2,7,8,9,10] U);have cp:(Wk ns).length<=d:=by rw[Hc];exact hd _ (Came.of_all ba)
   have aj:=allS ba;refine Xl underlying83 U U<|Qb U U<|Qf<|Qc<|Qh [9,8,5,1,0,111,112,113] U<|Qx ?_;refine QU (λK0 E0 W0=> ∃(j:Nat) (L1:LvD) (V2:VS),K0=(Wk ns).length -j/\E0=[(0,ptrV b 0),(1,intV id),(5,ptrV t.ad 0),(8,.slice ar (QV ks).length cr),(9,.map (some mm)),(111,.slice an (Wk ns).length cn),(112,intV ((Wk ns).length:Int)),(113,intV (j:Int))]/\Sat W0 [WB b L1,ZP L1.sp (n+4*c+4*c*j) Fr V2,rowT kC (.slice ar (QV ks).length cr) (QV ks),Q4 X7 mm (Br made),rowT stC (.slice an (Wk ns).length cn) (Wk ns),F]/\(j<=(Wk ns).length)/\(CmI ex1 m L L1 V1 V2 id t (((Wk ns).take j).foldl (JU t.parent) (comR (QC L V) (ZR V t) (QV ks))))) (L0:=[(0,_),(1,_),(5,_),(8,_),(9,_),(111,_),(112,_),(113,_)]) ((Wk ns).length) (zb8 U U U U U U U U) ⟨0,L1,V2,by omega,rfl,c4.pick [0,3,4,5,2,6] U,by omega,f⟩ ?_;rintro _ _ cq ⟨j,L1,V2,rfl,rfl,H,hj,f⟩;have cs:4*c*j<=4*c*d:=Nat.mul_le_mul_left _ (by omega);refine Qe<|Qa<|Xa U U U<|Qf<|Qc<|Qe<|Qs U (λc5=> ?_) (λc5=> ?_)
   ·obtain⟨ob,ak⟩: ∃ob,(Wk ns)[j]? =some ob:=⟨_,XQ (by omega)⟩;refine Qt<|Qc<|Qe<|Qx<|Qe<|Qa<|Xj stC 4 j H U U U (by first | rfl | omega) ak VF U ?_
    intro bx34 capx34 al;refine Zh 4 j 0 H U al U U ak XT U U<|Qd U U<|Qf<|Qc<|Qh [113,112,111,9,8,5,1,0,16] U<|Qa<|Qb U U<|Qb U U<|Qj U U<|Qg U JR U<|Qo U QL (KW H 0 U f.tr 0 U) U<|Qb U U<|Qw AT U (qer (c:=2*c) (H.sp [0,1] U) (f.sz2 D hc) (by omega) f.inv z.nn (f.par (SeI.drops o ((Wk ns).take j) a2)) ob) U ?_;rintro _ ct ⟨L2,V3,hs,N,ho,am⟩;replace am:=am.jn U U;refine Qf<|Qm<|Qc<|Qh [113,112,111,9,8,5,1,0] U<|Qa<|QE U U (by omega) (by omega) U ?_;refine Qb U U<|Qf ?_;have bb:=f.step hs ho (λ_ q=>q.elim) o (N.trans (by rw[f.ab]));exact Q5 (L1:=[(0,_),(1,_),(5,_),(8,_),(9,_),(111,_),(112,_),(113,intV ((j+1:Nat):Int))]) (zb8 U U U U U U U U) (k1:=(Wk ns).length -(j+1)) (by omega) ⟨j+1,_,_,by omega,rfl,(X3 (m:=n+4*c+4*c*(j+1)) (by rw[Nat.mul_succ];omega) (am.pick [1,0,2,3,4,5] U)).reorder [1,0,2,3,4,5] U,by omega,by rw[Us ak];exact bb⟩
   refine QQ<|Qp<|Qp<|Qy<|Qc<|Qe<|Qe<|Qa<|Qb U U ?_
   first | refine Xl underlying163 U U ?_ | refine Wa 2 H underlying163 U U U ?_ | refine Wa 4 H underlying163 U U U ?_
   refine Qb U U<|Qf<|Qc<|Qh [9,5,1,0,125,126,127] U<|Qx ?_;have c6:j=(Wk ns).length:=by omega
   rw[c6,List.take_length]at f;have bc:=GvI.start (V0:=V) (made:=made) (A0:=(QC L V)) (order:=(QV ks)) f z.mx;have G:=SeI.drops o (Wk ns) a2;rw[List.nil_append]at G;have cf:4*c*j<=4*c*d:=Nat.mul_le_mul_left _ (by omega);have c7:=(X3 (m:=n+4*c+4*c*d+5*0) (by omega) (H.pick [1,0,2,3,5] U)).reorder [1,0,2,3,4] U;refine QU (λK0 E0 W0=> ∃(i:Nat) (L1:LvD) (V2:VS) (ex2:Int->Int),K0=(QV ks).length -i/\E0=[(0,ptrV b 0),(1,intV id),(5,ptrV t.ad 0),(9,.map (some mm)),(125,.slice ar (QV ks).length cr),(126,intV ((QV ks).length:Int)),(127,intV (i:Int))]/\Sat W0 [WB b L1,ZP L1.sp (n+4*c+4*c*d+5*i) Fr V2,rowT kC (.slice ar (QV ks).length cr) (QV ks),Q4 X7 mm (Br made),F]/\(i<=(QV ks).length)/\(GvI ex2 m L L1 V V1 V2 id t made (QC L V) ((Wk ns).foldl (JU t.parent) (comR (QC L V) (ZR V t) (QV ks))) (QV ks) i)) (L0:=[(0,_),(1,_),(5,_),(9,_),(125,_),(126,_),(127,_)]) ((QV ks).length) (Cb U U U U U U U) ⟨0,L1,V2,ex1,by omega,rfl,c7.pick [0,1,2,3,4] U,by omega,bc⟩ ?_;rintro _ _ cu ⟨i,L1,V2,ex2,rfl,rfl,X,hi,a⟩;refine Qe<|Qa<|Xa U U U<|Qf<|Qc<|Qe<|Qs U (λc8=> ?_) (λc8=> ?_)
   ·obtain⟨k,B⟩: ∃k,(QV ks)[i]? =some k:=⟨_,XQ (by omega)⟩;obtain⟨x,r⟩: ∃x,t.lv k=some x:=Option.ne_none_iff_exists'.1 ((E k).1 (List.mem_of_getElem? B));refine Qt<|Qc<|Qe<|Qx<|Qe<|Qa<|Xj kC 2 i X U U U (by first | rfl | omega) B Ku U ?_
    intro bx38 capx38 ao;refine Wq 2 i X U ao U B Xu Xb U U<|Xc X Wo U U ?_;intro kb wk39 a4;refine QW a4 U U Xb U (by rfl) (i:=0) U (by decide) ?_;intro wk40 J;dsimp only[List.set]at J;clear a4;replace J:=Zr (k:=k) J;refine Qf<|Qc<|Qh [127,126,125,9,5,1,0,18] U<|Qe ?_;have c9:=YL a.cm.tr r (J.pick [1,0,2,3,4,5] U);have p:=c9.drew;refine Q7 [0,1,2,3,4,5,6] [] Z9 (by kernel_rfl) ?_;refine Q3 U U U<|QP U U U<|QG U U U Wu<|Q0 U U U (Ql U Jv (p.cell 2 U U))<|Q0 U U U (X5 U Xu Xb (p.blk 10 U) (Xk U) U)<|Q0 U U U (X4 (k:=k) 3 p keysKey underlying145 U U U Ht (u:=ptrV x.ad 0) (XH r))<|Zd U U U (VC.nil (Qc (Qh [127,126,125,9,5,1,0,18,19] U (Qe (Qa (Qb U U (Qj U U (Qg U Wt U (Qo U Ju (p.cell 0 U U) U (Xz U U U (Qf (Qc (Qh [127,126,125,9,5,1,0,18,19,141] U (Qs U (λap=> ?_) (λap=> ?_)))))))))))))))
    ·have hw:x.wr≠0#64:= λe=>ap (by rw[e];rfl);refine Qe<|Qa<|Qb U U ?_;refine XX U Xu Xb (by first | exact p.blk 0 U | exact p.blk 2 U | exact p.blk 6 U | exact p.blk 10 U) (by first | decide | exact Xk U | (simp;done) | omega) U U ?_
     rcases C:made k with _ | s
     ·refine Xn (k:=k) 13 p keysKey underlying140 U U U Ul (u:=intV 0) (g:=false) (by unfold Br;rw[C];rfl) (by unfold Br;rw[C];rfl) U ?_;refine Qb U U<|Qr U U U<|Qr U U U<|Qd U U<|Qd U U<|Qf<|Qc<|Qh [127,126,125,9,5,1,0,18,19,20,21] U<|Qe<|Qe<|Qa<|Qb U U<|QX U U<|Qf<|Qc<|QR U (λbd=> ?_) (λbd=> ?_)
      ·refine Qe<|Qa<|Qb U U<|Qj U U<|Qg U WP U<|Qo U QL (p.cell 0 U U) U<|Qd U U<|Qf<|Qc<|Qh [127,126,125,9,5,1,0,18,19,20] U<|Qa<|Qb U U<|Qb U U<|Qw Bd U (S7 (p.sp [6,9,11] U) (by omega) x.own) U ?_;rintro _ cv ⟨rfl,aq⟩;replace aq:=aq.jn U U;refine Qf<|Qc<|Qh [127,126,125,9,5,1,0,18,19,20] U ?_;have be:=Js (L:={L1 with sh:=YW L1.sh x.own}) (y:=x) a.cm.tr r U (aq.pick [3,4,5,6,7,8,0,9,10,1,2,11,12,13,14] U)
       rw[Hf (L:={L1 with sh:=YW L1.sh x.own}) a.cm.tr r]at be
       have O:k.1∈(Wk ns)->x.wr=BitVec.allOnes 64:= λq=>ax id _ k _ (Z1 D) ((aj _).1 q) (ZW r);have P:=a.cm.par (SeI.gives o ((QV ks).take i) G);have Y:=be.drew;refine Q7 [0,1,2,3,4,5,6,7,8,9,10,11] [11] Z9 (by kernel_rfl) ?_;refine Q3 U U U<|Q3 U U U<|QP U U U<|QG U U U JR<|Q0 U U U (Ql U QL (KW Y 0 U a.cm.tr 0 U))<|Q0 U U U (X5 U Xu Xb (by first | exact Y.blk 2 U) (Xk U) U) ?_
       refine Q3 U U U<|Q3 U U U<|QP U U U<|QG U U U Wt<|Q0 U U U (Ql U Ju (SH Y 0 U a.cm.tr r 3 U))<|QO U U U U U U ?_;have hr:=a.cm.ref (a.own_alive r) (YW L1.sh x.own);have ca:NN (λj=>ex2 j+dl x.own j):=nn_add a.nn;have bf:=(YF (V:=V2) (s:=x.own) (j:=x.own)).trans (a.con_own z R D B r hw C);refine Qw AS U (SW (Y.sp [0,1] U) (by omega) hr.inv ca hm P (λh0=>by have :=a.nn x.own h0;show 1<=ex2 x.own+dl x.own x.own;rw[WE];omega) k x.wr (λh0=>a.ag R G o B A O (hr.ab.trans a.cm.ab.symm) bf h0)) U ?_;rintro _ cw ⟨L2,V3,hs,N,ho,au⟩;replace au:=au.jn U U;refine Xh (Xd (by kernel_rfl)) ?_;refine VC.nil (Qm (Qc (Qh [127,126,125,9,5,1,0] U (Qa (QE U U (by omega) (by omega) U ?_)))));refine Qb U U<|Qf ?_;exact Q5 (L1:=[(0,_),(1,_),(5,_),(9,_),(125,_),(126,_),(127,intV ((i+1:Nat):Int))]) (Cb U U U U U U U) (k1:=(QV ks).length -(i+1)) (by omega) ⟨i+1,_,_,_,by omega,rfl,(X3 (m:=n+4*c+4*c*d+5*(i+1)) (by omega) (au.pick [1,0,3,4,5] U)).reorder [1,0,2,3,4] U,by omega,a.own_next z R o D B A r hw C hs N ho⟩
      exact absurd bd (by decide)
     refine Xn (k:=k) 13 p keysKey underlying140 U U U Ul (u:=intV s) (g:=true) (by unfold Br;rw[C];rfl) (by unfold Br;rw[C];rfl) U ?_;refine Qb U U<|Qr U U U<|Qr U U U<|Qd U U<|Qd U U<|Qf<|Qc<|Qh [127,126,125,9,5,1,0,18,19,20,21] U<|Qe<|Qe<|Qa<|Qb U U<|QX U U<|Qf<|Qc<|QR U (λbg=> ?_) (λbg=> ?_)
     ·exact absurd bg (by decide)
     refine Qt<|Qc<|Qh [127,126,125,9,5,1,0,18,19,20] U ?_;have bh:=Js (L:=L1) (y:=x) a.cm.tr r U (p.pick [0,1,2,3,4,5,6,7,8,9,10,11,12,13,14] U);rw[Hf a.cm.tr r]at bh;have O:k.1∈(Wk ns)->x.wr=BitVec.allOnes 64:= λq=>ax id _ k _ (Z1 D) ((aj _).1 q) (ZW r);have P:=a.cm.par (SeI.gives o ((QV ks).take i) G);have Z:=bh.drew;refine Q7 [0,1,2,3,4,5,6,7,8,9,10,11] [11] Z9 (by kernel_rfl) ?_;refine Q3 U U U<|Q3 U U U<|QP U U U<|QG U U U JR<|Q0 U U U (Ql U QL (KW Z 0 U a.cm.tr 0 U))<|Q0 U U U (X5 U Xu Xb (by first | exact Z.blk 1 U) (Xk U) U) ?_
     refine Q3 U U U<|Q3 U U U<|QP U U U<|QG U U U Wt<|Q0 U U U (Ql U Ju (SH Z 0 U a.cm.tr r 3 U))<|QO U U U U U U ?_;refine Qw AS U (SW (Z.sp [0,2] U) (by omega) a.cm.inv a.nn hm P (λh0=>a.ge B A C h0) k x.wr (λh0=>a.ag R G o B A O U (a.con_made z R B A r C) h0)) U ?_;rintro _ cx ⟨L2,V3,hs,N,ho,av⟩;replace av:=av.jn U U;refine Xh (Xd (by kernel_rfl)) ?_;refine VC.nil (Qm (Qc (Qh [127,126,125,9,5,1,0] U (Qa (QE U U (by omega) (by omega) U ?_)))));refine Qb U U<|Qf ?_;exact Q5 (L1:=[(0,_),(1,_),(5,_),(9,_),(125,_),(126,_),(127,intV ((i+1:Nat):Int))]) (Cb U U U U U U U) (k1:=(QV ks).length -(i+1)) (by omega) ⟨i+1,_,_,_,by omega,rfl,(X3 (m:=n+4*c+4*c*d+5*(i+1)) (by omega) (av.pick [1,0,3,4,5] U)).reorder [1,0,2,3,4] U,by omega,a.made_next z R o B A r hw C hs N ho⟩
    have cb:x.wr=0#64:=zerW (Decidable.not_not.1 ap);refine Qt<|Qm<|Qc<|Qa<|QE U U (by omega) (by omega) U ?_;refine Qb U U<|Qf ?_;have bi:=Js (L:=L1) (y:=x) a.cm.tr r U (p.pick [0,1,2,3,4,5,6,7,8,9,10,11,12,13,14] U);rw[Hf a.cm.tr r]at bi;exact Q5 (L1:=[(0,_),(1,_),(5,_),(9,_),(125,_),(126,_),(127,intV ((i+1:Nat):Int))]) (Cb U U U U U U U) (k1:=(QV ks).length -(i+1)) (by omega) ⟨i+1,L1,V2,_,by omega,rfl,(X3 (m:=n+4*c+4*c*d+5*(i+1)) (by omega) (bi.pick [2,0,3,4,5] U)).reorder [1,0,2,3,4] U,by omega,a.skip z B A r cb⟩
   refine QQ<|Qp<|Qp<|Qy<|Qc<|Qe ?_;have ae:i=(QV ks).length:=by omega
   rw[ae]at a;have bj:=a.fin (λk B=>((z.dom k).1 B).1);refine Qa<|Qb U U<|Qb U U<|Qw qfg U (CW (c:=2*c) (ex:= λ_=>0) (X.sp [0,1] U) (a.cm.sz2 D hc) (by omega) bj (λ_ _=>Int.le_refl _) a.cm.tr (a.cm.noch a5)) U ?_;rintro _ cy ⟨L3,V4,cc,bk,cd,ce,aw⟩;replace aw:=aw.jn U U;exact Qf (Qc (NF (L':=[]) .nil (Qe (Qa (Qd U U (Qf (Qc (Qu (QJ (.inr U) U U (⟨_,rfl,L3,V4,.inl ⟨rfl,gv_end R D z a E A aj cc bk cd ce⟩,(X3 (m:=n+(16*c+4*c*d)) (by omega) (aw.pick [1,0,4] U)).reorder [1,0,2] U⟩))))))))))
  refine⟨_,U, ?_⟩;replace Q:=Q.jn U U;refine Qb U U<|Qr U U U<|Qr U U U<|Qd U U<|Qd U U<|Qf<|Qc<|Qh [5,1,0,8,9,10] U<|Qe<|Qe<|Qa<|Qb U U<|Xz U U U<|Qf<|Qc<|Qs U (λbl=> ?_) (λbl=> ?_)
  ·exact Qe (Qa (Qb U U (Qd U U (Qf (Qc (Qu (Qq (QJ (.inr U) U U (⟨_,rfl,L,V1,.inr ⟨rfl,rfl,(QV ks),E,A,bs,b0,bt,b1⟩,(X3 (m:=n+(16*c+4*c*d)) (by omega) (Q.pick [1,0,3] U)).reorder [1,0,2] U⟩)))))))))
  exact absurd (by decide) bl
 dsimp only[List.set]at S;obtain⟨u,hu,rfl⟩:=E8 az;refine Qr U U U<|Qf<|Qc<|Qe<|Xm U<|Qt<|Qc<|Qx<|Qe<|Qa<|Jc 2 S U az U U<|Qr U U U<|Qd U U<|Qf<|Qc<|Qe<|Qa<|Qb U U<|Qj U U<|Qg U JR U<|Qo U QL ((W3 (S.pull 3 U) hu).cell 0 U U) U<|Qb U U<|Xg U U U<|Qf<|Qc<|Qh [34,5,1,0,44] U<|Qs U (λbm=> ?_) (λbm=> ?_)
 ·exact absurd bm (a5 _ _ hu)
 exact Qt (Qm (Q5 (L1:=[(0,_),(1,_),(5,_),(34,_)]) (Rs U U U U) (k1:=left2) (by omega) ⟨_,_,_,rfl,rfl,S.pick [0,1,2,3,4,5,6] U⟩))
def qe1 (A:LvA) (t:TrA) (k:KD):Bs:= match t.lv k with
  | some x=> if x.wr=0#64 then(if t.dr k.1=true then zer else A.pres k)else Ca (A.pres k) x.own x.wr
  | none=> if t.dr k.1=true then zer else A.pres k
theorem LvA.eq2 {B:LvA} (a:A.pres=B.pres) (b:A.tr=B.tr):A=B:=by cases A;cases B;simp at a b;subst a;subst b;rfl
theorem RH:WY A 0 k=A.pres k:=by unfold WY;rw[YE,if_pos U]
theorem gvS0_tr:(DR A0 0 t A j).tr=A.tr:=by
  unfold DR;cases t.lv j with
  | none=>rfl
  | some x=>
    dsimp only;by_cases q:x.wr=0#64
    · rw[if_pos q]
    · rw[if_neg q,if_pos U]
theorem Iu (h:k≠j):(DR A0 0 t A j).pres k=A.pres k:=by
  unfold DR;cases t.lv j with
  | none=>rfl
  | some x=>
    dsimp only;by_cases q:x.wr=0#64
    · rw[if_pos q]
    · rw[if_neg q,if_pos U];exact Zk h
theorem Nt {A0:LvA} {t:TrA}: ∀(l:List KD) (A:LvA),l.Nodup->(l.foldl (DR A0 0 t) A).tr=A.tr/\ ∀k,(l.foldl (DR A0 0 t) A).pres k= if k∈l then(match t.lv k with | none=>A.pres k | some x=> if x.wr=0#64 then A.pres k else D6 A0 0 k x)else A.pres k
  | [],A,_=>⟨rfl,λk=>by simp⟩
  | j::l,A,c=>by
    obtain⟨d,c⟩:=List.nodup_cons.1 c;obtain⟨a,b⟩:=Nt (A0:=A0) (t:=t) l (DR A0 0 t A j) c;refine⟨a.trans gvS0_tr,λk=> ?_⟩;show(l.foldl (DR A0 0 t) (DR A0 0 t A j)).pres k=_;rw[b k];by_cases e:k=j
    · subst e;rw[if_neg d,if_pos List.mem_cons_self];unfold DR;cases t.lv k with
      | none=>rfl
      | some x=>
        dsimp only;by_cases q:x.wr=0#64
        · rw[if_pos q,if_pos q]
        · rw[if_neg q,if_neg q,if_pos U];exact XO
    · rw[Iu e];by_cases q:k∈l
      · rw[if_pos q,if_pos (List.mem_cons_of_mem _ q)]
      · rw[if_neg q,if_neg (by simp [e,q])]
theorem T7: ∀(l:List Bs) (A:LvA),(l.foldl (JU 0) A).tr=A.tr/\ ∀k,(l.foldl (JU 0) A).pres k= if k.1∈l then zer else A.pres k
  | [],A=>⟨rfl,λk=>by simp⟩
  | ob::l,A=>by
    obtain⟨a,b⟩:=T7 l (JU 0 A ob);have c:(JU 0 A ob).tr=A.tr:=by unfold JU;rw[if_pos U];rfl
    refine⟨a.trans c,λk=> ?_⟩;show(l.foldl (JU 0) (JU 0 A ob)).pres k=_;rw[b k]
    have d:(JU 0 A ob).pres k= if k.1=ob then zer else A.pres k:=by
      unfold JU;rw[if_pos U];show WM (λj:KD=>j.1=ob) zer A.pres k=_;unfold WM;by_cases e:k.1=ob
      · rw[if_pos e,if_pos e]
      · rw[if_neg e,if_neg e]
    rw[d];by_cases q:k.1∈l
    · rw[if_pos q,if_pos (List.mem_cons_of_mem _ q)]
    · rw[if_neg q];by_cases e:k.1=ob
      · rw[if_pos e,if_pos (by simp [e])]
      · rw[if_neg e,if_neg (by simp [e,q])]
theorem IP (i:t.parent=0) (j:order.Nodup) (g: ∀k,k∈order↔t.lv k≠none) (f: ∀ob,ob∈obs↔t.dr ob=true):
    DA A id t order obs=⟨qe1 A t,QN A.tr id none⟩:=by
  obtain⟨a,b⟩:=Nt (A0:=A) (t:=t) order (obs.foldl (JU 0) A) j;obtain⟨c,d⟩:=T7 obs A;unfold DA;rw[i,if_pos U];apply LvA.eq2
  · funext k;show(order.foldl (DR A 0 t) (obs.foldl (JU 0) A)).pres k=qe1 A t k;rw[b k,d k];unfold qe1;cases q:t.lv k with
    | none=>
      rw[if_neg (by rw[g,q];simp)];by_cases e:t.dr k.1=true
      · rw[if_pos ((f _).2 e),if_pos e]
      · rw[if_neg (λh=>e ((f _).1 h)),if_neg e]
    | some x=>
      rw[if_pos ((g k).2 (by rw[q];simp))];dsimp only;by_cases w:x.wr=0#64
      · rw[if_pos w,if_pos w];by_cases e:t.dr k.1=true
        · rw[if_pos ((f _).2 e),if_pos e]
        · rw[if_neg (λh=>e ((f _).1 h)),if_neg e]
      · rw[if_neg w,if_neg w];unfold D6;rw[RH]
  · show QN (order.foldl (DR A 0 t) (obs.foldl (JU 0) A)).tr id none=QN A.tr id none;rw[a,c]
def LsP (p m c e:Nat) (A:LvA) (L:LvD) (V:VS):Prop:=L.sp=p/\LvI m L V/\QC L V=A/\AliveLe V c/\SzLe L e
def D7 (b p n m c e:Nat) (A:LvA) (G:(KD->Int)->Prop):Th:=Cp λL=>Cp λV=>starL [WH (LsP p m c e A L V/\G L.pres),WB b L,ZP L.sp n (default:SlW).f V]
abbrev lsT (b p n m c e:Nat) (A:LvA):Th:=D7 b p n m c e A λ_=>True
section
variable {w:World} {b p n m c e:Nat} {A:LvA} {As:List Th}
theorem Jf (h:Sat w (D7 b p n m c e A G::As)): ∃L V,LsP p m c e A L V/\G L.pres/\Sat w (WB b L::ZP L.sp n (default:SlW).f V::As):=by
  obtain⟨L,h⟩:=h.ex;obtain⟨V,h⟩:=h.ex;have h:=h.flat;dsimp only[Dg,Df]at h;obtain⟨⟨a,d⟩,h⟩:=h.pure_elim;exact⟨L,V,a,d,h⟩
theorem Ki (h:Sat w (lsT b p n m c e A::As)): ∃L V,LsP p m c e A L V/\Sat w (WB b L::ZP L.sp n (default:SlW).f V::As):=by
  obtain⟨L,V,a,_,c⟩:=Jf h;exact⟨L,V,a,c⟩
theorem Je (a:LsP p m c e A L V) (d:G L.pres) (h:Sat w (WB b L::ZP L.sp n (default:SlW).f V::As)):Sat w (D7 b p n m c e A G::As):=
  Sat.ex_intro L (Sat.ex_intro V (Sat.fold (As:=[WH (LsP p m c e A L V/\G L.pres),WB b L,ZP L.sp n (default:SlW).f V]) (Sat.pure_intro ⟨a,d⟩ h)))
theorem UI (a:LsP p m c e A L V) (h:Sat w (WB b L::ZP L.sp n (default:SlW).f V::As)):Sat w (lsT b p n m c e A::As):=Je a trivial h
theorem U6 {n' m' c' e':Nat} (f:n<=n') (g:m<=m') (j:c<=c') (k:e<=e') (h:Sat w (D7 b p n m c e A G::As)):Sat w (D7 b p n' m' c' e' A G::As):=by
  obtain⟨L,V,⟨l,d,o,q,s⟩,t,h⟩:=Jf h;have u:LvI m' L V:=⟨d.ref,(by obtain⟨v,r,a,b⟩:=d.rank;exact⟨v,r,λi=>Nat.le_trans (a i) g,b⟩),d.agree⟩;exact Je ⟨l,u,o,q.mono j,s.mono k⟩ t ((X3 f (h.perm (List.Perm.swap _ _ _))).perm (List.Perm.swap _ _ _))
end
def VA (A:LvA) (t:TrA):Prop:= ∀k x,t.lv k=some x-> ∀j,j<64->x.rd.getLsbD j=true->x.base[j]? =(WY A t.parent k)[j]?
theorem VA_iff {t:TrD} (e:LvI m L V):(∀k x,t.lv k=some x->VK L V t k x)↔VA (QC L V) (ZR V t):=by
  constructor
  · intro h k y a j c d;cases q:t.lv k with
    | none=> rw[K9 q]at a;cases a
    | some x=>
      rw[ZW q]at a;cases a;have b:=h k x q j c d;rw[e.sees]at b;exact b
  · intro h k x f j c d;have b:=h k _ (ZW f) j c d;rw[e.sees];exact b
theorem qc8 {F:Th} (d:Sat w [D7 b p n m c e A G,F]) (r:n<=60000000000) (s:m<ZO) (id parent:Int):
    Calls prog 93 #[ptrV b 0,intV id,intV parent] w (Ret λv w'=>v=intV (FH A id parent)/\Sat w' [D7 b p n (m+1) c e (K5 A id parent) G,F]):=by
  obtain⟨L,V,⟨g,i,rfl,j,k⟩,l,o⟩:=Jf d;refine(begI_sp o i id parent).mono λew w h=>h.mono λv w h=> ?_;obtain⟨L',rfl,a,q,f,d⟩:=h;exact⟨rfl,Je ⟨a.sp.trans g,a.inv,q,a.al _ j,a.sz _ k⟩ (by rw[f];exact l) d⟩
theorem Tb {F:Th} (f:Sat w [D7 b p n m c e A G,F]) (g:n<=60000000000) (i:m<ZO) (ob:Bs) (a:Int) (j:0<=a/\a<16384):
    Calls prog 51 #[ptrV b 0,intV 0,strV ob,intV a] w (Ret λv w'=>v=XV (btA (A.pres (ob,a/ 64)) (a%64))/\Sat w' [D7 b p n m c e A G,F]):=by
  obtain⟨L,V,⟨k,d,rfl,l,o⟩,q,r⟩:=Jf f;refine(qab r g ob a d i j).mono λew w h=>h.mono λv w h=> ?_;exact⟨h.1,Je ⟨k,d,U,l,o⟩ q h.2⟩
theorem qc7 {F:Th} (f:Sat w [D7 b p n m c e A G,F]) (j:n<=60000000000) (k:m<ZO) (l:A.tr id=some tA) (ob:Bs) (a:Int) (o:0<=a/\a<16384):
    Calls prog 51 #[ptrV b 0,intV id,strV ob,intV a] w (Ret λv w'=>v=XV (btA (Z6 A id (ob,a/ 64)).own (a%64))/\Sat w' [D7 b p (n+2) m c (e+1) (Wj A id (ob,a/ 64) (rdX (Z6 A id (ob,a/ 64)) (a%64))) G,F]):=by
  obtain⟨L,V,⟨q,r,rfl,s,u⟩,x,y⟩:=Jf f;obtain⟨t,g,rfl⟩:=U3 l;refine(qaa y j ob a r k g o).mono λew w h=>h.mono λv w h=> ?_;obtain⟨L',V',rfl,d,z,i,f⟩:=h;exact⟨rfl,Je ⟨d.sp.trans q,d.inv,z,d.al _ s,d.sz _ u⟩ (by rw[i];exact x) f⟩
theorem qc6 {F:Th} (g:Sat w [lsT b p n m c e A,F]) (j:n<=60000000000) (k:m<ZO) (y:c+1<(default:SlW).f) (ob:Bs) (a:Int) (bt:UInt8) (l:0<=a/\a<16384):
    Calls prog 49 #[ptrV b 0,intV 0,strV ob,intV a,XV bt] w (Ret λv w'=>v=intV 0/\Sat w' [lsT b p (n+5) m (c+1) (e+1) (wrP A (ob,a/ 64) (a%64) bt),F]):=by
  obtain⟨L,V,⟨o,q,rfl,i,r⟩,s⟩:=Ki g;refine(qbx s j ob a bt q k l).mono λew w h=>h.mono λv w h=> ?_;obtain⟨L',V',er,rfl,d,t,g⟩:=h;rcases t with⟨rfl,u⟩ | ⟨_,_,x⟩
  · exact⟨U,UI ⟨d.sp.trans o,d.inv,u,d.al _ i,d.sz _ r⟩ g⟩
  · have :=x c i;omega
theorem SJ {F:Th} (g:Sat w [D7 b p n m c e A G,F]) (l:n<=60000000000) (o:m<ZO) (q:A.tr id=some tA) (E:c+1<(default:SlW).f) (ob:Bs) (a:Int) (bt:UInt8) (r:0<=a/\a<16384):
    Calls prog 49 #[ptrV b 0,intV id,strV ob,intV a,XV bt] w (Ret λv w'=>v=intV 0/\Sat w' [D7 b p (n+5) m (c+1) (e+1) (Wj A id (ob,a/ 64) (wrX (Z6 A id (ob,a/ 64)) (a%64) bt)) G,F]):=by
  obtain⟨L,V,⟨s,u,rfl,k,x⟩,y,z⟩:=Jf g;obtain⟨t,i,rfl⟩:=U3 q;refine(qbw z l ob a bt u o i r).mono λew w h=>h.mono λv w h=> ?_;obtain⟨L',V',er,rfl,d,B,j,g⟩:=h;rcases B with⟨rfl,C⟩ | ⟨_,_,D⟩
  · exact⟨rfl,Je ⟨d.sp.trans s,d.inv,C,d.al _ k,d.sz _ x⟩ (by rw[j];exact y) g⟩
  · have :=D c k;omega
theorem SI {F:Th} (a:Sat w [lsT b p n m c e A,F]) (g:n<=60000000000) (i:m<ZO) (j:Ent F GT) (k:A.tr id=some tA):
    Calls prog 105 #[ptrV b 0,intV id] w (Ret λv w'=> ∃r:Bool,v= .bool r/\(r=true↔VA A tA)/\Sat w' [lsT b p n m c e A,F]):=by
  obtain⟨L,V,⟨l,d,rfl,o,q⟩,s⟩:=Ki a;obtain⟨t,f,rfl⟩:=U3 k;refine(O5 s g d i j f).mono λew w h=>h.mono λv w h=> ?_;obtain⟨r,rfl,u,a⟩:=h;exact⟨r,U,u.trans (VA_iff d),UI ⟨l,d,U,o,q⟩ a⟩
