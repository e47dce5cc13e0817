/- trials: List, Children, Trial -/
import Derived.Test.YtkgjmhcdacidoaaGreatDoorCe9
import Derived.Test.YtkgjmhcdacidoaaGreatDoorLv1
set_option linter.unusedSectionVars false
set_option linter.unusedVariables false
set_option maxRecDepth 100000
set_option maxHeartbeats 80000000000
namespace Go.Proofs.YtkgjmhcdacidoaaGreatDoor
open Go.RowKit M Proofs.Tryz
variable [Inhabited SlW]
theorem kn_it {w:World} {l c b:Nat} {g:Int→Option Value} {J:List Int→Th} {F:Th} (hS:Sat w [J [],QC c [.map (some b)],Q4 QX b g,F]) (hY:HW prog l QX (okC g) J):
    Calls prog 72 #[.func (.yield l) #[] #[],ptrV c 0] w (Ret fun v w'=> ∃ks,AllC g ks∧Sat w' [J ks,QC c [.map (some b)],Q4 QX b g,F]):= by
 refine Qm func72 U ntmps72 U ?_
 refine Qe (Qa (Qn U WT (by first | assumption | exact hS.cell 1 U U) U ?_))
 refine JU 2 hS underlying58 U U U ?_
 intro RR left0 wR hSR; dsimp only[List.set]at hSR
 refine Qf (Qc (Qz (Xh (fun K0 E0 W0=> ∃(dn:Int→Prop) (cur:Option Int) (left:Nat) (ks:List Int),K0=1*left∧E0=[(0,.func (.yield l) #[] #[]),(5,ptrV RR 0)]∧Sat W0 [J ks,J7 QX b RR g dn cur left,QC c [.map (some b)],F]∧(CSt g dn ks)) (L0:=[(0,_),(5,_)]) (1*left0) (D5 U U) ⟨_,_,_,_,rfl,rfl,hSR.reorder [0,2,1,3] U,CSt.start g⟩ ?_)))
 rintro _ _ w1 ⟨dn,cur,left,ks,rfl,rfl,j1,hcs⟩
 refine Qe (Qa (YS 1 j1 keysInt.inj U U U (fun hdone=> ?_) (fun k v left2 w2 hleft hgk hnd j2=> ?_)))
 ·refine Qp U U U (Qf (Qc (Qe (QW U (Xc (Qs (Qs (Q3 (ZT (.inl U) U ?_)))))))))
  exact⟨_,rfl,ks,hcs.all hdone, by have hSz:=WX (j1.reorder [1,0,2,3] U); exact hSz.reorder [1,2,0,3] U⟩
 dsimp only[List.set]at j2
 refine Qp U U U (Qf (Qc (Qe (X3 U (Qt (Qc (Qz (Qe (Qa (YA 1 j2 U hgk U U (Qp U U U (Qd U U (Qf (Qc (Qe (Js (X1 U (XH U) (X1 U (XH U) (U5 U U U (hY _ _ _ _ (hcs.ok hnd hgk) (j2.sp [0] U)) ?_)))))))))))))))))))
 intro w5 j5; replace j5:=j5.jn U U
 refine X1 U (HQ U) (HA (Qc (Qh [5,0,13] U (QW U (Qt (Qo ?_))))))
 have hSz:=j5.reorder [0,1,2,3] U; dsimp only[Ho,Vu]at hSz
 exact Q8 (L1:=[(0,_),(5,_)]) (D5 U U) (k1:=1*left2) (by omega) ⟨_,_,_,_,rfl,rfl,hSz,hcs.step hnd hgk⟩
theorem kn_sp {w:World} {v0:Value} {F:Th} (hS:Sat w [F]) (h0:v0.oneCell'=true):
    Calls prog 34 #[v0] w (Ret fun v w'=> ∃c,v= .func (.func 72) #[] #[ptrV c 0]∧Sat w' [QC c v0.cells.toList,F]):= by
 refine Qm func34 U ntmps34 U ?_
 refine Qe (Qa (XV hS U U U ?_))
 intro b1 w1 j1
 exact Qd U U (Qf (Qc (Qe (Qa (ZA U U (Qd U U (Qf (Qc (Qv (QM (.inr U) U U (⟨_,U,_,U,j1⟩)))))))))))
theorem itKN (c b:Nat) (g:Int→Option Value):ItI g 72 [ptrV c 0] (La c b g):= fun l J X w hS hY=> by
  have h1:=(hS.perm (List.Perm.swap _ _ _)).flat; dsimp only[M8,M7]at h1
  refine(kn_it (h1.reorder [2,0,1,3] U) hY).mono fun e w' h=>h.mono fun v w' ⟨ks,h2,h3⟩=>⟨ks,h2, ?_⟩
  exact(Sat.fold (As:=[QC c [.map (some b)],Q4 QX b g]) (h3.reorder [1,2,0,3] U)).perm (List.Perm.swap _ _ _)
theorem ndG_no {T:Nodes} (i:Int):UZ T i=none↔T i=none:= by unfold UZ; cases T i<;> simp
theorem FJ {T:Nodes} (i:Int):UZ T i≠none↔T i≠none:= by unfold UZ; cases T i<;> simp
theorem list_tr {w:World} {a:TrAd} {T:Nodes} {last:Int} {F:Th} (hS:Sat w [ZQ a T last,F]) {ids:List Int} (hF:FewT T ids):
    Calls prog 17 #[ptrV a.t 0] w (Ret fun v w'=>Sat w' [rowT trC v (ZV T ids),ZQ a T last,F]):= by
 replace hS:=Zn hS
 refine Qm func17 U ntmps17 U ?_
 refine Qe (Qa (Qd U U (Qf (Qc (Qe (Qa (Qd U U (Qf (Qc (Qe (Qe (Qa (Qb U U (Qi U U (Qg U ZW U (Qn U WT (by first | assumption | exact hS.cell 0 U U) U ?_))))))))))))))))
 refine Qy cal_34 U (kn_sp (hS.sp [] U) U) U ?_
 rintro _ w1 ⟨ck,rfl,j1⟩
 replace j1:=j1.jn U U
 have hK:=Sat.fold (As:=[QC ck [.map (some a.mt)],Q4 QX a.mt (UZ T)]) (j1.pick [0,2,1,3] U)
 have hC2:=hK.sp [0] U
 refine Qy cal_33 U (Cy hC2 cal_72 (itKN ck a.mt (UZ T)) (fun ks hk=> by have :=hF.came (fun i=>(FJ i).1) hk;omega)) U ?_
 rintro _ w2 ⟨ks,hks,j2⟩
 replace j2:=j2.jn U U; clear hC2
 clear hK
 have hz:=(j2.pick [1,0,2,3] U).flat; dsimp only[La,M8,M7]at hz
 have j3:=X7 (T:=T) (last:=last) (hz.pick [3,1,0,2,4] U)
 obtain⟨ar,cr,hvr,_⟩:=j3.own_shape 2 rfl; obtain rfl:=hvr
 have hkl:(ZO ks).length≤41:= by rw[Y5]; exact hF.came (fun i=>(FJ i).1) (Came.of_all hks)
 have hli:=FT hF (g:=UZ T) ndG_no hks
 first | refine XK underlying22 U U ?_ | refine XG 2 j3 underlying22 U U U ?_
 refine Qb U U (Qf (Qc (Qh [0,2,3,11,12,13] U (Qz ?_))))
 have hrn:=(j3.pick [0,1,2,3] U).row_nil trC
 refine Xh (fun K0 E0 W0=> ∃(q:Nat) (ov:Value),K0=(ZO ks).length -q∧E0=[(0,ptrV a.t 0),(3,ov),(11,.slice ar (ZO ks).length cr),(12,intV ((ZO ks).length:Int)),(13,intV (q:Int))]∧Sat W0 [ZQ a T last,rowT inC (.slice ar (ZO ks).length cr) (ZO ks),rowT trC ov ((((ZO ks).take q).filter (fun n=> !decide (n=0))).map (nd T)),F]∧(q≤(ZO ks).length)) (L0:=[(0,_),(3,_),(11,_),(12,_),(13,_)]) ((ZO ks).length) (Ub U U U U U) ⟨0,_,rfl,rfl,hrn.pick [1,3,0,4] U, by omega⟩ ?_
 rintro _ _ w4 ⟨q,ov,rfl,rfl,j4,hi⟩
 have hml:((((ZO ks).take q).filter (fun n=> !decide (n=0))).map (nd T)).length≤41:= by rw[List.length_map]; exact Nat.le_trans (List.length_filter_le _ _) (Nat.le_trans (List.take_sublist _ _).length_le hkl)
 refine Qe (Qa (Xk U U U (Qf (Qc (Qe (Qu U (fun h5=> ?_) (fun h5=> ?_)))))))
 ·obtain⟨k,hk⟩: ∃k,(ZO ks)[q]? =some k:=⟨_,Zk (by omega)⟩
  refine Qt (Qc (Qe (Qz (Qe (Qa (Xg inC 1 q j4 U U U (by first | rfl | omega) hk Ku U ?_))))))
  intro bx6 capx6 hvx6
  refine ZG 1 q 0 j4 U hvx6 U U hk QO U U (Qd U U (Qf (Qc (Qe (Qa (Qb U U (Xn U U U (Qf (Qc (Qh [13,12,11,3,0,5,18] U (Qu U (fun h7=> ?_) (fun h7=> ?_))))))))))))
  ·have hv: ¬k=0:=h7
   have j8:=Zn (j4.pick [0,1,2,3] U)
   refine Qa (Qb U U (Qb U U (Qi U U (Qg U ZW U (Qn U WT (by first | assumption | exact j8.cell 0 U U) U ?_)))))
   refine Qb U U (XA (k:=k) 1 j8 keysInt underlying58 U U U Wy (u:= .agg #[intV (nd T k).id,intV (nd T k).par,intV (nd T k).dep,intV (nd T k).gue,intV (nd T k).el,.bool (nd T k).timed,.bool (nd T k).short]) (RW _) U (Py (vs:=[intV (nd T k).id,intV (nd T k).par,intV (nd T k).dep,intV (nd T k).gue]) fv_56_0 U U U (ZN trC [nd T k] j8 U underlying40 ifz_43 U U U U (by first | rfl | simp [RowC.cells,Wm,Xo]) U ?_)))
   intro b9 w9 j9
   refine WV trC 4 j9 U U U (j9.rd 0 U (by simp)) underlying40 underlying40 (by intro k hk; cases hk) ifo_43 U (by simp only[List.length_cons,List.length_nil,trC];omega) U (by simp only[List.length_cons,List.length_nil,trC];omega) ?_
   intro v10 w10 j10; dsimp only[List.set]at j10
   have h1v10:v10.oneCell'=true:=j10.own_one 4 U
   refine Qd U U (Qf ?_)
   have j11:=X7 (T:=T) (last:=last) (j10.pick [1,2,0,3,4,5] U)
   refine Qo (Qc (Qh [13,12,11,0,3] U (Qa (QN U U (by omega) (by omega) U ?_))))
   refine Qb U U (Qf ?_)
   have hzz:=j11.pick [0,2,3,4] U
   have heq:(((ZO ks).take q).filter (fun n=> !decide (n=0))).map (nd T)++[nd T k]=(((ZO ks).take (q+1)).filter (fun n=> !decide (n=0))).map (nd T):= by rw[Ya hk,if_neg hv,List.map_append];rfl
   rw[heq]at hzz
   exact Q8 (L1:=[(0,_),(3,_),(11,_),(12,_),(13,intV ((q+1:Nat):Int))]) (Ub U U U U U) (k1:=(ZO ks).length -(q+1)) (by omega) ⟨q+1,_,rfl,rfl,hzz, by omega⟩
  have hv:k=0:=Decidable.not_not.1 h7
  refine Qt (Qo (Qc (Qa (QN U U (by omega) (by omega) U ?_))))
  refine Qb U U (Qf ?_)
  have hzz:=j4.pick [0,1,2,3] U
  have heq:(((ZO ks).take q).filter (fun n=> !decide (n=0))).map (nd T)=(((ZO ks).take (q+1)).filter (fun n=> !decide (n=0))).map (nd T):= by rw[Ya hk,if_pos hv,List.append_nil]
  rw[heq]at hzz
  exact Q8 (L1:=[(0,_),(3,_),(11,_),(12,_),(13,intV ((q+1:Nat):Int))]) (Ub U U U U U) (k1:=(ZO ks).length -(q+1)) (by omega) ⟨q+1,_,rfl,rfl,hzz, by omega⟩
 refine Xc (Qs (Qs (Q3 (Qc (Qe (Qa (Qb U U (Qd U U (Qf (Qc (Qv (QM (.inr U) U U ?_))))))))))))
 have hqe:q=(ZO ks).length:= by omega
 have hzz:=j4.pick [2,0,3] U
 rw[hqe,List.take_length,hli]at hzz
 exact⟨_,U,hzz⟩
def Tk (T:Nodes) (who:Int) (l:List NodeD):List Int:=(l.filter fun n=>decide (n.par=who)).map NodeD.id
theorem Dj {T:Nodes} {who:Int} {l:List NodeD} {q:Nat} {n:NodeD} (h:l[q]? =some n):Tk T who (l.take (q+1))=Tk T who (l.take q)++(if n.par=who then[n.id]else[]):= by
  unfold Tk
  rw[List.take_add_one,h,List.filter_append,List.map_append]
  congr 1
  by_cases e:n.par=who<;> simp [e]
theorem Tj {T:Nodes} {last who:Int} (hI:TrI T last): ∀{ids:List Int},(∀i∈ids,T i≠none)→Tk T who (ZV T ids)=YK T ids who
  | [],_=>rfl
  | i::ids,h=> by
    have h1:=Tj hI (who:=who) (ids:=ids) fun j hj=>h j (List.mem_cons_of_mem _ hj)
    obtain⟨n,hn⟩:=Option.ne_none_iff_exists'.1 (h i List.mem_cons_self)
    unfold Tk ZV YK at h1⊢
    rw[List.map_cons,List.filter_cons,List.filter_cons,XU hn,hn]
    dsimp only
    by_cases e:n.par=who
    · rw[if_pos (by simpa using e),if_pos (by simpa using e),List.map_cons,hI.own hn,h1]
    · rw[if_neg (by simpa using e),if_neg (by simpa using e),h1]
theorem kids_le {T:Nodes} {ids:List Int} {who:Int}:(YK T ids who).length≤ids.length:=List.length_filter_le _ _
theorem TN {w:World} {a:TrAd} {T:Nodes} {last:Int} {F:Th} (hS:Sat w [ZQ a T last,F]) {ids:List Int} (hF:FewT T ids) (hI:TrI T last) (id:Int):
    Calls prog 19 #[ptrV a.t 0,intV id] w (Ret fun v w'=>Sat w' [rowT inC v (YK T ids id),ZQ a T last,F]):= by
 refine Qm func19 U ntmps19 U ?_
 refine Qe (Qa (Qd U U (Qf (Qc (Qe (Qa (Qd U U (Qf (Qc (Qe (Qe (Qa (Qb U U (Qy cal_17 U (list_tr (hS.sp [0] U) hF) U ?_))))))))))))))
 rintro _ w1 j1
 replace j1:=j1.jn U U
 obtain⟨ar,cr,hvr,_⟩:=j1.own_shape 0 rfl; obtain rfl:=hvr
 have hnl:(ZV T ids).length≤40:= by unfold ZV; rw[List.length_map]; exact hF.2
 first | refine XK underlying40 U U ?_ | refine XG 0 j1 underlying40 U U U ?_
 refine Qb U U (Qf (Qc (Qz ?_)))
 have hrn:=(j1.pick [0,1,2] U).row_nil inC
 refine Xh (fun K0 E0 W0=> ∃(q:Nat) (ov:Value),K0=(ZV T ids).length -q∧E0=[(0,ptrV a.t 0),(1,intV id),(5,ov),(9,.slice ar (ZV T ids).length cr),(10,intV ((ZV T ids).length:Int)),(11,intV (q:Int))]∧Sat W0 [ZQ a T last,rowT trC (.slice ar (ZV T ids).length cr) (ZV T ids),rowT inC ov (Tk T id ((ZV T ids).take q)),F]∧(q≤(ZV T ids).length)) (L0:=[(0,_),(1,_),(5,_),(9,_),(10,_),(11,_)]) ((ZV T ids).length) (B1 U U U U U U) ⟨0,_,rfl,rfl,hrn.pick [2,1,0,3] U, by omega⟩ ?_
 rintro _ _ w2 ⟨q,ov,rfl,rfl,j2,hi⟩
 have hml:(Tk T id ((ZV T ids).take q)).length≤41:= by unfold Tk; rw[List.length_map]; exact Nat.le_trans (List.length_filter_le _ _) (Nat.le_trans (List.take_sublist _ _).length_le (by omega))
 refine Qe (Qa (Xk U U U (Qf (Qc (Qe (Qu U (fun h3=> ?_) (fun h3=> ?_)))))))
 ·obtain⟨k,hk⟩: ∃k,(ZV T ids)[q]? =some k:=⟨_,Zk (by omega)⟩
  refine Qt (Qc (Qe (Qz (Qe (Qa (Xg trC 1 q j2 U U U (by first | rfl | omega) hk es_40 U ?_))))))
  intro bx4 capx4 hvx4
  refine Z9 1 q j2 U hvx4 U hk ag_43 SV U U (Xb j2 zr_43 U U ?_)
  intro xb w5 j5
  refine QF j5 U U SV U (by first | rfl | (simp [QU,Value.oneCell'];done)) (i:=0) U (by first | decide | exact Q5 U) ?_
  intro w6 hS6a; dsimp only[List.set]at hS6a
  have j6:Sat w6 (QC xb [intV k.id,intV k.par,intV k.dep,intV k.gue]::_):=hS6a; clear hS6a
  refine Qf (Qc (Qe (Qa (Qg U HO U (Qn U QO (by first | assumption | exact j6.cell 0 U U) U ?_)))))
  refine Qb U U (Xl U U U (Qf (Qc (Qh [11,10,9,5,1,0,7,18] U (Qu U (fun h7=> ?_) (fun h7=> ?_))))))
  ·have hv:k.par=id:=h7
   refine Qa (Qb U U (Qg U Gd U (Qn U QO (by first | assumption | exact j6.cell 0 U U) U ?_)))
   refine ZN inC [k.id] j6 U underlying22 GS U U U U (by first | rfl | simp [RowC.cells,Wm,Xo]) U ?_
   intro b8 w8 j8
   refine WV inC 4 j8 U U U (j8.rd 0 U (by simp)) underlying22 underlying22 (by intro k hk; cases hk) Tl U (by simp only[List.length_cons,List.length_nil,inC];omega) U (by simp only[List.length_cons,List.length_nil,inC];omega) ?_
   intro v9 w9 j9; dsimp only[List.set]at j9
   have h1v9:v9.oneCell'=true:=j9.own_one 4 U
   refine Qd U U (Qf (Qo (Qc (Qh [11,10,9,1,0,5] U (Qa (QN U U (by omega) (by omega) U ?_))))))
   refine Qb U U (Qf ?_)
   have hzz:=j9.pick [2,3,4,5] U
   have heq:=Dj (T:=T) (who:=id) hk
   rw[if_pos hv]at heq
   rw[←heq]at hzz
   exact Q8 (L1:=[(0,_),(1,_),(5,_),(9,_),(10,_),(11,intV ((q+1:Nat):Int))]) (B1 U U U U U U) (k1:=(ZV T ids).length -(q+1)) (by omega) ⟨q+1,_,rfl,rfl,hzz, by omega⟩
  have hv: ¬k.par=id:=h7
  refine Qt (Qo (Qc (Qa (QN U U (by omega) (by omega) U ?_))))
  refine Qb U U (Qf ?_)
  have hzz:=j6.pick [1,2,3,4] U
  have heq:=Dj (T:=T) (who:=id) hk
  rw[if_neg hv,List.append_nil]at heq
  rw[←heq]at hzz
  exact Q8 (L1:=[(0,_),(1,_),(5,_),(9,_),(10,_),(11,intV ((q+1:Nat):Int))]) (B1 U U U U U U) (k1:=(ZV T ids).length -(q+1)) (by omega) ⟨q+1,_,rfl,rfl,hzz, by omega⟩
 refine Xc (Qs (Qs (Q3 (Qc (Qe (Qa (Qb U U (Qd U U (Qf (Qc (Qv (QM (.inr U) U U ?_))))))))))))
 have hqe:q=(ZV T ids).length:= by omega
 have hzz:=j2.pick [2,0,3] U
 rw[hqe,List.take_length,Tj hI (fun i hi=>((hF.1.2 i).1 hi).2)]at hzz
 exact⟨_,U,hzz⟩
theorem Eh {w:World} {a:TrAd} {T:Nodes} {last:Int} {C:CeD} {p n m cc e:Nat} {A:LvA} {F:Th} (hS:Sat w [QC a.t [.map (some a.mt),ptrV a.c 0,ptrV a.b 0,intV last],Q4 QX a.mt (UZ T),Ua a.c C,UI a.b p n m cc e A,F]) (hn:n≤60000000000) (hm:m<Wx) {id par dep gue:Int} {y:OneD} (hcn:C.all id=none) (hcy:C.all par=some y) (h1:1≤id) (hky:0≤y.kids∧y.kids≤100000000000):
    Calls prog 28 #[ptrV a.t 0,.agg #[intV id,intV par,intV dep,intV gue]] w (Ret fun v w'=> ∃x:OneD,(∀j z,C.all j=some z→z.ad≠x.ad)∧x.par=some y.ad∧x.kids=0∧Ex x∧Sat w' [QC a.t [.map (some a.mt),ptrV a.c 0,ptrV a.b 0,intV last],Q4 QX a.mt (UZ (QK T id (some (⟨id,par,dep,gue,0,false,false⟩:NodeD)))),Ua a.c (⟨C.ma,QK (QK C.all par (some {y with kids:=y.kids+1})) id (some x)⟩:CeD),UI a.b p n (m+1) cc e (Uz A id par),F]):= by
 refine Qm func28 U ntmps28 U ?_
 refine Qe (Qa (XV hS U U U ?_))
 intro xb w1 j1; replace j1:Sat w1 (QC xb [intV id,intV par,intV dep,intV gue]::_):=j1
 refine Qf (Qc (Qe ?_))
 have j2:=j1.drew
 refine Q6 [0,1,2,3,4,5,6,7,8] [8] ZF (by kernel_rfl) ?_
 refine Q9 U U U (QQ U U U (QI U U U ZW (Q1 U U U (Ql U WT (by first | assumption | exact j2.cell 0 U U | exact j2.cell 1 U U)) ?_)))
 refine QI U U U Gd (Q1 U U U (Ql U QO (by first | assumption | exact j2.cell 0 U U | exact j2.cell 1 U U)) ?_)
 refine Q1 U U U (Xp U ag_43 SV (by first | exact j2.blk 0 U | exact j2.blk 1 U) (by first | decide | exact Q5 U | (simp;done) | omega) U) ?_
 refine X9 U U U (fun _=>(Wb U pl_56_0 Ej Wy U)) ?_
 refine Xa U U U U U U ?_
 refine QY (k:=id) (v:=ndA (⟨id,par,dep,gue,0,false,false⟩:NodeD)) 2 j2 keysInt underlying58 U U U U ?_
 intro w3 j3; dsimp only[List.set]at j3; rw[GO]at j3
 refine XS (Xf (by kernel_rfl)) ?_
 refine VC.nil (Qc (Qh [0,3] U (Qe ?_)))
 have j4:=j3.drew
 refine Q6 [0,1,2,3,4,5,6,7,8] [8] ZF (by kernel_rfl) ?_
 refine Q9 U U U (QQ U U U (QI U U U UL (Q1 U U U (Ql U D3 (by first | assumption | exact j4.cell 0 U U | exact j4.cell 1 U U)) ?_)))
 refine QI U U U Gd (Q1 U U U (Ql U QO (by first | assumption | exact j4.cell 0 U U | exact j4.cell 1 U U)) ?_)
 refine QI U U U HO (Q1 U U U (Ql U QO (by first | assumption | exact j4.cell 0 U U | exact j4.cell 1 U U)) ?_)
 refine Xa U U U U U U ?_
 refine Qy cal_47 U (CY (j4.sp [3] U) hcn hcy h1 hky) U ?_
 rintro _ w5 ⟨rfl,x,hnew,hxp,hxk,hxq,j5⟩
 replace j5:=j5.jn U U
 refine X5 (Xf (by kernel_rfl)) ?_
 refine VC.nil (Qc (Qh [0,3] U ?_))
 have j6:=j5.drew
 refine Q6 [0,1,2,3,4,5,6,7,8] [8] ZF (by kernel_rfl) ?_
 refine Q9 U U U (QQ U U U (QI U U U UK (Q1 U U U (Ql U D0 (by first | assumption | exact j6.cell 1 U U | exact j6.cell 2 U U)) ?_)))
 refine QI U U U Gd (Q1 U U U (Ql U QO (by first | assumption | exact j6.cell 1 U U | exact j6.cell 2 U U)) ?_)
 refine QI U U U HO (Q1 U U U (Ql U QO (by first | assumption | exact j6.cell 1 U U | exact j6.cell 2 U U)) ?_)
 refine Xa U U U U U U ?_
 refine Qy cal_48 U (FR (j6.sp [4] U) hn hm id par) U ?_
 rintro _ w7 ⟨rfl,j7⟩
 replace j7:=j7.jn U U
 refine X5 (Xf (by kernel_rfl)) ?_
 exact VC.nil (ZT (.inl U) U (⟨_,U,x,hnew,hxp,hxk,hxq,j7.pick [3,4,1,0,5] U⟩))
theorem KC {w:World} {a:TrAd} {T:Nodes} {last:Int} {C:CeD} {p n m cc e:Nat} {A:LvA} {F:Th} (hS:Sat w [ZQ a T last,Ua a.c C,UI a.b p n m cc e A,F]) (hn:n≤60000000000) (hm:m<Wx) (hI:TrI T last) (hW:CeW C T) {ids:List Int} (hF:FewT T ids) {parent guess:Int} {p0:NodeD} {y:OneD} (hp:T parent=some p0) (hcy:C.all parent=some y) (hg:0≤guess∧guess≤1152921504606846976) (hd8:p0.dep≤8) (hd0:0≤p0.dep) (hl:last≤100000000000):
    Calls prog 9 #[ptrV a.t 0,intV parent,intV guess] w (Ret fun v w'=>((8≤p0.dep∨32≤ids.length)∧v= .tuple #[intV 0,intV 6]∧Sat w' [ZQ a T last,Ua a.c C,UI a.b p n m cc e A,F])∨(¬(8≤p0.dep∨32≤ids.length)∧v= .tuple #[intV (last+1),intV 0]∧ ∃x:OneD,(∀j z,C.all j=some z→z.ad≠x.ad)∧x.par=some y.ad∧x.kids=0∧Ex x∧Sat w' [ZQ a (QK T (last+1) (some (⟨last+1,parent,p0.dep+1,guess,0,false,false⟩:NodeD))) (last+1),Ua a.c (⟨C.ma,QK (QK C.all parent (some {y with kids:=y.kids+1})) (last+1) (some x)⟩:CeD),UI a.b p n (m+1) cc e (Uz A (last+1) parent),F])):= by
 have hky:0≤y.kids∧y.kids≤100000000000:= by have :=hW.kid40 hF hcy;omega
 have h00:=hI.root.choose_spec.1
 have hl0:=hI.last0
 replace hS:=Zn hS
 refine Qm func9 U ntmps9 U ?_
 refine Qe (Qa (Qd U U (Qd U U (Qf (Qc (Qe (Qa (Qb U U (Qi U U (Qg U ZW U (Qn U WT (by first | assumption | exact hS.cell 0 U U) U ?_)))))))))))
 refine Qb U U (Xi (k:=parent) 1 hS keysInt underlying58 U U U Wy (u:= .agg #[intV p0.id,intV p0.par,intV p0.dep,intV p0.gue,intV p0.el,.bool p0.timed,.bool p0.short]) (g:=true) (WN hp) (WY hp) U (Qb U U (Qp U U U (Qp U U U (Xb hS Wy U U ?_)))))
 intro nb w1 j1
 refine QF j1 U U HY U (by first | rfl | (simp [QU,Value.oneCell'];done)) (i:=0) U (by first | decide | exact Q5 U) ?_
 intro w2 hS2a; dsimp only[List.set]at hS2a
 have j2:Sat w2 (QC nb [intV p0.id,intV p0.par,intV p0.dep,intV p0.gue,intV p0.el,.bool p0.timed,.bool p0.short]::_):=hS2a; clear hS2a
 refine Qd U U (Qf (Qc (Qh [2,1,0,6,7,8,9] U (Qe (Qz (Qe (Qa (Qb U U (Xk U U U (Qb U U (QS 22 U (fun h3=> ?_) (fun h3=> ?_))))))))))))
 ·exact absurd h3 (by omega)
 refine Qj U U (QJ h3) (Qb U U (Qj U U (QJ h3) (J1 U U U (QG U (QJ h3) U U (Qd U U (Qf (Qc (Qh [2,1,0,6,7,8,9,19] U (Qu U (fun h4=> ?_) (fun h4=> ?_))))))))))
 ·exact absurd h4 (by omega)
 refine Qe (Qa (Qb U U (QV U U (Qd U U (Qf (Qc (Qh [2,1,0,6,7,8,26] U (QP U (fun h5=> ?_) (fun h5=> ?_)))))))))
 ·exact absurd h5 (by decide)
 refine Qe (Qa (Qg U Hb U (Qg U NQ U (Qn U QO (by first | assumption | exact j2.cell 0 U U | exact j2.cell 1 U U) U ?_))))
 refine Yg U U U (Qb U U (QS 34 U (fun h6=> ?_) (fun h6=> ?_)))
 ·exact Qk U U (det h6) U (Qk U U (det h6) U (Qk U U (det h6) U (Qk U U (det h6) U (Qk U U (det h6) U (Qk U U (det h6) U (QH U (det h6) U U (Qd U U (Qf (Qc (Qh [2,1,0,6,7,8,29] U (X3 U (Qe (Qa (Qd U U (Qd U U (Qf (Qc (Qv (Q0 (Qq (Jc (.inr U) U U U (⟨_,rfl,.inl ⟨by omega,rfl,(X7 (j2.pick [1,2,3,4,5] U))⟩⟩))))))))))))))))))))))
 refine Qj U U (QJ h6) (Qb U U (Qj U U (QJ h6) (Qi U U (Qj U U (QJ h6) (Qg U ZW U (Qj U U (QJ h6) (Qn U WT (by first | assumption | exact j2.cell 0 U U | exact j2.cell 1 U U) U ?_)))))))
 refine Qj U U (QJ h6) (wl_lenM 2 j2 underlying58 keysInt.inj U U U (fun mm hmm=> ?_))
 obtain rfl:=hmm.uniq (hF.card h00)
 refine Qj U U (QJ h6) (J1 U U U (QG U (QJ h6) U U (Qd U U (Qf (Qc (Qh [2,1,0,6,7,8,29] U (Qu U (fun h7=> ?_) (fun h7=> ?_))))))))
 ·exact Qe (Qa (Qd U U (Qd U U (Qf (Qc (Qv (Q0 (Qq (Jc (.inr U) U U U (⟨_,rfl,.inl ⟨by omega,rfl,(X7 (j2.pick [1,2,3,4,5] U))⟩⟩))))))))))
 refine Qt (Qo (Qc (Qe (Qa (Qb U U (Qi U U (Qg U Gc U (Qn U QO (by first | assumption | exact j2.cell 0 U U | exact j2.cell 1 U U) U ?_))))))))
 refine QN U U (by omega) (by omega) U ?_
 refine Qi U U (Qg U Gc U ?_)
 first | (refine Qx j2 U U WI (by first | rfl | assumption) (i:=0) U (by first | decide | exact Q5 U | (simp;done) | omega) ?_) | (refine Qx j2 U U WI (by first | rfl | assumption) (i:=1) U (by first | decide | exact Q5 U | (simp;done) | omega) ?_)
 intro w8 j9; dsimp only[List.set]at j9
 refine Qf (Qc (Qh [2,1,0,6,7,8] U (Qe ?_)))
 have j10:=j9.drew
 refine Q6 [0,1,2,3,4,5,6,7,8,9,10,11,12] [12] ZF (by kernel_rfl) ?_
 refine Q9 U U U (Q9 U U U (QQ U U U (QI U U U Gc (Q1 U U U (Ql U QO (by first | assumption | exact j10.cell 0 U U | exact j10.cell 1 U U)) ?_))))
 refine Q9 U U U (QI U U U Hb (QI U U U NQ (Q1 U U U (Ql U QO (by first | assumption | exact j10.cell 0 U U | exact j10.cell 1 U U)) ?_)))
 refine X9 U U U (fun _=>(V6 U U (by omega) (by omega))) ?_
 refine Q9 U U U (X9 U U U (fun _=>(Wb U B8 asz_43 zr_43 U)) ?_)
 refine Xa U U U U U U ?_
 have hnl:T (last+1)=none:= by cases q:T (last+1)with | none=>rfl | some z=>(have :=hI.pos q (by have :=hI.last0;omega);omega)
 have hcn:=(hW.dom (last+1)).2 hnl
 have hl0:=hI.last0
 refine Qy cal_28 U (Eh (last:=last+1) (par:=parent) (j10.sp [1,2,3,4] U) hn hm hcn hcy (by omega) hky) U ?_
 rintro _ w11 ⟨x,hnew,hxp,hxk,hxq,j11⟩
 replace j11:=j11.jn U U
 refine X5 (Xf (by kernel_rfl)) ?_
 refine VC.nil (Qc (Qh [0,6,7] U (Qe (Qa (Qb U U (Qi U U (Qg U Gc U (Qn U QO (by first | assumption | exact j11.cell 0 U U | exact j11.cell 4 U U) U ?_))))))))
 exact Qd U U (Qd U U (Qf (Qc (Qv (Jc (.inr U) U U U (⟨_,rfl,.inr ⟨by omega,rfl,x,hnew,hxp,hxk,hxq,X7 (last:=last+1) (T:=QK T (last+1) (some (⟨last+1,parent,p0.dep+1,guess,0,false,false⟩:NodeD))) (j11.pick [0,1,2,3,5] U)⟩⟩))))))
def VaP (T:Nodes) (C:CeD) (A:LvA) (n:NodeD) (x:OneD) (tA:TrA):Prop:=(n.timed=true→n.gue=(nd T n.par).gue+(nd T n.par).el)∧(∀z∈x.order,SeesR C T z.1 n.par z.2)∧VA A tA
theorem ME {w:World} {a:TrAd} {T:Nodes} {last:Int} {C:CeD} {p n m cc e:Nat} {A:LvA} {F:Th} (hS:Sat w [ZQ a T last,Ua a.c C,UI a.b p n m cc e A,F]) (hn:n≤60000000000) (hm:m<Wx) (hG:Ent F GT) (hI:TrI T last) (hW:CeW C T) {id:Int} {n0:NodeD} {x:OneD} {tA:TrA} (hn0:T id=some n0) (h0:id≠0) (hsh:n0.short=false) (hx:C.all id=some x) (hol:x.order.length≤100000000000) (ht:A.tr id=some tA) (hpb:0≤(nd T n0.par).gue∧(nd T n0.par).gue≤4000000000000000000∧0≤(nd T n0.par).el∧(nd T n0.par).el≤4000000000000000000):
    Calls prog 15 #[ptrV a.t 0,intV id] w (Ret fun v w'=> ∃r:Bool,v= .bool r∧(r=true↔VaP T C A n0 x tA)∧Sat w' [ZQ a T last,Ua a.c C,UI a.b p n m cc e A,F]):= by
 replace hS:=Zn hS
 refine Qm func15 U ntmps15 U ?_
 refine Qe (Qa (Qd U U (Qf (Qc (Qe (Qa (Qb U U (Qi U U (Qg U ZW U (Qn U WT (by first | assumption | exact hS.cell 0 U U) U ?_))))))))))
 refine Qb U U (Xi (k:=id) 1 hS keysInt underlying58 U U U Wy (u:= .agg #[intV n0.id,intV n0.par,intV n0.dep,intV n0.gue,intV n0.el,.bool n0.timed,.bool false]) (g:=true) (by rw[WN hn0,hsh]) (WY hn0) U ?_)
 refine Qb U U (Qp U U U (Qp U U U (Xb hS Wy U U ?_)))
 intro nb w1 j1
 refine QF j1 U U HY U (by first | rfl | (simp [QU,Value.oneCell'];done)) (i:=0) U (by first | decide | exact Q5 U) ?_
 intro w2 hS2a; dsimp only[List.set]at hS2a
 have j2:Sat w2 (QC nb [intV n0.id,intV n0.par,intV n0.dep,intV n0.gue,intV n0.el,.bool n0.timed,.bool false]::_):=hS2a; clear hS2a
 refine Qd U U (Qf (Qc (Qh [1,0,4,5,6] U (Qe (Qe ?_)))))
 have j3:=j2.drew
 refine Q6 [0,1,2,3,4,5,6,7,8,9,10,11,12,13,14,15,16,17,18,19,20,21,22,23,24] [21] ZF (by kernel_rfl) ?_
 refine Q9 U U U (X9 U U U (fun _=>(HQ U)) ?_)
 refine Q9 U U U (Gv 18 U (fun h4=> ?_) (fun h4=> ?_))
 ·exact absurd h4 (by decide)
 refine X9 U U (Xd U U h4) (fun _=>(Ev.gd (XH U))) ?_
 refine X9 U U (Xd U U h4) (fun _=>(Ev.gd (Mg U U))) ?_
 refine X9 U U U (fun _=>(Yb U h4 U)) ?_
 refine Q9 U U U (KO 22 U (fun h5=> ?_) (fun h5=> ?_))
 ·exact absurd h5 h0
 refine X9 U U (Xd U U (QJ h5)) (fun _=>(Ev.gd (Z8 U fo_56_3))) ?_
 refine Q1 U U (Xd U U (QJ h5)) (Ev.gd (Ql U VD (by first | assumption | exact j3.cell 0 U U | exact j3.cell 1 U U))) ?_
 refine X9 U U U (fun _=>(Yb U (QJ h5) U)) ?_
 refine Q9 U U U (Gv 26 U (fun h6=> ?_) (fun h6=> ?_))
 ·exact absurd h6 (by decide)
 refine X9 U U (Xd U U h6) (fun _=>(Ev.gd (Z8 U HN))) ?_
 refine Q1 U U (Xd U U h6) (Ev.gd (Ql U VD (by first | assumption | exact j3.cell 0 U U | exact j3.cell 1 U U))) ?_
 refine X9 U U (Xd U U h6) (fun _=>(Ev.gd (XH U))) ?_
 refine Gv 29 U (fun h7=> ?_) (fun h7=> ?_)
 ·have htm:n0.timed=true:=h7
  refine X9 U U (Xd U U h7) (fun _=>(Ev.gd (Z8 U Hb))) ?_
  refine X9 U U (Xd U U h7) (fun _=>(Ev.gd (Z8 U NP))) ?_
  refine Q1 U U (Xd U U h7) (Ev.gd (Ql U QO (by first | assumption | exact j3.cell 0 U U | exact j3.cell 1 U U))) ?_
  refine X9 U U (Xd U U h7) (fun _=>(Ev.gd (XH U))) ?_
  refine X9 U U (Xd U U h7) (fun _=>(Ev.gd (Z8 U Hb))) ?_
  refine X9 U U (Xd U U h7) (fun _=>(Ev.gd (Z8 U HO))) ?_
  refine Q1 U U (Xd U U h7) (Ev.gd (Ql U QO (by first | assumption | exact j3.cell 0 U U | exact j3.cell 1 U U))) ?_
  refine Xa U U (Xd U U h7) U U U ?_
  have j8:=X7 (T:=T) (last:=last) (j3.pick [1,2,0,3,4,5] U)
  refine Qy HR U (Yp (j8.sp [0] U) n0.par hpb) U ?_
  rintro _ w9 ⟨rfl,j9⟩
  replace j9:=j9.jn U U
  have j10:=Zn (j9.pick [0,1,2,3,4] U)
  refine X5 (.skip (by kernel_rfl) (.cons (.inl ⟨(Xd U U h7),(Ev.gd (Ql U QO (by first | assumption | exact j10.cell 0 U U | exact j10.cell 2 U U)))⟩) (Xf (by kernel_rfl)))) ?_
  refine X9 U U (Xd U U h7) (fun _=>(Ev.gd (Md U U))) ?_
  refine X9 U U (Xd U U h6) (fun _=>(Ev.gd (Bc U h7 U))) ?_
  refine X9 U U U (fun _=>(Yb U h6 U)) ?_
  refine VC.nil (Qc (Qh [1,0,4,40] U (Qu U (fun h11=> ?_) (fun h11=> ?_))))
  ·have hgp: ¬n0.gue=(nd T n0.par).gue+(nd T n0.par).el:=h11
   exact Qe (Qa (Qd U U (Qf (Qc (Qv (Qq (QM (.inr U) U U (⟨_,rfl,false,rfl,⟨fun q=>(by cases q), fun q=>absurd (q.1 htm) hgp⟩,X7 (j10.pick [0,1,3,4,5] U)⟩))))))))
  have hgp:n0.gue=(nd T n0.par).gue+(nd T n0.par).el:=Decidable.not_not.1 h11
  refine Qt (Qc (Qe (Qa (Qb U U (Qi U U (Qg U UL U (Qn U D3 (by first | assumption | exact j10.cell 0 U U | exact j10.cell 2 U U) U ?_)))))))
  refine Qb U U (Qy LX U (Bn (j10.sp [3] U) hW hI hx h0 hn0 hol) U ?_)
  rintro _ w12 ⟨r1,rfl,hr1,j12⟩
  replace j12:=j12.jn U U
  refine Qb U U (Xu 47 U (fun h13=> ?_) (fun h13=> ?_))
  ·have hr1t:r1=true:=h13
   refine Qj U U h13 (Qb U U (Qj U U h13 (Qi U U (Qj U U h13 (Qg U UK U (Qj U U h13 (Qn U D0 (by first | assumption | exact j12.cell 1 U U | exact j12.cell 3 U U) U ?_)))))))
   refine Qj U U h13 (Qb U U (Qj U U h13 (Qy LW U (Te (j12.sp [4] U) hn hm (hG.starL 4 U) ht) U ?_)))
   rintro _ w14 ⟨r2,rfl,hr2,j14⟩
   replace j14:=j14.jn U U
   exact QH U h13 U U (Qd U U (Qf (Qc (Qh [4] U (Qv (QM (.inr U) U U (⟨_,rfl,r2,rfl,⟨fun q=>⟨fun _=>hgp,hr1.1 hr1t,hr2.1 q⟩, fun q=>hr2.2 q.2.2⟩,X7 (j14.pick [2,3,1,0,5] U)⟩)))))))
  have hr1f:r1=false:=h13
  refine Qk U U h13 U (Qk U U h13 U (Qk U U h13 U (Qk U U h13 U (Qk U U h13 U (Qk U U h13 U (QG U h13 U U (Qd U U (Qf (Qc (Qh [4] U (Qv (QM (.inr U) U U ?_))))))))))))
  exact⟨_,rfl,false,rfl,⟨fun q=>(by cases q), fun q=>absurd (hr1.2 q.2.1) (by rw[hr1f];decide)⟩,X7 (j12.pick [1,2,0,4,5] U)⟩
 have htm:n0.timed=false:=h7
 refine WJ U U (Z3 U U h7) (WJ U U (Z3 U U h7) (WJ U U (Z3 U U h7) (WJ U U (Z3 U U h7) (WJ U U (Z3 U U h7) (WJ U U (Z3 U U h7) (WJ U U (Z3 U U h7) (VC.spineNot U U (Z3 U U h7) (WJ U U (Z3 U U h7) (X9 U U (Xd U U h6) (fun _=>(Ev.gd (Yb U h7 U))) ?_)))))))))
 refine X9 U U U (fun _=>(Yb U h6 U)) ?_
 refine VC.nil (Qc (Qh [1,0,4,40] U (QW U (Qt (Qc (Qe (Qa (Qb U U (Qi U U (Qg U UL U (Qn U D3 (by first | assumption | exact j3.cell 0 U U | exact j3.cell 1 U U) U ?_)))))))))))
 refine Qb U U (Qy LX U (Bn (j3.sp [3] U) hW hI hx h0 hn0 hol) U ?_)
 rintro _ w15 ⟨r1,rfl,hr1,j15⟩
 replace j15:=j15.jn U U
 refine Qb U U (Xu 47 U (fun h16=> ?_) (fun h16=> ?_))
 ·have hr1t:r1=true:=h16
  refine Qj U U h16 (Qb U U (Qj U U h16 (Qi U U (Qj U U h16 (Qg U UK U (Qj U U h16 (Qn U D0 (by first | assumption | exact j15.cell 1 U U | exact j15.cell 2 U U) U ?_)))))))
  refine Qj U U h16 (Qb U U (Qj U U h16 (Qy LW U (Te (j15.sp [4] U) hn hm (hG.starL 4 U) ht) U ?_)))
  rintro _ w17 ⟨r2,rfl,hr2,j17⟩
  replace j17:=j17.jn U U
  refine QH U h16 U U (Qd U U (Qf (Qc (Qh [4] U (Qv (QM (.inr U) U U ?_))))))
  exact⟨_,rfl,r2,rfl,⟨fun q=>⟨fun q=>absurd q (by rw[htm];decide),hr1.1 hr1t,hr2.1 q⟩, fun q=>hr2.2 q.2.2⟩,X7 (j17.pick [3,4,1,0,5] U)⟩
 have hr1f:r1=false:=h16
 refine Qk U U h16 U (Qk U U h16 U (Qk U U h16 U (Qk U U h16 U (Qk U U h16 U (Qk U U h16 U (QG U h16 U U (Qd U U (Qf (Qc (Qh [4] U (Qv (QM (.inr U) U U ?_))))))))))))
 exact⟨_,rfl,false,rfl,⟨fun q=>(by cases q), fun q=>absurd (hr1.2 q.2.1) (by rw[hr1f];decide)⟩,X7 (j15.pick [2,3,0,4,5] U)⟩
