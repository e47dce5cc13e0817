/- trials: List, Children, Trial -/
import Derived.Test.YtkgjmhcdacidoaaGreatDoorCe9
import Derived.Test.YtkgjmhcdacidoaaGreatDoorLv1
set_option linter.unusedSectionVars false
set_option linter.unusedVariables false
set_option maxRecDepth 100000
set_option maxHeartbeats 80000000000
namespace Go.Proofs.YtkgjmhcdacidoaaGreatDoor
open Go.RowKit M Proofs.Tryz
variable [Inhabited SlW]
theorem kn_it {w:World} {l c b:Nat} {g:Int→Option Value} {J:List Int→Th} {F:Th} (hS:Sat w [J [],QE c [.map (some b)],Q6 QX b g,F]) (hY:YJ prog l QX (okC g) J):
    Calls prog 72 #[.func (.yield l) #[] #[],ptrV c 0] w (Ret fun v w'=> ∃ks,AllC g ks∧Sat w' [J ks,QE c [.map (some b)],Q6 QX b g,F]):= by
 refine Qn func72 U ntmps72 U ?_
 refine Qe (Qa (Qo U J3 (by first | assumption | exact hS.cell 1 U U) U ?_))
 refine Jw 2 hS underlying58 U U U ?_
 intro RR left0 wR hSR; dsimp only[List.set]at hSR
 refine Qf (Qc (Qw (Xe (fun K0 E0 W0=> ∃(dn:Int→Prop) (cur:Option Int) (left:Nat) (ks:List Int),K0=1*left∧E0=[(0,.func (.yield l) #[] #[]),(5,ptrV RR 0)]∧Sat W0 [J ks,Jt QX b RR g dn cur left,QE c [.map (some b)],F]∧(CSt g dn ks)) (L0:=[(0,_),(5,_)]) (1*left0) (G5 U U) ⟨_,_,_,_,rfl,rfl,hSR.reorder [0,2,1,3] U,CSt.start g⟩ ?_)))
 rintro _ _ w1 ⟨dn,cur,left,ks,rfl,rfl,j1,hcs⟩
 refine Qe (Qa (Yk 1 j1 keysInt.inj U U U (fun hdone=> ?_) (fun k v left2 w2 hleft hgk hnd j2=> ?_)))
 ·refine Qp U U U (Qf (Qc (Qe (QL U (QT (Qq (Qq (Qy (ZP (.inl U) U ?_)))))))))
  exact⟨_,rfl,ks,hcs.all hdone, by have hSz:=W2 (j1.reorder [1,0,2,3] U); exact hSz.reorder [1,2,0,3] U⟩
 dsimp only[List.set]at j2
 refine Qp U U U (Qf (Qc (Qe (XD U (Qs (Qc (Qw (Qe (Qa (JG 1 j2 U hgk U U (Qp U U U (Qd U U (Qf (Qc (Qe (WB (Xu U (Xk U) (Xu U (Xk U) (YM U U U (hY _ _ _ _ (hcs.ok hnd hgk) (j2.sp [0] U)) ?_)))))))))))))))))))
 intro w5 j5; replace j5:=j5.jn U U
 refine Xu U (Hi U) (Y5 (Qc (Qh [5,0,13] U (QL U (Qs (Ql ?_))))))
 have hSz:=j5.reorder [0,1,2,3] U; dsimp only[Hc,U1]at hSz
 exact Q5 (L1:=[(0,_),(5,_)]) (G5 U U) (k1:=1*left2) (by omega) ⟨_,_,_,_,rfl,rfl,hSz,hcs.step hnd hgk⟩
theorem kn_sp {w:World} {v0:Value} {F:Th} (hS:Sat w [F]) (h0:v0.oneCell'=true):
    Calls prog 34 #[v0] w (Ret fun v w'=> ∃c,v= .func (.func 72) #[] #[ptrV c 0]∧Sat w' [QE c v0.cells.toList,F]):= by
 refine Qn func34 U ntmps34 U ?_
 refine Qe (Qa (XV hS U U U ?_))
 intro b1 w1 j1
 exact Qd U U (Qf (Qc (Qe (Qa (Zv U U (Qd U U (Qf (Qc (Qv (QR (.inr U) U U (⟨_,U,_,U,j1⟩)))))))))))
theorem itKN (c b:Nat) (g:Int→Option Value):ItI g 72 [ptrV c 0] (Rt c b g):= fun l J X w hS hY=> by
  have h1:=(hS.perm (List.Perm.swap _ _ _)).flat; dsimp only[RX,RW]at h1
  refine(kn_it (h1.reorder [2,0,1,3] U) hY).mono fun e w' h=>h.mono fun v w' ⟨ks,h2,h3⟩=>⟨ks,h2, ?_⟩
  exact(Sat.fold (As:=[QE c [.map (some b)],Q6 QX b g]) (h3.reorder [1,2,0,3] U)).perm (List.Perm.swap _ _ _)
theorem ndG_no {T:Nodes} (i:Int):Vn T i=none↔T i=none:= by unfold Vn; cases T i<;> simp
theorem L7 {T:Nodes} (i:Int):Vn T i≠none↔T i≠none:= by unfold Vn; cases T i<;> simp
theorem Gf {w:World} {a:TrAd} {T:Nodes} {last:Int} {F:Th} (hS:Sat w [Zp a T last,F]) {ids:List Int} (hF:FewT T ids):
    Calls prog 17 #[ptrV a.t 0] w (Ret fun v w'=>Sat w' [rowT RI v (QI T ids),Zp a T last,F]):= by
 replace hS:=Zk hS
 refine Qn func17 U ntmps17 U ?_
 refine Qe (Qa (Qd U U (Qf (Qc (Qe (Qa (Qd U U (Qf (Qc (Qe (Qe (Qa (Qb U U (Qi U U (Qg U Wb U (Qo U J3 (by first | assumption | exact hS.cell 0 U U) U ?_))))))))))))))))
 refine Q0 cal_34 U (kn_sp (hS.sp [] U) U) U ?_
 rintro _ w1 ⟨ck,rfl,j1⟩
 replace j1:=j1.jn U U
 have hK:=Sat.fold (As:=[QE ck [.map (some a.mt)],Q6 QX a.mt (Vn T)]) (j1.pick [0,2,1,3] U)
 have hC2:=hK.sp [0] U
 refine Q0 NG U (V9 hC2 cal_72 (itKN ck a.mt (Vn T)) (fun ks hk=> by have :=hF.came (fun i=>(L7 i).1) hk;omega)) U ?_
 rintro _ w2 ⟨ks,hks,j2⟩
 replace j2:=j2.jn U U; clear hC2
 clear hK
 have hz:=(j2.pick [1,0,2,3] U).flat; dsimp only[Rt,RX,RW]at hz
 have j3:=X1 (T:=T) (last:=last) (hz.pick [3,1,0,2,4] U)
 obtain⟨ar,cr,hvr,_⟩:=j3.own_shape 2 rfl; obtain rfl:=hvr
 have hkl:(XP ks).length≤41:= by rw[Ji]; exact hF.came (fun i=>(L7 i).1) (Came.of_all hks)
 have hli:=LH hF (g:=Vn T) ndG_no hks
 first | refine XB underlying22 U U ?_ | refine Xo 2 j3 underlying22 U U U ?_
 refine Qb U U (Qf (Qc (Qh [0,2,3,11,12,13] U (Qw ?_))))
 have hrn:=(j3.pick [0,1,2,3] U).row_nil RI
 refine Xe (fun K0 E0 W0=> ∃(q:Nat) (ov:Value),K0=(XP ks).length -q∧E0=[(0,ptrV a.t 0),(3,ov),(11,.slice ar (XP ks).length cr),(12,intV ((XP ks).length:Int)),(13,intV (q:Int))]∧Sat W0 [Zp a T last,rowT inC (.slice ar (XP ks).length cr) (XP ks),rowT RI ov ((((XP ks).take q).filter (fun n=> !decide (n=0))).map (nd T)),F]∧(q≤(XP ks).length)) (L0:=[(0,_),(3,_),(11,_),(12,_),(13,_)]) ((XP ks).length) (Ym U U U U U) ⟨0,_,rfl,rfl,hrn.pick [1,3,0,4] U, by omega⟩ ?_
 rintro _ _ w4 ⟨q,ov,rfl,rfl,j4,hi⟩
 have hml:((((XP ks).take q).filter (fun n=> !decide (n=0))).map (nd T)).length≤41:= by rw[List.length_map]; exact Nat.le_trans (List.length_filter_le _ _) (Nat.le_trans (List.take_sublist _ _).length_le hkl)
 refine Qe (Qa (Xn U U U (Qf (Qc (Qe (Qt U (fun h5=> ?_) (fun h5=> ?_)))))))
 ·obtain⟨k,hk⟩: ∃k,(XP ks)[q]? =some k:=⟨_,Zd (by omega)⟩
  refine Qs (Qc (Qe (Qw (Qe (Qa (Xg inC 1 q j4 U U U (by first | rfl | omega) hk Un U ?_))))))
  intro bx6 capx6 hvx6
  refine XY 1 q 0 j4 U hvx6 U U hk QM U U (Qd U U (Qf (Qc (Qe (Qa (Qb U U (Xp U U U (Qf (Qc (Qh [13,12,11,3,0,5,18] U (Qt U (fun h7=> ?_) (fun h7=> ?_))))))))))))
  ·have hv: ¬k=0:=h7
   have j8:=Zk (j4.pick [0,1,2,3] U)
   refine Qa (Qb U U (Qb U U (Qi U U (Qg U Wb U (Qo U J3 (by first | assumption | exact j8.cell 0 U U) U ?_)))))
   refine Qb U U (X8 (k:=k) 1 j8 keysInt underlying58 U U U Wy (u:= .agg #[intV (nd T k).id,intV (nd T k).par,intV (nd T k).dep,intV (nd T k).gue,intV (nd T k).el,.bool (nd T k).timed,.bool (nd T k).short]) (US _) U (PX (vs:=[intV (nd T k).id,intV (nd T k).par,intV (nd T k).dep,intV (nd T k).gue]) fv_56_0 U U U (ZV RI [nd T k] j8 U underlying40 ifz_43 U U U U (by first | rfl | simp [RowC.cells,Wu,Xz]) U ?_)))
   intro b9 w9 j9
   refine Jf RI 4 j9 U U U (j9.rd 0 U (by simp)) underlying40 underlying40 (by intro k hk; cases hk) ifo_43 U (by simp only[List.length_cons,List.length_nil,RI];omega) U (by simp only[List.length_cons,List.length_nil,RI];omega) ?_
   intro v10 w10 j10; dsimp only[List.set]at j10
   have h1v10:v10.oneCell'=true:=j10.own_one 4 U
   refine Qd U U (Qf ?_)
   have j11:=X1 (T:=T) (last:=last) (j10.pick [1,2,0,3,4,5] U)
   refine Ql (Qc (Qh [13,12,11,0,3] U (Qa (QK U U (by omega) (by omega) U ?_))))
   refine Qb U U (Qf ?_)
   have hzz:=j11.pick [0,2,3,4] U
   have heq:(((XP ks).take q).filter (fun n=> !decide (n=0))).map (nd T)++[nd T k]=(((XP ks).take (q+1)).filter (fun n=> !decide (n=0))).map (nd T):= by rw[Yv hk,if_neg hv,List.map_append];rfl
   rw[heq]at hzz
   exact Q5 (L1:=[(0,_),(3,_),(11,_),(12,_),(13,intV ((q+1:Nat):Int))]) (Ym U U U U U) (k1:=(XP ks).length -(q+1)) (by omega) ⟨q+1,_,rfl,rfl,hzz, by omega⟩
  have hv:k=0:=Decidable.not_not.1 h7
  refine Qs (Ql (Qc (Qa (QK U U (by omega) (by omega) U ?_))))
  refine Qb U U (Qf ?_)
  have hzz:=j4.pick [0,1,2,3] U
  have heq:(((XP ks).take q).filter (fun n=> !decide (n=0))).map (nd T)=(((XP ks).take (q+1)).filter (fun n=> !decide (n=0))).map (nd T):= by rw[Yv hk,if_pos hv,List.append_nil]
  rw[heq]at hzz
  exact Q5 (L1:=[(0,_),(3,_),(11,_),(12,_),(13,intV ((q+1:Nat):Int))]) (Ym U U U U U) (k1:=(XP ks).length -(q+1)) (by omega) ⟨q+1,_,rfl,rfl,hzz, by omega⟩
 refine QT (Qq (Qq (Qy (Qc (Qe (Qa (Qb U U (Qd U U (Qf (Qc (Qv (QR (.inr U) U U ?_))))))))))))
 have hqe:q=(XP ks).length:= by omega
 have hzz:=j4.pick [2,0,3] U
 rw[hqe,List.take_length,hli]at hzz
 exact⟨_,U,hzz⟩
def TG (T:Nodes) (who:Int) (l:List NodeD):List Int:=(l.filter fun n=>decide (n.par=who)).map NodeD.id
theorem D8 {T:Nodes} {who:Int} {l:List NodeD} {q:Nat} {n:NodeD} (h:l[q]? =some n):TG T who (l.take (q+1))=TG T who (l.take q)++(if n.par=who then[n.id]else[]):= by
  unfold TG
  rw[List.take_add_one,h,List.filter_append,List.map_append]
  congr 1
  by_cases e:n.par=who<;> simp [e]
theorem TF {T:Nodes} {last who:Int} (hI:TrI T last): ∀{ids:List Int},(∀i∈ids,T i≠none)→TG T who (QI T ids)=Zh T ids who
  | [],_=>rfl
  | i::ids,h=> by
    have h1:=TF hI (who:=who) (ids:=ids) fun j hj=>h j (List.mem_cons_of_mem _ hj)
    obtain⟨n,hn⟩:=Option.ne_none_iff_exists'.1 (h i List.mem_cons_self)
    unfold TG QI Zh at h1⊢
    rw[List.map_cons,List.filter_cons,List.filter_cons,UR hn,hn]
    dsimp only
    by_cases e:n.par=who
    · rw[if_pos (by simpa using e),if_pos (by simpa using e),List.map_cons,hI.own hn,h1]
    · rw[if_neg (by simpa using e),if_neg (by simpa using e),h1]
theorem Pq {T:Nodes} {ids:List Int} {who:Int}:(Zh T ids who).length≤ids.length:=List.length_filter_le _ _
theorem UB {w:World} {a:TrAd} {T:Nodes} {last:Int} {F:Th} (hS:Sat w [Zp a T last,F]) {ids:List Int} (hF:FewT T ids) (hI:TrI T last) (id:Int):
    Calls prog 19 #[ptrV a.t 0,intV id] w (Ret fun v w'=>Sat w' [rowT inC v (Zh T ids id),Zp a T last,F]):= by
 refine Qn func19 U ntmps19 U ?_
 refine Qe (Qa (Qd U U (Qf (Qc (Qe (Qa (Qd U U (Qf (Qc (Qe (Qe (Qa (Qb U U (Q0 ME U (Gf (hS.sp [0] U) hF) U ?_))))))))))))))
 rintro _ w1 j1
 replace j1:=j1.jn U U
 obtain⟨ar,cr,hvr,_⟩:=j1.own_shape 0 rfl; obtain rfl:=hvr
 have hnl:(QI T ids).length≤40:= by unfold QI; rw[List.length_map]; exact hF.2
 first | refine XB underlying40 U U ?_ | refine Xo 0 j1 underlying40 U U U ?_
 refine Qb U U (Qf (Qc (Qw ?_)))
 have hrn:=(j1.pick [0,1,2] U).row_nil inC
 refine Xe (fun K0 E0 W0=> ∃(q:Nat) (ov:Value),K0=(QI T ids).length -q∧E0=[(0,ptrV a.t 0),(1,intV id),(5,ov),(9,.slice ar (QI T ids).length cr),(10,intV ((QI T ids).length:Int)),(11,intV (q:Int))]∧Sat W0 [Zp a T last,rowT RI (.slice ar (QI T ids).length cr) (QI T ids),rowT inC ov (TG T id ((QI T ids).take q)),F]∧(q≤(QI T ids).length)) (L0:=[(0,_),(1,_),(5,_),(9,_),(10,_),(11,_)]) ((QI T ids).length) (G4 U U U U U U) ⟨0,_,rfl,rfl,hrn.pick [2,1,0,3] U, by omega⟩ ?_
 rintro _ _ w2 ⟨q,ov,rfl,rfl,j2,hi⟩
 have hml:(TG T id ((QI T ids).take q)).length≤41:= by unfold TG; rw[List.length_map]; exact Nat.le_trans (List.length_filter_le _ _) (Nat.le_trans (List.take_sublist _ _).length_le (by omega))
 refine Qe (Qa (Xn U U U (Qf (Qc (Qe (Qt U (fun h3=> ?_) (fun h3=> ?_)))))))
 ·obtain⟨k,hk⟩: ∃k,(QI T ids)[q]? =some k:=⟨_,Zd (by omega)⟩
  refine Qs (Qc (Qe (Qw (Qe (Qa (Xg RI 1 q j2 U U U (by first | rfl | omega) hk Um U ?_))))))
  intro bx4 capx4 hvx4
  refine ZG 1 q j2 U hvx4 U hk CB Vt U U (Xa j2 MT U U ?_)
  intro xb w5 j5
  refine Q9 j5 U U Vt U (by first | rfl | (simp [QV,Value.oneCell'];done)) (i:=0) U (by first | decide | exact Q7 U) ?_
  intro w6 hS6a; dsimp only[List.set]at hS6a
  have j6:Sat w6 (QE xb [intV k.id,intV k.par,intV k.dep,intV k.gue]::_):=hS6a; clear hS6a
  refine Qf (Qc (Qe (Qa (Qg U JV U (Qo U QM (by first | assumption | exact j6.cell 0 U U) U ?_)))))
  refine Qb U U (Xc U U U (Qf (Qc (Qh [11,10,9,5,1,0,7,18] U (Qt U (fun h7=> ?_) (fun h7=> ?_))))))
  ·have hv:k.par=id:=h7
   refine Qa (Qb U U (Qg U J5 U (Qo U QM (by first | assumption | exact j6.cell 0 U U) U ?_)))
   refine ZV inC [k.id] j6 U underlying22 Bl U U U U (by first | rfl | simp [RowC.cells,Wu,Xz]) U ?_
   intro b8 w8 j8
   refine Jf inC 4 j8 U U U (j8.rd 0 U (by simp)) underlying22 underlying22 (by intro k hk; cases hk) TH U (by simp only[List.length_cons,List.length_nil,inC];omega) U (by simp only[List.length_cons,List.length_nil,inC];omega) ?_
   intro v9 w9 j9; dsimp only[List.set]at j9
   have h1v9:v9.oneCell'=true:=j9.own_one 4 U
   refine Qd U U (Qf (Ql (Qc (Qh [11,10,9,1,0,5] U (Qa (QK U U (by omega) (by omega) U ?_))))))
   refine Qb U U (Qf ?_)
   have hzz:=j9.pick [2,3,4,5] U
   have heq:=D8 (T:=T) (who:=id) hk
   rw[if_pos hv]at heq
   rw[←heq]at hzz
   exact Q5 (L1:=[(0,_),(1,_),(5,_),(9,_),(10,_),(11,intV ((q+1:Nat):Int))]) (G4 U U U U U U) (k1:=(QI T ids).length -(q+1)) (by omega) ⟨q+1,_,rfl,rfl,hzz, by omega⟩
  have hv: ¬k.par=id:=h7
  refine Qs (Ql (Qc (Qa (QK U U (by omega) (by omega) U ?_))))
  refine Qb U U (Qf ?_)
  have hzz:=j6.pick [1,2,3,4] U
  have heq:=D8 (T:=T) (who:=id) hk
  rw[if_neg hv,List.append_nil]at heq
  rw[←heq]at hzz
  exact Q5 (L1:=[(0,_),(1,_),(5,_),(9,_),(10,_),(11,intV ((q+1:Nat):Int))]) (G4 U U U U U U) (k1:=(QI T ids).length -(q+1)) (by omega) ⟨q+1,_,rfl,rfl,hzz, by omega⟩
 refine QT (Qq (Qq (Qy (Qc (Qe (Qa (Qb U U (Qd U U (Qf (Qc (Qv (QR (.inr U) U U ?_))))))))))))
 have hqe:q=(QI T ids).length:= by omega
 have hzz:=j2.pick [2,0,3] U
 rw[hqe,List.take_length,TF hI (fun i hi=>((hF.1.2 i).1 hi).2)]at hzz
 exact⟨_,U,hzz⟩
theorem MZ {w:World} {a:TrAd} {T:Nodes} {last:Int} {F:Th} (hS:Sat w [Zp a T last,F]) (id:Int):
    Calls prog 18 #[ptrV a.t 0,intV id] w (Ret fun v w'=>v= .tuple #[.agg #[intV (nd T id).id,intV (nd T id).par,intV (nd T id).dep,intV (nd T id).gue],.bool ((T id).isSome&&decide (id≠0))]∧Sat w' [Zp a T last,F]):= by
 replace hS:=Zk hS
 refine Qn func18 U ntmps18 U ?_
 refine Qe (Qa (Xa hS MT U U ?_))
 intro rb w1 j1
 refine Qd U U (Qf (Qc (Qe (Qa (Qb U U (Qi U U (Qg U Wb U (Qo U J3 (by first | assumption | exact j1.cell 0 U U | exact j1.cell 1 U U) U ?_))))))))
 refine Qb U U (Xj (k:=id) 2 j1 keysInt underlying58 U U U Wy (u:= .agg #[intV (nd T id).id,intV (nd T id).par,intV (nd T id).dep,intV (nd T id).gue,intV (nd T id).el,.bool (nd T id).timed,.bool (nd T id).short]) (g:=(T id).isSome) (US _) (Mr _) U (Qb U U (Qp U U U (Qp U U U (Xa j1 Wy U U ?_)))))
 intro nb w2 j2
 refine Q9 j2 U U Uk U (by first | rfl | (simp [QV,Value.oneCell'];done)) (i:=0) U (by first | decide | exact Q7 U) ?_
 intro w3 hS3a; dsimp only[List.set]at hS3a
 have j3:Sat w3 (QE nb [intV (nd T id).id,intV (nd T id).par,intV (nd T id).dep,intV (nd T id).gue,intV (nd T id).el,.bool (nd T id).timed,.bool (nd T id).short]::_):=hS3a; clear hS3a
 refine Qd U U (Qf (Qc (Qh [1,4,5,6,7] U (Qe (Qa (Qg U YC U ?_))))))
 refine Wi U CB Vt (by first | exact j3.blk 0 U | exact j3.blk 1 U | exact j3.blk 2 U) (by first | decide | exact Q7 U | (simp;done) | omega) U U ?_
 refine Qb U U (Qb U U (Xw 20 U (fun h4=> ?_) (fun h4=> ?_)))
 ·have hsm:(T id).isSome=true:=h4
  refine Qj U U h4 (Qb U U (Qj U U h4 (Xp U U U (QN U h4 U U ?_))))
  refine Q9 j3 U U Vt U (by first | rfl | (simp [QV,Value.oneCell'];done)) (i:=1) U (by first | decide | exact Q7 U) ?_
  intro w5 j5; dsimp only[List.set]at j5
  refine Qd U U (Qf (Qc (Qh [4,5] U (Qv ?_))))
  refine finR2 (.inr U) U (Tq U CB Vt (by first | exact j5.blk 0 U | exact j5.blk 1 U | exact j5.blk 2 U) (by first | decide | exact Q7 U | (simp;done) | omega) U) (Vl U) ?_
  exact⟨_,rfl, by first | (congr 1;congr 1;congr 1;congr 1; simp [*];done) | (simp [*];done),X1 (j5.pick [2,3,4] U)⟩
 have hsm:(T id).isSome=false:=h4
 refine Qk U U h4 U (Qk U U h4 U (QC U h4 U U ?_))
 refine Q9 j3 U U Vt U (by first | rfl | (simp [QV,Value.oneCell'];done)) (i:=1) U (by first | decide | exact Q7 U) ?_
 intro w6 j6; dsimp only[List.set]at j6
 refine Qd U U (Qf (Qc (Qh [4,5] U (Qv ?_))))
 refine finR2 (.inr U) U (Tq U CB Vt (by first | exact j6.blk 0 U | exact j6.blk 1 U | exact j6.blk 2 U) (by first | decide | exact Q7 U | (simp;done) | omega) U) (Vl U) ?_
 exact⟨_,rfl, by first | (congr 1;congr 1;congr 1;congr 1; simp [*];done) | (simp [*];done),X1 (j6.pick [2,3,4] U)⟩
theorem EX {w:World} {a:TrAd} {T:Nodes} {last:Int} {C:CeD} {p n m cc e:Nat} {A:LvA} {F:Th} (hS:Sat w [QE a.t [.map (some a.mt),ptrV a.c 0,ptrV a.b 0,intV last],Q6 QX a.mt (Vn T),Yb a.c C,Yr a.b p n m cc e A,F]) (hn:n≤60000000000) (hm:m<Wd) {id par dep gue:Int} {y:OneD} (hcn:C.all id=none) (hcy:C.all par=some y) (h1:1≤id) (hky:0≤y.kids∧y.kids≤100000000000):
    Calls prog 28 #[ptrV a.t 0,.agg #[intV id,intV par,intV dep,intV gue]] w (Ret fun v w'=> ∃x:OneD,(∀j z,C.all j=some z→z.ad≠x.ad)∧x.par=some y.ad∧x.kids=0∧F7 x∧Sat w' [QE a.t [.map (some a.mt),ptrV a.c 0,ptrV a.b 0,intV last],Q6 QX a.mt (Vn (QO T id (some (⟨id,par,dep,gue,0,false,false⟩:NodeD)))),Yb a.c (⟨C.ma,QO (QO C.all par (some {y with kids:=y.kids+1})) id (some x)⟩:CeD),Yr a.b p n (m+1) cc e (UD A id par),F]):= by
 refine Qn func28 U ntmps28 U ?_
 refine Qe (Qa (XV hS U U U ?_))
 intro xb w1 j1; replace j1:Sat w1 (QE xb [intV id,intV par,intV dep,intV gue]::_):=j1
 refine Qf (Qc (Qe ?_))
 have j2:=j1.drew
 refine QH [0,1,2,3,4,5,6,7,8] [8] ZW (by kernel_rfl) ?_
 refine QJ U U U (Xd U U U (QP U U U Wb (Q3 U U U (Qm U J3 (by first | assumption | exact j2.cell 0 U U | exact j2.cell 1 U U)) ?_)))
 refine QP U U U J5 (Q3 U U U (Qm U QM (by first | assumption | exact j2.cell 0 U U | exact j2.cell 1 U U)) ?_)
 refine Q3 U U U (X3 U CB Vt (by first | exact j2.blk 0 U | exact j2.blk 1 U) (by first | decide | exact Q7 U | (simp;done) | omega) U) ?_
 refine Xh U U U (fun _=>(Wg U pl_56_0 EZ Wy U)) ?_
 refine Xl U U U U U U ?_
 refine Xi (k:=id) (v:=ndA (⟨id,par,dep,gue,0,false,false⟩:NodeD)) 2 j2 keysInt underlying58 U U U U ?_
 intro w3 j3; dsimp only[List.set]at j3; rw[Nk]at j3
 refine Zj (Xq (by kernel_rfl)) ?_
 refine VC.nil (Qc (Qh [0,3] U (Qe ?_)))
 have j4:=j3.drew
 refine QH [0,1,2,3,4,5,6,7,8] [8] ZW (by kernel_rfl) ?_
 refine QJ U U U (Xd U U U (QP U U U Uc (Q3 U U U (Qm U BF (by first | assumption | exact j4.cell 0 U U | exact j4.cell 1 U U)) ?_)))
 refine QP U U U J5 (Q3 U U U (Qm U QM (by first | assumption | exact j4.cell 0 U U | exact j4.cell 1 U U)) ?_)
 refine QP U U U JV (Q3 U U U (Qm U QM (by first | assumption | exact j4.cell 0 U U | exact j4.cell 1 U U)) ?_)
 refine Xl U U U U U U ?_
 refine Q0 cal_47 U (N5 (j4.sp [3] U) hcn hcy h1 hky) U ?_
 rintro _ w5 ⟨rfl,x,hnew,hxp,hxk,hxq,j5⟩
 replace j5:=j5.jn U U
 refine XH (Xq (by kernel_rfl)) ?_
 refine VC.nil (Qc (Qh [0,3] U ?_))
 have j6:=j5.drew
 refine QH [0,1,2,3,4,5,6,7,8] [8] ZW (by kernel_rfl) ?_
 refine QJ U U U (Xd U U U (QP U U U Ub (Q3 U U U (Qm U BE (by first | assumption | exact j6.cell 1 U U | exact j6.cell 2 U U)) ?_)))
 refine QP U U U J5 (Q3 U U U (Qm U QM (by first | assumption | exact j6.cell 1 U U | exact j6.cell 2 U U)) ?_)
 refine QP U U U JV (Q3 U U U (Qm U QM (by first | assumption | exact j6.cell 1 U U | exact j6.cell 2 U U)) ?_)
 refine Xl U U U U U U ?_
 refine Q0 cal_48 U (LF (j6.sp [4] U) hn hm id par) U ?_
 rintro _ w7 ⟨rfl,j7⟩
 replace j7:=j7.jn U U
 refine XH (Xq (by kernel_rfl)) ?_
 exact VC.nil (ZP (.inl U) U (⟨_,U,x,hnew,hxp,hxk,hxq,j7.pick [3,4,1,0,5] U⟩))
theorem KP {w:World} {a:TrAd} {T:Nodes} {last:Int} {C:CeD} {p n m cc e:Nat} {A:LvA} {F:Th} (hS:Sat w [Zp a T last,Yb a.c C,Yr a.b p n m cc e A,F]) (hn:n≤60000000000) (hm:m<Wd) (hI:TrI T last) (hW:CeW C T) {ids:List Int} (hF:FewT T ids) {parent guess:Int} {p0:NodeD} {y:OneD} (hp:T parent=some p0) (hcy:C.all parent=some y) (hg:0≤guess∧guess≤1152921504606846976) (hd8:p0.dep≤8) (hd0:0≤p0.dep) (hl:last≤100000000000):
    Calls prog 9 #[ptrV a.t 0,intV parent,intV guess] w (Ret fun v w'=>((8≤p0.dep∨32≤ids.length)∧v= .tuple #[intV 0,intV 6]∧Sat w' [Zp a T last,Yb a.c C,Yr a.b p n m cc e A,F])∨(¬(8≤p0.dep∨32≤ids.length)∧v= .tuple #[intV (last+1),intV 0]∧ ∃x:OneD,(∀j z,C.all j=some z→z.ad≠x.ad)∧x.par=some y.ad∧x.kids=0∧F7 x∧Sat w' [Zp a (QO T (last+1) (some (⟨last+1,parent,p0.dep+1,guess,0,false,false⟩:NodeD))) (last+1),Yb a.c (⟨C.ma,QO (QO C.all parent (some {y with kids:=y.kids+1})) (last+1) (some x)⟩:CeD),Yr a.b p n (m+1) cc e (UD A (last+1) parent),F])):= by
 have hky:0≤y.kids∧y.kids≤100000000000:= by have :=hW.kid40 hF hcy;omega
 have h00:=hI.root.choose_spec.1
 have hl0:=hI.last0
 replace hS:=Zk hS
 refine Qn func9 U ntmps9 U ?_
 refine Qe (Qa (Qd U U (Qd U U (Qf (Qc (Qe (Qa (Qb U U (Qi U U (Qg U Wb U (Qo U J3 (by first | assumption | exact hS.cell 0 U U) U ?_)))))))))))
 refine Qb U U (Xj (k:=parent) 1 hS keysInt underlying58 U U U Wy (u:= .agg #[intV p0.id,intV p0.par,intV p0.dep,intV p0.gue,intV p0.el,.bool p0.timed,.bool p0.short]) (g:=true) (Yq hp) (YT hp) U (Qb U U (Qp U U U (Qp U U U (Xa hS Wy U U ?_)))))
 intro nb w1 j1
 refine Q9 j1 U U Uk U (by first | rfl | (simp [QV,Value.oneCell'];done)) (i:=0) U (by first | decide | exact Q7 U) ?_
 intro w2 hS2a; dsimp only[List.set]at hS2a
 have j2:Sat w2 (QE nb [intV p0.id,intV p0.par,intV p0.dep,intV p0.gue,intV p0.el,.bool p0.timed,.bool p0.short]::_):=hS2a; clear hS2a
 refine Qd U U (Qf (Qc (Qh [2,1,0,6,7,8,9] U (Qe (Qw (Qe (Qa (Qb U U (Xn U U U (Qb U U (QZ 22 U (fun h3=> ?_) (fun h3=> ?_))))))))))))
 ·exact absurd h3 (by omega)
 refine Qj U U (QF h3) (Qb U U (Qj U U (QF h3) (J6 U U U (QC U (QF h3) U U (Qd U U (Qf (Qc (Qh [2,1,0,6,7,8,9,19] U (Qt U (fun h4=> ?_) (fun h4=> ?_))))))))))
 ·exact absurd h4 (by omega)
 refine Qe (Qa (Qb U U (QU U U (Qd U U (Qf (Qc (Qh [2,1,0,6,7,8,26] U (QS U (fun h5=> ?_) (fun h5=> ?_)))))))))
 ·exact absurd h5 (by decide)
 refine Qe (Qa (Qg U YC U (Qg U UX U (Qo U QM (by first | assumption | exact j2.cell 0 U U | exact j2.cell 1 U U) U ?_))))
 refine Jr U U U (Qb U U (QZ 34 U (fun h6=> ?_) (fun h6=> ?_)))
 ·exact Qk U U (det h6) U (Qk U U (det h6) U (Qk U U (det h6) U (Qk U U (det h6) U (Qk U U (det h6) U (Qk U U (det h6) U (QN U (det h6) U U (Qd U U (Qf (Qc (Qh [2,1,0,6,7,8,29] U (XD U (Qe (Qa (Qd U U (Qd U U (Qf (Qc (Qv (Q1 (Qr (Jm (.inr U) U U U (⟨_,rfl,.inl ⟨by omega,rfl,(X1 (j2.pick [1,2,3,4,5] U))⟩⟩))))))))))))))))))))))
 refine Qj U U (QF h6) (Qb U U (Qj U U (QF h6) (Qi U U (Qj U U (QF h6) (Qg U Wb U (Qj U U (QF h6) (Qo U J3 (by first | assumption | exact j2.cell 0 U U | exact j2.cell 1 U U) U ?_)))))))
 refine Qj U U (QF h6) (wl_lenM 2 j2 underlying58 keysInt.inj U U U (fun mm hmm=> ?_))
 obtain rfl:=hmm.uniq (hF.card h00)
 refine Qj U U (QF h6) (J6 U U U (QC U (QF h6) U U (Qd U U (Qf (Qc (Qh [2,1,0,6,7,8,29] U (Qt U (fun h7=> ?_) (fun h7=> ?_))))))))
 ·exact Qe (Qa (Qd U U (Qd U U (Qf (Qc (Qv (Q1 (Qr (Jm (.inr U) U U U (⟨_,rfl,.inl ⟨by omega,rfl,(X1 (j2.pick [1,2,3,4,5] U))⟩⟩))))))))))
 refine Qs (Ql (Qc (Qe (Qa (Qb U U (Qi U U (Qg U Gl U (Qo U QM (by first | assumption | exact j2.cell 0 U U | exact j2.cell 1 U U) U ?_))))))))
 refine QK U U (by omega) (by omega) U ?_
 refine Qi U U (Qg U Gl U ?_)
 first | (refine Qx j2 U U Js (by first | rfl | assumption) (i:=0) U (by first | decide | exact Q7 U | (simp;done) | omega) ?_) | (refine Qx j2 U U Js (by first | rfl | assumption) (i:=1) U (by first | decide | exact Q7 U | (simp;done) | omega) ?_)
 intro w8 j9; dsimp only[List.set]at j9
 refine Qf (Qc (Qh [2,1,0,6,7,8] U (Qe ?_)))
 have j10:=j9.drew
 refine QH [0,1,2,3,4,5,6,7,8,9,10,11,12] [12] ZW (by kernel_rfl) ?_
 refine QJ U U U (QJ U U U (Xd U U U (QP U U U Gl (Q3 U U U (Qm U QM (by first | assumption | exact j10.cell 0 U U | exact j10.cell 1 U U)) ?_))))
 refine QJ U U U (QP U U U YC (QP U U U UX (Q3 U U U (Qm U QM (by first | assumption | exact j10.cell 0 U U | exact j10.cell 1 U U)) ?_)))
 refine Xh U U U (fun _=>(VN U U (by omega) (by omega))) ?_
 refine QJ U U U (Xh U U U (fun _=>(Wg U BR asz_43 MT U)) ?_)
 refine Xl U U U U U U ?_
 have hnl:T (last+1)=none:= by cases q:T (last+1)with | none=>rfl | some z=>(have :=hI.pos q (by have :=hI.last0;omega);omega)
 have hcn:=(hW.dom (last+1)).2 hnl
 have hl0:=hI.last0
 refine Q0 cal_28 U (EX (last:=last+1) (par:=parent) (j10.sp [1,2,3,4] U) hn hm hcn hcy (by omega) hky) U ?_
 rintro _ w11 ⟨x,hnew,hxp,hxk,hxq,j11⟩
 replace j11:=j11.jn U U
 refine XH (Xq (by kernel_rfl)) ?_
 refine VC.nil (Qc (Qh [0,6,7] U (Qe (Qa (Qb U U (Qi U U (Qg U Gl U (Qo U QM (by first | assumption | exact j11.cell 0 U U | exact j11.cell 4 U U) U ?_))))))))
 exact Qd U U (Qd U U (Qf (Qc (Qv (Jm (.inr U) U U U (⟨_,rfl,.inr ⟨by omega,rfl,x,hnew,hxp,hxk,hxq,X1 (last:=last+1) (T:=QO T (last+1) (some (⟨last+1,parent,p0.dep+1,guess,0,false,false⟩:NodeD))) (j11.pick [0,1,2,3,5] U)⟩⟩))))))
def VaP (T:Nodes) (C:CeD) (A:LvA) (n:NodeD) (x:OneD) (tA:TrA):Prop:=(n.timed=true→n.gue=(nd T n.par).gue+(nd T n.par).el)∧(∀z∈x.order,SeesR C T z.1 n.par z.2)∧VA A tA
theorem FH {w:World} {a:TrAd} {T:Nodes} {last:Int} {C:CeD} {p n m cc e:Nat} {A:LvA} {F:Th} (hS:Sat w [Zp a T last,Yb a.c C,Yr a.b p n m cc e A,F]) (hn:n≤60000000000) (hm:m<Wd) (hG:Ent F GT) (hI:TrI T last) (hW:CeW C T) {id:Int} {n0:NodeD} {x:OneD} {tA:TrA} (hn0:T id=some n0) (h0:id≠0) (hsh:n0.short=false) (hx:C.all id=some x) (hol:x.order.length≤100000000000) (ht:A.tr id=some tA) (hpb:0≤(nd T n0.par).gue∧(nd T n0.par).gue≤4000000000000000000∧0≤(nd T n0.par).el∧(nd T n0.par).el≤4000000000000000000):
    Calls prog 15 #[ptrV a.t 0,intV id] w (Ret fun v w'=> ∃r:Bool,v= .bool r∧(r=true↔VaP T C A n0 x tA)∧Sat w' [Zp a T last,Yb a.c C,Yr a.b p n m cc e A,F]):= by
 replace hS:=Zk hS
 refine Qn func15 U ntmps15 U ?_
 refine Qe (Qa (Qd U U (Qf (Qc (Qe (Qa (Qb U U (Qi U U (Qg U Wb U (Qo U J3 (by first | assumption | exact hS.cell 0 U U) U ?_))))))))))
 refine Qb U U (Xj (k:=id) 1 hS keysInt underlying58 U U U Wy (u:= .agg #[intV n0.id,intV n0.par,intV n0.dep,intV n0.gue,intV n0.el,.bool n0.timed,.bool false]) (g:=true) (by rw[Yq hn0,hsh]) (YT hn0) U ?_)
 refine Qb U U (Qp U U U (Qp U U U (Xa hS Wy U U ?_)))
 intro nb w1 j1
 refine Q9 j1 U U Uk U (by first | rfl | (simp [QV,Value.oneCell'];done)) (i:=0) U (by first | decide | exact Q7 U) ?_
 intro w2 hS2a; dsimp only[List.set]at hS2a
 have j2:Sat w2 (QE nb [intV n0.id,intV n0.par,intV n0.dep,intV n0.gue,intV n0.el,.bool n0.timed,.bool false]::_):=hS2a; clear hS2a
 refine Qd U U (Qf (Qc (Qh [1,0,4,5,6] U (Qe (Qe ?_)))))
 have j3:=j2.drew
 refine QH [0,1,2,3,4,5,6,7,8,9,10,11,12,13,14,15,16,17,18,19,20,21,22,23,24] [21] ZW (by kernel_rfl) ?_
 refine QJ U U U (Xh U U U (fun _=>(Hi U)) ?_)
 refine QJ U U U (GC 18 U (fun h4=> ?_) (fun h4=> ?_))
 ·exact absurd h4 (by decide)
 refine Xh U U (Q4 U U h4) (fun _=>(Ev.gd (Xk U))) ?_
 refine Xh U U (Q4 U U h4) (fun _=>(Ev.gd (M5 U U))) ?_
 refine Xh U U U (fun _=>(ZZ U h4 U)) ?_
 refine QJ U U U (YN 22 U (fun h5=> ?_) (fun h5=> ?_))
 ·exact absurd h5 h0
 refine Xh U U (Q4 U U (QF h5)) (fun _=>(Ev.gd (XU U fo_56_3))) ?_
 refine Q3 U U (Q4 U U (QF h5)) (Ev.gd (Qm U VU (by first | assumption | exact j3.cell 0 U U | exact j3.cell 1 U U))) ?_
 refine Xh U U U (fun _=>(ZZ U (QF h5) U)) ?_
 refine QJ U U U (GC 26 U (fun h6=> ?_) (fun h6=> ?_))
 ·exact absurd h6 (by decide)
 refine Xh U U (Q4 U U h6) (fun _=>(Ev.gd (XU U UW))) ?_
 refine Q3 U U (Q4 U U h6) (Ev.gd (Qm U VU (by first | assumption | exact j3.cell 0 U U | exact j3.cell 1 U U))) ?_
 refine Xh U U (Q4 U U h6) (fun _=>(Ev.gd (Xk U))) ?_
 refine GC 29 U (fun h7=> ?_) (fun h7=> ?_)
 ·have htm:n0.timed=true:=h7
  refine Xh U U (Q4 U U h7) (fun _=>(Ev.gd (XU U YC))) ?_
  refine Xh U U (Q4 U U h7) (fun _=>(Ev.gd (XU U My))) ?_
  refine Q3 U U (Q4 U U h7) (Ev.gd (Qm U QM (by first | assumption | exact j3.cell 0 U U | exact j3.cell 1 U U))) ?_
  refine Xh U U (Q4 U U h7) (fun _=>(Ev.gd (Xk U))) ?_
  refine Xh U U (Q4 U U h7) (fun _=>(Ev.gd (XU U YC))) ?_
  refine Xh U U (Q4 U U h7) (fun _=>(Ev.gd (XU U JV))) ?_
  refine Q3 U U (Q4 U U h7) (Ev.gd (Qm U QM (by first | assumption | exact j3.cell 0 U U | exact j3.cell 1 U U))) ?_
  refine Xl U U (Q4 U U h7) U U U ?_
  have j8:=X1 (T:=T) (last:=last) (j3.pick [1,2,0,3,4,5] U)
  refine Q0 cal_12 U (time_sp (j8.sp [0] U) n0.par hpb) U ?_
  rintro _ w9 ⟨rfl,j9⟩
  replace j9:=j9.jn U U
  have j10:=Zk (j9.pick [0,1,2,3,4] U)
  refine XH (.skip (by kernel_rfl) (.cons (.inl ⟨(Q4 U U h7),(Ev.gd (Qm U QM (by first | assumption | exact j10.cell 0 U U | exact j10.cell 2 U U)))⟩) (Xq (by kernel_rfl)))) ?_
  refine Xh U U (Q4 U U h7) (fun _=>(Ev.gd (Bw U U))) ?_
  refine Xh U U (Q4 U U h6) (fun _=>(Ev.gd (HD U h7 U))) ?_
  refine Xh U U U (fun _=>(ZZ U h6 U)) ?_
  refine VC.nil (Qc (Qh [1,0,4,40] U (Qt U (fun h11=> ?_) (fun h11=> ?_))))
  ·have hgp: ¬n0.gue=(nd T n0.par).gue+(nd T n0.par).el:=h11
   exact Qe (Qa (Qd U U (Qf (Qc (Qv (Qr (QR (.inr U) U U (⟨_,rfl,false,rfl,⟨fun q=>(by cases q), fun q=>absurd (q.1 htm) hgp⟩,X1 (j10.pick [0,1,3,4,5] U)⟩))))))))
  have hgp:n0.gue=(nd T n0.par).gue+(nd T n0.par).el:=Decidable.not_not.1 h11
  refine Qs (Qc (Qe (Qa (Qb U U (Qi U U (Qg U Uc U (Qo U BF (by first | assumption | exact j10.cell 0 U U | exact j10.cell 2 U U) U ?_)))))))
  refine Qb U U (Q0 EM U (B6 (j10.sp [3] U) hW hI hx h0 hn0 hol) U ?_)
  rintro _ w12 ⟨r1,rfl,hr1,j12⟩
  replace j12:=j12.jn U U
  refine Qb U U (Xw 47 U (fun h13=> ?_) (fun h13=> ?_))
  ·have hr1t:r1=true:=h13
   refine Qj U U h13 (Qb U U (Qj U U h13 (Qi U U (Qj U U h13 (Qg U Ub U (Qj U U h13 (Qo U BE (by first | assumption | exact j12.cell 1 U U | exact j12.cell 3 U U) U ?_)))))))
   refine Qj U U h13 (Qb U U (Qj U U h13 (Q0 EL U (TB (j12.sp [4] U) hn hm (hG.starL 4 U) ht) U ?_)))
   rintro _ w14 ⟨r2,rfl,hr2,j14⟩
   replace j14:=j14.jn U U
   exact QN U h13 U U (Qd U U (Qf (Qc (Qh [4] U (Qv (QR (.inr U) U U (⟨_,rfl,r2,rfl,⟨fun q=>⟨fun _=>hgp,hr1.1 hr1t,hr2.1 q⟩, fun q=>hr2.2 q.2.2⟩,X1 (j14.pick [2,3,1,0,5] U)⟩)))))))
  have hr1f:r1=false:=h13
  refine Qk U U h13 U (Qk U U h13 U (Qk U U h13 U (Qk U U h13 U (Qk U U h13 U (Qk U U h13 U (QC U h13 U U (Qd U U (Qf (Qc (Qh [4] U (Qv (QR (.inr U) U U ?_))))))))))))
  exact⟨_,rfl,false,rfl,⟨fun q=>(by cases q), fun q=>absurd (hr1.2 q.2.1) (by rw[hr1f];decide)⟩,X1 (j12.pick [1,2,0,4,5] U)⟩
 have htm:n0.timed=false:=h7
 refine X7 U U (QY U U h7) (X7 U U (QY U U h7) (X7 U U (QY U U h7) (X7 U U (QY U U h7) (X7 U U (QY U U h7) (X7 U U (QY U U h7) (X7 U U (QY U U h7) (VC.spineNot U U (QY U U h7) (X7 U U (QY U U h7) (Xh U U (Q4 U U h6) (fun _=>(Ev.gd (ZZ U h7 U))) ?_)))))))))
 refine Xh U U U (fun _=>(ZZ U h6 U)) ?_
 refine VC.nil (Qc (Qh [1,0,4,40] U (QL U (Qs (Qc (Qe (Qa (Qb U U (Qi U U (Qg U Uc U (Qo U BF (by first | assumption | exact j3.cell 0 U U | exact j3.cell 1 U U) U ?_)))))))))))
 refine Qb U U (Q0 EM U (B6 (j3.sp [3] U) hW hI hx h0 hn0 hol) U ?_)
 rintro _ w15 ⟨r1,rfl,hr1,j15⟩
 replace j15:=j15.jn U U
 refine Qb U U (Xw 47 U (fun h16=> ?_) (fun h16=> ?_))
 ·have hr1t:r1=true:=h16
  refine Qj U U h16 (Qb U U (Qj U U h16 (Qi U U (Qj U U h16 (Qg U Ub U (Qj U U h16 (Qo U BE (by first | assumption | exact j15.cell 1 U U | exact j15.cell 2 U U) U ?_)))))))
  refine Qj U U h16 (Qb U U (Qj U U h16 (Q0 EL U (TB (j15.sp [4] U) hn hm (hG.starL 4 U) ht) U ?_)))
  rintro _ w17 ⟨r2,rfl,hr2,j17⟩
  replace j17:=j17.jn U U
  refine QN U h16 U U (Qd U U (Qf (Qc (Qh [4] U (Qv (QR (.inr U) U U ?_))))))
  exact⟨_,rfl,r2,rfl,⟨fun q=>⟨fun q=>absurd q (by rw[htm];decide),hr1.1 hr1t,hr2.1 q⟩, fun q=>hr2.2 q.2.2⟩,X1 (j17.pick [3,4,1,0,5] U)⟩
 have hr1f:r1=false:=h16
 refine Qk U U h16 U (Qk U U h16 U (Qk U U h16 U (Qk U U h16 U (Qk U U h16 U (Qk U U h16 U (QC U h16 U U (Qd U U (Qf (Qc (Qh [4] U (Qv (QR (.inr U) U U ?_))))))))))))
 exact⟨_,rfl,false,rfl,⟨fun q=>(by cases q), fun q=>absurd (hr1.2 q.2.1) (by rw[hr1f];decide)⟩,X1 (j15.pick [2,3,0,4,5] U)⟩
