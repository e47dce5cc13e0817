/- move: hearPart -/
import Derived.Test.YtiibgheijbbmaaaGreatDoorMvy2
set_option linter.unusedVariables false
set_option maxRecDepth 100000
set_option maxHeartbeats 2000000
namespace Go.Proofs.YtiibgheijbbmaaaGreatDoor
open Go.RowKit M Proofs.Tryz
theorem TT (l:AL Bs) (i:Int):(Ux l i).getD (strV [])=strV ((Xg l i).getD []):= by unfold Ux; cases Xg l i<;>rfl
theorem LE (l:AL Bs) (i:Int):(Ux l i).isSome=(Xg l i).isSome:= by unfold Ux; cases Xg l i<;>rfl
theorem LD {l:AL Bs} (hs:Srt l) (i:Int) (x:Bs):upd (Ux l) i (some (strV x))=Ux (Zk i x l):= by
  funext k;unfold upd Ux; rw[CY hs]
  by_cases h:k=i
  · rw[if_pos h,if_pos h];rfl
  · rw[if_neg h,if_neg h]
theorem TS {l:AL Bs} (h:Srt l):Card (Ux l) l.length:= by
  refine⟨Zu l,h.imp fun q r=> by omega, by unfold Zu; rw[List.length_map], fun k=> ?_⟩
  unfold Ux
  have :=JO (l:=l) (i:=k)
  cases q:Xg l k with
  | none=> rw[q]at this; simp at this⊢; exact this
  | some x=> rw[q]at this; simp at this⊢; exact this
def Ft (o:OfD) (i:Nat):Bs:=(List.range i).flatMap fun (i:Nat)=>(Xg o.parts (i:Int)).getD []
theorem Fq (o:OfD) (i:Nat):Ft o (i+1)=Ft o i++(Xg o.parts (i:Int)).getD []:= by unfold Ft; rw[List.range_succ,List.flatMap_append]; simp
theorem LT {o:OfD} (h:OfW o) (i:Nat):(Ft o i).length≤i*1000:=Rz (f:= fun (i:Nat)=>(Xg o.parts (i:Int)).getD []) (n:=1000) (fun i=>BZ (fun e he=>(h.pl e he).2.2) _) i
section
variable {E:EnD} {m:MsD} {o:OfD}
theorem Rk (h:m.b<1∨8000<m.b∨m.a<0∨m.b≤m.a):Zj E m=(E,[]):= by unfold Zj; rw[if_pos h]
theorem E8 (h: ¬(m.b<1∨8000<m.b∨m.a<0∨m.b≤m.a)) (hj:Ww E m.move=none):Zj E m=(E,[]):= by unfold Zj; rw[if_neg h,hj]
theorem E7 (h: ¬(m.b<1∨8000<m.b∨m.a<0∨m.b≤m.a)) (hj:Ww E m.move=some o) (h1:(XO o m.b).many≠m.b):Zj E m=({E with off:=some (XO o m.b)},[]):= by unfold Zj; rw[if_neg h,hj]; dsimp only; rw[if_pos h1]
theorem BW (h: ¬(m.b<1∨8000<m.b∨m.a<0∨m.b≤m.a)) (hj:Ww E m.move=some o) (h1: ¬(XO o m.b).many≠m.b) (h2:((JR (XO o m.b) m).parts.length:Int)<(JR (XO o m.b) m).many∨(Wy (We (JR (XO o m.b) m))).2=false):Zj E m=({E with off:=some (JR (XO o m.b) m)},[]):= by
  unfold Zj; rw[if_neg h,hj]; dsimp only; rw[if_neg h1]
  rcases h2 with q | q
  · rw[if_pos q]
  · split
    · rfl
    · rfl
theorem BV (h: ¬(m.b<1∨8000<m.b∨m.a<0∨m.b≤m.a)) (hj:Ww E m.move=some o) (h1: ¬(XO o m.b).many≠m.b) (h2: ¬((JR (XO o m.b) m).parts.length:Int)<(JR (XO o m.b) m).many) (h3: ¬(Wy (We (JR (XO o m.b) m))).2=false):Zj E m=YQ {E with off:=some {JR (XO o m.b) m with list:=We (JR (XO o m.b) m)}} m.move:= by
  unfold Zj; rw[if_neg h,hj]; dsimp only; rw[if_neg h1,if_neg h2,if_neg h3]
theorem Fj {n:Int} (h:(QT E 2 n).1≠0):YQ E n=((QT E 2 n).2,[]):= by unfold YQ; rw[if_pos h]
theorem Ce {n:Int} (h:(QT E 2 n).1=0):YQ E n=({(QT E 2 n).2 with ses:=none},[Z3 (QT E 2 n).2 2 0 0 []]):= by unfold YQ; rw[if_neg (by omega)]
end
theorem CI {w:World} {e:Nat} {E:EnD} {F:Th} (hS:Sat w [Xw e E,F]) (m:MsD) (hG:Ent F WireG) (hO:Ent F (Glob 0)) (hW:EW E) (hm:MsW m) (hu:E.cell≠none):
    Calls prog 71 #[ptrV e 0,.agg #[intV m.kind,intV m.move,intV m.a,intV m.b,strV m.data]] w (Ret fun v w'=>Sat w' [rowT Zn v (Zj E m).2,Xw e (Zj E m).1,F]):= by
 refine Qy func71 Qa ntmps71 Qa ?_
 have hmi:X4 m.move:= by have :=hm.mv;unfold X4;omega
 have hmd:=hm.d
 refine Qf (Qb (Za hS Qa Qa Qa ?_))
 intro mp w1 hS1
 replace hS1:Sat w1 (Xb mp [intV m.kind,intV m.move,intV m.a,intV m.b,strV m.data]::_):=hS1
 refine Qc Qa Qa (Qh (Qd (Qf (Qf (Qb (Qi Qa Jk Qa (Qr Qa QH (hS1.cell 0 Qa Qa) Qa (X5 Qa Qa Qa (Qe Qa Qa (Q4 15 Qa (fun h2=> ?_) (fun h2=> ?_)))))))))))
 ·refine Qg Qa Qa (QD h2) Qa (Qg Qa Qa (QD h2) Qa (Qg Qa Qa (QD h2) Qa (Q1 Qa (QD h2) Qa Qa (Qe Qa Qa (Qg Qa Qa Qa Qa (Qg Qa Qa Qa Qa (Qg Qa Qa Qa Qa (Q1 Qa Qa Qa Qa (Qe Qa Qa (Qg Qa Qa Qa Qa (Qg Qa Qa Qa Qa (Qg Qa Qa Qa Qa (Qg Qa Qa Qa Qa (Qg Qa Qa Qa Qa (Q1 Qa Qa Qa Qa (Qh (Qd (Qk [0,3,4,31] Qa (QP Qa (Qf (Qb (Qc Qa Qa (Qh (Qd (Qo (Qm (Q5 (.inr Qa) Qa Qa ?_)))))))))))))))))))))))))))
  exact⟨_,rfl, by rw[Rk (by omega)]; exact(Sat.row_nil Zn (hS1.pick [1,2] Qa))⟩
 refine Qj Qa Qa (Qx h2) (Qi Qa Jk Qa (Qj Qa Qa (Qx h2) (Qr Qa QH (hS1.cell 0 Qa Qa) Qa (Qj Qa Qa (Qx h2) (Wr Qa Qa Qa (Q3 Qa (Qx h2) Qa Qa (Qe Qa Qa (Q4 20 Qa (fun h3=> ?_) (fun h3=> ?_)))))))))
 ·refine Qg Qa Qa (QD h3) Qa (Qg Qa Qa (QD h3) Qa (Qg Qa Qa (QD h3) Qa (Q1 Qa (QD h3) Qa Qa (Qe Qa Qa (Qg Qa Qa Qa Qa (Qg Qa Qa Qa Qa (Qg Qa Qa Qa Qa (Qg Qa Qa Qa Qa (Qg Qa Qa Qa Qa (Q1 Qa Qa Qa Qa (Qh (Qd (Qk [0,3,4,31] Qa (QP Qa (Qf (Qb (Qc Qa Qa (Qh (Qd (Qo (Qm (Q5 (.inr Qa) Qa Qa ?_))))))))))))))))))))))
  exact⟨_,rfl, by rw[Rk (by omega)]; exact(Sat.row_nil Zn (hS1.pick [1,2] Qa))⟩
 refine Qj Qa Qa (Qx h3) (Qi Qa Wg Qa (Qj Qa Qa (Qx h3) (Qr Qa QH (hS1.cell 0 Qa Qa) Qa (Qj Qa Qa (Qx h3) (X5 Qa Qa Qa (Q3 Qa (Qx h3) Qa Qa (Qe Qa Qa (Q4 25 Qa (fun h4=> ?_) (fun h4=> ?_)))))))))
 ·refine Qg Qa Qa (QD h4) Qa (Qg Qa Qa (QD h4) Qa (Qg Qa Qa (QD h4) Qa (Qg Qa Qa (QD h4) Qa (Qg Qa Qa (QD h4) Qa (Q1 Qa (QD h4) Qa Qa (Qh (Qd (Qk [0,3,4,31] Qa (QP Qa (Qf (Qb (Qc Qa Qa (Qh (Qd (Qo (Qm (Q5 (.inr Qa) Qa Qa ?_)))))))))))))))))
  exact⟨_,rfl, by rw[Rk (by omega)]; exact(Sat.row_nil Zn (hS1.pick [1,2] Qa))⟩
 refine Qj Qa Qa (Qx h4) (Qi Qa Wg Qa (Qj Qa Qa (Qx h4) (Qr Qa QH (hS1.cell 0 Qa Qa) Qa (Qj Qa Qa (Qx h4) (Qi Qa Jk Qa (Qj Qa Qa (Qx h4) (Qr Qa QH (hS1.cell 0 Qa Qa) Qa (Qj Qa Qa (Qx h4) (Jm Qa Qa Qa (Q3 Qa (Qx h4) Qa Qa (Qh (Qd (Qk [0,3,4,31] Qa (Qv Qa (fun h5=> ?_) (fun h5=> ?_)))))))))))))))
 ·refine Qf (Qb (Qc Qa Qa (Qh (Qd (Qo (Qm (Q5 (.inr Qa) Qa Qa ?_)))))))
  exact⟨_,rfl, by rw[Rk (by omega)]; exact(Sat.row_nil Zn (hS1.pick [1,2] Qa))⟩
 refine Qt (Qd (Qf (Qb (Qe Qa Qa (Qi Qa Zz Qa (Qr Qa QH (hS1.cell 0 Qa Qa) Qa (YZ TB Qa (Ta (hS1.sp [1] Qa) m.move) Qa ?_)))))))
 rintro e w6 ⟨_,rfl,(⟨hj,rfl,hS6⟩ | ⟨o,ob,om,on,dp1,cv1,sv1,hj,rfl,hS6⟩)⟩
 ·refine⟨_,Qa, ?_⟩
  replace hS6:=hS6.jn Qa Qa
  refine Qc Qa Qa (Qh (Qd (Qf (Qf (Qb (Qe Qa Qa (Wb underlying79 Qa Qa Qa (Qh (Qd (Qk [0,3,4,5,37] Qa (QP Qa (Qf (Qb (Qc Qa Qa (Qh (Qd (Qo (Qm (Q5 (.inr Qa) Qa Qa ?_)))))))))))))))))))
  exact⟨_,rfl, by rw[E8 (by omega) hj]; exact(Sat.row_nil Zn (hS6.pick [0,2] Qa))⟩
 refine⟨_,Qa, ?_⟩
 replace hS6:=hS6.jn Qa Qa
 have hOW:=(Rg hW hm.mv hj).1
 dsimp only[Cs]at hS6
 refine Qc Qa Qa (Qh (Qd (Qf (Qf (Qb (Qe Qa Qa (ZG underlying79 Qa Qa Qa (Qh (Qd (Qk [0,3,4,5,37] Qa (QJ Qa (Qt (Qd (Vq (fun E0 W0=> ∃(o1:OfD),E0=[(0,ptrV e 0),(3,ptrV mp 0),(5,ptrV ob 0)]∧Sat W0 [Xb ob [intV o1.move,.map (some om),intV o1.many,.map (some on),strV o1.list],X3 XH om (Ux o1.parts),X3 XH on (JT o1.pages),Xb e (U0 dp1 cv1 sv1 (ptrV ob 0) E),dT dp1 E.D,JE dp1 cv1 E.cell,Vk sv1 E.ses,Xb mp [intV m.kind,intV m.move,intV m.a,intV m.b,strV m.data],F]∧(o1=XO o m.b)) ?_ ?_))))))))))))))
 ·refine Qf (Qb (Qe Qa Qa (Ql Qa Qa (Qi Qa V8 Qa (Qr Qa N7 (hS6.cell 0 Qa Qa) Qa (M0 1 hS6 underlying99 keysInt.inj Qa Qa Qa (fun mm hmm=> ?_)))))))
  obtain rfl:=hmm.uniq (TS hOW.ps)
  refine QL Qa Qa Qa (Qh (Qd (Qk [0,3,4,5,43] Qa (Qv Qa (fun h8=> ?_) (fun h8=> ?_)))))
  ·refine Qb (Qe Qa Qa (Qi Qa Jk Qa (Qr Qa QH (hS6.cell 7 Qa Qa) Qa (Ql Qa Qa (Qi Qa Rx Qa ?_)))))
   (refine Qw hS6 Qa Qa WA (by rfl) (i:=0) Qa (QC Qa) ?_)
   intro w9 hS10; dsimp only[List.set]at hS10
   refine Qh ?_
   exact YB (Dq Qa Qa Qa) ⟨{o with many:=m.b},rfl,hS10.pick [0,1,2,3,4,5,6,7,8] Qa, by unfold XO; rw[if_pos (List.eq_nil_of_length_eq_zero (by omega))]⟩
  have hne2: ¬((o.parts.length:Nat):Int)=0:=h8
  refine Qt ?_
  exact YB (Dq Qa Qa Qa) ⟨o,rfl,hS6.pick [0,1,2,3,4,5,6,7,8] Qa, by unfold XO; rw[if_neg (fun q=>hne2 (by rw[q];rfl))]⟩
 rintro _ w7 ⟨o1,rfl,hS7,ho1⟩
 have hO1:OfW o1:= by rw[ho1]; exact TV hOW (by omega)
 refine Qf (Qf ?_)
 have hS11:=hS7.drew
 refine QN [0,1,2,3,4,5,6] [] W5 (by kernel_rfl) ?_
 refine QI Qa Qa Qa (Xn Qa Qa Qa (QO Qa Qa Qa Rx (QF Qa Qa Qa (Qn Qa QH (hS11.cell 0 Qa Qa)) (QO Qa Qa Qa Jk (QF Qa Qa Qa (Qn Qa QH (hS11.cell 7 Qa Qa)) (Q9 Qa Qa Qa (fun _=>(JZ Qa Qa)) ?_))))))
 refine VC.nil (Qd (Qv Qa (fun h12=> ?_) (fun h12=> ?_)))
 ·refine Qf (Qb (Qc Qa Qa (Qh (Qd (Qk [5,3,0,4] Qa (Qo (Qm (Q5 (.inr Qa) Qa Qa ?_))))))))
  exact⟨_,rfl, by rw[E7 (by omega) hj (by rw[←ho1];omega),←ho1]; exact(Sat.row_nil Zn (Qu (E:={E with off:=some o1}) ((XE (o:=o1) (hS11.pick [0,1,2,3,4,5,6,8] Qa)).reorder [1,2,3,4,0,5] Qa)))⟩
 refine Qt (Qd (Vq (fun E0 W0=> ∃(o2:OfD),E0=[(0,ptrV e 0),(3,ptrV mp 0),(5,ptrV ob 0)]∧Sat W0 [Xb ob [intV o2.move,.map (some om),intV o2.many,.map (some on),strV o2.list],X3 XH om (Ux o2.parts),X3 XH on (JT o2.pages),Xb e (U0 dp1 cv1 sv1 (ptrV ob 0) E),dT dp1 E.D,JE dp1 cv1 E.cell,Vk sv1 E.ses,Xb mp [intV m.kind,intV m.move,intV m.a,intV m.b,strV m.data],F]∧(o2=JR o1 m)) ?_ ?_))
 ·refine Qf ?_
  have hS14:=hS11.drew
  refine QN [0,1,2,3,4,5,6,7,8,9,10,11] [] W5 (by kernel_rfl) ?_
  refine QI Qa Qa Qa (Xn Qa Qa Qa (QO Qa Qa Qa V8 (QF Qa Qa Qa (Qn Qa N7 (hS14.cell 0 Qa Qa)) (QO Qa Qa Qa Wg (QF Qa Qa Qa (Qn Qa QH (hS14.cell 7 Qa Qa)) (QF Qa Qa Qa (Uq (k:=m.a) 1 hS14 keysInt underlying99 Qa Qa Qa zr_9 (u:=strV ((Xg o1.parts m.a).getD [])) (g:=(Xg o1.parts m.a).isSome) (TT _ _) (LE _ _)) (QI Qa Qa Qa (Y6 Qa Qa Qa Qa (Y6 Qa Qa Qa Qa (WV Qa Qa Qa (WV Qa Qa Qa (VC.nil (Qd (Qk [5,3,0,7] Qa (Qf (Qb (Qe Qa Qa (XN Qa Qa (Qh (Qd (QZ Qa (fun h15=> ?_) (fun h15=> ?_))))))))))))))))))))))
  ·have hS16:=hS14.drew
   refine QN [0,1,2,3,4,5,6,7,8] [8] W5 (by kernel_rfl) ?_
   refine QI Qa Qa Qa (Xn Qa Qa Qa (QO Qa Qa Qa V8 (QF Qa Qa Qa (Qn Qa N7 (hS16.cell 0 Qa Qa)) (QO Qa Qa Qa Wg (QF Qa Qa Qa (Qn Qa QH (hS16.cell 7 Qa Qa)) (QO Qa Qa Qa Ht (QF Qa Qa Qa (Qn Qa Zx (hS16.cell 7 Qa Qa)) (QV Qa Qa Qa Qa Qa Qa ?_))))))))
   refine XP (k:=m.a) (v:=strV m.data) 1 hS16 keysInt underlying99 Qa Qa Qa Qa ?_
   intro w17 hS17; dsimp only[List.set]at hS17; rw[LD hO1.ps]at hS17
   refine Z9 (Xq (by kernel_rfl)) ?_
   refine VC.nil ?_
   exact YB (Dq Qa Qa Qa) ⟨{o1 with parts:=Zk m.a m.data o1.parts},rfl,hS17.pick [0,1,2,3,4,5,6,7,8] Qa, by unfold JR; rw[if_neg (by simp_all)]⟩
  refine Qt ?_
  exact YB (Dq Qa Qa Qa) ⟨o1,rfl,hS14.pick [0,1,2,3,4,5,6,7,8] Qa, by unfold JR; rw[if_pos (by simp_all)]⟩
 rintro _ w13 ⟨o2,rfl,hS13,ho2⟩
 have hO2:OfW o2:= by rw[ho2]; exact AT hO1 hm (by omega)
 have hmn2:=hO2.mn
 refine Qf (Qf ?_)
 have hS18:=hS13.drew
 refine QN [0,1,2,3,4,5,6,7,8,9] [] W5 (by kernel_rfl) ?_
 refine QI Qa Qa Qa (Xn Qa Qa Qa (QO Qa Qa Qa V8 (QF Qa Qa Qa (Qn Qa N7 (hS18.cell 0 Qa Qa)) (QF Qa Qa Qa (Tr 1 hS18 underlying99 keysInt.inj Qa Qa (TS hO2.ps)) (QI Qa Qa Qa (Xn Qa Qa Qa (QO Qa Qa Qa Rx (QF Qa Qa Qa (Qn Qa QH (hS18.cell 0 Qa Qa)) (Q9 Qa Qa Qa (fun _=>(KI Qa Qa)) ?_)))))))))
 refine VC.nil (Qd (Qk [5,3,0,85] Qa (Qv Qa (fun h19=> ?_) (fun h19=> ?_))))
 ·refine Qf (Qb (Qc Qa Qa (Qh (Qd (Qo (Qm (Q5 (.inr Qa) Qa Qa ?_)))))))
  exact⟨_,rfl, by rw[BW (by omega) hj (by rw[←ho1];omega) (by rw[←ho1,←ho2]; exact .inl (by omega)),←ho1,←ho2]; exact(Sat.row_nil Zn (Qu (E:={E with off:=some o2}) ((XE (o:=o2) (hS18.pick [0,1,2,3,4,5,6,8] Qa)).reorder [1,2,3,4,0,5] Qa)))⟩
 refine Qt (Qd (Qf (Qb (DH hS18 Lu (cs:=[.pointer none,.slice none 0 0]) Qa Qa ?_))))
 intro bb wB hSB
 have hSC:=Gv (.inl Qa) ((N4 hSB).perm (List.Perm.swap _ _ _))
 refine Qh (Qd (Qf (Qf (Qb (Qe Qa Qa (Ql Qa Qa (Qi Qa Rx Qa (Qr Qa QH (hSC.cell 1 Qa Qa) Qa (Qe Qa Qa (Qh (Qd (QK ?_))))))))))))
 refine XJ (fun K0 E0 W0=> ∃(i:Nat),K0=o2.many.toNat -i∧E0=[(0,ptrV e 0),(3,ptrV mp 0),(5,ptrV ob 0),(8,ptrV bb 0),(89,intV o2.many),(90,intV (i:Int))]∧Sat W0 [N5 bb (Ft o2 i),Xb ob [intV o2.move,.map (some om),intV o2.many,.map (some on),strV o2.list],X3 XH om (Ux o2.parts),X3 XH on (JT o2.pages),Xb e (U0 dp1 cv1 sv1 (ptrV ob 0) E),dT dp1 E.D,JE dp1 cv1 E.cell,Vk sv1 E.ses,Xb mp [intV m.kind,intV m.move,intV m.a,intV m.b,strV m.data],F]∧((i:Int)≤o2.many)) (L0:=[(0,_),(3,_),(5,_),(8,_),(89,_),(90,_)]) (o2.many.toNat -0) (TH Qa Qa Qa Qa Qa Qa) ⟨0,rfl,rfl,hSC.pick [0,1,2,3,4,5,6,7,8,9] Qa, by omega⟩ ?_
 rintro _ _ w20 ⟨i,rfl,rfl,hS20,hi⟩
 have hpb:=LT hO2 i
 have hdl:=BZ (l:=o2.parts) (n:=1000) (fun e he=>(hO2.pl e he).2.2) (i:Int)
 refine Qf (Qb (X5 Qa Qa Qa (Qh (Qd (Qf (Qv Qa (fun h21=> ?_) (fun h21=> ?_)))))))
 ·refine Qt (Qd (Qf (QK (Qf (Qb (Qe Qa Qa (Qc Qa Qa (Qh (Qd (Qb (Qe Qa Qa (Ql Qa Qa (Qi Qa V8 Qa (Qr Qa N7 (hS20.cell 1 Qa Qa) Qa (Qe Qa Qa (YN (k:=(i:Int)) 2 hS20 keysInt underlying99 Qa Qa Qa zr_9 (TT o2.parts (i:Int)) Qa (Q0 TA Qa (HX (hS20.sp [0] Qa) ((Xg o2.parts (i:Int)).getD []) (by omega)) Qa ?_)))))))))))))))))
  rintro _ w22 ⟨rfl,hS22⟩
  replace hS22:=hS22.jn Qa Qa
  refine Qh (Qq (Qd (Qk [90,89,8,5,3,0] Qa (Qb (XC Qa Qa (by omega) (by omega) Qa ?_)))))
  refine Qe Qa Qa (Qh ?_)
  exact Xj (L1:=[(0,_),(3,_),(5,_),(8,_),(89,_),(90,intV ((i+1:Nat):Int))]) (TH Qa Qa Qa Qa Qa Qa) (k1:=o2.many.toNat -(i+1)) (by omega) ⟨i+1,rfl,rfl,(by rw[Fq]; exact hS22.pick [0,1,2,3,4,5,6,7,8,9] Qa), by omega⟩
 refine X6 (Q6 (Q6 (QR (Qd (Qf (Qf ?_))))))
 have hie:i=o2.many.toNat:= by omega
 have hpbl:(We o2).length≤8000000:=BK hO2
 have hpe0:Ft o2 i=We o2:= by rw[hie];rfl
 rw[hpe0]at hS20
 have hS23:=bldZ_of (hS20.pick [0,1,2,3,4,5,6,7,8,9] Qa)
 refine Qb (Q0 T9 Qa (Di (hS23.sp [0] Qa) (by omega)) Qa ?_)
 rintro _ w24 ⟨rfl,hS24⟩
 replace hS24:=hS24.jn Qa Qa
 refine YZ SC Qa (Cm (hS24.sp [] Qa) (hG.starL 9 Qa) (We o2) (by omega)) Qa ?_
 rintro e w25 ⟨_,rfl,(⟨hpe,rfl,hS25⟩ | ⟨sb9,sm9,s9,g9,hpe,rfl,hS25⟩)⟩
 ·refine⟨_,Qa, ?_⟩
  replace hS25:=hS25.jn Qa Qa
  refine Qe Qa Qa (Q7 Qa Qa Qa (Q7 Qa Qa Qa (Qc Qa Qa (Qc Qa Qa (Qh (Qd (Qk [8,5,3,0,11] Qa (Qf (Qb (Qe Qa Qa (XN Qa Qa (Qh (Qd (QZ Qa (fun h26=> ?_) (fun h26=> ?_)))))))))))))))
  ·refine Qf (Qb (Qc Qa Qa (Qh (Qd (Qo (Qm (Q5 (.inr Qa) Qa Qa ?_)))))))
   exact⟨_,rfl, by rw[BW (by omega) hj (by rw[←ho1];omega) (by rw[←ho1,←ho2]; exact .inr (by rw[hpe];done)),←ho1,←ho2]; exact(Sat.row_nil Zn (Qu (E:={E with off:=some o2}) ((XE (o:=o2) (hS25.pick [1,2,3,4,5,6,7,9] Qa)).reorder [1,2,3,4,0,5] Qa)))⟩
  (exfalso; have q9:=h26; simp at q9)
 refine⟨_,Qa, ?_⟩
 replace hS25:=hS25.jn Qa Qa
 refine Qe Qa Qa (Q7 Qa Qa Qa (Q7 Qa Qa Qa (Qc Qa Qa (Qc Qa Qa (Qh (Qd (Qk [8,5,3,0,11] Qa (Qf (Qb (Qe Qa Qa (XN Qa Qa (Qh (Qd (QZ Qa (fun h27=> ?_) (fun h27=> ?_)))))))))))))))
 ·have hg9:g9=false:= by simpa using h27
  refine Qf (Qb (Qc Qa Qa (Qh (Qd (Qo (Qm (Q5 (.inr Qa) Qa Qa ?_)))))))
  exact⟨_,rfl, by rw[BW (by omega) hj (by rw[←ho1];omega) (by rw[←ho1,←ho2]; exact .inr (by rw[hpe];simp_all)),←ho1,←ho2]; exact(Sat.row_nil Zn (Qu (E:={E with off:=some o2}) ((XE (o:=o2) (hS25.pick [3,4,5,6,7,8,9,11] Qa)).reorder [1,2,3,4,0,5] Qa)))⟩
 have hg9:g9=true:= by simpa using h27
 refine Qt (Qd (Qf (Qb (Qe Qa Qa (Q0 T9 Qa (Di (hS25.sp [2] Qa) (by omega)) Qa ?_)))))
 rintro _ w28 ⟨rfl,hS28⟩
 replace hS28:=hS28.jn Qa Qa
 refine Ql Qa Qa (Qi Qa Nd Qa ?_)
 (refine Qw hS28 Qa Qa Hz (by rfl) (i:=3) Qa (QC Qa) ?_)
 intro w29 hS30; dsimp only[List.set]at hS30
 refine Qh (Qd (Qk [3,0] Qa (Qf (Qf (Qb (Qe Qa Qa (Qi Qa Zz Qa (Qr Qa QH (hS30.cell 10 Qa Qa) Qa ?_))))))))
 have hS31:=Qu (E:={E with off:=some {o2 with list:=We o2}}) ((XE (o:={o2 with list:=We o2}) (hS30.pick [3,4,5,6,7,8,9,0,1,2,10,11] Qa)).reorder [1,2,3,4,0,5,6,7,8,9] Qa)
 refine Q0 VF Qa (Ul (E:={E with off:=some {o2 with list:=We o2}}) (hS31.sp [0] Qa) (hG.starL 4 Qa) (hO.starL 4 Qa) hu (k:=2) (m:=m.move) (XG (by decide)) hmi) Qa ?_
 rintro _ w32 ⟨rfl,hS32⟩
 replace hS32:=hS32.jn Qa Qa
 refine Xu Qa Qa Qa (Qh (Qd (Qv Qa (fun h33=> ?_) (fun h33=> ?_))))
 ·have hbad:(QT {E with off:=some {o2 with list:=We o2}} 2 m.move).1≠0:= by simpa using h33
  refine Qf (Qb (Qc Qa Qa (Qh (Qd (Qo (Qm (Q5 (.inr Qa) Qa Qa ?_)))))))
  exact⟨_,rfl, by rw[BV (by omega) hj (by rw[←ho1];omega) (by rw[←ho1,←ho2];omega) (by rw[←ho1,←ho2,hpe];simp_all),←ho1,←ho2,Fj hbad]; exact(Sat.row_nil Zn (hS32.pick [0,5] Qa))⟩
 have hn0:(QT {E with off:=some {o2 with list:=We o2}} 2 m.move).1=0:= by simpa using h33
 have hnm:X4 (QT {E with off:=some {o2 with list:=We o2}} 2 m.move).2.move:= by rw[UE (E:={E with off:=some {o2 with list:=We o2}}) hu hn0]; exact hmi
 refine Qt (Qd (Qf ?_))
 obtain⟨dp2,cv2,sv2,ov2,hS34⟩:=QU (hS32.pick [0,1,2,3,4,5] rfl)
 refine Qb (Qe Qa Qa (Ql Qa Qa (Qi Qa Xt Qa ?_)))
 (refine Qw hS34 Qa Qa Yf (by rfl) (i:=0) Qa (QC Qa) ?_)
 intro w35 hS36; dsimp only[List.set]at hS36
 refine Qh (Qd (Qf (Qb (Qe Qa Qa ?_))))
 have hS37:=Qu (E:={(QT {E with off:=some {o2 with list:=We o2}} 2 m.move).2 with ses:=none}) (dp:=dp2) ((ZQ (hS36.pick [0,1,2,4,5,6,7,8,9] Qa)).reorder [1,2,3,0,4,5,6,7,8,9] Qa)
 refine Q0 WH Qa (WG (hS37.sp [0] Qa) (hG.starL 4 Qa) (E:={(QT {E with off:=some {o2 with list:=We o2}} 2 m.move).2 with ses:=none}) (k:=2) (a:=0) (b:=0) (s:=[]) (JW (XG (by decide)) hnm)) Qa ?_
 rintro _ w38 ⟨rfl,hS38⟩
 replace hS38:=hS38.jn Qa Qa
 refine Xe Zn [Z3 (QT {E with off:=some {o2 with list:=We o2}} 2 m.move).2 2 0 0 []] hS38 Qa underlying66 J8 Qa Qa Qa Qa (by rfl) rfl ?_
 intro b39 w39 hS39
 refine Qc Qa Qa (Qh (Qd (Qk [4] Qa (Qo (Q5 (.inr Qa) Qa Qa ?_)))))
 exact⟨_,rfl, by rw[BV (by omega) hj (by rw[←ho1];omega) (by rw[←ho1,←ho2];omega) (by rw[←ho1,←ho2,hpe];simp_all),←ho1,←ho2,Ce hn0]; exact hS39.pick [0,1,6] Qa⟩
