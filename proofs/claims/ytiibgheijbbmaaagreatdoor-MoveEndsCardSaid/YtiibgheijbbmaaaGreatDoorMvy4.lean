/- move: hearPart -/
import Derived.Test.YtiibgheijbbmaaaGreatDoorMvy2
set_option linter.unusedVariables false
set_option maxRecDepth 100000
set_option maxHeartbeats 2000000
namespace Go.Proofs.YtiibgheijbbmaaaGreatDoor
open Go.RowKit M Proofs.Tryz
theorem NR (l:AL Bs) (i:Int):(UV l i).getD (strV [])=strV ((QN l i).getD []):= by unfold UV; cases QN l i<;>rfl
theorem Oo (l:AL Bs) (i:Int):(UV l i).isSome=(QN l i).isSome:= by unfold UV; cases QN l i<;>rfl
theorem On {l:AL Bs} (hs:Srt l) (i:Int) (x:Bs):upd (UV l) i (some (strV x))=UV (X6 i x l):= by
  funext k;unfold upd UV; rw[ZR hs]
  by_cases h:k=i
  · rw[if_pos h,if_pos h];rfl
  · rw[if_neg h,if_neg h]
theorem NQ {l:AL Bs} (h:Srt l):Card (UV l) l.length:= by
  refine⟨XY l,h.imp fun q r=> by omega, by unfold XY; rw[List.length_map], fun k=> ?_⟩
  unfold UV
  have :=Jv (l:=l) (i:=k)
  cases q:QN l k with
  | none=> rw[q]at this; simp at this⊢; exact this
  | some x=> rw[q]at this; simp at this⊢; exact this
def EB (o:OfD) (i:Nat):Bs:=(List.range i).flatMap fun (i:Nat)=>(QN o.parts (i:Int)).getD []
theorem EA (o:OfD) (i:Nat):EB o (i+1)=EB o i++(QN o.parts (i:Int)).getD []:= by unfold EB; rw[List.range_succ,List.flatMap_append]; simp
theorem OE {o:OfD} (h:OfW o) (i:Nat):(EB o i).length≤i*1000:=G5 (f:= fun (i:Nat)=>(QN o.parts (i:Int)).getD []) (n:=1000) (fun i=>M8 (fun e he=>(h.pl e he).2.2) _) i
section
variable {E:EnD} {m:MsD} {o:OfD}
theorem Gs (h:m.b<1∨8000<m.b∨m.a<0∨m.b≤m.a):Xo E m=(E,[]):= by unfold Xo; rw[if_pos h]
theorem Ir (h: ¬(m.b<1∨8000<m.b∨m.a<0∨m.b≤m.a)) (hj:Zr E m.move=none):Xo E m=(E,[]):= by unfold Xo; rw[if_neg h,hj]
theorem Iq (h: ¬(m.b<1∨8000<m.b∨m.a<0∨m.b≤m.a)) (hj:Zr E m.move=some o) (h1:(Xr o m.b).many≠m.b):Xo E m=({E with off:=some (Xr o m.b)},[]):= by unfold Xo; rw[if_neg h,hj]; dsimp only; rw[if_pos h1]
theorem M3 (h: ¬(m.b<1∨8000<m.b∨m.a<0∨m.b≤m.a)) (hj:Zr E m.move=some o) (h1: ¬(Xr o m.b).many≠m.b) (h2:((Ww (Xr o m.b) m).parts.length:Int)<(Ww (Xr o m.b) m).many∨(Wp (ZC (Ww (Xr o m.b) m))).2=false):Xo E m=({E with off:=some (Ww (Xr o m.b) m)},[]):= by
  unfold Xo; rw[if_neg h,hj]; dsimp only; rw[if_neg h1]
  rcases h2 with q | q
  · rw[if_pos q]
  · split
    · rfl
    · rfl
theorem M2 (h: ¬(m.b<1∨8000<m.b∨m.a<0∨m.b≤m.a)) (hj:Zr E m.move=some o) (h1: ¬(Xr o m.b).many≠m.b) (h2: ¬((Ww (Xr o m.b) m).parts.length:Int)<(Ww (Xr o m.b) m).many) (h3: ¬(Wp (ZC (Ww (Xr o m.b) m))).2=false):Xo E m=Yx {E with off:=some {Ww (Xr o m.b) m with list:=ZC (Ww (Xr o m.b) m)}} m.move:= by
  unfold Xo; rw[if_neg h,hj]; dsimp only; rw[if_neg h1,if_neg h2,if_neg h3]
theorem E6 {n:Int} (h:(QS E 2 n).1≠0):Yx E n=((QS E 2 n).2,[]):= by unfold Yx; rw[if_pos h]
theorem Gd {n:Int} (h:(QS E 2 n).1=0):Yx E n=({(QS E 2 n).2 with ses:=none},[Ze (QS E 2 n).2 2 0 0 []]):= by unfold Yx; rw[if_neg (by omega)]
end
theorem P7 {w:World} {e:Nat} {E:EnD} {F:Th} (hS:Sat w [Xs e E,F]) (m:MsD) (hG:Ent F WireG) (hO:Ent F (Glob 0)) (hW:EW E) (hm:MsW m) (hu:E.cell≠none):
    Calls prog 71 #[ptrV e 0,.agg #[intV m.kind,intV m.move,intV m.a,intV m.b,strV m.data]] w (Ret fun v w'=>Sat w' [rowT Z4 v (Xo E m).2,Xs e (Xo E m).1,F]):= by
 refine Qy func71 Qa ntmps71 Qa ?_
 have hmi:Xy m.move:= by have :=hm.mv;unfold Xy;omega
 have hmd:=hm.d
 refine Qg (Qb (XZ hS Qa Qa Qa ?_))
 intro mp w1 hS1
 replace hS1:Sat w1 (QR mp [intV m.kind,intV m.move,intV m.a,intV m.b,strV m.data]::_):=hS1
 refine Qc Qa Qa (Qh (Qe (Qg (Qg (Qb (Qi Qa Jw Qa (Qp Qa QK (hS1.cell 0 Qa Qa) Qa (Xz Qa Qa Qa (Qd Qa Qa (Q3 15 Qa (fun h2=> ?_) (fun h2=> ?_)))))))))))
 ·refine Qf Qa Qa (Q8 h2) Qa (Qf Qa Qa (Q8 h2) Qa (Qf Qa Qa (Q8 h2) Qa (Qx Qa (Q8 h2) Qa Qa (Qd Qa Qa (Qf Qa Qa Qa Qa (Qf Qa Qa Qa Qa (Qf Qa Qa Qa Qa (Qx Qa Qa Qa Qa (Qd Qa Qa (Qf Qa Qa Qa Qa (Qf Qa Qa Qa Qa (Qf Qa Qa Qa Qa (Qf Qa Qa Qa Qa (Qf Qa Qa Qa Qa (Qx Qa Qa Qa Qa (Qh (Qe (Qk [0,3,4,31] Qa (QL Qa (Qg (Qb (Qc Qa Qa (Qh (Qe (Qo (Qm (Q7 (.inr Qa) Qa Qa ?_)))))))))))))))))))))))))))
  exact⟨_,rfl, by rw[Gs (by omega)]; exact(Sat.row_nil Z4 (hS1.pick [1,2] Qa))⟩
 refine Qj Qa Qa (Qv h2) (Qi Qa Jw Qa (Qj Qa Qa (Qv h2) (Qp Qa QK (hS1.cell 0 Qa Qa) Qa (Qj Qa Qa (Qv h2) (We Qa Qa Qa (Qz Qa (Qv h2) Qa Qa (Qd Qa Qa (Q3 20 Qa (fun h3=> ?_) (fun h3=> ?_)))))))))
 ·refine Qf Qa Qa (Q8 h3) Qa (Qf Qa Qa (Q8 h3) Qa (Qf Qa Qa (Q8 h3) Qa (Qx Qa (Q8 h3) Qa Qa (Qd Qa Qa (Qf Qa Qa Qa Qa (Qf Qa Qa Qa Qa (Qf Qa Qa Qa Qa (Qf Qa Qa Qa Qa (Qf Qa Qa Qa Qa (Qx Qa Qa Qa Qa (Qh (Qe (Qk [0,3,4,31] Qa (QL Qa (Qg (Qb (Qc Qa Qa (Qh (Qe (Qo (Qm (Q7 (.inr Qa) Qa Qa ?_))))))))))))))))))))))
  exact⟨_,rfl, by rw[Gs (by omega)]; exact(Sat.row_nil Z4 (hS1.pick [1,2] Qa))⟩
 refine Qj Qa Qa (Qv h3) (Qi Qa Ws Qa (Qj Qa Qa (Qv h3) (Qp Qa QK (hS1.cell 0 Qa Qa) Qa (Qj Qa Qa (Qv h3) (Xz Qa Qa Qa (Qz Qa (Qv h3) Qa Qa (Qd Qa Qa (Q3 25 Qa (fun h4=> ?_) (fun h4=> ?_)))))))))
 ·refine Qf Qa Qa (Q8 h4) Qa (Qf Qa Qa (Q8 h4) Qa (Qf Qa Qa (Q8 h4) Qa (Qf Qa Qa (Q8 h4) Qa (Qf Qa Qa (Q8 h4) Qa (Qx Qa (Q8 h4) Qa Qa (Qh (Qe (Qk [0,3,4,31] Qa (QL Qa (Qg (Qb (Qc Qa Qa (Qh (Qe (Qo (Qm (Q7 (.inr Qa) Qa Qa ?_)))))))))))))))))
  exact⟨_,rfl, by rw[Gs (by omega)]; exact(Sat.row_nil Z4 (hS1.pick [1,2] Qa))⟩
 refine Qj Qa Qa (Qv h4) (Qi Qa Ws Qa (Qj Qa Qa (Qv h4) (Qp Qa QK (hS1.cell 0 Qa Qa) Qa (Qj Qa Qa (Qv h4) (Qi Qa Jw Qa (Qj Qa Qa (Qv h4) (Qp Qa QK (hS1.cell 0 Qa Qa) Qa (Qj Qa Qa (Qv h4) (Jj Qa Qa Qa (Qz Qa (Qv h4) Qa Qa (Qh (Qe (Qk [0,3,4,31] Qa (Qw Qa (fun h5=> ?_) (fun h5=> ?_)))))))))))))))
 ·refine Qg (Qb (Qc Qa Qa (Qh (Qe (Qo (Qm (Q7 (.inr Qa) Qa Qa ?_)))))))
  exact⟨_,rfl, by rw[Gs (by omega)]; exact(Sat.row_nil Z4 (hS1.pick [1,2] Qa))⟩
 refine Qr (Qe (Qg (Qb (Qd Qa Qa (Qi Qa ZE Qa (Qp Qa QK (hS1.cell 0 Qa Qa) Qa (Ub N0 Qa (CK (hS1.sp [1] Qa) m.move) Qa ?_)))))))
 rintro e w6 ⟨_,rfl,(⟨hj,rfl,hS6⟩ | ⟨o,ob,om,on,dp1,cv1,sv1,hj,rfl,hS6⟩)⟩
 ·refine⟨_,Qa, ?_⟩
  replace hS6:=hS6.jn Qa Qa
  refine Qc Qa Qa (Qh (Qe (Qg (Qg (Qb (Qd Qa Qa (ZN underlying79 Qa Qa Qa (Qh (Qe (Qk [0,3,4,5,37] Qa (QL Qa (Qg (Qb (Qc Qa Qa (Qh (Qe (Qo (Qm (Q7 (.inr Qa) Qa Qa ?_)))))))))))))))))))
  exact⟨_,rfl, by rw[Ir (by omega) hj]; exact(Sat.row_nil Z4 (hS6.pick [0,2] Qa))⟩
 refine⟨_,Qa, ?_⟩
 replace hS6:=hS6.jn Qa Qa
 have hOW:=(VF hW hm.mv hj).1
 dsimp only[Pp]at hS6
 refine Qc Qa Qa (Qh (Qe (Qg (Qg (Qb (Qd Qa Qa (ZJ underlying79 Qa Qa Qa (Qh (Qe (Qk [0,3,4,5,37] Qa (QF Qa (Qr (Qe (V7 (fun E0 W0=> ∃(o1:OfD),E0=[(0,ptrV e 0),(3,ptrV mp 0),(5,ptrV ob 0)]∧Sat W0 [QR ob [intV o1.move,.map (some om),intV o1.many,.map (some on),strV o1.list],XI Za om (UV o1.parts),XI Za on (Yj o1.pages),QR e (U6 dp1 cv1 sv1 (ptrV ob 0) E),dT dp1 E.D,JR dp1 cv1 E.cell,VY sv1 E.ses,QR mp [intV m.kind,intV m.move,intV m.a,intV m.b,strV m.data],F]∧(o1=Xr o m.b)) ?_ ?_))))))))))))))
 ·refine Qg (Qb (Qd Qa Qa (Ql Qa Qa (Qi Qa K3 Qa (Qp Qa S4 (hS6.cell 0 Qa Qa) Qa (Cn 1 hS6 underlying99 keysInt.inj Qa Qa Qa (fun mm hmm=> ?_)))))))
  obtain rfl:=hmm.uniq (NQ hOW.ps)
  refine QO Qa Qa Qa (Qh (Qe (Qk [0,3,4,5,43] Qa (Qw Qa (fun h8=> ?_) (fun h8=> ?_)))))
  ·refine Qb (Qd Qa Qa (Qi Qa Jw Qa (Qp Qa QK (hS6.cell 7 Qa Qa) Qa (Ql Qa Qa (Qi Qa G3 Qa ?_)))))
   (refine QC hS6 Qa Qa YH (by rfl) (i:=0) Qa (Xe Qa) ?_)
   intro w9 hS10; dsimp only[List.set]at hS10
   refine Qh ?_
   exact JL (Dh Qa Qa Qa) ⟨{o with many:=m.b},rfl,hS10.pick [0,1,2,3,4,5,6,7,8] Qa, by unfold Xr; rw[if_pos (List.eq_nil_of_length_eq_zero (by omega))]⟩
  have hne2: ¬((o.parts.length:Nat):Int)=0:=h8
  refine Qr ?_
  exact JL (Dh Qa Qa Qa) ⟨o,rfl,hS6.pick [0,1,2,3,4,5,6,7,8] Qa, by unfold Xr; rw[if_neg (fun q=>hne2 (by rw[q];rfl))]⟩
 rintro _ w7 ⟨o1,rfl,hS7,ho1⟩
 have hO1:OfW o1:= by rw[ho1]; exact DW hOW (by omega)
 refine Qg (Qg ?_)
 have hS11:=hS7.drew
 refine QT [0,1,2,3,4,5,6] [] Jk (by kernel_rfl) ?_
 refine QM Qa Qa Qa (Xw Qa Qa Qa (QQ Qa Qa Qa G3 (QH Qa Qa Qa (Qn Qa QK (hS11.cell 0 Qa Qa)) (QQ Qa Qa Qa Jw (QH Qa Qa Qa (Qn Qa QK (hS11.cell 7 Qa Qa)) (QG Qa Qa Qa (fun _=>(Ye Qa Qa)) ?_))))))
 refine VC.nil (Qe (Qw Qa (fun h12=> ?_) (fun h12=> ?_)))
 ·refine Qg (Qb (Qc Qa Qa (Qh (Qe (Qk [5,3,0,4] Qa (Qo (Qm (Q7 (.inr Qa) Qa Qa ?_))))))))
  exact⟨_,rfl, by rw[Iq (by omega) hj (by rw[←ho1];omega),←ho1]; exact(Sat.row_nil Z4 (Qu (E:={E with off:=some o1}) ((XX (o:=o1) (hS11.pick [0,1,2,3,4,5,6,8] Qa)).reorder [1,2,3,4,0,5] Qa)))⟩
 refine Qr (Qe (V7 (fun E0 W0=> ∃(o2:OfD),E0=[(0,ptrV e 0),(3,ptrV mp 0),(5,ptrV ob 0)]∧Sat W0 [QR ob [intV o2.move,.map (some om),intV o2.many,.map (some on),strV o2.list],XI Za om (UV o2.parts),XI Za on (Yj o2.pages),QR e (U6 dp1 cv1 sv1 (ptrV ob 0) E),dT dp1 E.D,JR dp1 cv1 E.cell,VY sv1 E.ses,QR mp [intV m.kind,intV m.move,intV m.a,intV m.b,strV m.data],F]∧(o2=Ww o1 m)) ?_ ?_))
 ·refine Qg ?_
  have hS14:=hS11.drew
  refine QT [0,1,2,3,4,5,6,7,8,9,10,11] [] Jk (by kernel_rfl) ?_
  refine QM Qa Qa Qa (Xw Qa Qa Qa (QQ Qa Qa Qa K3 (QH Qa Qa Qa (Qn Qa S4 (hS14.cell 0 Qa Qa)) (QQ Qa Qa Qa Ws (QH Qa Qa Qa (Qn Qa QK (hS14.cell 7 Qa Qa)) (QH Qa Qa Qa (UL (k:=m.a) 1 hS14 keysInt underlying99 Qa Qa Qa zr_9 (u:=strV ((QN o1.parts m.a).getD [])) (g:=(QN o1.parts m.a).isSome) (NR _ _) (Oo _ _)) (QM Qa Qa Qa (Ha Qa Qa Qa Qa (Ha Qa Qa Qa Qa (Jr Qa Qa Qa (Jr Qa Qa Qa (VC.nil (Qe (Qk [5,3,0,7] Qa (Qg (Qb (Qd Qa Qa (XS Qa Qa (Qh (Qe (Xd Qa (fun h15=> ?_) (fun h15=> ?_))))))))))))))))))))))
  ·have hS16:=hS14.drew
   refine QT [0,1,2,3,4,5,6,7,8] [8] Jk (by kernel_rfl) ?_
   refine QM Qa Qa Qa (Xw Qa Qa Qa (QQ Qa Qa Qa K3 (QH Qa Qa Qa (Qn Qa S4 (hS16.cell 0 Qa Qa)) (QQ Qa Qa Qa Ws (QH Qa Qa Qa (Qn Qa QK (hS16.cell 7 Qa Qa)) (QQ Qa Qa Qa HM (QH Qa Qa Qa (Qn Qa Zw (hS16.cell 7 Qa Qa)) (Xb Qa Qa Qa Qa Qa Qa ?_))))))))
   refine Zj (k:=m.a) (v:=strV m.data) 1 hS16 keysInt underlying99 Qa Qa Qa Qa ?_
   intro w17 hS17; dsimp only[List.set]at hS17; rw[On hO1.ps]at hS17
   refine ZG (XC (by kernel_rfl)) ?_
   refine VC.nil ?_
   exact JL (Dh Qa Qa Qa) ⟨{o1 with parts:=X6 m.a m.data o1.parts},rfl,hS17.pick [0,1,2,3,4,5,6,7,8] Qa, by unfold Ww; rw[if_neg (by simp_all)]⟩
  refine Qr ?_
  exact JL (Dh Qa Qa Qa) ⟨o1,rfl,hS14.pick [0,1,2,3,4,5,6,7,8] Qa, by unfold Ww; rw[if_pos (by simp_all)]⟩
 rintro _ w13 ⟨o2,rfl,hS13,ho2⟩
 have hO2:OfW o2:= by rw[ho2]; exact FU hO1 hm (by omega)
 have hmn2:=hO2.mn
 refine Qg (Qg ?_)
 have hS18:=hS13.drew
 refine QT [0,1,2,3,4,5,6,7,8,9] [] Jk (by kernel_rfl) ?_
 refine QM Qa Qa Qa (Xw Qa Qa Qa (QQ Qa Qa Qa K3 (QH Qa Qa Qa (Qn Qa S4 (hS18.cell 0 Qa Qa)) (QH Qa Qa Qa (Nf 1 hS18 underlying99 keysInt.inj Qa Qa (NQ hO2.ps)) (QM Qa Qa Qa (Xw Qa Qa Qa (QQ Qa Qa Qa G3 (QH Qa Qa Qa (Qn Qa QK (hS18.cell 0 Qa Qa)) (QG Qa Qa Qa (fun _=>(MF Qa Qa)) ?_)))))))))
 refine VC.nil (Qe (Qk [5,3,0,85] Qa (Qw Qa (fun h19=> ?_) (fun h19=> ?_))))
 ·refine Qg (Qb (Qc Qa Qa (Qh (Qe (Qo (Qm (Q7 (.inr Qa) Qa Qa ?_)))))))
  exact⟨_,rfl, by rw[M3 (by omega) hj (by rw[←ho1];omega) (by rw[←ho1,←ho2]; exact .inl (by omega)),←ho1,←ho2]; exact(Sat.row_nil Z4 (Qu (E:={E with off:=some o2}) ((XX (o:=o2) (hS18.pick [0,1,2,3,4,5,6,8] Qa)).reorder [1,2,3,4,0,5] Qa)))⟩
 refine Qr (Qe (Qg (Qb (Tu hS18 AS (cs:=[.pointer none,.slice none 0 0]) Qa Qa ?_))))
 intro bb wB hSB
 have hSC:=Bz (.inl Qa) ((Sz hSB).perm (List.Perm.swap _ _ _))
 refine Qh (Qe (Qg (Qg (Qb (Qd Qa Qa (Ql Qa Qa (Qi Qa G3 Qa (Qp Qa QK (hSC.cell 1 Qa Qa) Qa (Qd Qa Qa (Qh (Qe (QD ?_))))))))))))
 refine XD (fun K0 E0 W0=> ∃(i:Nat),K0=o2.many.toNat -i∧E0=[(0,ptrV e 0),(3,ptrV mp 0),(5,ptrV ob 0),(8,ptrV bb 0),(89,intV o2.many),(90,intV (i:Int))]∧Sat W0 [S0 bb (EB o2 i),QR ob [intV o2.move,.map (some om),intV o2.many,.map (some on),strV o2.list],XI Za om (UV o2.parts),XI Za on (Yj o2.pages),QR e (U6 dp1 cv1 sv1 (ptrV ob 0) E),dT dp1 E.D,JR dp1 cv1 E.cell,VY sv1 E.ses,QR mp [intV m.kind,intV m.move,intV m.a,intV m.b,strV m.data],F]∧((i:Int)≤o2.many)) (L0:=[(0,_),(3,_),(5,_),(8,_),(89,_),(90,_)]) (o2.many.toNat -0) (Dc Qa Qa Qa Qa Qa Qa) ⟨0,rfl,rfl,hSC.pick [0,1,2,3,4,5,6,7,8,9] Qa, by omega⟩ ?_
 rintro _ _ w20 ⟨i,rfl,rfl,hS20,hi⟩
 have hpb:=OE hO2 i
 have hdl:=M8 (l:=o2.parts) (n:=1000) (fun e he=>(hO2.pl e he).2.2) (i:Int)
 refine Qg (Qb (Xz Qa Qa Qa (Qh (Qe (Qg (Qw Qa (fun h21=> ?_) (fun h21=> ?_)))))))
 ·refine Qr (Qe (Qg (QD (Qg (Qb (Qd Qa Qa (Qc Qa Qa (Qh (Qe (Qb (Qd Qa Qa (Ql Qa Qa (Qi Qa K3 Qa (Qp Qa S4 (hS20.cell 1 Qa Qa) Qa (Qd Qa Qa (Hy (k:=(i:Int)) 2 hS20 keysInt underlying99 Qa Qa Qa zr_9 (NR o2.parts (i:Int)) Qa (Q4 Nz Qa (U2 (hS20.sp [0] Qa) ((QN o2.parts (i:Int)).getD []) (by omega)) Qa ?_)))))))))))))))))
  rintro _ w22 ⟨rfl,hS22⟩
  replace hS22:=hS22.jn Qa Qa
  refine Qh (Qq (Qe (Qk [90,89,8,5,3,0] Qa (Qb (Xq Qa Qa (by omega) (by omega) Qa ?_)))))
  refine Qd Qa Qa (Qh ?_)
  exact QY (L1:=[(0,_),(3,_),(5,_),(8,_),(89,_),(90,intV ((i+1:Nat):Int))]) (Dc Qa Qa Qa Qa Qa Qa) (k1:=o2.many.toNat -(i+1)) (by omega) ⟨i+1,rfl,rfl,(by rw[EA]; exact hS22.pick [0,1,2,3,4,5,6,7,8,9] Qa), by omega⟩
 refine Xu (Q1 (Q1 (QJ (Qe (Qg (Qg ?_))))))
 have hie:i=o2.many.toNat:= by omega
 have hpbl:(ZC o2).length≤8000000:=Ml hO2
 have hpe0:EB o2 i=ZC o2:= by rw[hie];rfl
 rw[hpe0]at hS20
 have hS23:=bldZ_of (hS20.pick [0,1,2,3,4,5,6,7,8,9] Qa)
 refine Qb (Q4 Ny Qa (MO (hS23.sp [0] Qa) (by omega)) Qa ?_)
 rintro _ w24 ⟨rfl,hS24⟩
 replace hS24:=hS24.jn Qa Qa
 refine Ub LV Qa (Pj (hS24.sp [] Qa) (hG.starL 9 Qa) (ZC o2) (by omega)) Qa ?_
 rintro e w25 ⟨_,rfl,(⟨hpe,rfl,hS25⟩ | ⟨sb9,sm9,s9,g9,hpe,rfl,hS25⟩)⟩
 ·refine⟨_,Qa, ?_⟩
  replace hS25:=hS25.jn Qa Qa
  refine Qd Qa Qa (Q9 Qa Qa Qa (Q9 Qa Qa Qa (Qc Qa Qa (Qc Qa Qa (Qh (Qe (Qk [8,5,3,0,11] Qa (Qg (Qb (Qd Qa Qa (XS Qa Qa (Qh (Qe (Xd Qa (fun h26=> ?_) (fun h26=> ?_)))))))))))))))
  ·refine Qg (Qb (Qc Qa Qa (Qh (Qe (Qo (Qm (Q7 (.inr Qa) Qa Qa ?_)))))))
   exact⟨_,rfl, by rw[M3 (by omega) hj (by rw[←ho1];omega) (by rw[←ho1,←ho2]; exact .inr (by rw[hpe];done)),←ho1,←ho2]; exact(Sat.row_nil Z4 (Qu (E:={E with off:=some o2}) ((XX (o:=o2) (hS25.pick [1,2,3,4,5,6,7,9] Qa)).reorder [1,2,3,4,0,5] Qa)))⟩
  (exfalso; have q9:=h26; simp at q9)
 refine⟨_,Qa, ?_⟩
 replace hS25:=hS25.jn Qa Qa
 refine Qd Qa Qa (Q9 Qa Qa Qa (Q9 Qa Qa Qa (Qc Qa Qa (Qc Qa Qa (Qh (Qe (Qk [8,5,3,0,11] Qa (Qg (Qb (Qd Qa Qa (XS Qa Qa (Qh (Qe (Xd Qa (fun h27=> ?_) (fun h27=> ?_)))))))))))))))
 ·have hg9:g9=false:= by simpa using h27
  refine Qg (Qb (Qc Qa Qa (Qh (Qe (Qo (Qm (Q7 (.inr Qa) Qa Qa ?_)))))))
  exact⟨_,rfl, by rw[M3 (by omega) hj (by rw[←ho1];omega) (by rw[←ho1,←ho2]; exact .inr (by rw[hpe];simp_all)),←ho1,←ho2]; exact(Sat.row_nil Z4 (Qu (E:={E with off:=some o2}) ((XX (o:=o2) (hS25.pick [3,4,5,6,7,8,9,11] Qa)).reorder [1,2,3,4,0,5] Qa)))⟩
 have hg9:g9=true:= by simpa using h27
 refine Qr (Qe (Qg (Qb (Qd Qa Qa (Q4 Ny Qa (MO (hS25.sp [2] Qa) (by omega)) Qa ?_)))))
 rintro _ w28 ⟨rfl,hS28⟩
 replace hS28:=hS28.jn Qa Qa
 refine Ql Qa Qa (Qi Qa PX Qa ?_)
 (refine QC hS28 Qa Qa R8 (by rfl) (i:=3) Qa (Xe Qa) ?_)
 intro w29 hS30; dsimp only[List.set]at hS30
 refine Qh (Qe (Qk [3,0] Qa (Qg (Qg (Qb (Qd Qa Qa (Qi Qa ZE Qa (Qp Qa QK (hS30.cell 10 Qa Qa) Qa ?_))))))))
 have hS31:=Qu (E:={E with off:=some {o2 with list:=ZC o2}}) ((XX (o:={o2 with list:=ZC o2}) (hS30.pick [3,4,5,6,7,8,9,0,1,2,10,11] Qa)).reorder [1,2,3,4,0,5,6,7,8,9] Qa)
 refine Q4 KC Qa (UG (E:={E with off:=some {o2 with list:=ZC o2}}) (hS31.sp [0] Qa) (hG.starL 4 Qa) (hO.starL 4 Qa) hu (k:=2) (m:=m.move) (XJ (by decide)) hmi) Qa ?_
 rintro _ w32 ⟨rfl,hS32⟩
 replace hS32:=hS32.jn Qa Qa
 refine Xt Qa Qa Qa (Qh (Qe (Qw Qa (fun h33=> ?_) (fun h33=> ?_))))
 ·have hbad:(QS {E with off:=some {o2 with list:=ZC o2}} 2 m.move).1≠0:= by simpa using h33
  refine Qg (Qb (Qc Qa Qa (Qh (Qe (Qo (Qm (Q7 (.inr Qa) Qa Qa ?_)))))))
  exact⟨_,rfl, by rw[M2 (by omega) hj (by rw[←ho1];omega) (by rw[←ho1,←ho2];omega) (by rw[←ho1,←ho2,hpe];simp_all),←ho1,←ho2,E6 hbad]; exact(Sat.row_nil Z4 (hS32.pick [0,5] Qa))⟩
 have hn0:(QS {E with off:=some {o2 with list:=ZC o2}} 2 m.move).1=0:= by simpa using h33
 have hnm:Xy (QS {E with off:=some {o2 with list:=ZC o2}} 2 m.move).2.move:= by rw[H1 (E:={E with off:=some {o2 with list:=ZC o2}}) hu hn0]; exact hmi
 refine Qr (Qe (Qg ?_))
 obtain⟨dp2,cv2,sv2,ov2,hS34⟩:=QW (hS32.pick [0,1,2,3,4,5] rfl)
 refine Qb (Qd Qa Qa (Ql Qa Qa (Qi Qa Xm Qa ?_)))
 (refine QC hS34 Qa Qa DT (by rfl) (i:=0) Qa (Xe Qa) ?_)
 intro w35 hS36; dsimp only[List.set]at hS36
 refine Qh (Qe (Qg (Qb (Qd Qa Qa ?_))))
 have hS37:=Qu (E:={(QS {E with off:=some {o2 with list:=ZC o2}} 2 m.move).2 with ses:=none}) (dp:=dp2) ((ZQ (hS36.pick [0,1,2,4,5,6,7,8,9] Qa)).reorder [1,2,3,0,4,5,6,7,8,9] Qa)
 refine Q4 WY Qa (WX (hS37.sp [0] Qa) (hG.starL 4 Qa) (E:={(QS {E with off:=some {o2 with list:=ZC o2}} 2 m.move).2 with ses:=none}) (k:=2) (a:=0) (b:=0) (s:=[]) (Yw (XJ (by decide)) hnm)) Qa ?_
 rintro _ w38 ⟨rfl,hS38⟩
 replace hS38:=hS38.jn Qa Qa
 refine Xc Z4 [Ze (QS {E with off:=some {o2 with list:=ZC o2}} 2 m.move).2 2 0 0 []] hS38 Qa underlying66 JZ Qa Qa Qa Qa (by rfl) rfl ?_
 intro b39 w39 hS39
 refine Qc Qa Qa (Qh (Qe (Qk [4] Qa (Qo (Q7 (.inr Qa) Qa Qa ?_)))))
 exact⟨_,rfl, by rw[M2 (by omega) hj (by rw[←ho1];omega) (by rw[←ho1,←ho2];omega) (by rw[←ho1,←ho2,hpe];simp_all),←ho1,←ho2,Gd hn0]; exact hS39.pick [0,1,6] Qa⟩
