/- move: hearPart -/
import Derived.Test.YtiibgheijbbmaaaGreatDoorMvy2
set_option linter.unusedVariables false
set_option maxRecDepth 100000
set_option maxHeartbeats 2000000
namespace Go.Proofs.YtiibgheijbbmaaaGreatDoor
open Go.RowKit M Proofs.Tryz
theorem NL (l:AL Bs) (i:Int):(UU l i).getD (strV [])=strV ((QT l i).getD []):= by unfold UU; cases QT l i<;>rfl
theorem AP (l:AL Bs) (i:Int):(UU l i).isSome=(QT l i).isSome:= by unfold UU; cases QT l i<;>rfl
theorem AO {l:AL Bs} (hs:Srt l) (i:Int) (x:Bs):upd (UU l) i (some (strV x))=UU (XO i x l):= by
  funext k;unfold upd UU; rw[We hs]
  by_cases h:k=i
  · rw[if_pos h,if_pos h];rfl
  · rw[if_neg h,if_neg h]
theorem NK {l:AL Bs} (h:Srt l):Card (UU l) l.length:= by
  refine⟨Zy l,h.imp fun q r=> by omega, by unfold Zy; rw[List.length_map], fun k=> ?_⟩
  unfold UU
  have :=JD (l:=l) (i:=k)
  cases q:QT l k with
  | none=> rw[q]at this; simp at this⊢; exact this
  | some x=> rw[q]at this; simp at this⊢; exact this
def En (o:OfD) (i:Nat):Bs:=(List.range i).flatMap fun (i:Nat)=>(QT o.parts (i:Int)).getD []
theorem Em (o:OfD) (i:Nat):En o (i+1)=En o i++(QT o.parts (i:Int)).getD []:= by unfold En; rw[List.range_succ,List.flatMap_append]; simp
theorem Oh {o:OfD} (h:OfW o) (i:Nat):(En o i).length≤i*1000:=G3 (f:= fun (i:Nat)=>(QT o.parts (i:Int)).getD []) (n:=1000) (fun i=>MD (fun e he=>(h.pl e he).2.2) _) i
section
variable {E:EnD} {m:MsD} {o:OfD}
theorem Gn (h:m.b<1∨8000<m.b∨m.a<0∨m.b≤m.a):X3 E m=(E,[]):= by unfold X3; rw[if_pos h]
theorem OJ (h: ¬(m.b<1∨8000<m.b∨m.a<0∨m.b≤m.a)) (hj:ZA E m.move=none):X3 E m=(E,[]):= by unfold X3; rw[if_neg h,hj]
theorem OI (h: ¬(m.b<1∨8000<m.b∨m.a<0∨m.b≤m.a)) (hj:ZA E m.move=some o) (h1:(X9 o m.b).many≠m.b):X3 E m=({E with off:=some (X9 o m.b)},[]):= by unfold X3; rw[if_neg h,hj]; dsimp only; rw[if_pos h1]
theorem M8 (h: ¬(m.b<1∨8000<m.b∨m.a<0∨m.b≤m.a)) (hj:ZA E m.move=some o) (h1: ¬(X9 o m.b).many≠m.b) (h2:((Jb (X9 o m.b) m).parts.length:Int)<(Jb (X9 o m.b) m).many∨(WA (ZD (Jb (X9 o m.b) m))).2=false):X3 E m=({E with off:=some (Jb (X9 o m.b) m)},[]):= by
  unfold X3; rw[if_neg h,hj]; dsimp only; rw[if_neg h1]
  rcases h2 with q | q
  · rw[if_pos q]
  · split
    · rfl
    · rfl
theorem M7 (h: ¬(m.b<1∨8000<m.b∨m.a<0∨m.b≤m.a)) (hj:ZA E m.move=some o) (h1: ¬(X9 o m.b).many≠m.b) (h2: ¬((Jb (X9 o m.b) m).parts.length:Int)<(Jb (X9 o m.b) m).many) (h3: ¬(WA (ZD (Jb (X9 o m.b) m))).2=false):X3 E m=YX {E with off:=some {Jb (X9 o m.b) m with list:=ZD (Jb (X9 o m.b) m)}} m.move:= by
  unfold X3; rw[if_neg h,hj]; dsimp only; rw[if_neg h1,if_neg h2,if_neg h3]
theorem Ei {n:Int} (h:(QU E 2 n).1≠0):YX E n=((QU E 2 n).2,[]):= by unfold YX; rw[if_pos h]
theorem Ga {n:Int} (h:(QU E 2 n).1=0):YX E n=({(QU E 2 n).2 with ses:=none},[Zk (QU E 2 n).2 2 0 0 []]):= by unfold YX; rw[if_neg (by omega)]
end
theorem P8 {w:World} {e:Nat} {E:EnD} {F:Th} (hS:Sat w [Xu e E,F]) (m:MsD) (hG:Ent F WireG) (hO:Ent F (Glob 0)) (hW:EW E) (hm:MsW m) (hu:E.cell≠none):
    Calls prog 71 #[ptrV e 0,.agg #[intV m.kind,intV m.move,intV m.a,intV m.b,strV m.data]] w (Ret fun v w'=>Sat w' [rowT Z2 v (X3 E m).2,Xu e (X3 E m).1,F]):= by
 refine Qx func71 Qa ntmps71 Qa ?_
 have hmi:X5 m.move:= by have :=hm.mv;unfold X5;omega
 have hmd:=hm.d
 refine Qg (Qb (XT hS Qa Qa Qa ?_))
 intro mp w1 hS1
 replace hS1:Sat w1 (QR mp [intV m.kind,intV m.move,intV m.a,intV m.b,strV m.data]::_):=hS1
 refine Qc Qa Qa (Qh (Qd (Qg (Qg (Qb (Qi Qa Jw Qa (Qq Qa QF (hS1.cell 0 Qa Qa) Qa (X0 Qa Qa Qa (Qe Qa Qa (Q4 15 Qa (fun h2=> ?_) (fun h2=> ?_)))))))))))
 ·refine Qf Qa Qa (Q8 h2) Qa (Qf Qa Qa (Q8 h2) Qa (Qf Qa Qa (Q8 h2) Qa (Q0 Qa (Q8 h2) Qa Qa (Qe Qa Qa (Qf Qa Qa Qa Qa (Qf Qa Qa Qa Qa (Qf Qa Qa Qa Qa (Q0 Qa Qa Qa Qa (Qe Qa Qa (Qf Qa Qa Qa Qa (Qf Qa Qa Qa Qa (Qf Qa Qa Qa Qa (Qf Qa Qa Qa Qa (Qf Qa Qa Qa Qa (Q0 Qa Qa Qa Qa (Qh (Qd (Qk [0,3,4,31] Qa (QO Qa (Qg (Qb (Qc Qa Qa (Qh (Qd (Qo (Qm (Q5 (.inr Qa) Qa Qa ?_)))))))))))))))))))))))))))
  exact⟨_,rfl, by rw[Gn (by omega)]; exact(Sat.row_nil Z2 (hS1.pick [1,2] Qa))⟩
 refine Qj Qa Qa (Qw h2) (Qi Qa Jw Qa (Qj Qa Qa (Qw h2) (Qq Qa QF (hS1.cell 0 Qa Qa) Qa (Qj Qa Qa (Qw h2) (Wl Qa Qa Qa (Q1 Qa (Qw h2) Qa Qa (Qe Qa Qa (Q4 20 Qa (fun h3=> ?_) (fun h3=> ?_)))))))))
 ·refine Qf Qa Qa (Q8 h3) Qa (Qf Qa Qa (Q8 h3) Qa (Qf Qa Qa (Q8 h3) Qa (Q0 Qa (Q8 h3) Qa Qa (Qe Qa Qa (Qf Qa Qa Qa Qa (Qf Qa Qa Qa Qa (Qf Qa Qa Qa Qa (Qf Qa Qa Qa Qa (Qf Qa Qa Qa Qa (Q0 Qa Qa Qa Qa (Qh (Qd (Qk [0,3,4,31] Qa (QO Qa (Qg (Qb (Qc Qa Qa (Qh (Qd (Qo (Qm (Q5 (.inr Qa) Qa Qa ?_))))))))))))))))))))))
  exact⟨_,rfl, by rw[Gn (by omega)]; exact(Sat.row_nil Z2 (hS1.pick [1,2] Qa))⟩
 refine Qj Qa Qa (Qw h3) (Qi Qa Wr Qa (Qj Qa Qa (Qw h3) (Qq Qa QF (hS1.cell 0 Qa Qa) Qa (Qj Qa Qa (Qw h3) (X0 Qa Qa Qa (Q1 Qa (Qw h3) Qa Qa (Qe Qa Qa (Q4 25 Qa (fun h4=> ?_) (fun h4=> ?_)))))))))
 ·refine Qf Qa Qa (Q8 h4) Qa (Qf Qa Qa (Q8 h4) Qa (Qf Qa Qa (Q8 h4) Qa (Qf Qa Qa (Q8 h4) Qa (Qf Qa Qa (Q8 h4) Qa (Q0 Qa (Q8 h4) Qa Qa (Qh (Qd (Qk [0,3,4,31] Qa (QO Qa (Qg (Qb (Qc Qa Qa (Qh (Qd (Qo (Qm (Q5 (.inr Qa) Qa Qa ?_)))))))))))))))))
  exact⟨_,rfl, by rw[Gn (by omega)]; exact(Sat.row_nil Z2 (hS1.pick [1,2] Qa))⟩
 refine Qj Qa Qa (Qw h4) (Qi Qa Wr Qa (Qj Qa Qa (Qw h4) (Qq Qa QF (hS1.cell 0 Qa Qa) Qa (Qj Qa Qa (Qw h4) (Qi Qa Jw Qa (Qj Qa Qa (Qw h4) (Qq Qa QF (hS1.cell 0 Qa Qa) Qa (Qj Qa Qa (Qw h4) (WX Qa Qa Qa (Q1 Qa (Qw h4) Qa Qa (Qh (Qd (Qk [0,3,4,31] Qa (Qt Qa (fun h5=> ?_) (fun h5=> ?_)))))))))))))))
 ·refine Qg (Qb (Qc Qa Qa (Qh (Qd (Qo (Qm (Q5 (.inr Qa) Qa Qa ?_)))))))
  exact⟨_,rfl, by rw[Gn (by omega)]; exact(Sat.row_nil Z2 (hS1.pick [1,2] Qa))⟩
 refine Qr (Qd (Qg (Qb (Qe Qa Qa (Qi Qa ZB Qa (Qq Qa QF (hS1.cell 0 Qa Qa) Qa (Hw N1 Qa (CK (hS1.sp [1] Qa) m.move) Qa ?_)))))))
 rintro e w6 ⟨_,rfl,(⟨hj,rfl,hS6⟩ | ⟨o,ob,om,on,dp1,cv1,sv1,hj,rfl,hS6⟩)⟩
 ·refine⟨_,Qa, ?_⟩
  replace hS6:=hS6.jn Qa Qa
  refine Qc Qa Qa (Qh (Qd (Qg (Qg (Qb (Qe Qa Qa (ZM underlying79 Qa Qa Qa (Qh (Qd (Qk [0,3,4,5,37] Qa (QO Qa (Qg (Qb (Qc Qa Qa (Qh (Qd (Qo (Qm (Q5 (.inr Qa) Qa Qa ?_)))))))))))))))))))
  exact⟨_,rfl, by rw[OJ (by omega) hj]; exact(Sat.row_nil Z2 (hS6.pick [0,2] Qa))⟩
 refine⟨_,Qa, ?_⟩
 replace hS6:=hS6.jn Qa Qa
 have hOW:=(V9 hW hm.mv hj).1
 dsimp only[Pm]at hS6
 refine Qc Qa Qa (Qh (Qd (Qg (Qg (Qb (Qe Qa Qa (ZH underlying79 Qa Qa Qa (Qh (Qd (Qk [0,3,4,5,37] Qa (QI Qa (Qr (Qd (Uh (fun E0 W0=> ∃(o1:OfD),E0=[(0,ptrV e 0),(3,ptrV mp 0),(5,ptrV ob 0)]∧Sat W0 [QR ob [intV o1.move,.map (some om),intV o1.many,.map (some on),strV o1.list],XE XY om (UU o1.parts),XE XY on (Yc o1.pages),QR e (U5 dp1 cv1 sv1 (ptrV ob 0) E),dT dp1 E.D,JK dp1 cv1 E.cell,VQ sv1 E.ses,QR mp [intV m.kind,intV m.move,intV m.a,intV m.b,strV m.data],F]∧(o1=X9 o m.b)) ?_ ?_))))))))))))))
 ·refine Qg (Qb (Qe Qa Qa (Ql Qa Qa (Qi Qa Kl Qa (Qq Qa S0 (hS6.cell 0 Qa Qa) Qa (Cj 1 hS6 underlying99 keysInt.inj Qa Qa Qa (fun mm hmm=> ?_)))))))
  obtain rfl:=hmm.uniq (NK hOW.ps)
  refine QL Qa Qa Qa (Qh (Qd (Qk [0,3,4,5,43] Qa (Qt Qa (fun h8=> ?_) (fun h8=> ?_)))))
  ·refine Qb (Qe Qa Qa (Qi Qa Jw Qa (Qq Qa QF (hS6.cell 7 Qa Qa) Qa (Ql Qa Qa (Qi Qa Gz Qa ?_)))))
   (refine Q7 hS6 Qa Qa Ya (by rfl) (i:=0) Qa (Xd Qa) ?_)
   intro w9 hS10; dsimp only[List.set]at hS10
   refine Qh ?_
   exact WH (BC Qa Qa Qa) ⟨{o with many:=m.b},rfl,hS10.pick [0,1,2,3,4,5,6,7,8] Qa, by unfold X9; rw[if_pos (List.eq_nil_of_length_eq_zero (by omega))]⟩
  have hne2: ¬((o.parts.length:Nat):Int)=0:=h8
  refine Qr ?_
  exact WH (BC Qa Qa Qa) ⟨o,rfl,hS6.pick [0,1,2,3,4,5,6,7,8] Qa, by unfold X9; rw[if_neg (fun q=>hne2 (by rw[q];rfl))]⟩
 rintro _ w7 ⟨o1,rfl,hS7,ho1⟩
 have hO1:OfW o1:= by rw[ho1]; exact Ma hOW (by omega)
 refine Qg (Qg ?_)
 have hS11:=hS7.drew
 refine QM [0,1,2,3,4,5,6] [] Wv (by kernel_rfl) ?_
 refine QK Qa Qa Qa (Xm Qa Qa Qa (QN Qa Qa Qa Gz (Q9 Qa Qa Qa (Qn Qa QF (hS11.cell 0 Qa Qa)) (QN Qa Qa Qa Jw (Q9 Qa Qa Qa (Qn Qa QF (hS11.cell 7 Qa Qa)) (QC Qa Qa Qa (fun _=>(JF Qa Qa)) ?_))))))
 refine VC.nil (Qd (Qt Qa (fun h12=> ?_) (fun h12=> ?_)))
 ·refine Qg (Qb (Qc Qa Qa (Qh (Qd (Qk [5,3,0,4] Qa (Qo (Qm (Q5 (.inr Qa) Qa Qa ?_))))))))
  exact⟨_,rfl, by rw[OI (by omega) hj (by rw[←ho1];omega),←ho1]; exact(Sat.row_nil Z2 (Qv (E:={E with off:=some o1}) ((XV (o:=o1) (hS11.pick [0,1,2,3,4,5,6,8] Qa)).reorder [1,2,3,4,0,5] Qa)))⟩
 refine Qr (Qd (Uh (fun E0 W0=> ∃(o2:OfD),E0=[(0,ptrV e 0),(3,ptrV mp 0),(5,ptrV ob 0)]∧Sat W0 [QR ob [intV o2.move,.map (some om),intV o2.many,.map (some on),strV o2.list],XE XY om (UU o2.parts),XE XY on (Yc o2.pages),QR e (U5 dp1 cv1 sv1 (ptrV ob 0) E),dT dp1 E.D,JK dp1 cv1 E.cell,VQ sv1 E.ses,QR mp [intV m.kind,intV m.move,intV m.a,intV m.b,strV m.data],F]∧(o2=Jb o1 m)) ?_ ?_))
 ·refine Qg ?_
  have hS14:=hS11.drew
  refine QM [0,1,2,3,4,5,6,7,8,9,10,11] [] Wv (by kernel_rfl) ?_
  refine QK Qa Qa Qa (Xm Qa Qa Qa (QN Qa Qa Qa Kl (Q9 Qa Qa Qa (Qn Qa S0 (hS14.cell 0 Qa Qa)) (QN Qa Qa Qa Wr (Q9 Qa Qa Qa (Qn Qa QF (hS14.cell 7 Qa Qa)) (Q9 Qa Qa Qa (UN (k:=m.a) 1 hS14 keysInt underlying99 Qa Qa Qa zr_9 (u:=strV ((QT o1.parts m.a).getD [])) (g:=(QT o1.parts m.a).isSome) (NL _ _) (AP _ _)) (QK Qa Qa Qa (Yn Qa Qa Qa Qa (Yn Qa Qa Qa Qa (WY Qa Qa Qa (WY Qa Qa Qa (VC.nil (Qd (Qk [5,3,0,7] Qa (Qg (Qb (Qe Qa Qa (XL Qa Qa (Qh (Qd (Xb Qa (fun h15=> ?_) (fun h15=> ?_))))))))))))))))))))))
  ·have hS16:=hS14.drew
   refine QM [0,1,2,3,4,5,6,7,8] [8] Wv (by kernel_rfl) ?_
   refine QK Qa Qa Qa (Xm Qa Qa Qa (QN Qa Qa Qa Kl (Q9 Qa Qa Qa (Qn Qa S0 (hS16.cell 0 Qa Qa)) (QN Qa Qa Qa Wr (Q9 Qa Qa Qa (Qn Qa QF (hS16.cell 7 Qa Qa)) (QN Qa Qa Qa HH (Q9 Qa Qa Qa (Qn Qa Zr (hS16.cell 7 Qa Qa)) (QS Qa Qa Qa Qa Qa Qa ?_))))))))
   refine Ze (k:=m.a) (v:=strV m.data) 1 hS16 keysInt underlying99 Qa Qa Qa Qa ?_
   intro w17 hS17; dsimp only[List.set]at hS17; rw[AO hO1.ps]at hS17
   refine Z6 (Xp (by kernel_rfl)) ?_
   refine VC.nil ?_
   exact WH (BC Qa Qa Qa) ⟨{o1 with parts:=XO m.a m.data o1.parts},rfl,hS17.pick [0,1,2,3,4,5,6,7,8] Qa, by unfold Jb; rw[if_neg (by simp_all)]⟩
  refine Qr ?_
  exact WH (BC Qa Qa Qa) ⟨o1,rfl,hS14.pick [0,1,2,3,4,5,6,7,8] Qa, by unfold Jb; rw[if_pos (by simp_all)]⟩
 rintro _ w13 ⟨o2,rfl,hS13,ho2⟩
 have hO2:OfW o2:= by rw[ho2]; exact FJ hO1 hm (by omega)
 have hmn2:=hO2.mn
 refine Qg (Qg ?_)
 have hS18:=hS13.drew
 refine QM [0,1,2,3,4,5,6,7,8,9] [] Wv (by kernel_rfl) ?_
 refine QK Qa Qa Qa (Xm Qa Qa Qa (QN Qa Qa Qa Kl (Q9 Qa Qa Qa (Qn Qa S0 (hS18.cell 0 Qa Qa)) (Q9 Qa Qa Qa (Nc 1 hS18 underlying99 keysInt.inj Qa Qa (NK hO2.ps)) (QK Qa Qa Qa (Xm Qa Qa Qa (QN Qa Qa Qa Gz (Q9 Qa Qa Qa (Qn Qa QF (hS18.cell 0 Qa Qa)) (QC Qa Qa Qa (fun _=>(MH Qa Qa)) ?_)))))))))
 refine VC.nil (Qd (Qk [5,3,0,85] Qa (Qt Qa (fun h19=> ?_) (fun h19=> ?_))))
 ·refine Qg (Qb (Qc Qa Qa (Qh (Qd (Qo (Qm (Q5 (.inr Qa) Qa Qa ?_)))))))
  exact⟨_,rfl, by rw[M8 (by omega) hj (by rw[←ho1];omega) (by rw[←ho1,←ho2]; exact .inl (by omega)),←ho1,←ho2]; exact(Sat.row_nil Z2 (Qv (E:={E with off:=some o2}) ((XV (o:=o2) (hS18.pick [0,1,2,3,4,5,6,8] Qa)).reorder [1,2,3,4,0,5] Qa)))⟩
 refine Qr (Qd (Qg (Qb (Tw hS18 Az (cs:=[.pointer none,.slice none 0 0]) Qa Qa ?_))))
 intro bb wB hSB
 have hSC:=B5 (.inl Qa) ((Sv hSB).perm (List.Perm.swap _ _ _))
 refine Qh (Qd (Qg (Qg (Qb (Qe Qa Qa (Ql Qa Qa (Qi Qa Gz Qa (Qq Qa QF (hSC.cell 1 Qa Qa) Qa (Qe Qa Qa (Qh (Qd (QD ?_))))))))))))
 refine X8 (fun K0 E0 W0=> ∃(i:Nat),K0=o2.many.toNat -i∧E0=[(0,ptrV e 0),(3,ptrV mp 0),(5,ptrV ob 0),(8,ptrV bb 0),(89,intV o2.many),(90,intV (i:Int))]∧Sat W0 [Sw bb (En o2 i),QR ob [intV o2.move,.map (some om),intV o2.many,.map (some on),strV o2.list],XE XY om (UU o2.parts),XE XY on (Yc o2.pages),QR e (U5 dp1 cv1 sv1 (ptrV ob 0) E),dT dp1 E.D,JK dp1 cv1 E.cell,VQ sv1 E.ses,QR mp [intV m.kind,intV m.move,intV m.a,intV m.b,strV m.data],F]∧((i:Int)≤o2.many)) (L0:=[(0,_),(3,_),(5,_),(8,_),(89,_),(90,_)]) (o2.many.toNat -0) (RM Qa Qa Qa Qa Qa Qa) ⟨0,rfl,rfl,hSC.pick [0,1,2,3,4,5,6,7,8,9] Qa, by omega⟩ ?_
 rintro _ _ w20 ⟨i,rfl,rfl,hS20,hi⟩
 have hpb:=Oh hO2 i
 have hdl:=MD (l:=o2.parts) (n:=1000) (fun e he=>(hO2.pl e he).2.2) (i:Int)
 refine Qg (Qb (X0 Qa Qa Qa (Qh (Qd (Qg (Qt Qa (fun h21=> ?_) (fun h21=> ?_)))))))
 ·refine Qr (Qd (Qg (QD (Qg (Qb (Qe Qa Qa (Qc Qa Qa (Qh (Qd (Qb (Qe Qa Qa (Ql Qa Qa (Qi Qa Kl Qa (Qq Qa S0 (hS20.cell 1 Qa Qa) Qa (Qe Qa Qa (Hp (k:=(i:Int)) 2 hS20 keysInt underlying99 Qa Qa Qa zr_9 (NL o2.parts (i:Int)) Qa (Qz N0 Qa (U0 (hS20.sp [0] Qa) ((QT o2.parts (i:Int)).getD []) (by omega)) Qa ?_)))))))))))))))))
  rintro _ w22 ⟨rfl,hS22⟩
  replace hS22:=hS22.jn Qa Qa
  refine Qh (Qp (Qd (Qk [90,89,8,5,3,0] Qa (Qb (Xx Qa Qa (by omega) (by omega) Qa ?_)))))
  refine Qe Qa Qa (Qh ?_)
  exact Xa (L1:=[(0,_),(3,_),(5,_),(8,_),(89,_),(90,intV ((i+1:Nat):Int))]) (RM Qa Qa Qa Qa Qa Qa) (k1:=o2.many.toNat -(i+1)) (by omega) ⟨i+1,rfl,rfl,(by rw[Em]; exact hS22.pick [0,1,2,3,4,5,6,7,8,9] Qa), by omega⟩
 refine Xq (Q2 (Q2 (QH (Qd (Qg (Qg ?_))))))
 have hie:i=o2.many.toNat:= by omega
 have hpbl:(ZD o2).length≤8000000:=Mq hO2
 have hpe0:En o2 i=ZD o2:= by rw[hie];rfl
 rw[hpe0]at hS20
 have hS23:=bldZ_of (hS20.pick [0,1,2,3,4,5,6,7,8,9] Qa)
 refine Qb (Qz Nz Qa (MS (hS23.sp [0] Qa) (by omega)) Qa ?_)
 rintro _ w24 ⟨rfl,hS24⟩
 replace hS24:=hS24.jn Qa Qa
 refine Hw LC Qa (Ph (hS24.sp [] Qa) (hG.starL 9 Qa) (ZD o2) (by omega)) Qa ?_
 rintro e w25 ⟨_,rfl,(⟨hpe,rfl,hS25⟩ | ⟨sb9,sm9,s9,g9,hpe,rfl,hS25⟩)⟩
 ·refine⟨_,Qa, ?_⟩
  replace hS25:=hS25.jn Qa Qa
  refine Qe Qa Qa (Q6 Qa Qa Qa (Q6 Qa Qa Qa (Qc Qa Qa (Qc Qa Qa (Qh (Qd (Qk [8,5,3,0,11] Qa (Qg (Qb (Qe Qa Qa (XL Qa Qa (Qh (Qd (Xb Qa (fun h26=> ?_) (fun h26=> ?_)))))))))))))))
  ·refine Qg (Qb (Qc Qa Qa (Qh (Qd (Qo (Qm (Q5 (.inr Qa) Qa Qa ?_)))))))
   exact⟨_,rfl, by rw[M8 (by omega) hj (by rw[←ho1];omega) (by rw[←ho1,←ho2]; exact .inr (by rw[hpe];done)),←ho1,←ho2]; exact(Sat.row_nil Z2 (Qv (E:={E with off:=some o2}) ((XV (o:=o2) (hS25.pick [1,2,3,4,5,6,7,9] Qa)).reorder [1,2,3,4,0,5] Qa)))⟩
  (exfalso; have q9:=h26; simp at q9)
 refine⟨_,Qa, ?_⟩
 replace hS25:=hS25.jn Qa Qa
 refine Qe Qa Qa (Q6 Qa Qa Qa (Q6 Qa Qa Qa (Qc Qa Qa (Qc Qa Qa (Qh (Qd (Qk [8,5,3,0,11] Qa (Qg (Qb (Qe Qa Qa (XL Qa Qa (Qh (Qd (Xb Qa (fun h27=> ?_) (fun h27=> ?_)))))))))))))))
 ·have hg9:g9=false:= by simpa using h27
  refine Qg (Qb (Qc Qa Qa (Qh (Qd (Qo (Qm (Q5 (.inr Qa) Qa Qa ?_)))))))
  exact⟨_,rfl, by rw[M8 (by omega) hj (by rw[←ho1];omega) (by rw[←ho1,←ho2]; exact .inr (by rw[hpe];simp_all)),←ho1,←ho2]; exact(Sat.row_nil Z2 (Qv (E:={E with off:=some o2}) ((XV (o:=o2) (hS25.pick [3,4,5,6,7,8,9,11] Qa)).reorder [1,2,3,4,0,5] Qa)))⟩
 have hg9:g9=true:= by simpa using h27
 refine Qr (Qd (Qg (Qb (Qe Qa Qa (Qz Nz Qa (MS (hS25.sp [2] Qa) (by omega)) Qa ?_)))))
 rintro _ w28 ⟨rfl,hS28⟩
 replace hS28:=hS28.jn Qa Qa
 refine Ql Qa Qa (Qi Qa PW Qa ?_)
 (refine Q7 hS28 Qa Qa R2 (by rfl) (i:=3) Qa (Xd Qa) ?_)
 intro w29 hS30; dsimp only[List.set]at hS30
 refine Qh (Qd (Qk [3,0] Qa (Qg (Qg (Qb (Qe Qa Qa (Qi Qa ZB Qa (Qq Qa QF (hS30.cell 10 Qa Qa) Qa ?_))))))))
 have hS31:=Qv (E:={E with off:=some {o2 with list:=ZD o2}}) ((XV (o:={o2 with list:=ZD o2}) (hS30.pick [3,4,5,6,7,8,9,0,1,2,10,11] Qa)).reorder [1,2,3,4,0,5,6,7,8,9] Qa)
 refine Qz Ku Qa (UH (E:={E with off:=some {o2 with list:=ZD o2}}) (hS31.sp [0] Qa) (hG.starL 4 Qa) (hO.starL 4 Qa) hu (k:=2) (m:=m.move) (XM (by decide)) hmi) Qa ?_
 rintro _ w32 ⟨rfl,hS32⟩
 replace hS32:=hS32.jn Qa Qa
 refine Xr Qa Qa Qa (Qh (Qd (Qt Qa (fun h33=> ?_) (fun h33=> ?_))))
 ·have hbad:(QU {E with off:=some {o2 with list:=ZD o2}} 2 m.move).1≠0:= by simpa using h33
  refine Qg (Qb (Qc Qa Qa (Qh (Qd (Qo (Qm (Q5 (.inr Qa) Qa Qa ?_)))))))
  exact⟨_,rfl, by rw[M7 (by omega) hj (by rw[←ho1];omega) (by rw[←ho1,←ho2];omega) (by rw[←ho1,←ho2,hpe];simp_all),←ho1,←ho2,Ei hbad]; exact(Sat.row_nil Z2 (hS32.pick [0,5] Qa))⟩
 have hn0:(QU {E with off:=some {o2 with list:=ZD o2}} 2 m.move).1=0:= by simpa using h33
 have hnm:X5 (QU {E with off:=some {o2 with list:=ZD o2}} 2 m.move).2.move:= by rw[Vm (E:={E with off:=some {o2 with list:=ZD o2}}) hu hn0]; exact hmi
 refine Qr (Qd (Qg ?_))
 obtain⟨dp2,cv2,sv2,ov2,hS34⟩:=QQ (hS32.pick [0,1,2,3,4,5] rfl)
 refine Qb (Qe Qa Qa (Ql Qa Qa (Qi Qa Xo Qa ?_)))
 (refine Q7 hS34 Qa Qa DN (by rfl) (i:=0) Qa (Xd Qa) ?_)
 intro w35 hS36; dsimp only[List.set]at hS36
 refine Qh (Qd (Qg (Qb (Qe Qa Qa ?_))))
 have hS37:=Qv (E:={(QU {E with off:=some {o2 with list:=ZD o2}} 2 m.move).2 with ses:=none}) (dp:=dp2) ((ZQ (hS36.pick [0,1,2,4,5,6,7,8,9] Qa)).reorder [1,2,3,0,4,5,6,7,8,9] Qa)
 refine Qz Ja Qa (WZ (hS37.sp [0] Qa) (hG.starL 4 Qa) (E:={(QU {E with off:=some {o2 with list:=ZD o2}} 2 m.move).2 with ses:=none}) (k:=2) (a:=0) (b:=0) (s:=[]) (Yo (XM (by decide)) hnm)) Qa ?_
 rintro _ w38 ⟨rfl,hS38⟩
 replace hS38:=hS38.jn Qa Qa
 refine Xc Z2 [Zk (QU {E with off:=some {o2 with list:=ZD o2}} 2 m.move).2 2 0 0 []] hS38 Qa underlying66 JP Qa Qa Qa Qa (by rfl) rfl ?_
 intro b39 w39 hS39
 refine Qc Qa Qa (Qh (Qd (Qk [4] Qa (Qo (Q5 (.inr Qa) Qa Qa ?_)))))
 exact⟨_,rfl, by rw[M7 (by omega) hj (by rw[←ho1];omega) (by rw[←ho1,←ho2];omega) (by rw[←ho1,←ho2,hpe];simp_all),←ho1,←ho2,Ga hn0]; exact hS39.pick [0,1,6] Qa⟩
