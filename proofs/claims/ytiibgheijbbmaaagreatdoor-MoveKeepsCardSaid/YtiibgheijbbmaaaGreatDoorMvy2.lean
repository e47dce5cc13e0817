/- move: hearPage -/
import Derived.Test.YtiibgheijbbmaaaGreatDoorMvy1
import Derived.Test.YtiibgheijbbmaaaGreatDoorMv1
set_option linter.unusedVariables false
set_option maxRecDepth 100000
set_option maxHeartbeats 100000000000
namespace Go.Proofs.YtiibgheijbbmaaaGreatDoor
open Go.RowKit M Proofs.Tryz
def Du (o:OfD) (m:MsD):Bool:= match Xg o.pages m.a with | none=>true | some p=>decide (p.ver<m.b)
section
variable {E:EnD} {m:MsD} {o:OfD} {s:SeD} {p:PgD}
theorem Ba (h:(Vl (Xg o.pages m.a)).ver<m.b):Du o m=true:= by
  unfold Du;unfold Vl at h
  cases q:Xg o.pages m.a with
  | none=>rfl
  | some p=> rw[q]at h;simpa using h
theorem GZ (h:(Xg o.pages m.a).isSome=false):Du o m=true:= by
  unfold Du
  cases q:Xg o.pages m.a with
  | none=>rfl
  | some p=> rw[q]at h; cases h
theorem L8 (h: ¬(Vl (Xg o.pages m.a)).ver<m.b) (h2:(Xg o.pages m.a).isSome=true):Du o m=false:= by
  unfold Du;unfold Vl at h
  cases q:Xg o.pages m.a with
  | none=> rw[q]at h2; cases h2
  | some p=> rw[q]at h;simpa using h
theorem LZ {l:AL PgD} {i:Int} (h:(Vl (Xg l i)).miss=true):Xg l i=some (Vl (Xg l i)):= by
  cases q:Xg l i with
  | none=> rw[q]at h; cases h
  | some p=>rfl
theorem CH (hk:E.kind≠1) (hj:Ww E m.move=none):XY E m=E:= by unfold XY; rw[if_pos hk,hj]
theorem Rl (hk:E.kind≠1) (hj:Ww E m.move=some o) (q:Du o m=true):XY E m={E with off:=some {o with pages:=Zk m.a ⟨m.data,m.b,0,false⟩ o.pages}}:= by unfold XY; rw[if_pos hk,hj]; dsimp only;unfold Du at q; cases z:Xg o.pages m.a with | none=>rfl | some p=>(rw[z]at q; dsimp only at q⊢; rw[if_pos q])
theorem CG (hk:E.kind≠1) (hj:Ww E m.move=some o) (q:Du o m=false):XY E m={E with off:=some o}:= by unfold XY; rw[if_pos hk,hj]; dsimp only;unfold Du at q; cases z:Xg o.pages m.a with | none=>(rw[z]at q; cases q) | some p=>(rw[z]at q; dsimp only at q⊢; rw[if_neg (by rw[q];decide)])
theorem CF (hk: ¬E.kind≠1) (hs:E.ses=none):XY E m=E:= by unfold XY; rw[if_neg hk,hs]
theorem CE (hk: ¬E.kind≠1) (hs:E.ses=some s) (h:m.move≠E.move∨m.data.length≠64):XY E m=E:= by unfold XY; rw[if_neg hk,hs]; dsimp only; rw[if_pos h]
theorem CD (hk: ¬E.kind≠1) (hs:E.ses=some s) (h: ¬(m.move≠E.move∨m.data.length≠64)) (h2: ¬((Vl (Xg s.pages m.a)).miss=true∧(Vl (Xg s.pages m.a)).ver=m.b)):XY E m=E:= by
  unfold XY; rw[if_neg hk,hs]; dsimp only; rw[if_neg h]
  cases q:Xg s.pages m.a with
  | none=>rfl
  | some p=> rw[q]at h2; dsimp only; rw[if_neg (show ¬(p.miss=true∧p.ver=m.b) from h2)]
theorem E9 (hk: ¬E.kind≠1) (hs:E.ses=some s) (h: ¬(m.move≠E.move∨m.data.length≠64)) (hp:Xg s.pages m.a=some p) (h2:p.miss=true∧p.ver=m.b):XY E m={E with ses:=some {s with pages:=Zk m.a {p with miss:=false,data:=m.data} s.pages}}:= by unfold XY; rw[if_neg hk,hs]; dsimp only; rw[if_neg h,hp]; dsimp only; rw[if_pos h2]
end
theorem Pn {w:World} {e:Nat} {E:EnD} {F:Th} (hS:Sat w [Xw e E,F]) (m:MsD) (hW:EW E) (hm:MsW m) (hq_s:E.ses=none):
    Calls prog 70 #[ptrV e 0,.agg #[intV m.kind,intV m.move,intV m.a,intV m.b,strV m.data]] w (Ret fun v w'=>Sat w' [rowT Zn v [],Xw e (XY E m),F]):= by
 obtain⟨dp,cv,sv,ov,hS⟩:=QU hS
 rw[hq_s]at hS
 obtain⟨rfl,hS⟩:=Je (hS.reorder [3,0,1,2,4,5] rfl)
 refine Qy func70 Qa ntmps70 Qa ?_
 refine Qf (Qb (Za hS Qa Qa Qa ?_))
 intro mp w1 hS1
 replace hS1:Sat w1 (Xb mp [intV m.kind,intV m.move,intV m.a,intV m.b,strV m.data]::_):=hS1
 refine Qc Qa Qa (Qh (Qd (Qf (Qf (Qb (Qe Qa Qa (Ql Qa Qa (Qi Qa Zh Qa (Qr Qa QH (hS1.cell 1 Qa Qa) Qa (Xu Qa Qa Qa (Qh (Qd (Qv Qa (fun h2=> ?_) (fun h2=> ?_))))))))))))))
 ·refine Qf (Qf ?_)
  have hS3:=Qu (E:=E) (by rw[hq_s]; exact((ZQ hS1).pick [2,3,4,0,5,1,6] Qa))
  refine Qb (Qe Qa Qa (Qi Qa Zz Qa (Qr Qa QH (hS3.cell 1 Qa Qa) Qa (YZ TB Qa (Ta (hS3.sp [0] Qa) m.move) Qa ?_))))
  rintro e w4 ⟨_,rfl,(⟨hj,rfl,hS4⟩ | ⟨o,ob,om,on,dp1,cv1,sv1,hj,rfl,hS4⟩)⟩
  ·refine⟨_,Qa, ?_⟩
   replace hS4:=hS4.jn Qa Qa
   refine Qc Qa Qa (Qh (Qd (Qk [0,3,4,5] Qa (Qf ?_))))
   have hS5:=hS4.drew
   refine QN [0,1,2,3,4,5,6,7,8,9,10,11,12,13,14,15,16,17,18,19,20,21,22,23,24,25] [22] W5 (by kernel_rfl) ?_
   refine QI Qa Qa Qa (Q9 Qa Qa Qa (fun _=>(JP underlying79 Qa Qa)) ?_)
   refine QI Qa Qa Qa (Q2 Qa Qa (Qs Qa Qa Qa) (Q2 Qa Qa (Qs Qa Qa Qa) (Q2 Qa Qa (Qs Qa Qa Qa) (Q2 Qa Qa (Qs Qa Qa Qa) (Q2 Qa Qa (Qs Qa Qa Qa) (Q2 Qa Qa (Qs Qa Qa Qa) (Q2 Qa Qa (Qs Qa Qa Qa) (Q2 Qa Qa (Qs Qa Qa Qa) (Q2 Qa Qa (Qs Qa Qa Qa) (Q2 Qa Qa (Qs Qa Qa Qa) (Q2 Qa Qa (Qs Qa Qa Qa) (Q9 Qa Qa Qa (fun _=>(Xi Qa Qa Qa)) ?_))))))))))))
   refine QI Qa Qa Qa (Q9 Qa Qa (Qp Qa Qa Qa) (fun _=>(Ev.gd (Xk Qa))) ?_)
   refine Q9 Qa Qa (Qp Qa Qa Qa) (fun _=>(Ev.gd (JP underlying79 Qa Qa))) ?_
   refine Q9 Qa Qa (Qp Qa Qa Qa) (fun _=>(Ev.gd (Xk Qa))) ?_
   refine Q2 Qa Qa (Qs Qa Qa Qa) (Q2 Qa Qa (Qs Qa Qa Qa) (Q2 Qa Qa (Qs Qa Qa Qa) (VC.spineNot Qa Qa (Qs Qa Qa Qa) (Q2 Qa Qa (Qs Qa Qa Qa) (Q9 Qa Qa (Qp Qa Qa Qa) (fun _=>(Ev.gd (Xi Qa Qa Qa))) ?_)))))
   refine Q9 Qa Qa Qa (fun _=>(Xi Qa Qa Qa)) ?_
   refine VC.nil (Qd (Qk [0,3,4,5,41] Qa (QJ Qa (Qt (Qd (Qf (Qb (Qc Qa Qa (Qh (Qd (Qo (Qm (Q5 (.inr Qa) Qa Qa ?_)))))))))))))
   exact⟨_,rfl, by rw[CH (by omega) hj]; exact(Sat.row_nil Zn (hS5.pick [0,2] Qa))⟩
  refine⟨_,Qa, ?_⟩
  replace hS4:=hS4.jn Qa Qa
  have hOW:=(Rg hW hm.mv hj).1
  dsimp only[Cs]at hS4
  refine Qc Qa Qa (Qh (Qd (Qk [0,3,4,5] Qa (Qf ?_))))
  have hS6:=hS4.drew
  refine QN [0,1,2,3,4,5,6,7,8,9,10,11,12,13,14,15,16,17,18,19,20,21,22,23,24,25] [22] W5 (by kernel_rfl) ?_
  refine QI Qa Qa Qa (Q9 Qa Qa Qa (fun _=>(HI underlying79 Qa Qa)) ?_)
  refine QI Qa Qa Qa (Q9 Qa Qa (Qp Qa Qa Qa) (fun _=>(Ev.gd (Xk Qa))) ?_)
  refine Q9 Qa Qa (Qp Qa Qa Qa) (fun _=>(Ev.gd (Xy Qa))) ?_
  refine Q9 Qa Qa (Qp Qa Qa Qa) (fun _=>(Ev.gd (QS Qa Hu))) ?_
  refine QF Qa Qa (Qp Qa Qa Qa) (Ev.gd (Qn Qa ZL (hS6.cell 0 Qa Qa))) (Q9 Qa Qa (Qp Qa Qa Qa) (fun _=>(Ev.gd (QS Qa Wg))) ?_)
  refine QF Qa Qa (Qp Qa Qa Qa) (Ev.gd (Qn Qa QH (hS6.cell 7 Qa Qa))) (QF Qa Qa (Qp Qa Qa Qa) (Ev.gd (JQ (k:=m.a) 2 hS6 keysInt underlying89 Qa Qa Qa ZY (Yp o.pages m.a))) (Q9 Qa Qa (Qp Qa Qa Qa) (fun _=>(Ev.gd (R2 Tj Qa Qa))) ?_))
  refine Q9 Qa Qa (Qp Qa Qa Qa) (fun _=>(Ev.gd (QS Qa Jk))) ?_
  refine QF Qa Qa (Qp Qa Qa Qa) (Ev.gd (Qn Qa QH (hS6.cell 7 Qa Qa))) (Q9 Qa Qa (Qp Qa Qa Qa) (fun _=>(Ev.gd (KI Qa Qa))) ?_)
  refine Q9 Qa Qa Qa (fun _=>(Xz Qa Qa Qa)) ?_
  refine QI Qa Qa Qa (XB 31 Qa (fun h7=> ?_) (fun h7=> ?_))
  ·refine Q2 Qa Qa (Qs Qa Qa (QD h7)) (Q2 Qa Qa (Qs Qa Qa (QD h7)) (Q2 Qa Qa (Qs Qa Qa (QD h7)) (Q2 Qa Qa (W6 Qa Qa) (Q2 Qa Qa (W6 Qa Qa) (Q2 Qa Qa (W6 Qa Qa) (VC.spineNot Qa Qa (W6 Qa Qa) (Q2 Qa Qa (W6 Qa Qa) (Q2 Qa Qa (Qs Qa Qa (QD h7)) (Q9 Qa Qa Qa (fun _=>(Xz Qa (QD h7) Qa)) ?_)))))))))
   refine VC.nil (Qd (Qk [0,3,4,5,41] Qa (QP Qa ?_)))
   have hS8:=hS6.drew
   refine QN [0,1,2,3,4,5,6,7,8,9,10,11] [11] W5 (by kernel_rfl) ?_
   refine QI Qa Qa Qa (Xn Qa Qa Qa (QO Qa Qa Qa Hu (QF Qa Qa Qa (Qn Qa ZL (hS8.cell 0 Qa Qa)) (QO Qa Qa Qa Wg (QF Qa Qa Qa (Qn Qa QH (hS8.cell 7 Qa Qa)) (QO Qa Qa Qa Ht (QF Qa Qa Qa (Qn Qa Zx (hS8.cell 7 Qa Qa)) (QO Qa Qa Qa Jk (QF Qa Qa Qa (Qn Qa QH (hS8.cell 7 Qa Qa)) (Q9 Qa Qa Qa (fun _=>(W7 Qa Y1 HY ZY Qa)) ?_))))))))))
   refine QV Qa Qa Qa Qa Qa Qa ?_
   refine XP (k:=m.a) (v:=Kp ⟨m.data,m.b,0,false⟩) 2 hS8 keysInt underlying89 Qa Qa Qa Qa ?_
   intro w9 hS9; dsimp only[List.set]at hS9; rw[H9 hOW.gs]at hS9
   refine Z9 (Xq (by kernel_rfl)) ?_
   refine VC.nil (Qd (Qk [0,3,4] Qa (Qf (Qb (Qc Qa Qa (Qh (Qd (Qo (Qm (Q5 (.inr Qa) Qa Qa ?_))))))))))
   exact⟨_,rfl, by rw[Rl (by omega) hj (Ba (by omega))]; exact(Sat.row_nil Zn (Qu (E:={E with off:=some {o with pages:=Zk m.a ⟨m.data,m.b,0,false⟩ o.pages}}) ((XE (o:={o with pages:=Zk m.a ⟨m.data,m.b,0,false⟩ o.pages}) (hS9.pick [0,1,2,3,4,5,6,8] Qa)).reorder [1,2,3,4,0,5] Qa)))⟩
  refine Q9 Qa Qa (Qp Qa Qa (Qx h7)) (fun _=>(Ev.gd (Xk Qa))) ?_
  refine Q9 Qa Qa (Qp Qa Qa (Qx h7)) (fun _=>(Ev.gd (HI underlying79 Qa Qa))) ?_
  refine Q9 Qa Qa (Qp Qa Qa (Qx h7)) (fun _=>(Ev.gd (Xk Qa))) ?_
  refine Q9 Qa Qa (Qp Qa Qa Qa) (fun _=>(Ev.gd (Xk Qa))) ?_
  refine Q9 Qa Qa (Qp Qa Qa Qa) (fun _=>(Ev.gd (QS Qa Wg))) ?_
  refine QF Qa Qa (Qp Qa Qa Qa) (Ev.gd (Qn Qa QH (hS6.cell 7 Qa Qa))) (QV Qa Qa (Qp Qa Qa Qa) Qa Qa Qa ?_)
  refine Q0 SD Qa (EB (hS6.sp [0,2] Qa) m.a) Qa ?_
  rintro _ w10 ⟨rfl,hS10⟩
  replace hS10:=hS10.jn Qa Qa
  refine Xd (Xq (by kernel_rfl)) ?_
  refine Q9 Qa Qa (Qp Qa Qa Qa) (fun _=>(Ev.gd (Gm Qa))) ?_
  refine Q9 Qa Qa (Qp Qa Qa (Qx h7)) (fun _=>(Ev.gd (Xz Qa Qa Qa))) ?_
  refine Q9 Qa Qa Qa (fun _=>(Xi Qa (Qx h7) Qa)) ?_
  refine VC.nil (Qd (Qk [0,3,4,5,41] Qa (QZ Qa (fun h11=> ?_) (fun h11=> ?_))))
  ·have hhas:=h11
   have hS12:=hS10.drew
   refine QN [0,1,2,3,4,5,6,7,8,9,10,11] [11] W5 (by kernel_rfl) ?_
   refine QI Qa Qa Qa (Xn Qa Qa Qa (QO Qa Qa Qa Hu (QF Qa Qa Qa (Qn Qa ZL (hS12.cell 0 Qa Qa)) (QO Qa Qa Qa Wg (QF Qa Qa Qa (Qn Qa QH (hS12.cell 7 Qa Qa)) (QO Qa Qa Qa Ht (QF Qa Qa Qa (Qn Qa Zx (hS12.cell 7 Qa Qa)) (QO Qa Qa Qa Jk (QF Qa Qa Qa (Qn Qa QH (hS12.cell 7 Qa Qa)) (Q9 Qa Qa Qa (fun _=>(W7 Qa Y1 HY ZY Qa)) ?_))))))))))
   refine QV Qa Qa Qa Qa Qa Qa ?_
   refine XP (k:=m.a) (v:=Kp ⟨m.data,m.b,0,false⟩) 1 hS12 keysInt underlying89 Qa Qa Qa Qa ?_
   intro w13 hS13; dsimp only[List.set]at hS13; rw[H9 hOW.gs]at hS13
   refine Z9 (Xq (by kernel_rfl)) ?_
   refine VC.nil (Qd (Qk [0,3,4] Qa (Qf (Qb (Qc Qa Qa (Qh (Qd (Qo (Qm (Q5 (.inr Qa) Qa Qa ?_))))))))))
   exact⟨_,rfl, by rw[Rl (by omega) hj (GZ (by simpa using hhas))]; exact(Sat.row_nil Zn (Qu (E:={E with off:=some {o with pages:=Zk m.a ⟨m.data,m.b,0,false⟩ o.pages}}) ((XE (o:={o with pages:=Zk m.a ⟨m.data,m.b,0,false⟩ o.pages}) (hS13.pick [0,2,1,3,4,5,6,8] Qa)).reorder [1,2,3,4,0,5] Qa)))⟩
  have hhas:=h11
  refine Qt (Qd (Qf (Qb (Qc Qa Qa (Qh (Qd (Qo (Qm (Q5 (.inr Qa) Qa Qa ?_)))))))))
  exact⟨_,rfl, by rw[CG (by omega) hj (L8 (by omega) (by simpa using hhas))]; exact(Sat.row_nil Zn (Qu (E:={E with off:=some o}) ((XE (o:=o) (hS10.pick [0,2,1,3,4,5,6,8] Qa)).reorder [1,2,3,4,0,5] Qa)))⟩
 refine Qt (Qd (Qf (Qf ?_)))
 have hS14:=hS1.drew
 refine QN [0,1,2,3,4,5,6,7,8,9,10,11,12,13,14,15,16,17,18,19] [] W5 (by kernel_rfl) ?_
 refine QO Qa Qa Qa Zz (QF Qa Qa Qa (Qn Qa QH (hS14.cell 0 Qa Qa)) (QI Qa Qa Qa (Xn Qa Qa Qa (QO Qa Qa Qa Wp (QF Qa Qa Qa (Qn Qa QH (hS14.cell 1 Qa Qa)) (Q9 Qa Qa Qa (fun _=>(JZ Qa Qa)) ?_))))))
 refine QI Qa Qa Qa (XB 60 Qa (fun h15=> ?_) (fun h15=> ?_))
 ·refine Q2 Qa Qa (Qs Qa Qa (QD h15)) (Q2 Qa Qa (Qs Qa Qa (QD h15)) (Q2 Qa Qa (Qs Qa Qa (QD h15)) (Q2 Qa Qa (Qs Qa Qa (QD h15)) (Q2 Qa Qa (Qs Qa Qa (QD h15)) (Q9 Qa Qa Qa (fun _=>(Xz Qa (QD h15) Qa)) ?_)))))
  refine QI Qa Qa Qa (Q2 Qa Qa (Qs Qa Qa Qa) (Q2 Qa Qa (Qs Qa Qa Qa) (Q2 Qa Qa (Qs Qa Qa Qa) (Q2 Qa Qa (Qs Qa Qa Qa) (Q9 Qa Qa Qa (fun _=>(Xz Qa Qa Qa)) ?_)))))
  refine VC.nil (Qd (Qk [0,3,4,72] Qa (QP Qa (Qf (Qb (Qc Qa Qa (Qh (Qd (Qo (Qm (Q5 (.inr Qa) Qa Qa ?_)))))))))))
  exact⟨_,rfl, by rw[CF (by omega) hq_s]; exact(Sat.row_nil Zn (Qu (E:=E) (by rw[hq_s]; exact((ZQ hS14).pick [2,3,4,0,5,6] Qa))))⟩
 refine Q9 Qa Qa (Qp Qa Qa (Qx h15)) (fun _=>(Ev.gd (Xk Qa))) ?_
 refine Q9 Qa Qa (Qp Qa Qa (Qx h15)) (fun _=>(Ev.gd (Xy Qa))) ?_
 refine Q9 Qa Qa (Qp Qa Qa (Qx h15)) (fun _=>(Ev.gd (QS Qa Xt))) ?_
 refine QF Qa Qa (Qp Qa Qa (Qx h15)) (Ev.gd (Qn Qa ZA (hS14.cell 1 Qa Qa))) (Q9 Qa Qa (Qp Qa Qa (Qx h15)) (fun _=>(Ev.gd (UZ underlying78 Qa Qa))) ?_)
 refine Q9 Qa Qa Qa (fun _=>(Xi Qa (Qx h15) Qa)) ?_
 refine QI Qa Qa Qa (Q2 Qa Qa (Qs Qa Qa Qa) (Q2 Qa Qa (Qs Qa Qa Qa) (Q2 Qa Qa (Qs Qa Qa Qa) (Q2 Qa Qa (Qs Qa Qa Qa) (Q9 Qa Qa Qa (fun _=>(Xz Qa Qa Qa)) ?_)))))
 refine VC.nil (Qd (Qk [0,3,4,72] Qa (QP Qa (Qf (Qb (Qc Qa Qa (Qh (Qd (Qo (Qm (Q5 (.inr Qa) Qa Qa ?_)))))))))))
 exact⟨_,rfl, by rw[CF (by omega) hq_s]; exact(Sat.row_nil Zn (Qu (E:=E) (by rw[hq_s]; exact((ZQ hS14).pick [2,3,4,0,5,6] Qa))))⟩
theorem Pm {w:World} {e:Nat} {E:EnD} {F:Th} (hS:Sat w [Xw e E,F]) (m:MsD) (hW:EW E) (hm:MsW m) {s:SeD} (hq_s:E.ses=some s):
    Calls prog 70 #[ptrV e 0,.agg #[intV m.kind,intV m.move,intV m.a,intV m.b,strV m.data]] w (Ret fun v w'=>Sat w' [rowT Zn v [],Xw e (XY E m),F]):= by
 obtain⟨dp,cv,sv,ov,hS⟩:=QU hS
 rw[hq_s]at hS
 obtain⟨sb,sm,rfl,hS⟩:=Zo (hS.reorder [3,0,1,2,4,5] rfl)
 refine Qy func70 Qa ntmps70 Qa ?_
 refine Qf (Qb (Za hS Qa Qa Qa ?_))
 intro mp w1 hS1
 replace hS1:Sat w1 (Xb mp [intV m.kind,intV m.move,intV m.a,intV m.b,strV m.data]::_):=hS1
 refine Qc Qa Qa (Qh (Qd (Qf (Qf (Qb (Qe Qa Qa (Ql Qa Qa (Qi Qa Zh Qa (Qr Qa QH (hS1.cell 3 Qa Qa) Qa (Xu Qa Qa Qa (Qh (Qd (Qv Qa (fun h2=> ?_) (fun h2=> ?_))))))))))))))
 ·refine Qf (Qf ?_)
  have hS3:=Qu (E:=E) (by rw[hq_s]; exact((Xh (hS1.pick [1,2,0,3,4,5,6,7] Qa)).pick [2,3,4,0,5,1,6] Qa))
  refine Qb (Qe Qa Qa (Qi Qa Zz Qa (Qr Qa QH (hS3.cell 1 Qa Qa) Qa (YZ TB Qa (Ta (hS3.sp [0] Qa) m.move) Qa ?_))))
  rintro e w4 ⟨_,rfl,(⟨hj,rfl,hS4⟩ | ⟨o,ob,om,on,dp1,cv1,sv1,hj,rfl,hS4⟩)⟩
  ·refine⟨_,Qa, ?_⟩
   replace hS4:=hS4.jn Qa Qa
   refine Qc Qa Qa (Qh (Qd (Qk [0,3,4,5] Qa (Qf ?_))))
   have hS5:=hS4.drew
   refine QN [0,1,2,3,4,5,6,7,8,9,10,11,12,13,14,15,16,17,18,19,20,21,22,23,24,25] [22] W5 (by kernel_rfl) ?_
   refine QI Qa Qa Qa (Q9 Qa Qa Qa (fun _=>(JP underlying79 Qa Qa)) ?_)
   refine QI Qa Qa Qa (Q2 Qa Qa (Qs Qa Qa Qa) (Q2 Qa Qa (Qs Qa Qa Qa) (Q2 Qa Qa (Qs Qa Qa Qa) (Q2 Qa Qa (Qs Qa Qa Qa) (Q2 Qa Qa (Qs Qa Qa Qa) (Q2 Qa Qa (Qs Qa Qa Qa) (Q2 Qa Qa (Qs Qa Qa Qa) (Q2 Qa Qa (Qs Qa Qa Qa) (Q2 Qa Qa (Qs Qa Qa Qa) (Q2 Qa Qa (Qs Qa Qa Qa) (Q2 Qa Qa (Qs Qa Qa Qa) (Q9 Qa Qa Qa (fun _=>(Xi Qa Qa Qa)) ?_))))))))))))
   refine QI Qa Qa Qa (Q9 Qa Qa (Qp Qa Qa Qa) (fun _=>(Ev.gd (Xk Qa))) ?_)
   refine Q9 Qa Qa (Qp Qa Qa Qa) (fun _=>(Ev.gd (JP underlying79 Qa Qa))) ?_
   refine Q9 Qa Qa (Qp Qa Qa Qa) (fun _=>(Ev.gd (Xk Qa))) ?_
   refine Q2 Qa Qa (Qs Qa Qa Qa) (Q2 Qa Qa (Qs Qa Qa Qa) (Q2 Qa Qa (Qs Qa Qa Qa) (VC.spineNot Qa Qa (Qs Qa Qa Qa) (Q2 Qa Qa (Qs Qa Qa Qa) (Q9 Qa Qa (Qp Qa Qa Qa) (fun _=>(Ev.gd (Xi Qa Qa Qa))) ?_)))))
   refine Q9 Qa Qa Qa (fun _=>(Xi Qa Qa Qa)) ?_
   refine VC.nil (Qd (Qk [0,3,4,5,41] Qa (QJ Qa (Qt (Qd (Qf (Qb (Qc Qa Qa (Qh (Qd (Qo (Qm (Q5 (.inr Qa) Qa Qa ?_)))))))))))))
   exact⟨_,rfl, by rw[CH (by omega) hj]; exact(Sat.row_nil Zn (hS5.pick [0,2] Qa))⟩
  refine⟨_,Qa, ?_⟩
  replace hS4:=hS4.jn Qa Qa
  have hOW:=(Rg hW hm.mv hj).1
  dsimp only[Cs]at hS4
  refine Qc Qa Qa (Qh (Qd (Qk [0,3,4,5] Qa (Qf ?_))))
  have hS6:=hS4.drew
  refine QN [0,1,2,3,4,5,6,7,8,9,10,11,12,13,14,15,16,17,18,19,20,21,22,23,24,25] [22] W5 (by kernel_rfl) ?_
  refine QI Qa Qa Qa (Q9 Qa Qa Qa (fun _=>(HI underlying79 Qa Qa)) ?_)
  refine QI Qa Qa Qa (Q9 Qa Qa (Qp Qa Qa Qa) (fun _=>(Ev.gd (Xk Qa))) ?_)
  refine Q9 Qa Qa (Qp Qa Qa Qa) (fun _=>(Ev.gd (Xy Qa))) ?_
  refine Q9 Qa Qa (Qp Qa Qa Qa) (fun _=>(Ev.gd (QS Qa Hu))) ?_
  refine QF Qa Qa (Qp Qa Qa Qa) (Ev.gd (Qn Qa ZL (hS6.cell 0 Qa Qa))) (Q9 Qa Qa (Qp Qa Qa Qa) (fun _=>(Ev.gd (QS Qa Wg))) ?_)
  refine QF Qa Qa (Qp Qa Qa Qa) (Ev.gd (Qn Qa QH (hS6.cell 7 Qa Qa))) (QF Qa Qa (Qp Qa Qa Qa) (Ev.gd (JQ (k:=m.a) 2 hS6 keysInt underlying89 Qa Qa Qa ZY (Yp o.pages m.a))) (Q9 Qa Qa (Qp Qa Qa Qa) (fun _=>(Ev.gd (R2 Tj Qa Qa))) ?_))
  refine Q9 Qa Qa (Qp Qa Qa Qa) (fun _=>(Ev.gd (QS Qa Jk))) ?_
  refine QF Qa Qa (Qp Qa Qa Qa) (Ev.gd (Qn Qa QH (hS6.cell 7 Qa Qa))) (Q9 Qa Qa (Qp Qa Qa Qa) (fun _=>(Ev.gd (KI Qa Qa))) ?_)
  refine Q9 Qa Qa Qa (fun _=>(Xz Qa Qa Qa)) ?_
  refine QI Qa Qa Qa (XB 31 Qa (fun h7=> ?_) (fun h7=> ?_))
  ·refine Q2 Qa Qa (Qs Qa Qa (QD h7)) (Q2 Qa Qa (Qs Qa Qa (QD h7)) (Q2 Qa Qa (Qs Qa Qa (QD h7)) (Q2 Qa Qa (W6 Qa Qa) (Q2 Qa Qa (W6 Qa Qa) (Q2 Qa Qa (W6 Qa Qa) (VC.spineNot Qa Qa (W6 Qa Qa) (Q2 Qa Qa (W6 Qa Qa) (Q2 Qa Qa (Qs Qa Qa (QD h7)) (Q9 Qa Qa Qa (fun _=>(Xz Qa (QD h7) Qa)) ?_)))))))))
   refine VC.nil (Qd (Qk [0,3,4,5,41] Qa (QP Qa ?_)))
   have hS8:=hS6.drew
   refine QN [0,1,2,3,4,5,6,7,8,9,10,11] [11] W5 (by kernel_rfl) ?_
   refine QI Qa Qa Qa (Xn Qa Qa Qa (QO Qa Qa Qa Hu (QF Qa Qa Qa (Qn Qa ZL (hS8.cell 0 Qa Qa)) (QO Qa Qa Qa Wg (QF Qa Qa Qa (Qn Qa QH (hS8.cell 7 Qa Qa)) (QO Qa Qa Qa Ht (QF Qa Qa Qa (Qn Qa Zx (hS8.cell 7 Qa Qa)) (QO Qa Qa Qa Jk (QF Qa Qa Qa (Qn Qa QH (hS8.cell 7 Qa Qa)) (Q9 Qa Qa Qa (fun _=>(W7 Qa Y1 HY ZY Qa)) ?_))))))))))
   refine QV Qa Qa Qa Qa Qa Qa ?_
   refine XP (k:=m.a) (v:=Kp ⟨m.data,m.b,0,false⟩) 2 hS8 keysInt underlying89 Qa Qa Qa Qa ?_
   intro w9 hS9; dsimp only[List.set]at hS9; rw[H9 hOW.gs]at hS9
   refine Z9 (Xq (by kernel_rfl)) ?_
   refine VC.nil (Qd (Qk [0,3,4] Qa (Qf (Qb (Qc Qa Qa (Qh (Qd (Qo (Qm (Q5 (.inr Qa) Qa Qa ?_))))))))))
   exact⟨_,rfl, by rw[Rl (by omega) hj (Ba (by omega))]; exact(Sat.row_nil Zn (Qu (E:={E with off:=some {o with pages:=Zk m.a ⟨m.data,m.b,0,false⟩ o.pages}}) ((XE (o:={o with pages:=Zk m.a ⟨m.data,m.b,0,false⟩ o.pages}) (hS9.pick [0,1,2,3,4,5,6,8] Qa)).reorder [1,2,3,4,0,5] Qa)))⟩
  refine Q9 Qa Qa (Qp Qa Qa (Qx h7)) (fun _=>(Ev.gd (Xk Qa))) ?_
  refine Q9 Qa Qa (Qp Qa Qa (Qx h7)) (fun _=>(Ev.gd (HI underlying79 Qa Qa))) ?_
  refine Q9 Qa Qa (Qp Qa Qa (Qx h7)) (fun _=>(Ev.gd (Xk Qa))) ?_
  refine Q9 Qa Qa (Qp Qa Qa Qa) (fun _=>(Ev.gd (Xk Qa))) ?_
  refine Q9 Qa Qa (Qp Qa Qa Qa) (fun _=>(Ev.gd (QS Qa Wg))) ?_
  refine QF Qa Qa (Qp Qa Qa Qa) (Ev.gd (Qn Qa QH (hS6.cell 7 Qa Qa))) (QV Qa Qa (Qp Qa Qa Qa) Qa Qa Qa ?_)
  refine Q0 SD Qa (EB (hS6.sp [0,2] Qa) m.a) Qa ?_
  rintro _ w10 ⟨rfl,hS10⟩
  replace hS10:=hS10.jn Qa Qa
  refine Xd (Xq (by kernel_rfl)) ?_
  refine Q9 Qa Qa (Qp Qa Qa Qa) (fun _=>(Ev.gd (Gm Qa))) ?_
  refine Q9 Qa Qa (Qp Qa Qa (Qx h7)) (fun _=>(Ev.gd (Xz Qa Qa Qa))) ?_
  refine Q9 Qa Qa Qa (fun _=>(Xi Qa (Qx h7) Qa)) ?_
  refine VC.nil (Qd (Qk [0,3,4,5,41] Qa (QZ Qa (fun h11=> ?_) (fun h11=> ?_))))
  ·have hhas:=h11
   have hS12:=hS10.drew
   refine QN [0,1,2,3,4,5,6,7,8,9,10,11] [11] W5 (by kernel_rfl) ?_
   refine QI Qa Qa Qa (Xn Qa Qa Qa (QO Qa Qa Qa Hu (QF Qa Qa Qa (Qn Qa ZL (hS12.cell 0 Qa Qa)) (QO Qa Qa Qa Wg (QF Qa Qa Qa (Qn Qa QH (hS12.cell 7 Qa Qa)) (QO Qa Qa Qa Ht (QF Qa Qa Qa (Qn Qa Zx (hS12.cell 7 Qa Qa)) (QO Qa Qa Qa Jk (QF Qa Qa Qa (Qn Qa QH (hS12.cell 7 Qa Qa)) (Q9 Qa Qa Qa (fun _=>(W7 Qa Y1 HY ZY Qa)) ?_))))))))))
   refine QV Qa Qa Qa Qa Qa Qa ?_
   refine XP (k:=m.a) (v:=Kp ⟨m.data,m.b,0,false⟩) 1 hS12 keysInt underlying89 Qa Qa Qa Qa ?_
   intro w13 hS13; dsimp only[List.set]at hS13; rw[H9 hOW.gs]at hS13
   refine Z9 (Xq (by kernel_rfl)) ?_
   refine VC.nil (Qd (Qk [0,3,4] Qa (Qf (Qb (Qc Qa Qa (Qh (Qd (Qo (Qm (Q5 (.inr Qa) Qa Qa ?_))))))))))
   exact⟨_,rfl, by rw[Rl (by omega) hj (GZ (by simpa using hhas))]; exact(Sat.row_nil Zn (Qu (E:={E with off:=some {o with pages:=Zk m.a ⟨m.data,m.b,0,false⟩ o.pages}}) ((XE (o:={o with pages:=Zk m.a ⟨m.data,m.b,0,false⟩ o.pages}) (hS13.pick [0,2,1,3,4,5,6,8] Qa)).reorder [1,2,3,4,0,5] Qa)))⟩
  have hhas:=h11
  refine Qt (Qd (Qf (Qb (Qc Qa Qa (Qh (Qd (Qo (Qm (Q5 (.inr Qa) Qa Qa ?_)))))))))
  exact⟨_,rfl, by rw[CG (by omega) hj (L8 (by omega) (by simpa using hhas))]; exact(Sat.row_nil Zn (Qu (E:={E with off:=some o}) ((XE (o:=o) (hS10.pick [0,2,1,3,4,5,6,8] Qa)).reorder [1,2,3,4,0,5] Qa)))⟩
 refine Qt (Qd (Qf (Qf ?_)))
 have hS14:=hS1.drew
 refine QN [0,1,2,3,4,5,6,7,8,9,10,11,12,13,14,15,16,17,18,19] [] W5 (by kernel_rfl) ?_
 refine QO Qa Qa Qa Zz (QF Qa Qa Qa (Qn Qa QH (hS14.cell 0 Qa Qa)) (QI Qa Qa Qa (Xn Qa Qa Qa (QO Qa Qa Qa Wp (QF Qa Qa Qa (Qn Qa QH (hS14.cell 3 Qa Qa)) (Q9 Qa Qa Qa (fun _=>(JZ Qa Qa)) ?_))))))
 refine QI Qa Qa Qa (XB 60 Qa (fun h15=> ?_) (fun h15=> ?_))
 ·refine Q2 Qa Qa (Qs Qa Qa (QD h15)) (Q2 Qa Qa (Qs Qa Qa (QD h15)) (Q2 Qa Qa (Qs Qa Qa (QD h15)) (Q2 Qa Qa (Qs Qa Qa (QD h15)) (Q2 Qa Qa (Qs Qa Qa (QD h15)) (Q9 Qa Qa Qa (fun _=>(Xz Qa (QD h15) Qa)) ?_)))))
  refine QI Qa Qa Qa (Q2 Qa Qa (Qs Qa Qa Qa) (Q2 Qa Qa (Qs Qa Qa Qa) (Q2 Qa Qa (Qs Qa Qa Qa) (Q2 Qa Qa (Qs Qa Qa Qa) (Q9 Qa Qa Qa (fun _=>(Xz Qa Qa Qa)) ?_)))))
  refine VC.nil (Qd (Qk [0,3,4,72] Qa (QP Qa (Qf (Qb (Qc Qa Qa (Qh (Qd (Qo (Qm (Q5 (.inr Qa) Qa Qa ?_)))))))))))
  exact⟨_,rfl, by rw[CE (by omega) hq_s (by omega)]; exact(Sat.row_nil Zn (Qu (E:=E) (by rw[hq_s]; exact((Xh (hS14.pick [1,2,0,3,4,5,6,7] Qa)).pick [2,3,4,0,5,6] Qa))))⟩
 refine Q9 Qa Qa (Qp Qa Qa (Qx h15)) (fun _=>(Ev.gd (Xk Qa))) ?_
 refine Q9 Qa Qa (Qp Qa Qa (Qx h15)) (fun _=>(Ev.gd (Xy Qa))) ?_
 refine Q9 Qa Qa (Qp Qa Qa (Qx h15)) (fun _=>(Ev.gd (QS Qa Xt))) ?_
 refine QF Qa Qa (Qp Qa Qa (Qx h15)) (Ev.gd (Qn Qa ZA (hS14.cell 3 Qa Qa))) (Q9 Qa Qa (Qp Qa Qa (Qx h15)) (fun _=>(Ev.gd (Gn underlying78 Qa Qa))) ?_)
 refine Q9 Qa Qa Qa (fun _=>(Xi Qa (Qx h15) Qa)) ?_
 refine QI Qa Qa Qa (Q9 Qa Qa (Qp Qa Qa Qa) (fun _=>(Ev.gd (QS Qa Ht))) ?_)
 refine QF Qa Qa (Qp Qa Qa Qa) (Ev.gd (Qn Qa Zx (hS14.cell 0 Qa Qa))) (Q9 Qa Qa (Qp Qa Qa Qa) (fun _=>(Ev.gd (R1 underlying9 Qa))) ?_)
 refine Q9 Qa Qa (Qp Qa Qa Qa) (fun _=>(Ev.gd (JZ Qa Qa))) ?_
 refine Q9 Qa Qa Qa (fun _=>(Xi Qa Qa Qa)) ?_
 refine VC.nil (Qd (Qk [0,3,4,72] Qa (Qv Qa (fun h16=> ?_) (fun h16=> ?_))))
 ·refine Qf (Qb (Qc Qa Qa (Qh (Qd (Qo (Qm (Q5 (.inr Qa) Qa Qa ?_)))))))
  exact⟨_,rfl, by rw[CE (by omega) hq_s (by omega)]; exact(Sat.row_nil Zn (Qu (E:=E) (by rw[hq_s]; exact((Xh (hS14.pick [1,2,0,3,4,5,6,7] Qa)).pick [2,3,4,0,5,6] Qa))))⟩
 refine Qt (Qd (Qf (Qf ?_)))
 have hS17:=hS14.drew
 refine QN [0,1,2,3,4,5,6,7,8,9,10,11] [10,11] W5 (by kernel_rfl) ?_
 refine QI Qa Qa Qa (Xn Qa Qa Qa (QO Qa Qa Qa Xt (QF Qa Qa Qa (Qn Qa ZA (hS17.cell 3 Qa Qa)) (Xn Qa Qa Qa (QO Qa Qa Qa Z7 (QF Qa Qa Qa (Qn Qa ZL (hS17.cell 1 Qa Qa)) (QO Qa Qa Qa Wg (QF Qa Qa Qa (Qn Qa QH (hS17.cell 0 Qa Qa)) (QF Qa Qa Qa (JQ (k:=m.a) 2 hS17 keysInt underlying89 Qa Qa Qa ZY (Yp s.pages m.a)) (QV Qa Qa Qa Qa Qa Qa ?_))))))))))
 refine Xs hS17 ZY Qa Qa ?_
 intro b18 w18 hS18
 refine Xd (.cons (.inl ⟨Qa,(JQ (k:=m.a) 3 hS18 keysInt underlying89 Qa Qa Qa ZY (Yp s.pages m.a))⟩) (.cons (.inl ⟨Qa,(Qn Qa QH (hS18.cell 1 Qa Qa))⟩) (.cons (.inl ⟨Qa,(Qn Qa ZL (hS18.cell 2 Qa Qa))⟩) (.cons (.inl ⟨Qa,(Qn Qa ZA (hS18.cell 4 Qa Qa))⟩) .nil)))) (QV Qa Qa Qa Qa Qa Qa ?_)
 (refine Q8 hS18 Qa Qa ZP Qa (by rfl) (i:=0) Qa (by decide) ?_)
 intro w19 hS20; dsimp only[List.set]at hS20
 refine Z9 (Xq (by kernel_rfl)) ?_
 refine VC.nil (Qd (Qk [0,3,4,6] Qa (Qf (Qb (Qi Qa Tk Qa (Qr Qa J2 (hS20.cell 0 Qa Qa) Qa (Qe Qa Qa (ZO 85 Qa (fun h21=> ?_) (fun h21=> ?_)))))))))
 ·have hms:(Vl (Xg s.pages m.a)).miss=true:= by simpa using h21
  refine Qj Qa Qa h21 (Qi Qa Uo Qa (Qj Qa Qa h21 (Qr Qa QH (by first | exact hS20.cell 0 Qa Qa | exact hS20.cell 1 Qa Qa) Qa ?_)))
  refine Qj Qa Qa h21 (Qi Qa Jk Qa (Qj Qa Qa h21 (Qr Qa QH (by first | exact hS20.cell 0 Qa Qa | exact hS20.cell 1 Qa Qa) Qa ?_)))
  refine Qj Qa Qa h21 (QL Qa Qa Qa (Q1 Qa h21 Qa Qa (Qh (Qd (Qk [0,3,4,6,91] Qa (Qv Qa (fun h22=> ?_) (fun h22=> ?_)))))))
  ·refine Qf ?_
   have hS23:=hS20.drew
   refine QN [0,1,2,3,4,5] [3,5] W5 (by kernel_rfl) ?_
   refine QO Qa Qa Qa Ht (QF Qa Qa Qa (Qn Qa Zx (hS23.cell 1 Qa Qa)) (QO Qa Qa Qa Tk (QV Qa Qa Qa Qa Qa Qa ?_)))
   (refine Qw hS23 Qa Qa XU (by rfl) (i:=0) Qa (QC Qa) ?_)
   intro w24 hS25; dsimp only[List.set]at hS25
   refine Z9 (.cons (.inl ⟨Qa,(Qn Qa Zx (hS25.cell 1 Qa Qa))⟩) .nil) (QO Qa Qa Qa VY (QV Qa Qa Qa Qa Qa Qa ?_))
   (refine Qw hS25 Qa Qa Hz (by rfl) (i:=0) Qa (QC Qa) ?_)
   intro w26 hS27; dsimp only[List.set]at hS27
   refine Z9 (Xq (by kernel_rfl)) ?_
   refine VC.nil (Qd ?_)
   have hS28:=hS27.drew
   refine QN [0,1,2,3,4,5,6,7,8,9,10] [10] W5 (by kernel_rfl) ?_
   refine QI Qa Qa Qa (Xn Qa Qa Qa (QO Qa Qa Qa Xt (QF Qa Qa Qa (Qn Qa ZA (hS28.cell 4 Qa Qa)) (Xn Qa Qa Qa (QO Qa Qa Qa Z7 (QF Qa Qa Qa (Qn Qa ZL (hS28.cell 2 Qa Qa)) (QO Qa Qa Qa Wg (QF Qa Qa Qa (Qn Qa QH (hS28.cell 1 Qa Qa)) (QF Qa Qa Qa (Jw Qa AQ ZP (hS28.blk 0 Qa) (QC Qa) Qa) (QV Qa Qa Qa Qa Qa Qa ?_))))))))))
   refine XP (k:=m.a) (v:=Kp {(Vl (Xg s.pages m.a))with miss:=false,data:=m.data}) 3 hS28 keysInt underlying89 Qa Qa Qa Qa ?_
   intro w29 hS29; dsimp only[List.set]at hS29; rw[H9 (hW.ses s hq_s).srt]at hS29
   refine Z9 (Xq (by kernel_rfl)) ?_
   refine VC.nil (Qd (Qk [4] Qa (Qf (Qb (Qc Qa Qa (Qh (Qd (Qo (Q5 (.inr Qa) Qa Qa ?_)))))))))
   exact⟨_,rfl, by rw[E9 (by omega) hq_s (by omega) (LZ hms) ⟨hms, by omega⟩]; exact(Sat.row_nil Zn (Qu (E:={E with ses:=some {s with pages:=Zk m.a {(Vl (Xg s.pages m.a))with miss:=false,data:=m.data} s.pages}}) ((Xh (s:={s with pages:=Zk m.a {(Vl (Xg s.pages m.a))with miss:=false,data:=m.data} s.pages}) (hS29.pick [2,3,4,5,6,7,8] Qa)).reorder [1,2,3,0,4,5] Qa)))⟩
  refine Qt (Qd (Qf (Qb (Qc Qa Qa (Qh (Qd (Qo (Q5 (.inr Qa) Qa Qa ?_))))))))
  exact⟨_,rfl, by rw[CD (by omega) hq_s (by omega) (by rintro⟨q1,q2⟩;first | (rw[q1]at hms; cases hms;done) | omega)]; exact(Sat.row_nil Zn (Qu (E:=E) (by rw[hq_s]; exact((Xh (hS20.pick [2,3,0,1,4,5,6,7,8] rfl)).pick [3,4,5,0,6,7] rfl))))⟩
 have hms:(Vl (Xg s.pages m.a)).miss=false:= by simpa using h21
 refine Qg Qa Qa h21 Qa (Qg Qa Qa h21 Qa (Qg Qa Qa h21 Qa (Qg Qa Qa h21 Qa (Qg Qa Qa h21 Qa (Q3 Qa h21 Qa Qa (Qh (Qd (Qk [0,3,4,6,91] Qa (QJ Qa (Qt (Qd (Qf (Qb (Qc Qa Qa (Qh (Qd (Qo (Q5 (.inr Qa) Qa Qa ?_))))))))))))))))))
 exact⟨_,rfl, by rw[CD (by omega) hq_s (by omega) (by rintro⟨q1,q2⟩;first | (rw[q1]at hms; cases hms;done) | omega)]; exact(Sat.row_nil Zn (Qu (E:=E) (by rw[hq_s]; exact((Xh (hS20.pick [2,3,0,1,4,5,6,7,8] rfl)).pick [3,4,5,0,6,7] rfl))))⟩
theorem CJ {w:World} {e:Nat} {E:EnD} {F:Th} (hS:Sat w [Xw e E,F]) (m:MsD) (hW:EW E) (hm:MsW m):
    Calls prog 70 #[ptrV e 0,.agg #[intV m.kind,intV m.move,intV m.a,intV m.b,strV m.data]] w (Ret fun v w'=>Sat w' [rowT Zn v [],Xw e (XY E m),F]):= by
  cases hs:E.ses with
  | none=> exact Pn hS m hW hm hs
  | some s=> exact Pm hS m hW hm hs
end Go.Proofs.YtiibgheijbbmaaaGreatDoor
namespace Go.Proofs.YtiibgheijbbmaaaGreatDoor.M
open Go.RowKit Proofs.Tryz
theorem LG {α:Type} {l:List α} {i:Nat} {a:α} (h:l[i]? =some a):l.set i a=l:= by
  apply List.ext_getElem?
  intro j
  by_cases e:i=j
  · subst e; rw[List.getElem?_set_self (ZD h).1,h]
  · rw[List.getElem?_set_ne e]
def R8 (e:Nat) (v:Value) (bs:List UInt8):Th where
  at_:= fun w F=>(F= fun k=>v.ownBlock=some k)∧((v= .slice none 0 0∧bs=[])∨ ∃g cap cur fz,v= .slice (some ⟨g,0,none⟩) bs.length cap∧bs≠[]∧cap≠0∧w.heap[g]? =some (.cells cur e fz)∧bs.length≤cur.size∧cur.toList.take bs.length=byC.cells bs)
  fr:= fun {w w' F} a ⟨e1,h⟩=>⟨e1, by
    rcases h with h | ⟨g,cap,cur,fz,h1,h2,h3,h4,h5⟩
    · exact .inl h
    · exact .inr ⟨g,cap,cur,fz,h1,h2,h3, by rw[a.blk _ (by rw[e1,h1];rfl)]; exact h4,h5⟩⟩
  lt:= fun {w F} ⟨e1,h⟩ k hk=> by
    rw[e1]at hk
    rcases h with⟨rfl,_⟩ | ⟨g,cap,cur,fz,rfl,_,_,h4,_⟩
    · simp [Value.ownBlock]at hk
    · simp only[Value.ownBlock,Option.some.injEq]at hk
      subst hk
      rcases Nat.lt_or_ge g w.heap.size with q | q
      · exact q
      · rw[Array.getElem?_eq_none q]at h4; cases h4
section
variable {P:Program} {n:Nat} {ops:Array Oper} {Q:Exit→Act→World→Prop} {rest:List Oper} {L:Env} {w:World} {d:Nat} {ty:TypeId} {pos:String} {aft:Array Edge} {As:List Th} {T e b:Nat} {cs:List Value}
theorem Sat.bufZ_of {v:Value} {bs:List UInt8} (h:Sat w (Gu e v bs::As)):Sat w (R8 e v bs::As):= by
  obtain⟨F,F1,F2,rfl,dj,⟨e1,⟨hl,h1⟩,hn⟩,h2⟩:=h
  refine⟨_,F1,F2,Qa,dj,⟨e1, ?_⟩,h2⟩
  by_cases h0:bs=[]
  · exact .inl ⟨hn h0,h0⟩
  · rcases h1 with⟨_,h3⟩ | ⟨g,cap,cur,rfl,_,h3,h4,_,h6,h7⟩
    · exact absurd (List.eq_nil_of_length_eq_zero h3) h0
    · have hp:0<bs.length:=List.length_pos_iff.2 h0
      exact .inr ⟨g,cap,cur,(0,0),rfl,h0, by omega,h3, by omega, by rw[Nat.mul_one]at h7; exact h7⟩
theorem Sat.bufZv (h:Sat w As) (i:Nat) {v:Value} {bs:List UInt8} (hi:As[i]? =some (R8 e v bs)): ∃ao cap,v= .slice ao bs.length cap∧v.oneCell'=true∧(ao=none∨cap≠0):= by
  obtain⟨F,_,h⟩:=h.get i hi
  rcases h with⟨rfl,rfl⟩ | ⟨g,cap,cur,fz,rfl,_,h3,_⟩
  · exact⟨none,0,Qa,Qa,.inl Qa⟩
  · exact⟨_,cap,Qa,Qa,.inr h3⟩
theorem RI {ao:Option Addr} {cap pt it:Nat} {bs:List UInt8} {x y:Operand} (i:Nat) (hS:Sat w As) (hi:As[i]? =some (R8 e (.slice ao bs.length cap) bs)) (hx:look L x=some (.pointer ao)) (hy:look L y=some (.int .i64 (bs.length:Int))) (hp:P.underlying pt=some (.pointer e)) (hc:P.cellsOf e=1) (hlen:bs.length≤9223372036854775807) (hd:Nat.blt d n=true)
    (hk: ∀w',Sat w' As→wl P n ops Q rest ((d,strV bs)::L) w'):wl P n ops Q (⟨some d,.call ⟨.builtin .unsafeString, #[x,y], #[pt,it]⟩,ty,pos,aft,none⟩::rest) L w:= by
  have hg: ∃w',(Builtin.unsafeString_ #[pt,it] ty #[.pointer ao,.int .i64 bs.length]).run P w= .ok (strV bs) w'∧Sat w' As:= by
    obtain⟨F,e1,h⟩:=hS.get i hi
    rcases h with⟨hv,rfl⟩ | ⟨g,cap',cur,fz,hv,h0,_,hgb,h5,h6⟩
    · simp only[Value.slice.injEq,List.length_nil,true_and]at hv
      obtain⟨rfl,_⟩:=hv
      exact⟨w,Lib.run_unsafeString_none w pt it ty none,hS⟩
    · simp only[Value.slice.injEq,true_and]at hv
      obtain⟨rfl,rfl⟩:=hv
      refine⟨w.freeze ⟨g,0,none⟩ bs.length,Lib.run_unsafeString_row w pt it ty e hp hc g cur.size (by simp [World.shape?,hgb]) bs h0 (by omega) hlen ?_, ?_⟩
      · intro j c hj
        rw[Wh]
        simp only[Nat.zero_add]
        rw[Lib.cell_of_heap hgb]
        have hj':=(ZD hj).1
        have :(byC.cells bs)[j]? =some (.int .u8 (c.toNat:Int)):= by
          have :=RowC.cells_at (C:=byC) (l:=bs) (j:=j) hj
          have h3:=congrArg (fun q=>q[0]?) this
          simpa [byC,List.getElem?_take,List.getElem?_drop]using h3
        rw[←h6,List.getElem?_take,if_pos hj']at this
        simpa using this
      · have hlt:g<w.heap.size:= by
          rcases Nat.lt_or_ge g w.heap.size with q | q
          · exact q
          · rw[Array.getElem?_eq_none q]at hgb; cases hgb
        have hne:bs.length≠0:= fun q=>h0 (List.eq_nil_of_length_eq_zero q)
        have hfz: ∃fz',(w.freeze ⟨g,0,none⟩ bs.length).heap[g]? =some (.cells cur e fz'):= by
          unfold World.freeze
          rw[if_neg hne]
          obtain⟨lo,hi'⟩:=fz
          refine⟨if lo==hi' then(0,0+bs.length)else(min lo 0,max hi' (0+bs.length)), ?_⟩
          simp only[Array.getElem?_modify,if_true,hgb,Option.map_some]
        obtain⟨fz',hfz⟩:=hfz
        have hst:=hS.step i hi (w':=w.freeze ⟨g,0,none⟩ bs.length) (A':=R8 e (.slice (some ⟨g,0,none⟩) bs.length cap) bs) fun F0 hF0=> ?_
        · rwa [LG hi]at hst
        · have e0:=hF0.1
          have hb:=Lib.below_freeze (B:=0) (Below.refl 0 w) (p:=⟨g,0,none⟩) (Nat.zero_le _) bs.length
          refine⟨F0,⟨e0,.inr ⟨g,cap,cur,fz',rfl,h0, by assumption,hfz,h5,h6⟩⟩, fun k hk=> .inl hk,hb.os,hb.tape,hb.output, fun k hk=> ?_⟩
          have hnk:k≠g:= by
            rintro rfl
            exact hk.2 (by rw[e0];rfl)
          unfold World.freeze
          rw[if_neg hne]
          simp only[Array.getElem?_modify]
          rw[if_neg (fun q=>hnk q.symm)]
  obtain⟨w',h1,h2⟩:=hg
  refine XQ rfl hd (R:= fun v u=>v=strV bs∧u=w') (fun a ha=>⟨_,_,.inl ?_,rfl,rfl⟩) (by rintro _ _ ⟨rfl,rfl⟩; exact hk _ h2)
  simp [execOp,ha.eval hx,ha.eval hy,resolve,invoke,builtin,h1]
end
end Go.Proofs.YtiibgheijbbmaaaGreatDoor.M
namespace Go.Proofs.YtiibgheijbbmaaaGreatDoor
open Go.RowKit M Proofs.Tryz
def bldZ (b:Nat) (bs:Bs):Th:=Nk fun q:Value×Value=>starL [JS 149 b [q.1,q.2],R8 5 q.2 bs]
theorem bldZ_of {w:World} {b:Nat} {bs:Bs} {As:List Th} (h:Sat w (N5 b bs::As)):Sat w (bldZ b bs::As):= by
  obtain⟨p,v,_,h1⟩:=Gw h
  have h2:=(h1.pull 1 Qa).bufZ_of; dsimp only[List.eraseIdx]at h2
  exact Sat.ex_intro (f:= fun q:Value×Value=>starL [JS 149 b [q.1,q.2],R8 5 q.2 bs]) (p,v) (Sat.fold (As:=[JS 149 b [p,v],R8 5 v bs]) (h2.perm (List.Perm.swap _ _ _)))
theorem Di {w:World} {b:Nat} {bs:Bs} {F:Th} (hS:Sat w [bldZ b bs,F]) (hl:bs.length≤70368744177663):
    Calls prog 107 #[ptrV b 0] w (Ret fun v w'=>v=strV bs∧Sat w' [bldZ b bs,F]):= by
 obtain⟨⟨p,v⟩,hS⟩:=hS.ex
 replace hS:=hS.flat; dsimp only[zqc,zqd]at hS
 obtain⟨ao,cap,rfl,h1v,hao⟩:=hS.bufZv 1 rfl
 refine Qy func107 Qa ntmps107 Qa ?_
 refine Qf (Qb (Qc Qa Qa (Qh (Qd (Qf ?_)))))
 have hS1:=hS.drew
 refine QN [0,1,2,3,5,6,7,8,9,4,10,11] [4,10] W5 (by kernel_rfl) ?_
 refine QI Qa Qa Qa (Xn Qa Qa Qa (QO Qa Qa Qa UI (QF Qa Qa Qa (Qn Qa Dl (hS1.tcell 0 Qa (o:=1) Qa)) (QI Qa Qa Qa (Xn Qa Qa Qa (QO Qa Qa Qa UI (QF Qa Qa Qa (Qn Qa Dl (hS1.tcell 0 Qa (o:=1) Qa)) (Q9 Qa Qa Qa (fun _=>(Bq underlying98 Qa)) ?_))))))))
 refine QV Qa Qa Qa Qa Qa Qa ?_
 refine KL Qa hao Qa (Xd (.cons (.inl ⟨rfl,(Qn Qa Dl (hS1.tcell 0 Qa (o:=1) Qa))⟩) (Xq (by kernel_rfl))) ?_)
 refine QV Qa Qa Qa Qa Qa Qa ?_
 refine RI 1 hS1 Qa Qa Qa underlying168 SF (by omega) Qa ?_
 intro w2 hS2
 refine Xd (Xq (by kernel_rfl)) ?_
 exact WV Qa Qa Qa (VC.nil (Qd (Qk [2] Qa (Qo (Q5 (.inr Qa) Qa Qa (⟨_,rfl,rfl,Sat.ex_intro (f:= fun q:Value×Value=>starL [JS 149 b [q.1,q.2],R8 5 q.2 bs]) (p,.slice ao bs.length cap) (Sat.fold (As:=[JS 149 b [p,_],R8 5 _ bs]) hS2)⟩))))))
