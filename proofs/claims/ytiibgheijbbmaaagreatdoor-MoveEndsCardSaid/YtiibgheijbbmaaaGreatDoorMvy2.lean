/- move: hearPage -/
import Derived.Test.YtiibgheijbbmaaaGreatDoorMvy1
import Derived.Test.YtiibgheijbbmaaaGreatDoorMv1
set_option linter.unusedVariables false
set_option maxRecDepth 100000
set_option maxHeartbeats 100000000000
namespace Go.Proofs.YtiibgheijbbmaaaGreatDoor
open Go.RowKit M Proofs.Tryz
def Tc (o:OfD) (m:MsD):Bool:= match QN o.pages m.a with | none=>true | some p=>decide (p.ver<m.b)
section
variable {E:EnD} {m:MsD} {o:OfD} {s:SeD} {p:PgD}
theorem Le (h:(VZ (QN o.pages m.a)).ver<m.b):Tc o m=true:= by
  unfold Tc;unfold VZ at h
  cases q:QN o.pages m.a with
  | none=>rfl
  | some p=> rw[q]at h;simpa using h
theorem Ld (h:(QN o.pages m.a).isSome=false):Tc o m=true:= by
  unfold Tc
  cases q:QN o.pages m.a with
  | none=>rfl
  | some p=> rw[q]at h; cases h
theorem Og (h: ¬(VZ (QN o.pages m.a)).ver<m.b) (h2:(QN o.pages m.a).isSome=true):Tc o m=false:= by
  unfold Tc;unfold VZ at h
  cases q:QN o.pages m.a with
  | none=> rw[q]at h2; cases h2
  | some p=> rw[q]at h;simpa using h
theorem OL {l:AL PgD} {i:Int} (h:(VZ (QN l i)).miss=true):QN l i=some (VZ (QN l i)):= by
  cases q:QN l i with
  | none=> rw[q]at h; cases h
  | some p=>rfl
theorem P6 (hk:E.kind≠1) (hj:Zr E m.move=none):Xp E m=E:= by unfold Xp; rw[if_pos hk,hj]
theorem Gt (hk:E.kind≠1) (hj:Zr E m.move=some o) (q:Tc o m=true):Xp E m={E with off:=some {o with pages:=X6 m.a ⟨m.data,m.b,0,false⟩ o.pages}}:= by unfold Xp; rw[if_pos hk,hj]; dsimp only;unfold Tc at q; cases z:QN o.pages m.a with | none=>rfl | some p=>(rw[z]at q; dsimp only at q⊢; rw[if_pos q])
theorem P5 (hk:E.kind≠1) (hj:Zr E m.move=some o) (q:Tc o m=false):Xp E m={E with off:=some o}:= by unfold Xp; rw[if_pos hk,hj]; dsimp only;unfold Tc at q; cases z:QN o.pages m.a with | none=>(rw[z]at q; cases q) | some p=>(rw[z]at q; dsimp only at q⊢; rw[if_neg (by rw[q];decide)])
theorem P4 (hk: ¬E.kind≠1) (hs:E.ses=none):Xp E m=E:= by unfold Xp; rw[if_neg hk,hs]
theorem P3 (hk: ¬E.kind≠1) (hs:E.ses=some s) (h:m.move≠E.move∨m.data.length≠64):Xp E m=E:= by unfold Xp; rw[if_neg hk,hs]; dsimp only; rw[if_pos h]
theorem P2 (hk: ¬E.kind≠1) (hs:E.ses=some s) (h: ¬(m.move≠E.move∨m.data.length≠64)) (h2: ¬((VZ (QN s.pages m.a)).miss=true∧(VZ (QN s.pages m.a)).ver=m.b)):Xp E m=E:= by
  unfold Xp; rw[if_neg hk,hs]; dsimp only; rw[if_neg h]
  cases q:QN s.pages m.a with
  | none=>rfl
  | some p=> rw[q]at h2; dsimp only; rw[if_neg (show ¬(p.miss=true∧p.ver=m.b) from h2)]
theorem Is (hk: ¬E.kind≠1) (hs:E.ses=some s) (h: ¬(m.move≠E.move∨m.data.length≠64)) (hp:QN s.pages m.a=some p) (h2:p.miss=true∧p.ver=m.b):Xp E m={E with ses:=some {s with pages:=X6 m.a {p with miss:=false,data:=m.data} s.pages}}:= by unfold Xp; rw[if_neg hk,hs]; dsimp only; rw[if_neg h,hp]; dsimp only; rw[if_pos h2]
end
theorem Fx {w:World} {e:Nat} {E:EnD} {F:Th} (hS:Sat w [Xs e E,F]) (m:MsD) (hW:EW E) (hm:MsW m) (hq_s:E.ses=none):
    Calls prog 70 #[ptrV e 0,.agg #[intV m.kind,intV m.move,intV m.a,intV m.b,strV m.data]] w (Ret fun v w'=>Sat w' [rowT Z4 v [],Xs e (Xp E m),F]):= by
 obtain⟨dp,cv,sv,ov,hS⟩:=QW hS
 rw[hq_s]at hS
 obtain⟨rfl,hS⟩:=WM (hS.reorder [3,0,1,2,4,5] rfl)
 refine Qy func70 Qa ntmps70 Qa ?_
 refine Qg (Qb (XZ hS Qa Qa Qa ?_))
 intro mp w1 hS1
 replace hS1:Sat w1 (QR mp [intV m.kind,intV m.move,intV m.a,intV m.b,strV m.data]::_):=hS1
 refine Qc Qa Qa (Qh (Qe (Qg (Qg (Qb (Qd Qa Qa (Ql Qa Qa (Qi Qa Z0 Qa (Qp Qa QK (hS1.cell 1 Qa Qa) Qa (Xt Qa Qa Qa (Qh (Qe (Qw Qa (fun h2=> ?_) (fun h2=> ?_))))))))))))))
 ·refine Qg (Qg ?_)
  have hS3:=Qu (E:=E) (by rw[hq_s]; exact((ZQ hS1).pick [2,3,4,0,5,1,6] Qa))
  refine Qb (Qd Qa Qa (Qi Qa ZE Qa (Qp Qa QK (hS3.cell 1 Qa Qa) Qa (Ub N0 Qa (CK (hS3.sp [0] Qa) m.move) Qa ?_))))
  rintro e w4 ⟨_,rfl,(⟨hj,rfl,hS4⟩ | ⟨o,ob,om,on,dp1,cv1,sv1,hj,rfl,hS4⟩)⟩
  ·refine⟨_,Qa, ?_⟩
   replace hS4:=hS4.jn Qa Qa
   refine Qc Qa Qa (Qh (Qe (Qk [0,3,4,5] Qa (Qg ?_))))
   have hS5:=hS4.drew
   refine QT [0,1,2,3,4,5,6,7,8,9,10,11,12,13,14,15,16,17,18,19,20,21,22,23,24,25] [22] Jk (by kernel_rfl) ?_
   refine QM Qa Qa Qa (QG Qa Qa Qa (fun _=>(Yp underlying79 Qa Qa)) ?_)
   refine QM Qa Qa Qa (Q2 Qa Qa (Qs Qa Qa Qa) (Q2 Qa Qa (Qs Qa Qa Qa) (Q2 Qa Qa (Qs Qa Qa Qa) (Q2 Qa Qa (Qs Qa Qa Qa) (Q2 Qa Qa (Qs Qa Qa Qa) (Q2 Qa Qa (Qs Qa Qa Qa) (Q2 Qa Qa (Qs Qa Qa Qa) (Q2 Qa Qa (Qs Qa Qa Qa) (Q2 Qa Qa (Qs Qa Qa Qa) (Q2 Qa Qa (Qs Qa Qa Qa) (Q2 Qa Qa (Qs Qa Qa Qa) (QG Qa Qa Qa (fun _=>(X0 Qa Qa Qa)) ?_))))))))))))
   refine QM Qa Qa Qa (QG Qa Qa (Qt Qa Qa Qa) (fun _=>(Ev.gd (XA Qa))) ?_)
   refine QG Qa Qa (Qt Qa Qa Qa) (fun _=>(Ev.gd (Yp underlying79 Qa Qa))) ?_
   refine QG Qa Qa (Qt Qa Qa Qa) (fun _=>(Ev.gd (XA Qa))) ?_
   refine Q2 Qa Qa (Qs Qa Qa Qa) (Q2 Qa Qa (Qs Qa Qa Qa) (Q2 Qa Qa (Qs Qa Qa Qa) (VC.spineNot Qa Qa (Qs Qa Qa Qa) (Q2 Qa Qa (Qs Qa Qa Qa) (QG Qa Qa (Qt Qa Qa Qa) (fun _=>(Ev.gd (X0 Qa Qa Qa))) ?_)))))
   refine QG Qa Qa Qa (fun _=>(X0 Qa Qa Qa)) ?_
   refine VC.nil (Qe (Qk [0,3,4,5,41] Qa (QF Qa (Qr (Qe (Qg (Qb (Qc Qa Qa (Qh (Qe (Qo (Qm (Q7 (.inr Qa) Qa Qa ?_)))))))))))))
   exact⟨_,rfl, by rw[P6 (by omega) hj]; exact(Sat.row_nil Z4 (hS5.pick [0,2] Qa))⟩
  refine⟨_,Qa, ?_⟩
  replace hS4:=hS4.jn Qa Qa
  have hOW:=(VF hW hm.mv hj).1
  dsimp only[Pp]at hS4
  refine Qc Qa Qa (Qh (Qe (Qk [0,3,4,5] Qa (Qg ?_))))
  have hS6:=hS4.drew
  refine QT [0,1,2,3,4,5,6,7,8,9,10,11,12,13,14,15,16,17,18,19,20,21,22,23,24,25] [22] Jk (by kernel_rfl) ?_
  refine QM Qa Qa Qa (QG Qa Qa Qa (fun _=>(Uk underlying79 Qa Qa)) ?_)
  refine QM Qa Qa Qa (QG Qa Qa (Qt Qa Qa Qa) (fun _=>(Ev.gd (XA Qa))) ?_)
  refine QG Qa Qa (Qt Qa Qa Qa) (fun _=>(Ev.gd (XH Qa))) ?_
  refine QG Qa Qa (Qt Qa Qa Qa) (fun _=>(Ev.gd (QV Qa HN))) ?_
  refine QH Qa Qa (Qt Qa Qa Qa) (Ev.gd (Qn Qa ZZ (hS6.cell 0 Qa Qa))) (QG Qa Qa (Qt Qa Qa Qa) (fun _=>(Ev.gd (QV Qa Ws))) ?_)
  refine QH Qa Qa (Qt Qa Qa Qa) (Ev.gd (Qn Qa QK (hS6.cell 7 Qa Qa))) (QH Qa Qa (Qt Qa Qa Qa) (Ev.gd (JK (k:=m.a) 2 hS6 keysInt underlying89 Qa Qa Qa Wg (YB o.pages m.a))) (QG Qa Qa (Qt Qa Qa Qa) (fun _=>(Ev.gd (K6 CV Qa Qa))) ?_))
  refine QG Qa Qa (Qt Qa Qa Qa) (fun _=>(Ev.gd (QV Qa Jw))) ?_
  refine QH Qa Qa (Qt Qa Qa Qa) (Ev.gd (Qn Qa QK (hS6.cell 7 Qa Qa))) (QG Qa Qa (Qt Qa Qa Qa) (fun _=>(Ev.gd (MF Qa Qa))) ?_)
  refine QG Qa Qa Qa (fun _=>(XL Qa Qa Qa)) ?_
  refine QM Qa Qa Qa (ZK 31 Qa (fun h7=> ?_) (fun h7=> ?_))
  ·refine Q2 Qa Qa (Qs Qa Qa (Q8 h7)) (Q2 Qa Qa (Qs Qa Qa (Q8 h7)) (Q2 Qa Qa (Qs Qa Qa (Q8 h7)) (Q2 Qa Qa (WK Qa Qa) (Q2 Qa Qa (WK Qa Qa) (Q2 Qa Qa (WK Qa Qa) (VC.spineNot Qa Qa (WK Qa Qa) (Q2 Qa Qa (WK Qa Qa) (Q2 Qa Qa (Qs Qa Qa (Q8 h7)) (QG Qa Qa Qa (fun _=>(XL Qa (Q8 h7) Qa)) ?_)))))))))
   refine VC.nil (Qe (Qk [0,3,4,5,41] Qa (QL Qa ?_)))
   have hS8:=hS6.drew
   refine QT [0,1,2,3,4,5,6,7,8,9,10,11] [11] Jk (by kernel_rfl) ?_
   refine QM Qa Qa Qa (Xw Qa Qa Qa (QQ Qa Qa Qa HN (QH Qa Qa Qa (Qn Qa ZZ (hS8.cell 0 Qa Qa)) (QQ Qa Qa Qa Ws (QH Qa Qa Qa (Qn Qa QK (hS8.cell 7 Qa Qa)) (QQ Qa Qa Qa HM (QH Qa Qa Qa (Qn Qa Zw (hS8.cell 7 Qa Qa)) (QQ Qa Qa Qa Jw (QH Qa Qa Qa (Qn Qa QK (hS8.cell 7 Qa Qa)) (QG Qa Qa Qa (fun _=>(Wb Qa YU U3 Wg Qa)) ?_))))))))))
   refine Xb Qa Qa Qa Qa Qa Qa ?_
   refine Zj (k:=m.a) (v:=Rr ⟨m.data,m.b,0,false⟩) 2 hS8 keysInt underlying89 Qa Qa Qa Qa ?_
   intro w9 hS9; dsimp only[List.set]at hS9; rw[Uf hOW.gs]at hS9
   refine ZG (XC (by kernel_rfl)) ?_
   refine VC.nil (Qe (Qk [0,3,4] Qa (Qg (Qb (Qc Qa Qa (Qh (Qe (Qo (Qm (Q7 (.inr Qa) Qa Qa ?_))))))))))
   exact⟨_,rfl, by rw[Gt (by omega) hj (Le (by omega))]; exact(Sat.row_nil Z4 (Qu (E:={E with off:=some {o with pages:=X6 m.a ⟨m.data,m.b,0,false⟩ o.pages}}) ((XX (o:={o with pages:=X6 m.a ⟨m.data,m.b,0,false⟩ o.pages}) (hS9.pick [0,1,2,3,4,5,6,8] Qa)).reorder [1,2,3,4,0,5] Qa)))⟩
  refine QG Qa Qa (Qt Qa Qa (Qv h7)) (fun _=>(Ev.gd (XA Qa))) ?_
  refine QG Qa Qa (Qt Qa Qa (Qv h7)) (fun _=>(Ev.gd (Uk underlying79 Qa Qa))) ?_
  refine QG Qa Qa (Qt Qa Qa (Qv h7)) (fun _=>(Ev.gd (XA Qa))) ?_
  refine QG Qa Qa (Qt Qa Qa Qa) (fun _=>(Ev.gd (XA Qa))) ?_
  refine QG Qa Qa (Qt Qa Qa Qa) (fun _=>(Ev.gd (QV Qa Ws))) ?_
  refine QH Qa Qa (Qt Qa Qa Qa) (Ev.gd (Qn Qa QK (hS6.cell 7 Qa Qa))) (Xb Qa Qa (Qt Qa Qa Qa) Qa Qa Qa ?_)
  refine Q4 LW Qa (Iv (hS6.sp [0,2] Qa) m.a) Qa ?_
  rintro _ w10 ⟨rfl,hS10⟩
  replace hS10:=hS10.jn Qa Qa
  refine Xn (XC (by kernel_rfl)) ?_
  refine QG Qa Qa (Qt Qa Qa Qa) (fun _=>(Ev.gd (K5 Qa))) ?_
  refine QG Qa Qa (Qt Qa Qa (Qv h7)) (fun _=>(Ev.gd (XL Qa Qa Qa))) ?_
  refine QG Qa Qa Qa (fun _=>(X0 Qa (Qv h7) Qa)) ?_
  refine VC.nil (Qe (Qk [0,3,4,5,41] Qa (Xd Qa (fun h11=> ?_) (fun h11=> ?_))))
  ·have hhas:=h11
   have hS12:=hS10.drew
   refine QT [0,1,2,3,4,5,6,7,8,9,10,11] [11] Jk (by kernel_rfl) ?_
   refine QM Qa Qa Qa (Xw Qa Qa Qa (QQ Qa Qa Qa HN (QH Qa Qa Qa (Qn Qa ZZ (hS12.cell 0 Qa Qa)) (QQ Qa Qa Qa Ws (QH Qa Qa Qa (Qn Qa QK (hS12.cell 7 Qa Qa)) (QQ Qa Qa Qa HM (QH Qa Qa Qa (Qn Qa Zw (hS12.cell 7 Qa Qa)) (QQ Qa Qa Qa Jw (QH Qa Qa Qa (Qn Qa QK (hS12.cell 7 Qa Qa)) (QG Qa Qa Qa (fun _=>(Wb Qa YU U3 Wg Qa)) ?_))))))))))
   refine Xb Qa Qa Qa Qa Qa Qa ?_
   refine Zj (k:=m.a) (v:=Rr ⟨m.data,m.b,0,false⟩) 1 hS12 keysInt underlying89 Qa Qa Qa Qa ?_
   intro w13 hS13; dsimp only[List.set]at hS13; rw[Uf hOW.gs]at hS13
   refine ZG (XC (by kernel_rfl)) ?_
   refine VC.nil (Qe (Qk [0,3,4] Qa (Qg (Qb (Qc Qa Qa (Qh (Qe (Qo (Qm (Q7 (.inr Qa) Qa Qa ?_))))))))))
   exact⟨_,rfl, by rw[Gt (by omega) hj (Ld (by simpa using hhas))]; exact(Sat.row_nil Z4 (Qu (E:={E with off:=some {o with pages:=X6 m.a ⟨m.data,m.b,0,false⟩ o.pages}}) ((XX (o:={o with pages:=X6 m.a ⟨m.data,m.b,0,false⟩ o.pages}) (hS13.pick [0,2,1,3,4,5,6,8] Qa)).reorder [1,2,3,4,0,5] Qa)))⟩
  have hhas:=h11
  refine Qr (Qe (Qg (Qb (Qc Qa Qa (Qh (Qe (Qo (Qm (Q7 (.inr Qa) Qa Qa ?_)))))))))
  exact⟨_,rfl, by rw[P5 (by omega) hj (Og (by omega) (by simpa using hhas))]; exact(Sat.row_nil Z4 (Qu (E:={E with off:=some o}) ((XX (o:=o) (hS10.pick [0,2,1,3,4,5,6,8] Qa)).reorder [1,2,3,4,0,5] Qa)))⟩
 refine Qr (Qe (Qg (Qg ?_)))
 have hS14:=hS1.drew
 refine QT [0,1,2,3,4,5,6,7,8,9,10,11,12,13,14,15,16,17,18,19] [] Jk (by kernel_rfl) ?_
 refine QQ Qa Qa Qa ZE (QH Qa Qa Qa (Qn Qa QK (hS14.cell 0 Qa Qa)) (QM Qa Qa Qa (Xw Qa Qa Qa (QQ Qa Qa Qa WH (QH Qa Qa Qa (Qn Qa QK (hS14.cell 1 Qa Qa)) (QG Qa Qa Qa (fun _=>(Ye Qa Qa)) ?_))))))
 refine QM Qa Qa Qa (ZK 60 Qa (fun h15=> ?_) (fun h15=> ?_))
 ·refine Q2 Qa Qa (Qs Qa Qa (Q8 h15)) (Q2 Qa Qa (Qs Qa Qa (Q8 h15)) (Q2 Qa Qa (Qs Qa Qa (Q8 h15)) (Q2 Qa Qa (Qs Qa Qa (Q8 h15)) (Q2 Qa Qa (Qs Qa Qa (Q8 h15)) (QG Qa Qa Qa (fun _=>(XL Qa (Q8 h15) Qa)) ?_)))))
  refine QM Qa Qa Qa (Q2 Qa Qa (Qs Qa Qa Qa) (Q2 Qa Qa (Qs Qa Qa Qa) (Q2 Qa Qa (Qs Qa Qa Qa) (Q2 Qa Qa (Qs Qa Qa Qa) (QG Qa Qa Qa (fun _=>(XL Qa Qa Qa)) ?_)))))
  refine VC.nil (Qe (Qk [0,3,4,72] Qa (QL Qa (Qg (Qb (Qc Qa Qa (Qh (Qe (Qo (Qm (Q7 (.inr Qa) Qa Qa ?_)))))))))))
  exact⟨_,rfl, by rw[P4 (by omega) hq_s]; exact(Sat.row_nil Z4 (Qu (E:=E) (by rw[hq_s]; exact((ZQ hS14).pick [2,3,4,0,5,6] Qa))))⟩
 refine QG Qa Qa (Qt Qa Qa (Qv h15)) (fun _=>(Ev.gd (XA Qa))) ?_
 refine QG Qa Qa (Qt Qa Qa (Qv h15)) (fun _=>(Ev.gd (XH Qa))) ?_
 refine QG Qa Qa (Qt Qa Qa (Qv h15)) (fun _=>(Ev.gd (QV Qa Xm))) ?_
 refine QH Qa Qa (Qt Qa Qa (Qv h15)) (Ev.gd (Qn Qa Z8 (hS14.cell 1 Qa Qa))) (QG Qa Qa (Qt Qa Qa (Qv h15)) (fun _=>(Ev.gd (VI underlying78 Qa Qa))) ?_)
 refine QG Qa Qa Qa (fun _=>(X0 Qa (Qv h15) Qa)) ?_
 refine QM Qa Qa Qa (Q2 Qa Qa (Qs Qa Qa Qa) (Q2 Qa Qa (Qs Qa Qa Qa) (Q2 Qa Qa (Qs Qa Qa Qa) (Q2 Qa Qa (Qs Qa Qa Qa) (QG Qa Qa Qa (fun _=>(XL Qa Qa Qa)) ?_)))))
 refine VC.nil (Qe (Qk [0,3,4,72] Qa (QL Qa (Qg (Qb (Qc Qa Qa (Qh (Qe (Qo (Qm (Q7 (.inr Qa) Qa Qa ?_)))))))))))
 exact⟨_,rfl, by rw[P4 (by omega) hq_s]; exact(Sat.row_nil Z4 (Qu (E:=E) (by rw[hq_s]; exact((ZQ hS14).pick [2,3,4,0,5,6] Qa))))⟩
theorem Fw {w:World} {e:Nat} {E:EnD} {F:Th} (hS:Sat w [Xs e E,F]) (m:MsD) (hW:EW E) (hm:MsW m) {s:SeD} (hq_s:E.ses=some s):
    Calls prog 70 #[ptrV e 0,.agg #[intV m.kind,intV m.move,intV m.a,intV m.b,strV m.data]] w (Ret fun v w'=>Sat w' [rowT Z4 v [],Xs e (Xp E m),F]):= by
 obtain⟨dp,cv,sv,ov,hS⟩:=QW hS
 rw[hq_s]at hS
 obtain⟨sb,sm,rfl,hS⟩:=Zn (hS.reorder [3,0,1,2,4,5] rfl)
 refine Qy func70 Qa ntmps70 Qa ?_
 refine Qg (Qb (XZ hS Qa Qa Qa ?_))
 intro mp w1 hS1
 replace hS1:Sat w1 (QR mp [intV m.kind,intV m.move,intV m.a,intV m.b,strV m.data]::_):=hS1
 refine Qc Qa Qa (Qh (Qe (Qg (Qg (Qb (Qd Qa Qa (Ql Qa Qa (Qi Qa Z0 Qa (Qp Qa QK (hS1.cell 3 Qa Qa) Qa (Xt Qa Qa Qa (Qh (Qe (Qw Qa (fun h2=> ?_) (fun h2=> ?_))))))))))))))
 ·refine Qg (Qg ?_)
  have hS3:=Qu (E:=E) (by rw[hq_s]; exact((Xg (hS1.pick [1,2,0,3,4,5,6,7] Qa)).pick [2,3,4,0,5,1,6] Qa))
  refine Qb (Qd Qa Qa (Qi Qa ZE Qa (Qp Qa QK (hS3.cell 1 Qa Qa) Qa (Ub N0 Qa (CK (hS3.sp [0] Qa) m.move) Qa ?_))))
  rintro e w4 ⟨_,rfl,(⟨hj,rfl,hS4⟩ | ⟨o,ob,om,on,dp1,cv1,sv1,hj,rfl,hS4⟩)⟩
  ·refine⟨_,Qa, ?_⟩
   replace hS4:=hS4.jn Qa Qa
   refine Qc Qa Qa (Qh (Qe (Qk [0,3,4,5] Qa (Qg ?_))))
   have hS5:=hS4.drew
   refine QT [0,1,2,3,4,5,6,7,8,9,10,11,12,13,14,15,16,17,18,19,20,21,22,23,24,25] [22] Jk (by kernel_rfl) ?_
   refine QM Qa Qa Qa (QG Qa Qa Qa (fun _=>(Yp underlying79 Qa Qa)) ?_)
   refine QM Qa Qa Qa (Q2 Qa Qa (Qs Qa Qa Qa) (Q2 Qa Qa (Qs Qa Qa Qa) (Q2 Qa Qa (Qs Qa Qa Qa) (Q2 Qa Qa (Qs Qa Qa Qa) (Q2 Qa Qa (Qs Qa Qa Qa) (Q2 Qa Qa (Qs Qa Qa Qa) (Q2 Qa Qa (Qs Qa Qa Qa) (Q2 Qa Qa (Qs Qa Qa Qa) (Q2 Qa Qa (Qs Qa Qa Qa) (Q2 Qa Qa (Qs Qa Qa Qa) (Q2 Qa Qa (Qs Qa Qa Qa) (QG Qa Qa Qa (fun _=>(X0 Qa Qa Qa)) ?_))))))))))))
   refine QM Qa Qa Qa (QG Qa Qa (Qt Qa Qa Qa) (fun _=>(Ev.gd (XA Qa))) ?_)
   refine QG Qa Qa (Qt Qa Qa Qa) (fun _=>(Ev.gd (Yp underlying79 Qa Qa))) ?_
   refine QG Qa Qa (Qt Qa Qa Qa) (fun _=>(Ev.gd (XA Qa))) ?_
   refine Q2 Qa Qa (Qs Qa Qa Qa) (Q2 Qa Qa (Qs Qa Qa Qa) (Q2 Qa Qa (Qs Qa Qa Qa) (VC.spineNot Qa Qa (Qs Qa Qa Qa) (Q2 Qa Qa (Qs Qa Qa Qa) (QG Qa Qa (Qt Qa Qa Qa) (fun _=>(Ev.gd (X0 Qa Qa Qa))) ?_)))))
   refine QG Qa Qa Qa (fun _=>(X0 Qa Qa Qa)) ?_
   refine VC.nil (Qe (Qk [0,3,4,5,41] Qa (QF Qa (Qr (Qe (Qg (Qb (Qc Qa Qa (Qh (Qe (Qo (Qm (Q7 (.inr Qa) Qa Qa ?_)))))))))))))
   exact⟨_,rfl, by rw[P6 (by omega) hj]; exact(Sat.row_nil Z4 (hS5.pick [0,2] Qa))⟩
  refine⟨_,Qa, ?_⟩
  replace hS4:=hS4.jn Qa Qa
  have hOW:=(VF hW hm.mv hj).1
  dsimp only[Pp]at hS4
  refine Qc Qa Qa (Qh (Qe (Qk [0,3,4,5] Qa (Qg ?_))))
  have hS6:=hS4.drew
  refine QT [0,1,2,3,4,5,6,7,8,9,10,11,12,13,14,15,16,17,18,19,20,21,22,23,24,25] [22] Jk (by kernel_rfl) ?_
  refine QM Qa Qa Qa (QG Qa Qa Qa (fun _=>(Uk underlying79 Qa Qa)) ?_)
  refine QM Qa Qa Qa (QG Qa Qa (Qt Qa Qa Qa) (fun _=>(Ev.gd (XA Qa))) ?_)
  refine QG Qa Qa (Qt Qa Qa Qa) (fun _=>(Ev.gd (XH Qa))) ?_
  refine QG Qa Qa (Qt Qa Qa Qa) (fun _=>(Ev.gd (QV Qa HN))) ?_
  refine QH Qa Qa (Qt Qa Qa Qa) (Ev.gd (Qn Qa ZZ (hS6.cell 0 Qa Qa))) (QG Qa Qa (Qt Qa Qa Qa) (fun _=>(Ev.gd (QV Qa Ws))) ?_)
  refine QH Qa Qa (Qt Qa Qa Qa) (Ev.gd (Qn Qa QK (hS6.cell 7 Qa Qa))) (QH Qa Qa (Qt Qa Qa Qa) (Ev.gd (JK (k:=m.a) 2 hS6 keysInt underlying89 Qa Qa Qa Wg (YB o.pages m.a))) (QG Qa Qa (Qt Qa Qa Qa) (fun _=>(Ev.gd (K6 CV Qa Qa))) ?_))
  refine QG Qa Qa (Qt Qa Qa Qa) (fun _=>(Ev.gd (QV Qa Jw))) ?_
  refine QH Qa Qa (Qt Qa Qa Qa) (Ev.gd (Qn Qa QK (hS6.cell 7 Qa Qa))) (QG Qa Qa (Qt Qa Qa Qa) (fun _=>(Ev.gd (MF Qa Qa))) ?_)
  refine QG Qa Qa Qa (fun _=>(XL Qa Qa Qa)) ?_
  refine QM Qa Qa Qa (ZK 31 Qa (fun h7=> ?_) (fun h7=> ?_))
  ·refine Q2 Qa Qa (Qs Qa Qa (Q8 h7)) (Q2 Qa Qa (Qs Qa Qa (Q8 h7)) (Q2 Qa Qa (Qs Qa Qa (Q8 h7)) (Q2 Qa Qa (WK Qa Qa) (Q2 Qa Qa (WK Qa Qa) (Q2 Qa Qa (WK Qa Qa) (VC.spineNot Qa Qa (WK Qa Qa) (Q2 Qa Qa (WK Qa Qa) (Q2 Qa Qa (Qs Qa Qa (Q8 h7)) (QG Qa Qa Qa (fun _=>(XL Qa (Q8 h7) Qa)) ?_)))))))))
   refine VC.nil (Qe (Qk [0,3,4,5,41] Qa (QL Qa ?_)))
   have hS8:=hS6.drew
   refine QT [0,1,2,3,4,5,6,7,8,9,10,11] [11] Jk (by kernel_rfl) ?_
   refine QM Qa Qa Qa (Xw Qa Qa Qa (QQ Qa Qa Qa HN (QH Qa Qa Qa (Qn Qa ZZ (hS8.cell 0 Qa Qa)) (QQ Qa Qa Qa Ws (QH Qa Qa Qa (Qn Qa QK (hS8.cell 7 Qa Qa)) (QQ Qa Qa Qa HM (QH Qa Qa Qa (Qn Qa Zw (hS8.cell 7 Qa Qa)) (QQ Qa Qa Qa Jw (QH Qa Qa Qa (Qn Qa QK (hS8.cell 7 Qa Qa)) (QG Qa Qa Qa (fun _=>(Wb Qa YU U3 Wg Qa)) ?_))))))))))
   refine Xb Qa Qa Qa Qa Qa Qa ?_
   refine Zj (k:=m.a) (v:=Rr ⟨m.data,m.b,0,false⟩) 2 hS8 keysInt underlying89 Qa Qa Qa Qa ?_
   intro w9 hS9; dsimp only[List.set]at hS9; rw[Uf hOW.gs]at hS9
   refine ZG (XC (by kernel_rfl)) ?_
   refine VC.nil (Qe (Qk [0,3,4] Qa (Qg (Qb (Qc Qa Qa (Qh (Qe (Qo (Qm (Q7 (.inr Qa) Qa Qa ?_))))))))))
   exact⟨_,rfl, by rw[Gt (by omega) hj (Le (by omega))]; exact(Sat.row_nil Z4 (Qu (E:={E with off:=some {o with pages:=X6 m.a ⟨m.data,m.b,0,false⟩ o.pages}}) ((XX (o:={o with pages:=X6 m.a ⟨m.data,m.b,0,false⟩ o.pages}) (hS9.pick [0,1,2,3,4,5,6,8] Qa)).reorder [1,2,3,4,0,5] Qa)))⟩
  refine QG Qa Qa (Qt Qa Qa (Qv h7)) (fun _=>(Ev.gd (XA Qa))) ?_
  refine QG Qa Qa (Qt Qa Qa (Qv h7)) (fun _=>(Ev.gd (Uk underlying79 Qa Qa))) ?_
  refine QG Qa Qa (Qt Qa Qa (Qv h7)) (fun _=>(Ev.gd (XA Qa))) ?_
  refine QG Qa Qa (Qt Qa Qa Qa) (fun _=>(Ev.gd (XA Qa))) ?_
  refine QG Qa Qa (Qt Qa Qa Qa) (fun _=>(Ev.gd (QV Qa Ws))) ?_
  refine QH Qa Qa (Qt Qa Qa Qa) (Ev.gd (Qn Qa QK (hS6.cell 7 Qa Qa))) (Xb Qa Qa (Qt Qa Qa Qa) Qa Qa Qa ?_)
  refine Q4 LW Qa (Iv (hS6.sp [0,2] Qa) m.a) Qa ?_
  rintro _ w10 ⟨rfl,hS10⟩
  replace hS10:=hS10.jn Qa Qa
  refine Xn (XC (by kernel_rfl)) ?_
  refine QG Qa Qa (Qt Qa Qa Qa) (fun _=>(Ev.gd (K5 Qa))) ?_
  refine QG Qa Qa (Qt Qa Qa (Qv h7)) (fun _=>(Ev.gd (XL Qa Qa Qa))) ?_
  refine QG Qa Qa Qa (fun _=>(X0 Qa (Qv h7) Qa)) ?_
  refine VC.nil (Qe (Qk [0,3,4,5,41] Qa (Xd Qa (fun h11=> ?_) (fun h11=> ?_))))
  ·have hhas:=h11
   have hS12:=hS10.drew
   refine QT [0,1,2,3,4,5,6,7,8,9,10,11] [11] Jk (by kernel_rfl) ?_
   refine QM Qa Qa Qa (Xw Qa Qa Qa (QQ Qa Qa Qa HN (QH Qa Qa Qa (Qn Qa ZZ (hS12.cell 0 Qa Qa)) (QQ Qa Qa Qa Ws (QH Qa Qa Qa (Qn Qa QK (hS12.cell 7 Qa Qa)) (QQ Qa Qa Qa HM (QH Qa Qa Qa (Qn Qa Zw (hS12.cell 7 Qa Qa)) (QQ Qa Qa Qa Jw (QH Qa Qa Qa (Qn Qa QK (hS12.cell 7 Qa Qa)) (QG Qa Qa Qa (fun _=>(Wb Qa YU U3 Wg Qa)) ?_))))))))))
   refine Xb Qa Qa Qa Qa Qa Qa ?_
   refine Zj (k:=m.a) (v:=Rr ⟨m.data,m.b,0,false⟩) 1 hS12 keysInt underlying89 Qa Qa Qa Qa ?_
   intro w13 hS13; dsimp only[List.set]at hS13; rw[Uf hOW.gs]at hS13
   refine ZG (XC (by kernel_rfl)) ?_
   refine VC.nil (Qe (Qk [0,3,4] Qa (Qg (Qb (Qc Qa Qa (Qh (Qe (Qo (Qm (Q7 (.inr Qa) Qa Qa ?_))))))))))
   exact⟨_,rfl, by rw[Gt (by omega) hj (Ld (by simpa using hhas))]; exact(Sat.row_nil Z4 (Qu (E:={E with off:=some {o with pages:=X6 m.a ⟨m.data,m.b,0,false⟩ o.pages}}) ((XX (o:={o with pages:=X6 m.a ⟨m.data,m.b,0,false⟩ o.pages}) (hS13.pick [0,2,1,3,4,5,6,8] Qa)).reorder [1,2,3,4,0,5] Qa)))⟩
  have hhas:=h11
  refine Qr (Qe (Qg (Qb (Qc Qa Qa (Qh (Qe (Qo (Qm (Q7 (.inr Qa) Qa Qa ?_)))))))))
  exact⟨_,rfl, by rw[P5 (by omega) hj (Og (by omega) (by simpa using hhas))]; exact(Sat.row_nil Z4 (Qu (E:={E with off:=some o}) ((XX (o:=o) (hS10.pick [0,2,1,3,4,5,6,8] Qa)).reorder [1,2,3,4,0,5] Qa)))⟩
 refine Qr (Qe (Qg (Qg ?_)))
 have hS14:=hS1.drew
 refine QT [0,1,2,3,4,5,6,7,8,9,10,11,12,13,14,15,16,17,18,19] [] Jk (by kernel_rfl) ?_
 refine QQ Qa Qa Qa ZE (QH Qa Qa Qa (Qn Qa QK (hS14.cell 0 Qa Qa)) (QM Qa Qa Qa (Xw Qa Qa Qa (QQ Qa Qa Qa WH (QH Qa Qa Qa (Qn Qa QK (hS14.cell 3 Qa Qa)) (QG Qa Qa Qa (fun _=>(Ye Qa Qa)) ?_))))))
 refine QM Qa Qa Qa (ZK 60 Qa (fun h15=> ?_) (fun h15=> ?_))
 ·refine Q2 Qa Qa (Qs Qa Qa (Q8 h15)) (Q2 Qa Qa (Qs Qa Qa (Q8 h15)) (Q2 Qa Qa (Qs Qa Qa (Q8 h15)) (Q2 Qa Qa (Qs Qa Qa (Q8 h15)) (Q2 Qa Qa (Qs Qa Qa (Q8 h15)) (QG Qa Qa Qa (fun _=>(XL Qa (Q8 h15) Qa)) ?_)))))
  refine QM Qa Qa Qa (Q2 Qa Qa (Qs Qa Qa Qa) (Q2 Qa Qa (Qs Qa Qa Qa) (Q2 Qa Qa (Qs Qa Qa Qa) (Q2 Qa Qa (Qs Qa Qa Qa) (QG Qa Qa Qa (fun _=>(XL Qa Qa Qa)) ?_)))))
  refine VC.nil (Qe (Qk [0,3,4,72] Qa (QL Qa (Qg (Qb (Qc Qa Qa (Qh (Qe (Qo (Qm (Q7 (.inr Qa) Qa Qa ?_)))))))))))
  exact⟨_,rfl, by rw[P3 (by omega) hq_s (by omega)]; exact(Sat.row_nil Z4 (Qu (E:=E) (by rw[hq_s]; exact((Xg (hS14.pick [1,2,0,3,4,5,6,7] Qa)).pick [2,3,4,0,5,6] Qa))))⟩
 refine QG Qa Qa (Qt Qa Qa (Qv h15)) (fun _=>(Ev.gd (XA Qa))) ?_
 refine QG Qa Qa (Qt Qa Qa (Qv h15)) (fun _=>(Ev.gd (XH Qa))) ?_
 refine QG Qa Qa (Qt Qa Qa (Qv h15)) (fun _=>(Ev.gd (QV Qa Xm))) ?_
 refine QH Qa Qa (Qt Qa Qa (Qv h15)) (Ev.gd (Qn Qa Z8 (hS14.cell 3 Qa Qa))) (QG Qa Qa (Qt Qa Qa (Qv h15)) (fun _=>(Ev.gd (Bu underlying78 Qa Qa))) ?_)
 refine QG Qa Qa Qa (fun _=>(X0 Qa (Qv h15) Qa)) ?_
 refine QM Qa Qa Qa (QG Qa Qa (Qt Qa Qa Qa) (fun _=>(Ev.gd (QV Qa HM))) ?_)
 refine QH Qa Qa (Qt Qa Qa Qa) (Ev.gd (Qn Qa Zw (hS14.cell 0 Qa Qa))) (QG Qa Qa (Qt Qa Qa Qa) (fun _=>(Ev.gd (G9 underlying9 Qa))) ?_)
 refine QG Qa Qa (Qt Qa Qa Qa) (fun _=>(Ev.gd (Ye Qa Qa))) ?_
 refine QG Qa Qa Qa (fun _=>(X0 Qa Qa Qa)) ?_
 refine VC.nil (Qe (Qk [0,3,4,72] Qa (Qw Qa (fun h16=> ?_) (fun h16=> ?_))))
 ·refine Qg (Qb (Qc Qa Qa (Qh (Qe (Qo (Qm (Q7 (.inr Qa) Qa Qa ?_)))))))
  exact⟨_,rfl, by rw[P3 (by omega) hq_s (by omega)]; exact(Sat.row_nil Z4 (Qu (E:=E) (by rw[hq_s]; exact((Xg (hS14.pick [1,2,0,3,4,5,6,7] Qa)).pick [2,3,4,0,5,6] Qa))))⟩
 refine Qr (Qe (Qg (Qg ?_)))
 have hS17:=hS14.drew
 refine QT [0,1,2,3,4,5,6,7,8,9,10,11] [10,11] Jk (by kernel_rfl) ?_
 refine QM Qa Qa Qa (Xw Qa Qa Qa (QQ Qa Qa Qa Xm (QH Qa Qa Qa (Qn Qa Z8 (hS17.cell 3 Qa Qa)) (Xw Qa Qa Qa (QQ Qa Qa Qa ZH (QH Qa Qa Qa (Qn Qa ZZ (hS17.cell 1 Qa Qa)) (QQ Qa Qa Qa Ws (QH Qa Qa Qa (Qn Qa QK (hS17.cell 0 Qa Qa)) (QH Qa Qa Qa (JK (k:=m.a) 2 hS17 keysInt underlying89 Qa Qa Qa Wg (YB s.pages m.a)) (Xb Qa Qa Qa Qa Qa Qa ?_))))))))))
 refine Xk hS17 Wg Qa Qa ?_
 intro b18 w18 hS18
 refine Xn (.cons (.inl ⟨Qa,(JK (k:=m.a) 3 hS18 keysInt underlying89 Qa Qa Qa Wg (YB s.pages m.a))⟩) (.cons (.inl ⟨Qa,(Qn Qa QK (hS18.cell 1 Qa Qa))⟩) (.cons (.inl ⟨Qa,(Qn Qa ZZ (hS18.cell 2 Qa Qa))⟩) (.cons (.inl ⟨Qa,(Qn Qa Z8 (hS18.cell 4 Qa Qa))⟩) .nil)))) (Xb Qa Qa Qa Qa Qa Qa ?_)
 (refine QX hS18 Qa Qa Vl Qa (by rfl) (i:=0) Qa (by decide) ?_)
 intro w19 hS20; dsimp only[List.set]at hS20
 refine ZG (XC (by kernel_rfl)) ?_
 refine VC.nil (Qe (Qk [0,3,4,6] Qa (Qg (Qb (Qi Qa CX Qa (Qp Qa JT (hS20.cell 0 Qa Qa) Qa (Qd Qa Qa (Zz 85 Qa (fun h21=> ?_) (fun h21=> ?_)))))))))
 ·have hms:(VZ (QN s.pages m.a)).miss=true:= by simpa using h21
  refine Qj Qa Qa h21 (Qi Qa UJ Qa (Qj Qa Qa h21 (Qp Qa QK (by first | exact hS20.cell 0 Qa Qa | exact hS20.cell 1 Qa Qa) Qa ?_)))
  refine Qj Qa Qa h21 (Qi Qa Jw Qa (Qj Qa Qa h21 (Qp Qa QK (by first | exact hS20.cell 0 Qa Qa | exact hS20.cell 1 Qa Qa) Qa ?_)))
  refine Qj Qa Qa h21 (QO Qa Qa Qa (Qx Qa h21 Qa Qa (Qh (Qe (Qk [0,3,4,6,91] Qa (Qw Qa (fun h22=> ?_) (fun h22=> ?_)))))))
  ·refine Qg ?_
   have hS23:=hS20.drew
   refine QT [0,1,2,3,4,5] [3,5] Jk (by kernel_rfl) ?_
   refine QQ Qa Qa Qa HM (QH Qa Qa Qa (Qn Qa Zw (hS23.cell 1 Qa Qa)) (QQ Qa Qa Qa CX (Xb Qa Qa Qa Qa Qa Qa ?_)))
   (refine QC hS23 Qa Qa Jy (by rfl) (i:=0) Qa (Xe Qa) ?_)
   intro w24 hS25; dsimp only[List.set]at hS25
   refine ZG (.cons (.inl ⟨Qa,(Qn Qa Zw (hS25.cell 1 Qa Qa))⟩) .nil) (QQ Qa Qa Qa Rd (Xb Qa Qa Qa Qa Qa Qa ?_))
   (refine QC hS25 Qa Qa R8 (by rfl) (i:=0) Qa (Xe Qa) ?_)
   intro w26 hS27; dsimp only[List.set]at hS27
   refine ZG (XC (by kernel_rfl)) ?_
   refine VC.nil (Qe ?_)
   have hS28:=hS27.drew
   refine QT [0,1,2,3,4,5,6,7,8,9,10] [10] Jk (by kernel_rfl) ?_
   refine QM Qa Qa Qa (Xw Qa Qa Qa (QQ Qa Qa Qa Xm (QH Qa Qa Qa (Qn Qa Z8 (hS28.cell 4 Qa Qa)) (Xw Qa Qa Qa (QQ Qa Qa Qa ZH (QH Qa Qa Qa (Qn Qa ZZ (hS28.cell 2 Qa Qa)) (QQ Qa Qa Qa Ws (QH Qa Qa Qa (Qn Qa QK (hS28.cell 1 Qa Qa)) (QH Qa Qa Qa (Jh Qa qay Vl (hS28.blk 0 Qa) (Xe Qa) Qa) (Xb Qa Qa Qa Qa Qa Qa ?_))))))))))
   refine Zj (k:=m.a) (v:=Rr {(VZ (QN s.pages m.a))with miss:=false,data:=m.data}) 3 hS28 keysInt underlying89 Qa Qa Qa Qa ?_
   intro w29 hS29; dsimp only[List.set]at hS29; rw[Uf (hW.ses s hq_s).srt]at hS29
   refine ZG (XC (by kernel_rfl)) ?_
   refine VC.nil (Qe (Qk [4] Qa (Qg (Qb (Qc Qa Qa (Qh (Qe (Qo (Q7 (.inr Qa) Qa Qa ?_)))))))))
   exact⟨_,rfl, by rw[Is (by omega) hq_s (by omega) (OL hms) ⟨hms, by omega⟩]; exact(Sat.row_nil Z4 (Qu (E:={E with ses:=some {s with pages:=X6 m.a {(VZ (QN s.pages m.a))with miss:=false,data:=m.data} s.pages}}) ((Xg (s:={s with pages:=X6 m.a {(VZ (QN s.pages m.a))with miss:=false,data:=m.data} s.pages}) (hS29.pick [2,3,4,5,6,7,8] Qa)).reorder [1,2,3,0,4,5] Qa)))⟩
  refine Qr (Qe (Qg (Qb (Qc Qa Qa (Qh (Qe (Qo (Q7 (.inr Qa) Qa Qa ?_))))))))
  exact⟨_,rfl, by rw[P2 (by omega) hq_s (by omega) (by rintro⟨q1,q2⟩;first | (rw[q1]at hms; cases hms;done) | omega)]; exact(Sat.row_nil Z4 (Qu (E:=E) (by rw[hq_s]; exact((Xg (hS20.pick [2,3,0,1,4,5,6,7,8] rfl)).pick [3,4,5,0,6,7] rfl))))⟩
 have hms:(VZ (QN s.pages m.a)).miss=false:= by simpa using h21
 refine Qf Qa Qa h21 Qa (Qf Qa Qa h21 Qa (Qf Qa Qa h21 Qa (Qf Qa Qa h21 Qa (Qf Qa Qa h21 Qa (Qz Qa h21 Qa Qa (Qh (Qe (Qk [0,3,4,6,91] Qa (QF Qa (Qr (Qe (Qg (Qb (Qc Qa Qa (Qh (Qe (Qo (Q7 (.inr Qa) Qa Qa ?_))))))))))))))))))
 exact⟨_,rfl, by rw[P2 (by omega) hq_s (by omega) (by rintro⟨q1,q2⟩;first | (rw[q1]at hms; cases hms;done) | omega)]; exact(Sat.row_nil Z4 (Qu (E:=E) (by rw[hq_s]; exact((Xg (hS20.pick [2,3,0,1,4,5,6,7,8] rfl)).pick [3,4,5,0,6,7] rfl))))⟩
theorem P8 {w:World} {e:Nat} {E:EnD} {F:Th} (hS:Sat w [Xs e E,F]) (m:MsD) (hW:EW E) (hm:MsW m):
    Calls prog 70 #[ptrV e 0,.agg #[intV m.kind,intV m.move,intV m.a,intV m.b,strV m.data]] w (Ret fun v w'=>Sat w' [rowT Z4 v [],Xs e (Xp E m),F]):= by
  cases hs:E.ses with
  | none=> exact Fx hS m hW hm hs
  | some s=> exact Fw hS m hW hm hs
end Go.Proofs.YtiibgheijbbmaaaGreatDoor
namespace Go.Proofs.YtiibgheijbbmaaaGreatDoor.M
open Go.RowKit Proofs.Tryz
theorem Oz {α:Type} {l:List α} {i:Nat} {a:α} (h:l[i]? =some a):l.set i a=l:= by
  apply List.ext_getElem?
  intro j
  by_cases e:i=j
  · subst e; rw[List.getElem?_set_self (Jo h).1,h]
  · rw[List.getElem?_set_ne e]
def GG (e:Nat) (v:Value) (bs:List UInt8):Th where
  at_:= fun w F=>(F= fun k=>v.ownBlock=some k)∧((v= .slice none 0 0∧bs=[])∨ ∃g cap cur fz,v= .slice (some ⟨g,0,none⟩) bs.length cap∧bs≠[]∧cap≠0∧w.heap[g]? =some (.cells cur e fz)∧bs.length≤cur.size∧cur.toList.take bs.length=byC.cells bs)
  fr:= fun {w w' F} a ⟨e1,h⟩=>⟨e1, by
    rcases h with h | ⟨g,cap,cur,fz,h1,h2,h3,h4,h5⟩
    · exact .inl h
    · exact .inr ⟨g,cap,cur,fz,h1,h2,h3, by rw[a.blk _ (by rw[e1,h1];rfl)]; exact h4,h5⟩⟩
  lt:= fun {w F} ⟨e1,h⟩ k hk=> by
    rw[e1]at hk
    rcases h with⟨rfl,_⟩ | ⟨g,cap,cur,fz,rfl,_,_,h4,_⟩
    · simp [Value.ownBlock]at hk
    · simp only[Value.ownBlock,Option.some.injEq]at hk
      subst hk
      rcases Nat.lt_or_ge g w.heap.size with q | q
      · exact q
      · rw[Array.getElem?_eq_none q]at h4; cases h4
section
variable {P:Program} {n:Nat} {ops:Array Oper} {Q:Exit→Act→World→Prop} {rest:List Oper} {L:Env} {w:World} {d:Nat} {ty:TypeId} {pos:String} {aft:Array Edge} {As:List Th} {T e b:Nat} {cs:List Value}
theorem Sat.bufZ_of {v:Value} {bs:List UInt8} (h:Sat w (By e v bs::As)):Sat w (GG e v bs::As):= by
  obtain⟨F,F1,F2,rfl,dj,⟨e1,⟨hl,h1⟩,hn⟩,h2⟩:=h
  refine⟨_,F1,F2,Qa,dj,⟨e1, ?_⟩,h2⟩
  by_cases h0:bs=[]
  · exact .inl ⟨hn h0,h0⟩
  · rcases h1 with⟨_,h3⟩ | ⟨g,cap,cur,rfl,_,h3,h4,_,h6,h7⟩
    · exact absurd (List.eq_nil_of_length_eq_zero h3) h0
    · have hp:0<bs.length:=List.length_pos_iff.2 h0
      exact .inr ⟨g,cap,cur,(0,0),rfl,h0, by omega,h3, by omega, by rw[Nat.mul_one]at h7; exact h7⟩
theorem Sat.bufZv (h:Sat w As) (i:Nat) {v:Value} {bs:List UInt8} (hi:As[i]? =some (GG e v bs)): ∃ao cap,v= .slice ao bs.length cap∧v.oneCell'=true∧(ao=none∨cap≠0):= by
  obtain⟨F,_,h⟩:=h.get i hi
  rcases h with⟨rfl,rfl⟩ | ⟨g,cap,cur,fz,rfl,_,h3,_⟩
  · exact⟨none,0,Qa,Qa,.inl Qa⟩
  · exact⟨_,cap,Qa,Qa,.inr h3⟩
theorem GQ {ao:Option Addr} {cap pt it:Nat} {bs:List UInt8} {x y:Operand} (i:Nat) (hS:Sat w As) (hi:As[i]? =some (GG e (.slice ao bs.length cap) bs)) (hx:look L x=some (.pointer ao)) (hy:look L y=some (.int .i64 (bs.length:Int))) (hp:P.underlying pt=some (.pointer e)) (hc:P.cellsOf e=1) (hlen:bs.length≤9223372036854775807) (hd:Nat.blt d n=true)
    (hk: ∀w',Sat w' As→wl P n ops Q rest ((d,strV bs)::L) w'):wl P n ops Q (⟨some d,.call ⟨.builtin .unsafeString, #[x,y], #[pt,it]⟩,ty,pos,aft,none⟩::rest) L w:= by
  have hg: ∃w',(Builtin.unsafeString_ #[pt,it] ty #[.pointer ao,.int .i64 bs.length]).run P w= .ok (strV bs) w'∧Sat w' As:= by
    obtain⟨F,e1,h⟩:=hS.get i hi
    rcases h with⟨hv,rfl⟩ | ⟨g,cap',cur,fz,hv,h0,_,hgb,h5,h6⟩
    · simp only[Value.slice.injEq,List.length_nil,true_and]at hv
      obtain⟨rfl,_⟩:=hv
      exact⟨w,Lib.run_unsafeString_none w pt it ty none,hS⟩
    · simp only[Value.slice.injEq,true_and]at hv
      obtain⟨rfl,rfl⟩:=hv
      refine⟨w.freeze ⟨g,0,none⟩ bs.length,Lib.run_unsafeString_row w pt it ty e hp hc g cur.size (by simp [World.shape?,hgb]) bs h0 (by omega) hlen ?_, ?_⟩
      · intro j c hj
        rw[Wu]
        simp only[Nat.zero_add]
        rw[Lib.cell_of_heap hgb]
        have hj':=(Jo hj).1
        have :(byC.cells bs)[j]? =some (.int .u8 (c.toNat:Int)):= by
          have :=RowC.cells_at (C:=byC) (l:=bs) (j:=j) hj
          have h3:=congrArg (fun q=>q[0]?) this
          simpa [byC,List.getElem?_take,List.getElem?_drop]using h3
        rw[←h6,List.getElem?_take,if_pos hj']at this
        simpa using this
      · have hlt:g<w.heap.size:= by
          rcases Nat.lt_or_ge g w.heap.size with q | q
          · exact q
          · rw[Array.getElem?_eq_none q]at hgb; cases hgb
        have hne:bs.length≠0:= fun q=>h0 (List.eq_nil_of_length_eq_zero q)
        have hfz: ∃fz',(w.freeze ⟨g,0,none⟩ bs.length).heap[g]? =some (.cells cur e fz'):= by
          unfold World.freeze
          rw[if_neg hne]
          obtain⟨lo,hi'⟩:=fz
          refine⟨if lo==hi' then(0,0+bs.length)else(min lo 0,max hi' (0+bs.length)), ?_⟩
          simp only[Array.getElem?_modify,if_true,hgb,Option.map_some]
        obtain⟨fz',hfz⟩:=hfz
        have hst:=hS.step i hi (w':=w.freeze ⟨g,0,none⟩ bs.length) (A':=GG e (.slice (some ⟨g,0,none⟩) bs.length cap) bs) fun F0 hF0=> ?_
        · rwa [Oz hi]at hst
        · have e0:=hF0.1
          have hb:=Lib.below_freeze (B:=0) (Below.refl 0 w) (p:=⟨g,0,none⟩) (Nat.zero_le _) bs.length
          refine⟨F0,⟨e0,.inr ⟨g,cap,cur,fz',rfl,h0, by assumption,hfz,h5,h6⟩⟩, fun k hk=> .inl hk,hb.os,hb.tape,hb.output, fun k hk=> ?_⟩
          have hnk:k≠g:= by
            rintro rfl
            exact hk.2 (by rw[e0];rfl)
          unfold World.freeze
          rw[if_neg hne]
          simp only[Array.getElem?_modify]
          rw[if_neg (fun q=>hnk q.symm)]
  obtain⟨w',h1,h2⟩:=hg
  refine Zk rfl hd (R:= fun v u=>v=strV bs∧u=w') (fun a ha=>⟨_,_,.inl ?_,rfl,rfl⟩) (by rintro _ _ ⟨rfl,rfl⟩; exact hk _ h2)
  simp [execOp,ha.eval hx,ha.eval hy,resolve,invoke,builtin,h1]
end
end Go.Proofs.YtiibgheijbbmaaaGreatDoor.M
namespace Go.Proofs.YtiibgheijbbmaaaGreatDoor
open Go.RowKit M Proofs.Tryz
def bldZ (b:Nat) (bs:Bs):Th:=S8 fun q:Value×Value=>starL [Yq 149 b [q.1,q.2],GG 5 q.2 bs]
theorem bldZ_of {w:World} {b:Nat} {bs:Bs} {As:List Th} (h:Sat w (S0 b bs::As)):Sat w (bldZ b bs::As):= by
  obtain⟨p,v,_,h1⟩:=B0 h
  have h2:=(h1.pull 1 Qa).bufZ_of; dsimp only[List.eraseIdx]at h2
  exact Sat.ex_intro (f:= fun q:Value×Value=>starL [Yq 149 b [q.1,q.2],GG 5 q.2 bs]) (p,v) (Sat.fold (As:=[Yq 149 b [p,v],GG 5 v bs]) (h2.perm (List.Perm.swap _ _ _)))
theorem MO {w:World} {b:Nat} {bs:Bs} {F:Th} (hS:Sat w [bldZ b bs,F]) (hl:bs.length≤70368744177663):
    Calls prog 107 #[ptrV b 0] w (Ret fun v w'=>v=strV bs∧Sat w' [bldZ b bs,F]):= by
 obtain⟨⟨p,v⟩,hS⟩:=hS.ex
 replace hS:=hS.flat; dsimp only[zqc,zqd]at hS
 obtain⟨ao,cap,rfl,h1v,hao⟩:=hS.bufZv 1 rfl
 refine Qy func107 Qa ntmps107 Qa ?_
 refine Qg (Qb (Qc Qa Qa (Qh (Qe (Qg ?_)))))
 have hS1:=hS.drew
 refine QT [0,1,2,3,5,6,7,8,9,4,10,11] [4,10] Jk (by kernel_rfl) ?_
 refine QM Qa Qa Qa (Xw Qa Qa Qa (QQ Qa Qa Qa Vy (QH Qa Qa Qa (Qn Qa MT (hS1.tcell 0 Qa (o:=1) Qa)) (QM Qa Qa Qa (Xw Qa Qa Qa (QQ Qa Qa Qa Vy (QH Qa Qa Qa (Qn Qa MT (hS1.tcell 0 Qa (o:=1) Qa)) (QG Qa Qa Qa (fun _=>(Dx underlying98 Qa)) ?_))))))))
 refine Xb Qa Qa Qa Qa Qa Qa ?_
 refine RP Qa hao Qa (Xn (.cons (.inl ⟨rfl,(Qn Qa MT (hS1.tcell 0 Qa (o:=1) Qa))⟩) (XC (by kernel_rfl))) ?_)
 refine Xb Qa Qa Qa Qa Qa Qa ?_
 refine GQ 1 hS1 Qa Qa Qa underlying168 LY (by omega) Qa ?_
 intro w2 hS2
 refine Xn (XC (by kernel_rfl)) ?_
 exact Jr Qa Qa Qa (VC.nil (Qe (Qk [2] Qa (Qo (Q7 (.inr Qa) Qa Qa (⟨_,rfl,rfl,Sat.ex_intro (f:= fun q:Value×Value=>starL [Yq 149 b [q.1,q.2],GG 5 q.2 bs]) (p,.slice ao bs.length cap) (Sat.fold (As:=[Yq 149 b [p,_],GG 5 _ bs]) hS2)⟩))))))
