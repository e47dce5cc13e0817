/- move: hearPage -/
import Derived.Test.YtiibgheijbbmaaaGreatDoorMvy1
import Derived.Test.YtiibgheijbbmaaaGreatDoorMv1
set_option linter.unusedVariables false
set_option maxRecDepth 100000
set_option maxHeartbeats 100000000000
namespace Go.Proofs.YtiibgheijbbmaaaGreatDoor
open Go.RowKit M Proofs.Tryz
def Te (o:OfD) (m:MsD):Bool:= match QT o.pages m.a with | none=>true | some p=>decide (p.ver<m.b)
section
variable {E:EnD} {m:MsD} {o:OfD} {s:SeD} {p:PgD}
theorem FQ (h:(VR (QT o.pages m.a)).ver<m.b):Te o m=true:= by
  unfold Te;unfold VR at h
  cases q:QT o.pages m.a with
  | none=>rfl
  | some p=> rw[q]at h;simpa using h
theorem FP (h:(QT o.pages m.a).isSome=false):Te o m=true:= by
  unfold Te
  cases q:QT o.pages m.a with
  | none=>rfl
  | some p=> rw[q]at h; cases h
theorem AI (h: ¬(VR (QT o.pages m.a)).ver<m.b) (h2:(QT o.pages m.a).isSome=true):Te o m=false:= by
  unfold Te;unfold VR at h
  cases q:QT o.pages m.a with
  | none=> rw[q]at h2; cases h2
  | some p=> rw[q]at h;simpa using h
theorem Oo {l:AL PgD} {i:Int} (h:(VR (QT l i)).miss=true):QT l i=some (VR (QT l i)):= by
  cases q:QT l i with
  | none=> rw[q]at h; cases h
  | some p=>rfl
theorem P7 (hk:E.kind≠1) (hj:ZA E m.move=none):X6 E m=E:= by unfold X6; rw[if_pos hk,hj]
theorem Gp (hk:E.kind≠1) (hj:ZA E m.move=some o) (q:Te o m=true):X6 E m={E with off:=some {o with pages:=XO m.a ⟨m.data,m.b,0,false⟩ o.pages}}:= by unfold X6; rw[if_pos hk,hj]; dsimp only;unfold Te at q; cases z:QT o.pages m.a with | none=>rfl | some p=>(rw[z]at q; dsimp only at q⊢; rw[if_pos q])
theorem P6 (hk:E.kind≠1) (hj:ZA E m.move=some o) (q:Te o m=false):X6 E m={E with off:=some o}:= by unfold X6; rw[if_pos hk,hj]; dsimp only;unfold Te at q; cases z:QT o.pages m.a with | none=>(rw[z]at q; cases q) | some p=>(rw[z]at q; dsimp only at q⊢; rw[if_neg (by rw[q];decide)])
theorem P5 (hk: ¬E.kind≠1) (hs:E.ses=none):X6 E m=E:= by unfold X6; rw[if_neg hk,hs]
theorem P4 (hk: ¬E.kind≠1) (hs:E.ses=some s) (h:m.move≠E.move∨m.data.length≠64):X6 E m=E:= by unfold X6; rw[if_neg hk,hs]; dsimp only; rw[if_pos h]
theorem P3 (hk: ¬E.kind≠1) (hs:E.ses=some s) (h: ¬(m.move≠E.move∨m.data.length≠64)) (h2: ¬((VR (QT s.pages m.a)).miss=true∧(VR (QT s.pages m.a)).ver=m.b)):X6 E m=E:= by
  unfold X6; rw[if_neg hk,hs]; dsimp only; rw[if_neg h]
  cases q:QT s.pages m.a with
  | none=>rfl
  | some p=> rw[q]at h2; dsimp only; rw[if_neg (show ¬(p.miss=true∧p.ver=m.b) from h2)]
theorem OK (hk: ¬E.kind≠1) (hs:E.ses=some s) (h: ¬(m.move≠E.move∨m.data.length≠64)) (hp:QT s.pages m.a=some p) (h2:p.miss=true∧p.ver=m.b):X6 E m={E with ses:=some {s with pages:=XO m.a {p with miss:=false,data:=m.data} s.pages}}:= by unfold X6; rw[if_neg hk,hs]; dsimp only; rw[if_neg h,hp]; dsimp only; rw[if_pos h2]
end
theorem Fi {w:World} {e:Nat} {E:EnD} {F:Th} (hS:Sat w [Xu e E,F]) (m:MsD) (hW:EW E) (hm:MsW m) (hq_s:E.ses=none):
    Calls prog 70 #[ptrV e 0,.agg #[intV m.kind,intV m.move,intV m.a,intV m.b,strV m.data]] w (Ret fun v w'=>Sat w' [rowT Z2 v [],Xu e (X6 E m),F]):= by
 obtain⟨dp,cv,sv,ov,hS⟩:=QQ hS
 rw[hq_s]at hS
 obtain⟨rfl,hS⟩:=WN (hS.reorder [3,0,1,2,4,5] rfl)
 refine Qx func70 Qa ntmps70 Qa ?_
 refine Qg (Qb (XT hS Qa Qa Qa ?_))
 intro mp w1 hS1
 replace hS1:Sat w1 (QR mp [intV m.kind,intV m.move,intV m.a,intV m.b,strV m.data]::_):=hS1
 refine Qc Qa Qa (Qh (Qd (Qg (Qg (Qb (Qe Qa Qa (Ql Qa Qa (Qi Qa Zv Qa (Qq Qa QF (hS1.cell 1 Qa Qa) Qa (Xr Qa Qa Qa (Qh (Qd (Qt Qa (fun h2=> ?_) (fun h2=> ?_))))))))))))))
 ·refine Qg (Qg ?_)
  have hS3:=Qv (E:=E) (by rw[hq_s]; exact((ZQ hS1).pick [2,3,4,0,5,1,6] Qa))
  refine Qb (Qe Qa Qa (Qi Qa ZB Qa (Qq Qa QF (hS3.cell 1 Qa Qa) Qa (Hw N1 Qa (CK (hS3.sp [0] Qa) m.move) Qa ?_))))
  rintro e w4 ⟨_,rfl,(⟨hj,rfl,hS4⟩ | ⟨o,ob,om,on,dp1,cv1,sv1,hj,rfl,hS4⟩)⟩
  ·refine⟨_,Qa, ?_⟩
   replace hS4:=hS4.jn Qa Qa
   refine Qc Qa Qa (Qh (Qd (Qk [0,3,4,5] Qa (Qg ?_))))
   have hS5:=hS4.drew
   refine QM [0,1,2,3,4,5,6,7,8,9,10,11,12,13,14,15,16,17,18,19,20,21,22,23,24,25] [22] Wv (by kernel_rfl) ?_
   refine QK Qa Qa Qa (QC Qa Qa Qa (fun _=>(Yi underlying79 Qa Qa)) ?_)
   refine QK Qa Qa Qa (Q3 Qa Qa (Qu Qa Qa Qa) (Q3 Qa Qa (Qu Qa Qa Qa) (Q3 Qa Qa (Qu Qa Qa Qa) (Q3 Qa Qa (Qu Qa Qa Qa) (Q3 Qa Qa (Qu Qa Qa Qa) (Q3 Qa Qa (Qu Qa Qa Qa) (Q3 Qa Qa (Qu Qa Qa Qa) (Q3 Qa Qa (Qu Qa Qa Qa) (Q3 Qa Qa (Qu Qa Qa Qa) (Q3 Qa Qa (Qu Qa Qa Qa) (Q3 Qa Qa (Qu Qa Qa Qa) (QC Qa Qa Qa (fun _=>(Xz Qa Qa Qa)) ?_))))))))))))
   refine QK Qa Qa Qa (QC Qa Qa (Qs Qa Qa Qa) (fun _=>(Ev.gd (Xt Qa))) ?_)
   refine QC Qa Qa (Qs Qa Qa Qa) (fun _=>(Ev.gd (Yi underlying79 Qa Qa))) ?_
   refine QC Qa Qa (Qs Qa Qa Qa) (fun _=>(Ev.gd (Xt Qa))) ?_
   refine Q3 Qa Qa (Qu Qa Qa Qa) (Q3 Qa Qa (Qu Qa Qa Qa) (Q3 Qa Qa (Qu Qa Qa Qa) (VC.spineNot Qa Qa (Qu Qa Qa Qa) (Q3 Qa Qa (Qu Qa Qa Qa) (QC Qa Qa (Qs Qa Qa Qa) (fun _=>(Ev.gd (Xz Qa Qa Qa))) ?_)))))
   refine QC Qa Qa Qa (fun _=>(Xz Qa Qa Qa)) ?_
   refine VC.nil (Qd (Qk [0,3,4,5,41] Qa (QI Qa (Qr (Qd (Qg (Qb (Qc Qa Qa (Qh (Qd (Qo (Qm (Q5 (.inr Qa) Qa Qa ?_)))))))))))))
   exact⟨_,rfl, by rw[P7 (by omega) hj]; exact(Sat.row_nil Z2 (hS5.pick [0,2] Qa))⟩
  refine⟨_,Qa, ?_⟩
  replace hS4:=hS4.jn Qa Qa
  have hOW:=(V9 hW hm.mv hj).1
  dsimp only[Pm]at hS4
  refine Qc Qa Qa (Qh (Qd (Qk [0,3,4,5] Qa (Qg ?_))))
  have hS6:=hS4.drew
  refine QM [0,1,2,3,4,5,6,7,8,9,10,11,12,13,14,15,16,17,18,19,20,21,22,23,24,25] [22] Wv (by kernel_rfl) ?_
  refine QK Qa Qa Qa (QC Qa Qa Qa (fun _=>(Ue underlying79 Qa Qa)) ?_)
  refine QK Qa Qa Qa (QC Qa Qa (Qs Qa Qa Qa) (fun _=>(Ev.gd (Xt Qa))) ?_)
  refine QC Qa Qa (Qs Qa Qa Qa) (fun _=>(Ev.gd (XC Qa))) ?_
  refine QC Qa Qa (Qs Qa Qa Qa) (fun _=>(Ev.gd (QV Qa HI))) ?_
  refine Q9 Qa Qa (Qs Qa Qa Qa) (Ev.gd (Qn Qa ZX (hS6.cell 0 Qa Qa))) (QC Qa Qa (Qs Qa Qa Qa) (fun _=>(Ev.gd (QV Qa Wr))) ?_)
  refine Q9 Qa Qa (Qs Qa Qa Qa) (Ev.gd (Qn Qa QF (hS6.cell 7 Qa Qa))) (Q9 Qa Qa (Qs Qa Qa Qa) (Ev.gd (JE (k:=m.a) 2 hS6 keysInt underlying89 Qa Qa Qa Wc (Y7 o.pages m.a))) (QC Qa Qa (Qs Qa Qa Qa) (fun _=>(Ev.gd (Ko CV Qa Qa))) ?_))
  refine QC Qa Qa (Qs Qa Qa Qa) (fun _=>(Ev.gd (QV Qa Jw))) ?_
  refine Q9 Qa Qa (Qs Qa Qa Qa) (Ev.gd (Qn Qa QF (hS6.cell 7 Qa Qa))) (QC Qa Qa (Qs Qa Qa Qa) (fun _=>(Ev.gd (MH Qa Qa))) ?_)
  refine QC Qa Qa Qa (fun _=>(XG Qa Qa Qa)) ?_
  refine QK Qa Qa Qa (Z1 31 Qa (fun h7=> ?_) (fun h7=> ?_))
  ·refine Q3 Qa Qa (Qu Qa Qa (Q8 h7)) (Q3 Qa Qa (Qu Qa Qa (Q8 h7)) (Q3 Qa Qa (Qu Qa Qa (Q8 h7)) (Q3 Qa Qa (WM Qa Qa) (Q3 Qa Qa (WM Qa Qa) (Q3 Qa Qa (WM Qa Qa) (VC.spineNot Qa Qa (WM Qa Qa) (Q3 Qa Qa (WM Qa Qa) (Q3 Qa Qa (Qu Qa Qa (Q8 h7)) (QC Qa Qa Qa (fun _=>(XG Qa (Q8 h7) Qa)) ?_)))))))))
   refine VC.nil (Qd (Qk [0,3,4,5,41] Qa (QO Qa ?_)))
   have hS8:=hS6.drew
   refine QM [0,1,2,3,4,5,6,7,8,9,10,11] [11] Wv (by kernel_rfl) ?_
   refine QK Qa Qa Qa (Xm Qa Qa Qa (QN Qa Qa Qa HI (Q9 Qa Qa Qa (Qn Qa ZX (hS8.cell 0 Qa Qa)) (QN Qa Qa Qa Wr (Q9 Qa Qa Qa (Qn Qa QF (hS8.cell 7 Qa Qa)) (QN Qa Qa Qa HH (Q9 Qa Qa Qa (Qn Qa Zr (hS8.cell 7 Qa Qa)) (QN Qa Qa Qa Jw (Q9 Qa Qa Qa (Qn Qa QF (hS8.cell 7 Qa Qa)) (QC Qa Qa Qa (fun _=>(ZY Qa YM U1 Wc Qa)) ?_))))))))))
   refine QS Qa Qa Qa Qa Qa Qa ?_
   refine Ze (k:=m.a) (v:=Rk ⟨m.data,m.b,0,false⟩) 2 hS8 keysInt underlying89 Qa Qa Qa Qa ?_
   intro w9 hS9; dsimp only[List.set]at hS9; rw[HX hOW.gs]at hS9
   refine Z6 (Xp (by kernel_rfl)) ?_
   refine VC.nil (Qd (Qk [0,3,4] Qa (Qg (Qb (Qc Qa Qa (Qh (Qd (Qo (Qm (Q5 (.inr Qa) Qa Qa ?_))))))))))
   exact⟨_,rfl, by rw[Gp (by omega) hj (FQ (by omega))]; exact(Sat.row_nil Z2 (Qv (E:={E with off:=some {o with pages:=XO m.a ⟨m.data,m.b,0,false⟩ o.pages}}) ((XV (o:={o with pages:=XO m.a ⟨m.data,m.b,0,false⟩ o.pages}) (hS9.pick [0,1,2,3,4,5,6,8] Qa)).reorder [1,2,3,4,0,5] Qa)))⟩
  refine QC Qa Qa (Qs Qa Qa (Qw h7)) (fun _=>(Ev.gd (Xt Qa))) ?_
  refine QC Qa Qa (Qs Qa Qa (Qw h7)) (fun _=>(Ev.gd (Ue underlying79 Qa Qa))) ?_
  refine QC Qa Qa (Qs Qa Qa (Qw h7)) (fun _=>(Ev.gd (Xt Qa))) ?_
  refine QC Qa Qa (Qs Qa Qa Qa) (fun _=>(Ev.gd (Xt Qa))) ?_
  refine QC Qa Qa (Qs Qa Qa Qa) (fun _=>(Ev.gd (QV Qa Wr))) ?_
  refine Q9 Qa Qa (Qs Qa Qa Qa) (Ev.gd (Qn Qa QF (hS6.cell 7 Qa Qa))) (QS Qa Qa (Qs Qa Qa Qa) Qa Qa Qa ?_)
  refine Qz LD Qa (OM (hS6.sp [0,2] Qa) m.a) Qa ?_
  rintro _ w10 ⟨rfl,hS10⟩
  replace hS10:=hS10.jn Qa Qa
  refine Xe (Xp (by kernel_rfl)) ?_
  refine QC Qa Qa (Qs Qa Qa Qa) (fun _=>(Ev.gd (Kn Qa))) ?_
  refine QC Qa Qa (Qs Qa Qa (Qw h7)) (fun _=>(Ev.gd (XG Qa Qa Qa))) ?_
  refine QC Qa Qa Qa (fun _=>(Xz Qa (Qw h7) Qa)) ?_
  refine VC.nil (Qd (Qk [0,3,4,5,41] Qa (Xb Qa (fun h11=> ?_) (fun h11=> ?_))))
  ·have hhas:=h11
   have hS12:=hS10.drew
   refine QM [0,1,2,3,4,5,6,7,8,9,10,11] [11] Wv (by kernel_rfl) ?_
   refine QK Qa Qa Qa (Xm Qa Qa Qa (QN Qa Qa Qa HI (Q9 Qa Qa Qa (Qn Qa ZX (hS12.cell 0 Qa Qa)) (QN Qa Qa Qa Wr (Q9 Qa Qa Qa (Qn Qa QF (hS12.cell 7 Qa Qa)) (QN Qa Qa Qa HH (Q9 Qa Qa Qa (Qn Qa Zr (hS12.cell 7 Qa Qa)) (QN Qa Qa Qa Jw (Q9 Qa Qa Qa (Qn Qa QF (hS12.cell 7 Qa Qa)) (QC Qa Qa Qa (fun _=>(ZY Qa YM U1 Wc Qa)) ?_))))))))))
   refine QS Qa Qa Qa Qa Qa Qa ?_
   refine Ze (k:=m.a) (v:=Rk ⟨m.data,m.b,0,false⟩) 1 hS12 keysInt underlying89 Qa Qa Qa Qa ?_
   intro w13 hS13; dsimp only[List.set]at hS13; rw[HX hOW.gs]at hS13
   refine Z6 (Xp (by kernel_rfl)) ?_
   refine VC.nil (Qd (Qk [0,3,4] Qa (Qg (Qb (Qc Qa Qa (Qh (Qd (Qo (Qm (Q5 (.inr Qa) Qa Qa ?_))))))))))
   exact⟨_,rfl, by rw[Gp (by omega) hj (FP (by simpa using hhas))]; exact(Sat.row_nil Z2 (Qv (E:={E with off:=some {o with pages:=XO m.a ⟨m.data,m.b,0,false⟩ o.pages}}) ((XV (o:={o with pages:=XO m.a ⟨m.data,m.b,0,false⟩ o.pages}) (hS13.pick [0,2,1,3,4,5,6,8] Qa)).reorder [1,2,3,4,0,5] Qa)))⟩
  have hhas:=h11
  refine Qr (Qd (Qg (Qb (Qc Qa Qa (Qh (Qd (Qo (Qm (Q5 (.inr Qa) Qa Qa ?_)))))))))
  exact⟨_,rfl, by rw[P6 (by omega) hj (AI (by omega) (by simpa using hhas))]; exact(Sat.row_nil Z2 (Qv (E:={E with off:=some o}) ((XV (o:=o) (hS10.pick [0,2,1,3,4,5,6,8] Qa)).reorder [1,2,3,4,0,5] Qa)))⟩
 refine Qr (Qd (Qg (Qg ?_)))
 have hS14:=hS1.drew
 refine QM [0,1,2,3,4,5,6,7,8,9,10,11,12,13,14,15,16,17,18,19] [] Wv (by kernel_rfl) ?_
 refine QN Qa Qa Qa ZB (Q9 Qa Qa Qa (Qn Qa QF (hS14.cell 0 Qa Qa)) (QK Qa Qa Qa (Xm Qa Qa Qa (QN Qa Qa Qa W5 (Q9 Qa Qa Qa (Qn Qa QF (hS14.cell 1 Qa Qa)) (QC Qa Qa Qa (fun _=>(JF Qa Qa)) ?_))))))
 refine QK Qa Qa Qa (Z1 60 Qa (fun h15=> ?_) (fun h15=> ?_))
 ·refine Q3 Qa Qa (Qu Qa Qa (Q8 h15)) (Q3 Qa Qa (Qu Qa Qa (Q8 h15)) (Q3 Qa Qa (Qu Qa Qa (Q8 h15)) (Q3 Qa Qa (Qu Qa Qa (Q8 h15)) (Q3 Qa Qa (Qu Qa Qa (Q8 h15)) (QC Qa Qa Qa (fun _=>(XG Qa (Q8 h15) Qa)) ?_)))))
  refine QK Qa Qa Qa (Q3 Qa Qa (Qu Qa Qa Qa) (Q3 Qa Qa (Qu Qa Qa Qa) (Q3 Qa Qa (Qu Qa Qa Qa) (Q3 Qa Qa (Qu Qa Qa Qa) (QC Qa Qa Qa (fun _=>(XG Qa Qa Qa)) ?_)))))
  refine VC.nil (Qd (Qk [0,3,4,72] Qa (QO Qa (Qg (Qb (Qc Qa Qa (Qh (Qd (Qo (Qm (Q5 (.inr Qa) Qa Qa ?_)))))))))))
  exact⟨_,rfl, by rw[P5 (by omega) hq_s]; exact(Sat.row_nil Z2 (Qv (E:=E) (by rw[hq_s]; exact((ZQ hS14).pick [2,3,4,0,5,6] Qa))))⟩
 refine QC Qa Qa (Qs Qa Qa (Qw h15)) (fun _=>(Ev.gd (Xt Qa))) ?_
 refine QC Qa Qa (Qs Qa Qa (Qw h15)) (fun _=>(Ev.gd (XC Qa))) ?_
 refine QC Qa Qa (Qs Qa Qa (Qw h15)) (fun _=>(Ev.gd (QV Qa Xo))) ?_
 refine Q9 Qa Qa (Qs Qa Qa (Qw h15)) (Ev.gd (Qn Qa Z3 (hS14.cell 1 Qa Qa))) (QC Qa Qa (Qs Qa Qa (Qw h15)) (fun _=>(Ev.gd (VD underlying78 Qa Qa))) ?_)
 refine QC Qa Qa Qa (fun _=>(Xz Qa (Qw h15) Qa)) ?_
 refine QK Qa Qa Qa (Q3 Qa Qa (Qu Qa Qa Qa) (Q3 Qa Qa (Qu Qa Qa Qa) (Q3 Qa Qa (Qu Qa Qa Qa) (Q3 Qa Qa (Qu Qa Qa Qa) (QC Qa Qa Qa (fun _=>(XG Qa Qa Qa)) ?_)))))
 refine VC.nil (Qd (Qk [0,3,4,72] Qa (QO Qa (Qg (Qb (Qc Qa Qa (Qh (Qd (Qo (Qm (Q5 (.inr Qa) Qa Qa ?_)))))))))))
 exact⟨_,rfl, by rw[P5 (by omega) hq_s]; exact(Sat.row_nil Z2 (Qv (E:=E) (by rw[hq_s]; exact((ZQ hS14).pick [2,3,4,0,5,6] Qa))))⟩
theorem Fh {w:World} {e:Nat} {E:EnD} {F:Th} (hS:Sat w [Xu e E,F]) (m:MsD) (hW:EW E) (hm:MsW m) {s:SeD} (hq_s:E.ses=some s):
    Calls prog 70 #[ptrV e 0,.agg #[intV m.kind,intV m.move,intV m.a,intV m.b,strV m.data]] w (Ret fun v w'=>Sat w' [rowT Z2 v [],Xu e (X6 E m),F]):= by
 obtain⟨dp,cv,sv,ov,hS⟩:=QQ hS
 rw[hq_s]at hS
 obtain⟨sb,sm,rfl,hS⟩:=Zj (hS.reorder [3,0,1,2,4,5] rfl)
 refine Qx func70 Qa ntmps70 Qa ?_
 refine Qg (Qb (XT hS Qa Qa Qa ?_))
 intro mp w1 hS1
 replace hS1:Sat w1 (QR mp [intV m.kind,intV m.move,intV m.a,intV m.b,strV m.data]::_):=hS1
 refine Qc Qa Qa (Qh (Qd (Qg (Qg (Qb (Qe Qa Qa (Ql Qa Qa (Qi Qa Zv Qa (Qq Qa QF (hS1.cell 3 Qa Qa) Qa (Xr Qa Qa Qa (Qh (Qd (Qt Qa (fun h2=> ?_) (fun h2=> ?_))))))))))))))
 ·refine Qg (Qg ?_)
  have hS3:=Qv (E:=E) (by rw[hq_s]; exact((Xf (hS1.pick [1,2,0,3,4,5,6,7] Qa)).pick [2,3,4,0,5,1,6] Qa))
  refine Qb (Qe Qa Qa (Qi Qa ZB Qa (Qq Qa QF (hS3.cell 1 Qa Qa) Qa (Hw N1 Qa (CK (hS3.sp [0] Qa) m.move) Qa ?_))))
  rintro e w4 ⟨_,rfl,(⟨hj,rfl,hS4⟩ | ⟨o,ob,om,on,dp1,cv1,sv1,hj,rfl,hS4⟩)⟩
  ·refine⟨_,Qa, ?_⟩
   replace hS4:=hS4.jn Qa Qa
   refine Qc Qa Qa (Qh (Qd (Qk [0,3,4,5] Qa (Qg ?_))))
   have hS5:=hS4.drew
   refine QM [0,1,2,3,4,5,6,7,8,9,10,11,12,13,14,15,16,17,18,19,20,21,22,23,24,25] [22] Wv (by kernel_rfl) ?_
   refine QK Qa Qa Qa (QC Qa Qa Qa (fun _=>(Yi underlying79 Qa Qa)) ?_)
   refine QK Qa Qa Qa (Q3 Qa Qa (Qu Qa Qa Qa) (Q3 Qa Qa (Qu Qa Qa Qa) (Q3 Qa Qa (Qu Qa Qa Qa) (Q3 Qa Qa (Qu Qa Qa Qa) (Q3 Qa Qa (Qu Qa Qa Qa) (Q3 Qa Qa (Qu Qa Qa Qa) (Q3 Qa Qa (Qu Qa Qa Qa) (Q3 Qa Qa (Qu Qa Qa Qa) (Q3 Qa Qa (Qu Qa Qa Qa) (Q3 Qa Qa (Qu Qa Qa Qa) (Q3 Qa Qa (Qu Qa Qa Qa) (QC Qa Qa Qa (fun _=>(Xz Qa Qa Qa)) ?_))))))))))))
   refine QK Qa Qa Qa (QC Qa Qa (Qs Qa Qa Qa) (fun _=>(Ev.gd (Xt Qa))) ?_)
   refine QC Qa Qa (Qs Qa Qa Qa) (fun _=>(Ev.gd (Yi underlying79 Qa Qa))) ?_
   refine QC Qa Qa (Qs Qa Qa Qa) (fun _=>(Ev.gd (Xt Qa))) ?_
   refine Q3 Qa Qa (Qu Qa Qa Qa) (Q3 Qa Qa (Qu Qa Qa Qa) (Q3 Qa Qa (Qu Qa Qa Qa) (VC.spineNot Qa Qa (Qu Qa Qa Qa) (Q3 Qa Qa (Qu Qa Qa Qa) (QC Qa Qa (Qs Qa Qa Qa) (fun _=>(Ev.gd (Xz Qa Qa Qa))) ?_)))))
   refine QC Qa Qa Qa (fun _=>(Xz Qa Qa Qa)) ?_
   refine VC.nil (Qd (Qk [0,3,4,5,41] Qa (QI Qa (Qr (Qd (Qg (Qb (Qc Qa Qa (Qh (Qd (Qo (Qm (Q5 (.inr Qa) Qa Qa ?_)))))))))))))
   exact⟨_,rfl, by rw[P7 (by omega) hj]; exact(Sat.row_nil Z2 (hS5.pick [0,2] Qa))⟩
  refine⟨_,Qa, ?_⟩
  replace hS4:=hS4.jn Qa Qa
  have hOW:=(V9 hW hm.mv hj).1
  dsimp only[Pm]at hS4
  refine Qc Qa Qa (Qh (Qd (Qk [0,3,4,5] Qa (Qg ?_))))
  have hS6:=hS4.drew
  refine QM [0,1,2,3,4,5,6,7,8,9,10,11,12,13,14,15,16,17,18,19,20,21,22,23,24,25] [22] Wv (by kernel_rfl) ?_
  refine QK Qa Qa Qa (QC Qa Qa Qa (fun _=>(Ue underlying79 Qa Qa)) ?_)
  refine QK Qa Qa Qa (QC Qa Qa (Qs Qa Qa Qa) (fun _=>(Ev.gd (Xt Qa))) ?_)
  refine QC Qa Qa (Qs Qa Qa Qa) (fun _=>(Ev.gd (XC Qa))) ?_
  refine QC Qa Qa (Qs Qa Qa Qa) (fun _=>(Ev.gd (QV Qa HI))) ?_
  refine Q9 Qa Qa (Qs Qa Qa Qa) (Ev.gd (Qn Qa ZX (hS6.cell 0 Qa Qa))) (QC Qa Qa (Qs Qa Qa Qa) (fun _=>(Ev.gd (QV Qa Wr))) ?_)
  refine Q9 Qa Qa (Qs Qa Qa Qa) (Ev.gd (Qn Qa QF (hS6.cell 7 Qa Qa))) (Q9 Qa Qa (Qs Qa Qa Qa) (Ev.gd (JE (k:=m.a) 2 hS6 keysInt underlying89 Qa Qa Qa Wc (Y7 o.pages m.a))) (QC Qa Qa (Qs Qa Qa Qa) (fun _=>(Ev.gd (Ko CV Qa Qa))) ?_))
  refine QC Qa Qa (Qs Qa Qa Qa) (fun _=>(Ev.gd (QV Qa Jw))) ?_
  refine Q9 Qa Qa (Qs Qa Qa Qa) (Ev.gd (Qn Qa QF (hS6.cell 7 Qa Qa))) (QC Qa Qa (Qs Qa Qa Qa) (fun _=>(Ev.gd (MH Qa Qa))) ?_)
  refine QC Qa Qa Qa (fun _=>(XG Qa Qa Qa)) ?_
  refine QK Qa Qa Qa (Z1 31 Qa (fun h7=> ?_) (fun h7=> ?_))
  ·refine Q3 Qa Qa (Qu Qa Qa (Q8 h7)) (Q3 Qa Qa (Qu Qa Qa (Q8 h7)) (Q3 Qa Qa (Qu Qa Qa (Q8 h7)) (Q3 Qa Qa (WM Qa Qa) (Q3 Qa Qa (WM Qa Qa) (Q3 Qa Qa (WM Qa Qa) (VC.spineNot Qa Qa (WM Qa Qa) (Q3 Qa Qa (WM Qa Qa) (Q3 Qa Qa (Qu Qa Qa (Q8 h7)) (QC Qa Qa Qa (fun _=>(XG Qa (Q8 h7) Qa)) ?_)))))))))
   refine VC.nil (Qd (Qk [0,3,4,5,41] Qa (QO Qa ?_)))
   have hS8:=hS6.drew
   refine QM [0,1,2,3,4,5,6,7,8,9,10,11] [11] Wv (by kernel_rfl) ?_
   refine QK Qa Qa Qa (Xm Qa Qa Qa (QN Qa Qa Qa HI (Q9 Qa Qa Qa (Qn Qa ZX (hS8.cell 0 Qa Qa)) (QN Qa Qa Qa Wr (Q9 Qa Qa Qa (Qn Qa QF (hS8.cell 7 Qa Qa)) (QN Qa Qa Qa HH (Q9 Qa Qa Qa (Qn Qa Zr (hS8.cell 7 Qa Qa)) (QN Qa Qa Qa Jw (Q9 Qa Qa Qa (Qn Qa QF (hS8.cell 7 Qa Qa)) (QC Qa Qa Qa (fun _=>(ZY Qa YM U1 Wc Qa)) ?_))))))))))
   refine QS Qa Qa Qa Qa Qa Qa ?_
   refine Ze (k:=m.a) (v:=Rk ⟨m.data,m.b,0,false⟩) 2 hS8 keysInt underlying89 Qa Qa Qa Qa ?_
   intro w9 hS9; dsimp only[List.set]at hS9; rw[HX hOW.gs]at hS9
   refine Z6 (Xp (by kernel_rfl)) ?_
   refine VC.nil (Qd (Qk [0,3,4] Qa (Qg (Qb (Qc Qa Qa (Qh (Qd (Qo (Qm (Q5 (.inr Qa) Qa Qa ?_))))))))))
   exact⟨_,rfl, by rw[Gp (by omega) hj (FQ (by omega))]; exact(Sat.row_nil Z2 (Qv (E:={E with off:=some {o with pages:=XO m.a ⟨m.data,m.b,0,false⟩ o.pages}}) ((XV (o:={o with pages:=XO m.a ⟨m.data,m.b,0,false⟩ o.pages}) (hS9.pick [0,1,2,3,4,5,6,8] Qa)).reorder [1,2,3,4,0,5] Qa)))⟩
  refine QC Qa Qa (Qs Qa Qa (Qw h7)) (fun _=>(Ev.gd (Xt Qa))) ?_
  refine QC Qa Qa (Qs Qa Qa (Qw h7)) (fun _=>(Ev.gd (Ue underlying79 Qa Qa))) ?_
  refine QC Qa Qa (Qs Qa Qa (Qw h7)) (fun _=>(Ev.gd (Xt Qa))) ?_
  refine QC Qa Qa (Qs Qa Qa Qa) (fun _=>(Ev.gd (Xt Qa))) ?_
  refine QC Qa Qa (Qs Qa Qa Qa) (fun _=>(Ev.gd (QV Qa Wr))) ?_
  refine Q9 Qa Qa (Qs Qa Qa Qa) (Ev.gd (Qn Qa QF (hS6.cell 7 Qa Qa))) (QS Qa Qa (Qs Qa Qa Qa) Qa Qa Qa ?_)
  refine Qz LD Qa (OM (hS6.sp [0,2] Qa) m.a) Qa ?_
  rintro _ w10 ⟨rfl,hS10⟩
  replace hS10:=hS10.jn Qa Qa
  refine Xe (Xp (by kernel_rfl)) ?_
  refine QC Qa Qa (Qs Qa Qa Qa) (fun _=>(Ev.gd (Kn Qa))) ?_
  refine QC Qa Qa (Qs Qa Qa (Qw h7)) (fun _=>(Ev.gd (XG Qa Qa Qa))) ?_
  refine QC Qa Qa Qa (fun _=>(Xz Qa (Qw h7) Qa)) ?_
  refine VC.nil (Qd (Qk [0,3,4,5,41] Qa (Xb Qa (fun h11=> ?_) (fun h11=> ?_))))
  ·have hhas:=h11
   have hS12:=hS10.drew
   refine QM [0,1,2,3,4,5,6,7,8,9,10,11] [11] Wv (by kernel_rfl) ?_
   refine QK Qa Qa Qa (Xm Qa Qa Qa (QN Qa Qa Qa HI (Q9 Qa Qa Qa (Qn Qa ZX (hS12.cell 0 Qa Qa)) (QN Qa Qa Qa Wr (Q9 Qa Qa Qa (Qn Qa QF (hS12.cell 7 Qa Qa)) (QN Qa Qa Qa HH (Q9 Qa Qa Qa (Qn Qa Zr (hS12.cell 7 Qa Qa)) (QN Qa Qa Qa Jw (Q9 Qa Qa Qa (Qn Qa QF (hS12.cell 7 Qa Qa)) (QC Qa Qa Qa (fun _=>(ZY Qa YM U1 Wc Qa)) ?_))))))))))
   refine QS Qa Qa Qa Qa Qa Qa ?_
   refine Ze (k:=m.a) (v:=Rk ⟨m.data,m.b,0,false⟩) 1 hS12 keysInt underlying89 Qa Qa Qa Qa ?_
   intro w13 hS13; dsimp only[List.set]at hS13; rw[HX hOW.gs]at hS13
   refine Z6 (Xp (by kernel_rfl)) ?_
   refine VC.nil (Qd (Qk [0,3,4] Qa (Qg (Qb (Qc Qa Qa (Qh (Qd (Qo (Qm (Q5 (.inr Qa) Qa Qa ?_))))))))))
   exact⟨_,rfl, by rw[Gp (by omega) hj (FP (by simpa using hhas))]; exact(Sat.row_nil Z2 (Qv (E:={E with off:=some {o with pages:=XO m.a ⟨m.data,m.b,0,false⟩ o.pages}}) ((XV (o:={o with pages:=XO m.a ⟨m.data,m.b,0,false⟩ o.pages}) (hS13.pick [0,2,1,3,4,5,6,8] Qa)).reorder [1,2,3,4,0,5] Qa)))⟩
  have hhas:=h11
  refine Qr (Qd (Qg (Qb (Qc Qa Qa (Qh (Qd (Qo (Qm (Q5 (.inr Qa) Qa Qa ?_)))))))))
  exact⟨_,rfl, by rw[P6 (by omega) hj (AI (by omega) (by simpa using hhas))]; exact(Sat.row_nil Z2 (Qv (E:={E with off:=some o}) ((XV (o:=o) (hS10.pick [0,2,1,3,4,5,6,8] Qa)).reorder [1,2,3,4,0,5] Qa)))⟩
 refine Qr (Qd (Qg (Qg ?_)))
 have hS14:=hS1.drew
 refine QM [0,1,2,3,4,5,6,7,8,9,10,11,12,13,14,15,16,17,18,19] [] Wv (by kernel_rfl) ?_
 refine QN Qa Qa Qa ZB (Q9 Qa Qa Qa (Qn Qa QF (hS14.cell 0 Qa Qa)) (QK Qa Qa Qa (Xm Qa Qa Qa (QN Qa Qa Qa W5 (Q9 Qa Qa Qa (Qn Qa QF (hS14.cell 3 Qa Qa)) (QC Qa Qa Qa (fun _=>(JF Qa Qa)) ?_))))))
 refine QK Qa Qa Qa (Z1 60 Qa (fun h15=> ?_) (fun h15=> ?_))
 ·refine Q3 Qa Qa (Qu Qa Qa (Q8 h15)) (Q3 Qa Qa (Qu Qa Qa (Q8 h15)) (Q3 Qa Qa (Qu Qa Qa (Q8 h15)) (Q3 Qa Qa (Qu Qa Qa (Q8 h15)) (Q3 Qa Qa (Qu Qa Qa (Q8 h15)) (QC Qa Qa Qa (fun _=>(XG Qa (Q8 h15) Qa)) ?_)))))
  refine QK Qa Qa Qa (Q3 Qa Qa (Qu Qa Qa Qa) (Q3 Qa Qa (Qu Qa Qa Qa) (Q3 Qa Qa (Qu Qa Qa Qa) (Q3 Qa Qa (Qu Qa Qa Qa) (QC Qa Qa Qa (fun _=>(XG Qa Qa Qa)) ?_)))))
  refine VC.nil (Qd (Qk [0,3,4,72] Qa (QO Qa (Qg (Qb (Qc Qa Qa (Qh (Qd (Qo (Qm (Q5 (.inr Qa) Qa Qa ?_)))))))))))
  exact⟨_,rfl, by rw[P4 (by omega) hq_s (by omega)]; exact(Sat.row_nil Z2 (Qv (E:=E) (by rw[hq_s]; exact((Xf (hS14.pick [1,2,0,3,4,5,6,7] Qa)).pick [2,3,4,0,5,6] Qa))))⟩
 refine QC Qa Qa (Qs Qa Qa (Qw h15)) (fun _=>(Ev.gd (Xt Qa))) ?_
 refine QC Qa Qa (Qs Qa Qa (Qw h15)) (fun _=>(Ev.gd (XC Qa))) ?_
 refine QC Qa Qa (Qs Qa Qa (Qw h15)) (fun _=>(Ev.gd (QV Qa Xo))) ?_
 refine Q9 Qa Qa (Qs Qa Qa (Qw h15)) (Ev.gd (Qn Qa Z3 (hS14.cell 3 Qa Qa))) (QC Qa Qa (Qs Qa Qa (Qw h15)) (fun _=>(Ev.gd (Bw underlying78 Qa Qa))) ?_)
 refine QC Qa Qa Qa (fun _=>(Xz Qa (Qw h15) Qa)) ?_
 refine QK Qa Qa Qa (QC Qa Qa (Qs Qa Qa Qa) (fun _=>(Ev.gd (QV Qa HH))) ?_)
 refine Q9 Qa Qa (Qs Qa Qa Qa) (Ev.gd (Qn Qa Zr (hS14.cell 0 Qa Qa))) (QC Qa Qa (Qs Qa Qa Qa) (fun _=>(Ev.gd (G7 underlying9 Qa))) ?_)
 refine QC Qa Qa (Qs Qa Qa Qa) (fun _=>(Ev.gd (JF Qa Qa))) ?_
 refine QC Qa Qa Qa (fun _=>(Xz Qa Qa Qa)) ?_
 refine VC.nil (Qd (Qk [0,3,4,72] Qa (Qt Qa (fun h16=> ?_) (fun h16=> ?_))))
 ·refine Qg (Qb (Qc Qa Qa (Qh (Qd (Qo (Qm (Q5 (.inr Qa) Qa Qa ?_)))))))
  exact⟨_,rfl, by rw[P4 (by omega) hq_s (by omega)]; exact(Sat.row_nil Z2 (Qv (E:=E) (by rw[hq_s]; exact((Xf (hS14.pick [1,2,0,3,4,5,6,7] Qa)).pick [2,3,4,0,5,6] Qa))))⟩
 refine Qr (Qd (Qg (Qg ?_)))
 have hS17:=hS14.drew
 refine QM [0,1,2,3,4,5,6,7,8,9,10,11] [10,11] Wv (by kernel_rfl) ?_
 refine QK Qa Qa Qa (Xm Qa Qa Qa (QN Qa Qa Qa Xo (Q9 Qa Qa Qa (Qn Qa Z3 (hS17.cell 3 Qa Qa)) (Xm Qa Qa Qa (QN Qa Qa Qa ZF (Q9 Qa Qa Qa (Qn Qa ZX (hS17.cell 1 Qa Qa)) (QN Qa Qa Qa Wr (Q9 Qa Qa Qa (Qn Qa QF (hS17.cell 0 Qa Qa)) (Q9 Qa Qa Qa (JE (k:=m.a) 2 hS17 keysInt underlying89 Qa Qa Qa Wc (Y7 s.pages m.a)) (QS Qa Qa Qa Qa Qa Qa ?_))))))))))
 refine Xl hS17 Wc Qa Qa ?_
 intro b18 w18 hS18
 refine Xe (.cons (.inl ⟨Qa,(JE (k:=m.a) 3 hS18 keysInt underlying89 Qa Qa Qa Wc (Y7 s.pages m.a))⟩) (.cons (.inl ⟨Qa,(Qn Qa QF (hS18.cell 1 Qa Qa))⟩) (.cons (.inl ⟨Qa,(Qn Qa ZX (hS18.cell 2 Qa Qa))⟩) (.cons (.inl ⟨Qa,(Qn Qa Z3 (hS18.cell 4 Qa Qa))⟩) .nil)))) (QS Qa Qa Qa Qa Qa Qa ?_)
 (refine QZ hS18 Qa Qa Vf Qa (by rfl) (i:=0) Qa (by decide) ?_)
 intro w19 hS20; dsimp only[List.set]at hS20
 refine Z6 (Xp (by kernel_rfl)) ?_
 refine VC.nil (Qd (Qk [0,3,4,6] Qa (Qg (Qb (Qi Qa CW Qa (Qq Qa JG (hS20.cell 0 Qa Qa) Qa (Qe Qa Qa (Z4 85 Qa (fun h21=> ?_) (fun h21=> ?_)))))))))
 ·have hms:(VR (QT s.pages m.a)).miss=true:= by simpa using h21
  refine Qj Qa Qa h21 (Qi Qa UK Qa (Qj Qa Qa h21 (Qq Qa QF (by first | exact hS20.cell 0 Qa Qa | exact hS20.cell 1 Qa Qa) Qa ?_)))
  refine Qj Qa Qa h21 (Qi Qa Jw Qa (Qj Qa Qa h21 (Qq Qa QF (by first | exact hS20.cell 0 Qa Qa | exact hS20.cell 1 Qa Qa) Qa ?_)))
  refine Qj Qa Qa h21 (QL Qa Qa Qa (Q0 Qa h21 Qa Qa (Qh (Qd (Qk [0,3,4,6,91] Qa (Qt Qa (fun h22=> ?_) (fun h22=> ?_)))))))
  ·refine Qg ?_
   have hS23:=hS20.drew
   refine QM [0,1,2,3,4,5] [3,5] Wv (by kernel_rfl) ?_
   refine QN Qa Qa Qa HH (Q9 Qa Qa Qa (Qn Qa Zr (hS23.cell 1 Qa Qa)) (QN Qa Qa Qa CW (QS Qa Qa Qa Qa Qa Qa ?_)))
   (refine Q7 hS23 Qa Qa Jd (by rfl) (i:=0) Qa (Xd Qa) ?_)
   intro w24 hS25; dsimp only[List.set]at hS25
   refine Z6 (.cons (.inl ⟨Qa,(Qn Qa Zr (hS25.cell 1 Qa Qa))⟩) .nil) (QN Qa Qa Qa KN (QS Qa Qa Qa Qa Qa Qa ?_))
   (refine Q7 hS25 Qa Qa R2 (by rfl) (i:=0) Qa (Xd Qa) ?_)
   intro w26 hS27; dsimp only[List.set]at hS27
   refine Z6 (Xp (by kernel_rfl)) ?_
   refine VC.nil (Qd ?_)
   have hS28:=hS27.drew
   refine QM [0,1,2,3,4,5,6,7,8,9,10] [10] Wv (by kernel_rfl) ?_
   refine QK Qa Qa Qa (Xm Qa Qa Qa (QN Qa Qa Qa Xo (Q9 Qa Qa Qa (Qn Qa Z3 (hS28.cell 4 Qa Qa)) (Xm Qa Qa Qa (QN Qa Qa Qa ZF (Q9 Qa Qa Qa (Qn Qa ZX (hS28.cell 2 Qa Qa)) (QN Qa Qa Qa Wr (Q9 Qa Qa Qa (Qn Qa QF (hS28.cell 1 Qa Qa)) (Q9 Qa Qa Qa (Ws Qa IV Vf (hS28.blk 0 Qa) (Xd Qa) Qa) (QS Qa Qa Qa Qa Qa Qa ?_))))))))))
   refine Ze (k:=m.a) (v:=Rk {(VR (QT s.pages m.a))with miss:=false,data:=m.data}) 3 hS28 keysInt underlying89 Qa Qa Qa Qa ?_
   intro w29 hS29; dsimp only[List.set]at hS29; rw[HX (hW.ses s hq_s).srt]at hS29
   refine Z6 (Xp (by kernel_rfl)) ?_
   refine VC.nil (Qd (Qk [4] Qa (Qg (Qb (Qc Qa Qa (Qh (Qd (Qo (Q5 (.inr Qa) Qa Qa ?_)))))))))
   exact⟨_,rfl, by rw[OK (by omega) hq_s (by omega) (Oo hms) ⟨hms, by omega⟩]; exact(Sat.row_nil Z2 (Qv (E:={E with ses:=some {s with pages:=XO m.a {(VR (QT s.pages m.a))with miss:=false,data:=m.data} s.pages}}) ((Xf (s:={s with pages:=XO m.a {(VR (QT s.pages m.a))with miss:=false,data:=m.data} s.pages}) (hS29.pick [2,3,4,5,6,7,8] Qa)).reorder [1,2,3,0,4,5] Qa)))⟩
  refine Qr (Qd (Qg (Qb (Qc Qa Qa (Qh (Qd (Qo (Q5 (.inr Qa) Qa Qa ?_))))))))
  exact⟨_,rfl, by rw[P3 (by omega) hq_s (by omega) (by rintro⟨q1,q2⟩;first | (rw[q1]at hms; cases hms;done) | omega)]; exact(Sat.row_nil Z2 (Qv (E:=E) (by rw[hq_s]; exact((Xf (hS20.pick [2,3,0,1,4,5,6,7,8] rfl)).pick [3,4,5,0,6,7] rfl))))⟩
 have hms:(VR (QT s.pages m.a)).miss=false:= by simpa using h21
 refine Qf Qa Qa h21 Qa (Qf Qa Qa h21 Qa (Qf Qa Qa h21 Qa (Qf Qa Qa h21 Qa (Qf Qa Qa h21 Qa (Q1 Qa h21 Qa Qa (Qh (Qd (Qk [0,3,4,6,91] Qa (QI Qa (Qr (Qd (Qg (Qb (Qc Qa Qa (Qh (Qd (Qo (Q5 (.inr Qa) Qa Qa ?_))))))))))))))))))
 exact⟨_,rfl, by rw[P3 (by omega) hq_s (by omega) (by rintro⟨q1,q2⟩;first | (rw[q1]at hms; cases hms;done) | omega)]; exact(Sat.row_nil Z2 (Qv (E:=E) (by rw[hq_s]; exact((Xf (hS20.pick [2,3,0,1,4,5,6,7,8] rfl)).pick [3,4,5,0,6,7] rfl))))⟩
theorem P9 {w:World} {e:Nat} {E:EnD} {F:Th} (hS:Sat w [Xu e E,F]) (m:MsD) (hW:EW E) (hm:MsW m):
    Calls prog 70 #[ptrV e 0,.agg #[intV m.kind,intV m.move,intV m.a,intV m.b,strV m.data]] w (Ret fun v w'=>Sat w' [rowT Z2 v [],Xu e (X6 E m),F]):= by
  cases hs:E.ses with
  | none=> exact Fi hS m hW hm hs
  | some s=> exact Fh hS m hW hm hs
end Go.Proofs.YtiibgheijbbmaaaGreatDoor
namespace Go.Proofs.YtiibgheijbbmaaaGreatDoor.M
open Go.RowKit Proofs.Tryz
theorem AS {α:Type} {l:List α} {i:Nat} {a:α} (h:l[i]? =some a):l.set i a=l:= by
  apply List.ext_getElem?
  intro j
  by_cases e:i=j
  · subst e; rw[List.getElem?_set_self (Jh h).1,h]
  · rw[List.getElem?_set_ne e]
def GH (e:Nat) (v:Value) (bs:List UInt8):Th where
  at_:= fun w F=>(F= fun k=>v.ownBlock=some k)∧((v= .slice none 0 0∧bs=[])∨ ∃g cap cur fz,v= .slice (some ⟨g,0,none⟩) bs.length cap∧bs≠[]∧cap≠0∧w.heap[g]? =some (.cells cur e fz)∧bs.length≤cur.size∧cur.toList.take bs.length=byC.cells bs)
  fr:= fun {w w' F} a ⟨e1,h⟩=>⟨e1, by
    rcases h with h | ⟨g,cap,cur,fz,h1,h2,h3,h4,h5⟩
    · exact .inl h
    · exact .inr ⟨g,cap,cur,fz,h1,h2,h3, by rw[a.blk _ (by rw[e1,h1];rfl)]; exact h4,h5⟩⟩
  lt:= fun {w F} ⟨e1,h⟩ k hk=> by
    rw[e1]at hk
    rcases h with⟨rfl,_⟩ | ⟨g,cap,cur,fz,rfl,_,_,h4,_⟩
    · simp [Value.ownBlock]at hk
    · simp only[Value.ownBlock,Option.some.injEq]at hk
      subst hk
      rcases Nat.lt_or_ge g w.heap.size with q | q
      · exact q
      · rw[Array.getElem?_eq_none q]at h4; cases h4
section
variable {P:Program} {n:Nat} {ops:Array Oper} {Q:Exit→Act→World→Prop} {rest:List Oper} {L:Env} {w:World} {d:Nat} {ty:TypeId} {pos:String} {aft:Array Edge} {As:List Th} {T e b:Nat} {cs:List Value}
theorem Sat.bufZ_of {v:Value} {bs:List UInt8} (h:Sat w (B4 e v bs::As)):Sat w (GH e v bs::As):= by
  obtain⟨F,F1,F2,rfl,dj,⟨e1,⟨hl,h1⟩,hn⟩,h2⟩:=h
  refine⟨_,F1,F2,Qa,dj,⟨e1, ?_⟩,h2⟩
  by_cases h0:bs=[]
  · exact .inl ⟨hn h0,h0⟩
  · rcases h1 with⟨_,h3⟩ | ⟨g,cap,cur,rfl,_,h3,h4,_,h6,h7⟩
    · exact absurd (List.eq_nil_of_length_eq_zero h3) h0
    · have hp:0<bs.length:=List.length_pos_iff.2 h0
      exact .inr ⟨g,cap,cur,(0,0),rfl,h0, by omega,h3, by omega, by rw[Nat.mul_one]at h7; exact h7⟩
theorem Sat.bufZv (h:Sat w As) (i:Nat) {v:Value} {bs:List UInt8} (hi:As[i]? =some (GH e v bs)): ∃ao cap,v= .slice ao bs.length cap∧v.oneCell'=true∧(ao=none∨cap≠0):= by
  obtain⟨F,_,h⟩:=h.get i hi
  rcases h with⟨rfl,rfl⟩ | ⟨g,cap,cur,fz,rfl,_,h3,_⟩
  · exact⟨none,0,Qa,Qa,.inl Qa⟩
  · exact⟨_,cap,Qa,Qa,.inr h3⟩
theorem GS {ao:Option Addr} {cap pt it:Nat} {bs:List UInt8} {x y:Operand} (i:Nat) (hS:Sat w As) (hi:As[i]? =some (GH e (.slice ao bs.length cap) bs)) (hx:look L x=some (.pointer ao)) (hy:look L y=some (.int .i64 (bs.length:Int))) (hp:P.underlying pt=some (.pointer e)) (hc:P.cellsOf e=1) (hlen:bs.length≤9223372036854775807) (hd:Nat.blt d n=true)
    (hk: ∀w',Sat w' As→wl P n ops Q rest ((d,strV bs)::L) w'):wl P n ops Q (⟨some d,.call ⟨.builtin .unsafeString, #[x,y], #[pt,it]⟩,ty,pos,aft,none⟩::rest) L w:= by
  have hg: ∃w',(Builtin.unsafeString_ #[pt,it] ty #[.pointer ao,.int .i64 bs.length]).run P w= .ok (strV bs) w'∧Sat w' As:= by
    obtain⟨F,e1,h⟩:=hS.get i hi
    rcases h with⟨hv,rfl⟩ | ⟨g,cap',cur,fz,hv,h0,_,hgb,h5,h6⟩
    · simp only[Value.slice.injEq,List.length_nil,true_and]at hv
      obtain⟨rfl,_⟩:=hv
      exact⟨w,Lib.run_unsafeString_none w pt it ty none,hS⟩
    · simp only[Value.slice.injEq,true_and]at hv
      obtain⟨rfl,rfl⟩:=hv
      refine⟨w.freeze ⟨g,0,none⟩ bs.length,Lib.run_unsafeString_row w pt it ty e hp hc g cur.size (by simp [World.shape?,hgb]) bs h0 (by omega) hlen ?_, ?_⟩
      · intro j c hj
        rw[Wu]
        simp only[Nat.zero_add]
        rw[Lib.cell_of_heap hgb]
        have hj':=(Jh hj).1
        have :(byC.cells bs)[j]? =some (.int .u8 (c.toNat:Int)):= by
          have :=RowC.cells_at (C:=byC) (l:=bs) (j:=j) hj
          have h3:=congrArg (fun q=>q[0]?) this
          simpa [byC,List.getElem?_take,List.getElem?_drop]using h3
        rw[←h6,List.getElem?_take,if_pos hj']at this
        simpa using this
      · have hlt:g<w.heap.size:= by
          rcases Nat.lt_or_ge g w.heap.size with q | q
          · exact q
          · rw[Array.getElem?_eq_none q]at hgb; cases hgb
        have hne:bs.length≠0:= fun q=>h0 (List.eq_nil_of_length_eq_zero q)
        have hfz: ∃fz',(w.freeze ⟨g,0,none⟩ bs.length).heap[g]? =some (.cells cur e fz'):= by
          unfold World.freeze
          rw[if_neg hne]
          obtain⟨lo,hi'⟩:=fz
          refine⟨if lo==hi' then(0,0+bs.length)else(min lo 0,max hi' (0+bs.length)), ?_⟩
          simp only[Array.getElem?_modify,if_true,hgb,Option.map_some]
        obtain⟨fz',hfz⟩:=hfz
        have hst:=hS.step i hi (w':=w.freeze ⟨g,0,none⟩ bs.length) (A':=GH e (.slice (some ⟨g,0,none⟩) bs.length cap) bs) fun F0 hF0=> ?_
        · rwa [AS hi]at hst
        · have e0:=hF0.1
          have hb:=Lib.below_freeze (B:=0) (Below.refl 0 w) (p:=⟨g,0,none⟩) (Nat.zero_le _) bs.length
          refine⟨F0,⟨e0,.inr ⟨g,cap,cur,fz',rfl,h0, by assumption,hfz,h5,h6⟩⟩, fun k hk=> .inl hk,hb.os,hb.tape,hb.output, fun k hk=> ?_⟩
          have hnk:k≠g:= by
            rintro rfl
            exact hk.2 (by rw[e0];rfl)
          unfold World.freeze
          rw[if_neg hne]
          simp only[Array.getElem?_modify]
          rw[if_neg (fun q=>hnk q.symm)]
  obtain⟨w',h1,h2⟩:=hg
  refine Zf rfl hd (R:= fun v u=>v=strV bs∧u=w') (fun a ha=>⟨_,_,.inl ?_,rfl,rfl⟩) (by rintro _ _ ⟨rfl,rfl⟩; exact hk _ h2)
  simp [execOp,ha.eval hx,ha.eval hy,resolve,invoke,builtin,h1]
end
end Go.Proofs.YtiibgheijbbmaaaGreatDoor.M
namespace Go.Proofs.YtiibgheijbbmaaaGreatDoor
open Go.RowKit M Proofs.Tryz
def bldZ (b:Nat) (bs:Bs):Th:=S3 fun q:Value×Value=>starL [Yj 149 b [q.1,q.2],GH 5 q.2 bs]
theorem bldZ_of {w:World} {b:Nat} {bs:Bs} {As:List Th} (h:Sat w (Sw b bs::As)):Sat w (bldZ b bs::As):= by
  obtain⟨p,v,_,h1⟩:=B6 h
  have h2:=(h1.pull 1 Qa).bufZ_of; dsimp only[List.eraseIdx]at h2
  exact Sat.ex_intro (f:= fun q:Value×Value=>starL [Yj 149 b [q.1,q.2],GH 5 q.2 bs]) (p,v) (Sat.fold (As:=[Yj 149 b [p,v],GH 5 v bs]) (h2.perm (List.Perm.swap _ _ _)))
theorem MS {w:World} {b:Nat} {bs:Bs} {F:Th} (hS:Sat w [bldZ b bs,F]) (hl:bs.length≤70368744177663):
    Calls prog 107 #[ptrV b 0] w (Ret fun v w'=>v=strV bs∧Sat w' [bldZ b bs,F]):= by
 obtain⟨⟨p,v⟩,hS⟩:=hS.ex
 replace hS:=hS.flat; dsimp only[zqc,zqd]at hS
 obtain⟨ao,cap,rfl,h1v,hao⟩:=hS.bufZv 1 rfl
 refine Qx func107 Qa ntmps107 Qa ?_
 refine Qg (Qb (Qc Qa Qa (Qh (Qd (Qg ?_)))))
 have hS1:=hS.drew
 refine QM [0,1,2,3,5,6,7,8,9,4,10,11] [4,10] Wv (by kernel_rfl) ?_
 refine QK Qa Qa Qa (Xm Qa Qa Qa (QN Qa Qa Qa Vs (Q9 Qa Qa Qa (Qn Qa MV (hS1.tcell 0 Qa (o:=1) Qa)) (QK Qa Qa Qa (Xm Qa Qa Qa (QN Qa Qa Qa Vs (Q9 Qa Qa Qa (Qn Qa MV (hS1.tcell 0 Qa (o:=1) Qa)) (QC Qa Qa Qa (fun _=>(Dz underlying98 Qa)) ?_))))))))
 refine QS Qa Qa Qa Qa Qa Qa ?_
 refine RN Qa hao Qa (Xe (.cons (.inl ⟨rfl,(Qn Qa MV (hS1.tcell 0 Qa (o:=1) Qa))⟩) (Xp (by kernel_rfl))) ?_)
 refine QS Qa Qa Qa Qa Qa Qa ?_
 refine GS 1 hS1 Qa Qa Qa underlying168 LF (by omega) Qa ?_
 intro w2 hS2
 refine Xe (Xp (by kernel_rfl)) ?_
 exact WY Qa Qa Qa (VC.nil (Qd (Qk [2] Qa (Qo (Q5 (.inr Qa) Qa Qa (⟨_,rfl,rfl,Sat.ex_intro (f:= fun q:Value×Value=>starL [Yj 149 b [q.1,q.2],GH 5 q.2 bs]) (p,.slice ao bs.length cap) (Sat.fold (As:=[Yj 149 b [p,_],GH 5 _ bs]) hS2)⟩))))))
