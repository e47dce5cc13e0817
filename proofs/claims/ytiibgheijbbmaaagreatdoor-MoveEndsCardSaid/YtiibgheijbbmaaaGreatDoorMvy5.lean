/- move: hearGone, hearGiven -/
import Derived.Test.YtiibgheijbbmaaaGreatDoorMvy4
set_option linter.unusedVariables false
set_option maxRecDepth 100000
set_option maxHeartbeats 100000000000
namespace Go.Proofs.YtiibgheijbbmaaaGreatDoor
open Go.RowKit M Proofs.Tryz
def TZ (o:OfD) (e:Int×PgD):PgD:= match QN o.pages e.1 with
  | none=>e.2
  | some g=> if g.ver=e.2.ver∧g.data.length=64 then⟨g.data,e.2.ver,0,false⟩else e.2
section
variable {E E1:EnD} {m:MsD} {o:OfD} {s:SeD} {p:PgD} {k:Int} {g:Bool}
theorem IB (l:AL PgD):U0 o l=l.map fun e=>(e.1,TZ o e):=rfl
theorem Aw (h:(VZ (QN o.pages k)).ver=p.ver) (h2:(VZ (QN o.pages k)).data.length=64):TZ o (k,p)=⟨(VZ (QN o.pages k)).data,p.ver,0,false⟩:= by
  unfold TZ
  dsimp only
  cases q:QN o.pages k with
  | none=> rw[q]at h2; cases h2
  | some x=> rw[q]at h h2; dsimp only; rw[if_pos (show x.ver=p.ver∧x.data.length=64 from⟨h,h2⟩)];rfl
theorem Sc (h: ¬((VZ (QN o.pages k)).ver=p.ver∧(VZ (QN o.pages k)).data.length=64)):TZ o (k,p)=p:= by
  unfold TZ
  dsimp only
  cases q:QN o.pages k with
  | none=>rfl
  | some x=> rw[q]at h; dsimp only; rw[if_neg (show ¬(x.ver=p.ver∧x.data.length=64) from h)]
theorem Vx (h:E.kind≠2∨m.move≠E.move):XB E m=E:= by unfold XB; rw[if_pos h]
theorem PF (h: ¬(E.kind≠2∨m.move≠E.move)) (h2:(QS E 1 m.move).1≠0):XB E m=(QS E 1 m.move).2:= by unfold XB; rw[if_neg h,if_pos h2]
theorem PD (h: ¬(E.kind≠2∨m.move≠E.move)) (h2:(QS E 1 m.move).1=0) (e:(QS E 1 m.move).2=E1) (ho:E.off=none∨ ∃o,E.off=some o∧o.move≠m.move):XB E m={E1 with off:=none}:= by
  unfold XB; rw[if_neg h,if_neg (by omega),e]
  rcases ho with q | ⟨o,q,r⟩
  · rw[q]
  · rw[q]; dsimp only; rw[if_pos r]
theorem PC (h: ¬(E.kind≠2∨m.move≠E.move)) (h2:(QS E 1 m.move).1=0) (e:(QS E 1 m.move).2=E1) (ho:E.off=some o) (hm:o.move=m.move) (hp:Wp o.list=(some s,g)):XB E m={E1 with off:=none,ses:=some {s with pages:=U0 o s.pages},told:=false,active:=false,frozen:=false}:= by
  unfold XB; rw[if_neg h,if_neg (by omega),e,ho]
  dsimp only
  rw[if_neg (by omega),hp];rfl
end
theorem PB {w:World} {e:Nat} {E:EnD} {F:Th} (hS:Sat w [Xs e E,F]) (m:MsD) (hW:EW E):
    Calls prog 76 #[ptrV e 0,.agg #[intV m.kind,intV m.move,intV m.a,intV m.b,strV m.data]] w (Ret fun v w'=>Sat w' [rowT Z4 v ((ZL E m,([]:List Bs))).2,Xs e ((ZL E m,([]:List Bs))).1,F]):= by
 obtain⟨dp,cv,sv,ov,hS⟩:=QW hS
 refine Qy func76 Qa ntmps76 Qa ?_
 refine Qg (Qb (XZ hS Qa Qa Qa ?_))
 intro mp w1 hS1
 replace hS1:Sat w1 (QR mp [intV m.kind,intV m.move,intV m.a,intV m.b,strV m.data]::_):=hS1
 refine Qc Qa Qa (Qh (Qe (Qg (Qg ?_))))
 have hS2:=hS1.drew
 refine QT [0,1,2,3,4,5,6,7,8,9,10,11,12,13,14,15,16,17,18,19,20,21,22,23,24,25,26] [23] Jk (by kernel_rfl) ?_
 refine QM Qa Qa Qa (Xw Qa Qa Qa (QQ Qa Qa Qa Z0 (QH Qa Qa Qa (Qn Qa QK (hS2.cell 1 Qa Qa)) (QG Qa Qa Qa (fun _=>(HV Qa Qa)) ?_))))
 refine QM Qa Qa Qa (ZK 10 Qa (fun h3=> ?_) (fun h3=> ?_))
 ·refine QG Qa Qa (Qt Qa Qa (Q8 h3)) (fun _=>(Ev.gd (QV Qa ZE))) ?_
  refine QH Qa Qa (Qt Qa Qa (Q8 h3)) (Ev.gd (Qn Qa QK (hS2.cell 0 Qa Qa))) (QG Qa Qa (Qt Qa Qa (Q8 h3)) (fun _=>(Ev.gd (XA Qa))) ?_)
  refine QG Qa Qa (Qt Qa Qa (Q8 h3)) (fun _=>(Ev.gd (XH Qa))) ?_
  refine QG Qa Qa (Qt Qa Qa (Q8 h3)) (fun _=>(Ev.gd (QV Qa WH))) ?_
  refine QH Qa Qa (Qt Qa Qa (Q8 h3)) (Ev.gd (Qn Qa QK (hS2.cell 1 Qa Qa))) (QG Qa Qa (Qt Qa Qa (Q8 h3)) (fun _=>(Ev.gd (HV Qa Qa))) ?_)
  refine QG Qa Qa Qa (fun _=>(XL Qa (Q8 h3) Qa)) ?_
  refine QM Qa Qa Qa (ZK 19 Qa (fun h4=> ?_) (fun h4=> ?_))
  ·refine QG Qa Qa (Qt Qa Qa (Q8 h4)) (fun _=>(Ev.gd (XA Qa))) ?_
   refine QG Qa Qa (Qt Qa Qa (Q8 h4)) (fun _=>(Ev.gd (XH Qa))) ?_
   refine QG Qa Qa (Qt Qa Qa (Q8 h4)) (fun _=>(Ev.gd (QV Qa Zo))) ?_
   refine QH Qa Qa (Qt Qa Qa (Q8 h4)) (Ev.gd (Qn Qa JT (hS2.cell 1 Qa Qa))) (QG Qa Qa (Qt Qa Qa (Q8 h4)) (fun _=>(Ev.gd (K5 Qa))) ?_)
   refine QG Qa Qa Qa (fun _=>(XL Qa (Q8 h4) Qa)) ?_
   refine QM Qa Qa Qa (Kg 26 Qa (fun h5=> ?_) (fun h5=> ?_))
   ·have hac:E.active=false:= by simpa using h5
    refine QG Qa Qa (Qt Qa Qa h5) (fun _=>(Ev.gd (XA Qa))) ?_
    have hS6:=Qu (E:=E) (hS2.pick [1,2,3,4,5,0,6] Qa)
    refine Xb Qa Qa (Qt Qa Qa h5) Qa Qa Qa ?_
    refine Q4 VQ Qa (J6 (hS6.sp [0] Qa) hW.ses) Qa ?_
    rintro _ w7 hS7
    replace hS7:=hS7.jn Qa Qa
    have h1v:=hS7.own_one 0 Qa
    refine Xn (XC (by kernel_rfl)) ?_
    obtain⟨ao,cap,hv8,_⟩:=hS7.own_shape 0 rfl
    obtain rfl:=hv8
    refine QG Qa Qa (Qt Qa Qa h5) (fun _=>(Ev.gd (Dx underlying33 Qa))) ?_
    refine QG Qa Qa (Qt Qa Qa h5) (fun _=>(Ev.gd (F7 Qa Qa))) ?_
    refine QG Qa Qa Qa (fun _=>(XL Qa h5 Qa)) ?_
    refine VC.nil (Qe (Qk [0,4,31] Qa (Qw Qa (fun h9=> ?_) (fun h9=> ?_))))
    ·have hms:((QP E).length:Int)>0:=h9
     obtain⟨dp,cv,sv,ov,hS10⟩:=QW (hS7.pick [1,0,2,3] rfl)
     refine Qb (Qd Qa Qa (Ql Qa Qa (Qi Qa Xm Qa ?_)))
     (refine QC hS10 Qa Qa DT (by rfl) (i:=0) Qa (Xe Qa) ?_)
     intro w11 hS12; dsimp only[List.set]at hS12
     refine Qh (Qe (Qg (Qb (Qc Qa Qa (Qh (Qe (Qo (Q7 (.inr Qa) Qa Qa ?_))))))))
     exact⟨_,rfl, by unfold ZL; rw[if_pos ⟨by omega, by omega,hac, fun q=> by rw[q]at hms; simp at hms⟩]; exact(Sat.row_nil Z4 (Qu (E:={E with ses:=none}) (dp:=dp) ((ZQ (hS12.pick [0,1,2,4,7] Qa)).reorder [1,2,3,0,4,5] Qa)))⟩
    have hmn:QP E=[]:=List.eq_nil_of_length_eq_zero (by have q9:=h9;omega)
    refine Qr (Qe (Qg (Qb (Qc Qa Qa (Qh (Qe (Qo (Q7 (.inr Qa) Qa Qa ?_))))))))
    exact⟨_,rfl, by unfold ZL; rw[if_neg (by rintro⟨q1,q2,q3,q4⟩; exact q4 hmn)]; exact(Sat.row_nil Z4 (hS7.pick [1,3] rfl))⟩
   have hac:E.active=true:= by simpa using h5
   refine Q2 Qa Qa (Qs Qa Qa h5) (VC.spineNot Qa Qa (Qs Qa Qa h5) (Q2 Qa Qa (Qs Qa Qa h5) (Q2 Qa Qa (Qs Qa Qa h5) (QG Qa Qa Qa (fun _=>(X0 Qa h5 Qa)) ?_))))
   refine VC.nil (Qe (Qk [0,4,31] Qa (QF Qa (Qr (Qe (Qg (Qb (Qc Qa Qa (Qh (Qe (Qo (Q7 (.inr Qa) Qa Qa ?_))))))))))))
   exact⟨_,rfl, by unfold ZL; rw[if_neg (by rintro⟨q1,q2,q3,q4⟩;first | omega | (rw[hac]at q3; cases q3;done))]; exact(Sat.row_nil Z4 (Qu (E:=E) ((hS2.pick [1,2,3,4,5,6] rfl))))⟩
  refine Q2 Qa Qa (Qs Qa Qa (Qv h4)) (Q2 Qa Qa (Qs Qa Qa (Qv h4)) (Q2 Qa Qa (Qs Qa Qa (Qv h4)) (Q2 Qa Qa (Qs Qa Qa (Qv h4)) (Q2 Qa Qa (Qs Qa Qa (Qv h4)) (QG Qa Qa Qa (fun _=>(X0 Qa (Qv h4) Qa)) ?_)))))
  refine QM Qa Qa Qa (Q2 Qa Qa (Qs Qa Qa Qa) (VC.spineNot Qa Qa (Qs Qa Qa Qa) (Q2 Qa Qa (Qs Qa Qa Qa) (Q2 Qa Qa (Qs Qa Qa Qa) (QG Qa Qa Qa (fun _=>(X0 Qa Qa Qa)) ?_)))))
  refine VC.nil (Qe (Qk [0,4,31] Qa (QF Qa (Qr (Qe (Qg (Qb (Qc Qa Qa (Qh (Qe (Qo (Q7 (.inr Qa) Qa Qa ?_))))))))))))
  exact⟨_,rfl, by unfold ZL; rw[if_neg (by rintro⟨q1,q2,q3,q4⟩;first | omega | (rw[hac]at q3; cases q3;done))]; exact(Sat.row_nil Z4 (Qu (E:=E) ((hS2.pick [1,2,3,4,5,6] rfl))))⟩
 refine Q2 Qa Qa (Qs Qa Qa (Qv h3)) (Q2 Qa Qa (Qs Qa Qa (Qv h3)) (Q2 Qa Qa (Qs Qa Qa (Qv h3)) (Q2 Qa Qa (Qs Qa Qa (Qv h3)) (Q2 Qa Qa (Qs Qa Qa (Qv h3)) (Q2 Qa Qa (Qs Qa Qa (Qv h3)) (Q2 Qa Qa (Qs Qa Qa (Qv h3)) (QG Qa Qa Qa (fun _=>(X0 Qa (Qv h3) Qa)) ?_)))))))
 refine QM Qa Qa Qa (Q2 Qa Qa (Qs Qa Qa Qa) (Q2 Qa Qa (Qs Qa Qa Qa) (Q2 Qa Qa (Qs Qa Qa Qa) (Q2 Qa Qa (Qs Qa Qa Qa) (Q2 Qa Qa (Qs Qa Qa Qa) (QG Qa Qa Qa (fun _=>(X0 Qa Qa Qa)) ?_))))))
 refine QM Qa Qa Qa (Q2 Qa Qa (Qs Qa Qa Qa) (VC.spineNot Qa Qa (Qs Qa Qa Qa) (Q2 Qa Qa (Qs Qa Qa Qa) (Q2 Qa Qa (Qs Qa Qa Qa) (QG Qa Qa Qa (fun _=>(X0 Qa Qa Qa)) ?_)))))
 refine VC.nil (Qe (Qk [0,4,31] Qa (QF Qa (Qr (Qe (Qg (Qb (Qc Qa Qa (Qh (Qe (Qo (Q7 (.inr Qa) Qa Qa ?_))))))))))))
 exact⟨_,rfl, by unfold ZL; rw[if_neg (by rintro⟨q1,q2,q3,q4⟩;first | omega | (rw[hac]at q3; cases q3;done))]; exact(Sat.row_nil Z4 (Qu (E:=E) ((hS2.pick [1,2,3,4,5,6] rfl))))⟩
theorem PJ {w:World} {e:Nat} {E:EnD} {F:Th} (hS:Sat w [Xs e E,F]) (m:MsD) (hG:Ent F WireG) (hO:Ent F (Glob 0)) (hW:EW E) (hm:MsW m) (hu:E.cell≠none) (hq_o:E.off=none):
    Calls prog 73 #[ptrV e 0,.agg #[intV m.kind,intV m.move,intV m.a,intV m.b,strV m.data]] w (Ret fun v w'=>Sat w' [rowT Z4 v [],Xs e (XB E m),F]):= by
 obtain⟨dp,cv,sv,ov,hS⟩:=QW hS
 refine Qy func73 Qa ntmps73 Qa ?_
 have hmi:Xy m.move:= by have :=hm.mv;unfold Xy;omega
 refine Qg (Qb (XZ hS Qa Qa Qa ?_))
 intro mp w1 hS1
 replace hS1:Sat w1 (QR mp [intV m.kind,intV m.move,intV m.a,intV m.b,strV m.data]::_):=hS1
 refine Qc Qa Qa (Qh (Qe (Qg (Qg ?_))))
 have hS2:=hS1.drew
 refine QT [0,1,2,3,4,5,6,7,8,9,10,11,12,13,14,15,16,17,18,19,20] [18] Jk (by kernel_rfl) ?_
 refine QM Qa Qa Qa (Xw Qa Qa Qa (QQ Qa Qa Qa Z0 (QH Qa Qa Qa (Qn Qa QK (hS2.cell 1 Qa Qa)) (QG Qa Qa Qa (fun _=>(Ye Qa Qa)) ?_))))
 refine QM Qa Qa Qa (ZK 14 Qa (fun h3=> ?_) (fun h3=> ?_))
 ·refine Q2 Qa Qa (Qs Qa Qa (Q8 h3)) (Q2 Qa Qa (Qs Qa Qa (Q8 h3)) (Q2 Qa Qa (Qs Qa Qa (Q8 h3)) (Q2 Qa Qa (Qs Qa Qa (Q8 h3)) (Q2 Qa Qa (Qs Qa Qa (Q8 h3)) (Q2 Qa Qa (Qs Qa Qa (Q8 h3)) (Q2 Qa Qa (Qs Qa Qa (Q8 h3)) (QG Qa Qa Qa (fun _=>(XL Qa (Q8 h3) Qa)) ?_)))))))
  refine QM Qa Qa Qa (Q2 Qa Qa (Qs Qa Qa Qa) (Q2 Qa Qa (Qs Qa Qa Qa) (Q2 Qa Qa (Qs Qa Qa Qa) (VC.spineNot Qa Qa (Qs Qa Qa Qa) (Q2 Qa Qa (Qs Qa Qa Qa) (QG Qa Qa Qa (fun _=>(XL Qa Qa Qa)) ?_))))))
  refine VC.nil (Qe (Qk [0,3,4,29] Qa (QL Qa (Qg (Qb (Qc Qa Qa (Qh (Qe (Qo (Qm (Q7 (.inr Qa) Qa Qa ?_)))))))))))
  exact⟨_,rfl, by rw[Vx (by omega)]; exact(Sat.row_nil Z4 (Qu (E:=E) ((hS2.pick [1,2,3,4,5,6] Qa))))⟩
 refine QG Qa Qa (Qt Qa Qa (Qv h3)) (fun _=>(Ev.gd (QV Qa ZE))) ?_
 refine QH Qa Qa (Qt Qa Qa (Qv h3)) (Ev.gd (Qn Qa QK (hS2.cell 0 Qa Qa))) (QG Qa Qa (Qt Qa Qa (Qv h3)) (fun _=>(Ev.gd (XA Qa))) ?_)
 refine QG Qa Qa (Qt Qa Qa (Qv h3)) (fun _=>(Ev.gd (XH Qa))) ?_
 refine QG Qa Qa (Qt Qa Qa (Qv h3)) (fun _=>(Ev.gd (QV Qa WH))) ?_
 refine QH Qa Qa (Qt Qa Qa (Qv h3)) (Ev.gd (Qn Qa QK (hS2.cell 1 Qa Qa))) (QG Qa Qa (Qt Qa Qa (Qv h3)) (fun _=>(Ev.gd (Ye Qa Qa))) ?_)
 refine QG Qa Qa Qa (fun _=>(X0 Qa (Qv h3) Qa)) ?_
 refine QM Qa Qa Qa (ZK 23 Qa (fun h4=> ?_) (fun h4=> ?_))
 ·refine Q2 Qa Qa (Qs Qa Qa (Q8 h4)) (Q2 Qa Qa (Qs Qa Qa (Q8 h4)) (Q2 Qa Qa (Qs Qa Qa (Q8 h4)) (VC.spineNot Qa Qa (Qs Qa Qa (Q8 h4)) (Q2 Qa Qa (Qs Qa Qa (Q8 h4)) (QG Qa Qa Qa (fun _=>(XL Qa (Q8 h4) Qa)) ?_)))))
  refine VC.nil (Qe (Qk [0,3,4,29] Qa (QL Qa (Qg (Qb (Qc Qa Qa (Qh (Qe (Qo (Qm (Q7 (.inr Qa) Qa Qa ?_)))))))))))
  exact⟨_,rfl, by rw[Vx (by omega)]; exact(Sat.row_nil Z4 (Qu (E:=E) ((hS2.pick [1,2,3,4,5,6] Qa))))⟩
 refine QG Qa Qa (Qt Qa Qa (Qv h4)) (fun _=>(Ev.gd (XA Qa))) ?_
 refine QG Qa Qa (Qt Qa Qa (Qv h4)) (fun _=>(Ev.gd (QV Qa ZE))) ?_
 refine QH Qa Qa (Qt Qa Qa (Qv h4)) (Ev.gd (Qn Qa QK (hS2.cell 0 Qa Qa))) ?_
 have hS5:=Qu (E:=E) (hS2.pick [1,2,3,4,5,0,6] Qa)
 refine Xb Qa Qa (Qt Qa Qa (Qv h4)) Qa Qa Qa ?_
 refine Q4 KC Qa (UG (hS5.sp [0] Qa) (hG.starL 1 Qa) (hO.starL 1 Qa) hu (k:=1) (m:=m.move) (XJ (by decide)) hmi) Qa ?_
 rintro _ w6 ⟨rfl,hS6⟩
 replace hS6:=hS6.jn Qa Qa
 refine Xn (XC (by kernel_rfl)) ?_
 refine QG Qa Qa (Qt Qa Qa (Qv h4)) (fun _=>(Ev.gd (Ye Qa Qa))) ?_
 refine QG Qa Qa Qa (fun _=>(X0 Qa (Qv h4) Qa)) ?_
 refine VC.nil (Qe (Qk [0,3,4,29] Qa (Qw Qa (fun h7=> ?_) (fun h7=> ?_))))
 ·have hbad:(QS E 1 m.move).1≠0:= by simpa using h7
  refine Qg (Qb (Qc Qa Qa (Qh (Qe (Qo (Qm (Q7 (.inr Qa) Qa Qa ?_)))))))
  exact⟨_,rfl, by rw[PF (by omega) hbad]; exact(Sat.row_nil Z4 (hS6.pick [0,2] Qa))⟩
 have hn0:(QS E 1 m.move).1=0:= by simpa using h7
 refine Qr (Qe (Qg ?_))
 obtain⟨D1,C1,e2⟩:=Ym hn0 hu
 rw[e2]at hS6
 obtain⟨dp1,cv1,sv1,ov1,hS8⟩:=QW (hS6.pick [0,1,2] rfl)
 dsimp only at hS8; rw[hq_o]at hS8
 obtain⟨rfl,hS9⟩:=Be (hS8.pick [4,0,1,2,3,5,6] rfl)
 replace hS9:Sat _ [QR e (U6 dp1 cv1 sv1 (.pointer none) {E with D:=D1,cell:=some C1,kind:=1,move:=m.move}),dT dp1 D1,JR dp1 cv1 (some C1),VY sv1 E.ses,_,F]:=hS9
 refine Qb (Qd Qa Qa (Ql Qa Qa (Qi Qa WG Qa (Qp Qa UO (hS9.cell 0 Qa Qa) Qa (Qc Qa Qa (Qh (Qe (Qg (Qb (Qd Qa Qa (Ql Qa Qa (Qi Qa WG Qa ?_))))))))))))
 (refine QC hS9 Qa Qa NO (by rfl) (i:=0) Qa (Xe Qa) ?_)
 intro w10 hS11; dsimp only[List.set]at hS11
 refine Qh (Qe (Qk [0,3,4,5] Qa (Qg (Qg ?_))))
 have hS12:=hS11.drew
 refine QT [0,1,2,3,4,5,6,7,8,9,10] [] Jk (by kernel_rfl) ?_
 refine QM Qa Qa Qa (QG Qa Qa Qa (fun _=>(VI underlying79 Qa Qa)) ?_)
 refine QM Qa Qa Qa (Q2 Qa Qa (Qs Qa Qa Qa) (Q2 Qa Qa (Qs Qa Qa Qa) (Q2 Qa Qa (Qs Qa Qa Qa) (Q2 Qa Qa (Qs Qa Qa Qa) (Q2 Qa Qa (Qs Qa Qa Qa) (Q2 Qa Qa (Qs Qa Qa Qa) (Q2 Qa Qa (Qs Qa Qa Qa) (QG Qa Qa Qa (fun _=>(XL Qa Qa Qa)) ?_))))))))
 refine VC.nil (Qe (Qk [0,4,5,47] Qa (QL Qa (Qg (Qb (Qc Qa Qa (Qh (Qe (Qo (Qm (Q7 (.inr Qa) Qa Qa ?_)))))))))))
 exact⟨_,rfl, by rw[PD (by omega) hn0 e2 (.inl hq_o)]; exact(Sat.row_nil Z4 (Qu (E:={{E with D:=D1,cell:=some C1,kind:=1,move:=m.move}with off:=none}) (dp:=dp1) ((Wh (hS12.pick [0,1,2,3,5] Qa)).reorder [1,2,3,4,0,5] Qa)))⟩
theorem PH {w:World} {e:Nat} {E:EnD} {F:Th} (hS:Sat w [Xs e E,F]) (m:MsD) (hG:Ent F WireG) (hO:Ent F (Glob 0)) (hW:EW E) (hm:MsW m) (hu:E.cell≠none) {o:OfD} (hq_o:E.off=some o):
    Calls prog 73 #[ptrV e 0,.agg #[intV m.kind,intV m.move,intV m.a,intV m.b,strV m.data]] w (Ret fun v w'=>Sat w' [rowT Z4 v [],Xs e (XB E m),F]):= by
 obtain⟨dp,cv,sv,ov,hS⟩:=QW hS
 refine Qy func73 Qa ntmps73 Qa ?_
 have hmi:Xy m.move:= by have :=hm.mv;unfold Xy;omega
 refine Qg (Qb (XZ hS Qa Qa Qa ?_))
 intro mp w1 hS1
 replace hS1:Sat w1 (QR mp [intV m.kind,intV m.move,intV m.a,intV m.b,strV m.data]::_):=hS1
 refine Qc Qa Qa (Qh (Qe (Qg (Qg ?_))))
 have hS2:=hS1.drew
 refine QT [0,1,2,3,4,5,6,7,8,9,10,11,12,13,14,15,16,17,18,19,20] [18] Jk (by kernel_rfl) ?_
 refine QM Qa Qa Qa (Xw Qa Qa Qa (QQ Qa Qa Qa Z0 (QH Qa Qa Qa (Qn Qa QK (hS2.cell 1 Qa Qa)) (QG Qa Qa Qa (fun _=>(Ye Qa Qa)) ?_))))
 refine QM Qa Qa Qa (ZK 14 Qa (fun h3=> ?_) (fun h3=> ?_))
 ·refine Q2 Qa Qa (Qs Qa Qa (Q8 h3)) (Q2 Qa Qa (Qs Qa Qa (Q8 h3)) (Q2 Qa Qa (Qs Qa Qa (Q8 h3)) (Q2 Qa Qa (Qs Qa Qa (Q8 h3)) (Q2 Qa Qa (Qs Qa Qa (Q8 h3)) (Q2 Qa Qa (Qs Qa Qa (Q8 h3)) (Q2 Qa Qa (Qs Qa Qa (Q8 h3)) (QG Qa Qa Qa (fun _=>(XL Qa (Q8 h3) Qa)) ?_)))))))
  refine QM Qa Qa Qa (Q2 Qa Qa (Qs Qa Qa Qa) (Q2 Qa Qa (Qs Qa Qa Qa) (Q2 Qa Qa (Qs Qa Qa Qa) (VC.spineNot Qa Qa (Qs Qa Qa Qa) (Q2 Qa Qa (Qs Qa Qa Qa) (QG Qa Qa Qa (fun _=>(XL Qa Qa Qa)) ?_))))))
  refine VC.nil (Qe (Qk [0,3,4,29] Qa (QL Qa (Qg (Qb (Qc Qa Qa (Qh (Qe (Qo (Qm (Q7 (.inr Qa) Qa Qa ?_)))))))))))
  exact⟨_,rfl, by rw[Vx (by omega)]; exact(Sat.row_nil Z4 (Qu (E:=E) ((hS2.pick [1,2,3,4,5,6] Qa))))⟩
 refine QG Qa Qa (Qt Qa Qa (Qv h3)) (fun _=>(Ev.gd (QV Qa ZE))) ?_
 refine QH Qa Qa (Qt Qa Qa (Qv h3)) (Ev.gd (Qn Qa QK (hS2.cell 0 Qa Qa))) (QG Qa Qa (Qt Qa Qa (Qv h3)) (fun _=>(Ev.gd (XA Qa))) ?_)
 refine QG Qa Qa (Qt Qa Qa (Qv h3)) (fun _=>(Ev.gd (XH Qa))) ?_
 refine QG Qa Qa (Qt Qa Qa (Qv h3)) (fun _=>(Ev.gd (QV Qa WH))) ?_
 refine QH Qa Qa (Qt Qa Qa (Qv h3)) (Ev.gd (Qn Qa QK (hS2.cell 1 Qa Qa))) (QG Qa Qa (Qt Qa Qa (Qv h3)) (fun _=>(Ev.gd (Ye Qa Qa))) ?_)
 refine QG Qa Qa Qa (fun _=>(X0 Qa (Qv h3) Qa)) ?_
 refine QM Qa Qa Qa (ZK 23 Qa (fun h4=> ?_) (fun h4=> ?_))
 ·refine Q2 Qa Qa (Qs Qa Qa (Q8 h4)) (Q2 Qa Qa (Qs Qa Qa (Q8 h4)) (Q2 Qa Qa (Qs Qa Qa (Q8 h4)) (VC.spineNot Qa Qa (Qs Qa Qa (Q8 h4)) (Q2 Qa Qa (Qs Qa Qa (Q8 h4)) (QG Qa Qa Qa (fun _=>(XL Qa (Q8 h4) Qa)) ?_)))))
  refine VC.nil (Qe (Qk [0,3,4,29] Qa (QL Qa (Qg (Qb (Qc Qa Qa (Qh (Qe (Qo (Qm (Q7 (.inr Qa) Qa Qa ?_)))))))))))
  exact⟨_,rfl, by rw[Vx (by omega)]; exact(Sat.row_nil Z4 (Qu (E:=E) ((hS2.pick [1,2,3,4,5,6] Qa))))⟩
 refine QG Qa Qa (Qt Qa Qa (Qv h4)) (fun _=>(Ev.gd (XA Qa))) ?_
 refine QG Qa Qa (Qt Qa Qa (Qv h4)) (fun _=>(Ev.gd (QV Qa ZE))) ?_
 refine QH Qa Qa (Qt Qa Qa (Qv h4)) (Ev.gd (Qn Qa QK (hS2.cell 0 Qa Qa))) ?_
 have hS5:=Qu (E:=E) (hS2.pick [1,2,3,4,5,0,6] Qa)
 refine Xb Qa Qa (Qt Qa Qa (Qv h4)) Qa Qa Qa ?_
 refine Q4 KC Qa (UG (hS5.sp [0] Qa) (hG.starL 1 Qa) (hO.starL 1 Qa) hu (k:=1) (m:=m.move) (XJ (by decide)) hmi) Qa ?_
 rintro _ w6 ⟨rfl,hS6⟩
 replace hS6:=hS6.jn Qa Qa
 refine Xn (XC (by kernel_rfl)) ?_
 refine QG Qa Qa (Qt Qa Qa (Qv h4)) (fun _=>(Ev.gd (Ye Qa Qa))) ?_
 refine QG Qa Qa Qa (fun _=>(X0 Qa (Qv h4) Qa)) ?_
 refine VC.nil (Qe (Qk [0,3,4,29] Qa (Qw Qa (fun h7=> ?_) (fun h7=> ?_))))
 ·have hbad:(QS E 1 m.move).1≠0:= by simpa using h7
  refine Qg (Qb (Qc Qa Qa (Qh (Qe (Qo (Qm (Q7 (.inr Qa) Qa Qa ?_)))))))
  exact⟨_,rfl, by rw[PF (by omega) hbad]; exact(Sat.row_nil Z4 (hS6.pick [0,2] Qa))⟩
 have hn0:(QS E 1 m.move).1=0:= by simpa using h7
 refine Qr (Qe (Qg ?_))
 obtain⟨D1,C1,e2⟩:=Ym hn0 hu
 rw[e2]at hS6
 obtain⟨dp1,cv1,sv1,ov1,hS8⟩:=QW (hS6.pick [0,1,2] rfl)
 dsimp only at hS8; rw[hq_o]at hS8
 obtain⟨ob,om,on,rfl,hS9⟩:=Bd (hS8.pick [4,0,1,2,3,5,6] rfl)
 refine Qb (Qd Qa Qa (Ql Qa Qa (Qi Qa WG Qa (Qp Qa UO (hS9.cell 3 Qa Qa) Qa (Qc Qa Qa (Qh (Qe (Qg (Qb (Qd Qa Qa (Ql Qa Qa (Qi Qa WG Qa ?_))))))))))))
 (refine QC hS9 Qa Qa NO (by rfl) (i:=3) Qa (Xe Qa) ?_)
 intro w10 hS11; dsimp only[List.set]at hS11
 refine Qh (Qe (Qk [0,3,4,5] Qa (Qg (Qg ?_))))
 have hS12:=hS11.drew
 refine QT [0,1,2,3,4,5,6,7,8,9,10] [] Jk (by kernel_rfl) ?_
 refine QM Qa Qa Qa (QG Qa Qa Qa (fun _=>(Bu underlying79 Qa Qa)) ?_)
 refine QM Qa Qa Qa (QG Qa Qa (Qt Qa Qa Qa) (fun _=>(Ev.gd (XA Qa))) ?_)
 refine QG Qa Qa (Qt Qa Qa Qa) (fun _=>(Ev.gd (XH Qa))) ?_
 refine QG Qa Qa (Qt Qa Qa Qa) (fun _=>(Ev.gd (QV Qa G4))) ?_
 refine QH Qa Qa (Qt Qa Qa Qa) (Ev.gd (Qn Qa QK (hS12.cell 0 Qa Qa))) (QG Qa Qa (Qt Qa Qa Qa) (fun _=>(Ev.gd (QV Qa ZE))) ?_)
 refine QH Qa Qa (Qt Qa Qa Qa) (Ev.gd (Qn Qa QK (hS12.cell 7 Qa Qa))) (QG Qa Qa (Qt Qa Qa Qa) (fun _=>(Ev.gd (Ye Qa Qa))) ?_)
 refine QG Qa Qa Qa (fun _=>(X0 Qa Qa Qa)) ?_
 refine VC.nil (Qe (Qk [0,4,5,47] Qa (Qw Qa (fun h13=> ?_) (fun h13=> ?_))))
 ·refine Qg (Qb (Qc Qa Qa (Qh (Qe (Qo (Qm (Q7 (.inr Qa) Qa Qa ?_)))))))
  exact⟨_,rfl, by rw[PD (by omega) hn0 e2 (.inr ⟨o,hq_o, by omega⟩)]; exact(Sat.row_nil Z4 (Qu (E:={{E with D:=D1,cell:=some C1,kind:=1,move:=m.move}with off:=none}) (dp:=dp1) ((Wh (hS12.pick [3,4,5,6,8] Qa)).reorder [1,2,3,4,0,5] Qa)))⟩
 refine Qr (Qe (Qg ?_))
 have hrd:=hW.rdy (by omega) o hq_o (by omega)
 have hll:=(hW.off o hq_o).ln
 refine Qb (Qd Qa Qa (Qd Qa Qa (Ql Qa Qa (Qi Qa PX Qa (Qp Qa Zw (hS12.cell 0 Qa Qa) Qa (Ub LV Qa (Pj (hS12.sp [] Qa) (hG.starL 8 Qa) o.list (by omega)) Qa ?_))))))
 rintro e w14 ⟨_,rfl,(⟨hpe,rfl,hS14⟩ | ⟨sb,sm,s,g9,hpe,rfl,hS14⟩)⟩
 ·exact absurd hrd (by rw[hpe]; exact Bool.false_ne_true)
 refine⟨_,Qa, ?_⟩
 replace hS14:=hS14.jn Qa Qa
 refine Qd Qa Qa (Q9 Qa Qa Qa (Q9 Qa Qa Qa (Ql Qa Qa (Qi Qa Xm Qa ?_))))
 (refine QC hS14 Qa Qa DT (by rfl) (i:=5) Qa (Xe Qa) ?_)
 intro w15 hS16; dsimp only[List.set]at hS16
 refine Qh (Qe (Qk [0,4,5] Qa (Qg (Qg (Qb (Qd Qa Qa (Ql Qa Qa (Qi Qa Xm Qa (Qp Qa Z8 (hS16.cell 5 Qa Qa) Qa (Ql Qa Qa (Qi Qa ZH Qa (Qp Qa ZZ (hS16.cell 0 Qa Qa) Qa (Kd 1 hS16 underlying89 Qa Qa Qa ?_)))))))))))))
 intro RR left0 w17 hS17; dsimp only[List.set]at hS17
 refine Qh (Qe (Qk [0,4,5,66] Qa (QD (XD (fun K0 E0 W0=> ∃(g:Int→Option Value) (dn:Int→Prop) (cur:Option Int) (left:Nat),K0=left∧E0=[(0,ptrV e 0),(5,ptrV ob 0),(66,ptrV RR 0)]∧Sat W0 [YK Za sm RR g dn cur left,QR sb [strV s.state,intV s.count,.map (some sm)],QR e (U6 dp1 cv1 (ptrV sb 0) (.pointer none) {E with D:=D1,cell:=some C1,kind:=1,move:=m.move}),dT dp1 D1,JR dp1 cv1 (some C1),QR ob [intV o.move,.map (some om),intV o.many,.map (some on),strV o.list],XI Za on (Yj o.pages),F]∧(MapG (TZ o) s.pages dn g)) (L0:=[(0,_),(5,_),(66,_)]) (left0) (Dh Qa Qa Qa) ⟨_,_,_,left0,rfl,rfl,hS17.pick [1,0,5,6,7,2,4,10] Qa,MapG.start⟩ ?_))))
 rintro _ _ w18 ⟨g,dn,cur,left,rfl,rfl,hS18,hmg⟩
 refine Qg (Qb (RQ 0 hS18 keysInt.inj Qa Qa Qa (fun hdone=> ?_) (fun k v9 left2 wN hleft hgk hnd hSN=> ?_)))
 ·refine Q9 Qa Qa Qa (Qh (Qe (Qg (QF Qa (Xu (Q1 (Q1 (QJ (Qe (Qg (Qb (Qd Qa Qa (Qd Qa Qa (Qd Qa Qa (Ql Qa Qa (Qi Qa Ug Qa ?_))))))))))))))))
  (refine QC hS18 Qa Qa Jy (by rfl) (i:=2) Qa (Xe Qa) ?_)
  intro w19 hS20; dsimp only[List.set]at hS20
  refine Ql Qa Qa (Qi Qa Zo Qa ?_)
  (refine QC hS20 Qa Qa Jy (by rfl) (i:=2) Qa (Xe Qa) ?_)
  intro w21 hS22; dsimp only[List.set]at hS22
  refine Ql Qa Qa (Qi Qa Jf Qa ?_)
  (refine QC hS22 Qa Qa Jy (by rfl) (i:=2) Qa (Xe Qa) ?_)
  intro w23 hS24; dsimp only[List.set]at hS24
  refine Qh (Qe (DI (L':=[]) .nil (Qg (Qb (Qc Qa Qa (Qh (Qe (Qo (Q7 (.inr Qa) Qa Qa ?_)))))))))
  have hz:=Vq (hS24.pick [0,1,2,3,4,7] Qa)
  rw[hmg.fin hdone,←IB]at hz
  exact⟨_,rfl, by rw[PC (by omega) hn0 e2 hq_o (by omega) hpe]; exact(Sat.row_nil Z4 (Qu (E:={{E with D:=D1,cell:=some C1,kind:=1,move:=m.move}with off:=none,ses:=some {s with pages:=U0 o s.pages},told:=false,active:=false,frozen:=false}) (dp:=dp1) ((Wh (Xg (s:={s with pages:=U0 o s.pages}) (hz.reorder [1,0,2,3,4,5] Qa))).reorder [2,3,4,1,0,5] Qa)))⟩
 dsimp only[List.set]at hSN
 obtain⟨p,hp,rfl⟩:=OM (((hmg k).2 hnd).symm.trans hgk)
 refine Q9 Qa Qa Qa (Qh (Qe (Qg (QL Qa (Qr (Qe (QD (Qg (Qb (Ke 0 hSN Qa hgk Qa Qa (Q9 Qa Qa Qa (Q9 Qa Qa Qa (Xk hSN Wg Qa Qa ?_)))))))))))))
 intro b25 w25 hS25
 clear hSN
 refine Qc Qa Qa ?_
 (refine QX hS25 Qa Qa Vl Qa (by rfl) (i:=0) Qa (by decide) ?_)
 intro w26 hS27; dsimp only[List.set]at hS27
 refine Qh (Qe (Qg (Qb (Qd Qa Qa (Ql Qa Qa (Qi Qa HN Qa (Qp Qa ZZ (hS27.cell 6 Qa Qa) Qa (Qd Qa Qa (Hy (k:=k) 7 hS27 keysInt underlying89 Qa Qa Qa Wg (YB o.pages k) Qa (Xk hS27 Wg Qa Qa ?_))))))))))
 intro b28 w28 hS28
 (refine QX hS28 Qa Qa Vl Qa (by rfl) (i:=0) Qa (by decide) ?_)
 intro w29 hS30; dsimp only[List.set]at hS30
 refine Qh (Qe (Qk [66,5,0,7,6,8] Qa (Qg (Qb (Qi Qa UJ Qa (Qp Qa QK (by first | exact hS30.cell 0 Qa Qa | exact hS30.cell 1 Qa Qa) Qa ?_))))))
 refine Qi Qa UJ Qa (Qp Qa QK (by first | exact hS30.cell 0 Qa Qa | exact hS30.cell 1 Qa Qa) Qa ?_)
 refine QO Qa Qa Qa (Qd Qa Qa (Q3 83 Qa (fun h31=> ?_) (fun h31=> ?_)))
 ·refine Qj Qa Qa (Q8 h31) (Qi Qa Rd Qa (Qj Qa Qa (Q8 h31) (Qp Qa Zw (hS30.cell 0 Qa Qa) Qa (Qj Qa Qa (Q8 h31) (Zs underlying9 Qa Qa (Qj Qa Qa (Q8 h31) (QO Qa Qa Qa (Qx Qa (Q8 h31) Qa Qa (Qh (Qe (Qk [66,5,0,7,6,8,88] Qa (Qw Qa (fun h32=> ?_) (fun h32=> ?_)))))))))))))
  ·have hS33:=hS30.drew
   refine QT [0,1,2,3,4,5,6,7,8,9,10,11,12,13] [13] Jk (by kernel_rfl) ?_
   refine QM Qa Qa Qa (Xw Qa Qa Qa (QQ Qa Qa Qa Xm (QH Qa Qa Qa (Qn Qa Z8 (hS33.cell 4 Qa Qa)) (Xw Qa Qa Qa (QQ Qa Qa Qa ZH (QH Qa Qa Qa (Qn Qa ZZ (hS33.cell 3 Qa Qa)) (QM Qa Qa Qa (QQ Qa Qa Qa Rd (QH Qa Qa Qa (Qn Qa Zw (hS33.cell 0 Qa Qa)) (QQ Qa Qa Qa UJ (QH Qa Qa Qa (Qn Qa QK (hS33.cell 1 Qa Qa)) (QG Qa Qa Qa (fun _=>(Wb Qa YU U3 Wg Qa)) ?_))))))))))))
   refine Xb Qa Qa Qa Qa Qa Qa ?_
   refine UT (k:=k) (v:=Rr ⟨(VZ (QN o.pages k)).data,p.ver,0,false⟩) 2 hS33 keysInt underlying89 Qa hgk Qa Qa Qa ?_
   intro w34 hS34; dsimp only[List.set]at hS34
   refine ZG (XC (by kernel_rfl)) ?_
   refine VC.nil (Qq ?_)
   exact QY (L1:=[(0,_),(5,_),(66,_)]) (Dh Qa Qa Qa) (k1:=left2) (by omega) ⟨_,_,_,_,rfl,rfl,hS34.pick [2,3,4,5,6,7,8,9] Qa,(by have hz:=hmg.next hp; rw[Aw (by omega) (by omega)]at hz; exact hz)⟩
  exact Qr (Qq (QY (L1:=[(0,_),(5,_),(66,_)]) (Dh Qa Qa Qa) (k1:=left2) (by omega) ⟨_,_,_,_,rfl,rfl,hS30.pick [2,3,4,5,6,7,8,9] Qa,(hmg.skip hp (Sc (by omega)) hnd)⟩))
 exact Qf Qa Qa (Qv h31) Qa (Qf Qa Qa (Qv h31) Qa (Qf Qa Qa (Qv h31) Qa (Qf Qa Qa (Qv h31) Qa (Qz Qa (Qv h31) Qa Qa (Qh (Qe (Qk [66,5,0,7,6,8,88] Qa (QF Qa (Qr (Qq (QY (L1:=[(0,_),(5,_),(66,_)]) (Dh Qa Qa Qa) (k1:=left2) (by omega) ⟨_,_,_,_,rfl,rfl,hS30.pick [2,3,4,5,6,7,8,9] Qa,(hmg.skip hp (Sc (by omega)) hnd)⟩)))))))))))
theorem CR {w:World} {e:Nat} {E:EnD} {F:Th} (hS:Sat w [Xs e E,F]) (m:MsD) (hG:Ent F WireG) (hO:Ent F (Glob 0)) (hW:EW E) (hm:MsW m) (hu:E.cell≠none):
    Calls prog 73 #[ptrV e 0,.agg #[intV m.kind,intV m.move,intV m.a,intV m.b,strV m.data]] w (Ret fun v w'=>Sat w' [rowT Z4 v [],Xs e (XB E m),F]):= by
  cases ho:E.off with
  | none=> exact PJ hS m hG hO hW hm hu ho
  | some o=> exact PH hS m hG hO hW hm hu ho
