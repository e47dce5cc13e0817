/- move: hearGone, hearGiven -/
import Derived.Test.YtiibgheijbbmaaaGreatDoorMvy4
set_option linter.unusedVariables false
set_option maxRecDepth 100000
set_option maxHeartbeats 100000000000
namespace Go.Proofs.YtiibgheijbbmaaaGreatDoor
open Go.RowKit M Proofs.Tryz
def Mm (o:OfD) (e:Int×PgD):PgD:= match Xg o.pages e.1 with
  | none=>e.2
  | some g=> if g.ver=e.2.ver∧g.data.length=64 then⟨g.data,e.2.ver,0,false⟩else e.2
section
variable {E E1:EnD} {m:MsD} {o:OfD} {s:SeD} {p:PgD} {k:Int} {g:Bool}
theorem ES (l:AL PgD):Ml o l=l.map fun e=>(e.1,Mm o e):=rfl
theorem FX (h:(Vl (Xg o.pages k)).ver=p.ver) (h2:(Vl (Xg o.pages k)).data.length=64):Mm o (k,p)=⟨(Vl (Xg o.pages k)).data,p.ver,0,false⟩:= by
  unfold Mm
  dsimp only
  cases q:Xg o.pages k with
  | none=> rw[q]at h2; cases h2
  | some x=> rw[q]at h h2; dsimp only; rw[if_pos (show x.ver=p.ver∧x.data.length=64 from⟨h,h2⟩)];rfl
theorem Nh (h: ¬((Vl (Xg o.pages k)).ver=p.ver∧(Vl (Xg o.pages k)).data.length=64)):Mm o (k,p)=p:= by
  unfold Mm
  dsimp only
  cases q:Xg o.pages k with
  | none=>rfl
  | some x=> rw[q]at h; dsimp only; rw[if_neg (show ¬(x.ver=p.ver∧x.data.length=64) from h)]
theorem Rm (h:E.kind≠2∨m.move≠E.move):Zp E m=E:= by unfold Zp; rw[if_pos h]
theorem CO (h: ¬(E.kind≠2∨m.move≠E.move)) (h2:(QT E 1 m.move).1≠0):Zp E m=(QT E 1 m.move).2:= by unfold Zp; rw[if_neg h,if_pos h2]
theorem CN (h: ¬(E.kind≠2∨m.move≠E.move)) (h2:(QT E 1 m.move).1=0) (e:(QT E 1 m.move).2=E1) (ho:E.off=none∨ ∃o,E.off=some o∧o.move≠m.move):Zp E m={E1 with off:=none}:= by
  unfold Zp; rw[if_neg h,if_neg (by omega),e]
  rcases ho with q | ⟨o,q,r⟩
  · rw[q]
  · rw[q]; dsimp only; rw[if_pos r]
theorem CM (h: ¬(E.kind≠2∨m.move≠E.move)) (h2:(QT E 1 m.move).1=0) (e:(QT E 1 m.move).2=E1) (ho:E.off=some o) (hm:o.move=m.move) (hp:Wy o.list=(some s,g)):Zp E m={E1 with off:=none,ses:=some {s with pages:=Ml o s.pages},told:=false,active:=false,frozen:=false}:= by
  unfold Zp; rw[if_neg h,if_neg (by omega),e,ho]
  dsimp only
  rw[if_neg (by omega),hp];rfl
end
theorem CL {w:World} {e:Nat} {E:EnD} {F:Th} (hS:Sat w [Xw e E,F]) (m:MsD) (hW:EW E):
    Calls prog 76 #[ptrV e 0,.agg #[intV m.kind,intV m.move,intV m.a,intV m.b,strV m.data]] w (Ret fun v w'=>Sat w' [rowT Zn v ((WK E m,([]:List Bs))).2,Xw e ((WK E m,([]:List Bs))).1,F]):= by
 obtain⟨dp,cv,sv,ov,hS⟩:=QU hS
 refine Qy func76 Qa ntmps76 Qa ?_
 refine Qf (Qb (Za hS Qa Qa Qa ?_))
 intro mp w1 hS1
 replace hS1:Sat w1 (Xb mp [intV m.kind,intV m.move,intV m.a,intV m.b,strV m.data]::_):=hS1
 refine Qc Qa Qa (Qh (Qd (Qf (Qf ?_))))
 have hS2:=hS1.drew
 refine QN [0,1,2,3,4,5,6,7,8,9,10,11,12,13,14,15,16,17,18,19,20,21,22,23,24,25,26] [23] W5 (by kernel_rfl) ?_
 refine QI Qa Qa Qa (Xn Qa Qa Qa (QO Qa Qa Qa Zh (QF Qa Qa Qa (Qn Qa QH (hS2.cell 1 Qa Qa)) (Q9 Qa Qa Qa (fun _=>(Ya Qa Qa)) ?_))))
 refine QI Qa Qa Qa (XB 10 Qa (fun h3=> ?_) (fun h3=> ?_))
 ·refine Q9 Qa Qa (Qp Qa Qa (QD h3)) (fun _=>(Ev.gd (QS Qa Zz))) ?_
  refine QF Qa Qa (Qp Qa Qa (QD h3)) (Ev.gd (Qn Qa QH (hS2.cell 0 Qa Qa))) (Q9 Qa Qa (Qp Qa Qa (QD h3)) (fun _=>(Ev.gd (Xk Qa))) ?_)
  refine Q9 Qa Qa (Qp Qa Qa (QD h3)) (fun _=>(Ev.gd (Xy Qa))) ?_
  refine Q9 Qa Qa (Qp Qa Qa (QD h3)) (fun _=>(Ev.gd (QS Qa Wp))) ?_
  refine QF Qa Qa (Qp Qa Qa (QD h3)) (Ev.gd (Qn Qa QH (hS2.cell 1 Qa Qa))) (Q9 Qa Qa (Qp Qa Qa (QD h3)) (fun _=>(Ev.gd (Ya Qa Qa))) ?_)
  refine Q9 Qa Qa Qa (fun _=>(Xz Qa (QD h3) Qa)) ?_
  refine QI Qa Qa Qa (XB 19 Qa (fun h4=> ?_) (fun h4=> ?_))
  ·refine Q9 Qa Qa (Qp Qa Qa (QD h4)) (fun _=>(Ev.gd (Xk Qa))) ?_
   refine Q9 Qa Qa (Qp Qa Qa (QD h4)) (fun _=>(Ev.gd (Xy Qa))) ?_
   refine Q9 Qa Qa (Qp Qa Qa (QD h4)) (fun _=>(Ev.gd (QS Qa XL))) ?_
   refine QF Qa Qa (Qp Qa Qa (QD h4)) (Ev.gd (Qn Qa J2 (hS2.cell 1 Qa Qa))) (Q9 Qa Qa (Qp Qa Qa (QD h4)) (fun _=>(Ev.gd (Gm Qa))) ?_)
   refine Q9 Qa Qa Qa (fun _=>(Xz Qa (QD h4) Qa)) ?_
   refine QI Qa Qa Qa (TO 26 Qa (fun h5=> ?_) (fun h5=> ?_))
   ·have hac:E.active=false:= by simpa using h5
    refine Q9 Qa Qa (Qp Qa Qa h5) (fun _=>(Ev.gd (Xk Qa))) ?_
    have hS6:=Qu (E:=E) (hS2.pick [1,2,3,4,5,0,6] Qa)
    refine QV Qa Qa (Qp Qa Qa h5) Qa Qa Qa ?_
    refine Q0 KJ Qa (Yv (hS6.sp [0] Qa) hW.ses) Qa ?_
    rintro _ w7 hS7
    replace hS7:=hS7.jn Qa Qa
    have h1v:=hS7.own_one 0 Qa
    refine Xd (Xq (by kernel_rfl)) ?_
    obtain⟨ao,cap,hv8,_⟩:=hS7.own_shape 0 rfl
    obtain rfl:=hv8
    refine Q9 Qa Qa (Qp Qa Qa h5) (fun _=>(Ev.gd (Bq underlying33 Qa))) ?_
    refine Q9 Qa Qa (Qp Qa Qa h5) (fun _=>(Ev.gd (Db Qa Qa))) ?_
    refine Q9 Qa Qa Qa (fun _=>(Xz Qa h5 Qa)) ?_
    refine VC.nil (Qd (Qk [0,4,31] Qa (Qv Qa (fun h9=> ?_) (fun h9=> ?_))))
    ·have hms:((QY E).length:Int)>0:=h9
     obtain⟨dp,cv,sv,ov,hS10⟩:=QU (hS7.pick [1,0,2,3] rfl)
     refine Qb (Qe Qa Qa (Ql Qa Qa (Qi Qa Xt Qa ?_)))
     (refine Qw hS10 Qa Qa Yf (by rfl) (i:=0) Qa (QC Qa) ?_)
     intro w11 hS12; dsimp only[List.set]at hS12
     refine Qh (Qd (Qf (Qb (Qc Qa Qa (Qh (Qd (Qo (Q5 (.inr Qa) Qa Qa ?_))))))))
     exact⟨_,rfl, by unfold WK; rw[if_pos ⟨by omega, by omega,hac, fun q=> by rw[q]at hms; simp at hms⟩]; exact(Sat.row_nil Zn (Qu (E:={E with ses:=none}) (dp:=dp) ((ZQ (hS12.pick [0,1,2,4,7] Qa)).reorder [1,2,3,0,4,5] Qa)))⟩
    have hmn:QY E=[]:=List.eq_nil_of_length_eq_zero (by have q9:=h9;omega)
    refine Qt (Qd (Qf (Qb (Qc Qa Qa (Qh (Qd (Qo (Q5 (.inr Qa) Qa Qa ?_))))))))
    exact⟨_,rfl, by unfold WK; rw[if_neg (by rintro⟨q1,q2,q3,q4⟩; exact q4 hmn)]; exact(Sat.row_nil Zn (hS7.pick [1,3] rfl))⟩
   have hac:E.active=true:= by simpa using h5
   refine Q2 Qa Qa (Qs Qa Qa h5) (VC.spineNot Qa Qa (Qs Qa Qa h5) (Q2 Qa Qa (Qs Qa Qa h5) (Q2 Qa Qa (Qs Qa Qa h5) (Q9 Qa Qa Qa (fun _=>(Xi Qa h5 Qa)) ?_))))
   refine VC.nil (Qd (Qk [0,4,31] Qa (QJ Qa (Qt (Qd (Qf (Qb (Qc Qa Qa (Qh (Qd (Qo (Q5 (.inr Qa) Qa Qa ?_))))))))))))
   exact⟨_,rfl, by unfold WK; rw[if_neg (by rintro⟨q1,q2,q3,q4⟩;first | omega | (rw[hac]at q3; cases q3;done))]; exact(Sat.row_nil Zn (Qu (E:=E) ((hS2.pick [1,2,3,4,5,6] rfl))))⟩
  refine Q2 Qa Qa (Qs Qa Qa (Qx h4)) (Q2 Qa Qa (Qs Qa Qa (Qx h4)) (Q2 Qa Qa (Qs Qa Qa (Qx h4)) (Q2 Qa Qa (Qs Qa Qa (Qx h4)) (Q2 Qa Qa (Qs Qa Qa (Qx h4)) (Q9 Qa Qa Qa (fun _=>(Xi Qa (Qx h4) Qa)) ?_)))))
  refine QI Qa Qa Qa (Q2 Qa Qa (Qs Qa Qa Qa) (VC.spineNot Qa Qa (Qs Qa Qa Qa) (Q2 Qa Qa (Qs Qa Qa Qa) (Q2 Qa Qa (Qs Qa Qa Qa) (Q9 Qa Qa Qa (fun _=>(Xi Qa Qa Qa)) ?_)))))
  refine VC.nil (Qd (Qk [0,4,31] Qa (QJ Qa (Qt (Qd (Qf (Qb (Qc Qa Qa (Qh (Qd (Qo (Q5 (.inr Qa) Qa Qa ?_))))))))))))
  exact⟨_,rfl, by unfold WK; rw[if_neg (by rintro⟨q1,q2,q3,q4⟩;first | omega | (rw[hac]at q3; cases q3;done))]; exact(Sat.row_nil Zn (Qu (E:=E) ((hS2.pick [1,2,3,4,5,6] rfl))))⟩
 refine Q2 Qa Qa (Qs Qa Qa (Qx h3)) (Q2 Qa Qa (Qs Qa Qa (Qx h3)) (Q2 Qa Qa (Qs Qa Qa (Qx h3)) (Q2 Qa Qa (Qs Qa Qa (Qx h3)) (Q2 Qa Qa (Qs Qa Qa (Qx h3)) (Q2 Qa Qa (Qs Qa Qa (Qx h3)) (Q2 Qa Qa (Qs Qa Qa (Qx h3)) (Q9 Qa Qa Qa (fun _=>(Xi Qa (Qx h3) Qa)) ?_)))))))
 refine QI Qa Qa Qa (Q2 Qa Qa (Qs Qa Qa Qa) (Q2 Qa Qa (Qs Qa Qa Qa) (Q2 Qa Qa (Qs Qa Qa Qa) (Q2 Qa Qa (Qs Qa Qa Qa) (Q2 Qa Qa (Qs Qa Qa Qa) (Q9 Qa Qa Qa (fun _=>(Xi Qa Qa Qa)) ?_))))))
 refine QI Qa Qa Qa (Q2 Qa Qa (Qs Qa Qa Qa) (VC.spineNot Qa Qa (Qs Qa Qa Qa) (Q2 Qa Qa (Qs Qa Qa Qa) (Q2 Qa Qa (Qs Qa Qa Qa) (Q9 Qa Qa Qa (fun _=>(Xi Qa Qa Qa)) ?_)))))
 refine VC.nil (Qd (Qk [0,4,31] Qa (QJ Qa (Qt (Qd (Qf (Qb (Qc Qa Qa (Qh (Qd (Qo (Q5 (.inr Qa) Qa Qa ?_))))))))))))
 exact⟨_,rfl, by unfold WK; rw[if_neg (by rintro⟨q1,q2,q3,q4⟩;first | omega | (rw[hac]at q3; cases q3;done))]; exact(Sat.row_nil Zn (Qu (E:=E) ((hS2.pick [1,2,3,4,5,6] rfl))))⟩
theorem CQ {w:World} {e:Nat} {E:EnD} {F:Th} (hS:Sat w [Xw e E,F]) (m:MsD) (hG:Ent F WireG) (hO:Ent F (Glob 0)) (hW:EW E) (hm:MsW m) (hu:E.cell≠none) (hq_o:E.off=none):
    Calls prog 73 #[ptrV e 0,.agg #[intV m.kind,intV m.move,intV m.a,intV m.b,strV m.data]] w (Ret fun v w'=>Sat w' [rowT Zn v [],Xw e (Zp E m),F]):= by
 obtain⟨dp,cv,sv,ov,hS⟩:=QU hS
 refine Qy func73 Qa ntmps73 Qa ?_
 have hmi:X4 m.move:= by have :=hm.mv;unfold X4;omega
 refine Qf (Qb (Za hS Qa Qa Qa ?_))
 intro mp w1 hS1
 replace hS1:Sat w1 (Xb mp [intV m.kind,intV m.move,intV m.a,intV m.b,strV m.data]::_):=hS1
 refine Qc Qa Qa (Qh (Qd (Qf (Qf ?_))))
 have hS2:=hS1.drew
 refine QN [0,1,2,3,4,5,6,7,8,9,10,11,12,13,14,15,16,17,18,19,20] [18] W5 (by kernel_rfl) ?_
 refine QI Qa Qa Qa (Xn Qa Qa Qa (QO Qa Qa Qa Zh (QF Qa Qa Qa (Qn Qa QH (hS2.cell 1 Qa Qa)) (Q9 Qa Qa Qa (fun _=>(JZ Qa Qa)) ?_))))
 refine QI Qa Qa Qa (XB 14 Qa (fun h3=> ?_) (fun h3=> ?_))
 ·refine Q2 Qa Qa (Qs Qa Qa (QD h3)) (Q2 Qa Qa (Qs Qa Qa (QD h3)) (Q2 Qa Qa (Qs Qa Qa (QD h3)) (Q2 Qa Qa (Qs Qa Qa (QD h3)) (Q2 Qa Qa (Qs Qa Qa (QD h3)) (Q2 Qa Qa (Qs Qa Qa (QD h3)) (Q2 Qa Qa (Qs Qa Qa (QD h3)) (Q9 Qa Qa Qa (fun _=>(Xz Qa (QD h3) Qa)) ?_)))))))
  refine QI Qa Qa Qa (Q2 Qa Qa (Qs Qa Qa Qa) (Q2 Qa Qa (Qs Qa Qa Qa) (Q2 Qa Qa (Qs Qa Qa Qa) (VC.spineNot Qa Qa (Qs Qa Qa Qa) (Q2 Qa Qa (Qs Qa Qa Qa) (Q9 Qa Qa Qa (fun _=>(Xz Qa Qa Qa)) ?_))))))
  refine VC.nil (Qd (Qk [0,3,4,29] Qa (QP Qa (Qf (Qb (Qc Qa Qa (Qh (Qd (Qo (Qm (Q5 (.inr Qa) Qa Qa ?_)))))))))))
  exact⟨_,rfl, by rw[Rm (by omega)]; exact(Sat.row_nil Zn (Qu (E:=E) ((hS2.pick [1,2,3,4,5,6] Qa))))⟩
 refine Q9 Qa Qa (Qp Qa Qa (Qx h3)) (fun _=>(Ev.gd (QS Qa Zz))) ?_
 refine QF Qa Qa (Qp Qa Qa (Qx h3)) (Ev.gd (Qn Qa QH (hS2.cell 0 Qa Qa))) (Q9 Qa Qa (Qp Qa Qa (Qx h3)) (fun _=>(Ev.gd (Xk Qa))) ?_)
 refine Q9 Qa Qa (Qp Qa Qa (Qx h3)) (fun _=>(Ev.gd (Xy Qa))) ?_
 refine Q9 Qa Qa (Qp Qa Qa (Qx h3)) (fun _=>(Ev.gd (QS Qa Wp))) ?_
 refine QF Qa Qa (Qp Qa Qa (Qx h3)) (Ev.gd (Qn Qa QH (hS2.cell 1 Qa Qa))) (Q9 Qa Qa (Qp Qa Qa (Qx h3)) (fun _=>(Ev.gd (JZ Qa Qa))) ?_)
 refine Q9 Qa Qa Qa (fun _=>(Xi Qa (Qx h3) Qa)) ?_
 refine QI Qa Qa Qa (XB 23 Qa (fun h4=> ?_) (fun h4=> ?_))
 ·refine Q2 Qa Qa (Qs Qa Qa (QD h4)) (Q2 Qa Qa (Qs Qa Qa (QD h4)) (Q2 Qa Qa (Qs Qa Qa (QD h4)) (VC.spineNot Qa Qa (Qs Qa Qa (QD h4)) (Q2 Qa Qa (Qs Qa Qa (QD h4)) (Q9 Qa Qa Qa (fun _=>(Xz Qa (QD h4) Qa)) ?_)))))
  refine VC.nil (Qd (Qk [0,3,4,29] Qa (QP Qa (Qf (Qb (Qc Qa Qa (Qh (Qd (Qo (Qm (Q5 (.inr Qa) Qa Qa ?_)))))))))))
  exact⟨_,rfl, by rw[Rm (by omega)]; exact(Sat.row_nil Zn (Qu (E:=E) ((hS2.pick [1,2,3,4,5,6] Qa))))⟩
 refine Q9 Qa Qa (Qp Qa Qa (Qx h4)) (fun _=>(Ev.gd (Xk Qa))) ?_
 refine Q9 Qa Qa (Qp Qa Qa (Qx h4)) (fun _=>(Ev.gd (QS Qa Zz))) ?_
 refine QF Qa Qa (Qp Qa Qa (Qx h4)) (Ev.gd (Qn Qa QH (hS2.cell 0 Qa Qa))) ?_
 have hS5:=Qu (E:=E) (hS2.pick [1,2,3,4,5,0,6] Qa)
 refine QV Qa Qa (Qp Qa Qa (Qx h4)) Qa Qa Qa ?_
 refine Q0 VF Qa (Ul (hS5.sp [0] Qa) (hG.starL 1 Qa) (hO.starL 1 Qa) hu (k:=1) (m:=m.move) (XG (by decide)) hmi) Qa ?_
 rintro _ w6 ⟨rfl,hS6⟩
 replace hS6:=hS6.jn Qa Qa
 refine Xd (Xq (by kernel_rfl)) ?_
 refine Q9 Qa Qa (Qp Qa Qa (Qx h4)) (fun _=>(Ev.gd (JZ Qa Qa))) ?_
 refine Q9 Qa Qa Qa (fun _=>(Xi Qa (Qx h4) Qa)) ?_
 refine VC.nil (Qd (Qk [0,3,4,29] Qa (Qv Qa (fun h7=> ?_) (fun h7=> ?_))))
 ·have hbad:(QT E 1 m.move).1≠0:= by simpa using h7
  refine Qf (Qb (Qc Qa Qa (Qh (Qd (Qo (Qm (Q5 (.inr Qa) Qa Qa ?_)))))))
  exact⟨_,rfl, by rw[CO (by omega) hbad]; exact(Sat.row_nil Zn (hS6.pick [0,2] Qa))⟩
 have hn0:(QT E 1 m.move).1=0:= by simpa using h7
 refine Qt (Qd (Qf ?_))
 obtain⟨D1,C1,e2⟩:=JM hn0 hu
 rw[e2]at hS6
 obtain⟨dp1,cv1,sv1,ov1,hS8⟩:=QU (hS6.pick [0,1,2] rfl)
 dsimp only at hS8; rw[hq_o]at hS8
 obtain⟨rfl,hS9⟩:=RX (hS8.pick [4,0,1,2,3,5,6] rfl)
 replace hS9:Sat _ [Xb e (U0 dp1 cv1 sv1 (.pointer none) {E with D:=D1,cell:=some C1,kind:=1,move:=m.move}),dT dp1 D1,JE dp1 cv1 (some C1),Vk sv1 E.ses,_,F]:=hS9
 refine Qb (Qe Qa Qa (Ql Qa Qa (Qi Qa W2 Qa (Qr Qa Ut (hS9.cell 0 Qa Qa) Qa (Qc Qa Qa (Qh (Qd (Qf (Qb (Qe Qa Qa (Ql Qa Qa (Qi Qa W2 Qa ?_))))))))))))
 (refine Qw hS9 Qa Qa Vf (by rfl) (i:=0) Qa (QC Qa) ?_)
 intro w10 hS11; dsimp only[List.set]at hS11
 refine Qh (Qd (Qk [0,3,4,5] Qa (Qf (Qf ?_))))
 have hS12:=hS11.drew
 refine QN [0,1,2,3,4,5,6,7,8,9,10] [] W5 (by kernel_rfl) ?_
 refine QI Qa Qa Qa (Q9 Qa Qa Qa (fun _=>(UZ underlying79 Qa Qa)) ?_)
 refine QI Qa Qa Qa (Q2 Qa Qa (Qs Qa Qa Qa) (Q2 Qa Qa (Qs Qa Qa Qa) (Q2 Qa Qa (Qs Qa Qa Qa) (Q2 Qa Qa (Qs Qa Qa Qa) (Q2 Qa Qa (Qs Qa Qa Qa) (Q2 Qa Qa (Qs Qa Qa Qa) (Q2 Qa Qa (Qs Qa Qa Qa) (Q9 Qa Qa Qa (fun _=>(Xz Qa Qa Qa)) ?_))))))))
 refine VC.nil (Qd (Qk [0,4,5,47] Qa (QP Qa (Qf (Qb (Qc Qa Qa (Qh (Qd (Qo (Qm (Q5 (.inr Qa) Qa Qa ?_)))))))))))
 exact⟨_,rfl, by rw[CN (by omega) hn0 e2 (.inl hq_o)]; exact(Sat.row_nil Zn (Qu (E:={{E with D:=D1,cell:=some C1,kind:=1,move:=m.move}with off:=none}) (dp:=dp1) ((ZR (hS12.pick [0,1,2,3,5] Qa)).reorder [1,2,3,4,0,5] Qa)))⟩
theorem CP {w:World} {e:Nat} {E:EnD} {F:Th} (hS:Sat w [Xw e E,F]) (m:MsD) (hG:Ent F WireG) (hO:Ent F (Glob 0)) (hW:EW E) (hm:MsW m) (hu:E.cell≠none) {o:OfD} (hq_o:E.off=some o):
    Calls prog 73 #[ptrV e 0,.agg #[intV m.kind,intV m.move,intV m.a,intV m.b,strV m.data]] w (Ret fun v w'=>Sat w' [rowT Zn v [],Xw e (Zp E m),F]):= by
 obtain⟨dp,cv,sv,ov,hS⟩:=QU hS
 refine Qy func73 Qa ntmps73 Qa ?_
 have hmi:X4 m.move:= by have :=hm.mv;unfold X4;omega
 refine Qf (Qb (Za hS Qa Qa Qa ?_))
 intro mp w1 hS1
 replace hS1:Sat w1 (Xb mp [intV m.kind,intV m.move,intV m.a,intV m.b,strV m.data]::_):=hS1
 refine Qc Qa Qa (Qh (Qd (Qf (Qf ?_))))
 have hS2:=hS1.drew
 refine QN [0,1,2,3,4,5,6,7,8,9,10,11,12,13,14,15,16,17,18,19,20] [18] W5 (by kernel_rfl) ?_
 refine QI Qa Qa Qa (Xn Qa Qa Qa (QO Qa Qa Qa Zh (QF Qa Qa Qa (Qn Qa QH (hS2.cell 1 Qa Qa)) (Q9 Qa Qa Qa (fun _=>(JZ Qa Qa)) ?_))))
 refine QI Qa Qa Qa (XB 14 Qa (fun h3=> ?_) (fun h3=> ?_))
 ·refine Q2 Qa Qa (Qs Qa Qa (QD h3)) (Q2 Qa Qa (Qs Qa Qa (QD h3)) (Q2 Qa Qa (Qs Qa Qa (QD h3)) (Q2 Qa Qa (Qs Qa Qa (QD h3)) (Q2 Qa Qa (Qs Qa Qa (QD h3)) (Q2 Qa Qa (Qs Qa Qa (QD h3)) (Q2 Qa Qa (Qs Qa Qa (QD h3)) (Q9 Qa Qa Qa (fun _=>(Xz Qa (QD h3) Qa)) ?_)))))))
  refine QI Qa Qa Qa (Q2 Qa Qa (Qs Qa Qa Qa) (Q2 Qa Qa (Qs Qa Qa Qa) (Q2 Qa Qa (Qs Qa Qa Qa) (VC.spineNot Qa Qa (Qs Qa Qa Qa) (Q2 Qa Qa (Qs Qa Qa Qa) (Q9 Qa Qa Qa (fun _=>(Xz Qa Qa Qa)) ?_))))))
  refine VC.nil (Qd (Qk [0,3,4,29] Qa (QP Qa (Qf (Qb (Qc Qa Qa (Qh (Qd (Qo (Qm (Q5 (.inr Qa) Qa Qa ?_)))))))))))
  exact⟨_,rfl, by rw[Rm (by omega)]; exact(Sat.row_nil Zn (Qu (E:=E) ((hS2.pick [1,2,3,4,5,6] Qa))))⟩
 refine Q9 Qa Qa (Qp Qa Qa (Qx h3)) (fun _=>(Ev.gd (QS Qa Zz))) ?_
 refine QF Qa Qa (Qp Qa Qa (Qx h3)) (Ev.gd (Qn Qa QH (hS2.cell 0 Qa Qa))) (Q9 Qa Qa (Qp Qa Qa (Qx h3)) (fun _=>(Ev.gd (Xk Qa))) ?_)
 refine Q9 Qa Qa (Qp Qa Qa (Qx h3)) (fun _=>(Ev.gd (Xy Qa))) ?_
 refine Q9 Qa Qa (Qp Qa Qa (Qx h3)) (fun _=>(Ev.gd (QS Qa Wp))) ?_
 refine QF Qa Qa (Qp Qa Qa (Qx h3)) (Ev.gd (Qn Qa QH (hS2.cell 1 Qa Qa))) (Q9 Qa Qa (Qp Qa Qa (Qx h3)) (fun _=>(Ev.gd (JZ Qa Qa))) ?_)
 refine Q9 Qa Qa Qa (fun _=>(Xi Qa (Qx h3) Qa)) ?_
 refine QI Qa Qa Qa (XB 23 Qa (fun h4=> ?_) (fun h4=> ?_))
 ·refine Q2 Qa Qa (Qs Qa Qa (QD h4)) (Q2 Qa Qa (Qs Qa Qa (QD h4)) (Q2 Qa Qa (Qs Qa Qa (QD h4)) (VC.spineNot Qa Qa (Qs Qa Qa (QD h4)) (Q2 Qa Qa (Qs Qa Qa (QD h4)) (Q9 Qa Qa Qa (fun _=>(Xz Qa (QD h4) Qa)) ?_)))))
  refine VC.nil (Qd (Qk [0,3,4,29] Qa (QP Qa (Qf (Qb (Qc Qa Qa (Qh (Qd (Qo (Qm (Q5 (.inr Qa) Qa Qa ?_)))))))))))
  exact⟨_,rfl, by rw[Rm (by omega)]; exact(Sat.row_nil Zn (Qu (E:=E) ((hS2.pick [1,2,3,4,5,6] Qa))))⟩
 refine Q9 Qa Qa (Qp Qa Qa (Qx h4)) (fun _=>(Ev.gd (Xk Qa))) ?_
 refine Q9 Qa Qa (Qp Qa Qa (Qx h4)) (fun _=>(Ev.gd (QS Qa Zz))) ?_
 refine QF Qa Qa (Qp Qa Qa (Qx h4)) (Ev.gd (Qn Qa QH (hS2.cell 0 Qa Qa))) ?_
 have hS5:=Qu (E:=E) (hS2.pick [1,2,3,4,5,0,6] Qa)
 refine QV Qa Qa (Qp Qa Qa (Qx h4)) Qa Qa Qa ?_
 refine Q0 VF Qa (Ul (hS5.sp [0] Qa) (hG.starL 1 Qa) (hO.starL 1 Qa) hu (k:=1) (m:=m.move) (XG (by decide)) hmi) Qa ?_
 rintro _ w6 ⟨rfl,hS6⟩
 replace hS6:=hS6.jn Qa Qa
 refine Xd (Xq (by kernel_rfl)) ?_
 refine Q9 Qa Qa (Qp Qa Qa (Qx h4)) (fun _=>(Ev.gd (JZ Qa Qa))) ?_
 refine Q9 Qa Qa Qa (fun _=>(Xi Qa (Qx h4) Qa)) ?_
 refine VC.nil (Qd (Qk [0,3,4,29] Qa (Qv Qa (fun h7=> ?_) (fun h7=> ?_))))
 ·have hbad:(QT E 1 m.move).1≠0:= by simpa using h7
  refine Qf (Qb (Qc Qa Qa (Qh (Qd (Qo (Qm (Q5 (.inr Qa) Qa Qa ?_)))))))
  exact⟨_,rfl, by rw[CO (by omega) hbad]; exact(Sat.row_nil Zn (hS6.pick [0,2] Qa))⟩
 have hn0:(QT E 1 m.move).1=0:= by simpa using h7
 refine Qt (Qd (Qf ?_))
 obtain⟨D1,C1,e2⟩:=JM hn0 hu
 rw[e2]at hS6
 obtain⟨dp1,cv1,sv1,ov1,hS8⟩:=QU (hS6.pick [0,1,2] rfl)
 dsimp only at hS8; rw[hq_o]at hS8
 obtain⟨ob,om,on,rfl,hS9⟩:=RW (hS8.pick [4,0,1,2,3,5,6] rfl)
 refine Qb (Qe Qa Qa (Ql Qa Qa (Qi Qa W2 Qa (Qr Qa Ut (hS9.cell 3 Qa Qa) Qa (Qc Qa Qa (Qh (Qd (Qf (Qb (Qe Qa Qa (Ql Qa Qa (Qi Qa W2 Qa ?_))))))))))))
 (refine Qw hS9 Qa Qa Vf (by rfl) (i:=3) Qa (QC Qa) ?_)
 intro w10 hS11; dsimp only[List.set]at hS11
 refine Qh (Qd (Qk [0,3,4,5] Qa (Qf (Qf ?_))))
 have hS12:=hS11.drew
 refine QN [0,1,2,3,4,5,6,7,8,9,10] [] W5 (by kernel_rfl) ?_
 refine QI Qa Qa Qa (Q9 Qa Qa Qa (fun _=>(Gn underlying79 Qa Qa)) ?_)
 refine QI Qa Qa Qa (Q9 Qa Qa (Qp Qa Qa Qa) (fun _=>(Ev.gd (Xk Qa))) ?_)
 refine Q9 Qa Qa (Qp Qa Qa Qa) (fun _=>(Ev.gd (Xy Qa))) ?_
 refine Q9 Qa Qa (Qp Qa Qa Qa) (fun _=>(Ev.gd (QS Qa Ry))) ?_
 refine QF Qa Qa (Qp Qa Qa Qa) (Ev.gd (Qn Qa QH (hS12.cell 0 Qa Qa))) (Q9 Qa Qa (Qp Qa Qa Qa) (fun _=>(Ev.gd (QS Qa Zz))) ?_)
 refine QF Qa Qa (Qp Qa Qa Qa) (Ev.gd (Qn Qa QH (hS12.cell 7 Qa Qa))) (Q9 Qa Qa (Qp Qa Qa Qa) (fun _=>(Ev.gd (JZ Qa Qa))) ?_)
 refine Q9 Qa Qa Qa (fun _=>(Xi Qa Qa Qa)) ?_
 refine VC.nil (Qd (Qk [0,4,5,47] Qa (Qv Qa (fun h13=> ?_) (fun h13=> ?_))))
 ·refine Qf (Qb (Qc Qa Qa (Qh (Qd (Qo (Qm (Q5 (.inr Qa) Qa Qa ?_)))))))
  exact⟨_,rfl, by rw[CN (by omega) hn0 e2 (.inr ⟨o,hq_o, by omega⟩)]; exact(Sat.row_nil Zn (Qu (E:={{E with D:=D1,cell:=some C1,kind:=1,move:=m.move}with off:=none}) (dp:=dp1) ((ZR (hS12.pick [3,4,5,6,8] Qa)).reorder [1,2,3,4,0,5] Qa)))⟩
 refine Qt (Qd (Qf ?_))
 have hrd:=hW.rdy (by omega) o hq_o (by omega)
 have hll:=(hW.off o hq_o).ln
 refine Qb (Qe Qa Qa (Qe Qa Qa (Ql Qa Qa (Qi Qa Nd Qa (Qr Qa Zx (hS12.cell 0 Qa Qa) Qa (YZ SC Qa (Cm (hS12.sp [] Qa) (hG.starL 8 Qa) o.list (by omega)) Qa ?_))))))
 rintro e w14 ⟨_,rfl,(⟨hpe,rfl,hS14⟩ | ⟨sb,sm,s,g9,hpe,rfl,hS14⟩)⟩
 ·exact absurd hrd (by rw[hpe]; exact Bool.false_ne_true)
 refine⟨_,Qa, ?_⟩
 replace hS14:=hS14.jn Qa Qa
 refine Qe Qa Qa (Q7 Qa Qa Qa (Q7 Qa Qa Qa (Ql Qa Qa (Qi Qa Xt Qa ?_))))
 (refine Qw hS14 Qa Qa Yf (by rfl) (i:=5) Qa (QC Qa) ?_)
 intro w15 hS16; dsimp only[List.set]at hS16
 refine Qh (Qd (Qk [0,4,5] Qa (Qf (Qf (Qb (Qe Qa Qa (Ql Qa Qa (Qi Qa Xt Qa (Qr Qa ZA (hS16.cell 5 Qa Qa) Qa (Ql Qa Qa (Qi Qa Z7 Qa (Qr Qa ZL (hS16.cell 0 Qa Qa) Qa (Vn 1 hS16 underlying89 Qa Qa Qa ?_)))))))))))))
 intro RR left0 w17 hS17; dsimp only[List.set]at hS17
 refine Qh (Qd (Qk [0,4,5,66] Qa (QK (XJ (fun K0 E0 W0=> ∃(g:Int→Option Value) (dn:Int→Prop) (cur:Option Int) (left:Nat),K0=left∧E0=[(0,ptrV e 0),(5,ptrV ob 0),(66,ptrV RR 0)]∧Sat W0 [Yu XH sm RR g dn cur left,Xb sb [strV s.state,intV s.count,.map (some sm)],Xb e (U0 dp1 cv1 (ptrV sb 0) (.pointer none) {E with D:=D1,cell:=some C1,kind:=1,move:=m.move}),dT dp1 D1,JE dp1 cv1 (some C1),Xb ob [intV o.move,.map (some om),intV o.many,.map (some on),strV o.list],X3 XH on (JT o.pages),F]∧(MapG (Mm o) s.pages dn g)) (L0:=[(0,_),(5,_),(66,_)]) (left0) (Dq Qa Qa Qa) ⟨_,_,_,left0,rfl,rfl,hS17.pick [1,0,5,6,7,2,4,10] Qa,MapG.start⟩ ?_))))
 rintro _ _ w18 ⟨g,dn,cur,left,rfl,rfl,hS18,hmg⟩
 refine Qf (Qb (KN 0 hS18 keysInt.inj Qa Qa Qa (fun hdone=> ?_) (fun k v9 left2 wN hleft hgk hnd hSN=> ?_)))
 ·refine Q7 Qa Qa Qa (Qh (Qd (Qf (QJ Qa (X6 (Q6 (Q6 (QR (Qd (Qf (Qb (Qe Qa Qa (Qe Qa Qa (Qe Qa Qa (Ql Qa Qa (Qi Qa HA Qa ?_))))))))))))))))
  (refine Qw hS18 Qa Qa XU (by rfl) (i:=2) Qa (QC Qa) ?_)
  intro w19 hS20; dsimp only[List.set]at hS20
  refine Ql Qa Qa (Qi Qa XL Qa ?_)
  (refine Qw hS20 Qa Qa XU (by rfl) (i:=2) Qa (QC Qa) ?_)
  intro w21 hS22; dsimp only[List.set]at hS22
  refine Ql Qa Qa (Qi Qa WC Qa ?_)
  (refine Qw hS22 Qa Qa XU (by rfl) (i:=2) Qa (QC Qa) ?_)
  intro w23 hS24; dsimp only[List.set]at hS24
  refine Qh (Qd (B4 (L':=[]) .nil (Qf (Qb (Qc Qa Qa (Qh (Qd (Qo (Q5 (.inr Qa) Qa Qa ?_)))))))))
  have hz:=UA (hS24.pick [0,1,2,3,4,7] Qa)
  rw[hmg.fin hdone,←ES]at hz
  exact⟨_,rfl, by rw[CM (by omega) hn0 e2 hq_o (by omega) hpe]; exact(Sat.row_nil Zn (Qu (E:={{E with D:=D1,cell:=some C1,kind:=1,move:=m.move}with off:=none,ses:=some {s with pages:=Ml o s.pages},told:=false,active:=false,frozen:=false}) (dp:=dp1) ((ZR (Xh (s:={s with pages:=Ml o s.pages}) (hz.reorder [1,0,2,3,4,5] Qa))).reorder [2,3,4,1,0,5] Qa)))⟩
 dsimp only[List.set]at hSN
 obtain⟨p,hp,rfl⟩:=Ea (((hmg k).2 hnd).symm.trans hgk)
 refine Q7 Qa Qa Qa (Qh (Qd (Qf (QP Qa (Qt (Qd (QK (Qf (Qb (Vo 0 hSN Qa hgk Qa Qa (Q7 Qa Qa Qa (Q7 Qa Qa Qa (Xs hSN ZY Qa Qa ?_)))))))))))))
 intro b25 w25 hS25
 clear hSN
 refine Qc Qa Qa ?_
 (refine Q8 hS25 Qa Qa ZP Qa (by rfl) (i:=0) Qa (by decide) ?_)
 intro w26 hS27; dsimp only[List.set]at hS27
 refine Qh (Qd (Qf (Qb (Qe Qa Qa (Ql Qa Qa (Qi Qa Hu Qa (Qr Qa ZL (hS27.cell 6 Qa Qa) Qa (Qe Qa Qa (YN (k:=k) 7 hS27 keysInt underlying89 Qa Qa Qa ZY (Yp o.pages k) Qa (Xs hS27 ZY Qa Qa ?_))))))))))
 intro b28 w28 hS28
 (refine Q8 hS28 Qa Qa ZP Qa (by rfl) (i:=0) Qa (by decide) ?_)
 intro w29 hS30; dsimp only[List.set]at hS30
 refine Qh (Qd (Qk [66,5,0,7,6,8] Qa (Qf (Qb (Qi Qa Uo Qa (Qr Qa QH (by first | exact hS30.cell 0 Qa Qa | exact hS30.cell 1 Qa Qa) Qa ?_))))))
 refine Qi Qa Uo Qa (Qr Qa QH (by first | exact hS30.cell 0 Qa Qa | exact hS30.cell 1 Qa Qa) Qa ?_)
 refine QL Qa Qa Qa (Qe Qa Qa (Q4 83 Qa (fun h31=> ?_) (fun h31=> ?_)))
 ·refine Qj Qa Qa (QD h31) (Qi Qa VY Qa (Qj Qa Qa (QD h31) (Qr Qa Zx (hS30.cell 0 Qa Qa) Qa (Qj Qa Qa (QD h31) (Zf underlying9 Qa Qa (Qj Qa Qa (QD h31) (QL Qa Qa Qa (Q1 Qa (QD h31) Qa Qa (Qh (Qd (Qk [66,5,0,7,6,8,88] Qa (Qv Qa (fun h32=> ?_) (fun h32=> ?_)))))))))))))
  ·have hS33:=hS30.drew
   refine QN [0,1,2,3,4,5,6,7,8,9,10,11,12,13] [13] W5 (by kernel_rfl) ?_
   refine QI Qa Qa Qa (Xn Qa Qa Qa (QO Qa Qa Qa Xt (QF Qa Qa Qa (Qn Qa ZA (hS33.cell 4 Qa Qa)) (Xn Qa Qa Qa (QO Qa Qa Qa Z7 (QF Qa Qa Qa (Qn Qa ZL (hS33.cell 3 Qa Qa)) (QI Qa Qa Qa (QO Qa Qa Qa VY (QF Qa Qa Qa (Qn Qa Zx (hS33.cell 0 Qa Qa)) (QO Qa Qa Qa Uo (QF Qa Qa Qa (Qn Qa QH (hS33.cell 1 Qa Qa)) (Q9 Qa Qa Qa (fun _=>(W7 Qa Y1 HY ZY Qa)) ?_))))))))))))
   refine QV Qa Qa Qa Qa Qa Qa ?_
   refine Uw (k:=k) (v:=Kp ⟨(Vl (Xg o.pages k)).data,p.ver,0,false⟩) 2 hS33 keysInt underlying89 Qa hgk Qa Qa Qa ?_
   intro w34 hS34; dsimp only[List.set]at hS34
   refine Z9 (Xq (by kernel_rfl)) ?_
   refine VC.nil (Qq ?_)
   exact Xj (L1:=[(0,_),(5,_),(66,_)]) (Dq Qa Qa Qa) (k1:=left2) (by omega) ⟨_,_,_,_,rfl,rfl,hS34.pick [2,3,4,5,6,7,8,9] Qa,(by have hz:=hmg.next hp; rw[FX (by omega) (by omega)]at hz; exact hz)⟩
  exact Qt (Qq (Xj (L1:=[(0,_),(5,_),(66,_)]) (Dq Qa Qa Qa) (k1:=left2) (by omega) ⟨_,_,_,_,rfl,rfl,hS30.pick [2,3,4,5,6,7,8,9] Qa,(hmg.skip hp (Nh (by omega)) hnd)⟩))
 exact Qg Qa Qa (Qx h31) Qa (Qg Qa Qa (Qx h31) Qa (Qg Qa Qa (Qx h31) Qa (Qg Qa Qa (Qx h31) Qa (Q3 Qa (Qx h31) Qa Qa (Qh (Qd (Qk [66,5,0,7,6,8,88] Qa (QJ Qa (Qt (Qq (Xj (L1:=[(0,_),(5,_),(66,_)]) (Dq Qa Qa Qa) (k1:=left2) (by omega) ⟨_,_,_,_,rfl,rfl,hS30.pick [2,3,4,5,6,7,8,9] Qa,(hmg.skip hp (Nh (by omega)) hnd)⟩)))))))))))
theorem Td {w:World} {e:Nat} {E:EnD} {F:Th} (hS:Sat w [Xw e E,F]) (m:MsD) (hG:Ent F WireG) (hO:Ent F (Glob 0)) (hW:EW E) (hm:MsW m) (hu:E.cell≠none):
    Calls prog 73 #[ptrV e 0,.agg #[intV m.kind,intV m.move,intV m.a,intV m.b,strV m.data]] w (Ret fun v w'=>Sat w' [rowT Zn v [],Xw e (Zp E m),F]):= by
  cases ho:E.off with
  | none=> exact CQ hS m hG hO hW hm hu ho
  | some o=> exact CP hS m hG hO hW hm hu ho
