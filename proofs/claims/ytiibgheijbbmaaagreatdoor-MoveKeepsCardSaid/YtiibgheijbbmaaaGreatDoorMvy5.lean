/- move: hearGone, hearGiven -/
import Derived.Test.YtiibgheijbbmaaaGreatDoorMvy4
set_option linter.unusedVariables false
set_option maxRecDepth 100000
set_option maxHeartbeats 100000000000
namespace Go.Proofs.YtiibgheijbbmaaaGreatDoor
open Go.RowKit M Proofs.Tryz
def TX (o:OfD) (e:Int×PgD):PgD:= match QT o.pages e.1 with
  | none=>e.2
  | some g=> if g.ver=e.2.ver∧g.data.length=64 then⟨g.data,e.2.ver,0,false⟩else e.2
section
variable {E E1:EnD} {m:MsD} {o:OfD} {s:SeD} {p:PgD} {k:Int} {g:Bool}
theorem Ie (l:AL PgD):Uu o l=l.map fun e=>(e.1,TX o e):=rfl
theorem EV (h:(VR (QT o.pages k)).ver=p.ver) (h2:(VR (QT o.pages k)).data.length=64):TX o (k,p)=⟨(VR (QT o.pages k)).data,p.ver,0,false⟩:= by
  unfold TX
  dsimp only
  cases q:QT o.pages k with
  | none=> rw[q]at h2; cases h2
  | some x=> rw[q]at h h2; dsimp only; rw[if_pos (show x.ver=p.ver∧x.data.length=64 from⟨h,h2⟩)];rfl
theorem Sa (h: ¬((VR (QT o.pages k)).ver=p.ver∧(VR (QT o.pages k)).data.length=64)):TX o (k,p)=p:= by
  unfold TX
  dsimp only
  cases q:QT o.pages k with
  | none=>rfl
  | some x=> rw[q]at h; dsimp only; rw[if_neg (show ¬(x.ver=p.ver∧x.data.length=64) from h)]
theorem Vq (h:E.kind≠2∨m.move≠E.move):X7 E m=E:= by unfold X7; rw[if_pos h]
theorem PG (h: ¬(E.kind≠2∨m.move≠E.move)) (h2:(QU E 1 m.move).1≠0):X7 E m=(QU E 1 m.move).2:= by unfold X7; rw[if_neg h,if_pos h2]
theorem PF (h: ¬(E.kind≠2∨m.move≠E.move)) (h2:(QU E 1 m.move).1=0) (e:(QU E 1 m.move).2=E1) (ho:E.off=none∨ ∃o,E.off=some o∧o.move≠m.move):X7 E m={E1 with off:=none}:= by
  unfold X7; rw[if_neg h,if_neg (by omega),e]
  rcases ho with q | ⟨o,q,r⟩
  · rw[q]
  · rw[q]; dsimp only; rw[if_pos r]
theorem PD (h: ¬(E.kind≠2∨m.move≠E.move)) (h2:(QU E 1 m.move).1=0) (e:(QU E 1 m.move).2=E1) (ho:E.off=some o) (hm:o.move=m.move) (hp:WA o.list=(some s,g)):X7 E m={E1 with off:=none,ses:=some {s with pages:=Uu o s.pages},told:=false,active:=false,frozen:=false}:= by
  unfold X7; rw[if_neg h,if_neg (by omega),e,ho]
  dsimp only
  rw[if_neg (by omega),hp];rfl
end
theorem PC {w:World} {e:Nat} {E:EnD} {F:Th} (hS:Sat w [Xu e E,F]) (m:MsD) (hW:EW E):
    Calls prog 76 #[ptrV e 0,.agg #[intV m.kind,intV m.move,intV m.a,intV m.b,strV m.data]] w (Ret fun v w'=>Sat w' [rowT Z2 v ((ZI E m,([]:List Bs))).2,Xu e ((ZI E m,([]:List Bs))).1,F]):= by
 obtain⟨dp,cv,sv,ov,hS⟩:=QQ hS
 refine Qx func76 Qa ntmps76 Qa ?_
 refine Qg (Qb (XT hS Qa Qa Qa ?_))
 intro mp w1 hS1
 replace hS1:Sat w1 (QR mp [intV m.kind,intV m.move,intV m.a,intV m.b,strV m.data]::_):=hS1
 refine Qc Qa Qa (Qh (Qd (Qg (Qg ?_))))
 have hS2:=hS1.drew
 refine QM [0,1,2,3,4,5,6,7,8,9,10,11,12,13,14,15,16,17,18,19,20,21,22,23,24,25,26] [23] Wv (by kernel_rfl) ?_
 refine QK Qa Qa Qa (Xm Qa Qa Qa (QN Qa Qa Qa Zv (Q9 Qa Qa Qa (Qn Qa QF (hS2.cell 1 Qa Qa)) (QC Qa Qa Qa (fun _=>(HO Qa Qa)) ?_))))
 refine QK Qa Qa Qa (Z1 10 Qa (fun h3=> ?_) (fun h3=> ?_))
 ·refine QC Qa Qa (Qs Qa Qa (Q8 h3)) (fun _=>(Ev.gd (QV Qa ZB))) ?_
  refine Q9 Qa Qa (Qs Qa Qa (Q8 h3)) (Ev.gd (Qn Qa QF (hS2.cell 0 Qa Qa))) (QC Qa Qa (Qs Qa Qa (Q8 h3)) (fun _=>(Ev.gd (Xt Qa))) ?_)
  refine QC Qa Qa (Qs Qa Qa (Q8 h3)) (fun _=>(Ev.gd (XC Qa))) ?_
  refine QC Qa Qa (Qs Qa Qa (Q8 h3)) (fun _=>(Ev.gd (QV Qa W5))) ?_
  refine Q9 Qa Qa (Qs Qa Qa (Q8 h3)) (Ev.gd (Qn Qa QF (hS2.cell 1 Qa Qa))) (QC Qa Qa (Qs Qa Qa (Q8 h3)) (fun _=>(Ev.gd (HO Qa Qa))) ?_)
  refine QC Qa Qa Qa (fun _=>(XG Qa (Q8 h3) Qa)) ?_
  refine QK Qa Qa Qa (Z1 19 Qa (fun h4=> ?_) (fun h4=> ?_))
  ·refine QC Qa Qa (Qs Qa Qa (Q8 h4)) (fun _=>(Ev.gd (Xt Qa))) ?_
   refine QC Qa Qa (Qs Qa Qa (Q8 h4)) (fun _=>(Ev.gd (XC Qa))) ?_
   refine QC Qa Qa (Qs Qa Qa (Q8 h4)) (fun _=>(Ev.gd (QV Qa Zc))) ?_
   refine Q9 Qa Qa (Qs Qa Qa (Q8 h4)) (Ev.gd (Qn Qa JG (hS2.cell 1 Qa Qa))) (QC Qa Qa (Qs Qa Qa (Q8 h4)) (fun _=>(Ev.gd (Kn Qa))) ?_)
   refine QC Qa Qa Qa (fun _=>(XG Qa (Q8 h4) Qa)) ?_
   refine QK Qa Qa Qa (RU 26 Qa (fun h5=> ?_) (fun h5=> ?_))
   ·have hac:E.active=false:= by simpa using h5
    refine QC Qa Qa (Qs Qa Qa h5) (fun _=>(Ev.gd (Xt Qa))) ?_
    have hS6:=Qv (E:=E) (hS2.pick [1,2,3,4,5,0,6] Qa)
    refine QS Qa Qa (Qs Qa Qa h5) Qa Qa Qa ?_
    refine Qz Uy Qa (WR (hS6.sp [0] Qa) hW.ses) Qa ?_
    rintro _ w7 hS7
    replace hS7:=hS7.jn Qa Qa
    have h1v:=hS7.own_one 0 Qa
    refine Xe (Xp (by kernel_rfl)) ?_
    obtain⟨ao,cap,hv8,_⟩:=hS7.own_shape 0 rfl
    obtain rfl:=hv8
    refine QC Qa Qa (Qs Qa Qa h5) (fun _=>(Ev.gd (Dz underlying33 Qa))) ?_
    refine QC Qa Qa (Qs Qa Qa h5) (fun _=>(Ev.gd (Fq Qa Qa))) ?_
    refine QC Qa Qa Qa (fun _=>(XG Qa h5 Qa)) ?_
    refine VC.nil (Qd (Qk [0,4,31] Qa (Qt Qa (fun h9=> ?_) (fun h9=> ?_))))
    ·have hms:((QP E).length:Int)>0:=h9
     obtain⟨dp,cv,sv,ov,hS10⟩:=QQ (hS7.pick [1,0,2,3] rfl)
     refine Qb (Qe Qa Qa (Ql Qa Qa (Qi Qa Xo Qa ?_)))
     (refine Q7 hS10 Qa Qa DN (by rfl) (i:=0) Qa (Xd Qa) ?_)
     intro w11 hS12; dsimp only[List.set]at hS12
     refine Qh (Qd (Qg (Qb (Qc Qa Qa (Qh (Qd (Qo (Q5 (.inr Qa) Qa Qa ?_))))))))
     exact⟨_,rfl, by unfold ZI; rw[if_pos ⟨by omega, by omega,hac, fun q=> by rw[q]at hms; simp at hms⟩]; exact(Sat.row_nil Z2 (Qv (E:={E with ses:=none}) (dp:=dp) ((ZQ (hS12.pick [0,1,2,4,7] Qa)).reorder [1,2,3,0,4,5] Qa)))⟩
    have hmn:QP E=[]:=List.eq_nil_of_length_eq_zero (by have q9:=h9;omega)
    refine Qr (Qd (Qg (Qb (Qc Qa Qa (Qh (Qd (Qo (Q5 (.inr Qa) Qa Qa ?_))))))))
    exact⟨_,rfl, by unfold ZI; rw[if_neg (by rintro⟨q1,q2,q3,q4⟩; exact q4 hmn)]; exact(Sat.row_nil Z2 (hS7.pick [1,3] rfl))⟩
   have hac:E.active=true:= by simpa using h5
   refine Q3 Qa Qa (Qu Qa Qa h5) (VC.spineNot Qa Qa (Qu Qa Qa h5) (Q3 Qa Qa (Qu Qa Qa h5) (Q3 Qa Qa (Qu Qa Qa h5) (QC Qa Qa Qa (fun _=>(Xz Qa h5 Qa)) ?_))))
   refine VC.nil (Qd (Qk [0,4,31] Qa (QI Qa (Qr (Qd (Qg (Qb (Qc Qa Qa (Qh (Qd (Qo (Q5 (.inr Qa) Qa Qa ?_))))))))))))
   exact⟨_,rfl, by unfold ZI; rw[if_neg (by rintro⟨q1,q2,q3,q4⟩;first | omega | (rw[hac]at q3; cases q3;done))]; exact(Sat.row_nil Z2 (Qv (E:=E) ((hS2.pick [1,2,3,4,5,6] rfl))))⟩
  refine Q3 Qa Qa (Qu Qa Qa (Qw h4)) (Q3 Qa Qa (Qu Qa Qa (Qw h4)) (Q3 Qa Qa (Qu Qa Qa (Qw h4)) (Q3 Qa Qa (Qu Qa Qa (Qw h4)) (Q3 Qa Qa (Qu Qa Qa (Qw h4)) (QC Qa Qa Qa (fun _=>(Xz Qa (Qw h4) Qa)) ?_)))))
  refine QK Qa Qa Qa (Q3 Qa Qa (Qu Qa Qa Qa) (VC.spineNot Qa Qa (Qu Qa Qa Qa) (Q3 Qa Qa (Qu Qa Qa Qa) (Q3 Qa Qa (Qu Qa Qa Qa) (QC Qa Qa Qa (fun _=>(Xz Qa Qa Qa)) ?_)))))
  refine VC.nil (Qd (Qk [0,4,31] Qa (QI Qa (Qr (Qd (Qg (Qb (Qc Qa Qa (Qh (Qd (Qo (Q5 (.inr Qa) Qa Qa ?_))))))))))))
  exact⟨_,rfl, by unfold ZI; rw[if_neg (by rintro⟨q1,q2,q3,q4⟩;first | omega | (rw[hac]at q3; cases q3;done))]; exact(Sat.row_nil Z2 (Qv (E:=E) ((hS2.pick [1,2,3,4,5,6] rfl))))⟩
 refine Q3 Qa Qa (Qu Qa Qa (Qw h3)) (Q3 Qa Qa (Qu Qa Qa (Qw h3)) (Q3 Qa Qa (Qu Qa Qa (Qw h3)) (Q3 Qa Qa (Qu Qa Qa (Qw h3)) (Q3 Qa Qa (Qu Qa Qa (Qw h3)) (Q3 Qa Qa (Qu Qa Qa (Qw h3)) (Q3 Qa Qa (Qu Qa Qa (Qw h3)) (QC Qa Qa Qa (fun _=>(Xz Qa (Qw h3) Qa)) ?_)))))))
 refine QK Qa Qa Qa (Q3 Qa Qa (Qu Qa Qa Qa) (Q3 Qa Qa (Qu Qa Qa Qa) (Q3 Qa Qa (Qu Qa Qa Qa) (Q3 Qa Qa (Qu Qa Qa Qa) (Q3 Qa Qa (Qu Qa Qa Qa) (QC Qa Qa Qa (fun _=>(Xz Qa Qa Qa)) ?_))))))
 refine QK Qa Qa Qa (Q3 Qa Qa (Qu Qa Qa Qa) (VC.spineNot Qa Qa (Qu Qa Qa Qa) (Q3 Qa Qa (Qu Qa Qa Qa) (Q3 Qa Qa (Qu Qa Qa Qa) (QC Qa Qa Qa (fun _=>(Xz Qa Qa Qa)) ?_)))))
 refine VC.nil (Qd (Qk [0,4,31] Qa (QI Qa (Qr (Qd (Qg (Qb (Qc Qa Qa (Qh (Qd (Qo (Q5 (.inr Qa) Qa Qa ?_))))))))))))
 exact⟨_,rfl, by unfold ZI; rw[if_neg (by rintro⟨q1,q2,q3,q4⟩;first | omega | (rw[hac]at q3; cases q3;done))]; exact(Sat.row_nil Z2 (Qv (E:=E) ((hS2.pick [1,2,3,4,5,6] rfl))))⟩
theorem PK {w:World} {e:Nat} {E:EnD} {F:Th} (hS:Sat w [Xu e E,F]) (m:MsD) (hG:Ent F WireG) (hO:Ent F (Glob 0)) (hW:EW E) (hm:MsW m) (hu:E.cell≠none) (hq_o:E.off=none):
    Calls prog 73 #[ptrV e 0,.agg #[intV m.kind,intV m.move,intV m.a,intV m.b,strV m.data]] w (Ret fun v w'=>Sat w' [rowT Z2 v [],Xu e (X7 E m),F]):= by
 obtain⟨dp,cv,sv,ov,hS⟩:=QQ hS
 refine Qx func73 Qa ntmps73 Qa ?_
 have hmi:X5 m.move:= by have :=hm.mv;unfold X5;omega
 refine Qg (Qb (XT hS Qa Qa Qa ?_))
 intro mp w1 hS1
 replace hS1:Sat w1 (QR mp [intV m.kind,intV m.move,intV m.a,intV m.b,strV m.data]::_):=hS1
 refine Qc Qa Qa (Qh (Qd (Qg (Qg ?_))))
 have hS2:=hS1.drew
 refine QM [0,1,2,3,4,5,6,7,8,9,10,11,12,13,14,15,16,17,18,19,20] [18] Wv (by kernel_rfl) ?_
 refine QK Qa Qa Qa (Xm Qa Qa Qa (QN Qa Qa Qa Zv (Q9 Qa Qa Qa (Qn Qa QF (hS2.cell 1 Qa Qa)) (QC Qa Qa Qa (fun _=>(JF Qa Qa)) ?_))))
 refine QK Qa Qa Qa (Z1 14 Qa (fun h3=> ?_) (fun h3=> ?_))
 ·refine Q3 Qa Qa (Qu Qa Qa (Q8 h3)) (Q3 Qa Qa (Qu Qa Qa (Q8 h3)) (Q3 Qa Qa (Qu Qa Qa (Q8 h3)) (Q3 Qa Qa (Qu Qa Qa (Q8 h3)) (Q3 Qa Qa (Qu Qa Qa (Q8 h3)) (Q3 Qa Qa (Qu Qa Qa (Q8 h3)) (Q3 Qa Qa (Qu Qa Qa (Q8 h3)) (QC Qa Qa Qa (fun _=>(XG Qa (Q8 h3) Qa)) ?_)))))))
  refine QK Qa Qa Qa (Q3 Qa Qa (Qu Qa Qa Qa) (Q3 Qa Qa (Qu Qa Qa Qa) (Q3 Qa Qa (Qu Qa Qa Qa) (VC.spineNot Qa Qa (Qu Qa Qa Qa) (Q3 Qa Qa (Qu Qa Qa Qa) (QC Qa Qa Qa (fun _=>(XG Qa Qa Qa)) ?_))))))
  refine VC.nil (Qd (Qk [0,3,4,29] Qa (QO Qa (Qg (Qb (Qc Qa Qa (Qh (Qd (Qo (Qm (Q5 (.inr Qa) Qa Qa ?_)))))))))))
  exact⟨_,rfl, by rw[Vq (by omega)]; exact(Sat.row_nil Z2 (Qv (E:=E) ((hS2.pick [1,2,3,4,5,6] Qa))))⟩
 refine QC Qa Qa (Qs Qa Qa (Qw h3)) (fun _=>(Ev.gd (QV Qa ZB))) ?_
 refine Q9 Qa Qa (Qs Qa Qa (Qw h3)) (Ev.gd (Qn Qa QF (hS2.cell 0 Qa Qa))) (QC Qa Qa (Qs Qa Qa (Qw h3)) (fun _=>(Ev.gd (Xt Qa))) ?_)
 refine QC Qa Qa (Qs Qa Qa (Qw h3)) (fun _=>(Ev.gd (XC Qa))) ?_
 refine QC Qa Qa (Qs Qa Qa (Qw h3)) (fun _=>(Ev.gd (QV Qa W5))) ?_
 refine Q9 Qa Qa (Qs Qa Qa (Qw h3)) (Ev.gd (Qn Qa QF (hS2.cell 1 Qa Qa))) (QC Qa Qa (Qs Qa Qa (Qw h3)) (fun _=>(Ev.gd (JF Qa Qa))) ?_)
 refine QC Qa Qa Qa (fun _=>(Xz Qa (Qw h3) Qa)) ?_
 refine QK Qa Qa Qa (Z1 23 Qa (fun h4=> ?_) (fun h4=> ?_))
 ·refine Q3 Qa Qa (Qu Qa Qa (Q8 h4)) (Q3 Qa Qa (Qu Qa Qa (Q8 h4)) (Q3 Qa Qa (Qu Qa Qa (Q8 h4)) (VC.spineNot Qa Qa (Qu Qa Qa (Q8 h4)) (Q3 Qa Qa (Qu Qa Qa (Q8 h4)) (QC Qa Qa Qa (fun _=>(XG Qa (Q8 h4) Qa)) ?_)))))
  refine VC.nil (Qd (Qk [0,3,4,29] Qa (QO Qa (Qg (Qb (Qc Qa Qa (Qh (Qd (Qo (Qm (Q5 (.inr Qa) Qa Qa ?_)))))))))))
  exact⟨_,rfl, by rw[Vq (by omega)]; exact(Sat.row_nil Z2 (Qv (E:=E) ((hS2.pick [1,2,3,4,5,6] Qa))))⟩
 refine QC Qa Qa (Qs Qa Qa (Qw h4)) (fun _=>(Ev.gd (Xt Qa))) ?_
 refine QC Qa Qa (Qs Qa Qa (Qw h4)) (fun _=>(Ev.gd (QV Qa ZB))) ?_
 refine Q9 Qa Qa (Qs Qa Qa (Qw h4)) (Ev.gd (Qn Qa QF (hS2.cell 0 Qa Qa))) ?_
 have hS5:=Qv (E:=E) (hS2.pick [1,2,3,4,5,0,6] Qa)
 refine QS Qa Qa (Qs Qa Qa (Qw h4)) Qa Qa Qa ?_
 refine Qz Ku Qa (UH (hS5.sp [0] Qa) (hG.starL 1 Qa) (hO.starL 1 Qa) hu (k:=1) (m:=m.move) (XM (by decide)) hmi) Qa ?_
 rintro _ w6 ⟨rfl,hS6⟩
 replace hS6:=hS6.jn Qa Qa
 refine Xe (Xp (by kernel_rfl)) ?_
 refine QC Qa Qa (Qs Qa Qa (Qw h4)) (fun _=>(Ev.gd (JF Qa Qa))) ?_
 refine QC Qa Qa Qa (fun _=>(Xz Qa (Qw h4) Qa)) ?_
 refine VC.nil (Qd (Qk [0,3,4,29] Qa (Qt Qa (fun h7=> ?_) (fun h7=> ?_))))
 ·have hbad:(QU E 1 m.move).1≠0:= by simpa using h7
  refine Qg (Qb (Qc Qa Qa (Qh (Qd (Qo (Qm (Q5 (.inr Qa) Qa Qa ?_)))))))
  exact⟨_,rfl, by rw[PG (by omega) hbad]; exact(Sat.row_nil Z2 (hS6.pick [0,2] Qa))⟩
 have hn0:(QU E 1 m.move).1=0:= by simpa using h7
 refine Qr (Qd (Qg ?_))
 obtain⟨D1,C1,e2⟩:=Yf hn0 hu
 rw[e2]at hS6
 obtain⟨dp1,cv1,sv1,ov1,hS8⟩:=QQ (hS6.pick [0,1,2] rfl)
 dsimp only at hS8; rw[hq_o]at hS8
 obtain⟨rfl,hS9⟩:=Bg (hS8.pick [4,0,1,2,3,5,6] rfl)
 replace hS9:Sat _ [QR e (U5 dp1 cv1 sv1 (.pointer none) {E with D:=D1,cell:=some C1,kind:=1,move:=m.move}),dT dp1 D1,JK dp1 cv1 (some C1),VQ sv1 E.ses,_,F]:=hS9
 refine Qb (Qe Qa Qa (Ql Qa Qa (Qi Qa WJ Qa (Qq Qa UQ (hS9.cell 0 Qa Qa) Qa (Qc Qa Qa (Qh (Qd (Qg (Qb (Qe Qa Qa (Ql Qa Qa (Qi Qa WJ Qa ?_))))))))))))
 (refine Q7 hS9 Qa Qa NI (by rfl) (i:=0) Qa (Xd Qa) ?_)
 intro w10 hS11; dsimp only[List.set]at hS11
 refine Qh (Qd (Qk [0,3,4,5] Qa (Qg (Qg ?_))))
 have hS12:=hS11.drew
 refine QM [0,1,2,3,4,5,6,7,8,9,10] [] Wv (by kernel_rfl) ?_
 refine QK Qa Qa Qa (QC Qa Qa Qa (fun _=>(VD underlying79 Qa Qa)) ?_)
 refine QK Qa Qa Qa (Q3 Qa Qa (Qu Qa Qa Qa) (Q3 Qa Qa (Qu Qa Qa Qa) (Q3 Qa Qa (Qu Qa Qa Qa) (Q3 Qa Qa (Qu Qa Qa Qa) (Q3 Qa Qa (Qu Qa Qa Qa) (Q3 Qa Qa (Qu Qa Qa Qa) (Q3 Qa Qa (Qu Qa Qa Qa) (QC Qa Qa Qa (fun _=>(XG Qa Qa Qa)) ?_))))))))
 refine VC.nil (Qd (Qk [0,4,5,47] Qa (QO Qa (Qg (Qb (Qc Qa Qa (Qh (Qd (Qo (Qm (Q5 (.inr Qa) Qa Qa ?_)))))))))))
 exact⟨_,rfl, by rw[PF (by omega) hn0 e2 (.inl hq_o)]; exact(Sat.row_nil Z2 (Qv (E:={{E with D:=D1,cell:=some C1,kind:=1,move:=m.move}with off:=none}) (dp:=dp1) ((Wd (hS12.pick [0,1,2,3,5] Qa)).reorder [1,2,3,4,0,5] Qa)))⟩
theorem PJ {w:World} {e:Nat} {E:EnD} {F:Th} (hS:Sat w [Xu e E,F]) (m:MsD) (hG:Ent F WireG) (hO:Ent F (Glob 0)) (hW:EW E) (hm:MsW m) (hu:E.cell≠none) {o:OfD} (hq_o:E.off=some o):
    Calls prog 73 #[ptrV e 0,.agg #[intV m.kind,intV m.move,intV m.a,intV m.b,strV m.data]] w (Ret fun v w'=>Sat w' [rowT Z2 v [],Xu e (X7 E m),F]):= by
 obtain⟨dp,cv,sv,ov,hS⟩:=QQ hS
 refine Qx func73 Qa ntmps73 Qa ?_
 have hmi:X5 m.move:= by have :=hm.mv;unfold X5;omega
 refine Qg (Qb (XT hS Qa Qa Qa ?_))
 intro mp w1 hS1
 replace hS1:Sat w1 (QR mp [intV m.kind,intV m.move,intV m.a,intV m.b,strV m.data]::_):=hS1
 refine Qc Qa Qa (Qh (Qd (Qg (Qg ?_))))
 have hS2:=hS1.drew
 refine QM [0,1,2,3,4,5,6,7,8,9,10,11,12,13,14,15,16,17,18,19,20] [18] Wv (by kernel_rfl) ?_
 refine QK Qa Qa Qa (Xm Qa Qa Qa (QN Qa Qa Qa Zv (Q9 Qa Qa Qa (Qn Qa QF (hS2.cell 1 Qa Qa)) (QC Qa Qa Qa (fun _=>(JF Qa Qa)) ?_))))
 refine QK Qa Qa Qa (Z1 14 Qa (fun h3=> ?_) (fun h3=> ?_))
 ·refine Q3 Qa Qa (Qu Qa Qa (Q8 h3)) (Q3 Qa Qa (Qu Qa Qa (Q8 h3)) (Q3 Qa Qa (Qu Qa Qa (Q8 h3)) (Q3 Qa Qa (Qu Qa Qa (Q8 h3)) (Q3 Qa Qa (Qu Qa Qa (Q8 h3)) (Q3 Qa Qa (Qu Qa Qa (Q8 h3)) (Q3 Qa Qa (Qu Qa Qa (Q8 h3)) (QC Qa Qa Qa (fun _=>(XG Qa (Q8 h3) Qa)) ?_)))))))
  refine QK Qa Qa Qa (Q3 Qa Qa (Qu Qa Qa Qa) (Q3 Qa Qa (Qu Qa Qa Qa) (Q3 Qa Qa (Qu Qa Qa Qa) (VC.spineNot Qa Qa (Qu Qa Qa Qa) (Q3 Qa Qa (Qu Qa Qa Qa) (QC Qa Qa Qa (fun _=>(XG Qa Qa Qa)) ?_))))))
  refine VC.nil (Qd (Qk [0,3,4,29] Qa (QO Qa (Qg (Qb (Qc Qa Qa (Qh (Qd (Qo (Qm (Q5 (.inr Qa) Qa Qa ?_)))))))))))
  exact⟨_,rfl, by rw[Vq (by omega)]; exact(Sat.row_nil Z2 (Qv (E:=E) ((hS2.pick [1,2,3,4,5,6] Qa))))⟩
 refine QC Qa Qa (Qs Qa Qa (Qw h3)) (fun _=>(Ev.gd (QV Qa ZB))) ?_
 refine Q9 Qa Qa (Qs Qa Qa (Qw h3)) (Ev.gd (Qn Qa QF (hS2.cell 0 Qa Qa))) (QC Qa Qa (Qs Qa Qa (Qw h3)) (fun _=>(Ev.gd (Xt Qa))) ?_)
 refine QC Qa Qa (Qs Qa Qa (Qw h3)) (fun _=>(Ev.gd (XC Qa))) ?_
 refine QC Qa Qa (Qs Qa Qa (Qw h3)) (fun _=>(Ev.gd (QV Qa W5))) ?_
 refine Q9 Qa Qa (Qs Qa Qa (Qw h3)) (Ev.gd (Qn Qa QF (hS2.cell 1 Qa Qa))) (QC Qa Qa (Qs Qa Qa (Qw h3)) (fun _=>(Ev.gd (JF Qa Qa))) ?_)
 refine QC Qa Qa Qa (fun _=>(Xz Qa (Qw h3) Qa)) ?_
 refine QK Qa Qa Qa (Z1 23 Qa (fun h4=> ?_) (fun h4=> ?_))
 ·refine Q3 Qa Qa (Qu Qa Qa (Q8 h4)) (Q3 Qa Qa (Qu Qa Qa (Q8 h4)) (Q3 Qa Qa (Qu Qa Qa (Q8 h4)) (VC.spineNot Qa Qa (Qu Qa Qa (Q8 h4)) (Q3 Qa Qa (Qu Qa Qa (Q8 h4)) (QC Qa Qa Qa (fun _=>(XG Qa (Q8 h4) Qa)) ?_)))))
  refine VC.nil (Qd (Qk [0,3,4,29] Qa (QO Qa (Qg (Qb (Qc Qa Qa (Qh (Qd (Qo (Qm (Q5 (.inr Qa) Qa Qa ?_)))))))))))
  exact⟨_,rfl, by rw[Vq (by omega)]; exact(Sat.row_nil Z2 (Qv (E:=E) ((hS2.pick [1,2,3,4,5,6] Qa))))⟩
 refine QC Qa Qa (Qs Qa Qa (Qw h4)) (fun _=>(Ev.gd (Xt Qa))) ?_
 refine QC Qa Qa (Qs Qa Qa (Qw h4)) (fun _=>(Ev.gd (QV Qa ZB))) ?_
 refine Q9 Qa Qa (Qs Qa Qa (Qw h4)) (Ev.gd (Qn Qa QF (hS2.cell 0 Qa Qa))) ?_
 have hS5:=Qv (E:=E) (hS2.pick [1,2,3,4,5,0,6] Qa)
 refine QS Qa Qa (Qs Qa Qa (Qw h4)) Qa Qa Qa ?_
 refine Qz Ku Qa (UH (hS5.sp [0] Qa) (hG.starL 1 Qa) (hO.starL 1 Qa) hu (k:=1) (m:=m.move) (XM (by decide)) hmi) Qa ?_
 rintro _ w6 ⟨rfl,hS6⟩
 replace hS6:=hS6.jn Qa Qa
 refine Xe (Xp (by kernel_rfl)) ?_
 refine QC Qa Qa (Qs Qa Qa (Qw h4)) (fun _=>(Ev.gd (JF Qa Qa))) ?_
 refine QC Qa Qa Qa (fun _=>(Xz Qa (Qw h4) Qa)) ?_
 refine VC.nil (Qd (Qk [0,3,4,29] Qa (Qt Qa (fun h7=> ?_) (fun h7=> ?_))))
 ·have hbad:(QU E 1 m.move).1≠0:= by simpa using h7
  refine Qg (Qb (Qc Qa Qa (Qh (Qd (Qo (Qm (Q5 (.inr Qa) Qa Qa ?_)))))))
  exact⟨_,rfl, by rw[PG (by omega) hbad]; exact(Sat.row_nil Z2 (hS6.pick [0,2] Qa))⟩
 have hn0:(QU E 1 m.move).1=0:= by simpa using h7
 refine Qr (Qd (Qg ?_))
 obtain⟨D1,C1,e2⟩:=Yf hn0 hu
 rw[e2]at hS6
 obtain⟨dp1,cv1,sv1,ov1,hS8⟩:=QQ (hS6.pick [0,1,2] rfl)
 dsimp only at hS8; rw[hq_o]at hS8
 obtain⟨ob,om,on,rfl,hS9⟩:=Bf (hS8.pick [4,0,1,2,3,5,6] rfl)
 refine Qb (Qe Qa Qa (Ql Qa Qa (Qi Qa WJ Qa (Qq Qa UQ (hS9.cell 3 Qa Qa) Qa (Qc Qa Qa (Qh (Qd (Qg (Qb (Qe Qa Qa (Ql Qa Qa (Qi Qa WJ Qa ?_))))))))))))
 (refine Q7 hS9 Qa Qa NI (by rfl) (i:=3) Qa (Xd Qa) ?_)
 intro w10 hS11; dsimp only[List.set]at hS11
 refine Qh (Qd (Qk [0,3,4,5] Qa (Qg (Qg ?_))))
 have hS12:=hS11.drew
 refine QM [0,1,2,3,4,5,6,7,8,9,10] [] Wv (by kernel_rfl) ?_
 refine QK Qa Qa Qa (QC Qa Qa Qa (fun _=>(Bw underlying79 Qa Qa)) ?_)
 refine QK Qa Qa Qa (QC Qa Qa (Qs Qa Qa Qa) (fun _=>(Ev.gd (Xt Qa))) ?_)
 refine QC Qa Qa (Qs Qa Qa Qa) (fun _=>(Ev.gd (XC Qa))) ?_
 refine QC Qa Qa (Qs Qa Qa Qa) (fun _=>(Ev.gd (QV Qa G0))) ?_
 refine Q9 Qa Qa (Qs Qa Qa Qa) (Ev.gd (Qn Qa QF (hS12.cell 0 Qa Qa))) (QC Qa Qa (Qs Qa Qa Qa) (fun _=>(Ev.gd (QV Qa ZB))) ?_)
 refine Q9 Qa Qa (Qs Qa Qa Qa) (Ev.gd (Qn Qa QF (hS12.cell 7 Qa Qa))) (QC Qa Qa (Qs Qa Qa Qa) (fun _=>(Ev.gd (JF Qa Qa))) ?_)
 refine QC Qa Qa Qa (fun _=>(Xz Qa Qa Qa)) ?_
 refine VC.nil (Qd (Qk [0,4,5,47] Qa (Qt Qa (fun h13=> ?_) (fun h13=> ?_))))
 ·refine Qg (Qb (Qc Qa Qa (Qh (Qd (Qo (Qm (Q5 (.inr Qa) Qa Qa ?_)))))))
  exact⟨_,rfl, by rw[PF (by omega) hn0 e2 (.inr ⟨o,hq_o, by omega⟩)]; exact(Sat.row_nil Z2 (Qv (E:={{E with D:=D1,cell:=some C1,kind:=1,move:=m.move}with off:=none}) (dp:=dp1) ((Wd (hS12.pick [3,4,5,6,8] Qa)).reorder [1,2,3,4,0,5] Qa)))⟩
 refine Qr (Qd (Qg ?_))
 have hrd:=hW.rdy (by omega) o hq_o (by omega)
 have hll:=(hW.off o hq_o).ln
 refine Qb (Qe Qa Qa (Qe Qa Qa (Ql Qa Qa (Qi Qa PW Qa (Qq Qa Zr (hS12.cell 0 Qa Qa) Qa (Hw LC Qa (Ph (hS12.sp [] Qa) (hG.starL 8 Qa) o.list (by omega)) Qa ?_))))))
 rintro e w14 ⟨_,rfl,(⟨hpe,rfl,hS14⟩ | ⟨sb,sm,s,g9,hpe,rfl,hS14⟩)⟩
 ·exact absurd hrd (by rw[hpe]; exact Bool.false_ne_true)
 refine⟨_,Qa, ?_⟩
 replace hS14:=hS14.jn Qa Qa
 refine Qe Qa Qa (Q6 Qa Qa Qa (Q6 Qa Qa Qa (Ql Qa Qa (Qi Qa Xo Qa ?_))))
 (refine Q7 hS14 Qa Qa DN (by rfl) (i:=5) Qa (Xd Qa) ?_)
 intro w15 hS16; dsimp only[List.set]at hS16
 refine Qh (Qd (Qk [0,4,5] Qa (Qg (Qg (Qb (Qe Qa Qa (Ql Qa Qa (Qi Qa Xo Qa (Qq Qa Z3 (hS16.cell 5 Qa Qa) Qa (Ql Qa Qa (Qi Qa ZF Qa (Qq Qa ZX (hS16.cell 0 Qa Qa) Qa (VT 1 hS16 underlying89 Qa Qa Qa ?_)))))))))))))
 intro RR left0 w17 hS17; dsimp only[List.set]at hS17
 refine Qh (Qd (Qk [0,4,5,66] Qa (QD (X8 (fun K0 E0 W0=> ∃(g:Int→Option Value) (dn:Int→Prop) (cur:Option Int) (left:Nat),K0=left∧E0=[(0,ptrV e 0),(5,ptrV ob 0),(66,ptrV RR 0)]∧Sat W0 [YD XY sm RR g dn cur left,QR sb [strV s.state,intV s.count,.map (some sm)],QR e (U5 dp1 cv1 (ptrV sb 0) (.pointer none) {E with D:=D1,cell:=some C1,kind:=1,move:=m.move}),dT dp1 D1,JK dp1 cv1 (some C1),QR ob [intV o.move,.map (some om),intV o.many,.map (some on),strV o.list],XE XY on (Yc o.pages),F]∧(MapG (TX o) s.pages dn g)) (L0:=[(0,_),(5,_),(66,_)]) (left0) (BC Qa Qa Qa) ⟨_,_,_,left0,rfl,rfl,hS17.pick [1,0,5,6,7,2,4,10] Qa,MapG.start⟩ ?_))))
 rintro _ _ w18 ⟨g,dn,cur,left,rfl,rfl,hS18,hmg⟩
 refine Qg (Qb (RO 0 hS18 keysInt.inj Qa Qa Qa (fun hdone=> ?_) (fun k v9 left2 wN hleft hgk hnd hSN=> ?_)))
 ·refine Q6 Qa Qa Qa (Qh (Qd (Qg (QI Qa (Xq (Q2 (Q2 (QH (Qd (Qg (Qb (Qe Qa Qa (Qe Qa Qa (Qe Qa Qa (Ql Qa Qa (Qi Qa HY Qa ?_))))))))))))))))
  (refine Q7 hS18 Qa Qa Jd (by rfl) (i:=2) Qa (Xd Qa) ?_)
  intro w19 hS20; dsimp only[List.set]at hS20
  refine Ql Qa Qa (Qi Qa Zc Qa ?_)
  (refine Q7 hS20 Qa Qa Jd (by rfl) (i:=2) Qa (Xd Qa) ?_)
  intro w21 hS22; dsimp only[List.set]at hS22
  refine Ql Qa Qa (Qi Qa WU Qa ?_)
  (refine Q7 hS22 Qa Qa Jd (by rfl) (i:=2) Qa (Xd Qa) ?_)
  intro w23 hS24; dsimp only[List.set]at hS24
  refine Qh (Qd (DE (L':=[]) .nil (Qg (Qb (Qc Qa Qa (Qh (Qd (Qo (Q5 (.inr Qa) Qa Qa ?_)))))))))
  have hz:=Vi (hS24.pick [0,1,2,3,4,7] Qa)
  rw[hmg.fin hdone,←Ie]at hz
  exact⟨_,rfl, by rw[PD (by omega) hn0 e2 hq_o (by omega) hpe]; exact(Sat.row_nil Z2 (Qv (E:={{E with D:=D1,cell:=some C1,kind:=1,move:=m.move}with off:=none,ses:=some {s with pages:=Uu o s.pages},told:=false,active:=false,frozen:=false}) (dp:=dp1) ((Wd (Xf (s:={s with pages:=Uu o s.pages}) (hz.reorder [1,0,2,3,4,5] Qa))).reorder [2,3,4,1,0,5] Qa)))⟩
 dsimp only[List.set]at hSN
 obtain⟨p,hp,rfl⟩:=Oq (((hmg k).2 hnd).symm.trans hgk)
 refine Q6 Qa Qa Qa (Qh (Qd (Qg (QO Qa (Qr (Qd (QD (Qg (Qb (VU 0 hSN Qa hgk Qa Qa (Q6 Qa Qa Qa (Q6 Qa Qa Qa (Xl hSN Wc Qa Qa ?_)))))))))))))
 intro b25 w25 hS25
 clear hSN
 refine Qc Qa Qa ?_
 (refine QZ hS25 Qa Qa Vf Qa (by rfl) (i:=0) Qa (by decide) ?_)
 intro w26 hS27; dsimp only[List.set]at hS27
 refine Qh (Qd (Qg (Qb (Qe Qa Qa (Ql Qa Qa (Qi Qa HI Qa (Qq Qa ZX (hS27.cell 6 Qa Qa) Qa (Qe Qa Qa (Hp (k:=k) 7 hS27 keysInt underlying89 Qa Qa Qa Wc (Y7 o.pages k) Qa (Xl hS27 Wc Qa Qa ?_))))))))))
 intro b28 w28 hS28
 (refine QZ hS28 Qa Qa Vf Qa (by rfl) (i:=0) Qa (by decide) ?_)
 intro w29 hS30; dsimp only[List.set]at hS30
 refine Qh (Qd (Qk [66,5,0,7,6,8] Qa (Qg (Qb (Qi Qa UK Qa (Qq Qa QF (by first | exact hS30.cell 0 Qa Qa | exact hS30.cell 1 Qa Qa) Qa ?_))))))
 refine Qi Qa UK Qa (Qq Qa QF (by first | exact hS30.cell 0 Qa Qa | exact hS30.cell 1 Qa Qa) Qa ?_)
 refine QL Qa Qa Qa (Qe Qa Qa (Q4 83 Qa (fun h31=> ?_) (fun h31=> ?_)))
 ·refine Qj Qa Qa (Q8 h31) (Qi Qa KN Qa (Qj Qa Qa (Q8 h31) (Qq Qa Zr (hS30.cell 0 Qa Qa) Qa (Qj Qa Qa (Q8 h31) (Zu underlying9 Qa Qa (Qj Qa Qa (Q8 h31) (QL Qa Qa Qa (Q0 Qa (Q8 h31) Qa Qa (Qh (Qd (Qk [66,5,0,7,6,8,88] Qa (Qt Qa (fun h32=> ?_) (fun h32=> ?_)))))))))))))
  ·have hS33:=hS30.drew
   refine QM [0,1,2,3,4,5,6,7,8,9,10,11,12,13] [13] Wv (by kernel_rfl) ?_
   refine QK Qa Qa Qa (Xm Qa Qa Qa (QN Qa Qa Qa Xo (Q9 Qa Qa Qa (Qn Qa Z3 (hS33.cell 4 Qa Qa)) (Xm Qa Qa Qa (QN Qa Qa Qa ZF (Q9 Qa Qa Qa (Qn Qa ZX (hS33.cell 3 Qa Qa)) (QK Qa Qa Qa (QN Qa Qa Qa KN (Q9 Qa Qa Qa (Qn Qa Zr (hS33.cell 0 Qa Qa)) (QN Qa Qa Qa UK (Q9 Qa Qa Qa (Qn Qa QF (hS33.cell 1 Qa Qa)) (QC Qa Qa Qa (fun _=>(ZY Qa YM U1 Wc Qa)) ?_))))))))))))
   refine QS Qa Qa Qa Qa Qa Qa ?_
   refine UT (k:=k) (v:=Rk ⟨(VR (QT o.pages k)).data,p.ver,0,false⟩) 2 hS33 keysInt underlying89 Qa hgk Qa Qa Qa ?_
   intro w34 hS34; dsimp only[List.set]at hS34
   refine Z6 (Xp (by kernel_rfl)) ?_
   refine VC.nil (Qp ?_)
   exact Xa (L1:=[(0,_),(5,_),(66,_)]) (BC Qa Qa Qa) (k1:=left2) (by omega) ⟨_,_,_,_,rfl,rfl,hS34.pick [2,3,4,5,6,7,8,9] Qa,(by have hz:=hmg.next hp; rw[EV (by omega) (by omega)]at hz; exact hz)⟩
  exact Qr (Qp (Xa (L1:=[(0,_),(5,_),(66,_)]) (BC Qa Qa Qa) (k1:=left2) (by omega) ⟨_,_,_,_,rfl,rfl,hS30.pick [2,3,4,5,6,7,8,9] Qa,(hmg.skip hp (Sa (by omega)) hnd)⟩))
 exact Qf Qa Qa (Qw h31) Qa (Qf Qa Qa (Qw h31) Qa (Qf Qa Qa (Qw h31) Qa (Qf Qa Qa (Qw h31) Qa (Q1 Qa (Qw h31) Qa Qa (Qh (Qd (Qk [66,5,0,7,6,8,88] Qa (QI Qa (Qr (Qp (Xa (L1:=[(0,_),(5,_),(66,_)]) (BC Qa Qa Qa) (k1:=left2) (by omega) ⟨_,_,_,_,rfl,rfl,hS30.pick [2,3,4,5,6,7,8,9] Qa,(hmg.skip hp (Sa (by omega)) hnd)⟩)))))))))))
theorem CQ {w:World} {e:Nat} {E:EnD} {F:Th} (hS:Sat w [Xu e E,F]) (m:MsD) (hG:Ent F WireG) (hO:Ent F (Glob 0)) (hW:EW E) (hm:MsW m) (hu:E.cell≠none):
    Calls prog 73 #[ptrV e 0,.agg #[intV m.kind,intV m.move,intV m.a,intV m.b,strV m.data]] w (Ret fun v w'=>Sat w' [rowT Z2 v [],Xu e (X7 E m),F]):= by
  cases ho:E.off with
  | none=> exact PK hS m hG hO hW hm hu ho
  | some o=> exact PJ hS m hG hO hW hm hu ho
