/- move: Begin -/
import Derived.Test.YtiibgheijbbmaaaGreatDoorMvy5
set_option linter.unusedVariables false
set_option maxRecDepth 100000
set_option maxHeartbeats 100000000000
namespace Go.Proofs.YtiibgheijbbmaaaGreatDoor
open Go.RowKit M Proofs.Tryz
def AR (e:Int×Bs):Int×PgD:=(e.1,⟨e.2,1,0,false⟩)
section
variable {E E1:EnD} {t:Bs} {l:AL Bs}
theorem DB (h:upE E=false):Z3 E ⟨t,l⟩=(9,E):= by unfold Z3; rw[if_pos h]
theorem DA (h: ¬upE E=false) (h2:Zi ⟨t,l⟩=false):Z3 E ⟨t,l⟩=(2,E):= by unfold Z3; rw[if_neg h,if_pos h2]
theorem UN (h: ¬upE E=false) (h2: ¬Zi ⟨t,l⟩=false) (h3: ¬(E.kind=0∧E.move=0)∧(E.kind≠1∨E.ses.isSome=true)):Z3 E ⟨t,l⟩=(7,E):= by unfold Z3; rw[if_neg h,if_neg h2,if_pos h3]
theorem Ec (h: ¬upE E=false) (h2: ¬Zi ⟨t,l⟩=false) (h3:E.kind=0∧E.move=0) (h4:(QS E 1 1).1≠0):Z3 E ⟨t,l⟩=QS E 1 1:= by unfold Z3; rw[if_neg h,if_neg h2,if_neg (fun q=>q.1 h3),if_pos h3,if_pos h4]
theorem begin_e (h: ¬upE E=false) (h2: ¬Zi ⟨t,l⟩=false) (h3:E.kind=0∧E.move=0) (h4:(QS E 1 1).1=0):Z3 E ⟨t,l⟩=(0,{(QS E 1 1).2 with ses:=some (Yr ⟨t,l⟩),active:=false,frozen:=false,told:=true}):= by unfold Z3; rw[if_neg h,if_neg h2,if_neg (fun q=>q.1 h3),if_pos h3,if_neg (by omega)]
theorem Ea (h: ¬upE E=false) (h2: ¬Zi ⟨t,l⟩=false) (h3: ¬(E.kind=0∧E.move=0)) (h4:E.kind=1) (h5:E.ses=none):Z3 E ⟨t,l⟩=(0,{E with ses:=some (Yr ⟨t,l⟩),active:=false,frozen:=false,told:=true}):= by unfold Z3; rw[if_neg h,if_neg h2,if_neg (by rintro⟨_,q | q⟩; exact q h4; rw[h5]at q; cases q),if_neg h3]
theorem Ln {k:Nat} (h:Zi ⟨t,l⟩=true):Srt ((l.take k).map AR):= by
  have h1:=(Dm l 0 (Km h).1).1
  have h2:XY ((l.take k).map AR)=(XY l).take k:= by unfold XY; rw[List.map_map,←List.map_take];rfl
  unfold Srt; rw[h2]
  exact h1.sublist (List.take_sublist _ _)
theorem Mk {k:Nat} {x:Int×Bs} (h:Zi ⟨t,l⟩=true) (hx:l[k]? =some x):upd (Yj ((l.take k).map AR)) x.1 (some (Rr ⟨x.2,1,0,false⟩))=Yj ((l.take (k+1)).map AR):= by
  have h1:=Ln (k:=k+1) h
  have e:(l.take (k+1)).map AR=(l.take k).map AR++[(x.1,⟨x.2,1,0,false⟩)]:= by rw[List.take_add_one,hx,List.map_append];rfl
  rw[e]at h1⊢
  exact Pg (Ln h) fun f hf=> by
    unfold Srt XY at h1
    rw[List.map_append]at h1
    exact(List.pairwise_append.1 h1).2.2 f.1 (List.mem_map.2 ⟨f,hf,rfl⟩) x.1 (by simp)
end
theorem S2 {w:World} {e:Nat} {E:EnD} {F:Th} (hS:Sat w [Xs e E,F]) (hG:Ent F WireG) (hO:Ent F (Glob 0)) {t:Bs} {sv:Value} {l:AL Bs} (hL:Ent F (RdL shC sv l)):
    Calls prog 24 #[ptrV e 0,.agg #[strV t,sv]] w (Ret fun v w'=>v=intV (Z3 E ⟨t,l⟩).1∧Sat w' [Xs e (Z3 E ⟨t,l⟩).2,F]):= by
 obtain⟨ao,cap,rfl,hmax⟩:=(hL.sat hS 1 rfl).shape
 refine Qy func24 Qa ntmps24 Qa ?_
 refine Qg (Qb (XZ hS Qa Qa Qa ?_))
 intro bp wp hSp0
 have hSp:Sat wp [QR bp [strV t,.slice ao l.length cap],Xs e E,F]:=hSp0
 refine Qc Qa Qa (Qh (Qe (Qg (Qb ?_))))
 obtain⟨dp,cv,sv,ov,hS1⟩:=QW (hSp.pick [1,0,2] rfl)
 refine Qd Qa Qa (Ql Qa Qa (Qi Qa Z0 Qa (Qp Qa QK (hS1.cell 0 Qa Qa) Qa (QO Qa Qa Qa (Qd Qa Qa (Q3 14 Qa (fun h2=> ?_) (fun h2=> ?_)))))))
 ·refine Qj Qa Qa (Q8 h2) (Qd Qa Qa (Qj Qa Qa (Q8 h2) (Ql Qa Qa (Qj Qa Qa (Q8 h2) (Qi Qa WH Qa (Qj Qa Qa (Q8 h2) (Qp Qa QK (hS1.cell 0 Qa Qa) Qa (Qj Qa Qa (Q8 h2) (QO Qa Qa Qa (Qx Qa (Q8 h2) Qa Qa (Qc Qa Qa (Qh ?_))))))))))))
  have hS3:=Qu (E:=E) ((hS1.pick [0,1,2,3,4,5,6] Qa))
  refine Qe (Qk [0,3,4,5] Qa (Qg (QD (Qg (Qb (Qd Qa Qa (Q4 Bx Qa (Ty (hS3.sp [0] Qa)) Qa ?_)))))))
  rintro _ w4 ⟨rfl,hS4⟩
  replace hS4:=hS4.jn Qa Qa
  refine XS Qa Qa (Qc Qa Qa (Qh (Qe (Xd Qa (fun h5=> ?_) (fun h5=> ?_)))))
  ·have hu0:upE E=false:= by simpa using h5
   refine Qg (Qb (Qc Qa Qa (Qh (Qe (Qo (Q0 (Qm (Q7 (.inr Qa) Qa Qa ?_))))))))
   exact⟨_,rfl, by rw[DB hu0], by rw[DB hu0]; exact hS4.pick [0,2] Qa⟩
  have hup: ¬upE E=false:= by simpa using h5
  have hu:=RW hup
  refine Qg (Qb ?_)
  refine Zg Qa JF Wc (by first | exact hS4.blk 1 Qa) (by first | decide | exact Xe Qa | (simp;done) | omega) Qa Qa ?_
  refine Q4 qaa Qa (NY (hS4.sp [] Qa) (hL.starL 2 Qa)) Qa ?_
  rintro _ w6 ⟨rfl,hS6⟩
  replace hS6:=hS6.jn Qa Qa
  refine XS Qa Qa (Qc Qa Qa (Qh (Qe (Qk [0,3,4,5,25] Qa (Xd Qa (fun h7=> ?_) (fun h7=> ?_))))))
  ·have hri0:Zi ⟨t,l⟩=false:= by simpa using h7
   refine Qg (Qb (Qc Qa Qa (Qh (Qe (Qo (Q0 (Qm (Q7 (.inr Qa) Qa Qa ?_))))))))
   exact⟨_,rfl, by rw[DA hup hri0], by rw[DA hup hri0]; exact hS6.pick [0,2] Qa⟩
  have hri: ¬Zi ⟨t,l⟩=false:= by simpa using h7
  refine Qg ?_
  obtain⟨dp,cv,sv,ov,hS8⟩:=QW (hS6.pick [0,1,2] rfl)
  refine Qb (Qd Qa Qa (XS Qa Qa (Qd Qa Qa (Zz 32 Qa (fun h9=> ?_) (fun h9=> ?_)))))
  ·have hfs: ¬E.move=0:= by simpa using h9
   refine Qj Qa Qa h9 (Qd Qa Qa (Qj Qa Qa h9 (Ql Qa Qa (Qj Qa Qa h9 (Qi Qa Z0 Qa (Qj Qa Qa h9 (Qp Qa QK (hS8.cell 0 Qa Qa) Qa (Qj Qa Qa h9 (Xt Qa Qa Qa (Qj Qa Qa h9 (Qd Qa Qa (Q3 38 Qa (fun h10=> ?_) (fun h10=> ?_)))))))))))))
   ·refine Qf Qa Qa (Q8 h10) Qa (Qf Qa Qa (Q8 h10) Qa (Qf Qa Qa (Q8 h10) Qa (Qf Qa Qa (Q8 h10) Qa (Qf Qa Qa (Q8 h10) Qa (Qj Qa Qa h9 (Qx Qa (Q8 h10) Qa Qa (Qx Qa h9 Qa Qa (Qc Qa Qa (Qh (Qe (Qk [0,3,4,5,29] Qa (QL Qa (Qg (Qb (Qc Qa Qa (Qh (Qe (Qo (Q0 (Qm (Q7 (.inr Qa) Qa Qa ?_)))))))))))))))))))))
    exact⟨_,rfl, by rw[UN hup hri ⟨by omega, by exact .inl (by omega)⟩], by rw[UN hup hri ⟨by omega, by exact .inl (by omega)⟩]; exact Qu (E:=E) ((hS8.pick [0,1,2,3,4,6] Qa))⟩
   refine Qj Qa Qa (Qv h10) (Qd Qa Qa (Qj Qa Qa (Qv h10) (Ql Qa Qa (Qj Qa Qa (Qv h10) (Qi Qa Xm Qa (Qj Qa Qa (Qv h10) (Qp Qa Z8 (hS8.cell 0 Qa Qa) Qa (Qj Qa Qa (Qv h10) ?_))))))))
   rcases hq_s:E.ses with _ | s
   ·rw[hq_s]at hS8
    obtain⟨rfl,hSo11⟩:=WM (hS8.pick [3,0,1,2,4,5,6] rfl)
    refine YY underlying78 Qa Qa Qa (Qj Qa Qa h9 (Qz Qa (Qv h10) Qa Qa (Qx Qa h9 Qa Qa (Qc Qa Qa (Qh (Qe (Qk [0,3,4,5,29] Qa (QF Qa (Qr (Qq (Qe (V7 (fun E0 W0=> ∃(Eb:EnD),E0=[(0,ptrV e 0),(3,ptrV bp 0)]∧Sat W0 [Xs e Eb,QR bp [strV t,.slice ao l.length cap],F]∧(Z3 E ⟨t,l⟩=(0,{Eb with ses:=some (Yr ⟨t,l⟩),active:=false,frozen:=false,told:=true}))) ?_ ?_))))))))))))
    ·refine Qg (Qb (Qd Qa Qa (Qh (Qe (Qw Qa (fun h14=> ?_) (fun h14=> ?_))))))
     ·omega
     refine Qr ?_
     have hS15:=Qu (E:=E) (by rw[hq_s]; exact((ZQ hSo11).pick [1,2,3,0,4,5,6] Qa))
     exact JL (FZ Qa Qa) ⟨E,rfl,hS15.pick [0,1,2] Qa,Ea hup hri (by omega) (by omega) hq_s⟩
    rintro _ w13 ⟨Eb,rfl,hS13,hEb⟩
    refine Qg ?_
    have hri1:Zi ⟨t,l⟩=true:= by cases q:Zi ⟨t,l⟩; exact absurd q hri;rfl
    obtain⟨dp1,cv1,sv1,ov1,hS16⟩:=QW (hS13.pick [0,1,2] rfl)
    refine Qb (Qd Qa Qa (Qi Qa Hm Qa (Qp Qa Zw (hS16.cell 5 Qa Qa) Qa (W6 Za hS16 Qa ?_))))
    intro sm w17 hS17
    refine JJ (vs':=[strV t,intV 1,.map (some sm)]) Qa Kr N2 FY Qa Qa Qa (XZ hS17 Qa Qa Qa ?_)
    intro sb w18 hS18
    refine Ql Qa Qa (Qi Qa Xm Qa ?_)
    (refine QC hS18 Qa Qa DT (by rfl) (i:=2) Qa (Xe Qa) ?_)
    intro w19 hS20; dsimp only[List.set]at hS20
    refine Qh ?_
    replace hS20:Sat _ [QR sb [strV t,intV 1,.map (some sm)],XI Za sm (Yj ((l.take 0).map AR)),QR e (U6 dp1 cv1 (ptrV sb 0) ov1 Eb),dT dp1 Eb.D,JR dp1 cv1 Eb.cell,VY sv1 Eb.ses,Rt ov1 Eb.off,QR bp [strV t,.slice ao l.length cap],F]:=hS20
    refine Qe (Qg (Qg (Qb (Qi Qa Zt Qa (Qp Qa WV (hS20.cell 7 Qa Qa) Qa (Xj underlying22 Qa Qa (Qd Qa Qa (Qh (Qe (Qk [0,61,62,63] Qa (QD ?_)))))))))))
    refine XD (fun K0 E0 W0=> ∃(i:Nat),K0=l.length -i∧E0=[(0,ptrV e 0),(61,.slice ao l.length cap),(62,intV (l.length:Int)),(63,intV (i:Int))]∧Sat W0 [QR sb [strV t,intV 1,.map (some sm)],XI Za sm (Yj ((l.take i).map AR)),QR e (U6 dp1 cv1 (ptrV sb 0) ov1 Eb),dT dp1 Eb.D,JR dp1 cv1 Eb.cell,Rt ov1 Eb.off,F]∧(i≤l.length)) (L0:=[(0,_),(61,_),(62,_),(63,_)]) (l.length -0) (DF Qa Qa Qa Qa) ⟨0,rfl,rfl,hS20.pick [0,1,2,3,4,6,8] Qa, by omega⟩ ?_
    rintro _ _ w21 ⟨i,rfl,rfl,hS21,hi⟩
    refine Qg (Qb (Xz Qa Qa Qa (Qh (Qe (Qg (Qw Qa (fun h22=> ?_) (fun h22=> ?_)))))))
    ·obtain⟨x,hx⟩: ∃x,l[i]? =some x:=⟨_,WU (by omega)⟩
     obtain⟨b,off,rfl,hc⟩:=(hL.sat hS21 6 rfl).get hx
     refine Qr (Qe (Qg (QD (Qg (Qb (XG i Qa Qa (by first | rfl | omega) (by omega) K8 Qa ?_))))))
     refine YO Qa GL Up (vs:=[intV x.1,strV x.2]) hc Qa (Xk hS21 Rv Qa Qa ?_)
     intro b23 w23 hS23
     (refine QX hS23 Qa Qa Up Qa (by rfl) (i:=0) Qa (by decide) ?_)
     intro w24 hS25; dsimp only[List.set]at hS25
     refine Qh (Qe ?_)
     have hS26:=hS25.drew
     refine QT [0,1,2,3,4,5,6,7,8,9,10,11,12] [12] Jk (by kernel_rfl) ?_
     refine QM Qa Qa Qa (Xw Qa Qa Qa (QQ Qa Qa Qa Xm (QH Qa Qa Qa (Qn Qa Z8 (hS26.cell 3 Qa Qa)) (Xw Qa Qa Qa (QQ Qa Qa Qa ZH (QH Qa Qa Qa (Qn Qa ZZ (hS26.cell 1 Qa Qa)) (QQ Qa Qa Qa YE (QH Qa Qa Qa (Qn Qa QK (hS26.cell 0 Qa Qa)) (QQ Qa Qa Qa VG (QH Qa Qa Qa (Qn Qa Zw (hS26.cell 0 Qa Qa)) (QG Qa Qa Qa (fun _=>(Wb Qa YU U3 Wg Qa)) ?_)))))))))))
     refine Xb Qa Qa Qa Qa Qa Qa ?_
     refine Zj (k:=x.1) (v:=Rr ⟨x.2,1,0,false⟩) 2 hS26 keysInt underlying89 Qa Qa Qa Qa ?_
     intro w27 hS27; dsimp only[List.set]at hS27; rw[Mk hri1 hx]at hS27
     refine ZG (XC (by kernel_rfl)) ?_
     refine VC.nil (Qq (Qe (Qk [63,62,61,0] Qa (Qb (Xq Qa Qa (by omega) (by omega) Qa ?_)))))
     refine Qd Qa Qa (Qh ?_)
     exact QY (L1:=[(0,_),(61,_),(62,_),(63,intV ((i+1:Nat):Int))]) (DF Qa Qa Qa Qa) (k1:=l.length -(i+1)) (by omega) ⟨i+1,rfl,rfl,hS27.pick [1,2,3,4,5,6,7] Qa, by omega⟩
    refine Xu (Q1 (Q1 (QJ (Qe (Qg (Qb (Qd Qa Qa (Qd Qa Qa (Qd Qa Qa (Ql Qa Qa (Qi Qa Zo Qa ?_)))))))))))
    (refine QC hS21 Qa Qa Jy (by rfl) (i:=2) Qa (Xe Qa) ?_)
    intro w28 hS29; dsimp only[List.set]at hS29
    refine Ql Qa Qa (Qi Qa Jf Qa ?_)
    (refine QC hS29 Qa Qa Jy (by rfl) (i:=2) Qa (Xe Qa) ?_)
    intro w30 hS31; dsimp only[List.set]at hS31
    refine Ql Qa Qa (Qi Qa Ug Qa ?_)
    (refine QC hS31 Qa Qa Jy (by rfl) (i:=2) Qa (Xe Qa) ?_)
    intro w32 hS33; dsimp only[List.set]at hS33
    refine Qh (Qe (DI (L':=[]) .nil (Qg (Qb (Qc Qa Qa (Qh (Qe (Qo (Q7 (.inr Qa) Qa Qa ?_)))))))))
    have hz:=hS33.pick [0,1,2,3,4,5,6] Qa
    rw[show i=l.length by omega,List.take_length]at hz
    exact⟨_,rfl, by rw[hEb], by rw[hEb]; exact Qu (E:={Eb with ses:=some (Yr ⟨t,l⟩),active:=false,frozen:=false,told:=true}) (dp:=dp1) ((Xg (s:=Yr ⟨t,l⟩) hz).reorder [1,2,3,0,4,5] Qa)⟩
   rw[hq_s]at hS8
   obtain⟨sb,sm,rfl,hSo12⟩:=Zn (hS8.pick [3,0,1,2,4,5,6] rfl)
   refine Vd underlying78 Qa Qa Qa (Qj Qa Qa h9 (Qz Qa (Qv h10) Qa Qa (Qx Qa h9 Qa Qa (Qc Qa Qa (Qh (Qe (Qk [0,3,4,5,29] Qa (QL Qa (Qg (Qb (Qc Qa Qa (Qh (Qe (Qo (Q0 (Qm (Q7 (.inr Qa) Qa Qa ?_)))))))))))))))))
   exact⟨_,rfl, by rw[UN hup hri ⟨by omega, by exact .inl (by omega)⟩], by rw[UN hup hri ⟨by omega, by exact .inl (by omega)⟩]; exact Qu (E:=E) (by rw[hq_s]; exact((Xg (hSo12.pick [0,1,2,3,4,5,6,7] Qa)).pick [1,2,3,0,4,6] Qa))⟩
  have hfs:E.move=0:= by simpa using h9
  refine Qf Qa Qa h9 Qa (Qf Qa Qa h9 Qa (Qf Qa Qa h9 Qa (Qf Qa Qa h9 Qa (Qf Qa Qa h9 Qa (Qf Qa Qa h9 Qa (Q5 Qa Qa Qa (Q5 Qa Qa Qa (Q5 Qa Qa Qa (Q5 Qa Qa Qa (Q5 Qa Qa Qa (Qf Qa Qa h9 Qa (Qz Qa h9 Qa Qa (Qc Qa Qa (Qh (Qe (Qk [0,3,4,5,29] Qa (QF Qa (Qr (Qq (Qe (V7 (fun E0 W0=> ∃(Eb:EnD),E0=[(0,ptrV e 0),(3,ptrV bp 0)]∧Sat W0 [Xs e Eb,QR bp [strV t,.slice ao l.length cap],F]∧(Z3 E ⟨t,l⟩=(0,{Eb with ses:=some (Yr ⟨t,l⟩),active:=false,frozen:=false,told:=true}))) ?_ ?_)))))))))))))))))))))
  ·refine Qg (Qb (Qd Qa Qa (Qh (Qe (Qw Qa (fun h35=> ?_) (fun h35=> ?_))))))
   ·refine Qg (Qb (Qd Qa Qa ?_))
    have hS36:=Qu (E:=E) ((hS8.pick [0,1,2,3,4,5,6] Qa))
    refine Q4 KC Qa (UG (hS36.sp [0] Qa) (hG.starL 1 Qa) (hO.starL 1 Qa) hu (k:=1) (m:=1) (XJ (by decide)) (XJ (by decide))) Qa ?_
    rintro _ w37 ⟨rfl,hS37⟩
    replace hS37:=hS37.jn Qa Qa
    refine Qc Qa Qa (Qh (Qe (Qg (Qb (Qd Qa Qa (Xt Qa Qa Qa (Qh (Qe (Qk [0,3,4,6,50] Qa (Qw Qa (fun h38=> ?_) (fun h38=> ?_)))))))))))
    ·have hbad:(QS E 1 1).1≠0:= by simpa using h38
     refine Qg (Qb (Qd Qa Qa (Qc Qa Qa (Qh (Qe (Qo (Qm (Q7 (.inr Qa) Qa Qa ?_))))))))
     exact⟨_,rfl, by rw[Ec hup hri ⟨by omega, by omega⟩ hbad], by rw[Ec hup hri ⟨by omega, by omega⟩ hbad]; exact hS37.pick [0,2] Qa⟩
    have hn0:(QS E 1 1).1=0:= by simpa using h38
    refine Qr ?_
    exact JL (FZ Qa Qa) ⟨(QS E 1 1).2,rfl,hS37.pick [0,1,2] Qa,begin_e hup hri ⟨by omega, by omega⟩ hn0⟩
   omega
  rintro _ w34 ⟨Eb,rfl,hS34,hEb⟩
  refine Qg ?_
  have hri1:Zi ⟨t,l⟩=true:= by cases q:Zi ⟨t,l⟩; exact absurd q hri;rfl
  obtain⟨dp1,cv1,sv1,ov1,hS39⟩:=QW (hS34.pick [0,1,2] rfl)
  refine Qb (Qd Qa Qa (Qi Qa Hm Qa (Qp Qa Zw (hS39.cell 5 Qa Qa) Qa (W6 Za hS39 Qa ?_))))
  intro sm w40 hS40
  refine JJ (vs':=[strV t,intV 1,.map (some sm)]) Qa Kr N2 FY Qa Qa Qa (XZ hS40 Qa Qa Qa ?_)
  intro sb w41 hS41
  refine Ql Qa Qa (Qi Qa Xm Qa ?_)
  (refine QC hS41 Qa Qa DT (by rfl) (i:=2) Qa (Xe Qa) ?_)
  intro w42 hS43; dsimp only[List.set]at hS43
  refine Qh ?_
  replace hS43:Sat _ [QR sb [strV t,intV 1,.map (some sm)],XI Za sm (Yj ((l.take 0).map AR)),QR e (U6 dp1 cv1 (ptrV sb 0) ov1 Eb),dT dp1 Eb.D,JR dp1 cv1 Eb.cell,VY sv1 Eb.ses,Rt ov1 Eb.off,QR bp [strV t,.slice ao l.length cap],F]:=hS43
  refine Qe (Qg (Qg (Qb (Qi Qa Zt Qa (Qp Qa WV (hS43.cell 7 Qa Qa) Qa (Xj underlying22 Qa Qa (Qd Qa Qa (Qh (Qe (Qk [0,61,62,63] Qa (QD ?_)))))))))))
  refine XD (fun K0 E0 W0=> ∃(i:Nat),K0=l.length -i∧E0=[(0,ptrV e 0),(61,.slice ao l.length cap),(62,intV (l.length:Int)),(63,intV (i:Int))]∧Sat W0 [QR sb [strV t,intV 1,.map (some sm)],XI Za sm (Yj ((l.take i).map AR)),QR e (U6 dp1 cv1 (ptrV sb 0) ov1 Eb),dT dp1 Eb.D,JR dp1 cv1 Eb.cell,Rt ov1 Eb.off,F]∧(i≤l.length)) (L0:=[(0,_),(61,_),(62,_),(63,_)]) (l.length -0) (DF Qa Qa Qa Qa) ⟨0,rfl,rfl,hS43.pick [0,1,2,3,4,6,8] Qa, by omega⟩ ?_
  rintro _ _ w44 ⟨i,rfl,rfl,hS44,hi⟩
  refine Qg (Qb (Xz Qa Qa Qa (Qh (Qe (Qg (Qw Qa (fun h45=> ?_) (fun h45=> ?_)))))))
  ·obtain⟨x,hx⟩: ∃x,l[i]? =some x:=⟨_,WU (by omega)⟩
   obtain⟨b,off,rfl,hc⟩:=(hL.sat hS44 6 rfl).get hx
   refine Qr (Qe (Qg (QD (Qg (Qb (XG i Qa Qa (by first | rfl | omega) (by omega) K8 Qa ?_))))))
   refine YO Qa GL Up (vs:=[intV x.1,strV x.2]) hc Qa (Xk hS44 Rv Qa Qa ?_)
   intro b46 w46 hS46
   (refine QX hS46 Qa Qa Up Qa (by rfl) (i:=0) Qa (by decide) ?_)
   intro w47 hS48; dsimp only[List.set]at hS48
   refine Qh (Qe ?_)
   have hS49:=hS48.drew
   refine QT [0,1,2,3,4,5,6,7,8,9,10,11,12] [12] Jk (by kernel_rfl) ?_
   refine QM Qa Qa Qa (Xw Qa Qa Qa (QQ Qa Qa Qa Xm (QH Qa Qa Qa (Qn Qa Z8 (hS49.cell 3 Qa Qa)) (Xw Qa Qa Qa (QQ Qa Qa Qa ZH (QH Qa Qa Qa (Qn Qa ZZ (hS49.cell 1 Qa Qa)) (QQ Qa Qa Qa YE (QH Qa Qa Qa (Qn Qa QK (hS49.cell 0 Qa Qa)) (QQ Qa Qa Qa VG (QH Qa Qa Qa (Qn Qa Zw (hS49.cell 0 Qa Qa)) (QG Qa Qa Qa (fun _=>(Wb Qa YU U3 Wg Qa)) ?_)))))))))))
   refine Xb Qa Qa Qa Qa Qa Qa ?_
   refine Zj (k:=x.1) (v:=Rr ⟨x.2,1,0,false⟩) 2 hS49 keysInt underlying89 Qa Qa Qa Qa ?_
   intro w50 hS50; dsimp only[List.set]at hS50; rw[Mk hri1 hx]at hS50
   refine ZG (XC (by kernel_rfl)) ?_
   refine VC.nil (Qq (Qe (Qk [63,62,61,0] Qa (Qb (Xq Qa Qa (by omega) (by omega) Qa ?_)))))
   refine Qd Qa Qa (Qh ?_)
   exact QY (L1:=[(0,_),(61,_),(62,_),(63,intV ((i+1:Nat):Int))]) (DF Qa Qa Qa Qa) (k1:=l.length -(i+1)) (by omega) ⟨i+1,rfl,rfl,hS50.pick [1,2,3,4,5,6,7] Qa, by omega⟩
  refine Xu (Q1 (Q1 (QJ (Qe (Qg (Qb (Qd Qa Qa (Qd Qa Qa (Qd Qa Qa (Ql Qa Qa (Qi Qa Zo Qa ?_)))))))))))
  (refine QC hS44 Qa Qa Jy (by rfl) (i:=2) Qa (Xe Qa) ?_)
  intro w51 hS52; dsimp only[List.set]at hS52
  refine Ql Qa Qa (Qi Qa Jf Qa ?_)
  (refine QC hS52 Qa Qa Jy (by rfl) (i:=2) Qa (Xe Qa) ?_)
  intro w53 hS54; dsimp only[List.set]at hS54
  refine Ql Qa Qa (Qi Qa Ug Qa ?_)
  (refine QC hS54 Qa Qa Jy (by rfl) (i:=2) Qa (Xe Qa) ?_)
  intro w55 hS56; dsimp only[List.set]at hS56
  refine Qh (Qe (DI (L':=[]) .nil (Qg (Qb (Qc Qa Qa (Qh (Qe (Qo (Q7 (.inr Qa) Qa Qa ?_)))))))))
  have hz:=hS56.pick [0,1,2,3,4,5,6] Qa
  rw[show i=l.length by omega,List.take_length]at hz
  exact⟨_,rfl, by rw[hEb], by rw[hEb]; exact Qu (E:={Eb with ses:=some (Yr ⟨t,l⟩),active:=false,frozen:=false,told:=true}) (dp:=dp1) ((Xg (s:=Yr ⟨t,l⟩) hz).reorder [1,2,3,0,4,5] Qa)⟩
 refine Qf Qa Qa (Qv h2) Qa (Qf Qa Qa (Qv h2) Qa (Qf Qa Qa (Qv h2) Qa (Qf Qa Qa (Qv h2) Qa (Qf Qa Qa (Qv h2) Qa (Qz Qa (Qv h2) Qa Qa (Qc Qa Qa (Qh ?_)))))))
 have hS57:=Qu (E:=E) ((hS1.pick [0,1,2,3,4,5,6] Qa))
 refine Qe (Qk [0,3,4,5] Qa (Qg (QD (Qg (Qb (Qd Qa Qa (Q4 Bx Qa (Ty (hS57.sp [0] Qa)) Qa ?_)))))))
 rintro _ w58 ⟨rfl,hS58⟩
 replace hS58:=hS58.jn Qa Qa
 refine XS Qa Qa (Qc Qa Qa (Qh (Qe (Xd Qa (fun h59=> ?_) (fun h59=> ?_)))))
 ·have hu0:upE E=false:= by simpa using h59
  refine Qg (Qb (Qc Qa Qa (Qh (Qe (Qo (Q0 (Qm (Q7 (.inr Qa) Qa Qa ?_))))))))
  exact⟨_,rfl, by rw[DB hu0], by rw[DB hu0]; exact hS58.pick [0,2] Qa⟩
 have hup: ¬upE E=false:= by simpa using h59
 have hu:=RW hup
 refine Qg (Qb ?_)
 refine Zg Qa JF Wc (by first | exact hS58.blk 1 Qa) (by first | decide | exact Xe Qa | (simp;done) | omega) Qa Qa ?_
 refine Q4 qaa Qa (NY (hS58.sp [] Qa) (hL.starL 2 Qa)) Qa ?_
 rintro _ w60 ⟨rfl,hS60⟩
 replace hS60:=hS60.jn Qa Qa
 refine XS Qa Qa (Qc Qa Qa (Qh (Qe (Qk [0,3,4,5,25] Qa (Xd Qa (fun h61=> ?_) (fun h61=> ?_))))))
 ·have hri0:Zi ⟨t,l⟩=false:= by simpa using h61
  refine Qg (Qb (Qc Qa Qa (Qh (Qe (Qo (Q0 (Qm (Q7 (.inr Qa) Qa Qa ?_))))))))
  exact⟨_,rfl, by rw[DA hup hri0], by rw[DA hup hri0]; exact hS60.pick [0,2] Qa⟩
 have hri: ¬Zi ⟨t,l⟩=false:= by simpa using h61
 refine Qg ?_
 obtain⟨dp,cv,sv,ov,hS62⟩:=QW (hS60.pick [0,1,2] rfl)
 refine Qb (Qd Qa Qa (XS Qa Qa (Qd Qa Qa (Qj Qa Qa Qa (Qd Qa Qa (Qj Qa Qa Qa (Ql Qa Qa (Qj Qa Qa Qa (Qi Qa Z0 Qa (Qj Qa Qa Qa (Qp Qa QK (hS62.cell 0 Qa Qa) Qa (Qj Qa Qa Qa (Xt Qa Qa Qa (Qj Qa Qa Qa (Qd Qa Qa (Q3 38 Qa (fun h63=> ?_) (fun h63=> ?_)))))))))))))))))
 ·refine Qf Qa Qa (Q8 h63) Qa (Qf Qa Qa (Q8 h63) Qa (Qf Qa Qa (Q8 h63) Qa (Qf Qa Qa (Q8 h63) Qa (Qf Qa Qa (Q8 h63) Qa (Qj Qa Qa Qa (Qx Qa (Q8 h63) Qa Qa (Qx Qa Qa Qa Qa (Qc Qa Qa (Qh (Qe (Qk [0,3,4,5,29] Qa (QL Qa (Qg (Qb (Qc Qa Qa (Qh (Qe (Qo (Q0 (Qm (Q7 (.inr Qa) Qa Qa ?_)))))))))))))))))))))
  exact⟨_,rfl, by rw[UN hup hri ⟨by omega, by exact .inl (by omega)⟩], by rw[UN hup hri ⟨by omega, by exact .inl (by omega)⟩]; exact Qu (E:=E) ((hS62.pick [0,1,2,3,4,6] Qa))⟩
 refine Qj Qa Qa (Qv h63) (Qd Qa Qa (Qj Qa Qa (Qv h63) (Ql Qa Qa (Qj Qa Qa (Qv h63) (Qi Qa Xm Qa (Qj Qa Qa (Qv h63) (Qp Qa Z8 (hS62.cell 0 Qa Qa) Qa (Qj Qa Qa (Qv h63) ?_))))))))
 rcases hq_s:E.ses with _ | s
 ·rw[hq_s]at hS62
  obtain⟨rfl,hSo64⟩:=WM (hS62.pick [3,0,1,2,4,5,6] rfl)
  refine YY underlying78 Qa Qa Qa (Qj Qa Qa Qa (Qz Qa (Qv h63) Qa Qa (Qx Qa Qa Qa Qa (Qc Qa Qa (Qh (Qe (Qk [0,3,4,5,29] Qa (QF Qa (Qr (Qq (Qe (V7 (fun E0 W0=> ∃(Eb:EnD),E0=[(0,ptrV e 0),(3,ptrV bp 0)]∧Sat W0 [Xs e Eb,QR bp [strV t,.slice ao l.length cap],F]∧(Z3 E ⟨t,l⟩=(0,{Eb with ses:=some (Yr ⟨t,l⟩),active:=false,frozen:=false,told:=true}))) ?_ ?_))))))))))))
  ·refine Qg (Qb (Qd Qa Qa (Qh (Qe (QF Qa (Qr ?_))))))
   have hS67:=Qu (E:=E) (by rw[hq_s]; exact((ZQ hSo64).pick [1,2,3,0,4,5,6] Qa))
   exact JL (FZ Qa Qa) ⟨E,rfl,hS67.pick [0,1,2] Qa,Ea hup hri (by omega) (by omega) hq_s⟩
  rintro _ w66 ⟨Eb,rfl,hS66,hEb⟩
  refine Qg ?_
  have hri1:Zi ⟨t,l⟩=true:= by cases q:Zi ⟨t,l⟩; exact absurd q hri;rfl
  obtain⟨dp1,cv1,sv1,ov1,hS68⟩:=QW (hS66.pick [0,1,2] rfl)
  refine Qb (Qd Qa Qa (Qi Qa Hm Qa (Qp Qa Zw (hS68.cell 5 Qa Qa) Qa (W6 Za hS68 Qa ?_))))
  intro sm w69 hS69
  refine JJ (vs':=[strV t,intV 1,.map (some sm)]) Qa Kr N2 FY Qa Qa Qa (XZ hS69 Qa Qa Qa ?_)
  intro sb w70 hS70
  refine Ql Qa Qa (Qi Qa Xm Qa ?_)
  (refine QC hS70 Qa Qa DT (by rfl) (i:=2) Qa (Xe Qa) ?_)
  intro w71 hS72; dsimp only[List.set]at hS72
  refine Qh ?_
  replace hS72:Sat _ [QR sb [strV t,intV 1,.map (some sm)],XI Za sm (Yj ((l.take 0).map AR)),QR e (U6 dp1 cv1 (ptrV sb 0) ov1 Eb),dT dp1 Eb.D,JR dp1 cv1 Eb.cell,VY sv1 Eb.ses,Rt ov1 Eb.off,QR bp [strV t,.slice ao l.length cap],F]:=hS72
  refine Qe (Qg (Qg (Qb (Qi Qa Zt Qa (Qp Qa WV (hS72.cell 7 Qa Qa) Qa (Xj underlying22 Qa Qa (Qd Qa Qa (Qh (Qe (Qk [0,61,62,63] Qa (QD ?_)))))))))))
  refine XD (fun K0 E0 W0=> ∃(i:Nat),K0=l.length -i∧E0=[(0,ptrV e 0),(61,.slice ao l.length cap),(62,intV (l.length:Int)),(63,intV (i:Int))]∧Sat W0 [QR sb [strV t,intV 1,.map (some sm)],XI Za sm (Yj ((l.take i).map AR)),QR e (U6 dp1 cv1 (ptrV sb 0) ov1 Eb),dT dp1 Eb.D,JR dp1 cv1 Eb.cell,Rt ov1 Eb.off,F]∧(i≤l.length)) (L0:=[(0,_),(61,_),(62,_),(63,_)]) (l.length -0) (DF Qa Qa Qa Qa) ⟨0,rfl,rfl,hS72.pick [0,1,2,3,4,6,8] Qa, by omega⟩ ?_
  rintro _ _ w73 ⟨i,rfl,rfl,hS73,hi⟩
  refine Qg (Qb (Xz Qa Qa Qa (Qh (Qe (Qg (Qw Qa (fun h74=> ?_) (fun h74=> ?_)))))))
  ·obtain⟨x,hx⟩: ∃x,l[i]? =some x:=⟨_,WU (by omega)⟩
   obtain⟨b,off,rfl,hc⟩:=(hL.sat hS73 6 rfl).get hx
   refine Qr (Qe (Qg (QD (Qg (Qb (XG i Qa Qa (by first | rfl | omega) (by omega) K8 Qa ?_))))))
   refine YO Qa GL Up (vs:=[intV x.1,strV x.2]) hc Qa (Xk hS73 Rv Qa Qa ?_)
   intro b75 w75 hS75
   (refine QX hS75 Qa Qa Up Qa (by rfl) (i:=0) Qa (by decide) ?_)
   intro w76 hS77; dsimp only[List.set]at hS77
   refine Qh (Qe ?_)
   have hS78:=hS77.drew
   refine QT [0,1,2,3,4,5,6,7,8,9,10,11,12] [12] Jk (by kernel_rfl) ?_
   refine QM Qa Qa Qa (Xw Qa Qa Qa (QQ Qa Qa Qa Xm (QH Qa Qa Qa (Qn Qa Z8 (hS78.cell 3 Qa Qa)) (Xw Qa Qa Qa (QQ Qa Qa Qa ZH (QH Qa Qa Qa (Qn Qa ZZ (hS78.cell 1 Qa Qa)) (QQ Qa Qa Qa YE (QH Qa Qa Qa (Qn Qa QK (hS78.cell 0 Qa Qa)) (QQ Qa Qa Qa VG (QH Qa Qa Qa (Qn Qa Zw (hS78.cell 0 Qa Qa)) (QG Qa Qa Qa (fun _=>(Wb Qa YU U3 Wg Qa)) ?_)))))))))))
   refine Xb Qa Qa Qa Qa Qa Qa ?_
   refine Zj (k:=x.1) (v:=Rr ⟨x.2,1,0,false⟩) 2 hS78 keysInt underlying89 Qa Qa Qa Qa ?_
   intro w79 hS79; dsimp only[List.set]at hS79; rw[Mk hri1 hx]at hS79
   refine ZG (XC (by kernel_rfl)) ?_
   refine VC.nil (Qq (Qe (Qk [63,62,61,0] Qa (Qb (Xq Qa Qa (by omega) (by omega) Qa ?_)))))
   refine Qd Qa Qa (Qh ?_)
   exact QY (L1:=[(0,_),(61,_),(62,_),(63,intV ((i+1:Nat):Int))]) (DF Qa Qa Qa Qa) (k1:=l.length -(i+1)) (by omega) ⟨i+1,rfl,rfl,hS79.pick [1,2,3,4,5,6,7] Qa, by omega⟩
  refine Xu (Q1 (Q1 (QJ (Qe (Qg (Qb (Qd Qa Qa (Qd Qa Qa (Qd Qa Qa (Ql Qa Qa (Qi Qa Zo Qa ?_)))))))))))
  (refine QC hS73 Qa Qa Jy (by rfl) (i:=2) Qa (Xe Qa) ?_)
  intro w80 hS81; dsimp only[List.set]at hS81
  refine Ql Qa Qa (Qi Qa Jf Qa ?_)
  (refine QC hS81 Qa Qa Jy (by rfl) (i:=2) Qa (Xe Qa) ?_)
  intro w82 hS83; dsimp only[List.set]at hS83
  refine Ql Qa Qa (Qi Qa Ug Qa ?_)
  (refine QC hS83 Qa Qa Jy (by rfl) (i:=2) Qa (Xe Qa) ?_)
  intro w84 hS85; dsimp only[List.set]at hS85
  refine Qh (Qe (DI (L':=[]) .nil (Qg (Qb (Qc Qa Qa (Qh (Qe (Qo (Q7 (.inr Qa) Qa Qa ?_)))))))))
  have hz:=hS85.pick [0,1,2,3,4,5,6] Qa
  rw[show i=l.length by omega,List.take_length]at hz
  exact⟨_,rfl, by rw[hEb], by rw[hEb]; exact Qu (E:={Eb with ses:=some (Yr ⟨t,l⟩),active:=false,frozen:=false,told:=true}) (dp:=dp1) ((Xg (s:=Yr ⟨t,l⟩) hz).reorder [1,2,3,0,4,5] Qa)⟩
 rw[hq_s]at hS62
 obtain⟨sb,sm,rfl,hSo65⟩:=Zn (hS62.pick [3,0,1,2,4,5,6] rfl)
 refine Vd underlying78 Qa Qa Qa (Qj Qa Qa Qa (Qz Qa (Qv h63) Qa Qa (Qx Qa Qa Qa Qa (Qc Qa Qa (Qh (Qe (Qk [0,3,4,5,29] Qa (QL Qa (Qg (Qb (Qc Qa Qa (Qh (Qe (Qo (Q0 (Qm (Q7 (.inr Qa) Qa Qa ?_)))))))))))))))))
 exact⟨_,rfl, by rw[UN hup hri ⟨by omega, by exact .inr (by rw[hq_s];rfl)⟩], by rw[UN hup hri ⟨by omega, by exact .inr (by rw[hq_s];rfl)⟩]; exact Qu (E:=E) (by rw[hq_s]; exact((Xg (hSo65.pick [0,1,2,3,4,5,6,7] Qa)).pick [1,2,3,0,4,6] Qa))⟩
