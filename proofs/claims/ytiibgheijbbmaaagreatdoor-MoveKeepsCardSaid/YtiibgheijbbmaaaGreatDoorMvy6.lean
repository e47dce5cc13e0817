/- move: Begin -/
import Derived.Test.YtiibgheijbbmaaaGreatDoorMvy5
set_option linter.unusedVariables false
set_option maxRecDepth 100000
set_option maxHeartbeats 100000000000
namespace Go.Proofs.YtiibgheijbbmaaaGreatDoor
open Go.RowKit M Proofs.Tryz
def Ay (e:Int×Bs):Int×PgD:=(e.1,⟨e.2,1,0,false⟩)
section
variable {E E1:EnD} {t:Bs} {l:AL Bs}
theorem D9 (h:upE E=false):Zz E ⟨t,l⟩=(9,E):= by unfold Zz; rw[if_pos h]
theorem D8 (h: ¬upE E=false) (h2:Zl ⟨t,l⟩=false):Zz E ⟨t,l⟩=(2,E):= by unfold Zz; rw[if_neg h,if_pos h2]
theorem UP (h: ¬upE E=false) (h2: ¬Zl ⟨t,l⟩=false) (h3: ¬(E.kind=0∧E.move=0)∧(E.kind≠1∨E.ses.isSome=true)):Zz E ⟨t,l⟩=(7,E):= by unfold Zz; rw[if_neg h,if_neg h2,if_pos h3]
theorem LI (h: ¬upE E=false) (h2: ¬Zl ⟨t,l⟩=false) (h3:E.kind=0∧E.move=0) (h4:(QU E 1 1).1≠0):Zz E ⟨t,l⟩=QU E 1 1:= by unfold Zz; rw[if_neg h,if_neg h2,if_neg (fun q=>q.1 h3),if_pos h3,if_pos h4]
theorem begin_e (h: ¬upE E=false) (h2: ¬Zl ⟨t,l⟩=false) (h3:E.kind=0∧E.move=0) (h4:(QU E 1 1).1=0):Zz E ⟨t,l⟩=(0,{(QU E 1 1).2 with ses:=some (Yy ⟨t,l⟩),active:=false,frozen:=false,told:=true}):= by unfold Zz; rw[if_neg h,if_neg h2,if_neg (fun q=>q.1 h3),if_pos h3,if_neg (by omega)]
theorem LH (h: ¬upE E=false) (h2: ¬Zl ⟨t,l⟩=false) (h3: ¬(E.kind=0∧E.move=0)) (h4:E.kind=1) (h5:E.ses=none):Zz E ⟨t,l⟩=(0,{E with ses:=some (Yy ⟨t,l⟩),active:=false,frozen:=false,told:=true}):= by unfold Zz; rw[if_neg h,if_neg h2,if_neg (by rintro⟨_,q | q⟩; exact q h4; rw[h5]at q; cases q),if_neg h3]
theorem Lb {k:Nat} (h:Zl ⟨t,l⟩=true):Srt ((l.take k).map Ay):= by
  have h1:=(C7 l 0 (VZ h).1).1
  have h2:Zy ((l.take k).map Ay)=(Zy l).take k:= by unfold Zy; rw[List.map_map,←List.map_take];rfl
  unfold Srt; rw[h2]
  exact h1.sublist (List.take_sublist _ _)
theorem Mp {k:Nat} {x:Int×Bs} (h:Zl ⟨t,l⟩=true) (hx:l[k]? =some x):upd (Yc ((l.take k).map Ay)) x.1 (some (Rk ⟨x.2,1,0,false⟩))=Yc ((l.take (k+1)).map Ay):= by
  have h1:=Lb (k:=k+1) h
  have e:(l.take (k+1)).map Ay=(l.take k).map Ay++[(x.1,⟨x.2,1,0,false⟩)]:= by rw[List.take_add_one,hx,List.map_append];rfl
  rw[e]at h1⊢
  exact Pe (Lb h) fun f hf=> by
    unfold Srt Zy at h1
    rw[List.map_append]at h1
    exact(List.pairwise_append.1 h1).2.2 f.1 (List.mem_map.2 ⟨f,hf,rfl⟩) x.1 (by simp)
end
theorem GI {w:World} {e:Nat} {E:EnD} {F:Th} (hS:Sat w [Xu e E,F]) (hG:Ent F WireG) (hO:Ent F (Glob 0)) {t:Bs} {sv:Value} {l:AL Bs} (hL:Ent F (RdL shC sv l)):
    Calls prog 24 #[ptrV e 0,.agg #[strV t,sv]] w (Ret fun v w'=>v=intV (Zz E ⟨t,l⟩).1∧Sat w' [Xu e (Zz E ⟨t,l⟩).2,F]):= by
 obtain⟨ao,cap,rfl,hmax⟩:=(hL.sat hS 1 rfl).shape
 refine Qx func24 Qa ntmps24 Qa ?_
 refine Qg (Qb (XT hS Qa Qa Qa ?_))
 intro bp wp hSp0
 have hSp:Sat wp [QR bp [strV t,.slice ao l.length cap],Xu e E,F]:=hSp0
 refine Qc Qa Qa (Qh (Qd (Qg (Qb ?_))))
 obtain⟨dp,cv,sv,ov,hS1⟩:=QQ (hSp.pick [1,0,2] rfl)
 refine Qe Qa Qa (Ql Qa Qa (Qi Qa Zv Qa (Qq Qa QF (hS1.cell 0 Qa Qa) Qa (QL Qa Qa Qa (Qe Qa Qa (Q4 14 Qa (fun h2=> ?_) (fun h2=> ?_)))))))
 ·refine Qj Qa Qa (Q8 h2) (Qe Qa Qa (Qj Qa Qa (Q8 h2) (Ql Qa Qa (Qj Qa Qa (Q8 h2) (Qi Qa W5 Qa (Qj Qa Qa (Q8 h2) (Qq Qa QF (hS1.cell 0 Qa Qa) Qa (Qj Qa Qa (Q8 h2) (QL Qa Qa Qa (Q0 Qa (Q8 h2) Qa Qa (Qc Qa Qa (Qh ?_))))))))))))
  have hS3:=Qv (E:=E) ((hS1.pick [0,1,2,3,4,5,6] Qa))
  refine Qd (Qk [0,3,4,5] Qa (Qg (QD (Qg (Qb (Qe Qa Qa (Qz RI Qa (DJ (hS3.sp [0] Qa)) Qa ?_)))))))
  rintro _ w4 ⟨rfl,hS4⟩
  replace hS4:=hS4.jn Qa Qa
  refine XL Qa Qa (Qc Qa Qa (Qh (Qd (Xb Qa (fun h5=> ?_) (fun h5=> ?_)))))
  ·have hu0:upE E=false:= by simpa using h5
   refine Qg (Qb (Qc Qa Qa (Qh (Qd (Qo (Qy (Qm (Q5 (.inr Qa) Qa Qa ?_))))))))
   exact⟨_,rfl, by rw[D9 hu0], by rw[D9 hu0]; exact hS4.pick [0,2] Qa⟩
  have hup: ¬upE E=false:= by simpa using h5
  have hu:=RV hup
  refine Qg (Qb ?_)
  refine ZK Qa J9 Wi (by first | exact hS4.blk 1 Qa) (by first | decide | exact Xd Qa | (simp;done) | omega) Qa Qa ?_
  refine Qz I5 Qa (NX (hS4.sp [] Qa) (hL.starL 2 Qa)) Qa ?_
  rintro _ w6 ⟨rfl,hS6⟩
  replace hS6:=hS6.jn Qa Qa
  refine XL Qa Qa (Qc Qa Qa (Qh (Qd (Qk [0,3,4,5,25] Qa (Xb Qa (fun h7=> ?_) (fun h7=> ?_))))))
  ·have hri0:Zl ⟨t,l⟩=false:= by simpa using h7
   refine Qg (Qb (Qc Qa Qa (Qh (Qd (Qo (Qy (Qm (Q5 (.inr Qa) Qa Qa ?_))))))))
   exact⟨_,rfl, by rw[D8 hup hri0], by rw[D8 hup hri0]; exact hS6.pick [0,2] Qa⟩
  have hri: ¬Zl ⟨t,l⟩=false:= by simpa using h7
  refine Qg ?_
  obtain⟨dp,cv,sv,ov,hS8⟩:=QQ (hS6.pick [0,1,2] rfl)
  refine Qb (Qe Qa Qa (XL Qa Qa (Qe Qa Qa (Z4 32 Qa (fun h9=> ?_) (fun h9=> ?_)))))
  ·have hfs: ¬E.move=0:= by simpa using h9
   refine Qj Qa Qa h9 (Qe Qa Qa (Qj Qa Qa h9 (Ql Qa Qa (Qj Qa Qa h9 (Qi Qa Zv Qa (Qj Qa Qa h9 (Qq Qa QF (hS8.cell 0 Qa Qa) Qa (Qj Qa Qa h9 (Xr Qa Qa Qa (Qj Qa Qa h9 (Qe Qa Qa (Q4 38 Qa (fun h10=> ?_) (fun h10=> ?_)))))))))))))
   ·refine Qf Qa Qa (Q8 h10) Qa (Qf Qa Qa (Q8 h10) Qa (Qf Qa Qa (Q8 h10) Qa (Qf Qa Qa (Q8 h10) Qa (Qf Qa Qa (Q8 h10) Qa (Qj Qa Qa h9 (Q0 Qa (Q8 h10) Qa Qa (Q0 Qa h9 Qa Qa (Qc Qa Qa (Qh (Qd (Qk [0,3,4,5,29] Qa (QO Qa (Qg (Qb (Qc Qa Qa (Qh (Qd (Qo (Qy (Qm (Q5 (.inr Qa) Qa Qa ?_)))))))))))))))))))))
    exact⟨_,rfl, by rw[UP hup hri ⟨by omega, by exact .inl (by omega)⟩], by rw[UP hup hri ⟨by omega, by exact .inl (by omega)⟩]; exact Qv (E:=E) ((hS8.pick [0,1,2,3,4,6] Qa))⟩
   refine Qj Qa Qa (Qw h10) (Qe Qa Qa (Qj Qa Qa (Qw h10) (Ql Qa Qa (Qj Qa Qa (Qw h10) (Qi Qa Xo Qa (Qj Qa Qa (Qw h10) (Qq Qa Z3 (hS8.cell 0 Qa Qa) Qa (Qj Qa Qa (Qw h10) ?_))))))))
   rcases hq_s:E.ses with _ | s
   ·rw[hq_s]at hS8
    obtain⟨rfl,hSo11⟩:=WN (hS8.pick [3,0,1,2,4,5,6] rfl)
    refine YR underlying78 Qa Qa Qa (Qj Qa Qa h9 (Q1 Qa (Qw h10) Qa Qa (Q0 Qa h9 Qa Qa (Qc Qa Qa (Qh (Qd (Qk [0,3,4,5,29] Qa (QI Qa (Qr (Qp (Qd (Uh (fun E0 W0=> ∃(Eb:EnD),E0=[(0,ptrV e 0),(3,ptrV bp 0)]∧Sat W0 [Xu e Eb,QR bp [strV t,.slice ao l.length cap],F]∧(Zz E ⟨t,l⟩=(0,{Eb with ses:=some (Yy ⟨t,l⟩),active:=false,frozen:=false,told:=true}))) ?_ ?_))))))))))))
    ·refine Qg (Qb (Qe Qa Qa (Qh (Qd (Qt Qa (fun h14=> ?_) (fun h14=> ?_))))))
     ·omega
     refine Qr ?_
     have hS15:=Qv (E:=E) (by rw[hq_s]; exact((ZQ hSo11).pick [1,2,3,0,4,5,6] Qa))
     exact WH (Ax Qa Qa) ⟨E,rfl,hS15.pick [0,1,2] Qa,LH hup hri (by omega) (by omega) hq_s⟩
    rintro _ w13 ⟨Eb,rfl,hS13,hEb⟩
    refine Qg ?_
    have hri1:Zl ⟨t,l⟩=true:= by cases q:Zl ⟨t,l⟩; exact absurd q hri;rfl
    obtain⟨dp1,cv1,sv1,ov1,hS16⟩:=QQ (hS13.pick [0,1,2] rfl)
    refine Qb (Qe Qa Qa (Qi Qa Hf Qa (Qq Qa Zr (hS16.cell 5 Qa Qa) Qa (W7 XY hS16 Qa ?_))))
    intro sm w17 hS17
    refine JB (vs':=[strV t,intV 1,.map (some sm)]) Qa Kd N3 FM Qa Qa Qa (XT hS17 Qa Qa Qa ?_)
    intro sb w18 hS18
    refine Ql Qa Qa (Qi Qa Xo Qa ?_)
    (refine Q7 hS18 Qa Qa DN (by rfl) (i:=2) Qa (Xd Qa) ?_)
    intro w19 hS20; dsimp only[List.set]at hS20
    refine Qh ?_
    replace hS20:Sat _ [QR sb [strV t,intV 1,.map (some sm)],XE XY sm (Yc ((l.take 0).map Ay)),QR e (U5 dp1 cv1 (ptrV sb 0) ov1 Eb),dT dp1 Eb.D,JK dp1 cv1 Eb.cell,VQ sv1 Eb.ses,Rl ov1 Eb.off,QR bp [strV t,.slice ao l.length cap],F]:=hS20
    refine Qd (Qg (Qg (Qb (Qi Qa Zh Qa (Qq Qa WF (hS20.cell 7 Qa Qa) Qa (Xi underlying22 Qa Qa (Qe Qa Qa (Qh (Qd (Qk [0,61,62,63] Qa (QD ?_)))))))))))
    refine X8 (fun K0 E0 W0=> ∃(i:Nat),K0=l.length -i∧E0=[(0,ptrV e 0),(61,.slice ao l.length cap),(62,intV (l.length:Int)),(63,intV (i:Int))]∧Sat W0 [QR sb [strV t,intV 1,.map (some sm)],XE XY sm (Yc ((l.take i).map Ay)),QR e (U5 dp1 cv1 (ptrV sb 0) ov1 Eb),dT dp1 Eb.D,JK dp1 cv1 Eb.cell,Rl ov1 Eb.off,F]∧(i≤l.length)) (L0:=[(0,_),(61,_),(62,_),(63,_)]) (l.length -0) (DB Qa Qa Qa Qa) ⟨0,rfl,rfl,hS20.pick [0,1,2,3,4,6,8] Qa, by omega⟩ ?_
    rintro _ _ w21 ⟨i,rfl,rfl,hS21,hi⟩
    refine Qg (Qb (X0 Qa Qa Qa (Qh (Qd (Qg (Qt Qa (fun h22=> ?_) (fun h22=> ?_)))))))
    ·obtain⟨x,hx⟩: ∃x,l[i]? =some x:=⟨_,WB (by omega)⟩
     obtain⟨b,off,rfl,hc⟩:=(hL.sat hS21 6 rfl).get hx
     refine Qr (Qd (Qg (QD (Qg (Qb (X4 i Qa Qa (by first | rfl | omega) (by omega) Vy Qa ?_))))))
     refine YH Qa GM Uk (vs:=[intV x.1,strV x.2]) hc Qa (Xl hS21 Rn Qa Qa ?_)
     intro b23 w23 hS23
     (refine QZ hS23 Qa Qa Uk Qa (by rfl) (i:=0) Qa (by decide) ?_)
     intro w24 hS25; dsimp only[List.set]at hS25
     refine Qh (Qd ?_)
     have hS26:=hS25.drew
     refine QM [0,1,2,3,4,5,6,7,8,9,10,11,12] [12] Wv (by kernel_rfl) ?_
     refine QK Qa Qa Qa (Xm Qa Qa Qa (QN Qa Qa Qa Xo (Q9 Qa Qa Qa (Qn Qa Z3 (hS26.cell 3 Qa Qa)) (Xm Qa Qa Qa (QN Qa Qa Qa ZF (Q9 Qa Qa Qa (Qn Qa ZX (hS26.cell 1 Qa Qa)) (QN Qa Qa Qa Yh (Q9 Qa Qa Qa (Qn Qa QF (hS26.cell 0 Qa Qa)) (QN Qa Qa Qa UM (Q9 Qa Qa Qa (Qn Qa Zr (hS26.cell 0 Qa Qa)) (QC Qa Qa Qa (fun _=>(ZY Qa YM U1 Wc Qa)) ?_)))))))))))
     refine QS Qa Qa Qa Qa Qa Qa ?_
     refine Ze (k:=x.1) (v:=Rk ⟨x.2,1,0,false⟩) 2 hS26 keysInt underlying89 Qa Qa Qa Qa ?_
     intro w27 hS27; dsimp only[List.set]at hS27; rw[Mp hri1 hx]at hS27
     refine Z6 (Xp (by kernel_rfl)) ?_
     refine VC.nil (Qp (Qd (Qk [63,62,61,0] Qa (Qb (Xx Qa Qa (by omega) (by omega) Qa ?_)))))
     refine Qe Qa Qa (Qh ?_)
     exact Xa (L1:=[(0,_),(61,_),(62,_),(63,intV ((i+1:Nat):Int))]) (DB Qa Qa Qa Qa) (k1:=l.length -(i+1)) (by omega) ⟨i+1,rfl,rfl,hS27.pick [1,2,3,4,5,6,7] Qa, by omega⟩
    refine Xq (Q2 (Q2 (QH (Qd (Qg (Qb (Qe Qa Qa (Qe Qa Qa (Qe Qa Qa (Ql Qa Qa (Qi Qa Zc Qa ?_)))))))))))
    (refine Q7 hS21 Qa Qa Jd (by rfl) (i:=2) Qa (Xd Qa) ?_)
    intro w28 hS29; dsimp only[List.set]at hS29
    refine Ql Qa Qa (Qi Qa WU Qa ?_)
    (refine Q7 hS29 Qa Qa Jd (by rfl) (i:=2) Qa (Xd Qa) ?_)
    intro w30 hS31; dsimp only[List.set]at hS31
    refine Ql Qa Qa (Qi Qa HY Qa ?_)
    (refine Q7 hS31 Qa Qa Jd (by rfl) (i:=2) Qa (Xd Qa) ?_)
    intro w32 hS33; dsimp only[List.set]at hS33
    refine Qh (Qd (DE (L':=[]) .nil (Qg (Qb (Qc Qa Qa (Qh (Qd (Qo (Q5 (.inr Qa) Qa Qa ?_)))))))))
    have hz:=hS33.pick [0,1,2,3,4,5,6] Qa
    rw[show i=l.length by omega,List.take_length]at hz
    exact⟨_,rfl, by rw[hEb], by rw[hEb]; exact Qv (E:={Eb with ses:=some (Yy ⟨t,l⟩),active:=false,frozen:=false,told:=true}) (dp:=dp1) ((Xf (s:=Yy ⟨t,l⟩) hz).reorder [1,2,3,0,4,5] Qa)⟩
   rw[hq_s]at hS8
   obtain⟨sb,sm,rfl,hSo12⟩:=Zj (hS8.pick [3,0,1,2,4,5,6] rfl)
   refine UZ underlying78 Qa Qa Qa (Qj Qa Qa h9 (Q1 Qa (Qw h10) Qa Qa (Q0 Qa h9 Qa Qa (Qc Qa Qa (Qh (Qd (Qk [0,3,4,5,29] Qa (QO Qa (Qg (Qb (Qc Qa Qa (Qh (Qd (Qo (Qy (Qm (Q5 (.inr Qa) Qa Qa ?_)))))))))))))))))
   exact⟨_,rfl, by rw[UP hup hri ⟨by omega, by exact .inl (by omega)⟩], by rw[UP hup hri ⟨by omega, by exact .inl (by omega)⟩]; exact Qv (E:=E) (by rw[hq_s]; exact((Xf (hSo12.pick [0,1,2,3,4,5,6,7] Qa)).pick [1,2,3,0,4,6] Qa))⟩
  have hfs:E.move=0:= by simpa using h9
  refine Qf Qa Qa h9 Qa (Qf Qa Qa h9 Qa (Qf Qa Qa h9 Qa (Qf Qa Qa h9 Qa (Qf Qa Qa h9 Qa (Qf Qa Qa h9 Qa (QG Qa Qa Qa (QG Qa Qa Qa (QG Qa Qa Qa (QG Qa Qa Qa (QG Qa Qa Qa (Qf Qa Qa h9 Qa (Q1 Qa h9 Qa Qa (Qc Qa Qa (Qh (Qd (Qk [0,3,4,5,29] Qa (QI Qa (Qr (Qp (Qd (Uh (fun E0 W0=> ∃(Eb:EnD),E0=[(0,ptrV e 0),(3,ptrV bp 0)]∧Sat W0 [Xu e Eb,QR bp [strV t,.slice ao l.length cap],F]∧(Zz E ⟨t,l⟩=(0,{Eb with ses:=some (Yy ⟨t,l⟩),active:=false,frozen:=false,told:=true}))) ?_ ?_)))))))))))))))))))))
  ·refine Qg (Qb (Qe Qa Qa (Qh (Qd (Qt Qa (fun h35=> ?_) (fun h35=> ?_))))))
   ·refine Qg (Qb (Qe Qa Qa ?_))
    have hS36:=Qv (E:=E) ((hS8.pick [0,1,2,3,4,5,6] Qa))
    refine Qz Ku Qa (UH (hS36.sp [0] Qa) (hG.starL 1 Qa) (hO.starL 1 Qa) hu (k:=1) (m:=1) (XM (by decide)) (XM (by decide))) Qa ?_
    rintro _ w37 ⟨rfl,hS37⟩
    replace hS37:=hS37.jn Qa Qa
    refine Qc Qa Qa (Qh (Qd (Qg (Qb (Qe Qa Qa (Xr Qa Qa Qa (Qh (Qd (Qk [0,3,4,6,50] Qa (Qt Qa (fun h38=> ?_) (fun h38=> ?_)))))))))))
    ·have hbad:(QU E 1 1).1≠0:= by simpa using h38
     refine Qg (Qb (Qe Qa Qa (Qc Qa Qa (Qh (Qd (Qo (Qm (Q5 (.inr Qa) Qa Qa ?_))))))))
     exact⟨_,rfl, by rw[LI hup hri ⟨by omega, by omega⟩ hbad], by rw[LI hup hri ⟨by omega, by omega⟩ hbad]; exact hS37.pick [0,2] Qa⟩
    have hn0:(QU E 1 1).1=0:= by simpa using h38
    refine Qr ?_
    exact WH (Ax Qa Qa) ⟨(QU E 1 1).2,rfl,hS37.pick [0,1,2] Qa,begin_e hup hri ⟨by omega, by omega⟩ hn0⟩
   omega
  rintro _ w34 ⟨Eb,rfl,hS34,hEb⟩
  refine Qg ?_
  have hri1:Zl ⟨t,l⟩=true:= by cases q:Zl ⟨t,l⟩; exact absurd q hri;rfl
  obtain⟨dp1,cv1,sv1,ov1,hS39⟩:=QQ (hS34.pick [0,1,2] rfl)
  refine Qb (Qe Qa Qa (Qi Qa Hf Qa (Qq Qa Zr (hS39.cell 5 Qa Qa) Qa (W7 XY hS39 Qa ?_))))
  intro sm w40 hS40
  refine JB (vs':=[strV t,intV 1,.map (some sm)]) Qa Kd N3 FM Qa Qa Qa (XT hS40 Qa Qa Qa ?_)
  intro sb w41 hS41
  refine Ql Qa Qa (Qi Qa Xo Qa ?_)
  (refine Q7 hS41 Qa Qa DN (by rfl) (i:=2) Qa (Xd Qa) ?_)
  intro w42 hS43; dsimp only[List.set]at hS43
  refine Qh ?_
  replace hS43:Sat _ [QR sb [strV t,intV 1,.map (some sm)],XE XY sm (Yc ((l.take 0).map Ay)),QR e (U5 dp1 cv1 (ptrV sb 0) ov1 Eb),dT dp1 Eb.D,JK dp1 cv1 Eb.cell,VQ sv1 Eb.ses,Rl ov1 Eb.off,QR bp [strV t,.slice ao l.length cap],F]:=hS43
  refine Qd (Qg (Qg (Qb (Qi Qa Zh Qa (Qq Qa WF (hS43.cell 7 Qa Qa) Qa (Xi underlying22 Qa Qa (Qe Qa Qa (Qh (Qd (Qk [0,61,62,63] Qa (QD ?_)))))))))))
  refine X8 (fun K0 E0 W0=> ∃(i:Nat),K0=l.length -i∧E0=[(0,ptrV e 0),(61,.slice ao l.length cap),(62,intV (l.length:Int)),(63,intV (i:Int))]∧Sat W0 [QR sb [strV t,intV 1,.map (some sm)],XE XY sm (Yc ((l.take i).map Ay)),QR e (U5 dp1 cv1 (ptrV sb 0) ov1 Eb),dT dp1 Eb.D,JK dp1 cv1 Eb.cell,Rl ov1 Eb.off,F]∧(i≤l.length)) (L0:=[(0,_),(61,_),(62,_),(63,_)]) (l.length -0) (DB Qa Qa Qa Qa) ⟨0,rfl,rfl,hS43.pick [0,1,2,3,4,6,8] Qa, by omega⟩ ?_
  rintro _ _ w44 ⟨i,rfl,rfl,hS44,hi⟩
  refine Qg (Qb (X0 Qa Qa Qa (Qh (Qd (Qg (Qt Qa (fun h45=> ?_) (fun h45=> ?_)))))))
  ·obtain⟨x,hx⟩: ∃x,l[i]? =some x:=⟨_,WB (by omega)⟩
   obtain⟨b,off,rfl,hc⟩:=(hL.sat hS44 6 rfl).get hx
   refine Qr (Qd (Qg (QD (Qg (Qb (X4 i Qa Qa (by first | rfl | omega) (by omega) Vy Qa ?_))))))
   refine YH Qa GM Uk (vs:=[intV x.1,strV x.2]) hc Qa (Xl hS44 Rn Qa Qa ?_)
   intro b46 w46 hS46
   (refine QZ hS46 Qa Qa Uk Qa (by rfl) (i:=0) Qa (by decide) ?_)
   intro w47 hS48; dsimp only[List.set]at hS48
   refine Qh (Qd ?_)
   have hS49:=hS48.drew
   refine QM [0,1,2,3,4,5,6,7,8,9,10,11,12] [12] Wv (by kernel_rfl) ?_
   refine QK Qa Qa Qa (Xm Qa Qa Qa (QN Qa Qa Qa Xo (Q9 Qa Qa Qa (Qn Qa Z3 (hS49.cell 3 Qa Qa)) (Xm Qa Qa Qa (QN Qa Qa Qa ZF (Q9 Qa Qa Qa (Qn Qa ZX (hS49.cell 1 Qa Qa)) (QN Qa Qa Qa Yh (Q9 Qa Qa Qa (Qn Qa QF (hS49.cell 0 Qa Qa)) (QN Qa Qa Qa UM (Q9 Qa Qa Qa (Qn Qa Zr (hS49.cell 0 Qa Qa)) (QC Qa Qa Qa (fun _=>(ZY Qa YM U1 Wc Qa)) ?_)))))))))))
   refine QS Qa Qa Qa Qa Qa Qa ?_
   refine Ze (k:=x.1) (v:=Rk ⟨x.2,1,0,false⟩) 2 hS49 keysInt underlying89 Qa Qa Qa Qa ?_
   intro w50 hS50; dsimp only[List.set]at hS50; rw[Mp hri1 hx]at hS50
   refine Z6 (Xp (by kernel_rfl)) ?_
   refine VC.nil (Qp (Qd (Qk [63,62,61,0] Qa (Qb (Xx Qa Qa (by omega) (by omega) Qa ?_)))))
   refine Qe Qa Qa (Qh ?_)
   exact Xa (L1:=[(0,_),(61,_),(62,_),(63,intV ((i+1:Nat):Int))]) (DB Qa Qa Qa Qa) (k1:=l.length -(i+1)) (by omega) ⟨i+1,rfl,rfl,hS50.pick [1,2,3,4,5,6,7] Qa, by omega⟩
  refine Xq (Q2 (Q2 (QH (Qd (Qg (Qb (Qe Qa Qa (Qe Qa Qa (Qe Qa Qa (Ql Qa Qa (Qi Qa Zc Qa ?_)))))))))))
  (refine Q7 hS44 Qa Qa Jd (by rfl) (i:=2) Qa (Xd Qa) ?_)
  intro w51 hS52; dsimp only[List.set]at hS52
  refine Ql Qa Qa (Qi Qa WU Qa ?_)
  (refine Q7 hS52 Qa Qa Jd (by rfl) (i:=2) Qa (Xd Qa) ?_)
  intro w53 hS54; dsimp only[List.set]at hS54
  refine Ql Qa Qa (Qi Qa HY Qa ?_)
  (refine Q7 hS54 Qa Qa Jd (by rfl) (i:=2) Qa (Xd Qa) ?_)
  intro w55 hS56; dsimp only[List.set]at hS56
  refine Qh (Qd (DE (L':=[]) .nil (Qg (Qb (Qc Qa Qa (Qh (Qd (Qo (Q5 (.inr Qa) Qa Qa ?_)))))))))
  have hz:=hS56.pick [0,1,2,3,4,5,6] Qa
  rw[show i=l.length by omega,List.take_length]at hz
  exact⟨_,rfl, by rw[hEb], by rw[hEb]; exact Qv (E:={Eb with ses:=some (Yy ⟨t,l⟩),active:=false,frozen:=false,told:=true}) (dp:=dp1) ((Xf (s:=Yy ⟨t,l⟩) hz).reorder [1,2,3,0,4,5] Qa)⟩
 refine Qf Qa Qa (Qw h2) Qa (Qf Qa Qa (Qw h2) Qa (Qf Qa Qa (Qw h2) Qa (Qf Qa Qa (Qw h2) Qa (Qf Qa Qa (Qw h2) Qa (Q1 Qa (Qw h2) Qa Qa (Qc Qa Qa (Qh ?_)))))))
 have hS57:=Qv (E:=E) ((hS1.pick [0,1,2,3,4,5,6] Qa))
 refine Qd (Qk [0,3,4,5] Qa (Qg (QD (Qg (Qb (Qe Qa Qa (Qz RI Qa (DJ (hS57.sp [0] Qa)) Qa ?_)))))))
 rintro _ w58 ⟨rfl,hS58⟩
 replace hS58:=hS58.jn Qa Qa
 refine XL Qa Qa (Qc Qa Qa (Qh (Qd (Xb Qa (fun h59=> ?_) (fun h59=> ?_)))))
 ·have hu0:upE E=false:= by simpa using h59
  refine Qg (Qb (Qc Qa Qa (Qh (Qd (Qo (Qy (Qm (Q5 (.inr Qa) Qa Qa ?_))))))))
  exact⟨_,rfl, by rw[D9 hu0], by rw[D9 hu0]; exact hS58.pick [0,2] Qa⟩
 have hup: ¬upE E=false:= by simpa using h59
 have hu:=RV hup
 refine Qg (Qb ?_)
 refine ZK Qa J9 Wi (by first | exact hS58.blk 1 Qa) (by first | decide | exact Xd Qa | (simp;done) | omega) Qa Qa ?_
 refine Qz I5 Qa (NX (hS58.sp [] Qa) (hL.starL 2 Qa)) Qa ?_
 rintro _ w60 ⟨rfl,hS60⟩
 replace hS60:=hS60.jn Qa Qa
 refine XL Qa Qa (Qc Qa Qa (Qh (Qd (Qk [0,3,4,5,25] Qa (Xb Qa (fun h61=> ?_) (fun h61=> ?_))))))
 ·have hri0:Zl ⟨t,l⟩=false:= by simpa using h61
  refine Qg (Qb (Qc Qa Qa (Qh (Qd (Qo (Qy (Qm (Q5 (.inr Qa) Qa Qa ?_))))))))
  exact⟨_,rfl, by rw[D8 hup hri0], by rw[D8 hup hri0]; exact hS60.pick [0,2] Qa⟩
 have hri: ¬Zl ⟨t,l⟩=false:= by simpa using h61
 refine Qg ?_
 obtain⟨dp,cv,sv,ov,hS62⟩:=QQ (hS60.pick [0,1,2] rfl)
 refine Qb (Qe Qa Qa (XL Qa Qa (Qe Qa Qa (Qj Qa Qa Qa (Qe Qa Qa (Qj Qa Qa Qa (Ql Qa Qa (Qj Qa Qa Qa (Qi Qa Zv Qa (Qj Qa Qa Qa (Qq Qa QF (hS62.cell 0 Qa Qa) Qa (Qj Qa Qa Qa (Xr Qa Qa Qa (Qj Qa Qa Qa (Qe Qa Qa (Q4 38 Qa (fun h63=> ?_) (fun h63=> ?_)))))))))))))))))
 ·refine Qf Qa Qa (Q8 h63) Qa (Qf Qa Qa (Q8 h63) Qa (Qf Qa Qa (Q8 h63) Qa (Qf Qa Qa (Q8 h63) Qa (Qf Qa Qa (Q8 h63) Qa (Qj Qa Qa Qa (Q0 Qa (Q8 h63) Qa Qa (Q0 Qa Qa Qa Qa (Qc Qa Qa (Qh (Qd (Qk [0,3,4,5,29] Qa (QO Qa (Qg (Qb (Qc Qa Qa (Qh (Qd (Qo (Qy (Qm (Q5 (.inr Qa) Qa Qa ?_)))))))))))))))))))))
  exact⟨_,rfl, by rw[UP hup hri ⟨by omega, by exact .inl (by omega)⟩], by rw[UP hup hri ⟨by omega, by exact .inl (by omega)⟩]; exact Qv (E:=E) ((hS62.pick [0,1,2,3,4,6] Qa))⟩
 refine Qj Qa Qa (Qw h63) (Qe Qa Qa (Qj Qa Qa (Qw h63) (Ql Qa Qa (Qj Qa Qa (Qw h63) (Qi Qa Xo Qa (Qj Qa Qa (Qw h63) (Qq Qa Z3 (hS62.cell 0 Qa Qa) Qa (Qj Qa Qa (Qw h63) ?_))))))))
 rcases hq_s:E.ses with _ | s
 ·rw[hq_s]at hS62
  obtain⟨rfl,hSo64⟩:=WN (hS62.pick [3,0,1,2,4,5,6] rfl)
  refine YR underlying78 Qa Qa Qa (Qj Qa Qa Qa (Q1 Qa (Qw h63) Qa Qa (Q0 Qa Qa Qa Qa (Qc Qa Qa (Qh (Qd (Qk [0,3,4,5,29] Qa (QI Qa (Qr (Qp (Qd (Uh (fun E0 W0=> ∃(Eb:EnD),E0=[(0,ptrV e 0),(3,ptrV bp 0)]∧Sat W0 [Xu e Eb,QR bp [strV t,.slice ao l.length cap],F]∧(Zz E ⟨t,l⟩=(0,{Eb with ses:=some (Yy ⟨t,l⟩),active:=false,frozen:=false,told:=true}))) ?_ ?_))))))))))))
  ·refine Qg (Qb (Qe Qa Qa (Qh (Qd (QI Qa (Qr ?_))))))
   have hS67:=Qv (E:=E) (by rw[hq_s]; exact((ZQ hSo64).pick [1,2,3,0,4,5,6] Qa))
   exact WH (Ax Qa Qa) ⟨E,rfl,hS67.pick [0,1,2] Qa,LH hup hri (by omega) (by omega) hq_s⟩
  rintro _ w66 ⟨Eb,rfl,hS66,hEb⟩
  refine Qg ?_
  have hri1:Zl ⟨t,l⟩=true:= by cases q:Zl ⟨t,l⟩; exact absurd q hri;rfl
  obtain⟨dp1,cv1,sv1,ov1,hS68⟩:=QQ (hS66.pick [0,1,2] rfl)
  refine Qb (Qe Qa Qa (Qi Qa Hf Qa (Qq Qa Zr (hS68.cell 5 Qa Qa) Qa (W7 XY hS68 Qa ?_))))
  intro sm w69 hS69
  refine JB (vs':=[strV t,intV 1,.map (some sm)]) Qa Kd N3 FM Qa Qa Qa (XT hS69 Qa Qa Qa ?_)
  intro sb w70 hS70
  refine Ql Qa Qa (Qi Qa Xo Qa ?_)
  (refine Q7 hS70 Qa Qa DN (by rfl) (i:=2) Qa (Xd Qa) ?_)
  intro w71 hS72; dsimp only[List.set]at hS72
  refine Qh ?_
  replace hS72:Sat _ [QR sb [strV t,intV 1,.map (some sm)],XE XY sm (Yc ((l.take 0).map Ay)),QR e (U5 dp1 cv1 (ptrV sb 0) ov1 Eb),dT dp1 Eb.D,JK dp1 cv1 Eb.cell,VQ sv1 Eb.ses,Rl ov1 Eb.off,QR bp [strV t,.slice ao l.length cap],F]:=hS72
  refine Qd (Qg (Qg (Qb (Qi Qa Zh Qa (Qq Qa WF (hS72.cell 7 Qa Qa) Qa (Xi underlying22 Qa Qa (Qe Qa Qa (Qh (Qd (Qk [0,61,62,63] Qa (QD ?_)))))))))))
  refine X8 (fun K0 E0 W0=> ∃(i:Nat),K0=l.length -i∧E0=[(0,ptrV e 0),(61,.slice ao l.length cap),(62,intV (l.length:Int)),(63,intV (i:Int))]∧Sat W0 [QR sb [strV t,intV 1,.map (some sm)],XE XY sm (Yc ((l.take i).map Ay)),QR e (U5 dp1 cv1 (ptrV sb 0) ov1 Eb),dT dp1 Eb.D,JK dp1 cv1 Eb.cell,Rl ov1 Eb.off,F]∧(i≤l.length)) (L0:=[(0,_),(61,_),(62,_),(63,_)]) (l.length -0) (DB Qa Qa Qa Qa) ⟨0,rfl,rfl,hS72.pick [0,1,2,3,4,6,8] Qa, by omega⟩ ?_
  rintro _ _ w73 ⟨i,rfl,rfl,hS73,hi⟩
  refine Qg (Qb (X0 Qa Qa Qa (Qh (Qd (Qg (Qt Qa (fun h74=> ?_) (fun h74=> ?_)))))))
  ·obtain⟨x,hx⟩: ∃x,l[i]? =some x:=⟨_,WB (by omega)⟩
   obtain⟨b,off,rfl,hc⟩:=(hL.sat hS73 6 rfl).get hx
   refine Qr (Qd (Qg (QD (Qg (Qb (X4 i Qa Qa (by first | rfl | omega) (by omega) Vy Qa ?_))))))
   refine YH Qa GM Uk (vs:=[intV x.1,strV x.2]) hc Qa (Xl hS73 Rn Qa Qa ?_)
   intro b75 w75 hS75
   (refine QZ hS75 Qa Qa Uk Qa (by rfl) (i:=0) Qa (by decide) ?_)
   intro w76 hS77; dsimp only[List.set]at hS77
   refine Qh (Qd ?_)
   have hS78:=hS77.drew
   refine QM [0,1,2,3,4,5,6,7,8,9,10,11,12] [12] Wv (by kernel_rfl) ?_
   refine QK Qa Qa Qa (Xm Qa Qa Qa (QN Qa Qa Qa Xo (Q9 Qa Qa Qa (Qn Qa Z3 (hS78.cell 3 Qa Qa)) (Xm Qa Qa Qa (QN Qa Qa Qa ZF (Q9 Qa Qa Qa (Qn Qa ZX (hS78.cell 1 Qa Qa)) (QN Qa Qa Qa Yh (Q9 Qa Qa Qa (Qn Qa QF (hS78.cell 0 Qa Qa)) (QN Qa Qa Qa UM (Q9 Qa Qa Qa (Qn Qa Zr (hS78.cell 0 Qa Qa)) (QC Qa Qa Qa (fun _=>(ZY Qa YM U1 Wc Qa)) ?_)))))))))))
   refine QS Qa Qa Qa Qa Qa Qa ?_
   refine Ze (k:=x.1) (v:=Rk ⟨x.2,1,0,false⟩) 2 hS78 keysInt underlying89 Qa Qa Qa Qa ?_
   intro w79 hS79; dsimp only[List.set]at hS79; rw[Mp hri1 hx]at hS79
   refine Z6 (Xp (by kernel_rfl)) ?_
   refine VC.nil (Qp (Qd (Qk [63,62,61,0] Qa (Qb (Xx Qa Qa (by omega) (by omega) Qa ?_)))))
   refine Qe Qa Qa (Qh ?_)
   exact Xa (L1:=[(0,_),(61,_),(62,_),(63,intV ((i+1:Nat):Int))]) (DB Qa Qa Qa Qa) (k1:=l.length -(i+1)) (by omega) ⟨i+1,rfl,rfl,hS79.pick [1,2,3,4,5,6,7] Qa, by omega⟩
  refine Xq (Q2 (Q2 (QH (Qd (Qg (Qb (Qe Qa Qa (Qe Qa Qa (Qe Qa Qa (Ql Qa Qa (Qi Qa Zc Qa ?_)))))))))))
  (refine Q7 hS73 Qa Qa Jd (by rfl) (i:=2) Qa (Xd Qa) ?_)
  intro w80 hS81; dsimp only[List.set]at hS81
  refine Ql Qa Qa (Qi Qa WU Qa ?_)
  (refine Q7 hS81 Qa Qa Jd (by rfl) (i:=2) Qa (Xd Qa) ?_)
  intro w82 hS83; dsimp only[List.set]at hS83
  refine Ql Qa Qa (Qi Qa HY Qa ?_)
  (refine Q7 hS83 Qa Qa Jd (by rfl) (i:=2) Qa (Xd Qa) ?_)
  intro w84 hS85; dsimp only[List.set]at hS85
  refine Qh (Qd (DE (L':=[]) .nil (Qg (Qb (Qc Qa Qa (Qh (Qd (Qo (Q5 (.inr Qa) Qa Qa ?_)))))))))
  have hz:=hS85.pick [0,1,2,3,4,5,6] Qa
  rw[show i=l.length by omega,List.take_length]at hz
  exact⟨_,rfl, by rw[hEb], by rw[hEb]; exact Qv (E:={Eb with ses:=some (Yy ⟨t,l⟩),active:=false,frozen:=false,told:=true}) (dp:=dp1) ((Xf (s:=Yy ⟨t,l⟩) hz).reorder [1,2,3,0,4,5] Qa)⟩
 rw[hq_s]at hS62
 obtain⟨sb,sm,rfl,hSo65⟩:=Zj (hS62.pick [3,0,1,2,4,5,6] rfl)
 refine UZ underlying78 Qa Qa Qa (Qj Qa Qa Qa (Q1 Qa (Qw h63) Qa Qa (Q0 Qa Qa Qa Qa (Qc Qa Qa (Qh (Qd (Qk [0,3,4,5,29] Qa (QO Qa (Qg (Qb (Qc Qa Qa (Qh (Qd (Qo (Qy (Qm (Q5 (.inr Qa) Qa Qa ?_)))))))))))))))))
 exact⟨_,rfl, by rw[UP hup hri ⟨by omega, by exact .inr (by rw[hq_s];rfl)⟩], by rw[UP hup hri ⟨by omega, by exact .inr (by rw[hq_s];rfl)⟩]; exact Qv (E:=E) (by rw[hq_s]; exact((Xf (hSo65.pick [0,1,2,3,4,5,6,7] Qa)).pick [1,2,3,0,4,6] Qa))⟩
