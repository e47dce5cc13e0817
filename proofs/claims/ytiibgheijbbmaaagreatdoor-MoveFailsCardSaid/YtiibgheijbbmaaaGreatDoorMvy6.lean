/- move: Begin -/
import Derived.Test.YtiibgheijbbmaaaGreatDoorMvy5
set_option linter.unusedVariables false
set_option maxRecDepth 100000
set_option maxHeartbeats 100000000000
namespace Go.Proofs.YtiibgheijbbmaaaGreatDoor
open Go.RowKit M Proofs.Tryz
def Ls (e:Int×Bs):Int×PgD:=(e.1,⟨e.2,1,0,false⟩)
section
variable {E E1:EnD} {t:Bs} {l:AL Bs}
theorem Bw (h:upE E=false):Zw E ⟨t,l⟩=(9,E):= by unfold Zw; rw[if_pos h]
theorem Bv (h: ¬upE E=false) (h2:Zb ⟨t,l⟩=false):Zw E ⟨t,l⟩=(2,E):= by unfold Zw; rw[if_neg h,if_pos h2]
theorem Us (h: ¬upE E=false) (h2: ¬Zb ⟨t,l⟩=false) (h3: ¬(E.kind=0∧E.move=0)∧(E.kind≠1∨E.ses.isSome=true)):Zw E ⟨t,l⟩=(7,E):= by unfold Zw; rw[if_neg h,if_neg h2,if_pos h3]
theorem SI (h: ¬upE E=false) (h2: ¬Zb ⟨t,l⟩=false) (h3:E.kind=0∧E.move=0) (h4:(QT E 1 1).1≠0):Zw E ⟨t,l⟩=QT E 1 1:= by unfold Zw; rw[if_neg h,if_neg h2,if_neg (fun q=>q.1 h3),if_pos h3,if_pos h4]
theorem begin_e (h: ¬upE E=false) (h2: ¬Zb ⟨t,l⟩=false) (h3:E.kind=0∧E.move=0) (h4:(QT E 1 1).1=0):Zw E ⟨t,l⟩=(0,{(QT E 1 1).2 with ses:=some (Y9 ⟨t,l⟩),active:=false,frozen:=false,told:=true}):= by unfold Zw; rw[if_neg h,if_neg h2,if_neg (fun q=>q.1 h3),if_pos h3,if_neg (by omega)]
theorem SH (h: ¬upE E=false) (h2: ¬Zb ⟨t,l⟩=false) (h3: ¬(E.kind=0∧E.move=0)) (h4:E.kind=1) (h5:E.ses=none):Zw E ⟨t,l⟩=(0,{E with ses:=some (Y9 ⟨t,l⟩),active:=false,frozen:=false,told:=true}):= by unfold Zw; rw[if_neg h,if_neg h2,if_neg (by rintro⟨_,q | q⟩; exact q h4; rw[h5]at q; cases q),if_neg h3]
theorem Se {k:Nat} (h:Zb ⟨t,l⟩=true):Srt ((l.take k).map Ls):= by
  have h1:=(MP l 0 (GG h).1).1
  have h2:Zu ((l.take k).map Ls)=(Zu l).take k:= by unfold Zu; rw[List.map_map,←List.map_take];rfl
  unfold Srt; rw[h2]
  exact h1.sublist (List.take_sublist _ _)
theorem BJ {k:Nat} {x:Int×Bs} (h:Zb ⟨t,l⟩=true) (hx:l[k]? =some x):upd (JT ((l.take k).map Ls)) x.1 (some (Kp ⟨x.2,1,0,false⟩))=JT ((l.take (k+1)).map Ls):= by
  have h1:=Se (k:=k+1) h
  have e:(l.take (k+1)).map Ls=(l.take k).map Ls++[(x.1,⟨x.2,1,0,false⟩)]:= by rw[List.take_add_one,hx,List.map_append];rfl
  rw[e]at h1⊢
  exact Ck (Se h) fun f hf=> by
    unfold Srt Zu at h1
    rw[List.map_append]at h1
    exact(List.pairwise_append.1 h1).2.2 f.1 (List.mem_map.2 ⟨f,hf,rfl⟩) x.1 (by simp)
end
theorem R9 {w:World} {e:Nat} {E:EnD} {F:Th} (hS:Sat w [Xw e E,F]) (hG:Ent F WireG) (hO:Ent F (Glob 0)) {t:Bs} {sv:Value} {l:AL Bs} (hL:Ent F (RdL shC sv l)):
    Calls prog 24 #[ptrV e 0,.agg #[strV t,sv]] w (Ret fun v w'=>v=intV (Zw E ⟨t,l⟩).1∧Sat w' [Xw e (Zw E ⟨t,l⟩).2,F]):= by
 obtain⟨ao,cap,rfl,hmax⟩:=(hL.sat hS 1 rfl).shape
 refine Qy func24 Qa ntmps24 Qa ?_
 refine Qf (Qb (Za hS Qa Qa Qa ?_))
 intro bp wp hSp0
 have hSp:Sat wp [Xb bp [strV t,.slice ao l.length cap],Xw e E,F]:=hSp0
 refine Qc Qa Qa (Qh (Qd (Qf (Qb ?_))))
 obtain⟨dp,cv,sv,ov,j1⟩:=QU (hSp.pick [1,0,2] rfl)
 refine Qe Qa Qa (Ql Qa Qa (Qi Qa Zh Qa (Qr Qa QH (by first | assumption | exact j1.cell 0 Qa Qa | exact j1.cell 5 Qa Qa) Qa ?_)))
 refine QL Qa Qa Qa (Qe Qa Qa (Q4 14 Qa (fun h2=> ?_) (fun h2=> ?_)))
 ·refine Qj Qa Qa (QD h2) (Qe Qa Qa (Qj Qa Qa (QD h2) (Ql Qa Qa (Qj Qa Qa (QD h2) (Qi Qa Wp Qa (Qj Qa Qa (QD h2) (Qr Qa QH (by first | assumption | exact j1.cell 0 Qa Qa | exact j1.cell 5 Qa Qa) Qa ?_)))))))
  refine Qj Qa Qa (QD h2) (QL Qa Qa Qa (Q1 Qa (QD h2) Qa Qa (Qc Qa Qa (Qh ?_))))
  have j3:=Qu (E:=E) ((j1.pick [0,1,2,3,4,5,6] Qa))
  refine Qd (Qk [0,3,4,5] Qa (Qf (QK (Qf (Qb (Qe Qa Qa (Q0 KK Qa (B9 (j3.sp [0] Qa)) Qa ?_)))))))
  rintro _ w4 ⟨rfl,j4⟩
  replace j4:=j4.jn Qa Qa
  refine XN Qa Qa (Qc Qa Qa (Qh (Qd (QZ Qa (fun h5=> ?_) (fun h5=> ?_)))))
  ·have hu0:upE E=false:= by simpa using h5
   refine Qf (Qb (Qc Qa Qa (Qh (Qd (Qo (Qz (Qm (Q5 (.inr Qa) Qa Qa ?_))))))))
   exact⟨_,rfl, by rw[Bw hu0], by rw[Bw hu0]; exact j4.pick [0,2] Qa⟩
  have hup: ¬upE E=false:= by simpa using h5
  have hu:=KT hup
  refine Qf (Qb ?_)
  refine Jd Qa Mw DP (by first | exact j4.blk 1 Qa) (by first | decide | exact QC Qa | (simp;done) | omega) Qa Qa ?_
  refine Q0 Ar Qa (Cd (j4.sp [] Qa) (hL.starL 2 Qa)) Qa ?_
  rintro _ w6 ⟨rfl,j6⟩
  replace j6:=j6.jn Qa Qa
  refine XN Qa Qa (Qc Qa Qa (Qh (Qd (Qk [0,3,4,5,25] Qa (QZ Qa (fun h7=> ?_) (fun h7=> ?_))))))
  ·have hri0:Zb ⟨t,l⟩=false:= by simpa using h7
   refine Qf (Qb (Qc Qa Qa (Qh (Qd (Qo (Qz (Qm (Q5 (.inr Qa) Qa Qa ?_))))))))
   exact⟨_,rfl, by rw[Bv hup hri0], by rw[Bv hup hri0]; exact j6.pick [0,2] Qa⟩
  have hri: ¬Zb ⟨t,l⟩=false:= by simpa using h7
  refine Qf ?_
  obtain⟨dp,cv,sv,ov,j8⟩:=QU (j6.pick [0,1,2] rfl)
  refine Qb (Qe Qa Qa (XN Qa Qa (Qe Qa Qa (ZO 32 Qa (fun h9=> ?_) (fun h9=> ?_)))))
  ·have hfs: ¬E.move=0:= by simpa using h9
   refine Qj Qa Qa h9 (Qe Qa Qa (Qj Qa Qa h9 (Ql Qa Qa (Qj Qa Qa h9 (Qi Qa Zh Qa (Qj Qa Qa h9 (Qr Qa QH (by first | assumption | exact j8.cell 0 Qa Qa | exact j8.cell 5 Qa Qa) Qa ?_)))))))
   refine Qj Qa Qa h9 (Xu Qa Qa Qa (Qj Qa Qa h9 (Qe Qa Qa (Q4 38 Qa (fun h10=> ?_) (fun h10=> ?_)))))
   ·refine Qg Qa Qa (QD h10) Qa (Qg Qa Qa (QD h10) Qa (Qg Qa Qa (QD h10) Qa (Qg Qa Qa (QD h10) Qa (Qg Qa Qa (QD h10) Qa (Qj Qa Qa h9 (Q1 Qa (QD h10) Qa Qa (Q1 Qa h9 Qa Qa (Qc Qa Qa (Qh (Qd (Qk [0,3,4,5,29] Qa (QP Qa (Qf (Qb (Qc Qa Qa (Qh (Qd (Qo (Qz (Qm (Q5 (.inr Qa) Qa Qa ?_)))))))))))))))))))))
    exact⟨_,rfl, by rw[Us hup hri ⟨by omega, by first | exact .inl (by omega) | exact .inr (by rw[hq_s];rfl)⟩], by rw[Us hup hri ⟨by omega, by first | exact .inl (by omega) | exact .inr (by rw[hq_s];rfl)⟩]; exact Qu (E:=E) ((j8.pick [0,1,2,3,4,6] Qa))⟩
   refine Qj Qa Qa (Qx h10) (Qe Qa Qa (Qj Qa Qa (Qx h10) (Ql Qa Qa (Qj Qa Qa (Qx h10) (Qi Qa Xt Qa (Qj Qa Qa (Qx h10) (Qr Qa ZA (by first | assumption | exact j8.cell 0 Qa Qa | exact j8.cell 5 Qa Qa) Qa ?_)))))))
   refine Qj Qa Qa (Qx h10) ?_
   rcases hq_s:E.ses with _ | s
   ·rw[hq_s]at j8
    obtain⟨rfl,hSo11⟩:=Je (j8.pick [3,0,1,2,4,5,6] rfl)
    refine Y4 underlying78 Qa Qa Qa (Qj Qa Qa h9 (Q3 Qa (Qx h10) Qa Qa (Q1 Qa h9 Qa Qa (Qc Qa Qa (Qh (Qd (Qk [0,3,4,5,29] Qa (QJ Qa (Qt (Qq (Qd (Vq (fun E0 W0=> ∃(Eb:EnD),E0=[(0,ptrV e 0),(3,ptrV bp 0)]∧Sat W0 [Xw e Eb,Xb bp [strV t,.slice ao l.length cap],F]∧(Zw E ⟨t,l⟩=(0,{Eb with ses:=some (Y9 ⟨t,l⟩),active:=false,frozen:=false,told:=true}))) ?_ ?_))))))))))))
    ·refine Qf (Qb (Qe Qa Qa (Qh (Qd (Qv Qa (fun h14=> ?_) (fun h14=> ?_))))))
     ·omega
     refine Qt ?_
     have j15:=Qu (E:=E) (by rw[hq_s]; exact((ZQ hSo11).pick [1,2,3,0,4,5,6] Qa))
     exact YB (Lr Qa Qa) ⟨E,rfl,j15.pick [0,1,2] Qa,SH hup hri (by omega) (by omega) hq_s⟩
    rintro _ w13 ⟨Eb,rfl,j13,hEb⟩
    refine Qf ?_
    have hri1:Zb ⟨t,l⟩=true:= by cases q:Zb ⟨t,l⟩; exact absurd q hri;rfl
    obtain⟨dp1,cv1,sv1,ov1,j16⟩:=QU (j13.pick [0,1,2] rfl)
    refine Qb (Qe Qa Qa (Qi Qa Kb Qa (Qr Qa Zx (by first | assumption | exact j16.cell 0 Qa Qa | exact j16.cell 5 Qa Qa) Qa ?_)))
    refine Wq XH j16 Qa ?_
    intro sm w17 j17
    refine Jz (vs':=[strV t,intV 1,.map (some sm)]) Qa Vy TD PK Qa Qa Qa (Za j17 Qa Qa Qa ?_)
    intro sb w18 j18
    refine Ql Qa Qa (Qi Qa Xt Qa ?_)
    first | (refine Qw j18 Qa Qa Yf (by first | rfl | assumption | exact j18.own_one 6 Qa) (i:=0) Qa (by first | decide | exact QC Qa | (simp;done) | omega) ?_) | (refine Qw j18 Qa Qa Yf (by first | rfl | assumption | exact j18.own_one 6 Qa) (i:=2) Qa (by first | decide | exact QC Qa | (simp;done) | omega) ?_) | (refine Qw j18 Qa Qa Yf (by first | rfl | assumption | exact j18.own_one 6 Qa) (i:=7) Qa (by first | decide | exact QC Qa | (simp;done) | omega) ?_)
    intro w19 j20; dsimp only[List.set]at j20
    refine Qh ?_
    replace j20:Sat _ [Xb sb [strV t,intV 1,.map (some sm)],X3 XH sm (JT ((l.take 0).map Ls)),Xb e (U0 dp1 cv1 (ptrV sb 0) ov1 Eb),dT dp1 Eb.D,JE dp1 cv1 Eb.cell,Vk sv1 Eb.ses,KC ov1 Eb.off,Xb bp [strV t,.slice ao l.length cap],F]:=j20
    refine Qd (Qf (Qf (Qb (Qi Qa HD Qa (Qr Qa RD (by first | assumption | exact j20.cell 0 Qa Qa | exact j20.cell 2 Qa Qa | exact j20.cell 7 Qa Qa) Qa ?_)))))
    first | refine Xm underlying22 Qa Qa ?_ | refine Xa 6 j20 underlying22 Qa Qa Qa ?_
    refine Qe Qa Qa (Qh (Qd (Qk [0,61,62,63] Qa (QK ?_))))
    refine XJ (fun K0 E0 W0=> ∃(i:Nat),K0=l.length -i∧E0=[(0,ptrV e 0),(61,.slice ao l.length cap),(62,intV (l.length:Int)),(63,intV (i:Int))]∧Sat W0 [Xb sb [strV t,intV 1,.map (some sm)],X3 XH sm (JT ((l.take i).map Ls)),Xb e (U0 dp1 cv1 (ptrV sb 0) ov1 Eb),dT dp1 Eb.D,JE dp1 cv1 Eb.cell,KC ov1 Eb.off,F]∧(i≤l.length)) (L0:=[(0,_),(61,_),(62,_),(63,_)]) (l.length -0) (By Qa Qa Qa Qa) ⟨0,rfl,rfl,j20.pick [0,1,2,3,4,6,8] Qa, by omega⟩ ?_
    rintro _ _ w21 ⟨i,rfl,rfl,j21,hi⟩
    refine Qf (Qb (X5 Qa Qa Qa (Qh (Qd (Qf (Qv Qa (fun h22=> ?_) (fun h22=> ?_)))))))
    ·obtain⟨x,hx⟩: ∃x,l[i]? =some x:=⟨_,WY (by omega)⟩
     obtain⟨b,off,rfl,hc⟩:=(hL.sat j21 6 rfl).get hx
     refine Qt (Qd (Qf (QK (Qf (Qb (XZ i Qa Qa (by first | rfl | omega) (by omega) Nq Qa ?_))))))
     refine YO Qa N8 YI (vs:=[intV x.1,strV x.2]) hc Qa (Xs j21 DC Qa Qa ?_)
     intro b23 w23 j23
     first | (refine Q8 j23 Qa Qa YI Qa (by first | rfl | (simp [QQ,Value.oneCell'];done) | assumption | exact hone) (i:=0) Qa (by first | decide | exact QC Qa | (simp;done) | omega) ?_) | (refine Q8 j23 Qa Qa YI Qa (by first | rfl | (simp [QQ,Value.oneCell'];done) | assumption | exact hone) (i:=1) Qa (by first | decide | exact QC Qa | (simp;done) | omega) ?_) | (refine Q8 j23 Qa Qa YI Qa (by first | rfl | (simp [QQ,Value.oneCell'];done) | assumption | exact hone) (i:=3) Qa (by first | decide | exact QC Qa | (simp;done) | omega) ?_)
     intro w24 j25; dsimp only[List.set]at j25
     refine Qh (Qd ?_)
     have j26:=j25.drew
     refine QN [0,1,2,3,4,5,6,7,8,9,10,11,12] [12] W5 (by kernel_rfl) ?_
     refine QI Qa Qa Qa (Xn Qa Qa Qa (QO Qa Qa Qa Xt (QF Qa Qa Qa (Qn Qa ZA (by first | assumption | exact j26.cell 0 Qa Qa | exact j26.cell 1 Qa Qa | exact j26.cell 3 Qa Qa)) ?_)))
     refine Xn Qa Qa Qa (QO Qa Qa Qa Z7 (QF Qa Qa Qa (Qn Qa ZL (by first | assumption | exact j26.cell 0 Qa Qa | exact j26.cell 1 Qa Qa | exact j26.cell 3 Qa Qa)) ?_))
     refine QO Qa Qa Qa HC (QF Qa Qa Qa (Qn Qa QH (by first | assumption | exact j26.cell 0 Qa Qa | exact j26.cell 1 Qa Qa | exact j26.cell 3 Qa Qa)) ?_)
     refine QO Qa Qa Qa Rp (QF Qa Qa Qa (Qn Qa Zx (by first | assumption | exact j26.cell 0 Qa Qa | exact j26.cell 1 Qa Qa | exact j26.cell 3 Qa Qa)) ?_)
     refine Q9 Qa Qa Qa (fun _=>(W7 Qa Y1 HY ZY Qa)) ?_
     refine QV Qa Qa Qa Qa Qa Qa ?_
     refine XP (k:=x.1) (v:=Kp ⟨x.2,1,0,false⟩) 2 j26 keysInt underlying89 Qa Qa Qa Qa ?_
     intro w27 j27; dsimp only[List.set]at j27; rw[BJ hri1 hx]at j27
     refine Z9 (Xq (by kernel_rfl)) ?_
     refine VC.nil (Qq (Qd (Qk [63,62,61,0] Qa (Qb (XC Qa Qa (by omega) (by omega) Qa ?_)))))
     refine Qe Qa Qa (Qh ?_)
     exact Xj (L1:=[(0,_),(61,_),(62,_),(63,intV ((i+1:Nat):Int))]) (By Qa Qa Qa Qa) (k1:=l.length -(i+1)) (by omega) ⟨i+1,rfl,rfl,j27.pick [1,2,3,4,5,6,7] Qa, by omega⟩
    refine X6 (Q6 (Q6 (QR (Qd (Qf (Qb (Qe Qa Qa (Qe Qa Qa (Qe Qa Qa (Ql Qa Qa (Qi Qa XL Qa ?_)))))))))))
    first | (refine Qw j21 Qa Qa XU (by first | rfl | assumption | exact j21.own_one 5 Qa) (i:=0) Qa (by first | decide | exact QC Qa | (simp;done) | omega) ?_) | (refine Qw j21 Qa Qa XU (by first | rfl | assumption | exact j21.own_one 5 Qa) (i:=2) Qa (by first | decide | exact QC Qa | (simp;done) | omega) ?_)
    intro w28 j29; dsimp only[List.set]at j29
    refine Ql Qa Qa (Qi Qa WC Qa ?_)
    first | (refine Qw j29 Qa Qa XU (by first | rfl | assumption | exact j29.own_one 5 Qa) (i:=0) Qa (by first | decide | exact QC Qa | (simp;done) | omega) ?_) | (refine Qw j29 Qa Qa XU (by first | rfl | assumption | exact j29.own_one 5 Qa) (i:=2) Qa (by first | decide | exact QC Qa | (simp;done) | omega) ?_)
    intro w30 j31; dsimp only[List.set]at j31
    refine Ql Qa Qa (Qi Qa HA Qa ?_)
    first | (refine Qw j31 Qa Qa XU (by first | rfl | assumption | exact j31.own_one 5 Qa) (i:=0) Qa (by first | decide | exact QC Qa | (simp;done) | omega) ?_) | (refine Qw j31 Qa Qa XU (by first | rfl | assumption | exact j31.own_one 5 Qa) (i:=2) Qa (by first | decide | exact QC Qa | (simp;done) | omega) ?_)
    intro w32 j33; dsimp only[List.set]at j33
    refine Qh (Qd (B4 (L':=[]) .nil (Qf (Qb (Qc Qa Qa (Qh (Qd (Qo (Q5 (.inr Qa) Qa Qa ?_)))))))))
    have hz:=j33.pick [0,1,2,3,4,5,6] Qa
    rw[show i=l.length by omega,List.take_length]at hz
    exact⟨_,rfl, by rw[hEb], by rw[hEb]; exact Qu (E:={Eb with ses:=some (Y9 ⟨t,l⟩),active:=false,frozen:=false,told:=true}) (dp:=dp1) ((Xh (s:=Y9 ⟨t,l⟩) hz).reorder [1,2,3,0,4,5] Qa)⟩
   rw[hq_s]at j8
   obtain⟨sb,sm,rfl,hSo12⟩:=Zo (j8.pick [3,0,1,2,4,5,6] rfl)
   refine U3 underlying78 Qa Qa Qa (Qj Qa Qa h9 (Q3 Qa (Qx h10) Qa Qa (Q1 Qa h9 Qa Qa (Qc Qa Qa (Qh (Qd (Qk [0,3,4,5,29] Qa (QP Qa (Qf (Qb (Qc Qa Qa (Qh (Qd (Qo (Qz (Qm (Q5 (.inr Qa) Qa Qa ?_)))))))))))))))))
   exact⟨_,rfl, by rw[Us hup hri ⟨by omega, by first | exact .inl (by omega) | exact .inr (by rw[hq_s];rfl)⟩], by rw[Us hup hri ⟨by omega, by first | exact .inl (by omega) | exact .inr (by rw[hq_s];rfl)⟩]; exact Qu (E:=E) (by rw[hq_s]; exact((Xh (hSo12.pick [0,1,2,3,4,5,6,7] Qa)).pick [1,2,3,0,4,6] Qa))⟩
  have hfs:E.move=0:= by simpa using h9
  refine Qg Qa Qa h9 Qa (Qg Qa Qa h9 Qa (Qg Qa Qa h9 Qa (Qg Qa Qa h9 Qa (Qg Qa Qa h9 Qa (Qg Qa Qa h9 Qa (QM Qa Qa Qa (QM Qa Qa Qa (QM Qa Qa Qa (QM Qa Qa Qa (QM Qa Qa Qa (Qg Qa Qa h9 Qa (Q3 Qa h9 Qa Qa (Qc Qa Qa (Qh (Qd (Qk [0,3,4,5,29] Qa (QJ Qa (Qt (Qq (Qd (Vq (fun E0 W0=> ∃(Eb:EnD),E0=[(0,ptrV e 0),(3,ptrV bp 0)]∧Sat W0 [Xw e Eb,Xb bp [strV t,.slice ao l.length cap],F]∧(Zw E ⟨t,l⟩=(0,{Eb with ses:=some (Y9 ⟨t,l⟩),active:=false,frozen:=false,told:=true}))) ?_ ?_)))))))))))))))))))))
  ·refine Qf (Qb (Qe Qa Qa (Qh (Qd (Qv Qa (fun h35=> ?_) (fun h35=> ?_))))))
   ·refine Qf (Qb (Qe Qa Qa ?_))
    have j36:=Qu (E:=E) ((j8.pick [0,1,2,3,4,5,6] Qa))
    refine Q0 VF Qa (Ul (j36.sp [0] Qa) (hG.starL 1 Qa) (hO.starL 1 Qa) hu (k:=1) (m:=1) (XG (by decide)) (XG (by decide))) Qa ?_
    rintro _ w37 ⟨rfl,j37⟩
    replace j37:=j37.jn Qa Qa
    refine Qc Qa Qa (Qh (Qd (Qf (Qb (Qe Qa Qa (Xu Qa Qa Qa (Qh (Qd (Qk [0,3,4,6,50] Qa (Qv Qa (fun h38=> ?_) (fun h38=> ?_)))))))))))
    ·have hbad:(QT E 1 1).1≠0:= by simpa using h38
     refine Qf (Qb (Qe Qa Qa (Qc Qa Qa (Qh (Qd (Qo (Qm (Q5 (.inr Qa) Qa Qa ?_))))))))
     exact⟨_,rfl, by rw[SI hup hri ⟨by omega, by omega⟩ hbad], by rw[SI hup hri ⟨by omega, by omega⟩ hbad]; exact j37.pick [0,2] Qa⟩
    have hn0:(QT E 1 1).1=0:= by simpa using h38
    refine Qt ?_
    exact YB (Lr Qa Qa) ⟨(QT E 1 1).2,rfl,j37.pick [0,1,2] Qa,begin_e hup hri ⟨by omega, by omega⟩ hn0⟩
   omega
  rintro _ w34 ⟨Eb,rfl,j34,hEb⟩
  refine Qf ?_
  have hri1:Zb ⟨t,l⟩=true:= by cases q:Zb ⟨t,l⟩; exact absurd q hri;rfl
  obtain⟨dp1,cv1,sv1,ov1,j39⟩:=QU (j34.pick [0,1,2] rfl)
  refine Qb (Qe Qa Qa (Qi Qa Kb Qa (Qr Qa Zx (by first | assumption | exact j39.cell 0 Qa Qa | exact j39.cell 5 Qa Qa) Qa ?_)))
  refine Wq XH j39 Qa ?_
  intro sm w40 j40
  refine Jz (vs':=[strV t,intV 1,.map (some sm)]) Qa Vy TD PK Qa Qa Qa (Za j40 Qa Qa Qa ?_)
  intro sb w41 j41
  refine Ql Qa Qa (Qi Qa Xt Qa ?_)
  first | (refine Qw j41 Qa Qa Yf (by first | rfl | assumption | exact j41.own_one 6 Qa) (i:=0) Qa (by first | decide | exact QC Qa | (simp;done) | omega) ?_) | (refine Qw j41 Qa Qa Yf (by first | rfl | assumption | exact j41.own_one 6 Qa) (i:=2) Qa (by first | decide | exact QC Qa | (simp;done) | omega) ?_) | (refine Qw j41 Qa Qa Yf (by first | rfl | assumption | exact j41.own_one 6 Qa) (i:=7) Qa (by first | decide | exact QC Qa | (simp;done) | omega) ?_)
  intro w42 j43; dsimp only[List.set]at j43
  refine Qh ?_
  replace j43:Sat _ [Xb sb [strV t,intV 1,.map (some sm)],X3 XH sm (JT ((l.take 0).map Ls)),Xb e (U0 dp1 cv1 (ptrV sb 0) ov1 Eb),dT dp1 Eb.D,JE dp1 cv1 Eb.cell,Vk sv1 Eb.ses,KC ov1 Eb.off,Xb bp [strV t,.slice ao l.length cap],F]:=j43
  refine Qd (Qf (Qf (Qb (Qi Qa HD Qa (Qr Qa RD (by first | assumption | exact j43.cell 0 Qa Qa | exact j43.cell 2 Qa Qa | exact j43.cell 7 Qa Qa) Qa ?_)))))
  first | refine Xm underlying22 Qa Qa ?_ | refine Xa 6 j43 underlying22 Qa Qa Qa ?_
  refine Qe Qa Qa (Qh (Qd (Qk [0,61,62,63] Qa (QK ?_))))
  refine XJ (fun K0 E0 W0=> ∃(i:Nat),K0=l.length -i∧E0=[(0,ptrV e 0),(61,.slice ao l.length cap),(62,intV (l.length:Int)),(63,intV (i:Int))]∧Sat W0 [Xb sb [strV t,intV 1,.map (some sm)],X3 XH sm (JT ((l.take i).map Ls)),Xb e (U0 dp1 cv1 (ptrV sb 0) ov1 Eb),dT dp1 Eb.D,JE dp1 cv1 Eb.cell,KC ov1 Eb.off,F]∧(i≤l.length)) (L0:=[(0,_),(61,_),(62,_),(63,_)]) (l.length -0) (By Qa Qa Qa Qa) ⟨0,rfl,rfl,j43.pick [0,1,2,3,4,6,8] Qa, by omega⟩ ?_
  rintro _ _ w44 ⟨i,rfl,rfl,j44,hi⟩
  refine Qf (Qb (X5 Qa Qa Qa (Qh (Qd (Qf (Qv Qa (fun h45=> ?_) (fun h45=> ?_)))))))
  ·obtain⟨x,hx⟩: ∃x,l[i]? =some x:=⟨_,WY (by omega)⟩
   obtain⟨b,off,rfl,hc⟩:=(hL.sat j44 6 rfl).get hx
   refine Qt (Qd (Qf (QK (Qf (Qb (XZ i Qa Qa (by first | rfl | omega) (by omega) Nq Qa ?_))))))
   refine YO Qa N8 YI (vs:=[intV x.1,strV x.2]) hc Qa (Xs j44 DC Qa Qa ?_)
   intro b46 w46 j46
   first | (refine Q8 j46 Qa Qa YI Qa (by first | rfl | (simp [QQ,Value.oneCell'];done) | assumption | exact hone) (i:=0) Qa (by first | decide | exact QC Qa | (simp;done) | omega) ?_) | (refine Q8 j46 Qa Qa YI Qa (by first | rfl | (simp [QQ,Value.oneCell'];done) | assumption | exact hone) (i:=1) Qa (by first | decide | exact QC Qa | (simp;done) | omega) ?_) | (refine Q8 j46 Qa Qa YI Qa (by first | rfl | (simp [QQ,Value.oneCell'];done) | assumption | exact hone) (i:=3) Qa (by first | decide | exact QC Qa | (simp;done) | omega) ?_)
   intro w47 j48; dsimp only[List.set]at j48
   refine Qh (Qd ?_)
   have j49:=j48.drew
   refine QN [0,1,2,3,4,5,6,7,8,9,10,11,12] [12] W5 (by kernel_rfl) ?_
   refine QI Qa Qa Qa (Xn Qa Qa Qa (QO Qa Qa Qa Xt (QF Qa Qa Qa (Qn Qa ZA (by first | assumption | exact j49.cell 0 Qa Qa | exact j49.cell 1 Qa Qa | exact j49.cell 3 Qa Qa)) ?_)))
   refine Xn Qa Qa Qa (QO Qa Qa Qa Z7 (QF Qa Qa Qa (Qn Qa ZL (by first | assumption | exact j49.cell 0 Qa Qa | exact j49.cell 1 Qa Qa | exact j49.cell 3 Qa Qa)) ?_))
   refine QO Qa Qa Qa HC (QF Qa Qa Qa (Qn Qa QH (by first | assumption | exact j49.cell 0 Qa Qa | exact j49.cell 1 Qa Qa | exact j49.cell 3 Qa Qa)) ?_)
   refine QO Qa Qa Qa Rp (QF Qa Qa Qa (Qn Qa Zx (by first | assumption | exact j49.cell 0 Qa Qa | exact j49.cell 1 Qa Qa | exact j49.cell 3 Qa Qa)) ?_)
   refine Q9 Qa Qa Qa (fun _=>(W7 Qa Y1 HY ZY Qa)) ?_
   refine QV Qa Qa Qa Qa Qa Qa ?_
   refine XP (k:=x.1) (v:=Kp ⟨x.2,1,0,false⟩) 2 j49 keysInt underlying89 Qa Qa Qa Qa ?_
   intro w50 j50; dsimp only[List.set]at j50; rw[BJ hri1 hx]at j50
   refine Z9 (Xq (by kernel_rfl)) ?_
   refine VC.nil (Qq (Qd (Qk [63,62,61,0] Qa (Qb (XC Qa Qa (by omega) (by omega) Qa ?_)))))
   refine Qe Qa Qa (Qh ?_)
   exact Xj (L1:=[(0,_),(61,_),(62,_),(63,intV ((i+1:Nat):Int))]) (By Qa Qa Qa Qa) (k1:=l.length -(i+1)) (by omega) ⟨i+1,rfl,rfl,j50.pick [1,2,3,4,5,6,7] Qa, by omega⟩
  refine X6 (Q6 (Q6 (QR (Qd (Qf (Qb (Qe Qa Qa (Qe Qa Qa (Qe Qa Qa (Ql Qa Qa (Qi Qa XL Qa ?_)))))))))))
  first | (refine Qw j44 Qa Qa XU (by first | rfl | assumption | exact j44.own_one 5 Qa) (i:=0) Qa (by first | decide | exact QC Qa | (simp;done) | omega) ?_) | (refine Qw j44 Qa Qa XU (by first | rfl | assumption | exact j44.own_one 5 Qa) (i:=2) Qa (by first | decide | exact QC Qa | (simp;done) | omega) ?_)
  intro w51 j52; dsimp only[List.set]at j52
  refine Ql Qa Qa (Qi Qa WC Qa ?_)
  first | (refine Qw j52 Qa Qa XU (by first | rfl | assumption | exact j52.own_one 5 Qa) (i:=0) Qa (by first | decide | exact QC Qa | (simp;done) | omega) ?_) | (refine Qw j52 Qa Qa XU (by first | rfl | assumption | exact j52.own_one 5 Qa) (i:=2) Qa (by first | decide | exact QC Qa | (simp;done) | omega) ?_)
  intro w53 j54; dsimp only[List.set]at j54
  refine Ql Qa Qa (Qi Qa HA Qa ?_)
  first | (refine Qw j54 Qa Qa XU (by first | rfl | assumption | exact j54.own_one 5 Qa) (i:=0) Qa (by first | decide | exact QC Qa | (simp;done) | omega) ?_) | (refine Qw j54 Qa Qa XU (by first | rfl | assumption | exact j54.own_one 5 Qa) (i:=2) Qa (by first | decide | exact QC Qa | (simp;done) | omega) ?_)
  intro w55 j56; dsimp only[List.set]at j56
  refine Qh (Qd (B4 (L':=[]) .nil (Qf (Qb (Qc Qa Qa (Qh (Qd (Qo (Q5 (.inr Qa) Qa Qa ?_)))))))))
  have hz:=j56.pick [0,1,2,3,4,5,6] Qa
  rw[show i=l.length by omega,List.take_length]at hz
  exact⟨_,rfl, by rw[hEb], by rw[hEb]; exact Qu (E:={Eb with ses:=some (Y9 ⟨t,l⟩),active:=false,frozen:=false,told:=true}) (dp:=dp1) ((Xh (s:=Y9 ⟨t,l⟩) hz).reorder [1,2,3,0,4,5] Qa)⟩
 refine Qg Qa Qa (Qx h2) Qa (Qg Qa Qa (Qx h2) Qa (Qg Qa Qa (Qx h2) Qa (Qg Qa Qa (Qx h2) Qa (Qg Qa Qa (Qx h2) Qa (Q3 Qa (Qx h2) Qa Qa (Qc Qa Qa (Qh ?_)))))))
 have j57:=Qu (E:=E) ((j1.pick [0,1,2,3,4,5,6] Qa))
 refine Qd (Qk [0,3,4,5] Qa (Qf (QK (Qf (Qb (Qe Qa Qa (Q0 KK Qa (B9 (j57.sp [0] Qa)) Qa ?_)))))))
 rintro _ w58 ⟨rfl,j58⟩
 replace j58:=j58.jn Qa Qa
 refine XN Qa Qa (Qc Qa Qa (Qh (Qd (QZ Qa (fun h59=> ?_) (fun h59=> ?_)))))
 ·have hu0:upE E=false:= by simpa using h59
  refine Qf (Qb (Qc Qa Qa (Qh (Qd (Qo (Qz (Qm (Q5 (.inr Qa) Qa Qa ?_))))))))
  exact⟨_,rfl, by rw[Bw hu0], by rw[Bw hu0]; exact j58.pick [0,2] Qa⟩
 have hup: ¬upE E=false:= by simpa using h59
 have hu:=KT hup
 refine Qf (Qb ?_)
 refine Jd Qa Mw DP (by first | exact j58.blk 1 Qa) (by first | decide | exact QC Qa | (simp;done) | omega) Qa Qa ?_
 refine Q0 Ar Qa (Cd (j58.sp [] Qa) (hL.starL 2 Qa)) Qa ?_
 rintro _ w60 ⟨rfl,j60⟩
 replace j60:=j60.jn Qa Qa
 refine XN Qa Qa (Qc Qa Qa (Qh (Qd (Qk [0,3,4,5,25] Qa (QZ Qa (fun h61=> ?_) (fun h61=> ?_))))))
 ·have hri0:Zb ⟨t,l⟩=false:= by simpa using h61
  refine Qf (Qb (Qc Qa Qa (Qh (Qd (Qo (Qz (Qm (Q5 (.inr Qa) Qa Qa ?_))))))))
  exact⟨_,rfl, by rw[Bv hup hri0], by rw[Bv hup hri0]; exact j60.pick [0,2] Qa⟩
 have hri: ¬Zb ⟨t,l⟩=false:= by simpa using h61
 refine Qf ?_
 obtain⟨dp,cv,sv,ov,j62⟩:=QU (j60.pick [0,1,2] rfl)
 refine Qb (Qe Qa Qa (XN Qa Qa (Qe Qa Qa (Qj Qa Qa Qa (Qe Qa Qa (Qj Qa Qa Qa (Ql Qa Qa (Qj Qa Qa Qa (Qi Qa Zh Qa (Qj Qa Qa Qa (Qr Qa QH (by first | assumption | exact j62.cell 0 Qa Qa | exact j62.cell 5 Qa Qa) Qa ?_)))))))))))
 refine Qj Qa Qa Qa (Xu Qa Qa Qa (Qj Qa Qa Qa (Qe Qa Qa (Q4 38 Qa (fun h63=> ?_) (fun h63=> ?_)))))
 ·refine Qg Qa Qa (QD h63) Qa (Qg Qa Qa (QD h63) Qa (Qg Qa Qa (QD h63) Qa (Qg Qa Qa (QD h63) Qa (Qg Qa Qa (QD h63) Qa (Qj Qa Qa Qa (Q1 Qa (QD h63) Qa Qa (Q1 Qa Qa Qa Qa (Qc Qa Qa (Qh (Qd (Qk [0,3,4,5,29] Qa (QP Qa (Qf (Qb (Qc Qa Qa (Qh (Qd (Qo (Qz (Qm (Q5 (.inr Qa) Qa Qa ?_)))))))))))))))))))))
  exact⟨_,rfl, by rw[Us hup hri ⟨by omega, by first | exact .inl (by omega) | exact .inr (by rw[hq_s];rfl)⟩], by rw[Us hup hri ⟨by omega, by first | exact .inl (by omega) | exact .inr (by rw[hq_s];rfl)⟩]; exact Qu (E:=E) ((j62.pick [0,1,2,3,4,6] Qa))⟩
 refine Qj Qa Qa (Qx h63) (Qe Qa Qa (Qj Qa Qa (Qx h63) (Ql Qa Qa (Qj Qa Qa (Qx h63) (Qi Qa Xt Qa (Qj Qa Qa (Qx h63) (Qr Qa ZA (by first | assumption | exact j62.cell 0 Qa Qa | exact j62.cell 5 Qa Qa) Qa ?_)))))))
 refine Qj Qa Qa (Qx h63) ?_
 rcases hq_s:E.ses with _ | s
 ·rw[hq_s]at j62
  obtain⟨rfl,hSo64⟩:=Je (j62.pick [3,0,1,2,4,5,6] rfl)
  refine Y4 underlying78 Qa Qa Qa (Qj Qa Qa Qa (Q3 Qa (Qx h63) Qa Qa (Q1 Qa Qa Qa Qa (Qc Qa Qa (Qh (Qd (Qk [0,3,4,5,29] Qa (QJ Qa (Qt (Qq (Qd (Vq (fun E0 W0=> ∃(Eb:EnD),E0=[(0,ptrV e 0),(3,ptrV bp 0)]∧Sat W0 [Xw e Eb,Xb bp [strV t,.slice ao l.length cap],F]∧(Zw E ⟨t,l⟩=(0,{Eb with ses:=some (Y9 ⟨t,l⟩),active:=false,frozen:=false,told:=true}))) ?_ ?_))))))))))))
  ·refine Qf (Qb (Qe Qa Qa (Qh (Qd (QJ Qa (Qt ?_))))))
   have j67:=Qu (E:=E) (by rw[hq_s]; exact((ZQ hSo64).pick [1,2,3,0,4,5,6] Qa))
   exact YB (Lr Qa Qa) ⟨E,rfl,j67.pick [0,1,2] Qa,SH hup hri (by omega) (by omega) hq_s⟩
  rintro _ w66 ⟨Eb,rfl,j66,hEb⟩
  refine Qf ?_
  have hri1:Zb ⟨t,l⟩=true:= by cases q:Zb ⟨t,l⟩; exact absurd q hri;rfl
  obtain⟨dp1,cv1,sv1,ov1,j68⟩:=QU (j66.pick [0,1,2] rfl)
  refine Qb (Qe Qa Qa (Qi Qa Kb Qa (Qr Qa Zx (by first | assumption | exact j68.cell 0 Qa Qa | exact j68.cell 5 Qa Qa) Qa ?_)))
  refine Wq XH j68 Qa ?_
  intro sm w69 j69
  refine Jz (vs':=[strV t,intV 1,.map (some sm)]) Qa Vy TD PK Qa Qa Qa (Za j69 Qa Qa Qa ?_)
  intro sb w70 j70
  refine Ql Qa Qa (Qi Qa Xt Qa ?_)
  first | (refine Qw j70 Qa Qa Yf (by first | rfl | assumption | exact j70.own_one 6 Qa) (i:=0) Qa (by first | decide | exact QC Qa | (simp;done) | omega) ?_) | (refine Qw j70 Qa Qa Yf (by first | rfl | assumption | exact j70.own_one 6 Qa) (i:=2) Qa (by first | decide | exact QC Qa | (simp;done) | omega) ?_) | (refine Qw j70 Qa Qa Yf (by first | rfl | assumption | exact j70.own_one 6 Qa) (i:=7) Qa (by first | decide | exact QC Qa | (simp;done) | omega) ?_)
  intro w71 j72; dsimp only[List.set]at j72
  refine Qh ?_
  replace j72:Sat _ [Xb sb [strV t,intV 1,.map (some sm)],X3 XH sm (JT ((l.take 0).map Ls)),Xb e (U0 dp1 cv1 (ptrV sb 0) ov1 Eb),dT dp1 Eb.D,JE dp1 cv1 Eb.cell,Vk sv1 Eb.ses,KC ov1 Eb.off,Xb bp [strV t,.slice ao l.length cap],F]:=j72
  refine Qd (Qf (Qf (Qb (Qi Qa HD Qa (Qr Qa RD (by first | assumption | exact j72.cell 0 Qa Qa | exact j72.cell 2 Qa Qa | exact j72.cell 7 Qa Qa) Qa ?_)))))
  first | refine Xm underlying22 Qa Qa ?_ | refine Xa 6 j72 underlying22 Qa Qa Qa ?_
  refine Qe Qa Qa (Qh (Qd (Qk [0,61,62,63] Qa (QK ?_))))
  refine XJ (fun K0 E0 W0=> ∃(i:Nat),K0=l.length -i∧E0=[(0,ptrV e 0),(61,.slice ao l.length cap),(62,intV (l.length:Int)),(63,intV (i:Int))]∧Sat W0 [Xb sb [strV t,intV 1,.map (some sm)],X3 XH sm (JT ((l.take i).map Ls)),Xb e (U0 dp1 cv1 (ptrV sb 0) ov1 Eb),dT dp1 Eb.D,JE dp1 cv1 Eb.cell,KC ov1 Eb.off,F]∧(i≤l.length)) (L0:=[(0,_),(61,_),(62,_),(63,_)]) (l.length -0) (By Qa Qa Qa Qa) ⟨0,rfl,rfl,j72.pick [0,1,2,3,4,6,8] Qa, by omega⟩ ?_
  rintro _ _ w73 ⟨i,rfl,rfl,j73,hi⟩
  refine Qf (Qb (X5 Qa Qa Qa (Qh (Qd (Qf (Qv Qa (fun h74=> ?_) (fun h74=> ?_)))))))
  ·obtain⟨x,hx⟩: ∃x,l[i]? =some x:=⟨_,WY (by omega)⟩
   obtain⟨b,off,rfl,hc⟩:=(hL.sat j73 6 rfl).get hx
   refine Qt (Qd (Qf (QK (Qf (Qb (XZ i Qa Qa (by first | rfl | omega) (by omega) Nq Qa ?_))))))
   refine YO Qa N8 YI (vs:=[intV x.1,strV x.2]) hc Qa (Xs j73 DC Qa Qa ?_)
   intro b75 w75 j75
   first | (refine Q8 j75 Qa Qa YI Qa (by first | rfl | (simp [QQ,Value.oneCell'];done) | assumption | exact hone) (i:=0) Qa (by first | decide | exact QC Qa | (simp;done) | omega) ?_) | (refine Q8 j75 Qa Qa YI Qa (by first | rfl | (simp [QQ,Value.oneCell'];done) | assumption | exact hone) (i:=1) Qa (by first | decide | exact QC Qa | (simp;done) | omega) ?_) | (refine Q8 j75 Qa Qa YI Qa (by first | rfl | (simp [QQ,Value.oneCell'];done) | assumption | exact hone) (i:=3) Qa (by first | decide | exact QC Qa | (simp;done) | omega) ?_)
   intro w76 j77; dsimp only[List.set]at j77
   refine Qh (Qd ?_)
   have j78:=j77.drew
   refine QN [0,1,2,3,4,5,6,7,8,9,10,11,12] [12] W5 (by kernel_rfl) ?_
   refine QI Qa Qa Qa (Xn Qa Qa Qa (QO Qa Qa Qa Xt (QF Qa Qa Qa (Qn Qa ZA (by first | assumption | exact j78.cell 0 Qa Qa | exact j78.cell 1 Qa Qa | exact j78.cell 3 Qa Qa)) ?_)))
   refine Xn Qa Qa Qa (QO Qa Qa Qa Z7 (QF Qa Qa Qa (Qn Qa ZL (by first | assumption | exact j78.cell 0 Qa Qa | exact j78.cell 1 Qa Qa | exact j78.cell 3 Qa Qa)) ?_))
   refine QO Qa Qa Qa HC (QF Qa Qa Qa (Qn Qa QH (by first | assumption | exact j78.cell 0 Qa Qa | exact j78.cell 1 Qa Qa | exact j78.cell 3 Qa Qa)) ?_)
   refine QO Qa Qa Qa Rp (QF Qa Qa Qa (Qn Qa Zx (by first | assumption | exact j78.cell 0 Qa Qa | exact j78.cell 1 Qa Qa | exact j78.cell 3 Qa Qa)) ?_)
   refine Q9 Qa Qa Qa (fun _=>(W7 Qa Y1 HY ZY Qa)) ?_
   refine QV Qa Qa Qa Qa Qa Qa ?_
   refine XP (k:=x.1) (v:=Kp ⟨x.2,1,0,false⟩) 2 j78 keysInt underlying89 Qa Qa Qa Qa ?_
   intro w79 j79; dsimp only[List.set]at j79; rw[BJ hri1 hx]at j79
   refine Z9 (Xq (by kernel_rfl)) ?_
   refine VC.nil (Qq (Qd (Qk [63,62,61,0] Qa (Qb (XC Qa Qa (by omega) (by omega) Qa ?_)))))
   refine Qe Qa Qa (Qh ?_)
   exact Xj (L1:=[(0,_),(61,_),(62,_),(63,intV ((i+1:Nat):Int))]) (By Qa Qa Qa Qa) (k1:=l.length -(i+1)) (by omega) ⟨i+1,rfl,rfl,j79.pick [1,2,3,4,5,6,7] Qa, by omega⟩
  refine X6 (Q6 (Q6 (QR (Qd (Qf (Qb (Qe Qa Qa (Qe Qa Qa (Qe Qa Qa (Ql Qa Qa (Qi Qa XL Qa ?_)))))))))))
  first | (refine Qw j73 Qa Qa XU (by first | rfl | assumption | exact j73.own_one 5 Qa) (i:=0) Qa (by first | decide | exact QC Qa | (simp;done) | omega) ?_) | (refine Qw j73 Qa Qa XU (by first | rfl | assumption | exact j73.own_one 5 Qa) (i:=2) Qa (by first | decide | exact QC Qa | (simp;done) | omega) ?_)
  intro w80 j81; dsimp only[List.set]at j81
  refine Ql Qa Qa (Qi Qa WC Qa ?_)
  first | (refine Qw j81 Qa Qa XU (by first | rfl | assumption | exact j81.own_one 5 Qa) (i:=0) Qa (by first | decide | exact QC Qa | (simp;done) | omega) ?_) | (refine Qw j81 Qa Qa XU (by first | rfl | assumption | exact j81.own_one 5 Qa) (i:=2) Qa (by first | decide | exact QC Qa | (simp;done) | omega) ?_)
  intro w82 j83; dsimp only[List.set]at j83
  refine Ql Qa Qa (Qi Qa HA Qa ?_)
  first | (refine Qw j83 Qa Qa XU (by first | rfl | assumption | exact j83.own_one 5 Qa) (i:=0) Qa (by first | decide | exact QC Qa | (simp;done) | omega) ?_) | (refine Qw j83 Qa Qa XU (by first | rfl | assumption | exact j83.own_one 5 Qa) (i:=2) Qa (by first | decide | exact QC Qa | (simp;done) | omega) ?_)
  intro w84 j85; dsimp only[List.set]at j85
  refine Qh (Qd (B4 (L':=[]) .nil (Qf (Qb (Qc Qa Qa (Qh (Qd (Qo (Q5 (.inr Qa) Qa Qa ?_)))))))))
  have hz:=j85.pick [0,1,2,3,4,5,6] Qa
  rw[show i=l.length by omega,List.take_length]at hz
  exact⟨_,rfl, by rw[hEb], by rw[hEb]; exact Qu (E:={Eb with ses:=some (Y9 ⟨t,l⟩),active:=false,frozen:=false,told:=true}) (dp:=dp1) ((Xh (s:=Y9 ⟨t,l⟩) hz).reorder [1,2,3,0,4,5] Qa)⟩
 rw[hq_s]at j62
 obtain⟨sb,sm,rfl,hSo65⟩:=Zo (j62.pick [3,0,1,2,4,5,6] rfl)
 refine U3 underlying78 Qa Qa Qa (Qj Qa Qa Qa (Q3 Qa (Qx h63) Qa Qa (Q1 Qa Qa Qa Qa (Qc Qa Qa (Qh (Qd (Qk [0,3,4,5,29] Qa (QP Qa (Qf (Qb (Qc Qa Qa (Qh (Qd (Qo (Qz (Qm (Q5 (.inr Qa) Qa Qa ?_)))))))))))))))))
 exact⟨_,rfl, by rw[Us hup hri ⟨by omega, by first | exact .inl (by omega) | exact .inr (by rw[hq_s];rfl)⟩], by rw[Us hup hri ⟨by omega, by first | exact .inl (by omega) | exact .inr (by rw[hq_s];rfl)⟩]; exact Qu (E:=E) (by rw[hq_s]; exact((Xh (hSo65.pick [0,1,2,3,4,5,6,7] Qa)).pick [1,2,3,0,4,6] Qa))⟩
