/- move: Begin -/
import Derived.Test.YtiibgheijbbmaaaGreatDoorMvy5
set_option linter.unusedVariables false
set_option maxRecDepth 100000
set_option maxHeartbeats 100000000000
namespace Go.Proofs.YtiibgheijbbmaaaGreatDoor
open Go.RowKit M Proofs.Tryz
def Ls (e:Int×Bs):Int×PgD:=(e.1,⟨e.2,1,0,false⟩)
section
variable {E E1:EnD} {t:Bs} {l:AL Bs}
theorem Bw (h:upE E=false):Zw E ⟨t,l⟩=(9,E):= by unfold Zw; rw[if_pos h]
theorem Bv (h: ¬upE E=false) (h2:Zb ⟨t,l⟩=false):Zw E ⟨t,l⟩=(2,E):= by unfold Zw; rw[if_neg h,if_pos h2]
theorem Us (h: ¬upE E=false) (h2: ¬Zb ⟨t,l⟩=false) (h3: ¬(E.kind=0∧E.move=0)∧(E.kind≠1∨E.ses.isSome=true)):Zw E ⟨t,l⟩=(7,E):= by unfold Zw; rw[if_neg h,if_neg h2,if_pos h3]
theorem SI (h: ¬upE E=false) (h2: ¬Zb ⟨t,l⟩=false) (h3:E.kind=0∧E.move=0) (h4:(QT E 1 1).1≠0):Zw E ⟨t,l⟩=QT E 1 1:= by unfold Zw; rw[if_neg h,if_neg h2,if_neg (fun q=>q.1 h3),if_pos h3,if_pos h4]
theorem begin_e (h: ¬upE E=false) (h2: ¬Zb ⟨t,l⟩=false) (h3:E.kind=0∧E.move=0) (h4:(QT E 1 1).1=0):Zw E ⟨t,l⟩=(0,{(QT E 1 1).2 with ses:=some (Y9 ⟨t,l⟩),active:=false,frozen:=false,told:=true}):= by unfold Zw; rw[if_neg h,if_neg h2,if_neg (fun q=>q.1 h3),if_pos h3,if_neg (by omega)]
theorem SH (h: ¬upE E=false) (h2: ¬Zb ⟨t,l⟩=false) (h3: ¬(E.kind=0∧E.move=0)) (h4:E.kind=1) (h5:E.ses=none):Zw E ⟨t,l⟩=(0,{E with ses:=some (Y9 ⟨t,l⟩),active:=false,frozen:=false,told:=true}):= by unfold Zw; rw[if_neg h,if_neg h2,if_neg (by rintro⟨_,q | q⟩; exact q h4; rw[h5]at q; cases q),if_neg h3]
theorem Se {k:Nat} (h:Zb ⟨t,l⟩=true):Srt ((l.take k).map Ls):= by
  have h1:=(MP l 0 (GG h).1).1
  have h2:Zu ((l.take k).map Ls)=(Zu l).take k:= by unfold Zu; rw[List.map_map,←List.map_take];rfl
  unfold Srt; rw[h2]
  exact h1.sublist (List.take_sublist _ _)
theorem BJ {k:Nat} {x:Int×Bs} (h:Zb ⟨t,l⟩=true) (hx:l[k]? =some x):upd (JT ((l.take k).map Ls)) x.1 (some (Kp ⟨x.2,1,0,false⟩))=JT ((l.take (k+1)).map Ls):= by
  have h1:=Se (k:=k+1) h
  have e:(l.take (k+1)).map Ls=(l.take k).map Ls++[(x.1,⟨x.2,1,0,false⟩)]:= by rw[List.take_add_one,hx,List.map_append];rfl
  rw[e]at h1⊢
  exact Ck (Se h) fun f hf=> by
    unfold Srt Zu at h1
    rw[List.map_append]at h1
    exact(List.pairwise_append.1 h1).2.2 f.1 (List.mem_map.2 ⟨f,hf,rfl⟩) x.1 (by simp)
end
theorem R9 {w:World} {e:Nat} {E:EnD} {F:Th} (hS:Sat w [Xw e E,F]) (hG:Ent F WireG) (hO:Ent F (Glob 0)) {t:Bs} {sv:Value} {l:AL Bs} (hL:Ent F (RdL shC sv l)):
    Calls prog 24 #[ptrV e 0,.agg #[strV t,sv]] w (Ret fun v w'=>v=intV (Zw E ⟨t,l⟩).1∧Sat w' [Xw e (Zw E ⟨t,l⟩).2,F]):= by
 obtain⟨ao,cap,rfl,hmax⟩:=(hL.sat hS 1 rfl).shape
 refine Qy func24 Qa ntmps24 Qa ?_
 refine Qf (Qb (Za hS Qa Qa Qa ?_))
 intro bp wp hSp0
 have hSp:Sat wp [Xb bp [strV t,.slice ao l.length cap],Xw e E,F]:=hSp0
 refine Qc Qa Qa (Qh (Qd (Qf (Qb ?_))))
 obtain⟨dp,cv,sv,ov,hS1⟩:=QU (hSp.pick [1,0,2] rfl)
 refine Qe Qa Qa (Ql Qa Qa (Qi Qa Zh Qa (Qr Qa QH (hS1.cell 0 Qa Qa) Qa (QL Qa Qa Qa (Qe Qa Qa (Q4 14 Qa (fun h2=> ?_) (fun h2=> ?_)))))))
 ·refine Qj Qa Qa (QD h2) (Qe Qa Qa (Qj Qa Qa (QD h2) (Ql Qa Qa (Qj Qa Qa (QD h2) (Qi Qa Wp Qa (Qj Qa Qa (QD h2) (Qr Qa QH (hS1.cell 0 Qa Qa) Qa (Qj Qa Qa (QD h2) (QL Qa Qa Qa (Q1 Qa (QD h2) Qa Qa (Qc Qa Qa (Qh ?_))))))))))))
  have hS3:=Qu (E:=E) ((hS1.pick [0,1,2,3,4,5,6] Qa))
  refine Qd (Qk [0,3,4,5] Qa (Qf (QK (Qf (Qb (Qe Qa Qa (Q0 KK Qa (B9 (hS3.sp [0] Qa)) Qa ?_)))))))
  rintro _ w4 ⟨rfl,hS4⟩
  replace hS4:=hS4.jn Qa Qa
  refine XN Qa Qa (Qc Qa Qa (Qh (Qd (QZ Qa (fun h5=> ?_) (fun h5=> ?_)))))
  ·have hu0:upE E=false:= by simpa using h5
   refine Qf (Qb (Qc Qa Qa (Qh (Qd (Qo (Qz (Qm (Q5 (.inr Qa) Qa Qa ?_))))))))
   exact⟨_,rfl, by rw[Bw hu0], by rw[Bw hu0]; exact hS4.pick [0,2] Qa⟩
  have hup: ¬upE E=false:= by simpa using h5
  have hu:=KT hup
  refine Qf (Qb (Jd Qa Mw DP (by first | exact hS4.blk 1 Qa) (QC Qa) Qa Qa ?_))
  refine Q0 Ar Qa (Cd (hS4.sp [] Qa) (hL.starL 2 Qa)) Qa ?_
  rintro _ w6 ⟨rfl,hS6⟩
  replace hS6:=hS6.jn Qa Qa
  refine XN Qa Qa (Qc Qa Qa (Qh (Qd (Qk [0,3,4,5,25] Qa (QZ Qa (fun h7=> ?_) (fun h7=> ?_))))))
  ·have hri0:Zb ⟨t,l⟩=false:= by simpa using h7
   refine Qf (Qb (Qc Qa Qa (Qh (Qd (Qo (Qz (Qm (Q5 (.inr Qa) Qa Qa ?_))))))))
   exact⟨_,rfl, by rw[Bv hup hri0], by rw[Bv hup hri0]; exact hS6.pick [0,2] Qa⟩
  have hri: ¬Zb ⟨t,l⟩=false:= by simpa using h7
  refine Qf ?_
  obtain⟨dp,cv,sv,ov,hS8⟩:=QU (hS6.pick [0,1,2] rfl)
  refine Qb (Qe Qa Qa (XN Qa Qa (Qe Qa Qa (ZO 32 Qa (fun h9=> ?_) (fun h9=> ?_)))))
  ·have hfs: ¬E.move=0:= by simpa using h9
   refine Qj Qa Qa h9 (Qe Qa Qa (Qj Qa Qa h9 (Ql Qa Qa (Qj Qa Qa h9 (Qi Qa Zh Qa (Qj Qa Qa h9 (Qr Qa QH (hS8.cell 0 Qa Qa) Qa (Qj Qa Qa h9 (Xu Qa Qa Qa (Qj Qa Qa h9 (Qe Qa Qa (Q4 38 Qa (fun h10=> ?_) (fun h10=> ?_)))))))))))))
   ·refine Qg Qa Qa (QD h10) Qa (Qg Qa Qa (QD h10) Qa (Qg Qa Qa (QD h10) Qa (Qg Qa Qa (QD h10) Qa (Qg Qa Qa (QD h10) Qa (Qj Qa Qa h9 (Q1 Qa (QD h10) Qa Qa (Q1 Qa h9 Qa Qa (Qc Qa Qa (Qh (Qd (Qk [0,3,4,5,29] Qa (QP Qa (Qf (Qb (Qc Qa Qa (Qh (Qd (Qo (Qz (Qm (Q5 (.inr Qa) Qa Qa ?_)))))))))))))))))))))
    exact⟨_,rfl, by rw[Us hup hri ⟨by omega, by exact .inl (by omega)⟩], by rw[Us hup hri ⟨by omega, by exact .inl (by omega)⟩]; exact Qu (E:=E) ((hS8.pick [0,1,2,3,4,6] Qa))⟩
   refine Qj Qa Qa (Qx h10) (Qe Qa Qa (Qj Qa Qa (Qx h10) (Ql Qa Qa (Qj Qa Qa (Qx h10) (Qi Qa Xt Qa (Qj Qa Qa (Qx h10) (Qr Qa ZA (hS8.cell 0 Qa Qa) Qa (Qj Qa Qa (Qx h10) ?_))))))))
   rcases hq_s:E.ses with _ | s
   ·rw[hq_s]at hS8
    obtain⟨rfl,hSo11⟩:=Je (hS8.pick [3,0,1,2,4,5,6] rfl)
    refine Y4 underlying78 Qa Qa Qa (Qj Qa Qa h9 (Q3 Qa (Qx h10) Qa Qa (Q1 Qa h9 Qa Qa (Qc Qa Qa (Qh (Qd (Qk [0,3,4,5,29] Qa (QJ Qa (Qt (Qq (Qd (Vq (fun E0 W0=> ∃(Eb:EnD),E0=[(0,ptrV e 0),(3,ptrV bp 0)]∧Sat W0 [Xw e Eb,Xb bp [strV t,.slice ao l.length cap],F]∧(Zw E ⟨t,l⟩=(0,{Eb with ses:=some (Y9 ⟨t,l⟩),active:=false,frozen:=false,told:=true}))) ?_ ?_))))))))))))
    ·refine Qf (Qb (Qe Qa Qa (Qh (Qd (Qv Qa (fun h14=> ?_) (fun h14=> ?_))))))
     ·omega
     refine Qt ?_
     have hS15:=Qu (E:=E) (by rw[hq_s]; exact((ZQ hSo11).pick [1,2,3,0,4,5,6] Qa))
     exact YB (Lr Qa Qa) ⟨E,rfl,hS15.pick [0,1,2] Qa,SH hup hri (by omega) (by omega) hq_s⟩
    rintro _ w13 ⟨Eb,rfl,hS13,hEb⟩
    refine Qf ?_
    have hri1:Zb ⟨t,l⟩=true:= by cases q:Zb ⟨t,l⟩; exact absurd q hri;rfl
    obtain⟨dp1,cv1,sv1,ov1,hS16⟩:=QU (hS13.pick [0,1,2] rfl)
    refine Qb (Qe Qa Qa (Qi Qa Kb Qa (Qr Qa Zx (hS16.cell 5 Qa Qa) Qa (Wq XH hS16 Qa ?_))))
    intro sm w17 hS17
    refine Jz (vs':=[strV t,intV 1,.map (some sm)]) Qa Vy TD PK Qa Qa Qa (Za hS17 Qa Qa Qa ?_)
    intro sb w18 hS18
    refine Ql Qa Qa (Qi Qa Xt Qa ?_)
    (refine Qw hS18 Qa Qa Yf (by rfl) (i:=2) Qa (QC Qa) ?_)
    intro w19 hS20; dsimp only[List.set]at hS20
    refine Qh ?_
    replace hS20:Sat _ [Xb sb [strV t,intV 1,.map (some sm)],X3 XH sm (JT ((l.take 0).map Ls)),Xb e (U0 dp1 cv1 (ptrV sb 0) ov1 Eb),dT dp1 Eb.D,JE dp1 cv1 Eb.cell,Vk sv1 Eb.ses,KC ov1 Eb.off,Xb bp [strV t,.slice ao l.length cap],F]:=hS20
    refine Qd (Qf (Qf (Qb (Qi Qa HD Qa (Qr Qa RD (hS20.cell 7 Qa Qa) Qa (Xm underlying22 Qa Qa (Qe Qa Qa (Qh (Qd (Qk [0,61,62,63] Qa (QK ?_)))))))))))
    refine XJ (fun K0 E0 W0=> ∃(i:Nat),K0=l.length -i∧E0=[(0,ptrV e 0),(61,.slice ao l.length cap),(62,intV (l.length:Int)),(63,intV (i:Int))]∧Sat W0 [Xb sb [strV t,intV 1,.map (some sm)],X3 XH sm (JT ((l.take i).map Ls)),Xb e (U0 dp1 cv1 (ptrV sb 0) ov1 Eb),dT dp1 Eb.D,JE dp1 cv1 Eb.cell,KC ov1 Eb.off,F]∧(i≤l.length)) (L0:=[(0,_),(61,_),(62,_),(63,_)]) (l.length -0) (By Qa Qa Qa Qa) ⟨0,rfl,rfl,hS20.pick [0,1,2,3,4,6,8] Qa, by omega⟩ ?_
    rintro _ _ w21 ⟨i,rfl,rfl,hS21,hi⟩
    refine Qf (Qb (X5 Qa Qa Qa (Qh (Qd (Qf (Qv Qa (fun h22=> ?_) (fun h22=> ?_)))))))
    ·obtain⟨x,hx⟩: ∃x,l[i]? =some x:=⟨_,WY (by omega)⟩
     obtain⟨b,off,rfl,hc⟩:=(hL.sat hS21 6 rfl).get hx
     refine Qt (Qd (Qf (QK (Qf (Qb (XZ i Qa Qa (by rfl) (by omega) Nq Qa ?_))))))
     refine YO Qa N8 YI (vs:=[intV x.1,strV x.2]) hc Qa (Xs hS21 DC Qa Qa ?_)
     intro b23 w23 hS23
     (refine Q8 hS23 Qa Qa YI Qa (by rfl) (i:=0) Qa (by decide) ?_)
     intro w24 hS25; dsimp only[List.set]at hS25
     refine Qh (Qd ?_)
     have hS26:=hS25.drew
     refine QN [0,1,2,3,4,5,6,7,8,9,10,11,12] [12] W5 (by kernel_rfl) ?_
     refine QI Qa Qa Qa (Xn Qa Qa Qa (QO Qa Qa Qa Xt (QF Qa Qa Qa (Qn Qa ZA (hS26.cell 3 Qa Qa)) (Xn Qa Qa Qa (QO Qa Qa Qa Z7 (QF Qa Qa Qa (Qn Qa ZL (hS26.cell 1 Qa Qa)) (QO Qa Qa Qa HC (QF Qa Qa Qa (Qn Qa QH (hS26.cell 0 Qa Qa)) (QO Qa Qa Qa Rp (QF Qa Qa Qa (Qn Qa Zx (hS26.cell 0 Qa Qa)) (Q9 Qa Qa Qa (fun _=>(W7 Qa Y1 HY ZY Qa)) ?_)))))))))))
     refine QV Qa Qa Qa Qa Qa Qa ?_
     refine XP (k:=x.1) (v:=Kp ⟨x.2,1,0,false⟩) 2 hS26 keysInt underlying89 Qa Qa Qa Qa ?_
     intro w27 hS27; dsimp only[List.set]at hS27; rw[BJ hri1 hx]at hS27
     refine Z9 (Xq (by kernel_rfl)) ?_
     refine VC.nil (Qq (Qd (Qk [63,62,61,0] Qa (Qb (XC Qa Qa (by omega) (by omega) Qa ?_)))))
     refine Qe Qa Qa (Qh ?_)
     exact Xj (L1:=[(0,_),(61,_),(62,_),(63,intV ((i+1:Nat):Int))]) (By Qa Qa Qa Qa) (k1:=l.length -(i+1)) (by omega) ⟨i+1,rfl,rfl,hS27.pick [1,2,3,4,5,6,7] Qa, by omega⟩
    refine X6 (Q6 (Q6 (QR (Qd (Qf (Qb (Qe Qa Qa (Qe Qa Qa (Qe Qa Qa (Ql Qa Qa (Qi Qa XL Qa ?_)))))))))))
    (refine Qw hS21 Qa Qa XU (by rfl) (i:=2) Qa (QC Qa) ?_)
    intro w28 hS29; dsimp only[List.set]at hS29
    refine Ql Qa Qa (Qi Qa WC Qa ?_)
    (refine Qw hS29 Qa Qa XU (by rfl) (i:=2) Qa (QC Qa) ?_)
    intro w30 hS31; dsimp only[List.set]at hS31
    refine Ql Qa Qa (Qi Qa HA Qa ?_)
    (refine Qw hS31 Qa Qa XU (by rfl) (i:=2) Qa (QC Qa) ?_)
    intro w32 hS33; dsimp only[List.set]at hS33
    refine Qh (Qd (B4 (L':=[]) .nil (Qf (Qb (Qc Qa Qa (Qh (Qd (Qo (Q5 (.inr Qa) Qa Qa ?_)))))))))
    have hz:=hS33.pick [0,1,2,3,4,5,6] Qa
    rw[show i=l.length by omega,List.take_length]at hz
    exact⟨_,rfl, by rw[hEb], by rw[hEb]; exact Qu (E:={Eb with ses:=some (Y9 ⟨t,l⟩),active:=false,frozen:=false,told:=true}) (dp:=dp1) ((Xh (s:=Y9 ⟨t,l⟩) hz).reorder [1,2,3,0,4,5] Qa)⟩
   rw[hq_s]at hS8
   obtain⟨sb,sm,rfl,hSo12⟩:=Zo (hS8.pick [3,0,1,2,4,5,6] rfl)
   refine U3 underlying78 Qa Qa Qa (Qj Qa Qa h9 (Q3 Qa (Qx h10) Qa Qa (Q1 Qa h9 Qa Qa (Qc Qa Qa (Qh (Qd (Qk [0,3,4,5,29] Qa (QP Qa (Qf (Qb (Qc Qa Qa (Qh (Qd (Qo (Qz (Qm (Q5 (.inr Qa) Qa Qa ?_)))))))))))))))))
   exact⟨_,rfl, by rw[Us hup hri ⟨by omega, by exact .inl (by omega)⟩], by rw[Us hup hri ⟨by omega, by exact .inl (by omega)⟩]; exact Qu (E:=E) (by rw[hq_s]; exact((Xh (hSo12.pick [0,1,2,3,4,5,6,7] Qa)).pick [1,2,3,0,4,6] Qa))⟩
  have hfs:E.move=0:= by simpa using h9
  refine Qg Qa Qa h9 Qa (Qg Qa Qa h9 Qa (Qg Qa Qa h9 Qa (Qg Qa Qa h9 Qa (Qg Qa Qa h9 Qa (Qg Qa Qa h9 Qa (QM Qa Qa Qa (QM Qa Qa Qa (QM Qa Qa Qa (QM Qa Qa Qa (QM Qa Qa Qa (Qg Qa Qa h9 Qa (Q3 Qa h9 Qa Qa (Qc Qa Qa (Qh (Qd (Qk [0,3,4,5,29] Qa (QJ Qa (Qt (Qq (Qd (Vq (fun E0 W0=> ∃(Eb:EnD),E0=[(0,ptrV e 0),(3,ptrV bp 0)]∧Sat W0 [Xw e Eb,Xb bp [strV t,.slice ao l.length cap],F]∧(Zw E ⟨t,l⟩=(0,{Eb with ses:=some (Y9 ⟨t,l⟩),active:=false,frozen:=false,told:=true}))) ?_ ?_)))))))))))))))))))))
  ·refine Qf (Qb (Qe Qa Qa (Qh (Qd (Qv Qa (fun h35=> ?_) (fun h35=> ?_))))))
   ·refine Qf (Qb (Qe Qa Qa ?_))
    have hS36:=Qu (E:=E) ((hS8.pick [0,1,2,3,4,5,6] Qa))
    refine Q0 VF Qa (Ul (hS36.sp [0] Qa) (hG.starL 1 Qa) (hO.starL 1 Qa) hu (k:=1) (m:=1) (XG (by decide)) (XG (by decide))) Qa ?_
    rintro _ w37 ⟨rfl,hS37⟩
    replace hS37:=hS37.jn Qa Qa
    refine Qc Qa Qa (Qh (Qd (Qf (Qb (Qe Qa Qa (Xu Qa Qa Qa (Qh (Qd (Qk [0,3,4,6,50] Qa (Qv Qa (fun h38=> ?_) (fun h38=> ?_)))))))))))
    ·have hbad:(QT E 1 1).1≠0:= by simpa using h38
     refine Qf (Qb (Qe Qa Qa (Qc Qa Qa (Qh (Qd (Qo (Qm (Q5 (.inr Qa) Qa Qa ?_))))))))
     exact⟨_,rfl, by rw[SI hup hri ⟨by omega, by omega⟩ hbad], by rw[SI hup hri ⟨by omega, by omega⟩ hbad]; exact hS37.pick [0,2] Qa⟩
    have hn0:(QT E 1 1).1=0:= by simpa using h38
    refine Qt ?_
    exact YB (Lr Qa Qa) ⟨(QT E 1 1).2,rfl,hS37.pick [0,1,2] Qa,begin_e hup hri ⟨by omega, by omega⟩ hn0⟩
   omega
  rintro _ w34 ⟨Eb,rfl,hS34,hEb⟩
  refine Qf ?_
  have hri1:Zb ⟨t,l⟩=true:= by cases q:Zb ⟨t,l⟩; exact absurd q hri;rfl
  obtain⟨dp1,cv1,sv1,ov1,hS39⟩:=QU (hS34.pick [0,1,2] rfl)
  refine Qb (Qe Qa Qa (Qi Qa Kb Qa (Qr Qa Zx (hS39.cell 5 Qa Qa) Qa (Wq XH hS39 Qa ?_))))
  intro sm w40 hS40
  refine Jz (vs':=[strV t,intV 1,.map (some sm)]) Qa Vy TD PK Qa Qa Qa (Za hS40 Qa Qa Qa ?_)
  intro sb w41 hS41
  refine Ql Qa Qa (Qi Qa Xt Qa ?_)
  (refine Qw hS41 Qa Qa Yf (by rfl) (i:=2) Qa (QC Qa) ?_)
  intro w42 hS43; dsimp only[List.set]at hS43
  refine Qh ?_
  replace hS43:Sat _ [Xb sb [strV t,intV 1,.map (some sm)],X3 XH sm (JT ((l.take 0).map Ls)),Xb e (U0 dp1 cv1 (ptrV sb 0) ov1 Eb),dT dp1 Eb.D,JE dp1 cv1 Eb.cell,Vk sv1 Eb.ses,KC ov1 Eb.off,Xb bp [strV t,.slice ao l.length cap],F]:=hS43
  refine Qd (Qf (Qf (Qb (Qi Qa HD Qa (Qr Qa RD (hS43.cell 7 Qa Qa) Qa (Xm underlying22 Qa Qa (Qe Qa Qa (Qh (Qd (Qk [0,61,62,63] Qa (QK ?_)))))))))))
  refine XJ (fun K0 E0 W0=> ∃(i:Nat),K0=l.length -i∧E0=[(0,ptrV e 0),(61,.slice ao l.length cap),(62,intV (l.length:Int)),(63,intV (i:Int))]∧Sat W0 [Xb sb [strV t,intV 1,.map (some sm)],X3 XH sm (JT ((l.take i).map Ls)),Xb e (U0 dp1 cv1 (ptrV sb 0) ov1 Eb),dT dp1 Eb.D,JE dp1 cv1 Eb.cell,KC ov1 Eb.off,F]∧(i≤l.length)) (L0:=[(0,_),(61,_),(62,_),(63,_)]) (l.length -0) (By Qa Qa Qa Qa) ⟨0,rfl,rfl,hS43.pick [0,1,2,3,4,6,8] Qa, by omega⟩ ?_
  rintro _ _ w44 ⟨i,rfl,rfl,hS44,hi⟩
  refine Qf (Qb (X5 Qa Qa Qa (Qh (Qd (Qf (Qv Qa (fun h45=> ?_) (fun h45=> ?_)))))))
  ·obtain⟨x,hx⟩: ∃x,l[i]? =some x:=⟨_,WY (by omega)⟩
   obtain⟨b,off,rfl,hc⟩:=(hL.sat hS44 6 rfl).get hx
   refine Qt (Qd (Qf (QK (Qf (Qb (XZ i Qa Qa (by rfl) (by omega) Nq Qa ?_))))))
   refine YO Qa N8 YI (vs:=[intV x.1,strV x.2]) hc Qa (Xs hS44 DC Qa Qa ?_)
   intro b46 w46 hS46
   (refine Q8 hS46 Qa Qa YI Qa (by rfl) (i:=0) Qa (by decide) ?_)
   intro w47 hS48; dsimp only[List.set]at hS48
   refine Qh (Qd ?_)
   have hS49:=hS48.drew
   refine QN [0,1,2,3,4,5,6,7,8,9,10,11,12] [12] W5 (by kernel_rfl) ?_
   refine QI Qa Qa Qa (Xn Qa Qa Qa (QO Qa Qa Qa Xt (QF Qa Qa Qa (Qn Qa ZA (hS49.cell 3 Qa Qa)) (Xn Qa Qa Qa (QO Qa Qa Qa Z7 (QF Qa Qa Qa (Qn Qa ZL (hS49.cell 1 Qa Qa)) (QO Qa Qa Qa HC (QF Qa Qa Qa (Qn Qa QH (hS49.cell 0 Qa Qa)) (QO Qa Qa Qa Rp (QF Qa Qa Qa (Qn Qa Zx (hS49.cell 0 Qa Qa)) (Q9 Qa Qa Qa (fun _=>(W7 Qa Y1 HY ZY Qa)) ?_)))))))))))
   refine QV Qa Qa Qa Qa Qa Qa ?_
   refine XP (k:=x.1) (v:=Kp ⟨x.2,1,0,false⟩) 2 hS49 keysInt underlying89 Qa Qa Qa Qa ?_
   intro w50 hS50; dsimp only[List.set]at hS50; rw[BJ hri1 hx]at hS50
   refine Z9 (Xq (by kernel_rfl)) ?_
   refine VC.nil (Qq (Qd (Qk [63,62,61,0] Qa (Qb (XC Qa Qa (by omega) (by omega) Qa ?_)))))
   refine Qe Qa Qa (Qh ?_)
   exact Xj (L1:=[(0,_),(61,_),(62,_),(63,intV ((i+1:Nat):Int))]) (By Qa Qa Qa Qa) (k1:=l.length -(i+1)) (by omega) ⟨i+1,rfl,rfl,hS50.pick [1,2,3,4,5,6,7] Qa, by omega⟩
  refine X6 (Q6 (Q6 (QR (Qd (Qf (Qb (Qe Qa Qa (Qe Qa Qa (Qe Qa Qa (Ql Qa Qa (Qi Qa XL Qa ?_)))))))))))
  (refine Qw hS44 Qa Qa XU (by rfl) (i:=2) Qa (QC Qa) ?_)
  intro w51 hS52; dsimp only[List.set]at hS52
  refine Ql Qa Qa (Qi Qa WC Qa ?_)
  (refine Qw hS52 Qa Qa XU (by rfl) (i:=2) Qa (QC Qa) ?_)
  intro w53 hS54; dsimp only[List.set]at hS54
  refine Ql Qa Qa (Qi Qa HA Qa ?_)
  (refine Qw hS54 Qa Qa XU (by rfl) (i:=2) Qa (QC Qa) ?_)
  intro w55 hS56; dsimp only[List.set]at hS56
  refine Qh (Qd (B4 (L':=[]) .nil (Qf (Qb (Qc Qa Qa (Qh (Qd (Qo (Q5 (.inr Qa) Qa Qa ?_)))))))))
  have hz:=hS56.pick [0,1,2,3,4,5,6] Qa
  rw[show i=l.length by omega,List.take_length]at hz
  exact⟨_,rfl, by rw[hEb], by rw[hEb]; exact Qu (E:={Eb with ses:=some (Y9 ⟨t,l⟩),active:=false,frozen:=false,told:=true}) (dp:=dp1) ((Xh (s:=Y9 ⟨t,l⟩) hz).reorder [1,2,3,0,4,5] Qa)⟩
 refine Qg Qa Qa (Qx h2) Qa (Qg Qa Qa (Qx h2) Qa (Qg Qa Qa (Qx h2) Qa (Qg Qa Qa (Qx h2) Qa (Qg Qa Qa (Qx h2) Qa (Q3 Qa (Qx h2) Qa Qa (Qc Qa Qa (Qh ?_)))))))
 have hS57:=Qu (E:=E) ((hS1.pick [0,1,2,3,4,5,6] Qa))
 refine Qd (Qk [0,3,4,5] Qa (Qf (QK (Qf (Qb (Qe Qa Qa (Q0 KK Qa (B9 (hS57.sp [0] Qa)) Qa ?_)))))))
 rintro _ w58 ⟨rfl,hS58⟩
 replace hS58:=hS58.jn Qa Qa
 refine XN Qa Qa (Qc Qa Qa (Qh (Qd (QZ Qa (fun h59=> ?_) (fun h59=> ?_)))))
 ·have hu0:upE E=false:= by simpa using h59
  refine Qf (Qb (Qc Qa Qa (Qh (Qd (Qo (Qz (Qm (Q5 (.inr Qa) Qa Qa ?_))))))))
  exact⟨_,rfl, by rw[Bw hu0], by rw[Bw hu0]; exact hS58.pick [0,2] Qa⟩
 have hup: ¬upE E=false:= by simpa using h59
 have hu:=KT hup
 refine Qf (Qb (Jd Qa Mw DP (by first | exact hS58.blk 1 Qa) (QC Qa) Qa Qa ?_))
 refine Q0 Ar Qa (Cd (hS58.sp [] Qa) (hL.starL 2 Qa)) Qa ?_
 rintro _ w60 ⟨rfl,hS60⟩
 replace hS60:=hS60.jn Qa Qa
 refine XN Qa Qa (Qc Qa Qa (Qh (Qd (Qk [0,3,4,5,25] Qa (QZ Qa (fun h61=> ?_) (fun h61=> ?_))))))
 ·have hri0:Zb ⟨t,l⟩=false:= by simpa using h61
  refine Qf (Qb (Qc Qa Qa (Qh (Qd (Qo (Qz (Qm (Q5 (.inr Qa) Qa Qa ?_))))))))
  exact⟨_,rfl, by rw[Bv hup hri0], by rw[Bv hup hri0]; exact hS60.pick [0,2] Qa⟩
 have hri: ¬Zb ⟨t,l⟩=false:= by simpa using h61
 refine Qf ?_
 obtain⟨dp,cv,sv,ov,hS62⟩:=QU (hS60.pick [0,1,2] rfl)
 refine Qb (Qe Qa Qa (XN Qa Qa (Qe Qa Qa (Qj Qa Qa Qa (Qe Qa Qa (Qj Qa Qa Qa (Ql Qa Qa (Qj Qa Qa Qa (Qi Qa Zh Qa (Qj Qa Qa Qa (Qr Qa QH (hS62.cell 0 Qa Qa) Qa (Qj Qa Qa Qa (Xu Qa Qa Qa (Qj Qa Qa Qa (Qe Qa Qa (Q4 38 Qa (fun h63=> ?_) (fun h63=> ?_)))))))))))))))))
 ·refine Qg Qa Qa (QD h63) Qa (Qg Qa Qa (QD h63) Qa (Qg Qa Qa (QD h63) Qa (Qg Qa Qa (QD h63) Qa (Qg Qa Qa (QD h63) Qa (Qj Qa Qa Qa (Q1 Qa (QD h63) Qa Qa (Q1 Qa Qa Qa Qa (Qc Qa Qa (Qh (Qd (Qk [0,3,4,5,29] Qa (QP Qa (Qf (Qb (Qc Qa Qa (Qh (Qd (Qo (Qz (Qm (Q5 (.inr Qa) Qa Qa ?_)))))))))))))))))))))
  exact⟨_,rfl, by rw[Us hup hri ⟨by omega, by exact .inl (by omega)⟩], by rw[Us hup hri ⟨by omega, by exact .inl (by omega)⟩]; exact Qu (E:=E) ((hS62.pick [0,1,2,3,4,6] Qa))⟩
 refine Qj Qa Qa (Qx h63) (Qe Qa Qa (Qj Qa Qa (Qx h63) (Ql Qa Qa (Qj Qa Qa (Qx h63) (Qi Qa Xt Qa (Qj Qa Qa (Qx h63) (Qr Qa ZA (hS62.cell 0 Qa Qa) Qa (Qj Qa Qa (Qx h63) ?_))))))))
 rcases hq_s:E.ses with _ | s
 ·rw[hq_s]at hS62
  obtain⟨rfl,hSo64⟩:=Je (hS62.pick [3,0,1,2,4,5,6] rfl)
  refine Y4 underlying78 Qa Qa Qa (Qj Qa Qa Qa (Q3 Qa (Qx h63) Qa Qa (Q1 Qa Qa Qa Qa (Qc Qa Qa (Qh (Qd (Qk [0,3,4,5,29] Qa (QJ Qa (Qt (Qq (Qd (Vq (fun E0 W0=> ∃(Eb:EnD),E0=[(0,ptrV e 0),(3,ptrV bp 0)]∧Sat W0 [Xw e Eb,Xb bp [strV t,.slice ao l.length cap],F]∧(Zw E ⟨t,l⟩=(0,{Eb with ses:=some (Y9 ⟨t,l⟩),active:=false,frozen:=false,told:=true}))) ?_ ?_))))))))))))
  ·refine Qf (Qb (Qe Qa Qa (Qh (Qd (QJ Qa (Qt ?_))))))
   have hS67:=Qu (E:=E) (by rw[hq_s]; exact((ZQ hSo64).pick [1,2,3,0,4,5,6] Qa))
   exact YB (Lr Qa Qa) ⟨E,rfl,hS67.pick [0,1,2] Qa,SH hup hri (by omega) (by omega) hq_s⟩
  rintro _ w66 ⟨Eb,rfl,hS66,hEb⟩
  refine Qf ?_
  have hri1:Zb ⟨t,l⟩=true:= by cases q:Zb ⟨t,l⟩; exact absurd q hri;rfl
  obtain⟨dp1,cv1,sv1,ov1,hS68⟩:=QU (hS66.pick [0,1,2] rfl)
  refine Qb (Qe Qa Qa (Qi Qa Kb Qa (Qr Qa Zx (hS68.cell 5 Qa Qa) Qa (Wq XH hS68 Qa ?_))))
  intro sm w69 hS69
  refine Jz (vs':=[strV t,intV 1,.map (some sm)]) Qa Vy TD PK Qa Qa Qa (Za hS69 Qa Qa Qa ?_)
  intro sb w70 hS70
  refine Ql Qa Qa (Qi Qa Xt Qa ?_)
  (refine Qw hS70 Qa Qa Yf (by rfl) (i:=2) Qa (QC Qa) ?_)
  intro w71 hS72; dsimp only[List.set]at hS72
  refine Qh ?_
  replace hS72:Sat _ [Xb sb [strV t,intV 1,.map (some sm)],X3 XH sm (JT ((l.take 0).map Ls)),Xb e (U0 dp1 cv1 (ptrV sb 0) ov1 Eb),dT dp1 Eb.D,JE dp1 cv1 Eb.cell,Vk sv1 Eb.ses,KC ov1 Eb.off,Xb bp [strV t,.slice ao l.length cap],F]:=hS72
  refine Qd (Qf (Qf (Qb (Qi Qa HD Qa (Qr Qa RD (hS72.cell 7 Qa Qa) Qa (Xm underlying22 Qa Qa (Qe Qa Qa (Qh (Qd (Qk [0,61,62,63] Qa (QK ?_)))))))))))
  refine XJ (fun K0 E0 W0=> ∃(i:Nat),K0=l.length -i∧E0=[(0,ptrV e 0),(61,.slice ao l.length cap),(62,intV (l.length:Int)),(63,intV (i:Int))]∧Sat W0 [Xb sb [strV t,intV 1,.map (some sm)],X3 XH sm (JT ((l.take i).map Ls)),Xb e (U0 dp1 cv1 (ptrV sb 0) ov1 Eb),dT dp1 Eb.D,JE dp1 cv1 Eb.cell,KC ov1 Eb.off,F]∧(i≤l.length)) (L0:=[(0,_),(61,_),(62,_),(63,_)]) (l.length -0) (By Qa Qa Qa Qa) ⟨0,rfl,rfl,hS72.pick [0,1,2,3,4,6,8] Qa, by omega⟩ ?_
  rintro _ _ w73 ⟨i,rfl,rfl,hS73,hi⟩
  refine Qf (Qb (X5 Qa Qa Qa (Qh (Qd (Qf (Qv Qa (fun h74=> ?_) (fun h74=> ?_)))))))
  ·obtain⟨x,hx⟩: ∃x,l[i]? =some x:=⟨_,WY (by omega)⟩
   obtain⟨b,off,rfl,hc⟩:=(hL.sat hS73 6 rfl).get hx
   refine Qt (Qd (Qf (QK (Qf (Qb (XZ i Qa Qa (by rfl) (by omega) Nq Qa ?_))))))
   refine YO Qa N8 YI (vs:=[intV x.1,strV x.2]) hc Qa (Xs hS73 DC Qa Qa ?_)
   intro b75 w75 hS75
   (refine Q8 hS75 Qa Qa YI Qa (by rfl) (i:=0) Qa (by decide) ?_)
   intro w76 hS77; dsimp only[List.set]at hS77
   refine Qh (Qd ?_)
   have hS78:=hS77.drew
   refine QN [0,1,2,3,4,5,6,7,8,9,10,11,12] [12] W5 (by kernel_rfl) ?_
   refine QI Qa Qa Qa (Xn Qa Qa Qa (QO Qa Qa Qa Xt (QF Qa Qa Qa (Qn Qa ZA (hS78.cell 3 Qa Qa)) (Xn Qa Qa Qa (QO Qa Qa Qa Z7 (QF Qa Qa Qa (Qn Qa ZL (hS78.cell 1 Qa Qa)) (QO Qa Qa Qa HC (QF Qa Qa Qa (Qn Qa QH (hS78.cell 0 Qa Qa)) (QO Qa Qa Qa Rp (QF Qa Qa Qa (Qn Qa Zx (hS78.cell 0 Qa Qa)) (Q9 Qa Qa Qa (fun _=>(W7 Qa Y1 HY ZY Qa)) ?_)))))))))))
   refine QV Qa Qa Qa Qa Qa Qa ?_
   refine XP (k:=x.1) (v:=Kp ⟨x.2,1,0,false⟩) 2 hS78 keysInt underlying89 Qa Qa Qa Qa ?_
   intro w79 hS79; dsimp only[List.set]at hS79; rw[BJ hri1 hx]at hS79
   refine Z9 (Xq (by kernel_rfl)) ?_
   refine VC.nil (Qq (Qd (Qk [63,62,61,0] Qa (Qb (XC Qa Qa (by omega) (by omega) Qa ?_)))))
   refine Qe Qa Qa (Qh ?_)
   exact Xj (L1:=[(0,_),(61,_),(62,_),(63,intV ((i+1:Nat):Int))]) (By Qa Qa Qa Qa) (k1:=l.length -(i+1)) (by omega) ⟨i+1,rfl,rfl,hS79.pick [1,2,3,4,5,6,7] Qa, by omega⟩
  refine X6 (Q6 (Q6 (QR (Qd (Qf (Qb (Qe Qa Qa (Qe Qa Qa (Qe Qa Qa (Ql Qa Qa (Qi Qa XL Qa ?_)))))))))))
  (refine Qw hS73 Qa Qa XU (by rfl) (i:=2) Qa (QC Qa) ?_)
  intro w80 hS81; dsimp only[List.set]at hS81
  refine Ql Qa Qa (Qi Qa WC Qa ?_)
  (refine Qw hS81 Qa Qa XU (by rfl) (i:=2) Qa (QC Qa) ?_)
  intro w82 hS83; dsimp only[List.set]at hS83
  refine Ql Qa Qa (Qi Qa HA Qa ?_)
  (refine Qw hS83 Qa Qa XU (by rfl) (i:=2) Qa (QC Qa) ?_)
  intro w84 hS85; dsimp only[List.set]at hS85
  refine Qh (Qd (B4 (L':=[]) .nil (Qf (Qb (Qc Qa Qa (Qh (Qd (Qo (Q5 (.inr Qa) Qa Qa ?_)))))))))
  have hz:=hS85.pick [0,1,2,3,4,5,6] Qa
  rw[show i=l.length by omega,List.take_length]at hz
  exact⟨_,rfl, by rw[hEb], by rw[hEb]; exact Qu (E:={Eb with ses:=some (Y9 ⟨t,l⟩),active:=false,frozen:=false,told:=true}) (dp:=dp1) ((Xh (s:=Y9 ⟨t,l⟩) hz).reorder [1,2,3,0,4,5] Qa)⟩
 rw[hq_s]at hS62
 obtain⟨sb,sm,rfl,hSo65⟩:=Zo (hS62.pick [3,0,1,2,4,5,6] rfl)
 refine U3 underlying78 Qa Qa Qa (Qj Qa Qa Qa (Q3 Qa (Qx h63) Qa Qa (Q1 Qa Qa Qa Qa (Qc Qa Qa (Qh (Qd (Qk [0,3,4,5,29] Qa (QP Qa (Qf (Qb (Qc Qa Qa (Qh (Qd (Qo (Qz (Qm (Q5 (.inr Qa) Qa Qa ?_)))))))))))))))))
 exact⟨_,rfl, by rw[Us hup hri ⟨by omega, by exact .inr (by rw[hq_s];rfl)⟩], by rw[Us hup hri ⟨by omega, by exact .inr (by rw[hq_s];rfl)⟩]; exact Qu (E:=E) (by rw[hq_s]; exact((Xh (hSo65.pick [0,1,2,3,4,5,6,7] Qa)).pick [1,2,3,0,4,6] Qa))⟩
