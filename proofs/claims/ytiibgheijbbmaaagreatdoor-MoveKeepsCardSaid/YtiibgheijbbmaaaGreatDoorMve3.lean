/- the law: MoveKeeps -/
import Derived.Test.YtiibgheijbbmaaaGreatDoorMvd8
set_option linter.unusedVariables false
set_option maxRecDepth 100000
set_option maxHeartbeats 4000000
namespace Go.Proofs.YtiibgheijbbmaaaGreatDoor
open Go.RowKit M Proofs.Tryz
theorem TK {E:EnD} (hw: ∀x,E.ses=some x→SeW x):(QP E).length≤8192:= by
  unfold QP
  cases q:E.ses with
  | none=> exact Nat.zero_le _
  | some s=>
    have :=(hw s q).num
    dsimp only;unfold YZ; rw[List.length_map]
    exact Nat.le_trans (List.length_filter_le _ _) this
theorem EG {w:World} {F:Th} (hS:Sat w [F]) (hG:Ent F WireG) (hO:Ent F (Glob 0)) {t:Bs} {sv:Value} {sl:AL Bs} (hL:Ent F (RdL shC sv sl)) {lv:Value} {l:List OpX} (hP:Ent F (OpsRd lv l)) (hR: ∀x∈l,X5 x.o.id):
    Calls prog 5 #[.agg #[strV t,sv],lv] w (Ret fun v w'=>v= .bool true∧Sat w' [F]):= by
 obtain⟨ao,cap,rfl,hmax⟩:=(hP.sat hS 0 rfl).shape
 refine Qx func5 Qa ntmps5 Qa ?_
 refine Qg (Qb (XT hS Qa Qa Qa ?_))
 intro bp w1 hS10
 have hS1:Sat w1 [QR bp [strV t,sv],F]:=hS10
 refine Qc Qa Qa (Qh (Qd (Qg (Qb (Qz cal_7 Qa (E6 (hS1.sp [] Qa) (hG.starL 1 Qa) (hO.starL 1 Qa)) Qa ?_)))))
 rintro _ w2 ⟨rfl,hS2⟩
 replace hS2:=hS2.jn Qa Qa
 refine Qc Qa Qa (Qh (Qd (Qg (Qg (Qb (Qe Qa Qa (Qz cal_8 Qa (lfew_sp (hS2.sp [] Qa) (hP.starL 1 Qa) 150) Qa ?_)))))))
 rintro _ w3 ⟨rfl,hS3⟩
 replace hS3:=hS3.jn Qa Qa
 refine XL Qa Qa (Qe Qa Qa (Z4 19 Qa (fun h4=> ?_) (fun h4=> ?_)))
 ·exact Qf Qa Qa h4 Qa (Qf Qa Qa h4 Qa (Qf Qa Qa h4 Qa (Q0 Qa h4 Qa Qa (Qh (Qd (Qk [1,2,4,5,23] Qa (QO Qa (Qg (Qb (Qe Qa Qa (Qc Qa Qa (Qh (Qd (Qo (Qm (Q5 (.inr Qa) Qa Qa (⟨_,Qa,Qa,hS3.pick [1] Qa⟩)))))))))))))))))
 have hfw0:Sc l 150=true:= by simpa using h4
 refine Qj Qa Qa h4 (ZK Qa J9 Wi (by first | exact hS3.blk 0 Qa) (Xd Qa) Qa Qa ?_)
 refine Qj Qa Qa h4 (Qz cal_9 Qa (E8 (hS3.sp [] Qa) (hL.starL 1 Qa)) Qa ?_)
 rintro _ w5 ⟨rfl,hS5⟩
 replace hS5:=hS5.jn Qa Qa
 refine Qj Qa Qa h4 (XL Qa Qa (Q1 Qa h4 Qa Qa (Qh (Qd (Qk [1,2,4,5,23] Qa (Xb Qa (fun h6=> ?_) (fun h6=> ?_)))))))
 ·exact Qg (Qb (Qe Qa Qa (Qc Qa Qa (Qh (Qd (Qo (Qm (Q5 (.inr Qa) Qa Qa (⟨_,Qa,Qa,hS5.pick [1] Qa⟩)))))))))
 have hfw:=fewB_of hfw0
 have hrl:R6 ⟨t,sl⟩=true:= by simpa using h6
 have hri:Zl ⟨t,sl⟩=true:= by unfold R6 at hrl; simp only[Bool.and_eq_true]at hrl; exact hrl.1.1
 have hst9:(⟨t,sl⟩:SsD).state.length≤900:= by unfold R6 at hrl; simp only[Bool.and_eq_true,decide_eq_true_eq]at hrl; exact hrl.1.2
 have hgl0:(⟨t,sl⟩:SsD).sheets.length≤8192+0:= by have q9:=(VZ hri).2.2;omega
 refine Qr (Qd (Qg (Qb ?_)))
 refine ZK Qa J9 Wi (by first | exact hS5.blk 0 Qa) (by first | decide | exact Xd Qa | (simp;done) | omega) Qa Qa ?_
 refine Qz cal_10 Qa (ED (hS5.sp [] Qa) (hG.starL 1 Qa) (hO.starL 1 Qa) (hL.starL 1 Qa)) Qa ?_
 rintro _ w7 ⟨x0,tq,rfl,hS7⟩
 replace hS7:=hS7.jn Qa Qa
 refine Qc Qa Qa (Qh (Qd (Qg (Qg (Qb (Qe Qa Qa (ZH underlying29 Qa Qa Qa (Qh (Qd (QI Qa (Qr (Qd (Qg (Qg (Qb (Qc Qa Qa (Qh (Qd (Qk [1,2,4,5,6,7] Qa (QD ?_))))))))))))))))))))
 refine X8 (fun K0 E0 W0=> ∃(i:Nat) (X:TwD) (g:SsD) (sv:Value) (G:Th),K0=l.length -i∧E0=[(1,.slice ao l.length cap),(2,ptrV bp 0),(5,.bool true),(6,ptrV x0 0),(7,intV (i:Int))]∧Sat W0 [GW x0 X,QR bp [strV g.state,sv],G]∧(i≤l.length)∧(INV X ((i:Int)+1))∧(XW X)∧(KX X g ((i:Int)+1))∧(g.sheets.length≤8192+i)∧(Ent G WireG)∧(Ent G (Glob 0))∧(Ent G (OpsRd (.slice ao l.length cap) l))∧(Ent G (RdL shC sv g.sheets))∧(∀w,Sat w [G]→Sat w [F])) (L0:=[(1,_),(2,_),(5,_),(6,_),(7,_)]) (l.length -0) (Di Qa Qa Qa Qa Qa) ⟨0,_,⟨t,sl⟩,sv,F,rfl,rfl,hS7.pick [0,1,2] Qa, by omega,(Aq hri).2,⟨new_W.begin,new_W,(fun p q=> by cases q), by simp⟩,Sx hri hst9,hgl0,hG,hO,hP,hL, fun _ q=>q⟩ ?_
 rintro _ _ w8 ⟨i,X,g,sv,G,rfl,rfl,hS8,hi,hI,hX,hK,hgl,hG,hO,hP,hL,hF⟩
 have hm0:X.a.move≤max ((i:Int)+1) 0:=hI.mv hX false
 have hm1:X.b.move≤max ((i:Int)+1) 0:=hI.mv hX true
 have hmA:X5 (X.a.move+1):= by have h0:=hX.a.km;unfold X5;omega
 have hmB:X5 (X.b.move+1):= by have h0:=hX.b.km;unfold X5;omega
 refine Qg (Qg (Qb (Qe Qa Qa (Qe Qa Qa (Xi underlying25 Qa Qa (X0 Qa Qa Qa (Qh (Qd (Qt Qa (fun h9=> ?_) (fun h9=> ?_))))))))))
 ·obtain⟨x,hx⟩: ∃x,l[i]? =some x:=⟨_,WB (by omega)⟩
  obtain⟨⟨ob9,off,rfl,hc⟩,hrd⟩:=(hP.sat hS8 2 rfl).get hx
  have hxm:=List.mem_of_getElem? hx
  have hox:=hfw.1 x hxm
  have S2:=hR x hxm
  unfold X5 at S2
  refine Qr (Qd (Qg (QD (Qg (Qb (Qe Qa Qa (Qe Qa Qa (X4 i Qa Qa (by first | rfl | omega) (by omega) Sh Qa ?_))))))))
  refine Qi Qa KS Qa (Qq Qa QF (hc 0 _ Qa) Qa (HT 5 Qa Qa Qa Qa (q:=32) Qa Qa (Qc Qa Qa (Qh (Qd (Qk [7,6,5,2,1,8] Qa (Uh (fun E0 W0=>E0=[(1,.slice (some ⟨ob9,off,none⟩) l.length cap),(2,ptrV bp 0),(5,.bool true),(6,ptrV x0 0),(7,intV (i:Int)),(8,intV (x.o.dO%32))]∧Sat W0 [GW x0 X,QR bp [strV g.state,sv],G]∧(¬(21≤x.o.dO%32∧x.o.dO%32≤25))∧(x.o.dO%32≠28)) ?_ ?_)))))))
  ·refine Qg (Qb (Qe Qa Qa (WX Qa Qa Qa (Qe Qa Qa (Q4 43 Qa (fun h11=> ?_) (fun h11=> ?_))))))
   ·refine Qj Qa Qa (Q8 h11) (Qe Qa Qa (Qj Qa Qa (Q8 h11) (W8 Qa Qa Qa (Q0 Qa (Q8 h11) Qa Qa (Qe Qa Qa (Q4 47 Qa (fun h12=> ?_) (fun h12=> ?_)))))))
    ·refine Qf Qa Qa (Q8 h12) Qa (Qf Qa Qa (Q8 h12) Qa (Q0 Qa (Q8 h12) Qa Qa (Qh (Qd (Qk [7,6,5,2,1,8,50] Qa (QO Qa (Xq (Q2 (QH (Qd (Qb (Qe Qa Qa (Xx Qa Qa (by omega) (by omega) Qa ?_)))))))))))))
     refine Qc Qa Qa (Qh ?_)
     exact Xa (L1:=[(1,_),(2,_),(5,_),(6,_),(7,intV ((i+1:Nat):Int))]) (Di rfl rfl rfl rfl rfl) (k1:=l.length -(i+1)) (by omega) ⟨i+1,_,_,_,_,rfl,rfl,hS8.pick [0,1,2] rfl, by omega,IN2.wide hI (by omega),hX,(by obtain⟨z,hz⟩:=hK; exact⟨z,hz.fewer (by omega) rfl rfl fun _ q=>q⟩), by omega,hG,hO,hP,hL,hF⟩
    refine Qj Qa Qa (Qw h12) (Qe Qa Qa (Qj Qa Qa (Qw h12) (QL Qa Qa Qa (Q1 Qa (Qw h12) Qa Qa (Qh (Qd (Qk [7,6,5,2,1,8,50] Qa (Qt Qa (fun h13=> ?_) (fun h13=> ?_)))))))))
    ·refine Xq (Q2 (QH (Qd (Qb (Qe Qa Qa (Xx Qa Qa (by omega) (by omega) Qa ?_))))))
     refine Qc Qa Qa (Qh ?_)
     exact Xa (L1:=[(1,_),(2,_),(5,_),(6,_),(7,intV ((i+1:Nat):Int))]) (Di rfl rfl rfl rfl rfl) (k1:=l.length -(i+1)) (by omega) ⟨i+1,_,_,_,_,rfl,rfl,hS8.pick [0,1,2] rfl, by omega,IN2.wide hI (by omega),hX,(by obtain⟨z,hz⟩:=hK; exact⟨z,hz.fewer (by omega) rfl rfl fun _ q=>q⟩), by omega,hG,hO,hP,hL,hF⟩
    refine Qr ?_
    exact WH (RM Qa Qa Qa Qa Qa Qa) ⟨rfl,hS8.pick [0,1,2] Qa, by omega, by omega⟩
   refine Qf Qa Qa (Qw h11) Qa (Qf Qa Qa (Qw h11) Qa (Q1 Qa (Qw h11) Qa Qa (Qe Qa Qa (Qj Qa Qa Qa (Qe Qa Qa (Qj Qa Qa Qa (QL Qa Qa Qa (Q1 Qa Qa Qa Qa (Qh (Qd (Qk [7,6,5,2,1,8,50] Qa (Qt Qa (fun h14=> ?_) (fun h14=> ?_)))))))))))))
   ·refine Xq (Q2 (QH (Qd (Qb (Qe Qa Qa (Xx Qa Qa (by omega) (by omega) Qa ?_))))))
    refine Qc Qa Qa (Qh ?_)
    exact Xa (L1:=[(1,_),(2,_),(5,_),(6,_),(7,intV ((i+1:Nat):Int))]) (Di rfl rfl rfl rfl rfl) (k1:=l.length -(i+1)) (by omega) ⟨i+1,_,_,_,_,rfl,rfl,hS8.pick [0,1,2] rfl, by omega,IN2.wide hI (by omega),hX,(by obtain⟨z,hz⟩:=hK; exact⟨z,hz.fewer (by omega) rfl rfl fun _ q=>q⟩), by omega,hG,hO,hP,hL,hF⟩
   refine Qr ?_
   exact WH (RM Qa Qa Qa Qa Qa Qa) ⟨rfl,hS8.pick [0,1,2] Qa, by omega, by omega⟩
  rintro _ w10 ⟨rfl,hS10,hk21,hk28⟩
  obtain⟨⟨ob7,off7,he7,hc7⟩,_⟩:=(hP.sat hS10 2 rfl).get hx
  cases he7
  refine Qg (Qb (Qe Qa Qa (Qe Qa Qa (Qe Qa Qa (X4 i Qa Qa (by first | rfl | omega) (by omega) Sh Qa ?_)))))
  refine YH Qa ag_35 sz_35 (vs:=opV x) hc7 Qa (Qz cal_11 Qa (O7 (hS10.sp [0] Qa) (hG.starL 1 Qa) (hO.starL 1 Qa) hX (o:=x.o) (kv:=x.kv) (Ent.starL (RdX.elem hP hx) 1 Qa) (by omega) (by omega) hmA hmB) Qa ?_)
  rintro _ w15 ⟨rfl,hS15⟩
  replace hS15:=hS15.jn Qa Qa
  have hI2:INV (XQ X x.o).2 ((i:Int)+1+1):=AQ hI (by omega) x.o
  have hmI: ∀j,X5 ((Xg X j).move+1):= fun j=> by cases j; exact hmA; exact hmB
  have hX2:XW (XQ X x.o).2:=hX.step hmI x.o
  have hK2:KX (XQ X x.o).2 (Hc (XQ X x.o).1 g x.o) ((i:Int)+1+1):=hK.step hI hX hmI (by omega) (by omega) hox.1 (by omega)
  refine Qc Qa Qa (Qh (Qd (Qk [8,7,6,5,2,1,9] Qa (Uh (fun E0 W0=> ∃(X2:TwD) (g2:SsD) (sv2:Value) (G2:Th),E0=[(1,.slice (some ⟨ob9,off,none⟩) l.length cap),(2,ptrV bp 0),(5,.bool true),(6,ptrV x0 0),(7,intV (i:Int))]∧Sat W0 [GW x0 X2,QR bp [strV g2.state,sv2],G2]∧(INV X2 ((i:Int)+1+1))∧(XW X2)∧(KX X2 g2 ((i:Int)+1+1))∧(g2.sheets.length≤8192+(i+1))∧(Ent G2 WireG)∧(Ent G2 (Glob 0))∧(Ent G2 (OpsRd (.slice (some ⟨ob9,off,none⟩) l.length cap) l))∧(Ent G2 (RdL shC sv2 g2.sheets))∧(∀w,Sat w [G2]→Sat w [F])) ?_ ?_))))
  ·refine Qg (Qb (Qe Qa Qa (QL Qa Qa Qa (Qe Qa Qa (Q4 59 Qa (fun h17=> ?_) (fun h17=> ?_))))))
   ·refine Qj Qa Qa (Q8 h17) (Qe Qa Qa (Qj Qa Qa (Q8 h17) (WX Qa Qa Qa (Q0 Qa (Q8 h17) Qa Qa (Qe Qa Qa (Q4 63 Qa (fun h18=> ?_) (fun h18=> ?_)))))))
    ·refine Qj Qa Qa (Q8 h18) (Qe Qa Qa (Qj Qa Qa (Q8 h18) (W8 Qa Qa Qa (Q0 Qa (Q8 h18) Qa Qa (Qh (Qd (Qk [7,6,5,2,1,66] Qa (Qt Qa (fun h19=> ?_) (fun h19=> ?_)))))))))
     ·have hS20:=hS15.drew
      obtain⟨⟨ob8,off8,he8,hc8⟩,hrd8⟩:=(hP.sat hS20 2 rfl).get hx
      cases he8
      refine QM [0,1,2,3,4,5,6] [5,6] Wv (by kernel_rfl) ?_
      refine Q9 Qa Qa Qa (Ws Qa J9 Wi (by first | exact hS20.blk 1 Qa) (Xd Qa) Qa) ?_
      refine QK Qa Qa Qa (QK Qa Qa Qa (QC Qa Qa Qa (fun _=>(Xk i Qa Qa (by rfl) (by omega) Sh)) ?_))
      refine Q9 Qa Qa Qa (Vx Qa ag_35 sz_35 (vs:=opV x) hc8) (QS Qa Qa Qa Qa Qa Qa ?_)
      refine Qz cal_25 Qa (lchg_sp (hS20.sp [] Qa) (hL.starL 2 Qa) (by omega) (o:=x.o) (kv:=x.kv) (Ent.starL (RdX.elem hP hx) 2 Qa)) Qa ?_
      rintro _ w21 ⟨sv2,rfl,hS21⟩
      replace hS21:=hS21.jn Qa Qa
      refine Xe (Xp (by kernel_rfl)) ?_
      have h4:=hS21.own_one 0 Qa
      have hones: ∀v:Value,v.oneCell'=true→Wt [strV (U6 g x.o).state,v]=true:= by intro v q1; simp [Wt,Value.oneCell']at q1⊢; exact q1
      have hone2:=hones _ h4
      refine QS Qa Qa Qa Qa Qa Qa ?_
      first | (refine QZ hS21 Qa Qa Wi Qa (by assumption) (i:=2) Qa (Xd Qa) ?_)
      intro w22 hS23; dsimp only[List.set]at hS23
      refine Z6 (Xp (by kernel_rfl)) ?_
      refine VC.nil ?_
      have hkg:Hc (XQ X x.o).1 g x.o=U6 g x.o:= by unfold Hc; rw[if_pos ⟨by assumption, by omega, by omega⟩]
      rw[hkg]at hK2
      have hz:Sat _ [rowT shC sv2 (U6 g x.o).sheets,G,GW x0 (XQ X x.o).2,QR bp [strV (U6 g x.o).state,sv2]]:=hS23.pick [0,3,1,2] Qa
      have hgl2:(U6 g x.o).sheets.length≤8192+(i+1):= by have q9:=Ix (g:=g) (o:=x.o);omega
      exact WH (Di Qa Qa Qa Qa Qa) ⟨_,_,_,starL [rowT shC sv2 (U6 g x.o).sheets,G],rfl,((Sat.fold (As:=[rowT shC sv2 (U6 g x.o).sheets,G]) hz).pick [1,2,0] Qa),hI2,hX2,hK2,hgl2,hG.starL 1 Qa,hO.starL 1 Qa,hP.starL 1 Qa,Ent.starL (G9 (C:=shC) (l:=(U6 g x.o).sheets) (by omega)) 0 Qa, fun w q=>hF w (q.flat.pick [1] Qa)⟩
     refine Qr ?_
     have hkg:Hc (XQ X x.o).1 g x.o=g:= by unfold Hc; rw[if_neg (by rintro⟨q1,q2,q3⟩;omega)]
     rw[hkg]at hK2
     exact WH (Di Qa Qa Qa Qa Qa) ⟨_,_,_,_,rfl,hS15.pick [0,1,2] Qa,hI2,hX2,hK2, by omega,hG,hO,hP,hL,hF⟩
    refine Qf Qa Qa (Qw h18) Qa (Qf Qa Qa (Qw h18) Qa (Q1 Qa (Qw h18) Qa Qa (Qh (Qd (Qk [7,6,5,2,1,66] Qa (QI Qa (Qr ?_)))))))
    have hkg:Hc (XQ X x.o).1 g x.o=g:= by unfold Hc; rw[if_neg (by rintro⟨q1,q2,q3⟩;omega)]
    rw[hkg]at hK2
    exact WH (Di Qa Qa Qa Qa Qa) ⟨_,_,_,_,rfl,hS15.pick [0,1,2] Qa,hI2,hX2,hK2, by omega,hG,hO,hP,hL,hF⟩
   refine Qf Qa Qa (Qw h17) Qa (Qf Qa Qa (Qw h17) Qa (Q1 Qa (Qw h17) Qa Qa (Qe Qa Qa (Qf Qa Qa Qa Qa (Qf Qa Qa Qa Qa (Q1 Qa Qa Qa Qa (Qh (Qd (Qk [7,6,5,2,1,66] Qa (QI Qa (Qr ?_)))))))))))
   have hkg:Hc (XQ X x.o).1 g x.o=g:= by unfold Hc; rw[if_neg (by rintro⟨q1,q2,q3⟩;omega)]
   rw[hkg]at hK2
   exact WH (Di Qa Qa Qa Qa Qa) ⟨_,_,_,_,rfl,hS15.pick [0,1,2] Qa,hI2,hX2,hK2, by omega,hG,hO,hP,hL,hF⟩
  rintro _ w16 ⟨X2,g2,sv2,G2,rfl,hS16,hI2,hX2,hK2,hgl2,hG2,hO2,hP2,hL2,hF2⟩
  refine Qg (Qb (Qc Qa Qa (Qh (Qd (QD ?_)))))
  refine X8 (fun K0 E0 W0=> ∃(k:Nat),K0=2 -k∧E0=[(1,.slice (some ⟨ob9,off,none⟩) l.length cap),(2,ptrV bp 0),(5,.bool true),(6,ptrV x0 0),(7,intV (i:Int)),(10,intV (k:Int))]∧Sat W0 [GW x0 X2,QR bp [strV g2.state,sv2],G2]∧(k≤2)) (L0:=[(1,_),(2,_),(5,_),(6,_),(7,_),(10,_)]) (2 -0) (RM Qa Qa Qa Qa Qa Qa) ⟨0,rfl,rfl,hS16.pick [0,1,2] Qa, by omega⟩ ?_
  rintro _ _ w24 ⟨k,rfl,rfl,hS24,hk2⟩
  refine Qg (Qg (Qb (Qe Qa Qa (X0 Qa Qa Qa (Qh (Qd (Qt Qa (fun h25=> ?_) (fun h25=> ?_))))))))
  ·refine Qr (Qd (Qg (QD (Qg (Qg (Qb (Qe Qa Qa ?_)))))))
   rcases(by omega:k=0∨k=1)with rfl | rfl
   ·obtain⟨eb,ecap,a,b,p,hq0,hS26⟩:=H4 (hS24.pick [0,1,2] rfl)
    refine Ql Qa Qa (Qi Qa ZV Qa (Qq Qa JX (hS26.cell 0 Qa Qa) Qa (Qe Qa Qa (ZP R8 1 0 hS26 Qa Qa Qa (by rfl) (show[a,b][0]? =some a from rfl) JU Qa ?_))))
    intro bx28 capx28 hvx28
    refine ZT 1 0 0 hS26 Qa hvx28 Qa Qa (show[a,b][0]? =some a from rfl) Jy Qa Qa (Qz Uz Qa (YW (hS26.sp [2] Qa)) Qa ?_)
    rintro _ w29 ⟨rfl,hS29⟩
    replace hS29:=hS29.jn Qa Qa
    refine XL Qa Qa (Qh (Qd (Qk [10,7,6,5,2,1,85] Qa (Xb Qa (fun h30=> ?_) (fun h30=> ?_)))))
    ·refine Xq (Q2 (QH (Qd (Qb (Qe Qa Qa (Xx Qa Qa (by omega) (by omega) Qa ?_))))))
     refine Qc Qa Qa (Qh ?_)
     exact Xa (L1:=[(1,_),(2,_),(5,_),(6,_),(7,_),(10,intV ((0+1:Nat):Int))]) (RM Qa Qa Qa Qa Qa Qa) (k1:=2 -(0+1)) (by omega) ⟨0+1,rfl,rfl,QY (X:=X2) (hS29.pick [1,2,0,3,4,5,6] Qa) (by assumption), by omega⟩
    have hrun:ZN X2.a=true:= by simpa using h30
    obtain⟨hho,hro,hmi⟩:=hK2.holds hI2 false hrun
    have hho:YF X2.a ⟨g2.state,g2.sheets⟩=true:=hho
    have hro:ZN X2.b=false:=hro
    have hmi: ∀id∈QP X2.a,H7 X2.b id=(Rx g2.sheets id,0):=hmi
    refine Qr (Qd (Qg (Qg ?_)))
    have hS31:=hS29.drew
    refine QM [0,1,2,3,4,5,6,7,8,9,10,11,12,13,14,15,16,17,18,19,20] [8,19] Wv (by kernel_rfl) ?_
    refine QK Qa Qa Qa (Xm Qa Qa Qa (QN Qa Qa Qa ZV (Q9 Qa Qa Qa (Qn Qa JX (hS31.cell 1 Qa Qa)) (QK Qa Qa Qa (QC Qa Qa Qa (fun _=>(Xk 0 Qa Qa (by rfl) (by omega) JU)) ?_)))))
    refine Q9 Qa Qa Qa (XK R8 2 0 0 hS31 Qa (show[a,b][0]? =some a from rfl) Jy Qa Qa) (Q9 Qa Qa Qa (Ws Qa J9 Wi (hS31.blk 5 Qa) (Xd Qa) Qa) (QS Qa Qa Qa Qa Qa Qa ?_))
    refine Qz IH Qa (TQ (hS31.sp [0] Qa) hX2.a.ses (hL2.starL 5 Qa)) Qa ?_
    rintro _ w32 ⟨rfl,hS32⟩
    replace hS32:=hS32.jn Qa Qa
    rw[hho]
    refine Xe (Xp (by kernel_rfl)) ?_
    refine QC Qa Qa Qa (fun _=>(Kn Qa)) ?_
    refine QK Qa Qa Qa (RU 96 Qa (fun h33=> ?_) (fun h33=> ?_))
    ·(exfalso; have q9:=h33; simp at q9)
    refine QC Qa Qa (Qs Qa Qa h33) (fun _=>(Ev.gd (Xt Qa))) ?_
    refine QC Qa Qa (Qs Qa Qa h33) (fun _=>(Ev.gd (XC Qa))) ?_
    refine QC Qa Qa (Qs Qa Qa h33) (fun _=>(Ev.gd (QV Qa ZV))) ?_
    refine Q9 Qa Qa (Qs Qa Qa h33) (Ev.gd (Qn Qa JX (hS32.cell 1 Qa Qa))) (QC Qa Qa (Qs Qa Qa h33) (fun _=>(Ev.gd (Xt Qa))) ?_)
    refine QC Qa Qa (Qs Qa Qa h33) (fun _=>(Ev.gd (Dw Qa Qa (by omega) (by omega)))) ?_
    refine QC Qa Qa (Qs Qa Qa h33) (fun _=>(Ev.gd (Xk 1 Qa Qa (by rfl) (by omega) JU))) ?_
    refine Q9 Qa Qa (Qs Qa Qa h33) (Ev.gd (XK R8 2 1 0 hS32 Qa (show[a,b][1]? =some b from rfl) Jy Qa Qa)) (QS Qa Qa (Qs Qa Qa h33) Qa Qa Qa ?_)
    refine Qz Uz Qa (YW (hS32.sp [3] Qa)) Qa ?_
    rintro _ w34 ⟨rfl,hS34⟩
    replace hS34:=hS34.jn Qa Qa
    rw[hro]
    refine Xe (Xp (by kernel_rfl)) ?_
    refine QC Qa Qa Qa (fun _=>(Xz Qa h33 Qa)) ?_
    refine VC.nil (Qd (Qk [10,7,6,5,2,1,106] Qa (Xb Qa (fun h35=> ?_) (fun h35=> ?_))))
    ·(exfalso; have q9:=h35; simp at q9)
    refine Qr (Qd (Qg (Qb (Qe Qa Qa (Ql Qa Qa (Qi Qa ZV Qa (Qq Qa JX (hS34.cell 2 Qa Qa) Qa (Qe Qa Qa (ZP R8 3 0 hS34 Qa Qa Qa (by rfl) (show[a,b][0]? =some a from rfl) JU Qa ?_)))))))))
    intro bx36 capx36 hvx36
    refine ZT 3 0 0 hS34 Qa hvx36 Qa Qa (show[a,b][0]? =some a from rfl) Jy Qa Qa (Qz Uy Qa (WR (hS34.sp [1] Qa) hX2.a.ses) Qa ?_)
    rintro _ w37 hS37
    replace hS37:=hS37.jn Qa Qa
    refine Qc Qa Qa (Qh (Qd (Qk [10,7,6,5,2,1,11] Qa (Qg (Qb (Qc Qa Qa (Qh (Qd (QD ?_)))))))))
    have hmlb:=TK hX2.a.ses
    generalize hml:QP X2.a=ml at *
    obtain⟨ao9,cap9,hv38,_⟩:=hS37.own_shape 0 rfl
    obtain rfl:=hv38
    refine X8 (fun K0 E0 W0=> ∃(q:Nat),K0=ml.length -q∧E0=[(1,.slice (some ⟨ob9,off,none⟩) l.length cap),(2,ptrV bp 0),(5,.bool true),(6,ptrV x0 0),(7,intV (i:Int)),(10,intV ((0:Nat):Int)),(11,.slice ao9 ml.length cap9),(12,intV (q:Int))]∧Sat W0 [QR x0 [.slice (some ⟨eb,0,none⟩) 2 ecap,ptrV p 0],rowT R8 (.slice (some ⟨eb,0,none⟩) 2 ecap) [a,b],Xu a X2.a,Xu b X2.b,Gi p X2.fl X2.cut,rowT inC (.slice ao9 ml.length cap9) ml,QR bp [strV g2.state,sv2],G2]∧(q≤ml.length)) (L0:=[(1,_),(2,_),(5,_),(6,_),(7,_),(10,_),(11,_),(12,_)]) (ml.length -0) (zb8 Qa Qa Qa Qa Qa Qa Qa Qa) ⟨0,rfl,rfl,hS37.pick [3,4,1,2,5,0,6,7] Qa, by omega⟩ ?_
    rintro _ _ w39 ⟨q,rfl,rfl,hS39,hq⟩
    refine Qg (Qg (Qb (Qe Qa Qa (Qe Qa Qa ?_))))
    first | refine Xi underlying33 Qa Qa ?_ | refine Xs 1 hS39 underlying33 Qa Qa Qa ?_ | refine Xs 5 hS39 underlying33 Qa Qa Qa ?_
    refine X0 Qa Qa Qa (Qh (Qd (Qk [12,11,10,7,6,5,2,1,118] Qa (Qt Qa (fun h40=> ?_) (fun h40=> ?_)))))
    ·obtain⟨y,hy⟩: ∃y,ml[q]? =some y:=⟨_,WB (by omega)⟩
     have hpg:=hmi y (List.mem_of_getElem? hy)
     obtain⟨mb,mcap,hq9,_⟩:=hS39.own_at 5 rfl (by show 0<ml.length;omega)
     cases hq9
     refine Qr (Qd (Qg (QD (Qg ?_))))
     have hS41:=hS39.drew
     refine QM [0,1,2,3,4,5,6,7,8,9,10,11,12,13,14,15,16,17] [12] Wv (by kernel_rfl) ?_
     refine QK Qa Qa Qa (Xm Qa Qa Qa (QN Qa Qa Qa ZV (Q9 Qa Qa Qa (Qn Qa JX (hS41.cell 0 Qa Qa)) (QK Qa Qa Qa (QC Qa Qa Qa (fun _=>(Dw Qa Qa (by omega) (by omega))) ?_)))))
     refine QC Qa Qa Qa (fun _=>(Xk 1 Qa Qa (by rfl) (by omega) JU)) ?_
     refine Q9 Qa Qa Qa (XK R8 1 1 0 hS41 Qa (show[a,b][1]? =some b from rfl) Jy Qa Qa) (QK Qa Qa Qa (QK Qa Qa Qa (QC Qa Qa Qa (fun _=>(Xk q Qa Qa (by rfl) (by omega) Uv)) ?_)))
     refine Q9 Qa Qa Qa (XK inC 5 q 0 hS41 Qa hy QF Qa Qa) (QS Qa Qa Qa Qa Qa Qa ?_)
     refine Qz Nu Qa (G8 (hS41.sp [3] Qa) y) Qa ?_
     rintro _ w42 ⟨rfl,hS42⟩
     replace hS42:=hS42.jn Qa Qa
     rw[hpg]
     dsimp only
     refine Xe (Xp (by kernel_rfl)) ?_
     refine QK Qa Qa Qa (Yn Qa Qa Qa Qa (Yn Qa Qa Qa Qa (WY Qa Qa Qa (WY Qa Qa Qa (VC.nil (Qd (Qk [12,11,10,7,6,5,2,1,13,14] Qa (Qg ?_))))))))
     have hS43:=hS42.drew
     refine QM [0,1,2,3,4,5,6,7,8,9,10,11] [9] Wv (by kernel_rfl) ?_
     refine QK Qa Qa Qa (QC Qa Qa Qa (fun _=>(JF Qa Qa)) ?_)
     refine QK Qa Qa Qa (Z1 139 Qa (fun h44=> ?_) (fun h44=> ?_))
     ·(exfalso; have q9:=h44; simp at q9)
     refine QC Qa Qa (Qs Qa Qa (Qw h44)) (fun _=>(Ev.gd (Xt Qa))) ?_
     refine Q9 Qa Qa (Qs Qa Qa (Qw h44)) (Ev.gd (Ws Qa J9 Wi (hS43.blk 6 Qa) (Xd Qa) Qa)) (QC Qa Qa (Qs Qa Qa (Qw h44)) (fun _=>(Ev.gd (Xt Qa))) ?_)
     refine QC Qa Qa (Qs Qa Qa (Qw h44)) (fun _=>(Ev.gd (Xt Qa))) ?_
     refine QC Qa Qa (Qs Qa Qa (Qw h44)) (fun _=>(Ev.gd (Xk q Qa Qa (by rfl) (by omega) Uv))) ?_
     refine Q9 Qa Qa (Qs Qa Qa (Qw h44)) (Ev.gd (XK inC 5 q 0 hS43 Qa hy QF Qa Qa)) (QS Qa Qa (Qs Qa Qa (Qw h44)) Qa Qa Qa ?_)
     refine Qz IG Qa (Px (hS43.sp [] Qa) (hL2.starL 7 Qa) y) Qa ?_
     rintro _ w45 ⟨rfl,hS45⟩
     replace hS45:=hS45.jn Qa Qa
     refine Xe (Xp (by kernel_rfl)) ?_
     refine QC Qa Qa (Qs Qa Qa (Qw h44)) (fun _=>(Ev.gd (Dx Qa Qa))) ?_
     refine QC Qa Qa Qa (fun _=>(Xz Qa (Qw h44) Qa)) ?_
     refine VC.nil (Qd (Qk [12,11,10,7,6,5,2,1,148] Qa (Qt Qa (fun h46=> ?_) (fun h46=> ?_))))
     ·exact absurd Qa h46
     refine Qr (Qp (Qd (Qb (Qe Qa Qa (Xx Qa Qa (by omega) (by omega) Qa ?_)))))
     refine Qc Qa Qa (Qh ?_)
     exact Xa (L1:=[(1,_),(2,_),(5,_),(6,_),(7,_),(10,_),(11,_),(12,intV ((q+1:Nat):Int))]) (zb8 Qa Qa Qa Qa Qa Qa Qa Qa) (k1:=ml.length -(q+1)) (by omega) ⟨q+1,rfl,rfl,hS45.pick [1,2,3,0,4,5,6,7] Qa, by omega⟩
    refine Xq (Q2 (Q2 (QH (Qp (Qd (Qb (Qe Qa Qa (Xx Qa Qa (by omega) (by omega) Qa ?_))))))))
    refine Qc Qa Qa (Qh ?_)
    exact Xa (L1:=[(1,_),(2,_),(5,_),(6,_),(7,_),(10,intV ((0+1:Nat):Int))]) (RM Qa Qa Qa Qa Qa Qa) (k1:=2 -(0+1)) (by omega) ⟨0+1,rfl,rfl,QY (X:=X2) (hS39.pick [0,1,2,3,4,6,7] Qa) (by assumption), by omega⟩
   obtain⟨eb,ecap,a,b,p,hq0,hS27⟩:=H4 (hS24.pick [0,1,2] rfl)
   refine Ql Qa Qa (Qi Qa ZV Qa (Qq Qa JX (hS27.cell 0 Qa Qa) Qa (Qe Qa Qa (ZP R8 1 1 hS27 Qa Qa Qa (by rfl) (show[a,b][1]? =some b from rfl) JU Qa ?_))))
   intro bx47 capx47 hvx47
   refine ZT 1 1 0 hS27 Qa hvx47 Qa Qa (show[a,b][1]? =some b from rfl) Jy Qa Qa (Qz Uz Qa (YW (hS27.sp [3] Qa)) Qa ?_)
   rintro _ w48 ⟨rfl,hS48⟩
   replace hS48:=hS48.jn Qa Qa
   refine XL Qa Qa (Qh (Qd (Qk [10,7,6,5,2,1,85] Qa (Xb Qa (fun h49=> ?_) (fun h49=> ?_)))))
   ·refine Xq (Q2 (QH (Qd (Qb (Qe Qa Qa (Xx Qa Qa (by omega) (by omega) Qa ?_))))))
    refine Qc Qa Qa (Qh ?_)
    exact Xa (L1:=[(1,_),(2,_),(5,_),(6,_),(7,_),(10,intV ((1+1:Nat):Int))]) (RM Qa Qa Qa Qa Qa Qa) (k1:=2 -(1+1)) (by omega) ⟨1+1,rfl,rfl,QY (X:=X2) (hS48.pick [1,2,3,0,4,5,6] Qa) (by assumption), by omega⟩
   have hrun:ZN X2.b=true:= by simpa using h49
   obtain⟨hho,hro,hmi⟩:=hK2.holds hI2 true hrun
   have hho:YF X2.b ⟨g2.state,g2.sheets⟩=true:=hho
   have hro:ZN X2.a=false:=hro
   have hmi: ∀id∈QP X2.b,H7 X2.a id=(Rx g2.sheets id,0):=hmi
   refine Qr (Qd (Qg (Qg ?_)))
   have hS50:=hS48.drew
   refine QM [0,1,2,3,4,5,6,7,8,9,10,11,12,13,14,15,16,17,18,19,20] [8,19] Wv (by kernel_rfl) ?_
   refine QK Qa Qa Qa (Xm Qa Qa Qa (QN Qa Qa Qa ZV (Q9 Qa Qa Qa (Qn Qa JX (hS50.cell 1 Qa Qa)) (QK Qa Qa Qa (QC Qa Qa Qa (fun _=>(Xk 1 Qa Qa (by rfl) (by omega) JU)) ?_)))))
   refine Q9 Qa Qa Qa (XK R8 2 1 0 hS50 Qa (show[a,b][1]? =some b from rfl) Jy Qa Qa) (Q9 Qa Qa Qa (Ws Qa J9 Wi (hS50.blk 5 Qa) (Xd Qa) Qa) (QS Qa Qa Qa Qa Qa Qa ?_))
   refine Qz IH Qa (TQ (hS50.sp [0] Qa) hX2.b.ses (hL2.starL 5 Qa)) Qa ?_
   rintro _ w51 ⟨rfl,hS51⟩
   replace hS51:=hS51.jn Qa Qa
   rw[hho]
   refine Xe (Xp (by kernel_rfl)) ?_
   refine QC Qa Qa Qa (fun _=>(Kn Qa)) ?_
   refine QK Qa Qa Qa (RU 96 Qa (fun h52=> ?_) (fun h52=> ?_))
   ·(exfalso; have q9:=h52; simp at q9)
   refine QC Qa Qa (Qs Qa Qa h52) (fun _=>(Ev.gd (Xt Qa))) ?_
   refine QC Qa Qa (Qs Qa Qa h52) (fun _=>(Ev.gd (XC Qa))) ?_
   refine QC Qa Qa (Qs Qa Qa h52) (fun _=>(Ev.gd (QV Qa ZV))) ?_
   refine Q9 Qa Qa (Qs Qa Qa h52) (Ev.gd (Qn Qa JX (hS51.cell 1 Qa Qa))) (QC Qa Qa (Qs Qa Qa h52) (fun _=>(Ev.gd (Xt Qa))) ?_)
   refine QC Qa Qa (Qs Qa Qa h52) (fun _=>(Ev.gd (Dw Qa Qa (by omega) (by omega)))) ?_
   refine QC Qa Qa (Qs Qa Qa h52) (fun _=>(Ev.gd (Xk 0 Qa Qa (by rfl) (by omega) JU))) ?_
   refine Q9 Qa Qa (Qs Qa Qa h52) (Ev.gd (XK R8 2 0 0 hS51 Qa (show[a,b][0]? =some a from rfl) Jy Qa Qa)) (QS Qa Qa (Qs Qa Qa h52) Qa Qa Qa ?_)
   refine Qz Uz Qa (YW (hS51.sp [3] Qa)) Qa ?_
   rintro _ w53 ⟨rfl,hS53⟩
   replace hS53:=hS53.jn Qa Qa
   rw[hro]
   refine Xe (Xp (by kernel_rfl)) ?_
   refine QC Qa Qa Qa (fun _=>(Xz Qa h52 Qa)) ?_
   refine VC.nil (Qd (Qk [10,7,6,5,2,1,106] Qa (Xb Qa (fun h54=> ?_) (fun h54=> ?_))))
   ·(exfalso; have q9:=h54; simp at q9)
   refine Qr (Qd (Qg (Qb (Qe Qa Qa (Ql Qa Qa (Qi Qa ZV Qa (Qq Qa JX (hS53.cell 2 Qa Qa) Qa (Qe Qa Qa (ZP R8 3 1 hS53 Qa Qa Qa (by rfl) (show[a,b][1]? =some b from rfl) JU Qa ?_)))))))))
   intro bx55 capx55 hvx55
   refine ZT 3 1 0 hS53 Qa hvx55 Qa Qa (show[a,b][1]? =some b from rfl) Jy Qa Qa (Qz Uy Qa (WR (hS53.sp [1] Qa) hX2.b.ses) Qa ?_)
   rintro _ w56 hS56
   replace hS56:=hS56.jn Qa Qa
   refine Qc Qa Qa (Qh (Qd (Qk [10,7,6,5,2,1,11] Qa (Qg (Qb (Qc Qa Qa (Qh (Qd (QD ?_)))))))))
   have hmlb:=TK hX2.b.ses
   generalize hml:QP X2.b=ml at *
   obtain⟨ao9,cap9,hv57,_⟩:=hS56.own_shape 0 rfl
   obtain rfl:=hv57
   refine X8 (fun K0 E0 W0=> ∃(q:Nat),K0=ml.length -q∧E0=[(1,.slice (some ⟨ob9,off,none⟩) l.length cap),(2,ptrV bp 0),(5,.bool true),(6,ptrV x0 0),(7,intV (i:Int)),(10,intV ((1:Nat):Int)),(11,.slice ao9 ml.length cap9),(12,intV (q:Int))]∧Sat W0 [QR x0 [.slice (some ⟨eb,0,none⟩) 2 ecap,ptrV p 0],rowT R8 (.slice (some ⟨eb,0,none⟩) 2 ecap) [a,b],Xu a X2.a,Xu b X2.b,Gi p X2.fl X2.cut,rowT inC (.slice ao9 ml.length cap9) ml,QR bp [strV g2.state,sv2],G2]∧(q≤ml.length)) (L0:=[(1,_),(2,_),(5,_),(6,_),(7,_),(10,_),(11,_),(12,_)]) (ml.length -0) (zb8 Qa Qa Qa Qa Qa Qa Qa Qa) ⟨0,rfl,rfl,hS56.pick [3,4,2,1,5,0,6,7] Qa, by omega⟩ ?_
   rintro _ _ w58 ⟨q,rfl,rfl,hS58,hq⟩
   refine Qg (Qg (Qb (Qe Qa Qa (Qe Qa Qa ?_))))
   first | refine Xi underlying33 Qa Qa ?_ | refine Xs 1 hS58 underlying33 Qa Qa Qa ?_ | refine Xs 5 hS58 underlying33 Qa Qa Qa ?_
   refine X0 Qa Qa Qa (Qh (Qd (Qk [12,11,10,7,6,5,2,1,118] Qa (Qt Qa (fun h59=> ?_) (fun h59=> ?_)))))
   ·obtain⟨y,hy⟩: ∃y,ml[q]? =some y:=⟨_,WB (by omega)⟩
    have hpg:=hmi y (List.mem_of_getElem? hy)
    obtain⟨mb,mcap,hq9,_⟩:=hS58.own_at 5 rfl (by show 0<ml.length;omega)
    cases hq9
    refine Qr (Qd (Qg (QD (Qg ?_))))
    have hS60:=hS58.drew
    refine QM [0,1,2,3,4,5,6,7,8,9,10,11,12,13,14,15,16,17] [12] Wv (by kernel_rfl) ?_
    refine QK Qa Qa Qa (Xm Qa Qa Qa (QN Qa Qa Qa ZV (Q9 Qa Qa Qa (Qn Qa JX (hS60.cell 0 Qa Qa)) (QK Qa Qa Qa (QC Qa Qa Qa (fun _=>(Dw Qa Qa (by omega) (by omega))) ?_)))))
    refine QC Qa Qa Qa (fun _=>(Xk 0 Qa Qa (by rfl) (by omega) JU)) ?_
    refine Q9 Qa Qa Qa (XK R8 1 0 0 hS60 Qa (show[a,b][0]? =some a from rfl) Jy Qa Qa) (QK Qa Qa Qa (QK Qa Qa Qa (QC Qa Qa Qa (fun _=>(Xk q Qa Qa (by rfl) (by omega) Uv)) ?_)))
    refine Q9 Qa Qa Qa (XK inC 5 q 0 hS60 Qa hy QF Qa Qa) (QS Qa Qa Qa Qa Qa Qa ?_)
    refine Qz Nu Qa (G8 (hS60.sp [2] Qa) y) Qa ?_
    rintro _ w61 ⟨rfl,hS61⟩
    replace hS61:=hS61.jn Qa Qa
    rw[hpg]
    dsimp only
    refine Xe (Xp (by kernel_rfl)) ?_
    refine QK Qa Qa Qa (Yn Qa Qa Qa Qa (Yn Qa Qa Qa Qa (WY Qa Qa Qa (WY Qa Qa Qa (VC.nil (Qd (Qk [12,11,10,7,6,5,2,1,13,14] Qa (Qg ?_))))))))
    have hS62:=hS61.drew
    refine QM [0,1,2,3,4,5,6,7,8,9,10,11] [9] Wv (by kernel_rfl) ?_
    refine QK Qa Qa Qa (QC Qa Qa Qa (fun _=>(JF Qa Qa)) ?_)
    refine QK Qa Qa Qa (Z1 139 Qa (fun h63=> ?_) (fun h63=> ?_))
    ·(exfalso; have q9:=h63; simp at q9)
    refine QC Qa Qa (Qs Qa Qa (Qw h63)) (fun _=>(Ev.gd (Xt Qa))) ?_
    refine Q9 Qa Qa (Qs Qa Qa (Qw h63)) (Ev.gd (Ws Qa J9 Wi (hS62.blk 6 Qa) (Xd Qa) Qa)) (QC Qa Qa (Qs Qa Qa (Qw h63)) (fun _=>(Ev.gd (Xt Qa))) ?_)
    refine QC Qa Qa (Qs Qa Qa (Qw h63)) (fun _=>(Ev.gd (Xt Qa))) ?_
    refine QC Qa Qa (Qs Qa Qa (Qw h63)) (fun _=>(Ev.gd (Xk q Qa Qa (by rfl) (by omega) Uv))) ?_
    refine Q9 Qa Qa (Qs Qa Qa (Qw h63)) (Ev.gd (XK inC 5 q 0 hS62 Qa hy QF Qa Qa)) (QS Qa Qa (Qs Qa Qa (Qw h63)) Qa Qa Qa ?_)
    refine Qz IG Qa (Px (hS62.sp [] Qa) (hL2.starL 7 Qa) y) Qa ?_
    rintro _ w64 ⟨rfl,hS64⟩
    replace hS64:=hS64.jn Qa Qa
    refine Xe (Xp (by kernel_rfl)) ?_
    refine QC Qa Qa (Qs Qa Qa (Qw h63)) (fun _=>(Ev.gd (Dx Qa Qa))) ?_
    refine QC Qa Qa Qa (fun _=>(Xz Qa (Qw h63) Qa)) ?_
    refine VC.nil (Qd (Qk [12,11,10,7,6,5,2,1,148] Qa (Qt Qa (fun h65=> ?_) (fun h65=> ?_))))
    ·exact absurd Qa h65
    refine Qr (Qp (Qd (Qb (Qe Qa Qa (Xx Qa Qa (by omega) (by omega) Qa ?_)))))
    refine Qc Qa Qa (Qh ?_)
    exact Xa (L1:=[(1,_),(2,_),(5,_),(6,_),(7,_),(10,_),(11,_),(12,intV ((q+1:Nat):Int))]) (zb8 Qa Qa Qa Qa Qa Qa Qa Qa) (k1:=ml.length -(q+1)) (by omega) ⟨q+1,rfl,rfl,hS64.pick [1,2,0,3,4,5,6,7] Qa, by omega⟩
   refine Xq (Q2 (Q2 (QH (Qp (Qd (Qb (Qe Qa Qa (Xx Qa Qa (by omega) (by omega) Qa ?_))))))))
   refine Qc Qa Qa (Qh ?_)
   exact Xa (L1:=[(1,_),(2,_),(5,_),(6,_),(7,_),(10,intV ((1+1:Nat):Int))]) (RM Qa Qa Qa Qa Qa Qa) (k1:=2 -(1+1)) (by omega) ⟨1+1,rfl,rfl,QY (X:=X2) (hS58.pick [0,1,2,3,4,6,7] Qa) (by assumption), by omega⟩
  refine Xq (Q2 (Q2 (QH (Qp (Qd (Qb (Qe Qa Qa (Xx Qa Qa (by omega) (by omega) Qa ?_))))))))
  refine Qc Qa Qa (Qh ?_)
  exact Xa (L1:=[(1,_),(2,_),(5,_),(6,_),(7,intV ((i+1:Nat):Int))]) (Di Qa Qa Qa Qa Qa) (k1:=l.length -(i+1)) (by omega) ⟨i+1,_,_,_,_,rfl,rfl,hS24.pick [0,1,2] Qa, by omega,(by rw[show((i+1:Nat):Int)+1=(i:Int)+1+1 by omega]; exact hI2),hX2,(by rw[show((i+1:Nat):Int)+1=(i:Int)+1+1 by omega]; exact hK2),(by omega),hG2,hO2,hP2,hL2,hF2⟩
 exact Xq (Q2 (Q2 (QH (Qd (Qg (Qb (Qe Qa Qa (Qc Qa Qa (Qh (Qd (Qk [4] Qa (Qo (Q5 (.inr Qa) Qa Qa (⟨_,Qa,Qa,hF _ (hS8.pick [2] Qa)⟩))))))))))))))
