/- the law: MoveKeeps -/
import Derived.Test.YtiibgheijbbmaaaGreatDoorMvd8
set_option linter.unusedVariables false
set_option maxRecDepth 100000
set_option maxHeartbeats 4000000
namespace Go.Proofs.YtiibgheijbbmaaaGreatDoor
open Go.RowKit M Proofs.Tryz
theorem Iy {E:EnD} (hw: ∀x,E.ses=some x→SeW x):(QY E).length≤8192:= by
  unfold QY
  cases q:E.ses with
  | none=> exact Nat.zero_le _
  | some s=>
    have :=(hw s q).num
    dsimp only;unfold Re; rw[List.length_map]
    exact Nat.le_trans (List.length_filter_le _ _) this
theorem qas {w:World} {F:Th} (hS:Sat w [F]) (hG:Ent F WireG) (hO:Ent F (Glob 0)) {t:Bs} {sv:Value} {sl:AL Bs} (hL:Ent F (RdL shC sv sl)) {lv:Value} {l:List OpX} (hP:Ent F (OpsRd lv l)) (hR: ∀x∈l,X4 x.o.id):
    Calls prog 5 #[.agg #[strV t,sv],lv] w (Ret fun v w'=>v= .bool true∧Sat w' [F]):= by
 obtain⟨ao,cap,rfl,hmax⟩:=(hP.sat hS 0 rfl).shape
 refine Qy func5 Qa ntmps5 Qa ?_
 refine Qf (Qb (Za hS Qa Qa Qa ?_))
 intro bp w1 hS10
 have hS1:Sat w1 [Xb bp [strV t,sv],F]:=hS10
 refine Qc Qa Qa (Qh (Qd (Qf (Qb (Q0 cal_7 Qa (FA (hS1.sp [] Qa) (hG.starL 1 Qa) (hO.starL 1 Qa)) Qa ?_)))))
 rintro _ w2 ⟨rfl,hS2⟩
 replace hS2:=hS2.jn Qa Qa
 refine Qc Qa Qa (Qh (Qd (Qf (Qf (Qb (Qe Qa Qa (Q0 cal_8 Qa (lfew_sp (hS2.sp [] Qa) (hP.starL 1 Qa) 150) Qa ?_)))))))
 rintro _ w3 ⟨rfl,hS3⟩
 replace hS3:=hS3.jn Qa Qa
 refine XN Qa Qa (Qe Qa Qa (ZO 19 Qa (fun h4=> ?_) (fun h4=> ?_)))
 ·exact Qg Qa Qa h4 Qa (Qg Qa Qa h4 Qa (Qg Qa Qa h4 Qa (Q1 Qa h4 Qa Qa (Qh (Qd (Qk [1,2,4,5,23] Qa (QP Qa (Qf (Qb (Qe Qa Qa (Qc Qa Qa (Qh (Qd (Qo (Qm (Q5 (.inr Qa) Qa Qa (⟨_,Qa,Qa,hS3.pick [1] Qa⟩)))))))))))))))))
 have hfw0:Nj l 150=true:= by simpa using h4
 refine Qj Qa Qa h4 ?_
 refine Jd Qa Mw DP (by first | exact hS3.blk 0 Qa) (by first | decide | exact QC Qa | (simp;done) | omega) Qa Qa ?_
 refine Qj Qa Qa h4 (Q0 cal_9 Qa (FC (hS3.sp [] Qa) (hL.starL 1 Qa)) Qa ?_)
 rintro _ w5 ⟨rfl,hS5⟩
 replace hS5:=hS5.jn Qa Qa
 refine Qj Qa Qa h4 (XN Qa Qa (Q3 Qa h4 Qa Qa (Qh (Qd (Qk [1,2,4,5,23] Qa (QZ Qa (fun h6=> ?_) (fun h6=> ?_)))))))
 ·exact Qf (Qb (Qe Qa Qa (Qc Qa Qa (Qh (Qd (Qo (Qm (Q5 (.inr Qa) Qa Qa (⟨_,Qa,Qa,hS5.pick [1] Qa⟩)))))))))
 have hfw:=fewB_of hfw0
 have hrl:RT ⟨t,sl⟩=true:= by simpa using h6
 have hri:Zb ⟨t,sl⟩=true:= by unfold RT at hrl; simp only[Bool.and_eq_true]at hrl; exact hrl.1.1
 have hst9:(⟨t,sl⟩:SsD).state.length≤900:= by unfold RT at hrl; simp only[Bool.and_eq_true,decide_eq_true_eq]at hrl; exact hrl.1.2
 have hgl0:(⟨t,sl⟩:SsD).sheets.length≤8192+0:= by have q9:=(GG hri).2.2;omega
 refine Qt (Qd (Qf (Qb ?_)))
 refine Jd Qa Mw DP (by first | exact hS5.blk 0 Qa) (by first | decide | exact QC Qa | (simp;done) | omega) Qa Qa ?_
 refine Q0 cal_10 Qa (FI (hS5.sp [] Qa) (hG.starL 1 Qa) (hO.starL 1 Qa) (hL.starL 1 Qa)) Qa ?_
 rintro _ w7 ⟨x0,rfl,hS7⟩
 replace hS7:=hS7.jn Qa Qa
 refine Qc Qa Qa (Qh (Qd (Qf (Qf (Qb (Qe Qa Qa (ZG underlying29 Qa Qa Qa (Qh (Qd (QJ Qa (Qt (Qd (Qf (Qf (Qb (Qc Qa Qa (Qh (Qd (Qk [1,2,4,5,6,7] Qa (QK ?_))))))))))))))))))))
 refine XJ (fun K0 E0 W0=> ∃(i:Nat) (X:TwD) (g:SsD) (sv:Value) (G:Th),K0=l.length -i∧E0=[(1,.slice ao l.length cap),(2,ptrV bp 0),(5,.bool true),(6,ptrV x0 0),(7,intV (i:Int))]∧Sat W0 [Dv x0 X,Xb bp [strV g.state,sv],G]∧(i≤l.length)∧(INV X ((i:Int)+1))∧(XW X)∧(KX X g ((i:Int)+1))∧(g.sheets.length≤8192+i)∧(Ent G WireG)∧(Ent G (Glob 0))∧(Ent G (OpsRd (.slice ao l.length cap) l))∧(Ent G (RdL shC sv g.sheets))∧(∀w,Sat w [G]→Sat w [F])) (L0:=[(1,_),(2,_),(5,_),(6,_),(7,_)]) (l.length -0) (NC Qa Qa Qa Qa Qa) ⟨0,_,⟨t,sl⟩,sv,F,rfl,rfl,hS7.pick [0,1,2] Qa, by omega,(Lo hri).2,⟨new_W.begin,new_W,(fun p q=> by cases q), by simp⟩,qaf hri hst9,hgl0,hG,hO,hP,hL, fun _ q=>q⟩ ?_
 rintro _ _ w8 ⟨i,X,g,sv,G,rfl,rfl,hS8,hi,hI,hX,hK,hgl,hG,hO,hP,hL,hF⟩
 have hm0:X.a.move≤max ((i:Int)+1) 0:=hI.mv hX false
 have hm1:X.b.move≤max ((i:Int)+1) 0:=hI.mv hX true
 have hmA:X4 (X.a.move+1):= by have h0:=hX.a.km;unfold X4;omega
 have hmB:X4 (X.b.move+1):= by have h0:=hX.b.km;unfold X4;omega
 refine Qf (Qf (Qb (Qe Qa Qa (Qe Qa Qa (Xm underlying25 Qa Qa (X5 Qa Qa Qa (Qh (Qd (Qv Qa (fun h9=> ?_) (fun h9=> ?_))))))))))
 ·obtain⟨x,hx⟩: ∃x,l[i]? =some x:=⟨_,WY (by omega)⟩
  obtain⟨⟨ob9,off,rfl,hc⟩,hrd⟩:=(hP.sat hS8 2 rfl).get hx
  have hxm:=List.mem_of_getElem? hx
  have hox:=hfw.1 x hxm
  have E6:=hR x hxm
  unfold X4 at E6
  refine Qt (Qd (Qf (QK (Qf (Qb (Qe Qa Qa (Qe Qa Qa (XZ i Qa Qa (by rfl) (by omega) EX Qa ?_))))))))
  refine Qi Qa Sz Qa (Qr Qa QH (hc 0 _ Qa) Qa (KO 5 Qa Qa Qa Qa (q:=32) Qa Qa (Qc Qa Qa (Qh (Qd (Qk [7,6,5,2,1,8] Qa (Vq (fun E0 W0=>E0=[(1,.slice (some ⟨ob9,off,none⟩) l.length cap),(2,ptrV bp 0),(5,.bool true),(6,ptrV x0 0),(7,intV (i:Int)),(8,intV (x.o.dO%32))]∧Sat W0 [Dv x0 X,Xb bp [strV g.state,sv],G]∧(¬(21≤x.o.dO%32∧x.o.dO%32≤25))∧(x.o.dO%32≠28)) ?_ ?_)))))))
  ·refine Qf (Qb (Qe Qa Qa (Jm Qa Qa Qa (Qe Qa Qa (Q4 43 Qa (fun h11=> ?_) (fun h11=> ?_))))))
   ·refine Qj Qa Qa (QD h11) (Qe Qa Qa (Qj Qa Qa (QD h11) (W9 Qa Qa Qa (Q1 Qa (QD h11) Qa Qa (Qe Qa Qa (Q4 47 Qa (fun h12=> ?_) (fun h12=> ?_)))))))
    ·refine Qg Qa Qa (QD h12) Qa (Qg Qa Qa (QD h12) Qa (Q1 Qa (QD h12) Qa Qa (Qh (Qd (Qk [7,6,5,2,1,8,50] Qa (QP Qa (X6 (Q6 (QR (Qd (Qb (Qe Qa Qa (XC Qa Qa (by omega) (by omega) Qa ?_)))))))))))))
     refine Qc Qa Qa (Qh ?_)
     exact Xj (L1:=[(1,_),(2,_),(5,_),(6,_),(7,intV ((i+1:Nat):Int))]) (NC rfl rfl rfl rfl rfl) (k1:=l.length -(i+1)) (by omega) ⟨i+1,_,_,_,_,rfl,rfl,hS8.pick [0,1,2] rfl, by omega,IN2.wide hI (by omega),hX,(by obtain⟨z,hz⟩:=hK; exact⟨z,hz.fewer (by omega) rfl rfl fun _ q=>q⟩), by omega,hG,hO,hP,hL,hF⟩
    refine Qj Qa Qa (Qx h12) (Qe Qa Qa (Qj Qa Qa (Qx h12) (QL Qa Qa Qa (Q3 Qa (Qx h12) Qa Qa (Qh (Qd (Qk [7,6,5,2,1,8,50] Qa (Qv Qa (fun h13=> ?_) (fun h13=> ?_)))))))))
    ·refine X6 (Q6 (QR (Qd (Qb (Qe Qa Qa (XC Qa Qa (by omega) (by omega) Qa ?_))))))
     refine Qc Qa Qa (Qh ?_)
     exact Xj (L1:=[(1,_),(2,_),(5,_),(6,_),(7,intV ((i+1:Nat):Int))]) (NC rfl rfl rfl rfl rfl) (k1:=l.length -(i+1)) (by omega) ⟨i+1,_,_,_,_,rfl,rfl,hS8.pick [0,1,2] rfl, by omega,IN2.wide hI (by omega),hX,(by obtain⟨z,hz⟩:=hK; exact⟨z,hz.fewer (by omega) rfl rfl fun _ q=>q⟩), by omega,hG,hO,hP,hL,hF⟩
    refine Qt ?_
    exact YB (TH Qa Qa Qa Qa Qa Qa) ⟨rfl,hS8.pick [0,1,2] Qa, by omega, by omega⟩
   refine Qg Qa Qa (Qx h11) Qa (Qg Qa Qa (Qx h11) Qa (Q3 Qa (Qx h11) Qa Qa (Qe Qa Qa (Qj Qa Qa Qa (Qe Qa Qa (Qj Qa Qa Qa (QL Qa Qa Qa (Q3 Qa Qa Qa Qa (Qh (Qd (Qk [7,6,5,2,1,8,50] Qa (Qv Qa (fun h14=> ?_) (fun h14=> ?_)))))))))))))
   ·refine X6 (Q6 (QR (Qd (Qb (Qe Qa Qa (XC Qa Qa (by omega) (by omega) Qa ?_))))))
    refine Qc Qa Qa (Qh ?_)
    exact Xj (L1:=[(1,_),(2,_),(5,_),(6,_),(7,intV ((i+1:Nat):Int))]) (NC rfl rfl rfl rfl rfl) (k1:=l.length -(i+1)) (by omega) ⟨i+1,_,_,_,_,rfl,rfl,hS8.pick [0,1,2] rfl, by omega,IN2.wide hI (by omega),hX,(by obtain⟨z,hz⟩:=hK; exact⟨z,hz.fewer (by omega) rfl rfl fun _ q=>q⟩), by omega,hG,hO,hP,hL,hF⟩
   refine Qt ?_
   exact YB (TH Qa Qa Qa Qa Qa Qa) ⟨rfl,hS8.pick [0,1,2] Qa, by omega, by omega⟩
  rintro _ w10 ⟨rfl,hS10,hk21,hk28⟩
  obtain⟨⟨ob7,off7,he7,hc7⟩,_⟩:=(hP.sat hS10 2 rfl).get hx
  cases he7
  refine Qf (Qb (Qe Qa Qa (Qe Qa Qa (Qe Qa Qa (XZ i Qa Qa (by rfl) (by omega) EX Qa ?_)))))
  refine YO Qa qao qak (vs:=opV x) hc7 Qa (Q0 qa8 Qa (Ep (hS10.sp [0] Qa) (hG.starL 1 Qa) (hO.starL 1 Qa) hX (o:=x.o) (kv:=x.kv) (Ent.starL (RdX.elem hP hx) 1 Qa) (by omega) (by omega) hmA hmB) Qa ?_)
  rintro _ w15 ⟨rfl,hS15⟩
  replace hS15:=hS15.jn Qa Qa
  have hI2:INV (Zc X x.o).2 ((i:Int)+1+1):=LF hI (by omega) x.o
  have hmI: ∀j,X4 ((ZX X j).move+1):= fun j=> by cases j; exact hmA; exact hmB
  have hX2:XW (Zc X x.o).2:=hX.step hmI x.o
  have hK2:KX (Zc X x.o).2 (If (Zc X x.o).1 g x.o) ((i:Int)+1+1):=hK.step hI hX hmI (by omega) (by omega) hox.1 (by omega)
  refine Qc Qa Qa (Qh (Qd (Qk [8,7,6,5,2,1,9] Qa (Vq (fun E0 W0=> ∃(X2:TwD) (g2:SsD) (sv2:Value) (G2:Th),E0=[(1,.slice (some ⟨ob9,off,none⟩) l.length cap),(2,ptrV bp 0),(5,.bool true),(6,ptrV x0 0),(7,intV (i:Int))]∧Sat W0 [Dv x0 X2,Xb bp [strV g2.state,sv2],G2]∧(INV X2 ((i:Int)+1+1))∧(XW X2)∧(KX X2 g2 ((i:Int)+1+1))∧(g2.sheets.length≤8192+(i+1))∧(Ent G2 WireG)∧(Ent G2 (Glob 0))∧(Ent G2 (OpsRd (.slice (some ⟨ob9,off,none⟩) l.length cap) l))∧(Ent G2 (RdL shC sv2 g2.sheets))∧(∀w,Sat w [G2]→Sat w [F])) ?_ ?_))))
  ·refine Qf (Qb (Qe Qa Qa (QL Qa Qa Qa (Qe Qa Qa (Q4 59 Qa (fun h17=> ?_) (fun h17=> ?_))))))
   ·refine Qj Qa Qa (QD h17) (Qe Qa Qa (Qj Qa Qa (QD h17) (Jm Qa Qa Qa (Q1 Qa (QD h17) Qa Qa (Qe Qa Qa (Q4 63 Qa (fun h18=> ?_) (fun h18=> ?_)))))))
    ·refine Qj Qa Qa (QD h18) (Qe Qa Qa (Qj Qa Qa (QD h18) (W9 Qa Qa Qa (Q1 Qa (QD h18) Qa Qa (Qh (Qd (Qk [7,6,5,2,1,66] Qa (Qv Qa (fun h19=> ?_) (fun h19=> ?_)))))))))
     ·have hS20:=hS15.drew
      obtain⟨⟨ob8,off8,he8,hc8⟩,hrd8⟩:=(hP.sat hS20 2 rfl).get hx
      cases he8
      refine QN [0,1,2,3,4,5,6] [5,6] W5 (by kernel_rfl) ?_
      refine QF Qa Qa Qa (Jw Qa Mw DP (by first | exact hS20.blk 1 Qa) (by first | decide | exact QC Qa | (simp;done) | omega) Qa) ?_
      refine QI Qa Qa Qa (QI Qa Qa Qa (Q9 Qa Qa Qa (fun _=>(X0 i Qa Qa (by first | rfl | omega) (by omega) EX)) ?_))
      refine QF Qa Qa Qa (Mn Qa qao qak (vs:=opV x) hc8) (QV Qa Qa Qa Qa Qa Qa ?_)
      refine Q0 qa7 Qa (qam (hS20.sp [] Qa) (hL.starL 2 Qa) (by omega) (o:=x.o) (kv:=x.kv) (Ent.starL (RdX.elem hP hx) 2 Qa)) Qa ?_
      rintro _ w21 ⟨sv2,rfl,hS21⟩
      replace hS21:=hS21.jn Qa Qa
      refine Xd (Xq (by kernel_rfl)) ?_
      have h4:=hS21.own_one 0 Qa
      have hones: ∀v:Value,v.oneCell'=true→QQ [strV (Ik g x.o).state,v]=true:= by intro v q1; simp [QQ,Value.oneCell']at q1⊢; exact q1
      have hone2:=hones _ h4
      refine QV Qa Qa Qa Qa Qa Qa ?_
      first | (refine Q8 hS21 Qa Qa DP Qa (by first | rfl | (simp [QQ,Value.oneCell'];done) | assumption | exact hone) (i:=2) Qa (by first | decide | exact QC Qa | (simp;done) | omega) ?_)
      intro w22 hS23; dsimp only[List.set]at hS23
      refine Z9 (Xq (by kernel_rfl)) ?_
      refine VC.nil ?_
      have hkg:If (Zc X x.o).1 g x.o=Ik g x.o:= by unfold If; rw[if_pos ⟨by assumption, by omega, by omega⟩]
      rw[hkg]at hK2
      have hz:Sat _ [rowT shC sv2 (Ik g x.o).sheets,G,Dv x0 (Zc X x.o).2,Xb bp [strV (Ik g x.o).state,sv2]]:=hS23.pick [0,3,1,2] Qa
      have hgl2:(Ik g x.o).sheets.length≤8192+(i+1):= by have q9:=qad (g:=g) (o:=x.o);omega
      exact YB (NC Qa Qa Qa Qa Qa) ⟨_,_,_,starL [rowT shC sv2 (Ik g x.o).sheets,G],rfl,((Sat.fold (As:=[rowT shC sv2 (Ik g x.o).sheets,G]) hz).pick [1,2,0] Qa),hI2,hX2,hK2,hgl2,hG.starL 1 Qa,hO.starL 1 Qa,hP.starL 1 Qa,Ent.starL (Tt (C:=shC) (l:=(Ik g x.o).sheets) (by omega)) 0 Qa, fun w q=>hF w (q.flat.pick [1] Qa)⟩
     refine Qt ?_
     have hkg:If (Zc X x.o).1 g x.o=g:= by unfold If; rw[if_neg (by rintro⟨q1,q2,q3⟩;first | omega | exact absurd q1 (by assumption))]
     rw[hkg]at hK2
     exact YB (NC Qa Qa Qa Qa Qa) ⟨_,_,_,_,rfl,hS15.pick [0,1,2] Qa,hI2,hX2,hK2, by omega,hG,hO,hP,hL,hF⟩
    refine Qg Qa Qa (Qx h18) Qa (Qg Qa Qa (Qx h18) Qa (Q3 Qa (Qx h18) Qa Qa (Qh (Qd (Qk [7,6,5,2,1,66] Qa (QJ Qa (Qt ?_)))))))
    have hkg:If (Zc X x.o).1 g x.o=g:= by unfold If; rw[if_neg (by rintro⟨q1,q2,q3⟩;first | omega | exact absurd q1 (by assumption))]
    rw[hkg]at hK2
    exact YB (NC Qa Qa Qa Qa Qa) ⟨_,_,_,_,rfl,hS15.pick [0,1,2] Qa,hI2,hX2,hK2, by omega,hG,hO,hP,hL,hF⟩
   refine Qg Qa Qa (Qx h17) Qa (Qg Qa Qa (Qx h17) Qa (Q3 Qa (Qx h17) Qa Qa (Qe Qa Qa (Qg Qa Qa Qa Qa (Qg Qa Qa Qa Qa (Q3 Qa Qa Qa Qa (Qh (Qd (Qk [7,6,5,2,1,66] Qa (QJ Qa (Qt ?_)))))))))))
   have hkg:If (Zc X x.o).1 g x.o=g:= by unfold If; rw[if_neg (by rintro⟨q1,q2,q3⟩;first | omega | exact absurd q1 (by assumption))]
   rw[hkg]at hK2
   exact YB (NC Qa Qa Qa Qa Qa) ⟨_,_,_,_,rfl,hS15.pick [0,1,2] Qa,hI2,hX2,hK2, by omega,hG,hO,hP,hL,hF⟩
  rintro _ w16 ⟨X2,g2,sv2,G2,rfl,hS16,hI2,hX2,hK2,hgl2,hG2,hO2,hP2,hL2,hF2⟩
  refine Qf (Qb (Qc Qa Qa (Qh (Qd (QK ?_)))))
  refine XJ (fun K0 E0 W0=> ∃(k:Nat),K0=2 -k∧E0=[(1,.slice (some ⟨ob9,off,none⟩) l.length cap),(2,ptrV bp 0),(5,.bool true),(6,ptrV x0 0),(7,intV (i:Int)),(10,intV (k:Int))]∧Sat W0 [Dv x0 X2,Xb bp [strV g2.state,sv2],G2]∧(k≤2)) (L0:=[(1,_),(2,_),(5,_),(6,_),(7,_),(10,_)]) (2 -0) (TH Qa Qa Qa Qa Qa Qa) ⟨0,rfl,rfl,hS16.pick [0,1,2] Qa, by omega⟩ ?_
  rintro _ _ w24 ⟨k,rfl,rfl,hS24,hk2⟩
  refine Qf (Qf (Qb (Qe Qa Qa (X5 Qa Qa Qa (Qh (Qd (Qv Qa (fun h25=> ?_) (fun h25=> ?_))))))))
  ·refine Qt (Qd (Qf (QK (Qf (Qf (Qb (Qe Qa Qa ?_)))))))
   rcases(by omega:k=0∨k=1)with rfl | rfl
   ·obtain⟨eb,ecap,a,b,p,hS26⟩:=HN (hS24.pick [0,1,2] rfl)
    refine Ql Qa Qa (Qi Qa Wc Qa (Qr Qa Jx (by first | assumption | exact hS26.cell 0 Qa Qa | exact hS26.cell 5 Qa Qa) Qa ?_))
    refine Qe Qa Qa (Wj RV 1 0 hS26 Qa Qa Qa (by first | rfl | omega) (show[a,b][0]? =some a from rfl) Ym Qa ?_)
    intro bx28 capx28 hvx28
    refine W8 1 0 0 hS26 Qa hvx28 Qa Qa (show[a,b][0]? =some a from rfl) J5 Qa Qa (Q0 HW Qa (YA (hS26.sp [2] Qa)) Qa ?_)
    rintro _ w29 ⟨rfl,hS29⟩
    replace hS29:=hS29.jn Qa Qa
    refine XN Qa Qa (Qh (Qd (Qk [10,7,6,5,2,1,85] Qa (QZ Qa (fun h30=> ?_) (fun h30=> ?_)))))
    ·refine X6 (Q6 (QR (Qd (Qb (Qe Qa Qa (XC Qa Qa (by omega) (by omega) Qa ?_))))))
     refine Qc Qa Qa (Qh ?_)
     exact Xj (L1:=[(1,_),(2,_),(5,_),(6,_),(7,_),(10,intV ((0+1:Nat):Int))]) (TH Qa Qa Qa Qa Qa Qa) (k1:=2 -(0+1)) (by omega) ⟨0+1,rfl,rfl,QW (X:=X2) (hS29.pick [1,2,0,3,4,5,6] Qa), by omega⟩
    have hrun:ZZ X2.a=true:= by simpa using h30
    obtain⟨hho,hro,hmi⟩:=hK2.holds hI2 false hrun
    have hho:Ih X2.a ⟨g2.state,g2.sheets⟩=true:=hho
    have hro:ZZ X2.b=false:=hro
    have hmi: ∀id∈QY X2.a,GJ X2.b id=(Is g2.sheets id,0):=hmi
    refine Qt (Qd (Qf (Qf ?_)))
    have hS31:=hS29.drew
    refine QN [0,1,2,3,4,5,6,7,8,9,10,11,12,13,14,15,16,17,18,19,20] [8,19] W5 (by kernel_rfl) ?_
    refine QI Qa Qa Qa (Xn Qa Qa Qa (QO Qa Qa Qa Wc (QF Qa Qa Qa (Qn Qa Jx (by first | assumption | exact hS31.cell 1 Qa Qa | exact hS31.cell 5 Qa Qa)) ?_)))
    refine QI Qa Qa Qa (Q9 Qa Qa Qa (fun _=>(X0 0 Qa Qa (by first | rfl | omega) (by first | omega | exact(ZD (show[a,b][0]? =some a from rfl)).1) Ym)) ?_)
    refine QF Qa Qa Qa (XV RV 2 0 0 hS31 Qa (show[a,b][0]? =some a from rfl) J5 Qa Qa) ?_
    refine QF Qa Qa Qa (Jw Qa Mw DP (by first | exact hS31.blk 1 Qa | exact hS31.blk 5 Qa) (by first | decide | exact QC Qa | (simp;done) | omega) Qa) ?_
    refine QV Qa Qa Qa Qa Qa Qa ?_
    refine Q0 IX Qa (Iz (hS31.sp [0] Qa) hX2.a.ses (hL2.starL 5 Qa)) Qa ?_
    rintro _ w32 ⟨rfl,hS32⟩
    replace hS32:=hS32.jn Qa Qa
    rw[hho]
    refine Xd (Xq (by kernel_rfl)) ?_
    refine Q9 Qa Qa Qa (fun _=>(Gm Qa)) ?_
    refine QI Qa Qa Qa (TO 96 Qa (fun h33=> ?_) (fun h33=> ?_))
    ·(exfalso; have q9:=h33; simp at q9)
    refine Q9 Qa Qa (Qp Qa Qa h33) (fun _=>(Ev.gd (Xk Qa))) ?_
    refine Q9 Qa Qa (Qp Qa Qa h33) (fun _=>(Ev.gd (Xy Qa))) ?_
    refine Q9 Qa Qa (Qp Qa Qa h33) (fun _=>(Ev.gd (QS Qa Wc))) ?_
    refine QF Qa Qa (Qp Qa Qa h33) (Ev.gd (Qn Qa Jx (by first | assumption | exact hS32.cell 1 Qa Qa | exact hS32.cell 5 Qa Qa))) ?_
    refine Q9 Qa Qa (Qp Qa Qa h33) (fun _=>(Ev.gd (Xk Qa))) ?_
    refine Q9 Qa Qa (Qp Qa Qa h33) (fun _=>(Ev.gd (Bo Qa Qa (by omega) (by omega)))) ?_
    refine Q9 Qa Qa (Qp Qa Qa h33) (fun _=>(Ev.gd (X0 1 Qa Qa (by first | rfl | omega) (by first | omega | exact(ZD (show[a,b][1]? =some b from rfl)).1) Ym))) ?_
    refine QF Qa Qa (Qp Qa Qa h33) (Ev.gd (XV RV 2 1 0 hS32 Qa (show[a,b][1]? =some b from rfl) J5 Qa Qa)) (QV Qa Qa (Qp Qa Qa h33) Qa Qa Qa ?_)
    refine Q0 HW Qa (YA (hS32.sp [3] Qa)) Qa ?_
    rintro _ w34 ⟨rfl,hS34⟩
    replace hS34:=hS34.jn Qa Qa
    rw[hro]
    refine Xd (Xq (by kernel_rfl)) ?_
    refine Q9 Qa Qa Qa (fun _=>(Xi Qa h33 Qa)) ?_
    refine VC.nil (Qd (Qk [10,7,6,5,2,1,106] Qa (QZ Qa (fun h35=> ?_) (fun h35=> ?_))))
    ·(exfalso; have q9:=h35; simp at q9)
    refine Qt (Qd (Qf (Qb (Qe Qa Qa (Ql Qa Qa (Qi Qa Wc Qa (Qr Qa Jx (by first | assumption | exact hS34.cell 2 Qa Qa | exact hS34.cell 5 Qa Qa) Qa ?_)))))))
    refine Qe Qa Qa (Wj RV 3 0 hS34 Qa Qa Qa (by first | rfl | omega) (show[a,b][0]? =some a from rfl) Ym Qa ?_)
    intro bx36 capx36 hvx36
    refine W8 3 0 0 hS34 Qa hvx36 Qa Qa (show[a,b][0]? =some a from rfl) J5 Qa Qa (Q0 KJ Qa (Yv (hS34.sp [1] Qa) hX2.a.ses) Qa ?_)
    rintro _ w37 hS37
    replace hS37:=hS37.jn Qa Qa
    refine Qc Qa Qa (Qh (Qd (Qk [10,7,6,5,2,1,11] Qa (Qf (Qb (Qc Qa Qa (Qh (Qd (QK ?_)))))))))
    have hmlb:=Iy hX2.a.ses
    generalize hml:QY X2.a=ml at *
    obtain⟨ao9,cap9,hv38,_⟩:=hS37.own_shape 0 rfl
    obtain rfl:=hv38
    refine XJ (fun K0 E0 W0=> ∃(q:Nat),K0=ml.length -q∧E0=[(1,.slice (some ⟨ob9,off,none⟩) l.length cap),(2,ptrV bp 0),(5,.bool true),(6,ptrV x0 0),(7,intV (i:Int)),(10,intV ((0:Nat):Int)),(11,.slice ao9 ml.length cap9),(12,intV (q:Int))]∧Sat W0 [Xb x0 [.slice (some ⟨eb,0,none⟩) 2 ecap,ptrV p 0],rowT RV (.slice (some ⟨eb,0,none⟩) 2 ecap) [a,b],Xw a X2.a,Xw b X2.b,Gf p X2.fl X2.cut,rowT inC (.slice ao9 ml.length cap9) ml,Xb bp [strV g2.state,sv2],G2]∧(q≤ml.length)) (L0:=[(1,_),(2,_),(5,_),(6,_),(7,_),(10,_),(11,_),(12,_)]) (ml.length -0) (zb8 Qa Qa Qa Qa Qa Qa Qa Qa) ⟨0,rfl,rfl,hS37.pick [3,4,1,2,5,0,6,7] Qa, by omega⟩ ?_
    rintro _ _ w39 ⟨q,rfl,rfl,hS39,hq⟩
    refine Qf (Qf (Qb (Qe Qa Qa (Qe Qa Qa ?_))))
    first | refine Xm underlying33 Qa Qa ?_ | refine Xa 1 hS39 underlying33 Qa Qa Qa ?_ | refine Xa 5 hS39 underlying33 Qa Qa Qa ?_
    refine X5 Qa Qa Qa (Qh (Qd (Qk [12,11,10,7,6,5,2,1,118] Qa (Qv Qa (fun h40=> ?_) (fun h40=> ?_)))))
    ·obtain⟨y,hy⟩: ∃y,ml[q]? =some y:=⟨_,WY (by omega)⟩
     have hpg:=hmi y (List.mem_of_getElem? hy)
     obtain⟨mb,mcap,hq9,_⟩:=hS39.own_at 5 rfl (by show 0<ml.length;omega)
     cases hq9
     refine Qt (Qd (Qf (QK (Qf ?_))))
     have hS41:=hS39.drew
     refine QN [0,1,2,3,4,5,6,7,8,9,10,11,12,13,14,15,16,17] [12] W5 (by kernel_rfl) ?_
     refine QI Qa Qa Qa (Xn Qa Qa Qa (QO Qa Qa Qa Wc (QF Qa Qa Qa (Qn Qa Jx (by first | assumption | exact hS41.cell 0 Qa Qa | exact hS41.cell 6 Qa Qa)) ?_)))
     refine QI Qa Qa Qa (Q9 Qa Qa Qa (fun _=>(Bo Qa Qa (by omega) (by omega))) ?_)
     refine Q9 Qa Qa Qa (fun _=>(X0 1 Qa Qa (by first | rfl | omega) (by first | omega | exact(ZD (show[a,b][1]? =some b from rfl)).1) Ym)) ?_
     refine QF Qa Qa Qa (XV RV 1 1 0 hS41 Qa (show[a,b][1]? =some b from rfl) J5 Qa Qa) (QI Qa Qa Qa (QI Qa Qa Qa (Q9 Qa Qa Qa (fun _=>(X0 q Qa Qa (by first | rfl | omega) (by first | omega | exact(ZD hy).1) Kz)) ?_)))
     refine QF Qa Qa Qa (XV inC 5 q 0 hS41 Qa hy QH Qa Qa) (QV Qa Qa Qa Qa Qa Qa ?_)
     refine Q0 IF Qa (EY (hS41.sp [3] Qa) y) Qa ?_
     rintro _ w42 ⟨rfl,hS42⟩
     replace hS42:=hS42.jn Qa Qa
     rw[hpg]
     dsimp only
     refine Xd (Xq (by kernel_rfl)) ?_
     refine QI Qa Qa Qa (Y6 Qa Qa Qa Qa (Y6 Qa Qa Qa Qa (WV Qa Qa Qa (WV Qa Qa Qa (VC.nil (Qd (Qk [12,11,10,7,6,5,2,1,13,14] Qa (Qf ?_))))))))
     have hS43:=hS42.drew
     refine QN [0,1,2,3,4,5,6,7,8,9,10,11] [9] W5 (by kernel_rfl) ?_
     refine QI Qa Qa Qa (Q9 Qa Qa Qa (fun _=>(JZ Qa Qa)) ?_)
     refine QI Qa Qa Qa (XB 139 Qa (fun h44=> ?_) (fun h44=> ?_))
     ·(exfalso; have q9:=h44; simp at q9)
     refine Q9 Qa Qa (Qp Qa Qa (Qx h44)) (fun _=>(Ev.gd (Xk Qa))) ?_
     refine QF Qa Qa (Qp Qa Qa (Qx h44)) (Ev.gd (Jw Qa Mw DP (by first | exact hS43.blk 1 Qa | exact hS43.blk 6 Qa) (by first | decide | exact QC Qa | (simp;done) | omega) Qa)) ?_
     refine Q9 Qa Qa (Qp Qa Qa (Qx h44)) (fun _=>(Ev.gd (Xk Qa))) ?_
     refine Q9 Qa Qa (Qp Qa Qa (Qx h44)) (fun _=>(Ev.gd (Xk Qa))) ?_
     refine Q9 Qa Qa (Qp Qa Qa (Qx h44)) (fun _=>(Ev.gd (X0 q Qa Qa (by first | rfl | omega) (by first | omega | exact(ZD hy).1) Kz))) ?_
     refine QF Qa Qa (Qp Qa Qa (Qx h44)) (Ev.gd (XV inC 5 q 0 hS43 Qa hy QH Qa Qa)) (QV Qa Qa (Qp Qa Qa (Qx h44)) Qa Qa Qa ?_)
     refine Q0 IW Qa (I4 (hS43.sp [] Qa) (hL2.starL 7 Qa) y) Qa ?_
     rintro _ w45 ⟨rfl,hS45⟩
     replace hS45:=hS45.jn Qa Qa
     refine Xd (Xq (by kernel_rfl)) ?_
     refine Q9 Qa Qa (Qp Qa Qa (Qx h44)) (fun _=>(Ev.gd (S2 Qa Qa))) ?_
     refine Q9 Qa Qa Qa (fun _=>(Xi Qa (Qx h44) Qa)) ?_
     refine VC.nil (Qd (Qk [12,11,10,7,6,5,2,1,148] Qa (Qv Qa (fun h46=> ?_) (fun h46=> ?_))))
     ·exact absurd Qa h46
     refine Qt (Qq (Qd (Qb (Qe Qa Qa (XC Qa Qa (by omega) (by omega) Qa ?_)))))
     refine Qc Qa Qa (Qh ?_)
     exact Xj (L1:=[(1,_),(2,_),(5,_),(6,_),(7,_),(10,_),(11,_),(12,intV ((q+1:Nat):Int))]) (zb8 Qa Qa Qa Qa Qa Qa Qa Qa) (k1:=ml.length -(q+1)) (by omega) ⟨q+1,rfl,rfl,hS45.pick [1,2,3,0,4,5,6,7] Qa, by omega⟩
    refine X6 (Q6 (Q6 (QR (Qq (Qd (Qb (Qe Qa Qa (XC Qa Qa (by omega) (by omega) Qa ?_))))))))
    refine Qc Qa Qa (Qh ?_)
    exact Xj (L1:=[(1,_),(2,_),(5,_),(6,_),(7,_),(10,intV ((0+1:Nat):Int))]) (TH Qa Qa Qa Qa Qa Qa) (k1:=2 -(0+1)) (by omega) ⟨0+1,rfl,rfl,QW (X:=X2) (hS39.pick [0,1,2,3,4,6,7] Qa), by omega⟩
   obtain⟨eb,ecap,a,b,p,hS27⟩:=HN (hS24.pick [0,1,2] rfl)
   refine Ql Qa Qa (Qi Qa Wc Qa (Qr Qa Jx (by first | assumption | exact hS27.cell 0 Qa Qa | exact hS27.cell 5 Qa Qa) Qa ?_))
   refine Qe Qa Qa (Wj RV 1 1 hS27 Qa Qa Qa (by first | rfl | omega) (show[a,b][1]? =some b from rfl) Ym Qa ?_)
   intro bx47 capx47 hvx47
   refine W8 1 1 0 hS27 Qa hvx47 Qa Qa (show[a,b][1]? =some b from rfl) J5 Qa Qa (Q0 HW Qa (YA (hS27.sp [3] Qa)) Qa ?_)
   rintro _ w48 ⟨rfl,hS48⟩
   replace hS48:=hS48.jn Qa Qa
   refine XN Qa Qa (Qh (Qd (Qk [10,7,6,5,2,1,85] Qa (QZ Qa (fun h49=> ?_) (fun h49=> ?_)))))
   ·refine X6 (Q6 (QR (Qd (Qb (Qe Qa Qa (XC Qa Qa (by omega) (by omega) Qa ?_))))))
    refine Qc Qa Qa (Qh ?_)
    exact Xj (L1:=[(1,_),(2,_),(5,_),(6,_),(7,_),(10,intV ((1+1:Nat):Int))]) (TH Qa Qa Qa Qa Qa Qa) (k1:=2 -(1+1)) (by omega) ⟨1+1,rfl,rfl,QW (X:=X2) (hS48.pick [1,2,3,0,4,5,6] Qa), by omega⟩
   have hrun:ZZ X2.b=true:= by simpa using h49
   obtain⟨hho,hro,hmi⟩:=hK2.holds hI2 true hrun
   have hho:Ih X2.b ⟨g2.state,g2.sheets⟩=true:=hho
   have hro:ZZ X2.a=false:=hro
   have hmi: ∀id∈QY X2.b,GJ X2.a id=(Is g2.sheets id,0):=hmi
   refine Qt (Qd (Qf (Qf ?_)))
   have hS50:=hS48.drew
   refine QN [0,1,2,3,4,5,6,7,8,9,10,11,12,13,14,15,16,17,18,19,20] [8,19] W5 (by kernel_rfl) ?_
   refine QI Qa Qa Qa (Xn Qa Qa Qa (QO Qa Qa Qa Wc (QF Qa Qa Qa (Qn Qa Jx (by first | assumption | exact hS50.cell 1 Qa Qa | exact hS50.cell 5 Qa Qa)) ?_)))
   refine QI Qa Qa Qa (Q9 Qa Qa Qa (fun _=>(X0 1 Qa Qa (by first | rfl | omega) (by first | omega | exact(ZD (show[a,b][1]? =some b from rfl)).1) Ym)) ?_)
   refine QF Qa Qa Qa (XV RV 2 1 0 hS50 Qa (show[a,b][1]? =some b from rfl) J5 Qa Qa) ?_
   refine QF Qa Qa Qa (Jw Qa Mw DP (by first | exact hS50.blk 1 Qa | exact hS50.blk 5 Qa) (by first | decide | exact QC Qa | (simp;done) | omega) Qa) ?_
   refine QV Qa Qa Qa Qa Qa Qa ?_
   refine Q0 IX Qa (Iz (hS50.sp [0] Qa) hX2.b.ses (hL2.starL 5 Qa)) Qa ?_
   rintro _ w51 ⟨rfl,hS51⟩
   replace hS51:=hS51.jn Qa Qa
   rw[hho]
   refine Xd (Xq (by kernel_rfl)) ?_
   refine Q9 Qa Qa Qa (fun _=>(Gm Qa)) ?_
   refine QI Qa Qa Qa (TO 96 Qa (fun h52=> ?_) (fun h52=> ?_))
   ·(exfalso; have q9:=h52; simp at q9)
   refine Q9 Qa Qa (Qp Qa Qa h52) (fun _=>(Ev.gd (Xk Qa))) ?_
   refine Q9 Qa Qa (Qp Qa Qa h52) (fun _=>(Ev.gd (Xy Qa))) ?_
   refine Q9 Qa Qa (Qp Qa Qa h52) (fun _=>(Ev.gd (QS Qa Wc))) ?_
   refine QF Qa Qa (Qp Qa Qa h52) (Ev.gd (Qn Qa Jx (by first | assumption | exact hS51.cell 1 Qa Qa | exact hS51.cell 5 Qa Qa))) ?_
   refine Q9 Qa Qa (Qp Qa Qa h52) (fun _=>(Ev.gd (Xk Qa))) ?_
   refine Q9 Qa Qa (Qp Qa Qa h52) (fun _=>(Ev.gd (Bo Qa Qa (by omega) (by omega)))) ?_
   refine Q9 Qa Qa (Qp Qa Qa h52) (fun _=>(Ev.gd (X0 0 Qa Qa (by first | rfl | omega) (by first | omega | exact(ZD (show[a,b][0]? =some a from rfl)).1) Ym))) ?_
   refine QF Qa Qa (Qp Qa Qa h52) (Ev.gd (XV RV 2 0 0 hS51 Qa (show[a,b][0]? =some a from rfl) J5 Qa Qa)) (QV Qa Qa (Qp Qa Qa h52) Qa Qa Qa ?_)
   refine Q0 HW Qa (YA (hS51.sp [3] Qa)) Qa ?_
   rintro _ w53 ⟨rfl,hS53⟩
   replace hS53:=hS53.jn Qa Qa
   rw[hro]
   refine Xd (Xq (by kernel_rfl)) ?_
   refine Q9 Qa Qa Qa (fun _=>(Xi Qa h52 Qa)) ?_
   refine VC.nil (Qd (Qk [10,7,6,5,2,1,106] Qa (QZ Qa (fun h54=> ?_) (fun h54=> ?_))))
   ·(exfalso; have q9:=h54; simp at q9)
   refine Qt (Qd (Qf (Qb (Qe Qa Qa (Ql Qa Qa (Qi Qa Wc Qa (Qr Qa Jx (by first | assumption | exact hS53.cell 2 Qa Qa | exact hS53.cell 5 Qa Qa) Qa ?_)))))))
   refine Qe Qa Qa (Wj RV 3 1 hS53 Qa Qa Qa (by first | rfl | omega) (show[a,b][1]? =some b from rfl) Ym Qa ?_)
   intro bx55 capx55 hvx55
   refine W8 3 1 0 hS53 Qa hvx55 Qa Qa (show[a,b][1]? =some b from rfl) J5 Qa Qa (Q0 KJ Qa (Yv (hS53.sp [1] Qa) hX2.b.ses) Qa ?_)
   rintro _ w56 hS56
   replace hS56:=hS56.jn Qa Qa
   refine Qc Qa Qa (Qh (Qd (Qk [10,7,6,5,2,1,11] Qa (Qf (Qb (Qc Qa Qa (Qh (Qd (QK ?_)))))))))
   have hmlb:=Iy hX2.b.ses
   generalize hml:QY X2.b=ml at *
   obtain⟨ao9,cap9,hv57,_⟩:=hS56.own_shape 0 rfl
   obtain rfl:=hv57
   refine XJ (fun K0 E0 W0=> ∃(q:Nat),K0=ml.length -q∧E0=[(1,.slice (some ⟨ob9,off,none⟩) l.length cap),(2,ptrV bp 0),(5,.bool true),(6,ptrV x0 0),(7,intV (i:Int)),(10,intV ((1:Nat):Int)),(11,.slice ao9 ml.length cap9),(12,intV (q:Int))]∧Sat W0 [Xb x0 [.slice (some ⟨eb,0,none⟩) 2 ecap,ptrV p 0],rowT RV (.slice (some ⟨eb,0,none⟩) 2 ecap) [a,b],Xw a X2.a,Xw b X2.b,Gf p X2.fl X2.cut,rowT inC (.slice ao9 ml.length cap9) ml,Xb bp [strV g2.state,sv2],G2]∧(q≤ml.length)) (L0:=[(1,_),(2,_),(5,_),(6,_),(7,_),(10,_),(11,_),(12,_)]) (ml.length -0) (zb8 Qa Qa Qa Qa Qa Qa Qa Qa) ⟨0,rfl,rfl,hS56.pick [3,4,2,1,5,0,6,7] Qa, by omega⟩ ?_
   rintro _ _ w58 ⟨q,rfl,rfl,hS58,hq⟩
   refine Qf (Qf (Qb (Qe Qa Qa (Qe Qa Qa ?_))))
   first | refine Xm underlying33 Qa Qa ?_ | refine Xa 1 hS58 underlying33 Qa Qa Qa ?_ | refine Xa 5 hS58 underlying33 Qa Qa Qa ?_
   refine X5 Qa Qa Qa (Qh (Qd (Qk [12,11,10,7,6,5,2,1,118] Qa (Qv Qa (fun h59=> ?_) (fun h59=> ?_)))))
   ·obtain⟨y,hy⟩: ∃y,ml[q]? =some y:=⟨_,WY (by omega)⟩
    have hpg:=hmi y (List.mem_of_getElem? hy)
    obtain⟨mb,mcap,hq9,_⟩:=hS58.own_at 5 rfl (by show 0<ml.length;omega)
    cases hq9
    refine Qt (Qd (Qf (QK (Qf ?_))))
    have hS60:=hS58.drew
    refine QN [0,1,2,3,4,5,6,7,8,9,10,11,12,13,14,15,16,17] [12] W5 (by kernel_rfl) ?_
    refine QI Qa Qa Qa (Xn Qa Qa Qa (QO Qa Qa Qa Wc (QF Qa Qa Qa (Qn Qa Jx (by first | assumption | exact hS60.cell 0 Qa Qa | exact hS60.cell 6 Qa Qa)) ?_)))
    refine QI Qa Qa Qa (Q9 Qa Qa Qa (fun _=>(Bo Qa Qa (by omega) (by omega))) ?_)
    refine Q9 Qa Qa Qa (fun _=>(X0 0 Qa Qa (by first | rfl | omega) (by first | omega | exact(ZD (show[a,b][0]? =some a from rfl)).1) Ym)) ?_
    refine QF Qa Qa Qa (XV RV 1 0 0 hS60 Qa (show[a,b][0]? =some a from rfl) J5 Qa Qa) (QI Qa Qa Qa (QI Qa Qa Qa (Q9 Qa Qa Qa (fun _=>(X0 q Qa Qa (by first | rfl | omega) (by first | omega | exact(ZD hy).1) Kz)) ?_)))
    refine QF Qa Qa Qa (XV inC 5 q 0 hS60 Qa hy QH Qa Qa) (QV Qa Qa Qa Qa Qa Qa ?_)
    refine Q0 IF Qa (EY (hS60.sp [2] Qa) y) Qa ?_
    rintro _ w61 ⟨rfl,hS61⟩
    replace hS61:=hS61.jn Qa Qa
    rw[hpg]
    dsimp only
    refine Xd (Xq (by kernel_rfl)) ?_
    refine QI Qa Qa Qa (Y6 Qa Qa Qa Qa (Y6 Qa Qa Qa Qa (WV Qa Qa Qa (WV Qa Qa Qa (VC.nil (Qd (Qk [12,11,10,7,6,5,2,1,13,14] Qa (Qf ?_))))))))
    have hS62:=hS61.drew
    refine QN [0,1,2,3,4,5,6,7,8,9,10,11] [9] W5 (by kernel_rfl) ?_
    refine QI Qa Qa Qa (Q9 Qa Qa Qa (fun _=>(JZ Qa Qa)) ?_)
    refine QI Qa Qa Qa (XB 139 Qa (fun h63=> ?_) (fun h63=> ?_))
    ·(exfalso; have q9:=h63; simp at q9)
    refine Q9 Qa Qa (Qp Qa Qa (Qx h63)) (fun _=>(Ev.gd (Xk Qa))) ?_
    refine QF Qa Qa (Qp Qa Qa (Qx h63)) (Ev.gd (Jw Qa Mw DP (by first | exact hS62.blk 1 Qa | exact hS62.blk 6 Qa) (by first | decide | exact QC Qa | (simp;done) | omega) Qa)) ?_
    refine Q9 Qa Qa (Qp Qa Qa (Qx h63)) (fun _=>(Ev.gd (Xk Qa))) ?_
    refine Q9 Qa Qa (Qp Qa Qa (Qx h63)) (fun _=>(Ev.gd (Xk Qa))) ?_
    refine Q9 Qa Qa (Qp Qa Qa (Qx h63)) (fun _=>(Ev.gd (X0 q Qa Qa (by first | rfl | omega) (by first | omega | exact(ZD hy).1) Kz))) ?_
    refine QF Qa Qa (Qp Qa Qa (Qx h63)) (Ev.gd (XV inC 5 q 0 hS62 Qa hy QH Qa Qa)) (QV Qa Qa (Qp Qa Qa (Qx h63)) Qa Qa Qa ?_)
    refine Q0 IW Qa (I4 (hS62.sp [] Qa) (hL2.starL 7 Qa) y) Qa ?_
    rintro _ w64 ⟨rfl,hS64⟩
    replace hS64:=hS64.jn Qa Qa
    refine Xd (Xq (by kernel_rfl)) ?_
    refine Q9 Qa Qa (Qp Qa Qa (Qx h63)) (fun _=>(Ev.gd (S2 Qa Qa))) ?_
    refine Q9 Qa Qa Qa (fun _=>(Xi Qa (Qx h63) Qa)) ?_
    refine VC.nil (Qd (Qk [12,11,10,7,6,5,2,1,148] Qa (Qv Qa (fun h65=> ?_) (fun h65=> ?_))))
    ·exact absurd Qa h65
    refine Qt (Qq (Qd (Qb (Qe Qa Qa (XC Qa Qa (by omega) (by omega) Qa ?_)))))
    refine Qc Qa Qa (Qh ?_)
    exact Xj (L1:=[(1,_),(2,_),(5,_),(6,_),(7,_),(10,_),(11,_),(12,intV ((q+1:Nat):Int))]) (zb8 Qa Qa Qa Qa Qa Qa Qa Qa) (k1:=ml.length -(q+1)) (by omega) ⟨q+1,rfl,rfl,hS64.pick [1,2,0,3,4,5,6,7] Qa, by omega⟩
   refine X6 (Q6 (Q6 (QR (Qq (Qd (Qb (Qe Qa Qa (XC Qa Qa (by omega) (by omega) Qa ?_))))))))
   refine Qc Qa Qa (Qh ?_)
   exact Xj (L1:=[(1,_),(2,_),(5,_),(6,_),(7,_),(10,intV ((1+1:Nat):Int))]) (TH Qa Qa Qa Qa Qa Qa) (k1:=2 -(1+1)) (by omega) ⟨1+1,rfl,rfl,QW (X:=X2) (hS58.pick [0,1,2,3,4,6,7] Qa), by omega⟩
  refine X6 (Q6 (Q6 (QR (Qq (Qd (Qb (Qe Qa Qa (XC Qa Qa (by omega) (by omega) Qa ?_))))))))
  refine Qc Qa Qa (Qh ?_)
  exact Xj (L1:=[(1,_),(2,_),(5,_),(6,_),(7,intV ((i+1:Nat):Int))]) (NC Qa Qa Qa Qa Qa) (k1:=l.length -(i+1)) (by omega) ⟨i+1,_,_,_,_,rfl,rfl,hS24.pick [0,1,2] Qa, by omega,(by rw[show((i+1:Nat):Int)+1=(i:Int)+1+1 by omega]; exact hI2),hX2,(by rw[show((i+1:Nat):Int)+1=(i:Int)+1+1 by omega]; exact hK2),(by omega),hG2,hO2,hP2,hL2,hF2⟩
 exact X6 (Q6 (Q6 (QR (Qd (Qf (Qb (Qe Qa Qa (Qc Qa Qa (Qh (Qd (Qk [4] Qa (Qo (Q5 (.inr Qa) Qa Qa (⟨_,Qa,Qa,hF _ (hS8.pick [2] Qa)⟩))))))))))))))
