/- the law: MoveEnds -/
import Derived.Test.YtiibgheijbbmaaaGreatDoorMvg5
import Derived.Test.YtiibgheijbbmaaaGreatDoorMvc1
set_option linter.unusedVariables false
set_option maxRecDepth 100000
set_option maxHeartbeats 4000000
namespace Go.Proofs.YtiibgheijbbmaaaGreatDoor
open Go.RowKit M Proofs.Tryz
def UQ [tq:Inhabited TwQ] (i:Bool):Nat:= match i with
  | true=>(default:TwQ).b
  | false=>(default:TwQ).a
section
variable {w:World} {As:List Th} {x eb cap f k:Nat} {X:TwD} {i:Bool} {E:EnD} {g:SsD} {b:Int}
theorem qa2 [tq:Inhabited TwQ] (h:f<2) (hi:i=decide (f=1)):[UQ false,UQ true][f]? =some (UQ i):= by subst hi; rcases(by omega:f=0∨f=1)with rfl | rfl<;>rfl
theorem qa1 [tq:Inhabited TwQ] (h:f<2) (hi:i=decide (f=1)):[UQ false,UQ true][1 -f]? =some (UQ (!i)):= by subst hi; rcases(by omega:f=0∨f=1)with rfl | rfl<;>rfl
theorem Cv [tq:Inhabited TwQ] (i:Bool) (h:Sat w (Ka x X::As)): ∃eb cap,(default:TwQ).sv= .slice (some ⟨eb,0,none⟩) 2 cap∧Sat w (QR x [.slice (some ⟨eb,0,none⟩) 2 cap,ptrV (default:TwQ).p 0]::rowT Rz (.slice (some ⟨eb,0,none⟩) 2 cap) [UQ false,UQ true]::Xs (UQ i) (Q6 X i)::Xs (UQ (!i)) (Q6 X (!i))::Ds (default:TwQ).p X.fl X.cut::As):= by
  obtain⟨eb,cap,a,b,p,hq,hS⟩:=JU h
  have ha:UQ false=a:=congrArg TwQ.a hq
  have hb:UQ true=b:=congrArg TwQ.b hq
  have hp:(default:TwQ).p=p:=congrArg TwQ.p hq
  refine⟨eb,cap,congrArg TwQ.sv hq, ?_⟩
  rw[hp]
  cases i with
  | false=>
    show Sat w (_::rowT Rz _ [UQ false,UQ true]::Xs (UQ false) X.a::Xs (UQ true) X.b::_)
    rw[ha,hb]; exact hS
  | true=>
    show Sat w (_::rowT Rz _ [UQ false,UQ true]::Xs (UQ true) X.b::Xs (UQ false) X.a::_)
    rw[ha,hb]; exact hS.perm (((List.Perm.swap _ _ _).cons _).cons _)
theorem Cu [tq:Inhabited TwQ] (i:Bool) (h:Sat w (QR x [.slice (some ⟨eb,0,none⟩) 2 cap,ptrV (default:TwQ).p 0]::rowT Rz (.slice (some ⟨eb,0,none⟩) 2 cap) [UQ false,UQ true]::Xs (UQ i) E::Xs (UQ (!i)) (Q6 X (!i))::Ds (default:TwQ).p X.fl X.cut::As)) (hq:(default:TwQ).sv= .slice (some ⟨eb,0,none⟩) 2 cap):Sat w (Ka x (Z2 X i E)::As):= by
  unfold Ka
  rw[hq]
  cases i with
  | false=> exact Sat.fold (As:=[QR x [.slice (some ⟨eb,0,none⟩) 2 cap,ptrV (default:TwQ).p 0],rowT Rz (.slice (some ⟨eb,0,none⟩) 2 cap) [UQ false,UQ true],Xs (UQ false) E,Xs (UQ true) X.b,Ds (default:TwQ).p X.fl X.cut]) h
  | true=> exact Sat.fold (As:=[QR x [.slice (some ⟨eb,0,none⟩) 2 cap,ptrV (default:TwQ).p 0],rowT Rz (.slice (some ⟨eb,0,none⟩) 2 cap) [UQ false,UQ true],Xs (UQ false) X.a,Xs (UQ true) E,Ds (default:TwQ).p X.fl X.cut]) (h.perm (((List.Perm.swap _ _ _).cons _).cons _))
theorem DQ [tq:Inhabited TwQ] (i:Bool) (h:Sat w (QR x [.slice (some ⟨eb,0,none⟩) 2 cap,ptrV (default:TwQ).p 0]::rowT Rz (.slice (some ⟨eb,0,none⟩) 2 cap) [UQ false,UQ true]::Xs (UQ i) (Q6 X i)::Xs (UQ (!i)) (Q6 X (!i))::Ds (default:TwQ).p X.fl X.cut::As)) (hq:(default:TwQ).sv= .slice (some ⟨eb,0,none⟩) 2 cap):Sat w (Ka x X::As):= by
  have :=Cu i (E:=Q6 X i) h hq
  rwa [YS]at this
theorem PhB.runsK (hp:PhB X i) (h:GV X g b) (hk:k≤1):Z5 (Q6 (flowN k X) (!i))=decide (k=1):= by
  rcases(by omega:k=0∨k=1)with rfl | rfl
  · exact hp.no
  · exact((hp.flow h).runs h.flow).1
theorem GV.len (h:GV X g b):g.sheets.length≤70:= by
  obtain⟨c,t,h,_,_,h4⟩:=h
  exact h4.len h.gs
end
theorem II {w:World} {F:Th} (hS:Sat w [F]) (hG:Ent F WireG) (hO:Ent F (Glob 0)) {t:Bs} {sv:Value} {sl:AL Bs} (hL:Ent F (RdL shC sv sl)) {lv:Value} {l:List OpX} (hP:Ent F (OpsRd lv l)) (hR: ∀x∈l,Xy x.o.id) {rn:Int}:
    Calls prog 6 #[.agg #[strV t,sv],intV rn,lv] w (Ret fun v w'=>v= .bool true∧Sat w' [F]):= by
 obtain⟨ao,cap,rfl,hmax⟩:=(hP.sat hS 0 rfl).shape
 refine Qy func6 Qa ntmps6 Qa ?_
 refine Qg (Qb (XZ hS Qa Qa Qa ?_))
 intro bp w1 hS10
 have hS1:Sat w1 [QR bp [strV t,sv],F]:=hS10
 refine Qc Qa Qa (Qh (Qe (Qg (Qb (Q4 cal_7 Qa (ER (hS1.sp [] Qa) (hG.starL 1 Qa) (hO.starL 1 Qa)) Qa ?_)))))
 rintro _ w2 ⟨rfl,hS2⟩
 replace hS2:=hS2.jn Qa Qa
 refine Qc Qa Qa (Qh (Qe (Qg (Qg (Qb (Qd Qa Qa (Xz Qa Qa Qa (Qd Qa Qa (Q3 25 Qa (fun h3=> ?_) (fun h3=> ?_))))))))))
 ·exact Qf Qa Qa (Q8 h3) Qa (Qf Qa Qa (Q8 h3) Qa (Qx Qa (Q8 h3) Qa Qa (Qd Qa Qa (Qf Qa Qa Qa Qa (Qf Qa Qa Qa Qa (Qf Qa Qa Qa Qa (Qx Qa Qa Qa Qa (Qd Qa Qa (Qf Qa Qa Qa Qa (Qf Qa Qa Qa Qa (Qf Qa Qa Qa Qa (Qx Qa Qa Qa Qa (Qh (Qe (Qk [2,1,3,6,7,38] Qa (QL Qa (Qg (Qb (Qd Qa Qa (Qc Qa Qa (Qh (Qe (Qo (Qm (Q7 (.inr Qa) Qa Qa (⟨_,Qa,Qa,hS2.pick [1] Qa⟩))))))))))))))))))))))))))
 refine Qj Qa Qa (Qv h3) (Qd Qa Qa (Qj Qa Qa (Qv h3) (We Qa Qa Qa (Qz Qa (Qv h3) Qa Qa (Qd Qa Qa (Q3 29 Qa (fun h4=> ?_) (fun h4=> ?_)))))))
 ·exact Qf Qa Qa (Q8 h4) Qa (Qf Qa Qa (Q8 h4) Qa (Qf Qa Qa (Q8 h4) Qa (Qx Qa (Q8 h4) Qa Qa (Qd Qa Qa (Qf Qa Qa Qa Qa (Qf Qa Qa Qa Qa (Qf Qa Qa Qa Qa (Qx Qa Qa Qa Qa (Qh (Qe (Qk [2,1,3,6,7,38] Qa (QL Qa (Qg (Qb (Qd Qa Qa (Qc Qa Qa (Qh (Qe (Qo (Qm (Q7 (.inr Qa) Qa Qa (⟨_,Qa,Qa,hS2.pick [1] Qa⟩))))))))))))))))))))))
 refine Qj Qa Qa (Qv h4) (Qd Qa Qa (Qj Qa Qa (Qv h4) (Q4 cal_8 Qa (lfew_sp (hS2.sp [] Qa) (hP.starL 1 Qa) 40) Qa ?_)))
 rintro _ w5 ⟨rfl,hS5⟩
 replace hS5:=hS5.jn Qa Qa
 refine Qj Qa Qa (Qv h4) (XS Qa Qa (Qz Qa (Qv h4) Qa Qa (Qd Qa Qa (Zz 34 Qa (fun h6=> ?_) (fun h6=> ?_)))))
 ·exact Qf Qa Qa h6 Qa (Qf Qa Qa h6 Qa (Qf Qa Qa h6 Qa (Qx Qa h6 Qa Qa (Qh (Qe (Qk [2,1,3,6,7,38] Qa (QL Qa (Qg (Qb (Qd Qa Qa (Qc Qa Qa (Qh (Qe (Qo (Qm (Q7 (.inr Qa) Qa Qa (⟨_,Qa,Qa,hS5.pick [1] Qa⟩)))))))))))))))))
 have hfw0:Se l 40=true:= by simpa using h6
 refine Qj Qa Qa h6 (Zg Qa JF Wc (by first | exact hS5.blk 0 Qa) (Xe Qa) Qa Qa ?_)
 refine Qj Qa Qa h6 (Q4 cal_9 Qa (ET (hS5.sp [] Qa) (hL.starL 1 Qa)) Qa ?_)
 rintro _ w7 ⟨rfl,hS7⟩
 replace hS7:=hS7.jn Qa Qa
 refine Qj Qa Qa h6 (XS Qa Qa (Qz Qa h6 Qa Qa (Qh (Qe (Qk [2,1,3,6,7,38] Qa (Xd Qa (fun h8=> ?_) (fun h8=> ?_)))))))
 ·exact Qg (Qb (Qd Qa Qa (Qc Qa Qa (Qh (Qe (Qo (Qm (Q7 (.inr Qa) Qa Qa (⟨_,Qa,Qa,hS7.pick [1] Qa⟩)))))))))
 have hfw:=fewB_of hfw0
 have hrl:Kn ⟨t,sl⟩=true:= by simpa using h8
 have hri:Zi ⟨t,sl⟩=true:= by unfold Kn at hrl; simp only[Bool.and_eq_true]at hrl; exact hrl.1.1
 have hst9:(⟨t,sl⟩:SsD).state.length≤900:= by unfold Kn at hrl; simp only[Bool.and_eq_true,decide_eq_true_eq]at hrl; exact hrl.1.2
 have hn30:(⟨t,sl⟩:SsD).sheets.length≤30:= by unfold Kn at hrl; simp only[Bool.and_eq_true,decide_eq_true_eq]at hrl; exact hrl.2
 have hbg:=FQ hri hst9 hn30
 refine Qr (Qe (Qg (Qb ?_)))
 refine Zg Qa JF Wc (by first | exact hS7.blk 0 Qa) (by first | decide | exact Xe Qa | (simp;done) | omega) Qa Qa ?_
 refine Q4 cal_10 Qa (Ab (hS7.sp [] Qa) (hG.starL 1 Qa) (hO.starL 1 Qa) (hL.starL 1 Qa)) Qa ?_
 rintro _ w9 ⟨x0,tq,rfl,hS9⟩
 replace hS9:=hS9.jn Qa Qa
 refine Qc Qa Qa (Qh (Qe (Qg (Qg (Qb (Qd Qa Qa (ZJ underlying29 Qa Qa Qa (Qh (Qe (Qk [2,1,3,6,7,8,43] Qa (QF Qa (Qr (Qe (Qg (Qg (Qb (Qc Qa Qa (Qh (Qe (QD ?_))))))))))))))))))))
 refine XD (fun K0 E0 W0=> ∃(f:Nat) (X:TwD) (g:SsD) (sv:Value) (G:Th),K0=2 -f∧E0=[(1,intV rn),(2,.slice ao l.length cap),(3,ptrV bp 0),(7,.bool true),(8,ptrV x0 0),(9,intV (f:Int))]∧Sat W0 [Ka x0 X,QR bp [strV g.state,sv],G]∧(f≤2)∧(GV X g (100*(f:Int)+1))∧(Rest X (decide (f=1)))∧(Ent G WireG)∧(Ent G (Glob 0))∧(Ent G (OpsRd (.slice ao l.length cap) l))∧(Ent G (RdL shC sv g.sheets))∧(∀w,Sat w [G]→Sat w [F])) (L0:=[(1,_),(2,_),(3,_),(7,_),(8,_),(9,_)]) (2 -0) (Dc Qa Qa Qa Qa Qa Qa) ⟨0,_,⟨t,sl⟩,sv,F,rfl,rfl,hS9.pick [0,1,2] Qa, by omega,hbg.1,hbg.2,hG,hO,hP,hL, fun _ q=>q⟩ ?_
 rintro _ _ w10 ⟨f,X,g,sv,G,rfl,rfl,hS10,hf,hV,hRs,hG,hO,hP,hL,hF⟩
 refine Qg (Qg (Qb (Qd Qa Qa (Xz Qa Qa Qa (Qh (Qe (Qw Qa (fun h11=> ?_) (fun h11=> ?_))))))))
 ·have hf2:f<2:= by have q9:=h11;omega
  obtain⟨i,hi⟩: ∃i,i=decide (f=1):=⟨_,rfl⟩
  rw[←hi]at hRs
  have hfi:(f:Int)= if i=true then 1 else 0:= by subst hi; rcases(by omega:f=0∨f=1)with rfl | rfl<;>rfl
  have hmI:Xy ((Q6 X i).move+1):=hV.mvI i
  obtain⟨hg1,hV1,hA1⟩:=hRs.toA hV (by omega)
  refine Qr (Qe (Qg (QD (Qg ?_))))
  obtain⟨eb,ecap,hq0,hS12⟩:=Cv i (hS10.pick [0,1,2] rfl)
  refine Qb (Qd Qa Qa (Ql Qa Qa (Qi Qa WI Qa (Qp Qa Hr (hS12.cell 0 Qa Qa) Qa (Qd Qa Qa (ZP Rz 1 f hS12 Qa Qa Qa (by rfl) (qa2 hf2 hi) Hn Qa ?_))))))
  intro bx13 capx13 hvx13
  refine ZW 1 f 0 hS12 Qa hvx13 Qa Qa (qa2 hf2 hi) Yv Qa Qa (Qc Qa Qa (Qh (Qe (Qk [9,8,7,3,2,1,10] Qa (Qg (Qb (Qd Qa Qa (Ql Qa Qa (Qi Qa WI Qa (Qp Qa Hr (hS12.cell 0 Qa Qa) Qa (Qd Qa Qa (JN Qa Qa (by omega) (by omega) Qa ?_))))))))))))
  refine ZP Rz 1 (1 -f) hS12 Qa Qa Qa (by omega) (qa1 hf2 hi) Hn Qa ?_
  intro bx14 capx14 hvx14
  refine ZW 1 (1 -f) 0 hS12 Qa hvx14 Qa Qa (qa1 hf2 hi) Yv Qa Qa (Qc Qa Qa (Qh (Qe (Qk [9,8,7,3,2,1,10,11] Qa (Qg (Qg (Qb (Qd Qa Qa (Q4 qah Qa (LE (hS12.sp [2] Qa) (hG.starL 5 Qa) (hO.starL 5 Qa) (hV.w.at_ i).ses hmI) Qa ?_)))))))))
  rintro _ w15 ⟨rfl,hS15⟩
  replace hS15:=hS15.jn Qa Qa
  refine Xt Qa Qa Qa (Qh (Qe (Qw Qa (fun h16=> ?_) (fun h16=> ?_))))
  ·exact absurd hg1 h16
  refine Qr (Qe (Qk [9,8,7,3,2,1,10,11] Qa (Qg (Qg ?_))))
  have hS17:=Cu (X:=X) (E:=(Wi (Q6 X i)).2) i (hS15.pick [1,2,0,3,4,5,6] Qa) (by assumption)
  generalize Z2 X i (Wi (Q6 X i)).2=X1 at *
  refine Qb (Qc Qa Qa (Qh (Qe (QD ?_))))
  refine XD (fun K0 E0 W0=> ∃(k:Nat) (Y:TwD),K0=rn.toNat -k∧E0=[(1,intV rn),(2,.slice ao l.length cap),(3,ptrV bp 0),(7,.bool true),(8,ptrV x0 0),(9,intV (f:Int)),(10,ptrV (UQ i) 0),(11,ptrV (UQ (!i)) 0),(12,intV (k:Int))]∧Sat W0 [Ka x0 Y,QR bp [strV g.state,sv],G]∧((k:Int)≤rn)∧(GV Y g (100*(f:Int)+1+1))∧(PhA Y i)) (L0:=[(1,_),(2,_),(3,_),(7,_),(8,_),(9,_),(10,_),(11,_),(12,_)]) (rn.toNat -0) (SB Qa Qa Qa Qa Qa Qa Qa Qa Qa) ⟨0,X1,rfl,rfl,hS17.pick [0,1,2] Qa, by omega,hV1,hA1⟩ ?_
  rintro _ _ w18 ⟨k,Y,rfl,rfl,hS18,hk,hVY,hAY⟩
  refine Qg (Qg (Qb (Qd Qa Qa (Qd Qa Qa (Xz Qa Qa Qa (Qh (Qe (Qw Qa (fun h19=> ?_) (fun h19=> ?_)))))))))
  ·refine Qr (Qe (Qk [12,11,10,9,8,7,3,2,1] Qa (Qg (QD (Qb (Qd Qa Qa (Q4 FN Qa (My (hS18.sp [0] Qa) (hG.starL 1 Qa) (hO.starL 1 Qa) hVY.w) Qa ?_)))))))
   rintro _ w20 ⟨rfl,hS20⟩
   replace hS20:=hS20.jn Qa Qa
   refine Qh (Qq (Qe (Qb (Qd Qa Qa (Xq Qa Qa (by omega) (by omega) Qa ?_)))))
   refine Qc Qa Qa (Qh ?_)
   exact QY (L1:=[(1,_),(2,_),(3,_),(7,_),(8,_),(9,_),(10,_),(11,_),(12,intV ((k+1:Nat):Int))]) (SB Qa Qa Qa Qa Qa Qa Qa Qa Qa) (k1:=rn.toNat -(k+1)) (by omega) ⟨k+1,_,rfl,rfl,hS20.pick [0,1,2] Qa, by omega,hVY.flow,hAY.flow hVY⟩
  refine Xu (Q1 (Q1 (QJ (Qe (Qk [11,10,9,8,7,3,2,1] Qa (Qg (Qg (Qb (Qc Qa Qa (Qh (Qe (QD ?_))))))))))))
  refine XD (fun K0 E0 W0=> ∃(q:Nat) (Y2:TwD) (g2:SsD) (sv2:Value) (G2:Th),K0=l.length -q∧E0=[(1,intV rn),(2,.slice ao l.length cap),(3,ptrV bp 0),(7,.bool true),(8,ptrV x0 0),(9,intV (f:Int)),(10,ptrV (UQ i) 0),(11,ptrV (UQ (!i)) 0),(13,intV (q:Int))]∧Sat W0 [Ka x0 Y2,QR bp [strV g2.state,sv2],G2]∧(q≤l.length)∧(GV Y2 g2 (100*(f:Int)+2+(q:Int)))∧(PhA Y2 i)∧(Ent G2 WireG)∧(Ent G2 (Glob 0))∧(Ent G2 (OpsRd (.slice ao l.length cap) l))∧(Ent G2 (RdL shC sv2 g2.sheets))∧(∀w,Sat w [G2]→Sat w [F])) (L0:=[(1,_),(2,_),(3,_),(7,_),(8,_),(9,_),(10,_),(11,_),(13,_)]) (l.length -0) (SB Qa Qa Qa Qa Qa Qa Qa Qa Qa) ⟨0,Y,g,sv,G,rfl,rfl,hS18.pick [0,1,2] Qa, by omega,hVY.wide (by omega),hAY,hG,hO,hP,hL,hF⟩ ?_
  rintro _ _ w21 ⟨q,Y2,g2,sv2,G2,rfl,rfl,hS21,hq,hV2,hA2,hG2,hO2,hP2,hL2,hF2⟩
  refine Qg (Qg (Qb (Qd Qa Qa (Qd Qa Qa (Xj underlying25 Qa Qa (Xz Qa Qa Qa (Qh (Qe (Qk [13,11,10,9,8,7,3,2,1,76] Qa (Qw Qa (fun h22=> ?_) (fun h22=> ?_)))))))))))
  ·obtain⟨x,hx⟩: ∃x,l[q]? =some x:=⟨_,WU (by omega)⟩
   obtain⟨⟨ob9,off,rfl,hc⟩,hrd⟩:=(hP2.sat hS21 2 rfl).get hx
   have hxm:=List.mem_of_getElem? hx
   have hox:=hfw.1 x hxm
   have MY:=hR x hxm
   unfold Xy at MY
   have hone:ZV (opV x)=true:= by obtain⟨a9,c9,e9,_⟩:=hrd;unfold opV; rw[e9];rfl
   refine Qr (Qe (Qg (QD (Qg (Qb (Qd Qa Qa (Qd Qa Qa (XG q Qa Qa (by first | rfl | omega) (by omega) LM Qa ?_))))))))
   refine Qi Qa Rg Qa (Qp Qa QK (hc 0 _ Qa) Qa (V6 5 Qa Qa Qa Qa (q:=32) Qa Qa (Qc Qa Qa (Qh (Qe (Qk [13,11,10,9,8,7,3,2,1,14] Qa (Qg (Qb (Qd Qa Qa (Qd Qa Qa (XG q Qa Qa (by first | rfl | omega) (by omega) LM Qa ?_)))))))))))
   refine YO Qa S5 T4 (vs:=opV x) hc Qa (Xk hS21 zr_35 Qa Qa ?_)
   intro bo w23 hS230
   have hS23:Sat w23 (QR bo [intV 0,intV 0,intV 0,.int .u8 0,strV [],.slice none 0 0]::_):=hS230
   (refine QX hS23 Qa Qa T4 Qa (by assumption) (i:=0) Qa (by decide) ?_)
   intro w24 hS25; dsimp only[List.set]at hS25
   refine Qh (Qe (Qk [13,11,10,9,8,7,3,2,1,14,15] Qa (Qg (Qb (Qd Qa Qa (Qi Qa Na Qa ?_))))))
   (refine QC hS25 Qa Qa YH (by rfl) (i:=0) Qa (Xe Qa) ?_)
   intro w26 hS27; dsimp only[List.set]at hS27
   refine Qh (Qe (Qg ?_))
   have hS28:Sat _ (QR bo [intV x.o.dO,intV (f:Int),intV x.o.id,.int .u8 (x.o.b.toNat:Int),strV x.o.s,x.kv]::_):=hS27.pick [0,1,2,3] Qa
   refine Qb (Qd Qa Qa (Jj Qa Qa Qa (Qd Qa Qa (Q3 93 Qa (fun h29=> ?_) (fun h29=> ?_)))))
   ·refine Qj Qa Qa (Q8 h29) (Qd Qa Qa (Qj Qa Qa (Q8 h29) (W7 Qa Qa Qa (Qx Qa (Q8 h29) Qa Qa (Qd Qa Qa (Q3 97 Qa (fun h30=> ?_) (fun h30=> ?_)))))))
    ·refine Qj Qa Qa (Q8 h30) (Qd Qa Qa (Qj Qa Qa (Q8 h30) (QO Qa Qa Qa (Qj Qa Qa (Q8 h30) (Qd Qa Qa (Q3 100 Qa (fun h31=> ?_) (fun h31=> ?_)))))))
     ·refine Qf Qa Qa (Q8 h31) Qa (Qf Qa Qa (Q8 h31) Qa (Qf Qa Qa (Q8 h31) Qa (Qf Qa Qa (Q8 h31) Qa (Q5 Qa Qa Qa (Q5 Qa Qa Qa (Q5 Qa Qa Qa (Qf Qa Qa (Q8 h31) Qa (Qj Qa Qa (Q8 h30) (Qx Qa (Q8 h31) Qa Qa (Qx Qa (Q8 h30) Qa Qa (Qd Qa Qa (Qj Qa Qa Qa (Qd Qa Qa (Qj Qa Qa Qa (Zg Qa S5 T4 (hS28.blk 0 Qa) (Xe Qa) Qa Qa (Qj Qa Qa Qa ?_))))))))))))))))
      refine Q4 qao Qa (Px (hS28.sp [1] Qa) hV2.w (o:={x.o with n:=(f:Int)}) (kv:=x.kv) (i:=i) (by show 17≤x.o.dO%32∧x.o.dO%32≤20;omega) hfi) Qa ?_
      rintro _ w32 ⟨rfl,hS32⟩
      replace hS32:=hS32.jn Qa Qa
      generalize ho:({x.o with n:=(f:Int)}:OpD)=o at *
      have ho1:o.dO=x.o.dO:= by rw[←ho]
      have ho2:o.s=x.o.s:= by rw[←ho]
      have ho3:o.id=x.o.id:= by rw[←ho]
      have hV4:GV (chgT Y2 i o).2 (JY (chgT Y2 i o).1 g2 o) (100*(f:Int)+2+(q:Int)+1):=hV2.chg (by omega) (by rw[ho1];omega) (by rw[ho2]; exact hox.1) (by rw[ho1,ho3];omega)
      have hA4:PhA (chgT Y2 i o).2 i:=hA2.chg
      refine Qj Qa Qa Qa (QO Qa Qa Qa (Qx Qa Qa Qa Qa (Qh (Qe (Qk [13,11,10,9,8,7,3,2,1,15,116] Qa (Qw Qa (fun h33=> ?_) (fun h33=> ?_)))))))
      ·have hkg:JY (chgT Y2 i o).1 g2 o=YM g2 o:= by unfold JY; rw[if_pos ⟨by assumption, by omega, by omega⟩]
       refine Qb (Zg Qa JF Wc (hS32.blk 2 Qa) (Xe Qa) Qa Qa (Zg Qa S5 T4 (hS32.blk 1 Qa) (Xe Qa) Qa Qa ?_))
       refine Q4 qaj Qa (L3 (hS32.sp [] Qa) (hL2.starL 3 Qa) (by have q8:=hV2.len;omega) (o:={x.o with n:=(f:Int)}) (kv:=x.kv) (Ent.starL (RdX.elem hP2 hx) 3 Qa)) Qa ?_
       rintro _ w34 ⟨sv4,rfl,hS34⟩
       replace hS34:=hS34.jn Qa Qa
       rw[ho]at hS34
       rw[ho]
       have h4:=hS34.own_one 0 Qa
       have hones: ∀v:Value,v.oneCell'=true→ZV [strV (YM g2 o).state,v]=true:= by intro v q1; simp [ZV,Value.oneCell']at q1⊢; exact q1
       have hone2:=hones _ h4
       (refine QX hS34 Qa Qa Wc Qa (by assumption) (i:=3) Qa (Xe Qa) ?_)
       intro w35 hS36; dsimp only[List.set]at hS36
       refine Qh (Qq (Qe (Qk [13,11,10,9,8,7,3,2,1] Qa (Qb (Qd Qa Qa (Xq Qa Qa (by omega) (by omega) Qa ?_))))))
       refine Qc Qa Qa (Qh ?_)
       have hz:Sat _ [rowT shC sv4 (YM g2 o).sheets,G2,Ka x0 (chgT Y2 i o).2,QR bp [strV (YM g2 o).state,sv4]]:=hS36.pick [0,4,1,3] Qa
       have hlc:(YM g2 o).sheets.length≤100:= by have q9:=St (g:=g2) (o:=o); have q8:=hV2.len;omega
       exact QY (L1:=[(1,_),(2,_),(3,_),(7,_),(8,_),(9,_),(10,_),(11,_),(13,intV ((q+1:Nat):Int))]) (SB Qa Qa Qa Qa Qa Qa Qa Qa Qa) (k1:=l.length -(q+1)) (by omega) ⟨q+1,_,_,_,starL [rowT shC sv4 (YM g2 o).sheets,G2],rfl,rfl,((Sat.fold (As:=[rowT shC sv4 (YM g2 o).sheets,G2]) hz).pick [1,2,0] Qa), by omega,(by rw[←hkg]; exact hV4.wide (by omega)),hA4,hG2.starL 1 Qa,hO2.starL 1 Qa,hP2.starL 1 Qa,Ent.starL (VJ (C:=shC) (l:=(YM g2 o).sheets) (by omega)) 0 Qa, fun w q=>hF2 w (q.flat.pick [1] Qa)⟩
      have hkg:JY (chgT Y2 i o).1 g2 o=g2:= by unfold JY; rw[if_neg (by rintro⟨q1,q2⟩; exact absurd q1 (by assumption))]
      refine Qr (Qq (Qe (Qb (Qd Qa Qa (Xq Qa Qa (by omega) (by omega) Qa ?_)))))
      refine Qc Qa Qa (Qh ?_)
      exact QY (L1:=[(1,_),(2,_),(3,_),(7,_),(8,_),(9,_),(10,_),(11,_),(13,intV ((q+1:Nat):Int))]) (SB Qa Qa Qa Qa Qa Qa Qa Qa Qa) (k1:=l.length -(q+1)) (by omega) ⟨q+1,_,_,_,_,rfl,rfl,hS32.pick [0,2,3] Qa, by omega,(by rw[←hkg]; exact hV4.wide (by omega)),hA4,hG2,hO2,hP2,hL2,hF2⟩
     refine Qj Qa Qa (Qv h31) (Qi Qa YF Qa (Qj Qa Qa (Qv h31) (Qp Qa QK (hS28.cell 0 Qa Qa) Qa (Qj Qa Qa (Qv h31) (Jj Qa Qa Qa (Qj Qa Qa (Qv h31) (Qd Qa Qa (Q3 104 Qa (fun h37=> ?_) (fun h37=> ?_)))))))))
     ·refine Qj Qa Qa (Q8 h37) (Qi Qa YF Qa (Qj Qa Qa (Q8 h37) (Qp Qa QK (hS28.cell 0 Qa Qa) Qa (Qj Qa Qa (Q8 h37) (W7 Qa Qa Qa (Qj Qa Qa (Qv h31) (Qx Qa (Q8 h37) Qa Qa (Qj Qa Qa (Q8 h30) (Qz Qa (Qv h31) Qa Qa (Qx Qa (Q8 h30) Qa Qa (Qd Qa Qa (Q3 111 Qa (fun h38=> ?_) (fun h38=> ?_)))))))))))))
      ·refine Qj Qa Qa (Q8 h38) (Qd Qa Qa (Qj Qa Qa (Q8 h38) (Zg Qa S5 T4 (hS28.blk 0 Qa) (Xe Qa) Qa Qa (Qj Qa Qa (Q8 h38) ?_))))
       refine Q4 qao Qa (Px (hS28.sp [1] Qa) hV2.w (o:={x.o with n:=(f:Int)}) (kv:=x.kv) (i:=i) (by show 17≤x.o.dO%32∧x.o.dO%32≤20;omega) hfi) Qa ?_
       rintro _ w39 ⟨rfl,hS39⟩
       replace hS39:=hS39.jn Qa Qa
       generalize ho:({x.o with n:=(f:Int)}:OpD)=o at *
       have ho1:o.dO=x.o.dO:= by rw[←ho]
       have ho2:o.s=x.o.s:= by rw[←ho]
       have ho3:o.id=x.o.id:= by rw[←ho]
       have hV4:GV (chgT Y2 i o).2 (JY (chgT Y2 i o).1 g2 o) (100*(f:Int)+2+(q:Int)+1):=hV2.chg (by omega) (by rw[ho1];omega) (by rw[ho2]; exact hox.1) (by rw[ho1,ho3];omega)
       have hA4:PhA (chgT Y2 i o).2 i:=hA2.chg
       refine Qj Qa Qa (Q8 h38) (QO Qa Qa Qa (Qx Qa (Q8 h38) Qa Qa (Qh (Qe (Qk [13,11,10,9,8,7,3,2,1,15,116] Qa (Qw Qa (fun h40=> ?_) (fun h40=> ?_)))))))
       ·have hkg:JY (chgT Y2 i o).1 g2 o=YM g2 o:= by unfold JY; rw[if_pos ⟨by assumption, by omega, by omega⟩]
        refine Qb (Zg Qa JF Wc (hS39.blk 2 Qa) (Xe Qa) Qa Qa (Zg Qa S5 T4 (hS39.blk 1 Qa) (Xe Qa) Qa Qa ?_))
        refine Q4 qaj Qa (L3 (hS39.sp [] Qa) (hL2.starL 3 Qa) (by have q8:=hV2.len;omega) (o:={x.o with n:=(f:Int)}) (kv:=x.kv) (Ent.starL (RdX.elem hP2 hx) 3 Qa)) Qa ?_
        rintro _ w41 ⟨sv4,rfl,hS41⟩
        replace hS41:=hS41.jn Qa Qa
        rw[ho]at hS41
        rw[ho]
        have h4:=hS41.own_one 0 Qa
        have hones: ∀v:Value,v.oneCell'=true→ZV [strV (YM g2 o).state,v]=true:= by intro v q1; simp [ZV,Value.oneCell']at q1⊢; exact q1
        have hone2:=hones _ h4
        (refine QX hS41 Qa Qa Wc Qa (by assumption) (i:=3) Qa (Xe Qa) ?_)
        intro w42 hS43; dsimp only[List.set]at hS43
        refine Qh (Qq (Qe (Qk [13,11,10,9,8,7,3,2,1] Qa (Qb (Qd Qa Qa (Xq Qa Qa (by omega) (by omega) Qa ?_))))))
        refine Qc Qa Qa (Qh ?_)
        have hz:Sat _ [rowT shC sv4 (YM g2 o).sheets,G2,Ka x0 (chgT Y2 i o).2,QR bp [strV (YM g2 o).state,sv4]]:=hS43.pick [0,4,1,3] Qa
        have hlc:(YM g2 o).sheets.length≤100:= by have q9:=St (g:=g2) (o:=o); have q8:=hV2.len;omega
        exact QY (L1:=[(1,_),(2,_),(3,_),(7,_),(8,_),(9,_),(10,_),(11,_),(13,intV ((q+1:Nat):Int))]) (SB Qa Qa Qa Qa Qa Qa Qa Qa Qa) (k1:=l.length -(q+1)) (by omega) ⟨q+1,_,_,_,starL [rowT shC sv4 (YM g2 o).sheets,G2],rfl,rfl,((Sat.fold (As:=[rowT shC sv4 (YM g2 o).sheets,G2]) hz).pick [1,2,0] Qa), by omega,(by rw[←hkg]; exact hV4.wide (by omega)),hA4,hG2.starL 1 Qa,hO2.starL 1 Qa,hP2.starL 1 Qa,Ent.starL (VJ (C:=shC) (l:=(YM g2 o).sheets) (by omega)) 0 Qa, fun w q=>hF2 w (q.flat.pick [1] Qa)⟩
       have hkg:JY (chgT Y2 i o).1 g2 o=g2:= by unfold JY; rw[if_neg (by rintro⟨q1,q2⟩; exact absurd q1 (by assumption))]
       refine Qr (Qq (Qe (Qb (Qd Qa Qa (Xq Qa Qa (by omega) (by omega) Qa ?_)))))
       refine Qc Qa Qa (Qh ?_)
       exact QY (L1:=[(1,_),(2,_),(3,_),(7,_),(8,_),(9,_),(10,_),(11,_),(13,intV ((q+1:Nat):Int))]) (SB Qa Qa Qa Qa Qa Qa Qa Qa Qa) (k1:=l.length -(q+1)) (by omega) ⟨q+1,_,_,_,_,rfl,rfl,hS39.pick [0,2,3] Qa, by omega,(by rw[←hkg]; exact hV4.wide (by omega)),hA4,hG2,hO2,hP2,hL2,hF2⟩
      refine Qf Qa Qa (Qv h38) Qa (Qf Qa Qa (Qv h38) Qa (Qf Qa Qa (Qv h38) Qa (Qf Qa Qa (Qv h38) Qa (Qz Qa (Qv h38) Qa Qa (Qh (Qe (Qk [13,11,10,9,8,7,3,2,1,15,116] Qa (QF Qa (Qr (Qq (Qe (Qb (Qd Qa Qa (Xq Qa Qa (by omega) (by omega) Qa ?_))))))))))))))
      exact Qc Qa Qa (Qh (QY (L1:=[(1,_),(2,_),(3,_),(7,_),(8,_),(9,_),(10,_),(11,_),(13,intV ((q+1:Nat):Int))]) (SB Qa Qa Qa Qa Qa Qa Qa Qa Qa) (k1:=l.length -(q+1)) (by omega) ⟨q+1,_,_,_,_,rfl,rfl,hS28.pick [1,2,3] Qa, by omega,hV2.wide (by omega),hA2,hG2,hO2,hP2,hL2,hF2⟩))
     refine Qf Qa Qa (Qv h37) Qa (Qf Qa Qa (Qv h37) Qa (Qf Qa Qa (Qv h37) Qa (Qj Qa Qa (Qv h31) (Qz Qa (Qv h37) Qa Qa (Qj Qa Qa (Q8 h30) (Qz Qa (Qv h31) Qa Qa (Qx Qa (Q8 h30) Qa Qa (Qd Qa Qa (Qf Qa Qa Qa Qa (Qf Qa Qa Qa Qa (Qf Qa Qa Qa Qa (Qf Qa Qa Qa Qa (Qz Qa Qa Qa Qa (Qh (Qe (Qk [13,11,10,9,8,7,3,2,1,15,116] Qa (QF Qa (Qr (Qq (Qe (Qb (Qd Qa Qa (Xq Qa Qa (by omega) (by omega) Qa ?_)))))))))))))))))))))))
     exact Qc Qa Qa (Qh (QY (L1:=[(1,_),(2,_),(3,_),(7,_),(8,_),(9,_),(10,_),(11,_),(13,intV ((q+1:Nat):Int))]) (SB Qa Qa Qa Qa Qa Qa Qa Qa Qa) (k1:=l.length -(q+1)) (by omega) ⟨q+1,_,_,_,_,rfl,rfl,hS28.pick [1,2,3] Qa, by omega,hV2.wide (by omega),hA2,hG2,hO2,hP2,hL2,hF2⟩))
    refine Qf Qa Qa (Qv h30) Qa (Qf Qa Qa (Qv h30) Qa (Qf Qa Qa (Qv h30) Qa (Q5 Qa Qa Qa (Q5 Qa Qa Qa (Q5 Qa Qa Qa (Q5 Qa Qa Qa (Q5 Qa Qa Qa (Q5 Qa Qa Qa (Q5 Qa Qa Qa (Q5 Qa Qa Qa (Qf Qa Qa (Qv h30) Qa (Qz Qa (Qv h30) Qa Qa (Qd Qa Qa (Qf Qa Qa Qa Qa (Qf Qa Qa Qa Qa (Qf Qa Qa Qa Qa (Qf Qa Qa Qa Qa (Qz Qa Qa Qa Qa (Qh (Qe (Qk [13,11,10,9,8,7,3,2,1,15,116] Qa (QF Qa (Qr (Qq (Qe (Qb (Qd Qa Qa (Xq Qa Qa (by omega) (by omega) Qa ?_))))))))))))))))))))))))))))
    exact Qc Qa Qa (Qh (QY (L1:=[(1,_),(2,_),(3,_),(7,_),(8,_),(9,_),(10,_),(11,_),(13,intV ((q+1:Nat):Int))]) (SB Qa Qa Qa Qa Qa Qa Qa Qa Qa) (k1:=l.length -(q+1)) (by omega) ⟨q+1,_,_,_,_,rfl,rfl,hS28.pick [1,2,3] Qa, by omega,hV2.wide (by omega),hA2,hG2,hO2,hP2,hL2,hF2⟩))
   refine Qf Qa Qa (Qv h29) Qa (Qf Qa Qa (Qv h29) Qa (Qz Qa (Qv h29) Qa Qa (Qd Qa Qa (Qf Qa Qa Qa Qa (Qf Qa Qa Qa Qa (Qf Qa Qa Qa Qa (Q5 Qa Qa Qa (Q5 Qa Qa Qa (Q5 Qa Qa Qa (Q5 Qa Qa Qa (Q5 Qa Qa Qa (Q5 Qa Qa Qa (Q5 Qa Qa Qa (Q5 Qa Qa Qa (Qf Qa Qa Qa Qa (Qz Qa Qa Qa Qa (Qd Qa Qa (Qf Qa Qa Qa Qa (Qf Qa Qa Qa Qa (Qf Qa Qa Qa Qa (Qf Qa Qa Qa Qa (Qz Qa Qa Qa Qa (Qh (Qe (Qk [13,11,10,9,8,7,3,2,1,15,116] Qa (QF Qa (Qr (Qq (Qe (Qb (Qd Qa Qa (Xq Qa Qa (by omega) (by omega) Qa ?_))))))))))))))))))))))))))))))))
   exact Qc Qa Qa (Qh (QY (L1:=[(1,_),(2,_),(3,_),(7,_),(8,_),(9,_),(10,_),(11,_),(13,intV ((q+1:Nat):Int))]) (SB Qa Qa Qa Qa Qa Qa Qa Qa Qa) (k1:=l.length -(q+1)) (by omega) ⟨q+1,_,_,_,_,rfl,rfl,hS28.pick [1,2,3] Qa, by omega,hV2.wide (by omega),hA2,hG2,hO2,hP2,hL2,hF2⟩))
  refine Xu (Q1 (Q1 (QJ (Qe (Qg (Qg ?_))))))
  obtain⟨hz1,hV3,hB⟩:=hA2.toB hV2 (by omega)
  obtain⟨eb,ecap,hq0,hS44⟩:=Cv i (hS21.pick [0,1,2] rfl)
  refine Qb (Qd Qa Qa (Q4 qag Qa (TY (hS44.sp [2] Qa)) Qa ?_))
  rintro _ w45 ⟨rfl,hS45⟩
  replace hS45:=hS45.jn Qa Qa
  refine Xt Qa Qa Qa (Qh (Qe (Qk [11,10,9,8,7,3,2,1,122] Qa (Qw Qa (fun h46=> ?_) (fun h46=> ?_)))))
  ·exact absurd hz1 h46
  refine Qr (Qe (Qg (Qg ?_)))
  have hS47:=Cu (X:=Y2) (E:=(Zb (Q6 Y2 i)).2) i (hS45.pick [1,2,0,3,4,5,6] Qa) (by assumption)
  generalize Z2 Y2 i (Zb (Q6 Y2 i)).2=X2 at *
  refine Qb (Qc Qa Qa (Qh (Qe (QD ?_))))
  refine XD (fun K0 E0 W0=> ∃(k:Nat),K0=1 -k∧E0=[(1,intV rn),(2,.slice ao l.length cap),(3,ptrV bp 0),(7,.bool true),(8,ptrV x0 0),(9,intV (f:Int)),(10,ptrV (UQ i) 0),(11,ptrV (UQ (!i)) 0),(16,intV (k:Int))]∧Sat W0 [Ka x0 (flowN k X2),QR bp [strV g2.state,sv2],G2]∧(k≤1)) (L0:=[(1,_),(2,_),(3,_),(7,_),(8,_),(9,_),(10,_),(11,_),(16,_)]) (1 -0) (SB Qa Qa Qa Qa Qa Qa Qa Qa Qa) ⟨0,rfl,rfl,hS47.pick [0,1,2] Qa, by omega⟩ ?_
  rintro _ _ w48 ⟨k,rfl,rfl,hS48,hk⟩
  have hVk:=hV3.flowN k
  have hrk:=hB.runsK hV3 hk
  refine Qg (Qg (Qb (Qd Qa Qa (Xz Qa Qa Qa (Qd Qa Qa (Q3 125 Qa (fun h49=> ?_) (fun h49=> ?_)))))))
  ·refine Qj Qa Qa (Q8 h49) ?_
   obtain⟨eb,ecap,hq0,hS50⟩:=Cv i (hS48.pick [0,1,2] rfl)
   refine Qd Qa Qa (Qj Qa Qa (Q8 h49) (Q4 Vb Qa (HA (hS50.sp [3] Qa)) Qa ?_))
   rintro _ w51 ⟨rfl,hS51⟩
   replace hS51:=hS51.jn Qa Qa
   refine Qj Qa Qa (Q8 h49) (XS Qa Qa (Qx Qa (Q8 h49) Qa Qa (Qh (Qe (Qk [16,11,10,9,8,7,3,2,1,129] Qa (Xd Qa (fun h52=> ?_) (fun h52=> ?_)))))))
   ·have q8:Z5 (Q6 (flowN k X2) (!i))=false:= by simpa using h52
    rw[hrk]at q8
    have hk0:k=0:= by simp at q8;omega
    refine Qr (Qe (Qg (QD ?_)))
    have hS53:=DQ (X:=flowN k X2) i (hS51.pick [1,2,3,0,4,5,6] Qa) (by assumption)
    refine Qb (Qd Qa Qa (Q4 FN Qa (My (hS53.sp [0] Qa) (hG2.starL 1 Qa) (hO2.starL 1 Qa) hVk.w) Qa ?_))
    rintro _ w54 ⟨rfl,hS54⟩
    replace hS54:=hS54.jn Qa Qa
    refine Qh (Qq (Qe (Qk [16,11,10,9,8,7,3,2,1] Qa (Qb (Qd Qa Qa (Xq Qa Qa (by omega) (by omega) Qa ?_))))))
    refine Qc Qa Qa (Qh ?_)
    exact QY (L1:=[(1,_),(2,_),(3,_),(7,_),(8,_),(9,_),(10,_),(11,_),(16,intV ((k+1:Nat):Int))]) (SB Qa Qa Qa Qa Qa Qa Qa Qa Qa) (k1:=1 -(k+1)) (by omega) ⟨k+1,rfl,rfl,hS54.pick [0,1,2] Qa, by omega⟩
   have q8:Z5 (Q6 (flowN k X2) (!i))=true:= by simpa using h52
   rw[hrk]at q8
   have hk1:k=1:= by simpa using q8
   refine Xu (Q1 (Q1 (QJ (Qe (Qg (Qg ?_))))))
   subst hk1
   have hV4:=hV3.flow
   have hC:PhC (Wj X2) i:=hB.flow hV3
   obtain⟨hr1,hr2,hr3⟩:=hC.runs hV4
   have hr3:Yy (Q6 (flowN 1 X2) (!i)) ⟨g2.state,g2.sheets⟩=true:=hr3
   refine Qb (Qd Qa Qa (Q4 Vb Qa (HA (hS51.sp [0] Qa)) Qa ?_))
   rintro _ w55 ⟨rfl,hS55⟩
   replace hS55:=hS55.jn Qa Qa
   rw[show Z5 (Q6 (flowN 1 X2) (!i))=true from hr1]
   refine XS Qa Qa (Qd Qa Qa (Zz 137 Qa (fun h56=> ?_) (fun h56=> ?_)))
   ·(exfalso; have q9:=h56; simp at q9)
   refine Qj Qa Qa h56 (Qd Qa Qa (Qj Qa Qa h56 (Q4 Vb Qa (HA (hS55.sp [3] Qa)) Qa ?_)))
   rintro _ w57 ⟨rfl,hS57⟩
   replace hS57:=hS57.jn Qa Qa
   rw[show Z5 (Q6 (flowN 1 X2) i)=false from hr2]
   refine Qz Qa h56 Qa Qa (Qd Qa Qa (Zz 141 Qa (fun h58=> ?_) (fun h58=> ?_)))
   ·(exfalso; have q9:=h58; simp at q9)
   refine Qj Qa Qa h58 (Qd Qa Qa (Qj Qa Qa h58 (Zg Qa JF Wc (hS57.blk 5 Qa) (Xe Qa) Qa Qa (Qj Qa Qa h58 (Q4 cal_26 Qa (Aa (hS57.sp [1] Qa) ((show XW (flowN 1 X2) from hV4.w).at_ (!i)).ses (hL2.starL 5 Qa)) Qa ?_)))))
   rintro _ w59 ⟨rfl,hS59⟩
   replace hS59:=hS59.jn Qa Qa
   rw[hr3]
   refine Qj Qa Qa h58 (XS Qa Qa (Qz Qa h58 Qa Qa (Qh (Qe (Qk [11,10,9,8,7,3,2,1,146] Qa (Xd Qa (fun h60=> ?_) (fun h60=> ?_)))))))
   ·(exfalso; have q9:=h60; simp at q9)
   refine Qr (Qe (Qg (Qg ?_)))
   have hS61:=DQ (X:=flowN 1 X2) i (hS59.pick [2,3,1,0,4,5,6] Qa) (by assumption)
   have hV6:=(show GV (flowN 1 X2) g2 _ from hV4)
   have hC6:PhC (flowN 1 X2) i:=hC
   generalize flowN 1 X2=X4 at *
   refine Qb (Qc Qa Qa (Qh (Qe (QD ?_))))
   refine XD (fun K0 E0 W0=> ∃(k:Nat),K0=20 -k∧E0=[(1,intV rn),(2,.slice ao l.length cap),(3,ptrV bp 0),(7,.bool true),(8,ptrV x0 0),(9,intV (f:Int)),(10,ptrV (UQ i) 0),(11,ptrV (UQ (!i)) 0),(17,intV (k:Int))]∧Sat W0 [Ka x0 (flowN k X4),QR bp [strV g2.state,sv2],G2]∧(k≤20)) (L0:=[(1,_),(2,_),(3,_),(7,_),(8,_),(9,_),(10,_),(11,_),(17,_)]) (20 -0) (SB Qa Qa Qa Qa Qa Qa Qa Qa Qa) ⟨0,rfl,rfl,hS61.pick [0,1,2] Qa, by omega⟩ ?_
   rintro _ _ w62 ⟨k,rfl,rfl,hS62,hk⟩
   have hVk:=hV6.flowN k
   refine Qg (Qg (Qb (Qd Qa Qa (Xz Qa Qa Qa (Qh (Qe (Qw Qa (fun h63=> ?_) (fun h63=> ?_))))))))
   ·refine Qr (Qe (Qg (QD (Qb (Qd Qa Qa (Q4 FN Qa (My (hS62.sp [0] Qa) (hG2.starL 1 Qa) (hO2.starL 1 Qa) hVk.w) Qa ?_))))))
    rintro _ w64 ⟨rfl,hS64⟩
    replace hS64:=hS64.jn Qa Qa
    refine Qh (Qq (Qe (Qk [17,11,10,9,8,7,3,2,1] Qa (Qb (Qd Qa Qa (Xq Qa Qa (by omega) (by omega) Qa ?_))))))
    refine Qc Qa Qa (Qh ?_)
    exact QY (L1:=[(1,_),(2,_),(3,_),(7,_),(8,_),(9,_),(10,_),(11,_),(17,intV ((k+1:Nat):Int))]) (SB Qa Qa Qa Qa Qa Qa Qa Qa Qa) (k1:=20 -(k+1)) (by omega) ⟨k+1,rfl,rfl,hS64.pick [0,1,2] Qa, by omega⟩
   refine Xu (Q1 (Q1 (QJ (Qe (Qk [11,10,9,8,7,3,2,1] Qa (Qg ?_))))))
   have hk20:k=20:= by omega
   subst hk20
   obtain⟨n,hZ⟩:=hC6.toD hV6
   have hV5:=hV6.flowN 20
   generalize flowN 20 X4=X5 at *
   obtain⟨⟨hs1,hs2⟩,hs3,hs4⟩:=hZ.ends hV5
   rw[←hfi]at hs4
   obtain⟨eb,ecap,hq0,hS65⟩:=Cv i (hS62.pick [0,1,2] rfl)
   refine Qb (Qd Qa Qa (Q4 qaf Qa (Si (hS65.sp [3] Qa) (hV5.w.at_ (!i)).ses) Qa ?_))
   rintro _ w66 ⟨sv8,rfl,hS66⟩
   replace hS66:=hS66.jn Qa Qa
   rw[hs1]
   refine Qd Qa Qa (Q9 Qa Qa Qa (Q9 Qa Qa Qa (Xk hS66 Kb Qa Qa ?_)))
   intro tb w67 hS670
   have hS67:Sat w67 (QR tb [strV [],.slice none 0 0]::_):=hS670
   have h4:=hS67.own_one 1 Qa
   have hones: ∀v:Value,v.oneCell'=true→ZV [strV (WA (Q6 X5 (!i))).1.state,v]=true:= by intro v q1; simp [ZV,Value.oneCell']at q1⊢; exact q1
   have hone2:=hones _ h4
   (refine QX hS67 Qa Qa Wc Qa (by assumption) (i:=0) Qa (by decide) ?_)
   intro w68 hS69; dsimp only[List.set]at hS69
   refine Qc Qa Qa (Qh (Qe (Qk [10,9,8,7,3,2,1,18,19] Qa (Qg (Qb (Qd Qa Qa (Q4 qal Qa (LL (hS69.sp [5] Qa)) Qa ?_)))))))
   rintro _ w70 ⟨rfl,hS70⟩
   replace hS70:=hS70.jn Qa Qa
   rw[hs3]
   refine Qd Qa Qa (Q9 Qa Qa Qa (Q9 Qa Qa Qa (Qc Qa Qa (Qc Qa Qa (Qh (Qe (Qk [9,8,7,3,2,1,18,19,21] Qa (Qg ?_))))))))
   have hS71:=DQ (X:=X5) i (hS70.pick [4,5,0,3,6,1,2,7,8] Qa) (by assumption)
   obtain⟨eb,ecap,a,b,p,hq0,hS72⟩:=JU (hS71.pick [0,1,2,3,4] rfl)
   have hS73:=hS72.drew
   refine QT [0,1,2,3,4,5,6,7,8,9,10,11,12,13,14,15,16,17,18,19,20,21,22,23,25,26,24,27,28] [8,24] Jk (by kernel_rfl) ?_
   refine QM Qa Qa Qa (QG Qa Qa Qa (fun _=>(K5 Qa)) ?_)
   refine QM Qa Qa Qa (Kg 165 Qa (fun h74=> ?_) (fun h74=> ?_))
   ·(exfalso; have q9:=h74; simp at q9)
   refine QG Qa Qa (Qt Qa Qa h74) (fun _=>(Ev.gd (XA Qa))) ?_
   refine QG Qa Qa Qa (fun _=>(X0 Qa h74 Qa)) ?_
   refine QM Qa Qa Qa (Kg 168 Qa (fun h75=> ?_) (fun h75=> ?_))
   ·(exfalso; have q9:=h75; simp at q9)
   refine QH Qa Qa (Qt Qa Qa h75) (Ev.gd (Jh Qa JF Wc (by first | exact hS73.blk 0 Qa | exact hS73.blk 5 Qa | exact hS73.blk 7 Qa) (by first | decide | exact Xe Qa | (simp;done) | omega) Qa)) ?_
   refine QH Qa Qa (Qt Qa Qa h75) (Ev.gd (Jh Qa JF Wc (hS73.blk 7 Qa) (Xe Qa) Qa)) (Xb Qa Qa (Qt Qa Qa h75) Qa Qa Qa ?_)
   refine Q4 qae Qa (Pv (hS73.sp [] Qa) (Ent.starL (VJ (C:=shC) (l:=(WA (Q6 X5 (!i))).1.sheets) (NW (hV5.w.at_ (!i)).ses)) 6 Qa) (hL2.starL 8 Qa)) Qa ?_
   rintro _ w76 ⟨rfl,hS76⟩
   replace hS76:=hS76.jn Qa Qa
   rw[hs2]
   refine Xn (XC (by kernel_rfl)) ?_
   refine QG Qa Qa (Qt Qa Qa h75) (fun _=>(Ev.gd (K5 Qa))) ?_
   refine QG Qa Qa Qa (fun _=>(X0 Qa h75 Qa)) ?_
   refine QM Qa Qa Qa (Kg 174 Qa (fun h77=> ?_) (fun h77=> ?_))
   ·(exfalso; have q9:=h77; simp at q9)
   refine QG Qa Qa (Qt Qa Qa h77) (fun _=>(Ev.gd (XA Qa))) ?_
   refine QG Qa Qa (Qt Qa Qa h77) (fun _=>(Ev.gd (XH Qa))) ?_
   refine QG Qa Qa (Qt Qa Qa h77) (fun _=>(Ev.gd (QV Qa WI))) ?_
   refine QH Qa Qa (Qt Qa Qa h77) (Ev.gd (Qn Qa Hr (hS76.cell 0 Qa Qa))) (QG Qa Qa (Qt Qa Qa h77) (fun _=>(Ev.gd (Zc 0 Qa Qa (by rfl) (by omega) Hn))) ?_)
   refine QH Qa Qa (Qt Qa Qa h77) (Ev.gd (ZS Rz 1 0 0 hS76 Qa (show[a,b][0]? =some a from rfl) Yv Qa Qa)) (QG Qa Qa (Qt Qa Qa h77) (fun _=>(Ev.gd (XA Qa))) ?_)
   refine QG Qa Qa (Qt Qa Qa h77) (fun _=>(Ev.gd (XH Qa))) ?_
   refine QG Qa Qa (Qt Qa Qa h77) (fun _=>(Ev.gd (QV Qa WI))) ?_
   refine QH Qa Qa (Qt Qa Qa h77) (Ev.gd (Qn Qa Hr (hS76.cell 0 Qa Qa))) (QG Qa Qa (Qt Qa Qa h77) (fun _=>(Ev.gd (Zc 1 Qa Qa (by rfl) (by omega) Hn))) ?_)
   refine QH Qa Qa (Qt Qa Qa h77) (Ev.gd (ZS Rz 1 1 0 hS76 Qa (show[a,b][1]? =some b from rfl) Yv Qa Qa)) (QG Qa Qa (Qt Qa Qa h77) (fun _=>(Ev.gd (XA Qa))) ?_)
   refine QG Qa Qa (Qt Qa Qa h77) (fun _=>(Ev.gd (ev_sub' Qa Qa (by omega) (by omega)))) ?_
   refine Xb Qa Qa (Qt Qa Qa h77) Qa Qa Qa ?_
   refine Q4 qam Qa (Pm (hS76.sp [2,3] Qa) (hG2.starL 6 Qa) (hO2.starL 6 Qa)) Qa ?_
   rintro _ w78 ⟨rfl,hS78⟩
   replace hS78:=hS78.jn Qa Qa
   rw[hs4]
   refine Xn (XC (by kernel_rfl)) ?_
   refine QG Qa Qa (Qt Qa Qa h77) (fun _=>(Ev.gd (Ye Qa Qa))) ?_
   refine QG Qa Qa Qa (fun _=>(X0 Qa h77 Qa)) ?_
   refine VC.nil (Qe (Qk [9,8,7,3,2,1,191] Qa (Qw Qa (fun h79=> ?_) (fun h79=> ?_))))
   ·(exfalso; have q9:=h79; simp at q9)
   refine Qr (Qq (Qe (Qb (Qd Qa Qa (Xq Qa Qa (by omega) (by omega) Qa ?_)))))
   refine Qc Qa Qa (Qh ?_)
   have hS80:=Zm (X:=X5) (hS78.pick [2,3,0,1,4,5,6,7,8] Qa) (by assumption)
   exact QY (L1:=[(1,_),(2,_),(3,_),(7,_),(8,_),(9,intV ((f+1:Nat):Int))]) (Dc rfl rfl rfl rfl rfl rfl) (k1:=2 -(f+1)) (by omega) ⟨f+1,_,_,_,_,rfl,rfl,hS80.pick [0,3,4] rfl, by omega,hV5.wide (by omega),(by have q9:=hZ.rest; rw[hi]at q9; rcases(by omega:f=0∨f=1)with rfl | rfl<;> exact q9),hG2,hO2,hP2,hL2,hF2⟩
  exfalso;omega
 exact Xu (Q1 (Q1 (QJ (Qe (Qg (Qb (Qd Qa Qa (Qc Qa Qa (Qh (Qe (Qo (Q7 (.inr Qa) Qa Qa (⟨_,Qa,Qa,hF _ (hS10.pick [2] Qa)⟩)))))))))))))
