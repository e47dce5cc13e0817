/- laws of trials: TrialTree -/
import Derived.Test.YtkgjmhcdacidoaaGreatDoorTr15
import Derived.Test.YtkgjmhcdacidoaaGreatDoorLv1
set_option linter.unusedSectionVars false
set_option linter.unusedVariables false
set_option maxRecDepth 100000
set_option maxHeartbeats 6400000
namespace Go.Proofs.YtkgjmhcdacidoaaGreatDoor
open Go.RowKit M Proofs.Tryz
theorem FN {w:World} {F:Th} (hS:Sat w [F]) (hG:Ent F GT) {lv:Value} {l:List Int} (hL:Ent F (RdL inC lv l)):
    Calls prog 4 #[lv] w (Ret fun v w'=>v= .bool true∧Sat w' [F]):= by
 letI:Inhabited SlW:=⟨⟨4096,2⟩⟩
 obtain⟨ao,cap,rfl,hmax⟩:=(hL.sat hS 0 rfl).shape
 refine Qn func4 U ntmps4 U ?_
 refine Qe (Qa (Qd U U (Qf (Qc (Qe (Qa (Q0 cal_5 U (small18 (hS.sp [] U) (hG.starL 0 U)) U ?_)))))))
 rintro _ w1 ⟨rfl,j1⟩
 replace j1:=j1.jn U U
 refine Qd U U (Qf (Qc (Qe (Qa (Q0 cal_6 U (Pv (j1.sp [] U) 2 U U) U ?_)))))
 rintro _ w2 ⟨a,p,C0,rfl,hQ0,j2⟩
 replace j2:=j2.jn U U
 refine Qb U U (Qp U U U (Qp U U U (Qd U U (Qd U U (Qf (Qc (Qe (Qe (Qa (Qb U U (XI underlying24 U U U (Qb U U (Qj U U U (Qb U U (Qj U U U (XB underlying22 U U (Qj U U U (J6 U U U (QC U U U U (Qf (Qc (Qh [0,2,3,4,36] U (Qt U (fun h3=> ?_) (fun h3=> ?_))))))))))))))))))))))))
 ·refine Qe (Qa (Qb U U (Qb U U (Xw 38 U (fun h4=> ?_) (fun h4=> ?_)))))
  ·refine Qj U U h4 (Qb U U (Qj U U h4 (ZB underlying24 U U U (QN U h4 U U (Qd U U (Qf (Qc (Qv (Qr (QR (.inr U) U U ?_))))))))))
   exact⟨_,rfl, by first | rfl | (congr 1;decide),j2.pick [3] U⟩
  first | exact absurd (by decide) h4 | exact absurd U h4 | exact absurd h4 (by decide)
 refine Qs (Qc (Qe (Qa (Qd U U (Qf (Qc (Qe (Qe (Qa (Qd U U (Qf (Qc (Qw ?_)))))))))))))
 refine Xe (fun K0 E0 W0=> ∃(i:Nat) (T:Nodes) (last:Int) (C:CeD) (A:LvA) (ids:List Int) (m:Nat),K0=l.length -i∧E0=[(0,.slice ao l.length cap),(3,.bool true),(4,ptrV a.t 0),(6,intV last),(7,intV (i:Int))]∧Sat W0 [Zp a T last,Yb a.c C,Yr a.b p 0 m 0 0 A,F]∧(i≤l.length)∧(TS i T last C A ids m)) (L0:=[(0,_),(3,_),(4,_),(6,_),(7,_)]) (l.length) (Ym U U U U U) ⟨0,Up,0,C0,Bg,[],0,rfl,rfl,j2.pick [0,1,2,3] U, by omega,TS.start hQ0⟩ ?_
 rintro _ _ w5 ⟨i,T,last,C,A,ids,m,rfl,rfl,j5,hi,hT⟩
 refine Qe (Qe (Qa (Qb U U (Qb U U (XB underlying22 U U (Xn U U U (Qf (Qc (Qt U (fun h6=> ?_) (fun h6=> ?_))))))))))
 ·obtain⟨k,hk⟩: ∃k,l[i]? =some k:=⟨_,Zd (by omega)⟩
  obtain⟨b9,off9,rfl,hck⟩:=(hL.sat j5 3 rfl).get hk
  have hmd:m<Wd:= by have :=hT.mm; show m<100000;omega
  have hnl:=W7 (T:=T) (ids:=ids); have hl32:=hT.len; have hla:=hT.la; have hl0:=hT.q.tri.last0
  refine Qs (Qc (Qe (Qw (Qe (Qa (Qb U U (Q0 ME U (Gf (j5.sp [0] U) hT.q.few) U ?_)))))))
  rintro _ w7 j7
  replace j7:=j7.jn U U
  obtain⟨aa,ca,hva,_⟩:=j7.own_shape 0 rfl; obtain rfl:=hva
  refine Qd U U (Qf (Qc (Qh [7,6,4,3,0,8] U (Qe (Qa (Qb U U (Qb U U (Za i U U (by first | rfl | omega) ((XL hk).1) Un U ?_))))))))
  refine Qo U QM (((hL.sat j7 4 U).at_ hk) 0 _ U) U (wl_mask 10 U U U U (q:=1024) U U (Qd U U (Qf (Qc (Qh [7,6,4,3,0,8,9] U (Qe ?_))))))
  have hnn:0≤(k%1024)∧(k%1024)<1024:= by omega
  refine Qa (Qd U U (Qf (Qc (GB (fun E0 W0=> ∃(who:Int),E0=[(0,.slice (some ⟨b9,off9,none⟩) l.length cap),(3,.bool true),(4,ptrV a.t 0),(6,intV last),(7,intV (i:Int)),(8,.slice aa (QI T ids).length ca),(9,intV (k%1024)),(10,intV who)]∧Sat W0 [rowT RI (.slice aa (QI T ids).length ca) (QI T ids),Zp a T last,Yb a.c C,Yr a.b p 0 m 0 0 A,F]∧(∃nw,T who=some nw)) ?_ ?_))))
  ·refine Qe (Qa (Qb U U ?_))
   first | refine XB underlying40 U U ?_ | refine Xo 0 j7 underlying40 U U U ?_
   refine J6 U U U (Qb U U (QZ 58 U (fun h9=> ?_) (fun h9=> ?_)))
   ·refine Qj U U (det h9) (Qb U U (Qj U U (det h9) (DY U U (by omega) (by omega) U ?_)))
    refine Qj U U (det h9) (Xp U U U (QN U (det h9) U U (Qf (Qc (Qh [7,6,4,3,0,8,9,10,62] U (Qt U (fun h10=> ?_) (fun h10=> ?_)))))))
    ·have hm1:=Int.emod_nonneg (k%1024) (show((QI T ids).length:Int)≠0 by omega); have hm2:=Int.emod_lt_of_pos (k%1024) (show 0<((QI T ids).length:Int) by omega)
     have hil:((k%1024)%((QI T ids).length:Int)).toNat<(QI T ids).length:= by omega
     obtain⟨xw,hxw⟩: ∃x,(QI T ids)[((k%1024)%((QI T ids).length:Int)).toNat]? =some x:=⟨_,Zd hil⟩
     refine Qa (Qb U U (Qb U U (Qb U U ?_)))
     first | refine XB underlying40 U U ?_ | refine Xo 0 j7 underlying40 U U U ?_
     refine DY U U (by omega) (by omega) U ?_
     refine Xg RI 0 ((k%1024)%((QI T ids).length:Int)).toNat j7 U U U (by omega) hxw Um U ?_
     intro bx11 capx11 hvx11
     exact Qg U J5 U (XY 0 ((k%1024)%((QI T ids).length:Int)).toNat 0 j7 U hvx11 U U hxw QM U U (Qd U U (Qf (Wq (F6 U U U U U U U U) ⟨xw.id,U,j7.pick [0,1,2,3,4] U,⟨xw,(JD hT.q.tri hT.q.few.1 hxw).2.1⟩⟩))))
    refine Qs ?_
    exact Wq (F6 rfl rfl rfl rfl rfl rfl rfl rfl) ⟨0,rfl,j7.pick [0,1,2,3,4] rfl,(by obtain⟨r,hr,_⟩:=hT.q.tri.root; exact⟨r,hr⟩)⟩
   refine Qk U U (QF h9) U (Qk U U (QF h9) U (Qk U U (QF h9) U (QC U (QF h9) U U (Qf (Qc (Qh [7,6,4,3,0,8,9,10,62] U (QL U (Qs ?_))))))))
   exact Wq (F6 rfl rfl rfl rfl rfl rfl rfl rfl) ⟨0,rfl,j7.pick [0,1,2,3,4] rfl,(by obtain⟨r,hr,_⟩:=hT.q.tri.root; exact⟨r,hr⟩)⟩
  rintro _ w8 ⟨who,rfl,j8,hwho⟩
  obtain⟨nw,hnw⟩:=hwho
  have hdp:=hT.dep _ _ hnw
  obtain⟨y,hy⟩:=hT.q.ce.get hnw
  refine Qe (Qa (Qb U U (Qb U U (Q0 EQ U (MZ (j8.sp [1] U) who) U ?_))))
  rintro _ w12 ⟨rfl,j12⟩
  replace j12:=j12.jn U U
  rw[UR hnw, show(T who).isSome=true by rw[hnw];rfl,Bool.true_and]
  refine Qb U U (Qp U U U (Qp U U U (Xa j12 MT U U ?_)))
  intro xb w13 j13
  refine Q9 j13 U U Vt U (by first | rfl | (simp [QV,Value.oneCell'];done)) (i:=0) U (by first | decide | exact Q7 U) ?_
  intro w14 hS14a; dsimp only[List.set]at hS14a
  have j14:Sat w14 (QE xb [intV nw.id,intV nw.par,intV nw.dep,intV nw.gue]::_):=hS14a; clear hS14a
  refine Qd U U (Qf (Qc (Qh [10,9,8,7,6,4,3,0,11,12] U (Qe (Qe (Qa (Qb U U (Qb U U (Xp U U U (Jg underlying4 U U U (Qf (Qc (Qh [10,9,8,7,6,4,3,0,11,80] U (QS U (fun h15=> ?_) (fun h15=> ?_)))))))))))))))
  ·exact absurd h15 (by simp)
  refine Qs (Qc (Qe (Qa (Qb U U (Qb U U (Q0 NI U (UB (j14.sp [1] U) hT.q.few hT.q.tri who) U ?_))))))
  rintro _ w16 j16
  replace j16:=j16.jn U U
  obtain⟨ak,ck,hvk,_⟩:=j16.own_shape 0 rfl; obtain rfl:=hvk
  refine Qd U U (Qf (Qc (Qh [10,9,8,7,6,4,3,0,11,13] U (GB (fun E0 W0=> ∃(T9:Nodes) (last9:Int) (C9:CeD) (A9:LvA) (ids9:List Int) (m9:Nat),E0=[(0,.slice (some ⟨b9,off9,none⟩) l.length cap),(3,.bool true),(4,ptrV a.t 0),(6,intV last9),(7,intV (i:Int))]∧Sat W0 [Zp a T9 last9,Yb a.c C9,Yr a.b p 0 m9 0 0 A9,F]∧(TS (i+1) T9 last9 C9 A9 ids9 m9)) ?_ ?_))))
  ·refine Qe (Qa (Qb U U (DY U U (by omega) (by omega) U ?_)))
   refine Qf (Qc (Qw (GB (fun E0 W0=> ∃(bb:Bool),E0=[(0,.slice (some ⟨b9,off9,none⟩) l.length cap),(3,.bool true),(4,ptrV a.t 0),(6,intV last),(7,intV (i:Int)),(8,.slice aa (QI T ids).length ca),(9,intV (k%1024)),(10,intV who),(11,ptrV xb 0),(13,.slice ak (Zh T ids who).length ck),(85,intV ((k%1024)%5)),(122,.bool bb)]∧Sat W0 [QE xb [intV nw.id,intV nw.par,intV nw.dep,intV nw.gue],rowT inC (.slice ak (Zh T ids who).length ck) (Zh T ids who),rowT RI (.slice aa (QI T ids).length ca) (QI T ids),Zp a T last,Yb a.c C,Yr a.b p 0 m 0 0 A,F]) ?_ ?_)))
   ·refine Qe (Qa (Xc U U U (Qd U U (Qf (Qc (Qt U (fun h19=> ?_) (fun h19=> ?_)))))))
    ·exact Qs (Wq (DX U U U U U U U U U U U U) ⟨_,U,j16.pick [2,0,3,1,4,5,6] U⟩)
    refine Qe (Qa (Xc U U U (Qd U U (Qf (Qc (Qh [10,9,8,7,6,4,3,0,11,13,85,122] U (Qt U (fun h20=> ?_) (fun h20=> ?_))))))))
    ·exact Qs (Wq (DX U U U U U U U U U U U U) ⟨_,U,j16.pick [2,0,3,1,4,5,6] U⟩)
    exact Qa (Xc U U U (Qd U U (Qf (Wq (DX U U U U U U U U U U U U) ⟨_,U,j16.pick [2,0,3,1,4,5,6] U⟩))))
   rintro _ w18 ⟨bb,rfl,j18⟩
   refine QS U (fun h21=> ?_) (fun h21=> ?_)
   ·refine Qe (Qa (Qb U U (Qb U U (Qb U U (Xr P8 U (KP (j18.sp [3,4,5] U) (by omega) hmd hT.q.tri hT.q.ce.toCeW hT.q.few hnw hy (guess:=(k%1024)) (by omega) (hT.dep _ _ hnw).2 (hT.dep _ _ hnw).1 (by omega)) U ?_)))))
    rintro e w22 ⟨_,rfl,(⟨hful,rfl,j22⟩ | ⟨hnf,rfl,x1,hn1,hxp1,hxk1,hxq1,j22⟩)⟩
    ·refine⟨_,U, ?_⟩
     replace j22:=j22.jn U U
     refine Qb U U (Qp U U U (Qp U U U (Qd U U (Qd U U (Qf (Qc (Qh [11,10,9,8,7,6,4,3,0,14,15] U (Qe (Qa (Qg U UX U (Qo U QM (by first | assumption | exact j22.cell 3 U U) U ?_)))))))))))
     refine Jr U U U (Qb U U (QZ 136 U (fun h23=> ?_) (fun h23=> ?_)))
     ·refine Qk U U (det h23) U (Qk U U (det h23) U (Qk U U (det h23) U (QN U (det h23) U U (Qd U U (Qf (Qc (Qh [11,10,9,8,7,6,4,3,0,14,15,16] U (Qe (Qe (Qa (Qb U U (Qb U U (Xc U U U (Jg underlying4 U U U (Qb U U (Xw 145 U (fun h24=> ?_) (fun h24=> ?_)))))))))))))))))
      ·exact absurd h24 (by decide)
      exact Qj U U h24 (Qb U U (Qj U U h24 (QU U U (Qj U U h24 (Qb U U (Qk U U U U (Qk U U U U (Qk U U U U (Zs U U U (Zs U U U (Zs U U U (Zs U U U (Qk U U U U (Qj U U h24 (QC U U U U (QC U h24 U U (Qf (Qc (Qh [11,10,9,8,7,6,4,3,0,14,16,158] U (QL U (Qs (Qc (Qe (Qa (Qb U U (QU U U (Qf (Qc (Qh [11,10,9,8,7,6,4,3,0,14,160] U (Db U U (Qs (Ql (Wq (Ym U U U U U) ⟨T,last,C,A,ids,m,U,j22.pick [0,1,2,6] U,hT.up (Nat.le_succ i)⟩)))))))))))))))))))))))))))))))))
     refine Qj U U (QF h23) (Qb U U (Qj U U (QF h23) (Xo 5 j22 underlying40 U U U (Qj U U (QF h23) (Jr U U U (QC U (QF h23) U U (Qd U U (Qf (Qc (Qh [11,10,9,8,7,6,4,3,0,14,15,16] U (Qe (Qe (Qa (Qb U U (Qb U U (Xc U U U (Jg underlying4 U U U (Qb U U (Xw 145 U (fun h25=> ?_) (fun h25=> ?_))))))))))))))))))))
     ·exact absurd h25 (by rw[det (show(32:Int)≤((QI T ids).length:Int) by omega)];decide)
     refine Qj U U h25 (Qb U U (Qj U U h25 (QU U U (Qj U U h25 (Qb U U (Xw 148 U (fun h26=> ?_) (fun h26=> ?_)))))))
     ·exact absurd h26 (by rw[det (show(32:Int)≤((QI T ids).length:Int) by omega)];decide)
     refine Qk U U h26 U (Qk U U h26 U (Qk U U h26 U (Zs U U U (Zs U U U (Zs U U U (Zs U U U (Qk U U h26 U (Qj U U h25 (QC U h26 U U (QC U h25 U U (Qf (Qc (Qh [11,10,9,8,7,6,4,3,0,14,16,158] U (QL U (Qs (Qc (Qe (Qa (Qb U U (QU U U (Qf (Qc (Qh [11,10,9,8,7,6,4,3,0,14,160] U (QS U (fun h27=> ?_) (fun h27=> ?_)))))))))))))))))))))))))
     ·exact absurd h27 (by rw[det (show(32:Int)≤((QI T ids).length:Int) by omega)];decide)
     exact Qs (Ql (Wq (Ym U U U U U) ⟨T,last,C,A,ids,m,U,j22.pick [0,1,2,6] U,hT.up (Nat.le_succ i)⟩))
    refine⟨_,U, ?_⟩
    replace j22:=j22.jn U U
    have hT2:=hT.beg (n:=(k%1024)) hnf hnw hy hn1 hxp1 hxk1 hxq1 (by omega)
    obtain⟨T2,hT2e⟩: ∃q,q=QO T (last+1) (some (⟨last+1,who,nw.dep+1,(k%1024),0,false,false⟩:NodeD)):=⟨_,rfl⟩
    have ht2:T2 (last+1)=some ⟨last+1,who,nw.dep+1,(k%1024),0,false,false⟩:= by rw[hT2e]; exact Qu
    refine Qb U U (Qp U U U (Qp U U U (Qd U U (Qd U U (Qf (Qc (Qh [11,10,9,8,7,6,4,3,0,14,15] U (Qe (Qa (Qg U UX U (Qo U QM (by first | assumption | exact j22.cell 3 U U) U ?_)))))))))))
    refine Jr U U U (Qb U U (QZ 136 U (fun h28=> ?_) (fun h28=> ?_)))
    ·exact absurd (Or.inl (by omega)) hnf
    refine Qj U U (QF h28) (Qb U U (Qj U U (QF h28) (Xo 5 j22 underlying40 U U U (Qj U U (QF h28) (Jr U U U (QC U (QF h28) U U (Qd U U (Qf (Qc (Qh [11,10,9,8,7,6,4,3,0,14,15,16] U (Qe (Qe (Qa (Qb U U (Qb U U (Xc U U U (Jg underlying4 U U U (Qb U U (Xw 145 U (fun h29=> ?_) (fun h29=> ?_))))))))))))))))))))
    ·exact absurd h29 (by rw[QF (show ¬(32:Int)≤((QI T ids).length:Int) by omega)];decide)
    refine Qj U U h29 (Qb U U (Qj U U h29 (QU U U (Qj U U h29 (Qb U U (Xw 148 U (fun h30=> ?_) (fun h30=> ?_)))))))
    ·refine Qj U U h30 (Qb U U (Qj U U h30 (Xp U U U (Qj U U h30 (Qb U U (QZ 151 U (fun h31=> ?_) (fun h31=> ?_)))))))
     ·exact absurd U h31
     refine Qj U U (QF h31) (Qb U U (Qj U U (QF h31) (Qb U U (Qj U U (QF h31) (QK U U (by omega) (by omega) U ?_)))))
     refine Qj U U (QF h31) (Xp U U U (Qj U U h30 (QC U (QF h31) U U (Qj U U h29 (QN U h30 U U (QC U h29 U U (Qf (Qc (Qh [11,10,9,8,7,6,4,3,0,14,16,158] U (Qt U (fun h32=> ?_) (fun h32=> ?_)))))))))))
     ·exact absurd U h32
     refine Qs (Qc (Qe (Qa (Qb U U (QU U U (Qf (Qc (Qh [11,10,9,8,7,6,4,3,0,14,160] U (QS U (fun h33=> ?_) (fun h33=> ?_))))))))))
     ·refine Qe (Qa (Qb U U (QK U U (by omega) (by omega) U ?_)))
      refine Qd U U (Qf (Qc (Qh [11,10,9,8,7,4,3,0,14,6] U (Qe ?_))))
      have j34:=(j22.pick [0,1,2,3,4,5,6] U); rw[←hT2e]at j34 hT2
      refine Qa (Qb U U (Qb U U (Q0 EQ U (MZ (j34.sp [0] U) (last+1)) U ?_)))
      rintro _ w35 ⟨rfl,j35⟩
      replace j35:=j35.jn U U
      rw[UR ht2, show(T2 (last+1)).isSome=true by rw[ht2];rfl,Bool.true_and]
      dsimp only
      refine Qb U U (Qp U U U (Qp U U U (Xa j35 MT U U ?_)))
      intro yb w36 j36
      refine Q9 j36 U U Vt U (by first | rfl | (simp [QV,Value.oneCell'];done)) (i:=0) U (by first | decide | exact Q7 U) ?_
      intro w37 hS37a; dsimp only[List.set]at hS37a
      have j37:Sat w37 (QE yb [intV (last+1),intV who,intV (nw.dep+1),intV (k%1024)]::_):=hS37a; clear hS37a
      refine Qd U U (Qf (Qc (Qh [11,10,9,8,7,4,3,0,14,6,17,18] U (Qe (Qa (Qb U U (QU U U (Qb U U (Xw 171 U (fun h38=> ?_) (fun h38=> ?_))))))))))
      ·exact absurd h38 (by simp;omega)
      refine Qj U U h38 (Qg U JV U (Qj U U h38 (Qo U QM (by first | assumption | exact j37.cell 0 U U | exact j37.cell 4 U U) U ?_)))
      refine Qj U U h38 (Qb U U (Qj U U h38 (Xp U U U (QC U h38 U U (Qb U U (QZ 177 U (fun h39=> ?_) (fun h39=> ?_)))))))
      ·exact absurd U h39
      refine Qj U U (QF h39) (Qg U UX U (Qj U U (QF h39) (Qo U QM (by first | assumption | exact j37.cell 0 U U | exact j37.cell 4 U U) U ?_)))
      refine Qj U U (QF h39) (Qg U UX U (Qj U U (QF h39) (Qo U QM (by first | assumption | exact j37.cell 0 U U | exact j37.cell 4 U U) U ?_)))
      refine Qj U U (QF h39) (QK U U (by omega) (by omega) U ?_)
      refine Qj U U (QF h39) (Xp U U U (QC U (QF h39) U U (Qb U U (QZ 185 U (fun h40=> ?_) (fun h40=> ?_)))))
      ·exact absurd U h40
      refine Qj U U (QF h40) (Qg U My U (Qj U U (QF h40) (Qo U QM (by first | assumption | exact j37.cell 0 U U | exact j37.cell 4 U U) U ?_)))
      refine Qj U U (QF h40) (Qb U U (Qj U U (QF h40) (Xp U U U (QC U (QF h40) U U (Qb U U (QZ 191 U (fun h41=> ?_) (fun h41=> ?_)))))))
      ·exact absurd U h41
      refine Qj U U (QF h41) (Qb U U (Qj U U (QF h41) (Qb U U (Qj U U (QF h41) (Xr Ug U (Y7 (j37.sp [1] U) (last+1)) U ?_)))))
      rintro e w42 ⟨_,rfl,(⟨hq,_,j42⟩ | ⟨_,vb2,rfl,j42⟩)⟩
      ·exact absurd hq (by rw[ht2]; simp)
      refine⟨_,U, ?_⟩
      replace j42:=j42.jn U U
      refine Qj U U (QF h41) (XI underlying28 U U U (QC U (QF h41) U U (Qb U U (Qj U U U (Qb U U (Qj U U U (Q0 ME U (Gf (j42.sp [1] U) hT2.q.few) U ?_)))))))
      rintro _ w43 j43
      replace j43:=j43.jn U U
      refine Qj U U U (Xo 0 j43 underlying40 U U U (Qj U U U (Qb U U (Qj U U U (Xo 8 j43 underlying40 U U U (Qj U U U (QK U U (by omega) (by omega) U ?_)))))))
      refine Qj U U U (Xp U U U (QC U U U U (Qf (Qc (Qh [7,4,3,0,6,205] U (Qt U (fun h44=> ?_) (fun h44=> ?_)))))))
      ·exact absurd (by rw[W7,List.length_append,W7]; simp) h44
      exact Qs (Ql (Wq (Ym U U U U U) ⟨T2,last+1,_,_,_,m+1,U,j43.pick [1,4,5,9] U,hT2⟩))
     exact absurd h33 (by rw[QF (show ¬(32:Int)≤((QI T ids).length:Int) by omega)];decide)
    exact absurd h30 (by rw[QF (show ¬(32:Int)≤((QI T ids).length:Int) by omega)];decide)
   refine Qe (Qa (Xc U U U (Qd U U (Qf (Qc (Qh [13,10,8,7,6,4,3,0,206] U (Qt U (fun h45=> ?_) (fun h45=> ?_))))))))
   ·refine Qe (Qa (Qb U U (Qb U U (Xr MG U (Ew (j18.sp [3,4,5] U) (hG.starL 3 U) hT hmd (by decide) hnw) U ?_))))
    rintro e w46 ⟨_,rfl,(⟨hw0,rfl,j46⟩ | ⟨hw0,hkk,rfl,j46⟩ | ⟨hw0,hkk,rfl,T2,C2,A2,ids2,hT2,j46⟩)⟩
    ·refine⟨_,U, ?_⟩
     replace j46:=j46.jn U U
     refine Qd U U (Qf (Qc (Qh [13,10,7,6,4,3,0,19] U (Qe (Qa (Qb U U (Xc U U U (Qb U U (Xc U U U (Jg underlying4 U U U (Qb U U (Xw 216 U (fun h47=> ?_) (fun h47=> ?_)))))))))))))
     ·exact absurd h47 (by rw[det hw0];decide)
     refine Qj U U h47 (Qb U U (Qj U U h47 (Xp U U U (Qj U U h47 (Qb U U (QZ 219 U (fun h48=> ?_) (fun h48=> ?_)))))))
     ·exact absurd hw0 h48
     exact Qk U U (QF h48) U (Qk U U (QF h48) U (Qk U U (QF h48) U (Qk U U (QF h48) U (Qk U U (QF h48) U (Qk U U (QF h48) U (Qj U U h47 (QC U (QF h48) U U (QC U h47 U U (Qf (Qc (Qh [7,6,4,3,0,227] U (QL U (Qs (Ql (Wq (Ym U U U U U) ⟨T,last,C,A,ids,m,U,j46.pick [0,1,2,6] U,hT.up (Nat.le_succ i)⟩)))))))))))))))
    ·refine⟨_,U, ?_⟩
     replace j46:=j46.jn U U
     refine Qd U U (Qf (Qc (Qh [13,10,7,6,4,3,0,19] U (Qe (Qa (Qb U U (Xc U U U (Qb U U (Xc U U U (Jg underlying4 U U U (Qb U U (Xw 216 U (fun h49=> ?_) (fun h49=> ?_)))))))))))))
     ·exact absurd h49 (by rw[QF hw0];decide)
     refine Qj U U h49 (Qb U U (Qj U U h49 (Xp U U U (Qj U U h49 (Qb U U (QZ 219 U (fun h50=> ?_) (fun h50=> ?_)))))))
     ·refine Qj U U (det h50) (Qb U U (Qj U U (det h50) (Xo 4 j46 underlying22 U U U (Qj U U (det h50) (J6 U U U (Qj U U (det h50) (Qb U U (Qj U U (det h50) (Xc U U U (Qj U U (det h50) (Jg underlying4 U U U (Qj U U h49 (QN U (det h50) U U (QC U h49 U U (Qf (Qc (Qh [7,6,4,3,0,227] U (QS U (fun h51=> ?_) (fun h51=> ?_)))))))))))))))))))
      ·exact absurd h51 (by rw[det (show(0:Int)<((Zh T ids who).length:Int) by have :=List.length_pos_iff.2 hkk;omega)];decide)
      exact Qs (Ql (Wq (Ym U U U U U) ⟨T,last,C,A,ids,m,U,j46.pick [0,1,2,6] U,hT.up (Nat.le_succ i)⟩))
     exact absurd hw0 h50
    refine⟨_,U, ?_⟩
    replace j46:=j46.jn U U
    refine Qd U U (Qf (Qc (Qh [13,10,7,6,4,3,0,19] U (Qe (Qa (Qb U U (Xc U U U (Qb U U (Xc U U U (Jg underlying4 U U U (Qb U U (Xw 216 U (fun h52=> ?_) (fun h52=> ?_)))))))))))))
    ·exact absurd h52 (by rw[QF hw0];decide)
    refine Qj U U h52 (Qb U U (Qj U U h52 (Xp U U U (Qj U U h52 (Qb U U (QZ 219 U (fun h53=> ?_) (fun h53=> ?_)))))))
    ·refine Qj U U (det h53) (Qb U U (Qj U U (det h53) (Xo 4 j46 underlying22 U U U (Qj U U (det h53) (J6 U U U (Qj U U (det h53) (Qb U U (Qj U U (det h53) (Xc U U U (Qj U U (det h53) (Jg underlying4 U U U (Qj U U h52 (QN U (det h53) U U (QC U h52 U U (Qf (Qc (Qh [7,6,4,3,0,227] U (QS U (fun h54=> ?_) (fun h54=> ?_)))))))))))))))))))
     ·exact absurd h54 (by rw[QF (show ¬(0:Int)<((Zh T ids who).length:Int) by rw[hkk];decide)];decide)
     exact Qs (Ql (Wq (Ym U U U U U) ⟨T2,last,C2,A2,ids2,m,U,j46.pick [0,1,2,6] U,hT2⟩))
    exact absurd hw0 h53
   refine Qe (Qa (Qb U U (Qb U U (Xr EP U (abortTS (j18.sp [3,4,5] U) hT hmd hnw) U ?_))))
   rintro e w55 ⟨_,rfl,(⟨hw0,rfl,j55⟩ | ⟨hw0,rfl,T2,C2,A2,ids2,hTe,hT2,j55⟩)⟩
   ·refine⟨_,U, ?_⟩
    replace j55:=j55.jn U U
    refine Qd U U (Qf (Qc (Qh [10,8,7,6,4,3,0,20] U (Qe (Qe (Qa (Qb U U (Xc U U U (Qb U U (Xc U U U (Jg underlying4 U U U (Qf (Qc (Qh [10,8,7,6,4,3,0,93] U (QS U (fun h56=> ?_) (fun h56=> ?_))))))))))))))))
    ·exact absurd h56 (by rw[det hw0];decide)
    refine Qs (Qc (Qe (Qa (Qd U U (Qf (Qc (Qw ?_)))))))
    refine Xe (fun K0 E0 W0=> ∃(q:Nat),K0=(QI T ids).length -q∧E0=[(0,.slice (some ⟨b9,off9,none⟩) l.length cap),(3,.bool true),(4,ptrV a.t 0),(6,intV last),(7,intV (i:Int)),(8,.slice aa (QI T ids).length ca),(10,intV who),(21,intV (q:Int))]∧Sat W0 [rowT RI (.slice aa (QI T ids).length ca) (QI T ids),Zp a T last,Yb a.c C,Yr a.b p 0 m 0 0 A,F]∧(q≤(QI T ids).length)) (L0:=[(0,_),(3,_),(4,_),(6,_),(7,_),(8,_),(10,_),(21,_)]) ((QI T ids).length) (F6 U U U U U U U U) ⟨0,rfl,rfl,j55.pick [5,0,1,2,6] U, by omega⟩ ?_
    rintro _ _ w57 ⟨q,rfl,rfl,j57,hq⟩
    refine Qe (Qe (Qa (Qb U U (Qb U U (Xo 0 j57 underlying40 U U U (Xn U U U (Qb U U (QZ 98 U (fun h58=> ?_) (fun h58=> ?_)))))))))
    ·refine Qj U U (det h58) (Qb U U (Qj U U (det h58) (Xp U U U (QN U (det h58) U U (Qf (Qc (Qh [21,10,8,7,6,4,3,0,101] U (Qt U (fun h59=> ?_) (fun h59=> ?_)))))))))
     ·exact absurd hw0 h59
     exact QT (Qq (Qq (Qy (Ql (Wq (Ym U U U U U) ⟨T,last,C,A,ids,m,U,j57.pick [1,2,3,4] U,hT.up (Nat.le_succ i)⟩)))))
    exact Qk U U (QF h58) U (Qk U U (QF h58) U (QC U (QF h58) U U (Qf (Qc (Qh [21,10,8,7,6,4,3,0,101] U (QL U (QT (Qq (Qq (Qy (Ql (Wq (Ym U U U U U) ⟨T,last,C,A,ids,m,U,j57.pick [1,2,3,4] U,hT.up (Nat.le_succ i)⟩))))))))))))
   refine⟨_,U, ?_⟩
   replace j55:=j55.jn U U
   refine Qd U U (Qf (Qc (Qh [10,8,7,6,4,3,0,20] U (Qe (Qe (Qa (Qb U U (Xc U U U (Qb U U (Xc U U U (Jg underlying4 U U U (Qf (Qc (Qh [10,8,7,6,4,3,0,93] U (QS U (fun h60=> ?_) (fun h60=> ?_))))))))))))))))
   ·exact absurd h60 (by rw[QF hw0];decide)
   refine Qs (Qc (Qe (Qa (Qd U U (Qf (Qc (Qw ?_)))))))
   refine Xe (fun K0 E0 W0=> ∃(q:Nat),K0=(QI T ids).length -q∧E0=[(0,.slice (some ⟨b9,off9,none⟩) l.length cap),(3,.bool true),(4,ptrV a.t 0),(6,intV last),(7,intV (i:Int)),(8,.slice aa (QI T ids).length ca),(10,intV who),(21,intV (q:Int))]∧Sat W0 [rowT RI (.slice aa (QI T ids).length ca) (QI T ids),Zp a T2 last,Yb a.c C2,Yr a.b p 0 m 0 0 A2,F]∧(q≤(QI T ids).length)) (L0:=[(0,_),(3,_),(4,_),(6,_),(7,_),(8,_),(10,_),(21,_)]) ((QI T ids).length) (F6 U U U U U U U U) ⟨0,rfl,rfl,j55.pick [5,0,1,2,6] U, by omega⟩ ?_
   rintro _ _ w61 ⟨q,rfl,rfl,j61,hq⟩
   refine Qe (Qe (Qa (Qb U U (Qb U U (Xo 0 j61 underlying40 U U U (Xn U U U (Qb U U (QZ 98 U (fun h62=> ?_) (fun h62=> ?_)))))))))
   ·refine Qj U U (det h62) (Qb U U (Qj U U (det h62) (Xp U U U (QN U (det h62) U U (Qf (Qc (Qh [21,10,8,7,6,4,3,0,101] U (Qt U (fun h63=> ?_) (fun h63=> ?_)))))))))
    ·obtain⟨x,hxq⟩: ∃x,(QI T ids)[q]? =some x:=⟨_,Zd (by omega)⟩
     obtain⟨hx1,hx2,hx3⟩:=JD hT.q.tri hT.q.few.1 hxq
     refine Qs (Qc (Qe (Qw (Qe (Qa (Qb U U (Qb U U (Qb U U (Xg RI 0 q j61 U U U (by first | rfl | omega) hxq Um U ?_)))))))))
     intro bx64 capx64 hvx64
     refine Qg U J5 U (XY 0 q 0 j61 U hvx64 U U hxq QM U U (Qb U U (Q0 cal_21 U (EW (j61.sp [] U) hT.q.tri hT.q.few.1 hT.q.few.2 (Ent.starL (YD (C:=RI) (l:=(QI T ids)) (by omega)) 0 U) x.id who) U ?_)))
     rintro _ w65 ⟨b,rfl,hb,j65⟩
     replace j65:=j65.jn U U
     have hb2:=hb.trans (Fu hT.q.tri hT.q.few.1 hw0)
     refine Qd U U (Qf (Qc (Qh [21,10,8,7,6,4,3,0,22] U (Qe (Qa (Qb U U (Qb U U (Qb U U (Qb U U (Xg RI 0 q j65 U U U (by first | rfl | omega) hxq Um U ?_))))))))))
     intro bx66 capx66 hvx66
     refine Qg U J5 U (XY 0 q 0 j65 U hvx66 U U hxq QM U U (Xr Ug U (Y7 (j65.sp [1] U) x.id) U ?_))
     rintro e w67 ⟨_,rfl,(⟨hq1,rfl,j67⟩ | ⟨hq1,vz,rfl,j67⟩)⟩
     ·refine⟨_,U, ?_⟩
      replace j67:=j67.jn U U
      have hbt:b=true:=hb2.2 ((TL hx2).1 (hTe▸hq1))
      subst hbt
      refine Jh underlying28 U U U (Jg underlying4 U U U (Qf (Qc (Qh [21,10,8,7,6,4,3,0,121] U (QS U (fun h68=> ?_) (fun h68=> ?_))))))
      ·exact absurd h68 (by decide)
      refine Qs (Ql (Qc (Qa (Qb U U (QK U U (by omega) (by omega) U ?_)))))
      refine Qd U U (Qf ?_)
      exact Q5 (L1:=[(0,_),(3,_),(4,_),(6,_),(7,_),(8,_),(10,_),(21,intV ((q+1:Nat):Int))]) (F6 U U U U U U U U) (k1:=(QI T ids).length -(q+1)) (by omega) ⟨q+1,rfl,rfl,j67.pick [1,0,2,3,4] U, by omega⟩
     refine⟨_,U, ?_⟩
     replace j67:=j67.jn U U
     have hbf:b=false:= by cases b with | false=>rfl | true=> exact absurd (hTe▸(TL hx2).2 (hb2.1 U)) hq1
     subst hbf
     refine XI underlying28 U U U (Jg underlying4 U U U (Qf (Qc (Qh [21,10,8,7,6,4,3,0,121] U (QS U (fun h69=> ?_) (fun h69=> ?_))))))
     ·exact absurd h69 (by decide)
     refine Qs (Ql (Qc (Qa (Qb U U (QK U U (by omega) (by omega) U ?_)))))
     refine Qd U U (Qf ?_)
     exact Q5 (L1:=[(0,_),(3,_),(4,_),(6,_),(7,_),(8,_),(10,_),(21,intV ((q+1:Nat):Int))]) (F6 U U U U U U U U) (k1:=(QI T ids).length -(q+1)) (by omega) ⟨q+1,rfl,rfl,j67.pick [2,1,3,4,5] U, by omega⟩
    exact QT (Qq (Qq (Qy (Ql (Wq (Ym U U U U U) ⟨T2,last,C2,A2,ids2,m,U,j61.pick [1,2,3,4] U,hT2⟩)))))
   exact Qk U U (QF h62) U (Qk U U (QF h62) U (QC U (QF h62) U U (Qf (Qc (Qh [21,10,8,7,6,4,3,0,101] U (QL U (QT (Qq (Qq (Qy (Ql (Wq (Ym U U U U U) ⟨T2,last,C2,A2,ids2,m,U,j61.pick [1,2,3,4] U,hT2⟩))))))))))))
  rintro _ w17 ⟨T9,last9,C9,A9,ids9,m9,rfl,j17,hT9⟩
  refine Qe (Qa (Qb U U (Q0 ME U (Gf (j17.sp [0] U) hT9.q.few) U ?_)))
  rintro _ w70 j70
  replace j70:=j70.jn U U
  obtain⟨an,cn,hvn,_⟩:=j70.own_shape 0 rfl; obtain rfl:=hvn
  refine Qd U U (Qf (Qc (Qe (Qa (Qd U U (Qf (Qc (Qw ?_))))))))
  refine Xe (fun K0 E0 W0=> ∃(q:Nat),K0=(QI T9 ids9).length -q∧E0=[(0,.slice (some ⟨b9,off9,none⟩) l.length cap),(3,.bool true),(4,ptrV a.t 0),(6,intV last9),(7,intV (i:Int)),(23,.slice an (QI T9 ids9).length cn),(24,intV (q:Int))]∧Sat W0 [rowT RI (.slice an (QI T9 ids9).length cn) (QI T9 ids9),Zp a T9 last9,Yb a.c C9,Yr a.b p 0 m9 0 0 A9,F]∧(q≤(QI T9 ids9).length)) (L0:=[(0,_),(3,_),(4,_),(6,_),(7,_),(23,_),(24,_)]) ((QI T9 ids9).length) (DW U U U U U U U) ⟨0,rfl,rfl,j70.pick [0,1,2,3,4] U, by omega⟩ ?_
  rintro _ _ w71 ⟨q,rfl,rfl,j71,hq⟩
  refine Qe (Qe (Qa (Qb U U (Qb U U (Xo 0 j71 underlying40 U U U (Xn U U U (Qf (Qc (Qh [24,23,7,6,4,3,0,233] U (Qt U (fun h72=> ?_) (fun h72=> ?_)))))))))))
  ·obtain⟨x,hxq⟩: ∃x,(QI T9 ids9)[q]? =some x:=⟨_,Zd (by omega)⟩
   obtain⟨hx1,hx2,hx3⟩:=JD hT9.q.tri hT9.q.few.1 hxq
   obtain⟨_,_,px,hpx,_⟩:=hT9.q.tri.par hx2 hx3
   have hnn9:=W7 (T:=T9) (ids:=ids9); have hl9:=hT9.len
   refine Qs (Qc (Qe (Qw (Qe ?_))))
   obtain⟨ob,oc9,hq9,hcap⟩:=j71.own_at 0 rfl (by omega)
   cases hq9
   have j73:=j71.drew
   refine QH [0,1,2,3,4,5,6,7,8,9,10,11,12,13,14,15,16,17,18,19,20,21,22,23,24,25,26,27,28,29,30,31,32,33,34] [13] ZW (by kernel_rfl) ?_
   refine QJ U U U (QJ U U U (Xh U U U (fun _=>(ZF q U U (by first | rfl | omega) (by first | omega | exact(XL hxq).1) Um)) ?_))
   refine QP U U U JV (Q3 U U U (W9 RI 0 q 1 j73 U hxq QM U U) (Xh U U U (fun _=>(Bw U U)) ?_))
   refine QJ U U U (YN 242 U (fun h74=> ?_) (fun h74=> ?_))
   ·refine Xh U U (Q4 U U (det h74)) (fun _=>(Ev.gd (Xk U))) ?_
    refine Xh U U (Q4 U U (det h74)) (fun _=>(Ev.gd (Xk U))) ?_
    refine Xh U U (Q4 U U (det h74)) (fun _=>(Ev.gd (Xk U))) ?_
    refine Xh U U (Q4 U U (det h74)) (fun _=>(Ev.gd (ZF q U U (by first | rfl | omega) (by first | omega | exact(XL hxq).1) Um))) ?_
    refine Xh U U (Q4 U U (det h74)) (fun _=>(Ev.gd (XU U JV))) ?_
    refine Q3 U U (Q4 U U (det h74)) (Ev.gd (W9 RI 0 q 1 j73 U hxq QM U U)) (Xl U U (Q4 U U (det h74)) U U U ?_)
    refine Xr Ug U (Y7 (j73.sp [1] U) x.par) U ?_
    rintro e w75 ⟨_,rfl,(⟨hq1,_,j75⟩ | ⟨_,vz,rfl,j75⟩)⟩
    ·exact absurd hq1 (by rw[hpx]; simp)
    refine⟨_,U, ?_⟩
    replace j75:=j75.jn U U
    refine XH (Xq (by kernel_rfl)) ?_
    refine Xh U U (Q4 U U (det h74)) (fun _=>(Ev.gd (DG underlying28 U U))) ?_
    refine Xh U U U (fun _=>(HD U (det h74) U)) ?_
    refine QJ U U U (Xh U U (Q4 U U U) (fun _=>(Ev.gd (Xk U))) ?_)
    refine Xh U U (Q4 U U U) (fun _=>(Ev.gd (M3 U U))) ?_
    refine Xh U U (Q4 U U U) (fun _=>(Ev.gd (Xk U))) ?_
    refine YN 255 U (fun h76=> ?_) (fun h76=> ?_)
    ·have hq1:0<(q:Int):=h76
     obtain⟨z,hz⟩: ∃z,(QI T9 ids9)[(max ((q:Int) -1) 0).toNat]? =some z:=⟨_,Zd (by omega)⟩
     have hzx:z.id<x.id:=D6 hT9.q.tri hT9.q.few.1 (k:=q -1) (by rw[show q -1=(max ((q:Int) -1) 0).toNat by omega]; exact hz) (by rw[show q -1+1=q by omega]; exact hxq)
     refine Xh U U (Q4 U U (det h76)) (fun _=>(Ev.gd (Xk U))) ?_
     refine Xh U U (Q4 U U (det h76)) (fun _=>(Ev.gd (Xk U))) ?_
     refine Xh U U (Q4 U U (det h76)) (fun _=>(Ev.gd (ZF q U U (by first | rfl | omega) (by first | omega | exact(XL hxq).1) Um))) ?_
     refine Xh U U (Q4 U U (det h76)) (fun _=>(Ev.gd (XU U J5))) ?_
     refine Q3 U U (Q4 U U (det h76)) (Ev.gd (W9 RI 2 q 0 j75 U hxq QM U U)) (Xh U U (Q4 U U (det h76)) (fun _=>(Ev.gd (Xk U))) ?_)
     refine Xh U U (Q4 U U (det h76)) (fun _=>(Ev.gd (Xk U))) ?_
     refine Xh U U (Q4 U U (det h76)) (fun _=>(Ev.gd (Gp U U (by omega) (by omega)))) ?_
     refine Xh U U (Q4 U U (det h76)) (fun _=>(Ev.gd (Gq U U))) ?_
     refine Xh U U (Q4 U U (det h76)) (fun _=>(Ev.gd (ZF (max ((q:Int) -1) 0).toNat U U (by first | rfl | omega) (by first | omega | exact(XL hz).1) Um))) ?_
     refine Xh U U (Q4 U U (det h76)) (fun _=>(Ev.gd (XU U J5))) ?_
     refine Q3 U U (Q4 U U (det h76)) (Ev.gd (W9 RI 2 (max ((q:Int) -1) 0).toNat 0 j75 U hz QM U U)) (Xh U U (Q4 U U (det h76)) (fun _=>(Ev.gd (Nu U U))) ?_)
     refine Xh U U (Q4 U U U) (fun _=>(Ev.gd (HD U (det h76) U))) ?_
     refine Xh U U U (fun _=>(ZZ U U U)) ?_
     refine VC.nil (Qc (Qh [24,23,7,6,4,3,0,270] U (Qt U (fun h77=> ?_) (fun h77=> ?_))))
     ·exact absurd h77 (by omega)
     refine Qs (Ql (Qc (Qa (Qb U U (QK U U (by omega) (by omega) U ?_)))))
     refine Qd U U (Qf ?_)
     exact Q5 (L1:=[(0,_),(3,_),(4,_),(6,_),(7,_),(23,_),(24,intV ((q+1:Nat):Int))]) (DW U U U U U U U) (k1:=(QI T9 ids9).length -(q+1)) (by omega) ⟨q+1,rfl,rfl,j75.pick [2,1,3,4,5] U, by omega⟩
    refine X7 U U (QY U U (QF h76)) (X7 U U (QY U U (QF h76)) (X7 U U (QY U U (QF h76)) (X7 U U (QY U U (QF h76)) (X7 U U (QY U U (QF h76)) (X7 U U (QY U U (QF h76)) (X7 U U (QY U U (QF h76)) (X7 U U (QY U U (QF h76)) (X7 U U (QY U U (QF h76)) (X7 U U (QY U U (QF h76)) (X7 U U (QY U U (QF h76)) (X7 U U (QY U U (QF h76)) (X7 U U (QY U U (QF h76)) (Xh U U (Q4 U U U) (fun _=>(Ev.gd (ZZ U (QF h76) U))) ?_)))))))))))))
    refine Xh U U U (fun _=>(ZZ U U U)) ?_
    refine VC.nil (Qc (Qh [24,23,7,6,4,3,0,270] U (QL U (Qs (Ql (Qc (Qa (Qb U U (QK U U (by omega) (by omega) U ?_)))))))))
    refine Qd U U (Qf ?_)
    exact Q5 (L1:=[(0,_),(3,_),(4,_),(6,_),(7,_),(23,_),(24,intV ((q+1:Nat):Int))]) (DW U U U U U U U) (k1:=(QI T9 ids9).length -(q+1)) (by omega) ⟨q+1,rfl,rfl,j75.pick [2,1,3,4,5] U, by omega⟩
   refine X7 U U (QY U U (QF h74)) (X7 U U (QY U U (QF h74)) (X7 U U (QY U U (QF h74)) (X7 U U (QY U U (QF h74)) (X7 U U (QY U U (QF h74)) (X7 U U (QY U U (QF h74)) (VC.spineNot U U (QY U U (QF h74)) (X7 U U (QY U U (QF h74)) (Xh U U U (fun _=>(ZZ U (QF h74) U)) ?_))))))))
   refine QJ U U U (Xh U U (Q4 U U U) (fun _=>(Ev.gd (Xk U))) ?_)
   refine Xh U U (Q4 U U U) (fun _=>(Ev.gd (M3 U U))) ?_
   refine Xh U U (Q4 U U U) (fun _=>(Ev.gd (Xk U))) ?_
   refine YN 255 U (fun h78=> ?_) (fun h78=> ?_)
   ·have hq1:0<(q:Int):=h78
    obtain⟨z,hz⟩: ∃z,(QI T9 ids9)[(max ((q:Int) -1) 0).toNat]? =some z:=⟨_,Zd (by omega)⟩
    have hzx:z.id<x.id:=D6 hT9.q.tri hT9.q.few.1 (k:=q -1) (by rw[show q -1=(max ((q:Int) -1) 0).toNat by omega]; exact hz) (by rw[show q -1+1=q by omega]; exact hxq)
    refine Xh U U (Q4 U U (det h78)) (fun _=>(Ev.gd (Xk U))) ?_
    refine Xh U U (Q4 U U (det h78)) (fun _=>(Ev.gd (Xk U))) ?_
    refine Xh U U (Q4 U U (det h78)) (fun _=>(Ev.gd (ZF q U U (by first | rfl | omega) (by first | omega | exact(XL hxq).1) Um))) ?_
    refine Xh U U (Q4 U U (det h78)) (fun _=>(Ev.gd (XU U J5))) ?_
    refine Q3 U U (Q4 U U (det h78)) (Ev.gd (W9 RI 0 q 0 j73 U hxq QM U U)) (Xh U U (Q4 U U (det h78)) (fun _=>(Ev.gd (Xk U))) ?_)
    refine Xh U U (Q4 U U (det h78)) (fun _=>(Ev.gd (Xk U))) ?_
    refine Xh U U (Q4 U U (det h78)) (fun _=>(Ev.gd (Gp U U (by omega) (by omega)))) ?_
    refine Xh U U (Q4 U U (det h78)) (fun _=>(Ev.gd (Gq U U))) ?_
    refine Xh U U (Q4 U U (det h78)) (fun _=>(Ev.gd (ZF (max ((q:Int) -1) 0).toNat U U (by first | rfl | omega) (by first | omega | exact(XL hz).1) Um))) ?_
    refine Xh U U (Q4 U U (det h78)) (fun _=>(Ev.gd (XU U J5))) ?_
    refine Q3 U U (Q4 U U (det h78)) (Ev.gd (W9 RI 0 (max ((q:Int) -1) 0).toNat 0 j73 U hz QM U U)) (Xh U U (Q4 U U (det h78)) (fun _=>(Ev.gd (Nu U U))) ?_)
    refine Xh U U (Q4 U U U) (fun _=>(Ev.gd (HD U (det h78) U))) ?_
    refine Xh U U U (fun _=>(ZZ U U U)) ?_
    refine VC.nil (Qc (Qh [24,23,7,6,4,3,0,270] U (Qt U (fun h79=> ?_) (fun h79=> ?_))))
    ·exact absurd h79 (by omega)
    refine Qs (Ql (Qc (Qa (Qb U U (QK U U (by omega) (by omega) U ?_)))))
    refine Qd U U (Qf ?_)
    exact Q5 (L1:=[(0,_),(3,_),(4,_),(6,_),(7,_),(23,_),(24,intV ((q+1:Nat):Int))]) (DW U U U U U U U) (k1:=(QI T9 ids9).length -(q+1)) (by omega) ⟨q+1,rfl,rfl,j73.pick [0,1,2,3,4] U, by omega⟩
   refine X7 U U (QY U U (QF h78)) (X7 U U (QY U U (QF h78)) (X7 U U (QY U U (QF h78)) (X7 U U (QY U U (QF h78)) (X7 U U (QY U U (QF h78)) (X7 U U (QY U U (QF h78)) (X7 U U (QY U U (QF h78)) (X7 U U (QY U U (QF h78)) (X7 U U (QY U U (QF h78)) (X7 U U (QY U U (QF h78)) (X7 U U (QY U U (QF h78)) (X7 U U (QY U U (QF h78)) (X7 U U (QY U U (QF h78)) (Xh U U (Q4 U U U) (fun _=>(Ev.gd (ZZ U (QF h78) U))) ?_)))))))))))))
   refine Xh U U U (fun _=>(ZZ U U U)) ?_
   refine VC.nil (Qc (Qh [24,23,7,6,4,3,0,270] U (QL U (Qs (Ql (Qc (Qa (Qb U U (QK U U (by omega) (by omega) U ?_)))))))))
   refine Qd U U (Qf ?_)
   exact Q5 (L1:=[(0,_),(3,_),(4,_),(6,_),(7,_),(23,_),(24,intV ((q+1:Nat):Int))]) (DW U U U U U U U) (k1:=(QI T9 ids9).length -(q+1)) (by omega) ⟨q+1,rfl,rfl,j73.pick [0,1,2,3,4] U, by omega⟩
  refine QT (Qq (Qq (Qy (Ql (Qc (Qa (Qb U U (QK U U (by omega) (by omega) U ?_))))))))
  refine Qd U U (Qf ?_)
  exact Q5 (L1:=[(0,_),(3,_),(4,_),(6,_),(7,intV ((i+1:Nat):Int))]) (Ym U U U U U) (k1:=l.length -(i+1)) (by omega) ⟨i+1,T9,last9,C9,A9,ids9,m9,rfl,rfl,j71.pick [1,2,3,4] U, by omega,hT9⟩
 refine QT (Qq (Qq (Qy (Qc (Qe ?_)))))
 have hla:=hT.la; have hl0:=hT.q.tri.last0
 refine Qa (Qb U U (Qb U U (Xw 272 U (fun h80=> ?_) (fun h80=> ?_))))
 ·refine Qj U U h80 (Qb U U (Qj U U h80 (Xr Ug U (Y7 (j5.sp [0] U) 0) U ?_)))
  rintro e w81 ⟨_,rfl,(⟨hq1,_,j81⟩ | ⟨_,vz,rfl,j81⟩)⟩
  ·exact absurd hq1 (by obtain⟨r,hr,_⟩:=hT.q.tri.root; rw[hr]; simp)
  refine⟨_,U, ?_⟩
  replace j81:=j81.jn U U
  refine Qj U U h80 (ZB underlying28 U U U (QN U h80 U U (Qb U U (Qj U U U (Qb U U (Qj U U U (Qb U U (Qj U U U (QK U U (by omega) (by omega) U ?_)))))))))
  refine Qj U U U (Xr Ug U (Y7 (j81.sp [1] U) (last+1)) U ?_)
  rintro e w82 ⟨_,rfl,(⟨hq1,rfl,j82⟩ | ⟨hq2,vy,_,j82⟩)⟩
  ·refine⟨_,U, ?_⟩
   replace j82:=j82.jn U U
   refine Qj U U U (Jh underlying28 U U U (QN U U U U (Qd U U (Qf (Qc (Qh [2] U (Qv (QR (.inr U) U U ?_))))))))
   exact⟨_,rfl, by first | rfl | (congr 1;decide),j82.pick [4] U⟩
  exact absurd (by cases q9:T (last+1)with | none=>rfl | some z=>(have :=hT.q.tri.pos q9 (by have :=hT.q.tri.last0;omega);omega)) hq2
 first | exact absurd (by decide) h80 | exact absurd U h80 | exact absurd h80 (by decide)
