/- laws of leaves: text, do -/
import Derived.Test.YtkcjfoaejijdoaaGreatDoorLv61
import Derived.Test.YtkcjfoaejijdoaaGreatDoorWb
import Derived.Test.YtkcjfoaejijdoaaGreatDoorLv33
set_option linter.unusedSectionVars false
set_option linter.unusedVariables false
set_option maxRecDepth 100000
set_option maxHeartbeats 80000000000
namespace Go.Proofs.YtkcjfoaejijdoaaGreatDoor
open Go.RowKit M
variable [Inhabited SlW]
theorem text_sp {w:World} {F:Th} {lv:Value} {l:List Int} (hS:Sat w [rowT inC lv l,F]) (hl:l.length≤100000):
    Calls Tryz.prog 65 #[lv] w (Ret fun v w'=> ∃s:Bs,v=strV s∧s.length≤3*l.length∧Sat w' [rowT inC lv l,F]):= by
 obtain⟨al,cp,rfl,_⟩:=hS.own_shape 0 rfl
 refine Qm Tryz.func65 U Tryz.ntmps65 U ?_
 refine Qd (Qa (Qe U U (Qf (Qc (Qd (Qa (Qe U U (Qf (Qc (Qd (Qd (Qa (Qe U U (Qf (Qc (Qv ?_))))))))))))))))
 refine Xb (fun K0 E0 W0=> ∃(i:Nat) (s:Bs),K0=l.length -i∧E0=[(0,.slice al l.length cp),(3,strV s),(4,intV (i:Int))]∧Sat W0 [rowT inC (.slice al l.length cp) l,F]∧(i≤l.length)∧(s.length=3*i)) (L0:=[(0,_),(3,_),(4,_)]) (l.length -0) (RB U U U) ⟨0,[],rfl,rfl,hS.pick [0,1] U, by omega,rfl⟩ ?_
 rintro _ _ w1 ⟨i,s,rfl,rfl,hS1,hi,hsl⟩
 refine Qd (Qd (Qa (Qb U U (Qb U U ?_))))
 first | refine Xr Tryz.underlying47 U U ?_ | refine ZG 0 hS1 Tryz.underlying47 U U U ?_
 refine Xg U U U (Qf (Qc (Qs U (fun h2=> ?_) (fun h2=> ?_))))
 ·refine Qt (Qc (Qd (Qv ?_)))
  obtain⟨x,hx⟩: ∃x,l[i]? =some x:=⟨_,Zi (by omega)⟩
  obtain⟨lb,lc9,hql,_⟩:=hS1.own_at 0 rfl (by omega); cases hql
  have hS3:=hS1.drew
  refine QF [0,1,2,3,4,5,6,7,8,9,10,11,12,13,14,15,16] [12] We (by kernel_rfl) ?_
  refine QG U U U (QG U U U (QG U U U (X8 U U U (fun _=>(J7 i U U (by rfl) (by omega) JQ)) ?_)))
  refine Q4 U U U (HC inC 0 i 0 hS3 U hx QL U U) (X8 U U U (fun _=>(ev_shr 8 U U U U (q:=256) U)) ?_)
  refine X8 U U U (fun _=>(Uj Tryz.underlying3 Tryz.underlying5 U (Bk _))) ?_
  refine QG U U U (QG U U U (X8 U U U (fun _=>(J7 i U U (by rfl) (by omega) JQ)) ?_))
  refine Q4 U U U (HC inC 0 i 0 hS3 U hx QL U U) (X8 U U U (fun _=>(Uj Tryz.underlying3 Tryz.underlying5 U (Bk _))) ?_)
  refine Xn U U U U U U ?_
  refine Zf byC [b8 (x/ 256),b8 x] hS3 U Tryz.underlying143 ifz_5 U U U U (by rfl) rfl ?_
  intro bz w4 hS4
  clear hS3
  refine XQ (X1 (by kernel_rfl)) ?_
  refine Q4 U U U (Tx 0 hS4 [b8 (x/ 256),b8 x] U U U Tryz.underlying143 Tryz.underlying5 Tryz.underlying9 U U) ?_
  refine X8 U U U (fun _=>(M8 U U (by(simp;omega)))) ?_
  refine X8 U U U (fun _=>(M8 U U (by(simp;omega)))) ?_
  refine Za U U U (VC.nil (Qk (Qc (Qh [4,0,3] U (Qa (Qb U U ?_))))))
  refine QI U U (by first | omega | (simp;omega)) (by first | omega | (simp;omega)) U ?_
  refine Qe U U (Qf ?_)
  exact Q0 (L1:=[(0,_),(3,_),(4,intV ((i+1:Nat):Int))]) (RB U U U) (k1:=l.length -(i+1)) (by omega) ⟨i+1,_,rfl,rfl,hS4.pick [1,2] U, by omega, by simp;omega⟩
 refine QM (Qo (Qo (Qx (Qc (Qd (Qa (Qb U U (Qe U U (Qf (Qc (Qu (QR (.inr U) U U ?_))))))))))))
 exact⟨_,rfl,s,rfl, by omega,hS1.pick [0,1] U⟩
theorem do_sp {w:World} {b p Fr n i:Nat} {A:LvA} {F:Th} (hS:Sat w [Kb b p Fr n i A,F]) (hn:n+100000000≤60000000000) (hi:i≤60) {x:AcL} (hf:FewL x) (h13:x.dk%14≠13):
    Calls Tryz.prog 20 #[ptrV b 0,ptrV p 0,.agg #[intV x.dk,intV x.idn,strV x.ob,strV x.to,intV x.first,intV x.n,intV x.at_,intV x.bb]] w (Ret fun v w'=> ∃A',Sat w' [Kb b p Fr (n+100000000) (i+1) A',F]):= by
 refine Qm Tryz.func20 U Tryz.ntmps20 U ?_
 obtain⟨f1,f2,f3,f4,f5,f6,f7,f8⟩:=hf
 refine Qd (Qa (Zd hS U U U ?_))
 intro qb w1 hS1
 refine QX hS1 LU U U ?_
 intro rb w2 hS2
 clear hS1
 refine Qf (Qc (Qd (Qa (Zu U pl_45_ asz_45 LU U U (QX hS2 LU U U ?_)))))
 intro gb w3 hS3
 clear hS2
 (refine QK hS3 U U ZE U (by rfl) (i:=0) U (by decide) ?_)
 intro w4 hS5; dsimp only[List.set]at hS5
 clear hS3
 refine Qf (Qc (Qd (Qd (Qa (Qg U S3 U (Qn U QL (hS5.cell 2 U U) U (Qw OS U (Sc (hS5.sp [] U) x.dk 14 (by omega)) U ?_)))))))
 rintro _ w6 ⟨rfl,hS6⟩
 replace hS6:=hS6.jn U U
 clear hS5
 refine Qf (Qc (Qv (Qd (Qa (Xd U U U (Qe U U (Qf (Qc (Qh [1,0,5,6,7,11,29] U (Qs U (fun h7=> ?_) (fun h7=> ?_)))))))))))
 ·refine Qa (Qb U U (Qg U Ym U (Qn U QL (hS6.cell 2 U U) U (Qg U GZ U (Qn U QL (hS6.cell 2 U U) U (Qw OY U (Aw (hS6.sp [3] U) hn hi x.idn x.bb) U ?_))))))
  rintro _ w8 ⟨⟨e1,rfl⟩,A1,hS8⟩
  replace hS8:=hS8.jn U U
  clear hS6
  refine Qg U Ri U ?_
  (refine Q6 hS8 U U ZK (by rfl) (i:=1) U (by decide) ?_)
  intro w9 hS10; dsimp only[List.set]at hS10
  clear hS8
  refine Qf (Qk (Qc (Qh [6,7] U (Qd (Qa ?_)))))
  refine Xt U WO ZE (by first | exact hS10.blk 1 U | exact hS10.blk 2 U | exact hS10.blk 3 U) (by first | decide | exact Xa U | (simp;done) | omega) U U ?_
  (refine QK hS10 U U ZE U (by rfl) (i:=2) U (by decide) ?_)
  intro w11 hS12; dsimp only[List.set]at hS12
  clear hS10
  refine Qf (Qc (Qu ?_))
  refine Ug (.inr U) U (YT U WO ZE (by first | exact hS12.blk 1 U | exact hS12.blk 2 U | exact hS12.blk 3 U) (by first | decide | exact Xa U | (simp;done) | omega) U) ?_
  exact⟨_,rfl,A1,hS12.pick [0,4] U⟩
 refine Qd (Qd (Qa (Xd U U U (Qe U U (Qf (Qc (Qs U (fun h13=> ?_) (fun h13=> ?_))))))))
 ·refine Qt (Qc (DX U (Xl h13) (Qa (Qb U U (Qg U Ym U (Qn U QL (hS6.cell 2 U U) U (Qg U Hc U (Qn U WC (hS6.cell 2 U U) U (Qg U HB U (Qn U QL (hS6.cell 2 U U) U (Qw Gh U (Sn (hS6.sp [3] U) hn hi x.idn x.ob x.at_) U ?_)))))))))))
  rintro _ w14 ⟨⟨y1,rfl⟩,A1,hS14⟩
  replace hS14:=hS14.jn U U
  clear hS6
  refine Vi Tryz.underlying5 Tryz.underlying3 U (M.wrap64 (a:=(y1.toNat:Int)) (by omega) (by have :=y1.toNat_lt;omega)) U ?_
  refine Qg U Tv U ?_
  (refine Q6 hS14 U U JG (by rfl) (i:=1) U (by decide) ?_)
  intro w15 hS16; dsimp only[List.set]at hS16
  clear hS14
  refine Qf (Qk (Qc (Qh [6,7] U (Qd (Qa ?_)))))
  refine Xt U WO ZE (by first | exact hS16.blk 1 U | exact hS16.blk 2 U | exact hS16.blk 3 U) (by first | decide | exact Xa U | (simp;done) | omega) U U ?_
  (refine QK hS16 U U ZE U (by rfl) (i:=2) U (by decide) ?_)
  intro w17 hS18; dsimp only[List.set]at hS18
  clear hS16
  refine Qf (Qc (Qu ?_))
  refine Ug (.inr U) U (YT U WO ZE (by first | exact hS18.blk 1 U | exact hS18.blk 2 U | exact hS18.blk 3 U) (by first | decide | exact Xa U | (simp;done) | omega) U) ?_
  exact⟨_,rfl,A1,hS18.pick [0,4] U⟩
 refine Qa (Xd U U U (Qe U U (Qf (Qc (Qs U (fun h19=> ?_) (fun h19=> ?_))))))
 ·refine Qa (Qb U U (Qg U Ym U (Qn U QL (hS6.cell 2 U U) U (Qg U Hc U (Qn U WC (hS6.cell 2 U U) U (Qg U HB U (Qn U QL (hS6.cell 2 U U) U (Qw Gh U (Sn (hS6.sp [3] U) hn hi x.idn x.ob x.at_) U ?_))))))))
  rintro _ w20 ⟨⟨y1,rfl⟩,A1,hS20⟩
  replace hS20:=hS20.jn U U
  clear hS6
  refine Vi Tryz.underlying5 Tryz.underlying3 U (M.wrap64 (a:=(y1.toNat:Int)) (by omega) (by have :=y1.toNat_lt;omega)) U ?_
  refine Qg U Tv U ?_
  (refine Q6 hS20 U U JG (by rfl) (i:=1) U (by decide) ?_)
  intro w21 hS22; dsimp only[List.set]at hS22
  clear hS20
  refine Qf (Qk (Qc (Qh [6,7] U (Qd (Qa ?_)))))
  refine Xt U WO ZE (by first | exact hS22.blk 1 U | exact hS22.blk 2 U | exact hS22.blk 3 U) (by first | decide | exact Xa U | (simp;done) | omega) U U ?_
  (refine QK hS22 U U ZE U (by rfl) (i:=2) U (by decide) ?_)
  intro w23 hS24; dsimp only[List.set]at hS24
  clear hS22
  refine Qf (Qc (Qu ?_))
  refine Ug (.inr U) U (YT U WO ZE (by first | exact hS24.blk 1 U | exact hS24.blk 2 U | exact hS24.blk 3 U) (by first | decide | exact Xa U | (simp;done) | omega) U) ?_
  exact⟨_,rfl,A1,hS24.pick [0,4] U⟩
 refine Qd (Qd (Qa (Xd U U U (Qe U U (Qf (Qc (Qh [1,0,5,6,7,11,51] U (Qs U (fun h25=> ?_) (fun h25=> ?_)))))))))
 ·refine Qt (Qc (DX U (Xl h25) (Qa (Qb U U (Qg U Ym U (Qn U QL (hS6.cell 2 U U) U (Qg U Hc U (Qn U WC (hS6.cell 2 U U) U (Qg U HB U (Qn U QL (hS6.cell 2 U U) U (Qg U GZ U (Qn U QL (hS6.cell 2 U U) U (Vi Tryz.underlying3 Tryz.underlying5 U (Bk x.bb) U (Qw Gi U (Sm (hS6.sp [3] U) hn hi x.idn x.ob x.at_ (b8 x.bb)) U ?_))))))))))))))
  rintro _ w26 ⟨⟨e1,rfl⟩,A1,hS26⟩
  replace hS26:=hS26.jn U U
  clear hS6
  refine Qg U Ri U ?_
  (refine Q6 hS26 U U ZK (by rfl) (i:=1) U (by decide) ?_)
  intro w27 hS28; dsimp only[List.set]at hS28
  clear hS26
  refine Qf (Qk (Qc (Qh [6,7] U (Qd (Qa ?_)))))
  refine Xt U WO ZE (by first | exact hS28.blk 1 U | exact hS28.blk 2 U | exact hS28.blk 3 U) (by first | decide | exact Xa U | (simp;done) | omega) U U ?_
  (refine QK hS28 U U ZE U (by rfl) (i:=2) U (by decide) ?_)
  intro w29 hS30; dsimp only[List.set]at hS30
  clear hS28
  refine Qf (Qc (Qu ?_))
  refine Ug (.inr U) U (YT U WO ZE (by first | exact hS30.blk 1 U | exact hS30.blk 2 U | exact hS30.blk 3 U) (by first | decide | exact Xa U | (simp;done) | omega) U) ?_
  exact⟨_,rfl,A1,hS30.pick [0,4] U⟩
 refine Qa (Xd U U U (Qe U U (Qf (Qc (Qs U (fun h31=> ?_) (fun h31=> ?_))))))
 ·refine Qa (Qb U U (Qg U Ym U (Qn U QL (hS6.cell 2 U U) U (Qg U Hc U (Qn U WC (hS6.cell 2 U U) U (Qg U HB U (Qn U QL (hS6.cell 2 U U) U (Qg U GZ U (Qn U QL (hS6.cell 2 U U) U (Vi Tryz.underlying3 Tryz.underlying5 U (Bk x.bb) U (Qw Gi U (Sm (hS6.sp [3] U) hn hi x.idn x.ob x.at_ (b8 x.bb)) U ?_)))))))))))
  rintro _ w32 ⟨⟨e1,rfl⟩,A1,hS32⟩
  replace hS32:=hS32.jn U U
  clear hS6
  refine Qg U Ri U ?_
  (refine Q6 hS32 U U ZK (by rfl) (i:=1) U (by decide) ?_)
  intro w33 hS34; dsimp only[List.set]at hS34
  clear hS32
  refine Qf (Qk (Qc (Qh [6,7] U (Qd (Qa ?_)))))
  refine Xt U WO ZE (by first | exact hS34.blk 1 U | exact hS34.blk 2 U | exact hS34.blk 3 U) (by first | decide | exact Xa U | (simp;done) | omega) U U ?_
  (refine QK hS34 U U ZE U (by rfl) (i:=2) U (by decide) ?_)
  intro w35 hS36; dsimp only[List.set]at hS36
  clear hS34
  refine Qf (Qc (Qu ?_))
  refine Ug (.inr U) U (YT U WO ZE (by first | exact hS36.blk 1 U | exact hS36.blk 2 U | exact hS36.blk 3 U) (by first | decide | exact Xa U | (simp;done) | omega) U) ?_
  exact⟨_,rfl,A1,hS36.pick [0,4] U⟩
 refine Qd (Qa (Xd U U U (Qe U U (Qf (Qc (Qs U (fun h37=> ?_) (fun h37=> ?_)))))))
 ·refine Qa (Qb U U (Qg U Ym U (Qn U QL (hS6.cell 2 U U) U (Qg U Hc U (Qn U WC (hS6.cell 2 U U) U (Qg U Ba U (Qn U QL (hS6.cell 2 U U) U (Qg U Rj U (Qn U QL (hS6.cell 2 U U) U (Qg U Sz U (Qn U WC (hS6.cell 2 U U) U (Qg U HB U (Qn U QL (hS6.cell 2 U U) U (Qw OO U (lx_copy (hS6.sp [3] U) hn hi x.idn x.ob x.to x.first x.n x.at_ (by omega) (by omega) (by omega)) U ?_))))))))))))))
  rintro _ w38 ⟨A1,hS38⟩
  replace hS38:=hS38.jn U U
  clear hS6
  refine Qf (Qk (Qc (Qh [6,7] U (Qd (Qa ?_)))))
  refine Xt U WO ZE (by first | exact hS38.blk 1 U | exact hS38.blk 2 U | exact hS38.blk 3 U) (by first | decide | exact Xa U | (simp;done) | omega) U U ?_
  (refine QK hS38 U U ZE U (by rfl) (i:=2) U (by decide) ?_)
  intro w39 hS40; dsimp only[List.set]at hS40
  clear hS38
  refine Qf (Qc (Qu ?_))
  refine Ug (.inr U) U (YT U WO ZE (by first | exact hS40.blk 1 U | exact hS40.blk 2 U | exact hS40.blk 3 U) (by first | decide | exact Xa U | (simp;done) | omega) U) ?_
  exact⟨_,rfl,A1,hS40.pick [0,4] U⟩
 refine Qd (Qa (Xd U U U (Qe U U (Qf (Qc (Qh [1,0,5,6,7,11,82] U (Qs U (fun h41=> ?_) (fun h41=> ?_))))))))
 ·refine Qa (Qb U U (Qg U Ym U (Qn U QL (hS6.cell 2 U U) U (Qg U Hc U (Qn U WC (hS6.cell 2 U U) U (Qw PF U (lx_drop (hS6.sp [3] U) hn hi x.idn x.ob) U ?_))))))
  rintro _ w42 ⟨A1,hS42⟩
  replace hS42:=hS42.jn U U
  clear hS6
  refine Qf (Qk (Qc (Qh [6,7] U (Qd (Qa ?_)))))
  refine Xt U WO ZE (by first | exact hS42.blk 1 U | exact hS42.blk 2 U | exact hS42.blk 3 U) (by first | decide | exact Xa U | (simp;done) | omega) U U ?_
  (refine QK hS42 U U ZE U (by rfl) (i:=2) U (by decide) ?_)
  intro w43 hS44; dsimp only[List.set]at hS44
  clear hS42
  refine Qf (Qc (Qu ?_))
  refine Ug (.inr U) U (YT U WO ZE (by first | exact hS44.blk 1 U | exact hS44.blk 2 U | exact hS44.blk 3 U) (by first | decide | exact Xa U | (simp;done) | omega) U) ?_
  exact⟨_,rfl,A1,hS44.pick [0,4] U⟩
 refine Qd (Qa (Xd U U U (Qe U U (Qf (Qc (Qs U (fun h45=> ?_) (fun h45=> ?_)))))))
 ·refine Qa (Qb U U (Qg U Ym U (Qn U QL (hS6.cell 2 U U) U (Qg U Hc U (Qn U WC (hS6.cell 2 U U) U (Qg U HB U (Qn U QL (hS6.cell 2 U U) U (Qg U GZ U (Qn U QL (hS6.cell 2 U U) U (wl_mask 1 U U U U (q:=2) U U (Xd U U U (Qw cal_63 U (lx_note (hS6.sp [3] U) hn hi x.idn x.ob x.at_ (decide (x.bb%2=1))) U ?_))))))))))))
  rintro _ w46 ⟨A1,hS46⟩
  replace hS46:=hS46.jn U U
  clear hS6
  refine Qf (Qk (Qc (Qh [6,7] U (Qd (Qa ?_)))))
  refine Xt U WO ZE (by first | exact hS46.blk 1 U | exact hS46.blk 2 U | exact hS46.blk 3 U) (by first | decide | exact Xa U | (simp;done) | omega) U U ?_
  (refine QK hS46 U U ZE U (by rfl) (i:=2) U (by decide) ?_)
  intro w47 hS48; dsimp only[List.set]at hS48
  clear hS46
  refine Qf (Qc (Qu ?_))
  refine Ug (.inr U) U (YT U WO ZE (by first | exact hS48.blk 1 U | exact hS48.blk 2 U | exact hS48.blk 3 U) (by first | decide | exact Xa U | (simp;done) | omega) U) ?_
  exact⟨_,rfl,A1,hS48.pick [0,4] U⟩
 refine Qd (Qa (Xd U U U (Qe U U (Qf (Qc (Qh [1,0,5,6,7,11,104] U (Qs U (fun h49=> ?_) (fun h49=> ?_))))))))
 ·refine Qa (Qb U U (Qg U Ym U (Qn U QL (hS6.cell 2 U U) U (Qg U Hc U (Qn U WC (hS6.cell 2 U U) U (Qg U Ba U (Qn U QL (hS6.cell 2 U U) U (Qw cal_64 U (lx_own (hS6.sp [3] U) hn hi x.idn x.ob x.first) U ?_))))))))
  rintro _ w50 ⟨⟨e1,rfl⟩,A1,hS50⟩
  replace hS50:=hS50.jn U U
  clear hS6
  refine Qg U Ri U ?_
  (refine Q6 hS50 U U ZK (by rfl) (i:=1) U (by decide) ?_)
  intro w51 hS52; dsimp only[List.set]at hS52
  clear hS50
  refine Qf (Qk (Qc (Qh [6,7] U (Qd (Qa ?_)))))
  refine Xt U WO ZE (by first | exact hS52.blk 1 U | exact hS52.blk 2 U | exact hS52.blk 3 U) (by first | decide | exact Xa U | (simp;done) | omega) U U ?_
  (refine QK hS52 U U ZE U (by rfl) (i:=2) U (by decide) ?_)
  intro w53 hS54; dsimp only[List.set]at hS54
  clear hS52
  refine Qf (Qc (Qu ?_))
  refine Ug (.inr U) U (YT U WO ZE (by first | exact hS54.blk 1 U | exact hS54.blk 2 U | exact hS54.blk 3 U) (by first | decide | exact Xa U | (simp;done) | omega) U) ?_
  exact⟨_,rfl,A1,hS54.pick [0,4] U⟩
 refine Qd (Qa (Xd U U U (Qe U U (Qf (Qc (Qs U (fun h55=> ?_) (fun h55=> ?_)))))))
 ·refine Qa (Qb U U (Qg U Ym U (Qn U QL (hS6.cell 2 U U) U (Qw OX U (Lg (hS6.sp [3] U) hn hi x.idn) U ?_))))
  rintro _ w56 ⟨⟨e1,rfl⟩,A1,hS56⟩
  replace hS56:=hS56.jn U U
  clear hS6
  refine Qg U Ri U ?_
  (refine Q6 hS56 U U ZK (by rfl) (i:=1) U (by decide) ?_)
  intro w57 hS58; dsimp only[List.set]at hS58
  clear hS56
  refine Qf (Qk (Qc (Qh [6,7] U (Qd (Qa ?_)))))
  refine Xt U WO ZE (by first | exact hS58.blk 1 U | exact hS58.blk 2 U | exact hS58.blk 3 U) (by first | decide | exact Xa U | (simp;done) | omega) U U ?_
  (refine QK hS58 U U ZE U (by rfl) (i:=2) U (by decide) ?_)
  intro w59 hS60; dsimp only[List.set]at hS60
  clear hS58
  refine Qf (Qc (Qu ?_))
  refine Ug (.inr U) U (YT U WO ZE (by first | exact hS60.blk 1 U | exact hS60.blk 2 U | exact hS60.blk 3 U) (by first | decide | exact Xa U | (simp;done) | omega) U) ?_
  exact⟨_,rfl,A1,hS60.pick [0,4] U⟩
 refine Qd (Qa (Xd U U U (Qe U U (Qf (Qc (Qh [1,0,5,6,7,11,122] U (Qs U (fun h61=> ?_) (fun h61=> ?_))))))))
 ·refine Qa (Qb U U (Qg U Ym U (Qn U QL (hS6.cell 2 U U) U (Qw PG U (Ax (hS6.sp [3] U) hn hi x.idn) U ?_))))
  rintro _ w62 ⟨A1,hS62⟩
  replace hS62:=hS62.jn U U
  clear hS6
  refine Qf (Qk (Qc (Qh [6,7] U (Qd (Qa ?_)))))
  refine Xt U WO ZE (by first | exact hS62.blk 1 U | exact hS62.blk 2 U | exact hS62.blk 3 U) (by first | decide | exact Xa U | (simp;done) | omega) U U ?_
  (refine QK hS62 U U ZE U (by rfl) (i:=2) U (by decide) ?_)
  intro w63 hS64; dsimp only[List.set]at hS64
  clear hS62
  refine Qf (Qc (Qu ?_))
  refine Ug (.inr U) U (YT U WO ZE (by first | exact hS64.blk 1 U | exact hS64.blk 2 U | exact hS64.blk 3 U) (by first | decide | exact Xa U | (simp;done) | omega) U) ?_
  exact⟨_,rfl,A1,hS64.pick [0,4] U⟩
 refine Qd (Qa (Xd U U U (Qe U U (Qf (Qc (Qs U (fun h65=> ?_) (fun h65=> ?_)))))))
 ·refine Qa (Qb U U (Qg U Rj U (Qn U QL (hS6.cell 2 U U) U (Qw cal_30 U (Ar (hS6.sp [3] U) hn hi x.n (by omega)) U ?_))))
  rintro _ w66 ⟨l1,hl1,A1,hS66⟩
  replace hS66:=hS66.jn U U
  clear hS6
  refine Qw cal_65 U (text_sp (hS66.sp [0] U) hl1) U ?_
  rintro _ w67 ⟨s1,rfl,hs1,hS67⟩
  replace hS67:=hS67.jn U U
  clear hS66
  refine Qg U fo_45_2 U ?_
  (refine Q6 hS67 U U sz_9 (by rfl) (i:=2) U (by decide) ?_)
  intro w68 hS69; dsimp only[List.set]at hS69
  clear hS67
  refine Qf (Qk (Qc (Qh [6,7] U (Qd (Qa ?_)))))
  refine Xt U WO ZE (by first | exact hS69.blk 2 U | exact hS69.blk 3 U | exact hS69.blk 4 U) (by first | decide | exact Xa U | (simp;done) | omega) U U ?_
  (refine QK hS69 U U ZE U (by rfl) (i:=3) U (by decide) ?_)
  intro w70 hS71; dsimp only[List.set]at hS71
  clear hS69
  refine Qf (Qc (Qu ?_))
  refine Ug (.inr U) U (YT U WO ZE (by first | exact hS71.blk 2 U | exact hS71.blk 3 U | exact hS71.blk 4 U) (by first | decide | exact Xa U | (simp;done) | omega) U) ?_
  exact⟨_,rfl,A1,hS71.pick [1,5] U⟩
 refine Qd (Qa (Xd U U U (Qe U U (Qf (Qc (Qh [1,0,5,6,7,136] U (Qs U (fun h72=> ?_) (fun h72=> ?_))))))))
 ·refine Qa (Qb U U (Qg U Rj U (Qn U QL (hS6.cell 2 U U) U (Qw cal_66 U (Au (hS6.sp [3] U) hn hi x.n (by omega)) U ?_))))
  rintro _ w73 ⟨⟨e1,rfl⟩,A1,hS73⟩
  replace hS73:=hS73.jn U U
  clear hS6
  refine Qg U Tv U ?_
  (refine Q6 hS73 U U JG (by rfl) (i:=1) U (by decide) ?_)
  intro w74 hS75; dsimp only[List.set]at hS75
  clear hS73
  refine Qf (Qk (Qc (Qh [6,7] U (Qd (Qa ?_)))))
  refine Xt U WO ZE (by first | exact hS75.blk 1 U | exact hS75.blk 2 U | exact hS75.blk 3 U) (by first | decide | exact Xa U | (simp;done) | omega) U U ?_
  (refine QK hS75 U U ZE U (by rfl) (i:=2) U (by decide) ?_)
  intro w76 hS77; dsimp only[List.set]at hS77
  clear hS75
  refine Qf (Qc (Qu ?_))
  refine Ug (.inr U) U (YT U WO ZE (by first | exact hS77.blk 1 U | exact hS77.blk 2 U | exact hS77.blk 3 U) (by first | decide | exact Xa U | (simp;done) | omega) U) ?_
  exact⟨_,rfl,A1,hS77.pick [0,4] U⟩
 omega
end Go.Proofs.YtkcjfoaejijdoaaGreatDoor
