/- laws of leaves: text, do -/
import Derived.Test.YtkcjfoaejijdoaaGreatDoorDk1
import Derived.Test.YtkcjfoaejijdoaaGreatDoorLv37
import Derived.Test.YtkcjfoaejijdoaaGreatDoorLv33
set_option linter.unusedSectionVars false
set_option linter.unusedVariables false
set_option maxRecDepth 100000
set_option maxHeartbeats 80000000000
namespace Go.Proofs.YtkcjfoaejijdoaaGreatDoor
open Go.RowKit M Proofs.Tryz
variable [Inhabited SlW]
theorem text_sp {w:World} {F:Th} {lv:Value} {l:List Int} (hS:Sat w [rowT inC lv l,F]) (hl:l.length≤100000):
    Calls prog 65 #[lv] w (Ret fun v w'=> ∃s:Bs,v=strV s∧s.length≤3*l.length∧Sat w' [rowT inC lv l,F]):= by
 obtain⟨al,cp,rfl,_⟩:=hS.own_shape 0 rfl
 refine Qm func65 U ntmps65 U ?_
 refine Qd (Qa (Qe U U (Qf (Qc (Qd (Qa (Qe U U (Qf (Qc (Qd (Qd (Qa (Qe U U (Qf (Qc (Qw ?_))))))))))))))))
 refine Xg (fun K0 E0 W0=> ∃(i:Nat) (s:Bs),K0=l.length -i∧E0=[(0,.slice al l.length cp),(3,strV s),(4,intV (i:Int))]∧Sat W0 [rowT inC (.slice al l.length cp) l,F]∧(i≤l.length)∧(s.length=3*i)) (L0:=[(0,_),(3,_),(4,_)]) (l.length -0) (Rg U U U) ⟨0,[],rfl,rfl,hS.pick [0,1] U, by omega,rfl⟩ ?_
 rintro _ _ w1 ⟨i,s,rfl,rfl,j1,hi,hsl⟩
 refine Qd (Qd (Qa (Qb U U (Qb U U (X7 underlying47 U U (Xk U U U (Qf (Qc (Qt U (fun h2=> ?_) (fun h2=> ?_))))))))))
 ·refine Qs (Qc (Qd (Qw ?_)))
  obtain⟨x,hx⟩: ∃x,l[i]? =some x:=⟨_,Zq (by omega)⟩
  obtain⟨lb,lc9,hql,_⟩:=j1.own_at 0 rfl (by omega); cases hql
  have j3:=j1.drew
  refine QE [0,1,2,3,4,5,6,7,8,9,10,11,12,13,14,15,16] [12] Wa (by kernel_rfl) ?_
  refine Q9 U U U (Q9 U U U (Q9 U U U (QZ U U U (fun _=>(XM i U U (by rfl) (by omega) Jr)) ?_)))
  refine Q4 U U U (Za inC 0 i 0 j3 U hx QL U U) (QZ U U U (fun _=>(ev_shr 8 U U U U (q:=256) U)) ?_)
  refine QZ U U U (fun _=>(U1 underlying3 underlying5 U (BM _))) ?_
  refine Q9 U U U (Q9 U U U (QZ U U U (fun _=>(XM i U U (by rfl) (by omega) Jr)) ?_))
  refine Q4 U U U (Za inC 0 i 0 j3 U hx QL U U) (QZ U U U (fun _=>(U1 underlying3 underlying5 U (BM _))) ?_)
  refine Xe U U U U U U ?_
  refine XU byC [b8 (x/ 256),b8 x] j3 U underlying143 ifz_5 U U U U (by rfl) rfl ?_
  intro bz w4 j4
  refine Xz (Xj (by kernel_rfl)) ?_
  refine Q4 U U U (Kb 0 j4 [b8 (x/ 256),b8 x] U U U underlying143 underlying5 underlying9 U U) ?_
  refine QZ U U U (fun _=>(MZ U U (by(simp;omega)))) ?_
  refine QZ U U U (fun _=>(MZ U U (by(simp;omega)))) ?_
  refine XK U U U (VC.nil (Qk (Qc (Qh [4,0,3] U (Qa (Qb U U (QO U U (by omega) (by omega) U ?_)))))))
  refine Qe U U (Qf ?_)
  exact Q3 (L1:=[(0,_),(3,_),(4,intV ((i+1:Nat):Int))]) (Rg U U U) (k1:=l.length -(i+1)) (by omega) ⟨i+1,_,rfl,rfl,j4.pick [1,2] U, by omega, by simp;omega⟩
 refine QU (Qq (Qq (Qx (Qc (Qd (Qa (Qb U U (Qe U U (Qf (Qc (Qu (QY (.inr U) U U ?_))))))))))))
 exact⟨_,rfl,s,rfl, by omega,j1.pick [0,1] U⟩
theorem do_sp {w:World} {b p Fr n i:Nat} {A:LvA} {F:Th} (hS:Sat w [Kz b p Fr n i A,F]) (hn:n+100000000≤60000000000) (hi:i≤60) {x:AcL} (hf:FewL x) (h13:x.dk%14≠13):
    Calls prog 20 #[ptrV b 0,ptrV p 0,.agg #[intV x.dk,intV x.idn,strV x.ob,strV x.to,intV x.first,intV x.n,intV x.at_,intV x.bb]] w (Ret fun v w'=> ∃A',Sat w' [Kz b p Fr (n+100000000) (i+1) A',F]):= by
 refine Qm func20 U ntmps20 U ?_
 obtain⟨f1,f2,f3,f4,f5,f6,f7,f8⟩:=hf
 refine Qd (Qa (XR hS U U U ?_))
 intro qb w1 j1
 refine Xa j1 EH U U ?_
 intro rb w2 j2
 refine Qf (Qc (Qd (Qa (Zo U pl_45_ asz_45 EH U U (Xa j2 EH U U ?_)))))
 intro gb w3 j3
 (refine QG j3 U U ZT U (by rfl) (i:=0) U (by decide) ?_)
 intro w4 j5; dsimp only[List.set]at j5
 refine Qf (Qc (Qd (Qd (Qa (Qg U Ff U (Qr U QL (j5.cell 2 U U) U (Qv IS U (SA (j5.sp [] U) x.dk 14 (by omega)) U ?_)))))))
 rintro _ w6 ⟨rfl,j6⟩
 replace j6:=j6.jn U U
 refine Qf (Qc (Qw (Qd (Qa (Xq U U U (Qe U U (Qf (Qc (Qh [1,0,5,6,7,11,29] U (Qt U (fun h7=> ?_) (fun h7=> ?_)))))))))))
 ·refine Qa (Qb U U (Qg U Y5 U (Qr U QL (j6.cell 2 U U) U (Qg U BC U (Qr U QL (j6.cell 2 U U) U (Qv IU U (O2 (j6.sp [3] U) hn hi x.idn x.bb) U ?_))))))
  rintro _ w8 ⟨⟨e1,rfl⟩,A1,j8⟩
  replace j8:=j8.jn U U
  refine Qg U RH U ?_
  (refine QV j8 U U Un (by rfl) (i:=1) U (by decide) ?_)
  intro w9 j10; dsimp only[List.set]at j10
  refine Qf (Qk (Qc (Qh [6,7] U (Qd (Qa (Xw U Je ZT (j10.blk 1 U) (Xv U) U U ?_))))))
  (refine QG j10 U U ZT U (by rfl) (i:=2) U (by decide) ?_)
  intro w11 j12; dsimp only[List.set]at j12
  exact Qf (Qc (Qu (Uz (.inr U) U (Ho U Je ZT (j12.blk 2 U) (Xv U) U) (⟨_,U,A1,j12.pick [0,4] U⟩))))
 refine Qd (Qd (Qa (Xq U U U (Qe U U (Qf (Qc (Qt U (fun h13=> ?_) (fun h13=> ?_))))))))
 ·refine Qs (Qc (M1 U (Xm h13) (Qa (Qb U U (Qg U Y5 U (Qr U QL (j6.cell 2 U U) U (Qg U Hx U (Qr U W9 (j6.cell 2 U U) U (Qg U Ua U (Qr U QL (j6.cell 2 U U) U (Qv GQ U (SP (j6.sp [3] U) hn hi x.idn x.ob x.at_) U ?_)))))))))))
  rintro _ w14 ⟨⟨y1,rfl⟩,A1,j14⟩
  replace j14:=j14.jn U U
  refine VF underlying5 underlying3 U (M.wrap64 (a:=(y1.toNat:Int)) (by omega) (by have :=y1.toNat_lt;omega)) U ?_
  refine Qg U TH U ?_
  (refine QV j14 U U Yq (by rfl) (i:=1) U (by decide) ?_)
  intro w15 j16; dsimp only[List.set]at j16
  refine Qf (Qk (Qc (Qh [6,7] U (Qd (Qa (Xw U Je ZT (j16.blk 1 U) (Xv U) U U ?_))))))
  (refine QG j16 U U ZT U (by rfl) (i:=2) U (by decide) ?_)
  intro w17 j18; dsimp only[List.set]at j18
  exact Qf (Qc (Qu (Uz (.inr U) U (Ho U Je ZT (j18.blk 2 U) (Xv U) U) (⟨_,U,A1,j18.pick [0,4] U⟩))))
 refine Qa (Xq U U U (Qe U U (Qf (Qc (Qt U (fun h19=> ?_) (fun h19=> ?_))))))
 ·refine Qa (Qb U U (Qg U Y5 U (Qr U QL (j6.cell 2 U U) U (Qg U Hx U (Qr U W9 (j6.cell 2 U U) U (Qg U Ua U (Qr U QL (j6.cell 2 U U) U (Qv GQ U (SP (j6.sp [3] U) hn hi x.idn x.ob x.at_) U ?_))))))))
  rintro _ w20 ⟨⟨y1,rfl⟩,A1,j20⟩
  replace j20:=j20.jn U U
  refine VF underlying5 underlying3 U (M.wrap64 (a:=(y1.toNat:Int)) (by omega) (by have :=y1.toNat_lt;omega)) U ?_
  refine Qg U TH U ?_
  (refine QV j20 U U Yq (by rfl) (i:=1) U (by decide) ?_)
  intro w21 j22; dsimp only[List.set]at j22
  refine Qf (Qk (Qc (Qh [6,7] U (Qd (Qa (Xw U Je ZT (j22.blk 1 U) (Xv U) U U ?_))))))
  (refine QG j22 U U ZT U (by rfl) (i:=2) U (by decide) ?_)
  intro w23 j24; dsimp only[List.set]at j24
  exact Qf (Qc (Qu (Uz (.inr U) U (Ho U Je ZT (j24.blk 2 U) (Xv U) U) (⟨_,U,A1,j24.pick [0,4] U⟩))))
 refine Qd (Qd (Qa (Xq U U U (Qe U U (Qf (Qc (Qh [1,0,5,6,7,11,51] U (Qt U (fun h25=> ?_) (fun h25=> ?_)))))))))
 ·refine Qs (Qc (M1 U (Xm h25) (Qa (Qb U U (Qg U Y5 U (Qr U QL (j6.cell 2 U U) U (Qg U Hx U (Qr U W9 (j6.cell 2 U U) U (Qg U Ua U (Qr U QL (j6.cell 2 U U) U (Qg U BC U (Qr U QL (j6.cell 2 U U) U (VF underlying3 underlying5 U (BM x.bb) U (Qv GR U (SO (j6.sp [3] U) hn hi x.idn x.ob x.at_ (b8 x.bb)) U ?_))))))))))))))
  rintro _ w26 ⟨⟨e1,rfl⟩,A1,j26⟩
  replace j26:=j26.jn U U
  refine Qg U RH U ?_
  (refine QV j26 U U Un (by rfl) (i:=1) U (by decide) ?_)
  intro w27 j28; dsimp only[List.set]at j28
  refine Qf (Qk (Qc (Qh [6,7] U (Qd (Qa (Xw U Je ZT (j28.blk 1 U) (Xv U) U U ?_))))))
  (refine QG j28 U U ZT U (by rfl) (i:=2) U (by decide) ?_)
  intro w29 j30; dsimp only[List.set]at j30
  exact Qf (Qc (Qu (Uz (.inr U) U (Ho U Je ZT (j30.blk 2 U) (Xv U) U) (⟨_,U,A1,j30.pick [0,4] U⟩))))
 refine Qa (Xq U U U (Qe U U (Qf (Qc (Qt U (fun h31=> ?_) (fun h31=> ?_))))))
 ·refine Qa (Qb U U (Qg U Y5 U (Qr U QL (j6.cell 2 U U) U (Qg U Hx U (Qr U W9 (j6.cell 2 U U) U (Qg U Ua U (Qr U QL (j6.cell 2 U U) U (Qg U BC U (Qr U QL (j6.cell 2 U U) U (VF underlying3 underlying5 U (BM x.bb) U (Qv GR U (SO (j6.sp [3] U) hn hi x.idn x.ob x.at_ (b8 x.bb)) U ?_)))))))))))
  rintro _ w32 ⟨⟨e1,rfl⟩,A1,j32⟩
  replace j32:=j32.jn U U
  refine Qg U RH U ?_
  (refine QV j32 U U Un (by rfl) (i:=1) U (by decide) ?_)
  intro w33 j34; dsimp only[List.set]at j34
  refine Qf (Qk (Qc (Qh [6,7] U (Qd (Qa (Xw U Je ZT (j34.blk 1 U) (Xv U) U U ?_))))))
  (refine QG j34 U U ZT U (by rfl) (i:=2) U (by decide) ?_)
  intro w35 j36; dsimp only[List.set]at j36
  exact Qf (Qc (Qu (Uz (.inr U) U (Ho U Je ZT (j36.blk 2 U) (Xv U) U) (⟨_,U,A1,j36.pick [0,4] U⟩))))
 refine Qd (Qa (Xq U U U (Qe U U (Qf (Qc (Qt U (fun h37=> ?_) (fun h37=> ?_)))))))
 ·refine Qa (Qb U U (Qg U Y5 U (Qr U QL (j6.cell 2 U U) U (Qg U Hx U (Qr U W9 (j6.cell 2 U U) U (Qg U BD U (Qr U QL (j6.cell 2 U U) U (Qg U RI U (Qr U QL (j6.cell 2 U U) U (Qg U Fe U (Qr U W9 (j6.cell 2 U U) U (Qg U Ua U (Qr U QL (j6.cell 2 U U) U (Qv IL U (lx_copy (j6.sp [3] U) hn hi x.idn x.ob x.to x.first x.n x.at_ (by omega) (by omega) (by omega)) U ?_))))))))))))))
  rintro _ w38 ⟨A1,j38⟩
  replace j38:=j38.jn U U
  refine Qf (Qk (Qc (Qh [6,7] U (Qd (Qa (Xw U Je ZT (j38.blk 1 U) (by decide) U U ?_))))))
  (refine QG j38 U U ZT U (by rfl) (i:=2) U (by decide) ?_)
  intro w39 j40; dsimp only[List.set]at j40
  refine Qf (Qc (Qu (Uz (.inr U) U (Ho U Je ZT (j40.blk 2 U) (by decide) U) ?_)))
  exact⟨_,U,A1,j40.pick [0,4] U⟩
 refine Qd (Qa (Xq U U U (Qe U U (Qf (Qc (Qh [1,0,5,6,7,11,82] U (Qt U (fun h41=> ?_) (fun h41=> ?_))))))))
 ·refine Qa (Qb U U (Qg U Y5 U (Qr U QL (j6.cell 2 U U) U (Qg U Hx U (Qr U W9 (j6.cell 2 U U) U (Qv IP U (lx_drop (j6.sp [3] U) hn hi x.idn x.ob) U ?_))))))
  rintro _ w42 ⟨A1,j42⟩
  replace j42:=j42.jn U U
  refine Qf (Qk (Qc (Qh [6,7] U (Qd (Qa (Xw U Je ZT (j42.blk 1 U) (by decide) U U ?_))))))
  (refine QG j42 U U ZT U (by rfl) (i:=2) U (by decide) ?_)
  intro w43 j44; dsimp only[List.set]at j44
  refine Qf (Qc (Qu (Uz (.inr U) U (Ho U Je ZT (j44.blk 2 U) (by decide) U) ?_)))
  exact⟨_,U,A1,j44.pick [0,4] U⟩
 refine Qd (Qa (Xq U U U (Qe U U (Qf (Qc (Qt U (fun h45=> ?_) (fun h45=> ?_)))))))
 ·refine Qa (Qb U U (Qg U Y5 U (Qr U QL (j6.cell 2 U U) U (Qg U Hx U (Qr U W9 (j6.cell 2 U U) U (Qg U Ua U (Qr U QL (j6.cell 2 U U) U (Qg U BC U (Qr U QL (j6.cell 2 U U) U (wl_mask 1 U U U U (q:=2) U U (Xq U U U (Qv cal_63 U (lx_note (j6.sp [3] U) hn hi x.idn x.ob x.at_ (decide (x.bb%2=1))) U ?_))))))))))))
  rintro _ w46 ⟨A1,j46⟩
  replace j46:=j46.jn U U
  refine Qf (Qk (Qc (Qh [6,7] U (Qd (Qa (Xw U Je ZT (j46.blk 1 U) (by decide) U U ?_))))))
  (refine QG j46 U U ZT U (by rfl) (i:=2) U (by decide) ?_)
  intro w47 j48; dsimp only[List.set]at j48
  refine Qf (Qc (Qu (Uz (.inr U) U (Ho U Je ZT (j48.blk 2 U) (by decide) U) ?_)))
  exact⟨_,U,A1,j48.pick [0,4] U⟩
 refine Qd (Qa (Xq U U U (Qe U U (Qf (Qc (Qh [1,0,5,6,7,11,104] U (Qt U (fun h49=> ?_) (fun h49=> ?_))))))))
 ·refine Qa (Qb U U (Qg U Y5 U (Qr U QL (j6.cell 2 U U) U (Qg U Hx U (Qr U W9 (j6.cell 2 U U) U (Qg U BD U (Qr U QL (j6.cell 2 U U) U (Qv cal_64 U (lx_own (j6.sp [3] U) hn hi x.idn x.ob x.first) U ?_))))))))
  rintro _ w50 ⟨⟨e1,rfl⟩,A1,j50⟩
  replace j50:=j50.jn U U
  refine Qg U RH U ?_
  (refine QV j50 U U Un (by rfl) (i:=1) U (by decide) ?_)
  intro w51 j52; dsimp only[List.set]at j52
  refine Qf (Qk (Qc (Qh [6,7] U (Qd (Qa (Xw U Je ZT (j52.blk 1 U) (Xv U) U U ?_))))))
  (refine QG j52 U U ZT U (by rfl) (i:=2) U (by decide) ?_)
  intro w53 j54; dsimp only[List.set]at j54
  exact Qf (Qc (Qu (Uz (.inr U) U (Ho U Je ZT (j54.blk 2 U) (Xv U) U) (⟨_,U,A1,j54.pick [0,4] U⟩))))
 refine Qd (Qa (Xq U U U (Qe U U (Qf (Qc (Qt U (fun h55=> ?_) (fun h55=> ?_)))))))
 ·refine Qa (Qb U U (Qg U Y5 U (Qr U QL (j6.cell 2 U U) U (Qv IT U (LU (j6.sp [3] U) hn hi x.idn) U ?_))))
  rintro _ w56 ⟨⟨e1,rfl⟩,A1,j56⟩
  replace j56:=j56.jn U U
  refine Qg U RH U ?_
  (refine QV j56 U U Un (by rfl) (i:=1) U (by decide) ?_)
  intro w57 j58; dsimp only[List.set]at j58
  refine Qf (Qk (Qc (Qh [6,7] U (Qd (Qa (Xw U Je ZT (j58.blk 1 U) (Xv U) U U ?_))))))
  (refine QG j58 U U ZT U (by rfl) (i:=2) U (by decide) ?_)
  intro w59 j60; dsimp only[List.set]at j60
  exact Qf (Qc (Qu (Uz (.inr U) U (Ho U Je ZT (j60.blk 2 U) (Xv U) U) (⟨_,U,A1,j60.pick [0,4] U⟩))))
 refine Qd (Qa (Xq U U U (Qe U U (Qf (Qc (Qh [1,0,5,6,7,11,122] U (Qt U (fun h61=> ?_) (fun h61=> ?_))))))))
 ·refine Qa (Qb U U (Qg U Y5 U (Qr U QL (j6.cell 2 U U) U (Qv IQ U (O3 (j6.sp [3] U) hn hi x.idn) U ?_))))
  rintro _ w62 ⟨A1,j62⟩
  replace j62:=j62.jn U U
  refine Qf (Qk (Qc (Qh [6,7] U (Qd (Qa (Xw U Je ZT (j62.blk 1 U) (by decide) U U ?_))))))
  (refine QG j62 U U ZT U (by rfl) (i:=2) U (by decide) ?_)
  intro w63 j64; dsimp only[List.set]at j64
  refine Qf (Qc (Qu (Uz (.inr U) U (Ho U Je ZT (j64.blk 2 U) (by decide) U) ?_)))
  exact⟨_,U,A1,j64.pick [0,4] U⟩
 refine Qd (Qa (Xq U U U (Qe U U (Qf (Qc (Qt U (fun h65=> ?_) (fun h65=> ?_)))))))
 ·refine Qa (Qb U U (Qg U RI U (Qr U QL (j6.cell 2 U U) U (Qv Cd U (O0 (j6.sp [3] U) hn hi x.n (by omega)) U ?_))))
  rintro _ w66 ⟨l1,hl1,A1,j66⟩
  replace j66:=j66.jn U U
  refine Qv cal_65 U (text_sp (j66.sp [0] U) hl1) U ?_
  rintro _ w67 ⟨s1,rfl,hs1,j67⟩
  replace j67:=j67.jn U U
  refine Qg U fo_45_2 U ?_
  (refine QV j67 U U sz_9 (by rfl) (i:=2) U (by decide) ?_)
  intro w68 j69; dsimp only[List.set]at j69
  refine Qf (Qk (Qc (Qh [6,7] U (Qd (Qa (Xw U Je ZT (j69.blk 2 U) (Xv U) U U ?_))))))
  (refine QG j69 U U ZT U (by rfl) (i:=3) U (by decide) ?_)
  intro w70 j71; dsimp only[List.set]at j71
  exact Qf (Qc (Qu (Uz (.inr U) U (Ho U Je ZT (j71.blk 3 U) (Xv U) U) (⟨_,U,A1,j71.pick [1,5] U⟩))))
 refine Qd (Qa (Xq U U U (Qe U U (Qf (Qc (Qh [1,0,5,6,7,136] U (Qt U (fun h72=> ?_) (fun h72=> ?_))))))))
 ·refine Qa (Qb U U (Qg U RI U (Qr U QL (j6.cell 2 U U) U (Qv cal_66 U (O1 (j6.sp [3] U) hn hi x.n (by omega)) U ?_))))
  rintro _ w73 ⟨⟨e1,rfl⟩,A1,j73⟩
  replace j73:=j73.jn U U
  refine Qg U TH U ?_
  (refine QV j73 U U Yq (by rfl) (i:=1) U (by decide) ?_)
  intro w74 j75; dsimp only[List.set]at j75
  refine Qf (Qk (Qc (Qh [6,7] U (Qd (Qa (Xw U Je ZT (j75.blk 1 U) (Xv U) U U ?_))))))
  (refine QG j75 U U ZT U (by rfl) (i:=2) U (by decide) ?_)
  intro w76 j77; dsimp only[List.set]at j77
  exact Qf (Qc (Qu (Uz (.inr U) U (Ho U Je ZT (j77.blk 2 U) (Xv U) U) (⟨_,U,A1,j77.pick [0,4] U⟩))))
 omega
