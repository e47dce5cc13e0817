/- sheets: Bring -/
import Derived.Test.YtkgjmhcdacidoaaGreatDoorSh12a
set_option linter.unusedVariables false
set_option maxRecDepth 100000
set_option maxHeartbeats 3200000
namespace Go.Proofs.YtkgjmhcdacidoaaGreatDoor
open Go.RowKit M Proofs.Tryz
theorem GR {w:World} {p:Nat} {S:SS} {ba bi fp sp kp:Nat} {ac at2:Option Addr} {cc ct:Nat} {F:Th} (hS:Sat w [QE p [.map (some ba),.map (some bi),.slice ac S.cache.length cc,ptrV fp 0,ptrV sp 0,ptrV kp 0,intV S.slots,intV S.budget,intV S.next,.slice at2 S.taken.length ct],Q6 QX ba (aG S.all),Q6 QX bi (gI S.inn),rowT inC (.slice ac S.cache.length cc) S.cache,Kw fp S.fr,KR sp S.sl,DM kp S.ck,rowT inC (.slice at2 S.taken.length ct) S.taken,F]) {E:Int→Prop} {N:Nat} (hI:ShI E N S) (id:Int) (hE: ¬E id):
    Calls prog 55 #[ptrV p 0,intV id] w (Ret fun v w'=>v=strV (Yo S id)∧Sat w' [QE p [.map (some ba),.map (some bi),.slice ac S.cache.length cc,ptrV fp 0,ptrV sp 0,ptrV kp 0,intV S.slots,intV S.budget,intV S.next,.slice at2 S.taken.length ct],Q6 QX ba (aG S.all),Q6 QX bi (gI S.inn),rowT inC (.slice ac S.cache.length cc) S.cache,Kw fp S.fr,KR sp S.sl,DM kp S.ck,rowT inC (.slice at2 S.taken.length ct) S.taken,F]):= by
 cases Zt:S.all id with
 | none=>
  refine Qn func55 U ntmps55 U ?_
  refine Qe (Qa (Qd U U (Qf (Qc (Qe (Qa (Qb U U (Qi U U (Qg U XR U (Qo U ZD (by first | assumption | exact hS.cell 0 U U) U ?_))))))))))
  refine Qb U U (Xj (k:=id) 1 hS keysInt underlying75 U U U X9 (u:=(.agg #[intV 0,intV 0,intV 0,strV []])) (g:=false) (YI Zt) (Yy Zt) U (Qb U U (Qp U U U (Qp U U U (Xa hS X9 U U ?_)))))
  intro b1 w1 j1
  first | (refine Q9 j1 U U Zc U (by first | rfl | (simp [QV,Value.oneCell'];done) | assumption | exact hone) (i:=0) U (by first | decide | exact Q7 U | (simp;done) | omega) ?_) | (refine Q9 j1 U U Zc U (by first | rfl | (simp [QV,Value.oneCell'];done) | assumption | exact hone) (i:=1) U (by first | decide | exact Q7 U | (simp;done) | omega) ?_)
  intro w2 j3; dsimp only[List.set]at j3
  refine Qd U U (Qf (Qc (Qh [1,0,4,5,6] U (Qe (Qw (Qe (Qa (Qb U U (Xc U U U (Qd U U (Qf (Qc (Qt U (fun h4=> ?_) (fun h4=> ?_))))))))))))))
  ·refine Qe (Qa (Q0 EE U (Cn (j3.sp [] U) zer (by decide)) U ?_))
   rintro _ w5 ⟨rfl,j5⟩
   replace j5:=j5.jn U U
   refine Qd U U (Qf (Qc (Qv (Q1 (Qr (QR (.inr U) U U ?_))))))
   exact⟨_,rfl, by unfold Yo; rw[Zt]; dsimp only; rw[if_pos (by omega)],j5.pick [1,2,3,4,5,6,7,8,9] U⟩
  refine Qe (Qa (Qb U U (QU U U (Qd U U (Qf (Qc (Qh [0,4,5,24] U (QS U (fun h6=> ?_) (fun h6=> ?_)))))))))
  ·refine Qe (Qa (Qd U U (Qf (Qc (Qv (Q1 (Qr (QR (.inr U) U U ?_))))))))
   exact⟨_,rfl, by unfold Yo; rw[Zt]; dsimp only; rw[if_neg (by omega)],j3.pick [1,2,3,4,5,6,7,8,9] U⟩
  exact absurd h6 (by simp)
 | some x=>
  obtain⟨hid1,_,hr1,hr2,_,hplc⟩:=hI.ent Zt
  refine Qn func55 U ntmps55 U ?_
  refine Qe (Qa (Qd U U (Qf (Qc (Qe (Qa (Qb U U (Qi U U (Qg U XR U (Qo U ZD (by first | assumption | exact hS.cell 0 U U) U ?_))))))))))
  refine Qb U U (Xj (k:=id) 1 hS keysInt underlying75 U U U X9 (u:=(.agg #[intV x.refs,intV x.place,intV x.at_,strV (VM x)])) (g:=true) (WT Zt) (Yx Zt) U (Qb U U (Qp U U U (Qp U U U (Xa hS X9 U U ?_)))))
  intro b1 w1 j1
  first | (refine Q9 j1 U U Zc U (by first | rfl | (simp [QV,Value.oneCell'];done) | assumption | exact hone) (i:=0) U (by first | decide | exact Q7 U | (simp;done) | omega) ?_) | (refine Q9 j1 U U Zc U (by first | rfl | (simp [QV,Value.oneCell'];done) | assumption | exact hone) (i:=1) U (by first | decide | exact Q7 U | (simp;done) | omega) ?_)
  intro w2 j3; dsimp only[List.set]at j3
  refine Qd U U (Qf (Qc (Qh [1,0,4,5,6] U (Qe (Qw (Qe (Qa (Qb U U (Xc U U U (Qd U U (Qf (Qc (Qt U (fun h4=> ?_) (fun h4=> ?_))))))))))))))
  ·exact absurd h4 (by omega)
  refine Qe (Qa (Qb U U (QU U U (Qd U U (Qf (Qc (Qh [0,4,5,24] U (QS U (fun h5=> ?_) (fun h5=> ?_)))))))))
  ·exact absurd h5 (by simp)
  refine Qe (Qa (Qg U Yt U (Qo U QM (by first | assumption | exact j3.cell 0 U U | exact j3.cell 1 U U) U ?_)))
  refine Xc U U U (Qd U U (Qf (Qc (Qt U (fun h6=> ?_) (fun h6=> ?_)))))
  ·have hp1:x.place=1:=h6
   refine Qe ?_
   have j7:=j3.drew
   refine QH [0,1,2,3,4,5,6,7] [6] ZW (by kernel_rfl) ?_
   refine QJ U U U (Xd U U U (QP U U U Jl (Q3 U U U (Qm U HM (by first | assumption | exact j7.cell 0 U U | exact j7.cell 1 U U)) ?_)))
   refine QP U U U JX (Q3 U U U (Qm U QM (by first | assumption | exact j7.cell 0 U U | exact j7.cell 1 U U)) ?_)
   refine Xl U U U U U U ?_
   refine Q0 NB U (Rv (j7.sp [5] U) x.at_) U ?_
   rintro _ w8 ⟨rfl,j8⟩
   replace j8:=j8.jn U U
   rw[hI.frc hE Zt hp1]
   dsimp only[Option.getD_some]
   refine XH (Xq (by kernel_rfl)) ?_
   refine Zo U U U (VC.nil (Qc (Qh [0,5,4] U (Qv (Q1 (Qr (QR (.inr U) U U ?_)))))))
   exact⟨_,rfl, by unfold Yo; rw[Zt],j8.pick [2,3,4,5,0,6,7,8,9] U⟩
  refine Qe (Qa (Qg U Yt U (Qo U QM (by first | assumption | exact j3.cell 0 U U | exact j3.cell 1 U U) U ?_)))
  refine Xc U U U (Qd U U (Qf (Qc (Qh [0,4,5,38] U (Qt U (fun h9=> ?_) (fun h9=> ?_))))))
  ·have hp2:x.place=2:=h9
   refine Qe (Qa (Qg U Bt U (Qo U Yd (by first | assumption | exact j3.cell 0 U U | exact j3.cell 1 U U) U ?_)))
   obtain⟨fy,hfy⟩:=Option.ne_none_iff_exists'.1 (hI.pck hE Zt hp2).2
   have hfme:VM x=fy:= by unfold VM fm; rw[if_pos hp2,hfy];rfl
   refine Q0 NA U (Rb (j3.sp [] U) (hI.ent Zt).2.2.2.2.1 (by rw[hfme]; exact hfy)) U ?_
   rintro _ w10 ⟨rfl,j10⟩
   replace j10:=j10.jn U U
   refine Qb U U (Qp U U U (Qp U U U (Qd U U (Qd U U (Qf (Qc (Qh [0,4,5,7] U (Qe (Qa (Qb U U (Qd U U (Qf (Qc (Qv (Q1 (Qr (QR (.inr U) U U ?_)))))))))))))))))
   exact⟨_,rfl, by unfold Yo; rw[Zt],j10.pick [1,2,3,4,5,6,7,8,9] U⟩
  refine Qs (Ql (Qc (Qe ?_)))
  have hp3:x.place=3:= by omega
  have j11:=j3.drew
  refine QH [0,1,2,3,4,5,6,7,8,9,10,11] [6] ZW (by kernel_rfl) ?_
  refine QJ U U U (Xd U U U (QP U U U Hv (Q3 U U U (Qm U RG (by first | assumption | exact j11.cell 0 U U | exact j11.cell 1 U U)) ?_)))
  refine QP U U U JX (Q3 U U U (Qm U QM (by first | assumption | exact j11.cell 0 U U | exact j11.cell 1 U U)) ?_)
  refine Xl U U U U U U ?_
  refine Q0 ED U (Tg (j11.sp [6] U) x.at_) U ?_
  rintro _ w12 ⟨eg,rfl,j12⟩
  replace j12:=j12.jn U U
  rw[(Uw hI hE Zt hp3).2.1]
  refine XH (Xq (by kernel_rfl)) ?_
  refine QJ U U U (Wj U U U U (Wj U U U U (Zo U U U (Zo U U U (VC.nil (Qc (Qh [4,9] U (Qe (Qa (Qb U U (Qd U U (Qf (Qc (Qv (QR (.inr U) U U ?_)))))))))))))))
  exact⟨_,rfl, by unfold Yo; rw[Zt],j12.pick [2,3,4,5,6,0,7,8,9] U⟩
theorem CZ {w:World} {p:Nat} {S:SS} {F:Th} (hS:Sat w [Yn p S,F]) {N:Nat} (hI:ShI VX N S) (hN:N≤80000000000) (id:Int):
    Calls prog 116 #[ptrV p 0,intV id] w (Ret fun v w'=>(match S.all id with | none=>v= .tuple #[intV 0,intV 4]∧Sat w' [Yn p S,F] | some x=>(x.place=1∧v= .tuple #[intV x.at_,intV 0]∧Sat w' [Yn p S,F])∨(∃k S',x.place≠1∧v= .tuple #[intV (k:Nat),intV 0]∧BrS N S S' id k x∧Sat w' [Yn p S',F])∨(x.place=2∧v= .tuple #[intV 0,intV 6]∧(∀o∈S.fr,o≠none)∧Wt S.sl=S.sl.length∧Sat w' [Yn p S,F]))):= by
 obtain⟨ba,bi,fp,sp,kp,ac,cc,at2,ct,hS⟩:=XX hS
 cases Zt:S.all id with
 | none=>
  dsimp only
  refine KB func116 U ntmps116 U ?_
  refine Qe (Qa (XV hS U U U ?_))
  intro sb w1 j1
  refine XV j1 U U U ?_
  intro db w2 j2
  refine Qd U U (Xa j2 zr_31 U U ?_)
  intro eb w3 j3
  refine Qf (Qc (Qe ?_))
  have j4:=j3.drew
  refine QH [0,1,2,3,4,5,6,7,8,9,10,11] [9,10] ZW (by kernel_rfl) ?_
  refine Q3 U U U (Qm U X5 (by first | assumption | exact j4.cell 0 U U | exact j4.cell 1 U U | exact j4.cell 2 U U | exact j4.cell 3 U U)) ?_
  refine Xd U U U (QP U U U XR (Q3 U U U (Qm U ZD (by first | assumption | exact j4.cell 0 U U | exact j4.cell 1 U U | exact j4.cell 2 U U | exact j4.cell 3 U U)) ?_))
  refine Q3 U U U (Qm U QM (by first | assumption | exact j4.cell 0 U U | exact j4.cell 1 U U | exact j4.cell 2 U U | exact j4.cell 3 U U)) ?_
  refine Q3 U U U (ZK (k:=id) 4 j4 keysInt underlying75 U U U X9 (u:=(.agg #[intV 0,intV 0,intV 0,strV []])) (g:=false) (YI Zt) (Yy Zt)) (QJ U U U (Wj U U U U (Wj U U U U (Xl U U U U U U ?_))))
  refine Xa j4 X9 U U ?_
  intro xb w5 j5
  refine XH (.cons (.inl ⟨rfl,(ZK (k:=id) 5 j5 keysInt underlying75 U U U X9 (u:=(.agg #[intV 0,intV 0,intV 0,strV []])) (g:=false) (YI Zt) (Yy Zt))⟩) (.cons (.inl ⟨rfl,(Qm U QM (by first | assumption | exact j5.cell 0 U U | exact j5.cell 1 U U | exact j5.cell 2 U U | exact j5.cell 3 U U | exact j5.cell 4 U U))⟩) (.cons (.inl ⟨rfl,(Qm U ZD (by first | assumption | exact j5.cell 0 U U | exact j5.cell 1 U U | exact j5.cell 2 U U | exact j5.cell 3 U U | exact j5.cell 4 U U))⟩) (.cons (.inl ⟨rfl,(Qm U X5 (by first | assumption | exact j5.cell 0 U U | exact j5.cell 1 U U | exact j5.cell 2 U U | exact j5.cell 3 U U | exact j5.cell 4 U U))⟩) .nil)))) ?_
  refine Xl U U U U U U ?_
  first | (refine Q9 j5 U U Zc U (by first | rfl | (simp [QV,Value.oneCell'];done) | assumption | exact hone) (i:=0) U (by first | decide | exact Q7 U | (simp;done) | omega) ?_) | (refine Q9 j5 U U Zc U (by first | rfl | (simp [QV,Value.oneCell'];done) | assumption | exact hone) (i:=1) U (by first | decide | exact Q7 U | (simp;done) | omega) ?_) | (refine Q9 j5 U U Zc U (by first | rfl | (simp [QV,Value.oneCell'];done) | assumption | exact hone) (i:=2) U (by first | decide | exact Q7 U | (simp;done) | omega) ?_) | (refine Q9 j5 U U Zc U (by first | rfl | (simp [QV,Value.oneCell'];done) | assumption | exact hone) (i:=3) U (by first | decide | exact Q7 U | (simp;done) | omega) ?_) | (refine Q9 j5 U U Zc U (by first | rfl | (simp [QV,Value.oneCell'];done) | assumption | exact hone) (i:=4) U (by first | decide | exact Q7 U | (simp;done) | omega) ?_)
  intro w6 j7; dsimp only[List.set]at j7
  refine Zj (Xq (by kernel_rfl)) ?_
  refine Zo U U U (VC.nil (Qc (Qh [2,3,4,5,6,7] U (Qe (Qw (Qe (Qa (Qb U U (QU U U (Qd U U (Qf (Qc (QS U (fun h8=> ?_) (fun h8=> ?_))))))))))))))
  ·refine Qe (Qa (Qd U U ?_))
   first | (refine Qx j7 U U Zn (by first | rfl | assumption | exact j7.own_one 7 U | exact j7.own_one 11 U) (i:=0) U (by first | decide | exact Q7 U | (simp;done) | omega) ?_) | (refine Qx j7 U U Zn (by first | rfl | assumption | exact j7.own_one 7 U | exact j7.own_one 11 U) (i:=1) U (by first | decide | exact Q7 U | (simp;done) | omega) ?_) | (refine Qx j7 U U Zn (by first | rfl | assumption | exact j7.own_one 7 U | exact j7.own_one 11 U) (i:=2) U (by first | decide | exact Q7 U | (simp;done) | omega) ?_) | (refine Qx j7 U U Zn (by first | rfl | assumption | exact j7.own_one 7 U | exact j7.own_one 11 U) (i:=3) U (by first | decide | exact Q7 U | (simp;done) | omega) ?_) | (refine Qx j7 U U Zn (by first | rfl | assumption | exact j7.own_one 7 U | exact j7.own_one 11 U) (i:=4) U (by first | decide | exact Q7 U | (simp;done) | omega) ?_)
   intro w9 j10; dsimp only[List.set]at j10
   exact Qf (Qc (Qv (Q1 (Qr (finE2 (.inr U) U (Vl U) (Tr U KN (j10.cell 1 U U)) (⟨_,U,U,QW (j10.pick [4,5,6,7,8,9,10,11,12] U)⟩))))))
  exact absurd h8 (by simp)
 | some x=>
  obtain⟨hid1,_,hr1,hr2,_,hplc⟩:=hI.ent Zt
  dsimp only
  refine KB func116 U ntmps116 U ?_
  refine Qe (Qa (XV hS U U U ?_))
  intro sb w1 j1
  refine XV j1 U U U ?_
  intro db w2 j2
  refine Qd U U (Xa j2 zr_31 U U ?_)
  intro eb w3 j3
  refine Qf (Qc (Qe ?_))
  have j4:=j3.drew
  refine QH [0,1,2,3,4,5,6,7,8,9,10,11] [9,10] ZW (by kernel_rfl) ?_
  refine Q3 U U U (Qm U X5 (by first | assumption | exact j4.cell 0 U U | exact j4.cell 1 U U | exact j4.cell 2 U U | exact j4.cell 3 U U)) ?_
  refine Xd U U U (QP U U U XR (Q3 U U U (Qm U ZD (by first | assumption | exact j4.cell 0 U U | exact j4.cell 1 U U | exact j4.cell 2 U U | exact j4.cell 3 U U)) ?_))
  refine Q3 U U U (Qm U QM (by first | assumption | exact j4.cell 0 U U | exact j4.cell 1 U U | exact j4.cell 2 U U | exact j4.cell 3 U U)) ?_
  refine Q3 U U U (ZK (k:=id) 4 j4 keysInt underlying75 U U U X9 (u:=(.agg #[intV x.refs,intV x.place,intV x.at_,strV (VM x)])) (g:=true) (WT Zt) (Yx Zt)) (QJ U U U (Wj U U U U (Wj U U U U (Xl U U U U U U ?_))))
  refine Xa j4 X9 U U ?_
  intro xb w5 j5
  refine XH (.cons (.inl ⟨rfl,(ZK (k:=id) 5 j5 keysInt underlying75 U U U X9 (u:=(.agg #[intV x.refs,intV x.place,intV x.at_,strV (VM x)])) (g:=true) (WT Zt) (Yx Zt))⟩) (.cons (.inl ⟨rfl,(Qm U QM (by first | assumption | exact j5.cell 0 U U | exact j5.cell 1 U U | exact j5.cell 2 U U | exact j5.cell 3 U U | exact j5.cell 4 U U))⟩) (.cons (.inl ⟨rfl,(Qm U ZD (by first | assumption | exact j5.cell 0 U U | exact j5.cell 1 U U | exact j5.cell 2 U U | exact j5.cell 3 U U | exact j5.cell 4 U U))⟩) (.cons (.inl ⟨rfl,(Qm U X5 (by first | assumption | exact j5.cell 0 U U | exact j5.cell 1 U U | exact j5.cell 2 U U | exact j5.cell 3 U U | exact j5.cell 4 U U))⟩) .nil)))) ?_
  refine Xl U U U U U U ?_
  first | (refine Q9 j5 U U Zc U (by first | rfl | (simp [QV,Value.oneCell'];done) | assumption | exact hone) (i:=0) U (by first | decide | exact Q7 U | (simp;done) | omega) ?_) | (refine Q9 j5 U U Zc U (by first | rfl | (simp [QV,Value.oneCell'];done) | assumption | exact hone) (i:=1) U (by first | decide | exact Q7 U | (simp;done) | omega) ?_) | (refine Q9 j5 U U Zc U (by first | rfl | (simp [QV,Value.oneCell'];done) | assumption | exact hone) (i:=2) U (by first | decide | exact Q7 U | (simp;done) | omega) ?_) | (refine Q9 j5 U U Zc U (by first | rfl | (simp [QV,Value.oneCell'];done) | assumption | exact hone) (i:=3) U (by first | decide | exact Q7 U | (simp;done) | omega) ?_) | (refine Q9 j5 U U Zc U (by first | rfl | (simp [QV,Value.oneCell'];done) | assumption | exact hone) (i:=4) U (by first | decide | exact Q7 U | (simp;done) | omega) ?_)
  intro w6 j7; dsimp only[List.set]at j7
  refine Zj (Xq (by kernel_rfl)) ?_
  refine Zo U U U (VC.nil (Qc (Qh [2,3,4,5,6,7] U (Qe (Qw (Qe (Qa (Qb U U (QU U U (Qd U U (Qf (Qc (QS U (fun h8=> ?_) (fun h8=> ?_))))))))))))))
  ·exact absurd h8 (by simp)
  refine Qe (Qa (Qg U Yt U (Qo U QM (by first | assumption | exact j7.cell 0 U U | exact j7.cell 1 U U | exact j7.cell 2 U U | exact j7.cell 3 U U | exact j7.cell 4 U U) U ?_)))
  refine Xc U U U (Qd U U (Qf (Qc (Qh [2,3,4,5,6,7,22] U (Qt U (fun h9=> ?_) (fun h9=> ?_))))))
  ·have hp1:x.place=1:=h9
   refine Qe (Qa (Qg U JX U (Qo U QM (by first | assumption | exact j7.cell 0 U U | exact j7.cell 1 U U | exact j7.cell 2 U U | exact j7.cell 3 U U | exact j7.cell 4 U U) U ?_)))
   refine Qd U U ?_
   first | (refine Qx j7 U U Zn (by first | rfl | assumption | exact j7.own_one 7 U | exact j7.own_one 11 U) (i:=0) U (by first | decide | exact Q7 U | (simp;done) | omega) ?_) | (refine Qx j7 U U Zn (by first | rfl | assumption | exact j7.own_one 7 U | exact j7.own_one 11 U) (i:=1) U (by first | decide | exact Q7 U | (simp;done) | omega) ?_) | (refine Qx j7 U U Zn (by first | rfl | assumption | exact j7.own_one 7 U | exact j7.own_one 11 U) (i:=2) U (by first | decide | exact Q7 U | (simp;done) | omega) ?_) | (refine Qx j7 U U Zn (by first | rfl | assumption | exact j7.own_one 7 U | exact j7.own_one 11 U) (i:=3) U (by first | decide | exact Q7 U | (simp;done) | omega) ?_) | (refine Qx j7 U U Zn (by first | rfl | assumption | exact j7.own_one 7 U | exact j7.own_one 11 U) (i:=4) U (by first | decide | exact Q7 U | (simp;done) | omega) ?_)
   intro w10 j11; dsimp only[List.set]at j11
   exact Qf (Qc (Qv (Q1 (Qr (finE2 (.inr U) U (Vl U) (Tr U KN (j11.cell 1 U U)) (⟨_,U,.inl ⟨hp1,U,QW (j11.pick [4,5,6,7,8,9,10,11,12] U)⟩⟩))))))
  have hp1:x.place≠1:=h9
  refine Qs (Ql (Qc (Qe ?_)))
  have j12:=j7.drew
  refine MY ZW (Cf 2 7 U ?_ ?_)
  ·refine RB (sp:=[2,7,9]) [0,1,3,4,5,6,2,7,8,9] (by kernel_rfl) ?_
   refine Q3 U U U (Qm U X5 (by first | assumption | exact j12.cell 0 U U | exact j12.cell 1 U U | exact j12.cell 2 U U | exact j12.cell 3 U U | exact j12.cell 4 U U)) ?_
   refine Q3 U U U (Qm U QM (by first | assumption | exact j12.cell 0 U U | exact j12.cell 1 U U | exact j12.cell 2 U U | exact j12.cell 3 U U | exact j12.cell 4 U U)) ?_
   refine Q3 U U U (Qm U X5 (by first | assumption | exact j12.cell 0 U U | exact j12.cell 1 U U | exact j12.cell 2 U U | exact j12.cell 3 U U | exact j12.cell 4 U U)) ?_
   refine Xd U U U (QP U U U WR (Q3 U U U (Qm U Yw (by first | assumption | exact j12.cell 0 U U | exact j12.cell 1 U U | exact j12.cell 2 U U | exact j12.cell 3 U U | exact j12.cell 4 U U)) ?_))
   refine Xl U U U U U U ?_
   refine Q0 Hk U (GR (j12.sp [4,5,6,7,8,9,10,11] U) hI id (fun q=>q)) U ?_
   rintro _ w13 ⟨rfl,j13⟩
   replace j13:=j13.jn U U
   rw[show Yo S id=x.pg by unfold Yo; rw[Zt]]
   refine XH (.cons (.inl ⟨rfl,(Qm U Yw (by first | assumption | exact j13.cell 0 U U | exact j13.cell 8 U U | exact j13.cell 9 U U | exact j13.cell 10 U U | exact j13.cell 11 U U))⟩) (.cons (.inl ⟨rfl,(Qm U X5 (by first | assumption | exact j13.cell 0 U U | exact j13.cell 8 U U | exact j13.cell 9 U U | exact j13.cell 10 U U | exact j13.cell 11 U U))⟩) (Xq (by kernel_rfl)))) ?_
   refine Xl U U U U U U ?_
   refine Xa j13 zr_22 U U ?_
   intro ob w14 j14
   refine XH (.cons (.inl ⟨rfl,(Qm U Yw (by first | assumption | exact j14.cell 0 U U | exact j14.cell 1 U U | exact j14.cell 9 U U | exact j14.cell 10 U U | exact j14.cell 11 U U | exact j14.cell 12 U U))⟩) (.cons (.inl ⟨rfl,(Qm U X5 (by first | assumption | exact j14.cell 0 U U | exact j14.cell 1 U U | exact j14.cell 9 U U | exact j14.cell 10 U U | exact j14.cell 11 U U | exact j14.cell 12 U U))⟩) (Xq (by kernel_rfl)))) ?_
   refine Zo U U U (Xl U U U U U U ?_)
   first | (refine Qx j14 U U ZM (by first | rfl | assumption | exact j14.own_one 4 U | exact j14.own_one 8 U) (i:=0) U (by first | decide | exact Q7 U | (simp;done) | omega) ?_) | (refine Qx j14 U U ZM (by first | rfl | assumption | exact j14.own_one 4 U | exact j14.own_one 8 U) (i:=1) U (by first | decide | exact Q7 U | (simp;done) | omega) ?_) | (refine Qx j14 U U ZM (by first | rfl | assumption | exact j14.own_one 4 U | exact j14.own_one 8 U) (i:=9) U (by first | decide | exact Q7 U | (simp;done) | omega) ?_) | (refine Qx j14 U U ZM (by first | rfl | assumption | exact j14.own_one 4 U | exact j14.own_one 8 U) (i:=10) U (by first | decide | exact Q7 U | (simp;done) | omega) ?_) | (refine Qx j14 U U ZM (by first | rfl | assumption | exact j14.own_one 4 U | exact j14.own_one 8 U) (i:=11) U (by first | decide | exact Q7 U | (simp;done) | omega) ?_) | (refine Qx j14 U U ZM (by first | rfl | assumption | exact j14.own_one 4 U | exact j14.own_one 8 U) (i:=12) U (by first | decide | exact Q7 U | (simp;done) | omega) ?_)
   intro w15 j16; dsimp only[List.set]at j16
   refine Zj (Xq (by kernel_rfl)) ?_
   refine VC.nil (Qc (Qh [2,3,4,5,6,7,9,8] U (Qe (Qe (Qa (Qg U Yt U (Qo U QM (by first | assumption | exact j16.cell 0 U U | exact j16.cell 1 U U | exact j16.cell 9 U U | exact j16.cell 10 U U | exact j16.cell 11 U U | exact j16.cell 12 U U) U ?_)))))))
   refine Xc U U U (Qf (Qc (Qt U (fun h17=> ?_) (fun h17=> ?_))))
   ·have hp2:x.place=2:=h17
    have j18:=j16.drew
    refine QH [0,1,2,3,4,6,5,7,8,9,10] [5,7,10] ZW (by kernel_rfl) ?_
    refine Q3 U U U (Qm U X5 (by first | assumption | exact j18.cell 0 U U | exact j18.cell 1 U U | exact j18.cell 9 U U | exact j18.cell 10 U U | exact j18.cell 11 U U | exact j18.cell 12 U U)) ?_
    refine Q3 U U U (Qm U X5 (by first | assumption | exact j18.cell 0 U U | exact j18.cell 1 U U | exact j18.cell 9 U U | exact j18.cell 10 U U | exact j18.cell 11 U U | exact j18.cell 12 U U)) ?_
    refine Xd U U U (QP U U U WR (Q3 U U U (Qm U Yw (by first | assumption | exact j18.cell 0 U U | exact j18.cell 1 U U | exact j18.cell 9 U U | exact j18.cell 10 U U | exact j18.cell 11 U U | exact j18.cell 12 U U)) ?_))
    refine Xh U U U (fun _=>(R9 U)) ?_
    refine Xl U U U U U U ?_
    refine Q0 Gw U (Vb (j18.sp [] U) (Ent.starL (YD (C:=inC) (l:=S.cache) (by have :=hI.cln;omega)) 4 U) (by have :=hI.cln;omega)) U ?_
    rintro _ w19 j19
    replace j19:=j19.jn U U
    have h1n:=j19.own_one 0 U
    refine XH (.skip (by kernel_rfl) (.skip (by kernel_rfl) (.cons (.inl ⟨rfl,(Qm U X5 (by first | assumption | exact j19.cell 1 U U | exact j19.cell 2 U U | exact j19.cell 10 U U | exact j19.cell 11 U U | exact j19.cell 12 U U | exact j19.cell 13 U U))⟩) .nil))) ?_
    refine Xl U U U U U U ?_
    refine Q0 Gz U (Gt (eqB _ id) (j19.sp [0,12] U) (by have :=hI.cln;omega)) U ?_
    rintro _ w20 j20
    replace j20:=j20.jn U U
    have h1d:=j20.own_one 0 U
    refine XH (.skip (by kernel_rfl) (.skip (by kernel_rfl) (.cons (.inl ⟨rfl,(Qm U X5 (by first | assumption | exact j20.cell 1 U U | exact j20.cell 2 U U | exact j20.cell 3 U U | exact j20.cell 11 U U | exact j20.cell 12 U U | exact j20.cell 13 U U))⟩) .nil))) ?_
    refine Xd U U U (QP U U U WR (Xl U U U U U U ?_))
    first | (refine Qx j20 U U ZM (by first | rfl | assumption | exact j20.own_one 0 U | exact j20.own_one 6 U | exact j20.own_one 10 U) (i:=1) U (by first | decide | exact Q7 U | (simp;done) | omega) ?_) | (refine Qx j20 U U ZM (by first | rfl | assumption | exact j20.own_one 0 U | exact j20.own_one 6 U | exact j20.own_one 10 U) (i:=2) U (by first | decide | exact Q7 U | (simp;done) | omega) ?_) | (refine Qx j20 U U ZM (by first | rfl | assumption | exact j20.own_one 0 U | exact j20.own_one 6 U | exact j20.own_one 10 U) (i:=3) U (by first | decide | exact Q7 U | (simp;done) | omega) ?_) | (refine Qx j20 U U ZM (by first | rfl | assumption | exact j20.own_one 0 U | exact j20.own_one 6 U | exact j20.own_one 10 U) (i:=11) U (by first | decide | exact Q7 U | (simp;done) | omega) ?_) | (refine Qx j20 U U ZM (by first | rfl | assumption | exact j20.own_one 0 U | exact j20.own_one 6 U | exact j20.own_one 10 U) (i:=12) U (by first | decide | exact Q7 U | (simp;done) | omega) ?_) | (refine Qx j20 U U ZM (by first | rfl | assumption | exact j20.own_one 0 U | exact j20.own_one 6 U | exact j20.own_one 10 U) (i:=13) U (by first | decide | exact Q7 U | (simp;done) | omega) ?_)
    intro w21 j22; dsimp only[List.set]at j22
    refine Zj (Xq (by kernel_rfl)) ?_
    refine VC.nil (Qc (Qh [2,3,4,5,6,7,9,8] U (Qe ?_)))
    have j23:=QW (S:={S with cache:=S.cache.filter (fun n=> !decide (n=id))}) (j22.pick [3,4,5,0,7,8,9,10,12,2,13,1,11,6,14] U)
    refine Qa (Zv U U (Ke U (XA (XN (XE (Qo U X5 (by first | assumption | exact j23.cell 1 U U | exact j23.cell 2 U U | exact j23.cell 3 U U | exact j23.cell 4 U U | exact j23.cell 5 U U) U ?_))))))
    have hIL:=Rp hI Zt hp2
    refine Xr KF U (Ux (j23.sp [0] U) (E:=one id) hIL hN) U ?_
    rintro e w24 ⟨_,rfl,(⟨rfl,hall,hfull,j24⟩ | ⟨k,S1,rfl,hg,j24⟩)⟩
    ·refine⟨_,U, ?_⟩
     replace j24:=j24.jn U U
     refine Qb U U (Qp U U U (Qp U U U (Qd U U (Qd U U (Qf (Z2 (XA (WC (L':=[(7,_),(4,_),(8,_),(6,_),(5,_),(3,_),(2,_)]) (DW U U U U U U U) (XN (XN (XE (Qb U U (QU U U (Qf (Z2 (XA (YV U (fun h25=> ?_) (fun h25=> ?_))))))))))))))))))
     ·refine XN (XE (Qd U U ?_))
      first | (refine Qx j24 U U Zn (by first | rfl | assumption | exact j24.own_one 6 U) (i:=1) U (by first | decide | exact Q7 U | (simp;done) | omega) ?_) | (refine Qx j24 U U Zn (by first | rfl | assumption | exact j24.own_one 6 U) (i:=2) U (by first | decide | exact Q7 U | (simp;done) | omega) ?_) | (refine Qx j24 U U Zn (by first | rfl | assumption | exact j24.own_one 6 U) (i:=3) U (by first | decide | exact Q7 U | (simp;done) | omega) ?_) | (refine Qx j24 U U Zn (by first | rfl | assumption | exact j24.own_one 6 U) (i:=4) U (by first | decide | exact Q7 U | (simp;done) | omega) ?_) | (refine Qx j24 U U Zn (by first | rfl | assumption | exact j24.own_one 6 U) (i:=5) U (by first | decide | exact Q7 U | (simp;done) | omega) ?_)
      intro w26 j27; dsimp only[List.set]at j27
      refine Qf (Z2 (XA (Hq (HY ?_))))
      obtain⟨ba,bi,fp,sp,kp,ac,cc,at2,ct,hSo28⟩:=XX (j27.pick [0,1,2,3,4,5,6,7] rfl)
      refine SK (.inr U) Ve (YR U (hSo28.sp [8,9,10,0] U)) ?_
      rintro v0 w9 hq9
      rw[if_neg (by decide)]at hq9
      replace hq9:=hq9.jn U U
      refine⟨_,UN U (Vl U) (Tr U KN (hq9.cell 0 U U)), ?_⟩
      exact⟨_,U,.inr (.inr ⟨hp2,U,hall,hfull,QW (S:=S) (hq9.pick [3,4,5,13,7,8,9,10,14] U)⟩)⟩
     exact absurd h25 (by simp)
    refine⟨_,U, ?_⟩
    replace j24:=j24.jn U U
    refine Qb U U (Qp U U U (Qp U U U (Qd U U (Qd U U (Qf (Z2 (XA (WC (L':=[(7,_),(4,_),(8,_),(6,_),(5,_),(3,_),(2,_)]) (DW U U U U U U U) (XN (XN (XE (Qb U U (QU U U (Qf (Z2 (XA (YV U (fun h29=> ?_) (fun h29=> ?_))))))))))))))))))
    ·exact absurd h29 (by simp)
    refine Ur (XA (XN ?_))
    obtain⟨ba,bi,fp,sp,kp,ac,cc,at2,ct,hSo30⟩:=XX (j24.pick [0,1,2,3,4,5,6,7] rfl)
    refine XE (Qo U X5 (by first | assumption | exact hSo30.cell 0 U U | exact hSo30.cell 8 U U | exact hSo30.cell 9 U U | exact hSo30.cell 10 U U | exact hSo30.cell 11 U U | exact hSo30.cell 12 U U) U ?_)
    refine Qi U U (Qg U Jl U (Qo U HM (by first | assumption | exact hSo30.cell 0 U U | exact hSo30.cell 8 U U | exact hSo30.cell 9 U U | exact hSo30.cell 10 U U | exact hSo30.cell 11 U U | exact hSo30.cell 12 U U) U ?_))
    refine Qb U U (Qb U U ?_)
    have hkl:k<S1.fr.length:=(XL hg.fr).1
    have hfs:U3 (TK S1 k).fr (k:Int) x.pg=S1.fr.set k (some x.pg):=U6 hkl
    refine Q0 KE U (H7 (hSo30.sp [4] U) (k:Int) x.pg (hI.ent Zt).2.2.2.2.1) U ?_
    rintro _ w31 ⟨_,rfl,j31⟩
    replace j31:=j31.jn U U
    clear hSo30
    rw[hfs]at j31
    refine Qf (Z2 (XA (WC (L':=[(4,_),(6,_),(5,_),(3,_),(2,_)]) (Ym U U U U U) (XN ?_))))
    have j32:=j31.drew
    refine UH ZW (RB (sp:=[15,17,18,20]) [0,1,2,3,4,5,6,7,8,9,10,11,12,13,14,15,16,17,18,19,20] (by kernel_rfl) ?_)
    refine Q3 U U U (Qm U X5 (by first | assumption | exact j32.cell 1 U U | exact j32.cell 8 U U | exact j32.cell 9 U U | exact j32.cell 10 U U | exact j32.cell 11 U U | exact j32.cell 12 U U)) ?_
    refine Xd U U U (QP U U U XR (Q3 U U U (Qm U ZD (by first | assumption | exact j32.cell 1 U U | exact j32.cell 8 U U | exact j32.cell 9 U U | exact j32.cell 10 U U | exact j32.cell 11 U U | exact j32.cell 12 U U)) ?_))
    refine Q3 U U U (Qm U QM (by first | assumption | exact j32.cell 1 U U | exact j32.cell 8 U U | exact j32.cell 9 U U | exact j32.cell 10 U U | exact j32.cell 11 U U | exact j32.cell 12 U U)) ?_
    refine Q3 U U U (Qm U X5 (by first | assumption | exact j32.cell 1 U U | exact j32.cell 8 U U | exact j32.cell 9 U U | exact j32.cell 10 U U | exact j32.cell 11 U U | exact j32.cell 12 U U)) ?_
    refine Xd U U U (QP U U U Ua (Q3 U U U (Qm U Ye (by first | assumption | exact j32.cell 1 U U | exact j32.cell 8 U U | exact j32.cell 9 U U | exact j32.cell 10 U U | exact j32.cell 11 U U | exact j32.cell 12 U U)) ?_))
    refine QJ U U U (QP U U U WY (Q3 U U U (Qm U QM (by first | assumption | exact j32.cell 1 U U | exact j32.cell 8 U U | exact j32.cell 9 U U | exact j32.cell 10 U U | exact j32.cell 11 U U | exact j32.cell 12 U U)) ?_))
    refine QJ U U U (Xh U U U (fun _=>(Wg U WE Hx X9 U)) ?_)
    refine Q3 U U U (Qm U QM (by first | assumption | exact j32.cell 1 U U | exact j32.cell 8 U U | exact j32.cell 9 U U | exact j32.cell 10 U U | exact j32.cell 11 U U | exact j32.cell 12 U U)) ?_
    refine Xl U U U U U U ?_
    refine ZE (k:=id) 2 j32 keysInt underlying75 U U U X9 U ?_
    intro u33 c33 w33 j33; dsimp only[List.set]at j33
    refine XH (.cons (.inl ⟨rfl,(Qm U QM (by first | assumption | exact j33.cell 1 U U | exact j33.cell 8 U U | exact j33.cell 9 U U | exact j33.cell 10 U U | exact j33.cell 11 U U | exact j33.cell 12 U U))⟩) (.cons (.inl ⟨rfl,(Qm U QM (by first | assumption | exact j33.cell 1 U U | exact j33.cell 8 U U | exact j33.cell 9 U U | exact j33.cell 10 U U | exact j33.cell 11 U U | exact j33.cell 12 U U))⟩) (Xq (by kernel_rfl)))) ?_
    refine Wj U U U U (Xl U U U U U U ?_)
    have hsv34:Value.agg #[intV x.refs,intV 1,intV (k:Nat),strV []]=NX ⟨x.refs,1,(k:Nat),x.pg⟩:=rfl
    refine Zq (v:=Value.agg #[intV x.refs,intV 1,intV (k:Nat),strV []]) 2 j33 keysInt U U U U ?_
    intro w34 hS34a; dsimp only[List.set]at hS34a; have j34:=hS34a; rw[hsv34,Vz]at j34
    refine Zj (.cons (.inl ⟨rfl,(Qm U QM (by first | assumption | exact j34.cell 1 U U | exact j34.cell 8 U U | exact j34.cell 9 U U | exact j34.cell 10 U U | exact j34.cell 11 U U | exact j34.cell 12 U U))⟩) (Xq (by kernel_rfl))) ?_
    refine Xl U U U U U U ?_
    refine ZE (k:=(k:Int)) 3 j34 keysInt underlying76 U U U Hm U ?_
    intro u35 c35 w35 j35; dsimp only[List.set]at j35
    refine XH (.cons (.inl ⟨rfl,(Qm U QM (by first | assumption | exact j35.cell 1 U U | exact j35.cell 8 U U | exact j35.cell 9 U U | exact j35.cell 10 U U | exact j35.cell 11 U U | exact j35.cell 12 U U))⟩) (Xq (by kernel_rfl))) ?_
    refine Wj U U U U (Xl U U U U U U ?_)
    refine Zq (v:=intV id) 3 j35 keysInt U U U U ?_
    intro w36 hS36a; dsimp only[List.set]at hS36a; have j36:=hS36a; rw[Ks]at j36
    refine Zj (Xq (by kernel_rfl)) ?_
    refine VC.nil (Z2 (XA (WC (L':=[(4,_),(5,_)]) (G5 U U) (XN (XE (Qb U U (Qd U U ?_)))))))
    first | (refine Qx j36 U U Zn (by first | rfl | assumption | exact j36.own_one 4 U | exact j36.own_one 7 U | exact j36.own_one 13 U) (i:=1) U (by first | decide | exact Q7 U | (simp;done) | omega) ?_) | (refine Qx j36 U U Zn (by first | rfl | assumption | exact j36.own_one 4 U | exact j36.own_one 7 U | exact j36.own_one 13 U) (i:=8) U (by first | decide | exact Q7 U | (simp;done) | omega) ?_) | (refine Qx j36 U U Zn (by first | rfl | assumption | exact j36.own_one 4 U | exact j36.own_one 7 U | exact j36.own_one 13 U) (i:=9) U (by first | decide | exact Q7 U | (simp;done) | omega) ?_) | (refine Qx j36 U U Zn (by first | rfl | assumption | exact j36.own_one 4 U | exact j36.own_one 7 U | exact j36.own_one 13 U) (i:=10) U (by first | decide | exact Q7 U | (simp;done) | omega) ?_) | (refine Qx j36 U U Zn (by first | rfl | assumption | exact j36.own_one 4 U | exact j36.own_one 7 U | exact j36.own_one 13 U) (i:=11) U (by first | decide | exact Q7 U | (simp;done) | omega) ?_) | (refine Qx j36 U U Zn (by first | rfl | assumption | exact j36.own_one 4 U | exact j36.own_one 7 U | exact j36.own_one 13 U) (i:=12) U (by first | decide | exact Q7 U | (simp;done) | omega) ?_)
    intro w37 j38; dsimp only[List.set]at j38
    refine Qf (Z2 (XA (Hq (SK (.inr U) Ve (YR U (j38.sp [8,9,10,1] U)) ?_))))
    rintro v0 w9 hq9
    rw[if_pos U]at hq9
    replace hq9:=hq9.jn U U
    refine⟨_,UN U (Vl U) (Tr U KN (hq9.cell 0 U U)), ?_⟩
    exact⟨_,rfl,.inr (.inl ⟨k,_,hp1,rfl,KH hI Zt hp1 (SL:={S with cache:=S.cache.filter (fun n=> !decide (n=id))}) ⟨rfl,rfl,rfl,rfl,rfl,rfl⟩ hg,QW (S:=onF S1 id k x.refs x.pg S1.next) (hq9.pick [3,5,6,7,4,8,9,10,14] U)⟩)⟩
   have hp3:x.place=3:= by omega
   have j39:=j16.drew
   refine QH [0,1,2,3,4,5,6] [6] ZW (by kernel_rfl) ?_
   refine Q3 U U U (Qm U X5 (by first | assumption | exact j39.cell 0 U U | exact j39.cell 1 U U | exact j39.cell 9 U U | exact j39.cell 10 U U | exact j39.cell 11 U U | exact j39.cell 12 U U)) ?_
   refine Xd U U U (QP U U U Hv (Q3 U U U (Qm U RG (by first | assumption | exact j39.cell 0 U U | exact j39.cell 1 U U | exact j39.cell 9 U U | exact j39.cell 10 U U | exact j39.cell 11 U U | exact j39.cell 12 U U)) ?_))
   refine QP U U U JX (Q3 U U U (Qm U QM (by first | assumption | exact j39.cell 0 U U | exact j39.cell 1 U U | exact j39.cell 9 U U | exact j39.cell 10 U U | exact j39.cell 11 U U | exact j39.cell 12 U U)) ?_)
   refine Xl U U U U U U ?_
   refine Q0 MH U (Re (j39.sp [6] U) x.at_) U ?_
   rintro _ w40 ⟨rfl,j40⟩
   replace j40:=j40.jn U U
   rw[(Uw hI (fun q=>q) Zt hp3).2.2]at j40
   refine XH (Xq (by kernel_rfl)) ?_
   refine VC.nil (Qc (Qh [2,3,4,5,6,7,9,8] U (Qe ?_)))
   have j41:=QW (S:={S with sl:=S.sl.set x.at_.toNat []}) (j40.pick [2,3,4,5,6,0,7,8,10,1,12,11,9,13] U)
   refine Qa (Zv U U (Ke U (XA (XN (XE (Qo U X5 (by first | assumption | exact j41.cell 1 U U | exact j41.cell 2 U U | exact j41.cell 3 U U | exact j41.cell 4 U U | exact j41.cell 5 U U) U ?_))))))
   have hIL:=Bf hI Zt hp3
   refine Xr KF U (Ux (j41.sp [0] U) (E:=one id) hIL hN) U ?_
   rintro e w42 ⟨_,rfl,(⟨rfl,hall,hfull,j42⟩ | ⟨k,S1,rfl,hg,j42⟩)⟩
   ·exact absurd hfull (by have hz:=GE.2 (List.mem_of_getElem? (List.getElem?_set_self (l:=S.sl) (i:=x.at_.toNat) (a:=([]:Bs)) (XL (hI.slt (fun q=>q) Zt hp3).2).1)); dsimp only;omega)
   refine⟨_,U, ?_⟩
   replace j42:=j42.jn U U
   refine Qb U U (Qp U U U (Qp U U U (Qd U U (Qd U U (Qf (Z2 (XA (WC (L':=[(7,_),(4,_),(8,_),(6,_),(5,_),(3,_),(2,_)]) (DW U U U U U U U) (XN (XN (XE (Qb U U (QU U U (Qf (Z2 (XA (YV U (fun h43=> ?_) (fun h43=> ?_))))))))))))))))))
   ·exact absurd h43 (by simp)
   refine Ur (XA (XN ?_))
   obtain⟨ba,bi,fp,sp,kp,ac,cc,at2,ct,hSo44⟩:=XX (j42.pick [0,1,2,3,4,5,6] rfl)
   refine XE (Qo U X5 (by first | assumption | exact hSo44.cell 0 U U | exact hSo44.cell 8 U U | exact hSo44.cell 9 U U | exact hSo44.cell 10 U U | exact hSo44.cell 11 U U | exact hSo44.cell 12 U U) U ?_)
   refine Qi U U (Qg U Jl U (Qo U HM (by first | assumption | exact hSo44.cell 0 U U | exact hSo44.cell 8 U U | exact hSo44.cell 9 U U | exact hSo44.cell 10 U U | exact hSo44.cell 11 U U | exact hSo44.cell 12 U U) U ?_))
   refine Qb U U (Qb U U ?_)
   have hkl:k<S1.fr.length:=(XL hg.fr).1
   have hfs:U3 (TK S1 k).fr (k:Int) x.pg=S1.fr.set k (some x.pg):=U6 hkl
   refine Q0 KE U (H7 (hSo44.sp [4] U) (k:Int) x.pg (hI.ent Zt).2.2.2.2.1) U ?_
   rintro _ w45 ⟨_,rfl,j45⟩
   replace j45:=j45.jn U U
   clear hSo44
   rw[hfs]at j45
   refine Qf (Z2 (XA (WC (L':=[(4,_),(6,_),(5,_),(3,_),(2,_)]) (Ym U U U U U) (XN ?_))))
   have j46:=j45.drew
   refine UH ZW (RB (sp:=[15,17,18,20]) [0,1,2,3,4,5,6,7,8,9,10,11,12,13,14,15,16,17,18,19,20] (by kernel_rfl) ?_)
   refine Q3 U U U (Qm U X5 (by first | assumption | exact j46.cell 1 U U | exact j46.cell 8 U U | exact j46.cell 9 U U | exact j46.cell 10 U U | exact j46.cell 11 U U | exact j46.cell 12 U U)) ?_
   refine Xd U U U (QP U U U XR (Q3 U U U (Qm U ZD (by first | assumption | exact j46.cell 1 U U | exact j46.cell 8 U U | exact j46.cell 9 U U | exact j46.cell 10 U U | exact j46.cell 11 U U | exact j46.cell 12 U U)) ?_))
   refine Q3 U U U (Qm U QM (by first | assumption | exact j46.cell 1 U U | exact j46.cell 8 U U | exact j46.cell 9 U U | exact j46.cell 10 U U | exact j46.cell 11 U U | exact j46.cell 12 U U)) ?_
   refine Q3 U U U (Qm U X5 (by first | assumption | exact j46.cell 1 U U | exact j46.cell 8 U U | exact j46.cell 9 U U | exact j46.cell 10 U U | exact j46.cell 11 U U | exact j46.cell 12 U U)) ?_
   refine Xd U U U (QP U U U Ua (Q3 U U U (Qm U Ye (by first | assumption | exact j46.cell 1 U U | exact j46.cell 8 U U | exact j46.cell 9 U U | exact j46.cell 10 U U | exact j46.cell 11 U U | exact j46.cell 12 U U)) ?_))
   refine QJ U U U (QP U U U WY (Q3 U U U (Qm U QM (by first | assumption | exact j46.cell 1 U U | exact j46.cell 8 U U | exact j46.cell 9 U U | exact j46.cell 10 U U | exact j46.cell 11 U U | exact j46.cell 12 U U)) ?_))
   refine QJ U U U (Xh U U U (fun _=>(Wg U WE Hx X9 U)) ?_)
   refine Q3 U U U (Qm U QM (by first | assumption | exact j46.cell 1 U U | exact j46.cell 8 U U | exact j46.cell 9 U U | exact j46.cell 10 U U | exact j46.cell 11 U U | exact j46.cell 12 U U)) ?_
   refine Xl U U U U U U ?_
   refine ZE (k:=id) 2 j46 keysInt underlying75 U U U X9 U ?_
   intro u47 c47 w47 j47; dsimp only[List.set]at j47
   refine XH (.cons (.inl ⟨rfl,(Qm U QM (by first | assumption | exact j47.cell 1 U U | exact j47.cell 8 U U | exact j47.cell 9 U U | exact j47.cell 10 U U | exact j47.cell 11 U U | exact j47.cell 12 U U))⟩) (.cons (.inl ⟨rfl,(Qm U QM (by first | assumption | exact j47.cell 1 U U | exact j47.cell 8 U U | exact j47.cell 9 U U | exact j47.cell 10 U U | exact j47.cell 11 U U | exact j47.cell 12 U U))⟩) (Xq (by kernel_rfl)))) ?_
   refine Wj U U U U (Xl U U U U U U ?_)
   have hsv48:Value.agg #[intV x.refs,intV 1,intV (k:Nat),strV []]=NX ⟨x.refs,1,(k:Nat),x.pg⟩:=rfl
   refine Zq (v:=Value.agg #[intV x.refs,intV 1,intV (k:Nat),strV []]) 2 j47 keysInt U U U U ?_
   intro w48 hS48a; dsimp only[List.set]at hS48a; have j48:=hS48a; rw[hsv48,Vz]at j48
   refine Zj (.cons (.inl ⟨rfl,(Qm U QM (by first | assumption | exact j48.cell 1 U U | exact j48.cell 8 U U | exact j48.cell 9 U U | exact j48.cell 10 U U | exact j48.cell 11 U U | exact j48.cell 12 U U))⟩) (Xq (by kernel_rfl))) ?_
   refine Xl U U U U U U ?_
   refine ZE (k:=(k:Int)) 3 j48 keysInt underlying76 U U U Hm U ?_
   intro u49 c49 w49 j49; dsimp only[List.set]at j49
   refine XH (.cons (.inl ⟨rfl,(Qm U QM (by first | assumption | exact j49.cell 1 U U | exact j49.cell 8 U U | exact j49.cell 9 U U | exact j49.cell 10 U U | exact j49.cell 11 U U | exact j49.cell 12 U U))⟩) (Xq (by kernel_rfl))) ?_
   refine Wj U U U U (Xl U U U U U U ?_)
   refine Zq (v:=intV id) 3 j49 keysInt U U U U ?_
   intro w50 hS50a; dsimp only[List.set]at hS50a; have j50:=hS50a; rw[Ks]at j50
   refine Zj (Xq (by kernel_rfl)) ?_
   refine VC.nil (Z2 (XA (WC (L':=[(4,_),(5,_)]) (G5 U U) (XN (XE (Qb U U (Qd U U ?_)))))))
   first | (refine Qx j50 U U Zn (by first | rfl | assumption | exact j50.own_one 4 U | exact j50.own_one 7 U) (i:=1) U (by first | decide | exact Q7 U | (simp;done) | omega) ?_) | (refine Qx j50 U U Zn (by first | rfl | assumption | exact j50.own_one 4 U | exact j50.own_one 7 U) (i:=8) U (by first | decide | exact Q7 U | (simp;done) | omega) ?_) | (refine Qx j50 U U Zn (by first | rfl | assumption | exact j50.own_one 4 U | exact j50.own_one 7 U) (i:=9) U (by first | decide | exact Q7 U | (simp;done) | omega) ?_) | (refine Qx j50 U U Zn (by first | rfl | assumption | exact j50.own_one 4 U | exact j50.own_one 7 U) (i:=10) U (by first | decide | exact Q7 U | (simp;done) | omega) ?_) | (refine Qx j50 U U Zn (by first | rfl | assumption | exact j50.own_one 4 U | exact j50.own_one 7 U) (i:=11) U (by first | decide | exact Q7 U | (simp;done) | omega) ?_) | (refine Qx j50 U U Zn (by first | rfl | assumption | exact j50.own_one 4 U | exact j50.own_one 7 U) (i:=12) U (by first | decide | exact Q7 U | (simp;done) | omega) ?_)
   intro w51 j52; dsimp only[List.set]at j52
   refine Qf (Z2 (XA (Hq (SK (.inr U) Ve (YR U (j52.sp [8,9,10,1] U)) ?_))))
   rintro v0 w9 hq9
   rw[if_pos U]at hq9
   replace hq9:=hq9.jn U U
   refine⟨_,UN U (Vl U) (Tr U KN (hq9.cell 0 U U)), ?_⟩
   exact⟨_,U,.inr (.inl ⟨k,_,hp1,U,KH hI Zt hp1 (SL:={S with sl:=S.sl.set x.at_.toNat []}) ⟨U,U,U,U,U,U⟩ hg,QW (S:=onF S1 id k x.refs x.pg S1.next) (hq9.pick [3,5,6,7,4,8,9,10,13] U)⟩)⟩
  refine RB (sp:=[2,7,9]) [0,1,3,4,5,6,7,2,8,9] (by kernel_rfl) ?_
  refine Q3 U U U (Qm U X5 (by first | assumption | exact j12.cell 0 U U | exact j12.cell 1 U U | exact j12.cell 2 U U | exact j12.cell 3 U U | exact j12.cell 4 U U)) ?_
  refine Q3 U U U (Qm U QM (by first | assumption | exact j12.cell 0 U U | exact j12.cell 1 U U | exact j12.cell 2 U U | exact j12.cell 3 U U | exact j12.cell 4 U U)) ?_
  refine Q3 U U U (Qm U X5 (by first | assumption | exact j12.cell 0 U U | exact j12.cell 1 U U | exact j12.cell 2 U U | exact j12.cell 3 U U | exact j12.cell 4 U U)) ?_
  refine Xd U U U (QP U U U WR (Q3 U U U (Qm U Yw (by first | assumption | exact j12.cell 0 U U | exact j12.cell 1 U U | exact j12.cell 2 U U | exact j12.cell 3 U U | exact j12.cell 4 U U)) ?_))
  refine Xl U U U U U U ?_
  refine Xa j12 zr_22 U U ?_
  intro ob w53 j53
  refine XH (.cons (.inl ⟨rfl,(Qm U Yw (by first | assumption | exact j53.cell 0 U U | exact j53.cell 1 U U | exact j53.cell 2 U U | exact j53.cell 3 U U | exact j53.cell 4 U U | exact j53.cell 5 U U))⟩) (.cons (.inl ⟨rfl,(Qm U X5 (by first | assumption | exact j53.cell 0 U U | exact j53.cell 1 U U | exact j53.cell 2 U U | exact j53.cell 3 U U | exact j53.cell 4 U U | exact j53.cell 5 U U))⟩) (.cons (.inl ⟨rfl,(Qm U QM (by first | assumption | exact j53.cell 0 U U | exact j53.cell 1 U U | exact j53.cell 2 U U | exact j53.cell 3 U U | exact j53.cell 4 U U | exact j53.cell 5 U U))⟩) (.cons (.inl ⟨rfl,(Qm U X5 (by first | assumption | exact j53.cell 0 U U | exact j53.cell 1 U U | exact j53.cell 2 U U | exact j53.cell 3 U U | exact j53.cell 4 U U | exact j53.cell 5 U U))⟩) .nil)))) ?_
  refine Xl U U U U U U ?_
  refine Q0 Hk U (GR (j53.sp [5,6,7,8,9,10,11,12] U) hI id (fun q=>q)) U ?_
  rintro _ w54 ⟨rfl,j54⟩
  replace j54:=j54.jn U U
  rw[show Yo S id=x.pg by unfold Yo; rw[Zt]]
  refine XH (.cons (.inl ⟨rfl,(Qm U Yw (by first | assumption | exact j54.cell 0 U U | exact j54.cell 8 U U | exact j54.cell 9 U U | exact j54.cell 10 U U | exact j54.cell 11 U U | exact j54.cell 12 U U))⟩) (.cons (.inl ⟨rfl,(Qm U X5 (by first | assumption | exact j54.cell 0 U U | exact j54.cell 8 U U | exact j54.cell 9 U U | exact j54.cell 10 U U | exact j54.cell 11 U U | exact j54.cell 12 U U))⟩) (Xq (by kernel_rfl)))) ?_
  refine Zo U U U (Xl U U U U U U ?_)
  first | (refine Qx j54 U U ZM (by first | rfl | assumption | exact j54.own_one 3 U | exact j54.own_one 7 U) (i:=0) U (by first | decide | exact Q7 U | (simp;done) | omega) ?_) | (refine Qx j54 U U ZM (by first | rfl | assumption | exact j54.own_one 3 U | exact j54.own_one 7 U) (i:=8) U (by first | decide | exact Q7 U | (simp;done) | omega) ?_) | (refine Qx j54 U U ZM (by first | rfl | assumption | exact j54.own_one 3 U | exact j54.own_one 7 U) (i:=9) U (by first | decide | exact Q7 U | (simp;done) | omega) ?_) | (refine Qx j54 U U ZM (by first | rfl | assumption | exact j54.own_one 3 U | exact j54.own_one 7 U) (i:=10) U (by first | decide | exact Q7 U | (simp;done) | omega) ?_) | (refine Qx j54 U U ZM (by first | rfl | assumption | exact j54.own_one 3 U | exact j54.own_one 7 U) (i:=11) U (by first | decide | exact Q7 U | (simp;done) | omega) ?_) | (refine Qx j54 U U ZM (by first | rfl | assumption | exact j54.own_one 3 U | exact j54.own_one 7 U) (i:=12) U (by first | decide | exact Q7 U | (simp;done) | omega) ?_)
  intro w55 j56; dsimp only[List.set]at j56
  refine Zj (Xq (by kernel_rfl)) ?_
  refine VC.nil (Qc (Qh [2,3,4,5,6,7,9,8] U (Qe (Qe (Qa (Qg U Yt U (Qo U QM (by first | assumption | exact j56.cell 0 U U | exact j56.cell 8 U U | exact j56.cell 9 U U | exact j56.cell 10 U U | exact j56.cell 11 U U | exact j56.cell 12 U U) U ?_)))))))
  refine Xc U U U (Qf (Qc (Qt U (fun h57=> ?_) (fun h57=> ?_))))
  ·have hp2:x.place=2:=h57
   have j58:=j56.drew
   refine QH [0,1,2,3,4,6,5,7,8,9,10] [5,7,10] ZW (by kernel_rfl) ?_
   refine Q3 U U U (Qm U X5 (by first | assumption | exact j58.cell 0 U U | exact j58.cell 8 U U | exact j58.cell 9 U U | exact j58.cell 10 U U | exact j58.cell 11 U U | exact j58.cell 12 U U)) ?_
   refine Q3 U U U (Qm U X5 (by first | assumption | exact j58.cell 0 U U | exact j58.cell 8 U U | exact j58.cell 9 U U | exact j58.cell 10 U U | exact j58.cell 11 U U | exact j58.cell 12 U U)) ?_
   refine Xd U U U (QP U U U WR (Q3 U U U (Qm U Yw (by first | assumption | exact j58.cell 0 U U | exact j58.cell 8 U U | exact j58.cell 9 U U | exact j58.cell 10 U U | exact j58.cell 11 U U | exact j58.cell 12 U U)) ?_))
   refine Xh U U U (fun _=>(R9 U)) ?_
   refine Xl U U U U U U ?_
   refine Q0 Gw U (Vb (j58.sp [] U) (Ent.starL (YD (C:=inC) (l:=S.cache) (by have :=hI.cln;omega)) 3 U) (by have :=hI.cln;omega)) U ?_
   rintro _ w59 j59
   replace j59:=j59.jn U U
   have h1n:=j59.own_one 0 U
   refine XH (.skip (by kernel_rfl) (.skip (by kernel_rfl) (.cons (.inl ⟨rfl,(Qm U X5 (by first | assumption | exact j59.cell 1 U U | exact j59.cell 9 U U | exact j59.cell 10 U U | exact j59.cell 11 U U | exact j59.cell 12 U U | exact j59.cell 13 U U))⟩) .nil))) ?_
   refine Xl U U U U U U ?_
   refine Q0 Gz U (Gt (eqB _ id) (j59.sp [0,12] U) (by have :=hI.cln;omega)) U ?_
   rintro _ w60 j60
   replace j60:=j60.jn U U
   have h1d:=j60.own_one 0 U
   refine XH (.skip (by kernel_rfl) (.skip (by kernel_rfl) (.cons (.inl ⟨rfl,(Qm U X5 (by first | assumption | exact j60.cell 1 U U | exact j60.cell 2 U U | exact j60.cell 10 U U | exact j60.cell 11 U U | exact j60.cell 12 U U | exact j60.cell 13 U U))⟩) .nil))) ?_
   refine Xd U U U (QP U U U WR (Xl U U U U U U ?_))
   first | (refine Qx j60 U U ZM (by first | rfl | assumption | exact j60.own_one 0 U | exact j60.own_one 5 U | exact j60.own_one 9 U) (i:=1) U (by first | decide | exact Q7 U | (simp;done) | omega) ?_) | (refine Qx j60 U U ZM (by first | rfl | assumption | exact j60.own_one 0 U | exact j60.own_one 5 U | exact j60.own_one 9 U) (i:=2) U (by first | decide | exact Q7 U | (simp;done) | omega) ?_) | (refine Qx j60 U U ZM (by first | rfl | assumption | exact j60.own_one 0 U | exact j60.own_one 5 U | exact j60.own_one 9 U) (i:=10) U (by first | decide | exact Q7 U | (simp;done) | omega) ?_) | (refine Qx j60 U U ZM (by first | rfl | assumption | exact j60.own_one 0 U | exact j60.own_one 5 U | exact j60.own_one 9 U) (i:=11) U (by first | decide | exact Q7 U | (simp;done) | omega) ?_) | (refine Qx j60 U U ZM (by first | rfl | assumption | exact j60.own_one 0 U | exact j60.own_one 5 U | exact j60.own_one 9 U) (i:=12) U (by first | decide | exact Q7 U | (simp;done) | omega) ?_) | (refine Qx j60 U U ZM (by first | rfl | assumption | exact j60.own_one 0 U | exact j60.own_one 5 U | exact j60.own_one 9 U) (i:=13) U (by first | decide | exact Q7 U | (simp;done) | omega) ?_)
   intro w61 j62; dsimp only[List.set]at j62
   refine Zj (Xq (by kernel_rfl)) ?_
   refine VC.nil (Qc (Qh [2,3,4,5,6,7,9,8] U (Qe ?_)))
   have j63:=QW (S:={S with cache:=S.cache.filter (fun n=> !decide (n=id))}) (j62.pick [2,3,4,0,6,7,8,9,12,10,13,1,11,5,14] U)
   refine Qa (Zv U U (Ke U (XA (XN (XE (Qo U X5 (by first | assumption | exact j63.cell 1 U U | exact j63.cell 2 U U | exact j63.cell 3 U U | exact j63.cell 4 U U | exact j63.cell 5 U U) U ?_))))))
   have hIL:=Rp hI Zt hp2
   refine Xr KF U (Ux (j63.sp [0] U) (E:=one id) hIL hN) U ?_
   rintro e w64 ⟨_,rfl,(⟨rfl,hall,hfull,j64⟩ | ⟨k,S1,rfl,hg,j64⟩)⟩
   ·refine⟨_,U, ?_⟩
    replace j64:=j64.jn U U
    refine Qb U U (Qp U U U (Qp U U U (Qd U U (Qd U U (Qf (Z2 (XA (WC (L':=[(7,_),(4,_),(8,_),(6,_),(5,_),(3,_),(2,_)]) (DW U U U U U U U) (XN (XN (XE (Qb U U (QU U U (Qf (Z2 (XA (YV U (fun h65=> ?_) (fun h65=> ?_))))))))))))))))))
    ·refine XN (XE (Qd U U ?_))
     first | (refine Qx j64 U U Zn (by first | rfl | assumption | exact j64.own_one 6 U) (i:=1) U (by first | decide | exact Q7 U | (simp;done) | omega) ?_) | (refine Qx j64 U U Zn (by first | rfl | assumption | exact j64.own_one 6 U) (i:=2) U (by first | decide | exact Q7 U | (simp;done) | omega) ?_) | (refine Qx j64 U U Zn (by first | rfl | assumption | exact j64.own_one 6 U) (i:=3) U (by first | decide | exact Q7 U | (simp;done) | omega) ?_) | (refine Qx j64 U U Zn (by first | rfl | assumption | exact j64.own_one 6 U) (i:=4) U (by first | decide | exact Q7 U | (simp;done) | omega) ?_) | (refine Qx j64 U U Zn (by first | rfl | assumption | exact j64.own_one 6 U) (i:=5) U (by first | decide | exact Q7 U | (simp;done) | omega) ?_)
     intro w66 j67; dsimp only[List.set]at j67
     refine Qf (Z2 (XA (Hq (HY ?_))))
     obtain⟨ba,bi,fp,sp,kp,ac,cc,at2,ct,hSo68⟩:=XX (j67.pick [0,1,2,3,4,5,6,7] rfl)
     refine SK (.inr U) Ve (YR U (hSo68.sp [8,9,10,0] U)) ?_
     rintro v0 w9 hq9
     rw[if_neg (by decide)]at hq9
     replace hq9:=hq9.jn U U
     refine⟨_,UN U (Vl U) (Tr U KN (hq9.cell 0 U U)), ?_⟩
     exact⟨_,U,.inr (.inr ⟨hp2,U,hall,hfull,QW (S:=S) (hq9.pick [3,4,5,13,7,8,9,10,14] U)⟩)⟩
    exact absurd h65 (by simp)
   refine⟨_,U, ?_⟩
   replace j64:=j64.jn U U
   refine Qb U U (Qp U U U (Qp U U U (Qd U U (Qd U U (Qf (Z2 (XA (WC (L':=[(7,_),(4,_),(8,_),(6,_),(5,_),(3,_),(2,_)]) (DW U U U U U U U) (XN (XN (XE (Qb U U (QU U U (Qf (Z2 (XA (YV U (fun h69=> ?_) (fun h69=> ?_))))))))))))))))))
   ·exact absurd h69 (by simp)
   refine Ur (XA (XN ?_))
   obtain⟨ba,bi,fp,sp,kp,ac,cc,at2,ct,hSo70⟩:=XX (j64.pick [0,1,2,3,4,5,6,7] rfl)
   refine XE (Qo U X5 (by first | assumption | exact hSo70.cell 0 U U | exact hSo70.cell 8 U U | exact hSo70.cell 9 U U | exact hSo70.cell 10 U U | exact hSo70.cell 11 U U | exact hSo70.cell 12 U U) U ?_)
   refine Qi U U (Qg U Jl U (Qo U HM (by first | assumption | exact hSo70.cell 0 U U | exact hSo70.cell 8 U U | exact hSo70.cell 9 U U | exact hSo70.cell 10 U U | exact hSo70.cell 11 U U | exact hSo70.cell 12 U U) U ?_))
   refine Qb U U (Qb U U ?_)
   have hkl:k<S1.fr.length:=(XL hg.fr).1
   have hfs:U3 (TK S1 k).fr (k:Int) x.pg=S1.fr.set k (some x.pg):=U6 hkl
   refine Q0 KE U (H7 (hSo70.sp [4] U) (k:Int) x.pg (hI.ent Zt).2.2.2.2.1) U ?_
   rintro _ w71 ⟨_,rfl,j71⟩
   replace j71:=j71.jn U U
   clear hSo70
   rw[hfs]at j71
   refine Qf (Z2 (XA (WC (L':=[(4,_),(6,_),(5,_),(3,_),(2,_)]) (Ym U U U U U) (XN ?_))))
   have j72:=j71.drew
   refine UH ZW (RB (sp:=[15,17,18,20]) [0,1,2,3,4,5,6,7,8,9,10,11,12,13,14,15,16,17,18,19,20] (by kernel_rfl) ?_)
   refine Q3 U U U (Qm U X5 (by first | assumption | exact j72.cell 1 U U | exact j72.cell 8 U U | exact j72.cell 9 U U | exact j72.cell 10 U U | exact j72.cell 11 U U | exact j72.cell 12 U U)) ?_
   refine Xd U U U (QP U U U XR (Q3 U U U (Qm U ZD (by first | assumption | exact j72.cell 1 U U | exact j72.cell 8 U U | exact j72.cell 9 U U | exact j72.cell 10 U U | exact j72.cell 11 U U | exact j72.cell 12 U U)) ?_))
   refine Q3 U U U (Qm U QM (by first | assumption | exact j72.cell 1 U U | exact j72.cell 8 U U | exact j72.cell 9 U U | exact j72.cell 10 U U | exact j72.cell 11 U U | exact j72.cell 12 U U)) ?_
   refine Q3 U U U (Qm U X5 (by first | assumption | exact j72.cell 1 U U | exact j72.cell 8 U U | exact j72.cell 9 U U | exact j72.cell 10 U U | exact j72.cell 11 U U | exact j72.cell 12 U U)) ?_
   refine Xd U U U (QP U U U Ua (Q3 U U U (Qm U Ye (by first | assumption | exact j72.cell 1 U U | exact j72.cell 8 U U | exact j72.cell 9 U U | exact j72.cell 10 U U | exact j72.cell 11 U U | exact j72.cell 12 U U)) ?_))
   refine QJ U U U (QP U U U WY (Q3 U U U (Qm U QM (by first | assumption | exact j72.cell 1 U U | exact j72.cell 8 U U | exact j72.cell 9 U U | exact j72.cell 10 U U | exact j72.cell 11 U U | exact j72.cell 12 U U)) ?_))
   refine QJ U U U (Xh U U U (fun _=>(Wg U WE Hx X9 U)) ?_)
   refine Q3 U U U (Qm U QM (by first | assumption | exact j72.cell 1 U U | exact j72.cell 8 U U | exact j72.cell 9 U U | exact j72.cell 10 U U | exact j72.cell 11 U U | exact j72.cell 12 U U)) ?_
   refine Xl U U U U U U ?_
   refine ZE (k:=id) 2 j72 keysInt underlying75 U U U X9 U ?_
   intro u73 c73 w73 j73; dsimp only[List.set]at j73
   refine XH (.cons (.inl ⟨rfl,(Qm U QM (by first | assumption | exact j73.cell 1 U U | exact j73.cell 8 U U | exact j73.cell 9 U U | exact j73.cell 10 U U | exact j73.cell 11 U U | exact j73.cell 12 U U))⟩) (.cons (.inl ⟨rfl,(Qm U QM (by first | assumption | exact j73.cell 1 U U | exact j73.cell 8 U U | exact j73.cell 9 U U | exact j73.cell 10 U U | exact j73.cell 11 U U | exact j73.cell 12 U U))⟩) (Xq (by kernel_rfl)))) ?_
   refine Wj U U U U (Xl U U U U U U ?_)
   have hsv74:Value.agg #[intV x.refs,intV 1,intV (k:Nat),strV []]=NX ⟨x.refs,1,(k:Nat),x.pg⟩:=rfl
   refine Zq (v:=Value.agg #[intV x.refs,intV 1,intV (k:Nat),strV []]) 2 j73 keysInt U U U U ?_
   intro w74 hS74a; dsimp only[List.set]at hS74a; have j74:=hS74a; rw[hsv74,Vz]at j74
   refine Zj (.cons (.inl ⟨rfl,(Qm U QM (by first | assumption | exact j74.cell 1 U U | exact j74.cell 8 U U | exact j74.cell 9 U U | exact j74.cell 10 U U | exact j74.cell 11 U U | exact j74.cell 12 U U))⟩) (Xq (by kernel_rfl))) ?_
   refine Xl U U U U U U ?_
   refine ZE (k:=(k:Int)) 3 j74 keysInt underlying76 U U U Hm U ?_
   intro u75 c75 w75 j75; dsimp only[List.set]at j75
   refine XH (.cons (.inl ⟨rfl,(Qm U QM (by first | assumption | exact j75.cell 1 U U | exact j75.cell 8 U U | exact j75.cell 9 U U | exact j75.cell 10 U U | exact j75.cell 11 U U | exact j75.cell 12 U U))⟩) (Xq (by kernel_rfl))) ?_
   refine Wj U U U U (Xl U U U U U U ?_)
   refine Zq (v:=intV id) 3 j75 keysInt U U U U ?_
   intro w76 hS76a; dsimp only[List.set]at hS76a; have j76:=hS76a; rw[Ks]at j76
   refine Zj (Xq (by kernel_rfl)) ?_
   refine VC.nil (Z2 (XA (WC (L':=[(4,_),(5,_)]) (G5 U U) (XN (XE (Qb U U (Qd U U ?_)))))))
   first | (refine Qx j76 U U Zn (by first | rfl | assumption | exact j76.own_one 4 U | exact j76.own_one 7 U | exact j76.own_one 13 U) (i:=1) U (by first | decide | exact Q7 U | (simp;done) | omega) ?_) | (refine Qx j76 U U Zn (by first | rfl | assumption | exact j76.own_one 4 U | exact j76.own_one 7 U | exact j76.own_one 13 U) (i:=8) U (by first | decide | exact Q7 U | (simp;done) | omega) ?_) | (refine Qx j76 U U Zn (by first | rfl | assumption | exact j76.own_one 4 U | exact j76.own_one 7 U | exact j76.own_one 13 U) (i:=9) U (by first | decide | exact Q7 U | (simp;done) | omega) ?_) | (refine Qx j76 U U Zn (by first | rfl | assumption | exact j76.own_one 4 U | exact j76.own_one 7 U | exact j76.own_one 13 U) (i:=10) U (by first | decide | exact Q7 U | (simp;done) | omega) ?_) | (refine Qx j76 U U Zn (by first | rfl | assumption | exact j76.own_one 4 U | exact j76.own_one 7 U | exact j76.own_one 13 U) (i:=11) U (by first | decide | exact Q7 U | (simp;done) | omega) ?_) | (refine Qx j76 U U Zn (by first | rfl | assumption | exact j76.own_one 4 U | exact j76.own_one 7 U | exact j76.own_one 13 U) (i:=12) U (by first | decide | exact Q7 U | (simp;done) | omega) ?_)
   intro w77 j78; dsimp only[List.set]at j78
   refine Qf (Z2 (XA (Hq (SK (.inr U) Ve (YR U (j78.sp [8,9,10,1] U)) ?_))))
   rintro v0 w9 hq9
   rw[if_pos U]at hq9
   replace hq9:=hq9.jn U U
   refine⟨_,UN U (Vl U) (Tr U KN (hq9.cell 0 U U)), ?_⟩
   exact⟨_,rfl,.inr (.inl ⟨k,_,hp1,rfl,KH hI Zt hp1 (SL:={S with cache:=S.cache.filter (fun n=> !decide (n=id))}) ⟨rfl,rfl,rfl,rfl,rfl,rfl⟩ hg,QW (S:=onF S1 id k x.refs x.pg S1.next) (hq9.pick [3,5,6,7,4,8,9,10,14] U)⟩)⟩
  have hp3:x.place=3:= by omega
  have j79:=j56.drew
  refine QH [0,1,2,3,4,5,6] [6] ZW (by kernel_rfl) ?_
  refine Q3 U U U (Qm U X5 (by first | assumption | exact j79.cell 0 U U | exact j79.cell 8 U U | exact j79.cell 9 U U | exact j79.cell 10 U U | exact j79.cell 11 U U | exact j79.cell 12 U U)) ?_
  refine Xd U U U (QP U U U Hv (Q3 U U U (Qm U RG (by first | assumption | exact j79.cell 0 U U | exact j79.cell 8 U U | exact j79.cell 9 U U | exact j79.cell 10 U U | exact j79.cell 11 U U | exact j79.cell 12 U U)) ?_))
  refine QP U U U JX (Q3 U U U (Qm U QM (by first | assumption | exact j79.cell 0 U U | exact j79.cell 8 U U | exact j79.cell 9 U U | exact j79.cell 10 U U | exact j79.cell 11 U U | exact j79.cell 12 U U)) ?_)
  refine Xl U U U U U U ?_
  refine Q0 MH U (Re (j79.sp [5] U) x.at_) U ?_
  rintro _ w80 ⟨rfl,j80⟩
  replace j80:=j80.jn U U
  rw[(Uw hI (fun q=>q) Zt hp3).2.2]at j80
  refine XH (Xq (by kernel_rfl)) ?_
  refine VC.nil (Qc (Qh [2,3,4,5,6,7,9,8] U (Qe ?_)))
  have j81:=QW (S:={S with sl:=S.sl.set x.at_.toNat []}) (j80.pick [1,2,3,4,5,0,6,7,10,8,12,11,9,13] U)
  refine Qa (Zv U U (Ke U (XA (XN (XE (Qo U X5 (by first | assumption | exact j81.cell 1 U U | exact j81.cell 2 U U | exact j81.cell 3 U U | exact j81.cell 4 U U | exact j81.cell 5 U U) U ?_))))))
  have hIL:=Bf hI Zt hp3
  refine Xr KF U (Ux (j81.sp [0] U) (E:=one id) hIL hN) U ?_
  rintro e w82 ⟨_,rfl,(⟨rfl,hall,hfull,j82⟩ | ⟨k,S1,rfl,hg,j82⟩)⟩
  ·exact absurd hfull (by have hz:=GE.2 (List.mem_of_getElem? (List.getElem?_set_self (l:=S.sl) (i:=x.at_.toNat) (a:=([]:Bs)) (XL (hI.slt (fun q=>q) Zt hp3).2).1)); dsimp only;omega)
  refine⟨_,U, ?_⟩
  replace j82:=j82.jn U U
  refine Qb U U (Qp U U U (Qp U U U (Qd U U (Qd U U (Qf (Z2 (XA (WC (L':=[(7,_),(4,_),(8,_),(6,_),(5,_),(3,_),(2,_)]) (DW U U U U U U U) (XN (XN (XE (Qb U U (QU U U (Qf (Z2 (XA (YV U (fun h83=> ?_) (fun h83=> ?_))))))))))))))))))
  ·exact absurd h83 (by simp)
  refine Ur (XA (XN ?_))
  obtain⟨ba,bi,fp,sp,kp,ac,cc,at2,ct,hSo84⟩:=XX (j82.pick [0,1,2,3,4,5,6] rfl)
  refine XE (Qo U X5 (by first | assumption | exact hSo84.cell 0 U U | exact hSo84.cell 8 U U | exact hSo84.cell 9 U U | exact hSo84.cell 10 U U | exact hSo84.cell 11 U U | exact hSo84.cell 12 U U) U ?_)
  refine Qi U U (Qg U Jl U (Qo U HM (by first | assumption | exact hSo84.cell 0 U U | exact hSo84.cell 8 U U | exact hSo84.cell 9 U U | exact hSo84.cell 10 U U | exact hSo84.cell 11 U U | exact hSo84.cell 12 U U) U ?_))
  refine Qb U U (Qb U U ?_)
  have hkl:k<S1.fr.length:=(XL hg.fr).1
  have hfs:U3 (TK S1 k).fr (k:Int) x.pg=S1.fr.set k (some x.pg):=U6 hkl
  refine Q0 KE U (H7 (hSo84.sp [4] U) (k:Int) x.pg (hI.ent Zt).2.2.2.2.1) U ?_
  rintro _ w85 ⟨_,rfl,j85⟩
  replace j85:=j85.jn U U
  clear hSo84
  rw[hfs]at j85
  refine Qf (Z2 (XA (WC (L':=[(4,_),(6,_),(5,_),(3,_),(2,_)]) (Ym U U U U U) (XN ?_))))
  have j86:=j85.drew
  refine UH ZW (RB (sp:=[15,17,18,20]) [0,1,2,3,4,5,6,7,8,9,10,11,12,13,14,15,16,17,18,19,20] (by kernel_rfl) ?_)
  refine Q3 U U U (Qm U X5 (by first | assumption | exact j86.cell 1 U U | exact j86.cell 8 U U | exact j86.cell 9 U U | exact j86.cell 10 U U | exact j86.cell 11 U U | exact j86.cell 12 U U)) ?_
  refine Xd U U U (QP U U U XR (Q3 U U U (Qm U ZD (by first | assumption | exact j86.cell 1 U U | exact j86.cell 8 U U | exact j86.cell 9 U U | exact j86.cell 10 U U | exact j86.cell 11 U U | exact j86.cell 12 U U)) ?_))
  refine Q3 U U U (Qm U QM (by first | assumption | exact j86.cell 1 U U | exact j86.cell 8 U U | exact j86.cell 9 U U | exact j86.cell 10 U U | exact j86.cell 11 U U | exact j86.cell 12 U U)) ?_
  refine Q3 U U U (Qm U X5 (by first | assumption | exact j86.cell 1 U U | exact j86.cell 8 U U | exact j86.cell 9 U U | exact j86.cell 10 U U | exact j86.cell 11 U U | exact j86.cell 12 U U)) ?_
  refine Xd U U U (QP U U U Ua (Q3 U U U (Qm U Ye (by first | assumption | exact j86.cell 1 U U | exact j86.cell 8 U U | exact j86.cell 9 U U | exact j86.cell 10 U U | exact j86.cell 11 U U | exact j86.cell 12 U U)) ?_))
  refine QJ U U U (QP U U U WY (Q3 U U U (Qm U QM (by first | assumption | exact j86.cell 1 U U | exact j86.cell 8 U U | exact j86.cell 9 U U | exact j86.cell 10 U U | exact j86.cell 11 U U | exact j86.cell 12 U U)) ?_))
  refine QJ U U U (Xh U U U (fun _=>(Wg U WE Hx X9 U)) ?_)
  refine Q3 U U U (Qm U QM (by first | assumption | exact j86.cell 1 U U | exact j86.cell 8 U U | exact j86.cell 9 U U | exact j86.cell 10 U U | exact j86.cell 11 U U | exact j86.cell 12 U U)) ?_
  refine Xl U U U U U U ?_
  refine ZE (k:=id) 2 j86 keysInt underlying75 U U U X9 U ?_
  intro u87 c87 w87 j87; dsimp only[List.set]at j87
  refine XH (.cons (.inl ⟨rfl,(Qm U QM (by first | assumption | exact j87.cell 1 U U | exact j87.cell 8 U U | exact j87.cell 9 U U | exact j87.cell 10 U U | exact j87.cell 11 U U | exact j87.cell 12 U U))⟩) (.cons (.inl ⟨rfl,(Qm U QM (by first | assumption | exact j87.cell 1 U U | exact j87.cell 8 U U | exact j87.cell 9 U U | exact j87.cell 10 U U | exact j87.cell 11 U U | exact j87.cell 12 U U))⟩) (Xq (by kernel_rfl)))) ?_
  refine Wj U U U U (Xl U U U U U U ?_)
  have hsv88:Value.agg #[intV x.refs,intV 1,intV (k:Nat),strV []]=NX ⟨x.refs,1,(k:Nat),x.pg⟩:=rfl
  refine Zq (v:=Value.agg #[intV x.refs,intV 1,intV (k:Nat),strV []]) 2 j87 keysInt U U U U ?_
  intro w88 hS88a; dsimp only[List.set]at hS88a; have j88:=hS88a; rw[hsv88,Vz]at j88
  refine Zj (.cons (.inl ⟨rfl,(Qm U QM (by first | assumption | exact j88.cell 1 U U | exact j88.cell 8 U U | exact j88.cell 9 U U | exact j88.cell 10 U U | exact j88.cell 11 U U | exact j88.cell 12 U U))⟩) (Xq (by kernel_rfl))) ?_
  refine Xl U U U U U U ?_
  refine ZE (k:=(k:Int)) 3 j88 keysInt underlying76 U U U Hm U ?_
  intro u89 c89 w89 j89; dsimp only[List.set]at j89
  refine XH (.cons (.inl ⟨rfl,(Qm U QM (by first | assumption | exact j89.cell 1 U U | exact j89.cell 8 U U | exact j89.cell 9 U U | exact j89.cell 10 U U | exact j89.cell 11 U U | exact j89.cell 12 U U))⟩) (Xq (by kernel_rfl))) ?_
  refine Wj U U U U (Xl U U U U U U ?_)
  refine Zq (v:=intV id) 3 j89 keysInt U U U U ?_
  intro w90 hS90a; dsimp only[List.set]at hS90a; have j90:=hS90a; rw[Ks]at j90
  refine Zj (Xq (by kernel_rfl)) ?_
  refine VC.nil (Z2 (XA (WC (L':=[(4,_),(5,_)]) (G5 U U) (XN (XE (Qb U U (Qd U U ?_)))))))
  first | (refine Qx j90 U U Zn (by first | rfl | assumption | exact j90.own_one 4 U | exact j90.own_one 7 U) (i:=1) U (by first | decide | exact Q7 U | (simp;done) | omega) ?_) | (refine Qx j90 U U Zn (by first | rfl | assumption | exact j90.own_one 4 U | exact j90.own_one 7 U) (i:=8) U (by first | decide | exact Q7 U | (simp;done) | omega) ?_) | (refine Qx j90 U U Zn (by first | rfl | assumption | exact j90.own_one 4 U | exact j90.own_one 7 U) (i:=9) U (by first | decide | exact Q7 U | (simp;done) | omega) ?_) | (refine Qx j90 U U Zn (by first | rfl | assumption | exact j90.own_one 4 U | exact j90.own_one 7 U) (i:=10) U (by first | decide | exact Q7 U | (simp;done) | omega) ?_) | (refine Qx j90 U U Zn (by first | rfl | assumption | exact j90.own_one 4 U | exact j90.own_one 7 U) (i:=11) U (by first | decide | exact Q7 U | (simp;done) | omega) ?_) | (refine Qx j90 U U Zn (by first | rfl | assumption | exact j90.own_one 4 U | exact j90.own_one 7 U) (i:=12) U (by first | decide | exact Q7 U | (simp;done) | omega) ?_)
  intro w91 j92; dsimp only[List.set]at j92
  refine Qf (Z2 (XA (Hq (SK (.inr U) Ve (YR U (j92.sp [8,9,10,1] U)) ?_))))
  rintro v0 w9 hq9
  rw[if_pos U]at hq9
  replace hq9:=hq9.jn U U
  refine⟨_,UN U (Vl U) (Tr U KN (hq9.cell 0 U U)), ?_⟩
  exact⟨_,U,.inr (.inl ⟨k,_,hp1,U,KH hI Zt hp1 (SL:={S with sl:=S.sl.set x.at_.toNat []}) ⟨U,U,U,U,U,U⟩ hg,QW (S:=onF S1 id k x.refs x.pg S1.next) (hq9.pick [3,5,6,7,4,8,9,10,13] U)⟩)⟩
