/- sheets: Bring -/
import Derived.Test.YtkcjfoaejijdoaaGreatDoorSh12a
set_option linter.unusedVariables false
set_option maxRecDepth 100000
set_option maxHeartbeats 3200000
namespace Go.Proofs.YtkcjfoaejijdoaaGreatDoor
open Go.RowKit M
theorem DJ {w:World} {p:Nat} {S:SS} {ba bi fp sp kp:Nat} {ac at2:Option Addr} {cc ct:Nat} {F:Th} (hS:Sat w [QG p [.map (some ba),.map (some bi),.slice ac S.cache.length cc,ptrV fp 0,ptrV sp 0,ptrV kp 0,intV S.slots,intV S.budget,intV S.next,.slice at2 S.taken.length ct],Q0 QX ba (aG S.all),Q0 QX bi (gI S.inn),rowT inC (.slice ac S.cache.length cc) S.cache,RS fp S.fr,Gx sp S.sl,Cg kp S.ck,rowT inC (.slice at2 S.taken.length ct) S.taken,F]) {E:Int→Prop} {N:Nat} (hI:ShI E N S) (id:Int) (hE: ¬E id):
    Calls Tryz.prog 34 #[ptrV p 0,intV id] w (Ret fun v w'=>v=strV (YW S id)∧Sat w' [QG p [.map (some ba),.map (some bi),.slice ac S.cache.length cc,ptrV fp 0,ptrV sp 0,ptrV kp 0,intV S.slots,intV S.budget,intV S.next,.slice at2 S.taken.length ct],Q0 QX ba (aG S.all),Q0 QX bi (gI S.inn),rowT inC (.slice ac S.cache.length cc) S.cache,RS fp S.fr,Gx sp S.sl,Cg kp S.ck,rowT inC (.slice at2 S.taken.length ct) S.taken,F]):= by
 cases hid:S.all id with
 | none=>
  refine Qo Tryz.func34 rfl Tryz.ntmps34 rfl ?_
  refine Qd (Qa (Qe rfl rfl (Qf (Qc (Qd (Qa (Qb rfl rfl (Qj rfl rfl (Qg rfl XL rfl (Qp rfl Zm (hS.cell 0 rfl rfl) rfl (Qb rfl rfl (Wk (k:=id) 1 hS keysInt Tryz.underlying108 rfl rfl rfl XH (u:=(.agg #[intV 0,intV 0,intV 0,strV []])) (g:=false) (Hw hid) (Hd hid) rfl (Qb rfl rfl (Qs rfl rfl rfl (Qs rfl rfl rfl (Xc hS XH rfl rfl ?_))))))))))))))))
  intro b1 w1 hS1
  (refine QU hS1 rfl rfl Yc rfl (by rfl) (i:=0) rfl (by decide) ?_)
  intro w2 hS3; dsimp only[List.set]at hS3
  clear hS1
  refine Qe rfl rfl (Qf (Qc (Qh [1,0,4,5,6] rfl (Qd (Qw (Qd (Qa (Qb rfl rfl (Xe rfl rfl rfl (Qe rfl rfl (Qf (Qc (Qt rfl (fun h4=> ?_) (fun h4=> ?_))))))))))))))
  ·refine Qd (Qa (Qv Fw rfl (ME (hS3.sp [] rfl) zer (by decide)) rfl ?_))
   rintro _ w5 ⟨rfl,hS5⟩
   replace hS5:=hS5.jn rfl rfl
   clear hS3
   refine Qe rfl rfl (Qf (Qc (Qu (Qx (Qn (QP (.inr rfl) rfl rfl ?_))))))
   exact⟨_,rfl, by unfold YW; rw[hid]; dsimp only; rw[if_pos (by omega)],hS5.pick [1,2,3,4,5,6,7,8,9] rfl⟩
  refine Qd (Qa (Qb rfl rfl (QQ rfl rfl (Qe rfl rfl (Qf (Qc (Qh [0,4,5,24] rfl (QL rfl (fun h6=> ?_) (fun h6=> ?_)))))))))
  ·refine Qd (Qa (Qe rfl rfl (Qf (Qc (Qu (Qx (Qn (QP (.inr rfl) rfl rfl ?_))))))))
   exact⟨_,rfl, by unfold YW; rw[hid]; dsimp only; rw[if_neg (by omega)],hS3.pick [1,2,3,4,5,6,7,8,9] rfl⟩
  exact absurd h6 (by simp)
 | some x=>
  obtain⟨hid1,_,hr1,hr2,_,hplc⟩:=hI.ent hid
  refine Qo Tryz.func34 rfl Tryz.ntmps34 rfl ?_
  refine Qd (Qa (Qe rfl rfl (Qf (Qc (Qd (Qa (Qb rfl rfl (Qj rfl rfl (Qg rfl XL rfl (Qp rfl Zm (hS.cell 0 rfl rfl) rfl (Qb rfl rfl (Wk (k:=id) 1 hS keysInt Tryz.underlying108 rfl rfl rfl XH (u:=(.agg #[intV x.refs,intV x.place,intV x.at_,strV (Rl x)])) (g:=true) (J3 hid) (Hc hid) rfl (Qb rfl rfl (Qs rfl rfl rfl (Qs rfl rfl rfl (Xc hS XH rfl rfl ?_))))))))))))))))
  intro b1 w1 hS1
  (refine QU hS1 rfl rfl Yc rfl (by rfl) (i:=0) rfl (by decide) ?_)
  intro w2 hS3; dsimp only[List.set]at hS3
  clear hS1
  refine Qe rfl rfl (Qf (Qc (Qh [1,0,4,5,6] rfl (Qd (Qw (Qd (Qa (Qb rfl rfl (Xe rfl rfl rfl (Qe rfl rfl (Qf (Qc (Qt rfl (fun h4=> ?_) (fun h4=> ?_))))))))))))))
  ·exact absurd h4 (by omega)
  refine Qd (Qa (Qb rfl rfl (QQ rfl rfl (Qe rfl rfl (Qf (Qc (Qh [0,4,5,24] rfl (QL rfl (fun h5=> ?_) (fun h5=> ?_)))))))))
  ·exact absurd h5 (by simp)
  refine Qd (Qa (Qg rfl YY rfl (Qp rfl QN (hS3.cell 0 rfl rfl) rfl (Xe rfl rfl rfl (Qe rfl rfl (Qf (Qc (Qt rfl (fun h6=> ?_) (fun h6=> ?_)))))))))
  ·have hp1:x.place=1:=h6
   refine Qd ?_
   have hS7:=hS3.drew
   refine QI [0,1,2,3,4,5,6,7] [6] Wq (by kernel_rfl) ?_
   refine QE rfl rfl rfl (Xj rfl rfl rfl (QS rfl rfl rfl WO (Q8 rfl rfl rfl (Qm rfl YM (hS7.cell 1 rfl rfl)) (QS rfl rfl rfl Y0 (Q8 rfl rfl rfl (Qm rfl QN (hS7.cell 0 rfl rfl)) (Xi rfl rfl rfl rfl rfl rfl ?_))))))
   refine Qv Fv rfl (GU (hS7.sp [5] rfl) x.at_) rfl ?_
   rintro _ w8 ⟨rfl,hS8⟩
   replace hS8:=hS8.jn rfl rfl
   clear hS7
   rw[hI.frc hE hid hp1]
   dsimp only[Option.getD_some]
   refine X9 (Xu (by kernel_rfl)) ?_
   refine XP rfl rfl rfl (VC.nil (Qc (Qh [0,5,4] rfl (Qu (Qx (Qn (QP (.inr rfl) rfl rfl ?_)))))))
   exact⟨_,rfl, by unfold YW; rw[hid],hS8.pick [2,3,4,5,0,6,7,8,9] rfl⟩
  refine Qd (Qa (Qg rfl YY rfl (Qp rfl QN (hS3.cell 0 rfl rfl) rfl (Xe rfl rfl rfl (Qe rfl rfl (Qf (Qc (Qh [0,4,5,38] rfl (Qt rfl (fun h9=> ?_) (fun h9=> ?_))))))))))
  ·have hp2:x.place=2:=h9
   refine Qd (Qa (Qg rfl M0 rfl (Qp rfl ZZ (hS3.cell 0 rfl rfl) rfl ?_)))
   obtain⟨fy,hfy⟩:=Option.ne_none_iff_exists'.1 (hI.pck hE hid hp2).2
   have hfme:Rl x=fy:= by unfold Rl fm; rw[if_pos hp2,hfy];rfl
   refine Qv Fu rfl (G9 (hS3.sp [] rfl) (hI.ent hid).2.2.2.2.1 (by rw[hfme]; exact hfy)) rfl ?_
   rintro _ w10 ⟨rfl,hS10⟩
   replace hS10:=hS10.jn rfl rfl
   clear hS3
   refine Qb rfl rfl (Qs rfl rfl rfl (Qs rfl rfl rfl (Qe rfl rfl (Qe rfl rfl (Qf (Qc (Qh [0,4,5,7] rfl (Qd (Qa (Qb rfl rfl (Qe rfl rfl (Qf (Qc (Qu (Qx (Qn (QP (.inr rfl) rfl rfl ?_)))))))))))))))))
   exact⟨_,rfl, by unfold YW; rw[hid],hS10.pick [1,2,3,4,5,6,7,8,9] rfl⟩
  refine Qr (Ql (Qc (Qd ?_)))
  have hp3:x.place=3:= by omega
  have hS11:=hS3.drew
  refine QI [0,1,2,3,4,5,6,7,8,9,10,11] [6] Wq (by kernel_rfl) ?_
  refine QE rfl rfl rfl (Xj rfl rfl rfl (QS rfl rfl rfl YZ (Q8 rfl rfl rfl (Qm rfl VZ (hS11.cell 1 rfl rfl)) (QS rfl rfl rfl Y0 (Q8 rfl rfl rfl (Qm rfl QN (hS11.cell 0 rfl rfl)) (Xi rfl rfl rfl rfl rfl rfl ?_))))))
  refine Qv qa3 rfl (ND (hS11.sp [6] rfl) x.at_) rfl ?_
  rintro _ w12 ⟨eg,rfl,hS12⟩
  replace hS12:=hS12.jn rfl rfl
  clear hS11
  rw[(V5 hI hE hid hp3).2.1]
  refine X9 (Xu (by kernel_rfl)) ?_
  refine QE rfl rfl rfl (We rfl rfl rfl rfl (We rfl rfl rfl rfl (XP rfl rfl rfl (XP rfl rfl rfl (VC.nil (Qc (Qh [4,9] rfl (Qd (Qa (Qb rfl rfl (Qe rfl rfl (Qf (Qc (Qu (QP (.inr rfl) rfl rfl ?_)))))))))))))))
  exact⟨_,rfl, by unfold YW; rw[hid],hS12.pick [2,3,4,5,6,0,7,8,9] rfl⟩
theorem SD {w:World} {p:Nat} {S:SS} {F:Th} (hS:Sat w [YV p S,F]) {N:Nat} (hI:ShI Rq N S) (hN:N≤80000000000) (id:Int):
    Calls Tryz.prog 107 #[ptrV p 0,intV id] w (Ret fun v w'=>(match S.all id with | none=>v= .tuple #[intV 0,intV 4]∧Sat w' [YV p S,F] | some x=>(x.place=1∧v= .tuple #[intV x.at_,intV 0]∧Sat w' [YV p S,F])∨(∃k S',x.place≠1∧v= .tuple #[intV (k:Nat),intV 0]∧BrS N S S' id k x∧Sat w' [YV p S',F])∨(x.place=2∧v= .tuple #[intV 0,intV 6]∧(∀o∈S.fr,o≠none)∧WF S.sl=S.sl.length∧Sat w' [YV p S,F]))):= by
 obtain⟨ba,bi,fp,sp,kp,ac,cc,at2,ct,hS⟩:=Zh hS
 cases hid:S.all id with
 | none=>
  dsimp only
  refine Gh Tryz.func107 rfl Tryz.ntmps107 rfl ?_
  refine Qd (Qa (XX hS rfl rfl rfl ?_))
  intro sb w1 hS1
  refine XX hS1 rfl rfl rfl ?_
  intro db w2 hS2
  clear hS1
  refine Qe rfl rfl (Xc hS2 zr_28 rfl rfl ?_)
  intro eb w3 hS3
  clear hS2
  refine Qf (Qc (Qd ?_))
  have hS4:=hS3.drew
  refine QI [0,1,2,3,4,5,6,7,8,9,10,11] [9,10] Wq (by kernel_rfl) ?_
  refine Q8 rfl rfl rfl (Qm rfl Xk (hS4.cell 2 rfl rfl)) (Xj rfl rfl rfl (QS rfl rfl rfl XL (Q8 rfl rfl rfl (Qm rfl Zm (hS4.cell 3 rfl rfl)) (Q8 rfl rfl rfl (Qm rfl QN (hS4.cell 1 rfl rfl)) (Q8 rfl rfl rfl (WB (k:=id) 4 hS4 keysInt Tryz.underlying108 rfl rfl rfl XH (u:=(.agg #[intV 0,intV 0,intV 0,strV []])) (g:=false) (Hw hid) (Hd hid)) (QE rfl rfl rfl (We rfl rfl rfl rfl (We rfl rfl rfl rfl (Xi rfl rfl rfl rfl rfl rfl ?_)))))))))
  refine Xc hS4 XH rfl rfl ?_
  intro xb w5 hS5
  clear hS4
  refine X9 (.cons (.inl ⟨rfl,(WB (k:=id) 5 hS5 keysInt Tryz.underlying108 rfl rfl rfl XH (u:=(.agg #[intV 0,intV 0,intV 0,strV []])) (g:=false) (Hw hid) (Hd hid))⟩) (.cons (.inl ⟨rfl,(Qm rfl QN (hS5.cell 2 rfl rfl))⟩) (.cons (.inl ⟨rfl,(Qm rfl Zm (hS5.cell 4 rfl rfl))⟩) (.cons (.inl ⟨rfl,(Qm rfl Xk (hS5.cell 3 rfl rfl))⟩) .nil)))) (Xi rfl rfl rfl rfl rfl rfl ?_)
  (refine QU hS5 rfl rfl Yc rfl (by rfl) (i:=0) rfl (by decide) ?_)
  intro w6 hS7; dsimp only[List.set]at hS7
  clear hS5
  refine Z0 (Xu (by kernel_rfl)) ?_
  refine XP rfl rfl rfl (VC.nil (Qc (Qh [2,3,4,5,6,7] rfl (Qd (Qw (Qd (Qa (Qb rfl rfl (QQ rfl rfl (Qe rfl rfl (Qf (Qc (QL rfl (fun h8=> ?_) (fun h8=> ?_))))))))))))))
  ·refine Qd (Qa (Qe rfl rfl ?_))
   first | (refine QJ hS7 rfl rfl Wl (by first | rfl | assumption | exact hS7.own_one 7 rfl | exact hS7.own_one 11 rfl) (i:=0) rfl (by first | decide | exact Xn rfl | (simp;done) | omega) ?_) | (refine QJ hS7 rfl rfl Wl (by first | rfl | assumption | exact hS7.own_one 7 rfl | exact hS7.own_one 11 rfl) (i:=1) rfl (by first | decide | exact Xn rfl | (simp;done) | omega) ?_) | (refine QJ hS7 rfl rfl Wl (by first | rfl | assumption | exact hS7.own_one 7 rfl | exact hS7.own_one 11 rfl) (i:=2) rfl (by first | decide | exact Xn rfl | (simp;done) | omega) ?_) | (refine QJ hS7 rfl rfl Wl (by first | rfl | assumption | exact hS7.own_one 7 rfl | exact hS7.own_one 11 rfl) (i:=3) rfl (by first | decide | exact Xn rfl | (simp;done) | omega) ?_) | (refine QJ hS7 rfl rfl Wl (by first | rfl | assumption | exact hS7.own_one 7 rfl | exact hS7.own_one 11 rfl) (i:=4) rfl (by first | decide | exact Xn rfl | (simp;done) | omega) ?_)
   intro w9 hS10; dsimp only[List.set]at hS10
   clear hS7
   exact Qf (Qc (Qu (Qx (Qn (finE2 (.inr rfl) rfl (R7 rfl) (NX rfl Gv (hS10.cell 1 rfl rfl)) (⟨_,rfl,rfl,QY (hS10.pick [4,5,6,7,8,9,10,11,12] rfl)⟩))))))
  exact absurd h8 (by simp)
 | some x=>
  obtain⟨hid1,_,hr1,hr2,_,hplc⟩:=hI.ent hid
  dsimp only
  refine Gh Tryz.func107 rfl Tryz.ntmps107 rfl ?_
  refine Qd (Qa (XX hS rfl rfl rfl ?_))
  intro sb w1 hS1
  refine XX hS1 rfl rfl rfl ?_
  intro db w2 hS2
  clear hS1
  refine Qe rfl rfl (Xc hS2 zr_28 rfl rfl ?_)
  intro eb w3 hS3
  clear hS2
  refine Qf (Qc (Qd ?_))
  have hS4:=hS3.drew
  refine QI [0,1,2,3,4,5,6,7,8,9,10,11] [9,10] Wq (by kernel_rfl) ?_
  refine Q8 rfl rfl rfl (Qm rfl Xk (hS4.cell 2 rfl rfl)) (Xj rfl rfl rfl (QS rfl rfl rfl XL (Q8 rfl rfl rfl (Qm rfl Zm (hS4.cell 3 rfl rfl)) (Q8 rfl rfl rfl (Qm rfl QN (hS4.cell 1 rfl rfl)) (Q8 rfl rfl rfl (WB (k:=id) 4 hS4 keysInt Tryz.underlying108 rfl rfl rfl XH (u:=(.agg #[intV x.refs,intV x.place,intV x.at_,strV (Rl x)])) (g:=true) (J3 hid) (Hc hid)) (QE rfl rfl rfl (We rfl rfl rfl rfl (We rfl rfl rfl rfl (Xi rfl rfl rfl rfl rfl rfl ?_)))))))))
  refine Xc hS4 XH rfl rfl ?_
  intro xb w5 hS5
  clear hS4
  refine X9 (.cons (.inl ⟨rfl,(WB (k:=id) 5 hS5 keysInt Tryz.underlying108 rfl rfl rfl XH (u:=(.agg #[intV x.refs,intV x.place,intV x.at_,strV (Rl x)])) (g:=true) (J3 hid) (Hc hid))⟩) (.cons (.inl ⟨rfl,(Qm rfl QN (hS5.cell 2 rfl rfl))⟩) (.cons (.inl ⟨rfl,(Qm rfl Zm (hS5.cell 4 rfl rfl))⟩) (.cons (.inl ⟨rfl,(Qm rfl Xk (hS5.cell 3 rfl rfl))⟩) .nil)))) (Xi rfl rfl rfl rfl rfl rfl ?_)
  (refine QU hS5 rfl rfl Yc rfl (by rfl) (i:=0) rfl (by decide) ?_)
  intro w6 hS7; dsimp only[List.set]at hS7
  clear hS5
  refine Z0 (Xu (by kernel_rfl)) ?_
  refine XP rfl rfl rfl (VC.nil (Qc (Qh [2,3,4,5,6,7] rfl (Qd (Qw (Qd (Qa (Qb rfl rfl (QQ rfl rfl (Qe rfl rfl (Qf (Qc (QL rfl (fun h8=> ?_) (fun h8=> ?_))))))))))))))
  ·exact absurd h8 (by simp)
  refine Qd (Qa (Qg rfl YY rfl (Qp rfl QN (hS7.cell 0 rfl rfl) rfl (Xe rfl rfl rfl (Qe rfl rfl (Qf (Qc (Qh [2,3,4,5,6,7,22] rfl (Qt rfl (fun h9=> ?_) (fun h9=> ?_))))))))))
  ·have hp1:x.place=1:=h9
   refine Qd (Qa (Qg rfl Y0 rfl (Qp rfl QN (hS7.cell 0 rfl rfl) rfl (Qe rfl rfl ?_))))
   (refine QJ hS7 rfl rfl Wl (by rfl) (i:=1) rfl (by decide) ?_)
   intro w10 hS11; dsimp only[List.set]at hS11
   clear hS7
   exact Qf (Qc (Qu (Qx (Qn (finE2 (.inr rfl) rfl (R7 rfl) (NX rfl Gv (hS11.cell 1 rfl rfl)) (⟨_,rfl,.inl ⟨hp1,rfl,QY (hS11.pick [4,5,6,7,8,9,10,11,12] rfl)⟩⟩))))))
  have hp1:x.place≠1:=h9
  refine Qr (Ql (Qc (Qd ?_)))
  have hS12:=hS7.drew
  refine R1 Wq (VP 2 7 rfl ?_ ?_)
  ·refine U6 (sp:=[2,7,9]) [0,1,3,4,5,6,2,7,8,9] (by kernel_rfl) ?_
   refine Q8 rfl rfl rfl (Qm rfl Xk (hS12.cell 3 rfl rfl)) (Q8 rfl rfl rfl (Qm rfl QN (hS12.cell 2 rfl rfl)) (Q8 rfl rfl rfl (Qm rfl Xk (hS12.cell 3 rfl rfl)) (Xj rfl rfl rfl (QS rfl rfl rfl WA (Q8 rfl rfl rfl (Qm rfl Hb (hS12.cell 4 rfl rfl)) (Xi rfl rfl rfl rfl rfl rfl ?_))))))
   refine Qv JV rfl (DJ (hS12.sp [4,5,6,7,8,9,10,11] rfl) hI id (fun q=>q)) rfl ?_
   rintro _ w13 ⟨rfl,hS13⟩
   replace hS13:=hS13.jn rfl rfl
   clear hS12
   rw[show YW S id=x.pg by unfold YW; rw[hid]]
   refine X9 (.cons (.inl ⟨rfl,(Qm rfl Hb (hS13.cell 0 rfl rfl))⟩) (.cons (.inl ⟨rfl,(Qm rfl Xk (hS13.cell 11 rfl rfl))⟩) (Xu (by kernel_rfl)))) ?_
   refine Xi rfl rfl rfl rfl rfl rfl ?_
   refine Xc hS13 zr_47 rfl rfl ?_
   intro ob w14 hS14
   clear hS13
   refine X9 (.cons (.inl ⟨rfl,(Qm rfl Hb (hS14.cell 1 rfl rfl))⟩) (.cons (.inl ⟨rfl,(Qm rfl Xk (hS14.cell 12 rfl rfl))⟩) (Xu (by kernel_rfl)))) ?_
   refine XP rfl rfl rfl (Xi rfl rfl rfl rfl rfl rfl ?_)
   (refine QJ hS14 rfl rfl R4 (by rfl) (i:=0) rfl (by decide) ?_)
   intro w15 hS16; dsimp only[List.set]at hS16
   clear hS14
   refine Z0 (Xu (by kernel_rfl)) ?_
   refine VC.nil (Qc (Qh [2,3,4,5,6,7,9,8] rfl (Qd (Qd (Qa (Qg rfl YY rfl (Qp rfl QN (hS16.cell 9 rfl rfl) rfl (Xe rfl rfl rfl (Qf (Qc (Qt rfl (fun h17=> ?_) (fun h17=> ?_))))))))))))
   ·have hp2:x.place=2:=h17
    have hS18:=hS16.drew
    refine QI [0,1,2,3,4,6,5,7,8,9,10] [5,7,10] Wq (by kernel_rfl) ?_
    refine Q8 rfl rfl rfl (Qm rfl Xk (hS18.cell 12 rfl rfl)) (Q8 rfl rfl rfl (Qm rfl Xk (hS18.cell 12 rfl rfl)) (Xj rfl rfl rfl (QS rfl rfl rfl WA (Q8 rfl rfl rfl (Qm rfl Hb (hS18.cell 1 rfl rfl)) (QZ rfl rfl rfl (fun _=>(B2 rfl)) ?_)))))
    refine Xi rfl rfl rfl rfl rfl rfl ?_
    refine Qv CX rfl (Kw (hS18.sp [] rfl) (Ent.starL (Hs (C:=inC) (l:=S.cache) (by have :=hI.cln;omega)) 4 rfl) (by have :=hI.cln;omega)) rfl ?_
    rintro _ w19 hS19
    replace hS19:=hS19.jn rfl rfl
    clear hS18
    have h1n:=hS19.own_one 0 rfl
    refine X9 (.skip (by kernel_rfl) (.skip (by kernel_rfl) (.cons (.inl ⟨rfl,(Qm rfl Xk (hS19.cell 13 rfl rfl))⟩) .nil))) ?_
    refine Xi rfl rfl rfl rfl rfl rfl ?_
    refine Qv Nh rfl (CP (eqB _ id) (hS19.sp [0,12] rfl) (by have :=hI.cln;omega)) rfl ?_
    rintro _ w20 hS20
    replace hS20:=hS20.jn rfl rfl
    clear hS19
    have h1d:=hS20.own_one 0 rfl
    refine X9 (.skip (by kernel_rfl) (.skip (by kernel_rfl) (.cons (.inl ⟨rfl,(Qm rfl Xk (hS20.cell 13 rfl rfl))⟩) .nil))) ?_
    refine Xj rfl rfl rfl (QS rfl rfl rfl WA (Xi rfl rfl rfl rfl rfl rfl ?_))
    (refine QJ hS20 rfl rfl R4 (by assumption) (i:=3) rfl (Xn rfl) ?_)
    intro w21 hS22; dsimp only[List.set]at hS22
    clear hS20
    refine Z0 (Xu (by kernel_rfl)) ?_
    refine VC.nil (Qc (Qh [2,3,4,5,6,7,9,8] rfl (Qd ?_)))
    have hS23:=QY (S:={S with cache:=S.cache.filter (fun n=> !decide (n=id))}) (hS22.pick [3,4,5,0,7,8,9,10,12,2,13,1,11,6,14] rfl)
    refine Qa (ZM rfl rfl (Rz rfl (XI (XT (XN (Qp rfl Xk (hS23.cell 3 rfl rfl) rfl ?_))))))
    have hIL:=GO hI hid hp2
    refine Zf Gk rfl (V6 (hS23.sp [0] rfl) (E:=one id) hIL hN) rfl ?_
    rintro e w24 ⟨_,rfl,(⟨rfl,hall,hfull,hS24⟩ | ⟨k,S1,rfl,hg,hS24⟩)⟩
    ·refine⟨_,rfl, ?_⟩
     replace hS24:=hS24.jn rfl rfl
     clear hS23
     refine Qb rfl rfl (Qs rfl rfl rfl (Qs rfl rfl rfl (Qe rfl rfl (Qe rfl rfl (Qf (ZJ (XI (WY (L':=[(7,_),(4,_),(8,_),(6,_),(5,_),(3,_),(2,_)]) (Cq rfl rfl rfl rfl rfl rfl rfl) (XT (XT (XN (Qb rfl rfl (QQ rfl rfl (Qf (ZJ (XI (H9 rfl (fun h25=> ?_) (fun h25=> ?_))))))))))))))))))
     ·refine XT (XN (Qe rfl rfl ?_))
      (refine QJ hS24 rfl rfl Wl (by rfl) (i:=1) rfl (by decide) ?_)
      intro w26 hS27; dsimp only[List.set]at hS27
      clear hS24
      refine Qf (ZJ (XI (Ua (UP ?_))))
      obtain⟨ba,bi,fp,sp,kp,ac,cc,at2,ct,hSo28⟩:=Zh (hS27.pick [0,1,2,3,4,5,6,7] rfl)
      refine EX (.inr rfl) Kz (H4 rfl (hSo28.sp [8,9,10,0] rfl)) ?_
      rintro v0 w9 hq9
      rw[if_neg (by decide)]at hq9
      replace hq9:=hq9.jn rfl rfl
      refine⟨_,Kl rfl (R7 rfl) (NX rfl Gv (hq9.cell 0 rfl rfl)), ?_⟩
      exact⟨_,rfl,.inr (.inr ⟨hp2,rfl,hall,hfull,QY (S:=S) (hq9.pick [3,4,5,13,7,8,9,10,14] rfl)⟩)⟩
     exact absurd h25 (by simp)
    refine⟨_,rfl, ?_⟩
    replace hS24:=hS24.jn rfl rfl
    clear hS23
    refine Qb rfl rfl (Qs rfl rfl rfl (Qs rfl rfl rfl (Qe rfl rfl (Qe rfl rfl (Qf (ZJ (XI (WY (L':=[(7,_),(4,_),(8,_),(6,_),(5,_),(3,_),(2,_)]) (Cq rfl rfl rfl rfl rfl rfl rfl) (XT (XT (XN (Qb rfl rfl (QQ rfl rfl (Qf (ZJ (XI (H9 rfl (fun h29=> ?_) (fun h29=> ?_))))))))))))))))))
    ·exact absurd h29 (by simp)
    refine Vt (XI (XT ?_))
    obtain⟨ba,bi,fp,sp,kp,ac,cc,at2,ct,hSo30⟩:=Zh (hS24.pick [0,1,2,3,4,5,6,7] rfl)
    refine XN (Qp rfl Xk (hSo30.cell 10 rfl rfl) rfl (Qj rfl rfl (Qg rfl WO rfl (Qp rfl YM (hSo30.cell 0 rfl rfl) rfl (Qb rfl rfl (Qb rfl rfl ?_))))))
    have hkl:k<S1.fr.length:=(XW hg.fr).1
    have hfs:VH (P0 S1 k).fr (k:Int) x.pg=S1.fr.set k (some x.pg):=VL hkl
    refine Qv Gj rfl (U0 (hSo30.sp [4] rfl) (k:Int) x.pg (hI.ent hid).2.2.2.2.1) rfl ?_
    rintro _ w31 ⟨_,rfl,hS31⟩
    replace hS31:=hS31.jn rfl rfl
    clear hSo30
    rw[hfs]at hS31
    refine Qf (ZJ (XI (WY (L':=[(4,_),(6,_),(5,_),(3,_),(2,_)]) (Vp rfl rfl rfl rfl rfl) (XT ?_))))
    have hS32:=hS31.drew
    refine Kd Wq (U6 (sp:=[15,17,18,20]) [0,1,2,3,4,5,6,7,8,9,10,11,12,13,14,15,16,17,18,19,20] (by kernel_rfl) ?_)
    refine Q8 rfl rfl rfl (Qm rfl Xk (hS32.cell 10 rfl rfl)) (Xj rfl rfl rfl (QS rfl rfl rfl XL (Q8 rfl rfl rfl (Qm rfl Zm (hS32.cell 1 rfl rfl)) (Q8 rfl rfl rfl (Qm rfl QN (hS32.cell 11 rfl rfl)) (Q8 rfl rfl rfl (Qm rfl Xk (hS32.cell 10 rfl rfl)) (Xj rfl rfl rfl (QS rfl rfl rfl HP (Q8 rfl rfl rfl (Qm rfl Jt (hS32.cell 1 rfl rfl)) (QE rfl rfl rfl (QS rfl rfl rfl JA (Q8 rfl rfl rfl (Qm rfl QN (hS32.cell 12 rfl rfl)) (QE rfl rfl rfl (QZ rfl rfl rfl (fun _=>(Wp rfl Je Uh XH rfl)) ?_)))))))))))))
    refine Q8 rfl rfl rfl (Qm rfl QN (hS32.cell 11 rfl rfl)) (Xi rfl rfl rfl rfl rfl rfl ?_)
    refine ZU (k:=id) 2 hS32 keysInt Tryz.underlying108 rfl rfl rfl XH rfl ?_
    intro u33 c33 w33 hS33; dsimp only[List.set]at hS33
    clear hS32
    refine X9 (.cons (.inl ⟨rfl,(Qm rfl QN (hS33.cell 11 rfl rfl))⟩) (.cons (.inl ⟨rfl,(Qm rfl QN (hS33.cell 12 rfl rfl))⟩) (Xu (by kernel_rfl)))) ?_
    refine We rfl rfl rfl rfl (Xi rfl rfl rfl rfl rfl rfl ?_)
    have hsv34:Value.agg #[intV x.refs,intV 1,intV (k:Nat),strV []]=FL ⟨x.refs,1,(k:Nat),x.pg⟩:=rfl
    refine Zz (v:=Value.agg #[intV x.refs,intV 1,intV (k:Nat),strV []]) 2 hS33 keysInt rfl rfl rfl rfl ?_
    intro w34 hS34a; dsimp only[List.set]at hS34a; have hS34:=hS34a; rw[hsv34,KO]at hS34
    clear hS33
    refine Z0 (.cons (.inl ⟨rfl,(Qm rfl QN (hS34.cell 11 rfl rfl))⟩) (Xu (by kernel_rfl))) ?_
    refine Xi rfl rfl rfl rfl rfl rfl ?_
    refine ZU (k:=(k:Int)) 3 hS34 keysInt Tryz.underlying109 rfl rfl rfl HV rfl ?_
    intro u35 c35 w35 hS35; dsimp only[List.set]at hS35
    clear hS34
    refine X9 (.cons (.inl ⟨rfl,(Qm rfl QN (hS35.cell 11 rfl rfl))⟩) (Xu (by kernel_rfl))) ?_
    refine We rfl rfl rfl rfl (Xi rfl rfl rfl rfl rfl rfl ?_)
    refine Zz (v:=intV id) 3 hS35 keysInt rfl rfl rfl rfl ?_
    intro w36 hS36a; dsimp only[List.set]at hS36a; have hS36:=hS36a; rw[RN]at hS36
    clear hS35
    refine Z0 (Xu (by kernel_rfl)) ?_
    refine VC.nil (ZJ (XI (WY (L':=[(4,_),(5,_)]) (BD rfl rfl) (XT (XN (Qb rfl rfl (Qe rfl rfl ?_)))))))
    first | (refine QJ hS36 rfl rfl Wl (by first | rfl | assumption | exact hS36.own_one 4 rfl | exact hS36.own_one 7 rfl | exact hS36.own_one 13 rfl) (i:=1) rfl (by first | decide | exact Xn rfl | (simp;done) | omega) ?_) | (refine QJ hS36 rfl rfl Wl (by first | rfl | assumption | exact hS36.own_one 4 rfl | exact hS36.own_one 7 rfl | exact hS36.own_one 13 rfl) (i:=8) rfl (by first | decide | exact Xn rfl | (simp;done) | omega) ?_) | (refine QJ hS36 rfl rfl Wl (by first | rfl | assumption | exact hS36.own_one 4 rfl | exact hS36.own_one 7 rfl | exact hS36.own_one 13 rfl) (i:=9) rfl (by first | decide | exact Xn rfl | (simp;done) | omega) ?_) | (refine QJ hS36 rfl rfl Wl (by first | rfl | assumption | exact hS36.own_one 4 rfl | exact hS36.own_one 7 rfl | exact hS36.own_one 13 rfl) (i:=10) rfl (by first | decide | exact Xn rfl | (simp;done) | omega) ?_) | (refine QJ hS36 rfl rfl Wl (by first | rfl | assumption | exact hS36.own_one 4 rfl | exact hS36.own_one 7 rfl | exact hS36.own_one 13 rfl) (i:=11) rfl (by first | decide | exact Xn rfl | (simp;done) | omega) ?_) | (refine QJ hS36 rfl rfl Wl (by first | rfl | assumption | exact hS36.own_one 4 rfl | exact hS36.own_one 7 rfl | exact hS36.own_one 13 rfl) (i:=12) rfl (by first | decide | exact Xn rfl | (simp;done) | omega) ?_)
    intro w37 hS38; dsimp only[List.set]at hS38
    clear hS36
    refine Qf (ZJ (XI (Ua (EX (.inr rfl) Kz (H4 rfl (hS38.sp [8,9,10,1] rfl)) ?_))))
    rintro v0 w9 hq9
    rw[if_pos rfl]at hq9
    replace hq9:=hq9.jn rfl rfl
    refine⟨_,Kl rfl (R7 rfl) (NX rfl Gv (hq9.cell 0 rfl rfl)), ?_⟩
    exact⟨_,rfl,.inr (.inl ⟨k,_,hp1,rfl,Gp hI hid hp1 (SL:={S with cache:=S.cache.filter (fun n=> !decide (n=id))}) ⟨rfl,rfl,rfl,rfl,rfl,rfl⟩ hg,QY (S:=onF S1 id k x.refs x.pg S1.next) (hq9.pick [3,5,6,7,4,8,9,10,14] rfl)⟩)⟩
   have hp3:x.place=3:= by omega
   have hS39:=hS16.drew
   refine QI [0,1,2,3,4,5,6] [6] Wq (by kernel_rfl) ?_
   refine Q8 rfl rfl rfl (Qm rfl Xk (hS39.cell 12 rfl rfl)) (Xj rfl rfl rfl (QS rfl rfl rfl YZ (Q8 rfl rfl rfl (Qm rfl VZ (hS39.cell 1 rfl rfl)) (QS rfl rfl rfl Y0 (Q8 rfl rfl rfl (Qm rfl QN (hS39.cell 9 rfl rfl)) (Xi rfl rfl rfl rfl rfl rfl ?_))))))
   refine Qv Ng rfl (GC (hS39.sp [6] rfl) x.at_) rfl ?_
   rintro _ w40 ⟨rfl,hS40⟩
   replace hS40:=hS40.jn rfl rfl
   clear hS39
   rw[(V5 hI (fun q=>q) hid hp3).2.2]at hS40
   refine X9 (Xu (by kernel_rfl)) ?_
   refine VC.nil (Qc (Qh [2,3,4,5,6,7,9,8] rfl (Qd ?_)))
   have hS41:=QY (S:={S with sl:=S.sl.set x.at_.toNat []}) (hS40.pick [2,3,4,5,6,0,7,8,10,1,12,11,9,13] rfl)
   refine Qa (ZM rfl rfl (Rz rfl (XI (XT (XN (Qp rfl Xk (hS41.cell 3 rfl rfl) rfl ?_))))))
   have hIL:=Mg hI hid hp3
   refine Zf Gk rfl (V6 (hS41.sp [0] rfl) (E:=one id) hIL hN) rfl ?_
   rintro e w42 ⟨_,rfl,(⟨rfl,hall,hfull,hS42⟩ | ⟨k,S1,rfl,hg,hS42⟩)⟩
   ·exact absurd hfull (by have hz:=D9.2 (List.mem_of_getElem? (List.getElem?_set_self (l:=S.sl) (i:=x.at_.toNat) (a:=([]:Bs)) (XW (hI.slt (fun q=>q) hid hp3).2).1)); dsimp only;omega)
   refine⟨_,rfl, ?_⟩
   replace hS42:=hS42.jn rfl rfl
   clear hS41
   refine Qb rfl rfl (Qs rfl rfl rfl (Qs rfl rfl rfl (Qe rfl rfl (Qe rfl rfl (Qf (ZJ (XI (WY (L':=[(7,_),(4,_),(8,_),(6,_),(5,_),(3,_),(2,_)]) (Cq rfl rfl rfl rfl rfl rfl rfl) (XT (XT (XN (Qb rfl rfl (QQ rfl rfl (Qf (ZJ (XI (H9 rfl (fun h43=> ?_) (fun h43=> ?_))))))))))))))))))
   ·exact absurd h43 (by simp)
   refine Vt (XI (XT ?_))
   obtain⟨ba,bi,fp,sp,kp,ac,cc,at2,ct,hSo44⟩:=Zh (hS42.pick [0,1,2,3,4,5,6] rfl)
   refine XN (Qp rfl Xk (hSo44.cell 10 rfl rfl) rfl (Qj rfl rfl (Qg rfl WO rfl (Qp rfl YM (hSo44.cell 0 rfl rfl) rfl (Qb rfl rfl (Qb rfl rfl ?_))))))
   have hkl:k<S1.fr.length:=(XW hg.fr).1
   have hfs:VH (P0 S1 k).fr (k:Int) x.pg=S1.fr.set k (some x.pg):=VL hkl
   refine Qv Gj rfl (U0 (hSo44.sp [4] rfl) (k:Int) x.pg (hI.ent hid).2.2.2.2.1) rfl ?_
   rintro _ w45 ⟨_,rfl,hS45⟩
   replace hS45:=hS45.jn rfl rfl
   clear hSo44
   rw[hfs]at hS45
   refine Qf (ZJ (XI (WY (L':=[(4,_),(6,_),(5,_),(3,_),(2,_)]) (Vp rfl rfl rfl rfl rfl) (XT ?_))))
   have hS46:=hS45.drew
   refine Kd Wq (U6 (sp:=[15,17,18,20]) [0,1,2,3,4,5,6,7,8,9,10,11,12,13,14,15,16,17,18,19,20] (by kernel_rfl) ?_)
   refine Q8 rfl rfl rfl (Qm rfl Xk (hS46.cell 10 rfl rfl)) (Xj rfl rfl rfl (QS rfl rfl rfl XL (Q8 rfl rfl rfl (Qm rfl Zm (hS46.cell 1 rfl rfl)) (Q8 rfl rfl rfl (Qm rfl QN (hS46.cell 11 rfl rfl)) (Q8 rfl rfl rfl (Qm rfl Xk (hS46.cell 10 rfl rfl)) (Xj rfl rfl rfl (QS rfl rfl rfl HP (Q8 rfl rfl rfl (Qm rfl Jt (hS46.cell 1 rfl rfl)) (QE rfl rfl rfl (QS rfl rfl rfl JA (Q8 rfl rfl rfl (Qm rfl QN (hS46.cell 12 rfl rfl)) (QE rfl rfl rfl (QZ rfl rfl rfl (fun _=>(Wp rfl Je Uh XH rfl)) ?_)))))))))))))
   refine Q8 rfl rfl rfl (Qm rfl QN (hS46.cell 11 rfl rfl)) (Xi rfl rfl rfl rfl rfl rfl ?_)
   refine ZU (k:=id) 2 hS46 keysInt Tryz.underlying108 rfl rfl rfl XH rfl ?_
   intro u47 c47 w47 hS47; dsimp only[List.set]at hS47
   clear hS46
   refine X9 (.cons (.inl ⟨rfl,(Qm rfl QN (hS47.cell 11 rfl rfl))⟩) (.cons (.inl ⟨rfl,(Qm rfl QN (hS47.cell 12 rfl rfl))⟩) (Xu (by kernel_rfl)))) ?_
   refine We rfl rfl rfl rfl (Xi rfl rfl rfl rfl rfl rfl ?_)
   have hsv48:Value.agg #[intV x.refs,intV 1,intV (k:Nat),strV []]=FL ⟨x.refs,1,(k:Nat),x.pg⟩:=rfl
   refine Zz (v:=Value.agg #[intV x.refs,intV 1,intV (k:Nat),strV []]) 2 hS47 keysInt rfl rfl rfl rfl ?_
   intro w48 hS48a; dsimp only[List.set]at hS48a; have hS48:=hS48a; rw[hsv48,KO]at hS48
   clear hS47
   refine Z0 (.cons (.inl ⟨rfl,(Qm rfl QN (hS48.cell 11 rfl rfl))⟩) (Xu (by kernel_rfl))) ?_
   refine Xi rfl rfl rfl rfl rfl rfl ?_
   refine ZU (k:=(k:Int)) 3 hS48 keysInt Tryz.underlying109 rfl rfl rfl HV rfl ?_
   intro u49 c49 w49 hS49; dsimp only[List.set]at hS49
   clear hS48
   refine X9 (.cons (.inl ⟨rfl,(Qm rfl QN (hS49.cell 11 rfl rfl))⟩) (Xu (by kernel_rfl))) ?_
   refine We rfl rfl rfl rfl (Xi rfl rfl rfl rfl rfl rfl ?_)
   refine Zz (v:=intV id) 3 hS49 keysInt rfl rfl rfl rfl ?_
   intro w50 hS50a; dsimp only[List.set]at hS50a; have hS50:=hS50a; rw[RN]at hS50
   clear hS49
   refine Z0 (Xu (by kernel_rfl)) ?_
   refine VC.nil (ZJ (XI (WY (L':=[(4,_),(5,_)]) (BD rfl rfl) (XT (XN (Qb rfl rfl (Qe rfl rfl ?_)))))))
   first | (refine QJ hS50 rfl rfl Wl (by first | rfl | assumption | exact hS50.own_one 4 rfl | exact hS50.own_one 7 rfl) (i:=1) rfl (by first | decide | exact Xn rfl | (simp;done) | omega) ?_) | (refine QJ hS50 rfl rfl Wl (by first | rfl | assumption | exact hS50.own_one 4 rfl | exact hS50.own_one 7 rfl) (i:=8) rfl (by first | decide | exact Xn rfl | (simp;done) | omega) ?_) | (refine QJ hS50 rfl rfl Wl (by first | rfl | assumption | exact hS50.own_one 4 rfl | exact hS50.own_one 7 rfl) (i:=9) rfl (by first | decide | exact Xn rfl | (simp;done) | omega) ?_) | (refine QJ hS50 rfl rfl Wl (by first | rfl | assumption | exact hS50.own_one 4 rfl | exact hS50.own_one 7 rfl) (i:=10) rfl (by first | decide | exact Xn rfl | (simp;done) | omega) ?_) | (refine QJ hS50 rfl rfl Wl (by first | rfl | assumption | exact hS50.own_one 4 rfl | exact hS50.own_one 7 rfl) (i:=11) rfl (by first | decide | exact Xn rfl | (simp;done) | omega) ?_) | (refine QJ hS50 rfl rfl Wl (by first | rfl | assumption | exact hS50.own_one 4 rfl | exact hS50.own_one 7 rfl) (i:=12) rfl (by first | decide | exact Xn rfl | (simp;done) | omega) ?_)
   intro w51 hS52; dsimp only[List.set]at hS52
   clear hS50
   refine Qf (ZJ (XI (Ua (EX (.inr rfl) Kz (H4 rfl (hS52.sp [8,9,10,1] rfl)) ?_))))
   rintro v0 w9 hq9
   rw[if_pos rfl]at hq9
   replace hq9:=hq9.jn rfl rfl
   refine⟨_,Kl rfl (R7 rfl) (NX rfl Gv (hq9.cell 0 rfl rfl)), ?_⟩
   exact⟨_,rfl,.inr (.inl ⟨k,_,hp1,rfl,Gp hI hid hp1 (SL:={S with sl:=S.sl.set x.at_.toNat []}) ⟨rfl,rfl,rfl,rfl,rfl,rfl⟩ hg,QY (S:=onF S1 id k x.refs x.pg S1.next) (hq9.pick [3,5,6,7,4,8,9,10,13] rfl)⟩)⟩
  refine U6 (sp:=[2,7,9]) [0,1,3,4,5,6,7,2,8,9] (by kernel_rfl) ?_
  refine Q8 rfl rfl rfl (Qm rfl Xk (hS12.cell 3 rfl rfl)) (Q8 rfl rfl rfl (Qm rfl QN (hS12.cell 2 rfl rfl)) (Q8 rfl rfl rfl (Qm rfl Xk (hS12.cell 3 rfl rfl)) (Xj rfl rfl rfl (QS rfl rfl rfl WA (Q8 rfl rfl rfl (Qm rfl Hb (hS12.cell 4 rfl rfl)) (Xi rfl rfl rfl rfl rfl rfl ?_))))))
  refine Xc hS12 zr_47 rfl rfl ?_
  intro ob w53 hS53
  clear hS12
  refine X9 (.cons (.inl ⟨rfl,(Qm rfl Hb (hS53.cell 5 rfl rfl))⟩) (.cons (.inl ⟨rfl,(Qm rfl Xk (hS53.cell 4 rfl rfl))⟩) (.cons (.inl ⟨rfl,(Qm rfl QN (hS53.cell 3 rfl rfl))⟩) (.cons (.inl ⟨rfl,(Qm rfl Xk (hS53.cell 4 rfl rfl))⟩) .nil)))) (Xi rfl rfl rfl rfl rfl rfl ?_)
  refine Qv JV rfl (DJ (hS53.sp [5,6,7,8,9,10,11,12] rfl) hI id (fun q=>q)) rfl ?_
  rintro _ w54 ⟨rfl,hS54⟩
  replace hS54:=hS54.jn rfl rfl
  clear hS53
  rw[show YW S id=x.pg by unfold YW; rw[hid]]
  refine X9 (.cons (.inl ⟨rfl,(Qm rfl Hb (hS54.cell 0 rfl rfl))⟩) (.cons (.inl ⟨rfl,(Qm rfl Xk (hS54.cell 12 rfl rfl))⟩) (Xu (by kernel_rfl)))) ?_
  refine XP rfl rfl rfl (Xi rfl rfl rfl rfl rfl rfl ?_)
  (refine QJ hS54 rfl rfl R4 (by rfl) (i:=8) rfl (by decide) ?_)
  intro w55 hS56; dsimp only[List.set]at hS56
  clear hS54
  refine Z0 (Xu (by kernel_rfl)) ?_
  refine VC.nil (Qc (Qh [2,3,4,5,6,7,9,8] rfl (Qd (Qd (Qa (Qg rfl YY rfl (Qp rfl QN (hS56.cell 9 rfl rfl) rfl (Xe rfl rfl rfl (Qf (Qc (Qt rfl (fun h57=> ?_) (fun h57=> ?_))))))))))))
  ·have hp2:x.place=2:=h57
   have hS58:=hS56.drew
   refine QI [0,1,2,3,4,6,5,7,8,9,10] [5,7,10] Wq (by kernel_rfl) ?_
   refine Q8 rfl rfl rfl (Qm rfl Xk (hS58.cell 12 rfl rfl)) (Q8 rfl rfl rfl (Qm rfl Xk (hS58.cell 12 rfl rfl)) (Xj rfl rfl rfl (QS rfl rfl rfl WA (Q8 rfl rfl rfl (Qm rfl Hb (hS58.cell 0 rfl rfl)) (QZ rfl rfl rfl (fun _=>(B2 rfl)) ?_)))))
   refine Xi rfl rfl rfl rfl rfl rfl ?_
   refine Qv CX rfl (Kw (hS58.sp [] rfl) (Ent.starL (Hs (C:=inC) (l:=S.cache) (by have :=hI.cln;omega)) 3 rfl) (by have :=hI.cln;omega)) rfl ?_
   rintro _ w59 hS59
   replace hS59:=hS59.jn rfl rfl
   clear hS58
   have h1n:=hS59.own_one 0 rfl
   refine X9 (.skip (by kernel_rfl) (.skip (by kernel_rfl) (.cons (.inl ⟨rfl,(Qm rfl Xk (hS59.cell 13 rfl rfl))⟩) .nil))) ?_
   refine Xi rfl rfl rfl rfl rfl rfl ?_
   refine Qv Nh rfl (CP (eqB _ id) (hS59.sp [0,12] rfl) (by have :=hI.cln;omega)) rfl ?_
   rintro _ w60 hS60
   replace hS60:=hS60.jn rfl rfl
   clear hS59
   have h1d:=hS60.own_one 0 rfl
   refine X9 (.skip (by kernel_rfl) (.skip (by kernel_rfl) (.cons (.inl ⟨rfl,(Qm rfl Xk (hS60.cell 13 rfl rfl))⟩) .nil))) ?_
   refine Xj rfl rfl rfl (QS rfl rfl rfl WA (Xi rfl rfl rfl rfl rfl rfl ?_))
   (refine QJ hS60 rfl rfl R4 (by assumption) (i:=2) rfl (Xn rfl) ?_)
   intro w61 hS62; dsimp only[List.set]at hS62
   clear hS60
   refine Z0 (Xu (by kernel_rfl)) ?_
   refine VC.nil (Qc (Qh [2,3,4,5,6,7,9,8] rfl (Qd ?_)))
   have hS63:=QY (S:={S with cache:=S.cache.filter (fun n=> !decide (n=id))}) (hS62.pick [2,3,4,0,6,7,8,9,12,10,13,1,11,5,14] rfl)
   refine Qa (ZM rfl rfl (Rz rfl (XI (XT (XN (Qp rfl Xk (hS63.cell 3 rfl rfl) rfl ?_))))))
   have hIL:=GO hI hid hp2
   refine Zf Gk rfl (V6 (hS63.sp [0] rfl) (E:=one id) hIL hN) rfl ?_
   rintro e w64 ⟨_,rfl,(⟨rfl,hall,hfull,hS64⟩ | ⟨k,S1,rfl,hg,hS64⟩)⟩
   ·refine⟨_,rfl, ?_⟩
    replace hS64:=hS64.jn rfl rfl
    clear hS63
    refine Qb rfl rfl (Qs rfl rfl rfl (Qs rfl rfl rfl (Qe rfl rfl (Qe rfl rfl (Qf (ZJ (XI (WY (L':=[(7,_),(4,_),(8,_),(6,_),(5,_),(3,_),(2,_)]) (Cq rfl rfl rfl rfl rfl rfl rfl) (XT (XT (XN (Qb rfl rfl (QQ rfl rfl (Qf (ZJ (XI (H9 rfl (fun h65=> ?_) (fun h65=> ?_))))))))))))))))))
    ·refine XT (XN (Qe rfl rfl ?_))
     (refine QJ hS64 rfl rfl Wl (by rfl) (i:=1) rfl (by decide) ?_)
     intro w66 hS67; dsimp only[List.set]at hS67
     clear hS64
     refine Qf (ZJ (XI (Ua (UP ?_))))
     obtain⟨ba,bi,fp,sp,kp,ac,cc,at2,ct,hSo68⟩:=Zh (hS67.pick [0,1,2,3,4,5,6,7] rfl)
     refine EX (.inr rfl) Kz (H4 rfl (hSo68.sp [8,9,10,0] rfl)) ?_
     rintro v0 w9 hq9
     rw[if_neg (by decide)]at hq9
     replace hq9:=hq9.jn rfl rfl
     refine⟨_,Kl rfl (R7 rfl) (NX rfl Gv (hq9.cell 0 rfl rfl)), ?_⟩
     exact⟨_,rfl,.inr (.inr ⟨hp2,rfl,hall,hfull,QY (S:=S) (hq9.pick [3,4,5,13,7,8,9,10,14] rfl)⟩)⟩
    exact absurd h65 (by simp)
   refine⟨_,rfl, ?_⟩
   replace hS64:=hS64.jn rfl rfl
   clear hS63
   refine Qb rfl rfl (Qs rfl rfl rfl (Qs rfl rfl rfl (Qe rfl rfl (Qe rfl rfl (Qf (ZJ (XI (WY (L':=[(7,_),(4,_),(8,_),(6,_),(5,_),(3,_),(2,_)]) (Cq rfl rfl rfl rfl rfl rfl rfl) (XT (XT (XN (Qb rfl rfl (QQ rfl rfl (Qf (ZJ (XI (H9 rfl (fun h69=> ?_) (fun h69=> ?_))))))))))))))))))
   ·exact absurd h69 (by simp)
   refine Vt (XI (XT ?_))
   obtain⟨ba,bi,fp,sp,kp,ac,cc,at2,ct,hSo70⟩:=Zh (hS64.pick [0,1,2,3,4,5,6,7] rfl)
   refine XN (Qp rfl Xk (hSo70.cell 10 rfl rfl) rfl (Qj rfl rfl (Qg rfl WO rfl (Qp rfl YM (hSo70.cell 0 rfl rfl) rfl (Qb rfl rfl (Qb rfl rfl ?_))))))
   have hkl:k<S1.fr.length:=(XW hg.fr).1
   have hfs:VH (P0 S1 k).fr (k:Int) x.pg=S1.fr.set k (some x.pg):=VL hkl
   refine Qv Gj rfl (U0 (hSo70.sp [4] rfl) (k:Int) x.pg (hI.ent hid).2.2.2.2.1) rfl ?_
   rintro _ w71 ⟨_,rfl,hS71⟩
   replace hS71:=hS71.jn rfl rfl
   clear hSo70
   rw[hfs]at hS71
   refine Qf (ZJ (XI (WY (L':=[(4,_),(6,_),(5,_),(3,_),(2,_)]) (Vp rfl rfl rfl rfl rfl) (XT ?_))))
   have hS72:=hS71.drew
   refine Kd Wq (U6 (sp:=[15,17,18,20]) [0,1,2,3,4,5,6,7,8,9,10,11,12,13,14,15,16,17,18,19,20] (by kernel_rfl) ?_)
   refine Q8 rfl rfl rfl (Qm rfl Xk (hS72.cell 10 rfl rfl)) (Xj rfl rfl rfl (QS rfl rfl rfl XL (Q8 rfl rfl rfl (Qm rfl Zm (hS72.cell 1 rfl rfl)) (Q8 rfl rfl rfl (Qm rfl QN (hS72.cell 11 rfl rfl)) (Q8 rfl rfl rfl (Qm rfl Xk (hS72.cell 10 rfl rfl)) (Xj rfl rfl rfl (QS rfl rfl rfl HP (Q8 rfl rfl rfl (Qm rfl Jt (hS72.cell 1 rfl rfl)) (QE rfl rfl rfl (QS rfl rfl rfl JA (Q8 rfl rfl rfl (Qm rfl QN (hS72.cell 12 rfl rfl)) (QE rfl rfl rfl (QZ rfl rfl rfl (fun _=>(Wp rfl Je Uh XH rfl)) ?_)))))))))))))
   refine Q8 rfl rfl rfl (Qm rfl QN (hS72.cell 11 rfl rfl)) (Xi rfl rfl rfl rfl rfl rfl ?_)
   refine ZU (k:=id) 2 hS72 keysInt Tryz.underlying108 rfl rfl rfl XH rfl ?_
   intro u73 c73 w73 hS73; dsimp only[List.set]at hS73
   clear hS72
   refine X9 (.cons (.inl ⟨rfl,(Qm rfl QN (hS73.cell 11 rfl rfl))⟩) (.cons (.inl ⟨rfl,(Qm rfl QN (hS73.cell 12 rfl rfl))⟩) (Xu (by kernel_rfl)))) ?_
   refine We rfl rfl rfl rfl (Xi rfl rfl rfl rfl rfl rfl ?_)
   have hsv74:Value.agg #[intV x.refs,intV 1,intV (k:Nat),strV []]=FL ⟨x.refs,1,(k:Nat),x.pg⟩:=rfl
   refine Zz (v:=Value.agg #[intV x.refs,intV 1,intV (k:Nat),strV []]) 2 hS73 keysInt rfl rfl rfl rfl ?_
   intro w74 hS74a; dsimp only[List.set]at hS74a; have hS74:=hS74a; rw[hsv74,KO]at hS74
   clear hS73
   refine Z0 (.cons (.inl ⟨rfl,(Qm rfl QN (hS74.cell 11 rfl rfl))⟩) (Xu (by kernel_rfl))) ?_
   refine Xi rfl rfl rfl rfl rfl rfl ?_
   refine ZU (k:=(k:Int)) 3 hS74 keysInt Tryz.underlying109 rfl rfl rfl HV rfl ?_
   intro u75 c75 w75 hS75; dsimp only[List.set]at hS75
   clear hS74
   refine X9 (.cons (.inl ⟨rfl,(Qm rfl QN (hS75.cell 11 rfl rfl))⟩) (Xu (by kernel_rfl))) ?_
   refine We rfl rfl rfl rfl (Xi rfl rfl rfl rfl rfl rfl ?_)
   refine Zz (v:=intV id) 3 hS75 keysInt rfl rfl rfl rfl ?_
   intro w76 hS76a; dsimp only[List.set]at hS76a; have hS76:=hS76a; rw[RN]at hS76
   clear hS75
   refine Z0 (Xu (by kernel_rfl)) ?_
   refine VC.nil (ZJ (XI (WY (L':=[(4,_),(5,_)]) (BD rfl rfl) (XT (XN (Qb rfl rfl (Qe rfl rfl ?_)))))))
   first | (refine QJ hS76 rfl rfl Wl (by first | rfl | assumption | exact hS76.own_one 4 rfl | exact hS76.own_one 7 rfl | exact hS76.own_one 13 rfl) (i:=1) rfl (by first | decide | exact Xn rfl | (simp;done) | omega) ?_) | (refine QJ hS76 rfl rfl Wl (by first | rfl | assumption | exact hS76.own_one 4 rfl | exact hS76.own_one 7 rfl | exact hS76.own_one 13 rfl) (i:=8) rfl (by first | decide | exact Xn rfl | (simp;done) | omega) ?_) | (refine QJ hS76 rfl rfl Wl (by first | rfl | assumption | exact hS76.own_one 4 rfl | exact hS76.own_one 7 rfl | exact hS76.own_one 13 rfl) (i:=9) rfl (by first | decide | exact Xn rfl | (simp;done) | omega) ?_) | (refine QJ hS76 rfl rfl Wl (by first | rfl | assumption | exact hS76.own_one 4 rfl | exact hS76.own_one 7 rfl | exact hS76.own_one 13 rfl) (i:=10) rfl (by first | decide | exact Xn rfl | (simp;done) | omega) ?_) | (refine QJ hS76 rfl rfl Wl (by first | rfl | assumption | exact hS76.own_one 4 rfl | exact hS76.own_one 7 rfl | exact hS76.own_one 13 rfl) (i:=11) rfl (by first | decide | exact Xn rfl | (simp;done) | omega) ?_) | (refine QJ hS76 rfl rfl Wl (by first | rfl | assumption | exact hS76.own_one 4 rfl | exact hS76.own_one 7 rfl | exact hS76.own_one 13 rfl) (i:=12) rfl (by first | decide | exact Xn rfl | (simp;done) | omega) ?_)
   intro w77 hS78; dsimp only[List.set]at hS78
   clear hS76
   refine Qf (ZJ (XI (Ua (EX (.inr rfl) Kz (H4 rfl (hS78.sp [8,9,10,1] rfl)) ?_))))
   rintro v0 w9 hq9
   rw[if_pos rfl]at hq9
   replace hq9:=hq9.jn rfl rfl
   refine⟨_,Kl rfl (R7 rfl) (NX rfl Gv (hq9.cell 0 rfl rfl)), ?_⟩
   exact⟨_,rfl,.inr (.inl ⟨k,_,hp1,rfl,Gp hI hid hp1 (SL:={S with cache:=S.cache.filter (fun n=> !decide (n=id))}) ⟨rfl,rfl,rfl,rfl,rfl,rfl⟩ hg,QY (S:=onF S1 id k x.refs x.pg S1.next) (hq9.pick [3,5,6,7,4,8,9,10,14] rfl)⟩)⟩
  have hp3:x.place=3:= by omega
  have hS79:=hS56.drew
  refine QI [0,1,2,3,4,5,6] [6] Wq (by kernel_rfl) ?_
  refine Q8 rfl rfl rfl (Qm rfl Xk (hS79.cell 12 rfl rfl)) (Xj rfl rfl rfl (QS rfl rfl rfl YZ (Q8 rfl rfl rfl (Qm rfl VZ (hS79.cell 0 rfl rfl)) (QS rfl rfl rfl Y0 (Q8 rfl rfl rfl (Qm rfl QN (hS79.cell 9 rfl rfl)) (Xi rfl rfl rfl rfl rfl rfl ?_))))))
  refine Qv Ng rfl (GC (hS79.sp [5] rfl) x.at_) rfl ?_
  rintro _ w80 ⟨rfl,hS80⟩
  replace hS80:=hS80.jn rfl rfl
  clear hS79
  rw[(V5 hI (fun q=>q) hid hp3).2.2]at hS80
  refine X9 (Xu (by kernel_rfl)) ?_
  refine VC.nil (Qc (Qh [2,3,4,5,6,7,9,8] rfl (Qd ?_)))
  have hS81:=QY (S:={S with sl:=S.sl.set x.at_.toNat []}) (hS80.pick [1,2,3,4,5,0,6,7,10,8,12,11,9,13] rfl)
  refine Qa (ZM rfl rfl (Rz rfl (XI (XT (XN (Qp rfl Xk (hS81.cell 3 rfl rfl) rfl ?_))))))
  have hIL:=Mg hI hid hp3
  refine Zf Gk rfl (V6 (hS81.sp [0] rfl) (E:=one id) hIL hN) rfl ?_
  rintro e w82 ⟨_,rfl,(⟨rfl,hall,hfull,hS82⟩ | ⟨k,S1,rfl,hg,hS82⟩)⟩
  ·exact absurd hfull (by have hz:=D9.2 (List.mem_of_getElem? (List.getElem?_set_self (l:=S.sl) (i:=x.at_.toNat) (a:=([]:Bs)) (XW (hI.slt (fun q=>q) hid hp3).2).1)); dsimp only;omega)
  refine⟨_,rfl, ?_⟩
  replace hS82:=hS82.jn rfl rfl
  clear hS81
  refine Qb rfl rfl (Qs rfl rfl rfl (Qs rfl rfl rfl (Qe rfl rfl (Qe rfl rfl (Qf (ZJ (XI (WY (L':=[(7,_),(4,_),(8,_),(6,_),(5,_),(3,_),(2,_)]) (Cq rfl rfl rfl rfl rfl rfl rfl) (XT (XT (XN (Qb rfl rfl (QQ rfl rfl (Qf (ZJ (XI (H9 rfl (fun h83=> ?_) (fun h83=> ?_))))))))))))))))))
  ·exact absurd h83 (by simp)
  refine Vt (XI (XT ?_))
  obtain⟨ba,bi,fp,sp,kp,ac,cc,at2,ct,hSo84⟩:=Zh (hS82.pick [0,1,2,3,4,5,6] rfl)
  refine XN (Qp rfl Xk (hSo84.cell 10 rfl rfl) rfl (Qj rfl rfl (Qg rfl WO rfl (Qp rfl YM (hSo84.cell 0 rfl rfl) rfl (Qb rfl rfl (Qb rfl rfl ?_))))))
  have hkl:k<S1.fr.length:=(XW hg.fr).1
  have hfs:VH (P0 S1 k).fr (k:Int) x.pg=S1.fr.set k (some x.pg):=VL hkl
  refine Qv Gj rfl (U0 (hSo84.sp [4] rfl) (k:Int) x.pg (hI.ent hid).2.2.2.2.1) rfl ?_
  rintro _ w85 ⟨_,rfl,hS85⟩
  replace hS85:=hS85.jn rfl rfl
  clear hSo84
  rw[hfs]at hS85
  refine Qf (ZJ (XI (WY (L':=[(4,_),(6,_),(5,_),(3,_),(2,_)]) (Vp rfl rfl rfl rfl rfl) (XT ?_))))
  have hS86:=hS85.drew
  refine Kd Wq (U6 (sp:=[15,17,18,20]) [0,1,2,3,4,5,6,7,8,9,10,11,12,13,14,15,16,17,18,19,20] (by kernel_rfl) ?_)
  refine Q8 rfl rfl rfl (Qm rfl Xk (hS86.cell 10 rfl rfl)) (Xj rfl rfl rfl (QS rfl rfl rfl XL (Q8 rfl rfl rfl (Qm rfl Zm (hS86.cell 1 rfl rfl)) (Q8 rfl rfl rfl (Qm rfl QN (hS86.cell 11 rfl rfl)) (Q8 rfl rfl rfl (Qm rfl Xk (hS86.cell 10 rfl rfl)) (Xj rfl rfl rfl (QS rfl rfl rfl HP (Q8 rfl rfl rfl (Qm rfl Jt (hS86.cell 1 rfl rfl)) (QE rfl rfl rfl (QS rfl rfl rfl JA (Q8 rfl rfl rfl (Qm rfl QN (hS86.cell 12 rfl rfl)) (QE rfl rfl rfl (QZ rfl rfl rfl (fun _=>(Wp rfl Je Uh XH rfl)) ?_)))))))))))))
  refine Q8 rfl rfl rfl (Qm rfl QN (hS86.cell 11 rfl rfl)) (Xi rfl rfl rfl rfl rfl rfl ?_)
  refine ZU (k:=id) 2 hS86 keysInt Tryz.underlying108 rfl rfl rfl XH rfl ?_
  intro u87 c87 w87 hS87; dsimp only[List.set]at hS87
  clear hS86
  refine X9 (.cons (.inl ⟨rfl,(Qm rfl QN (hS87.cell 11 rfl rfl))⟩) (.cons (.inl ⟨rfl,(Qm rfl QN (hS87.cell 12 rfl rfl))⟩) (Xu (by kernel_rfl)))) ?_
  refine We rfl rfl rfl rfl (Xi rfl rfl rfl rfl rfl rfl ?_)
  have hsv88:Value.agg #[intV x.refs,intV 1,intV (k:Nat),strV []]=FL ⟨x.refs,1,(k:Nat),x.pg⟩:=rfl
  refine Zz (v:=Value.agg #[intV x.refs,intV 1,intV (k:Nat),strV []]) 2 hS87 keysInt rfl rfl rfl rfl ?_
  intro w88 hS88a; dsimp only[List.set]at hS88a; have hS88:=hS88a; rw[hsv88,KO]at hS88
  clear hS87
  refine Z0 (.cons (.inl ⟨rfl,(Qm rfl QN (hS88.cell 11 rfl rfl))⟩) (Xu (by kernel_rfl))) ?_
  refine Xi rfl rfl rfl rfl rfl rfl ?_
  refine ZU (k:=(k:Int)) 3 hS88 keysInt Tryz.underlying109 rfl rfl rfl HV rfl ?_
  intro u89 c89 w89 hS89; dsimp only[List.set]at hS89
  clear hS88
  refine X9 (.cons (.inl ⟨rfl,(Qm rfl QN (hS89.cell 11 rfl rfl))⟩) (Xu (by kernel_rfl))) ?_
  refine We rfl rfl rfl rfl (Xi rfl rfl rfl rfl rfl rfl ?_)
  refine Zz (v:=intV id) 3 hS89 keysInt rfl rfl rfl rfl ?_
  intro w90 hS90a; dsimp only[List.set]at hS90a; have hS90:=hS90a; rw[RN]at hS90
  clear hS89
  refine Z0 (Xu (by kernel_rfl)) ?_
  refine VC.nil (ZJ (XI (WY (L':=[(4,_),(5,_)]) (BD rfl rfl) (XT (XN (Qb rfl rfl (Qe rfl rfl ?_)))))))
  first | (refine QJ hS90 rfl rfl Wl (by first | rfl | assumption | exact hS90.own_one 4 rfl | exact hS90.own_one 7 rfl) (i:=1) rfl (by first | decide | exact Xn rfl | (simp;done) | omega) ?_) | (refine QJ hS90 rfl rfl Wl (by first | rfl | assumption | exact hS90.own_one 4 rfl | exact hS90.own_one 7 rfl) (i:=8) rfl (by first | decide | exact Xn rfl | (simp;done) | omega) ?_) | (refine QJ hS90 rfl rfl Wl (by first | rfl | assumption | exact hS90.own_one 4 rfl | exact hS90.own_one 7 rfl) (i:=9) rfl (by first | decide | exact Xn rfl | (simp;done) | omega) ?_) | (refine QJ hS90 rfl rfl Wl (by first | rfl | assumption | exact hS90.own_one 4 rfl | exact hS90.own_one 7 rfl) (i:=10) rfl (by first | decide | exact Xn rfl | (simp;done) | omega) ?_) | (refine QJ hS90 rfl rfl Wl (by first | rfl | assumption | exact hS90.own_one 4 rfl | exact hS90.own_one 7 rfl) (i:=11) rfl (by first | decide | exact Xn rfl | (simp;done) | omega) ?_) | (refine QJ hS90 rfl rfl Wl (by first | rfl | assumption | exact hS90.own_one 4 rfl | exact hS90.own_one 7 rfl) (i:=12) rfl (by first | decide | exact Xn rfl | (simp;done) | omega) ?_)
  intro w91 hS92; dsimp only[List.set]at hS92
  clear hS90
  refine Qf (ZJ (XI (Ua (EX (.inr rfl) Kz (H4 rfl (hS92.sp [8,9,10,1] rfl)) ?_))))
  rintro v0 w9 hq9
  rw[if_pos rfl]at hq9
  replace hq9:=hq9.jn rfl rfl
  refine⟨_,Kl rfl (R7 rfl) (NX rfl Gv (hq9.cell 0 rfl rfl)), ?_⟩
  exact⟨_,rfl,.inr (.inl ⟨k,_,hp1,rfl,Gp hI hid hp1 (SL:={S with sl:=S.sl.set x.at_.toNat []}) ⟨rfl,rfl,rfl,rfl,rfl,rfl⟩ hg,QY (S:=onF S1 id k x.refs x.pg S1.next) (hq9.pick [3,5,6,7,4,8,9,10,13] rfl)⟩)⟩
end Go.Proofs.YtkcjfoaejijdoaaGreatDoor
