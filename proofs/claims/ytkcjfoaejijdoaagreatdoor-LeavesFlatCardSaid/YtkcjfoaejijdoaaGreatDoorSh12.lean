/- sheets: Bring -/
import Derived.Test.YtkcjfoaejijdoaaGreatDoorSh12a
set_option linter.unusedVariables false
set_option maxRecDepth 100000
set_option maxHeartbeats 3200000
namespace Go.Proofs.YtkcjfoaejijdoaaGreatDoor
open Go.RowKit M
theorem DN {w:World} {p:Nat} {S:SS} {ba bi fp sp kp:Nat} {ac at2:Option Addr} {cc ct:Nat} {F:Th} (hS:Sat w [QF p [.map (some ba),.map (some bi),.slice ac S.cache.length cc,ptrV fp 0,ptrV sp 0,ptrV kp 0,intV S.slots,intV S.budget,intV S.next,.slice at2 S.taken.length ct],Q3 Xf ba (aG S.all),Q3 Xf bi (gI S.inn),rowT inC (.slice ac S.cache.length cc) S.cache,RQ fp S.fr,Gx sp S.sl,Cd kp S.ck,rowT inC (.slice at2 S.taken.length ct) S.taken,F]) {E:Int→Prop} {N:Nat} (hI:ShI E N S) (id:Int) (hE: ¬E id):
    Calls Tryz.prog 34 #[ptrV p 0,intV id] w (Ret fun v w'=>v=strV (YR S id)∧Sat w' [QF p [.map (some ba),.map (some bi),.slice ac S.cache.length cc,ptrV fp 0,ptrV sp 0,ptrV kp 0,intV S.slots,intV S.budget,intV S.next,.slice at2 S.taken.length ct],Q3 Xf ba (aG S.all),Q3 Xf bi (gI S.inn),rowT inC (.slice ac S.cache.length cc) S.cache,RQ fp S.fr,Gx sp S.sl,Cd kp S.ck,rowT inC (.slice at2 S.taken.length ct) S.taken,F]):= by
 cases hid:S.all id with
 | none=>
  refine Qq Tryz.func34 rfl Tryz.ntmps34 rfl ?_
  refine Qd (Qa (Qe rfl rfl (Qf (Qc (Qd (Qa (Qb rfl rfl (Qk rfl rfl (Qg rfl XL rfl (Qo rfl Zk (hS.cell 0 rfl rfl) rfl (Qb rfl rfl (Wl (k:=id) 1 hS keysInt Tryz.underlying108 rfl rfl rfl XH (u:=(.agg #[intV 0,intV 0,intV 0,strV []])) (g:=false) (Hn hid) (YZ hid) rfl (Qb rfl rfl (Qt rfl rfl rfl (Qt rfl rfl rfl (Xg hS XH rfl rfl ?_))))))))))))))))
  intro b1 w1 hS1
  (refine QY hS1 rfl rfl JY rfl (by rfl) (i:=0) rfl (by decide) ?_)
  intro w2 hS3; dsimp only[List.set]at hS3
  clear hS1
  refine Qe rfl rfl (Qf (Qc (Qi [1,0,4,5,6] rfl (Qd (Qw (Qd (Qa (Qb rfl rfl (QX rfl rfl rfl (Qe rfl rfl (Qf (Qc (Qs rfl (fun h4=> ?_) (fun h4=> ?_))))))))))))))
  ·refine Qd (Qa (Qv Fp rfl (MF (hS3.sp [] rfl) zer (by decide)) rfl ?_))
   rintro _ w5 ⟨rfl,hS5⟩
   replace hS5:=hS5.jn rfl rfl
   clear hS3
   refine Qe rfl rfl (Qf (Qc (Qu (Qx (Qn (QQ (.inr rfl) rfl rfl ?_))))))
   exact⟨_,rfl, by unfold YR; rw[hid]; dsimp only; rw[if_pos (by omega)],hS5.pick [1,2,3,4,5,6,7,8,9] rfl⟩
  refine Qd (Qa (Qb rfl rfl (QR rfl rfl (Qe rfl rfl (Qf (Qc (Qi [0,4,5,24] rfl (QM rfl (fun h6=> ?_) (fun h6=> ?_)))))))))
  ·refine Qd (Qa (Qe rfl rfl (Qf (Qc (Qu (Qx (Qn (QQ (.inr rfl) rfl rfl ?_))))))))
   exact⟨_,rfl, by unfold YR; rw[hid]; dsimp only; rw[if_neg (by omega)],hS3.pick [1,2,3,4,5,6,7,8,9] rfl⟩
  exact absurd h6 (by simp)
 | some x=>
  obtain⟨hid1,_,hr1,hr2,_,hplc⟩:=hI.ent hid
  refine Qq Tryz.func34 rfl Tryz.ntmps34 rfl ?_
  refine Qd (Qa (Qe rfl rfl (Qf (Qc (Qd (Qa (Qb rfl rfl (Qk rfl rfl (Qg rfl XL rfl (Qo rfl Zk (hS.cell 0 rfl rfl) rfl (Qb rfl rfl (Wl (k:=id) 1 hS keysInt Tryz.underlying108 rfl rfl rfl XH (u:=(.agg #[intV x.refs,intV x.place,intV x.at_,strV (Rf x)])) (g:=true) (Jw hid) (YY hid) rfl (Qb rfl rfl (Qt rfl rfl rfl (Qt rfl rfl rfl (Xg hS XH rfl rfl ?_))))))))))))))))
  intro b1 w1 hS1
  (refine QY hS1 rfl rfl JY rfl (by rfl) (i:=0) rfl (by decide) ?_)
  intro w2 hS3; dsimp only[List.set]at hS3
  clear hS1
  refine Qe rfl rfl (Qf (Qc (Qi [1,0,4,5,6] rfl (Qd (Qw (Qd (Qa (Qb rfl rfl (QX rfl rfl rfl (Qe rfl rfl (Qf (Qc (Qs rfl (fun h4=> ?_) (fun h4=> ?_))))))))))))))
  ·exact absurd h4 (by omega)
  refine Qd (Qa (Qb rfl rfl (QR rfl rfl (Qe rfl rfl (Qf (Qc (Qi [0,4,5,24] rfl (QM rfl (fun h5=> ?_) (fun h5=> ?_)))))))))
  ·exact absurd h5 (by simp)
  refine Qd (Qa (Qg rfl YU rfl (Qo rfl QO (hS3.cell 0 rfl rfl) rfl (QX rfl rfl rfl (Qe rfl rfl (Qf (Qc (Qs rfl (fun h6=> ?_) (fun h6=> ?_)))))))))
  ·have hp1:x.place=1:=h6
   refine Qd ?_
   have hS7:=hS3.drew
   refine QJ [0,1,2,3,4,5,6,7] [6] Wp (by kernel_rfl) ?_
   refine QE rfl rfl rfl (Xl rfl rfl rfl (QT rfl rfl rfl WJ (Q9 rfl rfl rfl (Qm rfl YI (hS7.cell 1 rfl rfl)) (QT rfl rfl rfl Yz (Q9 rfl rfl rfl (Qm rfl QO (hS7.cell 0 rfl rfl)) (Xj rfl rfl rfl rfl rfl rfl ?_))))))
   refine Qv Fo rfl (GV (hS7.sp [5] rfl) x.at_) rfl ?_
   rintro _ w8 ⟨rfl,hS8⟩
   replace hS8:=hS8.jn rfl rfl
   clear hS7
   rw[hI.frc hE hid hp1]
   dsimp only[Option.getD_some]
   refine X6 (Xq (by kernel_rfl)) ?_
   refine XN rfl rfl rfl (VC.nil (Qc (Qi [0,5,4] rfl (Qu (Qx (Qn (QQ (.inr rfl) rfl rfl ?_)))))))
   exact⟨_,rfl, by unfold YR; rw[hid],hS8.pick [2,3,4,5,0,6,7,8,9] rfl⟩
  refine Qd (Qa (Qg rfl YU rfl (Qo rfl QO (hS3.cell 0 rfl rfl) rfl (QX rfl rfl rfl (Qe rfl rfl (Qf (Qc (Qi [0,4,5,38] rfl (Qs rfl (fun h9=> ?_) (fun h9=> ?_))))))))))
  ·have hp2:x.place=2:=h9
   refine Qd (Qa (Qg rfl M2 rfl (Qo rfl ZC (hS3.cell 0 rfl rfl) rfl ?_)))
   obtain⟨fy,hfy⟩:=Option.ne_none_iff_exists'.1 (hI.pck hE hid hp2).2
   have hfme:Rf x=fy:= by unfold Rf fm; rw[if_pos hp2,hfy];rfl
   refine Qv Fn rfl (G9 (hS3.sp [] rfl) (hI.ent hid).2.2.2.2.1 (by rw[hfme]; exact hfy)) rfl ?_
   rintro _ w10 ⟨rfl,hS10⟩
   replace hS10:=hS10.jn rfl rfl
   clear hS3
   refine Qb rfl rfl (Qt rfl rfl rfl (Qt rfl rfl rfl (Qe rfl rfl (Qe rfl rfl (Qf (Qc (Qi [0,4,5,7] rfl (Qd (Qa (Qb rfl rfl (Qe rfl rfl (Qf (Qc (Qu (Qx (Qn (QQ (.inr rfl) rfl rfl ?_)))))))))))))))))
   exact⟨_,rfl, by unfold YR; rw[hid],hS10.pick [1,2,3,4,5,6,7,8,9] rfl⟩
  refine Qr (Ql (Qc (Qd ?_)))
  have hp3:x.place=3:= by omega
  have hS11:=hS3.drew
  refine QJ [0,1,2,3,4,5,6,7,8,9,10,11] [6] Wp (by kernel_rfl) ?_
  refine QE rfl rfl rfl (Xl rfl rfl rfl (QT rfl rfl rfl YV (Q9 rfl rfl rfl (Qm rfl VU (hS11.cell 1 rfl rfl)) (QT rfl rfl rfl Yz (Q9 rfl rfl rfl (Qm rfl QO (hS11.cell 0 rfl rfl)) (Xj rfl rfl rfl rfl rfl rfl ?_))))))
  refine Qv qas rfl (NK (hS11.sp [6] rfl) x.at_) rfl ?_
  rintro _ w12 ⟨eg,rfl,hS12⟩
  replace hS12:=hS12.jn rfl rfl
  clear hS11
  rw[(Vw hI hE hid hp3).2.1]
  refine X6 (Xq (by kernel_rfl)) ?_
  refine QE rfl rfl rfl (Wg rfl rfl rfl rfl (Wg rfl rfl rfl rfl (XN rfl rfl rfl (XN rfl rfl rfl (VC.nil (Qc (Qi [4,9] rfl (Qd (Qa (Qb rfl rfl (Qe rfl rfl (Qf (Qc (Qu (QQ (.inr rfl) rfl rfl ?_)))))))))))))))
  exact⟨_,rfl, by unfold YR; rw[hid],hS12.pick [2,3,4,5,6,0,7,8,9] rfl⟩
theorem S7 {w:World} {p:Nat} {S:SS} {F:Th} (hS:Sat w [YQ p S,F]) {N:Nat} (hI:ShI Rl N S) (hN:N≤80000000000) (id:Int):
    Calls Tryz.prog 107 #[ptrV p 0,intV id] w (Ret fun v w'=>(match S.all id with | none=>v= .tuple #[intV 0,intV 4]∧Sat w' [YQ p S,F] | some x=>(x.place=1∧v= .tuple #[intV x.at_,intV 0]∧Sat w' [YQ p S,F])∨(∃k S',x.place≠1∧v= .tuple #[intV (k:Nat),intV 0]∧BrS N S S' id k x∧Sat w' [YQ p S',F])∨(x.place=2∧v= .tuple #[intV 0,intV 6]∧(∀o∈S.fr,o≠none)∧WE S.sl=S.sl.length∧Sat w' [YQ p S,F]))):= by
 obtain⟨ba,bi,fp,sp,kp,ac,cc,at2,ct,hS⟩:=Zf hS
 cases hid:S.all id with
 | none=>
  dsimp only
  refine Gh Tryz.func107 rfl Tryz.ntmps107 rfl ?_
  refine Qd (Qa (XU hS rfl rfl rfl ?_))
  intro sb w1 hS1
  refine XU hS1 rfl rfl rfl ?_
  intro db w2 hS2
  clear hS1
  refine Qe rfl rfl (Xg hS2 zr_28 rfl rfl ?_)
  intro eb w3 hS3
  clear hS2
  refine Qf (Qc (Qd ?_))
  have hS4:=hS3.drew
  refine QJ [0,1,2,3,4,5,6,7,8,9,10,11] [9,10] Wp (by kernel_rfl) ?_
  refine Q9 rfl rfl rfl (Qm rfl Xm (hS4.cell 2 rfl rfl)) (Xl rfl rfl rfl (QT rfl rfl rfl XL (Q9 rfl rfl rfl (Qm rfl Zk (hS4.cell 3 rfl rfl)) (Q9 rfl rfl rfl (Qm rfl QO (hS4.cell 1 rfl rfl)) (Q9 rfl rfl rfl (WA (k:=id) 4 hS4 keysInt Tryz.underlying108 rfl rfl rfl XH (u:=(.agg #[intV 0,intV 0,intV 0,strV []])) (g:=false) (Hn hid) (YZ hid)) (QE rfl rfl rfl (Wg rfl rfl rfl rfl (Wg rfl rfl rfl rfl (Xj rfl rfl rfl rfl rfl rfl ?_)))))))))
  refine Xg hS4 XH rfl rfl ?_
  intro xb w5 hS5
  clear hS4
  refine X6 (.cons (.inl ⟨rfl,(WA (k:=id) 5 hS5 keysInt Tryz.underlying108 rfl rfl rfl XH (u:=(.agg #[intV 0,intV 0,intV 0,strV []])) (g:=false) (Hn hid) (YZ hid))⟩) (.cons (.inl ⟨rfl,(Qm rfl QO (hS5.cell 2 rfl rfl))⟩) (.cons (.inl ⟨rfl,(Qm rfl Zk (hS5.cell 4 rfl rfl))⟩) (.cons (.inl ⟨rfl,(Qm rfl Xm (hS5.cell 3 rfl rfl))⟩) .nil)))) (Xj rfl rfl rfl rfl rfl rfl ?_)
  (refine QY hS5 rfl rfl JY rfl (by rfl) (i:=0) rfl (by decide) ?_)
  intro w6 hS7; dsimp only[List.set]at hS7
  clear hS5
  refine Zx (Xq (by kernel_rfl)) ?_
  refine XN rfl rfl rfl (VC.nil (Qc (Qi [2,3,4,5,6,7] rfl (Qd (Qw (Qd (Qa (Qb rfl rfl (QR rfl rfl (Qe rfl rfl (Qf (Qc (QM rfl (fun h8=> ?_) (fun h8=> ?_))))))))))))))
  ·refine Qd (Qa (Qe rfl rfl ?_))
   first | (refine QL hS7 rfl rfl Wm (by first | rfl | assumption | exact hS7.own_one 7 rfl | exact hS7.own_one 11 rfl) (i:=0) rfl (by first | decide | exact Xn rfl | (simp;done) | omega) ?_) | (refine QL hS7 rfl rfl Wm (by first | rfl | assumption | exact hS7.own_one 7 rfl | exact hS7.own_one 11 rfl) (i:=1) rfl (by first | decide | exact Xn rfl | (simp;done) | omega) ?_) | (refine QL hS7 rfl rfl Wm (by first | rfl | assumption | exact hS7.own_one 7 rfl | exact hS7.own_one 11 rfl) (i:=2) rfl (by first | decide | exact Xn rfl | (simp;done) | omega) ?_) | (refine QL hS7 rfl rfl Wm (by first | rfl | assumption | exact hS7.own_one 7 rfl | exact hS7.own_one 11 rfl) (i:=3) rfl (by first | decide | exact Xn rfl | (simp;done) | omega) ?_) | (refine QL hS7 rfl rfl Wm (by first | rfl | assumption | exact hS7.own_one 7 rfl | exact hS7.own_one 11 rfl) (i:=4) rfl (by first | decide | exact Xn rfl | (simp;done) | omega) ?_)
   intro w9 hS10; dsimp only[List.set]at hS10
   clear hS7
   exact Qf (Qc (Qu (Qx (Qn (finE2 (.inr rfl) rfl (R4 rfl) (Pa rfl Gv (hS10.cell 1 rfl rfl)) (⟨_,rfl,rfl,QZ (hS10.pick [4,5,6,7,8,9,10,11,12] rfl)⟩))))))
  exact absurd h8 (by simp)
 | some x=>
  obtain⟨hid1,_,hr1,hr2,_,hplc⟩:=hI.ent hid
  dsimp only
  refine Gh Tryz.func107 rfl Tryz.ntmps107 rfl ?_
  refine Qd (Qa (XU hS rfl rfl rfl ?_))
  intro sb w1 hS1
  refine XU hS1 rfl rfl rfl ?_
  intro db w2 hS2
  clear hS1
  refine Qe rfl rfl (Xg hS2 zr_28 rfl rfl ?_)
  intro eb w3 hS3
  clear hS2
  refine Qf (Qc (Qd ?_))
  have hS4:=hS3.drew
  refine QJ [0,1,2,3,4,5,6,7,8,9,10,11] [9,10] Wp (by kernel_rfl) ?_
  refine Q9 rfl rfl rfl (Qm rfl Xm (hS4.cell 2 rfl rfl)) (Xl rfl rfl rfl (QT rfl rfl rfl XL (Q9 rfl rfl rfl (Qm rfl Zk (hS4.cell 3 rfl rfl)) (Q9 rfl rfl rfl (Qm rfl QO (hS4.cell 1 rfl rfl)) (Q9 rfl rfl rfl (WA (k:=id) 4 hS4 keysInt Tryz.underlying108 rfl rfl rfl XH (u:=(.agg #[intV x.refs,intV x.place,intV x.at_,strV (Rf x)])) (g:=true) (Jw hid) (YY hid)) (QE rfl rfl rfl (Wg rfl rfl rfl rfl (Wg rfl rfl rfl rfl (Xj rfl rfl rfl rfl rfl rfl ?_)))))))))
  refine Xg hS4 XH rfl rfl ?_
  intro xb w5 hS5
  clear hS4
  refine X6 (.cons (.inl ⟨rfl,(WA (k:=id) 5 hS5 keysInt Tryz.underlying108 rfl rfl rfl XH (u:=(.agg #[intV x.refs,intV x.place,intV x.at_,strV (Rf x)])) (g:=true) (Jw hid) (YY hid))⟩) (.cons (.inl ⟨rfl,(Qm rfl QO (hS5.cell 2 rfl rfl))⟩) (.cons (.inl ⟨rfl,(Qm rfl Zk (hS5.cell 4 rfl rfl))⟩) (.cons (.inl ⟨rfl,(Qm rfl Xm (hS5.cell 3 rfl rfl))⟩) .nil)))) (Xj rfl rfl rfl rfl rfl rfl ?_)
  (refine QY hS5 rfl rfl JY rfl (by rfl) (i:=0) rfl (by decide) ?_)
  intro w6 hS7; dsimp only[List.set]at hS7
  clear hS5
  refine Zx (Xq (by kernel_rfl)) ?_
  refine XN rfl rfl rfl (VC.nil (Qc (Qi [2,3,4,5,6,7] rfl (Qd (Qw (Qd (Qa (Qb rfl rfl (QR rfl rfl (Qe rfl rfl (Qf (Qc (QM rfl (fun h8=> ?_) (fun h8=> ?_))))))))))))))
  ·exact absurd h8 (by simp)
  refine Qd (Qa (Qg rfl YU rfl (Qo rfl QO (hS7.cell 0 rfl rfl) rfl (QX rfl rfl rfl (Qe rfl rfl (Qf (Qc (Qi [2,3,4,5,6,7,22] rfl (Qs rfl (fun h9=> ?_) (fun h9=> ?_))))))))))
  ·have hp1:x.place=1:=h9
   refine Qd (Qa (Qg rfl Yz rfl (Qo rfl QO (hS7.cell 0 rfl rfl) rfl (Qe rfl rfl ?_))))
   (refine QL hS7 rfl rfl Wm (by rfl) (i:=1) rfl (by decide) ?_)
   intro w10 hS11; dsimp only[List.set]at hS11
   clear hS7
   exact Qf (Qc (Qu (Qx (Qn (finE2 (.inr rfl) rfl (R4 rfl) (Pa rfl Gv (hS11.cell 1 rfl rfl)) (⟨_,rfl,.inl ⟨hp1,rfl,QZ (hS11.pick [4,5,6,7,8,9,10,11,12] rfl)⟩⟩))))))
  have hp1:x.place≠1:=h9
  refine Qr (Ql (Qc (Qd ?_)))
  have hS12:=hS7.drew
  refine Rv Wp (VI 2 7 rfl ?_ ?_)
  ·refine U4 (sp:=[2,7,9]) [0,1,3,4,5,6,2,7,8,9] (by kernel_rfl) ?_
   refine Q9 rfl rfl rfl (Qm rfl Xm (hS12.cell 3 rfl rfl)) (Q9 rfl rfl rfl (Qm rfl QO (hS12.cell 2 rfl rfl)) (Q9 rfl rfl rfl (Qm rfl Xm (hS12.cell 3 rfl rfl)) (Xl rfl rfl rfl (QT rfl rfl rfl W9 (Q9 rfl rfl rfl (Qm rfl YX (hS12.cell 4 rfl rfl)) (Xj rfl rfl rfl rfl rfl rfl ?_))))))
   refine Qv JQ rfl (DN (hS12.sp [4,5,6,7,8,9,10,11] rfl) hI id (fun q=>q)) rfl ?_
   rintro _ w13 ⟨rfl,hS13⟩
   replace hS13:=hS13.jn rfl rfl
   clear hS12
   rw[show YR S id=x.pg by unfold YR; rw[hid]]
   refine X6 (.cons (.inl ⟨rfl,(Qm rfl YX (hS13.cell 0 rfl rfl))⟩) (.cons (.inl ⟨rfl,(Qm rfl Xm (hS13.cell 11 rfl rfl))⟩) (Xq (by kernel_rfl)))) ?_
   refine Xj rfl rfl rfl rfl rfl rfl ?_
   refine Xg hS13 zr_47 rfl rfl ?_
   intro ob w14 hS14
   clear hS13
   refine X6 (.cons (.inl ⟨rfl,(Qm rfl YX (hS14.cell 1 rfl rfl))⟩) (.cons (.inl ⟨rfl,(Qm rfl Xm (hS14.cell 12 rfl rfl))⟩) (Xq (by kernel_rfl)))) ?_
   refine XN rfl rfl rfl (Xj rfl rfl rfl rfl rfl rfl ?_)
   (refine QL hS14 rfl rfl Rz (by rfl) (i:=0) rfl (by decide) ?_)
   intro w15 hS16; dsimp only[List.set]at hS16
   clear hS14
   refine Zx (Xq (by kernel_rfl)) ?_
   refine VC.nil (Qc (Qi [2,3,4,5,6,7,9,8] rfl (Qd (Qd (Qa (Qg rfl YU rfl (Qo rfl QO (hS16.cell 9 rfl rfl) rfl (QX rfl rfl rfl (Qf (Qc (Qs rfl (fun h17=> ?_) (fun h17=> ?_))))))))))))
   ·have hp2:x.place=2:=h17
    have hS18:=hS16.drew
    refine QJ [0,1,2,3,4,6,5,7,8,9,10] [5,7,10] Wp (by kernel_rfl) ?_
    refine Q9 rfl rfl rfl (Qm rfl Xm (hS18.cell 12 rfl rfl)) (Q9 rfl rfl rfl (Qm rfl Xm (hS18.cell 12 rfl rfl)) (Xl rfl rfl rfl (QT rfl rfl rfl W9 (Q9 rfl rfl rfl (Qm rfl YX (hS18.cell 1 rfl rfl)) (QU rfl rfl rfl (fun _=>(B1 rfl)) ?_)))))
    refine Xj rfl rfl rfl rfl rfl rfl ?_
    refine Qv CZ rfl (Ks (hS18.sp [] rfl) (Ent.starL (Hj (C:=inC) (l:=S.cache) (by have :=hI.cln;omega)) 4 rfl) (by have :=hI.cln;omega)) rfl ?_
    rintro _ w19 hS19
    replace hS19:=hS19.jn rfl rfl
    clear hS18
    have h1n:=hS19.own_one 0 rfl
    refine X6 (.skip (by kernel_rfl) (.skip (by kernel_rfl) (.cons (.inl ⟨rfl,(Qm rfl Xm (hS19.cell 13 rfl rfl))⟩) .nil))) ?_
    refine Xj rfl rfl rfl rfl rfl rfl ?_
    refine Qv Nj rfl (CP (eqB _ id) (hS19.sp [0,12] rfl) (by have :=hI.cln;omega)) rfl ?_
    rintro _ w20 hS20
    replace hS20:=hS20.jn rfl rfl
    clear hS19
    have h1d:=hS20.own_one 0 rfl
    refine X6 (.skip (by kernel_rfl) (.skip (by kernel_rfl) (.cons (.inl ⟨rfl,(Qm rfl Xm (hS20.cell 13 rfl rfl))⟩) .nil))) ?_
    refine Xl rfl rfl rfl (QT rfl rfl rfl W9 (Xj rfl rfl rfl rfl rfl rfl ?_))
    (refine QL hS20 rfl rfl Rz (by assumption) (i:=3) rfl (Xn rfl) ?_)
    intro w21 hS22; dsimp only[List.set]at hS22
    clear hS20
    refine Zx (Xq (by kernel_rfl)) ?_
    refine VC.nil (Qc (Qi [2,3,4,5,6,7,9,8] rfl (Qd ?_)))
    have hS23:=QZ (S:={S with cache:=S.cache.filter (fun n=> !decide (n=id))}) (hS22.pick [3,4,5,0,7,8,9,10,12,2,13,1,11,6,14] rfl)
    refine Qa (ZX rfl rfl (Ru rfl (XJ (XV (XO (Qo rfl Xm (hS23.cell 3 rfl rfl) rfl ?_))))))
    have hIL:=GP hI hid hp2
    refine XY Gk rfl (Vx (hS23.sp [0] rfl) (E:=one id) hIL hN) rfl ?_
    rintro e w24 ⟨_,rfl,(⟨rfl,hall,hfull,hS24⟩ | ⟨k,S1,rfl,hg,hS24⟩)⟩
    ·refine⟨_,rfl, ?_⟩
     replace hS24:=hS24.jn rfl rfl
     clear hS23
     refine Qb rfl rfl (Qt rfl rfl rfl (Qt rfl rfl rfl (Qe rfl rfl (Qe rfl rfl (Qf (ZG (XJ (WT (L':=[(7,_),(4,_),(8,_),(6,_),(5,_),(3,_),(2,_)]) (N6 rfl rfl rfl rfl rfl rfl rfl) (XV (XV (XO (Qb rfl rfl (QR rfl rfl (Qf (ZG (XJ (Hw rfl (fun h25=> ?_) (fun h25=> ?_))))))))))))))))))
     ·refine XV (XO (Qe rfl rfl ?_))
      (refine QL hS24 rfl rfl Wm (by rfl) (i:=1) rfl (by decide) ?_)
      intro w26 hS27; dsimp only[List.set]at hS27
      clear hS24
      refine Qf (ZG (XJ (HN (UN ?_))))
      obtain⟨ba,bi,fp,sp,kp,ac,cc,at2,ct,hSo28⟩:=Zf (hS27.pick [0,1,2,3,4,5,6,7] rfl)
      refine ES (.inr rfl) Kv (Hr rfl (hSo28.sp [8,9,10,0] rfl)) ?_
      rintro v0 w9 hq9
      rw[if_neg (by decide)]at hq9
      replace hq9:=hq9.jn rfl rfl
      refine⟨_,Kj rfl (R4 rfl) (Pa rfl Gv (hq9.cell 0 rfl rfl)), ?_⟩
      exact⟨_,rfl,.inr (.inr ⟨hp2,rfl,hall,hfull,QZ (S:=S) (hq9.pick [3,4,5,13,7,8,9,10,14] rfl)⟩)⟩
     exact absurd h25 (by simp)
    refine⟨_,rfl, ?_⟩
    replace hS24:=hS24.jn rfl rfl
    clear hS23
    refine Qb rfl rfl (Qt rfl rfl rfl (Qt rfl rfl rfl (Qe rfl rfl (Qe rfl rfl (Qf (ZG (XJ (WT (L':=[(7,_),(4,_),(8,_),(6,_),(5,_),(3,_),(2,_)]) (N6 rfl rfl rfl rfl rfl rfl rfl) (XV (XV (XO (Qb rfl rfl (QR rfl rfl (Qf (ZG (XJ (Hw rfl (fun h29=> ?_) (fun h29=> ?_))))))))))))))))))
    ·exact absurd h29 (by simp)
    refine Vq (XJ (XV ?_))
    obtain⟨ba,bi,fp,sp,kp,ac,cc,at2,ct,hSo30⟩:=Zf (hS24.pick [0,1,2,3,4,5,6,7] rfl)
    refine XO (Qo rfl Xm (hSo30.cell 10 rfl rfl) rfl (Qk rfl rfl (Qg rfl WJ rfl (Qo rfl YI (hSo30.cell 0 rfl rfl) rfl (Qb rfl rfl (Qb rfl rfl ?_))))))
    have hkl:k<S1.fr.length:=(XQ hg.fr).1
    have hfs:V8 (P1 S1 k).fr (k:Int) x.pg=S1.fr.set k (some x.pg):=VD hkl
    refine Qv Gj rfl (Uy (hSo30.sp [4] rfl) (k:Int) x.pg (hI.ent hid).2.2.2.2.1) rfl ?_
    rintro _ w31 ⟨_,rfl,hS31⟩
    replace hS31:=hS31.jn rfl rfl
    clear hSo30
    rw[hfs]at hS31
    refine Qf (ZG (XJ (WT (L':=[(4,_),(6,_),(5,_),(3,_),(2,_)]) (VX rfl rfl rfl rfl rfl) (XV ?_))))
    have hS32:=hS31.drew
    refine VZ Wp (U4 (sp:=[15,17,18,20]) [0,1,2,3,4,5,6,7,8,9,10,11,12,13,14,15,16,17,18,19,20] (by kernel_rfl) ?_)
    refine Q9 rfl rfl rfl (Qm rfl Xm (hS32.cell 10 rfl rfl)) (Xl rfl rfl rfl (QT rfl rfl rfl XL (Q9 rfl rfl rfl (Qm rfl Zk (hS32.cell 1 rfl rfl)) (Q9 rfl rfl rfl (Qm rfl QO (hS32.cell 11 rfl rfl)) (Q9 rfl rfl rfl (Qm rfl Xm (hS32.cell 10 rfl rfl)) (Xl rfl rfl rfl (QT rfl rfl rfl HB (Q9 rfl rfl rfl (Qm rfl Jo (hS32.cell 1 rfl rfl)) (QE rfl rfl rfl (QT rfl rfl rfl J6 (Q9 rfl rfl rfl (Qm rfl QO (hS32.cell 12 rfl rfl)) (QE rfl rfl rfl (QU rfl rfl rfl (fun _=>(Wq rfl WY HX XH rfl)) ?_)))))))))))))
    refine Q9 rfl rfl rfl (Qm rfl QO (hS32.cell 11 rfl rfl)) (Xj rfl rfl rfl rfl rfl rfl ?_)
    refine ZU (k:=id) 2 hS32 keysInt Tryz.underlying108 rfl rfl rfl XH rfl ?_
    intro u33 c33 w33 hS33; dsimp only[List.set]at hS33
    clear hS32
    refine X6 (.cons (.inl ⟨rfl,(Qm rfl QO (hS33.cell 11 rfl rfl))⟩) (.cons (.inl ⟨rfl,(Qm rfl QO (hS33.cell 12 rfl rfl))⟩) (Xq (by kernel_rfl)))) ?_
    refine Wg rfl rfl rfl rfl (Xj rfl rfl rfl rfl rfl rfl ?_)
    have hsv34:Value.agg #[intV x.refs,intV 1,intV (k:Nat),strV []]=FK ⟨x.refs,1,(k:Nat),x.pg⟩:=rfl
    refine Zw (v:=Value.agg #[intV x.refs,intV 1,intV (k:Nat),strV []]) 2 hS33 keysInt rfl rfl rfl rfl ?_
    intro w34 hS34a; dsimp only[List.set]at hS34a; have hS34:=hS34a; rw[hsv34,KI]at hS34
    clear hS33
    refine Zx (.cons (.inl ⟨rfl,(Qm rfl QO (hS34.cell 11 rfl rfl))⟩) (Xq (by kernel_rfl))) ?_
    refine Xj rfl rfl rfl rfl rfl rfl ?_
    refine ZU (k:=(k:Int)) 3 hS34 keysInt Tryz.underlying109 rfl rfl rfl HH rfl ?_
    intro u35 c35 w35 hS35; dsimp only[List.set]at hS35
    clear hS34
    refine X6 (.cons (.inl ⟨rfl,(Qm rfl QO (hS35.cell 11 rfl rfl))⟩) (Xq (by kernel_rfl))) ?_
    refine Wg rfl rfl rfl rfl (Xj rfl rfl rfl rfl rfl rfl ?_)
    refine Zw (v:=intV id) 3 hS35 keysInt rfl rfl rfl rfl ?_
    intro w36 hS36a; dsimp only[List.set]at hS36a; have hS36:=hS36a; rw[RM]at hS36
    clear hS35
    refine Zx (Xq (by kernel_rfl)) ?_
    refine VC.nil (ZG (XJ (WT (L':=[(4,_),(5,_)]) (Du rfl rfl) (XV (XO (Qb rfl rfl (Qe rfl rfl ?_)))))))
    first | (refine QL hS36 rfl rfl Wm (by first | rfl | assumption | exact hS36.own_one 4 rfl | exact hS36.own_one 7 rfl | exact hS36.own_one 13 rfl) (i:=1) rfl (by first | decide | exact Xn rfl | (simp;done) | omega) ?_) | (refine QL hS36 rfl rfl Wm (by first | rfl | assumption | exact hS36.own_one 4 rfl | exact hS36.own_one 7 rfl | exact hS36.own_one 13 rfl) (i:=8) rfl (by first | decide | exact Xn rfl | (simp;done) | omega) ?_) | (refine QL hS36 rfl rfl Wm (by first | rfl | assumption | exact hS36.own_one 4 rfl | exact hS36.own_one 7 rfl | exact hS36.own_one 13 rfl) (i:=9) rfl (by first | decide | exact Xn rfl | (simp;done) | omega) ?_) | (refine QL hS36 rfl rfl Wm (by first | rfl | assumption | exact hS36.own_one 4 rfl | exact hS36.own_one 7 rfl | exact hS36.own_one 13 rfl) (i:=10) rfl (by first | decide | exact Xn rfl | (simp;done) | omega) ?_) | (refine QL hS36 rfl rfl Wm (by first | rfl | assumption | exact hS36.own_one 4 rfl | exact hS36.own_one 7 rfl | exact hS36.own_one 13 rfl) (i:=11) rfl (by first | decide | exact Xn rfl | (simp;done) | omega) ?_) | (refine QL hS36 rfl rfl Wm (by first | rfl | assumption | exact hS36.own_one 4 rfl | exact hS36.own_one 7 rfl | exact hS36.own_one 13 rfl) (i:=12) rfl (by first | decide | exact Xn rfl | (simp;done) | omega) ?_)
    intro w37 hS38; dsimp only[List.set]at hS38
    clear hS36
    refine Qf (ZG (XJ (HN (ES (.inr rfl) Kv (Hr rfl (hS38.sp [8,9,10,1] rfl)) ?_))))
    rintro v0 w9 hq9
    rw[if_pos rfl]at hq9
    replace hq9:=hq9.jn rfl rfl
    refine⟨_,Kj rfl (R4 rfl) (Pa rfl Gv (hq9.cell 0 rfl rfl)), ?_⟩
    exact⟨_,rfl,.inr (.inl ⟨k,_,hp1,rfl,Gp hI hid hp1 (SL:={S with cache:=S.cache.filter (fun n=> !decide (n=id))}) ⟨rfl,rfl,rfl,rfl,rfl,rfl⟩ hg,QZ (S:=onF S1 id k x.refs x.pg S1.next) (hq9.pick [3,5,6,7,4,8,9,10,14] rfl)⟩)⟩
   have hp3:x.place=3:= by omega
   have hS39:=hS16.drew
   refine QJ [0,1,2,3,4,5,6] [6] Wp (by kernel_rfl) ?_
   refine Q9 rfl rfl rfl (Qm rfl Xm (hS39.cell 12 rfl rfl)) (Xl rfl rfl rfl (QT rfl rfl rfl YV (Q9 rfl rfl rfl (Qm rfl VU (hS39.cell 1 rfl rfl)) (QT rfl rfl rfl Yz (Q9 rfl rfl rfl (Qm rfl QO (hS39.cell 9 rfl rfl)) (Xj rfl rfl rfl rfl rfl rfl ?_))))))
   refine Qv Ni rfl (GC (hS39.sp [6] rfl) x.at_) rfl ?_
   rintro _ w40 ⟨rfl,hS40⟩
   replace hS40:=hS40.jn rfl rfl
   clear hS39
   rw[(Vw hI (fun q=>q) hid hp3).2.2]at hS40
   refine X6 (Xq (by kernel_rfl)) ?_
   refine VC.nil (Qc (Qi [2,3,4,5,6,7,9,8] rfl (Qd ?_)))
   have hS41:=QZ (S:={S with sl:=S.sl.set x.at_.toNat []}) (hS40.pick [2,3,4,5,6,0,7,8,10,1,12,11,9,13] rfl)
   refine Qa (ZX rfl rfl (Ru rfl (XJ (XV (XO (Qo rfl Xm (hS41.cell 3 rfl rfl) rfl ?_))))))
   have hIL:=Mi hI hid hp3
   refine XY Gk rfl (Vx (hS41.sp [0] rfl) (E:=one id) hIL hN) rfl ?_
   rintro e w42 ⟨_,rfl,(⟨rfl,hall,hfull,hS42⟩ | ⟨k,S1,rfl,hg,hS42⟩)⟩
   ·exact absurd hfull (by have hz:=D7.2 (List.mem_of_getElem? (List.getElem?_set_self (l:=S.sl) (i:=x.at_.toNat) (a:=([]:Bs)) (XQ (hI.slt (fun q=>q) hid hp3).2).1)); dsimp only;omega)
   refine⟨_,rfl, ?_⟩
   replace hS42:=hS42.jn rfl rfl
   clear hS41
   refine Qb rfl rfl (Qt rfl rfl rfl (Qt rfl rfl rfl (Qe rfl rfl (Qe rfl rfl (Qf (ZG (XJ (WT (L':=[(7,_),(4,_),(8,_),(6,_),(5,_),(3,_),(2,_)]) (N6 rfl rfl rfl rfl rfl rfl rfl) (XV (XV (XO (Qb rfl rfl (QR rfl rfl (Qf (ZG (XJ (Hw rfl (fun h43=> ?_) (fun h43=> ?_))))))))))))))))))
   ·exact absurd h43 (by simp)
   refine Vq (XJ (XV ?_))
   obtain⟨ba,bi,fp,sp,kp,ac,cc,at2,ct,hSo44⟩:=Zf (hS42.pick [0,1,2,3,4,5,6] rfl)
   refine XO (Qo rfl Xm (hSo44.cell 10 rfl rfl) rfl (Qk rfl rfl (Qg rfl WJ rfl (Qo rfl YI (hSo44.cell 0 rfl rfl) rfl (Qb rfl rfl (Qb rfl rfl ?_))))))
   have hkl:k<S1.fr.length:=(XQ hg.fr).1
   have hfs:V8 (P1 S1 k).fr (k:Int) x.pg=S1.fr.set k (some x.pg):=VD hkl
   refine Qv Gj rfl (Uy (hSo44.sp [4] rfl) (k:Int) x.pg (hI.ent hid).2.2.2.2.1) rfl ?_
   rintro _ w45 ⟨_,rfl,hS45⟩
   replace hS45:=hS45.jn rfl rfl
   clear hSo44
   rw[hfs]at hS45
   refine Qf (ZG (XJ (WT (L':=[(4,_),(6,_),(5,_),(3,_),(2,_)]) (VX rfl rfl rfl rfl rfl) (XV ?_))))
   have hS46:=hS45.drew
   refine VZ Wp (U4 (sp:=[15,17,18,20]) [0,1,2,3,4,5,6,7,8,9,10,11,12,13,14,15,16,17,18,19,20] (by kernel_rfl) ?_)
   refine Q9 rfl rfl rfl (Qm rfl Xm (hS46.cell 10 rfl rfl)) (Xl rfl rfl rfl (QT rfl rfl rfl XL (Q9 rfl rfl rfl (Qm rfl Zk (hS46.cell 1 rfl rfl)) (Q9 rfl rfl rfl (Qm rfl QO (hS46.cell 11 rfl rfl)) (Q9 rfl rfl rfl (Qm rfl Xm (hS46.cell 10 rfl rfl)) (Xl rfl rfl rfl (QT rfl rfl rfl HB (Q9 rfl rfl rfl (Qm rfl Jo (hS46.cell 1 rfl rfl)) (QE rfl rfl rfl (QT rfl rfl rfl J6 (Q9 rfl rfl rfl (Qm rfl QO (hS46.cell 12 rfl rfl)) (QE rfl rfl rfl (QU rfl rfl rfl (fun _=>(Wq rfl WY HX XH rfl)) ?_)))))))))))))
   refine Q9 rfl rfl rfl (Qm rfl QO (hS46.cell 11 rfl rfl)) (Xj rfl rfl rfl rfl rfl rfl ?_)
   refine ZU (k:=id) 2 hS46 keysInt Tryz.underlying108 rfl rfl rfl XH rfl ?_
   intro u47 c47 w47 hS47; dsimp only[List.set]at hS47
   clear hS46
   refine X6 (.cons (.inl ⟨rfl,(Qm rfl QO (hS47.cell 11 rfl rfl))⟩) (.cons (.inl ⟨rfl,(Qm rfl QO (hS47.cell 12 rfl rfl))⟩) (Xq (by kernel_rfl)))) ?_
   refine Wg rfl rfl rfl rfl (Xj rfl rfl rfl rfl rfl rfl ?_)
   have hsv48:Value.agg #[intV x.refs,intV 1,intV (k:Nat),strV []]=FK ⟨x.refs,1,(k:Nat),x.pg⟩:=rfl
   refine Zw (v:=Value.agg #[intV x.refs,intV 1,intV (k:Nat),strV []]) 2 hS47 keysInt rfl rfl rfl rfl ?_
   intro w48 hS48a; dsimp only[List.set]at hS48a; have hS48:=hS48a; rw[hsv48,KI]at hS48
   clear hS47
   refine Zx (.cons (.inl ⟨rfl,(Qm rfl QO (hS48.cell 11 rfl rfl))⟩) (Xq (by kernel_rfl))) ?_
   refine Xj rfl rfl rfl rfl rfl rfl ?_
   refine ZU (k:=(k:Int)) 3 hS48 keysInt Tryz.underlying109 rfl rfl rfl HH rfl ?_
   intro u49 c49 w49 hS49; dsimp only[List.set]at hS49
   clear hS48
   refine X6 (.cons (.inl ⟨rfl,(Qm rfl QO (hS49.cell 11 rfl rfl))⟩) (Xq (by kernel_rfl))) ?_
   refine Wg rfl rfl rfl rfl (Xj rfl rfl rfl rfl rfl rfl ?_)
   refine Zw (v:=intV id) 3 hS49 keysInt rfl rfl rfl rfl ?_
   intro w50 hS50a; dsimp only[List.set]at hS50a; have hS50:=hS50a; rw[RM]at hS50
   clear hS49
   refine Zx (Xq (by kernel_rfl)) ?_
   refine VC.nil (ZG (XJ (WT (L':=[(4,_),(5,_)]) (Du rfl rfl) (XV (XO (Qb rfl rfl (Qe rfl rfl ?_)))))))
   first | (refine QL hS50 rfl rfl Wm (by first | rfl | assumption | exact hS50.own_one 4 rfl | exact hS50.own_one 7 rfl) (i:=1) rfl (by first | decide | exact Xn rfl | (simp;done) | omega) ?_) | (refine QL hS50 rfl rfl Wm (by first | rfl | assumption | exact hS50.own_one 4 rfl | exact hS50.own_one 7 rfl) (i:=8) rfl (by first | decide | exact Xn rfl | (simp;done) | omega) ?_) | (refine QL hS50 rfl rfl Wm (by first | rfl | assumption | exact hS50.own_one 4 rfl | exact hS50.own_one 7 rfl) (i:=9) rfl (by first | decide | exact Xn rfl | (simp;done) | omega) ?_) | (refine QL hS50 rfl rfl Wm (by first | rfl | assumption | exact hS50.own_one 4 rfl | exact hS50.own_one 7 rfl) (i:=10) rfl (by first | decide | exact Xn rfl | (simp;done) | omega) ?_) | (refine QL hS50 rfl rfl Wm (by first | rfl | assumption | exact hS50.own_one 4 rfl | exact hS50.own_one 7 rfl) (i:=11) rfl (by first | decide | exact Xn rfl | (simp;done) | omega) ?_) | (refine QL hS50 rfl rfl Wm (by first | rfl | assumption | exact hS50.own_one 4 rfl | exact hS50.own_one 7 rfl) (i:=12) rfl (by first | decide | exact Xn rfl | (simp;done) | omega) ?_)
   intro w51 hS52; dsimp only[List.set]at hS52
   clear hS50
   refine Qf (ZG (XJ (HN (ES (.inr rfl) Kv (Hr rfl (hS52.sp [8,9,10,1] rfl)) ?_))))
   rintro v0 w9 hq9
   rw[if_pos rfl]at hq9
   replace hq9:=hq9.jn rfl rfl
   refine⟨_,Kj rfl (R4 rfl) (Pa rfl Gv (hq9.cell 0 rfl rfl)), ?_⟩
   exact⟨_,rfl,.inr (.inl ⟨k,_,hp1,rfl,Gp hI hid hp1 (SL:={S with sl:=S.sl.set x.at_.toNat []}) ⟨rfl,rfl,rfl,rfl,rfl,rfl⟩ hg,QZ (S:=onF S1 id k x.refs x.pg S1.next) (hq9.pick [3,5,6,7,4,8,9,10,13] rfl)⟩)⟩
  refine U4 (sp:=[2,7,9]) [0,1,3,4,5,6,7,2,8,9] (by kernel_rfl) ?_
  refine Q9 rfl rfl rfl (Qm rfl Xm (hS12.cell 3 rfl rfl)) (Q9 rfl rfl rfl (Qm rfl QO (hS12.cell 2 rfl rfl)) (Q9 rfl rfl rfl (Qm rfl Xm (hS12.cell 3 rfl rfl)) (Xl rfl rfl rfl (QT rfl rfl rfl W9 (Q9 rfl rfl rfl (Qm rfl YX (hS12.cell 4 rfl rfl)) (Xj rfl rfl rfl rfl rfl rfl ?_))))))
  refine Xg hS12 zr_47 rfl rfl ?_
  intro ob w53 hS53
  clear hS12
  refine X6 (.cons (.inl ⟨rfl,(Qm rfl YX (hS53.cell 5 rfl rfl))⟩) (.cons (.inl ⟨rfl,(Qm rfl Xm (hS53.cell 4 rfl rfl))⟩) (.cons (.inl ⟨rfl,(Qm rfl QO (hS53.cell 3 rfl rfl))⟩) (.cons (.inl ⟨rfl,(Qm rfl Xm (hS53.cell 4 rfl rfl))⟩) .nil)))) (Xj rfl rfl rfl rfl rfl rfl ?_)
  refine Qv JQ rfl (DN (hS53.sp [5,6,7,8,9,10,11,12] rfl) hI id (fun q=>q)) rfl ?_
  rintro _ w54 ⟨rfl,hS54⟩
  replace hS54:=hS54.jn rfl rfl
  clear hS53
  rw[show YR S id=x.pg by unfold YR; rw[hid]]
  refine X6 (.cons (.inl ⟨rfl,(Qm rfl YX (hS54.cell 0 rfl rfl))⟩) (.cons (.inl ⟨rfl,(Qm rfl Xm (hS54.cell 12 rfl rfl))⟩) (Xq (by kernel_rfl)))) ?_
  refine XN rfl rfl rfl (Xj rfl rfl rfl rfl rfl rfl ?_)
  (refine QL hS54 rfl rfl Rz (by rfl) (i:=8) rfl (by decide) ?_)
  intro w55 hS56; dsimp only[List.set]at hS56
  clear hS54
  refine Zx (Xq (by kernel_rfl)) ?_
  refine VC.nil (Qc (Qi [2,3,4,5,6,7,9,8] rfl (Qd (Qd (Qa (Qg rfl YU rfl (Qo rfl QO (hS56.cell 9 rfl rfl) rfl (QX rfl rfl rfl (Qf (Qc (Qs rfl (fun h57=> ?_) (fun h57=> ?_))))))))))))
  ·have hp2:x.place=2:=h57
   have hS58:=hS56.drew
   refine QJ [0,1,2,3,4,6,5,7,8,9,10] [5,7,10] Wp (by kernel_rfl) ?_
   refine Q9 rfl rfl rfl (Qm rfl Xm (hS58.cell 12 rfl rfl)) (Q9 rfl rfl rfl (Qm rfl Xm (hS58.cell 12 rfl rfl)) (Xl rfl rfl rfl (QT rfl rfl rfl W9 (Q9 rfl rfl rfl (Qm rfl YX (hS58.cell 0 rfl rfl)) (QU rfl rfl rfl (fun _=>(B1 rfl)) ?_)))))
   refine Xj rfl rfl rfl rfl rfl rfl ?_
   refine Qv CZ rfl (Ks (hS58.sp [] rfl) (Ent.starL (Hj (C:=inC) (l:=S.cache) (by have :=hI.cln;omega)) 3 rfl) (by have :=hI.cln;omega)) rfl ?_
   rintro _ w59 hS59
   replace hS59:=hS59.jn rfl rfl
   clear hS58
   have h1n:=hS59.own_one 0 rfl
   refine X6 (.skip (by kernel_rfl) (.skip (by kernel_rfl) (.cons (.inl ⟨rfl,(Qm rfl Xm (hS59.cell 13 rfl rfl))⟩) .nil))) ?_
   refine Xj rfl rfl rfl rfl rfl rfl ?_
   refine Qv Nj rfl (CP (eqB _ id) (hS59.sp [0,12] rfl) (by have :=hI.cln;omega)) rfl ?_
   rintro _ w60 hS60
   replace hS60:=hS60.jn rfl rfl
   clear hS59
   have h1d:=hS60.own_one 0 rfl
   refine X6 (.skip (by kernel_rfl) (.skip (by kernel_rfl) (.cons (.inl ⟨rfl,(Qm rfl Xm (hS60.cell 13 rfl rfl))⟩) .nil))) ?_
   refine Xl rfl rfl rfl (QT rfl rfl rfl W9 (Xj rfl rfl rfl rfl rfl rfl ?_))
   (refine QL hS60 rfl rfl Rz (by assumption) (i:=2) rfl (Xn rfl) ?_)
   intro w61 hS62; dsimp only[List.set]at hS62
   clear hS60
   refine Zx (Xq (by kernel_rfl)) ?_
   refine VC.nil (Qc (Qi [2,3,4,5,6,7,9,8] rfl (Qd ?_)))
   have hS63:=QZ (S:={S with cache:=S.cache.filter (fun n=> !decide (n=id))}) (hS62.pick [2,3,4,0,6,7,8,9,12,10,13,1,11,5,14] rfl)
   refine Qa (ZX rfl rfl (Ru rfl (XJ (XV (XO (Qo rfl Xm (hS63.cell 3 rfl rfl) rfl ?_))))))
   have hIL:=GP hI hid hp2
   refine XY Gk rfl (Vx (hS63.sp [0] rfl) (E:=one id) hIL hN) rfl ?_
   rintro e w64 ⟨_,rfl,(⟨rfl,hall,hfull,hS64⟩ | ⟨k,S1,rfl,hg,hS64⟩)⟩
   ·refine⟨_,rfl, ?_⟩
    replace hS64:=hS64.jn rfl rfl
    clear hS63
    refine Qb rfl rfl (Qt rfl rfl rfl (Qt rfl rfl rfl (Qe rfl rfl (Qe rfl rfl (Qf (ZG (XJ (WT (L':=[(7,_),(4,_),(8,_),(6,_),(5,_),(3,_),(2,_)]) (N6 rfl rfl rfl rfl rfl rfl rfl) (XV (XV (XO (Qb rfl rfl (QR rfl rfl (Qf (ZG (XJ (Hw rfl (fun h65=> ?_) (fun h65=> ?_))))))))))))))))))
    ·refine XV (XO (Qe rfl rfl ?_))
     (refine QL hS64 rfl rfl Wm (by rfl) (i:=1) rfl (by decide) ?_)
     intro w66 hS67; dsimp only[List.set]at hS67
     clear hS64
     refine Qf (ZG (XJ (HN (UN ?_))))
     obtain⟨ba,bi,fp,sp,kp,ac,cc,at2,ct,hSo68⟩:=Zf (hS67.pick [0,1,2,3,4,5,6,7] rfl)
     refine ES (.inr rfl) Kv (Hr rfl (hSo68.sp [8,9,10,0] rfl)) ?_
     rintro v0 w9 hq9
     rw[if_neg (by decide)]at hq9
     replace hq9:=hq9.jn rfl rfl
     refine⟨_,Kj rfl (R4 rfl) (Pa rfl Gv (hq9.cell 0 rfl rfl)), ?_⟩
     exact⟨_,rfl,.inr (.inr ⟨hp2,rfl,hall,hfull,QZ (S:=S) (hq9.pick [3,4,5,13,7,8,9,10,14] rfl)⟩)⟩
    exact absurd h65 (by simp)
   refine⟨_,rfl, ?_⟩
   replace hS64:=hS64.jn rfl rfl
   clear hS63
   refine Qb rfl rfl (Qt rfl rfl rfl (Qt rfl rfl rfl (Qe rfl rfl (Qe rfl rfl (Qf (ZG (XJ (WT (L':=[(7,_),(4,_),(8,_),(6,_),(5,_),(3,_),(2,_)]) (N6 rfl rfl rfl rfl rfl rfl rfl) (XV (XV (XO (Qb rfl rfl (QR rfl rfl (Qf (ZG (XJ (Hw rfl (fun h69=> ?_) (fun h69=> ?_))))))))))))))))))
   ·exact absurd h69 (by simp)
   refine Vq (XJ (XV ?_))
   obtain⟨ba,bi,fp,sp,kp,ac,cc,at2,ct,hSo70⟩:=Zf (hS64.pick [0,1,2,3,4,5,6,7] rfl)
   refine XO (Qo rfl Xm (hSo70.cell 10 rfl rfl) rfl (Qk rfl rfl (Qg rfl WJ rfl (Qo rfl YI (hSo70.cell 0 rfl rfl) rfl (Qb rfl rfl (Qb rfl rfl ?_))))))
   have hkl:k<S1.fr.length:=(XQ hg.fr).1
   have hfs:V8 (P1 S1 k).fr (k:Int) x.pg=S1.fr.set k (some x.pg):=VD hkl
   refine Qv Gj rfl (Uy (hSo70.sp [4] rfl) (k:Int) x.pg (hI.ent hid).2.2.2.2.1) rfl ?_
   rintro _ w71 ⟨_,rfl,hS71⟩
   replace hS71:=hS71.jn rfl rfl
   clear hSo70
   rw[hfs]at hS71
   refine Qf (ZG (XJ (WT (L':=[(4,_),(6,_),(5,_),(3,_),(2,_)]) (VX rfl rfl rfl rfl rfl) (XV ?_))))
   have hS72:=hS71.drew
   refine VZ Wp (U4 (sp:=[15,17,18,20]) [0,1,2,3,4,5,6,7,8,9,10,11,12,13,14,15,16,17,18,19,20] (by kernel_rfl) ?_)
   refine Q9 rfl rfl rfl (Qm rfl Xm (hS72.cell 10 rfl rfl)) (Xl rfl rfl rfl (QT rfl rfl rfl XL (Q9 rfl rfl rfl (Qm rfl Zk (hS72.cell 1 rfl rfl)) (Q9 rfl rfl rfl (Qm rfl QO (hS72.cell 11 rfl rfl)) (Q9 rfl rfl rfl (Qm rfl Xm (hS72.cell 10 rfl rfl)) (Xl rfl rfl rfl (QT rfl rfl rfl HB (Q9 rfl rfl rfl (Qm rfl Jo (hS72.cell 1 rfl rfl)) (QE rfl rfl rfl (QT rfl rfl rfl J6 (Q9 rfl rfl rfl (Qm rfl QO (hS72.cell 12 rfl rfl)) (QE rfl rfl rfl (QU rfl rfl rfl (fun _=>(Wq rfl WY HX XH rfl)) ?_)))))))))))))
   refine Q9 rfl rfl rfl (Qm rfl QO (hS72.cell 11 rfl rfl)) (Xj rfl rfl rfl rfl rfl rfl ?_)
   refine ZU (k:=id) 2 hS72 keysInt Tryz.underlying108 rfl rfl rfl XH rfl ?_
   intro u73 c73 w73 hS73; dsimp only[List.set]at hS73
   clear hS72
   refine X6 (.cons (.inl ⟨rfl,(Qm rfl QO (hS73.cell 11 rfl rfl))⟩) (.cons (.inl ⟨rfl,(Qm rfl QO (hS73.cell 12 rfl rfl))⟩) (Xq (by kernel_rfl)))) ?_
   refine Wg rfl rfl rfl rfl (Xj rfl rfl rfl rfl rfl rfl ?_)
   have hsv74:Value.agg #[intV x.refs,intV 1,intV (k:Nat),strV []]=FK ⟨x.refs,1,(k:Nat),x.pg⟩:=rfl
   refine Zw (v:=Value.agg #[intV x.refs,intV 1,intV (k:Nat),strV []]) 2 hS73 keysInt rfl rfl rfl rfl ?_
   intro w74 hS74a; dsimp only[List.set]at hS74a; have hS74:=hS74a; rw[hsv74,KI]at hS74
   clear hS73
   refine Zx (.cons (.inl ⟨rfl,(Qm rfl QO (hS74.cell 11 rfl rfl))⟩) (Xq (by kernel_rfl))) ?_
   refine Xj rfl rfl rfl rfl rfl rfl ?_
   refine ZU (k:=(k:Int)) 3 hS74 keysInt Tryz.underlying109 rfl rfl rfl HH rfl ?_
   intro u75 c75 w75 hS75; dsimp only[List.set]at hS75
   clear hS74
   refine X6 (.cons (.inl ⟨rfl,(Qm rfl QO (hS75.cell 11 rfl rfl))⟩) (Xq (by kernel_rfl))) ?_
   refine Wg rfl rfl rfl rfl (Xj rfl rfl rfl rfl rfl rfl ?_)
   refine Zw (v:=intV id) 3 hS75 keysInt rfl rfl rfl rfl ?_
   intro w76 hS76a; dsimp only[List.set]at hS76a; have hS76:=hS76a; rw[RM]at hS76
   clear hS75
   refine Zx (Xq (by kernel_rfl)) ?_
   refine VC.nil (ZG (XJ (WT (L':=[(4,_),(5,_)]) (Du rfl rfl) (XV (XO (Qb rfl rfl (Qe rfl rfl ?_)))))))
   first | (refine QL hS76 rfl rfl Wm (by first | rfl | assumption | exact hS76.own_one 4 rfl | exact hS76.own_one 7 rfl | exact hS76.own_one 13 rfl) (i:=1) rfl (by first | decide | exact Xn rfl | (simp;done) | omega) ?_) | (refine QL hS76 rfl rfl Wm (by first | rfl | assumption | exact hS76.own_one 4 rfl | exact hS76.own_one 7 rfl | exact hS76.own_one 13 rfl) (i:=8) rfl (by first | decide | exact Xn rfl | (simp;done) | omega) ?_) | (refine QL hS76 rfl rfl Wm (by first | rfl | assumption | exact hS76.own_one 4 rfl | exact hS76.own_one 7 rfl | exact hS76.own_one 13 rfl) (i:=9) rfl (by first | decide | exact Xn rfl | (simp;done) | omega) ?_) | (refine QL hS76 rfl rfl Wm (by first | rfl | assumption | exact hS76.own_one 4 rfl | exact hS76.own_one 7 rfl | exact hS76.own_one 13 rfl) (i:=10) rfl (by first | decide | exact Xn rfl | (simp;done) | omega) ?_) | (refine QL hS76 rfl rfl Wm (by first | rfl | assumption | exact hS76.own_one 4 rfl | exact hS76.own_one 7 rfl | exact hS76.own_one 13 rfl) (i:=11) rfl (by first | decide | exact Xn rfl | (simp;done) | omega) ?_) | (refine QL hS76 rfl rfl Wm (by first | rfl | assumption | exact hS76.own_one 4 rfl | exact hS76.own_one 7 rfl | exact hS76.own_one 13 rfl) (i:=12) rfl (by first | decide | exact Xn rfl | (simp;done) | omega) ?_)
   intro w77 hS78; dsimp only[List.set]at hS78
   clear hS76
   refine Qf (ZG (XJ (HN (ES (.inr rfl) Kv (Hr rfl (hS78.sp [8,9,10,1] rfl)) ?_))))
   rintro v0 w9 hq9
   rw[if_pos rfl]at hq9
   replace hq9:=hq9.jn rfl rfl
   refine⟨_,Kj rfl (R4 rfl) (Pa rfl Gv (hq9.cell 0 rfl rfl)), ?_⟩
   exact⟨_,rfl,.inr (.inl ⟨k,_,hp1,rfl,Gp hI hid hp1 (SL:={S with cache:=S.cache.filter (fun n=> !decide (n=id))}) ⟨rfl,rfl,rfl,rfl,rfl,rfl⟩ hg,QZ (S:=onF S1 id k x.refs x.pg S1.next) (hq9.pick [3,5,6,7,4,8,9,10,14] rfl)⟩)⟩
  have hp3:x.place=3:= by omega
  have hS79:=hS56.drew
  refine QJ [0,1,2,3,4,5,6] [6] Wp (by kernel_rfl) ?_
  refine Q9 rfl rfl rfl (Qm rfl Xm (hS79.cell 12 rfl rfl)) (Xl rfl rfl rfl (QT rfl rfl rfl YV (Q9 rfl rfl rfl (Qm rfl VU (hS79.cell 0 rfl rfl)) (QT rfl rfl rfl Yz (Q9 rfl rfl rfl (Qm rfl QO (hS79.cell 9 rfl rfl)) (Xj rfl rfl rfl rfl rfl rfl ?_))))))
  refine Qv Ni rfl (GC (hS79.sp [5] rfl) x.at_) rfl ?_
  rintro _ w80 ⟨rfl,hS80⟩
  replace hS80:=hS80.jn rfl rfl
  clear hS79
  rw[(Vw hI (fun q=>q) hid hp3).2.2]at hS80
  refine X6 (Xq (by kernel_rfl)) ?_
  refine VC.nil (Qc (Qi [2,3,4,5,6,7,9,8] rfl (Qd ?_)))
  have hS81:=QZ (S:={S with sl:=S.sl.set x.at_.toNat []}) (hS80.pick [1,2,3,4,5,0,6,7,10,8,12,11,9,13] rfl)
  refine Qa (ZX rfl rfl (Ru rfl (XJ (XV (XO (Qo rfl Xm (hS81.cell 3 rfl rfl) rfl ?_))))))
  have hIL:=Mi hI hid hp3
  refine XY Gk rfl (Vx (hS81.sp [0] rfl) (E:=one id) hIL hN) rfl ?_
  rintro e w82 ⟨_,rfl,(⟨rfl,hall,hfull,hS82⟩ | ⟨k,S1,rfl,hg,hS82⟩)⟩
  ·exact absurd hfull (by have hz:=D7.2 (List.mem_of_getElem? (List.getElem?_set_self (l:=S.sl) (i:=x.at_.toNat) (a:=([]:Bs)) (XQ (hI.slt (fun q=>q) hid hp3).2).1)); dsimp only;omega)
  refine⟨_,rfl, ?_⟩
  replace hS82:=hS82.jn rfl rfl
  clear hS81
  refine Qb rfl rfl (Qt rfl rfl rfl (Qt rfl rfl rfl (Qe rfl rfl (Qe rfl rfl (Qf (ZG (XJ (WT (L':=[(7,_),(4,_),(8,_),(6,_),(5,_),(3,_),(2,_)]) (N6 rfl rfl rfl rfl rfl rfl rfl) (XV (XV (XO (Qb rfl rfl (QR rfl rfl (Qf (ZG (XJ (Hw rfl (fun h83=> ?_) (fun h83=> ?_))))))))))))))))))
  ·exact absurd h83 (by simp)
  refine Vq (XJ (XV ?_))
  obtain⟨ba,bi,fp,sp,kp,ac,cc,at2,ct,hSo84⟩:=Zf (hS82.pick [0,1,2,3,4,5,6] rfl)
  refine XO (Qo rfl Xm (hSo84.cell 10 rfl rfl) rfl (Qk rfl rfl (Qg rfl WJ rfl (Qo rfl YI (hSo84.cell 0 rfl rfl) rfl (Qb rfl rfl (Qb rfl rfl ?_))))))
  have hkl:k<S1.fr.length:=(XQ hg.fr).1
  have hfs:V8 (P1 S1 k).fr (k:Int) x.pg=S1.fr.set k (some x.pg):=VD hkl
  refine Qv Gj rfl (Uy (hSo84.sp [4] rfl) (k:Int) x.pg (hI.ent hid).2.2.2.2.1) rfl ?_
  rintro _ w85 ⟨_,rfl,hS85⟩
  replace hS85:=hS85.jn rfl rfl
  clear hSo84
  rw[hfs]at hS85
  refine Qf (ZG (XJ (WT (L':=[(4,_),(6,_),(5,_),(3,_),(2,_)]) (VX rfl rfl rfl rfl rfl) (XV ?_))))
  have hS86:=hS85.drew
  refine VZ Wp (U4 (sp:=[15,17,18,20]) [0,1,2,3,4,5,6,7,8,9,10,11,12,13,14,15,16,17,18,19,20] (by kernel_rfl) ?_)
  refine Q9 rfl rfl rfl (Qm rfl Xm (hS86.cell 10 rfl rfl)) (Xl rfl rfl rfl (QT rfl rfl rfl XL (Q9 rfl rfl rfl (Qm rfl Zk (hS86.cell 1 rfl rfl)) (Q9 rfl rfl rfl (Qm rfl QO (hS86.cell 11 rfl rfl)) (Q9 rfl rfl rfl (Qm rfl Xm (hS86.cell 10 rfl rfl)) (Xl rfl rfl rfl (QT rfl rfl rfl HB (Q9 rfl rfl rfl (Qm rfl Jo (hS86.cell 1 rfl rfl)) (QE rfl rfl rfl (QT rfl rfl rfl J6 (Q9 rfl rfl rfl (Qm rfl QO (hS86.cell 12 rfl rfl)) (QE rfl rfl rfl (QU rfl rfl rfl (fun _=>(Wq rfl WY HX XH rfl)) ?_)))))))))))))
  refine Q9 rfl rfl rfl (Qm rfl QO (hS86.cell 11 rfl rfl)) (Xj rfl rfl rfl rfl rfl rfl ?_)
  refine ZU (k:=id) 2 hS86 keysInt Tryz.underlying108 rfl rfl rfl XH rfl ?_
  intro u87 c87 w87 hS87; dsimp only[List.set]at hS87
  clear hS86
  refine X6 (.cons (.inl ⟨rfl,(Qm rfl QO (hS87.cell 11 rfl rfl))⟩) (.cons (.inl ⟨rfl,(Qm rfl QO (hS87.cell 12 rfl rfl))⟩) (Xq (by kernel_rfl)))) ?_
  refine Wg rfl rfl rfl rfl (Xj rfl rfl rfl rfl rfl rfl ?_)
  have hsv88:Value.agg #[intV x.refs,intV 1,intV (k:Nat),strV []]=FK ⟨x.refs,1,(k:Nat),x.pg⟩:=rfl
  refine Zw (v:=Value.agg #[intV x.refs,intV 1,intV (k:Nat),strV []]) 2 hS87 keysInt rfl rfl rfl rfl ?_
  intro w88 hS88a; dsimp only[List.set]at hS88a; have hS88:=hS88a; rw[hsv88,KI]at hS88
  clear hS87
  refine Zx (.cons (.inl ⟨rfl,(Qm rfl QO (hS88.cell 11 rfl rfl))⟩) (Xq (by kernel_rfl))) ?_
  refine Xj rfl rfl rfl rfl rfl rfl ?_
  refine ZU (k:=(k:Int)) 3 hS88 keysInt Tryz.underlying109 rfl rfl rfl HH rfl ?_
  intro u89 c89 w89 hS89; dsimp only[List.set]at hS89
  clear hS88
  refine X6 (.cons (.inl ⟨rfl,(Qm rfl QO (hS89.cell 11 rfl rfl))⟩) (Xq (by kernel_rfl))) ?_
  refine Wg rfl rfl rfl rfl (Xj rfl rfl rfl rfl rfl rfl ?_)
  refine Zw (v:=intV id) 3 hS89 keysInt rfl rfl rfl rfl ?_
  intro w90 hS90a; dsimp only[List.set]at hS90a; have hS90:=hS90a; rw[RM]at hS90
  clear hS89
  refine Zx (Xq (by kernel_rfl)) ?_
  refine VC.nil (ZG (XJ (WT (L':=[(4,_),(5,_)]) (Du rfl rfl) (XV (XO (Qb rfl rfl (Qe rfl rfl ?_)))))))
  first | (refine QL hS90 rfl rfl Wm (by first | rfl | assumption | exact hS90.own_one 4 rfl | exact hS90.own_one 7 rfl) (i:=1) rfl (by first | decide | exact Xn rfl | (simp;done) | omega) ?_) | (refine QL hS90 rfl rfl Wm (by first | rfl | assumption | exact hS90.own_one 4 rfl | exact hS90.own_one 7 rfl) (i:=8) rfl (by first | decide | exact Xn rfl | (simp;done) | omega) ?_) | (refine QL hS90 rfl rfl Wm (by first | rfl | assumption | exact hS90.own_one 4 rfl | exact hS90.own_one 7 rfl) (i:=9) rfl (by first | decide | exact Xn rfl | (simp;done) | omega) ?_) | (refine QL hS90 rfl rfl Wm (by first | rfl | assumption | exact hS90.own_one 4 rfl | exact hS90.own_one 7 rfl) (i:=10) rfl (by first | decide | exact Xn rfl | (simp;done) | omega) ?_) | (refine QL hS90 rfl rfl Wm (by first | rfl | assumption | exact hS90.own_one 4 rfl | exact hS90.own_one 7 rfl) (i:=11) rfl (by first | decide | exact Xn rfl | (simp;done) | omega) ?_) | (refine QL hS90 rfl rfl Wm (by first | rfl | assumption | exact hS90.own_one 4 rfl | exact hS90.own_one 7 rfl) (i:=12) rfl (by first | decide | exact Xn rfl | (simp;done) | omega) ?_)
  intro w91 hS92; dsimp only[List.set]at hS92
  clear hS90
  refine Qf (ZG (XJ (HN (ES (.inr rfl) Kv (Hr rfl (hS92.sp [8,9,10,1] rfl)) ?_))))
  rintro v0 w9 hq9
  rw[if_pos rfl]at hq9
  replace hq9:=hq9.jn rfl rfl
  refine⟨_,Kj rfl (R4 rfl) (Pa rfl Gv (hq9.cell 0 rfl rfl)), ?_⟩
  exact⟨_,rfl,.inr (.inl ⟨k,_,hp1,rfl,Gp hI hid hp1 (SL:={S with sl:=S.sl.set x.at_.toNat []}) ⟨rfl,rfl,rfl,rfl,rfl,rfl⟩ hg,QZ (S:=onF S1 id k x.refs x.pg S1.next) (hq9.pick [3,5,6,7,4,8,9,10,13] rfl)⟩)⟩
end Go.Proofs.YtkcjfoaejijdoaaGreatDoor
