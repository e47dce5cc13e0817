/- sheets: Bring -/
import Derived.Test.YtkcjfoaejijdoaaGreatDoorSh12a
set_option linter.unusedVariables false
set_option maxRecDepth 100000
set_option maxHeartbeats 3200000
namespace Go.Proofs.YtkcjfoaejijdoaaGreatDoor
open Go.RowKit M
theorem DN {w:World} {p:Nat} {S:SS} {ba bi fp sp kp:Nat} {ac at2:Option Addr} {cc ct:Nat} {F:Th} (hS:Sat w [QK p [.map (some ba),.map (some bi),.slice ac S.cache.length cc,ptrV fp 0,ptrV sp 0,ptrV kp 0,intV S.slots,intV S.budget,intV S.next,.slice at2 S.taken.length ct],Q8 Xl ba (aG S.all),Q8 Xl bi (gI S.inn),rowT inC (.slice ac S.cache.length cc) S.cache,RS fp S.fr,Gy sp S.sl,Cd kp S.ck,rowT inC (.slice at2 S.taken.length ct) S.taken,F]) {E:Int→Prop} {N:Nat} (hI:ShI E N S) (id:Int) (hE: ¬E id):
    Calls Tryz.prog 34 #[ptrV p 0,intV id] w (Ret fun v w'=>v=strV (YT S id)∧Sat w' [QK p [.map (some ba),.map (some bi),.slice ac S.cache.length cc,ptrV fp 0,ptrV sp 0,ptrV kp 0,intV S.slots,intV S.budget,intV S.next,.slice at2 S.taken.length ct],Q8 Xl ba (aG S.all),Q8 Xl bi (gI S.inn),rowT inC (.slice ac S.cache.length cc) S.cache,RS fp S.fr,Gy sp S.sl,Cd kp S.ck,rowT inC (.slice at2 S.taken.length ct) S.taken,F]):= by
 cases hid:S.all id with
 | none=>
  refine Qr Tryz.func34 rfl Tryz.ntmps34 rfl ?_
  refine Qd (Qa (Qe rfl rfl (Qf (Qc (Qd (Qa (Qb rfl rfl (Qk rfl rfl (Qg rfl XS rfl (Qp rfl Zq (hS.cell 0 rfl rfl) rfl (Qb rfl rfl (Wr (k:=id) 1 hS keysInt Tryz.underlying108 rfl rfl rfl XO (u:=(.agg #[intV 0,intV 0,intV 0,strV []])) (g:=false) (Hr hid) (Hb hid) rfl (Qb rfl rfl (Qu rfl rfl rfl (Qu rfl rfl rfl (Xm hS XO rfl rfl ?_))))))))))))))))
  intro b1 w1 hS1
  (refine Xe hS1 rfl rfl Ya rfl (by rfl) (i:=0) rfl (by decide) ?_)
  intro w2 hS3; dsimp only[List.set]at hS3
  clear hS1
  refine Qe rfl rfl (Qf (Qc (Qi [1,0,4,5,6] rfl (Qd (Qx (Qd (Qa (Qb rfl rfl (Xd rfl rfl rfl (Qe rfl rfl (Qf (Qc (Qt rfl (fun h4=> ?_) (fun h4=> ?_))))))))))))))
  ·refine Qd (Qa (qac Fp rfl (MF (hS3.sp [] rfl) zer (by decide)) rfl ?_))
   rintro _ w5 ⟨rfl,hS5⟩
   replace hS5:=hS5.jn rfl rfl
   clear hS3
   refine Qe rfl rfl (Qf (Qc (Qw (Qy (Qo (QW (.inr rfl) rfl rfl ?_))))))
   exact⟨_,rfl, by unfold YT; rw[hid]; dsimp only; rw[if_pos (by omega)],hS5.pick [1,2,3,4,5,6,7,8,9] rfl⟩
  refine Qd (Qa (Qb rfl rfl (QX rfl rfl (Qe rfl rfl (Qf (Qc (Qi [0,4,5,24] rfl (QQ rfl (fun h6=> ?_) (fun h6=> ?_)))))))))
  ·refine Qd (Qa (Qe rfl rfl (Qf (Qc (Qw (Qy (Qo (QW (.inr rfl) rfl rfl ?_))))))))
   exact⟨_,rfl, by unfold YT; rw[hid]; dsimp only; rw[if_neg (by omega)],hS3.pick [1,2,3,4,5,6,7,8,9] rfl⟩
  exact absurd h6 (by simp)
 | some x=>
  obtain⟨hid1,_,hr1,hr2,_,hplc⟩:=hI.ent hid
  refine Qr Tryz.func34 rfl Tryz.ntmps34 rfl ?_
  refine Qd (Qa (Qe rfl rfl (Qf (Qc (Qd (Qa (Qb rfl rfl (Qk rfl rfl (Qg rfl XS rfl (Qp rfl Zq (hS.cell 0 rfl rfl) rfl (Qb rfl rfl (Wr (k:=id) 1 hS keysInt Tryz.underlying108 rfl rfl rfl XO (u:=(.agg #[intV x.refs,intV x.place,intV x.at_,strV (Rf x)])) (g:=true) (J1 hid) (Ha hid) rfl (Qb rfl rfl (Qu rfl rfl rfl (Qu rfl rfl rfl (Xm hS XO rfl rfl ?_))))))))))))))))
  intro b1 w1 hS1
  (refine Xe hS1 rfl rfl Ya rfl (by rfl) (i:=0) rfl (by decide) ?_)
  intro w2 hS3; dsimp only[List.set]at hS3
  clear hS1
  refine Qe rfl rfl (Qf (Qc (Qi [1,0,4,5,6] rfl (Qd (Qx (Qd (Qa (Qb rfl rfl (Xd rfl rfl rfl (Qe rfl rfl (Qf (Qc (Qt rfl (fun h4=> ?_) (fun h4=> ?_))))))))))))))
  ·exact absurd h4 (by omega)
  refine Qd (Qa (Qb rfl rfl (QX rfl rfl (Qe rfl rfl (Qf (Qc (Qi [0,4,5,24] rfl (QQ rfl (fun h5=> ?_) (fun h5=> ?_)))))))))
  ·exact absurd h5 (by simp)
  refine Qd (Qa (Qg rfl YW rfl (Qp rfl QS (hS3.cell 0 rfl rfl) rfl (Xd rfl rfl rfl (Qe rfl rfl (Qf (Qc (Qt rfl (fun h6=> ?_) (fun h6=> ?_)))))))))
  ·have hp1:x.place=1:=h6
   refine Qd ?_
   have hS7:=hS3.drew
   refine QO [0,1,2,3,4,5,6,7] [6] Wu (by kernel_rfl) ?_
   refine QJ rfl rfl rfl (Xr rfl rfl rfl (QZ rfl rfl rfl WP (QH rfl rfl rfl (Qn rfl YK (hS7.cell 1 rfl rfl)) (QZ rfl rfl rfl Y1 (QH rfl rfl rfl (Qn rfl QS (hS7.cell 0 rfl rfl)) (Xp rfl rfl rfl rfl rfl rfl (qac Fo rfl (GW (hS7.sp [5] rfl) x.at_) rfl ?_)))))))
   rintro _ w8 ⟨rfl,hS8⟩
   replace hS8:=hS8.jn rfl rfl
   clear hS7
   rw[hI.frc hE hid hp1]
   dsimp only[Option.getD_some]
   refine XB (Xx (by kernel_rfl)) ?_
   refine XU rfl rfl rfl (VC.nil (Qc (Qi [0,5,4] rfl (Qw (Qy (Qo (QW (.inr rfl) rfl rfl ?_)))))))
   exact⟨_,rfl, by unfold YT; rw[hid],hS8.pick [2,3,4,5,0,6,7,8,9] rfl⟩
  refine Qd (Qa (Qg rfl YW rfl (Qp rfl QS (hS3.cell 0 rfl rfl) rfl (Xd rfl rfl rfl (Qe rfl rfl (Qf (Qc (Qi [0,4,5,38] rfl (Qt rfl (fun h9=> ?_) (fun h9=> ?_))))))))))
  ·have hp2:x.place=2:=h9
   refine Qd (Qa (Qg rfl M2 rfl (Qp rfl ZI (hS3.cell 0 rfl rfl) rfl ?_)))
   obtain⟨fy,hfy⟩:=Option.ne_none_iff_exists'.1 (hI.pck hE hid hp2).2
   have hfme:Rf x=fy:= by unfold Rf fm; rw[if_pos hp2,hfy];rfl
   refine qac Fn rfl (GA (hS3.sp [] rfl) (hI.ent hid).2.2.2.2.1 (by rw[hfme]; exact hfy)) rfl ?_
   rintro _ w10 ⟨rfl,hS10⟩
   replace hS10:=hS10.jn rfl rfl
   clear hS3
   refine Qb rfl rfl (Qu rfl rfl rfl (Qu rfl rfl rfl (Qe rfl rfl (Qe rfl rfl (Qf (Qc (Qi [0,4,5,7] rfl (Qd (Qa (Qb rfl rfl (Qe rfl rfl (Qf (Qc (Qw (Qy (Qo (QW (.inr rfl) rfl rfl ?_)))))))))))))))))
   exact⟨_,rfl, by unfold YT; rw[hid],hS10.pick [1,2,3,4,5,6,7,8,9] rfl⟩
  refine Qs (Qm (Qc (Qd ?_)))
  have hp3:x.place=3:= by omega
  have hS11:=hS3.drew
  refine QO [0,1,2,3,4,5,6,7,8,9,10,11] [6] Wu (by kernel_rfl) ?_
  refine QJ rfl rfl rfl (Xr rfl rfl rfl (QZ rfl rfl rfl YX (QH rfl rfl rfl (Qn rfl VV (hS11.cell 1 rfl rfl)) (QZ rfl rfl rfl Y1 (QH rfl rfl rfl (Qn rfl QS (hS11.cell 0 rfl rfl)) (Xp rfl rfl rfl rfl rfl rfl (qac qaq rfl (NK (hS11.sp [6] rfl) x.at_) rfl ?_)))))))
  rintro _ w12 ⟨eg,rfl,hS12⟩
  replace hS12:=hS12.jn rfl rfl
  clear hS11
  rw[(Vx hI hE hid hp3).2.1]
  refine XB (Xx (by kernel_rfl)) ?_
  refine QJ rfl rfl rfl (Wm rfl rfl rfl rfl (Wm rfl rfl rfl rfl (XU rfl rfl rfl (XU rfl rfl rfl (VC.nil (Qc (Qi [4,9] rfl (Qd (Qa (Qb rfl rfl (Qe rfl rfl (Qf (Qc (Qw (QW (.inr rfl) rfl rfl ?_)))))))))))))))
  exact⟨_,rfl, by unfold YT; rw[hid],hS12.pick [2,3,4,5,6,0,7,8,9] rfl⟩
theorem S7 {w:World} {p:Nat} {S:SS} {F:Th} (hS:Sat w [YS p S,F]) {N:Nat} (hI:ShI Rl N S) (hN:N≤800000000) (id:Int):
    Calls Tryz.prog 107 #[ptrV p 0,intV id] w (Ret fun v w'=>(match S.all id with | none=>v= .tuple #[intV 0,intV 4]∧Sat w' [YS p S,F] | some x=>(x.place=1∧v= .tuple #[intV x.at_,intV 0]∧Sat w' [YS p S,F])∨(∃k S',x.place≠1∧v= .tuple #[intV (k:Nat),intV 0]∧BrS N S S' id k x∧Sat w' [YS p S',F])∨(x.place=2∧v= .tuple #[intV 0,intV 6]∧(∀o∈S.fr,o≠none)∧WJ S.sl=S.sl.length∧Sat w' [YS p S,F]))):= by
 obtain⟨ba,bi,fp,sp,kp,ac,cc,at2,ct,hS⟩:=Zl hS
 cases hid:S.all id with
 | none=>
  dsimp only
  refine Gi Tryz.func107 rfl Tryz.ntmps107 rfl ?_
  refine Qd (Qa (Zb hS rfl rfl rfl ?_))
  intro sb w1 hS1
  refine Zb hS1 rfl rfl rfl ?_
  intro db w2 hS2
  clear hS1
  refine Qe rfl rfl (Xm hS2 zr_28 rfl rfl ?_)
  intro eb w3 hS3
  clear hS2
  refine Qf (Qc (Qd ?_))
  have hS4:=hS3.drew
  refine QO [0,1,2,3,4,5,6,7,8,9,10,11] [9,10] Wu (by kernel_rfl) ?_
  refine QH rfl rfl rfl (Qn rfl Xu (hS4.cell 2 rfl rfl)) (Xr rfl rfl rfl (QZ rfl rfl rfl XS (QH rfl rfl rfl (Qn rfl Zq (hS4.cell 3 rfl rfl)) (QH rfl rfl rfl (Qn rfl QS (hS4.cell 1 rfl rfl)) (QH rfl rfl rfl (WF (k:=id) 4 hS4 keysInt Tryz.underlying108 rfl rfl rfl XO (u:=(.agg #[intV 0,intV 0,intV 0,strV []])) (g:=false) (Hr hid) (Hb hid)) (QJ rfl rfl rfl (Wm rfl rfl rfl rfl (Wm rfl rfl rfl rfl (Xp rfl rfl rfl rfl rfl rfl (Xm hS4 XO rfl rfl ?_))))))))))
  intro xb w5 hS5
  clear hS4
  refine XB (.cons (.inl ⟨rfl,(WF (k:=id) 5 hS5 keysInt Tryz.underlying108 rfl rfl rfl XO (u:=(.agg #[intV 0,intV 0,intV 0,strV []])) (g:=false) (Hr hid) (Hb hid))⟩) (.cons (.inl ⟨rfl,(Qn rfl QS (hS5.cell 2 rfl rfl))⟩) (.cons (.inl ⟨rfl,(Qn rfl Zq (hS5.cell 4 rfl rfl))⟩) (.cons (.inl ⟨rfl,(Qn rfl Xu (hS5.cell 3 rfl rfl))⟩) .nil)))) (Xp rfl rfl rfl rfl rfl rfl ?_)
  (refine Xe hS5 rfl rfl Ya rfl (by rfl) (i:=0) rfl (by decide) ?_)
  intro w6 hS7; dsimp only[List.set]at hS7
  clear hS5
  refine Z3 (Xx (by kernel_rfl)) ?_
  refine XU rfl rfl rfl (VC.nil (Qc (Qi [2,3,4,5,6,7] rfl (Qd (Qx (Qd (Qa (Qb rfl rfl (QX rfl rfl (Qe rfl rfl (Qf (Qc (QQ rfl (fun h8=> ?_) (fun h8=> ?_))))))))))))))
  ·refine Qd (Qa (Qe rfl rfl ?_))
   (refine Xt hS7 rfl rfl Bt (by rfl) (i:=1) rfl (by decide) ?_)
   intro w9 hS10; dsimp only[List.set]at hS10
   clear hS7
   exact Qf (Qc (Qw (Qy (Qo (finE2 (.inr rfl) rfl (R4 rfl) (Pa rfl Gw (hS10.cell 1 rfl rfl)) (⟨_,rfl,rfl,Xf (hS10.pick [4,5,6,7,8,9,10,11,12] rfl)⟩))))))
  exact absurd h8 (by simp)
 | some x=>
  obtain⟨hid1,_,hr1,hr2,_,hplc⟩:=hI.ent hid
  dsimp only
  refine Gi Tryz.func107 rfl Tryz.ntmps107 rfl ?_
  refine Qd (Qa (Zb hS rfl rfl rfl ?_))
  intro sb w1 hS1
  refine Zb hS1 rfl rfl rfl ?_
  intro db w2 hS2
  clear hS1
  refine Qe rfl rfl (Xm hS2 zr_28 rfl rfl ?_)
  intro eb w3 hS3
  clear hS2
  refine Qf (Qc (Qd ?_))
  have hS4:=hS3.drew
  refine QO [0,1,2,3,4,5,6,7,8,9,10,11] [9,10] Wu (by kernel_rfl) ?_
  refine QH rfl rfl rfl (Qn rfl Xu (hS4.cell 2 rfl rfl)) (Xr rfl rfl rfl (QZ rfl rfl rfl XS (QH rfl rfl rfl (Qn rfl Zq (hS4.cell 3 rfl rfl)) (QH rfl rfl rfl (Qn rfl QS (hS4.cell 1 rfl rfl)) (QH rfl rfl rfl (WF (k:=id) 4 hS4 keysInt Tryz.underlying108 rfl rfl rfl XO (u:=(.agg #[intV x.refs,intV x.place,intV x.at_,strV (Rf x)])) (g:=true) (J1 hid) (Ha hid)) (QJ rfl rfl rfl (Wm rfl rfl rfl rfl (Wm rfl rfl rfl rfl (Xp rfl rfl rfl rfl rfl rfl (Xm hS4 XO rfl rfl ?_))))))))))
  intro xb w5 hS5
  clear hS4
  refine XB (.cons (.inl ⟨rfl,(WF (k:=id) 5 hS5 keysInt Tryz.underlying108 rfl rfl rfl XO (u:=(.agg #[intV x.refs,intV x.place,intV x.at_,strV (Rf x)])) (g:=true) (J1 hid) (Ha hid))⟩) (.cons (.inl ⟨rfl,(Qn rfl QS (hS5.cell 2 rfl rfl))⟩) (.cons (.inl ⟨rfl,(Qn rfl Zq (hS5.cell 4 rfl rfl))⟩) (.cons (.inl ⟨rfl,(Qn rfl Xu (hS5.cell 3 rfl rfl))⟩) .nil)))) (Xp rfl rfl rfl rfl rfl rfl ?_)
  (refine Xe hS5 rfl rfl Ya rfl (by rfl) (i:=0) rfl (by decide) ?_)
  intro w6 hS7; dsimp only[List.set]at hS7
  clear hS5
  refine Z3 (Xx (by kernel_rfl)) ?_
  refine XU rfl rfl rfl (VC.nil (Qc (Qi [2,3,4,5,6,7] rfl (Qd (Qx (Qd (Qa (Qb rfl rfl (QX rfl rfl (Qe rfl rfl (Qf (Qc (QQ rfl (fun h8=> ?_) (fun h8=> ?_))))))))))))))
  ·exact absurd h8 (by simp)
  refine Qd (Qa (Qg rfl YW rfl (Qp rfl QS (hS7.cell 0 rfl rfl) rfl (Xd rfl rfl rfl (Qe rfl rfl (Qf (Qc (Qi [2,3,4,5,6,7,22] rfl (Qt rfl (fun h9=> ?_) (fun h9=> ?_))))))))))
  ·have hp1:x.place=1:=h9
   refine Qd (Qa (Qg rfl Y1 rfl (Qp rfl QS (hS7.cell 0 rfl rfl) rfl (Qe rfl rfl ?_))))
   (refine Xt hS7 rfl rfl Bt (by rfl) (i:=1) rfl (by decide) ?_)
   intro w10 hS11; dsimp only[List.set]at hS11
   clear hS7
   exact Qf (Qc (Qw (Qy (Qo (finE2 (.inr rfl) rfl (R4 rfl) (Pa rfl Gw (hS11.cell 1 rfl rfl)) (⟨_,rfl,.inl ⟨hp1,rfl,Xf (hS11.pick [4,5,6,7,8,9,10,11,12] rfl)⟩⟩))))))
  have hp1:x.place≠1:=h9
  refine Qs (Qm (Qc (Qd ?_)))
  have hS12:=hS7.drew
  refine Rv Wu (VJ 2 7 rfl ?_ ?_)
  ·refine U6 (sp:=[2,7,9]) [0,1,3,4,5,6,2,7,8,9] (by kernel_rfl) ?_
   refine QH rfl rfl rfl (Qn rfl Xu (hS12.cell 3 rfl rfl)) (QH rfl rfl rfl (Qn rfl QS (hS12.cell 2 rfl rfl)) (QH rfl rfl rfl (Qn rfl Xu (hS12.cell 3 rfl rfl)) (Xr rfl rfl rfl (QZ rfl rfl rfl WE (QH rfl rfl rfl (Qn rfl YZ (hS12.cell 4 rfl rfl)) (Xp rfl rfl rfl rfl rfl rfl (qac JU rfl (DN (hS12.sp [4,5,6,7,8,9,10,11] rfl) hI id (fun q=>q)) rfl ?_)))))))
   rintro _ w13 ⟨rfl,hS13⟩
   replace hS13:=hS13.jn rfl rfl
   clear hS12
   rw[show YT S id=x.pg by unfold YT; rw[hid]]
   refine XB (.cons (.inl ⟨rfl,(Qn rfl YZ (hS13.cell 0 rfl rfl))⟩) (.cons (.inl ⟨rfl,(Qn rfl Xu (hS13.cell 11 rfl rfl))⟩) (Xx (by kernel_rfl)))) ?_
   refine Xp rfl rfl rfl rfl rfl rfl (Xm hS13 zr_47 rfl rfl ?_)
   intro ob w14 hS14
   clear hS13
   refine XB (.cons (.inl ⟨rfl,(Qn rfl YZ (hS14.cell 1 rfl rfl))⟩) (.cons (.inl ⟨rfl,(Qn rfl Xu (hS14.cell 12 rfl rfl))⟩) (Xx (by kernel_rfl)))) ?_
   refine XU rfl rfl rfl (Xp rfl rfl rfl rfl rfl rfl ?_)
   (refine Xt hS14 rfl rfl Rz (by rfl) (i:=0) rfl (by decide) ?_)
   intro w15 hS16; dsimp only[List.set]at hS16
   clear hS14
   refine Z3 (Xx (by kernel_rfl)) ?_
   refine VC.nil (Qc (Qi [2,3,4,5,6,7,9,8] rfl (Qd (Qd (Qa (Qg rfl YW rfl (Qp rfl QS (hS16.cell 9 rfl rfl) rfl (Xd rfl rfl rfl (Qf (Qc (Qt rfl (fun h17=> ?_) (fun h17=> ?_))))))))))))
   ·have hp2:x.place=2:=h17
    have hS18:=hS16.drew
    refine QO [0,1,2,3,4,6,5,7,8,9,10] [5,7,10] Wu (by kernel_rfl) ?_
    refine QH rfl rfl rfl (Qn rfl Xu (hS18.cell 12 rfl rfl)) (QH rfl rfl rfl (Qn rfl Xu (hS18.cell 12 rfl rfl)) (Xr rfl rfl rfl (QZ rfl rfl rfl WE (QH rfl rfl rfl (Qn rfl YZ (hS18.cell 1 rfl rfl)) (Xa rfl rfl rfl (fun _=>(B3 rfl)) ?_)))))
    refine Xp rfl rfl rfl rfl rfl rfl ?_
    refine qac CZ rfl (Kt (hS18.sp [] rfl) (Ent.starL (Hn (C:=inC) (l:=S.cache) (by have :=hI.cln;omega)) 4 rfl) (by have :=hI.cln;omega)) rfl ?_
    rintro _ w19 hS19
    replace hS19:=hS19.jn rfl rfl
    clear hS18
    have h1n:=hS19.own_one 0 rfl
    refine XB (.skip (by kernel_rfl) (.skip (by kernel_rfl) (.cons (.inl ⟨rfl,(Qn rfl Xu (hS19.cell 13 rfl rfl))⟩) .nil))) ?_
    refine Xp rfl rfl rfl rfl rfl rfl ?_
    refine qac Nj rfl (CP (eqB _ id) (hS19.sp [0,12] rfl) (by have :=hI.cln;omega)) rfl ?_
    rintro _ w20 hS20
    replace hS20:=hS20.jn rfl rfl
    clear hS19
    have h1d:=hS20.own_one 0 rfl
    refine XB (.skip (by kernel_rfl) (.skip (by kernel_rfl) (.cons (.inl ⟨rfl,(Qn rfl Xu (hS20.cell 13 rfl rfl))⟩) .nil))) ?_
    refine Xr rfl rfl rfl (QZ rfl rfl rfl WE (Xp rfl rfl rfl rfl rfl rfl ?_))
    (refine Xt hS20 rfl rfl Rz (by assumption) (i:=3) rfl (XJ rfl) ?_)
    intro w21 hS22; dsimp only[List.set]at hS22
    clear hS20
    refine Z3 (Xx (by kernel_rfl)) ?_
    refine VC.nil (Qc (Qi [2,3,4,5,6,7,9,8] rfl (Qd ?_)))
    have hS23:=Xf (S:={S with cache:=S.cache.filter (fun n=> !decide (n=id))}) (hS22.pick [3,4,5,0,7,8,9,10,12,2,13,1,11,6,14] rfl)
    refine Qa (Wd rfl rfl (Ru rfl (XQ (Zc (XV (Qp rfl Xu (hS23.cell 3 rfl rfl) rfl ?_))))))
    have hIL:=GQ hI hid hp2
    refine Ql Gl rfl (Vy (hS23.sp [0] rfl) (E:=one id) hIL hN) rfl ?_
    rintro e w24 ⟨_,rfl,(⟨rfl,hall,hfull,hS24⟩ | ⟨k,S1,rfl,hg,hS24⟩)⟩
    ·refine⟨_,rfl, ?_⟩
     replace hS24:=hS24.jn rfl rfl
     clear hS23
     refine Qb rfl rfl (Qu rfl rfl rfl (Qu rfl rfl rfl (Qe rfl rfl (Qe rfl rfl (Qf (ZM (XQ (WX (L':=[(7,_),(4,_),(8,_),(6,_),(5,_),(3,_),(2,_)]) (N6 rfl rfl rfl rfl rfl rfl rfl) (Zc (Zc (XV (Qb rfl rfl (QX rfl rfl (Qf (ZM (XQ (H0 rfl (fun h25=> ?_) (fun h25=> ?_))))))))))))))))))
     ·refine Zc (XV (Qe rfl rfl ?_))
      (refine Xt hS24 rfl rfl Bt (by rfl) (i:=1) rfl (by decide) ?_)
      intro w26 hS27; dsimp only[List.set]at hS27
      clear hS24
      refine Qf (ZM (XQ (HP (UO ?_))))
      obtain⟨ba,bi,fp,sp,kp,ac,cc,at2,ct,hSo28⟩:=Zl (hS27.pick [0,1,2,3,4,5,6,7] rfl)
      refine ER (.inr rfl) Kw (Hv rfl (hSo28.sp [8,9,10,0] rfl)) ?_
      rintro v0 w9 hq9
      rw[if_neg (by decide)]at hq9
      replace hq9:=hq9.jn rfl rfl
      refine⟨_,Kk rfl (R4 rfl) (Pa rfl Gw (hq9.cell 0 rfl rfl)), ?_⟩
      exact⟨_,rfl,.inr (.inr ⟨hp2,rfl,hall,hfull,Xf (S:=S) (hq9.pick [3,4,5,13,7,8,9,10,14] rfl)⟩)⟩
     exact absurd h25 (by simp)
    refine⟨_,rfl, ?_⟩
    replace hS24:=hS24.jn rfl rfl
    clear hS23
    refine Qb rfl rfl (Qu rfl rfl rfl (Qu rfl rfl rfl (Qe rfl rfl (Qe rfl rfl (Qf (ZM (XQ (WX (L':=[(7,_),(4,_),(8,_),(6,_),(5,_),(3,_),(2,_)]) (N6 rfl rfl rfl rfl rfl rfl rfl) (Zc (Zc (XV (Qb rfl rfl (QX rfl rfl (Qf (ZM (XQ (H0 rfl (fun h29=> ?_) (fun h29=> ?_))))))))))))))))))
    ·exact absurd h29 (by simp)
    refine Vr (XQ (Zc ?_))
    obtain⟨ba,bi,fp,sp,kp,ac,cc,at2,ct,hSo30⟩:=Zl (hS24.pick [0,1,2,3,4,5,6,7] rfl)
    refine XV (Qp rfl Xu (hSo30.cell 10 rfl rfl) rfl (Qk rfl rfl (Qg rfl WP rfl (Qp rfl YK (hSo30.cell 0 rfl rfl) rfl (Qb rfl rfl (Qb rfl rfl ?_))))))
    have hkl:k<S1.fr.length:=(XX hg.fr).1
    have hfs:V9 (P1 S1 k).fr (k:Int) x.pg=S1.fr.set k (some x.pg):=VE hkl
    refine qac Gk rfl (U0 (hSo30.sp [4] rfl) (k:Int) x.pg (hI.ent hid).2.2.2.2.1) rfl ?_
    rintro _ w31 ⟨_,rfl,hS31⟩
    replace hS31:=hS31.jn rfl rfl
    clear hSo30
    rw[hfs]at hS31
    refine Qf (ZM (XQ (WX (L':=[(4,_),(6,_),(5,_),(3,_),(2,_)]) (VY rfl rfl rfl rfl rfl) (Zc ?_))))
    have hS32:=hS31.drew
    refine Ka Wu (U6 (sp:=[15,17,18,20]) [0,1,2,3,4,5,6,7,8,9,10,11,12,13,14,15,16,17,18,19,20] (by kernel_rfl) ?_)
    refine QH rfl rfl rfl (Qn rfl Xu (hS32.cell 10 rfl rfl)) (Xr rfl rfl rfl (QZ rfl rfl rfl XS (QH rfl rfl rfl (Qn rfl Zq (hS32.cell 1 rfl rfl)) (QH rfl rfl rfl (Qn rfl QS (hS32.cell 11 rfl rfl)) (QH rfl rfl rfl (Qn rfl Xu (hS32.cell 10 rfl rfl)) (Xr rfl rfl rfl (QZ rfl rfl rfl HE (QH rfl rfl rfl (Qn rfl Ju (hS32.cell 1 rfl rfl)) (QJ rfl rfl rfl (QZ rfl rfl rfl JB (QH rfl rfl rfl (Qn rfl QS (hS32.cell 12 rfl rfl)) (QJ rfl rfl rfl (Xa rfl rfl rfl (fun _=>(Wv rfl Jc HZ XO rfl)) ?_)))))))))))))
    refine QH rfl rfl rfl (Qn rfl QS (hS32.cell 11 rfl rfl)) (Xp rfl rfl rfl rfl rfl rfl (Wa (k:=id) 2 hS32 keysInt Tryz.underlying108 rfl rfl rfl XO rfl ?_))
    intro u33 c33 w33 hS33; dsimp only[List.set]at hS33
    clear hS32
    refine XB (.cons (.inl ⟨rfl,(Qn rfl QS (hS33.cell 11 rfl rfl))⟩) (.cons (.inl ⟨rfl,(Qn rfl QS (hS33.cell 12 rfl rfl))⟩) (Xx (by kernel_rfl)))) ?_
    refine Wm rfl rfl rfl rfl (Xp rfl rfl rfl rfl rfl rfl ?_)
    have hsv34:Value.agg #[intV x.refs,intV 1,intV (k:Nat),strV []]=FK ⟨x.refs,1,(k:Nat),x.pg⟩:=rfl
    refine Z2 (v:=Value.agg #[intV x.refs,intV 1,intV (k:Nat),strV []]) 2 hS33 keysInt rfl rfl rfl rfl ?_
    intro w34 hS34a; dsimp only[List.set]at hS34a; have hS34:=hS34a; rw[hsv34,KI]at hS34
    clear hS33
    refine Z3 (.cons (.inl ⟨rfl,(Qn rfl QS (hS34.cell 11 rfl rfl))⟩) (Xx (by kernel_rfl))) ?_
    refine Xp rfl rfl rfl rfl rfl rfl (Wa (k:=(k:Int)) 3 hS34 keysInt Tryz.underlying109 rfl rfl rfl HJ rfl ?_)
    intro u35 c35 w35 hS35; dsimp only[List.set]at hS35
    clear hS34
    refine XB (.cons (.inl ⟨rfl,(Qn rfl QS (hS35.cell 11 rfl rfl))⟩) (Xx (by kernel_rfl))) ?_
    refine Wm rfl rfl rfl rfl (Xp rfl rfl rfl rfl rfl rfl (Z2 (v:=intV id) 3 hS35 keysInt rfl rfl rfl rfl ?_))
    intro w36 hS36a; dsimp only[List.set]at hS36a; have hS36:=hS36a; rw[RN]at hS36
    clear hS35
    refine Z3 (Xx (by kernel_rfl)) ?_
    refine VC.nil (ZM (XQ (WX (L':=[(4,_),(5,_)]) (Du rfl rfl) (Zc (XV (Qb rfl rfl (Qe rfl rfl ?_)))))))
    (refine Xt hS36 rfl rfl Bt (by rfl) (i:=8) rfl (by decide) ?_)
    intro w37 hS38; dsimp only[List.set]at hS38
    clear hS36
    refine Qf (ZM (XQ (HP (ER (.inr rfl) Kw (Hv rfl (hS38.sp [8,9,10,1] rfl)) ?_))))
    rintro v0 w9 hq9
    rw[if_pos rfl]at hq9
    replace hq9:=hq9.jn rfl rfl
    refine⟨_,Kk rfl (R4 rfl) (Pa rfl Gw (hq9.cell 0 rfl rfl)), ?_⟩
    exact⟨_,rfl,.inr (.inl ⟨k,_,hp1,rfl,Gq hI hid hp1 (SL:={S with cache:=S.cache.filter (fun n=> !decide (n=id))}) ⟨rfl,rfl,rfl,rfl,rfl,rfl⟩ hg,Xf (S:=onF S1 id k x.refs x.pg S1.next) (hq9.pick [3,5,6,7,4,8,9,10,14] rfl)⟩)⟩
   have hp3:x.place=3:= by omega
   have hS39:=hS16.drew
   refine QO [0,1,2,3,4,5,6] [6] Wu (by kernel_rfl) ?_
   refine QH rfl rfl rfl (Qn rfl Xu (hS39.cell 12 rfl rfl)) (Xr rfl rfl rfl (QZ rfl rfl rfl YX (QH rfl rfl rfl (Qn rfl VV (hS39.cell 1 rfl rfl)) (QZ rfl rfl rfl Y1 (QH rfl rfl rfl (Qn rfl QS (hS39.cell 9 rfl rfl)) (Xp rfl rfl rfl rfl rfl rfl (qac Ni rfl (GD (hS39.sp [6] rfl) x.at_) rfl ?_)))))))
   rintro _ w40 ⟨rfl,hS40⟩
   replace hS40:=hS40.jn rfl rfl
   clear hS39
   rw[(Vx hI (fun q=>q) hid hp3).2.2]at hS40
   refine XB (Xx (by kernel_rfl)) ?_
   refine VC.nil (Qc (Qi [2,3,4,5,6,7,9,8] rfl (Qd ?_)))
   have hS41:=Xf (S:={S with sl:=S.sl.set x.at_.toNat []}) (hS40.pick [2,3,4,5,6,0,7,8,10,1,12,11,9,13] rfl)
   refine Qa (Wd rfl rfl (Ru rfl (XQ (Zc (XV (Qp rfl Xu (hS41.cell 3 rfl rfl) rfl ?_))))))
   have hIL:=Mi hI hid hp3
   refine Ql Gl rfl (Vy (hS41.sp [0] rfl) (E:=one id) hIL hN) rfl ?_
   rintro e w42 ⟨_,rfl,(⟨rfl,hall,hfull,hS42⟩ | ⟨k,S1,rfl,hg,hS42⟩)⟩
   ·exact absurd hfull (by have hz:=D7.2 (List.mem_of_getElem? (List.getElem?_set_self (l:=S.sl) (i:=x.at_.toNat) (a:=([]:Bs)) (XX (hI.slt (fun q=>q) hid hp3).2).1)); dsimp only;omega)
   refine⟨_,rfl, ?_⟩
   replace hS42:=hS42.jn rfl rfl
   clear hS41
   refine Qb rfl rfl (Qu rfl rfl rfl (Qu rfl rfl rfl (Qe rfl rfl (Qe rfl rfl (Qf (ZM (XQ (WX (L':=[(7,_),(4,_),(8,_),(6,_),(5,_),(3,_),(2,_)]) (N6 rfl rfl rfl rfl rfl rfl rfl) (Zc (Zc (XV (Qb rfl rfl (QX rfl rfl (Qf (ZM (XQ (H0 rfl (fun h43=> ?_) (fun h43=> ?_))))))))))))))))))
   ·exact absurd h43 (by simp)
   refine Vr (XQ (Zc ?_))
   obtain⟨ba,bi,fp,sp,kp,ac,cc,at2,ct,hSo44⟩:=Zl (hS42.pick [0,1,2,3,4,5,6] rfl)
   refine XV (Qp rfl Xu (hSo44.cell 10 rfl rfl) rfl (Qk rfl rfl (Qg rfl WP rfl (Qp rfl YK (hSo44.cell 0 rfl rfl) rfl (Qb rfl rfl (Qb rfl rfl ?_))))))
   have hkl:k<S1.fr.length:=(XX hg.fr).1
   have hfs:V9 (P1 S1 k).fr (k:Int) x.pg=S1.fr.set k (some x.pg):=VE hkl
   refine qac Gk rfl (U0 (hSo44.sp [4] rfl) (k:Int) x.pg (hI.ent hid).2.2.2.2.1) rfl ?_
   rintro _ w45 ⟨_,rfl,hS45⟩
   replace hS45:=hS45.jn rfl rfl
   clear hSo44
   rw[hfs]at hS45
   refine Qf (ZM (XQ (WX (L':=[(4,_),(6,_),(5,_),(3,_),(2,_)]) (VY rfl rfl rfl rfl rfl) (Zc ?_))))
   have hS46:=hS45.drew
   refine Ka Wu (U6 (sp:=[15,17,18,20]) [0,1,2,3,4,5,6,7,8,9,10,11,12,13,14,15,16,17,18,19,20] (by kernel_rfl) ?_)
   refine QH rfl rfl rfl (Qn rfl Xu (hS46.cell 10 rfl rfl)) (Xr rfl rfl rfl (QZ rfl rfl rfl XS (QH rfl rfl rfl (Qn rfl Zq (hS46.cell 1 rfl rfl)) (QH rfl rfl rfl (Qn rfl QS (hS46.cell 11 rfl rfl)) (QH rfl rfl rfl (Qn rfl Xu (hS46.cell 10 rfl rfl)) (Xr rfl rfl rfl (QZ rfl rfl rfl HE (QH rfl rfl rfl (Qn rfl Ju (hS46.cell 1 rfl rfl)) (QJ rfl rfl rfl (QZ rfl rfl rfl JB (QH rfl rfl rfl (Qn rfl QS (hS46.cell 12 rfl rfl)) (QJ rfl rfl rfl (Xa rfl rfl rfl (fun _=>(Wv rfl Jc HZ XO rfl)) ?_)))))))))))))
   refine QH rfl rfl rfl (Qn rfl QS (hS46.cell 11 rfl rfl)) (Xp rfl rfl rfl rfl rfl rfl (Wa (k:=id) 2 hS46 keysInt Tryz.underlying108 rfl rfl rfl XO rfl ?_))
   intro u47 c47 w47 hS47; dsimp only[List.set]at hS47
   clear hS46
   refine XB (.cons (.inl ⟨rfl,(Qn rfl QS (hS47.cell 11 rfl rfl))⟩) (.cons (.inl ⟨rfl,(Qn rfl QS (hS47.cell 12 rfl rfl))⟩) (Xx (by kernel_rfl)))) ?_
   refine Wm rfl rfl rfl rfl (Xp rfl rfl rfl rfl rfl rfl ?_)
   have hsv48:Value.agg #[intV x.refs,intV 1,intV (k:Nat),strV []]=FK ⟨x.refs,1,(k:Nat),x.pg⟩:=rfl
   refine Z2 (v:=Value.agg #[intV x.refs,intV 1,intV (k:Nat),strV []]) 2 hS47 keysInt rfl rfl rfl rfl ?_
   intro w48 hS48a; dsimp only[List.set]at hS48a; have hS48:=hS48a; rw[hsv48,KI]at hS48
   clear hS47
   refine Z3 (.cons (.inl ⟨rfl,(Qn rfl QS (hS48.cell 11 rfl rfl))⟩) (Xx (by kernel_rfl))) ?_
   refine Xp rfl rfl rfl rfl rfl rfl (Wa (k:=(k:Int)) 3 hS48 keysInt Tryz.underlying109 rfl rfl rfl HJ rfl ?_)
   intro u49 c49 w49 hS49; dsimp only[List.set]at hS49
   clear hS48
   refine XB (.cons (.inl ⟨rfl,(Qn rfl QS (hS49.cell 11 rfl rfl))⟩) (Xx (by kernel_rfl))) ?_
   refine Wm rfl rfl rfl rfl (Xp rfl rfl rfl rfl rfl rfl (Z2 (v:=intV id) 3 hS49 keysInt rfl rfl rfl rfl ?_))
   intro w50 hS50a; dsimp only[List.set]at hS50a; have hS50:=hS50a; rw[RN]at hS50
   clear hS49
   refine Z3 (Xx (by kernel_rfl)) ?_
   refine VC.nil (ZM (XQ (WX (L':=[(4,_),(5,_)]) (Du rfl rfl) (Zc (XV (Qb rfl rfl (Qe rfl rfl ?_)))))))
   (refine Xt hS50 rfl rfl Bt (by rfl) (i:=8) rfl (by decide) ?_)
   intro w51 hS52; dsimp only[List.set]at hS52
   clear hS50
   refine Qf (ZM (XQ (HP (ER (.inr rfl) Kw (Hv rfl (hS52.sp [8,9,10,1] rfl)) ?_))))
   rintro v0 w9 hq9
   rw[if_pos rfl]at hq9
   replace hq9:=hq9.jn rfl rfl
   refine⟨_,Kk rfl (R4 rfl) (Pa rfl Gw (hq9.cell 0 rfl rfl)), ?_⟩
   exact⟨_,rfl,.inr (.inl ⟨k,_,hp1,rfl,Gq hI hid hp1 (SL:={S with sl:=S.sl.set x.at_.toNat []}) ⟨rfl,rfl,rfl,rfl,rfl,rfl⟩ hg,Xf (S:=onF S1 id k x.refs x.pg S1.next) (hq9.pick [3,5,6,7,4,8,9,10,13] rfl)⟩)⟩
  refine U6 (sp:=[2,7,9]) [0,1,3,4,5,6,7,2,8,9] (by kernel_rfl) ?_
  refine QH rfl rfl rfl (Qn rfl Xu (hS12.cell 3 rfl rfl)) (QH rfl rfl rfl (Qn rfl QS (hS12.cell 2 rfl rfl)) (QH rfl rfl rfl (Qn rfl Xu (hS12.cell 3 rfl rfl)) (Xr rfl rfl rfl (QZ rfl rfl rfl WE (QH rfl rfl rfl (Qn rfl YZ (hS12.cell 4 rfl rfl)) (Xp rfl rfl rfl rfl rfl rfl (Xm hS12 zr_47 rfl rfl ?_)))))))
  intro ob w53 hS53
  clear hS12
  refine XB (.cons (.inl ⟨rfl,(Qn rfl YZ (hS53.cell 5 rfl rfl))⟩) (.cons (.inl ⟨rfl,(Qn rfl Xu (hS53.cell 4 rfl rfl))⟩) (.cons (.inl ⟨rfl,(Qn rfl QS (hS53.cell 3 rfl rfl))⟩) (.cons (.inl ⟨rfl,(Qn rfl Xu (hS53.cell 4 rfl rfl))⟩) .nil)))) (Xp rfl rfl rfl rfl rfl rfl (qac JU rfl (DN (hS53.sp [5,6,7,8,9,10,11,12] rfl) hI id (fun q=>q)) rfl ?_))
  rintro _ w54 ⟨rfl,hS54⟩
  replace hS54:=hS54.jn rfl rfl
  clear hS53
  rw[show YT S id=x.pg by unfold YT; rw[hid]]
  refine XB (.cons (.inl ⟨rfl,(Qn rfl YZ (hS54.cell 0 rfl rfl))⟩) (.cons (.inl ⟨rfl,(Qn rfl Xu (hS54.cell 12 rfl rfl))⟩) (Xx (by kernel_rfl)))) ?_
  refine XU rfl rfl rfl (Xp rfl rfl rfl rfl rfl rfl ?_)
  (refine Xt hS54 rfl rfl Rz (by rfl) (i:=8) rfl (by decide) ?_)
  intro w55 hS56; dsimp only[List.set]at hS56
  clear hS54
  refine Z3 (Xx (by kernel_rfl)) ?_
  refine VC.nil (Qc (Qi [2,3,4,5,6,7,9,8] rfl (Qd (Qd (Qa (Qg rfl YW rfl (Qp rfl QS (hS56.cell 9 rfl rfl) rfl (Xd rfl rfl rfl (Qf (Qc (Qt rfl (fun h57=> ?_) (fun h57=> ?_))))))))))))
  ·have hp2:x.place=2:=h57
   have hS58:=hS56.drew
   refine QO [0,1,2,3,4,6,5,7,8,9,10] [5,7,10] Wu (by kernel_rfl) ?_
   refine QH rfl rfl rfl (Qn rfl Xu (hS58.cell 12 rfl rfl)) (QH rfl rfl rfl (Qn rfl Xu (hS58.cell 12 rfl rfl)) (Xr rfl rfl rfl (QZ rfl rfl rfl WE (QH rfl rfl rfl (Qn rfl YZ (hS58.cell 0 rfl rfl)) (Xa rfl rfl rfl (fun _=>(B3 rfl)) ?_)))))
   refine Xp rfl rfl rfl rfl rfl rfl ?_
   refine qac CZ rfl (Kt (hS58.sp [] rfl) (Ent.starL (Hn (C:=inC) (l:=S.cache) (by have :=hI.cln;omega)) 3 rfl) (by have :=hI.cln;omega)) rfl ?_
   rintro _ w59 hS59
   replace hS59:=hS59.jn rfl rfl
   clear hS58
   have h1n:=hS59.own_one 0 rfl
   refine XB (.skip (by kernel_rfl) (.skip (by kernel_rfl) (.cons (.inl ⟨rfl,(Qn rfl Xu (hS59.cell 13 rfl rfl))⟩) .nil))) ?_
   refine Xp rfl rfl rfl rfl rfl rfl ?_
   refine qac Nj rfl (CP (eqB _ id) (hS59.sp [0,12] rfl) (by have :=hI.cln;omega)) rfl ?_
   rintro _ w60 hS60
   replace hS60:=hS60.jn rfl rfl
   clear hS59
   have h1d:=hS60.own_one 0 rfl
   refine XB (.skip (by kernel_rfl) (.skip (by kernel_rfl) (.cons (.inl ⟨rfl,(Qn rfl Xu (hS60.cell 13 rfl rfl))⟩) .nil))) ?_
   refine Xr rfl rfl rfl (QZ rfl rfl rfl WE (Xp rfl rfl rfl rfl rfl rfl ?_))
   (refine Xt hS60 rfl rfl Rz (by assumption) (i:=2) rfl (XJ rfl) ?_)
   intro w61 hS62; dsimp only[List.set]at hS62
   clear hS60
   refine Z3 (Xx (by kernel_rfl)) ?_
   refine VC.nil (Qc (Qi [2,3,4,5,6,7,9,8] rfl (Qd ?_)))
   have hS63:=Xf (S:={S with cache:=S.cache.filter (fun n=> !decide (n=id))}) (hS62.pick [2,3,4,0,6,7,8,9,12,10,13,1,11,5,14] rfl)
   refine Qa (Wd rfl rfl (Ru rfl (XQ (Zc (XV (Qp rfl Xu (hS63.cell 3 rfl rfl) rfl ?_))))))
   have hIL:=GQ hI hid hp2
   refine Ql Gl rfl (Vy (hS63.sp [0] rfl) (E:=one id) hIL hN) rfl ?_
   rintro e w64 ⟨_,rfl,(⟨rfl,hall,hfull,hS64⟩ | ⟨k,S1,rfl,hg,hS64⟩)⟩
   ·refine⟨_,rfl, ?_⟩
    replace hS64:=hS64.jn rfl rfl
    clear hS63
    refine Qb rfl rfl (Qu rfl rfl rfl (Qu rfl rfl rfl (Qe rfl rfl (Qe rfl rfl (Qf (ZM (XQ (WX (L':=[(7,_),(4,_),(8,_),(6,_),(5,_),(3,_),(2,_)]) (N6 rfl rfl rfl rfl rfl rfl rfl) (Zc (Zc (XV (Qb rfl rfl (QX rfl rfl (Qf (ZM (XQ (H0 rfl (fun h65=> ?_) (fun h65=> ?_))))))))))))))))))
    ·refine Zc (XV (Qe rfl rfl ?_))
     (refine Xt hS64 rfl rfl Bt (by rfl) (i:=1) rfl (by decide) ?_)
     intro w66 hS67; dsimp only[List.set]at hS67
     clear hS64
     refine Qf (ZM (XQ (HP (UO ?_))))
     obtain⟨ba,bi,fp,sp,kp,ac,cc,at2,ct,hSo68⟩:=Zl (hS67.pick [0,1,2,3,4,5,6,7] rfl)
     refine ER (.inr rfl) Kw (Hv rfl (hSo68.sp [8,9,10,0] rfl)) ?_
     rintro v0 w9 hq9
     rw[if_neg (by decide)]at hq9
     replace hq9:=hq9.jn rfl rfl
     refine⟨_,Kk rfl (R4 rfl) (Pa rfl Gw (hq9.cell 0 rfl rfl)), ?_⟩
     exact⟨_,rfl,.inr (.inr ⟨hp2,rfl,hall,hfull,Xf (S:=S) (hq9.pick [3,4,5,13,7,8,9,10,14] rfl)⟩)⟩
    exact absurd h65 (by simp)
   refine⟨_,rfl, ?_⟩
   replace hS64:=hS64.jn rfl rfl
   clear hS63
   refine Qb rfl rfl (Qu rfl rfl rfl (Qu rfl rfl rfl (Qe rfl rfl (Qe rfl rfl (Qf (ZM (XQ (WX (L':=[(7,_),(4,_),(8,_),(6,_),(5,_),(3,_),(2,_)]) (N6 rfl rfl rfl rfl rfl rfl rfl) (Zc (Zc (XV (Qb rfl rfl (QX rfl rfl (Qf (ZM (XQ (H0 rfl (fun h69=> ?_) (fun h69=> ?_))))))))))))))))))
   ·exact absurd h69 (by simp)
   refine Vr (XQ (Zc ?_))
   obtain⟨ba,bi,fp,sp,kp,ac,cc,at2,ct,hSo70⟩:=Zl (hS64.pick [0,1,2,3,4,5,6,7] rfl)
   refine XV (Qp rfl Xu (hSo70.cell 10 rfl rfl) rfl (Qk rfl rfl (Qg rfl WP rfl (Qp rfl YK (hSo70.cell 0 rfl rfl) rfl (Qb rfl rfl (Qb rfl rfl ?_))))))
   have hkl:k<S1.fr.length:=(XX hg.fr).1
   have hfs:V9 (P1 S1 k).fr (k:Int) x.pg=S1.fr.set k (some x.pg):=VE hkl
   refine qac Gk rfl (U0 (hSo70.sp [4] rfl) (k:Int) x.pg (hI.ent hid).2.2.2.2.1) rfl ?_
   rintro _ w71 ⟨_,rfl,hS71⟩
   replace hS71:=hS71.jn rfl rfl
   clear hSo70
   rw[hfs]at hS71
   refine Qf (ZM (XQ (WX (L':=[(4,_),(6,_),(5,_),(3,_),(2,_)]) (VY rfl rfl rfl rfl rfl) (Zc ?_))))
   have hS72:=hS71.drew
   refine Ka Wu (U6 (sp:=[15,17,18,20]) [0,1,2,3,4,5,6,7,8,9,10,11,12,13,14,15,16,17,18,19,20] (by kernel_rfl) ?_)
   refine QH rfl rfl rfl (Qn rfl Xu (hS72.cell 10 rfl rfl)) (Xr rfl rfl rfl (QZ rfl rfl rfl XS (QH rfl rfl rfl (Qn rfl Zq (hS72.cell 1 rfl rfl)) (QH rfl rfl rfl (Qn rfl QS (hS72.cell 11 rfl rfl)) (QH rfl rfl rfl (Qn rfl Xu (hS72.cell 10 rfl rfl)) (Xr rfl rfl rfl (QZ rfl rfl rfl HE (QH rfl rfl rfl (Qn rfl Ju (hS72.cell 1 rfl rfl)) (QJ rfl rfl rfl (QZ rfl rfl rfl JB (QH rfl rfl rfl (Qn rfl QS (hS72.cell 12 rfl rfl)) (QJ rfl rfl rfl (Xa rfl rfl rfl (fun _=>(Wv rfl Jc HZ XO rfl)) ?_)))))))))))))
   refine QH rfl rfl rfl (Qn rfl QS (hS72.cell 11 rfl rfl)) (Xp rfl rfl rfl rfl rfl rfl (Wa (k:=id) 2 hS72 keysInt Tryz.underlying108 rfl rfl rfl XO rfl ?_))
   intro u73 c73 w73 hS73; dsimp only[List.set]at hS73
   clear hS72
   refine XB (.cons (.inl ⟨rfl,(Qn rfl QS (hS73.cell 11 rfl rfl))⟩) (.cons (.inl ⟨rfl,(Qn rfl QS (hS73.cell 12 rfl rfl))⟩) (Xx (by kernel_rfl)))) ?_
   refine Wm rfl rfl rfl rfl (Xp rfl rfl rfl rfl rfl rfl ?_)
   have hsv74:Value.agg #[intV x.refs,intV 1,intV (k:Nat),strV []]=FK ⟨x.refs,1,(k:Nat),x.pg⟩:=rfl
   refine Z2 (v:=Value.agg #[intV x.refs,intV 1,intV (k:Nat),strV []]) 2 hS73 keysInt rfl rfl rfl rfl ?_
   intro w74 hS74a; dsimp only[List.set]at hS74a; have hS74:=hS74a; rw[hsv74,KI]at hS74
   clear hS73
   refine Z3 (.cons (.inl ⟨rfl,(Qn rfl QS (hS74.cell 11 rfl rfl))⟩) (Xx (by kernel_rfl))) ?_
   refine Xp rfl rfl rfl rfl rfl rfl (Wa (k:=(k:Int)) 3 hS74 keysInt Tryz.underlying109 rfl rfl rfl HJ rfl ?_)
   intro u75 c75 w75 hS75; dsimp only[List.set]at hS75
   clear hS74
   refine XB (.cons (.inl ⟨rfl,(Qn rfl QS (hS75.cell 11 rfl rfl))⟩) (Xx (by kernel_rfl))) ?_
   refine Wm rfl rfl rfl rfl (Xp rfl rfl rfl rfl rfl rfl (Z2 (v:=intV id) 3 hS75 keysInt rfl rfl rfl rfl ?_))
   intro w76 hS76a; dsimp only[List.set]at hS76a; have hS76:=hS76a; rw[RN]at hS76
   clear hS75
   refine Z3 (Xx (by kernel_rfl)) ?_
   refine VC.nil (ZM (XQ (WX (L':=[(4,_),(5,_)]) (Du rfl rfl) (Zc (XV (Qb rfl rfl (Qe rfl rfl ?_)))))))
   (refine Xt hS76 rfl rfl Bt (by rfl) (i:=8) rfl (by decide) ?_)
   intro w77 hS78; dsimp only[List.set]at hS78
   clear hS76
   refine Qf (ZM (XQ (HP (ER (.inr rfl) Kw (Hv rfl (hS78.sp [8,9,10,1] rfl)) ?_))))
   rintro v0 w9 hq9
   rw[if_pos rfl]at hq9
   replace hq9:=hq9.jn rfl rfl
   refine⟨_,Kk rfl (R4 rfl) (Pa rfl Gw (hq9.cell 0 rfl rfl)), ?_⟩
   exact⟨_,rfl,.inr (.inl ⟨k,_,hp1,rfl,Gq hI hid hp1 (SL:={S with cache:=S.cache.filter (fun n=> !decide (n=id))}) ⟨rfl,rfl,rfl,rfl,rfl,rfl⟩ hg,Xf (S:=onF S1 id k x.refs x.pg S1.next) (hq9.pick [3,5,6,7,4,8,9,10,14] rfl)⟩)⟩
  have hp3:x.place=3:= by omega
  have hS79:=hS56.drew
  refine QO [0,1,2,3,4,5,6] [6] Wu (by kernel_rfl) ?_
  refine QH rfl rfl rfl (Qn rfl Xu (hS79.cell 12 rfl rfl)) (Xr rfl rfl rfl (QZ rfl rfl rfl YX (QH rfl rfl rfl (Qn rfl VV (hS79.cell 0 rfl rfl)) (QZ rfl rfl rfl Y1 (QH rfl rfl rfl (Qn rfl QS (hS79.cell 9 rfl rfl)) (Xp rfl rfl rfl rfl rfl rfl (qac Ni rfl (GD (hS79.sp [5] rfl) x.at_) rfl ?_)))))))
  rintro _ w80 ⟨rfl,hS80⟩
  replace hS80:=hS80.jn rfl rfl
  clear hS79
  rw[(Vx hI (fun q=>q) hid hp3).2.2]at hS80
  refine XB (Xx (by kernel_rfl)) ?_
  refine VC.nil (Qc (Qi [2,3,4,5,6,7,9,8] rfl (Qd ?_)))
  have hS81:=Xf (S:={S with sl:=S.sl.set x.at_.toNat []}) (hS80.pick [1,2,3,4,5,0,6,7,10,8,12,11,9,13] rfl)
  refine Qa (Wd rfl rfl (Ru rfl (XQ (Zc (XV (Qp rfl Xu (hS81.cell 3 rfl rfl) rfl ?_))))))
  have hIL:=Mi hI hid hp3
  refine Ql Gl rfl (Vy (hS81.sp [0] rfl) (E:=one id) hIL hN) rfl ?_
  rintro e w82 ⟨_,rfl,(⟨rfl,hall,hfull,hS82⟩ | ⟨k,S1,rfl,hg,hS82⟩)⟩
  ·exact absurd hfull (by have hz:=D7.2 (List.mem_of_getElem? (List.getElem?_set_self (l:=S.sl) (i:=x.at_.toNat) (a:=([]:Bs)) (XX (hI.slt (fun q=>q) hid hp3).2).1)); dsimp only;omega)
  refine⟨_,rfl, ?_⟩
  replace hS82:=hS82.jn rfl rfl
  clear hS81
  refine Qb rfl rfl (Qu rfl rfl rfl (Qu rfl rfl rfl (Qe rfl rfl (Qe rfl rfl (Qf (ZM (XQ (WX (L':=[(7,_),(4,_),(8,_),(6,_),(5,_),(3,_),(2,_)]) (N6 rfl rfl rfl rfl rfl rfl rfl) (Zc (Zc (XV (Qb rfl rfl (QX rfl rfl (Qf (ZM (XQ (H0 rfl (fun h83=> ?_) (fun h83=> ?_))))))))))))))))))
  ·exact absurd h83 (by simp)
  refine Vr (XQ (Zc ?_))
  obtain⟨ba,bi,fp,sp,kp,ac,cc,at2,ct,hSo84⟩:=Zl (hS82.pick [0,1,2,3,4,5,6] rfl)
  refine XV (Qp rfl Xu (hSo84.cell 10 rfl rfl) rfl (Qk rfl rfl (Qg rfl WP rfl (Qp rfl YK (hSo84.cell 0 rfl rfl) rfl (Qb rfl rfl (Qb rfl rfl ?_))))))
  have hkl:k<S1.fr.length:=(XX hg.fr).1
  have hfs:V9 (P1 S1 k).fr (k:Int) x.pg=S1.fr.set k (some x.pg):=VE hkl
  refine qac Gk rfl (U0 (hSo84.sp [4] rfl) (k:Int) x.pg (hI.ent hid).2.2.2.2.1) rfl ?_
  rintro _ w85 ⟨_,rfl,hS85⟩
  replace hS85:=hS85.jn rfl rfl
  clear hSo84
  rw[hfs]at hS85
  refine Qf (ZM (XQ (WX (L':=[(4,_),(6,_),(5,_),(3,_),(2,_)]) (VY rfl rfl rfl rfl rfl) (Zc ?_))))
  have hS86:=hS85.drew
  refine Ka Wu (U6 (sp:=[15,17,18,20]) [0,1,2,3,4,5,6,7,8,9,10,11,12,13,14,15,16,17,18,19,20] (by kernel_rfl) ?_)
  refine QH rfl rfl rfl (Qn rfl Xu (hS86.cell 10 rfl rfl)) (Xr rfl rfl rfl (QZ rfl rfl rfl XS (QH rfl rfl rfl (Qn rfl Zq (hS86.cell 1 rfl rfl)) (QH rfl rfl rfl (Qn rfl QS (hS86.cell 11 rfl rfl)) (QH rfl rfl rfl (Qn rfl Xu (hS86.cell 10 rfl rfl)) (Xr rfl rfl rfl (QZ rfl rfl rfl HE (QH rfl rfl rfl (Qn rfl Ju (hS86.cell 1 rfl rfl)) (QJ rfl rfl rfl (QZ rfl rfl rfl JB (QH rfl rfl rfl (Qn rfl QS (hS86.cell 12 rfl rfl)) (QJ rfl rfl rfl (Xa rfl rfl rfl (fun _=>(Wv rfl Jc HZ XO rfl)) ?_)))))))))))))
  refine QH rfl rfl rfl (Qn rfl QS (hS86.cell 11 rfl rfl)) (Xp rfl rfl rfl rfl rfl rfl (Wa (k:=id) 2 hS86 keysInt Tryz.underlying108 rfl rfl rfl XO rfl ?_))
  intro u87 c87 w87 hS87; dsimp only[List.set]at hS87
  clear hS86
  refine XB (.cons (.inl ⟨rfl,(Qn rfl QS (hS87.cell 11 rfl rfl))⟩) (.cons (.inl ⟨rfl,(Qn rfl QS (hS87.cell 12 rfl rfl))⟩) (Xx (by kernel_rfl)))) ?_
  refine Wm rfl rfl rfl rfl (Xp rfl rfl rfl rfl rfl rfl ?_)
  have hsv88:Value.agg #[intV x.refs,intV 1,intV (k:Nat),strV []]=FK ⟨x.refs,1,(k:Nat),x.pg⟩:=rfl
  refine Z2 (v:=Value.agg #[intV x.refs,intV 1,intV (k:Nat),strV []]) 2 hS87 keysInt rfl rfl rfl rfl ?_
  intro w88 hS88a; dsimp only[List.set]at hS88a; have hS88:=hS88a; rw[hsv88,KI]at hS88
  clear hS87
  refine Z3 (.cons (.inl ⟨rfl,(Qn rfl QS (hS88.cell 11 rfl rfl))⟩) (Xx (by kernel_rfl))) ?_
  refine Xp rfl rfl rfl rfl rfl rfl (Wa (k:=(k:Int)) 3 hS88 keysInt Tryz.underlying109 rfl rfl rfl HJ rfl ?_)
  intro u89 c89 w89 hS89; dsimp only[List.set]at hS89
  clear hS88
  refine XB (.cons (.inl ⟨rfl,(Qn rfl QS (hS89.cell 11 rfl rfl))⟩) (Xx (by kernel_rfl))) ?_
  refine Wm rfl rfl rfl rfl (Xp rfl rfl rfl rfl rfl rfl (Z2 (v:=intV id) 3 hS89 keysInt rfl rfl rfl rfl ?_))
  intro w90 hS90a; dsimp only[List.set]at hS90a; have hS90:=hS90a; rw[RN]at hS90
  clear hS89
  refine Z3 (Xx (by kernel_rfl)) ?_
  refine VC.nil (ZM (XQ (WX (L':=[(4,_),(5,_)]) (Du rfl rfl) (Zc (XV (Qb rfl rfl (Qe rfl rfl ?_)))))))
  (refine Xt hS90 rfl rfl Bt (by rfl) (i:=8) rfl (by decide) ?_)
  intro w91 hS92; dsimp only[List.set]at hS92
  clear hS90
  refine Qf (ZM (XQ (HP (ER (.inr rfl) Kw (Hv rfl (hS92.sp [8,9,10,1] rfl)) ?_))))
  rintro v0 w9 hq9
  rw[if_pos rfl]at hq9
  replace hq9:=hq9.jn rfl rfl
  refine⟨_,Kk rfl (R4 rfl) (Pa rfl Gw (hq9.cell 0 rfl rfl)), ?_⟩
  exact⟨_,rfl,.inr (.inl ⟨k,_,hp1,rfl,Gq hI hid hp1 (SL:={S with sl:=S.sl.set x.at_.toNat []}) ⟨rfl,rfl,rfl,rfl,rfl,rfl⟩ hg,Xf (S:=onF S1 id k x.refs x.pg S1.next) (hq9.pick [3,5,6,7,4,8,9,10,13] rfl)⟩)⟩
end Go.Proofs.YtkcjfoaejijdoaaGreatDoor
