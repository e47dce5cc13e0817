/- sheets: Bring -/
import Derived.Test.YtkcjfoaejijdoaaGreatDoorSh12a
set_option linter.unusedVariables false
set_option maxRecDepth 100000
set_option maxHeartbeats 3200000
namespace Go.Proofs.YtkcjfoaejijdoaaGreatDoor
open Go.RowKit M
theorem B7 {w:World} {p:Nat} {S:SS} {ba bi fp sp kp:Nat} {ac at2:Option Addr} {cc ct:Nat} {F:Th} (hS:Sat w [Q3 p [.map (some ba),.map (some bi),.slice ac S.cache.length cc,ptrV fp 0,ptrV sp 0,ptrV kp 0,intV S.slots,intV S.budget,intV S.next,.slice at2 S.taken.length ct],Q5 QO ba (aG S.all),Q5 QO bi (gI S.inn),rowT inC (.slice ac S.cache.length cc) S.cache,VR fp S.fr,R9 sp S.sl,MG kp S.ck,rowT inC (.slice at2 S.taken.length ct) S.taken,F]) {E:Int→Prop} {N:Nat} (hI:ShI E N S) (id:Int) (hE: ¬E id):
    Calls Tryz.prog 34 #[ptrV p 0,intV id] w (Ret fun v w'=>v=strV (YB S id)∧Sat w' [Q3 p [.map (some ba),.map (some bi),.slice ac S.cache.length cc,ptrV fp 0,ptrV sp 0,ptrV kp 0,intV S.slots,intV S.budget,intV S.next,.slice at2 S.taken.length ct],Q5 QO ba (aG S.all),Q5 QO bi (gI S.inn),rowT inC (.slice ac S.cache.length cc) S.cache,VR fp S.fr,R9 sp S.sl,MG kp S.ck,rowT inC (.slice at2 S.taken.length ct) S.taken,F]):= by
 cases hid:S.all id with
 | none=>
  refine Qm Tryz.func34 U Tryz.ntmps34 U ?_
  refine Qd (Qa (Qe U U (Qf (Qc (Qd (Qa (Qb U U (Qj U U (Qg U XI U (Qn U Zn (hS.cell 0 U U) U (Qb U U (Wj (k:=id) 1 hS keysInt Tryz.underlying108 U U U XJ (u:=(.agg #[intV 0,intV 0,intV 0,strV []])) (g:=false) (Hg hid) (YM hid) U (Qb U U (Qq U U U (Qq U U U (QX hS XJ U U ?_))))))))))))))))
  intro b1 w1 hS1
  (refine QK hS1 U U JX U (by rfl) (i:=0) U (by decide) ?_)
  intro w2 hS3; dsimp only[List.set]at hS3
  clear hS1
  refine Qe U U (Qf (Qc (Qh [1,0,4,5,6] U (Qd (Qv (Qd (Qa (Qb U U (Xd U U U (Qe U U (Qf (Qc (Qs U (fun h4=> ?_) (fun h4=> ?_))))))))))))))
  ·refine Qd (Qa (Qw OE U (N0 (hS3.sp [] U) zer (by decide)) U ?_))
   rintro _ w5 ⟨rfl,hS5⟩
   replace hS5:=hS5.jn U U
   clear hS3
   refine Qe U U (Qf (Qc (Qu (Qz (Qp (QR (.inr U) U U ?_))))))
   exact⟨_,rfl, by unfold YB; rw[hid]; dsimp only; rw[if_pos (by omega)],hS5.pick [1,2,3,4,5,6,7,8,9] U⟩
  refine Qd (Qa (Qb U U (QQ U U (Qe U U (Qf (Qc (Qh [0,4,5,24] U (QN U (fun h6=> ?_) (fun h6=> ?_)))))))))
  ·refine Qd (Qa (Qe U U (Qf (Qc (Qu (Qz (Qp (QR (.inr U) U U ?_))))))))
   exact⟨_,rfl, by unfold YB; rw[hid]; dsimp only; rw[if_neg (by omega)],hS3.pick [1,2,3,4,5,6,7,8,9] U⟩
  exact absurd h6 (by simp)
 | some x=>
  obtain⟨hid1,_,hr1,hr2,_,hplc⟩:=hI.ent hid
  refine Qm Tryz.func34 U Tryz.ntmps34 U ?_
  refine Qd (Qa (Qe U U (Qf (Qc (Qd (Qa (Qb U U (Qj U U (Qg U XI U (Qn U Zn (hS.cell 0 U U) U (Qb U U (Wj (k:=id) 1 hS keysInt Tryz.underlying108 U U U XJ (u:=(.agg #[intV x.refs,intV x.place,intV x.at_,strV (Kw x)])) (g:=true) (Jn hid) (YL hid) U (Qb U U (Qq U U U (Qq U U U (QX hS XJ U U ?_))))))))))))))))
  intro b1 w1 hS1
  (refine QK hS1 U U JX U (by rfl) (i:=0) U (by decide) ?_)
  intro w2 hS3; dsimp only[List.set]at hS3
  clear hS1
  refine Qe U U (Qf (Qc (Qh [1,0,4,5,6] U (Qd (Qv (Qd (Qa (Qb U U (Xd U U U (Qe U U (Qf (Qc (Qs U (fun h4=> ?_) (fun h4=> ?_))))))))))))))
  ·exact absurd h4 (by omega)
  refine Qd (Qa (Qb U U (QQ U U (Qe U U (Qf (Qc (Qh [0,4,5,24] U (QN U (fun h5=> ?_) (fun h5=> ?_)))))))))
  ·exact absurd h5 (by simp)
  refine Qd (Qa (Qg U YG U (Qn U QL (hS3.cell 0 U U) U (Xd U U U (Qe U U (Qf (Qc (Qs U (fun h6=> ?_) (fun h6=> ?_)))))))))
  ·have hp1:x.place=1:=h6
   refine Qd ?_
   have hS7:=hS3.drew
   refine QF [0,1,2,3,4,5,6,7] [6] We (by kernel_rfl) ?_
   refine QG U U U (Xh U U U (QV U U U Wr (Q4 U U U (Qr U JF (hS7.cell 1 U U)) (QV U U U Yo (Q4 U U U (Qr U QL (hS7.cell 0 U U)) (Xn U U U U U U ?_))))))
   refine Qw PD U (Gd (hS7.sp [5] U) x.at_) U ?_
   rintro _ w8 ⟨rfl,hS8⟩
   replace hS8:=hS8.jn U U
   clear hS7
   rw[hI.frc hE hid hp1]
   dsimp only[Option.getD_some]
   refine XQ (X1 (by kernel_rfl)) ?_
   refine Za U U U (VC.nil (Qc (Qh [0,5,4] U (Qu (Qz (Qp (QR (.inr U) U U ?_)))))))
   exact⟨_,rfl, by unfold YB; rw[hid],hS8.pick [2,3,4,5,0,6,7,8,9] U⟩
  refine Qd (Qa (Qg U YG U (Qn U QL (hS3.cell 0 U U) U (Xd U U U (Qe U U (Qf (Qc (Qh [0,4,5,38] U (Qs U (fun h9=> ?_) (fun h9=> ?_))))))))))
  ·have hp2:x.place=2:=h9
   refine Qd (Qa (Qg U De U (Qn U WC (hS3.cell 0 U U) U ?_)))
   obtain⟨fy,hfy⟩:=Option.ne_none_iff_exists'.1 (hI.pck hE hid hp2).2
   have hfme:Kw x=fy:= by unfold Kw fm; rw[if_pos hp2,hfy];rfl
   refine Qw PC U (RI (hS3.sp [] U) (hI.ent hid).2.2.2.2.1 (by rw[hfme]; exact hfy)) U ?_
   rintro _ w10 ⟨rfl,hS10⟩
   replace hS10:=hS10.jn U U
   clear hS3
   refine Qb U U (Qq U U U (Qq U U U (Qe U U (Qe U U (Qf (Qc (Qh [0,4,5,7] U (Qd (Qa (Qb U U (Qe U U (Qf (Qc (Qu (Qz (Qp (QR (.inr U) U U ?_)))))))))))))))))
   exact⟨_,rfl, by unfold YB; rw[hid],hS10.pick [1,2,3,4,5,6,7,8,9] U⟩
  refine Qt (Qk (Qc (Qd ?_)))
  have hp3:x.place=3:= by omega
  have hS11:=hS3.drew
  refine QF [0,1,2,3,4,5,6,7,8,9,10,11] [6] We (by kernel_rfl) ?_
  refine QG U U U (Xh U U U (QV U U U Yp (Q4 U U U (Qr U H2 (hS11.cell 1 U U)) (QV U U U Yo (Q4 U U U (Qr U QL (hS11.cell 0 U U)) (Xn U U U U U U ?_))))))
  refine Qw OD U (Cm (hS11.sp [6] U) x.at_) U ?_
  rintro _ w12 ⟨eg,rfl,hS12⟩
  replace hS12:=hS12.jn U U
  clear hS11
  rw[(UI hI hE hid hp3).2.1]
  refine XQ (X1 (by kernel_rfl)) ?_
  refine QG U U U (Wc U U U U (Wc U U U U (Za U U U (Za U U U (VC.nil (Qc (Qh [4,9] U (Qd (Qa (Qb U U (Qe U U (Qf (Qc (Qu (QR (.inr U) U U ?_)))))))))))))))
  exact⟨_,rfl, by unfold YB; rw[hid],hS12.pick [2,3,4,5,6,0,7,8,9] U⟩
theorem Pa {w:World} {p:Nat} {S:SS} {F:Th} (hS:Sat w [Ye p S,F]) {N:Nat} (hI:ShI Vz N S) (hN:N≤80000000000) (id:Int):
    Calls Tryz.prog 107 #[ptrV p 0,intV id] w (Ret fun v w'=>(match S.all id with | none=>v= .tuple #[intV 0,intV 4]∧Sat w' [Ye p S,F] | some x=>(x.place=1∧v= .tuple #[intV x.at_,intV 0]∧Sat w' [Ye p S,F])∨(∃k S',x.place≠1∧v= .tuple #[intV (k:Nat),intV 0]∧BrS N S S' id k x∧Sat w' [Ye p S',F])∨(x.place=2∧v= .tuple #[intV 0,intV 6]∧(∀o∈S.fr,o≠none)∧Wo S.sl=S.sl.length∧Sat w' [Ye p S,F]))):= by
 obtain⟨ba,bi,fp,sp,kp,ac,cc,at2,ct,hS⟩:=XX hS
 cases hid:S.all id with
 | none=>
  dsimp only
  refine Rr Tryz.func107 U Tryz.ntmps107 U ?_
  refine Qd (Qa (Zd hS U U U ?_))
  intro sb w1 hS1
  refine Zd hS1 U U U ?_
  intro db w2 hS2
  clear hS1
  refine Qe U U (QX hS2 zr_28 U U ?_)
  intro eb w3 hS3
  clear hS2
  refine Qf (Qc (Qd ?_))
  have hS4:=hS3.drew
  refine QF [0,1,2,3,4,5,6,7,8,9,10,11] [9,10] We (by kernel_rfl) ?_
  refine Q4 U U U (Qr U Xk (hS4.cell 2 U U)) (Xh U U U (QV U U U XI (Q4 U U U (Qr U Zn (hS4.cell 3 U U)) (Q4 U U U (Qr U QL (hS4.cell 1 U U)) (Q4 U U U (W7 (k:=id) 4 hS4 keysInt Tryz.underlying108 U U U XJ (u:=(.agg #[intV 0,intV 0,intV 0,strV []])) (g:=false) (Hg hid) (YM hid)) (QG U U U (Wc U U U U (Wc U U U U (Xn U U U U U U ?_)))))))))
  refine QX hS4 XJ U U ?_
  intro xb w5 hS5
  clear hS4
  refine XQ (.cons (.inl ⟨rfl,(W7 (k:=id) 5 hS5 keysInt Tryz.underlying108 U U U XJ (u:=(.agg #[intV 0,intV 0,intV 0,strV []])) (g:=false) (Hg hid) (YM hid))⟩) (.cons (.inl ⟨rfl,(Qr U QL (hS5.cell 2 U U))⟩) (.cons (.inl ⟨rfl,(Qr U Zn (hS5.cell 4 U U))⟩) (.cons (.inl ⟨rfl,(Qr U Xk (hS5.cell 3 U U))⟩) .nil)))) (Xn U U U U U U ?_)
  (refine QK hS5 U U JX U (by rfl) (i:=0) U (by decide) ?_)
  intro w6 hS7; dsimp only[List.set]at hS7
  clear hS5
  refine Z4 (X1 (by kernel_rfl)) ?_
  refine Za U U U (VC.nil (Qc (Qh [2,3,4,5,6,7] U (Qd (Qv (Qd (Qa (Qb U U (QQ U U (Qe U U (Qf (Qc (QN U (fun h8=> ?_) (fun h8=> ?_))))))))))))))
  ·refine Qd (Qa (Qe U U ?_))
   first | (refine Q6 hS7 U U ZK (by first | rfl | assumption | exact hS7.own_one 7 U | exact hS7.own_one 11 U) (i:=0) U (by first | decide | exact Xa U | (simp;done) | omega) ?_) | (refine Q6 hS7 U U ZK (by first | rfl | assumption | exact hS7.own_one 7 U | exact hS7.own_one 11 U) (i:=1) U (by first | decide | exact Xa U | (simp;done) | omega) ?_) | (refine Q6 hS7 U U ZK (by first | rfl | assumption | exact hS7.own_one 7 U | exact hS7.own_one 11 U) (i:=2) U (by first | decide | exact Xa U | (simp;done) | omega) ?_) | (refine Q6 hS7 U U ZK (by first | rfl | assumption | exact hS7.own_one 7 U | exact hS7.own_one 11 U) (i:=3) U (by first | decide | exact Xa U | (simp;done) | omega) ?_) | (refine Q6 hS7 U U ZK (by first | rfl | assumption | exact hS7.own_one 7 U | exact hS7.own_one 11 U) (i:=4) U (by first | decide | exact Xa U | (simp;done) | omega) ?_)
   intro w9 hS10; dsimp only[List.set]at hS10
   clear hS7
   exact Qf (Qc (Qu (Qz (Qp (finE2 (.inr U) U (KN U) (C1 U R5 (hS10.cell 1 U U)) (⟨_,rfl,rfl,QY (hS10.pick [4,5,6,7,8,9,10,11,12] U)⟩))))))
  exact absurd h8 (by simp)
 | some x=>
  obtain⟨hid1,_,hr1,hr2,_,hplc⟩:=hI.ent hid
  dsimp only
  refine Rr Tryz.func107 U Tryz.ntmps107 U ?_
  refine Qd (Qa (Zd hS U U U ?_))
  intro sb w1 hS1
  refine Zd hS1 U U U ?_
  intro db w2 hS2
  clear hS1
  refine Qe U U (QX hS2 zr_28 U U ?_)
  intro eb w3 hS3
  clear hS2
  refine Qf (Qc (Qd ?_))
  have hS4:=hS3.drew
  refine QF [0,1,2,3,4,5,6,7,8,9,10,11] [9,10] We (by kernel_rfl) ?_
  refine Q4 U U U (Qr U Xk (hS4.cell 2 U U)) (Xh U U U (QV U U U XI (Q4 U U U (Qr U Zn (hS4.cell 3 U U)) (Q4 U U U (Qr U QL (hS4.cell 1 U U)) (Q4 U U U (W7 (k:=id) 4 hS4 keysInt Tryz.underlying108 U U U XJ (u:=(.agg #[intV x.refs,intV x.place,intV x.at_,strV (Kw x)])) (g:=true) (Jn hid) (YL hid)) (QG U U U (Wc U U U U (Wc U U U U (Xn U U U U U U ?_)))))))))
  refine QX hS4 XJ U U ?_
  intro xb w5 hS5
  clear hS4
  refine XQ (.cons (.inl ⟨rfl,(W7 (k:=id) 5 hS5 keysInt Tryz.underlying108 U U U XJ (u:=(.agg #[intV x.refs,intV x.place,intV x.at_,strV (Kw x)])) (g:=true) (Jn hid) (YL hid))⟩) (.cons (.inl ⟨rfl,(Qr U QL (hS5.cell 2 U U))⟩) (.cons (.inl ⟨rfl,(Qr U Zn (hS5.cell 4 U U))⟩) (.cons (.inl ⟨rfl,(Qr U Xk (hS5.cell 3 U U))⟩) .nil)))) (Xn U U U U U U ?_)
  (refine QK hS5 U U JX U (by rfl) (i:=0) U (by decide) ?_)
  intro w6 hS7; dsimp only[List.set]at hS7
  clear hS5
  refine Z4 (X1 (by kernel_rfl)) ?_
  refine Za U U U (VC.nil (Qc (Qh [2,3,4,5,6,7] U (Qd (Qv (Qd (Qa (Qb U U (QQ U U (Qe U U (Qf (Qc (QN U (fun h8=> ?_) (fun h8=> ?_))))))))))))))
  ·exact absurd h8 (by simp)
  refine Qd (Qa (Qg U YG U (Qn U QL (hS7.cell 0 U U) U (Xd U U U (Qe U U (Qf (Qc (Qh [2,3,4,5,6,7,22] U (Qs U (fun h9=> ?_) (fun h9=> ?_))))))))))
  ·have hp1:x.place=1:=h9
   refine Qd (Qa (Qg U Yo U (Qn U QL (hS7.cell 0 U U) U (Qe U U ?_))))
   (refine Q6 hS7 U U ZK (by rfl) (i:=1) U (by decide) ?_)
   intro w10 hS11; dsimp only[List.set]at hS11
   clear hS7
   exact Qf (Qc (Qu (Qz (Qp (finE2 (.inr U) U (KN U) (C1 U R5 (hS11.cell 1 U U)) (⟨_,rfl,.inl ⟨hp1,rfl,QY (hS11.pick [4,5,6,7,8,9,10,11,12] U)⟩⟩))))))
  have hp1:x.place≠1:=h9
  refine Qt (Qk (Qc (Qd ?_)))
  have hS12:=hS7.drew
  refine Cg We (Nm 2 7 U ?_ ?_)
  ·refine G0 (sp:=[2,7,9]) [0,1,3,4,5,6,2,7,8,9] (by kernel_rfl) ?_
   refine Q4 U U U (Qr U Xk (hS12.cell 3 U U)) (Q4 U U U (Qr U QL (hS12.cell 2 U U)) (Q4 U U U (Qr U Xk (hS12.cell 3 U U)) (Xh U U U (QV U U U W6 (Q4 U U U (Qr U YK (hS12.cell 4 U U)) (Xn U U U U U U ?_))))))
   refine Qw Ya U (B7 (hS12.sp [4,5,6,7,8,9,10,11] U) hI id (fun q=>q)) U ?_
   rintro _ w13 ⟨rfl,hS13⟩
   replace hS13:=hS13.jn U U
   clear hS12
   rw[show YB S id=x.pg by unfold YB; rw[hid]]
   refine XQ (.cons (.inl ⟨rfl,(Qr U YK (hS13.cell 0 U U))⟩) (.cons (.inl ⟨rfl,(Qr U Xk (hS13.cell 11 U U))⟩) (X1 (by kernel_rfl)))) ?_
   refine Xn U U U U U U ?_
   refine QX hS13 zr_47 U U ?_
   intro ob w14 hS14
   clear hS13
   refine XQ (.cons (.inl ⟨rfl,(Qr U YK (hS14.cell 1 U U))⟩) (.cons (.inl ⟨rfl,(Qr U Xk (hS14.cell 12 U U))⟩) (X1 (by kernel_rfl)))) ?_
   refine Za U U U (Xn U U U U U U ?_)
   (refine Q6 hS14 U U KH (by rfl) (i:=0) U (by decide) ?_)
   intro w15 hS16; dsimp only[List.set]at hS16
   clear hS14
   refine Z4 (X1 (by kernel_rfl)) ?_
   refine VC.nil (Qc (Qh [2,3,4,5,6,7,9,8] U (Qd (Qd (Qa (Qg U YG U (Qn U QL (hS16.cell 9 U U) U (Xd U U U (Qf (Qc (Qs U (fun h17=> ?_) (fun h17=> ?_))))))))))))
   ·have hp2:x.place=2:=h17
    have hS18:=hS16.drew
    refine QF [0,1,2,3,4,6,5,7,8,9,10] [5,7,10] We (by kernel_rfl) ?_
    refine Q4 U U U (Qr U Xk (hS18.cell 12 U U)) (Q4 U U U (Qr U Xk (hS18.cell 12 U U)) (Xh U U U (QV U U U W6 (Q4 U U U (Qr U YK (hS18.cell 1 U U)) (X8 U U U (fun _=>(Gx U)) ?_)))))
    refine Xn U U U U U U ?_
    refine Qw TE U (VD (hS18.sp [] U) (Ent.starL (HE (C:=inC) (l:=S.cache) (by have :=hI.cln;omega)) 4 U) (by have :=hI.cln;omega)) U ?_
    rintro _ w19 hS19
    replace hS19:=hS19.jn U U
    clear hS18
    have h1n:=hS19.own_one 0 U
    refine XQ (.skip (by kernel_rfl) (.skip (by kernel_rfl) (.cons (.inl ⟨rfl,(Qr U Xk (hS19.cell 13 U U))⟩) .nil))) ?_
    refine Xn U U U U U U ?_
    refine Qw TN U (T7 (eqB _ id) (hS19.sp [0,12] U) (by have :=hI.cln;omega)) U ?_
    rintro _ w20 hS20
    replace hS20:=hS20.jn U U
    clear hS19
    have h1d:=hS20.own_one 0 U
    refine XQ (.skip (by kernel_rfl) (.skip (by kernel_rfl) (.cons (.inl ⟨rfl,(Qr U Xk (hS20.cell 13 U U))⟩) .nil))) ?_
    refine Xh U U U (QV U U U W6 (Xn U U U U U U ?_))
    (refine Q6 hS20 U U KH (by assumption) (i:=3) U (Xa U) ?_)
    intro w21 hS22; dsimp only[List.set]at hS22
    clear hS20
    refine Z4 (X1 (by kernel_rfl)) ?_
    refine VC.nil (Qc (Qh [2,3,4,5,6,7,9,8] U (Qd ?_)))
    have hS23:=QY (S:={S with cache:=S.cache.filter (fun n=> !decide (n=id))}) (hS22.pick [3,4,5,0,7,8,9,10,12,2,13,1,11,6,14] U)
    refine Qa (Zx U U (KF U (XK (XV (XP (Qn U Xk (hS23.cell 3 U U) U ?_))))))
    have hIL:=RW hI hid hp2
    refine XU Ru U (UJ (hS23.sp [0] U) (E:=one id) hIL hN) U ?_
    rintro e w24 ⟨_,rfl,(⟨rfl,hall,hfull,hS24⟩ | ⟨k,S1,rfl,hg,hS24⟩)⟩
    ·refine⟨_,rfl, ?_⟩
     replace hS24:=hS24.jn U U
     clear hS23
     refine Qb U U (Qq U U U (Qq U U U (Qe U U (Qe U U (Qf (ZI (XK (WR (L':=[(7,_),(4,_),(8,_),(6,_),(5,_),(3,_),(2,_)]) (D8 U U U U U U U) (XV (XV (XP (Qb U U (QQ U U (Qf (ZI (XK (Hq U (fun h25=> ?_) (fun h25=> ?_))))))))))))))))))
     ·refine XV (XP (Qe U U ?_))
      (refine Q6 hS24 U U ZK (by rfl) (i:=1) U (by decide) ?_)
      intro w26 hS27; dsimp only[List.set]at hS27
      clear hS24
      refine Qf (ZI (XK (H4 (Uu ?_))))
      obtain⟨ba,bi,fp,sp,kp,ac,cc,at2,ct,hSo28⟩:=XX (hS27.pick [0,1,2,3,4,5,6,7] rfl)
      refine Lt (.inr U) VG (Ho U (hSo28.sp [8,9,10,0] U)) ?_
      rintro v0 w9 hq9
      rw[if_neg (by decide)]at hq9
      replace hq9:=hq9.jn U U
      refine⟨_,Vu U (KN U) (C1 U R5 (hq9.cell 0 U U)), ?_⟩
      exact⟨_,rfl,.inr (.inr ⟨hp2,rfl,hall,hfull,QY (S:=S) (hq9.pick [3,4,5,13,7,8,9,10,14] U)⟩)⟩
     exact absurd h25 (by simp)
    refine⟨_,rfl, ?_⟩
    replace hS24:=hS24.jn U U
    clear hS23
    refine Qb U U (Qq U U U (Qq U U U (Qe U U (Qe U U (Qf (ZI (XK (WR (L':=[(7,_),(4,_),(8,_),(6,_),(5,_),(3,_),(2,_)]) (D8 U U U U U U U) (XV (XV (XP (Qb U U (QQ U U (Qf (ZI (XK (Hq U (fun h29=> ?_) (fun h29=> ?_))))))))))))))))))
    ·exact absurd h29 (by simp)
    refine UE (XK (XV ?_))
    obtain⟨ba,bi,fp,sp,kp,ac,cc,at2,ct,hSo30⟩:=XX (hS24.pick [0,1,2,3,4,5,6,7] rfl)
    refine XP (Qn U Xk (hSo30.cell 10 U U) U (Qj U U (Qg U Wr U (Qn U JF (hSo30.cell 0 U U) U (Qb U U (Qb U U ?_))))))
    have hkl:k<S1.fr.length:=(XR hg.fr).1
    have hfs:UT (CP S1 k).fr (k:Int) x.pg=S1.fr.set k (some x.pg):=UY hkl
    refine Qw Rt U (Ud (hSo30.sp [4] U) (k:Int) x.pg (hI.ent hid).2.2.2.2.1) U ?_
    rintro _ w31 ⟨_,rfl,hS31⟩
    replace hS31:=hS31.jn U U
    clear hSo30
    rw[hfs]at hS31
    refine Qf (ZI (XK (WR (L':=[(4,_),(6,_),(5,_),(3,_),(2,_)]) (YU U U U U U) (XV ?_))))
    have hS32:=hS31.drew
    refine Vj We (G0 (sp:=[15,17,18,20]) [0,1,2,3,4,5,6,7,8,9,10,11,12,13,14,15,16,17,18,19,20] (by kernel_rfl) ?_)
    refine Q4 U U U (Qr U Xk (hS32.cell 10 U U)) (Xh U U U (QV U U U XI (Q4 U U U (Qr U Zn (hS32.cell 1 U U)) (Q4 U U U (Qr U QL (hS32.cell 11 U U)) (Q4 U U U (Qr U Xk (hS32.cell 10 U U)) (Xh U U U (QV U U U H0 (Q4 U U U (Qr U Jg (hS32.cell 1 U U)) (QG U U U (QV U U U Jw (Q4 U U U (Qr U QL (hS32.cell 12 U U)) (QG U U U (X8 U U U (fun _=>(Ww U WU HG XJ U)) ?_)))))))))))))
    refine Q4 U U U (Qr U QL (hS32.cell 11 U U)) (Xn U U U U U U ?_)
    refine ZT (k:=id) 2 hS32 keysInt Tryz.underlying108 U U U XJ U ?_
    intro u33 c33 w33 hS33; dsimp only[List.set]at hS33
    clear hS32
    refine XQ (.cons (.inl ⟨rfl,(Qr U QL (hS33.cell 11 U U))⟩) (.cons (.inl ⟨rfl,(Qr U QL (hS33.cell 12 U U))⟩) (X1 (by kernel_rfl)))) ?_
    refine Wc U U U U (Xn U U U U U U ?_)
    have hsv34:Value.agg #[intV x.refs,intV 1,intV (k:Nat),strV []]=PW ⟨x.refs,1,(k:Nat),x.pg⟩:=rfl
    refine Z3 (v:=Value.agg #[intV x.refs,intV 1,intV (k:Nat),strV []]) 2 hS33 keysInt U U U U ?_
    intro w34 hS34a; dsimp only[List.set]at hS34a; have hS34:=hS34a; rw[hsv34,Kd]at hS34
    clear hS33
    refine Z4 (.cons (.inl ⟨rfl,(Qr U QL (hS34.cell 11 U U))⟩) (X1 (by kernel_rfl))) ?_
    refine Xn U U U U U U ?_
    refine ZT (k:=(k:Int)) 3 hS34 keysInt Tryz.underlying109 U U U YN U ?_
    intro u35 c35 w35 hS35; dsimp only[List.set]at hS35
    clear hS34
    refine XQ (.cons (.inl ⟨rfl,(Qr U QL (hS35.cell 11 U U))⟩) (X1 (by kernel_rfl))) ?_
    refine Wc U U U U (Xn U U U U U U ?_)
    refine Z3 (v:=intV id) 3 hS35 keysInt U U U U ?_
    intro w36 hS36a; dsimp only[List.set]at hS36a; have hS36:=hS36a; rw[Rd]at hS36
    clear hS35
    refine Z4 (X1 (by kernel_rfl)) ?_
    refine VC.nil (ZI (XK (WR (L':=[(4,_),(5,_)]) (DT U U) (XV (XP (Qb U U (Qe U U ?_)))))))
    first | (refine Q6 hS36 U U ZK (by first | rfl | assumption | exact hS36.own_one 4 U | exact hS36.own_one 7 U | exact hS36.own_one 13 U) (i:=1) U (by first | decide | exact Xa U | (simp;done) | omega) ?_) | (refine Q6 hS36 U U ZK (by first | rfl | assumption | exact hS36.own_one 4 U | exact hS36.own_one 7 U | exact hS36.own_one 13 U) (i:=8) U (by first | decide | exact Xa U | (simp;done) | omega) ?_) | (refine Q6 hS36 U U ZK (by first | rfl | assumption | exact hS36.own_one 4 U | exact hS36.own_one 7 U | exact hS36.own_one 13 U) (i:=9) U (by first | decide | exact Xa U | (simp;done) | omega) ?_) | (refine Q6 hS36 U U ZK (by first | rfl | assumption | exact hS36.own_one 4 U | exact hS36.own_one 7 U | exact hS36.own_one 13 U) (i:=10) U (by first | decide | exact Xa U | (simp;done) | omega) ?_) | (refine Q6 hS36 U U ZK (by first | rfl | assumption | exact hS36.own_one 4 U | exact hS36.own_one 7 U | exact hS36.own_one 13 U) (i:=11) U (by first | decide | exact Xa U | (simp;done) | omega) ?_) | (refine Q6 hS36 U U ZK (by first | rfl | assumption | exact hS36.own_one 4 U | exact hS36.own_one 7 U | exact hS36.own_one 13 U) (i:=12) U (by first | decide | exact Xa U | (simp;done) | omega) ?_)
    intro w37 hS38; dsimp only[List.set]at hS38
    clear hS36
    refine Qf (ZI (XK (H4 (Lt (.inr U) VG (Ho U (hS38.sp [8,9,10,1] U)) ?_))))
    rintro v0 w9 hq9
    rw[if_pos U]at hq9
    replace hq9:=hq9.jn U U
    refine⟨_,Vu U (KN U) (C1 U R5 (hq9.cell 0 U U)), ?_⟩
    exact⟨_,rfl,.inr (.inl ⟨k,_,hp1,rfl,Ry hI hid hp1 (SL:={S with cache:=S.cache.filter (fun n=> !decide (n=id))}) ⟨rfl,rfl,rfl,rfl,rfl,rfl⟩ hg,QY (S:=onF S1 id k x.refs x.pg S1.next) (hq9.pick [3,5,6,7,4,8,9,10,14] U)⟩)⟩
   have hp3:x.place=3:= by omega
   have hS39:=hS16.drew
   refine QF [0,1,2,3,4,5,6] [6] We (by kernel_rfl) ?_
   refine Q4 U U U (Qr U Xk (hS39.cell 12 U U)) (Xh U U U (QV U U U Yp (Q4 U U U (Qr U H2 (hS39.cell 1 U U)) (QV U U U Yo (Q4 U U U (Qr U QL (hS39.cell 9 U U)) (Xn U U U U U U ?_))))))
   refine Qw TM U (RM (hS39.sp [6] U) x.at_) U ?_
   rintro _ w40 ⟨rfl,hS40⟩
   replace hS40:=hS40.jn U U
   clear hS39
   rw[(UI hI (fun q=>q) hid hp3).2.2]at hS40
   refine XQ (X1 (by kernel_rfl)) ?_
   refine VC.nil (Qc (Qh [2,3,4,5,6,7,9,8] U (Qd ?_)))
   have hS41:=QY (S:={S with sl:=S.sl.set x.at_.toNat []}) (hS40.pick [2,3,4,5,6,0,7,8,10,1,12,11,9,13] U)
   refine Qa (Zx U U (KF U (XK (XV (XP (Qn U Xk (hS41.cell 3 U U) U ?_))))))
   have hIL:=BR hI hid hp3
   refine XU Ru U (UJ (hS41.sp [0] U) (E:=one id) hIL hN) U ?_
   rintro e w42 ⟨_,rfl,(⟨rfl,hall,hfull,hS42⟩ | ⟨k,S1,rfl,hg,hS42⟩)⟩
   ·exact absurd hfull (by have hz:=Bu.2 (List.mem_of_getElem? (List.getElem?_set_self (l:=S.sl) (i:=x.at_.toNat) (a:=([]:Bs)) (XR (hI.slt (fun q=>q) hid hp3).2).1)); dsimp only;omega)
   refine⟨_,rfl, ?_⟩
   replace hS42:=hS42.jn U U
   clear hS41
   refine Qb U U (Qq U U U (Qq U U U (Qe U U (Qe U U (Qf (ZI (XK (WR (L':=[(7,_),(4,_),(8,_),(6,_),(5,_),(3,_),(2,_)]) (D8 U U U U U U U) (XV (XV (XP (Qb U U (QQ U U (Qf (ZI (XK (Hq U (fun h43=> ?_) (fun h43=> ?_))))))))))))))))))
   ·exact absurd h43 (by simp)
   refine UE (XK (XV ?_))
   obtain⟨ba,bi,fp,sp,kp,ac,cc,at2,ct,hSo44⟩:=XX (hS42.pick [0,1,2,3,4,5,6] rfl)
   refine XP (Qn U Xk (hSo44.cell 10 U U) U (Qj U U (Qg U Wr U (Qn U JF (hSo44.cell 0 U U) U (Qb U U (Qb U U ?_))))))
   have hkl:k<S1.fr.length:=(XR hg.fr).1
   have hfs:UT (CP S1 k).fr (k:Int) x.pg=S1.fr.set k (some x.pg):=UY hkl
   refine Qw Rt U (Ud (hSo44.sp [4] U) (k:Int) x.pg (hI.ent hid).2.2.2.2.1) U ?_
   rintro _ w45 ⟨_,rfl,hS45⟩
   replace hS45:=hS45.jn U U
   clear hSo44
   rw[hfs]at hS45
   refine Qf (ZI (XK (WR (L':=[(4,_),(6,_),(5,_),(3,_),(2,_)]) (YU U U U U U) (XV ?_))))
   have hS46:=hS45.drew
   refine Vj We (G0 (sp:=[15,17,18,20]) [0,1,2,3,4,5,6,7,8,9,10,11,12,13,14,15,16,17,18,19,20] (by kernel_rfl) ?_)
   refine Q4 U U U (Qr U Xk (hS46.cell 10 U U)) (Xh U U U (QV U U U XI (Q4 U U U (Qr U Zn (hS46.cell 1 U U)) (Q4 U U U (Qr U QL (hS46.cell 11 U U)) (Q4 U U U (Qr U Xk (hS46.cell 10 U U)) (Xh U U U (QV U U U H0 (Q4 U U U (Qr U Jg (hS46.cell 1 U U)) (QG U U U (QV U U U Jw (Q4 U U U (Qr U QL (hS46.cell 12 U U)) (QG U U U (X8 U U U (fun _=>(Ww U WU HG XJ U)) ?_)))))))))))))
   refine Q4 U U U (Qr U QL (hS46.cell 11 U U)) (Xn U U U U U U ?_)
   refine ZT (k:=id) 2 hS46 keysInt Tryz.underlying108 U U U XJ U ?_
   intro u47 c47 w47 hS47; dsimp only[List.set]at hS47
   clear hS46
   refine XQ (.cons (.inl ⟨rfl,(Qr U QL (hS47.cell 11 U U))⟩) (.cons (.inl ⟨rfl,(Qr U QL (hS47.cell 12 U U))⟩) (X1 (by kernel_rfl)))) ?_
   refine Wc U U U U (Xn U U U U U U ?_)
   have hsv48:Value.agg #[intV x.refs,intV 1,intV (k:Nat),strV []]=PW ⟨x.refs,1,(k:Nat),x.pg⟩:=rfl
   refine Z3 (v:=Value.agg #[intV x.refs,intV 1,intV (k:Nat),strV []]) 2 hS47 keysInt U U U U ?_
   intro w48 hS48a; dsimp only[List.set]at hS48a; have hS48:=hS48a; rw[hsv48,Kd]at hS48
   clear hS47
   refine Z4 (.cons (.inl ⟨rfl,(Qr U QL (hS48.cell 11 U U))⟩) (X1 (by kernel_rfl))) ?_
   refine Xn U U U U U U ?_
   refine ZT (k:=(k:Int)) 3 hS48 keysInt Tryz.underlying109 U U U YN U ?_
   intro u49 c49 w49 hS49; dsimp only[List.set]at hS49
   clear hS48
   refine XQ (.cons (.inl ⟨rfl,(Qr U QL (hS49.cell 11 U U))⟩) (X1 (by kernel_rfl))) ?_
   refine Wc U U U U (Xn U U U U U U ?_)
   refine Z3 (v:=intV id) 3 hS49 keysInt U U U U ?_
   intro w50 hS50a; dsimp only[List.set]at hS50a; have hS50:=hS50a; rw[Rd]at hS50
   clear hS49
   refine Z4 (X1 (by kernel_rfl)) ?_
   refine VC.nil (ZI (XK (WR (L':=[(4,_),(5,_)]) (DT U U) (XV (XP (Qb U U (Qe U U ?_)))))))
   first | (refine Q6 hS50 U U ZK (by first | rfl | assumption | exact hS50.own_one 4 U | exact hS50.own_one 7 U) (i:=1) U (by first | decide | exact Xa U | (simp;done) | omega) ?_) | (refine Q6 hS50 U U ZK (by first | rfl | assumption | exact hS50.own_one 4 U | exact hS50.own_one 7 U) (i:=8) U (by first | decide | exact Xa U | (simp;done) | omega) ?_) | (refine Q6 hS50 U U ZK (by first | rfl | assumption | exact hS50.own_one 4 U | exact hS50.own_one 7 U) (i:=9) U (by first | decide | exact Xa U | (simp;done) | omega) ?_) | (refine Q6 hS50 U U ZK (by first | rfl | assumption | exact hS50.own_one 4 U | exact hS50.own_one 7 U) (i:=10) U (by first | decide | exact Xa U | (simp;done) | omega) ?_) | (refine Q6 hS50 U U ZK (by first | rfl | assumption | exact hS50.own_one 4 U | exact hS50.own_one 7 U) (i:=11) U (by first | decide | exact Xa U | (simp;done) | omega) ?_) | (refine Q6 hS50 U U ZK (by first | rfl | assumption | exact hS50.own_one 4 U | exact hS50.own_one 7 U) (i:=12) U (by first | decide | exact Xa U | (simp;done) | omega) ?_)
   intro w51 hS52; dsimp only[List.set]at hS52
   clear hS50
   refine Qf (ZI (XK (H4 (Lt (.inr U) VG (Ho U (hS52.sp [8,9,10,1] U)) ?_))))
   rintro v0 w9 hq9
   rw[if_pos U]at hq9
   replace hq9:=hq9.jn U U
   refine⟨_,Vu U (KN U) (C1 U R5 (hq9.cell 0 U U)), ?_⟩
   exact⟨_,rfl,.inr (.inl ⟨k,_,hp1,rfl,Ry hI hid hp1 (SL:={S with sl:=S.sl.set x.at_.toNat []}) ⟨rfl,rfl,rfl,rfl,rfl,rfl⟩ hg,QY (S:=onF S1 id k x.refs x.pg S1.next) (hq9.pick [3,5,6,7,4,8,9,10,13] U)⟩)⟩
  refine G0 (sp:=[2,7,9]) [0,1,3,4,5,6,7,2,8,9] (by kernel_rfl) ?_
  refine Q4 U U U (Qr U Xk (hS12.cell 3 U U)) (Q4 U U U (Qr U QL (hS12.cell 2 U U)) (Q4 U U U (Qr U Xk (hS12.cell 3 U U)) (Xh U U U (QV U U U W6 (Q4 U U U (Qr U YK (hS12.cell 4 U U)) (Xn U U U U U U ?_))))))
  refine QX hS12 zr_47 U U ?_
  intro ob w53 hS53
  clear hS12
  refine XQ (.cons (.inl ⟨rfl,(Qr U YK (hS53.cell 5 U U))⟩) (.cons (.inl ⟨rfl,(Qr U Xk (hS53.cell 4 U U))⟩) (.cons (.inl ⟨rfl,(Qr U QL (hS53.cell 3 U U))⟩) (.cons (.inl ⟨rfl,(Qr U Xk (hS53.cell 4 U U))⟩) .nil)))) (Xn U U U U U U ?_)
  refine Qw Ya U (B7 (hS53.sp [5,6,7,8,9,10,11,12] U) hI id (fun q=>q)) U ?_
  rintro _ w54 ⟨rfl,hS54⟩
  replace hS54:=hS54.jn U U
  clear hS53
  rw[show YB S id=x.pg by unfold YB; rw[hid]]
  refine XQ (.cons (.inl ⟨rfl,(Qr U YK (hS54.cell 0 U U))⟩) (.cons (.inl ⟨rfl,(Qr U Xk (hS54.cell 12 U U))⟩) (X1 (by kernel_rfl)))) ?_
  refine Za U U U (Xn U U U U U U ?_)
  (refine Q6 hS54 U U KH (by rfl) (i:=8) U (by decide) ?_)
  intro w55 hS56; dsimp only[List.set]at hS56
  clear hS54
  refine Z4 (X1 (by kernel_rfl)) ?_
  refine VC.nil (Qc (Qh [2,3,4,5,6,7,9,8] U (Qd (Qd (Qa (Qg U YG U (Qn U QL (hS56.cell 9 U U) U (Xd U U U (Qf (Qc (Qs U (fun h57=> ?_) (fun h57=> ?_))))))))))))
  ·have hp2:x.place=2:=h57
   have hS58:=hS56.drew
   refine QF [0,1,2,3,4,6,5,7,8,9,10] [5,7,10] We (by kernel_rfl) ?_
   refine Q4 U U U (Qr U Xk (hS58.cell 12 U U)) (Q4 U U U (Qr U Xk (hS58.cell 12 U U)) (Xh U U U (QV U U U W6 (Q4 U U U (Qr U YK (hS58.cell 0 U U)) (X8 U U U (fun _=>(Gx U)) ?_)))))
   refine Xn U U U U U U ?_
   refine Qw TE U (VD (hS58.sp [] U) (Ent.starL (HE (C:=inC) (l:=S.cache) (by have :=hI.cln;omega)) 3 U) (by have :=hI.cln;omega)) U ?_
   rintro _ w59 hS59
   replace hS59:=hS59.jn U U
   clear hS58
   have h1n:=hS59.own_one 0 U
   refine XQ (.skip (by kernel_rfl) (.skip (by kernel_rfl) (.cons (.inl ⟨rfl,(Qr U Xk (hS59.cell 13 U U))⟩) .nil))) ?_
   refine Xn U U U U U U ?_
   refine Qw TN U (T7 (eqB _ id) (hS59.sp [0,12] U) (by have :=hI.cln;omega)) U ?_
   rintro _ w60 hS60
   replace hS60:=hS60.jn U U
   clear hS59
   have h1d:=hS60.own_one 0 U
   refine XQ (.skip (by kernel_rfl) (.skip (by kernel_rfl) (.cons (.inl ⟨rfl,(Qr U Xk (hS60.cell 13 U U))⟩) .nil))) ?_
   refine Xh U U U (QV U U U W6 (Xn U U U U U U ?_))
   (refine Q6 hS60 U U KH (by assumption) (i:=2) U (Xa U) ?_)
   intro w61 hS62; dsimp only[List.set]at hS62
   clear hS60
   refine Z4 (X1 (by kernel_rfl)) ?_
   refine VC.nil (Qc (Qh [2,3,4,5,6,7,9,8] U (Qd ?_)))
   have hS63:=QY (S:={S with cache:=S.cache.filter (fun n=> !decide (n=id))}) (hS62.pick [2,3,4,0,6,7,8,9,12,10,13,1,11,5,14] U)
   refine Qa (Zx U U (KF U (XK (XV (XP (Qn U Xk (hS63.cell 3 U U) U ?_))))))
   have hIL:=RW hI hid hp2
   refine XU Ru U (UJ (hS63.sp [0] U) (E:=one id) hIL hN) U ?_
   rintro e w64 ⟨_,rfl,(⟨rfl,hall,hfull,hS64⟩ | ⟨k,S1,rfl,hg,hS64⟩)⟩
   ·refine⟨_,rfl, ?_⟩
    replace hS64:=hS64.jn U U
    clear hS63
    refine Qb U U (Qq U U U (Qq U U U (Qe U U (Qe U U (Qf (ZI (XK (WR (L':=[(7,_),(4,_),(8,_),(6,_),(5,_),(3,_),(2,_)]) (D8 U U U U U U U) (XV (XV (XP (Qb U U (QQ U U (Qf (ZI (XK (Hq U (fun h65=> ?_) (fun h65=> ?_))))))))))))))))))
    ·refine XV (XP (Qe U U ?_))
     (refine Q6 hS64 U U ZK (by rfl) (i:=1) U (by decide) ?_)
     intro w66 hS67; dsimp only[List.set]at hS67
     clear hS64
     refine Qf (ZI (XK (H4 (Uu ?_))))
     obtain⟨ba,bi,fp,sp,kp,ac,cc,at2,ct,hSo68⟩:=XX (hS67.pick [0,1,2,3,4,5,6,7] rfl)
     refine Lt (.inr U) VG (Ho U (hSo68.sp [8,9,10,0] U)) ?_
     rintro v0 w9 hq9
     rw[if_neg (by decide)]at hq9
     replace hq9:=hq9.jn U U
     refine⟨_,Vu U (KN U) (C1 U R5 (hq9.cell 0 U U)), ?_⟩
     exact⟨_,rfl,.inr (.inr ⟨hp2,rfl,hall,hfull,QY (S:=S) (hq9.pick [3,4,5,13,7,8,9,10,14] U)⟩)⟩
    exact absurd h65 (by simp)
   refine⟨_,rfl, ?_⟩
   replace hS64:=hS64.jn U U
   clear hS63
   refine Qb U U (Qq U U U (Qq U U U (Qe U U (Qe U U (Qf (ZI (XK (WR (L':=[(7,_),(4,_),(8,_),(6,_),(5,_),(3,_),(2,_)]) (D8 U U U U U U U) (XV (XV (XP (Qb U U (QQ U U (Qf (ZI (XK (Hq U (fun h69=> ?_) (fun h69=> ?_))))))))))))))))))
   ·exact absurd h69 (by simp)
   refine UE (XK (XV ?_))
   obtain⟨ba,bi,fp,sp,kp,ac,cc,at2,ct,hSo70⟩:=XX (hS64.pick [0,1,2,3,4,5,6,7] rfl)
   refine XP (Qn U Xk (hSo70.cell 10 U U) U (Qj U U (Qg U Wr U (Qn U JF (hSo70.cell 0 U U) U (Qb U U (Qb U U ?_))))))
   have hkl:k<S1.fr.length:=(XR hg.fr).1
   have hfs:UT (CP S1 k).fr (k:Int) x.pg=S1.fr.set k (some x.pg):=UY hkl
   refine Qw Rt U (Ud (hSo70.sp [4] U) (k:Int) x.pg (hI.ent hid).2.2.2.2.1) U ?_
   rintro _ w71 ⟨_,rfl,hS71⟩
   replace hS71:=hS71.jn U U
   clear hSo70
   rw[hfs]at hS71
   refine Qf (ZI (XK (WR (L':=[(4,_),(6,_),(5,_),(3,_),(2,_)]) (YU U U U U U) (XV ?_))))
   have hS72:=hS71.drew
   refine Vj We (G0 (sp:=[15,17,18,20]) [0,1,2,3,4,5,6,7,8,9,10,11,12,13,14,15,16,17,18,19,20] (by kernel_rfl) ?_)
   refine Q4 U U U (Qr U Xk (hS72.cell 10 U U)) (Xh U U U (QV U U U XI (Q4 U U U (Qr U Zn (hS72.cell 1 U U)) (Q4 U U U (Qr U QL (hS72.cell 11 U U)) (Q4 U U U (Qr U Xk (hS72.cell 10 U U)) (Xh U U U (QV U U U H0 (Q4 U U U (Qr U Jg (hS72.cell 1 U U)) (QG U U U (QV U U U Jw (Q4 U U U (Qr U QL (hS72.cell 12 U U)) (QG U U U (X8 U U U (fun _=>(Ww U WU HG XJ U)) ?_)))))))))))))
   refine Q4 U U U (Qr U QL (hS72.cell 11 U U)) (Xn U U U U U U ?_)
   refine ZT (k:=id) 2 hS72 keysInt Tryz.underlying108 U U U XJ U ?_
   intro u73 c73 w73 hS73; dsimp only[List.set]at hS73
   clear hS72
   refine XQ (.cons (.inl ⟨rfl,(Qr U QL (hS73.cell 11 U U))⟩) (.cons (.inl ⟨rfl,(Qr U QL (hS73.cell 12 U U))⟩) (X1 (by kernel_rfl)))) ?_
   refine Wc U U U U (Xn U U U U U U ?_)
   have hsv74:Value.agg #[intV x.refs,intV 1,intV (k:Nat),strV []]=PW ⟨x.refs,1,(k:Nat),x.pg⟩:=rfl
   refine Z3 (v:=Value.agg #[intV x.refs,intV 1,intV (k:Nat),strV []]) 2 hS73 keysInt U U U U ?_
   intro w74 hS74a; dsimp only[List.set]at hS74a; have hS74:=hS74a; rw[hsv74,Kd]at hS74
   clear hS73
   refine Z4 (.cons (.inl ⟨rfl,(Qr U QL (hS74.cell 11 U U))⟩) (X1 (by kernel_rfl))) ?_
   refine Xn U U U U U U ?_
   refine ZT (k:=(k:Int)) 3 hS74 keysInt Tryz.underlying109 U U U YN U ?_
   intro u75 c75 w75 hS75; dsimp only[List.set]at hS75
   clear hS74
   refine XQ (.cons (.inl ⟨rfl,(Qr U QL (hS75.cell 11 U U))⟩) (X1 (by kernel_rfl))) ?_
   refine Wc U U U U (Xn U U U U U U ?_)
   refine Z3 (v:=intV id) 3 hS75 keysInt U U U U ?_
   intro w76 hS76a; dsimp only[List.set]at hS76a; have hS76:=hS76a; rw[Rd]at hS76
   clear hS75
   refine Z4 (X1 (by kernel_rfl)) ?_
   refine VC.nil (ZI (XK (WR (L':=[(4,_),(5,_)]) (DT U U) (XV (XP (Qb U U (Qe U U ?_)))))))
   first | (refine Q6 hS76 U U ZK (by first | rfl | assumption | exact hS76.own_one 4 U | exact hS76.own_one 7 U | exact hS76.own_one 13 U) (i:=1) U (by first | decide | exact Xa U | (simp;done) | omega) ?_) | (refine Q6 hS76 U U ZK (by first | rfl | assumption | exact hS76.own_one 4 U | exact hS76.own_one 7 U | exact hS76.own_one 13 U) (i:=8) U (by first | decide | exact Xa U | (simp;done) | omega) ?_) | (refine Q6 hS76 U U ZK (by first | rfl | assumption | exact hS76.own_one 4 U | exact hS76.own_one 7 U | exact hS76.own_one 13 U) (i:=9) U (by first | decide | exact Xa U | (simp;done) | omega) ?_) | (refine Q6 hS76 U U ZK (by first | rfl | assumption | exact hS76.own_one 4 U | exact hS76.own_one 7 U | exact hS76.own_one 13 U) (i:=10) U (by first | decide | exact Xa U | (simp;done) | omega) ?_) | (refine Q6 hS76 U U ZK (by first | rfl | assumption | exact hS76.own_one 4 U | exact hS76.own_one 7 U | exact hS76.own_one 13 U) (i:=11) U (by first | decide | exact Xa U | (simp;done) | omega) ?_) | (refine Q6 hS76 U U ZK (by first | rfl | assumption | exact hS76.own_one 4 U | exact hS76.own_one 7 U | exact hS76.own_one 13 U) (i:=12) U (by first | decide | exact Xa U | (simp;done) | omega) ?_)
   intro w77 hS78; dsimp only[List.set]at hS78
   clear hS76
   refine Qf (ZI (XK (H4 (Lt (.inr U) VG (Ho U (hS78.sp [8,9,10,1] U)) ?_))))
   rintro v0 w9 hq9
   rw[if_pos U]at hq9
   replace hq9:=hq9.jn U U
   refine⟨_,Vu U (KN U) (C1 U R5 (hq9.cell 0 U U)), ?_⟩
   exact⟨_,rfl,.inr (.inl ⟨k,_,hp1,rfl,Ry hI hid hp1 (SL:={S with cache:=S.cache.filter (fun n=> !decide (n=id))}) ⟨rfl,rfl,rfl,rfl,rfl,rfl⟩ hg,QY (S:=onF S1 id k x.refs x.pg S1.next) (hq9.pick [3,5,6,7,4,8,9,10,14] U)⟩)⟩
  have hp3:x.place=3:= by omega
  have hS79:=hS56.drew
  refine QF [0,1,2,3,4,5,6] [6] We (by kernel_rfl) ?_
  refine Q4 U U U (Qr U Xk (hS79.cell 12 U U)) (Xh U U U (QV U U U Yp (Q4 U U U (Qr U H2 (hS79.cell 0 U U)) (QV U U U Yo (Q4 U U U (Qr U QL (hS79.cell 9 U U)) (Xn U U U U U U ?_))))))
  refine Qw TM U (RM (hS79.sp [5] U) x.at_) U ?_
  rintro _ w80 ⟨rfl,hS80⟩
  replace hS80:=hS80.jn U U
  clear hS79
  rw[(UI hI (fun q=>q) hid hp3).2.2]at hS80
  refine XQ (X1 (by kernel_rfl)) ?_
  refine VC.nil (Qc (Qh [2,3,4,5,6,7,9,8] U (Qd ?_)))
  have hS81:=QY (S:={S with sl:=S.sl.set x.at_.toNat []}) (hS80.pick [1,2,3,4,5,0,6,7,10,8,12,11,9,13] U)
  refine Qa (Zx U U (KF U (XK (XV (XP (Qn U Xk (hS81.cell 3 U U) U ?_))))))
  have hIL:=BR hI hid hp3
  refine XU Ru U (UJ (hS81.sp [0] U) (E:=one id) hIL hN) U ?_
  rintro e w82 ⟨_,rfl,(⟨rfl,hall,hfull,hS82⟩ | ⟨k,S1,rfl,hg,hS82⟩)⟩
  ·exact absurd hfull (by have hz:=Bu.2 (List.mem_of_getElem? (List.getElem?_set_self (l:=S.sl) (i:=x.at_.toNat) (a:=([]:Bs)) (XR (hI.slt (fun q=>q) hid hp3).2).1)); dsimp only;omega)
  refine⟨_,rfl, ?_⟩
  replace hS82:=hS82.jn U U
  clear hS81
  refine Qb U U (Qq U U U (Qq U U U (Qe U U (Qe U U (Qf (ZI (XK (WR (L':=[(7,_),(4,_),(8,_),(6,_),(5,_),(3,_),(2,_)]) (D8 U U U U U U U) (XV (XV (XP (Qb U U (QQ U U (Qf (ZI (XK (Hq U (fun h83=> ?_) (fun h83=> ?_))))))))))))))))))
  ·exact absurd h83 (by simp)
  refine UE (XK (XV ?_))
  obtain⟨ba,bi,fp,sp,kp,ac,cc,at2,ct,hSo84⟩:=XX (hS82.pick [0,1,2,3,4,5,6] rfl)
  refine XP (Qn U Xk (hSo84.cell 10 U U) U (Qj U U (Qg U Wr U (Qn U JF (hSo84.cell 0 U U) U (Qb U U (Qb U U ?_))))))
  have hkl:k<S1.fr.length:=(XR hg.fr).1
  have hfs:UT (CP S1 k).fr (k:Int) x.pg=S1.fr.set k (some x.pg):=UY hkl
  refine Qw Rt U (Ud (hSo84.sp [4] U) (k:Int) x.pg (hI.ent hid).2.2.2.2.1) U ?_
  rintro _ w85 ⟨_,rfl,hS85⟩
  replace hS85:=hS85.jn U U
  clear hSo84
  rw[hfs]at hS85
  refine Qf (ZI (XK (WR (L':=[(4,_),(6,_),(5,_),(3,_),(2,_)]) (YU U U U U U) (XV ?_))))
  have hS86:=hS85.drew
  refine Vj We (G0 (sp:=[15,17,18,20]) [0,1,2,3,4,5,6,7,8,9,10,11,12,13,14,15,16,17,18,19,20] (by kernel_rfl) ?_)
  refine Q4 U U U (Qr U Xk (hS86.cell 10 U U)) (Xh U U U (QV U U U XI (Q4 U U U (Qr U Zn (hS86.cell 1 U U)) (Q4 U U U (Qr U QL (hS86.cell 11 U U)) (Q4 U U U (Qr U Xk (hS86.cell 10 U U)) (Xh U U U (QV U U U H0 (Q4 U U U (Qr U Jg (hS86.cell 1 U U)) (QG U U U (QV U U U Jw (Q4 U U U (Qr U QL (hS86.cell 12 U U)) (QG U U U (X8 U U U (fun _=>(Ww U WU HG XJ U)) ?_)))))))))))))
  refine Q4 U U U (Qr U QL (hS86.cell 11 U U)) (Xn U U U U U U ?_)
  refine ZT (k:=id) 2 hS86 keysInt Tryz.underlying108 U U U XJ U ?_
  intro u87 c87 w87 hS87; dsimp only[List.set]at hS87
  clear hS86
  refine XQ (.cons (.inl ⟨rfl,(Qr U QL (hS87.cell 11 U U))⟩) (.cons (.inl ⟨rfl,(Qr U QL (hS87.cell 12 U U))⟩) (X1 (by kernel_rfl)))) ?_
  refine Wc U U U U (Xn U U U U U U ?_)
  have hsv88:Value.agg #[intV x.refs,intV 1,intV (k:Nat),strV []]=PW ⟨x.refs,1,(k:Nat),x.pg⟩:=rfl
  refine Z3 (v:=Value.agg #[intV x.refs,intV 1,intV (k:Nat),strV []]) 2 hS87 keysInt U U U U ?_
  intro w88 hS88a; dsimp only[List.set]at hS88a; have hS88:=hS88a; rw[hsv88,Kd]at hS88
  clear hS87
  refine Z4 (.cons (.inl ⟨rfl,(Qr U QL (hS88.cell 11 U U))⟩) (X1 (by kernel_rfl))) ?_
  refine Xn U U U U U U ?_
  refine ZT (k:=(k:Int)) 3 hS88 keysInt Tryz.underlying109 U U U YN U ?_
  intro u89 c89 w89 hS89; dsimp only[List.set]at hS89
  clear hS88
  refine XQ (.cons (.inl ⟨rfl,(Qr U QL (hS89.cell 11 U U))⟩) (X1 (by kernel_rfl))) ?_
  refine Wc U U U U (Xn U U U U U U ?_)
  refine Z3 (v:=intV id) 3 hS89 keysInt U U U U ?_
  intro w90 hS90a; dsimp only[List.set]at hS90a; have hS90:=hS90a; rw[Rd]at hS90
  clear hS89
  refine Z4 (X1 (by kernel_rfl)) ?_
  refine VC.nil (ZI (XK (WR (L':=[(4,_),(5,_)]) (DT U U) (XV (XP (Qb U U (Qe U U ?_)))))))
  first | (refine Q6 hS90 U U ZK (by first | rfl | assumption | exact hS90.own_one 4 U | exact hS90.own_one 7 U) (i:=1) U (by first | decide | exact Xa U | (simp;done) | omega) ?_) | (refine Q6 hS90 U U ZK (by first | rfl | assumption | exact hS90.own_one 4 U | exact hS90.own_one 7 U) (i:=8) U (by first | decide | exact Xa U | (simp;done) | omega) ?_) | (refine Q6 hS90 U U ZK (by first | rfl | assumption | exact hS90.own_one 4 U | exact hS90.own_one 7 U) (i:=9) U (by first | decide | exact Xa U | (simp;done) | omega) ?_) | (refine Q6 hS90 U U ZK (by first | rfl | assumption | exact hS90.own_one 4 U | exact hS90.own_one 7 U) (i:=10) U (by first | decide | exact Xa U | (simp;done) | omega) ?_) | (refine Q6 hS90 U U ZK (by first | rfl | assumption | exact hS90.own_one 4 U | exact hS90.own_one 7 U) (i:=11) U (by first | decide | exact Xa U | (simp;done) | omega) ?_) | (refine Q6 hS90 U U ZK (by first | rfl | assumption | exact hS90.own_one 4 U | exact hS90.own_one 7 U) (i:=12) U (by first | decide | exact Xa U | (simp;done) | omega) ?_)
  intro w91 hS92; dsimp only[List.set]at hS92
  clear hS90
  refine Qf (ZI (XK (H4 (Lt (.inr U) VG (Ho U (hS92.sp [8,9,10,1] U)) ?_))))
  rintro v0 w9 hq9
  rw[if_pos U]at hq9
  replace hq9:=hq9.jn U U
  refine⟨_,Vu U (KN U) (C1 U R5 (hq9.cell 0 U U)), ?_⟩
  exact⟨_,rfl,.inr (.inl ⟨k,_,hp1,rfl,Ry hI hid hp1 (SL:={S with sl:=S.sl.set x.at_.toNat []}) ⟨rfl,rfl,rfl,rfl,rfl,rfl⟩ hg,QY (S:=onF S1 id k x.refs x.pg S1.next) (hq9.pick [3,5,6,7,4,8,9,10,13] U)⟩)⟩
end Go.Proofs.YtkcjfoaejijdoaaGreatDoor
