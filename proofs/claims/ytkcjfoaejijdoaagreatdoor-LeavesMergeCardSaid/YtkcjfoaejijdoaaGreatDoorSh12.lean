/- sheets: Bring -/
import Derived.Test.YtkcjfoaejijdoaaGreatDoorSh10
set_option linter.unusedVariables false
set_option maxRecDepth 100000
set_option maxHeartbeats 3200000
namespace Go.Proofs.YtkcjfoaejijdoaaGreatDoor
open Go.RowKit M Proofs.Tryz
theorem Dg {w:World} {p:Nat} {S:SS} {ba bi fp sp kp:Nat} {ac at2:Option Addr} {cc ct:Nat} {F:Th} (hS:Sat w [Q8 p [.map (some ba),.map (some bi),.slice ac S.cache.length cc,ptrV fp 0,ptrV sp 0,ptrV kp 0,intV S.slots,intV S.budget,intV S.next,.slice at2 S.taken.length ct],Q5 QN ba (aG S.all),Q5 QN bi (gI S.inn),rowT inC (.slice ac S.cache.length cc) S.cache,K4 fp S.fr,KH sp S.sl,DW kp S.ck,rowT inC (.slice at2 S.taken.length ct) S.taken,F]) {E:Int→Prop} {N:Nat} (hI:ShI E N S) (id:Int) (hE: ¬E id):
    Calls prog 34 #[ptrV p 0,intV id] w (Ret fun v w'=>v=strV (YZ S id)∧Sat w' [Q8 p [.map (some ba),.map (some bi),.slice ac S.cache.length cc,ptrV fp 0,ptrV sp 0,ptrV kp 0,intV S.slots,intV S.budget,intV S.next,.slice at2 S.taken.length ct],Q5 QN ba (aG S.all),Q5 QN bi (gI S.inn),rowT inC (.slice ac S.cache.length cc) S.cache,K4 fp S.fr,KH sp S.sl,DW kp S.ck,rowT inC (.slice at2 S.taken.length ct) S.taken,F]):= by
 cases hid:S.all id with
 | none=>
  refine Qm func34 U ntmps34 U ?_
  refine Qd (Qa (Qe U U (Qf (Qc (Qd (Qa (Qb U U (Qj U U (Qg U XI U (Qr U Zs (hS.cell 0 U U) U (Qb U U (Ww (k:=id) 1 hS keysInt underlying108 U U U XO (u:=(.agg #[intV 0,intV 0,intV 0,strV []])) (g:=false) (H1 hid) (Hh hid) U (Qb U U (Qn U U U (Qn U U U (Xa hS XO U U ?_))))))))))))))))
  intro b1 w1 j1
  (refine QG j1 U U Yi U (by rfl) (i:=0) U (by decide) ?_)
  intro w2 j3; dsimp only[List.set]at j3
  refine Qe U U (Qf (Qc (Qh [1,0,4,5,6] U (Qd (Qw (Qd (Qa (Qb U U (Xq U U U (Qe U U (Qf (Qc (Qt U (fun h4=> ?_) (fun h4=> ?_))))))))))))))
  ·refine Qd (Qa (Qv IB U (NM (j3.sp [] U) zer (by decide)) U ?_))
   rintro _ w5 ⟨rfl,j5⟩
   replace j5:=j5.jn U U
   refine Qe U U (Qf (Qc (Qu (Qz (Qp (QY (.inr U) U U ?_))))))
   exact⟨_,rfl, by unfold YZ; rw[hid]; dsimp only; rw[if_pos (by omega)],j5.pick [1,2,3,4,5,6,7,8,9] U⟩
  refine Qd (Qa (Qb U U (Xb U U (Qe U U (Qf (Qc (Qh [0,4,5,24] U (QT U (fun h6=> ?_) (fun h6=> ?_)))))))))
  ·refine Qd (Qa (Qe U U (Qf (Qc (Qu (Qz (Qp (QY (.inr U) U U ?_))))))))
   exact⟨_,rfl, by unfold YZ; rw[hid]; dsimp only; rw[if_neg (by omega)],j3.pick [1,2,3,4,5,6,7,8,9] U⟩
  exact absurd h6 (by simp)
 | some x=>
  obtain⟨hid1,_,hr1,hr2,_,hplc⟩:=hI.ent hid
  refine Qm func34 U ntmps34 U ?_
  refine Qd (Qa (Qe U U (Qf (Qc (Qd (Qa (Qb U U (Qj U U (Qg U XI U (Qr U Zs (hS.cell 0 U U) U (Qb U U (Ww (k:=id) 1 hS keysInt underlying108 U U U XO (u:=(.agg #[intV x.refs,intV x.place,intV x.at_,strV (KW x)])) (g:=true) (J7 hid) (Hg hid) U (Qb U U (Qn U U U (Qn U U U (Xa hS XO U U ?_))))))))))))))))
  intro b1 w1 j1
  (refine QG j1 U U Yi U (by rfl) (i:=0) U (by decide) ?_)
  intro w2 j3; dsimp only[List.set]at j3
  refine Qe U U (Qf (Qc (Qh [1,0,4,5,6] U (Qd (Qw (Qd (Qa (Qb U U (Xq U U U (Qe U U (Qf (Qc (Qt U (fun h4=> ?_) (fun h4=> ?_))))))))))))))
  ·exact absurd h4 (by omega)
  refine Qd (Qa (Qb U U (Xb U U (Qe U U (Qf (Qc (Qh [0,4,5,24] U (QT U (fun h5=> ?_) (fun h5=> ?_)))))))))
  ·exact absurd h5 (by simp)
  refine Qd (Qa (Qg U Hc U (Qr U QL (j3.cell 0 U U) U (Xq U U U (Qe U U (Qf (Qc (Qt U (fun h6=> ?_) (fun h6=> ?_)))))))))
  ·have hp1:x.place=1:=h6
   refine Qd ?_
   have j7:=j3.drew
   refine QE [0,1,2,3,4,5,6,7] [6] Wa (by kernel_rfl) ?_
   refine Q9 U U U (Xi U U U (QQ U U U W2 (Q4 U U U (Ql U YC (j7.cell 1 U U)) (QQ U U U Y9 (Q4 U U U (Ql U QL (j7.cell 0 U U)) (Xe U U U U U U ?_))))))
   refine Qv Sg U (GH (j7.sp [5] U) x.at_) U ?_
   rintro _ w8 ⟨rfl,j8⟩
   replace j8:=j8.jn U U
   rw[hI.frc hE hid hp1]
   dsimp only[Option.getD_some]
   refine Xz (Xj (by kernel_rfl)) ?_
   refine XK U U U (VC.nil (Qc (Qh [0,5,4] U (Qu (Qz (Qp (QY (.inr U) U U ?_)))))))
   exact⟨_,rfl, by unfold YZ; rw[hid],j8.pick [2,3,4,5,0,6,7,8,9] U⟩
  refine Qd (Qa (Qg U Hc U (Qr U QL (j3.cell 0 U U) U (Xq U U U (Qe U U (Qf (Qc (Qh [0,4,5,38] U (Qt U (fun h9=> ?_) (fun h9=> ?_))))))))))
  ·have hp2:x.place=2:=h9
   refine Qd (Qa (Qg U DD U (Qr U W9 (j3.cell 0 U U) U ?_)))
   obtain⟨fy,hfy⟩:=Option.ne_none_iff_exists'.1 (hI.pck hE hid hp2).2
   have hfme:KW x=fy:= by unfold KW fm; rw[if_pos hp2,hfy];rfl
   refine Qv Sf U (Gt (j3.sp [] U) (hI.ent hid).2.2.2.2.1 (by rw[hfme]; exact hfy)) U ?_
   rintro _ w10 ⟨rfl,j10⟩
   replace j10:=j10.jn U U
   refine Qb U U (Qn U U U (Qn U U U (Qe U U (Qe U U (Qf (Qc (Qh [0,4,5,7] U (Qd (Qa (Qb U U (Qe U U (Qf (Qc (Qu (Qz (Qp (QY (.inr U) U U ?_)))))))))))))))))
   exact⟨_,rfl, by unfold YZ; rw[hid],j10.pick [1,2,3,4,5,6,7,8,9] U⟩
  refine Qs (Qk (Qc (Qd ?_)))
  have hp3:x.place=3:= by omega
  have j11:=j3.drew
  refine QE [0,1,2,3,4,5,6,7,8,9,10,11] [6] Wa (by kernel_rfl) ?_
  refine Q9 U U U (Xi U U U (QQ U U U Yf (Q4 U U U (Ql U Uj (j11.cell 1 U U)) (QQ U U U Y9 (Q4 U U U (Ql U QL (j11.cell 0 U U)) (Xe U U U U U U ?_))))))
  refine Qv IA U (C7 (j11.sp [6] U) x.at_) U ?_
  rintro _ w12 ⟨eg,rfl,j12⟩
  replace j12:=j12.jn U U
  rw[(Vh hI hE hid hp3).2.1]
  refine Xz (Xj (by kernel_rfl)) ?_
  refine Q9 U U U (Wi U U U U (Wi U U U U (XK U U U (XK U U U (VC.nil (Qc (Qh [4,9] U (Qd (Qa (Qb U U (Qe U U (Qf (Qc (Qu (QY (.inr U) U U ?_)))))))))))))))
  exact⟨_,rfl, by unfold YZ; rw[hid],j12.pick [2,3,4,5,6,0,7,8,9] U⟩
theorem P0 {w:World} {p:Nat} {S:SS} {F:Th} (hS:Sat w [Yr p S,F]) {N:Nat} (hI:ShI Kp N S) (hN:N≤80000000000) (id:Int):
    Calls prog 107 #[ptrV p 0,intV id] w (Ret fun v w'=>(match S.all id with | none=>v= .tuple #[intV 0,intV 4]∧Sat w' [Yr p S,F] | some x=>(x.place=1∧v= .tuple #[intV x.at_,intV 0]∧Sat w' [Yr p S,F])∨(∃k S',x.place≠1∧v= .tuple #[intV (k:Nat),intV 0]∧BrS N S S' id k x∧Sat w' [Yr p S',F])∨(x.place=2∧v= .tuple #[intV 0,intV 6]∧(∀o∈S.fr,o≠none)∧WQ S.sl=S.sl.length∧Sat w' [Yr p S,F]))):= by
 obtain⟨ba,bi,fp,sp,kp,ac,cc,at2,ct,hS⟩:=Zf hS
 cases hid:S.all id with
 | none=>
  dsimp only
  refine RV func107 U ntmps107 U ?_
  refine Qd (Qa (XR hS U U U ?_))
  intro sb w1 j1
  refine XR j1 U U U ?_
  intro db w2 j2
  refine Qe U U (Xa j2 zr_28 U U ?_)
  intro eb w3 j3
  refine Qf (Qc (Qd ?_))
  have j4:=j3.drew
  refine QE [0,1,2,3,4,5,6,7,8,9,10,11] [9,10] Wa (by kernel_rfl) ?_
  refine Q4 U U U (Ql U Xy (j4.cell 2 U U)) (Xi U U U (QQ U U U XI (Q4 U U U (Ql U Zs (j4.cell 3 U U)) (Q4 U U U (Ql U QL (j4.cell 1 U U)) (Q4 U U U (WM (k:=id) 4 j4 keysInt underlying108 U U U XO (u:=(.agg #[intV 0,intV 0,intV 0,strV []])) (g:=false) (H1 hid) (Hh hid)) (Q9 U U U (Wi U U U U (Wi U U U U (Xe U U U U U U ?_)))))))))
  refine Xa j4 XO U U ?_
  intro xb w5 j5
  refine Xz (.cons (.inl ⟨U,(WM (k:=id) 5 j5 keysInt underlying108 U U U XO (u:=(.agg #[intV 0,intV 0,intV 0,strV []])) (g:=false) (H1 hid) (Hh hid))⟩) (.cons (.inl ⟨U,(Ql U QL (j5.cell 2 U U))⟩) (.cons (.inl ⟨U,(Ql U Zs (j5.cell 4 U U))⟩) (.cons (.inl ⟨U,(Ql U Xy (j5.cell 3 U U))⟩) .nil)))) (Xe U U U U U U ?_)
  (refine QG j5 U U Yi U (by rfl) (i:=0) U (by decide) ?_)
  intro w6 j7; dsimp only[List.set]at j7
  refine Zu (Xj (by kernel_rfl)) ?_
  refine XK U U U (VC.nil (Qc (Qh [2,3,4,5,6,7] U (Qd (Qw (Qd (Qa (Qb U U (Xb U U (Qe U U (Qf (Qc (QT U (fun h8=> ?_) (fun h8=> ?_))))))))))))))
  ·refine Qd (Qa (Qe U U ?_))
   (refine QV j7 U U Un (by rfl) (i:=1) U (by decide) ?_)
   intro w9 j10; dsimp only[List.set]at j10
   exact Qf (Qc (Qu (Qz (Qp (finE2 (.inr U) U (Rt U) (CR U Gi (j10.cell 1 U U)) (⟨_,U,U,Xh (j10.pick [4,5,6,7,8,9,10,11,12] U)⟩))))))
  exact absurd h8 (by simp)
 | some x=>
  obtain⟨hid1,_,hr1,hr2,_,hplc⟩:=hI.ent hid
  dsimp only
  refine RV func107 U ntmps107 U ?_
  refine Qd (Qa (XR hS U U U ?_))
  intro sb w1 j1
  refine XR j1 U U U ?_
  intro db w2 j2
  refine Qe U U (Xa j2 zr_28 U U ?_)
  intro eb w3 j3
  refine Qf (Qc (Qd ?_))
  have j4:=j3.drew
  refine QE [0,1,2,3,4,5,6,7,8,9,10,11] [9,10] Wa (by kernel_rfl) ?_
  refine Q4 U U U (Ql U Xy (j4.cell 2 U U)) (Xi U U U (QQ U U U XI (Q4 U U U (Ql U Zs (j4.cell 3 U U)) (Q4 U U U (Ql U QL (j4.cell 1 U U)) (Q4 U U U (WM (k:=id) 4 j4 keysInt underlying108 U U U XO (u:=(.agg #[intV x.refs,intV x.place,intV x.at_,strV (KW x)])) (g:=true) (J7 hid) (Hg hid)) (Q9 U U U (Wi U U U U (Wi U U U U (Xe U U U U U U ?_)))))))))
  refine Xa j4 XO U U ?_
  intro xb w5 j5
  refine Xz (.cons (.inl ⟨U,(WM (k:=id) 5 j5 keysInt underlying108 U U U XO (u:=(.agg #[intV x.refs,intV x.place,intV x.at_,strV (KW x)])) (g:=true) (J7 hid) (Hg hid))⟩) (.cons (.inl ⟨U,(Ql U QL (j5.cell 2 U U))⟩) (.cons (.inl ⟨U,(Ql U Zs (j5.cell 4 U U))⟩) (.cons (.inl ⟨U,(Ql U Xy (j5.cell 3 U U))⟩) .nil)))) (Xe U U U U U U ?_)
  (refine QG j5 U U Yi U (by rfl) (i:=0) U (by decide) ?_)
  intro w6 j7; dsimp only[List.set]at j7
  refine Zu (Xj (by kernel_rfl)) ?_
  refine XK U U U (VC.nil (Qc (Qh [2,3,4,5,6,7] U (Qd (Qw (Qd (Qa (Qb U U (Xb U U (Qe U U (Qf (Qc (QT U (fun h8=> ?_) (fun h8=> ?_))))))))))))))
  ·exact absurd h8 (by simp)
  refine Qd (Qa (Qg U Hc U (Qr U QL (j7.cell 0 U U) U (Xq U U U (Qe U U (Qf (Qc (Qh [2,3,4,5,6,7,22] U (Qt U (fun h9=> ?_) (fun h9=> ?_))))))))))
  ·have hp1:x.place=1:=h9
   refine Qd (Qa (Qg U Y9 U (Qr U QL (j7.cell 0 U U) U (Qe U U ?_))))
   (refine QV j7 U U Un (by rfl) (i:=1) U (by decide) ?_)
   intro w10 j11; dsimp only[List.set]at j11
   exact Qf (Qc (Qu (Qz (Qp (finE2 (.inr U) U (Rt U) (CR U Gi (j11.cell 1 U U)) (⟨_,U,.inl ⟨hp1,U,Xh (j11.pick [4,5,6,7,8,9,10,11,12] U)⟩⟩))))))
  have hp1:x.place≠1:=h9
  refine Qs (Qk (Qc (Qd ?_)))
  have j12:=j7.drew
  refine Va Wa (U2 2 7 U ?_ ?_)
  ·refine HQ (sp:=[2,7,9]) [0,1,3,4,5,6,2,7,8,9] (by kernel_rfl) ?_
   refine Q4 U U U (Ql U Xy (j12.cell 3 U U)) (Q4 U U U (Ql U QL (j12.cell 2 U U)) (Q4 U U U (Ql U Xy (j12.cell 3 U U)) (Xi U U U (QQ U U U Wt (Q4 U U U (Ql U J5 (j12.cell 4 U U)) (Xe U U U U U U ?_))))))
   refine Qv W5 U (Dg (j12.sp [4,5,6,7,8,9,10,11] U) hI id (fun q=>q)) U ?_
   rintro _ w13 ⟨rfl,j13⟩
   replace j13:=j13.jn U U
   rw[show YZ S id=x.pg by unfold YZ; rw[hid]]
   refine Xz (.cons (.inl ⟨rfl,(Ql U J5 (j13.cell 0 U U))⟩) (.cons (.inl ⟨rfl,(Ql U Xy (j13.cell 11 U U))⟩) (Xj (by kernel_rfl)))) ?_
   refine Xe U U U U U U ?_
   refine Xa j13 zr_47 U U ?_
   intro ob w14 j14
   refine Xz (.cons (.inl ⟨rfl,(Ql U J5 (j14.cell 1 U U))⟩) (.cons (.inl ⟨rfl,(Ql U Xy (j14.cell 12 U U))⟩) (Xj (by kernel_rfl)))) ?_
   refine XK U U U (Xe U U U U U U ?_)
   (refine QV j14 U U Vf (by rfl) (i:=0) U (by decide) ?_)
   intro w15 j16; dsimp only[List.set]at j16
   refine Zu (Xj (by kernel_rfl)) ?_
   refine VC.nil (Qc (Qh [2,3,4,5,6,7,9,8] U (Qd (Qd (Qa (Qg U Hc U (Qr U QL (j16.cell 9 U U) U (Xq U U U (Qf (Qc (Qt U (fun h17=> ?_) (fun h17=> ?_))))))))))))
   ·have hp2:x.place=2:=h17
    have j18:=j16.drew
    refine QE [0,1,2,3,4,6,5,7,8,9,10] [5,7,10] Wa (by kernel_rfl) ?_
    refine Q4 U U U (Ql U Xy (j18.cell 12 U U)) (Q4 U U U (Ql U Xy (j18.cell 12 U U)) (Xi U U U (QQ U U U Wt (Q4 U U U (Ql U J5 (j18.cell 1 U U)) (QZ U U U (fun _=>(Be U)) ?_)))))
    refine Xe U U U U U U ?_
    refine Qv GN U (HA (j18.sp [] U) (Ent.starL (Jn (C:=inC) (l:=S.cache) (by have :=hI.cln;omega)) 4 U) (by have :=hI.cln;omega)) U ?_
    rintro _ w19 j19
    replace j19:=j19.jn U U
    have h1n:=j19.own_one 0 U
    refine Xz (.skip (by kernel_rfl) (.skip (by kernel_rfl) (.cons (.inl ⟨rfl,(Ql U Xy (j19.cell 13 U U))⟩) .nil))) ?_
    refine Xe U U U U U U ?_
    refine Qv Ci U (TQ (eqB _ id) (j19.sp [0,12] U) (by have :=hI.cln;omega)) U ?_
    rintro _ w20 j20
    replace j20:=j20.jn U U
    have h1d:=j20.own_one 0 U
    refine Xz (.skip (by kernel_rfl) (.skip (by kernel_rfl) (.cons (.inl ⟨rfl,(Ql U Xy (j20.cell 13 U U))⟩) .nil))) ?_
    refine Xi U U U (QQ U U U Wt (Xe U U U U U U ?_))
    (refine QV j20 U U Vf (by assumption) (i:=3) U (Xv U) ?_)
    intro w21 j22; dsimp only[List.set]at j22
    refine Zu (Xj (by kernel_rfl)) ?_
    refine VC.nil (Qc (Qh [2,3,4,5,6,7,9,8] U (Qd ?_)))
    have j23:=Xh (S:={S with cache:=S.cache.filter (fun n=> !decide (n=id))}) (j22.pick [3,4,5,0,7,8,9,10,12,2,13,1,11,6,14] U)
    refine Qa (Z7 U U (Rl U (XP (Zd (XS (Qr U Xy (j23.cell 3 U U) U ?_))))))
    have hIL:=GA hI hid hp2
    refine Zc RY U (Vi (j23.sp [0] U) (E:=one id) hIL hN) U ?_
    rintro e w24 ⟨_,rfl,(⟨rfl,hall,hfull,j24⟩ | ⟨k,S1,rfl,hg,j24⟩)⟩
    ·refine⟨_,U, ?_⟩
     replace j24:=j24.jn U U
     refine Qb U U (Qn U U U (Qn U U U (Qe U U (Qe U U (Qf (ZV (XP (Jh (L':=[(7,_),(4,_),(8,_),(6,_),(5,_),(3,_),(2,_)]) (Pf U U U U U U U) (Zd (Zd (XS (Qb U U (Xb U U (Qf (ZV (XP (HC U (fun h25=> ?_) (fun h25=> ?_))))))))))))))))))
     ·refine Zd (XS (Qe U U ?_))
      (refine QV j24 U U Un (by rfl) (i:=1) U (by decide) ?_)
      intro w26 j27; dsimp only[List.set]at j27
      refine Qf (ZV (XP (HT (UE ?_))))
      obtain⟨ba,bi,fp,sp,kp,ac,cc,at2,ct,hSo28⟩:=Zf (j27.pick [0,1,2,3,4,5,6,7] rfl)
      refine Eh (.inr U) Ki (H8 U (hSo28.sp [8,9,10,0] U)) ?_
      rintro v0 w9 hq9
      rw[if_neg (by decide)]at hq9
      replace hq9:=hq9.jn U U
      refine⟨_,VT U (Rt U) (CR U Gi (hq9.cell 0 U U)), ?_⟩
      exact⟨_,U,.inr (.inr ⟨hp2,U,hall,hfull,Xh (S:=S) (hq9.pick [3,4,5,13,7,8,9,10,14] U)⟩)⟩
     exact absurd h25 (by simp)
    refine⟨_,U, ?_⟩
    replace j24:=j24.jn U U
    refine Qb U U (Qn U U U (Qn U U U (Qe U U (Qe U U (Qf (ZV (XP (Jh (L':=[(7,_),(4,_),(8,_),(6,_),(5,_),(3,_),(2,_)]) (Pf U U U U U U U) (Zd (Zd (XS (Qb U U (Xb U U (Qf (ZV (XP (HC U (fun h29=> ?_) (fun h29=> ?_))))))))))))))))))
    ·exact absurd h29 (by simp)
    refine Vb (XP (Zd ?_))
    obtain⟨ba,bi,fp,sp,kp,ac,cc,at2,ct,hSo30⟩:=Zf (j24.pick [0,1,2,3,4,5,6,7] rfl)
    refine XS (Qr U Xy (hSo30.cell 10 U U) U (Qj U U (Qg U W2 U (Qr U YC (hSo30.cell 0 U U) U (Qb U U (Qb U U ?_))))))
    have hkl:k<S1.fr.length:=(Zb hg.fr).1
    have hfs:Vs (Nq S1 k).fr (k:Int) x.pg=S1.fr.set k (some x.pg):=Vw hkl
    refine Qv RX U (Uv (hSo30.sp [4] U) (k:Int) x.pg (hI.ent hid).2.2.2.2.1) U ?_
    rintro _ w31 ⟨_,rfl,j31⟩
    replace j31:=j31.jn U U
    clear hSo30
    rw[hfs]at j31
    refine Qf (ZV (XP (Jh (L':=[(4,_),(6,_),(5,_),(3,_),(2,_)]) (Hi U U U U U) (Zd ?_))))
    have j32:=j31.drew
    refine VG Wa (HQ (sp:=[15,17,18,20]) [0,1,2,3,4,5,6,7,8,9,10,11,12,13,14,15,16,17,18,19,20] (by kernel_rfl) ?_)
    refine Q4 U U U (Ql U Xy (j32.cell 10 U U)) (Xi U U U (QQ U U U XI (Q4 U U U (Ql U Zs (j32.cell 1 U U)) (Q4 U U U (Ql U QL (j32.cell 11 U U)) (Q4 U U U (Ql U Xy (j32.cell 10 U U)) (Xi U U U (QQ U U U YA (Q4 U U U (Ql U ZY (j32.cell 1 U U)) (Q9 U U U (QQ U U U JD (Q4 U U U (Ql U QL (j32.cell 12 U U)) (Q9 U U U (QZ U U U (fun _=>(ZC U Ji Ud XO U)) ?_)))))))))))))
    refine Q4 U U U (Ql U QL (j32.cell 11 U U)) (Xe U U U U U U ?_)
    refine Wh (k:=id) 2 j32 keysInt underlying108 U U U XO U ?_
    intro u33 c33 w33 j33; dsimp only[List.set]at j33
    refine Xz (.cons (.inl ⟨rfl,(Ql U QL (j33.cell 11 U U))⟩) (.cons (.inl ⟨rfl,(Ql U QL (j33.cell 12 U U))⟩) (Xj (by kernel_rfl)))) ?_
    refine Wi U U U U (Xe U U U U U U ?_)
    have hsv34:Value.agg #[intV x.refs,intV 1,intV (k:Nat),strV []]=S5 ⟨x.refs,1,(k:Nat),x.pg⟩:=rfl
    refine ZI (v:=Value.agg #[intV x.refs,intV 1,intV (k:Nat),strV []]) 2 j33 keysInt U U U U ?_
    intro w34 hS34a; dsimp only[List.set]at hS34a; have j34:=hS34a; rw[hsv34,KA]at j34
    refine Zu (.cons (.inl ⟨rfl,(Ql U QL (j34.cell 11 U U))⟩) (Xj (by kernel_rfl))) ?_
    refine Xe U U U U U U ?_
    refine Wh (k:=(k:Int)) 3 j34 keysInt underlying109 U U U Hj U ?_
    intro u35 c35 w35 j35; dsimp only[List.set]at j35
    refine Xz (.cons (.inl ⟨rfl,(Ql U QL (j35.cell 11 U U))⟩) (Xj (by kernel_rfl))) ?_
    refine Wi U U U U (Xe U U U U U U ?_)
    refine ZI (v:=intV id) 3 j35 keysInt U U U U ?_
    intro w36 hS36a; dsimp only[List.set]at hS36a; have j36:=hS36a; rw[RB]at j36
    refine Zu (Xj (by kernel_rfl)) ?_
    refine VC.nil (ZV (XP (Jh (L':=[(4,_),(5,_)]) (Bo U U) (Zd (XS (Qb U U (Qe U U ?_)))))))
    (refine QV j36 U U Un (by rfl) (i:=8) U (by decide) ?_)
    intro w37 j38; dsimp only[List.set]at j38
    refine Qf (ZV (XP (HT (Eh (.inr U) Ki (H8 U (j38.sp [8,9,10,1] U)) ?_))))
    rintro v0 w9 hq9
    rw[if_pos U]at hq9
    replace hq9:=hq9.jn U U
    refine⟨_,VT U (Rt U) (CR U Gi (hq9.cell 0 U U)), ?_⟩
    exact⟨_,rfl,.inr (.inl ⟨k,_,hp1,rfl,Gc hI hid hp1 (SL:={S with cache:=S.cache.filter (fun n=> !decide (n=id))}) ⟨rfl,rfl,rfl,rfl,rfl,rfl⟩ hg,Xh (S:=onF S1 id k x.refs x.pg S1.next) (hq9.pick [3,5,6,7,4,8,9,10,14] U)⟩)⟩
   have hp3:x.place=3:= by omega
   have j39:=j16.drew
   refine QE [0,1,2,3,4,5,6] [6] Wa (by kernel_rfl) ?_
   refine Q4 U U U (Ql U Xy (j39.cell 12 U U)) (Xi U U U (QQ U U U Yf (Q4 U U U (Ql U Uj (j39.cell 1 U U)) (QQ U U U Y9 (Q4 U U U (Ql U QL (j39.cell 9 U U)) (Xe U U U U U U ?_))))))
   refine Qv Ch U (Gw (j39.sp [6] U) x.at_) U ?_
   rintro _ w40 ⟨rfl,j40⟩
   replace j40:=j40.jn U U
   rw[(Vh hI (fun q=>q) hid hp3).2.2]at j40
   refine Xz (Xj (by kernel_rfl)) ?_
   refine VC.nil (Qc (Qh [2,3,4,5,6,7,9,8] U (Qd ?_)))
   have j41:=Xh (S:={S with sl:=S.sl.set x.at_.toNat []}) (j40.pick [2,3,4,5,6,0,7,8,10,1,12,11,9,13] U)
   refine Qa (Z7 U U (Rl U (XP (Zd (XS (Qr U Xy (j41.cell 3 U U) U ?_))))))
   have hIL:=D0 hI hid hp3
   refine Zc RY U (Vi (j41.sp [0] U) (E:=one id) hIL hN) U ?_
   rintro e w42 ⟨_,rfl,(⟨rfl,hall,hfull,j42⟩ | ⟨k,S1,rfl,hg,j42⟩)⟩
   ·exact absurd hfull (by have hz:=BV.2 (List.mem_of_getElem? (List.getElem?_set_self (l:=S.sl) (i:=x.at_.toNat) (a:=([]:Bs)) (Zb (hI.slt (fun q=>q) hid hp3).2).1)); dsimp only;omega)
   refine⟨_,U, ?_⟩
   replace j42:=j42.jn U U
   refine Qb U U (Qn U U U (Qn U U U (Qe U U (Qe U U (Qf (ZV (XP (Jh (L':=[(7,_),(4,_),(8,_),(6,_),(5,_),(3,_),(2,_)]) (Pf U U U U U U U) (Zd (Zd (XS (Qb U U (Xb U U (Qf (ZV (XP (HC U (fun h43=> ?_) (fun h43=> ?_))))))))))))))))))
   ·exact absurd h43 (by simp)
   refine Vb (XP (Zd ?_))
   obtain⟨ba,bi,fp,sp,kp,ac,cc,at2,ct,hSo44⟩:=Zf (j42.pick [0,1,2,3,4,5,6] rfl)
   refine XS (Qr U Xy (hSo44.cell 10 U U) U (Qj U U (Qg U W2 U (Qr U YC (hSo44.cell 0 U U) U (Qb U U (Qb U U ?_))))))
   have hkl:k<S1.fr.length:=(Zb hg.fr).1
   have hfs:Vs (Nq S1 k).fr (k:Int) x.pg=S1.fr.set k (some x.pg):=Vw hkl
   refine Qv RX U (Uv (hSo44.sp [4] U) (k:Int) x.pg (hI.ent hid).2.2.2.2.1) U ?_
   rintro _ w45 ⟨_,rfl,j45⟩
   replace j45:=j45.jn U U
   clear hSo44
   rw[hfs]at j45
   refine Qf (ZV (XP (Jh (L':=[(4,_),(6,_),(5,_),(3,_),(2,_)]) (Hi U U U U U) (Zd ?_))))
   have j46:=j45.drew
   refine VG Wa (HQ (sp:=[15,17,18,20]) [0,1,2,3,4,5,6,7,8,9,10,11,12,13,14,15,16,17,18,19,20] (by kernel_rfl) ?_)
   refine Q4 U U U (Ql U Xy (j46.cell 10 U U)) (Xi U U U (QQ U U U XI (Q4 U U U (Ql U Zs (j46.cell 1 U U)) (Q4 U U U (Ql U QL (j46.cell 11 U U)) (Q4 U U U (Ql U Xy (j46.cell 10 U U)) (Xi U U U (QQ U U U YA (Q4 U U U (Ql U ZY (j46.cell 1 U U)) (Q9 U U U (QQ U U U JD (Q4 U U U (Ql U QL (j46.cell 12 U U)) (Q9 U U U (QZ U U U (fun _=>(ZC U Ji Ud XO U)) ?_)))))))))))))
   refine Q4 U U U (Ql U QL (j46.cell 11 U U)) (Xe U U U U U U ?_)
   refine Wh (k:=id) 2 j46 keysInt underlying108 U U U XO U ?_
   intro u47 c47 w47 j47; dsimp only[List.set]at j47
   refine Xz (.cons (.inl ⟨rfl,(Ql U QL (j47.cell 11 U U))⟩) (.cons (.inl ⟨rfl,(Ql U QL (j47.cell 12 U U))⟩) (Xj (by kernel_rfl)))) ?_
   refine Wi U U U U (Xe U U U U U U ?_)
   have hsv48:Value.agg #[intV x.refs,intV 1,intV (k:Nat),strV []]=S5 ⟨x.refs,1,(k:Nat),x.pg⟩:=rfl
   refine ZI (v:=Value.agg #[intV x.refs,intV 1,intV (k:Nat),strV []]) 2 j47 keysInt U U U U ?_
   intro w48 hS48a; dsimp only[List.set]at hS48a; have j48:=hS48a; rw[hsv48,KA]at j48
   refine Zu (.cons (.inl ⟨rfl,(Ql U QL (j48.cell 11 U U))⟩) (Xj (by kernel_rfl))) ?_
   refine Xe U U U U U U ?_
   refine Wh (k:=(k:Int)) 3 j48 keysInt underlying109 U U U Hj U ?_
   intro u49 c49 w49 j49; dsimp only[List.set]at j49
   refine Xz (.cons (.inl ⟨rfl,(Ql U QL (j49.cell 11 U U))⟩) (Xj (by kernel_rfl))) ?_
   refine Wi U U U U (Xe U U U U U U ?_)
   refine ZI (v:=intV id) 3 j49 keysInt U U U U ?_
   intro w50 hS50a; dsimp only[List.set]at hS50a; have j50:=hS50a; rw[RB]at j50
   refine Zu (Xj (by kernel_rfl)) ?_
   refine VC.nil (ZV (XP (Jh (L':=[(4,_),(5,_)]) (Bo U U) (Zd (XS (Qb U U (Qe U U ?_)))))))
   (refine QV j50 U U Un (by rfl) (i:=8) U (by decide) ?_)
   intro w51 j52; dsimp only[List.set]at j52
   refine Qf (ZV (XP (HT (Eh (.inr U) Ki (H8 U (j52.sp [8,9,10,1] U)) ?_))))
   rintro v0 w9 hq9
   rw[if_pos U]at hq9
   replace hq9:=hq9.jn U U
   refine⟨_,VT U (Rt U) (CR U Gi (hq9.cell 0 U U)), ?_⟩
   exact⟨_,U,.inr (.inl ⟨k,_,hp1,U,Gc hI hid hp1 (SL:={S with sl:=S.sl.set x.at_.toNat []}) ⟨U,U,U,U,U,U⟩ hg,Xh (S:=onF S1 id k x.refs x.pg S1.next) (hq9.pick [3,5,6,7,4,8,9,10,13] U)⟩)⟩
  refine HQ (sp:=[2,7,9]) [0,1,3,4,5,6,7,2,8,9] (by kernel_rfl) ?_
  refine Q4 U U U (Ql U Xy (j12.cell 3 U U)) (Q4 U U U (Ql U QL (j12.cell 2 U U)) (Q4 U U U (Ql U Xy (j12.cell 3 U U)) (Xi U U U (QQ U U U Wt (Q4 U U U (Ql U J5 (j12.cell 4 U U)) (Xe U U U U U U ?_))))))
  refine Xa j12 zr_47 U U ?_
  intro ob w53 j53
  refine Xz (.cons (.inl ⟨U,(Ql U J5 (j53.cell 5 U U))⟩) (.cons (.inl ⟨U,(Ql U Xy (j53.cell 4 U U))⟩) (.cons (.inl ⟨U,(Ql U QL (j53.cell 3 U U))⟩) (.cons (.inl ⟨U,(Ql U Xy (j53.cell 4 U U))⟩) .nil)))) (Xe U U U U U U ?_)
  refine Qv W5 U (Dg (j53.sp [5,6,7,8,9,10,11,12] U) hI id (fun q=>q)) U ?_
  rintro _ w54 ⟨rfl,j54⟩
  replace j54:=j54.jn U U
  rw[show YZ S id=x.pg by unfold YZ; rw[hid]]
  refine Xz (.cons (.inl ⟨rfl,(Ql U J5 (j54.cell 0 U U))⟩) (.cons (.inl ⟨rfl,(Ql U Xy (j54.cell 12 U U))⟩) (Xj (by kernel_rfl)))) ?_
  refine XK U U U (Xe U U U U U U ?_)
  (refine QV j54 U U Vf (by rfl) (i:=8) U (by decide) ?_)
  intro w55 j56; dsimp only[List.set]at j56
  refine Zu (Xj (by kernel_rfl)) ?_
  refine VC.nil (Qc (Qh [2,3,4,5,6,7,9,8] U (Qd (Qd (Qa (Qg U Hc U (Qr U QL (j56.cell 9 U U) U (Xq U U U (Qf (Qc (Qt U (fun h57=> ?_) (fun h57=> ?_))))))))))))
  ·have hp2:x.place=2:=h57
   have j58:=j56.drew
   refine QE [0,1,2,3,4,6,5,7,8,9,10] [5,7,10] Wa (by kernel_rfl) ?_
   refine Q4 U U U (Ql U Xy (j58.cell 12 U U)) (Q4 U U U (Ql U Xy (j58.cell 12 U U)) (Xi U U U (QQ U U U Wt (Q4 U U U (Ql U J5 (j58.cell 0 U U)) (QZ U U U (fun _=>(Be U)) ?_)))))
   refine Xe U U U U U U ?_
   refine Qv GN U (HA (j58.sp [] U) (Ent.starL (Jn (C:=inC) (l:=S.cache) (by have :=hI.cln;omega)) 3 U) (by have :=hI.cln;omega)) U ?_
   rintro _ w59 j59
   replace j59:=j59.jn U U
   have h1n:=j59.own_one 0 U
   refine Xz (.skip (by kernel_rfl) (.skip (by kernel_rfl) (.cons (.inl ⟨rfl,(Ql U Xy (j59.cell 13 U U))⟩) .nil))) ?_
   refine Xe U U U U U U ?_
   refine Qv Ci U (TQ (eqB _ id) (j59.sp [0,12] U) (by have :=hI.cln;omega)) U ?_
   rintro _ w60 j60
   replace j60:=j60.jn U U
   have h1d:=j60.own_one 0 U
   refine Xz (.skip (by kernel_rfl) (.skip (by kernel_rfl) (.cons (.inl ⟨rfl,(Ql U Xy (j60.cell 13 U U))⟩) .nil))) ?_
   refine Xi U U U (QQ U U U Wt (Xe U U U U U U ?_))
   (refine QV j60 U U Vf (by assumption) (i:=2) U (Xv U) ?_)
   intro w61 j62; dsimp only[List.set]at j62
   refine Zu (Xj (by kernel_rfl)) ?_
   refine VC.nil (Qc (Qh [2,3,4,5,6,7,9,8] U (Qd ?_)))
   have j63:=Xh (S:={S with cache:=S.cache.filter (fun n=> !decide (n=id))}) (j62.pick [2,3,4,0,6,7,8,9,12,10,13,1,11,5,14] U)
   refine Qa (Z7 U U (Rl U (XP (Zd (XS (Qr U Xy (j63.cell 3 U U) U ?_))))))
   have hIL:=GA hI hid hp2
   refine Zc RY U (Vi (j63.sp [0] U) (E:=one id) hIL hN) U ?_
   rintro e w64 ⟨_,rfl,(⟨rfl,hall,hfull,j64⟩ | ⟨k,S1,rfl,hg,j64⟩)⟩
   ·refine⟨_,U, ?_⟩
    replace j64:=j64.jn U U
    refine Qb U U (Qn U U U (Qn U U U (Qe U U (Qe U U (Qf (ZV (XP (Jh (L':=[(7,_),(4,_),(8,_),(6,_),(5,_),(3,_),(2,_)]) (Pf U U U U U U U) (Zd (Zd (XS (Qb U U (Xb U U (Qf (ZV (XP (HC U (fun h65=> ?_) (fun h65=> ?_))))))))))))))))))
    ·refine Zd (XS (Qe U U ?_))
     (refine QV j64 U U Un (by rfl) (i:=1) U (by decide) ?_)
     intro w66 j67; dsimp only[List.set]at j67
     refine Qf (ZV (XP (HT (UE ?_))))
     obtain⟨ba,bi,fp,sp,kp,ac,cc,at2,ct,hSo68⟩:=Zf (j67.pick [0,1,2,3,4,5,6,7] rfl)
     refine Eh (.inr U) Ki (H8 U (hSo68.sp [8,9,10,0] U)) ?_
     rintro v0 w9 hq9
     rw[if_neg (by decide)]at hq9
     replace hq9:=hq9.jn U U
     refine⟨_,VT U (Rt U) (CR U Gi (hq9.cell 0 U U)), ?_⟩
     exact⟨_,U,.inr (.inr ⟨hp2,U,hall,hfull,Xh (S:=S) (hq9.pick [3,4,5,13,7,8,9,10,14] U)⟩)⟩
    exact absurd h65 (by simp)
   refine⟨_,U, ?_⟩
   replace j64:=j64.jn U U
   refine Qb U U (Qn U U U (Qn U U U (Qe U U (Qe U U (Qf (ZV (XP (Jh (L':=[(7,_),(4,_),(8,_),(6,_),(5,_),(3,_),(2,_)]) (Pf U U U U U U U) (Zd (Zd (XS (Qb U U (Xb U U (Qf (ZV (XP (HC U (fun h69=> ?_) (fun h69=> ?_))))))))))))))))))
   ·exact absurd h69 (by simp)
   refine Vb (XP (Zd ?_))
   obtain⟨ba,bi,fp,sp,kp,ac,cc,at2,ct,hSo70⟩:=Zf (j64.pick [0,1,2,3,4,5,6,7] rfl)
   refine XS (Qr U Xy (hSo70.cell 10 U U) U (Qj U U (Qg U W2 U (Qr U YC (hSo70.cell 0 U U) U (Qb U U (Qb U U ?_))))))
   have hkl:k<S1.fr.length:=(Zb hg.fr).1
   have hfs:Vs (Nq S1 k).fr (k:Int) x.pg=S1.fr.set k (some x.pg):=Vw hkl
   refine Qv RX U (Uv (hSo70.sp [4] U) (k:Int) x.pg (hI.ent hid).2.2.2.2.1) U ?_
   rintro _ w71 ⟨_,rfl,j71⟩
   replace j71:=j71.jn U U
   clear hSo70
   rw[hfs]at j71
   refine Qf (ZV (XP (Jh (L':=[(4,_),(6,_),(5,_),(3,_),(2,_)]) (Hi U U U U U) (Zd ?_))))
   have j72:=j71.drew
   refine VG Wa (HQ (sp:=[15,17,18,20]) [0,1,2,3,4,5,6,7,8,9,10,11,12,13,14,15,16,17,18,19,20] (by kernel_rfl) ?_)
   refine Q4 U U U (Ql U Xy (j72.cell 10 U U)) (Xi U U U (QQ U U U XI (Q4 U U U (Ql U Zs (j72.cell 1 U U)) (Q4 U U U (Ql U QL (j72.cell 11 U U)) (Q4 U U U (Ql U Xy (j72.cell 10 U U)) (Xi U U U (QQ U U U YA (Q4 U U U (Ql U ZY (j72.cell 1 U U)) (Q9 U U U (QQ U U U JD (Q4 U U U (Ql U QL (j72.cell 12 U U)) (Q9 U U U (QZ U U U (fun _=>(ZC U Ji Ud XO U)) ?_)))))))))))))
   refine Q4 U U U (Ql U QL (j72.cell 11 U U)) (Xe U U U U U U ?_)
   refine Wh (k:=id) 2 j72 keysInt underlying108 U U U XO U ?_
   intro u73 c73 w73 j73; dsimp only[List.set]at j73
   refine Xz (.cons (.inl ⟨rfl,(Ql U QL (j73.cell 11 U U))⟩) (.cons (.inl ⟨rfl,(Ql U QL (j73.cell 12 U U))⟩) (Xj (by kernel_rfl)))) ?_
   refine Wi U U U U (Xe U U U U U U ?_)
   have hsv74:Value.agg #[intV x.refs,intV 1,intV (k:Nat),strV []]=S5 ⟨x.refs,1,(k:Nat),x.pg⟩:=rfl
   refine ZI (v:=Value.agg #[intV x.refs,intV 1,intV (k:Nat),strV []]) 2 j73 keysInt U U U U ?_
   intro w74 hS74a; dsimp only[List.set]at hS74a; have j74:=hS74a; rw[hsv74,KA]at j74
   refine Zu (.cons (.inl ⟨rfl,(Ql U QL (j74.cell 11 U U))⟩) (Xj (by kernel_rfl))) ?_
   refine Xe U U U U U U ?_
   refine Wh (k:=(k:Int)) 3 j74 keysInt underlying109 U U U Hj U ?_
   intro u75 c75 w75 j75; dsimp only[List.set]at j75
   refine Xz (.cons (.inl ⟨rfl,(Ql U QL (j75.cell 11 U U))⟩) (Xj (by kernel_rfl))) ?_
   refine Wi U U U U (Xe U U U U U U ?_)
   refine ZI (v:=intV id) 3 j75 keysInt U U U U ?_
   intro w76 hS76a; dsimp only[List.set]at hS76a; have j76:=hS76a; rw[RB]at j76
   refine Zu (Xj (by kernel_rfl)) ?_
   refine VC.nil (ZV (XP (Jh (L':=[(4,_),(5,_)]) (Bo U U) (Zd (XS (Qb U U (Qe U U ?_)))))))
   (refine QV j76 U U Un (by rfl) (i:=8) U (by decide) ?_)
   intro w77 j78; dsimp only[List.set]at j78
   refine Qf (ZV (XP (HT (Eh (.inr U) Ki (H8 U (j78.sp [8,9,10,1] U)) ?_))))
   rintro v0 w9 hq9
   rw[if_pos U]at hq9
   replace hq9:=hq9.jn U U
   refine⟨_,VT U (Rt U) (CR U Gi (hq9.cell 0 U U)), ?_⟩
   exact⟨_,rfl,.inr (.inl ⟨k,_,hp1,rfl,Gc hI hid hp1 (SL:={S with cache:=S.cache.filter (fun n=> !decide (n=id))}) ⟨rfl,rfl,rfl,rfl,rfl,rfl⟩ hg,Xh (S:=onF S1 id k x.refs x.pg S1.next) (hq9.pick [3,5,6,7,4,8,9,10,14] U)⟩)⟩
  have hp3:x.place=3:= by omega
  have j79:=j56.drew
  refine QE [0,1,2,3,4,5,6] [6] Wa (by kernel_rfl) ?_
  refine Q4 U U U (Ql U Xy (j79.cell 12 U U)) (Xi U U U (QQ U U U Yf (Q4 U U U (Ql U Uj (j79.cell 0 U U)) (QQ U U U Y9 (Q4 U U U (Ql U QL (j79.cell 9 U U)) (Xe U U U U U U ?_))))))
  refine Qv Ch U (Gw (j79.sp [5] U) x.at_) U ?_
  rintro _ w80 ⟨rfl,j80⟩
  replace j80:=j80.jn U U
  rw[(Vh hI (fun q=>q) hid hp3).2.2]at j80
  refine Xz (Xj (by kernel_rfl)) ?_
  refine VC.nil (Qc (Qh [2,3,4,5,6,7,9,8] U (Qd ?_)))
  have j81:=Xh (S:={S with sl:=S.sl.set x.at_.toNat []}) (j80.pick [1,2,3,4,5,0,6,7,10,8,12,11,9,13] U)
  refine Qa (Z7 U U (Rl U (XP (Zd (XS (Qr U Xy (j81.cell 3 U U) U ?_))))))
  have hIL:=D0 hI hid hp3
  refine Zc RY U (Vi (j81.sp [0] U) (E:=one id) hIL hN) U ?_
  rintro e w82 ⟨_,rfl,(⟨rfl,hall,hfull,j82⟩ | ⟨k,S1,rfl,hg,j82⟩)⟩
  ·exact absurd hfull (by have hz:=BV.2 (List.mem_of_getElem? (List.getElem?_set_self (l:=S.sl) (i:=x.at_.toNat) (a:=([]:Bs)) (Zb (hI.slt (fun q=>q) hid hp3).2).1)); dsimp only;omega)
  refine⟨_,U, ?_⟩
  replace j82:=j82.jn U U
  refine Qb U U (Qn U U U (Qn U U U (Qe U U (Qe U U (Qf (ZV (XP (Jh (L':=[(7,_),(4,_),(8,_),(6,_),(5,_),(3,_),(2,_)]) (Pf U U U U U U U) (Zd (Zd (XS (Qb U U (Xb U U (Qf (ZV (XP (HC U (fun h83=> ?_) (fun h83=> ?_))))))))))))))))))
  ·exact absurd h83 (by simp)
  refine Vb (XP (Zd ?_))
  obtain⟨ba,bi,fp,sp,kp,ac,cc,at2,ct,hSo84⟩:=Zf (j82.pick [0,1,2,3,4,5,6] rfl)
  refine XS (Qr U Xy (hSo84.cell 10 U U) U (Qj U U (Qg U W2 U (Qr U YC (hSo84.cell 0 U U) U (Qb U U (Qb U U ?_))))))
  have hkl:k<S1.fr.length:=(Zb hg.fr).1
  have hfs:Vs (Nq S1 k).fr (k:Int) x.pg=S1.fr.set k (some x.pg):=Vw hkl
  refine Qv RX U (Uv (hSo84.sp [4] U) (k:Int) x.pg (hI.ent hid).2.2.2.2.1) U ?_
  rintro _ w85 ⟨_,rfl,j85⟩
  replace j85:=j85.jn U U
  clear hSo84
  rw[hfs]at j85
  refine Qf (ZV (XP (Jh (L':=[(4,_),(6,_),(5,_),(3,_),(2,_)]) (Hi U U U U U) (Zd ?_))))
  have j86:=j85.drew
  refine VG Wa (HQ (sp:=[15,17,18,20]) [0,1,2,3,4,5,6,7,8,9,10,11,12,13,14,15,16,17,18,19,20] (by kernel_rfl) ?_)
  refine Q4 U U U (Ql U Xy (j86.cell 10 U U)) (Xi U U U (QQ U U U XI (Q4 U U U (Ql U Zs (j86.cell 1 U U)) (Q4 U U U (Ql U QL (j86.cell 11 U U)) (Q4 U U U (Ql U Xy (j86.cell 10 U U)) (Xi U U U (QQ U U U YA (Q4 U U U (Ql U ZY (j86.cell 1 U U)) (Q9 U U U (QQ U U U JD (Q4 U U U (Ql U QL (j86.cell 12 U U)) (Q9 U U U (QZ U U U (fun _=>(ZC U Ji Ud XO U)) ?_)))))))))))))
  refine Q4 U U U (Ql U QL (j86.cell 11 U U)) (Xe U U U U U U ?_)
  refine Wh (k:=id) 2 j86 keysInt underlying108 U U U XO U ?_
  intro u87 c87 w87 j87; dsimp only[List.set]at j87
  refine Xz (.cons (.inl ⟨rfl,(Ql U QL (j87.cell 11 U U))⟩) (.cons (.inl ⟨rfl,(Ql U QL (j87.cell 12 U U))⟩) (Xj (by kernel_rfl)))) ?_
  refine Wi U U U U (Xe U U U U U U ?_)
  have hsv88:Value.agg #[intV x.refs,intV 1,intV (k:Nat),strV []]=S5 ⟨x.refs,1,(k:Nat),x.pg⟩:=rfl
  refine ZI (v:=Value.agg #[intV x.refs,intV 1,intV (k:Nat),strV []]) 2 j87 keysInt U U U U ?_
  intro w88 hS88a; dsimp only[List.set]at hS88a; have j88:=hS88a; rw[hsv88,KA]at j88
  refine Zu (.cons (.inl ⟨rfl,(Ql U QL (j88.cell 11 U U))⟩) (Xj (by kernel_rfl))) ?_
  refine Xe U U U U U U ?_
  refine Wh (k:=(k:Int)) 3 j88 keysInt underlying109 U U U Hj U ?_
  intro u89 c89 w89 j89; dsimp only[List.set]at j89
  refine Xz (.cons (.inl ⟨rfl,(Ql U QL (j89.cell 11 U U))⟩) (Xj (by kernel_rfl))) ?_
  refine Wi U U U U (Xe U U U U U U ?_)
  refine ZI (v:=intV id) 3 j89 keysInt U U U U ?_
  intro w90 hS90a; dsimp only[List.set]at hS90a; have j90:=hS90a; rw[RB]at j90
  refine Zu (Xj (by kernel_rfl)) ?_
  refine VC.nil (ZV (XP (Jh (L':=[(4,_),(5,_)]) (Bo U U) (Zd (XS (Qb U U (Qe U U ?_)))))))
  (refine QV j90 U U Un (by rfl) (i:=8) U (by decide) ?_)
  intro w91 j92; dsimp only[List.set]at j92
  refine Qf (ZV (XP (HT (Eh (.inr U) Ki (H8 U (j92.sp [8,9,10,1] U)) ?_))))
  rintro v0 w9 hq9
  rw[if_pos U]at hq9
  replace hq9:=hq9.jn U U
  refine⟨_,VT U (Rt U) (CR U Gi (hq9.cell 0 U U)), ?_⟩
  exact⟨_,U,.inr (.inl ⟨k,_,hp1,U,Gc hI hid hp1 (SL:={S with sl:=S.sl.set x.at_.toNat []}) ⟨U,U,U,U,U,U⟩ hg,Xh (S:=onF S1 id k x.refs x.pg S1.next) (hq9.pick [3,5,6,7,4,8,9,10,13] U)⟩)⟩
