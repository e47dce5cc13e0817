/- the law: arrive -/
import Derived.Test.YtiibgheijbbmaaaGreatDoorMvs
set_option linter.unusedVariables false
set_option maxRecDepth 100000
namespace Go.Proofs.YtiibgheijbbmaaaGreatDoor
open Go.RowKit M Proofs.Tryz
section
variable {X:TwD} {n:Int} {s:Bs}
theorem N6 (h:X.fl[(Zs n X.fl.length).toNat]? =none):Zw X n=X:= by unfold Zw; rw[h]
theorem LP (h:X.fl[(Zs n X.fl.length).toNat]? =some (false,s)):Zw X n=Wp {X with fl:=X.fl.eraseIdx (Zs n X.fl.length).toNat,a:=(Zt X.a s).1} false (Zt X.a s).2:= by unfold Zw; rw[h];rfl
theorem LN (h:X.fl[(Zs n X.fl.length).toNat]? =some (true,s)):Zw X n=Wp {X with fl:=X.fl.eraseIdx (Zs n X.fl.length).toNat,b:=(Zt X.b s).1} true (Zt X.b s).2:= by unfold Zw; rw[h];rfl
theorem HM (h:X.fl[(Zs n X.fl.length).toNat]? =none):Fz X.fl (Zs n X.fl.length)=4∧Bx X.fl (Zs n X.fl.length)=X.fl:= by
  have h2: ¬(0≤Zs n X.fl.length∧Zs n X.fl.length<(X.fl.length:Int)):= fun q=> by
    have :=List.getElem?_eq_none_iff.1 h
    omega
  exact⟨(MK h2).2.2,(MK h2).1⟩
theorem Z0 {p:Bool×Bs} (h:X.fl[(Zs n X.fl.length).toNat]? =some p):Fz X.fl (Zs n X.fl.length)=0∧Bx X.fl (Zs n X.fl.length)=X.fl.eraseIdx (Zs n X.fl.length).toNat∧Fy X.fl (Zs n X.fl.length)=(if p.1=true then 1 else 0,p.2):= by
  have hl:=(Jh h).1
  have h0:=(CC (n:=n) (m:=X.fl.length) (by omega)).1
  obtain⟨k,hk⟩: ∃k:Nat,Zs n X.fl.length=(k:Int):=⟨_,(Int.toNat_of_nonneg h0).symm⟩
  rw[hk]at h⊢
  rw[Int.toNat_natCast]at h⊢
  exact⟨(KY h).2.2,(KY h).1,(KY h).2.1⟩
end
theorem UG {E:EnD} {s:Bs} (hW:EW E) (hs:s.length≤1000):(Zt E s).2.length≤1:= by
  have t0: ∀x:Bs,[x].length≤1:= fun _=>Nat.le_refl _
  have t1:([]:List Bs).length≤1:=Nat.zero_le _
  unfold Zt
  split
  · exact t1
  unfold XS
  split
  · exact t1
  split
  · unfold X3
    split
    · exact t1
    split
    · exact t1
    split
    · exact t1
    split
    · exact t1
    split
    · exact t1
    unfold YX
    split
    · exact t1
    · exact t0 _
  split
  · unfold Xj
    split
    · exact t0 _
    split
    · exact t1
    split
    · split
      · exact t1
      · exact t0 _
    split
    · exact t0 _
    · exact t0 _
  split
  · exact t1
  split
  · exact t1
  split
  · unfold Z8
    split
    · exact t1
    split
    · exact t0 _
    split
    · exact t1
    · exact t0 _
  split
  · exact t1
  split
  · unfold ZJ
    split
    · exact t1
    · exact t0 _
  · exact t1
theorem IR {w:World} [tq:Inhabited TwQ] {x:Nat} {X:TwD} {F:Th} (hS:Sat w [GW x X,F]) (hG:Ent F WireG) (hO:Ent F (Glob 0)) (hW:XW X) (n:Int) (hp:X.fl[(Zs n X.fl.length).toNat]? =none):
    Calls prog 49 #[ptrV x 0,intV n] w (Ret fun v w'=>v= .tuple #[]∧Sat w' [GW x (Zw X n),F]):= by
 obtain⟨eb,ecap,a,b,p,hq0,hS⟩:=H4 hS
 refine Qx func49 Qa ntmps49 Qa ?_
 refine Qg ?_
 have hS1:=hS.drew
 refine DF Wv (Hh 9 15 Qa ?_ ?_)
 ·refine Hh 10 15 Qa ?_ ?_
  ·refine Hh 11 15 Qa ?_ ?_
   ·refine VP (sp:=[9,10,11,15,16]) [0,1,2,3,4,5,6,7,8,9,10,11,12,13,14,15,16,17] (by kernel_rfl) ?_
    refine QK Qa Qa Qa (Xm Qa Qa Qa (QN Qa Qa Qa XN (Q9 Qa Qa Qa (Qn Qa Xv (hS1.cell 0 Qa Qa)) (QK Qa Qa Qa (QK Qa Qa Qa (Xm Qa Qa Qa (QN Qa Qa Qa XN (Q9 Qa Qa Qa (Qn Qa Xv (hS1.cell 0 Qa Qa)) (QS Qa Qa Qa Qa Qa Qa ?_)))))))))
    refine Qz Yu Qa (ZE (hS1.sp [4] Qa)) Qa ?_
    rintro _ w2 ⟨rfl,hS2⟩
    replace hS2:=hS2.jn Qa Qa
    refine Xe (.skip (by kernel_rfl) (.cons (.inl ⟨rfl,(Qn Qa Xv (hS2.cell 1 Qa Qa))⟩) .nil)) ?_
    refine QS Qa Qa Qa Qa Qa Qa ?_
    refine Qz Yv Qa (Yq (hS2.sp [] Qa) n (X.fl.length:Int) (by have :=hW.ln;omega)) Qa ?_
    rintro _ w3 ⟨rfl,hS3⟩
    replace hS3:=hS3.jn Qa Qa
    refine Xe (.skip (by kernel_rfl) (.cons (.inl ⟨rfl,(Qn Qa Xv (hS3.cell 1 Qa Qa))⟩) .nil)) ?_
    refine QS Qa Qa Qa Qa Qa Qa ?_
    refine Qz Ht Qa (Ju (hS3.sp [0] Qa) (Zs n X.fl.length) hW.ln) Qa ?_
    rintro _ w4 ⟨rfl,hS4⟩
    replace hS4:=hS4.jn Qa Qa
    rw[(HM hp).1]
    rw[(HM hp).2]at hS4
    refine Xe (Xp (by kernel_rfl)) ?_
    refine QK Qa Qa Qa (Yn Qa Qa Qa Qa (Yn Qa Qa Qa Qa (QS Qa Qa Qa Qa Qa Qa ?_)))
    refine Xl hS4 Jk Qa Qa ?_
    intro b5 w5 hS5
    refine Xe (Xp (by kernel_rfl)) ?_
    refine QS Qa Qa Qa Qa Qa Qa ?_
    (refine QZ hS5 Qa Qa W9 Qa (by rfl) (i:=0) Qa (by decide) ?_)
    intro w6 hS7; dsimp only[List.set]at hS7
    refine Z6 (Xp (by kernel_rfl)) ?_
    refine WY Qa Qa Qa (VC.nil (Qd (Qk [0,4,5] Qa (Qg (Qb (Qe Qa Qa (QL Qa Qa Qa (Qe Qa Qa (Q4 23 Qa (fun h8=> ?_) (fun h8=> ?_))))))))))
    ·(exfalso; have q9:=h8; simp at q9)
    refine Qf Qa Qa (Qw h8) Qa (Qf Qa Qa (Qw h8) Qa (Qf Qa Qa (Qw h8) Qa (Q1 Qa (Qw h8) Qa Qa (Qe Qa Qa (Qf Qa Qa Qa Qa (Qf Qa Qa Qa Qa (Qf Qa Qa Qa Qa (Q1 Qa Qa Qa Qa (Qh (Qd (Qk [0,4,32] Qa (QI Qa (Qr (Y4 (.inl Qa) Qa ?_))))))))))))))
    exact⟨_,rfl,rfl, by rw[N6 hp]; exact QY (X:=X) (hS7.pick [2,3,4,5,1,6] Qa) (by assumption)⟩
   refine VP (sp:=[9,10,11,15,16]) [0,1,2,3,4,5,6,7,8,9,10,15,11,12,13,14,16,17] (by kernel_rfl) ?_
   refine QK Qa Qa Qa (Xm Qa Qa Qa (QN Qa Qa Qa XN (Q9 Qa Qa Qa (Qn Qa Xv (hS1.cell 0 Qa Qa)) (QK Qa Qa Qa (QK Qa Qa Qa (Xm Qa Qa Qa (QN Qa Qa Qa XN (Q9 Qa Qa Qa (Qn Qa Xv (hS1.cell 0 Qa Qa)) (QS Qa Qa Qa Qa Qa Qa ?_)))))))))
   refine Qz Yu Qa (ZE (hS1.sp [4] Qa)) Qa ?_
   rintro _ w9 ⟨rfl,hS9⟩
   replace hS9:=hS9.jn Qa Qa
   refine Xe (.skip (by kernel_rfl) (.cons (.inl ⟨rfl,(Qn Qa Xv (hS9.cell 1 Qa Qa))⟩) .nil)) ?_
   refine QS Qa Qa Qa Qa Qa Qa ?_
   refine Qz Yv Qa (Yq (hS9.sp [] Qa) n (X.fl.length:Int) (by have :=hW.ln;omega)) Qa ?_
   rintro _ w10 ⟨rfl,hS10⟩
   replace hS10:=hS10.jn Qa Qa
   refine Xe (.skip (by kernel_rfl) (.cons (.inl ⟨rfl,(Qn Qa Xv (hS10.cell 1 Qa Qa))⟩) .nil)) ?_
   refine QS Qa Qa Qa Qa Qa Qa ?_
   refine Xl hS10 Jk Qa Qa ?_
   intro b11 w11 hS11
   refine Xe (.skip (by kernel_rfl) (.cons (.inl ⟨rfl,(Qn Qa Xv (hS11.cell 2 Qa Qa))⟩) .nil)) ?_
   refine QS Qa Qa Qa Qa Qa Qa ?_
   refine Qz Ht Qa (Ju (hS11.sp [1] Qa) (Zs n X.fl.length) hW.ln) Qa ?_
   rintro _ w12 ⟨rfl,hS12⟩
   replace hS12:=hS12.jn Qa Qa
   rw[(HM hp).1]
   rw[(HM hp).2]at hS12
   refine Xe (Xp (by kernel_rfl)) ?_
   refine QK Qa Qa Qa (Yn Qa Qa Qa Qa (Yn Qa Qa Qa Qa (QS Qa Qa Qa Qa Qa Qa ?_)))
   (refine QZ hS12 Qa Qa W9 Qa (by rfl) (i:=1) Qa (by decide) ?_)
   intro w13 hS14; dsimp only[List.set]at hS14
   refine Z6 (Xp (by kernel_rfl)) ?_
   refine WY Qa Qa Qa (VC.nil (Qd (Qk [0,4,5] Qa (Qg (Qb (Qe Qa Qa (QL Qa Qa Qa (Qe Qa Qa (Q4 23 Qa (fun h15=> ?_) (fun h15=> ?_))))))))))
   ·(exfalso; have q9:=h15; simp at q9)
   refine Qf Qa Qa (Qw h15) Qa (Qf Qa Qa (Qw h15) Qa (Qf Qa Qa (Qw h15) Qa (Q1 Qa (Qw h15) Qa Qa (Qe Qa Qa (Qf Qa Qa Qa Qa (Qf Qa Qa Qa Qa (Qf Qa Qa Qa Qa (Q1 Qa Qa Qa Qa (Qh (Qd (Qk [0,4,32] Qa (QI Qa (Qr (Y4 (.inl Qa) Qa ?_))))))))))))))
   exact⟨_,rfl,rfl, by rw[N6 hp]; exact QY (X:=X) (hS14.pick [2,3,4,5,0,6] Qa) (by assumption)⟩
  refine VP (sp:=[9,10,11,15,16]) [0,1,2,3,4,5,6,7,8,9,15,10,11,12,13,14,16,17] (by kernel_rfl) ?_
  refine QK Qa Qa Qa (Xm Qa Qa Qa (QN Qa Qa Qa XN (Q9 Qa Qa Qa (Qn Qa Xv (hS1.cell 0 Qa Qa)) (QK Qa Qa Qa (QK Qa Qa Qa (Xm Qa Qa Qa (QN Qa Qa Qa XN (Q9 Qa Qa Qa (Qn Qa Xv (hS1.cell 0 Qa Qa)) (QS Qa Qa Qa Qa Qa Qa ?_)))))))))
  refine Qz Yu Qa (ZE (hS1.sp [4] Qa)) Qa ?_
  rintro _ w16 ⟨rfl,hS16⟩
  replace hS16:=hS16.jn Qa Qa
  refine Xe (.skip (by kernel_rfl) (.cons (.inl ⟨rfl,(Qn Qa Xv (hS16.cell 1 Qa Qa))⟩) .nil)) ?_
  refine QS Qa Qa Qa Qa Qa Qa ?_
  refine Xl hS16 Jk Qa Qa ?_
  intro b17 w17 hS17
  refine Xe (.skip (by kernel_rfl) (.cons (.inl ⟨rfl,(Qn Qa Xv (hS17.cell 2 Qa Qa))⟩) .nil)) ?_
  refine QS Qa Qa Qa Qa Qa Qa ?_
  refine Qz Yv Qa (Yq (hS17.sp [] Qa) n (X.fl.length:Int) (by have :=hW.ln;omega)) Qa ?_
  rintro _ w18 ⟨rfl,hS18⟩
  replace hS18:=hS18.jn Qa Qa
  refine Xe (.skip (by kernel_rfl) (.cons (.inl ⟨rfl,(Qn Qa Xv (hS18.cell 2 Qa Qa))⟩) .nil)) ?_
  refine QS Qa Qa Qa Qa Qa Qa ?_
  refine Qz Ht Qa (Ju (hS18.sp [1] Qa) (Zs n X.fl.length) hW.ln) Qa ?_
  rintro _ w19 ⟨rfl,hS19⟩
  replace hS19:=hS19.jn Qa Qa
  rw[(HM hp).1]
  rw[(HM hp).2]at hS19
  refine Xe (Xp (by kernel_rfl)) ?_
  refine QK Qa Qa Qa (Yn Qa Qa Qa Qa (Yn Qa Qa Qa Qa (QS Qa Qa Qa Qa Qa Qa ?_)))
  (refine QZ hS19 Qa Qa W9 Qa (by rfl) (i:=1) Qa (by decide) ?_)
  intro w20 hS21; dsimp only[List.set]at hS21
  refine Z6 (Xp (by kernel_rfl)) ?_
  refine WY Qa Qa Qa (VC.nil (Qd (Qk [0,4,5] Qa (Qg (Qb (Qe Qa Qa (QL Qa Qa Qa (Qe Qa Qa (Q4 23 Qa (fun h22=> ?_) (fun h22=> ?_))))))))))
  ·(exfalso; have q9:=h22; simp at q9)
  refine Qf Qa Qa (Qw h22) Qa (Qf Qa Qa (Qw h22) Qa (Qf Qa Qa (Qw h22) Qa (Q1 Qa (Qw h22) Qa Qa (Qe Qa Qa (Qf Qa Qa Qa Qa (Qf Qa Qa Qa Qa (Qf Qa Qa Qa Qa (Q1 Qa Qa Qa Qa (Qh (Qd (Qk [0,4,32] Qa (QI Qa (Qr (Y4 (.inl Qa) Qa ?_))))))))))))))
  exact⟨_,rfl,rfl, by rw[N6 hp]; exact QY (X:=X) (hS21.pick [2,3,4,5,0,6] Qa) (by assumption)⟩
 refine VP (sp:=[9,10,11,15,16]) [0,1,2,3,4,5,6,7,8,15,9,10,11,12,13,14,16,17] (by kernel_rfl) ?_
 refine QK Qa Qa Qa (Xm Qa Qa Qa (QN Qa Qa Qa XN (Q9 Qa Qa Qa (Qn Qa Xv (hS1.cell 0 Qa Qa)) (QK Qa Qa Qa (QK Qa Qa Qa (Xm Qa Qa Qa (QN Qa Qa Qa XN (Q9 Qa Qa Qa (Qn Qa Xv (hS1.cell 0 Qa Qa)) (QS Qa Qa Qa Qa Qa Qa ?_)))))))))
 refine Xl hS1 Jk Qa Qa ?_
 intro b23 w23 hS23
 refine Xe (.cons (.inl ⟨Qa,(Qn Qa Xv (hS23.cell 1 Qa Qa))⟩) (.cons (.inl ⟨Qa,(Qn Qa Xv (hS23.cell 1 Qa Qa))⟩) .nil)) (QS Qa Qa Qa Qa Qa Qa ?_)
 refine Qz Yu Qa (ZE (hS23.sp [5] Qa)) Qa ?_
 rintro _ w24 ⟨rfl,hS24⟩
 replace hS24:=hS24.jn Qa Qa
 refine Xe (.skip (by kernel_rfl) (.cons (.inl ⟨rfl,(Qn Qa Xv (hS24.cell 2 Qa Qa))⟩) .nil)) ?_
 refine QS Qa Qa Qa Qa Qa Qa ?_
 refine Qz Yv Qa (Yq (hS24.sp [] Qa) n (X.fl.length:Int) (by have :=hW.ln;omega)) Qa ?_
 rintro _ w25 ⟨rfl,hS25⟩
 replace hS25:=hS25.jn Qa Qa
 refine Xe (.skip (by kernel_rfl) (.cons (.inl ⟨rfl,(Qn Qa Xv (hS25.cell 2 Qa Qa))⟩) .nil)) ?_
 refine QS Qa Qa Qa Qa Qa Qa ?_
 refine Qz Ht Qa (Ju (hS25.sp [0] Qa) (Zs n X.fl.length) hW.ln) Qa ?_
 rintro _ w26 ⟨rfl,hS26⟩
 replace hS26:=hS26.jn Qa Qa
 rw[(HM hp).1]
 rw[(HM hp).2]at hS26
 refine Xe (Xp (by kernel_rfl)) ?_
 refine QK Qa Qa Qa (Yn Qa Qa Qa Qa (Yn Qa Qa Qa Qa (QS Qa Qa Qa Qa Qa Qa ?_)))
 (refine QZ hS26 Qa Qa W9 Qa (by rfl) (i:=1) Qa (by decide) ?_)
 intro w27 hS28; dsimp only[List.set]at hS28
 refine Z6 (Xp (by kernel_rfl)) ?_
 refine WY Qa Qa Qa (VC.nil (Qd (Qk [0,4,5] Qa (Qg (Qb (Qe Qa Qa (QL Qa Qa Qa (Qe Qa Qa (Q4 23 Qa (fun h29=> ?_) (fun h29=> ?_))))))))))
 ·(exfalso; have q9:=h29; simp at q9)
 refine Qf Qa Qa (Qw h29) Qa (Qf Qa Qa (Qw h29) Qa (Qf Qa Qa (Qw h29) Qa (Q1 Qa (Qw h29) Qa Qa (Qe Qa Qa (Qf Qa Qa Qa Qa (Qf Qa Qa Qa Qa (Qf Qa Qa Qa Qa (Q1 Qa Qa Qa Qa (Qh (Qd (Qk [0,4,32] Qa (QI Qa (Qr (Y4 (.inl Qa) Qa ?_))))))))))))))
 exact⟨_,rfl,rfl, by rw[N6 hp]; exact QY (X:=X) (hS28.pick [2,3,4,5,0,6] Qa) (by assumption)⟩
theorem IS {w:World} [tq:Inhabited TwQ] {x:Nat} {X:TwD} {F:Th} (hS:Sat w [GW x X,F]) (hG:Ent F WireG) (hO:Ent F (Glob 0)) (hW:XW X) (n:Int) {s:Bs} (hp:X.fl[(Zs n X.fl.length).toNat]? =some (false,s)):
    Calls prog 49 #[ptrV x 0,intV n] w (Ret fun v w'=>v= .tuple #[]∧Sat w' [GW x (Zw X n),F]):= by
 obtain⟨eb,ecap,a,b,p,hq0,hS⟩:=H4 hS
 refine Qx func49 Qa ntmps49 Qa ?_
 refine Qg ?_
 have hS1:=hS.drew
 refine DF Wv (Hh 9 15 Qa ?_ ?_)
 ·refine Hh 10 15 Qa ?_ ?_
  ·refine Hh 11 15 Qa ?_ ?_
   ·refine VP (sp:=[9,10,11,15,16]) [0,1,2,3,4,5,6,7,8,9,10,11,12,13,14,15,16,17] (by kernel_rfl) ?_
    refine QK Qa Qa Qa (Xm Qa Qa Qa (QN Qa Qa Qa XN (Q9 Qa Qa Qa (Qn Qa Xv (hS1.cell 0 Qa Qa)) (QK Qa Qa Qa (QK Qa Qa Qa (Xm Qa Qa Qa (QN Qa Qa Qa XN (Q9 Qa Qa Qa (Qn Qa Xv (hS1.cell 0 Qa Qa)) (QS Qa Qa Qa Qa Qa Qa ?_)))))))))
    refine Qz Yu Qa (ZE (hS1.sp [4] Qa)) Qa ?_
    rintro _ w2 ⟨rfl,hS2⟩
    replace hS2:=hS2.jn Qa Qa
    refine Xe (.skip (by kernel_rfl) (.cons (.inl ⟨rfl,(Qn Qa Xv (hS2.cell 1 Qa Qa))⟩) .nil)) ?_
    refine QS Qa Qa Qa Qa Qa Qa ?_
    refine Qz Yv Qa (Yq (hS2.sp [] Qa) n (X.fl.length:Int) (by have :=hW.ln;omega)) Qa ?_
    rintro _ w3 ⟨rfl,hS3⟩
    replace hS3:=hS3.jn Qa Qa
    refine Xe (.skip (by kernel_rfl) (.cons (.inl ⟨rfl,(Qn Qa Xv (hS3.cell 1 Qa Qa))⟩) .nil)) ?_
    refine QS Qa Qa Qa Qa Qa Qa ?_
    refine Qz Ht Qa (Ju (hS3.sp [0] Qa) (Zs n X.fl.length) hW.ln) Qa ?_
    rintro _ w4 ⟨rfl,hS4⟩
    replace hS4:=hS4.jn Qa Qa
    rw[(Z0 hp).1,(Z0 hp).2.2]
    rw[(Z0 hp).2.1]at hS4
    dsimp only
    refine Xe (Xp (by kernel_rfl)) ?_
    refine QK Qa Qa Qa (Yn Qa Qa Qa Qa (Yn Qa Qa Qa Qa (QS Qa Qa Qa Qa Qa Qa ?_)))
    refine Xl hS4 Jk Qa Qa ?_
    intro b5 w5 hS5
    refine Xe (Xp (by kernel_rfl)) ?_
    refine QS Qa Qa Qa Qa Qa Qa ?_
    (refine QZ hS5 Qa Qa W9 Qa (by rfl) (i:=0) Qa (by decide) ?_)
    intro w6 hS7; dsimp only[List.set]at hS7
    refine Z6 (Xp (by kernel_rfl)) ?_
    refine WY Qa Qa Qa (VC.nil (Qd (Qk [0,4,5] Qa (Qg (Qb (Qe Qa Qa (QL Qa Qa Qa (Qe Qa Qa (Q4 23 Qa (fun h8=> ?_) (fun h8=> ?_))))))))))
    ·refine Qj Qa Qa (Q8 h8) (Qi Qa XJ Qa (Qj Qa Qa (Q8 h8) (Qq Qa QF (hS7.cell 0 Qa Qa) Qa (Qj Qa Qa (Q8 h8) (WX Qa Qa Qa (Q0 Qa (Q8 h8) Qa Qa (Qe Qa Qa (Q4 28 Qa (fun h9=> ?_) (fun h9=> ?_)))))))))
     ·refine Qj Qa Qa (Q8 h9) (Qi Qa XJ Qa (Qj Qa Qa (Q8 h9) (Qq Qa QF (hS7.cell 0 Qa Qa) Qa (Qj Qa Qa (Q8 h9) (W8 Qa Qa Qa (Q0 Qa (Q8 h9) Qa Qa (Qh (Qd (Qk [0,4,32] Qa (Qt Qa (fun h10=> ?_) (fun h10=> ?_)))))))))))
      ·have hS11:=hS7.drew
       refine QM [0,1,2,3,4,5,6,7,8,9,10,11,12,13,14] [13,14] Wv (by kernel_rfl) ?_
       refine QK Qa Qa Qa (QN Qa Qa Qa XJ (Q9 Qa Qa Qa (Qn Qa QF (hS11.cell 0 Qa Qa)) (QK Qa Qa Qa (Xm Qa Qa Qa (QN Qa Qa Qa ZV (Q9 Qa Qa Qa (Qn Qa JX (hS11.cell 2 Qa Qa)) (QN Qa Qa Qa XJ (Q9 Qa Qa Qa (Qn Qa QF (hS11.cell 0 Qa Qa)) (QC Qa Qa Qa (fun _=>(Xk 0 Qa Qa (by rfl) (by omega) JU)) ?_)))))))))
       refine Q9 Qa Qa Qa (XK R8 3 0 0 hS11 Qa (by rfl) Jy Qa Qa) ?_
       refine QN Qa Qa Qa HG (Q9 Qa Qa Qa (Qn Qa Zr (hS11.cell 0 Qa Qa)) (QS Qa Qa Qa Qa Qa Qa ?_))
       refine Qz HQ Qa (Y8 (hS11.sp [4] Qa) (hG.starL 5 Qa) (hO.starL 5 Qa) hW.a s (hW.fl _ (List.mem_of_getElem? hp))) Qa ?_
       rintro _ w12 hS12
       replace hS12:=hS12.jn Qa Qa
       have h1r:=hS12.own_one 0 Qa
       refine Xe (.skip (by kernel_rfl) (.skip (by kernel_rfl) (.skip (by kernel_rfl) (.skip (by kernel_rfl) (.cons (.inl ⟨rfl,(Qn Qa QF (hS12.cell 2 Qa Qa))⟩) .nil))))) ?_
       have hS13:=QY (X:={X with fl:=X.fl.eraseIdx (Zs n X.fl.length).toNat,a:=(Zt X.a s).1}) (hS12.pick [4,5,1,6,3,0,2,7] Qa) (by assumption)
       refine QS Qa Qa Qa Qa Qa Qa ?_
       refine Qz Yt Qa (WE (i:=false) (hS13.sp [0,1] Qa) (by have :=UG (s:=s) hW.a (hW.fl _ (List.mem_of_getElem? hp));omega)) Qa ?_
       rintro _ w14 ⟨rfl,hS14⟩
       replace hS14:=hS14.jn Qa Qa
       refine Xe (Xp (by kernel_rfl)) ?_
       refine VC.nil (Y4 (.inl Qa) Qa ?_)
       exact⟨_,rfl,rfl, by rw[LP hp]; exact hS14.pick [0,2] Qa⟩
      (exfalso; have q9:=h10; simp at q9)
     (exfalso; have q9:=h9; simp at q9)
    (exfalso; have q9:=h8; simp at q9)
   refine VP (sp:=[9,10,11,15,16]) [0,1,2,3,4,5,6,7,8,9,10,15,11,12,13,14,16,17] (by kernel_rfl) ?_
   refine QK Qa Qa Qa (Xm Qa Qa Qa (QN Qa Qa Qa XN (Q9 Qa Qa Qa (Qn Qa Xv (hS1.cell 0 Qa Qa)) (QK Qa Qa Qa (QK Qa Qa Qa (Xm Qa Qa Qa (QN Qa Qa Qa XN (Q9 Qa Qa Qa (Qn Qa Xv (hS1.cell 0 Qa Qa)) (QS Qa Qa Qa Qa Qa Qa ?_)))))))))
   refine Qz Yu Qa (ZE (hS1.sp [4] Qa)) Qa ?_
   rintro _ w15 ⟨rfl,hS15⟩
   replace hS15:=hS15.jn Qa Qa
   refine Xe (.skip (by kernel_rfl) (.cons (.inl ⟨rfl,(Qn Qa Xv (hS15.cell 1 Qa Qa))⟩) .nil)) ?_
   refine QS Qa Qa Qa Qa Qa Qa ?_
   refine Qz Yv Qa (Yq (hS15.sp [] Qa) n (X.fl.length:Int) (by have :=hW.ln;omega)) Qa ?_
   rintro _ w16 ⟨rfl,hS16⟩
   replace hS16:=hS16.jn Qa Qa
   refine Xe (.skip (by kernel_rfl) (.cons (.inl ⟨rfl,(Qn Qa Xv (hS16.cell 1 Qa Qa))⟩) .nil)) ?_
   refine QS Qa Qa Qa Qa Qa Qa ?_
   refine Xl hS16 Jk Qa Qa ?_
   intro b17 w17 hS17
   refine Xe (.skip (by kernel_rfl) (.cons (.inl ⟨rfl,(Qn Qa Xv (hS17.cell 2 Qa Qa))⟩) .nil)) ?_
   refine QS Qa Qa Qa Qa Qa Qa ?_
   refine Qz Ht Qa (Ju (hS17.sp [1] Qa) (Zs n X.fl.length) hW.ln) Qa ?_
   rintro _ w18 ⟨rfl,hS18⟩
   replace hS18:=hS18.jn Qa Qa
   rw[(Z0 hp).1,(Z0 hp).2.2]
   rw[(Z0 hp).2.1]at hS18
   dsimp only
   refine Xe (Xp (by kernel_rfl)) ?_
   refine QK Qa Qa Qa (Yn Qa Qa Qa Qa (Yn Qa Qa Qa Qa (QS Qa Qa Qa Qa Qa Qa ?_)))
   (refine QZ hS18 Qa Qa W9 Qa (by rfl) (i:=1) Qa (by decide) ?_)
   intro w19 hS20; dsimp only[List.set]at hS20
   refine Z6 (Xp (by kernel_rfl)) ?_
   refine WY Qa Qa Qa (VC.nil (Qd (Qk [0,4,5] Qa (Qg (Qb (Qe Qa Qa (QL Qa Qa Qa (Qe Qa Qa (Q4 23 Qa (fun h21=> ?_) (fun h21=> ?_))))))))))
   ·refine Qj Qa Qa (Q8 h21) (Qi Qa XJ Qa (Qj Qa Qa (Q8 h21) (Qq Qa QF (hS20.cell 1 Qa Qa) Qa (Qj Qa Qa (Q8 h21) (WX Qa Qa Qa (Q0 Qa (Q8 h21) Qa Qa (Qe Qa Qa (Q4 28 Qa (fun h22=> ?_) (fun h22=> ?_)))))))))
    ·refine Qj Qa Qa (Q8 h22) (Qi Qa XJ Qa (Qj Qa Qa (Q8 h22) (Qq Qa QF (hS20.cell 1 Qa Qa) Qa (Qj Qa Qa (Q8 h22) (W8 Qa Qa Qa (Q0 Qa (Q8 h22) Qa Qa (Qh (Qd (Qk [0,4,32] Qa (Qt Qa (fun h23=> ?_) (fun h23=> ?_)))))))))))
     ·have hS24:=hS20.drew
      refine QM [0,1,2,3,4,5,6,7,8,9,10,11,12,13,14] [13,14] Wv (by kernel_rfl) ?_
      refine QK Qa Qa Qa (QN Qa Qa Qa XJ (Q9 Qa Qa Qa (Qn Qa QF (hS24.cell 1 Qa Qa)) (QK Qa Qa Qa (Xm Qa Qa Qa (QN Qa Qa Qa ZV (Q9 Qa Qa Qa (Qn Qa JX (hS24.cell 2 Qa Qa)) (QN Qa Qa Qa XJ (Q9 Qa Qa Qa (Qn Qa QF (hS24.cell 1 Qa Qa)) (QC Qa Qa Qa (fun _=>(Xk 0 Qa Qa (by rfl) (by omega) JU)) ?_)))))))))
      refine Q9 Qa Qa Qa (XK R8 3 0 0 hS24 Qa (by rfl) Jy Qa Qa) ?_
      refine QN Qa Qa Qa HG (Q9 Qa Qa Qa (Qn Qa Zr (hS24.cell 1 Qa Qa)) (QS Qa Qa Qa Qa Qa Qa ?_))
      refine Qz HQ Qa (Y8 (hS24.sp [4] Qa) (hG.starL 5 Qa) (hO.starL 5 Qa) hW.a s (hW.fl _ (List.mem_of_getElem? hp))) Qa ?_
      rintro _ w25 hS25
      replace hS25:=hS25.jn Qa Qa
      have h1r:=hS25.own_one 0 Qa
      refine Xe (.skip (by kernel_rfl) (.skip (by kernel_rfl) (.skip (by kernel_rfl) (.skip (by kernel_rfl) (.cons (.inl ⟨rfl,(Qn Qa QF (hS25.cell 3 Qa Qa))⟩) .nil))))) ?_
      have hS26:=QY (X:={X with fl:=X.fl.eraseIdx (Zs n X.fl.length).toNat,a:=(Zt X.a s).1}) (hS25.pick [4,5,1,6,2,0,3,7] Qa) (by assumption)
      refine QS Qa Qa Qa Qa Qa Qa ?_
      refine Qz Yt Qa (WE (i:=false) (hS26.sp [0,1] Qa) (by have :=UG (s:=s) hW.a (hW.fl _ (List.mem_of_getElem? hp));omega)) Qa ?_
      rintro _ w27 ⟨rfl,hS27⟩
      replace hS27:=hS27.jn Qa Qa
      refine Xe (Xp (by kernel_rfl)) ?_
      refine VC.nil (Y4 (.inl Qa) Qa ?_)
      exact⟨_,rfl,rfl, by rw[LP hp]; exact hS27.pick [0,2] Qa⟩
     (exfalso; have q9:=h23; simp at q9)
    (exfalso; have q9:=h22; simp at q9)
   (exfalso; have q9:=h21; simp at q9)
  refine VP (sp:=[9,10,11,15,16]) [0,1,2,3,4,5,6,7,8,9,15,10,11,12,13,14,16,17] (by kernel_rfl) ?_
  refine QK Qa Qa Qa (Xm Qa Qa Qa (QN Qa Qa Qa XN (Q9 Qa Qa Qa (Qn Qa Xv (hS1.cell 0 Qa Qa)) (QK Qa Qa Qa (QK Qa Qa Qa (Xm Qa Qa Qa (QN Qa Qa Qa XN (Q9 Qa Qa Qa (Qn Qa Xv (hS1.cell 0 Qa Qa)) (QS Qa Qa Qa Qa Qa Qa ?_)))))))))
  refine Qz Yu Qa (ZE (hS1.sp [4] Qa)) Qa ?_
  rintro _ w28 ⟨rfl,hS28⟩
  replace hS28:=hS28.jn Qa Qa
  refine Xe (.skip (by kernel_rfl) (.cons (.inl ⟨rfl,(Qn Qa Xv (hS28.cell 1 Qa Qa))⟩) .nil)) ?_
  refine QS Qa Qa Qa Qa Qa Qa ?_
  refine Xl hS28 Jk Qa Qa ?_
  intro b29 w29 hS29
  refine Xe (.skip (by kernel_rfl) (.cons (.inl ⟨rfl,(Qn Qa Xv (hS29.cell 2 Qa Qa))⟩) .nil)) ?_
  refine QS Qa Qa Qa Qa Qa Qa ?_
  refine Qz Yv Qa (Yq (hS29.sp [] Qa) n (X.fl.length:Int) (by have :=hW.ln;omega)) Qa ?_
  rintro _ w30 ⟨rfl,hS30⟩
  replace hS30:=hS30.jn Qa Qa
  refine Xe (.skip (by kernel_rfl) (.cons (.inl ⟨rfl,(Qn Qa Xv (hS30.cell 2 Qa Qa))⟩) .nil)) ?_
  refine QS Qa Qa Qa Qa Qa Qa ?_
  refine Qz Ht Qa (Ju (hS30.sp [1] Qa) (Zs n X.fl.length) hW.ln) Qa ?_
  rintro _ w31 ⟨rfl,hS31⟩
  replace hS31:=hS31.jn Qa Qa
  rw[(Z0 hp).1,(Z0 hp).2.2]
  rw[(Z0 hp).2.1]at hS31
  dsimp only
  refine Xe (Xp (by kernel_rfl)) ?_
  refine QK Qa Qa Qa (Yn Qa Qa Qa Qa (Yn Qa Qa Qa Qa (QS Qa Qa Qa Qa Qa Qa ?_)))
  (refine QZ hS31 Qa Qa W9 Qa (by rfl) (i:=1) Qa (by decide) ?_)
  intro w32 hS33; dsimp only[List.set]at hS33
  refine Z6 (Xp (by kernel_rfl)) ?_
  refine WY Qa Qa Qa (VC.nil (Qd (Qk [0,4,5] Qa (Qg (Qb (Qe Qa Qa (QL Qa Qa Qa (Qe Qa Qa (Q4 23 Qa (fun h34=> ?_) (fun h34=> ?_))))))))))
  ·refine Qj Qa Qa (Q8 h34) (Qi Qa XJ Qa (Qj Qa Qa (Q8 h34) (Qq Qa QF (hS33.cell 1 Qa Qa) Qa (Qj Qa Qa (Q8 h34) (WX Qa Qa Qa (Q0 Qa (Q8 h34) Qa Qa (Qe Qa Qa (Q4 28 Qa (fun h35=> ?_) (fun h35=> ?_)))))))))
   ·refine Qj Qa Qa (Q8 h35) (Qi Qa XJ Qa (Qj Qa Qa (Q8 h35) (Qq Qa QF (hS33.cell 1 Qa Qa) Qa (Qj Qa Qa (Q8 h35) (W8 Qa Qa Qa (Q0 Qa (Q8 h35) Qa Qa (Qh (Qd (Qk [0,4,32] Qa (Qt Qa (fun h36=> ?_) (fun h36=> ?_)))))))))))
    ·have hS37:=hS33.drew
     refine QM [0,1,2,3,4,5,6,7,8,9,10,11,12,13,14] [13,14] Wv (by kernel_rfl) ?_
     refine QK Qa Qa Qa (QN Qa Qa Qa XJ (Q9 Qa Qa Qa (Qn Qa QF (hS37.cell 1 Qa Qa)) (QK Qa Qa Qa (Xm Qa Qa Qa (QN Qa Qa Qa ZV (Q9 Qa Qa Qa (Qn Qa JX (hS37.cell 2 Qa Qa)) (QN Qa Qa Qa XJ (Q9 Qa Qa Qa (Qn Qa QF (hS37.cell 1 Qa Qa)) (QC Qa Qa Qa (fun _=>(Xk 0 Qa Qa (by rfl) (by omega) JU)) ?_)))))))))
     refine Q9 Qa Qa Qa (XK R8 3 0 0 hS37 Qa (by rfl) Jy Qa Qa) ?_
     refine QN Qa Qa Qa HG (Q9 Qa Qa Qa (Qn Qa Zr (hS37.cell 1 Qa Qa)) (QS Qa Qa Qa Qa Qa Qa ?_))
     refine Qz HQ Qa (Y8 (hS37.sp [4] Qa) (hG.starL 5 Qa) (hO.starL 5 Qa) hW.a s (hW.fl _ (List.mem_of_getElem? hp))) Qa ?_
     rintro _ w38 hS38
     replace hS38:=hS38.jn Qa Qa
     have h1r:=hS38.own_one 0 Qa
     refine Xe (.skip (by kernel_rfl) (.skip (by kernel_rfl) (.skip (by kernel_rfl) (.skip (by kernel_rfl) (.cons (.inl ⟨rfl,(Qn Qa QF (hS38.cell 3 Qa Qa))⟩) .nil))))) ?_
     have hS39:=QY (X:={X with fl:=X.fl.eraseIdx (Zs n X.fl.length).toNat,a:=(Zt X.a s).1}) (hS38.pick [4,5,1,6,2,0,3,7] Qa) (by assumption)
     refine QS Qa Qa Qa Qa Qa Qa ?_
     refine Qz Yt Qa (WE (i:=false) (hS39.sp [0,1] Qa) (by have :=UG (s:=s) hW.a (hW.fl _ (List.mem_of_getElem? hp));omega)) Qa ?_
     rintro _ w40 ⟨rfl,hS40⟩
     replace hS40:=hS40.jn Qa Qa
     refine Xe (Xp (by kernel_rfl)) ?_
     refine VC.nil (Y4 (.inl Qa) Qa ?_)
     exact⟨_,rfl,rfl, by rw[LP hp]; exact hS40.pick [0,2] Qa⟩
    (exfalso; have q9:=h36; simp at q9)
   (exfalso; have q9:=h35; simp at q9)
  (exfalso; have q9:=h34; simp at q9)
 refine VP (sp:=[9,10,11,15,16]) [0,1,2,3,4,5,6,7,8,15,9,10,11,12,13,14,16,17] (by kernel_rfl) ?_
 refine QK Qa Qa Qa (Xm Qa Qa Qa (QN Qa Qa Qa XN (Q9 Qa Qa Qa (Qn Qa Xv (hS1.cell 0 Qa Qa)) (QK Qa Qa Qa (QK Qa Qa Qa (Xm Qa Qa Qa (QN Qa Qa Qa XN (Q9 Qa Qa Qa (Qn Qa Xv (hS1.cell 0 Qa Qa)) (QS Qa Qa Qa Qa Qa Qa ?_)))))))))
 refine Xl hS1 Jk Qa Qa ?_
 intro b41 w41 hS41
 refine Xe (.cons (.inl ⟨Qa,(Qn Qa Xv (hS41.cell 1 Qa Qa))⟩) (.cons (.inl ⟨Qa,(Qn Qa Xv (hS41.cell 1 Qa Qa))⟩) .nil)) (QS Qa Qa Qa Qa Qa Qa ?_)
 refine Qz Yu Qa (ZE (hS41.sp [5] Qa)) Qa ?_
 rintro _ w42 ⟨rfl,hS42⟩
 replace hS42:=hS42.jn Qa Qa
 refine Xe (.skip (by kernel_rfl) (.cons (.inl ⟨rfl,(Qn Qa Xv (hS42.cell 2 Qa Qa))⟩) .nil)) ?_
 refine QS Qa Qa Qa Qa Qa Qa ?_
 refine Qz Yv Qa (Yq (hS42.sp [] Qa) n (X.fl.length:Int) (by have :=hW.ln;omega)) Qa ?_
 rintro _ w43 ⟨rfl,hS43⟩
 replace hS43:=hS43.jn Qa Qa
 refine Xe (.skip (by kernel_rfl) (.cons (.inl ⟨rfl,(Qn Qa Xv (hS43.cell 2 Qa Qa))⟩) .nil)) ?_
 refine QS Qa Qa Qa Qa Qa Qa ?_
 refine Qz Ht Qa (Ju (hS43.sp [0] Qa) (Zs n X.fl.length) hW.ln) Qa ?_
 rintro _ w44 ⟨rfl,hS44⟩
 replace hS44:=hS44.jn Qa Qa
 rw[(Z0 hp).1,(Z0 hp).2.2]
 rw[(Z0 hp).2.1]at hS44
 dsimp only
 refine Xe (Xp (by kernel_rfl)) ?_
 refine QK Qa Qa Qa (Yn Qa Qa Qa Qa (Yn Qa Qa Qa Qa (QS Qa Qa Qa Qa Qa Qa ?_)))
 (refine QZ hS44 Qa Qa W9 Qa (by rfl) (i:=1) Qa (by decide) ?_)
 intro w45 hS46; dsimp only[List.set]at hS46
 refine Z6 (Xp (by kernel_rfl)) ?_
 refine WY Qa Qa Qa (VC.nil (Qd (Qk [0,4,5] Qa (Qg (Qb (Qe Qa Qa (QL Qa Qa Qa (Qe Qa Qa (Q4 23 Qa (fun h47=> ?_) (fun h47=> ?_))))))))))
 ·refine Qj Qa Qa (Q8 h47) (Qi Qa XJ Qa (Qj Qa Qa (Q8 h47) (Qq Qa QF (hS46.cell 1 Qa Qa) Qa (Qj Qa Qa (Q8 h47) (WX Qa Qa Qa (Q0 Qa (Q8 h47) Qa Qa (Qe Qa Qa (Q4 28 Qa (fun h48=> ?_) (fun h48=> ?_)))))))))
  ·refine Qj Qa Qa (Q8 h48) (Qi Qa XJ Qa (Qj Qa Qa (Q8 h48) (Qq Qa QF (hS46.cell 1 Qa Qa) Qa (Qj Qa Qa (Q8 h48) (W8 Qa Qa Qa (Q0 Qa (Q8 h48) Qa Qa (Qh (Qd (Qk [0,4,32] Qa (Qt Qa (fun h49=> ?_) (fun h49=> ?_)))))))))))
   ·have hS50:=hS46.drew
    refine QM [0,1,2,3,4,5,6,7,8,9,10,11,12,13,14] [13,14] Wv (by kernel_rfl) ?_
    refine QK Qa Qa Qa (QN Qa Qa Qa XJ (Q9 Qa Qa Qa (Qn Qa QF (hS50.cell 1 Qa Qa)) (QK Qa Qa Qa (Xm Qa Qa Qa (QN Qa Qa Qa ZV (Q9 Qa Qa Qa (Qn Qa JX (hS50.cell 2 Qa Qa)) (QN Qa Qa Qa XJ (Q9 Qa Qa Qa (Qn Qa QF (hS50.cell 1 Qa Qa)) (QC Qa Qa Qa (fun _=>(Xk 0 Qa Qa (by rfl) (by omega) JU)) ?_)))))))))
    refine Q9 Qa Qa Qa (XK R8 3 0 0 hS50 Qa (by rfl) Jy Qa Qa) ?_
    refine QN Qa Qa Qa HG (Q9 Qa Qa Qa (Qn Qa Zr (hS50.cell 1 Qa Qa)) (QS Qa Qa Qa Qa Qa Qa ?_))
    refine Qz HQ Qa (Y8 (hS50.sp [4] Qa) (hG.starL 5 Qa) (hO.starL 5 Qa) hW.a s (hW.fl _ (List.mem_of_getElem? hp))) Qa ?_
    rintro _ w51 hS51
    replace hS51:=hS51.jn Qa Qa
    have h1r:=hS51.own_one 0 Qa
    refine Xe (.skip (by kernel_rfl) (.skip (by kernel_rfl) (.skip (by kernel_rfl) (.skip (by kernel_rfl) (.cons (.inl ⟨rfl,(Qn Qa QF (hS51.cell 3 Qa Qa))⟩) .nil))))) ?_
    have hS52:=QY (X:={X with fl:=X.fl.eraseIdx (Zs n X.fl.length).toNat,a:=(Zt X.a s).1}) (hS51.pick [4,5,1,6,2,0,3,7] Qa) (by assumption)
    refine QS Qa Qa Qa Qa Qa Qa ?_
    refine Qz Yt Qa (WE (i:=false) (hS52.sp [0,1] Qa) (by have :=UG (s:=s) hW.a (hW.fl _ (List.mem_of_getElem? hp));omega)) Qa ?_
    rintro _ w53 ⟨rfl,hS53⟩
    replace hS53:=hS53.jn Qa Qa
    refine Xe (Xp (by kernel_rfl)) ?_
    refine VC.nil (Y4 (.inl Qa) Qa ?_)
    exact⟨_,rfl,rfl, by rw[LP hp]; exact hS53.pick [0,2] Qa⟩
   (exfalso; have q9:=h49; simp at q9)
  (exfalso; have q9:=h48; simp at q9)
 (exfalso; have q9:=h47; simp at q9)
theorem IQ {w:World} [tq:Inhabited TwQ] {x:Nat} {X:TwD} {F:Th} (hS:Sat w [GW x X,F]) (hG:Ent F WireG) (hO:Ent F (Glob 0)) (hW:XW X) (n:Int) {s:Bs} (hp:X.fl[(Zs n X.fl.length).toNat]? =some (true,s)):
    Calls prog 49 #[ptrV x 0,intV n] w (Ret fun v w'=>v= .tuple #[]∧Sat w' [GW x (Zw X n),F]):= by
 obtain⟨eb,ecap,a,b,p,hq0,hS⟩:=H4 hS
 refine Qx func49 Qa ntmps49 Qa ?_
 refine Qg ?_
 have hS1:=hS.drew
 refine DF Wv (Hh 9 15 Qa ?_ ?_)
 ·refine Hh 10 15 Qa ?_ ?_
  ·refine Hh 11 15 Qa ?_ ?_
   ·refine VP (sp:=[9,10,11,15,16]) [0,1,2,3,4,5,6,7,8,9,10,11,12,13,14,15,16,17] (by kernel_rfl) ?_
    refine QK Qa Qa Qa (Xm Qa Qa Qa (QN Qa Qa Qa XN (Q9 Qa Qa Qa (Qn Qa Xv (hS1.cell 0 Qa Qa)) (QK Qa Qa Qa (QK Qa Qa Qa (Xm Qa Qa Qa (QN Qa Qa Qa XN (Q9 Qa Qa Qa (Qn Qa Xv (hS1.cell 0 Qa Qa)) (QS Qa Qa Qa Qa Qa Qa ?_)))))))))
    refine Qz Yu Qa (ZE (hS1.sp [4] Qa)) Qa ?_
    rintro _ w2 ⟨rfl,hS2⟩
    replace hS2:=hS2.jn Qa Qa
    refine Xe (.skip (by kernel_rfl) (.cons (.inl ⟨rfl,(Qn Qa Xv (hS2.cell 1 Qa Qa))⟩) .nil)) ?_
    refine QS Qa Qa Qa Qa Qa Qa ?_
    refine Qz Yv Qa (Yq (hS2.sp [] Qa) n (X.fl.length:Int) (by have :=hW.ln;omega)) Qa ?_
    rintro _ w3 ⟨rfl,hS3⟩
    replace hS3:=hS3.jn Qa Qa
    refine Xe (.skip (by kernel_rfl) (.cons (.inl ⟨rfl,(Qn Qa Xv (hS3.cell 1 Qa Qa))⟩) .nil)) ?_
    refine QS Qa Qa Qa Qa Qa Qa ?_
    refine Qz Ht Qa (Ju (hS3.sp [0] Qa) (Zs n X.fl.length) hW.ln) Qa ?_
    rintro _ w4 ⟨rfl,hS4⟩
    replace hS4:=hS4.jn Qa Qa
    rw[(Z0 hp).1,(Z0 hp).2.2]
    rw[(Z0 hp).2.1]at hS4
    dsimp only
    refine Xe (Xp (by kernel_rfl)) ?_
    refine QK Qa Qa Qa (Yn Qa Qa Qa Qa (Yn Qa Qa Qa Qa (QS Qa Qa Qa Qa Qa Qa ?_)))
    refine Xl hS4 Jk Qa Qa ?_
    intro b5 w5 hS5
    refine Xe (Xp (by kernel_rfl)) ?_
    refine QS Qa Qa Qa Qa Qa Qa ?_
    (refine QZ hS5 Qa Qa W9 Qa (by rfl) (i:=0) Qa (by decide) ?_)
    intro w6 hS7; dsimp only[List.set]at hS7
    refine Z6 (Xp (by kernel_rfl)) ?_
    refine WY Qa Qa Qa (VC.nil (Qd (Qk [0,4,5] Qa (Qg (Qb (Qe Qa Qa (QL Qa Qa Qa (Qe Qa Qa (Q4 23 Qa (fun h8=> ?_) (fun h8=> ?_))))))))))
    ·refine Qj Qa Qa (Q8 h8) (Qi Qa XJ Qa (Qj Qa Qa (Q8 h8) (Qq Qa QF (hS7.cell 0 Qa Qa) Qa (Qj Qa Qa (Q8 h8) (WX Qa Qa Qa (Q0 Qa (Q8 h8) Qa Qa (Qe Qa Qa (Q4 28 Qa (fun h9=> ?_) (fun h9=> ?_)))))))))
     ·refine Qj Qa Qa (Q8 h9) (Qi Qa XJ Qa (Qj Qa Qa (Q8 h9) (Qq Qa QF (hS7.cell 0 Qa Qa) Qa (Qj Qa Qa (Q8 h9) (W8 Qa Qa Qa (Q0 Qa (Q8 h9) Qa Qa (Qh (Qd (Qk [0,4,32] Qa (Qt Qa (fun h10=> ?_) (fun h10=> ?_)))))))))))
      ·have hS11:=hS7.drew
       refine QM [0,1,2,3,4,5,6,7,8,9,10,11,12,13,14] [13,14] Wv (by kernel_rfl) ?_
       refine QK Qa Qa Qa (QN Qa Qa Qa XJ (Q9 Qa Qa Qa (Qn Qa QF (hS11.cell 0 Qa Qa)) (QK Qa Qa Qa (Xm Qa Qa Qa (QN Qa Qa Qa ZV (Q9 Qa Qa Qa (Qn Qa JX (hS11.cell 2 Qa Qa)) (QN Qa Qa Qa XJ (Q9 Qa Qa Qa (Qn Qa QF (hS11.cell 0 Qa Qa)) (QC Qa Qa Qa (fun _=>(Xk 1 Qa Qa (by rfl) (by omega) JU)) ?_)))))))))
       refine Q9 Qa Qa Qa (XK R8 3 1 0 hS11 Qa (by rfl) Jy Qa Qa) ?_
       refine QN Qa Qa Qa HG (Q9 Qa Qa Qa (Qn Qa Zr (hS11.cell 0 Qa Qa)) (QS Qa Qa Qa Qa Qa Qa ?_))
       refine Qz HQ Qa (Y8 (hS11.sp [5] Qa) (hG.starL 5 Qa) (hO.starL 5 Qa) hW.b s (hW.fl _ (List.mem_of_getElem? hp))) Qa ?_
       rintro _ w12 hS12
       replace hS12:=hS12.jn Qa Qa
       have h1r:=hS12.own_one 0 Qa
       refine Xe (.skip (by kernel_rfl) (.skip (by kernel_rfl) (.skip (by kernel_rfl) (.skip (by kernel_rfl) (.cons (.inl ⟨rfl,(Qn Qa QF (hS12.cell 2 Qa Qa))⟩) .nil))))) ?_
       have hS13:=QY (X:={X with fl:=X.fl.eraseIdx (Zs n X.fl.length).toNat,b:=(Zt X.b s).1}) (hS12.pick [4,5,6,1,3,0,2,7] Qa) (by assumption)
       refine QS Qa Qa Qa Qa Qa Qa ?_
       refine Qz Yt Qa (WE (i:=true) (hS13.sp [0,1] Qa) (by have :=UG (s:=s) hW.b (hW.fl _ (List.mem_of_getElem? hp));omega)) Qa ?_
       rintro _ w14 ⟨rfl,hS14⟩
       replace hS14:=hS14.jn Qa Qa
       refine Xe (Xp (by kernel_rfl)) ?_
       refine VC.nil (Y4 (.inl Qa) Qa ?_)
       exact⟨_,rfl,rfl, by rw[LN hp]; exact hS14.pick [0,2] Qa⟩
      (exfalso; have q9:=h10; simp at q9)
     (exfalso; have q9:=h9; simp at q9)
    (exfalso; have q9:=h8; simp at q9)
   refine VP (sp:=[9,10,11,15,16]) [0,1,2,3,4,5,6,7,8,9,10,15,11,12,13,14,16,17] (by kernel_rfl) ?_
   refine QK Qa Qa Qa (Xm Qa Qa Qa (QN Qa Qa Qa XN (Q9 Qa Qa Qa (Qn Qa Xv (hS1.cell 0 Qa Qa)) (QK Qa Qa Qa (QK Qa Qa Qa (Xm Qa Qa Qa (QN Qa Qa Qa XN (Q9 Qa Qa Qa (Qn Qa Xv (hS1.cell 0 Qa Qa)) (QS Qa Qa Qa Qa Qa Qa ?_)))))))))
   refine Qz Yu Qa (ZE (hS1.sp [4] Qa)) Qa ?_
   rintro _ w15 ⟨rfl,hS15⟩
   replace hS15:=hS15.jn Qa Qa
   refine Xe (.skip (by kernel_rfl) (.cons (.inl ⟨rfl,(Qn Qa Xv (hS15.cell 1 Qa Qa))⟩) .nil)) ?_
   refine QS Qa Qa Qa Qa Qa Qa ?_
   refine Qz Yv Qa (Yq (hS15.sp [] Qa) n (X.fl.length:Int) (by have :=hW.ln;omega)) Qa ?_
   rintro _ w16 ⟨rfl,hS16⟩
   replace hS16:=hS16.jn Qa Qa
   refine Xe (.skip (by kernel_rfl) (.cons (.inl ⟨rfl,(Qn Qa Xv (hS16.cell 1 Qa Qa))⟩) .nil)) ?_
   refine QS Qa Qa Qa Qa Qa Qa ?_
   refine Xl hS16 Jk Qa Qa ?_
   intro b17 w17 hS17
   refine Xe (.skip (by kernel_rfl) (.cons (.inl ⟨rfl,(Qn Qa Xv (hS17.cell 2 Qa Qa))⟩) .nil)) ?_
   refine QS Qa Qa Qa Qa Qa Qa ?_
   refine Qz Ht Qa (Ju (hS17.sp [1] Qa) (Zs n X.fl.length) hW.ln) Qa ?_
   rintro _ w18 ⟨rfl,hS18⟩
   replace hS18:=hS18.jn Qa Qa
   rw[(Z0 hp).1,(Z0 hp).2.2]
   rw[(Z0 hp).2.1]at hS18
   dsimp only
   refine Xe (Xp (by kernel_rfl)) ?_
   refine QK Qa Qa Qa (Yn Qa Qa Qa Qa (Yn Qa Qa Qa Qa (QS Qa Qa Qa Qa Qa Qa ?_)))
   (refine QZ hS18 Qa Qa W9 Qa (by rfl) (i:=1) Qa (by decide) ?_)
   intro w19 hS20; dsimp only[List.set]at hS20
   refine Z6 (Xp (by kernel_rfl)) ?_
   refine WY Qa Qa Qa (VC.nil (Qd (Qk [0,4,5] Qa (Qg (Qb (Qe Qa Qa (QL Qa Qa Qa (Qe Qa Qa (Q4 23 Qa (fun h21=> ?_) (fun h21=> ?_))))))))))
   ·refine Qj Qa Qa (Q8 h21) (Qi Qa XJ Qa (Qj Qa Qa (Q8 h21) (Qq Qa QF (hS20.cell 1 Qa Qa) Qa (Qj Qa Qa (Q8 h21) (WX Qa Qa Qa (Q0 Qa (Q8 h21) Qa Qa (Qe Qa Qa (Q4 28 Qa (fun h22=> ?_) (fun h22=> ?_)))))))))
    ·refine Qj Qa Qa (Q8 h22) (Qi Qa XJ Qa (Qj Qa Qa (Q8 h22) (Qq Qa QF (hS20.cell 1 Qa Qa) Qa (Qj Qa Qa (Q8 h22) (W8 Qa Qa Qa (Q0 Qa (Q8 h22) Qa Qa (Qh (Qd (Qk [0,4,32] Qa (Qt Qa (fun h23=> ?_) (fun h23=> ?_)))))))))))
     ·have hS24:=hS20.drew
      refine QM [0,1,2,3,4,5,6,7,8,9,10,11,12,13,14] [13,14] Wv (by kernel_rfl) ?_
      refine QK Qa Qa Qa (QN Qa Qa Qa XJ (Q9 Qa Qa Qa (Qn Qa QF (hS24.cell 1 Qa Qa)) (QK Qa Qa Qa (Xm Qa Qa Qa (QN Qa Qa Qa ZV (Q9 Qa Qa Qa (Qn Qa JX (hS24.cell 2 Qa Qa)) (QN Qa Qa Qa XJ (Q9 Qa Qa Qa (Qn Qa QF (hS24.cell 1 Qa Qa)) (QC Qa Qa Qa (fun _=>(Xk 1 Qa Qa (by rfl) (by omega) JU)) ?_)))))))))
      refine Q9 Qa Qa Qa (XK R8 3 1 0 hS24 Qa (by rfl) Jy Qa Qa) ?_
      refine QN Qa Qa Qa HG (Q9 Qa Qa Qa (Qn Qa Zr (hS24.cell 1 Qa Qa)) (QS Qa Qa Qa Qa Qa Qa ?_))
      refine Qz HQ Qa (Y8 (hS24.sp [5] Qa) (hG.starL 5 Qa) (hO.starL 5 Qa) hW.b s (hW.fl _ (List.mem_of_getElem? hp))) Qa ?_
      rintro _ w25 hS25
      replace hS25:=hS25.jn Qa Qa
      have h1r:=hS25.own_one 0 Qa
      refine Xe (.skip (by kernel_rfl) (.skip (by kernel_rfl) (.skip (by kernel_rfl) (.skip (by kernel_rfl) (.cons (.inl ⟨rfl,(Qn Qa QF (hS25.cell 3 Qa Qa))⟩) .nil))))) ?_
      have hS26:=QY (X:={X with fl:=X.fl.eraseIdx (Zs n X.fl.length).toNat,b:=(Zt X.b s).1}) (hS25.pick [4,5,6,1,2,0,3,7] Qa) (by assumption)
      refine QS Qa Qa Qa Qa Qa Qa ?_
      refine Qz Yt Qa (WE (i:=true) (hS26.sp [0,1] Qa) (by have :=UG (s:=s) hW.b (hW.fl _ (List.mem_of_getElem? hp));omega)) Qa ?_
      rintro _ w27 ⟨rfl,hS27⟩
      replace hS27:=hS27.jn Qa Qa
      refine Xe (Xp (by kernel_rfl)) ?_
      refine VC.nil (Y4 (.inl Qa) Qa ?_)
      exact⟨_,rfl,rfl, by rw[LN hp]; exact hS27.pick [0,2] Qa⟩
     (exfalso; have q9:=h23; simp at q9)
    (exfalso; have q9:=h22; simp at q9)
   (exfalso; have q9:=h21; simp at q9)
  refine VP (sp:=[9,10,11,15,16]) [0,1,2,3,4,5,6,7,8,9,15,10,11,12,13,14,16,17] (by kernel_rfl) ?_
  refine QK Qa Qa Qa (Xm Qa Qa Qa (QN Qa Qa Qa XN (Q9 Qa Qa Qa (Qn Qa Xv (hS1.cell 0 Qa Qa)) (QK Qa Qa Qa (QK Qa Qa Qa (Xm Qa Qa Qa (QN Qa Qa Qa XN (Q9 Qa Qa Qa (Qn Qa Xv (hS1.cell 0 Qa Qa)) (QS Qa Qa Qa Qa Qa Qa ?_)))))))))
  refine Qz Yu Qa (ZE (hS1.sp [4] Qa)) Qa ?_
  rintro _ w28 ⟨rfl,hS28⟩
  replace hS28:=hS28.jn Qa Qa
  refine Xe (.skip (by kernel_rfl) (.cons (.inl ⟨rfl,(Qn Qa Xv (hS28.cell 1 Qa Qa))⟩) .nil)) ?_
  refine QS Qa Qa Qa Qa Qa Qa ?_
  refine Xl hS28 Jk Qa Qa ?_
  intro b29 w29 hS29
  refine Xe (.skip (by kernel_rfl) (.cons (.inl ⟨rfl,(Qn Qa Xv (hS29.cell 2 Qa Qa))⟩) .nil)) ?_
  refine QS Qa Qa Qa Qa Qa Qa ?_
  refine Qz Yv Qa (Yq (hS29.sp [] Qa) n (X.fl.length:Int) (by have :=hW.ln;omega)) Qa ?_
  rintro _ w30 ⟨rfl,hS30⟩
  replace hS30:=hS30.jn Qa Qa
  refine Xe (.skip (by kernel_rfl) (.cons (.inl ⟨rfl,(Qn Qa Xv (hS30.cell 2 Qa Qa))⟩) .nil)) ?_
  refine QS Qa Qa Qa Qa Qa Qa ?_
  refine Qz Ht Qa (Ju (hS30.sp [1] Qa) (Zs n X.fl.length) hW.ln) Qa ?_
  rintro _ w31 ⟨rfl,hS31⟩
  replace hS31:=hS31.jn Qa Qa
  rw[(Z0 hp).1,(Z0 hp).2.2]
  rw[(Z0 hp).2.1]at hS31
  dsimp only
  refine Xe (Xp (by kernel_rfl)) ?_
  refine QK Qa Qa Qa (Yn Qa Qa Qa Qa (Yn Qa Qa Qa Qa (QS Qa Qa Qa Qa Qa Qa ?_)))
  (refine QZ hS31 Qa Qa W9 Qa (by rfl) (i:=1) Qa (by decide) ?_)
  intro w32 hS33; dsimp only[List.set]at hS33
  refine Z6 (Xp (by kernel_rfl)) ?_
  refine WY Qa Qa Qa (VC.nil (Qd (Qk [0,4,5] Qa (Qg (Qb (Qe Qa Qa (QL Qa Qa Qa (Qe Qa Qa (Q4 23 Qa (fun h34=> ?_) (fun h34=> ?_))))))))))
  ·refine Qj Qa Qa (Q8 h34) (Qi Qa XJ Qa (Qj Qa Qa (Q8 h34) (Qq Qa QF (hS33.cell 1 Qa Qa) Qa (Qj Qa Qa (Q8 h34) (WX Qa Qa Qa (Q0 Qa (Q8 h34) Qa Qa (Qe Qa Qa (Q4 28 Qa (fun h35=> ?_) (fun h35=> ?_)))))))))
   ·refine Qj Qa Qa (Q8 h35) (Qi Qa XJ Qa (Qj Qa Qa (Q8 h35) (Qq Qa QF (hS33.cell 1 Qa Qa) Qa (Qj Qa Qa (Q8 h35) (W8 Qa Qa Qa (Q0 Qa (Q8 h35) Qa Qa (Qh (Qd (Qk [0,4,32] Qa (Qt Qa (fun h36=> ?_) (fun h36=> ?_)))))))))))
    ·have hS37:=hS33.drew
     refine QM [0,1,2,3,4,5,6,7,8,9,10,11,12,13,14] [13,14] Wv (by kernel_rfl) ?_
     refine QK Qa Qa Qa (QN Qa Qa Qa XJ (Q9 Qa Qa Qa (Qn Qa QF (hS37.cell 1 Qa Qa)) (QK Qa Qa Qa (Xm Qa Qa Qa (QN Qa Qa Qa ZV (Q9 Qa Qa Qa (Qn Qa JX (hS37.cell 2 Qa Qa)) (QN Qa Qa Qa XJ (Q9 Qa Qa Qa (Qn Qa QF (hS37.cell 1 Qa Qa)) (QC Qa Qa Qa (fun _=>(Xk 1 Qa Qa (by rfl) (by omega) JU)) ?_)))))))))
     refine Q9 Qa Qa Qa (XK R8 3 1 0 hS37 Qa (by rfl) Jy Qa Qa) ?_
     refine QN Qa Qa Qa HG (Q9 Qa Qa Qa (Qn Qa Zr (hS37.cell 1 Qa Qa)) (QS Qa Qa Qa Qa Qa Qa ?_))
     refine Qz HQ Qa (Y8 (hS37.sp [5] Qa) (hG.starL 5 Qa) (hO.starL 5 Qa) hW.b s (hW.fl _ (List.mem_of_getElem? hp))) Qa ?_
     rintro _ w38 hS38
     replace hS38:=hS38.jn Qa Qa
     have h1r:=hS38.own_one 0 Qa
     refine Xe (.skip (by kernel_rfl) (.skip (by kernel_rfl) (.skip (by kernel_rfl) (.skip (by kernel_rfl) (.cons (.inl ⟨rfl,(Qn Qa QF (hS38.cell 3 Qa Qa))⟩) .nil))))) ?_
     have hS39:=QY (X:={X with fl:=X.fl.eraseIdx (Zs n X.fl.length).toNat,b:=(Zt X.b s).1}) (hS38.pick [4,5,6,1,2,0,3,7] Qa) (by assumption)
     refine QS Qa Qa Qa Qa Qa Qa ?_
     refine Qz Yt Qa (WE (i:=true) (hS39.sp [0,1] Qa) (by have :=UG (s:=s) hW.b (hW.fl _ (List.mem_of_getElem? hp));omega)) Qa ?_
     rintro _ w40 ⟨rfl,hS40⟩
     replace hS40:=hS40.jn Qa Qa
     refine Xe (Xp (by kernel_rfl)) ?_
     refine VC.nil (Y4 (.inl Qa) Qa ?_)
     exact⟨_,rfl,rfl, by rw[LN hp]; exact hS40.pick [0,2] Qa⟩
    (exfalso; have q9:=h36; simp at q9)
   (exfalso; have q9:=h35; simp at q9)
  (exfalso; have q9:=h34; simp at q9)
 refine VP (sp:=[9,10,11,15,16]) [0,1,2,3,4,5,6,7,8,15,9,10,11,12,13,14,16,17] (by kernel_rfl) ?_
 refine QK Qa Qa Qa (Xm Qa Qa Qa (QN Qa Qa Qa XN (Q9 Qa Qa Qa (Qn Qa Xv (hS1.cell 0 Qa Qa)) (QK Qa Qa Qa (QK Qa Qa Qa (Xm Qa Qa Qa (QN Qa Qa Qa XN (Q9 Qa Qa Qa (Qn Qa Xv (hS1.cell 0 Qa Qa)) (QS Qa Qa Qa Qa Qa Qa ?_)))))))))
 refine Xl hS1 Jk Qa Qa ?_
 intro b41 w41 hS41
 refine Xe (.cons (.inl ⟨Qa,(Qn Qa Xv (hS41.cell 1 Qa Qa))⟩) (.cons (.inl ⟨Qa,(Qn Qa Xv (hS41.cell 1 Qa Qa))⟩) .nil)) (QS Qa Qa Qa Qa Qa Qa ?_)
 refine Qz Yu Qa (ZE (hS41.sp [5] Qa)) Qa ?_
 rintro _ w42 ⟨rfl,hS42⟩
 replace hS42:=hS42.jn Qa Qa
 refine Xe (.skip (by kernel_rfl) (.cons (.inl ⟨rfl,(Qn Qa Xv (hS42.cell 2 Qa Qa))⟩) .nil)) ?_
 refine QS Qa Qa Qa Qa Qa Qa ?_
 refine Qz Yv Qa (Yq (hS42.sp [] Qa) n (X.fl.length:Int) (by have :=hW.ln;omega)) Qa ?_
 rintro _ w43 ⟨rfl,hS43⟩
 replace hS43:=hS43.jn Qa Qa
 refine Xe (.skip (by kernel_rfl) (.cons (.inl ⟨rfl,(Qn Qa Xv (hS43.cell 2 Qa Qa))⟩) .nil)) ?_
 refine QS Qa Qa Qa Qa Qa Qa ?_
 refine Qz Ht Qa (Ju (hS43.sp [0] Qa) (Zs n X.fl.length) hW.ln) Qa ?_
 rintro _ w44 ⟨rfl,hS44⟩
 replace hS44:=hS44.jn Qa Qa
 rw[(Z0 hp).1,(Z0 hp).2.2]
 rw[(Z0 hp).2.1]at hS44
 dsimp only
 refine Xe (Xp (by kernel_rfl)) ?_
 refine QK Qa Qa Qa (Yn Qa Qa Qa Qa (Yn Qa Qa Qa Qa (QS Qa Qa Qa Qa Qa Qa ?_)))
 (refine QZ hS44 Qa Qa W9 Qa (by rfl) (i:=1) Qa (by decide) ?_)
 intro w45 hS46; dsimp only[List.set]at hS46
 refine Z6 (Xp (by kernel_rfl)) ?_
 refine WY Qa Qa Qa (VC.nil (Qd (Qk [0,4,5] Qa (Qg (Qb (Qe Qa Qa (QL Qa Qa Qa (Qe Qa Qa (Q4 23 Qa (fun h47=> ?_) (fun h47=> ?_))))))))))
 ·refine Qj Qa Qa (Q8 h47) (Qi Qa XJ Qa (Qj Qa Qa (Q8 h47) (Qq Qa QF (hS46.cell 1 Qa Qa) Qa (Qj Qa Qa (Q8 h47) (WX Qa Qa Qa (Q0 Qa (Q8 h47) Qa Qa (Qe Qa Qa (Q4 28 Qa (fun h48=> ?_) (fun h48=> ?_)))))))))
  ·refine Qj Qa Qa (Q8 h48) (Qi Qa XJ Qa (Qj Qa Qa (Q8 h48) (Qq Qa QF (hS46.cell 1 Qa Qa) Qa (Qj Qa Qa (Q8 h48) (W8 Qa Qa Qa (Q0 Qa (Q8 h48) Qa Qa (Qh (Qd (Qk [0,4,32] Qa (Qt Qa (fun h49=> ?_) (fun h49=> ?_)))))))))))
   ·have hS50:=hS46.drew
    refine QM [0,1,2,3,4,5,6,7,8,9,10,11,12,13,14] [13,14] Wv (by kernel_rfl) ?_
    refine QK Qa Qa Qa (QN Qa Qa Qa XJ (Q9 Qa Qa Qa (Qn Qa QF (hS50.cell 1 Qa Qa)) (QK Qa Qa Qa (Xm Qa Qa Qa (QN Qa Qa Qa ZV (Q9 Qa Qa Qa (Qn Qa JX (hS50.cell 2 Qa Qa)) (QN Qa Qa Qa XJ (Q9 Qa Qa Qa (Qn Qa QF (hS50.cell 1 Qa Qa)) (QC Qa Qa Qa (fun _=>(Xk 1 Qa Qa (by rfl) (by omega) JU)) ?_)))))))))
    refine Q9 Qa Qa Qa (XK R8 3 1 0 hS50 Qa (by rfl) Jy Qa Qa) ?_
    refine QN Qa Qa Qa HG (Q9 Qa Qa Qa (Qn Qa Zr (hS50.cell 1 Qa Qa)) (QS Qa Qa Qa Qa Qa Qa ?_))
    refine Qz HQ Qa (Y8 (hS50.sp [5] Qa) (hG.starL 5 Qa) (hO.starL 5 Qa) hW.b s (hW.fl _ (List.mem_of_getElem? hp))) Qa ?_
    rintro _ w51 hS51
    replace hS51:=hS51.jn Qa Qa
    have h1r:=hS51.own_one 0 Qa
    refine Xe (.skip (by kernel_rfl) (.skip (by kernel_rfl) (.skip (by kernel_rfl) (.skip (by kernel_rfl) (.cons (.inl ⟨rfl,(Qn Qa QF (hS51.cell 3 Qa Qa))⟩) .nil))))) ?_
    have hS52:=QY (X:={X with fl:=X.fl.eraseIdx (Zs n X.fl.length).toNat,b:=(Zt X.b s).1}) (hS51.pick [4,5,6,1,2,0,3,7] Qa) (by assumption)
    refine QS Qa Qa Qa Qa Qa Qa ?_
    refine Qz Yt Qa (WE (i:=true) (hS52.sp [0,1] Qa) (by have :=UG (s:=s) hW.b (hW.fl _ (List.mem_of_getElem? hp));omega)) Qa ?_
    rintro _ w53 ⟨rfl,hS53⟩
    replace hS53:=hS53.jn Qa Qa
    refine Xe (Xp (by kernel_rfl)) ?_
    refine VC.nil (Y4 (.inl Qa) Qa ?_)
    exact⟨_,rfl,rfl, by rw[LN hp]; exact hS53.pick [0,2] Qa⟩
   (exfalso; have q9:=h49; simp at q9)
  (exfalso; have q9:=h48; simp at q9)
 (exfalso; have q9:=h47; simp at q9)
theorem M3 {w:World} [tq:Inhabited TwQ] {x:Nat} {X:TwD} {F:Th} (hS:Sat w [GW x X,F]) (hG:Ent F WireG) (hO:Ent F (Glob 0)) (hW:XW X) (n:Int):
    Calls prog 49 #[ptrV x 0,intV n] w (Ret fun v w'=>v= .tuple #[]∧Sat w' [GW x (Zw X n),F]):= by
  cases hp:X.fl[(Zs n X.fl.length).toNat]? with
  | none=> exact IR hS hG hO hW n hp
  | some q=>
    obtain⟨i,s⟩:=q
    cases i with
    | false=> exact IS hS hG hO hW n hp
    | true=> exact IQ hS hG hO hW n hp
