/- the law: arrive -/
import Derived.Test.YtiibgheijbbmaaaGreatDoorMvs
set_option linter.unusedVariables false
set_option maxRecDepth 100000
namespace Go.Proofs.YtiibgheijbbmaaaGreatDoor
open Go.RowKit M Proofs.Tryz
section
variable {X:TwD} {n:Int} {s:Bs}
theorem TF (h:X.fl[(Ze n X.fl.length).toNat]? =none):Jb X n=X:= by unfold Jb; rw[h]
theorem SO (h:X.fl[(Ze n X.fl.length).toNat]? =some (false,s)):Jb X n=Yh {X with fl:=X.fl.eraseIdx (Ze n X.fl.length).toNat,a:=(ZK X.a s).1} false (ZK X.a s).2:= by unfold Jb; rw[h];rfl
theorem SN (h:X.fl[(Ze n X.fl.length).toNat]? =some (true,s)):Jb X n=Yh {X with fl:=X.fl.eraseIdx (Ze n X.fl.length).toNat,b:=(ZK X.b s).1} true (ZK X.b s).2:= by unfold Jb; rw[h];rfl
theorem Hy (h:X.fl[(Ze n X.fl.length).toNat]? =none):Py X.fl (Ze n X.fl.length)=4∧Gp X.fl (Ze n X.fl.length)=X.fl:= by
  have h2: ¬(0≤Ze n X.fl.length∧Ze n X.fl.length<(X.fl.length:Int)):= fun q=> by
    have :=List.getElem?_eq_none_iff.1 h
    omega
  exact⟨(De h2).2.2,(De h2).1⟩
theorem Zm {p:Bool×Bs} (h:X.fl[(Ze n X.fl.length).toNat]? =some p):Py X.fl (Ze n X.fl.length)=0∧Gp X.fl (Ze n X.fl.length)=X.fl.eraseIdx (Ze n X.fl.length).toNat∧Px X.fl (Ze n X.fl.length)=(if p.1=true then 1 else 0,p.2):= by
  have hl:=(ZD h).1
  have h0:=(MU (n:=n) (m:=X.fl.length) (by omega)).1
  obtain⟨k,hk⟩: ∃k:Nat,Ze n X.fl.length=(k:Int):=⟨_,(Int.toNat_of_nonneg h0).symm⟩
  rw[hk]at h⊢
  rw[Int.toNat_natCast]at h⊢
  exact⟨(Kg h).2.2,(Kg h).1,(Kg h).2.1⟩
end
theorem Uk {E:EnD} {s:Bs} (hW:EW E) (hs:s.length≤1000):(ZK E s).2.length≤1:= by
  have t0: ∀x:Bs,[x].length≤1:= fun _=>Nat.le_refl _
  have t1:([]:List Bs).length≤1:=Nat.zero_le _
  unfold ZK
  split
  · exact t1
  unfold Zv
  split
  · exact t1
  split
  · unfold Zj
    split
    · exact t1
    split
    · exact t1
    split
    · exact t1
    split
    · exact t1
    split
    · exact t1
    unfold YQ
    split
    · exact t1
    · exact t0 _
  split
  · unfold Xx
    split
    · exact t0 _
    split
    · exact t1
    split
    · split
      · exact t1
      · exact t0 _
    split
    · exact t0 _
    · exact t0 _
  split
  · exact t1
  split
  · exact t1
  split
  · unfold ZW
    split
    · exact t1
    split
    · exact t0 _
    split
    · exact t1
    · exact t0 _
  split
  · exact t1
  split
  · unfold WM
    split
    · exact t1
    · exact t0 _
  · exact t1
theorem AJ {w:World} {x:Nat} {X:TwD} {F:Th} (hS:Sat w [Dv x X,F]) (hG:Ent F WireG) (hO:Ent F (Glob 0)) (hW:XW X) (n:Int) (hp:X.fl[(Ze n X.fl.length).toNat]? =none):
    Calls prog 49 #[ptrV x 0,intV n] w (Ret fun v w'=>v= .tuple #[]∧Sat w' [Dv x (Jb X n),F]):= by
 obtain⟨eb,ecap,a,b,p,hS⟩:=HN hS
 refine Qy func49 Qa ntmps49 Qa ?_
 refine Qf ?_
 have hS1:=hS.drew
 refine B5 W5 (YG 9 15 Qa ?_ ?_)
 ·refine YG 10 15 Qa ?_ ?_
  ·refine YG 11 15 Qa ?_ ?_
   ·refine Vj (sp:=[9,10,11,15,16]) [0,1,2,3,4,5,6,7,8,9,10,11,12,13,14,15,16,17] (by kernel_rfl) ?_
    refine QI Qa Qa Qa (Xn Qa Qa Qa (QO Qa Qa Qa XA (QF Qa Qa Qa (Qn Qa Xp (hS1.cell 0 Qa Qa)) (QI Qa Qa Qa (QI Qa Qa Qa (Xn Qa Qa Qa (QO Qa Qa Qa XA (QF Qa Qa Qa (Qn Qa Xp (hS1.cell 0 Qa Qa)) (QV Qa Qa Qa Qa Qa Qa ?_)))))))))
    refine Q0 Yd Qa (Z1 (hS1.sp [4] Qa)) Qa ?_
    rintro _ w2 ⟨rfl,hS2⟩
    replace hS2:=hS2.jn Qa Qa
    refine Xd (.skip (by kernel_rfl) (.cons (.inl ⟨rfl,(Qn Qa Xp (hS2.cell 1 Qa Qa))⟩) .nil)) ?_
    refine QV Qa Qa Qa Qa Qa Qa ?_
    refine Q0 Jl Qa (Jg (hS2.sp [] Qa) n (X.fl.length:Int) (by have :=hW.ln;omega)) Qa ?_
    rintro _ w3 ⟨rfl,hS3⟩
    replace hS3:=hS3.jn Qa Qa
    refine Xd (.skip (by kernel_rfl) (.cons (.inl ⟨rfl,(Qn Qa Xp (hS3.cell 1 Qa Qa))⟩) .nil)) ?_
    refine QV Qa Qa Qa Qa Qa Qa ?_
    refine Q0 YW Qa (Jh (hS3.sp [0] Qa) (Ze n X.fl.length) hW.ln) Qa ?_
    rintro _ w4 ⟨rfl,hS4⟩
    replace hS4:=hS4.jn Qa Qa
    rw[(Hy hp).1]
    rw[(Hy hp).2]at hS4
    refine Xd (Xq (by kernel_rfl)) ?_
    refine QI Qa Qa Qa (Y6 Qa Qa Qa Qa (Y6 Qa Qa Qa Qa (QV Qa Qa Qa Qa Qa Qa ?_)))
    refine Xs hS4 WT Qa Qa ?_
    intro b5 w5 hS5
    refine Xd (Xq (by kernel_rfl)) ?_
    refine QV Qa Qa Qa Qa Qa Qa ?_
    (refine Q8 hS5 Qa Qa XS Qa (by rfl) (i:=0) Qa (by decide) ?_)
    intro w6 hS7; dsimp only[List.set]at hS7
    refine Z9 (Xq (by kernel_rfl)) ?_
    refine WV Qa Qa Qa (VC.nil (Qd (Qk [0,4,5] Qa (Qf (Qb (Qe Qa Qa (QL Qa Qa Qa (Qe Qa Qa (Q4 23 Qa (fun h8=> ?_) (fun h8=> ?_))))))))))
    ·(exfalso; have q9:=h8; simp at q9)
    refine Qg Qa Qa (Qx h8) Qa (Qg Qa Qa (Qx h8) Qa (Qg Qa Qa (Qx h8) Qa (Q3 Qa (Qx h8) Qa Qa (Qe Qa Qa (Qg Qa Qa Qa Qa (Qg Qa Qa Qa Qa (Qg Qa Qa Qa Qa (Q3 Qa Qa Qa Qa (Qh (Qd (Qk [0,4,32] Qa (QJ Qa (Qt (Yl (.inl Qa) Qa ?_))))))))))))))
    exact⟨_,rfl,rfl, by rw[TF hp]; exact QW (X:=X) (hS7.pick [2,3,4,5,1,6] Qa)⟩
   refine Vj (sp:=[9,10,11,15,16]) [0,1,2,3,4,5,6,7,8,9,10,15,11,12,13,14,16,17] (by kernel_rfl) ?_
   refine QI Qa Qa Qa (Xn Qa Qa Qa (QO Qa Qa Qa XA (QF Qa Qa Qa (Qn Qa Xp (hS1.cell 0 Qa Qa)) (QI Qa Qa Qa (QI Qa Qa Qa (Xn Qa Qa Qa (QO Qa Qa Qa XA (QF Qa Qa Qa (Qn Qa Xp (hS1.cell 0 Qa Qa)) (QV Qa Qa Qa Qa Qa Qa ?_)))))))))
   refine Q0 Yd Qa (Z1 (hS1.sp [4] Qa)) Qa ?_
   rintro _ w9 ⟨rfl,hS9⟩
   replace hS9:=hS9.jn Qa Qa
   refine Xd (.skip (by kernel_rfl) (.cons (.inl ⟨rfl,(Qn Qa Xp (hS9.cell 1 Qa Qa))⟩) .nil)) ?_
   refine QV Qa Qa Qa Qa Qa Qa ?_
   refine Q0 Jl Qa (Jg (hS9.sp [] Qa) n (X.fl.length:Int) (by have :=hW.ln;omega)) Qa ?_
   rintro _ w10 ⟨rfl,hS10⟩
   replace hS10:=hS10.jn Qa Qa
   refine Xd (.skip (by kernel_rfl) (.cons (.inl ⟨rfl,(Qn Qa Xp (hS10.cell 1 Qa Qa))⟩) .nil)) ?_
   refine QV Qa Qa Qa Qa Qa Qa ?_
   refine Xs hS10 WT Qa Qa ?_
   intro b11 w11 hS11
   refine Xd (.skip (by kernel_rfl) (.cons (.inl ⟨rfl,(Qn Qa Xp (hS11.cell 2 Qa Qa))⟩) .nil)) ?_
   refine QV Qa Qa Qa Qa Qa Qa ?_
   refine Q0 YW Qa (Jh (hS11.sp [1] Qa) (Ze n X.fl.length) hW.ln) Qa ?_
   rintro _ w12 ⟨rfl,hS12⟩
   replace hS12:=hS12.jn Qa Qa
   rw[(Hy hp).1]
   rw[(Hy hp).2]at hS12
   refine Xd (Xq (by kernel_rfl)) ?_
   refine QI Qa Qa Qa (Y6 Qa Qa Qa Qa (Y6 Qa Qa Qa Qa (QV Qa Qa Qa Qa Qa Qa ?_)))
   (refine Q8 hS12 Qa Qa XS Qa (by rfl) (i:=1) Qa (by decide) ?_)
   intro w13 hS14; dsimp only[List.set]at hS14
   refine Z9 (Xq (by kernel_rfl)) ?_
   refine WV Qa Qa Qa (VC.nil (Qd (Qk [0,4,5] Qa (Qf (Qb (Qe Qa Qa (QL Qa Qa Qa (Qe Qa Qa (Q4 23 Qa (fun h15=> ?_) (fun h15=> ?_))))))))))
   ·(exfalso; have q9:=h15; simp at q9)
   refine Qg Qa Qa (Qx h15) Qa (Qg Qa Qa (Qx h15) Qa (Qg Qa Qa (Qx h15) Qa (Q3 Qa (Qx h15) Qa Qa (Qe Qa Qa (Qg Qa Qa Qa Qa (Qg Qa Qa Qa Qa (Qg Qa Qa Qa Qa (Q3 Qa Qa Qa Qa (Qh (Qd (Qk [0,4,32] Qa (QJ Qa (Qt (Yl (.inl Qa) Qa ?_))))))))))))))
   exact⟨_,rfl,rfl, by rw[TF hp]; exact QW (X:=X) (hS14.pick [2,3,4,5,0,6] Qa)⟩
  refine Vj (sp:=[9,10,11,15,16]) [0,1,2,3,4,5,6,7,8,9,15,10,11,12,13,14,16,17] (by kernel_rfl) ?_
  refine QI Qa Qa Qa (Xn Qa Qa Qa (QO Qa Qa Qa XA (QF Qa Qa Qa (Qn Qa Xp (hS1.cell 0 Qa Qa)) (QI Qa Qa Qa (QI Qa Qa Qa (Xn Qa Qa Qa (QO Qa Qa Qa XA (QF Qa Qa Qa (Qn Qa Xp (hS1.cell 0 Qa Qa)) (QV Qa Qa Qa Qa Qa Qa ?_)))))))))
  refine Q0 Yd Qa (Z1 (hS1.sp [4] Qa)) Qa ?_
  rintro _ w16 ⟨rfl,hS16⟩
  replace hS16:=hS16.jn Qa Qa
  refine Xd (.skip (by kernel_rfl) (.cons (.inl ⟨rfl,(Qn Qa Xp (hS16.cell 1 Qa Qa))⟩) .nil)) ?_
  refine QV Qa Qa Qa Qa Qa Qa ?_
  refine Xs hS16 WT Qa Qa ?_
  intro b17 w17 hS17
  refine Xd (.skip (by kernel_rfl) (.cons (.inl ⟨rfl,(Qn Qa Xp (hS17.cell 2 Qa Qa))⟩) .nil)) ?_
  refine QV Qa Qa Qa Qa Qa Qa ?_
  refine Q0 Jl Qa (Jg (hS17.sp [] Qa) n (X.fl.length:Int) (by have :=hW.ln;omega)) Qa ?_
  rintro _ w18 ⟨rfl,hS18⟩
  replace hS18:=hS18.jn Qa Qa
  refine Xd (.skip (by kernel_rfl) (.cons (.inl ⟨rfl,(Qn Qa Xp (hS18.cell 2 Qa Qa))⟩) .nil)) ?_
  refine QV Qa Qa Qa Qa Qa Qa ?_
  refine Q0 YW Qa (Jh (hS18.sp [1] Qa) (Ze n X.fl.length) hW.ln) Qa ?_
  rintro _ w19 ⟨rfl,hS19⟩
  replace hS19:=hS19.jn Qa Qa
  rw[(Hy hp).1]
  rw[(Hy hp).2]at hS19
  refine Xd (Xq (by kernel_rfl)) ?_
  refine QI Qa Qa Qa (Y6 Qa Qa Qa Qa (Y6 Qa Qa Qa Qa (QV Qa Qa Qa Qa Qa Qa ?_)))
  (refine Q8 hS19 Qa Qa XS Qa (by rfl) (i:=1) Qa (by decide) ?_)
  intro w20 hS21; dsimp only[List.set]at hS21
  refine Z9 (Xq (by kernel_rfl)) ?_
  refine WV Qa Qa Qa (VC.nil (Qd (Qk [0,4,5] Qa (Qf (Qb (Qe Qa Qa (QL Qa Qa Qa (Qe Qa Qa (Q4 23 Qa (fun h22=> ?_) (fun h22=> ?_))))))))))
  ·(exfalso; have q9:=h22; simp at q9)
  refine Qg Qa Qa (Qx h22) Qa (Qg Qa Qa (Qx h22) Qa (Qg Qa Qa (Qx h22) Qa (Q3 Qa (Qx h22) Qa Qa (Qe Qa Qa (Qg Qa Qa Qa Qa (Qg Qa Qa Qa Qa (Qg Qa Qa Qa Qa (Q3 Qa Qa Qa Qa (Qh (Qd (Qk [0,4,32] Qa (QJ Qa (Qt (Yl (.inl Qa) Qa ?_))))))))))))))
  exact⟨_,rfl,rfl, by rw[TF hp]; exact QW (X:=X) (hS21.pick [2,3,4,5,0,6] Qa)⟩
 refine Vj (sp:=[9,10,11,15,16]) [0,1,2,3,4,5,6,7,8,15,9,10,11,12,13,14,16,17] (by kernel_rfl) ?_
 refine QI Qa Qa Qa (Xn Qa Qa Qa (QO Qa Qa Qa XA (QF Qa Qa Qa (Qn Qa Xp (hS1.cell 0 Qa Qa)) (QI Qa Qa Qa (QI Qa Qa Qa (Xn Qa Qa Qa (QO Qa Qa Qa XA (QF Qa Qa Qa (Qn Qa Xp (hS1.cell 0 Qa Qa)) (QV Qa Qa Qa Qa Qa Qa ?_)))))))))
 refine Xs hS1 WT Qa Qa ?_
 intro b23 w23 hS23
 refine Xd (.cons (.inl ⟨Qa,(Qn Qa Xp (hS23.cell 1 Qa Qa))⟩) (.cons (.inl ⟨Qa,(Qn Qa Xp (hS23.cell 1 Qa Qa))⟩) .nil)) (QV Qa Qa Qa Qa Qa Qa ?_)
 refine Q0 Yd Qa (Z1 (hS23.sp [5] Qa)) Qa ?_
 rintro _ w24 ⟨rfl,hS24⟩
 replace hS24:=hS24.jn Qa Qa
 refine Xd (.skip (by kernel_rfl) (.cons (.inl ⟨rfl,(Qn Qa Xp (hS24.cell 2 Qa Qa))⟩) .nil)) ?_
 refine QV Qa Qa Qa Qa Qa Qa ?_
 refine Q0 Jl Qa (Jg (hS24.sp [] Qa) n (X.fl.length:Int) (by have :=hW.ln;omega)) Qa ?_
 rintro _ w25 ⟨rfl,hS25⟩
 replace hS25:=hS25.jn Qa Qa
 refine Xd (.skip (by kernel_rfl) (.cons (.inl ⟨rfl,(Qn Qa Xp (hS25.cell 2 Qa Qa))⟩) .nil)) ?_
 refine QV Qa Qa Qa Qa Qa Qa ?_
 refine Q0 YW Qa (Jh (hS25.sp [0] Qa) (Ze n X.fl.length) hW.ln) Qa ?_
 rintro _ w26 ⟨rfl,hS26⟩
 replace hS26:=hS26.jn Qa Qa
 rw[(Hy hp).1]
 rw[(Hy hp).2]at hS26
 refine Xd (Xq (by kernel_rfl)) ?_
 refine QI Qa Qa Qa (Y6 Qa Qa Qa Qa (Y6 Qa Qa Qa Qa (QV Qa Qa Qa Qa Qa Qa ?_)))
 (refine Q8 hS26 Qa Qa XS Qa (by rfl) (i:=1) Qa (by decide) ?_)
 intro w27 hS28; dsimp only[List.set]at hS28
 refine Z9 (Xq (by kernel_rfl)) ?_
 refine WV Qa Qa Qa (VC.nil (Qd (Qk [0,4,5] Qa (Qf (Qb (Qe Qa Qa (QL Qa Qa Qa (Qe Qa Qa (Q4 23 Qa (fun h29=> ?_) (fun h29=> ?_))))))))))
 ·(exfalso; have q9:=h29; simp at q9)
 refine Qg Qa Qa (Qx h29) Qa (Qg Qa Qa (Qx h29) Qa (Qg Qa Qa (Qx h29) Qa (Q3 Qa (Qx h29) Qa Qa (Qe Qa Qa (Qg Qa Qa Qa Qa (Qg Qa Qa Qa Qa (Qg Qa Qa Qa Qa (Q3 Qa Qa Qa Qa (Qh (Qd (Qk [0,4,32] Qa (QJ Qa (Qt (Yl (.inl Qa) Qa ?_))))))))))))))
 exact⟨_,rfl,rfl, by rw[TF hp]; exact QW (X:=X) (hS28.pick [2,3,4,5,0,6] Qa)⟩
theorem AK {w:World} {x:Nat} {X:TwD} {F:Th} (hS:Sat w [Dv x X,F]) (hG:Ent F WireG) (hO:Ent F (Glob 0)) (hW:XW X) (n:Int) {s:Bs} (hp:X.fl[(Ze n X.fl.length).toNat]? =some (false,s)):
    Calls prog 49 #[ptrV x 0,intV n] w (Ret fun v w'=>v= .tuple #[]∧Sat w' [Dv x (Jb X n),F]):= by
 obtain⟨eb,ecap,a,b,p,hS⟩:=HN hS
 refine Qy func49 Qa ntmps49 Qa ?_
 refine Qf ?_
 have hS1:=hS.drew
 refine B5 W5 (YG 9 15 Qa ?_ ?_)
 ·refine YG 10 15 Qa ?_ ?_
  ·refine YG 11 15 Qa ?_ ?_
   ·refine Vj (sp:=[9,10,11,15,16]) [0,1,2,3,4,5,6,7,8,9,10,11,12,13,14,15,16,17] (by kernel_rfl) ?_
    refine QI Qa Qa Qa (Xn Qa Qa Qa (QO Qa Qa Qa XA (QF Qa Qa Qa (Qn Qa Xp (hS1.cell 0 Qa Qa)) (QI Qa Qa Qa (QI Qa Qa Qa (Xn Qa Qa Qa (QO Qa Qa Qa XA (QF Qa Qa Qa (Qn Qa Xp (hS1.cell 0 Qa Qa)) (QV Qa Qa Qa Qa Qa Qa ?_)))))))))
    refine Q0 Yd Qa (Z1 (hS1.sp [4] Qa)) Qa ?_
    rintro _ w2 ⟨rfl,hS2⟩
    replace hS2:=hS2.jn Qa Qa
    refine Xd (.skip (by kernel_rfl) (.cons (.inl ⟨rfl,(Qn Qa Xp (hS2.cell 1 Qa Qa))⟩) .nil)) ?_
    refine QV Qa Qa Qa Qa Qa Qa ?_
    refine Q0 Jl Qa (Jg (hS2.sp [] Qa) n (X.fl.length:Int) (by have :=hW.ln;omega)) Qa ?_
    rintro _ w3 ⟨rfl,hS3⟩
    replace hS3:=hS3.jn Qa Qa
    refine Xd (.skip (by kernel_rfl) (.cons (.inl ⟨rfl,(Qn Qa Xp (hS3.cell 1 Qa Qa))⟩) .nil)) ?_
    refine QV Qa Qa Qa Qa Qa Qa ?_
    refine Q0 YW Qa (Jh (hS3.sp [0] Qa) (Ze n X.fl.length) hW.ln) Qa ?_
    rintro _ w4 ⟨rfl,hS4⟩
    replace hS4:=hS4.jn Qa Qa
    rw[(Zm hp).1,(Zm hp).2.2]
    rw[(Zm hp).2.1]at hS4
    dsimp only
    refine Xd (Xq (by kernel_rfl)) ?_
    refine QI Qa Qa Qa (Y6 Qa Qa Qa Qa (Y6 Qa Qa Qa Qa (QV Qa Qa Qa Qa Qa Qa ?_)))
    refine Xs hS4 WT Qa Qa ?_
    intro b5 w5 hS5
    refine Xd (Xq (by kernel_rfl)) ?_
    refine QV Qa Qa Qa Qa Qa Qa ?_
    (refine Q8 hS5 Qa Qa XS Qa (by rfl) (i:=0) Qa (by decide) ?_)
    intro w6 hS7; dsimp only[List.set]at hS7
    refine Z9 (Xq (by kernel_rfl)) ?_
    refine WV Qa Qa Qa (VC.nil (Qd (Qk [0,4,5] Qa (Qf (Qb (Qe Qa Qa (QL Qa Qa Qa (Qe Qa Qa (Q4 23 Qa (fun h8=> ?_) (fun h8=> ?_))))))))))
    ·refine Qj Qa Qa (QD h8) (Qi Qa X9 Qa (Qj Qa Qa (QD h8) (Qr Qa QH (hS7.cell 0 Qa Qa) Qa (Qj Qa Qa (QD h8) (Jm Qa Qa Qa (Q1 Qa (QD h8) Qa Qa (Qe Qa Qa (Q4 28 Qa (fun h9=> ?_) (fun h9=> ?_)))))))))
     ·refine Qj Qa Qa (QD h9) (Qi Qa X9 Qa (Qj Qa Qa (QD h9) (Qr Qa QH (hS7.cell 0 Qa Qa) Qa (Qj Qa Qa (QD h9) (W9 Qa Qa Qa (Q1 Qa (QD h9) Qa Qa (Qh (Qd (Qk [0,4,32] Qa (Qv Qa (fun h10=> ?_) (fun h10=> ?_)))))))))))
      ·have hS11:=hS7.drew
       refine QN [0,1,2,3,4,5,6,7,8,9,10,11,12,13,14] [13,14] W5 (by kernel_rfl) ?_
       refine QI Qa Qa Qa (QO Qa Qa Qa X9 (QF Qa Qa Qa (Qn Qa QH (hS11.cell 0 Qa Qa)) (QI Qa Qa Qa (Xn Qa Qa Qa (QO Qa Qa Qa Wc (QF Qa Qa Qa (Qn Qa Jx (hS11.cell 2 Qa Qa)) (QO Qa Qa Qa X9 (QF Qa Qa Qa (Qn Qa QH (hS11.cell 0 Qa Qa)) (Q9 Qa Qa Qa (fun _=>(X0 0 Qa Qa (by rfl) (by omega) Ym)) ?_)))))))))
       refine QF Qa Qa Qa (XV RV 3 0 0 hS11 Qa (by rfl) J5 Qa Qa) ?_
       refine QO Qa Qa Qa Hs (QF Qa Qa Qa (Qn Qa Zx (hS11.cell 0 Qa Qa)) (QV Qa Qa Qa Qa Qa Qa ?_))
       refine Q0 H3 Qa (Yq (hS11.sp [4] Qa) (hG.starL 5 Qa) (hO.starL 5 Qa) hW.a s (hW.fl _ (List.mem_of_getElem? hp))) Qa ?_
       rintro _ w12 hS12
       replace hS12:=hS12.jn Qa Qa
       have h1r:=hS12.own_one 0 Qa
       refine Xd (.skip (by kernel_rfl) (.skip (by kernel_rfl) (.skip (by kernel_rfl) (.skip (by kernel_rfl) (.cons (.inl ⟨rfl,(Qn Qa QH (hS12.cell 2 Qa Qa))⟩) .nil))))) ?_
       have hS13:=QW (X:={X with fl:=X.fl.eraseIdx (Ze n X.fl.length).toNat,a:=(ZK X.a s).1}) (hS12.pick [4,5,1,6,3,0,2,7] Qa)
       refine QV Qa Qa Qa Qa Qa Qa ?_
       refine Q0 Yc Qa (Wv (i:=false) (hS13.sp [0,1] Qa) (by have :=Uk (s:=s) hW.a (hW.fl _ (List.mem_of_getElem? hp));omega)) Qa ?_
       rintro _ w14 ⟨rfl,hS14⟩
       replace hS14:=hS14.jn Qa Qa
       refine Xd (Xq (by kernel_rfl)) ?_
       refine VC.nil (Yl (.inl Qa) Qa ?_)
       exact⟨_,rfl,rfl, by rw[SO hp]; exact hS14.pick [0,2] Qa⟩
      (exfalso; have q9:=h10; simp at q9)
     (exfalso; have q9:=h9; simp at q9)
    (exfalso; have q9:=h8; simp at q9)
   refine Vj (sp:=[9,10,11,15,16]) [0,1,2,3,4,5,6,7,8,9,10,15,11,12,13,14,16,17] (by kernel_rfl) ?_
   refine QI Qa Qa Qa (Xn Qa Qa Qa (QO Qa Qa Qa XA (QF Qa Qa Qa (Qn Qa Xp (hS1.cell 0 Qa Qa)) (QI Qa Qa Qa (QI Qa Qa Qa (Xn Qa Qa Qa (QO Qa Qa Qa XA (QF Qa Qa Qa (Qn Qa Xp (hS1.cell 0 Qa Qa)) (QV Qa Qa Qa Qa Qa Qa ?_)))))))))
   refine Q0 Yd Qa (Z1 (hS1.sp [4] Qa)) Qa ?_
   rintro _ w15 ⟨rfl,hS15⟩
   replace hS15:=hS15.jn Qa Qa
   refine Xd (.skip (by kernel_rfl) (.cons (.inl ⟨rfl,(Qn Qa Xp (hS15.cell 1 Qa Qa))⟩) .nil)) ?_
   refine QV Qa Qa Qa Qa Qa Qa ?_
   refine Q0 Jl Qa (Jg (hS15.sp [] Qa) n (X.fl.length:Int) (by have :=hW.ln;omega)) Qa ?_
   rintro _ w16 ⟨rfl,hS16⟩
   replace hS16:=hS16.jn Qa Qa
   refine Xd (.skip (by kernel_rfl) (.cons (.inl ⟨rfl,(Qn Qa Xp (hS16.cell 1 Qa Qa))⟩) .nil)) ?_
   refine QV Qa Qa Qa Qa Qa Qa ?_
   refine Xs hS16 WT Qa Qa ?_
   intro b17 w17 hS17
   refine Xd (.skip (by kernel_rfl) (.cons (.inl ⟨rfl,(Qn Qa Xp (hS17.cell 2 Qa Qa))⟩) .nil)) ?_
   refine QV Qa Qa Qa Qa Qa Qa ?_
   refine Q0 YW Qa (Jh (hS17.sp [1] Qa) (Ze n X.fl.length) hW.ln) Qa ?_
   rintro _ w18 ⟨rfl,hS18⟩
   replace hS18:=hS18.jn Qa Qa
   rw[(Zm hp).1,(Zm hp).2.2]
   rw[(Zm hp).2.1]at hS18
   dsimp only
   refine Xd (Xq (by kernel_rfl)) ?_
   refine QI Qa Qa Qa (Y6 Qa Qa Qa Qa (Y6 Qa Qa Qa Qa (QV Qa Qa Qa Qa Qa Qa ?_)))
   (refine Q8 hS18 Qa Qa XS Qa (by rfl) (i:=1) Qa (by decide) ?_)
   intro w19 hS20; dsimp only[List.set]at hS20
   refine Z9 (Xq (by kernel_rfl)) ?_
   refine WV Qa Qa Qa (VC.nil (Qd (Qk [0,4,5] Qa (Qf (Qb (Qe Qa Qa (QL Qa Qa Qa (Qe Qa Qa (Q4 23 Qa (fun h21=> ?_) (fun h21=> ?_))))))))))
   ·refine Qj Qa Qa (QD h21) (Qi Qa X9 Qa (Qj Qa Qa (QD h21) (Qr Qa QH (hS20.cell 1 Qa Qa) Qa (Qj Qa Qa (QD h21) (Jm Qa Qa Qa (Q1 Qa (QD h21) Qa Qa (Qe Qa Qa (Q4 28 Qa (fun h22=> ?_) (fun h22=> ?_)))))))))
    ·refine Qj Qa Qa (QD h22) (Qi Qa X9 Qa (Qj Qa Qa (QD h22) (Qr Qa QH (hS20.cell 1 Qa Qa) Qa (Qj Qa Qa (QD h22) (W9 Qa Qa Qa (Q1 Qa (QD h22) Qa Qa (Qh (Qd (Qk [0,4,32] Qa (Qv Qa (fun h23=> ?_) (fun h23=> ?_)))))))))))
     ·have hS24:=hS20.drew
      refine QN [0,1,2,3,4,5,6,7,8,9,10,11,12,13,14] [13,14] W5 (by kernel_rfl) ?_
      refine QI Qa Qa Qa (QO Qa Qa Qa X9 (QF Qa Qa Qa (Qn Qa QH (hS24.cell 1 Qa Qa)) (QI Qa Qa Qa (Xn Qa Qa Qa (QO Qa Qa Qa Wc (QF Qa Qa Qa (Qn Qa Jx (hS24.cell 2 Qa Qa)) (QO Qa Qa Qa X9 (QF Qa Qa Qa (Qn Qa QH (hS24.cell 1 Qa Qa)) (Q9 Qa Qa Qa (fun _=>(X0 0 Qa Qa (by rfl) (by omega) Ym)) ?_)))))))))
      refine QF Qa Qa Qa (XV RV 3 0 0 hS24 Qa (by rfl) J5 Qa Qa) ?_
      refine QO Qa Qa Qa Hs (QF Qa Qa Qa (Qn Qa Zx (hS24.cell 1 Qa Qa)) (QV Qa Qa Qa Qa Qa Qa ?_))
      refine Q0 H3 Qa (Yq (hS24.sp [4] Qa) (hG.starL 5 Qa) (hO.starL 5 Qa) hW.a s (hW.fl _ (List.mem_of_getElem? hp))) Qa ?_
      rintro _ w25 hS25
      replace hS25:=hS25.jn Qa Qa
      have h1r:=hS25.own_one 0 Qa
      refine Xd (.skip (by kernel_rfl) (.skip (by kernel_rfl) (.skip (by kernel_rfl) (.skip (by kernel_rfl) (.cons (.inl ⟨rfl,(Qn Qa QH (hS25.cell 3 Qa Qa))⟩) .nil))))) ?_
      have hS26:=QW (X:={X with fl:=X.fl.eraseIdx (Ze n X.fl.length).toNat,a:=(ZK X.a s).1}) (hS25.pick [4,5,1,6,2,0,3,7] Qa)
      refine QV Qa Qa Qa Qa Qa Qa ?_
      refine Q0 Yc Qa (Wv (i:=false) (hS26.sp [0,1] Qa) (by have :=Uk (s:=s) hW.a (hW.fl _ (List.mem_of_getElem? hp));omega)) Qa ?_
      rintro _ w27 ⟨rfl,hS27⟩
      replace hS27:=hS27.jn Qa Qa
      refine Xd (Xq (by kernel_rfl)) ?_
      refine VC.nil (Yl (.inl Qa) Qa ?_)
      exact⟨_,rfl,rfl, by rw[SO hp]; exact hS27.pick [0,2] Qa⟩
     (exfalso; have q9:=h23; simp at q9)
    (exfalso; have q9:=h22; simp at q9)
   (exfalso; have q9:=h21; simp at q9)
  refine Vj (sp:=[9,10,11,15,16]) [0,1,2,3,4,5,6,7,8,9,15,10,11,12,13,14,16,17] (by kernel_rfl) ?_
  refine QI Qa Qa Qa (Xn Qa Qa Qa (QO Qa Qa Qa XA (QF Qa Qa Qa (Qn Qa Xp (hS1.cell 0 Qa Qa)) (QI Qa Qa Qa (QI Qa Qa Qa (Xn Qa Qa Qa (QO Qa Qa Qa XA (QF Qa Qa Qa (Qn Qa Xp (hS1.cell 0 Qa Qa)) (QV Qa Qa Qa Qa Qa Qa ?_)))))))))
  refine Q0 Yd Qa (Z1 (hS1.sp [4] Qa)) Qa ?_
  rintro _ w28 ⟨rfl,hS28⟩
  replace hS28:=hS28.jn Qa Qa
  refine Xd (.skip (by kernel_rfl) (.cons (.inl ⟨rfl,(Qn Qa Xp (hS28.cell 1 Qa Qa))⟩) .nil)) ?_
  refine QV Qa Qa Qa Qa Qa Qa ?_
  refine Xs hS28 WT Qa Qa ?_
  intro b29 w29 hS29
  refine Xd (.skip (by kernel_rfl) (.cons (.inl ⟨rfl,(Qn Qa Xp (hS29.cell 2 Qa Qa))⟩) .nil)) ?_
  refine QV Qa Qa Qa Qa Qa Qa ?_
  refine Q0 Jl Qa (Jg (hS29.sp [] Qa) n (X.fl.length:Int) (by have :=hW.ln;omega)) Qa ?_
  rintro _ w30 ⟨rfl,hS30⟩
  replace hS30:=hS30.jn Qa Qa
  refine Xd (.skip (by kernel_rfl) (.cons (.inl ⟨rfl,(Qn Qa Xp (hS30.cell 2 Qa Qa))⟩) .nil)) ?_
  refine QV Qa Qa Qa Qa Qa Qa ?_
  refine Q0 YW Qa (Jh (hS30.sp [1] Qa) (Ze n X.fl.length) hW.ln) Qa ?_
  rintro _ w31 ⟨rfl,hS31⟩
  replace hS31:=hS31.jn Qa Qa
  rw[(Zm hp).1,(Zm hp).2.2]
  rw[(Zm hp).2.1]at hS31
  dsimp only
  refine Xd (Xq (by kernel_rfl)) ?_
  refine QI Qa Qa Qa (Y6 Qa Qa Qa Qa (Y6 Qa Qa Qa Qa (QV Qa Qa Qa Qa Qa Qa ?_)))
  (refine Q8 hS31 Qa Qa XS Qa (by rfl) (i:=1) Qa (by decide) ?_)
  intro w32 hS33; dsimp only[List.set]at hS33
  refine Z9 (Xq (by kernel_rfl)) ?_
  refine WV Qa Qa Qa (VC.nil (Qd (Qk [0,4,5] Qa (Qf (Qb (Qe Qa Qa (QL Qa Qa Qa (Qe Qa Qa (Q4 23 Qa (fun h34=> ?_) (fun h34=> ?_))))))))))
  ·refine Qj Qa Qa (QD h34) (Qi Qa X9 Qa (Qj Qa Qa (QD h34) (Qr Qa QH (hS33.cell 1 Qa Qa) Qa (Qj Qa Qa (QD h34) (Jm Qa Qa Qa (Q1 Qa (QD h34) Qa Qa (Qe Qa Qa (Q4 28 Qa (fun h35=> ?_) (fun h35=> ?_)))))))))
   ·refine Qj Qa Qa (QD h35) (Qi Qa X9 Qa (Qj Qa Qa (QD h35) (Qr Qa QH (hS33.cell 1 Qa Qa) Qa (Qj Qa Qa (QD h35) (W9 Qa Qa Qa (Q1 Qa (QD h35) Qa Qa (Qh (Qd (Qk [0,4,32] Qa (Qv Qa (fun h36=> ?_) (fun h36=> ?_)))))))))))
    ·have hS37:=hS33.drew
     refine QN [0,1,2,3,4,5,6,7,8,9,10,11,12,13,14] [13,14] W5 (by kernel_rfl) ?_
     refine QI Qa Qa Qa (QO Qa Qa Qa X9 (QF Qa Qa Qa (Qn Qa QH (hS37.cell 1 Qa Qa)) (QI Qa Qa Qa (Xn Qa Qa Qa (QO Qa Qa Qa Wc (QF Qa Qa Qa (Qn Qa Jx (hS37.cell 2 Qa Qa)) (QO Qa Qa Qa X9 (QF Qa Qa Qa (Qn Qa QH (hS37.cell 1 Qa Qa)) (Q9 Qa Qa Qa (fun _=>(X0 0 Qa Qa (by rfl) (by omega) Ym)) ?_)))))))))
     refine QF Qa Qa Qa (XV RV 3 0 0 hS37 Qa (by rfl) J5 Qa Qa) ?_
     refine QO Qa Qa Qa Hs (QF Qa Qa Qa (Qn Qa Zx (hS37.cell 1 Qa Qa)) (QV Qa Qa Qa Qa Qa Qa ?_))
     refine Q0 H3 Qa (Yq (hS37.sp [4] Qa) (hG.starL 5 Qa) (hO.starL 5 Qa) hW.a s (hW.fl _ (List.mem_of_getElem? hp))) Qa ?_
     rintro _ w38 hS38
     replace hS38:=hS38.jn Qa Qa
     have h1r:=hS38.own_one 0 Qa
     refine Xd (.skip (by kernel_rfl) (.skip (by kernel_rfl) (.skip (by kernel_rfl) (.skip (by kernel_rfl) (.cons (.inl ⟨rfl,(Qn Qa QH (hS38.cell 3 Qa Qa))⟩) .nil))))) ?_
     have hS39:=QW (X:={X with fl:=X.fl.eraseIdx (Ze n X.fl.length).toNat,a:=(ZK X.a s).1}) (hS38.pick [4,5,1,6,2,0,3,7] Qa)
     refine QV Qa Qa Qa Qa Qa Qa ?_
     refine Q0 Yc Qa (Wv (i:=false) (hS39.sp [0,1] Qa) (by have :=Uk (s:=s) hW.a (hW.fl _ (List.mem_of_getElem? hp));omega)) Qa ?_
     rintro _ w40 ⟨rfl,hS40⟩
     replace hS40:=hS40.jn Qa Qa
     refine Xd (Xq (by kernel_rfl)) ?_
     refine VC.nil (Yl (.inl Qa) Qa ?_)
     exact⟨_,rfl,rfl, by rw[SO hp]; exact hS40.pick [0,2] Qa⟩
    (exfalso; have q9:=h36; simp at q9)
   (exfalso; have q9:=h35; simp at q9)
  (exfalso; have q9:=h34; simp at q9)
 refine Vj (sp:=[9,10,11,15,16]) [0,1,2,3,4,5,6,7,8,15,9,10,11,12,13,14,16,17] (by kernel_rfl) ?_
 refine QI Qa Qa Qa (Xn Qa Qa Qa (QO Qa Qa Qa XA (QF Qa Qa Qa (Qn Qa Xp (hS1.cell 0 Qa Qa)) (QI Qa Qa Qa (QI Qa Qa Qa (Xn Qa Qa Qa (QO Qa Qa Qa XA (QF Qa Qa Qa (Qn Qa Xp (hS1.cell 0 Qa Qa)) (QV Qa Qa Qa Qa Qa Qa ?_)))))))))
 refine Xs hS1 WT Qa Qa ?_
 intro b41 w41 hS41
 refine Xd (.cons (.inl ⟨Qa,(Qn Qa Xp (hS41.cell 1 Qa Qa))⟩) (.cons (.inl ⟨Qa,(Qn Qa Xp (hS41.cell 1 Qa Qa))⟩) .nil)) (QV Qa Qa Qa Qa Qa Qa ?_)
 refine Q0 Yd Qa (Z1 (hS41.sp [5] Qa)) Qa ?_
 rintro _ w42 ⟨rfl,hS42⟩
 replace hS42:=hS42.jn Qa Qa
 refine Xd (.skip (by kernel_rfl) (.cons (.inl ⟨rfl,(Qn Qa Xp (hS42.cell 2 Qa Qa))⟩) .nil)) ?_
 refine QV Qa Qa Qa Qa Qa Qa ?_
 refine Q0 Jl Qa (Jg (hS42.sp [] Qa) n (X.fl.length:Int) (by have :=hW.ln;omega)) Qa ?_
 rintro _ w43 ⟨rfl,hS43⟩
 replace hS43:=hS43.jn Qa Qa
 refine Xd (.skip (by kernel_rfl) (.cons (.inl ⟨rfl,(Qn Qa Xp (hS43.cell 2 Qa Qa))⟩) .nil)) ?_
 refine QV Qa Qa Qa Qa Qa Qa ?_
 refine Q0 YW Qa (Jh (hS43.sp [0] Qa) (Ze n X.fl.length) hW.ln) Qa ?_
 rintro _ w44 ⟨rfl,hS44⟩
 replace hS44:=hS44.jn Qa Qa
 rw[(Zm hp).1,(Zm hp).2.2]
 rw[(Zm hp).2.1]at hS44
 dsimp only
 refine Xd (Xq (by kernel_rfl)) ?_
 refine QI Qa Qa Qa (Y6 Qa Qa Qa Qa (Y6 Qa Qa Qa Qa (QV Qa Qa Qa Qa Qa Qa ?_)))
 (refine Q8 hS44 Qa Qa XS Qa (by rfl) (i:=1) Qa (by decide) ?_)
 intro w45 hS46; dsimp only[List.set]at hS46
 refine Z9 (Xq (by kernel_rfl)) ?_
 refine WV Qa Qa Qa (VC.nil (Qd (Qk [0,4,5] Qa (Qf (Qb (Qe Qa Qa (QL Qa Qa Qa (Qe Qa Qa (Q4 23 Qa (fun h47=> ?_) (fun h47=> ?_))))))))))
 ·refine Qj Qa Qa (QD h47) (Qi Qa X9 Qa (Qj Qa Qa (QD h47) (Qr Qa QH (hS46.cell 1 Qa Qa) Qa (Qj Qa Qa (QD h47) (Jm Qa Qa Qa (Q1 Qa (QD h47) Qa Qa (Qe Qa Qa (Q4 28 Qa (fun h48=> ?_) (fun h48=> ?_)))))))))
  ·refine Qj Qa Qa (QD h48) (Qi Qa X9 Qa (Qj Qa Qa (QD h48) (Qr Qa QH (hS46.cell 1 Qa Qa) Qa (Qj Qa Qa (QD h48) (W9 Qa Qa Qa (Q1 Qa (QD h48) Qa Qa (Qh (Qd (Qk [0,4,32] Qa (Qv Qa (fun h49=> ?_) (fun h49=> ?_)))))))))))
   ·have hS50:=hS46.drew
    refine QN [0,1,2,3,4,5,6,7,8,9,10,11,12,13,14] [13,14] W5 (by kernel_rfl) ?_
    refine QI Qa Qa Qa (QO Qa Qa Qa X9 (QF Qa Qa Qa (Qn Qa QH (hS50.cell 1 Qa Qa)) (QI Qa Qa Qa (Xn Qa Qa Qa (QO Qa Qa Qa Wc (QF Qa Qa Qa (Qn Qa Jx (hS50.cell 2 Qa Qa)) (QO Qa Qa Qa X9 (QF Qa Qa Qa (Qn Qa QH (hS50.cell 1 Qa Qa)) (Q9 Qa Qa Qa (fun _=>(X0 0 Qa Qa (by rfl) (by omega) Ym)) ?_)))))))))
    refine QF Qa Qa Qa (XV RV 3 0 0 hS50 Qa (by rfl) J5 Qa Qa) ?_
    refine QO Qa Qa Qa Hs (QF Qa Qa Qa (Qn Qa Zx (hS50.cell 1 Qa Qa)) (QV Qa Qa Qa Qa Qa Qa ?_))
    refine Q0 H3 Qa (Yq (hS50.sp [4] Qa) (hG.starL 5 Qa) (hO.starL 5 Qa) hW.a s (hW.fl _ (List.mem_of_getElem? hp))) Qa ?_
    rintro _ w51 hS51
    replace hS51:=hS51.jn Qa Qa
    have h1r:=hS51.own_one 0 Qa
    refine Xd (.skip (by kernel_rfl) (.skip (by kernel_rfl) (.skip (by kernel_rfl) (.skip (by kernel_rfl) (.cons (.inl ⟨rfl,(Qn Qa QH (hS51.cell 3 Qa Qa))⟩) .nil))))) ?_
    have hS52:=QW (X:={X with fl:=X.fl.eraseIdx (Ze n X.fl.length).toNat,a:=(ZK X.a s).1}) (hS51.pick [4,5,1,6,2,0,3,7] Qa)
    refine QV Qa Qa Qa Qa Qa Qa ?_
    refine Q0 Yc Qa (Wv (i:=false) (hS52.sp [0,1] Qa) (by have :=Uk (s:=s) hW.a (hW.fl _ (List.mem_of_getElem? hp));omega)) Qa ?_
    rintro _ w53 ⟨rfl,hS53⟩
    replace hS53:=hS53.jn Qa Qa
    refine Xd (Xq (by kernel_rfl)) ?_
    refine VC.nil (Yl (.inl Qa) Qa ?_)
    exact⟨_,rfl,rfl, by rw[SO hp]; exact hS53.pick [0,2] Qa⟩
   (exfalso; have q9:=h49; simp at q9)
  (exfalso; have q9:=h48; simp at q9)
 (exfalso; have q9:=h47; simp at q9)
theorem AI {w:World} {x:Nat} {X:TwD} {F:Th} (hS:Sat w [Dv x X,F]) (hG:Ent F WireG) (hO:Ent F (Glob 0)) (hW:XW X) (n:Int) {s:Bs} (hp:X.fl[(Ze n X.fl.length).toNat]? =some (true,s)):
    Calls prog 49 #[ptrV x 0,intV n] w (Ret fun v w'=>v= .tuple #[]∧Sat w' [Dv x (Jb X n),F]):= by
 obtain⟨eb,ecap,a,b,p,hS⟩:=HN hS
 refine Qy func49 Qa ntmps49 Qa ?_
 refine Qf ?_
 have hS1:=hS.drew
 refine B5 W5 (YG 9 15 Qa ?_ ?_)
 ·refine YG 10 15 Qa ?_ ?_
  ·refine YG 11 15 Qa ?_ ?_
   ·refine Vj (sp:=[9,10,11,15,16]) [0,1,2,3,4,5,6,7,8,9,10,11,12,13,14,15,16,17] (by kernel_rfl) ?_
    refine QI Qa Qa Qa (Xn Qa Qa Qa (QO Qa Qa Qa XA (QF Qa Qa Qa (Qn Qa Xp (hS1.cell 0 Qa Qa)) (QI Qa Qa Qa (QI Qa Qa Qa (Xn Qa Qa Qa (QO Qa Qa Qa XA (QF Qa Qa Qa (Qn Qa Xp (hS1.cell 0 Qa Qa)) (QV Qa Qa Qa Qa Qa Qa ?_)))))))))
    refine Q0 Yd Qa (Z1 (hS1.sp [4] Qa)) Qa ?_
    rintro _ w2 ⟨rfl,hS2⟩
    replace hS2:=hS2.jn Qa Qa
    refine Xd (.skip (by kernel_rfl) (.cons (.inl ⟨rfl,(Qn Qa Xp (hS2.cell 1 Qa Qa))⟩) .nil)) ?_
    refine QV Qa Qa Qa Qa Qa Qa ?_
    refine Q0 Jl Qa (Jg (hS2.sp [] Qa) n (X.fl.length:Int) (by have :=hW.ln;omega)) Qa ?_
    rintro _ w3 ⟨rfl,hS3⟩
    replace hS3:=hS3.jn Qa Qa
    refine Xd (.skip (by kernel_rfl) (.cons (.inl ⟨rfl,(Qn Qa Xp (hS3.cell 1 Qa Qa))⟩) .nil)) ?_
    refine QV Qa Qa Qa Qa Qa Qa ?_
    refine Q0 YW Qa (Jh (hS3.sp [0] Qa) (Ze n X.fl.length) hW.ln) Qa ?_
    rintro _ w4 ⟨rfl,hS4⟩
    replace hS4:=hS4.jn Qa Qa
    rw[(Zm hp).1,(Zm hp).2.2]
    rw[(Zm hp).2.1]at hS4
    dsimp only
    refine Xd (Xq (by kernel_rfl)) ?_
    refine QI Qa Qa Qa (Y6 Qa Qa Qa Qa (Y6 Qa Qa Qa Qa (QV Qa Qa Qa Qa Qa Qa ?_)))
    refine Xs hS4 WT Qa Qa ?_
    intro b5 w5 hS5
    refine Xd (Xq (by kernel_rfl)) ?_
    refine QV Qa Qa Qa Qa Qa Qa ?_
    (refine Q8 hS5 Qa Qa XS Qa (by rfl) (i:=0) Qa (by decide) ?_)
    intro w6 hS7; dsimp only[List.set]at hS7
    refine Z9 (Xq (by kernel_rfl)) ?_
    refine WV Qa Qa Qa (VC.nil (Qd (Qk [0,4,5] Qa (Qf (Qb (Qe Qa Qa (QL Qa Qa Qa (Qe Qa Qa (Q4 23 Qa (fun h8=> ?_) (fun h8=> ?_))))))))))
    ·refine Qj Qa Qa (QD h8) (Qi Qa X9 Qa (Qj Qa Qa (QD h8) (Qr Qa QH (hS7.cell 0 Qa Qa) Qa (Qj Qa Qa (QD h8) (Jm Qa Qa Qa (Q1 Qa (QD h8) Qa Qa (Qe Qa Qa (Q4 28 Qa (fun h9=> ?_) (fun h9=> ?_)))))))))
     ·refine Qj Qa Qa (QD h9) (Qi Qa X9 Qa (Qj Qa Qa (QD h9) (Qr Qa QH (hS7.cell 0 Qa Qa) Qa (Qj Qa Qa (QD h9) (W9 Qa Qa Qa (Q1 Qa (QD h9) Qa Qa (Qh (Qd (Qk [0,4,32] Qa (Qv Qa (fun h10=> ?_) (fun h10=> ?_)))))))))))
      ·have hS11:=hS7.drew
       refine QN [0,1,2,3,4,5,6,7,8,9,10,11,12,13,14] [13,14] W5 (by kernel_rfl) ?_
       refine QI Qa Qa Qa (QO Qa Qa Qa X9 (QF Qa Qa Qa (Qn Qa QH (hS11.cell 0 Qa Qa)) (QI Qa Qa Qa (Xn Qa Qa Qa (QO Qa Qa Qa Wc (QF Qa Qa Qa (Qn Qa Jx (hS11.cell 2 Qa Qa)) (QO Qa Qa Qa X9 (QF Qa Qa Qa (Qn Qa QH (hS11.cell 0 Qa Qa)) (Q9 Qa Qa Qa (fun _=>(X0 1 Qa Qa (by rfl) (by omega) Ym)) ?_)))))))))
       refine QF Qa Qa Qa (XV RV 3 1 0 hS11 Qa (by rfl) J5 Qa Qa) ?_
       refine QO Qa Qa Qa Hs (QF Qa Qa Qa (Qn Qa Zx (hS11.cell 0 Qa Qa)) (QV Qa Qa Qa Qa Qa Qa ?_))
       refine Q0 H3 Qa (Yq (hS11.sp [5] Qa) (hG.starL 5 Qa) (hO.starL 5 Qa) hW.b s (hW.fl _ (List.mem_of_getElem? hp))) Qa ?_
       rintro _ w12 hS12
       replace hS12:=hS12.jn Qa Qa
       have h1r:=hS12.own_one 0 Qa
       refine Xd (.skip (by kernel_rfl) (.skip (by kernel_rfl) (.skip (by kernel_rfl) (.skip (by kernel_rfl) (.cons (.inl ⟨rfl,(Qn Qa QH (hS12.cell 2 Qa Qa))⟩) .nil))))) ?_
       have hS13:=QW (X:={X with fl:=X.fl.eraseIdx (Ze n X.fl.length).toNat,b:=(ZK X.b s).1}) (hS12.pick [4,5,6,1,3,0,2,7] Qa)
       refine QV Qa Qa Qa Qa Qa Qa ?_
       refine Q0 Yc Qa (Wv (i:=true) (hS13.sp [0,1] Qa) (by have :=Uk (s:=s) hW.b (hW.fl _ (List.mem_of_getElem? hp));omega)) Qa ?_
       rintro _ w14 ⟨rfl,hS14⟩
       replace hS14:=hS14.jn Qa Qa
       refine Xd (Xq (by kernel_rfl)) ?_
       refine VC.nil (Yl (.inl Qa) Qa ?_)
       exact⟨_,rfl,rfl, by rw[SN hp]; exact hS14.pick [0,2] Qa⟩
      (exfalso; have q9:=h10; simp at q9)
     (exfalso; have q9:=h9; simp at q9)
    (exfalso; have q9:=h8; simp at q9)
   refine Vj (sp:=[9,10,11,15,16]) [0,1,2,3,4,5,6,7,8,9,10,15,11,12,13,14,16,17] (by kernel_rfl) ?_
   refine QI Qa Qa Qa (Xn Qa Qa Qa (QO Qa Qa Qa XA (QF Qa Qa Qa (Qn Qa Xp (hS1.cell 0 Qa Qa)) (QI Qa Qa Qa (QI Qa Qa Qa (Xn Qa Qa Qa (QO Qa Qa Qa XA (QF Qa Qa Qa (Qn Qa Xp (hS1.cell 0 Qa Qa)) (QV Qa Qa Qa Qa Qa Qa ?_)))))))))
   refine Q0 Yd Qa (Z1 (hS1.sp [4] Qa)) Qa ?_
   rintro _ w15 ⟨rfl,hS15⟩
   replace hS15:=hS15.jn Qa Qa
   refine Xd (.skip (by kernel_rfl) (.cons (.inl ⟨rfl,(Qn Qa Xp (hS15.cell 1 Qa Qa))⟩) .nil)) ?_
   refine QV Qa Qa Qa Qa Qa Qa ?_
   refine Q0 Jl Qa (Jg (hS15.sp [] Qa) n (X.fl.length:Int) (by have :=hW.ln;omega)) Qa ?_
   rintro _ w16 ⟨rfl,hS16⟩
   replace hS16:=hS16.jn Qa Qa
   refine Xd (.skip (by kernel_rfl) (.cons (.inl ⟨rfl,(Qn Qa Xp (hS16.cell 1 Qa Qa))⟩) .nil)) ?_
   refine QV Qa Qa Qa Qa Qa Qa ?_
   refine Xs hS16 WT Qa Qa ?_
   intro b17 w17 hS17
   refine Xd (.skip (by kernel_rfl) (.cons (.inl ⟨rfl,(Qn Qa Xp (hS17.cell 2 Qa Qa))⟩) .nil)) ?_
   refine QV Qa Qa Qa Qa Qa Qa ?_
   refine Q0 YW Qa (Jh (hS17.sp [1] Qa) (Ze n X.fl.length) hW.ln) Qa ?_
   rintro _ w18 ⟨rfl,hS18⟩
   replace hS18:=hS18.jn Qa Qa
   rw[(Zm hp).1,(Zm hp).2.2]
   rw[(Zm hp).2.1]at hS18
   dsimp only
   refine Xd (Xq (by kernel_rfl)) ?_
   refine QI Qa Qa Qa (Y6 Qa Qa Qa Qa (Y6 Qa Qa Qa Qa (QV Qa Qa Qa Qa Qa Qa ?_)))
   (refine Q8 hS18 Qa Qa XS Qa (by rfl) (i:=1) Qa (by decide) ?_)
   intro w19 hS20; dsimp only[List.set]at hS20
   refine Z9 (Xq (by kernel_rfl)) ?_
   refine WV Qa Qa Qa (VC.nil (Qd (Qk [0,4,5] Qa (Qf (Qb (Qe Qa Qa (QL Qa Qa Qa (Qe Qa Qa (Q4 23 Qa (fun h21=> ?_) (fun h21=> ?_))))))))))
   ·refine Qj Qa Qa (QD h21) (Qi Qa X9 Qa (Qj Qa Qa (QD h21) (Qr Qa QH (hS20.cell 1 Qa Qa) Qa (Qj Qa Qa (QD h21) (Jm Qa Qa Qa (Q1 Qa (QD h21) Qa Qa (Qe Qa Qa (Q4 28 Qa (fun h22=> ?_) (fun h22=> ?_)))))))))
    ·refine Qj Qa Qa (QD h22) (Qi Qa X9 Qa (Qj Qa Qa (QD h22) (Qr Qa QH (hS20.cell 1 Qa Qa) Qa (Qj Qa Qa (QD h22) (W9 Qa Qa Qa (Q1 Qa (QD h22) Qa Qa (Qh (Qd (Qk [0,4,32] Qa (Qv Qa (fun h23=> ?_) (fun h23=> ?_)))))))))))
     ·have hS24:=hS20.drew
      refine QN [0,1,2,3,4,5,6,7,8,9,10,11,12,13,14] [13,14] W5 (by kernel_rfl) ?_
      refine QI Qa Qa Qa (QO Qa Qa Qa X9 (QF Qa Qa Qa (Qn Qa QH (hS24.cell 1 Qa Qa)) (QI Qa Qa Qa (Xn Qa Qa Qa (QO Qa Qa Qa Wc (QF Qa Qa Qa (Qn Qa Jx (hS24.cell 2 Qa Qa)) (QO Qa Qa Qa X9 (QF Qa Qa Qa (Qn Qa QH (hS24.cell 1 Qa Qa)) (Q9 Qa Qa Qa (fun _=>(X0 1 Qa Qa (by rfl) (by omega) Ym)) ?_)))))))))
      refine QF Qa Qa Qa (XV RV 3 1 0 hS24 Qa (by rfl) J5 Qa Qa) ?_
      refine QO Qa Qa Qa Hs (QF Qa Qa Qa (Qn Qa Zx (hS24.cell 1 Qa Qa)) (QV Qa Qa Qa Qa Qa Qa ?_))
      refine Q0 H3 Qa (Yq (hS24.sp [5] Qa) (hG.starL 5 Qa) (hO.starL 5 Qa) hW.b s (hW.fl _ (List.mem_of_getElem? hp))) Qa ?_
      rintro _ w25 hS25
      replace hS25:=hS25.jn Qa Qa
      have h1r:=hS25.own_one 0 Qa
      refine Xd (.skip (by kernel_rfl) (.skip (by kernel_rfl) (.skip (by kernel_rfl) (.skip (by kernel_rfl) (.cons (.inl ⟨rfl,(Qn Qa QH (hS25.cell 3 Qa Qa))⟩) .nil))))) ?_
      have hS26:=QW (X:={X with fl:=X.fl.eraseIdx (Ze n X.fl.length).toNat,b:=(ZK X.b s).1}) (hS25.pick [4,5,6,1,2,0,3,7] Qa)
      refine QV Qa Qa Qa Qa Qa Qa ?_
      refine Q0 Yc Qa (Wv (i:=true) (hS26.sp [0,1] Qa) (by have :=Uk (s:=s) hW.b (hW.fl _ (List.mem_of_getElem? hp));omega)) Qa ?_
      rintro _ w27 ⟨rfl,hS27⟩
      replace hS27:=hS27.jn Qa Qa
      refine Xd (Xq (by kernel_rfl)) ?_
      refine VC.nil (Yl (.inl Qa) Qa ?_)
      exact⟨_,rfl,rfl, by rw[SN hp]; exact hS27.pick [0,2] Qa⟩
     (exfalso; have q9:=h23; simp at q9)
    (exfalso; have q9:=h22; simp at q9)
   (exfalso; have q9:=h21; simp at q9)
  refine Vj (sp:=[9,10,11,15,16]) [0,1,2,3,4,5,6,7,8,9,15,10,11,12,13,14,16,17] (by kernel_rfl) ?_
  refine QI Qa Qa Qa (Xn Qa Qa Qa (QO Qa Qa Qa XA (QF Qa Qa Qa (Qn Qa Xp (hS1.cell 0 Qa Qa)) (QI Qa Qa Qa (QI Qa Qa Qa (Xn Qa Qa Qa (QO Qa Qa Qa XA (QF Qa Qa Qa (Qn Qa Xp (hS1.cell 0 Qa Qa)) (QV Qa Qa Qa Qa Qa Qa ?_)))))))))
  refine Q0 Yd Qa (Z1 (hS1.sp [4] Qa)) Qa ?_
  rintro _ w28 ⟨rfl,hS28⟩
  replace hS28:=hS28.jn Qa Qa
  refine Xd (.skip (by kernel_rfl) (.cons (.inl ⟨rfl,(Qn Qa Xp (hS28.cell 1 Qa Qa))⟩) .nil)) ?_
  refine QV Qa Qa Qa Qa Qa Qa ?_
  refine Xs hS28 WT Qa Qa ?_
  intro b29 w29 hS29
  refine Xd (.skip (by kernel_rfl) (.cons (.inl ⟨rfl,(Qn Qa Xp (hS29.cell 2 Qa Qa))⟩) .nil)) ?_
  refine QV Qa Qa Qa Qa Qa Qa ?_
  refine Q0 Jl Qa (Jg (hS29.sp [] Qa) n (X.fl.length:Int) (by have :=hW.ln;omega)) Qa ?_
  rintro _ w30 ⟨rfl,hS30⟩
  replace hS30:=hS30.jn Qa Qa
  refine Xd (.skip (by kernel_rfl) (.cons (.inl ⟨rfl,(Qn Qa Xp (hS30.cell 2 Qa Qa))⟩) .nil)) ?_
  refine QV Qa Qa Qa Qa Qa Qa ?_
  refine Q0 YW Qa (Jh (hS30.sp [1] Qa) (Ze n X.fl.length) hW.ln) Qa ?_
  rintro _ w31 ⟨rfl,hS31⟩
  replace hS31:=hS31.jn Qa Qa
  rw[(Zm hp).1,(Zm hp).2.2]
  rw[(Zm hp).2.1]at hS31
  dsimp only
  refine Xd (Xq (by kernel_rfl)) ?_
  refine QI Qa Qa Qa (Y6 Qa Qa Qa Qa (Y6 Qa Qa Qa Qa (QV Qa Qa Qa Qa Qa Qa ?_)))
  (refine Q8 hS31 Qa Qa XS Qa (by rfl) (i:=1) Qa (by decide) ?_)
  intro w32 hS33; dsimp only[List.set]at hS33
  refine Z9 (Xq (by kernel_rfl)) ?_
  refine WV Qa Qa Qa (VC.nil (Qd (Qk [0,4,5] Qa (Qf (Qb (Qe Qa Qa (QL Qa Qa Qa (Qe Qa Qa (Q4 23 Qa (fun h34=> ?_) (fun h34=> ?_))))))))))
  ·refine Qj Qa Qa (QD h34) (Qi Qa X9 Qa (Qj Qa Qa (QD h34) (Qr Qa QH (hS33.cell 1 Qa Qa) Qa (Qj Qa Qa (QD h34) (Jm Qa Qa Qa (Q1 Qa (QD h34) Qa Qa (Qe Qa Qa (Q4 28 Qa (fun h35=> ?_) (fun h35=> ?_)))))))))
   ·refine Qj Qa Qa (QD h35) (Qi Qa X9 Qa (Qj Qa Qa (QD h35) (Qr Qa QH (hS33.cell 1 Qa Qa) Qa (Qj Qa Qa (QD h35) (W9 Qa Qa Qa (Q1 Qa (QD h35) Qa Qa (Qh (Qd (Qk [0,4,32] Qa (Qv Qa (fun h36=> ?_) (fun h36=> ?_)))))))))))
    ·have hS37:=hS33.drew
     refine QN [0,1,2,3,4,5,6,7,8,9,10,11,12,13,14] [13,14] W5 (by kernel_rfl) ?_
     refine QI Qa Qa Qa (QO Qa Qa Qa X9 (QF Qa Qa Qa (Qn Qa QH (hS37.cell 1 Qa Qa)) (QI Qa Qa Qa (Xn Qa Qa Qa (QO Qa Qa Qa Wc (QF Qa Qa Qa (Qn Qa Jx (hS37.cell 2 Qa Qa)) (QO Qa Qa Qa X9 (QF Qa Qa Qa (Qn Qa QH (hS37.cell 1 Qa Qa)) (Q9 Qa Qa Qa (fun _=>(X0 1 Qa Qa (by rfl) (by omega) Ym)) ?_)))))))))
     refine QF Qa Qa Qa (XV RV 3 1 0 hS37 Qa (by rfl) J5 Qa Qa) ?_
     refine QO Qa Qa Qa Hs (QF Qa Qa Qa (Qn Qa Zx (hS37.cell 1 Qa Qa)) (QV Qa Qa Qa Qa Qa Qa ?_))
     refine Q0 H3 Qa (Yq (hS37.sp [5] Qa) (hG.starL 5 Qa) (hO.starL 5 Qa) hW.b s (hW.fl _ (List.mem_of_getElem? hp))) Qa ?_
     rintro _ w38 hS38
     replace hS38:=hS38.jn Qa Qa
     have h1r:=hS38.own_one 0 Qa
     refine Xd (.skip (by kernel_rfl) (.skip (by kernel_rfl) (.skip (by kernel_rfl) (.skip (by kernel_rfl) (.cons (.inl ⟨rfl,(Qn Qa QH (hS38.cell 3 Qa Qa))⟩) .nil))))) ?_
     have hS39:=QW (X:={X with fl:=X.fl.eraseIdx (Ze n X.fl.length).toNat,b:=(ZK X.b s).1}) (hS38.pick [4,5,6,1,2,0,3,7] Qa)
     refine QV Qa Qa Qa Qa Qa Qa ?_
     refine Q0 Yc Qa (Wv (i:=true) (hS39.sp [0,1] Qa) (by have :=Uk (s:=s) hW.b (hW.fl _ (List.mem_of_getElem? hp));omega)) Qa ?_
     rintro _ w40 ⟨rfl,hS40⟩
     replace hS40:=hS40.jn Qa Qa
     refine Xd (Xq (by kernel_rfl)) ?_
     refine VC.nil (Yl (.inl Qa) Qa ?_)
     exact⟨_,rfl,rfl, by rw[SN hp]; exact hS40.pick [0,2] Qa⟩
    (exfalso; have q9:=h36; simp at q9)
   (exfalso; have q9:=h35; simp at q9)
  (exfalso; have q9:=h34; simp at q9)
 refine Vj (sp:=[9,10,11,15,16]) [0,1,2,3,4,5,6,7,8,15,9,10,11,12,13,14,16,17] (by kernel_rfl) ?_
 refine QI Qa Qa Qa (Xn Qa Qa Qa (QO Qa Qa Qa XA (QF Qa Qa Qa (Qn Qa Xp (hS1.cell 0 Qa Qa)) (QI Qa Qa Qa (QI Qa Qa Qa (Xn Qa Qa Qa (QO Qa Qa Qa XA (QF Qa Qa Qa (Qn Qa Xp (hS1.cell 0 Qa Qa)) (QV Qa Qa Qa Qa Qa Qa ?_)))))))))
 refine Xs hS1 WT Qa Qa ?_
 intro b41 w41 hS41
 refine Xd (.cons (.inl ⟨Qa,(Qn Qa Xp (hS41.cell 1 Qa Qa))⟩) (.cons (.inl ⟨Qa,(Qn Qa Xp (hS41.cell 1 Qa Qa))⟩) .nil)) (QV Qa Qa Qa Qa Qa Qa ?_)
 refine Q0 Yd Qa (Z1 (hS41.sp [5] Qa)) Qa ?_
 rintro _ w42 ⟨rfl,hS42⟩
 replace hS42:=hS42.jn Qa Qa
 refine Xd (.skip (by kernel_rfl) (.cons (.inl ⟨rfl,(Qn Qa Xp (hS42.cell 2 Qa Qa))⟩) .nil)) ?_
 refine QV Qa Qa Qa Qa Qa Qa ?_
 refine Q0 Jl Qa (Jg (hS42.sp [] Qa) n (X.fl.length:Int) (by have :=hW.ln;omega)) Qa ?_
 rintro _ w43 ⟨rfl,hS43⟩
 replace hS43:=hS43.jn Qa Qa
 refine Xd (.skip (by kernel_rfl) (.cons (.inl ⟨rfl,(Qn Qa Xp (hS43.cell 2 Qa Qa))⟩) .nil)) ?_
 refine QV Qa Qa Qa Qa Qa Qa ?_
 refine Q0 YW Qa (Jh (hS43.sp [0] Qa) (Ze n X.fl.length) hW.ln) Qa ?_
 rintro _ w44 ⟨rfl,hS44⟩
 replace hS44:=hS44.jn Qa Qa
 rw[(Zm hp).1,(Zm hp).2.2]
 rw[(Zm hp).2.1]at hS44
 dsimp only
 refine Xd (Xq (by kernel_rfl)) ?_
 refine QI Qa Qa Qa (Y6 Qa Qa Qa Qa (Y6 Qa Qa Qa Qa (QV Qa Qa Qa Qa Qa Qa ?_)))
 (refine Q8 hS44 Qa Qa XS Qa (by rfl) (i:=1) Qa (by decide) ?_)
 intro w45 hS46; dsimp only[List.set]at hS46
 refine Z9 (Xq (by kernel_rfl)) ?_
 refine WV Qa Qa Qa (VC.nil (Qd (Qk [0,4,5] Qa (Qf (Qb (Qe Qa Qa (QL Qa Qa Qa (Qe Qa Qa (Q4 23 Qa (fun h47=> ?_) (fun h47=> ?_))))))))))
 ·refine Qj Qa Qa (QD h47) (Qi Qa X9 Qa (Qj Qa Qa (QD h47) (Qr Qa QH (hS46.cell 1 Qa Qa) Qa (Qj Qa Qa (QD h47) (Jm Qa Qa Qa (Q1 Qa (QD h47) Qa Qa (Qe Qa Qa (Q4 28 Qa (fun h48=> ?_) (fun h48=> ?_)))))))))
  ·refine Qj Qa Qa (QD h48) (Qi Qa X9 Qa (Qj Qa Qa (QD h48) (Qr Qa QH (hS46.cell 1 Qa Qa) Qa (Qj Qa Qa (QD h48) (W9 Qa Qa Qa (Q1 Qa (QD h48) Qa Qa (Qh (Qd (Qk [0,4,32] Qa (Qv Qa (fun h49=> ?_) (fun h49=> ?_)))))))))))
   ·have hS50:=hS46.drew
    refine QN [0,1,2,3,4,5,6,7,8,9,10,11,12,13,14] [13,14] W5 (by kernel_rfl) ?_
    refine QI Qa Qa Qa (QO Qa Qa Qa X9 (QF Qa Qa Qa (Qn Qa QH (hS50.cell 1 Qa Qa)) (QI Qa Qa Qa (Xn Qa Qa Qa (QO Qa Qa Qa Wc (QF Qa Qa Qa (Qn Qa Jx (hS50.cell 2 Qa Qa)) (QO Qa Qa Qa X9 (QF Qa Qa Qa (Qn Qa QH (hS50.cell 1 Qa Qa)) (Q9 Qa Qa Qa (fun _=>(X0 1 Qa Qa (by rfl) (by omega) Ym)) ?_)))))))))
    refine QF Qa Qa Qa (XV RV 3 1 0 hS50 Qa (by rfl) J5 Qa Qa) ?_
    refine QO Qa Qa Qa Hs (QF Qa Qa Qa (Qn Qa Zx (hS50.cell 1 Qa Qa)) (QV Qa Qa Qa Qa Qa Qa ?_))
    refine Q0 H3 Qa (Yq (hS50.sp [5] Qa) (hG.starL 5 Qa) (hO.starL 5 Qa) hW.b s (hW.fl _ (List.mem_of_getElem? hp))) Qa ?_
    rintro _ w51 hS51
    replace hS51:=hS51.jn Qa Qa
    have h1r:=hS51.own_one 0 Qa
    refine Xd (.skip (by kernel_rfl) (.skip (by kernel_rfl) (.skip (by kernel_rfl) (.skip (by kernel_rfl) (.cons (.inl ⟨rfl,(Qn Qa QH (hS51.cell 3 Qa Qa))⟩) .nil))))) ?_
    have hS52:=QW (X:={X with fl:=X.fl.eraseIdx (Ze n X.fl.length).toNat,b:=(ZK X.b s).1}) (hS51.pick [4,5,6,1,2,0,3,7] Qa)
    refine QV Qa Qa Qa Qa Qa Qa ?_
    refine Q0 Yc Qa (Wv (i:=true) (hS52.sp [0,1] Qa) (by have :=Uk (s:=s) hW.b (hW.fl _ (List.mem_of_getElem? hp));omega)) Qa ?_
    rintro _ w53 ⟨rfl,hS53⟩
    replace hS53:=hS53.jn Qa Qa
    refine Xd (Xq (by kernel_rfl)) ?_
    refine VC.nil (Yl (.inl Qa) Qa ?_)
    exact⟨_,rfl,rfl, by rw[SN hp]; exact hS53.pick [0,2] Qa⟩
   (exfalso; have q9:=h49; simp at q9)
  (exfalso; have q9:=h48; simp at q9)
 (exfalso; have q9:=h47; simp at q9)
theorem BU {w:World} {x:Nat} {X:TwD} {F:Th} (hS:Sat w [Dv x X,F]) (hG:Ent F WireG) (hO:Ent F (Glob 0)) (hW:XW X) (n:Int):
    Calls prog 49 #[ptrV x 0,intV n] w (Ret fun v w'=>v= .tuple #[]∧Sat w' [Dv x (Jb X n),F]):= by
  cases hp:X.fl[(Ze n X.fl.length).toNat]? with
  | none=> exact AJ hS hG hO hW n hp
  | some q=>
    obtain⟨i,s⟩:=q
    cases i with
    | false=> exact AK hS hG hO hW n hp
    | true=> exact AI hS hG hO hW n hp
