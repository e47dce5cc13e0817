/- the law: arrive -/
import Derived.Test.YtiibgheijbbmaaaGreatDoorMvs
set_option linter.unusedVariables false
set_option maxRecDepth 100000
namespace Go.Proofs.YtiibgheijbbmaaaGreatDoor
open Go.RowKit M Proofs.Tryz
section
variable {X:TwD} {n:Int} {s:Bs}
theorem TF (h:X.fl[(Ze n X.fl.length).toNat]? =none):Jb X n=X:= by unfold Jb; rw[h]
theorem SO (h:X.fl[(Ze n X.fl.length).toNat]? =some (false,s)):Jb X n=Yh {X with fl:=X.fl.eraseIdx (Ze n X.fl.length).toNat,a:=(ZK X.a s).1} false (ZK X.a s).2:= by unfold Jb; rw[h];rfl
theorem SN (h:X.fl[(Ze n X.fl.length).toNat]? =some (true,s)):Jb X n=Yh {X with fl:=X.fl.eraseIdx (Ze n X.fl.length).toNat,b:=(ZK X.b s).1} true (ZK X.b s).2:= by unfold Jb; rw[h];rfl
theorem Hy (h:X.fl[(Ze n X.fl.length).toNat]? =none):Py X.fl (Ze n X.fl.length)=4∧Gp X.fl (Ze n X.fl.length)=X.fl:= by
  have h2: ¬(0≤Ze n X.fl.length∧Ze n X.fl.length<(X.fl.length:Int)):= fun q=> by
    have :=List.getElem?_eq_none_iff.1 h
    omega
  exact⟨(De h2).2.2,(De h2).1⟩
theorem Zm {p:Bool×Bs} (h:X.fl[(Ze n X.fl.length).toNat]? =some p):Py X.fl (Ze n X.fl.length)=0∧Gp X.fl (Ze n X.fl.length)=X.fl.eraseIdx (Ze n X.fl.length).toNat∧Px X.fl (Ze n X.fl.length)=(if p.1=true then 1 else 0,p.2):= by
  have hl:=(ZD h).1
  have h0:=(MU (n:=n) (m:=X.fl.length) (by omega)).1
  obtain⟨k,hk⟩: ∃k:Nat,Ze n X.fl.length=(k:Int):=⟨_,(Int.toNat_of_nonneg h0).symm⟩
  rw[hk]at h⊢
  rw[Int.toNat_natCast]at h⊢
  exact⟨(Kg h).2.2,(Kg h).1,(Kg h).2.1⟩
end
theorem Uk {E:EnD} {s:Bs} (hW:EW E) (hs:s.length≤1000):(ZK E s).2.length≤1:= by
  have t0: ∀x:Bs,[x].length≤1:= fun _=>Nat.le_refl _
  have t1:([]:List Bs).length≤1:=Nat.zero_le _
  unfold ZK
  split
  · exact t1
  unfold Zv
  split
  · exact t1
  split
  · unfold Zj
    split
    · exact t1
    split
    · exact t1
    split
    · exact t1
    split
    · exact t1
    split
    · exact t1
    unfold YQ
    split
    · exact t1
    · exact t0 _
  split
  · unfold Xx
    split
    · exact t0 _
    split
    · exact t1
    split
    · split
      · exact t1
      · exact t0 _
    split
    · exact t0 _
    · exact t0 _
  split
  · exact t1
  split
  · exact t1
  split
  · unfold ZW
    split
    · exact t1
    split
    · exact t0 _
    split
    · exact t1
    · exact t0 _
  split
  · exact t1
  split
  · unfold WM
    split
    · exact t1
    · exact t0 _
  · exact t1
theorem AJ {w:World} {x:Nat} {X:TwD} {F:Th} (hS:Sat w [Dv x X,F]) (hG:Ent F WireG) (hO:Ent F (Glob 0)) (hW:XW X) (n:Int) (hp:X.fl[(Ze n X.fl.length).toNat]? =none):
    Calls prog 49 #[ptrV x 0,intV n] w (Ret fun v w'=>v= .tuple #[]∧Sat w' [Dv x (Jb X n),F]):= by
 obtain⟨eb,ecap,a,b,p,hS⟩:=HN hS
 refine Qy func49 Qa ntmps49 Qa ?_
 refine Qf ?_
 have j1:=hS.drew
 refine B5 W5 (YG 9 15 Qa ?_ ?_)
 ·refine YG 10 15 Qa ?_ ?_
  ·refine YG 11 15 Qa ?_ ?_
   ·refine Vj (sp:=[9,10,11,15,16]) [0,1,2,3,4,5,6,7,8,9,10,11,12,13,14,15,16,17] (by kernel_rfl) ?_
    refine QI Qa Qa Qa (Xn Qa Qa Qa (QO Qa Qa Qa XA (QF Qa Qa Qa (Qn Qa Xp (by first | assumption | exact j1.cell 0 Qa Qa)) ?_)))
    refine QI Qa Qa Qa (QI Qa Qa Qa (Xn Qa Qa Qa (QO Qa Qa Qa XA (QF Qa Qa Qa (Qn Qa Xp (by first | assumption | exact j1.cell 0 Qa Qa)) ?_))))
    refine QV Qa Qa Qa Qa Qa Qa ?_
    refine Q0 Yd Qa (Z1 (j1.sp [4] Qa)) Qa ?_
    rintro _ w2 ⟨rfl,j2⟩
    replace j2:=j2.jn Qa Qa
    refine Xd (.skip (by kernel_rfl) (.cons (.inl ⟨rfl,(Qn Qa Xp (by first | assumption | exact j2.cell 1 Qa Qa))⟩) .nil)) ?_
    refine QV Qa Qa Qa Qa Qa Qa ?_
    refine Q0 Jl Qa (Jg (j2.sp [] Qa) n (X.fl.length:Int) (by have :=hW.ln;omega)) Qa ?_
    rintro _ w3 ⟨rfl,j3⟩
    replace j3:=j3.jn Qa Qa
    refine Xd (.skip (by kernel_rfl) (.cons (.inl ⟨rfl,(Qn Qa Xp (by first | assumption | exact j3.cell 1 Qa Qa))⟩) .nil)) ?_
    refine QV Qa Qa Qa Qa Qa Qa ?_
    refine Q0 YW Qa (Jh (j3.sp [0] Qa) (Ze n X.fl.length) hW.ln) Qa ?_
    rintro _ w4 ⟨rfl,j4⟩
    replace j4:=j4.jn Qa Qa
    rw[(Hy hp).1]
    rw[(Hy hp).2]at j4
    refine Xd (Xq (by kernel_rfl)) ?_
    refine QI Qa Qa Qa (Y6 Qa Qa Qa Qa (Y6 Qa Qa Qa Qa (QV Qa Qa Qa Qa Qa Qa ?_)))
    refine Xs j4 WT Qa Qa ?_
    intro b5 w5 j5
    refine Xd (Xq (by kernel_rfl)) ?_
    refine QV Qa Qa Qa Qa Qa Qa ?_
    first | (refine Q8 j5 Qa Qa XS Qa (by first | rfl | (simp [QQ,Value.oneCell'];done) | assumption | exact hone) (i:=0) Qa (by first | decide | exact QC Qa | (simp;done) | omega) ?_) | (refine Q8 j5 Qa Qa XS Qa (by first | rfl | (simp [QQ,Value.oneCell'];done) | assumption | exact hone) (i:=2) Qa (by first | decide | exact QC Qa | (simp;done) | omega) ?_)
    intro w6 j7; dsimp only[List.set]at j7
    refine Z9 (Xq (by kernel_rfl)) ?_
    refine WV Qa Qa Qa (VC.nil (Qd (Qk [0,4,5] Qa (Qf (Qb (Qe Qa Qa (QL Qa Qa Qa (Qe Qa Qa (Q4 23 Qa (fun h8=> ?_) (fun h8=> ?_))))))))))
    ·(exfalso; have q9:=h8; simp at q9)
    refine Qg Qa Qa (Qx h8) Qa (Qg Qa Qa (Qx h8) Qa (Qg Qa Qa (Qx h8) Qa (Q3 Qa (Qx h8) Qa Qa (Qe Qa Qa (Qg Qa Qa Qa Qa (Qg Qa Qa Qa Qa (Qg Qa Qa Qa Qa (Q3 Qa Qa Qa Qa (Qh (Qd (Qk [0,4,32] Qa (QJ Qa (Qt (Yl (.inl Qa) Qa ?_))))))))))))))
    exact⟨_,rfl,rfl, by rw[TF hp]; exact QW (X:=X) (j7.pick [2,3,4,5,1,6] Qa)⟩
   refine Vj (sp:=[9,10,11,15,16]) [0,1,2,3,4,5,6,7,8,9,10,15,11,12,13,14,16,17] (by kernel_rfl) ?_
   refine QI Qa Qa Qa (Xn Qa Qa Qa (QO Qa Qa Qa XA (QF Qa Qa Qa (Qn Qa Xp (by first | assumption | exact j1.cell 0 Qa Qa)) ?_)))
   refine QI Qa Qa Qa (QI Qa Qa Qa (Xn Qa Qa Qa (QO Qa Qa Qa XA (QF Qa Qa Qa (Qn Qa Xp (by first | assumption | exact j1.cell 0 Qa Qa)) ?_))))
   refine QV Qa Qa Qa Qa Qa Qa ?_
   refine Q0 Yd Qa (Z1 (j1.sp [4] Qa)) Qa ?_
   rintro _ w9 ⟨rfl,j9⟩
   replace j9:=j9.jn Qa Qa
   refine Xd (.skip (by kernel_rfl) (.cons (.inl ⟨rfl,(Qn Qa Xp (by first | assumption | exact j9.cell 1 Qa Qa))⟩) .nil)) ?_
   refine QV Qa Qa Qa Qa Qa Qa ?_
   refine Q0 Jl Qa (Jg (j9.sp [] Qa) n (X.fl.length:Int) (by have :=hW.ln;omega)) Qa ?_
   rintro _ w10 ⟨rfl,j10⟩
   replace j10:=j10.jn Qa Qa
   refine Xd (.skip (by kernel_rfl) (.cons (.inl ⟨rfl,(Qn Qa Xp (by first | assumption | exact j10.cell 1 Qa Qa))⟩) .nil)) ?_
   refine QV Qa Qa Qa Qa Qa Qa ?_
   refine Xs j10 WT Qa Qa ?_
   intro b11 w11 j11
   refine Xd (.skip (by kernel_rfl) (.cons (.inl ⟨rfl,(Qn Qa Xp (by first | assumption | exact j11.cell 0 Qa Qa | exact j11.cell 2 Qa Qa))⟩) .nil)) ?_
   refine QV Qa Qa Qa Qa Qa Qa ?_
   refine Q0 YW Qa (Jh (j11.sp [1] Qa) (Ze n X.fl.length) hW.ln) Qa ?_
   rintro _ w12 ⟨rfl,j12⟩
   replace j12:=j12.jn Qa Qa
   rw[(Hy hp).1]
   rw[(Hy hp).2]at j12
   refine Xd (Xq (by kernel_rfl)) ?_
   refine QI Qa Qa Qa (Y6 Qa Qa Qa Qa (Y6 Qa Qa Qa Qa (QV Qa Qa Qa Qa Qa Qa ?_)))
   first | (refine Q8 j12 Qa Qa XS Qa (by first | rfl | (simp [QQ,Value.oneCell'];done) | assumption | exact hone) (i:=1) Qa (by first | decide | exact QC Qa | (simp;done) | omega) ?_) | (refine Q8 j12 Qa Qa XS Qa (by first | rfl | (simp [QQ,Value.oneCell'];done) | assumption | exact hone) (i:=2) Qa (by first | decide | exact QC Qa | (simp;done) | omega) ?_)
   intro w13 j14; dsimp only[List.set]at j14
   refine Z9 (Xq (by kernel_rfl)) ?_
   refine WV Qa Qa Qa (VC.nil (Qd (Qk [0,4,5] Qa (Qf (Qb (Qe Qa Qa (QL Qa Qa Qa (Qe Qa Qa (Q4 23 Qa (fun h15=> ?_) (fun h15=> ?_))))))))))
   ·(exfalso; have q9:=h15; simp at q9)
   refine Qg Qa Qa (Qx h15) Qa (Qg Qa Qa (Qx h15) Qa (Qg Qa Qa (Qx h15) Qa (Q3 Qa (Qx h15) Qa Qa (Qe Qa Qa (Qg Qa Qa Qa Qa (Qg Qa Qa Qa Qa (Qg Qa Qa Qa Qa (Q3 Qa Qa Qa Qa (Qh (Qd (Qk [0,4,32] Qa (QJ Qa (Qt (Yl (.inl Qa) Qa ?_))))))))))))))
   exact⟨_,rfl,rfl, by rw[TF hp]; exact QW (X:=X) (j14.pick [2,3,4,5,0,6] Qa)⟩
  refine Vj (sp:=[9,10,11,15,16]) [0,1,2,3,4,5,6,7,8,9,15,10,11,12,13,14,16,17] (by kernel_rfl) ?_
  refine QI Qa Qa Qa (Xn Qa Qa Qa (QO Qa Qa Qa XA (QF Qa Qa Qa (Qn Qa Xp (by first | assumption | exact j1.cell 0 Qa Qa)) ?_)))
  refine QI Qa Qa Qa (QI Qa Qa Qa (Xn Qa Qa Qa (QO Qa Qa Qa XA (QF Qa Qa Qa (Qn Qa Xp (by first | assumption | exact j1.cell 0 Qa Qa)) ?_))))
  refine QV Qa Qa Qa Qa Qa Qa ?_
  refine Q0 Yd Qa (Z1 (j1.sp [4] Qa)) Qa ?_
  rintro _ w16 ⟨rfl,j16⟩
  replace j16:=j16.jn Qa Qa
  refine Xd (.skip (by kernel_rfl) (.cons (.inl ⟨rfl,(Qn Qa Xp (by first | assumption | exact j16.cell 1 Qa Qa))⟩) .nil)) ?_
  refine QV Qa Qa Qa Qa Qa Qa ?_
  refine Xs j16 WT Qa Qa ?_
  intro b17 w17 j17
  refine Xd (.skip (by kernel_rfl) (.cons (.inl ⟨rfl,(Qn Qa Xp (by first | assumption | exact j17.cell 0 Qa Qa | exact j17.cell 2 Qa Qa))⟩) .nil)) ?_
  refine QV Qa Qa Qa Qa Qa Qa ?_
  refine Q0 Jl Qa (Jg (j17.sp [] Qa) n (X.fl.length:Int) (by have :=hW.ln;omega)) Qa ?_
  rintro _ w18 ⟨rfl,j18⟩
  replace j18:=j18.jn Qa Qa
  refine Xd (.skip (by kernel_rfl) (.cons (.inl ⟨rfl,(Qn Qa Xp (by first | assumption | exact j18.cell 0 Qa Qa | exact j18.cell 2 Qa Qa))⟩) .nil)) ?_
  refine QV Qa Qa Qa Qa Qa Qa ?_
  refine Q0 YW Qa (Jh (j18.sp [1] Qa) (Ze n X.fl.length) hW.ln) Qa ?_
  rintro _ w19 ⟨rfl,j19⟩
  replace j19:=j19.jn Qa Qa
  rw[(Hy hp).1]
  rw[(Hy hp).2]at j19
  refine Xd (Xq (by kernel_rfl)) ?_
  refine QI Qa Qa Qa (Y6 Qa Qa Qa Qa (Y6 Qa Qa Qa Qa (QV Qa Qa Qa Qa Qa Qa ?_)))
  first | (refine Q8 j19 Qa Qa XS Qa (by first | rfl | (simp [QQ,Value.oneCell'];done) | assumption | exact hone) (i:=1) Qa (by first | decide | exact QC Qa | (simp;done) | omega) ?_) | (refine Q8 j19 Qa Qa XS Qa (by first | rfl | (simp [QQ,Value.oneCell'];done) | assumption | exact hone) (i:=2) Qa (by first | decide | exact QC Qa | (simp;done) | omega) ?_)
  intro w20 j21; dsimp only[List.set]at j21
  refine Z9 (Xq (by kernel_rfl)) ?_
  refine WV Qa Qa Qa (VC.nil (Qd (Qk [0,4,5] Qa (Qf (Qb (Qe Qa Qa (QL Qa Qa Qa (Qe Qa Qa (Q4 23 Qa (fun h22=> ?_) (fun h22=> ?_))))))))))
  ·(exfalso; have q9:=h22; simp at q9)
  refine Qg Qa Qa (Qx h22) Qa (Qg Qa Qa (Qx h22) Qa (Qg Qa Qa (Qx h22) Qa (Q3 Qa (Qx h22) Qa Qa (Qe Qa Qa (Qg Qa Qa Qa Qa (Qg Qa Qa Qa Qa (Qg Qa Qa Qa Qa (Q3 Qa Qa Qa Qa (Qh (Qd (Qk [0,4,32] Qa (QJ Qa (Qt (Yl (.inl Qa) Qa ?_))))))))))))))
  exact⟨_,rfl,rfl, by rw[TF hp]; exact QW (X:=X) (j21.pick [2,3,4,5,0,6] Qa)⟩
 refine Vj (sp:=[9,10,11,15,16]) [0,1,2,3,4,5,6,7,8,15,9,10,11,12,13,14,16,17] (by kernel_rfl) ?_
 refine QI Qa Qa Qa (Xn Qa Qa Qa (QO Qa Qa Qa XA (QF Qa Qa Qa (Qn Qa Xp (by first | assumption | exact j1.cell 0 Qa Qa)) ?_)))
 refine QI Qa Qa Qa (QI Qa Qa Qa (Xn Qa Qa Qa (QO Qa Qa Qa XA (QF Qa Qa Qa (Qn Qa Xp (by first | assumption | exact j1.cell 0 Qa Qa)) ?_))))
 refine QV Qa Qa Qa Qa Qa Qa ?_
 refine Xs j1 WT Qa Qa ?_
 intro b23 w23 j23
 refine Xd (.cons (.inl ⟨rfl,(Qn Qa Xp (by first | assumption | exact j23.cell 0 Qa Qa | exact j23.cell 1 Qa Qa))⟩) (.cons (.inl ⟨rfl,(Qn Qa Xp (by first | assumption | exact j23.cell 0 Qa Qa | exact j23.cell 1 Qa Qa))⟩) .nil)) ?_
 refine QV Qa Qa Qa Qa Qa Qa ?_
 refine Q0 Yd Qa (Z1 (j23.sp [5] Qa)) Qa ?_
 rintro _ w24 ⟨rfl,j24⟩
 replace j24:=j24.jn Qa Qa
 refine Xd (.skip (by kernel_rfl) (.cons (.inl ⟨rfl,(Qn Qa Xp (by first | assumption | exact j24.cell 1 Qa Qa | exact j24.cell 2 Qa Qa))⟩) .nil)) ?_
 refine QV Qa Qa Qa Qa Qa Qa ?_
 refine Q0 Jl Qa (Jg (j24.sp [] Qa) n (X.fl.length:Int) (by have :=hW.ln;omega)) Qa ?_
 rintro _ w25 ⟨rfl,j25⟩
 replace j25:=j25.jn Qa Qa
 refine Xd (.skip (by kernel_rfl) (.cons (.inl ⟨rfl,(Qn Qa Xp (by first | assumption | exact j25.cell 1 Qa Qa | exact j25.cell 2 Qa Qa))⟩) .nil)) ?_
 refine QV Qa Qa Qa Qa Qa Qa ?_
 refine Q0 YW Qa (Jh (j25.sp [0] Qa) (Ze n X.fl.length) hW.ln) Qa ?_
 rintro _ w26 ⟨rfl,j26⟩
 replace j26:=j26.jn Qa Qa
 rw[(Hy hp).1]
 rw[(Hy hp).2]at j26
 refine Xd (Xq (by kernel_rfl)) ?_
 refine QI Qa Qa Qa (Y6 Qa Qa Qa Qa (Y6 Qa Qa Qa Qa (QV Qa Qa Qa Qa Qa Qa ?_)))
 first | (refine Q8 j26 Qa Qa XS Qa (by first | rfl | (simp [QQ,Value.oneCell'];done) | assumption | exact hone) (i:=1) Qa (by first | decide | exact QC Qa | (simp;done) | omega) ?_) | (refine Q8 j26 Qa Qa XS Qa (by first | rfl | (simp [QQ,Value.oneCell'];done) | assumption | exact hone) (i:=2) Qa (by first | decide | exact QC Qa | (simp;done) | omega) ?_)
 intro w27 j28; dsimp only[List.set]at j28
 refine Z9 (Xq (by kernel_rfl)) ?_
 refine WV Qa Qa Qa (VC.nil (Qd (Qk [0,4,5] Qa (Qf (Qb (Qe Qa Qa (QL Qa Qa Qa (Qe Qa Qa (Q4 23 Qa (fun h29=> ?_) (fun h29=> ?_))))))))))
 ·(exfalso; have q9:=h29; simp at q9)
 refine Qg Qa Qa (Qx h29) Qa (Qg Qa Qa (Qx h29) Qa (Qg Qa Qa (Qx h29) Qa (Q3 Qa (Qx h29) Qa Qa (Qe Qa Qa (Qg Qa Qa Qa Qa (Qg Qa Qa Qa Qa (Qg Qa Qa Qa Qa (Q3 Qa Qa Qa Qa (Qh (Qd (Qk [0,4,32] Qa (QJ Qa (Qt (Yl (.inl Qa) Qa ?_))))))))))))))
 exact⟨_,rfl,rfl, by rw[TF hp]; exact QW (X:=X) (j28.pick [2,3,4,5,0,6] Qa)⟩
theorem AK {w:World} {x:Nat} {X:TwD} {F:Th} (hS:Sat w [Dv x X,F]) (hG:Ent F WireG) (hO:Ent F (Glob 0)) (hW:XW X) (n:Int) {s:Bs} (hp:X.fl[(Ze n X.fl.length).toNat]? =some (false,s)):
    Calls prog 49 #[ptrV x 0,intV n] w (Ret fun v w'=>v= .tuple #[]∧Sat w' [Dv x (Jb X n),F]):= by
 obtain⟨eb,ecap,a,b,p,hS⟩:=HN hS
 refine Qy func49 Qa ntmps49 Qa ?_
 refine Qf ?_
 have j1:=hS.drew
 refine B5 W5 (YG 9 15 Qa ?_ ?_)
 ·refine YG 10 15 Qa ?_ ?_
  ·refine YG 11 15 Qa ?_ ?_
   ·refine Vj (sp:=[9,10,11,15,16]) [0,1,2,3,4,5,6,7,8,9,10,11,12,13,14,15,16,17] (by kernel_rfl) ?_
    refine QI Qa Qa Qa (Xn Qa Qa Qa (QO Qa Qa Qa XA (QF Qa Qa Qa (Qn Qa Xp (by first | assumption | exact j1.cell 0 Qa Qa)) ?_)))
    refine QI Qa Qa Qa (QI Qa Qa Qa (Xn Qa Qa Qa (QO Qa Qa Qa XA (QF Qa Qa Qa (Qn Qa Xp (by first | assumption | exact j1.cell 0 Qa Qa)) ?_))))
    refine QV Qa Qa Qa Qa Qa Qa ?_
    refine Q0 Yd Qa (Z1 (j1.sp [4] Qa)) Qa ?_
    rintro _ w2 ⟨rfl,j2⟩
    replace j2:=j2.jn Qa Qa
    refine Xd (.skip (by kernel_rfl) (.cons (.inl ⟨rfl,(Qn Qa Xp (by first | assumption | exact j2.cell 1 Qa Qa))⟩) .nil)) ?_
    refine QV Qa Qa Qa Qa Qa Qa ?_
    refine Q0 Jl Qa (Jg (j2.sp [] Qa) n (X.fl.length:Int) (by have :=hW.ln;omega)) Qa ?_
    rintro _ w3 ⟨rfl,j3⟩
    replace j3:=j3.jn Qa Qa
    refine Xd (.skip (by kernel_rfl) (.cons (.inl ⟨rfl,(Qn Qa Xp (by first | assumption | exact j3.cell 1 Qa Qa))⟩) .nil)) ?_
    refine QV Qa Qa Qa Qa Qa Qa ?_
    refine Q0 YW Qa (Jh (j3.sp [0] Qa) (Ze n X.fl.length) hW.ln) Qa ?_
    rintro _ w4 ⟨rfl,j4⟩
    replace j4:=j4.jn Qa Qa
    rw[(Zm hp).1,(Zm hp).2.2]
    rw[(Zm hp).2.1]at j4
    dsimp only
    refine Xd (Xq (by kernel_rfl)) ?_
    refine QI Qa Qa Qa (Y6 Qa Qa Qa Qa (Y6 Qa Qa Qa Qa (QV Qa Qa Qa Qa Qa Qa ?_)))
    refine Xs j4 WT Qa Qa ?_
    intro b5 w5 j5
    refine Xd (Xq (by kernel_rfl)) ?_
    refine QV Qa Qa Qa Qa Qa Qa ?_
    first | (refine Q8 j5 Qa Qa XS Qa (by first | rfl | (simp [QQ,Value.oneCell'];done) | assumption | exact hone) (i:=0) Qa (by first | decide | exact QC Qa | (simp;done) | omega) ?_) | (refine Q8 j5 Qa Qa XS Qa (by first | rfl | (simp [QQ,Value.oneCell'];done) | assumption | exact hone) (i:=2) Qa (by first | decide | exact QC Qa | (simp;done) | omega) ?_)
    intro w6 j7; dsimp only[List.set]at j7
    refine Z9 (Xq (by kernel_rfl)) ?_
    refine WV Qa Qa Qa (VC.nil (Qd (Qk [0,4,5] Qa (Qf (Qb (Qe Qa Qa (QL Qa Qa Qa (Qe Qa Qa (Q4 23 Qa (fun h8=> ?_) (fun h8=> ?_))))))))))
    ·refine Qj Qa Qa (QD h8) (Qi Qa X9 Qa (Qj Qa Qa (QD h8) (Qr Qa QH (by first | assumption | exact j7.cell 0 Qa Qa | exact j7.cell 2 Qa Qa) Qa ?_)))
     refine Qj Qa Qa (QD h8) (Jm Qa Qa Qa (Q1 Qa (QD h8) Qa Qa (Qe Qa Qa (Q4 28 Qa (fun h9=> ?_) (fun h9=> ?_)))))
     ·refine Qj Qa Qa (QD h9) (Qi Qa X9 Qa (Qj Qa Qa (QD h9) (Qr Qa QH (by first | assumption | exact j7.cell 0 Qa Qa | exact j7.cell 2 Qa Qa) Qa ?_)))
      refine Qj Qa Qa (QD h9) (W9 Qa Qa Qa (Q1 Qa (QD h9) Qa Qa (Qh (Qd (Qk [0,4,32] Qa (Qv Qa (fun h10=> ?_) (fun h10=> ?_)))))))
      ·have j11:=j7.drew
       refine QN [0,1,2,3,4,5,6,7,8,9,10,11,12,13,14] [13,14] W5 (by kernel_rfl) ?_
       refine QI Qa Qa Qa (QO Qa Qa Qa X9 (QF Qa Qa Qa (Qn Qa QH (by first | assumption | exact j11.cell 0 Qa Qa | exact j11.cell 2 Qa Qa)) ?_))
       refine QI Qa Qa Qa (Xn Qa Qa Qa (QO Qa Qa Qa Wc (QF Qa Qa Qa (Qn Qa Jx (by first | assumption | exact j11.cell 0 Qa Qa | exact j11.cell 2 Qa Qa)) ?_)))
       refine QO Qa Qa Qa X9 (QF Qa Qa Qa (Qn Qa QH (by first | assumption | exact j11.cell 0 Qa Qa | exact j11.cell 2 Qa Qa)) ?_)
       refine Q9 Qa Qa Qa (fun _=>(X0 0 Qa Qa (by first | rfl | omega) (by first | omega | exact(ZD (by rfl)).1) Ym)) ?_
       refine QF Qa Qa Qa (XV RV 3 0 0 j11 Qa (by rfl) J5 Qa Qa) ?_
       refine QO Qa Qa Qa Hs (QF Qa Qa Qa (Qn Qa Zx (by first | assumption | exact j11.cell 0 Qa Qa | exact j11.cell 2 Qa Qa)) ?_)
       refine QV Qa Qa Qa Qa Qa Qa ?_
       refine Q0 H3 Qa (Yq (j11.sp [4] Qa) (hG.starL 5 Qa) (hO.starL 5 Qa) hW.a s (hW.fl _ (List.mem_of_getElem? hp))) Qa ?_
       rintro _ w12 j12
       replace j12:=j12.jn Qa Qa
       have h1r:=j12.own_one 0 Qa
       refine Xd (.skip (by kernel_rfl) (.skip (by kernel_rfl) (.skip (by kernel_rfl) (.skip (by kernel_rfl) (.cons (.inl ⟨rfl,(Qn Qa QH (by first | assumption | exact j12.cell 2 Qa Qa | exact j12.cell 4 Qa Qa))⟩) .nil))))) ?_
       have j13:=QW (X:={X with fl:=X.fl.eraseIdx (Ze n X.fl.length).toNat,a:=(ZK X.a s).1}) (j12.pick [4,5,1,6,3,0,2,7] Qa)
       refine QV Qa Qa Qa Qa Qa Qa ?_
       refine Q0 Yc Qa (Wv (i:=false) (j13.sp [0,1] Qa) (by have :=Uk (s:=s) hW.a (hW.fl _ (List.mem_of_getElem? hp));omega)) Qa ?_
       rintro _ w14 ⟨rfl,j14⟩
       replace j14:=j14.jn Qa Qa
       refine Xd (Xq (by kernel_rfl)) ?_
       refine VC.nil (Yl (.inl Qa) Qa ?_)
       exact⟨_,rfl,rfl, by rw[SO hp]; exact j14.pick [0,2] Qa⟩
      (exfalso; have q9:=h10; simp at q9)
     (exfalso; have q9:=h9; simp at q9)
    (exfalso; have q9:=h8; simp at q9)
   refine Vj (sp:=[9,10,11,15,16]) [0,1,2,3,4,5,6,7,8,9,10,15,11,12,13,14,16,17] (by kernel_rfl) ?_
   refine QI Qa Qa Qa (Xn Qa Qa Qa (QO Qa Qa Qa XA (QF Qa Qa Qa (Qn Qa Xp (by first | assumption | exact j1.cell 0 Qa Qa)) ?_)))
   refine QI Qa Qa Qa (QI Qa Qa Qa (Xn Qa Qa Qa (QO Qa Qa Qa XA (QF Qa Qa Qa (Qn Qa Xp (by first | assumption | exact j1.cell 0 Qa Qa)) ?_))))
   refine QV Qa Qa Qa Qa Qa Qa ?_
   refine Q0 Yd Qa (Z1 (j1.sp [4] Qa)) Qa ?_
   rintro _ w15 ⟨rfl,j15⟩
   replace j15:=j15.jn Qa Qa
   refine Xd (.skip (by kernel_rfl) (.cons (.inl ⟨rfl,(Qn Qa Xp (by first | assumption | exact j15.cell 1 Qa Qa))⟩) .nil)) ?_
   refine QV Qa Qa Qa Qa Qa Qa ?_
   refine Q0 Jl Qa (Jg (j15.sp [] Qa) n (X.fl.length:Int) (by have :=hW.ln;omega)) Qa ?_
   rintro _ w16 ⟨rfl,j16⟩
   replace j16:=j16.jn Qa Qa
   refine Xd (.skip (by kernel_rfl) (.cons (.inl ⟨rfl,(Qn Qa Xp (by first | assumption | exact j16.cell 1 Qa Qa))⟩) .nil)) ?_
   refine QV Qa Qa Qa Qa Qa Qa ?_
   refine Xs j16 WT Qa Qa ?_
   intro b17 w17 j17
   refine Xd (.skip (by kernel_rfl) (.cons (.inl ⟨rfl,(Qn Qa Xp (by first | assumption | exact j17.cell 0 Qa Qa | exact j17.cell 2 Qa Qa))⟩) .nil)) ?_
   refine QV Qa Qa Qa Qa Qa Qa ?_
   refine Q0 YW Qa (Jh (j17.sp [1] Qa) (Ze n X.fl.length) hW.ln) Qa ?_
   rintro _ w18 ⟨rfl,j18⟩
   replace j18:=j18.jn Qa Qa
   rw[(Zm hp).1,(Zm hp).2.2]
   rw[(Zm hp).2.1]at j18
   dsimp only
   refine Xd (Xq (by kernel_rfl)) ?_
   refine QI Qa Qa Qa (Y6 Qa Qa Qa Qa (Y6 Qa Qa Qa Qa (QV Qa Qa Qa Qa Qa Qa ?_)))
   first | (refine Q8 j18 Qa Qa XS Qa (by first | rfl | (simp [QQ,Value.oneCell'];done) | assumption | exact hone) (i:=1) Qa (by first | decide | exact QC Qa | (simp;done) | omega) ?_) | (refine Q8 j18 Qa Qa XS Qa (by first | rfl | (simp [QQ,Value.oneCell'];done) | assumption | exact hone) (i:=2) Qa (by first | decide | exact QC Qa | (simp;done) | omega) ?_)
   intro w19 j20; dsimp only[List.set]at j20
   refine Z9 (Xq (by kernel_rfl)) ?_
   refine WV Qa Qa Qa (VC.nil (Qd (Qk [0,4,5] Qa (Qf (Qb (Qe Qa Qa (QL Qa Qa Qa (Qe Qa Qa (Q4 23 Qa (fun h21=> ?_) (fun h21=> ?_))))))))))
   ·refine Qj Qa Qa (QD h21) (Qi Qa X9 Qa (Qj Qa Qa (QD h21) (Qr Qa QH (by first | assumption | exact j20.cell 1 Qa Qa | exact j20.cell 2 Qa Qa) Qa ?_)))
    refine Qj Qa Qa (QD h21) (Jm Qa Qa Qa (Q1 Qa (QD h21) Qa Qa (Qe Qa Qa (Q4 28 Qa (fun h22=> ?_) (fun h22=> ?_)))))
    ·refine Qj Qa Qa (QD h22) (Qi Qa X9 Qa (Qj Qa Qa (QD h22) (Qr Qa QH (by first | assumption | exact j20.cell 1 Qa Qa | exact j20.cell 2 Qa Qa) Qa ?_)))
     refine Qj Qa Qa (QD h22) (W9 Qa Qa Qa (Q1 Qa (QD h22) Qa Qa (Qh (Qd (Qk [0,4,32] Qa (Qv Qa (fun h23=> ?_) (fun h23=> ?_)))))))
     ·have j24:=j20.drew
      refine QN [0,1,2,3,4,5,6,7,8,9,10,11,12,13,14] [13,14] W5 (by kernel_rfl) ?_
      refine QI Qa Qa Qa (QO Qa Qa Qa X9 (QF Qa Qa Qa (Qn Qa QH (by first | assumption | exact j24.cell 1 Qa Qa | exact j24.cell 2 Qa Qa)) ?_))
      refine QI Qa Qa Qa (Xn Qa Qa Qa (QO Qa Qa Qa Wc (QF Qa Qa Qa (Qn Qa Jx (by first | assumption | exact j24.cell 1 Qa Qa | exact j24.cell 2 Qa Qa)) ?_)))
      refine QO Qa Qa Qa X9 (QF Qa Qa Qa (Qn Qa QH (by first | assumption | exact j24.cell 1 Qa Qa | exact j24.cell 2 Qa Qa)) ?_)
      refine Q9 Qa Qa Qa (fun _=>(X0 0 Qa Qa (by first | rfl | omega) (by first | omega | exact(ZD (by rfl)).1) Ym)) ?_
      refine QF Qa Qa Qa (XV RV 3 0 0 j24 Qa (by rfl) J5 Qa Qa) ?_
      refine QO Qa Qa Qa Hs (QF Qa Qa Qa (Qn Qa Zx (by first | assumption | exact j24.cell 1 Qa Qa | exact j24.cell 2 Qa Qa)) ?_)
      refine QV Qa Qa Qa Qa Qa Qa ?_
      refine Q0 H3 Qa (Yq (j24.sp [4] Qa) (hG.starL 5 Qa) (hO.starL 5 Qa) hW.a s (hW.fl _ (List.mem_of_getElem? hp))) Qa ?_
      rintro _ w25 j25
      replace j25:=j25.jn Qa Qa
      have h1r:=j25.own_one 0 Qa
      refine Xd (.skip (by kernel_rfl) (.skip (by kernel_rfl) (.skip (by kernel_rfl) (.skip (by kernel_rfl) (.cons (.inl ⟨rfl,(Qn Qa QH (by first | assumption | exact j25.cell 3 Qa Qa | exact j25.cell 4 Qa Qa))⟩) .nil))))) ?_
      have j26:=QW (X:={X with fl:=X.fl.eraseIdx (Ze n X.fl.length).toNat,a:=(ZK X.a s).1}) (j25.pick [4,5,1,6,2,0,3,7] Qa)
      refine QV Qa Qa Qa Qa Qa Qa ?_
      refine Q0 Yc Qa (Wv (i:=false) (j26.sp [0,1] Qa) (by have :=Uk (s:=s) hW.a (hW.fl _ (List.mem_of_getElem? hp));omega)) Qa ?_
      rintro _ w27 ⟨rfl,j27⟩
      replace j27:=j27.jn Qa Qa
      refine Xd (Xq (by kernel_rfl)) ?_
      refine VC.nil (Yl (.inl Qa) Qa ?_)
      exact⟨_,rfl,rfl, by rw[SO hp]; exact j27.pick [0,2] Qa⟩
     (exfalso; have q9:=h23; simp at q9)
    (exfalso; have q9:=h22; simp at q9)
   (exfalso; have q9:=h21; simp at q9)
  refine Vj (sp:=[9,10,11,15,16]) [0,1,2,3,4,5,6,7,8,9,15,10,11,12,13,14,16,17] (by kernel_rfl) ?_
  refine QI Qa Qa Qa (Xn Qa Qa Qa (QO Qa Qa Qa XA (QF Qa Qa Qa (Qn Qa Xp (by first | assumption | exact j1.cell 0 Qa Qa)) ?_)))
  refine QI Qa Qa Qa (QI Qa Qa Qa (Xn Qa Qa Qa (QO Qa Qa Qa XA (QF Qa Qa Qa (Qn Qa Xp (by first | assumption | exact j1.cell 0 Qa Qa)) ?_))))
  refine QV Qa Qa Qa Qa Qa Qa ?_
  refine Q0 Yd Qa (Z1 (j1.sp [4] Qa)) Qa ?_
  rintro _ w28 ⟨rfl,j28⟩
  replace j28:=j28.jn Qa Qa
  refine Xd (.skip (by kernel_rfl) (.cons (.inl ⟨rfl,(Qn Qa Xp (by first | assumption | exact j28.cell 1 Qa Qa))⟩) .nil)) ?_
  refine QV Qa Qa Qa Qa Qa Qa ?_
  refine Xs j28 WT Qa Qa ?_
  intro b29 w29 j29
  refine Xd (.skip (by kernel_rfl) (.cons (.inl ⟨rfl,(Qn Qa Xp (by first | assumption | exact j29.cell 0 Qa Qa | exact j29.cell 2 Qa Qa))⟩) .nil)) ?_
  refine QV Qa Qa Qa Qa Qa Qa ?_
  refine Q0 Jl Qa (Jg (j29.sp [] Qa) n (X.fl.length:Int) (by have :=hW.ln;omega)) Qa ?_
  rintro _ w30 ⟨rfl,j30⟩
  replace j30:=j30.jn Qa Qa
  refine Xd (.skip (by kernel_rfl) (.cons (.inl ⟨rfl,(Qn Qa Xp (by first | assumption | exact j30.cell 0 Qa Qa | exact j30.cell 2 Qa Qa))⟩) .nil)) ?_
  refine QV Qa Qa Qa Qa Qa Qa ?_
  refine Q0 YW Qa (Jh (j30.sp [1] Qa) (Ze n X.fl.length) hW.ln) Qa ?_
  rintro _ w31 ⟨rfl,j31⟩
  replace j31:=j31.jn Qa Qa
  rw[(Zm hp).1,(Zm hp).2.2]
  rw[(Zm hp).2.1]at j31
  dsimp only
  refine Xd (Xq (by kernel_rfl)) ?_
  refine QI Qa Qa Qa (Y6 Qa Qa Qa Qa (Y6 Qa Qa Qa Qa (QV Qa Qa Qa Qa Qa Qa ?_)))
  first | (refine Q8 j31 Qa Qa XS Qa (by first | rfl | (simp [QQ,Value.oneCell'];done) | assumption | exact hone) (i:=1) Qa (by first | decide | exact QC Qa | (simp;done) | omega) ?_) | (refine Q8 j31 Qa Qa XS Qa (by first | rfl | (simp [QQ,Value.oneCell'];done) | assumption | exact hone) (i:=2) Qa (by first | decide | exact QC Qa | (simp;done) | omega) ?_)
  intro w32 j33; dsimp only[List.set]at j33
  refine Z9 (Xq (by kernel_rfl)) ?_
  refine WV Qa Qa Qa (VC.nil (Qd (Qk [0,4,5] Qa (Qf (Qb (Qe Qa Qa (QL Qa Qa Qa (Qe Qa Qa (Q4 23 Qa (fun h34=> ?_) (fun h34=> ?_))))))))))
  ·refine Qj Qa Qa (QD h34) (Qi Qa X9 Qa (Qj Qa Qa (QD h34) (Qr Qa QH (by first | assumption | exact j33.cell 1 Qa Qa | exact j33.cell 2 Qa Qa) Qa ?_)))
   refine Qj Qa Qa (QD h34) (Jm Qa Qa Qa (Q1 Qa (QD h34) Qa Qa (Qe Qa Qa (Q4 28 Qa (fun h35=> ?_) (fun h35=> ?_)))))
   ·refine Qj Qa Qa (QD h35) (Qi Qa X9 Qa (Qj Qa Qa (QD h35) (Qr Qa QH (by first | assumption | exact j33.cell 1 Qa Qa | exact j33.cell 2 Qa Qa) Qa ?_)))
    refine Qj Qa Qa (QD h35) (W9 Qa Qa Qa (Q1 Qa (QD h35) Qa Qa (Qh (Qd (Qk [0,4,32] Qa (Qv Qa (fun h36=> ?_) (fun h36=> ?_)))))))
    ·have j37:=j33.drew
     refine QN [0,1,2,3,4,5,6,7,8,9,10,11,12,13,14] [13,14] W5 (by kernel_rfl) ?_
     refine QI Qa Qa Qa (QO Qa Qa Qa X9 (QF Qa Qa Qa (Qn Qa QH (by first | assumption | exact j37.cell 1 Qa Qa | exact j37.cell 2 Qa Qa)) ?_))
     refine QI Qa Qa Qa (Xn Qa Qa Qa (QO Qa Qa Qa Wc (QF Qa Qa Qa (Qn Qa Jx (by first | assumption | exact j37.cell 1 Qa Qa | exact j37.cell 2 Qa Qa)) ?_)))
     refine QO Qa Qa Qa X9 (QF Qa Qa Qa (Qn Qa QH (by first | assumption | exact j37.cell 1 Qa Qa | exact j37.cell 2 Qa Qa)) ?_)
     refine Q9 Qa Qa Qa (fun _=>(X0 0 Qa Qa (by first | rfl | omega) (by first | omega | exact(ZD (by rfl)).1) Ym)) ?_
     refine QF Qa Qa Qa (XV RV 3 0 0 j37 Qa (by rfl) J5 Qa Qa) ?_
     refine QO Qa Qa Qa Hs (QF Qa Qa Qa (Qn Qa Zx (by first | assumption | exact j37.cell 1 Qa Qa | exact j37.cell 2 Qa Qa)) ?_)
     refine QV Qa Qa Qa Qa Qa Qa ?_
     refine Q0 H3 Qa (Yq (j37.sp [4] Qa) (hG.starL 5 Qa) (hO.starL 5 Qa) hW.a s (hW.fl _ (List.mem_of_getElem? hp))) Qa ?_
     rintro _ w38 j38
     replace j38:=j38.jn Qa Qa
     have h1r:=j38.own_one 0 Qa
     refine Xd (.skip (by kernel_rfl) (.skip (by kernel_rfl) (.skip (by kernel_rfl) (.skip (by kernel_rfl) (.cons (.inl ⟨rfl,(Qn Qa QH (by first | assumption | exact j38.cell 3 Qa Qa | exact j38.cell 4 Qa Qa))⟩) .nil))))) ?_
     have j39:=QW (X:={X with fl:=X.fl.eraseIdx (Ze n X.fl.length).toNat,a:=(ZK X.a s).1}) (j38.pick [4,5,1,6,2,0,3,7] Qa)
     refine QV Qa Qa Qa Qa Qa Qa ?_
     refine Q0 Yc Qa (Wv (i:=false) (j39.sp [0,1] Qa) (by have :=Uk (s:=s) hW.a (hW.fl _ (List.mem_of_getElem? hp));omega)) Qa ?_
     rintro _ w40 ⟨rfl,j40⟩
     replace j40:=j40.jn Qa Qa
     refine Xd (Xq (by kernel_rfl)) ?_
     refine VC.nil (Yl (.inl Qa) Qa ?_)
     exact⟨_,rfl,rfl, by rw[SO hp]; exact j40.pick [0,2] Qa⟩
    (exfalso; have q9:=h36; simp at q9)
   (exfalso; have q9:=h35; simp at q9)
  (exfalso; have q9:=h34; simp at q9)
 refine Vj (sp:=[9,10,11,15,16]) [0,1,2,3,4,5,6,7,8,15,9,10,11,12,13,14,16,17] (by kernel_rfl) ?_
 refine QI Qa Qa Qa (Xn Qa Qa Qa (QO Qa Qa Qa XA (QF Qa Qa Qa (Qn Qa Xp (by first | assumption | exact j1.cell 0 Qa Qa)) ?_)))
 refine QI Qa Qa Qa (QI Qa Qa Qa (Xn Qa Qa Qa (QO Qa Qa Qa XA (QF Qa Qa Qa (Qn Qa Xp (by first | assumption | exact j1.cell 0 Qa Qa)) ?_))))
 refine QV Qa Qa Qa Qa Qa Qa ?_
 refine Xs j1 WT Qa Qa ?_
 intro b41 w41 j41
 refine Xd (.cons (.inl ⟨rfl,(Qn Qa Xp (by first | assumption | exact j41.cell 0 Qa Qa | exact j41.cell 1 Qa Qa))⟩) (.cons (.inl ⟨rfl,(Qn Qa Xp (by first | assumption | exact j41.cell 0 Qa Qa | exact j41.cell 1 Qa Qa))⟩) .nil)) ?_
 refine QV Qa Qa Qa Qa Qa Qa ?_
 refine Q0 Yd Qa (Z1 (j41.sp [5] Qa)) Qa ?_
 rintro _ w42 ⟨rfl,j42⟩
 replace j42:=j42.jn Qa Qa
 refine Xd (.skip (by kernel_rfl) (.cons (.inl ⟨rfl,(Qn Qa Xp (by first | assumption | exact j42.cell 1 Qa Qa | exact j42.cell 2 Qa Qa))⟩) .nil)) ?_
 refine QV Qa Qa Qa Qa Qa Qa ?_
 refine Q0 Jl Qa (Jg (j42.sp [] Qa) n (X.fl.length:Int) (by have :=hW.ln;omega)) Qa ?_
 rintro _ w43 ⟨rfl,j43⟩
 replace j43:=j43.jn Qa Qa
 refine Xd (.skip (by kernel_rfl) (.cons (.inl ⟨rfl,(Qn Qa Xp (by first | assumption | exact j43.cell 1 Qa Qa | exact j43.cell 2 Qa Qa))⟩) .nil)) ?_
 refine QV Qa Qa Qa Qa Qa Qa ?_
 refine Q0 YW Qa (Jh (j43.sp [0] Qa) (Ze n X.fl.length) hW.ln) Qa ?_
 rintro _ w44 ⟨rfl,j44⟩
 replace j44:=j44.jn Qa Qa
 rw[(Zm hp).1,(Zm hp).2.2]
 rw[(Zm hp).2.1]at j44
 dsimp only
 refine Xd (Xq (by kernel_rfl)) ?_
 refine QI Qa Qa Qa (Y6 Qa Qa Qa Qa (Y6 Qa Qa Qa Qa (QV Qa Qa Qa Qa Qa Qa ?_)))
 first | (refine Q8 j44 Qa Qa XS Qa (by first | rfl | (simp [QQ,Value.oneCell'];done) | assumption | exact hone) (i:=1) Qa (by first | decide | exact QC Qa | (simp;done) | omega) ?_) | (refine Q8 j44 Qa Qa XS Qa (by first | rfl | (simp [QQ,Value.oneCell'];done) | assumption | exact hone) (i:=2) Qa (by first | decide | exact QC Qa | (simp;done) | omega) ?_)
 intro w45 j46; dsimp only[List.set]at j46
 refine Z9 (Xq (by kernel_rfl)) ?_
 refine WV Qa Qa Qa (VC.nil (Qd (Qk [0,4,5] Qa (Qf (Qb (Qe Qa Qa (QL Qa Qa Qa (Qe Qa Qa (Q4 23 Qa (fun h47=> ?_) (fun h47=> ?_))))))))))
 ·refine Qj Qa Qa (QD h47) (Qi Qa X9 Qa (Qj Qa Qa (QD h47) (Qr Qa QH (by first | assumption | exact j46.cell 1 Qa Qa | exact j46.cell 2 Qa Qa) Qa ?_)))
  refine Qj Qa Qa (QD h47) (Jm Qa Qa Qa (Q1 Qa (QD h47) Qa Qa (Qe Qa Qa (Q4 28 Qa (fun h48=> ?_) (fun h48=> ?_)))))
  ·refine Qj Qa Qa (QD h48) (Qi Qa X9 Qa (Qj Qa Qa (QD h48) (Qr Qa QH (by first | assumption | exact j46.cell 1 Qa Qa | exact j46.cell 2 Qa Qa) Qa ?_)))
   refine Qj Qa Qa (QD h48) (W9 Qa Qa Qa (Q1 Qa (QD h48) Qa Qa (Qh (Qd (Qk [0,4,32] Qa (Qv Qa (fun h49=> ?_) (fun h49=> ?_)))))))
   ·have j50:=j46.drew
    refine QN [0,1,2,3,4,5,6,7,8,9,10,11,12,13,14] [13,14] W5 (by kernel_rfl) ?_
    refine QI Qa Qa Qa (QO Qa Qa Qa X9 (QF Qa Qa Qa (Qn Qa QH (by first | assumption | exact j50.cell 1 Qa Qa | exact j50.cell 2 Qa Qa)) ?_))
    refine QI Qa Qa Qa (Xn Qa Qa Qa (QO Qa Qa Qa Wc (QF Qa Qa Qa (Qn Qa Jx (by first | assumption | exact j50.cell 1 Qa Qa | exact j50.cell 2 Qa Qa)) ?_)))
    refine QO Qa Qa Qa X9 (QF Qa Qa Qa (Qn Qa QH (by first | assumption | exact j50.cell 1 Qa Qa | exact j50.cell 2 Qa Qa)) ?_)
    refine Q9 Qa Qa Qa (fun _=>(X0 0 Qa Qa (by first | rfl | omega) (by first | omega | exact(ZD (by rfl)).1) Ym)) ?_
    refine QF Qa Qa Qa (XV RV 3 0 0 j50 Qa (by rfl) J5 Qa Qa) ?_
    refine QO Qa Qa Qa Hs (QF Qa Qa Qa (Qn Qa Zx (by first | assumption | exact j50.cell 1 Qa Qa | exact j50.cell 2 Qa Qa)) ?_)
    refine QV Qa Qa Qa Qa Qa Qa ?_
    refine Q0 H3 Qa (Yq (j50.sp [4] Qa) (hG.starL 5 Qa) (hO.starL 5 Qa) hW.a s (hW.fl _ (List.mem_of_getElem? hp))) Qa ?_
    rintro _ w51 j51
    replace j51:=j51.jn Qa Qa
    have h1r:=j51.own_one 0 Qa
    refine Xd (.skip (by kernel_rfl) (.skip (by kernel_rfl) (.skip (by kernel_rfl) (.skip (by kernel_rfl) (.cons (.inl ⟨rfl,(Qn Qa QH (by first | assumption | exact j51.cell 3 Qa Qa | exact j51.cell 4 Qa Qa))⟩) .nil))))) ?_
    have j52:=QW (X:={X with fl:=X.fl.eraseIdx (Ze n X.fl.length).toNat,a:=(ZK X.a s).1}) (j51.pick [4,5,1,6,2,0,3,7] Qa)
    refine QV Qa Qa Qa Qa Qa Qa ?_
    refine Q0 Yc Qa (Wv (i:=false) (j52.sp [0,1] Qa) (by have :=Uk (s:=s) hW.a (hW.fl _ (List.mem_of_getElem? hp));omega)) Qa ?_
    rintro _ w53 ⟨rfl,j53⟩
    replace j53:=j53.jn Qa Qa
    refine Xd (Xq (by kernel_rfl)) ?_
    refine VC.nil (Yl (.inl Qa) Qa ?_)
    exact⟨_,rfl,rfl, by rw[SO hp]; exact j53.pick [0,2] Qa⟩
   (exfalso; have q9:=h49; simp at q9)
  (exfalso; have q9:=h48; simp at q9)
 (exfalso; have q9:=h47; simp at q9)
theorem AI {w:World} {x:Nat} {X:TwD} {F:Th} (hS:Sat w [Dv x X,F]) (hG:Ent F WireG) (hO:Ent F (Glob 0)) (hW:XW X) (n:Int) {s:Bs} (hp:X.fl[(Ze n X.fl.length).toNat]? =some (true,s)):
    Calls prog 49 #[ptrV x 0,intV n] w (Ret fun v w'=>v= .tuple #[]∧Sat w' [Dv x (Jb X n),F]):= by
 obtain⟨eb,ecap,a,b,p,hS⟩:=HN hS
 refine Qy func49 Qa ntmps49 Qa ?_
 refine Qf ?_
 have j1:=hS.drew
 refine B5 W5 (YG 9 15 Qa ?_ ?_)
 ·refine YG 10 15 Qa ?_ ?_
  ·refine YG 11 15 Qa ?_ ?_
   ·refine Vj (sp:=[9,10,11,15,16]) [0,1,2,3,4,5,6,7,8,9,10,11,12,13,14,15,16,17] (by kernel_rfl) ?_
    refine QI Qa Qa Qa (Xn Qa Qa Qa (QO Qa Qa Qa XA (QF Qa Qa Qa (Qn Qa Xp (by first | assumption | exact j1.cell 0 Qa Qa)) ?_)))
    refine QI Qa Qa Qa (QI Qa Qa Qa (Xn Qa Qa Qa (QO Qa Qa Qa XA (QF Qa Qa Qa (Qn Qa Xp (by first | assumption | exact j1.cell 0 Qa Qa)) ?_))))
    refine QV Qa Qa Qa Qa Qa Qa ?_
    refine Q0 Yd Qa (Z1 (j1.sp [4] Qa)) Qa ?_
    rintro _ w2 ⟨rfl,j2⟩
    replace j2:=j2.jn Qa Qa
    refine Xd (.skip (by kernel_rfl) (.cons (.inl ⟨rfl,(Qn Qa Xp (by first | assumption | exact j2.cell 1 Qa Qa))⟩) .nil)) ?_
    refine QV Qa Qa Qa Qa Qa Qa ?_
    refine Q0 Jl Qa (Jg (j2.sp [] Qa) n (X.fl.length:Int) (by have :=hW.ln;omega)) Qa ?_
    rintro _ w3 ⟨rfl,j3⟩
    replace j3:=j3.jn Qa Qa
    refine Xd (.skip (by kernel_rfl) (.cons (.inl ⟨rfl,(Qn Qa Xp (by first | assumption | exact j3.cell 1 Qa Qa))⟩) .nil)) ?_
    refine QV Qa Qa Qa Qa Qa Qa ?_
    refine Q0 YW Qa (Jh (j3.sp [0] Qa) (Ze n X.fl.length) hW.ln) Qa ?_
    rintro _ w4 ⟨rfl,j4⟩
    replace j4:=j4.jn Qa Qa
    rw[(Zm hp).1,(Zm hp).2.2]
    rw[(Zm hp).2.1]at j4
    dsimp only
    refine Xd (Xq (by kernel_rfl)) ?_
    refine QI Qa Qa Qa (Y6 Qa Qa Qa Qa (Y6 Qa Qa Qa Qa (QV Qa Qa Qa Qa Qa Qa ?_)))
    refine Xs j4 WT Qa Qa ?_
    intro b5 w5 j5
    refine Xd (Xq (by kernel_rfl)) ?_
    refine QV Qa Qa Qa Qa Qa Qa ?_
    first | (refine Q8 j5 Qa Qa XS Qa (by first | rfl | (simp [QQ,Value.oneCell'];done) | assumption | exact hone) (i:=0) Qa (by first | decide | exact QC Qa | (simp;done) | omega) ?_) | (refine Q8 j5 Qa Qa XS Qa (by first | rfl | (simp [QQ,Value.oneCell'];done) | assumption | exact hone) (i:=2) Qa (by first | decide | exact QC Qa | (simp;done) | omega) ?_)
    intro w6 j7; dsimp only[List.set]at j7
    refine Z9 (Xq (by kernel_rfl)) ?_
    refine WV Qa Qa Qa (VC.nil (Qd (Qk [0,4,5] Qa (Qf (Qb (Qe Qa Qa (QL Qa Qa Qa (Qe Qa Qa (Q4 23 Qa (fun h8=> ?_) (fun h8=> ?_))))))))))
    ·refine Qj Qa Qa (QD h8) (Qi Qa X9 Qa (Qj Qa Qa (QD h8) (Qr Qa QH (by first | assumption | exact j7.cell 0 Qa Qa | exact j7.cell 2 Qa Qa) Qa ?_)))
     refine Qj Qa Qa (QD h8) (Jm Qa Qa Qa (Q1 Qa (QD h8) Qa Qa (Qe Qa Qa (Q4 28 Qa (fun h9=> ?_) (fun h9=> ?_)))))
     ·refine Qj Qa Qa (QD h9) (Qi Qa X9 Qa (Qj Qa Qa (QD h9) (Qr Qa QH (by first | assumption | exact j7.cell 0 Qa Qa | exact j7.cell 2 Qa Qa) Qa ?_)))
      refine Qj Qa Qa (QD h9) (W9 Qa Qa Qa (Q1 Qa (QD h9) Qa Qa (Qh (Qd (Qk [0,4,32] Qa (Qv Qa (fun h10=> ?_) (fun h10=> ?_)))))))
      ·have j11:=j7.drew
       refine QN [0,1,2,3,4,5,6,7,8,9,10,11,12,13,14] [13,14] W5 (by kernel_rfl) ?_
       refine QI Qa Qa Qa (QO Qa Qa Qa X9 (QF Qa Qa Qa (Qn Qa QH (by first | assumption | exact j11.cell 0 Qa Qa | exact j11.cell 2 Qa Qa)) ?_))
       refine QI Qa Qa Qa (Xn Qa Qa Qa (QO Qa Qa Qa Wc (QF Qa Qa Qa (Qn Qa Jx (by first | assumption | exact j11.cell 0 Qa Qa | exact j11.cell 2 Qa Qa)) ?_)))
       refine QO Qa Qa Qa X9 (QF Qa Qa Qa (Qn Qa QH (by first | assumption | exact j11.cell 0 Qa Qa | exact j11.cell 2 Qa Qa)) ?_)
       refine Q9 Qa Qa Qa (fun _=>(X0 1 Qa Qa (by first | rfl | omega) (by first | omega | exact(ZD (by rfl)).1) Ym)) ?_
       refine QF Qa Qa Qa (XV RV 3 1 0 j11 Qa (by rfl) J5 Qa Qa) ?_
       refine QO Qa Qa Qa Hs (QF Qa Qa Qa (Qn Qa Zx (by first | assumption | exact j11.cell 0 Qa Qa | exact j11.cell 2 Qa Qa)) ?_)
       refine QV Qa Qa Qa Qa Qa Qa ?_
       refine Q0 H3 Qa (Yq (j11.sp [5] Qa) (hG.starL 5 Qa) (hO.starL 5 Qa) hW.b s (hW.fl _ (List.mem_of_getElem? hp))) Qa ?_
       rintro _ w12 j12
       replace j12:=j12.jn Qa Qa
       have h1r:=j12.own_one 0 Qa
       refine Xd (.skip (by kernel_rfl) (.skip (by kernel_rfl) (.skip (by kernel_rfl) (.skip (by kernel_rfl) (.cons (.inl ⟨rfl,(Qn Qa QH (by first | assumption | exact j12.cell 2 Qa Qa | exact j12.cell 4 Qa Qa))⟩) .nil))))) ?_
       have j13:=QW (X:={X with fl:=X.fl.eraseIdx (Ze n X.fl.length).toNat,b:=(ZK X.b s).1}) (j12.pick [4,5,6,1,3,0,2,7] Qa)
       refine QV Qa Qa Qa Qa Qa Qa ?_
       refine Q0 Yc Qa (Wv (i:=true) (j13.sp [0,1] Qa) (by have :=Uk (s:=s) hW.b (hW.fl _ (List.mem_of_getElem? hp));omega)) Qa ?_
       rintro _ w14 ⟨rfl,j14⟩
       replace j14:=j14.jn Qa Qa
       refine Xd (Xq (by kernel_rfl)) ?_
       refine VC.nil (Yl (.inl Qa) Qa ?_)
       exact⟨_,rfl,rfl, by rw[SN hp]; exact j14.pick [0,2] Qa⟩
      (exfalso; have q9:=h10; simp at q9)
     (exfalso; have q9:=h9; simp at q9)
    (exfalso; have q9:=h8; simp at q9)
   refine Vj (sp:=[9,10,11,15,16]) [0,1,2,3,4,5,6,7,8,9,10,15,11,12,13,14,16,17] (by kernel_rfl) ?_
   refine QI Qa Qa Qa (Xn Qa Qa Qa (QO Qa Qa Qa XA (QF Qa Qa Qa (Qn Qa Xp (by first | assumption | exact j1.cell 0 Qa Qa)) ?_)))
   refine QI Qa Qa Qa (QI Qa Qa Qa (Xn Qa Qa Qa (QO Qa Qa Qa XA (QF Qa Qa Qa (Qn Qa Xp (by first | assumption | exact j1.cell 0 Qa Qa)) ?_))))
   refine QV Qa Qa Qa Qa Qa Qa ?_
   refine Q0 Yd Qa (Z1 (j1.sp [4] Qa)) Qa ?_
   rintro _ w15 ⟨rfl,j15⟩
   replace j15:=j15.jn Qa Qa
   refine Xd (.skip (by kernel_rfl) (.cons (.inl ⟨rfl,(Qn Qa Xp (by first | assumption | exact j15.cell 1 Qa Qa))⟩) .nil)) ?_
   refine QV Qa Qa Qa Qa Qa Qa ?_
   refine Q0 Jl Qa (Jg (j15.sp [] Qa) n (X.fl.length:Int) (by have :=hW.ln;omega)) Qa ?_
   rintro _ w16 ⟨rfl,j16⟩
   replace j16:=j16.jn Qa Qa
   refine Xd (.skip (by kernel_rfl) (.cons (.inl ⟨rfl,(Qn Qa Xp (by first | assumption | exact j16.cell 1 Qa Qa))⟩) .nil)) ?_
   refine QV Qa Qa Qa Qa Qa Qa ?_
   refine Xs j16 WT Qa Qa ?_
   intro b17 w17 j17
   refine Xd (.skip (by kernel_rfl) (.cons (.inl ⟨rfl,(Qn Qa Xp (by first | assumption | exact j17.cell 0 Qa Qa | exact j17.cell 2 Qa Qa))⟩) .nil)) ?_
   refine QV Qa Qa Qa Qa Qa Qa ?_
   refine Q0 YW Qa (Jh (j17.sp [1] Qa) (Ze n X.fl.length) hW.ln) Qa ?_
   rintro _ w18 ⟨rfl,j18⟩
   replace j18:=j18.jn Qa Qa
   rw[(Zm hp).1,(Zm hp).2.2]
   rw[(Zm hp).2.1]at j18
   dsimp only
   refine Xd (Xq (by kernel_rfl)) ?_
   refine QI Qa Qa Qa (Y6 Qa Qa Qa Qa (Y6 Qa Qa Qa Qa (QV Qa Qa Qa Qa Qa Qa ?_)))
   first | (refine Q8 j18 Qa Qa XS Qa (by first | rfl | (simp [QQ,Value.oneCell'];done) | assumption | exact hone) (i:=1) Qa (by first | decide | exact QC Qa | (simp;done) | omega) ?_) | (refine Q8 j18 Qa Qa XS Qa (by first | rfl | (simp [QQ,Value.oneCell'];done) | assumption | exact hone) (i:=2) Qa (by first | decide | exact QC Qa | (simp;done) | omega) ?_)
   intro w19 j20; dsimp only[List.set]at j20
   refine Z9 (Xq (by kernel_rfl)) ?_
   refine WV Qa Qa Qa (VC.nil (Qd (Qk [0,4,5] Qa (Qf (Qb (Qe Qa Qa (QL Qa Qa Qa (Qe Qa Qa (Q4 23 Qa (fun h21=> ?_) (fun h21=> ?_))))))))))
   ·refine Qj Qa Qa (QD h21) (Qi Qa X9 Qa (Qj Qa Qa (QD h21) (Qr Qa QH (by first | assumption | exact j20.cell 1 Qa Qa | exact j20.cell 2 Qa Qa) Qa ?_)))
    refine Qj Qa Qa (QD h21) (Jm Qa Qa Qa (Q1 Qa (QD h21) Qa Qa (Qe Qa Qa (Q4 28 Qa (fun h22=> ?_) (fun h22=> ?_)))))
    ·refine Qj Qa Qa (QD h22) (Qi Qa X9 Qa (Qj Qa Qa (QD h22) (Qr Qa QH (by first | assumption | exact j20.cell 1 Qa Qa | exact j20.cell 2 Qa Qa) Qa ?_)))
     refine Qj Qa Qa (QD h22) (W9 Qa Qa Qa (Q1 Qa (QD h22) Qa Qa (Qh (Qd (Qk [0,4,32] Qa (Qv Qa (fun h23=> ?_) (fun h23=> ?_)))))))
     ·have j24:=j20.drew
      refine QN [0,1,2,3,4,5,6,7,8,9,10,11,12,13,14] [13,14] W5 (by kernel_rfl) ?_
      refine QI Qa Qa Qa (QO Qa Qa Qa X9 (QF Qa Qa Qa (Qn Qa QH (by first | assumption | exact j24.cell 1 Qa Qa | exact j24.cell 2 Qa Qa)) ?_))
      refine QI Qa Qa Qa (Xn Qa Qa Qa (QO Qa Qa Qa Wc (QF Qa Qa Qa (Qn Qa Jx (by first | assumption | exact j24.cell 1 Qa Qa | exact j24.cell 2 Qa Qa)) ?_)))
      refine QO Qa Qa Qa X9 (QF Qa Qa Qa (Qn Qa QH (by first | assumption | exact j24.cell 1 Qa Qa | exact j24.cell 2 Qa Qa)) ?_)
      refine Q9 Qa Qa Qa (fun _=>(X0 1 Qa Qa (by first | rfl | omega) (by first | omega | exact(ZD (by rfl)).1) Ym)) ?_
      refine QF Qa Qa Qa (XV RV 3 1 0 j24 Qa (by rfl) J5 Qa Qa) ?_
      refine QO Qa Qa Qa Hs (QF Qa Qa Qa (Qn Qa Zx (by first | assumption | exact j24.cell 1 Qa Qa | exact j24.cell 2 Qa Qa)) ?_)
      refine QV Qa Qa Qa Qa Qa Qa ?_
      refine Q0 H3 Qa (Yq (j24.sp [5] Qa) (hG.starL 5 Qa) (hO.starL 5 Qa) hW.b s (hW.fl _ (List.mem_of_getElem? hp))) Qa ?_
      rintro _ w25 j25
      replace j25:=j25.jn Qa Qa
      have h1r:=j25.own_one 0 Qa
      refine Xd (.skip (by kernel_rfl) (.skip (by kernel_rfl) (.skip (by kernel_rfl) (.skip (by kernel_rfl) (.cons (.inl ⟨rfl,(Qn Qa QH (by first | assumption | exact j25.cell 3 Qa Qa | exact j25.cell 4 Qa Qa))⟩) .nil))))) ?_
      have j26:=QW (X:={X with fl:=X.fl.eraseIdx (Ze n X.fl.length).toNat,b:=(ZK X.b s).1}) (j25.pick [4,5,6,1,2,0,3,7] Qa)
      refine QV Qa Qa Qa Qa Qa Qa ?_
      refine Q0 Yc Qa (Wv (i:=true) (j26.sp [0,1] Qa) (by have :=Uk (s:=s) hW.b (hW.fl _ (List.mem_of_getElem? hp));omega)) Qa ?_
      rintro _ w27 ⟨rfl,j27⟩
      replace j27:=j27.jn Qa Qa
      refine Xd (Xq (by kernel_rfl)) ?_
      refine VC.nil (Yl (.inl Qa) Qa ?_)
      exact⟨_,rfl,rfl, by rw[SN hp]; exact j27.pick [0,2] Qa⟩
     (exfalso; have q9:=h23; simp at q9)
    (exfalso; have q9:=h22; simp at q9)
   (exfalso; have q9:=h21; simp at q9)
  refine Vj (sp:=[9,10,11,15,16]) [0,1,2,3,4,5,6,7,8,9,15,10,11,12,13,14,16,17] (by kernel_rfl) ?_
  refine QI Qa Qa Qa (Xn Qa Qa Qa (QO Qa Qa Qa XA (QF Qa Qa Qa (Qn Qa Xp (by first | assumption | exact j1.cell 0 Qa Qa)) ?_)))
  refine QI Qa Qa Qa (QI Qa Qa Qa (Xn Qa Qa Qa (QO Qa Qa Qa XA (QF Qa Qa Qa (Qn Qa Xp (by first | assumption | exact j1.cell 0 Qa Qa)) ?_))))
  refine QV Qa Qa Qa Qa Qa Qa ?_
  refine Q0 Yd Qa (Z1 (j1.sp [4] Qa)) Qa ?_
  rintro _ w28 ⟨rfl,j28⟩
  replace j28:=j28.jn Qa Qa
  refine Xd (.skip (by kernel_rfl) (.cons (.inl ⟨rfl,(Qn Qa Xp (by first | assumption | exact j28.cell 1 Qa Qa))⟩) .nil)) ?_
  refine QV Qa Qa Qa Qa Qa Qa ?_
  refine Xs j28 WT Qa Qa ?_
  intro b29 w29 j29
  refine Xd (.skip (by kernel_rfl) (.cons (.inl ⟨rfl,(Qn Qa Xp (by first | assumption | exact j29.cell 0 Qa Qa | exact j29.cell 2 Qa Qa))⟩) .nil)) ?_
  refine QV Qa Qa Qa Qa Qa Qa ?_
  refine Q0 Jl Qa (Jg (j29.sp [] Qa) n (X.fl.length:Int) (by have :=hW.ln;omega)) Qa ?_
  rintro _ w30 ⟨rfl,j30⟩
  replace j30:=j30.jn Qa Qa
  refine Xd (.skip (by kernel_rfl) (.cons (.inl ⟨rfl,(Qn Qa Xp (by first | assumption | exact j30.cell 0 Qa Qa | exact j30.cell 2 Qa Qa))⟩) .nil)) ?_
  refine QV Qa Qa Qa Qa Qa Qa ?_
  refine Q0 YW Qa (Jh (j30.sp [1] Qa) (Ze n X.fl.length) hW.ln) Qa ?_
  rintro _ w31 ⟨rfl,j31⟩
  replace j31:=j31.jn Qa Qa
  rw[(Zm hp).1,(Zm hp).2.2]
  rw[(Zm hp).2.1]at j31
  dsimp only
  refine Xd (Xq (by kernel_rfl)) ?_
  refine QI Qa Qa Qa (Y6 Qa Qa Qa Qa (Y6 Qa Qa Qa Qa (QV Qa Qa Qa Qa Qa Qa ?_)))
  first | (refine Q8 j31 Qa Qa XS Qa (by first | rfl | (simp [QQ,Value.oneCell'];done) | assumption | exact hone) (i:=1) Qa (by first | decide | exact QC Qa | (simp;done) | omega) ?_) | (refine Q8 j31 Qa Qa XS Qa (by first | rfl | (simp [QQ,Value.oneCell'];done) | assumption | exact hone) (i:=2) Qa (by first | decide | exact QC Qa | (simp;done) | omega) ?_)
  intro w32 j33; dsimp only[List.set]at j33
  refine Z9 (Xq (by kernel_rfl)) ?_
  refine WV Qa Qa Qa (VC.nil (Qd (Qk [0,4,5] Qa (Qf (Qb (Qe Qa Qa (QL Qa Qa Qa (Qe Qa Qa (Q4 23 Qa (fun h34=> ?_) (fun h34=> ?_))))))))))
  ·refine Qj Qa Qa (QD h34) (Qi Qa X9 Qa (Qj Qa Qa (QD h34) (Qr Qa QH (by first | assumption | exact j33.cell 1 Qa Qa | exact j33.cell 2 Qa Qa) Qa ?_)))
   refine Qj Qa Qa (QD h34) (Jm Qa Qa Qa (Q1 Qa (QD h34) Qa Qa (Qe Qa Qa (Q4 28 Qa (fun h35=> ?_) (fun h35=> ?_)))))
   ·refine Qj Qa Qa (QD h35) (Qi Qa X9 Qa (Qj Qa Qa (QD h35) (Qr Qa QH (by first | assumption | exact j33.cell 1 Qa Qa | exact j33.cell 2 Qa Qa) Qa ?_)))
    refine Qj Qa Qa (QD h35) (W9 Qa Qa Qa (Q1 Qa (QD h35) Qa Qa (Qh (Qd (Qk [0,4,32] Qa (Qv Qa (fun h36=> ?_) (fun h36=> ?_)))))))
    ·have j37:=j33.drew
     refine QN [0,1,2,3,4,5,6,7,8,9,10,11,12,13,14] [13,14] W5 (by kernel_rfl) ?_
     refine QI Qa Qa Qa (QO Qa Qa Qa X9 (QF Qa Qa Qa (Qn Qa QH (by first | assumption | exact j37.cell 1 Qa Qa | exact j37.cell 2 Qa Qa)) ?_))
     refine QI Qa Qa Qa (Xn Qa Qa Qa (QO Qa Qa Qa Wc (QF Qa Qa Qa (Qn Qa Jx (by first | assumption | exact j37.cell 1 Qa Qa | exact j37.cell 2 Qa Qa)) ?_)))
     refine QO Qa Qa Qa X9 (QF Qa Qa Qa (Qn Qa QH (by first | assumption | exact j37.cell 1 Qa Qa | exact j37.cell 2 Qa Qa)) ?_)
     refine Q9 Qa Qa Qa (fun _=>(X0 1 Qa Qa (by first | rfl | omega) (by first | omega | exact(ZD (by rfl)).1) Ym)) ?_
     refine QF Qa Qa Qa (XV RV 3 1 0 j37 Qa (by rfl) J5 Qa Qa) ?_
     refine QO Qa Qa Qa Hs (QF Qa Qa Qa (Qn Qa Zx (by first | assumption | exact j37.cell 1 Qa Qa | exact j37.cell 2 Qa Qa)) ?_)
     refine QV Qa Qa Qa Qa Qa Qa ?_
     refine Q0 H3 Qa (Yq (j37.sp [5] Qa) (hG.starL 5 Qa) (hO.starL 5 Qa) hW.b s (hW.fl _ (List.mem_of_getElem? hp))) Qa ?_
     rintro _ w38 j38
     replace j38:=j38.jn Qa Qa
     have h1r:=j38.own_one 0 Qa
     refine Xd (.skip (by kernel_rfl) (.skip (by kernel_rfl) (.skip (by kernel_rfl) (.skip (by kernel_rfl) (.cons (.inl ⟨rfl,(Qn Qa QH (by first | assumption | exact j38.cell 3 Qa Qa | exact j38.cell 4 Qa Qa))⟩) .nil))))) ?_
     have j39:=QW (X:={X with fl:=X.fl.eraseIdx (Ze n X.fl.length).toNat,b:=(ZK X.b s).1}) (j38.pick [4,5,6,1,2,0,3,7] Qa)
     refine QV Qa Qa Qa Qa Qa Qa ?_
     refine Q0 Yc Qa (Wv (i:=true) (j39.sp [0,1] Qa) (by have :=Uk (s:=s) hW.b (hW.fl _ (List.mem_of_getElem? hp));omega)) Qa ?_
     rintro _ w40 ⟨rfl,j40⟩
     replace j40:=j40.jn Qa Qa
     refine Xd (Xq (by kernel_rfl)) ?_
     refine VC.nil (Yl (.inl Qa) Qa ?_)
     exact⟨_,rfl,rfl, by rw[SN hp]; exact j40.pick [0,2] Qa⟩
    (exfalso; have q9:=h36; simp at q9)
   (exfalso; have q9:=h35; simp at q9)
  (exfalso; have q9:=h34; simp at q9)
 refine Vj (sp:=[9,10,11,15,16]) [0,1,2,3,4,5,6,7,8,15,9,10,11,12,13,14,16,17] (by kernel_rfl) ?_
 refine QI Qa Qa Qa (Xn Qa Qa Qa (QO Qa Qa Qa XA (QF Qa Qa Qa (Qn Qa Xp (by first | assumption | exact j1.cell 0 Qa Qa)) ?_)))
 refine QI Qa Qa Qa (QI Qa Qa Qa (Xn Qa Qa Qa (QO Qa Qa Qa XA (QF Qa Qa Qa (Qn Qa Xp (by first | assumption | exact j1.cell 0 Qa Qa)) ?_))))
 refine QV Qa Qa Qa Qa Qa Qa ?_
 refine Xs j1 WT Qa Qa ?_
 intro b41 w41 j41
 refine Xd (.cons (.inl ⟨rfl,(Qn Qa Xp (by first | assumption | exact j41.cell 0 Qa Qa | exact j41.cell 1 Qa Qa))⟩) (.cons (.inl ⟨rfl,(Qn Qa Xp (by first | assumption | exact j41.cell 0 Qa Qa | exact j41.cell 1 Qa Qa))⟩) .nil)) ?_
 refine QV Qa Qa Qa Qa Qa Qa ?_
 refine Q0 Yd Qa (Z1 (j41.sp [5] Qa)) Qa ?_
 rintro _ w42 ⟨rfl,j42⟩
 replace j42:=j42.jn Qa Qa
 refine Xd (.skip (by kernel_rfl) (.cons (.inl ⟨rfl,(Qn Qa Xp (by first | assumption | exact j42.cell 1 Qa Qa | exact j42.cell 2 Qa Qa))⟩) .nil)) ?_
 refine QV Qa Qa Qa Qa Qa Qa ?_
 refine Q0 Jl Qa (Jg (j42.sp [] Qa) n (X.fl.length:Int) (by have :=hW.ln;omega)) Qa ?_
 rintro _ w43 ⟨rfl,j43⟩
 replace j43:=j43.jn Qa Qa
 refine Xd (.skip (by kernel_rfl) (.cons (.inl ⟨rfl,(Qn Qa Xp (by first | assumption | exact j43.cell 1 Qa Qa | exact j43.cell 2 Qa Qa))⟩) .nil)) ?_
 refine QV Qa Qa Qa Qa Qa Qa ?_
 refine Q0 YW Qa (Jh (j43.sp [0] Qa) (Ze n X.fl.length) hW.ln) Qa ?_
 rintro _ w44 ⟨rfl,j44⟩
 replace j44:=j44.jn Qa Qa
 rw[(Zm hp).1,(Zm hp).2.2]
 rw[(Zm hp).2.1]at j44
 dsimp only
 refine Xd (Xq (by kernel_rfl)) ?_
 refine QI Qa Qa Qa (Y6 Qa Qa Qa Qa (Y6 Qa Qa Qa Qa (QV Qa Qa Qa Qa Qa Qa ?_)))
 first | (refine Q8 j44 Qa Qa XS Qa (by first | rfl | (simp [QQ,Value.oneCell'];done) | assumption | exact hone) (i:=1) Qa (by first | decide | exact QC Qa | (simp;done) | omega) ?_) | (refine Q8 j44 Qa Qa XS Qa (by first | rfl | (simp [QQ,Value.oneCell'];done) | assumption | exact hone) (i:=2) Qa (by first | decide | exact QC Qa | (simp;done) | omega) ?_)
 intro w45 j46; dsimp only[List.set]at j46
 refine Z9 (Xq (by kernel_rfl)) ?_
 refine WV Qa Qa Qa (VC.nil (Qd (Qk [0,4,5] Qa (Qf (Qb (Qe Qa Qa (QL Qa Qa Qa (Qe Qa Qa (Q4 23 Qa (fun h47=> ?_) (fun h47=> ?_))))))))))
 ·refine Qj Qa Qa (QD h47) (Qi Qa X9 Qa (Qj Qa Qa (QD h47) (Qr Qa QH (by first | assumption | exact j46.cell 1 Qa Qa | exact j46.cell 2 Qa Qa) Qa ?_)))
  refine Qj Qa Qa (QD h47) (Jm Qa Qa Qa (Q1 Qa (QD h47) Qa Qa (Qe Qa Qa (Q4 28 Qa (fun h48=> ?_) (fun h48=> ?_)))))
  ·refine Qj Qa Qa (QD h48) (Qi Qa X9 Qa (Qj Qa Qa (QD h48) (Qr Qa QH (by first | assumption | exact j46.cell 1 Qa Qa | exact j46.cell 2 Qa Qa) Qa ?_)))
   refine Qj Qa Qa (QD h48) (W9 Qa Qa Qa (Q1 Qa (QD h48) Qa Qa (Qh (Qd (Qk [0,4,32] Qa (Qv Qa (fun h49=> ?_) (fun h49=> ?_)))))))
   ·have j50:=j46.drew
    refine QN [0,1,2,3,4,5,6,7,8,9,10,11,12,13,14] [13,14] W5 (by kernel_rfl) ?_
    refine QI Qa Qa Qa (QO Qa Qa Qa X9 (QF Qa Qa Qa (Qn Qa QH (by first | assumption | exact j50.cell 1 Qa Qa | exact j50.cell 2 Qa Qa)) ?_))
    refine QI Qa Qa Qa (Xn Qa Qa Qa (QO Qa Qa Qa Wc (QF Qa Qa Qa (Qn Qa Jx (by first | assumption | exact j50.cell 1 Qa Qa | exact j50.cell 2 Qa Qa)) ?_)))
    refine QO Qa Qa Qa X9 (QF Qa Qa Qa (Qn Qa QH (by first | assumption | exact j50.cell 1 Qa Qa | exact j50.cell 2 Qa Qa)) ?_)
    refine Q9 Qa Qa Qa (fun _=>(X0 1 Qa Qa (by first | rfl | omega) (by first | omega | exact(ZD (by rfl)).1) Ym)) ?_
    refine QF Qa Qa Qa (XV RV 3 1 0 j50 Qa (by rfl) J5 Qa Qa) ?_
    refine QO Qa Qa Qa Hs (QF Qa Qa Qa (Qn Qa Zx (by first | assumption | exact j50.cell 1 Qa Qa | exact j50.cell 2 Qa Qa)) ?_)
    refine QV Qa Qa Qa Qa Qa Qa ?_
    refine Q0 H3 Qa (Yq (j50.sp [5] Qa) (hG.starL 5 Qa) (hO.starL 5 Qa) hW.b s (hW.fl _ (List.mem_of_getElem? hp))) Qa ?_
    rintro _ w51 j51
    replace j51:=j51.jn Qa Qa
    have h1r:=j51.own_one 0 Qa
    refine Xd (.skip (by kernel_rfl) (.skip (by kernel_rfl) (.skip (by kernel_rfl) (.skip (by kernel_rfl) (.cons (.inl ⟨rfl,(Qn Qa QH (by first | assumption | exact j51.cell 3 Qa Qa | exact j51.cell 4 Qa Qa))⟩) .nil))))) ?_
    have j52:=QW (X:={X with fl:=X.fl.eraseIdx (Ze n X.fl.length).toNat,b:=(ZK X.b s).1}) (j51.pick [4,5,6,1,2,0,3,7] Qa)
    refine QV Qa Qa Qa Qa Qa Qa ?_
    refine Q0 Yc Qa (Wv (i:=true) (j52.sp [0,1] Qa) (by have :=Uk (s:=s) hW.b (hW.fl _ (List.mem_of_getElem? hp));omega)) Qa ?_
    rintro _ w53 ⟨rfl,j53⟩
    replace j53:=j53.jn Qa Qa
    refine Xd (Xq (by kernel_rfl)) ?_
    refine VC.nil (Yl (.inl Qa) Qa ?_)
    exact⟨_,rfl,rfl, by rw[SN hp]; exact j53.pick [0,2] Qa⟩
   (exfalso; have q9:=h49; simp at q9)
  (exfalso; have q9:=h48; simp at q9)
 (exfalso; have q9:=h47; simp at q9)
theorem BU {w:World} {x:Nat} {X:TwD} {F:Th} (hS:Sat w [Dv x X,F]) (hG:Ent F WireG) (hO:Ent F (Glob 0)) (hW:XW X) (n:Int):
    Calls prog 49 #[ptrV x 0,intV n] w (Ret fun v w'=>v= .tuple #[]∧Sat w' [Dv x (Jb X n),F]):= by
  cases hp:X.fl[(Ze n X.fl.length).toNat]? with
  | none=> exact AJ hS hG hO hW n hp
  | some q=>
    obtain⟨i,s⟩:=q
    cases i with
    | false=> exact AK hS hG hO hW n hp
    | true=> exact AI hS hG hO hW n hp
