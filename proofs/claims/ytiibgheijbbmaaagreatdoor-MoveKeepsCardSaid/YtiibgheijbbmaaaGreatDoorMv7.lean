/- move: Owner, Freeze, Cancel -/
import Derived.Test.YtiibgheijbbmaaaGreatDoorMv3
set_option linter.unusedVariables false
set_option maxRecDepth 100000
namespace Go.Proofs.YtiibgheijbbmaaaGreatDoor
open Go.RowKit M Proofs.Tryz
theorem Ow {w:World} {a b:Nat} {E1 E2:EnD} {F:Th} (hS:Sat w [Xu a E1,Xu b E2,F]) (hG:Ent F WireG) (hO:Ent F (Glob 0)):
    Calls prog 13 #[ptrV a 0,ptrV b 0] w (Ret fun v w'=>v=intV (JO (Wk E1) (Wk E2))∧Sat w' [Xu a E1,Xu b E2,F]):= by
 refine Qx func13 Qa ntmps13 Qa ?_
 refine Qg (Qb (Qc Qa Qa (Qh (Qd (Qg (Qb (Qe Qa Qa (Qz Nx Qa (K5 (hS.sp [0] Qa) (hG.starL 1 Qa) (hO.starL 1 Qa)) Qa ?_))))))))
 rintro _ w1 ⟨rfl,hS1⟩
 replace hS1:=hS1.jn Qa Qa
 refine Qe Qa Qa (Q6 Qa Qa Qa (Q6 Qa Qa Qa (Qc Qa Qa (Qc Qa Qa (Qh (Qd (Qg (Qb (Qe Qa Qa (Qz Nx Qa (K5 (hS1.sp [1] Qa) (hG.starL 1 Qa) (hO.starL 1 Qa)) Qa ?_))))))))))
 rintro _ w2 ⟨rfl,hS2⟩
 replace hS2:=hS2.jn Qa Qa
 refine Qe Qa Qa (Q6 Qa Qa Qa (Q6 Qa Qa Qa (Qc Qa Qa (Qc Qa Qa (Qh (Qd (Qk [4,5,6,7,8] Qa (Qg (QD (Qg (Qb (Qe Qa Qa (QL Qa Qa Qa (Qc Qa Qa (Qh (Qd (Qt Qa (fun h3=> ?_) (fun h3=> ?_))))))))))))))))))
 ·refine Qg (Qb (Qc Qa Qa (Qh (Qd (Qo (Qy (Qm (Q5 (.inr Qa) Qa Qa ?_))))))))
  exact⟨_,rfl,congrArg intV (by unfold JO;simp_all),hS2.pick [1,0,2] Qa⟩
 refine Qg (Qb (Qe Qa Qa (QL Qa Qa Qa (Qc Qa Qa (Qh (Qd (Qk [4,5,6,7,8,22] Qa (Qt Qa (fun h4=> ?_) (fun h4=> ?_)))))))))
 ·refine Qg (Qb (Qc Qa Qa (Qh (Qd (Qo (Qy (Qm (Q5 (.inr Qa) Qa Qa ?_))))))))
  exact⟨_,rfl,congrArg intV (by unfold JO;simp_all),hS2.pick [1,0,2] Qa⟩
 refine Qg (Qb (Qe Qa Qa (Qe Qa Qa (QL Qa Qa Qa (Qe Qa Qa (Q4 29 Qa (fun h5=> ?_) (fun h5=> ?_)))))))
 ·refine Qj Qa Qa (Q8 h5) (Qe Qa Qa (Qj Qa Qa (Q8 h5) (QL Qa Qa Qa (Q0 Qa (Q8 h5) Qa Qa (Qe Qa Qa (Q4 33 Qa (fun h6=> ?_) (fun h6=> ?_)))))))
  ·refine Qj Qa Qa (Q8 h6) (Qe Qa Qa (Qj Qa Qa (Q8 h6) (QL Qa Qa Qa (Q0 Qa (Q8 h6) Qa Qa (Qc Qa Qa (Qh (Qd (Qk [4,5,6,7,8,25] Qa (Qt Qa (fun h7=> ?_) (fun h7=> ?_))))))))))
   ·refine Qg (Qb (Qc Qa Qa (Qh (Qd (Qo (Qy (Qm (Q5 (.inr Qa) Qa Qa ?_))))))))
    exact⟨_,rfl,congrArg intV (by unfold JO;simp_all),hS2.pick [1,0,2] Qa⟩
   refine Qg (Qb (Qe Qa Qa (Qe Qa Qa (QL Qa Qa Qa (Qe Qa Qa (Q4 41 Qa (fun h8=> ?_) (fun h8=> ?_)))))))
   ·refine Qj Qa Qa (Q8 h8) (Qe Qa Qa (Qj Qa Qa (Q8 h8) (QL Qa Qa Qa (Q0 Qa (Q8 h8) Qa Qa (Qe Qa Qa (Q4 45 Qa (fun h9=> ?_) (fun h9=> ?_)))))))
    ·refine Qj Qa Qa (Q8 h9) (Qe Qa Qa (Qj Qa Qa (Q8 h9) (QL Qa Qa Qa (Q0 Qa (Q8 h9) Qa Qa (Qc Qa Qa (Qh (Qd (Qk [4,37] Qa (Qt Qa (fun h10=> ?_) (fun h10=> ?_))))))))))
     ·refine Qg (Qb (Qc Qa Qa (Qh (Qd (Qo (Qy (Qm (Q5 (.inr Qa) Qa Qa ?_))))))))
      exact⟨_,rfl,congrArg intV (by unfold JO;simp_all),hS2.pick [1,0,2] Qa⟩
     refine Qr (Qp (Qd (Qg (Qb (Qc Qa Qa (Qh (Qd (Qo (Q5 (.inr Qa) Qa Qa ?_)))))))))
     exact⟨_,rfl,congrArg intV (by unfold JO;simp_all),hS2.pick [1,0,2] Qa⟩
    refine Qf Qa Qa (Qw h9) Qa (Qf Qa Qa (Qw h9) Qa (Q1 Qa (Qw h9) Qa Qa (Qc Qa Qa (Qh (Qd (Qk [4,37] Qa (QI Qa (Qr (Qp (Qd (Qg (Qb (Qc Qa Qa (Qh (Qd (Qo (Q5 (.inr Qa) Qa Qa ?_)))))))))))))))))
    exact⟨_,rfl,congrArg intV (by unfold JO;simp_all),hS2.pick [1,0,2] Qa⟩
   refine Qf Qa Qa (Qw h8) Qa (Qf Qa Qa (Qw h8) Qa (Q1 Qa (Qw h8) Qa Qa (Qe Qa Qa (Qf Qa Qa Qa Qa (Qf Qa Qa Qa Qa (Q1 Qa Qa Qa Qa (Qc Qa Qa (Qh (Qd (Qk [4,37] Qa (QI Qa (Qr (Qp (Qd (Qg (Qb (Qc Qa Qa (Qh (Qd (Qo (Q5 (.inr Qa) Qa Qa ?_)))))))))))))))))))))
   exact⟨_,rfl,congrArg intV (by unfold JO;simp_all),hS2.pick [1,0,2] Qa⟩
  refine Qf Qa Qa (Qw h6) Qa (Qf Qa Qa (Qw h6) Qa (Q1 Qa (Qw h6) Qa Qa (Qc Qa Qa (Qh (Qd (Qk [4,5,6,7,8,25] Qa (QI Qa (Qg (Qb (Qe Qa Qa (Qe Qa Qa (QL Qa Qa Qa (Qe Qa Qa (Q4 41 Qa (fun h11=> ?_) (fun h11=> ?_)))))))))))))))
  ·refine Qj Qa Qa (Q8 h11) (Qe Qa Qa (Qj Qa Qa (Q8 h11) (QL Qa Qa Qa (Q0 Qa (Q8 h11) Qa Qa (Qe Qa Qa (Q4 45 Qa (fun h12=> ?_) (fun h12=> ?_)))))))
   ·refine Qj Qa Qa (Q8 h12) (Qe Qa Qa (Qj Qa Qa (Q8 h12) (QL Qa Qa Qa (Q0 Qa (Q8 h12) Qa Qa (Qc Qa Qa (Qh (Qd (Qk [4,37] Qa (Qt Qa (fun h13=> ?_) (fun h13=> ?_))))))))))
    ·refine Qg (Qb (Qc Qa Qa (Qh (Qd (Qo (Qy (Qm (Q5 (.inr Qa) Qa Qa ?_))))))))
     exact⟨_,rfl,congrArg intV (by unfold JO;simp_all),hS2.pick [1,0,2] Qa⟩
    refine Qr (Qp (Qd (Qg (Qb (Qc Qa Qa (Qh (Qd (Qo (Q5 (.inr Qa) Qa Qa ?_)))))))))
    exact⟨_,rfl,congrArg intV (by unfold JO;simp_all),hS2.pick [1,0,2] Qa⟩
   refine Qf Qa Qa (Qw h12) Qa (Qf Qa Qa (Qw h12) Qa (Q1 Qa (Qw h12) Qa Qa (Qc Qa Qa (Qh (Qd (Qk [4,37] Qa (QI Qa (Qr (Qp (Qd (Qg (Qb (Qc Qa Qa (Qh (Qd (Qo (Q5 (.inr Qa) Qa Qa ?_)))))))))))))))))
   exact⟨_,rfl,congrArg intV (by unfold JO;simp_all),hS2.pick [1,0,2] Qa⟩
  refine Qf Qa Qa (Qw h11) Qa (Qf Qa Qa (Qw h11) Qa (Q1 Qa (Qw h11) Qa Qa (Qe Qa Qa (Qf Qa Qa Qa Qa (Qf Qa Qa Qa Qa (Q1 Qa Qa Qa Qa (Qc Qa Qa (Qh (Qd (Qk [4,37] Qa (QI Qa (Qr (Qp (Qd (Qg (Qb (Qc Qa Qa (Qh (Qd (Qo (Q5 (.inr Qa) Qa Qa ?_)))))))))))))))))))))
  exact⟨_,rfl,congrArg intV (by unfold JO;simp_all),hS2.pick [1,0,2] Qa⟩
 refine Qf Qa Qa (Qw h5) Qa (Qf Qa Qa (Qw h5) Qa (Q1 Qa (Qw h5) Qa Qa (Qe Qa Qa (Qf Qa Qa Qa Qa (Qf Qa Qa Qa Qa (Q1 Qa Qa Qa Qa (Qc Qa Qa (Qh (Qd (Qk [4,5,6,7,8,25] Qa (QI Qa (Qg (Qb (Qe Qa Qa (Qe Qa Qa (QL Qa Qa Qa (Qe Qa Qa (Q4 41 Qa (fun h14=> ?_) (fun h14=> ?_)))))))))))))))))))
 ·refine Qj Qa Qa (Q8 h14) (Qe Qa Qa (Qj Qa Qa (Q8 h14) (QL Qa Qa Qa (Q0 Qa (Q8 h14) Qa Qa (Qe Qa Qa (Q4 45 Qa (fun h15=> ?_) (fun h15=> ?_)))))))
  ·refine Qj Qa Qa (Q8 h15) (Qe Qa Qa (Qj Qa Qa (Q8 h15) (QL Qa Qa Qa (Q0 Qa (Q8 h15) Qa Qa (Qc Qa Qa (Qh (Qd (Qk [4,37] Qa (Qt Qa (fun h16=> ?_) (fun h16=> ?_))))))))))
   ·refine Qg (Qb (Qc Qa Qa (Qh (Qd (Qo (Qy (Qm (Q5 (.inr Qa) Qa Qa ?_))))))))
    exact⟨_,rfl,congrArg intV (by unfold JO;simp_all),hS2.pick [1,0,2] Qa⟩
   refine Qr (Qp (Qd (Qg (Qb (Qc Qa Qa (Qh (Qd (Qo (Q5 (.inr Qa) Qa Qa ?_)))))))))
   exact⟨_,rfl,congrArg intV (by unfold JO;simp_all),hS2.pick [1,0,2] Qa⟩
  refine Qf Qa Qa (Qw h15) Qa (Qf Qa Qa (Qw h15) Qa (Q1 Qa (Qw h15) Qa Qa (Qc Qa Qa (Qh (Qd (Qk [4,37] Qa (QI Qa (Qr (Qp (Qd (Qg (Qb (Qc Qa Qa (Qh (Qd (Qo (Q5 (.inr Qa) Qa Qa ?_)))))))))))))))))
  exact⟨_,rfl,congrArg intV (by unfold JO;simp_all),hS2.pick [1,0,2] Qa⟩
 refine Qf Qa Qa (Qw h14) Qa (Qf Qa Qa (Qw h14) Qa (Q1 Qa (Qw h14) Qa Qa (Qe Qa Qa (Qf Qa Qa Qa Qa (Qf Qa Qa Qa Qa (Q1 Qa Qa Qa Qa (Qc Qa Qa (Qh (Qd (Qk [4,37] Qa (QI Qa (Qr (Qp (Qd (Qg (Qb (Qc Qa Qa (Qh (Qd (Qo (Q5 (.inr Qa) Qa Qa ?_)))))))))))))))))))))
 exact⟨_,rfl,congrArg intV (by unfold JO;simp_all),hS2.pick [1,0,2] Qa⟩
theorem Bu {w:World} {e:Nat} {E:EnD} {F:Th} (hS:Sat w [Xu e E,F]):
    Calls prog 31 #[ptrV e 0] w (Ret fun v w'=>v=intV (Wa E).1∧Sat w' [Xu e (Wa E).2,F]):= by
 refine Qx func31 Qa ntmps31 Qa ?_
 refine Qg (Qb (Qc Qa Qa (Qh (Qd (Qg (Qg (Qb (Qe Qa Qa (Qz Uz Qa (YW (hS.sp [0] Qa)) Qa ?_)))))))))
 rintro _ w1 ⟨rfl,hS1⟩
 replace hS1:=hS1.jn Qa Qa
 obtain⟨dp,cv,sv,ov,hS2⟩:=QQ (hS1.pick [0,1] rfl)
 refine XL Qa Qa (Qe Qa Qa (Z4 6 Qa (fun h3=> ?_) (fun h3=> ?_)))
 ·refine Qf Qa Qa h3 Qa (Qf Qa Qa h3 Qa (Qf Qa Qa h3 Qa (Qf Qa Qa h3 Qa (Qf Qa Qa h3 Qa (Q0 Qa h3 Qa Qa (Qh (Qd (Qk [0,2,12] Qa (QO Qa (Qg (Qb (Qc Qa Qa (Qh (Qd (Qo (Qm (Q5 (.inr Qa) Qa Qa ?_)))))))))))))))))
  exact⟨_,rfl, by unfold Wa; rw[if_pos (by simp_all)], by unfold Wa; rw[if_pos (by simp_all)]; exact Qv (E:=E) ((hS2.pick [0,1,2,3,4,5] Qa))⟩
 refine Qj Qa Qa h3 (Qe Qa Qa (Qj Qa Qa h3 (Ql Qa Qa (Qj Qa Qa h3 (Qi Qa Zc Qa (Qj Qa Qa h3 (Qq Qa JG (hS2.cell 0 Qa Qa) Qa (Qj Qa Qa h3 (XL Qa Qa (Q1 Qa h3 Qa Qa (Qh (Qd (Qk [0,2,12] Qa (Xb Qa (fun h4=> ?_) (fun h4=> ?_)))))))))))))))
 ·refine Qg (Qb (Qc Qa Qa (Qh (Qd (Qo (Qm (Q5 (.inr Qa) Qa Qa ?_)))))))
  exact⟨_,rfl, by unfold Wa; rw[if_pos (by simp_all)], by unfold Wa; rw[if_pos (by simp_all)]; exact Qv (E:=E) ((hS2.pick [0,1,2,3,4,5] Qa))⟩
 refine Qr (Qd (Qg (Qb (Qe Qa Qa (Ql Qa Qa (Qi Qa WU Qa ?_))))))
 first | (refine Q7 hS2 Qa Qa Jd (by rfl) (i:=0) Qa (Xd Qa) ?_)
 intro w5 hS6; dsimp only[List.set]at hS6
 refine Qh (Qd (Qg (Qb (Qc Qa Qa (Qh (Qd (Qo (Q5 (.inr Qa) Qa Qa ?_))))))))
 exact⟨_,rfl, by unfold Wa; rw[if_neg (by simp_all)], by unfold Wa; rw[if_neg (by simp_all)]; exact Qv (E:={E with frozen:=true}) ((hS6.pick [0,1,2,3,4,5] Qa))⟩
theorem Cb {w:World} {e:Nat} {E:EnD} {F:Th} (hS:Sat w [Xu e E,F]):
    Calls prog 21 #[ptrV e 0] w (Ret fun v w'=>v=intV (W6 E).1∧Sat w' [Xu e (W6 E).2,F]):= by
 refine Qx func21 Qa ntmps21 Qa ?_
 refine Qg (Qb (Qc Qa Qa (Qh (Qd (Qg (Qg (Qb (Qe Qa Qa (Qz I6 Qa (Ld (hS.sp [0] Qa)) Qa ?_)))))))))
 rintro _ w1 ⟨rfl,hS1⟩
 replace hS1:=hS1.jn Qa Qa
 obtain⟨dp,cv,sv,ov,hS2⟩:=QQ (hS1.pick [0,1] rfl)
 refine XL Qa Qa (Qe Qa Qa (Z4 6 Qa (fun h3=> ?_) (fun h3=> ?_)))
 ·refine Qf Qa Qa h3 Qa (Qf Qa Qa h3 Qa (Qf Qa Qa h3 Qa (Qf Qa Qa h3 Qa (Qf Qa Qa h3 Qa (Q0 Qa h3 Qa Qa (Qh (Qd (Qk [0,2,12] Qa (QO Qa (Qg (Qb (Qc Qa Qa (Qh (Qd (Qo (Qm (Q5 (.inr Qa) Qa Qa ?_)))))))))))))))))
  exact⟨_,rfl, by unfold W6; rw[if_pos (by simp_all)], by unfold W6; rw[if_pos (by simp_all)]; exact Qv (E:=E) ((hS2.pick [0,1,2,3,4,5] Qa))⟩
 refine Qj Qa Qa h3 (Qe Qa Qa (Qj Qa Qa h3 (Ql Qa Qa (Qj Qa Qa h3 (Qi Qa Zc Qa (Qj Qa Qa h3 (Qq Qa JG (hS2.cell 0 Qa Qa) Qa (Qj Qa Qa h3 (XL Qa Qa (Q1 Qa h3 Qa Qa (Qh (Qd (Qk [0,2,12] Qa (Xb Qa (fun h4=> ?_) (fun h4=> ?_)))))))))))))))
 ·refine Qg (Qb (Qc Qa Qa (Qh (Qd (Qo (Qm (Q5 (.inr Qa) Qa Qa ?_)))))))
  exact⟨_,rfl, by unfold W6; rw[if_pos (by simp_all)], by unfold W6; rw[if_pos (by simp_all)]; exact Qv (E:=E) ((hS2.pick [0,1,2,3,4,5] Qa))⟩
 refine Qr (Qd (Qg (Qb (Qe Qa Qa (Qe Qa Qa (Ql Qa Qa (Qi Qa Zc Qa ?_)))))))
 first | (refine Q7 hS2 Qa Qa Jd (by rfl) (i:=0) Qa (Xd Qa) ?_)
 intro w5 hS6; dsimp only[List.set]at hS6
 refine Ql Qa Qa (Qi Qa WU Qa ?_)
 first | (refine Q7 hS6 Qa Qa Jd (by rfl) (i:=0) Qa (Xd Qa) ?_)
 intro w7 hS8; dsimp only[List.set]at hS8
 refine Qh (Qd (Qg (Qb (Qc Qa Qa (Qh (Qd (Qo (Q5 (.inr Qa) Qa Qa ?_))))))))
 exact⟨_,rfl, by unfold W6; rw[if_neg (by simp_all)], by unfold W6; rw[if_neg (by simp_all)]; exact Qv (E:={E with active:=false,frozen:=false}) ((hS8.pick [0,1,2,3,4,5] Qa))⟩
section
variable {E:EnD}
theorem NR (hC:E.cell=none) (h:ZC (X1 E.D) 0≠0):Wg E=(ZC (X1 E.D) 0,{E with D:=XD (X1 E.D) 0,cell:=none}):= by
  unfold Wg; rw[if_neg (by unfold upE; rw[hC]; simp),if_pos h]; cases E; dsimp only at hC; subst hC;rfl
theorem NQ (hC:E.cell=none) (h:ZC (X1 E.D) 0=0) (h2:W3 (XD (X1 E.D) 0) 0≠0):Wg E=(W3 (XD (X1 E.D) 0) 0,{E with D:=XD (X1 E.D) 0,cell:=none}):= by
  unfold Wg; rw[if_neg (by unfold upE; rw[hC]; simp),if_neg (by omega),if_pos h2]; cases E; dsimp only at hC; subst hC;rfl
theorem NP (hC:E.cell=none) (h:ZC (X1 E.D) 0=0) (h2:W3 (XD (X1 E.D) 0) 0=0):Wg E=(0,{E with D:=XD (X1 E.D) 0,cell:=some (J3 (XD (X1 E.D) 0) 0),kind:=(Hr (J3 (XD (X1 E.D) 0) 0).val).1,move:=(Hr (J3 (XD (X1 E.D) 0) 0).val).2}):= by
  unfold Wg; rw[if_neg (by unfold upE; rw[hC]; simp),if_neg (by omega),if_neg (by omega)]
end
theorem KT {w:World} {e:Nat} {E:EnD} {F:Th} (hS:Sat w [Xu e E,F]) (hG:Ent F WireG) (hO:Ent F (Glob 0)):
    Calls prog 19 #[ptrV e 0] w (Ret fun v w'=>v=intV (Wg E).1∧Sat w' [Xu e (Wg E).2,F]):= by
 refine Qx func19 Qa ntmps19 Qa ?_
 refine Qg (Qb (Qc Qa Qa (Qh (Qd (Qg (Qg (Qb (Qe Qa Qa (Qz RI Qa (DJ (hS.sp [0] Qa)) Qa ?_)))))))))
 rintro _ w1 ⟨rfl,hS1⟩
 replace hS1:=hS1.jn Qa Qa
 refine Qh (Qd (Xb Qa (fun h2=> ?_) (fun h2=> ?_)))
 ·have hU:upE E=true:= by simpa using h2
  refine Qg (Qb (Qc Qa Qa (Qh (Qd (Qo (Qm (Q5 (.inr Qa) Qa Qa ?_)))))))
  exact⟨_,rfl, by unfold Wg; rw[if_pos hU], by unfold Wg; rw[if_pos hU]; exact hS1.pick [0,1] Qa⟩
 have hC:E.cell=none:= by have h0:=h2; cases q:E.cell<;>simp_all [upE]
 refine Qr (Qd (Qg ?_))
 obtain⟨dp,cv,sv,ov,hS3⟩:=QQ (hS1.pick [0,1] rfl)
 rw[hC]at hS3
 obtain⟨rfl,hS4⟩:=MR (dp:=dp) (hS3.pick [2,0,1,3,4,5] rfl)
 refine Qb (Qe Qa Qa (Ql Qa Qa (Qi Qa HZ Qa (Qq Qa U2 (hS4.cell 0 Qa Qa) Qa (Qz I8 Qa (startT (hS4.sp [1] Qa)) Qa ?_)))))
 rintro _ w5 ⟨rfl,hS5⟩
 replace hS5:=hS5.jn Qa Qa
 refine Qh (Qd (Qg (Qg (Qb (Qe Qa Qa (Ql Qa Qa (Qi Qa HZ Qa (Qq Qa U2 (hS5.cell 1 Qa Qa) Qa (Qz Nr Qa (FT (hS5.sp [0] Qa) 0) Qa ?_)))))))))
 rintro _ w6 ⟨rfl,hS6⟩
 replace hS6:=hS6.jn Qa Qa
 refine Qc Qa Qa (Qh (Qd (Qk [0,2,3] Qa (Qg (Qb (Qe Qa Qa (Xr Qa Qa Qa (Qh (Qd (Qt Qa (fun h7=> ?_) (fun h7=> ?_)))))))))))
 ·have hs1:ZC (X1 E.D) 0≠0:=h7
  refine Qg (Qb (Qe Qa Qa (Qc Qa Qa (Qh (Qd (Qo (Qm (Q5 (.inr Qa) Qa Qa ?_))))))))
  exact⟨_,rfl, by rw[NR hC hs1], by rw[NR hC hs1]; exact Qv (E:={E with D:=(XD (X1 E.D) 0),cell:=none}) (dp:=dp) ((Rd (dp:=dp) (hS6.pick [1,0,2,3,4] Qa)).reorder [1,2,0,3,4,5] Qa)⟩
 have hs0:ZC (X1 E.D) 0=0:=Decidable.not_not.1 h7
 refine Qr (Qd (Qg (Qb (Qe Qa Qa (Ql Qa Qa (Qi Qa HZ Qa (Qq Qa U2 (hS6.cell 1 Qa Qa) Qa (Hw F9 Qa (Le (hS6.sp [0] Qa) (hO.starL 3 Qa) 0) Qa ?_))))))))
 rintro e w8 ⟨_,rfl,(⟨ho,cp,rfl,hS8⟩ | ⟨ho,rfl,hS8⟩)⟩
 ·refine⟨_,Qa, ?_⟩
  replace hS8:=hS8.jn Qa Qa
  refine Qe Qa Qa (Q6 Qa Qa Qa (Q6 Qa Qa Qa (Qc Qa Qa (Qc Qa Qa (Qh (Qd (Qk [0,2,4,5] Qa (Qg (Qg (Qb (Qe Qa Qa (Xr Qa Qa Qa (Qh (Qd (Qt Qa (fun h9=> ?_) (fun h9=> ?_))))))))))))))))
  ·exact absurd Qa h9
  refine Qr (Qd (Qg (Qb (Qe Qa Qa (Qe Qa Qa (Ql Qa Qa (Qi Qa Dv Qa ?_)))))))
  (refine Q7 hS8 Qa Qa sz_77 (by rfl) (i:=2) Qa (Xd Qa) ?_)
  intro w10 hS11; dsimp only[List.set]at hS11
  refine Qh (Qd (Qg (Qb (Qe Qa Qa (Qe Qa Qa (Qe Qa Qa (Qz I7 Qa (Po (hS11.sp [0] Qa) (hG.starL 4 Qa) (KE _ _).2) Qa ?_)))))))
  rintro _ w12 ⟨rfl,hS12⟩
  replace hS12:=hS12.jn Qa Qa
  refine Qe Qa Qa (Q6 Qa Qa Qa (Q6 Qa Qa Qa (Ql Qa Qa (Qi Qa Zv Qa ?_))))
  (refine Q7 hS12 Qa Qa Ya (by rfl) (i:=2) Qa (Xd Qa) ?_)
  intro w13 hS14; dsimp only[List.set]at hS14
  refine Ql Qa Qa (Qi Qa W5 Qa ?_)
  (refine Q7 hS14 Qa Qa Ya (by rfl) (i:=2) Qa (Xd Qa) ?_)
  intro w15 hS16; dsimp only[List.set]at hS16
  refine Qh (Qd (Qk [2] Qa (Qg (Qb (Qc Qa Qa (Qh (Qd (Qo (Q5 (.inr Qa) Qa Qa ?_)))))))))
  exact⟨_,rfl, by rw[NP hC hs0 ho], by rw[NP hC hs0 ho]; exact Qv (E:={E with D:=(XD (X1 E.D) 0),cell:=some (J3 (XD (X1 E.D) 0) 0),kind:=(Hr (J3 (XD (X1 E.D) 0) 0).val).1,move:=(Hr (J3 (XD (X1 E.D) 0) 0).val).2}) (dp:=dp) ((Uw (KE _ _) (hS16.pick [0,2,1,3,4,5] Qa)).reorder [1,2,0,3,4,5] Qa)⟩
 refine⟨_,Qa, ?_⟩
 replace hS8:=hS8.jn Qa Qa
 refine Qe Qa Qa (Q6 Qa Qa Qa (Q6 Qa Qa Qa (Qc Qa Qa (Qc Qa Qa (Qh (Qd (Qk [0,2,4,5] Qa (Qg (Qg (Qb (Qe Qa Qa (Xr Qa Qa Qa (Qh (Qd (Qt Qa (fun h17=> ?_) (fun h17=> ?_))))))))))))))))
 ·refine Qg (Qb (Qe Qa Qa (Qc Qa Qa (Qh (Qd (Qo (Qm (Q5 (.inr Qa) Qa Qa ?_))))))))
  exact⟨_,rfl, by rw[NQ hC hs0 ho], by rw[NQ hC hs0 ho]; exact Qv (E:={E with D:=(XD (X1 E.D) 0),cell:=none}) (dp:=dp) ((Rd (dp:=dp) (hS8.pick [1,0,2,3,4] Qa)).reorder [1,2,0,3,4,5] Qa)⟩
 exact absurd ho h17
theorem Bk:W3 newD 0=0∧J3 newD 0=RB 0:= by
  obtain⟨a,b,_⟩:=Good.begin (f:=0) (P:= fun _ _=>True) (by decide) trivial
  exact⟨a,b⟩
theorem D0 {w:World} {F:Th} (hS:Sat w [F]) (hO:Ent F (Glob 0)):
    Calls prog 34 #[] w (Ret fun v w'=> ∃e,v=ptrV e 0∧Sat w' [Xu e YQ,F]):= by
 refine Qx func34 Qa ntmps34 Qa ?_
 refine Qg (Qb (Qc Qa Qa (Qh (Qd (Qg (Qb (Qz cal_63 Qa (new_sp (hS.sp [] Qa)) Qa ?_)))))))
 rintro _ w1 ⟨dp,rfl,hS1⟩
 replace hS1:=hS1.jn Qa Qa
 replace hS1:=dT_new hS1
 refine JB (vs':=[ptrV dp 0,.pointer none,intV 0,intV 0,.pointer none,.bool false,.bool false,intV 0,.bool false,.pointer none]) Qa La IP zr_81 Qa Qa Qa (XT hS1 Qa Qa Qa ?_)
 intro ep w2 hS2
 refine Qc Qa Qa (Qh (Qd (Qg (Qb (Qe Qa Qa (Qe Qa Qa (Ql Qa Qa (Qi Qa HZ Qa (Qq Qa U2 (hS2.cell 0 Qa Qa) Qa (Hw F9 Qa (Le (hS2.sp [1] Qa) (hO.starL 1 Qa) 0) Qa ?_))))))))))
 rintro e w3 ⟨_,rfl,(⟨ho,cp,rfl,hS3⟩ | ⟨ho,rfl,hS3⟩)⟩
 ·refine⟨_,Qa, ?_⟩
  replace hS3:=hS3.jn Qa Qa
  rw[Bk.2]at hS3
  refine Qe Qa Qa (Q6 Qa Qa Qa (Q6 Qa Qa Qa (Ql Qa Qa (Qi Qa Dv Qa ?_))))
  (refine Q7 hS3 Qa Qa sz_77 (by rfl) (i:=2) Qa (Xd Qa) ?_)
  intro w4 hS5; dsimp only[List.set]at hS5
  refine Qh (Qd (Qk [0,1] Qa (Qg (Qb (Qe Qa Qa (Qc Qa Qa (Qh (Qd (Qo (Q5 (.inr Qa) Qa Qa ?_))))))))))
  exact⟨_,rfl,ep,rfl,Qv (E:=YQ) (dp:=dp) ((Uw (C:=RB 0) (by rw[←Bk.2]; exact KE _ _) (ZQ (Wd (hS5.pick [0,2,1,3] Qa)) |>.reorder [2,3,4,0,1,5] Qa)).reorder [1,2,0,3,4,5] Qa)⟩
 exact absurd Bk.1 ho
structure MsOk (m:MsD):Prop where
  k:X5 m.kind
  n:X5 m.move
  a:X5 m.a
  b:X5 m.b
  d:m.data.length≤20000000
theorem Il {s:Bs} (h:s.length≤20000000):(HK s).length≤20000100:= by
  have h1:=(WT (n:=(s.length:Int)) (by unfold X5;omega)).1
  unfold HK
  simp only[List.length_append,List.length_cons,List.length_nil];omega
theorem Bl {w:World} {F:Th} (hS:Sat w [F]) (hG:Ent F WireG) {m:MsD} (hm:MsOk m):
    Calls prog 79 #[.agg #[intV m.kind,intV m.move,intV m.a,intV m.b,strV m.data]] w (Ret fun v w'=>v=strV (WQ m)∧Sat w' [F]):= by
 refine Qx func79 Qa ntmps79 Qa ?_
 have h0:=(WT hm.k).1
 have h1:=(WT hm.n).1
 have h2:=(WT hm.a).1
 have h3:=(WT hm.b).1
 have h4:=Il hm.d
 refine Qg (Qb (XT hS Qa Qa Qa ?_))
 intro bp wp hSp0
 have hSp:Sat wp [QR bp [intV m.kind,intV m.move,intV m.a,intV m.b,strV m.data],F]:=hSp0
 refine Qc Qa Qa (Qh (Qd (Qg ?_)))
 have hS1:=hSp.drew
 refine QM [0,1,3,4,7,8,11,12,15,16,2,5,6,9,10,13,14,17,18,19] [2,5,9,13,17] Wv (by kernel_rfl) ?_
 refine QN Qa Qa Qa J8 (Q9 Qa Qa Qa (Qn Qa QF (hS1.cell 0 Qa Qa)) (QN Qa Qa Qa ZB (Q9 Qa Qa Qa (Qn Qa QF (hS1.cell 0 Qa Qa)) (QN Qa Qa Qa Wr (Q9 Qa Qa Qa (Qn Qa QF (hS1.cell 0 Qa Qa)) (QN Qa Qa Qa Jw (Q9 Qa Qa Qa (Qn Qa QF (hS1.cell 0 Qa Qa)) (QN Qa Qa Qa HH (Q9 Qa Qa Qa (Qn Qa Zr (hS1.cell 0 Qa Qa)) (QS Qa Qa Qa Qa Qa Qa ?_))))))))))
 refine Qz Ux Qa (YS (hS1.sp [] Qa) (hG.starL 1 Qa) m.kind hm.k) Qa ?_
 rintro _ w2 ⟨rfl,hS2⟩
 replace hS2:=hS2.jn Qa Qa
 refine Xe (.cons (.inl ⟨rfl,(Qn Qa Zr (hS2.cell 0 Qa Qa))⟩) (.cons (.inl ⟨rfl,(Qn Qa QF (hS2.cell 0 Qa Qa))⟩) (.cons (.inl ⟨rfl,(Qn Qa QF (hS2.cell 0 Qa Qa))⟩) (.cons (.inl ⟨rfl,(Qn Qa QF (hS2.cell 0 Qa Qa))⟩) (Xp (by kernel_rfl)))))) ?_
 refine QS Qa Qa Qa Qa Qa Qa ?_
 refine Qz Ux Qa (YS (hS2.sp [] Qa) (hG.starL 1 Qa) m.move hm.n) Qa ?_
 rintro _ w3 ⟨rfl,hS3⟩
 replace hS3:=hS3.jn Qa Qa
 refine Xe (.cons (.inl ⟨rfl,(Qn Qa Zr (hS3.cell 0 Qa Qa))⟩) (.cons (.inl ⟨rfl,(Qn Qa QF (hS3.cell 0 Qa Qa))⟩) (.cons (.inl ⟨rfl,(Qn Qa QF (hS3.cell 0 Qa Qa))⟩) (Xp (by kernel_rfl))))) ?_
 refine QC Qa Qa Qa (fun _=>(YO Qa Qa (by(simp only[List.length_append,List.length_cons,List.length_nil];omega)))) ?_
 refine QS Qa Qa Qa Qa Qa Qa ?_
 refine Qz Ux Qa (YS (hS3.sp [] Qa) (hG.starL 1 Qa) m.a hm.a) Qa ?_
 rintro _ w4 ⟨rfl,hS4⟩
 replace hS4:=hS4.jn Qa Qa
 refine Xe (.cons (.inl ⟨rfl,(Qn Qa Zr (hS4.cell 0 Qa Qa))⟩) (.cons (.inl ⟨rfl,(Qn Qa QF (hS4.cell 0 Qa Qa))⟩) (Xp (by kernel_rfl)))) ?_
 refine QC Qa Qa Qa (fun _=>(YO Qa Qa (by(simp only[List.length_append,List.length_cons,List.length_nil];omega)))) ?_
 refine QS Qa Qa Qa Qa Qa Qa ?_
 refine Qz Ux Qa (YS (hS4.sp [] Qa) (hG.starL 1 Qa) m.b hm.b) Qa ?_
 rintro _ w5 ⟨rfl,hS5⟩
 replace hS5:=hS5.jn Qa Qa
 refine Xe (.cons (.inl ⟨rfl,(Qn Qa Zr (hS5.cell 0 Qa Qa))⟩) (Xp (by kernel_rfl))) ?_
 refine QC Qa Qa Qa (fun _=>(YO Qa Qa (by(simp only[List.length_append,List.length_cons,List.length_nil];omega)))) ?_
 refine QS Qa Qa Qa Qa Qa Qa ?_
 refine Qz LB Qa (ND (hS5.sp [] Qa) (hG.starL 1 Qa) m.data (by have :=hm.d;omega)) Qa ?_
 rintro _ w6 ⟨rfl,hS6⟩
 replace hS6:=hS6.jn Qa Qa
 refine Xe (Xp (by kernel_rfl)) ?_
 refine QC Qa Qa Qa (fun _=>(YO Qa Qa (by(simp only[List.length_append,List.length_cons,List.length_nil];omega)))) ?_
 exact WY Qa Qa Qa (VC.nil (Qd (Qk [2] Qa (Qo (Q5 (.inr Qa) Qa Qa (⟨_,Qa,Qa,hS6.pick [1] Qa⟩))))))
theorem WZ {w:World} {e:Nat} {E:EnD} {F:Th} (hS:Sat w [Xu e E,F]) (hG:Ent F WireG) {k a b:Int} {s:Bs} (hm:MsOk ⟨k,E.move,a,b,s⟩):
    Calls prog 64 #[ptrV e 0,intV k,intV a,intV b,strV s] w (Ret fun v w'=>v=strV (Zk E k a b s)∧Sat w' [Xu e E,F]):= by
 obtain⟨dp,cv,sv,ov,hS⟩:=QQ hS
 refine Qx func64 Qa ntmps64 Qa ?_
 refine Qg (Qb (Qc Qa Qa (Qh (Qd (Qg (Qb (Qe Qa Qa (Qe Qa Qa (Ql Qa Qa (Qi Qa W5 Qa (Qq Qa QF (hS.cell 0 Qa Qa) Qa (Qe Qa Qa (Qe Qa Qa (Qe Qa Qa (JB (vs':=[intV k,intV E.move,intV a,intV b,strV s]) Qa Vk N5 Cg Qa Qa Qa (Qz F7 Qa (Bl (hS.sp [] Qa) (hG.starL 5 Qa) (m:=⟨k,E.move,a,b,s⟩) hm) Qa ?_))))))))))))))))
 rintro _ w1 ⟨rfl,hS1⟩
 replace hS1:=hS1.jn Qa Qa
 exact Qc Qa Qa (Qh (Qd (Qk [10] Qa (Qo (Q5 (.inr Qa) Qa Qa (⟨_,Qa,Qa,Qv (E:=E) ((hS1.pick [0,1,2,3,4,5] Qa))⟩))))))
theorem BO {w:World} {e:Nat} {E:EnD} {F:Th} (hS:Sat w [Xu e E,F]) (s:Bs):
    Calls prog 46 #[ptrV e 0,strV s] w (Ret fun v w'=>v=intV (Zp E s).1∧Sat w' [Xu e (Zp E s).2,F]):= by
 refine Qx func46 Qa ntmps46 Qa ?_
 refine Qg (Qb (Qc Qa Qa (Qh (Qd (Qg (QD (Qg (Qb (Qe Qa Qa (Qz Uz Qa (YW (hS.sp [0] Qa)) Qa ?_))))))))))
 rintro _ w1 ⟨rfl,hS1⟩
 replace hS1:=hS1.jn Qa Qa
 refine XL Qa Qa (Qc Qa Qa (Qh (Qd (Xb Qa (fun h2=> ?_) (fun h2=> ?_)))))
 ·have hr:ZN E=false:= by simpa using h2
  refine Qg (Qb (Qc Qa Qa (Qh (Qd (Qo (Qy (Qm (Q5 (.inr Qa) Qa Qa ?_))))))))
  exact⟨_,rfl, by unfold Zp; rw[if_pos hr], by unfold Zp; rw[if_pos hr]; exact hS1.pick [0,1] Qa⟩
 have hrun: ¬ZN E=false:= by simpa using h2
 refine Qg (Qb (Qe Qa Qa (Zu underlying9 Qa Qa (Wl Qa Qa Qa (Qc Qa Qa (Qh (Qd (Qk [1,0,4,9] Qa (Qt Qa (fun h3=> ?_) (fun h3=> ?_))))))))))
 ·refine Qg (Qb (Qc Qa Qa (Qh (Qd (Qo (Qy (Qm (Q5 (.inr Qa) Qa Qa ?_))))))))
  exact⟨_,rfl, by unfold Zp; rw[if_neg hrun,if_pos (by omega)], by unfold Zp; rw[if_neg hrun,if_pos (by omega)]; exact hS1.pick [0,1] Qa⟩
 refine Qr (Qp (Qd (Qg ?_)))
 obtain⟨dp,cv,sv,ov,hS4⟩:=QQ (hS1.pick [0,1] rfl)
 obtain⟨x,hx⟩: ∃x,E.ses=some x:=(Yb hrun).2.2.2
 rw[hx]at hS4
 obtain⟨sb,sm,rfl,hS5⟩:=Zj (hS4.pick [3,0,1,2,4,5] rfl)
 refine Qb (Qe Qa Qa (Ql Qa Qa (Qi Qa Xo Qa (Qq Qa Z3 (hS5.cell 2 Qa Qa) Qa (Qe Qa Qa (Ql Qa Qa (Qi Qa Gs Qa ?_)))))))
 (refine Q7 hS5 Qa Qa R2 (by rfl) (i:=0) Qa (Xd Qa) ?_)
 intro w6 hS7; dsimp only[List.set]at hS7
 refine Qh (Qd (Qk [4] Qa (Qg (Qb (Qc Qa Qa (Qh (Qd (Qo (Q5 (.inr Qa) Qa Qa ?_)))))))))
 exact⟨_,rfl, by unfold Zp; rw[if_neg hrun,if_neg (by omega)], by unfold Zp; rw[if_neg hrun,if_neg (by omega),hx]; exact Qv (E:={E with ses:=some {x with state:=s}}) ((Xf (s:={x with state:=s}) (hS7.pick [0,1,2,3,4,5,6] Qa)).reorder [1,2,3,0,4,5] Qa)⟩
theorem Ac {w:World} {e:Nat} {E:EnD} {F:Th} (hS:Sat w [Xu e E,F]):
    Calls prog 23 #[ptrV e 0] w (Ret fun v w'=>v= .tuple #[strV (match E.ses with | some s=>s.state | none=>[]),.bool E.ses.isSome]∧Sat w' [Xu e E,F]):= by
 obtain⟨dp,cv,sv,ov,hS⟩:=QQ hS
 refine Qx func23 Qa ntmps23 Qa ?_
 refine Qg (Qb (Qc Qa Qa (Qc Qa Qa (Qh (Qd (Qg (Qg (Qb (Qe Qa Qa (Ql Qa Qa (Qi Qa Xo Qa (Qq Qa Z3 (hS.cell 0 Qa Qa) Qa ?_))))))))))))
 rcases hq_s:E.ses with _ | s
 ·rw[hq_s]at hS
  obtain⟨rfl,hSo1⟩:=WN (hS.pick [3,0,1,2,4,5] rfl)
  refine ZM underlying78 Qa Qa Qa (Qh (Qd (QO Qa (Qg (Qb (Qc Qa Qa (Qc Qa Qa (Qh (Qd (Qo (Qm (ZG (.inr Qa) Qa Qa Qa ?_))))))))))))
  exact⟨_,rfl,rfl,Qv (E:=E) (by rw[hq_s]; exact((ZQ hSo1).pick [1,2,3,0,4,5] Qa))⟩
 rw[hq_s]at hS
 obtain⟨sb,sm,rfl,hSo2⟩:=Zj (hS.pick [3,0,1,2,4,5] rfl)
 refine ZH underlying78 Qa Qa Qa (Qh (Qd (QI Qa (Qr (Qd (Qg (Qb (Qe Qa Qa (Ql Qa Qa (Qi Qa Xo Qa (Qq Qa Z3 (hSo2.cell 2 Qa Qa) Qa (Ql Qa Qa (Qi Qa Gs Qa (Qq Qa Zr (hSo2.cell 0 Qa Qa) Qa (Qc Qa Qa (Qc Qa Qa (Qh (Qd (Qk [2,3] Qa (Qo (ZG (.inr Qa) Qa Qa Qa ?_)))))))))))))))))))))
 exact⟨_,rfl,rfl,Qv (E:=E) (by rw[hq_s]; exact((Xf (hSo2.pick [0,1,2,3,4,5,6] Qa)).pick [1,2,3,0,4,5] Qa))⟩
def Z2:RowC Bytes:=⟨fun s=>[strV s],1, by decide, fun _=>rfl, fun _=>rfl⟩
theorem Yo {k n:Int} (hk:X5 k) (hn:X5 n):MsOk ⟨k,n,0,0,[]⟩:=⟨hk,hn, by unfold X5; dsimp only;omega, by unfold X5; dsimp only;omega, by show([]:Bs).length≤_; simp⟩
theorem XM {k:Int} (h:0≤k∧k≤9):X5 k:= by unfold X5;omega
theorem EO {w:World} {e:Nat} {E:EnD} {F:Th} (hS:Sat w [Xu e E,F]) (m:MsD):
    Calls prog 78 #[ptrV e 0,.agg #[intV m.kind,intV m.move,intV m.a,intV m.b,strV m.data]] w (Ret fun v w'=>Sat w' [rowT Z2 v ((Jo E m,([]:List Bs))).2,Xu e ((Jo E m,([]:List Bs))).1,F]):= by
 obtain⟨dp,cv,sv,ov,hS⟩:=QQ hS
 refine Qx func78 Qa ntmps78 Qa ?_
 refine Qg (Qb (XT hS Qa Qa Qa ?_))
 intro mp w1 hS1
 replace hS1:Sat w1 (QR mp [intV m.kind,intV m.move,intV m.a,intV m.b,strV m.data]::_):=hS1
 refine Qc Qa Qa (Qh (Qd (Qg (Qg ?_))))
 have hS2:=hS1.drew
 refine QM [0,1,2,3,4,5,6,7,8,9,10,11,12,13] [] Wv (by kernel_rfl) ?_
 refine QK Qa Qa Qa (Xm Qa Qa Qa (QN Qa Qa Qa Zv (Q9 Qa Qa Qa (Qn Qa QF (hS2.cell 1 Qa Qa)) (QC Qa Qa Qa (fun _=>(HO Qa Qa)) ?_))))
 refine QK Qa Qa Qa (Z1 10 Qa (fun h3=> ?_) (fun h3=> ?_))
 ·refine QC Qa Qa (Qs Qa Qa (Q8 h3)) (fun _=>(Ev.gd (QV Qa ZB))) ?_
  refine Q9 Qa Qa (Qs Qa Qa (Q8 h3)) (Ev.gd (Qn Qa QF (hS2.cell 0 Qa Qa))) (QC Qa Qa (Qs Qa Qa (Q8 h3)) (fun _=>(Ev.gd (Xt Qa))) ?_)
  refine QC Qa Qa (Qs Qa Qa (Q8 h3)) (fun _=>(Ev.gd (XC Qa))) ?_
  refine QC Qa Qa (Qs Qa Qa (Q8 h3)) (fun _=>(Ev.gd (QV Qa W5))) ?_
  refine Q9 Qa Qa (Qs Qa Qa (Q8 h3)) (Ev.gd (Qn Qa QF (hS2.cell 1 Qa Qa))) (QC Qa Qa (Qs Qa Qa (Q8 h3)) (fun _=>(Ev.gd (HO Qa Qa))) ?_)
  refine QC Qa Qa Qa (fun _=>(XG Qa (Q8 h3) Qa)) ?_
  refine VC.nil (Qd (Qk [0,4,18] Qa (Qt Qa (fun h4=> ?_) (fun h4=> ?_))))
  ·refine Qb (Qe Qa Qa (Ql Qa Qa (Qi Qa HY Qa ?_)))
   (refine Q7 hS2 Qa Qa Jd (by rfl) (i:=1) Qa (Xd Qa) ?_)
   intro w5 hS6; dsimp only[List.set]at hS6
   refine Qh (Qd (Qg (Qb (Qc Qa Qa (Qh (Qd (Qo (Q5 (.inr Qa) Qa Qa ?_))))))))
   exact⟨_,rfl, by unfold Jo; rw[if_pos (by simp_all)]; exact(Sat.row_nil Z2 (Qv (E:={E with told:=true}) ((hS6.pick [1,2,3,4,5,6] Qa))))⟩
  refine Qr (Qd (Qg (Qb (Qc Qa Qa (Qh (Qd (Qo (Q5 (.inr Qa) Qa Qa ?_))))))))
  exact⟨_,rfl, by unfold Jo; rw[if_neg (by simp_all)]; exact(Sat.row_nil Z2 (Qv (E:=E) ((hS2.pick [1,2,3,4,5,6] Qa))))⟩
 refine Q3 Qa Qa (Qu Qa Qa (Qw h3)) (Q3 Qa Qa (Qu Qa Qa (Qw h3)) (Q3 Qa Qa (Qu Qa Qa (Qw h3)) (Q3 Qa Qa (Qu Qa Qa (Qw h3)) (Q3 Qa Qa (Qu Qa Qa (Qw h3)) (Q3 Qa Qa (Qu Qa Qa (Qw h3)) (Q3 Qa Qa (Qu Qa Qa (Qw h3)) (QC Qa Qa Qa (fun _=>(Xz Qa (Qw h3) Qa)) ?_)))))))
 refine VC.nil (Qd (Qk [0,4,18] Qa (QI Qa (Qr (Qd (Qg (Qb (Qc Qa Qa (Qh (Qd (Qo (Q5 (.inr Qa) Qa Qa ?_))))))))))))
 exact⟨_,rfl, by unfold Jo; rw[if_neg (by simp_all)]; exact(Sat.row_nil Z2 (Qv (E:=E) ((hS2.pick [1,2,3,4,5,6] Qa))))⟩
theorem PL {w:World} {e:Nat} {E:EnD} {F:Th} (hS:Sat w [Xu e E,F]) (m:MsD) (hG:Ent F WireG) (hmv:X5 E.move):
    Calls prog 77 #[ptrV e 0,.agg #[intV m.kind,intV m.move,intV m.a,intV m.b,strV m.data]] w (Ret fun v w'=>Sat w' [rowT Z2 v (ZJ E m).2,Xu e (ZJ E m).1,F]):= by
 obtain⟨dp,cv,sv,ov,hS⟩:=QQ hS
 refine Qx func77 Qa ntmps77 Qa ?_
 refine Qg (Qb (XT hS Qa Qa Qa ?_))
 intro mp w1 hS1
 replace hS1:Sat w1 (QR mp [intV m.kind,intV m.move,intV m.a,intV m.b,strV m.data]::_):=hS1
 refine Qc Qa Qa (Qh (Qd (Qg (Qg ?_))))
 have hS2:=hS1.drew
 refine QM [0,1,2,3,4,5,6,7,8,9,10,11,12,13] [] Wv (by kernel_rfl) ?_
 refine QK Qa Qa Qa (Xm Qa Qa Qa (QN Qa Qa Qa Zv (Q9 Qa Qa Qa (Qn Qa QF (hS2.cell 1 Qa Qa)) (QC Qa Qa Qa (fun _=>(JF Qa Qa)) ?_))))
 refine QK Qa Qa Qa (Z1 10 Qa (fun h3=> ?_) (fun h3=> ?_))
 ·refine Q3 Qa Qa (Qu Qa Qa (Q8 h3)) (Q3 Qa Qa (Qu Qa Qa (Q8 h3)) (Q3 Qa Qa (Qu Qa Qa (Q8 h3)) (Q3 Qa Qa (Qu Qa Qa (Q8 h3)) (Q3 Qa Qa (Qu Qa Qa (Q8 h3)) (Q3 Qa Qa (Qu Qa Qa (Q8 h3)) (Q3 Qa Qa (Qu Qa Qa (Q8 h3)) (QC Qa Qa Qa (fun _=>(XG Qa (Q8 h3) Qa)) ?_)))))))
  refine VC.nil (Qd (Qk [0,4,18] Qa (QO Qa (Qg (Qb (Qc Qa Qa (Qh (Qd (Qo (Qm (Q5 (.inr Qa) Qa Qa ?_)))))))))))
  exact⟨_,rfl, by unfold ZJ; rw[if_pos (by omega)]; exact(Sat.row_nil Z2 (Qv (E:=E) ((hS2.pick [1,2,3,4,5,6] Qa))))⟩
 refine QC Qa Qa (Qs Qa Qa (Qw h3)) (fun _=>(Ev.gd (QV Qa ZB))) ?_
 refine Q9 Qa Qa (Qs Qa Qa (Qw h3)) (Ev.gd (Qn Qa QF (hS2.cell 0 Qa Qa))) (QC Qa Qa (Qs Qa Qa (Qw h3)) (fun _=>(Ev.gd (Xt Qa))) ?_)
 refine QC Qa Qa (Qs Qa Qa (Qw h3)) (fun _=>(Ev.gd (XC Qa))) ?_
 refine QC Qa Qa (Qs Qa Qa (Qw h3)) (fun _=>(Ev.gd (QV Qa W5))) ?_
 refine Q9 Qa Qa (Qs Qa Qa (Qw h3)) (Ev.gd (Qn Qa QF (hS2.cell 1 Qa Qa))) (QC Qa Qa (Qs Qa Qa (Qw h3)) (fun _=>(Ev.gd (JF Qa Qa))) ?_)
 refine QC Qa Qa Qa (fun _=>(Xz Qa (Qw h3) Qa)) ?_
 refine VC.nil (Qd (Qk [0,4,18] Qa (Qt Qa (fun h4=> ?_) (fun h4=> ?_))))
 ·refine Qg (Qb (Qc Qa Qa (Qh (Qd (Qo (Qm (Q5 (.inr Qa) Qa Qa ?_)))))))
  exact⟨_,rfl, by unfold ZJ; rw[if_pos (by omega)]; exact(Sat.row_nil Z2 (Qv (E:=E) ((hS2.pick [1,2,3,4,5,6] Qa))))⟩
 refine Qr (Qd (Qg (Qb (Qe Qa Qa (Ql Qa Qa (Qi Qa Xo Qa ?_))))))
 (refine Q7 hS2 Qa Qa DN (by rfl) (i:=1) Qa (Xd Qa) ?_)
 intro w5 hS6; dsimp only[List.set]at hS6
 refine Qh (Qd (Qg ?_))
 have hS7:=Qv (E:={E with ses:=none}) (dp:=dp) ((ZQ (hS6.pick [1,2,3,5,6] Qa)).reorder [1,2,3,0,4,5] Qa)
 refine Qb (Qe Qa Qa (Qz Ja Qa (WZ (hS7.sp [0] Qa) (hG.starL 0 Qa) (E:={E with ses:=none}) (k:=9) (a:=0) (b:=0) (s:=[]) (Yo (XM (by decide)) hmv)) Qa ?_))
 rintro _ w8 ⟨rfl,hS8⟩
 replace hS8:=hS8.jn Qa Qa
 refine Xc Z2 [Zk E 9 0 0 []] hS8 Qa underlying66 JP Qa Qa Qa Qa (by rfl) rfl ?_
 intro b9 w9 hS9
 refine Qc Qa Qa (Qh (Qd (Qo (Q5 (.inr Qa) Qa Qa ?_))))
 exact⟨_,rfl, by unfold ZJ; rw[if_neg (by omega)]; exact hS9.pick [0,1,2] Qa⟩
