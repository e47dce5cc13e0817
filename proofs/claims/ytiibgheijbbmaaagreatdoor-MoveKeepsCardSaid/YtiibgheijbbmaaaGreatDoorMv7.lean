/- move: Owner, Freeze, Cancel -/
import Derived.Test.YtiibgheijbbmaaaGreatDoorMv3
set_option linter.unusedVariables false
set_option maxRecDepth 100000
namespace Go.Proofs.YtiibgheijbbmaaaGreatDoor
open Go.RowKit M Proofs.Tryz
theorem Co {w:World} {a b:Nat} {E1 E2:EnD} {F:Th} (hS:Sat w [Xw a E1,Xw b E2,F]) (hG:Ent F WireG) (hO:Ent F (Glob 0)):
    Calls prog 13 #[ptrV a 0,ptrV b 0] w (Ret fun v w'=>v=intV (Jf (Zg E1) (Zg E2))∧Sat w' [Xw a E1,Xw b E2,F]):= by
 refine Qy func13 Qa ntmps13 Qa ?_
 refine Qf (Qb (Qc Qa Qa (Qh (Qd (Qf (Qb (Qe Qa Qa (Q0 Gt Qa (HF (hS.sp [0] Qa) (hG.starL 1 Qa) (hO.starL 1 Qa)) Qa ?_))))))))
 rintro _ w1 ⟨rfl,hS1⟩
 replace hS1:=hS1.jn Qa Qa
 refine Qe Qa Qa (Q7 Qa Qa Qa (Q7 Qa Qa Qa (Qc Qa Qa (Qc Qa Qa (Qh (Qd (Qf (Qb (Qe Qa Qa (Q0 Gt Qa (HF (hS1.sp [1] Qa) (hG.starL 1 Qa) (hO.starL 1 Qa)) Qa ?_))))))))))
 rintro _ w2 ⟨rfl,hS2⟩
 replace hS2:=hS2.jn Qa Qa
 refine Qe Qa Qa (Q7 Qa Qa Qa (Q7 Qa Qa Qa (Qc Qa Qa (Qc Qa Qa (Qh (Qd (Qk [4,5,6,7,8] Qa (Qf (QK (Qf (Qb (Qe Qa Qa (QL Qa Qa Qa (Qc Qa Qa (Qh (Qd (Qv Qa (fun h3=> ?_) (fun h3=> ?_))))))))))))))))))
 ·refine Qf (Qb (Qc Qa Qa (Qh (Qd (Qo (Qz (Qm (Q5 (.inr Qa) Qa Qa ?_))))))))
  exact⟨_,rfl,congrArg intV (by unfold Jf;simp_all),hS2.pick [1,0,2] Qa⟩
 refine Qf (Qb (Qe Qa Qa (QL Qa Qa Qa (Qc Qa Qa (Qh (Qd (Qk [4,5,6,7,8,22] Qa (Qv Qa (fun h4=> ?_) (fun h4=> ?_)))))))))
 ·refine Qf (Qb (Qc Qa Qa (Qh (Qd (Qo (Qz (Qm (Q5 (.inr Qa) Qa Qa ?_))))))))
  exact⟨_,rfl,congrArg intV (by unfold Jf;simp_all),hS2.pick [1,0,2] Qa⟩
 refine Qf (Qb (Qe Qa Qa (Qe Qa Qa (QL Qa Qa Qa (Qe Qa Qa (Q4 29 Qa (fun h5=> ?_) (fun h5=> ?_)))))))
 ·refine Qj Qa Qa (QD h5) (Qe Qa Qa (Qj Qa Qa (QD h5) (QL Qa Qa Qa (Q1 Qa (QD h5) Qa Qa (Qe Qa Qa (Q4 33 Qa (fun h6=> ?_) (fun h6=> ?_)))))))
  ·refine Qj Qa Qa (QD h6) (Qe Qa Qa (Qj Qa Qa (QD h6) (QL Qa Qa Qa (Q1 Qa (QD h6) Qa Qa (Qc Qa Qa (Qh (Qd (Qk [4,5,6,7,8,25] Qa (Qv Qa (fun h7=> ?_) (fun h7=> ?_))))))))))
   ·refine Qf (Qb (Qc Qa Qa (Qh (Qd (Qo (Qz (Qm (Q5 (.inr Qa) Qa Qa ?_))))))))
    exact⟨_,rfl,congrArg intV (by unfold Jf;simp_all),hS2.pick [1,0,2] Qa⟩
   refine Qf (Qb (Qe Qa Qa (Qe Qa Qa (QL Qa Qa Qa (Qe Qa Qa (Q4 41 Qa (fun h8=> ?_) (fun h8=> ?_)))))))
   ·refine Qj Qa Qa (QD h8) (Qe Qa Qa (Qj Qa Qa (QD h8) (QL Qa Qa Qa (Q1 Qa (QD h8) Qa Qa (Qe Qa Qa (Q4 45 Qa (fun h9=> ?_) (fun h9=> ?_)))))))
    ·refine Qj Qa Qa (QD h9) (Qe Qa Qa (Qj Qa Qa (QD h9) (QL Qa Qa Qa (Q1 Qa (QD h9) Qa Qa (Qc Qa Qa (Qh (Qd (Qk [4,37] Qa (Qv Qa (fun h10=> ?_) (fun h10=> ?_))))))))))
     ·refine Qf (Qb (Qc Qa Qa (Qh (Qd (Qo (Qz (Qm (Q5 (.inr Qa) Qa Qa ?_))))))))
      exact⟨_,rfl,congrArg intV (by unfold Jf;simp_all),hS2.pick [1,0,2] Qa⟩
     refine Qt (Qq (Qd (Qf (Qb (Qc Qa Qa (Qh (Qd (Qo (Q5 (.inr Qa) Qa Qa ?_)))))))))
     exact⟨_,rfl,congrArg intV (by unfold Jf;simp_all),hS2.pick [1,0,2] Qa⟩
    refine Qg Qa Qa (Qx h9) Qa (Qg Qa Qa (Qx h9) Qa (Q3 Qa (Qx h9) Qa Qa (Qc Qa Qa (Qh (Qd (Qk [4,37] Qa (QJ Qa (Qt (Qq (Qd (Qf (Qb (Qc Qa Qa (Qh (Qd (Qo (Q5 (.inr Qa) Qa Qa ?_)))))))))))))))))
    exact⟨_,rfl,congrArg intV (by unfold Jf;simp_all),hS2.pick [1,0,2] Qa⟩
   refine Qg Qa Qa (Qx h8) Qa (Qg Qa Qa (Qx h8) Qa (Q3 Qa (Qx h8) Qa Qa (Qe Qa Qa (Qg Qa Qa Qa Qa (Qg Qa Qa Qa Qa (Q3 Qa Qa Qa Qa (Qc Qa Qa (Qh (Qd (Qk [4,37] Qa (QJ Qa (Qt (Qq (Qd (Qf (Qb (Qc Qa Qa (Qh (Qd (Qo (Q5 (.inr Qa) Qa Qa ?_)))))))))))))))))))))
   exact⟨_,rfl,congrArg intV (by unfold Jf;simp_all),hS2.pick [1,0,2] Qa⟩
  refine Qg Qa Qa (Qx h6) Qa (Qg Qa Qa (Qx h6) Qa (Q3 Qa (Qx h6) Qa Qa (Qc Qa Qa (Qh (Qd (Qk [4,5,6,7,8,25] Qa (QJ Qa (Qf (Qb (Qe Qa Qa (Qe Qa Qa (QL Qa Qa Qa (Qe Qa Qa (Q4 41 Qa (fun h11=> ?_) (fun h11=> ?_)))))))))))))))
  ·refine Qj Qa Qa (QD h11) (Qe Qa Qa (Qj Qa Qa (QD h11) (QL Qa Qa Qa (Q1 Qa (QD h11) Qa Qa (Qe Qa Qa (Q4 45 Qa (fun h12=> ?_) (fun h12=> ?_)))))))
   ·refine Qj Qa Qa (QD h12) (Qe Qa Qa (Qj Qa Qa (QD h12) (QL Qa Qa Qa (Q1 Qa (QD h12) Qa Qa (Qc Qa Qa (Qh (Qd (Qk [4,37] Qa (Qv Qa (fun h13=> ?_) (fun h13=> ?_))))))))))
    ·refine Qf (Qb (Qc Qa Qa (Qh (Qd (Qo (Qz (Qm (Q5 (.inr Qa) Qa Qa ?_))))))))
     exact⟨_,rfl,congrArg intV (by unfold Jf;simp_all),hS2.pick [1,0,2] Qa⟩
    refine Qt (Qq (Qd (Qf (Qb (Qc Qa Qa (Qh (Qd (Qo (Q5 (.inr Qa) Qa Qa ?_)))))))))
    exact⟨_,rfl,congrArg intV (by unfold Jf;simp_all),hS2.pick [1,0,2] Qa⟩
   refine Qg Qa Qa (Qx h12) Qa (Qg Qa Qa (Qx h12) Qa (Q3 Qa (Qx h12) Qa Qa (Qc Qa Qa (Qh (Qd (Qk [4,37] Qa (QJ Qa (Qt (Qq (Qd (Qf (Qb (Qc Qa Qa (Qh (Qd (Qo (Q5 (.inr Qa) Qa Qa ?_)))))))))))))))))
   exact⟨_,rfl,congrArg intV (by unfold Jf;simp_all),hS2.pick [1,0,2] Qa⟩
  refine Qg Qa Qa (Qx h11) Qa (Qg Qa Qa (Qx h11) Qa (Q3 Qa (Qx h11) Qa Qa (Qe Qa Qa (Qg Qa Qa Qa Qa (Qg Qa Qa Qa Qa (Q3 Qa Qa Qa Qa (Qc Qa Qa (Qh (Qd (Qk [4,37] Qa (QJ Qa (Qt (Qq (Qd (Qf (Qb (Qc Qa Qa (Qh (Qd (Qo (Q5 (.inr Qa) Qa Qa ?_)))))))))))))))))))))
  exact⟨_,rfl,congrArg intV (by unfold Jf;simp_all),hS2.pick [1,0,2] Qa⟩
 refine Qg Qa Qa (Qx h5) Qa (Qg Qa Qa (Qx h5) Qa (Q3 Qa (Qx h5) Qa Qa (Qe Qa Qa (Qg Qa Qa Qa Qa (Qg Qa Qa Qa Qa (Q3 Qa Qa Qa Qa (Qc Qa Qa (Qh (Qd (Qk [4,5,6,7,8,25] Qa (QJ Qa (Qf (Qb (Qe Qa Qa (Qe Qa Qa (QL Qa Qa Qa (Qe Qa Qa (Q4 41 Qa (fun h14=> ?_) (fun h14=> ?_)))))))))))))))))))
 ·refine Qj Qa Qa (QD h14) (Qe Qa Qa (Qj Qa Qa (QD h14) (QL Qa Qa Qa (Q1 Qa (QD h14) Qa Qa (Qe Qa Qa (Q4 45 Qa (fun h15=> ?_) (fun h15=> ?_)))))))
  ·refine Qj Qa Qa (QD h15) (Qe Qa Qa (Qj Qa Qa (QD h15) (QL Qa Qa Qa (Q1 Qa (QD h15) Qa Qa (Qc Qa Qa (Qh (Qd (Qk [4,37] Qa (Qv Qa (fun h16=> ?_) (fun h16=> ?_))))))))))
   ·refine Qf (Qb (Qc Qa Qa (Qh (Qd (Qo (Qz (Qm (Q5 (.inr Qa) Qa Qa ?_))))))))
    exact⟨_,rfl,congrArg intV (by unfold Jf;simp_all),hS2.pick [1,0,2] Qa⟩
   refine Qt (Qq (Qd (Qf (Qb (Qc Qa Qa (Qh (Qd (Qo (Q5 (.inr Qa) Qa Qa ?_)))))))))
   exact⟨_,rfl,congrArg intV (by unfold Jf;simp_all),hS2.pick [1,0,2] Qa⟩
  refine Qg Qa Qa (Qx h15) Qa (Qg Qa Qa (Qx h15) Qa (Q3 Qa (Qx h15) Qa Qa (Qc Qa Qa (Qh (Qd (Qk [4,37] Qa (QJ Qa (Qt (Qq (Qd (Qf (Qb (Qc Qa Qa (Qh (Qd (Qo (Q5 (.inr Qa) Qa Qa ?_)))))))))))))))))
  exact⟨_,rfl,congrArg intV (by unfold Jf;simp_all),hS2.pick [1,0,2] Qa⟩
 refine Qg Qa Qa (Qx h14) Qa (Qg Qa Qa (Qx h14) Qa (Q3 Qa (Qx h14) Qa Qa (Qe Qa Qa (Qg Qa Qa Qa Qa (Qg Qa Qa Qa Qa (Q3 Qa Qa Qa Qa (Qc Qa Qa (Qh (Qd (Qk [4,37] Qa (QJ Qa (Qt (Qq (Qd (Qf (Qb (Qc Qa Qa (Qh (Qd (Qo (Q5 (.inr Qa) Qa Qa ?_)))))))))))))))))))))
 exact⟨_,rfl,congrArg intV (by unfold Jf;simp_all),hS2.pick [1,0,2] Qa⟩
theorem Gj {w:World} {e:Nat} {E:EnD} {F:Th} (hS:Sat w [Xw e E,F]):
    Calls prog 31 #[ptrV e 0] w (Ret fun v w'=>v=intV (Wz E).1∧Sat w' [Xw e (Wz E).2,F]):= by
 refine Qy func31 Qa ntmps31 Qa ?_
 refine Qf (Qb (Qc Qa Qa (Qh (Qd (Qf (Qf (Qb (Qe Qa Qa (Q0 HW Qa (YA (hS.sp [0] Qa)) Qa ?_)))))))))
 rintro _ w1 ⟨rfl,hS1⟩
 replace hS1:=hS1.jn Qa Qa
 obtain⟨dp,cv,sv,ov,hS2⟩:=QU (hS1.pick [0,1] rfl)
 refine XN Qa Qa (Qe Qa Qa (ZO 6 Qa (fun h3=> ?_) (fun h3=> ?_)))
 ·refine Qg Qa Qa h3 Qa (Qg Qa Qa h3 Qa (Qg Qa Qa h3 Qa (Qg Qa Qa h3 Qa (Qg Qa Qa h3 Qa (Q1 Qa h3 Qa Qa (Qh (Qd (Qk [0,2,12] Qa (QP Qa (Qf (Qb (Qc Qa Qa (Qh (Qd (Qo (Qm (Q5 (.inr Qa) Qa Qa ?_)))))))))))))))))
  exact⟨_,rfl, by unfold Wz; rw[if_pos (by simp_all)], by unfold Wz; rw[if_pos (by simp_all)]; exact Qu (E:=E) ((hS2.pick [0,1,2,3,4,5] Qa))⟩
 refine Qj Qa Qa h3 (Qe Qa Qa (Qj Qa Qa h3 (Ql Qa Qa (Qj Qa Qa h3 (Qi Qa XL Qa (Qj Qa Qa h3 (Qr Qa J2 (hS2.cell 0 Qa Qa) Qa (Qj Qa Qa h3 (XN Qa Qa (Q3 Qa h3 Qa Qa (Qh (Qd (Qk [0,2,12] Qa (QZ Qa (fun h4=> ?_) (fun h4=> ?_)))))))))))))))
 ·refine Qf (Qb (Qc Qa Qa (Qh (Qd (Qo (Qm (Q5 (.inr Qa) Qa Qa ?_)))))))
  exact⟨_,rfl, by unfold Wz; rw[if_pos (by simp_all)], by unfold Wz; rw[if_pos (by simp_all)]; exact Qu (E:=E) ((hS2.pick [0,1,2,3,4,5] Qa))⟩
 refine Qt (Qd (Qf (Qb (Qe Qa Qa (Ql Qa Qa (Qi Qa WC Qa ?_))))))
 first | (refine Qw hS2 Qa Qa XU (by rfl) (i:=0) Qa (QC Qa) ?_)
 intro w5 hS6; dsimp only[List.set]at hS6
 refine Qh (Qd (Qf (Qb (Qc Qa Qa (Qh (Qd (Qo (Q5 (.inr Qa) Qa Qa ?_))))))))
 exact⟨_,rfl, by unfold Wz; rw[if_neg (by simp_all)], by unfold Wz; rw[if_neg (by simp_all)]; exact Qu (E:={E with frozen:=true}) ((hS6.pick [0,1,2,3,4,5] Qa))⟩
theorem Ms {w:World} {e:Nat} {E:EnD} {F:Th} (hS:Sat w [Xw e E,F]):
    Calls prog 21 #[ptrV e 0] w (Ret fun v w'=>v=intV (Ja E).1∧Sat w' [Xw e (Ja E).2,F]):= by
 refine Qy func21 Qa ntmps21 Qa ?_
 refine Qf (Qb (Qc Qa Qa (Qh (Qd (Qf (Qf (Qb (Qe Qa Qa (Q0 Au Qa (Sg (hS.sp [0] Qa)) Qa ?_)))))))))
 rintro _ w1 ⟨rfl,hS1⟩
 replace hS1:=hS1.jn Qa Qa
 obtain⟨dp,cv,sv,ov,hS2⟩:=QU (hS1.pick [0,1] rfl)
 refine XN Qa Qa (Qe Qa Qa (ZO 6 Qa (fun h3=> ?_) (fun h3=> ?_)))
 ·refine Qg Qa Qa h3 Qa (Qg Qa Qa h3 Qa (Qg Qa Qa h3 Qa (Qg Qa Qa h3 Qa (Qg Qa Qa h3 Qa (Q1 Qa h3 Qa Qa (Qh (Qd (Qk [0,2,12] Qa (QP Qa (Qf (Qb (Qc Qa Qa (Qh (Qd (Qo (Qm (Q5 (.inr Qa) Qa Qa ?_)))))))))))))))))
  exact⟨_,rfl, by unfold Ja; rw[if_pos (by simp_all)], by unfold Ja; rw[if_pos (by simp_all)]; exact Qu (E:=E) ((hS2.pick [0,1,2,3,4,5] Qa))⟩
 refine Qj Qa Qa h3 (Qe Qa Qa (Qj Qa Qa h3 (Ql Qa Qa (Qj Qa Qa h3 (Qi Qa XL Qa (Qj Qa Qa h3 (Qr Qa J2 (hS2.cell 0 Qa Qa) Qa (Qj Qa Qa h3 (XN Qa Qa (Q3 Qa h3 Qa Qa (Qh (Qd (Qk [0,2,12] Qa (QZ Qa (fun h4=> ?_) (fun h4=> ?_)))))))))))))))
 ·refine Qf (Qb (Qc Qa Qa (Qh (Qd (Qo (Qm (Q5 (.inr Qa) Qa Qa ?_)))))))
  exact⟨_,rfl, by unfold Ja; rw[if_pos (by simp_all)], by unfold Ja; rw[if_pos (by simp_all)]; exact Qu (E:=E) ((hS2.pick [0,1,2,3,4,5] Qa))⟩
 refine Qt (Qd (Qf (Qb (Qe Qa Qa (Qe Qa Qa (Ql Qa Qa (Qi Qa XL Qa ?_)))))))
 first | (refine Qw hS2 Qa Qa XU (by rfl) (i:=0) Qa (QC Qa) ?_)
 intro w5 hS6; dsimp only[List.set]at hS6
 refine Ql Qa Qa (Qi Qa WC Qa ?_)
 first | (refine Qw hS6 Qa Qa XU (by rfl) (i:=0) Qa (QC Qa) ?_)
 intro w7 hS8; dsimp only[List.set]at hS8
 refine Qh (Qd (Qf (Qb (Qc Qa Qa (Qh (Qd (Qo (Q5 (.inr Qa) Qa Qa ?_))))))))
 exact⟨_,rfl, by unfold Ja; rw[if_neg (by simp_all)], by unfold Ja; rw[if_neg (by simp_all)]; exact Qu (E:={E with active:=false,frozen:=false}) ((hS8.pick [0,1,2,3,4,5] Qa))⟩
section
variable {E:EnD}
theorem TY (hC:E.cell=none) (h:Z0 (Xv E.D) 0≠0):ZU E=(Z0 (Xv E.D) 0,{E with D:=X1 (Xv E.D) 0,cell:=none}):= by
  unfold ZU; rw[if_neg (by unfold upE; rw[hC]; simp),if_pos h]; cases E; dsimp only at hC; subst hC;rfl
theorem TX (hC:E.cell=none) (h:Z0 (Xv E.D) 0=0) (h2:Wo (X1 (Xv E.D) 0) 0≠0):ZU E=(Wo (X1 (Xv E.D) 0) 0,{E with D:=X1 (Xv E.D) 0,cell:=none}):= by
  unfold ZU; rw[if_neg (by unfold upE; rw[hC]; simp),if_neg (by omega),if_pos h2]; cases E; dsimp only at hC; subst hC;rfl
theorem TW (hC:E.cell=none) (h:Z0 (Xv E.D) 0=0) (h2:Wo (X1 (Xv E.D) 0) 0=0):ZU E=(0,{E with D:=X1 (Xv E.D) 0,cell:=some (Jr (X1 (Xv E.D) 0) 0),kind:=(YR (Jr (X1 (Xv E.D) 0) 0).val).1,move:=(YR (Jr (X1 (Xv E.D) 0) 0).val).2}):= by
  unfold ZU; rw[if_neg (by unfold upE; rw[hC]; simp),if_neg (by omega),if_neg (by omega)]
end
theorem Kc {w:World} {e:Nat} {E:EnD} {F:Th} (hS:Sat w [Xw e E,F]) (hG:Ent F WireG) (hO:Ent F (Glob 0)):
    Calls prog 19 #[ptrV e 0] w (Ret fun v w'=>v=intV (ZU E).1∧Sat w' [Xw e (ZU E).2,F]):= by
 refine Qy func19 Qa ntmps19 Qa ?_
 refine Qf (Qb (Qc Qa Qa (Qh (Qd (Qf (Qf (Qb (Qe Qa Qa (Q0 KK Qa (B9 (hS.sp [0] Qa)) Qa ?_)))))))))
 rintro _ w1 ⟨rfl,hS1⟩
 replace hS1:=hS1.jn Qa Qa
 refine Qh (Qd (QZ Qa (fun h2=> ?_) (fun h2=> ?_)))
 ·have hU:upE E=true:= by simpa using h2
  refine Qf (Qb (Qc Qa Qa (Qh (Qd (Qo (Qm (Q5 (.inr Qa) Qa Qa ?_)))))))
  exact⟨_,rfl, by unfold ZU; rw[if_pos hU], by unfold ZU; rw[if_pos hU]; exact hS1.pick [0,1] Qa⟩
 have hC:E.cell=none:= by have h0:=h2; cases q:E.cell<;>simp_all [upE]
 refine Qt (Qd (Qf ?_))
 obtain⟨dp,cv,sv,ov,hS3⟩:=QU (hS1.pick [0,1] rfl)
 rw[hC]at hS3
 obtain⟨rfl,hS4⟩:=Dh (dp:=dp) (hS3.pick [2,0,1,3,4,5] rfl)
 refine Qb (Qe Qa Qa (Ql Qa Qa (Qi Qa HB Qa (Qr Qa HZ (hS4.cell 0 Qa Qa) Qa (Q0 Aw Qa (startT (hS4.sp [1] Qa)) Qa ?_)))))
 rintro _ w5 ⟨rfl,hS5⟩
 replace hS5:=hS5.jn Qa Qa
 refine Qh (Qd (Qf (Qf (Qb (Qe Qa Qa (Ql Qa Qa (Qi Qa HB Qa (Qr Qa HZ (hS5.cell 1 Qa Qa) Qa (Q0 T3 Qa (PS (hS5.sp [0] Qa) 0) Qa ?_)))))))))
 rintro _ w6 ⟨rfl,hS6⟩
 replace hS6:=hS6.jn Qa Qa
 refine Qc Qa Qa (Qh (Qd (Qk [0,2,3] Qa (Qf (Qb (Qe Qa Qa (Xu Qa Qa Qa (Qh (Qd (Qv Qa (fun h7=> ?_) (fun h7=> ?_)))))))))))
 ·have hs1:Z0 (Xv E.D) 0≠0:=h7
  refine Qf (Qb (Qe Qa Qa (Qc Qa Qa (Qh (Qd (Qo (Qm (Q5 (.inr Qa) Qa Qa ?_))))))))
  exact⟨_,rfl, by rw[TY hC hs1], by rw[TY hC hs1]; exact Qu (E:={E with D:=(X1 (Xv E.D) 0),cell:=none}) (dp:=dp) ((Ki (dp:=dp) (hS6.pick [1,0,2,3,4] Qa)).reorder [1,2,0,3,4,5] Qa)⟩
 have hs0:Z0 (Xv E.D) 0=0:=Decidable.not_not.1 h7
 refine Qt (Qd (Qf (Qb (Qe Qa Qa (Ql Qa Qa (Qi Qa HB Qa (Qr Qa HZ (hS6.cell 1 Qa Qa) Qa (YZ P6 Qa (Sh (hS6.sp [0] Qa) (hO.starL 3 Qa) 0) Qa ?_))))))))
 rintro e w8 ⟨_,rfl,(⟨ho,cp,rfl,hS8⟩ | ⟨ho,rfl,hS8⟩)⟩
 ·refine⟨_,Qa, ?_⟩
  replace hS8:=hS8.jn Qa Qa
  refine Qe Qa Qa (Q7 Qa Qa Qa (Q7 Qa Qa Qa (Qc Qa Qa (Qc Qa Qa (Qh (Qd (Qk [0,2,4,5] Qa (Qf (Qf (Qb (Qe Qa Qa (Xu Qa Qa Qa (Qh (Qd (Qv Qa (fun h9=> ?_) (fun h9=> ?_))))))))))))))))
  ·exact absurd Qa h9
  refine Qt (Qd (Qf (Qb (Qe Qa Qa (Qe Qa Qa (Ql Qa Qa (Qi Qa Bm Qa ?_)))))))
  (refine Qw hS8 Qa Qa PR (by rfl) (i:=2) Qa (QC Qa) ?_)
  intro w10 hS11; dsimp only[List.set]at hS11
  refine Qh (Qd (Qf (Qb (Qe Qa Qa (Qe Qa Qa (Qe Qa Qa (Q0 Av Qa (Cv (hS11.sp [0] Qa) (hG.starL 4 Qa) (VT _ _).2) Qa ?_)))))))
  rintro _ w12 ⟨rfl,hS12⟩
  replace hS12:=hS12.jn Qa Qa
  refine Qe Qa Qa (Q7 Qa Qa Qa (Q7 Qa Qa Qa (Ql Qa Qa (Qi Qa Zh Qa ?_))))
  (refine Qw hS12 Qa Qa WA (by rfl) (i:=2) Qa (QC Qa) ?_)
  intro w13 hS14; dsimp only[List.set]at hS14
  refine Ql Qa Qa (Qi Qa Wp Qa ?_)
  (refine Qw hS14 Qa Qa WA (by rfl) (i:=2) Qa (QC Qa) ?_)
  intro w15 hS16; dsimp only[List.set]at hS16
  refine Qh (Qd (Qk [2] Qa (Qf (Qb (Qc Qa Qa (Qh (Qd (Qo (Q5 (.inr Qa) Qa Qa ?_)))))))))
  exact⟨_,rfl, by rw[TW hC hs0 ho], by rw[TW hC hs0 ho]; exact Qu (E:={E with D:=(X1 (Xv E.D) 0),cell:=some (Jr (X1 (Xv E.D) 0) 0),kind:=(YR (Jr (X1 (Xv E.D) 0) 0).val).1,move:=(YR (Jr (X1 (Xv E.D) 0) 0).val).2}) (dp:=dp) ((HU (VT _ _) (hS16.pick [0,2,1,3,4,5] Qa)).reorder [1,2,0,3,4,5] Qa)⟩
 refine⟨_,Qa, ?_⟩
 replace hS8:=hS8.jn Qa Qa
 refine Qe Qa Qa (Q7 Qa Qa Qa (Q7 Qa Qa Qa (Qc Qa Qa (Qc Qa Qa (Qh (Qd (Qk [0,2,4,5] Qa (Qf (Qf (Qb (Qe Qa Qa (Xu Qa Qa Qa (Qh (Qd (Qv Qa (fun h17=> ?_) (fun h17=> ?_))))))))))))))))
 ·refine Qf (Qb (Qe Qa Qa (Qc Qa Qa (Qh (Qd (Qo (Qm (Q5 (.inr Qa) Qa Qa ?_))))))))
  exact⟨_,rfl, by rw[TX hC hs0 ho], by rw[TX hC hs0 ho]; exact Qu (E:={E with D:=(X1 (Xv E.D) 0),cell:=none}) (dp:=dp) ((Ki (dp:=dp) (hS8.pick [1,0,2,3,4] Qa)).reorder [1,2,0,3,4,5] Qa)⟩
 exact absurd ho h17
theorem Gb:Wo newD 0=0∧Jr newD 0=KD 0:= by
  obtain⟨a,b,_⟩:=Good.begin (f:=0) (P:= fun _ _=>True) (by decide) trivial
  exact⟨a,b⟩
theorem Br {w:World} {F:Th} (hS:Sat w [F]) (hO:Ent F (Glob 0)):
    Calls prog 34 #[] w (Ret fun v w'=> ∃e,v=ptrV e 0∧Sat w' [Xw e Ho,F]):= by
 refine Qy func34 Qa ntmps34 Qa ?_
 refine Qf (Qb (Qc Qa Qa (Qh (Qd (Qf (Qb (Q0 cal_63 Qa (new_sp (hS.sp [] Qa)) Qa ?_)))))))
 rintro _ w1 ⟨dp,rfl,hS1⟩
 replace hS1:=hS1.jn Qa Qa
 replace hS1:=dT_new hS1
 refine Jz (vs':=[ptrV dp 0,.pointer none,intV 0,intV 0,.pointer none,.bool false,.bool false,intV 0,.bool false,.pointer none]) Qa Sb AH zr_81 Qa Qa Qa (Za hS1 Qa Qa Qa ?_)
 intro ep w2 hS2
 refine Qc Qa Qa (Qh (Qd (Qf (Qb (Qe Qa Qa (Qe Qa Qa (Ql Qa Qa (Qi Qa HB Qa (Qr Qa HZ (hS2.cell 0 Qa Qa) Qa (YZ P6 Qa (Sh (hS2.sp [1] Qa) (hO.starL 1 Qa) 0) Qa ?_))))))))))
 rintro e w3 ⟨_,rfl,(⟨ho,cp,rfl,hS3⟩ | ⟨ho,rfl,hS3⟩)⟩
 ·refine⟨_,Qa, ?_⟩
  replace hS3:=hS3.jn Qa Qa
  rw[Gb.2]at hS3
  refine Qe Qa Qa (Q7 Qa Qa Qa (Q7 Qa Qa Qa (Ql Qa Qa (Qi Qa Bm Qa ?_))))
  (refine Qw hS3 Qa Qa PR (by rfl) (i:=2) Qa (QC Qa) ?_)
  intro w4 hS5; dsimp only[List.set]at hS5
  refine Qh (Qd (Qk [0,1] Qa (Qf (Qb (Qe Qa Qa (Qc Qa Qa (Qh (Qd (Qo (Q5 (.inr Qa) Qa Qa ?_))))))))))
  exact⟨_,rfl,ep,rfl,Qu (E:=Ho) (dp:=dp) ((HU (C:=KD 0) (by rw[←Gb.2]; exact VT _ _) (ZQ (ZR (hS5.pick [0,2,1,3] Qa)) |>.reorder [2,3,4,0,1,5] Qa)).reorder [1,2,0,3,4,5] Qa)⟩
 exact absurd Gb.1 ho
structure MsOk (m:MsD):Prop where
  k:X4 m.kind
  n:X4 m.move
  a:X4 m.a
  b:X4 m.b
  d:m.data.length≤20000000
theorem Ab {s:Bs} (h:s.length≤20000000):(Hw s).length≤20000100:= by
  have h1:=(WB (n:=(s.length:Int)) (by unfold X4;omega)).1
  unfold Hw
  simp only[List.length_append,List.length_cons,List.length_nil];omega
theorem Gc {w:World} {F:Th} (hS:Sat w [F]) (hG:Ent F WireG) {m:MsD} (hm:MsOk m):
    Calls prog 79 #[.agg #[intV m.kind,intV m.move,intV m.a,intV m.b,strV m.data]] w (Ret fun v w'=>v=strV (YT m)∧Sat w' [F]):= by
 refine Qy func79 Qa ntmps79 Qa ?_
 have h0:=(WB hm.k).1
 have h1:=(WB hm.n).1
 have h2:=(WB hm.a).1
 have h3:=(WB hm.b).1
 have h4:=Ab hm.d
 refine Qf (Qb (Za hS Qa Qa Qa ?_))
 intro bp wp hSp0
 have hSp:Sat wp [Xb bp [intV m.kind,intV m.move,intV m.a,intV m.b,strV m.data],F]:=hSp0
 refine Qc Qa Qa (Qh (Qd (Qf ?_)))
 have hS1:=hSp.drew
 refine QN [0,1,3,4,7,8,11,12,15,16,2,5,6,9,10,13,14,17,18,19] [2,5,9,13,17] W5 (by kernel_rfl) ?_
 refine QO Qa Qa Qa Jv (QF Qa Qa Qa (Qn Qa QH (hS1.cell 0 Qa Qa)) (QO Qa Qa Qa Zz (QF Qa Qa Qa (Qn Qa QH (hS1.cell 0 Qa Qa)) (QO Qa Qa Qa Wg (QF Qa Qa Qa (Qn Qa QH (hS1.cell 0 Qa Qa)) (QO Qa Qa Qa Jk (QF Qa Qa Qa (Qn Qa QH (hS1.cell 0 Qa Qa)) (QO Qa Qa Qa Ht (QF Qa Qa Qa (Qn Qa Zx (hS1.cell 0 Qa Qa)) (QV Qa Qa Qa Qa Qa Qa ?_))))))))))
 refine Q0 HV Qa (Y5 (hS1.sp [] Qa) (hG.starL 1 Qa) m.kind hm.k) Qa ?_
 rintro _ w2 ⟨rfl,hS2⟩
 replace hS2:=hS2.jn Qa Qa
 refine Xd (.cons (.inl ⟨rfl,(Qn Qa Zx (hS2.cell 0 Qa Qa))⟩) (.cons (.inl ⟨rfl,(Qn Qa QH (hS2.cell 0 Qa Qa))⟩) (.cons (.inl ⟨rfl,(Qn Qa QH (hS2.cell 0 Qa Qa))⟩) (.cons (.inl ⟨rfl,(Qn Qa QH (hS2.cell 0 Qa Qa))⟩) (Xq (by kernel_rfl)))))) ?_
 refine QV Qa Qa Qa Qa Qa Qa ?_
 refine Q0 HV Qa (Y5 (hS2.sp [] Qa) (hG.starL 1 Qa) m.move hm.n) Qa ?_
 rintro _ w3 ⟨rfl,hS3⟩
 replace hS3:=hS3.jn Qa Qa
 refine Xd (.cons (.inl ⟨rfl,(Qn Qa Zx (hS3.cell 0 Qa Qa))⟩) (.cons (.inl ⟨rfl,(Qn Qa QH (hS3.cell 0 Qa Qa))⟩) (.cons (.inl ⟨rfl,(Qn Qa QH (hS3.cell 0 Qa Qa))⟩) (Xq (by kernel_rfl))))) ?_
 refine Q9 Qa Qa Qa (fun _=>(Y2 Qa Qa (by(simp only[List.length_append,List.length_cons,List.length_nil];omega)))) ?_
 refine QV Qa Qa Qa Qa Qa Qa ?_
 refine Q0 HV Qa (Y5 (hS3.sp [] Qa) (hG.starL 1 Qa) m.a hm.a) Qa ?_
 rintro _ w4 ⟨rfl,hS4⟩
 replace hS4:=hS4.jn Qa Qa
 refine Xd (.cons (.inl ⟨rfl,(Qn Qa Zx (hS4.cell 0 Qa Qa))⟩) (.cons (.inl ⟨rfl,(Qn Qa QH (hS4.cell 0 Qa Qa))⟩) (Xq (by kernel_rfl)))) ?_
 refine Q9 Qa Qa Qa (fun _=>(Y2 Qa Qa (by(simp only[List.length_append,List.length_cons,List.length_nil];omega)))) ?_
 refine QV Qa Qa Qa Qa Qa Qa ?_
 refine Q0 HV Qa (Y5 (hS4.sp [] Qa) (hG.starL 1 Qa) m.b hm.b) Qa ?_
 rintro _ w5 ⟨rfl,hS5⟩
 replace hS5:=hS5.jn Qa Qa
 refine Xd (.cons (.inl ⟨rfl,(Qn Qa Zx (hS5.cell 0 Qa Qa))⟩) (Xq (by kernel_rfl))) ?_
 refine Q9 Qa Qa Qa (fun _=>(Y2 Qa Qa (by(simp only[List.length_append,List.length_cons,List.length_nil];omega)))) ?_
 refine QV Qa Qa Qa Qa Qa Qa ?_
 refine Q0 SB Qa (TN (hS5.sp [] Qa) (hG.starL 1 Qa) m.data (by have :=hm.d;omega)) Qa ?_
 rintro _ w6 ⟨rfl,hS6⟩
 replace hS6:=hS6.jn Qa Qa
 refine Xd (Xq (by kernel_rfl)) ?_
 refine Q9 Qa Qa Qa (fun _=>(Y2 Qa Qa (by(simp only[List.length_append,List.length_cons,List.length_nil];omega)))) ?_
 exact WV Qa Qa Qa (VC.nil (Qd (Qk [2] Qa (Qo (Q5 (.inr Qa) Qa Qa (⟨_,Qa,Qa,hS6.pick [1] Qa⟩))))))
theorem WG {w:World} {e:Nat} {E:EnD} {F:Th} (hS:Sat w [Xw e E,F]) (hG:Ent F WireG) {k a b:Int} {s:Bs} (hm:MsOk ⟨k,E.move,a,b,s⟩):
    Calls prog 64 #[ptrV e 0,intV k,intV a,intV b,strV s] w (Ret fun v w'=>v=strV (Z3 E k a b s)∧Sat w' [Xw e E,F]):= by
 obtain⟨dp,cv,sv,ov,hS⟩:=QU hS
 refine Qy func64 Qa ntmps64 Qa ?_
 refine Qf (Qb (Qc Qa Qa (Qh (Qd (Qf (Qb (Qe Qa Qa (Qe Qa Qa (Ql Qa Qa (Qi Qa Wp Qa (Qr Qa QH (hS.cell 0 Qa Qa) Qa (Qe Qa Qa (Qe Qa Qa (Qe Qa Qa (Jz (vs':=[intV k,intV E.move,intV a,intV b,strV s]) Qa UC TE My Qa Qa Qa (Q0 P3 Qa (Gc (hS.sp [] Qa) (hG.starL 5 Qa) (m:=⟨k,E.move,a,b,s⟩) hm) Qa ?_))))))))))))))))
 rintro _ w1 ⟨rfl,hS1⟩
 replace hS1:=hS1.jn Qa Qa
 exact Qc Qa Qa (Qh (Qd (Qk [10] Qa (Qo (Q5 (.inr Qa) Qa Qa (⟨_,Qa,Qa,Qu (E:=E) ((hS1.pick [0,1,2,3,4,5] Qa))⟩))))))
theorem GF {w:World} {e:Nat} {E:EnD} {F:Th} (hS:Sat w [Xw e E,F]) (s:Bs):
    Calls prog 46 #[ptrV e 0,strV s] w (Ret fun v w'=>v=intV (ZH E s).1∧Sat w' [Xw e (ZH E s).2,F]):= by
 refine Qy func46 Qa ntmps46 Qa ?_
 refine Qf (Qb (Qc Qa Qa (Qh (Qd (Qf (QK (Qf (Qb (Qe Qa Qa (Q0 HW Qa (YA (hS.sp [0] Qa)) Qa ?_))))))))))
 rintro _ w1 ⟨rfl,hS1⟩
 replace hS1:=hS1.jn Qa Qa
 refine XN Qa Qa (Qc Qa Qa (Qh (Qd (QZ Qa (fun h2=> ?_) (fun h2=> ?_)))))
 ·have hr:ZZ E=false:= by simpa using h2
  refine Qf (Qb (Qc Qa Qa (Qh (Qd (Qo (Qz (Qm (Q5 (.inr Qa) Qa Qa ?_))))))))
  exact⟨_,rfl, by unfold ZH; rw[if_pos hr], by unfold ZH; rw[if_pos hr]; exact hS1.pick [0,1] Qa⟩
 have hrun: ¬ZZ E=false:= by simpa using h2
 refine Qf (Qb (Qe Qa Qa (Zf underlying9 Qa Qa (Wr Qa Qa Qa (Qc Qa Qa (Qh (Qd (Qk [1,0,4,9] Qa (Qv Qa (fun h3=> ?_) (fun h3=> ?_))))))))))
 ·refine Qf (Qb (Qc Qa Qa (Qh (Qd (Qo (Qz (Qm (Q5 (.inr Qa) Qa Qa ?_))))))))
  exact⟨_,rfl, by unfold ZH; rw[if_neg hrun,if_pos (by omega)], by unfold ZH; rw[if_neg hrun,if_pos (by omega)]; exact hS1.pick [0,1] Qa⟩
 refine Qt (Qq (Qd (Qf ?_)))
 obtain⟨dp,cv,sv,ov,hS4⟩:=QU (hS1.pick [0,1] rfl)
 obtain⟨x,hx⟩: ∃x,E.ses=some x:=(JJ hrun).2.2.2
 rw[hx]at hS4
 obtain⟨sb,sm,rfl,hS5⟩:=Zo (hS4.pick [3,0,1,2,4,5] rfl)
 refine Qb (Qe Qa Qa (Ql Qa Qa (Qi Qa Xt Qa (Qr Qa ZA (hS5.cell 2 Qa Qa) Qa (Qe Qa Qa (Ql Qa Qa (Qi Qa Tl Qa ?_)))))))
 (refine Qw hS5 Qa Qa Hz (by rfl) (i:=0) Qa (QC Qa) ?_)
 intro w6 hS7; dsimp only[List.set]at hS7
 refine Qh (Qd (Qk [4] Qa (Qf (Qb (Qc Qa Qa (Qh (Qd (Qo (Q5 (.inr Qa) Qa Qa ?_)))))))))
 exact⟨_,rfl, by unfold ZH; rw[if_neg hrun,if_neg (by omega)], by unfold ZH; rw[if_neg hrun,if_neg (by omega),hx]; exact Qu (E:={E with ses:=some {x with state:=s}}) ((Xh (s:={x with state:=s}) (hS7.pick [0,1,2,3,4,5,6] Qa)).reorder [1,2,3,0,4,5] Qa)⟩
theorem O3 {w:World} {e:Nat} {E:EnD} {F:Th} (hS:Sat w [Xw e E,F]):
    Calls prog 23 #[ptrV e 0] w (Ret fun v w'=>v= .tuple #[strV (match E.ses with | some s=>s.state | none=>[]),.bool E.ses.isSome]∧Sat w' [Xw e E,F]):= by
 obtain⟨dp,cv,sv,ov,hS⟩:=QU hS
 refine Qy func23 Qa ntmps23 Qa ?_
 refine Qf (Qb (Qc Qa Qa (Qc Qa Qa (Qh (Qd (Qf (Qf (Qb (Qe Qa Qa (Ql Qa Qa (Qi Qa Xt Qa (Qr Qa ZA (hS.cell 0 Qa Qa) Qa ?_))))))))))))
 rcases hq_s:E.ses with _ | s
 ·rw[hq_s]at hS
  obtain⟨rfl,hSo1⟩:=Je (hS.pick [3,0,1,2,4,5] rfl)
  refine Wb underlying78 Qa Qa Qa (Qh (Qd (QP Qa (Qf (Qb (Qc Qa Qa (Qc Qa Qa (Qh (Qd (Qo (Qm (Z8 (.inr Qa) Qa Qa Qa ?_))))))))))))
  exact⟨_,rfl,rfl,Qu (E:=E) (by rw[hq_s]; exact((ZQ hSo1).pick [1,2,3,0,4,5] Qa))⟩
 rw[hq_s]at hS
 obtain⟨sb,sm,rfl,hSo2⟩:=Zo (hS.pick [3,0,1,2,4,5] rfl)
 refine ZG underlying78 Qa Qa Qa (Qh (Qd (QJ Qa (Qt (Qd (Qf (Qb (Qe Qa Qa (Ql Qa Qa (Qi Qa Xt Qa (Qr Qa ZA (hSo2.cell 2 Qa Qa) Qa (Ql Qa Qa (Qi Qa Tl Qa (Qr Qa Zx (hSo2.cell 0 Qa Qa) Qa (Qc Qa Qa (Qc Qa Qa (Qh (Qd (Qk [2,3] Qa (Qo (Z8 (.inr Qa) Qa Qa Qa ?_)))))))))))))))))))))
 exact⟨_,rfl,rfl,Qu (E:=E) (by rw[hq_s]; exact((Xh (hSo2.pick [0,1,2,3,4,5,6] Qa)).pick [1,2,3,0,4,5] Qa))⟩
def Zn:RowC Bytes:=⟨fun s=>[strV s],1, by decide, fun _=>rfl, fun _=>rfl⟩
theorem JW {k n:Int} (hk:X4 k) (hn:X4 n):MsOk ⟨k,n,0,0,[]⟩:=⟨hk,hn, by unfold X4; dsimp only;omega, by unfold X4; dsimp only;omega, by show([]:Bs).length≤_; simp⟩
theorem XG {k:Int} (h:0≤k∧k≤9):X4 k:= by unfold X4;omega
theorem FP {w:World} {e:Nat} {E:EnD} {F:Th} (hS:Sat w [Xw e E,F]) (m:MsD):
    Calls prog 78 #[ptrV e 0,.agg #[intV m.kind,intV m.move,intV m.a,intV m.b,strV m.data]] w (Ret fun v w'=>Sat w' [rowT Zn v ((Hf E m,([]:List Bs))).2,Xw e ((Hf E m,([]:List Bs))).1,F]):= by
 obtain⟨dp,cv,sv,ov,hS⟩:=QU hS
 refine Qy func78 Qa ntmps78 Qa ?_
 refine Qf (Qb (Za hS Qa Qa Qa ?_))
 intro mp w1 hS1
 replace hS1:Sat w1 (Xb mp [intV m.kind,intV m.move,intV m.a,intV m.b,strV m.data]::_):=hS1
 refine Qc Qa Qa (Qh (Qd (Qf (Qf ?_))))
 have hS2:=hS1.drew
 refine QN [0,1,2,3,4,5,6,7,8,9,10,11,12,13] [] W5 (by kernel_rfl) ?_
 refine QI Qa Qa Qa (Xn Qa Qa Qa (QO Qa Qa Qa Zh (QF Qa Qa Qa (Qn Qa QH (hS2.cell 1 Qa Qa)) (Q9 Qa Qa Qa (fun _=>(Ya Qa Qa)) ?_))))
 refine QI Qa Qa Qa (XB 10 Qa (fun h3=> ?_) (fun h3=> ?_))
 ·refine Q9 Qa Qa (Qp Qa Qa (QD h3)) (fun _=>(Ev.gd (QS Qa Zz))) ?_
  refine QF Qa Qa (Qp Qa Qa (QD h3)) (Ev.gd (Qn Qa QH (hS2.cell 0 Qa Qa))) (Q9 Qa Qa (Qp Qa Qa (QD h3)) (fun _=>(Ev.gd (Xk Qa))) ?_)
  refine Q9 Qa Qa (Qp Qa Qa (QD h3)) (fun _=>(Ev.gd (Xy Qa))) ?_
  refine Q9 Qa Qa (Qp Qa Qa (QD h3)) (fun _=>(Ev.gd (QS Qa Wp))) ?_
  refine QF Qa Qa (Qp Qa Qa (QD h3)) (Ev.gd (Qn Qa QH (hS2.cell 1 Qa Qa))) (Q9 Qa Qa (Qp Qa Qa (QD h3)) (fun _=>(Ev.gd (Ya Qa Qa))) ?_)
  refine Q9 Qa Qa Qa (fun _=>(Xz Qa (QD h3) Qa)) ?_
  refine VC.nil (Qd (Qk [0,4,18] Qa (Qv Qa (fun h4=> ?_) (fun h4=> ?_))))
  ·refine Qb (Qe Qa Qa (Ql Qa Qa (Qi Qa HA Qa ?_)))
   (refine Qw hS2 Qa Qa XU (by rfl) (i:=1) Qa (QC Qa) ?_)
   intro w5 hS6; dsimp only[List.set]at hS6
   refine Qh (Qd (Qf (Qb (Qc Qa Qa (Qh (Qd (Qo (Q5 (.inr Qa) Qa Qa ?_))))))))
   exact⟨_,rfl, by unfold Hf; rw[if_pos (by simp_all)]; exact(Sat.row_nil Zn (Qu (E:={E with told:=true}) ((hS6.pick [1,2,3,4,5,6] Qa))))⟩
  refine Qt (Qd (Qf (Qb (Qc Qa Qa (Qh (Qd (Qo (Q5 (.inr Qa) Qa Qa ?_))))))))
  exact⟨_,rfl, by unfold Hf; rw[if_neg (by simp_all)]; exact(Sat.row_nil Zn (Qu (E:=E) ((hS2.pick [1,2,3,4,5,6] Qa))))⟩
 refine Q2 Qa Qa (Qs Qa Qa (Qx h3)) (Q2 Qa Qa (Qs Qa Qa (Qx h3)) (Q2 Qa Qa (Qs Qa Qa (Qx h3)) (Q2 Qa Qa (Qs Qa Qa (Qx h3)) (Q2 Qa Qa (Qs Qa Qa (Qx h3)) (Q2 Qa Qa (Qs Qa Qa (Qx h3)) (Q2 Qa Qa (Qs Qa Qa (Qx h3)) (Q9 Qa Qa Qa (fun _=>(Xi Qa (Qx h3) Qa)) ?_)))))))
 refine VC.nil (Qd (Qk [0,4,18] Qa (QJ Qa (Qt (Qd (Qf (Qb (Qc Qa Qa (Qh (Qd (Qo (Q5 (.inr Qa) Qa Qa ?_))))))))))))
 exact⟨_,rfl, by unfold Hf; rw[if_neg (by simp_all)]; exact(Sat.row_nil Zn (Qu (E:=E) ((hS2.pick [1,2,3,4,5,6] Qa))))⟩
theorem CR {w:World} {e:Nat} {E:EnD} {F:Th} (hS:Sat w [Xw e E,F]) (m:MsD) (hG:Ent F WireG) (hmv:X4 E.move):
    Calls prog 77 #[ptrV e 0,.agg #[intV m.kind,intV m.move,intV m.a,intV m.b,strV m.data]] w (Ret fun v w'=>Sat w' [rowT Zn v (WM E m).2,Xw e (WM E m).1,F]):= by
 obtain⟨dp,cv,sv,ov,hS⟩:=QU hS
 refine Qy func77 Qa ntmps77 Qa ?_
 refine Qf (Qb (Za hS Qa Qa Qa ?_))
 intro mp w1 hS1
 replace hS1:Sat w1 (Xb mp [intV m.kind,intV m.move,intV m.a,intV m.b,strV m.data]::_):=hS1
 refine Qc Qa Qa (Qh (Qd (Qf (Qf ?_))))
 have hS2:=hS1.drew
 refine QN [0,1,2,3,4,5,6,7,8,9,10,11,12,13] [] W5 (by kernel_rfl) ?_
 refine QI Qa Qa Qa (Xn Qa Qa Qa (QO Qa Qa Qa Zh (QF Qa Qa Qa (Qn Qa QH (hS2.cell 1 Qa Qa)) (Q9 Qa Qa Qa (fun _=>(JZ Qa Qa)) ?_))))
 refine QI Qa Qa Qa (XB 10 Qa (fun h3=> ?_) (fun h3=> ?_))
 ·refine Q2 Qa Qa (Qs Qa Qa (QD h3)) (Q2 Qa Qa (Qs Qa Qa (QD h3)) (Q2 Qa Qa (Qs Qa Qa (QD h3)) (Q2 Qa Qa (Qs Qa Qa (QD h3)) (Q2 Qa Qa (Qs Qa Qa (QD h3)) (Q2 Qa Qa (Qs Qa Qa (QD h3)) (Q2 Qa Qa (Qs Qa Qa (QD h3)) (Q9 Qa Qa Qa (fun _=>(Xz Qa (QD h3) Qa)) ?_)))))))
  refine VC.nil (Qd (Qk [0,4,18] Qa (QP Qa (Qf (Qb (Qc Qa Qa (Qh (Qd (Qo (Qm (Q5 (.inr Qa) Qa Qa ?_)))))))))))
  exact⟨_,rfl, by unfold WM; rw[if_pos (by omega)]; exact(Sat.row_nil Zn (Qu (E:=E) ((hS2.pick [1,2,3,4,5,6] Qa))))⟩
 refine Q9 Qa Qa (Qp Qa Qa (Qx h3)) (fun _=>(Ev.gd (QS Qa Zz))) ?_
 refine QF Qa Qa (Qp Qa Qa (Qx h3)) (Ev.gd (Qn Qa QH (hS2.cell 0 Qa Qa))) (Q9 Qa Qa (Qp Qa Qa (Qx h3)) (fun _=>(Ev.gd (Xk Qa))) ?_)
 refine Q9 Qa Qa (Qp Qa Qa (Qx h3)) (fun _=>(Ev.gd (Xy Qa))) ?_
 refine Q9 Qa Qa (Qp Qa Qa (Qx h3)) (fun _=>(Ev.gd (QS Qa Wp))) ?_
 refine QF Qa Qa (Qp Qa Qa (Qx h3)) (Ev.gd (Qn Qa QH (hS2.cell 1 Qa Qa))) (Q9 Qa Qa (Qp Qa Qa (Qx h3)) (fun _=>(Ev.gd (JZ Qa Qa))) ?_)
 refine Q9 Qa Qa Qa (fun _=>(Xi Qa (Qx h3) Qa)) ?_
 refine VC.nil (Qd (Qk [0,4,18] Qa (Qv Qa (fun h4=> ?_) (fun h4=> ?_))))
 ·refine Qf (Qb (Qc Qa Qa (Qh (Qd (Qo (Qm (Q5 (.inr Qa) Qa Qa ?_)))))))
  exact⟨_,rfl, by unfold WM; rw[if_pos (by omega)]; exact(Sat.row_nil Zn (Qu (E:=E) ((hS2.pick [1,2,3,4,5,6] Qa))))⟩
 refine Qt (Qd (Qf (Qb (Qe Qa Qa (Ql Qa Qa (Qi Qa Xt Qa ?_))))))
 (refine Qw hS2 Qa Qa Yf (by rfl) (i:=1) Qa (QC Qa) ?_)
 intro w5 hS6; dsimp only[List.set]at hS6
 refine Qh (Qd (Qf ?_))
 have hS7:=Qu (E:={E with ses:=none}) (dp:=dp) ((ZQ (hS6.pick [1,2,3,5,6] Qa)).reorder [1,2,3,0,4,5] Qa)
 refine Qb (Qe Qa Qa (Q0 WH Qa (WG (hS7.sp [0] Qa) (hG.starL 0 Qa) (E:={E with ses:=none}) (k:=9) (a:=0) (b:=0) (s:=[]) (JW (XG (by decide)) hmv)) Qa ?_))
 rintro _ w8 ⟨rfl,hS8⟩
 replace hS8:=hS8.jn Qa Qa
 refine Xe Zn [Z3 E 9 0 0 []] hS8 Qa underlying66 J8 Qa Qa Qa Qa (by rfl) rfl ?_
 intro b9 w9 hS9
 refine Qc Qa Qa (Qh (Qd (Qo (Q5 (.inr Qa) Qa Qa ?_))))
 exact⟨_,rfl, by unfold WM; rw[if_neg (by omega)]; exact hS9.pick [0,1,2] Qa⟩
