/- move: Owner, Freeze, Cancel -/
import Derived.Test.YtiibgheijbbmaaaGreatDoorMv3
set_option linter.unusedVariables false
set_option maxRecDepth 100000
namespace Go.Proofs.YtiibgheijbbmaaaGreatDoor
open Go.RowKit M Proofs.Tryz
theorem Pm {w:World} {a b:Nat} {E1 E2:EnD} {F:Th} (hS:Sat w [Xs a E1,Xs b E2,F]) (hG:Ent F WireG) (hO:Ent F (Glob 0)):
    Calls prog 13 #[ptrV a 0,ptrV b 0] w (Ret fun v w'=>v=intV (J5 (WD E1) (WD E2))∧Sat w' [Xs a E1,Xs b E2,F]):= by
 refine Qy func13 Qa ntmps13 Qa ?_
 refine Qg (Qb (Qc Qa Qa (Qh (Qe (Qg (Qb (Qd Qa Qa (Q4 qan Qa (T5 (hS.sp [0] Qa) (hG.starL 1 Qa) (hO.starL 1 Qa)) Qa ?_))))))))
 rintro _ w1 ⟨rfl,hS1⟩
 replace hS1:=hS1.jn Qa Qa
 refine Qd Qa Qa (Q9 Qa Qa Qa (Q9 Qa Qa Qa (Qc Qa Qa (Qc Qa Qa (Qh (Qe (Qg (Qb (Qd Qa Qa (Q4 qan Qa (T5 (hS1.sp [1] Qa) (hG.starL 1 Qa) (hO.starL 1 Qa)) Qa ?_))))))))))
 rintro _ w2 ⟨rfl,hS2⟩
 replace hS2:=hS2.jn Qa Qa
 refine Qd Qa Qa (Q9 Qa Qa Qa (Q9 Qa Qa Qa (Qc Qa Qa (Qc Qa Qa (Qh (Qe (Qk [4,5,6,7,8] Qa (Qg (QD (Qg (Qb (Qd Qa Qa (QO Qa Qa Qa (Qc Qa Qa (Qh (Qe (Qw Qa (fun h3=> ?_) (fun h3=> ?_))))))))))))))))))
 ·refine Qg (Qb (Qc Qa Qa (Qh (Qe (Qo (Q0 (Qm (Q7 (.inr Qa) Qa Qa ?_))))))))
  exact⟨_,rfl,congrArg intV (by unfold J5;simp_all),hS2.pick [1,0,2] Qa⟩
 refine Qg (Qb (Qd Qa Qa (QO Qa Qa Qa (Qc Qa Qa (Qh (Qe (Qk [4,5,6,7,8,22] Qa (Qw Qa (fun h4=> ?_) (fun h4=> ?_)))))))))
 ·refine Qg (Qb (Qc Qa Qa (Qh (Qe (Qo (Q0 (Qm (Q7 (.inr Qa) Qa Qa ?_))))))))
  exact⟨_,rfl,congrArg intV (by unfold J5;simp_all),hS2.pick [1,0,2] Qa⟩
 refine Qg (Qb (Qd Qa Qa (Qd Qa Qa (QO Qa Qa Qa (Qd Qa Qa (Q3 29 Qa (fun h5=> ?_) (fun h5=> ?_)))))))
 ·refine Qj Qa Qa (Q8 h5) (Qd Qa Qa (Qj Qa Qa (Q8 h5) (QO Qa Qa Qa (Qx Qa (Q8 h5) Qa Qa (Qd Qa Qa (Q3 33 Qa (fun h6=> ?_) (fun h6=> ?_)))))))
  ·refine Qj Qa Qa (Q8 h6) (Qd Qa Qa (Qj Qa Qa (Q8 h6) (QO Qa Qa Qa (Qx Qa (Q8 h6) Qa Qa (Qc Qa Qa (Qh (Qe (Qk [4,5,6,7,8,25] Qa (Qw Qa (fun h7=> ?_) (fun h7=> ?_))))))))))
   ·refine Qg (Qb (Qc Qa Qa (Qh (Qe (Qo (Q0 (Qm (Q7 (.inr Qa) Qa Qa ?_))))))))
    exact⟨_,rfl,congrArg intV (by unfold J5;simp_all),hS2.pick [1,0,2] Qa⟩
   refine Qg (Qb (Qd Qa Qa (Qd Qa Qa (QO Qa Qa Qa (Qd Qa Qa (Q3 41 Qa (fun h8=> ?_) (fun h8=> ?_)))))))
   ·refine Qj Qa Qa (Q8 h8) (Qd Qa Qa (Qj Qa Qa (Q8 h8) (QO Qa Qa Qa (Qx Qa (Q8 h8) Qa Qa (Qd Qa Qa (Q3 45 Qa (fun h9=> ?_) (fun h9=> ?_)))))))
    ·refine Qj Qa Qa (Q8 h9) (Qd Qa Qa (Qj Qa Qa (Q8 h9) (QO Qa Qa Qa (Qx Qa (Q8 h9) Qa Qa (Qc Qa Qa (Qh (Qe (Qk [4,37] Qa (Qw Qa (fun h10=> ?_) (fun h10=> ?_))))))))))
     ·refine Qg (Qb (Qc Qa Qa (Qh (Qe (Qo (Q0 (Qm (Q7 (.inr Qa) Qa Qa ?_))))))))
      exact⟨_,rfl,congrArg intV (by unfold J5;simp_all),hS2.pick [1,0,2] Qa⟩
     refine Qr (Qq (Qe (Qg (Qb (Qc Qa Qa (Qh (Qe (Qo (Q7 (.inr Qa) Qa Qa ?_)))))))))
     exact⟨_,rfl,congrArg intV (by unfold J5;simp_all),hS2.pick [1,0,2] Qa⟩
    refine Qf Qa Qa (Qv h9) Qa (Qf Qa Qa (Qv h9) Qa (Qz Qa (Qv h9) Qa Qa (Qc Qa Qa (Qh (Qe (Qk [4,37] Qa (QF Qa (Qr (Qq (Qe (Qg (Qb (Qc Qa Qa (Qh (Qe (Qo (Q7 (.inr Qa) Qa Qa ?_)))))))))))))))))
    exact⟨_,rfl,congrArg intV (by unfold J5;simp_all),hS2.pick [1,0,2] Qa⟩
   refine Qf Qa Qa (Qv h8) Qa (Qf Qa Qa (Qv h8) Qa (Qz Qa (Qv h8) Qa Qa (Qd Qa Qa (Qf Qa Qa Qa Qa (Qf Qa Qa Qa Qa (Qz Qa Qa Qa Qa (Qc Qa Qa (Qh (Qe (Qk [4,37] Qa (QF Qa (Qr (Qq (Qe (Qg (Qb (Qc Qa Qa (Qh (Qe (Qo (Q7 (.inr Qa) Qa Qa ?_)))))))))))))))))))))
   exact⟨_,rfl,congrArg intV (by unfold J5;simp_all),hS2.pick [1,0,2] Qa⟩
  refine Qf Qa Qa (Qv h6) Qa (Qf Qa Qa (Qv h6) Qa (Qz Qa (Qv h6) Qa Qa (Qc Qa Qa (Qh (Qe (Qk [4,5,6,7,8,25] Qa (QF Qa (Qg (Qb (Qd Qa Qa (Qd Qa Qa (QO Qa Qa Qa (Qd Qa Qa (Q3 41 Qa (fun h11=> ?_) (fun h11=> ?_)))))))))))))))
  ·refine Qj Qa Qa (Q8 h11) (Qd Qa Qa (Qj Qa Qa (Q8 h11) (QO Qa Qa Qa (Qx Qa (Q8 h11) Qa Qa (Qd Qa Qa (Q3 45 Qa (fun h12=> ?_) (fun h12=> ?_)))))))
   ·refine Qj Qa Qa (Q8 h12) (Qd Qa Qa (Qj Qa Qa (Q8 h12) (QO Qa Qa Qa (Qx Qa (Q8 h12) Qa Qa (Qc Qa Qa (Qh (Qe (Qk [4,37] Qa (Qw Qa (fun h13=> ?_) (fun h13=> ?_))))))))))
    ·refine Qg (Qb (Qc Qa Qa (Qh (Qe (Qo (Q0 (Qm (Q7 (.inr Qa) Qa Qa ?_))))))))
     exact⟨_,rfl,congrArg intV (by unfold J5;simp_all),hS2.pick [1,0,2] Qa⟩
    refine Qr (Qq (Qe (Qg (Qb (Qc Qa Qa (Qh (Qe (Qo (Q7 (.inr Qa) Qa Qa ?_)))))))))
    exact⟨_,rfl,congrArg intV (by unfold J5;simp_all),hS2.pick [1,0,2] Qa⟩
   refine Qf Qa Qa (Qv h12) Qa (Qf Qa Qa (Qv h12) Qa (Qz Qa (Qv h12) Qa Qa (Qc Qa Qa (Qh (Qe (Qk [4,37] Qa (QF Qa (Qr (Qq (Qe (Qg (Qb (Qc Qa Qa (Qh (Qe (Qo (Q7 (.inr Qa) Qa Qa ?_)))))))))))))))))
   exact⟨_,rfl,congrArg intV (by unfold J5;simp_all),hS2.pick [1,0,2] Qa⟩
  refine Qf Qa Qa (Qv h11) Qa (Qf Qa Qa (Qv h11) Qa (Qz Qa (Qv h11) Qa Qa (Qd Qa Qa (Qf Qa Qa Qa Qa (Qf Qa Qa Qa Qa (Qz Qa Qa Qa Qa (Qc Qa Qa (Qh (Qe (Qk [4,37] Qa (QF Qa (Qr (Qq (Qe (Qg (Qb (Qc Qa Qa (Qh (Qe (Qo (Q7 (.inr Qa) Qa Qa ?_)))))))))))))))))))))
  exact⟨_,rfl,congrArg intV (by unfold J5;simp_all),hS2.pick [1,0,2] Qa⟩
 refine Qf Qa Qa (Qv h5) Qa (Qf Qa Qa (Qv h5) Qa (Qz Qa (Qv h5) Qa Qa (Qd Qa Qa (Qf Qa Qa Qa Qa (Qf Qa Qa Qa Qa (Qz Qa Qa Qa Qa (Qc Qa Qa (Qh (Qe (Qk [4,5,6,7,8,25] Qa (QF Qa (Qg (Qb (Qd Qa Qa (Qd Qa Qa (QO Qa Qa Qa (Qd Qa Qa (Q3 41 Qa (fun h14=> ?_) (fun h14=> ?_)))))))))))))))))))
 ·refine Qj Qa Qa (Q8 h14) (Qd Qa Qa (Qj Qa Qa (Q8 h14) (QO Qa Qa Qa (Qx Qa (Q8 h14) Qa Qa (Qd Qa Qa (Q3 45 Qa (fun h15=> ?_) (fun h15=> ?_)))))))
  ·refine Qj Qa Qa (Q8 h15) (Qd Qa Qa (Qj Qa Qa (Q8 h15) (QO Qa Qa Qa (Qx Qa (Q8 h15) Qa Qa (Qc Qa Qa (Qh (Qe (Qk [4,37] Qa (Qw Qa (fun h16=> ?_) (fun h16=> ?_))))))))))
   ·refine Qg (Qb (Qc Qa Qa (Qh (Qe (Qo (Q0 (Qm (Q7 (.inr Qa) Qa Qa ?_))))))))
    exact⟨_,rfl,congrArg intV (by unfold J5;simp_all),hS2.pick [1,0,2] Qa⟩
   refine Qr (Qq (Qe (Qg (Qb (Qc Qa Qa (Qh (Qe (Qo (Q7 (.inr Qa) Qa Qa ?_)))))))))
   exact⟨_,rfl,congrArg intV (by unfold J5;simp_all),hS2.pick [1,0,2] Qa⟩
  refine Qf Qa Qa (Qv h15) Qa (Qf Qa Qa (Qv h15) Qa (Qz Qa (Qv h15) Qa Qa (Qc Qa Qa (Qh (Qe (Qk [4,37] Qa (QF Qa (Qr (Qq (Qe (Qg (Qb (Qc Qa Qa (Qh (Qe (Qo (Q7 (.inr Qa) Qa Qa ?_)))))))))))))))))
  exact⟨_,rfl,congrArg intV (by unfold J5;simp_all),hS2.pick [1,0,2] Qa⟩
 refine Qf Qa Qa (Qv h14) Qa (Qf Qa Qa (Qv h14) Qa (Qz Qa (Qv h14) Qa Qa (Qd Qa Qa (Qf Qa Qa Qa Qa (Qf Qa Qa Qa Qa (Qz Qa Qa Qa Qa (Qc Qa Qa (Qh (Qe (Qk [4,37] Qa (QF Qa (Qr (Qq (Qe (Qg (Qb (Qc Qa Qa (Qh (Qe (Qo (Q7 (.inr Qa) Qa Qa ?_)))))))))))))))))))))
 exact⟨_,rfl,congrArg intV (by unfold J5;simp_all),hS2.pick [1,0,2] Qa⟩
theorem TY {w:World} {e:Nat} {E:EnD} {F:Th} (hS:Sat w [Xs e E,F]):
    Calls prog 31 #[ptrV e 0] w (Ret fun v w'=>v=intV (Zb E).1∧Sat w' [Xs e (Zb E).2,F]):= by
 refine Qy func31 Qa ntmps31 Qa ?_
 refine Qg (Qb (Qc Qa Qa (Qh (Qe (Qg (Qg (Qb (Qd Qa Qa (Q4 Vb Qa (HA (hS.sp [0] Qa)) Qa ?_)))))))))
 rintro _ w1 ⟨rfl,hS1⟩
 replace hS1:=hS1.jn Qa Qa
 obtain⟨dp,cv,sv,ov,hS2⟩:=QW (hS1.pick [0,1] rfl)
 refine XS Qa Qa (Qd Qa Qa (Zz 6 Qa (fun h3=> ?_) (fun h3=> ?_)))
 ·refine Qf Qa Qa h3 Qa (Qf Qa Qa h3 Qa (Qf Qa Qa h3 Qa (Qf Qa Qa h3 Qa (Qf Qa Qa h3 Qa (Qx Qa h3 Qa Qa (Qh (Qe (Qk [0,2,12] Qa (QL Qa (Qg (Qb (Qc Qa Qa (Qh (Qe (Qo (Qm (Q7 (.inr Qa) Qa Qa ?_)))))))))))))))))
  exact⟨_,rfl, by unfold Zb; rw[if_pos (by simp_all)], by unfold Zb; rw[if_pos (by simp_all)]; exact Qu (E:=E) ((hS2.pick [0,1,2,3,4,5] Qa))⟩
 refine Qj Qa Qa h3 (Qd Qa Qa (Qj Qa Qa h3 (Ql Qa Qa (Qj Qa Qa h3 (Qi Qa Zo Qa (Qj Qa Qa h3 (Qp Qa JT (hS2.cell 0 Qa Qa) Qa (Qj Qa Qa h3 (XS Qa Qa (Qz Qa h3 Qa Qa (Qh (Qe (Qk [0,2,12] Qa (Xd Qa (fun h4=> ?_) (fun h4=> ?_)))))))))))))))
 ·refine Qg (Qb (Qc Qa Qa (Qh (Qe (Qo (Qm (Q7 (.inr Qa) Qa Qa ?_)))))))
  exact⟨_,rfl, by unfold Zb; rw[if_pos (by simp_all)], by unfold Zb; rw[if_pos (by simp_all)]; exact Qu (E:=E) ((hS2.pick [0,1,2,3,4,5] Qa))⟩
 refine Qr (Qe (Qg (Qb (Qd Qa Qa (Ql Qa Qa (Qi Qa Jf Qa ?_))))))
 first | (refine QC hS2 Qa Qa Jy (by rfl) (i:=0) Qa (Xe Qa) ?_)
 intro w5 hS6; dsimp only[List.set]at hS6
 refine Qh (Qe (Qg (Qb (Qc Qa Qa (Qh (Qe (Qo (Q7 (.inr Qa) Qa Qa ?_))))))))
 exact⟨_,rfl, by unfold Zb; rw[if_neg (by simp_all)], by unfold Zb; rw[if_neg (by simp_all)]; exact Qu (E:={E with frozen:=true}) ((hS6.pick [0,1,2,3,4,5] Qa))⟩
theorem Bi:WP newD 0=0∧Hf newD 0=RG 0:= by
  obtain⟨a,b,_⟩:=Good.begin (f:=0) (P:= fun _ _=>True) (by decide) trivial
  exact⟨a,b⟩
theorem Dy {w:World} {F:Th} (hS:Sat w [F]) (hO:Ent F (Glob 0)):
    Calls prog 34 #[] w (Ret fun v w'=> ∃e,v=ptrV e 0∧Sat w' [Xs e JS,F]):= by
 refine Qy func34 Qa ntmps34 Qa ?_
 refine Qg (Qb (Qc Qa Qa (Qh (Qe (Qg (Qb (Q4 cal_63 Qa (new_sp (hS.sp [] Qa)) Qa ?_)))))))
 rintro _ w1 ⟨dp,rfl,hS1⟩
 replace hS1:=hS1.jn Qa Qa
 replace hS1:=dT_new hS1
 refine JJ (vs':=[ptrV dp 0,.pointer none,intV 0,intV 0,.pointer none,.bool false,.bool false,intV 0,.bool false,.pointer none]) Qa Ll qar zr_81 Qa Qa Qa (XZ hS1 Qa Qa Qa ?_)
 intro ep w2 hS2
 refine Qc Qa Qa (Qh (Qe (Qg (Qb (Qd Qa Qa (Qd Qa Qa (Ql Qa Qa (Qi Qa CZ Qa (Qp Qa GK (hS2.cell 0 Qa Qa) Qa (Ub qab Qa (open_sp (hS2.sp [1] Qa) (hO.starL 1 Qa) 0) Qa ?_))))))))))
 rintro e w3 ⟨_,rfl,(⟨ho,cp,rfl,hS3⟩ | ⟨ho,rfl,hS3⟩)⟩
 ·refine⟨_,Qa, ?_⟩
  replace hS3:=hS3.jn Qa Qa
  rw[Bi.2]at hS3
  refine Qd Qa Qa (Q9 Qa Qa Qa (Q9 Qa Qa Qa (Ql Qa Qa (Qi Qa CY Qa ?_))))
  (refine QC hS3 Qa Qa sz_77 (by rfl) (i:=2) Qa (Xe Qa) ?_)
  intro w4 hS5; dsimp only[List.set]at hS5
  refine Qh (Qe (Qk [0,1] Qa (Qg (Qb (Qd Qa Qa (Qc Qa Qa (Qh (Qe (Qo (Q7 (.inr Qa) Qa Qa ?_))))))))))
  exact⟨_,rfl,ep,rfl,Qu (E:=JS) (dp:=dp) ((VP (C:=RG 0) (by rw[←Bi.2]; exact TM _ _) (ZQ (Wh (hS5.pick [0,2,1,3] Qa)) |>.reorder [2,3,4,0,1,5] Qa)).reorder [1,2,0,3,4,5] Qa)⟩
 exact absurd Bi.1 ho
structure MsOk (m:MsD):Prop where
  k:Xy m.kind
  n:Xy m.move
  a:Xy m.a
  b:Xy m.b
  d:m.data.length≤20000000
theorem IJ {s:Bs} (h:s.length≤20000000):(HO s).length≤20000100:= by
  have h1:=(WQ (n:=(s.length:Int)) (by unfold Xy;omega)).1
  unfold HO
  simp only[List.length_append,List.length_cons,List.length_nil];omega
theorem Bj {w:World} {F:Th} (hS:Sat w [F]) (hG:Ent F WireG) {m:MsD} (hm:MsOk m):
    Calls prog 79 #[.agg #[intV m.kind,intV m.move,intV m.a,intV m.b,strV m.data]] w (Ret fun v w'=>v=strV (Zy m)∧Sat w' [F]):= by
 refine Qy func79 Qa ntmps79 Qa ?_
 have h0:=(WQ hm.k).1
 have h1:=(WQ hm.n).1
 have h2:=(WQ hm.a).1
 have h3:=(WQ hm.b).1
 have h4:=IJ hm.d
 refine Qg (Qb (XZ hS Qa Qa Qa ?_))
 intro bp wp hSp0
 have hSp:Sat wp [QR bp [intV m.kind,intV m.move,intV m.a,intV m.b,strV m.data],F]:=hSp0
 refine Qc Qa Qa (Qh (Qe (Qg ?_)))
 have hS1:=hSp.drew
 refine QT [0,1,3,4,7,8,11,12,15,16,2,5,6,9,10,13,14,17,18,19] [2,5,9,13,17] Jk (by kernel_rfl) ?_
 refine QQ Qa Qa Qa JE (QH Qa Qa Qa (Qn Qa QK (hS1.cell 0 Qa Qa)) (QQ Qa Qa Qa ZE (QH Qa Qa Qa (Qn Qa QK (hS1.cell 0 Qa Qa)) (QQ Qa Qa Qa Ws (QH Qa Qa Qa (Qn Qa QK (hS1.cell 0 Qa Qa)) (QQ Qa Qa Qa Jw (QH Qa Qa Qa (Qn Qa QK (hS1.cell 0 Qa Qa)) (QQ Qa Qa Qa HM (QH Qa Qa Qa (Qn Qa Zw (hS1.cell 0 Qa Qa)) (Xb Qa Qa Qa Qa Qa Qa ?_))))))))))
 refine Q4 U1 Qa (YZ (hS1.sp [] Qa) (hG.starL 1 Qa) m.kind hm.k) Qa ?_
 rintro _ w2 ⟨rfl,hS2⟩
 replace hS2:=hS2.jn Qa Qa
 refine Xn (.cons (.inl ⟨rfl,(Qn Qa Zw (hS2.cell 0 Qa Qa))⟩) (.cons (.inl ⟨rfl,(Qn Qa QK (hS2.cell 0 Qa Qa))⟩) (.cons (.inl ⟨rfl,(Qn Qa QK (hS2.cell 0 Qa Qa))⟩) (.cons (.inl ⟨rfl,(Qn Qa QK (hS2.cell 0 Qa Qa))⟩) (XC (by kernel_rfl)))))) ?_
 refine Xb Qa Qa Qa Qa Qa Qa ?_
 refine Q4 U1 Qa (YZ (hS2.sp [] Qa) (hG.starL 1 Qa) m.move hm.n) Qa ?_
 rintro _ w3 ⟨rfl,hS3⟩
 replace hS3:=hS3.jn Qa Qa
 refine Xn (.cons (.inl ⟨rfl,(Qn Qa Zw (hS3.cell 0 Qa Qa))⟩) (.cons (.inl ⟨rfl,(Qn Qa QK (hS3.cell 0 Qa Qa))⟩) (.cons (.inl ⟨rfl,(Qn Qa QK (hS3.cell 0 Qa Qa))⟩) (XC (by kernel_rfl))))) ?_
 refine QG Qa Qa Qa (fun _=>(YV Qa Qa (by(simp only[List.length_append,List.length_cons,List.length_nil];omega)))) ?_
 refine Xb Qa Qa Qa Qa Qa Qa ?_
 refine Q4 U1 Qa (YZ (hS3.sp [] Qa) (hG.starL 1 Qa) m.a hm.a) Qa ?_
 rintro _ w4 ⟨rfl,hS4⟩
 replace hS4:=hS4.jn Qa Qa
 refine Xn (.cons (.inl ⟨rfl,(Qn Qa Zw (hS4.cell 0 Qa Qa))⟩) (.cons (.inl ⟨rfl,(Qn Qa QK (hS4.cell 0 Qa Qa))⟩) (XC (by kernel_rfl)))) ?_
 refine QG Qa Qa Qa (fun _=>(YV Qa Qa (by(simp only[List.length_append,List.length_cons,List.length_nil];omega)))) ?_
 refine Xb Qa Qa Qa Qa Qa Qa ?_
 refine Q4 U1 Qa (YZ (hS4.sp [] Qa) (hG.starL 1 Qa) m.b hm.b) Qa ?_
 rintro _ w5 ⟨rfl,hS5⟩
 replace hS5:=hS5.jn Qa Qa
 refine Xn (.cons (.inl ⟨rfl,(Qn Qa Zw (hS5.cell 0 Qa Qa))⟩) (XC (by kernel_rfl))) ?_
 refine QG Qa Qa Qa (fun _=>(YV Qa Qa (by(simp only[List.length_append,List.length_cons,List.length_nil];omega)))) ?_
 refine Xb Qa Qa Qa Qa Qa Qa ?_
 refine Q4 LU Qa (NF (hS5.sp [] Qa) (hG.starL 1 Qa) m.data (by have :=hm.d;omega)) Qa ?_
 rintro _ w6 ⟨rfl,hS6⟩
 replace hS6:=hS6.jn Qa Qa
 refine Xn (XC (by kernel_rfl)) ?_
 refine QG Qa Qa Qa (fun _=>(YV Qa Qa (by(simp only[List.length_append,List.length_cons,List.length_nil];omega)))) ?_
 exact Jr Qa Qa Qa (VC.nil (Qe (Qk [2] Qa (Qo (Q7 (.inr Qa) Qa Qa (⟨_,Qa,Qa,hS6.pick [1] Qa⟩))))))
theorem WX {w:World} {e:Nat} {E:EnD} {F:Th} (hS:Sat w [Xs e E,F]) (hG:Ent F WireG) {k a b:Int} {s:Bs} (hm:MsOk ⟨k,E.move,a,b,s⟩):
    Calls prog 64 #[ptrV e 0,intV k,intV a,intV b,strV s] w (Ret fun v w'=>v=strV (Ze E k a b s)∧Sat w' [Xs e E,F]):= by
 obtain⟨dp,cv,sv,ov,hS⟩:=QW hS
 refine Qy func64 Qa ntmps64 Qa ?_
 refine Qg (Qb (Qc Qa Qa (Qh (Qe (Qg (Qb (Qd Qa Qa (Qd Qa Qa (Ql Qa Qa (Qi Qa WH Qa (Qp Qa QK (hS.cell 0 Qa Qa) Qa (Qd Qa Qa (Qd Qa Qa (Qd Qa Qa (JJ (vs':=[intV k,intV E.move,intV a,intV b,strV s]) Qa Vt N4 Ck Qa Qa Qa (Q4 FK Qa (Bj (hS.sp [] Qa) (hG.starL 5 Qa) (m:=⟨k,E.move,a,b,s⟩) hm) Qa ?_))))))))))))))))
 rintro _ w1 ⟨rfl,hS1⟩
 replace hS1:=hS1.jn Qa Qa
 exact Qc Qa Qa (Qh (Qe (Qk [10] Qa (Qo (Q7 (.inr Qa) Qa Qa (⟨_,Qa,Qa,Qu (E:=E) ((hS1.pick [0,1,2,3,4,5] Qa))⟩))))))
theorem BJ {w:World} {e:Nat} {E:EnD} {F:Th} (hS:Sat w [Xs e E,F]) (s:Bs):
    Calls prog 46 #[ptrV e 0,strV s] w (Ret fun v w'=>v=intV (XM E s).1∧Sat w' [Xs e (XM E s).2,F]):= by
 refine Qy func46 Qa ntmps46 Qa ?_
 refine Qg (Qb (Qc Qa Qa (Qh (Qe (Qg (QD (Qg (Qb (Qd Qa Qa (Q4 Vb Qa (HA (hS.sp [0] Qa)) Qa ?_))))))))))
 rintro _ w1 ⟨rfl,hS1⟩
 replace hS1:=hS1.jn Qa Qa
 refine XS Qa Qa (Qc Qa Qa (Qh (Qe (Xd Qa (fun h2=> ?_) (fun h2=> ?_)))))
 ·have hr:Z5 E=false:= by simpa using h2
  refine Qg (Qb (Qc Qa Qa (Qh (Qe (Qo (Q0 (Qm (Q7 (.inr Qa) Qa Qa ?_))))))))
  exact⟨_,rfl, by unfold XM; rw[if_pos hr], by unfold XM; rw[if_pos hr]; exact hS1.pick [0,1] Qa⟩
 have hrun: ¬Z5 E=false:= by simpa using h2
 refine Qg (Qb (Qd Qa Qa (Zs underlying9 Qa Qa (We Qa Qa Qa (Qc Qa Qa (Qh (Qe (Qk [1,0,4,9] Qa (Qw Qa (fun h3=> ?_) (fun h3=> ?_))))))))))
 ·refine Qg (Qb (Qc Qa Qa (Qh (Qe (Qo (Q0 (Qm (Q7 (.inr Qa) Qa Qa ?_))))))))
  exact⟨_,rfl, by unfold XM; rw[if_neg hrun,if_pos (by omega)], by unfold XM; rw[if_neg hrun,if_pos (by omega)]; exact hS1.pick [0,1] Qa⟩
 refine Qr (Qq (Qe (Qg ?_)))
 obtain⟨dp,cv,sv,ov,hS4⟩:=QW (hS1.pick [0,1] rfl)
 obtain⟨x,hx⟩: ∃x,E.ses=some x:=(JO hrun).2.2.2
 rw[hx]at hS4
 obtain⟨sb,sm,rfl,hS5⟩:=Zn (hS4.pick [3,0,1,2,4,5] rfl)
 refine Qb (Qd Qa Qa (Ql Qa Qa (Qi Qa Xm Qa (Qp Qa Z8 (hS5.cell 2 Qa Qa) Qa (Qd Qa Qa (Ql Qa Qa (Qi Qa Gw Qa ?_)))))))
 (refine QC hS5 Qa Qa R8 (by rfl) (i:=0) Qa (Xe Qa) ?_)
 intro w6 hS7; dsimp only[List.set]at hS7
 refine Qh (Qe (Qk [4] Qa (Qg (Qb (Qc Qa Qa (Qh (Qe (Qo (Q7 (.inr Qa) Qa Qa ?_)))))))))
 exact⟨_,rfl, by unfold XM; rw[if_neg hrun,if_neg (by omega)], by unfold XM; rw[if_neg hrun,if_neg (by omega),hx]; exact Qu (E:={E with ses:=some {x with state:=s}}) ((Xg (s:={x with state:=s}) (hS7.pick [0,1,2,3,4,5,6] Qa)).reorder [1,2,3,0,4,5] Qa)⟩
theorem A8 {w:World} {e:Nat} {E:EnD} {F:Th} (hS:Sat w [Xs e E,F]):
    Calls prog 23 #[ptrV e 0] w (Ret fun v w'=>v= .tuple #[strV (match E.ses with | some s=>s.state | none=>[]),.bool E.ses.isSome]∧Sat w' [Xs e E,F]):= by
 obtain⟨dp,cv,sv,ov,hS⟩:=QW hS
 refine Qy func23 Qa ntmps23 Qa ?_
 refine Qg (Qb (Qc Qa Qa (Qc Qa Qa (Qh (Qe (Qg (Qg (Qb (Qd Qa Qa (Ql Qa Qa (Qi Qa Xm Qa (Qp Qa Z8 (hS.cell 0 Qa Qa) Qa ?_))))))))))))
 rcases hq_s:E.ses with _ | s
 ·rw[hq_s]at hS
  obtain⟨rfl,hSo1⟩:=WM (hS.pick [3,0,1,2,4,5] rfl)
  refine ZN underlying78 Qa Qa Qa (Qh (Qe (QL Qa (Qg (Qb (Qc Qa Qa (Qc Qa Qa (Qh (Qe (Qo (Qm (ZI (.inr Qa) Qa Qa Qa ?_))))))))))))
  exact⟨_,rfl,rfl,Qu (E:=E) (by rw[hq_s]; exact((ZQ hSo1).pick [1,2,3,0,4,5] Qa))⟩
 rw[hq_s]at hS
 obtain⟨sb,sm,rfl,hSo2⟩:=Zn (hS.pick [3,0,1,2,4,5] rfl)
 refine ZJ underlying78 Qa Qa Qa (Qh (Qe (QF Qa (Qr (Qe (Qg (Qb (Qd Qa Qa (Ql Qa Qa (Qi Qa Xm Qa (Qp Qa Z8 (hSo2.cell 2 Qa Qa) Qa (Ql Qa Qa (Qi Qa Gw Qa (Qp Qa Zw (hSo2.cell 0 Qa Qa) Qa (Qc Qa Qa (Qc Qa Qa (Qh (Qe (Qk [2,3] Qa (Qo (ZI (.inr Qa) Qa Qa Qa ?_)))))))))))))))))))))
 exact⟨_,rfl,rfl,Qu (E:=E) (by rw[hq_s]; exact((Xg (hSo2.pick [0,1,2,3,4,5,6] Qa)).pick [1,2,3,0,4,5] Qa))⟩
def Z4:RowC Bytes:=⟨fun s=>[strV s],1, by decide, fun _=>rfl, fun _=>rfl⟩
theorem Yw {k n:Int} (hk:Xy k) (hn:Xy n):MsOk ⟨k,n,0,0,[]⟩:=⟨hk,hn, by unfold Xy; dsimp only;omega, by unfold Xy; dsimp only;omega, by show([]:Bs).length≤_; simp⟩
theorem XJ {k:Int} (h:0≤k∧k≤9):Xy k:= by unfold Xy;omega
theorem An {w:World} {e:Nat} {E:EnD} {F:Th} (hS:Sat w [Xs e E,F]) (m:MsD):
    Calls prog 78 #[ptrV e 0,.agg #[intV m.kind,intV m.move,intV m.a,intV m.b,strV m.data]] w (Ret fun v w'=>Sat w' [rowT Z4 v ((Jd E m,([]:List Bs))).2,Xs e ((Jd E m,([]:List Bs))).1,F]):= by
 obtain⟨dp,cv,sv,ov,hS⟩:=QW hS
 refine Qy func78 Qa ntmps78 Qa ?_
 refine Qg (Qb (XZ hS Qa Qa Qa ?_))
 intro mp w1 hS1
 replace hS1:Sat w1 (QR mp [intV m.kind,intV m.move,intV m.a,intV m.b,strV m.data]::_):=hS1
 refine Qc Qa Qa (Qh (Qe (Qg (Qg ?_))))
 have hS2:=hS1.drew
 refine QT [0,1,2,3,4,5,6,7,8,9,10,11,12,13] [] Jk (by kernel_rfl) ?_
 refine QM Qa Qa Qa (Xw Qa Qa Qa (QQ Qa Qa Qa Z0 (QH Qa Qa Qa (Qn Qa QK (hS2.cell 1 Qa Qa)) (QG Qa Qa Qa (fun _=>(HV Qa Qa)) ?_))))
 refine QM Qa Qa Qa (ZK 10 Qa (fun h3=> ?_) (fun h3=> ?_))
 ·refine QG Qa Qa (Qt Qa Qa (Q8 h3)) (fun _=>(Ev.gd (QV Qa ZE))) ?_
  refine QH Qa Qa (Qt Qa Qa (Q8 h3)) (Ev.gd (Qn Qa QK (hS2.cell 0 Qa Qa))) (QG Qa Qa (Qt Qa Qa (Q8 h3)) (fun _=>(Ev.gd (XA Qa))) ?_)
  refine QG Qa Qa (Qt Qa Qa (Q8 h3)) (fun _=>(Ev.gd (XH Qa))) ?_
  refine QG Qa Qa (Qt Qa Qa (Q8 h3)) (fun _=>(Ev.gd (QV Qa WH))) ?_
  refine QH Qa Qa (Qt Qa Qa (Q8 h3)) (Ev.gd (Qn Qa QK (hS2.cell 1 Qa Qa))) (QG Qa Qa (Qt Qa Qa (Q8 h3)) (fun _=>(Ev.gd (HV Qa Qa))) ?_)
  refine QG Qa Qa Qa (fun _=>(XL Qa (Q8 h3) Qa)) ?_
  refine VC.nil (Qe (Qk [0,4,18] Qa (Qw Qa (fun h4=> ?_) (fun h4=> ?_))))
  ·refine Qb (Qd Qa Qa (Ql Qa Qa (Qi Qa Ug Qa ?_)))
   (refine QC hS2 Qa Qa Jy (by rfl) (i:=1) Qa (Xe Qa) ?_)
   intro w5 hS6; dsimp only[List.set]at hS6
   refine Qh (Qe (Qg (Qb (Qc Qa Qa (Qh (Qe (Qo (Q7 (.inr Qa) Qa Qa ?_))))))))
   exact⟨_,rfl, by unfold Jd; rw[if_pos (by simp_all)]; exact(Sat.row_nil Z4 (Qu (E:={E with told:=true}) ((hS6.pick [1,2,3,4,5,6] Qa))))⟩
  refine Qr (Qe (Qg (Qb (Qc Qa Qa (Qh (Qe (Qo (Q7 (.inr Qa) Qa Qa ?_))))))))
  exact⟨_,rfl, by unfold Jd; rw[if_neg (by simp_all)]; exact(Sat.row_nil Z4 (Qu (E:=E) ((hS2.pick [1,2,3,4,5,6] Qa))))⟩
 refine Q2 Qa Qa (Qs Qa Qa (Qv h3)) (Q2 Qa Qa (Qs Qa Qa (Qv h3)) (Q2 Qa Qa (Qs Qa Qa (Qv h3)) (Q2 Qa Qa (Qs Qa Qa (Qv h3)) (Q2 Qa Qa (Qs Qa Qa (Qv h3)) (Q2 Qa Qa (Qs Qa Qa (Qv h3)) (Q2 Qa Qa (Qs Qa Qa (Qv h3)) (QG Qa Qa Qa (fun _=>(X0 Qa (Qv h3) Qa)) ?_)))))))
 refine VC.nil (Qe (Qk [0,4,18] Qa (QF Qa (Qr (Qe (Qg (Qb (Qc Qa Qa (Qh (Qe (Qo (Q7 (.inr Qa) Qa Qa ?_))))))))))))
 exact⟨_,rfl, by unfold Jd; rw[if_neg (by simp_all)]; exact(Sat.row_nil Z4 (Qu (E:=E) ((hS2.pick [1,2,3,4,5,6] Qa))))⟩
theorem PK {w:World} {e:Nat} {E:EnD} {F:Th} (hS:Sat w [Xs e E,F]) (m:MsD) (hG:Ent F WireG) (hmv:Xy E.move):
    Calls prog 77 #[ptrV e 0,.agg #[intV m.kind,intV m.move,intV m.a,intV m.b,strV m.data]] w (Ret fun v w'=>Sat w' [rowT Z4 v (Z6 E m).2,Xs e (Z6 E m).1,F]):= by
 obtain⟨dp,cv,sv,ov,hS⟩:=QW hS
 refine Qy func77 Qa ntmps77 Qa ?_
 refine Qg (Qb (XZ hS Qa Qa Qa ?_))
 intro mp w1 hS1
 replace hS1:Sat w1 (QR mp [intV m.kind,intV m.move,intV m.a,intV m.b,strV m.data]::_):=hS1
 refine Qc Qa Qa (Qh (Qe (Qg (Qg ?_))))
 have hS2:=hS1.drew
 refine QT [0,1,2,3,4,5,6,7,8,9,10,11,12,13] [] Jk (by kernel_rfl) ?_
 refine QM Qa Qa Qa (Xw Qa Qa Qa (QQ Qa Qa Qa Z0 (QH Qa Qa Qa (Qn Qa QK (hS2.cell 1 Qa Qa)) (QG Qa Qa Qa (fun _=>(Ye Qa Qa)) ?_))))
 refine QM Qa Qa Qa (ZK 10 Qa (fun h3=> ?_) (fun h3=> ?_))
 ·refine Q2 Qa Qa (Qs Qa Qa (Q8 h3)) (Q2 Qa Qa (Qs Qa Qa (Q8 h3)) (Q2 Qa Qa (Qs Qa Qa (Q8 h3)) (Q2 Qa Qa (Qs Qa Qa (Q8 h3)) (Q2 Qa Qa (Qs Qa Qa (Q8 h3)) (Q2 Qa Qa (Qs Qa Qa (Q8 h3)) (Q2 Qa Qa (Qs Qa Qa (Q8 h3)) (QG Qa Qa Qa (fun _=>(XL Qa (Q8 h3) Qa)) ?_)))))))
  refine VC.nil (Qe (Qk [0,4,18] Qa (QL Qa (Qg (Qb (Qc Qa Qa (Qh (Qe (Qo (Qm (Q7 (.inr Qa) Qa Qa ?_)))))))))))
  exact⟨_,rfl, by unfold Z6; rw[if_pos (by omega)]; exact(Sat.row_nil Z4 (Qu (E:=E) ((hS2.pick [1,2,3,4,5,6] Qa))))⟩
 refine QG Qa Qa (Qt Qa Qa (Qv h3)) (fun _=>(Ev.gd (QV Qa ZE))) ?_
 refine QH Qa Qa (Qt Qa Qa (Qv h3)) (Ev.gd (Qn Qa QK (hS2.cell 0 Qa Qa))) (QG Qa Qa (Qt Qa Qa (Qv h3)) (fun _=>(Ev.gd (XA Qa))) ?_)
 refine QG Qa Qa (Qt Qa Qa (Qv h3)) (fun _=>(Ev.gd (XH Qa))) ?_
 refine QG Qa Qa (Qt Qa Qa (Qv h3)) (fun _=>(Ev.gd (QV Qa WH))) ?_
 refine QH Qa Qa (Qt Qa Qa (Qv h3)) (Ev.gd (Qn Qa QK (hS2.cell 1 Qa Qa))) (QG Qa Qa (Qt Qa Qa (Qv h3)) (fun _=>(Ev.gd (Ye Qa Qa))) ?_)
 refine QG Qa Qa Qa (fun _=>(X0 Qa (Qv h3) Qa)) ?_
 refine VC.nil (Qe (Qk [0,4,18] Qa (Qw Qa (fun h4=> ?_) (fun h4=> ?_))))
 ·refine Qg (Qb (Qc Qa Qa (Qh (Qe (Qo (Qm (Q7 (.inr Qa) Qa Qa ?_)))))))
  exact⟨_,rfl, by unfold Z6; rw[if_pos (by omega)]; exact(Sat.row_nil Z4 (Qu (E:=E) ((hS2.pick [1,2,3,4,5,6] Qa))))⟩
 refine Qr (Qe (Qg (Qb (Qd Qa Qa (Ql Qa Qa (Qi Qa Xm Qa ?_))))))
 (refine QC hS2 Qa Qa DT (by rfl) (i:=1) Qa (Xe Qa) ?_)
 intro w5 hS6; dsimp only[List.set]at hS6
 refine Qh (Qe (Qg ?_))
 have hS7:=Qu (E:={E with ses:=none}) (dp:=dp) ((ZQ (hS6.pick [1,2,3,5,6] Qa)).reorder [1,2,3,0,4,5] Qa)
 refine Qb (Qd Qa Qa (Q4 WY Qa (WX (hS7.sp [0] Qa) (hG.starL 0 Qa) (E:={E with ses:=none}) (k:=9) (a:=0) (b:=0) (s:=[]) (Yw (XJ (by decide)) hmv)) Qa ?_))
 rintro _ w8 ⟨rfl,hS8⟩
 replace hS8:=hS8.jn Qa Qa
 refine Xc Z4 [Ze E 9 0 0 []] hS8 Qa underlying66 JZ Qa Qa Qa Qa (by rfl) rfl ?_
 intro b9 w9 hS9
 refine Qc Qa Qa (Qh (Qe (Qo (Q7 (.inr Qa) Qa Qa ?_))))
 exact⟨_,rfl, by unfold Z6; rw[if_neg (by omega)]; exact hS9.pick [0,1,2] Qa⟩
section
variable {E:EnD} {m:MsD}
theorem TX (h: ¬(E.kind=2∧m.move=E.move)):WF E m=E:= by unfold WF; rw[if_neg h]
theorem Fy (h:E.kind=2∧m.move=E.move) (h2:(QS E 0 m.move).1≠0):WF E m=(QS E 0 m.move).2:= by unfold WF; rw[if_pos h,if_pos h2]
theorem Ap (h:E.kind=2∧m.move=E.move) (h2:(QS E 0 m.move).1=0):WF E m={(QS E 0 m.move).2 with off:=none}:= by unfold WF; rw[if_pos h,if_neg (by omega)]
end
theorem Ao {w:World} {e:Nat} {E:EnD} {F:Th} (hS:Sat w [Xs e E,F]) (m:MsD) (hG:Ent F WireG) (hO:Ent F (Glob 0)) (hu:E.cell≠none) (hmm:Xy m.move):
    Calls prog 74 #[ptrV e 0,.agg #[intV m.kind,intV m.move,intV m.a,intV m.b,strV m.data]] w (Ret fun v w'=>Sat w' [rowT Z4 v ((WF E m,([]:List Bs))).2,Xs e ((WF E m,([]:List Bs))).1,F]):= by
 obtain⟨dp,cv,sv,ov,hS⟩:=QW hS
 refine Qy func74 Qa ntmps74 Qa ?_
 refine Qg (Qb (XZ hS Qa Qa Qa ?_))
 intro mp w1 hS1
 replace hS1:Sat w1 (QR mp [intV m.kind,intV m.move,intV m.a,intV m.b,strV m.data]::_):=hS1
 refine Qc Qa Qa (Qh (Qe (Qg (Qg ?_))))
 have hS2:=hS1.drew
 refine QT [0,1,2,3,4,5,6,7,8,9,10,11,12,13,14,15,16,17,18,19,20] [18] Jk (by kernel_rfl) ?_
 refine QM Qa Qa Qa (Xw Qa Qa Qa (QQ Qa Qa Qa Z0 (QH Qa Qa Qa (Qn Qa QK (hS2.cell 1 Qa Qa)) (QG Qa Qa Qa (fun _=>(HV Qa Qa)) ?_))))
 refine QM Qa Qa Qa (ZK 10 Qa (fun h3=> ?_) (fun h3=> ?_))
 ·have hk:=h3
  refine QG Qa Qa (Qt Qa Qa (Q8 h3)) (fun _=>(Ev.gd (QV Qa ZE))) ?_
  refine QH Qa Qa (Qt Qa Qa (Q8 h3)) (Ev.gd (Qn Qa QK (hS2.cell 0 Qa Qa))) (QG Qa Qa (Qt Qa Qa (Q8 h3)) (fun _=>(Ev.gd (XA Qa))) ?_)
  refine QG Qa Qa (Qt Qa Qa (Q8 h3)) (fun _=>(Ev.gd (XH Qa))) ?_
  refine QG Qa Qa (Qt Qa Qa (Q8 h3)) (fun _=>(Ev.gd (QV Qa WH))) ?_
  refine QH Qa Qa (Qt Qa Qa (Q8 h3)) (Ev.gd (Qn Qa QK (hS2.cell 1 Qa Qa))) (QG Qa Qa (Qt Qa Qa (Q8 h3)) (fun _=>(Ev.gd (HV Qa Qa))) ?_)
  refine QG Qa Qa Qa (fun _=>(XL Qa (Q8 h3) Qa)) ?_
  refine QM Qa Qa Qa (ZK 19 Qa (fun h4=> ?_) (fun h4=> ?_))
  ·have hmo:=h4
   have hS5:=Qu (E:=E) (hS2.pick [1,2,3,4,5,0,6] Qa)
   refine QG Qa Qa (Qt Qa Qa (Q8 h4)) (fun _=>(Ev.gd (XA Qa))) ?_
   refine QG Qa Qa (Qt Qa Qa (Q8 h4)) (fun _=>(Ev.gd (QV Qa ZE))) ?_
   refine QH Qa Qa (Qt Qa Qa (Q8 h4)) (Ev.gd (Qn Qa QK (hS5.cell 1 Qa Qa))) (Xb Qa Qa (Qt Qa Qa (Q8 h4)) Qa Qa Qa ?_)
   refine Q4 KC Qa (UG (hS5.sp [0] Qa) (hG.starL 1 Qa) (hO.starL 1 Qa) hu (k:=0) (m:=m.move) (XJ (by decide)) hmm) Qa ?_
   rintro _ w6 ⟨rfl,hS6⟩
   replace hS6:=hS6.jn Qa Qa
   refine Xn (XC (by kernel_rfl)) ?_
   refine QG Qa Qa (Qt Qa Qa (Q8 h4)) (fun _=>(Ev.gd (HV Qa Qa))) ?_
   refine QG Qa Qa Qa (fun _=>(XL Qa (Q8 h4) Qa)) ?_
   refine VC.nil (Qe (Qk [0,4,25] Qa (Qw Qa (fun h7=> ?_) (fun h7=> ?_))))
   ·obtain⟨dp2,cv2,sv2,ov2,hS8⟩:=QW (hS6.pick [0,1,2] rfl)
    refine Qb (Qd Qa Qa (Ql Qa Qa (Qi Qa WG Qa ?_)))
    (refine QC hS8 Qa Qa NO (by rfl) (i:=0) Qa (Xe Qa) ?_)
    intro w9 hS10; dsimp only[List.set]at hS10
    refine Qh (Qe (Qg (Qb (Qc Qa Qa (Qh (Qe (Qo (Q7 (.inr Qa) Qa Qa ?_))))))))
    exact⟨_,rfl, by rw[Ap ⟨hk,hmo⟩ (by assumption)]; exact(Sat.row_nil Z4 (Qu (E:={(QS E 0 m.move).2 with off:=none}) (dp:=dp2) ((Wh (hS10.pick [0,1,2,3,6] Qa)).reorder [1,2,3,4,0,5] Qa)))⟩
   refine Qr (Qe (Qg (Qb (Qc Qa Qa (Qh (Qe (Qo (Q7 (.inr Qa) Qa Qa ?_))))))))
   exact⟨_,rfl, by rw[Fy ⟨hk,hmo⟩ (by simpa using h7)]; exact(Sat.row_nil Z4 (hS6.pick [0,2] Qa))⟩
  refine Q2 Qa Qa (Qs Qa Qa (Qv h4)) (Q2 Qa Qa (Qs Qa Qa (Qv h4)) (Q2 Qa Qa (Qs Qa Qa (Qv h4)) (VC.spineNot Qa Qa (Qs Qa Qa (Qv h4)) (Q2 Qa Qa (Qs Qa Qa (Qv h4)) (QG Qa Qa Qa (fun _=>(X0 Qa (Qv h4) Qa)) ?_)))))
  refine VC.nil (Qe (Qk [0,4,25] Qa (QF Qa (Qr (Qe (Qg (Qb (Qc Qa Qa (Qh (Qe (Qo (Q7 (.inr Qa) Qa Qa ?_))))))))))))
  exact⟨_,rfl, by rw[TX (by omega)]; exact(Sat.row_nil Z4 (Qu (E:=E) ((hS2.pick [1,2,3,4,5,6] Qa))))⟩
 refine Q2 Qa Qa (Qs Qa Qa (Qv h3)) (Q2 Qa Qa (Qs Qa Qa (Qv h3)) (Q2 Qa Qa (Qs Qa Qa (Qv h3)) (Q2 Qa Qa (Qs Qa Qa (Qv h3)) (Q2 Qa Qa (Qs Qa Qa (Qv h3)) (Q2 Qa Qa (Qs Qa Qa (Qv h3)) (Q2 Qa Qa (Qs Qa Qa (Qv h3)) (QG Qa Qa Qa (fun _=>(X0 Qa (Qv h3) Qa)) ?_)))))))
 refine QM Qa Qa Qa (Q2 Qa Qa (Qs Qa Qa Qa) (Q2 Qa Qa (Qs Qa Qa Qa) (Q2 Qa Qa (Qs Qa Qa Qa) (VC.spineNot Qa Qa (Qs Qa Qa Qa) (Q2 Qa Qa (Qs Qa Qa Qa) (QG Qa Qa Qa (fun _=>(X0 Qa Qa Qa)) ?_))))))
 refine VC.nil (Qe (Qk [0,4,25] Qa (QF Qa (Qr (Qe (Qg (Qb (Qc Qa Qa (Qh (Qe (Qo (Q7 (.inr Qa) Qa Qa ?_))))))))))))
 exact⟨_,rfl, by rw[TX (by omega)]; exact(Sat.row_nil Z4 (Qu (E:=E) ((hS2.pick [1,2,3,4,5,6] Qa))))⟩
