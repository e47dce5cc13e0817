/- move: hearNo -/
import Derived.Test.YtiibgheijbbmaaaGreatDoorMv7
set_option linter.unusedVariables false
set_option maxRecDepth 100000
namespace Go.Proofs.YtiibgheijbbmaaaGreatDoor
open Go.RowKit M Proofs.Tryz
section
variable {E:EnD} {m:MsD}
theorem Mk (h: ¬(E.kind=2∧m.move=E.move)):J4 E m=E:= by unfold J4; rw[if_neg h]
theorem Po (h:E.kind=2∧m.move=E.move) (h2:(QT E 0 m.move).1≠0):J4 E m=(QT E 0 m.move).2:= by unfold J4; rw[if_pos h,if_pos h2]
theorem FR (h:E.kind=2∧m.move=E.move) (h2:(QT E 0 m.move).1=0):J4 E m={(QT E 0 m.move).2 with off:=none}:= by unfold J4; rw[if_pos h,if_neg (by omega)]
end
theorem FQ {w:World} {e:Nat} {E:EnD} {F:Th} (hS:Sat w [Xw e E,F]) (m:MsD) (hG:Ent F WireG) (hO:Ent F (Glob 0)) (hu:E.cell≠none) (hmm:X4 m.move):
    Calls prog 74 #[ptrV e 0,.agg #[intV m.kind,intV m.move,intV m.a,intV m.b,strV m.data]] w (Ret fun v w'=>Sat w' [rowT Zn v ((J4 E m,([]:List Bs))).2,Xw e ((J4 E m,([]:List Bs))).1,F]):= by
 obtain⟨dp,cv,sv,ov,hS⟩:=QU hS
 refine Qy func74 Qa ntmps74 Qa ?_
 refine Qf (Qb (Za hS Qa Qa Qa ?_))
 intro mp w1 hS1
 replace hS1:Sat w1 (Xb mp [intV m.kind,intV m.move,intV m.a,intV m.b,strV m.data]::_):=hS1
 refine Qc Qa Qa (Qh (Qd (Qf (Qf ?_))))
 have hS2:=hS1.drew
 refine QN [0,1,2,3,4,5,6,7,8,9,10,11,12,13,14,15,16,17,18,19,20] [18] W5 (by kernel_rfl) ?_
 refine QI Qa Qa Qa (Xn Qa Qa Qa (QO Qa Qa Qa Zh (QF Qa Qa Qa (Qn Qa QH (hS2.cell 1 Qa Qa)) (Q9 Qa Qa Qa (fun _=>(Ya Qa Qa)) ?_))))
 refine QI Qa Qa Qa (XB 10 Qa (fun h3=> ?_) (fun h3=> ?_))
 ·have hk:=h3
  refine Q9 Qa Qa (Qp Qa Qa (QD h3)) (fun _=>(Ev.gd (QS Qa Zz))) ?_
  refine QF Qa Qa (Qp Qa Qa (QD h3)) (Ev.gd (Qn Qa QH (hS2.cell 0 Qa Qa))) (Q9 Qa Qa (Qp Qa Qa (QD h3)) (fun _=>(Ev.gd (Xk Qa))) ?_)
  refine Q9 Qa Qa (Qp Qa Qa (QD h3)) (fun _=>(Ev.gd (Xy Qa))) ?_
  refine Q9 Qa Qa (Qp Qa Qa (QD h3)) (fun _=>(Ev.gd (QS Qa Wp))) ?_
  refine QF Qa Qa (Qp Qa Qa (QD h3)) (Ev.gd (Qn Qa QH (hS2.cell 1 Qa Qa))) (Q9 Qa Qa (Qp Qa Qa (QD h3)) (fun _=>(Ev.gd (Ya Qa Qa))) ?_)
  refine Q9 Qa Qa Qa (fun _=>(Xz Qa (QD h3) Qa)) ?_
  refine QI Qa Qa Qa (XB 19 Qa (fun h4=> ?_) (fun h4=> ?_))
  ·have hmo:=h4
   have hS5:=Qu (E:=E) (hS2.pick [1,2,3,4,5,0,6] Qa)
   refine Q9 Qa Qa (Qp Qa Qa (QD h4)) (fun _=>(Ev.gd (Xk Qa))) ?_
   refine Q9 Qa Qa (Qp Qa Qa (QD h4)) (fun _=>(Ev.gd (QS Qa Zz))) ?_
   refine QF Qa Qa (Qp Qa Qa (QD h4)) (Ev.gd (Qn Qa QH (hS5.cell 1 Qa Qa))) (QV Qa Qa (Qp Qa Qa (QD h4)) Qa Qa Qa ?_)
   refine Q0 VF Qa (Ul (hS5.sp [0] Qa) (hG.starL 1 Qa) (hO.starL 1 Qa) hu (k:=0) (m:=m.move) (XG (by decide)) hmm) Qa ?_
   rintro _ w6 ⟨rfl,hS6⟩
   replace hS6:=hS6.jn Qa Qa
   refine Xd (Xq (by kernel_rfl)) ?_
   refine Q9 Qa Qa (Qp Qa Qa (QD h4)) (fun _=>(Ev.gd (Ya Qa Qa))) ?_
   refine Q9 Qa Qa Qa (fun _=>(Xz Qa (QD h4) Qa)) ?_
   refine VC.nil (Qd (Qk [0,4,25] Qa (Qv Qa (fun h7=> ?_) (fun h7=> ?_))))
   ·obtain⟨dp2,cv2,sv2,ov2,hS8⟩:=QU (hS6.pick [0,1,2] rfl)
    refine Qb (Qe Qa Qa (Ql Qa Qa (Qi Qa W2 Qa ?_)))
    (refine Qw hS8 Qa Qa Vf (by rfl) (i:=0) Qa (QC Qa) ?_)
    intro w9 hS10; dsimp only[List.set]at hS10
    refine Qh (Qd (Qf (Qb (Qc Qa Qa (Qh (Qd (Qo (Q5 (.inr Qa) Qa Qa ?_))))))))
    exact⟨_,rfl, by rw[FR ⟨hk,hmo⟩ (by assumption)]; exact(Sat.row_nil Zn (Qu (E:={(QT E 0 m.move).2 with off:=none}) (dp:=dp2) ((ZR (hS10.pick [0,1,2,3,6] Qa)).reorder [1,2,3,4,0,5] Qa)))⟩
   refine Qt (Qd (Qf (Qb (Qc Qa Qa (Qh (Qd (Qo (Q5 (.inr Qa) Qa Qa ?_))))))))
   exact⟨_,rfl, by rw[Po ⟨hk,hmo⟩ (by simpa using h7)]; exact(Sat.row_nil Zn (hS6.pick [0,2] Qa))⟩
  refine Q2 Qa Qa (Qs Qa Qa (Qx h4)) (Q2 Qa Qa (Qs Qa Qa (Qx h4)) (Q2 Qa Qa (Qs Qa Qa (Qx h4)) (VC.spineNot Qa Qa (Qs Qa Qa (Qx h4)) (Q2 Qa Qa (Qs Qa Qa (Qx h4)) (Q9 Qa Qa Qa (fun _=>(Xi Qa (Qx h4) Qa)) ?_)))))
  refine VC.nil (Qd (Qk [0,4,25] Qa (QJ Qa (Qt (Qd (Qf (Qb (Qc Qa Qa (Qh (Qd (Qo (Q5 (.inr Qa) Qa Qa ?_))))))))))))
  exact⟨_,rfl, by rw[Mk (by omega)]; exact(Sat.row_nil Zn (Qu (E:=E) ((hS2.pick [1,2,3,4,5,6] Qa))))⟩
 refine Q2 Qa Qa (Qs Qa Qa (Qx h3)) (Q2 Qa Qa (Qs Qa Qa (Qx h3)) (Q2 Qa Qa (Qs Qa Qa (Qx h3)) (Q2 Qa Qa (Qs Qa Qa (Qx h3)) (Q2 Qa Qa (Qs Qa Qa (Qx h3)) (Q2 Qa Qa (Qs Qa Qa (Qx h3)) (Q2 Qa Qa (Qs Qa Qa (Qx h3)) (Q9 Qa Qa Qa (fun _=>(Xi Qa (Qx h3) Qa)) ?_)))))))
 refine QI Qa Qa Qa (Q2 Qa Qa (Qs Qa Qa Qa) (Q2 Qa Qa (Qs Qa Qa Qa) (Q2 Qa Qa (Qs Qa Qa Qa) (VC.spineNot Qa Qa (Qs Qa Qa Qa) (Q2 Qa Qa (Qs Qa Qa Qa) (Q9 Qa Qa Qa (fun _=>(Xi Qa Qa Qa)) ?_))))))
 refine VC.nil (Qd (Qk [0,4,25] Qa (QJ Qa (Qt (Qd (Qf (Qb (Qc Qa Qa (Qh (Qd (Qo (Q5 (.inr Qa) Qa Qa ?_))))))))))))
 exact⟨_,rfl, by rw[Mk (by omega)]; exact(Sat.row_nil Zn (Qu (E:=E) ((hS2.pick [1,2,3,4,5,6] Qa))))⟩
