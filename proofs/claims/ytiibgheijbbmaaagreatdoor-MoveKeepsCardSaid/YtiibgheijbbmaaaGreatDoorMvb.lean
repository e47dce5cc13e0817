/- move: hearNo -/
import Derived.Test.YtiibgheijbbmaaaGreatDoorMv7
set_option linter.unusedVariables false
set_option maxRecDepth 100000
namespace Go.Proofs.YtiibgheijbbmaaaGreatDoor
open Go.RowKit M Proofs.Tryz
section
variable {E:EnD} {m:MsD}
theorem TW (h: ¬(E.kind=2∧m.move=E.move)):WI E m=E:= by unfold WI; rw[if_neg h]
theorem Fj (h:E.kind=2∧m.move=E.move) (h2:(QU E 0 m.move).1≠0):WI E m=(QU E 0 m.move).2:= by unfold WI; rw[if_pos h,if_pos h2]
theorem EQ (h:E.kind=2∧m.move=E.move) (h2:(QU E 0 m.move).1=0):WI E m={(QU E 0 m.move).2 with off:=none}:= by unfold WI; rw[if_pos h,if_neg (by omega)]
end
theorem EP {w:World} {e:Nat} {E:EnD} {F:Th} (hS:Sat w [Xu e E,F]) (m:MsD) (hG:Ent F WireG) (hO:Ent F (Glob 0)) (hu:E.cell≠none) (hmm:X5 m.move):
    Calls prog 74 #[ptrV e 0,.agg #[intV m.kind,intV m.move,intV m.a,intV m.b,strV m.data]] w (Ret fun v w'=>Sat w' [rowT Z2 v ((WI E m,([]:List Bs))).2,Xu e ((WI E m,([]:List Bs))).1,F]):= by
 obtain⟨dp,cv,sv,ov,hS⟩:=QQ hS
 refine Qx func74 Qa ntmps74 Qa ?_
 refine Qg (Qb (XT hS Qa Qa Qa ?_))
 intro mp w1 hS1
 replace hS1:Sat w1 (QR mp [intV m.kind,intV m.move,intV m.a,intV m.b,strV m.data]::_):=hS1
 refine Qc Qa Qa (Qh (Qd (Qg (Qg ?_))))
 have hS2:=hS1.drew
 refine QM [0,1,2,3,4,5,6,7,8,9,10,11,12,13,14,15,16,17,18,19,20] [18] Wv (by kernel_rfl) ?_
 refine QK Qa Qa Qa (Xm Qa Qa Qa (QN Qa Qa Qa Zv (Q9 Qa Qa Qa (Qn Qa QF (hS2.cell 1 Qa Qa)) (QC Qa Qa Qa (fun _=>(HO Qa Qa)) ?_))))
 refine QK Qa Qa Qa (Z1 10 Qa (fun h3=> ?_) (fun h3=> ?_))
 ·have hk:=h3
  refine QC Qa Qa (Qs Qa Qa (Q8 h3)) (fun _=>(Ev.gd (QV Qa ZB))) ?_
  refine Q9 Qa Qa (Qs Qa Qa (Q8 h3)) (Ev.gd (Qn Qa QF (hS2.cell 0 Qa Qa))) (QC Qa Qa (Qs Qa Qa (Q8 h3)) (fun _=>(Ev.gd (Xt Qa))) ?_)
  refine QC Qa Qa (Qs Qa Qa (Q8 h3)) (fun _=>(Ev.gd (XC Qa))) ?_
  refine QC Qa Qa (Qs Qa Qa (Q8 h3)) (fun _=>(Ev.gd (QV Qa W5))) ?_
  refine Q9 Qa Qa (Qs Qa Qa (Q8 h3)) (Ev.gd (Qn Qa QF (hS2.cell 1 Qa Qa))) (QC Qa Qa (Qs Qa Qa (Q8 h3)) (fun _=>(Ev.gd (HO Qa Qa))) ?_)
  refine QC Qa Qa Qa (fun _=>(XG Qa (Q8 h3) Qa)) ?_
  refine QK Qa Qa Qa (Z1 19 Qa (fun h4=> ?_) (fun h4=> ?_))
  ·have hmo:=h4
   have hS5:=Qv (E:=E) (hS2.pick [1,2,3,4,5,0,6] Qa)
   refine QC Qa Qa (Qs Qa Qa (Q8 h4)) (fun _=>(Ev.gd (Xt Qa))) ?_
   refine QC Qa Qa (Qs Qa Qa (Q8 h4)) (fun _=>(Ev.gd (QV Qa ZB))) ?_
   refine Q9 Qa Qa (Qs Qa Qa (Q8 h4)) (Ev.gd (Qn Qa QF (hS5.cell 1 Qa Qa))) (QS Qa Qa (Qs Qa Qa (Q8 h4)) Qa Qa Qa ?_)
   refine Qz Ku Qa (UH (hS5.sp [0] Qa) (hG.starL 1 Qa) (hO.starL 1 Qa) hu (k:=0) (m:=m.move) (XM (by decide)) hmm) Qa ?_
   rintro _ w6 ⟨rfl,hS6⟩
   replace hS6:=hS6.jn Qa Qa
   refine Xe (Xp (by kernel_rfl)) ?_
   refine QC Qa Qa (Qs Qa Qa (Q8 h4)) (fun _=>(Ev.gd (HO Qa Qa))) ?_
   refine QC Qa Qa Qa (fun _=>(XG Qa (Q8 h4) Qa)) ?_
   refine VC.nil (Qd (Qk [0,4,25] Qa (Qt Qa (fun h7=> ?_) (fun h7=> ?_))))
   ·obtain⟨dp2,cv2,sv2,ov2,hS8⟩:=QQ (hS6.pick [0,1,2] rfl)
    refine Qb (Qe Qa Qa (Ql Qa Qa (Qi Qa WJ Qa ?_)))
    (refine Q7 hS8 Qa Qa NI (by rfl) (i:=0) Qa (Xd Qa) ?_)
    intro w9 hS10; dsimp only[List.set]at hS10
    refine Qh (Qd (Qg (Qb (Qc Qa Qa (Qh (Qd (Qo (Q5 (.inr Qa) Qa Qa ?_))))))))
    exact⟨_,rfl, by rw[EQ ⟨hk,hmo⟩ (by assumption)]; exact(Sat.row_nil Z2 (Qv (E:={(QU E 0 m.move).2 with off:=none}) (dp:=dp2) ((Wd (hS10.pick [0,1,2,3,6] Qa)).reorder [1,2,3,4,0,5] Qa)))⟩
   refine Qr (Qd (Qg (Qb (Qc Qa Qa (Qh (Qd (Qo (Q5 (.inr Qa) Qa Qa ?_))))))))
   exact⟨_,rfl, by rw[Fj ⟨hk,hmo⟩ (by simpa using h7)]; exact(Sat.row_nil Z2 (hS6.pick [0,2] Qa))⟩
  refine Q3 Qa Qa (Qu Qa Qa (Qw h4)) (Q3 Qa Qa (Qu Qa Qa (Qw h4)) (Q3 Qa Qa (Qu Qa Qa (Qw h4)) (VC.spineNot Qa Qa (Qu Qa Qa (Qw h4)) (Q3 Qa Qa (Qu Qa Qa (Qw h4)) (QC Qa Qa Qa (fun _=>(Xz Qa (Qw h4) Qa)) ?_)))))
  refine VC.nil (Qd (Qk [0,4,25] Qa (QI Qa (Qr (Qd (Qg (Qb (Qc Qa Qa (Qh (Qd (Qo (Q5 (.inr Qa) Qa Qa ?_))))))))))))
  exact⟨_,rfl, by rw[TW (by omega)]; exact(Sat.row_nil Z2 (Qv (E:=E) ((hS2.pick [1,2,3,4,5,6] Qa))))⟩
 refine Q3 Qa Qa (Qu Qa Qa (Qw h3)) (Q3 Qa Qa (Qu Qa Qa (Qw h3)) (Q3 Qa Qa (Qu Qa Qa (Qw h3)) (Q3 Qa Qa (Qu Qa Qa (Qw h3)) (Q3 Qa Qa (Qu Qa Qa (Qw h3)) (Q3 Qa Qa (Qu Qa Qa (Qw h3)) (Q3 Qa Qa (Qu Qa Qa (Qw h3)) (QC Qa Qa Qa (fun _=>(Xz Qa (Qw h3) Qa)) ?_)))))))
 refine QK Qa Qa Qa (Q3 Qa Qa (Qu Qa Qa Qa) (Q3 Qa Qa (Qu Qa Qa Qa) (Q3 Qa Qa (Qu Qa Qa Qa) (VC.spineNot Qa Qa (Qu Qa Qa Qa) (Q3 Qa Qa (Qu Qa Qa Qa) (QC Qa Qa Qa (fun _=>(Xz Qa Qa Qa)) ?_))))))
 refine VC.nil (Qd (Qk [0,4,25] Qa (QI Qa (Qr (Qd (Qg (Qb (Qc Qa Qa (Qh (Qd (Qo (Q5 (.inr Qa) Qa Qa ?_))))))))))))
 exact⟨_,rfl, by rw[TW (by omega)]; exact(Sat.row_nil Z2 (Qv (E:=E) ((hS2.pick [1,2,3,4,5,6] Qa))))⟩
