/- move: hearTarget -/
import Derived.Test.YtiibgheijbbmaaaGreatDoorMv7
set_option linter.unusedVariables false
set_option maxRecDepth 100000
set_option maxHeartbeats 2000000
namespace Go.Proofs.YtiibgheijbbmaaaGreatDoor
open Go.RowKit M Proofs.Tryz
section
variable {E:EnD} {m:MsD}
theorem H1 {k n:Int} (hu:E.cell≠none) (h:(QS E k n).1=0):(QS E k n).2.move=n:= by
  obtain⟨C,hC⟩:=Option.ne_none_iff_exists'.1 hu
  by_cases q:(ZB E.D C (Xi k++Xi n)).e=0
  · rw[Ku hC q]
  · rw[Bh hC q]at h; exact absurd h q
abbrev noB (m:MsD):Bs:=Zy ⟨5,m.move,0,0,[]⟩
theorem CQ (h:E.kind=3∧m.move=E.move):Xh E m=(E,[Ze E 4 0 0 []]):= by unfold Xh; rw[if_pos h]
theorem LC (h: ¬(E.kind=3∧m.move=E.move)) (h1:E.kind≠1):Xh E m=(E,[]):= by unfold Xh; rw[if_neg h,if_pos h1]
theorem LB (h1:E.kind=1) (h:m.kind=2∧m.move=E.move∧E.active=true∧E.frozen=true) (h2:(QS E 3 E.move).1≠0):Xh E m=((QS E 3 E.move).2,[]):= by unfold Xh; rw[if_neg (by omega),if_neg (by omega),if_pos h,if_pos h2]
theorem CP (h1:E.kind=1) (h:m.kind=2∧m.move=E.move∧E.active=true∧E.frozen=true) (h2:(QS E 3 E.move).1=0):Xh E m=({(QS E 3 E.move).2 with active:=false},[Ze (QS E 3 E.move).2 4 0 0 []]):= by unfold Xh; rw[if_neg (by omega),if_neg (by omega),if_pos h,if_neg (by omega)]
theorem UI (h1:E.kind=1) (h: ¬(m.kind=2∧m.move=E.move∧E.active=true∧E.frozen=true)) (h2:m.kind=3∧m.move=E.move∧E.active=true):Xh E m=({E with active:=false,frozen:=false},[noB m]):= by unfold Xh; rw[if_neg (by omega),if_neg (by omega),if_neg h,if_pos h2]
theorem ZT (h1:E.kind=1) (h: ¬(m.kind=2∧m.move=E.move∧E.active=true∧E.frozen=true)) (h2: ¬(m.kind=3∧m.move=E.move∧E.active=true)):Xh E m=(E,[noB m]):= by unfold Xh; rw[if_neg (by omega),if_neg (by omega),if_neg h,if_neg h2]
end
theorem R3 {w:World} {e:Nat} {E:EnD} {F:Th} (hS:Sat w [Xs e E,F]) (m:MsD) (hG:Ent F WireG) (hO:Ent F (Glob 0)) (hu:E.cell≠none) (hmm:Xy m.move) (hmv:Xy E.move):
    Calls prog 72 #[ptrV e 0,.agg #[intV m.kind,intV m.move,intV m.a,intV m.b,strV m.data]] w (Ret fun v w'=>Sat w' [rowT Z4 v (Xh E m).2,Xs e (Xh E m).1,F]):= by
 obtain⟨dp,cv,sv,ov,hS⟩:=QW hS
 refine Qy func72 Qa ntmps72 Qa ?_
 refine Qg (Qb (XZ hS Qa Qa Qa ?_))
 intro mp w1 hS1
 replace hS1:Sat w1 (QR mp [intV m.kind,intV m.move,intV m.a,intV m.b,strV m.data]::_):=hS1
 refine Qc Qa Qa (Qh (Qe (Qg ?_)))
 have hS2:=hS1.drew
 refine QT [0,1,2,3,4,5,6,7] [] Jk (by kernel_rfl) ?_
 refine QQ Qa Qa Qa ZE (QH Qa Qa Qa (Qn Qa QK (hS2.cell 0 Qa Qa)) (QM Qa Qa Qa (Xw Qa Qa Qa (QQ Qa Qa Qa WH (QH Qa Qa Qa (Qn Qa QK (hS2.cell 1 Qa Qa)) (QG Qa Qa Qa (fun _=>(HV Qa Qa)) ?_))))))
 refine Jr Qa Qa Qa (VC.nil (Qe (Qk [0,3,4,5] Qa (Qg (Qb (Qi Qa ZE Qa (Qp Qa QK (hS2.cell 0 Qa Qa) Qa (JJ (vs':=[intV 5,intV m.move,intV 0,intV 0,strV []]) Qa Fe N4 Ck Qa Qa Qa (Q4 FK Qa (Bj (hS2.sp [] Qa) (hG.starL 6 Qa) (m:=⟨5,m.move,0,0,[]⟩) (Yw (XJ (by decide)) hmm)) Qa ?_)))))))))
 rintro _ w3 ⟨rfl,hS3⟩
 replace hS3:=hS3.jn Qa Qa
 refine Xc Z4 [noB m] hS3 Qa underlying66 JZ Qa Qa Qa Qa (by rfl) rfl ?_
 intro b4 w4 hS4
 refine Qc Qa Qa (Qh (Qe (Qg (QD (Qg (Qb (Qd Qa Qa (Ql Qa Qa (Qi Qa Z0 Qa (Qp Qa QK (hS4.cell 2 Qa Qa) Qa (QO Qa Qa Qa (Qd Qa Qa (Q3 25 Qa (fun h5=> ?_) (fun h5=> ?_))))))))))))))
 ·refine Qj Qa Qa (Q8 h5) (Qd Qa Qa (Qx Qa (Q8 h5) Qa Qa (Qc Qa Qa (Qh (Qe (Qk [0,3,4,5,6,19] Qa (Qw Qa (fun h6=> ?_) (fun h6=> ?_))))))))
  ·refine Qg ?_
   have hS7:=Qu (E:=E) (hS4.pick [2,3,4,5,6,0,1,7] Qa)
   refine Qb (Qd Qa Qa (Q4 WY Qa (WX (hS7.sp [0] Qa) (hG.starL 2 Qa) (k:=4) (a:=0) (b:=0) (s:=[]) (Yw (XJ (by decide)) hmv)) Qa ?_))
   rintro _ w8 ⟨rfl,hS8⟩
   replace hS8:=hS8.jn Qa Qa
   refine Xc Z4 [Ze E 4 0 0 []] hS8 Qa underlying66 JZ Qa Qa Qa Qa (by rfl) rfl ?_
   intro b9 w9 hS9
   refine Qc Qa Qa (Qh (Qe (Qo (Q0 (Qm (Q7 (.inr Qa) Qa Qa ?_))))))
   exact⟨_,rfl, by rw[CQ (by omega)]; exact hS9.pick [0,1,4] Qa⟩
  refine Qg (Qb (Qd Qa Qa (Ql Qa Qa (Qi Qa Z0 Qa (Qp Qa QK (hS4.cell 2 Qa Qa) Qa (Xt Qa Qa Qa (Qc Qa Qa (Qh (Qe (Qk [0,3,4,5,6,31] Qa (Qw Qa (fun h10=> ?_) (fun h10=> ?_))))))))))))
  ·refine Qg (Qb (Qc Qa Qa (Qh (Qe (Qo (Q0 (Qm (Q7 (.inr Qa) Qa Qa ?_))))))))
   exact⟨_,rfl, by rw[LC (by omega) (by omega)]; exact(Sat.row_nil Z4 (Qu (E:=E) ((hS4.pick [2,3,4,5,6,7] Qa))))⟩
  refine Qg (Qb (Qi Qa JE Qa (Qp Qa QK (hS4.cell 1 Qa Qa) Qa (QO Qa Qa Qa (Qd Qa Qa (Q3 41 Qa (fun h11=> ?_) (fun h11=> ?_)))))))
  ·refine Qj Qa Qa (Q8 h11) (Qd Qa Qa (Qx Qa (Q8 h11) Qa Qa (Qd Qa Qa (Q3 44 Qa (fun h12=> ?_) (fun h12=> ?_)))))
   ·refine Qj Qa Qa (Q8 h12) (Qd Qa Qa (Qj Qa Qa (Q8 h12) (Ql Qa Qa (Qj Qa Qa (Q8 h12) (Qi Qa Zo Qa (Qj Qa Qa (Q8 h12) (Qp Qa JT (hS4.cell 2 Qa Qa) Qa (Qx Qa (Q8 h12) Qa Qa (Qd Qa Qa (Zz 50 Qa (fun h13=> ?_) (fun h13=> ?_)))))))))))
    ·refine Qj Qa Qa h13 (Qd Qa Qa (Qj Qa Qa h13 (Ql Qa Qa (Qj Qa Qa h13 (Qi Qa Jf Qa (Qj Qa Qa h13 (Qp Qa JT (hS4.cell 2 Qa Qa) Qa (Qx Qa h13 Qa Qa (Qc Qa Qa (Qh (Qe (Qk [0,3,4,5,6,37] Qa (Xd Qa (fun h14=> ?_) (fun h14=> ?_))))))))))))))
     ·refine Qg (Qg (Qb (Qd Qa Qa (Qd Qa Qa (Ql Qa Qa (Qi Qa WH Qa (Qp Qa QK (hS4.cell 2 Qa Qa) Qa ?_)))))))
      have hS15:=Qu (E:=E) (hS4.pick [2,3,4,5,6,0,1,7] Qa)
      refine Q4 KC Qa (UG (hS15.sp [0] Qa) (hG.starL 2 Qa) (hO.starL 2 Qa) hu (k:=3) (m:=E.move) (XJ (by decide)) hmv) Qa ?_
      rintro _ w16 ⟨rfl,hS16⟩
      replace hS16:=hS16.jn Qa Qa
      refine Xt Qa Qa Qa (Qh (Qe (Qk [0,4,6,62] Qa (Qw Qa (fun h17=> ?_) (fun h17=> ?_)))))
      ·refine Qg (Qb (Qc Qa Qa (Qh (Qe (Qo (Qm (Q0 (Qm (Q7 (.inr Qa) Qa Qa ?_)))))))))
       exact⟨_,rfl, by rw[LB (by omega) (by omega) (by omega)]; exact(Sat.row_nil Z4 (hS16.pick [0,3] Qa))⟩
      have hn0:(QS E 3 E.move).1=0:=Decidable.not_not.1 h17
      have hnm:Xy (QS E 3 E.move).2.move:= by rw[H1 hu hn0]; exact hmv
      refine Qr (Qe (Qg ?_))
      obtain⟨dp2,cv2,sv2,ov2,hS18⟩:=QW (hS16.pick [0,1,2,3] rfl)
      refine Qb (Qd Qa Qa (Ql Qa Qa (Qi Qa Zo Qa ?_)))
      (refine QC hS18 Qa Qa Jy (by rfl) (i:=0) Qa (Xe Qa) ?_)
      intro w19 hS20; dsimp only[List.set]at hS20
      refine Qh (Qe (Qg ?_))
      have hS21:=Qu (E:={(QS E 3 E.move).2 with active:=false}) (hS20.pick [0,1,2,3,4,5,6,7] Qa)
      refine Qb (Qd Qa Qa (Q4 WY Qa (WX (hS21.sp [0] Qa) (hG.starL 2 Qa) (E:={(QS E 3 E.move).2 with active:=false}) (k:=4) (a:=0) (b:=0) (s:=[]) (Yw (XJ (by decide)) hnm)) Qa ?_))
      rintro _ w22 ⟨rfl,hS22⟩
      replace hS22:=hS22.jn Qa Qa
      refine Xc Z4 [Ze (QS E 3 E.move).2 4 0 0 []] hS22 Qa underlying66 JZ Qa Qa Qa Qa (by rfl) rfl ?_
      intro b23 w23 hS23
      refine Qc Qa Qa (Qh (Qe (Qo (Q0 (Qm (Q7 (.inr Qa) Qa Qa ?_))))))
      exact⟨_,rfl, by rw[CP (by omega) (by omega) (by omega)]; exact hS23.pick [0,1,4] Qa⟩
     refine Qg (Qb (Qi Qa JE Qa (Qp Qa QK (hS4.cell 1 Qa Qa) Qa (QO Qa Qa Qa (Qd Qa Qa (Q3 73 Qa (fun h24=> ?_) (fun h24=> ?_)))))))
     ·refine Qj Qa Qa (Q8 h24) (Qd Qa Qa (Qx Qa (Q8 h24) Qa Qa (Qd Qa Qa (Q3 76 Qa (fun h25=> ?_) (fun h25=> ?_)))))
      ·refine Qj Qa Qa (Q8 h25) (Qd Qa Qa (Qj Qa Qa (Q8 h25) (Ql Qa Qa (Qj Qa Qa (Q8 h25) (Qi Qa Zo Qa (Qj Qa Qa (Q8 h25) (Qp Qa JT (hS4.cell 2 Qa Qa) Qa (Qx Qa (Q8 h25) Qa Qa (Qc Qa Qa (Qh (Qe (Qk [0,4,6,69] Qa (Xd Qa (fun h26=> ?_) (fun h26=> ?_))))))))))))))
       ·refine Qb (Qd Qa Qa (Qd Qa Qa (Ql Qa Qa (Qi Qa Zo Qa ?_))))
        (refine QC hS4 Qa Qa Jy (by rfl) (i:=2) Qa (Xe Qa) ?_)
        intro w27 hS28; dsimp only[List.set]at hS28
        refine Ql Qa Qa (Qi Qa Jf Qa ?_)
        (refine QC hS28 Qa Qa Jy (by rfl) (i:=2) Qa (Xe Qa) ?_)
        intro w29 hS30; dsimp only[List.set]at hS30
        refine Qh (Qq (Qe (Qg (Qb (Qd Qa Qa (Qc Qa Qa (Qh (Qe (Qk [4] Qa (Qo (Q7 (.inr Qa) Qa Qa ?_)))))))))))
        exact⟨_,rfl, by rw[UI (by omega) (by omega) (by omega)]; exact(Qu (E:={E with active:=false,frozen:=false}) ((hS30.pick [2,3,4,5,6,0,7] Qa))).reorder [1,0,2] Qa⟩
       refine Qr (Qq (Qe (Qg (Qb (Qd Qa Qa (Qc Qa Qa (Qh (Qe (Qo (Q7 (.inr Qa) Qa Qa ?_))))))))))
       exact⟨_,rfl, by rw[ZT (by omega) (by first | omega | simp_all) (by first | omega | simp_all)]; exact(Qu (E:=E) ((hS4.pick [2,3,4,5,6,0,7] Qa))).reorder [1,0,2] Qa⟩
      refine Qf Qa Qa (Qv h25) Qa (Qf Qa Qa (Qv h25) Qa (Qf Qa Qa (Qv h25) Qa (Qf Qa Qa (Qv h25) Qa (Qz Qa (Qv h25) Qa Qa (Qc Qa Qa (Qh (Qe (Qk [0,4,6,69] Qa (QF Qa (Qr (Qq (Qe (Qg (Qb (Qd Qa Qa (Qc Qa Qa (Qh (Qe (Qo (Q7 (.inr Qa) Qa Qa ?_))))))))))))))))))))
      exact⟨_,rfl, by rw[ZT (by omega) (by first | omega | simp_all) (by first | omega | simp_all)]; exact(Qu (E:=E) ((hS4.pick [2,3,4,5,6,0,7] Qa))).reorder [1,0,2] Qa⟩
     refine Qf Qa Qa (Qv h24) Qa (Qz Qa (Qv h24) Qa Qa (Qd Qa Qa (Qf Qa Qa Qa Qa (Qf Qa Qa Qa Qa (Qf Qa Qa Qa Qa (Qf Qa Qa Qa Qa (Qz Qa Qa Qa Qa (Qc Qa Qa (Qh (Qe (Qk [0,4,6,69] Qa (QF Qa (Qr (Qq (Qe (Qg (Qb (Qd Qa Qa (Qc Qa Qa (Qh (Qe (Qo (Q7 (.inr Qa) Qa Qa ?_)))))))))))))))))))))))
     exact⟨_,rfl, by rw[ZT (by omega) (by first | omega | simp_all) (by first | omega | simp_all)]; exact(Qu (E:=E) ((hS4.pick [2,3,4,5,6,0,7] Qa))).reorder [1,0,2] Qa⟩
    refine Qf Qa Qa h13 Qa (Qf Qa Qa h13 Qa (Qf Qa Qa h13 Qa (Qf Qa Qa h13 Qa (Qz Qa h13 Qa Qa (Qc Qa Qa (Qh (Qe (Qk [0,3,4,5,6,37] Qa (QF Qa (Qg (Qb (Qi Qa JE Qa (Qp Qa QK (hS4.cell 1 Qa Qa) Qa (QO Qa Qa Qa (Qd Qa Qa (Q3 73 Qa (fun h31=> ?_) (fun h31=> ?_)))))))))))))))))
    ·refine Qj Qa Qa (Q8 h31) (Qd Qa Qa (Qx Qa (Q8 h31) Qa Qa (Qd Qa Qa (Q3 76 Qa (fun h32=> ?_) (fun h32=> ?_)))))
     ·refine Qj Qa Qa (Q8 h32) (Qd Qa Qa (Qj Qa Qa (Q8 h32) (Ql Qa Qa (Qj Qa Qa (Q8 h32) (Qi Qa Zo Qa (Qj Qa Qa (Q8 h32) (Qp Qa JT (hS4.cell 2 Qa Qa) Qa (Qx Qa (Q8 h32) Qa Qa (Qc Qa Qa (Qh (Qe (Qk [0,4,6,69] Qa (Xd Qa (fun h33=> ?_) (fun h33=> ?_))))))))))))))
      ·refine Qb (Qd Qa Qa (Qd Qa Qa (Ql Qa Qa (Qi Qa Zo Qa ?_))))
       (refine QC hS4 Qa Qa Jy (by rfl) (i:=2) Qa (Xe Qa) ?_)
       intro w34 hS35; dsimp only[List.set]at hS35
       refine Ql Qa Qa (Qi Qa Jf Qa ?_)
       (refine QC hS35 Qa Qa Jy (by rfl) (i:=2) Qa (Xe Qa) ?_)
       intro w36 hS37; dsimp only[List.set]at hS37
       refine Qh (Qq (Qe (Qg (Qb (Qd Qa Qa (Qc Qa Qa (Qh (Qe (Qk [4] Qa (Qo (Q7 (.inr Qa) Qa Qa ?_)))))))))))
       exact⟨_,rfl, by rw[UI (by omega) (by omega) (by omega)]; exact(Qu (E:={E with active:=false,frozen:=false}) ((hS37.pick [2,3,4,5,6,0,7] Qa))).reorder [1,0,2] Qa⟩
      refine Qr (Qq (Qe (Qg (Qb (Qd Qa Qa (Qc Qa Qa (Qh (Qe (Qo (Q7 (.inr Qa) Qa Qa ?_))))))))))
      exact⟨_,rfl, by rw[ZT (by omega) (by first | omega | simp_all) (by first | omega | simp_all)]; exact(Qu (E:=E) ((hS4.pick [2,3,4,5,6,0,7] Qa))).reorder [1,0,2] Qa⟩
     refine Qf Qa Qa (Qv h32) Qa (Qf Qa Qa (Qv h32) Qa (Qf Qa Qa (Qv h32) Qa (Qf Qa Qa (Qv h32) Qa (Qz Qa (Qv h32) Qa Qa (Qc Qa Qa (Qh (Qe (Qk [0,4,6,69] Qa (QF Qa (Qr (Qq (Qe (Qg (Qb (Qd Qa Qa (Qc Qa Qa (Qh (Qe (Qo (Q7 (.inr Qa) Qa Qa ?_))))))))))))))))))))
     exact⟨_,rfl, by rw[ZT (by omega) (by first | omega | simp_all) (by first | omega | simp_all)]; exact(Qu (E:=E) ((hS4.pick [2,3,4,5,6,0,7] Qa))).reorder [1,0,2] Qa⟩
    refine Qf Qa Qa (Qv h31) Qa (Qz Qa (Qv h31) Qa Qa (Qd Qa Qa (Qf Qa Qa Qa Qa (Qf Qa Qa Qa Qa (Qf Qa Qa Qa Qa (Qf Qa Qa Qa Qa (Qz Qa Qa Qa Qa (Qc Qa Qa (Qh (Qe (Qk [0,4,6,69] Qa (QF Qa (Qr (Qq (Qe (Qg (Qb (Qd Qa Qa (Qc Qa Qa (Qh (Qe (Qo (Q7 (.inr Qa) Qa Qa ?_)))))))))))))))))))))))
    exact⟨_,rfl, by rw[ZT (by omega) (by first | omega | simp_all) (by first | omega | simp_all)]; exact(Qu (E:=E) ((hS4.pick [2,3,4,5,6,0,7] Qa))).reorder [1,0,2] Qa⟩
   refine Qf Qa Qa (Qv h12) Qa (Qf Qa Qa (Qv h12) Qa (Qf Qa Qa (Qv h12) Qa (Qf Qa Qa (Qv h12) Qa (Qz Qa (Qv h12) Qa Qa (Qd Qa Qa (Qf Qa Qa Qa Qa (Qf Qa Qa Qa Qa (Qf Qa Qa Qa Qa (Qf Qa Qa Qa Qa (Qz Qa Qa Qa Qa (Qc Qa Qa (Qh (Qe (Qk [0,3,4,5,6,37] Qa (QF Qa (Qg (Qb (Qi Qa JE Qa (Qp Qa QK (hS4.cell 1 Qa Qa) Qa (QO Qa Qa Qa (Qd Qa Qa (Q3 73 Qa (fun h38=> ?_) (fun h38=> ?_)))))))))))))))))))))))
   ·refine Qj Qa Qa (Q8 h38) (Qd Qa Qa (Qx Qa (Q8 h38) Qa Qa (Qd Qa Qa (Q3 76 Qa (fun h39=> ?_) (fun h39=> ?_)))))
    ·refine Qj Qa Qa (Q8 h39) (Qd Qa Qa (Qj Qa Qa (Q8 h39) (Ql Qa Qa (Qj Qa Qa (Q8 h39) (Qi Qa Zo Qa (Qj Qa Qa (Q8 h39) (Qp Qa JT (hS4.cell 2 Qa Qa) Qa (Qx Qa (Q8 h39) Qa Qa (Qc Qa Qa (Qh (Qe (Qk [0,4,6,69] Qa (Xd Qa (fun h40=> ?_) (fun h40=> ?_))))))))))))))
     ·refine Qb (Qd Qa Qa (Qd Qa Qa (Ql Qa Qa (Qi Qa Zo Qa ?_))))
      (refine QC hS4 Qa Qa Jy (by rfl) (i:=2) Qa (Xe Qa) ?_)
      intro w41 hS42; dsimp only[List.set]at hS42
      refine Ql Qa Qa (Qi Qa Jf Qa ?_)
      (refine QC hS42 Qa Qa Jy (by rfl) (i:=2) Qa (Xe Qa) ?_)
      intro w43 hS44; dsimp only[List.set]at hS44
      refine Qh (Qq (Qe (Qg (Qb (Qd Qa Qa (Qc Qa Qa (Qh (Qe (Qk [4] Qa (Qo (Q7 (.inr Qa) Qa Qa ?_)))))))))))
      exact⟨_,rfl, by rw[UI (by omega) (by omega) (by omega)]; exact(Qu (E:={E with active:=false,frozen:=false}) ((hS44.pick [2,3,4,5,6,0,7] Qa))).reorder [1,0,2] Qa⟩
     refine Qr (Qq (Qe (Qg (Qb (Qd Qa Qa (Qc Qa Qa (Qh (Qe (Qo (Q7 (.inr Qa) Qa Qa ?_))))))))))
     exact⟨_,rfl, by rw[ZT (by omega) (by first | omega | simp_all) (by first | omega | simp_all)]; exact(Qu (E:=E) ((hS4.pick [2,3,4,5,6,0,7] Qa))).reorder [1,0,2] Qa⟩
    refine Qf Qa Qa (Qv h39) Qa (Qf Qa Qa (Qv h39) Qa (Qf Qa Qa (Qv h39) Qa (Qf Qa Qa (Qv h39) Qa (Qz Qa (Qv h39) Qa Qa (Qc Qa Qa (Qh (Qe (Qk [0,4,6,69] Qa (QF Qa (Qr (Qq (Qe (Qg (Qb (Qd Qa Qa (Qc Qa Qa (Qh (Qe (Qo (Q7 (.inr Qa) Qa Qa ?_))))))))))))))))))))
    exact⟨_,rfl, by rw[ZT (by omega) (by first | omega | simp_all) (by first | omega | simp_all)]; exact(Qu (E:=E) ((hS4.pick [2,3,4,5,6,0,7] Qa))).reorder [1,0,2] Qa⟩
   refine Qf Qa Qa (Qv h38) Qa (Qz Qa (Qv h38) Qa Qa (Qd Qa Qa (Qf Qa Qa Qa Qa (Qf Qa Qa Qa Qa (Qf Qa Qa Qa Qa (Qf Qa Qa Qa Qa (Qz Qa Qa Qa Qa (Qc Qa Qa (Qh (Qe (Qk [0,4,6,69] Qa (QF Qa (Qr (Qq (Qe (Qg (Qb (Qd Qa Qa (Qc Qa Qa (Qh (Qe (Qo (Q7 (.inr Qa) Qa Qa ?_)))))))))))))))))))))))
   exact⟨_,rfl, by rw[ZT (by omega) (by first | omega | simp_all) (by first | omega | simp_all)]; exact(Qu (E:=E) ((hS4.pick [2,3,4,5,6,0,7] Qa))).reorder [1,0,2] Qa⟩
  refine Qf Qa Qa (Qv h11) Qa (Qz Qa (Qv h11) Qa Qa (Qd Qa Qa (Qf Qa Qa Qa Qa (Qf Qa Qa Qa Qa (Qf Qa Qa Qa Qa (Qf Qa Qa Qa Qa (Qz Qa Qa Qa Qa (Qd Qa Qa (Qf Qa Qa Qa Qa (Qf Qa Qa Qa Qa (Qf Qa Qa Qa Qa (Qf Qa Qa Qa Qa (Qz Qa Qa Qa Qa (Qc Qa Qa (Qh (Qe (Qk [0,3,4,5,6,37] Qa (QF Qa (Qg (Qb (Qi Qa JE Qa (Qp Qa QK (hS4.cell 1 Qa Qa) Qa (QO Qa Qa Qa (Qd Qa Qa (Q3 73 Qa (fun h45=> ?_) (fun h45=> ?_))))))))))))))))))))))))))
  ·refine Qj Qa Qa (Q8 h45) (Qd Qa Qa (Qx Qa (Q8 h45) Qa Qa (Qd Qa Qa (Q3 76 Qa (fun h46=> ?_) (fun h46=> ?_)))))
   ·refine Qj Qa Qa (Q8 h46) (Qd Qa Qa (Qj Qa Qa (Q8 h46) (Ql Qa Qa (Qj Qa Qa (Q8 h46) (Qi Qa Zo Qa (Qj Qa Qa (Q8 h46) (Qp Qa JT (hS4.cell 2 Qa Qa) Qa (Qx Qa (Q8 h46) Qa Qa (Qc Qa Qa (Qh (Qe (Qk [0,4,6,69] Qa (Xd Qa (fun h47=> ?_) (fun h47=> ?_))))))))))))))
    ·refine Qb (Qd Qa Qa (Qd Qa Qa (Ql Qa Qa (Qi Qa Zo Qa ?_))))
     (refine QC hS4 Qa Qa Jy (by rfl) (i:=2) Qa (Xe Qa) ?_)
     intro w48 hS49; dsimp only[List.set]at hS49
     refine Ql Qa Qa (Qi Qa Jf Qa ?_)
     (refine QC hS49 Qa Qa Jy (by rfl) (i:=2) Qa (Xe Qa) ?_)
     intro w50 hS51; dsimp only[List.set]at hS51
     refine Qh (Qq (Qe (Qg (Qb (Qd Qa Qa (Qc Qa Qa (Qh (Qe (Qk [4] Qa (Qo (Q7 (.inr Qa) Qa Qa ?_)))))))))))
     exact⟨_,rfl, by rw[UI (by omega) (by omega) (by omega)]; exact(Qu (E:={E with active:=false,frozen:=false}) ((hS51.pick [2,3,4,5,6,0,7] Qa))).reorder [1,0,2] Qa⟩
    refine Qr (Qq (Qe (Qg (Qb (Qd Qa Qa (Qc Qa Qa (Qh (Qe (Qo (Q7 (.inr Qa) Qa Qa ?_))))))))))
    exact⟨_,rfl, by rw[ZT (by omega) (by first | omega | simp_all) (by first | omega | simp_all)]; exact(Qu (E:=E) ((hS4.pick [2,3,4,5,6,0,7] Qa))).reorder [1,0,2] Qa⟩
   refine Qf Qa Qa (Qv h46) Qa (Qf Qa Qa (Qv h46) Qa (Qf Qa Qa (Qv h46) Qa (Qf Qa Qa (Qv h46) Qa (Qz Qa (Qv h46) Qa Qa (Qc Qa Qa (Qh (Qe (Qk [0,4,6,69] Qa (QF Qa (Qr (Qq (Qe (Qg (Qb (Qd Qa Qa (Qc Qa Qa (Qh (Qe (Qo (Q7 (.inr Qa) Qa Qa ?_))))))))))))))))))))
   exact⟨_,rfl, by rw[ZT (by omega) (by first | omega | simp_all) (by first | omega | simp_all)]; exact(Qu (E:=E) ((hS4.pick [2,3,4,5,6,0,7] Qa))).reorder [1,0,2] Qa⟩
  refine Qf Qa Qa (Qv h45) Qa (Qz Qa (Qv h45) Qa Qa (Qd Qa Qa (Qf Qa Qa Qa Qa (Qf Qa Qa Qa Qa (Qf Qa Qa Qa Qa (Qf Qa Qa Qa Qa (Qz Qa Qa Qa Qa (Qc Qa Qa (Qh (Qe (Qk [0,4,6,69] Qa (QF Qa (Qr (Qq (Qe (Qg (Qb (Qd Qa Qa (Qc Qa Qa (Qh (Qe (Qo (Q7 (.inr Qa) Qa Qa ?_)))))))))))))))))))))))
  exact⟨_,rfl, by rw[ZT (by omega) (by first | omega | simp_all) (by first | omega | simp_all)]; exact(Qu (E:=E) ((hS4.pick [2,3,4,5,6,0,7] Qa))).reorder [1,0,2] Qa⟩
 refine Qf Qa Qa (Qv h5) Qa (Qz Qa (Qv h5) Qa Qa (Qc Qa Qa (Qh (Qe (Qk [0,3,4,5,6,19] Qa (QF Qa (Qg (Qb (Qd Qa Qa (Ql Qa Qa (Qi Qa Z0 Qa (Qp Qa QK (hS4.cell 2 Qa Qa) Qa (Xt Qa Qa Qa (Qc Qa Qa (Qh (Qe (Qk [0,3,4,5,6,31] Qa (Qw Qa (fun h52=> ?_) (fun h52=> ?_)))))))))))))))))))
 ·refine Qg (Qb (Qc Qa Qa (Qh (Qe (Qo (Q0 (Qm (Q7 (.inr Qa) Qa Qa ?_))))))))
  exact⟨_,rfl, by rw[LC (by omega) (by omega)]; exact(Sat.row_nil Z4 (Qu (E:=E) ((hS4.pick [2,3,4,5,6,7] Qa))))⟩
 refine Qg (Qb (Qi Qa JE Qa (Qp Qa QK (hS4.cell 1 Qa Qa) Qa (QO Qa Qa Qa (Qd Qa Qa (Q3 41 Qa (fun h53=> ?_) (fun h53=> ?_)))))))
 ·refine Qj Qa Qa (Q8 h53) (Qd Qa Qa (Qx Qa (Q8 h53) Qa Qa (Qd Qa Qa (Q3 44 Qa (fun h54=> ?_) (fun h54=> ?_)))))
  ·refine Qj Qa Qa (Q8 h54) (Qd Qa Qa (Qj Qa Qa (Q8 h54) (Ql Qa Qa (Qj Qa Qa (Q8 h54) (Qi Qa Zo Qa (Qj Qa Qa (Q8 h54) (Qp Qa JT (hS4.cell 2 Qa Qa) Qa (Qx Qa (Q8 h54) Qa Qa (Qd Qa Qa (Zz 50 Qa (fun h55=> ?_) (fun h55=> ?_)))))))))))
   ·refine Qj Qa Qa h55 (Qd Qa Qa (Qj Qa Qa h55 (Ql Qa Qa (Qj Qa Qa h55 (Qi Qa Jf Qa (Qj Qa Qa h55 (Qp Qa JT (hS4.cell 2 Qa Qa) Qa (Qx Qa h55 Qa Qa (Qc Qa Qa (Qh (Qe (Qk [0,3,4,5,6,37] Qa (Xd Qa (fun h56=> ?_) (fun h56=> ?_))))))))))))))
    ·refine Qg (Qg (Qb (Qd Qa Qa (Qd Qa Qa (Ql Qa Qa (Qi Qa WH Qa (Qp Qa QK (hS4.cell 2 Qa Qa) Qa ?_)))))))
     have hS57:=Qu (E:=E) (hS4.pick [2,3,4,5,6,0,1,7] Qa)
     refine Q4 KC Qa (UG (hS57.sp [0] Qa) (hG.starL 2 Qa) (hO.starL 2 Qa) hu (k:=3) (m:=E.move) (XJ (by decide)) hmv) Qa ?_
     rintro _ w58 ⟨rfl,hS58⟩
     replace hS58:=hS58.jn Qa Qa
     refine Xt Qa Qa Qa (Qh (Qe (Qk [0,4,6,62] Qa (Qw Qa (fun h59=> ?_) (fun h59=> ?_)))))
     ·refine Qg (Qb (Qc Qa Qa (Qh (Qe (Qo (Qm (Q0 (Qm (Q7 (.inr Qa) Qa Qa ?_)))))))))
      exact⟨_,rfl, by rw[LB (by omega) (by simp_all) (by omega)]; exact(Sat.row_nil Z4 (hS58.pick [0,3] Qa))⟩
     have hn0:(QS E 3 E.move).1=0:=Decidable.not_not.1 h59
     have hnm:Xy (QS E 3 E.move).2.move:= by rw[H1 hu hn0]; exact hmv
     refine Qr (Qe (Qg ?_))
     obtain⟨dp2,cv2,sv2,ov2,hS60⟩:=QW (hS58.pick [0,1,2,3] rfl)
     refine Qb (Qd Qa Qa (Ql Qa Qa (Qi Qa Zo Qa ?_)))
     (refine QC hS60 Qa Qa Jy (by rfl) (i:=0) Qa (Xe Qa) ?_)
     intro w61 hS62; dsimp only[List.set]at hS62
     refine Qh (Qe (Qg ?_))
     have hS63:=Qu (E:={(QS E 3 E.move).2 with active:=false}) (hS62.pick [0,1,2,3,4,5,6,7] Qa)
     refine Qb (Qd Qa Qa (Q4 WY Qa (WX (hS63.sp [0] Qa) (hG.starL 2 Qa) (E:={(QS E 3 E.move).2 with active:=false}) (k:=4) (a:=0) (b:=0) (s:=[]) (Yw (XJ (by decide)) hnm)) Qa ?_))
     rintro _ w64 ⟨rfl,hS64⟩
     replace hS64:=hS64.jn Qa Qa
     refine Xc Z4 [Ze (QS E 3 E.move).2 4 0 0 []] hS64 Qa underlying66 JZ Qa Qa Qa Qa (by rfl) rfl ?_
     intro b65 w65 hS65
     refine Qc Qa Qa (Qh (Qe (Qo (Q0 (Qm (Q7 (.inr Qa) Qa Qa ?_))))))
     exact⟨_,rfl, by rw[CP (by omega) (by simp_all) (by omega)]; exact hS65.pick [0,1,4] Qa⟩
    refine Qg (Qb (Qi Qa JE Qa (Qp Qa QK (hS4.cell 1 Qa Qa) Qa (QO Qa Qa Qa (Qd Qa Qa (Q3 73 Qa (fun h66=> ?_) (fun h66=> ?_)))))))
    ·refine Qj Qa Qa (Q8 h66) (Qd Qa Qa (Qx Qa (Q8 h66) Qa Qa (Qd Qa Qa (Q3 76 Qa (fun h67=> ?_) (fun h67=> ?_)))))
     ·refine Qj Qa Qa (Q8 h67) (Qd Qa Qa (Qj Qa Qa (Q8 h67) (Ql Qa Qa (Qj Qa Qa (Q8 h67) (Qi Qa Zo Qa (Qj Qa Qa (Q8 h67) (Qp Qa JT (hS4.cell 2 Qa Qa) Qa (Qx Qa (Q8 h67) Qa Qa (Qc Qa Qa (Qh (Qe (Qk [0,4,6,69] Qa (Xd Qa (fun h68=> ?_) (fun h68=> ?_))))))))))))))
      ·refine Qb (Qd Qa Qa (Qd Qa Qa (Ql Qa Qa (Qi Qa Zo Qa ?_))))
       (refine QC hS4 Qa Qa Jy (by rfl) (i:=2) Qa (Xe Qa) ?_)
       intro w69 hS70; dsimp only[List.set]at hS70
       refine Ql Qa Qa (Qi Qa Jf Qa ?_)
       (refine QC hS70 Qa Qa Jy (by rfl) (i:=2) Qa (Xe Qa) ?_)
       intro w71 hS72; dsimp only[List.set]at hS72
       refine Qh (Qq (Qe (Qg (Qb (Qd Qa Qa (Qc Qa Qa (Qh (Qe (Qk [4] Qa (Qo (Q7 (.inr Qa) Qa Qa ?_)))))))))))
       exact⟨_,rfl, by rw[UI (by omega) (by omega) (by omega)]; exact(Qu (E:={E with active:=false,frozen:=false}) ((hS72.pick [2,3,4,5,6,0,7] Qa))).reorder [1,0,2] Qa⟩
      refine Qr (Qq (Qe (Qg (Qb (Qd Qa Qa (Qc Qa Qa (Qh (Qe (Qo (Q7 (.inr Qa) Qa Qa ?_))))))))))
      exact⟨_,rfl, by rw[ZT (by omega) (by first | omega | simp_all) (by first | omega | simp_all)]; exact(Qu (E:=E) ((hS4.pick [2,3,4,5,6,0,7] Qa))).reorder [1,0,2] Qa⟩
     refine Qf Qa Qa (Qv h67) Qa (Qf Qa Qa (Qv h67) Qa (Qf Qa Qa (Qv h67) Qa (Qf Qa Qa (Qv h67) Qa (Qz Qa (Qv h67) Qa Qa (Qc Qa Qa (Qh (Qe (Qk [0,4,6,69] Qa (QF Qa (Qr (Qq (Qe (Qg (Qb (Qd Qa Qa (Qc Qa Qa (Qh (Qe (Qo (Q7 (.inr Qa) Qa Qa ?_))))))))))))))))))))
     exact⟨_,rfl, by rw[ZT (by omega) (by first | omega | simp_all) (by first | omega | simp_all)]; exact(Qu (E:=E) ((hS4.pick [2,3,4,5,6,0,7] Qa))).reorder [1,0,2] Qa⟩
    refine Qf Qa Qa (Qv h66) Qa (Qz Qa (Qv h66) Qa Qa (Qd Qa Qa (Qf Qa Qa Qa Qa (Qf Qa Qa Qa Qa (Qf Qa Qa Qa Qa (Qf Qa Qa Qa Qa (Qz Qa Qa Qa Qa (Qc Qa Qa (Qh (Qe (Qk [0,4,6,69] Qa (QF Qa (Qr (Qq (Qe (Qg (Qb (Qd Qa Qa (Qc Qa Qa (Qh (Qe (Qo (Q7 (.inr Qa) Qa Qa ?_)))))))))))))))))))))))
    exact⟨_,rfl, by rw[ZT (by omega) (by first | omega | simp_all) (by first | omega | simp_all)]; exact(Qu (E:=E) ((hS4.pick [2,3,4,5,6,0,7] Qa))).reorder [1,0,2] Qa⟩
   refine Qf Qa Qa h55 Qa (Qf Qa Qa h55 Qa (Qf Qa Qa h55 Qa (Qf Qa Qa h55 Qa (Qz Qa h55 Qa Qa (Qc Qa Qa (Qh (Qe (Qk [0,3,4,5,6,37] Qa (QF Qa (Qg (Qb (Qi Qa JE Qa (Qp Qa QK (hS4.cell 1 Qa Qa) Qa (QO Qa Qa Qa (Qd Qa Qa (Q3 73 Qa (fun h73=> ?_) (fun h73=> ?_)))))))))))))))))
   ·refine Qj Qa Qa (Q8 h73) (Qd Qa Qa (Qx Qa (Q8 h73) Qa Qa (Qd Qa Qa (Q3 76 Qa (fun h74=> ?_) (fun h74=> ?_)))))
    ·refine Qj Qa Qa (Q8 h74) (Qd Qa Qa (Qj Qa Qa (Q8 h74) (Ql Qa Qa (Qj Qa Qa (Q8 h74) (Qi Qa Zo Qa (Qj Qa Qa (Q8 h74) (Qp Qa JT (hS4.cell 2 Qa Qa) Qa (Qx Qa (Q8 h74) Qa Qa (Qc Qa Qa (Qh (Qe (Qk [0,4,6,69] Qa (Xd Qa (fun h75=> ?_) (fun h75=> ?_))))))))))))))
     ·refine Qb (Qd Qa Qa (Qd Qa Qa (Ql Qa Qa (Qi Qa Zo Qa ?_))))
      (refine QC hS4 Qa Qa Jy (by rfl) (i:=2) Qa (Xe Qa) ?_)
      intro w76 hS77; dsimp only[List.set]at hS77
      refine Ql Qa Qa (Qi Qa Jf Qa ?_)
      (refine QC hS77 Qa Qa Jy (by rfl) (i:=2) Qa (Xe Qa) ?_)
      intro w78 hS79; dsimp only[List.set]at hS79
      refine Qh (Qq (Qe (Qg (Qb (Qd Qa Qa (Qc Qa Qa (Qh (Qe (Qk [4] Qa (Qo (Q7 (.inr Qa) Qa Qa ?_)))))))))))
      exact⟨_,rfl, by rw[UI (by omega) (by omega) (by omega)]; exact(Qu (E:={E with active:=false,frozen:=false}) ((hS79.pick [2,3,4,5,6,0,7] Qa))).reorder [1,0,2] Qa⟩
     refine Qr (Qq (Qe (Qg (Qb (Qd Qa Qa (Qc Qa Qa (Qh (Qe (Qo (Q7 (.inr Qa) Qa Qa ?_))))))))))
     exact⟨_,rfl, by rw[ZT (by omega) (by first | omega | simp_all) (by first | omega | simp_all)]; exact(Qu (E:=E) ((hS4.pick [2,3,4,5,6,0,7] Qa))).reorder [1,0,2] Qa⟩
    refine Qf Qa Qa (Qv h74) Qa (Qf Qa Qa (Qv h74) Qa (Qf Qa Qa (Qv h74) Qa (Qf Qa Qa (Qv h74) Qa (Qz Qa (Qv h74) Qa Qa (Qc Qa Qa (Qh (Qe (Qk [0,4,6,69] Qa (QF Qa (Qr (Qq (Qe (Qg (Qb (Qd Qa Qa (Qc Qa Qa (Qh (Qe (Qo (Q7 (.inr Qa) Qa Qa ?_))))))))))))))))))))
    exact⟨_,rfl, by rw[ZT (by omega) (by first | omega | simp_all) (by first | omega | simp_all)]; exact(Qu (E:=E) ((hS4.pick [2,3,4,5,6,0,7] Qa))).reorder [1,0,2] Qa⟩
   refine Qf Qa Qa (Qv h73) Qa (Qz Qa (Qv h73) Qa Qa (Qd Qa Qa (Qf Qa Qa Qa Qa (Qf Qa Qa Qa Qa (Qf Qa Qa Qa Qa (Qf Qa Qa Qa Qa (Qz Qa Qa Qa Qa (Qc Qa Qa (Qh (Qe (Qk [0,4,6,69] Qa (QF Qa (Qr (Qq (Qe (Qg (Qb (Qd Qa Qa (Qc Qa Qa (Qh (Qe (Qo (Q7 (.inr Qa) Qa Qa ?_)))))))))))))))))))))))
   exact⟨_,rfl, by rw[ZT (by omega) (by first | omega | simp_all) (by first | omega | simp_all)]; exact(Qu (E:=E) ((hS4.pick [2,3,4,5,6,0,7] Qa))).reorder [1,0,2] Qa⟩
  refine Qf Qa Qa (Qv h54) Qa (Qf Qa Qa (Qv h54) Qa (Qf Qa Qa (Qv h54) Qa (Qf Qa Qa (Qv h54) Qa (Qz Qa (Qv h54) Qa Qa (Qd Qa Qa (Qf Qa Qa Qa Qa (Qf Qa Qa Qa Qa (Qf Qa Qa Qa Qa (Qf Qa Qa Qa Qa (Qz Qa Qa Qa Qa (Qc Qa Qa (Qh (Qe (Qk [0,3,4,5,6,37] Qa (QF Qa (Qg (Qb (Qi Qa JE Qa (Qp Qa QK (hS4.cell 1 Qa Qa) Qa (QO Qa Qa Qa (Qd Qa Qa (Q3 73 Qa (fun h80=> ?_) (fun h80=> ?_)))))))))))))))))))))))
  ·refine Qj Qa Qa (Q8 h80) (Qd Qa Qa (Qx Qa (Q8 h80) Qa Qa (Qd Qa Qa (Q3 76 Qa (fun h81=> ?_) (fun h81=> ?_)))))
   ·refine Qj Qa Qa (Q8 h81) (Qd Qa Qa (Qj Qa Qa (Q8 h81) (Ql Qa Qa (Qj Qa Qa (Q8 h81) (Qi Qa Zo Qa (Qj Qa Qa (Q8 h81) (Qp Qa JT (hS4.cell 2 Qa Qa) Qa (Qx Qa (Q8 h81) Qa Qa (Qc Qa Qa (Qh (Qe (Qk [0,4,6,69] Qa (Xd Qa (fun h82=> ?_) (fun h82=> ?_))))))))))))))
    ·refine Qb (Qd Qa Qa (Qd Qa Qa (Ql Qa Qa (Qi Qa Zo Qa ?_))))
     (refine QC hS4 Qa Qa Jy (by rfl) (i:=2) Qa (Xe Qa) ?_)
     intro w83 hS84; dsimp only[List.set]at hS84
     refine Ql Qa Qa (Qi Qa Jf Qa ?_)
     (refine QC hS84 Qa Qa Jy (by rfl) (i:=2) Qa (Xe Qa) ?_)
     intro w85 hS86; dsimp only[List.set]at hS86
     refine Qh (Qq (Qe (Qg (Qb (Qd Qa Qa (Qc Qa Qa (Qh (Qe (Qk [4] Qa (Qo (Q7 (.inr Qa) Qa Qa ?_)))))))))))
     exact⟨_,rfl, by rw[UI (by omega) (by omega) (by omega)]; exact(Qu (E:={E with active:=false,frozen:=false}) ((hS86.pick [2,3,4,5,6,0,7] Qa))).reorder [1,0,2] Qa⟩
    refine Qr (Qq (Qe (Qg (Qb (Qd Qa Qa (Qc Qa Qa (Qh (Qe (Qo (Q7 (.inr Qa) Qa Qa ?_))))))))))
    exact⟨_,rfl, by rw[ZT (by omega) (by first | omega | simp_all) (by first | omega | simp_all)]; exact(Qu (E:=E) ((hS4.pick [2,3,4,5,6,0,7] Qa))).reorder [1,0,2] Qa⟩
   refine Qf Qa Qa (Qv h81) Qa (Qf Qa Qa (Qv h81) Qa (Qf Qa Qa (Qv h81) Qa (Qf Qa Qa (Qv h81) Qa (Qz Qa (Qv h81) Qa Qa (Qc Qa Qa (Qh (Qe (Qk [0,4,6,69] Qa (QF Qa (Qr (Qq (Qe (Qg (Qb (Qd Qa Qa (Qc Qa Qa (Qh (Qe (Qo (Q7 (.inr Qa) Qa Qa ?_))))))))))))))))))))
   exact⟨_,rfl, by rw[ZT (by omega) (by first | omega | simp_all) (by first | omega | simp_all)]; exact(Qu (E:=E) ((hS4.pick [2,3,4,5,6,0,7] Qa))).reorder [1,0,2] Qa⟩
  refine Qf Qa Qa (Qv h80) Qa (Qz Qa (Qv h80) Qa Qa (Qd Qa Qa (Qf Qa Qa Qa Qa (Qf Qa Qa Qa Qa (Qf Qa Qa Qa Qa (Qf Qa Qa Qa Qa (Qz Qa Qa Qa Qa (Qc Qa Qa (Qh (Qe (Qk [0,4,6,69] Qa (QF Qa (Qr (Qq (Qe (Qg (Qb (Qd Qa Qa (Qc Qa Qa (Qh (Qe (Qo (Q7 (.inr Qa) Qa Qa ?_)))))))))))))))))))))))
  exact⟨_,rfl, by rw[ZT (by omega) (by first | omega | simp_all) (by first | omega | simp_all)]; exact(Qu (E:=E) ((hS4.pick [2,3,4,5,6,0,7] Qa))).reorder [1,0,2] Qa⟩
 refine Qf Qa Qa (Qv h53) Qa (Qz Qa (Qv h53) Qa Qa (Qd Qa Qa (Qf Qa Qa Qa Qa (Qf Qa Qa Qa Qa (Qf Qa Qa Qa Qa (Qf Qa Qa Qa Qa (Qz Qa Qa Qa Qa (Qd Qa Qa (Qf Qa Qa Qa Qa (Qf Qa Qa Qa Qa (Qf Qa Qa Qa Qa (Qf Qa Qa Qa Qa (Qz Qa Qa Qa Qa (Qc Qa Qa (Qh (Qe (Qk [0,3,4,5,6,37] Qa (QF Qa (Qg (Qb (Qi Qa JE Qa (Qp Qa QK (hS4.cell 1 Qa Qa) Qa (QO Qa Qa Qa (Qd Qa Qa (Q3 73 Qa (fun h87=> ?_) (fun h87=> ?_))))))))))))))))))))))))))
 ·refine Qj Qa Qa (Q8 h87) (Qd Qa Qa (Qx Qa (Q8 h87) Qa Qa (Qd Qa Qa (Q3 76 Qa (fun h88=> ?_) (fun h88=> ?_)))))
  ·refine Qj Qa Qa (Q8 h88) (Qd Qa Qa (Qj Qa Qa (Q8 h88) (Ql Qa Qa (Qj Qa Qa (Q8 h88) (Qi Qa Zo Qa (Qj Qa Qa (Q8 h88) (Qp Qa JT (hS4.cell 2 Qa Qa) Qa (Qx Qa (Q8 h88) Qa Qa (Qc Qa Qa (Qh (Qe (Qk [0,4,6,69] Qa (Xd Qa (fun h89=> ?_) (fun h89=> ?_))))))))))))))
   ·refine Qb (Qd Qa Qa (Qd Qa Qa (Ql Qa Qa (Qi Qa Zo Qa ?_))))
    (refine QC hS4 Qa Qa Jy (by rfl) (i:=2) Qa (Xe Qa) ?_)
    intro w90 hS91; dsimp only[List.set]at hS91
    refine Ql Qa Qa (Qi Qa Jf Qa ?_)
    (refine QC hS91 Qa Qa Jy (by rfl) (i:=2) Qa (Xe Qa) ?_)
    intro w92 hS93; dsimp only[List.set]at hS93
    refine Qh (Qq (Qe (Qg (Qb (Qd Qa Qa (Qc Qa Qa (Qh (Qe (Qk [4] Qa (Qo (Q7 (.inr Qa) Qa Qa ?_)))))))))))
    exact⟨_,rfl, by rw[UI (by omega) (by omega) (by simp_all)]; exact(Qu (E:={E with active:=false,frozen:=false}) ((hS93.pick [2,3,4,5,6,0,7] Qa))).reorder [1,0,2] Qa⟩
   refine Qr (Qq (Qe (Qg (Qb (Qd Qa Qa (Qc Qa Qa (Qh (Qe (Qo (Q7 (.inr Qa) Qa Qa ?_))))))))))
   exact⟨_,rfl, by rw[ZT (by omega) (by first | omega | simp_all) (by first | omega | simp_all)]; exact(Qu (E:=E) ((hS4.pick [2,3,4,5,6,0,7] Qa))).reorder [1,0,2] Qa⟩
  refine Qf Qa Qa (Qv h88) Qa (Qf Qa Qa (Qv h88) Qa (Qf Qa Qa (Qv h88) Qa (Qf Qa Qa (Qv h88) Qa (Qz Qa (Qv h88) Qa Qa (Qc Qa Qa (Qh (Qe (Qk [0,4,6,69] Qa (QF Qa (Qr (Qq (Qe (Qg (Qb (Qd Qa Qa (Qc Qa Qa (Qh (Qe (Qo (Q7 (.inr Qa) Qa Qa ?_))))))))))))))))))))
  exact⟨_,rfl, by rw[ZT (by omega) (by first | omega | simp_all) (by first | omega | simp_all)]; exact(Qu (E:=E) ((hS4.pick [2,3,4,5,6,0,7] Qa))).reorder [1,0,2] Qa⟩
 refine Qf Qa Qa (Qv h87) Qa (Qz Qa (Qv h87) Qa Qa (Qd Qa Qa (Qf Qa Qa Qa Qa (Qf Qa Qa Qa Qa (Qf Qa Qa Qa Qa (Qf Qa Qa Qa Qa (Qz Qa Qa Qa Qa (Qc Qa Qa (Qh (Qe (Qk [0,4,6,69] Qa (QF Qa (Qr (Qq (Qe (Qg (Qb (Qd Qa Qa (Qc Qa Qa (Qh (Qe (Qo (Q7 (.inr Qa) Qa Qa ?_)))))))))))))))))))))))
 exact⟨_,rfl, by rw[ZT (by omega) (by first | omega | simp_all) (by first | omega | simp_all)]; exact(Qu (E:=E) ((hS4.pick [2,3,4,5,6,0,7] Qa))).reorder [1,0,2] Qa⟩
