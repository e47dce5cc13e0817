/- move: hearTarget -/
import Derived.Test.YtiibgheijbbmaaaGreatDoorMvb
set_option linter.unusedVariables false
set_option maxRecDepth 100000
set_option maxHeartbeats 2000000
namespace Go.Proofs.YtiibgheijbbmaaaGreatDoor
open Go.RowKit M Proofs.Tryz
section
variable {E:EnD} {m:MsD}
theorem UE {k n:Int} (hu:E.cell≠none) (h:(QT E k n).1=0):(QT E k n).2.move=n:= by
  obtain⟨C,hC⟩:=Option.ne_none_iff_exists'.1 hu
  by_cases q:(Zq E.D C (Xf k++Xf n)).e=0
  · rw[Vz hC q]
  · rw[Ga hC q]at h; exact absurd h q
abbrev noB (m:MsD):Bs:=YT ⟨5,m.move,0,0,[]⟩
theorem O7 (h:E.kind=3∧m.move=E.move):Xx E m=(E,[Z3 E 4 0 0 []]):= by unfold Xx; rw[if_pos h]
theorem Sx (h: ¬(E.kind=3∧m.move=E.move)) (h1:E.kind≠1):Xx E m=(E,[]):= by unfold Xx; rw[if_neg h,if_pos h1]
theorem Sw (h1:E.kind=1) (h:m.kind=2∧m.move=E.move∧E.active=true∧E.frozen=true) (h2:(QT E 3 E.move).1≠0):Xx E m=((QT E 3 E.move).2,[]):= by unfold Xx; rw[if_neg (by omega),if_neg (by omega),if_pos h,if_pos h2]
theorem Tc (h1:E.kind=1) (h:m.kind=2∧m.move=E.move∧E.active=true∧E.frozen=true) (h2:(QT E 3 E.move).1=0):Xx E m=({(QT E 3 E.move).2 with active:=false},[Z3 (QT E 3 E.move).2 4 0 0 []]):= by unfold Xx; rw[if_neg (by omega),if_neg (by omega),if_pos h,if_neg (by omega)]
theorem Un (h1:E.kind=1) (h: ¬(m.kind=2∧m.move=E.move∧E.active=true∧E.frozen=true)) (h2:m.kind=3∧m.move=E.move∧E.active=true):Xx E m=({E with active:=false,frozen:=false},[noB m]):= by unfold Xx; rw[if_neg (by omega),if_neg (by omega),if_neg h,if_pos h2]
theorem ZC (h1:E.kind=1) (h: ¬(m.kind=2∧m.move=E.move∧E.active=true∧E.frozen=true)) (h2: ¬(m.kind=3∧m.move=E.move∧E.active=true)):Xx E m=(E,[noB m]):= by unfold Xx; rw[if_neg (by omega),if_neg (by omega),if_neg h,if_neg h2]
end
theorem Kx {w:World} {e:Nat} {E:EnD} {F:Th} (hS:Sat w [Xw e E,F]) (m:MsD) (hG:Ent F WireG) (hO:Ent F (Glob 0)) (hu:E.cell≠none) (hmm:X4 m.move) (hmv:X4 E.move):
    Calls prog 72 #[ptrV e 0,.agg #[intV m.kind,intV m.move,intV m.a,intV m.b,strV m.data]] w (Ret fun v w'=>Sat w' [rowT Zn v (Xx E m).2,Xw e (Xx E m).1,F]):= by
 obtain⟨dp,cv,sv,ov,hS⟩:=QU hS
 refine Qy func72 Qa ntmps72 Qa ?_
 refine Qf (Qb (Za hS Qa Qa Qa ?_))
 intro mp w1 hS1
 replace hS1:Sat w1 (Xb mp [intV m.kind,intV m.move,intV m.a,intV m.b,strV m.data]::_):=hS1
 refine Qc Qa Qa (Qh (Qd (Qf ?_)))
 have hS2:=hS1.drew
 refine QN [0,1,2,3,4,5,6,7] [] W5 (by kernel_rfl) ?_
 refine QO Qa Qa Qa Zz (QF Qa Qa Qa (Qn Qa QH (hS2.cell 0 Qa Qa)) (QI Qa Qa Qa (Xn Qa Qa Qa (QO Qa Qa Qa Wp (QF Qa Qa Qa (Qn Qa QH (hS2.cell 1 Qa Qa)) (Q9 Qa Qa Qa (fun _=>(Ya Qa Qa)) ?_))))))
 refine WV Qa Qa Qa (VC.nil (Qd (Qk [0,3,4,5] Qa (Qf (Qb (Qi Qa Zz Qa (Qr Qa QH (hS2.cell 0 Qa Qa) Qa (Jz (vs':=[intV 5,intV m.move,intV 0,intV 0,strV []]) Qa Pb TE My Qa Qa Qa (Q0 P3 Qa (Gc (hS2.sp [] Qa) (hG.starL 6 Qa) (m:=⟨5,m.move,0,0,[]⟩) (JW (XG (by decide)) hmm)) Qa ?_)))))))))
 rintro _ w3 ⟨rfl,hS3⟩
 replace hS3:=hS3.jn Qa Qa
 refine Xe Zn [noB m] hS3 Qa underlying66 J8 Qa Qa Qa Qa (by rfl) rfl ?_
 intro b4 w4 hS4
 refine Qc Qa Qa (Qh (Qd (Qf (QK (Qf (Qb (Qe Qa Qa (Ql Qa Qa (Qi Qa Zh Qa (Qr Qa QH (hS4.cell 2 Qa Qa) Qa (QL Qa Qa Qa (Qe Qa Qa (Q4 25 Qa (fun h5=> ?_) (fun h5=> ?_))))))))))))))
 ·refine Qj Qa Qa (QD h5) (Qe Qa Qa (Q1 Qa (QD h5) Qa Qa (Qc Qa Qa (Qh (Qd (Qk [0,3,4,5,6,19] Qa (Qv Qa (fun h6=> ?_) (fun h6=> ?_))))))))
  ·refine Qf ?_
   have hS7:=Qu (E:=E) (hS4.pick [2,3,4,5,6,0,1,7] Qa)
   refine Qb (Qe Qa Qa (Q0 WH Qa (WG (hS7.sp [0] Qa) (hG.starL 2 Qa) (k:=4) (a:=0) (b:=0) (s:=[]) (JW (XG (by decide)) hmv)) Qa ?_))
   rintro _ w8 ⟨rfl,hS8⟩
   replace hS8:=hS8.jn Qa Qa
   refine Xe Zn [Z3 E 4 0 0 []] hS8 Qa underlying66 J8 Qa Qa Qa Qa (by rfl) rfl ?_
   intro b9 w9 hS9
   refine Qc Qa Qa (Qh (Qd (Qo (Qz (Qm (Q5 (.inr Qa) Qa Qa ?_))))))
   exact⟨_,rfl, by rw[O7 (by omega)]; exact hS9.pick [0,1,4] Qa⟩
  refine Qf (Qb (Qe Qa Qa (Ql Qa Qa (Qi Qa Zh Qa (Qr Qa QH (hS4.cell 2 Qa Qa) Qa (Xu Qa Qa Qa (Qc Qa Qa (Qh (Qd (Qk [0,3,4,5,6,31] Qa (Qv Qa (fun h10=> ?_) (fun h10=> ?_))))))))))))
  ·refine Qf (Qb (Qc Qa Qa (Qh (Qd (Qo (Qz (Qm (Q5 (.inr Qa) Qa Qa ?_))))))))
   exact⟨_,rfl, by rw[Sx (by omega) (by omega)]; exact(Sat.row_nil Zn (Qu (E:=E) ((hS4.pick [2,3,4,5,6,7] Qa))))⟩
  refine Qf (Qb (Qi Qa Jv Qa (Qr Qa QH (hS4.cell 1 Qa Qa) Qa (QL Qa Qa Qa (Qe Qa Qa (Q4 41 Qa (fun h11=> ?_) (fun h11=> ?_)))))))
  ·refine Qj Qa Qa (QD h11) (Qe Qa Qa (Q1 Qa (QD h11) Qa Qa (Qe Qa Qa (Q4 44 Qa (fun h12=> ?_) (fun h12=> ?_)))))
   ·refine Qj Qa Qa (QD h12) (Qe Qa Qa (Qj Qa Qa (QD h12) (Ql Qa Qa (Qj Qa Qa (QD h12) (Qi Qa XL Qa (Qj Qa Qa (QD h12) (Qr Qa J2 (hS4.cell 2 Qa Qa) Qa (Q1 Qa (QD h12) Qa Qa (Qe Qa Qa (ZO 50 Qa (fun h13=> ?_) (fun h13=> ?_)))))))))))
    ·refine Qj Qa Qa h13 (Qe Qa Qa (Qj Qa Qa h13 (Ql Qa Qa (Qj Qa Qa h13 (Qi Qa WC Qa (Qj Qa Qa h13 (Qr Qa J2 (hS4.cell 2 Qa Qa) Qa (Q1 Qa h13 Qa Qa (Qc Qa Qa (Qh (Qd (Qk [0,3,4,5,6,37] Qa (QZ Qa (fun h14=> ?_) (fun h14=> ?_))))))))))))))
     ·refine Qf (Qf (Qb (Qe Qa Qa (Qe Qa Qa (Ql Qa Qa (Qi Qa Wp Qa (Qr Qa QH (hS4.cell 2 Qa Qa) Qa ?_)))))))
      have hS15:=Qu (E:=E) (hS4.pick [2,3,4,5,6,0,1,7] Qa)
      refine Q0 VF Qa (Ul (hS15.sp [0] Qa) (hG.starL 2 Qa) (hO.starL 2 Qa) hu (k:=3) (m:=E.move) (XG (by decide)) hmv) Qa ?_
      rintro _ w16 ⟨rfl,hS16⟩
      replace hS16:=hS16.jn Qa Qa
      refine Xu Qa Qa Qa (Qh (Qd (Qk [0,4,6,62] Qa (Qv Qa (fun h17=> ?_) (fun h17=> ?_)))))
      ·refine Qf (Qb (Qc Qa Qa (Qh (Qd (Qo (Qm (Qz (Qm (Q5 (.inr Qa) Qa Qa ?_)))))))))
       exact⟨_,rfl, by rw[Sw (by omega) (by omega) (by omega)]; exact(Sat.row_nil Zn (hS16.pick [0,3] Qa))⟩
      have hn0:(QT E 3 E.move).1=0:=Decidable.not_not.1 h17
      have hnm:X4 (QT E 3 E.move).2.move:= by rw[UE hu hn0]; exact hmv
      refine Qt (Qd (Qf ?_))
      obtain⟨dp2,cv2,sv2,ov2,hS18⟩:=QU (hS16.pick [0,1,2,3] rfl)
      refine Qb (Qe Qa Qa (Ql Qa Qa (Qi Qa XL Qa ?_)))
      (refine Qw hS18 Qa Qa XU (by rfl) (i:=0) Qa (QC Qa) ?_)
      intro w19 hS20; dsimp only[List.set]at hS20
      refine Qh (Qd (Qf ?_))
      have hS21:=Qu (E:={(QT E 3 E.move).2 with active:=false}) (hS20.pick [0,1,2,3,4,5,6,7] Qa)
      refine Qb (Qe Qa Qa (Q0 WH Qa (WG (hS21.sp [0] Qa) (hG.starL 2 Qa) (E:={(QT E 3 E.move).2 with active:=false}) (k:=4) (a:=0) (b:=0) (s:=[]) (JW (XG (by decide)) hnm)) Qa ?_))
      rintro _ w22 ⟨rfl,hS22⟩
      replace hS22:=hS22.jn Qa Qa
      refine Xe Zn [Z3 (QT E 3 E.move).2 4 0 0 []] hS22 Qa underlying66 J8 Qa Qa Qa Qa (by rfl) rfl ?_
      intro b23 w23 hS23
      refine Qc Qa Qa (Qh (Qd (Qo (Qz (Qm (Q5 (.inr Qa) Qa Qa ?_))))))
      exact⟨_,rfl, by rw[Tc (by omega) (by omega) (by omega)]; exact hS23.pick [0,1,4] Qa⟩
     refine Qf (Qb (Qi Qa Jv Qa (Qr Qa QH (hS4.cell 1 Qa Qa) Qa (QL Qa Qa Qa (Qe Qa Qa (Q4 73 Qa (fun h24=> ?_) (fun h24=> ?_)))))))
     ·refine Qj Qa Qa (QD h24) (Qe Qa Qa (Q1 Qa (QD h24) Qa Qa (Qe Qa Qa (Q4 76 Qa (fun h25=> ?_) (fun h25=> ?_)))))
      ·refine Qj Qa Qa (QD h25) (Qe Qa Qa (Qj Qa Qa (QD h25) (Ql Qa Qa (Qj Qa Qa (QD h25) (Qi Qa XL Qa (Qj Qa Qa (QD h25) (Qr Qa J2 (hS4.cell 2 Qa Qa) Qa (Q1 Qa (QD h25) Qa Qa (Qc Qa Qa (Qh (Qd (Qk [0,4,6,69] Qa (QZ Qa (fun h26=> ?_) (fun h26=> ?_))))))))))))))
       ·refine Qb (Qe Qa Qa (Qe Qa Qa (Ql Qa Qa (Qi Qa XL Qa ?_))))
        (refine Qw hS4 Qa Qa XU (by rfl) (i:=2) Qa (QC Qa) ?_)
        intro w27 hS28; dsimp only[List.set]at hS28
        refine Ql Qa Qa (Qi Qa WC Qa ?_)
        (refine Qw hS28 Qa Qa XU (by rfl) (i:=2) Qa (QC Qa) ?_)
        intro w29 hS30; dsimp only[List.set]at hS30
        refine Qh (Qq (Qd (Qf (Qb (Qe Qa Qa (Qc Qa Qa (Qh (Qd (Qk [4] Qa (Qo (Q5 (.inr Qa) Qa Qa ?_)))))))))))
        exact⟨_,rfl, by rw[Un (by omega) (by omega) (by omega)]; exact(Qu (E:={E with active:=false,frozen:=false}) ((hS30.pick [2,3,4,5,6,0,7] Qa))).reorder [1,0,2] Qa⟩
       refine Qt (Qq (Qd (Qf (Qb (Qe Qa Qa (Qc Qa Qa (Qh (Qd (Qo (Q5 (.inr Qa) Qa Qa ?_))))))))))
       exact⟨_,rfl, by rw[ZC (by omega) (by first | omega | simp_all) (by first | omega | simp_all)]; exact(Qu (E:=E) ((hS4.pick [2,3,4,5,6,0,7] Qa))).reorder [1,0,2] Qa⟩
      refine Qg Qa Qa (Qx h25) Qa (Qg Qa Qa (Qx h25) Qa (Qg Qa Qa (Qx h25) Qa (Qg Qa Qa (Qx h25) Qa (Q3 Qa (Qx h25) Qa Qa (Qc Qa Qa (Qh (Qd (Qk [0,4,6,69] Qa (QJ Qa (Qt (Qq (Qd (Qf (Qb (Qe Qa Qa (Qc Qa Qa (Qh (Qd (Qo (Q5 (.inr Qa) Qa Qa ?_))))))))))))))))))))
      exact⟨_,rfl, by rw[ZC (by omega) (by first | omega | simp_all) (by first | omega | simp_all)]; exact(Qu (E:=E) ((hS4.pick [2,3,4,5,6,0,7] Qa))).reorder [1,0,2] Qa⟩
     refine Qg Qa Qa (Qx h24) Qa (Q3 Qa (Qx h24) Qa Qa (Qe Qa Qa (Qg Qa Qa Qa Qa (Qg Qa Qa Qa Qa (Qg Qa Qa Qa Qa (Qg Qa Qa Qa Qa (Q3 Qa Qa Qa Qa (Qc Qa Qa (Qh (Qd (Qk [0,4,6,69] Qa (QJ Qa (Qt (Qq (Qd (Qf (Qb (Qe Qa Qa (Qc Qa Qa (Qh (Qd (Qo (Q5 (.inr Qa) Qa Qa ?_)))))))))))))))))))))))
     exact⟨_,rfl, by rw[ZC (by omega) (by first | omega | simp_all) (by first | omega | simp_all)]; exact(Qu (E:=E) ((hS4.pick [2,3,4,5,6,0,7] Qa))).reorder [1,0,2] Qa⟩
    refine Qg Qa Qa h13 Qa (Qg Qa Qa h13 Qa (Qg Qa Qa h13 Qa (Qg Qa Qa h13 Qa (Q3 Qa h13 Qa Qa (Qc Qa Qa (Qh (Qd (Qk [0,3,4,5,6,37] Qa (QJ Qa (Qf (Qb (Qi Qa Jv Qa (Qr Qa QH (hS4.cell 1 Qa Qa) Qa (QL Qa Qa Qa (Qe Qa Qa (Q4 73 Qa (fun h31=> ?_) (fun h31=> ?_)))))))))))))))))
    ·refine Qj Qa Qa (QD h31) (Qe Qa Qa (Q1 Qa (QD h31) Qa Qa (Qe Qa Qa (Q4 76 Qa (fun h32=> ?_) (fun h32=> ?_)))))
     ·refine Qj Qa Qa (QD h32) (Qe Qa Qa (Qj Qa Qa (QD h32) (Ql Qa Qa (Qj Qa Qa (QD h32) (Qi Qa XL Qa (Qj Qa Qa (QD h32) (Qr Qa J2 (hS4.cell 2 Qa Qa) Qa (Q1 Qa (QD h32) Qa Qa (Qc Qa Qa (Qh (Qd (Qk [0,4,6,69] Qa (QZ Qa (fun h33=> ?_) (fun h33=> ?_))))))))))))))
      ·refine Qb (Qe Qa Qa (Qe Qa Qa (Ql Qa Qa (Qi Qa XL Qa ?_))))
       (refine Qw hS4 Qa Qa XU (by rfl) (i:=2) Qa (QC Qa) ?_)
       intro w34 hS35; dsimp only[List.set]at hS35
       refine Ql Qa Qa (Qi Qa WC Qa ?_)
       (refine Qw hS35 Qa Qa XU (by rfl) (i:=2) Qa (QC Qa) ?_)
       intro w36 hS37; dsimp only[List.set]at hS37
       refine Qh (Qq (Qd (Qf (Qb (Qe Qa Qa (Qc Qa Qa (Qh (Qd (Qk [4] Qa (Qo (Q5 (.inr Qa) Qa Qa ?_)))))))))))
       exact⟨_,rfl, by rw[Un (by omega) (by omega) (by omega)]; exact(Qu (E:={E with active:=false,frozen:=false}) ((hS37.pick [2,3,4,5,6,0,7] Qa))).reorder [1,0,2] Qa⟩
      refine Qt (Qq (Qd (Qf (Qb (Qe Qa Qa (Qc Qa Qa (Qh (Qd (Qo (Q5 (.inr Qa) Qa Qa ?_))))))))))
      exact⟨_,rfl, by rw[ZC (by omega) (by first | omega | simp_all) (by first | omega | simp_all)]; exact(Qu (E:=E) ((hS4.pick [2,3,4,5,6,0,7] Qa))).reorder [1,0,2] Qa⟩
     refine Qg Qa Qa (Qx h32) Qa (Qg Qa Qa (Qx h32) Qa (Qg Qa Qa (Qx h32) Qa (Qg Qa Qa (Qx h32) Qa (Q3 Qa (Qx h32) Qa Qa (Qc Qa Qa (Qh (Qd (Qk [0,4,6,69] Qa (QJ Qa (Qt (Qq (Qd (Qf (Qb (Qe Qa Qa (Qc Qa Qa (Qh (Qd (Qo (Q5 (.inr Qa) Qa Qa ?_))))))))))))))))))))
     exact⟨_,rfl, by rw[ZC (by omega) (by first | omega | simp_all) (by first | omega | simp_all)]; exact(Qu (E:=E) ((hS4.pick [2,3,4,5,6,0,7] Qa))).reorder [1,0,2] Qa⟩
    refine Qg Qa Qa (Qx h31) Qa (Q3 Qa (Qx h31) Qa Qa (Qe Qa Qa (Qg Qa Qa Qa Qa (Qg Qa Qa Qa Qa (Qg Qa Qa Qa Qa (Qg Qa Qa Qa Qa (Q3 Qa Qa Qa Qa (Qc Qa Qa (Qh (Qd (Qk [0,4,6,69] Qa (QJ Qa (Qt (Qq (Qd (Qf (Qb (Qe Qa Qa (Qc Qa Qa (Qh (Qd (Qo (Q5 (.inr Qa) Qa Qa ?_)))))))))))))))))))))))
    exact⟨_,rfl, by rw[ZC (by omega) (by first | omega | simp_all) (by first | omega | simp_all)]; exact(Qu (E:=E) ((hS4.pick [2,3,4,5,6,0,7] Qa))).reorder [1,0,2] Qa⟩
   refine Qg Qa Qa (Qx h12) Qa (Qg Qa Qa (Qx h12) Qa (Qg Qa Qa (Qx h12) Qa (Qg Qa Qa (Qx h12) Qa (Q3 Qa (Qx h12) Qa Qa (Qe Qa Qa (Qg Qa Qa Qa Qa (Qg Qa Qa Qa Qa (Qg Qa Qa Qa Qa (Qg Qa Qa Qa Qa (Q3 Qa Qa Qa Qa (Qc Qa Qa (Qh (Qd (Qk [0,3,4,5,6,37] Qa (QJ Qa (Qf (Qb (Qi Qa Jv Qa (Qr Qa QH (hS4.cell 1 Qa Qa) Qa (QL Qa Qa Qa (Qe Qa Qa (Q4 73 Qa (fun h38=> ?_) (fun h38=> ?_)))))))))))))))))))))))
   ·refine Qj Qa Qa (QD h38) (Qe Qa Qa (Q1 Qa (QD h38) Qa Qa (Qe Qa Qa (Q4 76 Qa (fun h39=> ?_) (fun h39=> ?_)))))
    ·refine Qj Qa Qa (QD h39) (Qe Qa Qa (Qj Qa Qa (QD h39) (Ql Qa Qa (Qj Qa Qa (QD h39) (Qi Qa XL Qa (Qj Qa Qa (QD h39) (Qr Qa J2 (hS4.cell 2 Qa Qa) Qa (Q1 Qa (QD h39) Qa Qa (Qc Qa Qa (Qh (Qd (Qk [0,4,6,69] Qa (QZ Qa (fun h40=> ?_) (fun h40=> ?_))))))))))))))
     ·refine Qb (Qe Qa Qa (Qe Qa Qa (Ql Qa Qa (Qi Qa XL Qa ?_))))
      (refine Qw hS4 Qa Qa XU (by rfl) (i:=2) Qa (QC Qa) ?_)
      intro w41 hS42; dsimp only[List.set]at hS42
      refine Ql Qa Qa (Qi Qa WC Qa ?_)
      (refine Qw hS42 Qa Qa XU (by rfl) (i:=2) Qa (QC Qa) ?_)
      intro w43 hS44; dsimp only[List.set]at hS44
      refine Qh (Qq (Qd (Qf (Qb (Qe Qa Qa (Qc Qa Qa (Qh (Qd (Qk [4] Qa (Qo (Q5 (.inr Qa) Qa Qa ?_)))))))))))
      exact⟨_,rfl, by rw[Un (by omega) (by omega) (by omega)]; exact(Qu (E:={E with active:=false,frozen:=false}) ((hS44.pick [2,3,4,5,6,0,7] Qa))).reorder [1,0,2] Qa⟩
     refine Qt (Qq (Qd (Qf (Qb (Qe Qa Qa (Qc Qa Qa (Qh (Qd (Qo (Q5 (.inr Qa) Qa Qa ?_))))))))))
     exact⟨_,rfl, by rw[ZC (by omega) (by first | omega | simp_all) (by first | omega | simp_all)]; exact(Qu (E:=E) ((hS4.pick [2,3,4,5,6,0,7] Qa))).reorder [1,0,2] Qa⟩
    refine Qg Qa Qa (Qx h39) Qa (Qg Qa Qa (Qx h39) Qa (Qg Qa Qa (Qx h39) Qa (Qg Qa Qa (Qx h39) Qa (Q3 Qa (Qx h39) Qa Qa (Qc Qa Qa (Qh (Qd (Qk [0,4,6,69] Qa (QJ Qa (Qt (Qq (Qd (Qf (Qb (Qe Qa Qa (Qc Qa Qa (Qh (Qd (Qo (Q5 (.inr Qa) Qa Qa ?_))))))))))))))))))))
    exact⟨_,rfl, by rw[ZC (by omega) (by first | omega | simp_all) (by first | omega | simp_all)]; exact(Qu (E:=E) ((hS4.pick [2,3,4,5,6,0,7] Qa))).reorder [1,0,2] Qa⟩
   refine Qg Qa Qa (Qx h38) Qa (Q3 Qa (Qx h38) Qa Qa (Qe Qa Qa (Qg Qa Qa Qa Qa (Qg Qa Qa Qa Qa (Qg Qa Qa Qa Qa (Qg Qa Qa Qa Qa (Q3 Qa Qa Qa Qa (Qc Qa Qa (Qh (Qd (Qk [0,4,6,69] Qa (QJ Qa (Qt (Qq (Qd (Qf (Qb (Qe Qa Qa (Qc Qa Qa (Qh (Qd (Qo (Q5 (.inr Qa) Qa Qa ?_)))))))))))))))))))))))
   exact⟨_,rfl, by rw[ZC (by omega) (by first | omega | simp_all) (by first | omega | simp_all)]; exact(Qu (E:=E) ((hS4.pick [2,3,4,5,6,0,7] Qa))).reorder [1,0,2] Qa⟩
  refine Qg Qa Qa (Qx h11) Qa (Q3 Qa (Qx h11) Qa Qa (Qe Qa Qa (Qg Qa Qa Qa Qa (Qg Qa Qa Qa Qa (Qg Qa Qa Qa Qa (Qg Qa Qa Qa Qa (Q3 Qa Qa Qa Qa (Qe Qa Qa (Qg Qa Qa Qa Qa (Qg Qa Qa Qa Qa (Qg Qa Qa Qa Qa (Qg Qa Qa Qa Qa (Q3 Qa Qa Qa Qa (Qc Qa Qa (Qh (Qd (Qk [0,3,4,5,6,37] Qa (QJ Qa (Qf (Qb (Qi Qa Jv Qa (Qr Qa QH (hS4.cell 1 Qa Qa) Qa (QL Qa Qa Qa (Qe Qa Qa (Q4 73 Qa (fun h45=> ?_) (fun h45=> ?_))))))))))))))))))))))))))
  ·refine Qj Qa Qa (QD h45) (Qe Qa Qa (Q1 Qa (QD h45) Qa Qa (Qe Qa Qa (Q4 76 Qa (fun h46=> ?_) (fun h46=> ?_)))))
   ·refine Qj Qa Qa (QD h46) (Qe Qa Qa (Qj Qa Qa (QD h46) (Ql Qa Qa (Qj Qa Qa (QD h46) (Qi Qa XL Qa (Qj Qa Qa (QD h46) (Qr Qa J2 (hS4.cell 2 Qa Qa) Qa (Q1 Qa (QD h46) Qa Qa (Qc Qa Qa (Qh (Qd (Qk [0,4,6,69] Qa (QZ Qa (fun h47=> ?_) (fun h47=> ?_))))))))))))))
    ·refine Qb (Qe Qa Qa (Qe Qa Qa (Ql Qa Qa (Qi Qa XL Qa ?_))))
     (refine Qw hS4 Qa Qa XU (by rfl) (i:=2) Qa (QC Qa) ?_)
     intro w48 hS49; dsimp only[List.set]at hS49
     refine Ql Qa Qa (Qi Qa WC Qa ?_)
     (refine Qw hS49 Qa Qa XU (by rfl) (i:=2) Qa (QC Qa) ?_)
     intro w50 hS51; dsimp only[List.set]at hS51
     refine Qh (Qq (Qd (Qf (Qb (Qe Qa Qa (Qc Qa Qa (Qh (Qd (Qk [4] Qa (Qo (Q5 (.inr Qa) Qa Qa ?_)))))))))))
     exact⟨_,rfl, by rw[Un (by omega) (by omega) (by omega)]; exact(Qu (E:={E with active:=false,frozen:=false}) ((hS51.pick [2,3,4,5,6,0,7] Qa))).reorder [1,0,2] Qa⟩
    refine Qt (Qq (Qd (Qf (Qb (Qe Qa Qa (Qc Qa Qa (Qh (Qd (Qo (Q5 (.inr Qa) Qa Qa ?_))))))))))
    exact⟨_,rfl, by rw[ZC (by omega) (by first | omega | simp_all) (by first | omega | simp_all)]; exact(Qu (E:=E) ((hS4.pick [2,3,4,5,6,0,7] Qa))).reorder [1,0,2] Qa⟩
   refine Qg Qa Qa (Qx h46) Qa (Qg Qa Qa (Qx h46) Qa (Qg Qa Qa (Qx h46) Qa (Qg Qa Qa (Qx h46) Qa (Q3 Qa (Qx h46) Qa Qa (Qc Qa Qa (Qh (Qd (Qk [0,4,6,69] Qa (QJ Qa (Qt (Qq (Qd (Qf (Qb (Qe Qa Qa (Qc Qa Qa (Qh (Qd (Qo (Q5 (.inr Qa) Qa Qa ?_))))))))))))))))))))
   exact⟨_,rfl, by rw[ZC (by omega) (by first | omega | simp_all) (by first | omega | simp_all)]; exact(Qu (E:=E) ((hS4.pick [2,3,4,5,6,0,7] Qa))).reorder [1,0,2] Qa⟩
  refine Qg Qa Qa (Qx h45) Qa (Q3 Qa (Qx h45) Qa Qa (Qe Qa Qa (Qg Qa Qa Qa Qa (Qg Qa Qa Qa Qa (Qg Qa Qa Qa Qa (Qg Qa Qa Qa Qa (Q3 Qa Qa Qa Qa (Qc Qa Qa (Qh (Qd (Qk [0,4,6,69] Qa (QJ Qa (Qt (Qq (Qd (Qf (Qb (Qe Qa Qa (Qc Qa Qa (Qh (Qd (Qo (Q5 (.inr Qa) Qa Qa ?_)))))))))))))))))))))))
  exact⟨_,rfl, by rw[ZC (by omega) (by first | omega | simp_all) (by first | omega | simp_all)]; exact(Qu (E:=E) ((hS4.pick [2,3,4,5,6,0,7] Qa))).reorder [1,0,2] Qa⟩
 refine Qg Qa Qa (Qx h5) Qa (Q3 Qa (Qx h5) Qa Qa (Qc Qa Qa (Qh (Qd (Qk [0,3,4,5,6,19] Qa (QJ Qa (Qf (Qb (Qe Qa Qa (Ql Qa Qa (Qi Qa Zh Qa (Qr Qa QH (hS4.cell 2 Qa Qa) Qa (Xu Qa Qa Qa (Qc Qa Qa (Qh (Qd (Qk [0,3,4,5,6,31] Qa (Qv Qa (fun h52=> ?_) (fun h52=> ?_)))))))))))))))))))
 ·refine Qf (Qb (Qc Qa Qa (Qh (Qd (Qo (Qz (Qm (Q5 (.inr Qa) Qa Qa ?_))))))))
  exact⟨_,rfl, by rw[Sx (by omega) (by omega)]; exact(Sat.row_nil Zn (Qu (E:=E) ((hS4.pick [2,3,4,5,6,7] Qa))))⟩
 refine Qf (Qb (Qi Qa Jv Qa (Qr Qa QH (hS4.cell 1 Qa Qa) Qa (QL Qa Qa Qa (Qe Qa Qa (Q4 41 Qa (fun h53=> ?_) (fun h53=> ?_)))))))
 ·refine Qj Qa Qa (QD h53) (Qe Qa Qa (Q1 Qa (QD h53) Qa Qa (Qe Qa Qa (Q4 44 Qa (fun h54=> ?_) (fun h54=> ?_)))))
  ·refine Qj Qa Qa (QD h54) (Qe Qa Qa (Qj Qa Qa (QD h54) (Ql Qa Qa (Qj Qa Qa (QD h54) (Qi Qa XL Qa (Qj Qa Qa (QD h54) (Qr Qa J2 (hS4.cell 2 Qa Qa) Qa (Q1 Qa (QD h54) Qa Qa (Qe Qa Qa (ZO 50 Qa (fun h55=> ?_) (fun h55=> ?_)))))))))))
   ·refine Qj Qa Qa h55 (Qe Qa Qa (Qj Qa Qa h55 (Ql Qa Qa (Qj Qa Qa h55 (Qi Qa WC Qa (Qj Qa Qa h55 (Qr Qa J2 (hS4.cell 2 Qa Qa) Qa (Q1 Qa h55 Qa Qa (Qc Qa Qa (Qh (Qd (Qk [0,3,4,5,6,37] Qa (QZ Qa (fun h56=> ?_) (fun h56=> ?_))))))))))))))
    ·refine Qf (Qf (Qb (Qe Qa Qa (Qe Qa Qa (Ql Qa Qa (Qi Qa Wp Qa (Qr Qa QH (hS4.cell 2 Qa Qa) Qa ?_)))))))
     have hS57:=Qu (E:=E) (hS4.pick [2,3,4,5,6,0,1,7] Qa)
     refine Q0 VF Qa (Ul (hS57.sp [0] Qa) (hG.starL 2 Qa) (hO.starL 2 Qa) hu (k:=3) (m:=E.move) (XG (by decide)) hmv) Qa ?_
     rintro _ w58 ⟨rfl,hS58⟩
     replace hS58:=hS58.jn Qa Qa
     refine Xu Qa Qa Qa (Qh (Qd (Qk [0,4,6,62] Qa (Qv Qa (fun h59=> ?_) (fun h59=> ?_)))))
     ·refine Qf (Qb (Qc Qa Qa (Qh (Qd (Qo (Qm (Qz (Qm (Q5 (.inr Qa) Qa Qa ?_)))))))))
      exact⟨_,rfl, by rw[Sw (by omega) (by simp_all) (by omega)]; exact(Sat.row_nil Zn (hS58.pick [0,3] Qa))⟩
     have hn0:(QT E 3 E.move).1=0:=Decidable.not_not.1 h59
     have hnm:X4 (QT E 3 E.move).2.move:= by rw[UE hu hn0]; exact hmv
     refine Qt (Qd (Qf ?_))
     obtain⟨dp2,cv2,sv2,ov2,hS60⟩:=QU (hS58.pick [0,1,2,3] rfl)
     refine Qb (Qe Qa Qa (Ql Qa Qa (Qi Qa XL Qa ?_)))
     (refine Qw hS60 Qa Qa XU (by rfl) (i:=0) Qa (QC Qa) ?_)
     intro w61 hS62; dsimp only[List.set]at hS62
     refine Qh (Qd (Qf ?_))
     have hS63:=Qu (E:={(QT E 3 E.move).2 with active:=false}) (hS62.pick [0,1,2,3,4,5,6,7] Qa)
     refine Qb (Qe Qa Qa (Q0 WH Qa (WG (hS63.sp [0] Qa) (hG.starL 2 Qa) (E:={(QT E 3 E.move).2 with active:=false}) (k:=4) (a:=0) (b:=0) (s:=[]) (JW (XG (by decide)) hnm)) Qa ?_))
     rintro _ w64 ⟨rfl,hS64⟩
     replace hS64:=hS64.jn Qa Qa
     refine Xe Zn [Z3 (QT E 3 E.move).2 4 0 0 []] hS64 Qa underlying66 J8 Qa Qa Qa Qa (by rfl) rfl ?_
     intro b65 w65 hS65
     refine Qc Qa Qa (Qh (Qd (Qo (Qz (Qm (Q5 (.inr Qa) Qa Qa ?_))))))
     exact⟨_,rfl, by rw[Tc (by omega) (by simp_all) (by omega)]; exact hS65.pick [0,1,4] Qa⟩
    refine Qf (Qb (Qi Qa Jv Qa (Qr Qa QH (hS4.cell 1 Qa Qa) Qa (QL Qa Qa Qa (Qe Qa Qa (Q4 73 Qa (fun h66=> ?_) (fun h66=> ?_)))))))
    ·refine Qj Qa Qa (QD h66) (Qe Qa Qa (Q1 Qa (QD h66) Qa Qa (Qe Qa Qa (Q4 76 Qa (fun h67=> ?_) (fun h67=> ?_)))))
     ·refine Qj Qa Qa (QD h67) (Qe Qa Qa (Qj Qa Qa (QD h67) (Ql Qa Qa (Qj Qa Qa (QD h67) (Qi Qa XL Qa (Qj Qa Qa (QD h67) (Qr Qa J2 (hS4.cell 2 Qa Qa) Qa (Q1 Qa (QD h67) Qa Qa (Qc Qa Qa (Qh (Qd (Qk [0,4,6,69] Qa (QZ Qa (fun h68=> ?_) (fun h68=> ?_))))))))))))))
      ·refine Qb (Qe Qa Qa (Qe Qa Qa (Ql Qa Qa (Qi Qa XL Qa ?_))))
       (refine Qw hS4 Qa Qa XU (by rfl) (i:=2) Qa (QC Qa) ?_)
       intro w69 hS70; dsimp only[List.set]at hS70
       refine Ql Qa Qa (Qi Qa WC Qa ?_)
       (refine Qw hS70 Qa Qa XU (by rfl) (i:=2) Qa (QC Qa) ?_)
       intro w71 hS72; dsimp only[List.set]at hS72
       refine Qh (Qq (Qd (Qf (Qb (Qe Qa Qa (Qc Qa Qa (Qh (Qd (Qk [4] Qa (Qo (Q5 (.inr Qa) Qa Qa ?_)))))))))))
       exact⟨_,rfl, by rw[Un (by omega) (by omega) (by omega)]; exact(Qu (E:={E with active:=false,frozen:=false}) ((hS72.pick [2,3,4,5,6,0,7] Qa))).reorder [1,0,2] Qa⟩
      refine Qt (Qq (Qd (Qf (Qb (Qe Qa Qa (Qc Qa Qa (Qh (Qd (Qo (Q5 (.inr Qa) Qa Qa ?_))))))))))
      exact⟨_,rfl, by rw[ZC (by omega) (by first | omega | simp_all) (by first | omega | simp_all)]; exact(Qu (E:=E) ((hS4.pick [2,3,4,5,6,0,7] Qa))).reorder [1,0,2] Qa⟩
     refine Qg Qa Qa (Qx h67) Qa (Qg Qa Qa (Qx h67) Qa (Qg Qa Qa (Qx h67) Qa (Qg Qa Qa (Qx h67) Qa (Q3 Qa (Qx h67) Qa Qa (Qc Qa Qa (Qh (Qd (Qk [0,4,6,69] Qa (QJ Qa (Qt (Qq (Qd (Qf (Qb (Qe Qa Qa (Qc Qa Qa (Qh (Qd (Qo (Q5 (.inr Qa) Qa Qa ?_))))))))))))))))))))
     exact⟨_,rfl, by rw[ZC (by omega) (by first | omega | simp_all) (by first | omega | simp_all)]; exact(Qu (E:=E) ((hS4.pick [2,3,4,5,6,0,7] Qa))).reorder [1,0,2] Qa⟩
    refine Qg Qa Qa (Qx h66) Qa (Q3 Qa (Qx h66) Qa Qa (Qe Qa Qa (Qg Qa Qa Qa Qa (Qg Qa Qa Qa Qa (Qg Qa Qa Qa Qa (Qg Qa Qa Qa Qa (Q3 Qa Qa Qa Qa (Qc Qa Qa (Qh (Qd (Qk [0,4,6,69] Qa (QJ Qa (Qt (Qq (Qd (Qf (Qb (Qe Qa Qa (Qc Qa Qa (Qh (Qd (Qo (Q5 (.inr Qa) Qa Qa ?_)))))))))))))))))))))))
    exact⟨_,rfl, by rw[ZC (by omega) (by first | omega | simp_all) (by first | omega | simp_all)]; exact(Qu (E:=E) ((hS4.pick [2,3,4,5,6,0,7] Qa))).reorder [1,0,2] Qa⟩
   refine Qg Qa Qa h55 Qa (Qg Qa Qa h55 Qa (Qg Qa Qa h55 Qa (Qg Qa Qa h55 Qa (Q3 Qa h55 Qa Qa (Qc Qa Qa (Qh (Qd (Qk [0,3,4,5,6,37] Qa (QJ Qa (Qf (Qb (Qi Qa Jv Qa (Qr Qa QH (hS4.cell 1 Qa Qa) Qa (QL Qa Qa Qa (Qe Qa Qa (Q4 73 Qa (fun h73=> ?_) (fun h73=> ?_)))))))))))))))))
   ·refine Qj Qa Qa (QD h73) (Qe Qa Qa (Q1 Qa (QD h73) Qa Qa (Qe Qa Qa (Q4 76 Qa (fun h74=> ?_) (fun h74=> ?_)))))
    ·refine Qj Qa Qa (QD h74) (Qe Qa Qa (Qj Qa Qa (QD h74) (Ql Qa Qa (Qj Qa Qa (QD h74) (Qi Qa XL Qa (Qj Qa Qa (QD h74) (Qr Qa J2 (hS4.cell 2 Qa Qa) Qa (Q1 Qa (QD h74) Qa Qa (Qc Qa Qa (Qh (Qd (Qk [0,4,6,69] Qa (QZ Qa (fun h75=> ?_) (fun h75=> ?_))))))))))))))
     ·refine Qb (Qe Qa Qa (Qe Qa Qa (Ql Qa Qa (Qi Qa XL Qa ?_))))
      (refine Qw hS4 Qa Qa XU (by rfl) (i:=2) Qa (QC Qa) ?_)
      intro w76 hS77; dsimp only[List.set]at hS77
      refine Ql Qa Qa (Qi Qa WC Qa ?_)
      (refine Qw hS77 Qa Qa XU (by rfl) (i:=2) Qa (QC Qa) ?_)
      intro w78 hS79; dsimp only[List.set]at hS79
      refine Qh (Qq (Qd (Qf (Qb (Qe Qa Qa (Qc Qa Qa (Qh (Qd (Qk [4] Qa (Qo (Q5 (.inr Qa) Qa Qa ?_)))))))))))
      exact⟨_,rfl, by rw[Un (by omega) (by omega) (by omega)]; exact(Qu (E:={E with active:=false,frozen:=false}) ((hS79.pick [2,3,4,5,6,0,7] Qa))).reorder [1,0,2] Qa⟩
     refine Qt (Qq (Qd (Qf (Qb (Qe Qa Qa (Qc Qa Qa (Qh (Qd (Qo (Q5 (.inr Qa) Qa Qa ?_))))))))))
     exact⟨_,rfl, by rw[ZC (by omega) (by first | omega | simp_all) (by first | omega | simp_all)]; exact(Qu (E:=E) ((hS4.pick [2,3,4,5,6,0,7] Qa))).reorder [1,0,2] Qa⟩
    refine Qg Qa Qa (Qx h74) Qa (Qg Qa Qa (Qx h74) Qa (Qg Qa Qa (Qx h74) Qa (Qg Qa Qa (Qx h74) Qa (Q3 Qa (Qx h74) Qa Qa (Qc Qa Qa (Qh (Qd (Qk [0,4,6,69] Qa (QJ Qa (Qt (Qq (Qd (Qf (Qb (Qe Qa Qa (Qc Qa Qa (Qh (Qd (Qo (Q5 (.inr Qa) Qa Qa ?_))))))))))))))))))))
    exact⟨_,rfl, by rw[ZC (by omega) (by first | omega | simp_all) (by first | omega | simp_all)]; exact(Qu (E:=E) ((hS4.pick [2,3,4,5,6,0,7] Qa))).reorder [1,0,2] Qa⟩
   refine Qg Qa Qa (Qx h73) Qa (Q3 Qa (Qx h73) Qa Qa (Qe Qa Qa (Qg Qa Qa Qa Qa (Qg Qa Qa Qa Qa (Qg Qa Qa Qa Qa (Qg Qa Qa Qa Qa (Q3 Qa Qa Qa Qa (Qc Qa Qa (Qh (Qd (Qk [0,4,6,69] Qa (QJ Qa (Qt (Qq (Qd (Qf (Qb (Qe Qa Qa (Qc Qa Qa (Qh (Qd (Qo (Q5 (.inr Qa) Qa Qa ?_)))))))))))))))))))))))
   exact⟨_,rfl, by rw[ZC (by omega) (by first | omega | simp_all) (by first | omega | simp_all)]; exact(Qu (E:=E) ((hS4.pick [2,3,4,5,6,0,7] Qa))).reorder [1,0,2] Qa⟩
  refine Qg Qa Qa (Qx h54) Qa (Qg Qa Qa (Qx h54) Qa (Qg Qa Qa (Qx h54) Qa (Qg Qa Qa (Qx h54) Qa (Q3 Qa (Qx h54) Qa Qa (Qe Qa Qa (Qg Qa Qa Qa Qa (Qg Qa Qa Qa Qa (Qg Qa Qa Qa Qa (Qg Qa Qa Qa Qa (Q3 Qa Qa Qa Qa (Qc Qa Qa (Qh (Qd (Qk [0,3,4,5,6,37] Qa (QJ Qa (Qf (Qb (Qi Qa Jv Qa (Qr Qa QH (hS4.cell 1 Qa Qa) Qa (QL Qa Qa Qa (Qe Qa Qa (Q4 73 Qa (fun h80=> ?_) (fun h80=> ?_)))))))))))))))))))))))
  ·refine Qj Qa Qa (QD h80) (Qe Qa Qa (Q1 Qa (QD h80) Qa Qa (Qe Qa Qa (Q4 76 Qa (fun h81=> ?_) (fun h81=> ?_)))))
   ·refine Qj Qa Qa (QD h81) (Qe Qa Qa (Qj Qa Qa (QD h81) (Ql Qa Qa (Qj Qa Qa (QD h81) (Qi Qa XL Qa (Qj Qa Qa (QD h81) (Qr Qa J2 (hS4.cell 2 Qa Qa) Qa (Q1 Qa (QD h81) Qa Qa (Qc Qa Qa (Qh (Qd (Qk [0,4,6,69] Qa (QZ Qa (fun h82=> ?_) (fun h82=> ?_))))))))))))))
    ·refine Qb (Qe Qa Qa (Qe Qa Qa (Ql Qa Qa (Qi Qa XL Qa ?_))))
     (refine Qw hS4 Qa Qa XU (by rfl) (i:=2) Qa (QC Qa) ?_)
     intro w83 hS84; dsimp only[List.set]at hS84
     refine Ql Qa Qa (Qi Qa WC Qa ?_)
     (refine Qw hS84 Qa Qa XU (by rfl) (i:=2) Qa (QC Qa) ?_)
     intro w85 hS86; dsimp only[List.set]at hS86
     refine Qh (Qq (Qd (Qf (Qb (Qe Qa Qa (Qc Qa Qa (Qh (Qd (Qk [4] Qa (Qo (Q5 (.inr Qa) Qa Qa ?_)))))))))))
     exact⟨_,rfl, by rw[Un (by omega) (by omega) (by omega)]; exact(Qu (E:={E with active:=false,frozen:=false}) ((hS86.pick [2,3,4,5,6,0,7] Qa))).reorder [1,0,2] Qa⟩
    refine Qt (Qq (Qd (Qf (Qb (Qe Qa Qa (Qc Qa Qa (Qh (Qd (Qo (Q5 (.inr Qa) Qa Qa ?_))))))))))
    exact⟨_,rfl, by rw[ZC (by omega) (by first | omega | simp_all) (by first | omega | simp_all)]; exact(Qu (E:=E) ((hS4.pick [2,3,4,5,6,0,7] Qa))).reorder [1,0,2] Qa⟩
   refine Qg Qa Qa (Qx h81) Qa (Qg Qa Qa (Qx h81) Qa (Qg Qa Qa (Qx h81) Qa (Qg Qa Qa (Qx h81) Qa (Q3 Qa (Qx h81) Qa Qa (Qc Qa Qa (Qh (Qd (Qk [0,4,6,69] Qa (QJ Qa (Qt (Qq (Qd (Qf (Qb (Qe Qa Qa (Qc Qa Qa (Qh (Qd (Qo (Q5 (.inr Qa) Qa Qa ?_))))))))))))))))))))
   exact⟨_,rfl, by rw[ZC (by omega) (by first | omega | simp_all) (by first | omega | simp_all)]; exact(Qu (E:=E) ((hS4.pick [2,3,4,5,6,0,7] Qa))).reorder [1,0,2] Qa⟩
  refine Qg Qa Qa (Qx h80) Qa (Q3 Qa (Qx h80) Qa Qa (Qe Qa Qa (Qg Qa Qa Qa Qa (Qg Qa Qa Qa Qa (Qg Qa Qa Qa Qa (Qg Qa Qa Qa Qa (Q3 Qa Qa Qa Qa (Qc Qa Qa (Qh (Qd (Qk [0,4,6,69] Qa (QJ Qa (Qt (Qq (Qd (Qf (Qb (Qe Qa Qa (Qc Qa Qa (Qh (Qd (Qo (Q5 (.inr Qa) Qa Qa ?_)))))))))))))))))))))))
  exact⟨_,rfl, by rw[ZC (by omega) (by first | omega | simp_all) (by first | omega | simp_all)]; exact(Qu (E:=E) ((hS4.pick [2,3,4,5,6,0,7] Qa))).reorder [1,0,2] Qa⟩
 refine Qg Qa Qa (Qx h53) Qa (Q3 Qa (Qx h53) Qa Qa (Qe Qa Qa (Qg Qa Qa Qa Qa (Qg Qa Qa Qa Qa (Qg Qa Qa Qa Qa (Qg Qa Qa Qa Qa (Q3 Qa Qa Qa Qa (Qe Qa Qa (Qg Qa Qa Qa Qa (Qg Qa Qa Qa Qa (Qg Qa Qa Qa Qa (Qg Qa Qa Qa Qa (Q3 Qa Qa Qa Qa (Qc Qa Qa (Qh (Qd (Qk [0,3,4,5,6,37] Qa (QJ Qa (Qf (Qb (Qi Qa Jv Qa (Qr Qa QH (hS4.cell 1 Qa Qa) Qa (QL Qa Qa Qa (Qe Qa Qa (Q4 73 Qa (fun h87=> ?_) (fun h87=> ?_))))))))))))))))))))))))))
 ·refine Qj Qa Qa (QD h87) (Qe Qa Qa (Q1 Qa (QD h87) Qa Qa (Qe Qa Qa (Q4 76 Qa (fun h88=> ?_) (fun h88=> ?_)))))
  ·refine Qj Qa Qa (QD h88) (Qe Qa Qa (Qj Qa Qa (QD h88) (Ql Qa Qa (Qj Qa Qa (QD h88) (Qi Qa XL Qa (Qj Qa Qa (QD h88) (Qr Qa J2 (hS4.cell 2 Qa Qa) Qa (Q1 Qa (QD h88) Qa Qa (Qc Qa Qa (Qh (Qd (Qk [0,4,6,69] Qa (QZ Qa (fun h89=> ?_) (fun h89=> ?_))))))))))))))
   ·refine Qb (Qe Qa Qa (Qe Qa Qa (Ql Qa Qa (Qi Qa XL Qa ?_))))
    (refine Qw hS4 Qa Qa XU (by rfl) (i:=2) Qa (QC Qa) ?_)
    intro w90 hS91; dsimp only[List.set]at hS91
    refine Ql Qa Qa (Qi Qa WC Qa ?_)
    (refine Qw hS91 Qa Qa XU (by rfl) (i:=2) Qa (QC Qa) ?_)
    intro w92 hS93; dsimp only[List.set]at hS93
    refine Qh (Qq (Qd (Qf (Qb (Qe Qa Qa (Qc Qa Qa (Qh (Qd (Qk [4] Qa (Qo (Q5 (.inr Qa) Qa Qa ?_)))))))))))
    exact⟨_,rfl, by rw[Un (by omega) (by omega) (by simp_all)]; exact(Qu (E:={E with active:=false,frozen:=false}) ((hS93.pick [2,3,4,5,6,0,7] Qa))).reorder [1,0,2] Qa⟩
   refine Qt (Qq (Qd (Qf (Qb (Qe Qa Qa (Qc Qa Qa (Qh (Qd (Qo (Q5 (.inr Qa) Qa Qa ?_))))))))))
   exact⟨_,rfl, by rw[ZC (by omega) (by first | omega | simp_all) (by first | omega | simp_all)]; exact(Qu (E:=E) ((hS4.pick [2,3,4,5,6,0,7] Qa))).reorder [1,0,2] Qa⟩
  refine Qg Qa Qa (Qx h88) Qa (Qg Qa Qa (Qx h88) Qa (Qg Qa Qa (Qx h88) Qa (Qg Qa Qa (Qx h88) Qa (Q3 Qa (Qx h88) Qa Qa (Qc Qa Qa (Qh (Qd (Qk [0,4,6,69] Qa (QJ Qa (Qt (Qq (Qd (Qf (Qb (Qe Qa Qa (Qc Qa Qa (Qh (Qd (Qo (Q5 (.inr Qa) Qa Qa ?_))))))))))))))))))))
  exact⟨_,rfl, by rw[ZC (by omega) (by first | omega | simp_all) (by first | omega | simp_all)]; exact(Qu (E:=E) ((hS4.pick [2,3,4,5,6,0,7] Qa))).reorder [1,0,2] Qa⟩
 refine Qg Qa Qa (Qx h87) Qa (Q3 Qa (Qx h87) Qa Qa (Qe Qa Qa (Qg Qa Qa Qa Qa (Qg Qa Qa Qa Qa (Qg Qa Qa Qa Qa (Qg Qa Qa Qa Qa (Q3 Qa Qa Qa Qa (Qc Qa Qa (Qh (Qd (Qk [0,4,6,69] Qa (QJ Qa (Qt (Qq (Qd (Qf (Qb (Qe Qa Qa (Qc Qa Qa (Qh (Qd (Qo (Q5 (.inr Qa) Qa Qa ?_)))))))))))))))))))))))
 exact⟨_,rfl, by rw[ZC (by omega) (by first | omega | simp_all) (by first | omega | simp_all)]; exact(Qu (E:=E) ((hS4.pick [2,3,4,5,6,0,7] Qa))).reorder [1,0,2] Qa⟩
