/- move: hearTarget -/
import Derived.Test.YtiibgheijbbmaaaGreatDoorMvb
set_option linter.unusedVariables false
set_option maxRecDepth 100000
set_option maxHeartbeats 2000000
namespace Go.Proofs.YtiibgheijbbmaaaGreatDoor
open Go.RowKit M Proofs.Tryz
section
variable {E:EnD} {m:MsD}
theorem Vm {k n:Int} (hu:E.cell≠none) (h:(QU E k n).1=0):(QU E k n).2.move=n:= by
  obtain⟨C,hC⟩:=Option.ne_none_iff_exists'.1 hu
  by_cases q:(Z5 E.D C (Xh k++Xh n)).e=0
  · rw[Kf hC q]
  · rw[Bj hC q]at h; exact absurd h q
abbrev noB (m:MsD):Bs:=WQ ⟨5,m.move,0,0,[]⟩
theorem CP (h:E.kind=3∧m.move=E.move):Xj E m=(E,[Zk E 4 0 0 []]):= by unfold Xj; rw[if_pos h]
theorem Lv (h: ¬(E.kind=3∧m.move=E.move)) (h1:E.kind≠1):Xj E m=(E,[]):= by unfold Xj; rw[if_neg h,if_pos h1]
theorem Lu (h1:E.kind=1) (h:m.kind=2∧m.move=E.move∧E.active=true∧E.frozen=true) (h2:(QU E 3 E.move).1≠0):Xj E m=((QU E 3 E.move).2,[]):= by unfold Xj; rw[if_neg (by omega),if_neg (by omega),if_pos h,if_pos h2]
theorem CO (h1:E.kind=1) (h:m.kind=2∧m.move=E.move∧E.active=true∧E.frozen=true) (h2:(QU E 3 E.move).1=0):Xj E m=({(QU E 3 E.move).2 with active:=false},[Zk (QU E 3 E.move).2 4 0 0 []]):= by unfold Xj; rw[if_neg (by omega),if_neg (by omega),if_pos h,if_neg (by omega)]
theorem UJ (h1:E.kind=1) (h: ¬(m.kind=2∧m.move=E.move∧E.active=true∧E.frozen=true)) (h2:m.kind=3∧m.move=E.move∧E.active=true):Xj E m=({E with active:=false,frozen:=false},[noB m]):= by unfold Xj; rw[if_neg (by omega),if_neg (by omega),if_neg h,if_pos h2]
theorem ZR (h1:E.kind=1) (h: ¬(m.kind=2∧m.move=E.move∧E.active=true∧E.frozen=true)) (h2: ¬(m.kind=3∧m.move=E.move∧E.active=true)):Xj E m=(E,[noB m]):= by unfold Xj; rw[if_neg (by omega),if_neg (by omega),if_neg h,if_neg h2]
end
theorem Ru {w:World} {e:Nat} {E:EnD} {F:Th} (hS:Sat w [Xu e E,F]) (m:MsD) (hG:Ent F WireG) (hO:Ent F (Glob 0)) (hu:E.cell≠none) (hmm:X5 m.move) (hmv:X5 E.move):
    Calls prog 72 #[ptrV e 0,.agg #[intV m.kind,intV m.move,intV m.a,intV m.b,strV m.data]] w (Ret fun v w'=>Sat w' [rowT Z2 v (Xj E m).2,Xu e (Xj E m).1,F]):= by
 obtain⟨dp,cv,sv,ov,hS⟩:=QQ hS
 refine Qx func72 Qa ntmps72 Qa ?_
 refine Qg (Qb (XT hS Qa Qa Qa ?_))
 intro mp w1 hS1
 replace hS1:Sat w1 (QR mp [intV m.kind,intV m.move,intV m.a,intV m.b,strV m.data]::_):=hS1
 refine Qc Qa Qa (Qh (Qd (Qg ?_)))
 have hS2:=hS1.drew
 refine QM [0,1,2,3,4,5,6,7] [] Wv (by kernel_rfl) ?_
 refine QN Qa Qa Qa ZB (Q9 Qa Qa Qa (Qn Qa QF (hS2.cell 0 Qa Qa)) (QK Qa Qa Qa (Xm Qa Qa Qa (QN Qa Qa Qa W5 (Q9 Qa Qa Qa (Qn Qa QF (hS2.cell 1 Qa Qa)) (QC Qa Qa Qa (fun _=>(HO Qa Qa)) ?_))))))
 refine WY Qa Qa Qa (VC.nil (Qd (Qk [0,3,4,5] Qa (Qg (Qb (Qi Qa ZB Qa (Qq Qa QF (hS2.cell 0 Qa Qa) Qa (JB (vs':=[intV 5,intV m.move,intV 0,intV 0,strV []]) Qa SW N5 Cg Qa Qa Qa (Qz F7 Qa (Bl (hS2.sp [] Qa) (hG.starL 6 Qa) (m:=⟨5,m.move,0,0,[]⟩) (Yo (XM (by decide)) hmm)) Qa ?_)))))))))
 rintro _ w3 ⟨rfl,hS3⟩
 replace hS3:=hS3.jn Qa Qa
 refine Xc Z2 [noB m] hS3 Qa underlying66 JP Qa Qa Qa Qa (by rfl) rfl ?_
 intro b4 w4 hS4
 refine Qc Qa Qa (Qh (Qd (Qg (QD (Qg (Qb (Qe Qa Qa (Ql Qa Qa (Qi Qa Zv Qa (Qq Qa QF (hS4.cell 2 Qa Qa) Qa (QL Qa Qa Qa (Qe Qa Qa (Q4 25 Qa (fun h5=> ?_) (fun h5=> ?_))))))))))))))
 ·refine Qj Qa Qa (Q8 h5) (Qe Qa Qa (Q0 Qa (Q8 h5) Qa Qa (Qc Qa Qa (Qh (Qd (Qk [0,3,4,5,6,19] Qa (Qt Qa (fun h6=> ?_) (fun h6=> ?_))))))))
  ·refine Qg ?_
   have hS7:=Qv (E:=E) (hS4.pick [2,3,4,5,6,0,1,7] Qa)
   refine Qb (Qe Qa Qa (Qz Ja Qa (WZ (hS7.sp [0] Qa) (hG.starL 2 Qa) (k:=4) (a:=0) (b:=0) (s:=[]) (Yo (XM (by decide)) hmv)) Qa ?_))
   rintro _ w8 ⟨rfl,hS8⟩
   replace hS8:=hS8.jn Qa Qa
   refine Xc Z2 [Zk E 4 0 0 []] hS8 Qa underlying66 JP Qa Qa Qa Qa (by rfl) rfl ?_
   intro b9 w9 hS9
   refine Qc Qa Qa (Qh (Qd (Qo (Qy (Qm (Q5 (.inr Qa) Qa Qa ?_))))))
   exact⟨_,rfl, by rw[CP (by omega)]; exact hS9.pick [0,1,4] Qa⟩
  refine Qg (Qb (Qe Qa Qa (Ql Qa Qa (Qi Qa Zv Qa (Qq Qa QF (hS4.cell 2 Qa Qa) Qa (Xr Qa Qa Qa (Qc Qa Qa (Qh (Qd (Qk [0,3,4,5,6,31] Qa (Qt Qa (fun h10=> ?_) (fun h10=> ?_))))))))))))
  ·refine Qg (Qb (Qc Qa Qa (Qh (Qd (Qo (Qy (Qm (Q5 (.inr Qa) Qa Qa ?_))))))))
   exact⟨_,rfl, by rw[Lv (by omega) (by omega)]; exact(Sat.row_nil Z2 (Qv (E:=E) ((hS4.pick [2,3,4,5,6,7] Qa))))⟩
  refine Qg (Qb (Qi Qa J8 Qa (Qq Qa QF (hS4.cell 1 Qa Qa) Qa (QL Qa Qa Qa (Qe Qa Qa (Q4 41 Qa (fun h11=> ?_) (fun h11=> ?_)))))))
  ·refine Qj Qa Qa (Q8 h11) (Qe Qa Qa (Q0 Qa (Q8 h11) Qa Qa (Qe Qa Qa (Q4 44 Qa (fun h12=> ?_) (fun h12=> ?_)))))
   ·refine Qj Qa Qa (Q8 h12) (Qe Qa Qa (Qj Qa Qa (Q8 h12) (Ql Qa Qa (Qj Qa Qa (Q8 h12) (Qi Qa Zc Qa (Qj Qa Qa (Q8 h12) (Qq Qa JG (hS4.cell 2 Qa Qa) Qa (Q0 Qa (Q8 h12) Qa Qa (Qe Qa Qa (Z4 50 Qa (fun h13=> ?_) (fun h13=> ?_)))))))))))
    ·refine Qj Qa Qa h13 (Qe Qa Qa (Qj Qa Qa h13 (Ql Qa Qa (Qj Qa Qa h13 (Qi Qa WU Qa (Qj Qa Qa h13 (Qq Qa JG (hS4.cell 2 Qa Qa) Qa (Q0 Qa h13 Qa Qa (Qc Qa Qa (Qh (Qd (Qk [0,3,4,5,6,37] Qa (Xb Qa (fun h14=> ?_) (fun h14=> ?_))))))))))))))
     ·refine Qg (Qg (Qb (Qe Qa Qa (Qe Qa Qa (Ql Qa Qa (Qi Qa W5 Qa (Qq Qa QF (hS4.cell 2 Qa Qa) Qa ?_)))))))
      have hS15:=Qv (E:=E) (hS4.pick [2,3,4,5,6,0,1,7] Qa)
      refine Qz Ku Qa (UH (hS15.sp [0] Qa) (hG.starL 2 Qa) (hO.starL 2 Qa) hu (k:=3) (m:=E.move) (XM (by decide)) hmv) Qa ?_
      rintro _ w16 ⟨rfl,hS16⟩
      replace hS16:=hS16.jn Qa Qa
      refine Xr Qa Qa Qa (Qh (Qd (Qk [0,4,6,62] Qa (Qt Qa (fun h17=> ?_) (fun h17=> ?_)))))
      ·refine Qg (Qb (Qc Qa Qa (Qh (Qd (Qo (Qm (Qy (Qm (Q5 (.inr Qa) Qa Qa ?_)))))))))
       exact⟨_,rfl, by rw[Lu (by omega) (by omega) (by omega)]; exact(Sat.row_nil Z2 (hS16.pick [0,3] Qa))⟩
      have hn0:(QU E 3 E.move).1=0:=Decidable.not_not.1 h17
      have hnm:X5 (QU E 3 E.move).2.move:= by rw[Vm hu hn0]; exact hmv
      refine Qr (Qd (Qg ?_))
      obtain⟨dp2,cv2,sv2,ov2,hS18⟩:=QQ (hS16.pick [0,1,2,3] rfl)
      refine Qb (Qe Qa Qa (Ql Qa Qa (Qi Qa Zc Qa ?_)))
      (refine Q7 hS18 Qa Qa Jd (by rfl) (i:=0) Qa (Xd Qa) ?_)
      intro w19 hS20; dsimp only[List.set]at hS20
      refine Qh (Qd (Qg ?_))
      have hS21:=Qv (E:={(QU E 3 E.move).2 with active:=false}) (hS20.pick [0,1,2,3,4,5,6,7] Qa)
      refine Qb (Qe Qa Qa (Qz Ja Qa (WZ (hS21.sp [0] Qa) (hG.starL 2 Qa) (E:={(QU E 3 E.move).2 with active:=false}) (k:=4) (a:=0) (b:=0) (s:=[]) (Yo (XM (by decide)) hnm)) Qa ?_))
      rintro _ w22 ⟨rfl,hS22⟩
      replace hS22:=hS22.jn Qa Qa
      refine Xc Z2 [Zk (QU E 3 E.move).2 4 0 0 []] hS22 Qa underlying66 JP Qa Qa Qa Qa (by rfl) rfl ?_
      intro b23 w23 hS23
      refine Qc Qa Qa (Qh (Qd (Qo (Qy (Qm (Q5 (.inr Qa) Qa Qa ?_))))))
      exact⟨_,rfl, by rw[CO (by omega) (by omega) (by omega)]; exact hS23.pick [0,1,4] Qa⟩
     refine Qg (Qb (Qi Qa J8 Qa (Qq Qa QF (hS4.cell 1 Qa Qa) Qa (QL Qa Qa Qa (Qe Qa Qa (Q4 73 Qa (fun h24=> ?_) (fun h24=> ?_)))))))
     ·refine Qj Qa Qa (Q8 h24) (Qe Qa Qa (Q0 Qa (Q8 h24) Qa Qa (Qe Qa Qa (Q4 76 Qa (fun h25=> ?_) (fun h25=> ?_)))))
      ·refine Qj Qa Qa (Q8 h25) (Qe Qa Qa (Qj Qa Qa (Q8 h25) (Ql Qa Qa (Qj Qa Qa (Q8 h25) (Qi Qa Zc Qa (Qj Qa Qa (Q8 h25) (Qq Qa JG (hS4.cell 2 Qa Qa) Qa (Q0 Qa (Q8 h25) Qa Qa (Qc Qa Qa (Qh (Qd (Qk [0,4,6,69] Qa (Xb Qa (fun h26=> ?_) (fun h26=> ?_))))))))))))))
       ·refine Qb (Qe Qa Qa (Qe Qa Qa (Ql Qa Qa (Qi Qa Zc Qa ?_))))
        (refine Q7 hS4 Qa Qa Jd (by rfl) (i:=2) Qa (Xd Qa) ?_)
        intro w27 hS28; dsimp only[List.set]at hS28
        refine Ql Qa Qa (Qi Qa WU Qa ?_)
        (refine Q7 hS28 Qa Qa Jd (by rfl) (i:=2) Qa (Xd Qa) ?_)
        intro w29 hS30; dsimp only[List.set]at hS30
        refine Qh (Qp (Qd (Qg (Qb (Qe Qa Qa (Qc Qa Qa (Qh (Qd (Qk [4] Qa (Qo (Q5 (.inr Qa) Qa Qa ?_)))))))))))
        exact⟨_,rfl, by rw[UJ (by omega) (by omega) (by omega)]; exact(Qv (E:={E with active:=false,frozen:=false}) ((hS30.pick [2,3,4,5,6,0,7] Qa))).reorder [1,0,2] Qa⟩
       refine Qr (Qp (Qd (Qg (Qb (Qe Qa Qa (Qc Qa Qa (Qh (Qd (Qo (Q5 (.inr Qa) Qa Qa ?_))))))))))
       exact⟨_,rfl, by rw[ZR (by omega) (by first | omega | simp_all) (by first | omega | simp_all)]; exact(Qv (E:=E) ((hS4.pick [2,3,4,5,6,0,7] Qa))).reorder [1,0,2] Qa⟩
      refine Qf Qa Qa (Qw h25) Qa (Qf Qa Qa (Qw h25) Qa (Qf Qa Qa (Qw h25) Qa (Qf Qa Qa (Qw h25) Qa (Q1 Qa (Qw h25) Qa Qa (Qc Qa Qa (Qh (Qd (Qk [0,4,6,69] Qa (QI Qa (Qr (Qp (Qd (Qg (Qb (Qe Qa Qa (Qc Qa Qa (Qh (Qd (Qo (Q5 (.inr Qa) Qa Qa ?_))))))))))))))))))))
      exact⟨_,rfl, by rw[ZR (by omega) (by first | omega | simp_all) (by first | omega | simp_all)]; exact(Qv (E:=E) ((hS4.pick [2,3,4,5,6,0,7] Qa))).reorder [1,0,2] Qa⟩
     refine Qf Qa Qa (Qw h24) Qa (Q1 Qa (Qw h24) Qa Qa (Qe Qa Qa (Qf Qa Qa Qa Qa (Qf Qa Qa Qa Qa (Qf Qa Qa Qa Qa (Qf Qa Qa Qa Qa (Q1 Qa Qa Qa Qa (Qc Qa Qa (Qh (Qd (Qk [0,4,6,69] Qa (QI Qa (Qr (Qp (Qd (Qg (Qb (Qe Qa Qa (Qc Qa Qa (Qh (Qd (Qo (Q5 (.inr Qa) Qa Qa ?_)))))))))))))))))))))))
     exact⟨_,rfl, by rw[ZR (by omega) (by first | omega | simp_all) (by first | omega | simp_all)]; exact(Qv (E:=E) ((hS4.pick [2,3,4,5,6,0,7] Qa))).reorder [1,0,2] Qa⟩
    refine Qf Qa Qa h13 Qa (Qf Qa Qa h13 Qa (Qf Qa Qa h13 Qa (Qf Qa Qa h13 Qa (Q1 Qa h13 Qa Qa (Qc Qa Qa (Qh (Qd (Qk [0,3,4,5,6,37] Qa (QI Qa (Qg (Qb (Qi Qa J8 Qa (Qq Qa QF (hS4.cell 1 Qa Qa) Qa (QL Qa Qa Qa (Qe Qa Qa (Q4 73 Qa (fun h31=> ?_) (fun h31=> ?_)))))))))))))))))
    ·refine Qj Qa Qa (Q8 h31) (Qe Qa Qa (Q0 Qa (Q8 h31) Qa Qa (Qe Qa Qa (Q4 76 Qa (fun h32=> ?_) (fun h32=> ?_)))))
     ·refine Qj Qa Qa (Q8 h32) (Qe Qa Qa (Qj Qa Qa (Q8 h32) (Ql Qa Qa (Qj Qa Qa (Q8 h32) (Qi Qa Zc Qa (Qj Qa Qa (Q8 h32) (Qq Qa JG (hS4.cell 2 Qa Qa) Qa (Q0 Qa (Q8 h32) Qa Qa (Qc Qa Qa (Qh (Qd (Qk [0,4,6,69] Qa (Xb Qa (fun h33=> ?_) (fun h33=> ?_))))))))))))))
      ·refine Qb (Qe Qa Qa (Qe Qa Qa (Ql Qa Qa (Qi Qa Zc Qa ?_))))
       (refine Q7 hS4 Qa Qa Jd (by rfl) (i:=2) Qa (Xd Qa) ?_)
       intro w34 hS35; dsimp only[List.set]at hS35
       refine Ql Qa Qa (Qi Qa WU Qa ?_)
       (refine Q7 hS35 Qa Qa Jd (by rfl) (i:=2) Qa (Xd Qa) ?_)
       intro w36 hS37; dsimp only[List.set]at hS37
       refine Qh (Qp (Qd (Qg (Qb (Qe Qa Qa (Qc Qa Qa (Qh (Qd (Qk [4] Qa (Qo (Q5 (.inr Qa) Qa Qa ?_)))))))))))
       exact⟨_,rfl, by rw[UJ (by omega) (by omega) (by omega)]; exact(Qv (E:={E with active:=false,frozen:=false}) ((hS37.pick [2,3,4,5,6,0,7] Qa))).reorder [1,0,2] Qa⟩
      refine Qr (Qp (Qd (Qg (Qb (Qe Qa Qa (Qc Qa Qa (Qh (Qd (Qo (Q5 (.inr Qa) Qa Qa ?_))))))))))
      exact⟨_,rfl, by rw[ZR (by omega) (by first | omega | simp_all) (by first | omega | simp_all)]; exact(Qv (E:=E) ((hS4.pick [2,3,4,5,6,0,7] Qa))).reorder [1,0,2] Qa⟩
     refine Qf Qa Qa (Qw h32) Qa (Qf Qa Qa (Qw h32) Qa (Qf Qa Qa (Qw h32) Qa (Qf Qa Qa (Qw h32) Qa (Q1 Qa (Qw h32) Qa Qa (Qc Qa Qa (Qh (Qd (Qk [0,4,6,69] Qa (QI Qa (Qr (Qp (Qd (Qg (Qb (Qe Qa Qa (Qc Qa Qa (Qh (Qd (Qo (Q5 (.inr Qa) Qa Qa ?_))))))))))))))))))))
     exact⟨_,rfl, by rw[ZR (by omega) (by first | omega | simp_all) (by first | omega | simp_all)]; exact(Qv (E:=E) ((hS4.pick [2,3,4,5,6,0,7] Qa))).reorder [1,0,2] Qa⟩
    refine Qf Qa Qa (Qw h31) Qa (Q1 Qa (Qw h31) Qa Qa (Qe Qa Qa (Qf Qa Qa Qa Qa (Qf Qa Qa Qa Qa (Qf Qa Qa Qa Qa (Qf Qa Qa Qa Qa (Q1 Qa Qa Qa Qa (Qc Qa Qa (Qh (Qd (Qk [0,4,6,69] Qa (QI Qa (Qr (Qp (Qd (Qg (Qb (Qe Qa Qa (Qc Qa Qa (Qh (Qd (Qo (Q5 (.inr Qa) Qa Qa ?_)))))))))))))))))))))))
    exact⟨_,rfl, by rw[ZR (by omega) (by first | omega | simp_all) (by first | omega | simp_all)]; exact(Qv (E:=E) ((hS4.pick [2,3,4,5,6,0,7] Qa))).reorder [1,0,2] Qa⟩
   refine Qf Qa Qa (Qw h12) Qa (Qf Qa Qa (Qw h12) Qa (Qf Qa Qa (Qw h12) Qa (Qf Qa Qa (Qw h12) Qa (Q1 Qa (Qw h12) Qa Qa (Qe Qa Qa (Qf Qa Qa Qa Qa (Qf Qa Qa Qa Qa (Qf Qa Qa Qa Qa (Qf Qa Qa Qa Qa (Q1 Qa Qa Qa Qa (Qc Qa Qa (Qh (Qd (Qk [0,3,4,5,6,37] Qa (QI Qa (Qg (Qb (Qi Qa J8 Qa (Qq Qa QF (hS4.cell 1 Qa Qa) Qa (QL Qa Qa Qa (Qe Qa Qa (Q4 73 Qa (fun h38=> ?_) (fun h38=> ?_)))))))))))))))))))))))
   ·refine Qj Qa Qa (Q8 h38) (Qe Qa Qa (Q0 Qa (Q8 h38) Qa Qa (Qe Qa Qa (Q4 76 Qa (fun h39=> ?_) (fun h39=> ?_)))))
    ·refine Qj Qa Qa (Q8 h39) (Qe Qa Qa (Qj Qa Qa (Q8 h39) (Ql Qa Qa (Qj Qa Qa (Q8 h39) (Qi Qa Zc Qa (Qj Qa Qa (Q8 h39) (Qq Qa JG (hS4.cell 2 Qa Qa) Qa (Q0 Qa (Q8 h39) Qa Qa (Qc Qa Qa (Qh (Qd (Qk [0,4,6,69] Qa (Xb Qa (fun h40=> ?_) (fun h40=> ?_))))))))))))))
     ·refine Qb (Qe Qa Qa (Qe Qa Qa (Ql Qa Qa (Qi Qa Zc Qa ?_))))
      (refine Q7 hS4 Qa Qa Jd (by rfl) (i:=2) Qa (Xd Qa) ?_)
      intro w41 hS42; dsimp only[List.set]at hS42
      refine Ql Qa Qa (Qi Qa WU Qa ?_)
      (refine Q7 hS42 Qa Qa Jd (by rfl) (i:=2) Qa (Xd Qa) ?_)
      intro w43 hS44; dsimp only[List.set]at hS44
      refine Qh (Qp (Qd (Qg (Qb (Qe Qa Qa (Qc Qa Qa (Qh (Qd (Qk [4] Qa (Qo (Q5 (.inr Qa) Qa Qa ?_)))))))))))
      exact⟨_,rfl, by rw[UJ (by omega) (by omega) (by omega)]; exact(Qv (E:={E with active:=false,frozen:=false}) ((hS44.pick [2,3,4,5,6,0,7] Qa))).reorder [1,0,2] Qa⟩
     refine Qr (Qp (Qd (Qg (Qb (Qe Qa Qa (Qc Qa Qa (Qh (Qd (Qo (Q5 (.inr Qa) Qa Qa ?_))))))))))
     exact⟨_,rfl, by rw[ZR (by omega) (by first | omega | simp_all) (by first | omega | simp_all)]; exact(Qv (E:=E) ((hS4.pick [2,3,4,5,6,0,7] Qa))).reorder [1,0,2] Qa⟩
    refine Qf Qa Qa (Qw h39) Qa (Qf Qa Qa (Qw h39) Qa (Qf Qa Qa (Qw h39) Qa (Qf Qa Qa (Qw h39) Qa (Q1 Qa (Qw h39) Qa Qa (Qc Qa Qa (Qh (Qd (Qk [0,4,6,69] Qa (QI Qa (Qr (Qp (Qd (Qg (Qb (Qe Qa Qa (Qc Qa Qa (Qh (Qd (Qo (Q5 (.inr Qa) Qa Qa ?_))))))))))))))))))))
    exact⟨_,rfl, by rw[ZR (by omega) (by first | omega | simp_all) (by first | omega | simp_all)]; exact(Qv (E:=E) ((hS4.pick [2,3,4,5,6,0,7] Qa))).reorder [1,0,2] Qa⟩
   refine Qf Qa Qa (Qw h38) Qa (Q1 Qa (Qw h38) Qa Qa (Qe Qa Qa (Qf Qa Qa Qa Qa (Qf Qa Qa Qa Qa (Qf Qa Qa Qa Qa (Qf Qa Qa Qa Qa (Q1 Qa Qa Qa Qa (Qc Qa Qa (Qh (Qd (Qk [0,4,6,69] Qa (QI Qa (Qr (Qp (Qd (Qg (Qb (Qe Qa Qa (Qc Qa Qa (Qh (Qd (Qo (Q5 (.inr Qa) Qa Qa ?_)))))))))))))))))))))))
   exact⟨_,rfl, by rw[ZR (by omega) (by first | omega | simp_all) (by first | omega | simp_all)]; exact(Qv (E:=E) ((hS4.pick [2,3,4,5,6,0,7] Qa))).reorder [1,0,2] Qa⟩
  refine Qf Qa Qa (Qw h11) Qa (Q1 Qa (Qw h11) Qa Qa (Qe Qa Qa (Qf Qa Qa Qa Qa (Qf Qa Qa Qa Qa (Qf Qa Qa Qa Qa (Qf Qa Qa Qa Qa (Q1 Qa Qa Qa Qa (Qe Qa Qa (Qf Qa Qa Qa Qa (Qf Qa Qa Qa Qa (Qf Qa Qa Qa Qa (Qf Qa Qa Qa Qa (Q1 Qa Qa Qa Qa (Qc Qa Qa (Qh (Qd (Qk [0,3,4,5,6,37] Qa (QI Qa (Qg (Qb (Qi Qa J8 Qa (Qq Qa QF (hS4.cell 1 Qa Qa) Qa (QL Qa Qa Qa (Qe Qa Qa (Q4 73 Qa (fun h45=> ?_) (fun h45=> ?_))))))))))))))))))))))))))
  ·refine Qj Qa Qa (Q8 h45) (Qe Qa Qa (Q0 Qa (Q8 h45) Qa Qa (Qe Qa Qa (Q4 76 Qa (fun h46=> ?_) (fun h46=> ?_)))))
   ·refine Qj Qa Qa (Q8 h46) (Qe Qa Qa (Qj Qa Qa (Q8 h46) (Ql Qa Qa (Qj Qa Qa (Q8 h46) (Qi Qa Zc Qa (Qj Qa Qa (Q8 h46) (Qq Qa JG (hS4.cell 2 Qa Qa) Qa (Q0 Qa (Q8 h46) Qa Qa (Qc Qa Qa (Qh (Qd (Qk [0,4,6,69] Qa (Xb Qa (fun h47=> ?_) (fun h47=> ?_))))))))))))))
    ·refine Qb (Qe Qa Qa (Qe Qa Qa (Ql Qa Qa (Qi Qa Zc Qa ?_))))
     (refine Q7 hS4 Qa Qa Jd (by rfl) (i:=2) Qa (Xd Qa) ?_)
     intro w48 hS49; dsimp only[List.set]at hS49
     refine Ql Qa Qa (Qi Qa WU Qa ?_)
     (refine Q7 hS49 Qa Qa Jd (by rfl) (i:=2) Qa (Xd Qa) ?_)
     intro w50 hS51; dsimp only[List.set]at hS51
     refine Qh (Qp (Qd (Qg (Qb (Qe Qa Qa (Qc Qa Qa (Qh (Qd (Qk [4] Qa (Qo (Q5 (.inr Qa) Qa Qa ?_)))))))))))
     exact⟨_,rfl, by rw[UJ (by omega) (by omega) (by omega)]; exact(Qv (E:={E with active:=false,frozen:=false}) ((hS51.pick [2,3,4,5,6,0,7] Qa))).reorder [1,0,2] Qa⟩
    refine Qr (Qp (Qd (Qg (Qb (Qe Qa Qa (Qc Qa Qa (Qh (Qd (Qo (Q5 (.inr Qa) Qa Qa ?_))))))))))
    exact⟨_,rfl, by rw[ZR (by omega) (by first | omega | simp_all) (by first | omega | simp_all)]; exact(Qv (E:=E) ((hS4.pick [2,3,4,5,6,0,7] Qa))).reorder [1,0,2] Qa⟩
   refine Qf Qa Qa (Qw h46) Qa (Qf Qa Qa (Qw h46) Qa (Qf Qa Qa (Qw h46) Qa (Qf Qa Qa (Qw h46) Qa (Q1 Qa (Qw h46) Qa Qa (Qc Qa Qa (Qh (Qd (Qk [0,4,6,69] Qa (QI Qa (Qr (Qp (Qd (Qg (Qb (Qe Qa Qa (Qc Qa Qa (Qh (Qd (Qo (Q5 (.inr Qa) Qa Qa ?_))))))))))))))))))))
   exact⟨_,rfl, by rw[ZR (by omega) (by first | omega | simp_all) (by first | omega | simp_all)]; exact(Qv (E:=E) ((hS4.pick [2,3,4,5,6,0,7] Qa))).reorder [1,0,2] Qa⟩
  refine Qf Qa Qa (Qw h45) Qa (Q1 Qa (Qw h45) Qa Qa (Qe Qa Qa (Qf Qa Qa Qa Qa (Qf Qa Qa Qa Qa (Qf Qa Qa Qa Qa (Qf Qa Qa Qa Qa (Q1 Qa Qa Qa Qa (Qc Qa Qa (Qh (Qd (Qk [0,4,6,69] Qa (QI Qa (Qr (Qp (Qd (Qg (Qb (Qe Qa Qa (Qc Qa Qa (Qh (Qd (Qo (Q5 (.inr Qa) Qa Qa ?_)))))))))))))))))))))))
  exact⟨_,rfl, by rw[ZR (by omega) (by first | omega | simp_all) (by first | omega | simp_all)]; exact(Qv (E:=E) ((hS4.pick [2,3,4,5,6,0,7] Qa))).reorder [1,0,2] Qa⟩
 refine Qf Qa Qa (Qw h5) Qa (Q1 Qa (Qw h5) Qa Qa (Qc Qa Qa (Qh (Qd (Qk [0,3,4,5,6,19] Qa (QI Qa (Qg (Qb (Qe Qa Qa (Ql Qa Qa (Qi Qa Zv Qa (Qq Qa QF (hS4.cell 2 Qa Qa) Qa (Xr Qa Qa Qa (Qc Qa Qa (Qh (Qd (Qk [0,3,4,5,6,31] Qa (Qt Qa (fun h52=> ?_) (fun h52=> ?_)))))))))))))))))))
 ·refine Qg (Qb (Qc Qa Qa (Qh (Qd (Qo (Qy (Qm (Q5 (.inr Qa) Qa Qa ?_))))))))
  exact⟨_,rfl, by rw[Lv (by omega) (by omega)]; exact(Sat.row_nil Z2 (Qv (E:=E) ((hS4.pick [2,3,4,5,6,7] Qa))))⟩
 refine Qg (Qb (Qi Qa J8 Qa (Qq Qa QF (hS4.cell 1 Qa Qa) Qa (QL Qa Qa Qa (Qe Qa Qa (Q4 41 Qa (fun h53=> ?_) (fun h53=> ?_)))))))
 ·refine Qj Qa Qa (Q8 h53) (Qe Qa Qa (Q0 Qa (Q8 h53) Qa Qa (Qe Qa Qa (Q4 44 Qa (fun h54=> ?_) (fun h54=> ?_)))))
  ·refine Qj Qa Qa (Q8 h54) (Qe Qa Qa (Qj Qa Qa (Q8 h54) (Ql Qa Qa (Qj Qa Qa (Q8 h54) (Qi Qa Zc Qa (Qj Qa Qa (Q8 h54) (Qq Qa JG (hS4.cell 2 Qa Qa) Qa (Q0 Qa (Q8 h54) Qa Qa (Qe Qa Qa (Z4 50 Qa (fun h55=> ?_) (fun h55=> ?_)))))))))))
   ·refine Qj Qa Qa h55 (Qe Qa Qa (Qj Qa Qa h55 (Ql Qa Qa (Qj Qa Qa h55 (Qi Qa WU Qa (Qj Qa Qa h55 (Qq Qa JG (hS4.cell 2 Qa Qa) Qa (Q0 Qa h55 Qa Qa (Qc Qa Qa (Qh (Qd (Qk [0,3,4,5,6,37] Qa (Xb Qa (fun h56=> ?_) (fun h56=> ?_))))))))))))))
    ·refine Qg (Qg (Qb (Qe Qa Qa (Qe Qa Qa (Ql Qa Qa (Qi Qa W5 Qa (Qq Qa QF (hS4.cell 2 Qa Qa) Qa ?_)))))))
     have hS57:=Qv (E:=E) (hS4.pick [2,3,4,5,6,0,1,7] Qa)
     refine Qz Ku Qa (UH (hS57.sp [0] Qa) (hG.starL 2 Qa) (hO.starL 2 Qa) hu (k:=3) (m:=E.move) (XM (by decide)) hmv) Qa ?_
     rintro _ w58 ⟨rfl,hS58⟩
     replace hS58:=hS58.jn Qa Qa
     refine Xr Qa Qa Qa (Qh (Qd (Qk [0,4,6,62] Qa (Qt Qa (fun h59=> ?_) (fun h59=> ?_)))))
     ·refine Qg (Qb (Qc Qa Qa (Qh (Qd (Qo (Qm (Qy (Qm (Q5 (.inr Qa) Qa Qa ?_)))))))))
      exact⟨_,rfl, by rw[Lu (by omega) (by simp_all) (by omega)]; exact(Sat.row_nil Z2 (hS58.pick [0,3] Qa))⟩
     have hn0:(QU E 3 E.move).1=0:=Decidable.not_not.1 h59
     have hnm:X5 (QU E 3 E.move).2.move:= by rw[Vm hu hn0]; exact hmv
     refine Qr (Qd (Qg ?_))
     obtain⟨dp2,cv2,sv2,ov2,hS60⟩:=QQ (hS58.pick [0,1,2,3] rfl)
     refine Qb (Qe Qa Qa (Ql Qa Qa (Qi Qa Zc Qa ?_)))
     (refine Q7 hS60 Qa Qa Jd (by rfl) (i:=0) Qa (Xd Qa) ?_)
     intro w61 hS62; dsimp only[List.set]at hS62
     refine Qh (Qd (Qg ?_))
     have hS63:=Qv (E:={(QU E 3 E.move).2 with active:=false}) (hS62.pick [0,1,2,3,4,5,6,7] Qa)
     refine Qb (Qe Qa Qa (Qz Ja Qa (WZ (hS63.sp [0] Qa) (hG.starL 2 Qa) (E:={(QU E 3 E.move).2 with active:=false}) (k:=4) (a:=0) (b:=0) (s:=[]) (Yo (XM (by decide)) hnm)) Qa ?_))
     rintro _ w64 ⟨rfl,hS64⟩
     replace hS64:=hS64.jn Qa Qa
     refine Xc Z2 [Zk (QU E 3 E.move).2 4 0 0 []] hS64 Qa underlying66 JP Qa Qa Qa Qa (by rfl) rfl ?_
     intro b65 w65 hS65
     refine Qc Qa Qa (Qh (Qd (Qo (Qy (Qm (Q5 (.inr Qa) Qa Qa ?_))))))
     exact⟨_,rfl, by rw[CO (by omega) (by simp_all) (by omega)]; exact hS65.pick [0,1,4] Qa⟩
    refine Qg (Qb (Qi Qa J8 Qa (Qq Qa QF (hS4.cell 1 Qa Qa) Qa (QL Qa Qa Qa (Qe Qa Qa (Q4 73 Qa (fun h66=> ?_) (fun h66=> ?_)))))))
    ·refine Qj Qa Qa (Q8 h66) (Qe Qa Qa (Q0 Qa (Q8 h66) Qa Qa (Qe Qa Qa (Q4 76 Qa (fun h67=> ?_) (fun h67=> ?_)))))
     ·refine Qj Qa Qa (Q8 h67) (Qe Qa Qa (Qj Qa Qa (Q8 h67) (Ql Qa Qa (Qj Qa Qa (Q8 h67) (Qi Qa Zc Qa (Qj Qa Qa (Q8 h67) (Qq Qa JG (hS4.cell 2 Qa Qa) Qa (Q0 Qa (Q8 h67) Qa Qa (Qc Qa Qa (Qh (Qd (Qk [0,4,6,69] Qa (Xb Qa (fun h68=> ?_) (fun h68=> ?_))))))))))))))
      ·refine Qb (Qe Qa Qa (Qe Qa Qa (Ql Qa Qa (Qi Qa Zc Qa ?_))))
       (refine Q7 hS4 Qa Qa Jd (by rfl) (i:=2) Qa (Xd Qa) ?_)
       intro w69 hS70; dsimp only[List.set]at hS70
       refine Ql Qa Qa (Qi Qa WU Qa ?_)
       (refine Q7 hS70 Qa Qa Jd (by rfl) (i:=2) Qa (Xd Qa) ?_)
       intro w71 hS72; dsimp only[List.set]at hS72
       refine Qh (Qp (Qd (Qg (Qb (Qe Qa Qa (Qc Qa Qa (Qh (Qd (Qk [4] Qa (Qo (Q5 (.inr Qa) Qa Qa ?_)))))))))))
       exact⟨_,rfl, by rw[UJ (by omega) (by omega) (by omega)]; exact(Qv (E:={E with active:=false,frozen:=false}) ((hS72.pick [2,3,4,5,6,0,7] Qa))).reorder [1,0,2] Qa⟩
      refine Qr (Qp (Qd (Qg (Qb (Qe Qa Qa (Qc Qa Qa (Qh (Qd (Qo (Q5 (.inr Qa) Qa Qa ?_))))))))))
      exact⟨_,rfl, by rw[ZR (by omega) (by first | omega | simp_all) (by first | omega | simp_all)]; exact(Qv (E:=E) ((hS4.pick [2,3,4,5,6,0,7] Qa))).reorder [1,0,2] Qa⟩
     refine Qf Qa Qa (Qw h67) Qa (Qf Qa Qa (Qw h67) Qa (Qf Qa Qa (Qw h67) Qa (Qf Qa Qa (Qw h67) Qa (Q1 Qa (Qw h67) Qa Qa (Qc Qa Qa (Qh (Qd (Qk [0,4,6,69] Qa (QI Qa (Qr (Qp (Qd (Qg (Qb (Qe Qa Qa (Qc Qa Qa (Qh (Qd (Qo (Q5 (.inr Qa) Qa Qa ?_))))))))))))))))))))
     exact⟨_,rfl, by rw[ZR (by omega) (by first | omega | simp_all) (by first | omega | simp_all)]; exact(Qv (E:=E) ((hS4.pick [2,3,4,5,6,0,7] Qa))).reorder [1,0,2] Qa⟩
    refine Qf Qa Qa (Qw h66) Qa (Q1 Qa (Qw h66) Qa Qa (Qe Qa Qa (Qf Qa Qa Qa Qa (Qf Qa Qa Qa Qa (Qf Qa Qa Qa Qa (Qf Qa Qa Qa Qa (Q1 Qa Qa Qa Qa (Qc Qa Qa (Qh (Qd (Qk [0,4,6,69] Qa (QI Qa (Qr (Qp (Qd (Qg (Qb (Qe Qa Qa (Qc Qa Qa (Qh (Qd (Qo (Q5 (.inr Qa) Qa Qa ?_)))))))))))))))))))))))
    exact⟨_,rfl, by rw[ZR (by omega) (by first | omega | simp_all) (by first | omega | simp_all)]; exact(Qv (E:=E) ((hS4.pick [2,3,4,5,6,0,7] Qa))).reorder [1,0,2] Qa⟩
   refine Qf Qa Qa h55 Qa (Qf Qa Qa h55 Qa (Qf Qa Qa h55 Qa (Qf Qa Qa h55 Qa (Q1 Qa h55 Qa Qa (Qc Qa Qa (Qh (Qd (Qk [0,3,4,5,6,37] Qa (QI Qa (Qg (Qb (Qi Qa J8 Qa (Qq Qa QF (hS4.cell 1 Qa Qa) Qa (QL Qa Qa Qa (Qe Qa Qa (Q4 73 Qa (fun h73=> ?_) (fun h73=> ?_)))))))))))))))))
   ·refine Qj Qa Qa (Q8 h73) (Qe Qa Qa (Q0 Qa (Q8 h73) Qa Qa (Qe Qa Qa (Q4 76 Qa (fun h74=> ?_) (fun h74=> ?_)))))
    ·refine Qj Qa Qa (Q8 h74) (Qe Qa Qa (Qj Qa Qa (Q8 h74) (Ql Qa Qa (Qj Qa Qa (Q8 h74) (Qi Qa Zc Qa (Qj Qa Qa (Q8 h74) (Qq Qa JG (hS4.cell 2 Qa Qa) Qa (Q0 Qa (Q8 h74) Qa Qa (Qc Qa Qa (Qh (Qd (Qk [0,4,6,69] Qa (Xb Qa (fun h75=> ?_) (fun h75=> ?_))))))))))))))
     ·refine Qb (Qe Qa Qa (Qe Qa Qa (Ql Qa Qa (Qi Qa Zc Qa ?_))))
      (refine Q7 hS4 Qa Qa Jd (by rfl) (i:=2) Qa (Xd Qa) ?_)
      intro w76 hS77; dsimp only[List.set]at hS77
      refine Ql Qa Qa (Qi Qa WU Qa ?_)
      (refine Q7 hS77 Qa Qa Jd (by rfl) (i:=2) Qa (Xd Qa) ?_)
      intro w78 hS79; dsimp only[List.set]at hS79
      refine Qh (Qp (Qd (Qg (Qb (Qe Qa Qa (Qc Qa Qa (Qh (Qd (Qk [4] Qa (Qo (Q5 (.inr Qa) Qa Qa ?_)))))))))))
      exact⟨_,rfl, by rw[UJ (by omega) (by omega) (by omega)]; exact(Qv (E:={E with active:=false,frozen:=false}) ((hS79.pick [2,3,4,5,6,0,7] Qa))).reorder [1,0,2] Qa⟩
     refine Qr (Qp (Qd (Qg (Qb (Qe Qa Qa (Qc Qa Qa (Qh (Qd (Qo (Q5 (.inr Qa) Qa Qa ?_))))))))))
     exact⟨_,rfl, by rw[ZR (by omega) (by first | omega | simp_all) (by first | omega | simp_all)]; exact(Qv (E:=E) ((hS4.pick [2,3,4,5,6,0,7] Qa))).reorder [1,0,2] Qa⟩
    refine Qf Qa Qa (Qw h74) Qa (Qf Qa Qa (Qw h74) Qa (Qf Qa Qa (Qw h74) Qa (Qf Qa Qa (Qw h74) Qa (Q1 Qa (Qw h74) Qa Qa (Qc Qa Qa (Qh (Qd (Qk [0,4,6,69] Qa (QI Qa (Qr (Qp (Qd (Qg (Qb (Qe Qa Qa (Qc Qa Qa (Qh (Qd (Qo (Q5 (.inr Qa) Qa Qa ?_))))))))))))))))))))
    exact⟨_,rfl, by rw[ZR (by omega) (by first | omega | simp_all) (by first | omega | simp_all)]; exact(Qv (E:=E) ((hS4.pick [2,3,4,5,6,0,7] Qa))).reorder [1,0,2] Qa⟩
   refine Qf Qa Qa (Qw h73) Qa (Q1 Qa (Qw h73) Qa Qa (Qe Qa Qa (Qf Qa Qa Qa Qa (Qf Qa Qa Qa Qa (Qf Qa Qa Qa Qa (Qf Qa Qa Qa Qa (Q1 Qa Qa Qa Qa (Qc Qa Qa (Qh (Qd (Qk [0,4,6,69] Qa (QI Qa (Qr (Qp (Qd (Qg (Qb (Qe Qa Qa (Qc Qa Qa (Qh (Qd (Qo (Q5 (.inr Qa) Qa Qa ?_)))))))))))))))))))))))
   exact⟨_,rfl, by rw[ZR (by omega) (by first | omega | simp_all) (by first | omega | simp_all)]; exact(Qv (E:=E) ((hS4.pick [2,3,4,5,6,0,7] Qa))).reorder [1,0,2] Qa⟩
  refine Qf Qa Qa (Qw h54) Qa (Qf Qa Qa (Qw h54) Qa (Qf Qa Qa (Qw h54) Qa (Qf Qa Qa (Qw h54) Qa (Q1 Qa (Qw h54) Qa Qa (Qe Qa Qa (Qf Qa Qa Qa Qa (Qf Qa Qa Qa Qa (Qf Qa Qa Qa Qa (Qf Qa Qa Qa Qa (Q1 Qa Qa Qa Qa (Qc Qa Qa (Qh (Qd (Qk [0,3,4,5,6,37] Qa (QI Qa (Qg (Qb (Qi Qa J8 Qa (Qq Qa QF (hS4.cell 1 Qa Qa) Qa (QL Qa Qa Qa (Qe Qa Qa (Q4 73 Qa (fun h80=> ?_) (fun h80=> ?_)))))))))))))))))))))))
  ·refine Qj Qa Qa (Q8 h80) (Qe Qa Qa (Q0 Qa (Q8 h80) Qa Qa (Qe Qa Qa (Q4 76 Qa (fun h81=> ?_) (fun h81=> ?_)))))
   ·refine Qj Qa Qa (Q8 h81) (Qe Qa Qa (Qj Qa Qa (Q8 h81) (Ql Qa Qa (Qj Qa Qa (Q8 h81) (Qi Qa Zc Qa (Qj Qa Qa (Q8 h81) (Qq Qa JG (hS4.cell 2 Qa Qa) Qa (Q0 Qa (Q8 h81) Qa Qa (Qc Qa Qa (Qh (Qd (Qk [0,4,6,69] Qa (Xb Qa (fun h82=> ?_) (fun h82=> ?_))))))))))))))
    ·refine Qb (Qe Qa Qa (Qe Qa Qa (Ql Qa Qa (Qi Qa Zc Qa ?_))))
     (refine Q7 hS4 Qa Qa Jd (by rfl) (i:=2) Qa (Xd Qa) ?_)
     intro w83 hS84; dsimp only[List.set]at hS84
     refine Ql Qa Qa (Qi Qa WU Qa ?_)
     (refine Q7 hS84 Qa Qa Jd (by rfl) (i:=2) Qa (Xd Qa) ?_)
     intro w85 hS86; dsimp only[List.set]at hS86
     refine Qh (Qp (Qd (Qg (Qb (Qe Qa Qa (Qc Qa Qa (Qh (Qd (Qk [4] Qa (Qo (Q5 (.inr Qa) Qa Qa ?_)))))))))))
     exact⟨_,rfl, by rw[UJ (by omega) (by omega) (by omega)]; exact(Qv (E:={E with active:=false,frozen:=false}) ((hS86.pick [2,3,4,5,6,0,7] Qa))).reorder [1,0,2] Qa⟩
    refine Qr (Qp (Qd (Qg (Qb (Qe Qa Qa (Qc Qa Qa (Qh (Qd (Qo (Q5 (.inr Qa) Qa Qa ?_))))))))))
    exact⟨_,rfl, by rw[ZR (by omega) (by first | omega | simp_all) (by first | omega | simp_all)]; exact(Qv (E:=E) ((hS4.pick [2,3,4,5,6,0,7] Qa))).reorder [1,0,2] Qa⟩
   refine Qf Qa Qa (Qw h81) Qa (Qf Qa Qa (Qw h81) Qa (Qf Qa Qa (Qw h81) Qa (Qf Qa Qa (Qw h81) Qa (Q1 Qa (Qw h81) Qa Qa (Qc Qa Qa (Qh (Qd (Qk [0,4,6,69] Qa (QI Qa (Qr (Qp (Qd (Qg (Qb (Qe Qa Qa (Qc Qa Qa (Qh (Qd (Qo (Q5 (.inr Qa) Qa Qa ?_))))))))))))))))))))
   exact⟨_,rfl, by rw[ZR (by omega) (by first | omega | simp_all) (by first | omega | simp_all)]; exact(Qv (E:=E) ((hS4.pick [2,3,4,5,6,0,7] Qa))).reorder [1,0,2] Qa⟩
  refine Qf Qa Qa (Qw h80) Qa (Q1 Qa (Qw h80) Qa Qa (Qe Qa Qa (Qf Qa Qa Qa Qa (Qf Qa Qa Qa Qa (Qf Qa Qa Qa Qa (Qf Qa Qa Qa Qa (Q1 Qa Qa Qa Qa (Qc Qa Qa (Qh (Qd (Qk [0,4,6,69] Qa (QI Qa (Qr (Qp (Qd (Qg (Qb (Qe Qa Qa (Qc Qa Qa (Qh (Qd (Qo (Q5 (.inr Qa) Qa Qa ?_)))))))))))))))))))))))
  exact⟨_,rfl, by rw[ZR (by omega) (by first | omega | simp_all) (by first | omega | simp_all)]; exact(Qv (E:=E) ((hS4.pick [2,3,4,5,6,0,7] Qa))).reorder [1,0,2] Qa⟩
 refine Qf Qa Qa (Qw h53) Qa (Q1 Qa (Qw h53) Qa Qa (Qe Qa Qa (Qf Qa Qa Qa Qa (Qf Qa Qa Qa Qa (Qf Qa Qa Qa Qa (Qf Qa Qa Qa Qa (Q1 Qa Qa Qa Qa (Qe Qa Qa (Qf Qa Qa Qa Qa (Qf Qa Qa Qa Qa (Qf Qa Qa Qa Qa (Qf Qa Qa Qa Qa (Q1 Qa Qa Qa Qa (Qc Qa Qa (Qh (Qd (Qk [0,3,4,5,6,37] Qa (QI Qa (Qg (Qb (Qi Qa J8 Qa (Qq Qa QF (hS4.cell 1 Qa Qa) Qa (QL Qa Qa Qa (Qe Qa Qa (Q4 73 Qa (fun h87=> ?_) (fun h87=> ?_))))))))))))))))))))))))))
 ·refine Qj Qa Qa (Q8 h87) (Qe Qa Qa (Q0 Qa (Q8 h87) Qa Qa (Qe Qa Qa (Q4 76 Qa (fun h88=> ?_) (fun h88=> ?_)))))
  ·refine Qj Qa Qa (Q8 h88) (Qe Qa Qa (Qj Qa Qa (Q8 h88) (Ql Qa Qa (Qj Qa Qa (Q8 h88) (Qi Qa Zc Qa (Qj Qa Qa (Q8 h88) (Qq Qa JG (hS4.cell 2 Qa Qa) Qa (Q0 Qa (Q8 h88) Qa Qa (Qc Qa Qa (Qh (Qd (Qk [0,4,6,69] Qa (Xb Qa (fun h89=> ?_) (fun h89=> ?_))))))))))))))
   ·refine Qb (Qe Qa Qa (Qe Qa Qa (Ql Qa Qa (Qi Qa Zc Qa ?_))))
    (refine Q7 hS4 Qa Qa Jd (by rfl) (i:=2) Qa (Xd Qa) ?_)
    intro w90 hS91; dsimp only[List.set]at hS91
    refine Ql Qa Qa (Qi Qa WU Qa ?_)
    (refine Q7 hS91 Qa Qa Jd (by rfl) (i:=2) Qa (Xd Qa) ?_)
    intro w92 hS93; dsimp only[List.set]at hS93
    refine Qh (Qp (Qd (Qg (Qb (Qe Qa Qa (Qc Qa Qa (Qh (Qd (Qk [4] Qa (Qo (Q5 (.inr Qa) Qa Qa ?_)))))))))))
    exact⟨_,rfl, by rw[UJ (by omega) (by omega) (by simp_all)]; exact(Qv (E:={E with active:=false,frozen:=false}) ((hS93.pick [2,3,4,5,6,0,7] Qa))).reorder [1,0,2] Qa⟩
   refine Qr (Qp (Qd (Qg (Qb (Qe Qa Qa (Qc Qa Qa (Qh (Qd (Qo (Q5 (.inr Qa) Qa Qa ?_))))))))))
   exact⟨_,rfl, by rw[ZR (by omega) (by first | omega | simp_all) (by first | omega | simp_all)]; exact(Qv (E:=E) ((hS4.pick [2,3,4,5,6,0,7] Qa))).reorder [1,0,2] Qa⟩
  refine Qf Qa Qa (Qw h88) Qa (Qf Qa Qa (Qw h88) Qa (Qf Qa Qa (Qw h88) Qa (Qf Qa Qa (Qw h88) Qa (Q1 Qa (Qw h88) Qa Qa (Qc Qa Qa (Qh (Qd (Qk [0,4,6,69] Qa (QI Qa (Qr (Qp (Qd (Qg (Qb (Qe Qa Qa (Qc Qa Qa (Qh (Qd (Qo (Q5 (.inr Qa) Qa Qa ?_))))))))))))))))))))
  exact⟨_,rfl, by rw[ZR (by omega) (by first | omega | simp_all) (by first | omega | simp_all)]; exact(Qv (E:=E) ((hS4.pick [2,3,4,5,6,0,7] Qa))).reorder [1,0,2] Qa⟩
 refine Qf Qa Qa (Qw h87) Qa (Q1 Qa (Qw h87) Qa Qa (Qe Qa Qa (Qf Qa Qa Qa Qa (Qf Qa Qa Qa Qa (Qf Qa Qa Qa Qa (Qf Qa Qa Qa Qa (Q1 Qa Qa Qa Qa (Qc Qa Qa (Qh (Qd (Qk [0,4,6,69] Qa (QI Qa (Qr (Qp (Qd (Qg (Qb (Qe Qa Qa (Qc Qa Qa (Qh (Qd (Qo (Q5 (.inr Qa) Qa Qa ?_)))))))))))))))))))))))
 exact⟨_,rfl, by rw[ZR (by omega) (by first | omega | simp_all) (by first | omega | simp_all)]; exact(Qv (E:=E) ((hS4.pick [2,3,4,5,6,0,7] Qa))).reorder [1,0,2] Qa⟩
