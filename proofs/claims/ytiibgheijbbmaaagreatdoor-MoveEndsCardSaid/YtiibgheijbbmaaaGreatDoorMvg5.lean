/- the law: a step that changes the session -/
import Derived.Test.YtiibgheijbbmaaaGreatDoorMvf2
import Derived.Test.YtiibgheijbbmaaaGreatDoorMvb4
set_option linter.unusedVariables false
set_option maxRecDepth 100000
set_option maxHeartbeats 4000000
namespace Go.Proofs.YtiibgheijbbmaaaGreatDoor
open Go.RowKit M Proofs.Tryz
section
variable {X:TwD} {o:OpD} {i:Bool}
theorem UM (h:o.dO%32=17∨o.dO%32=18):chgT X i o=YX X i (Xx (Q6 X i) o.id (List.replicate 64 o.b)):= by unfold chgT; rw[if_neg (by omega),if_neg (by omega)]
theorem D9 (h:o.dO%32=19):chgT X i o=YX X i (XN (Q6 X i) o.id):= by unfold chgT; rw[if_pos h]
theorem D8 (h:o.dO%32=20):chgT X i o=YX X i (XM (Q6 X i) o.s):= by unfold chgT; rw[if_neg (by omega),if_pos h]
end
theorem chg_f {w:World} [tq:Inhabited TwQ] {x:Nat} {X:TwD} {F:Th} (hS:Sat w [Ka x X,F]) (hW:XW X) {o:OpD} {kv:Value} (hk17:17≤o.dO%32∧o.dO%32≤20) (hn:o.n%2=0):
    Calls prog 11 #[ptrV x 0,.agg #[intV o.dO,intV o.n,intV o.id,.int .u8 (o.b.toNat:Int),strV o.s,kv]] w (Ret fun v w'=>v=intV (chgT X false o).1∧Sat w' [Ka x (chgT X false o).2,F]):= by
 obtain⟨eb,ecap,a,b,p,hq0,hS⟩:=JU hS
 refine Qy func11 Qa ntmps11 Qa ?_
 refine Qg (Qb (XZ hS Qa Qa Qa ?_))
 intro bo w1 hS10
 have hS1:Sat w1 (QR bo [intV o.dO,intV o.n,intV o.id,.int .u8 (o.b.toNat:Int),strV o.s,kv]::_):=hS10
 refine Qc Qa Qa (Qh (Qe (Qg ?_)))
 have hS2:=hS1.drew
 refine QT [0,1,2,3,4,5,6,7,8,9] [] Jk (by kernel_rfl) ?_
 refine QM Qa Qa Qa (Xw Qa Qa Qa (QQ Qa Qa Qa WI (QH Qa Qa Qa (Qn Qa Hr (hS2.cell 1 Qa Qa)) (QQ Qa Qa Qa Na (QH Qa Qa Qa (Qn Qa QK (hS2.cell 0 Qa Qa)) (QG Qa Qa Qa (fun _=>(LJ 1 Qa Qa Qa Qa (q:=2) Qa)) ?_))))))
 refine QG Qa Qa Qa (fun _=>(Zc 0 Qa Qa (by omega) (by omega) Hn)) ?_
 refine QH Qa Qa Qa (ZS Rz 2 0 0 hS2 Qa (by rfl) Yv Qa Qa) ?_
 refine Jr Qa Qa Qa (VC.nil (Qe (Qk [0,3,4,5] Qa (Qg (Qg (Qb (Qi Qa Rg Qa (Qp Qa QK (hS2.cell 0 Qa Qa) Qa (V6 5 Qa Qa Qa Qa (q:=32) Qa Qa (Qh (Qe (QD (Qg (Qb (QO Qa Qa Qa (Qc Qa Qa (Qh (Qe (Qw Qa (fun h3=> ?_) (fun h3=> ?_))))))))))))))))))))
 ·exfalso;omega
 refine Qg (Qb (QO Qa Qa Qa (Qc Qa Qa (Qh (Qe (Qk [0,3,4,5,19,39] Qa (Qw Qa (fun h4=> ?_) (fun h4=> ?_))))))))
 ·exfalso;omega
 refine Qg (Qg (Qb (QO Qa Qa Qa (Qc Qa Qa (Qh (Qe (Qw Qa (fun h5=> ?_) (fun h5=> ?_))))))))
 ·exfalso;omega
 refine Qg (Qb (QO Qa Qa Qa (Qc Qa Qa (Qh (Qe (Qw Qa (fun h6=> ?_) (fun h6=> ?_)))))))
 ·exfalso;omega
 refine Qg (Qb (QO Qa Qa Qa (Qc Qa Qa (Qh (Qe (Qw Qa (fun h7=> ?_) (fun h7=> ?_)))))))
 ·exfalso;omega
 refine Qb (QO Qa Qa Qa (Qc Qa Qa (Qh (Qe (Qk [0,3,4,5,19,54] Qa (Qw Qa (fun h8=> ?_) (fun h8=> ?_)))))))
 ·exfalso;omega
 refine Qg (Qb (QO Qa Qa Qa (Qc Qa Qa (Qh (Qe (Qw Qa (fun h9=> ?_) (fun h9=> ?_)))))))
 ·exfalso;omega
 refine Qg (Qb (QO Qa Qa Qa (Qc Qa Qa (Qh (Qe (Qw Qa (fun h10=> ?_) (fun h10=> ?_)))))))
 ·exfalso;omega
 refine Qg (Qb (QO Qa Qa Qa (Qc Qa Qa (Qh (Qe (Qk [0,3,4,5,19,74] Qa (Qw Qa (fun h11=> ?_) (fun h11=> ?_))))))))
 ·exfalso;omega
 refine Qg (Qg (Qb (QO Qa Qa Qa (Qc Qa Qa (Qh (Qe (Qw Qa (fun h12=> ?_) (fun h12=> ?_))))))))
 ·refine Qr (Qe (Tv Qa (Q8 h12) (Qg ?_)))
  have hS13:=hS2.drew
  refine QT [0,1,2,3,4,5,6,7] [5,6] Jk (by kernel_rfl) ?_
  refine QM Qa Qa Qa (QQ Qa Qa Qa YF (QH Qa Qa Qa (Qn Qa QK (hS13.cell 0 Qa Qa)) (QQ Qa Qa Qa Rf (QH Qa Qa Qa (Qn Qa AP (hS13.cell 0 Qa Qa)) (Xb Qa Qa Qa Qa Qa Qa ?_)))))
  refine Q4 KD Qa (HH (hS13.sp [] Qa) o.b) Qa ?_
  rintro _ w14 ⟨rfl,hS14⟩
  replace hS14:=hS14.jn Qa Qa
  refine Xn (.skip (by kernel_rfl) (.cons (.inl ⟨rfl,(Qn Qa QK (hS14.cell 0 Qa Qa))⟩) .nil)) ?_
  refine Xb Qa Qa Qa Qa Qa Qa ?_
  refine Q4 Nu Qa (VA (hS14.sp [3] Qa) o.id (List.replicate 64 o.b) (fun x hx=>(hW.a.ses x hx).srt) (fun x hx=>(hW.a.ses x hx).cnt)) Qa ?_
  rintro _ w15 ⟨rfl,hS15⟩
  replace hS15:=hS15.jn Qa Qa
  refine Xn (XC (by kernel_rfl)) ?_
  refine Jr Qa Qa Qa (VC.nil (Qe (Qk [4] Qa (Qo (Q0 (Qm (Q7 (.inr Qa) Qa Qa ?_)))))))
  exact⟨_,rfl, by rw[UM (by omega)]<;>rfl, by rw[UM (by omega)]; exact Zm (X:={X with a:=(Xx X.a o.id (List.replicate 64 o.b)).2}) (hS15.pick [2,3,0,4,5,6] Qa) (by assumption)⟩
 refine Qb (QO Qa Qa Qa (Qc Qa Qa (Qh (Qe (Qw Qa (fun h16=> ?_) (fun h16=> ?_))))))
 ·refine Qg ?_
  have hS17:=hS2.drew
  refine QT [0,1,2,3,4,5,6,7] [5,6] Jk (by kernel_rfl) ?_
  refine QM Qa Qa Qa (QQ Qa Qa Qa YF (QH Qa Qa Qa (Qn Qa QK (hS17.cell 0 Qa Qa)) (QQ Qa Qa Qa Rf (QH Qa Qa Qa (Qn Qa AP (hS17.cell 0 Qa Qa)) (Xb Qa Qa Qa Qa Qa Qa ?_)))))
  refine Q4 KD Qa (HH (hS17.sp [] Qa) o.b) Qa ?_
  rintro _ w18 ⟨rfl,hS18⟩
  replace hS18:=hS18.jn Qa Qa
  refine Xn (.skip (by kernel_rfl) (.cons (.inl ⟨rfl,(Qn Qa QK (hS18.cell 0 Qa Qa))⟩) .nil)) ?_
  refine Xb Qa Qa Qa Qa Qa Qa ?_
  refine Q4 Nu Qa (VA (hS18.sp [3] Qa) o.id (List.replicate 64 o.b) (fun x hx=>(hW.a.ses x hx).srt) (fun x hx=>(hW.a.ses x hx).cnt)) Qa ?_
  rintro _ w19 ⟨rfl,hS19⟩
  replace hS19:=hS19.jn Qa Qa
  refine Xn (XC (by kernel_rfl)) ?_
  refine Jr Qa Qa Qa (VC.nil (Qe (Qk [4] Qa (Qo (Q0 (Qm (Q7 (.inr Qa) Qa Qa ?_)))))))
  exact⟨_,rfl, by rw[UM (by omega)]<;>rfl, by rw[UM (by omega)]; exact Zm (X:={X with a:=(Xx X.a o.id (List.replicate 64 o.b)).2}) (hS19.pick [2,3,0,4,5,6] Qa) (by assumption)⟩
 refine Qg (Qb (QO Qa Qa Qa (Qc Qa Qa (Qh (Qe (Qk [0,3,4,5,19,88] Qa (Qw Qa (fun h20=> ?_) (fun h20=> ?_))))))))
 ·refine Qg (Qb (Qd Qa Qa (Qi Qa YF Qa (Qp Qa QK (hS2.cell 0 Qa Qa) Qa (Q4 qad Qa (BW (hS2.sp [3] Qa) o.id) Qa ?_)))))
  rintro _ w21 ⟨rfl,hS21⟩
  replace hS21:=hS21.jn Qa Qa
  refine Qc Qa Qa (Qh (Qe (Qo (Q0 (Qm (Q7 (.inr Qa) Qa Qa ?_))))))
  exact⟨_,rfl, by rw[D9 (by omega)]<;>rfl, by rw[D9 (by omega)]; exact Zm (X:={X with a:=(XN X.a o.id).2}) (hS21.pick [2,3,0,4,5,6] Qa) (by assumption)⟩
 refine Qg (Qb (QO Qa Qa Qa (Qc Qa Qa (Qh (Qe (Qw Qa (fun h22=> ?_) (fun h22=> ?_)))))))
 ·refine Qg (Qb (Qd Qa Qa (Qi Qa Dv Qa (Qp Qa Zw (hS2.cell 0 Qa Qa) Qa (Q4 qac Qa (BJ (hS2.sp [3] Qa) o.s) Qa ?_)))))
  rintro _ w23 ⟨rfl,hS23⟩
  replace hS23:=hS23.jn Qa Qa
  refine Qc Qa Qa (Qh (Qe (Qk [4] Qa (Qo (Q0 (Qm (Q7 (.inr Qa) Qa Qa ?_)))))))
  exact⟨_,rfl, by rw[D8 (by omega)]<;>rfl, by rw[D8 (by omega)]; exact Zm (X:={X with a:=(XM X.a o.s).2}) (hS23.pick [2,3,0,4,5,6] Qa) (by assumption)⟩
 exfalso;omega
theorem chg_t {w:World} [tq:Inhabited TwQ] {x:Nat} {X:TwD} {F:Th} (hS:Sat w [Ka x X,F]) (hW:XW X) {o:OpD} {kv:Value} (hk17:17≤o.dO%32∧o.dO%32≤20) (hn:o.n%2=1):
    Calls prog 11 #[ptrV x 0,.agg #[intV o.dO,intV o.n,intV o.id,.int .u8 (o.b.toNat:Int),strV o.s,kv]] w (Ret fun v w'=>v=intV (chgT X true o).1∧Sat w' [Ka x (chgT X true o).2,F]):= by
 obtain⟨eb,ecap,a,b,p,hq0,hS⟩:=JU hS
 refine Qy func11 Qa ntmps11 Qa ?_
 refine Qg (Qb (XZ hS Qa Qa Qa ?_))
 intro bo w1 hS10
 have hS1:Sat w1 (QR bo [intV o.dO,intV o.n,intV o.id,.int .u8 (o.b.toNat:Int),strV o.s,kv]::_):=hS10
 refine Qc Qa Qa (Qh (Qe (Qg ?_)))
 have hS2:=hS1.drew
 refine QT [0,1,2,3,4,5,6,7,8,9] [] Jk (by kernel_rfl) ?_
 refine QM Qa Qa Qa (Xw Qa Qa Qa (QQ Qa Qa Qa WI (QH Qa Qa Qa (Qn Qa Hr (hS2.cell 1 Qa Qa)) (QQ Qa Qa Qa Na (QH Qa Qa Qa (Qn Qa QK (hS2.cell 0 Qa Qa)) (QG Qa Qa Qa (fun _=>(LJ 1 Qa Qa Qa Qa (q:=2) Qa)) ?_))))))
 refine QG Qa Qa Qa (fun _=>(Zc 1 Qa Qa (by omega) (by omega) Hn)) ?_
 refine QH Qa Qa Qa (ZS Rz 2 1 0 hS2 Qa (by rfl) Yv Qa Qa) ?_
 refine Jr Qa Qa Qa (VC.nil (Qe (Qk [0,3,4,5] Qa (Qg (Qg (Qb (Qi Qa Rg Qa (Qp Qa QK (hS2.cell 0 Qa Qa) Qa (V6 5 Qa Qa Qa Qa (q:=32) Qa Qa (Qh (Qe (QD (Qg (Qb (QO Qa Qa Qa (Qc Qa Qa (Qh (Qe (Qw Qa (fun h3=> ?_) (fun h3=> ?_))))))))))))))))))))
 ·exfalso;omega
 refine Qg (Qb (QO Qa Qa Qa (Qc Qa Qa (Qh (Qe (Qk [0,3,4,5,19,39] Qa (Qw Qa (fun h4=> ?_) (fun h4=> ?_))))))))
 ·exfalso;omega
 refine Qg (Qg (Qb (QO Qa Qa Qa (Qc Qa Qa (Qh (Qe (Qw Qa (fun h5=> ?_) (fun h5=> ?_))))))))
 ·exfalso;omega
 refine Qg (Qb (QO Qa Qa Qa (Qc Qa Qa (Qh (Qe (Qw Qa (fun h6=> ?_) (fun h6=> ?_)))))))
 ·exfalso;omega
 refine Qg (Qb (QO Qa Qa Qa (Qc Qa Qa (Qh (Qe (Qw Qa (fun h7=> ?_) (fun h7=> ?_)))))))
 ·exfalso;omega
 refine Qb (QO Qa Qa Qa (Qc Qa Qa (Qh (Qe (Qk [0,3,4,5,19,54] Qa (Qw Qa (fun h8=> ?_) (fun h8=> ?_)))))))
 ·exfalso;omega
 refine Qg (Qb (QO Qa Qa Qa (Qc Qa Qa (Qh (Qe (Qw Qa (fun h9=> ?_) (fun h9=> ?_)))))))
 ·exfalso;omega
 refine Qg (Qb (QO Qa Qa Qa (Qc Qa Qa (Qh (Qe (Qw Qa (fun h10=> ?_) (fun h10=> ?_)))))))
 ·exfalso;omega
 refine Qg (Qb (QO Qa Qa Qa (Qc Qa Qa (Qh (Qe (Qk [0,3,4,5,19,74] Qa (Qw Qa (fun h11=> ?_) (fun h11=> ?_))))))))
 ·exfalso;omega
 refine Qg (Qg (Qb (QO Qa Qa Qa (Qc Qa Qa (Qh (Qe (Qw Qa (fun h12=> ?_) (fun h12=> ?_))))))))
 ·refine Qr (Qe (Tv Qa (Q8 h12) (Qg ?_)))
  have hS13:=hS2.drew
  refine QT [0,1,2,3,4,5,6,7] [5,6] Jk (by kernel_rfl) ?_
  refine QM Qa Qa Qa (QQ Qa Qa Qa YF (QH Qa Qa Qa (Qn Qa QK (hS13.cell 0 Qa Qa)) (QQ Qa Qa Qa Rf (QH Qa Qa Qa (Qn Qa AP (hS13.cell 0 Qa Qa)) (Xb Qa Qa Qa Qa Qa Qa ?_)))))
  refine Q4 KD Qa (HH (hS13.sp [] Qa) o.b) Qa ?_
  rintro _ w14 ⟨rfl,hS14⟩
  replace hS14:=hS14.jn Qa Qa
  refine Xn (.skip (by kernel_rfl) (.cons (.inl ⟨rfl,(Qn Qa QK (hS14.cell 0 Qa Qa))⟩) .nil)) ?_
  refine Xb Qa Qa Qa Qa Qa Qa ?_
  refine Q4 Nu Qa (VA (hS14.sp [4] Qa) o.id (List.replicate 64 o.b) (fun x hx=>(hW.b.ses x hx).srt) (fun x hx=>(hW.b.ses x hx).cnt)) Qa ?_
  rintro _ w15 ⟨rfl,hS15⟩
  replace hS15:=hS15.jn Qa Qa
  refine Xn (XC (by kernel_rfl)) ?_
  refine Jr Qa Qa Qa (VC.nil (Qe (Qk [4] Qa (Qo (Q0 (Qm (Q7 (.inr Qa) Qa Qa ?_)))))))
  exact⟨_,rfl, by rw[UM (by omega)]<;>rfl, by rw[UM (by omega)]; exact Zm (X:={X with b:=(Xx X.b o.id (List.replicate 64 o.b)).2}) (hS15.pick [2,3,4,0,5,6] Qa) (by assumption)⟩
 refine Qb (QO Qa Qa Qa (Qc Qa Qa (Qh (Qe (Qw Qa (fun h16=> ?_) (fun h16=> ?_))))))
 ·refine Qg ?_
  have hS17:=hS2.drew
  refine QT [0,1,2,3,4,5,6,7] [5,6] Jk (by kernel_rfl) ?_
  refine QM Qa Qa Qa (QQ Qa Qa Qa YF (QH Qa Qa Qa (Qn Qa QK (hS17.cell 0 Qa Qa)) (QQ Qa Qa Qa Rf (QH Qa Qa Qa (Qn Qa AP (hS17.cell 0 Qa Qa)) (Xb Qa Qa Qa Qa Qa Qa ?_)))))
  refine Q4 KD Qa (HH (hS17.sp [] Qa) o.b) Qa ?_
  rintro _ w18 ⟨rfl,hS18⟩
  replace hS18:=hS18.jn Qa Qa
  refine Xn (.skip (by kernel_rfl) (.cons (.inl ⟨rfl,(Qn Qa QK (hS18.cell 0 Qa Qa))⟩) .nil)) ?_
  refine Xb Qa Qa Qa Qa Qa Qa ?_
  refine Q4 Nu Qa (VA (hS18.sp [4] Qa) o.id (List.replicate 64 o.b) (fun x hx=>(hW.b.ses x hx).srt) (fun x hx=>(hW.b.ses x hx).cnt)) Qa ?_
  rintro _ w19 ⟨rfl,hS19⟩
  replace hS19:=hS19.jn Qa Qa
  refine Xn (XC (by kernel_rfl)) ?_
  refine Jr Qa Qa Qa (VC.nil (Qe (Qk [4] Qa (Qo (Q0 (Qm (Q7 (.inr Qa) Qa Qa ?_)))))))
  exact⟨_,rfl, by rw[UM (by omega)]<;>rfl, by rw[UM (by omega)]; exact Zm (X:={X with b:=(Xx X.b o.id (List.replicate 64 o.b)).2}) (hS19.pick [2,3,4,0,5,6] Qa) (by assumption)⟩
 refine Qg (Qb (QO Qa Qa Qa (Qc Qa Qa (Qh (Qe (Qk [0,3,4,5,19,88] Qa (Qw Qa (fun h20=> ?_) (fun h20=> ?_))))))))
 ·refine Qg (Qb (Qd Qa Qa (Qi Qa YF Qa (Qp Qa QK (hS2.cell 0 Qa Qa) Qa (Q4 qad Qa (BW (hS2.sp [4] Qa) o.id) Qa ?_)))))
  rintro _ w21 ⟨rfl,hS21⟩
  replace hS21:=hS21.jn Qa Qa
  refine Qc Qa Qa (Qh (Qe (Qo (Q0 (Qm (Q7 (.inr Qa) Qa Qa ?_))))))
  exact⟨_,rfl, by rw[D9 (by omega)]<;>rfl, by rw[D9 (by omega)]; exact Zm (X:={X with b:=(XN X.b o.id).2}) (hS21.pick [2,3,4,0,5,6] Qa) (by assumption)⟩
 refine Qg (Qb (QO Qa Qa Qa (Qc Qa Qa (Qh (Qe (Qw Qa (fun h22=> ?_) (fun h22=> ?_)))))))
 ·refine Qg (Qb (Qd Qa Qa (Qi Qa Dv Qa (Qp Qa Zw (hS2.cell 0 Qa Qa) Qa (Q4 qac Qa (BJ (hS2.sp [4] Qa) o.s) Qa ?_)))))
  rintro _ w23 ⟨rfl,hS23⟩
  replace hS23:=hS23.jn Qa Qa
  refine Qc Qa Qa (Qh (Qe (Qk [4] Qa (Qo (Q0 (Qm (Q7 (.inr Qa) Qa Qa ?_)))))))
  exact⟨_,rfl, by rw[D8 (by omega)]<;>rfl, by rw[D8 (by omega)]; exact Zm (X:={X with b:=(XM X.b o.s).2}) (hS23.pick [2,3,4,0,5,6] Qa) (by assumption)⟩
 exfalso;omega
theorem Px {w:World} [tq:Inhabited TwQ] {x:Nat} {X:TwD} {F:Th} (hS:Sat w [Ka x X,F]) (hW:XW X) {o:OpD} {kv:Value} (hk17:17≤o.dO%32∧o.dO%32≤20) {i:Bool} (hn:o.n= if i=true then 1 else 0):
    Calls prog 11 #[ptrV x 0,.agg #[intV o.dO,intV o.n,intV o.id,.int .u8 (o.b.toNat:Int),strV o.s,kv]] w (Ret fun v w'=>v=intV (chgT X i o).1∧Sat w' [Ka x (chgT X i o).2,F]):= by
  cases i with
  | false=> exact chg_f hS hW hk17 (by rw[hn];rfl)
  | true=> exact chg_t hS hW hk17 (by rw[hn];rfl)
