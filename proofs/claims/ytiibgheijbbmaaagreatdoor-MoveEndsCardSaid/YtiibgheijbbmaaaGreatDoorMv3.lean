/- move: read, stop -/
import Derived.Test.YtiibgheijbbmaaaGreatDoorMv1
set_option linter.unusedVariables false
set_option maxRecDepth 100000
namespace Go.Proofs.YtiibgheijbbmaaaGreatDoor
open Go.RowKit M Proofs.Tryz
theorem Do {s:Bs} (h:Xi (Zl 59 (-9223372036854775808:Int) (s,false))++Xi (Zl 59 (-9223372036854775808:Int) (Zh 59 (-9223372036854775808:Int) (s,false)))≠s∨Zl 59 (-9223372036854775808:Int) (s,false)<0∨4≤Zl 59 (-9223372036854775808:Int) (s,false)∨Zl 59 (-9223372036854775808:Int) (Zh 59 (-9223372036854775808:Int) (s,false))<0):Ur s=(0,0):= by unfold Ur; rw[if_pos h]
theorem O8 {s:Bs} (h1:Xi (Zl 59 (-9223372036854775808:Int) (s,false))++Xi (Zl 59 (-9223372036854775808:Int) (Zh 59 (-9223372036854775808:Int) (s,false)))=s) (h2: ¬Zl 59 (-9223372036854775808:Int) (s,false)<0) (h3: ¬4≤Zl 59 (-9223372036854775808:Int) (s,false)) (h4: ¬Zl 59 (-9223372036854775808:Int) (Zh 59 (-9223372036854775808:Int) (s,false))<0):Ur s=(Zl 59 (-9223372036854775808:Int) (s,false),Zl 59 (-9223372036854775808:Int) (Zh 59 (-9223372036854775808:Int) (s,false))):= by
  unfold Ur; rw[if_neg]; rintro(q | q | q | q)
  · exact q h1
  · exact h2 q
  · exact h3 q
  · exact h4 q
theorem OX {w:World} {c dp:Nat} {C:CS} {F:Th} (hS:Sat w [QR c (Hv dp C),F]) (hG:Ent F WireG) (hv:C.val.length≤20000000):
    Calls prog 53 #[ptrV c 0] w (Ret fun v w'=>v= .tuple #[intV (Ur C.val).1,intV (Ur C.val).2]∧Sat w' [QR c (Hv dp C),F]):= by
 refine Qy func53 Qa ntmps53 Qa ?_
 have hi0:=(WQ (Yl 59 (-9223372036854775808:Int) (C.val,false))).1
 have hi1:=(WQ (Yl 59 (-9223372036854775808:Int) (Zh 59 (-9223372036854775808:Int) (C.val,false)))).1
 refine Qg (Qb (Qc Qa Qa (Qc Qa Qa (Qh (Qe (Qg (Qb (Qd Qa Qa (Q4 cal_89 Qa (get_sp (hS.sp [0] Qa)) Qa ?_)))))))))
 rintro _ w1 ⟨rfl,hS1⟩
 replace hS1:=hS1.jn Qa Qa
 refine Qd Qa Qa (Q9 Qa Qa Qa (Q9 Qa Qa Qa (Qc Qa Qa (Qc Qa Qa (Qh (Qe (Qg (Qb (Qd Qa Qa (Q4 FL Qa (DM (hS1.sp [] Qa) C.val) Qa ?_))))))))))
 rintro _ w2 ⟨rb,rfl,hS2⟩
 replace hS2:=hS2.jn Qa Qa
 refine Qc Qa Qa (Qh (Qe (Qk [2,3,4,6] Qa (Qg (Qb (Qd Qa Qa ?_))))))
 refine Q4 KB Qa (UE (hS2.sp [0] Qa) (hG.starL 1 Qa) (by(show C.val.length≤_;omega))) Qa ?_
 rintro _ w3 ⟨rfl,hS3⟩
 replace hS3:=hS3.jn Qa Qa
 refine Qd Qa Qa ?_
 refine Q4 KB Qa (UE (hS3.sp [0] Qa) (hG.starL 1 Qa) (by(have :=XO 59 (-9223372036854775808:Int) (C.val,false); have :(C.val,false).1.length=C.val.length:=rfl;omega))) Qa ?_
 rintro _ w4 ⟨rfl,hS4⟩
 replace hS4:=hS4.jn Qa Qa
 refine Qc Qa Qa (Qc Qa Qa (Qh (Qe (Qg (Qg (Qb (Qd Qa Qa (Q4 U1 Qa (YZ (hS4.sp [] Qa) (hG.starL 2 Qa) _ (Yl _ _ _)) Qa ?_))))))))
 rintro _ w5 ⟨rfl,hS5⟩
 replace hS5:=hS5.jn Qa Qa
 refine Qd Qa Qa (Q4 U1 Qa (YZ (hS5.sp [] Qa) (hG.starL 2 Qa) _ (Yl _ _ _)) Qa ?_)
 rintro _ w6 ⟨rfl,hS6⟩
 replace hS6:=hS6.jn Qa Qa
 refine Vf Qa Qa (by(simp;omega)) Qa ?_
 refine Qd Qa Qa (KG Qa Qa Qa (Qd Qa Qa (Q3 27 Qa (fun h7=> ?_) (fun h7=> ?_))))
 ·have hne:=h7
  refine Qf Qa Qa (Q8 h7) Qa (Qf Qa Qa (Q8 h7) Qa (Qx Qa (Q8 h7) Qa Qa (Qd Qa Qa (Qf Qa Qa Qa Qa (Qf Qa Qa Qa Qa (Qx Qa Qa Qa Qa (Qd Qa Qa (Qf Qa Qa Qa Qa (Qf Qa Qa Qa Qa (Qx Qa Qa Qa Qa (Qh (Qe (Qk [2,3,7,8,38] Qa (QL Qa (Qg (Qb (Qc Qa Qa (Qc Qa Qa (Qh (Qe (Qo (Qm (ZI (.inr Qa) Qa Qa Qa ?_)))))))))))))))))))))))
  exact⟨_,rfl, by rw[Do (by first | exact .inl hne | (refine .inr ?_;omega))],hS6.pick [1,2] Qa⟩
 have heq:=Decidable.not_not.1 h7
 refine Qj Qa Qa (Qv h7) (Qd Qa Qa (Qj Qa Qa (Qv h7) (Xz Qa Qa Qa (Qz Qa (Qv h7) Qa Qa (Qd Qa Qa (Q3 31 Qa (fun h8=> ?_) (fun h8=> ?_)))))))
 ·refine Qf Qa Qa (Q8 h8) Qa (Qf Qa Qa (Q8 h8) Qa (Qx Qa (Q8 h8) Qa Qa (Qd Qa Qa (Qf Qa Qa Qa Qa (Qf Qa Qa Qa Qa (Qx Qa Qa Qa Qa (Qh (Qe (Qk [2,3,7,8,38] Qa (QL Qa (Qg (Qb (Qc Qa Qa (Qc Qa Qa (Qh (Qe (Qo (Qm (ZI (.inr Qa) Qa Qa Qa ?_)))))))))))))))))))
  exact⟨_,rfl, by rw[Do (by first | exact .inl hne | (refine .inr ?_;omega))],hS6.pick [1,2] Qa⟩
 refine Qj Qa Qa (Qv h8) (Qd Qa Qa (Qj Qa Qa (Qv h8) (Jj Qa Qa Qa (Qz Qa (Qv h8) Qa Qa (Qd Qa Qa (Q3 35 Qa (fun h9=> ?_) (fun h9=> ?_)))))))
 ·refine Qf Qa Qa (Q8 h9) Qa (Qf Qa Qa (Q8 h9) Qa (Qx Qa (Q8 h9) Qa Qa (Qh (Qe (Qk [2,3,7,8,38] Qa (QL Qa (Qg (Qb (Qc Qa Qa (Qc Qa Qa (Qh (Qe (Qo (Qm (ZI (.inr Qa) Qa Qa Qa ?_)))))))))))))))
  exact⟨_,rfl, by rw[Do (by first | exact .inl hne | (refine .inr ?_;omega))],hS6.pick [1,2] Qa⟩
 refine Qj Qa Qa (Qv h9) (Qd Qa Qa (Qj Qa Qa (Qv h9) (Xz Qa Qa Qa (Qz Qa (Qv h9) Qa Qa (Qh (Qe (Qk [2,3,7,8,38] Qa (Qw Qa (fun h10=> ?_) (fun h10=> ?_)))))))))
 ·refine Qg (Qb (Qc Qa Qa (Qc Qa Qa (Qh (Qe (Qo (Qm (ZI (.inr Qa) Qa Qa Qa ?_))))))))
  exact⟨_,rfl, by rw[Do (by first | exact .inl hne | (refine .inr ?_;omega))],hS6.pick [1,2] Qa⟩
 exact Qr (Qe (Qg (Qb (Qd Qa Qa (Qd Qa Qa (Qc Qa Qa (Qc Qa Qa (Qh (Qe (Qo (ZI (.inr Qa) Qa Qa Qa (⟨_,rfl, by rw[O8 heq (by omega) (by omega) (by omega)],hS6.pick [1,2] Qa⟩))))))))))))
theorem stop_sp {w:World} {e:Nat} {E:EnD} {F:Th} (hS:Sat w [Xs e E,F]):
    Calls prog 84 #[ptrV e 0] w (Ret fun v w'=>v= .tuple #[]∧Sat w' [Xs e (BH E),F]):= by
 obtain⟨dp,cv,sv,ov,hS⟩:=QW hS
 refine Qy func84 Qa ntmps84 Qa ?_
 refine Qb (Qd Qa Qa (Qd Qa Qa (Ql Qa Qa (Qi Qa CZ Qa (Qp Qa GK (hS.cell 0 Qa Qa) Qa (Zu Qa Ll qar zr_81 Qa Qa (Ql Qa Qa ?_)))))))
 first | (refine QX hS Qa Qa sz_81 Qa (by rfl) (i:=0) Qa (Xe Qa) ?_)
 intro w1 hS2; dsimp only[List.set]at hS2
 exact Qh (H5 (.inl Qa) Qa (⟨_,Qa,Qa,Qu (E:=BH E) (dp:=dp) (cv:= .pointer none) (sv:= .pointer none) (ov:= .pointer none) ((Cd (dp:=dp) (ZQ (Wh (hS2.pick [0,1,5] Qa)))).reorder [3,4,0,1,2,5] Qa)⟩))
section
variable {E:EnD} {C:CS} {k m:Int}
theorem Bh (hC:E.cell=some C) (h:(ZB E.D C (Xi k++Xi m)).e≠0):QS E k m=((ZB E.D C (Xi k++Xi m)).e,BH {E with D:=(ZB E.D C (Xi k++Xi m)).D,cell:=some (ZB E.D C (Xi k++Xi m)).C}):= by unfold QS; rw[hC]; dsimp only; rw[if_pos h];rfl
theorem Ku (hC:E.cell=some C) (h:(ZB E.D C (Xi k++Xi m)).e=0):QS E k m=(0,{E with D:=(ZB E.D C (Xi k++Xi m)).D,cell:=some (ZB E.D C (Xi k++Xi m)).C,kind:=k,move:=m}):= by unfold QS; rw[hC]; dsimp only; rw[if_neg (by omega)]
end
theorem UG {w:World} {e:Nat} {E:EnD} {F:Th} (hS:Sat w [Xs e E,F]) (hG:Ent F WireG) (hO:Ent F (Glob 0)) (hu:E.cell≠none) {k m:Int} (hk:Xy k) (hm:Xy m):
    Calls prog 59 #[ptrV e 0,intV k,intV m] w (Ret fun v w'=>v=intV (QS E k m).1∧Sat w' [Xs e (QS E k m).2,F]):= by
 obtain⟨dp,cv,sv,ov,hS⟩:=QW hS
 obtain⟨C,hC⟩:=Option.ne_none_iff_exists'.1 hu
 rw[hC]at hS
 obtain⟨cp,rfl,hsl,hS⟩:=MN (hS.reorder [2,0,1,3,4,5] rfl)
 refine Qy func59 Qa ntmps59 Qa ?_
 have hi0:=(WQ hk).1
 have hi1:=(WQ hm).1
 refine Qg (Qb (Qc Qa Qa (Qh (Qe (Qg (Qg ?_))))))
 have hS1:=hS.drew
 refine QT [0,1,2,3,4,6,5,7,8,9,10] [5,7,9] Jk (by kernel_rfl) ?_
 refine QM Qa Qa Qa (Xw Qa Qa Qa (QQ Qa Qa Qa CY (QH Qa Qa Qa (Qn Qa El (hS1.cell 1 Qa Qa)) (QM Qa Qa Qa (QM Qa Qa Qa (Xb Qa Qa Qa Qa Qa Qa ?_))))))
 refine Q4 U1 Qa (YZ (hS1.sp [] Qa) (hG.starL 5 Qa) k hk) Qa ?_
 rintro _ w2 ⟨rfl,hS2⟩
 replace hS2:=hS2.jn Qa Qa
 refine Xn (.cons (.inl ⟨Qa,(Qn Qa El (hS2.cell 1 Qa Qa))⟩) .nil) (Xb Qa Qa Qa Qa Qa Qa ?_)
 refine Q4 U1 Qa (YZ (hS2.sp [] Qa) (hG.starL 5 Qa) m hm) Qa ?_
 rintro _ w3 ⟨rfl,hS3⟩
 replace hS3:=hS3.jn Qa Qa
 refine Xn (.cons (.inl ⟨Qa,(Qn Qa El (hS3.cell 1 Qa Qa))⟩) .nil) ?_
 refine QG Qa Qa Qa (fun _=>(YV Qa Qa (by(simp;omega)))) ?_
 refine Xb Qa Qa Qa Qa Qa Qa ?_
 refine Q4 cal_95 Qa (set_sp (hS3.sp [0,2] Qa) (hO.starL 3 Qa) hsl.1 (Xi k++Xi m)) Qa ?_
 rintro _ w4 ⟨rfl,hS4⟩
 replace hS4:=hS4.jn Qa Qa
 refine Xn (XC (by kernel_rfl)) ?_
 refine Jr Qa Qa Qa (VC.nil (Qe (Qk [2,1,0,6,7] Qa (Qg (Qb (Qd Qa Qa (Xt Qa Qa Qa (Qh (Qe (Qw Qa (fun h5=> ?_) (fun h5=> ?_)))))))))))
 ·have hbad:(ZB E.D C (Xi k++Xi m)).e≠0:=h5
  refine Qg ?_
  have hS6:=Qu (E:={E with D:=(ZB E.D C (Xi k++Xi m)).D,cell:=some (ZB E.D C (Xi k++Xi m)).C}) (dp:=dp) ((VP (C:=(ZB E.D C (Xi k++Xi m)).C) (NV hsl) (hS4.pick [0,2,1,3,4,5] Qa)).reorder [1,2,0,3,4,5] Qa)
  refine Qb (Qd Qa Qa (Q4 cal_84 Qa (stop_sp (hS6.sp [0] Qa)) Qa ?_))
  rintro _ w7 ⟨rfl,hS7⟩
  replace hS7:=hS7.jn Qa Qa
  refine Qh (Qe (Qg (Qb (Qd Qa Qa (Qc Qa Qa (Qh (Qe (Qo (Qm (Q7 (.inr Qa) Qa Qa ?_))))))))))
  exact⟨_,rfl, by rw[Bh hC hbad], by rw[Bh hC hbad]; exact hS7.pick [0,1] Qa⟩
 have hgood:(ZB E.D C (Xi k++Xi m)).e=0:=Decidable.not_not.1 h5
 refine Qr (Qe (Qg (Qb (Qd Qa Qa (Qd Qa Qa (Qd Qa Qa (Qd Qa Qa (Ql Qa Qa (Qi Qa Z0 Qa ?_)))))))))
 (refine QC hS4 Qa Qa YH (by rfl) (i:=2) Qa (Xe Qa) ?_)
 intro w8 hS9; dsimp only[List.set]at hS9
 refine Ql Qa Qa (Qi Qa WH Qa ?_)
 (refine QC hS9 Qa Qa YH (by rfl) (i:=2) Qa (Xe Qa) ?_)
 intro w10 hS11; dsimp only[List.set]at hS11
 refine Qh (Qe (Qk [6] Qa (Qg (Qb (Qc Qa Qa (Qh (Qe (Qo (Q7 (.inr Qa) Qa Qa ?_)))))))))
 exact⟨_,rfl, by rw[Ku hC hgood], by rw[Ku hC hgood]; exact Qu (E:={E with D:=(ZB E.D C (Xi k++Xi m)).D,cell:=some (ZB E.D C (Xi k++Xi m)).C,kind:=k,move:=m}) (dp:=dp) ((VP (C:=(ZB E.D C (Xi k++Xi m)).C) (NV hsl) (hS11.pick [0,2,1,3,4,5] Qa)).reorder [1,2,0,3,4,5] Qa)⟩
theorem opK_sp {w:World} {p:Nat} {kp:Value} {D:DS} {F:Th} (hS:Sat w [Z7 p kp D,F]) (hG:Ent F (Glob 0)) (f:Int):
    Calls prog 52 #[ptrV p 0,intV f] w (Ret fun v w'=>(WP D f=0∧ ∃c,v= .tuple #[ptrV c 0,intV 0]∧Sat w' [QR c (Hv p (Hf D f)),Z7 p kp D,F])∨(WP D f≠0∧v= .tuple #[.pointer none,intV (WP D f)]∧Sat w' [Z7 p kp D,F])):= by
 refine Qy func52 Qa ntmps52 Qa ?_
 refine Qg (Qb (Qc Qa Qa (Qc Qa Qa (Qh (Qe (Qg (Qb (Qd Qa Qa (Qd Qa Qa (Zu Qa Mg Ee AT Qa Qa (XZ hS Qa Qa Qa ?_)))))))))))
 intro b1 w1 hS1
 refine Qc Qa Qa (Qh (Qe (Qg (Qb (Qd Qa Qa (Qd Qa Qa (Q4 Bw Qa (Gf (hS1.sp [1] Qa) f 0 5) Qa ?_)))))))
 rintro _ w2 ⟨rfl,hS2⟩
 replace hS2:=hS2.jn Qa Qa
 refine Qd Qa Qa (Q9 Qa Qa Qa (Q9 Qa Qa Qa (Qc Qa Qa (Qc Qa Qa (Qh ?_)))))
 obtain⟨h,hH⟩: ∃h,h=WC D f 0 5:=⟨_,rfl⟩
 rw[←hH]
 have hh5:(h.length:Int)≤5:= by have :=B8 (D:=D) (f:=f) (a:=0) (n:=5); rw[←hH]at this;omega
 refine Qe (Qk [1,0,4,5,6,7,8] Qa (Qg (Qg (Qb (Qd Qa Qa (Xt Qa Qa Qa (Qh (Qe (Qw Qa (fun h3=> ?_) (fun h3=> ?_))))))))))
 ·have hE:Wk D f 0 5≠0:=h3
  exact Qg (Qb (Qd Qa Qa (Qc Qa Qa (Qc Qa Qa (Qh (Qe (Qo (Qm (ZI (.inr Qa) Qa Qa Qa (⟨_,rfl,.inr ⟨(Gj hE).1, by rw[(Gj hE).2],hS2.pick [0,2] Qa⟩⟩))))))))))
 have hE:Wk D f 0 5=0:=Decidable.not_not.1 h3
 refine Qr (Qe (Qg (Qg (Qb (Qd Qa Qa (KH Qa Qa Qa (Qd Qa Qa (Q3 26 Qa (fun h4=> ?_) (fun h4=> ?_)))))))))
 ·have hh0:h=[]:=h4
  refine Qf Qa Qa (Q8 h4) Qa (Qf Qa Qa (Q8 h4) Qa (Qf Qa Qa (Q8 h4) Qa (Qx Qa (Q8 h4) Qa Qa (Qh (Qe (Qk [1,0,4,5,6,7,8,30] Qa (QL Qa (Qg (Qb (Qd Qa Qa (Qc Qa Qa (Qc Qa Qa (Qh (Qe (Qo (Qm (ZI (.inr Qa) Qa Qa Qa ?_)))))))))))))))))
  subst hh0
  exact⟨_,rfl,.inl ⟨(Yk hE (by rw[←hH]; exact JB (.inl Qa))).1,_,rfl, by rw[(Yk hE (by rw[←hH]; exact JB (.inl Qa))).2]; exact hS2.pick [1,0,2] Qa⟩⟩
 obtain⟨b0,r,rfl⟩:=List.exists_cons_of_ne_nil h4
 refine Qj Qa Qa (Qv h4) (Qd Qa Qa (Qj Qa Qa (Qv h4) (Wx _ underlying9 Qa Qa (by rfl) (by rfl) rfl ?_)))
 refine Qj Qa Qa (Qv h4) (QO Qa Qa Qa (Qz Qa (Qv h4) Qa Qa (Qh (Qe (Qk [1,0,4,5,6,7,8,30] Qa (Qw Qa (fun h5=> ?_) (fun h5=> ?_)))))))
 ·have hb00:b0=0:=T0 (k:=0) (by omega) h5
  refine Qg (Qb (Qd Qa Qa (Qc Qa Qa (Qc Qa Qa (Qh (Qe (Qo (Qm (ZI (.inr Qa) Qa Qa Qa ?_)))))))))
  exact⟨_,rfl,.inl ⟨(Yk hE (by rw[←hH]; exact JB (.inr ⟨r, by rw[hb00]⟩))).1,_,rfl, by rw[(Yk hE (by rw[←hH]; exact JB (.inr ⟨r, by rw[hb00]⟩))).2]; exact hS2.pick [1,0,2] Qa⟩⟩
 have hb0:b0≠0:=Tz (k:=0) (by omega) h5
 refine Qr (Qe (Qg (Qg (Qb (Qd Qa Qa (Zs underlying9 Qa Qa (Xz Qa Qa Qa (Qd Qa Qa (Q3 35 Qa (fun h6=> ?_) (fun h6=> ?_))))))))))
 ·have hlen5:=h6
  refine Qf Qa Qa (Q8 h6) Qa (Qf Qa Qa (Q8 h6) Qa (Qf Qa Qa (Q8 h6) Qa (Qf Qa Qa (Q8 h6) Qa (Q5 Qa Qa Qa (Q5 Qa Qa Qa (Q5 Qa Qa Qa (Qf Qa Qa (Q8 h6) Qa (Qx Qa (Q8 h6) Qa Qa (Qh (Qe (Qk [1,0,4,5,6,7,8,44] Qa (QL Qa (Qg (Qb (Qc Qa Qa (Qc Qa Qa (Qh (Qe (Qo (Qm (ZI (.inr Qa) Qa Qa Qa ?_)))))))))))))))))))))
  exact⟨_,rfl,.inr ⟨(WB hE (by rw[←hH]; exact Uj hb0 (by simp at hlen5;omega))).1, by rw[(WB hE (by rw[←hH]; exact Uj hb0 (by simp at hlen5;omega))).2],hS2.pick [0,2] Qa⟩⟩
 have hlen5:r.length=4:= by simp at hh5; have :=h6; simp at this;omega
 obtain⟨b1_,b2,b3,b4,rfl⟩: ∃b1 b2 b3 b4,r=[b1,b2,b3,b4]:= by match r,hlen5 with | [b1,b2,b3,b4],_=> exact⟨_,_,_,_,rfl⟩
 refine Qj Qa Qa (Qv h6) (Qd Qa Qa (Qj Qa Qa (Qv h6) (Wx _ underlying9 Qa Qa (by rfl) (by rfl) rfl ?_)))
 refine Qj Qa Qa (Qv h6) (Xt Qa Qa Qa (Qj Qa Qa (Qv h6) (Qd Qa Qa (Q3 39 Qa (fun h7=> ?_) (fun h7=> ?_)))))
 ·have hn1:=Tz (k:=1) (by omega) h7
  refine Qj Qa Qa (Q8 h7) (Qd Qa Qa (Qj Qa Qa (Q8 h7) (Wx _ underlying9 Qa Qa (by rfl) (by rfl) rfl ?_)))
  refine Qj Qa Qa (Q8 h7) (Xt Qa Qa Qa (Qj Qa Qa (Qv h6) (Qx Qa (Q8 h7) Qa Qa (Qz Qa (Qv h6) Qa Qa (Qh (Qe (Qk [1,0,4,5,6,7,8,44] Qa (Qw Qa (fun h8=> ?_) (fun h8=> ?_)))))))))
  ·have hn2:=Tz (k:=2) (by omega) h8
   refine Qg (Qb (Qc Qa Qa (Qc Qa Qa (Qh (Qe (Qo (Qm (ZI (.inr Qa) Qa Qa Qa ?_))))))))
   exact⟨_,rfl,.inr ⟨(WB hE (by rw[←hH]; exact YD hb0 (by rintro⟨h12,_⟩; rcases h12 with rfl | rfl<;>simp_all))).1, by rw[(WB hE (by rw[←hH]; exact YD hb0 (by rintro⟨h12,_⟩; rcases h12 with rfl | rfl<;>simp_all))).2],hS2.pick [0,2] rfl⟩⟩
  have h12:b0=1∨b0=2:= .inr (T0 (k:=2) (by omega) (Decidable.not_not.1 h8))
  refine Qr (Qe (Qg (Qb (Qc Qa Qa (Qh (Qe (Qg (Qg (Qb (Qc Qa Qa (Qh (Qe (QD ?_)))))))))))))
  refine XD (fun K0 E0 W0=> ∃(i:Nat),K0=1*i∧E0=[(0,ptrV p 0),(1,intV f),(6,ptrV b1 0),(7,strV [b0,b1_,b2,b3,b4]),(9,intV (acc b1_ b2 b3 b4 i:Nat)),(10,intV (i:Int))]∧Sat W0 [QR b1 (Hv p (RG f)),Z7 p kp D,F]∧(i≤4)) (L0:=[(0,_),(1,_),(6,_),(7,_),(9,_),(10,_)]) (4) (Dc Qa Qa Qa Qa Qa Qa) ⟨4,rfl,rfl,hS2.reorder [1,0,2] Qa, by omega⟩ ?_
  rintro _ _ w9 ⟨i,rfl,rfl,hS9,hi⟩
  refine Qg (Qg (Qb (Qd Qa Qa (We Qa Qa Qa (Qh (Qe (Qw Qa (fun h10=> ?_) (fun h10=> ?_))))))))
  ·obtain⟨c,hc⟩: ∃c,[b0,b1_,b2,b3,b4][i]? =some c:=⟨_,WU (by simp;omega)⟩
   have hacc:=GN (by omega) hi hc
   have hal:=DE (b1:=b1_) (b2:=b2) (b3:=b3) (b4:=b4) (show 0<i by omega)
   have hcl:=BE c
   have hi1:((i -1:Nat):Int)=(i:Int) -1:= by omega
   refine Qr (Qe (Qg (QD (Qb (Qd Qa Qa (Cm 8 Qa Qa Qa Qa (q:=256) Qa (by omega) (by omega) Qa ?_))))))
   refine Qd Qa Qa (Qd Qa Qa (Wx _ underlying9 Qa Qa (by first | rfl | omega) (by first | assumption | rfl) Qa ?_))
   refine YP underlying5 underlying3 Qa Qa ?_
   refine La 8 (acc b1_ b2 b3 b4 i) Qa Qa (by rfl) (by constructor<;>omega) (by omega) Qa ?_
   refine Qc Qa Qa (Qh (Qq (Qe (Qk [10,7,6,1,0,9] Qa (Qb (Qd Qa Qa (JN Qa Qa (by omega) (by omega) Qa ?_)))))))
   refine Qc Qa Qa (Qh ?_)
   exact QY (L1:=[(0,_),(1,_),(6,_),(7,_),(9,intV ((acc b1_ b2 b3 b4 (i -1):Nat):Int)),(10,intV ((i -1:Nat):Int))]) (.cons Qa (.cons Qa (.cons Qa (.cons Qa (.cons (by rw[hacc];rfl) (.cons (by rw[hi1];rfl) .nil)))))) (k1:=1*(i -1)) (by omega) ⟨i -1,rfl,rfl,hS9, by omega⟩
  obtain rfl:i=0:= by omega
  refine Xu (Q1 (Q1 (QJ (Qe (Qg (Qg (Qb (Qd Qa Qa (We Qa Qa Qa (Qh (Qe (Qw Qa (fun h11=> ?_) (fun h11=> ?_)))))))))))))
  ·refine Qg (Qb (Qc Qa Qa (Qc Qa Qa (Qh (Qe (Qk [9,7,6,1,0,4,5] Qa (Qo (Qm (ZI (.inr Qa) Qa Qa Qa ?_)))))))))
   exact⟨_,rfl,.inr ⟨(WB hE (by rw[←hH]; exact YD hb0 (by rw[←Jp];omega))).1, by rw[(WB hE (by rw[←hH]; exact YD hb0 (by rw[←Jp];omega))).2],hS9.pick [1,2] Qa⟩⟩
  have hn:UY b1_ b2 b3 b4≤65536:= by rw[←Jp];omega
  have hSl:Ya (WC D f 0 5)= .slot b0.toNat (UY b1_ b2 b3 b4):= by rw[←hH]; exact M5 h12 hn
  rw[Jp]
  obtain⟨n,hN⟩: ∃n,n=UY b1_ b2 b3 b4:=⟨_,rfl⟩
  rw[←hN]at hSl hn⊢
  have h12n:b0.toNat=1∨b0.toNat=2:= by rcases h12 with rfl | rfl<;> simp
  refine Qr (Qe (Qg (Qb (Qd Qa Qa (Qd Qa Qa (Wx _ underlying9 Qa Qa (by first | rfl | omega) (by first | assumption | rfl) Qa ?_))))))
  refine YP underlying5 underlying3 Qa Qa (Ql Qa Qa (Qi Qa JD Qa ?_))
  first | (refine QC hS9 Qa Qa YH (by rfl) (i:=0) Qa (Xe Qa) ?_)
  intro w12 hS13; dsimp only[List.set]at hS13
  refine Qh (Qe (Qk [9,6,1,0] Qa (Qg (Qb (Qd Qa Qa (Qd Qa Qa (Qd Qa Qa (Qd Qa Qa (Ql Qa Qa (Qi Qa JD Qa (Qp Qa QK (hS13.cell 0 Qa Qa) Qa (H8 _ underlying132 Qa Qa (by rfl) (by omega) YH Qa ?_))))))))))))
  have hg:=(hG.sat hS13 2 Qa).off h12n
  refine Qp Qa QK (by assumption) Qa ?_
  refine Qd Qa Qa (Q4 Bw Qa (Gf (hS13.sp [1] Qa) f (QI b0.toNat) n) Qa ?_)
  rintro _ w14 ⟨rfl,hS14⟩
  replace hS14:=hS14.jn Qa Qa
  have hE2:Wk D f (QI b0.toNat) n=0:=Yi hE (Ja _) (by omega)
  rw[hE2]
  refine Qd Qa Qa (Q9 Qa Qa Qa (Q9 Qa Qa Qa (Ql Qa Qa (Qi Qa Y8 Qa ?_))))
  first | (refine QC hS14 Qa Qa R8 (by rfl) (i:=1) Qa (Xe Qa) ?_)
  intro w15 hS16; dsimp only[List.set]at hS16
  refine Qc Qa Qa (Qh ?_)
  have hE2:Wk D f (QI b0.toNat) n=0:=Yi hE (Ja _) (by omega)
  refine Qe (Qk [9,6,8] Qa (Qg (Qg (Qb (Qd Qa Qa (QO Qa Qa Qa (Qd Qa Qa (Q3 82 Qa (fun h17=> ?_) (fun h17=> ?_)))))))))
  ·refine Qj Qa Qa (Q8 h17) (Qd Qa Qa (Qj Qa Qa (Q8 h17) (Ql Qa Qa (Qj Qa Qa (Q8 h17) (Qi Qa Y8 Qa (Qj Qa Qa (Q8 h17) (Qp Qa Zw (hS16.cell 1 Qa Qa) Qa (Qj Qa Qa (Q8 h17) (Zs underlying9 Qa Qa (Qj Qa Qa (Q8 h17) (Qd Qa Qa (Qj Qa Qa (Q8 h17) (Xz Qa Qa Qa (Qx Qa (Q8 h17) Qa Qa (Qh (Qe (Qk [6,8,90] Qa (Qw Qa (fun h18=> ?_) (fun h18=> ?_)))))))))))))))))))
   ·refine Qb (Qc Qa Qa (Qh (Qe (Qg (Qg (Qb (Qd Qa Qa (Xt Qa Qa Qa (Qh (Qe (Qw Qa (fun h19=> ?_) (fun h19=> ?_))))))))))))
    ·exact Qg (Qb (Qd Qa Qa (Qc Qa Qa (Qc Qa Qa (Qh (Qe (Qo (Qm (ZI (.inr Qa) Qa Qa Qa (⟨_,rfl,.inr ⟨(HF hE hSl (by omega)).1, by rw[(HF hE hSl (by omega)).2],hS16.pick [0,2] Qa⟩⟩))))))))))
    exact Qr (Qe (Qg (Qb (Qd Qa Qa (Qc Qa Qa (Qc Qa Qa (Qh (Qe (Qo (ZI (.inr Qa) Qa Qa Qa (absurd (by decide) h19)))))))))))
   refine Qr (Qe (Qg (Qg (Qb (Qd Qa Qa (Xt Qa Qa Qa (Qh (Qe (Qw Qa (fun h20=> ?_) (fun h20=> ?_))))))))))
   ·exact Qg (Qb (Qd Qa Qa (Qc Qa Qa (Qc Qa Qa (Qh (Qe (Qo (Qm (ZI (.inr Qa) Qa Qa Qa (absurd Qa h20))))))))))
   refine Qr (Qe (Qg (Qb (Qd Qa Qa (Qc Qa Qa (Qc Qa Qa (Qh (Qe (Qo (ZI (.inr Qa) Qa Qa Qa ?_))))))))))
   exact⟨_,rfl,.inl ⟨(Jc hE hSl (by omega)).1,_,rfl, by rw[(Jc hE hSl (by omega)).2]; exact hS16.pick [1,0,2] Qa⟩⟩
  refine Qf Qa Qa (Qv h17) Qa (Qf Qa Qa (Qv h17) Qa (Qf Qa Qa (Qv h17) Qa (Qf Qa Qa (Qv h17) Qa (Qf Qa Qa (Qv h17) Qa (Qf Qa Qa (Qv h17) Qa (Qf Qa Qa (Qv h17) Qa (Qz Qa (Qv h17) Qa Qa (Qh (Qe (Qk [6,8,90] Qa (QF Qa (Qr (Qe (Qg (Qg (Qb (Qd Qa Qa (Xt Qa Qa Qa (Qh (Qe (Qw Qa (fun h21=> ?_) (fun h21=> ?_))))))))))))))))))))))
  ·exact Qg (Qb (Qd Qa Qa (Qc Qa Qa (Qc Qa Qa (Qh (Qe (Qo (Qm (ZI (.inr Qa) Qa Qa Qa (absurd Qa h21))))))))))
  refine Qr (Qe (Qg (Qb (Qd Qa Qa (Qc Qa Qa (Qc Qa Qa (Qh (Qe (Qo (ZI (.inr Qa) Qa Qa Qa ?_))))))))))
  exact⟨_,rfl,.inl ⟨(Jc hE hSl (by omega)).1,_,rfl, by rw[(Jc hE hSl (by omega)).2]; exact hS16.pick [1,0,2] Qa⟩⟩
 have h12:b0=1∨b0=2:= .inl (T0 (k:=1) (by omega) (Decidable.not_not.1 h7))
 refine Qf Qa Qa (Qv h7) Qa (Qf Qa Qa (Qv h7) Qa (Qf Qa Qa (Qv h7) Qa (Qj Qa Qa (Qv h6) (Qz Qa (Qv h7) Qa Qa (Qz Qa (Qv h6) Qa Qa (Qh (Qe (Qk [1,0,4,5,6,7,8,44] Qa (QF Qa (Qr (Qe (Qg (Qb (Qc Qa Qa (Qh (Qe (Qg (Qg (Qb (Qc Qa Qa (Qh (Qe (QD ?_)))))))))))))))))))))))
 refine XD (fun K0 E0 W0=> ∃(i:Nat),K0=1*i∧E0=[(0,ptrV p 0),(1,intV f),(6,ptrV b1 0),(7,strV [b0,b1_,b2,b3,b4]),(9,intV (acc b1_ b2 b3 b4 i:Nat)),(10,intV (i:Int))]∧Sat W0 [QR b1 (Hv p (RG f)),Z7 p kp D,F]∧(i≤4)) (L0:=[(0,_),(1,_),(6,_),(7,_),(9,_),(10,_)]) (4) (Dc Qa Qa Qa Qa Qa Qa) ⟨4,rfl,rfl,hS2.reorder [1,0,2] Qa, by omega⟩ ?_
 rintro _ _ w22 ⟨i,rfl,rfl,hS22,hi⟩
 refine Qg (Qg (Qb (Qd Qa Qa (We Qa Qa Qa (Qh (Qe (Qw Qa (fun h23=> ?_) (fun h23=> ?_))))))))
 ·obtain⟨c,hc⟩: ∃c,[b0,b1_,b2,b3,b4][i]? =some c:=⟨_,WU (by simp;omega)⟩
  have hacc:=GN (by omega) hi hc
  have hal:=DE (b1:=b1_) (b2:=b2) (b3:=b3) (b4:=b4) (show 0<i by omega)
  have hcl:=BE c
  have hi1:((i -1:Nat):Int)=(i:Int) -1:= by omega
  refine Qr (Qe (Qg (QD (Qb (Qd Qa Qa (Cm 8 Qa Qa Qa Qa (q:=256) Qa (by omega) (by omega) Qa ?_))))))
  refine Qd Qa Qa (Qd Qa Qa (Wx _ underlying9 Qa Qa (by first | rfl | omega) (by first | assumption | rfl) Qa ?_))
  refine YP underlying5 underlying3 Qa Qa ?_
  refine La 8 (acc b1_ b2 b3 b4 i) Qa Qa (by rfl) (by constructor<;>omega) (by omega) Qa ?_
  refine Qc Qa Qa (Qh (Qq (Qe (Qk [10,7,6,1,0,9] Qa (Qb (Qd Qa Qa (JN Qa Qa (by omega) (by omega) Qa ?_)))))))
  refine Qc Qa Qa (Qh ?_)
  exact QY (L1:=[(0,_),(1,_),(6,_),(7,_),(9,intV ((acc b1_ b2 b3 b4 (i -1):Nat):Int)),(10,intV ((i -1:Nat):Int))]) (.cons Qa (.cons Qa (.cons Qa (.cons Qa (.cons (by rw[hacc];rfl) (.cons (by rw[hi1];rfl) .nil)))))) (k1:=1*(i -1)) (by omega) ⟨i -1,rfl,rfl,hS22, by omega⟩
 obtain rfl:i=0:= by omega
 refine Xu (Q1 (Q1 (QJ (Qe (Qg (Qg (Qb (Qd Qa Qa (We Qa Qa Qa (Qh (Qe (Qw Qa (fun h24=> ?_) (fun h24=> ?_)))))))))))))
 ·refine Qg (Qb (Qc Qa Qa (Qc Qa Qa (Qh (Qe (Qk [9,7,6,1,0,4,5] Qa (Qo (Qm (ZI (.inr Qa) Qa Qa Qa ?_)))))))))
  exact⟨_,rfl,.inr ⟨(WB hE (by rw[←hH]; exact YD hb0 (by rw[←Jp];omega))).1, by rw[(WB hE (by rw[←hH]; exact YD hb0 (by rw[←Jp];omega))).2],hS22.pick [1,2] Qa⟩⟩
 have hn:UY b1_ b2 b3 b4≤65536:= by rw[←Jp];omega
 have hSl:Ya (WC D f 0 5)= .slot b0.toNat (UY b1_ b2 b3 b4):= by rw[←hH]; exact M5 h12 hn
 rw[Jp]
 obtain⟨n,hN⟩: ∃n,n=UY b1_ b2 b3 b4:=⟨_,rfl⟩
 rw[←hN]at hSl hn⊢
 have h12n:b0.toNat=1∨b0.toNat=2:= by rcases h12 with rfl | rfl<;> simp
 refine Qr (Qe (Qg (Qb (Qd Qa Qa (Qd Qa Qa (Wx _ underlying9 Qa Qa (by first | rfl | omega) (by first | assumption | rfl) Qa ?_))))))
 refine YP underlying5 underlying3 Qa Qa (Ql Qa Qa (Qi Qa JD Qa ?_))
 first | (refine QC hS22 Qa Qa YH (by rfl) (i:=0) Qa (Xe Qa) ?_)
 intro w25 hS26; dsimp only[List.set]at hS26
 refine Qh (Qe (Qk [9,6,1,0] Qa (Qg (Qb (Qd Qa Qa (Qd Qa Qa (Qd Qa Qa (Qd Qa Qa (Ql Qa Qa (Qi Qa JD Qa (Qp Qa QK (hS26.cell 0 Qa Qa) Qa (H8 _ underlying132 Qa Qa (by rfl) (by omega) YH Qa ?_))))))))))))
 have hg:=(hG.sat hS26 2 Qa).off h12n
 refine Qp Qa QK (by assumption) Qa ?_
 refine Qd Qa Qa (Q4 Bw Qa (Gf (hS26.sp [1] Qa) f (QI b0.toNat) n) Qa ?_)
 rintro _ w27 ⟨rfl,hS27⟩
 replace hS27:=hS27.jn Qa Qa
 have hE2:Wk D f (QI b0.toNat) n=0:=Yi hE (Ja _) (by omega)
 rw[hE2]
 refine Qd Qa Qa (Q9 Qa Qa Qa (Q9 Qa Qa Qa (Ql Qa Qa (Qi Qa Y8 Qa ?_))))
 first | (refine QC hS27 Qa Qa R8 (by rfl) (i:=1) Qa (Xe Qa) ?_)
 intro w28 hS29; dsimp only[List.set]at hS29
 refine Qc Qa Qa (Qh ?_)
 have hE2:Wk D f (QI b0.toNat) n=0:=Yi hE (Ja _) (by omega)
 refine Qe (Qk [9,6,8] Qa (Qg (Qg (Qb (Qd Qa Qa (QO Qa Qa Qa (Qd Qa Qa (Q3 82 Qa (fun h30=> ?_) (fun h30=> ?_)))))))))
 ·refine Qj Qa Qa (Q8 h30) (Qd Qa Qa (Qj Qa Qa (Q8 h30) (Ql Qa Qa (Qj Qa Qa (Q8 h30) (Qi Qa Y8 Qa (Qj Qa Qa (Q8 h30) (Qp Qa Zw (hS29.cell 1 Qa Qa) Qa (Qj Qa Qa (Q8 h30) (Zs underlying9 Qa Qa (Qj Qa Qa (Q8 h30) (Qd Qa Qa (Qj Qa Qa (Q8 h30) (Xz Qa Qa Qa (Qx Qa (Q8 h30) Qa Qa (Qh (Qe (Qk [6,8,90] Qa (Qw Qa (fun h31=> ?_) (fun h31=> ?_)))))))))))))))))))
  ·refine Qb (Qc Qa Qa (Qh (Qe (Qg (Qg (Qb (Qd Qa Qa (Xt Qa Qa Qa (Qh (Qe (Qw Qa (fun h32=> ?_) (fun h32=> ?_))))))))))))
   ·exact Qg (Qb (Qd Qa Qa (Qc Qa Qa (Qc Qa Qa (Qh (Qe (Qo (Qm (ZI (.inr Qa) Qa Qa Qa (⟨_,rfl,.inr ⟨(HF hE hSl (by omega)).1, by rw[(HF hE hSl (by omega)).2],hS29.pick [0,2] Qa⟩⟩))))))))))
   exact Qr (Qe (Qg (Qb (Qd Qa Qa (Qc Qa Qa (Qc Qa Qa (Qh (Qe (Qo (ZI (.inr Qa) Qa Qa Qa (absurd (by decide) h32)))))))))))
  refine Qr (Qe (Qg (Qg (Qb (Qd Qa Qa (Xt Qa Qa Qa (Qh (Qe (Qw Qa (fun h33=> ?_) (fun h33=> ?_))))))))))
  ·exact Qg (Qb (Qd Qa Qa (Qc Qa Qa (Qc Qa Qa (Qh (Qe (Qo (Qm (ZI (.inr Qa) Qa Qa Qa (absurd Qa h33))))))))))
  refine Qr (Qe (Qg (Qb (Qd Qa Qa (Qc Qa Qa (Qc Qa Qa (Qh (Qe (Qo (ZI (.inr Qa) Qa Qa Qa ?_))))))))))
  exact⟨_,rfl,.inl ⟨(Jc hE hSl (by omega)).1,_,rfl, by rw[(Jc hE hSl (by omega)).2]; exact hS29.pick [1,0,2] Qa⟩⟩
 refine Qf Qa Qa (Qv h30) Qa (Qf Qa Qa (Qv h30) Qa (Qf Qa Qa (Qv h30) Qa (Qf Qa Qa (Qv h30) Qa (Qf Qa Qa (Qv h30) Qa (Qf Qa Qa (Qv h30) Qa (Qf Qa Qa (Qv h30) Qa (Qz Qa (Qv h30) Qa Qa (Qh (Qe (Qk [6,8,90] Qa (QF Qa (Qr (Qe (Qg (Qg (Qb (Qd Qa Qa (Xt Qa Qa Qa (Qh (Qe (Qw Qa (fun h34=> ?_) (fun h34=> ?_))))))))))))))))))))))
 ·exact Qg (Qb (Qd Qa Qa (Qc Qa Qa (Qc Qa Qa (Qh (Qe (Qo (Qm (ZI (.inr Qa) Qa Qa Qa (absurd Qa h34))))))))))
 refine Qr (Qe (Qg (Qb (Qd Qa Qa (Qc Qa Qa (Qc Qa Qa (Qh (Qe (Qo (ZI (.inr Qa) Qa Qa Qa ?_))))))))))
 exact⟨_,rfl,.inl ⟨(Jc hE hSl (by omega)).1,_,rfl, by rw[(Jc hE hSl (by omega)).2]; exact hS29.pick [1,0,2] Qa⟩⟩
theorem startK {w:World} {p:Nat} {kp:Value} {D:DS} {F:Th} (hS:Sat w [Z7 p kp D,F]):Calls prog 51 #[ptrV p 0] w (Ret fun v w'=>v= .tuple #[]∧Sat w' [Z7 p kp (ZA D),F]):=Ox hS
theorem T5 {w:World} {e:Nat} {E:EnD} {F:Th} (hS:Sat w [Xs e E,F]) (hG:Ent F WireG) (hO:Ent F (Glob 0)):
    Calls prog 12 #[ptrV e 0] w (Ret fun v w'=>v= .tuple #[intV (WD E).1,intV (WD E).2]∧Sat w' [Xs e E,F]):= by
 obtain⟨dp,cv,sv,ov,hS⟩:=QW hS
 obtain⟨kp,hkl,hS⟩:=D7 (hS.reorder [1,0,2,3,4,5] rfl)
 replace hS:=hS.reorder [2,0,1,3,4,5,6] Qa
 refine Qy func12 Qa ntmps12 Qa ?_
 refine Qg (Qb (Qc Qa Qa (Qc Qa Qa (Qh (Qe (Qg (Qb (Qd Qa Qa (Ql Qa Qa (Qi Qa CZ Qa (Qp Qa GK (hS.cell 0 Qa Qa) Qa (Q4 cal_50 Qa (copy_sp (hS.sp [1] Qa) (Ent.starL (BT (by omega)) 1 Qa)) Qa ?_))))))))))))
 rintro _ w1 ⟨p2,rfl,hS1⟩
 replace hS1:=hS1.jn Qa Qa
 refine Qc Qa Qa (Qh (Qe (Qg (Qb (Qd Qa Qa (Q4 cal_51 Qa (startK (hS1.sp [0] Qa)) Qa ?_))))))
 rintro _ w2 ⟨rfl,hS2⟩
 replace hS2:=hS2.jn Qa Qa
 refine Qh (Qe (Qk [2,3,4] Qa (Qg (Qb (Qd Qa Qa (Ub qab Qa (opK_sp (hS2.sp [0] Qa) (hO.starL 6 Qa) 0) Qa ?_))))))
 rintro e w3 ⟨_,rfl,(⟨ho,cp,rfl,hS3⟩ | ⟨ho,rfl,hS3⟩)⟩
 ·refine⟨_,Qa, ?_⟩
  replace hS3:=hS3.jn Qa Qa
  have hck:=TM (ZA E.D) 0
  refine Qd Qa Qa (Q9 Qa Qa Qa (Q9 Qa Qa Qa (Qc Qa Qa (Qc Qa Qa (Qh (Qe (Qg (Qg (Qb (Qd Qa Qa (Xt Qa Qa Qa (Qh (Qe (Qk [2,3,5,20] Qa (Qw Qa (fun h4=> ?_) (fun h4=> ?_))))))))))))))))
  ·exact absurd Qa h4
  refine Qr (Qe (Qg (Qb (Qd Qa Qa (Q4 cal_53 Qa (OX (hS3.sp [0] Qa) (hG.starL 7 Qa) hck.2) Qa ?_)))))
  rintro _ w5 ⟨rfl,hS5⟩
  replace hS5:=hS5.jn Qa Qa
  refine Q9 Qa Qa Qa (Q9 Qa Qa Qa (Qc Qa Qa (Qc Qa Qa (Qh (Qe (Qo (ZI (.inr Qa) Qa Qa Qa ?_)))))))
  exact⟨_,rfl, by unfold WD; rw[if_pos ho],Qu (E:=E) ((D6 kp hkl (hS5.pick [2,4,3,5,6,7,8] Qa)).reorder [1,0,2,3,4,5] Qa)⟩
 refine⟨_,Qa, ?_⟩
 replace hS3:=hS3.jn Qa Qa
 refine Qd Qa Qa (Q9 Qa Qa Qa (Q9 Qa Qa Qa (Qc Qa Qa (Qc Qa Qa (Qh (Qe (Qg (Qg (Qb (Qd Qa Qa (Xt Qa Qa Qa (Qh (Qe (Qk [2,3,5,20] Qa (Qw Qa (fun h6=> ?_) (fun h6=> ?_))))))))))))))))
 ·refine Qg (Qb (Qc Qa Qa (Qc Qa Qa (Qh (Qe (Qo (Qm (ZI (.inr Qa) Qa Qa Qa ?_))))))))
  exact⟨_,rfl, by unfold WD; rw[if_neg ho],Qu (E:=E) ((D6 kp hkl (hS3.pick [1,3,2,4,5,6,7] Qa)).reorder [1,0,2,3,4,5] Qa)⟩
 exact absurd ho h6
