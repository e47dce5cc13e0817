/- move: read, stop -/
import Derived.Test.YtiibgheijbbmaaaGreatDoorMv1
set_option linter.unusedVariables false
set_option maxRecDepth 100000
namespace Go.Proofs.YtiibgheijbbmaaaGreatDoor
open Go.RowKit M Proofs.Tryz
theorem Bi {s:Bs} (h:Xf (XR 59 (-9223372036854775808:Int) (s,false))++Xf (XR 59 (-9223372036854775808:Int) (XM 59 (-9223372036854775808:Int) (s,false)))≠s∨XR 59 (-9223372036854775808:Int) (s,false)<0∨4≤XR 59 (-9223372036854775808:Int) (s,false)∨XR 59 (-9223372036854775808:Int) (XM 59 (-9223372036854775808:Int) (s,false))<0):YR s=(0,0):= by unfold YR; rw[if_pos h]
theorem LM {s:Bs} (h1:Xf (XR 59 (-9223372036854775808:Int) (s,false))++Xf (XR 59 (-9223372036854775808:Int) (XM 59 (-9223372036854775808:Int) (s,false)))=s) (h2: ¬XR 59 (-9223372036854775808:Int) (s,false)<0) (h3: ¬4≤XR 59 (-9223372036854775808:Int) (s,false)) (h4: ¬XR 59 (-9223372036854775808:Int) (XM 59 (-9223372036854775808:Int) (s,false))<0):YR s=(XR 59 (-9223372036854775808:Int) (s,false),XR 59 (-9223372036854775808:Int) (XM 59 (-9223372036854775808:Int) (s,false))):= by
  unfold YR; rw[if_neg]; rintro(q | q | q | q)
  · exact q h1
  · exact h2 q
  · exact h3 q
  · exact h4 q
theorem Cv {w:World} {c dp:Nat} {C:CS} {F:Th} (hS:Sat w [Xb c (YK dp C),F]) (hG:Ent F WireG) (hv:C.val.length≤20000000):
    Calls prog 53 #[ptrV c 0] w (Ret fun v w'=>v= .tuple #[intV (YR C.val).1,intV (YR C.val).2]∧Sat w' [Xb c (YK dp C),F]):= by
 refine Qy func53 Qa ntmps53 Qa ?_
 have hi0:=(WB (JL 59 (-9223372036854775808:Int) (C.val,false))).1
 have hi1:=(WB (JL 59 (-9223372036854775808:Int) (XM 59 (-9223372036854775808:Int) (C.val,false)))).1
 refine Qf (Qb (Qc Qa Qa (Qc Qa Qa (Qh (Qd (Qf (Qb (Qe Qa Qa (Q0 cal_89 Qa (get_sp (hS.sp [0] Qa)) Qa ?_)))))))))
 rintro _ w1 ⟨rfl,hS1⟩
 replace hS1:=hS1.jn Qa Qa
 refine Qe Qa Qa (Q7 Qa Qa Qa (Q7 Qa Qa Qa (Qc Qa Qa (Qc Qa Qa (Qh (Qd (Qf (Qb (Qe Qa Qa (Q0 P4 Qa (B6 (hS1.sp [] Qa) C.val) Qa ?_))))))))))
 rintro _ w2 ⟨rb,rfl,hS2⟩
 replace hS2:=hS2.jn Qa Qa
 refine Qc Qa Qa (Qh (Qd (Qk [2,3,4,6] Qa (Qf (Qb (Qe Qa Qa ?_))))))
 refine Q0 VE Qa (Uj (hS2.sp [0] Qa) (hG.starL 1 Qa) (by(show C.val.length≤_;omega))) Qa ?_
 rintro _ w3 ⟨rfl,hS3⟩
 replace hS3:=hS3.jn Qa Qa
 refine Qe Qa Qa ?_
 refine Q0 VE Qa (Uj (hS3.sp [0] Qa) (hG.starL 1 Qa) (by(have :=X2 59 (-9223372036854775808:Int) (C.val,false); have :(C.val,false).1.length=C.val.length:=rfl;omega))) Qa ?_
 rintro _ w4 ⟨rfl,hS4⟩
 replace hS4:=hS4.jn Qa Qa
 refine Qc Qa Qa (Qc Qa Qa (Qh (Qd (Qf (Qf (Qb (Qe Qa Qa (Q0 HV Qa (Y5 (hS4.sp [] Qa) (hG.starL 2 Qa) _ (JL _ _ _)) Qa ?_))))))))
 rintro _ w5 ⟨rfl,hS5⟩
 replace hS5:=hS5.jn Qa Qa
 refine Qe Qa Qa (Q0 HV Qa (Y5 (hS5.sp [] Qa) (hG.starL 2 Qa) _ (JL _ _ _)) Qa ?_)
 rintro _ w6 ⟨rfl,hS6⟩
 replace hS6:=hS6.jn Qa Qa
 refine U5 Qa Qa (by(simp;omega)) Qa ?_
 refine Qe Qa Qa (PN Qa Qa Qa (Qe Qa Qa (Q4 27 Qa (fun h7=> ?_) (fun h7=> ?_))))
 ·have hne:=h7
  refine Qg Qa Qa (QD h7) Qa (Qg Qa Qa (QD h7) Qa (Q1 Qa (QD h7) Qa Qa (Qe Qa Qa (Qg Qa Qa Qa Qa (Qg Qa Qa Qa Qa (Q1 Qa Qa Qa Qa (Qe Qa Qa (Qg Qa Qa Qa Qa (Qg Qa Qa Qa Qa (Q1 Qa Qa Qa Qa (Qh (Qd (Qk [2,3,7,8,38] Qa (QP Qa (Qf (Qb (Qc Qa Qa (Qc Qa Qa (Qh (Qd (Qo (Qm (Z8 (.inr Qa) Qa Qa Qa ?_)))))))))))))))))))))))
  exact⟨_,rfl, by rw[Bi (by first | exact .inl hne | (refine .inr ?_;omega))],hS6.pick [1,2] Qa⟩
 have heq:=Decidable.not_not.1 h7
 refine Qj Qa Qa (Qx h7) (Qe Qa Qa (Qj Qa Qa (Qx h7) (X5 Qa Qa Qa (Q3 Qa (Qx h7) Qa Qa (Qe Qa Qa (Q4 31 Qa (fun h8=> ?_) (fun h8=> ?_)))))))
 ·refine Qg Qa Qa (QD h8) Qa (Qg Qa Qa (QD h8) Qa (Q1 Qa (QD h8) Qa Qa (Qe Qa Qa (Qg Qa Qa Qa Qa (Qg Qa Qa Qa Qa (Q1 Qa Qa Qa Qa (Qh (Qd (Qk [2,3,7,8,38] Qa (QP Qa (Qf (Qb (Qc Qa Qa (Qc Qa Qa (Qh (Qd (Qo (Qm (Z8 (.inr Qa) Qa Qa Qa ?_)))))))))))))))))))
  exact⟨_,rfl, by rw[Bi (by first | exact .inl hne | (refine .inr ?_;omega))],hS6.pick [1,2] Qa⟩
 refine Qj Qa Qa (Qx h8) (Qe Qa Qa (Qj Qa Qa (Qx h8) (Jm Qa Qa Qa (Q3 Qa (Qx h8) Qa Qa (Qe Qa Qa (Q4 35 Qa (fun h9=> ?_) (fun h9=> ?_)))))))
 ·refine Qg Qa Qa (QD h9) Qa (Qg Qa Qa (QD h9) Qa (Q1 Qa (QD h9) Qa Qa (Qh (Qd (Qk [2,3,7,8,38] Qa (QP Qa (Qf (Qb (Qc Qa Qa (Qc Qa Qa (Qh (Qd (Qo (Qm (Z8 (.inr Qa) Qa Qa Qa ?_)))))))))))))))
  exact⟨_,rfl, by rw[Bi (by first | exact .inl hne | (refine .inr ?_;omega))],hS6.pick [1,2] Qa⟩
 refine Qj Qa Qa (Qx h9) (Qe Qa Qa (Qj Qa Qa (Qx h9) (X5 Qa Qa Qa (Q3 Qa (Qx h9) Qa Qa (Qh (Qd (Qk [2,3,7,8,38] Qa (Qv Qa (fun h10=> ?_) (fun h10=> ?_)))))))))
 ·refine Qf (Qb (Qc Qa Qa (Qc Qa Qa (Qh (Qd (Qo (Qm (Z8 (.inr Qa) Qa Qa Qa ?_))))))))
  exact⟨_,rfl, by rw[Bi (by first | exact .inl hne | (refine .inr ?_;omega))],hS6.pick [1,2] Qa⟩
 exact Qt (Qd (Qf (Qb (Qe Qa Qa (Qe Qa Qa (Qc Qa Qa (Qc Qa Qa (Qh (Qd (Qo (Z8 (.inr Qa) Qa Qa Qa (⟨_,rfl, by rw[LM heq (by omega) (by omega) (by omega)],hS6.pick [1,2] Qa⟩))))))))))))
theorem PV {w:World} {e:Nat} {E:EnD} {F:Th} (hS:Sat w [Xw e E,F]):
    Calls prog 84 #[ptrV e 0] w (Ret fun v w'=>v= .tuple #[]∧Sat w' [Xw e (GD E),F]):= by
 obtain⟨dp,cv,sv,ov,hS⟩:=QU hS
 refine Qy func84 Qa ntmps84 Qa ?_
 refine Qb (Qe Qa Qa (Qe Qa Qa (Ql Qa Qa (Qi Qa HB Qa (Qr Qa HZ (hS.cell 0 Qa Qa) Qa (Zs Qa Sb AH zr_81 Qa Qa (Ql Qa Qa ?_)))))))
 first | (refine Q8 hS Qa Qa sz_81 Qa (by rfl) (i:=0) Qa (QC Qa) ?_)
 intro w1 hS2; dsimp only[List.set]at hS2
 exact Qh (Yl (.inl Qa) Qa (⟨_,Qa,Qa,Qu (E:=GD E) (dp:=dp) (cv:= .pointer none) (sv:= .pointer none) (ov:= .pointer none) ((Ki (dp:=dp) (ZQ (ZR (hS2.pick [0,1,5] Qa)))).reorder [3,4,0,1,2,5] Qa)⟩))
section
variable {E:EnD} {C:CS} {k m:Int}
theorem Ga (hC:E.cell=some C) (h:(Zq E.D C (Xf k++Xf m)).e≠0):QT E k m=((Zq E.D C (Xf k++Xf m)).e,GD {E with D:=(Zq E.D C (Xf k++Xf m)).D,cell:=some (Zq E.D C (Xf k++Xf m)).C}):= by unfold QT; rw[hC]; dsimp only; rw[if_pos h];rfl
theorem Vz (hC:E.cell=some C) (h:(Zq E.D C (Xf k++Xf m)).e=0):QT E k m=(0,{E with D:=(Zq E.D C (Xf k++Xf m)).D,cell:=some (Zq E.D C (Xf k++Xf m)).C,kind:=k,move:=m}):= by unfold QT; rw[hC]; dsimp only; rw[if_neg (by omega)]
end
theorem Ul {w:World} {e:Nat} {E:EnD} {F:Th} (hS:Sat w [Xw e E,F]) (hG:Ent F WireG) (hO:Ent F (Glob 0)) (hu:E.cell≠none) {k m:Int} (hk:X4 k) (hm:X4 m):
    Calls prog 59 #[ptrV e 0,intV k,intV m] w (Ret fun v w'=>v=intV (QT E k m).1∧Sat w' [Xw e (QT E k m).2,F]):= by
 obtain⟨dp,cv,sv,ov,hS⟩:=QU hS
 obtain⟨C,hC⟩:=Option.ne_none_iff_exists'.1 hu
 rw[hC]at hS
 obtain⟨cp,rfl,hsl,hS⟩:=Dg (hS.reorder [2,0,1,3,4,5] rfl)
 refine Qy func59 Qa ntmps59 Qa ?_
 have hi0:=(WB hk).1
 have hi1:=(WB hm).1
 refine Qf (Qb (Qc Qa Qa (Qh (Qd (Qf (Qf ?_))))))
 have hS1:=hS.drew
 refine QN [0,1,2,3,4,6,5,7,8,9,10] [5,7,9] W5 (by kernel_rfl) ?_
 refine QI Qa Qa Qa (Xn Qa Qa Qa (QO Qa Qa Qa Bm (QF Qa Qa Qa (Qn Qa SQ (hS1.cell 1 Qa Qa)) (QI Qa Qa Qa (QI Qa Qa Qa (QV Qa Qa Qa Qa Qa Qa ?_))))))
 refine Q0 HV Qa (Y5 (hS1.sp [] Qa) (hG.starL 5 Qa) k hk) Qa ?_
 rintro _ w2 ⟨rfl,hS2⟩
 replace hS2:=hS2.jn Qa Qa
 refine Xd (.cons (.inl ⟨Qa,(Qn Qa SQ (hS2.cell 1 Qa Qa))⟩) .nil) (QV Qa Qa Qa Qa Qa Qa ?_)
 refine Q0 HV Qa (Y5 (hS2.sp [] Qa) (hG.starL 5 Qa) m hm) Qa ?_
 rintro _ w3 ⟨rfl,hS3⟩
 replace hS3:=hS3.jn Qa Qa
 refine Xd (.cons (.inl ⟨Qa,(Qn Qa SQ (hS3.cell 1 Qa Qa))⟩) .nil) ?_
 refine Q9 Qa Qa Qa (fun _=>(Y2 Qa Qa (by(simp;omega)))) ?_
 refine QV Qa Qa Qa Qa Qa Qa ?_
 refine Q0 cal_95 Qa (set_sp (hS3.sp [0,2] Qa) (hO.starL 3 Qa) hsl.1 (Xf k++Xf m)) Qa ?_
 rintro _ w4 ⟨rfl,hS4⟩
 replace hS4:=hS4.jn Qa Qa
 refine Xd (Xq (by kernel_rfl)) ?_
 refine WV Qa Qa Qa (VC.nil (Qd (Qk [2,1,0,6,7] Qa (Qf (Qb (Qe Qa Qa (Xu Qa Qa Qa (Qh (Qd (Qv Qa (fun h5=> ?_) (fun h5=> ?_)))))))))))
 ·have hbad:(Zq E.D C (Xf k++Xf m)).e≠0:=h5
  refine Qf ?_
  have hS6:=Qu (E:={E with D:=(Zq E.D C (Xf k++Xf m)).D,cell:=some (Zq E.D C (Xf k++Xf m)).C}) (dp:=dp) ((HU (C:=(Zq E.D C (Xf k++Xf m)).C) (Cb hsl) (hS4.pick [0,2,1,3,4,5] Qa)).reorder [1,2,0,3,4,5] Qa)
  refine Qb (Qe Qa Qa (Q0 An Qa (PV (hS6.sp [0] Qa)) Qa ?_))
  rintro _ w7 ⟨rfl,hS7⟩
  replace hS7:=hS7.jn Qa Qa
  refine Qh (Qd (Qf (Qb (Qe Qa Qa (Qc Qa Qa (Qh (Qd (Qo (Qm (Q5 (.inr Qa) Qa Qa ?_))))))))))
  exact⟨_,rfl, by rw[Ga hC hbad], by rw[Ga hC hbad]; exact hS7.pick [0,1] Qa⟩
 have hgood:(Zq E.D C (Xf k++Xf m)).e=0:=Decidable.not_not.1 h5
 refine Qt (Qd (Qf (Qb (Qe Qa Qa (Qe Qa Qa (Qe Qa Qa (Qe Qa Qa (Ql Qa Qa (Qi Qa Zh Qa ?_)))))))))
 (refine Qw hS4 Qa Qa WA (by rfl) (i:=2) Qa (QC Qa) ?_)
 intro w8 hS9; dsimp only[List.set]at hS9
 refine Ql Qa Qa (Qi Qa Wp Qa ?_)
 (refine Qw hS9 Qa Qa WA (by rfl) (i:=2) Qa (QC Qa) ?_)
 intro w10 hS11; dsimp only[List.set]at hS11
 refine Qh (Qd (Qk [6] Qa (Qf (Qb (Qc Qa Qa (Qh (Qd (Qo (Q5 (.inr Qa) Qa Qa ?_)))))))))
 exact⟨_,rfl, by rw[Vz hC hgood], by rw[Vz hC hgood]; exact Qu (E:={E with D:=(Zq E.D C (Xf k++Xf m)).D,cell:=some (Zq E.D C (Xf k++Xf m)).C,kind:=k,move:=m}) (dp:=dp) ((HU (C:=(Zq E.D C (Xf k++Xf m)).C) (Cb hsl) (hS11.pick [0,2,1,3,4,5] Qa)).reorder [1,2,0,3,4,5] Qa)⟩
theorem Mr {w:World} {e:Nat} {E:EnD} {F:Th} (hS:Sat w [Xw e E,F]) {kv:Value} {ks:List Int} (hK:Ent F (RdI kv ks)):
    Calls prog 47 #[ptrV e 0,kv] w (Ret fun v w'=>v= .tuple #[]∧Sat w' [Xw e (VB E ks),F]):= by
 obtain⟨dp,cv,sv,ov,hS⟩:=QU hS
 refine Qy func47 Qa ntmps47 Qa ?_
 refine Qf (Qb (Qe Qa Qa (Ql Qa Qa (Qi Qa HB Qa (Qr Qa HZ (hS.cell 0 Qa Qa) Qa (Qe Qa Qa (Q0 P2 Qa (crashT (hS.sp [1] Qa) (hK.starL 4 Qa)) Qa ?_)))))))
 rintro _ w1 ⟨rfl,hS1⟩
 replace hS1:=hS1.jn Qa Qa
 refine Qh (Qd ?_)
 have hS2:=Qu (E:={E with D:=ZB E.D ks}) (hS1.pick [1,0,2,3,4,5] Qa)
 refine Qb (Qe Qa Qa (Q0 An Qa (PV (hS2.sp [0] Qa)) Qa ?_))
 rintro _ w3 ⟨rfl,hS3⟩
 replace hS3:=hS3.jn Qa Qa
 exact Qh (Yl (.inl Qa) Qa (⟨_,Qa,Qa,hS3.pick [0,1] Qa⟩))
theorem Nu {w:World} {e:Nat} {E:EnD} {F:Th} (hS:Sat w [Xw e E,F]) (n:Int) (hn:n≤9223372036854775807):
    Calls prog 16 #[ptrV e 0,intV n] w (Ret fun v w'=>v= .tuple #[]∧Sat w' [Xw e {E with D:={E.D with lost:=max n 0}},F]):= by
 obtain⟨dp,cv,sv,ov,hS⟩:=QU hS
 refine Qy func16 Qa ntmps16 Qa ?_
 refine Qb (Qe Qa Qa (Ql Qa Qa (Qi Qa HB Qa (Qr Qa HZ (hS.cell 0 Qa Qa) Qa (Qe Qa Qa (Q0 cal_55 Qa (loseT (hS.sp [1] Qa) n hn) Qa ?_))))))
 rintro _ w1 ⟨rfl,hS1⟩
 replace hS1:=hS1.jn Qa Qa
 exact Qh (Yl (.inl Qa) Qa (⟨_,Qa,Qa,Qu (E:={E with D:={E.D with lost:=max n 0}}) (hS1.pick [1,0,2,3,4,5] Qa)⟩))
theorem S6 {w:World} {e:Nat} {E:EnD} {F:Th} (hS:Sat w [Xw e E,F]) {kv:Value} {ks:List Int} (hK:Ent F (RdI kv ks)) (n:Int) (hn:n≤9223372036854775807) (hl:ks.length≤1000):
    Calls prog 17 #[ptrV e 0,intV n,kv] w (Ret fun v w'=>v= .tuple #[]∧Sat w' [Xw e {E with D:=DB E.D n ks},F]):= by
 obtain⟨dp,cv,sv,ov,hS⟩:=QU hS
 refine Qy func17 Qa ntmps17 Qa ?_
 refine Qb (Qe Qa Qa (Ql Qa Qa (Qi Qa HB Qa (Qr Qa HZ (hS.cell 0 Qa Qa) Qa (Qe Qa Qa (Qe Qa Qa (Q0 cal_56 Qa (armT (hS.sp [1] Qa) n hn (hK.starL 4 Qa) hl) Qa ?_)))))))
 rintro _ w1 ⟨rfl,hS1⟩
 replace hS1:=hS1.jn Qa Qa
 exact Qh (Yl (.inl Qa) Qa (⟨_,Qa,Qa,Qu (E:={E with D:=DB E.D n ks}) (hS1.pick [1,0,2,3,4,5] Qa)⟩))
theorem opK_sp {w:World} {p:Nat} {kp:Value} {D:DS} {F:Th} (hS:Sat w [XX p kp D,F]) (hG:Ent F (Glob 0)) (f:Int):
    Calls prog 52 #[ptrV p 0,intV f] w (Ret fun v w'=>(Wo D f=0∧ ∃c,v= .tuple #[ptrV c 0,intV 0]∧Sat w' [Xb c (YK p (Jr D f)),XX p kp D,F])∨(Wo D f≠0∧v= .tuple #[.pointer none,intV (Wo D f)]∧Sat w' [XX p kp D,F])):= by
 refine Qy func52 Qa ntmps52 Qa ?_
 refine Qf (Qb (Qc Qa Qa (Qc Qa Qa (Qh (Qd (Qf (Qb (Qe Qa Qa (Qe Qa Qa (Zs Qa BH SK Lv Qa Qa (Za hS Qa Qa Qa ?_)))))))))))
 intro b1 w1 hS1
 refine Qc Qa Qa (Qh (Qd (Qf (Qb (Qe Qa Qa (Qe Qa Qa (Q0 Gr Qa (KX (hS1.sp [1] Qa) f 0 5) Qa ?_)))))))
 rintro _ w2 ⟨rfl,hS2⟩
 replace hS2:=hS2.jn Qa Qa
 refine Qe Qa Qa (Q7 Qa Qa Qa (Q7 Qa Qa Qa (Qc Qa Qa (Qc Qa Qa (Qh ?_)))))
 obtain⟨h,hH⟩: ∃h,h=Wx D f 0 5:=⟨_,rfl⟩
 rw[←hH]
 have hh5:(h.length:Int)≤5:= by have :=G3 (D:=D) (f:=f) (a:=0) (n:=5); rw[←hH]at this;omega
 refine Qd (Qk [1,0,4,5,6,7,8] Qa (Qf (Qf (Qb (Qe Qa Qa (Xu Qa Qa Qa (Qh (Qd (Qv Qa (fun h3=> ?_) (fun h3=> ?_))))))))))
 ·have hE:ZT D f 0 5≠0:=h3
  exact Qf (Qb (Qe Qa Qa (Qc Qa Qa (Qc Qa Qa (Qh (Qd (Qo (Qm (Z8 (.inr Qa) Qa Qa Qa (⟨_,rfl,.inr ⟨(Rb hE).1, by rw[(Rb hE).2],hS2.pick [0,2] Qa⟩⟩))))))))))
 have hE:ZT D f 0 5=0:=Decidable.not_not.1 h3
 refine Qt (Qd (Qf (Qf (Qb (Qe Qa Qa (VH Qa Qa Qa (Qe Qa Qa (Q4 26 Qa (fun h4=> ?_) (fun h4=> ?_)))))))))
 ·have hh0:h=[]:=h4
  refine Qg Qa Qa (QD h4) Qa (Qg Qa Qa (QD h4) Qa (Qg Qa Qa (QD h4) Qa (Q1 Qa (QD h4) Qa Qa (Qh (Qd (Qk [1,0,4,5,6,7,8,30] Qa (QP Qa (Qf (Qb (Qe Qa Qa (Qc Qa Qa (Qc Qa Qa (Qh (Qd (Qo (Qm (Z8 (.inr Qa) Qa Qa Qa ?_)))))))))))))))))
  subst hh0
  exact⟨_,rfl,.inl ⟨(JK hE (by rw[←hH]; exact Jt (.inl Qa))).1,_,rfl, by rw[(JK hE (by rw[←hH]; exact Jt (.inl Qa))).2]; exact hS2.pick [1,0,2] Qa⟩⟩
 obtain⟨b0,r,rfl⟩:=List.exists_cons_of_ne_nil h4
 refine Qj Qa Qa (Qx h4) (Qe Qa Qa (Qj Qa Qa (Qx h4) (Wk _ underlying9 Qa Qa (by rfl) (by rfl) rfl ?_)))
 refine Qj Qa Qa (Qx h4) (QL Qa Qa Qa (Q3 Qa (Qx h4) Qa Qa (Qh (Qd (Qk [1,0,4,5,6,7,8,30] Qa (Qv Qa (fun h5=> ?_) (fun h5=> ?_)))))))
 ·have hb00:b0=0:=DM (k:=0) (by omega) h5
  refine Qf (Qb (Qe Qa Qa (Qc Qa Qa (Qc Qa Qa (Qh (Qd (Qo (Qm (Z8 (.inr Qa) Qa Qa Qa ?_)))))))))
  exact⟨_,rfl,.inl ⟨(JK hE (by rw[←hH]; exact Jt (.inr ⟨r, by rw[hb00]⟩))).1,_,rfl, by rw[(JK hE (by rw[←hH]; exact Jt (.inr ⟨r, by rw[hb00]⟩))).2]; exact hS2.pick [1,0,2] Qa⟩⟩
 have hb0:b0≠0:=DK (k:=0) (by omega) h5
 refine Qt (Qd (Qf (Qf (Qb (Qe Qa Qa (Zf underlying9 Qa Qa (X5 Qa Qa Qa (Qe Qa Qa (Q4 35 Qa (fun h6=> ?_) (fun h6=> ?_))))))))))
 ·have hlen5:=h6
  refine Qg Qa Qa (QD h6) Qa (Qg Qa Qa (QD h6) Qa (Qg Qa Qa (QD h6) Qa (Qg Qa Qa (QD h6) Qa (QM Qa Qa Qa (QM Qa Qa Qa (QM Qa Qa Qa (Qg Qa Qa (QD h6) Qa (Q1 Qa (QD h6) Qa Qa (Qh (Qd (Qk [1,0,4,5,6,7,8,44] Qa (QP Qa (Qf (Qb (Qc Qa Qa (Qc Qa Qa (Qh (Qd (Qo (Qm (Z8 (.inr Qa) Qa Qa Qa ?_)))))))))))))))))))))
  exact⟨_,rfl,.inr ⟨(Wu hE (by rw[←hH]; exact HG hb0 (by simp at hlen5;omega))).1, by rw[(Wu hE (by rw[←hH]; exact HG hb0 (by simp at hlen5;omega))).2],hS2.pick [0,2] Qa⟩⟩
 have hlen5:r.length=4:= by simp at hh5; have :=h6; simp at this;omega
 obtain⟨b1_,b2,b3,b4,rfl⟩: ∃b1 b2 b3 b4,r=[b1,b2,b3,b4]:= by match r,hlen5 with | [b1,b2,b3,b4],_=> exact⟨_,_,_,_,rfl⟩
 refine Qj Qa Qa (Qx h6) (Qe Qa Qa (Qj Qa Qa (Qx h6) (Wk _ underlying9 Qa Qa (by rfl) (by rfl) rfl ?_)))
 refine Qj Qa Qa (Qx h6) (Xu Qa Qa Qa (Qj Qa Qa (Qx h6) (Qe Qa Qa (Q4 39 Qa (fun h7=> ?_) (fun h7=> ?_)))))
 ·have hn1:=DK (k:=1) (by omega) h7
  refine Qj Qa Qa (QD h7) (Qe Qa Qa (Qj Qa Qa (QD h7) (Wk _ underlying9 Qa Qa (by rfl) (by rfl) rfl ?_)))
  refine Qj Qa Qa (QD h7) (Xu Qa Qa Qa (Qj Qa Qa (Qx h6) (Q1 Qa (QD h7) Qa Qa (Q3 Qa (Qx h6) Qa Qa (Qh (Qd (Qk [1,0,4,5,6,7,8,44] Qa (Qv Qa (fun h8=> ?_) (fun h8=> ?_)))))))))
  ·have hn2:=DK (k:=2) (by omega) h8
   refine Qf (Qb (Qc Qa Qa (Qc Qa Qa (Qh (Qd (Qo (Qm (Z8 (.inr Qa) Qa Qa Qa ?_))))))))
   exact⟨_,rfl,.inr ⟨(Wu hE (by rw[←hH]; exact Yr hb0 (by rintro⟨h12,_⟩; rcases h12 with rfl | rfl<;>simp_all))).1, by rw[(Wu hE (by rw[←hH]; exact Yr hb0 (by rintro⟨h12,_⟩; rcases h12 with rfl | rfl<;>simp_all))).2],hS2.pick [0,2] rfl⟩⟩
  have h12:b0=1∨b0=2:= .inr (DM (k:=2) (by omega) (Decidable.not_not.1 h8))
  refine Qt (Qd (Qf (Qb (Qc Qa Qa (Qh (Qd (Qf (Qf (Qb (Qc Qa Qa (Qh (Qd (QK ?_)))))))))))))
  refine XJ (fun K0 E0 W0=> ∃(i:Nat),K0=1*i∧E0=[(0,ptrV p 0),(1,intV f),(6,ptrV b1 0),(7,strV [b0,b1_,b2,b3,b4]),(9,intV (acc b1_ b2 b3 b4 i:Nat)),(10,intV (i:Int))]∧Sat W0 [Xb b1 (YK p (KD f)),XX p kp D,F]∧(i≤4)) (L0:=[(0,_),(1,_),(6,_),(7,_),(9,_),(10,_)]) (4) (TH Qa Qa Qa Qa Qa Qa) ⟨4,rfl,rfl,hS2.reorder [1,0,2] Qa, by omega⟩ ?_
  rintro _ _ w9 ⟨i,rfl,rfl,hS9,hi⟩
  refine Qf (Qf (Qb (Qe Qa Qa (Wr Qa Qa Qa (Qh (Qd (Qv Qa (fun h10=> ?_) (fun h10=> ?_))))))))
  ·obtain⟨c,hc⟩: ∃c,[b0,b1_,b2,b3,b4][i]? =some c:=⟨_,WY (by simp;omega)⟩
   have hacc:=RG (by omega) hi hc
   have hal:=Bx (b1:=b1_) (b2:=b2) (b3:=b3) (b4:=b4) (show 0<i by omega)
   have hcl:=GA c
   have hi1:((i -1:Nat):Int)=(i:Int) -1:= by omega
   refine Qt (Qd (Qf (QK (Qb (Qe Qa Qa (Mz 8 Qa Qa Qa Qa (q:=256) Qa (by omega) (by omega) Qa ?_))))))
   refine Qe Qa Qa (Qe Qa Qa (Wk _ underlying9 Qa Qa (by rfl) (by first | assumption | rfl) Qa ?_))
   refine Yx underlying5 underlying3 Qa Qa ?_
   refine PL 8 (acc b1_ b2 b3 b4 i) Qa Qa (by rfl) (by constructor<;>omega) (by omega) Qa ?_
   refine Qc Qa Qa (Qh (Qq (Qd (Qk [10,7,6,1,0,9] Qa (Qb (Qe Qa Qa (JH Qa Qa (by omega) (by omega) Qa ?_)))))))
   refine Qc Qa Qa (Qh ?_)
   exact Xj (L1:=[(0,_),(1,_),(6,_),(7,_),(9,intV ((acc b1_ b2 b3 b4 (i -1):Nat):Int)),(10,intV ((i -1:Nat):Int))]) (.cons Qa (.cons Qa (.cons Qa (.cons Qa (.cons (by rw[hacc];rfl) (.cons (by rw[hi1];rfl) .nil)))))) (k1:=1*(i -1)) (by omega) ⟨i -1,rfl,rfl,hS9, by omega⟩
  obtain rfl:i=0:= by omega
  refine X6 (Q6 (Q6 (QR (Qd (Qf (Qf (Qb (Qe Qa Qa (Wr Qa Qa Qa (Qh (Qd (Qv Qa (fun h11=> ?_) (fun h11=> ?_)))))))))))))
  ·refine Qf (Qb (Qc Qa Qa (Qc Qa Qa (Qh (Qd (Qk [9,7,6,1,0,4,5] Qa (Qo (Qm (Z8 (.inr Qa) Qa Qa Qa ?_)))))))))
   exact⟨_,rfl,.inr ⟨(Wu hE (by rw[←hH]; exact Yr hb0 (by rw[←Jc];omega))).1, by rw[(Wu hE (by rw[←hH]; exact Yr hb0 (by rw[←Jc];omega))).2],hS9.pick [1,2] Qa⟩⟩
  have hn:Uz b1_ b2 b3 b4≤65536:= by rw[←Jc];omega
  have hSl:J9 (Wx D f 0 5)= .slot b0.toNat (Uz b1_ b2 b3 b4):= by rw[←hH]; exact BY h12 hn
  rw[Jc]
  obtain⟨n,hN⟩: ∃n,n=Uz b1_ b2 b3 b4:=⟨_,rfl⟩
  rw[←hN]at hSl hn⊢
  have h12n:b0.toNat=1∨b0.toNat=2:= by rcases h12 with rfl | rfl<;> simp
  refine Qt (Qd (Qf (Qb (Qe Qa Qa (Qe Qa Qa (Wk _ underlying9 Qa Qa (by rfl) (by first | assumption | rfl) Qa ?_))))))
  refine Yx underlying5 underlying3 Qa Qa (Ql Qa Qa (Qi Qa Ju Qa ?_))
  first | (refine Qw hS9 Qa Qa WA (by rfl) (i:=0) Qa (QC Qa) ?_)
  intro w12 hS13; dsimp only[List.set]at hS13
  refine Qh (Qd (Qk [9,6,1,0] Qa (Qf (Qb (Qe Qa Qa (Qe Qa Qa (Qe Qa Qa (Qe Qa Qa (Ql Qa Qa (Qi Qa Ju Qa (Qr Qa QH (hS13.cell 0 Qa Qa) Qa (YY _ underlying132 Qa Qa (by rfl) (by omega) WA Qa ?_))))))))))))
  have hg:=(hG.sat hS13 2 Qa).off h12n
  refine Qr Qa QH (by assumption) Qa ?_
  refine Qe Qa Qa (Q0 Gr Qa (KX (hS13.sp [1] Qa) f (QG b0.toNat) n) Qa ?_)
  rintro _ w14 ⟨rfl,hS14⟩
  replace hS14:=hS14.jn Qa Qa
  have hE2:ZT D f (QG b0.toNat) n=0:=JG hE (WO _) (by omega)
  rw[hE2]
  refine Qe Qa Qa (Q7 Qa Qa Qa (Q7 Qa Qa Qa (Ql Qa Qa (Qi Qa Yk Qa ?_))))
  first | (refine Qw hS14 Qa Qa Hz (by rfl) (i:=1) Qa (QC Qa) ?_)
  intro w15 hS16; dsimp only[List.set]at hS16
  refine Qc Qa Qa (Qh ?_)
  have hE2:ZT D f (QG b0.toNat) n=0:=JG hE (WO _) (by omega)
  refine Qd (Qk [9,6,8] Qa (Qf (Qf (Qb (Qe Qa Qa (QL Qa Qa Qa (Qe Qa Qa (Q4 82 Qa (fun h17=> ?_) (fun h17=> ?_)))))))))
  ·refine Qj Qa Qa (QD h17) (Qe Qa Qa (Qj Qa Qa (QD h17) (Ql Qa Qa (Qj Qa Qa (QD h17) (Qi Qa Yk Qa (Qj Qa Qa (QD h17) (Qr Qa Zx (hS16.cell 1 Qa Qa) Qa (Qj Qa Qa (QD h17) (Zf underlying9 Qa Qa (Qj Qa Qa (QD h17) (Qe Qa Qa (Qj Qa Qa (QD h17) (X5 Qa Qa Qa (Q1 Qa (QD h17) Qa Qa (Qh (Qd (Qk [6,8,90] Qa (Qv Qa (fun h18=> ?_) (fun h18=> ?_)))))))))))))))))))
   ·refine Qb (Qc Qa Qa (Qh (Qd (Qf (Qf (Qb (Qe Qa Qa (Xu Qa Qa Qa (Qh (Qd (Qv Qa (fun h19=> ?_) (fun h19=> ?_))))))))))))
    ·exact Qf (Qb (Qe Qa Qa (Qc Qa Qa (Qc Qa Qa (Qh (Qd (Qo (Qm (Z8 (.inr Qa) Qa Qa Qa (⟨_,rfl,.inr ⟨(Hm hE hSl (by omega)).1, by rw[(Hm hE hSl (by omega)).2],hS16.pick [0,2] Qa⟩⟩))))))))))
    exact Qt (Qd (Qf (Qb (Qe Qa Qa (Qc Qa Qa (Qc Qa Qa (Qh (Qd (Qo (Z8 (.inr Qa) Qa Qa Qa (absurd (by decide) h19)))))))))))
   refine Qt (Qd (Qf (Qf (Qb (Qe Qa Qa (Xu Qa Qa Qa (Qh (Qd (Qv Qa (fun h20=> ?_) (fun h20=> ?_))))))))))
   ·exact Qf (Qb (Qe Qa Qa (Qc Qa Qa (Qc Qa Qa (Qh (Qd (Qo (Qm (Z8 (.inr Qa) Qa Qa Qa (absurd Qa h20))))))))))
   refine Qt (Qd (Qf (Qb (Qe Qa Qa (Qc Qa Qa (Qc Qa Qa (Qh (Qd (Qo (Z8 (.inr Qa) Qa Qa Qa ?_))))))))))
   exact⟨_,rfl,.inl ⟨(WP hE hSl (by omega)).1,_,rfl, by rw[(WP hE hSl (by omega)).2]; exact hS16.pick [1,0,2] Qa⟩⟩
  refine Qg Qa Qa (Qx h17) Qa (Qg Qa Qa (Qx h17) Qa (Qg Qa Qa (Qx h17) Qa (Qg Qa Qa (Qx h17) Qa (Qg Qa Qa (Qx h17) Qa (Qg Qa Qa (Qx h17) Qa (Qg Qa Qa (Qx h17) Qa (Q3 Qa (Qx h17) Qa Qa (Qh (Qd (Qk [6,8,90] Qa (QJ Qa (Qt (Qd (Qf (Qf (Qb (Qe Qa Qa (Xu Qa Qa Qa (Qh (Qd (Qv Qa (fun h21=> ?_) (fun h21=> ?_))))))))))))))))))))))
  ·exact Qf (Qb (Qe Qa Qa (Qc Qa Qa (Qc Qa Qa (Qh (Qd (Qo (Qm (Z8 (.inr Qa) Qa Qa Qa (absurd Qa h21))))))))))
  refine Qt (Qd (Qf (Qb (Qe Qa Qa (Qc Qa Qa (Qc Qa Qa (Qh (Qd (Qo (Z8 (.inr Qa) Qa Qa Qa ?_))))))))))
  exact⟨_,rfl,.inl ⟨(WP hE hSl (by omega)).1,_,rfl, by rw[(WP hE hSl (by omega)).2]; exact hS16.pick [1,0,2] Qa⟩⟩
 have h12:b0=1∨b0=2:= .inl (DM (k:=1) (by omega) (Decidable.not_not.1 h7))
 refine Qg Qa Qa (Qx h7) Qa (Qg Qa Qa (Qx h7) Qa (Qg Qa Qa (Qx h7) Qa (Qj Qa Qa (Qx h6) (Q3 Qa (Qx h7) Qa Qa (Q3 Qa (Qx h6) Qa Qa (Qh (Qd (Qk [1,0,4,5,6,7,8,44] Qa (QJ Qa (Qt (Qd (Qf (Qb (Qc Qa Qa (Qh (Qd (Qf (Qf (Qb (Qc Qa Qa (Qh (Qd (QK ?_)))))))))))))))))))))))
 refine XJ (fun K0 E0 W0=> ∃(i:Nat),K0=1*i∧E0=[(0,ptrV p 0),(1,intV f),(6,ptrV b1 0),(7,strV [b0,b1_,b2,b3,b4]),(9,intV (acc b1_ b2 b3 b4 i:Nat)),(10,intV (i:Int))]∧Sat W0 [Xb b1 (YK p (KD f)),XX p kp D,F]∧(i≤4)) (L0:=[(0,_),(1,_),(6,_),(7,_),(9,_),(10,_)]) (4) (TH Qa Qa Qa Qa Qa Qa) ⟨4,rfl,rfl,hS2.reorder [1,0,2] Qa, by omega⟩ ?_
 rintro _ _ w22 ⟨i,rfl,rfl,hS22,hi⟩
 refine Qf (Qf (Qb (Qe Qa Qa (Wr Qa Qa Qa (Qh (Qd (Qv Qa (fun h23=> ?_) (fun h23=> ?_))))))))
 ·obtain⟨c,hc⟩: ∃c,[b0,b1_,b2,b3,b4][i]? =some c:=⟨_,WY (by simp;omega)⟩
  have hacc:=RG (by omega) hi hc
  have hal:=Bx (b1:=b1_) (b2:=b2) (b3:=b3) (b4:=b4) (show 0<i by omega)
  have hcl:=GA c
  have hi1:((i -1:Nat):Int)=(i:Int) -1:= by omega
  refine Qt (Qd (Qf (QK (Qb (Qe Qa Qa (Mz 8 Qa Qa Qa Qa (q:=256) Qa (by omega) (by omega) Qa ?_))))))
  refine Qe Qa Qa (Qe Qa Qa (Wk _ underlying9 Qa Qa (by rfl) (by first | assumption | rfl) Qa ?_))
  refine Yx underlying5 underlying3 Qa Qa ?_
  refine PL 8 (acc b1_ b2 b3 b4 i) Qa Qa (by rfl) (by constructor<;>omega) (by omega) Qa ?_
  refine Qc Qa Qa (Qh (Qq (Qd (Qk [10,7,6,1,0,9] Qa (Qb (Qe Qa Qa (JH Qa Qa (by omega) (by omega) Qa ?_)))))))
  refine Qc Qa Qa (Qh ?_)
  exact Xj (L1:=[(0,_),(1,_),(6,_),(7,_),(9,intV ((acc b1_ b2 b3 b4 (i -1):Nat):Int)),(10,intV ((i -1:Nat):Int))]) (.cons Qa (.cons Qa (.cons Qa (.cons Qa (.cons (by rw[hacc];rfl) (.cons (by rw[hi1];rfl) .nil)))))) (k1:=1*(i -1)) (by omega) ⟨i -1,rfl,rfl,hS22, by omega⟩
 obtain rfl:i=0:= by omega
 refine X6 (Q6 (Q6 (QR (Qd (Qf (Qf (Qb (Qe Qa Qa (Wr Qa Qa Qa (Qh (Qd (Qv Qa (fun h24=> ?_) (fun h24=> ?_)))))))))))))
 ·refine Qf (Qb (Qc Qa Qa (Qc Qa Qa (Qh (Qd (Qk [9,7,6,1,0,4,5] Qa (Qo (Qm (Z8 (.inr Qa) Qa Qa Qa ?_)))))))))
  exact⟨_,rfl,.inr ⟨(Wu hE (by rw[←hH]; exact Yr hb0 (by rw[←Jc];omega))).1, by rw[(Wu hE (by rw[←hH]; exact Yr hb0 (by rw[←Jc];omega))).2],hS22.pick [1,2] Qa⟩⟩
 have hn:Uz b1_ b2 b3 b4≤65536:= by rw[←Jc];omega
 have hSl:J9 (Wx D f 0 5)= .slot b0.toNat (Uz b1_ b2 b3 b4):= by rw[←hH]; exact BY h12 hn
 rw[Jc]
 obtain⟨n,hN⟩: ∃n,n=Uz b1_ b2 b3 b4:=⟨_,rfl⟩
 rw[←hN]at hSl hn⊢
 have h12n:b0.toNat=1∨b0.toNat=2:= by rcases h12 with rfl | rfl<;> simp
 refine Qt (Qd (Qf (Qb (Qe Qa Qa (Qe Qa Qa (Wk _ underlying9 Qa Qa (by rfl) (by first | assumption | rfl) Qa ?_))))))
 refine Yx underlying5 underlying3 Qa Qa (Ql Qa Qa (Qi Qa Ju Qa ?_))
 first | (refine Qw hS22 Qa Qa WA (by rfl) (i:=0) Qa (QC Qa) ?_)
 intro w25 hS26; dsimp only[List.set]at hS26
 refine Qh (Qd (Qk [9,6,1,0] Qa (Qf (Qb (Qe Qa Qa (Qe Qa Qa (Qe Qa Qa (Qe Qa Qa (Ql Qa Qa (Qi Qa Ju Qa (Qr Qa QH (hS26.cell 0 Qa Qa) Qa (YY _ underlying132 Qa Qa (by rfl) (by omega) WA Qa ?_))))))))))))
 have hg:=(hG.sat hS26 2 Qa).off h12n
 refine Qr Qa QH (by assumption) Qa ?_
 refine Qe Qa Qa (Q0 Gr Qa (KX (hS26.sp [1] Qa) f (QG b0.toNat) n) Qa ?_)
 rintro _ w27 ⟨rfl,hS27⟩
 replace hS27:=hS27.jn Qa Qa
 have hE2:ZT D f (QG b0.toNat) n=0:=JG hE (WO _) (by omega)
 rw[hE2]
 refine Qe Qa Qa (Q7 Qa Qa Qa (Q7 Qa Qa Qa (Ql Qa Qa (Qi Qa Yk Qa ?_))))
 first | (refine Qw hS27 Qa Qa Hz (by rfl) (i:=1) Qa (QC Qa) ?_)
 intro w28 hS29; dsimp only[List.set]at hS29
 refine Qc Qa Qa (Qh ?_)
 have hE2:ZT D f (QG b0.toNat) n=0:=JG hE (WO _) (by omega)
 refine Qd (Qk [9,6,8] Qa (Qf (Qf (Qb (Qe Qa Qa (QL Qa Qa Qa (Qe Qa Qa (Q4 82 Qa (fun h30=> ?_) (fun h30=> ?_)))))))))
 ·refine Qj Qa Qa (QD h30) (Qe Qa Qa (Qj Qa Qa (QD h30) (Ql Qa Qa (Qj Qa Qa (QD h30) (Qi Qa Yk Qa (Qj Qa Qa (QD h30) (Qr Qa Zx (hS29.cell 1 Qa Qa) Qa (Qj Qa Qa (QD h30) (Zf underlying9 Qa Qa (Qj Qa Qa (QD h30) (Qe Qa Qa (Qj Qa Qa (QD h30) (X5 Qa Qa Qa (Q1 Qa (QD h30) Qa Qa (Qh (Qd (Qk [6,8,90] Qa (Qv Qa (fun h31=> ?_) (fun h31=> ?_)))))))))))))))))))
  ·refine Qb (Qc Qa Qa (Qh (Qd (Qf (Qf (Qb (Qe Qa Qa (Xu Qa Qa Qa (Qh (Qd (Qv Qa (fun h32=> ?_) (fun h32=> ?_))))))))))))
   ·exact Qf (Qb (Qe Qa Qa (Qc Qa Qa (Qc Qa Qa (Qh (Qd (Qo (Qm (Z8 (.inr Qa) Qa Qa Qa (⟨_,rfl,.inr ⟨(Hm hE hSl (by omega)).1, by rw[(Hm hE hSl (by omega)).2],hS29.pick [0,2] Qa⟩⟩))))))))))
   exact Qt (Qd (Qf (Qb (Qe Qa Qa (Qc Qa Qa (Qc Qa Qa (Qh (Qd (Qo (Z8 (.inr Qa) Qa Qa Qa (absurd (by decide) h32)))))))))))
  refine Qt (Qd (Qf (Qf (Qb (Qe Qa Qa (Xu Qa Qa Qa (Qh (Qd (Qv Qa (fun h33=> ?_) (fun h33=> ?_))))))))))
  ·exact Qf (Qb (Qe Qa Qa (Qc Qa Qa (Qc Qa Qa (Qh (Qd (Qo (Qm (Z8 (.inr Qa) Qa Qa Qa (absurd Qa h33))))))))))
  refine Qt (Qd (Qf (Qb (Qe Qa Qa (Qc Qa Qa (Qc Qa Qa (Qh (Qd (Qo (Z8 (.inr Qa) Qa Qa Qa ?_))))))))))
  exact⟨_,rfl,.inl ⟨(WP hE hSl (by omega)).1,_,rfl, by rw[(WP hE hSl (by omega)).2]; exact hS29.pick [1,0,2] Qa⟩⟩
 refine Qg Qa Qa (Qx h30) Qa (Qg Qa Qa (Qx h30) Qa (Qg Qa Qa (Qx h30) Qa (Qg Qa Qa (Qx h30) Qa (Qg Qa Qa (Qx h30) Qa (Qg Qa Qa (Qx h30) Qa (Qg Qa Qa (Qx h30) Qa (Q3 Qa (Qx h30) Qa Qa (Qh (Qd (Qk [6,8,90] Qa (QJ Qa (Qt (Qd (Qf (Qf (Qb (Qe Qa Qa (Xu Qa Qa Qa (Qh (Qd (Qv Qa (fun h34=> ?_) (fun h34=> ?_))))))))))))))))))))))
 ·exact Qf (Qb (Qe Qa Qa (Qc Qa Qa (Qc Qa Qa (Qh (Qd (Qo (Qm (Z8 (.inr Qa) Qa Qa Qa (absurd Qa h34))))))))))
 refine Qt (Qd (Qf (Qb (Qe Qa Qa (Qc Qa Qa (Qc Qa Qa (Qh (Qd (Qo (Z8 (.inr Qa) Qa Qa Qa ?_))))))))))
 exact⟨_,rfl,.inl ⟨(WP hE hSl (by omega)).1,_,rfl, by rw[(WP hE hSl (by omega)).2]; exact hS29.pick [1,0,2] Qa⟩⟩
theorem startK {w:World} {p:Nat} {kp:Value} {D:DS} {F:Th} (hS:Sat w [XX p kp D,F]):Calls prog 51 #[ptrV p 0] w (Ret fun v w'=>v= .tuple #[]∧Sat w' [XX p kp (Xv D),F]):=TU hS
theorem HF {w:World} {e:Nat} {E:EnD} {F:Th} (hS:Sat w [Xw e E,F]) (hG:Ent F WireG) (hO:Ent F (Glob 0)):
    Calls prog 12 #[ptrV e 0] w (Ret fun v w'=>v= .tuple #[intV (Zg E).1,intV (Zg E).2]∧Sat w' [Xw e E,F]):= by
 obtain⟨dp,cv,sv,ov,hS⟩:=QU hS
 obtain⟨kp,hkl,hS⟩:=Ur (hS.reorder [1,0,2,3,4,5] rfl)
 replace hS:=hS.reorder [2,0,1,3,4,5,6] Qa
 refine Qy func12 Qa ntmps12 Qa ?_
 refine Qf (Qb (Qc Qa Qa (Qc Qa Qa (Qh (Qd (Qf (Qb (Qe Qa Qa (Ql Qa Qa (Qi Qa HB Qa (Qr Qa HZ (hS.cell 0 Qa Qa) Qa (Q0 cal_50 Qa (copy_sp (hS.sp [1] Qa) (Ent.starL (GM (by omega)) 1 Qa)) Qa ?_))))))))))))
 rintro _ w1 ⟨p2,rfl,hS1⟩
 replace hS1:=hS1.jn Qa Qa
 refine Qc Qa Qa (Qh (Qd (Qf (Qb (Qe Qa Qa (Q0 Aw Qa (startK (hS1.sp [0] Qa)) Qa ?_))))))
 rintro _ w2 ⟨rfl,hS2⟩
 replace hS2:=hS2.jn Qa Qa
 refine Qh (Qd (Qk [2,3,4] Qa (Qf (Qb (Qe Qa Qa (YZ P6 Qa (opK_sp (hS2.sp [0] Qa) (hO.starL 6 Qa) 0) Qa ?_))))))
 rintro e w3 ⟨_,rfl,(⟨ho,cp,rfl,hS3⟩ | ⟨ho,rfl,hS3⟩)⟩
 ·refine⟨_,Qa, ?_⟩
  replace hS3:=hS3.jn Qa Qa
  have hck:=VT (Xv E.D) 0
  refine Qe Qa Qa (Q7 Qa Qa Qa (Q7 Qa Qa Qa (Qc Qa Qa (Qc Qa Qa (Qh (Qd (Qf (Qf (Qb (Qe Qa Qa (Xu Qa Qa Qa (Qh (Qd (Qk [2,3,5,20] Qa (Qv Qa (fun h4=> ?_) (fun h4=> ?_))))))))))))))))
  ·exact absurd Qa h4
  refine Qt (Qd (Qf (Qb (Qe Qa Qa (Q0 Av Qa (Cv (hS3.sp [0] Qa) (hG.starL 7 Qa) hck.2) Qa ?_)))))
  rintro _ w5 ⟨rfl,hS5⟩
  replace hS5:=hS5.jn Qa Qa
  refine Q7 Qa Qa Qa (Q7 Qa Qa Qa (Qc Qa Qa (Qc Qa Qa (Qh (Qd (Qo (Z8 (.inr Qa) Qa Qa Qa ?_)))))))
  exact⟨_,rfl, by unfold Zg; rw[if_pos ho],Qu (E:=E) ((R6 kp hkl (hS5.pick [2,4,3,5,6,7,8] Qa)).reorder [1,0,2,3,4,5] Qa)⟩
 refine⟨_,Qa, ?_⟩
 replace hS3:=hS3.jn Qa Qa
 refine Qe Qa Qa (Q7 Qa Qa Qa (Q7 Qa Qa Qa (Qc Qa Qa (Qc Qa Qa (Qh (Qd (Qf (Qf (Qb (Qe Qa Qa (Xu Qa Qa Qa (Qh (Qd (Qk [2,3,5,20] Qa (Qv Qa (fun h6=> ?_) (fun h6=> ?_))))))))))))))))
 ·refine Qf (Qb (Qc Qa Qa (Qc Qa Qa (Qh (Qd (Qo (Qm (Z8 (.inr Qa) Qa Qa Qa ?_))))))))
  exact⟨_,rfl, by unfold Zg; rw[if_neg ho],Qu (E:=E) ((R6 kp hkl (hS3.pick [1,3,2,4,5,6,7] Qa)).reorder [1,0,2,3,4,5] Qa)⟩
 exact absurd ho h6
