/- move: read, stop -/
import Derived.Test.YtiibgheijbbmaaaGreatDoorMv1
set_option linter.unusedVariables false
set_option maxRecDepth 100000
namespace Go.Proofs.YtiibgheijbbmaaaGreatDoor
open Go.RowKit M Proofs.Tryz
theorem Dq {s:Bs} (h:Xh (Zg 59 (-9223372036854775808:Int) (s,false))++Xh (Zg 59 (-9223372036854775808:Int) (Zd 59 (-9223372036854775808:Int) (s,false)))≠s∨Zg 59 (-9223372036854775808:Int) (s,false)<0∨4≤Zg 59 (-9223372036854775808:Int) (s,false)∨Zg 59 (-9223372036854775808:Int) (Zd 59 (-9223372036854775808:Int) (s,false))<0):Hr s=(0,0):= by unfold Hr; rw[if_pos h]
theorem Ob {s:Bs} (h1:Xh (Zg 59 (-9223372036854775808:Int) (s,false))++Xh (Zg 59 (-9223372036854775808:Int) (Zd 59 (-9223372036854775808:Int) (s,false)))=s) (h2: ¬Zg 59 (-9223372036854775808:Int) (s,false)<0) (h3: ¬4≤Zg 59 (-9223372036854775808:Int) (s,false)) (h4: ¬Zg 59 (-9223372036854775808:Int) (Zd 59 (-9223372036854775808:Int) (s,false))<0):Hr s=(Zg 59 (-9223372036854775808:Int) (s,false),Zg 59 (-9223372036854775808:Int) (Zd 59 (-9223372036854775808:Int) (s,false))):= by
  unfold Hr; rw[if_neg]; rintro(q | q | q | q)
  · exact q h1
  · exact h2 q
  · exact h3 q
  · exact h4 q
theorem Po {w:World} {c dp:Nat} {C:CS} {F:Th} (hS:Sat w [QR c (Hm dp C),F]) (hG:Ent F WireG) (hv:C.val.length≤20000000):
    Calls prog 53 #[ptrV c 0] w (Ret fun v w'=>v= .tuple #[intV (Hr C.val).1,intV (Hr C.val).2]∧Sat w' [QR c (Hm dp C),F]):= by
 refine Qx func53 Qa ntmps53 Qa ?_
 have hi0:=(WT (Ye 59 (-9223372036854775808:Int) (C.val,false))).1
 have hi1:=(WT (Ye 59 (-9223372036854775808:Int) (Zd 59 (-9223372036854775808:Int) (C.val,false)))).1
 refine Qg (Qb (Qc Qa Qa (Qc Qa Qa (Qh (Qd (Qg (Qb (Qe Qa Qa (Qz cal_89 Qa (get_sp (hS.sp [0] Qa)) Qa ?_)))))))))
 rintro _ w1 ⟨rfl,hS1⟩
 replace hS1:=hS1.jn Qa Qa
 refine Qe Qa Qa (Q6 Qa Qa Qa (Q6 Qa Qa Qa (Qc Qa Qa (Qc Qa Qa (Qh (Qd (Qg (Qb (Qe Qa Qa (Qz F8 Qa (DG (hS1.sp [] Qa) C.val) Qa ?_))))))))))
 rintro _ w2 ⟨rb,rfl,hS2⟩
 replace hS2:=hS2.jn Qa Qa
 refine Qc Qa Qa (Qh (Qd (Qk [2,3,4,6] Qa (Qg (Qb (Qe Qa Qa ?_))))))
 refine Qz Kt Qa (UE (hS2.sp [0] Qa) (hG.starL 1 Qa) (by(show C.val.length≤_;omega))) Qa ?_
 rintro _ w3 ⟨rfl,hS3⟩
 replace hS3:=hS3.jn Qa Qa
 refine Qe Qa Qa ?_
 refine Qz Kt Qa (UE (hS3.sp [0] Qa) (hG.starL 1 Qa) (by(have :=XI 59 (-9223372036854775808:Int) (C.val,false); have :(C.val,false).1.length=C.val.length:=rfl;omega))) Qa ?_
 rintro _ w4 ⟨rfl,hS4⟩
 replace hS4:=hS4.jn Qa Qa
 refine Qc Qa Qa (Qc Qa Qa (Qh (Qd (Qg (Qg (Qb (Qe Qa Qa (Qz Ux Qa (YS (hS4.sp [] Qa) (hG.starL 2 Qa) _ (Ye _ _ _)) Qa ?_))))))))
 rintro _ w5 ⟨rfl,hS5⟩
 replace hS5:=hS5.jn Qa Qa
 refine Qe Qa Qa (Qz Ux Qa (YS (hS5.sp [] Qa) (hG.starL 2 Qa) _ (Ye _ _ _)) Qa ?_)
 rintro _ w6 ⟨rfl,hS6⟩
 replace hS6:=hS6.jn Qa Qa
 refine Vb Qa Qa (by(simp;omega)) Qa ?_
 refine Qe Qa Qa (Ky Qa Qa Qa (Qe Qa Qa (Q4 27 Qa (fun h7=> ?_) (fun h7=> ?_))))
 ·have hne:=h7
  refine Qf Qa Qa (Q8 h7) Qa (Qf Qa Qa (Q8 h7) Qa (Q0 Qa (Q8 h7) Qa Qa (Qe Qa Qa (Qf Qa Qa Qa Qa (Qf Qa Qa Qa Qa (Q0 Qa Qa Qa Qa (Qe Qa Qa (Qf Qa Qa Qa Qa (Qf Qa Qa Qa Qa (Q0 Qa Qa Qa Qa (Qh (Qd (Qk [2,3,7,8,38] Qa (QO Qa (Qg (Qb (Qc Qa Qa (Qc Qa Qa (Qh (Qd (Qo (Qm (ZG (.inr Qa) Qa Qa Qa ?_)))))))))))))))))))))))
  exact⟨_,rfl, by rw[Dq (by first | exact .inl hne | (refine .inr ?_;omega))],hS6.pick [1,2] Qa⟩
 have heq:=Decidable.not_not.1 h7
 refine Qj Qa Qa (Qw h7) (Qe Qa Qa (Qj Qa Qa (Qw h7) (X0 Qa Qa Qa (Q1 Qa (Qw h7) Qa Qa (Qe Qa Qa (Q4 31 Qa (fun h8=> ?_) (fun h8=> ?_)))))))
 ·refine Qf Qa Qa (Q8 h8) Qa (Qf Qa Qa (Q8 h8) Qa (Q0 Qa (Q8 h8) Qa Qa (Qe Qa Qa (Qf Qa Qa Qa Qa (Qf Qa Qa Qa Qa (Q0 Qa Qa Qa Qa (Qh (Qd (Qk [2,3,7,8,38] Qa (QO Qa (Qg (Qb (Qc Qa Qa (Qc Qa Qa (Qh (Qd (Qo (Qm (ZG (.inr Qa) Qa Qa Qa ?_)))))))))))))))))))
  exact⟨_,rfl, by rw[Dq (by first | exact .inl hne | (refine .inr ?_;omega))],hS6.pick [1,2] Qa⟩
 refine Qj Qa Qa (Qw h8) (Qe Qa Qa (Qj Qa Qa (Qw h8) (WX Qa Qa Qa (Q1 Qa (Qw h8) Qa Qa (Qe Qa Qa (Q4 35 Qa (fun h9=> ?_) (fun h9=> ?_)))))))
 ·refine Qf Qa Qa (Q8 h9) Qa (Qf Qa Qa (Q8 h9) Qa (Q0 Qa (Q8 h9) Qa Qa (Qh (Qd (Qk [2,3,7,8,38] Qa (QO Qa (Qg (Qb (Qc Qa Qa (Qc Qa Qa (Qh (Qd (Qo (Qm (ZG (.inr Qa) Qa Qa Qa ?_)))))))))))))))
  exact⟨_,rfl, by rw[Dq (by first | exact .inl hne | (refine .inr ?_;omega))],hS6.pick [1,2] Qa⟩
 refine Qj Qa Qa (Qw h9) (Qe Qa Qa (Qj Qa Qa (Qw h9) (X0 Qa Qa Qa (Q1 Qa (Qw h9) Qa Qa (Qh (Qd (Qk [2,3,7,8,38] Qa (Qt Qa (fun h10=> ?_) (fun h10=> ?_)))))))))
 ·refine Qg (Qb (Qc Qa Qa (Qc Qa Qa (Qh (Qd (Qo (Qm (ZG (.inr Qa) Qa Qa Qa ?_))))))))
  exact⟨_,rfl, by rw[Dq (by first | exact .inl hne | (refine .inr ?_;omega))],hS6.pick [1,2] Qa⟩
 exact Qr (Qd (Qg (Qb (Qe Qa Qa (Qe Qa Qa (Qc Qa Qa (Qc Qa Qa (Qh (Qd (Qo (ZG (.inr Qa) Qa Qa Qa (⟨_,rfl, by rw[Ob heq (by omega) (by omega) (by omega)],hS6.pick [1,2] Qa⟩))))))))))))
theorem FU {w:World} {e:Nat} {E:EnD} {F:Th} (hS:Sat w [Xu e E,F]):
    Calls prog 84 #[ptrV e 0] w (Ret fun v w'=>v= .tuple #[]∧Sat w' [Xu e (BM E),F]):= by
 obtain⟨dp,cv,sv,ov,hS⟩:=QQ hS
 refine Qx func84 Qa ntmps84 Qa ?_
 refine Qb (Qe Qa Qa (Qe Qa Qa (Ql Qa Qa (Qi Qa HZ Qa (Qq Qa U2 (hS.cell 0 Qa Qa) Qa (Zi Qa La IP zr_81 Qa Qa (Ql Qa Qa ?_)))))))
 first | (refine QZ hS Qa Qa sz_81 Qa (by rfl) (i:=0) Qa (Xd Qa) ?_)
 intro w1 hS2; dsimp only[List.set]at hS2
 exact Qh (Y4 (.inl Qa) Qa (⟨_,Qa,Qa,Qv (E:=BM E) (dp:=dp) (cv:= .pointer none) (sv:= .pointer none) (ov:= .pointer none) ((Rd (dp:=dp) (ZQ (Wd (hS2.pick [0,1,5] Qa)))).reorder [3,4,0,1,2,5] Qa)⟩))
section
variable {E:EnD} {C:CS} {k m:Int}
theorem Bj (hC:E.cell=some C) (h:(Z5 E.D C (Xh k++Xh m)).e≠0):QU E k m=((Z5 E.D C (Xh k++Xh m)).e,BM {E with D:=(Z5 E.D C (Xh k++Xh m)).D,cell:=some (Z5 E.D C (Xh k++Xh m)).C}):= by unfold QU; rw[hC]; dsimp only; rw[if_pos h];rfl
theorem Kf (hC:E.cell=some C) (h:(Z5 E.D C (Xh k++Xh m)).e=0):QU E k m=(0,{E with D:=(Z5 E.D C (Xh k++Xh m)).D,cell:=some (Z5 E.D C (Xh k++Xh m)).C,kind:=k,move:=m}):= by unfold QU; rw[hC]; dsimp only; rw[if_neg (by omega)]
end
theorem UH {w:World} {e:Nat} {E:EnD} {F:Th} (hS:Sat w [Xu e E,F]) (hG:Ent F WireG) (hO:Ent F (Glob 0)) (hu:E.cell≠none) {k m:Int} (hk:X5 k) (hm:X5 m):
    Calls prog 59 #[ptrV e 0,intV k,intV m] w (Ret fun v w'=>v=intV (QU E k m).1∧Sat w' [Xu e (QU E k m).2,F]):= by
 obtain⟨dp,cv,sv,ov,hS⟩:=QQ hS
 obtain⟨C,hC⟩:=Option.ne_none_iff_exists'.1 hu
 rw[hC]at hS
 obtain⟨cp,rfl,hsl,hS⟩:=MQ (hS.reorder [2,0,1,3,4,5] rfl)
 refine Qx func59 Qa ntmps59 Qa ?_
 have hi0:=(WT hk).1
 have hi1:=(WT hm).1
 refine Qg (Qb (Qc Qa Qa (Qh (Qd (Qg (Qg ?_))))))
 have hS1:=hS.drew
 refine QM [0,1,2,3,4,6,5,7,8,9,10] [5,7,9] Wv (by kernel_rfl) ?_
 refine QK Qa Qa Qa (Xm Qa Qa Qa (QN Qa Qa Qa Dv (Q9 Qa Qa Qa (Qn Qa LR (hS1.cell 1 Qa Qa)) (QK Qa Qa Qa (QK Qa Qa Qa (QS Qa Qa Qa Qa Qa Qa ?_))))))
 refine Qz Ux Qa (YS (hS1.sp [] Qa) (hG.starL 5 Qa) k hk) Qa ?_
 rintro _ w2 ⟨rfl,hS2⟩
 replace hS2:=hS2.jn Qa Qa
 refine Xe (.cons (.inl ⟨Qa,(Qn Qa LR (hS2.cell 1 Qa Qa))⟩) .nil) (QS Qa Qa Qa Qa Qa Qa ?_)
 refine Qz Ux Qa (YS (hS2.sp [] Qa) (hG.starL 5 Qa) m hm) Qa ?_
 rintro _ w3 ⟨rfl,hS3⟩
 replace hS3:=hS3.jn Qa Qa
 refine Xe (.cons (.inl ⟨Qa,(Qn Qa LR (hS3.cell 1 Qa Qa))⟩) .nil) ?_
 refine QC Qa Qa Qa (fun _=>(YO Qa Qa (by(simp;omega)))) ?_
 refine QS Qa Qa Qa Qa Qa Qa ?_
 refine Qz cal_95 Qa (set_sp (hS3.sp [0,2] Qa) (hO.starL 3 Qa) hsl.1 (Xh k++Xh m)) Qa ?_
 rintro _ w4 ⟨rfl,hS4⟩
 replace hS4:=hS4.jn Qa Qa
 refine Xe (Xp (by kernel_rfl)) ?_
 refine WY Qa Qa Qa (VC.nil (Qd (Qk [2,1,0,6,7] Qa (Qg (Qb (Qe Qa Qa (Xr Qa Qa Qa (Qh (Qd (Qt Qa (fun h5=> ?_) (fun h5=> ?_)))))))))))
 ·have hbad:(Z5 E.D C (Xh k++Xh m)).e≠0:=h5
  refine Qg ?_
  have hS6:=Qv (E:={E with D:=(Z5 E.D C (Xh k++Xh m)).D,cell:=some (Z5 E.D C (Xh k++Xh m)).C}) (dp:=dp) ((Uw (C:=(Z5 E.D C (Xh k++Xh m)).C) (NU hsl) (hS4.pick [0,2,1,3,4,5] Qa)).reorder [1,2,0,3,4,5] Qa)
  refine Qb (Qe Qa Qa (Qz I1 Qa (FU (hS6.sp [0] Qa)) Qa ?_))
  rintro _ w7 ⟨rfl,hS7⟩
  replace hS7:=hS7.jn Qa Qa
  refine Qh (Qd (Qg (Qb (Qe Qa Qa (Qc Qa Qa (Qh (Qd (Qo (Qm (Q5 (.inr Qa) Qa Qa ?_))))))))))
  exact⟨_,rfl, by rw[Bj hC hbad], by rw[Bj hC hbad]; exact hS7.pick [0,1] Qa⟩
 have hgood:(Z5 E.D C (Xh k++Xh m)).e=0:=Decidable.not_not.1 h5
 refine Qr (Qd (Qg (Qb (Qe Qa Qa (Qe Qa Qa (Qe Qa Qa (Qe Qa Qa (Ql Qa Qa (Qi Qa Zv Qa ?_)))))))))
 (refine Q7 hS4 Qa Qa Ya (by rfl) (i:=2) Qa (Xd Qa) ?_)
 intro w8 hS9; dsimp only[List.set]at hS9
 refine Ql Qa Qa (Qi Qa W5 Qa ?_)
 (refine Q7 hS9 Qa Qa Ya (by rfl) (i:=2) Qa (Xd Qa) ?_)
 intro w10 hS11; dsimp only[List.set]at hS11
 refine Qh (Qd (Qk [6] Qa (Qg (Qb (Qc Qa Qa (Qh (Qd (Qo (Q5 (.inr Qa) Qa Qa ?_)))))))))
 exact⟨_,rfl, by rw[Kf hC hgood], by rw[Kf hC hgood]; exact Qv (E:={E with D:=(Z5 E.D C (Xh k++Xh m)).D,cell:=some (Z5 E.D C (Xh k++Xh m)).C,kind:=k,move:=m}) (dp:=dp) ((Uw (C:=(Z5 E.D C (Xh k++Xh m)).C) (NU hsl) (hS11.pick [0,2,1,3,4,5] Qa)).reorder [1,2,0,3,4,5] Qa)⟩
theorem Ca {w:World} {e:Nat} {E:EnD} {F:Th} (hS:Sat w [Xu e E,F]) {kv:Value} {ks:List Int} (hK:Ent F (RdI kv ks)):
    Calls prog 47 #[ptrV e 0,kv] w (Ret fun v w'=>v= .tuple #[]∧Sat w' [Xu e (Kr E ks),F]):= by
 obtain⟨dp,cv,sv,ov,hS⟩:=QQ hS
 refine Qx func47 Qa ntmps47 Qa ?_
 refine Qg (Qb (Qe Qa Qa (Ql Qa Qa (Qi Qa HZ Qa (Qq Qa U2 (hS.cell 0 Qa Qa) Qa (Qe Qa Qa (Qz F6 Qa (crashT (hS.sp [1] Qa) (hK.starL 4 Qa)) Qa ?_)))))))
 rintro _ w1 ⟨rfl,hS1⟩
 replace hS1:=hS1.jn Qa Qa
 refine Qh (Qd ?_)
 have hS2:=Qv (E:={E with D:=ZO E.D ks}) (hS1.pick [1,0,2,3,4,5] Qa)
 refine Qb (Qe Qa Qa (Qz I1 Qa (FU (hS2.sp [0] Qa)) Qa ?_))
 rintro _ w3 ⟨rfl,hS3⟩
 replace hS3:=hS3.jn Qa Qa
 exact Qh (Y4 (.inl Qa) Qa (⟨_,Qa,Qa,hS3.pick [0,1] Qa⟩))
theorem Sk {w:World} {e:Nat} {E:EnD} {F:Th} (hS:Sat w [Xu e E,F]) (n:Int) (hn:n≤9223372036854775807):
    Calls prog 16 #[ptrV e 0,intV n] w (Ret fun v w'=>v= .tuple #[]∧Sat w' [Xu e {E with D:={E.D with lost:=max n 0}},F]):= by
 obtain⟨dp,cv,sv,ov,hS⟩:=QQ hS
 refine Qx func16 Qa ntmps16 Qa ?_
 refine Qb (Qe Qa Qa (Ql Qa Qa (Qi Qa HZ Qa (Qq Qa U2 (hS.cell 0 Qa Qa) Qa (Qe Qa Qa (Qz cal_55 Qa (loseT (hS.sp [1] Qa) n hn) Qa ?_))))))
 rintro _ w1 ⟨rfl,hS1⟩
 replace hS1:=hS1.jn Qa Qa
 exact Qh (Y4 (.inl Qa) Qa (⟨_,Qa,Qa,Qv (E:={E with D:={E.D with lost:=max n 0}}) (hS1.pick [1,0,2,3,4,5] Qa)⟩))
theorem L6 {w:World} {e:Nat} {E:EnD} {F:Th} (hS:Sat w [Xu e E,F]) {kv:Value} {ks:List Int} (hK:Ent F (RdI kv ks)) (n:Int) (hn:n≤9223372036854775807) (hl:ks.length≤1000):
    Calls prog 17 #[ptrV e 0,intV n,kv] w (Ret fun v w'=>v= .tuple #[]∧Sat w' [Xu e {E with D:=MU E.D n ks},F]):= by
 obtain⟨dp,cv,sv,ov,hS⟩:=QQ hS
 refine Qx func17 Qa ntmps17 Qa ?_
 refine Qb (Qe Qa Qa (Ql Qa Qa (Qi Qa HZ Qa (Qq Qa U2 (hS.cell 0 Qa Qa) Qa (Qe Qa Qa (Qe Qa Qa (Qz cal_56 Qa (armT (hS.sp [1] Qa) n hn (hK.starL 4 Qa) hl) Qa ?_)))))))
 rintro _ w1 ⟨rfl,hS1⟩
 replace hS1:=hS1.jn Qa Qa
 exact Qh (Y4 (.inl Qa) Qa (⟨_,Qa,Qa,Qv (E:={E with D:=MU E.D n ks}) (hS1.pick [1,0,2,3,4,5] Qa)⟩))
theorem opK_sp {w:World} {p:Nat} {kp:Value} {D:DS} {F:Th} (hS:Sat w [Zo p kp D,F]) (hG:Ent F (Glob 0)) (f:Int):
    Calls prog 52 #[ptrV p 0,intV f] w (Ret fun v w'=>(W3 D f=0∧ ∃c,v= .tuple #[ptrV c 0,intV 0]∧Sat w' [QR c (Hm p (J3 D f)),Zo p kp D,F])∨(W3 D f≠0∧v= .tuple #[.pointer none,intV (W3 D f)]∧Sat w' [Zo p kp D,F])):= by
 refine Qx func52 Qa ntmps52 Qa ?_
 refine Qg (Qb (Qc Qa Qa (Qc Qa Qa (Qh (Qd (Qg (Qb (Qe Qa Qa (Qe Qa Qa (Zi Qa Mm LK A0 Qa Qa (XT hS Qa Qa Qa ?_)))))))))))
 intro b1 w1 hS1
 refine Qc Qa Qa (Qh (Qd (Qg (Qb (Qe Qa Qa (Qe Qa Qa (Qz B0 Qa (Gc (hS1.sp [1] Qa) f 0 5) Qa ?_)))))))
 rintro _ w2 ⟨rfl,hS2⟩
 replace hS2:=hS2.jn Qa Qa
 refine Qe Qa Qa (Q6 Qa Qa Qa (Q6 Qa Qa Qa (Qc Qa Qa (Qc Qa Qa (Qh ?_)))))
 obtain⟨h,hH⟩: ∃h,h=WG D f 0 5:=⟨_,rfl⟩
 rw[←hH]
 have hh5:(h.length:Int)≤5:= by have :=BB (D:=D) (f:=f) (a:=0) (n:=5); rw[←hH]at this;omega
 refine Qd (Qk [1,0,4,5,6,7,8] Qa (Qg (Qg (Qb (Qe Qa Qa (Xr Qa Qa Qa (Qh (Qd (Qt Qa (fun h3=> ?_) (fun h3=> ?_))))))))))
 ·have hE:Wf D f 0 5≠0:=h3
  exact Qg (Qb (Qe Qa Qa (Qc Qa Qa (Qc Qa Qa (Qh (Qd (Qo (Qm (ZG (.inr Qa) Qa Qa Qa (⟨_,rfl,.inr ⟨(Gg hE).1, by rw[(Gg hE).2],hS2.pick [0,2] Qa⟩⟩))))))))))
 have hE:Wf D f 0 5=0:=Decidable.not_not.1 h3
 refine Qr (Qd (Qg (Qg (Qb (Qe Qa Qa (Kz Qa Qa Qa (Qe Qa Qa (Q4 26 Qa (fun h4=> ?_) (fun h4=> ?_)))))))))
 ·have hh0:h=[]:=h4
  refine Qf Qa Qa (Q8 h4) Qa (Qf Qa Qa (Q8 h4) Qa (Qf Qa Qa (Q8 h4) Qa (Q0 Qa (Q8 h4) Qa Qa (Qh (Qd (Qk [1,0,4,5,6,7,8,30] Qa (QO Qa (Qg (Qb (Qe Qa Qa (Qc Qa Qa (Qc Qa Qa (Qh (Qd (Qo (Qm (ZG (.inr Qa) Qa Qa Qa ?_)))))))))))))))))
  subst hh0
  exact⟨_,rfl,.inl ⟨(Yd hE (by rw[←hH]; exact J5 (.inl Qa))).1,_,rfl, by rw[(Yd hE (by rw[←hH]; exact J5 (.inl Qa))).2]; exact hS2.pick [1,0,2] Qa⟩⟩
 obtain⟨b0,r,rfl⟩:=List.exists_cons_of_ne_nil h4
 refine Qj Qa Qa (Qw h4) (Qe Qa Qa (Qj Qa Qa (Qw h4) (Wx _ underlying9 Qa Qa (by rfl) (by rfl) rfl ?_)))
 refine Qj Qa Qa (Qw h4) (QL Qa Qa Qa (Q1 Qa (Qw h4) Qa Qa (Qh (Qd (Qk [1,0,4,5,6,7,8,30] Qa (Qt Qa (fun h5=> ?_) (fun h5=> ?_)))))))
 ·have hb00:b0=0:=T0 (k:=0) (by omega) h5
  refine Qg (Qb (Qe Qa Qa (Qc Qa Qa (Qc Qa Qa (Qh (Qd (Qo (Qm (ZG (.inr Qa) Qa Qa Qa ?_)))))))))
  exact⟨_,rfl,.inl ⟨(Yd hE (by rw[←hH]; exact J5 (.inr ⟨r, by rw[hb00]⟩))).1,_,rfl, by rw[(Yd hE (by rw[←hH]; exact J5 (.inr ⟨r, by rw[hb00]⟩))).2]; exact hS2.pick [1,0,2] Qa⟩⟩
 have hb0:b0≠0:=Tz (k:=0) (by omega) h5
 refine Qr (Qd (Qg (Qg (Qb (Qe Qa Qa (Zu underlying9 Qa Qa (X0 Qa Qa Qa (Qe Qa Qa (Q4 35 Qa (fun h6=> ?_) (fun h6=> ?_))))))))))
 ·have hlen5:=h6
  refine Qf Qa Qa (Q8 h6) Qa (Qf Qa Qa (Q8 h6) Qa (Qf Qa Qa (Q8 h6) Qa (Qf Qa Qa (Q8 h6) Qa (QG Qa Qa Qa (QG Qa Qa Qa (QG Qa Qa Qa (Qf Qa Qa (Q8 h6) Qa (Q0 Qa (Q8 h6) Qa Qa (Qh (Qd (Qk [1,0,4,5,6,7,8,44] Qa (QO Qa (Qg (Qb (Qc Qa Qa (Qc Qa Qa (Qh (Qd (Qo (Qm (ZG (.inr Qa) Qa Qa Qa ?_)))))))))))))))))))))
  exact⟨_,rfl,.inr ⟨(WD hE (by rw[←hH]; exact Uc hb0 (by simp at hlen5;omega))).1, by rw[(WD hE (by rw[←hH]; exact Uc hb0 (by simp at hlen5;omega))).2],hS2.pick [0,2] Qa⟩⟩
 have hlen5:r.length=4:= by simp at hh5; have :=h6; simp at this;omega
 obtain⟨b1_,b2,b3,b4,rfl⟩: ∃b1 b2 b3 b4,r=[b1,b2,b3,b4]:= by match r,hlen5 with | [b1,b2,b3,b4],_=> exact⟨_,_,_,_,rfl⟩
 refine Qj Qa Qa (Qw h6) (Qe Qa Qa (Qj Qa Qa (Qw h6) (Wx _ underlying9 Qa Qa (by rfl) (by rfl) rfl ?_)))
 refine Qj Qa Qa (Qw h6) (Xr Qa Qa Qa (Qj Qa Qa (Qw h6) (Qe Qa Qa (Q4 39 Qa (fun h7=> ?_) (fun h7=> ?_)))))
 ·have hn1:=Tz (k:=1) (by omega) h7
  refine Qj Qa Qa (Q8 h7) (Qe Qa Qa (Qj Qa Qa (Q8 h7) (Wx _ underlying9 Qa Qa (by rfl) (by rfl) rfl ?_)))
  refine Qj Qa Qa (Q8 h7) (Xr Qa Qa Qa (Qj Qa Qa (Qw h6) (Q0 Qa (Q8 h7) Qa Qa (Q1 Qa (Qw h6) Qa Qa (Qh (Qd (Qk [1,0,4,5,6,7,8,44] Qa (Qt Qa (fun h8=> ?_) (fun h8=> ?_)))))))))
  ·have hn2:=Tz (k:=2) (by omega) h8
   refine Qg (Qb (Qc Qa Qa (Qc Qa Qa (Qh (Qd (Qo (Qm (ZG (.inr Qa) Qa Qa Qa ?_))))))))
   exact⟨_,rfl,.inr ⟨(WD hE (by rw[←hH]; exact Y9 hb0 (by rintro⟨h12,_⟩; rcases h12 with rfl | rfl<;>simp_all))).1, by rw[(WD hE (by rw[←hH]; exact Y9 hb0 (by rintro⟨h12,_⟩; rcases h12 with rfl | rfl<;>simp_all))).2],hS2.pick [0,2] rfl⟩⟩
  have h12:b0=1∨b0=2:= .inr (T0 (k:=2) (by omega) (Decidable.not_not.1 h8))
  refine Qr (Qd (Qg (Qb (Qc Qa Qa (Qh (Qd (Qg (Qg (Qb (Qc Qa Qa (Qh (Qd (QD ?_)))))))))))))
  refine X8 (fun K0 E0 W0=> ∃(i:Nat),K0=1*i∧E0=[(0,ptrV p 0),(1,intV f),(6,ptrV b1 0),(7,strV [b0,b1_,b2,b3,b4]),(9,intV (acc b1_ b2 b3 b4 i:Nat)),(10,intV (i:Int))]∧Sat W0 [QR b1 (Hm p (RB f)),Zo p kp D,F]∧(i≤4)) (L0:=[(0,_),(1,_),(6,_),(7,_),(9,_),(10,_)]) (4) (RM Qa Qa Qa Qa Qa Qa) ⟨4,rfl,rfl,hS2.reorder [1,0,2] Qa, by omega⟩ ?_
  rintro _ _ w9 ⟨i,rfl,rfl,hS9,hi⟩
  refine Qg (Qg (Qb (Qe Qa Qa (Wl Qa Qa Qa (Qh (Qd (Qt Qa (fun h10=> ?_) (fun h10=> ?_))))))))
  ·obtain⟨c,hc⟩: ∃c,[b0,b1_,b2,b3,b4][i]? =some c:=⟨_,WB (by simp;omega)⟩
   have hacc:=GP (by omega) hi hc
   have hal:=DA (b1:=b1_) (b2:=b2) (b3:=b3) (b4:=b4) (show 0<i by omega)
   have hcl:=BJ c
   have hi1:((i -1:Nat):Int)=(i:Int) -1:= by omega
   refine Qr (Qd (Qg (QD (Qb (Qe Qa Qa (Ci 8 Qa Qa Qa Qa (q:=256) Qa (by omega) (by omega) Qa ?_))))))
   refine Qe Qa Qa (Qe Qa Qa (Wx _ underlying9 Qa Qa (by first | rfl | omega) (by first | assumption | rfl) Qa ?_))
   refine YI underlying5 underlying3 Qa Qa ?_
   refine FN 8 (acc b1_ b2 b3 b4 i) Qa Qa (by rfl) (by constructor<;>omega) (by omega) Qa ?_
   refine Qc Qa Qa (Qh (Qp (Qd (Qk [10,7,6,1,0,9] Qa (Qb (Qe Qa Qa (JZ Qa Qa (by omega) (by omega) Qa ?_)))))))
   refine Qc Qa Qa (Qh ?_)
   exact Xa (L1:=[(0,_),(1,_),(6,_),(7,_),(9,intV ((acc b1_ b2 b3 b4 (i -1):Nat):Int)),(10,intV ((i -1:Nat):Int))]) (.cons Qa (.cons Qa (.cons Qa (.cons Qa (.cons (by rw[hacc];rfl) (.cons (by rw[hi1];rfl) .nil)))))) (k1:=1*(i -1)) (by omega) ⟨i -1,rfl,rfl,hS9, by omega⟩
  obtain rfl:i=0:= by omega
  refine Xq (Q2 (Q2 (QH (Qd (Qg (Qg (Qb (Qe Qa Qa (Wl Qa Qa Qa (Qh (Qd (Qt Qa (fun h11=> ?_) (fun h11=> ?_)))))))))))))
  ·refine Qg (Qb (Qc Qa Qa (Qc Qa Qa (Qh (Qd (Qk [9,7,6,1,0,4,5] Qa (Qo (Qm (ZG (.inr Qa) Qa Qa Qa ?_)))))))))
   exact⟨_,rfl,.inr ⟨(WD hE (by rw[←hH]; exact Y9 hb0 (by rw[←Jq];omega))).1, by rw[(WD hE (by rw[←hH]; exact Y9 hb0 (by rw[←Jq];omega))).2],hS9.pick [1,2] Qa⟩⟩
  have hn:UV b1_ b2 b3 b4≤65536:= by rw[←Jq];omega
  have hSl:JQ (WG D f 0 5)= .slot b0.toNat (UV b1_ b2 b3 b4):= by rw[←hH]; exact MA h12 hn
  rw[Jq]
  obtain⟨n,hN⟩: ∃n,n=UV b1_ b2 b3 b4:=⟨_,rfl⟩
  rw[←hN]at hSl hn⊢
  have h12n:b0.toNat=1∨b0.toNat=2:= by rcases h12 with rfl | rfl<;> simp
  refine Qr (Qd (Qg (Qb (Qe Qa Qa (Qe Qa Qa (Wx _ underlying9 Qa Qa (by first | rfl | omega) (by first | assumption | rfl) Qa ?_))))))
  refine YI underlying5 underlying3 Qa Qa (Ql Qa Qa (Qi Qa J7 Qa ?_))
  first | (refine Q7 hS9 Qa Qa Ya (by rfl) (i:=0) Qa (Xd Qa) ?_)
  intro w12 hS13; dsimp only[List.set]at hS13
  refine Qh (Qd (Qk [9,6,1,0] Qa (Qg (Qb (Qe Qa Qa (Qe Qa Qa (Qe Qa Qa (Qe Qa Qa (Ql Qa Qa (Qi Qa J7 Qa (Qq Qa QF (hS13.cell 0 Qa Qa) Qa (Hv _ underlying132 Qa Qa (by rfl) (by omega) Ya Qa ?_))))))))))))
  have hg:=(hG.sat hS13 2 Qa).off h12n
  refine Qq Qa QF (by assumption) Qa ?_
  refine Qe Qa Qa (Qz B0 Qa (Gc (hS13.sp [1] Qa) f (QJ b0.toNat) n) Qa ?_)
  rintro _ w14 ⟨rfl,hS14⟩
  replace hS14:=hS14.jn Qa Qa
  have hE2:Wf D f (QJ b0.toNat) n=0:=JY hE (Jf _) (by omega)
  rw[hE2]
  refine Qe Qa Qa (Q6 Qa Qa Qa (Q6 Qa Qa Qa (Ql Qa Qa (Qi Qa Y3 Qa ?_))))
  first | (refine Q7 hS14 Qa Qa R2 (by rfl) (i:=1) Qa (Xd Qa) ?_)
  intro w15 hS16; dsimp only[List.set]at hS16
  refine Qc Qa Qa (Qh ?_)
  have hE2:Wf D f (QJ b0.toNat) n=0:=JY hE (Jf _) (by omega)
  refine Qd (Qk [9,6,8] Qa (Qg (Qg (Qb (Qe Qa Qa (QL Qa Qa Qa (Qe Qa Qa (Q4 82 Qa (fun h17=> ?_) (fun h17=> ?_)))))))))
  ·refine Qj Qa Qa (Q8 h17) (Qe Qa Qa (Qj Qa Qa (Q8 h17) (Ql Qa Qa (Qj Qa Qa (Q8 h17) (Qi Qa Y3 Qa (Qj Qa Qa (Q8 h17) (Qq Qa Zr (hS16.cell 1 Qa Qa) Qa (Qj Qa Qa (Q8 h17) (Zu underlying9 Qa Qa (Qj Qa Qa (Q8 h17) (Qe Qa Qa (Qj Qa Qa (Q8 h17) (X0 Qa Qa Qa (Q0 Qa (Q8 h17) Qa Qa (Qh (Qd (Qk [6,8,90] Qa (Qt Qa (fun h18=> ?_) (fun h18=> ?_)))))))))))))))))))
   ·refine Qb (Qc Qa Qa (Qh (Qd (Qg (Qg (Qb (Qe Qa Qa (Xr Qa Qa Qa (Qh (Qd (Qt Qa (fun h19=> ?_) (fun h19=> ?_))))))))))))
    ·exact Qg (Qb (Qe Qa Qa (Qc Qa Qa (Qc Qa Qa (Qh (Qd (Qo (Qm (ZG (.inr Qa) Qa Qa Qa (⟨_,rfl,.inr ⟨(H9 hE hSl (by omega)).1, by rw[(H9 hE hSl (by omega)).2],hS16.pick [0,2] Qa⟩⟩))))))))))
    exact Qr (Qd (Qg (Qb (Qe Qa Qa (Qc Qa Qa (Qc Qa Qa (Qh (Qd (Qo (ZG (.inr Qa) Qa Qa Qa (absurd (by decide) h19)))))))))))
   refine Qr (Qd (Qg (Qg (Qb (Qe Qa Qa (Xr Qa Qa Qa (Qh (Qd (Qt Qa (fun h20=> ?_) (fun h20=> ?_))))))))))
   ·exact Qg (Qb (Qe Qa Qa (Qc Qa Qa (Qc Qa Qa (Qh (Qd (Qo (Qm (ZG (.inr Qa) Qa Qa Qa (absurd Qa h20))))))))))
   refine Qr (Qd (Qg (Qb (Qe Qa Qa (Qc Qa Qa (Qc Qa Qa (Qh (Qd (Qo (ZG (.inr Qa) Qa Qa Qa ?_))))))))))
   exact⟨_,rfl,.inl ⟨(Jg hE hSl (by omega)).1,_,rfl, by rw[(Jg hE hSl (by omega)).2]; exact hS16.pick [1,0,2] Qa⟩⟩
  refine Qf Qa Qa (Qw h17) Qa (Qf Qa Qa (Qw h17) Qa (Qf Qa Qa (Qw h17) Qa (Qf Qa Qa (Qw h17) Qa (Qf Qa Qa (Qw h17) Qa (Qf Qa Qa (Qw h17) Qa (Qf Qa Qa (Qw h17) Qa (Q1 Qa (Qw h17) Qa Qa (Qh (Qd (Qk [6,8,90] Qa (QI Qa (Qr (Qd (Qg (Qg (Qb (Qe Qa Qa (Xr Qa Qa Qa (Qh (Qd (Qt Qa (fun h21=> ?_) (fun h21=> ?_))))))))))))))))))))))
  ·exact Qg (Qb (Qe Qa Qa (Qc Qa Qa (Qc Qa Qa (Qh (Qd (Qo (Qm (ZG (.inr Qa) Qa Qa Qa (absurd Qa h21))))))))))
  refine Qr (Qd (Qg (Qb (Qe Qa Qa (Qc Qa Qa (Qc Qa Qa (Qh (Qd (Qo (ZG (.inr Qa) Qa Qa Qa ?_))))))))))
  exact⟨_,rfl,.inl ⟨(Jg hE hSl (by omega)).1,_,rfl, by rw[(Jg hE hSl (by omega)).2]; exact hS16.pick [1,0,2] Qa⟩⟩
 have h12:b0=1∨b0=2:= .inl (T0 (k:=1) (by omega) (Decidable.not_not.1 h7))
 refine Qf Qa Qa (Qw h7) Qa (Qf Qa Qa (Qw h7) Qa (Qf Qa Qa (Qw h7) Qa (Qj Qa Qa (Qw h6) (Q1 Qa (Qw h7) Qa Qa (Q1 Qa (Qw h6) Qa Qa (Qh (Qd (Qk [1,0,4,5,6,7,8,44] Qa (QI Qa (Qr (Qd (Qg (Qb (Qc Qa Qa (Qh (Qd (Qg (Qg (Qb (Qc Qa Qa (Qh (Qd (QD ?_)))))))))))))))))))))))
 refine X8 (fun K0 E0 W0=> ∃(i:Nat),K0=1*i∧E0=[(0,ptrV p 0),(1,intV f),(6,ptrV b1 0),(7,strV [b0,b1_,b2,b3,b4]),(9,intV (acc b1_ b2 b3 b4 i:Nat)),(10,intV (i:Int))]∧Sat W0 [QR b1 (Hm p (RB f)),Zo p kp D,F]∧(i≤4)) (L0:=[(0,_),(1,_),(6,_),(7,_),(9,_),(10,_)]) (4) (RM Qa Qa Qa Qa Qa Qa) ⟨4,rfl,rfl,hS2.reorder [1,0,2] Qa, by omega⟩ ?_
 rintro _ _ w22 ⟨i,rfl,rfl,hS22,hi⟩
 refine Qg (Qg (Qb (Qe Qa Qa (Wl Qa Qa Qa (Qh (Qd (Qt Qa (fun h23=> ?_) (fun h23=> ?_))))))))
 ·obtain⟨c,hc⟩: ∃c,[b0,b1_,b2,b3,b4][i]? =some c:=⟨_,WB (by simp;omega)⟩
  have hacc:=GP (by omega) hi hc
  have hal:=DA (b1:=b1_) (b2:=b2) (b3:=b3) (b4:=b4) (show 0<i by omega)
  have hcl:=BJ c
  have hi1:((i -1:Nat):Int)=(i:Int) -1:= by omega
  refine Qr (Qd (Qg (QD (Qb (Qe Qa Qa (Ci 8 Qa Qa Qa Qa (q:=256) Qa (by omega) (by omega) Qa ?_))))))
  refine Qe Qa Qa (Qe Qa Qa (Wx _ underlying9 Qa Qa (by first | rfl | omega) (by first | assumption | rfl) Qa ?_))
  refine YI underlying5 underlying3 Qa Qa ?_
  refine FN 8 (acc b1_ b2 b3 b4 i) Qa Qa (by rfl) (by constructor<;>omega) (by omega) Qa ?_
  refine Qc Qa Qa (Qh (Qp (Qd (Qk [10,7,6,1,0,9] Qa (Qb (Qe Qa Qa (JZ Qa Qa (by omega) (by omega) Qa ?_)))))))
  refine Qc Qa Qa (Qh ?_)
  exact Xa (L1:=[(0,_),(1,_),(6,_),(7,_),(9,intV ((acc b1_ b2 b3 b4 (i -1):Nat):Int)),(10,intV ((i -1:Nat):Int))]) (.cons Qa (.cons Qa (.cons Qa (.cons Qa (.cons (by rw[hacc];rfl) (.cons (by rw[hi1];rfl) .nil)))))) (k1:=1*(i -1)) (by omega) ⟨i -1,rfl,rfl,hS22, by omega⟩
 obtain rfl:i=0:= by omega
 refine Xq (Q2 (Q2 (QH (Qd (Qg (Qg (Qb (Qe Qa Qa (Wl Qa Qa Qa (Qh (Qd (Qt Qa (fun h24=> ?_) (fun h24=> ?_)))))))))))))
 ·refine Qg (Qb (Qc Qa Qa (Qc Qa Qa (Qh (Qd (Qk [9,7,6,1,0,4,5] Qa (Qo (Qm (ZG (.inr Qa) Qa Qa Qa ?_)))))))))
  exact⟨_,rfl,.inr ⟨(WD hE (by rw[←hH]; exact Y9 hb0 (by rw[←Jq];omega))).1, by rw[(WD hE (by rw[←hH]; exact Y9 hb0 (by rw[←Jq];omega))).2],hS22.pick [1,2] Qa⟩⟩
 have hn:UV b1_ b2 b3 b4≤65536:= by rw[←Jq];omega
 have hSl:JQ (WG D f 0 5)= .slot b0.toNat (UV b1_ b2 b3 b4):= by rw[←hH]; exact MA h12 hn
 rw[Jq]
 obtain⟨n,hN⟩: ∃n,n=UV b1_ b2 b3 b4:=⟨_,rfl⟩
 rw[←hN]at hSl hn⊢
 have h12n:b0.toNat=1∨b0.toNat=2:= by rcases h12 with rfl | rfl<;> simp
 refine Qr (Qd (Qg (Qb (Qe Qa Qa (Qe Qa Qa (Wx _ underlying9 Qa Qa (by first | rfl | omega) (by first | assumption | rfl) Qa ?_))))))
 refine YI underlying5 underlying3 Qa Qa (Ql Qa Qa (Qi Qa J7 Qa ?_))
 first | (refine Q7 hS22 Qa Qa Ya (by rfl) (i:=0) Qa (Xd Qa) ?_)
 intro w25 hS26; dsimp only[List.set]at hS26
 refine Qh (Qd (Qk [9,6,1,0] Qa (Qg (Qb (Qe Qa Qa (Qe Qa Qa (Qe Qa Qa (Qe Qa Qa (Ql Qa Qa (Qi Qa J7 Qa (Qq Qa QF (hS26.cell 0 Qa Qa) Qa (Hv _ underlying132 Qa Qa (by rfl) (by omega) Ya Qa ?_))))))))))))
 have hg:=(hG.sat hS26 2 Qa).off h12n
 refine Qq Qa QF (by assumption) Qa ?_
 refine Qe Qa Qa (Qz B0 Qa (Gc (hS26.sp [1] Qa) f (QJ b0.toNat) n) Qa ?_)
 rintro _ w27 ⟨rfl,hS27⟩
 replace hS27:=hS27.jn Qa Qa
 have hE2:Wf D f (QJ b0.toNat) n=0:=JY hE (Jf _) (by omega)
 rw[hE2]
 refine Qe Qa Qa (Q6 Qa Qa Qa (Q6 Qa Qa Qa (Ql Qa Qa (Qi Qa Y3 Qa ?_))))
 first | (refine Q7 hS27 Qa Qa R2 (by rfl) (i:=1) Qa (Xd Qa) ?_)
 intro w28 hS29; dsimp only[List.set]at hS29
 refine Qc Qa Qa (Qh ?_)
 have hE2:Wf D f (QJ b0.toNat) n=0:=JY hE (Jf _) (by omega)
 refine Qd (Qk [9,6,8] Qa (Qg (Qg (Qb (Qe Qa Qa (QL Qa Qa Qa (Qe Qa Qa (Q4 82 Qa (fun h30=> ?_) (fun h30=> ?_)))))))))
 ·refine Qj Qa Qa (Q8 h30) (Qe Qa Qa (Qj Qa Qa (Q8 h30) (Ql Qa Qa (Qj Qa Qa (Q8 h30) (Qi Qa Y3 Qa (Qj Qa Qa (Q8 h30) (Qq Qa Zr (hS29.cell 1 Qa Qa) Qa (Qj Qa Qa (Q8 h30) (Zu underlying9 Qa Qa (Qj Qa Qa (Q8 h30) (Qe Qa Qa (Qj Qa Qa (Q8 h30) (X0 Qa Qa Qa (Q0 Qa (Q8 h30) Qa Qa (Qh (Qd (Qk [6,8,90] Qa (Qt Qa (fun h31=> ?_) (fun h31=> ?_)))))))))))))))))))
  ·refine Qb (Qc Qa Qa (Qh (Qd (Qg (Qg (Qb (Qe Qa Qa (Xr Qa Qa Qa (Qh (Qd (Qt Qa (fun h32=> ?_) (fun h32=> ?_))))))))))))
   ·exact Qg (Qb (Qe Qa Qa (Qc Qa Qa (Qc Qa Qa (Qh (Qd (Qo (Qm (ZG (.inr Qa) Qa Qa Qa (⟨_,rfl,.inr ⟨(H9 hE hSl (by omega)).1, by rw[(H9 hE hSl (by omega)).2],hS29.pick [0,2] Qa⟩⟩))))))))))
   exact Qr (Qd (Qg (Qb (Qe Qa Qa (Qc Qa Qa (Qc Qa Qa (Qh (Qd (Qo (ZG (.inr Qa) Qa Qa Qa (absurd (by decide) h32)))))))))))
  refine Qr (Qd (Qg (Qg (Qb (Qe Qa Qa (Xr Qa Qa Qa (Qh (Qd (Qt Qa (fun h33=> ?_) (fun h33=> ?_))))))))))
  ·exact Qg (Qb (Qe Qa Qa (Qc Qa Qa (Qc Qa Qa (Qh (Qd (Qo (Qm (ZG (.inr Qa) Qa Qa Qa (absurd Qa h33))))))))))
  refine Qr (Qd (Qg (Qb (Qe Qa Qa (Qc Qa Qa (Qc Qa Qa (Qh (Qd (Qo (ZG (.inr Qa) Qa Qa Qa ?_))))))))))
  exact⟨_,rfl,.inl ⟨(Jg hE hSl (by omega)).1,_,rfl, by rw[(Jg hE hSl (by omega)).2]; exact hS29.pick [1,0,2] Qa⟩⟩
 refine Qf Qa Qa (Qw h30) Qa (Qf Qa Qa (Qw h30) Qa (Qf Qa Qa (Qw h30) Qa (Qf Qa Qa (Qw h30) Qa (Qf Qa Qa (Qw h30) Qa (Qf Qa Qa (Qw h30) Qa (Qf Qa Qa (Qw h30) Qa (Q1 Qa (Qw h30) Qa Qa (Qh (Qd (Qk [6,8,90] Qa (QI Qa (Qr (Qd (Qg (Qg (Qb (Qe Qa Qa (Xr Qa Qa Qa (Qh (Qd (Qt Qa (fun h34=> ?_) (fun h34=> ?_))))))))))))))))))))))
 ·exact Qg (Qb (Qe Qa Qa (Qc Qa Qa (Qc Qa Qa (Qh (Qd (Qo (Qm (ZG (.inr Qa) Qa Qa Qa (absurd Qa h34))))))))))
 refine Qr (Qd (Qg (Qb (Qe Qa Qa (Qc Qa Qa (Qc Qa Qa (Qh (Qd (Qo (ZG (.inr Qa) Qa Qa Qa ?_))))))))))
 exact⟨_,rfl,.inl ⟨(Jg hE hSl (by omega)).1,_,rfl, by rw[(Jg hE hSl (by omega)).2]; exact hS29.pick [1,0,2] Qa⟩⟩
theorem startK {w:World} {p:Nat} {kp:Value} {D:DS} {F:Th} (hS:Sat w [Zo p kp D,F]):Calls prog 51 #[ptrV p 0] w (Ret fun v w'=>v= .tuple #[]∧Sat w' [Zo p kp (X1 D),F]):=NO hS
theorem K5 {w:World} {e:Nat} {E:EnD} {F:Th} (hS:Sat w [Xu e E,F]) (hG:Ent F WireG) (hO:Ent F (Glob 0)):
    Calls prog 12 #[ptrV e 0] w (Ret fun v w'=>v= .tuple #[intV (Wk E).1,intV (Wk E).2]∧Sat w' [Xu e E,F]):= by
 obtain⟨dp,cv,sv,ov,hS⟩:=QQ hS
 obtain⟨kp,hkl,hS⟩:=UO (hS.reorder [1,0,2,3,4,5] rfl)
 replace hS:=hS.reorder [2,0,1,3,4,5,6] Qa
 refine Qx func12 Qa ntmps12 Qa ?_
 refine Qg (Qb (Qc Qa Qa (Qc Qa Qa (Qh (Qd (Qg (Qb (Qe Qa Qa (Ql Qa Qa (Qi Qa HZ Qa (Qq Qa U2 (hS.cell 0 Qa Qa) Qa (Qz cal_50 Qa (copy_sp (hS.sp [1] Qa) (Ent.starL (BW (by omega)) 1 Qa)) Qa ?_))))))))))))
 rintro _ w1 ⟨p2,rfl,hS1⟩
 replace hS1:=hS1.jn Qa Qa
 refine Qc Qa Qa (Qh (Qd (Qg (Qb (Qe Qa Qa (Qz I8 Qa (startK (hS1.sp [0] Qa)) Qa ?_))))))
 rintro _ w2 ⟨rfl,hS2⟩
 replace hS2:=hS2.jn Qa Qa
 refine Qh (Qd (Qk [2,3,4] Qa (Qg (Qb (Qe Qa Qa (Hw F9 Qa (opK_sp (hS2.sp [0] Qa) (hO.starL 6 Qa) 0) Qa ?_))))))
 rintro e w3 ⟨_,rfl,(⟨ho,cp,rfl,hS3⟩ | ⟨ho,rfl,hS3⟩)⟩
 ·refine⟨_,Qa, ?_⟩
  replace hS3:=hS3.jn Qa Qa
  have hck:=KE (X1 E.D) 0
  refine Qe Qa Qa (Q6 Qa Qa Qa (Q6 Qa Qa Qa (Qc Qa Qa (Qc Qa Qa (Qh (Qd (Qg (Qg (Qb (Qe Qa Qa (Xr Qa Qa Qa (Qh (Qd (Qk [2,3,5,20] Qa (Qt Qa (fun h4=> ?_) (fun h4=> ?_))))))))))))))))
  ·exact absurd Qa h4
  refine Qr (Qd (Qg (Qb (Qe Qa Qa (Qz I7 Qa (Po (hS3.sp [0] Qa) (hG.starL 7 Qa) hck.2) Qa ?_)))))
  rintro _ w5 ⟨rfl,hS5⟩
  replace hS5:=hS5.jn Qa Qa
  refine Q6 Qa Qa Qa (Q6 Qa Qa Qa (Qc Qa Qa (Qc Qa Qa (Qh (Qd (Qo (ZG (.inr Qa) Qa Qa Qa ?_)))))))
  exact⟨_,rfl, by unfold Wk; rw[if_pos ho],Qv (E:=E) ((GF kp hkl (hS5.pick [2,4,3,5,6,7,8] Qa)).reorder [1,0,2,3,4,5] Qa)⟩
 refine⟨_,Qa, ?_⟩
 replace hS3:=hS3.jn Qa Qa
 refine Qe Qa Qa (Q6 Qa Qa Qa (Q6 Qa Qa Qa (Qc Qa Qa (Qc Qa Qa (Qh (Qd (Qg (Qg (Qb (Qe Qa Qa (Xr Qa Qa Qa (Qh (Qd (Qk [2,3,5,20] Qa (Qt Qa (fun h6=> ?_) (fun h6=> ?_))))))))))))))))
 ·refine Qg (Qb (Qc Qa Qa (Qc Qa Qa (Qh (Qd (Qo (Qm (ZG (.inr Qa) Qa Qa Qa ?_))))))))
  exact⟨_,rfl, by unfold Wk; rw[if_neg ho],Qv (E:=E) ((GF kp hkl (hS3.pick [1,3,2,4,5,6,7] Qa)).reorder [1,0,2,3,4,5] Qa)⟩
 exact absurd ho h6
