/- the law: arrive -/
import Derived.Test.YtiibgheijbbmaaaGreatDoorMvs
set_option linter.unusedVariables false
set_option maxRecDepth 100000
namespace Go.Proofs.YtiibgheijbbmaaaGreatDoor
open Go.RowKit M Proofs.Tryz
section
variable {X:TwD} {n:Int} {s:Bs}
theorem N5 (h:X.fl[(ZU n X.fl.length).toNat]? =none):XQ X n=X:= by unfold XQ; rw[h]
theorem Ej (h:X.fl[(ZU n X.fl.length).toNat]? =some (false,s)):XQ X n=ZO {X with fl:=X.fl.eraseIdx (ZU n X.fl.length).toNat,a:=(X9 X.a s).1} false (X9 X.a s).2:= by unfold XQ; rw[h];rfl
theorem Eh (h:X.fl[(ZU n X.fl.length).toNat]? =some (true,s)):XQ X n=ZO {X with fl:=X.fl.eraseIdx (ZU n X.fl.length).toNat,b:=(X9 X.b s).1} true (X9 X.b s).2:= by unfold XQ; rw[h];rfl
theorem HQ (h:X.fl[(ZU n X.fl.length).toNat]? =none):FF X.fl (ZU n X.fl.length)=4∧FE X.fl (ZU n X.fl.length)=X.fl:= by
  have h2: ¬(0≤ZU n X.fl.length∧ZU n X.fl.length<(X.fl.length:Int)):= fun q=> by
    have :=List.getElem?_eq_none_iff.1 h
    omega
  exact⟨(MI h2).2.2,(MI h2).1⟩
theorem Z1 {p:Bool×Bs} (h:X.fl[(ZU n X.fl.length).toNat]? =some p):FF X.fl (ZU n X.fl.length)=0∧FE X.fl (ZU n X.fl.length)=X.fl.eraseIdx (ZU n X.fl.length).toNat∧FD X.fl (ZU n X.fl.length)=(if p.1=true then 1 else 0,p.2):= by
  have hl:=(Jo h).1
  have h0:=(modN_rg (n:=n) (m:=X.fl.length) (by omega)).1
  obtain⟨k,hk⟩: ∃k:Nat,ZU n X.fl.length=(k:Int):=⟨_,(Int.toNat_of_nonneg h0).symm⟩
  rw[hk]at h⊢
  rw[Int.toNat_natCast]at h⊢
  exact⟨(Ri h).2.2,(Ri h).1,(Ri h).2.1⟩
end
theorem UF {E:EnD} {s:Bs} (hW:EW E) (hs:s.length≤1000):(X9 E s).2.length≤1:= by
  have t0: ∀x:Bs,[x].length≤1:= fun _=>Nat.le_refl _
  have t1:([]:List Bs).length≤1:=Nat.zero_le _
  unfold X9
  split
  · exact t1
  unfold X8
  split
  · exact t1
  split
  · unfold Xo
    split
    · exact t1
    split
    · exact t1
    split
    · exact t1
    split
    · exact t1
    split
    · exact t1
    unfold Yx
    split
    · exact t1
    · exact t0 _
  split
  · unfold Xh
    split
    · exact t0 _
    split
    · exact t1
    split
    · split
      · exact t1
      · exact t0 _
    split
    · exact t0 _
    · exact t0 _
  split
  · exact t1
  split
  · exact t1
  split
  · unfold Zv
    split
    · exact t1
    split
    · exact t0 _
    split
    · exact t1
    · exact t0 _
  split
  · exact t1
  split
  · unfold Z6
    split
    · exact t1
    · exact t0 _
  · exact t1
theorem qat {w:World} [tq:Inhabited TwQ] {x:Nat} {X:TwD} {F:Th} (hS:Sat w [Ka x X,F]) (hG:Ent F WireG) (hO:Ent F (Glob 0)) (hW:XW X) (n:Int) (hp:X.fl[(ZU n X.fl.length).toNat]? =none):
    Calls prog 49 #[ptrV x 0,intV n] w (Ret fun v w'=>v= .tuple #[]∧Sat w' [Ka x (XQ X n),F]):= by
 obtain⟨eb,ecap,a,b,p,hq0,hS⟩:=JU hS
 refine Qy func49 Qa ntmps49 Qa ?_
 refine Qg ?_
 have hS1:=hS.drew
 refine DJ Jk (Hp 9 15 Qa ?_ ?_)
 ·refine Hp 10 15 Qa ?_ ?_
  ·refine Hp 11 15 Qa ?_ ?_
   ·refine VW (sp:=[9,10,11,15,16]) [0,1,2,3,4,5,6,7,8,9,10,11,12,13,14,15,16,17] (by kernel_rfl) ?_
    refine QM Qa Qa Qa (Xw Qa Qa Qa (QQ Qa Qa Qa ZD (QH Qa Qa Qa (Qn Qa XR (hS1.cell 0 Qa Qa)) (QM Qa Qa Qa (QM Qa Qa Qa (Xw Qa Qa Qa (QQ Qa Qa Qa ZD (QH Qa Qa Qa (Qn Qa XR (hS1.cell 0 Qa Qa)) (Xb Qa Qa Qa Qa Qa Qa ?_)))))))))
    refine Q4 H6 Qa (Wm (hS1.sp [4] Qa)) Qa ?_
    rintro _ w2 ⟨rfl,hS2⟩
    replace hS2:=hS2.jn Qa Qa
    refine Xn (.skip (by kernel_rfl) (.cons (.inl ⟨rfl,(Qn Qa XR (hS2.cell 1 Qa Qa))⟩) .nil)) ?_
    refine Xb Qa Qa Qa Qa Qa Qa ?_
    refine Q4 HZ Qa (HT (hS2.sp [] Qa) n (X.fl.length:Int) (by have :=hW.ln;omega)) Qa ?_
    rintro _ w3 ⟨rfl,hS3⟩
    replace hS3:=hS3.jn Qa Qa
    refine Xn (.skip (by kernel_rfl) (.cons (.inl ⟨rfl,(Qn Qa XR (hS3.cell 1 Qa Qa))⟩) .nil)) ?_
    refine Xb Qa Qa Qa Qa Qa Qa ?_
    refine Q4 HX Qa (JA (hS3.sp [0] Qa) (ZU n X.fl.length) hW.ln) Qa ?_
    rintro _ w4 ⟨rfl,hS4⟩
    replace hS4:=hS4.jn Qa Qa
    rw[(HQ hp).1]
    rw[(HQ hp).2]at hS4
    refine Xn (XC (by kernel_rfl)) ?_
    refine QM Qa Qa Qa (Ha Qa Qa Qa Qa (Ha Qa Qa Qa Qa (Xb Qa Qa Qa Qa Qa Qa ?_)))
    refine Xk hS4 Jq Qa Qa ?_
    intro b5 w5 hS5
    refine Xn (XC (by kernel_rfl)) ?_
    refine Xb Qa Qa Qa Qa Qa Qa ?_
    (refine QX hS5 Qa Qa WO Qa (by rfl) (i:=0) Qa (by decide) ?_)
    intro w6 hS7; dsimp only[List.set]at hS7
    refine ZG (XC (by kernel_rfl)) ?_
    refine Jr Qa Qa Qa (VC.nil (Qe (Qk [0,4,5] Qa (Qg (Qb (Qd Qa Qa (QO Qa Qa Qa (Qd Qa Qa (Q3 23 Qa (fun h8=> ?_) (fun h8=> ?_))))))))))
    ·(exfalso; have q9:=h8; simp at q9)
    refine Qf Qa Qa (Qv h8) Qa (Qf Qa Qa (Qv h8) Qa (Qf Qa Qa (Qv h8) Qa (Qz Qa (Qv h8) Qa Qa (Qd Qa Qa (Qf Qa Qa Qa Qa (Qf Qa Qa Qa Qa (Qf Qa Qa Qa Qa (Qz Qa Qa Qa Qa (Qh (Qe (Qk [0,4,32] Qa (QF Qa (Qr (H5 (.inl Qa) Qa ?_))))))))))))))
    exact⟨_,rfl,rfl, by rw[N5 hp]; exact Zm (X:=X) (hS7.pick [2,3,4,5,1,6] Qa) (by assumption)⟩
   refine VW (sp:=[9,10,11,15,16]) [0,1,2,3,4,5,6,7,8,9,10,15,11,12,13,14,16,17] (by kernel_rfl) ?_
   refine QM Qa Qa Qa (Xw Qa Qa Qa (QQ Qa Qa Qa ZD (QH Qa Qa Qa (Qn Qa XR (hS1.cell 0 Qa Qa)) (QM Qa Qa Qa (QM Qa Qa Qa (Xw Qa Qa Qa (QQ Qa Qa Qa ZD (QH Qa Qa Qa (Qn Qa XR (hS1.cell 0 Qa Qa)) (Xb Qa Qa Qa Qa Qa Qa ?_)))))))))
   refine Q4 H6 Qa (Wm (hS1.sp [4] Qa)) Qa ?_
   rintro _ w9 ⟨rfl,hS9⟩
   replace hS9:=hS9.jn Qa Qa
   refine Xn (.skip (by kernel_rfl) (.cons (.inl ⟨rfl,(Qn Qa XR (hS9.cell 1 Qa Qa))⟩) .nil)) ?_
   refine Xb Qa Qa Qa Qa Qa Qa ?_
   refine Q4 HZ Qa (HT (hS9.sp [] Qa) n (X.fl.length:Int) (by have :=hW.ln;omega)) Qa ?_
   rintro _ w10 ⟨rfl,hS10⟩
   replace hS10:=hS10.jn Qa Qa
   refine Xn (.skip (by kernel_rfl) (.cons (.inl ⟨rfl,(Qn Qa XR (hS10.cell 1 Qa Qa))⟩) .nil)) ?_
   refine Xb Qa Qa Qa Qa Qa Qa ?_
   refine Xk hS10 Jq Qa Qa ?_
   intro b11 w11 hS11
   refine Xn (.skip (by kernel_rfl) (.cons (.inl ⟨rfl,(Qn Qa XR (hS11.cell 2 Qa Qa))⟩) .nil)) ?_
   refine Xb Qa Qa Qa Qa Qa Qa ?_
   refine Q4 HX Qa (JA (hS11.sp [1] Qa) (ZU n X.fl.length) hW.ln) Qa ?_
   rintro _ w12 ⟨rfl,hS12⟩
   replace hS12:=hS12.jn Qa Qa
   rw[(HQ hp).1]
   rw[(HQ hp).2]at hS12
   refine Xn (XC (by kernel_rfl)) ?_
   refine QM Qa Qa Qa (Ha Qa Qa Qa Qa (Ha Qa Qa Qa Qa (Xb Qa Qa Qa Qa Qa Qa ?_)))
   (refine QX hS12 Qa Qa WO Qa (by rfl) (i:=1) Qa (by decide) ?_)
   intro w13 hS14; dsimp only[List.set]at hS14
   refine ZG (XC (by kernel_rfl)) ?_
   refine Jr Qa Qa Qa (VC.nil (Qe (Qk [0,4,5] Qa (Qg (Qb (Qd Qa Qa (QO Qa Qa Qa (Qd Qa Qa (Q3 23 Qa (fun h15=> ?_) (fun h15=> ?_))))))))))
   ·(exfalso; have q9:=h15; simp at q9)
   refine Qf Qa Qa (Qv h15) Qa (Qf Qa Qa (Qv h15) Qa (Qf Qa Qa (Qv h15) Qa (Qz Qa (Qv h15) Qa Qa (Qd Qa Qa (Qf Qa Qa Qa Qa (Qf Qa Qa Qa Qa (Qf Qa Qa Qa Qa (Qz Qa Qa Qa Qa (Qh (Qe (Qk [0,4,32] Qa (QF Qa (Qr (H5 (.inl Qa) Qa ?_))))))))))))))
   exact⟨_,rfl,rfl, by rw[N5 hp]; exact Zm (X:=X) (hS14.pick [2,3,4,5,0,6] Qa) (by assumption)⟩
  refine VW (sp:=[9,10,11,15,16]) [0,1,2,3,4,5,6,7,8,9,15,10,11,12,13,14,16,17] (by kernel_rfl) ?_
  refine QM Qa Qa Qa (Xw Qa Qa Qa (QQ Qa Qa Qa ZD (QH Qa Qa Qa (Qn Qa XR (hS1.cell 0 Qa Qa)) (QM Qa Qa Qa (QM Qa Qa Qa (Xw Qa Qa Qa (QQ Qa Qa Qa ZD (QH Qa Qa Qa (Qn Qa XR (hS1.cell 0 Qa Qa)) (Xb Qa Qa Qa Qa Qa Qa ?_)))))))))
  refine Q4 H6 Qa (Wm (hS1.sp [4] Qa)) Qa ?_
  rintro _ w16 ⟨rfl,hS16⟩
  replace hS16:=hS16.jn Qa Qa
  refine Xn (.skip (by kernel_rfl) (.cons (.inl ⟨rfl,(Qn Qa XR (hS16.cell 1 Qa Qa))⟩) .nil)) ?_
  refine Xb Qa Qa Qa Qa Qa Qa ?_
  refine Xk hS16 Jq Qa Qa ?_
  intro b17 w17 hS17
  refine Xn (.skip (by kernel_rfl) (.cons (.inl ⟨rfl,(Qn Qa XR (hS17.cell 2 Qa Qa))⟩) .nil)) ?_
  refine Xb Qa Qa Qa Qa Qa Qa ?_
  refine Q4 HZ Qa (HT (hS17.sp [] Qa) n (X.fl.length:Int) (by have :=hW.ln;omega)) Qa ?_
  rintro _ w18 ⟨rfl,hS18⟩
  replace hS18:=hS18.jn Qa Qa
  refine Xn (.skip (by kernel_rfl) (.cons (.inl ⟨rfl,(Qn Qa XR (hS18.cell 2 Qa Qa))⟩) .nil)) ?_
  refine Xb Qa Qa Qa Qa Qa Qa ?_
  refine Q4 HX Qa (JA (hS18.sp [1] Qa) (ZU n X.fl.length) hW.ln) Qa ?_
  rintro _ w19 ⟨rfl,hS19⟩
  replace hS19:=hS19.jn Qa Qa
  rw[(HQ hp).1]
  rw[(HQ hp).2]at hS19
  refine Xn (XC (by kernel_rfl)) ?_
  refine QM Qa Qa Qa (Ha Qa Qa Qa Qa (Ha Qa Qa Qa Qa (Xb Qa Qa Qa Qa Qa Qa ?_)))
  (refine QX hS19 Qa Qa WO Qa (by rfl) (i:=1) Qa (by decide) ?_)
  intro w20 hS21; dsimp only[List.set]at hS21
  refine ZG (XC (by kernel_rfl)) ?_
  refine Jr Qa Qa Qa (VC.nil (Qe (Qk [0,4,5] Qa (Qg (Qb (Qd Qa Qa (QO Qa Qa Qa (Qd Qa Qa (Q3 23 Qa (fun h22=> ?_) (fun h22=> ?_))))))))))
  ·(exfalso; have q9:=h22; simp at q9)
  refine Qf Qa Qa (Qv h22) Qa (Qf Qa Qa (Qv h22) Qa (Qf Qa Qa (Qv h22) Qa (Qz Qa (Qv h22) Qa Qa (Qd Qa Qa (Qf Qa Qa Qa Qa (Qf Qa Qa Qa Qa (Qf Qa Qa Qa Qa (Qz Qa Qa Qa Qa (Qh (Qe (Qk [0,4,32] Qa (QF Qa (Qr (H5 (.inl Qa) Qa ?_))))))))))))))
  exact⟨_,rfl,rfl, by rw[N5 hp]; exact Zm (X:=X) (hS21.pick [2,3,4,5,0,6] Qa) (by assumption)⟩
 refine VW (sp:=[9,10,11,15,16]) [0,1,2,3,4,5,6,7,8,15,9,10,11,12,13,14,16,17] (by kernel_rfl) ?_
 refine QM Qa Qa Qa (Xw Qa Qa Qa (QQ Qa Qa Qa ZD (QH Qa Qa Qa (Qn Qa XR (hS1.cell 0 Qa Qa)) (QM Qa Qa Qa (QM Qa Qa Qa (Xw Qa Qa Qa (QQ Qa Qa Qa ZD (QH Qa Qa Qa (Qn Qa XR (hS1.cell 0 Qa Qa)) (Xb Qa Qa Qa Qa Qa Qa ?_)))))))))
 refine Xk hS1 Jq Qa Qa ?_
 intro b23 w23 hS23
 refine Xn (.cons (.inl ⟨Qa,(Qn Qa XR (hS23.cell 1 Qa Qa))⟩) (.cons (.inl ⟨Qa,(Qn Qa XR (hS23.cell 1 Qa Qa))⟩) .nil)) (Xb Qa Qa Qa Qa Qa Qa ?_)
 refine Q4 H6 Qa (Wm (hS23.sp [5] Qa)) Qa ?_
 rintro _ w24 ⟨rfl,hS24⟩
 replace hS24:=hS24.jn Qa Qa
 refine Xn (.skip (by kernel_rfl) (.cons (.inl ⟨rfl,(Qn Qa XR (hS24.cell 2 Qa Qa))⟩) .nil)) ?_
 refine Xb Qa Qa Qa Qa Qa Qa ?_
 refine Q4 HZ Qa (HT (hS24.sp [] Qa) n (X.fl.length:Int) (by have :=hW.ln;omega)) Qa ?_
 rintro _ w25 ⟨rfl,hS25⟩
 replace hS25:=hS25.jn Qa Qa
 refine Xn (.skip (by kernel_rfl) (.cons (.inl ⟨rfl,(Qn Qa XR (hS25.cell 2 Qa Qa))⟩) .nil)) ?_
 refine Xb Qa Qa Qa Qa Qa Qa ?_
 refine Q4 HX Qa (JA (hS25.sp [0] Qa) (ZU n X.fl.length) hW.ln) Qa ?_
 rintro _ w26 ⟨rfl,hS26⟩
 replace hS26:=hS26.jn Qa Qa
 rw[(HQ hp).1]
 rw[(HQ hp).2]at hS26
 refine Xn (XC (by kernel_rfl)) ?_
 refine QM Qa Qa Qa (Ha Qa Qa Qa Qa (Ha Qa Qa Qa Qa (Xb Qa Qa Qa Qa Qa Qa ?_)))
 (refine QX hS26 Qa Qa WO Qa (by rfl) (i:=1) Qa (by decide) ?_)
 intro w27 hS28; dsimp only[List.set]at hS28
 refine ZG (XC (by kernel_rfl)) ?_
 refine Jr Qa Qa Qa (VC.nil (Qe (Qk [0,4,5] Qa (Qg (Qb (Qd Qa Qa (QO Qa Qa Qa (Qd Qa Qa (Q3 23 Qa (fun h29=> ?_) (fun h29=> ?_))))))))))
 ·(exfalso; have q9:=h29; simp at q9)
 refine Qf Qa Qa (Qv h29) Qa (Qf Qa Qa (Qv h29) Qa (Qf Qa Qa (Qv h29) Qa (Qz Qa (Qv h29) Qa Qa (Qd Qa Qa (Qf Qa Qa Qa Qa (Qf Qa Qa Qa Qa (Qf Qa Qa Qa Qa (Qz Qa Qa Qa Qa (Qh (Qe (Qk [0,4,32] Qa (QF Qa (Qr (H5 (.inl Qa) Qa ?_))))))))))))))
 exact⟨_,rfl,rfl, by rw[N5 hp]; exact Zm (X:=X) (hS28.pick [2,3,4,5,0,6] Qa) (by assumption)⟩
theorem qau {w:World} [tq:Inhabited TwQ] {x:Nat} {X:TwD} {F:Th} (hS:Sat w [Ka x X,F]) (hG:Ent F WireG) (hO:Ent F (Glob 0)) (hW:XW X) (n:Int) {s:Bs} (hp:X.fl[(ZU n X.fl.length).toNat]? =some (false,s)):
    Calls prog 49 #[ptrV x 0,intV n] w (Ret fun v w'=>v= .tuple #[]∧Sat w' [Ka x (XQ X n),F]):= by
 obtain⟨eb,ecap,a,b,p,hq0,hS⟩:=JU hS
 refine Qy func49 Qa ntmps49 Qa ?_
 refine Qg ?_
 have hS1:=hS.drew
 refine DJ Jk (Hp 9 15 Qa ?_ ?_)
 ·refine Hp 10 15 Qa ?_ ?_
  ·refine Hp 11 15 Qa ?_ ?_
   ·refine VW (sp:=[9,10,11,15,16]) [0,1,2,3,4,5,6,7,8,9,10,11,12,13,14,15,16,17] (by kernel_rfl) ?_
    refine QM Qa Qa Qa (Xw Qa Qa Qa (QQ Qa Qa Qa ZD (QH Qa Qa Qa (Qn Qa XR (hS1.cell 0 Qa Qa)) (QM Qa Qa Qa (QM Qa Qa Qa (Xw Qa Qa Qa (QQ Qa Qa Qa ZD (QH Qa Qa Qa (Qn Qa XR (hS1.cell 0 Qa Qa)) (Xb Qa Qa Qa Qa Qa Qa ?_)))))))))
    refine Q4 H6 Qa (Wm (hS1.sp [4] Qa)) Qa ?_
    rintro _ w2 ⟨rfl,hS2⟩
    replace hS2:=hS2.jn Qa Qa
    refine Xn (.skip (by kernel_rfl) (.cons (.inl ⟨rfl,(Qn Qa XR (hS2.cell 1 Qa Qa))⟩) .nil)) ?_
    refine Xb Qa Qa Qa Qa Qa Qa ?_
    refine Q4 HZ Qa (HT (hS2.sp [] Qa) n (X.fl.length:Int) (by have :=hW.ln;omega)) Qa ?_
    rintro _ w3 ⟨rfl,hS3⟩
    replace hS3:=hS3.jn Qa Qa
    refine Xn (.skip (by kernel_rfl) (.cons (.inl ⟨rfl,(Qn Qa XR (hS3.cell 1 Qa Qa))⟩) .nil)) ?_
    refine Xb Qa Qa Qa Qa Qa Qa ?_
    refine Q4 HX Qa (JA (hS3.sp [0] Qa) (ZU n X.fl.length) hW.ln) Qa ?_
    rintro _ w4 ⟨rfl,hS4⟩
    replace hS4:=hS4.jn Qa Qa
    rw[(Z1 hp).1,(Z1 hp).2.2]
    rw[(Z1 hp).2.1]at hS4
    dsimp only
    refine Xn (XC (by kernel_rfl)) ?_
    refine QM Qa Qa Qa (Ha Qa Qa Qa Qa (Ha Qa Qa Qa Qa (Xb Qa Qa Qa Qa Qa Qa ?_)))
    refine Xk hS4 Jq Qa Qa ?_
    intro b5 w5 hS5
    refine Xn (XC (by kernel_rfl)) ?_
    refine Xb Qa Qa Qa Qa Qa Qa ?_
    (refine QX hS5 Qa Qa WO Qa (by rfl) (i:=0) Qa (by decide) ?_)
    intro w6 hS7; dsimp only[List.set]at hS7
    refine ZG (XC (by kernel_rfl)) ?_
    refine Jr Qa Qa Qa (VC.nil (Qe (Qk [0,4,5] Qa (Qg (Qb (Qd Qa Qa (QO Qa Qa Qa (Qd Qa Qa (Q3 23 Qa (fun h8=> ?_) (fun h8=> ?_))))))))))
    ·refine Qj Qa Qa (Q8 h8) (Qi Qa XP Qa (Qj Qa Qa (Q8 h8) (Qp Qa QK (hS7.cell 0 Qa Qa) Qa (Qj Qa Qa (Q8 h8) (Jj Qa Qa Qa (Qx Qa (Q8 h8) Qa Qa (Qd Qa Qa (Q3 28 Qa (fun h9=> ?_) (fun h9=> ?_)))))))))
     ·refine Qj Qa Qa (Q8 h9) (Qi Qa XP Qa (Qj Qa Qa (Q8 h9) (Qp Qa QK (hS7.cell 0 Qa Qa) Qa (Qj Qa Qa (Q8 h9) (W7 Qa Qa Qa (Qx Qa (Q8 h9) Qa Qa (Qh (Qe (Qk [0,4,32] Qa (Qw Qa (fun h10=> ?_) (fun h10=> ?_)))))))))))
      ·have hS11:=hS7.drew
       refine QT [0,1,2,3,4,5,6,7,8,9,10,11,12,13,14] [13,14] Jk (by kernel_rfl) ?_
       refine QM Qa Qa Qa (QQ Qa Qa Qa XP (QH Qa Qa Qa (Qn Qa QK (hS11.cell 0 Qa Qa)) (QM Qa Qa Qa (Xw Qa Qa Qa (QQ Qa Qa Qa WI (QH Qa Qa Qa (Qn Qa Hr (hS11.cell 2 Qa Qa)) (QQ Qa Qa Qa XP (QH Qa Qa Qa (Qn Qa QK (hS11.cell 0 Qa Qa)) (QG Qa Qa Qa (fun _=>(Zc 0 Qa Qa (by rfl) (by omega) Hn)) ?_)))))))))
       refine QH Qa Qa Qa (ZS Rz 3 0 0 hS11 Qa (by rfl) Yv Qa Qa) ?_
       refine QQ Qa Qa Qa HL (QH Qa Qa Qa (Qn Qa Zw (hS11.cell 0 Qa Qa)) (Xb Qa Qa Qa Qa Qa Qa ?_))
       refine Q4 HY Qa (YC (hS11.sp [4] Qa) (hG.starL 5 Qa) (hO.starL 5 Qa) hW.a s (hW.fl _ (List.mem_of_getElem? hp))) Qa ?_
       rintro _ w12 hS12
       replace hS12:=hS12.jn Qa Qa
       have h1r:=hS12.own_one 0 Qa
       refine Xn (.skip (by kernel_rfl) (.skip (by kernel_rfl) (.skip (by kernel_rfl) (.skip (by kernel_rfl) (.cons (.inl ⟨rfl,(Qn Qa QK (hS12.cell 2 Qa Qa))⟩) .nil))))) ?_
       have hS13:=Zm (X:={X with fl:=X.fl.eraseIdx (ZU n X.fl.length).toNat,a:=(X9 X.a s).1}) (hS12.pick [4,5,1,6,3,0,2,7] Qa) (by assumption)
       refine Xb Qa Qa Qa Qa Qa Qa ?_
       refine Q4 Va Qa (Y5 (i:=false) (hS13.sp [0,1] Qa) (by have :=UF (s:=s) hW.a (hW.fl _ (List.mem_of_getElem? hp));omega)) Qa ?_
       rintro _ w14 ⟨rfl,hS14⟩
       replace hS14:=hS14.jn Qa Qa
       refine Xn (XC (by kernel_rfl)) ?_
       refine VC.nil (H5 (.inl Qa) Qa ?_)
       exact⟨_,rfl,rfl, by rw[Ej hp]; exact hS14.pick [0,2] Qa⟩
      (exfalso; have q9:=h10; simp at q9)
     (exfalso; have q9:=h9; simp at q9)
    (exfalso; have q9:=h8; simp at q9)
   refine VW (sp:=[9,10,11,15,16]) [0,1,2,3,4,5,6,7,8,9,10,15,11,12,13,14,16,17] (by kernel_rfl) ?_
   refine QM Qa Qa Qa (Xw Qa Qa Qa (QQ Qa Qa Qa ZD (QH Qa Qa Qa (Qn Qa XR (hS1.cell 0 Qa Qa)) (QM Qa Qa Qa (QM Qa Qa Qa (Xw Qa Qa Qa (QQ Qa Qa Qa ZD (QH Qa Qa Qa (Qn Qa XR (hS1.cell 0 Qa Qa)) (Xb Qa Qa Qa Qa Qa Qa ?_)))))))))
   refine Q4 H6 Qa (Wm (hS1.sp [4] Qa)) Qa ?_
   rintro _ w15 ⟨rfl,hS15⟩
   replace hS15:=hS15.jn Qa Qa
   refine Xn (.skip (by kernel_rfl) (.cons (.inl ⟨rfl,(Qn Qa XR (hS15.cell 1 Qa Qa))⟩) .nil)) ?_
   refine Xb Qa Qa Qa Qa Qa Qa ?_
   refine Q4 HZ Qa (HT (hS15.sp [] Qa) n (X.fl.length:Int) (by have :=hW.ln;omega)) Qa ?_
   rintro _ w16 ⟨rfl,hS16⟩
   replace hS16:=hS16.jn Qa Qa
   refine Xn (.skip (by kernel_rfl) (.cons (.inl ⟨rfl,(Qn Qa XR (hS16.cell 1 Qa Qa))⟩) .nil)) ?_
   refine Xb Qa Qa Qa Qa Qa Qa ?_
   refine Xk hS16 Jq Qa Qa ?_
   intro b17 w17 hS17
   refine Xn (.skip (by kernel_rfl) (.cons (.inl ⟨rfl,(Qn Qa XR (hS17.cell 2 Qa Qa))⟩) .nil)) ?_
   refine Xb Qa Qa Qa Qa Qa Qa ?_
   refine Q4 HX Qa (JA (hS17.sp [1] Qa) (ZU n X.fl.length) hW.ln) Qa ?_
   rintro _ w18 ⟨rfl,hS18⟩
   replace hS18:=hS18.jn Qa Qa
   rw[(Z1 hp).1,(Z1 hp).2.2]
   rw[(Z1 hp).2.1]at hS18
   dsimp only
   refine Xn (XC (by kernel_rfl)) ?_
   refine QM Qa Qa Qa (Ha Qa Qa Qa Qa (Ha Qa Qa Qa Qa (Xb Qa Qa Qa Qa Qa Qa ?_)))
   (refine QX hS18 Qa Qa WO Qa (by rfl) (i:=1) Qa (by decide) ?_)
   intro w19 hS20; dsimp only[List.set]at hS20
   refine ZG (XC (by kernel_rfl)) ?_
   refine Jr Qa Qa Qa (VC.nil (Qe (Qk [0,4,5] Qa (Qg (Qb (Qd Qa Qa (QO Qa Qa Qa (Qd Qa Qa (Q3 23 Qa (fun h21=> ?_) (fun h21=> ?_))))))))))
   ·refine Qj Qa Qa (Q8 h21) (Qi Qa XP Qa (Qj Qa Qa (Q8 h21) (Qp Qa QK (hS20.cell 1 Qa Qa) Qa (Qj Qa Qa (Q8 h21) (Jj Qa Qa Qa (Qx Qa (Q8 h21) Qa Qa (Qd Qa Qa (Q3 28 Qa (fun h22=> ?_) (fun h22=> ?_)))))))))
    ·refine Qj Qa Qa (Q8 h22) (Qi Qa XP Qa (Qj Qa Qa (Q8 h22) (Qp Qa QK (hS20.cell 1 Qa Qa) Qa (Qj Qa Qa (Q8 h22) (W7 Qa Qa Qa (Qx Qa (Q8 h22) Qa Qa (Qh (Qe (Qk [0,4,32] Qa (Qw Qa (fun h23=> ?_) (fun h23=> ?_)))))))))))
     ·have hS24:=hS20.drew
      refine QT [0,1,2,3,4,5,6,7,8,9,10,11,12,13,14] [13,14] Jk (by kernel_rfl) ?_
      refine QM Qa Qa Qa (QQ Qa Qa Qa XP (QH Qa Qa Qa (Qn Qa QK (hS24.cell 1 Qa Qa)) (QM Qa Qa Qa (Xw Qa Qa Qa (QQ Qa Qa Qa WI (QH Qa Qa Qa (Qn Qa Hr (hS24.cell 2 Qa Qa)) (QQ Qa Qa Qa XP (QH Qa Qa Qa (Qn Qa QK (hS24.cell 1 Qa Qa)) (QG Qa Qa Qa (fun _=>(Zc 0 Qa Qa (by rfl) (by omega) Hn)) ?_)))))))))
      refine QH Qa Qa Qa (ZS Rz 3 0 0 hS24 Qa (by rfl) Yv Qa Qa) ?_
      refine QQ Qa Qa Qa HL (QH Qa Qa Qa (Qn Qa Zw (hS24.cell 1 Qa Qa)) (Xb Qa Qa Qa Qa Qa Qa ?_))
      refine Q4 HY Qa (YC (hS24.sp [4] Qa) (hG.starL 5 Qa) (hO.starL 5 Qa) hW.a s (hW.fl _ (List.mem_of_getElem? hp))) Qa ?_
      rintro _ w25 hS25
      replace hS25:=hS25.jn Qa Qa
      have h1r:=hS25.own_one 0 Qa
      refine Xn (.skip (by kernel_rfl) (.skip (by kernel_rfl) (.skip (by kernel_rfl) (.skip (by kernel_rfl) (.cons (.inl ⟨rfl,(Qn Qa QK (hS25.cell 3 Qa Qa))⟩) .nil))))) ?_
      have hS26:=Zm (X:={X with fl:=X.fl.eraseIdx (ZU n X.fl.length).toNat,a:=(X9 X.a s).1}) (hS25.pick [4,5,1,6,2,0,3,7] Qa) (by assumption)
      refine Xb Qa Qa Qa Qa Qa Qa ?_
      refine Q4 Va Qa (Y5 (i:=false) (hS26.sp [0,1] Qa) (by have :=UF (s:=s) hW.a (hW.fl _ (List.mem_of_getElem? hp));omega)) Qa ?_
      rintro _ w27 ⟨rfl,hS27⟩
      replace hS27:=hS27.jn Qa Qa
      refine Xn (XC (by kernel_rfl)) ?_
      refine VC.nil (H5 (.inl Qa) Qa ?_)
      exact⟨_,rfl,rfl, by rw[Ej hp]; exact hS27.pick [0,2] Qa⟩
     (exfalso; have q9:=h23; simp at q9)
    (exfalso; have q9:=h22; simp at q9)
   (exfalso; have q9:=h21; simp at q9)
  refine VW (sp:=[9,10,11,15,16]) [0,1,2,3,4,5,6,7,8,9,15,10,11,12,13,14,16,17] (by kernel_rfl) ?_
  refine QM Qa Qa Qa (Xw Qa Qa Qa (QQ Qa Qa Qa ZD (QH Qa Qa Qa (Qn Qa XR (hS1.cell 0 Qa Qa)) (QM Qa Qa Qa (QM Qa Qa Qa (Xw Qa Qa Qa (QQ Qa Qa Qa ZD (QH Qa Qa Qa (Qn Qa XR (hS1.cell 0 Qa Qa)) (Xb Qa Qa Qa Qa Qa Qa ?_)))))))))
  refine Q4 H6 Qa (Wm (hS1.sp [4] Qa)) Qa ?_
  rintro _ w28 ⟨rfl,hS28⟩
  replace hS28:=hS28.jn Qa Qa
  refine Xn (.skip (by kernel_rfl) (.cons (.inl ⟨rfl,(Qn Qa XR (hS28.cell 1 Qa Qa))⟩) .nil)) ?_
  refine Xb Qa Qa Qa Qa Qa Qa ?_
  refine Xk hS28 Jq Qa Qa ?_
  intro b29 w29 hS29
  refine Xn (.skip (by kernel_rfl) (.cons (.inl ⟨rfl,(Qn Qa XR (hS29.cell 2 Qa Qa))⟩) .nil)) ?_
  refine Xb Qa Qa Qa Qa Qa Qa ?_
  refine Q4 HZ Qa (HT (hS29.sp [] Qa) n (X.fl.length:Int) (by have :=hW.ln;omega)) Qa ?_
  rintro _ w30 ⟨rfl,hS30⟩
  replace hS30:=hS30.jn Qa Qa
  refine Xn (.skip (by kernel_rfl) (.cons (.inl ⟨rfl,(Qn Qa XR (hS30.cell 2 Qa Qa))⟩) .nil)) ?_
  refine Xb Qa Qa Qa Qa Qa Qa ?_
  refine Q4 HX Qa (JA (hS30.sp [1] Qa) (ZU n X.fl.length) hW.ln) Qa ?_
  rintro _ w31 ⟨rfl,hS31⟩
  replace hS31:=hS31.jn Qa Qa
  rw[(Z1 hp).1,(Z1 hp).2.2]
  rw[(Z1 hp).2.1]at hS31
  dsimp only
  refine Xn (XC (by kernel_rfl)) ?_
  refine QM Qa Qa Qa (Ha Qa Qa Qa Qa (Ha Qa Qa Qa Qa (Xb Qa Qa Qa Qa Qa Qa ?_)))
  (refine QX hS31 Qa Qa WO Qa (by rfl) (i:=1) Qa (by decide) ?_)
  intro w32 hS33; dsimp only[List.set]at hS33
  refine ZG (XC (by kernel_rfl)) ?_
  refine Jr Qa Qa Qa (VC.nil (Qe (Qk [0,4,5] Qa (Qg (Qb (Qd Qa Qa (QO Qa Qa Qa (Qd Qa Qa (Q3 23 Qa (fun h34=> ?_) (fun h34=> ?_))))))))))
  ·refine Qj Qa Qa (Q8 h34) (Qi Qa XP Qa (Qj Qa Qa (Q8 h34) (Qp Qa QK (hS33.cell 1 Qa Qa) Qa (Qj Qa Qa (Q8 h34) (Jj Qa Qa Qa (Qx Qa (Q8 h34) Qa Qa (Qd Qa Qa (Q3 28 Qa (fun h35=> ?_) (fun h35=> ?_)))))))))
   ·refine Qj Qa Qa (Q8 h35) (Qi Qa XP Qa (Qj Qa Qa (Q8 h35) (Qp Qa QK (hS33.cell 1 Qa Qa) Qa (Qj Qa Qa (Q8 h35) (W7 Qa Qa Qa (Qx Qa (Q8 h35) Qa Qa (Qh (Qe (Qk [0,4,32] Qa (Qw Qa (fun h36=> ?_) (fun h36=> ?_)))))))))))
    ·have hS37:=hS33.drew
     refine QT [0,1,2,3,4,5,6,7,8,9,10,11,12,13,14] [13,14] Jk (by kernel_rfl) ?_
     refine QM Qa Qa Qa (QQ Qa Qa Qa XP (QH Qa Qa Qa (Qn Qa QK (hS37.cell 1 Qa Qa)) (QM Qa Qa Qa (Xw Qa Qa Qa (QQ Qa Qa Qa WI (QH Qa Qa Qa (Qn Qa Hr (hS37.cell 2 Qa Qa)) (QQ Qa Qa Qa XP (QH Qa Qa Qa (Qn Qa QK (hS37.cell 1 Qa Qa)) (QG Qa Qa Qa (fun _=>(Zc 0 Qa Qa (by rfl) (by omega) Hn)) ?_)))))))))
     refine QH Qa Qa Qa (ZS Rz 3 0 0 hS37 Qa (by rfl) Yv Qa Qa) ?_
     refine QQ Qa Qa Qa HL (QH Qa Qa Qa (Qn Qa Zw (hS37.cell 1 Qa Qa)) (Xb Qa Qa Qa Qa Qa Qa ?_))
     refine Q4 HY Qa (YC (hS37.sp [4] Qa) (hG.starL 5 Qa) (hO.starL 5 Qa) hW.a s (hW.fl _ (List.mem_of_getElem? hp))) Qa ?_
     rintro _ w38 hS38
     replace hS38:=hS38.jn Qa Qa
     have h1r:=hS38.own_one 0 Qa
     refine Xn (.skip (by kernel_rfl) (.skip (by kernel_rfl) (.skip (by kernel_rfl) (.skip (by kernel_rfl) (.cons (.inl ⟨rfl,(Qn Qa QK (hS38.cell 3 Qa Qa))⟩) .nil))))) ?_
     have hS39:=Zm (X:={X with fl:=X.fl.eraseIdx (ZU n X.fl.length).toNat,a:=(X9 X.a s).1}) (hS38.pick [4,5,1,6,2,0,3,7] Qa) (by assumption)
     refine Xb Qa Qa Qa Qa Qa Qa ?_
     refine Q4 Va Qa (Y5 (i:=false) (hS39.sp [0,1] Qa) (by have :=UF (s:=s) hW.a (hW.fl _ (List.mem_of_getElem? hp));omega)) Qa ?_
     rintro _ w40 ⟨rfl,hS40⟩
     replace hS40:=hS40.jn Qa Qa
     refine Xn (XC (by kernel_rfl)) ?_
     refine VC.nil (H5 (.inl Qa) Qa ?_)
     exact⟨_,rfl,rfl, by rw[Ej hp]; exact hS40.pick [0,2] Qa⟩
    (exfalso; have q9:=h36; simp at q9)
   (exfalso; have q9:=h35; simp at q9)
  (exfalso; have q9:=h34; simp at q9)
 refine VW (sp:=[9,10,11,15,16]) [0,1,2,3,4,5,6,7,8,15,9,10,11,12,13,14,16,17] (by kernel_rfl) ?_
 refine QM Qa Qa Qa (Xw Qa Qa Qa (QQ Qa Qa Qa ZD (QH Qa Qa Qa (Qn Qa XR (hS1.cell 0 Qa Qa)) (QM Qa Qa Qa (QM Qa Qa Qa (Xw Qa Qa Qa (QQ Qa Qa Qa ZD (QH Qa Qa Qa (Qn Qa XR (hS1.cell 0 Qa Qa)) (Xb Qa Qa Qa Qa Qa Qa ?_)))))))))
 refine Xk hS1 Jq Qa Qa ?_
 intro b41 w41 hS41
 refine Xn (.cons (.inl ⟨Qa,(Qn Qa XR (hS41.cell 1 Qa Qa))⟩) (.cons (.inl ⟨Qa,(Qn Qa XR (hS41.cell 1 Qa Qa))⟩) .nil)) (Xb Qa Qa Qa Qa Qa Qa ?_)
 refine Q4 H6 Qa (Wm (hS41.sp [5] Qa)) Qa ?_
 rintro _ w42 ⟨rfl,hS42⟩
 replace hS42:=hS42.jn Qa Qa
 refine Xn (.skip (by kernel_rfl) (.cons (.inl ⟨rfl,(Qn Qa XR (hS42.cell 2 Qa Qa))⟩) .nil)) ?_
 refine Xb Qa Qa Qa Qa Qa Qa ?_
 refine Q4 HZ Qa (HT (hS42.sp [] Qa) n (X.fl.length:Int) (by have :=hW.ln;omega)) Qa ?_
 rintro _ w43 ⟨rfl,hS43⟩
 replace hS43:=hS43.jn Qa Qa
 refine Xn (.skip (by kernel_rfl) (.cons (.inl ⟨rfl,(Qn Qa XR (hS43.cell 2 Qa Qa))⟩) .nil)) ?_
 refine Xb Qa Qa Qa Qa Qa Qa ?_
 refine Q4 HX Qa (JA (hS43.sp [0] Qa) (ZU n X.fl.length) hW.ln) Qa ?_
 rintro _ w44 ⟨rfl,hS44⟩
 replace hS44:=hS44.jn Qa Qa
 rw[(Z1 hp).1,(Z1 hp).2.2]
 rw[(Z1 hp).2.1]at hS44
 dsimp only
 refine Xn (XC (by kernel_rfl)) ?_
 refine QM Qa Qa Qa (Ha Qa Qa Qa Qa (Ha Qa Qa Qa Qa (Xb Qa Qa Qa Qa Qa Qa ?_)))
 (refine QX hS44 Qa Qa WO Qa (by rfl) (i:=1) Qa (by decide) ?_)
 intro w45 hS46; dsimp only[List.set]at hS46
 refine ZG (XC (by kernel_rfl)) ?_
 refine Jr Qa Qa Qa (VC.nil (Qe (Qk [0,4,5] Qa (Qg (Qb (Qd Qa Qa (QO Qa Qa Qa (Qd Qa Qa (Q3 23 Qa (fun h47=> ?_) (fun h47=> ?_))))))))))
 ·refine Qj Qa Qa (Q8 h47) (Qi Qa XP Qa (Qj Qa Qa (Q8 h47) (Qp Qa QK (hS46.cell 1 Qa Qa) Qa (Qj Qa Qa (Q8 h47) (Jj Qa Qa Qa (Qx Qa (Q8 h47) Qa Qa (Qd Qa Qa (Q3 28 Qa (fun h48=> ?_) (fun h48=> ?_)))))))))
  ·refine Qj Qa Qa (Q8 h48) (Qi Qa XP Qa (Qj Qa Qa (Q8 h48) (Qp Qa QK (hS46.cell 1 Qa Qa) Qa (Qj Qa Qa (Q8 h48) (W7 Qa Qa Qa (Qx Qa (Q8 h48) Qa Qa (Qh (Qe (Qk [0,4,32] Qa (Qw Qa (fun h49=> ?_) (fun h49=> ?_)))))))))))
   ·have hS50:=hS46.drew
    refine QT [0,1,2,3,4,5,6,7,8,9,10,11,12,13,14] [13,14] Jk (by kernel_rfl) ?_
    refine QM Qa Qa Qa (QQ Qa Qa Qa XP (QH Qa Qa Qa (Qn Qa QK (hS50.cell 1 Qa Qa)) (QM Qa Qa Qa (Xw Qa Qa Qa (QQ Qa Qa Qa WI (QH Qa Qa Qa (Qn Qa Hr (hS50.cell 2 Qa Qa)) (QQ Qa Qa Qa XP (QH Qa Qa Qa (Qn Qa QK (hS50.cell 1 Qa Qa)) (QG Qa Qa Qa (fun _=>(Zc 0 Qa Qa (by rfl) (by omega) Hn)) ?_)))))))))
    refine QH Qa Qa Qa (ZS Rz 3 0 0 hS50 Qa (by rfl) Yv Qa Qa) ?_
    refine QQ Qa Qa Qa HL (QH Qa Qa Qa (Qn Qa Zw (hS50.cell 1 Qa Qa)) (Xb Qa Qa Qa Qa Qa Qa ?_))
    refine Q4 HY Qa (YC (hS50.sp [4] Qa) (hG.starL 5 Qa) (hO.starL 5 Qa) hW.a s (hW.fl _ (List.mem_of_getElem? hp))) Qa ?_
    rintro _ w51 hS51
    replace hS51:=hS51.jn Qa Qa
    have h1r:=hS51.own_one 0 Qa
    refine Xn (.skip (by kernel_rfl) (.skip (by kernel_rfl) (.skip (by kernel_rfl) (.skip (by kernel_rfl) (.cons (.inl ⟨rfl,(Qn Qa QK (hS51.cell 3 Qa Qa))⟩) .nil))))) ?_
    have hS52:=Zm (X:={X with fl:=X.fl.eraseIdx (ZU n X.fl.length).toNat,a:=(X9 X.a s).1}) (hS51.pick [4,5,1,6,2,0,3,7] Qa) (by assumption)
    refine Xb Qa Qa Qa Qa Qa Qa ?_
    refine Q4 Va Qa (Y5 (i:=false) (hS52.sp [0,1] Qa) (by have :=UF (s:=s) hW.a (hW.fl _ (List.mem_of_getElem? hp));omega)) Qa ?_
    rintro _ w53 ⟨rfl,hS53⟩
    replace hS53:=hS53.jn Qa Qa
    refine Xn (XC (by kernel_rfl)) ?_
    refine VC.nil (H5 (.inl Qa) Qa ?_)
    exact⟨_,rfl,rfl, by rw[Ej hp]; exact hS53.pick [0,2] Qa⟩
   (exfalso; have q9:=h49; simp at q9)
  (exfalso; have q9:=h48; simp at q9)
 (exfalso; have q9:=h47; simp at q9)
theorem qas {w:World} [tq:Inhabited TwQ] {x:Nat} {X:TwD} {F:Th} (hS:Sat w [Ka x X,F]) (hG:Ent F WireG) (hO:Ent F (Glob 0)) (hW:XW X) (n:Int) {s:Bs} (hp:X.fl[(ZU n X.fl.length).toNat]? =some (true,s)):
    Calls prog 49 #[ptrV x 0,intV n] w (Ret fun v w'=>v= .tuple #[]∧Sat w' [Ka x (XQ X n),F]):= by
 obtain⟨eb,ecap,a,b,p,hq0,hS⟩:=JU hS
 refine Qy func49 Qa ntmps49 Qa ?_
 refine Qg ?_
 have hS1:=hS.drew
 refine DJ Jk (Hp 9 15 Qa ?_ ?_)
 ·refine Hp 10 15 Qa ?_ ?_
  ·refine Hp 11 15 Qa ?_ ?_
   ·refine VW (sp:=[9,10,11,15,16]) [0,1,2,3,4,5,6,7,8,9,10,11,12,13,14,15,16,17] (by kernel_rfl) ?_
    refine QM Qa Qa Qa (Xw Qa Qa Qa (QQ Qa Qa Qa ZD (QH Qa Qa Qa (Qn Qa XR (hS1.cell 0 Qa Qa)) (QM Qa Qa Qa (QM Qa Qa Qa (Xw Qa Qa Qa (QQ Qa Qa Qa ZD (QH Qa Qa Qa (Qn Qa XR (hS1.cell 0 Qa Qa)) (Xb Qa Qa Qa Qa Qa Qa ?_)))))))))
    refine Q4 H6 Qa (Wm (hS1.sp [4] Qa)) Qa ?_
    rintro _ w2 ⟨rfl,hS2⟩
    replace hS2:=hS2.jn Qa Qa
    refine Xn (.skip (by kernel_rfl) (.cons (.inl ⟨rfl,(Qn Qa XR (hS2.cell 1 Qa Qa))⟩) .nil)) ?_
    refine Xb Qa Qa Qa Qa Qa Qa ?_
    refine Q4 HZ Qa (HT (hS2.sp [] Qa) n (X.fl.length:Int) (by have :=hW.ln;omega)) Qa ?_
    rintro _ w3 ⟨rfl,hS3⟩
    replace hS3:=hS3.jn Qa Qa
    refine Xn (.skip (by kernel_rfl) (.cons (.inl ⟨rfl,(Qn Qa XR (hS3.cell 1 Qa Qa))⟩) .nil)) ?_
    refine Xb Qa Qa Qa Qa Qa Qa ?_
    refine Q4 HX Qa (JA (hS3.sp [0] Qa) (ZU n X.fl.length) hW.ln) Qa ?_
    rintro _ w4 ⟨rfl,hS4⟩
    replace hS4:=hS4.jn Qa Qa
    rw[(Z1 hp).1,(Z1 hp).2.2]
    rw[(Z1 hp).2.1]at hS4
    dsimp only
    refine Xn (XC (by kernel_rfl)) ?_
    refine QM Qa Qa Qa (Ha Qa Qa Qa Qa (Ha Qa Qa Qa Qa (Xb Qa Qa Qa Qa Qa Qa ?_)))
    refine Xk hS4 Jq Qa Qa ?_
    intro b5 w5 hS5
    refine Xn (XC (by kernel_rfl)) ?_
    refine Xb Qa Qa Qa Qa Qa Qa ?_
    (refine QX hS5 Qa Qa WO Qa (by rfl) (i:=0) Qa (by decide) ?_)
    intro w6 hS7; dsimp only[List.set]at hS7
    refine ZG (XC (by kernel_rfl)) ?_
    refine Jr Qa Qa Qa (VC.nil (Qe (Qk [0,4,5] Qa (Qg (Qb (Qd Qa Qa (QO Qa Qa Qa (Qd Qa Qa (Q3 23 Qa (fun h8=> ?_) (fun h8=> ?_))))))))))
    ·refine Qj Qa Qa (Q8 h8) (Qi Qa XP Qa (Qj Qa Qa (Q8 h8) (Qp Qa QK (hS7.cell 0 Qa Qa) Qa (Qj Qa Qa (Q8 h8) (Jj Qa Qa Qa (Qx Qa (Q8 h8) Qa Qa (Qd Qa Qa (Q3 28 Qa (fun h9=> ?_) (fun h9=> ?_)))))))))
     ·refine Qj Qa Qa (Q8 h9) (Qi Qa XP Qa (Qj Qa Qa (Q8 h9) (Qp Qa QK (hS7.cell 0 Qa Qa) Qa (Qj Qa Qa (Q8 h9) (W7 Qa Qa Qa (Qx Qa (Q8 h9) Qa Qa (Qh (Qe (Qk [0,4,32] Qa (Qw Qa (fun h10=> ?_) (fun h10=> ?_)))))))))))
      ·have hS11:=hS7.drew
       refine QT [0,1,2,3,4,5,6,7,8,9,10,11,12,13,14] [13,14] Jk (by kernel_rfl) ?_
       refine QM Qa Qa Qa (QQ Qa Qa Qa XP (QH Qa Qa Qa (Qn Qa QK (hS11.cell 0 Qa Qa)) (QM Qa Qa Qa (Xw Qa Qa Qa (QQ Qa Qa Qa WI (QH Qa Qa Qa (Qn Qa Hr (hS11.cell 2 Qa Qa)) (QQ Qa Qa Qa XP (QH Qa Qa Qa (Qn Qa QK (hS11.cell 0 Qa Qa)) (QG Qa Qa Qa (fun _=>(Zc 1 Qa Qa (by rfl) (by omega) Hn)) ?_)))))))))
       refine QH Qa Qa Qa (ZS Rz 3 1 0 hS11 Qa (by rfl) Yv Qa Qa) ?_
       refine QQ Qa Qa Qa HL (QH Qa Qa Qa (Qn Qa Zw (hS11.cell 0 Qa Qa)) (Xb Qa Qa Qa Qa Qa Qa ?_))
       refine Q4 HY Qa (YC (hS11.sp [5] Qa) (hG.starL 5 Qa) (hO.starL 5 Qa) hW.b s (hW.fl _ (List.mem_of_getElem? hp))) Qa ?_
       rintro _ w12 hS12
       replace hS12:=hS12.jn Qa Qa
       have h1r:=hS12.own_one 0 Qa
       refine Xn (.skip (by kernel_rfl) (.skip (by kernel_rfl) (.skip (by kernel_rfl) (.skip (by kernel_rfl) (.cons (.inl ⟨rfl,(Qn Qa QK (hS12.cell 2 Qa Qa))⟩) .nil))))) ?_
       have hS13:=Zm (X:={X with fl:=X.fl.eraseIdx (ZU n X.fl.length).toNat,b:=(X9 X.b s).1}) (hS12.pick [4,5,6,1,3,0,2,7] Qa) (by assumption)
       refine Xb Qa Qa Qa Qa Qa Qa ?_
       refine Q4 Va Qa (Y5 (i:=true) (hS13.sp [0,1] Qa) (by have :=UF (s:=s) hW.b (hW.fl _ (List.mem_of_getElem? hp));omega)) Qa ?_
       rintro _ w14 ⟨rfl,hS14⟩
       replace hS14:=hS14.jn Qa Qa
       refine Xn (XC (by kernel_rfl)) ?_
       refine VC.nil (H5 (.inl Qa) Qa ?_)
       exact⟨_,rfl,rfl, by rw[Eh hp]; exact hS14.pick [0,2] Qa⟩
      (exfalso; have q9:=h10; simp at q9)
     (exfalso; have q9:=h9; simp at q9)
    (exfalso; have q9:=h8; simp at q9)
   refine VW (sp:=[9,10,11,15,16]) [0,1,2,3,4,5,6,7,8,9,10,15,11,12,13,14,16,17] (by kernel_rfl) ?_
   refine QM Qa Qa Qa (Xw Qa Qa Qa (QQ Qa Qa Qa ZD (QH Qa Qa Qa (Qn Qa XR (hS1.cell 0 Qa Qa)) (QM Qa Qa Qa (QM Qa Qa Qa (Xw Qa Qa Qa (QQ Qa Qa Qa ZD (QH Qa Qa Qa (Qn Qa XR (hS1.cell 0 Qa Qa)) (Xb Qa Qa Qa Qa Qa Qa ?_)))))))))
   refine Q4 H6 Qa (Wm (hS1.sp [4] Qa)) Qa ?_
   rintro _ w15 ⟨rfl,hS15⟩
   replace hS15:=hS15.jn Qa Qa
   refine Xn (.skip (by kernel_rfl) (.cons (.inl ⟨rfl,(Qn Qa XR (hS15.cell 1 Qa Qa))⟩) .nil)) ?_
   refine Xb Qa Qa Qa Qa Qa Qa ?_
   refine Q4 HZ Qa (HT (hS15.sp [] Qa) n (X.fl.length:Int) (by have :=hW.ln;omega)) Qa ?_
   rintro _ w16 ⟨rfl,hS16⟩
   replace hS16:=hS16.jn Qa Qa
   refine Xn (.skip (by kernel_rfl) (.cons (.inl ⟨rfl,(Qn Qa XR (hS16.cell 1 Qa Qa))⟩) .nil)) ?_
   refine Xb Qa Qa Qa Qa Qa Qa ?_
   refine Xk hS16 Jq Qa Qa ?_
   intro b17 w17 hS17
   refine Xn (.skip (by kernel_rfl) (.cons (.inl ⟨rfl,(Qn Qa XR (hS17.cell 2 Qa Qa))⟩) .nil)) ?_
   refine Xb Qa Qa Qa Qa Qa Qa ?_
   refine Q4 HX Qa (JA (hS17.sp [1] Qa) (ZU n X.fl.length) hW.ln) Qa ?_
   rintro _ w18 ⟨rfl,hS18⟩
   replace hS18:=hS18.jn Qa Qa
   rw[(Z1 hp).1,(Z1 hp).2.2]
   rw[(Z1 hp).2.1]at hS18
   dsimp only
   refine Xn (XC (by kernel_rfl)) ?_
   refine QM Qa Qa Qa (Ha Qa Qa Qa Qa (Ha Qa Qa Qa Qa (Xb Qa Qa Qa Qa Qa Qa ?_)))
   (refine QX hS18 Qa Qa WO Qa (by rfl) (i:=1) Qa (by decide) ?_)
   intro w19 hS20; dsimp only[List.set]at hS20
   refine ZG (XC (by kernel_rfl)) ?_
   refine Jr Qa Qa Qa (VC.nil (Qe (Qk [0,4,5] Qa (Qg (Qb (Qd Qa Qa (QO Qa Qa Qa (Qd Qa Qa (Q3 23 Qa (fun h21=> ?_) (fun h21=> ?_))))))))))
   ·refine Qj Qa Qa (Q8 h21) (Qi Qa XP Qa (Qj Qa Qa (Q8 h21) (Qp Qa QK (hS20.cell 1 Qa Qa) Qa (Qj Qa Qa (Q8 h21) (Jj Qa Qa Qa (Qx Qa (Q8 h21) Qa Qa (Qd Qa Qa (Q3 28 Qa (fun h22=> ?_) (fun h22=> ?_)))))))))
    ·refine Qj Qa Qa (Q8 h22) (Qi Qa XP Qa (Qj Qa Qa (Q8 h22) (Qp Qa QK (hS20.cell 1 Qa Qa) Qa (Qj Qa Qa (Q8 h22) (W7 Qa Qa Qa (Qx Qa (Q8 h22) Qa Qa (Qh (Qe (Qk [0,4,32] Qa (Qw Qa (fun h23=> ?_) (fun h23=> ?_)))))))))))
     ·have hS24:=hS20.drew
      refine QT [0,1,2,3,4,5,6,7,8,9,10,11,12,13,14] [13,14] Jk (by kernel_rfl) ?_
      refine QM Qa Qa Qa (QQ Qa Qa Qa XP (QH Qa Qa Qa (Qn Qa QK (hS24.cell 1 Qa Qa)) (QM Qa Qa Qa (Xw Qa Qa Qa (QQ Qa Qa Qa WI (QH Qa Qa Qa (Qn Qa Hr (hS24.cell 2 Qa Qa)) (QQ Qa Qa Qa XP (QH Qa Qa Qa (Qn Qa QK (hS24.cell 1 Qa Qa)) (QG Qa Qa Qa (fun _=>(Zc 1 Qa Qa (by rfl) (by omega) Hn)) ?_)))))))))
      refine QH Qa Qa Qa (ZS Rz 3 1 0 hS24 Qa (by rfl) Yv Qa Qa) ?_
      refine QQ Qa Qa Qa HL (QH Qa Qa Qa (Qn Qa Zw (hS24.cell 1 Qa Qa)) (Xb Qa Qa Qa Qa Qa Qa ?_))
      refine Q4 HY Qa (YC (hS24.sp [5] Qa) (hG.starL 5 Qa) (hO.starL 5 Qa) hW.b s (hW.fl _ (List.mem_of_getElem? hp))) Qa ?_
      rintro _ w25 hS25
      replace hS25:=hS25.jn Qa Qa
      have h1r:=hS25.own_one 0 Qa
      refine Xn (.skip (by kernel_rfl) (.skip (by kernel_rfl) (.skip (by kernel_rfl) (.skip (by kernel_rfl) (.cons (.inl ⟨rfl,(Qn Qa QK (hS25.cell 3 Qa Qa))⟩) .nil))))) ?_
      have hS26:=Zm (X:={X with fl:=X.fl.eraseIdx (ZU n X.fl.length).toNat,b:=(X9 X.b s).1}) (hS25.pick [4,5,6,1,2,0,3,7] Qa) (by assumption)
      refine Xb Qa Qa Qa Qa Qa Qa ?_
      refine Q4 Va Qa (Y5 (i:=true) (hS26.sp [0,1] Qa) (by have :=UF (s:=s) hW.b (hW.fl _ (List.mem_of_getElem? hp));omega)) Qa ?_
      rintro _ w27 ⟨rfl,hS27⟩
      replace hS27:=hS27.jn Qa Qa
      refine Xn (XC (by kernel_rfl)) ?_
      refine VC.nil (H5 (.inl Qa) Qa ?_)
      exact⟨_,rfl,rfl, by rw[Eh hp]; exact hS27.pick [0,2] Qa⟩
     (exfalso; have q9:=h23; simp at q9)
    (exfalso; have q9:=h22; simp at q9)
   (exfalso; have q9:=h21; simp at q9)
  refine VW (sp:=[9,10,11,15,16]) [0,1,2,3,4,5,6,7,8,9,15,10,11,12,13,14,16,17] (by kernel_rfl) ?_
  refine QM Qa Qa Qa (Xw Qa Qa Qa (QQ Qa Qa Qa ZD (QH Qa Qa Qa (Qn Qa XR (hS1.cell 0 Qa Qa)) (QM Qa Qa Qa (QM Qa Qa Qa (Xw Qa Qa Qa (QQ Qa Qa Qa ZD (QH Qa Qa Qa (Qn Qa XR (hS1.cell 0 Qa Qa)) (Xb Qa Qa Qa Qa Qa Qa ?_)))))))))
  refine Q4 H6 Qa (Wm (hS1.sp [4] Qa)) Qa ?_
  rintro _ w28 ⟨rfl,hS28⟩
  replace hS28:=hS28.jn Qa Qa
  refine Xn (.skip (by kernel_rfl) (.cons (.inl ⟨rfl,(Qn Qa XR (hS28.cell 1 Qa Qa))⟩) .nil)) ?_
  refine Xb Qa Qa Qa Qa Qa Qa ?_
  refine Xk hS28 Jq Qa Qa ?_
  intro b29 w29 hS29
  refine Xn (.skip (by kernel_rfl) (.cons (.inl ⟨rfl,(Qn Qa XR (hS29.cell 2 Qa Qa))⟩) .nil)) ?_
  refine Xb Qa Qa Qa Qa Qa Qa ?_
  refine Q4 HZ Qa (HT (hS29.sp [] Qa) n (X.fl.length:Int) (by have :=hW.ln;omega)) Qa ?_
  rintro _ w30 ⟨rfl,hS30⟩
  replace hS30:=hS30.jn Qa Qa
  refine Xn (.skip (by kernel_rfl) (.cons (.inl ⟨rfl,(Qn Qa XR (hS30.cell 2 Qa Qa))⟩) .nil)) ?_
  refine Xb Qa Qa Qa Qa Qa Qa ?_
  refine Q4 HX Qa (JA (hS30.sp [1] Qa) (ZU n X.fl.length) hW.ln) Qa ?_
  rintro _ w31 ⟨rfl,hS31⟩
  replace hS31:=hS31.jn Qa Qa
  rw[(Z1 hp).1,(Z1 hp).2.2]
  rw[(Z1 hp).2.1]at hS31
  dsimp only
  refine Xn (XC (by kernel_rfl)) ?_
  refine QM Qa Qa Qa (Ha Qa Qa Qa Qa (Ha Qa Qa Qa Qa (Xb Qa Qa Qa Qa Qa Qa ?_)))
  (refine QX hS31 Qa Qa WO Qa (by rfl) (i:=1) Qa (by decide) ?_)
  intro w32 hS33; dsimp only[List.set]at hS33
  refine ZG (XC (by kernel_rfl)) ?_
  refine Jr Qa Qa Qa (VC.nil (Qe (Qk [0,4,5] Qa (Qg (Qb (Qd Qa Qa (QO Qa Qa Qa (Qd Qa Qa (Q3 23 Qa (fun h34=> ?_) (fun h34=> ?_))))))))))
  ·refine Qj Qa Qa (Q8 h34) (Qi Qa XP Qa (Qj Qa Qa (Q8 h34) (Qp Qa QK (hS33.cell 1 Qa Qa) Qa (Qj Qa Qa (Q8 h34) (Jj Qa Qa Qa (Qx Qa (Q8 h34) Qa Qa (Qd Qa Qa (Q3 28 Qa (fun h35=> ?_) (fun h35=> ?_)))))))))
   ·refine Qj Qa Qa (Q8 h35) (Qi Qa XP Qa (Qj Qa Qa (Q8 h35) (Qp Qa QK (hS33.cell 1 Qa Qa) Qa (Qj Qa Qa (Q8 h35) (W7 Qa Qa Qa (Qx Qa (Q8 h35) Qa Qa (Qh (Qe (Qk [0,4,32] Qa (Qw Qa (fun h36=> ?_) (fun h36=> ?_)))))))))))
    ·have hS37:=hS33.drew
     refine QT [0,1,2,3,4,5,6,7,8,9,10,11,12,13,14] [13,14] Jk (by kernel_rfl) ?_
     refine QM Qa Qa Qa (QQ Qa Qa Qa XP (QH Qa Qa Qa (Qn Qa QK (hS37.cell 1 Qa Qa)) (QM Qa Qa Qa (Xw Qa Qa Qa (QQ Qa Qa Qa WI (QH Qa Qa Qa (Qn Qa Hr (hS37.cell 2 Qa Qa)) (QQ Qa Qa Qa XP (QH Qa Qa Qa (Qn Qa QK (hS37.cell 1 Qa Qa)) (QG Qa Qa Qa (fun _=>(Zc 1 Qa Qa (by rfl) (by omega) Hn)) ?_)))))))))
     refine QH Qa Qa Qa (ZS Rz 3 1 0 hS37 Qa (by rfl) Yv Qa Qa) ?_
     refine QQ Qa Qa Qa HL (QH Qa Qa Qa (Qn Qa Zw (hS37.cell 1 Qa Qa)) (Xb Qa Qa Qa Qa Qa Qa ?_))
     refine Q4 HY Qa (YC (hS37.sp [5] Qa) (hG.starL 5 Qa) (hO.starL 5 Qa) hW.b s (hW.fl _ (List.mem_of_getElem? hp))) Qa ?_
     rintro _ w38 hS38
     replace hS38:=hS38.jn Qa Qa
     have h1r:=hS38.own_one 0 Qa
     refine Xn (.skip (by kernel_rfl) (.skip (by kernel_rfl) (.skip (by kernel_rfl) (.skip (by kernel_rfl) (.cons (.inl ⟨rfl,(Qn Qa QK (hS38.cell 3 Qa Qa))⟩) .nil))))) ?_
     have hS39:=Zm (X:={X with fl:=X.fl.eraseIdx (ZU n X.fl.length).toNat,b:=(X9 X.b s).1}) (hS38.pick [4,5,6,1,2,0,3,7] Qa) (by assumption)
     refine Xb Qa Qa Qa Qa Qa Qa ?_
     refine Q4 Va Qa (Y5 (i:=true) (hS39.sp [0,1] Qa) (by have :=UF (s:=s) hW.b (hW.fl _ (List.mem_of_getElem? hp));omega)) Qa ?_
     rintro _ w40 ⟨rfl,hS40⟩
     replace hS40:=hS40.jn Qa Qa
     refine Xn (XC (by kernel_rfl)) ?_
     refine VC.nil (H5 (.inl Qa) Qa ?_)
     exact⟨_,rfl,rfl, by rw[Eh hp]; exact hS40.pick [0,2] Qa⟩
    (exfalso; have q9:=h36; simp at q9)
   (exfalso; have q9:=h35; simp at q9)
  (exfalso; have q9:=h34; simp at q9)
 refine VW (sp:=[9,10,11,15,16]) [0,1,2,3,4,5,6,7,8,15,9,10,11,12,13,14,16,17] (by kernel_rfl) ?_
 refine QM Qa Qa Qa (Xw Qa Qa Qa (QQ Qa Qa Qa ZD (QH Qa Qa Qa (Qn Qa XR (hS1.cell 0 Qa Qa)) (QM Qa Qa Qa (QM Qa Qa Qa (Xw Qa Qa Qa (QQ Qa Qa Qa ZD (QH Qa Qa Qa (Qn Qa XR (hS1.cell 0 Qa Qa)) (Xb Qa Qa Qa Qa Qa Qa ?_)))))))))
 refine Xk hS1 Jq Qa Qa ?_
 intro b41 w41 hS41
 refine Xn (.cons (.inl ⟨Qa,(Qn Qa XR (hS41.cell 1 Qa Qa))⟩) (.cons (.inl ⟨Qa,(Qn Qa XR (hS41.cell 1 Qa Qa))⟩) .nil)) (Xb Qa Qa Qa Qa Qa Qa ?_)
 refine Q4 H6 Qa (Wm (hS41.sp [5] Qa)) Qa ?_
 rintro _ w42 ⟨rfl,hS42⟩
 replace hS42:=hS42.jn Qa Qa
 refine Xn (.skip (by kernel_rfl) (.cons (.inl ⟨rfl,(Qn Qa XR (hS42.cell 2 Qa Qa))⟩) .nil)) ?_
 refine Xb Qa Qa Qa Qa Qa Qa ?_
 refine Q4 HZ Qa (HT (hS42.sp [] Qa) n (X.fl.length:Int) (by have :=hW.ln;omega)) Qa ?_
 rintro _ w43 ⟨rfl,hS43⟩
 replace hS43:=hS43.jn Qa Qa
 refine Xn (.skip (by kernel_rfl) (.cons (.inl ⟨rfl,(Qn Qa XR (hS43.cell 2 Qa Qa))⟩) .nil)) ?_
 refine Xb Qa Qa Qa Qa Qa Qa ?_
 refine Q4 HX Qa (JA (hS43.sp [0] Qa) (ZU n X.fl.length) hW.ln) Qa ?_
 rintro _ w44 ⟨rfl,hS44⟩
 replace hS44:=hS44.jn Qa Qa
 rw[(Z1 hp).1,(Z1 hp).2.2]
 rw[(Z1 hp).2.1]at hS44
 dsimp only
 refine Xn (XC (by kernel_rfl)) ?_
 refine QM Qa Qa Qa (Ha Qa Qa Qa Qa (Ha Qa Qa Qa Qa (Xb Qa Qa Qa Qa Qa Qa ?_)))
 (refine QX hS44 Qa Qa WO Qa (by rfl) (i:=1) Qa (by decide) ?_)
 intro w45 hS46; dsimp only[List.set]at hS46
 refine ZG (XC (by kernel_rfl)) ?_
 refine Jr Qa Qa Qa (VC.nil (Qe (Qk [0,4,5] Qa (Qg (Qb (Qd Qa Qa (QO Qa Qa Qa (Qd Qa Qa (Q3 23 Qa (fun h47=> ?_) (fun h47=> ?_))))))))))
 ·refine Qj Qa Qa (Q8 h47) (Qi Qa XP Qa (Qj Qa Qa (Q8 h47) (Qp Qa QK (hS46.cell 1 Qa Qa) Qa (Qj Qa Qa (Q8 h47) (Jj Qa Qa Qa (Qx Qa (Q8 h47) Qa Qa (Qd Qa Qa (Q3 28 Qa (fun h48=> ?_) (fun h48=> ?_)))))))))
  ·refine Qj Qa Qa (Q8 h48) (Qi Qa XP Qa (Qj Qa Qa (Q8 h48) (Qp Qa QK (hS46.cell 1 Qa Qa) Qa (Qj Qa Qa (Q8 h48) (W7 Qa Qa Qa (Qx Qa (Q8 h48) Qa Qa (Qh (Qe (Qk [0,4,32] Qa (Qw Qa (fun h49=> ?_) (fun h49=> ?_)))))))))))
   ·have hS50:=hS46.drew
    refine QT [0,1,2,3,4,5,6,7,8,9,10,11,12,13,14] [13,14] Jk (by kernel_rfl) ?_
    refine QM Qa Qa Qa (QQ Qa Qa Qa XP (QH Qa Qa Qa (Qn Qa QK (hS50.cell 1 Qa Qa)) (QM Qa Qa Qa (Xw Qa Qa Qa (QQ Qa Qa Qa WI (QH Qa Qa Qa (Qn Qa Hr (hS50.cell 2 Qa Qa)) (QQ Qa Qa Qa XP (QH Qa Qa Qa (Qn Qa QK (hS50.cell 1 Qa Qa)) (QG Qa Qa Qa (fun _=>(Zc 1 Qa Qa (by rfl) (by omega) Hn)) ?_)))))))))
    refine QH Qa Qa Qa (ZS Rz 3 1 0 hS50 Qa (by rfl) Yv Qa Qa) ?_
    refine QQ Qa Qa Qa HL (QH Qa Qa Qa (Qn Qa Zw (hS50.cell 1 Qa Qa)) (Xb Qa Qa Qa Qa Qa Qa ?_))
    refine Q4 HY Qa (YC (hS50.sp [5] Qa) (hG.starL 5 Qa) (hO.starL 5 Qa) hW.b s (hW.fl _ (List.mem_of_getElem? hp))) Qa ?_
    rintro _ w51 hS51
    replace hS51:=hS51.jn Qa Qa
    have h1r:=hS51.own_one 0 Qa
    refine Xn (.skip (by kernel_rfl) (.skip (by kernel_rfl) (.skip (by kernel_rfl) (.skip (by kernel_rfl) (.cons (.inl ⟨rfl,(Qn Qa QK (hS51.cell 3 Qa Qa))⟩) .nil))))) ?_
    have hS52:=Zm (X:={X with fl:=X.fl.eraseIdx (ZU n X.fl.length).toNat,b:=(X9 X.b s).1}) (hS51.pick [4,5,6,1,2,0,3,7] Qa) (by assumption)
    refine Xb Qa Qa Qa Qa Qa Qa ?_
    refine Q4 Va Qa (Y5 (i:=true) (hS52.sp [0,1] Qa) (by have :=UF (s:=s) hW.b (hW.fl _ (List.mem_of_getElem? hp));omega)) Qa ?_
    rintro _ w53 ⟨rfl,hS53⟩
    replace hS53:=hS53.jn Qa Qa
    refine Xn (XC (by kernel_rfl)) ?_
    refine VC.nil (H5 (.inl Qa) Qa ?_)
    exact⟨_,rfl,rfl, by rw[Eh hp]; exact hS53.pick [0,2] Qa⟩
   (exfalso; have q9:=h49; simp at q9)
  (exfalso; have q9:=h48; simp at q9)
 (exfalso; have q9:=h47; simp at q9)
theorem Fm {w:World} [tq:Inhabited TwQ] {x:Nat} {X:TwD} {F:Th} (hS:Sat w [Ka x X,F]) (hG:Ent F WireG) (hO:Ent F (Glob 0)) (hW:XW X) (n:Int):
    Calls prog 49 #[ptrV x 0,intV n] w (Ret fun v w'=>v= .tuple #[]∧Sat w' [Ka x (XQ X n),F]):= by
  cases hp:X.fl[(ZU n X.fl.length).toNat]? with
  | none=> exact qat hS hG hO hW n hp
  | some q=>
    obtain⟨i,s⟩:=q
    cases i with
    | false=> exact qau hS hG hO hW n hp
    | true=> exact qas hS hG hO hW n hp
