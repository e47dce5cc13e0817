/- move: Hear -/
import Derived.Test.YtiibgheijbbmaaaGreatDoorMvy6
set_option linter.unusedVariables false
set_option maxRecDepth 100000
set_option maxHeartbeats 2000000
namespace Go.Proofs.YtiibgheijbbmaaaGreatDoor
open Go.RowKit M Proofs.Tryz
noncomputable def VN (e:Nat):Int→Option Value:=(upd (upd (upd (upd (upd (upd (upd (upd (upd (upd (fun _=>none) 0 (some (.func (.func 70) #[ptrV e 0] #[]))) 1 (some (.func (.func 71) #[ptrV e 0] #[]))) 2 (some (.func (.func 72) #[ptrV e 0] #[]))) 3 (some (.func (.func 72) #[ptrV e 0] #[]))) 4 (some (.func (.func 73) #[ptrV e 0] #[]))) 5 (some (.func (.func 74) #[ptrV e 0] #[]))) 6 (some (.func (.func 75) #[ptrV e 0] #[]))) 7 (some (.func (.func 76) #[ptrV e 0] #[]))) 8 (some (.func (.func 77) #[ptrV e 0] #[]))) 9 (some (.func (.func 78) #[ptrV e 0] #[])))
theorem hd_out {e:Nat} {k:Int} (h:k<0∨9<k):VN e k=none:= by
  unfold VN upd
  rw[if_neg (by omega),if_neg (by omega),if_neg (by omega),if_neg (by omega),if_neg (by omega),if_neg (by omega),if_neg (by omega),if_neg (by omega),if_neg (by omega),if_neg (by omega)]
theorem hd_0 {e:Nat}:VN e 0=some (.func (.func 70) #[ptrV e 0] #[]):= by unfold VN upd; simp
theorem hd_1 {e:Nat}:VN e 1=some (.func (.func 71) #[ptrV e 0] #[]):= by unfold VN upd; simp
theorem hd_2 {e:Nat}:VN e 2=some (.func (.func 72) #[ptrV e 0] #[]):= by unfold VN upd; simp
theorem hd_3 {e:Nat}:VN e 3=some (.func (.func 72) #[ptrV e 0] #[]):= by unfold VN upd; simp
theorem hd_4 {e:Nat}:VN e 4=some (.func (.func 73) #[ptrV e 0] #[]):= by unfold VN upd; simp
theorem hd_5 {e:Nat}:VN e 5=some (.func (.func 74) #[ptrV e 0] #[]):= by unfold VN upd; simp
theorem hd_6 {e:Nat}:VN e 6=some (.func (.func 75) #[ptrV e 0] #[]):= by unfold VN upd; simp
theorem hd_7 {e:Nat}:VN e 7=some (.func (.func 76) #[ptrV e 0] #[]):= by unfold VN upd; simp
theorem hd_8 {e:Nat}:VN e 8=some (.func (.func 77) #[ptrV e 0] #[]):= by unfold VN upd; simp
theorem hd_9 {e:Nat}:VN e 9=some (.func (.func 78) #[ptrV e 0] #[]):= by unfold VN upd; simp
theorem CR {e:Nat} {k:Int} (h:(VN e k).isSome=true):k=0∨k=1∨k=2∨k=3∨k=4∨k=5∨k=6∨k=7∨k=8∨k=9:= by
  by_cases q:k<0∨9<k
  · rw[hd_out q]at h; cases h
  · omega
theorem hd_none {e:Nat} {k:Int} (h:(VN e k).isSome=false):k<0∨9<k:= by
  by_cases q:k<0∨9<k
  · exact q
  · exfalso
    have q2:k=0∨k=1∨k=2∨k=3∨k=4∨k=5∨k=6∨k=7∨k=8∨k=9:= by omega
    rcases q2 with q2 | q2 | q2 | q2 | q2 | q2 | q2 | q2 | q2 | q2<;> subst q2
    · rw[hd_0]at h; cases h
    · rw[hd_1]at h; cases h
    · rw[hd_2]at h; cases h
    · rw[hd_3]at h; cases h
    · rw[hd_4]at h; cases h
    · rw[hd_5]at h; cases h
    · rw[hd_6]at h; cases h
    · rw[hd_7]at h; cases h
    · rw[hd_8]at h; cases h
    · rw[hd_9]at h; cases h
section
variable {E:EnD} {s:Bs} {m:MsD}
theorem HD (h:upE E=false∨(QX s).kind<0∨9<(QX s).kind∨(QX s).move<0∨4611686018427387904<(QX s).move∨WQ (QX s)≠s):Zt E s=(E,[]):= by unfold Zt; rw[if_pos h]
theorem W4 (h: ¬(upE E=false∨(QX s).kind<0∨9<(QX s).kind∨(QX s).move<0∨4611686018427387904<(QX s).move∨WQ (QX s)≠s)):Zt E s=XS E (QX s):= by unfold Zt; rw[if_neg h]
theorem OS (h:m.kind=0):XS E m=(X6 E m,[]):= by unfold XS; simp [h]
theorem PO (h:m.kind=1):XS E m=X3 E m:= by unfold XS; simp [h]
theorem MC (h:m.kind=2):XS E m=Xj E m:= by unfold XS; simp [h]
theorem PN (h:m.kind=3):XS E m=Xj E m:= by unfold XS; simp [h]
theorem MB (h:m.kind=4):XS E m=(X7 E m,[]):= by unfold XS; simp [h]
theorem OR (h:m.kind=5):XS E m=(WI E m,[]):= by unfold XS; simp [h]
theorem OQ (h:m.kind=6):XS E m=(E,Z8 E m):= by unfold XS; simp [h]
theorem OP (h:m.kind=7):XS E m=(ZI E m,[]):= by unfold XS; simp [h]
theorem OO (h:m.kind=8):XS E m=ZJ E m:= by unfold XS; simp [h]
theorem ON (h:m.kind=9):XS E m=(Jo E m,[]):= by unfold XS; simp [h]
end
theorem Y8 {w:World} {e:Nat} {E:EnD} {F:Th} (hS:Sat w [Xu e E,F]) (hG:Ent F WireG) (hO:Ent F (Glob 0)) (hW:EW E) (s:Bs) (hs:s.length≤1000):
    Calls prog 37 #[ptrV e 0,strV s] w (Ret fun v w'=>Sat w' [rowT Z2 v (Zt E s).2,Xu e (Zt E s).1,F]):= by
 refine Qx func37 Qa ntmps37 Qa ?_
 obtain⟨hd1,hd2,hd3,hd4,hd5⟩:=KZ s
 refine Qg (Qb (Qc Qa Qa (Qh (Qd (Qg (Qb (Qe Qa Qa (Qz F8 Qa (DG (hS.sp [] Qa) s) Qa ?_))))))))
 rintro _ w1 ⟨rb,rfl,hS1⟩
 replace hS1:=hS1.jn Qa Qa
 refine Qc Qa Qa (Qh (Qd (Qg (Qb (Qe Qa Qa ?_)))))
 refine Qz Kt Qa (UE (hS1.sp [0] Qa) (hG.starL 1 Qa) (by have a0:=XI 59 (-9223372036854775808:Int) (s,false); have a1:=XI 59 (-9223372036854775808:Int) (Zd 59 (-9223372036854775808:Int) ((s,false))); have a2:=XI 59 (-9223372036854775808:Int) (Zd 59 (-9223372036854775808:Int) (Zd 59 (-9223372036854775808:Int) ((s,false)))); have a3:=XI 59 (-9223372036854775808:Int) (Zd 59 (-9223372036854775808:Int) (Zd 59 (-9223372036854775808:Int) (Zd 59 (-9223372036854775808:Int) ((s,false))))); have b0:(s,false).1.length=s.length:=rfl;omega)) Qa ?_
 rintro _ w2 ⟨rfl,hS2⟩
 replace hS2:=hS2.jn Qa Qa
 refine Qe Qa Qa ?_
 refine Qz Kt Qa (UE (hS2.sp [0] Qa) (hG.starL 1 Qa) (by have a0:=XI 59 (-9223372036854775808:Int) (s,false); have a1:=XI 59 (-9223372036854775808:Int) (Zd 59 (-9223372036854775808:Int) ((s,false))); have a2:=XI 59 (-9223372036854775808:Int) (Zd 59 (-9223372036854775808:Int) (Zd 59 (-9223372036854775808:Int) ((s,false)))); have a3:=XI 59 (-9223372036854775808:Int) (Zd 59 (-9223372036854775808:Int) (Zd 59 (-9223372036854775808:Int) (Zd 59 (-9223372036854775808:Int) ((s,false))))); have b0:(s,false).1.length=s.length:=rfl;omega)) Qa ?_
 rintro _ w3 ⟨rfl,hS3⟩
 replace hS3:=hS3.jn Qa Qa
 refine Qe Qa Qa ?_
 refine Qz Kt Qa (UE (hS3.sp [0] Qa) (hG.starL 1 Qa) (by have a0:=XI 59 (-9223372036854775808:Int) (s,false); have a1:=XI 59 (-9223372036854775808:Int) (Zd 59 (-9223372036854775808:Int) ((s,false))); have a2:=XI 59 (-9223372036854775808:Int) (Zd 59 (-9223372036854775808:Int) (Zd 59 (-9223372036854775808:Int) ((s,false)))); have a3:=XI 59 (-9223372036854775808:Int) (Zd 59 (-9223372036854775808:Int) (Zd 59 (-9223372036854775808:Int) (Zd 59 (-9223372036854775808:Int) ((s,false))))); have b0:(s,false).1.length=s.length:=rfl;omega)) Qa ?_
 rintro _ w4 ⟨rfl,hS4⟩
 replace hS4:=hS4.jn Qa Qa
 refine Qe Qa Qa ?_
 refine Qz Kt Qa (UE (hS4.sp [0] Qa) (hG.starL 1 Qa) (by have a0:=XI 59 (-9223372036854775808:Int) (s,false); have a1:=XI 59 (-9223372036854775808:Int) (Zd 59 (-9223372036854775808:Int) ((s,false))); have a2:=XI 59 (-9223372036854775808:Int) (Zd 59 (-9223372036854775808:Int) (Zd 59 (-9223372036854775808:Int) ((s,false)))); have a3:=XI 59 (-9223372036854775808:Int) (Zd 59 (-9223372036854775808:Int) (Zd 59 (-9223372036854775808:Int) (Zd 59 (-9223372036854775808:Int) ((s,false))))); have b0:(s,false).1.length=s.length:=rfl;omega)) Qa ?_
 rintro _ w5 ⟨rfl,hS5⟩
 replace hS5:=hS5.jn Qa Qa
 refine Qe Qa Qa ?_
 refine Qz I4 Qa (Pa (hS5.sp [0] Qa) (hG.starL 1 Qa) (by have a0:=XI 59 (-9223372036854775808:Int) (s,false); have a1:=XI 59 (-9223372036854775808:Int) (Zd 59 (-9223372036854775808:Int) ((s,false))); have a2:=XI 59 (-9223372036854775808:Int) (Zd 59 (-9223372036854775808:Int) (Zd 59 (-9223372036854775808:Int) ((s,false)))); have a3:=XI 59 (-9223372036854775808:Int) (Zd 59 (-9223372036854775808:Int) (Zd 59 (-9223372036854775808:Int) (Zd 59 (-9223372036854775808:Int) ((s,false))))); have b0:(s,false).1.length=s.length:=rfl;omega)) Qa ?_
 rintro _ w6 ⟨rfl,hS6⟩
 replace hS6:=hS6.jn Qa Qa
 refine Zi Qa Vk N5 Cg Qa Qa (Xl hS6 Cg Qa Qa ?_)
 intro b7 w7 hS7
 first | (refine QZ hS7 Qa Qa SG Qa (by rfl) (i:=0) Qa (by decide) ?_)
 intro w8 hS9; dsimp only[List.set]at hS9
 refine Qh ?_
 have hz2:Sat _ (QR _ [intV (QX s).kind,intV (QX s).move,intV (QX s).a,intV (QX s).b,strV (QX s).data]::_):=hS9
 refine Qd (Qk [1,0,4,6] Qa (Qg (Qb (W7 XY hz2 Qa ?_))))
 intro hm w10 hS10
 clear hz2
 refine Qe Qa Qa (Wj (vs:=[ptrV e 0]) Qa Qa (JA (k:=0) (v:=(.func (.func 70) #[ptrV e 0] #[])) 0 hS10 keysInt underlying109 Qa Qa Qa Qa ?_))
 intro w11 hS11; dsimp only[List.set]at hS11
 refine Qe Qa Qa (Wj (vs:=[ptrV e 0]) Qa Qa (JA (k:=1) (v:=(.func (.func 71) #[ptrV e 0] #[])) 0 hS11 keysInt underlying109 Qa Qa Qa Qa ?_))
 intro w12 hS12; dsimp only[List.set]at hS12
 refine Qe Qa Qa (Wj (vs:=[ptrV e 0]) Qa Qa (JA (k:=2) (v:=(.func (.func 72) #[ptrV e 0] #[])) 0 hS12 keysInt underlying109 Qa Qa Qa Qa ?_))
 intro w13 hS13; dsimp only[List.set]at hS13
 refine Qe Qa Qa (Wj (vs:=[ptrV e 0]) Qa Qa (JA (k:=3) (v:=(.func (.func 72) #[ptrV e 0] #[])) 0 hS13 keysInt underlying109 Qa Qa Qa Qa ?_))
 intro w14 hS14; dsimp only[List.set]at hS14
 refine Qe Qa Qa (Wj (vs:=[ptrV e 0]) Qa Qa (JA (k:=4) (v:=(.func (.func 73) #[ptrV e 0] #[])) 0 hS14 keysInt underlying109 Qa Qa Qa Qa ?_))
 intro w15 hS15; dsimp only[List.set]at hS15
 refine Qe Qa Qa (Wj (vs:=[ptrV e 0]) Qa Qa (JA (k:=5) (v:=(.func (.func 74) #[ptrV e 0] #[])) 0 hS15 keysInt underlying109 Qa Qa Qa Qa ?_))
 intro w16 hS16; dsimp only[List.set]at hS16
 refine Qe Qa Qa (Wj (vs:=[ptrV e 0]) Qa Qa (JA (k:=6) (v:=(.func (.func 75) #[ptrV e 0] #[])) 0 hS16 keysInt underlying109 Qa Qa Qa Qa ?_))
 intro w17 hS17; dsimp only[List.set]at hS17
 refine Qe Qa Qa (Wj (vs:=[ptrV e 0]) Qa Qa (JA (k:=7) (v:=(.func (.func 76) #[ptrV e 0] #[])) 0 hS17 keysInt underlying109 Qa Qa Qa Qa ?_))
 intro w18 hS18; dsimp only[List.set]at hS18
 refine Qe Qa Qa (Wj (vs:=[ptrV e 0]) Qa Qa (JA (k:=8) (v:=(.func (.func 77) #[ptrV e 0] #[])) 0 hS18 keysInt underlying109 Qa Qa Qa Qa ?_))
 intro w19 hS19; dsimp only[List.set]at hS19
 refine Qe Qa Qa (Wj (vs:=[ptrV e 0]) Qa Qa (JA (k:=9) (v:=(.func (.func 78) #[ptrV e 0] #[])) 0 hS19 keysInt underlying109 Qa Qa Qa Qa ?_))
 intro w20 hS20; dsimp only[List.set]at hS20
 refine Qe Qa Qa (Qc Qa Qa (Qh ?_))
 have hz3:Sat _ (XE XY hm (VN e)::_):=hS20.pick [0,1,2,3,4] Qa
 refine Qd (Qk [1,0,4,6,7] Qa (Qg (Qb (Qe Qa Qa (Qi Qa J8 Qa (Qq Qa QF (hz3.cell 1 Qa Qa) Qa (H2 (k:=(QX s).kind) 0 hz3 keysInt underlying109 Qa Qa Qa zr_108 (u:=(VN e (QX s).kind).getD .nilFunc) (g:=(VN e (QX s).kind).isSome) Qa Qa Qa (Qe Qa Qa (Q6 Qa Qa Qa (Q6 Qa Qa Qa (Qc Qa Qa (Qc Qa Qa (Qh (Qd (Qk [1,0,4,6,8,9] Qa (Qg (Qg (Qb (Qe Qa Qa ?_)))))))))))))))))))
 have hC21:=hz3.sp [3] Qa
 refine Qz RI Qa (DJ hC21) Qa ?_
 rintro _ w21 ⟨rfl,hS21⟩
 replace hS21:=hS21.jn Qa Qa; clear hC21
 clear hz3
 refine XL Qa Qa (Qe Qa Qa (Z4 55 Qa (fun h22=> ?_) (fun h22=> ?_)))
 ·have hu0:upE E=false:= by simpa using h22
  refine Qf Qa Qa h22 Qa (Qf Qa Qa h22 Qa (Q0 Qa h22 Qa Qa (Qe Qa Qa (Qf Qa Qa Qa Qa (Qf Qa Qa Qa Qa (Qf Qa Qa Qa Qa (Q0 Qa Qa Qa Qa (Qe Qa Qa (Qf Qa Qa Qa Qa (Qf Qa Qa Qa Qa (Qf Qa Qa Qa Qa (Q0 Qa Qa Qa Qa (Qe Qa Qa (Qf Qa Qa Qa Qa (Qf Qa Qa Qa Qa (Qf Qa Qa Qa Qa (Qf Qa Qa Qa Qa (Q0 Qa Qa Qa Qa (Qh (Qd (Qk [4,6,8,74] Qa (QO Qa (Qg (Qb (Qc Qa Qa (Qh (Qd (Qo (Qm (Q5 (.inr Qa) Qa Qa ?_))))))))))))))))))))))))))))))
  exact⟨_,rfl, by rw[HD (by first | exact .inl hu0 | exact .inr (hkr.elim .inl fun q=> .inr (.inl q)) | exact .inr (.inr (.inr (.inl hm0))) | exact .inr (.inr (.inr (.inr (.inl hm1)))))]; exact(Sat.row_nil Z2 (hS21.pick [0,4] Qa))⟩
 have hup: ¬upE E=false:= by simpa using h22
 have hu:=RV hup
 refine Qj Qa Qa h22 (Qe Qa Qa (Qj Qa Qa h22 (XL Qa Qa (Q1 Qa h22 Qa Qa (Qe Qa Qa (Z4 59 Qa (fun h23=> ?_) (fun h23=> ?_)))))))
 ·have hkr:=hd_none (e:=e) (k:=(QX s).kind) (by simpa using h23)
  refine Qf Qa Qa h23 Qa (Qf Qa Qa h23 Qa (Qf Qa Qa h23 Qa (Q0 Qa h23 Qa Qa (Qe Qa Qa (Qf Qa Qa Qa Qa (Qf Qa Qa Qa Qa (Qf Qa Qa Qa Qa (Q0 Qa Qa Qa Qa (Qe Qa Qa (Qf Qa Qa Qa Qa (Qf Qa Qa Qa Qa (Qf Qa Qa Qa Qa (Qf Qa Qa Qa Qa (Q0 Qa Qa Qa Qa (Qh (Qd (Qk [4,6,8,74] Qa (QO Qa (Qg (Qb (Qc Qa Qa (Qh (Qd (Qo (Qm (Q5 (.inr Qa) Qa Qa ?_))))))))))))))))))))))))))
  exact⟨_,rfl, by rw[HD (by first | exact .inl hu0 | exact .inr (hkr.elim .inl fun q=> .inr (.inl q)) | exact .inr (.inr (.inr (.inl hm0))) | exact .inr (.inr (.inr (.inr (.inl hm1)))))]; exact(Sat.row_nil Z2 (hS21.pick [0,4] Qa))⟩
 have hks:(VN e (QX s).kind).isSome=true:= by simpa using h23
 refine Qj Qa Qa h23 (Qi Qa ZB Qa (Qj Qa Qa h23 (Qq Qa QF (hS21.cell 2 Qa Qa) Qa (Qj Qa Qa h23 (X0 Qa Qa Qa (Q1 Qa h23 Qa Qa (Qe Qa Qa (Q4 64 Qa (fun h24=> ?_) (fun h24=> ?_)))))))))
 ·have hm0:(QX s).move<0:=h24
  refine Qf Qa Qa (Q8 h24) Qa (Qf Qa Qa (Q8 h24) Qa (Qf Qa Qa (Q8 h24) Qa (Q0 Qa (Q8 h24) Qa Qa (Qe Qa Qa (Qf Qa Qa Qa Qa (Qf Qa Qa Qa Qa (Qf Qa Qa Qa Qa (Qf Qa Qa Qa Qa (Q0 Qa Qa Qa Qa (Qh (Qd (Qk [4,6,8,74] Qa (QO Qa (Qg (Qb (Qc Qa Qa (Qh (Qd (Qo (Qm (Q5 (.inr Qa) Qa Qa ?_)))))))))))))))))))))
  exact⟨_,rfl, by rw[HD (by first | exact .inl hu0 | exact .inr (hkr.elim .inl fun q=> .inr (.inl q)) | exact .inr (.inr (.inr (.inl hm0))) | exact .inr (.inr (.inr (.inr (.inl hm1)))))]; exact(Sat.row_nil Z2 (hS21.pick [0,4] Qa))⟩
 have hm0: ¬(QX s).move<0:=h24
 refine Qj Qa Qa (Qw h24) (Qi Qa ZB Qa (Qj Qa Qa (Qw h24) (Qq Qa QF (hS21.cell 2 Qa Qa) Qa (Qj Qa Qa (Qw h24) (Wl Qa Qa Qa (Q1 Qa (Qw h24) Qa Qa (Qe Qa Qa (Q4 69 Qa (fun h25=> ?_) (fun h25=> ?_)))))))))
 ·have hm1:4611686018427387904<(QX s).move:=h25
  refine Qf Qa Qa (Q8 h25) Qa (Qf Qa Qa (Q8 h25) Qa (Qf Qa Qa (Q8 h25) Qa (Qf Qa Qa (Q8 h25) Qa (Q0 Qa (Q8 h25) Qa Qa (Qh (Qd (Qk [4,6,8,74] Qa (QO Qa (Qg (Qb (Qc Qa Qa (Qh (Qd (Qo (Qm (Q5 (.inr Qa) Qa Qa ?_))))))))))))))))
  exact⟨_,rfl, by rw[HD (by first | exact .inl hu0 | exact .inr (hkr.elim .inl fun q=> .inr (.inl q)) | exact .inr (.inr (.inr (.inl hm0))) | exact .inr (.inr (.inr (.inr (.inl hm1)))))]; exact(Sat.row_nil Z2 (hS21.pick [0,4] Qa))⟩
 have hm1: ¬4611686018427387904<(QX s).move:=h25
 refine Qj Qa Qa (Qw h25) (ZK Qa IX SG (by first | exact hS21.blk 2 Qa) (Xd Qa) Qa Qa ?_)
 refine Qj Qa Qa (Qw h25) (Qz F7 Qa (Bl (hS21.sp [] Qa) (hG.starL 4 Qa) (m:=QX s) ⟨hd1,hd2,hd3,hd4, by omega⟩) Qa ?_)
 rintro _ w26 ⟨rfl,hS26⟩
 replace hS26:=hS26.jn Qa Qa
 refine Qj Qa Qa (Qw h25) (Qe Qa Qa (Qj Qa Qa (Qw h25) (Ky Qa Qa Qa (Q1 Qa (Qw h25) Qa Qa (Qh (Qd (Qk [4,6,8,74] Qa (Qt Qa (fun h27=> ?_) (fun h27=> ?_)))))))))
 ·have hne:WQ (QX s)≠s:=h27
  refine Qg (Qb (Qc Qa Qa (Qh (Qd (Qo (Qm (Q5 (.inr Qa) Qa Qa ?_)))))))
  exact⟨_,rfl, by rw[HD (by exact .inr (.inr (.inr (.inr (.inr hne)))))]; exact(Sat.row_nil Z2 (hS26.pick [0,4] Qa))⟩
 have heq:WQ (QX s)=s:=Decidable.not_not.1 h27
 have hyes: ¬(upE E=false∨(QX s).kind<0∨9<(QX s).kind∨(QX s).move<0∨4611686018427387904<(QX s).move∨WQ (QX s)≠s):= by rintro(q | q | q | q | q | q); exact hup q;(have :=CR hks;omega);(have :=CR hks;omega); exact hm0 q; exact hm1 q; exact q heq
 have hmw:MsW (QX s):=⟨hd1,⟨by omega, by omega⟩,hd3,hd4, by omega⟩
 have hmm:X5 (QX s).move:=hd2
 have hmv:=hW.km.2.2.2
 have hpv: ∀x p,E.ses=some x→QT x.pages (QX s).a=some p→X5 p.ver∧p.data.length≤20000000:= fun x p hx hp=> by have :=(hW.ses x hx).pg _ (Y1 hp); exact⟨this.2.1, by have :=this.2.2.2; dsimp only at this;omega⟩
 refine Qr (Qd (Qg (Qb (Qe Qa Qa ?_))))
 refine ZK Qa IX SG (by first | exact hS26.blk 2 Qa) (by first | decide | exact Xd Qa | (simp;done) | omega) Qa Qa ?_
 rcases CR hks with hkj | hkj | hkj | hkj | hkj | hkj | hkj | hkj | hkj | hkj
 ·have hv:(VN e (QX s).kind).getD .nilFunc=(.func (.func 70) #[ptrV e 0] #[]):= by rw[hkj,hd_0];rfl
  rw[hv]
  refine Yw (fs:=[ptrV e 0]) (vs:=[.agg #[intV (QX s).kind,intV (QX s).move,intV (QX s).a,intV (QX s).b,strV (QX s).data]]) Qa cal_70 Qa (P9 (hS26.sp [0] Qa) (QX s) hW hmw) Qa ?_
  rintro e w28 ⟨_,rfl,hS28⟩; refine⟨_,rfl, ?_⟩
  replace hS28:=hS28.jn Qa Qa
  have h1v:=hS28.own_one 0 Qa
  refine Qc Qa Qa (Qh (Qd (Qo (Q5 (.inr Qa) Qa Qa ?_))))
  exact⟨_,rfl, by rw[W4 hyes,OS hkj]; exact hS28.pick [0,1,5] Qa⟩
 ·have hv:(VN e (QX s).kind).getD .nilFunc=(.func (.func 71) #[ptrV e 0] #[]):= by rw[hkj,hd_1];rfl
  rw[hv]
  refine Yw (fs:=[ptrV e 0]) (vs:=[.agg #[intV (QX s).kind,intV (QX s).move,intV (QX s).a,intV (QX s).b,strV (QX s).data]]) Qa cal_71 Qa (P8 (hS26.sp [0] Qa) (QX s) (hG.starL 3 Qa) (hO.starL 3 Qa) hW hmw hu) Qa ?_
  rintro e w29 ⟨_,rfl,hS29⟩; refine⟨_,rfl, ?_⟩
  replace hS29:=hS29.jn Qa Qa
  have h1v:=hS29.own_one 0 Qa
  refine Qc Qa Qa (Qh (Qd (Qo (Q5 (.inr Qa) Qa Qa ?_))))
  exact⟨_,rfl, by rw[W4 hyes,PO hkj]; exact hS29.pick [0,1,5] Qa⟩
 ·have hv:(VN e (QX s).kind).getD .nilFunc=(.func (.func 72) #[ptrV e 0] #[]):= by rw[hkj,hd_2];rfl
  rw[hv]
  refine Yw (fs:=[ptrV e 0]) (vs:=[.agg #[intV (QX s).kind,intV (QX s).move,intV (QX s).a,intV (QX s).b,strV (QX s).data]]) Qa I3 Qa (Ru (hS26.sp [0] Qa) (QX s) (hG.starL 3 Qa) (hO.starL 3 Qa) hu hmm hmv) Qa ?_
  rintro e w30 ⟨_,rfl,hS30⟩; refine⟨_,rfl, ?_⟩
  replace hS30:=hS30.jn Qa Qa
  have h1v:=hS30.own_one 0 Qa
  refine Qc Qa Qa (Qh (Qd (Qo (Q5 (.inr Qa) Qa Qa ?_))))
  exact⟨_,rfl, by rw[W4 hyes,MC hkj]; exact hS30.pick [0,1,5] Qa⟩
 ·have hv:(VN e (QX s).kind).getD .nilFunc=(.func (.func 72) #[ptrV e 0] #[]):= by rw[hkj,hd_3];rfl
  rw[hv]
  refine Yw (fs:=[ptrV e 0]) (vs:=[.agg #[intV (QX s).kind,intV (QX s).move,intV (QX s).a,intV (QX s).b,strV (QX s).data]]) Qa I3 Qa (Ru (hS26.sp [0] Qa) (QX s) (hG.starL 3 Qa) (hO.starL 3 Qa) hu hmm hmv) Qa ?_
  rintro e w31 ⟨_,rfl,hS31⟩; refine⟨_,rfl, ?_⟩
  replace hS31:=hS31.jn Qa Qa
  have h1v:=hS31.own_one 0 Qa
  refine Qc Qa Qa (Qh (Qd (Qo (Q5 (.inr Qa) Qa Qa ?_))))
  exact⟨_,rfl, by rw[W4 hyes,PN hkj]; exact hS31.pick [0,1,5] Qa⟩
 ·have hv:(VN e (QX s).kind).getD .nilFunc=(.func (.func 73) #[ptrV e 0] #[]):= by rw[hkj,hd_4];rfl
  rw[hv]
  refine Yw (fs:=[ptrV e 0]) (vs:=[.agg #[intV (QX s).kind,intV (QX s).move,intV (QX s).a,intV (QX s).b,strV (QX s).data]]) Qa cal_73 Qa (CQ (hS26.sp [0] Qa) (QX s) (hG.starL 3 Qa) (hO.starL 3 Qa) hW hmw hu) Qa ?_
  rintro e w32 ⟨_,rfl,hS32⟩; refine⟨_,rfl, ?_⟩
  replace hS32:=hS32.jn Qa Qa
  have h1v:=hS32.own_one 0 Qa
  refine Qc Qa Qa (Qh (Qd (Qo (Q5 (.inr Qa) Qa Qa ?_))))
  exact⟨_,rfl, by rw[W4 hyes,MB hkj]; exact hS32.pick [0,1,5] Qa⟩
 ·have hv:(VN e (QX s).kind).getD .nilFunc=(.func (.func 74) #[ptrV e 0] #[]):= by rw[hkj,hd_5];rfl
  rw[hv]
  refine Yw (fs:=[ptrV e 0]) (vs:=[.agg #[intV (QX s).kind,intV (QX s).move,intV (QX s).a,intV (QX s).b,strV (QX s).data]]) Qa cal_74 Qa (EP (hS26.sp [0] Qa) (QX s) (hG.starL 3 Qa) (hO.starL 3 Qa) hu hmm) Qa ?_
  rintro e w33 ⟨_,rfl,hS33⟩; refine⟨_,rfl, ?_⟩
  replace hS33:=hS33.jn Qa Qa
  have h1v:=hS33.own_one 0 Qa
  refine Qc Qa Qa (Qh (Qd (Qo (Q5 (.inr Qa) Qa Qa ?_))))
  exact⟨_,rfl, by rw[W4 hyes,OR hkj]; exact hS33.pick [0,1,5] Qa⟩
 ·have hv:(VN e (QX s).kind).getD .nilFunc=(.func (.func 75) #[ptrV e 0] #[]):= by rw[hkj,hd_6];rfl
  rw[hv]
  refine Yw (fs:=[ptrV e 0]) (vs:=[.agg #[intV (QX s).kind,intV (QX s).move,intV (QX s).a,intV (QX s).b,strV (QX s).data]]) Qa cal_75 Qa (P2 (hS26.sp [0] Qa) (QX s) (hG.starL 3 Qa) hmv hmw.a hpv) Qa ?_
  rintro e w34 ⟨_,rfl,hS34⟩; refine⟨_,rfl, ?_⟩
  replace hS34:=hS34.jn Qa Qa
  have h1v:=hS34.own_one 0 Qa
  refine Qc Qa Qa (Qh (Qd (Qo (Q5 (.inr Qa) Qa Qa ?_))))
  exact⟨_,rfl, by rw[W4 hyes,OQ hkj]; exact hS34.pick [0,1,5] Qa⟩
 ·have hv:(VN e (QX s).kind).getD .nilFunc=(.func (.func 76) #[ptrV e 0] #[]):= by rw[hkj,hd_7];rfl
  rw[hv]
  refine Yw (fs:=[ptrV e 0]) (vs:=[.agg #[intV (QX s).kind,intV (QX s).move,intV (QX s).a,intV (QX s).b,strV (QX s).data]]) Qa cal_76 Qa (PC (hS26.sp [0] Qa) (QX s) hW) Qa ?_
  rintro e w35 ⟨_,rfl,hS35⟩; refine⟨_,rfl, ?_⟩
  replace hS35:=hS35.jn Qa Qa
  have h1v:=hS35.own_one 0 Qa
  refine Qc Qa Qa (Qh (Qd (Qo (Q5 (.inr Qa) Qa Qa ?_))))
  exact⟨_,rfl, by rw[W4 hyes,OP hkj]; exact hS35.pick [0,1,5] Qa⟩
 ·have hv:(VN e (QX s).kind).getD .nilFunc=(.func (.func 77) #[ptrV e 0] #[]):= by rw[hkj,hd_8];rfl
  rw[hv]
  refine Yw (fs:=[ptrV e 0]) (vs:=[.agg #[intV (QX s).kind,intV (QX s).move,intV (QX s).a,intV (QX s).b,strV (QX s).data]]) Qa cal_77 Qa (PL (hS26.sp [0] Qa) (QX s) (hG.starL 3 Qa) hmv) Qa ?_
  rintro e w36 ⟨_,rfl,hS36⟩; refine⟨_,rfl, ?_⟩
  replace hS36:=hS36.jn Qa Qa
  have h1v:=hS36.own_one 0 Qa
  refine Qc Qa Qa (Qh (Qd (Qo (Q5 (.inr Qa) Qa Qa ?_))))
  exact⟨_,rfl, by rw[W4 hyes,OO hkj]; exact hS36.pick [0,1,5] Qa⟩
 have hv:(VN e (QX s).kind).getD .nilFunc=(.func (.func 78) #[ptrV e 0] #[]):= by rw[hkj,hd_9];rfl
 rw[hv]
 refine Yw (fs:=[ptrV e 0]) (vs:=[.agg #[intV (QX s).kind,intV (QX s).move,intV (QX s).a,intV (QX s).b,strV (QX s).data]]) Qa cal_78 Qa (EO (hS26.sp [0] Qa) (QX s)) Qa ?_
 rintro e w37 ⟨_,rfl,hS37⟩; refine⟨_,rfl, ?_⟩
 replace hS37:=hS37.jn Qa Qa
 have h1v:=hS37.own_one 0 Qa
 refine Qc Qa Qa (Qh (Qd (Qo (Q5 (.inr Qa) Qa Qa ?_))))
 exact⟨_,rfl, by rw[W4 hyes,ON hkj]; exact hS37.pick [0,1,5] Qa⟩
theorem rep_set {b:UInt8} {i:Nat} (h:i<64):(List.replicate i b++List.replicate (64 -i) (0:UInt8)).set i b=List.replicate (i+1) b++List.replicate (64 -(i+1)) 0:= by
  rw[List.set_append_right _ _ (by simp),List.length_replicate,Nat.sub_self, show 64 -i=(64 -(i+1))+1 by omega,List.replicate_succ,List.set_cons_zero,List.replicate_succ',List.append_assoc]
  rfl
structure OpX where
  o:OpD
  kv:Value
def opV (x:OpX):List Value:=[intV x.o.dO,intV x.o.n,intV x.o.id,.int .u8 (x.o.b.toNat:Int),strV x.o.s,x.kv]
abbrev OpsRd (v:Value) (l:List OpX) (w:World):Prop:=RdX opV 6 (fun x w=>RdI x.kv x.o.keep w) v l w
def okO (o:OpD):Bool:=decide (o.s.length≤900)&&decide (o.keep.length≤20)
def Sc (l:List OpX) (n:Int):Bool:=(l.all fun x=>okO x.o)&&decide ((l.length:Int)≤n)
def R6 (s:SsD):Bool:=Zl s&&decide (s.state.length≤900)&&decide (s.sheets.length≤30)
theorem Sb {l:List OpX} {n:Int} {i:Nat} {x:OpX} (hx:l[i]? =some x) (h:900<x.o.s.length∨20<x.o.keep.length):Sc l n=false:= by
  have :(l.all fun x=>okO x.o)=false:= by
    rw[List.all_eq_false]
    exact⟨x,List.mem_of_getElem? hx, by unfold okO; simp;omega⟩
  unfold Sc; rw[this];rfl
theorem fewB_go {l:List OpX} {n:Int} (h: ∀i x,i<l.length→l[i]? =some x→okO x.o=true):Sc l n=decide ((l.length:Int)≤n):= by
  have :(l.all fun x=>okO x.o)=true:= by
    rw[List.all_eq_true]
    intro x hx
    obtain⟨i,hi⟩:=List.mem_iff_getElem?.1 hx
    exact h i x (Jh hi).1 hi
  unfold Sc; rw[this];rfl
theorem fewB_of {l:List OpX} {n:Int} (h:Sc l n=true):(∀x∈l,x.o.s.length≤900∧x.o.keep.length≤20)∧(l.length:Int)≤n:= by
  unfold Sc at h
  simp only[Bool.and_eq_true,List.all_eq_true,decide_eq_true_eq]at h
  refine⟨fun x hx=> ?_,h.2⟩
  have :=h.1 x hx
  unfold okO at this
  simpa using this
theorem HB {w:World} {F:Th} (hS:Sat w [F]) (b:UInt8):
    Calls prog 35 #[.int .u8 (b.toNat:Int)] w (Ret fun v w'=>v=strV (List.replicate 64 b)∧Sat w' [F]):= by
 refine Qx func35 Qa ntmps35 Qa ?_
 refine Qg (Qb (Qc Qa Qa (Qh (Qd (Qg (Qb (FO hS 64 Qa Qa Qa underlying98 Lr Qa (by omega) (by omega) Qa ?_)))))))
 intro lb w1 hS1; replace hS1:=Sat.row_cast (C:=byC) (l:=List.replicate 0 b++List.replicate (64 -0) (0:UInt8)) hS1 Qa Qa Qa
 refine Qc Qa Qa (Qh (Qd (Qg (Qg (Qb (Qc Qa Qa (Qh (Qd (QD ?_)))))))))
 refine X8 (fun K0 E0 W0=> ∃(i:Nat),K0=64 -i∧E0=[(0,.int .u8 (b.toNat:Int)),(3,.slice (some ⟨lb,0,none⟩) 64 64),(4,intV (i:Int))]∧Sat W0 [rowT byC (.slice (some ⟨lb,0,none⟩) 64 64) (List.replicate i b++List.replicate (64 -i) (0:UInt8)),F]∧(i≤64)) (L0:=[(0,_),(3,_),(4,_)]) (64 -0) (BC Qa Qa Qa) ⟨0,rfl,rfl,hS1.pick [0,1] Qa, by omega⟩ ?_
 rintro _ _ w2 ⟨i,rfl,rfl,hS2,hi⟩
 refine Qg (Qg (Qb (Qe Qa Qa (Qe Qa Qa ?_))))
 first | refine Xi underlying98 Qa Qa ?_ | refine Xs 0 hS2 underlying98 Qa Qa Qa ?_
 refine X0 Qa Qa Qa (Qh (Qd (Qt Qa (fun h3=> ?_) (fun h3=> ?_))))
 ·have hlt:i<64:= by have q9:=h3;omega
  have hln:(List.replicate i b++List.replicate (64 -i) (0:UInt8)).length=64:= by simp;omega
  obtain⟨y,hy⟩: ∃y,(List.replicate i b++List.replicate (64 -i) (0:UInt8))[i]? =some y:=⟨_,WB (by omega)⟩
  refine Qr (Qd (Qg (QD (Qb (Qe Qa Qa (Qe Qa Qa (Qe Qa Qa (ZP byC 0 i hS2 Qa Qa Qa (by first | rfl | omega) hy es_98 Qa ?_))))))))
  intro bx4 capx4 hvx4
  refine BF 0 i b hS2 Qa hvx4 Qa Qa sz_5 (by rfl) (by omega) ?_
  intro w5 hS6; dsimp only[List.set]at hS6
  refine Qh (Qp (Qd (Qk [4,3,0] Qa (Qb (Qe Qa Qa (Xx Qa Qa (by omega) (by omega) Qa ?_))))))
  refine Qc Qa Qa (Qh ?_)
  exact Xa (L1:=[(0,_),(3,_),(4,intV ((i+1:Nat):Int))]) (BC Qa Qa Qa) (k1:=64 -(i+1)) (by omega) ⟨i+1,rfl,rfl,(by rw[←rep_set (by omega)]; exact hS6.pick [0,1] Qa), by omega⟩
 refine Xq (Q2 (Q2 (QH (Qd (Qg (Qb (Qe Qa Qa (Tv 0 hS2 Qa Qa underlying98 underlying5 underlying9 Qa (Qc Qa Qa (Qh (Qd (Qo (Q5 (.inr Qa) Qa Qa ?_)))))))))))))
 exact⟨_,rfl,(by rw[show i=64 by omega]; simp),hS2.pick [1] Qa⟩
theorem TD {kv:Value} {ks:List Int} {w:World} (h:RdI kv ks w): ∃ka kc,kv= .slice ka ks.length kc:= by
  obtain⟨ao,cap,h1,_⟩:=h
  exact⟨ao,cap,h1⟩
theorem lfew_sp {w:World} {F:Th} (hS:Sat w [F]) {lv:Value} {l:List OpX} (hL:Ent F (OpsRd lv l)) (n:Int):
    Calls prog 8 #[lv,intV n] w (Ret fun v w'=>v= .bool (Sc l n)∧Sat w' [F]):= by
 obtain⟨ao,cap,rfl,hmax⟩:=(hL.sat hS 0 rfl).shape
 refine Qx func8 Qa ntmps8 Qa ?_
 refine Qg (Qb (Qc Qa Qa (Qh (Qd (Qg (Qg (Qb (Qc Qa Qa (Qh (Qd (QD ?_)))))))))))
 refine X8 (fun K0 E0 W0=> ∃(i:Nat),K0=l.length -i∧E0=[(0,.slice ao l.length cap),(1,intV n),(5,intV (i:Int))]∧Sat W0 [F]∧(i≤l.length)∧(∀j x,j<i→l[j]? =some x→okO x.o=true)) (L0:=[(0,_),(1,_),(5,_)]) (l.length -0) (BC Qa Qa Qa) ⟨0,rfl,rfl,hS, by omega, by omega⟩ ?_
 rintro _ _ w1 ⟨i,rfl,rfl,hS1,hi,hok⟩
 refine Qg (Qg (Qb (Qe Qa Qa (Qe Qa Qa (Xi underlying25 Qa Qa (X0 Qa Qa Qa (Qh (Qd (Qt Qa (fun h2=> ?_) (fun h2=> ?_))))))))))
 ·obtain⟨x,hx⟩: ∃x,l[i]? =some x:=⟨_,WB (by omega)⟩
  obtain⟨⟨b,off,rfl,hc⟩,hrd⟩:=(hL.sat hS1 0 rfl).get hx
  obtain⟨ka,kc,hkv⟩:=TD hrd
  refine Qr (Qd (Qg (QD (Qg (Qb (Qe Qa Qa (Qe Qa Qa (X4 i Qa Qa (by first | rfl | omega) (by omega) Sh Qa ?_))))))))
  refine Qi Qa KQ Qa (Qq Qa Zr (hc 4 _ Qa) Qa (Zu underlying9 Qa Qa (Wl Qa Qa Qa (Qe Qa Qa (Q4 19 Qa (fun h3=> ?_) (fun h3=> ?_))))))
  ·exact Qf Qa Qa (Q8 h3) Qa (Qf Qa Qa (Q8 h3) Qa (Qf Qa Qa (Q8 h3) Qa (Qf Qa Qa (Q8 h3) Qa (Qf Qa Qa (Q8 h3) Qa (Qf Qa Qa (Q8 h3) Qa (Qf Qa Qa (Q8 h3) Qa (Q0 Qa (Q8 h3) Qa Qa (Qh (Qd (Qk [5,1,0,27] Qa (QO Qa (Qg (Qb (Qc Qa Qa (Qh (Qd (Qo (Qy (Qm (Qm (Qy (Qm (Q5 (.inr Qa) Qa Qa (⟨_,rfl, by rw[Sb hx (by omega)],hS1.pick [0] Qa⟩))))))))))))))))))))))))
  refine Qj Qa Qa (Qw h3) (Qe Qa Qa (Qj Qa Qa (Qw h3) (Qe Qa Qa (Qj Qa Qa (Qw h3) (X4 i Qa Qa (by rfl) (by omega) Sh Qa ?_)))))
  refine Qj Qa Qa (Qw h3) (Qi Qa Gt Qa (Qj Qa Qa (Qw h3) (Qq Qa GN (hc 5 _ Qa) Qa ?_)))
  rw[hkv]
  refine Qj Qa Qa (Qw h3) (Xi underlying33 Qa Qa (Qj Qa Qa (Qw h3) (Wl Qa Qa Qa (Q1 Qa (Qw h3) Qa Qa (Qh (Qd (Qk [5,1,0,27] Qa (Qt Qa (fun h4=> ?_) (fun h4=> ?_)))))))))
  ·exact Qg (Qb (Qc Qa Qa (Qh (Qd (Qo (Qy (Qm (Qm (Qy (Qm (Q5 (.inr Qa) Qa Qa (⟨_,rfl, by rw[Sb hx (by omega)],hS1.pick [0] Qa⟩))))))))))))
  refine Qr (Qp (Qd (Qb (Qe Qa Qa (Xx Qa Qa (by omega) (by omega) Qa ?_)))))
  refine Qc Qa Qa (Qh ?_)
  exact Xa (L1:=[(0,_),(1,_),(5,intV ((i+1:Nat):Int))]) (BC Qa Qa Qa) (k1:=l.length -(i+1)) (by omega) ⟨i+1,rfl,rfl,hS1, by omega, fun j y hj hy=> by by_cases e:j=i;(subst e; rw[hx]at hy; cases hy;unfold okO; simp;omega); exact hok j y (by omega) hy⟩
 exact Xq (Q2 (Q2 (QH (Qd (Qg (Qb (Qe Qa Qa (Xi underlying25 Qa Qa (Qe Qa Qa (W8 Qa Qa Qa (Qc Qa Qa (Qh (Qd (Qk [4] Qa (Qo (Q5 (.inr Qa) Qa Qa (⟨_,rfl, by rw[fewB_go fun j x hj hx=>hok j x (by omega) hx],hS1.pick [0] Qa⟩)))))))))))))))))
theorem Eh {w:World} {F:Th} (hS:Sat w [F]) {t:Bs} {sv:Value} {l:AL Bs} (hL:Ent F (RdL shC sv l)):
    Calls prog 38 #[.agg #[strV t,sv]] w (Ret fun v w'=>v= .bool (Zl ⟨t,l⟩)∧Sat w' [F]):= by
 obtain⟨ao,cap,rfl,hmax⟩:=(hL.sat hS 0 rfl).shape
 refine Qx func38 Qa ntmps38 Qa ?_
 refine Qg (Qb (XT hS Qa Qa Qa ?_))
 intro bp wp hSp0
 have hSp:Sat wp [QR bp [strV t,.slice ao l.length cap],F]:=hSp0
 refine Qc Qa Qa (Qh (Qd (Qg (Qb (Qc Qa Qa (Qh (Qd (Qg (Qg (Qb (Qc Qa Qa (Qh (Qd (QD ?_))))))))))))))
 refine X8 (fun K0 E0 W0=> ∃(i:Nat) (last:Int),K0=l.length -i∧E0=[(1,ptrV bp 0),(3,intV last),(4,intV (i:Int))]∧Sat W0 [QR bp [strV t,.slice ao l.length cap],F]∧(i≤l.length)∧(Jt 0 l=Jt last (l.drop i))) (L0:=[(1,_),(3,_),(4,_)]) (l.length -0) (BC Qa Qa Qa) ⟨0,0,rfl,rfl,hSp, by omega, by rw[List.drop_zero]⟩ ?_
 rintro _ _ w1 ⟨i,last,rfl,rfl,hS1,hi,hR⟩
 refine Qg (Qg (Qb (Qe Qa Qa (Qi Qa Zh Qa (Qq Qa WF (hS1.cell 0 Qa Qa) Qa (Xi underlying22 Qa Qa (X0 Qa Qa Qa (Qh (Qd (Qt Qa (fun h2=> ?_) (fun h2=> ?_)))))))))))
 ·obtain⟨x,hx⟩: ∃x,l[i]? =some x:=⟨_,WB (by omega)⟩
  obtain⟨b,off,rfl,hc⟩:=(hL.sat hS1 1 rfl).get hx
  refine Qr (Qd (Qg (QD (Qg (Qb (Qi Qa Zh Qa (Qq Qa WF (hS1.cell 0 Qa Qa) Qa (Qe Qa Qa (X4 i Qa Qa (by rfl) (by omega) Vy Qa ?_)))))))))
  refine YH Qa GM Uk (vs:=[intV x.1,strV x.2]) hc Qa (Xl hS1 Rn Qa Qa ?_)
  intro b3 w3 hS3
  (refine QZ hS3 Qa Qa Uk Qa (by rfl) (i:=0) Qa (by decide) ?_)
  intro w4 hS5; dsimp only[List.set]at hS5
  refine Qh (Qd (Qk [4,3,1,5] Qa (Qg (Qg (Qb (Qi Qa Yh Qa (Qq Qa QF (hS5.cell 0 Qa Qa) Qa (Qe Qa Qa (W8 Qa Qa Qa (Qe Qa Qa (Q4 22 Qa (fun h6=> ?_) (fun h6=> ?_))))))))))))
  ·refine Qf Qa Qa (Q8 h6) Qa (Qf Qa Qa (Q8 h6) Qa (Qf Qa Qa (Q8 h6) Qa (Q0 Qa (Q8 h6) Qa Qa (Qe Qa Qa (Qf Qa Qa Qa Qa (Qf Qa Qa Qa Qa (Qf Qa Qa Qa Qa (Qf Qa Qa Qa Qa (Q0 Qa Qa Qa Qa (Qh (Qd (Qk [4,3,1,5,32] Qa (QO Qa (Qg (Qb (Qc Qa Qa (Qh (Qd (Qo (Qm (Qy (Qm (Qm (Qy (Qm (Q5 (.inr Qa) Qa Qa ?_))))))))))))))))))))))))))
   exact⟨_,rfl, by unfold Zl; dsimp only; rw[hR,BX hx,Hq (by omega)];rfl,hS5.pick [2] Qa⟩
  refine Qj Qa Qa (Qw h6) (Qi Qa Yh Qa (Qj Qa Qa (Qw h6) (Qq Qa QF (hS5.cell 0 Qa Qa) Qa (Qj Qa Qa (Qw h6) (Wl Qa Qa Qa (Q1 Qa (Qw h6) Qa Qa (Qe Qa Qa (Q4 27 Qa (fun h7=> ?_) (fun h7=> ?_)))))))))
  ·refine Qf Qa Qa (Q8 h7) Qa (Qf Qa Qa (Q8 h7) Qa (Qf Qa Qa (Q8 h7) Qa (Qf Qa Qa (Q8 h7) Qa (Q0 Qa (Q8 h7) Qa Qa (Qh (Qd (Qk [4,3,1,5,32] Qa (QO Qa (Qg (Qb (Qc Qa Qa (Qh (Qd (Qo (Qm (Qy (Qm (Qm (Qy (Qm (Q5 (.inr Qa) Qa Qa ?_)))))))))))))))))))))
   exact⟨_,rfl, by unfold Zl; dsimp only; rw[hR,BX hx,Hq (by omega)];rfl,hS5.pick [2] Qa⟩
  refine Qj Qa Qa (Qw h7) (Qi Qa UM Qa (Qj Qa Qa (Qw h7) (Qq Qa Zr (hS5.cell 0 Qa Qa) Qa (Qj Qa Qa (Qw h7) (Zu underlying9 Qa Qa (Qj Qa Qa (Qw h7) (Xr Qa Qa Qa (Q1 Qa (Qw h7) Qa Qa (Qh (Qd (Qk [4,3,1,5,32] Qa (Qt Qa (fun h8=> ?_) (fun h8=> ?_)))))))))))))
  ·refine Qg (Qb (Qc Qa Qa (Qh (Qd (Qo (Qm (Qy (Qm (Qm (Qy (Qm (Q5 (.inr Qa) Qa Qa ?_))))))))))))
   exact⟨_,rfl, by unfold Zl; dsimp only; rw[hR,BX hx,Hq (by omega)];rfl,hS5.pick [2] Qa⟩
  refine Qr (Qd (Qb (Qi Qa Yh Qa (Qq Qa QF (hS5.cell 0 Qa Qa) Qa (Qc Qa Qa (Qh (Qp (Qd (Qb (Qe Qa Qa (Xx Qa Qa (by omega) (by omega) Qa ?_)))))))))))
  exact Qc Qa Qa (Qh (Xa (L1:=[(1,_),(3,intV x.1),(4,intV ((i+1:Nat):Int))]) (BC Qa Qa Qa) (k1:=l.length -(i+1)) (by omega) ⟨i+1,x.1,rfl,rfl,hS5.pick [1,2] Qa, by omega, by rw[hR,BX hx,TC (by omega) (by omega) (by omega)]⟩))
 refine Xq (Q2 (Q2 (QH (Qd (Qg (Qb (Qi Qa Hf Qa (Qq Qa Zr (hS1.cell 0 Qa Qa) Qa (Zu underlying9 Qa Qa (W8 Qa Qa Qa (Qe Qa Qa (Q4 39 Qa (fun h9=> ?_) (fun h9=> ?_)))))))))))))
 ·refine Qj Qa Qa (Q8 h9) (Qi Qa Zh Qa (Qj Qa Qa (Q8 h9) (Qq Qa WF (hS1.cell 0 Qa Qa) Qa (Qj Qa Qa (Q8 h9) (Xi underlying22 Qa Qa (Qj Qa Qa (Q8 h9) (W8 Qa Qa Qa (Q0 Qa (Q8 h9) Qa Qa (Qc Qa Qa (Qh (Qd (Qk [2] Qa (Qo (Q5 (.inr Qa) Qa Qa ?_))))))))))))))
  exact⟨_,rfl,congrArg Value.bool (by unfold Zl; dsimp only; rw[hR,List.drop_eq_nil_of_le (by omega)];unfold Jt; rw[Bool.eq_iff_iff]; simp;omega),hS1.pick [1] Qa⟩
 refine Qf Qa Qa (Qw h9) Qa (Qf Qa Qa (Qw h9) Qa (Qf Qa Qa (Qw h9) Qa (Qf Qa Qa (Qw h9) Qa (Q1 Qa (Qw h9) Qa Qa (Qc Qa Qa (Qh (Qd (Qk [2] Qa (Qo (Q5 (.inr Qa) Qa Qa ?_))))))))))
 exact⟨_,rfl,congrArg Value.bool (by unfold Zl; dsimp only; rw[hR,List.drop_eq_nil_of_le (by omega)];unfold Jt; rw[Bool.eq_iff_iff]; simp;omega),hS1.pick [1] Qa⟩
theorem E8 {w:World} {F:Th} (hS:Sat w [F]) {t:Bs} {sv:Value} {l:AL Bs} (hL:Ent F (RdL shC sv l)):
    Calls prog 9 #[.agg #[strV t,sv]] w (Ret fun v w'=>v= .bool (R6 ⟨t,l⟩)∧Sat w' [F]):= by
 obtain⟨ao,cap,rfl,hmax⟩:=(hL.sat hS 0 rfl).shape
 refine Qx func9 Qa ntmps9 Qa ?_
 refine Qg (Qb (XT hS Qa Qa Qa ?_))
 intro bp wp hSp0
 have hSp:Sat wp [QR bp [strV t,.slice ao l.length cap],F]:=hSp0
 refine Qc Qa Qa (Qh (Qd (Qg (Qb ?_))))
 refine ZK Qa J9 Wi (by first | exact hSp.blk 0 Qa) (by first | decide | exact Xd Qa | (simp;done) | omega) Qa Qa ?_
 refine Qz cal_38 Qa (Eh (hSp.sp [] Qa) (hL.starL 1 Qa)) Qa ?_
 rintro _ w1 ⟨rfl,hS1⟩
 replace hS1:=hS1.jn Qa Qa
 clear hSp
 refine Qe Qa Qa (Z4 5 Qa (fun h2=> ?_) (fun h2=> ?_))
 ·refine Qj Qa Qa h2 (Qi Qa Hf Qa (Qj Qa Qa h2 (Qq Qa Zr (hS1.cell 0 Qa Qa) Qa (Qj Qa Qa h2 (Zu underlying9 Qa Qa (Qj Qa Qa h2 (W8 Qa Qa Qa (Q0 Qa h2 Qa Qa (Qe Qa Qa (Q4 11 Qa (fun h3=> ?_) (fun h3=> ?_)))))))))))
  ·refine Qj Qa Qa (Q8 h3) (Qi Qa Zh Qa (Qj Qa Qa (Q8 h3) (Qq Qa WF (hS1.cell 0 Qa Qa) Qa (Qj Qa Qa (Q8 h3) (Xi underlying22 Qa Qa (Qj Qa Qa (Q8 h3) (W8 Qa Qa Qa (Q0 Qa (Q8 h3) Qa Qa (Qc Qa Qa (Qh (Qd (Qk [2] Qa (Qo (Q5 (.inr Qa) Qa Qa ?_))))))))))))))
   exact⟨_,rfl,congrArg Value.bool (by unfold R6; rw[Bool.eq_iff_iff];simp_all;try omega),hS1.pick [1] Qa⟩
  refine Qf Qa Qa (Qw h3) Qa (Qf Qa Qa (Qw h3) Qa (Qf Qa Qa (Qw h3) Qa (Qf Qa Qa (Qw h3) Qa (Q1 Qa (Qw h3) Qa Qa (Qc Qa Qa (Qh (Qd (Qk [2] Qa (Qo (Q5 (.inr Qa) Qa Qa ?_))))))))))
  exact⟨_,rfl,congrArg Value.bool (by unfold R6; rw[Bool.eq_iff_iff];simp_all;try omega),hS1.pick [1] Qa⟩
 refine Qf Qa Qa h2 Qa (Qf Qa Qa h2 Qa (Qf Qa Qa h2 Qa (Qf Qa Qa h2 Qa (Q1 Qa h2 Qa Qa (Qe Qa Qa (Qf Qa Qa Qa Qa (Qf Qa Qa Qa Qa (Qf Qa Qa Qa Qa (Qf Qa Qa Qa Qa (Q1 Qa Qa Qa Qa (Qc Qa Qa (Qh (Qd (Qk [2] Qa (Qo (Q5 (.inr Qa) Qa Qa ?_))))))))))))))))
 exact⟨_,rfl,congrArg Value.bool (by unfold R6; rw[Bool.eq_iff_iff];simp_all;try omega),hS1.pick [1] Qa⟩
