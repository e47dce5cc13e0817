/- move: Hear -/
import Derived.Test.YtiibgheijbbmaaaGreatDoorMvy6
set_option linter.unusedVariables false
set_option maxRecDepth 100000
set_option maxHeartbeats 2000000
namespace Go.Proofs.YtiibgheijbbmaaaGreatDoor
open Go.RowKit M Proofs.Tryz
noncomputable def VU (e:Nat):Int→Option Value:=(upd (upd (upd (upd (upd (upd (upd (upd (upd (upd (fun _=>none) 0 (some (.func (.func 70) #[ptrV e 0] #[]))) 1 (some (.func (.func 71) #[ptrV e 0] #[]))) 2 (some (.func (.func 72) #[ptrV e 0] #[]))) 3 (some (.func (.func 72) #[ptrV e 0] #[]))) 4 (some (.func (.func 73) #[ptrV e 0] #[]))) 5 (some (.func (.func 74) #[ptrV e 0] #[]))) 6 (some (.func (.func 75) #[ptrV e 0] #[]))) 7 (some (.func (.func 76) #[ptrV e 0] #[]))) 8 (some (.func (.func 77) #[ptrV e 0] #[]))) 9 (some (.func (.func 78) #[ptrV e 0] #[])))
theorem hd_out {e:Nat} {k:Int} (h:k<0∨9<k):VU e k=none:= by
  unfold VU upd
  rw[if_neg (by omega),if_neg (by omega),if_neg (by omega),if_neg (by omega),if_neg (by omega),if_neg (by omega),if_neg (by omega),if_neg (by omega),if_neg (by omega),if_neg (by omega)]
theorem hd_0 {e:Nat}:VU e 0=some (.func (.func 70) #[ptrV e 0] #[]):= by unfold VU upd; simp
theorem hd_1 {e:Nat}:VU e 1=some (.func (.func 71) #[ptrV e 0] #[]):= by unfold VU upd; simp
theorem hd_2 {e:Nat}:VU e 2=some (.func (.func 72) #[ptrV e 0] #[]):= by unfold VU upd; simp
theorem hd_3 {e:Nat}:VU e 3=some (.func (.func 72) #[ptrV e 0] #[]):= by unfold VU upd; simp
theorem hd_4 {e:Nat}:VU e 4=some (.func (.func 73) #[ptrV e 0] #[]):= by unfold VU upd; simp
theorem hd_5 {e:Nat}:VU e 5=some (.func (.func 74) #[ptrV e 0] #[]):= by unfold VU upd; simp
theorem hd_6 {e:Nat}:VU e 6=some (.func (.func 75) #[ptrV e 0] #[]):= by unfold VU upd; simp
theorem hd_7 {e:Nat}:VU e 7=some (.func (.func 76) #[ptrV e 0] #[]):= by unfold VU upd; simp
theorem hd_8 {e:Nat}:VU e 8=some (.func (.func 77) #[ptrV e 0] #[]):= by unfold VU upd; simp
theorem hd_9 {e:Nat}:VU e 9=some (.func (.func 78) #[ptrV e 0] #[]):= by unfold VU upd; simp
theorem CT {e:Nat} {k:Int} (h:(VU e k).isSome=true):k=0∨k=1∨k=2∨k=3∨k=4∨k=5∨k=6∨k=7∨k=8∨k=9:= by
  by_cases q:k<0∨9<k
  · rw[hd_out q]at h; cases h
  · omega
theorem hd_none {e:Nat} {k:Int} (h:(VU e k).isSome=false):k<0∨9<k:= by
  by_cases q:k<0∨9<k
  · exact q
  · exfalso
    have q2:k=0∨k=1∨k=2∨k=3∨k=4∨k=5∨k=6∨k=7∨k=8∨k=9:= by omega
    rcases q2 with q2 | q2 | q2 | q2 | q2 | q2 | q2 | q2 | q2 | q2<;> subst q2
    · rw[hd_0]at h; cases h
    · rw[hd_1]at h; cases h
    · rw[hd_2]at h; cases h
    · rw[hd_3]at h; cases h
    · rw[hd_4]at h; cases h
    · rw[hd_5]at h; cases h
    · rw[hd_6]at h; cases h
    · rw[hd_7]at h; cases h
    · rw[hd_8]at h; cases h
    · rw[hd_9]at h; cases h
section
variable {E:EnD} {s:Bs} {m:MsD}
theorem HI (h:upE E=false∨(QU s).kind<0∨9<(QU s).kind∨(QU s).move<0∨4611686018427387904<(QU s).move∨Zy (QU s)≠s):X9 E s=(E,[]):= by unfold X9; rw[if_pos h]
theorem W5 (h: ¬(upE E=false∨(QU s).kind<0∨9<(QU s).kind∨(QU s).move<0∨4611686018427387904<(QU s).move∨Zy (QU s)≠s)):X9 E s=X8 E (QU s):= by unfold X9; rw[if_neg h]
theorem I1 (h:m.kind=0):X8 E m=(Xp E m,[]):= by unfold X8; simp [h]
theorem PN (h:m.kind=1):X8 E m=Xo E m:= by unfold X8; simp [h]
theorem M7 (h:m.kind=2):X8 E m=Xh E m:= by unfold X8; simp [h]
theorem PL (h:m.kind=3):X8 E m=Xh E m:= by unfold X8; simp [h]
theorem M6 (h:m.kind=4):X8 E m=(XB E m,[]):= by unfold X8; simp [h]
theorem I0 (h:m.kind=5):X8 E m=(WF E m,[]):= by unfold X8; simp [h]
theorem Iz (h:m.kind=6):X8 E m=(E,Zv E m):= by unfold X8; simp [h]
theorem Iy (h:m.kind=7):X8 E m=(ZL E m,[]):= by unfold X8; simp [h]
theorem Ix (h:m.kind=8):X8 E m=Z6 E m:= by unfold X8; simp [h]
theorem Iw (h:m.kind=9):X8 E m=(Jd E m,[]):= by unfold X8; simp [h]
end
theorem YC {w:World} {e:Nat} {E:EnD} {F:Th} (hS:Sat w [Xs e E,F]) (hG:Ent F WireG) (hO:Ent F (Glob 0)) (hW:EW E) (s:Bs) (hs:s.length≤1000):
    Calls prog 37 #[ptrV e 0,strV s] w (Ret fun v w'=>Sat w' [rowT Z4 v (X9 E s).2,Xs e (X9 E s).1,F]):= by
 refine Qy func37 Qa ntmps37 Qa ?_
 obtain⟨hd1,hd2,hd3,hd4,hd5⟩:=VO s
 refine Qg (Qb (Qc Qa Qa (Qh (Qe (Qg (Qb (Qd Qa Qa (Q4 FL Qa (DM (hS.sp [] Qa) s) Qa ?_))))))))
 rintro _ w1 ⟨rb,rfl,hS1⟩
 replace hS1:=hS1.jn Qa Qa
 refine Qc Qa Qa (Qh (Qe (Qg (Qb (Qd Qa Qa ?_)))))
 refine Q4 KB Qa (UE (hS1.sp [0] Qa) (hG.starL 1 Qa) (by have a0:=XO 59 (-9223372036854775808:Int) (s,false); have a1:=XO 59 (-9223372036854775808:Int) (Zh 59 (-9223372036854775808:Int) ((s,false))); have a2:=XO 59 (-9223372036854775808:Int) (Zh 59 (-9223372036854775808:Int) (Zh 59 (-9223372036854775808:Int) ((s,false)))); have a3:=XO 59 (-9223372036854775808:Int) (Zh 59 (-9223372036854775808:Int) (Zh 59 (-9223372036854775808:Int) (Zh 59 (-9223372036854775808:Int) ((s,false))))); have b0:(s,false).1.length=s.length:=rfl;omega)) Qa ?_
 rintro _ w2 ⟨rfl,hS2⟩
 replace hS2:=hS2.jn Qa Qa
 refine Qd Qa Qa ?_
 refine Q4 KB Qa (UE (hS2.sp [0] Qa) (hG.starL 1 Qa) (by have a0:=XO 59 (-9223372036854775808:Int) (s,false); have a1:=XO 59 (-9223372036854775808:Int) (Zh 59 (-9223372036854775808:Int) ((s,false))); have a2:=XO 59 (-9223372036854775808:Int) (Zh 59 (-9223372036854775808:Int) (Zh 59 (-9223372036854775808:Int) ((s,false)))); have a3:=XO 59 (-9223372036854775808:Int) (Zh 59 (-9223372036854775808:Int) (Zh 59 (-9223372036854775808:Int) (Zh 59 (-9223372036854775808:Int) ((s,false))))); have b0:(s,false).1.length=s.length:=rfl;omega)) Qa ?_
 rintro _ w3 ⟨rfl,hS3⟩
 replace hS3:=hS3.jn Qa Qa
 refine Qd Qa Qa ?_
 refine Q4 KB Qa (UE (hS3.sp [0] Qa) (hG.starL 1 Qa) (by have a0:=XO 59 (-9223372036854775808:Int) (s,false); have a1:=XO 59 (-9223372036854775808:Int) (Zh 59 (-9223372036854775808:Int) ((s,false))); have a2:=XO 59 (-9223372036854775808:Int) (Zh 59 (-9223372036854775808:Int) (Zh 59 (-9223372036854775808:Int) ((s,false)))); have a3:=XO 59 (-9223372036854775808:Int) (Zh 59 (-9223372036854775808:Int) (Zh 59 (-9223372036854775808:Int) (Zh 59 (-9223372036854775808:Int) ((s,false))))); have b0:(s,false).1.length=s.length:=rfl;omega)) Qa ?_
 rintro _ w4 ⟨rfl,hS4⟩
 replace hS4:=hS4.jn Qa Qa
 refine Qd Qa Qa ?_
 refine Q4 KB Qa (UE (hS4.sp [0] Qa) (hG.starL 1 Qa) (by have a0:=XO 59 (-9223372036854775808:Int) (s,false); have a1:=XO 59 (-9223372036854775808:Int) (Zh 59 (-9223372036854775808:Int) ((s,false))); have a2:=XO 59 (-9223372036854775808:Int) (Zh 59 (-9223372036854775808:Int) (Zh 59 (-9223372036854775808:Int) ((s,false)))); have a3:=XO 59 (-9223372036854775808:Int) (Zh 59 (-9223372036854775808:Int) (Zh 59 (-9223372036854775808:Int) (Zh 59 (-9223372036854775808:Int) ((s,false))))); have b0:(s,false).1.length=s.length:=rfl;omega)) Qa ?_
 rintro _ w5 ⟨rfl,hS5⟩
 replace hS5:=hS5.jn Qa Qa
 refine Qd Qa Qa ?_
 refine Q4 IZ Qa (Pb (hS5.sp [0] Qa) (hG.starL 1 Qa) (by have a0:=XO 59 (-9223372036854775808:Int) (s,false); have a1:=XO 59 (-9223372036854775808:Int) (Zh 59 (-9223372036854775808:Int) ((s,false))); have a2:=XO 59 (-9223372036854775808:Int) (Zh 59 (-9223372036854775808:Int) (Zh 59 (-9223372036854775808:Int) ((s,false)))); have a3:=XO 59 (-9223372036854775808:Int) (Zh 59 (-9223372036854775808:Int) (Zh 59 (-9223372036854775808:Int) (Zh 59 (-9223372036854775808:Int) ((s,false))))); have b0:(s,false).1.length=s.length:=rfl;omega)) Qa ?_
 rintro _ w6 ⟨rfl,hS6⟩
 replace hS6:=hS6.jn Qa Qa
 refine Zu Qa Vt N4 Ck Qa Qa (Xk hS6 Ck Qa Qa ?_)
 intro b7 w7 hS7
 first | (refine QX hS7 Qa Qa SO Qa (by rfl) (i:=0) Qa (by decide) ?_)
 intro w8 hS9; dsimp only[List.set]at hS9
 refine Qh ?_
 have hz2:Sat _ (QR _ [intV (QU s).kind,intV (QU s).move,intV (QU s).a,intV (QU s).b,strV (QU s).data]::_):=hS9
 refine Qe (Qk [1,0,4,6] Qa (Qg (Qb (W6 Za hz2 Qa ?_))))
 intro hm w10 hS10
 clear hz2
 refine Qd Qa Qa (Wn (vs:=[ptrV e 0]) Qa Qa (JH (k:=0) (v:=(.func (.func 70) #[ptrV e 0] #[])) 0 hS10 keysInt underlying109 Qa Qa Qa Qa ?_))
 intro w11 hS11; dsimp only[List.set]at hS11
 refine Qd Qa Qa (Wn (vs:=[ptrV e 0]) Qa Qa (JH (k:=1) (v:=(.func (.func 71) #[ptrV e 0] #[])) 0 hS11 keysInt underlying109 Qa Qa Qa Qa ?_))
 intro w12 hS12; dsimp only[List.set]at hS12
 refine Qd Qa Qa (Wn (vs:=[ptrV e 0]) Qa Qa (JH (k:=2) (v:=(.func (.func 72) #[ptrV e 0] #[])) 0 hS12 keysInt underlying109 Qa Qa Qa Qa ?_))
 intro w13 hS13; dsimp only[List.set]at hS13
 refine Qd Qa Qa (Wn (vs:=[ptrV e 0]) Qa Qa (JH (k:=3) (v:=(.func (.func 72) #[ptrV e 0] #[])) 0 hS13 keysInt underlying109 Qa Qa Qa Qa ?_))
 intro w14 hS14; dsimp only[List.set]at hS14
 refine Qd Qa Qa (Wn (vs:=[ptrV e 0]) Qa Qa (JH (k:=4) (v:=(.func (.func 73) #[ptrV e 0] #[])) 0 hS14 keysInt underlying109 Qa Qa Qa Qa ?_))
 intro w15 hS15; dsimp only[List.set]at hS15
 refine Qd Qa Qa (Wn (vs:=[ptrV e 0]) Qa Qa (JH (k:=5) (v:=(.func (.func 74) #[ptrV e 0] #[])) 0 hS15 keysInt underlying109 Qa Qa Qa Qa ?_))
 intro w16 hS16; dsimp only[List.set]at hS16
 refine Qd Qa Qa (Wn (vs:=[ptrV e 0]) Qa Qa (JH (k:=6) (v:=(.func (.func 75) #[ptrV e 0] #[])) 0 hS16 keysInt underlying109 Qa Qa Qa Qa ?_))
 intro w17 hS17; dsimp only[List.set]at hS17
 refine Qd Qa Qa (Wn (vs:=[ptrV e 0]) Qa Qa (JH (k:=7) (v:=(.func (.func 76) #[ptrV e 0] #[])) 0 hS17 keysInt underlying109 Qa Qa Qa Qa ?_))
 intro w18 hS18; dsimp only[List.set]at hS18
 refine Qd Qa Qa (Wn (vs:=[ptrV e 0]) Qa Qa (JH (k:=8) (v:=(.func (.func 77) #[ptrV e 0] #[])) 0 hS18 keysInt underlying109 Qa Qa Qa Qa ?_))
 intro w19 hS19; dsimp only[List.set]at hS19
 refine Qd Qa Qa (Wn (vs:=[ptrV e 0]) Qa Qa (JH (k:=9) (v:=(.func (.func 78) #[ptrV e 0] #[])) 0 hS19 keysInt underlying109 Qa Qa Qa Qa ?_))
 intro w20 hS20; dsimp only[List.set]at hS20
 refine Qd Qa Qa (Qc Qa Qa (Qh ?_))
 have hz3:Sat _ (XI Za hm (VU e)::_):=hS20.pick [0,1,2,3,4] Qa
 refine Qe (Qk [1,0,4,6,7] Qa (Qg (Qb (Qd Qa Qa (Qi Qa JE Qa (Qp Qa QK (hz3.cell 1 Qa Qa) Qa (HD (k:=(QU s).kind) 0 hz3 keysInt underlying109 Qa Qa Qa zr_108 (u:=(VU e (QU s).kind).getD .nilFunc) (g:=(VU e (QU s).kind).isSome) Qa Qa Qa (Qd Qa Qa (Q9 Qa Qa Qa (Q9 Qa Qa Qa (Qc Qa Qa (Qc Qa Qa (Qh (Qe (Qk [1,0,4,6,8,9] Qa (Qg (Qg (Qb (Qd Qa Qa ?_)))))))))))))))))))
 have hC21:=hz3.sp [3] Qa
 refine Q4 Bx Qa (Ty hC21) Qa ?_
 rintro _ w21 ⟨rfl,hS21⟩
 replace hS21:=hS21.jn Qa Qa; clear hC21
 clear hz3
 refine XS Qa Qa (Qd Qa Qa (Zz 55 Qa (fun h22=> ?_) (fun h22=> ?_)))
 ·have hu0:upE E=false:= by simpa using h22
  refine Qf Qa Qa h22 Qa (Qf Qa Qa h22 Qa (Qx Qa h22 Qa Qa (Qd Qa Qa (Qf Qa Qa Qa Qa (Qf Qa Qa Qa Qa (Qf Qa Qa Qa Qa (Qx Qa Qa Qa Qa (Qd Qa Qa (Qf Qa Qa Qa Qa (Qf Qa Qa Qa Qa (Qf Qa Qa Qa Qa (Qx Qa Qa Qa Qa (Qd Qa Qa (Qf Qa Qa Qa Qa (Qf Qa Qa Qa Qa (Qf Qa Qa Qa Qa (Qf Qa Qa Qa Qa (Qx Qa Qa Qa Qa (Qh (Qe (Qk [4,6,8,74] Qa (QL Qa (Qg (Qb (Qc Qa Qa (Qh (Qe (Qo (Qm (Q7 (.inr Qa) Qa Qa ?_))))))))))))))))))))))))))))))
  exact⟨_,rfl, by rw[HI (by first | exact .inl hu0 | exact .inr (hkr.elim .inl fun q=> .inr (.inl q)) | exact .inr (.inr (.inr (.inl hm0))) | exact .inr (.inr (.inr (.inr (.inl hm1)))))]; exact(Sat.row_nil Z4 (hS21.pick [0,4] Qa))⟩
 have hup: ¬upE E=false:= by simpa using h22
 have hu:=RW hup
 refine Qj Qa Qa h22 (Qd Qa Qa (Qj Qa Qa h22 (XS Qa Qa (Qz Qa h22 Qa Qa (Qd Qa Qa (Zz 59 Qa (fun h23=> ?_) (fun h23=> ?_)))))))
 ·have hkr:=hd_none (e:=e) (k:=(QU s).kind) (by simpa using h23)
  refine Qf Qa Qa h23 Qa (Qf Qa Qa h23 Qa (Qf Qa Qa h23 Qa (Qx Qa h23 Qa Qa (Qd Qa Qa (Qf Qa Qa Qa Qa (Qf Qa Qa Qa Qa (Qf Qa Qa Qa Qa (Qx Qa Qa Qa Qa (Qd Qa Qa (Qf Qa Qa Qa Qa (Qf Qa Qa Qa Qa (Qf Qa Qa Qa Qa (Qf Qa Qa Qa Qa (Qx Qa Qa Qa Qa (Qh (Qe (Qk [4,6,8,74] Qa (QL Qa (Qg (Qb (Qc Qa Qa (Qh (Qe (Qo (Qm (Q7 (.inr Qa) Qa Qa ?_))))))))))))))))))))))))))
  exact⟨_,rfl, by rw[HI (by first | exact .inl hu0 | exact .inr (hkr.elim .inl fun q=> .inr (.inl q)) | exact .inr (.inr (.inr (.inl hm0))) | exact .inr (.inr (.inr (.inr (.inl hm1)))))]; exact(Sat.row_nil Z4 (hS21.pick [0,4] Qa))⟩
 have hks:(VU e (QU s).kind).isSome=true:= by simpa using h23
 refine Qj Qa Qa h23 (Qi Qa ZE Qa (Qj Qa Qa h23 (Qp Qa QK (hS21.cell 2 Qa Qa) Qa (Qj Qa Qa h23 (Xz Qa Qa Qa (Qz Qa h23 Qa Qa (Qd Qa Qa (Q3 64 Qa (fun h24=> ?_) (fun h24=> ?_)))))))))
 ·have hm0:(QU s).move<0:=h24
  refine Qf Qa Qa (Q8 h24) Qa (Qf Qa Qa (Q8 h24) Qa (Qf Qa Qa (Q8 h24) Qa (Qx Qa (Q8 h24) Qa Qa (Qd Qa Qa (Qf Qa Qa Qa Qa (Qf Qa Qa Qa Qa (Qf Qa Qa Qa Qa (Qf Qa Qa Qa Qa (Qx Qa Qa Qa Qa (Qh (Qe (Qk [4,6,8,74] Qa (QL Qa (Qg (Qb (Qc Qa Qa (Qh (Qe (Qo (Qm (Q7 (.inr Qa) Qa Qa ?_)))))))))))))))))))))
  exact⟨_,rfl, by rw[HI (by first | exact .inl hu0 | exact .inr (hkr.elim .inl fun q=> .inr (.inl q)) | exact .inr (.inr (.inr (.inl hm0))) | exact .inr (.inr (.inr (.inr (.inl hm1)))))]; exact(Sat.row_nil Z4 (hS21.pick [0,4] Qa))⟩
 have hm0: ¬(QU s).move<0:=h24
 refine Qj Qa Qa (Qv h24) (Qi Qa ZE Qa (Qj Qa Qa (Qv h24) (Qp Qa QK (hS21.cell 2 Qa Qa) Qa (Qj Qa Qa (Qv h24) (We Qa Qa Qa (Qz Qa (Qv h24) Qa Qa (Qd Qa Qa (Q3 69 Qa (fun h25=> ?_) (fun h25=> ?_)))))))))
 ·have hm1:4611686018427387904<(QU s).move:=h25
  refine Qf Qa Qa (Q8 h25) Qa (Qf Qa Qa (Q8 h25) Qa (Qf Qa Qa (Q8 h25) Qa (Qf Qa Qa (Q8 h25) Qa (Qx Qa (Q8 h25) Qa Qa (Qh (Qe (Qk [4,6,8,74] Qa (QL Qa (Qg (Qb (Qc Qa Qa (Qh (Qe (Qo (Qm (Q7 (.inr Qa) Qa Qa ?_))))))))))))))))
  exact⟨_,rfl, by rw[HI (by first | exact .inl hu0 | exact .inr (hkr.elim .inl fun q=> .inr (.inl q)) | exact .inr (.inr (.inr (.inl hm0))) | exact .inr (.inr (.inr (.inr (.inl hm1)))))]; exact(Sat.row_nil Z4 (hS21.pick [0,4] Qa))⟩
 have hm1: ¬4611686018427387904<(QU s).move:=h25
 refine Qj Qa Qa (Qv h25) (Zg Qa qa0 SO (by first | exact hS21.blk 2 Qa) (Xe Qa) Qa Qa ?_)
 refine Qj Qa Qa (Qv h25) (Q4 FK Qa (Bj (hS21.sp [] Qa) (hG.starL 4 Qa) (m:=QU s) ⟨hd1,hd2,hd3,hd4, by omega⟩) Qa ?_)
 rintro _ w26 ⟨rfl,hS26⟩
 replace hS26:=hS26.jn Qa Qa
 refine Qj Qa Qa (Qv h25) (Qd Qa Qa (Qj Qa Qa (Qv h25) (KG Qa Qa Qa (Qz Qa (Qv h25) Qa Qa (Qh (Qe (Qk [4,6,8,74] Qa (Qw Qa (fun h27=> ?_) (fun h27=> ?_)))))))))
 ·have hne:Zy (QU s)≠s:=h27
  refine Qg (Qb (Qc Qa Qa (Qh (Qe (Qo (Qm (Q7 (.inr Qa) Qa Qa ?_)))))))
  exact⟨_,rfl, by rw[HI (by exact .inr (.inr (.inr (.inr (.inr hne)))))]; exact(Sat.row_nil Z4 (hS26.pick [0,4] Qa))⟩
 have heq:Zy (QU s)=s:=Decidable.not_not.1 h27
 have hyes: ¬(upE E=false∨(QU s).kind<0∨9<(QU s).kind∨(QU s).move<0∨4611686018427387904<(QU s).move∨Zy (QU s)≠s):= by rintro(q | q | q | q | q | q); exact hup q;(have :=CT hks;omega);(have :=CT hks;omega); exact hm0 q; exact hm1 q; exact q heq
 have hmw:MsW (QU s):=⟨hd1,⟨by omega, by omega⟩,hd3,hd4, by omega⟩
 have hmm:Xy (QU s).move:=hd2
 have hmv:=hW.km.2.2.2
 have hpv: ∀x p,E.ses=some x→QN x.pages (QU s).a=some p→Xy p.ver∧p.data.length≤20000000:= fun x p hx hp=> by have :=(hW.ses x hx).pg _ (JC hp); exact⟨this.2.1, by have :=this.2.2.2; dsimp only at this;omega⟩
 refine Qr (Qe (Qg (Qb (Qd Qa Qa ?_))))
 refine Zg Qa qa0 SO (by first | exact hS26.blk 2 Qa) (by first | decide | exact Xe Qa | (simp;done) | omega) Qa Qa ?_
 rcases CT hks with hkj | hkj | hkj | hkj | hkj | hkj | hkj | hkj | hkj | hkj
 ·have hv:(VU e (QU s).kind).getD .nilFunc=(.func (.func 70) #[ptrV e 0] #[]):= by rw[hkj,hd_0];rfl
  rw[hv]
  refine Y1 (fs:=[ptrV e 0]) (vs:=[.agg #[intV (QU s).kind,intV (QU s).move,intV (QU s).a,intV (QU s).b,strV (QU s).data]]) Qa cal_70 Qa (P8 (hS26.sp [0] Qa) (QU s) hW hmw) Qa ?_
  rintro e w28 ⟨_,rfl,hS28⟩; refine⟨_,rfl, ?_⟩
  replace hS28:=hS28.jn Qa Qa
  have h1v:=hS28.own_one 0 Qa
  refine Qc Qa Qa (Qh (Qe (Qo (Q7 (.inr Qa) Qa Qa ?_))))
  exact⟨_,rfl, by rw[W5 hyes,I1 hkj]; exact hS28.pick [0,1,5] Qa⟩
 ·have hv:(VU e (QU s).kind).getD .nilFunc=(.func (.func 71) #[ptrV e 0] #[]):= by rw[hkj,hd_1];rfl
  rw[hv]
  refine Y1 (fs:=[ptrV e 0]) (vs:=[.agg #[intV (QU s).kind,intV (QU s).move,intV (QU s).a,intV (QU s).b,strV (QU s).data]]) Qa cal_71 Qa (P7 (hS26.sp [0] Qa) (QU s) (hG.starL 3 Qa) (hO.starL 3 Qa) hW hmw hu) Qa ?_
  rintro e w29 ⟨_,rfl,hS29⟩; refine⟨_,rfl, ?_⟩
  replace hS29:=hS29.jn Qa Qa
  have h1v:=hS29.own_one 0 Qa
  refine Qc Qa Qa (Qh (Qe (Qo (Q7 (.inr Qa) Qa Qa ?_))))
  exact⟨_,rfl, by rw[W5 hyes,PN hkj]; exact hS29.pick [0,1,5] Qa⟩
 ·have hv:(VU e (QU s).kind).getD .nilFunc=(.func (.func 72) #[ptrV e 0] #[]):= by rw[hkj,hd_2];rfl
  rw[hv]
  refine Y1 (fs:=[ptrV e 0]) (vs:=[.agg #[intV (QU s).kind,intV (QU s).move,intV (QU s).a,intV (QU s).b,strV (QU s).data]]) Qa IY Qa (R3 (hS26.sp [0] Qa) (QU s) (hG.starL 3 Qa) (hO.starL 3 Qa) hu hmm hmv) Qa ?_
  rintro e w30 ⟨_,rfl,hS30⟩; refine⟨_,rfl, ?_⟩
  replace hS30:=hS30.jn Qa Qa
  have h1v:=hS30.own_one 0 Qa
  refine Qc Qa Qa (Qh (Qe (Qo (Q7 (.inr Qa) Qa Qa ?_))))
  exact⟨_,rfl, by rw[W5 hyes,M7 hkj]; exact hS30.pick [0,1,5] Qa⟩
 ·have hv:(VU e (QU s).kind).getD .nilFunc=(.func (.func 72) #[ptrV e 0] #[]):= by rw[hkj,hd_3];rfl
  rw[hv]
  refine Y1 (fs:=[ptrV e 0]) (vs:=[.agg #[intV (QU s).kind,intV (QU s).move,intV (QU s).a,intV (QU s).b,strV (QU s).data]]) Qa IY Qa (R3 (hS26.sp [0] Qa) (QU s) (hG.starL 3 Qa) (hO.starL 3 Qa) hu hmm hmv) Qa ?_
  rintro e w31 ⟨_,rfl,hS31⟩; refine⟨_,rfl, ?_⟩
  replace hS31:=hS31.jn Qa Qa
  have h1v:=hS31.own_one 0 Qa
  refine Qc Qa Qa (Qh (Qe (Qo (Q7 (.inr Qa) Qa Qa ?_))))
  exact⟨_,rfl, by rw[W5 hyes,PL hkj]; exact hS31.pick [0,1,5] Qa⟩
 ·have hv:(VU e (QU s).kind).getD .nilFunc=(.func (.func 73) #[ptrV e 0] #[]):= by rw[hkj,hd_4];rfl
  rw[hv]
  refine Y1 (fs:=[ptrV e 0]) (vs:=[.agg #[intV (QU s).kind,intV (QU s).move,intV (QU s).a,intV (QU s).b,strV (QU s).data]]) Qa cal_73 Qa (CR (hS26.sp [0] Qa) (QU s) (hG.starL 3 Qa) (hO.starL 3 Qa) hW hmw hu) Qa ?_
  rintro e w32 ⟨_,rfl,hS32⟩; refine⟨_,rfl, ?_⟩
  replace hS32:=hS32.jn Qa Qa
  have h1v:=hS32.own_one 0 Qa
  refine Qc Qa Qa (Qh (Qe (Qo (Q7 (.inr Qa) Qa Qa ?_))))
  exact⟨_,rfl, by rw[W5 hyes,M6 hkj]; exact hS32.pick [0,1,5] Qa⟩
 ·have hv:(VU e (QU s).kind).getD .nilFunc=(.func (.func 74) #[ptrV e 0] #[]):= by rw[hkj,hd_5];rfl
  rw[hv]
  refine Y1 (fs:=[ptrV e 0]) (vs:=[.agg #[intV (QU s).kind,intV (QU s).move,intV (QU s).a,intV (QU s).b,strV (QU s).data]]) Qa cal_74 Qa (Ao (hS26.sp [0] Qa) (QU s) (hG.starL 3 Qa) (hO.starL 3 Qa) hu hmm) Qa ?_
  rintro e w33 ⟨_,rfl,hS33⟩; refine⟨_,rfl, ?_⟩
  replace hS33:=hS33.jn Qa Qa
  have h1v:=hS33.own_one 0 Qa
  refine Qc Qa Qa (Qh (Qe (Qo (Q7 (.inr Qa) Qa Qa ?_))))
  exact⟨_,rfl, by rw[W5 hyes,I0 hkj]; exact hS33.pick [0,1,5] Qa⟩
 ·have hv:(VU e (QU s).kind).getD .nilFunc=(.func (.func 75) #[ptrV e 0] #[]):= by rw[hkj,hd_6];rfl
  rw[hv]
  refine Y1 (fs:=[ptrV e 0]) (vs:=[.agg #[intV (QU s).kind,intV (QU s).move,intV (QU s).a,intV (QU s).b,strV (QU s).data]]) Qa cal_75 Qa (P1 (hS26.sp [0] Qa) (QU s) (hG.starL 3 Qa) hmv hmw.a hpv) Qa ?_
  rintro e w34 ⟨_,rfl,hS34⟩; refine⟨_,rfl, ?_⟩
  replace hS34:=hS34.jn Qa Qa
  have h1v:=hS34.own_one 0 Qa
  refine Qc Qa Qa (Qh (Qe (Qo (Q7 (.inr Qa) Qa Qa ?_))))
  exact⟨_,rfl, by rw[W5 hyes,Iz hkj]; exact hS34.pick [0,1,5] Qa⟩
 ·have hv:(VU e (QU s).kind).getD .nilFunc=(.func (.func 76) #[ptrV e 0] #[]):= by rw[hkj,hd_7];rfl
  rw[hv]
  refine Y1 (fs:=[ptrV e 0]) (vs:=[.agg #[intV (QU s).kind,intV (QU s).move,intV (QU s).a,intV (QU s).b,strV (QU s).data]]) Qa cal_76 Qa (PB (hS26.sp [0] Qa) (QU s) hW) Qa ?_
  rintro e w35 ⟨_,rfl,hS35⟩; refine⟨_,rfl, ?_⟩
  replace hS35:=hS35.jn Qa Qa
  have h1v:=hS35.own_one 0 Qa
  refine Qc Qa Qa (Qh (Qe (Qo (Q7 (.inr Qa) Qa Qa ?_))))
  exact⟨_,rfl, by rw[W5 hyes,Iy hkj]; exact hS35.pick [0,1,5] Qa⟩
 ·have hv:(VU e (QU s).kind).getD .nilFunc=(.func (.func 77) #[ptrV e 0] #[]):= by rw[hkj,hd_8];rfl
  rw[hv]
  refine Y1 (fs:=[ptrV e 0]) (vs:=[.agg #[intV (QU s).kind,intV (QU s).move,intV (QU s).a,intV (QU s).b,strV (QU s).data]]) Qa cal_77 Qa (PK (hS26.sp [0] Qa) (QU s) (hG.starL 3 Qa) hmv) Qa ?_
  rintro e w36 ⟨_,rfl,hS36⟩; refine⟨_,rfl, ?_⟩
  replace hS36:=hS36.jn Qa Qa
  have h1v:=hS36.own_one 0 Qa
  refine Qc Qa Qa (Qh (Qe (Qo (Q7 (.inr Qa) Qa Qa ?_))))
  exact⟨_,rfl, by rw[W5 hyes,Ix hkj]; exact hS36.pick [0,1,5] Qa⟩
 have hv:(VU e (QU s).kind).getD .nilFunc=(.func (.func 78) #[ptrV e 0] #[]):= by rw[hkj,hd_9];rfl
 rw[hv]
 refine Y1 (fs:=[ptrV e 0]) (vs:=[.agg #[intV (QU s).kind,intV (QU s).move,intV (QU s).a,intV (QU s).b,strV (QU s).data]]) Qa cal_78 Qa (An (hS26.sp [0] Qa) (QU s)) Qa ?_
 rintro e w37 ⟨_,rfl,hS37⟩; refine⟨_,rfl, ?_⟩
 replace hS37:=hS37.jn Qa Qa
 have h1v:=hS37.own_one 0 Qa
 refine Qc Qa Qa (Qh (Qe (Qo (Q7 (.inr Qa) Qa Qa ?_))))
 exact⟨_,rfl, by rw[W5 hyes,Iw hkj]; exact hS37.pick [0,1,5] Qa⟩
theorem rep_set {b:UInt8} {i:Nat} (h:i<64):(List.replicate i b++List.replicate (64 -i) (0:UInt8)).set i b=List.replicate (i+1) b++List.replicate (64 -(i+1)) 0:= by
  rw[List.set_append_right _ _ (by simp),List.length_replicate,Nat.sub_self, show 64 -i=(64 -(i+1))+1 by omega,List.replicate_succ,List.set_cons_zero,List.replicate_succ',List.append_assoc]
  rfl
structure OpX where
  o:OpD
  kv:Value
def opV (x:OpX):List Value:=[intV x.o.dO,intV x.o.n,intV x.o.id,.int .u8 (x.o.b.toNat:Int),strV x.o.s,x.kv]
abbrev OpsRd (v:Value) (l:List OpX) (w:World):Prop:=RdX opV 6 (fun x w=>RdI x.kv x.o.keep w) v l w
def okO (o:OpD):Bool:=decide (o.s.length≤900)&&decide (o.keep.length≤20)
def Se (l:List OpX) (n:Int):Bool:=(l.all fun x=>okO x.o)&&decide ((l.length:Int)≤n)
def Kn (s:SsD):Bool:=Zi s&&decide (s.state.length≤900)&&decide (s.sheets.length≤30)
theorem Sd {l:List OpX} {n:Int} {i:Nat} {x:OpX} (hx:l[i]? =some x) (h:900<x.o.s.length∨20<x.o.keep.length):Se l n=false:= by
  have :(l.all fun x=>okO x.o)=false:= by
    rw[List.all_eq_false]
    exact⟨x,List.mem_of_getElem? hx, by unfold okO; simp;omega⟩
  unfold Se; rw[this];rfl
theorem fewB_go {l:List OpX} {n:Int} (h: ∀i x,i<l.length→l[i]? =some x→okO x.o=true):Se l n=decide ((l.length:Int)≤n):= by
  have :(l.all fun x=>okO x.o)=true:= by
    rw[List.all_eq_true]
    intro x hx
    obtain⟨i,hi⟩:=List.mem_iff_getElem?.1 hx
    exact h i x (Jo hi).1 hi
  unfold Se; rw[this];rfl
theorem fewB_of {l:List OpX} {n:Int} (h:Se l n=true):(∀x∈l,x.o.s.length≤900∧x.o.keep.length≤20)∧(l.length:Int)≤n:= by
  unfold Se at h
  simp only[Bool.and_eq_true,List.all_eq_true,decide_eq_true_eq]at h
  refine⟨fun x hx=> ?_,h.2⟩
  have :=h.1 x hx
  unfold okO at this
  simpa using this
theorem HH {w:World} {F:Th} (hS:Sat w [F]) (b:UInt8):
    Calls prog 35 #[.int .u8 (b.toNat:Int)] w (Ret fun v w'=>v=strV (List.replicate 64 b)∧Sat w' [F]):= by
 refine Qy func35 Qa ntmps35 Qa ?_
 refine Qg (Qb (Qc Qa Qa (Qh (Qe (Qg (Qb (Lc hS 64 Qa Qa Qa underlying98 L8 Qa (by omega) (by omega) Qa ?_)))))))
 intro lb w1 hS1; replace hS1:=Sat.row_cast (C:=byC) (l:=List.replicate 0 b++List.replicate (64 -0) (0:UInt8)) hS1 Qa Qa Qa
 refine Qc Qa Qa (Qh (Qe (Qg (Qg (Qb (Qc Qa Qa (Qh (Qe (QD ?_)))))))))
 refine XD (fun K0 E0 W0=> ∃(i:Nat),K0=64 -i∧E0=[(0,.int .u8 (b.toNat:Int)),(3,.slice (some ⟨lb,0,none⟩) 64 64),(4,intV (i:Int))]∧Sat W0 [rowT byC (.slice (some ⟨lb,0,none⟩) 64 64) (List.replicate i b++List.replicate (64 -i) (0:UInt8)),F]∧(i≤64)) (L0:=[(0,_),(3,_),(4,_)]) (64 -0) (Dh Qa Qa Qa) ⟨0,rfl,rfl,hS1.pick [0,1] Qa, by omega⟩ ?_
 rintro _ _ w2 ⟨i,rfl,rfl,hS2,hi⟩
 refine Qg (Qg (Qb (Qd Qa Qa (Qd Qa Qa ?_))))
 first | refine Xj underlying98 Qa Qa ?_ | refine X3 0 hS2 underlying98 Qa Qa Qa ?_
 refine Xz Qa Qa Qa (Qh (Qe (Qw Qa (fun h3=> ?_) (fun h3=> ?_))))
 ·have hlt:i<64:= by have q9:=h3;omega
  have hln:(List.replicate i b++List.replicate (64 -i) (0:UInt8)).length=64:= by simp;omega
  obtain⟨y,hy⟩: ∃y,(List.replicate i b++List.replicate (64 -i) (0:UInt8))[i]? =some y:=⟨_,WU (by omega)⟩
  refine Qr (Qe (Qg (QD (Qb (Qd Qa Qa (Qd Qa Qa (Qd Qa Qa (ZP byC 0 i hS2 Qa Qa Qa (by first | rfl | omega) hy es_98 Qa ?_))))))))
  intro bx4 capx4 hvx4
  refine BB 0 i b hS2 Qa hvx4 Qa Qa sz_5 (by rfl) (by omega) ?_
  intro w5 hS6; dsimp only[List.set]at hS6
  refine Qh (Qq (Qe (Qk [4,3,0] Qa (Qb (Qd Qa Qa (Xq Qa Qa (by omega) (by omega) Qa ?_))))))
  refine Qc Qa Qa (Qh ?_)
  exact QY (L1:=[(0,_),(3,_),(4,intV ((i+1:Nat):Int))]) (Dh Qa Qa Qa) (k1:=64 -(i+1)) (by omega) ⟨i+1,rfl,rfl,(by rw[←rep_set (by omega)]; exact hS6.pick [0,1] Qa), by omega⟩
 refine Xu (Q1 (Q1 (QJ (Qe (Qg (Qb (Qd Qa Qa (Tt 0 hS2 Qa Qa underlying98 underlying5 underlying9 Qa (Qc Qa Qa (Qh (Qe (Qo (Q7 (.inr Qa) Qa Qa ?_)))))))))))))
 exact⟨_,rfl,(by rw[show i=64 by omega]; simp),hS2.pick [1] Qa⟩
theorem TE {kv:Value} {ks:List Int} {w:World} (h:RdI kv ks w): ∃ka kc,kv= .slice ka ks.length kc:= by
  obtain⟨ao,cap,h1,_⟩:=h
  exact⟨ao,cap,h1⟩
theorem lfew_sp {w:World} {F:Th} (hS:Sat w [F]) {lv:Value} {l:List OpX} (hL:Ent F (OpsRd lv l)) (n:Int):
    Calls prog 8 #[lv,intV n] w (Ret fun v w'=>v= .bool (Se l n)∧Sat w' [F]):= by
 obtain⟨ao,cap,rfl,hmax⟩:=(hL.sat hS 0 rfl).shape
 refine Qy func8 Qa ntmps8 Qa ?_
 refine Qg (Qb (Qc Qa Qa (Qh (Qe (Qg (Qg (Qb (Qc Qa Qa (Qh (Qe (QD ?_)))))))))))
 refine XD (fun K0 E0 W0=> ∃(i:Nat),K0=l.length -i∧E0=[(0,.slice ao l.length cap),(1,intV n),(5,intV (i:Int))]∧Sat W0 [F]∧(i≤l.length)∧(∀j x,j<i→l[j]? =some x→okO x.o=true)) (L0:=[(0,_),(1,_),(5,_)]) (l.length -0) (Dh Qa Qa Qa) ⟨0,rfl,rfl,hS, by omega, by omega⟩ ?_
 rintro _ _ w1 ⟨i,rfl,rfl,hS1,hi,hok⟩
 refine Qg (Qg (Qb (Qd Qa Qa (Qd Qa Qa (Xj underlying25 Qa Qa (Xz Qa Qa Qa (Qh (Qe (Qw Qa (fun h2=> ?_) (fun h2=> ?_))))))))))
 ·obtain⟨x,hx⟩: ∃x,l[i]? =some x:=⟨_,WU (by omega)⟩
  obtain⟨⟨b,off,rfl,hc⟩,hrd⟩:=(hL.sat hS1 0 rfl).get hx
  obtain⟨ka,kc,hkv⟩:=TE hrd
  refine Qr (Qe (Qg (QD (Qg (Qb (Qd Qa Qa (Qd Qa Qa (XG i Qa Qa (by first | rfl | omega) (by omega) LM Qa ?_))))))))
  refine Qi Qa Dv Qa (Qp Qa Zw (hc 4 _ Qa) Qa (Zs underlying9 Qa Qa (We Qa Qa Qa (Qd Qa Qa (Q3 19 Qa (fun h3=> ?_) (fun h3=> ?_))))))
  ·exact Qf Qa Qa (Q8 h3) Qa (Qf Qa Qa (Q8 h3) Qa (Qf Qa Qa (Q8 h3) Qa (Qf Qa Qa (Q8 h3) Qa (Qf Qa Qa (Q8 h3) Qa (Qf Qa Qa (Q8 h3) Qa (Qf Qa Qa (Q8 h3) Qa (Qx Qa (Q8 h3) Qa Qa (Qh (Qe (Qk [5,1,0,27] Qa (QL Qa (Qg (Qb (Qc Qa Qa (Qh (Qe (Qo (Q0 (Qm (Qm (Q0 (Qm (Q7 (.inr Qa) Qa Qa (⟨_,rfl, by rw[Sd hx (by omega)],hS1.pick [0] Qa⟩))))))))))))))))))))))))
  refine Qj Qa Qa (Qv h3) (Qd Qa Qa (Qj Qa Qa (Qv h3) (Qd Qa Qa (Qj Qa Qa (Qv h3) (XG i Qa Qa (by rfl) (by omega) LM Qa ?_)))))
  refine Qj Qa Qa (Qv h3) (Qi Qa fo_35_5 Qa (Qj Qa Qa (Qv h3) (Qp Qa S6 (hc 5 _ Qa) Qa ?_)))
  rw[hkv]
  refine Qj Qa Qa (Qv h3) (Xj underlying33 Qa Qa (Qj Qa Qa (Qv h3) (We Qa Qa Qa (Qz Qa (Qv h3) Qa Qa (Qh (Qe (Qk [5,1,0,27] Qa (Qw Qa (fun h4=> ?_) (fun h4=> ?_)))))))))
  ·exact Qg (Qb (Qc Qa Qa (Qh (Qe (Qo (Q0 (Qm (Qm (Q0 (Qm (Q7 (.inr Qa) Qa Qa (⟨_,rfl, by rw[Sd hx (by omega)],hS1.pick [0] Qa⟩))))))))))))
  refine Qr (Qq (Qe (Qb (Qd Qa Qa (Xq Qa Qa (by omega) (by omega) Qa ?_)))))
  refine Qc Qa Qa (Qh ?_)
  exact QY (L1:=[(0,_),(1,_),(5,intV ((i+1:Nat):Int))]) (Dh Qa Qa Qa) (k1:=l.length -(i+1)) (by omega) ⟨i+1,rfl,rfl,hS1, by omega, fun j y hj hy=> by by_cases e:j=i;(subst e; rw[hx]at hy; cases hy;unfold okO; simp;omega); exact hok j y (by omega) hy⟩
 exact Xu (Q1 (Q1 (QJ (Qe (Qg (Qb (Qd Qa Qa (Xj underlying25 Qa Qa (Qd Qa Qa (W7 Qa Qa Qa (Qc Qa Qa (Qh (Qe (Qk [4] Qa (Qo (Q7 (.inr Qa) Qa Qa (⟨_,rfl, by rw[fewB_go fun j x hj hx=>hok j x (by omega) hx],hS1.pick [0] Qa⟩)))))))))))))))))
theorem E5 {w:World} {F:Th} (hS:Sat w [F]) {t:Bs} {sv:Value} {l:AL Bs} (hL:Ent F (RdL shC sv l)):
    Calls prog 38 #[.agg #[strV t,sv]] w (Ret fun v w'=>v= .bool (Zi ⟨t,l⟩)∧Sat w' [F]):= by
 obtain⟨ao,cap,rfl,hmax⟩:=(hL.sat hS 0 rfl).shape
 refine Qy func38 Qa ntmps38 Qa ?_
 refine Qg (Qb (XZ hS Qa Qa Qa ?_))
 intro bp wp hSp0
 have hSp:Sat wp [QR bp [strV t,.slice ao l.length cap],F]:=hSp0
 refine Qc Qa Qa (Qh (Qe (Qg (Qb (Qc Qa Qa (Qh (Qe (Qg (Qg (Qb (Qc Qa Qa (Qh (Qe (QD ?_))))))))))))))
 refine XD (fun K0 E0 W0=> ∃(i:Nat) (last:Int),K0=l.length -i∧E0=[(1,ptrV bp 0),(3,intV last),(4,intV (i:Int))]∧Sat W0 [QR bp [strV t,.slice ao l.length cap],F]∧(i≤l.length)∧(Jt 0 l=Jt last (l.drop i))) (L0:=[(1,_),(3,_),(4,_)]) (l.length -0) (Dh Qa Qa Qa) ⟨0,0,rfl,rfl,hSp, by omega, by rw[List.drop_zero]⟩ ?_
 rintro _ _ w1 ⟨i,last,rfl,rfl,hS1,hi,hR⟩
 refine Qg (Qg (Qb (Qd Qa Qa (Qi Qa Zt Qa (Qp Qa WV (hS1.cell 0 Qa Qa) Qa (Xj underlying22 Qa Qa (Xz Qa Qa Qa (Qh (Qe (Qw Qa (fun h2=> ?_) (fun h2=> ?_)))))))))))
 ·obtain⟨x,hx⟩: ∃x,l[i]? =some x:=⟨_,WU (by omega)⟩
  obtain⟨b,off,rfl,hc⟩:=(hL.sat hS1 1 rfl).get hx
  refine Qr (Qe (Qg (QD (Qg (Qb (Qi Qa Zt Qa (Qp Qa WV (hS1.cell 0 Qa Qa) Qa (Qd Qa Qa (XG i Qa Qa (by rfl) (by omega) K8 Qa ?_)))))))))
  refine YO Qa GL Up (vs:=[intV x.1,strV x.2]) hc Qa (Xk hS1 Rv Qa Qa ?_)
  intro b3 w3 hS3
  (refine QX hS3 Qa Qa Up Qa (by rfl) (i:=0) Qa (by decide) ?_)
  intro w4 hS5; dsimp only[List.set]at hS5
  refine Qh (Qe (Qk [4,3,1,5] Qa (Qg (Qg (Qb (Qi Qa YE Qa (Qp Qa QK (hS5.cell 0 Qa Qa) Qa (Qd Qa Qa (W7 Qa Qa Qa (Qd Qa Qa (Q3 22 Qa (fun h6=> ?_) (fun h6=> ?_))))))))))))
  ·refine Qf Qa Qa (Q8 h6) Qa (Qf Qa Qa (Q8 h6) Qa (Qf Qa Qa (Q8 h6) Qa (Qx Qa (Q8 h6) Qa Qa (Qd Qa Qa (Qf Qa Qa Qa Qa (Qf Qa Qa Qa Qa (Qf Qa Qa Qa Qa (Qf Qa Qa Qa Qa (Qx Qa Qa Qa Qa (Qh (Qe (Qk [4,3,1,5,32] Qa (QL Qa (Qg (Qb (Qc Qa Qa (Qh (Qe (Qo (Qm (Q0 (Qm (Qm (Q0 (Qm (Q7 (.inr Qa) Qa Qa ?_))))))))))))))))))))))))))
   exact⟨_,rfl, by unfold Zi; dsimp only; rw[hR,BV hx,Hz (by omega)];rfl,hS5.pick [2] Qa⟩
  refine Qj Qa Qa (Qv h6) (Qi Qa YE Qa (Qj Qa Qa (Qv h6) (Qp Qa QK (hS5.cell 0 Qa Qa) Qa (Qj Qa Qa (Qv h6) (We Qa Qa Qa (Qz Qa (Qv h6) Qa Qa (Qd Qa Qa (Q3 27 Qa (fun h7=> ?_) (fun h7=> ?_)))))))))
  ·refine Qf Qa Qa (Q8 h7) Qa (Qf Qa Qa (Q8 h7) Qa (Qf Qa Qa (Q8 h7) Qa (Qf Qa Qa (Q8 h7) Qa (Qx Qa (Q8 h7) Qa Qa (Qh (Qe (Qk [4,3,1,5,32] Qa (QL Qa (Qg (Qb (Qc Qa Qa (Qh (Qe (Qo (Qm (Q0 (Qm (Qm (Q0 (Qm (Q7 (.inr Qa) Qa Qa ?_)))))))))))))))))))))
   exact⟨_,rfl, by unfold Zi; dsimp only; rw[hR,BV hx,Hz (by omega)];rfl,hS5.pick [2] Qa⟩
  refine Qj Qa Qa (Qv h7) (Qi Qa VG Qa (Qj Qa Qa (Qv h7) (Qp Qa Zw (hS5.cell 0 Qa Qa) Qa (Qj Qa Qa (Qv h7) (Zs underlying9 Qa Qa (Qj Qa Qa (Qv h7) (Xt Qa Qa Qa (Qz Qa (Qv h7) Qa Qa (Qh (Qe (Qk [4,3,1,5,32] Qa (Qw Qa (fun h8=> ?_) (fun h8=> ?_)))))))))))))
  ·refine Qg (Qb (Qc Qa Qa (Qh (Qe (Qo (Qm (Q0 (Qm (Qm (Q0 (Qm (Q7 (.inr Qa) Qa Qa ?_))))))))))))
   exact⟨_,rfl, by unfold Zi; dsimp only; rw[hR,BV hx,Hz (by omega)];rfl,hS5.pick [2] Qa⟩
  refine Qr (Qe (Qb (Qi Qa YE Qa (Qp Qa QK (hS5.cell 0 Qa Qa) Qa (Qc Qa Qa (Qh (Qq (Qe (Qb (Qd Qa Qa (Xq Qa Qa (by omega) (by omega) Qa ?_)))))))))))
  exact Qc Qa Qa (Qh (QY (L1:=[(1,_),(3,intV x.1),(4,intV ((i+1:Nat):Int))]) (Dh Qa Qa Qa) (k1:=l.length -(i+1)) (by omega) ⟨i+1,x.1,rfl,rfl,hS5.pick [1,2] Qa, by omega, by rw[hR,BV hx,TD (by omega) (by omega) (by omega)]⟩))
 refine Xu (Q1 (Q1 (QJ (Qe (Qg (Qb (Qi Qa Hm Qa (Qp Qa Zw (hS1.cell 0 Qa Qa) Qa (Zs underlying9 Qa Qa (W7 Qa Qa Qa (Qd Qa Qa (Q3 39 Qa (fun h9=> ?_) (fun h9=> ?_)))))))))))))
 ·refine Qj Qa Qa (Q8 h9) (Qi Qa Zt Qa (Qj Qa Qa (Q8 h9) (Qp Qa WV (hS1.cell 0 Qa Qa) Qa (Qj Qa Qa (Q8 h9) (Xj underlying22 Qa Qa (Qj Qa Qa (Q8 h9) (W7 Qa Qa Qa (Qx Qa (Q8 h9) Qa Qa (Qc Qa Qa (Qh (Qe (Qk [2] Qa (Qo (Q7 (.inr Qa) Qa Qa ?_))))))))))))))
  exact⟨_,rfl,congrArg Value.bool (by unfold Zi; dsimp only; rw[hR,List.drop_eq_nil_of_le (by omega)];unfold Jt; rw[Bool.eq_iff_iff]; simp;omega),hS1.pick [1] Qa⟩
 refine Qf Qa Qa (Qv h9) Qa (Qf Qa Qa (Qv h9) Qa (Qf Qa Qa (Qv h9) Qa (Qf Qa Qa (Qv h9) Qa (Qz Qa (Qv h9) Qa Qa (Qc Qa Qa (Qh (Qe (Qk [2] Qa (Qo (Q7 (.inr Qa) Qa Qa ?_))))))))))
 exact⟨_,rfl,congrArg Value.bool (by unfold Zi; dsimp only; rw[hR,List.drop_eq_nil_of_le (by omega)];unfold Jt; rw[Bool.eq_iff_iff]; simp;omega),hS1.pick [1] Qa⟩
theorem ET {w:World} {F:Th} (hS:Sat w [F]) {t:Bs} {sv:Value} {l:AL Bs} (hL:Ent F (RdL shC sv l)):
    Calls prog 9 #[.agg #[strV t,sv]] w (Ret fun v w'=>v= .bool (Kn ⟨t,l⟩)∧Sat w' [F]):= by
 obtain⟨ao,cap,rfl,hmax⟩:=(hL.sat hS 0 rfl).shape
 refine Qy func9 Qa ntmps9 Qa ?_
 refine Qg (Qb (XZ hS Qa Qa Qa ?_))
 intro bp wp hSp0
 have hSp:Sat wp [QR bp [strV t,.slice ao l.length cap],F]:=hSp0
 refine Qc Qa Qa (Qh (Qe (Qg (Qb ?_))))
 refine Zg Qa JF Wc (by first | exact hSp.blk 0 Qa) (by first | decide | exact Xe Qa | (simp;done) | omega) Qa Qa ?_
 refine Q4 cal_38 Qa (E5 (hSp.sp [] Qa) (hL.starL 1 Qa)) Qa ?_
 rintro _ w1 ⟨rfl,hS1⟩
 replace hS1:=hS1.jn Qa Qa
 clear hSp
 refine Qd Qa Qa (Zz 5 Qa (fun h2=> ?_) (fun h2=> ?_))
 ·refine Qj Qa Qa h2 (Qi Qa Hm Qa (Qj Qa Qa h2 (Qp Qa Zw (hS1.cell 0 Qa Qa) Qa (Qj Qa Qa h2 (Zs underlying9 Qa Qa (Qj Qa Qa h2 (W7 Qa Qa Qa (Qx Qa h2 Qa Qa (Qd Qa Qa (Q3 11 Qa (fun h3=> ?_) (fun h3=> ?_)))))))))))
  ·refine Qj Qa Qa (Q8 h3) (Qi Qa Zt Qa (Qj Qa Qa (Q8 h3) (Qp Qa WV (hS1.cell 0 Qa Qa) Qa (Qj Qa Qa (Q8 h3) (Xj underlying22 Qa Qa (Qj Qa Qa (Q8 h3) (W7 Qa Qa Qa (Qx Qa (Q8 h3) Qa Qa (Qc Qa Qa (Qh (Qe (Qk [2] Qa (Qo (Q7 (.inr Qa) Qa Qa ?_))))))))))))))
   exact⟨_,rfl,congrArg Value.bool (by unfold Kn; rw[Bool.eq_iff_iff];simp_all;try omega),hS1.pick [1] Qa⟩
  refine Qf Qa Qa (Qv h3) Qa (Qf Qa Qa (Qv h3) Qa (Qf Qa Qa (Qv h3) Qa (Qf Qa Qa (Qv h3) Qa (Qz Qa (Qv h3) Qa Qa (Qc Qa Qa (Qh (Qe (Qk [2] Qa (Qo (Q7 (.inr Qa) Qa Qa ?_))))))))))
  exact⟨_,rfl,congrArg Value.bool (by unfold Kn; rw[Bool.eq_iff_iff];simp_all;try omega),hS1.pick [1] Qa⟩
 refine Qf Qa Qa h2 Qa (Qf Qa Qa h2 Qa (Qf Qa Qa h2 Qa (Qf Qa Qa h2 Qa (Qz Qa h2 Qa Qa (Qd Qa Qa (Qf Qa Qa Qa Qa (Qf Qa Qa Qa Qa (Qf Qa Qa Qa Qa (Qf Qa Qa Qa Qa (Qz Qa Qa Qa Qa (Qc Qa Qa (Qh (Qe (Qk [2] Qa (Qo (Q7 (.inr Qa) Qa Qa ?_))))))))))))))))
 exact⟨_,rfl,congrArg Value.bool (by unfold Kn; rw[Bool.eq_iff_iff];simp_all;try omega),hS1.pick [1] Qa⟩
