/- move: Hear -/
import Derived.Test.YtiibgheijbbmaaaGreatDoorMvy6
set_option linter.unusedVariables false
set_option maxRecDepth 100000
set_option maxHeartbeats 2000000
namespace Go.Proofs.YtiibgheijbbmaaaGreatDoor
open Go.RowKit M Proofs.Tryz
noncomputable def Vi (e:Nat):Int→Option Value:=(upd (upd (upd (upd (upd (upd (upd (upd (upd (upd (fun _=>none) 0 (some (.func (.func 70) #[ptrV e 0] #[]))) 1 (some (.func (.func 71) #[ptrV e 0] #[]))) 2 (some (.func (.func 72) #[ptrV e 0] #[]))) 3 (some (.func (.func 72) #[ptrV e 0] #[]))) 4 (some (.func (.func 73) #[ptrV e 0] #[]))) 5 (some (.func (.func 74) #[ptrV e 0] #[]))) 6 (some (.func (.func 75) #[ptrV e 0] #[]))) 7 (some (.func (.func 76) #[ptrV e 0] #[]))) 8 (some (.func (.func 77) #[ptrV e 0] #[]))) 9 (some (.func (.func 78) #[ptrV e 0] #[])))
theorem hd_out {e:Nat} {k:Int} (h:k<0∨9<k):Vi e k=none:= by
  unfold Vi upd
  rw[if_neg (by omega),if_neg (by omega),if_neg (by omega),if_neg (by omega),if_neg (by omega),if_neg (by omega),if_neg (by omega),if_neg (by omega),if_neg (by omega),if_neg (by omega)]
theorem hd_0 {e:Nat}:Vi e 0=some (.func (.func 70) #[ptrV e 0] #[]):= by unfold Vi upd; simp
theorem hd_1 {e:Nat}:Vi e 1=some (.func (.func 71) #[ptrV e 0] #[]):= by unfold Vi upd; simp
theorem hd_2 {e:Nat}:Vi e 2=some (.func (.func 72) #[ptrV e 0] #[]):= by unfold Vi upd; simp
theorem hd_3 {e:Nat}:Vi e 3=some (.func (.func 72) #[ptrV e 0] #[]):= by unfold Vi upd; simp
theorem hd_4 {e:Nat}:Vi e 4=some (.func (.func 73) #[ptrV e 0] #[]):= by unfold Vi upd; simp
theorem hd_5 {e:Nat}:Vi e 5=some (.func (.func 74) #[ptrV e 0] #[]):= by unfold Vi upd; simp
theorem hd_6 {e:Nat}:Vi e 6=some (.func (.func 75) #[ptrV e 0] #[]):= by unfold Vi upd; simp
theorem hd_7 {e:Nat}:Vi e 7=some (.func (.func 76) #[ptrV e 0] #[]):= by unfold Vi upd; simp
theorem hd_8 {e:Nat}:Vi e 8=some (.func (.func 77) #[ptrV e 0] #[]):= by unfold Vi upd; simp
theorem hd_9 {e:Nat}:Vi e 9=some (.func (.func 78) #[ptrV e 0] #[]):= by unfold Vi upd; simp
theorem Te {e:Nat} {k:Int} (h:(Vi e k).isSome=true):k=0∨k=1∨k=2∨k=3∨k=4∨k=5∨k=6∨k=7∨k=8∨k=9:= by
  by_cases q:k<0∨9<k
  · rw[hd_out q]at h; cases h
  · omega
theorem hd_none {e:Nat} {k:Int} (h:(Vi e k).isSome=false):k<0∨9<k:= by
  by_cases q:k<0∨9<k
  · exact q
  · exfalso
    have q2:k=0∨k=1∨k=2∨k=3∨k=4∨k=5∨k=6∨k=7∨k=8∨k=9:= by omega
    rcases q2 with q2 | q2 | q2 | q2 | q2 | q2 | q2 | q2 | q2 | q2<;> subst q2
    · rw[hd_0]at h; cases h
    · rw[hd_1]at h; cases h
    · rw[hd_2]at h; cases h
    · rw[hd_3]at h; cases h
    · rw[hd_4]at h; cases h
    · rw[hd_5]at h; cases h
    · rw[hd_6]at h; cases h
    · rw[hd_7]at h; cases h
    · rw[hd_8]at h; cases h
    · rw[hd_9]at h; cases h
section
variable {E:EnD} {s:Bs} {m:MsD}
theorem V2 (h:upE E=false∨(Xo s).kind<0∨9<(Xo s).kind∨(Xo s).move<0∨4611686018427387904<(Xo s).move∨YT (Xo s)≠s):ZK E s=(E,[]):= by unfold ZK; rw[if_pos h]
theorem Ji (h: ¬(upE E=false∨(Xo s).kind<0∨9<(Xo s).kind∨(Xo s).move<0∨4611686018427387904<(Xo s).move∨YT (Xo s)≠s)):ZK E s=Zv E (Xo s):= by unfold ZK; rw[if_neg h]
theorem EJ (h:m.kind=0):Zv E m=(XY E m,[]):= by unfold Zv; simp [h]
theorem CV (h:m.kind=1):Zv E m=Zj E m:= by unfold Zv; simp [h]
theorem CU (h:m.kind=2):Zv E m=Xx E m:= by unfold Zv; simp [h]
theorem EH (h:m.kind=3):Zv E m=Xx E m:= by unfold Zv; simp [h]
theorem CT (h:m.kind=4):Zv E m=(Zp E m,[]):= by unfold Zv; simp [h]
theorem EG (h:m.kind=5):Zv E m=(J4 E m,[]):= by unfold Zv; simp [h]
theorem EF (h:m.kind=6):Zv E m=(E,ZW E m):= by unfold Zv; simp [h]
theorem EE (h:m.kind=7):Zv E m=(WK E m,[]):= by unfold Zv; simp [h]
theorem ED (h:m.kind=8):Zv E m=WM E m:= by unfold Zv; simp [h]
theorem EC (h:m.kind=9):Zv E m=(Hf E m,[]):= by unfold Zv; simp [h]
end
theorem Yq {w:World} {e:Nat} {E:EnD} {F:Th} (hS:Sat w [Xw e E,F]) (hG:Ent F WireG) (hO:Ent F (Glob 0)) (hW:EW E) (s:Bs) (hs:s.length≤1000):
    Calls prog 37 #[ptrV e 0,strV s] w (Ret fun v w'=>Sat w' [rowT Zn v (ZK E s).2,Xw e (ZK E s).1,F]):= by
 refine Qy func37 Qa ntmps37 Qa ?_
 obtain⟨hd1,hd2,hd3,hd4,hd5⟩:=Tw s
 refine Qf (Qb (Qc Qa Qa (Qh (Qd (Qf (Qb (Qe Qa Qa (Q0 P4 Qa (B6 (hS.sp [] Qa) s) Qa ?_))))))))
 rintro _ w1 ⟨rb,rfl,hS1⟩
 replace hS1:=hS1.jn Qa Qa
 refine Qc Qa Qa (Qh (Qd (Qf (Qb (Qe Qa Qa ?_)))))
 refine Q0 VE Qa (Uj (hS1.sp [0] Qa) (hG.starL 1 Qa) (by have a0:=X2 59 (-9223372036854775808:Int) (s,false); have a1:=X2 59 (-9223372036854775808:Int) (XM 59 (-9223372036854775808:Int) ((s,false))); have a2:=X2 59 (-9223372036854775808:Int) (XM 59 (-9223372036854775808:Int) (XM 59 (-9223372036854775808:Int) ((s,false)))); have a3:=X2 59 (-9223372036854775808:Int) (XM 59 (-9223372036854775808:Int) (XM 59 (-9223372036854775808:Int) (XM 59 (-9223372036854775808:Int) ((s,false))))); have b0:(s,false).1.length=s.length:=rfl;omega)) Qa ?_
 rintro _ w2 ⟨rfl,hS2⟩
 replace hS2:=hS2.jn Qa Qa
 refine Qe Qa Qa ?_
 refine Q0 VE Qa (Uj (hS2.sp [0] Qa) (hG.starL 1 Qa) (by have a0:=X2 59 (-9223372036854775808:Int) (s,false); have a1:=X2 59 (-9223372036854775808:Int) (XM 59 (-9223372036854775808:Int) ((s,false))); have a2:=X2 59 (-9223372036854775808:Int) (XM 59 (-9223372036854775808:Int) (XM 59 (-9223372036854775808:Int) ((s,false)))); have a3:=X2 59 (-9223372036854775808:Int) (XM 59 (-9223372036854775808:Int) (XM 59 (-9223372036854775808:Int) (XM 59 (-9223372036854775808:Int) ((s,false))))); have b0:(s,false).1.length=s.length:=rfl;omega)) Qa ?_
 rintro _ w3 ⟨rfl,hS3⟩
 replace hS3:=hS3.jn Qa Qa
 refine Qe Qa Qa ?_
 refine Q0 VE Qa (Uj (hS3.sp [0] Qa) (hG.starL 1 Qa) (by have a0:=X2 59 (-9223372036854775808:Int) (s,false); have a1:=X2 59 (-9223372036854775808:Int) (XM 59 (-9223372036854775808:Int) ((s,false))); have a2:=X2 59 (-9223372036854775808:Int) (XM 59 (-9223372036854775808:Int) (XM 59 (-9223372036854775808:Int) ((s,false)))); have a3:=X2 59 (-9223372036854775808:Int) (XM 59 (-9223372036854775808:Int) (XM 59 (-9223372036854775808:Int) (XM 59 (-9223372036854775808:Int) ((s,false))))); have b0:(s,false).1.length=s.length:=rfl;omega)) Qa ?_
 rintro _ w4 ⟨rfl,hS4⟩
 replace hS4:=hS4.jn Qa Qa
 refine Qe Qa Qa ?_
 refine Q0 VE Qa (Uj (hS4.sp [0] Qa) (hG.starL 1 Qa) (by have a0:=X2 59 (-9223372036854775808:Int) (s,false); have a1:=X2 59 (-9223372036854775808:Int) (XM 59 (-9223372036854775808:Int) ((s,false))); have a2:=X2 59 (-9223372036854775808:Int) (XM 59 (-9223372036854775808:Int) (XM 59 (-9223372036854775808:Int) ((s,false)))); have a3:=X2 59 (-9223372036854775808:Int) (XM 59 (-9223372036854775808:Int) (XM 59 (-9223372036854775808:Int) (XM 59 (-9223372036854775808:Int) ((s,false))))); have b0:(s,false).1.length=s.length:=rfl;omega)) Qa ?_
 rintro _ w5 ⟨rfl,hS5⟩
 replace hS5:=hS5.jn Qa Qa
 refine Qe Qa Qa ?_
 refine Q0 Aq Qa (Cg (hS5.sp [0] Qa) (hG.starL 1 Qa) (by have a0:=X2 59 (-9223372036854775808:Int) (s,false); have a1:=X2 59 (-9223372036854775808:Int) (XM 59 (-9223372036854775808:Int) ((s,false))); have a2:=X2 59 (-9223372036854775808:Int) (XM 59 (-9223372036854775808:Int) (XM 59 (-9223372036854775808:Int) ((s,false)))); have a3:=X2 59 (-9223372036854775808:Int) (XM 59 (-9223372036854775808:Int) (XM 59 (-9223372036854775808:Int) (XM 59 (-9223372036854775808:Int) ((s,false))))); have b0:(s,false).1.length=s.length:=rfl;omega)) Qa ?_
 rintro _ w6 ⟨rfl,hS6⟩
 replace hS6:=hS6.jn Qa Qa
 refine Zs Qa UC TE My Qa Qa (Xs hS6 My Qa Qa ?_)
 intro b7 w7 hS7
 first | (refine Q8 hS7 Qa Qa NN Qa (by rfl) (i:=0) Qa (by decide) ?_)
 intro w8 hS9; dsimp only[List.set]at hS9
 refine Qh ?_
 have hz2:Sat _ (Xb _ [intV (Xo s).kind,intV (Xo s).move,intV (Xo s).a,intV (Xo s).b,strV (Xo s).data]::_):=hS9
 refine Qd (Qk [1,0,4,6] Qa (Qf (Qb (Wq XH hz2 Qa ?_))))
 intro hm w10 hS10
 clear hz2
 refine Qe Qa Qa (Wa (vs:=[ptrV e 0]) Qa Qa (Jy (k:=0) (v:=(.func (.func 70) #[ptrV e 0] #[])) 0 hS10 keysInt underlying109 Qa Qa Qa Qa ?_))
 intro w11 hS11; dsimp only[List.set]at hS11
 refine Qe Qa Qa (Wa (vs:=[ptrV e 0]) Qa Qa (Jy (k:=1) (v:=(.func (.func 71) #[ptrV e 0] #[])) 0 hS11 keysInt underlying109 Qa Qa Qa Qa ?_))
 intro w12 hS12; dsimp only[List.set]at hS12
 refine Qe Qa Qa (Wa (vs:=[ptrV e 0]) Qa Qa (Jy (k:=2) (v:=(.func (.func 72) #[ptrV e 0] #[])) 0 hS12 keysInt underlying109 Qa Qa Qa Qa ?_))
 intro w13 hS13; dsimp only[List.set]at hS13
 refine Qe Qa Qa (Wa (vs:=[ptrV e 0]) Qa Qa (Jy (k:=3) (v:=(.func (.func 72) #[ptrV e 0] #[])) 0 hS13 keysInt underlying109 Qa Qa Qa Qa ?_))
 intro w14 hS14; dsimp only[List.set]at hS14
 refine Qe Qa Qa (Wa (vs:=[ptrV e 0]) Qa Qa (Jy (k:=4) (v:=(.func (.func 73) #[ptrV e 0] #[])) 0 hS14 keysInt underlying109 Qa Qa Qa Qa ?_))
 intro w15 hS15; dsimp only[List.set]at hS15
 refine Qe Qa Qa (Wa (vs:=[ptrV e 0]) Qa Qa (Jy (k:=5) (v:=(.func (.func 74) #[ptrV e 0] #[])) 0 hS15 keysInt underlying109 Qa Qa Qa Qa ?_))
 intro w16 hS16; dsimp only[List.set]at hS16
 refine Qe Qa Qa (Wa (vs:=[ptrV e 0]) Qa Qa (Jy (k:=6) (v:=(.func (.func 75) #[ptrV e 0] #[])) 0 hS16 keysInt underlying109 Qa Qa Qa Qa ?_))
 intro w17 hS17; dsimp only[List.set]at hS17
 refine Qe Qa Qa (Wa (vs:=[ptrV e 0]) Qa Qa (Jy (k:=7) (v:=(.func (.func 76) #[ptrV e 0] #[])) 0 hS17 keysInt underlying109 Qa Qa Qa Qa ?_))
 intro w18 hS18; dsimp only[List.set]at hS18
 refine Qe Qa Qa (Wa (vs:=[ptrV e 0]) Qa Qa (Jy (k:=8) (v:=(.func (.func 77) #[ptrV e 0] #[])) 0 hS18 keysInt underlying109 Qa Qa Qa Qa ?_))
 intro w19 hS19; dsimp only[List.set]at hS19
 refine Qe Qa Qa (Wa (vs:=[ptrV e 0]) Qa Qa (Jy (k:=9) (v:=(.func (.func 78) #[ptrV e 0] #[])) 0 hS19 keysInt underlying109 Qa Qa Qa Qa ?_))
 intro w20 hS20; dsimp only[List.set]at hS20
 refine Qe Qa Qa (Qc Qa Qa (Qh ?_))
 have hz3:Sat _ (X3 XH hm (Vi e)::_):=hS20.pick [0,1,2,3,4] Qa
 refine Qd (Qk [1,0,4,6,7] Qa (Qf (Qb (Qe Qa Qa (Qi Qa Jv Qa (Qr Qa QH (hz3.cell 1 Qa Qa) Qa (Hi (k:=(Xo s).kind) 0 hz3 keysInt underlying109 Qa Qa Qa zr_108 (u:=(Vi e (Xo s).kind).getD .nilFunc) (g:=(Vi e (Xo s).kind).isSome) Qa Qa Qa (Qe Qa Qa (Q7 Qa Qa Qa (Q7 Qa Qa Qa (Qc Qa Qa (Qc Qa Qa (Qh (Qd (Qk [1,0,4,6,8,9] Qa (Qf (Qf (Qb (Qe Qa Qa ?_)))))))))))))))))))
 have hC21:=hz3.sp [3] Qa
 refine Q0 KK Qa (B9 hC21) Qa ?_
 rintro _ w21 ⟨rfl,hS21⟩
 replace hS21:=hS21.jn Qa Qa; clear hC21
 clear hz3
 refine XN Qa Qa (Qe Qa Qa (ZO 55 Qa (fun h22=> ?_) (fun h22=> ?_)))
 ·have hu0:upE E=false:= by simpa using h22
  refine Qg Qa Qa h22 Qa (Qg Qa Qa h22 Qa (Q1 Qa h22 Qa Qa (Qe Qa Qa (Qg Qa Qa Qa Qa (Qg Qa Qa Qa Qa (Qg Qa Qa Qa Qa (Q1 Qa Qa Qa Qa (Qe Qa Qa (Qg Qa Qa Qa Qa (Qg Qa Qa Qa Qa (Qg Qa Qa Qa Qa (Q1 Qa Qa Qa Qa (Qe Qa Qa (Qg Qa Qa Qa Qa (Qg Qa Qa Qa Qa (Qg Qa Qa Qa Qa (Qg Qa Qa Qa Qa (Q1 Qa Qa Qa Qa (Qh (Qd (Qk [4,6,8,74] Qa (QP Qa (Qf (Qb (Qc Qa Qa (Qh (Qd (Qo (Qm (Q5 (.inr Qa) Qa Qa ?_))))))))))))))))))))))))))))))
  exact⟨_,rfl, by rw[V2 (by first | exact .inl hu0 | exact .inr (hkr.elim .inl fun q=> .inr (.inl q)) | exact .inr (.inr (.inr (.inl hm0))) | exact .inr (.inr (.inr (.inr (.inl hm1)))))]; exact(Sat.row_nil Zn (hS21.pick [0,4] Qa))⟩
 have hup: ¬upE E=false:= by simpa using h22
 have hu:=KT hup
 refine Qj Qa Qa h22 (Qe Qa Qa (Qj Qa Qa h22 (XN Qa Qa (Q3 Qa h22 Qa Qa (Qe Qa Qa (ZO 59 Qa (fun h23=> ?_) (fun h23=> ?_)))))))
 ·have hkr:=hd_none (e:=e) (k:=(Xo s).kind) (by simpa using h23)
  refine Qg Qa Qa h23 Qa (Qg Qa Qa h23 Qa (Qg Qa Qa h23 Qa (Q1 Qa h23 Qa Qa (Qe Qa Qa (Qg Qa Qa Qa Qa (Qg Qa Qa Qa Qa (Qg Qa Qa Qa Qa (Q1 Qa Qa Qa Qa (Qe Qa Qa (Qg Qa Qa Qa Qa (Qg Qa Qa Qa Qa (Qg Qa Qa Qa Qa (Qg Qa Qa Qa Qa (Q1 Qa Qa Qa Qa (Qh (Qd (Qk [4,6,8,74] Qa (QP Qa (Qf (Qb (Qc Qa Qa (Qh (Qd (Qo (Qm (Q5 (.inr Qa) Qa Qa ?_))))))))))))))))))))))))))
  exact⟨_,rfl, by rw[V2 (by first | exact .inl hu0 | exact .inr (hkr.elim .inl fun q=> .inr (.inl q)) | exact .inr (.inr (.inr (.inl hm0))) | exact .inr (.inr (.inr (.inr (.inl hm1)))))]; exact(Sat.row_nil Zn (hS21.pick [0,4] Qa))⟩
 have hks:(Vi e (Xo s).kind).isSome=true:= by simpa using h23
 refine Qj Qa Qa h23 (Qi Qa Zz Qa (Qj Qa Qa h23 (Qr Qa QH (hS21.cell 2 Qa Qa) Qa (Qj Qa Qa h23 (X5 Qa Qa Qa (Q3 Qa h23 Qa Qa (Qe Qa Qa (Q4 64 Qa (fun h24=> ?_) (fun h24=> ?_)))))))))
 ·have hm0:(Xo s).move<0:=h24
  refine Qg Qa Qa (QD h24) Qa (Qg Qa Qa (QD h24) Qa (Qg Qa Qa (QD h24) Qa (Q1 Qa (QD h24) Qa Qa (Qe Qa Qa (Qg Qa Qa Qa Qa (Qg Qa Qa Qa Qa (Qg Qa Qa Qa Qa (Qg Qa Qa Qa Qa (Q1 Qa Qa Qa Qa (Qh (Qd (Qk [4,6,8,74] Qa (QP Qa (Qf (Qb (Qc Qa Qa (Qh (Qd (Qo (Qm (Q5 (.inr Qa) Qa Qa ?_)))))))))))))))))))))
  exact⟨_,rfl, by rw[V2 (by first | exact .inl hu0 | exact .inr (hkr.elim .inl fun q=> .inr (.inl q)) | exact .inr (.inr (.inr (.inl hm0))) | exact .inr (.inr (.inr (.inr (.inl hm1)))))]; exact(Sat.row_nil Zn (hS21.pick [0,4] Qa))⟩
 have hm0: ¬(Xo s).move<0:=h24
 refine Qj Qa Qa (Qx h24) (Qi Qa Zz Qa (Qj Qa Qa (Qx h24) (Qr Qa QH (hS21.cell 2 Qa Qa) Qa (Qj Qa Qa (Qx h24) (Wr Qa Qa Qa (Q3 Qa (Qx h24) Qa Qa (Qe Qa Qa (Q4 69 Qa (fun h25=> ?_) (fun h25=> ?_)))))))))
 ·have hm1:4611686018427387904<(Xo s).move:=h25
  refine Qg Qa Qa (QD h25) Qa (Qg Qa Qa (QD h25) Qa (Qg Qa Qa (QD h25) Qa (Qg Qa Qa (QD h25) Qa (Q1 Qa (QD h25) Qa Qa (Qh (Qd (Qk [4,6,8,74] Qa (QP Qa (Qf (Qb (Qc Qa Qa (Qh (Qd (Qo (Qm (Q5 (.inr Qa) Qa Qa ?_))))))))))))))))
  exact⟨_,rfl, by rw[V2 (by first | exact .inl hu0 | exact .inr (hkr.elim .inl fun q=> .inr (.inl q)) | exact .inr (.inr (.inr (.inl hm0))) | exact .inr (.inr (.inr (.inr (.inl hm1)))))]; exact(Sat.row_nil Zn (hS21.pick [0,4] Qa))⟩
 have hm1: ¬4611686018427387904<(Xo s).move:=h25
 refine Qj Qa Qa (Qx h25) (Jd Qa AS NN (by first | exact hS21.blk 2 Qa) (QC Qa) Qa Qa ?_)
 refine Qj Qa Qa (Qx h25) (Q0 P3 Qa (Gc (hS21.sp [] Qa) (hG.starL 4 Qa) (m:=Xo s) ⟨hd1,hd2,hd3,hd4, by omega⟩) Qa ?_)
 rintro _ w26 ⟨rfl,hS26⟩
 replace hS26:=hS26.jn Qa Qa
 refine Qj Qa Qa (Qx h25) (Qe Qa Qa (Qj Qa Qa (Qx h25) (PN Qa Qa Qa (Q3 Qa (Qx h25) Qa Qa (Qh (Qd (Qk [4,6,8,74] Qa (Qv Qa (fun h27=> ?_) (fun h27=> ?_)))))))))
 ·have hne:YT (Xo s)≠s:=h27
  refine Qf (Qb (Qc Qa Qa (Qh (Qd (Qo (Qm (Q5 (.inr Qa) Qa Qa ?_)))))))
  exact⟨_,rfl, by rw[V2 (by exact .inr (.inr (.inr (.inr (.inr hne)))))]; exact(Sat.row_nil Zn (hS26.pick [0,4] Qa))⟩
 have heq:YT (Xo s)=s:=Decidable.not_not.1 h27
 have hyes: ¬(upE E=false∨(Xo s).kind<0∨9<(Xo s).kind∨(Xo s).move<0∨4611686018427387904<(Xo s).move∨YT (Xo s)≠s):= by rintro(q | q | q | q | q | q); exact hup q;(have :=Te hks;omega);(have :=Te hks;omega); exact hm0 q; exact hm1 q; exact q heq
 have hmw:MsW (Xo s):=⟨hd1,⟨by omega, by omega⟩,hd3,hd4, by omega⟩
 have hmm:X4 (Xo s).move:=hd2
 have hmv:=hW.km.2.2.2
 have hpv: ∀x p,E.ses=some x→Xg x.pages (Xo s).a=some p→X4 p.ver∧p.data.length≤20000000:= fun x p hx hp=> by have :=(hW.ses x hx).pg _ (V3 hp); exact⟨this.2.1, by have :=this.2.2.2; dsimp only at this;omega⟩
 refine Qt (Qd (Qf (Qb (Qe Qa Qa (Jd Qa AS NN (by first | exact hS26.blk 2 Qa) (QC Qa) Qa Qa ?_)))))
 rcases Te hks with hkj | hkj | hkj | hkj | hkj | hkj | hkj | hkj | hkj | hkj
 ·have hv:(Vi e (Xo s).kind).getD .nilFunc=(.func (.func 70) #[ptrV e 0] #[]):= by rw[hkj,hd_0];rfl
  rw[hv]
  refine Ye (fs:=[ptrV e 0]) (vs:=[.agg #[intV (Xo s).kind,intV (Xo s).move,intV (Xo s).a,intV (Xo s).b,strV (Xo s).data]]) Qa cal_70 Qa (CJ (hS26.sp [0] Qa) (Xo s) hW hmw) Qa ?_
  rintro e w28 ⟨_,rfl,hS28⟩; refine⟨_,rfl, ?_⟩
  replace hS28:=hS28.jn Qa Qa
  have h1v:=hS28.own_one 0 Qa
  refine Qc Qa Qa (Qh (Qd (Qo (Q5 (.inr Qa) Qa Qa ?_))))
  exact⟨_,rfl, by rw[Ji hyes,EJ hkj]; exact hS28.pick [0,1,5] Qa⟩
 ·have hv:(Vi e (Xo s).kind).getD .nilFunc=(.func (.func 71) #[ptrV e 0] #[]):= by rw[hkj,hd_1];rfl
  rw[hv]
  refine Ye (fs:=[ptrV e 0]) (vs:=[.agg #[intV (Xo s).kind,intV (Xo s).move,intV (Xo s).a,intV (Xo s).b,strV (Xo s).data]]) Qa cal_71 Qa (CI (hS26.sp [0] Qa) (Xo s) (hG.starL 3 Qa) (hO.starL 3 Qa) hW hmw hu) Qa ?_
  rintro e w29 ⟨_,rfl,hS29⟩; refine⟨_,rfl, ?_⟩
  replace hS29:=hS29.jn Qa Qa
  have h1v:=hS29.own_one 0 Qa
  refine Qc Qa Qa (Qh (Qd (Qo (Q5 (.inr Qa) Qa Qa ?_))))
  exact⟨_,rfl, by rw[Ji hyes,CV hkj]; exact hS29.pick [0,1,5] Qa⟩
 ·have hv:(Vi e (Xo s).kind).getD .nilFunc=(.func (.func 72) #[ptrV e 0] #[]):= by rw[hkj,hd_2];rfl
  rw[hv]
  refine Ye (fs:=[ptrV e 0]) (vs:=[.agg #[intV (Xo s).kind,intV (Xo s).move,intV (Xo s).a,intV (Xo s).b,strV (Xo s).data]]) Qa Ap Qa (Kx (hS26.sp [0] Qa) (Xo s) (hG.starL 3 Qa) (hO.starL 3 Qa) hu hmm hmv) Qa ?_
  rintro e w30 ⟨_,rfl,hS30⟩; refine⟨_,rfl, ?_⟩
  replace hS30:=hS30.jn Qa Qa
  have h1v:=hS30.own_one 0 Qa
  refine Qc Qa Qa (Qh (Qd (Qo (Q5 (.inr Qa) Qa Qa ?_))))
  exact⟨_,rfl, by rw[Ji hyes,CU hkj]; exact hS30.pick [0,1,5] Qa⟩
 ·have hv:(Vi e (Xo s).kind).getD .nilFunc=(.func (.func 72) #[ptrV e 0] #[]):= by rw[hkj,hd_3];rfl
  rw[hv]
  refine Ye (fs:=[ptrV e 0]) (vs:=[.agg #[intV (Xo s).kind,intV (Xo s).move,intV (Xo s).a,intV (Xo s).b,strV (Xo s).data]]) Qa Ap Qa (Kx (hS26.sp [0] Qa) (Xo s) (hG.starL 3 Qa) (hO.starL 3 Qa) hu hmm hmv) Qa ?_
  rintro e w31 ⟨_,rfl,hS31⟩; refine⟨_,rfl, ?_⟩
  replace hS31:=hS31.jn Qa Qa
  have h1v:=hS31.own_one 0 Qa
  refine Qc Qa Qa (Qh (Qd (Qo (Q5 (.inr Qa) Qa Qa ?_))))
  exact⟨_,rfl, by rw[Ji hyes,EH hkj]; exact hS31.pick [0,1,5] Qa⟩
 ·have hv:(Vi e (Xo s).kind).getD .nilFunc=(.func (.func 73) #[ptrV e 0] #[]):= by rw[hkj,hd_4];rfl
  rw[hv]
  refine Ye (fs:=[ptrV e 0]) (vs:=[.agg #[intV (Xo s).kind,intV (Xo s).move,intV (Xo s).a,intV (Xo s).b,strV (Xo s).data]]) Qa cal_73 Qa (Td (hS26.sp [0] Qa) (Xo s) (hG.starL 3 Qa) (hO.starL 3 Qa) hW hmw hu) Qa ?_
  rintro e w32 ⟨_,rfl,hS32⟩; refine⟨_,rfl, ?_⟩
  replace hS32:=hS32.jn Qa Qa
  have h1v:=hS32.own_one 0 Qa
  refine Qc Qa Qa (Qh (Qd (Qo (Q5 (.inr Qa) Qa Qa ?_))))
  exact⟨_,rfl, by rw[Ji hyes,CT hkj]; exact hS32.pick [0,1,5] Qa⟩
 ·have hv:(Vi e (Xo s).kind).getD .nilFunc=(.func (.func 74) #[ptrV e 0] #[]):= by rw[hkj,hd_5];rfl
  rw[hv]
  refine Ye (fs:=[ptrV e 0]) (vs:=[.agg #[intV (Xo s).kind,intV (Xo s).move,intV (Xo s).a,intV (Xo s).b,strV (Xo s).data]]) Qa cal_74 Qa (FQ (hS26.sp [0] Qa) (Xo s) (hG.starL 3 Qa) (hO.starL 3 Qa) hu hmm) Qa ?_
  rintro e w33 ⟨_,rfl,hS33⟩; refine⟨_,rfl, ?_⟩
  replace hS33:=hS33.jn Qa Qa
  have h1v:=hS33.own_one 0 Qa
  refine Qc Qa Qa (Qh (Qd (Qo (Q5 (.inr Qa) Qa Qa ?_))))
  exact⟨_,rfl, by rw[Ji hyes,EG hkj]; exact hS33.pick [0,1,5] Qa⟩
 ·have hv:(Vi e (Xo s).kind).getD .nilFunc=(.func (.func 75) #[ptrV e 0] #[]):= by rw[hkj,hd_6];rfl
  rw[hv]
  refine Ye (fs:=[ptrV e 0]) (vs:=[.agg #[intV (Xo s).kind,intV (Xo s).move,intV (Xo s).a,intV (Xo s).b,strV (Xo s).data]]) Qa cal_75 Qa (CC (hS26.sp [0] Qa) (Xo s) (hG.starL 3 Qa) hmv hmw.a hpv) Qa ?_
  rintro e w34 ⟨_,rfl,hS34⟩; refine⟨_,rfl, ?_⟩
  replace hS34:=hS34.jn Qa Qa
  have h1v:=hS34.own_one 0 Qa
  refine Qc Qa Qa (Qh (Qd (Qo (Q5 (.inr Qa) Qa Qa ?_))))
  exact⟨_,rfl, by rw[Ji hyes,EF hkj]; exact hS34.pick [0,1,5] Qa⟩
 ·have hv:(Vi e (Xo s).kind).getD .nilFunc=(.func (.func 76) #[ptrV e 0] #[]):= by rw[hkj,hd_7];rfl
  rw[hv]
  refine Ye (fs:=[ptrV e 0]) (vs:=[.agg #[intV (Xo s).kind,intV (Xo s).move,intV (Xo s).a,intV (Xo s).b,strV (Xo s).data]]) Qa cal_76 Qa (CL (hS26.sp [0] Qa) (Xo s) hW) Qa ?_
  rintro e w35 ⟨_,rfl,hS35⟩; refine⟨_,rfl, ?_⟩
  replace hS35:=hS35.jn Qa Qa
  have h1v:=hS35.own_one 0 Qa
  refine Qc Qa Qa (Qh (Qd (Qo (Q5 (.inr Qa) Qa Qa ?_))))
  exact⟨_,rfl, by rw[Ji hyes,EE hkj]; exact hS35.pick [0,1,5] Qa⟩
 ·have hv:(Vi e (Xo s).kind).getD .nilFunc=(.func (.func 77) #[ptrV e 0] #[]):= by rw[hkj,hd_8];rfl
  rw[hv]
  refine Ye (fs:=[ptrV e 0]) (vs:=[.agg #[intV (Xo s).kind,intV (Xo s).move,intV (Xo s).a,intV (Xo s).b,strV (Xo s).data]]) Qa cal_77 Qa (CR (hS26.sp [0] Qa) (Xo s) (hG.starL 3 Qa) hmv) Qa ?_
  rintro e w36 ⟨_,rfl,hS36⟩; refine⟨_,rfl, ?_⟩
  replace hS36:=hS36.jn Qa Qa
  have h1v:=hS36.own_one 0 Qa
  refine Qc Qa Qa (Qh (Qd (Qo (Q5 (.inr Qa) Qa Qa ?_))))
  exact⟨_,rfl, by rw[Ji hyes,ED hkj]; exact hS36.pick [0,1,5] Qa⟩
 have hv:(Vi e (Xo s).kind).getD .nilFunc=(.func (.func 78) #[ptrV e 0] #[]):= by rw[hkj,hd_9];rfl
 rw[hv]
 refine Ye (fs:=[ptrV e 0]) (vs:=[.agg #[intV (Xo s).kind,intV (Xo s).move,intV (Xo s).a,intV (Xo s).b,strV (Xo s).data]]) Qa cal_78 Qa (FP (hS26.sp [0] Qa) (Xo s)) Qa ?_
 rintro e w37 ⟨_,rfl,hS37⟩; refine⟨_,rfl, ?_⟩
 replace hS37:=hS37.jn Qa Qa
 have h1v:=hS37.own_one 0 Qa
 refine Qc Qa Qa (Qh (Qd (Qo (Q5 (.inr Qa) Qa Qa ?_))))
 exact⟨_,rfl, by rw[Ji hyes,EC hkj]; exact hS37.pick [0,1,5] Qa⟩
theorem rep_set {b:UInt8} {i:Nat} (h:i<64):(List.replicate i b++List.replicate (64 -i) (0:UInt8)).set i b=List.replicate (i+1) b++List.replicate (64 -(i+1)) 0:= by
  rw[List.set_append_right _ _ (by simp),List.length_replicate,Nat.sub_self, show 64 -i=(64 -(i+1))+1 by omega,List.replicate_succ,List.set_cons_zero,List.replicate_succ',List.append_assoc]
  rfl
structure OpX where
  o:OpD
  kv:Value
def opV (x:OpX):List Value:=[intV x.o.dO,intV x.o.n,intV x.o.id,.int .u8 (x.o.b.toNat:Int),strV x.o.s,x.kv]
abbrev OpsRd (v:Value) (l:List OpX) (w:World):Prop:=RdX opV 6 (fun x w=>RdI x.kv x.o.keep w) v l w
def okO (o:OpD):Bool:=decide (o.s.length≤900)&&decide (o.keep.length≤20)
def Nj (l:List OpX) (n:Int):Bool:=(l.all fun x=>okO x.o)&&decide ((l.length:Int)≤n)
def RT (s:SsD):Bool:=Zb s&&decide (s.state.length≤900)&&decide (s.sheets.length≤30)
theorem Ni {l:List OpX} {n:Int} {i:Nat} {x:OpX} (hx:l[i]? =some x) (h:900<x.o.s.length∨20<x.o.keep.length):Nj l n=false:= by
  have :(l.all fun x=>okO x.o)=false:= by
    rw[List.all_eq_false]
    exact⟨x,List.mem_of_getElem? hx, by unfold okO; simp;omega⟩
  unfold Nj; rw[this];rfl
theorem fewB_go {l:List OpX} {n:Int} (h: ∀i x,i<l.length→l[i]? =some x→okO x.o=true):Nj l n=decide ((l.length:Int)≤n):= by
  have :(l.all fun x=>okO x.o)=true:= by
    rw[List.all_eq_true]
    intro x hx
    obtain⟨i,hi⟩:=List.mem_iff_getElem?.1 hx
    exact h i x (ZD hi).1 hi
  unfold Nj; rw[this];rfl
theorem fewB_of {l:List OpX} {n:Int} (h:Nj l n=true):(∀x∈l,x.o.s.length≤900∧x.o.keep.length≤20)∧(l.length:Int)≤n:= by
  unfold Nj at h
  simp only[Bool.and_eq_true,List.all_eq_true,decide_eq_true_eq]at h
  refine⟨fun x hx=> ?_,h.2⟩
  have :=h.1 x hx
  unfold okO at this
  simpa using this
theorem UG {w:World} {F:Th} (hS:Sat w [F]) (b:UInt8):
    Calls prog 35 #[.int .u8 (b.toNat:Int)] w (Ret fun v w'=>v=strV (List.replicate 64 b)∧Sat w' [F]):= by
 refine Qy func35 Qa ntmps35 Qa ?_
 refine Qf (Qb (Qc Qa Qa (Qh (Qd (Qf (Qb (PO hS 64 Qa Qa Qa underlying98 Su Qa (by omega) (by omega) Qa ?_)))))))
 intro lb w1 hS1; replace hS1:=Sat.row_cast (C:=byC) (l:=List.replicate 0 b++List.replicate (64 -0) (0:UInt8)) hS1 Qa Qa Qa
 refine Qc Qa Qa (Qh (Qd (Qf (Qf (Qb (Qc Qa Qa (Qh (Qd (QK ?_)))))))))
 refine XJ (fun K0 E0 W0=> ∃(i:Nat),K0=64 -i∧E0=[(0,.int .u8 (b.toNat:Int)),(3,.slice (some ⟨lb,0,none⟩) 64 64),(4,intV (i:Int))]∧Sat W0 [rowT byC (.slice (some ⟨lb,0,none⟩) 64 64) (List.replicate i b++List.replicate (64 -i) (0:UInt8)),F]∧(i≤64)) (L0:=[(0,_),(3,_),(4,_)]) (64 -0) (Dq Qa Qa Qa) ⟨0,rfl,rfl,hS1.pick [0,1] Qa, by omega⟩ ?_
 rintro _ _ w2 ⟨i,rfl,rfl,hS2,hi⟩
 refine Qf (Qf (Qb (Qe Qa Qa (Qe Qa Qa ?_))))
 first | refine Xm underlying98 Qa Qa ?_ | refine Xa 0 hS2 underlying98 Qa Qa Qa ?_
 refine X5 Qa Qa Qa (Qh (Qd (Qv Qa (fun h3=> ?_) (fun h3=> ?_))))
 ·have hlt:i<64:= by have q9:=h3;omega
  have hln:(List.replicate i b++List.replicate (64 -i) (0:UInt8)).length=64:= by simp;omega
  obtain⟨y,hy⟩: ∃y,(List.replicate i b++List.replicate (64 -i) (0:UInt8))[i]? =some y:=⟨_,WY (by omega)⟩
  refine Qt (Qd (Qf (QK (Qb (Qe Qa Qa (Qe Qa Qa (Qe Qa Qa (Wj byC 0 i hS2 Qa Qa Qa (by rfl) hy es_98 Qa ?_))))))))
  intro bx4 capx4 hvx4
  refine G6 0 i b hS2 Qa hvx4 Qa Qa sz_5 (by rfl) (by omega) ?_
  intro w5 hS6; dsimp only[List.set]at hS6
  refine Qh (Qq (Qd (Qk [4,3,0] Qa (Qb (Qe Qa Qa (XC Qa Qa (by omega) (by omega) Qa ?_))))))
  refine Qc Qa Qa (Qh ?_)
  exact Xj (L1:=[(0,_),(3,_),(4,intV ((i+1:Nat):Int))]) (Dq Qa Qa Qa) (k1:=64 -(i+1)) (by omega) ⟨i+1,rfl,rfl,(by rw[←rep_set (by omega)]; exact hS6.pick [0,1] Qa), by omega⟩
 refine X6 (Q6 (Q6 (QR (Qd (Qf (Qb (Qe Qa Qa (DG 0 hS2 Qa Qa underlying98 underlying5 underlying9 Qa (Qc Qa Qa (Qh (Qd (Qo (Q5 (.inr Qa) Qa Qa ?_)))))))))))))
 exact⟨_,rfl,(by rw[show i=64 by omega]; simp),hS2.pick [1] Qa⟩
theorem Fk {kv:Value} {ks:List Int} {w:World} (h:RdI kv ks w): ∃ka kc,kv= .slice ka ks.length kc:= by
  obtain⟨ao,cap,h1,_⟩:=h
  exact⟨ao,cap,h1⟩
theorem lfew_sp {w:World} {F:Th} (hS:Sat w [F]) {lv:Value} {l:List OpX} (hL:Ent F (OpsRd lv l)) (n:Int):
    Calls prog 8 #[lv,intV n] w (Ret fun v w'=>v= .bool (Nj l n)∧Sat w' [F]):= by
 obtain⟨ao,cap,rfl,hmax⟩:=(hL.sat hS 0 rfl).shape
 refine Qy func8 Qa ntmps8 Qa ?_
 refine Qf (Qb (Qc Qa Qa (Qh (Qd (Qf (Qf (Qb (Qc Qa Qa (Qh (Qd (QK ?_)))))))))))
 refine XJ (fun K0 E0 W0=> ∃(i:Nat),K0=l.length -i∧E0=[(0,.slice ao l.length cap),(1,intV n),(5,intV (i:Int))]∧Sat W0 [F]∧(i≤l.length)∧(∀j x,j<i→l[j]? =some x→okO x.o=true)) (L0:=[(0,_),(1,_),(5,_)]) (l.length -0) (Dq Qa Qa Qa) ⟨0,rfl,rfl,hS, by omega, by omega⟩ ?_
 rintro _ _ w1 ⟨i,rfl,rfl,hS1,hi,hok⟩
 refine Qf (Qf (Qb (Qe Qa Qa (Qe Qa Qa (Xm underlying25 Qa Qa (X5 Qa Qa Qa (Qh (Qd (Qv Qa (fun h2=> ?_) (fun h2=> ?_))))))))))
 ·obtain⟨x,hx⟩: ∃x,l[i]? =some x:=⟨_,WY (by omega)⟩
  obtain⟨⟨b,off,rfl,hc⟩,hrd⟩:=(hL.sat hS1 0 rfl).get hx
  obtain⟨ka,kc,hkv⟩:=Fk hrd
  refine Qt (Qd (Qf (QK (Qf (Qb (Qe Qa Qa (Qe Qa Qa (XZ i Qa Qa (by rfl) (by omega) EX Qa ?_))))))))
  refine Qi Qa Rr Qa (Qr Qa Zx (hc 4 _ Qa) Qa (Zf underlying9 Qa Qa (Wr Qa Qa Qa (Qe Qa Qa (Q4 19 Qa (fun h3=> ?_) (fun h3=> ?_))))))
  ·exact Qg Qa Qa (QD h3) Qa (Qg Qa Qa (QD h3) Qa (Qg Qa Qa (QD h3) Qa (Qg Qa Qa (QD h3) Qa (Qg Qa Qa (QD h3) Qa (Qg Qa Qa (QD h3) Qa (Qg Qa Qa (QD h3) Qa (Q1 Qa (QD h3) Qa Qa (Qh (Qd (Qk [5,1,0,27] Qa (QP Qa (Qf (Qb (Qc Qa Qa (Qh (Qd (Qo (Qz (Qm (Qm (Qz (Qm (Q5 (.inr Qa) Qa Qa (⟨_,rfl, by rw[Ni hx (by omega)],hS1.pick [0] Qa⟩))))))))))))))))))))))))
  refine Qj Qa Qa (Qx h3) (Qe Qa Qa (Qj Qa Qa (Qx h3) (Qe Qa Qa (Qj Qa Qa (Qx h3) (XZ i Qa Qa (by rfl) (by omega) EX Qa ?_)))))
  refine Qj Qa Qa (Qx h3) (Qi Qa Rq Qa (Qj Qa Qa (Qx h3) (Qr Qa RC (hc 5 _ Qa) Qa ?_)))
  rw[hkv]
  refine Qj Qa Qa (Qx h3) (Xm underlying33 Qa Qa (Qj Qa Qa (Qx h3) (Wr Qa Qa Qa (Q3 Qa (Qx h3) Qa Qa (Qh (Qd (Qk [5,1,0,27] Qa (Qv Qa (fun h4=> ?_) (fun h4=> ?_)))))))))
  ·exact Qf (Qb (Qc Qa Qa (Qh (Qd (Qo (Qz (Qm (Qm (Qz (Qm (Q5 (.inr Qa) Qa Qa (⟨_,rfl, by rw[Ni hx (by omega)],hS1.pick [0] Qa⟩))))))))))))
  refine Qt (Qq (Qd (Qb (Qe Qa Qa (XC Qa Qa (by omega) (by omega) Qa ?_)))))
  refine Qc Qa Qa (Qh ?_)
  exact Xj (L1:=[(0,_),(1,_),(5,intV ((i+1:Nat):Int))]) (Dq Qa Qa Qa) (k1:=l.length -(i+1)) (by omega) ⟨i+1,rfl,rfl,hS1, by omega, fun j y hj hy=> by by_cases e:j=i;(subst e; rw[hx]at hy; cases hy;unfold okO; simp;omega); exact hok j y (by omega) hy⟩
 exact X6 (Q6 (Q6 (QR (Qd (Qf (Qb (Qe Qa Qa (Xm underlying25 Qa Qa (Qe Qa Qa (W9 Qa Qa Qa (Qc Qa Qa (Qh (Qd (Qk [4] Qa (Qo (Q5 (.inr Qa) Qa Qa (⟨_,rfl, by rw[fewB_go fun j x hj hx=>hok j x (by omega) hx],hS1.pick [0] Qa⟩)))))))))))))))))
theorem Fi {w:World} {F:Th} (hS:Sat w [F]) {t:Bs} {sv:Value} {l:AL Bs} (hL:Ent F (RdL shC sv l)):
    Calls prog 38 #[.agg #[strV t,sv]] w (Ret fun v w'=>v= .bool (Zb ⟨t,l⟩)∧Sat w' [F]):= by
 obtain⟨ao,cap,rfl,hmax⟩:=(hL.sat hS 0 rfl).shape
 refine Qy func38 Qa ntmps38 Qa ?_
 refine Qf (Qb (Za hS Qa Qa Qa ?_))
 intro bp wp hSp0
 have hSp:Sat wp [Xb bp [strV t,.slice ao l.length cap],F]:=hSp0
 refine Qc Qa Qa (Qh (Qd (Qf (Qb (Qc Qa Qa (Qh (Qd (Qf (Qf (Qb (Qc Qa Qa (Qh (Qd (QK ?_))))))))))))))
 refine XJ (fun K0 E0 W0=> ∃(i:Nat) (last:Int),K0=l.length -i∧E0=[(1,ptrV bp 0),(3,intV last),(4,intV (i:Int))]∧Sat W0 [Xb bp [strV t,.slice ao l.length cap],F]∧(i≤l.length)∧(J1 0 l=J1 last (l.drop i))) (L0:=[(1,_),(3,_),(4,_)]) (l.length -0) (Dq Qa Qa Qa) ⟨0,0,rfl,rfl,hSp, by omega, by rw[List.drop_zero]⟩ ?_
 rintro _ _ w1 ⟨i,last,rfl,rfl,hS1,hi,hR⟩
 refine Qf (Qf (Qb (Qe Qa Qa (Qi Qa HD Qa (Qr Qa RD (hS1.cell 0 Qa Qa) Qa (Xm underlying22 Qa Qa (X5 Qa Qa Qa (Qh (Qd (Qv Qa (fun h2=> ?_) (fun h2=> ?_)))))))))))
 ·obtain⟨x,hx⟩: ∃x,l[i]? =some x:=⟨_,WY (by omega)⟩
  obtain⟨b,off,rfl,hc⟩:=(hL.sat hS1 1 rfl).get hx
  refine Qt (Qd (Qf (QK (Qf (Qb (Qi Qa HD Qa (Qr Qa RD (hS1.cell 0 Qa Qa) Qa (Qe Qa Qa (XZ i Qa Qa (by rfl) (by omega) Nq Qa ?_)))))))))
  refine YO Qa N8 YI (vs:=[intV x.1,strV x.2]) hc Qa (Xs hS1 DC Qa Qa ?_)
  intro b3 w3 hS3
  (refine Q8 hS3 Qa Qa YI Qa (by rfl) (i:=0) Qa (by decide) ?_)
  intro w4 hS5; dsimp only[List.set]at hS5
  refine Qh (Qd (Qk [4,3,1,5] Qa (Qf (Qf (Qb (Qi Qa HC Qa (Qr Qa QH (hS5.cell 0 Qa Qa) Qa (Qe Qa Qa (W9 Qa Qa Qa (Qe Qa Qa (Q4 22 Qa (fun h6=> ?_) (fun h6=> ?_))))))))))))
  ·refine Qg Qa Qa (QD h6) Qa (Qg Qa Qa (QD h6) Qa (Qg Qa Qa (QD h6) Qa (Q1 Qa (QD h6) Qa Qa (Qe Qa Qa (Qg Qa Qa Qa Qa (Qg Qa Qa Qa Qa (Qg Qa Qa Qa Qa (Qg Qa Qa Qa Qa (Q1 Qa Qa Qa Qa (Qh (Qd (Qk [4,3,1,5,32] Qa (QP Qa (Qf (Qb (Qc Qa Qa (Qh (Qd (Qo (Qm (Qz (Qm (Qm (Qz (Qm (Q5 (.inr Qa) Qa Qa ?_))))))))))))))))))))))))))
   exact⟨_,rfl, by unfold Zb; dsimp only; rw[hR,GN hx,YP (by omega)];rfl,hS5.pick [2] Qa⟩
  refine Qj Qa Qa (Qx h6) (Qi Qa HC Qa (Qj Qa Qa (Qx h6) (Qr Qa QH (hS5.cell 0 Qa Qa) Qa (Qj Qa Qa (Qx h6) (Wr Qa Qa Qa (Q3 Qa (Qx h6) Qa Qa (Qe Qa Qa (Q4 27 Qa (fun h7=> ?_) (fun h7=> ?_)))))))))
  ·refine Qg Qa Qa (QD h7) Qa (Qg Qa Qa (QD h7) Qa (Qg Qa Qa (QD h7) Qa (Qg Qa Qa (QD h7) Qa (Q1 Qa (QD h7) Qa Qa (Qh (Qd (Qk [4,3,1,5,32] Qa (QP Qa (Qf (Qb (Qc Qa Qa (Qh (Qd (Qo (Qm (Qz (Qm (Qm (Qz (Qm (Q5 (.inr Qa) Qa Qa ?_)))))))))))))))))))))
   exact⟨_,rfl, by unfold Zb; dsimp only; rw[hR,GN hx,YP (by omega)];rfl,hS5.pick [2] Qa⟩
  refine Qj Qa Qa (Qx h7) (Qi Qa Rp Qa (Qj Qa Qa (Qx h7) (Qr Qa Zx (hS5.cell 0 Qa Qa) Qa (Qj Qa Qa (Qx h7) (Zf underlying9 Qa Qa (Qj Qa Qa (Qx h7) (Xu Qa Qa Qa (Q3 Qa (Qx h7) Qa Qa (Qh (Qd (Qk [4,3,1,5,32] Qa (Qv Qa (fun h8=> ?_) (fun h8=> ?_)))))))))))))
  ·refine Qf (Qb (Qc Qa Qa (Qh (Qd (Qo (Qm (Qz (Qm (Qm (Qz (Qm (Q5 (.inr Qa) Qa Qa ?_))))))))))))
   exact⟨_,rfl, by unfold Zb; dsimp only; rw[hR,GN hx,YP (by omega)];rfl,hS5.pick [2] Qa⟩
  refine Qt (Qd (Qb (Qi Qa HC Qa (Qr Qa QH (hS5.cell 0 Qa Qa) Qa (Qc Qa Qa (Qh (Qq (Qd (Qb (Qe Qa Qa (XC Qa Qa (by omega) (by omega) Qa ?_)))))))))))
  exact Qc Qa Qa (Qh (Xj (L1:=[(1,_),(3,intV x.1),(4,intV ((i+1:Nat):Int))]) (Dq Qa Qa Qa) (k1:=l.length -(i+1)) (by omega) ⟨i+1,x.1,rfl,rfl,hS5.pick [1,2] Qa, by omega, by rw[hR,GN hx,DV (by omega) (by omega) (by omega)]⟩))
 refine X6 (Q6 (Q6 (QR (Qd (Qf (Qb (Qi Qa Kb Qa (Qr Qa Zx (hS1.cell 0 Qa Qa) Qa (Zf underlying9 Qa Qa (W9 Qa Qa Qa (Qe Qa Qa (Q4 39 Qa (fun h9=> ?_) (fun h9=> ?_)))))))))))))
 ·refine Qj Qa Qa (QD h9) (Qi Qa HD Qa (Qj Qa Qa (QD h9) (Qr Qa RD (hS1.cell 0 Qa Qa) Qa (Qj Qa Qa (QD h9) (Xm underlying22 Qa Qa (Qj Qa Qa (QD h9) (W9 Qa Qa Qa (Q1 Qa (QD h9) Qa Qa (Qc Qa Qa (Qh (Qd (Qk [2] Qa (Qo (Q5 (.inr Qa) Qa Qa ?_))))))))))))))
  exact⟨_,rfl,congrArg Value.bool (by unfold Zb; dsimp only; rw[hR,List.drop_eq_nil_of_le (by omega)];unfold J1; rw[Bool.eq_iff_iff]; simp;omega),hS1.pick [1] Qa⟩
 refine Qg Qa Qa (Qx h9) Qa (Qg Qa Qa (Qx h9) Qa (Qg Qa Qa (Qx h9) Qa (Qg Qa Qa (Qx h9) Qa (Q3 Qa (Qx h9) Qa Qa (Qc Qa Qa (Qh (Qd (Qk [2] Qa (Qo (Q5 (.inr Qa) Qa Qa ?_))))))))))
 exact⟨_,rfl,congrArg Value.bool (by unfold Zb; dsimp only; rw[hR,List.drop_eq_nil_of_le (by omega)];unfold J1; rw[Bool.eq_iff_iff]; simp;omega),hS1.pick [1] Qa⟩
theorem FC {w:World} {F:Th} (hS:Sat w [F]) {t:Bs} {sv:Value} {l:AL Bs} (hL:Ent F (RdL shC sv l)):
    Calls prog 9 #[.agg #[strV t,sv]] w (Ret fun v w'=>v= .bool (RT ⟨t,l⟩)∧Sat w' [F]):= by
 obtain⟨ao,cap,rfl,hmax⟩:=(hL.sat hS 0 rfl).shape
 refine Qy func9 Qa ntmps9 Qa ?_
 refine Qf (Qb (Za hS Qa Qa Qa ?_))
 intro bp wp hSp0
 have hSp:Sat wp [Xb bp [strV t,.slice ao l.length cap],F]:=hSp0
 refine Qc Qa Qa (Qh (Qd (Qf (Qb (Jd Qa Mw DP (by first | exact hSp.blk 0 Qa) (QC Qa) Qa Qa ?_)))))
 refine Q0 cal_38 Qa (Fi (hSp.sp [] Qa) (hL.starL 1 Qa)) Qa ?_
 rintro _ w1 ⟨rfl,hS1⟩
 replace hS1:=hS1.jn Qa Qa
 clear hSp
 refine Qe Qa Qa (ZO 5 Qa (fun h2=> ?_) (fun h2=> ?_))
 ·refine Qj Qa Qa h2 (Qi Qa Kb Qa (Qj Qa Qa h2 (Qr Qa Zx (hS1.cell 0 Qa Qa) Qa (Qj Qa Qa h2 (Zf underlying9 Qa Qa (Qj Qa Qa h2 (W9 Qa Qa Qa (Q1 Qa h2 Qa Qa (Qe Qa Qa (Q4 11 Qa (fun h3=> ?_) (fun h3=> ?_)))))))))))
  ·refine Qj Qa Qa (QD h3) (Qi Qa HD Qa (Qj Qa Qa (QD h3) (Qr Qa RD (hS1.cell 0 Qa Qa) Qa (Qj Qa Qa (QD h3) (Xm underlying22 Qa Qa (Qj Qa Qa (QD h3) (W9 Qa Qa Qa (Q1 Qa (QD h3) Qa Qa (Qc Qa Qa (Qh (Qd (Qk [2] Qa (Qo (Q5 (.inr Qa) Qa Qa ?_))))))))))))))
   exact⟨_,rfl,congrArg Value.bool (by unfold RT; rw[Bool.eq_iff_iff];simp_all;try omega),hS1.pick [1] Qa⟩
  refine Qg Qa Qa (Qx h3) Qa (Qg Qa Qa (Qx h3) Qa (Qg Qa Qa (Qx h3) Qa (Qg Qa Qa (Qx h3) Qa (Q3 Qa (Qx h3) Qa Qa (Qc Qa Qa (Qh (Qd (Qk [2] Qa (Qo (Q5 (.inr Qa) Qa Qa ?_))))))))))
  exact⟨_,rfl,congrArg Value.bool (by unfold RT; rw[Bool.eq_iff_iff];simp_all;try omega),hS1.pick [1] Qa⟩
 refine Qg Qa Qa h2 Qa (Qg Qa Qa h2 Qa (Qg Qa Qa h2 Qa (Qg Qa Qa h2 Qa (Q3 Qa h2 Qa Qa (Qe Qa Qa (Qg Qa Qa Qa Qa (Qg Qa Qa Qa Qa (Qg Qa Qa Qa Qa (Qg Qa Qa Qa Qa (Q3 Qa Qa Qa Qa (Qc Qa Qa (Qh (Qd (Qk [2] Qa (Qo (Q5 (.inr Qa) Qa Qa ?_))))))))))))))))
 exact⟨_,rfl,congrArg Value.bool (by unfold RT; rw[Bool.eq_iff_iff];simp_all;try omega),hS1.pick [1] Qa⟩
