/- leaves: owned -/
import Derived.Test.YtkcjfoaejijdoaaGreatDoorLv2
set_option linter.unusedVariables false
set_option maxRecDepth 100000
set_option maxHeartbeats 80000000000
namespace Go.Proofs.YtkcjfoaejijdoaaGreatDoor
open Go.RowKit M
set_option linter.unusedSectionVars false
variable [Inhabited SlW]
theorem SG {V:VS} {j i:Int}:HI V j i≠none↔V i≠none:= by
  unfold HI
  cases h:V j with
  | none=> exact Iff.rfl
  | some x=>
    dsimp only
    by_cases e:i=j
    · subst e; rw[Qz,h]; simp
    · rw[QF e]
theorem Ye {V:VS} {j i:Int}:refW V j i≠none↔V i≠none:= by
  unfold refW;split
  · exact Iff.rfl
  · exact SG
def XO (V:VS) (j:Int):Prop:=j=0∨V j≠none
theorem stT_len {w:World} {p n F:Nat} {V:VS} {As:List Th} (h:Sat w (Zo p n F V::As)) {j:Int} {x:Int×Bs} (hx:V j=some x):x.2.length=64:= by
  obtain⟨S,hI,rfl,_,_⟩:=JY h
  unfold vw at hx
  cases hq:S.all j with
  | none=> rw[hq]at hx; cases hx
  | some y=>
    rw[hq]at hx
    have hx2:(y.refs,y.pg)=x:= by simpa using hx
    subst hx2
    exact(hI.ent hq).2.2.2.2.1
theorem Cw {w:World} {p n F:Nat} {V:VS} {As:List Th} (h:Sat w (Zo p n F V::As)) {j:Int} (hj:XO V j):(XR V j).length=64:= by
  unfold XR
  cases hq:V j with
  | none=>
    rcases hj with rfl | hj
    · simp [zer]
    · exact absurd hq hj
  | some x=> exact stT_len h hq
theorem TouR.alive {L L':LvD} {V V':VS} {id:Int} {t t':TrD} {k:KD} {x':LfD} (h:TouR L V id t k L' V' t' x') (ht:L.tr id=some t) (h0:id≠0) (ha:XO V (Xb L id k)):XO V' x'.own:= by
  rcases h with⟨hx,rfl,rfl,rfl⟩ | ⟨_,a,rfl,_,_,rfl⟩
  · have e:Xb L' id k=x'.own:=Ut h0 ht hx
    rwa [e]at ha
  · rcases ha with e | ha
    · exact .inl e
    · exact .inr (Ye.2 (Ye.2 ha))
theorem own0_sp {w:World} {b n Fr:Nat} {L:LvD} {V:VS} {F:Th} (hS:Sat w [ZN b L,Zo L.sp n Fr V,F]) (hn:n≤60000000000) (hE: ∀i,Y5 L.tr Zl i) {k:KD} (hal:XO V (L.pres k)):
    Calls Tryz.prog 44 #[ptrV b 0,intV 0,Xy k] w (Ret fun v w'=> ∃L' V' s e,v= .tuple #[intV s,intV e]∧OwnP L V k Fr L' V' s e∧Sat w' [ZN b L',Zo L'.sp (n+4) Fr V',F]):= by
 refine Qo Tryz.func44 rfl Tryz.ntmps44 rfl ?_
 refine Qd (Qa (XX hS rfl rfl rfl ?_))
 intro kb w1 hS1
 replace hS1:=XM hS1
 refine Qe rfl rfl (Qe rfl rfl (Qf (Qc (Qd (Qa (Qe rfl rfl (Qf (Qc (Qd (Qd (Qa (Qb rfl rfl (X0 rfl rfl rfl (Qf (Qc (Qt rfl (fun h2=> ?_) (fun h2=> ?_)))))))))))))))))
 ·exact absurd rfl h2
 refine Qr (Qc (Qd (Qa (Qb rfl rfl (Qb rfl rfl ?_)))))
 refine XA rfl X8 Xd (by first | exact hS1.blk 0 rfl) (by first | decide | exact Xn rfl | (simp;done) | omega) rfl rfl ?_
 refine Qv YI rfl (Yr (hS1.sp [1] rfl) hE 0 k) rfl ?_
 rintro _ w3 ⟨rfl,hS3⟩
 replace hS3:=hS3.jn rfl rfl
 clear hS1
 rw[show Xb L 0 k=L.pres k from Yh rfl]
 refine Qe rfl rfl (Qf (Qc (Qh [0,5,6,7,8,9] rfl (Qd (Qd ?_)))))
 have hS4:=XK (hS3.pick [0,1,2,3] rfl)
 refine Qa (Qb rfl rfl (X0 rfl rfl rfl (Qb rfl rfl (QW 24 rfl (fun h5=> ?_) (fun h5=> ?_)))))
 ·have hs0:L.pres k≠0:=h5
  refine Qk rfl rfl (Xf h5) (Qb rfl rfl (Qk rfl rfl (Xf h5) (Qj rfl rfl (Qk rfl rfl (Xf h5) (Qg rfl XF rfl (Qk rfl rfl (Xf h5) (Qp rfl Xk (hS4.cell 0 rfl rfl) rfl (Qk rfl rfl (Xf h5) (Qb rfl rfl (Qk rfl rfl (Xf h5) (Qv Be rfl (GD (hS4.sp [6] rfl) (L.pres k)) rfl ?_)))))))))))
  rintro _ w6 ⟨rfl,hS6⟩
  replace hS6:=hS6.jn rfl rfl
  clear hS4
  refine Qk rfl rfl (Xf h5) (Xe rfl rfl rfl (QC rfl (Xf h5) rfl rfl (Qf (Qc (Qh [0,5,6,7,8,9,32] rfl (Qt rfl (fun h7=> ?_) (fun h7=> ?_)))))))
  ·have hs1:Z2 V (L.pres k)=1:=h7
   exact Qd (Qa (Qb rfl rfl (Qe rfl rfl (Qe rfl rfl (Qf (Qc (Qu (Qn (Wx (.inr rfl) rfl rfl rfl (⟨_,rfl,L,V,_,_,rfl,.inl ⟨rfl,rfl,hs0,hs1,rfl,rfl⟩,((X2 (m:=n+4) (by omega) (hS6.pick [0,1,2,3,4,5,7] rfl)).reorder [1,2,3,4,5,0,6] rfl |> fun q=>QV q)⟩))))))))))
  have hnx: ¬(L.pres k≠0∧Z2 V (L.pres k)=1):= fun q=>h7 q.2
  refine Qr (Qc (Qd ?_))
  have hS8:=hS6.drew
  refine QI [0,1,2,3,4,5,6,7,8,9,10,11,12,13,14,15] [9,10] Wq (by kernel_rfl) ?_
  refine QE rfl rfl rfl (Xj rfl rfl rfl (QS rfl rfl rfl XF (Q8 rfl rfl rfl (Qm rfl Xk (hS8.cell 1 rfl rfl)) (QE rfl rfl rfl (Xj rfl rfl rfl (QS rfl rfl rfl XF (Q8 rfl rfl rfl (Qm rfl Xk (hS8.cell 1 rfl rfl)) (QE rfl rfl rfl (Xi rfl rfl rfl rfl rfl rfl ?_)))))))))
  refine Qv JV rfl (YB (hS8.sp [0] rfl) (L.pres k)) rfl ?_
  rintro _ w9 ⟨rfl,hS9⟩
  replace hS9:=hS9.jn rfl rfl
  clear hS8
  refine X9 (.skip (by kernel_rfl) (.cons (.inl ⟨rfl,(Qm rfl Xk (hS9.cell 1 rfl rfl))⟩) .nil)) ?_
  refine Xi rfl rfl rfl rfl rfl rfl ?_
  have hpg0:=Cw (hS9.pick [0,1,2,3,4,5,6,7] rfl) hal
  refine Zf Gl rfl (BS (hS9.sp [0] rfl) (by omega) hpg0) rfl ?_
  rintro e w10 ⟨_,rfl,(⟨rfl,hag,hS10⟩ | ⟨fr,rfl,hf1,hf0,hS10⟩)⟩
  ·refine⟨_,rfl, ?_⟩
   replace hS10:=hS10.jn rfl rfl
   clear hS9
   refine X9 (Xu (by kernel_rfl)) ?_
   refine QE rfl rfl rfl (We rfl rfl rfl rfl (We rfl rfl rfl rfl (XP rfl rfl rfl (XP rfl rfl rfl (VC.nil (Qc (Qh [0,5,6,7,8,10,11] rfl (Qd (Qd (Qa (Qb rfl rfl (X0 rfl rfl rfl (Qf (Qc (Qt rfl (fun h11=> ?_) (fun h11=> ?_))))))))))))))))
   ·exact Qd (Qa (Qb rfl rfl (Qe rfl rfl (Qe rfl rfl (Qf (Qc (Qu (Qn (Wx (.inr rfl) rfl rfl rfl (⟨_,rfl,L,V,_,_,rfl,.inr (.inl ⟨rfl,rfl,hag,rfl,rfl⟩),((X2 (m:=n+4) (by omega) (hS10.pick [0,1,2,3,4,5,7] rfl)).reorder [1,2,3,4,5,0,6] rfl |> fun q=>QV q)⟩))))))))))
   exact absurd (by decide) h11
  refine⟨_,rfl, ?_⟩
  replace hS10:=hS10.jn rfl rfl
  clear hS9
  refine X9 (Xu (by kernel_rfl)) ?_
  refine QE rfl rfl rfl (We rfl rfl rfl rfl (We rfl rfl rfl rfl (XP rfl rfl rfl (XP rfl rfl rfl (VC.nil (Qc (Qh [0,5,6,7,8,10,11] rfl (Qd (Qd (Qa (Qb rfl rfl (X0 rfl rfl rfl (Qf (Qc (Qt rfl (fun h12=> ?_) (fun h12=> ?_))))))))))))))))
  ·exact absurd rfl h12
  refine Qr (Qc (Qd (Qd (Qa (Qb rfl rfl (Yn Tryz.underlying89 rfl rfl rfl (Qf (Qc (Qh [0,5,6,7,8,10,52] rfl (Xl rfl (Qa (Qb rfl rfl ?_))))))))))))
  refine XA rfl X8 Xd (by first | exact hS10.blk 1 rfl | exact hS10.blk 6 rfl) (by first | decide | exact Xn rfl | (simp;done) | omega) rfl rfl ?_
  refine Qb rfl rfl (Qv MG rfl (Ov (hS10.sp [1,2,5,0] rfl) (by omega) k fr) rfl ?_)
  rintro _ w13 ⟨rfl,hS13⟩
  replace hS13:=hS13.jn rfl rfl
  clear hS10
  exact Qf (Qc (Qh [6,7,10] rfl (Qd (Qa (Qb rfl rfl (Qe rfl rfl (Qe rfl rfl (Qf (Qc (Qu (Wx (.inr rfl) rfl rfl rfl (⟨_,rfl,{L with pres:=Z1 L.pres k fr,sh:=Y3 (X1 V fr (some (1,XR V (L.pres k)))) L.sh (L.pres k)},_,_,_,rfl,.inr (.inr ⟨rfl,hf1,hf0,hnx,rfl,rfl⟩),((X2 (m:=n+4) (by omega) (hS13.pick [3,0,1,4,5,2,7] rfl)).reorder [1,2,3,4,5,0,6] rfl |> fun q=>QV (L:={L with pres:=Z1 L.pres k fr,sh:=Y3 (X1 V fr (some (1,XR V (L.pres k)))) L.sh (L.pres k)}) q)⟩))))))))))))
 have hnx: ¬(L.pres k≠0∧Z2 V (L.pres k)=1):= fun q=>h5 q.1
 refine Qi rfl rfl (Q6 h5) rfl (Qi rfl rfl (Q6 h5) rfl (Qi rfl rfl (Q6 h5) rfl (Qi rfl rfl (Q6 h5) rfl (Qi rfl rfl (Q6 h5) rfl (Qi rfl rfl (Q6 h5) rfl (Qi rfl rfl (Q6 h5) rfl (QO rfl (Q6 h5) rfl rfl (Qf (Qc (Qh [0,5,6,7,8,9,32] rfl (QT rfl (Qr (Qc (Qd ?_))))))))))))))
 have hS14:=hS4.drew
 refine QI [0,1,2,3,4,5,6,7,8,9,10,11,12,13,14,15] [9,10] Wq (by kernel_rfl) ?_
 refine QE rfl rfl rfl (Xj rfl rfl rfl (QS rfl rfl rfl XF (Q8 rfl rfl rfl (Qm rfl Xk (hS14.cell 0 rfl rfl)) (QE rfl rfl rfl (Xj rfl rfl rfl (QS rfl rfl rfl XF (Q8 rfl rfl rfl (Qm rfl Xk (hS14.cell 0 rfl rfl)) (QE rfl rfl rfl (Xi rfl rfl rfl rfl rfl rfl ?_)))))))))
 refine Qv JV rfl (YB (hS14.sp [6] rfl) (L.pres k)) rfl ?_
 rintro _ w15 ⟨rfl,hS15⟩
 replace hS15:=hS15.jn rfl rfl
 clear hS14
 refine X9 (.skip (by kernel_rfl) (.cons (.inl ⟨rfl,(Qm rfl Xk (hS15.cell 1 rfl rfl))⟩) .nil)) ?_
 refine Xi rfl rfl rfl rfl rfl rfl ?_
 have hpg0:=Cw (hS15.pick [0,1,2,3,4,5,6,7] rfl) hal
 refine Zf Gl rfl (BS (hS15.sp [0] rfl) (by omega) hpg0) rfl ?_
 rintro e w16 ⟨_,rfl,(⟨rfl,hag,hS16⟩ | ⟨fr,rfl,hf1,hf0,hS16⟩)⟩
 ·refine⟨_,rfl, ?_⟩
  replace hS16:=hS16.jn rfl rfl
  clear hS15
  refine X9 (Xu (by kernel_rfl)) ?_
  refine QE rfl rfl rfl (We rfl rfl rfl rfl (We rfl rfl rfl rfl (XP rfl rfl rfl (XP rfl rfl rfl (VC.nil (Qc (Qh [0,5,6,7,8,10,11] rfl (Qd (Qd (Qa (Qb rfl rfl (X0 rfl rfl rfl (Qf (Qc (Qt rfl (fun h17=> ?_) (fun h17=> ?_))))))))))))))))
  ·exact Qd (Qa (Qb rfl rfl (Qe rfl rfl (Qe rfl rfl (Qf (Qc (Qu (Qn (Wx (.inr rfl) rfl rfl rfl (⟨_,rfl,L,V,_,_,rfl,.inr (.inl ⟨rfl,rfl,hag,rfl,rfl⟩),((X2 (m:=n+4) (by omega) (hS16.pick [0,1,2,3,4,5,7] rfl)).reorder [1,2,3,4,5,0,6] rfl |> fun q=>QV q)⟩))))))))))
  exact absurd (by decide) h17
 refine⟨_,rfl, ?_⟩
 replace hS16:=hS16.jn rfl rfl
 clear hS15
 refine X9 (Xu (by kernel_rfl)) ?_
 refine QE rfl rfl rfl (We rfl rfl rfl rfl (We rfl rfl rfl rfl (XP rfl rfl rfl (XP rfl rfl rfl (VC.nil (Qc (Qh [0,5,6,7,8,10,11] rfl (Qd (Qd (Qa (Qb rfl rfl (X0 rfl rfl rfl (Qf (Qc (Qt rfl (fun h18=> ?_) (fun h18=> ?_))))))))))))))))
 ·exact absurd rfl h18
 refine Qr (Qc (Qd (Qd (Qa (Qb rfl rfl (Yn Tryz.underlying89 rfl rfl rfl (Qf (Qc (Qh [0,5,6,7,8,10,52] rfl (Xl rfl (Qa (Qb rfl rfl ?_))))))))))))
 refine XA rfl X8 Xd (by first | exact hS16.blk 1 rfl | exact hS16.blk 6 rfl) (by first | decide | exact Xn rfl | (simp;done) | omega) rfl rfl ?_
 refine Qb rfl rfl (Qv MG rfl (Ov (hS16.sp [1,2,5,0] rfl) (by omega) k fr) rfl ?_)
 rintro _ w19 ⟨rfl,hS19⟩
 replace hS19:=hS19.jn rfl rfl
 clear hS16
 exact Qf (Qc (Qh [6,7,10] rfl (Qd (Qa (Qb rfl rfl (Qe rfl rfl (Qe rfl rfl (Qf (Qc (Qu (Wx (.inr rfl) rfl rfl rfl (⟨_,rfl,{L with pres:=Z1 L.pres k fr,sh:=Y3 (X1 V fr (some (1,XR V (L.pres k)))) L.sh (L.pres k)},_,_,_,rfl,.inr (.inr ⟨rfl,hf1,hf0,hnx,rfl,rfl⟩),((X2 (m:=n+4) (by omega) (hS19.pick [3,0,1,4,5,2,7] rfl)).reorder [1,2,3,4,5,0,6] rfl |> fun q=>QV (L:={L with pres:=Z1 L.pres k fr,sh:=Y3 (X1 V fr (some (1,XR V (L.pres k)))) L.sh (L.pres k)}) q)⟩))))))))))))
theorem ownT_sp {w:World} {b n Fr:Nat} {L:LvD} {V:VS} {F:Th} (hS:Sat w [ZN b L,Zo L.sp n Fr V,F]) (hn:n≤60000000000) (hE: ∀i,Y5 L.tr Zl i) {id:Int} {t:TrD} (ht:L.tr id=some t) {k:KD} (h0:id≠0) (hal:XO V (Xb L id k)):
    Calls Tryz.prog 44 #[ptrV b 0,intV id,Xy k] w (Ret fun v w'=> ∃L1 V1 t1 x1 L' V' s e,v= .tuple #[intV s,intV e]∧TouR L V id t k L1 V1 t1 x1∧OwnT L1 V1 id t1 k x1 Fr L' V' s e∧Sat w' [ZN b L',Zo L'.sp (n+4) Fr V',F]):= by
 refine Qo Tryz.func44 rfl Tryz.ntmps44 rfl ?_
 refine Qd (Qa (XX hS rfl rfl rfl ?_))
 intro kb w1 hS1
 replace hS1:=XM hS1
 refine Qe rfl rfl (Qe rfl rfl (Qf (Qc (Qd (Qa (Qe rfl rfl (Qf (Qc (Qd (Qd (Qa (Qb rfl rfl (X0 rfl rfl rfl (Qf (Qc (Qt rfl (fun h2=> ?_) (fun h2=> ?_)))))))))))))))))
 ·refine Qa (Qb rfl rfl (Qb rfl rfl ?_))
  refine XA rfl X8 Xd (by first | exact hS1.blk 0 rfl) (by first | decide | exact Xn rfl | (simp;done) | omega) rfl rfl ?_
  refine Qv Bc rfl (Us (hS1.sp [1,2] rfl) (by omega) hE ht (k:=k)) rfl ?_
  rintro _ w3 ⟨L1,V1,t1,x1,rfl,hT,hS3⟩
  replace hS3:=hS3.jn rfl rfl
  clear hS1
  have ht1:=hT.tr ht
  have hx1:=hT.lv
  have hE1:=hT.ends ht hE
  have hal1:=hT.alive ht h0 hal
  refine Qe rfl rfl (Qf (Qc (Qh [1,0,5,6,7,8] rfl (Qd (Qa (Qb rfl rfl (Qb rfl rfl ?_)))))))
  refine XA rfl X8 Xd (by first | exact hS3.blk 2 rfl) (by first | decide | exact Xn rfl | (simp;done) | omega) rfl rfl ?_
  refine Qv YI rfl (Yr (hS3.sp [0] rfl) hE1 id k) rfl ?_
  rintro _ w4 ⟨rfl,hS4⟩
  replace hS4:=hS4.jn rfl rfl
  clear hS3
  rw[hT.sees ht h0]
  refine Qe rfl rfl (Qf (Qc (Qh [0,5,6,7,8,9] rfl (Qd (Qd ?_)))))
  have hS5:=XK (hS4.pick [0,1,2,3] rfl)
  refine Qa (Qb rfl rfl (X0 rfl rfl rfl (Qb rfl rfl (QW 24 rfl (fun h6=> ?_) (fun h6=> ?_)))))
  ·have hs0:x1.own≠0:=h6
   refine Qk rfl rfl (Xf h6) (Qb rfl rfl (Qk rfl rfl (Xf h6) (Qj rfl rfl (Qk rfl rfl (Xf h6) (Qg rfl XF rfl (Qk rfl rfl (Xf h6) (Qp rfl Xk (hS5.cell 0 rfl rfl) rfl (Qk rfl rfl (Xf h6) (Qb rfl rfl (Qk rfl rfl (Xf h6) (Qv Be rfl (GD (hS5.sp [5] rfl) x1.own) rfl ?_)))))))))))
   rintro _ w7 ⟨rfl,hS7⟩
   replace hS7:=hS7.jn rfl rfl
   clear hS5
   refine Qk rfl rfl (Xf h6) (Xe rfl rfl rfl (QC rfl (Xf h6) rfl rfl (Qf (Qc (Qh [0,5,6,7,8,9,32] rfl (Qt rfl (fun h8=> ?_) (fun h8=> ?_)))))))
   ·have hs1:Z2 V1 x1.own=1:=h8
    exact Qd (Qa (Qb rfl rfl (Qe rfl rfl (Qe rfl rfl (Qf (Qc (Qu (Qn (Wx (.inr rfl) rfl rfl rfl (⟨_,rfl,L1,V1,t1,x1,L1,V1,_,_,rfl,hT,.inl ⟨rfl,rfl,hs0,hs1,rfl,rfl⟩,((X2 (m:=n+4) (by omega) (hS7.pick [0,1,2,3,4,5,7] rfl)).reorder [1,2,3,4,5,0,6] rfl |> fun q=>QV q)⟩))))))))))
   have hnx: ¬(x1.own≠0∧Z2 V1 x1.own=1):= fun q=>h8 q.2
   refine Qr (Qc (Qd ?_))
   have hS9:=hS7.drew
   refine QI [0,1,2,3,4,5,6,7,8,9,10,11,12,13,14,15] [9,10] Wq (by kernel_rfl) ?_
   refine QE rfl rfl rfl (Xj rfl rfl rfl (QS rfl rfl rfl XF (Q8 rfl rfl rfl (Qm rfl Xk (hS9.cell 1 rfl rfl)) (QE rfl rfl rfl (Xj rfl rfl rfl (QS rfl rfl rfl XF (Q8 rfl rfl rfl (Qm rfl Xk (hS9.cell 1 rfl rfl)) (QE rfl rfl rfl (Xi rfl rfl rfl rfl rfl rfl ?_)))))))))
   refine Qv JV rfl (YB (hS9.sp [0] rfl) x1.own) rfl ?_
   rintro _ w10 ⟨rfl,hS10⟩
   replace hS10:=hS10.jn rfl rfl
   clear hS9
   refine X9 (.skip (by kernel_rfl) (.cons (.inl ⟨rfl,(Qm rfl Xk (hS10.cell 1 rfl rfl))⟩) .nil)) ?_
   refine Xi rfl rfl rfl rfl rfl rfl ?_
   have hpg1:=Cw (hS10.pick [0,1,2,3,4,5,6,7] rfl) hal1
   refine Zf Gl rfl (BS (hS10.sp [0] rfl) (by omega) hpg1) rfl ?_
   rintro e w11 ⟨_,rfl,(⟨rfl,hag,hS11⟩ | ⟨fr,rfl,hf1,hf0,hS11⟩)⟩
   ·refine⟨_,rfl, ?_⟩
    replace hS11:=hS11.jn rfl rfl
    clear hS10
    refine X9 (Xu (by kernel_rfl)) ?_
    refine QE rfl rfl rfl (We rfl rfl rfl rfl (We rfl rfl rfl rfl (XP rfl rfl rfl (XP rfl rfl rfl (VC.nil (Qc (Qh [0,5,6,7,8,10,11] rfl (Qd (Qd (Qa (Qb rfl rfl (X0 rfl rfl rfl (Qf (Qc (Qt rfl (fun h12=> ?_) (fun h12=> ?_))))))))))))))))
    ·exact Qd (Qa (Qb rfl rfl (Qe rfl rfl (Qe rfl rfl (Qf (Qc (Qu (Qn (Wx (.inr rfl) rfl rfl rfl (⟨_,rfl,L1,V1,t1,x1,L1,V1,_,_,rfl,hT,.inr (.inl ⟨rfl,rfl,hag,rfl,rfl⟩),((X2 (m:=n+4) (by omega) (hS11.pick [0,1,2,3,4,5,7] rfl)).reorder [1,2,3,4,5,0,6] rfl |> fun q=>QV q)⟩))))))))))
    exact absurd (by decide) h12
   refine⟨_,rfl, ?_⟩
   replace hS11:=hS11.jn rfl rfl
   clear hS10
   refine X9 (Xu (by kernel_rfl)) ?_
   refine QE rfl rfl rfl (We rfl rfl rfl rfl (We rfl rfl rfl rfl (XP rfl rfl rfl (XP rfl rfl rfl (VC.nil (Qc (Qh [0,5,6,7,8,10,11] rfl (Qd (Qd (Qa (Qb rfl rfl (X0 rfl rfl rfl (Qf (Qc (Qt rfl (fun h13=> ?_) (fun h13=> ?_))))))))))))))))
   ·exact absurd rfl h13
   refine Qr (Qc (Qd (Qd (Qa (Qb rfl rfl (Z8 Tryz.underlying89 rfl rfl rfl (Qf (Qc (Qh [0,5,6,7,8,10,52] rfl (QT rfl (Qd ?_)))))))))))
   have hS14:=QV (L:=L1) (hS11.pick [1,2,3,4,5,0,6,7] rfl)
   have hS15:=Yw ht1 hx1 (hS14.pick [0,1,2,3] rfl)
   refine Qa (Qb rfl rfl (Qb rfl rfl (Qj rfl rfl (Qg rfl Jy rfl (Qp rfl QN (hS15.cell 0 rfl rfl) rfl (Qv UX rfl (UH (hS15.sp [6,9,10] rfl) (by omega) x1.own) rfl ?_))))))
   rintro _ w16 ⟨rfl,hS16⟩
   replace hS16:=hS16.jn rfl rfl
   clear hS15
   refine Qf (Qc (Qh [6,7,8,10] rfl (Qa (Qb rfl rfl (Qb rfl rfl (Qj rfl rfl (Qg rfl Jy rfl (QJ hS16 rfl rfl Um rfl (i:=3) rfl (Xn rfl) ?_))))))))
   intro w17 hS17; dsimp only[List.set]at hS17
   clear hS16
   refine Qf (Qc (Qd (Qa (Qb rfl rfl (Qe rfl rfl (Qe rfl rfl (Qf (Qc (Qu (Wx (.inr rfl) rfl rfl rfl ?_))))))))))
   have hS18:=Jg (L:={L1 with sh:=Y3 (X1 V1 fr (some (1,XR V1 x1.own))) L1.sh x1.own}) (y:={x1 with own:=fr}) ht1 hx1 rfl (hS17.pick [3,4,5,6,7,8,0,9,10,1,2,11,12] rfl)
   exact⟨_,rfl,L1,V1,t1,x1,Zv ({L1 with sh:=Y3 (X1 V1 fr (some (1,XR V1 x1.own))) L1.sh x1.own}) id t1 k {x1 with own:=fr},_,_,_,rfl,hT,.inr (.inr ⟨rfl,hf1,hf0,hnx,rfl,rfl⟩),(X2 (m:=n+4) (by omega) (hS18.pick [1,0,3] rfl)).reorder [1,0,2] rfl⟩
  have hnx: ¬(x1.own≠0∧Z2 V1 x1.own=1):= fun q=>h6 q.1
  refine Qi rfl rfl (Q6 h6) rfl (Qi rfl rfl (Q6 h6) rfl (Qi rfl rfl (Q6 h6) rfl (Qi rfl rfl (Q6 h6) rfl (Qi rfl rfl (Q6 h6) rfl (Qi rfl rfl (Q6 h6) rfl (Qi rfl rfl (Q6 h6) rfl (QO rfl (Q6 h6) rfl rfl (Qf (Qc (Qh [0,5,6,7,8,9,32] rfl (QT rfl (Qr (Qc (Qd ?_))))))))))))))
  have hS19:=hS5.drew
  refine QI [0,1,2,3,4,5,6,7,8,9,10,11,12,13,14,15] [9,10] Wq (by kernel_rfl) ?_
  refine QE rfl rfl rfl (Xj rfl rfl rfl (QS rfl rfl rfl XF (Q8 rfl rfl rfl (Qm rfl Xk (hS19.cell 0 rfl rfl)) (QE rfl rfl rfl (Xj rfl rfl rfl (QS rfl rfl rfl XF (Q8 rfl rfl rfl (Qm rfl Xk (hS19.cell 0 rfl rfl)) (QE rfl rfl rfl (Xi rfl rfl rfl rfl rfl rfl ?_)))))))))
  refine Qv JV rfl (YB (hS19.sp [5] rfl) x1.own) rfl ?_
  rintro _ w20 ⟨rfl,hS20⟩
  replace hS20:=hS20.jn rfl rfl
  clear hS19
  refine X9 (.skip (by kernel_rfl) (.cons (.inl ⟨rfl,(Qm rfl Xk (hS20.cell 1 rfl rfl))⟩) .nil)) ?_
  refine Xi rfl rfl rfl rfl rfl rfl ?_
  have hpg1:=Cw (hS20.pick [0,1,2,3,4,5,6,7] rfl) hal1
  refine Zf Gl rfl (BS (hS20.sp [0] rfl) (by omega) hpg1) rfl ?_
  rintro e w21 ⟨_,rfl,(⟨rfl,hag,hS21⟩ | ⟨fr,rfl,hf1,hf0,hS21⟩)⟩
  ·refine⟨_,rfl, ?_⟩
   replace hS21:=hS21.jn rfl rfl
   clear hS20
   refine X9 (Xu (by kernel_rfl)) ?_
   refine QE rfl rfl rfl (We rfl rfl rfl rfl (We rfl rfl rfl rfl (XP rfl rfl rfl (XP rfl rfl rfl (VC.nil (Qc (Qh [0,5,6,7,8,10,11] rfl (Qd (Qd (Qa (Qb rfl rfl (X0 rfl rfl rfl (Qf (Qc (Qt rfl (fun h22=> ?_) (fun h22=> ?_))))))))))))))))
   ·exact Qd (Qa (Qb rfl rfl (Qe rfl rfl (Qe rfl rfl (Qf (Qc (Qu (Qn (Wx (.inr rfl) rfl rfl rfl (⟨_,rfl,L1,V1,t1,x1,L1,V1,_,_,rfl,hT,.inr (.inl ⟨rfl,rfl,hag,rfl,rfl⟩),((X2 (m:=n+4) (by omega) (hS21.pick [0,1,2,3,4,5,7] rfl)).reorder [1,2,3,4,5,0,6] rfl |> fun q=>QV q)⟩))))))))))
   exact absurd (by decide) h22
  refine⟨_,rfl, ?_⟩
  replace hS21:=hS21.jn rfl rfl
  clear hS20
  refine X9 (Xu (by kernel_rfl)) ?_
  refine QE rfl rfl rfl (We rfl rfl rfl rfl (We rfl rfl rfl rfl (XP rfl rfl rfl (XP rfl rfl rfl (VC.nil (Qc (Qh [0,5,6,7,8,10,11] rfl (Qd (Qd (Qa (Qb rfl rfl (X0 rfl rfl rfl (Qf (Qc (Qt rfl (fun h23=> ?_) (fun h23=> ?_))))))))))))))))
  ·exact absurd rfl h23
  refine Qr (Qc (Qd (Qd (Qa (Qb rfl rfl (Z8 Tryz.underlying89 rfl rfl rfl (Qf (Qc (Qh [0,5,6,7,8,10,52] rfl (QT rfl (Qd ?_)))))))))))
  have hS24:=QV (L:=L1) (hS21.pick [1,2,3,4,5,0,6,7] rfl)
  have hS25:=Yw ht1 hx1 (hS24.pick [0,1,2,3] rfl)
  refine Qa (Qb rfl rfl (Qb rfl rfl (Qj rfl rfl (Qg rfl Jy rfl (Qp rfl QN (hS25.cell 0 rfl rfl) rfl (Qv UX rfl (UH (hS25.sp [6,9,10] rfl) (by omega) x1.own) rfl ?_))))))
  rintro _ w26 ⟨rfl,hS26⟩
  replace hS26:=hS26.jn rfl rfl
  clear hS25
  refine Qf (Qc (Qh [6,7,8,10] rfl (Qa (Qb rfl rfl (Qb rfl rfl (Qj rfl rfl (Qg rfl Jy rfl (QJ hS26 rfl rfl Um rfl (i:=3) rfl (Xn rfl) ?_))))))))
  intro w27 hS27; dsimp only[List.set]at hS27
  clear hS26
  refine Qf (Qc (Qd (Qa (Qb rfl rfl (Qe rfl rfl (Qe rfl rfl (Qf (Qc (Qu (Wx (.inr rfl) rfl rfl rfl ?_))))))))))
  have hS28:=Jg (L:={L1 with sh:=Y3 (X1 V1 fr (some (1,XR V1 x1.own))) L1.sh x1.own}) (y:={x1 with own:=fr}) ht1 hx1 rfl (hS27.pick [3,4,5,6,7,8,0,9,10,1,2,11,12] rfl)
  exact⟨_,rfl,L1,V1,t1,x1,Zv ({L1 with sh:=Y3 (X1 V1 fr (some (1,XR V1 x1.own))) L1.sh x1.own}) id t1 k {x1 with own:=fr},_,_,_,rfl,hT,.inr (.inr ⟨rfl,hf1,hf0,hnx,rfl,rfl⟩),(X2 (m:=n+4) (by omega) (hS28.pick [1,0,3] rfl)).reorder [1,0,2] rfl⟩
 exact absurd (Decidable.not_not.1 h2) h0
end Go.Proofs.YtkcjfoaejijdoaaGreatDoor
namespace Go.Proofs.YtkcjfoaejijdoaaGreatDoor
open Go.RowKit M
set_option linter.unusedSectionVars false
variable [Inhabited SlW]
theorem J8 {w:World} {As:List Th} {b:Nat} {L:LvD} (hS:Sat w As) (i:Nat) (hi:As[i]? =some (ZN b L)):w.cell? ⟨b,0,none⟩=some (ptrV L.sp 0):=(XK (hS.pull i hi)).cell 0 rfl rfl
theorem Kn {ob:Bs} {a:Int} (h:0≤a∧a<16384):VE ob a= .tuple #[Xy (ob,a/ 64),Zy (1#64<<<(a%64).toNat),.bool true]:= by unfold VE; rw[if_pos h]
theorem DY {ob:Bs} {a:Int} (h: ¬(0≤a∧a<16384)):VE ob a= .tuple #[Xy ([],0),Zy 0#64,.bool false]:= by unfold VE; rw[if_neg h]
def bitA (a:Int):BitVec 64:=1#64<<<(a%64).toNat
theorem DN {L:LvD} {id:Int} {t:TrD} {k:KD} {x:LfD} (h0:id≠0):Xb (Zv L id t k x) id k=x.own:=Ut h0 DM Qz
theorem OwnT.leaf {L L':LvD} {V V':VS} {id:Int} {t:TrD} {k:KD} {x:LfD} {Fr:Nat} {s e:Int} (h:OwnT L V id t k x Fr L' V' s e) (ht:L.tr id=some t) (hx:t.lv k=some x): ∃t' x',L'.tr id=some t'∧t'.lv k=some x'∧x'.wr=x.wr∧x'.rd=x.rd∧x'.base=x.base∧(e=0→x'.own=s):= by
  rcases h with⟨_,h2,_,_,rfl,_⟩ | ⟨h1,_,_,rfl,_⟩ | ⟨_,_,_,_,_,rfl⟩
  · exact⟨t,x,ht,hx,rfl,rfl,rfl, fun _=>h2.symm⟩
  · exact⟨t,x,ht,hx,rfl,rfl,rfl, fun q=> by omega⟩
  · exact⟨_,_,DM,Qz,rfl,rfl,rfl, fun _=>rfl⟩
theorem OwnT.sp {L L':LvD} {V V':VS} {id:Int} {t:TrD} {k:KD} {x:LfD} {Fr:Nat} {s e:Int} (h:OwnT L V id t k x Fr L' V' s e):L'.sp=L.sp:= by
  rcases h with⟨_,h2,_,_,rfl,_⟩ | ⟨h1,_,_,rfl,_⟩ | ⟨_,_,_,_,_,rfl⟩<;>rfl
theorem Sd {w:World} {b n Fr:Nat} {L:LvD} {V:VS} {F:Th} (hS:Sat w [ZN b L,Zo L.sp n Fr V,F]) (hn:n≤60000000000) (ob:Bs) (a:Int) (id:Int) (hr: ¬(0≤a∧a<16384)):
    Calls Tryz.prog 12 #[ptrV b 0,intV id,strV ob,intV a] w (Ret fun v w'=>v=XS 0∧Sat w' [ZN b L,Zo L.sp n Fr V,F]):= by
 refine Qo Tryz.func12 rfl Tryz.ntmps12 rfl ?_
 refine Qd (Qa (Qe rfl rfl (Qf (Qc (Qd (Qa (Qb rfl rfl (Qb rfl rfl (Qv Bd rfl (Ux (hS.sp [] rfl) ob a) rfl ?_)))))))))
 rintro _ w1 ⟨rfl,hS1⟩
 replace hS1:=hS1.jn rfl rfl
 rw[DY hr]
 refine Qb rfl rfl (Qs rfl rfl rfl (Qs rfl rfl rfl (Qs rfl rfl rfl (Xc hS1 ZO rfl rfl ?_))))
 intro kb w2 hS2
 clear hS1
 refine QU hS2 rfl rfl Xd rfl (by rfl) (i:=0) rfl (by decide) ?_
 intro w3 hS3; dsimp only[List.set]at hS3
 clear hS2
 replace hS3:=XM (k:=([],0)) hS3
 refine Qe rfl rfl (Qe rfl rfl (Qf (Qc (Qh [3,1,0,8,9,10,11] rfl (Qd (Qd (Qa (Qb rfl rfl (QQ rfl rfl (Qb rfl rfl (Zc 22 rfl (fun h4=> ?_) (fun h4=> ?_))))))))))))
 ·exact Qi rfl rfl h4 rfl (Qi rfl rfl h4 rfl (Qi rfl rfl h4 rfl (Qi rfl rfl h4 rfl (QC rfl h4 rfl rfl (Qf (Qc (Qh [3,1,0,8,9,10,27] rfl (Xl rfl (Qd (Qa (Qe rfl rfl (Qf (Qc (Qu (Qn (QP (.inr rfl) rfl rfl (⟨_,rfl,rfl,hS3.pick [1,2,3] rfl⟩)))))))))))))))))
 exact absurd h4 (by decide)
theorem qbe {w:World} {b n Fr:Nat} {L:LvD} {V:VS} {F:Th} (hS:Sat w [ZN b L,Zo L.sp n Fr V,F]) (hn:n≤60000000000) (ob:Bs) (a:Int) (hE: ∀i,Y5 L.tr Zl i) (hr:0≤a∧a<16384):
    Calls Tryz.prog 12 #[ptrV b 0,intV 0,strV ob,intV a] w (Ret fun v w'=>v=XS (btV V (L.pres (ob,a/ 64)) (a%64))∧Sat w' [ZN b L,Zo L.sp n Fr V,F]):= by
 refine Qo Tryz.func12 rfl Tryz.ntmps12 rfl ?_
 refine Qd (Qa (Qe rfl rfl (Qf (Qc (Qd (Qa (Qb rfl rfl (Qb rfl rfl (Qv Bd rfl (Ux (hS.sp [] rfl) ob a) rfl ?_)))))))))
 rintro _ w1 ⟨rfl,hS1⟩
 replace hS1:=hS1.jn rfl rfl
 rw[Kn hr]
 refine Qb rfl rfl (Qs rfl rfl rfl (Qs rfl rfl rfl (Qs rfl rfl rfl (Xc hS1 ZO rfl rfl ?_))))
 intro kb w2 hS2
 clear hS1
 refine QU hS2 rfl rfl Xd rfl (by rfl) (i:=0) rfl (by decide) ?_
 intro w3 hS3; dsimp only[List.set]at hS3
 clear hS2
 replace hS3:=XM (k:=(ob,a/ 64)) hS3
 refine Qe rfl rfl (Qe rfl rfl (Qf (Qc (Qh [3,1,0,8,9,10,11] rfl (Qd (Qd (Qa (Qb rfl rfl (QQ rfl rfl (Qb rfl rfl (Zc 22 rfl (fun h4=> ?_) (fun h4=> ?_))))))))))))
 ·exact absurd h4 (by decide)
 refine Qk rfl rfl h4 (Qb rfl rfl (Qk rfl rfl h4 (Qb rfl rfl (Qk rfl rfl h4 (Qv Hg rfl (Jj (hS3.sp [1] rfl) 0) rfl ?_)))))
 rintro _ w5 ⟨rfl,hS5⟩
 replace hS5:=hS5.jn rfl rfl
 clear hS3
 refine Qk rfl rfl h4 (QQ rfl rfl (QO rfl h4 rfl rfl (Qf (Qc (Qh [3,1,0,8,9,10,27] rfl (QL rfl (fun h6=> ?_) (fun h6=> ?_)))))))
 ·exact absurd h6 (by simp [ZF])
 refine Qr (Qc (Qd (Qd (Qa (Qb rfl rfl (X0 rfl rfl rfl (Qf (Qc (Qt rfl (fun h7=> ?_) (fun h7=> ?_))))))))))
 ·exact absurd rfl h7
 refine Qr (Qc (Qd ?_))
 have hS8:=hS5.drew
 refine QI [0,1,2,3,4,5,6,8,9,7,10,11] [7,10] Wq (by kernel_rfl) ?_
 refine QE rfl rfl rfl (Xj rfl rfl rfl (QS rfl rfl rfl XF (Q8 rfl rfl rfl (Qm rfl Xk (J8 hS8 0 rfl)) (QE rfl rfl rfl (QE rfl rfl rfl (Q8 rfl rfl rfl (XD rfl X8 Xd (by first | exact hS8.blk 1 rfl) (Xn rfl) rfl) ?_))))))
 refine QE rfl rfl rfl (QZ rfl rfl rfl (fun _=>(M4 rfl rfl (by omega) (by omega))) ?_)
 refine Xi rfl rfl rfl rfl rfl rfl ?_
 refine Qv YI rfl (Yr (hS8.sp [0] rfl) hE 0 (ob,a/ 64)) rfl ?_
 rintro _ w9 ⟨rfl,hS9⟩
 replace hS9:=hS9.jn rfl rfl
 clear hS8
 rw[show Xb L 0 (ob,a/ 64)=L.pres (ob,a/ 64) from Yh rfl]
 refine X9 (.skip (by kernel_rfl) (.cons (.inl ⟨rfl,(Qm rfl Xk (J8 hS9 0 rfl))⟩) .nil)) ?_
 refine Xi rfl rfl rfl rfl rfl rfl ?_
 refine Qv qa8 rfl (Oi (hS9.sp [2] rfl) (by omega) (L.pres (ob,a/ 64)) (a%64)) rfl ?_
 rintro _ w10 ⟨rfl,hS10⟩
 replace hS10:=hS10.jn rfl rfl
 clear hS9
 refine X9 (Xu (by kernel_rfl)) ?_
 exact XP rfl rfl rfl (VC.nil (Qc (Qh [8] rfl (Qu (QP (.inr rfl) rfl rfl (⟨_,rfl,rfl,hS10.pick [1,0,3] rfl⟩))))))
theorem qbd {w:World} {b n Fr:Nat} {L:LvD} {V:VS} {F:Th} (hS:Sat w [ZN b L,Zo L.sp n Fr V,F]) (hn:n≤60000000000) (hE: ∀i,Y5 L.tr Zl i) {id:Int} {t:TrD} (ht:L.tr id=some t) (h0:id≠0) (ob:Bs) (a:Int) (hr:0≤a∧a<16384):
    Calls Tryz.prog 12 #[ptrV b 0,intV id,strV ob,intV a] w (Ret fun v w'=> ∃L1 V1 t1 x1,TouR L V id t (ob,a/ 64) L1 V1 t1 x1∧v=XS (btV V1 x1.own (a%64))∧Sat w' [ZN b (Zv L1 id t1 (ob,a/ 64) {x1 with rd:=x1.rd ||| (bitA a&&& ~~~x1.wr)}),Zo L1.sp (n+2) Fr V1,F]):= by
 refine Qo Tryz.func12 rfl Tryz.ntmps12 rfl ?_
 refine Qd (Qa (Qe rfl rfl (Qf (Qc (Qd (Qa (Qb rfl rfl (Qb rfl rfl (Qv Bd rfl (Ux (hS.sp [] rfl) ob a) rfl ?_)))))))))
 rintro _ w1 ⟨rfl,hS1⟩
 replace hS1:=hS1.jn rfl rfl
 rw[Kn hr]
 refine Qb rfl rfl (Qs rfl rfl rfl (Qs rfl rfl rfl (Qs rfl rfl rfl (Xc hS1 ZO rfl rfl ?_))))
 intro kb w2 hS2
 clear hS1
 refine QU hS2 rfl rfl Xd rfl (by rfl) (i:=0) rfl (by decide) ?_
 intro w3 hS3; dsimp only[List.set]at hS3
 clear hS2
 replace hS3:=XM (k:=(ob,a/ 64)) hS3
 refine Qe rfl rfl (Qe rfl rfl (Qf (Qc (Qh [3,1,0,8,9,10,11] rfl (Qd (Qd (Qa (Qb rfl rfl (QQ rfl rfl (Qb rfl rfl (Zc 22 rfl (fun h4=> ?_) (fun h4=> ?_))))))))))))
 ·exact absurd h4 (by decide)
 refine Qk rfl rfl h4 (Qb rfl rfl (Qk rfl rfl h4 (Qb rfl rfl (Qk rfl rfl h4 (Qv Hg rfl (Jj (hS3.sp [1] rfl) id) rfl ?_)))))
 rintro _ w5 ⟨rfl,hS5⟩
 replace hS5:=hS5.jn rfl rfl
 clear hS3
 refine Qk rfl rfl h4 (QQ rfl rfl (QO rfl h4 rfl rfl (Qf (Qc (Qh [3,1,0,8,9,10,27] rfl (QL rfl (fun h6=> ?_) (fun h6=> ?_)))))))
 ·exact absurd h6 (by simp [ZF,ht])
 refine Qr (Qc (Qd (Qd (Qa (Qb rfl rfl (X0 rfl rfl rfl (Qf (Qc (Qt rfl (fun h7=> ?_) (fun h7=> ?_))))))))))
 ·refine Qd (Qa (Qb rfl rfl (Qb rfl rfl ?_)))
  refine XA rfl X8 Xd (by first | exact hS5.blk 1 rfl) (by first | decide | exact Xn rfl | (simp;done) | omega) rfl rfl ?_
  refine Qv Bc rfl (Us (hS5.sp [0,2] rfl) (by omega) hE ht (k:=(ob,a/ 64))) rfl ?_
  rintro _ w8 ⟨L1,V1,t1,x1,rfl,hT,hS8⟩
  replace hS8:=hS8.jn rfl rfl
  clear hS5
  have ht1:=hT.tr ht
  have hx1:=hT.lv
  have hE1:=hT.ends ht hE
  refine Qe rfl rfl (Qf (Qc (Qh [3,1,0,8,9,10,12] rfl ?_)))
  have hS9:=Yw ht1 hx1 (hS8.pick [0,1,2,3] rfl)
  have hS10:=hS9.drew
  refine QI [0,1,2,3,4,5,6,7,8,9,10,11,12,13] [13] Wq (by kernel_rfl) ?_
  refine QE rfl rfl rfl (Xj rfl rfl rfl (QS rfl rfl rfl YQ (Q8 rfl rfl rfl (Qm rfl Y1 (hS10.cell 0 rfl rfl)) (QE rfl rfl rfl (QE rfl rfl rfl (Xj rfl rfl rfl (QS rfl rfl rfl W8 (Q8 rfl rfl rfl (Qm rfl Y1 (hS10.cell 0 rfl rfl)) (QZ rfl rfl rfl (fun _=>(VN rfl rfl)) ?_)))))))))
  refine QZ rfl rfl rfl (fun _=>(Gc rfl rfl)) ?_
  refine Xj rfl rfl rfl (QS rfl rfl rfl YQ (Xi rfl rfl rfl rfl rfl rfl ?_))
  refine QJ hS10 rfl rfl Bt rfl (i:=0) rfl (Xn rfl) ?_
  intro w11 hS11; dsimp only[List.set]at hS11
  clear hS10
  refine Z0 (Xu (by kernel_rfl)) ?_
  refine VC.nil (Qc (Qh [3,1,0,8,9] rfl (Qd ?_)))
  have hS12:=Jg (L:=_) (y:={x1 with rd:=x1.rd ||| (bitA a&&& ~~~x1.wr)}) ht1 hx1 rfl (hS11.pick [0,1,2,3,4,5,6,7,8,9,10,11,12] rfl)
  have hE2:=SE (k:=(ob,a/ 64)) (x:={x1 with rd:=x1.rd ||| (bitA a&&& ~~~x1.wr)}) ht1 hE1
  have hS13:=hS12.drew
  refine QI [0,1,2,3,4,5,6,8,9,7,10,11] [7,10] Wq (by kernel_rfl) ?_
  refine QE rfl rfl rfl (Xj rfl rfl rfl (QS rfl rfl rfl XF (Q8 rfl rfl rfl (Qm rfl Xk (J8 hS13 0 rfl)) (QE rfl rfl rfl (QE rfl rfl rfl (Q8 rfl rfl rfl (XD rfl X8 Xd (by first | exact hS13.blk 2 rfl) (Xn rfl) rfl) ?_))))))
  refine QE rfl rfl rfl (QZ rfl rfl rfl (fun _=>(M4 rfl rfl (by omega) (by omega))) ?_)
  refine Xi rfl rfl rfl rfl rfl rfl ?_
  refine Qv YI rfl (Yr (hS13.sp [0] rfl) hE2 id (ob,a/ 64)) rfl ?_
  rintro _ w14 ⟨rfl,hS14⟩
  replace hS14:=hS14.jn rfl rfl
  clear hS13
  rw[DN h0]
  refine X9 (.skip (by kernel_rfl) (.cons (.inl ⟨rfl,(Qm rfl Xk (J8 hS14 0 rfl))⟩) .nil)) ?_
  refine Xi rfl rfl rfl rfl rfl rfl ?_
  refine Qv qa8 rfl (Oi (hS14.sp [1] rfl) (by omega) x1.own (a%64)) rfl ?_
  rintro _ w15 ⟨rfl,hS15⟩
  replace hS15:=hS15.jn rfl rfl
  clear hS14
  refine X9 (Xu (by kernel_rfl)) ?_
  exact XP rfl rfl rfl (VC.nil (Qc (Qh [8] rfl (Qu (QP (.inr rfl) rfl rfl (⟨_,rfl,L1,V1,t1,x1,hT,rfl,hS15.pick [1,0,3] rfl⟩))))))
 exact absurd (Decidable.not_not.1 h7) h0
end Go.Proofs.YtkcjfoaejijdoaaGreatDoor
