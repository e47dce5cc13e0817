/- leaves: owned -/
import Derived.Test.YtkcjfoaejijdoaaGreatDoorLv2
set_option linter.unusedVariables false
set_option maxRecDepth 100000
set_option maxHeartbeats 80000000000
namespace Go.Proofs.YtkcjfoaejijdoaaGreatDoor
open Go.RowKit M
set_option linter.unusedSectionVars false
variable [Inhabited SlW]
theorem SA {V:VS} {j i:Int}:H3 V j i≠none↔V i≠none:= by
  unfold H3
  cases h:V j with
  | none=> exact Iff.rfl
  | some x=>
    dsimp only
    by_cases e:i=j
    · subst e; rw[Q1,h]; simp
    · rw[QI e]
theorem Ya {V:VS} {j i:Int}:refW V j i≠none↔V i≠none:= by
  unfold refW;split
  · exact Iff.rfl
  · exact SA
def XP (V:VS) (j:Int):Prop:=j=0∨V j≠none
theorem stT_len {w:World} {p n F:Nat} {V:VS} {As:List Th} (h:Sat w (Zq p n F V::As)) {j:Int} {x:Int×Bs} (hx:V j=some x):x.2.length=64:= by
  obtain⟨S,hI,rfl,_,_⟩:=JT h
  unfold vw at hx
  cases hq:S.all j with
  | none=> rw[hq]at hx; cases hx
  | some y=>
    rw[hq]at hx
    have hx2:(y.refs,y.pg)=x:= by simpa using hx
    subst hx2
    exact(hI.ent hq).2.2.2.2.1
theorem Cs {w:World} {p n F:Nat} {V:VS} {As:List Th} (h:Sat w (Zq p n F V::As)) {j:Int} (hj:XP V j):(XT V j).length=64:= by
  unfold XT
  cases hq:V j with
  | none=>
    rcases hj with rfl | hj
    · simp [zer]
    · exact absurd hq hj
  | some x=> exact stT_len h hq
theorem TouR.alive {L L':LvD} {V V':VS} {id:Int} {t t':TrD} {k:KD} {x':LfD} (h:TouR L V id t k L' V' t' x') (ht:L.tr id=some t) (h0:id≠0) (ha:XP V (Xc L id k)):XP V' x'.own:= by
  rcases h with⟨hx,rfl,rfl,rfl⟩ | ⟨_,a,rfl,_,_,rfl⟩
  · have e:Xc L' id k=x'.own:=Uq h0 ht hx
    rwa [e]at ha
  · rcases ha with e | ha
    · exact .inl e
    · exact .inr (Ya.2 (Ya.2 ha))
theorem own0_sp {w:World} {b n Fr:Nat} {L:LvD} {V:VS} {F:Th} (hS:Sat w [ZY b L,Zq L.sp n Fr V,F]) (hn:n≤60000000000) (hE: ∀i,Y3 L.tr Zp i) {k:KD} (hal:XP V (L.pres k)):
    Calls Tryz.prog 44 #[ptrV b 0,intV 0,Xy k] w (Ret fun v w'=> ∃L' V' s e,v= .tuple #[intV s,intV e]∧OwnP L V k Fr L' V' s e∧Sat w' [ZY b L',Zq L'.sp (n+4) Fr V',F]):= by
 refine Qq Tryz.func44 rfl Tryz.ntmps44 rfl ?_
 refine Qd (Qa (XU hS rfl rfl rfl ?_))
 intro kb w1 hS1
 replace hS1:=XM hS1
 refine Qe rfl rfl (Qe rfl rfl (Qf (Qc (Qd (Qa (Qe rfl rfl (Qf (Qc (Qd (Qd (Qa (Qb rfl rfl (X0 rfl rfl rfl (Qf (Qc (Qs rfl (fun h2=> ?_) (fun h2=> ?_)))))))))))))))))
 ·exact absurd rfl h2
 refine Qr (Qc (Qd (Qa (Qb rfl rfl (Qb rfl rfl ?_)))))
 refine XA rfl X9 Xh (by first | exact hS1.blk 0 rfl) (by first | decide | exact Xn rfl | (simp;done) | omega) rfl rfl ?_
 refine Qv YE rfl (Yo (hS1.sp [1] rfl) hE 0 k) rfl ?_
 rintro _ w3 ⟨rfl,hS3⟩
 replace hS3:=hS3.jn rfl rfl
 clear hS1
 rw[show Xc L 0 k=L.pres k from Ye rfl]
 refine Qe rfl rfl (Qf (Qc (Qi [0,5,6,7,8,9] rfl (Qd (Qd ?_)))))
 have hS4:=XX (hS3.pick [0,1,2,3] rfl)
 refine Qa (Qb rfl rfl (X0 rfl rfl rfl (Qb rfl rfl (QN 24 rfl (fun h5=> ?_) (fun h5=> ?_)))))
 ·have hs0:L.pres k≠0:=h5
  refine Qj rfl rfl (QW h5) (Qb rfl rfl (Qj rfl rfl (QW h5) (Qk rfl rfl (Qj rfl rfl (QW h5) (Qg rfl XF rfl (Qj rfl rfl (QW h5) (Qo rfl Xm (hS4.cell 0 rfl rfl) rfl (Qj rfl rfl (QW h5) (Qb rfl rfl (Qj rfl rfl (QW h5) (Qv Bf rfl (GD (hS4.sp [6] rfl) (L.pres k)) rfl ?_)))))))))))
  rintro _ w6 ⟨rfl,hS6⟩
  replace hS6:=hS6.jn rfl rfl
  clear hS4
  refine Qj rfl rfl (QW h5) (QX rfl rfl rfl (QC rfl (QW h5) rfl rfl (Qf (Qc (Qi [0,5,6,7,8,9,32] rfl (Qs rfl (fun h7=> ?_) (fun h7=> ?_)))))))
  ·have hs1:Zz V (L.pres k)=1:=h7
   exact Qd (Qa (Qb rfl rfl (Qe rfl rfl (Qe rfl rfl (Qf (Qc (Qu (Qn (Wx (.inr rfl) rfl rfl rfl (⟨_,rfl,L,V,_,_,rfl,.inl ⟨rfl,rfl,hs0,hs1,rfl,rfl⟩,((X1 (m:=n+4) (by omega) (hS6.pick [0,1,2,3,4,5,7] rfl)).reorder [1,2,3,4,5,0,6] rfl |> fun q=>Xd q)⟩))))))))))
  have hnx: ¬(L.pres k≠0∧Zz V (L.pres k)=1):= fun q=>h7 q.2
  refine Qr (Qc (Qd ?_))
  have hS8:=hS6.drew
  refine QJ [0,1,2,3,4,5,6,7,8,9,10,11,12,13,14,15] [9,10] Wp (by kernel_rfl) ?_
  refine QE rfl rfl rfl (Xl rfl rfl rfl (QT rfl rfl rfl XF (Q9 rfl rfl rfl (Qm rfl Xm (hS8.cell 1 rfl rfl)) (QE rfl rfl rfl (Xl rfl rfl rfl (QT rfl rfl rfl XF (Q9 rfl rfl rfl (Qm rfl Xm (hS8.cell 1 rfl rfl)) (QE rfl rfl rfl (Xj rfl rfl rfl rfl rfl rfl ?_)))))))))
  refine Qv JQ rfl (Y7 (hS8.sp [0] rfl) (L.pres k)) rfl ?_
  rintro _ w9 ⟨rfl,hS9⟩
  replace hS9:=hS9.jn rfl rfl
  clear hS8
  refine X6 (.skip (by kernel_rfl) (.cons (.inl ⟨rfl,(Qm rfl Xm (hS9.cell 1 rfl rfl))⟩) .nil)) ?_
  refine Xj rfl rfl rfl rfl rfl rfl ?_
  have hpg0:=Cs (hS9.pick [0,1,2,3,4,5,6,7] rfl) hal
  refine XY Gl rfl (BM (hS9.sp [0] rfl) (by omega) hpg0) rfl ?_
  rintro e w10 ⟨_,rfl,(⟨rfl,hag,hS10⟩ | ⟨fr,rfl,hf1,hf0,hS10⟩)⟩
  ·refine⟨_,rfl, ?_⟩
   replace hS10:=hS10.jn rfl rfl
   clear hS9
   refine X6 (Xq (by kernel_rfl)) ?_
   refine QE rfl rfl rfl (Wg rfl rfl rfl rfl (Wg rfl rfl rfl rfl (XN rfl rfl rfl (XN rfl rfl rfl (VC.nil (Qc (Qi [0,5,6,7,8,10,11] rfl (Qd (Qd (Qa (Qb rfl rfl (X0 rfl rfl rfl (Qf (Qc (Qs rfl (fun h11=> ?_) (fun h11=> ?_))))))))))))))))
   ·exact Qd (Qa (Qb rfl rfl (Qe rfl rfl (Qe rfl rfl (Qf (Qc (Qu (Qn (Wx (.inr rfl) rfl rfl rfl (⟨_,rfl,L,V,_,_,rfl,.inr (.inl ⟨rfl,rfl,hag,rfl,rfl⟩),((X1 (m:=n+4) (by omega) (hS10.pick [0,1,2,3,4,5,7] rfl)).reorder [1,2,3,4,5,0,6] rfl |> fun q=>Xd q)⟩))))))))))
   exact absurd (by decide) h11
  refine⟨_,rfl, ?_⟩
  replace hS10:=hS10.jn rfl rfl
  clear hS9
  refine X6 (Xq (by kernel_rfl)) ?_
  refine QE rfl rfl rfl (Wg rfl rfl rfl rfl (Wg rfl rfl rfl rfl (XN rfl rfl rfl (XN rfl rfl rfl (VC.nil (Qc (Qi [0,5,6,7,8,10,11] rfl (Qd (Qd (Qa (Qb rfl rfl (X0 rfl rfl rfl (Qf (Qc (Qs rfl (fun h12=> ?_) (fun h12=> ?_))))))))))))))))
  ·exact absurd rfl h12
  refine Qr (Qc (Qd (Qd (Qa (Qb rfl rfl (Yk Tryz.underlying89 rfl rfl rfl (Qf (Qc (Qi [0,5,6,7,8,10,52] rfl (Xr rfl (Qa (Qb rfl rfl ?_))))))))))))
  refine XA rfl X9 Xh (by first | exact hS10.blk 1 rfl | exact hS10.blk 6 rfl) (by first | decide | exact Xn rfl | (simp;done) | omega) rfl rfl ?_
  refine Qb rfl rfl (Qv MH rfl (Oo (hS10.sp [1,2,5,0] rfl) (by omega) k fr) rfl ?_)
  rintro _ w13 ⟨rfl,hS13⟩
  replace hS13:=hS13.jn rfl rfl
  clear hS10
  exact Qf (Qc (Qi [6,7,10] rfl (Qd (Qa (Qb rfl rfl (Qe rfl rfl (Qe rfl rfl (Qf (Qc (Qu (Wx (.inr rfl) rfl rfl rfl (⟨_,rfl,{L with pres:=Zy L.pres k fr,sh:=Y1 (Xz V fr (some (1,XT V (L.pres k)))) L.sh (L.pres k)},_,_,_,rfl,.inr (.inr ⟨rfl,hf1,hf0,hnx,rfl,rfl⟩),((X1 (m:=n+4) (by omega) (hS13.pick [3,0,1,4,5,2,7] rfl)).reorder [1,2,3,4,5,0,6] rfl |> fun q=>Xd (L:={L with pres:=Zy L.pres k fr,sh:=Y1 (Xz V fr (some (1,XT V (L.pres k)))) L.sh (L.pres k)}) q)⟩))))))))))))
 have hnx: ¬(L.pres k≠0∧Zz V (L.pres k)=1):= fun q=>h5 q.1
 refine Qh rfl rfl (Q0 h5) rfl (Qh rfl rfl (Q0 h5) rfl (Qh rfl rfl (Q0 h5) rfl (Qh rfl rfl (Q0 h5) rfl (Qh rfl rfl (Q0 h5) rfl (Qh rfl rfl (Q0 h5) rfl (Qh rfl rfl (Q0 h5) rfl (QG rfl (Q0 h5) rfl rfl (Qf (Qc (Qi [0,5,6,7,8,9,32] rfl (QV rfl (Qr (Qc (Qd ?_))))))))))))))
 have hS14:=hS4.drew
 refine QJ [0,1,2,3,4,5,6,7,8,9,10,11,12,13,14,15] [9,10] Wp (by kernel_rfl) ?_
 refine QE rfl rfl rfl (Xl rfl rfl rfl (QT rfl rfl rfl XF (Q9 rfl rfl rfl (Qm rfl Xm (hS14.cell 0 rfl rfl)) (QE rfl rfl rfl (Xl rfl rfl rfl (QT rfl rfl rfl XF (Q9 rfl rfl rfl (Qm rfl Xm (hS14.cell 0 rfl rfl)) (QE rfl rfl rfl (Xj rfl rfl rfl rfl rfl rfl ?_)))))))))
 refine Qv JQ rfl (Y7 (hS14.sp [6] rfl) (L.pres k)) rfl ?_
 rintro _ w15 ⟨rfl,hS15⟩
 replace hS15:=hS15.jn rfl rfl
 clear hS14
 refine X6 (.skip (by kernel_rfl) (.cons (.inl ⟨rfl,(Qm rfl Xm (hS15.cell 1 rfl rfl))⟩) .nil)) ?_
 refine Xj rfl rfl rfl rfl rfl rfl ?_
 have hpg0:=Cs (hS15.pick [0,1,2,3,4,5,6,7] rfl) hal
 refine XY Gl rfl (BM (hS15.sp [0] rfl) (by omega) hpg0) rfl ?_
 rintro e w16 ⟨_,rfl,(⟨rfl,hag,hS16⟩ | ⟨fr,rfl,hf1,hf0,hS16⟩)⟩
 ·refine⟨_,rfl, ?_⟩
  replace hS16:=hS16.jn rfl rfl
  clear hS15
  refine X6 (Xq (by kernel_rfl)) ?_
  refine QE rfl rfl rfl (Wg rfl rfl rfl rfl (Wg rfl rfl rfl rfl (XN rfl rfl rfl (XN rfl rfl rfl (VC.nil (Qc (Qi [0,5,6,7,8,10,11] rfl (Qd (Qd (Qa (Qb rfl rfl (X0 rfl rfl rfl (Qf (Qc (Qs rfl (fun h17=> ?_) (fun h17=> ?_))))))))))))))))
  ·exact Qd (Qa (Qb rfl rfl (Qe rfl rfl (Qe rfl rfl (Qf (Qc (Qu (Qn (Wx (.inr rfl) rfl rfl rfl (⟨_,rfl,L,V,_,_,rfl,.inr (.inl ⟨rfl,rfl,hag,rfl,rfl⟩),((X1 (m:=n+4) (by omega) (hS16.pick [0,1,2,3,4,5,7] rfl)).reorder [1,2,3,4,5,0,6] rfl |> fun q=>Xd q)⟩))))))))))
  exact absurd (by decide) h17
 refine⟨_,rfl, ?_⟩
 replace hS16:=hS16.jn rfl rfl
 clear hS15
 refine X6 (Xq (by kernel_rfl)) ?_
 refine QE rfl rfl rfl (Wg rfl rfl rfl rfl (Wg rfl rfl rfl rfl (XN rfl rfl rfl (XN rfl rfl rfl (VC.nil (Qc (Qi [0,5,6,7,8,10,11] rfl (Qd (Qd (Qa (Qb rfl rfl (X0 rfl rfl rfl (Qf (Qc (Qs rfl (fun h18=> ?_) (fun h18=> ?_))))))))))))))))
 ·exact absurd rfl h18
 refine Qr (Qc (Qd (Qd (Qa (Qb rfl rfl (Yk Tryz.underlying89 rfl rfl rfl (Qf (Qc (Qi [0,5,6,7,8,10,52] rfl (Xr rfl (Qa (Qb rfl rfl ?_))))))))))))
 refine XA rfl X9 Xh (by first | exact hS16.blk 1 rfl | exact hS16.blk 6 rfl) (by first | decide | exact Xn rfl | (simp;done) | omega) rfl rfl ?_
 refine Qb rfl rfl (Qv MH rfl (Oo (hS16.sp [1,2,5,0] rfl) (by omega) k fr) rfl ?_)
 rintro _ w19 ⟨rfl,hS19⟩
 replace hS19:=hS19.jn rfl rfl
 clear hS16
 exact Qf (Qc (Qi [6,7,10] rfl (Qd (Qa (Qb rfl rfl (Qe rfl rfl (Qe rfl rfl (Qf (Qc (Qu (Wx (.inr rfl) rfl rfl rfl (⟨_,rfl,{L with pres:=Zy L.pres k fr,sh:=Y1 (Xz V fr (some (1,XT V (L.pres k)))) L.sh (L.pres k)},_,_,_,rfl,.inr (.inr ⟨rfl,hf1,hf0,hnx,rfl,rfl⟩),((X1 (m:=n+4) (by omega) (hS19.pick [3,0,1,4,5,2,7] rfl)).reorder [1,2,3,4,5,0,6] rfl |> fun q=>Xd (L:={L with pres:=Zy L.pres k fr,sh:=Y1 (Xz V fr (some (1,XT V (L.pres k)))) L.sh (L.pres k)}) q)⟩))))))))))))
theorem ownT_sp {w:World} {b n Fr:Nat} {L:LvD} {V:VS} {F:Th} (hS:Sat w [ZY b L,Zq L.sp n Fr V,F]) (hn:n≤60000000000) (hE: ∀i,Y3 L.tr Zp i) {id:Int} {t:TrD} (ht:L.tr id=some t) {k:KD} (h0:id≠0) (hal:XP V (Xc L id k)):
    Calls Tryz.prog 44 #[ptrV b 0,intV id,Xy k] w (Ret fun v w'=> ∃L1 V1 t1 x1 L' V' s e,v= .tuple #[intV s,intV e]∧TouR L V id t k L1 V1 t1 x1∧OwnT L1 V1 id t1 k x1 Fr L' V' s e∧Sat w' [ZY b L',Zq L'.sp (n+4) Fr V',F]):= by
 refine Qq Tryz.func44 rfl Tryz.ntmps44 rfl ?_
 refine Qd (Qa (XU hS rfl rfl rfl ?_))
 intro kb w1 hS1
 replace hS1:=XM hS1
 refine Qe rfl rfl (Qe rfl rfl (Qf (Qc (Qd (Qa (Qe rfl rfl (Qf (Qc (Qd (Qd (Qa (Qb rfl rfl (X0 rfl rfl rfl (Qf (Qc (Qs rfl (fun h2=> ?_) (fun h2=> ?_)))))))))))))))))
 ·refine Qa (Qb rfl rfl (Qb rfl rfl ?_))
  refine XA rfl X9 Xh (by first | exact hS1.blk 0 rfl) (by first | decide | exact Xn rfl | (simp;done) | omega) rfl rfl ?_
  refine Qv Bd rfl (Uo (hS1.sp [1,2] rfl) (by omega) hE ht (k:=k)) rfl ?_
  rintro _ w3 ⟨L1,V1,t1,x1,rfl,hT,hS3⟩
  replace hS3:=hS3.jn rfl rfl
  clear hS1
  have ht1:=hT.tr ht
  have hx1:=hT.lv
  have hE1:=hT.ends ht hE
  have hal1:=hT.alive ht h0 hal
  refine Qe rfl rfl (Qf (Qc (Qi [1,0,5,6,7,8] rfl (Qd (Qa (Qb rfl rfl (Qb rfl rfl ?_)))))))
  refine XA rfl X9 Xh (by first | exact hS3.blk 2 rfl) (by first | decide | exact Xn rfl | (simp;done) | omega) rfl rfl ?_
  refine Qv YE rfl (Yo (hS3.sp [0] rfl) hE1 id k) rfl ?_
  rintro _ w4 ⟨rfl,hS4⟩
  replace hS4:=hS4.jn rfl rfl
  clear hS3
  rw[hT.sees ht h0]
  refine Qe rfl rfl (Qf (Qc (Qi [0,5,6,7,8,9] rfl (Qd (Qd ?_)))))
  have hS5:=XX (hS4.pick [0,1,2,3] rfl)
  refine Qa (Qb rfl rfl (X0 rfl rfl rfl (Qb rfl rfl (QN 24 rfl (fun h6=> ?_) (fun h6=> ?_)))))
  ·have hs0:x1.own≠0:=h6
   refine Qj rfl rfl (QW h6) (Qb rfl rfl (Qj rfl rfl (QW h6) (Qk rfl rfl (Qj rfl rfl (QW h6) (Qg rfl XF rfl (Qj rfl rfl (QW h6) (Qo rfl Xm (hS5.cell 0 rfl rfl) rfl (Qj rfl rfl (QW h6) (Qb rfl rfl (Qj rfl rfl (QW h6) (Qv Bf rfl (GD (hS5.sp [5] rfl) x1.own) rfl ?_)))))))))))
   rintro _ w7 ⟨rfl,hS7⟩
   replace hS7:=hS7.jn rfl rfl
   clear hS5
   refine Qj rfl rfl (QW h6) (QX rfl rfl rfl (QC rfl (QW h6) rfl rfl (Qf (Qc (Qi [0,5,6,7,8,9,32] rfl (Qs rfl (fun h8=> ?_) (fun h8=> ?_)))))))
   ·have hs1:Zz V1 x1.own=1:=h8
    exact Qd (Qa (Qb rfl rfl (Qe rfl rfl (Qe rfl rfl (Qf (Qc (Qu (Qn (Wx (.inr rfl) rfl rfl rfl (⟨_,rfl,L1,V1,t1,x1,L1,V1,_,_,rfl,hT,.inl ⟨rfl,rfl,hs0,hs1,rfl,rfl⟩,((X1 (m:=n+4) (by omega) (hS7.pick [0,1,2,3,4,5,7] rfl)).reorder [1,2,3,4,5,0,6] rfl |> fun q=>Xd q)⟩))))))))))
   have hnx: ¬(x1.own≠0∧Zz V1 x1.own=1):= fun q=>h8 q.2
   refine Qr (Qc (Qd ?_))
   have hS9:=hS7.drew
   refine QJ [0,1,2,3,4,5,6,7,8,9,10,11,12,13,14,15] [9,10] Wp (by kernel_rfl) ?_
   refine QE rfl rfl rfl (Xl rfl rfl rfl (QT rfl rfl rfl XF (Q9 rfl rfl rfl (Qm rfl Xm (hS9.cell 1 rfl rfl)) (QE rfl rfl rfl (Xl rfl rfl rfl (QT rfl rfl rfl XF (Q9 rfl rfl rfl (Qm rfl Xm (hS9.cell 1 rfl rfl)) (QE rfl rfl rfl (Xj rfl rfl rfl rfl rfl rfl ?_)))))))))
   refine Qv JQ rfl (Y7 (hS9.sp [0] rfl) x1.own) rfl ?_
   rintro _ w10 ⟨rfl,hS10⟩
   replace hS10:=hS10.jn rfl rfl
   clear hS9
   refine X6 (.skip (by kernel_rfl) (.cons (.inl ⟨rfl,(Qm rfl Xm (hS10.cell 1 rfl rfl))⟩) .nil)) ?_
   refine Xj rfl rfl rfl rfl rfl rfl ?_
   have hpg1:=Cs (hS10.pick [0,1,2,3,4,5,6,7] rfl) hal1
   refine XY Gl rfl (BM (hS10.sp [0] rfl) (by omega) hpg1) rfl ?_
   rintro e w11 ⟨_,rfl,(⟨rfl,hag,hS11⟩ | ⟨fr,rfl,hf1,hf0,hS11⟩)⟩
   ·refine⟨_,rfl, ?_⟩
    replace hS11:=hS11.jn rfl rfl
    clear hS10
    refine X6 (Xq (by kernel_rfl)) ?_
    refine QE rfl rfl rfl (Wg rfl rfl rfl rfl (Wg rfl rfl rfl rfl (XN rfl rfl rfl (XN rfl rfl rfl (VC.nil (Qc (Qi [0,5,6,7,8,10,11] rfl (Qd (Qd (Qa (Qb rfl rfl (X0 rfl rfl rfl (Qf (Qc (Qs rfl (fun h12=> ?_) (fun h12=> ?_))))))))))))))))
    ·exact Qd (Qa (Qb rfl rfl (Qe rfl rfl (Qe rfl rfl (Qf (Qc (Qu (Qn (Wx (.inr rfl) rfl rfl rfl (⟨_,rfl,L1,V1,t1,x1,L1,V1,_,_,rfl,hT,.inr (.inl ⟨rfl,rfl,hag,rfl,rfl⟩),((X1 (m:=n+4) (by omega) (hS11.pick [0,1,2,3,4,5,7] rfl)).reorder [1,2,3,4,5,0,6] rfl |> fun q=>Xd q)⟩))))))))))
    exact absurd (by decide) h12
   refine⟨_,rfl, ?_⟩
   replace hS11:=hS11.jn rfl rfl
   clear hS10
   refine X6 (Xq (by kernel_rfl)) ?_
   refine QE rfl rfl rfl (Wg rfl rfl rfl rfl (Wg rfl rfl rfl rfl (XN rfl rfl rfl (XN rfl rfl rfl (VC.nil (Qc (Qi [0,5,6,7,8,10,11] rfl (Qd (Qd (Qa (Qb rfl rfl (X0 rfl rfl rfl (Qf (Qc (Qs rfl (fun h13=> ?_) (fun h13=> ?_))))))))))))))))
   ·exact absurd rfl h13
   refine Qr (Qc (Qd (Qd (Qa (Qb rfl rfl (ZJ Tryz.underlying89 rfl rfl rfl (Qf (Qc (Qi [0,5,6,7,8,10,52] rfl (QV rfl (Qd ?_)))))))))))
   have hS14:=Xd (L:=L1) (hS11.pick [1,2,3,4,5,0,6,7] rfl)
   have hS15:=Yu ht1 hx1 (hS14.pick [0,1,2,3] rfl)
   refine Qa (Qb rfl rfl (Qb rfl rfl (Qk rfl rfl (Qg rfl Jt rfl (Qo rfl QO (hS15.cell 0 rfl rfl) rfl (Qv UX rfl (UF (hS15.sp [6,9,10] rfl) (by omega) x1.own) rfl ?_))))))
   rintro _ w16 ⟨rfl,hS16⟩
   replace hS16:=hS16.jn rfl rfl
   clear hS15
   refine Qf (Qc (Qi [6,7,8,10] rfl (Qa (Qb rfl rfl (Qb rfl rfl (Qk rfl rfl (Qg rfl Jt rfl (QL hS16 rfl rfl Ug rfl (i:=3) rfl (Xn rfl) ?_))))))))
   intro w17 hS17; dsimp only[List.set]at hS17
   clear hS16
   refine Qf (Qc (Qd (Qa (Qb rfl rfl (Qe rfl rfl (Qe rfl rfl (Qf (Qc (Qu (Wx (.inr rfl) rfl rfl rfl ?_))))))))))
   have hS18:=Jb (L:={L1 with sh:=Y1 (Xz V1 fr (some (1,XT V1 x1.own))) L1.sh x1.own}) (y:={x1 with own:=fr}) ht1 hx1 rfl (hS17.pick [3,4,5,6,7,8,0,9,10,1,2,11,12] rfl)
   exact⟨_,rfl,L1,V1,t1,x1,Zs ({L1 with sh:=Y1 (Xz V1 fr (some (1,XT V1 x1.own))) L1.sh x1.own}) id t1 k {x1 with own:=fr},_,_,_,rfl,hT,.inr (.inr ⟨rfl,hf1,hf0,hnx,rfl,rfl⟩),(X1 (m:=n+4) (by omega) (hS18.pick [1,0,3] rfl)).reorder [1,0,2] rfl⟩
  have hnx: ¬(x1.own≠0∧Zz V1 x1.own=1):= fun q=>h6 q.1
  refine Qh rfl rfl (Q0 h6) rfl (Qh rfl rfl (Q0 h6) rfl (Qh rfl rfl (Q0 h6) rfl (Qh rfl rfl (Q0 h6) rfl (Qh rfl rfl (Q0 h6) rfl (Qh rfl rfl (Q0 h6) rfl (Qh rfl rfl (Q0 h6) rfl (QG rfl (Q0 h6) rfl rfl (Qf (Qc (Qi [0,5,6,7,8,9,32] rfl (QV rfl (Qr (Qc (Qd ?_))))))))))))))
  have hS19:=hS5.drew
  refine QJ [0,1,2,3,4,5,6,7,8,9,10,11,12,13,14,15] [9,10] Wp (by kernel_rfl) ?_
  refine QE rfl rfl rfl (Xl rfl rfl rfl (QT rfl rfl rfl XF (Q9 rfl rfl rfl (Qm rfl Xm (hS19.cell 0 rfl rfl)) (QE rfl rfl rfl (Xl rfl rfl rfl (QT rfl rfl rfl XF (Q9 rfl rfl rfl (Qm rfl Xm (hS19.cell 0 rfl rfl)) (QE rfl rfl rfl (Xj rfl rfl rfl rfl rfl rfl ?_)))))))))
  refine Qv JQ rfl (Y7 (hS19.sp [5] rfl) x1.own) rfl ?_
  rintro _ w20 ⟨rfl,hS20⟩
  replace hS20:=hS20.jn rfl rfl
  clear hS19
  refine X6 (.skip (by kernel_rfl) (.cons (.inl ⟨rfl,(Qm rfl Xm (hS20.cell 1 rfl rfl))⟩) .nil)) ?_
  refine Xj rfl rfl rfl rfl rfl rfl ?_
  have hpg1:=Cs (hS20.pick [0,1,2,3,4,5,6,7] rfl) hal1
  refine XY Gl rfl (BM (hS20.sp [0] rfl) (by omega) hpg1) rfl ?_
  rintro e w21 ⟨_,rfl,(⟨rfl,hag,hS21⟩ | ⟨fr,rfl,hf1,hf0,hS21⟩)⟩
  ·refine⟨_,rfl, ?_⟩
   replace hS21:=hS21.jn rfl rfl
   clear hS20
   refine X6 (Xq (by kernel_rfl)) ?_
   refine QE rfl rfl rfl (Wg rfl rfl rfl rfl (Wg rfl rfl rfl rfl (XN rfl rfl rfl (XN rfl rfl rfl (VC.nil (Qc (Qi [0,5,6,7,8,10,11] rfl (Qd (Qd (Qa (Qb rfl rfl (X0 rfl rfl rfl (Qf (Qc (Qs rfl (fun h22=> ?_) (fun h22=> ?_))))))))))))))))
   ·exact Qd (Qa (Qb rfl rfl (Qe rfl rfl (Qe rfl rfl (Qf (Qc (Qu (Qn (Wx (.inr rfl) rfl rfl rfl (⟨_,rfl,L1,V1,t1,x1,L1,V1,_,_,rfl,hT,.inr (.inl ⟨rfl,rfl,hag,rfl,rfl⟩),((X1 (m:=n+4) (by omega) (hS21.pick [0,1,2,3,4,5,7] rfl)).reorder [1,2,3,4,5,0,6] rfl |> fun q=>Xd q)⟩))))))))))
   exact absurd (by decide) h22
  refine⟨_,rfl, ?_⟩
  replace hS21:=hS21.jn rfl rfl
  clear hS20
  refine X6 (Xq (by kernel_rfl)) ?_
  refine QE rfl rfl rfl (Wg rfl rfl rfl rfl (Wg rfl rfl rfl rfl (XN rfl rfl rfl (XN rfl rfl rfl (VC.nil (Qc (Qi [0,5,6,7,8,10,11] rfl (Qd (Qd (Qa (Qb rfl rfl (X0 rfl rfl rfl (Qf (Qc (Qs rfl (fun h23=> ?_) (fun h23=> ?_))))))))))))))))
  ·exact absurd rfl h23
  refine Qr (Qc (Qd (Qd (Qa (Qb rfl rfl (ZJ Tryz.underlying89 rfl rfl rfl (Qf (Qc (Qi [0,5,6,7,8,10,52] rfl (QV rfl (Qd ?_)))))))))))
  have hS24:=Xd (L:=L1) (hS21.pick [1,2,3,4,5,0,6,7] rfl)
  have hS25:=Yu ht1 hx1 (hS24.pick [0,1,2,3] rfl)
  refine Qa (Qb rfl rfl (Qb rfl rfl (Qk rfl rfl (Qg rfl Jt rfl (Qo rfl QO (hS25.cell 0 rfl rfl) rfl (Qv UX rfl (UF (hS25.sp [6,9,10] rfl) (by omega) x1.own) rfl ?_))))))
  rintro _ w26 ⟨rfl,hS26⟩
  replace hS26:=hS26.jn rfl rfl
  clear hS25
  refine Qf (Qc (Qi [6,7,8,10] rfl (Qa (Qb rfl rfl (Qb rfl rfl (Qk rfl rfl (Qg rfl Jt rfl (QL hS26 rfl rfl Ug rfl (i:=3) rfl (Xn rfl) ?_))))))))
  intro w27 hS27; dsimp only[List.set]at hS27
  clear hS26
  refine Qf (Qc (Qd (Qa (Qb rfl rfl (Qe rfl rfl (Qe rfl rfl (Qf (Qc (Qu (Wx (.inr rfl) rfl rfl rfl ?_))))))))))
  have hS28:=Jb (L:={L1 with sh:=Y1 (Xz V1 fr (some (1,XT V1 x1.own))) L1.sh x1.own}) (y:={x1 with own:=fr}) ht1 hx1 rfl (hS27.pick [3,4,5,6,7,8,0,9,10,1,2,11,12] rfl)
  exact⟨_,rfl,L1,V1,t1,x1,Zs ({L1 with sh:=Y1 (Xz V1 fr (some (1,XT V1 x1.own))) L1.sh x1.own}) id t1 k {x1 with own:=fr},_,_,_,rfl,hT,.inr (.inr ⟨rfl,hf1,hf0,hnx,rfl,rfl⟩),(X1 (m:=n+4) (by omega) (hS28.pick [1,0,3] rfl)).reorder [1,0,2] rfl⟩
 exact absurd (Decidable.not_not.1 h2) h0
end Go.Proofs.YtkcjfoaejijdoaaGreatDoor
namespace Go.Proofs.YtkcjfoaejijdoaaGreatDoor
open Go.RowKit M
set_option linter.unusedSectionVars false
variable [Inhabited SlW]
theorem J4 {w:World} {As:List Th} {b:Nat} {L:LvD} (hS:Sat w As) (i:Nat) (hi:As[i]? =some (ZY b L)):w.cell? ⟨b,0,none⟩=some (ptrV L.sp 0):=(XX (hS.pull i hi)).cell 0 rfl rfl
theorem Kl {ob:Bs} {a:Int} (h:0≤a∧a<16384):V6 ob a= .tuple #[Xy (ob,a/ 64),Zu (1#64<<<(a%64).toNat),.bool true]:= by unfold V6; rw[if_pos h]
theorem Ma {ob:Bs} {a:Int} (h: ¬(0≤a∧a<16384)):V6 ob a= .tuple #[Xy ([],0),Zu 0#64,.bool false]:= by unfold V6; rw[if_neg h]
def bitA (a:Int):BitVec 64:=1#64<<<(a%64).toNat
theorem DQ {L:LvD} {id:Int} {t:TrD} {k:KD} {x:LfD} (h0:id≠0):Xc (Zs L id t k x) id k=x.own:=Uq h0 DP Q1
theorem OwnT.leaf {L L':LvD} {V V':VS} {id:Int} {t:TrD} {k:KD} {x:LfD} {Fr:Nat} {s e:Int} (h:OwnT L V id t k x Fr L' V' s e) (ht:L.tr id=some t) (hx:t.lv k=some x): ∃t' x',L'.tr id=some t'∧t'.lv k=some x'∧x'.wr=x.wr∧x'.rd=x.rd∧x'.base=x.base∧(e=0→x'.own=s):= by
  rcases h with⟨_,h2,_,_,rfl,_⟩ | ⟨h1,_,_,rfl,_⟩ | ⟨_,_,_,_,_,rfl⟩
  · exact⟨t,x,ht,hx,rfl,rfl,rfl, fun _=>h2.symm⟩
  · exact⟨t,x,ht,hx,rfl,rfl,rfl, fun q=> by omega⟩
  · exact⟨_,_,DP,Q1,rfl,rfl,rfl, fun _=>rfl⟩
theorem OwnT.sp {L L':LvD} {V V':VS} {id:Int} {t:TrD} {k:KD} {x:LfD} {Fr:Nat} {s e:Int} (h:OwnT L V id t k x Fr L' V' s e):L'.sp=L.sp:= by
  rcases h with⟨_,h2,_,_,rfl,_⟩ | ⟨h1,_,_,rfl,_⟩ | ⟨_,_,_,_,_,rfl⟩<;>rfl
theorem Sb {w:World} {b n Fr:Nat} {L:LvD} {V:VS} {F:Th} (hS:Sat w [ZY b L,Zq L.sp n Fr V,F]) (hn:n≤60000000000) (ob:Bs) (a:Int) (id:Int) (hr: ¬(0≤a∧a<16384)):
    Calls Tryz.prog 12 #[ptrV b 0,intV id,strV ob,intV a] w (Ret fun v w'=>v=XS 0∧Sat w' [ZY b L,Zq L.sp n Fr V,F]):= by
 refine Qq Tryz.func12 rfl Tryz.ntmps12 rfl ?_
 refine Qd (Qa (Qe rfl rfl (Qf (Qc (Qd (Qa (Qb rfl rfl (Qb rfl rfl (Qv Be rfl (Uv (hS.sp [] rfl) ob a) rfl ?_)))))))))
 rintro _ w1 ⟨rfl,hS1⟩
 replace hS1:=hS1.jn rfl rfl
 rw[Ma hr]
 refine Qb rfl rfl (Qt rfl rfl rfl (Qt rfl rfl rfl (Qt rfl rfl rfl (Xg hS1 ZM rfl rfl ?_))))
 intro kb w2 hS2
 clear hS1
 refine QY hS2 rfl rfl Xh rfl (by rfl) (i:=0) rfl (by decide) ?_
 intro w3 hS3; dsimp only[List.set]at hS3
 clear hS2
 replace hS3:=XM (k:=([],0)) hS3
 refine Qe rfl rfl (Qe rfl rfl (Qf (Qc (Qi [3,1,0,8,9,10,11] rfl (Qd (Qd (Qa (Qb rfl rfl (QR rfl rfl (Qb rfl rfl (Zh 22 rfl (fun h4=> ?_) (fun h4=> ?_))))))))))))
 ·exact Qh rfl rfl h4 rfl (Qh rfl rfl h4 rfl (Qh rfl rfl h4 rfl (Qh rfl rfl h4 rfl (QC rfl h4 rfl rfl (Qf (Qc (Qi [3,1,0,8,9,10,27] rfl (Xr rfl (Qd (Qa (Qe rfl rfl (Qf (Qc (Qu (Qn (QQ (.inr rfl) rfl rfl (⟨_,rfl,rfl,hS3.pick [1,2,3] rfl⟩)))))))))))))))))
 exact absurd h4 (by decide)
theorem qa1 {w:World} {b n Fr:Nat} {L:LvD} {V:VS} {F:Th} (hS:Sat w [ZY b L,Zq L.sp n Fr V,F]) (hn:n≤60000000000) (ob:Bs) (a:Int) (hE: ∀i,Y3 L.tr Zp i) (hr:0≤a∧a<16384):
    Calls Tryz.prog 12 #[ptrV b 0,intV 0,strV ob,intV a] w (Ret fun v w'=>v=XS (btV V (L.pres (ob,a/ 64)) (a%64))∧Sat w' [ZY b L,Zq L.sp n Fr V,F]):= by
 refine Qq Tryz.func12 rfl Tryz.ntmps12 rfl ?_
 refine Qd (Qa (Qe rfl rfl (Qf (Qc (Qd (Qa (Qb rfl rfl (Qb rfl rfl (Qv Be rfl (Uv (hS.sp [] rfl) ob a) rfl ?_)))))))))
 rintro _ w1 ⟨rfl,hS1⟩
 replace hS1:=hS1.jn rfl rfl
 rw[Kl hr]
 refine Qb rfl rfl (Qt rfl rfl rfl (Qt rfl rfl rfl (Qt rfl rfl rfl (Xg hS1 ZM rfl rfl ?_))))
 intro kb w2 hS2
 clear hS1
 refine QY hS2 rfl rfl Xh rfl (by rfl) (i:=0) rfl (by decide) ?_
 intro w3 hS3; dsimp only[List.set]at hS3
 clear hS2
 replace hS3:=XM (k:=(ob,a/ 64)) hS3
 refine Qe rfl rfl (Qe rfl rfl (Qf (Qc (Qi [3,1,0,8,9,10,11] rfl (Qd (Qd (Qa (Qb rfl rfl (QR rfl rfl (Qb rfl rfl (Zh 22 rfl (fun h4=> ?_) (fun h4=> ?_))))))))))))
 ·exact absurd h4 (by decide)
 refine Qj rfl rfl h4 (Qb rfl rfl (Qj rfl rfl h4 (Qb rfl rfl (Qj rfl rfl h4 (Qv Hd rfl (Jd (hS3.sp [1] rfl) 0) rfl ?_)))))
 rintro _ w5 ⟨rfl,hS5⟩
 replace hS5:=hS5.jn rfl rfl
 clear hS3
 refine Qj rfl rfl h4 (QR rfl rfl (QG rfl h4 rfl rfl (Qf (Qc (Qi [3,1,0,8,9,10,27] rfl (QM rfl (fun h6=> ?_) (fun h6=> ?_)))))))
 ·exact absurd h6 (by simp [Z8])
 refine Qr (Qc (Qd (Qd (Qa (Qb rfl rfl (X0 rfl rfl rfl (Qf (Qc (Qs rfl (fun h7=> ?_) (fun h7=> ?_))))))))))
 ·exact absurd rfl h7
 refine Qr (Qc (Qd ?_))
 have hS8:=hS5.drew
 refine QJ [0,1,2,3,4,5,6,8,9,7,10,11] [7,10] Wp (by kernel_rfl) ?_
 refine QE rfl rfl rfl (Xl rfl rfl rfl (QT rfl rfl rfl XF (Q9 rfl rfl rfl (Qm rfl Xm (J4 hS8 0 rfl)) (QE rfl rfl rfl (QE rfl rfl rfl (Q9 rfl rfl rfl (XE rfl X9 Xh (by first | exact hS8.blk 1 rfl) (Xn rfl) rfl) ?_))))))
 refine QE rfl rfl rfl (QU rfl rfl rfl (fun _=>(M5 rfl rfl (by omega) (by omega))) ?_)
 refine Xj rfl rfl rfl rfl rfl rfl ?_
 refine Qv YE rfl (Yo (hS8.sp [0] rfl) hE 0 (ob,a/ 64)) rfl ?_
 rintro _ w9 ⟨rfl,hS9⟩
 replace hS9:=hS9.jn rfl rfl
 clear hS8
 rw[show Xc L 0 (ob,a/ 64)=L.pres (ob,a/ 64) from Ye rfl]
 refine X6 (.skip (by kernel_rfl) (.cons (.inl ⟨rfl,(Qm rfl Xm (J4 hS9 0 rfl))⟩) .nil)) ?_
 refine Xj rfl rfl rfl rfl rfl rfl ?_
 refine Qv qaw rfl (Oe (hS9.sp [2] rfl) (by omega) (L.pres (ob,a/ 64)) (a%64)) rfl ?_
 rintro _ w10 ⟨rfl,hS10⟩
 replace hS10:=hS10.jn rfl rfl
 clear hS9
 refine X6 (Xq (by kernel_rfl)) ?_
 exact XN rfl rfl rfl (VC.nil (Qc (Qi [8] rfl (Qu (QQ (.inr rfl) rfl rfl (⟨_,rfl,rfl,hS10.pick [1,0,3] rfl⟩))))))
theorem qa0 {w:World} {b n Fr:Nat} {L:LvD} {V:VS} {F:Th} (hS:Sat w [ZY b L,Zq L.sp n Fr V,F]) (hn:n≤60000000000) (hE: ∀i,Y3 L.tr Zp i) {id:Int} {t:TrD} (ht:L.tr id=some t) (h0:id≠0) (ob:Bs) (a:Int) (hr:0≤a∧a<16384):
    Calls Tryz.prog 12 #[ptrV b 0,intV id,strV ob,intV a] w (Ret fun v w'=> ∃L1 V1 t1 x1,TouR L V id t (ob,a/ 64) L1 V1 t1 x1∧v=XS (btV V1 x1.own (a%64))∧Sat w' [ZY b (Zs L1 id t1 (ob,a/ 64) {x1 with rd:=x1.rd ||| (bitA a&&& ~~~x1.wr)}),Zq L1.sp (n+2) Fr V1,F]):= by
 refine Qq Tryz.func12 rfl Tryz.ntmps12 rfl ?_
 refine Qd (Qa (Qe rfl rfl (Qf (Qc (Qd (Qa (Qb rfl rfl (Qb rfl rfl (Qv Be rfl (Uv (hS.sp [] rfl) ob a) rfl ?_)))))))))
 rintro _ w1 ⟨rfl,hS1⟩
 replace hS1:=hS1.jn rfl rfl
 rw[Kl hr]
 refine Qb rfl rfl (Qt rfl rfl rfl (Qt rfl rfl rfl (Qt rfl rfl rfl (Xg hS1 ZM rfl rfl ?_))))
 intro kb w2 hS2
 clear hS1
 refine QY hS2 rfl rfl Xh rfl (by rfl) (i:=0) rfl (by decide) ?_
 intro w3 hS3; dsimp only[List.set]at hS3
 clear hS2
 replace hS3:=XM (k:=(ob,a/ 64)) hS3
 refine Qe rfl rfl (Qe rfl rfl (Qf (Qc (Qi [3,1,0,8,9,10,11] rfl (Qd (Qd (Qa (Qb rfl rfl (QR rfl rfl (Qb rfl rfl (Zh 22 rfl (fun h4=> ?_) (fun h4=> ?_))))))))))))
 ·exact absurd h4 (by decide)
 refine Qj rfl rfl h4 (Qb rfl rfl (Qj rfl rfl h4 (Qb rfl rfl (Qj rfl rfl h4 (Qv Hd rfl (Jd (hS3.sp [1] rfl) id) rfl ?_)))))
 rintro _ w5 ⟨rfl,hS5⟩
 replace hS5:=hS5.jn rfl rfl
 clear hS3
 refine Qj rfl rfl h4 (QR rfl rfl (QG rfl h4 rfl rfl (Qf (Qc (Qi [3,1,0,8,9,10,27] rfl (QM rfl (fun h6=> ?_) (fun h6=> ?_)))))))
 ·exact absurd h6 (by simp [Z8,ht])
 refine Qr (Qc (Qd (Qd (Qa (Qb rfl rfl (X0 rfl rfl rfl (Qf (Qc (Qs rfl (fun h7=> ?_) (fun h7=> ?_))))))))))
 ·refine Qd (Qa (Qb rfl rfl (Qb rfl rfl ?_)))
  refine XA rfl X9 Xh (by first | exact hS5.blk 1 rfl) (by first | decide | exact Xn rfl | (simp;done) | omega) rfl rfl ?_
  refine Qv Bd rfl (Uo (hS5.sp [0,2] rfl) (by omega) hE ht (k:=(ob,a/ 64))) rfl ?_
  rintro _ w8 ⟨L1,V1,t1,x1,rfl,hT,hS8⟩
  replace hS8:=hS8.jn rfl rfl
  clear hS5
  have ht1:=hT.tr ht
  have hx1:=hT.lv
  have hE1:=hT.ends ht hE
  refine Qe rfl rfl (Qf (Qc (Qi [3,1,0,8,9,10,12] rfl ?_)))
  have hS9:=Yu ht1 hx1 (hS8.pick [0,1,2,3] rfl)
  have hS10:=hS9.drew
  refine QJ [0,1,2,3,4,5,6,7,8,9,10,11,12,13] [13] Wp (by kernel_rfl) ?_
  refine QE rfl rfl rfl (Xl rfl rfl rfl (QT rfl rfl rfl YN (Q9 rfl rfl rfl (Qm rfl Y0 (hS10.cell 0 rfl rfl)) (QE rfl rfl rfl (QE rfl rfl rfl (Xl rfl rfl rfl (QT rfl rfl rfl W8 (Q9 rfl rfl rfl (Qm rfl Y0 (hS10.cell 0 rfl rfl)) (QU rfl rfl rfl (fun _=>(VF rfl rfl)) ?_)))))))))
  refine QU rfl rfl rfl (fun _=>(Gb rfl rfl)) ?_
  refine Xl rfl rfl rfl (QT rfl rfl rfl YN (Xj rfl rfl rfl rfl rfl rfl ?_))
  refine QL hS10 rfl rfl Br rfl (i:=0) rfl (Xn rfl) ?_
  intro w11 hS11; dsimp only[List.set]at hS11
  clear hS10
  refine Zx (Xq (by kernel_rfl)) ?_
  refine VC.nil (Qc (Qi [3,1,0,8,9] rfl (Qd ?_)))
  have hS12:=Jb (L:=_) (y:={x1 with rd:=x1.rd ||| (bitA a&&& ~~~x1.wr)}) ht1 hx1 rfl (hS11.pick [0,1,2,3,4,5,6,7,8,9,10,11,12] rfl)
  have hE2:=S8 (k:=(ob,a/ 64)) (x:={x1 with rd:=x1.rd ||| (bitA a&&& ~~~x1.wr)}) ht1 hE1
  have hS13:=hS12.drew
  refine QJ [0,1,2,3,4,5,6,8,9,7,10,11] [7,10] Wp (by kernel_rfl) ?_
  refine QE rfl rfl rfl (Xl rfl rfl rfl (QT rfl rfl rfl XF (Q9 rfl rfl rfl (Qm rfl Xm (J4 hS13 0 rfl)) (QE rfl rfl rfl (QE rfl rfl rfl (Q9 rfl rfl rfl (XE rfl X9 Xh (by first | exact hS13.blk 2 rfl) (Xn rfl) rfl) ?_))))))
  refine QE rfl rfl rfl (QU rfl rfl rfl (fun _=>(M5 rfl rfl (by omega) (by omega))) ?_)
  refine Xj rfl rfl rfl rfl rfl rfl ?_
  refine Qv YE rfl (Yo (hS13.sp [0] rfl) hE2 id (ob,a/ 64)) rfl ?_
  rintro _ w14 ⟨rfl,hS14⟩
  replace hS14:=hS14.jn rfl rfl
  clear hS13
  rw[DQ h0]
  refine X6 (.skip (by kernel_rfl) (.cons (.inl ⟨rfl,(Qm rfl Xm (J4 hS14 0 rfl))⟩) .nil)) ?_
  refine Xj rfl rfl rfl rfl rfl rfl ?_
  refine Qv qaw rfl (Oe (hS14.sp [1] rfl) (by omega) x1.own (a%64)) rfl ?_
  rintro _ w15 ⟨rfl,hS15⟩
  replace hS15:=hS15.jn rfl rfl
  clear hS14
  refine X6 (Xq (by kernel_rfl)) ?_
  exact XN rfl rfl rfl (VC.nil (Qc (Qi [8] rfl (Qu (QQ (.inr rfl) rfl rfl (⟨_,rfl,L1,V1,t1,x1,hT,rfl,hS15.pick [1,0,3] rfl⟩))))))
 exact absurd (Decidable.not_not.1 h7) h0
end Go.Proofs.YtkcjfoaejijdoaaGreatDoor
