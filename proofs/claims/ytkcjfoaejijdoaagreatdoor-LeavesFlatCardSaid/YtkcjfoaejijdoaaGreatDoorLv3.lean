/- leaves: owned -/
import Derived.Test.YtkcjfoaejijdoaaGreatDoorLv2
set_option linter.unusedVariables false
set_option maxRecDepth 100000
set_option maxHeartbeats 800000000
namespace Go.Proofs.YtkcjfoaejijdoaaGreatDoor
open Go.RowKit M
theorem SA {V:VS} {j i:Int}:H7 V j i≠none↔V i≠none:= by
  unfold H7
  cases h:V j with
  | none=> exact Iff.rfl
  | some x=>
    dsimp only
    by_cases e:i=j
    · subst e; rw[Q7,h]; simp
    · rw[QN e]
theorem Yc {V:VS} {j i:Int}:refW V j i≠none↔V i≠none:= by
  unfold refW;split
  · exact Iff.rfl
  · exact SA
def XW (V:VS) (j:Int):Prop:=j=0∨V j≠none
theorem stT_len {w:World} {p n F:Nat} {V:VS} {As:List Th} (h:Sat w (Zw p n F V::As)) {j:Int} {x:Int×Bs} (hx:V j=some x):x.2.length=64:= by
  obtain⟨S,hI,rfl,_,_⟩:=JW h
  unfold vw at hx
  cases hq:S.all j with
  | none=> rw[hq]at hx; cases hx
  | some y=>
    rw[hq]at hx
    have hx2:(y.refs,y.pg)=x:= by simpa using hx
    subst hx2
    exact(hI.ent hq).2.2.2.2.1
theorem Cs {w:World} {p n F:Nat} {V:VS} {As:List Th} (h:Sat w (Zw p n F V::As)) {j:Int} (hj:XW V j):(Za V j).length=64:= by
  unfold Za
  cases hq:V j with
  | none=>
    rcases hj with rfl | hj
    · simp [zer]
    · exact absurd hq hj
  | some x=> exact stT_len h hq
theorem TouR.alive {L L':LvD} {V V':VS} {id:Int} {t t':TrD} {k:KD} {x':LfD} (h:TouR L V id t k L' V' t' x') (ht:L.tr id=some t) (h0:id≠0) (ha:XW V (Xi L id k)):XW V' x'.own:= by
  rcases h with⟨hx,rfl,rfl,rfl⟩ | ⟨_,a,rfl,_,_,rfl⟩
  · have e:Xi L' id k=x'.own:=Us h0 ht hx
    rwa [e]at ha
  · rcases ha with e | ha
    · exact .inl e
    · exact .inr (Yc.2 (Yc.2 ha))
theorem own0_sp {w:World} {b n Fr:Nat} {L:LvD} {V:VS} {F:Th} (hS:Sat w [We b L,Zw L.sp n Fr V,F]) (hn:n≤600000000) (hE: ∀i,Y5 L.tr Zv i) {k:KD} (hal:XW V (L.pres k)):
    Calls Tryz.prog 44 #[ptrV b 0,intV 0,X4 k] w (Ret fun v w'=> ∃L' V' s e,v= .tuple #[intV s,intV e]∧OwnP L V k Fr L' V' s e∧Sat w' [We b L',Zw L'.sp (n+4) Fr V',F]):= by
 refine Qr Tryz.func44 rfl Tryz.ntmps44 rfl ?_
 refine Qd (Qa (Zb hS rfl rfl rfl ?_))
 intro kb w1 hS1
 replace hS1:=XT hS1
 refine Qe rfl rfl (Qe rfl rfl (Qf (Qc (Qd (Qa (Qe rfl rfl (Qf (Qc (Qd (Qd (Qa (Qb rfl rfl (X6 rfl rfl rfl (Qf (Qc (Qt rfl (fun h2=> ?_) (fun h2=> ?_)))))))))))))))))
 ·exact absurd rfl h2
 refine Qs (Qc (Qd (Qa (Qb rfl rfl (Qb rfl rfl (XF rfl XE Xn (by first | exact hS1.blk 0 rfl) (XJ rfl) rfl rfl ?_))))))
 refine qac YG rfl (Yq (hS1.sp [1] rfl) hE 0 k) rfl ?_
 rintro _ w3 ⟨rfl,hS3⟩
 replace hS3:=hS3.jn rfl rfl
 clear hS1
 rw[show Xi L 0 k=L.pres k from Yg rfl]
 refine Qe rfl rfl (Qf (Qc (Qi [0,5,6,7,8,9] rfl (Qd (Qd ?_)))))
 have hS4:=Ze (hS3.pick [0,1,2,3] rfl)
 refine Qa (Qb rfl rfl (X6 rfl rfl rfl (Qb rfl rfl (QR 24 rfl (fun h5=> ?_) (fun h5=> ?_)))))
 ·have hs0:L.pres k≠0:=h5
  refine Qj rfl rfl (Xc h5) (Qb rfl rfl (Qj rfl rfl (Xc h5) (Qk rfl rfl (Qj rfl rfl (Xc h5) (Qg rfl XM rfl (Qj rfl rfl (Xc h5) (Qp rfl Xu (hS4.cell 0 rfl rfl) rfl (Qj rfl rfl (Xc h5) (Qb rfl rfl (Qj rfl rfl (Xc h5) (qac Bg rfl (GE (hS4.sp [6] rfl) (L.pres k)) rfl ?_)))))))))))
  rintro _ w6 ⟨rfl,hS6⟩
  replace hS6:=hS6.jn rfl rfl
  clear hS4
  refine Qj rfl rfl (Xc h5) (Xd rfl rfl rfl (QI rfl (Xc h5) rfl rfl (Qf (Qc (Qi [0,5,6,7,8,9,32] rfl (Qt rfl (fun h7=> ?_) (fun h7=> ?_)))))))
  ·have hs1:Z5 V (L.pres k)=1:=h7
   exact Qd (Qa (Qb rfl rfl (Qe rfl rfl (Qe rfl rfl (Qf (Qc (Qw (Qo (W5 (.inr rfl) rfl rfl rfl (⟨_,rfl,L,V,_,_,rfl,.inl ⟨rfl,rfl,hs0,hs1,rfl,rfl⟩,((X7 (m:=n+4) (by omega) (hS6.pick [0,1,2,3,4,5,7] rfl)).reorder [1,2,3,4,5,0,6] rfl |> fun q=>Xj q)⟩))))))))))
  have hnx: ¬(L.pres k≠0∧Z5 V (L.pres k)=1):= fun q=>h7 q.2
  refine Qs (Qc (Qd ?_))
  have hS8:=hS6.drew
  refine QO [0,1,2,3,4,5,6,7,8,9,10,11,12,13,14,15] [9,10] Wu (by kernel_rfl) ?_
  refine QJ rfl rfl rfl (Xr rfl rfl rfl (QZ rfl rfl rfl XM (QH rfl rfl rfl (Qn rfl Xu (hS8.cell 1 rfl rfl)) (QJ rfl rfl rfl (Xr rfl rfl rfl (QZ rfl rfl rfl XM (QH rfl rfl rfl (Qn rfl Xu (hS8.cell 1 rfl rfl)) (QJ rfl rfl rfl (Xp rfl rfl rfl rfl rfl rfl (qac JU rfl (Y9 (hS8.sp [0] rfl) (L.pres k)) rfl ?_))))))))))
  rintro _ w9 ⟨rfl,hS9⟩
  replace hS9:=hS9.jn rfl rfl
  clear hS8
  refine XB (.skip (by kernel_rfl) (.cons (.inl ⟨rfl,(Qn rfl Xu (hS9.cell 1 rfl rfl))⟩) .nil)) ?_
  refine Xp rfl rfl rfl rfl rfl rfl ?_
  have hpg0:=Cs (hS9.pick [0,1,2,3,4,5,6,7] rfl) hal
  refine Ql Gm rfl (BO (hS9.sp [0] rfl) (by omega) hpg0) rfl ?_
  rintro e w10 ⟨_,rfl,(⟨rfl,hag,hS10⟩ | ⟨fr,rfl,hf1,hf0,hS10⟩)⟩
  ·refine⟨_,rfl, ?_⟩
   replace hS10:=hS10.jn rfl rfl
   clear hS9
   refine XB (Xx (by kernel_rfl)) ?_
   refine QJ rfl rfl rfl (Wm rfl rfl rfl rfl (Wm rfl rfl rfl rfl (XU rfl rfl rfl (XU rfl rfl rfl (VC.nil (Qc (Qi [0,5,6,7,8,10,11] rfl (Qd (Qd (Qa (Qb rfl rfl (X6 rfl rfl rfl (Qf (Qc (Qt rfl (fun h11=> ?_) (fun h11=> ?_))))))))))))))))
   ·exact Qd (Qa (Qb rfl rfl (Qe rfl rfl (Qe rfl rfl (Qf (Qc (Qw (Qo (W5 (.inr rfl) rfl rfl rfl (⟨_,rfl,L,V,_,_,rfl,.inr (.inl ⟨rfl,rfl,hag,rfl,rfl⟩),((X7 (m:=n+4) (by omega) (hS10.pick [0,1,2,3,4,5,7] rfl)).reorder [1,2,3,4,5,0,6] rfl |> fun q=>Xj q)⟩))))))))))
   exact absurd (by decide) h11
  refine⟨_,rfl, ?_⟩
  replace hS10:=hS10.jn rfl rfl
  clear hS9
  refine XB (Xx (by kernel_rfl)) ?_
  refine QJ rfl rfl rfl (Wm rfl rfl rfl rfl (Wm rfl rfl rfl rfl (XU rfl rfl rfl (XU rfl rfl rfl (VC.nil (Qc (Qi [0,5,6,7,8,10,11] rfl (Qd (Qd (Qa (Qb rfl rfl (X6 rfl rfl rfl (Qf (Qc (Qt rfl (fun h12=> ?_) (fun h12=> ?_))))))))))))))))
  ·exact absurd rfl h12
  refine Qs (Qc (Qd (Qd (Qa (Qb rfl rfl (Ym Tryz.underlying89 rfl rfl rfl (Qf (Qc (Qi [0,5,6,7,8,10,52] rfl (Xy rfl (Qa (Qb rfl rfl (XF rfl XE Xn (hS10.blk 6 rfl) (XJ rfl) rfl rfl (Qb rfl rfl (qac MH rfl (On (hS10.sp [1,2,5,0] rfl) (by omega) k fr) rfl ?_)))))))))))))))
  rintro _ w13 ⟨rfl,hS13⟩
  replace hS13:=hS13.jn rfl rfl
  clear hS10
  exact Qf (Qc (Qi [6,7,10] rfl (Qd (Qa (Qb rfl rfl (Qe rfl rfl (Qe rfl rfl (Qf (Qc (Qw (W5 (.inr rfl) rfl rfl rfl (⟨_,rfl,{L with pres:=Z4 L.pres k fr,sh:=Y3 (X5 V fr (some (1,Za V (L.pres k)))) L.sh (L.pres k)},_,_,_,rfl,.inr (.inr ⟨rfl,hf1,hf0,hnx,rfl,rfl⟩),((X7 (m:=n+4) (by omega) (hS13.pick [3,0,1,4,5,2,7] rfl)).reorder [1,2,3,4,5,0,6] rfl |> fun q=>Xj (L:={L with pres:=Z4 L.pres k fr,sh:=Y3 (X5 V fr (some (1,Za V (L.pres k)))) L.sh (L.pres k)}) q)⟩))))))))))))
 have hnx: ¬(L.pres k≠0∧Z5 V (L.pres k)=1):= fun q=>h5 q.1
 refine Qh rfl rfl (Q6 h5) rfl (Qh rfl rfl (Q6 h5) rfl (Qh rfl rfl (Q6 h5) rfl (Qh rfl rfl (Q6 h5) rfl (Qh rfl rfl (Q6 h5) rfl (Qh rfl rfl (Q6 h5) rfl (Qh rfl rfl (Q6 h5) rfl (QL rfl (Q6 h5) rfl rfl (Qf (Qc (Qi [0,5,6,7,8,9,32] rfl (Xb rfl (Qs (Qc (Qd ?_))))))))))))))
 have hS14:=hS4.drew
 refine QO [0,1,2,3,4,5,6,7,8,9,10,11,12,13,14,15] [9,10] Wu (by kernel_rfl) ?_
 refine QJ rfl rfl rfl (Xr rfl rfl rfl (QZ rfl rfl rfl XM (QH rfl rfl rfl (Qn rfl Xu (hS14.cell 0 rfl rfl)) (QJ rfl rfl rfl (Xr rfl rfl rfl (QZ rfl rfl rfl XM (QH rfl rfl rfl (Qn rfl Xu (hS14.cell 0 rfl rfl)) (QJ rfl rfl rfl (Xp rfl rfl rfl rfl rfl rfl (qac JU rfl (Y9 (hS14.sp [6] rfl) (L.pres k)) rfl ?_))))))))))
 rintro _ w15 ⟨rfl,hS15⟩
 replace hS15:=hS15.jn rfl rfl
 clear hS14
 refine XB (.skip (by kernel_rfl) (.cons (.inl ⟨rfl,(Qn rfl Xu (hS15.cell 1 rfl rfl))⟩) .nil)) ?_
 refine Xp rfl rfl rfl rfl rfl rfl ?_
 have hpg0:=Cs (hS15.pick [0,1,2,3,4,5,6,7] rfl) hal
 refine Ql Gm rfl (BO (hS15.sp [0] rfl) (by omega) hpg0) rfl ?_
 rintro e w16 ⟨_,rfl,(⟨rfl,hag,hS16⟩ | ⟨fr,rfl,hf1,hf0,hS16⟩)⟩
 ·refine⟨_,rfl, ?_⟩
  replace hS16:=hS16.jn rfl rfl
  clear hS15
  refine XB (Xx (by kernel_rfl)) ?_
  refine QJ rfl rfl rfl (Wm rfl rfl rfl rfl (Wm rfl rfl rfl rfl (XU rfl rfl rfl (XU rfl rfl rfl (VC.nil (Qc (Qi [0,5,6,7,8,10,11] rfl (Qd (Qd (Qa (Qb rfl rfl (X6 rfl rfl rfl (Qf (Qc (Qt rfl (fun h17=> ?_) (fun h17=> ?_))))))))))))))))
  ·exact Qd (Qa (Qb rfl rfl (Qe rfl rfl (Qe rfl rfl (Qf (Qc (Qw (Qo (W5 (.inr rfl) rfl rfl rfl (⟨_,rfl,L,V,_,_,rfl,.inr (.inl ⟨rfl,rfl,hag,rfl,rfl⟩),((X7 (m:=n+4) (by omega) (hS16.pick [0,1,2,3,4,5,7] rfl)).reorder [1,2,3,4,5,0,6] rfl |> fun q=>Xj q)⟩))))))))))
  exact absurd (by decide) h17
 refine⟨_,rfl, ?_⟩
 replace hS16:=hS16.jn rfl rfl
 clear hS15
 refine XB (Xx (by kernel_rfl)) ?_
 refine QJ rfl rfl rfl (Wm rfl rfl rfl rfl (Wm rfl rfl rfl rfl (XU rfl rfl rfl (XU rfl rfl rfl (VC.nil (Qc (Qi [0,5,6,7,8,10,11] rfl (Qd (Qd (Qa (Qb rfl rfl (X6 rfl rfl rfl (Qf (Qc (Qt rfl (fun h18=> ?_) (fun h18=> ?_))))))))))))))))
 ·exact absurd rfl h18
 refine Qs (Qc (Qd (Qd (Qa (Qb rfl rfl (Ym Tryz.underlying89 rfl rfl rfl (Qf (Qc (Qi [0,5,6,7,8,10,52] rfl (Xy rfl (Qa (Qb rfl rfl (XF rfl XE Xn (hS16.blk 6 rfl) (XJ rfl) rfl rfl (Qb rfl rfl (qac MH rfl (On (hS16.sp [1,2,5,0] rfl) (by omega) k fr) rfl ?_)))))))))))))))
 rintro _ w19 ⟨rfl,hS19⟩
 replace hS19:=hS19.jn rfl rfl
 clear hS16
 exact Qf (Qc (Qi [6,7,10] rfl (Qd (Qa (Qb rfl rfl (Qe rfl rfl (Qe rfl rfl (Qf (Qc (Qw (W5 (.inr rfl) rfl rfl rfl (⟨_,rfl,{L with pres:=Z4 L.pres k fr,sh:=Y3 (X5 V fr (some (1,Za V (L.pres k)))) L.sh (L.pres k)},_,_,_,rfl,.inr (.inr ⟨rfl,hf1,hf0,hnx,rfl,rfl⟩),((X7 (m:=n+4) (by omega) (hS19.pick [3,0,1,4,5,2,7] rfl)).reorder [1,2,3,4,5,0,6] rfl |> fun q=>Xj (L:={L with pres:=Z4 L.pres k fr,sh:=Y3 (X5 V fr (some (1,Za V (L.pres k)))) L.sh (L.pres k)}) q)⟩))))))))))))
theorem ownT_sp {w:World} {b n Fr:Nat} {L:LvD} {V:VS} {F:Th} (hS:Sat w [We b L,Zw L.sp n Fr V,F]) (hn:n≤600000000) (hE: ∀i,Y5 L.tr Zv i) {id:Int} {t:TrD} (ht:L.tr id=some t) {k:KD} (h0:id≠0) (hal:XW V (Xi L id k)):
    Calls Tryz.prog 44 #[ptrV b 0,intV id,X4 k] w (Ret fun v w'=> ∃L1 V1 t1 x1 L' V' s e,v= .tuple #[intV s,intV e]∧TouR L V id t k L1 V1 t1 x1∧OwnT L1 V1 id t1 k x1 Fr L' V' s e∧Sat w' [We b L',Zw L'.sp (n+4) Fr V',F]):= by
 refine Qr Tryz.func44 rfl Tryz.ntmps44 rfl ?_
 refine Qd (Qa (Zb hS rfl rfl rfl ?_))
 intro kb w1 hS1
 replace hS1:=XT hS1
 refine Qe rfl rfl (Qe rfl rfl (Qf (Qc (Qd (Qa (Qe rfl rfl (Qf (Qc (Qd (Qd (Qa (Qb rfl rfl (X6 rfl rfl rfl (Qf (Qc (Qt rfl (fun h2=> ?_) (fun h2=> ?_)))))))))))))))))
 ·refine Qa (Qb rfl rfl (Qb rfl rfl (XF rfl XE Xn (by first | exact hS1.blk 0 rfl) (XJ rfl) rfl rfl ?_)))
  refine qac Be rfl (Up (hS1.sp [1,2] rfl) (by omega) hE ht (k:=k)) rfl ?_
  rintro _ w3 ⟨L1,V1,t1,x1,rfl,hT,hS3⟩
  replace hS3:=hS3.jn rfl rfl
  clear hS1
  have ht1:=hT.tr ht
  have hx1:=hT.lv
  have hE1:=hT.ends ht hE
  have hal1:=hT.alive ht h0 hal
  refine Qe rfl rfl (Qf (Qc (Qi [1,0,5,6,7,8] rfl (Qd (Qa (Qb rfl rfl (Qb rfl rfl (XF rfl XE Xn (by first | exact hS3.blk 2 rfl) (XJ rfl) rfl rfl ?_))))))))
  refine qac YG rfl (Yq (hS3.sp [0] rfl) hE1 id k) rfl ?_
  rintro _ w4 ⟨rfl,hS4⟩
  replace hS4:=hS4.jn rfl rfl
  clear hS3
  rw[hT.sees ht h0]
  refine Qe rfl rfl (Qf (Qc (Qi [0,5,6,7,8,9] rfl (Qd (Qd ?_)))))
  have hS5:=Ze (hS4.pick [0,1,2,3] rfl)
  refine Qa (Qb rfl rfl (X6 rfl rfl rfl (Qb rfl rfl (QR 24 rfl (fun h6=> ?_) (fun h6=> ?_)))))
  ·have hs0:x1.own≠0:=h6
   refine Qj rfl rfl (Xc h6) (Qb rfl rfl (Qj rfl rfl (Xc h6) (Qk rfl rfl (Qj rfl rfl (Xc h6) (Qg rfl XM rfl (Qj rfl rfl (Xc h6) (Qp rfl Xu (hS5.cell 0 rfl rfl) rfl (Qj rfl rfl (Xc h6) (Qb rfl rfl (Qj rfl rfl (Xc h6) (qac Bg rfl (GE (hS5.sp [5] rfl) x1.own) rfl ?_)))))))))))
   rintro _ w7 ⟨rfl,hS7⟩
   replace hS7:=hS7.jn rfl rfl
   clear hS5
   refine Qj rfl rfl (Xc h6) (Xd rfl rfl rfl (QI rfl (Xc h6) rfl rfl (Qf (Qc (Qi [0,5,6,7,8,9,32] rfl (Qt rfl (fun h8=> ?_) (fun h8=> ?_)))))))
   ·have hs1:Z5 V1 x1.own=1:=h8
    exact Qd (Qa (Qb rfl rfl (Qe rfl rfl (Qe rfl rfl (Qf (Qc (Qw (Qo (W5 (.inr rfl) rfl rfl rfl (⟨_,rfl,L1,V1,t1,x1,L1,V1,_,_,rfl,hT,.inl ⟨rfl,rfl,hs0,hs1,rfl,rfl⟩,((X7 (m:=n+4) (by omega) (hS7.pick [0,1,2,3,4,5,7] rfl)).reorder [1,2,3,4,5,0,6] rfl |> fun q=>Xj q)⟩))))))))))
   have hnx: ¬(x1.own≠0∧Z5 V1 x1.own=1):= fun q=>h8 q.2
   refine Qs (Qc (Qd ?_))
   have hS9:=hS7.drew
   refine QO [0,1,2,3,4,5,6,7,8,9,10,11,12,13,14,15] [9,10] Wu (by kernel_rfl) ?_
   refine QJ rfl rfl rfl (Xr rfl rfl rfl (QZ rfl rfl rfl XM (QH rfl rfl rfl (Qn rfl Xu (hS9.cell 1 rfl rfl)) (QJ rfl rfl rfl (Xr rfl rfl rfl (QZ rfl rfl rfl XM (QH rfl rfl rfl (Qn rfl Xu (hS9.cell 1 rfl rfl)) (QJ rfl rfl rfl (Xp rfl rfl rfl rfl rfl rfl (qac JU rfl (Y9 (hS9.sp [0] rfl) x1.own) rfl ?_))))))))))
   rintro _ w10 ⟨rfl,hS10⟩
   replace hS10:=hS10.jn rfl rfl
   clear hS9
   refine XB (.skip (by kernel_rfl) (.cons (.inl ⟨rfl,(Qn rfl Xu (hS10.cell 1 rfl rfl))⟩) .nil)) ?_
   refine Xp rfl rfl rfl rfl rfl rfl ?_
   have hpg1:=Cs (hS10.pick [0,1,2,3,4,5,6,7] rfl) hal1
   refine Ql Gm rfl (BO (hS10.sp [0] rfl) (by omega) hpg1) rfl ?_
   rintro e w11 ⟨_,rfl,(⟨rfl,hag,hS11⟩ | ⟨fr,rfl,hf1,hf0,hS11⟩)⟩
   ·refine⟨_,rfl, ?_⟩
    replace hS11:=hS11.jn rfl rfl
    clear hS10
    refine XB (Xx (by kernel_rfl)) ?_
    refine QJ rfl rfl rfl (Wm rfl rfl rfl rfl (Wm rfl rfl rfl rfl (XU rfl rfl rfl (XU rfl rfl rfl (VC.nil (Qc (Qi [0,5,6,7,8,10,11] rfl (Qd (Qd (Qa (Qb rfl rfl (X6 rfl rfl rfl (Qf (Qc (Qt rfl (fun h12=> ?_) (fun h12=> ?_))))))))))))))))
    ·exact Qd (Qa (Qb rfl rfl (Qe rfl rfl (Qe rfl rfl (Qf (Qc (Qw (Qo (W5 (.inr rfl) rfl rfl rfl (⟨_,rfl,L1,V1,t1,x1,L1,V1,_,_,rfl,hT,.inr (.inl ⟨rfl,rfl,hag,rfl,rfl⟩),((X7 (m:=n+4) (by omega) (hS11.pick [0,1,2,3,4,5,7] rfl)).reorder [1,2,3,4,5,0,6] rfl |> fun q=>Xj q)⟩))))))))))
    exact absurd (by decide) h12
   refine⟨_,rfl, ?_⟩
   replace hS11:=hS11.jn rfl rfl
   clear hS10
   refine XB (Xx (by kernel_rfl)) ?_
   refine QJ rfl rfl rfl (Wm rfl rfl rfl rfl (Wm rfl rfl rfl rfl (XU rfl rfl rfl (XU rfl rfl rfl (VC.nil (Qc (Qi [0,5,6,7,8,10,11] rfl (Qd (Qd (Qa (Qb rfl rfl (X6 rfl rfl rfl (Qf (Qc (Qt rfl (fun h13=> ?_) (fun h13=> ?_))))))))))))))))
   ·exact absurd rfl h13
   refine Qs (Qc (Qd (Qd (Qa (Qb rfl rfl (ZP Tryz.underlying89 rfl rfl rfl (Qf (Qc (Qi [0,5,6,7,8,10,52] rfl (Xb rfl (Qd ?_)))))))))))
   have hS14:=Xj (L:=L1) (hS11.pick [1,2,3,4,5,0,6,7] rfl)
   have hS15:=Yw ht1 hx1 (hS14.pick [0,1,2,3] rfl)
   refine Qa (Qb rfl rfl (Qb rfl rfl (Qk rfl rfl (Qg rfl Jy rfl (Qp rfl QS (hS15.cell 0 rfl rfl) rfl (qac UY rfl (UH (hS15.sp [6,9,10] rfl) (by omega) x1.own) rfl ?_))))))
   rintro _ w16 ⟨rfl,hS16⟩
   replace hS16:=hS16.jn rfl rfl
   clear hS15
   refine Qf (Qc (Qi [6,7,8,10] rfl (Qa (Qb rfl rfl (Qb rfl rfl (Qk rfl rfl (Qg rfl Jy rfl (Xt hS16 rfl rfl Uq rfl (i:=3) rfl (XJ rfl) ?_))))))))
   intro w17 hS17; dsimp only[List.set]at hS17
   clear hS16
   refine Qf (Qc (Qd (Qa (Qb rfl rfl (Qe rfl rfl (Qe rfl rfl (Qf (Qc (Qw (W5 (.inr rfl) rfl rfl rfl ?_))))))))))
   have hS18:=Jf (L:={L1 with sh:=Y3 (X5 V1 fr (some (1,Za V1 x1.own))) L1.sh x1.own}) (y:={x1 with own:=fr}) ht1 hx1 rfl (hS17.pick [3,4,5,6,7,8,0,9,10,1,2,11,12] rfl)
   exact⟨_,rfl,L1,V1,t1,x1,Zy ({L1 with sh:=Y3 (X5 V1 fr (some (1,Za V1 x1.own))) L1.sh x1.own}) id t1 k {x1 with own:=fr},_,_,_,rfl,hT,.inr (.inr ⟨rfl,hf1,hf0,hnx,rfl,rfl⟩),(X7 (m:=n+4) (by omega) (hS18.pick [1,0,3] rfl)).reorder [1,0,2] rfl⟩
  have hnx: ¬(x1.own≠0∧Z5 V1 x1.own=1):= fun q=>h6 q.1
  refine Qh rfl rfl (Q6 h6) rfl (Qh rfl rfl (Q6 h6) rfl (Qh rfl rfl (Q6 h6) rfl (Qh rfl rfl (Q6 h6) rfl (Qh rfl rfl (Q6 h6) rfl (Qh rfl rfl (Q6 h6) rfl (Qh rfl rfl (Q6 h6) rfl (QL rfl (Q6 h6) rfl rfl (Qf (Qc (Qi [0,5,6,7,8,9,32] rfl (Xb rfl (Qs (Qc (Qd ?_))))))))))))))
  have hS19:=hS5.drew
  refine QO [0,1,2,3,4,5,6,7,8,9,10,11,12,13,14,15] [9,10] Wu (by kernel_rfl) ?_
  refine QJ rfl rfl rfl (Xr rfl rfl rfl (QZ rfl rfl rfl XM (QH rfl rfl rfl (Qn rfl Xu (hS19.cell 0 rfl rfl)) (QJ rfl rfl rfl (Xr rfl rfl rfl (QZ rfl rfl rfl XM (QH rfl rfl rfl (Qn rfl Xu (hS19.cell 0 rfl rfl)) (QJ rfl rfl rfl (Xp rfl rfl rfl rfl rfl rfl (qac JU rfl (Y9 (hS19.sp [5] rfl) x1.own) rfl ?_))))))))))
  rintro _ w20 ⟨rfl,hS20⟩
  replace hS20:=hS20.jn rfl rfl
  clear hS19
  refine XB (.skip (by kernel_rfl) (.cons (.inl ⟨rfl,(Qn rfl Xu (hS20.cell 1 rfl rfl))⟩) .nil)) ?_
  refine Xp rfl rfl rfl rfl rfl rfl ?_
  have hpg1:=Cs (hS20.pick [0,1,2,3,4,5,6,7] rfl) hal1
  refine Ql Gm rfl (BO (hS20.sp [0] rfl) (by omega) hpg1) rfl ?_
  rintro e w21 ⟨_,rfl,(⟨rfl,hag,hS21⟩ | ⟨fr,rfl,hf1,hf0,hS21⟩)⟩
  ·refine⟨_,rfl, ?_⟩
   replace hS21:=hS21.jn rfl rfl
   clear hS20
   refine XB (Xx (by kernel_rfl)) ?_
   refine QJ rfl rfl rfl (Wm rfl rfl rfl rfl (Wm rfl rfl rfl rfl (XU rfl rfl rfl (XU rfl rfl rfl (VC.nil (Qc (Qi [0,5,6,7,8,10,11] rfl (Qd (Qd (Qa (Qb rfl rfl (X6 rfl rfl rfl (Qf (Qc (Qt rfl (fun h22=> ?_) (fun h22=> ?_))))))))))))))))
   ·exact Qd (Qa (Qb rfl rfl (Qe rfl rfl (Qe rfl rfl (Qf (Qc (Qw (Qo (W5 (.inr rfl) rfl rfl rfl (⟨_,rfl,L1,V1,t1,x1,L1,V1,_,_,rfl,hT,.inr (.inl ⟨rfl,rfl,hag,rfl,rfl⟩),((X7 (m:=n+4) (by omega) (hS21.pick [0,1,2,3,4,5,7] rfl)).reorder [1,2,3,4,5,0,6] rfl |> fun q=>Xj q)⟩))))))))))
   exact absurd (by decide) h22
  refine⟨_,rfl, ?_⟩
  replace hS21:=hS21.jn rfl rfl
  clear hS20
  refine XB (Xx (by kernel_rfl)) ?_
  refine QJ rfl rfl rfl (Wm rfl rfl rfl rfl (Wm rfl rfl rfl rfl (XU rfl rfl rfl (XU rfl rfl rfl (VC.nil (Qc (Qi [0,5,6,7,8,10,11] rfl (Qd (Qd (Qa (Qb rfl rfl (X6 rfl rfl rfl (Qf (Qc (Qt rfl (fun h23=> ?_) (fun h23=> ?_))))))))))))))))
  ·exact absurd rfl h23
  refine Qs (Qc (Qd (Qd (Qa (Qb rfl rfl (ZP Tryz.underlying89 rfl rfl rfl (Qf (Qc (Qi [0,5,6,7,8,10,52] rfl (Xb rfl (Qd ?_)))))))))))
  have hS24:=Xj (L:=L1) (hS21.pick [1,2,3,4,5,0,6,7] rfl)
  have hS25:=Yw ht1 hx1 (hS24.pick [0,1,2,3] rfl)
  refine Qa (Qb rfl rfl (Qb rfl rfl (Qk rfl rfl (Qg rfl Jy rfl (Qp rfl QS (hS25.cell 0 rfl rfl) rfl (qac UY rfl (UH (hS25.sp [6,9,10] rfl) (by omega) x1.own) rfl ?_))))))
  rintro _ w26 ⟨rfl,hS26⟩
  replace hS26:=hS26.jn rfl rfl
  clear hS25
  refine Qf (Qc (Qi [6,7,8,10] rfl (Qa (Qb rfl rfl (Qb rfl rfl (Qk rfl rfl (Qg rfl Jy rfl (Xt hS26 rfl rfl Uq rfl (i:=3) rfl (XJ rfl) ?_))))))))
  intro w27 hS27; dsimp only[List.set]at hS27
  clear hS26
  refine Qf (Qc (Qd (Qa (Qb rfl rfl (Qe rfl rfl (Qe rfl rfl (Qf (Qc (Qw (W5 (.inr rfl) rfl rfl rfl ?_))))))))))
  have hS28:=Jf (L:={L1 with sh:=Y3 (X5 V1 fr (some (1,Za V1 x1.own))) L1.sh x1.own}) (y:={x1 with own:=fr}) ht1 hx1 rfl (hS27.pick [3,4,5,6,7,8,0,9,10,1,2,11,12] rfl)
  exact⟨_,rfl,L1,V1,t1,x1,Zy ({L1 with sh:=Y3 (X5 V1 fr (some (1,Za V1 x1.own))) L1.sh x1.own}) id t1 k {x1 with own:=fr},_,_,_,rfl,hT,.inr (.inr ⟨rfl,hf1,hf0,hnx,rfl,rfl⟩),(X7 (m:=n+4) (by omega) (hS28.pick [1,0,3] rfl)).reorder [1,0,2] rfl⟩
 exact absurd (Decidable.not_not.1 h2) h0
theorem J9 {w:World} {As:List Th} {b:Nat} {L:LvD} (hS:Sat w As) (i:Nat) (hi:As[i]? =some (We b L)):w.cell? ⟨b,0,none⟩=some (ptrV L.sp 0):=(Ze (hS.pull i hi)).cell 0 rfl rfl
theorem Km {ob:Bs} {a:Int} (h:0≤a∧a<16384):V7 ob a= .tuple #[X4 (ob,a/ 64),Z0 (1#64<<<(a%64).toNat),.bool true]:= by unfold V7; rw[if_pos h]
theorem Ma {ob:Bs} {a:Int} (h: ¬(0≤a∧a<16384)):V7 ob a= .tuple #[X4 ([],0),Z0 0#64,.bool false]:= by unfold V7; rw[if_neg h]
def bitA (a:Int):BitVec 64:=1#64<<<(a%64).toNat
theorem DQ {L:LvD} {id:Int} {t:TrD} {k:KD} {x:LfD} (h0:id≠0):Xi (Zy L id t k x) id k=x.own:=Us h0 DP Q7
theorem OwnT.leaf {L L':LvD} {V V':VS} {id:Int} {t:TrD} {k:KD} {x:LfD} {Fr:Nat} {s e:Int} (h:OwnT L V id t k x Fr L' V' s e) (ht:L.tr id=some t) (hx:t.lv k=some x): ∃t' x',L'.tr id=some t'∧t'.lv k=some x'∧x'.wr=x.wr∧x'.rd=x.rd∧x'.base=x.base∧(e=0→x'.own=s):= by
  rcases h with⟨_,h2,_,_,rfl,_⟩ | ⟨h1,_,_,rfl,_⟩ | ⟨_,_,_,_,_,rfl⟩
  · exact⟨t,x,ht,hx,rfl,rfl,rfl, fun _=>h2.symm⟩
  · exact⟨t,x,ht,hx,rfl,rfl,rfl, fun q=> by omega⟩
  · exact⟨_,_,DP,Q7,rfl,rfl,rfl, fun _=>rfl⟩
theorem OwnT.sp {L L':LvD} {V V':VS} {id:Int} {t:TrD} {k:KD} {x:LfD} {Fr:Nat} {s e:Int} (h:OwnT L V id t k x Fr L' V' s e):L'.sp=L.sp:= by
  rcases h with⟨_,h2,_,_,rfl,_⟩ | ⟨h1,_,_,rfl,_⟩ | ⟨_,_,_,_,_,rfl⟩<;>rfl
theorem Sb {w:World} {b n Fr:Nat} {L:LvD} {V:VS} {F:Th} (hS:Sat w [We b L,Zw L.sp n Fr V,F]) (hn:n≤600000000) (ob:Bs) (a:Int) (id:Int) (hr: ¬(0≤a∧a<16384)):
    Calls Tryz.prog 12 #[ptrV b 0,intV id,strV ob,intV a] w (Ret fun v w'=>v=XZ 0∧Sat w' [We b L,Zw L.sp n Fr V,F]):= by
 refine Qr Tryz.func12 rfl Tryz.ntmps12 rfl ?_
 refine Qd (Qa (Qe rfl rfl (Qf (Qc (Qd (Qa (Qb rfl rfl (Qb rfl rfl (qac Bf rfl (Ux (hS.sp [] rfl) ob a) rfl ?_)))))))))
 rintro _ w1 ⟨rfl,hS1⟩
 replace hS1:=hS1.jn rfl rfl
 rw[Ma hr]
 refine Qb rfl rfl (Qu rfl rfl rfl (Qu rfl rfl rfl (Qu rfl rfl rfl (Xm hS1 ZS rfl rfl ?_))))
 intro kb w2 hS2
 clear hS1
 refine Xe hS2 rfl rfl Xn rfl (by rfl) (i:=0) rfl (by decide) ?_
 intro w3 hS3; dsimp only[List.set]at hS3
 clear hS2
 replace hS3:=XT (k:=([],0)) hS3
 refine Qe rfl rfl (Qe rfl rfl (Qf (Qc (Qi [3,1,0,8,9,10,11] rfl (Qd (Qd (Qa (Qb rfl rfl (QX rfl rfl (Qb rfl rfl (Zn 22 rfl (fun h4=> ?_) (fun h4=> ?_))))))))))))
 ·exact Qh rfl rfl h4 rfl (Qh rfl rfl h4 rfl (Qh rfl rfl h4 rfl (Qh rfl rfl h4 rfl (QI rfl h4 rfl rfl (Qf (Qc (Qi [3,1,0,8,9,10,27] rfl (Xy rfl (Qd (Qa (Qe rfl rfl (Qf (Qc (Qw (Qo (QW (.inr rfl) rfl rfl (⟨_,rfl,rfl,hS3.pick [1,2,3] rfl⟩)))))))))))))))))
 exact absurd h4 (by decide)
theorem qaz {w:World} {b n Fr:Nat} {L:LvD} {V:VS} {F:Th} (hS:Sat w [We b L,Zw L.sp n Fr V,F]) (hn:n≤600000000) (ob:Bs) (a:Int) (hE: ∀i,Y5 L.tr Zv i) (hr:0≤a∧a<16384):
    Calls Tryz.prog 12 #[ptrV b 0,intV 0,strV ob,intV a] w (Ret fun v w'=>v=XZ (btV V (L.pres (ob,a/ 64)) (a%64))∧Sat w' [We b L,Zw L.sp n Fr V,F]):= by
 refine Qr Tryz.func12 rfl Tryz.ntmps12 rfl ?_
 refine Qd (Qa (Qe rfl rfl (Qf (Qc (Qd (Qa (Qb rfl rfl (Qb rfl rfl (qac Bf rfl (Ux (hS.sp [] rfl) ob a) rfl ?_)))))))))
 rintro _ w1 ⟨rfl,hS1⟩
 replace hS1:=hS1.jn rfl rfl
 rw[Km hr]
 refine Qb rfl rfl (Qu rfl rfl rfl (Qu rfl rfl rfl (Qu rfl rfl rfl (Xm hS1 ZS rfl rfl ?_))))
 intro kb w2 hS2
 clear hS1
 refine Xe hS2 rfl rfl Xn rfl (by rfl) (i:=0) rfl (by decide) ?_
 intro w3 hS3; dsimp only[List.set]at hS3
 clear hS2
 replace hS3:=XT (k:=(ob,a/ 64)) hS3
 refine Qe rfl rfl (Qe rfl rfl (Qf (Qc (Qi [3,1,0,8,9,10,11] rfl (Qd (Qd (Qa (Qb rfl rfl (QX rfl rfl (Qb rfl rfl (Zn 22 rfl (fun h4=> ?_) (fun h4=> ?_))))))))))))
 ·exact absurd h4 (by decide)
 refine Qj rfl rfl h4 (Qb rfl rfl (Qj rfl rfl h4 (Qb rfl rfl (Qj rfl rfl h4 (qac Hf rfl (Jh (hS3.sp [1] rfl) 0) rfl ?_)))))
 rintro _ w5 ⟨rfl,hS5⟩
 replace hS5:=hS5.jn rfl rfl
 clear hS3
 refine Qj rfl rfl h4 (QX rfl rfl (QL rfl h4 rfl rfl (Qf (Qc (Qi [3,1,0,8,9,10,27] rfl (QQ rfl (fun h6=> ?_) (fun h6=> ?_)))))))
 ·exact absurd h6 (by simp [ZE])
 refine Qs (Qc (Qd (Qd (Qa (Qb rfl rfl (X6 rfl rfl rfl (Qf (Qc (Qt rfl (fun h7=> ?_) (fun h7=> ?_))))))))))
 ·exact absurd rfl h7
 refine Qs (Qc (Qd ?_))
 have hS8:=hS5.drew
 refine QO [0,1,2,3,4,5,6,8,9,7,10,11] [7,10] Wu (by kernel_rfl) ?_
 refine QJ rfl rfl rfl (Xr rfl rfl rfl (QZ rfl rfl rfl XM (QH rfl rfl rfl (Qn rfl Xu (J9 hS8 0 rfl)) (QJ rfl rfl rfl (QJ rfl rfl rfl (QH rfl rfl rfl (XK rfl XE Xn (by first | exact hS8.blk 1 rfl) (XJ rfl) rfl) ?_))))))
 refine QJ rfl rfl rfl (Xa rfl rfl rfl (fun _=>(M5 rfl rfl (by omega) (by omega))) ?_)
 refine Xp rfl rfl rfl rfl rfl rfl (qac YG rfl (Yq (hS8.sp [0] rfl) hE 0 (ob,a/ 64)) rfl ?_)
 rintro _ w9 ⟨rfl,hS9⟩
 replace hS9:=hS9.jn rfl rfl
 clear hS8
 rw[show Xi L 0 (ob,a/ 64)=L.pres (ob,a/ 64) from Yg rfl]
 refine XB (.skip (by kernel_rfl) (.cons (.inl ⟨rfl,(Qn rfl Xu (J9 hS9 0 rfl))⟩) .nil)) ?_
 refine Xp rfl rfl rfl rfl rfl rfl (qac qau rfl (Od (hS9.sp [2] rfl) (by omega) (L.pres (ob,a/ 64)) (a%64)) rfl ?_)
 rintro _ w10 ⟨rfl,hS10⟩
 replace hS10:=hS10.jn rfl rfl
 clear hS9
 refine XB (Xx (by kernel_rfl)) ?_
 exact XU rfl rfl rfl (VC.nil (Qc (Qi [8] rfl (Qw (QW (.inr rfl) rfl rfl (⟨_,rfl,rfl,hS10.pick [1,0,3] rfl⟩))))))
theorem qay {w:World} {b n Fr:Nat} {L:LvD} {V:VS} {F:Th} (hS:Sat w [We b L,Zw L.sp n Fr V,F]) (hn:n≤600000000) (hE: ∀i,Y5 L.tr Zv i) {id:Int} {t:TrD} (ht:L.tr id=some t) (h0:id≠0) (ob:Bs) (a:Int) (hr:0≤a∧a<16384):
    Calls Tryz.prog 12 #[ptrV b 0,intV id,strV ob,intV a] w (Ret fun v w'=> ∃L1 V1 t1 x1,TouR L V id t (ob,a/ 64) L1 V1 t1 x1∧v=XZ (btV V1 x1.own (a%64))∧Sat w' [We b (Zy L1 id t1 (ob,a/ 64) {x1 with rd:=x1.rd ||| (bitA a&&& ~~~x1.wr)}),Zw L1.sp (n+2) Fr V1,F]):= by
 refine Qr Tryz.func12 rfl Tryz.ntmps12 rfl ?_
 refine Qd (Qa (Qe rfl rfl (Qf (Qc (Qd (Qa (Qb rfl rfl (Qb rfl rfl (qac Bf rfl (Ux (hS.sp [] rfl) ob a) rfl ?_)))))))))
 rintro _ w1 ⟨rfl,hS1⟩
 replace hS1:=hS1.jn rfl rfl
 rw[Km hr]
 refine Qb rfl rfl (Qu rfl rfl rfl (Qu rfl rfl rfl (Qu rfl rfl rfl (Xm hS1 ZS rfl rfl ?_))))
 intro kb w2 hS2
 clear hS1
 refine Xe hS2 rfl rfl Xn rfl (by rfl) (i:=0) rfl (by decide) ?_
 intro w3 hS3; dsimp only[List.set]at hS3
 clear hS2
 replace hS3:=XT (k:=(ob,a/ 64)) hS3
 refine Qe rfl rfl (Qe rfl rfl (Qf (Qc (Qi [3,1,0,8,9,10,11] rfl (Qd (Qd (Qa (Qb rfl rfl (QX rfl rfl (Qb rfl rfl (Zn 22 rfl (fun h4=> ?_) (fun h4=> ?_))))))))))))
 ·exact absurd h4 (by decide)
 refine Qj rfl rfl h4 (Qb rfl rfl (Qj rfl rfl h4 (Qb rfl rfl (Qj rfl rfl h4 (qac Hf rfl (Jh (hS3.sp [1] rfl) id) rfl ?_)))))
 rintro _ w5 ⟨rfl,hS5⟩
 replace hS5:=hS5.jn rfl rfl
 clear hS3
 refine Qj rfl rfl h4 (QX rfl rfl (QL rfl h4 rfl rfl (Qf (Qc (Qi [3,1,0,8,9,10,27] rfl (QQ rfl (fun h6=> ?_) (fun h6=> ?_)))))))
 ·exact absurd h6 (by simp [ZE,ht])
 refine Qs (Qc (Qd (Qd (Qa (Qb rfl rfl (X6 rfl rfl rfl (Qf (Qc (Qt rfl (fun h7=> ?_) (fun h7=> ?_))))))))))
 ·refine Qd (Qa (Qb rfl rfl (Qb rfl rfl (XF rfl XE Xn (by first | exact hS5.blk 1 rfl) (XJ rfl) rfl rfl ?_))))
  refine qac Be rfl (Up (hS5.sp [0,2] rfl) (by omega) hE ht (k:=(ob,a/ 64))) rfl ?_
  rintro _ w8 ⟨L1,V1,t1,x1,rfl,hT,hS8⟩
  replace hS8:=hS8.jn rfl rfl
  clear hS5
  have ht1:=hT.tr ht
  have hx1:=hT.lv
  have hE1:=hT.ends ht hE
  refine Qe rfl rfl (Qf (Qc (Qi [3,1,0,8,9,10,12] rfl ?_)))
  have hS9:=Yw ht1 hx1 (hS8.pick [0,1,2,3] rfl)
  have hS10:=hS9.drew
  refine QO [0,1,2,3,4,5,6,7,8,9,10,11,12,13] [13] Wu (by kernel_rfl) ?_
  refine QJ rfl rfl rfl (Xr rfl rfl rfl (QZ rfl rfl rfl YP (QH rfl rfl rfl (Qn rfl Y2 (hS10.cell 0 rfl rfl)) (QJ rfl rfl rfl (QJ rfl rfl rfl (Xr rfl rfl rfl (QZ rfl rfl rfl WD (QH rfl rfl rfl (Qn rfl Y2 (hS10.cell 0 rfl rfl)) (Xa rfl rfl rfl (fun _=>(VG rfl rfl)) ?_)))))))))
  refine Xa rfl rfl rfl (fun _=>(Gc rfl rfl)) ?_
  refine Xr rfl rfl rfl (QZ rfl rfl rfl YP (Xp rfl rfl rfl rfl rfl rfl (Xt hS10 rfl rfl Bu rfl (i:=0) rfl (XJ rfl) ?_)))
  intro w11 hS11; dsimp only[List.set]at hS11
  clear hS10
  refine Z3 (Xx (by kernel_rfl)) ?_
  refine VC.nil (Qc (Qi [3,1,0,8,9] rfl (Qd ?_)))
  have hS12:=Jf (L:=_) (y:={x1 with rd:=x1.rd ||| (bitA a&&& ~~~x1.wr)}) ht1 hx1 rfl (hS11.pick [0,1,2,3,4,5,6,7,8,9,10,11,12] rfl)
  have hE2:=S8 (k:=(ob,a/ 64)) (x:={x1 with rd:=x1.rd ||| (bitA a&&& ~~~x1.wr)}) ht1 hE1
  have hS13:=hS12.drew
  refine QO [0,1,2,3,4,5,6,8,9,7,10,11] [7,10] Wu (by kernel_rfl) ?_
  refine QJ rfl rfl rfl (Xr rfl rfl rfl (QZ rfl rfl rfl XM (QH rfl rfl rfl (Qn rfl Xu (J9 hS13 0 rfl)) (QJ rfl rfl rfl (QJ rfl rfl rfl (QH rfl rfl rfl (XK rfl XE Xn (by first | exact hS13.blk 2 rfl) (XJ rfl) rfl) ?_))))))
  refine QJ rfl rfl rfl (Xa rfl rfl rfl (fun _=>(M5 rfl rfl (by omega) (by omega))) ?_)
  refine Xp rfl rfl rfl rfl rfl rfl (qac YG rfl (Yq (hS13.sp [0] rfl) hE2 id (ob,a/ 64)) rfl ?_)
  rintro _ w14 ⟨rfl,hS14⟩
  replace hS14:=hS14.jn rfl rfl
  clear hS13
  rw[DQ h0]
  refine XB (.skip (by kernel_rfl) (.cons (.inl ⟨rfl,(Qn rfl Xu (J9 hS14 0 rfl))⟩) .nil)) ?_
  refine Xp rfl rfl rfl rfl rfl rfl (qac qau rfl (Od (hS14.sp [1] rfl) (by omega) x1.own (a%64)) rfl ?_)
  rintro _ w15 ⟨rfl,hS15⟩
  replace hS15:=hS15.jn rfl rfl
  clear hS14
  refine XB (Xx (by kernel_rfl)) ?_
  exact XU rfl rfl rfl (VC.nil (Qc (Qi [8] rfl (Qw (QW (.inr rfl) rfl rfl (⟨_,rfl,L1,V1,t1,x1,hT,rfl,hS15.pick [1,0,3] rfl⟩))))))
 exact absurd (Decidable.not_not.1 h7) h0
end Go.Proofs.YtkcjfoaejijdoaaGreatDoor
