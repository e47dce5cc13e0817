/- leaves: owned -/
import Derived.Test.YtkcjfoaejijdoaaGreatDoorLv2
set_option linter.unusedSectionVars false
set_option linter.unusedVariables false
set_option maxRecDepth 100000
set_option maxHeartbeats 80000000000
namespace Go.Proofs.YtkcjfoaejijdoaaGreatDoor
open Go.RowKit M Proofs.Tryz
variable [Inhabited SlW]
theorem P3 {V:VS} {j i:Int}:Hv V j i≠none↔V i≠none:= by
  unfold Hv
  cases h:V j with
  | none=> exact Iff.rfl
  | some x=>
    dsimp only
    by_cases e:i=j
    · subst e; rw[Qy,h]; simp
    · rw[QF e]
theorem JB {V:VS} {j i:Int}:refW V j i≠none↔V i≠none:= by
  unfold refW;split
  · exact Iff.rfl
  · exact P3
def X5 (V:VS) (j:Int):Prop:=j=0∨V j≠none
theorem stT_len {w:World} {p n F:Nat} {V:VS} {As:List Th} (h:Sat w (XD p n F V::As)) {j:Int} {x:Int×Bs} (hx:V j=some x):x.2.length=64:= by
  obtain⟨S,hI,rfl,_,_⟩:=WH h
  unfold vw at hx
  cases hq:S.all j with
  | none=> rw[hq]at hx; cases hx
  | some y=>
    rw[hq]at hx
    have hx2:(y.refs,y.pg)=x:= by simpa using hx
    subst hx2
    exact(hI.ent hq).2.2.2.2.1
theorem Tw {w:World} {p n F:Nat} {V:VS} {As:List Th} (h:Sat w (XD p n F V::As)) {j:Int} (hj:X5 V j):(XH V j).length=64:= by
  unfold XH
  cases hq:V j with
  | none=>
    rcases hj with rfl | hj
    · simp [zer]
    · exact absurd hq hj
  | some x=> exact stT_len h hq
theorem TouR.alive {L L':LvD} {V V':VS} {id:Int} {t t':TrD} {k:KD} {x':LfD} (h:TouR L V id t k L' V' t' x') (ht:L.tr id=some t) (h0:id≠0) (ha:X5 V (Xo L id k)):X5 V' x'.own:= by
  rcases h with⟨hx,rfl,rfl,rfl⟩ | ⟨_,a,rfl,_,_,rfl⟩
  · have e:Xo L' id k=x'.own:=Uo h0 ht hx
    rwa [e]at ha
  · rcases ha with e | ha
    · exact .inl e
    · exact .inr (JB.2 (JB.2 ha))
theorem SH {w:World} {b n Fr:Nat} {L:LvD} {V:VS} {F:Th} (hS:Sat w [XX b L,XD L.sp n Fr V,F]) (hn:n≤60000000000) (hE: ∀i,YE L.tr Zg i) {k:KD} (hal:X5 V (L.pres k)):
    Calls prog 44 #[ptrV b 0,intV 0,Xr k] w (Ret fun v w'=> ∃L' V' s e,v= .tuple #[intV s,intV e]∧OwnP L V k Fr L' V' s e∧Sat w' [XX b L',XD L'.sp (n+4) Fr V',F]):= by
 refine Qm func44 U ntmps44 U ?_
 refine Qd (Qa (XR hS U U U ?_))
 intro kb w1 j1
 replace j1:=X6 j1
 refine Qe U U (Qe U U (Qf (Qc (Qd (Qa (Qe U U (Qf (Qc (Qd (Qd (Qa (Qb U U (XC U U U (Qf (Qc (Qt U (fun h2=> ?_) (fun h2=> ?_)))))))))))))))))
 ·exact absurd U h2
 refine Qs (Qc (Qd (Qa (Qb U U (Qb U U (Xw U X9 Xf (by first | exact j1.blk 0 U) (Xv U) U U ?_))))))
 refine Qv YN U (Yy (j1.sp [1] U) hE 0 k) U ?_
 rintro _ w3 ⟨rfl,j3⟩
 replace j3:=j3.jn U U
 rw[show Xo L 0 k=L.pres k from Yo U]
 refine Qe U U (Qf (Qc (Qh [0,5,6,7,8,9] U (Qd (Qd ?_)))))
 have j4:=X1 (j3.pick [0,1,2,3] U)
 refine Qa (Qb U U (XC U U U (Qb U U (Xc 24 U (fun h5=> ?_) (fun h5=> ?_)))))
 ·have hs0:L.pres k≠0:=h5
  refine Qo U U (Xm h5) (Qb U U (Qo U U (Xm h5) (Qj U U (Qo U U (Xm h5) (Qg U XJ U (Qo U U (Xm h5) (Qr U Xy (j4.cell 0 U U) U (Qo U U (Xm h5) (Qb U U (Qo U U (Xm h5) (Qv GP U (Gx (j4.sp [6] U) (L.pres k)) U ?_)))))))))))
  rintro _ w6 ⟨rfl,j6⟩
  replace j6:=j6.jn U U
  refine Qo U U (Xm h5) (Xq U U U (QK U (Xm h5) U U (Qf (Qc (Qh [0,5,6,7,8,9,32] U (Qt U (fun h7=> ?_) (fun h7=> ?_)))))))
  ·have hs1:Zm V (L.pres k)=1:=h7
   exact Qd (Qa (Qb U U (Qe U U (Qe U U (Qf (Qc (Qu (Qp (Wz (.inr U) U U U (⟨_,rfl,L,V,_,_,rfl,.inl ⟨rfl,rfl,hs0,hs1,rfl,rfl⟩,((Xn (m:=n+4) (by omega) (j6.pick [0,1,2,3,4,5,7] U)).reorder [1,2,3,4,5,0,6] U |> fun q=>QX q)⟩))))))))))
  have hnx: ¬(L.pres k≠0∧Zm V (L.pres k)=1):= fun q=>h7 q.2
  refine Qs (Qc (Qd ?_))
  have j8:=j6.drew
  refine QE [0,1,2,3,4,5,6,7,8,9,10,11,12,13,14,15] [9,10] Wa (by kernel_rfl) ?_
  refine Q9 U U U (Xi U U U (QQ U U U XJ (Q4 U U U (Ql U Xy (j8.cell 1 U U)) (Q9 U U U (Xi U U U (QQ U U U XJ (Q4 U U U (Ql U Xy (j8.cell 1 U U)) (Q9 U U U (Xe U U U U U U ?_)))))))))
  refine Qv W5 U (WX (j8.sp [0] U) (L.pres k)) U ?_
  rintro _ w9 ⟨rfl,j9⟩
  replace j9:=j9.jn U U
  refine Xz (.skip (by kernel_rfl) (.cons (.inl ⟨rfl,(Ql U Xy (j9.cell 1 U U))⟩) .nil)) ?_
  refine Xe U U U U U U ?_
  have hpg0:=Tw (j9.pick [0,1,2,3,4,5,6,7] U) hal
  refine Zc RZ U (B4 (j9.sp [0] U) (by omega) hpg0) U ?_
  rintro e w10 ⟨_,rfl,(⟨rfl,hag,j10⟩ | ⟨fr,rfl,hf1,hf0,j10⟩)⟩
  ·refine⟨_,U, ?_⟩
   replace j10:=j10.jn U U
   refine Xz (Xj (by kernel_rfl)) ?_
   refine Q9 U U U (Wi U U U U (Wi U U U U (XK U U U (XK U U U (VC.nil (Qc (Qh [0,5,6,7,8,10,11] U (Qd (Qd (Qa (Qb U U (XC U U U (Qf (Qc (Qt U (fun h11=> ?_) (fun h11=> ?_))))))))))))))))
   ·exact Qd (Qa (Qb U U (Qe U U (Qe U U (Qf (Qc (Qu (Qp (Wz (.inr U) U U U (⟨_,rfl,L,V,_,_,rfl,.inr (.inl ⟨rfl,rfl,hag,rfl,rfl⟩),((Xn (m:=n+4) (by omega) (j10.pick [0,1,2,3,4,5,7] U)).reorder [1,2,3,4,5,0,6] U |> fun q=>QX q)⟩))))))))))
   exact absurd (by decide) h11
  refine⟨_,U, ?_⟩
  replace j10:=j10.jn U U
  refine Xz (Xj (by kernel_rfl)) ?_
  refine Q9 U U U (Wi U U U U (Wi U U U U (XK U U U (XK U U U (VC.nil (Qc (Qh [0,5,6,7,8,10,11] U (Qd (Qd (Qa (Qb U U (XC U U U (Qf (Qc (Qt U (fun h12=> ?_) (fun h12=> ?_))))))))))))))))
  ·exact absurd U h12
  refine Qs (Qc (Qd (Qd (Qa (Qb U U (WG underlying89 U U U (Qf (Qc (Qh [0,5,6,7,8,10,52] U (Xd U (Qa (Qb U U (Xw U X9 Xf (j10.blk 6 U) (Xv U) U U (Qb U U (Qv GO U (S6 (j10.sp [1,2,5,0] U) (by omega) k fr) U ?_)))))))))))))))
  rintro _ w13 ⟨rfl,j13⟩
  replace j13:=j13.jn U U
  exact Qf (Qc (Qh [6,7,10] U (Qd (Qa (Qb U U (Qe U U (Qe U U (Qf (Qc (Qu (Wz (.inr U) U U U (⟨_,rfl,{L with pres:=Z6 L.pres k fr,sh:=JJ (Xu V fr (some (1,XH V (L.pres k)))) L.sh (L.pres k)},_,_,_,rfl,.inr (.inr ⟨rfl,hf1,hf0,hnx,rfl,rfl⟩),((Xn (m:=n+4) (by omega) (j13.pick [3,0,1,4,5,2,7] U)).reorder [1,2,3,4,5,0,6] U |> fun q=>QX (L:={L with pres:=Z6 L.pres k fr,sh:=JJ (Xu V fr (some (1,XH V (L.pres k)))) L.sh (L.pres k)}) q)⟩))))))))))))
 have hnx: ¬(L.pres k≠0∧Zm V (L.pres k)=1):= fun q=>h5 q.1
 refine Qi U U (Q7 h5) U (Qi U U (Q7 h5) U (Qi U U (Q7 h5) U (Qi U U (Q7 h5) U (Qi U U (Q7 h5) U (Qi U U (Q7 h5) U (Qi U U (Q7 h5) U (QW U (Q7 h5) U U (Qf (Qc (Qh [0,5,6,7,8,9,32] U (QR U (Qs (Qc (Qd ?_))))))))))))))
 have j14:=j4.drew
 refine QE [0,1,2,3,4,5,6,7,8,9,10,11,12,13,14,15] [9,10] Wa (by kernel_rfl) ?_
 refine Q9 U U U (Xi U U U (QQ U U U XJ (Q4 U U U (Ql U Xy (j14.cell 0 U U)) (Q9 U U U (Xi U U U (QQ U U U XJ (Q4 U U U (Ql U Xy (j14.cell 0 U U)) (Q9 U U U (Xe U U U U U U ?_)))))))))
 refine Qv W5 U (WX (j14.sp [6] U) (L.pres k)) U ?_
 rintro _ w15 ⟨rfl,j15⟩
 replace j15:=j15.jn U U
 refine Xz (.skip (by kernel_rfl) (.cons (.inl ⟨rfl,(Ql U Xy (j15.cell 1 U U))⟩) .nil)) ?_
 refine Xe U U U U U U ?_
 have hpg0:=Tw (j15.pick [0,1,2,3,4,5,6,7] U) hal
 refine Zc RZ U (B4 (j15.sp [0] U) (by omega) hpg0) U ?_
 rintro e w16 ⟨_,rfl,(⟨rfl,hag,j16⟩ | ⟨fr,rfl,hf1,hf0,j16⟩)⟩
 ·refine⟨_,U, ?_⟩
  replace j16:=j16.jn U U
  refine Xz (Xj (by kernel_rfl)) ?_
  refine Q9 U U U (Wi U U U U (Wi U U U U (XK U U U (XK U U U (VC.nil (Qc (Qh [0,5,6,7,8,10,11] U (Qd (Qd (Qa (Qb U U (XC U U U (Qf (Qc (Qt U (fun h17=> ?_) (fun h17=> ?_))))))))))))))))
  ·exact Qd (Qa (Qb U U (Qe U U (Qe U U (Qf (Qc (Qu (Qp (Wz (.inr U) U U U (⟨_,rfl,L,V,_,_,rfl,.inr (.inl ⟨rfl,rfl,hag,rfl,rfl⟩),((Xn (m:=n+4) (by omega) (j16.pick [0,1,2,3,4,5,7] U)).reorder [1,2,3,4,5,0,6] U |> fun q=>QX q)⟩))))))))))
  exact absurd (by decide) h17
 refine⟨_,U, ?_⟩
 replace j16:=j16.jn U U
 refine Xz (Xj (by kernel_rfl)) ?_
 refine Q9 U U U (Wi U U U U (Wi U U U U (XK U U U (XK U U U (VC.nil (Qc (Qh [0,5,6,7,8,10,11] U (Qd (Qd (Qa (Qb U U (XC U U U (Qf (Qc (Qt U (fun h18=> ?_) (fun h18=> ?_))))))))))))))))
 ·exact absurd U h18
 refine Qs (Qc (Qd (Qd (Qa (Qb U U (WG underlying89 U U U (Qf (Qc (Qh [0,5,6,7,8,10,52] U (Xd U (Qa (Qb U U (Xw U X9 Xf (j16.blk 6 U) (Xv U) U U (Qb U U (Qv GO U (S6 (j16.sp [1,2,5,0] U) (by omega) k fr) U ?_)))))))))))))))
 rintro _ w19 ⟨rfl,j19⟩
 replace j19:=j19.jn U U
 exact Qf (Qc (Qh [6,7,10] U (Qd (Qa (Qb U U (Qe U U (Qe U U (Qf (Qc (Qu (Wz (.inr U) U U U (⟨_,rfl,{L with pres:=Z6 L.pres k fr,sh:=JJ (Xu V fr (some (1,XH V (L.pres k)))) L.sh (L.pres k)},_,_,_,rfl,.inr (.inr ⟨rfl,hf1,hf0,hnx,rfl,rfl⟩),((Xn (m:=n+4) (by omega) (j19.pick [3,0,1,4,5,2,7] U)).reorder [1,2,3,4,5,0,6] U |> fun q=>QX (L:={L with pres:=Z6 L.pres k fr,sh:=JJ (Xu V fr (some (1,XH V (L.pres k)))) L.sh (L.pres k)}) q)⟩))))))))))))
theorem SF {w:World} {b n Fr:Nat} {L:LvD} {V:VS} {F:Th} (hS:Sat w [XX b L,XD L.sp n Fr V,F]) (hn:n≤60000000000) (hE: ∀i,YE L.tr Zg i) {id:Int} {t:TrD} (ht:L.tr id=some t) {k:KD} (h0:id≠0) (hal:X5 V (Xo L id k)):
    Calls prog 44 #[ptrV b 0,intV id,Xr k] w (Ret fun v w'=> ∃L1 V1 t1 x1 L' V' s e,v= .tuple #[intV s,intV e]∧TouR L V id t k L1 V1 t1 x1∧OwnT L1 V1 id t1 k x1 Fr L' V' s e∧Sat w' [XX b L',XD L'.sp (n+4) Fr V',F]):= by
 refine Qm func44 U ntmps44 U ?_
 refine Qd (Qa (XR hS U U U ?_))
 intro kb w1 j1
 replace j1:=X6 j1
 refine Qe U U (Qe U U (Qf (Qc (Qd (Qa (Qe U U (Qf (Qc (Qd (Qd (Qa (Qb U U (XC U U U (Qf (Qc (Qt U (fun h2=> ?_) (fun h2=> ?_)))))))))))))))))
 ·refine Qa (Qb U U (Qb U U (Xw U X9 Xf (by first | exact j1.blk 0 U) (Xv U) U U ?_)))
  refine Qv Rd U (HE (j1.sp [1,2] U) (by omega) hE ht (k:=k)) U ?_
  rintro _ w3 ⟨L1,V1,t1,x1,rfl,hT,j3⟩
  replace j3:=j3.jn U U
  have ht1:=hT.tr ht
  have hx1:=hT.lv
  have hE1:=hT.ends ht hE
  have hal1:=hT.alive ht h0 hal
  refine Qe U U (Qf (Qc (Qh [1,0,5,6,7,8] U (Qd (Qa (Qb U U (Qb U U (Xw U X9 Xf (by first | exact j3.blk 2 U) (Xv U) U U ?_))))))))
  refine Qv YN U (Yy (j3.sp [0] U) hE1 id k) U ?_
  rintro _ w4 ⟨rfl,j4⟩
  replace j4:=j4.jn U U
  rw[hT.sees ht h0]
  refine Qe U U (Qf (Qc (Qh [0,5,6,7,8,9] U (Qd (Qd ?_)))))
  have j5:=X1 (j4.pick [0,1,2,3] U)
  refine Qa (Qb U U (XC U U U (Qb U U (Xc 24 U (fun h6=> ?_) (fun h6=> ?_)))))
  ·have hs0:x1.own≠0:=h6
   refine Qo U U (Xm h6) (Qb U U (Qo U U (Xm h6) (Qj U U (Qo U U (Xm h6) (Qg U XJ U (Qo U U (Xm h6) (Qr U Xy (j5.cell 0 U U) U (Qo U U (Xm h6) (Qb U U (Qo U U (Xm h6) (Qv GP U (Gx (j5.sp [5] U) x1.own) U ?_)))))))))))
   rintro _ w7 ⟨rfl,j7⟩
   replace j7:=j7.jn U U
   refine Qo U U (Xm h6) (Xq U U U (QK U (Xm h6) U U (Qf (Qc (Qh [0,5,6,7,8,9,32] U (Qt U (fun h8=> ?_) (fun h8=> ?_)))))))
   ·have hs1:Zm V1 x1.own=1:=h8
    exact Qd (Qa (Qb U U (Qe U U (Qe U U (Qf (Qc (Qu (Qp (Wz (.inr U) U U U (⟨_,rfl,L1,V1,t1,x1,L1,V1,_,_,rfl,hT,.inl ⟨rfl,rfl,hs0,hs1,rfl,rfl⟩,((Xn (m:=n+4) (by omega) (j7.pick [0,1,2,3,4,5,7] U)).reorder [1,2,3,4,5,0,6] U |> fun q=>QX q)⟩))))))))))
   have hnx: ¬(x1.own≠0∧Zm V1 x1.own=1):= fun q=>h8 q.2
   refine Qs (Qc (Qd ?_))
   have j9:=j7.drew
   refine QE [0,1,2,3,4,5,6,7,8,9,10,11,12,13,14,15] [9,10] Wa (by kernel_rfl) ?_
   refine Q9 U U U (Xi U U U (QQ U U U XJ (Q4 U U U (Ql U Xy (j9.cell 1 U U)) (Q9 U U U (Xi U U U (QQ U U U XJ (Q4 U U U (Ql U Xy (j9.cell 1 U U)) (Q9 U U U (Xe U U U U U U ?_)))))))))
   refine Qv W5 U (WX (j9.sp [0] U) x1.own) U ?_
   rintro _ w10 ⟨rfl,j10⟩
   replace j10:=j10.jn U U
   refine Xz (.skip (by kernel_rfl) (.cons (.inl ⟨rfl,(Ql U Xy (j10.cell 1 U U))⟩) .nil)) ?_
   refine Xe U U U U U U ?_
   have hpg1:=Tw (j10.pick [0,1,2,3,4,5,6,7] U) hal1
   refine Zc RZ U (B4 (j10.sp [0] U) (by omega) hpg1) U ?_
   rintro e w11 ⟨_,rfl,(⟨rfl,hag,j11⟩ | ⟨fr,rfl,hf1,hf0,j11⟩)⟩
   ·refine⟨_,U, ?_⟩
    replace j11:=j11.jn U U
    refine Xz (Xj (by kernel_rfl)) ?_
    refine Q9 U U U (Wi U U U U (Wi U U U U (XK U U U (XK U U U (VC.nil (Qc (Qh [0,5,6,7,8,10,11] U (Qd (Qd (Qa (Qb U U (XC U U U (Qf (Qc (Qt U (fun h12=> ?_) (fun h12=> ?_))))))))))))))))
    ·exact Qd (Qa (Qb U U (Qe U U (Qe U U (Qf (Qc (Qu (Qp (Wz (.inr U) U U U (⟨_,rfl,L1,V1,t1,x1,L1,V1,_,_,rfl,hT,.inr (.inl ⟨rfl,rfl,hag,rfl,rfl⟩),((Xn (m:=n+4) (by omega) (j11.pick [0,1,2,3,4,5,7] U)).reorder [1,2,3,4,5,0,6] U |> fun q=>QX q)⟩))))))))))
    exact absurd (by decide) h12
   refine⟨_,U, ?_⟩
   replace j11:=j11.jn U U
   refine Xz (Xj (by kernel_rfl)) ?_
   refine Q9 U U U (Wi U U U U (Wi U U U U (XK U U U (XK U U U (VC.nil (Qc (Qh [0,5,6,7,8,10,11] U (Qd (Qd (Qa (Qb U U (XC U U U (Qf (Qc (Qt U (fun h13=> ?_) (fun h13=> ?_))))))))))))))))
   ·exact absurd U h13
   refine Qs (Qc (Qd (Qd (Qa (Qb U U (ZO underlying89 U U U (Qf (Qc (Qh [0,5,6,7,8,10,52] U (QR U (Qd ?_)))))))))))
   have j14:=QX (L:=L1) (j11.pick [1,2,3,4,5,0,6,7] U)
   have j15:=JQ ht1 hx1 (j14.pick [0,1,2,3] U)
   refine Qa (Qb U U (Qb U U (Qj U U (Qg U WK U (Qr U QL (j15.cell 0 U U) U (Qv Uc U (HV (j15.sp [6,9,10] U) (by omega) x1.own) U ?_))))))
   rintro _ w16 ⟨rfl,j16⟩
   replace j16:=j16.jn U U
   refine Qf (Qc (Qh [6,7,8,10] U (Qa (Qb U U (Qb U U (Qj U U (Qg U WK U (QV j16 U U Yq U (i:=3) U (Xv U) ?_))))))))
   intro w17 j17; dsimp only[List.set]at j17
   refine Qf (Qc (Qd (Qa (Qb U U (Qe U U (Qe U U (Qf (Qc (Qu (Wz (.inr U) U U U ?_))))))))))
   have j18:=WJ (L:={L1 with sh:=JJ (Xu V1 fr (some (1,XH V1 x1.own))) L1.sh x1.own}) (y:={x1 with own:=fr}) ht1 hx1 U (j17.pick [3,4,5,6,7,8,0,9,10,1,2,11,12] U)
   exact⟨_,rfl,L1,V1,t1,x1,ZD ({L1 with sh:=JJ (Xu V1 fr (some (1,XH V1 x1.own))) L1.sh x1.own}) id t1 k {x1 with own:=fr},_,_,_,rfl,hT,.inr (.inr ⟨rfl,hf1,hf0,hnx,rfl,rfl⟩),(Xn (m:=n+4) (by omega) (j18.pick [1,0,3] U)).reorder [1,0,2] U⟩
  have hnx: ¬(x1.own≠0∧Zm V1 x1.own=1):= fun q=>h6 q.1
  refine Qi U U (Q7 h6) U (Qi U U (Q7 h6) U (Qi U U (Q7 h6) U (Qi U U (Q7 h6) U (Qi U U (Q7 h6) U (Qi U U (Q7 h6) U (Qi U U (Q7 h6) U (QW U (Q7 h6) U U (Qf (Qc (Qh [0,5,6,7,8,9,32] U (QR U (Qs (Qc (Qd ?_))))))))))))))
  have j19:=j5.drew
  refine QE [0,1,2,3,4,5,6,7,8,9,10,11,12,13,14,15] [9,10] Wa (by kernel_rfl) ?_
  refine Q9 U U U (Xi U U U (QQ U U U XJ (Q4 U U U (Ql U Xy (j19.cell 0 U U)) (Q9 U U U (Xi U U U (QQ U U U XJ (Q4 U U U (Ql U Xy (j19.cell 0 U U)) (Q9 U U U (Xe U U U U U U ?_)))))))))
  refine Qv W5 U (WX (j19.sp [5] U) x1.own) U ?_
  rintro _ w20 ⟨rfl,j20⟩
  replace j20:=j20.jn U U
  refine Xz (.skip (by kernel_rfl) (.cons (.inl ⟨rfl,(Ql U Xy (j20.cell 1 U U))⟩) .nil)) ?_
  refine Xe U U U U U U ?_
  have hpg1:=Tw (j20.pick [0,1,2,3,4,5,6,7] U) hal1
  refine Zc RZ U (B4 (j20.sp [0] U) (by omega) hpg1) U ?_
  rintro e w21 ⟨_,rfl,(⟨rfl,hag,j21⟩ | ⟨fr,rfl,hf1,hf0,j21⟩)⟩
  ·refine⟨_,U, ?_⟩
   replace j21:=j21.jn U U
   refine Xz (Xj (by kernel_rfl)) ?_
   refine Q9 U U U (Wi U U U U (Wi U U U U (XK U U U (XK U U U (VC.nil (Qc (Qh [0,5,6,7,8,10,11] U (Qd (Qd (Qa (Qb U U (XC U U U (Qf (Qc (Qt U (fun h22=> ?_) (fun h22=> ?_))))))))))))))))
   ·exact Qd (Qa (Qb U U (Qe U U (Qe U U (Qf (Qc (Qu (Qp (Wz (.inr U) U U U (⟨_,rfl,L1,V1,t1,x1,L1,V1,_,_,rfl,hT,.inr (.inl ⟨rfl,rfl,hag,rfl,rfl⟩),((Xn (m:=n+4) (by omega) (j21.pick [0,1,2,3,4,5,7] U)).reorder [1,2,3,4,5,0,6] U |> fun q=>QX q)⟩))))))))))
   exact absurd (by decide) h22
  refine⟨_,U, ?_⟩
  replace j21:=j21.jn U U
  refine Xz (Xj (by kernel_rfl)) ?_
  refine Q9 U U U (Wi U U U U (Wi U U U U (XK U U U (XK U U U (VC.nil (Qc (Qh [0,5,6,7,8,10,11] U (Qd (Qd (Qa (Qb U U (XC U U U (Qf (Qc (Qt U (fun h23=> ?_) (fun h23=> ?_))))))))))))))))
  ·exact absurd U h23
  refine Qs (Qc (Qd (Qd (Qa (Qb U U (ZO underlying89 U U U (Qf (Qc (Qh [0,5,6,7,8,10,52] U (QR U (Qd ?_)))))))))))
  have j24:=QX (L:=L1) (j21.pick [1,2,3,4,5,0,6,7] U)
  have j25:=JQ ht1 hx1 (j24.pick [0,1,2,3] U)
  refine Qa (Qb U U (Qb U U (Qj U U (Qg U WK U (Qr U QL (j25.cell 0 U U) U (Qv Uc U (HV (j25.sp [6,9,10] U) (by omega) x1.own) U ?_))))))
  rintro _ w26 ⟨rfl,j26⟩
  replace j26:=j26.jn U U
  refine Qf (Qc (Qh [6,7,8,10] U (Qa (Qb U U (Qb U U (Qj U U (Qg U WK U (QV j26 U U Yq U (i:=3) U (Xv U) ?_))))))))
  intro w27 j27; dsimp only[List.set]at j27
  refine Qf (Qc (Qd (Qa (Qb U U (Qe U U (Qe U U (Qf (Qc (Qu (Wz (.inr U) U U U ?_))))))))))
  have j28:=WJ (L:={L1 with sh:=JJ (Xu V1 fr (some (1,XH V1 x1.own))) L1.sh x1.own}) (y:={x1 with own:=fr}) ht1 hx1 U (j27.pick [3,4,5,6,7,8,0,9,10,1,2,11,12] U)
  exact⟨_,rfl,L1,V1,t1,x1,ZD ({L1 with sh:=JJ (Xu V1 fr (some (1,XH V1 x1.own))) L1.sh x1.own}) id t1 k {x1 with own:=fr},_,_,_,rfl,hT,.inr (.inr ⟨rfl,hf1,hf0,hnx,rfl,rfl⟩),(Xn (m:=n+4) (by omega) (j28.pick [1,0,3] U)).reorder [1,0,2] U⟩
 exact absurd (Decidable.not_not.1 h2) h0
theorem Jk {w:World} {As:List Th} {b:Nat} {L:LvD} (hS:Sat w As) (i:Nat) (hi:As[i]? =some (XX b L)):w.cell? ⟨b,0,none⟩=some (ptrV L.sp 0):=(X1 (hS.pull i hi)).cell 0 U U
theorem JO {ob:Bs} {a:Int} (h:0≤a∧a<16384):Vm ob a= .tuple #[Xr (ob,a/ 64),Z5 (1#64<<<(a%64).toNat),.bool true]:= by unfold Vm; rw[if_pos h]
theorem UG {ob:Bs} {a:Int} (h: ¬(0≤a∧a<16384)):Vm ob a= .tuple #[Xr ([],0),Z5 0#64,.bool false]:= by unfold Vm; rw[if_neg h]
def NW (a:Int):BitVec 64:=1#64<<<(a%64).toNat
theorem Dl {L:LvD} {id:Int} {t:TrD} {k:KD} {x:LfD} (h0:id≠0):Xo (ZD L id t k x) id k=x.own:=Uo h0 Dk Qy
theorem OwnT.leaf {L L':LvD} {V V':VS} {id:Int} {t:TrD} {k:KD} {x:LfD} {Fr:Nat} {s e:Int} (h:OwnT L V id t k x Fr L' V' s e) (ht:L.tr id=some t) (hx:t.lv k=some x): ∃t' x',L'.tr id=some t'∧t'.lv k=some x'∧x'.wr=x.wr∧x'.rd=x.rd∧x'.base=x.base∧(e=0→x'.own=s):= by
  rcases h with⟨_,h2,_,_,rfl,_⟩ | ⟨h1,_,_,rfl,_⟩ | ⟨_,_,_,_,_,rfl⟩
  · exact⟨t,x,ht,hx,rfl,rfl,rfl, fun _=>h2.symm⟩
  · exact⟨t,x,ht,hx,rfl,rfl,rfl, fun q=> by omega⟩
  · exact⟨_,_,Dk,Qy,rfl,rfl,rfl, fun _=>rfl⟩
theorem OwnT.sp {L L':LvD} {V V':VS} {id:Int} {t:TrD} {k:KD} {x:LfD} {Fr:Nat} {s e:Int} (h:OwnT L V id t k x Fr L' V' s e):L'.sp=L.sp:= by
  rcases h with⟨_,h2,_,_,rfl,_⟩ | ⟨h1,_,_,rfl,_⟩ | ⟨_,_,_,_,_,rfl⟩<;>rfl
theorem IY {w:World} {b n Fr:Nat} {L:LvD} {V:VS} {F:Th} (hS:Sat w [XX b L,XD L.sp n Fr V,F]) (hn:n≤60000000000) (ob:Bs) (a:Int) (id:Int) (hr: ¬(0≤a∧a<16384)):
    Calls prog 12 #[ptrV b 0,intV id,strV ob,intV a] w (Ret fun v w'=>v=WA 0∧Sat w' [XX b L,XD L.sp n Fr V,F]):= by
 refine Qm func12 U ntmps12 U ?_
 refine Qd (Qa (Qe U U (Qf (Qc (Qd (Qa (Qb U U (Qb U U (Qv YO U (WY (hS.sp [] U) ob a) U ?_)))))))))
 rintro _ w1 ⟨rfl,j1⟩
 replace j1:=j1.jn U U
 rw[UG hr]
 refine Qb U U (Qn U U U (Qn U U U (Qn U U U (Xa j1 Zy U U ?_))))
 intro kb w2 j2
 refine QG j2 U U Xf U (by rfl) (i:=0) U (by decide) ?_
 intro w3 j3; dsimp only[List.set]at j3
 replace j3:=X6 (k:=([],0)) j3
 refine Qe U U (Qe U U (Qf (Qc (Qh [3,1,0,8,9,10,11] U (Qd (Qd (Qa (Qb U U (Xb U U (Qb U U (Zl 22 U (fun h4=> ?_) (fun h4=> ?_))))))))))))
 ·exact Qi U U h4 U (Qi U U h4 U (Qi U U h4 U (Qi U U h4 U (QK U h4 U U (Qf (Qc (Qh [3,1,0,8,9,10,27] U (Xd U (Qd (Qa (Qe U U (Qf (Qc (Qu (Qp (QY (.inr U) U U (⟨_,U,U,j3.pick [1,2,3] U⟩)))))))))))))))))
 exact absurd h4 (by decide)
theorem IZ {w:World} {b n Fr:Nat} {L:LvD} {V:VS} {F:Th} (hS:Sat w [XX b L,XD L.sp n Fr V,F]) (hn:n≤60000000000) (ob:Bs) (a:Int) (id:Int) (hr:0≤a∧a<16384) (hth:Zk L id=false):
    Calls prog 12 #[ptrV b 0,intV id,strV ob,intV a] w (Ret fun v w'=>v=WA 0∧Sat w' [XX b L,XD L.sp n Fr V,F]):= by
 refine Qm func12 U ntmps12 U ?_
 refine Qd (Qa (Qe U U (Qf (Qc (Qd (Qa (Qb U U (Qb U U (Qv YO U (WY (hS.sp [] U) ob a) U ?_)))))))))
 rintro _ w1 ⟨rfl,j1⟩
 replace j1:=j1.jn U U
 rw[JO hr]
 refine Qb U U (Qn U U U (Qn U U U (Qn U U U (Xa j1 Zy U U ?_))))
 intro kb w2 j2
 refine QG j2 U U Xf U (by rfl) (i:=0) U (by decide) ?_
 intro w3 j3; dsimp only[List.set]at j3
 replace j3:=X6 (k:=(ob,a/ 64)) j3
 refine Qe U U (Qe U U (Qf (Qc (Qh [3,1,0,8,9,10,11] U (Qd (Qd (Qa (Qb U U (Xb U U (Qb U U (Zl 22 U (fun h4=> ?_) (fun h4=> ?_))))))))))))
 ·exact Qi U U h4 U (Qi U U h4 U (Qi U U h4 U (Qi U U h4 U (QK U h4 U U (Qf (Qc (Qh [3,1,0,8,9,10,27] U (Xd U (Qd (Qa (Qe U U (Qf (Qc (Qu (Qp (QY (.inr U) U U (⟨_,U,U,j3.pick [1,2,3] U⟩)))))))))))))))))
 refine Qo U U h4 (Qb U U (Qo U U h4 (Qb U U (Qo U U h4 (Qv W4 U (Z8 (j3.sp [1] U) id) U ?_)))))
 rintro _ w5 ⟨rfl,j5⟩
 replace j5:=j5.jn U U
 refine Qo U U h4 (Xb U U (QW U h4 U U (Qf (Qc (Qh [3,1,0,8,9,10,27] U (QT U (fun h6=> ?_) (fun h6=> ?_)))))))
 ·exact Qd (Qa (Qe U U (Qf (Qc (Qu (Qp (QY (.inr U) U U (⟨_,U,U,j5.pick [0,2,3] U⟩))))))))
 exact absurd h6 (by rw[hth];decide)
theorem qaa {w:World} {b n Fr:Nat} {L:LvD} {V:VS} {F:Th} (hS:Sat w [XX b L,XD L.sp n Fr V,F]) (hn:n≤60000000000) (ob:Bs) (a:Int) (hE: ∀i,YE L.tr Zg i) (hr:0≤a∧a<16384):
    Calls prog 12 #[ptrV b 0,intV 0,strV ob,intV a] w (Ret fun v w'=>v=WA (btV V (L.pres (ob,a/ 64)) (a%64))∧Sat w' [XX b L,XD L.sp n Fr V,F]):= by
 refine Qm func12 U ntmps12 U ?_
 refine Qd (Qa (Qe U U (Qf (Qc (Qd (Qa (Qb U U (Qb U U (Qv YO U (WY (hS.sp [] U) ob a) U ?_)))))))))
 rintro _ w1 ⟨rfl,j1⟩
 replace j1:=j1.jn U U
 rw[JO hr]
 refine Qb U U (Qn U U U (Qn U U U (Qn U U U (Xa j1 Zy U U ?_))))
 intro kb w2 j2
 refine QG j2 U U Xf U (by rfl) (i:=0) U (by decide) ?_
 intro w3 j3; dsimp only[List.set]at j3
 replace j3:=X6 (k:=(ob,a/ 64)) j3
 refine Qe U U (Qe U U (Qf (Qc (Qh [3,1,0,8,9,10,11] U (Qd (Qd (Qa (Qb U U (Xb U U (Qb U U (Zl 22 U (fun h4=> ?_) (fun h4=> ?_))))))))))))
 ·exact absurd h4 (by decide)
 refine Qo U U h4 (Qb U U (Qo U U h4 (Qb U U (Qo U U h4 (Qv W4 U (Z8 (j3.sp [1] U) 0) U ?_)))))
 rintro _ w5 ⟨rfl,j5⟩
 replace j5:=j5.jn U U
 refine Qo U U h4 (Xb U U (QW U h4 U U (Qf (Qc (Qh [3,1,0,8,9,10,27] U (QT U (fun h6=> ?_) (fun h6=> ?_)))))))
 ·exact absurd h6 (by simp [Zk])
 refine Qs (Qc (Qd (Qd (Qa (Qb U U (XC U U U (Qf (Qc (Qt U (fun h7=> ?_) (fun h7=> ?_))))))))))
 ·exact absurd U h7
 refine Qs (Qc (Qd ?_))
 have j8:=j5.drew
 refine QE [0,1,2,3,4,5,6,8,9,7,10,11] [7,10] Wa (by kernel_rfl) ?_
 refine Q9 U U U (Xi U U U (QQ U U U XJ (Q4 U U U (Ql U Xy (Jk j8 0 U)) (Q9 U U U (Q9 U U U (Q4 U U U (XB U X9 Xf (by first | exact j8.blk 1 U) (Xv U) U) ?_))))))
 refine Q9 U U U (QZ U U U (fun _=>(DH U U (by omega) (by omega))) ?_)
 refine Xe U U U U U U ?_
 refine Qv YN U (Yy (j8.sp [0] U) hE 0 (ob,a/ 64)) U ?_
 rintro _ w9 ⟨rfl,j9⟩
 replace j9:=j9.jn U U
 rw[show Xo L 0 (ob,a/ 64)=L.pres (ob,a/ 64) from Yo U]
 refine Xz (.skip (by kernel_rfl) (.cons (.inl ⟨rfl,(Ql U Xy (Jk j9 0 U))⟩) .nil)) ?_
 refine Xe U U U U U U ?_
 refine Qv IJ U (Am (j9.sp [2] U) (by omega) (L.pres (ob,a/ 64)) (a%64)) U ?_
 rintro _ w10 ⟨rfl,j10⟩
 replace j10:=j10.jn U U
 refine Xz (Xj (by kernel_rfl)) ?_
 exact XK U U U (VC.nil (Qc (Qh [8] U (Qu (QY (.inr U) U U (⟨_,U,U,j10.pick [1,0,3] U⟩))))))
theorem IX {w:World} {b n Fr:Nat} {L:LvD} {V:VS} {F:Th} (hS:Sat w [XX b L,XD L.sp n Fr V,F]) (hn:n≤60000000000) (hE: ∀i,YE L.tr Zg i) {id:Int} {t:TrD} (ht:L.tr id=some t) (h0:id≠0) (ob:Bs) (a:Int) (hr:0≤a∧a<16384):
    Calls prog 12 #[ptrV b 0,intV id,strV ob,intV a] w (Ret fun v w'=> ∃L1 V1 t1 x1,TouR L V id t (ob,a/ 64) L1 V1 t1 x1∧v=WA (btV V1 x1.own (a%64))∧Sat w' [XX b (ZD L1 id t1 (ob,a/ 64) {x1 with rd:=x1.rd ||| (NW a&&& ~~~x1.wr)}),XD L1.sp (n+2) Fr V1,F]):= by
 refine Qm func12 U ntmps12 U ?_
 refine Qd (Qa (Qe U U (Qf (Qc (Qd (Qa (Qb U U (Qb U U (Qv YO U (WY (hS.sp [] U) ob a) U ?_)))))))))
 rintro _ w1 ⟨rfl,j1⟩
 replace j1:=j1.jn U U
 rw[JO hr]
 refine Qb U U (Qn U U U (Qn U U U (Qn U U U (Xa j1 Zy U U ?_))))
 intro kb w2 j2
 refine QG j2 U U Xf U (by rfl) (i:=0) U (by decide) ?_
 intro w3 j3; dsimp only[List.set]at j3
 replace j3:=X6 (k:=(ob,a/ 64)) j3
 refine Qe U U (Qe U U (Qf (Qc (Qh [3,1,0,8,9,10,11] U (Qd (Qd (Qa (Qb U U (Xb U U (Qb U U (Zl 22 U (fun h4=> ?_) (fun h4=> ?_))))))))))))
 ·exact absurd h4 (by decide)
 refine Qo U U h4 (Qb U U (Qo U U h4 (Qb U U (Qo U U h4 (Qv W4 U (Z8 (j3.sp [1] U) id) U ?_)))))
 rintro _ w5 ⟨rfl,j5⟩
 replace j5:=j5.jn U U
 refine Qo U U h4 (Xb U U (QW U h4 U U (Qf (Qc (Qh [3,1,0,8,9,10,27] U (QT U (fun h6=> ?_) (fun h6=> ?_)))))))
 ·exact absurd h6 (by simp [Zk,ht])
 refine Qs (Qc (Qd (Qd (Qa (Qb U U (XC U U U (Qf (Qc (Qt U (fun h7=> ?_) (fun h7=> ?_))))))))))
 ·refine Qd (Qa (Qb U U (Qb U U (Xw U X9 Xf (by first | exact j5.blk 1 U) (Xv U) U U ?_))))
  refine Qv Rd U (HE (j5.sp [0,2] U) (by omega) hE ht (k:=(ob,a/ 64))) U ?_
  rintro _ w8 ⟨L1,V1,t1,x1,rfl,hT,j8⟩
  replace j8:=j8.jn U U
  have ht1:=hT.tr ht
  have hx1:=hT.lv
  have hE1:=hT.ends ht hE
  refine Qe U U (Qf (Qc (Qh [3,1,0,8,9,10,12] U ?_)))
  have j9:=JQ ht1 hx1 (j8.pick [0,1,2,3] U)
  have j10:=j9.drew
  refine QE [0,1,2,3,4,5,6,7,8,9,10,11,12,13] [13] Wa (by kernel_rfl) ?_
  refine Q9 U U U (Xi U U U (QQ U U U JR (Q4 U U U (Ql U J6 (j10.cell 0 U U)) (Q9 U U U (Q9 U U U (Xi U U U (QQ U U U Wj (Q4 U U U (Ql U J6 (j10.cell 0 U U)) (QZ U U U (fun _=>(Ub U U)) ?_)))))))))
  refine QZ U U U (fun _=>(Kd U U)) ?_
  refine Xi U U U (QQ U U U JR (Xe U U U U U U ?_))
  refine QV j10 U U Kx U (i:=0) U (Xv U) ?_
  intro w11 j11; dsimp only[List.set]at j11
  refine Zu (Xj (by kernel_rfl)) ?_
  refine VC.nil (Qc (Qh [3,1,0,8,9] U (Qd ?_)))
  have j12:=WJ (L:=_) (y:={x1 with rd:=x1.rd ||| (NW a&&& ~~~x1.wr)}) ht1 hx1 U (j11.pick [0,1,2,3,4,5,6,7,8,9,10,11,12] U)
  have hE2:=P1 (k:=(ob,a/ 64)) (x:={x1 with rd:=x1.rd ||| (NW a&&& ~~~x1.wr)}) ht1 hE1
  have j13:=j12.drew
  refine QE [0,1,2,3,4,5,6,8,9,7,10,11] [7,10] Wa (by kernel_rfl) ?_
  refine Q9 U U U (Xi U U U (QQ U U U XJ (Q4 U U U (Ql U Xy (Jk j13 0 U)) (Q9 U U U (Q9 U U U (Q4 U U U (XB U X9 Xf (by first | exact j13.blk 2 U) (Xv U) U) ?_))))))
  refine Q9 U U U (QZ U U U (fun _=>(DH U U (by omega) (by omega))) ?_)
  refine Xe U U U U U U ?_
  refine Qv YN U (Yy (j13.sp [0] U) hE2 id (ob,a/ 64)) U ?_
  rintro _ w14 ⟨rfl,j14⟩
  replace j14:=j14.jn U U
  rw[Dl h0]
  refine Xz (.skip (by kernel_rfl) (.cons (.inl ⟨rfl,(Ql U Xy (Jk j14 0 U))⟩) .nil)) ?_
  refine Xe U U U U U U ?_
  refine Qv IJ U (Am (j14.sp [1] U) (by omega) x1.own (a%64)) U ?_
  rintro _ w15 ⟨rfl,j15⟩
  replace j15:=j15.jn U U
  refine Xz (Xj (by kernel_rfl)) ?_
  exact XK U U U (VC.nil (Qc (Qh [8] U (Qu (QY (.inr U) U U (⟨_,U,L1,V1,t1,x1,hT,U,j15.pick [1,0,3] U⟩))))))
 exact absurd (Decidable.not_not.1 h7) h0
