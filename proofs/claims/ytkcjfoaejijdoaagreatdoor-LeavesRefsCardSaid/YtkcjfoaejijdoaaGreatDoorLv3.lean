/- leaves: owned -/
import Derived.Test.YtkcjfoaejijdoaaGreatDoorLv2
set_option linter.unusedSectionVars false
set_option linter.unusedVariables false
set_option maxRecDepth 100000
set_option maxHeartbeats 80000000000
namespace Go.Proofs.YtkcjfoaejijdoaaGreatDoor
open Go.RowKit M
variable [Inhabited SlW]
theorem Pd {V:VS} {j i:Int}:Ha V j i≠none↔V i≠none:= by
  unfold Ha
  cases h:V j with
  | none=> exact Iff.rfl
  | some x=>
    dsimp only
    by_cases e:i=j
    · subst e; rw[Qy,h]; simp
    · rw[Q7 e]
theorem Jv {V:VS} {j i:Int}:refW V j i≠none↔V i≠none:= by
  unfold refW;split
  · exact Iff.rfl
  · exact Pd
def Xq (V:VS) (j:Int):Prop:=j=0∨V j≠none
theorem stT_len {w:World} {p n F:Nat} {V:VS} {As:List Th} (h:Sat w (XG p n F V::As)) {j:Int} {x:Int×Bs} (hx:V j=some x):x.2.length=64:= by
  obtain⟨S,hI,rfl,_,_⟩:=Wz h
  unfold vw at hx
  cases hq:S.all j with
  | none=> rw[hq]at hx; cases hx
  | some y=>
    rw[hq]at hx
    have hx2:(y.refs,y.pg)=x:= by simpa using hx
    subst hx2
    exact(hI.ent hq).2.2.2.2.1
theorem Tc {w:World} {p n F:Nat} {V:VS} {As:List Th} (h:Sat w (XG p n F V::As)) {j:Int} (hj:Xq V j):(XH V j).length=64:= by
  unfold XH
  cases hq:V j with
  | none=>
    rcases hj with rfl | hj
    · simp [zer]
    · exact absurd hq hj
  | some x=> exact stT_len h hq
theorem TouR.alive {L L':LvD} {V V':VS} {id:Int} {t t':TrD} {k:KD} {x':LfD} (h:TouR L V id t k L' V' t' x') (ht:L.tr id=some t) (h0:id≠0) (ha:Xq V (X2 L id k)):Xq V' x'.own:= by
  rcases h with⟨hx,rfl,rfl,rfl⟩ | ⟨_,a,rfl,_,_,rfl⟩
  · have e:X2 L' id k=x'.own:=HX h0 ht hx
    rwa [e]at ha
  · rcases ha with e | ha
    · exact .inl e
    · exact .inr (Jv.2 (Jv.2 ha))
theorem Si {w:World} {b n Fr:Nat} {L:LvD} {V:VS} {F:Th} (hS:Sat w [XY b L,XG L.sp n Fr V,F]) (hn:n≤60000000000) (hE: ∀i,YS L.tr Zs i) {k:KD} (hal:Xq V (L.pres k)):
    Calls Tryz.prog 44 #[ptrV b 0,intV 0,Xo k] w (Ret fun v w'=> ∃L' V' s e,v= .tuple #[intV s,intV e]∧OwnP L V k Fr L' V' s e∧Sat w' [XY b L',XG L'.sp (n+4) Fr V',F]):= by
 refine Qm Tryz.func44 U Tryz.ntmps44 U ?_
 refine Qd (Qa (Zd hS U U U ?_))
 intro kb w1 hS1
 replace hS1:=X5 hS1
 refine Qe U U (Qe U U (Qf (Qc (Qd (Qa (Qe U U (Qf (Qc (Qd (Qd (Qa (Qb U U (X0 U U U (Qf (Qc (Qs U (fun h2=> ?_) (fun h2=> ?_)))))))))))))))))
 ·exact absurd U h2
 refine Qt (Qc (Qd (Qa (Qb U U (Qb U U ?_)))))
 refine Xt U X7 Xc (by first | exact hS1.blk 0 U) (by first | decide | exact Xa U | (simp;done) | omega) U U ?_
 refine Qw HM U (H7 (hS1.sp [1] U) hE 0 k) U ?_
 rintro _ w3 ⟨rfl,hS3⟩
 replace hS3:=hS3.jn U U
 clear hS1
 rw[show X2 L 0 k=L.pres k from Yy U]
 refine Qe U U (Qf (Qc (Qh [0,5,6,7,8,9] U (Qd (Qd ?_)))))
 have hS4:=Xy (hS3.pick [0,1,2,3] U)
 refine Qa (Qb U U (X0 U U U (Qb U U (QU 24 U (fun h5=> ?_) (fun h5=> ?_)))))
 ·have hs0:L.pres k≠0:=h5
  refine Ql U U (Xl h5) (Qb U U (Ql U U (Xl h5) (Qj U U (Ql U U (Xl h5) (Qg U XN U (Ql U U (Xl h5) (Qn U Xk (hS4.cell 0 U U) U (Ql U U (Xl h5) (Qb U U (Ql U U (Xl h5) (Qw Dw U (B4 (hS4.sp [6] U) (L.pres k)) U ?_)))))))))))
  rintro _ w6 ⟨rfl,hS6⟩
  replace hS6:=hS6.jn U U
  clear hS4
  refine Ql U U (Xl h5) (Xd U U U (Q9 U (Xl h5) U U (Qf (Qc (Qh [0,5,6,7,8,9,32] U (Qs U (fun h7=> ?_) (fun h7=> ?_)))))))
  ·have hs1:Zc V (L.pres k)=1:=h7
   exact Qd (Qa (Qb U U (Qe U U (Qe U U (Qf (Qc (Qu (Qp (WW (.inr U) U U U (⟨_,rfl,L,V,_,_,rfl,.inl ⟨rfl,rfl,hs0,hs1,rfl,rfl⟩,((Xe (m:=n+4) (by omega) (hS6.pick [0,1,2,3,4,5,7] U)).reorder [1,2,3,4,5,0,6] U |> fun q=>QZ q)⟩))))))))))
  have hnx: ¬(L.pres k≠0∧Zc V (L.pres k)=1):= fun q=>h7 q.2
  refine Qt (Qc (Qd ?_))
  have hS8:=hS6.drew
  refine QF [0,1,2,3,4,5,6,7,8,9,10,11,12,13,14,15] [9,10] We (by kernel_rfl) ?_
  refine QG U U U (Xh U U U (QV U U U XN (Q4 U U U (Qr U Xk (hS8.cell 1 U U)) (QG U U U (Xh U U U (QV U U U XN (Q4 U U U (Qr U Xk (hS8.cell 1 U U)) (QG U U U (Xn U U U U U U ?_)))))))))
  refine Qw Ya U (YP (hS8.sp [0] U) (L.pres k)) U ?_
  rintro _ w9 ⟨rfl,hS9⟩
  replace hS9:=hS9.jn U U
  clear hS8
  refine XQ (.skip (by kernel_rfl) (.cons (.inl ⟨rfl,(Qr U Xk (hS9.cell 1 U U))⟩) .nil)) ?_
  refine Xn U U U U U U ?_
  have hpg0:=Tc (hS9.pick [0,1,2,3,4,5,6,7] U) hal
  refine XU Rv U (GN (hS9.sp [0] U) (by omega) hpg0) U ?_
  rintro e w10 ⟨_,rfl,(⟨rfl,hag,hS10⟩ | ⟨fr,rfl,hf1,hf0,hS10⟩)⟩
  ·refine⟨_,rfl, ?_⟩
   replace hS10:=hS10.jn U U
   clear hS9
   refine XQ (X1 (by kernel_rfl)) ?_
   refine QG U U U (Wc U U U U (Wc U U U U (Za U U U (Za U U U (VC.nil (Qc (Qh [0,5,6,7,8,10,11] U (Qd (Qd (Qa (Qb U U (X0 U U U (Qf (Qc (Qs U (fun h11=> ?_) (fun h11=> ?_))))))))))))))))
   ·exact Qd (Qa (Qb U U (Qe U U (Qe U U (Qf (Qc (Qu (Qp (WW (.inr U) U U U (⟨_,rfl,L,V,_,_,rfl,.inr (.inl ⟨rfl,rfl,hag,rfl,rfl⟩),((Xe (m:=n+4) (by omega) (hS10.pick [0,1,2,3,4,5,7] U)).reorder [1,2,3,4,5,0,6] U |> fun q=>QZ q)⟩))))))))))
   exact absurd (by decide) h11
  refine⟨_,rfl, ?_⟩
  replace hS10:=hS10.jn U U
  clear hS9
  refine XQ (X1 (by kernel_rfl)) ?_
  refine QG U U U (Wc U U U U (Wc U U U U (Za U U U (Za U U U (VC.nil (Qc (Qh [0,5,6,7,8,10,11] U (Qd (Qd (Qa (Qb U U (X0 U U U (Qf (Qc (Qs U (fun h12=> ?_) (fun h12=> ?_))))))))))))))))
  ·exact absurd U h12
  refine Qt (Qc (Qd (Qd (Qa (Qb U U (Wy Tryz.underlying89 U U U (Qf (Qc (Qh [0,5,6,7,8,10,52] U (Xf U (Qa (Qb U U ?_))))))))))))
  refine Xt U X7 Xc (by first | exact hS10.blk 1 U | exact hS10.blk 6 U) (by first | decide | exact Xa U | (simp;done) | omega) U U ?_
  refine Qb U U (Qw K4 U (PX (hS10.sp [1,2,5,0] U) (by omega) k fr) U ?_)
  rintro _ w13 ⟨rfl,hS13⟩
  replace hS13:=hS13.jn U U
  clear hS10
  exact Qf (Qc (Qh [6,7,10] U (Qd (Qa (Qb U U (Qe U U (Qe U U (Qf (Qc (Qu (WW (.inr U) U U U (⟨_,rfl,{L with pres:=Zv L.pres k fr,sh:=Jq (Xi V fr (some (1,XH V (L.pres k)))) L.sh (L.pres k)},_,_,_,rfl,.inr (.inr ⟨rfl,hf1,hf0,hnx,rfl,rfl⟩),((Xe (m:=n+4) (by omega) (hS13.pick [3,0,1,4,5,2,7] U)).reorder [1,2,3,4,5,0,6] U |> fun q=>QZ (L:={L with pres:=Zv L.pres k fr,sh:=Jq (Xi V fr (some (1,XH V (L.pres k)))) L.sh (L.pres k)}) q)⟩))))))))))))
 have hnx: ¬(L.pres k≠0∧Zc V (L.pres k)=1):= fun q=>h5 q.1
 refine Qi U U (QC h5) U (Qi U U (QC h5) U (Qi U U (QC h5) U (Qi U U (QC h5) U (Qi U U (QC h5) U (Qi U U (QC h5) U (Qi U U (QC h5) U (QP U (QC h5) U U (Qf (Qc (Qh [0,5,6,7,8,9,32] U (QT U (Qt (Qc (Qd ?_))))))))))))))
 have hS14:=hS4.drew
 refine QF [0,1,2,3,4,5,6,7,8,9,10,11,12,13,14,15] [9,10] We (by kernel_rfl) ?_
 refine QG U U U (Xh U U U (QV U U U XN (Q4 U U U (Qr U Xk (hS14.cell 0 U U)) (QG U U U (Xh U U U (QV U U U XN (Q4 U U U (Qr U Xk (hS14.cell 0 U U)) (QG U U U (Xn U U U U U U ?_)))))))))
 refine Qw Ya U (YP (hS14.sp [6] U) (L.pres k)) U ?_
 rintro _ w15 ⟨rfl,hS15⟩
 replace hS15:=hS15.jn U U
 clear hS14
 refine XQ (.skip (by kernel_rfl) (.cons (.inl ⟨rfl,(Qr U Xk (hS15.cell 1 U U))⟩) .nil)) ?_
 refine Xn U U U U U U ?_
 have hpg0:=Tc (hS15.pick [0,1,2,3,4,5,6,7] U) hal
 refine XU Rv U (GN (hS15.sp [0] U) (by omega) hpg0) U ?_
 rintro e w16 ⟨_,rfl,(⟨rfl,hag,hS16⟩ | ⟨fr,rfl,hf1,hf0,hS16⟩)⟩
 ·refine⟨_,rfl, ?_⟩
  replace hS16:=hS16.jn U U
  clear hS15
  refine XQ (X1 (by kernel_rfl)) ?_
  refine QG U U U (Wc U U U U (Wc U U U U (Za U U U (Za U U U (VC.nil (Qc (Qh [0,5,6,7,8,10,11] U (Qd (Qd (Qa (Qb U U (X0 U U U (Qf (Qc (Qs U (fun h17=> ?_) (fun h17=> ?_))))))))))))))))
  ·exact Qd (Qa (Qb U U (Qe U U (Qe U U (Qf (Qc (Qu (Qp (WW (.inr U) U U U (⟨_,rfl,L,V,_,_,rfl,.inr (.inl ⟨rfl,rfl,hag,rfl,rfl⟩),((Xe (m:=n+4) (by omega) (hS16.pick [0,1,2,3,4,5,7] U)).reorder [1,2,3,4,5,0,6] U |> fun q=>QZ q)⟩))))))))))
  exact absurd (by decide) h17
 refine⟨_,rfl, ?_⟩
 replace hS16:=hS16.jn U U
 clear hS15
 refine XQ (X1 (by kernel_rfl)) ?_
 refine QG U U U (Wc U U U U (Wc U U U U (Za U U U (Za U U U (VC.nil (Qc (Qh [0,5,6,7,8,10,11] U (Qd (Qd (Qa (Qb U U (X0 U U U (Qf (Qc (Qs U (fun h18=> ?_) (fun h18=> ?_))))))))))))))))
 ·exact absurd U h18
 refine Qt (Qc (Qd (Qd (Qa (Qb U U (Wy Tryz.underlying89 U U U (Qf (Qc (Qh [0,5,6,7,8,10,52] U (Xf U (Qa (Qb U U ?_))))))))))))
 refine Xt U X7 Xc (by first | exact hS16.blk 1 U | exact hS16.blk 6 U) (by first | decide | exact Xa U | (simp;done) | omega) U U ?_
 refine Qb U U (Qw K4 U (PX (hS16.sp [1,2,5,0] U) (by omega) k fr) U ?_)
 rintro _ w19 ⟨rfl,hS19⟩
 replace hS19:=hS19.jn U U
 clear hS16
 exact Qf (Qc (Qh [6,7,10] U (Qd (Qa (Qb U U (Qe U U (Qe U U (Qf (Qc (Qu (WW (.inr U) U U U (⟨_,rfl,{L with pres:=Zv L.pres k fr,sh:=Jq (Xi V fr (some (1,XH V (L.pres k)))) L.sh (L.pres k)},_,_,_,rfl,.inr (.inr ⟨rfl,hf1,hf0,hnx,rfl,rfl⟩),((Xe (m:=n+4) (by omega) (hS19.pick [3,0,1,4,5,2,7] U)).reorder [1,2,3,4,5,0,6] U |> fun q=>QZ (L:={L with pres:=Zv L.pres k fr,sh:=Jq (Xi V fr (some (1,XH V (L.pres k)))) L.sh (L.pres k)}) q)⟩))))))))))))
theorem Sg {w:World} {b n Fr:Nat} {L:LvD} {V:VS} {F:Th} (hS:Sat w [XY b L,XG L.sp n Fr V,F]) (hn:n≤60000000000) (hE: ∀i,YS L.tr Zs i) {id:Int} {t:TrD} (ht:L.tr id=some t) {k:KD} (h0:id≠0) (hal:Xq V (X2 L id k)):
    Calls Tryz.prog 44 #[ptrV b 0,intV id,Xo k] w (Ret fun v w'=> ∃L1 V1 t1 x1 L' V' s e,v= .tuple #[intV s,intV e]∧TouR L V id t k L1 V1 t1 x1∧OwnT L1 V1 id t1 k x1 Fr L' V' s e∧Sat w' [XY b L',XG L'.sp (n+4) Fr V',F]):= by
 refine Qm Tryz.func44 U Tryz.ntmps44 U ?_
 refine Qd (Qa (Zd hS U U U ?_))
 intro kb w1 hS1
 replace hS1:=X5 hS1
 refine Qe U U (Qe U U (Qf (Qc (Qd (Qa (Qe U U (Qf (Qc (Qd (Qd (Qa (Qb U U (X0 U U U (Qf (Qc (Qs U (fun h2=> ?_) (fun h2=> ?_)))))))))))))))))
 ·refine Qa (Qb U U (Qb U U ?_))
  refine Xt U X7 Xc (by first | exact hS1.blk 0 U) (by first | decide | exact Xa U | (simp;done) | omega) U U ?_
  refine Qw K6 U (Hr (hS1.sp [1,2] U) (by omega) hE ht (k:=k)) U ?_
  rintro _ w3 ⟨L1,V1,t1,x1,rfl,hT,hS3⟩
  replace hS3:=hS3.jn U U
  clear hS1
  have ht1:=hT.tr ht
  have hx1:=hT.lv
  have hE1:=hT.ends ht hE
  have hal1:=hT.alive ht h0 hal
  refine Qe U U (Qf (Qc (Qh [1,0,5,6,7,8] U (Qd (Qa (Qb U U (Qb U U ?_)))))))
  refine Xt U X7 Xc (by first | exact hS3.blk 2 U) (by first | decide | exact Xa U | (simp;done) | omega) U U ?_
  refine Qw HM U (H7 (hS3.sp [0] U) hE1 id k) U ?_
  rintro _ w4 ⟨rfl,hS4⟩
  replace hS4:=hS4.jn U U
  clear hS3
  rw[hT.sees ht h0]
  refine Qe U U (Qf (Qc (Qh [0,5,6,7,8,9] U (Qd (Qd ?_)))))
  have hS5:=Xy (hS4.pick [0,1,2,3] U)
  refine Qa (Qb U U (X0 U U U (Qb U U (QU 24 U (fun h6=> ?_) (fun h6=> ?_)))))
  ·have hs0:x1.own≠0:=h6
   refine Ql U U (Xl h6) (Qb U U (Ql U U (Xl h6) (Qj U U (Ql U U (Xl h6) (Qg U XN U (Ql U U (Xl h6) (Qn U Xk (hS5.cell 0 U U) U (Ql U U (Xl h6) (Qb U U (Ql U U (Xl h6) (Qw Dw U (B4 (hS5.sp [5] U) x1.own) U ?_)))))))))))
   rintro _ w7 ⟨rfl,hS7⟩
   replace hS7:=hS7.jn U U
   clear hS5
   refine Ql U U (Xl h6) (Xd U U U (Q9 U (Xl h6) U U (Qf (Qc (Qh [0,5,6,7,8,9,32] U (Qs U (fun h8=> ?_) (fun h8=> ?_)))))))
   ·have hs1:Zc V1 x1.own=1:=h8
    exact Qd (Qa (Qb U U (Qe U U (Qe U U (Qf (Qc (Qu (Qp (WW (.inr U) U U U (⟨_,rfl,L1,V1,t1,x1,L1,V1,_,_,rfl,hT,.inl ⟨rfl,rfl,hs0,hs1,rfl,rfl⟩,((Xe (m:=n+4) (by omega) (hS7.pick [0,1,2,3,4,5,7] U)).reorder [1,2,3,4,5,0,6] U |> fun q=>QZ q)⟩))))))))))
   have hnx: ¬(x1.own≠0∧Zc V1 x1.own=1):= fun q=>h8 q.2
   refine Qt (Qc (Qd ?_))
   have hS9:=hS7.drew
   refine QF [0,1,2,3,4,5,6,7,8,9,10,11,12,13,14,15] [9,10] We (by kernel_rfl) ?_
   refine QG U U U (Xh U U U (QV U U U XN (Q4 U U U (Qr U Xk (hS9.cell 1 U U)) (QG U U U (Xh U U U (QV U U U XN (Q4 U U U (Qr U Xk (hS9.cell 1 U U)) (QG U U U (Xn U U U U U U ?_)))))))))
   refine Qw Ya U (YP (hS9.sp [0] U) x1.own) U ?_
   rintro _ w10 ⟨rfl,hS10⟩
   replace hS10:=hS10.jn U U
   clear hS9
   refine XQ (.skip (by kernel_rfl) (.cons (.inl ⟨rfl,(Qr U Xk (hS10.cell 1 U U))⟩) .nil)) ?_
   refine Xn U U U U U U ?_
   have hpg1:=Tc (hS10.pick [0,1,2,3,4,5,6,7] U) hal1
   refine XU Rv U (GN (hS10.sp [0] U) (by omega) hpg1) U ?_
   rintro e w11 ⟨_,rfl,(⟨rfl,hag,hS11⟩ | ⟨fr,rfl,hf1,hf0,hS11⟩)⟩
   ·refine⟨_,rfl, ?_⟩
    replace hS11:=hS11.jn U U
    clear hS10
    refine XQ (X1 (by kernel_rfl)) ?_
    refine QG U U U (Wc U U U U (Wc U U U U (Za U U U (Za U U U (VC.nil (Qc (Qh [0,5,6,7,8,10,11] U (Qd (Qd (Qa (Qb U U (X0 U U U (Qf (Qc (Qs U (fun h12=> ?_) (fun h12=> ?_))))))))))))))))
    ·exact Qd (Qa (Qb U U (Qe U U (Qe U U (Qf (Qc (Qu (Qp (WW (.inr U) U U U (⟨_,rfl,L1,V1,t1,x1,L1,V1,_,_,rfl,hT,.inr (.inl ⟨rfl,rfl,hag,rfl,rfl⟩),((Xe (m:=n+4) (by omega) (hS11.pick [0,1,2,3,4,5,7] U)).reorder [1,2,3,4,5,0,6] U |> fun q=>QZ q)⟩))))))))))
    exact absurd (by decide) h12
   refine⟨_,rfl, ?_⟩
   replace hS11:=hS11.jn U U
   clear hS10
   refine XQ (X1 (by kernel_rfl)) ?_
   refine QG U U U (Wc U U U U (Wc U U U U (Za U U U (Za U U U (VC.nil (Qc (Qh [0,5,6,7,8,10,11] U (Qd (Qd (Qa (Qb U U (X0 U U U (Qf (Qc (Qs U (fun h13=> ?_) (fun h13=> ?_))))))))))))))))
   ·exact absurd U h13
   refine Qt (Qc (Qd (Qd (Qa (Qb U U (ZO Tryz.underlying89 U U U (Qf (Qc (Qh [0,5,6,7,8,10,52] U (QT U (Qd ?_)))))))))))
   have hS14:=QZ (L:=L1) (hS11.pick [1,2,3,4,5,0,6,7] U)
   have hS15:=J5 ht1 hx1 (hS14.pick [0,1,2,3] U)
   refine Qa (Qb U U (Qb U U (Qj U U (Qg U W5 U (Qn U QL (hS15.cell 0 U U) U (Qw HF U (H5 (hS15.sp [6,9,10] U) (by omega) x1.own) U ?_))))))
   rintro _ w16 ⟨rfl,hS16⟩
   replace hS16:=hS16.jn U U
   clear hS15
   refine Qf (Qc (Qh [6,7,8,10] U (Qa (Qb U U (Qb U U (Qj U U (Qg U W5 U (Q6 hS16 U U JG U (i:=3) U (Xa U) ?_))))))))
   intro w17 hS17; dsimp only[List.set]at hS17
   clear hS16
   refine Qf (Qc (Qd (Qa (Qb U U (Qe U U (Qe U U (Qf (Qc (Qu (WW (.inr U) U U U ?_))))))))))
   have hS18:=W4 (L:={L1 with sh:=Jq (Xi V1 fr (some (1,XH V1 x1.own))) L1.sh x1.own}) (y:={x1 with own:=fr}) ht1 hx1 U (hS17.pick [3,4,5,6,7,8,0,9,10,1,2,11,12] U)
   exact⟨_,rfl,L1,V1,t1,x1,Z1 ({L1 with sh:=Jq (Xi V1 fr (some (1,XH V1 x1.own))) L1.sh x1.own}) id t1 k {x1 with own:=fr},_,_,_,rfl,hT,.inr (.inr ⟨rfl,hf1,hf0,hnx,rfl,rfl⟩),(Xe (m:=n+4) (by omega) (hS18.pick [1,0,3] U)).reorder [1,0,2] U⟩
  have hnx: ¬(x1.own≠0∧Zc V1 x1.own=1):= fun q=>h6 q.1
  refine Qi U U (QC h6) U (Qi U U (QC h6) U (Qi U U (QC h6) U (Qi U U (QC h6) U (Qi U U (QC h6) U (Qi U U (QC h6) U (Qi U U (QC h6) U (QP U (QC h6) U U (Qf (Qc (Qh [0,5,6,7,8,9,32] U (QT U (Qt (Qc (Qd ?_))))))))))))))
  have hS19:=hS5.drew
  refine QF [0,1,2,3,4,5,6,7,8,9,10,11,12,13,14,15] [9,10] We (by kernel_rfl) ?_
  refine QG U U U (Xh U U U (QV U U U XN (Q4 U U U (Qr U Xk (hS19.cell 0 U U)) (QG U U U (Xh U U U (QV U U U XN (Q4 U U U (Qr U Xk (hS19.cell 0 U U)) (QG U U U (Xn U U U U U U ?_)))))))))
  refine Qw Ya U (YP (hS19.sp [5] U) x1.own) U ?_
  rintro _ w20 ⟨rfl,hS20⟩
  replace hS20:=hS20.jn U U
  clear hS19
  refine XQ (.skip (by kernel_rfl) (.cons (.inl ⟨rfl,(Qr U Xk (hS20.cell 1 U U))⟩) .nil)) ?_
  refine Xn U U U U U U ?_
  have hpg1:=Tc (hS20.pick [0,1,2,3,4,5,6,7] U) hal1
  refine XU Rv U (GN (hS20.sp [0] U) (by omega) hpg1) U ?_
  rintro e w21 ⟨_,rfl,(⟨rfl,hag,hS21⟩ | ⟨fr,rfl,hf1,hf0,hS21⟩)⟩
  ·refine⟨_,rfl, ?_⟩
   replace hS21:=hS21.jn U U
   clear hS20
   refine XQ (X1 (by kernel_rfl)) ?_
   refine QG U U U (Wc U U U U (Wc U U U U (Za U U U (Za U U U (VC.nil (Qc (Qh [0,5,6,7,8,10,11] U (Qd (Qd (Qa (Qb U U (X0 U U U (Qf (Qc (Qs U (fun h22=> ?_) (fun h22=> ?_))))))))))))))))
   ·exact Qd (Qa (Qb U U (Qe U U (Qe U U (Qf (Qc (Qu (Qp (WW (.inr U) U U U (⟨_,rfl,L1,V1,t1,x1,L1,V1,_,_,rfl,hT,.inr (.inl ⟨rfl,rfl,hag,rfl,rfl⟩),((Xe (m:=n+4) (by omega) (hS21.pick [0,1,2,3,4,5,7] U)).reorder [1,2,3,4,5,0,6] U |> fun q=>QZ q)⟩))))))))))
   exact absurd (by decide) h22
  refine⟨_,rfl, ?_⟩
  replace hS21:=hS21.jn U U
  clear hS20
  refine XQ (X1 (by kernel_rfl)) ?_
  refine QG U U U (Wc U U U U (Wc U U U U (Za U U U (Za U U U (VC.nil (Qc (Qh [0,5,6,7,8,10,11] U (Qd (Qd (Qa (Qb U U (X0 U U U (Qf (Qc (Qs U (fun h23=> ?_) (fun h23=> ?_))))))))))))))))
  ·exact absurd U h23
  refine Qt (Qc (Qd (Qd (Qa (Qb U U (ZO Tryz.underlying89 U U U (Qf (Qc (Qh [0,5,6,7,8,10,52] U (QT U (Qd ?_)))))))))))
  have hS24:=QZ (L:=L1) (hS21.pick [1,2,3,4,5,0,6,7] U)
  have hS25:=J5 ht1 hx1 (hS24.pick [0,1,2,3] U)
  refine Qa (Qb U U (Qb U U (Qj U U (Qg U W5 U (Qn U QL (hS25.cell 0 U U) U (Qw HF U (H5 (hS25.sp [6,9,10] U) (by omega) x1.own) U ?_))))))
  rintro _ w26 ⟨rfl,hS26⟩
  replace hS26:=hS26.jn U U
  clear hS25
  refine Qf (Qc (Qh [6,7,8,10] U (Qa (Qb U U (Qb U U (Qj U U (Qg U W5 U (Q6 hS26 U U JG U (i:=3) U (Xa U) ?_))))))))
  intro w27 hS27; dsimp only[List.set]at hS27
  clear hS26
  refine Qf (Qc (Qd (Qa (Qb U U (Qe U U (Qe U U (Qf (Qc (Qu (WW (.inr U) U U U ?_))))))))))
  have hS28:=W4 (L:={L1 with sh:=Jq (Xi V1 fr (some (1,XH V1 x1.own))) L1.sh x1.own}) (y:={x1 with own:=fr}) ht1 hx1 U (hS27.pick [3,4,5,6,7,8,0,9,10,1,2,11,12] U)
  exact⟨_,rfl,L1,V1,t1,x1,Z1 ({L1 with sh:=Jq (Xi V1 fr (some (1,XH V1 x1.own))) L1.sh x1.own}) id t1 k {x1 with own:=fr},_,_,_,rfl,hT,.inr (.inr ⟨rfl,hf1,hf0,hnx,rfl,rfl⟩),(Xe (m:=n+4) (by omega) (hS28.pick [1,0,3] U)).reorder [1,0,2] U⟩
 exact absurd (Decidable.not_not.1 h2) h0
end Go.Proofs.YtkcjfoaejijdoaaGreatDoor
namespace Go.Proofs.YtkcjfoaejijdoaaGreatDoor
open Go.RowKit M
variable [Inhabited SlW]
theorem JB {w:World} {As:List Th} {b:Nat} {L:LvD} (hS:Sat w As) (i:Nat) (hi:As[i]? =some (XY b L)):w.cell? ⟨b,0,none⟩=some (ptrV L.sp 0):=(Xy (hS.pull i hi)).cell 0 U U
theorem J3 {ob:Bs} {a:Int} (h:0≤a∧a<16384):UN ob a= .tuple #[Xo (ob,a/ 64),Zz (1#64<<<(a%64).toNat),.bool true]:= by unfold UN; rw[if_pos h]
theorem Ux {ob:Bs} {a:Int} (h: ¬(0≤a∧a<16384)):UN ob a= .tuple #[Xo ([],0),Zz 0#64,.bool false]:= by unfold UN; rw[if_neg h]
def N8 (a:Int):BitVec 64:=1#64<<<(a%64).toNat
theorem BC {L:LvD} {id:Int} {t:TrD} {k:KD} {x:LfD} (h0:id≠0):X2 (Z1 L id t k x) id k=x.own:=HX h0 BB Qy
theorem OwnT.leaf {L L':LvD} {V V':VS} {id:Int} {t:TrD} {k:KD} {x:LfD} {Fr:Nat} {s e:Int} (h:OwnT L V id t k x Fr L' V' s e) (ht:L.tr id=some t) (hx:t.lv k=some x): ∃t' x',L'.tr id=some t'∧t'.lv k=some x'∧x'.wr=x.wr∧x'.rd=x.rd∧x'.base=x.base∧(e=0→x'.own=s):= by
  rcases h with⟨_,h2,_,_,rfl,_⟩ | ⟨h1,_,_,rfl,_⟩ | ⟨_,_,_,_,_,rfl⟩
  · exact⟨t,x,ht,hx,rfl,rfl,rfl, fun _=>h2.symm⟩
  · exact⟨t,x,ht,hx,rfl,rfl,rfl, fun q=> by omega⟩
  · exact⟨_,_,BB,Qy,rfl,rfl,rfl, fun _=>rfl⟩
theorem OwnT.sp {L L':LvD} {V V':VS} {id:Int} {t:TrD} {k:KD} {x:LfD} {Fr:Nat} {s e:Int} (h:OwnT L V id t k x Fr L' V' s e):L'.sp=L.sp:= by
  rcases h with⟨_,h2,_,_,rfl,_⟩ | ⟨h1,_,_,rfl,_⟩ | ⟨_,_,_,_,_,rfl⟩<;>rfl
theorem Ic {w:World} {b n Fr:Nat} {L:LvD} {V:VS} {F:Th} (hS:Sat w [XY b L,XG L.sp n Fr V,F]) (hn:n≤60000000000) (ob:Bs) (a:Int) (id:Int) (hr: ¬(0≤a∧a<16384)):
    Calls Tryz.prog 12 #[ptrV b 0,intV id,strV ob,intV a] w (Ret fun v w'=>v=Wu 0∧Sat w' [XY b L,XG L.sp n Fr V,F]):= by
 refine Qm Tryz.func12 U Tryz.ntmps12 U ?_
 refine Qd (Qa (Qe U U (Qf (Qc (Qd (Qa (Qb U U (Qb U U (Qw Y2 U (WF (hS.sp [] U) ob a) U ?_)))))))))
 rintro _ w1 ⟨rfl,hS1⟩
 replace hS1:=hS1.jn U U
 rw[Ux hr]
 refine Qb U U (Qq U U U (Qq U U U (Qq U U U (QX hS1 Z2 U U ?_))))
 intro kb w2 hS2
 clear hS1
 refine QK hS2 U U Xc U (by rfl) (i:=0) U (by decide) ?_
 intro w3 hS3; dsimp only[List.set]at hS3
 clear hS2
 replace hS3:=X5 (k:=([],0)) hS3
 refine Qe U U (Qe U U (Qf (Qc (Qh [3,1,0,8,9,10,11] U (Qd (Qd (Qa (Qb U U (QQ U U (Qb U U (Ze 22 U (fun h4=> ?_) (fun h4=> ?_))))))))))))
 ·exact Qi U U h4 U (Qi U U h4 U (Qi U U h4 U (Qi U U h4 U (Q9 U h4 U U (Qf (Qc (Qh [3,1,0,8,9,10,27] U (Xf U (Qd (Qa (Qe U U (Qf (Qc (Qu (Qp (QR (.inr U) U U (⟨_,rfl,rfl,hS3.pick [1,2,3] U⟩)))))))))))))))))
 exact absurd h4 (by decide)
theorem Ie {w:World} {b n Fr:Nat} {L:LvD} {V:VS} {F:Th} (hS:Sat w [XY b L,XG L.sp n Fr V,F]) (hn:n≤60000000000) (ob:Bs) (a:Int) (id:Int) (hr:0≤a∧a<16384) (hth:Zt L id=false):
    Calls Tryz.prog 12 #[ptrV b 0,intV id,strV ob,intV a] w (Ret fun v w'=>v=Wu 0∧Sat w' [XY b L,XG L.sp n Fr V,F]):= by
 refine Qm Tryz.func12 U Tryz.ntmps12 U ?_
 refine Qd (Qa (Qe U U (Qf (Qc (Qd (Qa (Qb U U (Qb U U (Qw Y2 U (WF (hS.sp [] U) ob a) U ?_)))))))))
 rintro _ w1 ⟨rfl,hS1⟩
 replace hS1:=hS1.jn U U
 rw[J3 hr]
 refine Qb U U (Qq U U U (Qq U U U (Qq U U U (QX hS1 Z2 U U ?_))))
 intro kb w2 hS2
 clear hS1
 refine QK hS2 U U Xc U (by rfl) (i:=0) U (by decide) ?_
 intro w3 hS3; dsimp only[List.set]at hS3
 clear hS2
 replace hS3:=X5 (k:=(ob,a/ 64)) hS3
 refine Qe U U (Qe U U (Qf (Qc (Qh [3,1,0,8,9,10,11] U (Qd (Qd (Qa (Qb U U (QQ U U (Qb U U (Ze 22 U (fun h4=> ?_) (fun h4=> ?_))))))))))))
 ·exact Qi U U h4 U (Qi U U h4 U (Qi U U h4 U (Qi U U h4 U (Q9 U h4 U U (Qf (Qc (Qh [3,1,0,8,9,10,27] U (Xf U (Qd (Qa (Qe U U (Qf (Qc (Qu (Qp (QR (.inr U) U U (⟨_,rfl,rfl,hS3.pick [1,2,3] U⟩)))))))))))))))))
 refine Ql U U h4 (Qb U U (Ql U U h4 (Qb U U (Ql U U h4 (Qw WX U (ZH (hS3.sp [1] U) id) U ?_)))))
 rintro _ w5 ⟨rfl,hS5⟩
 replace hS5:=hS5.jn U U
 clear hS3
 refine Ql U U h4 (QQ U U (QP U h4 U U (Qf (Qc (Qh [3,1,0,8,9,10,27] U (QN U (fun h6=> ?_) (fun h6=> ?_)))))))
 ·exact Qd (Qa (Qe U U (Qf (Qc (Qu (Qp (QR (.inr U) U U (⟨_,rfl,rfl,hS5.pick [0,2,3] U⟩))))))))
 exact absurd h6 (by rw[hth];decide)
theorem If {w:World} {b n Fr:Nat} {L:LvD} {V:VS} {F:Th} (hS:Sat w [XY b L,XG L.sp n Fr V,F]) (hn:n≤60000000000) (ob:Bs) (a:Int) (hE: ∀i,YS L.tr Zs i) (hr:0≤a∧a<16384):
    Calls Tryz.prog 12 #[ptrV b 0,intV 0,strV ob,intV a] w (Ret fun v w'=>v=Wu (btV V (L.pres (ob,a/ 64)) (a%64))∧Sat w' [XY b L,XG L.sp n Fr V,F]):= by
 refine Qm Tryz.func12 U Tryz.ntmps12 U ?_
 refine Qd (Qa (Qe U U (Qf (Qc (Qd (Qa (Qb U U (Qb U U (Qw Y2 U (WF (hS.sp [] U) ob a) U ?_)))))))))
 rintro _ w1 ⟨rfl,hS1⟩
 replace hS1:=hS1.jn U U
 rw[J3 hr]
 refine Qb U U (Qq U U U (Qq U U U (Qq U U U (QX hS1 Z2 U U ?_))))
 intro kb w2 hS2
 clear hS1
 refine QK hS2 U U Xc U (by rfl) (i:=0) U (by decide) ?_
 intro w3 hS3; dsimp only[List.set]at hS3
 clear hS2
 replace hS3:=X5 (k:=(ob,a/ 64)) hS3
 refine Qe U U (Qe U U (Qf (Qc (Qh [3,1,0,8,9,10,11] U (Qd (Qd (Qa (Qb U U (QQ U U (Qb U U (Ze 22 U (fun h4=> ?_) (fun h4=> ?_))))))))))))
 ·exact absurd h4 (by decide)
 refine Ql U U h4 (Qb U U (Ql U U h4 (Qb U U (Ql U U h4 (Qw WX U (ZH (hS3.sp [1] U) 0) U ?_)))))
 rintro _ w5 ⟨rfl,hS5⟩
 replace hS5:=hS5.jn U U
 clear hS3
 refine Ql U U h4 (QQ U U (QP U h4 U U (Qf (Qc (Qh [3,1,0,8,9,10,27] U (QN U (fun h6=> ?_) (fun h6=> ?_)))))))
 ·exact absurd h6 (by simp [Zt])
 refine Qt (Qc (Qd (Qd (Qa (Qb U U (X0 U U U (Qf (Qc (Qs U (fun h7=> ?_) (fun h7=> ?_))))))))))
 ·exact absurd U h7
 refine Qt (Qc (Qd ?_))
 have hS8:=hS5.drew
 refine QF [0,1,2,3,4,5,6,8,9,7,10,11] [7,10] We (by kernel_rfl) ?_
 refine QG U U U (Xh U U U (QV U U U XN (Q4 U U U (Qr U Xk (JB hS8 0 U)) (QG U U U (QG U U U (Q4 U U U (XF U X7 Xc (by first | exact hS8.blk 1 U) (Xa U) U) ?_))))))
 refine QG U U U (X8 U U U (fun _=>(Di U U (by omega) (by omega))) ?_)
 refine Xn U U U U U U ?_
 refine Qw HM U (H7 (hS8.sp [0] U) hE 0 (ob,a/ 64)) U ?_
 rintro _ w9 ⟨rfl,hS9⟩
 replace hS9:=hS9.jn U U
 clear hS8
 rw[show X2 L 0 (ob,a/ 64)=L.pres (ob,a/ 64) from Yy U]
 refine XQ (.skip (by kernel_rfl) (.cons (.inl ⟨rfl,(Qr U Xk (JB hS9 0 U))⟩) .nil)) ?_
 refine Xn U U U U U U ?_
 refine Qw OM U (Eu (hS9.sp [2] U) (by omega) (L.pres (ob,a/ 64)) (a%64)) U ?_
 rintro _ w10 ⟨rfl,hS10⟩
 replace hS10:=hS10.jn U U
 clear hS9
 refine XQ (X1 (by kernel_rfl)) ?_
 exact Za U U U (VC.nil (Qc (Qh [8] U (Qu (QR (.inr U) U U (⟨_,rfl,rfl,hS10.pick [1,0,3] U⟩))))))
theorem Ib {w:World} {b n Fr:Nat} {L:LvD} {V:VS} {F:Th} (hS:Sat w [XY b L,XG L.sp n Fr V,F]) (hn:n≤60000000000) (hE: ∀i,YS L.tr Zs i) {id:Int} {t:TrD} (ht:L.tr id=some t) (h0:id≠0) (ob:Bs) (a:Int) (hr:0≤a∧a<16384):
    Calls Tryz.prog 12 #[ptrV b 0,intV id,strV ob,intV a] w (Ret fun v w'=> ∃L1 V1 t1 x1,TouR L V id t (ob,a/ 64) L1 V1 t1 x1∧v=Wu (btV V1 x1.own (a%64))∧Sat w' [XY b (Z1 L1 id t1 (ob,a/ 64) {x1 with rd:=x1.rd ||| (N8 a&&& ~~~x1.wr)}),XG L1.sp (n+2) Fr V1,F]):= by
 refine Qm Tryz.func12 U Tryz.ntmps12 U ?_
 refine Qd (Qa (Qe U U (Qf (Qc (Qd (Qa (Qb U U (Qb U U (Qw Y2 U (WF (hS.sp [] U) ob a) U ?_)))))))))
 rintro _ w1 ⟨rfl,hS1⟩
 replace hS1:=hS1.jn U U
 rw[J3 hr]
 refine Qb U U (Qq U U U (Qq U U U (Qq U U U (QX hS1 Z2 U U ?_))))
 intro kb w2 hS2
 clear hS1
 refine QK hS2 U U Xc U (by rfl) (i:=0) U (by decide) ?_
 intro w3 hS3; dsimp only[List.set]at hS3
 clear hS2
 replace hS3:=X5 (k:=(ob,a/ 64)) hS3
 refine Qe U U (Qe U U (Qf (Qc (Qh [3,1,0,8,9,10,11] U (Qd (Qd (Qa (Qb U U (QQ U U (Qb U U (Ze 22 U (fun h4=> ?_) (fun h4=> ?_))))))))))))
 ·exact absurd h4 (by decide)
 refine Ql U U h4 (Qb U U (Ql U U h4 (Qb U U (Ql U U h4 (Qw WX U (ZH (hS3.sp [1] U) id) U ?_)))))
 rintro _ w5 ⟨rfl,hS5⟩
 replace hS5:=hS5.jn U U
 clear hS3
 refine Ql U U h4 (QQ U U (QP U h4 U U (Qf (Qc (Qh [3,1,0,8,9,10,27] U (QN U (fun h6=> ?_) (fun h6=> ?_)))))))
 ·exact absurd h6 (by simp [Zt,ht])
 refine Qt (Qc (Qd (Qd (Qa (Qb U U (X0 U U U (Qf (Qc (Qs U (fun h7=> ?_) (fun h7=> ?_))))))))))
 ·refine Qd (Qa (Qb U U (Qb U U ?_)))
  refine Xt U X7 Xc (by first | exact hS5.blk 1 U) (by first | decide | exact Xa U | (simp;done) | omega) U U ?_
  refine Qw K6 U (Hr (hS5.sp [0,2] U) (by omega) hE ht (k:=(ob,a/ 64))) U ?_
  rintro _ w8 ⟨L1,V1,t1,x1,rfl,hT,hS8⟩
  replace hS8:=hS8.jn U U
  clear hS5
  have ht1:=hT.tr ht
  have hx1:=hT.lv
  have hE1:=hT.ends ht hE
  refine Qe U U (Qf (Qc (Qh [3,1,0,8,9,10,12] U ?_)))
  have hS9:=J5 ht1 hx1 (hS8.pick [0,1,2,3] U)
  have hS10:=hS9.drew
  refine QF [0,1,2,3,4,5,6,7,8,9,10,11,12,13] [13] We (by kernel_rfl) ?_
  refine QG U U U (Xh U U U (QV U U U J6 (Q4 U U U (Qr U Jm (hS10.cell 0 U U)) (QG U U U (QG U U U (Xh U U U (QV U U U ZV (Q4 U U U (Qr U Jm (hS10.cell 0 U U)) (X8 U U U (fun _=>(HD U U)) ?_)))))))))
  refine X8 U U U (fun _=>(V9 U U)) ?_
  refine Xh U U U (QV U U U J6 (Xn U U U U U U ?_))
  refine Q6 hS10 U U VZ U (i:=0) U (Xa U) ?_
  intro w11 hS11; dsimp only[List.set]at hS11
  clear hS10
  refine Z4 (X1 (by kernel_rfl)) ?_
  refine VC.nil (Qc (Qh [3,1,0,8,9] U (Qd ?_)))
  have hS12:=W4 (L:=_) (y:={x1 with rd:=x1.rd ||| (N8 a&&& ~~~x1.wr)}) ht1 hx1 U (hS11.pick [0,1,2,3,4,5,6,7,8,9,10,11,12] U)
  have hE2:=Pb (k:=(ob,a/ 64)) (x:={x1 with rd:=x1.rd ||| (N8 a&&& ~~~x1.wr)}) ht1 hE1
  have hS13:=hS12.drew
  refine QF [0,1,2,3,4,5,6,8,9,7,10,11] [7,10] We (by kernel_rfl) ?_
  refine QG U U U (Xh U U U (QV U U U XN (Q4 U U U (Qr U Xk (JB hS13 0 U)) (QG U U U (QG U U U (Q4 U U U (XF U X7 Xc (by first | exact hS13.blk 2 U) (Xa U) U) ?_))))))
  refine QG U U U (X8 U U U (fun _=>(Di U U (by omega) (by omega))) ?_)
  refine Xn U U U U U U ?_
  refine Qw HM U (H7 (hS13.sp [0] U) hE2 id (ob,a/ 64)) U ?_
  rintro _ w14 ⟨rfl,hS14⟩
  replace hS14:=hS14.jn U U
  clear hS13
  rw[BC h0]
  refine XQ (.skip (by kernel_rfl) (.cons (.inl ⟨rfl,(Qr U Xk (JB hS14 0 U))⟩) .nil)) ?_
  refine Xn U U U U U U ?_
  refine Qw OM U (Eu (hS14.sp [1] U) (by omega) x1.own (a%64)) U ?_
  rintro _ w15 ⟨rfl,hS15⟩
  replace hS15:=hS15.jn U U
  clear hS14
  refine XQ (X1 (by kernel_rfl)) ?_
  exact Za U U U (VC.nil (Qc (Qh [8] U (Qu (QR (.inr U) U U (⟨_,rfl,L1,V1,t1,x1,hT,rfl,hS15.pick [1,0,3] U⟩))))))
 exact absurd (Decidable.not_not.1 h7) h0
end Go.Proofs.YtkcjfoaejijdoaaGreatDoor
