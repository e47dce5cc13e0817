/- cells: sees, open, note -/
import Derived.Test.YtkgjmhcdacidoaaGreatDoorTr3
import Derived.Test.YtkgjmhcdacidoaaGreatDoorLv1
set_option linter.unusedSectionVars false
set_option linter.unusedVariables false
set_option maxRecDepth 100000
namespace Go.Proofs.YtkgjmhcdacidoaaGreatDoor
open Go.RowKit M Proofs.Tryz
variable [Inhabited SlW]
def CG (x:OneD) (k:Bs):Bool:=x.par.isSome&&(x.writes k).isNone&&(x.vals k).isNone
noncomputable def CeD.up (C:CeD) (i:Int) (x:OneD):CeD:={C with all:=QO C.all i (some x)}
def AskR (C:CeD) (T:Nodes) (i:Int) (x:OneD) (k:Bs) (x':OneD):Prop:=(CG x k=false∧x'=x)∨(CG x k=true∧ ∃n s ov,i≠0∧T i=some n∧SeesR C T k n.par s∧x'={x with ov:=ov,order:=x.order++[(k,s)],vals:=QO x.vals k (some s)})
noncomputable def Yp (x:OneD) (k v:Bs):OneD:={x with writes:=QO x.writes k (if x.par.isNone=true∧v=[]then none else some v)}
theorem AskR.ad {C:CeD} {T:Nodes} {i:Int} {x x':OneD} {k:Bs} (h:AskR C T i x k x'):x'.ad=x.ad∧x'.par=x.par∧x'.kids=x.kids:= by
  rcases h with⟨_,rfl⟩ | ⟨_,_,_,_,_,_,_,rfl⟩<;> exact⟨rfl,rfl,rfl⟩
theorem CeW.ask {C:CeD} {T:Nodes} {i:Int} {x x':OneD} {k:Bs} (h:CeW C T) (hx:C.all i=some x) (ha:AskR C T i x k x'):CeW (C.up i x') T:=h.set hx ha.ad.1 ha.ad.2.1 ha.ad.2.2
theorem CeW.put {C:CeD} {T:Nodes} {i:Int} {x:OneD} {k v:Bs} (h:CeW C T) (hx:C.all i=some x):CeW (C.up i (Yp x k v)) T:=h.set hx U U U
theorem Tz {x:OneD} {k:Bs} (h:x.par=none):CG x k=false:= by unfold CG; rw[h];rfl
theorem B4 {w:World} {C:CeD} {T:Nodes} {last:Int} {F:Th} (hS:Sat w [X6 Wc C.all,F]) (hW:CeW C T) (hI:TrI T last) {i:Int} {x:OneD} (hx:C.all i=some x) (k:Bs):
    Calls prog 50 #[ptrV x.ad 0,strV k] w (Ret fun v w'=> ∃s,v=strV s∧SeesR C T k i s∧Sat w' [X6 Wc C.all,F]):= by
 refine Qn func50 U ntmps50 U ?_
 refine Qe (Qa (Qd U U (Qf (Qc (Qe (Qw ?_))))))
 refine Xe (fun K0 E0 W0=> ∃(oo:Option OneD) (mm:Nat),K0=mm∧E0=[(0,ptO OneD.ad oo),(1,strV k)]∧Sat W0 [X6 Wc C.all,F]∧(oo=none→SeesR C T k i [])∧(∀y,oo=some y→ ∃j,C.all j=some y∧mm=j.toNat+1∧ ∀s,SeesR C T k j s→SeesR C T k i s)) (L0:=[(0,_),(1,_)]) (i.toNat+1) (G5 U U) ⟨some x,i.toNat+1,rfl,rfl,hS, fun e=>(by cases e), fun y e=> by cases e; exact⟨i,hx,rfl, fun _ q=>q⟩⟩ ?_
 rintro _ _ w1 ⟨oo,mm,rfl,rfl,j1,hno,hso⟩
 refine Qe (Qe (Qa (Qb U U ?_)))
 rcases hq_q:oo with _ | y
 ·exact Zz underlying88 U U U (Qf (Qc (QL U (QT (Qq (Qq (Qy (Qc (Qe (Qa (Qd U U (Qf (Qc (Qv (QR (.inr U) U U (⟨_,U,[],U,hno hq_q,j1.pick [0,1] U⟩))))))))))))))))
 refine ZB underlying88 U U U (Qf (Qc (XD U (Qs (Qc (Qe (Qw (Qe (Qe ?_)))))))))
 obtain⟨j,hj,hm,hs⟩:=hso y hq_q
 have j2:=ZY (j1.pick [0,1] U) hj
 refine Qa (Qb U U (Qi U U (Qg U UV U (Qo U UE (by first | assumption | exact j2.cellF 0 U U) U ?_))))
 refine Qb U U ?_
 rcases hq_W:y.writes k with _ | vW
 ·refine Xj (k:=k) 1 j2 keysStr underlying95 U U U BL (u:=strV []) (g:=false) (by rw[Jy hq_W];rfl) (by rw[Jy hq_W];rfl) U ?_
  refine Qb U U (Qp U U U (Qp U U U (Qd U U (Qd U U (Qf (Qc (Qh [1,0,5,6] U (Qe (Qa (Qb U U (Qf (Qc (QS U (fun h3=> ?_) (fun h3=> ?_))))))))))))))
  ·exact absurd h3 (by decide)
  refine Qs (Qc (Qe (Qa (Qb U U (Qi U U (Qg U Gi U (Qo U UE (by first | assumption | exact j2.cellF 0 U U) U ?_)))))))
  refine Qb U U ?_
  rcases hq_V:y.vals k with _ | vV
  ·refine Xj (k:=k) 4 j2 keysStr underlying95 U U U BL (u:=strV []) (g:=false) (by rw[Jy hq_V];rfl) (by rw[Jy hq_V];rfl) U ?_
   refine Qb U U (Qp U U U (Qp U U U (Qd U U (Qd U U (Qf (Qc (Qh [1,0,7,8] U (Qe (Qa (Qb U U (Qf (Qc (QS U (fun h4=> ?_) (fun h4=> ?_))))))))))))))
   ·exact absurd h4 (by decide)
   refine Qs (Ql (Qc (Qa (Qb U U (Qi U U (Qg U Jk U (Qo U Y4 (by first | assumption | exact j2.cellF 0 U U) U ?_)))))))
   refine Qd U U (Qf ?_)
   have j5:=Wf hj (j2.pick [0,1,2,3,4,5,6,7] U)
   by_cases hj0:j=0
   ·have hp:=hW.root (hj0▸hj); exact Q5 (L1:=[(0,_),(1,_)]) (G5 U U) (k1:=0) (by omega) ⟨none,0,rfl, by rw[hp];rfl,j5.pick [0,1] U, fun _=>hs _ (by subst hj0; exact .root hj hq_W hq_V), fun y e=> by cases e⟩
   ·obtain⟨nd,hnd⟩:=hW.node hj; obtain⟨z,hz,hp⟩:=hW.up hj0 hnd hj; have hpp:=hI.par hnd hj0; exact Q5 (L1:=[(0,_),(1,_)]) (G5 rfl rfl) (k1:=nd.par.toNat+1) (by omega) ⟨some z,_,rfl, by rw[hp];rfl,j5.pick [0,1] rfl, fun e=>(by cases e), fun y e=> by cases e; exact⟨nd.par,hz,rfl, fun s q=>hs s (.up hj0 hj hq_W hq_V hnd q)⟩⟩
  refine Xj (k:=k) 4 j2 keysStr underlying95 U U U BL (u:=strV vV) (g:=true) (by rw[WW hq_V];rfl) (by rw[WW hq_V];rfl) U ?_
  refine Qb U U (Qp U U U (Qp U U U (Qd U U (Qd U U (Qf (Qc (Qh [1,0,7,8] U (Qe (Qa (Qb U U (Qf (Qc (QS U (fun h6=> ?_) (fun h6=> ?_))))))))))))))
  ·refine Qe (Qa (Qb U U (Qd U U (Qf (Qc (Qv (Q1 (Qr (Qr (Q1 (Qr (QR (.inr U) U U ?_))))))))))))
   have j7:=Wf hj (j2.pick [0,1,2,3,4,5,6,7] U)
   exact⟨_,U,_,U,hs _ (.rd hj hq_W hq_V),j7.pick [0,1] U⟩
  exact absurd h6 (by decide)
 refine Xj (k:=k) 1 j2 keysStr underlying95 U U U BL (u:=strV vW) (g:=true) (by rw[WW hq_W];rfl) (by rw[WW hq_W];rfl) U ?_
 refine Qb U U (Qp U U U (Qp U U U (Qd U U (Qd U U (Qf (Qc (Qh [1,0,5,6] U (Qe (Qa (Qb U U (Qf (Qc (QS U (fun h8=> ?_) (fun h8=> ?_))))))))))))))
 ·refine Qe (Qa (Qb U U (Qd U U (Qf (Qc (Qv (Qr (Q1 (Qr (Qr (Q1 (Qr (QR (.inr U) U U ?_)))))))))))))
  have j9:=Wf hj (j2.pick [0,1,2,3,4,5,6,7] U)
  exact⟨_,U,_,U,hs _ (.wr hj hq_W),j9.pick [0,1] U⟩
 exact absurd h8 (by decide)
theorem Eu {w:World} {T0:Int→Option OneD} {F:Th} (hS:Sat w [X6 Wc T0,F]) {i:Int} {x:OneD} (hx:T0 i=some x) (k:Bs):
    Calls prog 105 #[ptrV x.ad 0,strV k] w (Ret fun v w'=>v= .bool (CG x k)∧Sat w' [X6 Wc T0,F]):= by
 refine Qn func105 U ntmps105 U ?_
 refine Qe (Qa (Qd U U (Qf (Qc (Qe ?_)))))
 have j1:=ZY (hS.pick [0,1] U) hx
 refine Qa (Qb U U (Qi U U (Qg U UV U (Qo U UE (by first | assumption | exact j1.cellF 0 U U) U ?_))))
 refine Qb U U ?_
 rcases hq_W:x.writes k with _ | vW
 ·refine Xj (k:=k) 1 j1 keysStr underlying95 U U U BL (u:=strV []) (g:=false) (by rw[Jy hq_W];rfl) (by rw[Jy hq_W];rfl) U ?_
  refine Qb U U (Qp U U U (Qp U U U (Qd U U (Qd U U (Qf (Qc (Qh [1,0,4,6] U (Qe (Qa (Qb U U (Qi U U (Qg U Gi U (Qo U UE (by first | assumption | exact j1.cellF 0 U U) U ?_)))))))))))))
  refine Qb U U ?_
  rcases hq_V:x.vals k with _ | vV
  ·refine Xj (k:=k) 4 j1 keysStr underlying95 U U U BL (u:=strV []) (g:=false) (by rw[Jy hq_V];rfl) (by rw[Jy hq_V];rfl) U ?_
   refine Qb U U (Qp U U U (Qp U U U (Qd U U (Qd U U (Qf (Qc (Qh [0,4,6,8] U (Qe (Qa (Qb U U (Qi U U (Qg U Jk U (Qo U Y4 (by first | assumption | exact j1.cellF 0 U U) U ?_)))))))))))))
   rcases hq_P:x.par with _ | pa
   ·refine Zz underlying88 U U U (Qb U U (Qk U U U U (Qk U U U U (QC U U U U (Qb U U (Qk U U U U (Qk U U U U (QC U U U U (Qd U U (Qf (Qc (Qh [4] U (Qv (QR (.inr U) U U ?_))))))))))))))
    have j2:=Wf hx (j1.pick [0,1,2,3,4,5,6,7] U)
    exact⟨_,rfl, by simp [CG,hq_W,hq_V,hq_P],j2.pick [0,1] U⟩
   refine ZB underlying88 U U U (Qb U U (Qj U U U (Qb U U (Qj U U U (QU U U (QN U U U U (Qb U U (Xw 36 U (fun h3=> ?_) (fun h3=> ?_)))))))))
   ·refine Qj U U h3 (Qb U U (Qj U U h3 (QU U U (QN U h3 U U (Qd U U (Qf (Qc (Qh [4] U (Qv (QR (.inr U) U U ?_))))))))))
    have j4:=Wf hx (j1.pick [0,1,2,3,4,5,6,7] U)
    exact⟨_,rfl, by simp [CG,hq_W,hq_V,hq_P],j4.pick [0,1] U⟩
   exact absurd h3 (by decide)
  refine Xj (k:=k) 4 j1 keysStr underlying95 U U U BL (u:=strV vV) (g:=true) (by rw[WW hq_V];rfl) (by rw[WW hq_V];rfl) U ?_
  refine Qb U U (Qp U U U (Qp U U U (Qd U U (Qd U U (Qf (Qc (Qh [0,4,6,8] U (Qe (Qa (Qb U U (Qi U U (Qg U Jk U (Qo U Y4 (by first | assumption | exact j1.cellF 0 U U) U ?_)))))))))))))
  rcases hq_P:x.par with _ | pa
  ·refine Zz underlying88 U U U (Qb U U (Qk U U U U (Qk U U U U (QC U U U U (Qb U U (Qk U U U U (Qk U U U U (QC U U U U (Qd U U (Qf (Qc (Qh [4] U (Qv (QR (.inr U) U U ?_))))))))))))))
   have j5:=Wf hx (j1.pick [0,1,2,3,4,5,6,7] U)
   exact⟨_,rfl, by simp [CG,hq_W,hq_V,hq_P],j5.pick [0,1] U⟩
  refine ZB underlying88 U U U (Qb U U (Qj U U U (Qb U U (Qj U U U (QU U U (QN U U U U (Qb U U (Xw 36 U (fun h6=> ?_) (fun h6=> ?_)))))))))
  ·refine Qj U U h6 (Qb U U (Qj U U h6 (QU U U (QN U h6 U U (Qd U U (Qf (Qc (Qh [4] U (Qv (QR (.inr U) U U ?_))))))))))
   have j7:=Wf hx (j1.pick [0,1,2,3,4,5,6,7] U)
   exact⟨_,rfl, by simp [CG,hq_W,hq_V,hq_P],j7.pick [0,1] U⟩
  exact absurd h6 (by decide)
 refine Xj (k:=k) 1 j1 keysStr underlying95 U U U BL (u:=strV vW) (g:=true) (by rw[WW hq_W];rfl) (by rw[WW hq_W];rfl) U ?_
 refine Qb U U (Qp U U U (Qp U U U (Qd U U (Qd U U (Qf (Qc (Qh [1,0,4,6] U (Qe (Qa (Qb U U (Qi U U (Qg U Gi U (Qo U UE (by first | assumption | exact j1.cellF 0 U U) U ?_)))))))))))))
 refine Qb U U ?_
 rcases hq_V:x.vals k with _ | vV
 ·refine Xj (k:=k) 4 j1 keysStr underlying95 U U U BL (u:=strV []) (g:=false) (by rw[Jy hq_V];rfl) (by rw[Jy hq_V];rfl) U ?_
  refine Qb U U (Qp U U U (Qp U U U (Qd U U (Qd U U (Qf (Qc (Qh [0,4,6,8] U (Qe (Qa (Qb U U (Qi U U (Qg U Jk U (Qo U Y4 (by first | assumption | exact j1.cellF 0 U U) U ?_)))))))))))))
  rcases hq_P:x.par with _ | pa
  ·refine Zz underlying88 U U U (Qb U U (Qk U U U U (Qk U U U U (QC U U U U (Qb U U (Qk U U U U (Qk U U U U (QC U U U U (Qd U U (Qf (Qc (Qh [4] U (Qv (QR (.inr U) U U ?_))))))))))))))
   have j8:=Wf hx (j1.pick [0,1,2,3,4,5,6,7] U)
   exact⟨_,rfl, by simp [CG,hq_W,hq_V,hq_P],j8.pick [0,1] U⟩
  refine ZB underlying88 U U U (Qb U U (Qj U U U (Qb U U (Qj U U U (QU U U (QN U U U U (Qb U U (Xw 36 U (fun h9=> ?_) (fun h9=> ?_)))))))))
  ·exact absurd h9 (by decide)
  refine Qk U U h9 U (Qk U U h9 U (QC U h9 U U (Qd U U (Qf (Qc (Qh [4] U (Qv (QR (.inr U) U U ?_))))))))
  have j10:=Wf hx (j1.pick [0,1,2,3,4,5,6,7] U)
  exact⟨_,rfl, by simp [CG,hq_W,hq_V,hq_P],j10.pick [0,1] U⟩
 refine Xj (k:=k) 4 j1 keysStr underlying95 U U U BL (u:=strV vV) (g:=true) (by rw[WW hq_V];rfl) (by rw[WW hq_V];rfl) U ?_
 refine Qb U U (Qp U U U (Qp U U U (Qd U U (Qd U U (Qf (Qc (Qh [0,4,6,8] U (Qe (Qa (Qb U U (Qi U U (Qg U Jk U (Qo U Y4 (by first | assumption | exact j1.cellF 0 U U) U ?_)))))))))))))
 rcases hq_P:x.par with _ | pa
 ·refine Zz underlying88 U U U (Qb U U (Qk U U U U (Qk U U U U (QC U U U U (Qb U U (Qk U U U U (Qk U U U U (QC U U U U (Qd U U (Qf (Qc (Qh [4] U (Qv (QR (.inr U) U U ?_))))))))))))))
  have j11:=Wf hx (j1.pick [0,1,2,3,4,5,6,7] U)
  exact⟨_,rfl, by simp [CG,hq_W,hq_V,hq_P],j11.pick [0,1] U⟩
 refine ZB underlying88 U U U (Qb U U (Qj U U U (Qb U U (Qj U U U (QU U U (QN U U U U (Qb U U (Xw 36 U (fun h12=> ?_) (fun h12=> ?_)))))))))
 ·exact absurd h12 (by decide)
 refine Qk U U h12 U (Qk U U h12 U (QC U h12 U U (Qd U U (Qf (Qc (Qh [4] U (Qv (QR (.inr U) U U ?_))))))))
 have j13:=Wf hx (j1.pick [0,1,2,3,4,5,6,7] U)
 exact⟨_,rfl, by simp [CG,hq_W,hq_V,hq_P],j13.pick [0,1] U⟩
theorem Ez {w:World} {T0:Int→Option OneD} {F:Th} (hS:Sat w [X6 Wc T0,F]) {i:Int} {x:OneD} (hx:T0 i=some x) (k s:Bs) (hol:x.order.length≤100000000000):
    Calls prog 106 #[ptrV x.ad 0,.agg #[intV 0,strV k,strV s,.slice none 0 0]] w (Ret fun v w'=> ∃ov,Sat w' [X6 Wc (QO T0 i (some {x with ov:=ov,order:=x.order++[(k,s)],vals:=QO x.vals k (some s)})),F]):= by
 refine Qn func106 U ntmps106 U ?_
 refine Qe (Qa (XV hS U U U ?_))
 intro rb w1 j1
 replace j1:Sat w1 (QE rb [intV 0,strV k,strV s,.slice none 0 0]::_):=j1
 refine Qf (Qc (Qe ?_))
 have j2:=ZY (j1.pick [1,0,2] U) hx
 have j3:=j2.drew
 refine QH [0,1,2,3,4,5,6,7,8,9,10] [6,7,10] ZW (by kernel_rfl) ?_
 refine QJ U U U (QJ U U U (Xd U U U (QP U U U Gj (Q3 U U U (Qm U PR (by first | assumption | exact j3.cellF 0 U U | exact j3.cell 7 U U)) ?_))))
 refine Q3 U U U (X3 U ag_94 sz_94 (by first | exact j3.blk 7 U) (by first | decide | exact Q7 U | (simp;done) | omega) U) ?_
 refine Xl U U U U U U ?_
 refine ZV VQ [(k,s)] j3 U underlying96 ifz_94 U U U U (by first | rfl | simp [RowC.cells,Wu,Xz]) U ?_
 intro b4 w4 j4
 refine XH (.skip (by kernel_rfl) (.cons (.inl ⟨rfl,(Qm U PR (by first | assumption | exact j4.cellF 1 U U | exact j4.cell 8 U U))⟩) .nil)) ?_
 refine Xl U U U U U U ?_
 refine Jf VQ 4 j4 U U U (j4.rd 0 U (by simp)) underlying96 underlying96 (by intro k hk; cases hk) ifo_94 U (by simp;omega) U (by simp;omega) ?_
 intro v5 w5 j5; dsimp only[List.set]at j5
 have h1v5:v5.oneCell'=true:=j5.own_one 4 U
 refine XH (Xq (by kernel_rfl)) ?_
 refine Xd U U U (QP U U U Gj (Xl U U U U U U ?_))
 first | (refine Qx j5 U U sz_96 (by first | rfl | assumption | exact j5.own_one 0 U | exact j5.own_one 4 U) (i:=8) U (by first | decide | exact Q7 U | (simp;done) | omega) ?_) | (refine KW j5 U U sz_96 (by first | rfl | assumption | exact j5.own_one 0 U | exact j5.own_one 4 U) (i:=1) U (by first | decide | exact Q7 U | (simp;done) | omega) ?_)
 intro w6 j7; dsimp only[List.set]at j7
 refine Zj (Xq (by kernel_rfl)) ?_
 refine VC.nil (Qc (Qh [0,3] U (Qe (Qa (Qg U Pz U (Qo U QM (by first | assumption | exact j7.cellF 1 U U | exact j7.cell 8 U U) U ?_))))))
 refine Xc U U U (Qf (Qc (Qt U (fun h8=> ?_) (fun h8=> ?_))))
 ·have j9:=j7.drew
  refine QH [0,1,2,3,4,5,6,7,8] [8] ZW (by kernel_rfl) ?_
  refine QJ U U U (Xd U U U (QP U U U Gi (Q3 U U U (Qm U UE (by first | assumption | exact j9.cellF 1 U U | exact j9.cell 8 U U)) ?_)))
  refine QP U U U Py (Q3 U U U (Qm U Yd (by first | assumption | exact j9.cellF 1 U U | exact j9.cell 8 U U)) ?_)
  refine QP U U U Px (Q3 U U U (Qm U Yd (by first | assumption | exact j9.cellF 1 U U | exact j9.cell 8 U U)) ?_)
  refine Xl U U U U U U ?_
  refine Xi (k:=k) (v:=strV s) 5 j9 keysStr underlying95 U U U U ?_
  intro w10 j10; dsimp only[List.set]at j10; rw[Mh]at j10
  refine Zj (Xq (by kernel_rfl)) ?_
  exact VC.nil (ZP (.inl U) U (⟨_,U,_,(YS (x:={x with ov:=_,order:=x.order++[(k,s)],vals:=QO x.vals k (some s)}) (j10.pick [1,2,3,4,5,6,7,9] U))⟩))
 exact absurd h8 (by omega)
theorem ask_sp {w:World} {C:CeD} {T:Nodes} {last:Int} {F:Th} (hS:Sat w [X6 Wc C.all,F]) (hW:CeW C T) (hI:TrI T last) {i:Int} {x:OneD} (hx:C.all i=some x) (hol:x.order.length≤100000000000) (k:Bs):
    Calls prog 66 #[ptrV x.ad 0,strV k] w (Ret fun v w'=> ∃x',AskR C T i x k x'∧Sat w' [X6 Wc (QO C.all i (some x')),F]):= by
 refine Qn func66 U ntmps66 U ?_
 refine Qe (Qa (Qb U U (Qb U U (Q0 cal_105 U (Eu (hS.sp [0] U) hx k) U ?_))))
 rintro _ w1 ⟨rfl,j1⟩
 replace j1:=j1.jn U U
 refine Qf (Qc (QS U (fun h2=> ?_) (fun h2=> ?_)))
 ·have hop:CG x k=true:=h2
  have hpn:x.par≠none:= fun e=> by rw[Tz e]at hop; cases hop
  have h0:i≠0:= fun e=>hpn (hW.root (e▸hx))
  obtain⟨nd,hnd⟩:=hW.node hx; obtain⟨y,hy,hxp⟩:=hW.up h0 hnd hx
  refine Qa (Qb U U (Qb U U (Qb U U (Qi U U (Qg U Jk U ?_)))))
  refine Qo U Y4 (show _=some (ptrV y.ad 0) by have h9:=U0 j1 0 U hx 0 U; rw[hxp]at h9; exact h9) U ?_
  refine Qb U U (Q0 NF U (B4 (j1.sp [0] U) hW hI hy k) U ?_)
  rintro _ w3 ⟨s,rfl,hs,j3⟩
  replace j3:=j3.jn U U
  refine Zw U Tv asz_94 zr_94 U U (Q0 cal_106 U (Ez (j3.sp [0] U) hx k s hol) U ?_)
  rintro _ w4 ⟨ov,j4⟩
  replace j4:=j4.jn U U
  exact Qf (ZP (.inl U) U (⟨_,U,_,.inr ⟨hop,nd,s,ov,h0,hnd,hs,U⟩,j4.pick [0,1] U⟩))
 have hop:CG x k=false:= by simpa using h2
 refine Qs (ZP (.inl U) U ?_)
 exact⟨_,rfl,x,.inl ⟨hop,rfl⟩, by rw[Wk hx]; exact j1.pick [0,1] U⟩
theorem E7 {w:World} {c:Nat} {C:CeD} {T:Nodes} {last:Int} {F:Th} (hS:Sat w [Yb c C,F]) (hW:CeW C T) (hI:TrI T last) {id:Int} {x:OneD} (hx:C.all id=some x) (hol:x.order.length≤100000000000) (k:Bs):
    Calls prog 40 #[ptrV c 0,intV id,strV k] w (Ret fun v w'=> ∃x' s,AskR C T id x k x'∧v=strV s∧SeesR (C.up id x') T k id s∧Sat w' [Yb c (C.up id x'),F]):= by
 replace hS:=Jd hS
 refine Qn func40 U ntmps40 U ?_
 refine Qe (Qa (Qd U U (Qf (Qc (Qe (Qa (Qb U U (Qi U U (Qg U JU U (Qo U HL (by first | assumption | exact hS.cell 0 U U) U ?_))))))))))
 refine Qb U U (X8 (k:=id) 1 hS keysInt underlying89 U U U VY (u:=(ptrV x.ad 0)) (XJ hx) U (Qd U U (Qf (Qc (Qh [2,6,7] U (Qe (Qe (Qa (Qb U U (XI underlying88 U U U (Qf (Qc (QL U (Qs (Qc (Qe (Qa (Qb U U (Qb U U (Q0 cal_66 U (ask_sp (hS.sp [2] U) hW hI hx hol k) U ?_))))))))))))))))))))
 rintro _ w1 ⟨x',ha,j1⟩
 replace j1:=j1.jn U U
 have had:=ha.ad.1
 have hx2:(C.up id x').all id=some x':=Qu
 refine Qf (Qc (Qe (Qa (Qb U U (Qb U U ?_)))))
 refine Q0 NF U ((show Calls _ _ #[ptrV x.ad 0,strV k] _ _ by rw[←had]; exact B4 (C:=C.up id x') (j1.sp [0] U) (hW.ask hx ha) hI hx2 k)) U ?_
 rintro _ w2 ⟨s,rfl,hs,j2⟩
 replace j2:=j2.jn U U
 refine Qd U U (Qf (Qc (Qh [6] U (Qv (QR (.inr U) U U ?_)))))
 have hz:=(j2.pick [0,1,2,3] U).reorder [1,2,0,3] U
 rw[←WI (k:=id) (y:=x') hx had]at hz
 exact⟨_,U,x',s,ha,U,hs,J2 (C:=C.up id x') hz⟩
theorem Ll {w:World} {T0:Int→Option OneD} {F:Th} (hS:Sat w [X6 Wc T0,F]) {i:Int} {x:OneD} (hx:T0 i=some x) (k s:Bs):
    Calls prog 68 #[ptrV x.ad 0,strV k,strV s] w (Ret fun v w'=>Sat w' [X6 Wc (QO T0 i (some (Yp x k s))),F]):= by
 refine Qn func68 U ntmps68 U ?_
 refine Qe (Qe ?_)
 have j1:=ZY (hS.pick [0,1] U) hx
 refine Qa (Qb U U (Qi U U (Qg U Jk U (Qo U Y4 (by first | assumption | exact j1.cellF 0 U U) U ?_))))
 rcases hq_P:x.par with _ | pa
 ·refine Jh underlying88 U U U (Qb U U (Qj U U U (Qb U U (Qj U U U (Hp U U U (QN U U U U (Qf (Qc (Qh [2,1,0,14] U (Qt U (fun h2=> ?_) (fun h2=> ?_)))))))))))
  ·have hv:s=[]:=h2
   refine Qe (Qa (Qb U U (Qi U U (Qg U UV U (Qo U UE (by first | assumption | exact j1.cellF 0 U U) U ?_)))))
   refine Qb U U (WG (k:=k) 1 j1 keysStr underlying95 U U U U ?_)
   intro w3 j3; dsimp only[List.set]at j3; rw[stG_del]at j3
   refine Qf (Qc (Qv (Qr (ZP (.inr U) U ?_))))
   exact⟨_,rfl, by unfold Yp; rw[if_pos ⟨by rw[hq_P];rfl,hv⟩]; exact YS (x:={x with writes:=_}) (j3.pick [0,1,2,3,4,5,6,7] U)⟩
  have hv: ¬s=[]:=h2
  refine Qs (Qc (Qa (Qb U U (Qi U U (Qg U UV U (Qo U UE (by first | assumption | exact j1.cellF 0 U U) U ?_))))))
  refine Qb U U (Qb U U (Xi (k:=k) (v:=strV s) 1 j1 keysStr underlying95 U U U U ?_))
  intro w4 j4; dsimp only[List.set]at j4; rw[Mh]at j4
  refine Qf (ZP (.inl U) U ?_)
  exact⟨_,rfl, by unfold Yp; rw[if_neg (fun q=>hv q.2)]; exact YS (x:={x with writes:=_}) (j4.pick [0,1,2,3,4,5,6,7] U)⟩
 refine XI underlying88 U U U (Qb U U (Qk U U U U (Qk U U U U (QC U U U U (Qf (Qc (Qh [2,1,0,14] U (QL U (Qs (Qc (Qa (Qb U U (Qi U U (Qg U UV U (Qo U UE (by first | assumption | exact j1.cellF 0 U U) U ?_)))))))))))))))
 refine Qb U U (Qb U U (Xi (k:=k) (v:=strV s) 1 j1 keysStr underlying95 U U U U ?_))
 intro w5 j5; dsimp only[List.set]at j5; rw[Mh]at j5
 refine Qf (ZP (.inl U) U ?_)
 exact⟨_,rfl, by unfold Yp; rw[if_neg (by rw[hq_P]; simp)]; exact YS (x:={x with writes:=_}) (j5.pick [0,1,2,3,4,5,6,7] U)⟩
theorem E5 {w:World} {c:Nat} {C:CeD} {F:Th} (hS:Sat w [Yb c C,F]) {id:Int} {x:OneD} (hx:C.all id=some x) (k s:Bs):
    Calls prog 37 #[ptrV c 0,intV id,strV k,strV s] w (Ret fun v w'=>Sat w' [Yb c (C.up id (Yp x k s)),F]):= by
 replace hS:=Jd hS
 refine Qn func37 U ntmps37 U ?_
 refine Qe (Qa (Qb U U (Qi U U (Qg U JU U (Qo U HL (by first | assumption | exact hS.cell 0 U U) U ?_)))))
 refine Qb U U (X8 (k:=id) 1 hS keysInt underlying89 U U U VY (u:=(ptrV x.ad 0)) (XJ hx) U (Qd U U (Qf (Qc (Qh [3,2,8] U (Qe (Qa (Qb U U (ZB underlying88 U U U (Qf (Qc (XD U (Qa (Qb U U (Qb U U (Qb U U (Q0 EI U (Ll (hS.sp [2] U) hx k s) U ?_)))))))))))))))))
 rintro _ w1 j1
 replace j1:=j1.jn U U
 refine Qf (ZP (.inl U) U ?_)
 have hz:=(j1.pick [0,1,2,3] U).reorder [1,2,0,3] U
 rw[←WI (k:=id) (y:=Yp x k s) hx U]at hz
 exact⟨_,U,J2 (C:=C.up id (Yp x k s)) hz⟩
theorem Sat.one {A:Th} {w:World} {G:Nat→Prop} (h:A.at_ w G):Sat w [A]:=⟨_,G, fun _=>False,rfl, fun _ _ h=>h,h,rfl⟩
theorem SR {T0:Int→Option OneD} {i:Int} {x:OneD} (hx:T0 i=some x) (hl:x.order.length≤9223372036854775807):Ent (X6 Wc T0) (RdL VQ x.ov x.order):= fun {w G} h=>
  Ent.sat (YD (C:=VQ) hl) (ZY (Sat.one h) hx) 3 U
theorem Kp {w:World} {As:List Th} {T0:Int→Option OneD} {i:Int} {x:OneD} {a:Nat} (hS:Sat w As) (j:Nat) (hj:As[j]? =some (X6 Wc T0)) (hx:T0 i=some x) (hp:x.par=some a):w.cell? ⟨x.ad,0,none⟩=some (ptrV a 0):= by
  have h:=U0 hS j hj hx 0 U
  rw[hp]at h
  exact h
theorem Fa {w:World} {C:CeD} {T:Nodes} {last:Int} {F:Th} {bk:Nat} {i:Int} {x:OneD} {nd:NodeD} (hS:Sat w [QE bk [ptrV x.ad 0],X6 Wc C.all,F]) (hW:CeW C T) (hI:TrI T last) (hx:C.all i=some x) (h0:i≠0) (hnd:T i=some nd) (k s:Bs):
    Calls prog 49 #[.agg #[intV 0,strV k,strV s,.slice none 0 0],ptrV bk 0] w (Ret fun v w'=> ∃u,SeesR C T k nd.par u∧v= .bool (decide (u≠s))∧Sat w' [QE bk [ptrV x.ad 0],X6 Wc C.all,F]):= by
 obtain⟨y,hy,hxp⟩:=hW.up h0 hnd hx
 refine Qn func49 U ntmps49 U ?_
 refine Qe (Qa (XV hS U U U ?_))
 intro rb w1 j1
 replace j1:Sat w1 (QE rb [intV 0,strV k,strV s,.slice none 0 0]::_):=j1
 refine Qd U U (Qf (Qc (Qe (Qe (Qa (Qg U Pz U (Qo U QM (by first | assumption | exact j1.cell 0 U U | exact j1.cell 1 U U) U ?_)))))))
 refine Xc U U U (Qf (Qc (Qt U (fun h2=> ?_) (fun h2=> ?_))))
 ·refine Qe ?_
  have j3:=j1.drew
  refine QH [0,1,2,3,4,5,7,8,6,9,10] [6] ZW (by kernel_rfl) ?_
  refine Q3 U U U (Qm U Y4 (by first | assumption | exact j3.cell 0 U U | exact j3.cell 1 U U)) ?_
  refine Xd U U U (QP U U U Jk (Q3 U U U (Qm U Y4 (Kp j3 2 U hx hxp)) (QP U U U Py (Q3 U U U (Qm U Yd (by first | assumption | exact j3.cell 0 U U | exact j3.cell 1 U U)) ?_))))
  refine QP U U U Px (Q3 U U U (Qm U Yd (by first | assumption | exact j3.cell 0 U U | exact j3.cell 1 U U)) ?_)
  refine Xl U U U U U U ?_
  refine Q0 NF U (B4 (j3.sp [2] U) hW hI hy k) U ?_
  rintro _ w4 ⟨u,rfl,hu,j4⟩
  replace j4:=j4.jn U U
  refine XH (.cons (.inl ⟨rfl,(Qm U Yd (by first | assumption | exact j4.cell 1 U U | exact j4.cell 2 U U))⟩) (Xq (by kernel_rfl))) ?_
  refine Xh U U U (fun _=>(P2 U U)) ?_
  exact Zo U U U (VC.nil (Qc (Qh [1,2,3] U (Qv (Qr (QR (.inr U) U U (⟨_,U,u,hu,U,j4.pick [2,0,3] U⟩)))))))
 exact absurd h2 (by omega)
theorem cixf_sp {w:World} {C:CeD} {T:Nodes} {last:Int} {F:Th} {bk:Nat} {i:Int} {x:OneD} {nd:NodeD} (hS:Sat w [QE bk [ptrV x.ad 0],X6 Wc C.all,F]) (hW:CeW C T) (hI:TrI T last) (hx:C.all i=some x) (h0:i≠0) (hnd:T i=some nd) {lv:Value} {l:List (Bs×Bs)} (hL:Ent (X6 Wc C.all) (RdL VQ lv l)):
    Calls prog 84 #[lv,.func (.func 49) #[] #[ptrV bk 0]] w (Ret fun v w'=> ∃r:Int,v=intV r∧(0≤r↔ ¬ ∀z∈l,SeesR C T z.1 nd.par z.2)∧Sat w' [QE bk [ptrV x.ad 0],X6 Wc C.all,F]):= by
 obtain⟨ao,cap,rfl,hmax⟩:=(hL.sat hS 1 rfl).shape
 refine Qn func84 U ntmps84 U ?_
 refine Qe (Qa (Qd U U (Qf (Qc (Qe (Qe (Qa (Qb U U (XB underlying96 U U (Qb U U (Qf (Qc (Qw ?_)))))))))))))
 refine Xe (fun K0 E0 W0=> ∃(j:Nat),K0=l.length -j∧E0=[(0,.slice ao l.length cap),(1,.func (.func 49) #[] #[ptrV bk 0]),(7,intV (l.length:Int)),(8,intV (j:Int))]∧Sat W0 [QE bk [ptrV x.ad 0],X6 Wc C.all,F]∧(j≤l.length)∧(∀q z,q<j→l[q]? =some z→SeesR C T z.1 nd.par z.2)) (L0:=[(0,_),(1,_),(7,_),(8,_)]) (l.length -0) (Vj U U U U) ⟨0,rfl,rfl,hS, by omega, by omega⟩ ?_
 rintro _ _ w1 ⟨j,rfl,rfl,j1,hi,hno⟩
 refine Qe (Qa (Xn U U U (Qf (Qc (Qe (Qt U (fun h2=> ?_) (fun h2=> ?_)))))))
 ·obtain⟨y,hx9⟩: ∃y,l[j]? =some y:=⟨_,Zd (by omega)⟩
  obtain⟨b,off,rfl,hc⟩:=(hL.sat j1 1 rfl).get hx9
  refine Qs (Qc (Qe (Qw (Qe (Qa (Qb U U (Qd U U (Qf (Qc (Qe (Qa (Qb U U (Qb U U (Qb U U (Za j U U (by first | rfl | omega) (by omega) es_96 U ?_)))))))))))))))
  refine KX U ag_94 sz_94 (vs:=crdV y) hc U (Kf U cal_49 U (Fa (j1.sp [0,1] U) hW hI hx h0 hnd y.1 y.2) U ?_)
  rintro e w3 ⟨_,rfl,u,hu,rfl,j3⟩; refine⟨_,rfl, ?_⟩
  replace j3:=j3.jn U U
  refine Qf (Qc (Qh [8,7,1,0,5,16] U (Qt U (fun h4=> ?_) (fun h4=> ?_))))
  ·have hne:u≠y.2:=h4
   refine Qe (Qa (Qb U U (Qd U U (Qf (Qc (Qv (Q1 (Qr (Qr (Q1 (Qr (QR (.inr U) U U ?_))))))))))))
   exact⟨_,rfl,_,rfl,⟨fun _ q=>hne (hu.det (q y (List.mem_of_getElem? hx9))), fun _=> by omega⟩,j3.pick [0,1,2] U⟩
  have heq:u=y.2:=Decidable.not_not.1 h4
  refine Qs (Ql (Qc (Qa (QK U U (by omega) (by omega) U ?_))))
  refine Qb U U (Qf ?_)
  exact Q5 (L1:=[(0,_),(1,_),(7,_),(8,intV ((j+1:Nat):Int))]) (Vj U U U U) (k1:=l.length -(j+1)) (by omega) ⟨j+1,rfl,rfl,j3.pick [0,1,2] U, by omega, fun q z hq hz=> by by_cases e:q=j;(subst e; rw[hx9]at hz; cases hz; rw[←heq]; exact hu); exact hno q z (by omega) hz⟩
 refine QT (Qq (Qq (Qy (Qc (Qe (Qa (Qd U U (Qf (Qc (Qv (QR (.inr U) U U ?_)))))))))))
 exact⟨_,rfl,_,rfl,⟨fun q=>absurd q (by omega), fun q=>absurd (fun z hz=> by obtain⟨q,hq⟩:=List.mem_iff_getElem?.1 hz; exact hno q z (by have :=(XL hq).1;omega) hq) q⟩,j1.pick [0,1,2] rfl⟩
theorem cctf_sp {w:World} {C:CeD} {T:Nodes} {last:Int} {F:Th} {bk:Nat} {i:Int} {x:OneD} {nd:NodeD} (hS:Sat w [QE bk [ptrV x.ad 0],X6 Wc C.all,F]) (hW:CeW C T) (hI:TrI T last) (hx:C.all i=some x) (h0:i≠0) (hnd:T i=some nd) {lv:Value} {l:List (Bs×Bs)} (hL:Ent (X6 Wc C.all) (RdL VQ lv l)):
    Calls prog 53 #[lv,.func (.func 49) #[] #[ptrV bk 0]] w (Ret fun v w'=> ∃r:Bool,v= .bool r∧(r=true↔ ¬ ∀z∈l,SeesR C T z.1 nd.par z.2)∧Sat w' [QE bk [ptrV x.ad 0],X6 Wc C.all,F]):= by
 refine Qn func53 U ntmps53 U ?_
 refine Qe (Qa (Qd U U (Qf (Qc (Qe (Qa (Qb U U (Qb U U (Q0 cal_84 U (cixf_sp (hS.sp [0,1] U) hW hI hx h0 hnd hL) U ?_)))))))))
 rintro _ w1 ⟨r,rfl,hr,j1⟩
 replace j1:=j1.jn U U
 exact Jr U U U (Qd U U (Qf (Qc (Qv (QR (.inr U) U U (⟨_,U,_,U,decide_eq_true_iff.trans hr,j1.pick [0,1,2] U⟩))))))
theorem B6 {w:World} {c:Nat} {C:CeD} {T:Nodes} {last:Int} {F:Th} {id:Int} {x:OneD} {nd:NodeD} (hS:Sat w [Yb c C,F]) (hW:CeW C T) (hI:TrI T last) (hx:C.all id=some x) (h0:id≠0) (hnd:T id=some nd) (hol:x.order.length≤100000000000):
    Calls prog 29 #[ptrV c 0,intV id] w (Ret fun v w'=> ∃r:Bool,v= .bool r∧(r=true↔ ∀z∈x.order,SeesR C T z.1 nd.par z.2)∧Sat w' [Yb c C,F]):= by
 replace hS:=Jd hS
 refine Qn func29 U ntmps29 U ?_
 refine Qe (Qa (Qd U U (Qf (Qc (Qe (Qa (Qb U U (Qi U U (Qg U JU U (Qo U HL (by first | assumption | exact hS.cell 0 U U) U ?_))))))))))
 refine Qb U U (X8 (k:=id) 1 hS keysInt underlying89 U U U VY (u:=(ptrV x.ad 0)) (XJ hx) U (Xa hS VY U U ?_))
 intro bk w1 j1
 first | (refine Qx j1 U U sz_88 (by first | rfl | assumption) (i:=0) U (by first | decide | exact Q7 U | (simp;done) | omega) ?_) | (refine Qx j1 U U sz_88 (by first | rfl | assumption) (i:=1) U (by first | decide | exact Q7 U | (simp;done) | omega) ?_)
 intro w2 j3; dsimp only[List.set]at j3
 refine Qf (Qc (Qe (Qe (Qa (Qo U Y4 (by first | assumption | exact j3.cell 0 U U | exact j3.cell 1 U U) U ?_)))))
 refine XI underlying88 U U U (Qf (Qc (Qh [4,5,14] U (QL U (Qs (Qc (Qe (Qa (Zv U U (Qd U U (Qf (Qc (Qe (Qa (Qo U Y4 (by first | assumption | exact j3.cell 0 U U | exact j3.cell 1 U U) U ?_)))))))))))))))
 refine Qi U U (Qg U Gj U (Qo U PR (U0 j3 3 U hx 4 U) U (Qb U U (Q0 cal_53 U (cctf_sp (j3.sp [0,3] U) hW hI hx h0 hnd (SR hx (by omega))) U ?_))))
 rintro _ w4 ⟨r,rfl,hr,j4⟩
 replace j4:=j4.jn U U
 refine QU U U (Qd U U (Qf (Qc (Qh [4] U (Qv (QR (.inr U) U U ?_))))))
 exact⟨_,rfl,_,rfl, by rw[Bool.not_eq_true',←Bool.not_eq_true,hr]; exact Classical.not_not,J2 (j4.pick [2,3,1,4] U)⟩
theorem DO {w:World} {c:Nat} {C:CeD} {F:Th} (hS:Sat w [Yb c C,F]) {id p:Int} {x y:OneD} (hx:C.all id=some x) (hy:C.all p=some y) (hxp:x.par=some y.ad) (hne:id≠p) (hk:0≤y.kids∧y.kids≤100000000000):
    Calls prog 69 #[ptrV c 0,intV id,ptrV x.ad 0] w (Ret fun v w'=>Sat w' [Yb c ⟨C.ma,QO (QO C.all p (some {y with kids:=y.kids -1})) id none⟩,F]):= by
 replace hS:=Jd hS
 refine Qn func69 U ntmps69 U ?_
 refine Qe (Qa (Qb U U (Qi U U (Qg U Jk U (Qo U Y4 (Kp hS 2 U hx hxp) U ?_)))))
 have hz0:=hS
 have j1:=ZY (hz0.pick [2,0,1,3] U) hy
 refine Qi U U (Qg U Kx U (Qo U QM (by first | assumption | exact j1.cellF 0 U U | exact j1.cell 7 U U) U ?_))
 refine Ka U U (by omega) (by omega) U ?_
 refine Qi U U (Qg U Kx U ?_)
 first | (refine Qx j1 U U Js (by first | rfl | assumption | exact j1.own_one 3 U) (i:=7) U (by first | decide | exact Q7 U | (simp;done) | omega) ?_) | (refine KW j1 U U Js (by first | rfl | assumption | exact j1.own_one 3 U) (i:=0) U (by first | decide | exact Q7 U | (simp;done) | omega) ?_)
 intro w2 j3; dsimp only[List.set]at j3
 refine Qf (Qc (Qh [1,0] U ?_))
 have j4:=YS (x:={y with kids:=y.kids -1}) (j3.pick [0,1,2,3,4,5,6,7,8,9] U)
 refine Qa (Qb U U (Qi U U (Qg U JU U (Qo U HL (by first | assumption | exact j4.cell 1 U U) U ?_))))
 refine Qb U U (WG (k:=id) 2 j4 keysInt underlying89 U U U U ?_)
 intro w5 j5; dsimp only[List.set]at j5
 refine Qf (ZP (.inl U) U ?_)
 have hA:=ZY (i:=id) (x:=x) (j5.pick [0,1,2,3] U) (by rw[Qz hne]; exact hx)
 have hB:=hA.pick [7,8,6,9] U
 rw[←WI (k:=p) (y:={y with kids:=y.kids -1}) hy U,GY]at hB
 exact⟨_,U,J2 (C:=⟨C.ma,QO (QO C.all p (some {y with kids:=y.kids -1})) id none⟩) hB⟩
