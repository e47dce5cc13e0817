/- reclaim: the clock -/
import Derived.Test.YtkgjmhcdacidoaaGreatDoorSh4
set_option linter.unusedVariables false
set_option maxRecDepth 100000
namespace Go.Proofs.YtkgjmhcdacidoaaGreatDoor
open Go.RowKit M Proofs.Tryz
structure CkD where
  u:Bool
  m:Bool
  t:Bool
  o:Int
def ckC:RowC CkD:=⟨fun x=>[.bool x.u,.bool x.m,.bool x.t,intV x.o],4, by decide, fun _=>rfl, fun _=>rfl⟩
def gI (g:Int→Option Int):Int→Option Value:= fun k=>(g k).map intV
theorem U2 (g:Int→Option Int) (k:Int):(gI g k).getD (intV 0)=intV ((g k).getD 0):= by unfold gI; cases g k<;>rfl
theorem Ks (g:Int→Option Int) (k x:Int):upd (gI g) k (some (intV x))=gI (up g k (some x)):= by
  funext j
  by_cases h:j=k
  · subst h; rw[Z0];unfold gI; rw[XO];rfl
  · rw[Wp h];unfold gI; rw[XW h]
theorem Kt:(fun _=>none:Int→Option Value)=gI (fun _=>none):=rfl
structure CkX where
  v:Value
  l:List CkD
  b1:Nat
  b2:Nat
  b3:Nat
  g1:Int→Option Int
  g2:Int→Option Int
  g3:Int→Option Int
def RU (p:Nat) (ul:List Bool) (h:Int):Th:=CH fun q:CkX=>starL [JN (ul=q.l.map CkD.u∧ul.length≤4096∧0≤h∧h<ul.length),QE p [q.v,intV h,.map (some q.b1),.map (some q.b2),.map (some q.b3)],rowT ckC q.v q.l,Q6 QX q.b1 (gI q.g1),Q6 QX q.b2 (gI q.g2),Q6 QX q.b3 (gI q.g3)]
def DM (p:Nat) (ul:List Bool):Th:=CH fun h:Int=>RU p ul h
theorem Jc {w:World} {p:Nat} {ul:List Bool} {h:Int} {As:List Th} (hS:Sat w (RU p ul h::As)): ∃ob cap l b1 b2 b3 g1 g2 g3,ul=l.map CkD.u∧l.length≤4096∧0≤h∧h<l.length∧Sat w (QE p [.slice (some ⟨ob,0,none⟩) l.length cap,intV h,.map (some b1),.map (some b2),.map (some b3)]::rowT ckC (.slice (some ⟨ob,0,none⟩) l.length cap) l::Q6 QX b1 (gI g1)::Q6 QX b2 (gI g2)::Q6 QX b3 (gI g3)::As):= by
  obtain⟨⟨v,l,b1,b2,b3,g1,g2,g3⟩,hS⟩:=hS.ex
  obtain⟨⟨h1,h2,h3,h4⟩,j2⟩:=hS.flat.pure_elim
  dsimp only at h1 h2 h3 h4
  rw[h1,List.length_map]at h2 h4
  obtain⟨ob,cap,hv,_⟩:=Sat.own_at (As:=QE p _::rowT ckC v l::Q6 QX b1 (gI g1)::Q6 QX b2 (gI g2)::Q6 QX b3 (gI g3)::As) j2 1 rfl (by omega)
  obtain rfl:=hv
  exact⟨ob,cap,l,b1,b2,b3,g1,g2,g3,h1,h2,h3,h4,j2⟩
theorem Zi {w:World} {p:Nat} {ul:List Bool} {h:Int} {As:List Th} {v:Value} {l:List CkD} {b1 b2 b3:Nat} {g1 g2 g3:Int→Option Int} (h1:ul=l.map CkD.u) (h2:l.length≤4096) (h3:0≤h) (h4:h<l.length)
    (hS:Sat w (QE p [v,intV h,.map (some b1),.map (some b2),.map (some b3)]::rowT ckC v l::Q6 QX b1 (gI g1)::Q6 QX b2 (gI g2)::Q6 QX b3 (gI g3)::As)):Sat w (RU p ul h::As):=
  Sat.ex_intro (f:= fun q:CkX=>starL [JN (ul=q.l.map CkD.u∧ul.length≤4096∧0≤h∧h<ul.length),QE p [q.v,intV h,.map (some q.b1),.map (some q.b2),.map (some q.b3)],rowT ckC q.v q.l,Q6 QX q.b1 (gI q.g1),Q6 QX q.b2 (gI q.g2),Q6 QX q.b3 (gI q.g3)]) ⟨v,l,b1,b2,b3,g1,g2,g3⟩
    (Sat.fold (As:=[JN _,QE p _,rowT ckC v l,Q6 QX b1 (gI g1),Q6 QX b2 (gI g2),Q6 QX b3 (gI g3)]) (Sat.pure_intro ⟨h1, by rw[h1,List.length_map]; exact h2,h3, by rw[h1,List.length_map]; exact h4⟩ hS))
theorem ck_u {l:List CkD} {k:Nat} {x:CkD} (h:l[k]? =some x):(l.map CkD.u)[k]? =some x.u:= by rw[List.getElem?_map,h];rfl
theorem M9 {l:List CkD} {k:Nat} {x:CkD}:(l.set k x).map CkD.u=(l.map CkD.u).set k x.u:=List.map_set
theorem Vc {l:List CkD} {k:Nat} {x y:CkD} (h:l[k]? =some x) (hu:y.u=x.u):(l.set k y).map CkD.u=l.map CkD.u:= by
  rw[M9,hu]; exact Kk (ck_u h)
theorem B5 {w:World} {p:Nat} {ul:List Bool} {hd:Int} {F:Th} (hS:Sat w [RU p ul hd,F]) (f:Int):
    Calls prog 197 #[ptrV p 0,intV f] w (Ret fun v w'=>v= .bool (decide (0≤f∧f<(ul.length:Int)))∧Sat w' [RU p ul hd,F]):= by
 obtain⟨ob,cap,l,b1,b2,b3,g1,g2,g3,hul,hl4,hh0,hh1,hS⟩:=Jc hS
 refine Qn func197 U ntmps197 U ?_
 refine Qe (Qa (Qd U U (Qf (Qc (Qe (Qa (Qb U U (Jr U U U (Qb U U (QZ 7 U (fun h1=> ?_) (fun h1=> ?_)))))))))))
 ·refine Qj U U (det h1) (Qb U U (Qj U U (det h1) (Qb U U (Qj U U (det h1) (Qi U U (Qj U U (det h1) (Qg U ZA U (Qj U U (det h1) (Qo U WM (by first | assumption | exact hS.cell 0 U U) U ?_)))))))))
  refine Qj U U (det h1) ?_
  first | refine XB underlying149 U U ?_ | refine Xo 1 hS underlying149 U U U ?_
  refine Qj U U (det h1) (Xn U U U (QN U (det h1) U U (Qd U U (Qf (Qc (Qh [4] U (Qv (QR (.inr U) U U ?_))))))))
  exact⟨_,rfl, by congr 1; rw[hul,List.length_map];first | (simp;done) | (simp;omega) | (rw[eq_comm,decide_eq_true_eq];omega) | (rw[eq_comm,decide_eq_false_iff_not];omega),Zi (hul) (hl4) (hh0) (hh1) (hS.pick [0,1,2,3,4,5] U)⟩
 refine Qk U U (QF h1) U (Qk U U (QF h1) U (Qk U U (QF h1) U (Qk U U (QF h1) U (Qk U U (QF h1) U (Qk U U (QF h1) U (Qk U U (QF h1) U (QC U (QF h1) U U (Qd U U (Qf (Qc (Qh [4] U (Qv (QR (.inr U) U U ?_)))))))))))))
 exact⟨_,rfl, by congr 1; rw[hul,List.length_map];first | (simp;done) | (simp;omega) | (rw[eq_comm,decide_eq_true_eq];omega) | (rw[eq_comm,decide_eq_false_iff_not];omega),Zi (hul) (hl4) (hh0) (hh1) (hS.pick [0,1,2,3,4,5] U)⟩
theorem Rw {w:World} {p:Nat} {ul:List Bool} {hd:Int} {F:Th} (hS:Sat w [RU p ul hd,F]) (f:Int) (hf:0≤f∧f<(ul.length:Int)):
    Calls prog 167 #[ptrV p 0,intV f] w (Ret fun v w'=>v= .tuple #[]∧Sat w' [RU p (ul.set f.toNat false) hd,F]):= by
 refine Qn func167 U ntmps167 U ?_
 refine Qe (Qe (Qa (Qb U U (Qb U U (Q0 MD U (B5 (hS.sp [0] U) f) U ?_)))))
 rintro _ w1 ⟨rfl,j1⟩
 replace j1:=j1.jn U U
 rw[det (show 0≤f∧f<(ul.length:Int) from hf)]
 refine QU U U (Qb U U (Qj U U U ?_))
 obtain⟨ob,cap,l,b1,b2,b3,g1,g2,g3,hul,hl4,hh0,hh1,hSo⟩:=Jc (j1.pick [0,1] rfl)
 have hull:ul.length=l.length:= by rw[hul,List.length_map]
 obtain⟨x,hx⟩: ∃x,l[f.toNat]? =some x:=⟨_,Zd (by omega)⟩
 refine Qb U U (Qj U U U (Qi U U (Qj U U U (Qg U ZA U (Qj U U U (Qo U WM (by first | assumption | exact hSo.cell 0 U U) U ?_))))))
 refine Qj U U U (Qb U U (Qj U U U (Xg ckC 1 f.toNat hSo U U U (by omega) hx Y2 U ?_)))
 intro bx2 capx2 hvx2
 refine Qj U U U (Qg U K2 U (Qj U U U (XY 1 f.toNat 0 hSo U hvx2 U U hx VU U U (Qj U U U (QU U U (QC U U U U (Qf (Qc (Qh [1,0,18] U (QS U (fun h3=> ?_) (fun h3=> ?_)))))))))))
 ·refine Qv (Qr (ZP (.inr U) U ?_))
  exact⟨_,rfl,rfl, by rw[show ul.set f.toNat false=ul by rw[hul]; exact Kk (by rw[ck_u hx];congr 1;simpa using(by assumption:(!x.u)=true))]; exact Zi (hul) (hl4) (hh0) (hh1) (hSo.pick [0,1,2,3,4,5] U)⟩
 refine Qs (Qc (Qe ?_))
 have j4:=hSo.drew
 refine QH [0,1,2,3,4,5,6,7,8,9,10,11,12,13,14] [14] ZW (by kernel_rfl) ?_
 refine QJ U U U (Xd U U U (QP U U U K5 (Q3 U U U (Qm U Ye (by first | assumption | exact j4.cell 0 U U)) ?_)))
 refine QJ U U U (Xd U U U (QP U U U ZA (Q3 U U U (Qm U WM (by first | assumption | exact j4.cell 0 U U)) ?_)))
 refine QJ U U U (Xh U U U (fun _=>(ZF f.toNat U U (by first | rfl | omega) (by omega) Y2)) ?_)
 refine QP U U U K1 (Q3 U U U (W9 ckC 1 f.toNat 3 j4 U hx QM U U) (Q3 U U U (Xt 2 j4 keysInt underlying76 U U U Hm (U2 _ _)) (Xh U U U (fun _=>(Gn U U U)) ?_)))
 refine Xl U U U U U U ?_
 first | refine Xi 2 j4 keysInt underlying76 U U U U ?_
 intro w5 j5; dsimp only[List.set]at j5
 refine Zj (Xq (by kernel_rfl)) ?_
 refine VC.nil ?_
 have j6:=j5; rw[Ks]at j6
 refine Qc (Qh [1,0] U (Qa (Qb U U (Qi U U (Qg U ZA U (Qo U WM (by first | assumption | exact j6.cell 0 U U) U ?_))))))
 refine Qb U U (Zw U pl_249_ MP G3 U U (Xg ckC 1 f.toNat j6 U U U (by omega) hx Y2 U ?_))
 intro bx7 capx7 hvx7
 refine Wh 1 f.toNat (⟨false,false,false,0⟩:CkD) j6 U hvx7 U U HT (by first | rfl | (simp;done)) (by first | omega | exact(XL hx).1) ?_
 intro w8 j9; dsimp only[List.set]at j9
 refine Qf (ZP (.inl U) U ?_)
 exact⟨_,rfl,rfl,Zi (show _=(l.set f.toNat ⟨false,false,false,0⟩).map CkD.u by rw[hul,M9]) (by rw[List.length_set]; exact hl4) (hh0) (by rw[List.length_set]; exact hh1) (j9.pick [0,1,2,3,4,5] U)⟩
theorem VR {w:World} {p:Nat} {ul:List Bool} {hd:Int} {F:Th} (hS:Sat w [RU p ul hd,F]) (f:Int) (hf:0≤f∧f<(ul.length:Int)):
    Calls prog 209 #[ptrV p 0,intV f] w (Ret fun v w'=>v= .tuple #[]∧Sat w' [RU p ul hd,F]):= by
 refine Qn func209 U ntmps209 U ?_
 refine Qe (Qe (Qa (Qb U U (Qb U U (Q0 MD U (B5 (hS.sp [0] U) f) U ?_)))))
 rintro _ w1 ⟨rfl,j1⟩
 replace j1:=j1.jn U U
 rw[det (show 0≤f∧f<(ul.length:Int) from hf)]
 refine QU U U (Qb U U (Qj U U U ?_))
 obtain⟨ob,cap,l,b1,b2,b3,g1,g2,g3,hul,hl4,hh0,hh1,hSo⟩:=Jc (j1.pick [0,1] rfl)
 have hull:ul.length=l.length:= by rw[hul,List.length_map]
 obtain⟨x,hx⟩: ∃x,l[f.toNat]? =some x:=⟨_,Zd (by omega)⟩
 refine Qb U U (Qj U U U (Qi U U (Qj U U U (Qg U ZA U (Qj U U U (Qo U WM (by first | assumption | exact hSo.cell 0 U U) U ?_))))))
 refine Qj U U U (Qb U U (Qj U U U (Xg ckC 1 f.toNat hSo U U U (by omega) hx Y2 U ?_)))
 intro bx2 capx2 hvx2
 refine Qj U U U (Qg U K2 U (Qj U U U (XY 1 f.toNat 0 hSo U hvx2 U U hx VU U U (Qj U U U (QU U U (QC U U U U (Qf (Qc (Qh [1,0,19] U (QS U (fun h3=> ?_) (fun h3=> ?_)))))))))))
 ·exact Qv (Qr (ZP (.inr U) U (⟨_,U,U,Zi (hul) (hl4) (hh0) (hh1) (hSo.pick [0,1,2,3,4,5] U)⟩)))
 refine Qs (Qc (Qe (Qa (Qb U U (Qi U U (Qg U ZA U (Qo U WM (by first | assumption | exact hSo.cell 0 U U) U ?_)))))))
 refine Qb U U (Xg ckC 1 f.toNat hSo U U U (by omega) hx Y2 U ?_)
 intro bx4 capx4 hvx4
 refine Qd U U (Qf (Qc (Qe (Qa (Qb U U (Qi U U (Qg U H9 U (Je 1 f.toNat 1 {x with m:=true} hSo U hvx4 U U U Ki hx U (by decide) U (by first | rfl | assumption) ?_))))))))
 intro w5 j6; dsimp only[List.set]at j6
 clear hSo
 refine Qf (Qc (Qh [0,4] U (Qe ?_)))
 have hx1:(l.set f.toNat {x with m:=true})[f.toNat]? =some {x with m:=true}:=List.getElem?_set_self (by omega)
 refine Qa (Qb U U (Qi U U (Qg U Bq U (XY 1 f.toNat 2 j6 U hvx4 U U hx1 VU U U (QU U U (Qf (Qc (QS U (fun h7=> ?_) (fun h7=> ?_)))))))))
 ·refine Qe (Qa (Qb U U (Qi U U (Qg U Bq U (Je 1 f.toNat 2 {x with m:=true,t:=true} j6 U hvx4 U U U Ki hx1 U (by decide) U (by first | rfl | assumption) ?_)))))
  intro w8 j9; dsimp only[List.set]at j9
  refine Qf (Qc ?_)
  have hx2:((l.set f.toNat {x with m:=true}).set f.toNat {x with m:=true,t:=true})[f.toNat]? =some {x with m:=true,t:=true}:=List.getElem?_set_self (by rw[List.length_set];omega)
  have j10:=j9.drew
  refine QH [0,1,2,3,4,5,6,7,8,9,10] [10] ZW (by kernel_rfl) ?_
  refine QJ U U U (Xd U U U (QP U U U U4 (Q3 U U U (Qm U Ye (by first | assumption | exact j10.cell 0 U U)) ?_)))
  refine QJ U U U (Xd U U U (QP U U U K1 (Q3 U U U (Qm U QM (j10.ocell 1 U hvx4 (RowC.cells_get hx2 U))) (Q3 U U U (Xt 3 j10 keysInt underlying76 U U U Hm (U2 _ _)) (Xh U U U (fun _=>(Gs U U U)) ?_)))))
  refine Xl U U U U U U ?_
  first | refine Xi 3 j10 keysInt underlying76 U U U U ?_
  intro w11 j11; dsimp only[List.set]at j11
  refine Zj (Xq (by kernel_rfl)) ?_
  refine VC.nil ?_
  have j12:=j11; rw[Ks]at j12
  refine ZP (.inl U) U ?_
  exact⟨_,rfl,rfl,Zi (l:=((l.set f.toNat {x with m:=true}).set f.toNat {x with m:=true,t:=true})) (by rw[hul]; exact((Vc (y:={x with m:=true,t:=true}) hx1 U).trans (Vc (y:={x with m:=true}) hx U)).symm) (by simp only[List.length_set]; exact hl4) (hh0) (by simp only[List.length_set]; exact hh1) (j12.pick [0,1,2,3,4,5] U)⟩
 refine Qs (ZP (.inl U) U ?_)
 exact⟨_,rfl,rfl,Zi (l:=(l.set f.toNat {x with m:=true})) (by rw[hul]; exact(Vc (y:={x with m:=true}) hx U).symm) (by simp only[List.length_set]; exact hl4) (hh0) (by simp only[List.length_set]; exact hh1) (j6.pick [0,1,2,3,4,5] U)⟩
theorem E2 {w:World} {p:Nat} {ul:List Bool} {hd:Int} {F:Th} (hS:Sat w [RU p ul hd,F]) (f:Int) (hf:0≤f∧f<(ul.length:Int)) (owner:Int):
    Calls prog 185 #[ptrV p 0,intV f,intV owner] w (Ret fun v w'=>v= .tuple #[]∧Sat w' [RU p (ul.set f.toNat true) hd,F]):= by
 refine Qn func185 U ntmps185 U ?_
 refine Qe (Qe (Qa (Qb U U (Qb U U (Q0 MD U (B5 (hS.sp [0] U) f) U ?_)))))
 rintro _ w1 ⟨rfl,j1⟩
 replace j1:=j1.jn U U
 rw[det (show 0≤f∧f<(ul.length:Int) from hf)]
 refine QU U U (Qf (Qc (Db U U (Qs (Qc (Qe (Qe ?_)))))))
 obtain⟨ob,cap,l,b1,b2,b3,g1,g2,g3,hul,hl4,hh0,hh1,hSo⟩:=Jc (j1.pick [0,1] rfl)
 have hull:ul.length=l.length:= by rw[hul,List.length_map]
 obtain⟨x,hx⟩: ∃x,l[f.toNat]? =some x:=⟨_,Zd (by omega)⟩
 refine Qa (Qb U U (Qi U U (Qg U ZA U (Qo U WM (by first | assumption | exact hSo.cell 0 U U) U ?_))))
 refine Qb U U (Xg ckC 1 f.toNat hSo U U U (by omega) hx Y2 U ?_)
 intro bx2 capx2 hvx2
 refine ZG 1 f.toNat hSo U hvx2 U hx Af HT U U (Xa hSo G3 U U ?_)
 intro b3 w3 j3
 clear hSo
 first | (refine Q9 j3 U U HT U (by first | rfl | (simp [QV,Value.oneCell'];done) | assumption | exact hone) (i:=0) U (by first | decide | exact Q7 U | (simp;done) | omega) ?_) | (refine Q9 j3 U U HT U (by first | rfl | (simp [QV,Value.oneCell'];done) | assumption | exact hone) (i:=1) U (by first | decide | exact Q7 U | (simp;done) | omega) ?_)
 intro w4 j5; dsimp only[List.set]at j5
 refine Qf (Qc (Qh [2,1,0,6] U (Qe (Qa (Qg U K2 U (Qo U VU (by first | assumption | exact j5.cell 0 U U | exact j5.cell 1 U U) U ?_))))))
 refine QU U U (Qb U U (Xw 21 U (fun h6=> ?_) (fun h6=> ?_)))
 ·refine Qk U U h6 U (Qk U U h6 U (Qk U U h6 U (Qk U U h6 U (QN U h6 U U (Qf (Qc (Qh [2,1,0,26] U (XD U (Qe ?_)))))))))
  have hSz3:=Zi (hul) (hl4) (hh0) (hh1) (j5.pick [1,2,3,4,5,6] U)
  refine Qa (Qb U U (Qb U U (Q0 MF U (Rw (hSz3.sp [0] U) f hf) U ?_)))
  rintro _ w7 ⟨rfl,j7⟩
  replace j7:=j7.jn U U
  clear hSz3
  refine Qf (Qc (Qe ?_))
  obtain⟨ob2,cap2,l2,b12,b22,b32,g12,g22,g32,hul2,hl42,hh02,hh12,hSo2⟩:=Jc (j7.pick [0,1] rfl)
  have hl2l:l2.length=ul.length:= by have :=congrArg List.length hul2; rw[List.length_set,List.length_map]at this; exact this.symm
  obtain⟨x2,hx2⟩: ∃x,l2[f.toNat]? =some x:=⟨_,Zd (by omega)⟩
  refine Qa (Qb U U (Qi U U (Qg U ZA U (Qo U WM (by first | assumption | exact hSo2.cell 0 U U) U ?_))))
  refine Qb U U (Qb U U (Zw U GZ MP G3 U U (Xg ckC 1 f.toNat hSo2 U U U (by omega) hx2 Y2 U ?_)))
  intro bx8 capx8 hvx8
  refine Wh 1 f.toNat (⟨true,false,false,owner⟩:CkD) hSo2 U hvx8 U U HT (by first | rfl | (simp;done)) (by first | omega | exact(XL hx2).1) ?_
  intro w9 j10; dsimp only[List.set]at j10
  clear hSo2
  refine Qf (Qc (Qh [2,1,0] U (Qa (Qb U U (Qi U U (Qg U K5 U (Qo U Ye (by first | assumption | exact j10.cell 0 U U) U ?_)))))))
  refine Qb U U (X8 2 j10 keysInt underlying76 U U U Hm (U2 _ _) U (Mb U U U U ?_))
  first | refine Xi 2 j10 keysInt underlying76 U U U U ?_
  intro w11 j11; dsimp only[List.set]at j11
  refine Qf ?_
  have j12:=j11; rw[Ks]at j12
  have hSz5:=Zi (ul:=ul.set f.toNat true) (l:=l2.set f.toNat ⟨true,false,false,owner⟩) (by rw[M9,←hul2,List.set_set]) (by rw[List.length_set]; exact hl42) hh02 (by rw[List.length_set]; exact hh12) (j12.pick [0,1,2,3,4,5] U)
  refine Qc (Qa (Qb U U (Qb U U ?_)))
  refine Q0 MC U (VR (hSz5.sp [0] U) f (by rw[List.length_set]; exact hf)) U ?_
  rintro _ w13 ⟨rfl,j13⟩
  replace j13:=j13.jn U U
  clear hSz5
  exact Qf (ZP (.inl U) U (⟨_,U,U,j13.pick [0,1] U⟩))
 refine Qj U U h6 (Qg U K1 U (Qj U U h6 (Qo U QM (by first | assumption | exact j5.cell 0 U U | exact j5.cell 1 U U) U ?_)))
 refine Qj U U h6 (Qb U U (Qj U U h6 (Xp U U U (QC U h6 U U (Qf (Qc (Qh [2,1,0,26] U (Qt U (fun h14=> ?_) (fun h14=> ?_)))))))))
 ·refine Qe ?_
  have hSz3:=Zi (hul) (hl4) (hh0) (hh1) (j5.pick [1,2,3,4,5,6] U)
  refine Qa (Qb U U (Qb U U (Q0 MF U (Rw (hSz3.sp [0] U) f hf) U ?_)))
  rintro _ w15 ⟨rfl,j15⟩
  replace j15:=j15.jn U U
  clear hSz3
  refine Qf (Qc (Qe ?_))
  obtain⟨ob2,cap2,l2,b12,b22,b32,g12,g22,g32,hul2,hl42,hh02,hh12,hSo2⟩:=Jc (j15.pick [0,1] rfl)
  have hl2l:l2.length=ul.length:= by have :=congrArg List.length hul2; rw[List.length_set,List.length_map]at this; exact this.symm
  obtain⟨x2,hx2⟩: ∃x,l2[f.toNat]? =some x:=⟨_,Zd (by omega)⟩
  refine Qa (Qb U U (Qi U U (Qg U ZA U (Qo U WM (by first | assumption | exact hSo2.cell 0 U U) U ?_))))
  refine Qb U U (Qb U U (Zw U GZ MP G3 U U (Xg ckC 1 f.toNat hSo2 U U U (by omega) hx2 Y2 U ?_)))
  intro bx16 capx16 hvx16
  refine Wh 1 f.toNat (⟨true,false,false,owner⟩:CkD) hSo2 U hvx16 U U HT (by first | rfl | (simp;done)) (by first | omega | exact(XL hx2).1) ?_
  intro w17 j18; dsimp only[List.set]at j18
  clear hSo2
  refine Qf (Qc (Qh [2,1,0] U (Qa (Qb U U (Qi U U (Qg U K5 U (Qo U Ye (by first | assumption | exact j18.cell 0 U U) U ?_)))))))
  refine Qb U U (X8 2 j18 keysInt underlying76 U U U Hm (U2 _ _) U (Mb U U U U ?_))
  first | refine Xi 2 j18 keysInt underlying76 U U U U ?_
  intro w19 j19; dsimp only[List.set]at j19
  refine Qf ?_
  have j20:=j19; rw[Ks]at j20
  have hSz5:=Zi (ul:=ul.set f.toNat true) (l:=l2.set f.toNat ⟨true,false,false,owner⟩) (by rw[M9,←hul2,List.set_set]) (by rw[List.length_set]; exact hl42) hh02 (by rw[List.length_set]; exact hh12) (j20.pick [0,1,2,3,4,5] U)
  refine Qc (Qa (Qb U U (Qb U U ?_)))
  refine Q0 MC U (VR (hSz5.sp [0] U) f (by rw[List.length_set]; exact hf)) U ?_
  rintro _ w21 ⟨rfl,j21⟩
  replace j21:=j21.jn U U
  clear hSz5
  exact Qf (ZP (.inl U) U (⟨_,U,U,j21.pick [0,1] U⟩))
 refine Qs (Qc ?_)
 have hSz6:=Zi (hul) (hl4) (hh0) (hh1) (j5.pick [1,2,3,4,5,6] U)
 have hxu:x.u=true:= by simpa using(by assumption:(!x.u)=false)
 have hus:ul.set f.toNat true=ul:= by rw[hul]; exact Kk (by rw[ck_u hx,hxu])
 rw[←hus]at hSz6
 refine Qa (Qb U U (Qb U U ?_))
 refine Q0 MC U (VR (hSz6.sp [0] U) f (by rw[List.length_set]; exact hf)) U ?_
 rintro _ w22 ⟨rfl,j22⟩
 replace j22:=j22.jn U U
 clear hSz6
 exact Qf (ZP (.inl U) U (⟨_,U,U,j22.pick [0,1] U⟩))
theorem Fe {w:World} {p:Nat} {v0:Value} {hd:Int} {l:List CkD} {b1 b2 b3:Nat} {g1 g2 g3:Int→Option Int} {F:Th} (hS:Sat w [QE p [v0,intV hd,.map (some b1),.map (some b2),.map (some b3)],rowT ckC v0 l,Q6 QX b1 (gI g1),Q6 QX b2 (gI g2),Q6 QX b3 (gI g3),F]) (owner:Int):
    Calls prog 219 #[ptrV p 0,intV owner] w (Ret fun v w'=> ∃n,v=intV n∧Sat w' [QE p [v0,intV hd,.map (some b1),.map (some b2),.map (some b3)],rowT ckC v0 l,Q6 QX b1 (gI g1),Q6 QX b2 (gI g2),Q6 QX b3 (gI g3),F]):= by
 refine Qn func219 U ntmps219 U ?_
 refine Qe (Qa (Qd U U (Qf (Qc (Qe ?_)))))
 have j1:=hS.drew
 refine QH [0,1,2,3,4,5,6,7,8,9,10,11,12,13] [] ZW (by kernel_rfl) ?_
 refine QJ U U U (Xd U U U (QP U U U U4 (Q3 U U U (Qm U Ye (by first | assumption | exact j1.cell 0 U U)) ?_)))
 refine QJ U U U (Q3 U U U (Xt 3 j1 keysInt underlying76 U U U Hm (U2 _ _)) (QJ U U U (Xd U U U (QP U U U Bu (Q3 U U U (Qm U Ye (by first | assumption | exact j1.cell 0 U U)) ?_)))))
 refine QJ U U U (Q3 U U U (Xt 4 j1 keysInt underlying76 U U U Hm (U2 _ _)) (Xh U U U (fun _=>(Gq U U)) ?_))
 exact Zo U U U (VC.nil (Qc (Qh [4] U (Qv (QR (.inr U) U U (⟨_,U,_,U,j1⟩))))))
theorem Fg {w:World} {p:Nat} {v0:Value} {hd:Int} {l:List CkD} {b1 b2 b3:Nat} {g1 g2 g3:Int→Option Int} {F:Th} (hS:Sat w [QE p [v0,intV hd,.map (some b1),.map (some b2),.map (some b3)],rowT ckC v0 l,Q6 QX b1 (gI g1),Q6 QX b2 (gI g2),Q6 QX b3 (gI g3),F]) (owner:Int):
    Calls prog 214 #[ptrV p 0,intV owner] w (Ret fun v w'=> ∃g,v= .bool g∧Sat w' [QE p [v0,intV hd,.map (some b1),.map (some b2),.map (some b3)],rowT ckC v0 l,Q6 QX b1 (gI g1),Q6 QX b2 (gI g2),Q6 QX b3 (gI g3),F]):= by
 refine Qn func214 U ntmps214 U ?_
 refine Qe (Qa (Qd U U (Qf (Qc (Qe ?_)))))
 have j1:=hS.drew
 refine QH [0,1,2,3,4,5,6,7,8,9,10] [8] ZW (by kernel_rfl) ?_
 refine QJ U U U (Xd U U U (QP U U U K5 (Q3 U U U (Qm U Ye (by first | assumption | exact j1.cell 0 U U)) ?_)))
 refine QJ U U U (Q3 U U U (Xt 2 j1 keysInt underlying76 U U U Hm (U2 _ _)) (QJ U U U (QJ U U U (Xl U U U U U U ?_))))
 refine Q0 cal_219 U (Fe (j1.sp [0,1,2,3,4] U) owner) U ?_
 rintro _ w2 ⟨n,rfl,j2⟩
 replace j2:=j2.jn U U
 refine XH (.cons (.inl ⟨rfl,(Xt 2 j2 keysInt underlying76 U U U Hm (U2 _ _))⟩) (.cons (.inl ⟨rfl,(Qm U Ye (by first | assumption | exact j2.cell 0 U U))⟩) .nil)) ?_
 refine Xh U U U (fun _=>(M3 U U)) ?_
 exact Zo U U U (VC.nil (Qc (Qh [4] U (Qv (QR (.inr U) U U (⟨_,U,_,U,j2⟩))))))
