/- reclaim: the clock -/
import Derived.Test.YtkcjfoaejijdoaaGreatDoorSh4
set_option linter.unusedVariables false
set_option maxRecDepth 100000
namespace Go.Proofs.YtkcjfoaejijdoaaGreatDoor
open Go.RowKit M Proofs.Tryz
structure CkD where
  u:Bool
  m:Bool
  t:Bool
  o:Int
def ckC:RowC CkD:=⟨fun x=>[.bool x.u,.bool x.m,.bool x.t,intV x.o],4, by decide, fun _=>rfl, fun _=>rfl⟩
def gI (g:Int→Option Int):Int→Option Value:= fun k=>(g k).map intV
theorem Vr (g:Int→Option Int) (k:Int):(gI g k).getD (intV 0)=intV ((g k).getD 0):= by unfold gI; cases g k<;>rfl
theorem RB (g:Int→Option Int) (k x:Int):upd (gI g) k (some (intV x))=gI (up g k (some x)):= by
  funext j
  by_cases h:j=k
  · subst h; rw[Ws];unfold gI; rw[Ze];rfl
  · rw[Jy h];unfold gI; rw[Zv h]
theorem RC:(fun _=>none:Int→Option Value)=gI (fun _=>none):=rfl
structure CkX where
  v:Value
  l:List CkD
  b1:Nat
  b2:Nat
  b3:Nat
  g1:Int→Option Int
  g2:Int→Option Int
  g3:Int→Option Int
def GM (p:Nat) (ul:List Bool) (h:Int):Th:=Cw fun q:CkX=>starL [Yc (ul=q.l.map CkD.u∧ul.length≤4096∧0≤h∧h<ul.length),Q8 p [q.v,intV h,.map (some q.b1),.map (some q.b2),.map (some q.b3)],rowT ckC q.v q.l,Q5 QN q.b1 (gI q.g1),Q5 QN q.b2 (gI q.g2),Q5 QN q.b3 (gI q.g3)]
def DW (p:Nat) (ul:List Bool):Th:=Cw fun h:Int=>GM p ul h
theorem Ju {w:World} {p:Nat} {ul:List Bool} {h:Int} {As:List Th} (hS:Sat w (GM p ul h::As)): ∃ob cap l b1 b2 b3 g1 g2 g3,ul=l.map CkD.u∧l.length≤4096∧0≤h∧h<l.length∧Sat w (Q8 p [.slice (some ⟨ob,0,none⟩) l.length cap,intV h,.map (some b1),.map (some b2),.map (some b3)]::rowT ckC (.slice (some ⟨ob,0,none⟩) l.length cap) l::Q5 QN b1 (gI g1)::Q5 QN b2 (gI g2)::Q5 QN b3 (gI g3)::As):= by
  obtain⟨⟨v,l,b1,b2,b3,g1,g2,g3⟩,hS⟩:=hS.ex
  obtain⟨⟨h1,h2,h3,h4⟩,j2⟩:=hS.flat.pure_elim
  dsimp only at h1 h2 h3 h4
  rw[h1,List.length_map]at h2 h4
  obtain⟨ob,cap,hv,_⟩:=Sat.own_at (As:=Q8 p _::rowT ckC v l::Q5 QN b1 (gI g1)::Q5 QN b2 (gI g2)::Q5 QN b3 (gI g3)::As) j2 1 rfl (by omega)
  obtain rfl:=hv
  exact⟨ob,cap,l,b1,b2,b3,g1,g2,g3,h1,h2,h3,h4,j2⟩
theorem Zx {w:World} {p:Nat} {ul:List Bool} {h:Int} {As:List Th} {v:Value} {l:List CkD} {b1 b2 b3:Nat} {g1 g2 g3:Int→Option Int} (h1:ul=l.map CkD.u) (h2:l.length≤4096) (h3:0≤h) (h4:h<l.length)
    (hS:Sat w (Q8 p [v,intV h,.map (some b1),.map (some b2),.map (some b3)]::rowT ckC v l::Q5 QN b1 (gI g1)::Q5 QN b2 (gI g2)::Q5 QN b3 (gI g3)::As)):Sat w (GM p ul h::As):=
  Sat.ex_intro (f:= fun q:CkX=>starL [Yc (ul=q.l.map CkD.u∧ul.length≤4096∧0≤h∧h<ul.length),Q8 p [q.v,intV h,.map (some q.b1),.map (some q.b2),.map (some q.b3)],rowT ckC q.v q.l,Q5 QN q.b1 (gI q.g1),Q5 QN q.b2 (gI q.g2),Q5 QN q.b3 (gI q.g3)]) ⟨v,l,b1,b2,b3,g1,g2,g3⟩
    (Sat.fold (As:=[Yc _,Q8 p _,rowT ckC v l,Q5 QN b1 (gI g1),Q5 QN b2 (gI g2),Q5 QN b3 (gI g3)]) (Sat.pure_intro ⟨h1, by rw[h1,List.length_map]; exact h2,h3, by rw[h1,List.length_map]; exact h4⟩ hS))
theorem ck_u {l:List CkD} {k:Nat} {x:CkD} (h:l[k]? =some x):(l.map CkD.u)[k]? =some x.u:= by rw[List.getElem?_map,h];rfl
theorem TU {l:List CkD} {k:Nat} {x:CkD}:(l.set k x).map CkD.u=(l.map CkD.u).set k x.u:=List.map_set
theorem Kg {l:List CkD} {k:Nat} {x y:CkD} (h:l[k]? =some x) (hu:y.u=x.u):(l.set k y).map CkD.u=l.map CkD.u:= by
  rw[TU,hu]; exact Rr (ck_u h)
theorem DV {w:World} {p:Nat} {ul:List Bool} {hd:Int} {F:Th} (hS:Sat w [GM p ul hd,F]) (f:Int):
    Calls prog 220 #[ptrV p 0,intV f] w (Ret fun v w'=>v= .bool (decide (0≤f∧f<(ul.length:Int)))∧Sat w' [GM p ul hd,F]):= by
 obtain⟨ob,cap,l,b1,b2,b3,g1,g2,g3,hul,hl4,hh0,hh1,hS⟩:=Ju hS
 refine Qm func220 U ntmps220 U ?_
 refine Qd (Qa (Qe U U (Qf (Qc (Qd (Qa (Qb U U (Jf U U U (Qb U U (Xc 7 U (fun h1=> ?_) (fun h1=> ?_)))))))))))
 ·refine Qo U U (Xm h1) (Qb U U (Qo U U (Xm h1) (Qb U U (Qo U U (Xm h1) (Qj U U (Qo U U (Xm h1) (Qg U ZX U (Qo U U (Xm h1) (Qr U Jo (hS.cell 0 U U) U (Qo U U (Xm h1) (X7 underlying186 U U (Qo U U (Xm h1) (Xk U U U (QK U (Xm h1) U U (Qe U U (Qf (Qc (Qh [4] U (Qu (QY (.inr U) U U ?_))))))))))))))))))))
  exact⟨_,rfl, by congr 1; rw[hul,List.length_map];(simp;omega),Zx (hul) (hl4) (hh0) (hh1) (hS.pick [0,1,2,3,4,5] U)⟩
 refine Qi U U (Q7 h1) U (Qi U U (Q7 h1) U (Qi U U (Q7 h1) U (Qi U U (Q7 h1) U (Qi U U (Q7 h1) U (Qi U U (Q7 h1) U (Qi U U (Q7 h1) U (QW U (Q7 h1) U U (Qe U U (Qf (Qc (Qh [4] U (Qu (QY (.inr U) U U ?_)))))))))))))
 exact⟨_,rfl, by congr 1; rw[hul,List.length_map];(simp;omega),Zx (hul) (hl4) (hh0) (hh1) (hS.pick [0,1,2,3,4,5] U)⟩
theorem GL {w:World} {p:Nat} {ul:List Bool} {hd:Int} {F:Th} (hS:Sat w [GM p ul hd,F]) (f:Int) (hf:0≤f∧f<(ul.length:Int)):
    Calls prog 186 #[ptrV p 0,intV f] w (Ret fun v w'=>v= .tuple #[]∧Sat w' [GM p (ul.set f.toNat false) hd,F]):= by
 refine Qm func186 U ntmps186 U ?_
 refine Qd (Qd (Qa (Qb U U (Qb U U (Qv Cf U (DV (hS.sp [0] U) f) U ?_)))))
 rintro _ w1 ⟨rfl,j1⟩
 replace j1:=j1.jn U U
 rw[Xm (show 0≤f∧f<(ul.length:Int) from hf)]
 refine Xb U U (Qb U U (Qo U U U ?_))
 obtain⟨ob,cap,l,b1,b2,b3,g1,g2,g3,hul,hl4,hh0,hh1,hSo⟩:=Ju (j1.pick [0,1] rfl)
 have hull:ul.length=l.length:= by rw[hul,List.length_map]
 obtain⟨x,hx⟩: ∃x,l[f.toNat]? =some x:=⟨_,Zq (by omega)⟩
 refine Qb U U (Qo U U U (Qj U U (Qo U U U (Qg U ZX U (Qo U U U (Qr U Jo (hSo.cell 0 U U) U (Qo U U U (Qb U U (Qo U U U (Xx ckC 1 f.toNat hSo U U U (by omega) hx Hm U ?_))))))))))
 intro bx2 capx2 hvx2
 refine Qo U U U (Qg U RM U (Qo U U U (Zz 1 f.toNat 0 hSo U hvx2 U U hx Mc U U (Qo U U U (Xb U U (QW U U U U (Qf (Qc (Qh [1,0,18] U (QT U (fun h3=> ?_) (fun h3=> ?_)))))))))))
 ·refine Qu (Qp (ZU (.inr U) U ?_))
  exact⟨_,rfl,rfl, by rw[show ul.set f.toNat false=ul by rw[hul]; exact Rr (by rw[ck_u hx];congr 1;simpa using(by assumption:(!x.u)=true))]; exact Zx (hul) (hl4) (hh0) (hh1) (hSo.pick [0,1,2,3,4,5] U)⟩
 refine Qs (Qc (Qd ?_))
 have j4:=hSo.drew
 refine QE [0,1,2,3,4,5,6,7,8,9,10,11,12,13,14] [14] Wa (by kernel_rfl) ?_
 refine Q9 U U U (Xi U U U (QQ U U U Vt (Q4 U U U (Ql U ZY (j4.cell 0 U U)) (Q9 U U U (Xi U U U (QQ U U U ZX (Q4 U U U (Ql U Jo (j4.cell 0 U U)) (Q9 U U U (QZ U U U (fun _=>(XM f.toNat U U (by omega) (by omega) Hm)) ?_)))))))))
 refine QQ U U U RK (Q4 U U U (Za ckC 1 f.toNat 3 j4 U hx QL U U) (Q4 U U U (X2 2 j4 keysInt underlying109 U U U Hj (Vr _ _)) (QZ U U U (fun _=>(BE U U U)) ?_)))
 refine Xe U U U U U U ?_
 first | refine Xp 2 j4 keysInt underlying109 U U U U ?_
 intro w5 j5; dsimp only[List.set]at j5
 refine Zu (Xj (by kernel_rfl)) ?_
 refine VC.nil ?_
 have j6:=j5; rw[RB]at j6
 refine Qc (Qh [1,0] U (Qa (Qb U U (Qj U U (Qg U ZX U (Qr U Jo (j6.cell 0 U U) U (Qb U U (Zo U pl_199_ Cs BO U U (Xx ckC 1 f.toNat j6 U U U (by omega) hx Hm U ?_)))))))))
 intro bx7 capx7 hvx7
 refine WF 1 f.toNat (⟨false,false,false,0⟩:CkD) j6 U hvx7 U U KG (by rfl) (by omega) ?_
 intro w8 j9; dsimp only[List.set]at j9
 refine Qf (ZU (.inl U) U ?_)
 exact⟨_,rfl,rfl,Zx (show _=(l.set f.toNat ⟨false,false,false,0⟩).map CkD.u by rw[hul,TU]) (by rw[List.length_set]; exact hl4) (hh0) (by rw[List.length_set]; exact hh1) (j9.pick [0,1,2,3,4,5] U)⟩
theorem Ra {w:World} {p:Nat} {ul:List Bool} {hd:Int} {F:Th} (hS:Sat w [GM p ul hd,F]) (f:Int) (hf:0≤f∧f<(ul.length:Int)):
    Calls prog 223 #[ptrV p 0,intV f] w (Ret fun v w'=>v= .tuple #[]∧Sat w' [GM p ul hd,F]):= by
 refine Qm func223 U ntmps223 U ?_
 refine Qd (Qd (Qa (Qb U U (Qb U U (Qv Cf U (DV (hS.sp [0] U) f) U ?_)))))
 rintro _ w1 ⟨rfl,j1⟩
 replace j1:=j1.jn U U
 rw[Xm (show 0≤f∧f<(ul.length:Int) from hf)]
 refine Xb U U (Qb U U (Qo U U U ?_))
 obtain⟨ob,cap,l,b1,b2,b3,g1,g2,g3,hul,hl4,hh0,hh1,hSo⟩:=Ju (j1.pick [0,1] rfl)
 have hull:ul.length=l.length:= by rw[hul,List.length_map]
 obtain⟨x,hx⟩: ∃x,l[f.toNat]? =some x:=⟨_,Zq (by omega)⟩
 refine Qb U U (Qo U U U (Qj U U (Qo U U U (Qg U ZX U (Qo U U U (Qr U Jo (hSo.cell 0 U U) U (Qo U U U (Qb U U (Qo U U U (Xx ckC 1 f.toNat hSo U U U (by omega) hx Hm U ?_))))))))))
 intro bx2 capx2 hvx2
 refine Qo U U U (Qg U RM U (Qo U U U (Zz 1 f.toNat 0 hSo U hvx2 U U hx Mc U U (Qo U U U (Xb U U (QW U U U U (Qf (Qc (Qh [1,0,19] U (QT U (fun h3=> ?_) (fun h3=> ?_)))))))))))
 ·exact Qu (Qp (ZU (.inr U) U (⟨_,U,U,Zx (hul) (hl4) (hh0) (hh1) (hSo.pick [0,1,2,3,4,5] U)⟩)))
 refine Qs (Qc (Qd (Qa (Qb U U (Qj U U (Qg U ZX U (Qr U Jo (hSo.cell 0 U U) U (Qb U U (Xx ckC 1 f.toNat hSo U U U (by omega) hx Hm U ?_)))))))))
 intro bx4 capx4 hvx4
 refine Qe U U (Qf (Qc (Qd (Qa (Qb U U (Qj U U (Qg U Uw U (JF 1 f.toNat 1 {x with m:=true} hSo U hvx4 U U U Ac hx U (by decide) U (by rfl) ?_))))))))
 intro w5 j6; dsimp only[List.set]at j6
 clear hSo
 refine Qf (Qc (Qh [0,4] U (Qd ?_)))
 have hx1:(l.set f.toNat {x with m:=true})[f.toNat]? =some {x with m:=true}:=List.getElem?_set_self (by omega)
 refine Qa (Qb U U (Qj U U (Qg U DB U (Zz 1 f.toNat 2 j6 U hvx4 U U hx1 Mc U U (Xb U U (Qf (Qc (QT U (fun h7=> ?_) (fun h7=> ?_)))))))))
 ·refine Qd (Qa (Qb U U (Qj U U (Qg U DB U (JF 1 f.toNat 2 {x with m:=true,t:=true} j6 U hvx4 U U U Ac hx1 U (by decide) U (by rfl) ?_)))))
  intro w8 j9; dsimp only[List.set]at j9
  refine Qf (Qc ?_)
  have hx2:((l.set f.toNat {x with m:=true}).set f.toNat {x with m:=true,t:=true})[f.toNat]? =some {x with m:=true,t:=true}:=List.getElem?_set_self (by rw[List.length_set];omega)
  have j10:=j9.drew
  refine QE [0,1,2,3,4,5,6,7,8,9,10] [10] Wa (by kernel_rfl) ?_
  refine Q9 U U U (Xi U U U (QQ U U U Ux (Q4 U U U (Ql U ZY (j10.cell 0 U U)) (Q9 U U U (Xi U U U (QQ U U U RK (Q4 U U U (Ql U QL (j10.ocell 1 U hvx4 (RowC.cells_get hx2 U))) (Q4 U U U (X2 3 j10 keysInt underlying109 U U U Hj (Vr _ _)) (QZ U U U (fun _=>(BG U U U)) ?_)))))))))
  refine Xe U U U U U U ?_
  first | refine Xp 3 j10 keysInt underlying109 U U U U ?_
  intro w11 j11; dsimp only[List.set]at j11
  refine Zu (Xj (by kernel_rfl)) ?_
  refine VC.nil ?_
  have j12:=j11; rw[RB]at j12
  refine ZU (.inl U) U ?_
  exact⟨_,rfl,rfl,Zx (l:=((l.set f.toNat {x with m:=true}).set f.toNat {x with m:=true,t:=true})) (by rw[hul]; exact((Kg (y:={x with m:=true,t:=true}) hx1 U).trans (Kg (y:={x with m:=true}) hx U)).symm) (by simp only[List.length_set]; exact hl4) (hh0) (by simp only[List.length_set]; exact hh1) (j12.pick [0,1,2,3,4,5] U)⟩
 refine Qs (ZU (.inl U) U ?_)
 exact⟨_,rfl,rfl,Zx (l:=(l.set f.toNat {x with m:=true})) (by rw[hul]; exact(Kg (y:={x with m:=true}) hx U).symm) (by simp only[List.length_set]; exact hl4) (hh0) (by simp only[List.length_set]; exact hh1) (j6.pick [0,1,2,3,4,5] U)⟩
theorem I6 {w:World} {p:Nat} {ul:List Bool} {hd:Int} {F:Th} (hS:Sat w [GM p ul hd,F]) (f:Int) (hf:0≤f∧f<(ul.length:Int)) (owner:Int):
    Calls prog 188 #[ptrV p 0,intV f,intV owner] w (Ret fun v w'=>v= .tuple #[]∧Sat w' [GM p (ul.set f.toNat true) hd,F]):= by
 refine Qm func188 U ntmps188 U ?_
 refine Qd (Qd (Qa (Qb U U (Qb U U (Qv Cf U (DV (hS.sp [0] U) f) U ?_)))))
 rintro _ w1 ⟨rfl,j1⟩
 replace j1:=j1.jn U U
 rw[Xm (show 0≤f∧f<(ul.length:Int) from hf)]
 refine Xb U U (Qf (Qc (FZ U U (Qs (Qc (Qd (Qd ?_)))))))
 obtain⟨ob,cap,l,b1,b2,b3,g1,g2,g3,hul,hl4,hh0,hh1,hSo⟩:=Ju (j1.pick [0,1] rfl)
 have hull:ul.length=l.length:= by rw[hul,List.length_map]
 obtain⟨x,hx⟩: ∃x,l[f.toNat]? =some x:=⟨_,Zq (by omega)⟩
 refine Qa (Qb U U (Qj U U (Qg U ZX U (Qr U Jo (hSo.cell 0 U U) U (Qb U U (Xx ckC 1 f.toNat hSo U U U (by omega) hx Hm U ?_))))))
 intro bx2 capx2 hvx2
 refine ZZ 1 f.toNat hSo U hvx2 U hx qan KG U U (Xa hSo BO U U ?_)
 intro b3 w3 j3
 clear hSo
 (refine QG j3 U U KG U (by rfl) (i:=0) U (by decide) ?_)
 intro w4 j5; dsimp only[List.set]at j5
 refine Qf (Qc (Qh [2,1,0,6] U (Qd (Qa (Qg U RM U (Qr U Mc (j5.cell 0 U U) U (Xb U U (Qb U U (Zl 21 U (fun h6=> ?_) (fun h6=> ?_))))))))))
 ·refine Qi U U h6 U (Qi U U h6 U (Qi U U h6 U (Qi U U h6 U (QK U h6 U U (Qf (Qc (Qh [2,1,0,26] U (Xd U (Qd ?_)))))))))
  have hSz3:=Zx (hul) (hl4) (hh0) (hh1) (j5.pick [1,2,3,4,5,6] U)
  refine Qa (Qb U U (Qb U U (Qv Cg U (GL (hSz3.sp [0] U) f hf) U ?_)))
  rintro _ w7 ⟨rfl,j7⟩
  replace j7:=j7.jn U U
  clear hSz3
  refine Qf (Qc (Qd ?_))
  obtain⟨ob2,cap2,l2,b12,b22,b32,g12,g22,g32,hul2,hl42,hh02,hh12,hSo2⟩:=Ju (j7.pick [0,1] rfl)
  have hl2l:l2.length=ul.length:= by have :=congrArg List.length hul2; rw[List.length_set,List.length_map]at this; exact this.symm
  obtain⟨x2,hx2⟩: ∃x,l2[f.toNat]? =some x:=⟨_,Zq (by omega)⟩
  refine Qa (Qb U U (Qj U U (Qg U ZX U (Qr U Jo (hSo2.cell 0 U U) U (Qb U U (Qb U U (Zo U Dv Cs BO U U (Xx ckC 1 f.toNat hSo2 U U U (by omega) hx2 Hm U ?_))))))))
  intro bx8 capx8 hvx8
  refine WF 1 f.toNat (⟨true,false,false,owner⟩:CkD) hSo2 U hvx8 U U KG (by rfl) (by omega) ?_
  intro w9 j10; dsimp only[List.set]at j10
  clear hSo2
  refine Qf (Qc (Qh [2,1,0] U (Qa (Qb U U (Qj U U (Qg U Vt U (Qr U ZY (j10.cell 0 U U) U (Qb U U (XV 2 j10 keysInt underlying109 U U U Hj (Vr _ _) U (B0 U U U U ?_))))))))))
  first | refine Xp 2 j10 keysInt underlying109 U U U U ?_
  intro w11 j11; dsimp only[List.set]at j11
  refine Qf ?_
  have j12:=j11; rw[RB]at j12
  have hSz5:=Zx (ul:=ul.set f.toNat true) (l:=l2.set f.toNat ⟨true,false,false,owner⟩) (by rw[TU,←hul2,List.set_set]) (by rw[List.length_set]; exact hl42) hh02 (by rw[List.length_set]; exact hh12) (j12.pick [0,1,2,3,4,5] U)
  refine Qc (Qa (Qb U U (Qb U U ?_)))
  refine Qv Ce U (Ra (hSz5.sp [0] U) f (by rw[List.length_set]; exact hf)) U ?_
  rintro _ w13 ⟨rfl,j13⟩
  replace j13:=j13.jn U U
  clear hSz5
  exact Qf (ZU (.inl U) U (⟨_,U,U,j13.pick [0,1] U⟩))
 refine Qo U U h6 (Qg U RK U (Qo U U h6 (Qr U QL (j5.cell 0 U U) U (Qo U U h6 (Qb U U (Qo U U h6 (XC U U U (QW U h6 U U (Qf (Qc (Qh [2,1,0,26] U (Qt U (fun h14=> ?_) (fun h14=> ?_)))))))))))))
 ·refine Qd ?_
  have hSz3:=Zx (hul) (hl4) (hh0) (hh1) (j5.pick [1,2,3,4,5,6] U)
  refine Qa (Qb U U (Qb U U (Qv Cg U (GL (hSz3.sp [0] U) f hf) U ?_)))
  rintro _ w15 ⟨rfl,j15⟩
  replace j15:=j15.jn U U
  clear hSz3
  refine Qf (Qc (Qd ?_))
  obtain⟨ob2,cap2,l2,b12,b22,b32,g12,g22,g32,hul2,hl42,hh02,hh12,hSo2⟩:=Ju (j15.pick [0,1] rfl)
  have hl2l:l2.length=ul.length:= by have :=congrArg List.length hul2; rw[List.length_set,List.length_map]at this; exact this.symm
  obtain⟨x2,hx2⟩: ∃x,l2[f.toNat]? =some x:=⟨_,Zq (by omega)⟩
  refine Qa (Qb U U (Qj U U (Qg U ZX U (Qr U Jo (hSo2.cell 0 U U) U (Qb U U (Qb U U (Zo U Dv Cs BO U U (Xx ckC 1 f.toNat hSo2 U U U (by omega) hx2 Hm U ?_))))))))
  intro bx16 capx16 hvx16
  refine WF 1 f.toNat (⟨true,false,false,owner⟩:CkD) hSo2 U hvx16 U U KG (by rfl) (by omega) ?_
  intro w17 j18; dsimp only[List.set]at j18
  clear hSo2
  refine Qf (Qc (Qh [2,1,0] U (Qa (Qb U U (Qj U U (Qg U Vt U (Qr U ZY (j18.cell 0 U U) U (Qb U U (XV 2 j18 keysInt underlying109 U U U Hj (Vr _ _) U (B0 U U U U ?_))))))))))
  first | refine Xp 2 j18 keysInt underlying109 U U U U ?_
  intro w19 j19; dsimp only[List.set]at j19
  refine Qf ?_
  have j20:=j19; rw[RB]at j20
  have hSz5:=Zx (ul:=ul.set f.toNat true) (l:=l2.set f.toNat ⟨true,false,false,owner⟩) (by rw[TU,←hul2,List.set_set]) (by rw[List.length_set]; exact hl42) hh02 (by rw[List.length_set]; exact hh12) (j20.pick [0,1,2,3,4,5] U)
  refine Qc (Qa (Qb U U (Qb U U ?_)))
  refine Qv Ce U (Ra (hSz5.sp [0] U) f (by rw[List.length_set]; exact hf)) U ?_
  rintro _ w21 ⟨rfl,j21⟩
  replace j21:=j21.jn U U
  clear hSz5
  exact Qf (ZU (.inl U) U (⟨_,U,U,j21.pick [0,1] U⟩))
 refine Qs (Qc ?_)
 have hSz6:=Zx (hul) (hl4) (hh0) (hh1) (j5.pick [1,2,3,4,5,6] U)
 have hxu:x.u=true:= by simpa using(by assumption:(!x.u)=false)
 have hus:ul.set f.toNat true=ul:= by rw[hul]; exact Rr (by rw[ck_u hx,hxu])
 rw[←hus]at hSz6
 refine Qa (Qb U U (Qb U U ?_))
 refine Qv Ce U (Ra (hSz6.sp [0] U) f (by rw[List.length_set]; exact hf)) U ?_
 rintro _ w22 ⟨rfl,j22⟩
 replace j22:=j22.jn U U
 clear hSz6
 exact Qf (ZU (.inl U) U (⟨_,U,U,j22.pick [0,1] U⟩))
theorem E1 {w:World} {p:Nat} {v0:Value} {hd:Int} {l:List CkD} {b1 b2 b3:Nat} {g1 g2 g3:Int→Option Int} {F:Th} (hS:Sat w [Q8 p [v0,intV hd,.map (some b1),.map (some b2),.map (some b3)],rowT ckC v0 l,Q5 QN b1 (gI g1),Q5 QN b2 (gI g2),Q5 QN b3 (gI g3),F]) (owner:Int):
    Calls prog 238 #[ptrV p 0,intV owner] w (Ret fun v w'=> ∃n,v=intV n∧Sat w' [Q8 p [v0,intV hd,.map (some b1),.map (some b2),.map (some b3)],rowT ckC v0 l,Q5 QN b1 (gI g1),Q5 QN b2 (gI g2),Q5 QN b3 (gI g3),F]):= by
 refine Qm func238 U ntmps238 U ?_
 refine Qd (Qa (Qe U U (Qf (Qc (Qd ?_)))))
 have j1:=hS.drew
 refine QE [0,1,2,3,4,5,6,7,8,9,10,11,12,13] [] Wa (by kernel_rfl) ?_
 refine Q9 U U U (Xi U U U (QQ U U U Ux (Q4 U U U (Ql U ZY (j1.cell 0 U U)) (Q9 U U U (Q4 U U U (X2 3 j1 keysInt underlying109 U U U Hj (Vr _ _)) (Q9 U U U (Xi U U U (QQ U U U RO (Q4 U U U (Ql U ZY (j1.cell 0 U U)) (Q9 U U U (Q4 U U U (X2 4 j1 keysInt underlying109 U U U Hj (Vr _ _)) (QZ U U U (fun _=>(Fh U U)) ?_))))))))))))
 exact XK U U U (VC.nil (Qc (Qh [4] U (Qu (QY (.inr U) U U (⟨_,U,_,U,j1⟩))))))
theorem E2 {w:World} {p:Nat} {v0:Value} {hd:Int} {l:List CkD} {b1 b2 b3:Nat} {g1 g2 g3:Int→Option Int} {F:Th} (hS:Sat w [Q8 p [v0,intV hd,.map (some b1),.map (some b2),.map (some b3)],rowT ckC v0 l,Q5 QN b1 (gI g1),Q5 QN b2 (gI g2),Q5 QN b3 (gI g3),F]) (owner:Int):
    Calls prog 203 #[ptrV p 0,intV owner] w (Ret fun v w'=> ∃g,v= .bool g∧Sat w' [Q8 p [v0,intV hd,.map (some b1),.map (some b2),.map (some b3)],rowT ckC v0 l,Q5 QN b1 (gI g1),Q5 QN b2 (gI g2),Q5 QN b3 (gI g3),F]):= by
 refine Qm func203 U ntmps203 U ?_
 refine Qd (Qa (Qe U U (Qf (Qc (Qd ?_)))))
 have j1:=hS.drew
 refine QE [0,1,2,3,4,5,6,7,8,9,10] [8] Wa (by kernel_rfl) ?_
 refine Q9 U U U (Xi U U U (QQ U U U Vt (Q4 U U U (Ql U ZY (j1.cell 0 U U)) (Q9 U U U (Q4 U U U (X2 2 j1 keysInt underlying109 U U U Hj (Vr _ _)) (Q9 U U U (Q9 U U U (Xe U U U U U U ?_))))))))
 refine Qv cal_238 U (E1 (j1.sp [0,1,2,3,4] U) owner) U ?_
 rintro _ w2 ⟨n,rfl,j2⟩
 replace j2:=j2.jn U U
 refine Xz (.cons (.inl ⟨U,(X2 2 j2 keysInt underlying109 U U U Hj (Vr _ _))⟩) (.cons (.inl ⟨U,(Ql U ZY (j2.cell 0 U U))⟩) .nil)) (QZ U U U (fun _=>(Ii U U)) ?_)
 exact XK U U U (VC.nil (Qc (Qh [4] U (Qu (QY (.inr U) U U (⟨_,U,_,U,j2⟩))))))
