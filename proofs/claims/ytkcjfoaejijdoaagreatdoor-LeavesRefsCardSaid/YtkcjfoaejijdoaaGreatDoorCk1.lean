/- reclaim: the clock -/
import Derived.Test.YtkcjfoaejijdoaaGreatDoorSh4
set_option linter.unusedVariables false
set_option maxRecDepth 100000
namespace Go.Proofs.YtkcjfoaejijdoaaGreatDoor
open Go.RowKit M
structure CkD where
  u:Bool
  m:Bool
  t:Bool
  o:Int
def ckC:RowC CkD:=⟨fun x=>[.bool x.u,.bool x.m,.bool x.t,intV x.o],4, by decide, fun _=>rfl, fun _=>rfl⟩
def gI (g:Int→Option Int):Int→Option Value:= fun k=>(g k).map intV
theorem US (g:Int→Option Int) (k:Int):(gI g k).getD (intV 0)=intV ((g k).getD 0):= by unfold gI; cases g k<;>rfl
theorem Rd (g:Int→Option Int) (k x:Int):upd (gI g) k (some (intV x))=gI (up g k (some x)):= by
  funext j
  by_cases h:j=k
  · subst h; rw[Wd];unfold gI; rw[XW];rfl
  · rw[Jd h];unfold gI; rw[Zm h]
theorem Re:(fun _=>none:Int→Option Value)=gI (fun _=>none):=rfl
structure CkX where
  v:Value
  l:List CkD
  b1:Nat
  b2:Nat
  b3:Nat
  g1:Int→Option Int
  g2:Int→Option Int
  g3:Int→Option Int
def GF (p:Nat) (ul:List Bool) (h:Int):Th:=Ca fun q:CkX=>starL [JM (ul=q.l.map CkD.u∧ul.length≤4096∧0≤h∧h<ul.length),Q3 p [q.v,intV h,.map (some q.b1),.map (some q.b2),.map (some q.b3)],rowT ckC q.v q.l,Q5 QO q.b1 (gI q.g1),Q5 QO q.b2 (gI q.g2),Q5 QO q.b3 (gI q.g3)]
def MG (p:Nat) (ul:List Bool):Th:=Ca fun h:Int=>GF p ul h
theorem Jx {w:World} {p:Nat} {ul:List Bool} {h:Int} {As:List Th} (hS:Sat w (GF p ul h::As)): ∃ob cap l b1 b2 b3 g1 g2 g3,ul=l.map CkD.u∧l.length≤4096∧0≤h∧h<l.length∧Sat w (Q3 p [.slice (some ⟨ob,0,none⟩) l.length cap,intV h,.map (some b1),.map (some b2),.map (some b3)]::rowT ckC (.slice (some ⟨ob,0,none⟩) l.length cap) l::Q5 QO b1 (gI g1)::Q5 QO b2 (gI g2)::Q5 QO b3 (gI g3)::As):= by
  obtain⟨⟨v,l,b1,b2,b3,g1,g2,g3⟩,hS⟩:=hS.ex
  obtain⟨⟨h1,h2,h3,h4⟩,hS2⟩:=hS.flat.pure_elim
  dsimp only at h1 h2 h3 h4
  rw[h1,List.length_map]at h2 h4
  obtain⟨ob,cap,hv,_⟩:=Sat.own_at (As:=Q3 p _::rowT ckC v l::Q5 QO b1 (gI g1)::Q5 QO b2 (gI g2)::Q5 QO b3 (gI g3)::As) hS2 1 rfl (by omega)
  obtain rfl:=hv
  exact⟨ob,cap,l,b1,b2,b3,g1,g2,g3,h1,h2,h3,h4,hS2⟩
theorem Zy {w:World} {p:Nat} {ul:List Bool} {h:Int} {As:List Th} {v:Value} {l:List CkD} {b1 b2 b3:Nat} {g1 g2 g3:Int→Option Int} (h1:ul=l.map CkD.u) (h2:l.length≤4096) (h3:0≤h) (h4:h<l.length)
    (hS:Sat w (Q3 p [v,intV h,.map (some b1),.map (some b2),.map (some b3)]::rowT ckC v l::Q5 QO b1 (gI g1)::Q5 QO b2 (gI g2)::Q5 QO b3 (gI g3)::As)):Sat w (GF p ul h::As):=
  Sat.ex_intro (f:= fun q:CkX=>starL [JM (ul=q.l.map CkD.u∧ul.length≤4096∧0≤h∧h<ul.length),Q3 p [q.v,intV h,.map (some q.b1),.map (some q.b2),.map (some q.b3)],rowT ckC q.v q.l,Q5 QO q.b1 (gI q.g1),Q5 QO q.b2 (gI q.g2),Q5 QO q.b3 (gI q.g3)]) ⟨v,l,b1,b2,b3,g1,g2,g3⟩
    (Sat.fold (As:=[JM _,Q3 p _,rowT ckC v l,Q5 QO b1 (gI g1),Q5 QO b2 (gI g2),Q5 QO b3 (gI g3)]) (Sat.pure_intro ⟨h1, by rw[h1,List.length_map]; exact h2,h3, by rw[h1,List.length_map]; exact h4⟩ hS))
theorem ck_u {l:List CkD} {k:Nat} {x:CkD} (h:l[k]? =some x):(l.map CkD.u)[k]? =some x.u:= by rw[List.getElem?_map,h];rfl
theorem TC {l:List CkD} {k:Nat} {x:CkD}:(l.set k x).map CkD.u=(l.map CkD.u).set k x.u:=List.map_set
theorem VE {l:List CkD} {k:Nat} {x y:CkD} (h:l[k]? =some x) (hu:y.u=x.u):(l.set k y).map CkD.u=l.map CkD.u:= by
  rw[TC,hu]; exact KL (ck_u h)
theorem Dt {w:World} {p:Nat} {ul:List Bool} {hd:Int} {F:Th} (hS:Sat w [GF p ul hd,F]) (f:Int):
    Calls Tryz.prog 220 #[ptrV p 0,intV f] w (Ret fun v w'=>v= .bool (decide (0≤f∧f<(ul.length:Int)))∧Sat w' [GF p ul hd,F]):= by
 obtain⟨ob,cap,l,b1,b2,b3,g1,g2,g3,hul,hl4,hh0,hh1,hS⟩:=Jx hS
 refine Qm Tryz.func220 U Tryz.ntmps220 U ?_
 refine Qd (Qa (Qe U U (Qf (Qc (Qd (Qa (Qb U U (JA U U U (Qb U U (QU 7 U (fun h1=> ?_) (fun h1=> ?_)))))))))))
 ·refine Ql U U (Xl h1) (Qb U U (Ql U U (Xl h1) (Qb U U (Ql U U (Xl h1) (Qj U U (Ql U U (Xl h1) (Qg U ZL U (Ql U U (Xl h1) (Qn U Jf (hS.cell 0 U U) U (Ql U U (Xl h1) (Xr Tryz.underlying186 U U (Ql U U (Xl h1) (Xg U U U (Q9 U (Xl h1) U U (Qe U U (Qf (Qc (Qh [4] U (Qu (QR (.inr U) U U ?_))))))))))))))))))))
  exact⟨_,rfl, by congr 1; rw[hul,List.length_map];(simp;omega),Zy (hul) (hl4) (hh0) (hh1) (hS.pick [0,1,2,3,4,5] U)⟩
 refine Qi U U (QC h1) U (Qi U U (QC h1) U (Qi U U (QC h1) U (Qi U U (QC h1) U (Qi U U (QC h1) U (Qi U U (QC h1) U (Qi U U (QC h1) U (QP U (QC h1) U U (Qe U U (Qf (Qc (Qh [4] U (Qu (QR (.inr U) U U ?_)))))))))))))
 exact⟨_,rfl, by congr 1; rw[hul,List.length_map];(simp;omega),Zy (hul) (hl4) (hh0) (hh1) (hS.pick [0,1,2,3,4,5] U)⟩
theorem Gg {w:World} {p:Nat} {ul:List Bool} {hd:Int} {F:Th} (hS:Sat w [GF p ul hd,F]) (f:Int) (hf:0≤f∧f<(ul.length:Int)):
    Calls Tryz.prog 186 #[ptrV p 0,intV f] w (Ret fun v w'=>v= .tuple #[]∧Sat w' [GF p (ul.set f.toNat false) hd,F]):= by
 refine Qm Tryz.func186 U Tryz.ntmps186 U ?_
 refine Qd (Qd (Qa (Qb U U (Qb U U (Qw TK U (Dt (hS.sp [0] U) f) U ?_)))))
 rintro _ w1 ⟨rfl,hS1⟩
 replace hS1:=hS1.jn U U
 rw[Xl (show 0≤f∧f<(ul.length:Int) from hf)]
 refine QQ U U (Qb U U (Ql U U U ?_))
 obtain⟨ob,cap,l,b1,b2,b3,g1,g2,g3,hul,hl4,hh0,hh1,hSo⟩:=Jx (hS1.pick [0,1] rfl)
 have hull:ul.length=l.length:= by rw[hul,List.length_map]
 obtain⟨x,hx⟩: ∃x,l[f.toNat]? =some x:=⟨_,Zi (by omega)⟩
 refine Qb U U (Ql U U U (Qj U U (Ql U U U (Qg U ZL U (Ql U U U (Qn U Jf (hSo.cell 0 U U) U (Ql U U U (Qb U U (Ql U U U (QW ckC 1 f.toNat hSo U U U (by omega) hx YR U ?_))))))))))
 intro bx2 capx2 hvx2
 refine Ql U U U (Qg U Rm U (Ql U U U (XE 1 f.toNat 0 hSo U hvx2 U U hx D3 U U (Ql U U U (QQ U U (QP U U U U (Qf (Qc (Qh [1,0,18] U (QN U (fun h3=> ?_) (fun h3=> ?_)))))))))))
 ·refine Qu (Qp (ZD (.inr U) U ?_))
  exact⟨_,rfl,rfl, by rw[show ul.set f.toNat false=ul by rw[hul]; exact KL (by rw[ck_u hx];congr 1;simpa using(by assumption:(!x.u)=true))]; exact Zy (hul) (hl4) (hh0) (hh1) (hSo.pick [0,1,2,3,4,5] U)⟩
 refine Qt (Qc (Qd ?_))
 have hS4:=hSo.drew
 refine QF [0,1,2,3,4,5,6,7,8,9,10,11,12,13,14] [14] We (by kernel_rfl) ?_
 refine QG U U U (Xh U U U (QV U U U Ro (Q4 U U U (Qr U Jg (hS4.cell 0 U U)) (QG U U U (Xh U U U (QV U U U ZL (Q4 U U U (Qr U Jf (hS4.cell 0 U U)) (QG U U U (X8 U U U (fun _=>(J7 f.toNat U U (by omega) (by omega) YR)) ?_)))))))))
 refine QV U U U Rl (Q4 U U U (HC ckC 1 f.toNat 3 hS4 U hx QL U U) (Q4 U U U (Xz 2 hS4 keysInt Tryz.underlying109 U U U YN (US _ _)) (X8 U U U (fun _=>(Bb U U U)) ?_)))
 refine Xn U U U U U U ?_
 first | refine Xw 2 hS4 keysInt Tryz.underlying109 U U U U ?_
 intro w5 hS5; dsimp only[List.set]at hS5
 clear hS4
 refine Z4 (X1 (by kernel_rfl)) ?_
 refine VC.nil ?_
 have hS6:=hS5; rw[Rd]at hS6
 refine Qc (Qh [1,0] U (Qa (Qb U U (Qj U U (Qg U ZL U (Qn U Jf (hS6.cell 0 U U) U (Qb U U (Zu U pl_199_ TW Bm U U (QW ckC 1 f.toNat hS6 U U U (by omega) hx YR U ?_)))))))))
 intro bx7 capx7 hvx7
 refine Wx 1 f.toNat (⟨false,false,false,0⟩:CkD) hS6 U hvx7 U U Kh (by rfl) (by omega) ?_
 intro w8 hS9; dsimp only[List.set]at hS9
 clear hS6
 refine Qf (ZD (.inl U) U ?_)
 exact⟨_,rfl,rfl,Zy (show _=(l.set f.toNat ⟨false,false,false,0⟩).map CkD.u by rw[hul,TC]) (by rw[List.length_set]; exact hl4) (hh0) (by rw[List.length_set]; exact hh1) (hS9.pick [0,1,2,3,4,5] U)⟩
theorem K3 {w:World} {p:Nat} {ul:List Bool} {hd:Int} {F:Th} (hS:Sat w [GF p ul hd,F]) (f:Int) (hf:0≤f∧f<(ul.length:Int)):
    Calls Tryz.prog 223 #[ptrV p 0,intV f] w (Ret fun v w'=>v= .tuple #[]∧Sat w' [GF p ul hd,F]):= by
 refine Qm Tryz.func223 U Tryz.ntmps223 U ?_
 refine Qd (Qd (Qa (Qb U U (Qb U U (Qw TK U (Dt (hS.sp [0] U) f) U ?_)))))
 rintro _ w1 ⟨rfl,hS1⟩
 replace hS1:=hS1.jn U U
 rw[Xl (show 0≤f∧f<(ul.length:Int) from hf)]
 refine QQ U U (Qb U U (Ql U U U ?_))
 obtain⟨ob,cap,l,b1,b2,b3,g1,g2,g3,hul,hl4,hh0,hh1,hSo⟩:=Jx (hS1.pick [0,1] rfl)
 have hull:ul.length=l.length:= by rw[hul,List.length_map]
 obtain⟨x,hx⟩: ∃x,l[f.toNat]? =some x:=⟨_,Zi (by omega)⟩
 refine Qb U U (Ql U U U (Qj U U (Ql U U U (Qg U ZL U (Ql U U U (Qn U Jf (hSo.cell 0 U U) U (Ql U U U (Qb U U (Ql U U U (QW ckC 1 f.toNat hSo U U U (by omega) hx YR U ?_))))))))))
 intro bx2 capx2 hvx2
 refine Ql U U U (Qg U Rm U (Ql U U U (XE 1 f.toNat 0 hSo U hvx2 U U hx D3 U U (Ql U U U (QQ U U (QP U U U U (Qf (Qc (Qh [1,0,19] U (QN U (fun h3=> ?_) (fun h3=> ?_)))))))))))
 ·exact Qu (Qp (ZD (.inr U) U (⟨_,rfl,rfl,Zy (hul) (hl4) (hh0) (hh1) (hSo.pick [0,1,2,3,4,5] U)⟩)))
 refine Qt (Qc (Qd (Qa (Qb U U (Qj U U (Qg U ZL U (Qn U Jf (hSo.cell 0 U U) U (Qb U U (QW ckC 1 f.toNat hSo U U U (by omega) hx YR U ?_)))))))))
 intro bx4 capx4 hvx4
 refine Qe U U (Qf (Qc (Qd (Qa (Qb U U (Qj U U (Qg U Ue U (Jz 1 f.toNat 1 {x with m:=true} hSo U hvx4 U U U Ej hx U (by decide) U (by rfl) ?_))))))))
 intro w5 hS6; dsimp only[List.set]at hS6
 clear hSo
 refine Qf (Qc (Qh [0,4] U (Qd ?_)))
 have hx1:(l.set f.toNat {x with m:=true})[f.toNat]? =some {x with m:=true}:=List.getElem?_set_self (by omega)
 refine Qa (Qb U U (Qj U U (Qg U Db U (XE 1 f.toNat 2 hS6 U hvx4 U U hx1 D3 U U (QQ U U (Qf (Qc (QN U (fun h7=> ?_) (fun h7=> ?_)))))))))
 ·refine Qd (Qa (Qb U U (Qj U U (Qg U Db U (Jz 1 f.toNat 2 {x with m:=true,t:=true} hS6 U hvx4 U U U Ej hx1 U (by decide) U (by rfl) ?_)))))
  intro w8 hS9; dsimp only[List.set]at hS9
  clear hS6
  refine Qf (Qc ?_)
  have hx2:((l.set f.toNat {x with m:=true}).set f.toNat {x with m:=true,t:=true})[f.toNat]? =some {x with m:=true,t:=true}:=List.getElem?_set_self (by rw[List.length_set];omega)
  have hS10:=hS9.drew
  refine QF [0,1,2,3,4,5,6,7,8,9,10] [10] We (by kernel_rfl) ?_
  refine QG U U U (Xh U U U (QV U U U UU (Q4 U U U (Qr U Jg (hS10.cell 0 U U)) (QG U U U (Xh U U U (QV U U U Rl (Q4 U U U (Qr U QL (hS10.ocell 1 U hvx4 (RowC.cells_get hx2 U))) (Q4 U U U (Xz 3 hS10 keysInt Tryz.underlying109 U U U YN (US _ _)) (X8 U U U (fun _=>(Be U U U)) ?_)))))))))
  refine Xn U U U U U U ?_
  first | refine Xw 3 hS10 keysInt Tryz.underlying109 U U U U ?_
  intro w11 hS11; dsimp only[List.set]at hS11
  clear hS10
  refine Z4 (X1 (by kernel_rfl)) ?_
  refine VC.nil ?_
  have hS12:=hS11; rw[Rd]at hS12
  refine ZD (.inl U) U ?_
  exact⟨_,rfl,rfl,Zy (l:=((l.set f.toNat {x with m:=true}).set f.toNat {x with m:=true,t:=true})) (by rw[hul]; exact((VE (y:={x with m:=true,t:=true}) hx1 U).trans (VE (y:={x with m:=true}) hx U)).symm) (by simp only[List.length_set]; exact hl4) (hh0) (by simp only[List.length_set]; exact hh1) (hS12.pick [0,1,2,3,4,5] U)⟩
 refine Qt (ZD (.inl U) U ?_)
 exact⟨_,rfl,rfl,Zy (l:=(l.set f.toNat {x with m:=true})) (by rw[hul]; exact(VE (y:={x with m:=true}) hx U).symm) (by simp only[List.length_set]; exact hl4) (hh0) (by simp only[List.length_set]; exact hh1) (hS6.pick [0,1,2,3,4,5] U)⟩
theorem O9 {w:World} {p:Nat} {ul:List Bool} {hd:Int} {F:Th} (hS:Sat w [GF p ul hd,F]) (f:Int) (hf:0≤f∧f<(ul.length:Int)) (owner:Int):
    Calls Tryz.prog 188 #[ptrV p 0,intV f,intV owner] w (Ret fun v w'=>v= .tuple #[]∧Sat w' [GF p (ul.set f.toNat true) hd,F]):= by
 refine Qm Tryz.func188 U Tryz.ntmps188 U ?_
 refine Qd (Qd (Qa (Qb U U (Qb U U (Qw TK U (Dt (hS.sp [0] U) f) U ?_)))))
 rintro _ w1 ⟨rfl,hS1⟩
 replace hS1:=hS1.jn U U
 rw[Xl (show 0≤f∧f<(ul.length:Int) from hf)]
 refine QQ U U (Qf (Qc (Fv U U (Qt (Qc (Qd (Qd ?_)))))))
 obtain⟨ob,cap,l,b1,b2,b3,g1,g2,g3,hul,hl4,hh0,hh1,hSo⟩:=Jx (hS1.pick [0,1] rfl)
 have hull:ul.length=l.length:= by rw[hul,List.length_map]
 obtain⟨x,hx⟩: ∃x,l[f.toNat]? =some x:=⟨_,Zi (by omega)⟩
 refine Qa (Qb U U (Qj U U (Qg U ZL U (Qn U Jf (hSo.cell 0 U U) U (Qb U U (QW ckC 1 f.toNat hSo U U U (by omega) hx YR U ?_))))))
 intro bx2 capx2 hvx2
 refine ZA 1 f.toNat hSo U hvx2 U hx Iv Kh U U (QX hSo Bm U U ?_)
 intro b3 w3 hS3
 clear hSo
 (refine QK hS3 U U Kh U (by rfl) (i:=0) U (by decide) ?_)
 intro w4 hS5; dsimp only[List.set]at hS5
 clear hS3
 refine Qf (Qc (Qh [2,1,0,6] U (Qd (Qa (Qg U Rm U (Qn U D3 (hS5.cell 0 U U) U (QQ U U (Qb U U (Ze 21 U (fun h6=> ?_) (fun h6=> ?_))))))))))
 ·refine Qi U U h6 U (Qi U U h6 U (Qi U U h6 U (Qi U U h6 U (Q9 U h6 U U (Qf (Qc (Qh [2,1,0,26] U (Xf U (Qd ?_)))))))))
  have hSz3:=Zy (hul) (hl4) (hh0) (hh1) (hS5.pick [1,2,3,4,5,6] U)
  refine Qa (Qb U U (Qb U U (Qw TL U (Gg (hSz3.sp [0] U) f hf) U ?_)))
  rintro _ w7 ⟨rfl,hS7⟩
  replace hS7:=hS7.jn U U
  clear hSz3
  refine Qf (Qc (Qd ?_))
  obtain⟨ob2,cap2,l2,b12,b22,b32,g12,g22,g32,hul2,hl42,hh02,hh12,hSo2⟩:=Jx (hS7.pick [0,1] rfl)
  have hl2l:l2.length=ul.length:= by have :=congrArg List.length hul2; rw[List.length_set,List.length_map]at this; exact this.symm
  obtain⟨x2,hx2⟩: ∃x,l2[f.toNat]? =some x:=⟨_,Zi (by omega)⟩
  refine Qa (Qb U U (Qj U U (Qg U ZL U (Qn U Jf (hSo2.cell 0 U U) U (Qb U U (Qb U U (Zu U BM TW Bm U U (QW ckC 1 f.toNat hSo2 U U U (by omega) hx2 YR U ?_))))))))
  intro bx8 capx8 hvx8
  refine Wx 1 f.toNat (⟨true,false,false,owner⟩:CkD) hSo2 U hvx8 U U Kh (by rfl) (by omega) ?_
  intro w9 hS10; dsimp only[List.set]at hS10
  clear hSo2
  refine Qf (Qc (Qh [2,1,0] U (Qa (Qb U U (Qj U U (Qg U Ro U (Qn U Jg (hS10.cell 0 U U) U (Qb U U (XT 2 hS10 keysInt Tryz.underlying109 U U U YN (US _ _) U (GJ U U U U ?_))))))))))
  first | refine Xw 2 hS10 keysInt Tryz.underlying109 U U U U ?_
  intro w11 hS11; dsimp only[List.set]at hS11
  clear hS10
  refine Qf ?_
  have hS12:=hS11; rw[Rd]at hS12
  have hSz5:=Zy (ul:=ul.set f.toNat true) (l:=l2.set f.toNat ⟨true,false,false,owner⟩) (by rw[TC,←hul2,List.set_set]) (by rw[List.length_set]; exact hl42) hh02 (by rw[List.length_set]; exact hh12) (hS12.pick [0,1,2,3,4,5] U)
  refine Qc (Qa (Qb U U (Qb U U ?_)))
  refine Qw TJ U (K3 (hSz5.sp [0] U) f (by rw[List.length_set]; exact hf)) U ?_
  rintro _ w13 ⟨rfl,hS13⟩
  replace hS13:=hS13.jn U U
  clear hSz5
  exact Qf (ZD (.inl U) U (⟨_,rfl,rfl,hS13.pick [0,1] U⟩))
 refine Ql U U h6 (Qg U Rl U (Ql U U h6 (Qn U QL (hS5.cell 0 U U) U (Ql U U h6 (Qb U U (Ql U U h6 (X0 U U U (QP U h6 U U (Qf (Qc (Qh [2,1,0,26] U (Qs U (fun h14=> ?_) (fun h14=> ?_)))))))))))))
 ·refine Qd ?_
  have hSz3:=Zy (hul) (hl4) (hh0) (hh1) (hS5.pick [1,2,3,4,5,6] U)
  refine Qa (Qb U U (Qb U U (Qw TL U (Gg (hSz3.sp [0] U) f hf) U ?_)))
  rintro _ w15 ⟨rfl,hS15⟩
  replace hS15:=hS15.jn U U
  clear hSz3
  refine Qf (Qc (Qd ?_))
  obtain⟨ob2,cap2,l2,b12,b22,b32,g12,g22,g32,hul2,hl42,hh02,hh12,hSo2⟩:=Jx (hS15.pick [0,1] rfl)
  have hl2l:l2.length=ul.length:= by have :=congrArg List.length hul2; rw[List.length_set,List.length_map]at this; exact this.symm
  obtain⟨x2,hx2⟩: ∃x,l2[f.toNat]? =some x:=⟨_,Zi (by omega)⟩
  refine Qa (Qb U U (Qj U U (Qg U ZL U (Qn U Jf (hSo2.cell 0 U U) U (Qb U U (Qb U U (Zu U BM TW Bm U U (QW ckC 1 f.toNat hSo2 U U U (by omega) hx2 YR U ?_))))))))
  intro bx16 capx16 hvx16
  refine Wx 1 f.toNat (⟨true,false,false,owner⟩:CkD) hSo2 U hvx16 U U Kh (by rfl) (by omega) ?_
  intro w17 hS18; dsimp only[List.set]at hS18
  clear hSo2
  refine Qf (Qc (Qh [2,1,0] U (Qa (Qb U U (Qj U U (Qg U Ro U (Qn U Jg (hS18.cell 0 U U) U (Qb U U (XT 2 hS18 keysInt Tryz.underlying109 U U U YN (US _ _) U (GJ U U U U ?_))))))))))
  first | refine Xw 2 hS18 keysInt Tryz.underlying109 U U U U ?_
  intro w19 hS19; dsimp only[List.set]at hS19
  clear hS18
  refine Qf ?_
  have hS20:=hS19; rw[Rd]at hS20
  have hSz5:=Zy (ul:=ul.set f.toNat true) (l:=l2.set f.toNat ⟨true,false,false,owner⟩) (by rw[TC,←hul2,List.set_set]) (by rw[List.length_set]; exact hl42) hh02 (by rw[List.length_set]; exact hh12) (hS20.pick [0,1,2,3,4,5] U)
  refine Qc (Qa (Qb U U (Qb U U ?_)))
  refine Qw TJ U (K3 (hSz5.sp [0] U) f (by rw[List.length_set]; exact hf)) U ?_
  rintro _ w21 ⟨rfl,hS21⟩
  replace hS21:=hS21.jn U U
  clear hSz5
  exact Qf (ZD (.inl U) U (⟨_,rfl,rfl,hS21.pick [0,1] U⟩))
 refine Qt (Qc ?_)
 have hSz6:=Zy (hul) (hl4) (hh0) (hh1) (hS5.pick [1,2,3,4,5,6] U)
 have hxu:x.u=true:= by simpa using(by assumption:(!x.u)=false)
 have hus:ul.set f.toNat true=ul:= by rw[hul]; exact KL (by rw[ck_u hx,hxu])
 rw[←hus]at hSz6
 refine Qa (Qb U U (Qb U U ?_))
 refine Qw TJ U (K3 (hSz6.sp [0] U) f (by rw[List.length_set]; exact hf)) U ?_
 rintro _ w22 ⟨rfl,hS22⟩
 replace hS22:=hS22.jn U U
 clear hSz6
 exact Qf (ZD (.inl U) U (⟨_,rfl,rfl,hS22.pick [0,1] U⟩))
theorem LF {w:World} {p:Nat} {v0:Value} {hd:Int} {l:List CkD} {b1 b2 b3:Nat} {g1 g2 g3:Int→Option Int} {F:Th} (hS:Sat w [Q3 p [v0,intV hd,.map (some b1),.map (some b2),.map (some b3)],rowT ckC v0 l,Q5 QO b1 (gI g1),Q5 QO b2 (gI g2),Q5 QO b3 (gI g3),F]) (owner:Int):
    Calls Tryz.prog 238 #[ptrV p 0,intV owner] w (Ret fun v w'=> ∃n,v=intV n∧Sat w' [Q3 p [v0,intV hd,.map (some b1),.map (some b2),.map (some b3)],rowT ckC v0 l,Q5 QO b1 (gI g1),Q5 QO b2 (gI g2),Q5 QO b3 (gI g3),F]):= by
 refine Qm Tryz.func238 U Tryz.ntmps238 U ?_
 refine Qd (Qa (Qe U U (Qf (Qc (Qd ?_)))))
 have hS1:=hS.drew
 refine QF [0,1,2,3,4,5,6,7,8,9,10,11,12,13] [] We (by kernel_rfl) ?_
 refine QG U U U (Xh U U U (QV U U U UU (Q4 U U U (Qr U Jg (hS1.cell 0 U U)) (QG U U U (Q4 U U U (Xz 3 hS1 keysInt Tryz.underlying109 U U U YN (US _ _)) (QG U U U (Xh U U U (QV U U U Dd (Q4 U U U (Qr U Jg (hS1.cell 0 U U)) (QG U U U (Q4 U U U (Xz 4 hS1 keysInt Tryz.underlying109 U U U YN (US _ _)) (X8 U U U (fun _=>(S5 U U)) ?_))))))))))))
 exact Za U U U (VC.nil (Qc (Qh [4] U (Qu (QR (.inr U) U U (⟨_,rfl,_,rfl,hS1⟩))))))
theorem LG {w:World} {p:Nat} {v0:Value} {hd:Int} {l:List CkD} {b1 b2 b3:Nat} {g1 g2 g3:Int→Option Int} {F:Th} (hS:Sat w [Q3 p [v0,intV hd,.map (some b1),.map (some b2),.map (some b3)],rowT ckC v0 l,Q5 QO b1 (gI g1),Q5 QO b2 (gI g2),Q5 QO b3 (gI g3),F]) (owner:Int):
    Calls Tryz.prog 203 #[ptrV p 0,intV owner] w (Ret fun v w'=> ∃g,v= .bool g∧Sat w' [Q3 p [v0,intV hd,.map (some b1),.map (some b2),.map (some b3)],rowT ckC v0 l,Q5 QO b1 (gI g1),Q5 QO b2 (gI g2),Q5 QO b3 (gI g3),F]):= by
 refine Qm Tryz.func203 U Tryz.ntmps203 U ?_
 refine Qd (Qa (Qe U U (Qf (Qc (Qd ?_)))))
 have hS1:=hS.drew
 refine QF [0,1,2,3,4,5,6,7,8,9,10] [8] We (by kernel_rfl) ?_
 refine QG U U U (Xh U U U (QV U U U Ro (Q4 U U U (Qr U Jg (hS1.cell 0 U U)) (QG U U U (Q4 U U U (Xz 2 hS1 keysInt Tryz.underlying109 U U U YN (US _ _)) (QG U U U (QG U U U (Xn U U U U U U ?_))))))))
 refine Qw cal_238 U (LF (hS1.sp [0,1,2,3,4] U) owner) U ?_
 rintro _ w2 ⟨n,rfl,hS2⟩
 replace hS2:=hS2.jn U U
 clear hS1
 refine XQ (.cons (.inl ⟨rfl,(Xz 2 hS2 keysInt Tryz.underlying109 U U U YN (US _ _))⟩) (.cons (.inl ⟨rfl,(Qr U Jg (hS2.cell 0 U U))⟩) .nil)) (X8 U U U (fun _=>(Oj U U)) ?_)
 exact Za U U U (VC.nil (Qc (Qh [4] U (Qu (QR (.inr U) U U (⟨_,rfl,_,rfl,hS2⟩))))))
end Go.Proofs.YtkcjfoaejijdoaaGreatDoor
