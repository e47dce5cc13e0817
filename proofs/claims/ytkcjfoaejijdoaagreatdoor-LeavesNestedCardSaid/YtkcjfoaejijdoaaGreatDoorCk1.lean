/- reclaim: the clock -/
import Derived.Test.YtkcjfoaejijdoaaGreatDoorSh4
set_option linter.unusedVariables false
set_option maxRecDepth 100000
namespace Go.Proofs.YtkcjfoaejijdoaaGreatDoor
open Go.RowKit M
structure CkD where
  u:Bool
  m:Bool
  t:Bool
  o:Int
def ckC:RowC CkD:=⟨fun x=>[.bool x.u,.bool x.m,.bool x.t,intV x.o],4, by decide, fun _=>rfl, fun _=>rfl⟩
def gI (g:Int→Option Int):Int→Option Value:= fun k=>(g k).map intV
theorem VG (g:Int→Option Int) (k:Int):(gI g k).getD (intV 0)=intV ((g k).getD 0):= by unfold gI; cases g k<;>rfl
theorem RN (g:Int→Option Int) (k x:Int):upd (gI g) k (some (intV x))=gI (up g k (some x)):= by
  funext j
  by_cases h:j=k
  · subst h; rw[Z9];unfold gI; rw[XU];rfl
  · rw[WC h];unfold gI; rw[Zg h]
theorem RO:(fun _=>none:Int→Option Value)=gI (fun _=>none):=rfl
structure CkX where
  v:Value
  l:List CkD
  b1:Nat
  b2:Nat
  b3:Nat
  g1:Int→Option Int
  g2:Int→Option Int
  g3:Int→Option Int
def BK (p:Nat) (ul:List Bool) (h:Int):Th:=CI fun q:CkX=>starL [WR (ul=q.l.map CkD.u∧ul.length≤4096∧0≤h∧h<ul.length),QG p [q.v,intV h,.map (some q.b1),.map (some q.b2),.map (some q.b3)],rowT ckC q.v q.l,Q0 QX q.b1 (gI q.g1),Q0 QX q.b2 (gI q.g2),Q0 QX q.b3 (gI q.g3)]
def Cg (p:Nat) (ul:List Bool):Th:=CI fun h:Int=>BK p ul h
theorem JD {w:World} {p:Nat} {ul:List Bool} {h:Int} {As:List Th} (hS:Sat w (BK p ul h::As)): ∃ob cap l b1 b2 b3 g1 g2 g3,ul=l.map CkD.u∧l.length≤4096∧0≤h∧h<l.length∧Sat w (QG p [.slice (some ⟨ob,0,none⟩) l.length cap,intV h,.map (some b1),.map (some b2),.map (some b3)]::rowT ckC (.slice (some ⟨ob,0,none⟩) l.length cap) l::Q0 QX b1 (gI g1)::Q0 QX b2 (gI g2)::Q0 QX b3 (gI g3)::As):= by
  obtain⟨⟨v,l,b1,b2,b3,g1,g2,g3⟩,hS⟩:=hS.ex
  obtain⟨⟨h1,h2,h3,h4⟩,hS2⟩:=hS.flat.pure_elim
  dsimp only at h1 h2 h3 h4
  rw[h1,List.length_map]at h2 h4
  obtain⟨ob,cap,hv,_⟩:=Sat.own_at (As:=QG p _::rowT ckC v l::Q0 QX b1 (gI g1)::Q0 QX b2 (gI g2)::Q0 QX b3 (gI g3)::As) hS2 1 rfl (by omega)
  obtain rfl:=hv
  exact⟨ob,cap,l,b1,b2,b3,g1,g2,g3,h1,h2,h3,h4,hS2⟩
theorem Zs {w:World} {p:Nat} {ul:List Bool} {h:Int} {As:List Th} {v:Value} {l:List CkD} {b1 b2 b3:Nat} {g1 g2 g3:Int→Option Int} (h1:ul=l.map CkD.u) (h2:l.length≤4096) (h3:0≤h) (h4:h<l.length)
    (hS:Sat w (QG p [v,intV h,.map (some b1),.map (some b2),.map (some b3)]::rowT ckC v l::Q0 QX b1 (gI g1)::Q0 QX b2 (gI g2)::Q0 QX b3 (gI g3)::As)):Sat w (BK p ul h::As):=
  Sat.ex_intro (f:= fun q:CkX=>starL [WR (ul=q.l.map CkD.u∧ul.length≤4096∧0≤h∧h<ul.length),QG p [q.v,intV h,.map (some q.b1),.map (some q.b2),.map (some q.b3)],rowT ckC q.v q.l,Q0 QX q.b1 (gI q.g1),Q0 QX q.b2 (gI q.g2),Q0 QX q.b3 (gI q.g3)]) ⟨v,l,b1,b2,b3,g1,g2,g3⟩
    (Sat.fold (As:=[WR _,QG p _,rowT ckC v l,Q0 QX b1 (gI g1),Q0 QX b2 (gI g2),Q0 QX b3 (gI g3)]) (Sat.pure_intro ⟨h1, by rw[h1,List.length_map]; exact h2,h3, by rw[h1,List.length_map]; exact h4⟩ hS))
theorem ck_u {l:List CkD} {k:Nat} {x:CkD} (h:l[k]? =some x):(l.map CkD.u)[k]? =some x.u:= by rw[List.getElem?_map,h];rfl
theorem CU {l:List CkD} {k:Nat} {x:CkD}:(l.set k x).map CkD.u=(l.map CkD.u).set k x.u:=List.map_set
theorem Kx {l:List CkD} {k:Nat} {x y:CkD} (h:l[k]? =some x) (hu:y.u=x.u):(l.set k y).map CkD.u=l.map CkD.u:= by
  rw[CU,hu]; exact R6 (ck_u h)
theorem MF {w:World} {p:Nat} {ul:List Bool} {hd:Int} {F:Th} (hS:Sat w [BK p ul hd,F]) (f:Int):
    Calls Tryz.prog 220 #[ptrV p 0,intV f] w (Ret fun v w'=>v= .bool (decide (0≤f∧f<(ul.length:Int)))∧Sat w' [BK p ul hd,F]):= by
 obtain⟨ob,cap,l,b1,b2,b3,g1,g2,g3,hul,hl4,hh0,hh1,hS⟩:=JD hS
 refine Qo Tryz.func220 rfl Tryz.ntmps220 rfl ?_
 refine Qd (Qa (Qe rfl rfl (Qf (Qc (Qd (Qa (Qb rfl rfl (JQ rfl rfl rfl (Qb rfl rfl (QW 7 rfl (fun h1=> ?_) (fun h1=> ?_)))))))))))
 ·refine Qk rfl rfl (Xf h1) (Qb rfl rfl (Qk rfl rfl (Xf h1) (Qb rfl rfl (Qk rfl rfl (Xf h1) (Qj rfl rfl (Qk rfl rfl (Xf h1) (Qg rfl ZP rfl (Qk rfl rfl (Xf h1) (Qp rfl Js (hS.cell 0 rfl rfl) rfl (Qk rfl rfl (Xf h1) (XE Tryz.underlying186 rfl rfl (Qk rfl rfl (Xf h1) (Xg rfl rfl rfl (QC rfl (Xf h1) rfl rfl (Qe rfl rfl (Qf (Qc (Qh [4] rfl (Qu (QP (.inr rfl) rfl rfl ?_))))))))))))))))))))
  exact⟨_,rfl, by congr 1; rw[hul,List.length_map];(simp;omega),Zs (hul) (hl4) (hh0) (hh1) (hS.pick [0,1,2,3,4,5] rfl)⟩
 refine Qi rfl rfl (Q6 h1) rfl (Qi rfl rfl (Q6 h1) rfl (Qi rfl rfl (Q6 h1) rfl (Qi rfl rfl (Q6 h1) rfl (Qi rfl rfl (Q6 h1) rfl (Qi rfl rfl (Q6 h1) rfl (Qi rfl rfl (Q6 h1) rfl (QO rfl (Q6 h1) rfl rfl (Qe rfl rfl (Qf (Qc (Qh [4] rfl (Qu (QP (.inr rfl) rfl rfl ?_)))))))))))))
 exact⟨_,rfl, by congr 1; rw[hul,List.length_map];(simp;omega),Zs (hul) (hl4) (hh0) (hh1) (hS.pick [0,1,2,3,4,5] rfl)⟩
theorem Ba {w:World} {p:Nat} {ul:List Bool} {hd:Int} {F:Th} (hS:Sat w [BK p ul hd,F]) (f:Int) (hf:0≤f∧f<(ul.length:Int)):
    Calls Tryz.prog 186 #[ptrV p 0,intV f] w (Ret fun v w'=>v= .tuple #[]∧Sat w' [BK p (ul.set f.toNat false) hd,F]):= by
 refine Qo Tryz.func186 rfl Tryz.ntmps186 rfl ?_
 refine Qd (Qd (Qa (Qb rfl rfl (Qb rfl rfl (Qv Nb rfl (MF (hS.sp [0] rfl) f) rfl ?_)))))
 rintro _ w1 ⟨rfl,hS1⟩
 replace hS1:=hS1.jn rfl rfl
 rw[Xf (show 0≤f∧f<(ul.length:Int) from hf)]
 refine QQ rfl rfl (Qb rfl rfl (Qk rfl rfl rfl ?_))
 obtain⟨ob,cap,l,b1,b2,b3,g1,g2,g3,hul,hl4,hh0,hh1,hSo⟩:=JD (hS1.pick [0,1] rfl)
 have hull:ul.length=l.length:= by rw[hul,List.length_map]
 obtain⟨x,hx⟩: ∃x,l[f.toNat]? =some x:=⟨_,Zi (by omega)⟩
 refine Qb rfl rfl (Qk rfl rfl rfl (Qj rfl rfl (Qk rfl rfl rfl (Qg rfl ZP rfl (Qk rfl rfl rfl (Qp rfl Js (hSo.cell 0 rfl rfl) rfl (Qk rfl rfl rfl (Qb rfl rfl (Qk rfl rfl rfl (Xr ckC 1 f.toNat hSo rfl rfl rfl (by omega) hx Hf rfl ?_))))))))))
 intro bx2 capx2 hvx2
 refine Qk rfl rfl rfl (Qg rfl RX rfl (Qk rfl rfl rfl (Zx 1 f.toNat 0 hSo rfl hvx2 rfl rfl hx MP rfl rfl (Qk rfl rfl rfl (QQ rfl rfl (QO rfl rfl rfl rfl (Qf (Qc (Qh [1,0,18] rfl (QL rfl (fun h3=> ?_) (fun h3=> ?_)))))))))))
 ·refine Qu (Qn (ZY (.inr rfl) rfl ?_))
  exact⟨_,rfl,rfl, by rw[show ul.set f.toNat false=ul by rw[hul]; exact R6 (by rw[ck_u hx];congr 1;simpa using(by assumption:(!x.u)=true))]; exact Zs (hul) (hl4) (hh0) (hh1) (hSo.pick [0,1,2,3,4,5] rfl)⟩
 refine Qr (Qc (Qd ?_))
 have hS4:=hSo.drew
 refine QI [0,1,2,3,4,5,6,7,8,9,10,11,12,13,14] [14] Wq (by kernel_rfl) ?_
 refine QE rfl rfl rfl (Xj rfl rfl rfl (QS rfl rfl rfl RZ (Q8 rfl rfl rfl (Qm rfl Jt (hS4.cell 0 rfl rfl)) (QE rfl rfl rfl (Xj rfl rfl rfl (QS rfl rfl rfl ZP (Q8 rfl rfl rfl (Qm rfl Js (hS4.cell 0 rfl rfl)) (QE rfl rfl rfl (QZ rfl rfl rfl (fun _=>(JL f.toNat rfl rfl (by omega) (by omega) Hf)) ?_)))))))))
 refine QS rfl rfl rfl RW (Q8 rfl rfl rfl (B1 ckC 1 f.toNat 3 hS4 rfl hx QN rfl rfl) (Q8 rfl rfl rfl (Xz 2 hS4 keysInt Tryz.underlying109 rfl rfl rfl HV (VG _ _)) (QZ rfl rfl rfl (fun _=>(Dg rfl rfl rfl)) ?_)))
 refine Xi rfl rfl rfl rfl rfl rfl ?_
 first | refine Xh 2 hS4 keysInt Tryz.underlying109 rfl rfl rfl rfl ?_
 intro w5 hS5; dsimp only[List.set]at hS5
 clear hS4
 refine Z0 (Xu (by kernel_rfl)) ?_
 refine VC.nil ?_
 have hS6:=hS5; rw[RN]at hS6
 refine Qc (Qh [1,0] rfl (Qa (Qb rfl rfl (Qj rfl rfl (Qg rfl ZP rfl (Qp rfl Js (hS6.cell 0 rfl rfl) rfl (Qb rfl rfl (Zn rfl pl_199_ Nr Dw rfl rfl (Xr ckC 1 f.toNat hS6 rfl rfl rfl (by omega) hx Hf rfl ?_)))))))))
 intro bx7 capx7 hvx7
 refine W6 1 f.toNat (⟨false,false,false,0⟩:CkD) hS6 rfl hvx7 rfl rfl KR (by rfl) (by omega) ?_
 intro w8 hS9; dsimp only[List.set]at hS9
 clear hS6
 refine Qf (ZY (.inl rfl) rfl ?_)
 exact⟨_,rfl,rfl,Zs (show _=(l.set f.toNat ⟨false,false,false,0⟩).map CkD.u by rw[hul,CU]) (by rw[List.length_set]; exact hl4) (hh0) (by rw[List.length_set]; exact hh1) (hS9.pick [0,1,2,3,4,5] rfl)⟩
theorem Rp {w:World} {p:Nat} {ul:List Bool} {hd:Int} {F:Th} (hS:Sat w [BK p ul hd,F]) (f:Int) (hf:0≤f∧f<(ul.length:Int)):
    Calls Tryz.prog 223 #[ptrV p 0,intV f] w (Ret fun v w'=>v= .tuple #[]∧Sat w' [BK p ul hd,F]):= by
 refine Qo Tryz.func223 rfl Tryz.ntmps223 rfl ?_
 refine Qd (Qd (Qa (Qb rfl rfl (Qb rfl rfl (Qv Nb rfl (MF (hS.sp [0] rfl) f) rfl ?_)))))
 rintro _ w1 ⟨rfl,hS1⟩
 replace hS1:=hS1.jn rfl rfl
 rw[Xf (show 0≤f∧f<(ul.length:Int) from hf)]
 refine QQ rfl rfl (Qb rfl rfl (Qk rfl rfl rfl ?_))
 obtain⟨ob,cap,l,b1,b2,b3,g1,g2,g3,hul,hl4,hh0,hh1,hSo⟩:=JD (hS1.pick [0,1] rfl)
 have hull:ul.length=l.length:= by rw[hul,List.length_map]
 obtain⟨x,hx⟩: ∃x,l[f.toNat]? =some x:=⟨_,Zi (by omega)⟩
 refine Qb rfl rfl (Qk rfl rfl rfl (Qj rfl rfl (Qk rfl rfl rfl (Qg rfl ZP rfl (Qk rfl rfl rfl (Qp rfl Js (hSo.cell 0 rfl rfl) rfl (Qk rfl rfl rfl (Qb rfl rfl (Qk rfl rfl rfl (Xr ckC 1 f.toNat hSo rfl rfl rfl (by omega) hx Hf rfl ?_))))))))))
 intro bx2 capx2 hvx2
 refine Qk rfl rfl rfl (Qg rfl RX rfl (Qk rfl rfl rfl (Zx 1 f.toNat 0 hSo rfl hvx2 rfl rfl hx MP rfl rfl (Qk rfl rfl rfl (QQ rfl rfl (QO rfl rfl rfl rfl (Qf (Qc (Qh [1,0,19] rfl (QL rfl (fun h3=> ?_) (fun h3=> ?_)))))))))))
 ·exact Qu (Qn (ZY (.inr rfl) rfl (⟨_,rfl,rfl,Zs (hul) (hl4) (hh0) (hh1) (hSo.pick [0,1,2,3,4,5] rfl)⟩)))
 refine Qr (Qc (Qd (Qa (Qb rfl rfl (Qj rfl rfl (Qg rfl ZP rfl (Qp rfl Js (hSo.cell 0 rfl rfl) rfl (Qb rfl rfl (Xr ckC 1 f.toNat hSo rfl rfl rfl (by omega) hx Hf rfl ?_)))))))))
 intro bx4 capx4 hvx4
 refine Qe rfl rfl (Qf (Qc (Qd (Qa (Qb rfl rfl (Qj rfl rfl (Qg rfl U2 rfl (JE 1 f.toNat 1 {x with m:=true} hSo rfl hvx4 rfl rfl rfl Oa hx rfl (by decide) rfl (by rfl) ?_))))))))
 intro w5 hS6; dsimp only[List.set]at hS6
 clear hSo
 refine Qf (Qc (Qh [0,4] rfl (Qd ?_)))
 have hx1:(l.set f.toNat {x with m:=true})[f.toNat]? =some {x with m:=true}:=List.getElem?_set_self (by omega)
 refine Qa (Qb rfl rfl (Qj rfl rfl (Qg rfl Mu rfl (Zx 1 f.toNat 2 hS6 rfl hvx4 rfl rfl hx1 MP rfl rfl (QQ rfl rfl (Qf (Qc (QL rfl (fun h7=> ?_) (fun h7=> ?_)))))))))
 ·refine Qd (Qa (Qb rfl rfl (Qj rfl rfl (Qg rfl Mu rfl (JE 1 f.toNat 2 {x with m:=true,t:=true} hS6 rfl hvx4 rfl rfl rfl Oa hx1 rfl (by decide) rfl (by rfl) ?_)))))
  intro w8 hS9; dsimp only[List.set]at hS9
  clear hS6
  refine Qf (Qc ?_)
  have hx2:((l.set f.toNat {x with m:=true}).set f.toNat {x with m:=true,t:=true})[f.toNat]? =some {x with m:=true,t:=true}:=List.getElem?_set_self (by rw[List.length_set];omega)
  have hS10:=hS9.drew
  refine QI [0,1,2,3,4,5,6,7,8,9,10] [10] Wq (by kernel_rfl) ?_
  refine QE rfl rfl rfl (Xj rfl rfl rfl (QS rfl rfl rfl VI (Q8 rfl rfl rfl (Qm rfl Jt (hS10.cell 0 rfl rfl)) (QE rfl rfl rfl (Xj rfl rfl rfl (QS rfl rfl rfl RW (Q8 rfl rfl rfl (Qm rfl QN (hS10.ocell 1 rfl hvx4 (RowC.cells_get hx2 rfl))) (Q8 rfl rfl rfl (Xz 3 hS10 keysInt Tryz.underlying109 rfl rfl rfl HV (VG _ _)) (QZ rfl rfl rfl (fun _=>(Dk rfl rfl rfl)) ?_)))))))))
  refine Xi rfl rfl rfl rfl rfl rfl ?_
  first | refine Xh 3 hS10 keysInt Tryz.underlying109 rfl rfl rfl rfl ?_
  intro w11 hS11; dsimp only[List.set]at hS11
  clear hS10
  refine Z0 (Xu (by kernel_rfl)) ?_
  refine VC.nil ?_
  have hS12:=hS11; rw[RN]at hS12
  refine ZY (.inl rfl) rfl ?_
  exact⟨_,rfl,rfl,Zs (l:=((l.set f.toNat {x with m:=true}).set f.toNat {x with m:=true,t:=true})) (by rw[hul]; exact((Kx (y:={x with m:=true,t:=true}) hx1 rfl).trans (Kx (y:={x with m:=true}) hx rfl)).symm) (by simp only[List.length_set]; exact hl4) (hh0) (by simp only[List.length_set]; exact hh1) (hS12.pick [0,1,2,3,4,5] rfl)⟩
 refine Qr (ZY (.inl rfl) rfl ?_)
 exact⟨_,rfl,rfl,Zs (l:=(l.set f.toNat {x with m:=true})) (by rw[hul]; exact(Kx (y:={x with m:=true}) hx rfl).symm) (by simp only[List.length_set]; exact hl4) (hh0) (by simp only[List.length_set]; exact hh1) (hS6.pick [0,1,2,3,4,5] rfl)⟩
theorem qaw {w:World} {p:Nat} {ul:List Bool} {hd:Int} {F:Th} (hS:Sat w [BK p ul hd,F]) (f:Int) (hf:0≤f∧f<(ul.length:Int)) (owner:Int):
    Calls Tryz.prog 188 #[ptrV p 0,intV f,intV owner] w (Ret fun v w'=>v= .tuple #[]∧Sat w' [BK p (ul.set f.toNat true) hd,F]):= by
 refine Qo Tryz.func188 rfl Tryz.ntmps188 rfl ?_
 refine Qd (Qd (Qa (Qb rfl rfl (Qb rfl rfl (Qv Nb rfl (MF (hS.sp [0] rfl) f) rfl ?_)))))
 rintro _ w1 ⟨rfl,hS1⟩
 replace hS1:=hS1.jn rfl rfl
 rw[Xf (show 0≤f∧f<(ul.length:Int) from hf)]
 refine QQ rfl rfl (Qf (Qc (Eb rfl rfl (Qr (Qc (Qd (Qd ?_)))))))
 obtain⟨ob,cap,l,b1,b2,b3,g1,g2,g3,hul,hl4,hh0,hh1,hSo⟩:=JD (hS1.pick [0,1] rfl)
 have hull:ul.length=l.length:= by rw[hul,List.length_map]
 obtain⟨x,hx⟩: ∃x,l[f.toNat]? =some x:=⟨_,Zi (by omega)⟩
 refine Qa (Qb rfl rfl (Qj rfl rfl (Qg rfl ZP rfl (Qp rfl Js (hSo.cell 0 rfl rfl) rfl (Qb rfl rfl (Xr ckC 1 f.toNat hSo rfl rfl rfl (by omega) hx Hf rfl ?_))))))
 intro bx2 capx2 hvx2
 refine Wj 1 f.toNat hSo rfl hvx2 rfl hx qbs KR rfl rfl (Xc hSo Dw rfl rfl ?_)
 intro b3 w3 hS3
 clear hSo
 (refine QU hS3 rfl rfl KR rfl (by rfl) (i:=0) rfl (by decide) ?_)
 intro w4 hS5; dsimp only[List.set]at hS5
 clear hS3
 refine Qf (Qc (Qh [2,1,0,6] rfl (Qd (Qa (Qg rfl RX rfl (Qp rfl MP (hS5.cell 0 rfl rfl) rfl (QQ rfl rfl (Qb rfl rfl (Zc 21 rfl (fun h6=> ?_) (fun h6=> ?_))))))))))
 ·refine Qi rfl rfl h6 rfl (Qi rfl rfl h6 rfl (Qi rfl rfl h6 rfl (Qi rfl rfl h6 rfl (QC rfl h6 rfl rfl (Qf (Qc (Qh [2,1,0,26] rfl (Xl rfl (Qd ?_)))))))))
  have hSz3:=Zs (hul) (hl4) (hh0) (hh1) (hS5.pick [1,2,3,4,5,6] rfl)
  refine Qa (Qb rfl rfl (Qb rfl rfl (Qv Nc rfl (Ba (hSz3.sp [0] rfl) f hf) rfl ?_)))
  rintro _ w7 ⟨rfl,hS7⟩
  replace hS7:=hS7.jn rfl rfl
  clear hSz3
  refine Qf (Qc (Qd ?_))
  obtain⟨ob2,cap2,l2,b12,b22,b32,g12,g22,g32,hul2,hl42,hh02,hh12,hSo2⟩:=JD (hS7.pick [0,1] rfl)
  have hl2l:l2.length=ul.length:= by have :=congrArg List.length hul2; rw[List.length_set,List.length_map]at this; exact this.symm
  obtain⟨x2,hx2⟩: ∃x,l2[f.toNat]? =some x:=⟨_,Zi (by omega)⟩
  refine Qa (Qb rfl rfl (Qj rfl rfl (Qg rfl ZP rfl (Qp rfl Js (hSo2.cell 0 rfl rfl) rfl (Qb rfl rfl (Qb rfl rfl (Zn rfl DZ Nr Dw rfl rfl (Xr ckC 1 f.toNat hSo2 rfl rfl rfl (by omega) hx2 Hf rfl ?_))))))))
  intro bx8 capx8 hvx8
  refine W6 1 f.toNat (⟨true,false,false,owner⟩:CkD) hSo2 rfl hvx8 rfl rfl KR (by rfl) (by omega) ?_
  intro w9 hS10; dsimp only[List.set]at hS10
  clear hSo2
  refine Qf (Qc (Qh [2,1,0] rfl (Qa (Qb rfl rfl (Qj rfl rfl (Qg rfl RZ rfl (Qp rfl Jt (hS10.cell 0 rfl rfl) rfl (Qb rfl rfl (Xt 2 hS10 keysInt Tryz.underlying109 rfl rfl rfl HV (VG _ _) rfl (Ct rfl rfl rfl rfl ?_))))))))))
  first | refine Xh 2 hS10 keysInt Tryz.underlying109 rfl rfl rfl rfl ?_
  intro w11 hS11; dsimp only[List.set]at hS11
  clear hS10
  refine Qf ?_
  have hS12:=hS11; rw[RN]at hS12
  have hSz5:=Zs (ul:=ul.set f.toNat true) (l:=l2.set f.toNat ⟨true,false,false,owner⟩) (by rw[CU,←hul2,List.set_set]) (by rw[List.length_set]; exact hl42) hh02 (by rw[List.length_set]; exact hh12) (hS12.pick [0,1,2,3,4,5] rfl)
  refine Qc (Qa (Qb rfl rfl (Qb rfl rfl ?_)))
  refine Qv Na rfl (Rp (hSz5.sp [0] rfl) f (by rw[List.length_set]; exact hf)) rfl ?_
  rintro _ w13 ⟨rfl,hS13⟩
  replace hS13:=hS13.jn rfl rfl
  clear hSz5
  exact Qf (ZY (.inl rfl) rfl (⟨_,rfl,rfl,hS13.pick [0,1] rfl⟩))
 refine Qk rfl rfl h6 (Qg rfl RW rfl (Qk rfl rfl h6 (Qp rfl QN (hS5.cell 0 rfl rfl) rfl (Qk rfl rfl h6 (Qb rfl rfl (Qk rfl rfl h6 (X0 rfl rfl rfl (QO rfl h6 rfl rfl (Qf (Qc (Qh [2,1,0,26] rfl (Qt rfl (fun h14=> ?_) (fun h14=> ?_)))))))))))))
 ·refine Qd ?_
  have hSz3:=Zs (hul) (hl4) (hh0) (hh1) (hS5.pick [1,2,3,4,5,6] rfl)
  refine Qa (Qb rfl rfl (Qb rfl rfl (Qv Nc rfl (Ba (hSz3.sp [0] rfl) f hf) rfl ?_)))
  rintro _ w15 ⟨rfl,hS15⟩
  replace hS15:=hS15.jn rfl rfl
  clear hSz3
  refine Qf (Qc (Qd ?_))
  obtain⟨ob2,cap2,l2,b12,b22,b32,g12,g22,g32,hul2,hl42,hh02,hh12,hSo2⟩:=JD (hS15.pick [0,1] rfl)
  have hl2l:l2.length=ul.length:= by have :=congrArg List.length hul2; rw[List.length_set,List.length_map]at this; exact this.symm
  obtain⟨x2,hx2⟩: ∃x,l2[f.toNat]? =some x:=⟨_,Zi (by omega)⟩
  refine Qa (Qb rfl rfl (Qj rfl rfl (Qg rfl ZP rfl (Qp rfl Js (hSo2.cell 0 rfl rfl) rfl (Qb rfl rfl (Qb rfl rfl (Zn rfl DZ Nr Dw rfl rfl (Xr ckC 1 f.toNat hSo2 rfl rfl rfl (by omega) hx2 Hf rfl ?_))))))))
  intro bx16 capx16 hvx16
  refine W6 1 f.toNat (⟨true,false,false,owner⟩:CkD) hSo2 rfl hvx16 rfl rfl KR (by rfl) (by omega) ?_
  intro w17 hS18; dsimp only[List.set]at hS18
  clear hSo2
  refine Qf (Qc (Qh [2,1,0] rfl (Qa (Qb rfl rfl (Qj rfl rfl (Qg rfl RZ rfl (Qp rfl Jt (hS18.cell 0 rfl rfl) rfl (Qb rfl rfl (Xt 2 hS18 keysInt Tryz.underlying109 rfl rfl rfl HV (VG _ _) rfl (Ct rfl rfl rfl rfl ?_))))))))))
  first | refine Xh 2 hS18 keysInt Tryz.underlying109 rfl rfl rfl rfl ?_
  intro w19 hS19; dsimp only[List.set]at hS19
  clear hS18
  refine Qf ?_
  have hS20:=hS19; rw[RN]at hS20
  have hSz5:=Zs (ul:=ul.set f.toNat true) (l:=l2.set f.toNat ⟨true,false,false,owner⟩) (by rw[CU,←hul2,List.set_set]) (by rw[List.length_set]; exact hl42) hh02 (by rw[List.length_set]; exact hh12) (hS20.pick [0,1,2,3,4,5] rfl)
  refine Qc (Qa (Qb rfl rfl (Qb rfl rfl ?_)))
  refine Qv Na rfl (Rp (hSz5.sp [0] rfl) f (by rw[List.length_set]; exact hf)) rfl ?_
  rintro _ w21 ⟨rfl,hS21⟩
  replace hS21:=hS21.jn rfl rfl
  clear hSz5
  exact Qf (ZY (.inl rfl) rfl (⟨_,rfl,rfl,hS21.pick [0,1] rfl⟩))
 refine Qr (Qc ?_)
 have hSz6:=Zs (hul) (hl4) (hh0) (hh1) (hS5.pick [1,2,3,4,5,6] rfl)
 have hxu:x.u=true:= by simpa using(by assumption:(!x.u)=false)
 have hus:ul.set f.toNat true=ul:= by rw[hul]; exact R6 (by rw[ck_u hx,hxu])
 rw[←hus]at hSz6
 refine Qa (Qb rfl rfl (Qb rfl rfl ?_))
 refine Qv Na rfl (Rp (hSz6.sp [0] rfl) f (by rw[List.length_set]; exact hf)) rfl ?_
 rintro _ w22 ⟨rfl,hS22⟩
 replace hS22:=hS22.jn rfl rfl
 clear hSz6
 exact Qf (ZY (.inl rfl) rfl (⟨_,rfl,rfl,hS22.pick [0,1] rfl⟩))
theorem Ax {w:World} {p:Nat} {v0:Value} {hd:Int} {l:List CkD} {b1 b2 b3:Nat} {g1 g2 g3:Int→Option Int} {F:Th} (hS:Sat w [QG p [v0,intV hd,.map (some b1),.map (some b2),.map (some b3)],rowT ckC v0 l,Q0 QX b1 (gI g1),Q0 QX b2 (gI g2),Q0 QX b3 (gI g3),F]) (owner:Int):
    Calls Tryz.prog 238 #[ptrV p 0,intV owner] w (Ret fun v w'=> ∃n,v=intV n∧Sat w' [QG p [v0,intV hd,.map (some b1),.map (some b2),.map (some b3)],rowT ckC v0 l,Q0 QX b1 (gI g1),Q0 QX b2 (gI g2),Q0 QX b3 (gI g3),F]):= by
 refine Qo Tryz.func238 rfl Tryz.ntmps238 rfl ?_
 refine Qd (Qa (Qe rfl rfl (Qf (Qc (Qd ?_)))))
 have hS1:=hS.drew
 refine QI [0,1,2,3,4,5,6,7,8,9,10,11,12,13] [] Wq (by kernel_rfl) ?_
 refine QE rfl rfl rfl (Xj rfl rfl rfl (QS rfl rfl rfl VI (Q8 rfl rfl rfl (Qm rfl Jt (hS1.cell 0 rfl rfl)) (QE rfl rfl rfl (Q8 rfl rfl rfl (Xz 3 hS1 keysInt Tryz.underlying109 rfl rfl rfl HV (VG _ _)) (QE rfl rfl rfl (Xj rfl rfl rfl (QS rfl rfl rfl Mw (Q8 rfl rfl rfl (Qm rfl Jt (hS1.cell 0 rfl rfl)) (QE rfl rfl rfl (Q8 rfl rfl rfl (Xz 4 hS1 keysInt Tryz.underlying109 rfl rfl rfl HV (VG _ _)) (QZ rfl rfl rfl (fun _=>(Ll rfl rfl)) ?_))))))))))))
 exact XP rfl rfl rfl (VC.nil (Qc (Qh [4] rfl (Qu (QP (.inr rfl) rfl rfl (⟨_,rfl,_,rfl,hS1⟩))))))
theorem Az {w:World} {p:Nat} {v0:Value} {hd:Int} {l:List CkD} {b1 b2 b3:Nat} {g1 g2 g3:Int→Option Int} {F:Th} (hS:Sat w [QG p [v0,intV hd,.map (some b1),.map (some b2),.map (some b3)],rowT ckC v0 l,Q0 QX b1 (gI g1),Q0 QX b2 (gI g2),Q0 QX b3 (gI g3),F]) (owner:Int):
    Calls Tryz.prog 203 #[ptrV p 0,intV owner] w (Ret fun v w'=> ∃g,v= .bool g∧Sat w' [QG p [v0,intV hd,.map (some b1),.map (some b2),.map (some b3)],rowT ckC v0 l,Q0 QX b1 (gI g1),Q0 QX b2 (gI g2),Q0 QX b3 (gI g3),F]):= by
 refine Qo Tryz.func203 rfl Tryz.ntmps203 rfl ?_
 refine Qd (Qa (Qe rfl rfl (Qf (Qc (Qd ?_)))))
 have hS1:=hS.drew
 refine QI [0,1,2,3,4,5,6,7,8,9,10] [8] Wq (by kernel_rfl) ?_
 refine QE rfl rfl rfl (Xj rfl rfl rfl (QS rfl rfl rfl RZ (Q8 rfl rfl rfl (Qm rfl Jt (hS1.cell 0 rfl rfl)) (QE rfl rfl rfl (Q8 rfl rfl rfl (Xz 2 hS1 keysInt Tryz.underlying109 rfl rfl rfl HV (VG _ _)) (QE rfl rfl rfl (QE rfl rfl rfl (Xi rfl rfl rfl rfl rfl rfl ?_))))))))
 refine Qv cal_238 rfl (Ax (hS1.sp [0,1,2,3,4] rfl) owner) rfl ?_
 rintro _ w2 ⟨n,rfl,hS2⟩
 replace hS2:=hS2.jn rfl rfl
 clear hS1
 refine X9 (.cons (.inl ⟨rfl,(Xz 2 hS2 keysInt Tryz.underlying109 rfl rfl rfl HV (VG _ _))⟩) (.cons (.inl ⟨rfl,(Qm rfl Jt (hS2.cell 0 rfl rfl))⟩) .nil)) (QZ rfl rfl rfl (fun _=>(IT rfl rfl)) ?_)
 exact XP rfl rfl rfl (VC.nil (Qc (Qh [4] rfl (Qu (QP (.inr rfl) rfl rfl (⟨_,rfl,_,rfl,hS2⟩))))))
end Go.Proofs.YtkcjfoaejijdoaaGreatDoor
