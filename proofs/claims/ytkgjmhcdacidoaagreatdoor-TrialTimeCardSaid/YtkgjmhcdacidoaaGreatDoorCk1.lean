/- reclaim: the clock -/
import Derived.Test.YtkgjmhcdacidoaaGreatDoorSh4
set_option linter.unusedVariables false
set_option maxRecDepth 100000
namespace Go.Proofs.YtkgjmhcdacidoaaGreatDoor
open Go.RowKit M Proofs.Tryz
structure CkD where
  u:Bool
  m:Bool
  t:Bool
  o:Int
def ckC:RowC CkD:=⟨fun x=>[.bool x.u,.bool x.m,.bool x.t,intV x.o],4, by decide, fun _=>rfl, fun _=>rfl⟩
def gI (g:Int→Option Int):Int→Option Value:= fun k=>(g k).map intV
theorem Up (g:Int→Option Int) (k:Int):(gI g k).getD (intV 0)=intV ((g k).getD 0):= by unfold gI; cases g k<;>rfl
theorem Kf (g:Int→Option Int) (k x:Int):upd (gI g) k (some (intV x))=gI (up g k (some x)):= by
  funext j
  by_cases h:j=k
  · subst h; rw[Zs];unfold gI; rw[XE];rfl
  · rw[Wi h];unfold gI; rw[XM h]
theorem Kg:(fun _=>none:Int→Option Value)=gI (fun _=>none):=rfl
structure CkX where
  v:Value
  l:List CkD
  b1:Nat
  b2:Nat
  b3:Nat
  g1:Int→Option Int
  g2:Int→Option Int
  g3:Int→Option Int
def RJ (p:Nat) (ul:List Bool) (h:Int):Th:=Ch fun q:CkX=>starL [J8 (ul=q.l.map CkD.u∧ul.length≤4096∧0≤h∧h<ul.length),QC p [q.v,intV h,.map (some q.b1),.map (some q.b2),.map (some q.b3)],rowT ckC q.v q.l,Q4 QX q.b1 (gI q.g1),Q4 QX q.b2 (gI q.g2),Q4 QX q.b3 (gI q.g3)]
def Dv (p:Nat) (ul:List Bool):Th:=Ch fun h:Int=>RJ p ul h
theorem WR {w:World} {p:Nat} {ul:List Bool} {h:Int} {As:List Th} (hS:Sat w (RJ p ul h::As)): ∃ob cap l b1 b2 b3 g1 g2 g3,ul=l.map CkD.u∧l.length≤4096∧0≤h∧h<l.length∧Sat w (QC p [.slice (some ⟨ob,0,none⟩) l.length cap,intV h,.map (some b1),.map (some b2),.map (some b3)]::rowT ckC (.slice (some ⟨ob,0,none⟩) l.length cap) l::Q4 QX b1 (gI g1)::Q4 QX b2 (gI g2)::Q4 QX b3 (gI g3)::As):= by
  obtain⟨⟨v,l,b1,b2,b3,g1,g2,g3⟩,hS⟩:=hS.ex
  obtain⟨⟨h1,h2,h3,h4⟩,j2⟩:=hS.flat.pure_elim
  dsimp only at h1 h2 h3 h4
  rw[h1,List.length_map]at h2 h4
  obtain⟨ob,cap,hv,_⟩:=Sat.own_at (As:=QC p _::rowT ckC v l::Q4 QX b1 (gI g1)::Q4 QX b2 (gI g2)::Q4 QX b3 (gI g3)::As) j2 1 rfl (by omega)
  obtain rfl:=hv
  exact⟨ob,cap,l,b1,b2,b3,g1,g2,g3,h1,h2,h3,h4,j2⟩
theorem Zc {w:World} {p:Nat} {ul:List Bool} {h:Int} {As:List Th} {v:Value} {l:List CkD} {b1 b2 b3:Nat} {g1 g2 g3:Int→Option Int} (h1:ul=l.map CkD.u) (h2:l.length≤4096) (h3:0≤h) (h4:h<l.length)
    (hS:Sat w (QC p [v,intV h,.map (some b1),.map (some b2),.map (some b3)]::rowT ckC v l::Q4 QX b1 (gI g1)::Q4 QX b2 (gI g2)::Q4 QX b3 (gI g3)::As)):Sat w (RJ p ul h::As):=
  Sat.ex_intro (f:= fun q:CkX=>starL [J8 (ul=q.l.map CkD.u∧ul.length≤4096∧0≤h∧h<ul.length),QC p [q.v,intV h,.map (some q.b1),.map (some q.b2),.map (some q.b3)],rowT ckC q.v q.l,Q4 QX q.b1 (gI q.g1),Q4 QX q.b2 (gI q.g2),Q4 QX q.b3 (gI q.g3)]) ⟨v,l,b1,b2,b3,g1,g2,g3⟩
    (Sat.fold (As:=[J8 _,QC p _,rowT ckC v l,Q4 QX b1 (gI g1),Q4 QX b2 (gI g2),Q4 QX b3 (gI g3)]) (Sat.pure_intro ⟨h1, by rw[h1,List.length_map]; exact h2,h3, by rw[h1,List.length_map]; exact h4⟩ hS))
theorem ck_u {l:List CkD} {k:Nat} {x:CkD} (h:l[k]? =some x):(l.map CkD.u)[k]? =some x.u:= by rw[List.getElem?_map,h];rfl
theorem Ml {l:List CkD} {k:Nat} {x:CkD}:(l.set k x).map CkD.u=(l.map CkD.u).set k x.u:=List.map_set
theorem UR {l:List CkD} {k:Nat} {x y:CkD} (h:l[k]? =some x) (hu:y.u=x.u):(l.set k y).map CkD.u=l.map CkD.u:= by
  rw[Ml,hu]; exact VW (ck_u h)
theorem Bm {w:World} {p:Nat} {ul:List Bool} {hd:Int} {F:Th} (hS:Sat w [RJ p ul hd,F]) (f:Int):
    Calls prog 197 #[ptrV p 0,intV f] w (Ret fun v w'=>v= .bool (decide (0≤f∧f<(ul.length:Int)))∧Sat w' [RJ p ul hd,F]):= by
 obtain⟨ob,cap,l,b1,b2,b3,g1,g2,g3,hul,hl4,hh0,hh1,hS⟩:=WR hS
 refine Qm func197 U ntmps197 U ?_
 refine Qe (Qa (Qd U U (Qf (Qc (Qe (Qa (Qb U U (Yg U U U (Qb U U (QS 7 U (fun h1=> ?_) (fun h1=> ?_)))))))))))
 ·refine Qj U U (det h1) (Qb U U (Qj U U (det h1) (Qb U U (Qj U U (det h1) (Qi U U (Qj U U (det h1) (Qg U Z4 U (Qj U U (det h1) (Qn U WC (by first | assumption | exact hS.cell 0 U U) U ?_)))))))))
  refine Qj U U (det h1) ?_
  first | refine XK underlying149 U U ?_ | refine XG 1 hS underlying149 U U U ?_
  refine Qj U U (det h1) (Xk U U U (QH U (det h1) U U (Qd U U (Qf (Qc (Qh [4] U (Qv (QM (.inr U) U U ?_))))))))
  exact⟨_,rfl, by congr 1; rw[hul,List.length_map];first | (simp;done) | (simp;omega) | (rw[eq_comm,decide_eq_true_eq];omega) | (rw[eq_comm,decide_eq_false_iff_not];omega),Zc (hul) (hl4) (hh0) (hh1) (hS.pick [0,1,2,3,4,5] U)⟩
 refine Qk U U (QJ h1) U (Qk U U (QJ h1) U (Qk U U (QJ h1) U (Qk U U (QJ h1) U (Qk U U (QJ h1) U (Qk U U (QJ h1) U (Qk U U (QJ h1) U (QG U (QJ h1) U U (Qd U U (Qf (Qc (Qh [4] U (Qv (QM (.inr U) U U ?_)))))))))))))
 exact⟨_,rfl, by congr 1; rw[hul,List.length_map];first | (simp;done) | (simp;omega) | (rw[eq_comm,decide_eq_true_eq];omega) | (rw[eq_comm,decide_eq_false_iff_not];omega),Zc (hul) (hl4) (hh0) (hh1) (hS.pick [0,1,2,3,4,5] U)⟩
theorem Rl {w:World} {p:Nat} {ul:List Bool} {hd:Int} {F:Th} (hS:Sat w [RJ p ul hd,F]) (f:Int) (hf:0≤f∧f<(ul.length:Int)):
    Calls prog 167 #[ptrV p 0,intV f] w (Ret fun v w'=>v= .tuple #[]∧Sat w' [RJ p (ul.set f.toNat false) hd,F]):= by
 refine Qm func167 U ntmps167 U ?_
 refine Qe (Qe (Qa (Qb U U (Qb U U (Qy Mp U (Bm (hS.sp [0] U) f) U ?_)))))
 rintro _ w1 ⟨rfl,j1⟩
 replace j1:=j1.jn U U
 rw[det (show 0≤f∧f<(ul.length:Int) from hf)]
 refine QV U U (Qb U U (Qj U U U ?_))
 obtain⟨ob,cap,l,b1,b2,b3,g1,g2,g3,hul,hl4,hh0,hh1,hSo⟩:=WR (j1.pick [0,1] rfl)
 have hull:ul.length=l.length:= by rw[hul,List.length_map]
 obtain⟨x,hx⟩: ∃x,l[f.toNat]? =some x:=⟨_,Zk (by omega)⟩
 refine Qb U U (Qj U U U (Qi U U (Qj U U U (Qg U Z4 U (Qj U U U (Qn U WC (by first | assumption | exact hSo.cell 0 U U) U ?_))))))
 refine Qj U U U (Qb U U (Qj U U U (Xg ckC 1 f.toNat hSo U U U (by omega) hx Yj U ?_)))
 intro bx2 capx2 hvx2
 refine Qj U U U (Qg U Km U (Qj U U U (ZG 1 f.toNat 0 hSo U hvx2 U U hx VD U U (Qj U U U (QV U U (QG U U U U (Qf (Qc (Qh [1,0,18] U (QP U (fun h3=> ?_) (fun h3=> ?_)))))))))))
 ·refine Qv (Qq (ZT (.inr U) U ?_))
  exact⟨_,rfl,rfl, by rw[show ul.set f.toNat false=ul by rw[hul]; exact VW (by rw[ck_u hx];congr 1;simpa using(by assumption:(!x.u)=true))]; exact Zc (hul) (hl4) (hh0) (hh1) (hSo.pick [0,1,2,3,4,5] U)⟩
 refine Qt (Qc (Qe ?_))
 have j4:=hSo.drew
 refine Q6 [0,1,2,3,4,5,6,7,8,9,10,11,12,13,14] [14] ZF (by kernel_rfl) ?_
 refine Q9 U U U (QQ U U U (QI U U U Kp (Q1 U U U (Ql U JO (by first | assumption | exact j4.cell 0 U U)) ?_)))
 refine Q9 U U U (QQ U U U (QI U U U Z4 (Q1 U U U (Ql U WC (by first | assumption | exact j4.cell 0 U U)) ?_)))
 refine Q9 U U U (X9 U U U (fun _=>(Yu f.toNat U U (by first | rfl | omega) (by omega) Yj)) ?_)
 refine QI U U U Kl (Q1 U U U (R1 ckC 1 f.toNat 3 j4 U hx QO U U) (Q1 U U U (Xj 2 j4 keysInt underlying76 U U U YR (Up _ _)) (X9 U U U (fun _=>(Ge U U U)) ?_)))
 refine Xa U U U U U U ?_
 first | refine QY 2 j4 keysInt underlying76 U U U U ?_
 intro w5 j5; dsimp only[List.set]at j5
 refine XS (Xf (by kernel_rfl)) ?_
 refine VC.nil ?_
 have j6:=j5; rw[Kf]at j6
 refine Qc (Qh [1,0] U (Qa (Qb U U (Qi U U (Qg U Z4 U (Qn U WC (by first | assumption | exact j6.cell 0 U U) U ?_))))))
 refine Qb U U (Zm U pl_249_ M2 Gp U U (Xg ckC 1 f.toNat j6 U U U (by omega) hx Yj U ?_))
 intro bx7 capx7 hvx7
 refine Wc 1 f.toNat (⟨false,false,false,0⟩:CkD) j6 U hvx7 U U HG (by first | rfl | (simp;done)) (by first | omega | exact(XP hx).1) ?_
 intro w8 j9; dsimp only[List.set]at j9
 refine Qf (ZT (.inl U) U ?_)
 exact⟨_,rfl,rfl,Zc (show _=(l.set f.toNat ⟨false,false,false,0⟩).map CkD.u by rw[hul,Ml]) (by rw[List.length_set]; exact hl4) (hh0) (by rw[List.length_set]; exact hh1) (j9.pick [0,1,2,3,4,5] U)⟩
theorem V9 {w:World} {p:Nat} {ul:List Bool} {hd:Int} {F:Th} (hS:Sat w [RJ p ul hd,F]) (f:Int) (hf:0≤f∧f<(ul.length:Int)):
    Calls prog 209 #[ptrV p 0,intV f] w (Ret fun v w'=>v= .tuple #[]∧Sat w' [RJ p ul hd,F]):= by
 refine Qm func209 U ntmps209 U ?_
 refine Qe (Qe (Qa (Qb U U (Qb U U (Qy Mp U (Bm (hS.sp [0] U) f) U ?_)))))
 rintro _ w1 ⟨rfl,j1⟩
 replace j1:=j1.jn U U
 rw[det (show 0≤f∧f<(ul.length:Int) from hf)]
 refine QV U U (Qb U U (Qj U U U ?_))
 obtain⟨ob,cap,l,b1,b2,b3,g1,g2,g3,hul,hl4,hh0,hh1,hSo⟩:=WR (j1.pick [0,1] rfl)
 have hull:ul.length=l.length:= by rw[hul,List.length_map]
 obtain⟨x,hx⟩: ∃x,l[f.toNat]? =some x:=⟨_,Zk (by omega)⟩
 refine Qb U U (Qj U U U (Qi U U (Qj U U U (Qg U Z4 U (Qj U U U (Qn U WC (by first | assumption | exact hSo.cell 0 U U) U ?_))))))
 refine Qj U U U (Qb U U (Qj U U U (Xg ckC 1 f.toNat hSo U U U (by omega) hx Yj U ?_)))
 intro bx2 capx2 hvx2
 refine Qj U U U (Qg U Km U (Qj U U U (ZG 1 f.toNat 0 hSo U hvx2 U U hx VD U U (Qj U U U (QV U U (QG U U U U (Qf (Qc (Qh [1,0,19] U (QP U (fun h3=> ?_) (fun h3=> ?_)))))))))))
 ·exact Qv (Qq (ZT (.inr U) U (⟨_,U,U,Zc (hul) (hl4) (hh0) (hh1) (hSo.pick [0,1,2,3,4,5] U)⟩)))
 refine Qt (Qc (Qe (Qa (Qb U U (Qi U U (Qg U Z4 U (Qn U WC (by first | assumption | exact hSo.cell 0 U U) U ?_)))))))
 refine Qb U U (Xg ckC 1 f.toNat hSo U U U (by omega) hx Yj U ?_)
 intro bx4 capx4 hvx4
 refine Qd U U (Qf (Qc (Qe (Qa (Qb U U (Qi U U (Qg U Hu U (WU 1 f.toNat 1 {x with m:=true} hSo U hvx4 U U U Uh hx U (by decide) U (by first | rfl | assumption) ?_))))))))
 intro w5 j6; dsimp only[List.set]at j6
 clear hSo
 refine Qf (Qc (Qh [0,4] U (Qe ?_)))
 have hx1:(l.set f.toNat {x with m:=true})[f.toNat]? =some {x with m:=true}:=List.getElem?_set_self (by omega)
 refine Qa (Qb U U (Qi U U (Qg U GY U (ZG 1 f.toNat 2 j6 U hvx4 U U hx1 VD U U (QV U U (Qf (Qc (QP U (fun h7=> ?_) (fun h7=> ?_)))))))))
 ·refine Qe (Qa (Qb U U (Qi U U (Qg U GY U (WU 1 f.toNat 2 {x with m:=true,t:=true} j6 U hvx4 U U U Uh hx1 U (by decide) U (by first | rfl | assumption) ?_)))))
  intro w8 j9; dsimp only[List.set]at j9
  refine Qf (Qc ?_)
  have hx2:((l.set f.toNat {x with m:=true}).set f.toNat {x with m:=true,t:=true})[f.toNat]? =some {x with m:=true,t:=true}:=List.getElem?_set_self (by rw[List.length_set];omega)
  have j10:=j9.drew
  refine Q6 [0,1,2,3,4,5,6,7,8,9,10] [10] ZF (by kernel_rfl) ?_
  refine Q9 U U U (QQ U U U (QI U U U Ur (Q1 U U U (Ql U JO (by first | assumption | exact j10.cell 0 U U)) ?_)))
  refine Q9 U U U (QQ U U U (QI U U U Kl (Q1 U U U (Ql U QO (j10.ocell 1 U hvx4 (RowC.cells_get hx2 U))) (Q1 U U U (Xj 3 j10 keysInt underlying76 U U U YR (Up _ _)) (X9 U U U (fun _=>(Gg U U U)) ?_)))))
  refine Xa U U U U U U ?_
  first | refine QY 3 j10 keysInt underlying76 U U U U ?_
  intro w11 j11; dsimp only[List.set]at j11
  refine XS (Xf (by kernel_rfl)) ?_
  refine VC.nil ?_
  have j12:=j11; rw[Kf]at j12
  refine ZT (.inl U) U ?_
  exact⟨_,rfl,rfl,Zc (l:=((l.set f.toNat {x with m:=true}).set f.toNat {x with m:=true,t:=true})) (by rw[hul]; exact((UR (y:={x with m:=true,t:=true}) hx1 U).trans (UR (y:={x with m:=true}) hx U)).symm) (by simp only[List.length_set]; exact hl4) (hh0) (by simp only[List.length_set]; exact hh1) (j12.pick [0,1,2,3,4,5] U)⟩
 refine Qt (ZT (.inl U) U ?_)
 exact⟨_,rfl,rfl,Zc (l:=(l.set f.toNat {x with m:=true})) (by rw[hul]; exact(UR (y:={x with m:=true}) hx U).symm) (by simp only[List.length_set]; exact hl4) (hh0) (by simp only[List.length_set]; exact hh1) (j6.pick [0,1,2,3,4,5] U)⟩
theorem LF {w:World} {p:Nat} {ul:List Bool} {hd:Int} {F:Th} (hS:Sat w [RJ p ul hd,F]) (f:Int) (hf:0≤f∧f<(ul.length:Int)) (owner:Int):
    Calls prog 185 #[ptrV p 0,intV f,intV owner] w (Ret fun v w'=>v= .tuple #[]∧Sat w' [RJ p (ul.set f.toNat true) hd,F]):= by
 refine Qm func185 U ntmps185 U ?_
 refine Qe (Qe (Qa (Qb U U (Qb U U (Qy Mp U (Bm (hS.sp [0] U) f) U ?_)))))
 rintro _ w1 ⟨rfl,j1⟩
 replace j1:=j1.jn U U
 rw[det (show 0≤f∧f<(ul.length:Int) from hf)]
 refine QV U U (Qf (Qc (P3 U U (Qt (Qc (Qe (Qe ?_)))))))
 obtain⟨ob,cap,l,b1,b2,b3,g1,g2,g3,hul,hl4,hh0,hh1,hSo⟩:=WR (j1.pick [0,1] rfl)
 have hull:ul.length=l.length:= by rw[hul,List.length_map]
 obtain⟨x,hx⟩: ∃x,l[f.toNat]? =some x:=⟨_,Zk (by omega)⟩
 refine Qa (Qb U U (Qi U U (Qg U Z4 U (Qn U WC (by first | assumption | exact hSo.cell 0 U U) U ?_))))
 refine Qb U U (Xg ckC 1 f.toNat hSo U U U (by omega) hx Yj U ?_)
 intro bx2 capx2 hvx2
 refine Z9 1 f.toNat hSo U hvx2 U hx En HG U U (Xb hSo Gp U U ?_)
 intro b3 w3 j3
 clear hSo
 first | (refine QF j3 U U HG U (by first | rfl | (simp [QU,Value.oneCell'];done) | assumption | exact hone) (i:=0) U (by first | decide | exact Q5 U | (simp;done) | omega) ?_) | (refine QF j3 U U HG U (by first | rfl | (simp [QU,Value.oneCell'];done) | assumption | exact hone) (i:=1) U (by first | decide | exact Q5 U | (simp;done) | omega) ?_)
 intro w4 j5; dsimp only[List.set]at j5
 refine Qf (Qc (Qh [2,1,0,6] U (Qe (Qa (Qg U Km U (Qn U VD (by first | assumption | exact j5.cell 0 U U | exact j5.cell 1 U U) U ?_))))))
 refine QV U U (Qb U U (Xu 21 U (fun h6=> ?_) (fun h6=> ?_)))
 ·refine Qk U U h6 U (Qk U U h6 U (Qk U U h6 U (Qk U U h6 U (QH U h6 U U (Qf (Qc (Qh [2,1,0,26] U (X3 U (Qe ?_)))))))))
  have hSz3:=Zc (hul) (hl4) (hh0) (hh1) (j5.pick [1,2,3,4,5,6] U)
  refine Qa (Qb U U (Qb U U (Qy Mq U (Rl (hSz3.sp [0] U) f hf) U ?_)))
  rintro _ w7 ⟨rfl,j7⟩
  replace j7:=j7.jn U U
  clear hSz3
  refine Qf (Qc (Qe ?_))
  obtain⟨ob2,cap2,l2,b12,b22,b32,g12,g22,g32,hul2,hl42,hh02,hh12,hSo2⟩:=WR (j7.pick [0,1] rfl)
  have hl2l:l2.length=ul.length:= by have :=congrArg List.length hul2; rw[List.length_set,List.length_map]at this; exact this.symm
  obtain⟨x2,hx2⟩: ∃x,l2[f.toNat]? =some x:=⟨_,Zk (by omega)⟩
  refine Qa (Qb U U (Qi U U (Qg U Z4 U (Qn U WC (by first | assumption | exact hSo2.cell 0 U U) U ?_))))
  refine Qb U U (Qb U U (Zm U GH M2 Gp U U (Xg ckC 1 f.toNat hSo2 U U U (by omega) hx2 Yj U ?_)))
  intro bx8 capx8 hvx8
  refine Wc 1 f.toNat (⟨true,false,false,owner⟩:CkD) hSo2 U hvx8 U U HG (by first | rfl | (simp;done)) (by first | omega | exact(XP hx2).1) ?_
  intro w9 j10; dsimp only[List.set]at j10
  clear hSo2
  refine Qf (Qc (Qh [2,1,0] U (Qa (Qb U U (Qi U U (Qg U Kp U (Qn U JO (by first | assumption | exact j10.cell 0 U U) U ?_)))))))
  refine Qb U U (XA 2 j10 keysInt underlying76 U U U YR (Up _ _) U (D9 U U U U ?_))
  first | refine QY 2 j10 keysInt underlying76 U U U U ?_
  intro w11 j11; dsimp only[List.set]at j11
  refine Qf ?_
  have j12:=j11; rw[Kf]at j12
  have hSz5:=Zc (ul:=ul.set f.toNat true) (l:=l2.set f.toNat ⟨true,false,false,owner⟩) (by rw[Ml,←hul2,List.set_set]) (by rw[List.length_set]; exact hl42) hh02 (by rw[List.length_set]; exact hh12) (j12.pick [0,1,2,3,4,5] U)
  refine Qc (Qa (Qb U U (Qb U U ?_)))
  refine Qy Mo U (V9 (hSz5.sp [0] U) f (by rw[List.length_set]; exact hf)) U ?_
  rintro _ w13 ⟨rfl,j13⟩
  replace j13:=j13.jn U U
  clear hSz5
  exact Qf (ZT (.inl U) U (⟨_,U,U,j13.pick [0,1] U⟩))
 refine Qj U U h6 (Qg U Kl U (Qj U U h6 (Qn U QO (by first | assumption | exact j5.cell 0 U U | exact j5.cell 1 U U) U ?_)))
 refine Qj U U h6 (Qb U U (Qj U U h6 (Xn U U U (QG U h6 U U (Qf (Qc (Qh [2,1,0,26] U (Qu U (fun h14=> ?_) (fun h14=> ?_)))))))))
 ·refine Qe ?_
  have hSz3:=Zc (hul) (hl4) (hh0) (hh1) (j5.pick [1,2,3,4,5,6] U)
  refine Qa (Qb U U (Qb U U (Qy Mq U (Rl (hSz3.sp [0] U) f hf) U ?_)))
  rintro _ w15 ⟨rfl,j15⟩
  replace j15:=j15.jn U U
  clear hSz3
  refine Qf (Qc (Qe ?_))
  obtain⟨ob2,cap2,l2,b12,b22,b32,g12,g22,g32,hul2,hl42,hh02,hh12,hSo2⟩:=WR (j15.pick [0,1] rfl)
  have hl2l:l2.length=ul.length:= by have :=congrArg List.length hul2; rw[List.length_set,List.length_map]at this; exact this.symm
  obtain⟨x2,hx2⟩: ∃x,l2[f.toNat]? =some x:=⟨_,Zk (by omega)⟩
  refine Qa (Qb U U (Qi U U (Qg U Z4 U (Qn U WC (by first | assumption | exact hSo2.cell 0 U U) U ?_))))
  refine Qb U U (Qb U U (Zm U GH M2 Gp U U (Xg ckC 1 f.toNat hSo2 U U U (by omega) hx2 Yj U ?_)))
  intro bx16 capx16 hvx16
  refine Wc 1 f.toNat (⟨true,false,false,owner⟩:CkD) hSo2 U hvx16 U U HG (by first | rfl | (simp;done)) (by first | omega | exact(XP hx2).1) ?_
  intro w17 j18; dsimp only[List.set]at j18
  clear hSo2
  refine Qf (Qc (Qh [2,1,0] U (Qa (Qb U U (Qi U U (Qg U Kp U (Qn U JO (by first | assumption | exact j18.cell 0 U U) U ?_)))))))
  refine Qb U U (XA 2 j18 keysInt underlying76 U U U YR (Up _ _) U (D9 U U U U ?_))
  first | refine QY 2 j18 keysInt underlying76 U U U U ?_
  intro w19 j19; dsimp only[List.set]at j19
  refine Qf ?_
  have j20:=j19; rw[Kf]at j20
  have hSz5:=Zc (ul:=ul.set f.toNat true) (l:=l2.set f.toNat ⟨true,false,false,owner⟩) (by rw[Ml,←hul2,List.set_set]) (by rw[List.length_set]; exact hl42) hh02 (by rw[List.length_set]; exact hh12) (j20.pick [0,1,2,3,4,5] U)
  refine Qc (Qa (Qb U U (Qb U U ?_)))
  refine Qy Mo U (V9 (hSz5.sp [0] U) f (by rw[List.length_set]; exact hf)) U ?_
  rintro _ w21 ⟨rfl,j21⟩
  replace j21:=j21.jn U U
  clear hSz5
  exact Qf (ZT (.inl U) U (⟨_,U,U,j21.pick [0,1] U⟩))
 refine Qt (Qc ?_)
 have hSz6:=Zc (hul) (hl4) (hh0) (hh1) (j5.pick [1,2,3,4,5,6] U)
 have hxu:x.u=true:= by simpa using(by assumption:(!x.u)=false)
 have hus:ul.set f.toNat true=ul:= by rw[hul]; exact VW (by rw[ck_u hx,hxu])
 rw[←hus]at hSz6
 refine Qa (Qb U U (Qb U U ?_))
 refine Qy Mo U (V9 (hSz6.sp [0] U) f (by rw[List.length_set]; exact hf)) U ?_
 rintro _ w22 ⟨rfl,j22⟩
 replace j22:=j22.jn U U
 clear hSz6
 exact Qf (ZT (.inl U) U (⟨_,U,U,j22.pick [0,1] U⟩))
theorem Sz {w:World} {p:Nat} {v0:Value} {hd:Int} {l:List CkD} {b1 b2 b3:Nat} {g1 g2 g3:Int→Option Int} {F:Th} (hS:Sat w [QC p [v0,intV hd,.map (some b1),.map (some b2),.map (some b3)],rowT ckC v0 l,Q4 QX b1 (gI g1),Q4 QX b2 (gI g2),Q4 QX b3 (gI g3),F]) (owner:Int):
    Calls prog 219 #[ptrV p 0,intV owner] w (Ret fun v w'=> ∃n,v=intV n∧Sat w' [QC p [v0,intV hd,.map (some b1),.map (some b2),.map (some b3)],rowT ckC v0 l,Q4 QX b1 (gI g1),Q4 QX b2 (gI g2),Q4 QX b3 (gI g3),F]):= by
 refine Qm func219 U ntmps219 U ?_
 refine Qe (Qa (Qd U U (Qf (Qc (Qe ?_)))))
 have j1:=hS.drew
 refine Q6 [0,1,2,3,4,5,6,7,8,9,10,11,12,13] [] ZF (by kernel_rfl) ?_
 refine Q9 U U U (QQ U U U (QI U U U Ur (Q1 U U U (Ql U JO (by first | assumption | exact j1.cell 0 U U)) ?_)))
 refine Q9 U U U (Q1 U U U (Xj 3 j1 keysInt underlying76 U U U YR (Up _ _)) (Q9 U U U (QQ U U U (QI U U U Bb (Q1 U U U (Ql U JO (by first | assumption | exact j1.cell 0 U U)) ?_)))))
 refine Q9 U U U (Q1 U U U (Xj 4 j1 keysInt underlying76 U U U YR (Up _ _)) (X9 U U U (fun _=>(NT U U)) ?_))
 exact Za U U U (VC.nil (Qc (Qh [4] U (Qv (QM (.inr U) U U (⟨_,U,_,U,j1⟩))))))
theorem S4 {w:World} {p:Nat} {v0:Value} {hd:Int} {l:List CkD} {b1 b2 b3:Nat} {g1 g2 g3:Int→Option Int} {F:Th} (hS:Sat w [QC p [v0,intV hd,.map (some b1),.map (some b2),.map (some b3)],rowT ckC v0 l,Q4 QX b1 (gI g1),Q4 QX b2 (gI g2),Q4 QX b3 (gI g3),F]) (owner:Int):
    Calls prog 214 #[ptrV p 0,intV owner] w (Ret fun v w'=> ∃g,v= .bool g∧Sat w' [QC p [v0,intV hd,.map (some b1),.map (some b2),.map (some b3)],rowT ckC v0 l,Q4 QX b1 (gI g1),Q4 QX b2 (gI g2),Q4 QX b3 (gI g3),F]):= by
 refine Qm func214 U ntmps214 U ?_
 refine Qe (Qa (Qd U U (Qf (Qc (Qe ?_)))))
 have j1:=hS.drew
 refine Q6 [0,1,2,3,4,5,6,7,8,9,10] [8] ZF (by kernel_rfl) ?_
 refine Q9 U U U (QQ U U U (QI U U U Kp (Q1 U U U (Ql U JO (by first | assumption | exact j1.cell 0 U U)) ?_)))
 refine Q9 U U U (Q1 U U U (Xj 2 j1 keysInt underlying76 U U U YR (Up _ _)) (Q9 U U U (Q9 U U U (Xa U U U U U U ?_))))
 refine Qy cal_219 U (Sz (j1.sp [0,1,2,3,4] U) owner) U ?_
 rintro _ w2 ⟨n,rfl,j2⟩
 replace j2:=j2.jn U U
 refine X5 (.cons (.inl ⟨rfl,(Xj 2 j2 keysInt underlying76 U U U YR (Up _ _))⟩) (.cons (.inl ⟨rfl,(Ql U JO (by first | assumption | exact j2.cell 0 U U))⟩) .nil)) ?_
 refine X9 U U U (fun _=>(Lr U U)) ?_
 exact Za U U U (VC.nil (Qc (Qh [4] U (Qv (QM (.inr U) U U (⟨_,U,_,U,j2⟩))))))
