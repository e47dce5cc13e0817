/- reclaim: the clock -/
import Derived.Test.YtkcjfoaejijdoaaGreatDoorCm3
set_option linter.unusedVariables false
set_option maxRecDepth 100000
namespace Go.Proofs.YtkcjfoaejijdoaaGreatDoor
open Go.RowKit M
structure CkD where
  u:Bool
  m:Bool
  t:Bool
  o:Int
def ckC:RowC CkD:=⟨fun x=>[.bool x.u,.bool x.m,.bool x.t,intV x.o],4, by decide, fun _=>rfl, fun _=>rfl⟩
def gI (g:Int→Option Int):Int→Option Value:= fun k=>(g k).map intV
theorem V7 (g:Int→Option Int) (k:Int):(gI g k).getD (intV 0)=intV ((g k).getD 0):= by unfold gI; cases g k<;>rfl
theorem RM (g:Int→Option Int) (k x:Int):upd (gI g) k (some (intV x))=gI (up g k (some x)):= by
  funext j
  by_cases h:j=k
  · subst h; rw[Z5];unfold gI; rw[XW];rfl
  · rw[WC h];unfold gI; rw[Ze h]
theorem RN:(fun _=>none:Int→Option Value)=gI (fun _=>none):=rfl
structure CkX where
  v:Value
  l:List CkD
  b1:Nat
  b2:Nat
  b3:Nat
  g1:Int→Option Int
  g2:Int→Option Int
  g3:Int→Option Int
def BF (p:Nat) (ul:List Bool) (h:Int):Th:=CG fun q:CkX=>starL [WN (ul=q.l.map CkD.u∧ul.length≤4096∧0≤h∧h<ul.length),QF p [q.v,intV h,.map (some q.b1),.map (some q.b2),.map (some q.b3)],rowT ckC q.v q.l,Q3 Xf q.b1 (gI q.g1),Q3 Xf q.b2 (gI q.g2),Q3 Xf q.b3 (gI q.g3)]
def Cd (p:Nat) (ul:List Bool):Th:=CG fun h:Int=>BF p ul h
theorem J9 {w:World} {p:Nat} {ul:List Bool} {h:Int} {As:List Th} (hS:Sat w (BF p ul h::As)): ∃ob cap l b1 b2 b3 g1 g2 g3,ul=l.map CkD.u∧l.length≤4096∧0≤h∧h<l.length∧Sat w (QF p [.slice (some ⟨ob,0,none⟩) l.length cap,intV h,.map (some b1),.map (some b2),.map (some b3)]::rowT ckC (.slice (some ⟨ob,0,none⟩) l.length cap) l::Q3 Xf b1 (gI g1)::Q3 Xf b2 (gI g2)::Q3 Xf b3 (gI g3)::As):= by
  obtain⟨⟨v,l,b1,b2,b3,g1,g2,g3⟩,hS⟩:=hS.ex
  obtain⟨⟨h1,h2,h3,h4⟩,hS2⟩:=hS.flat.pure_elim
  dsimp only at h1 h2 h3 h4
  rw[h1,List.length_map]at h2 h4
  obtain⟨ob,cap,hv,_⟩:=Sat.own_at (As:=QF p _::rowT ckC v l::Q3 Xf b1 (gI g1)::Q3 Xf b2 (gI g2)::Q3 Xf b3 (gI g3)::As) hS2 1 rfl (by omega)
  obtain rfl:=hv
  exact⟨ob,cap,l,b1,b2,b3,g1,g2,g3,h1,h2,h3,h4,hS2⟩
theorem Zo {w:World} {p:Nat} {ul:List Bool} {h:Int} {As:List Th} {v:Value} {l:List CkD} {b1 b2 b3:Nat} {g1 g2 g3:Int→Option Int} (h1:ul=l.map CkD.u) (h2:l.length≤4096) (h3:0≤h) (h4:h<l.length)
    (hS:Sat w (QF p [v,intV h,.map (some b1),.map (some b2),.map (some b3)]::rowT ckC v l::Q3 Xf b1 (gI g1)::Q3 Xf b2 (gI g2)::Q3 Xf b3 (gI g3)::As)):Sat w (BF p ul h::As):=
  Sat.ex_intro (f:= fun q:CkX=>starL [WN (ul=q.l.map CkD.u∧ul.length≤4096∧0≤h∧h<ul.length),QF p [q.v,intV h,.map (some q.b1),.map (some q.b2),.map (some q.b3)],rowT ckC q.v q.l,Q3 Xf q.b1 (gI q.g1),Q3 Xf q.b2 (gI q.g2),Q3 Xf q.b3 (gI q.g3)]) ⟨v,l,b1,b2,b3,g1,g2,g3⟩
    (Sat.fold (As:=[WN _,QF p _,rowT ckC v l,Q3 Xf b1 (gI g1),Q3 Xf b2 (gI g2),Q3 Xf b3 (gI g3)]) (Sat.pure_intro ⟨h1, by rw[h1,List.length_map]; exact h2,h3, by rw[h1,List.length_map]; exact h4⟩ hS))
theorem ck_u {l:List CkD} {k:Nat} {x:CkD} (h:l[k]? =some x):(l.map CkD.u)[k]? =some x.u:= by rw[List.getElem?_map,h];rfl
theorem CV {l:List CkD} {k:Nat} {x:CkD}:(l.set k x).map CkD.u=(l.map CkD.u).set k x.u:=List.map_set
theorem Kt {l:List CkD} {k:Nat} {x y:CkD} (h:l[k]? =some x) (hu:y.u=x.u):(l.set k y).map CkD.u=l.map CkD.u:= by
  rw[CV,hu]; exact R2 (ck_u h)
theorem MG {w:World} {p:Nat} {ul:List Bool} {hd:Int} {F:Th} (hS:Sat w [BF p ul hd,F]) (f:Int):
    Calls Tryz.prog 220 #[ptrV p 0,intV f] w (Ret fun v w'=>v= .bool (decide (0≤f∧f<(ul.length:Int)))∧Sat w' [BF p ul hd,F]):= by
 obtain⟨ob,cap,l,b1,b2,b3,g1,g2,g3,hul,hl4,hh0,hh1,hS⟩:=J9 hS
 refine Qq Tryz.func220 rfl Tryz.ntmps220 rfl ?_
 refine Qd (Qa (Qe rfl rfl (Qf (Qc (Qd (Qa (Qb rfl rfl (JJ rfl rfl rfl (Qb rfl rfl (QN 7 rfl (fun h1=> ?_) (fun h1=> ?_)))))))))))
 ·refine Qj rfl rfl (QW h1) (Qb rfl rfl (Qj rfl rfl (QW h1) (Qb rfl rfl (Qj rfl rfl (QW h1) (Qk rfl rfl (Qj rfl rfl (QW h1) (Qg rfl ZP rfl (Qj rfl rfl (QW h1) (Qo rfl Jn (hS.cell 0 rfl rfl) rfl (Qj rfl rfl (QW h1) (X5 Tryz.underlying186 rfl rfl (Qj rfl rfl (QW h1) (Xb rfl rfl rfl (QC rfl (QW h1) rfl rfl (Qe rfl rfl (Qf (Qc (Qi [4] rfl (Qu (QQ (.inr rfl) rfl rfl ?_))))))))))))))))))))
  exact⟨_,rfl, by congr 1; rw[hul,List.length_map];(simp;omega),Zo (hul) (hl4) (hh0) (hh1) (hS.pick [0,1,2,3,4,5] rfl)⟩
 refine Qh rfl rfl (Q0 h1) rfl (Qh rfl rfl (Q0 h1) rfl (Qh rfl rfl (Q0 h1) rfl (Qh rfl rfl (Q0 h1) rfl (Qh rfl rfl (Q0 h1) rfl (Qh rfl rfl (Q0 h1) rfl (Qh rfl rfl (Q0 h1) rfl (QG rfl (Q0 h1) rfl rfl (Qe rfl rfl (Qf (Qc (Qi [4] rfl (Qu (QQ (.inr rfl) rfl rfl ?_)))))))))))))
 exact⟨_,rfl, by congr 1; rw[hul,List.length_map];(simp;omega),Zo (hul) (hl4) (hh0) (hh1) (hS.pick [0,1,2,3,4,5] rfl)⟩
theorem Bb {w:World} {p:Nat} {ul:List Bool} {hd:Int} {F:Th} (hS:Sat w [BF p ul hd,F]) (f:Int) (hf:0≤f∧f<(ul.length:Int)):
    Calls Tryz.prog 186 #[ptrV p 0,intV f] w (Ret fun v w'=>v= .tuple #[]∧Sat w' [BF p (ul.set f.toNat false) hd,F]):= by
 refine Qq Tryz.func186 rfl Tryz.ntmps186 rfl ?_
 refine Qd (Qd (Qa (Qb rfl rfl (Qb rfl rfl (Qv Nd rfl (MG (hS.sp [0] rfl) f) rfl ?_)))))
 rintro _ w1 ⟨rfl,hS1⟩
 replace hS1:=hS1.jn rfl rfl
 rw[QW (show 0≤f∧f<(ul.length:Int) from hf)]
 refine QR rfl rfl (Qb rfl rfl (Qj rfl rfl rfl ?_))
 obtain⟨ob,cap,l,b1,b2,b3,g1,g2,g3,hul,hl4,hh0,hh1,hSo⟩:=J9 (hS1.pick [0,1] rfl)
 have hull:ul.length=l.length:= by rw[hul,List.length_map]
 obtain⟨x,hx⟩: ∃x,l[f.toNat]? =some x:=⟨_,Zd (by omega)⟩
 refine Qb rfl rfl (Qj rfl rfl rfl (Qk rfl rfl (Qj rfl rfl rfl (Qg rfl ZP rfl (Qj rfl rfl rfl (Qo rfl Jn (hSo.cell 0 rfl rfl) rfl (Qj rfl rfl rfl (Qb rfl rfl (Qj rfl rfl rfl (Xu ckC 1 f.toNat hSo rfl rfl rfl (by omega) hx Hc rfl ?_))))))))))
 intro bx2 capx2 hvx2
 refine Qj rfl rfl rfl (Qg rfl RW rfl (Qj rfl rfl rfl (Z1 1 f.toNat 0 hSo rfl hvx2 rfl rfl hx MQ rfl rfl (Qj rfl rfl rfl (QR rfl rfl (QG rfl rfl rfl rfl (Qf (Qc (Qi [1,0,18] rfl (QM rfl (fun h3=> ?_) (fun h3=> ?_)))))))))))
 ·refine Qu (Qn (ZB (.inr rfl) rfl ?_))
  exact⟨_,rfl,rfl, by rw[show ul.set f.toNat false=ul by rw[hul]; exact R2 (by rw[ck_u hx];congr 1;simpa using(by assumption:(!x.u)=true))]; exact Zo (hul) (hl4) (hh0) (hh1) (hSo.pick [0,1,2,3,4,5] rfl)⟩
 refine Qr (Qc (Qd ?_))
 have hS4:=hSo.drew
 refine QJ [0,1,2,3,4,5,6,7,8,9,10,11,12,13,14] [14] Wp (by kernel_rfl) ?_
 refine QE rfl rfl rfl (Xl rfl rfl rfl (QT rfl rfl rfl RY (Q9 rfl rfl rfl (Qm rfl Jo (hS4.cell 0 rfl rfl)) (QE rfl rfl rfl (Xl rfl rfl rfl (QT rfl rfl rfl ZP (Q9 rfl rfl rfl (Qm rfl Jn (hS4.cell 0 rfl rfl)) (QE rfl rfl rfl (QU rfl rfl rfl (fun _=>(WB f.toNat rfl rfl (by omega) (by omega) Hc)) ?_)))))))))
 refine QT rfl rfl rfl RV (Q9 rfl rfl rfl (B0 ckC 1 f.toNat 3 hS4 rfl hx QO rfl rfl) (Q9 rfl rfl rfl (Xx 2 hS4 keysInt Tryz.underlying109 rfl rfl rfl HH (V7 _ _)) (QU rfl rfl rfl (fun _=>(Dc rfl rfl rfl)) ?_)))
 refine Xj rfl rfl rfl rfl rfl rfl ?_
 first | refine Xk 2 hS4 keysInt Tryz.underlying109 rfl rfl rfl rfl ?_
 intro w5 hS5; dsimp only[List.set]at hS5
 clear hS4
 refine Zx (Xq (by kernel_rfl)) ?_
 refine VC.nil ?_
 have hS6:=hS5; rw[RM]at hS6
 refine Qc (Qi [1,0] rfl (Qa (Qb rfl rfl (Qk rfl rfl (Qg rfl ZP rfl (Qo rfl Jn (hS6.cell 0 rfl rfl) rfl (Qb rfl rfl (Zl rfl pl_199_ Nw Dq rfl rfl (Xu ckC 1 f.toNat hS6 rfl rfl rfl (by omega) hx Hc rfl ?_)))))))))
 intro bx7 capx7 hvx7
 refine W6 1 f.toNat (⟨false,false,false,0⟩:CkD) hS6 rfl hvx7 rfl rfl KM (by rfl) (by omega) ?_
 intro w8 hS9; dsimp only[List.set]at hS9
 clear hS6
 refine Qf (ZB (.inl rfl) rfl ?_)
 exact⟨_,rfl,rfl,Zo (show _=(l.set f.toNat ⟨false,false,false,0⟩).map CkD.u by rw[hul,CV]) (by rw[List.length_set]; exact hl4) (hh0) (by rw[List.length_set]; exact hh1) (hS9.pick [0,1,2,3,4,5] rfl)⟩
theorem Rj {w:World} {p:Nat} {ul:List Bool} {hd:Int} {F:Th} (hS:Sat w [BF p ul hd,F]) (f:Int) (hf:0≤f∧f<(ul.length:Int)):
    Calls Tryz.prog 223 #[ptrV p 0,intV f] w (Ret fun v w'=>v= .tuple #[]∧Sat w' [BF p ul hd,F]):= by
 refine Qq Tryz.func223 rfl Tryz.ntmps223 rfl ?_
 refine Qd (Qd (Qa (Qb rfl rfl (Qb rfl rfl (Qv Nd rfl (MG (hS.sp [0] rfl) f) rfl ?_)))))
 rintro _ w1 ⟨rfl,hS1⟩
 replace hS1:=hS1.jn rfl rfl
 rw[QW (show 0≤f∧f<(ul.length:Int) from hf)]
 refine QR rfl rfl (Qb rfl rfl (Qj rfl rfl rfl ?_))
 obtain⟨ob,cap,l,b1,b2,b3,g1,g2,g3,hul,hl4,hh0,hh1,hSo⟩:=J9 (hS1.pick [0,1] rfl)
 have hull:ul.length=l.length:= by rw[hul,List.length_map]
 obtain⟨x,hx⟩: ∃x,l[f.toNat]? =some x:=⟨_,Zd (by omega)⟩
 refine Qb rfl rfl (Qj rfl rfl rfl (Qk rfl rfl (Qj rfl rfl rfl (Qg rfl ZP rfl (Qj rfl rfl rfl (Qo rfl Jn (hSo.cell 0 rfl rfl) rfl (Qj rfl rfl rfl (Qb rfl rfl (Qj rfl rfl rfl (Xu ckC 1 f.toNat hSo rfl rfl rfl (by omega) hx Hc rfl ?_))))))))))
 intro bx2 capx2 hvx2
 refine Qj rfl rfl rfl (Qg rfl RW rfl (Qj rfl rfl rfl (Z1 1 f.toNat 0 hSo rfl hvx2 rfl rfl hx MQ rfl rfl (Qj rfl rfl rfl (QR rfl rfl (QG rfl rfl rfl rfl (Qf (Qc (Qi [1,0,19] rfl (QM rfl (fun h3=> ?_) (fun h3=> ?_)))))))))))
 ·exact Qu (Qn (ZB (.inr rfl) rfl (⟨_,rfl,rfl,Zo (hul) (hl4) (hh0) (hh1) (hSo.pick [0,1,2,3,4,5] rfl)⟩)))
 refine Qr (Qc (Qd (Qa (Qb rfl rfl (Qk rfl rfl (Qg rfl ZP rfl (Qo rfl Jn (hSo.cell 0 rfl rfl) rfl (Qb rfl rfl (Xu ckC 1 f.toNat hSo rfl rfl rfl (by omega) hx Hc rfl ?_)))))))))
 intro bx4 capx4 hvx4
 refine Qe rfl rfl (Qf (Qc (Qd (Qa (Qb rfl rfl (Qk rfl rfl (Qg rfl U0 rfl (JA 1 f.toNat 1 {x with m:=true} hSo rfl hvx4 rfl rfl rfl AW hx rfl (by decide) rfl (by rfl) ?_))))))))
 intro w5 hS6; dsimp only[List.set]at hS6
 clear hSo
 refine Qf (Qc (Qi [0,4] rfl (Qd ?_)))
 have hx1:(l.set f.toNat {x with m:=true})[f.toNat]? =some {x with m:=true}:=List.getElem?_set_self (by omega)
 refine Qa (Qb rfl rfl (Qk rfl rfl (Qg rfl Mw rfl (Z1 1 f.toNat 2 hS6 rfl hvx4 rfl rfl hx1 MQ rfl rfl (QR rfl rfl (Qf (Qc (QM rfl (fun h7=> ?_) (fun h7=> ?_)))))))))
 ·refine Qd (Qa (Qb rfl rfl (Qk rfl rfl (Qg rfl Mw rfl (JA 1 f.toNat 2 {x with m:=true,t:=true} hS6 rfl hvx4 rfl rfl rfl AW hx1 rfl (by decide) rfl (by rfl) ?_)))))
  intro w8 hS9; dsimp only[List.set]at hS9
  clear hS6
  refine Qf (Qc ?_)
  have hx2:((l.set f.toNat {x with m:=true}).set f.toNat {x with m:=true,t:=true})[f.toNat]? =some {x with m:=true,t:=true}:=List.getElem?_set_self (by rw[List.length_set];omega)
  have hS10:=hS9.drew
  refine QJ [0,1,2,3,4,5,6,7,8,9,10] [10] Wp (by kernel_rfl) ?_
  refine QE rfl rfl rfl (Xl rfl rfl rfl (QT rfl rfl rfl V9 (Q9 rfl rfl rfl (Qm rfl Jo (hS10.cell 0 rfl rfl)) (QE rfl rfl rfl (Xl rfl rfl rfl (QT rfl rfl rfl RV (Q9 rfl rfl rfl (Qm rfl QO (hS10.ocell 1 rfl hvx4 (RowC.cells_get hx2 rfl))) (Q9 rfl rfl rfl (Xx 3 hS10 keysInt Tryz.underlying109 rfl rfl rfl HH (V7 _ _)) (QU rfl rfl rfl (fun _=>(Dg rfl rfl rfl)) ?_)))))))))
  refine Xj rfl rfl rfl rfl rfl rfl ?_
  first | refine Xk 3 hS10 keysInt Tryz.underlying109 rfl rfl rfl rfl ?_
  intro w11 hS11; dsimp only[List.set]at hS11
  clear hS10
  refine Zx (Xq (by kernel_rfl)) ?_
  refine VC.nil ?_
  have hS12:=hS11; rw[RM]at hS12
  refine ZB (.inl rfl) rfl ?_
  exact⟨_,rfl,rfl,Zo (l:=((l.set f.toNat {x with m:=true}).set f.toNat {x with m:=true,t:=true})) (by rw[hul]; exact((Kt (y:={x with m:=true,t:=true}) hx1 rfl).trans (Kt (y:={x with m:=true}) hx rfl)).symm) (by simp only[List.length_set]; exact hl4) (hh0) (by simp only[List.length_set]; exact hh1) (hS12.pick [0,1,2,3,4,5] rfl)⟩
 refine Qr (ZB (.inl rfl) rfl ?_)
 exact⟨_,rfl,rfl,Zo (l:=(l.set f.toNat {x with m:=true})) (by rw[hul]; exact(Kt (y:={x with m:=true}) hx rfl).symm) (by simp only[List.length_set]; exact hl4) (hh0) (by simp only[List.length_set]; exact hh1) (hS6.pick [0,1,2,3,4,5] rfl)⟩
theorem qap {w:World} {p:Nat} {ul:List Bool} {hd:Int} {F:Th} (hS:Sat w [BF p ul hd,F]) (f:Int) (hf:0≤f∧f<(ul.length:Int)) (owner:Int):
    Calls Tryz.prog 188 #[ptrV p 0,intV f,intV owner] w (Ret fun v w'=>v= .tuple #[]∧Sat w' [BF p (ul.set f.toNat true) hd,F]):= by
 refine Qq Tryz.func188 rfl Tryz.ntmps188 rfl ?_
 refine Qd (Qd (Qa (Qb rfl rfl (Qb rfl rfl (Qv Nd rfl (MG (hS.sp [0] rfl) f) rfl ?_)))))
 rintro _ w1 ⟨rfl,hS1⟩
 replace hS1:=hS1.jn rfl rfl
 rw[QW (show 0≤f∧f<(ul.length:Int) from hf)]
 refine QR rfl rfl (Qf (Qc (LT rfl rfl (Qr (Qc (Qd (Qd ?_)))))))
 obtain⟨ob,cap,l,b1,b2,b3,g1,g2,g3,hul,hl4,hh0,hh1,hSo⟩:=J9 (hS1.pick [0,1] rfl)
 have hull:ul.length=l.length:= by rw[hul,List.length_map]
 obtain⟨x,hx⟩: ∃x,l[f.toNat]? =some x:=⟨_,Zd (by omega)⟩
 refine Qa (Qb rfl rfl (Qk rfl rfl (Qg rfl ZP rfl (Qo rfl Jn (hSo.cell 0 rfl rfl) rfl (Qb rfl rfl (Xu ckC 1 f.toNat hSo rfl rfl rfl (by omega) hx Hc rfl ?_))))))
 intro bx2 capx2 hvx2
 refine Wk 1 f.toNat hSo rfl hvx2 rfl hx qbd KM rfl rfl (Xg hSo Dq rfl rfl ?_)
 intro b3 w3 hS3
 clear hSo
 (refine QY hS3 rfl rfl KM rfl (by rfl) (i:=0) rfl (by decide) ?_)
 intro w4 hS5; dsimp only[List.set]at hS5
 clear hS3
 refine Qf (Qc (Qi [2,1,0,6] rfl (Qd (Qa (Qg rfl RW rfl (Qo rfl MQ (hS5.cell 0 rfl rfl) rfl (QR rfl rfl (Qb rfl rfl (Zh 21 rfl (fun h6=> ?_) (fun h6=> ?_))))))))))
 ·refine Qh rfl rfl h6 rfl (Qh rfl rfl h6 rfl (Qh rfl rfl h6 rfl (Qh rfl rfl h6 rfl (QC rfl h6 rfl rfl (Qf (Qc (Qi [2,1,0,26] rfl (Xr rfl (Qd ?_)))))))))
  have hSz3:=Zo (hul) (hl4) (hh0) (hh1) (hS5.pick [1,2,3,4,5,6] rfl)
  refine Qa (Qb rfl rfl (Qb rfl rfl (Qv Ng rfl (Bb (hSz3.sp [0] rfl) f hf) rfl ?_)))
  rintro _ w7 ⟨rfl,hS7⟩
  replace hS7:=hS7.jn rfl rfl
  clear hSz3
  refine Qf (Qc (Qd ?_))
  obtain⟨ob2,cap2,l2,b12,b22,b32,g12,g22,g32,hul2,hl42,hh02,hh12,hSo2⟩:=J9 (hS7.pick [0,1] rfl)
  have hl2l:l2.length=ul.length:= by have :=congrArg List.length hul2; rw[List.length_set,List.length_map]at this; exact this.symm
  obtain⟨x2,hx2⟩: ∃x,l2[f.toNat]? =some x:=⟨_,Zd (by omega)⟩
  refine Qa (Qb rfl rfl (Qk rfl rfl (Qg rfl ZP rfl (Qo rfl Jn (hSo2.cell 0 rfl rfl) rfl (Qb rfl rfl (Qb rfl rfl (Zl rfl Mb Nw Dq rfl rfl (Xu ckC 1 f.toNat hSo2 rfl rfl rfl (by omega) hx2 Hc rfl ?_))))))))
  intro bx8 capx8 hvx8
  refine W6 1 f.toNat (⟨true,false,false,owner⟩:CkD) hSo2 rfl hvx8 rfl rfl KM (by rfl) (by omega) ?_
  intro w9 hS10; dsimp only[List.set]at hS10
  clear hSo2
  refine Qf (Qc (Qi [2,1,0] rfl (Qa (Qb rfl rfl (Qk rfl rfl (Qg rfl RY rfl (Qo rfl Jo (hS10.cell 0 rfl rfl) rfl (Qb rfl rfl (X2 2 hS10 keysInt Tryz.underlying109 rfl rfl rfl HH (V7 _ _) rfl (Cp rfl rfl rfl rfl ?_))))))))))
  first | refine Xk 2 hS10 keysInt Tryz.underlying109 rfl rfl rfl rfl ?_
  intro w11 hS11; dsimp only[List.set]at hS11
  clear hS10
  refine Qf ?_
  have hS12:=hS11; rw[RM]at hS12
  have hSz5:=Zo (ul:=ul.set f.toNat true) (l:=l2.set f.toNat ⟨true,false,false,owner⟩) (by rw[CV,←hul2,List.set_set]) (by rw[List.length_set]; exact hl42) hh02 (by rw[List.length_set]; exact hh12) (hS12.pick [0,1,2,3,4,5] rfl)
  refine Qc (Qa (Qb rfl rfl (Qb rfl rfl ?_)))
  refine Qv Nc rfl (Rj (hSz5.sp [0] rfl) f (by rw[List.length_set]; exact hf)) rfl ?_
  rintro _ w13 ⟨rfl,hS13⟩
  replace hS13:=hS13.jn rfl rfl
  clear hSz5
  exact Qf (ZB (.inl rfl) rfl (⟨_,rfl,rfl,hS13.pick [0,1] rfl⟩))
 refine Qj rfl rfl h6 (Qg rfl RV rfl (Qj rfl rfl h6 (Qo rfl QO (hS5.cell 0 rfl rfl) rfl (Qj rfl rfl h6 (Qb rfl rfl (Qj rfl rfl h6 (X0 rfl rfl rfl (QG rfl h6 rfl rfl (Qf (Qc (Qi [2,1,0,26] rfl (Qs rfl (fun h14=> ?_) (fun h14=> ?_)))))))))))))
 ·refine Qd ?_
  have hSz3:=Zo (hul) (hl4) (hh0) (hh1) (hS5.pick [1,2,3,4,5,6] rfl)
  refine Qa (Qb rfl rfl (Qb rfl rfl (Qv Ng rfl (Bb (hSz3.sp [0] rfl) f hf) rfl ?_)))
  rintro _ w15 ⟨rfl,hS15⟩
  replace hS15:=hS15.jn rfl rfl
  clear hSz3
  refine Qf (Qc (Qd ?_))
  obtain⟨ob2,cap2,l2,b12,b22,b32,g12,g22,g32,hul2,hl42,hh02,hh12,hSo2⟩:=J9 (hS15.pick [0,1] rfl)
  have hl2l:l2.length=ul.length:= by have :=congrArg List.length hul2; rw[List.length_set,List.length_map]at this; exact this.symm
  obtain⟨x2,hx2⟩: ∃x,l2[f.toNat]? =some x:=⟨_,Zd (by omega)⟩
  refine Qa (Qb rfl rfl (Qk rfl rfl (Qg rfl ZP rfl (Qo rfl Jn (hSo2.cell 0 rfl rfl) rfl (Qb rfl rfl (Qb rfl rfl (Zl rfl Mb Nw Dq rfl rfl (Xu ckC 1 f.toNat hSo2 rfl rfl rfl (by omega) hx2 Hc rfl ?_))))))))
  intro bx16 capx16 hvx16
  refine W6 1 f.toNat (⟨true,false,false,owner⟩:CkD) hSo2 rfl hvx16 rfl rfl KM (by rfl) (by omega) ?_
  intro w17 hS18; dsimp only[List.set]at hS18
  clear hSo2
  refine Qf (Qc (Qi [2,1,0] rfl (Qa (Qb rfl rfl (Qk rfl rfl (Qg rfl RY rfl (Qo rfl Jo (hS18.cell 0 rfl rfl) rfl (Qb rfl rfl (X2 2 hS18 keysInt Tryz.underlying109 rfl rfl rfl HH (V7 _ _) rfl (Cp rfl rfl rfl rfl ?_))))))))))
  first | refine Xk 2 hS18 keysInt Tryz.underlying109 rfl rfl rfl rfl ?_
  intro w19 hS19; dsimp only[List.set]at hS19
  clear hS18
  refine Qf ?_
  have hS20:=hS19; rw[RM]at hS20
  have hSz5:=Zo (ul:=ul.set f.toNat true) (l:=l2.set f.toNat ⟨true,false,false,owner⟩) (by rw[CV,←hul2,List.set_set]) (by rw[List.length_set]; exact hl42) hh02 (by rw[List.length_set]; exact hh12) (hS20.pick [0,1,2,3,4,5] rfl)
  refine Qc (Qa (Qb rfl rfl (Qb rfl rfl ?_)))
  refine Qv Nc rfl (Rj (hSz5.sp [0] rfl) f (by rw[List.length_set]; exact hf)) rfl ?_
  rintro _ w21 ⟨rfl,hS21⟩
  replace hS21:=hS21.jn rfl rfl
  clear hSz5
  exact Qf (ZB (.inl rfl) rfl (⟨_,rfl,rfl,hS21.pick [0,1] rfl⟩))
 refine Qr (Qc ?_)
 have hSz6:=Zo (hul) (hl4) (hh0) (hh1) (hS5.pick [1,2,3,4,5,6] rfl)
 have hxu:x.u=true:= by simpa using(by assumption:(!x.u)=false)
 have hus:ul.set f.toNat true=ul:= by rw[hul]; exact R2 (by rw[ck_u hx,hxu])
 rw[←hus]at hSz6
 refine Qa (Qb rfl rfl (Qb rfl rfl ?_))
 refine Qv Nc rfl (Rj (hSz6.sp [0] rfl) f (by rw[List.length_set]; exact hf)) rfl ?_
 rintro _ w22 ⟨rfl,hS22⟩
 replace hS22:=hS22.jn rfl rfl
 clear hSz6
 exact Qf (ZB (.inl rfl) rfl (⟨_,rfl,rfl,hS22.pick [0,1] rfl⟩))
theorem Ap {w:World} {p:Nat} {v0:Value} {hd:Int} {l:List CkD} {b1 b2 b3:Nat} {g1 g2 g3:Int→Option Int} {F:Th} (hS:Sat w [QF p [v0,intV hd,.map (some b1),.map (some b2),.map (some b3)],rowT ckC v0 l,Q3 Xf b1 (gI g1),Q3 Xf b2 (gI g2),Q3 Xf b3 (gI g3),F]) (owner:Int):
    Calls Tryz.prog 238 #[ptrV p 0,intV owner] w (Ret fun v w'=> ∃n,v=intV n∧Sat w' [QF p [v0,intV hd,.map (some b1),.map (some b2),.map (some b3)],rowT ckC v0 l,Q3 Xf b1 (gI g1),Q3 Xf b2 (gI g2),Q3 Xf b3 (gI g3),F]):= by
 refine Qq Tryz.func238 rfl Tryz.ntmps238 rfl ?_
 refine Qd (Qa (Qe rfl rfl (Qf (Qc (Qd ?_)))))
 have hS1:=hS.drew
 refine QJ [0,1,2,3,4,5,6,7,8,9,10,11,12,13] [] Wp (by kernel_rfl) ?_
 refine QE rfl rfl rfl (Xl rfl rfl rfl (QT rfl rfl rfl V9 (Q9 rfl rfl rfl (Qm rfl Jo (hS1.cell 0 rfl rfl)) (QE rfl rfl rfl (Q9 rfl rfl rfl (Xx 3 hS1 keysInt Tryz.underlying109 rfl rfl rfl HH (V7 _ _)) (QE rfl rfl rfl (Xl rfl rfl rfl (QT rfl rfl rfl My (Q9 rfl rfl rfl (Qm rfl Jo (hS1.cell 0 rfl rfl)) (QE rfl rfl rfl (Q9 rfl rfl rfl (Xx 4 hS1 keysInt Tryz.underlying109 rfl rfl rfl HH (V7 _ _)) (QU rfl rfl rfl (fun _=>(Li rfl rfl)) ?_))))))))))))
 exact XN rfl rfl rfl (VC.nil (Qc (Qi [4] rfl (Qu (QQ (.inr rfl) rfl rfl (⟨_,rfl,_,rfl,hS1⟩))))))
theorem Ar {w:World} {p:Nat} {v0:Value} {hd:Int} {l:List CkD} {b1 b2 b3:Nat} {g1 g2 g3:Int→Option Int} {F:Th} (hS:Sat w [QF p [v0,intV hd,.map (some b1),.map (some b2),.map (some b3)],rowT ckC v0 l,Q3 Xf b1 (gI g1),Q3 Xf b2 (gI g2),Q3 Xf b3 (gI g3),F]) (owner:Int):
    Calls Tryz.prog 203 #[ptrV p 0,intV owner] w (Ret fun v w'=> ∃g,v= .bool g∧Sat w' [QF p [v0,intV hd,.map (some b1),.map (some b2),.map (some b3)],rowT ckC v0 l,Q3 Xf b1 (gI g1),Q3 Xf b2 (gI g2),Q3 Xf b3 (gI g3),F]):= by
 refine Qq Tryz.func203 rfl Tryz.ntmps203 rfl ?_
 refine Qd (Qa (Qe rfl rfl (Qf (Qc (Qd ?_)))))
 have hS1:=hS.drew
 refine QJ [0,1,2,3,4,5,6,7,8,9,10] [8] Wp (by kernel_rfl) ?_
 refine QE rfl rfl rfl (Xl rfl rfl rfl (QT rfl rfl rfl RY (Q9 rfl rfl rfl (Qm rfl Jo (hS1.cell 0 rfl rfl)) (QE rfl rfl rfl (Q9 rfl rfl rfl (Xx 2 hS1 keysInt Tryz.underlying109 rfl rfl rfl HH (V7 _ _)) (QE rfl rfl rfl (QE rfl rfl rfl (Xj rfl rfl rfl rfl rfl rfl ?_))))))))
 refine Qv cal_238 rfl (Ap (hS1.sp [0,1,2,3,4] rfl) owner) rfl ?_
 rintro _ w2 ⟨n,rfl,hS2⟩
 replace hS2:=hS2.jn rfl rfl
 clear hS1
 refine X6 (.cons (.inl ⟨rfl,(Xx 2 hS2 keysInt Tryz.underlying109 rfl rfl rfl HH (V7 _ _))⟩) (.cons (.inl ⟨rfl,(Qm rfl Jo (hS2.cell 0 rfl rfl))⟩) .nil)) (QU rfl rfl rfl (fun _=>(IM rfl rfl)) ?_)
 exact XN rfl rfl rfl (VC.nil (Qc (Qi [4] rfl (Qu (QQ (.inr rfl) rfl rfl (⟨_,rfl,_,rfl,hS2⟩))))))
end Go.Proofs.YtkcjfoaejijdoaaGreatDoor
