/- reclaim: the clock -/
import Derived.Test.YtkcjfoaejijdoaaGreatDoorCm3
set_option linter.unusedVariables false
set_option maxRecDepth 100000
namespace Go.Proofs.YtkcjfoaejijdoaaGreatDoor
open Go.RowKit M
structure CkD where
  u:Bool
  m:Bool
  t:Bool
  o:Int
def ckC:RowC CkD:=⟨fun x=>[.bool x.u,.bool x.m,.bool x.t,intV x.o],4, by decide, fun _=>rfl, fun _=>rfl⟩
def gI (g:Int→Option Int):Int→Option Value:= fun k=>(g k).map intV
theorem V8 (g:Int→Option Int) (k:Int):(gI g k).getD (intV 0)=intV ((g k).getD 0):= by unfold gI; cases g k<;>rfl
theorem RN (g:Int→Option Int) (k x:Int):upd (gI g) k (some (intV x))=gI (up g k (some x)):= by
  funext j
  by_cases h:j=k
  · subst h; rw[ZB];unfold gI; rw[Zd];rfl
  · rw[WH h];unfold gI; rw[Zk h]
theorem RO:(fun _=>none:Int→Option Value)=gI (fun _=>none):=rfl
structure CkX where
  v:Value
  l:List CkD
  b1:Nat
  b2:Nat
  b3:Nat
  g1:Int→Option Int
  g2:Int→Option Int
  g3:Int→Option Int
def BH (p:Nat) (ul:List Bool) (h:Int):Th:=CG fun q:CkX=>starL [WT (ul=q.l.map CkD.u∧ul.length≤4096∧0≤h∧h<ul.length),QK p [q.v,intV h,.map (some q.b1),.map (some q.b2),.map (some q.b3)],rowT ckC q.v q.l,Q8 Xl q.b1 (gI q.g1),Q8 Xl q.b2 (gI q.g2),Q8 Xl q.b3 (gI q.g3)]
def Cd (p:Nat) (ul:List Bool):Th:=CG fun h:Int=>BH p ul h
theorem JD {w:World} {p:Nat} {ul:List Bool} {h:Int} {As:List Th} (hS:Sat w (BH p ul h::As)): ∃ob cap l b1 b2 b3 g1 g2 g3,ul=l.map CkD.u∧l.length≤4096∧0≤h∧h<l.length∧Sat w (QK p [.slice (some ⟨ob,0,none⟩) l.length cap,intV h,.map (some b1),.map (some b2),.map (some b3)]::rowT ckC (.slice (some ⟨ob,0,none⟩) l.length cap) l::Q8 Xl b1 (gI g1)::Q8 Xl b2 (gI g2)::Q8 Xl b3 (gI g3)::As):= by
  obtain⟨⟨v,l,b1,b2,b3,g1,g2,g3⟩,hS⟩:=hS.ex
  obtain⟨⟨h1,h2,h3,h4⟩,hS2⟩:=hS.flat.pure_elim
  dsimp only at h1 h2 h3 h4
  rw[h1,List.length_map]at h2 h4
  obtain⟨ob,cap,hv,_⟩:=Sat.own_at (As:=QK p _::rowT ckC v l::Q8 Xl b1 (gI g1)::Q8 Xl b2 (gI g2)::Q8 Xl b3 (gI g3)::As) hS2 1 rfl (by omega)
  obtain rfl:=hv
  exact⟨ob,cap,l,b1,b2,b3,g1,g2,g3,h1,h2,h3,h4,hS2⟩
theorem Zu {w:World} {p:Nat} {ul:List Bool} {h:Int} {As:List Th} {v:Value} {l:List CkD} {b1 b2 b3:Nat} {g1 g2 g3:Int→Option Int} (h1:ul=l.map CkD.u) (h2:l.length≤4096) (h3:0≤h) (h4:h<l.length)
    (hS:Sat w (QK p [v,intV h,.map (some b1),.map (some b2),.map (some b3)]::rowT ckC v l::Q8 Xl b1 (gI g1)::Q8 Xl b2 (gI g2)::Q8 Xl b3 (gI g3)::As)):Sat w (BH p ul h::As):=
  Sat.ex_intro (f:= fun q:CkX=>starL [WT (ul=q.l.map CkD.u∧ul.length≤4096∧0≤h∧h<ul.length),QK p [q.v,intV h,.map (some q.b1),.map (some q.b2),.map (some q.b3)],rowT ckC q.v q.l,Q8 Xl q.b1 (gI q.g1),Q8 Xl q.b2 (gI q.g2),Q8 Xl q.b3 (gI q.g3)]) ⟨v,l,b1,b2,b3,g1,g2,g3⟩
    (Sat.fold (As:=[WT _,QK p _,rowT ckC v l,Q8 Xl b1 (gI g1),Q8 Xl b2 (gI g2),Q8 Xl b3 (gI g3)]) (Sat.pure_intro ⟨h1, by rw[h1,List.length_map]; exact h2,h3, by rw[h1,List.length_map]; exact h4⟩ hS))
theorem ck_u {l:List CkD} {k:Nat} {x:CkD} (h:l[k]? =some x):(l.map CkD.u)[k]? =some x.u:= by rw[List.getElem?_map,h];rfl
theorem CV {l:List CkD} {k:Nat} {x:CkD}:(l.set k x).map CkD.u=(l.map CkD.u).set k x.u:=List.map_set
theorem Ku {l:List CkD} {k:Nat} {x y:CkD} (h:l[k]? =some x) (hu:y.u=x.u):(l.set k y).map CkD.u=l.map CkD.u:= by
  rw[CV,hu]; exact R2 (ck_u h)
theorem MG {w:World} {p:Nat} {ul:List Bool} {hd:Int} {F:Th} (hS:Sat w [BH p ul hd,F]) (f:Int):
    Calls Tryz.prog 220 #[ptrV p 0,intV f] w (Ret fun v w'=>v= .bool (decide (0≤f∧f<(ul.length:Int)))∧Sat w' [BH p ul hd,F]):= by
 obtain⟨ob,cap,l,b1,b2,b3,g1,g2,g3,hul,hl4,hh0,hh1,hS⟩:=JD hS
 refine Qr Tryz.func220 rfl Tryz.ntmps220 rfl ?_
 refine Qd (Qa (Qe rfl rfl (Qf (Qc (Qd (Qa (Qb rfl rfl (JN rfl rfl rfl (Qb rfl rfl (QR 7 rfl (fun h1=> ?_) (fun h1=> ?_)))))))))))
 ·refine Qj rfl rfl (Xc h1) (Qb rfl rfl (Qj rfl rfl (Xc h1) (Qb rfl rfl (Qj rfl rfl (Xc h1) (Qk rfl rfl (Qj rfl rfl (Xc h1) (Qg rfl ZV rfl (Qj rfl rfl (Xc h1) (Qp rfl Jt (hS.cell 0 rfl rfl) rfl (Qj rfl rfl (Xc h1) (XA Tryz.underlying186 rfl rfl (Qj rfl rfl (Xc h1) (Xh rfl rfl rfl (QI rfl (Xc h1) rfl rfl (Qe rfl rfl (Qf (Qc (Qi [4] rfl (Qw (QW (.inr rfl) rfl rfl ?_))))))))))))))))))))
  exact⟨_,rfl, by congr 1; rw[hul,List.length_map];(simp;omega),Zu (hul) (hl4) (hh0) (hh1) (hS.pick [0,1,2,3,4,5] rfl)⟩
 refine Qh rfl rfl (Q6 h1) rfl (Qh rfl rfl (Q6 h1) rfl (Qh rfl rfl (Q6 h1) rfl (Qh rfl rfl (Q6 h1) rfl (Qh rfl rfl (Q6 h1) rfl (Qh rfl rfl (Q6 h1) rfl (Qh rfl rfl (Q6 h1) rfl (QL rfl (Q6 h1) rfl rfl (Qe rfl rfl (Qf (Qc (Qi [4] rfl (Qw (QW (.inr rfl) rfl rfl ?_)))))))))))))
 exact⟨_,rfl, by congr 1; rw[hul,List.length_map];(simp;omega),Zu (hul) (hl4) (hh0) (hh1) (hS.pick [0,1,2,3,4,5] rfl)⟩
theorem Bc {w:World} {p:Nat} {ul:List Bool} {hd:Int} {F:Th} (hS:Sat w [BH p ul hd,F]) (f:Int) (hf:0≤f∧f<(ul.length:Int)):
    Calls Tryz.prog 186 #[ptrV p 0,intV f] w (Ret fun v w'=>v= .tuple #[]∧Sat w' [BH p (ul.set f.toNat false) hd,F]):= by
 refine Qr Tryz.func186 rfl Tryz.ntmps186 rfl ?_
 refine Qd (Qd (Qa (Qb rfl rfl (Qb rfl rfl (qac Nd rfl (MG (hS.sp [0] rfl) f) rfl ?_)))))
 rintro _ w1 ⟨rfl,hS1⟩
 replace hS1:=hS1.jn rfl rfl
 rw[Xc (show 0≤f∧f<(ul.length:Int) from hf)]
 refine QX rfl rfl (Qb rfl rfl (Qj rfl rfl rfl ?_))
 obtain⟨ob,cap,l,b1,b2,b3,g1,g2,g3,hul,hl4,hh0,hh1,hSo⟩:=JD (hS1.pick [0,1] rfl)
 have hull:ul.length=l.length:= by rw[hul,List.length_map]
 obtain⟨x,hx⟩: ∃x,l[f.toNat]? =some x:=⟨_,Zj (by omega)⟩
 refine Qb rfl rfl (Qj rfl rfl rfl (Qk rfl rfl (Qj rfl rfl rfl (Qg rfl ZV rfl (Qj rfl rfl rfl (Qp rfl Jt (hSo.cell 0 rfl rfl) rfl (Qj rfl rfl rfl (Qb rfl rfl (Qj rfl rfl rfl (X0 ckC 1 f.toNat hSo rfl rfl rfl (by omega) hx He rfl ?_))))))))))
 intro bx2 capx2 hvx2
 refine Qj rfl rfl rfl (Qg rfl RX rfl (Qj rfl rfl rfl (Z7 1 f.toNat 0 hSo rfl hvx2 rfl rfl hx MQ rfl rfl (Qj rfl rfl rfl (QX rfl rfl (QL rfl rfl rfl rfl (Qf (Qc (Qi [1,0,18] rfl (QQ rfl (fun h3=> ?_) (fun h3=> ?_)))))))))))
 ·refine Qw (Qo (ZH (.inr rfl) rfl ?_))
  exact⟨_,rfl,rfl, by rw[show ul.set f.toNat false=ul by rw[hul]; exact R2 (by rw[ck_u hx];congr 1;simpa using(by assumption:(!x.u)=true))]; exact Zu (hul) (hl4) (hh0) (hh1) (hSo.pick [0,1,2,3,4,5] rfl)⟩
 refine Qs (Qc (Qd ?_))
 have hS4:=hSo.drew
 refine QO [0,1,2,3,4,5,6,7,8,9,10,11,12,13,14] [14] Wu (by kernel_rfl) ?_
 refine QJ rfl rfl rfl (Xr rfl rfl rfl (QZ rfl rfl rfl RZ (QH rfl rfl rfl (Qn rfl Ju (hS4.cell 0 rfl rfl)) (QJ rfl rfl rfl (Xr rfl rfl rfl (QZ rfl rfl rfl ZV (QH rfl rfl rfl (Qn rfl Jt (hS4.cell 0 rfl rfl)) (QJ rfl rfl rfl (Xa rfl rfl rfl (fun _=>(WG f.toNat rfl rfl (by omega) (by omega) He)) ?_)))))))))
 refine QZ rfl rfl rfl RW (QH rfl rfl rfl (B2 ckC 1 f.toNat 3 hS4 rfl hx QS rfl rfl) (QH rfl rfl rfl (X3 2 hS4 keysInt Tryz.underlying109 rfl rfl rfl HJ (V8 _ _)) (Xa rfl rfl rfl (fun _=>(De rfl rfl rfl)) ?_)))
 refine Xp rfl rfl rfl rfl rfl rfl ?_
 first | refine Xq 2 hS4 keysInt Tryz.underlying109 rfl rfl rfl rfl ?_
 intro w5 hS5; dsimp only[List.set]at hS5
 clear hS4
 refine Z3 (Xx (by kernel_rfl)) ?_
 refine VC.nil ?_
 have hS6:=hS5; rw[RN]at hS6
 refine Qc (Qi [1,0] rfl (Qa (Qb rfl rfl (Qk rfl rfl (Qg rfl ZV rfl (Qp rfl Jt (hS6.cell 0 rfl rfl) rfl (Qb rfl rfl (Zr rfl pl_199_ Nw Ds rfl rfl (X0 ckC 1 f.toNat hS6 rfl rfl rfl (by omega) hx He rfl ?_)))))))))
 intro bx7 capx7 hvx7
 refine WB 1 f.toNat (⟨false,false,false,0⟩:CkD) hS6 rfl hvx7 rfl rfl KM (by rfl) (by omega) ?_
 intro w8 hS9; dsimp only[List.set]at hS9
 clear hS6
 refine Qf (ZH (.inl rfl) rfl ?_)
 exact⟨_,rfl,rfl,Zu (show _=(l.set f.toNat ⟨false,false,false,0⟩).map CkD.u by rw[hul,CV]) (by rw[List.length_set]; exact hl4) (hh0) (by rw[List.length_set]; exact hh1) (hS9.pick [0,1,2,3,4,5] rfl)⟩
theorem Rj {w:World} {p:Nat} {ul:List Bool} {hd:Int} {F:Th} (hS:Sat w [BH p ul hd,F]) (f:Int) (hf:0≤f∧f<(ul.length:Int)):
    Calls Tryz.prog 223 #[ptrV p 0,intV f] w (Ret fun v w'=>v= .tuple #[]∧Sat w' [BH p ul hd,F]):= by
 refine Qr Tryz.func223 rfl Tryz.ntmps223 rfl ?_
 refine Qd (Qd (Qa (Qb rfl rfl (Qb rfl rfl (qac Nd rfl (MG (hS.sp [0] rfl) f) rfl ?_)))))
 rintro _ w1 ⟨rfl,hS1⟩
 replace hS1:=hS1.jn rfl rfl
 rw[Xc (show 0≤f∧f<(ul.length:Int) from hf)]
 refine QX rfl rfl (Qb rfl rfl (Qj rfl rfl rfl ?_))
 obtain⟨ob,cap,l,b1,b2,b3,g1,g2,g3,hul,hl4,hh0,hh1,hSo⟩:=JD (hS1.pick [0,1] rfl)
 have hull:ul.length=l.length:= by rw[hul,List.length_map]
 obtain⟨x,hx⟩: ∃x,l[f.toNat]? =some x:=⟨_,Zj (by omega)⟩
 refine Qb rfl rfl (Qj rfl rfl rfl (Qk rfl rfl (Qj rfl rfl rfl (Qg rfl ZV rfl (Qj rfl rfl rfl (Qp rfl Jt (hSo.cell 0 rfl rfl) rfl (Qj rfl rfl rfl (Qb rfl rfl (Qj rfl rfl rfl (X0 ckC 1 f.toNat hSo rfl rfl rfl (by omega) hx He rfl ?_))))))))))
 intro bx2 capx2 hvx2
 refine Qj rfl rfl rfl (Qg rfl RX rfl (Qj rfl rfl rfl (Z7 1 f.toNat 0 hSo rfl hvx2 rfl rfl hx MQ rfl rfl (Qj rfl rfl rfl (QX rfl rfl (QL rfl rfl rfl rfl (Qf (Qc (Qi [1,0,19] rfl (QQ rfl (fun h3=> ?_) (fun h3=> ?_)))))))))))
 ·exact Qw (Qo (ZH (.inr rfl) rfl (⟨_,rfl,rfl,Zu (hul) (hl4) (hh0) (hh1) (hSo.pick [0,1,2,3,4,5] rfl)⟩)))
 refine Qs (Qc (Qd (Qa (Qb rfl rfl (Qk rfl rfl (Qg rfl ZV rfl (Qp rfl Jt (hSo.cell 0 rfl rfl) rfl (Qb rfl rfl (X0 ckC 1 f.toNat hSo rfl rfl rfl (by omega) hx He rfl ?_)))))))))
 intro bx4 capx4 hvx4
 refine Qe rfl rfl (Qf (Qc (Qd (Qa (Qb rfl rfl (Qk rfl rfl (Qg rfl U2 rfl (JE 1 f.toNat 1 {x with m:=true} hSo rfl hvx4 rfl rfl rfl AV hx rfl (by decide) rfl (by rfl) ?_))))))))
 intro w5 hS6; dsimp only[List.set]at hS6
 clear hSo
 refine Qf (Qc (Qi [0,4] rfl (Qd ?_)))
 have hx1:(l.set f.toNat {x with m:=true})[f.toNat]? =some {x with m:=true}:=List.getElem?_set_self (by omega)
 refine Qa (Qb rfl rfl (Qk rfl rfl (Qg rfl Mw rfl (Z7 1 f.toNat 2 hS6 rfl hvx4 rfl rfl hx1 MQ rfl rfl (QX rfl rfl (Qf (Qc (QQ rfl (fun h7=> ?_) (fun h7=> ?_)))))))))
 ·refine Qd (Qa (Qb rfl rfl (Qk rfl rfl (Qg rfl Mw rfl (JE 1 f.toNat 2 {x with m:=true,t:=true} hS6 rfl hvx4 rfl rfl rfl AV hx1 rfl (by decide) rfl (by rfl) ?_)))))
  intro w8 hS9; dsimp only[List.set]at hS9
  clear hS6
  refine Qf (Qc ?_)
  have hx2:((l.set f.toNat {x with m:=true}).set f.toNat {x with m:=true,t:=true})[f.toNat]? =some {x with m:=true,t:=true}:=List.getElem?_set_self (by rw[List.length_set];omega)
  have hS10:=hS9.drew
  refine QO [0,1,2,3,4,5,6,7,8,9,10] [10] Wu (by kernel_rfl) ?_
  refine QJ rfl rfl rfl (Xr rfl rfl rfl (QZ rfl rfl rfl VB (QH rfl rfl rfl (Qn rfl Ju (hS10.cell 0 rfl rfl)) (QJ rfl rfl rfl (Xr rfl rfl rfl (QZ rfl rfl rfl RW (QH rfl rfl rfl (Qn rfl QS (hS10.ocell 1 rfl hvx4 (RowC.cells_get hx2 rfl))) (QH rfl rfl rfl (X3 3 hS10 keysInt Tryz.underlying109 rfl rfl rfl HJ (V8 _ _)) (Xa rfl rfl rfl (fun _=>(Di rfl rfl rfl)) ?_)))))))))
  refine Xp rfl rfl rfl rfl rfl rfl ?_
  first | refine Xq 3 hS10 keysInt Tryz.underlying109 rfl rfl rfl rfl ?_
  intro w11 hS11; dsimp only[List.set]at hS11
  clear hS10
  refine Z3 (Xx (by kernel_rfl)) ?_
  refine VC.nil ?_
  have hS12:=hS11; rw[RN]at hS12
  refine ZH (.inl rfl) rfl ?_
  exact⟨_,rfl,rfl,Zu (l:=((l.set f.toNat {x with m:=true}).set f.toNat {x with m:=true,t:=true})) (by rw[hul]; exact((Ku (y:={x with m:=true,t:=true}) hx1 rfl).trans (Ku (y:={x with m:=true}) hx rfl)).symm) (by simp only[List.length_set]; exact hl4) (hh0) (by simp only[List.length_set]; exact hh1) (hS12.pick [0,1,2,3,4,5] rfl)⟩
 refine Qs (ZH (.inl rfl) rfl ?_)
 exact⟨_,rfl,rfl,Zu (l:=(l.set f.toNat {x with m:=true})) (by rw[hul]; exact(Ku (y:={x with m:=true}) hx rfl).symm) (by simp only[List.length_set]; exact hl4) (hh0) (by simp only[List.length_set]; exact hh1) (hS6.pick [0,1,2,3,4,5] rfl)⟩
theorem qan {w:World} {p:Nat} {ul:List Bool} {hd:Int} {F:Th} (hS:Sat w [BH p ul hd,F]) (f:Int) (hf:0≤f∧f<(ul.length:Int)) (owner:Int):
    Calls Tryz.prog 188 #[ptrV p 0,intV f,intV owner] w (Ret fun v w'=>v= .tuple #[]∧Sat w' [BH p (ul.set f.toNat true) hd,F]):= by
 refine Qr Tryz.func188 rfl Tryz.ntmps188 rfl ?_
 refine Qd (Qd (Qa (Qb rfl rfl (Qb rfl rfl (qac Nd rfl (MG (hS.sp [0] rfl) f) rfl ?_)))))
 rintro _ w1 ⟨rfl,hS1⟩
 replace hS1:=hS1.jn rfl rfl
 rw[Xc (show 0≤f∧f<(ul.length:Int) from hf)]
 refine QX rfl rfl (Qf (Qc (LS rfl rfl (Qs (Qc (Qd (Qd ?_)))))))
 obtain⟨ob,cap,l,b1,b2,b3,g1,g2,g3,hul,hl4,hh0,hh1,hSo⟩:=JD (hS1.pick [0,1] rfl)
 have hull:ul.length=l.length:= by rw[hul,List.length_map]
 obtain⟨x,hx⟩: ∃x,l[f.toNat]? =some x:=⟨_,Zj (by omega)⟩
 refine Qa (Qb rfl rfl (Qk rfl rfl (Qg rfl ZV rfl (Qp rfl Jt (hSo.cell 0 rfl rfl) rfl (Qb rfl rfl (X0 ckC 1 f.toNat hSo rfl rfl rfl (by omega) hx He rfl ?_))))))
 intro bx2 capx2 hvx2
 refine Wq 1 f.toNat hSo rfl hvx2 rfl hx qbb KM rfl rfl (Xm hSo Ds rfl rfl ?_)
 intro b3 w3 hS3
 clear hSo
 (refine Xe hS3 rfl rfl KM rfl (by rfl) (i:=0) rfl (by decide) ?_)
 intro w4 hS5; dsimp only[List.set]at hS5
 clear hS3
 refine Qf (Qc (Qi [2,1,0,6] rfl (Qd (Qa (Qg rfl RX rfl (Qp rfl MQ (hS5.cell 0 rfl rfl) rfl (QX rfl rfl (Qb rfl rfl (Zn 21 rfl (fun h6=> ?_) (fun h6=> ?_))))))))))
 ·refine Qh rfl rfl h6 rfl (Qh rfl rfl h6 rfl (Qh rfl rfl h6 rfl (Qh rfl rfl h6 rfl (QI rfl h6 rfl rfl (Qf (Qc (Qi [2,1,0,26] rfl (Xy rfl (Qd ?_)))))))))
  have hSz3:=Zu (hul) (hl4) (hh0) (hh1) (hS5.pick [1,2,3,4,5,6] rfl)
  refine Qa (Qb rfl rfl (Qb rfl rfl (qac Ng rfl (Bc (hSz3.sp [0] rfl) f hf) rfl ?_)))
  rintro _ w7 ⟨rfl,hS7⟩
  replace hS7:=hS7.jn rfl rfl
  clear hSz3
  refine Qf (Qc (Qd ?_))
  obtain⟨ob2,cap2,l2,b12,b22,b32,g12,g22,g32,hul2,hl42,hh02,hh12,hSo2⟩:=JD (hS7.pick [0,1] rfl)
  have hl2l:l2.length=ul.length:= by have :=congrArg List.length hul2; rw[List.length_set,List.length_map]at this; exact this.symm
  obtain⟨x2,hx2⟩: ∃x,l2[f.toNat]? =some x:=⟨_,Zj (by omega)⟩
  refine Qa (Qb rfl rfl (Qk rfl rfl (Qg rfl ZV rfl (Qp rfl Jt (hSo2.cell 0 rfl rfl) rfl (Qb rfl rfl (Qb rfl rfl (Zr rfl Mb Nw Ds rfl rfl (X0 ckC 1 f.toNat hSo2 rfl rfl rfl (by omega) hx2 He rfl ?_))))))))
  intro bx8 capx8 hvx8
  refine WB 1 f.toNat (⟨true,false,false,owner⟩:CkD) hSo2 rfl hvx8 rfl rfl KM (by rfl) (by omega) ?_
  intro w9 hS10; dsimp only[List.set]at hS10
  clear hSo2
  refine Qf (Qc (Qi [2,1,0] rfl (Qa (Qb rfl rfl (Qk rfl rfl (Qg rfl RZ rfl (Qp rfl Ju (hS10.cell 0 rfl rfl) rfl (Qb rfl rfl (X8 2 hS10 keysInt Tryz.underlying109 rfl rfl rfl HJ (V8 _ _) rfl (Cp rfl rfl rfl rfl ?_))))))))))
  first | refine Xq 2 hS10 keysInt Tryz.underlying109 rfl rfl rfl rfl ?_
  intro w11 hS11; dsimp only[List.set]at hS11
  clear hS10
  refine Qf ?_
  have hS12:=hS11; rw[RN]at hS12
  have hSz5:=Zu (ul:=ul.set f.toNat true) (l:=l2.set f.toNat ⟨true,false,false,owner⟩) (by rw[CV,←hul2,List.set_set]) (by rw[List.length_set]; exact hl42) hh02 (by rw[List.length_set]; exact hh12) (hS12.pick [0,1,2,3,4,5] rfl)
  refine Qc (Qa (Qb rfl rfl (Qb rfl rfl ?_)))
  refine qac Nc rfl (Rj (hSz5.sp [0] rfl) f (by rw[List.length_set]; exact hf)) rfl ?_
  rintro _ w13 ⟨rfl,hS13⟩
  replace hS13:=hS13.jn rfl rfl
  clear hSz5
  exact Qf (ZH (.inl rfl) rfl (⟨_,rfl,rfl,hS13.pick [0,1] rfl⟩))
 refine Qj rfl rfl h6 (Qg rfl RW rfl (Qj rfl rfl h6 (Qp rfl QS (hS5.cell 0 rfl rfl) rfl (Qj rfl rfl h6 (Qb rfl rfl (Qj rfl rfl h6 (X6 rfl rfl rfl (QL rfl h6 rfl rfl (Qf (Qc (Qi [2,1,0,26] rfl (Qt rfl (fun h14=> ?_) (fun h14=> ?_)))))))))))))
 ·refine Qd ?_
  have hSz3:=Zu (hul) (hl4) (hh0) (hh1) (hS5.pick [1,2,3,4,5,6] rfl)
  refine Qa (Qb rfl rfl (Qb rfl rfl (qac Ng rfl (Bc (hSz3.sp [0] rfl) f hf) rfl ?_)))
  rintro _ w15 ⟨rfl,hS15⟩
  replace hS15:=hS15.jn rfl rfl
  clear hSz3
  refine Qf (Qc (Qd ?_))
  obtain⟨ob2,cap2,l2,b12,b22,b32,g12,g22,g32,hul2,hl42,hh02,hh12,hSo2⟩:=JD (hS15.pick [0,1] rfl)
  have hl2l:l2.length=ul.length:= by have :=congrArg List.length hul2; rw[List.length_set,List.length_map]at this; exact this.symm
  obtain⟨x2,hx2⟩: ∃x,l2[f.toNat]? =some x:=⟨_,Zj (by omega)⟩
  refine Qa (Qb rfl rfl (Qk rfl rfl (Qg rfl ZV rfl (Qp rfl Jt (hSo2.cell 0 rfl rfl) rfl (Qb rfl rfl (Qb rfl rfl (Zr rfl Mb Nw Ds rfl rfl (X0 ckC 1 f.toNat hSo2 rfl rfl rfl (by omega) hx2 He rfl ?_))))))))
  intro bx16 capx16 hvx16
  refine WB 1 f.toNat (⟨true,false,false,owner⟩:CkD) hSo2 rfl hvx16 rfl rfl KM (by rfl) (by omega) ?_
  intro w17 hS18; dsimp only[List.set]at hS18
  clear hSo2
  refine Qf (Qc (Qi [2,1,0] rfl (Qa (Qb rfl rfl (Qk rfl rfl (Qg rfl RZ rfl (Qp rfl Ju (hS18.cell 0 rfl rfl) rfl (Qb rfl rfl (X8 2 hS18 keysInt Tryz.underlying109 rfl rfl rfl HJ (V8 _ _) rfl (Cp rfl rfl rfl rfl ?_))))))))))
  first | refine Xq 2 hS18 keysInt Tryz.underlying109 rfl rfl rfl rfl ?_
  intro w19 hS19; dsimp only[List.set]at hS19
  clear hS18
  refine Qf ?_
  have hS20:=hS19; rw[RN]at hS20
  have hSz5:=Zu (ul:=ul.set f.toNat true) (l:=l2.set f.toNat ⟨true,false,false,owner⟩) (by rw[CV,←hul2,List.set_set]) (by rw[List.length_set]; exact hl42) hh02 (by rw[List.length_set]; exact hh12) (hS20.pick [0,1,2,3,4,5] rfl)
  refine Qc (Qa (Qb rfl rfl (Qb rfl rfl ?_)))
  refine qac Nc rfl (Rj (hSz5.sp [0] rfl) f (by rw[List.length_set]; exact hf)) rfl ?_
  rintro _ w21 ⟨rfl,hS21⟩
  replace hS21:=hS21.jn rfl rfl
  clear hSz5
  exact Qf (ZH (.inl rfl) rfl (⟨_,rfl,rfl,hS21.pick [0,1] rfl⟩))
 refine Qs (Qc ?_)
 have hSz6:=Zu (hul) (hl4) (hh0) (hh1) (hS5.pick [1,2,3,4,5,6] rfl)
 have hxu:x.u=true:= by simpa using(by assumption:(!x.u)=false)
 have hus:ul.set f.toNat true=ul:= by rw[hul]; exact R2 (by rw[ck_u hx,hxu])
 rw[←hus]at hSz6
 refine Qa (Qb rfl rfl (Qb rfl rfl ?_))
 refine qac Nc rfl (Rj (hSz6.sp [0] rfl) f (by rw[List.length_set]; exact hf)) rfl ?_
 rintro _ w22 ⟨rfl,hS22⟩
 replace hS22:=hS22.jn rfl rfl
 clear hSz6
 exact Qf (ZH (.inl rfl) rfl (⟨_,rfl,rfl,hS22.pick [0,1] rfl⟩))
theorem Ao {w:World} {p:Nat} {v0:Value} {hd:Int} {l:List CkD} {b1 b2 b3:Nat} {g1 g2 g3:Int→Option Int} {F:Th} (hS:Sat w [QK p [v0,intV hd,.map (some b1),.map (some b2),.map (some b3)],rowT ckC v0 l,Q8 Xl b1 (gI g1),Q8 Xl b2 (gI g2),Q8 Xl b3 (gI g3),F]) (owner:Int):
    Calls Tryz.prog 238 #[ptrV p 0,intV owner] w (Ret fun v w'=> ∃n,v=intV n∧Sat w' [QK p [v0,intV hd,.map (some b1),.map (some b2),.map (some b3)],rowT ckC v0 l,Q8 Xl b1 (gI g1),Q8 Xl b2 (gI g2),Q8 Xl b3 (gI g3),F]):= by
 refine Qr Tryz.func238 rfl Tryz.ntmps238 rfl ?_
 refine Qd (Qa (Qe rfl rfl (Qf (Qc (Qd ?_)))))
 have hS1:=hS.drew
 refine QO [0,1,2,3,4,5,6,7,8,9,10,11,12,13] [] Wu (by kernel_rfl) ?_
 refine QJ rfl rfl rfl (Xr rfl rfl rfl (QZ rfl rfl rfl VB (QH rfl rfl rfl (Qn rfl Ju (hS1.cell 0 rfl rfl)) (QJ rfl rfl rfl (QH rfl rfl rfl (X3 3 hS1 keysInt Tryz.underlying109 rfl rfl rfl HJ (V8 _ _)) (QJ rfl rfl rfl (Xr rfl rfl rfl (QZ rfl rfl rfl My (QH rfl rfl rfl (Qn rfl Ju (hS1.cell 0 rfl rfl)) (QJ rfl rfl rfl (QH rfl rfl rfl (X3 4 hS1 keysInt Tryz.underlying109 rfl rfl rfl HJ (V8 _ _)) (Xa rfl rfl rfl (fun _=>(Lh rfl rfl)) ?_))))))))))))
 exact XU rfl rfl rfl (VC.nil (Qc (Qi [4] rfl (Qw (QW (.inr rfl) rfl rfl (⟨_,rfl,_,rfl,hS1⟩))))))
theorem Aq {w:World} {p:Nat} {v0:Value} {hd:Int} {l:List CkD} {b1 b2 b3:Nat} {g1 g2 g3:Int→Option Int} {F:Th} (hS:Sat w [QK p [v0,intV hd,.map (some b1),.map (some b2),.map (some b3)],rowT ckC v0 l,Q8 Xl b1 (gI g1),Q8 Xl b2 (gI g2),Q8 Xl b3 (gI g3),F]) (owner:Int):
    Calls Tryz.prog 203 #[ptrV p 0,intV owner] w (Ret fun v w'=> ∃g,v= .bool g∧Sat w' [QK p [v0,intV hd,.map (some b1),.map (some b2),.map (some b3)],rowT ckC v0 l,Q8 Xl b1 (gI g1),Q8 Xl b2 (gI g2),Q8 Xl b3 (gI g3),F]):= by
 refine Qr Tryz.func203 rfl Tryz.ntmps203 rfl ?_
 refine Qd (Qa (Qe rfl rfl (Qf (Qc (Qd ?_)))))
 have hS1:=hS.drew
 refine QO [0,1,2,3,4,5,6,7,8,9,10] [8] Wu (by kernel_rfl) ?_
 refine QJ rfl rfl rfl (Xr rfl rfl rfl (QZ rfl rfl rfl RZ (QH rfl rfl rfl (Qn rfl Ju (hS1.cell 0 rfl rfl)) (QJ rfl rfl rfl (QH rfl rfl rfl (X3 2 hS1 keysInt Tryz.underlying109 rfl rfl rfl HJ (V8 _ _)) (QJ rfl rfl rfl (QJ rfl rfl rfl (Xp rfl rfl rfl rfl rfl rfl (qac cal_238 rfl (Ao (hS1.sp [0,1,2,3,4] rfl) owner) rfl ?_)))))))))
 rintro _ w2 ⟨n,rfl,hS2⟩
 replace hS2:=hS2.jn rfl rfl
 clear hS1
 refine XB (.cons (.inl ⟨rfl,(X3 2 hS2 keysInt Tryz.underlying109 rfl rfl rfl HJ (V8 _ _))⟩) (.cons (.inl ⟨rfl,(Qn rfl Ju (hS2.cell 0 rfl rfl))⟩) .nil)) (Xa rfl rfl rfl (fun _=>(IL rfl rfl)) ?_)
 exact XU rfl rfl rfl (VC.nil (Qc (Qi [4] rfl (Qw (QW (.inr rfl) rfl rfl (⟨_,rfl,_,rfl,hS2⟩))))))
end Go.Proofs.YtkcjfoaejijdoaaGreatDoor
