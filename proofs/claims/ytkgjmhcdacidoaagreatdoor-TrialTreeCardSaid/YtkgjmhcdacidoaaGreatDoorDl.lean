/- slices.IndexFunc, DeleteFunc -/
import Derived.Test.YtkgjmhcdacidoaaGreatDoorFw
import Derived.Test.YtkgjmhcdacidoaaGreatDoorSh7
set_option linter.unusedVariables false
set_option maxRecDepth 100000
set_option maxHeartbeats 80000000000
namespace Go.Proofs.YtkgjmhcdacidoaaGreatDoor
open Go.RowKit M Proofs.Tryz
def EqG (P:Program) (g:Nat) (caps:List Value) (X:Th) (id:Int):Prop:=Q8 P g=true∧ ∀(n:Int) (w:World) (Y:Th),Sat w [X,Y]→Calls P g (intV n::caps).toArray w (Ret fun v w'=>v= .bool (decide (n=id))∧Sat w' [X,Y])
abbrev EqF (P:Program) (g:Nat) (c:Nat) (id:Int):Prop:=EqG P g [ptrV c 0] (QE c [intV id]) id
theorem ixI_sp {w:World} {g:Nat} {caps:List Value} {X:Th} {id:Int} {F:Th} (hE:EqG prog g caps X id) (hS:Sat w [X,F]) {lv:Value} {l:List Int} (hL:Ent F (RdL inC lv l)):
    Calls prog 151 #[lv,.func (.func g) #[] caps.toArray] w (Ret fun v w'=>(v=intV (-1)∧(∀y∈l,y≠id)∧Sat w' [X,F])∨(∃k:Nat,v=intV (k:Int)∧l[k]? =some id∧(∀j y,j<k→l[j]? =some y→y≠id)∧Sat w' [X,F])):= by
 obtain⟨ao,cap,rfl,hmax⟩:=(hL.sat hS 1 rfl).shape
 refine Qn func151 U ntmps151 U ?_
 refine Qe (Qa (Qd U U (Qf (Qc (Qe (Qe (Qa (Qb U U (XB underlying22 U U (Qb U U (Qf (Qc (Qw ?_)))))))))))))
 refine Xe (fun K0 E0 W0=> ∃(i:Nat),K0=l.length -i∧E0=[(0,.slice ao l.length cap),(1,.func (.func g) #[] caps.toArray),(7,intV (l.length:Int)),(8,intV (i:Int))]∧Sat W0 [X,F]∧(i≤l.length)∧(∀j y,j<i→l[j]? =some y→y≠id)) (L0:=[(0,_),(1,_),(7,_),(8,_)]) (l.length -0) (Vj U U U U) ⟨0,rfl,rfl,hS, by omega, by omega⟩ ?_
 rintro _ _ w1 ⟨i,rfl,rfl,j1,hi,hno⟩
 refine Qe (Qa (Xn U U U (Qf (Qc (Qe (Qt U (fun h2=> ?_) (fun h2=> ?_)))))))
 ·obtain⟨x,hx⟩: ∃x,l[i]? =some x:=⟨_,Zd (by omega)⟩
  obtain⟨b,off,rfl,_⟩:=(hL.sat j1 1 rfl).get hx
  refine Qs (Qc (Qe (Qw (Qe (Qa (Qb U U (Qd U U (Qf (Qc (Qe (Qa (Qb U U (Qb U U (Qb U U (Za i U U (by first | rfl | omega) ((XL hx).1) Un U ?_)))))))))))))))
  refine Qo U QM (((hL.sat j1 1 U).at_ hx) 0 _ U) U (Kf U hE.1 U (hE.2 _ _ _ (j1.sp [0] U)) U ?_)
  rintro e w3 ⟨_,rfl,rfl,j3⟩; refine⟨_,rfl, ?_⟩
  replace j3:=j3.jn U U
  refine Qf (Qc (Qh [8,7,1,0,5,16] U (Qt U (fun h4=> ?_) (fun h4=> ?_))))
  ·have heq:x=id:=h4
   refine Qe (Qa (Qb U U (Qd U U (Qf (Qc (Qv (Q1 (Qr (Qr (Q1 (Qr (QR (.inr U) U U ?_))))))))))))
   exact⟨_,rfl,.inr ⟨i,rfl, by rw[hx,heq],hno,j3.pick [0,1] U⟩⟩
  have hne:x≠id:=h4
  refine Qs (Ql (Qc (Qa (QK U U (by omega) (by omega) U ?_))))
  refine Qb U U (Qf ?_)
  exact Q5 (L1:=[(0,_),(1,_),(7,_),(8,intV ((i+1:Nat):Int))]) (Vj U U U U) (k1:=l.length -(i+1)) (by omega) ⟨i+1,rfl,rfl,j3.pick [0,1] U, by omega, fun j y hj hq=> by by_cases e:j=i;(subst e; rw[hx]at hq; cases hq; exact hne); exact hno j y (by omega) hq⟩
 refine QT (Qq (Qq (Qy (Qc (Qe (Qa (Qd U U (Qf (Qc (Qv (QR (.inr U) U U ?_)))))))))))
 exact⟨_,rfl,.inl ⟨rfl, fun y hm=> by obtain⟨j,hj⟩:=List.mem_iff_getElem?.1 hm; exact hno j y (by have :=(XL hj).1;omega) hj,j1.pick [0,1] rfl⟩⟩
theorem Gt {w:World} {g:Nat} {caps:List Value} {X:Th} {id:Int} {F:Th} (hE:EqG prog g caps X id) {sv:Value} {l:List Int} (hS:Sat w [rowT inC sv l,X,F]) (hln:l.length≤100000000000):
    Calls prog 110 #[sv,.func (.func g) #[] caps.toArray] w (Ret fun v w'=>Sat w' [rowT inC v (l.filter (fun n=> !decide (n=id))),X,F]):= by
 obtain⟨ao,cap,rfl,hcap0,_⟩:=hS.own_shape 0 rfl
 refine Qn func110 U ntmps110 U ?_
 refine Qe (Qa (Qd U U (Qf (Qc (Qe (Qa (Qb U U (Qb U U (Xr cal_151 U (ixI_sp hE (hS.sp [1] U) (l:=l) (Ent.starL (YD (C:=inC) (l:=l) (by omega)) 0 U)) U ?_)))))))))
 rintro e w1 ⟨_,rfl,(⟨rfl,hno,j1⟩ | ⟨k,rfl,hk,hno,j1⟩)⟩
 ·refine⟨_,U, ?_⟩
  replace j1:=j1.jn U U
  refine Qd U U (Qf (Qc (Qe (Qe (Qa (Qb U U (Xc U U U (Qf (Qc (Qt U (fun h2=> ?_) (fun h2=> ?_)))))))))))
  ·refine Qe (Qa (Qb U U (Qd U U (Qf (Qc (Qv (Qr (QR (.inr U) U U ?_))))))))
   exact⟨_,rfl, by rw[show l.filter (fun n=> !decide (n=id))=l from List.filter_eq_self.2 (fun y hy=> by simpa using hno y hy)]; exact j1.pick [1,0,2] U⟩
  exact absurd U h2
 refine⟨_,U, ?_⟩
 replace j1:=j1.jn U U
 refine Qd U U (Qf (Qc (Qe (Qe (Qa (Qb U U (Xc U U U (Qf (Qc (Qt U (fun h3=> ?_) (fun h3=> ?_)))))))))))
 ·exact absurd h3 (by omega)
 refine Qs (Qc (Qe (Qe ?_)))
 have hkl:=(XL hk).1
 obtain⟨ob,oc9,hq9,hcap⟩:=j1.own_at 1 rfl (by omega)
 cases hq9
 refine Qa (Qb U U (QK U U (by omega) (by omega) U ?_))
 refine Qd U U (Qf (Qc (Qh [1,0,4,5,6] U (Qw ?_))))
 have hq0:=j1.pick [1,0,2] U
 refine Xe (fun K0 E0 W0=> ∃(l1:List Int) (i j:Nat),K0=l.length -j∧E0=[(0,.slice (some ⟨ob,0,none⟩) l.length cap),(1,.func (.func g) #[] caps.toArray),(5,intV (i:Int)),(6,intV (j:Int))]∧Sat W0 [rowT inC (.slice (some ⟨ob,0,none⟩) l.length cap) l1,X,F]∧(i<j)∧(j≤l.length)∧(l1.length=l.length)∧(l1.take i=(l.take j).filter (fun n=> !decide (n=id)))∧(l1.drop j=l.drop j)) (L0:=[(0,_),(1,_),(5,_),(6,_)]) (l.length -(k+1)) (Vj rfl rfl rfl rfl) ⟨l,k,k+1,rfl,rfl,hq0, by omega, by omega,rfl, by rw[Yv hk,if_pos rfl,List.append_nil];symm; rw[List.filter_eq_self]; intro y hy; obtain⟨q,hq⟩:=List.mem_iff_getElem?.1 hy; have hql:=(XL hq).1; rw[List.length_take]at hql; rw[List.getElem?_take,if_pos (by omega)]at hq;simpa using hno q y (by omega) hq,rfl⟩ ?_
 rintro _ _ w4 ⟨l1,i,j,rfl,rfl,j4,hij,hjl,hl1,ht1,hd1⟩
 refine Qe (Qe (Qa (Qb U U (Qb U U ?_))))
 first | refine XB underlying22 U U ?_ | refine Xo 0 j4 underlying22 U U U ?_
 refine Xn U U U (Qf (Qc (Qt U (fun h5=> ?_) (fun h5=> ?_))))
 ·obtain⟨v,hv⟩: ∃v,l[j]? =some v:=⟨_,Zd (by omega)⟩
  have hv1:l1[j]? =some v:= by have :=congrArg (fun q=>q[0]?) hd1; simp only[List.getElem?_drop,Nat.add_zero]at this; rw[this]; exact hv
  refine Qs (Qc (Qe (Qw (Qe (Qa (Qb U U (Qb U U (Xg inC 0 j j4 U U U (by rfl) hv1 Un U ?_))))))))
  intro bx6 capx6 hvx6
  refine XY 0 j 0 j4 U hvx6 U U hv1 QM U U (Qd U U (Qf (Qc (Qh [6,5,1,0,7] U (Qe (Qa (Qb U U (Qb U U (Kf U hE.1 U (hE.2 _ _ _ (j4.sp [1] U)) U ?_)))))))))
  rintro e w7 ⟨_,rfl,rfl,j7⟩; refine⟨_,rfl, ?_⟩
  replace j7:=j7.jn U U
  refine QU U U (Qf (Qc (QS U (fun h8=> ?_) (fun h8=> ?_))))
  ·have hvn: ¬v=id:= by simpa using h8
   refine Qe ?_
   obtain⟨vx,hvx⟩: ∃v,l1[i]? =some v:=⟨_,Zd (by omega)⟩
   refine Qa (Qb U U (Qb U U (Qb U U (Xg inC 1 i j7 U U U (by rfl) hvx Un U ?_))))
   intro bx9 capx9 hvx9
   refine Wh 1 i v j7 U hvx9 U U Js (by first | rfl | (simp;done)) (by omega) ?_
   intro w10 j11; dsimp only[List.set]at j11
   refine Qf (Qc (Qh [6,5,1,0] U (Qa (Qb U U (QK U U (by omega) (by omega) U ?_)))))
   refine Qd U U (Qf (Ql (Qc (Qa (Qb U U (QK U U (by omega) (by omega) U ?_))))))
   refine Qd U U (Qf ?_)
   exact Q5 (L1:=[(0,_),(1,_),(5,intV ((i+1:Nat):Int)),(6,intV ((j+1:Nat):Int))]) (Vj U U U U) (k1:=l.length -(j+1)) (by omega) ⟨l1.set i v,i+1,j+1,rfl,rfl,j11.pick [1,0,2] U, by omega, by omega, by rw[List.length_set]; exact hl1, by rw[Yv hv,if_neg hvn,List.take_add_one,List.getElem?_set_self (by omega),List.take_set_of_le (by omega),ht1];rfl, by rw[List.drop_set_of_lt (by omega)]; have :=congrArg (List.drop 1) hd1;rwa [List.drop_drop,List.drop_drop]at this⟩
  have hvi:v=id:= by simpa using h8
  refine Qs (Ql (Qc (Qa (Qb U U (QK U U (by omega) (by omega) U ?_)))))
  refine Qd U U (Qf ?_)
  exact Q5 (L1:=[(0,_),(1,_),(5,_),(6,intV ((j+1:Nat):Int))]) (Vj U U U U) (k1:=l.length -(j+1)) (by omega) ⟨l1,i,j+1,rfl,rfl,j7.pick [1,0,2] U, by omega, by omega,hl1, by rw[Yv hv,if_pos hvi,List.append_nil]; exact ht1, by have :=congrArg (List.drop 1) hd1;rwa [List.drop_drop,List.drop_drop]at this⟩
 refine QT (Qq (Qq (Qy (Qc (Qe (Qa (Qb U U (Qb U U (RY i l.length underlying22 Js U (RV i _ U U) (bndN _) (by omega) (by omega) U ?_)))))))))
 rw[show H2 1 (.slice (some ⟨ob,0,none⟩) l.length cap) i l.length= .slice (some ⟨ob,0+i*1,none⟩) (l.length -i) (cap -i) from Dc (by omega)]
 refine BZ 0 j4 U U U underlying22 Hm U (by rw[inC.cells_len]; show 0+i*1+(l.length -i)*1≤l1.length*1;omega) (xs':=inC.cells (l1.take i++List.replicate (l1.length -i) 0)) (by rw[←hl1]; exact Es (by omega)) U ?_
 intro w12 hS12a; dsimp only[List.set]at hS12a
 have j12:=Sat.row_cast (C:=inC) (l:=l1.take i++List.replicate (l1.length -i) 0) (hS12a.pull 0 U) (by rw[List.length_append,List.length_take,List.length_replicate];omega) U U; dsimp only[List.eraseIdx]at j12
 refine Qf (Qc (Qh [5,0] U (Qe (Qa (Qb U U (Qb U U (RY 0 i underlying22 Js U (bndN _) (RV i _ U U) (by omega) (by omega) U ?_)))))))
 rw[show H2 1 (.slice (some ⟨ob,0,none⟩) l.length cap) 0 i= .slice (some ⟨ob,0,none⟩) i cap from Dc (by omega)]
 refine Qd U U (Qf (Qc (Qv (QR (.inr U) U U ?_))))
 have hz:=(j12.pick [0,1,2] U).row_shrink i (by rw[List.length_append,List.length_take];omega)
 rw[List.take_append_of_le_length (by rw[List.length_take];omega),List.take_take,Nat.min_self,ht1,List.take_of_length_le (by omega)]at hz
 exact⟨_,U,hz⟩
theorem CN {S:SS} {A:Int→Option ShE} {j:Int} (hA:A=up S.all j none):(fun i=>(A i).map fun x=>(x.refs,x.pg))=up (vw S) j none:= by
  subst hA
  funext i
  by_cases q:i=j
  · subst q; rw[XO,XO];rfl
  · rw[XW q,XW q];rfl
structure DelS (T:Nat) (S S':SS) (id:Int):Prop where
  inv:ShI VX (T+1) S'
  f:ShF S S'
  is:vw S'=up (vw S) id none
theorem SY {T:Nat} {S:SS} {id:Int} {x:ShE} (h:ShI VX T S) (hx:S.all id=some x) (hp:x.place=1):DelS T S {offFrame S x.at_ with all:=up S.all id none} id:= by
  have h1:=(h.offFrame (fun q=>q) hx hp U).gone (j:=id) (.inr U)
  refine⟨h1.congr fun i _=>⟨fun ⟨a,b⟩=>b (a.resolve_left fun q=>q),False.elim⟩,⟨⟨[x.at_],rfl, fun j y hy hp1=> ?_⟩,rfl,rfl, by show(S.fr.set _ _).length=_; rw[List.length_set]⟩,CN U⟩
  by_cases q:j=id
  · subst q; rw[hx]at hy; cases hy; exact .inl (by simp)
  · exact .inr ⟨y, by show up S.all id _ j=_; rw[XW q]; exact hy,hp1,rfl⟩
theorem ShF.del {S S':SS} {id:Int} {x:ShE} (hx:S.all id=some x) (hp:x.place≠1) (ha:S'.all=up S.all id none) (ht:S'.taken=S.taken) (hb:S'.budget=S.budget) (hs:S'.slots=S.slots) (hf:S'.fr=S.fr):ShF S S':= by
  refine⟨⟨[], by rw[ht]; simp, fun j y hy hp1=> .inr ⟨y, ?_,hp1,rfl⟩⟩,hb,hs, by rw[hf]⟩
  rw[ha,XW (fun q=> by subst q; rw[hx]at hy; cases hy; exact hp hp1)]; exact hy
theorem Rp {T:Nat} {S:SS} {id:Int} {x:ShE} (h:ShI VX T S) (hx:S.all id=some x) (hp:x.place=2):ShI (one id) T {S with cache:=S.cache.filter (fun n=> !decide (n=id))}:=
  (h.offCache hx hp (List.filter_sublist) (fun i=> by rw[List.mem_filter]; simp)).congr fun i _=>⟨fun q=>q.resolve_left fun q=>q, fun q=> .inr q⟩
theorem SZ {T:Nat} {S:SS} {id:Int} {x:ShE} (h:ShI VX T S) (hx:S.all id=some x) (hp:x.place=2):DelS T S {S with cache:=S.cache.filter (fun n=> !decide (n=id)),all:=up S.all id none} id:= by
  have h1:=((Rp h hx hp).gone (j:=id) U).mono (Nat.le_add_right T 1)
  exact⟨h1.congr fun i _=>⟨fun ⟨a,b⟩=>b a,False.elim⟩,ShF.del hx (by omega) U U U U U,CN U⟩
theorem Uw {E:Int→Prop} {T:Nat} {S:SS} {id:Int} {x:ShE} (h:ShI E T S) (hE: ¬E id) (hx:S.all id=some x) (hp:x.place=3):Ru S.sl x.at_=true∧GP S.sl x.at_=x.pg∧V8 S.sl x.at_=S.sl.set x.at_.toNat []:= by
  obtain⟨h0,h1⟩:=h.slt hE hx hp
  have h64:=(h.ent hx).2.2.2.2.1
  have hne:x.pg≠[]:= fun q=> by rw[q]at h64; simp at h64
  have hb:Ru S.sl x.at_=true:= by unfold Ru; rw[h1]; simp [h0,hne]
  exact⟨hb, by unfold GP; rw[if_pos hb,h1];rfl, by unfold V8; rw[if_pos hb]⟩
theorem Bf {T:Nat} {S:SS} {id:Int} {x:ShE} (h:ShI VX T S) (hx:S.all id=some x) (hp:x.place=3):ShI (one id) T {S with sl:=S.sl.set x.at_.toNat []}:=
  (h.offSlot (fun q=>q) hx hp).congr fun i _=>⟨fun q=>q.resolve_left fun q=>q, fun q=> .inr q⟩
theorem Et {T:Nat} {S:SS} {id:Int} {x:ShE} (h:ShI VX T S) (hx:S.all id=some x) (hp:x.place=3):DelS T S {S with sl:=S.sl.set x.at_.toNat [],all:=up S.all id none} id:= by
  have h1:=((Bf h hx hp).gone (j:=id) U).mono (Nat.le_add_right T 1)
  exact⟨h1.congr fun i _=>⟨fun ⟨a,b⟩=>b a,False.elim⟩,ShF.del hx (by omega) U U U U U,CN U⟩
def Yo (S:SS) (id:Int):Bs:= match S.all id with | none=> if id=0 then zer else[] | some x=>x.pg
theorem eqU (c:Nat) (id:Int):EqF prog 136 c id:=⟨cal_136, fun n w X hS=> by
  refine Qn func136 U ntmps136 U ?_
  refine Qe (Qa (Qd U U (Qf (Qc (Qe (Qa (Qb U U (Qo U QM (by first | assumption | exact hS.cell 0 U U) U ?_))))))))
  refine Xc U U U (Qd U U (Qf (Qc (Qv (QR (.inr U) U U ?_)))))
  exact⟨_,U,U,hS⟩⟩
theorem eqB (c:Nat) (id:Int):EqF prog 155 c id:=⟨cal_155, fun n w X hS=> by
  refine Qn func155 U ntmps155 U ?_
  refine Qe (Qa (Qd U U (Qf (Qc (Qe (Qa (Qb U U (Qo U QM (by first | assumption | exact hS.cell 0 U U) U ?_))))))))
  refine Xc U U U (Qd U U (Qf (Qc (Qv (QR (.inr U) U U ?_)))))
  exact⟨_,U,U,hS⟩⟩
theorem CX {w:World} {p:Nat} {S:SS} {F:Th} (hS:Sat w [Yn p S,F]) {N:Nat} (hI:ShI VX N S) (hN:N≤80000000000) (id:Int):
    Calls prog 97 #[ptrV p 0,intV id] w (Ret fun v w'=>(match S.all id with | none=>v=(if id=0 then intV 0 else intV 4)∧Sat w' [Yn p S,F] | some x=>v=intV 0∧((1<x.refs∧Sat w' [Yn p {S with all:=up S.all id (some {x with refs:=x.refs -1})},F])∨(x.refs=1∧ ∃S',DelS N S S' id∧Sat w' [Yn p S',F])))):= by
 obtain⟨ba,bi,fp,sp,kp,ac,cc,at2,ct,hS⟩:=XX hS
 cases Zt:S.all id with
 | none=>
  dsimp only
  refine Qn func97 U ntmps97 U ?_
  refine Qe (Qa (XV hS U U U ?_))
  intro b1 w1 j1
  refine Qd U U (Qf (Qc (Qe ?_)))
  have j2:=j1.drew
  refine QH [0,1,2,3,4,5,6,7,8,9,10,11] [9,10] ZW (by kernel_rfl) ?_
  refine QJ U U U (Xd U U U (QP U U U XR (Q3 U U U (Qm U ZD (by first | assumption | exact j2.cell 0 U U | exact j2.cell 1 U U)) ?_)))
  refine Q3 U U U (Qm U QM (by first | assumption | exact j2.cell 0 U U | exact j2.cell 1 U U)) ?_
  refine Q3 U U U (ZK (k:=id) 2 j2 keysInt underlying75 U U U X9 (u:=(.agg #[intV 0,intV 0,intV 0,strV []])) (g:=false) (YI Zt) (Yy Zt)) (QJ U U U (Wj U U U U (Wj U U U U (Xl U U U U U U ?_))))
  refine Xa j2 X9 U U ?_
  intro b3 w3 j3
  refine XH (.cons (.inl ⟨rfl,(ZK (k:=id) 3 j3 keysInt underlying75 U U U X9 (u:=(.agg #[intV 0,intV 0,intV 0,strV []])) (g:=false) (YI Zt) (Yy Zt))⟩) (.cons (.inl ⟨rfl,(Qm U QM (by first | assumption | exact j3.cell 0 U U | exact j3.cell 1 U U | exact j3.cell 2 U U))⟩) (.cons (.inl ⟨rfl,(Qm U ZD (by first | assumption | exact j3.cell 0 U U | exact j3.cell 1 U U | exact j3.cell 2 U U))⟩) .nil))) ?_
  refine Xl U U U U U U ?_
  first | (refine Q9 j3 U U Zc U (by first | rfl | (simp [QV,Value.oneCell'];done) | assumption | exact hone) (i:=0) U (by first | decide | exact Q7 U | (simp;done) | omega) ?_) | (refine Q9 j3 U U Zc U (by first | rfl | (simp [QV,Value.oneCell'];done) | assumption | exact hone) (i:=1) U (by first | decide | exact Q7 U | (simp;done) | omega) ?_) | (refine Q9 j3 U U Zc U (by first | rfl | (simp [QV,Value.oneCell'];done) | assumption | exact hone) (i:=2) U (by first | decide | exact Q7 U | (simp;done) | omega) ?_)
  intro w4 j5; dsimp only[List.set]at j5
  refine Zj (Xq (by kernel_rfl)) ?_
  refine Zo U U U (VC.nil (Qc (Qh [0,3,4,5,6] U (Qe (Qe (Qa (Qb U U (QU U U (Qf (Qc (QS U (fun h6=> ?_) (fun h6=> ?_))))))))))))
  ·refine Qe (Qe (Qa (Qo U QM (by first | assumption | exact j5.cell 0 U U | exact j5.cell 1 U U | exact j5.cell 2 U U) U ?_)))
   refine Xc U U U (Qf (Qc (Qt U (fun h7=> ?_) (fun h7=> ?_))))
   ·exact Qe (Qa (Qd U U (Qf (Qc (Qv (Qr (Qr (QR (.inr U) U U (⟨_,rfl, by rw[if_pos (by omega)],QW (j5.pick [2,3,4,5,6,7,8,9,10] U)⟩)))))))))
   exact Qs (Qc (Qe (Qa (Qd U U (Qf (Qc (Qv (Qr (QR (.inr U) U U (⟨_,rfl, by rw[if_neg (by omega)],QW (j5.pick [2,3,4,5,6,7,8,9,10] U)⟩))))))))))
  exact absurd h6 (by simp)
 | some x=>
  obtain⟨hid1,_,hr1,hr2,_,hplc⟩:=hI.ent Zt
  dsimp only
  refine Qn func97 U ntmps97 U ?_
  refine Qe (Qa (XV hS U U U ?_))
  intro b1 w1 j1
  refine Qd U U (Qf (Qc (Qe ?_)))
  have j2:=j1.drew
  refine QH [0,1,2,3,4,5,6,7,8,9,10,11] [9,10] ZW (by kernel_rfl) ?_
  refine QJ U U U (Xd U U U (QP U U U XR (Q3 U U U (Qm U ZD (by first | assumption | exact j2.cell 0 U U | exact j2.cell 1 U U)) ?_)))
  refine Q3 U U U (Qm U QM (by first | assumption | exact j2.cell 0 U U | exact j2.cell 1 U U)) ?_
  refine Q3 U U U (ZK (k:=id) 2 j2 keysInt underlying75 U U U X9 (u:=(.agg #[intV x.refs,intV x.place,intV x.at_,strV (VM x)])) (g:=true) (WT Zt) (Yx Zt)) (QJ U U U (Wj U U U U (Wj U U U U (Xl U U U U U U ?_))))
  refine Xa j2 X9 U U ?_
  intro b3 w3 j3
  refine XH (.cons (.inl ⟨rfl,(ZK (k:=id) 3 j3 keysInt underlying75 U U U X9 (u:=(.agg #[intV x.refs,intV x.place,intV x.at_,strV (VM x)])) (g:=true) (WT Zt) (Yx Zt))⟩) (.cons (.inl ⟨rfl,(Qm U QM (by first | assumption | exact j3.cell 0 U U | exact j3.cell 1 U U | exact j3.cell 2 U U))⟩) (.cons (.inl ⟨rfl,(Qm U ZD (by first | assumption | exact j3.cell 0 U U | exact j3.cell 1 U U | exact j3.cell 2 U U))⟩) .nil))) ?_
  refine Xl U U U U U U ?_
  first | (refine Q9 j3 U U Zc U (by first | rfl | (simp [QV,Value.oneCell'];done) | assumption | exact hone) (i:=0) U (by first | decide | exact Q7 U | (simp;done) | omega) ?_) | (refine Q9 j3 U U Zc U (by first | rfl | (simp [QV,Value.oneCell'];done) | assumption | exact hone) (i:=1) U (by first | decide | exact Q7 U | (simp;done) | omega) ?_) | (refine Q9 j3 U U Zc U (by first | rfl | (simp [QV,Value.oneCell'];done) | assumption | exact hone) (i:=2) U (by first | decide | exact Q7 U | (simp;done) | omega) ?_)
  intro w4 j5; dsimp only[List.set]at j5
  refine Zj (Xq (by kernel_rfl)) ?_
  refine Zo U U U (VC.nil (Qc (Qh [0,3,4,5,6] U (Qe (Qe (Qa (Qb U U (QU U U (Qf (Qc (QS U (fun h6=> ?_) (fun h6=> ?_))))))))))))
  ·exact absurd h6 (by simp)
  refine Qs (Qc (Qe (Qe (Qa (Qg U WY U (Qo U QM (by first | assumption | exact j5.cell 0 U U | exact j5.cell 1 U U | exact j5.cell 2 U U) U ?_))))))
  refine Ka U U (by omega) (by omega) U ?_
  refine Qg U WY U ?_
  first | (refine Qx j5 U U Js (by first | rfl | assumption | exact j5.own_one 5 U | exact j5.own_one 9 U) (i:=0) U (by first | decide | exact Q7 U | (simp;done) | omega) ?_) | (refine Qx j5 U U Js (by first | rfl | assumption | exact j5.own_one 5 U | exact j5.own_one 9 U) (i:=1) U (by first | decide | exact Q7 U | (simp;done) | omega) ?_) | (refine Qx j5 U U Js (by first | rfl | assumption | exact j5.own_one 5 U | exact j5.own_one 9 U) (i:=2) U (by first | decide | exact Q7 U | (simp;done) | omega) ?_)
  intro w7 j8; dsimp only[List.set]at j8
  refine Qf (Qc (Qh [0,3,4,5] U (Qe (Qa (Qg U WY U (Qo U QM (by first | assumption | exact j8.cell 0 U U | exact j8.cell 1 U U | exact j8.cell 2 U U) U ?_))))))
  refine J6 U U U (Qf (Qc (Qt U (fun h9=> ?_) (fun h9=> ?_))))
  ·refine Qe ?_
   have j10:=j8.drew
   refine QH [0,1,2,3,4,5,6] [6] ZW (by kernel_rfl) ?_
   refine QJ U U U (Xd U U U (QP U U U XR (Q3 U U U (Qm U ZD (by first | assumption | exact j10.cell 0 U U | exact j10.cell 1 U U | exact j10.cell 2 U U)) ?_)))
   refine Q3 U U U (Qm U QM (by first | assumption | exact j10.cell 0 U U | exact j10.cell 1 U U | exact j10.cell 2 U U)) ?_
   refine Q3 U U U (X3 U Ag Zc (by first | exact j10.blk 0 U | exact j10.blk 1 U | exact j10.blk 2 U) (by first | decide | exact Q7 U | (simp;done) | omega) U) ?_
   refine Xl U U U U U U ?_
   refine Xi (k:=id) (v:=NX {x with refs:=x.refs -1}) 3 j10 keysInt underlying75 U U U U ?_
   intro w11 hS11a; dsimp only[List.set]at hS11a; have j11:=hS11a; rw[Vz]at j11
   refine Zj (Xq (by kernel_rfl)) ?_
   exact VC.nil (Qc (Qh [0,3,4,5] U (Qe (Qa (Qd U U (Qf (Qc (Qv (Qr (QR (.inr U) U U (⟨_,rfl,rfl,.inl ⟨by omega,QW (S:={S with all:=up S.all id (some {x with refs:=x.refs -1})}) (j11.pick [2,3,4,5,6,7,8,9,10] U)⟩⟩)))))))))))
  refine Qs (Qc (Qe (Qe (Qa (Qg U Yt U (Qo U QM (by first | assumption | exact j8.cell 0 U U | exact j8.cell 1 U U | exact j8.cell 2 U U) U ?_))))))
  refine Qf (Qc (Qw (Qe (Qa (Xc U U U (Qd U U (Qf (Qc (Qh [0,3,4,5,34,35] U (Qt U (fun h12=> ?_) (fun h12=> ?_)))))))))))
  ·have hp1:x.place=1:=h12
   refine Qa (Qb U U (Qg U JX U (Qo U QM (by first | assumption | exact j8.cell 0 U U | exact j8.cell 1 U U | exact j8.cell 2 U U) U ?_)))
   have j13:=QW (j8.pick [2,3,4,5,6,7,8,9,0,1,10] U)
   refine Q0 MI U (Rg (j13.sp [0] U) (f:=x.at_) (b0:=x.pg) (hI.frc (fun q=>q) Zt hp1) (by show S.ck.length=S.fr.length; rw[hI.ck,List.length_map]) (by have :=hI.tln;omega)) U ?_
   rintro _ w14 ⟨rfl,j14⟩
   replace j14:=j14.jn U U
   obtain⟨ba,bi,fp,sp,kp,ac,cc,at2,ct,hSo15⟩:=XX (j14.pick [0,1,2,3] rfl)
   refine Qf (Ql (Qc (Qe ?_)))
   have j16:=hSo15.drew
   refine QH [0,1,2,3,4,5] [5] ZW (by kernel_rfl) ?_
   refine QJ U U U (Xd U U U (QP U U U XR (Q3 U U U (Qm U ZD (by first | assumption | exact j16.cell 0 U U | exact j16.cell 8 U U | exact j16.cell 9 U U)) ?_)))
   refine Q3 U U U (Qm U QM (by first | assumption | exact j16.cell 0 U U | exact j16.cell 8 U U | exact j16.cell 9 U U)) ?_
   refine Xl U U U U U U ?_
   refine WG (k:=id) 1 j16 keysInt underlying75 U U U U ?_
   intro w17 j17; dsimp only[List.set]at j17; rw[NO]at j17
   refine Zj (Xq (by kernel_rfl)) ?_
   exact VC.nil (Qc (Qh [4] U (Qe (Qa (Qd U U (Qf (Qc (Qv (QR (.inr U) U U (⟨_,rfl,rfl,.inr ⟨by omega,_,SY hI Zt hp1,QW (S:={offFrame S x.at_ with all:=up S.all id none}) (j17.pick [0,1,2,3,4,5,6,7,10] U)⟩⟩))))))))))
  refine Qe (Qa (Xc U U U (Qd U U (Qf (Qc (Qt U (fun h18=> ?_) (fun h18=> ?_)))))))
  ·have hp2:x.place=2:=h18
   refine Qa (Qb U U (Qb U U (Qi U U (Qg U WR U (Qo U Yw (by first | assumption | exact j8.cell 0 U U | exact j8.cell 1 U U | exact j8.cell 2 U U) U ?_)))))
   refine Q0 Gw U (Vb (j8.sp [] U) (Ent.starL (YD (C:=inC) (l:=S.cache) (by have :=hI.cln;omega)) 5 U) (by have :=hI.cln;omega)) U ?_
   rintro _ w19 j19
   replace j19:=j19.jn U U
   have h1n:=j19.own_one 0 U
   refine Zv U U ?_
   refine Q0 Gz U (Gt (eqU _ id) (j19.sp [0,2] U) (by have :=hI.cln;omega)) U ?_
   rintro _ w20 j20
   replace j20:=j20.jn U U
   have h1d:=j20.own_one 0 U
   refine Qi U U (Qg U WR U ?_)
   first | (refine Qx j20 U U ZM (by first | rfl | assumption | exact j20.own_one 0 U | exact j20.own_one 6 U | exact j20.own_one 10 U) (i:=1) U (by first | decide | exact Q7 U | (simp;done) | omega) ?_) | (refine Qx j20 U U ZM (by first | rfl | assumption | exact j20.own_one 0 U | exact j20.own_one 6 U | exact j20.own_one 10 U) (i:=2) U (by first | decide | exact Q7 U | (simp;done) | omega) ?_) | (refine Qx j20 U U ZM (by first | rfl | assumption | exact j20.own_one 0 U | exact j20.own_one 6 U | exact j20.own_one 10 U) (i:=3) U (by first | decide | exact Q7 U | (simp;done) | omega) ?_)
   intro w21 j22; dsimp only[List.set]at j22
   refine Qf (Ql (Qc (Qh [0,3,4] U (Qe ?_))))
   have j23:=j22.drew
   refine QH [0,1,2,3,4,5] [5] ZW (by kernel_rfl) ?_
   refine QJ U U U (Xd U U U (QP U U U XR (Q3 U U U (Qm U ZD (by first | assumption | exact j23.cell 1 U U | exact j23.cell 2 U U | exact j23.cell 3 U U)) ?_)))
   refine Q3 U U U (Qm U QM (by first | assumption | exact j23.cell 1 U U | exact j23.cell 2 U U | exact j23.cell 3 U U)) ?_
   refine Xl U U U U U U ?_
   refine WG (k:=id) 4 j23 keysInt underlying75 U U U U ?_
   intro w24 j24; dsimp only[List.set]at j24; rw[NO]at j24
   refine Zj (Xq (by kernel_rfl)) ?_
   exact VC.nil (Qc (Qe (Qa (Qd U U (Qf (Qc (Qv (QR (.inr U) U U (⟨_,rfl,rfl,.inr ⟨by omega,_,SZ hI Zt hp2,QW (S:={S with cache:=S.cache.filter (fun n=> !decide (n=id)),all:=up S.all id none}) (j24.pick [3,4,5,0,7,8,9,10,11] U)⟩⟩)))))))))
  refine Qe (Qa (Xc U U U (Qd U U (Qf (Qc (Qt U (fun h25=> ?_) (fun h25=> ?_)))))))
  ·have hp3:x.place=3:=h25
   have j26:=j8.drew
   refine QH [0,1,2,3,4,5,6] [6] ZW (by kernel_rfl) ?_
   refine QJ U U U (Xd U U U (QP U U U Hv (Q3 U U U (Qm U RG (by first | assumption | exact j26.cell 0 U U | exact j26.cell 1 U U | exact j26.cell 2 U U)) ?_)))
   refine QP U U U JX (Q3 U U U (Qm U QM (by first | assumption | exact j26.cell 0 U U | exact j26.cell 1 U U | exact j26.cell 2 U U)) ?_)
   refine Xl U U U U U U ?_
   refine Q0 MH U (Re (j26.sp [7] U) x.at_) U ?_
   rintro _ w27 ⟨rfl,j27⟩
   replace j27:=j27.jn U U
   rw[(Uw hI (fun q=>q) Zt hp3).2.2]at j27
   refine XH (Xq (by kernel_rfl)) ?_
   refine VC.nil (Ql (Qc (Qh [0,3,4] U (Qe ?_))))
   have j28:=j27.drew
   refine QH [0,1,2,3,4,5] [5] ZW (by kernel_rfl) ?_
   refine QJ U U U (Xd U U U (QP U U U XR (Q3 U U U (Qm U ZD (by first | assumption | exact j28.cell 1 U U | exact j28.cell 2 U U | exact j28.cell 3 U U)) ?_)))
   refine Q3 U U U (Qm U QM (by first | assumption | exact j28.cell 1 U U | exact j28.cell 2 U U | exact j28.cell 3 U U)) ?_
   refine Xl U U U U U U ?_
   refine WG (k:=id) 4 j28 keysInt underlying75 U U U U ?_
   intro w29 j29; dsimp only[List.set]at j29; rw[NO]at j29
   refine Zj (Xq (by kernel_rfl)) ?_
   exact VC.nil (Qc (Qe (Qa (Qd U U (Qf (Qc (Qv (QR (.inr U) U U (⟨_,rfl,rfl,.inr ⟨by omega,_,Et hI Zt hp3,QW (S:={S with sl:=S.sl.set x.at_.toNat [],all:=up S.all id none}) (j29.pick [3,4,5,6,7,0,8,9,10] U)⟩⟩)))))))))
  exact absurd hplc (by omega)
theorem Dn {w:World} {p:Nat} {S:SS} {F:Th} (hS:Sat w [Yn p S,F]) {E:Int→Prop} {N:Nat} (hI:ShI E N S) (id:Int) (hE: ¬E id):
    Calls prog 55 #[ptrV p 0,intV id] w (Ret fun v w'=>v=strV (Yo S id)∧Sat w' [Yn p S,F]):= by
 obtain⟨ba,bi,fp,sp,kp,ac,cc,at2,ct,hS⟩:=XX hS
 cases Zt:S.all id with
 | none=>
  refine Qn func55 U ntmps55 U ?_
  refine Qe (Qa (Qd U U (Qf (Qc (Qe (Qa (Qb U U (Qi U U (Qg U XR U (Qo U ZD (by first | assumption | exact hS.cell 0 U U) U ?_))))))))))
  refine Qb U U (Xj (k:=id) 1 hS keysInt underlying75 U U U X9 (u:=(.agg #[intV 0,intV 0,intV 0,strV []])) (g:=false) (YI Zt) (Yy Zt) U (Qb U U (Qp U U U (Qp U U U (Xa hS X9 U U ?_)))))
  intro b1 w1 j1
  first | (refine Q9 j1 U U Zc U (by first | rfl | (simp [QV,Value.oneCell'];done) | assumption | exact hone) (i:=0) U (by first | decide | exact Q7 U | (simp;done) | omega) ?_) | (refine Q9 j1 U U Zc U (by first | rfl | (simp [QV,Value.oneCell'];done) | assumption | exact hone) (i:=1) U (by first | decide | exact Q7 U | (simp;done) | omega) ?_)
  intro w2 j3; dsimp only[List.set]at j3
  refine Qd U U (Qf (Qc (Qh [1,0,4,5,6] U (Qe (Qw (Qe (Qa (Qb U U (Xc U U U (Qd U U (Qf (Qc (Qt U (fun h4=> ?_) (fun h4=> ?_))))))))))))))
  ·refine Qe (Qa (Q0 EE U (Cn (j3.sp [] U) zer (by decide)) U ?_))
   rintro _ w5 ⟨rfl,j5⟩
   replace j5:=j5.jn U U
   refine Qd U U (Qf (Qc (Qv (Q1 (Qr (QR (.inr U) U U ?_))))))
   exact⟨_,rfl, by unfold Yo; rw[Zt]; dsimp only; rw[if_pos (by omega)],QW (j5.pick [1,2,3,4,5,6,7,8,9] U)⟩
  refine Qe (Qa (Qb U U (QU U U (Qd U U (Qf (Qc (Qh [0,4,5,24] U (QS U (fun h6=> ?_) (fun h6=> ?_)))))))))
  ·refine Qe (Qa (Qd U U (Qf (Qc (Qv (Q1 (Qr (QR (.inr U) U U ?_))))))))
   exact⟨_,rfl, by unfold Yo; rw[Zt]; dsimp only; rw[if_neg (by omega)],QW (j3.pick [1,2,3,4,5,6,7,8,9] U)⟩
  exact absurd h6 (by simp)
 | some x=>
  obtain⟨hid1,_,hr1,hr2,_,hplc⟩:=hI.ent Zt
  refine Qn func55 U ntmps55 U ?_
  refine Qe (Qa (Qd U U (Qf (Qc (Qe (Qa (Qb U U (Qi U U (Qg U XR U (Qo U ZD (by first | assumption | exact hS.cell 0 U U) U ?_))))))))))
  refine Qb U U (Xj (k:=id) 1 hS keysInt underlying75 U U U X9 (u:=(.agg #[intV x.refs,intV x.place,intV x.at_,strV (VM x)])) (g:=true) (WT Zt) (Yx Zt) U (Qb U U (Qp U U U (Qp U U U (Xa hS X9 U U ?_)))))
  intro b1 w1 j1
  first | (refine Q9 j1 U U Zc U (by first | rfl | (simp [QV,Value.oneCell'];done) | assumption | exact hone) (i:=0) U (by first | decide | exact Q7 U | (simp;done) | omega) ?_) | (refine Q9 j1 U U Zc U (by first | rfl | (simp [QV,Value.oneCell'];done) | assumption | exact hone) (i:=1) U (by first | decide | exact Q7 U | (simp;done) | omega) ?_)
  intro w2 j3; dsimp only[List.set]at j3
  refine Qd U U (Qf (Qc (Qh [1,0,4,5,6] U (Qe (Qw (Qe (Qa (Qb U U (Xc U U U (Qd U U (Qf (Qc (Qt U (fun h4=> ?_) (fun h4=> ?_))))))))))))))
  ·exact absurd h4 (by omega)
  refine Qe (Qa (Qb U U (QU U U (Qd U U (Qf (Qc (Qh [0,4,5,24] U (QS U (fun h5=> ?_) (fun h5=> ?_)))))))))
  ·exact absurd h5 (by simp)
  refine Qe (Qa (Qg U Yt U (Qo U QM (by first | assumption | exact j3.cell 0 U U | exact j3.cell 1 U U) U ?_)))
  refine Xc U U U (Qd U U (Qf (Qc (Qt U (fun h6=> ?_) (fun h6=> ?_)))))
  ·have hp1:x.place=1:=h6
   refine Qe ?_
   have j7:=j3.drew
   refine QH [0,1,2,3,4,5,6,7] [6] ZW (by kernel_rfl) ?_
   refine QJ U U U (Xd U U U (QP U U U Jl (Q3 U U U (Qm U HM (by first | assumption | exact j7.cell 0 U U | exact j7.cell 1 U U)) ?_)))
   refine QP U U U JX (Q3 U U U (Qm U QM (by first | assumption | exact j7.cell 0 U U | exact j7.cell 1 U U)) ?_)
   refine Xl U U U U U U ?_
   refine Q0 NB U (Rv (j7.sp [5] U) x.at_) U ?_
   rintro _ w8 ⟨rfl,j8⟩
   replace j8:=j8.jn U U
   rw[hI.frc hE Zt hp1]
   dsimp only[Option.getD_some]
   refine XH (Xq (by kernel_rfl)) ?_
   refine Zo U U U (VC.nil (Qc (Qh [0,5,4] U (Qv (Q1 (Qr (QR (.inr U) U U ?_)))))))
   exact⟨_,rfl, by unfold Yo; rw[Zt],QW (j8.pick [2,3,4,5,0,6,7,8,9] U)⟩
  refine Qe (Qa (Qg U Yt U (Qo U QM (by first | assumption | exact j3.cell 0 U U | exact j3.cell 1 U U) U ?_)))
  refine Xc U U U (Qd U U (Qf (Qc (Qh [0,4,5,38] U (Qt U (fun h9=> ?_) (fun h9=> ?_))))))
  ·have hp2:x.place=2:=h9
   refine Qe (Qa (Qg U Bt U (Qo U Yd (by first | assumption | exact j3.cell 0 U U | exact j3.cell 1 U U) U ?_)))
   obtain⟨fy,hfy⟩:=Option.ne_none_iff_exists'.1 (hI.pck hE Zt hp2).2
   have hfme:VM x=fy:= by unfold VM fm; rw[if_pos hp2,hfy];rfl
   refine Q0 NA U (Rb (j3.sp [] U) (hI.ent Zt).2.2.2.2.1 (by rw[hfme]; exact hfy)) U ?_
   rintro _ w10 ⟨rfl,j10⟩
   replace j10:=j10.jn U U
   refine Qb U U (Qp U U U (Qp U U U (Qd U U (Qd U U (Qf (Qc (Qh [0,4,5,7] U (Qe (Qa (Qb U U (Qd U U (Qf (Qc (Qv (Q1 (Qr (QR (.inr U) U U ?_)))))))))))))))))
   exact⟨_,rfl, by unfold Yo; rw[Zt],QW (j10.pick [1,2,3,4,5,6,7,8,9] U)⟩
  refine Qs (Ql (Qc (Qe ?_)))
  have hp3:x.place=3:= by omega
  have j11:=j3.drew
  refine QH [0,1,2,3,4,5,6,7,8,9,10,11] [6] ZW (by kernel_rfl) ?_
  refine QJ U U U (Xd U U U (QP U U U Hv (Q3 U U U (Qm U RG (by first | assumption | exact j11.cell 0 U U | exact j11.cell 1 U U)) ?_)))
  refine QP U U U JX (Q3 U U U (Qm U QM (by first | assumption | exact j11.cell 0 U U | exact j11.cell 1 U U)) ?_)
  refine Xl U U U U U U ?_
  refine Q0 ED U (Tg (j11.sp [6] U) x.at_) U ?_
  rintro _ w12 ⟨eg,rfl,j12⟩
  replace j12:=j12.jn U U
  rw[(Uw hI hE Zt hp3).2.1]
  refine XH (Xq (by kernel_rfl)) ?_
  refine QJ U U U (Wj U U U U (Wj U U U U (Zo U U U (Zo U U U (VC.nil (Qc (Qh [4,9] U (Qe (Qa (Qb U U (Qd U U (Qf (Qc (Qv (QR (.inr U) U U ?_)))))))))))))))
  exact⟨_,rfl, by unfold Yo; rw[Zt],QW (j12.pick [2,3,4,5,6,0,7,8,9] U)⟩
def Ss (S:SS) (id at_:Int):UInt8:= if 0≤at_∧at_<64 then(Yo S id).getD at_.toNat 0 else 0
theorem Lv {E:Int→Prop} {N:Nat} {S:SS} (hI:ShI E N S) (id:Int):(Yo S id).length=64∨Yo S id=[]:= by
  unfold Yo
  cases Zt:S.all id with
  | none=> dsimp only;split;(left;decide);right;rfl
  | some x=> exact .inl (hI.ent Zt).2.2.2.2.1
theorem Sr {w:World} {p:Nat} {S:SS} {F:Th} (hS:Sat w [Yn p S,F]) {N:Nat} (hI:ShI VX N S) (hN:N≤80000000000) (id at_:Int):
    Calls prog 79 #[ptrV p 0,intV id,intV at_] w (Ret fun v w'=>v=Y3 (Ss S id at_)∧Sat w' [Yn p S,F]):= by
 refine Qn func79 U ntmps79 U ?_
 refine Qe (Qa (Qd U U (Qf (Qc (Qe (Qe (Qa (Qb U U (Xn U U U (Qb U U (QZ 10 U (fun h1=> ?_) (fun h1=> ?_))))))))))))
 ·refine Qk U U (det h1) U (Qk U U (det h1) U (QN U (det h1) U U (Qf (Qc (XD U (Qe (Qa (Qd U U (Qf (Qc (Qv (Qr (QR (.inr U) U U ?_)))))))))))))
  exact⟨_,rfl, by unfold Ss; rw[if_neg (by omega)];rfl,hS.pick [0,1] U⟩
 refine Qj U U (QF h1) (Qb U U (Qj U U (QF h1) (Jr U U U (QC U (QF h1) U U (Qf (Qc (Qt U (fun h2=> ?_) (fun h2=> ?_))))))))
 ·refine Qe (Qa (Qd U U (Qf (Qc (Qv (Qr (QR (.inr U) U U ?_)))))))
  exact⟨_,rfl, by unfold Ss; rw[if_neg (by omega)];rfl,hS.pick [0,1] U⟩
 refine Qs (Qc (Qe (Qe (Qa (Qb U U (Qb U U (Q0 Hk U (Dn (hS.sp [0] U) hI id (fun q=>q)) U ?_)))))))
 rintro _ w3 ⟨rfl,j3⟩
 replace j3:=j3.jn U U
 refine Qd U U (Qf (Qc (Qh [2,6,7] U (Qe (Qa (Qb U U (DZ U U U (Qf (Qc (Qt U (fun h4=> ?_) (fun h4=> ?_)))))))))))
 ·have hpn:Yo S id≠[]:=h4
  obtain⟨cb,hcb⟩: ∃c,(Yo S id)[at_.toNat]? =some c:=⟨_,Zd (by have :=(Lv hI id).resolve_right hpn;omega)⟩
  refine Qe (Qa (Qb U U (Qb U U (YL at_.toNat underlying9 U U (by omega) hcb U ?_))))
  refine Qd U U (Qf (Qc (Qv (Qr (QR (.inr U) U U ?_)))))
  exact⟨_,rfl, by unfold Ss; rw[if_pos (by omega),List.getD_eq_getElem?_getD,hcb];rfl,j3.pick [0,1] U⟩
 have hpn: ¬Yo S id≠[]:=h4
 refine Qs (Qc (Qe (Qa (Qd U U (Qf (Qc (Qv (QR (.inr U) U U ?_))))))))
 exact⟨_,rfl, by unfold Ss; rw[if_pos (by omega), show Yo S id=[] from Decidable.not_not.1 hpn];rfl,j3.pick [0,1] U⟩
def Vm (count slots budget:Int):SS:=⟨fun _=>none, fun _=>none,[],List.replicate (min (max count 1) 256).toNat none,List.replicate (min (max slots 0) 4096).toNat [],List.replicate (min (max count 1) 256).toNat false,min (max slots 0) 4096,max budget 0,1,[]⟩
theorem L4 (count slots budget:Int):ShI VX 0 (Vm count slots budget) where
  ck:= by simp [Vm]
  fr1:= by simp [Vm];omega
  fr2:= by simp [Vm];omega
  slo:= by simp [Vm];omega
  sl2:= by simp [Vm];omega
  bud:= by simp [Vm];omega
  nx1:= by simp [Vm]
  nx2:= by simp [Vm]
  ent:= fun h=> by cases h
  frm:= fun f j=>⟨fun h=>(by cases h), fun ⟨_,x,h,_⟩=>(by cases h)⟩
  frc:= fun _ h=> by cases h
  fru:= fun {f b} h=> by
    obtain⟨_,h⟩:=Yi h
    have :(Vm count slots budget).fr=List.replicate (min (max count 1) 256).toNat none:=rfl
    rw[this,List.getElem?_replicate]at h
    split at h
    · cases h
    · cases h
  pck:= fun _ h=> by cases h
  cch:= fun h=> by cases h
  nod:=List.nodup_nil
  sum:= by show((0:Nat):Int)≤max budget 0;omega
  slt:= fun _ h=> by cases h
  slu:= fun {k p} h hp=> by
    have :(Vm count slots budget).sl=List.replicate (min (max slots 0) 4096).toNat []:=rfl
    rw[this,List.getElem?_replicate]at h
    split at h
    · cases h; exact absurd U hp
    · cases h
  sli:= fun _ _ h=> by cases h
  cln:=Nat.le_refl _
  tln:=Nat.le_refl _
theorem aG_nil:(fun _=>none:Int→Option Value)=aG (fun _=>none):=rfl
theorem FZ {w:World} {F:Th} (hS:Sat w [F]) (count slots budget:Int):
    Calls prog 26 #[intV count,intV slots,intV budget] w (Ret fun v w'=> ∃p,v=ptrV p 0∧Sat w' [Yn p (Vm count slots budget),F]):= by
 refine Qn func26 U ntmps26 U ?_
 refine Qe (Qa (Qd U U (Qf (Qc (Qe (Qa (Qb U U (Ho U U U (Kd U U U (Qb U U (Ho U U U (Kd U U U (Qd U U (Qd U U (Qf (Qc (Qe (Qa (Zg QX hS U ?_)))))))))))))))))))
 intro mb1 w1 j1; rw[aG_nil]at j1
 refine Zg QX j1 U ?_
 intro mb2 w2 j2; rw[Kt]at j2
 refine Qb U U (Q0 cal_42 U (LX (j2.sp [] U) (min (max count 1) 256)) U ?_)
 rintro _ w3 ⟨fpn,rfl,j3⟩
 replace j3:=j3.jn U U
 refine Qb U U (Q0 cal_43 U (FQ (j3.sp [] U) (min (max slots 0) 4096)) U ?_)
 rintro _ w4 ⟨spn,rfl,j4⟩
 replace j4:=j4.jn U U
 refine Qb U U (Q0 cal_44 U (E4 (j4.sp [] U) (min (max count 1) 256) (by omega)) U ?_)
 rintro _ w5 ⟨kpn,rfl,j5⟩
 replace j5:=j5.jn U U
 refine Qb U U (Qb U U (Ho U U U (Zw U Uo asz_84 zr_84 U U (XV j5 U U U ?_))))
 intro bp wbp hSbp
 refine Qd U U (Qf (Qc (Qh [6] U (Qv (QR (.inr U) U U ?_)))))
 have hz:=(hSbp.pick [0,5,4,3,2,1,6] U).row_nil inC
 have hz2:=(hz.reorder [1,2,3,0,4,5,6,7] U).row_nil inC
 rw[show(min (max (min (max count 1) 256) 0) 4096).toNat=(min (max count 1) 256).toNat by omega]at hz2
 rw[show(max 0 (min (min (max slots 0) 4096) 4096)).toNat=(min (max slots 0) 4096).toNat by omega]at hz2
 exact⟨_,U,_,U,QW (S:=Vm count slots budget) (hz2.reorder [1,2,3,4,5,6,7,0,8] U)⟩
