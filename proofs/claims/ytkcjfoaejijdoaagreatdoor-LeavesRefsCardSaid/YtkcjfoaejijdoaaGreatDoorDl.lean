/- slices.IndexFunc, DeleteFunc -/
import Derived.Test.YtkcjfoaejijdoaaGreatDoorFw
import Derived.Test.YtkcjfoaejijdoaaGreatDoorSh7
set_option linter.unusedVariables false
set_option maxRecDepth 100000
set_option maxHeartbeats 80000000000
namespace Go.Proofs.YtkcjfoaejijdoaaGreatDoor
open Go.RowKit M
def EqF (P:Program) (g:Nat) (c:Nat) (id:Int):Prop:=QE P g=true∧ ∀(n:Int) (w:World) (X:Th),Sat w [Q3 c [intV id],X]→Calls P g #[intV n,ptrV c 0] w (Ret fun v w'=>v= .bool (decide (n=id))∧Sat w' [Q3 c [intV id],X])
theorem ixI_sp {w:World} {g c:Nat} {id:Int} {F:Th} (hE:EqF Tryz.prog g c id) (hS:Sat w [Q3 c [intV id],F]) {lv:Value} {l:List Int} (hL:Ent F (RdL inC lv l)):
    Calls Tryz.prog 85 #[lv,.func (.func g) #[] #[ptrV c 0]] w (Ret fun v w'=>(v=intV (-1)∧(∀y∈l,y≠id)∧Sat w' [Q3 c [intV id],F])∨(∃k:Nat,v=intV (k:Int)∧l[k]? =some id∧(∀j y,j<k→l[j]? =some y→y≠id)∧Sat w' [Q3 c [intV id],F])):= by
 obtain⟨ao,cap,rfl,hmax⟩:=(hL.sat hS 1 rfl).shape
 refine Qm Tryz.func85 U Tryz.ntmps85 U ?_
 refine Qd (Qa (Qe U U (Qf (Qc (Qd (Qd (Qa (Qb U U (Xr Tryz.underlying47 U U (Qb U U (Qf (Qc (Qv ?_)))))))))))))
 refine Xb (fun K0 E0 W0=> ∃(i:Nat),K0=l.length -i∧E0=[(0,.slice ao l.length cap),(1,.func (.func g) #[] #[ptrV c 0]),(7,intV (l.length:Int)),(8,intV (i:Int))]∧Sat W0 [Q3 c [intV id],F]∧(i≤l.length)∧(∀j y,j<i→l[j]? =some y→y≠id)) (L0:=[(0,_),(1,_),(7,_),(8,_)]) (l.length -0) (VN U U U U) ⟨0,rfl,rfl,hS, by omega, by omega⟩ ?_
 rintro _ _ w1 ⟨i,rfl,rfl,hS1,hi,hno⟩
 refine Qd (Qa (Xg U U U (Qf (Qc (Qd (Qs U (fun h2=> ?_) (fun h2=> ?_)))))))
 ·obtain⟨x,hx⟩: ∃x,l[i]? =some x:=⟨_,Zi (by omega)⟩
  obtain⟨b,off,rfl,_⟩:=(hL.sat hS1 1 rfl).get hx
  refine Qt (Qc (Qd (Qv (Qd (Qa (Qb U U (Qe U U (Qf (Qc (Qd (Qa (Qb U U (Qb U U (Qb U U (Zq i U U (by first | rfl | omega) ((XR hx).1) JQ U ?_)))))))))))))))
  refine Qn U QL (((hL.sat hS1 1 U).at_ hx) 0 _ U) U (Y7 U hE.1 U (hE.2 _ _ _ (hS1.sp [0] U)) U ?_)
  rintro e w3 ⟨_,rfl,rfl,hS3⟩; refine⟨_,rfl, ?_⟩
  replace hS3:=hS3.jn U U
  clear hS1
  refine Qf (Qc (Qh [8,7,1,0,5,16] U (Qs U (fun h4=> ?_) (fun h4=> ?_))))
  ·have heq:x=id:=h4
   refine Qd (Qa (Qb U U (Qe U U (Qf (Qc (Qu (Qz (Qp (Qp (Qz (Qp (QR (.inr U) U U ?_))))))))))))
   exact⟨_,rfl,.inr ⟨i,rfl, by rw[hx,heq],hno,hS3.pick [0,1] U⟩⟩
  have hne:x≠id:=h4
  refine Qt (Qk (Qc (Qa (QI U U (by omega) (by omega) U ?_))))
  refine Qb U U (Qf ?_)
  exact Q0 (L1:=[(0,_),(1,_),(7,_),(8,intV ((i+1:Nat):Int))]) (VN U U U U) (k1:=l.length -(i+1)) (by omega) ⟨i+1,rfl,rfl,hS3.pick [0,1] U, by omega, fun j y hj hq=> by by_cases e:j=i;(subst e; rw[hx]at hq; cases hq; exact hne); exact hno j y (by omega) hq⟩
 refine QM (Qo (Qo (Qx (Qc (Qd (Qa (Qe U U (Qf (Qc (Qu (QR (.inr U) U U ?_)))))))))))
 exact⟨_,rfl,.inl ⟨rfl, fun y hm=> by obtain⟨j,hj⟩:=List.mem_iff_getElem?.1 hm; exact hno j y (by have :=(XR hj).1;omega) hj,hS1.pick [0,1] rfl⟩⟩
theorem T7 {w:World} {g c:Nat} {id:Int} {F:Th} (hE:EqF Tryz.prog g c id) {sv:Value} {l:List Int} (hS:Sat w [rowT inC sv l,Q3 c [intV id],F]) (hln:l.length≤100000000000):
    Calls Tryz.prog 153 #[sv,.func (.func g) #[] #[ptrV c 0]] w (Ret fun v w'=>Sat w' [rowT inC v (l.filter (fun n=> !decide (n=id))),Q3 c [intV id],F]):= by
 obtain⟨ao,cap,rfl,hcap0,_⟩:=hS.own_shape 0 rfl
 refine Qm Tryz.func153 U Tryz.ntmps153 U ?_
 refine Qd (Qa (Qe U U (Qf (Qc (Qd (Qa (Qb U U (Qb U U (XU OH U (ixI_sp hE (hS.sp [1] U) (l:=l) (Ent.starL (HE (C:=inC) (l:=l) (by omega)) 0 U)) U ?_)))))))))
 rintro e w1 ⟨_,rfl,(⟨rfl,hno,hS1⟩ | ⟨k,rfl,hk,hno,hS1⟩)⟩
 ·refine⟨_,rfl, ?_⟩
  replace hS1:=hS1.jn U U
  refine Qe U U (Qf (Qc (Qd (Qd (Qa (Qb U U (Xd U U U (Qf (Qc (Qs U (fun h2=> ?_) (fun h2=> ?_)))))))))))
  ·refine Qd (Qa (Qb U U (Qe U U (Qf (Qc (Qu (Qp (QR (.inr U) U U ?_))))))))
   exact⟨_,rfl, by rw[show l.filter (fun n=> !decide (n=id))=l from List.filter_eq_self.2 (fun y hy=> by simpa using hno y hy)]; exact hS1.pick [1,0,2] U⟩
  exact absurd U h2
 refine⟨_,rfl, ?_⟩
 replace hS1:=hS1.jn U U
 refine Qe U U (Qf (Qc (Qd (Qd (Qa (Qb U U (Xd U U U (Qf (Qc (Qs U (fun h3=> ?_) (fun h3=> ?_)))))))))))
 ·exact absurd h3 (by omega)
 refine Qt (Qc (Qd (Qd ?_)))
 have hkl:=(XR hk).1
 obtain⟨ob,oc9,hq9,hcap⟩:=hS1.own_at 1 rfl (by omega)
 cases hq9
 refine Qa (Qb U U (QI U U (by omega) (by omega) U ?_))
 refine Qe U U (Qf (Qc (Qh [1,0,4,5,6] U (Qv ?_))))
 have hq0:=hS1.pick [1,0,2] U
 refine Xb (fun K0 E0 W0=> ∃(l1:List Int) (i j:Nat),K0=l.length -j∧E0=[(0,.slice (some ⟨ob,0,none⟩) l.length cap),(1,.func (.func g) #[] #[ptrV c 0]),(5,intV (i:Int)),(6,intV (j:Int))]∧Sat W0 [rowT inC (.slice (some ⟨ob,0,none⟩) l.length cap) l1,Q3 c [intV id],F]∧(i<j)∧(j≤l.length)∧(l1.length=l.length)∧(l1.take i=(l.take j).filter (fun n=> !decide (n=id)))∧(l1.drop j=l.drop j)) (L0:=[(0,_),(1,_),(5,_),(6,_)]) (l.length -(k+1)) (VN rfl rfl rfl rfl) ⟨l,k,k+1,rfl,rfl,hq0, by omega, by omega,rfl, by rw[UX hk,if_pos rfl,List.append_nil];symm; rw[List.filter_eq_self]; intro y hy; obtain⟨q,hq⟩:=List.mem_iff_getElem?.1 hy; have hql:=(XR hq).1; rw[List.length_take]at hql; rw[List.getElem?_take,if_pos (by omega)]at hq;simpa using hno q y (by omega) hq,rfl⟩ ?_
 rintro _ _ w4 ⟨l1,i,j,rfl,rfl,hS4,hij,hjl,hl1,ht1,hd1⟩
 refine Qd (Qd (Qa (Qb U U (Qb U U ?_))))
 first | refine Xr Tryz.underlying47 U U ?_ | refine ZG 0 hS4 Tryz.underlying47 U U U ?_
 refine Xg U U U (Qf (Qc (Qs U (fun h5=> ?_) (fun h5=> ?_))))
 ·obtain⟨v,hv⟩: ∃v,l[j]? =some v:=⟨_,Zi (by omega)⟩
  have hv1:l1[j]? =some v:= by have :=congrArg (fun q=>q[0]?) hd1; simp only[List.getElem?_drop,Nat.add_zero]at this; rw[this]; exact hv
  refine Qt (Qc (Qd (Qv (Qd (Qa (Qb U U (Qb U U (QW inC 0 j hS4 U U U (by rfl) hv1 JQ U ?_))))))))
  intro bx6 capx6 hvx6
  refine XE 0 j 0 hS4 U hvx6 U U hv1 QL U U (Qe U U (Qf (Qc (Qh [6,5,1,0,7] U (Qd (Qa (Qb U U (Qb U U (Y7 U hE.1 U (hE.2 _ _ _ (hS4.sp [1] U)) U ?_)))))))))
  rintro e w7 ⟨_,rfl,rfl,hS7⟩; refine⟨_,rfl, ?_⟩
  replace hS7:=hS7.jn U U
  clear hS4
  refine QQ U U (Qf (Qc (QN U (fun h8=> ?_) (fun h8=> ?_))))
  ·have hvn: ¬v=id:= by simpa using h8
   refine Qd ?_
   obtain⟨vx,hvx⟩: ∃v,l1[i]? =some v:=⟨_,Zi (by omega)⟩
   refine Qa (Qb U U (Qb U U (Qb U U (QW inC 1 i hS7 U U U (by rfl) hvx JQ U ?_))))
   intro bx9 capx9 hvx9
   refine Wx 1 i v hS7 U hvx9 U U JG (by rfl) (by omega) ?_
   intro w10 hS11; dsimp only[List.set]at hS11
   clear hS7
   refine Qf (Qc (Qh [6,5,1,0] U (Qa (Qb U U (QI U U (by omega) (by omega) U ?_)))))
   refine Qe U U (Qf (Qk (Qc (Qa (Qb U U (QI U U (by omega) (by omega) U ?_))))))
   refine Qe U U (Qf ?_)
   exact Q0 (L1:=[(0,_),(1,_),(5,intV ((i+1:Nat):Int)),(6,intV ((j+1:Nat):Int))]) (VN U U U U) (k1:=l.length -(j+1)) (by omega) ⟨l1.set i v,i+1,j+1,rfl,rfl,hS11.pick [1,0,2] U, by omega, by omega, by rw[List.length_set]; exact hl1, by rw[UX hv,if_neg hvn,List.take_add_one,List.getElem?_set_self (by omega),List.take_set_of_le (by omega),ht1];rfl, by rw[List.drop_set_of_lt (by omega)]; have :=congrArg (List.drop 1) hd1;rwa [List.drop_drop,List.drop_drop]at this⟩
  have hvi:v=id:= by simpa using h8
  refine Qt (Qk (Qc (Qa (Qb U U (QI U U (by omega) (by omega) U ?_)))))
  refine Qe U U (Qf ?_)
  exact Q0 (L1:=[(0,_),(1,_),(5,_),(6,intV ((j+1:Nat):Int))]) (VN U U U U) (k1:=l.length -(j+1)) (by omega) ⟨l1,i,j+1,rfl,rfl,hS7.pick [1,0,2] U, by omega, by omega,hl1, by rw[UX hv,if_pos hvi,List.append_nil]; exact ht1, by have :=congrArg (List.drop 1) hd1;rwa [List.drop_drop,List.drop_drop]at this⟩
 refine QM (Qo (Qo (Qx (Qc (Qd (Qa (Qb U U (Qb U U (KA i l.length Tryz.underlying47 JG U (VU i _ U U) (LJ _) (by omega) (by omega) U ?_)))))))))
 rw[show Y8 1 (.slice (some ⟨ob,0,none⟩) l.length cap) i l.length= .slice (some ⟨ob,0+i*1,none⟩) (l.length -i) (cap -i) from Vl (by omega)]
 refine RE 0 hS4 U U U Tryz.underlying47 YN U (by rw[inC.cells_len]; show 0+i*1+(l.length -i)*1≤l1.length*1;omega) (xs':=inC.cells (l1.take i++List.replicate (l1.length -i) 0)) (by rw[←hl1]; exact Nr (by omega)) U ?_
 intro w12 hS12a; dsimp only[List.set]at hS12a
 have hS12:=Sat.row_cast (C:=inC) (l:=l1.take i++List.replicate (l1.length -i) 0) (hS12a.pull 0 U) (by rw[List.length_append,List.length_take,List.length_replicate];omega) U U; dsimp only[List.eraseIdx]at hS12
 clear hS4
 refine Qf (Qc (Qh [5,0] U (Qd (Qa (Qb U U (Qb U U (KA 0 i Tryz.underlying47 JG U (LJ _) (VU i _ U U) (by omega) (by omega) U ?_)))))))
 rw[show Y8 1 (.slice (some ⟨ob,0,none⟩) l.length cap) 0 i= .slice (some ⟨ob,0,none⟩) i cap from Vl (by omega)]
 refine Qe U U (Qf (Qc (Qu (QR (.inr U) U U ?_))))
 have hz:=(hS12.pick [0,1,2] U).row_shrink i (by rw[List.length_append,List.length_take];omega)
 rw[List.take_append_of_le_length (by rw[List.length_take];omega),List.take_take,Nat.min_self,ht1,List.take_of_length_le (by omega)]at hz
 exact⟨_,rfl,hz⟩
theorem NO {S:SS} {A:Int→Option ShE} {j:Int} (hA:A=up S.all j none):(fun i=>(A i).map fun x=>(x.refs,x.pg))=up (vw S) j none:= by
  subst hA
  funext i
  by_cases q:i=j
  · subst q; rw[XW,XW];rfl
  · rw[Zm q,Zm q];rfl
structure DelS (T:Nat) (S S':SS) (id:Int):Prop where
  inv:ShI Vz (T+1) S'
  f:ShF S S'
  is:vw S'=up (vw S) id none
theorem LA {T:Nat} {S:SS} {id:Int} {x:ShE} (h:ShI Vz T S) (hx:S.all id=some x) (hp:x.place=1):DelS T S {offFrame S x.at_ with all:=up S.all id none} id:= by
  have h1:=(h.offFrame (fun q=>q) hx hp U).gone (j:=id) (.inr U)
  refine⟨h1.congr fun i _=>⟨fun ⟨a,b⟩=>b (a.resolve_left fun q=>q),False.elim⟩,⟨⟨[x.at_],rfl, fun j y hy hp1=> ?_⟩,rfl,rfl, by show(S.fr.set _ _).length=_; rw[List.length_set]⟩,NO U⟩
  by_cases q:j=id
  · subst q; rw[hx]at hy; cases hy; exact .inl (by simp)
  · exact .inr ⟨y, by show up S.all id _ j=_; rw[Zm q]; exact hy,hp1,rfl⟩
theorem ShF.del {S S':SS} {id:Int} {x:ShE} (hx:S.all id=some x) (hp:x.place≠1) (ha:S'.all=up S.all id none) (ht:S'.taken=S.taken) (hb:S'.budget=S.budget) (hs:S'.slots=S.slots) (hf:S'.fr=S.fr):ShF S S':= by
  refine⟨⟨[], by rw[ht]; simp, fun j y hy hp1=> .inr ⟨y, ?_,hp1,rfl⟩⟩,hb,hs, by rw[hf]⟩
  rw[ha,Zm (fun q=> by subst q; rw[hx]at hy; cases hy; exact hp hp1)]; exact hy
theorem RW {T:Nat} {S:SS} {id:Int} {x:ShE} (h:ShI Vz T S) (hx:S.all id=some x) (hp:x.place=2):ShI (one id) T {S with cache:=S.cache.filter (fun n=> !decide (n=id))}:=
  (h.offCache hx hp (List.filter_sublist) (fun i=> by rw[List.mem_filter]; simp)).congr fun i _=>⟨fun q=>q.resolve_left fun q=>q, fun q=> .inr q⟩
theorem LB {T:Nat} {S:SS} {id:Int} {x:ShE} (h:ShI Vz T S) (hx:S.all id=some x) (hp:x.place=2):DelS T S {S with cache:=S.cache.filter (fun n=> !decide (n=id)),all:=up S.all id none} id:= by
  have h1:=((RW h hx hp).gone (j:=id) U).mono (Nat.le_add_right T 1)
  exact⟨h1.congr fun i _=>⟨fun ⟨a,b⟩=>b a,False.elim⟩,ShF.del hx (by omega) U U U U U,NO U⟩
theorem UI {E:Int→Prop} {T:Nat} {S:SS} {id:Int} {x:ShE} (h:ShI E T S) (hE: ¬E id) (hx:S.all id=some x) (hp:x.place=3):Gc S.sl x.at_=true∧B3 S.sl x.at_=x.pg∧Ki S.sl x.at_=S.sl.set x.at_.toNat []:= by
  obtain⟨h0,h1⟩:=h.slt hE hx hp
  have h64:=(h.ent hx).2.2.2.2.1
  have hne:x.pg≠[]:= fun q=> by rw[q]at h64; simp at h64
  have hb:Gc S.sl x.at_=true:= by unfold Gc; rw[h1]; simp [h0,hne]
  exact⟨hb, by unfold B3; rw[if_pos hb,h1];rfl, by unfold Ki; rw[if_pos hb]⟩
theorem BR {T:Nat} {S:SS} {id:Int} {x:ShE} (h:ShI Vz T S) (hx:S.all id=some x) (hp:x.place=3):ShI (one id) T {S with sl:=S.sl.set x.at_.toNat []}:=
  (h.offSlot (fun q=>q) hx hp).congr fun i _=>⟨fun q=>q.resolve_left fun q=>q, fun q=> .inr q⟩
theorem Oz {T:Nat} {S:SS} {id:Int} {x:ShE} (h:ShI Vz T S) (hx:S.all id=some x) (hp:x.place=3):DelS T S {S with sl:=S.sl.set x.at_.toNat [],all:=up S.all id none} id:= by
  have h1:=((BR h hx hp).gone (j:=id) U).mono (Nat.le_add_right T 1)
  exact⟨h1.congr fun i _=>⟨fun ⟨a,b⟩=>b a,False.elim⟩,ShF.del hx (by omega) U U U U U,NO U⟩
def YB (S:SS) (id:Int):Bs:= match S.all id with | none=> if id=0 then zer else[] | some x=>x.pg
theorem eqU (c:Nat) (id:Int):EqF Tryz.prog 154 c id:=⟨cal_154, fun n w X hS=> by
  refine Qm Tryz.func154 U Tryz.ntmps154 U ?_
  refine Qd (Qa (Qe U U (Qf (Qc (Qd (Qa (Qb U U (Qn U QL (hS.cell 0 U U) U (Xd U U U (Qe U U (Qf (Qc (Qu (QR (.inr U) U U ?_))))))))))))))
  exact⟨_,rfl,rfl,hS⟩⟩
theorem eqB (c:Nat) (id:Int):EqF Tryz.prog 157 c id:=⟨cal_157, fun n w X hS=> by
  refine Qm Tryz.func157 U Tryz.ntmps157 U ?_
  refine Qd (Qa (Qe U U (Qf (Qc (Qd (Qa (Qb U U (Qn U QL (hS.cell 0 U U) U (Xd U U U (Qe U U (Qf (Qc (Qu (QR (.inr U) U U ?_))))))))))))))
  exact⟨_,rfl,rfl,hS⟩⟩
theorem NZ {w:World} {p:Nat} {S:SS} {F:Th} (hS:Sat w [Ye p S,F]) {N:Nat} (hI:ShI Vz N S) (hN:N≤80000000000) (id:Int):
    Calls Tryz.prog 104 #[ptrV p 0,intV id] w (Ret fun v w'=>(match S.all id with | none=>v=(if id=0 then intV 0 else intV 4)∧Sat w' [Ye p S,F] | some x=>v=intV 0∧((1<x.refs∧Sat w' [Ye p {S with all:=up S.all id (some {x with refs:=x.refs -1})},F])∨(x.refs=1∧ ∃S',DelS N S S' id∧Sat w' [Ye p S',F])))):= by
 obtain⟨ba,bi,fp,sp,kp,ac,cc,at2,ct,hS⟩:=XX hS
 cases hid:S.all id with
 | none=>
  dsimp only
  refine Qm Tryz.func104 U Tryz.ntmps104 U ?_
  refine Qd (Qa (Zd hS U U U ?_))
  intro b1 w1 hS1
  refine Qe U U (Qf (Qc (Qd ?_)))
  have hS2:=hS1.drew
  refine QF [0,1,2,3,4,5,6,7,8,9,10,11] [9,10] We (by kernel_rfl) ?_
  refine QG U U U (Xh U U U (QV U U U XI (Q4 U U U (Qr U Zn (hS2.cell 1 U U)) (Q4 U U U (Qr U QL (hS2.cell 0 U U)) (Q4 U U U (W7 (k:=id) 2 hS2 keysInt Tryz.underlying108 U U U XJ (u:=(.agg #[intV 0,intV 0,intV 0,strV []])) (g:=false) (Hg hid) (YM hid)) (QG U U U (Wc U U U U (Wc U U U U (Xn U U U U U U ?_)))))))))
  refine QX hS2 XJ U U ?_
  intro b3 w3 hS3
  clear hS2
  refine XQ (.cons (.inl ⟨rfl,(W7 (k:=id) 3 hS3 keysInt Tryz.underlying108 U U U XJ (u:=(.agg #[intV 0,intV 0,intV 0,strV []])) (g:=false) (Hg hid) (YM hid))⟩) (.cons (.inl ⟨rfl,(Qr U QL (hS3.cell 1 U U))⟩) (.cons (.inl ⟨rfl,(Qr U Zn (hS3.cell 2 U U))⟩) .nil))) (Xn U U U U U U ?_)
  (refine QK hS3 U U JX U (by rfl) (i:=0) U (by decide) ?_)
  intro w4 hS5; dsimp only[List.set]at hS5
  clear hS3
  refine Z4 (X1 (by kernel_rfl)) ?_
  refine Za U U U (VC.nil (Qc (Qh [0,3,4,5,6] U (Qd (Qd (Qa (Qb U U (QQ U U (Qf (Qc (QN U (fun h6=> ?_) (fun h6=> ?_))))))))))))
  ·refine Qd (Qd (Qa (Qn U QL (by first | assumption | exact hS5.cell 0 U U | exact hS5.cell 1 U U | exact hS5.cell 2 U U) U ?_)))
   refine Xd U U U (Qf (Qc (Qs U (fun h7=> ?_) (fun h7=> ?_))))
   ·exact Qd (Qa (Qe U U (Qf (Qc (Qu (Qp (Qp (QR (.inr U) U U (⟨_,rfl, by rw[if_pos (by omega)],QY (hS5.pick [2,3,4,5,6,7,8,9,10] U)⟩)))))))))
   exact Qt (Qc (Qd (Qa (Qe U U (Qf (Qc (Qu (Qp (QR (.inr U) U U (⟨_,rfl, by rw[if_neg (by omega)],QY (hS5.pick [2,3,4,5,6,7,8,9,10] U)⟩))))))))))
  exact absurd h6 (by simp)
 | some x=>
  obtain⟨hid1,_,hr1,hr2,_,hplc⟩:=hI.ent hid
  dsimp only
  refine Qm Tryz.func104 U Tryz.ntmps104 U ?_
  refine Qd (Qa (Zd hS U U U ?_))
  intro b1 w1 hS1
  refine Qe U U (Qf (Qc (Qd ?_)))
  have hS2:=hS1.drew
  refine QF [0,1,2,3,4,5,6,7,8,9,10,11] [9,10] We (by kernel_rfl) ?_
  refine QG U U U (Xh U U U (QV U U U XI (Q4 U U U (Qr U Zn (hS2.cell 1 U U)) (Q4 U U U (Qr U QL (hS2.cell 0 U U)) (Q4 U U U (W7 (k:=id) 2 hS2 keysInt Tryz.underlying108 U U U XJ (u:=(.agg #[intV x.refs,intV x.place,intV x.at_,strV (Kw x)])) (g:=true) (Jn hid) (YL hid)) (QG U U U (Wc U U U U (Wc U U U U (Xn U U U U U U ?_)))))))))
  refine QX hS2 XJ U U ?_
  intro b3 w3 hS3
  clear hS2
  refine XQ (.cons (.inl ⟨rfl,(W7 (k:=id) 3 hS3 keysInt Tryz.underlying108 U U U XJ (u:=(.agg #[intV x.refs,intV x.place,intV x.at_,strV (Kw x)])) (g:=true) (Jn hid) (YL hid))⟩) (.cons (.inl ⟨rfl,(Qr U QL (hS3.cell 1 U U))⟩) (.cons (.inl ⟨rfl,(Qr U Zn (hS3.cell 2 U U))⟩) .nil))) (Xn U U U U U U ?_)
  (refine QK hS3 U U JX U (by rfl) (i:=0) U (by decide) ?_)
  intro w4 hS5; dsimp only[List.set]at hS5
  clear hS3
  refine Z4 (X1 (by kernel_rfl)) ?_
  refine Za U U U (VC.nil (Qc (Qh [0,3,4,5,6] U (Qd (Qd (Qa (Qb U U (QQ U U (Qf (Qc (QN U (fun h6=> ?_) (fun h6=> ?_))))))))))))
  ·exact absurd h6 (by simp)
  refine Qt (Qc (Qd (Qd (Qa (Qg U Jw U (Qn U QL (hS5.cell 0 U U) U (Vg U U (by omega) (by omega) U ?_)))))))
  refine Qg U Jw U ?_
  (refine Q6 hS5 U U JG (by rfl) (i:=0) U (Xa U) ?_)
  intro w7 hS8; dsimp only[List.set]at hS8
  clear hS5
  refine Qf (Qc (Qh [0,3,4,5] U (Qd (Qa (Qg U Jw U (Qn U QL (hS8.cell 0 U U) U (YO U U U (Qf (Qc (Qs U (fun h9=> ?_) (fun h9=> ?_)))))))))))
  ·refine Qd ?_
   have hS10:=hS8.drew
   refine QF [0,1,2,3,4,5,6] [6] We (by kernel_rfl) ?_
   refine QG U U U (Xh U U U (QV U U U XI (Q4 U U U (Qr U Zn (hS10.cell 2 U U)) (Q4 U U U (Qr U QL (hS10.cell 1 U U)) (Q4 U U U (XF U Iw JX (hS10.blk 0 U) (Xa U) U) (Xn U U U U U U ?_))))))
   refine Xw (k:=id) (v:=PW {x with refs:=x.refs -1}) 3 hS10 keysInt Tryz.underlying108 U U U U ?_
   intro w11 hS11a; dsimp only[List.set]at hS11a; have hS11:=hS11a; rw[Kd]at hS11
   clear hS10
   refine Z4 (X1 (by kernel_rfl)) ?_
   exact VC.nil (Qc (Qh [0,3,4,5] U (Qd (Qa (Qe U U (Qf (Qc (Qu (Qp (QR (.inr U) U U (⟨_,rfl,rfl,.inl ⟨by omega,QY (S:={S with all:=up S.all id (some {x with refs:=x.refs -1})}) (hS11.pick [2,3,4,5,6,7,8,9,10] U)⟩⟩)))))))))))
  refine Qt (Qc (Qd (Qd (Qa (Qg U YG U (Qn U QL (hS8.cell 0 U U) U (Qf (Qc (Qv (Qd (Qa (Xd U U U (Qe U U (Qf (Qc (Qh [0,3,4,5,34,35] U (Qs U (fun h12=> ?_) (fun h12=> ?_))))))))))))))))))
  ·have hp1:x.place=1:=h12
   refine Qa (Qb U U (Qg U Yo U (Qn U QL (hS8.cell 0 U U) U ?_)))
   have hS13:=QY (hS8.pick [2,3,4,5,6,7,8,9,0,1,10] U)
   refine Qw TO U (RO (hS13.sp [0] U) (f:=x.at_) (b0:=x.pg) (hI.frc (fun q=>q) hid hp1) (by show S.ck.length=S.fr.length; rw[hI.ck,List.length_map]) (by have :=hI.tln;omega)) U ?_
   rintro _ w14 ⟨rfl,hS14⟩
   replace hS14:=hS14.jn U U
   clear hS13
   obtain⟨ba,bi,fp,sp,kp,ac,cc,at2,ct,hSo15⟩:=XX (hS14.pick [0,1,2,3] rfl)
   refine Qf (Qk (Qc (Qd ?_)))
   have hS16:=hSo15.drew
   refine QF [0,1,2,3,4,5] [5] We (by kernel_rfl) ?_
   refine QG U U U (Xh U U U (QV U U U XI (Q4 U U U (Qr U Zn (hS16.cell 0 U U)) (Q4 U U U (Qr U QL (hS16.cell 9 U U)) (Xn U U U U U U ?_)))))
   refine Yv (k:=id) 1 hS16 keysInt Tryz.underlying108 U U U U ?_
   intro w17 hS17; dsimp only[List.set]at hS17; rw[PM]at hS17
   clear hS16
   refine Z4 (X1 (by kernel_rfl)) ?_
   exact VC.nil (Qc (Qh [4] U (Qd (Qa (Qe U U (Qf (Qc (Qu (QR (.inr U) U U (⟨_,rfl,rfl,.inr ⟨by omega,_,LA hI hid hp1,QY (S:={offFrame S x.at_ with all:=up S.all id none}) (hS17.pick [0,1,2,3,4,5,6,7,10] U)⟩⟩))))))))))
  refine Qd (Qa (Xd U U U (Qe U U (Qf (Qc (Qs U (fun h18=> ?_) (fun h18=> ?_)))))))
  ·have hp2:x.place=2:=h18
   refine Qa (Qb U U (Qb U U (Qj U U (Qg U W6 U (Qn U YK (hS8.cell 2 U U) U ?_)))))
   refine Qw TE U (VD (hS8.sp [] U) (Ent.starL (HE (C:=inC) (l:=S.cache) (by have :=hI.cln;omega)) 5 U) (by have :=hI.cln;omega)) U ?_
   rintro _ w19 hS19
   replace hS19:=hS19.jn U U
   clear hS8
   have h1n:=hS19.own_one 0 U
   refine Zx U U ?_
   refine Qw TN U (T7 (eqU _ id) (hS19.sp [0,2] U) (by have :=hI.cln;omega)) U ?_
   rintro _ w20 hS20
   replace hS20:=hS20.jn U U
   clear hS19
   have h1d:=hS20.own_one 0 U
   refine Qj U U (Qg U W6 U ?_)
   (refine Q6 hS20 U U KH (by assumption) (i:=3) U (Xa U) ?_)
   intro w21 hS22; dsimp only[List.set]at hS22
   clear hS20
   refine Qf (Qk (Qc (Qh [0,3,4] U (Qd ?_))))
   have hS23:=hS22.drew
   refine QF [0,1,2,3,4,5] [5] We (by kernel_rfl) ?_
   refine QG U U U (Xh U U U (QV U U U XI (Q4 U U U (Qr U Zn (hS23.cell 3 U U)) (Q4 U U U (Qr U QL (hS23.cell 1 U U)) (Xn U U U U U U ?_)))))
   refine Yv (k:=id) 4 hS23 keysInt Tryz.underlying108 U U U U ?_
   intro w24 hS24; dsimp only[List.set]at hS24; rw[PM]at hS24
   clear hS23
   refine Z4 (X1 (by kernel_rfl)) ?_
   exact VC.nil (Qc (Qd (Qa (Qe U U (Qf (Qc (Qu (QR (.inr U) U U (⟨_,rfl,rfl,.inr ⟨by omega,_,LB hI hid hp2,QY (S:={S with cache:=S.cache.filter (fun n=> !decide (n=id)),all:=up S.all id none}) (hS24.pick [3,4,5,0,7,8,9,10,11] U)⟩⟩)))))))))
  refine Qd (Qa (Xd U U U (Qe U U (Qf (Qc (Qs U (fun h25=> ?_) (fun h25=> ?_)))))))
  ·have hp3:x.place=3:=h25
   have hS26:=hS8.drew
   refine QF [0,1,2,3,4,5,6] [6] We (by kernel_rfl) ?_
   refine QG U U U (Xh U U U (QV U U U Yp (Q4 U U U (Qr U H2 (hS26.cell 2 U U)) (QV U U U Yo (Q4 U U U (Qr U QL (hS26.cell 0 U U)) (Xn U U U U U U ?_))))))
   refine Qw TM U (RM (hS26.sp [7] U) x.at_) U ?_
   rintro _ w27 ⟨rfl,hS27⟩
   replace hS27:=hS27.jn U U
   clear hS26
   rw[(UI hI (fun q=>q) hid hp3).2.2]at hS27
   refine XQ (X1 (by kernel_rfl)) ?_
   refine VC.nil (Qk (Qc (Qh [0,3,4] U (Qd ?_))))
   have hS28:=hS27.drew
   refine QF [0,1,2,3,4,5] [5] We (by kernel_rfl) ?_
   refine QG U U U (Xh U U U (QV U U U XI (Q4 U U U (Qr U Zn (hS28.cell 3 U U)) (Q4 U U U (Qr U QL (hS28.cell 2 U U)) (Xn U U U U U U ?_)))))
   refine Yv (k:=id) 4 hS28 keysInt Tryz.underlying108 U U U U ?_
   intro w29 hS29; dsimp only[List.set]at hS29; rw[PM]at hS29
   clear hS28
   refine Z4 (X1 (by kernel_rfl)) ?_
   exact VC.nil (Qc (Qd (Qa (Qe U U (Qf (Qc (Qu (QR (.inr U) U U (⟨_,rfl,rfl,.inr ⟨by omega,_,Oz hI hid hp3,QY (S:={S with sl:=S.sl.set x.at_.toNat [],all:=up S.all id none}) (hS29.pick [3,4,5,6,7,0,8,9,10] U)⟩⟩)))))))))
  exact absurd hplc (by omega)
theorem Mg {w:World} {p:Nat} {S:SS} {F:Th} (hS:Sat w [Ye p S,F]) {E:Int→Prop} {N:Nat} (hI:ShI E N S) (id:Int) (hE: ¬E id):
    Calls Tryz.prog 34 #[ptrV p 0,intV id] w (Ret fun v w'=>v=strV (YB S id)∧Sat w' [Ye p S,F]):= by
 obtain⟨ba,bi,fp,sp,kp,ac,cc,at2,ct,hS⟩:=XX hS
 cases hid:S.all id with
 | none=>
  refine Qm Tryz.func34 U Tryz.ntmps34 U ?_
  refine Qd (Qa (Qe U U (Qf (Qc (Qd (Qa (Qb U U (Qj U U (Qg U XI U (Qn U Zn (hS.cell 0 U U) U (Qb U U (Wj (k:=id) 1 hS keysInt Tryz.underlying108 U U U XJ (u:=(.agg #[intV 0,intV 0,intV 0,strV []])) (g:=false) (Hg hid) (YM hid) U (Qb U U (Qq U U U (Qq U U U (QX hS XJ U U ?_))))))))))))))))
  intro b1 w1 hS1
  (refine QK hS1 U U JX U (by rfl) (i:=0) U (by decide) ?_)
  intro w2 hS3; dsimp only[List.set]at hS3
  clear hS1
  refine Qe U U (Qf (Qc (Qh [1,0,4,5,6] U (Qd (Qv (Qd (Qa (Qb U U (Xd U U U (Qe U U (Qf (Qc (Qs U (fun h4=> ?_) (fun h4=> ?_))))))))))))))
  ·refine Qd (Qa (Qw OE U (N0 (hS3.sp [] U) zer (by decide)) U ?_))
   rintro _ w5 ⟨rfl,hS5⟩
   replace hS5:=hS5.jn U U
   clear hS3
   refine Qe U U (Qf (Qc (Qu (Qz (Qp (QR (.inr U) U U ?_))))))
   exact⟨_,rfl, by unfold YB; rw[hid]; dsimp only; rw[if_pos (by omega)],QY (hS5.pick [1,2,3,4,5,6,7,8,9] U)⟩
  refine Qd (Qa (Qb U U (QQ U U (Qe U U (Qf (Qc (Qh [0,4,5,24] U (QN U (fun h6=> ?_) (fun h6=> ?_)))))))))
  ·refine Qd (Qa (Qe U U (Qf (Qc (Qu (Qz (Qp (QR (.inr U) U U ?_))))))))
   exact⟨_,rfl, by unfold YB; rw[hid]; dsimp only; rw[if_neg (by omega)],QY (hS3.pick [1,2,3,4,5,6,7,8,9] U)⟩
  exact absurd h6 (by simp)
 | some x=>
  obtain⟨hid1,_,hr1,hr2,_,hplc⟩:=hI.ent hid
  refine Qm Tryz.func34 U Tryz.ntmps34 U ?_
  refine Qd (Qa (Qe U U (Qf (Qc (Qd (Qa (Qb U U (Qj U U (Qg U XI U (Qn U Zn (hS.cell 0 U U) U (Qb U U (Wj (k:=id) 1 hS keysInt Tryz.underlying108 U U U XJ (u:=(.agg #[intV x.refs,intV x.place,intV x.at_,strV (Kw x)])) (g:=true) (Jn hid) (YL hid) U (Qb U U (Qq U U U (Qq U U U (QX hS XJ U U ?_))))))))))))))))
  intro b1 w1 hS1
  (refine QK hS1 U U JX U (by rfl) (i:=0) U (by decide) ?_)
  intro w2 hS3; dsimp only[List.set]at hS3
  clear hS1
  refine Qe U U (Qf (Qc (Qh [1,0,4,5,6] U (Qd (Qv (Qd (Qa (Qb U U (Xd U U U (Qe U U (Qf (Qc (Qs U (fun h4=> ?_) (fun h4=> ?_))))))))))))))
  ·exact absurd h4 (by omega)
  refine Qd (Qa (Qb U U (QQ U U (Qe U U (Qf (Qc (Qh [0,4,5,24] U (QN U (fun h5=> ?_) (fun h5=> ?_)))))))))
  ·exact absurd h5 (by simp)
  refine Qd (Qa (Qg U YG U (Qn U QL (hS3.cell 0 U U) U (Xd U U U (Qe U U (Qf (Qc (Qs U (fun h6=> ?_) (fun h6=> ?_)))))))))
  ·have hp1:x.place=1:=h6
   refine Qd ?_
   have hS7:=hS3.drew
   refine QF [0,1,2,3,4,5,6,7] [6] We (by kernel_rfl) ?_
   refine QG U U U (Xh U U U (QV U U U Wr (Q4 U U U (Qr U JF (hS7.cell 1 U U)) (QV U U U Yo (Q4 U U U (Qr U QL (hS7.cell 0 U U)) (Xn U U U U U U ?_))))))
   refine Qw PD U (Gd (hS7.sp [5] U) x.at_) U ?_
   rintro _ w8 ⟨rfl,hS8⟩
   replace hS8:=hS8.jn U U
   clear hS7
   rw[hI.frc hE hid hp1]
   dsimp only[Option.getD_some]
   refine XQ (X1 (by kernel_rfl)) ?_
   refine Za U U U (VC.nil (Qc (Qh [0,5,4] U (Qu (Qz (Qp (QR (.inr U) U U ?_)))))))
   exact⟨_,rfl, by unfold YB; rw[hid],QY (hS8.pick [2,3,4,5,0,6,7,8,9] U)⟩
  refine Qd (Qa (Qg U YG U (Qn U QL (hS3.cell 0 U U) U (Xd U U U (Qe U U (Qf (Qc (Qh [0,4,5,38] U (Qs U (fun h9=> ?_) (fun h9=> ?_))))))))))
  ·have hp2:x.place=2:=h9
   refine Qd (Qa (Qg U De U (Qn U WC (hS3.cell 0 U U) U ?_)))
   obtain⟨fy,hfy⟩:=Option.ne_none_iff_exists'.1 (hI.pck hE hid hp2).2
   have hfme:Kw x=fy:= by unfold Kw fm; rw[if_pos hp2,hfy];rfl
   refine Qw PC U (RI (hS3.sp [] U) (hI.ent hid).2.2.2.2.1 (by rw[hfme]; exact hfy)) U ?_
   rintro _ w10 ⟨rfl,hS10⟩
   replace hS10:=hS10.jn U U
   clear hS3
   refine Qb U U (Qq U U U (Qq U U U (Qe U U (Qe U U (Qf (Qc (Qh [0,4,5,7] U (Qd (Qa (Qb U U (Qe U U (Qf (Qc (Qu (Qz (Qp (QR (.inr U) U U ?_)))))))))))))))))
   exact⟨_,rfl, by unfold YB; rw[hid],QY (hS10.pick [1,2,3,4,5,6,7,8,9] U)⟩
  refine Qt (Qk (Qc (Qd ?_)))
  have hp3:x.place=3:= by omega
  have hS11:=hS3.drew
  refine QF [0,1,2,3,4,5,6,7,8,9,10,11] [6] We (by kernel_rfl) ?_
  refine QG U U U (Xh U U U (QV U U U Yp (Q4 U U U (Qr U H2 (hS11.cell 1 U U)) (QV U U U Yo (Q4 U U U (Qr U QL (hS11.cell 0 U U)) (Xn U U U U U U ?_))))))
  refine Qw OD U (Cm (hS11.sp [6] U) x.at_) U ?_
  rintro _ w12 ⟨eg,rfl,hS12⟩
  replace hS12:=hS12.jn U U
  clear hS11
  rw[(UI hI hE hid hp3).2.1]
  refine XQ (X1 (by kernel_rfl)) ?_
  refine QG U U U (Wc U U U U (Wc U U U U (Za U U U (Za U U U (VC.nil (Qc (Qh [4,9] U (Qd (Qa (Qb U U (Qe U U (Qf (Qc (Qu (QR (.inr U) U U ?_)))))))))))))))
  exact⟨_,rfl, by unfold YB; rw[hid],QY (hS12.pick [2,3,4,5,6,0,7,8,9] U)⟩
def FH (S:SS) (id at_:Int):UInt8:= if 0≤at_∧at_<64 then(YB S id).getD at_.toNat 0 else 0
theorem Ac {E:Int→Prop} {N:Nat} {S:SS} (hI:ShI E N S) (id:Int):(YB S id).length=64∨YB S id=[]:= by
  unfold YB
  cases hid:S.all id with
  | none=> dsimp only;split;(left;decide);right;rfl
  | some x=> exact .inl (hI.ent hid).2.2.2.2.1
theorem FG {w:World} {p:Nat} {S:SS} {F:Th} (hS:Sat w [Ye p S,F]) {N:Nat} (hI:ShI Vz N S) (hN:N≤80000000000) (id at_:Int):
    Calls Tryz.prog 47 #[ptrV p 0,intV id,intV at_] w (Ret fun v w'=>v=Wu (FH S id at_)∧Sat w' [Ye p S,F]):= by
 refine Qm Tryz.func47 U Tryz.ntmps47 U ?_
 refine Qd (Qa (Qe U U (Qf (Qc (Qd (Qd (Qa (Qb U U (Xg U U U (Qb U U (QU 10 U (fun h1=> ?_) (fun h1=> ?_))))))))))))
 ·refine Qi U U (Xl h1) U (Qi U U (Xl h1) U (Q9 U (Xl h1) U U (Qf (Qc (Xf U (Qd (Qa (Qe U U (Qf (Qc (Qu (Qp (QR (.inr U) U U ?_)))))))))))))
  exact⟨_,rfl, by unfold FH; rw[if_neg (by omega)];rfl,hS.pick [0,1] U⟩
 refine Ql U U (QC h1) (Qb U U (Ql U U (QC h1) (JA U U U (QP U (QC h1) U U (Qf (Qc (Qs U (fun h2=> ?_) (fun h2=> ?_))))))))
 ·refine Qd (Qa (Qe U U (Qf (Qc (Qu (Qp (QR (.inr U) U U ?_)))))))
  exact⟨_,rfl, by unfold FH; rw[if_neg (by omega)];rfl,hS.pick [0,1] U⟩
 refine Qt (Qc (Qd (Qd (Qa (Qb U U (Qb U U (Qw Ya U (Mg (hS.sp [0] U) hI id (fun q=>q)) U ?_)))))))
 rintro _ w3 ⟨rfl,hS3⟩
 replace hS3:=hS3.jn U U
 refine Qe U U (Qf (Qc (Qh [2,6,7] U (Qd (Qa (Qb U U (MU U U U (Qf (Qc (Qs U (fun h4=> ?_) (fun h4=> ?_)))))))))))
 ·have hpn:YB S id≠[]:=h4
  obtain⟨cb,hcb⟩: ∃c,(YB S id)[at_.toNat]? =some c:=⟨_,Zi (by have :=(Ac hI id).resolve_right hpn;omega)⟩
  refine Qd (Qa (Qb U U (Qb U U (Hk at_.toNat Tryz.underlying9 U U (by omega) hcb U ?_))))
  refine Qe U U (Qf (Qc (Qu (Qp (QR (.inr U) U U ?_)))))
  exact⟨_,rfl, by unfold FH; rw[if_pos (by omega),List.getD_eq_getElem?_getD,hcb];rfl,hS3.pick [0,1] U⟩
 have hpn: ¬YB S id≠[]:=h4
 refine Qt (Qc (Qd (Qa (Qe U U (Qf (Qc (Qu (QR (.inr U) U U ?_))))))))
 exact⟨_,rfl, by unfold FH; rw[if_pos (by omega), show YB S id=[] from Decidable.not_not.1 hpn];rfl,hS3.pick [0,1] U⟩
theorem mc1 : (Tryz.f127.name == "runtime.NumGoroutine") = false := by kernel_rfl
theorem mc2:Tryz.f127.body.isNone=true:= by kernel_rfl
theorem mc3:Extern.findNext Tryz.f127=none:= by kernel_rfl
theorem mc4:Extern.find Tryz.f127=some Extern.MapsClone.clone:= by kernel_rfl
def VP (count slots budget:Int):SS:=⟨fun _=>none, fun _=>none,[],List.replicate (min (max count 1) 256).toNat none,List.replicate (min (max slots 0) 4096).toNat [],List.replicate (min (max count 1) 256).toNat false,min (max slots 0) 4096,max budget 0,1,[]⟩
theorem Ak (count slots budget:Int):ShI Vz 0 (VP count slots budget) where
  ck:= by simp [VP]
  fr1:= by simp [VP];omega
  fr2:= by simp [VP];omega
  slo:= by simp [VP];omega
  sl2:= by simp [VP];omega
  bud:= by simp [VP];omega
  nx1:= by simp [VP]
  nx2:= by simp [VP]
  ent:= fun h=> by cases h
  frm:= fun f j=>⟨fun h=>(by cases h), fun ⟨_,x,h,_⟩=>(by cases h)⟩
  frc:= fun _ h=> by cases h
  fru:= fun {f b} h=> by
    obtain⟨_,h⟩:=Y1 h
    have :(VP count slots budget).fr=List.replicate (min (max count 1) 256).toNat none:=rfl
    rw[this,List.getElem?_replicate]at h
    split at h
    · cases h
    · cases h
  pck:= fun _ h=> by cases h
  cch:= fun h=> by cases h
  nod:=List.nodup_nil
  sum:= by show((0:Nat):Int)≤max budget 0;omega
  slt:= fun _ h=> by cases h
  slu:= fun {k p} h hp=> by
    have :(VP count slots budget).sl=List.replicate (min (max slots 0) 4096).toNat []:=rfl
    rw[this,List.getElem?_replicate]at h
    split at h
    · cases h; exact absurd U hp
    · cases h
  sli:= fun _ _ h=> by cases h
  cln:=Nat.le_refl _
  tln:=Nat.le_refl _
theorem aG_nil:(fun _=>none:Int→Option Value)=aG (fun _=>none):=rfl
theorem E3 {w:World} {F:Th} (hS:Sat w [F]) (count slots budget:Int):
    Calls Tryz.prog 15 #[intV count,intV slots,intV budget] w (Ret fun v w'=> ∃p,v=ptrV p 0∧Sat w' [Ye p (VP count slots budget),F]):= by
 refine Qm Tryz.func15 U Tryz.ntmps15 U ?_
 refine Qd (Qa (Qe U U (Qf (Qc (Qd (Qa (Qb U U (Y3 U U U (Uq U U U (Qb U U (Y3 U U U (Uq U U U (Qe U U (Qe U U (Qf (Qc (Qd (Qa (ZN QO hS U ?_)))))))))))))))))))
 intro mb1 w1 hS1; rw[aG_nil]at hS1
 refine ZN QO hS1 U ?_
 intro mb2 w2 hS2; rw[Re]at hS2
 clear hS1
 refine Qb U U (Qw cal_57 U (Oa (hS2.sp [] U) (min (max count 1) 256)) U ?_)
 rintro _ w3 ⟨fpn,rfl,hS3⟩
 replace hS3:=hS3.jn U U
 clear hS2
 refine Qb U U (Qw cal_58 U (En (hS3.sp [] U) (min (max slots 0) 4096)) U ?_)
 rintro _ w4 ⟨spn,rfl,hS4⟩
 replace hS4:=hS4.jn U U
 clear hS3
 refine Qb U U (Qw cal_59 U (OB (hS4.sp [] U) (min (max count 1) 256) (by omega)) U ?_)
 rintro _ w5 ⟨kpn,rfl,hS5⟩
 replace hS5:=hS5.jn U U
 clear hS4
 refine Qb U U (Qb U U (Y3 U U U (Zu U Uy asz_117 zr_117 U U (Zd hS5 U U U ?_))))
 intro bp wbp hSbp
 clear hS5
 refine Qe U U (Qf (Qc (Qh [6] U (Qu (QR (.inr U) U U ?_)))))
 have hz:=(hSbp.pick [0,5,4,3,2,1,6] U).row_nil inC
 have hz2:=(hz.reorder [1,2,3,0,4,5,6,7] U).row_nil inC
 rw[show(min (max (min (max count 1) 256) 0) 4096).toNat=(min (max count 1) 256).toNat by omega]at hz2
 rw[show(max 0 (min (min (max slots 0) 4096) 4096)).toNat=(min (max slots 0) 4096).toNat by omega]at hz2
 exact⟨_,rfl,_,rfl,QY (S:=VP count slots budget) (hz2.reorder [1,2,3,4,5,6,7,0,8] U)⟩
end Go.Proofs.YtkcjfoaejijdoaaGreatDoor
