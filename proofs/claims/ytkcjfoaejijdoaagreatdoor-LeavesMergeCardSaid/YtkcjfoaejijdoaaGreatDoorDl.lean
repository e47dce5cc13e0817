/- slices.IndexFunc, DeleteFunc -/
import Derived.Test.YtkcjfoaejijdoaaGreatDoorFw
import Derived.Test.YtkcjfoaejijdoaaGreatDoorSh7
set_option linter.unusedVariables false
set_option maxRecDepth 100000
set_option maxHeartbeats 80000000000
namespace Go.Proofs.YtkcjfoaejijdoaaGreatDoor
open Go.RowKit M Proofs.Tryz
def EqF (P:Program) (g:Nat) (c:Nat) (id:Int):Prop:=QI P g=true∧ ∀(n:Int) (w:World) (X:Th),Sat w [Q8 c [intV id],X]→Calls P g #[intV n,ptrV c 0] w (Ret fun v w'=>v= .bool (decide (n=id))∧Sat w' [Q8 c [intV id],X])
theorem ixI_sp {w:World} {g c:Nat} {id:Int} {F:Th} (hE:EqF prog g c id) (hS:Sat w [Q8 c [intV id],F]) {lv:Value} {l:List Int} (hL:Ent F (RdL inC lv l)):
    Calls prog 85 #[lv,.func (.func g) #[] #[ptrV c 0]] w (Ret fun v w'=>(v=intV (-1)∧(∀y∈l,y≠id)∧Sat w' [Q8 c [intV id],F])∨(∃k:Nat,v=intV (k:Int)∧l[k]? =some id∧(∀j y,j<k→l[j]? =some y→y≠id)∧Sat w' [Q8 c [intV id],F])):= by
 obtain⟨ao,cap,rfl,hmax⟩:=(hL.sat hS 1 rfl).shape
 refine Qm func85 U ntmps85 U ?_
 refine Qd (Qa (Qe U U (Qf (Qc (Qd (Qd (Qa (Qb U U (X7 underlying47 U U (Qb U U (Qf (Qc (Qw ?_)))))))))))))
 refine Xg (fun K0 E0 W0=> ∃(i:Nat),K0=l.length -i∧E0=[(0,.slice ao l.length cap),(1,.func (.func g) #[] #[ptrV c 0]),(7,intV (l.length:Int)),(8,intV (i:Int))]∧Sat W0 [Q8 c [intV id],F]∧(i≤l.length)∧(∀j y,j<i→l[j]? =some y→y≠id)) (L0:=[(0,_),(1,_),(7,_),(8,_)]) (l.length -0) (HR U U U U) ⟨0,rfl,rfl,hS, by omega, by omega⟩ ?_
 rintro _ _ w1 ⟨i,rfl,rfl,j1,hi,hno⟩
 refine Qd (Qa (Xk U U U (Qf (Qc (Qd (Qt U (fun h2=> ?_) (fun h2=> ?_)))))))
 ·obtain⟨x,hx⟩: ∃x,l[i]? =some x:=⟨_,Zq (by omega)⟩
  obtain⟨b,off,rfl,_⟩:=(hL.sat j1 1 rfl).get hx
  refine Qs (Qc (Qd (Qw (Qd (Qa (Qb U U (Qe U U (Qf (Qc (Qd (Qa (Qb U U (Qb U U (Qb U U (Z2 i U U (by rfl) ((Zb hx).1) Jr U ?_)))))))))))))))
  refine Qr U QL (((hL.sat j1 1 U).at_ hx) 0 _ U) U (YU U hE.1 U (hE.2 _ _ _ (j1.sp [0] U)) U ?_)
  rintro e w3 ⟨_,rfl,rfl,j3⟩; refine⟨_,rfl, ?_⟩
  replace j3:=j3.jn U U
  refine Qf (Qc (Qh [8,7,1,0,5,16] U (Qt U (fun h4=> ?_) (fun h4=> ?_))))
  ·have heq:x=id:=h4
   refine Qd (Qa (Qb U U (Qe U U (Qf (Qc (Qu (Qz (Qp (Qp (Qz (Qp (QY (.inr U) U U ?_))))))))))))
   exact⟨_,rfl,.inr ⟨i,rfl, by rw[hx,heq],hno,j3.pick [0,1] U⟩⟩
  have hne:x≠id:=h4
  refine Qs (Qk (Qc (Qa (QO U U (by omega) (by omega) U ?_))))
  refine Qb U U (Qf ?_)
  exact Q3 (L1:=[(0,_),(1,_),(7,_),(8,intV ((i+1:Nat):Int))]) (HR U U U U) (k1:=l.length -(i+1)) (by omega) ⟨i+1,rfl,rfl,j3.pick [0,1] U, by omega, fun j y hj hq=> by by_cases e:j=i;(subst e; rw[hx]at hq; cases hq; exact hne); exact hno j y (by omega) hq⟩
 refine QU (Qq (Qq (Qx (Qc (Qd (Qa (Qe U U (Qf (Qc (Qu (QY (.inr U) U U ?_)))))))))))
 exact⟨_,rfl,.inl ⟨rfl, fun y hm=> by obtain⟨j,hj⟩:=List.mem_iff_getElem?.1 hm; exact hno j y (by have :=(Zb hj).1;omega) hj,j1.pick [0,1] rfl⟩⟩
theorem TQ {w:World} {g c:Nat} {id:Int} {F:Th} (hE:EqF prog g c id) {sv:Value} {l:List Int} (hS:Sat w [rowT inC sv l,Q8 c [intV id],F]) (hln:l.length≤100000000000):
    Calls prog 153 #[sv,.func (.func g) #[] #[ptrV c 0]] w (Ret fun v w'=>Sat w' [rowT inC v (l.filter (fun n=> !decide (n=id))),Q8 c [intV id],F]):= by
 obtain⟨ao,cap,rfl,hcap0,_⟩:=hS.own_shape 0 rfl
 refine Qm func153 U ntmps153 U ?_
 refine Qd (Qa (Qe U U (Qf (Qc (Qd (Qa (Qb U U (Qb U U (Zc IE U (ixI_sp hE (hS.sp [1] U) (l:=l) (Ent.starL (Jn (C:=inC) (l:=l) (by omega)) 0 U)) U ?_)))))))))
 rintro e w1 ⟨_,rfl,(⟨rfl,hno,j1⟩ | ⟨k,rfl,hk,hno,j1⟩)⟩
 ·refine⟨_,U, ?_⟩
  replace j1:=j1.jn U U
  refine Qe U U (Qf (Qc (Qd (Qd (Qa (Qb U U (Xq U U U (Qf (Qc (Qt U (fun h2=> ?_) (fun h2=> ?_)))))))))))
  ·refine Qd (Qa (Qb U U (Qe U U (Qf (Qc (Qu (Qp (QY (.inr U) U U ?_))))))))
   exact⟨_,rfl, by rw[show l.filter (fun n=> !decide (n=id))=l from List.filter_eq_self.2 (fun y hy=> by simpa using hno y hy)]; exact j1.pick [1,0,2] U⟩
  exact absurd U h2
 refine⟨_,U, ?_⟩
 replace j1:=j1.jn U U
 refine Qe U U (Qf (Qc (Qd (Qd (Qa (Qb U U (Xq U U U (Qf (Qc (Qt U (fun h3=> ?_) (fun h3=> ?_)))))))))))
 ·exact absurd h3 (by omega)
 refine Qs (Qc (Qd (Qd ?_)))
 have hkl:=(Zb hk).1
 obtain⟨ob,oc9,hq9,hcap⟩:=j1.own_at 1 rfl (by omega)
 cases hq9
 refine Qa (Qb U U (QO U U (by omega) (by omega) U ?_))
 refine Qe U U (Qf (Qc (Qh [1,0,4,5,6] U (Qw ?_))))
 have hq0:=j1.pick [1,0,2] U
 refine Xg (fun K0 E0 W0=> ∃(l1:List Int) (i j:Nat),K0=l.length -j∧E0=[(0,.slice (some ⟨ob,0,none⟩) l.length cap),(1,.func (.func g) #[] #[ptrV c 0]),(5,intV (i:Int)),(6,intV (j:Int))]∧Sat W0 [rowT inC (.slice (some ⟨ob,0,none⟩) l.length cap) l1,Q8 c [intV id],F]∧(i<j)∧(j≤l.length)∧(l1.length=l.length)∧(l1.take i=(l.take j).filter (fun n=> !decide (n=id)))∧(l1.drop j=l.drop j)) (L0:=[(0,_),(1,_),(5,_),(6,_)]) (l.length -(k+1)) (HR rfl rfl rfl rfl) ⟨l,k,k+1,rfl,rfl,hq0, by omega, by omega,rfl, by rw[Vv hk,if_pos rfl,List.append_nil];symm; rw[List.filter_eq_self]; intro y hy; obtain⟨q,hq⟩:=List.mem_iff_getElem?.1 hy; have hql:=(Zb hq).1; rw[List.length_take]at hql; rw[List.getElem?_take,if_pos (by omega)]at hq;simpa using hno q y (by omega) hq,rfl⟩ ?_
 rintro _ _ w4 ⟨l1,i,j,rfl,rfl,j4,hij,hjl,hl1,ht1,hd1⟩
 refine Qd (Qd (Qa (Qb U U (Qb U U (X7 underlying47 U U (Xk U U U (Qf (Qc (Qt U (fun h5=> ?_) (fun h5=> ?_))))))))))
 ·obtain⟨v,hv⟩: ∃v,l[j]? =some v:=⟨_,Zq (by omega)⟩
  have hv1:l1[j]? =some v:= by have :=congrArg (fun q=>q[0]?) hd1; simp only[List.getElem?_drop,Nat.add_zero]at this; rw[this]; exact hv
  refine Qs (Qc (Qd (Qw (Qd (Qa (Qb U U (Qb U U (Xx inC 0 j j4 U U U (by rfl) hv1 Jr U ?_))))))))
  intro bx6 capx6 hvx6
  refine Zz 0 j 0 j4 U hvx6 U U hv1 QL U U (Qe U U (Qf (Qc (Qh [6,5,1,0,7] U (Qd (Qa (Qb U U (Qb U U (YU U hE.1 U (hE.2 _ _ _ (j4.sp [1] U)) U ?_)))))))))
  rintro e w7 ⟨_,rfl,rfl,j7⟩; refine⟨_,rfl, ?_⟩
  replace j7:=j7.jn U U
  refine Xb U U (Qf (Qc (QT U (fun h8=> ?_) (fun h8=> ?_))))
  ·have hvn: ¬v=id:= by simpa using h8
   refine Qd ?_
   obtain⟨vx,hvx⟩: ∃v,l1[i]? =some v:=⟨_,Zq (by omega)⟩
   refine Qa (Qb U U (Qb U U (Qb U U (Xx inC 1 i j7 U U U (by rfl) hvx Jr U ?_))))
   intro bx9 capx9 hvx9
   refine WF 1 i v j7 U hvx9 U U Yq (by rfl) (by omega) ?_
   intro w10 j11; dsimp only[List.set]at j11
   refine Qf (Qc (Qh [6,5,1,0] U (Qa (Qb U U (QO U U (by omega) (by omega) U ?_)))))
   refine Qe U U (Qf (Qk (Qc (Qa (Qb U U (QO U U (by omega) (by omega) U ?_))))))
   refine Qe U U (Qf ?_)
   exact Q3 (L1:=[(0,_),(1,_),(5,intV ((i+1:Nat):Int)),(6,intV ((j+1:Nat):Int))]) (HR U U U U) (k1:=l.length -(j+1)) (by omega) ⟨l1.set i v,i+1,j+1,rfl,rfl,j11.pick [1,0,2] U, by omega, by omega, by rw[List.length_set]; exact hl1, by rw[Vv hv,if_neg hvn,List.take_add_one,List.getElem?_set_self (by omega),List.take_set_of_le (by omega),ht1];rfl, by rw[List.drop_set_of_lt (by omega)]; have :=congrArg (List.drop 1) hd1;rwa [List.drop_drop,List.drop_drop]at this⟩
  have hvi:v=id:= by simpa using h8
  refine Qs (Qk (Qc (Qa (Qb U U (QO U U (by omega) (by omega) U ?_)))))
  refine Qe U U (Qf ?_)
  exact Q3 (L1:=[(0,_),(1,_),(5,_),(6,intV ((j+1:Nat):Int))]) (HR U U U U) (k1:=l.length -(j+1)) (by omega) ⟨l1,i,j+1,rfl,rfl,j7.pick [1,0,2] U, by omega, by omega,hl1, by rw[Vv hv,if_pos hvi,List.append_nil]; exact ht1, by have :=congrArg (List.drop 1) hd1;rwa [List.drop_drop,List.drop_drop]at this⟩
 refine QU (Qq (Qq (Qx (Qc (Qd (Qa (Qb U U (Qb U U (Rh i l.length underlying47 Yq U (Ks i _ U U) (E6 _) (by omega) (by omega) U ?_)))))))))
 rw[show YV 1 (.slice (some ⟨ob,0,none⟩) l.length cap) i l.length= .slice (some ⟨ob,0+i*1,none⟩) (l.length -i) (cap -i) from VI (by omega)]
 refine Gq 0 j4 U U U underlying47 Hj U (by rw[inC.cells_len]; show 0+i*1+(l.length -i)*1≤l1.length*1;omega) (xs':=inC.cells (l1.take i++List.replicate (l1.length -i) 0)) (by rw[←hl1]; exact ND (by omega)) U ?_
 intro w12 hS12a; dsimp only[List.set]at hS12a
 have j12:=Sat.row_cast (C:=inC) (l:=l1.take i++List.replicate (l1.length -i) 0) (hS12a.pull 0 U) (by rw[List.length_append,List.length_take,List.length_replicate];omega) U U; dsimp only[List.eraseIdx]at j12
 refine Qf (Qc (Qh [5,0] U (Qd (Qa (Qb U U (Qb U U (Rh 0 i underlying47 Yq U (E6 _) (Ks i _ U U) (by omega) (by omega) U ?_)))))))
 rw[show YV 1 (.slice (some ⟨ob,0,none⟩) l.length cap) 0 i= .slice (some ⟨ob,0,none⟩) i cap from VI (by omega)]
 refine Qe U U (Qf (Qc (Qu (QY (.inr U) U U ?_))))
 have hz:=(j12.pick [0,1,2] U).row_shrink i (by rw[List.length_append,List.length_take];omega)
 rw[List.take_append_of_le_length (by rw[List.length_take];omega),List.take_take,Nat.min_self,ht1,List.take_of_length_le (by omega)]at hz
 exact⟨_,U,hz⟩
theorem Pm {S:SS} {A:Int→Option ShE} {j:Int} (hA:A=up S.all j none):(fun i=>(A i).map fun x=>(x.refs,x.pg))=up (vw S) j none:= by
  subst hA
  funext i
  by_cases q:i=j
  · subst q; rw[Ze,Ze];rfl
  · rw[Zv q,Zv q];rfl
structure DelS (T:Nat) (S S':SS) (id:Int):Prop where
  inv:ShI Kp (T+1) S'
  f:ShF S S'
  is:vw S'=up (vw S) id none
theorem Et {T:Nat} {S:SS} {id:Int} {x:ShE} (h:ShI Kp T S) (hx:S.all id=some x) (hp:x.place=1):DelS T S {offFrame S x.at_ with all:=up S.all id none} id:= by
  have h1:=(h.offFrame (fun q=>q) hx hp U).gone (j:=id) (.inr U)
  refine⟨h1.congr fun i _=>⟨fun ⟨a,b⟩=>b (a.resolve_left fun q=>q),False.elim⟩,⟨⟨[x.at_],rfl, fun j y hy hp1=> ?_⟩,rfl,rfl, by show(S.fr.set _ _).length=_; rw[List.length_set]⟩,Pm U⟩
  by_cases q:j=id
  · subst q; rw[hx]at hy; cases hy; exact .inl (by simp)
  · exact .inr ⟨y, by show up S.all id _ j=_; rw[Zv q]; exact hy,hp1,rfl⟩
theorem ShF.del {S S':SS} {id:Int} {x:ShE} (hx:S.all id=some x) (hp:x.place≠1) (ha:S'.all=up S.all id none) (ht:S'.taken=S.taken) (hb:S'.budget=S.budget) (hs:S'.slots=S.slots) (hf:S'.fr=S.fr):ShF S S':= by
  refine⟨⟨[], by rw[ht]; simp, fun j y hy hp1=> .inr ⟨y, ?_,hp1,rfl⟩⟩,hb,hs, by rw[hf]⟩
  rw[ha,Zv (fun q=> by subst q; rw[hx]at hy; cases hy; exact hp hp1)]; exact hy
theorem GA {T:Nat} {S:SS} {id:Int} {x:ShE} (h:ShI Kp T S) (hx:S.all id=some x) (hp:x.place=2):ShI (one id) T {S with cache:=S.cache.filter (fun n=> !decide (n=id))}:=
  (h.offCache hx hp (List.filter_sublist) (fun i=> by rw[List.mem_filter]; simp)).congr fun i _=>⟨fun q=>q.resolve_left fun q=>q, fun q=> .inr q⟩
theorem Eu {T:Nat} {S:SS} {id:Int} {x:ShE} (h:ShI Kp T S) (hx:S.all id=some x) (hp:x.place=2):DelS T S {S with cache:=S.cache.filter (fun n=> !decide (n=id)),all:=up S.all id none} id:= by
  have h1:=((GA h hx hp).gone (j:=id) U).mono (Nat.le_add_right T 1)
  exact⟨h1.congr fun i _=>⟨fun ⟨a,b⟩=>b a,False.elim⟩,ShF.del hx (by omega) U U U U U,Pm U⟩
theorem Vh {E:Int→Prop} {T:Nat} {S:SS} {id:Int} {x:ShE} (h:ShI E T S) (hE: ¬E id) (hx:S.all id=some x) (hp:x.place=3):GG S.sl x.at_=true∧Dd S.sl x.at_=x.pg∧KI S.sl x.at_=S.sl.set x.at_.toNat []:= by
  obtain⟨h0,h1⟩:=h.slt hE hx hp
  have h64:=(h.ent hx).2.2.2.2.1
  have hne:x.pg≠[]:= fun q=> by rw[q]at h64; simp at h64
  have hb:GG S.sl x.at_=true:= by unfold GG; rw[h1]; simp [h0,hne]
  exact⟨hb, by unfold Dd; rw[if_pos hb,h1];rfl, by unfold KI; rw[if_pos hb]⟩
theorem D0 {T:Nat} {S:SS} {id:Int} {x:ShE} (h:ShI Kp T S) (hx:S.all id=some x) (hp:x.place=3):ShI (one id) T {S with sl:=S.sl.set x.at_.toNat []}:=
  (h.offSlot (fun q=>q) hx hp).congr fun i _=>⟨fun q=>q.resolve_left fun q=>q, fun q=> .inr q⟩
theorem Ix {T:Nat} {S:SS} {id:Int} {x:ShE} (h:ShI Kp T S) (hx:S.all id=some x) (hp:x.place=3):DelS T S {S with sl:=S.sl.set x.at_.toNat [],all:=up S.all id none} id:= by
  have h1:=((D0 h hx hp).gone (j:=id) U).mono (Nat.le_add_right T 1)
  exact⟨h1.congr fun i _=>⟨fun ⟨a,b⟩=>b a,False.elim⟩,ShF.del hx (by omega) U U U U U,Pm U⟩
def YZ (S:SS) (id:Int):Bs:= match S.all id with | none=> if id=0 then zer else[] | some x=>x.pg
theorem eqU (c:Nat) (id:Int):EqF prog 154 c id:=⟨cal_154, fun n w X hS=> by
  refine Qm func154 U ntmps154 U ?_
  refine Qd (Qa (Qe U U (Qf (Qc (Qd (Qa (Qb U U (Qr U QL (hS.cell 0 U U) U (Xq U U U (Qe U U (Qf (Qc (Qu (QY (.inr U) U U ?_))))))))))))))
  exact⟨_,U,U,hS⟩⟩
theorem eqB (c:Nat) (id:Int):EqF prog 157 c id:=⟨cal_157, fun n w X hS=> by
  refine Qm func157 U ntmps157 U ?_
  refine Qd (Qa (Qe U U (Qf (Qc (Qd (Qa (Qb U U (Qr U QL (hS.cell 0 U U) U (Xq U U U (Qe U U (Qf (Qc (Qu (QY (.inr U) U U ?_))))))))))))))
  exact⟨_,U,U,hS⟩⟩
theorem Pz {w:World} {p:Nat} {S:SS} {F:Th} (hS:Sat w [Yr p S,F]) {N:Nat} (hI:ShI Kp N S) (hN:N≤80000000000) (id:Int):
    Calls prog 104 #[ptrV p 0,intV id] w (Ret fun v w'=>(match S.all id with | none=>v=(if id=0 then intV 0 else intV 4)∧Sat w' [Yr p S,F] | some x=>v=intV 0∧((1<x.refs∧Sat w' [Yr p {S with all:=up S.all id (some {x with refs:=x.refs -1})},F])∨(x.refs=1∧ ∃S',DelS N S S' id∧Sat w' [Yr p S',F])))):= by
 obtain⟨ba,bi,fp,sp,kp,ac,cc,at2,ct,hS⟩:=Zf hS
 cases hid:S.all id with
 | none=>
  dsimp only
  refine Qm func104 U ntmps104 U ?_
  refine Qd (Qa (XR hS U U U ?_))
  intro b1 w1 j1
  refine Qe U U (Qf (Qc (Qd ?_)))
  have j2:=j1.drew
  refine QE [0,1,2,3,4,5,6,7,8,9,10,11] [9,10] Wa (by kernel_rfl) ?_
  refine Q9 U U U (Xi U U U (QQ U U U XI (Q4 U U U (Ql U Zs (j2.cell 1 U U)) (Q4 U U U (Ql U QL (j2.cell 0 U U)) (Q4 U U U (WM (k:=id) 2 j2 keysInt underlying108 U U U XO (u:=(.agg #[intV 0,intV 0,intV 0,strV []])) (g:=false) (H1 hid) (Hh hid)) (Q9 U U U (Wi U U U U (Wi U U U U (Xe U U U U U U ?_)))))))))
  refine Xa j2 XO U U ?_
  intro b3 w3 j3
  refine Xz (.cons (.inl ⟨U,(WM (k:=id) 3 j3 keysInt underlying108 U U U XO (u:=(.agg #[intV 0,intV 0,intV 0,strV []])) (g:=false) (H1 hid) (Hh hid))⟩) (.cons (.inl ⟨U,(Ql U QL (j3.cell 1 U U))⟩) (.cons (.inl ⟨U,(Ql U Zs (j3.cell 2 U U))⟩) .nil))) (Xe U U U U U U ?_)
  (refine QG j3 U U Yi U (by rfl) (i:=0) U (by decide) ?_)
  intro w4 j5; dsimp only[List.set]at j5
  refine Zu (Xj (by kernel_rfl)) ?_
  refine XK U U U (VC.nil (Qc (Qh [0,3,4,5,6] U (Qd (Qd (Qa (Qb U U (Xb U U (Qf (Qc (QT U (fun h6=> ?_) (fun h6=> ?_))))))))))))
  ·refine Qd (Qd (Qa (Qr U QL (by first | exact j5.cell 0 U U | exact j5.cell 1 U U | exact j5.cell 2 U U) U ?_)))
   refine Xq U U U (Qf (Qc (Qt U (fun h7=> ?_) (fun h7=> ?_))))
   ·exact Qd (Qa (Qe U U (Qf (Qc (Qu (Qp (Qp (QY (.inr U) U U (⟨_,rfl, by rw[if_pos (by omega)],Xh (j5.pick [2,3,4,5,6,7,8,9,10] U)⟩)))))))))
   exact Qs (Qc (Qd (Qa (Qe U U (Qf (Qc (Qu (Qp (QY (.inr U) U U (⟨_,rfl, by rw[if_neg (by omega)],Xh (j5.pick [2,3,4,5,6,7,8,9,10] U)⟩))))))))))
  exact absurd h6 (by simp)
 | some x=>
  obtain⟨hid1,_,hr1,hr2,_,hplc⟩:=hI.ent hid
  dsimp only
  refine Qm func104 U ntmps104 U ?_
  refine Qd (Qa (XR hS U U U ?_))
  intro b1 w1 j1
  refine Qe U U (Qf (Qc (Qd ?_)))
  have j2:=j1.drew
  refine QE [0,1,2,3,4,5,6,7,8,9,10,11] [9,10] Wa (by kernel_rfl) ?_
  refine Q9 U U U (Xi U U U (QQ U U U XI (Q4 U U U (Ql U Zs (j2.cell 1 U U)) (Q4 U U U (Ql U QL (j2.cell 0 U U)) (Q4 U U U (WM (k:=id) 2 j2 keysInt underlying108 U U U XO (u:=(.agg #[intV x.refs,intV x.place,intV x.at_,strV (KW x)])) (g:=true) (J7 hid) (Hg hid)) (Q9 U U U (Wi U U U U (Wi U U U U (Xe U U U U U U ?_)))))))))
  refine Xa j2 XO U U ?_
  intro b3 w3 j3
  refine Xz (.cons (.inl ⟨U,(WM (k:=id) 3 j3 keysInt underlying108 U U U XO (u:=(.agg #[intV x.refs,intV x.place,intV x.at_,strV (KW x)])) (g:=true) (J7 hid) (Hg hid))⟩) (.cons (.inl ⟨U,(Ql U QL (j3.cell 1 U U))⟩) (.cons (.inl ⟨U,(Ql U Zs (j3.cell 2 U U))⟩) .nil))) (Xe U U U U U U ?_)
  (refine QG j3 U U Yi U (by rfl) (i:=0) U (by decide) ?_)
  intro w4 j5; dsimp only[List.set]at j5
  refine Zu (Xj (by kernel_rfl)) ?_
  refine XK U U U (VC.nil (Qc (Qh [0,3,4,5,6] U (Qd (Qd (Qa (Qb U U (Xb U U (Qf (Qc (QT U (fun h6=> ?_) (fun h6=> ?_))))))))))))
  ·exact absurd h6 (by simp)
  refine Qs (Qc (Qd (Qd (Qa (Qg U JD U (Qr U QL (j5.cell 0 U U) U (VB U U (by omega) (by omega) U ?_)))))))
  refine Qg U JD U ?_
  (refine QV j5 U U Yq (by rfl) (i:=0) U (Xv U) ?_)
  intro w7 j8; dsimp only[List.set]at j8
  refine Qf (Qc (Qh [0,3,4,5] U (Qd (Qa (Qg U JD U (Qr U QL (j8.cell 0 U U) U (YF U U U (Qf (Qc (Qt U (fun h9=> ?_) (fun h9=> ?_)))))))))))
  ·refine Qd ?_
   have j10:=j8.drew
   refine QE [0,1,2,3,4,5,6] [6] Wa (by kernel_rfl) ?_
   refine Q9 U U U (Xi U U U (QQ U U U XI (Q4 U U U (Ql U Zs (j10.cell 2 U U)) (Q4 U U U (Ql U QL (j10.cell 1 U U)) (Q4 U U U (XB U qao Yi (j10.blk 0 U) (Xv U) U) (Xe U U U U U U ?_))))))
   refine Xp (k:=id) (v:=S5 {x with refs:=x.refs -1}) 3 j10 keysInt underlying108 U U U U ?_
   intro w11 hS11a; dsimp only[List.set]at hS11a; have j11:=hS11a; rw[KA]at j11
   refine Zu (Xj (by kernel_rfl)) ?_
   exact VC.nil (Qc (Qh [0,3,4,5] U (Qd (Qa (Qe U U (Qf (Qc (Qu (Qp (QY (.inr U) U U (⟨_,rfl,rfl,.inl ⟨by omega,Xh (S:={S with all:=up S.all id (some {x with refs:=x.refs -1})}) (j11.pick [2,3,4,5,6,7,8,9,10] U)⟩⟩)))))))))))
  refine Qs (Qc (Qd (Qd (Qa (Qg U Hc U (Qr U QL (j8.cell 0 U U) U (Qf (Qc (Qw (Qd (Qa (Xq U U U (Qe U U (Qf (Qc (Qh [0,3,4,5,34,35] U (Qt U (fun h12=> ?_) (fun h12=> ?_))))))))))))))))))
  ·have hp1:x.place=1:=h12
   refine Qa (Qb U U (Qg U Y9 U (Qr U QL (j8.cell 0 U U) U ?_)))
   have j13:=Xh (j8.pick [2,3,4,5,6,7,8,9,0,1,10] U)
   refine Qv Cj U (Gz (j13.sp [0] U) (f:=x.at_) (b0:=x.pg) (hI.frc (fun q=>q) hid hp1) (by show S.ck.length=S.fr.length; rw[hI.ck,List.length_map]) (by have :=hI.tln;omega)) U ?_
   rintro _ w14 ⟨rfl,j14⟩
   replace j14:=j14.jn U U
   obtain⟨ba,bi,fp,sp,kp,ac,cc,at2,ct,hSo15⟩:=Zf (j14.pick [0,1,2,3] rfl)
   refine Qf (Qk (Qc (Qd ?_)))
   have j16:=hSo15.drew
   refine QE [0,1,2,3,4,5] [5] Wa (by kernel_rfl) ?_
   refine Q9 U U U (Xi U U U (QQ U U U XI (Q4 U U U (Ql U Zs (j16.cell 0 U U)) (Q4 U U U (Ql U QL (j16.cell 9 U U)) (Xe U U U U U U ?_)))))
   refine YG (k:=id) 1 j16 keysInt underlying108 U U U U ?_
   intro w17 j17; dsimp only[List.set]at j17; rw[Sr]at j17
   refine Zu (Xj (by kernel_rfl)) ?_
   exact VC.nil (Qc (Qh [4] U (Qd (Qa (Qe U U (Qf (Qc (Qu (QY (.inr U) U U (⟨_,rfl,rfl,.inr ⟨by omega,_,Et hI hid hp1,Xh (S:={offFrame S x.at_ with all:=up S.all id none}) (j17.pick [0,1,2,3,4,5,6,7,10] U)⟩⟩))))))))))
  refine Qd (Qa (Xq U U U (Qe U U (Qf (Qc (Qt U (fun h18=> ?_) (fun h18=> ?_)))))))
  ·have hp2:x.place=2:=h18
   refine Qa (Qb U U (Qb U U (Qj U U (Qg U Wt U (Qr U J5 (j8.cell 2 U U) U ?_)))))
   refine Qv GN U (HA (j8.sp [] U) (Ent.starL (Jn (C:=inC) (l:=S.cache) (by have :=hI.cln;omega)) 5 U) (by have :=hI.cln;omega)) U ?_
   rintro _ w19 j19
   replace j19:=j19.jn U U
   have h1n:=j19.own_one 0 U
   refine Z7 U U ?_
   refine Qv Ci U (TQ (eqU _ id) (j19.sp [0,2] U) (by have :=hI.cln;omega)) U ?_
   rintro _ w20 j20
   replace j20:=j20.jn U U
   have h1d:=j20.own_one 0 U
   refine Qj U U (Qg U Wt U ?_)
   (refine QV j20 U U Vf (by assumption) (i:=3) U (Xv U) ?_)
   intro w21 j22; dsimp only[List.set]at j22
   refine Qf (Qk (Qc (Qh [0,3,4] U (Qd ?_))))
   have j23:=j22.drew
   refine QE [0,1,2,3,4,5] [5] Wa (by kernel_rfl) ?_
   refine Q9 U U U (Xi U U U (QQ U U U XI (Q4 U U U (Ql U Zs (j23.cell 3 U U)) (Q4 U U U (Ql U QL (j23.cell 1 U U)) (Xe U U U U U U ?_)))))
   refine YG (k:=id) 4 j23 keysInt underlying108 U U U U ?_
   intro w24 j24; dsimp only[List.set]at j24; rw[Sr]at j24
   refine Zu (Xj (by kernel_rfl)) ?_
   exact VC.nil (Qc (Qd (Qa (Qe U U (Qf (Qc (Qu (QY (.inr U) U U (⟨_,rfl,rfl,.inr ⟨by omega,_,Eu hI hid hp2,Xh (S:={S with cache:=S.cache.filter (fun n=> !decide (n=id)),all:=up S.all id none}) (j24.pick [3,4,5,0,7,8,9,10,11] U)⟩⟩)))))))))
  refine Qd (Qa (Xq U U U (Qe U U (Qf (Qc (Qt U (fun h25=> ?_) (fun h25=> ?_)))))))
  ·have hp3:x.place=3:=h25
   have j26:=j8.drew
   refine QE [0,1,2,3,4,5,6] [6] Wa (by kernel_rfl) ?_
   refine Q9 U U U (Xi U U U (QQ U U U Yf (Q4 U U U (Ql U Uj (j26.cell 2 U U)) (QQ U U U Y9 (Q4 U U U (Ql U QL (j26.cell 0 U U)) (Xe U U U U U U ?_))))))
   refine Qv Ch U (Gw (j26.sp [7] U) x.at_) U ?_
   rintro _ w27 ⟨rfl,j27⟩
   replace j27:=j27.jn U U
   rw[(Vh hI (fun q=>q) hid hp3).2.2]at j27
   refine Xz (Xj (by kernel_rfl)) ?_
   refine VC.nil (Qk (Qc (Qh [0,3,4] U (Qd ?_))))
   have j28:=j27.drew
   refine QE [0,1,2,3,4,5] [5] Wa (by kernel_rfl) ?_
   refine Q9 U U U (Xi U U U (QQ U U U XI (Q4 U U U (Ql U Zs (j28.cell 3 U U)) (Q4 U U U (Ql U QL (j28.cell 2 U U)) (Xe U U U U U U ?_)))))
   refine YG (k:=id) 4 j28 keysInt underlying108 U U U U ?_
   intro w29 j29; dsimp only[List.set]at j29; rw[Sr]at j29
   refine Zu (Xj (by kernel_rfl)) ?_
   exact VC.nil (Qc (Qd (Qa (Qe U U (Qf (Qc (Qu (QY (.inr U) U U (⟨_,rfl,rfl,.inr ⟨by omega,_,Ix hI hid hp3,Xh (S:={S with sl:=S.sl.set x.at_.toNat [],all:=up S.all id none}) (j29.pick [3,4,5,6,7,0,8,9,10] U)⟩⟩)))))))))
  exact absurd hplc (by omega)
theorem MA {w:World} {p:Nat} {S:SS} {F:Th} (hS:Sat w [Yr p S,F]) {E:Int→Prop} {N:Nat} (hI:ShI E N S) (id:Int) (hE: ¬E id):
    Calls prog 34 #[ptrV p 0,intV id] w (Ret fun v w'=>v=strV (YZ S id)∧Sat w' [Yr p S,F]):= by
 obtain⟨ba,bi,fp,sp,kp,ac,cc,at2,ct,hS⟩:=Zf hS
 cases hid:S.all id with
 | none=>
  refine Qm func34 U ntmps34 U ?_
  refine Qd (Qa (Qe U U (Qf (Qc (Qd (Qa (Qb U U (Qj U U (Qg U XI U (Qr U Zs (hS.cell 0 U U) U (Qb U U (Ww (k:=id) 1 hS keysInt underlying108 U U U XO (u:=(.agg #[intV 0,intV 0,intV 0,strV []])) (g:=false) (H1 hid) (Hh hid) U (Qb U U (Qn U U U (Qn U U U (Xa hS XO U U ?_))))))))))))))))
  intro b1 w1 j1
  (refine QG j1 U U Yi U (by rfl) (i:=0) U (by decide) ?_)
  intro w2 j3; dsimp only[List.set]at j3
  refine Qe U U (Qf (Qc (Qh [1,0,4,5,6] U (Qd (Qw (Qd (Qa (Qb U U (Xq U U U (Qe U U (Qf (Qc (Qt U (fun h4=> ?_) (fun h4=> ?_))))))))))))))
  ·refine Qd (Qa (Qv IB U (NM (j3.sp [] U) zer (by decide)) U ?_))
   rintro _ w5 ⟨rfl,j5⟩
   replace j5:=j5.jn U U
   refine Qe U U (Qf (Qc (Qu (Qz (Qp (QY (.inr U) U U ?_))))))
   exact⟨_,rfl, by unfold YZ; rw[hid]; dsimp only; rw[if_pos (by omega)],Xh (j5.pick [1,2,3,4,5,6,7,8,9] U)⟩
  refine Qd (Qa (Qb U U (Xb U U (Qe U U (Qf (Qc (Qh [0,4,5,24] U (QT U (fun h6=> ?_) (fun h6=> ?_)))))))))
  ·refine Qd (Qa (Qe U U (Qf (Qc (Qu (Qz (Qp (QY (.inr U) U U ?_))))))))
   exact⟨_,rfl, by unfold YZ; rw[hid]; dsimp only; rw[if_neg (by omega)],Xh (j3.pick [1,2,3,4,5,6,7,8,9] U)⟩
  exact absurd h6 (by simp)
 | some x=>
  obtain⟨hid1,_,hr1,hr2,_,hplc⟩:=hI.ent hid
  refine Qm func34 U ntmps34 U ?_
  refine Qd (Qa (Qe U U (Qf (Qc (Qd (Qa (Qb U U (Qj U U (Qg U XI U (Qr U Zs (hS.cell 0 U U) U (Qb U U (Ww (k:=id) 1 hS keysInt underlying108 U U U XO (u:=(.agg #[intV x.refs,intV x.place,intV x.at_,strV (KW x)])) (g:=true) (J7 hid) (Hg hid) U (Qb U U (Qn U U U (Qn U U U (Xa hS XO U U ?_))))))))))))))))
  intro b1 w1 j1
  (refine QG j1 U U Yi U (by rfl) (i:=0) U (by decide) ?_)
  intro w2 j3; dsimp only[List.set]at j3
  refine Qe U U (Qf (Qc (Qh [1,0,4,5,6] U (Qd (Qw (Qd (Qa (Qb U U (Xq U U U (Qe U U (Qf (Qc (Qt U (fun h4=> ?_) (fun h4=> ?_))))))))))))))
  ·exact absurd h4 (by omega)
  refine Qd (Qa (Qb U U (Xb U U (Qe U U (Qf (Qc (Qh [0,4,5,24] U (QT U (fun h5=> ?_) (fun h5=> ?_)))))))))
  ·exact absurd h5 (by simp)
  refine Qd (Qa (Qg U Hc U (Qr U QL (j3.cell 0 U U) U (Xq U U U (Qe U U (Qf (Qc (Qt U (fun h6=> ?_) (fun h6=> ?_)))))))))
  ·have hp1:x.place=1:=h6
   refine Qd ?_
   have j7:=j3.drew
   refine QE [0,1,2,3,4,5,6,7] [6] Wa (by kernel_rfl) ?_
   refine Q9 U U U (Xi U U U (QQ U U U W2 (Q4 U U U (Ql U YC (j7.cell 1 U U)) (QQ U U U Y9 (Q4 U U U (Ql U QL (j7.cell 0 U U)) (Xe U U U U U U ?_))))))
   refine Qv Sg U (GH (j7.sp [5] U) x.at_) U ?_
   rintro _ w8 ⟨rfl,j8⟩
   replace j8:=j8.jn U U
   rw[hI.frc hE hid hp1]
   dsimp only[Option.getD_some]
   refine Xz (Xj (by kernel_rfl)) ?_
   refine XK U U U (VC.nil (Qc (Qh [0,5,4] U (Qu (Qz (Qp (QY (.inr U) U U ?_)))))))
   exact⟨_,rfl, by unfold YZ; rw[hid],Xh (j8.pick [2,3,4,5,0,6,7,8,9] U)⟩
  refine Qd (Qa (Qg U Hc U (Qr U QL (j3.cell 0 U U) U (Xq U U U (Qe U U (Qf (Qc (Qh [0,4,5,38] U (Qt U (fun h9=> ?_) (fun h9=> ?_))))))))))
  ·have hp2:x.place=2:=h9
   refine Qd (Qa (Qg U DD U (Qr U W9 (j3.cell 0 U U) U ?_)))
   obtain⟨fy,hfy⟩:=Option.ne_none_iff_exists'.1 (hI.pck hE hid hp2).2
   have hfme:KW x=fy:= by unfold KW fm; rw[if_pos hp2,hfy];rfl
   refine Qv Sf U (Gt (j3.sp [] U) (hI.ent hid).2.2.2.2.1 (by rw[hfme]; exact hfy)) U ?_
   rintro _ w10 ⟨rfl,j10⟩
   replace j10:=j10.jn U U
   refine Qb U U (Qn U U U (Qn U U U (Qe U U (Qe U U (Qf (Qc (Qh [0,4,5,7] U (Qd (Qa (Qb U U (Qe U U (Qf (Qc (Qu (Qz (Qp (QY (.inr U) U U ?_)))))))))))))))))
   exact⟨_,rfl, by unfold YZ; rw[hid],Xh (j10.pick [1,2,3,4,5,6,7,8,9] U)⟩
  refine Qs (Qk (Qc (Qd ?_)))
  have hp3:x.place=3:= by omega
  have j11:=j3.drew
  refine QE [0,1,2,3,4,5,6,7,8,9,10,11] [6] Wa (by kernel_rfl) ?_
  refine Q9 U U U (Xi U U U (QQ U U U Yf (Q4 U U U (Ql U Uj (j11.cell 1 U U)) (QQ U U U Y9 (Q4 U U U (Ql U QL (j11.cell 0 U U)) (Xe U U U U U U ?_))))))
  refine Qv IA U (C7 (j11.sp [6] U) x.at_) U ?_
  rintro _ w12 ⟨eg,rfl,j12⟩
  replace j12:=j12.jn U U
  rw[(Vh hI hE hid hp3).2.1]
  refine Xz (Xj (by kernel_rfl)) ?_
  refine Q9 U U U (Wi U U U U (Wi U U U U (XK U U U (XK U U U (VC.nil (Qc (Qh [4,9] U (Qd (Qa (Qb U U (Qe U U (Qf (Qc (Qu (QY (.inr U) U U ?_)))))))))))))))
  exact⟨_,rfl, by unfold YZ; rw[hid],Xh (j12.pick [2,3,4,5,6,0,7,8,9] U)⟩
def Ly (S:SS) (id at_:Int):UInt8:= if 0≤at_∧at_<64 then(YZ S id).getD at_.toNat 0 else 0
theorem Og {E:Int→Prop} {N:Nat} {S:SS} (hI:ShI E N S) (id:Int):(YZ S id).length=64∨YZ S id=[]:= by
  unfold YZ
  cases hid:S.all id with
  | none=> dsimp only;split;(left;decide);right;rfl
  | some x=> exact .inl (hI.ent hid).2.2.2.2.1
theorem Lx {w:World} {p:Nat} {S:SS} {F:Th} (hS:Sat w [Yr p S,F]) {N:Nat} (hI:ShI Kp N S) (hN:N≤80000000000) (id at_:Int):
    Calls prog 47 #[ptrV p 0,intV id,intV at_] w (Ret fun v w'=>v=WA (Ly S id at_)∧Sat w' [Yr p S,F]):= by
 refine Qm func47 U ntmps47 U ?_
 refine Qd (Qa (Qe U U (Qf (Qc (Qd (Qd (Qa (Qb U U (Xk U U U (Qb U U (Xc 10 U (fun h1=> ?_) (fun h1=> ?_))))))))))))
 ·refine Qi U U (Xm h1) U (Qi U U (Xm h1) U (QK U (Xm h1) U U (Qf (Qc (Xd U (Qd (Qa (Qe U U (Qf (Qc (Qu (Qp (QY (.inr U) U U ?_)))))))))))))
  exact⟨_,rfl, by unfold Ly; rw[if_neg (by omega)];rfl,hS.pick [0,1] U⟩
 refine Qo U U (Q7 h1) (Qb U U (Qo U U (Q7 h1) (Jf U U U (QW U (Q7 h1) U U (Qf (Qc (Qt U (fun h2=> ?_) (fun h2=> ?_))))))))
 ·refine Qd (Qa (Qe U U (Qf (Qc (Qu (Qp (QY (.inr U) U U ?_)))))))
  exact⟨_,rfl, by unfold Ly; rw[if_neg (by omega)];rfl,hS.pick [0,1] U⟩
 refine Qs (Qc (Qd (Qd (Qa (Qb U U (Qb U U (Qv W5 U (MA (hS.sp [0] U) hI id (fun q=>q)) U ?_)))))))
 rintro _ w3 ⟨rfl,j3⟩
 replace j3:=j3.jn U U
 refine Qe U U (Qf (Qc (Qh [2,6,7] U (Qd (Qa (Qb U U (By U U U (Qf (Qc (Qt U (fun h4=> ?_) (fun h4=> ?_)))))))))))
 ·have hpn:YZ S id≠[]:=h4
  obtain⟨cb,hcb⟩: ∃c,(YZ S id)[at_.toNat]? =some c:=⟨_,Zq (by have :=(Og hI id).resolve_right hpn;omega)⟩
  refine Qd (Qa (Qb U U (Qb U U (H5 at_.toNat underlying9 U U (by omega) hcb U ?_))))
  refine Qe U U (Qf (Qc (Qu (Qp (QY (.inr U) U U ?_)))))
  exact⟨_,rfl, by unfold Ly; rw[if_pos (by omega),List.getD_eq_getElem?_getD,hcb];rfl,j3.pick [0,1] U⟩
 have hpn: ¬YZ S id≠[]:=h4
 refine Qs (Qc (Qd (Qa (Qe U U (Qf (Qc (Qu (QY (.inr U) U U ?_))))))))
 exact⟨_,rfl, by unfold Ly; rw[if_pos (by omega), show YZ S id=[] from Decidable.not_not.1 hpn];rfl,j3.pick [0,1] U⟩
