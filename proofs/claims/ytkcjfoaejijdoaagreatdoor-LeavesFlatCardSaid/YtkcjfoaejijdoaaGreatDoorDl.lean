/- slices.IndexFunc, DeleteFunc -/
import Derived.Test.YtkcjfoaejijdoaaGreatDoorFw
import Derived.Test.YtkcjfoaejijdoaaGreatDoorSh7
set_option linter.unusedVariables false
set_option maxRecDepth 100000
set_option maxHeartbeats 80000000000
namespace Go.Proofs.YtkcjfoaejijdoaaGreatDoor
open Go.RowKit M
def EqF (P:Program) (g:Nat) (c:Nat) (id:Int):Prop:=QH P g=true∧ ∀(n:Int) (w:World) (X:Th),Sat w [QF c [intV id],X]→Calls P g #[intV n,ptrV c 0] w (Ret fun v w'=>v= .bool (decide (n=id))∧Sat w' [QF c [intV id],X])
theorem ixI_sp {w:World} {g c:Nat} {id:Int} {F:Th} (hE:EqF Tryz.prog g c id) (hS:Sat w [QF c [intV id],F]) {lv:Value} {l:List Int} (hL:Ent F (RdL inC lv l)):
    Calls Tryz.prog 85 #[lv,.func (.func g) #[] #[ptrV c 0]] w (Ret fun v w'=>(v=intV (-1)∧(∀y∈l,y≠id)∧Sat w' [QF c [intV id],F])∨(∃k:Nat,v=intV (k:Int)∧l[k]? =some id∧(∀j y,j<k→l[j]? =some y→y≠id)∧Sat w' [QF c [intV id],F])):= by
 obtain⟨ao,cap,rfl,hmax⟩:=(hL.sat hS 1 rfl).shape
 refine Qq Tryz.func85 rfl Tryz.ntmps85 rfl ?_
 refine Qd (Qa (Qe rfl rfl (Qf (Qc (Qd (Qd (Qa (Qb rfl rfl (X5 Tryz.underlying47 rfl rfl (Qb rfl rfl (Qf (Qc (Qw ?_)))))))))))))
 refine Xe (fun K0 E0 W0=> ∃(i:Nat),K0=l.length -i∧E0=[(0,.slice ao l.length cap),(1,.func (.func g) #[] #[ptrV c 0]),(7,intV (l.length:Int)),(8,intV (i:Int))]∧Sat W0 [QF c [intV id],F]∧(i≤l.length)∧(∀j y,j<i→l[j]? =some y→y≠id)) (L0:=[(0,_),(1,_),(7,_),(8,_)]) (l.length -0) (Vk rfl rfl rfl rfl) ⟨0,rfl,rfl,hS, by omega, by omega⟩ ?_
 rintro _ _ w1 ⟨i,rfl,rfl,hS1,hi,hno⟩
 refine Qd (Qa (Xb rfl rfl rfl (Qf (Qc (Qd (Qs rfl (fun h2=> ?_) (fun h2=> ?_)))))))
 ·obtain⟨x,hx⟩: ∃x,l[i]? =some x:=⟨_,Zd (by omega)⟩
  obtain⟨b,off,rfl,_⟩:=(hL.sat hS1 1 rfl).get hx
  refine Qr (Qc (Qd (Qw (Qd (Qa (Qb rfl rfl (Qe rfl rfl (Qf (Qc (Qd (Qa (Qb rfl rfl (Qb rfl rfl (Qb rfl rfl (XI i rfl rfl (by first | rfl | omega) ((XQ hx).1) Ge rfl ?_)))))))))))))))
  refine Qo rfl QO (((hL.sat hS1 1 rfl).at_ hx) 0 _ rfl) rfl (D3 rfl hE.1 rfl (hE.2 _ _ _ (hS1.sp [0] rfl)) rfl ?_)
  rintro e w3 ⟨_,rfl,rfl,hS3⟩; refine⟨_,rfl, ?_⟩
  replace hS3:=hS3.jn rfl rfl
  clear hS1
  refine Qf (Qc (Qi [8,7,1,0,5,16] rfl (Qs rfl (fun h4=> ?_) (fun h4=> ?_))))
  ·have heq:x=id:=h4
   refine Qd (Qa (Qb rfl rfl (Qe rfl rfl (Qf (Qc (Qu (Qx (Qn (Qn (Qx (Qn (QQ (.inr rfl) rfl rfl ?_))))))))))))
   exact⟨_,rfl,.inr ⟨i,rfl, by rw[hx,heq],hno,hS3.pick [0,1] rfl⟩⟩
  have hne:x≠id:=h4
  refine Qr (Ql (Qc (Qa (QK rfl rfl (by omega) (by omega) rfl ?_))))
  refine Qb rfl rfl (Qf ?_)
  exact Q6 (L1:=[(0,_),(1,_),(7,_),(8,intV ((i+1:Nat):Int))]) (Vk rfl rfl rfl rfl) (k1:=l.length -(i+1)) (by omega) ⟨i+1,rfl,rfl,hS3.pick [0,1] rfl, by omega, fun j y hj hq=> by by_cases e:j=i;(subst e; rw[hx]at hq; cases hq; exact hne); exact hno j y (by omega) hq⟩
 refine QS (Qp (Qp (Qz (Qc (Qd (Qa (Qe rfl rfl (Qf (Qc (Qu (QQ (.inr rfl) rfl rfl ?_)))))))))))
 exact⟨_,rfl,.inl ⟨rfl, fun y hm=> by obtain⟨j,hj⟩:=List.mem_iff_getElem?.1 hm; exact hno j y (by have :=(XQ hj).1;omega) hj,hS1.pick [0,1] rfl⟩⟩
theorem CP {w:World} {g c:Nat} {id:Int} {F:Th} (hE:EqF Tryz.prog g c id) {sv:Value} {l:List Int} (hS:Sat w [rowT inC sv l,QF c [intV id],F]) (hln:l.length≤100000000000):
    Calls Tryz.prog 153 #[sv,.func (.func g) #[] #[ptrV c 0]] w (Ret fun v w'=>Sat w' [rowT inC v (l.filter (fun n=> !decide (n=id))),QF c [intV id],F]):= by
 obtain⟨ao,cap,rfl,hcap0,_⟩:=hS.own_shape 0 rfl
 refine Qq Tryz.func153 rfl Tryz.ntmps153 rfl ?_
 refine Qd (Qa (Qe rfl rfl (Qf (Qc (Qd (Qa (Qb rfl rfl (Qb rfl rfl (XY cal_85 rfl (ixI_sp hE (hS.sp [1] rfl) (l:=l) (Ent.starL (Hj (C:=inC) (l:=l) (by omega)) 0 rfl)) rfl ?_)))))))))
 rintro e w1 ⟨_,rfl,(⟨rfl,hno,hS1⟩ | ⟨k,rfl,hk,hno,hS1⟩)⟩
 ·refine⟨_,rfl, ?_⟩
  replace hS1:=hS1.jn rfl rfl
  refine Qe rfl rfl (Qf (Qc (Qd (Qd (Qa (Qb rfl rfl (QX rfl rfl rfl (Qf (Qc (Qs rfl (fun h2=> ?_) (fun h2=> ?_)))))))))))
  ·refine Qd (Qa (Qb rfl rfl (Qe rfl rfl (Qf (Qc (Qu (Qn (QQ (.inr rfl) rfl rfl ?_))))))))
   exact⟨_,rfl, by rw[show l.filter (fun n=> !decide (n=id))=l from List.filter_eq_self.2 (fun y hy=> by simpa using hno y hy)]; exact hS1.pick [1,0,2] rfl⟩
  exact absurd rfl h2
 refine⟨_,rfl, ?_⟩
 replace hS1:=hS1.jn rfl rfl
 refine Qe rfl rfl (Qf (Qc (Qd (Qd (Qa (Qb rfl rfl (QX rfl rfl rfl (Qf (Qc (Qs rfl (fun h3=> ?_) (fun h3=> ?_)))))))))))
 ·exact absurd h3 (by omega)
 refine Qr (Qc (Qd (Qd ?_)))
 have hkl:=(XQ hk).1
 obtain⟨ob,oc9,hq9,hcap⟩:=hS1.own_at 1 rfl (by omega)
 cases hq9
 refine Qa (Qb rfl rfl (QK rfl rfl (by omega) (by omega) rfl ?_))
 refine Qe rfl rfl (Qf (Qc (Qi [1,0,4,5,6] rfl (Qw ?_))))
 have hq0:=hS1.pick [1,0,2] rfl
 refine Xe (fun K0 E0 W0=> ∃(l1:List Int) (i j:Nat),K0=l.length -j∧E0=[(0,.slice (some ⟨ob,0,none⟩) l.length cap),(1,.func (.func g) #[] #[ptrV c 0]),(5,intV (i:Int)),(6,intV (j:Int))]∧Sat W0 [rowT inC (.slice (some ⟨ob,0,none⟩) l.length cap) l1,QF c [intV id],F]∧(i<j)∧(j≤l.length)∧(l1.length=l.length)∧(l1.take i=(l.take j).filter (fun n=> !decide (n=id)))∧(l1.drop j=l.drop j)) (L0:=[(0,_),(1,_),(5,_),(6,_)]) (l.length -(k+1)) (Vk rfl rfl rfl rfl) ⟨l,k,k+1,rfl,rfl,hq0, by omega, by omega,rfl, by rw[VB hk,if_pos rfl,List.append_nil];symm; rw[List.filter_eq_self]; intro y hy; obtain⟨q,hq⟩:=List.mem_iff_getElem?.1 hy; have hql:=(XQ hq).1; rw[List.length_take]at hql; rw[List.getElem?_take,if_pos (by omega)]at hq;simpa using hno q y (by omega) hq,rfl⟩ ?_
 rintro _ _ w4 ⟨l1,i,j,rfl,rfl,hS4,hij,hjl,hl1,ht1,hd1⟩
 refine Qd (Qd (Qa (Qb rfl rfl (Qb rfl rfl ?_))))
 first | refine X5 Tryz.underlying47 rfl rfl ?_ | refine JB 0 hS4 Tryz.underlying47 rfl rfl rfl ?_
 refine Xb rfl rfl rfl (Qf (Qc (Qs rfl (fun h5=> ?_) (fun h5=> ?_))))
 ·obtain⟨v,hv⟩: ∃v,l[j]? =some v:=⟨_,Zd (by omega)⟩
  have hv1:l1[j]? =some v:= by have :=congrArg (fun q=>q[0]?) hd1; simp only[List.getElem?_drop,Nat.add_zero]at this; rw[this]; exact hv
  refine Qr (Qc (Qd (Qw (Qd (Qa (Qb rfl rfl (Qb rfl rfl (Xu inC 0 j hS4 rfl rfl rfl (by rfl) hv1 Ge rfl ?_))))))))
  intro bx6 capx6 hvx6
  refine Z1 0 j 0 hS4 rfl hvx6 rfl rfl hv1 QO rfl rfl (Qe rfl rfl (Qf (Qc (Qi [6,5,1,0,7] rfl (Qd (Qa (Qb rfl rfl (Qb rfl rfl (D3 rfl hE.1 rfl (hE.2 _ _ _ (hS4.sp [1] rfl)) rfl ?_)))))))))
  rintro e w7 ⟨_,rfl,rfl,hS7⟩; refine⟨_,rfl, ?_⟩
  replace hS7:=hS7.jn rfl rfl
  clear hS4
  refine QR rfl rfl (Qf (Qc (QM rfl (fun h8=> ?_) (fun h8=> ?_))))
  ·have hvn: ¬v=id:= by simpa using h8
   refine Qd ?_
   obtain⟨vx,hvx⟩: ∃v,l1[i]? =some v:=⟨_,Zd (by omega)⟩
   refine Qa (Qb rfl rfl (Qb rfl rfl (Qb rfl rfl (Xu inC 1 i hS7 rfl rfl rfl (by rfl) hvx Ge rfl ?_))))
   intro bx9 capx9 hvx9
   refine W6 1 i v hS7 rfl hvx9 rfl rfl Ug (by rfl) (by omega) ?_
   intro w10 hS11; dsimp only[List.set]at hS11
   clear hS7
   refine Qf (Qc (Qi [6,5,1,0] rfl (Qa (Qb rfl rfl (QK rfl rfl (by omega) (by omega) rfl ?_)))))
   refine Qe rfl rfl (Qf (Ql (Qc (Qa (Qb rfl rfl (QK rfl rfl (by omega) (by omega) rfl ?_))))))
   refine Qe rfl rfl (Qf ?_)
   exact Q6 (L1:=[(0,_),(1,_),(5,intV ((i+1:Nat):Int)),(6,intV ((j+1:Nat):Int))]) (Vk rfl rfl rfl rfl) (k1:=l.length -(j+1)) (by omega) ⟨l1.set i v,i+1,j+1,rfl,rfl,hS11.pick [1,0,2] rfl, by omega, by omega, by rw[List.length_set]; exact hl1, by rw[VB hv,if_neg hvn,List.take_add_one,List.getElem?_set_self (by omega),List.take_set_of_le (by omega),ht1];rfl, by rw[List.drop_set_of_lt (by omega)]; have :=congrArg (List.drop 1) hd1;rwa [List.drop_drop,List.drop_drop]at this⟩
  have hvi:v=id:= by simpa using h8
  refine Qr (Ql (Qc (Qa (Qb rfl rfl (QK rfl rfl (by omega) (by omega) rfl ?_)))))
  refine Qe rfl rfl (Qf ?_)
  exact Q6 (L1:=[(0,_),(1,_),(5,_),(6,intV ((j+1:Nat):Int))]) (Vk rfl rfl rfl rfl) (k1:=l.length -(j+1)) (by omega) ⟨l1,i,j+1,rfl,rfl,hS7.pick [1,0,2] rfl, by omega, by omega,hl1, by rw[VB hv,if_pos hvi,List.append_nil]; exact ht1, by have :=congrArg (List.drop 1) hd1;rwa [List.drop_drop,List.drop_drop]at this⟩
 refine QS (Qp (Qp (Qz (Qc (Qd (Qa (Qb rfl rfl (Qb rfl rfl (BG i l.length Tryz.underlying47 Ug rfl (Rk i _ rfl rfl) (F6 _) (by omega) (by omega) rfl ?_)))))))))
 rw[show Un 1 (.slice (some ⟨ob,0,none⟩) l.length cap) i l.length= .slice (some ⟨ob,0+i*1,none⟩) (l.length -i) (cap -i) from Tu (by omega)]
 refine Tq 0 hS4 rfl rfl rfl Tryz.underlying47 HH rfl (by rw[inC.cells_len]; show 0+i*1+(l.length -i)*1≤l1.length*1;omega) (xs':=inC.cells (l1.take i++List.replicate (l1.length -i) 0)) (by rw[←hl1]; exact qab (by omega)) rfl ?_
 intro w12 hS12a; dsimp only[List.set]at hS12a
 have hS12:=Sat.row_cast (C:=inC) (l:=l1.take i++List.replicate (l1.length -i) 0) (hS12a.pull 0 rfl) (by rw[List.length_append,List.length_take,List.length_replicate];omega) rfl rfl; dsimp only[List.eraseIdx]at hS12
 clear hS4
 refine Qf (Qc (Qi [5,0] rfl (Qd (Qa (Qb rfl rfl (Qb rfl rfl (BG 0 i Tryz.underlying47 Ug rfl (F6 _) (Rk i _ rfl rfl) (by omega) (by omega) rfl ?_)))))))
 rw[show Un 1 (.slice (some ⟨ob,0,none⟩) l.length cap) 0 i= .slice (some ⟨ob,0,none⟩) i cap from Tu (by omega)]
 refine Qe rfl rfl (Qf (Qc (Qu (QQ (.inr rfl) rfl rfl ?_))))
 have hz:=(hS12.pick [0,1,2] rfl).row_shrink i (by rw[List.length_append,List.length_take];omega)
 rw[List.take_append_of_le_length (by rw[List.length_take];omega),List.take_take,Nat.min_self,ht1,List.take_of_length_le (by omega)]at hz
 exact⟨_,rfl,hz⟩
theorem Ss {S:SS} {A:Int→Option ShE} {j:Int} (hA:A=up S.all j none):(fun i=>(A i).map fun x=>(x.refs,x.pg))=up (vw S) j none:= by
  subst hA
  funext i
  by_cases q:i=j
  · subst q; rw[XW,XW];rfl
  · rw[Ze q,Ze q];rfl
structure DelS (T:Nat) (S S':SS) (id:Int):Prop where
  inv:ShI Rl (T+1) S'
  f:ShF S S'
  is:vw S'=up (vw S) id none
theorem Ai {T:Nat} {S:SS} {id:Int} {x:ShE} (h:ShI Rl T S) (hx:S.all id=some x) (hp:x.place=1):DelS T S {offFrame S x.at_ with all:=up S.all id none} id:= by
  have h1:=(h.offFrame (fun q=>q) hx hp rfl).gone (j:=id) (.inr rfl)
  refine⟨h1.congr fun i _=>⟨fun ⟨a,b⟩=>b (a.resolve_left fun q=>q),False.elim⟩,⟨⟨[x.at_],rfl, fun j y hy hp1=> ?_⟩,rfl,rfl, by show(S.fr.set _ _).length=_; rw[List.length_set]⟩,Ss rfl⟩
  by_cases q:j=id
  · subst q; rw[hx]at hy; cases hy; exact .inl (by simp)
  · exact .inr ⟨y, by show up S.all id _ j=_; rw[Ze q]; exact hy,hp1,rfl⟩
theorem ShF.del {S S':SS} {id:Int} {x:ShE} (hx:S.all id=some x) (hp:x.place≠1) (ha:S'.all=up S.all id none) (ht:S'.taken=S.taken) (hb:S'.budget=S.budget) (hs:S'.slots=S.slots) (hf:S'.fr=S.fr):ShF S S':= by
  refine⟨⟨[], by rw[ht]; simp, fun j y hy hp1=> .inr ⟨y, ?_,hp1,rfl⟩⟩,hb,hs, by rw[hf]⟩
  rw[ha,Ze (fun q=> by subst q; rw[hx]at hy; cases hy; exact hp hp1)]; exact hy
theorem GP {T:Nat} {S:SS} {id:Int} {x:ShE} (h:ShI Rl T S) (hx:S.all id=some x) (hp:x.place=2):ShI (one id) T {S with cache:=S.cache.filter (fun n=> !decide (n=id))}:=
  (h.offCache hx hp (List.filter_sublist) (fun i=> by rw[List.mem_filter]; simp)).congr fun i _=>⟨fun q=>q.resolve_left fun q=>q, fun q=> .inr q⟩
theorem Aj {T:Nat} {S:SS} {id:Int} {x:ShE} (h:ShI Rl T S) (hx:S.all id=some x) (hp:x.place=2):DelS T S {S with cache:=S.cache.filter (fun n=> !decide (n=id)),all:=up S.all id none} id:= by
  have h1:=((GP h hx hp).gone (j:=id) rfl).mono (Nat.le_add_right T 1)
  exact⟨h1.congr fun i _=>⟨fun ⟨a,b⟩=>b a,False.elim⟩,ShF.del hx (by omega) rfl rfl rfl rfl rfl,Ss rfl⟩
theorem Vw {E:Int→Prop} {T:Nat} {S:SS} {id:Int} {x:ShE} (h:ShI E T S) (hE: ¬E id) (hx:S.all id=some x) (hp:x.place=3):GU S.sl x.at_=true∧DI S.sl x.at_=x.pg∧KN S.sl x.at_=S.sl.set x.at_.toNat []:= by
  obtain⟨h0,h1⟩:=h.slt hE hx hp
  have h64:=(h.ent hx).2.2.2.2.1
  have hne:x.pg≠[]:= fun q=> by rw[q]at h64; simp at h64
  have hb:GU S.sl x.at_=true:= by unfold GU; rw[h1]; simp [h0,hne]
  exact⟨hb, by unfold DI; rw[if_pos hb,h1];rfl, by unfold KN; rw[if_pos hb]⟩
theorem Mi {T:Nat} {S:SS} {id:Int} {x:ShE} (h:ShI Rl T S) (hx:S.all id=some x) (hp:x.place=3):ShI (one id) T {S with sl:=S.sl.set x.at_.toNat []}:=
  (h.offSlot (fun q=>q) hx hp).congr fun i _=>⟨fun q=>q.resolve_left fun q=>q, fun q=> .inr q⟩
theorem qac {T:Nat} {S:SS} {id:Int} {x:ShE} (h:ShI Rl T S) (hx:S.all id=some x) (hp:x.place=3):DelS T S {S with sl:=S.sl.set x.at_.toNat [],all:=up S.all id none} id:= by
  have h1:=((Mi h hx hp).gone (j:=id) rfl).mono (Nat.le_add_right T 1)
  exact⟨h1.congr fun i _=>⟨fun ⟨a,b⟩=>b a,False.elim⟩,ShF.del hx (by omega) rfl rfl rfl rfl rfl,Ss rfl⟩
def YR (S:SS) (id:Int):Bs:= match S.all id with | none=> if id=0 then zer else[] | some x=>x.pg
theorem eqU (c:Nat) (id:Int):EqF Tryz.prog 154 c id:=⟨cal_154, fun n w X hS=> by
  refine Qq Tryz.func154 rfl Tryz.ntmps154 rfl ?_
  refine Qd (Qa (Qe rfl rfl (Qf (Qc (Qd (Qa (Qb rfl rfl (Qo rfl QO (hS.cell 0 rfl rfl) rfl (QX rfl rfl rfl (Qe rfl rfl (Qf (Qc (Qu (QQ (.inr rfl) rfl rfl ?_))))))))))))))
  exact⟨_,rfl,rfl,hS⟩⟩
theorem eqB (c:Nat) (id:Int):EqF Tryz.prog 157 c id:=⟨cal_157, fun n w X hS=> by
  refine Qq Tryz.func157 rfl Tryz.ntmps157 rfl ?_
  refine Qd (Qa (Qe rfl rfl (Qf (Qc (Qd (Qa (Qb rfl rfl (Qo rfl QO (hS.cell 0 rfl rfl) rfl (QX rfl rfl rfl (Qe rfl rfl (Qf (Qc (Qu (QQ (.inr rfl) rfl rfl ?_))))))))))))))
  exact⟨_,rfl,rfl,hS⟩⟩
theorem S5 {w:World} {p:Nat} {S:SS} {F:Th} (hS:Sat w [YQ p S,F]) {N:Nat} (hI:ShI Rl N S) (hN:N≤80000000000) (id:Int):
    Calls Tryz.prog 104 #[ptrV p 0,intV id] w (Ret fun v w'=>(match S.all id with | none=>v=(if id=0 then intV 0 else intV 4)∧Sat w' [YQ p S,F] | some x=>v=intV 0∧((1<x.refs∧Sat w' [YQ p {S with all:=up S.all id (some {x with refs:=x.refs -1})},F])∨(x.refs=1∧ ∃S',DelS N S S' id∧Sat w' [YQ p S',F])))):= by
 obtain⟨ba,bi,fp,sp,kp,ac,cc,at2,ct,hS⟩:=Zf hS
 cases hid:S.all id with
 | none=>
  dsimp only
  refine Qq Tryz.func104 rfl Tryz.ntmps104 rfl ?_
  refine Qd (Qa (XU hS rfl rfl rfl ?_))
  intro b1 w1 hS1
  refine Qe rfl rfl (Qf (Qc (Qd ?_)))
  have hS2:=hS1.drew
  refine QJ [0,1,2,3,4,5,6,7,8,9,10,11] [9,10] Wp (by kernel_rfl) ?_
  refine QE rfl rfl rfl (Xl rfl rfl rfl (QT rfl rfl rfl XL (Q9 rfl rfl rfl (Qm rfl Zk (hS2.cell 1 rfl rfl)) (Q9 rfl rfl rfl (Qm rfl QO (hS2.cell 0 rfl rfl)) (Q9 rfl rfl rfl (WA (k:=id) 2 hS2 keysInt Tryz.underlying108 rfl rfl rfl XH (u:=(.agg #[intV 0,intV 0,intV 0,strV []])) (g:=false) (Hn hid) (YZ hid)) (QE rfl rfl rfl (Wg rfl rfl rfl rfl (Wg rfl rfl rfl rfl (Xj rfl rfl rfl rfl rfl rfl ?_)))))))))
  refine Xg hS2 XH rfl rfl ?_
  intro b3 w3 hS3
  clear hS2
  refine X6 (.cons (.inl ⟨rfl,(WA (k:=id) 3 hS3 keysInt Tryz.underlying108 rfl rfl rfl XH (u:=(.agg #[intV 0,intV 0,intV 0,strV []])) (g:=false) (Hn hid) (YZ hid))⟩) (.cons (.inl ⟨rfl,(Qm rfl QO (hS3.cell 1 rfl rfl))⟩) (.cons (.inl ⟨rfl,(Qm rfl Zk (hS3.cell 2 rfl rfl))⟩) .nil))) (Xj rfl rfl rfl rfl rfl rfl ?_)
  (refine QY hS3 rfl rfl JY rfl (by rfl) (i:=0) rfl (by decide) ?_)
  intro w4 hS5; dsimp only[List.set]at hS5
  clear hS3
  refine Zx (Xq (by kernel_rfl)) ?_
  refine XN rfl rfl rfl (VC.nil (Qc (Qi [0,3,4,5,6] rfl (Qd (Qd (Qa (Qb rfl rfl (QR rfl rfl (Qf (Qc (QM rfl (fun h6=> ?_) (fun h6=> ?_))))))))))))
  ·refine Qd (Qd (Qa (Qo rfl QO (by first | assumption | exact hS5.cell 0 rfl rfl | exact hS5.cell 1 rfl rfl | exact hS5.cell 2 rfl rfl) rfl ?_)))
   refine QX rfl rfl rfl (Qf (Qc (Qs rfl (fun h7=> ?_) (fun h7=> ?_))))
   ·exact Qd (Qa (Qe rfl rfl (Qf (Qc (Qu (Qn (Qn (QQ (.inr rfl) rfl rfl (⟨_,rfl, by rw[if_pos (by omega)],QZ (hS5.pick [2,3,4,5,6,7,8,9,10] rfl)⟩)))))))))
   exact Qr (Qc (Qd (Qa (Qe rfl rfl (Qf (Qc (Qu (Qn (QQ (.inr rfl) rfl rfl (⟨_,rfl, by rw[if_neg (by omega)],QZ (hS5.pick [2,3,4,5,6,7,8,9,10] rfl)⟩))))))))))
  exact absurd h6 (by simp)
 | some x=>
  obtain⟨hid1,_,hr1,hr2,_,hplc⟩:=hI.ent hid
  dsimp only
  refine Qq Tryz.func104 rfl Tryz.ntmps104 rfl ?_
  refine Qd (Qa (XU hS rfl rfl rfl ?_))
  intro b1 w1 hS1
  refine Qe rfl rfl (Qf (Qc (Qd ?_)))
  have hS2:=hS1.drew
  refine QJ [0,1,2,3,4,5,6,7,8,9,10,11] [9,10] Wp (by kernel_rfl) ?_
  refine QE rfl rfl rfl (Xl rfl rfl rfl (QT rfl rfl rfl XL (Q9 rfl rfl rfl (Qm rfl Zk (hS2.cell 1 rfl rfl)) (Q9 rfl rfl rfl (Qm rfl QO (hS2.cell 0 rfl rfl)) (Q9 rfl rfl rfl (WA (k:=id) 2 hS2 keysInt Tryz.underlying108 rfl rfl rfl XH (u:=(.agg #[intV x.refs,intV x.place,intV x.at_,strV (Rf x)])) (g:=true) (Jw hid) (YY hid)) (QE rfl rfl rfl (Wg rfl rfl rfl rfl (Wg rfl rfl rfl rfl (Xj rfl rfl rfl rfl rfl rfl ?_)))))))))
  refine Xg hS2 XH rfl rfl ?_
  intro b3 w3 hS3
  clear hS2
  refine X6 (.cons (.inl ⟨rfl,(WA (k:=id) 3 hS3 keysInt Tryz.underlying108 rfl rfl rfl XH (u:=(.agg #[intV x.refs,intV x.place,intV x.at_,strV (Rf x)])) (g:=true) (Jw hid) (YY hid))⟩) (.cons (.inl ⟨rfl,(Qm rfl QO (hS3.cell 1 rfl rfl))⟩) (.cons (.inl ⟨rfl,(Qm rfl Zk (hS3.cell 2 rfl rfl))⟩) .nil))) (Xj rfl rfl rfl rfl rfl rfl ?_)
  (refine QY hS3 rfl rfl JY rfl (by rfl) (i:=0) rfl (by decide) ?_)
  intro w4 hS5; dsimp only[List.set]at hS5
  clear hS3
  refine Zx (Xq (by kernel_rfl)) ?_
  refine XN rfl rfl rfl (VC.nil (Qc (Qi [0,3,4,5,6] rfl (Qd (Qd (Qa (Qb rfl rfl (QR rfl rfl (Qf (Qc (QM rfl (fun h6=> ?_) (fun h6=> ?_))))))))))))
  ·exact absurd h6 (by simp)
  refine Qr (Qc (Qd (Qd (Qa (Qg rfl J6 rfl (Qo rfl QO (hS5.cell 0 rfl rfl) rfl (Hf rfl rfl (by omega) (by omega) rfl ?_)))))))
  refine Qg rfl J6 rfl ?_
  (refine QL hS5 rfl rfl Ug (by rfl) (i:=0) rfl (Xn rfl) ?_)
  intro w7 hS8; dsimp only[List.set]at hS8
  clear hS5
  refine Qf (Qc (Qi [0,3,4,5] rfl (Qd (Qa (Qg rfl J6 rfl (Qo rfl QO (hS8.cell 0 rfl rfl) rfl (Y6 rfl rfl rfl (Qf (Qc (Qs rfl (fun h9=> ?_) (fun h9=> ?_)))))))))))
  ·refine Qd ?_
   have hS10:=hS8.drew
   refine QJ [0,1,2,3,4,5,6] [6] Wp (by kernel_rfl) ?_
   refine QE rfl rfl rfl (Xl rfl rfl rfl (QT rfl rfl rfl XL (Q9 rfl rfl rfl (Qm rfl Zk (hS10.cell 2 rfl rfl)) (Q9 rfl rfl rfl (Qm rfl QO (hS10.cell 1 rfl rfl)) (Q9 rfl rfl rfl (XE rfl qbe JY (hS10.blk 0 rfl) (Xn rfl) rfl) (Xj rfl rfl rfl rfl rfl rfl ?_))))))
   refine Xk (k:=id) (v:=FK {x with refs:=x.refs -1}) 3 hS10 keysInt Tryz.underlying108 rfl rfl rfl rfl ?_
   intro w11 hS11a; dsimp only[List.set]at hS11a; have hS11:=hS11a; rw[KI]at hS11
   clear hS10
   refine Zx (Xq (by kernel_rfl)) ?_
   exact VC.nil (Qc (Qi [0,3,4,5] rfl (Qd (Qa (Qe rfl rfl (Qf (Qc (Qu (Qn (QQ (.inr rfl) rfl rfl (⟨_,rfl,rfl,.inl ⟨by omega,QZ (S:={S with all:=up S.all id (some {x with refs:=x.refs -1})}) (hS11.pick [2,3,4,5,6,7,8,9,10] rfl)⟩⟩)))))))))))
  refine Qr (Qc (Qd (Qd (Qa (Qg rfl YU rfl (Qo rfl QO (hS8.cell 0 rfl rfl) rfl (Qf (Qc (Qw (Qd (Qa (QX rfl rfl rfl (Qe rfl rfl (Qf (Qc (Qi [0,3,4,5,34,35] rfl (Qs rfl (fun h12=> ?_) (fun h12=> ?_))))))))))))))))))
  ·have hp1:x.place=1:=h12
   refine Qa (Qb rfl rfl (Qg rfl Yz rfl (Qo rfl QO (hS8.cell 0 rfl rfl) rfl ?_)))
   have hS13:=QZ (hS8.pick [2,3,4,5,6,7,8,9,0,1,10] rfl)
   refine Qv Nk rfl (GG (hS13.sp [0] rfl) (f:=x.at_) (b0:=x.pg) (hI.frc (fun q=>q) hid hp1) (by show S.ck.length=S.fr.length; rw[hI.ck,List.length_map]) (by have :=hI.tln;omega)) rfl ?_
   rintro _ w14 ⟨rfl,hS14⟩
   replace hS14:=hS14.jn rfl rfl
   clear hS13
   obtain⟨ba,bi,fp,sp,kp,ac,cc,at2,ct,hSo15⟩:=Zf (hS14.pick [0,1,2,3] rfl)
   refine Qf (Ql (Qc (Qd ?_)))
   have hS16:=hSo15.drew
   refine QJ [0,1,2,3,4,5] [5] Wp (by kernel_rfl) ?_
   refine QE rfl rfl rfl (Xl rfl rfl rfl (QT rfl rfl rfl XL (Q9 rfl rfl rfl (Qm rfl Zk (hS16.cell 0 rfl rfl)) (Q9 rfl rfl rfl (Qm rfl QO (hS16.cell 9 rfl rfl)) (Xj rfl rfl rfl rfl rfl rfl ?_)))))
   refine Ji (k:=id) 1 hS16 keysInt Tryz.underlying108 rfl rfl rfl rfl ?_
   intro w17 hS17; dsimp only[List.set]at hS17; rw[FA]at hS17
   clear hS16
   refine Zx (Xq (by kernel_rfl)) ?_
   exact VC.nil (Qc (Qi [4] rfl (Qd (Qa (Qe rfl rfl (Qf (Qc (Qu (QQ (.inr rfl) rfl rfl (⟨_,rfl,rfl,.inr ⟨by omega,_,Ai hI hid hp1,QZ (S:={offFrame S x.at_ with all:=up S.all id none}) (hS17.pick [0,1,2,3,4,5,6,7,10] rfl)⟩⟩))))))))))
  refine Qd (Qa (QX rfl rfl rfl (Qe rfl rfl (Qf (Qc (Qs rfl (fun h18=> ?_) (fun h18=> ?_)))))))
  ·have hp2:x.place=2:=h18
   refine Qa (Qb rfl rfl (Qb rfl rfl (Qk rfl rfl (Qg rfl W9 rfl (Qo rfl YX (hS8.cell 2 rfl rfl) rfl ?_)))))
   refine Qv CZ rfl (Ks (hS8.sp [] rfl) (Ent.starL (Hj (C:=inC) (l:=S.cache) (by have :=hI.cln;omega)) 5 rfl) (by have :=hI.cln;omega)) rfl ?_
   rintro _ w19 hS19
   replace hS19:=hS19.jn rfl rfl
   clear hS8
   have h1n:=hS19.own_one 0 rfl
   refine ZX rfl rfl ?_
   refine Qv Nj rfl (CP (eqU _ id) (hS19.sp [0,2] rfl) (by have :=hI.cln;omega)) rfl ?_
   rintro _ w20 hS20
   replace hS20:=hS20.jn rfl rfl
   clear hS19
   have h1d:=hS20.own_one 0 rfl
   refine Qk rfl rfl (Qg rfl W9 rfl ?_)
   (refine QL hS20 rfl rfl Rz (by assumption) (i:=3) rfl (Xn rfl) ?_)
   intro w21 hS22; dsimp only[List.set]at hS22
   clear hS20
   refine Qf (Ql (Qc (Qi [0,3,4] rfl (Qd ?_))))
   have hS23:=hS22.drew
   refine QJ [0,1,2,3,4,5] [5] Wp (by kernel_rfl) ?_
   refine QE rfl rfl rfl (Xl rfl rfl rfl (QT rfl rfl rfl XL (Q9 rfl rfl rfl (Qm rfl Zk (hS23.cell 3 rfl rfl)) (Q9 rfl rfl rfl (Qm rfl QO (hS23.cell 1 rfl rfl)) (Xj rfl rfl rfl rfl rfl rfl ?_)))))
   refine Ji (k:=id) 4 hS23 keysInt Tryz.underlying108 rfl rfl rfl rfl ?_
   intro w24 hS24; dsimp only[List.set]at hS24; rw[FA]at hS24
   clear hS23
   refine Zx (Xq (by kernel_rfl)) ?_
   exact VC.nil (Qc (Qd (Qa (Qe rfl rfl (Qf (Qc (Qu (QQ (.inr rfl) rfl rfl (⟨_,rfl,rfl,.inr ⟨by omega,_,Aj hI hid hp2,QZ (S:={S with cache:=S.cache.filter (fun n=> !decide (n=id)),all:=up S.all id none}) (hS24.pick [3,4,5,0,7,8,9,10,11] rfl)⟩⟩)))))))))
  refine Qd (Qa (QX rfl rfl rfl (Qe rfl rfl (Qf (Qc (Qs rfl (fun h25=> ?_) (fun h25=> ?_)))))))
  ·have hp3:x.place=3:=h25
   have hS26:=hS8.drew
   refine QJ [0,1,2,3,4,5,6] [6] Wp (by kernel_rfl) ?_
   refine QE rfl rfl rfl (Xl rfl rfl rfl (QT rfl rfl rfl YV (Q9 rfl rfl rfl (Qm rfl VU (hS26.cell 2 rfl rfl)) (QT rfl rfl rfl Yz (Q9 rfl rfl rfl (Qm rfl QO (hS26.cell 0 rfl rfl)) (Xj rfl rfl rfl rfl rfl rfl ?_))))))
   refine Qv Ni rfl (GC (hS26.sp [7] rfl) x.at_) rfl ?_
   rintro _ w27 ⟨rfl,hS27⟩
   replace hS27:=hS27.jn rfl rfl
   clear hS26
   rw[(Vw hI (fun q=>q) hid hp3).2.2]at hS27
   refine X6 (Xq (by kernel_rfl)) ?_
   refine VC.nil (Ql (Qc (Qi [0,3,4] rfl (Qd ?_))))
   have hS28:=hS27.drew
   refine QJ [0,1,2,3,4,5] [5] Wp (by kernel_rfl) ?_
   refine QE rfl rfl rfl (Xl rfl rfl rfl (QT rfl rfl rfl XL (Q9 rfl rfl rfl (Qm rfl Zk (hS28.cell 3 rfl rfl)) (Q9 rfl rfl rfl (Qm rfl QO (hS28.cell 2 rfl rfl)) (Xj rfl rfl rfl rfl rfl rfl ?_)))))
   refine Ji (k:=id) 4 hS28 keysInt Tryz.underlying108 rfl rfl rfl rfl ?_
   intro w29 hS29; dsimp only[List.set]at hS29; rw[FA]at hS29
   clear hS28
   refine Zx (Xq (by kernel_rfl)) ?_
   exact VC.nil (Qc (Qd (Qa (Qe rfl rfl (Qf (Qc (Qu (QQ (.inr rfl) rfl rfl (⟨_,rfl,rfl,.inr ⟨by omega,_,qac hI hid hp3,QZ (S:={S with sl:=S.sl.set x.at_.toNat [],all:=up S.all id none}) (hS29.pick [3,4,5,6,7,0,8,9,10] rfl)⟩⟩)))))))))
  exact absurd hplc (by omega)
theorem T4 {w:World} {p:Nat} {S:SS} {F:Th} (hS:Sat w [YQ p S,F]) {E:Int→Prop} {N:Nat} (hI:ShI E N S) (id:Int) (hE: ¬E id):
    Calls Tryz.prog 34 #[ptrV p 0,intV id] w (Ret fun v w'=>v=strV (YR S id)∧Sat w' [YQ p S,F]):= by
 obtain⟨ba,bi,fp,sp,kp,ac,cc,at2,ct,hS⟩:=Zf hS
 cases hid:S.all id with
 | none=>
  refine Qq Tryz.func34 rfl Tryz.ntmps34 rfl ?_
  refine Qd (Qa (Qe rfl rfl (Qf (Qc (Qd (Qa (Qb rfl rfl (Qk rfl rfl (Qg rfl XL rfl (Qo rfl Zk (hS.cell 0 rfl rfl) rfl (Qb rfl rfl (Wl (k:=id) 1 hS keysInt Tryz.underlying108 rfl rfl rfl XH (u:=(.agg #[intV 0,intV 0,intV 0,strV []])) (g:=false) (Hn hid) (YZ hid) rfl (Qb rfl rfl (Qt rfl rfl rfl (Qt rfl rfl rfl (Xg hS XH rfl rfl ?_))))))))))))))))
  intro b1 w1 hS1
  (refine QY hS1 rfl rfl JY rfl (by rfl) (i:=0) rfl (by decide) ?_)
  intro w2 hS3; dsimp only[List.set]at hS3
  clear hS1
  refine Qe rfl rfl (Qf (Qc (Qi [1,0,4,5,6] rfl (Qd (Qw (Qd (Qa (Qb rfl rfl (QX rfl rfl rfl (Qe rfl rfl (Qf (Qc (Qs rfl (fun h4=> ?_) (fun h4=> ?_))))))))))))))
  ·refine Qd (Qa (Qv Fp rfl (MF (hS3.sp [] rfl) zer (by decide)) rfl ?_))
   rintro _ w5 ⟨rfl,hS5⟩
   replace hS5:=hS5.jn rfl rfl
   clear hS3
   refine Qe rfl rfl (Qf (Qc (Qu (Qx (Qn (QQ (.inr rfl) rfl rfl ?_))))))
   exact⟨_,rfl, by unfold YR; rw[hid]; dsimp only; rw[if_pos (by omega)],QZ (hS5.pick [1,2,3,4,5,6,7,8,9] rfl)⟩
  refine Qd (Qa (Qb rfl rfl (QR rfl rfl (Qe rfl rfl (Qf (Qc (Qi [0,4,5,24] rfl (QM rfl (fun h6=> ?_) (fun h6=> ?_)))))))))
  ·refine Qd (Qa (Qe rfl rfl (Qf (Qc (Qu (Qx (Qn (QQ (.inr rfl) rfl rfl ?_))))))))
   exact⟨_,rfl, by unfold YR; rw[hid]; dsimp only; rw[if_neg (by omega)],QZ (hS3.pick [1,2,3,4,5,6,7,8,9] rfl)⟩
  exact absurd h6 (by simp)
 | some x=>
  obtain⟨hid1,_,hr1,hr2,_,hplc⟩:=hI.ent hid
  refine Qq Tryz.func34 rfl Tryz.ntmps34 rfl ?_
  refine Qd (Qa (Qe rfl rfl (Qf (Qc (Qd (Qa (Qb rfl rfl (Qk rfl rfl (Qg rfl XL rfl (Qo rfl Zk (hS.cell 0 rfl rfl) rfl (Qb rfl rfl (Wl (k:=id) 1 hS keysInt Tryz.underlying108 rfl rfl rfl XH (u:=(.agg #[intV x.refs,intV x.place,intV x.at_,strV (Rf x)])) (g:=true) (Jw hid) (YY hid) rfl (Qb rfl rfl (Qt rfl rfl rfl (Qt rfl rfl rfl (Xg hS XH rfl rfl ?_))))))))))))))))
  intro b1 w1 hS1
  (refine QY hS1 rfl rfl JY rfl (by rfl) (i:=0) rfl (by decide) ?_)
  intro w2 hS3; dsimp only[List.set]at hS3
  clear hS1
  refine Qe rfl rfl (Qf (Qc (Qi [1,0,4,5,6] rfl (Qd (Qw (Qd (Qa (Qb rfl rfl (QX rfl rfl rfl (Qe rfl rfl (Qf (Qc (Qs rfl (fun h4=> ?_) (fun h4=> ?_))))))))))))))
  ·exact absurd h4 (by omega)
  refine Qd (Qa (Qb rfl rfl (QR rfl rfl (Qe rfl rfl (Qf (Qc (Qi [0,4,5,24] rfl (QM rfl (fun h5=> ?_) (fun h5=> ?_)))))))))
  ·exact absurd h5 (by simp)
  refine Qd (Qa (Qg rfl YU rfl (Qo rfl QO (hS3.cell 0 rfl rfl) rfl (QX rfl rfl rfl (Qe rfl rfl (Qf (Qc (Qs rfl (fun h6=> ?_) (fun h6=> ?_)))))))))
  ·have hp1:x.place=1:=h6
   refine Qd ?_
   have hS7:=hS3.drew
   refine QJ [0,1,2,3,4,5,6,7] [6] Wp (by kernel_rfl) ?_
   refine QE rfl rfl rfl (Xl rfl rfl rfl (QT rfl rfl rfl WJ (Q9 rfl rfl rfl (Qm rfl YI (hS7.cell 1 rfl rfl)) (QT rfl rfl rfl Yz (Q9 rfl rfl rfl (Qm rfl QO (hS7.cell 0 rfl rfl)) (Xj rfl rfl rfl rfl rfl rfl ?_))))))
   refine Qv Fo rfl (GV (hS7.sp [5] rfl) x.at_) rfl ?_
   rintro _ w8 ⟨rfl,hS8⟩
   replace hS8:=hS8.jn rfl rfl
   clear hS7
   rw[hI.frc hE hid hp1]
   dsimp only[Option.getD_some]
   refine X6 (Xq (by kernel_rfl)) ?_
   refine XN rfl rfl rfl (VC.nil (Qc (Qi [0,5,4] rfl (Qu (Qx (Qn (QQ (.inr rfl) rfl rfl ?_)))))))
   exact⟨_,rfl, by unfold YR; rw[hid],QZ (hS8.pick [2,3,4,5,0,6,7,8,9] rfl)⟩
  refine Qd (Qa (Qg rfl YU rfl (Qo rfl QO (hS3.cell 0 rfl rfl) rfl (QX rfl rfl rfl (Qe rfl rfl (Qf (Qc (Qi [0,4,5,38] rfl (Qs rfl (fun h9=> ?_) (fun h9=> ?_))))))))))
  ·have hp2:x.place=2:=h9
   refine Qd (Qa (Qg rfl M2 rfl (Qo rfl ZC (hS3.cell 0 rfl rfl) rfl ?_)))
   obtain⟨fy,hfy⟩:=Option.ne_none_iff_exists'.1 (hI.pck hE hid hp2).2
   have hfme:Rf x=fy:= by unfold Rf fm; rw[if_pos hp2,hfy];rfl
   refine Qv Fn rfl (G9 (hS3.sp [] rfl) (hI.ent hid).2.2.2.2.1 (by rw[hfme]; exact hfy)) rfl ?_
   rintro _ w10 ⟨rfl,hS10⟩
   replace hS10:=hS10.jn rfl rfl
   clear hS3
   refine Qb rfl rfl (Qt rfl rfl rfl (Qt rfl rfl rfl (Qe rfl rfl (Qe rfl rfl (Qf (Qc (Qi [0,4,5,7] rfl (Qd (Qa (Qb rfl rfl (Qe rfl rfl (Qf (Qc (Qu (Qx (Qn (QQ (.inr rfl) rfl rfl ?_)))))))))))))))))
   exact⟨_,rfl, by unfold YR; rw[hid],QZ (hS10.pick [1,2,3,4,5,6,7,8,9] rfl)⟩
  refine Qr (Ql (Qc (Qd ?_)))
  have hp3:x.place=3:= by omega
  have hS11:=hS3.drew
  refine QJ [0,1,2,3,4,5,6,7,8,9,10,11] [6] Wp (by kernel_rfl) ?_
  refine QE rfl rfl rfl (Xl rfl rfl rfl (QT rfl rfl rfl YV (Q9 rfl rfl rfl (Qm rfl VU (hS11.cell 1 rfl rfl)) (QT rfl rfl rfl Yz (Q9 rfl rfl rfl (Qm rfl QO (hS11.cell 0 rfl rfl)) (Xj rfl rfl rfl rfl rfl rfl ?_))))))
  refine Qv qas rfl (NK (hS11.sp [6] rfl) x.at_) rfl ?_
  rintro _ w12 ⟨eg,rfl,hS12⟩
  replace hS12:=hS12.jn rfl rfl
  clear hS11
  rw[(Vw hI hE hid hp3).2.1]
  refine X6 (Xq (by kernel_rfl)) ?_
  refine QE rfl rfl rfl (Wg rfl rfl rfl rfl (Wg rfl rfl rfl rfl (XN rfl rfl rfl (XN rfl rfl rfl (VC.nil (Qc (Qi [4,9] rfl (Qd (Qa (Qb rfl rfl (Qe rfl rfl (Qf (Qc (Qu (QQ (.inr rfl) rfl rfl ?_)))))))))))))))
  exact⟨_,rfl, by unfold YR; rw[hid],QZ (hS12.pick [2,3,4,5,6,0,7,8,9] rfl)⟩
def Ek (S:SS) (id at_:Int):UInt8:= if 0≤at_∧at_<64 then(YR S id).getD at_.toNat 0 else 0
theorem OO {E:Int→Prop} {N:Nat} {S:SS} (hI:ShI E N S) (id:Int):(YR S id).length=64∨YR S id=[]:= by
  unfold YR
  cases hid:S.all id with
  | none=> dsimp only;split;(left;decide);right;rfl
  | some x=> exact .inl (hI.ent hid).2.2.2.2.1
theorem Ej {w:World} {p:Nat} {S:SS} {F:Th} (hS:Sat w [YQ p S,F]) {N:Nat} (hI:ShI Rl N S) (hN:N≤80000000000) (id at_:Int):
    Calls Tryz.prog 47 #[ptrV p 0,intV id,intV at_] w (Ret fun v w'=>v=XS (Ek S id at_)∧Sat w' [YQ p S,F]):= by
 refine Qq Tryz.func47 rfl Tryz.ntmps47 rfl ?_
 refine Qd (Qa (Qe rfl rfl (Qf (Qc (Qd (Qd (Qa (Qb rfl rfl (Xb rfl rfl rfl (Qb rfl rfl (QN 10 rfl (fun h1=> ?_) (fun h1=> ?_))))))))))))
 ·refine Qh rfl rfl (QW h1) rfl (Qh rfl rfl (QW h1) rfl (QC rfl (QW h1) rfl rfl (Qf (Qc (Xr rfl (Qd (Qa (Qe rfl rfl (Qf (Qc (Qu (Qn (QQ (.inr rfl) rfl rfl ?_)))))))))))))
  exact⟨_,rfl, by unfold Ek; rw[if_neg (by omega)];rfl,hS.pick [0,1] rfl⟩
 refine Qj rfl rfl (Q0 h1) (Qb rfl rfl (Qj rfl rfl (Q0 h1) (JJ rfl rfl rfl (QG rfl (Q0 h1) rfl rfl (Qf (Qc (Qs rfl (fun h2=> ?_) (fun h2=> ?_))))))))
 ·refine Qd (Qa (Qe rfl rfl (Qf (Qc (Qu (Qn (QQ (.inr rfl) rfl rfl ?_)))))))
  exact⟨_,rfl, by unfold Ek; rw[if_neg (by omega)];rfl,hS.pick [0,1] rfl⟩
 refine Qr (Qc (Qd (Qd (Qa (Qb rfl rfl (Qb rfl rfl (Qv JQ rfl (T4 (hS.sp [0] rfl) hI id (fun q=>q)) rfl ?_)))))))
 rintro _ w3 ⟨rfl,hS3⟩
 replace hS3:=hS3.jn rfl rfl
 refine Qe rfl rfl (Qf (Qc (Qi [2,6,7] rfl (Qd (Qa (Qb rfl rfl (Rq rfl rfl rfl (Qf (Qc (Qs rfl (fun h4=> ?_) (fun h4=> ?_)))))))))))
 ·have hpn:YR S id≠[]:=h4
  obtain⟨cb,hcb⟩: ∃c,(YR S id)[at_.toNat]? =some c:=⟨_,Zd (by have :=(OO hI id).resolve_right hpn;omega)⟩
  refine Qd (Qa (Qb rfl rfl (Qb rfl rfl (Y5 at_.toNat Tryz.underlying9 rfl rfl (by omega) hcb rfl ?_))))
  refine Qe rfl rfl (Qf (Qc (Qu (Qn (QQ (.inr rfl) rfl rfl ?_)))))
  exact⟨_,rfl, by unfold Ek; rw[if_pos (by omega),List.getD_eq_getElem?_getD,hcb];rfl,hS3.pick [0,1] rfl⟩
 have hpn: ¬YR S id≠[]:=h4
 refine Qr (Qc (Qd (Qa (Qe rfl rfl (Qf (Qc (Qu (QQ (.inr rfl) rfl rfl ?_))))))))
 exact⟨_,rfl, by unfold Ek; rw[if_pos (by omega), show YR S id=[] from Decidable.not_not.1 hpn];rfl,hS3.pick [0,1] rfl⟩
theorem mc1 : (Tryz.f127.name == "runtime.NumGoroutine") = false := by kernel_rfl
theorem mc2:Tryz.f127.body.isNone=true:= by kernel_rfl
theorem mc3:Extern.findNext Tryz.f127=none:= by kernel_rfl
theorem mc4:Extern.find Tryz.f127=some Extern.MapsClone.clone:= by kernel_rfl
def K2 (count slots budget:Int):SS:=⟨fun _=>none, fun _=>none,[],List.replicate (min (max count 1) 256).toNat none,List.replicate (min (max slots 0) 4096).toNat [],List.replicate (min (max count 1) 256).toNat false,min (max slots 0) 4096,max budget 0,1,[]⟩
theorem OU (count slots budget:Int):ShI Rl 0 (K2 count slots budget) where
  ck:= by simp [K2]
  fr1:= by simp [K2];omega
  fr2:= by simp [K2];omega
  slo:= by simp [K2];omega
  sl2:= by simp [K2];omega
  bud:= by simp [K2];omega
  nx1:= by simp [K2]
  nx2:= by simp [K2]
  ent:= fun h=> by cases h
  frm:= fun f j=>⟨fun h=>(by cases h), fun ⟨_,x,h,_⟩=>(by cases h)⟩
  frc:= fun _ h=> by cases h
  fru:= fun {f b} h=> by
    obtain⟨_,h⟩:=YB h
    have :(K2 count slots budget).fr=List.replicate (min (max count 1) 256).toNat none:=rfl
    rw[this,List.getElem?_replicate]at h
    split at h
    · cases h
    · cases h
  pck:= fun _ h=> by cases h
  cch:= fun h=> by cases h
  nod:=List.nodup_nil
  sum:= by show((0:Nat):Int)≤max budget 0;omega
  slt:= fun _ h=> by cases h
  slu:= fun {k p} h hp=> by
    have :(K2 count slots budget).sl=List.replicate (min (max slots 0) 4096).toNat []:=rfl
    rw[this,List.getElem?_replicate]at h
    split at h
    · cases h; exact absurd rfl hp
    · cases h
  sli:= fun _ _ h=> by cases h
  cln:=Nat.le_refl _
  tln:=Nat.le_refl _
theorem aG_nil:(fun _=>none:Int→Option Value)=aG (fun _=>none):=rfl
theorem Oj {w:World} {F:Th} (hS:Sat w [F]) (count slots budget:Int):
    Calls Tryz.prog 15 #[intV count,intV slots,intV budget] w (Ret fun v w'=> ∃p,v=ptrV p 0∧Sat w' [YQ p (K2 count slots budget),F]):= by
 refine Qq Tryz.func15 rfl Tryz.ntmps15 rfl ?_
 refine Qd (Qa (Qe rfl rfl (Qf (Qc (Qd (Qa (Qb rfl rfl (Yj rfl rfl rfl (HL rfl rfl rfl (Qb rfl rfl (Yj rfl rfl rfl (HL rfl rfl rfl (Qe rfl rfl (Qe rfl rfl (Qf (Qc (Qd (Qa (Za Xf hS rfl ?_)))))))))))))))))))
 intro mb1 w1 hS1; rw[aG_nil]at hS1
 refine Za Xf hS1 rfl ?_
 intro mb2 w2 hS2; rw[RN]at hS2
 clear hS1
 refine Qb rfl rfl (Qv cal_57 rfl (I8 (hS2.sp [] rfl) (min (max count 1) 256)) rfl ?_)
 rintro _ w3 ⟨fpn,rfl,hS3⟩
 replace hS3:=hS3.jn rfl rfl
 clear hS2
 refine Qb rfl rfl (Qv cal_58 rfl (AZ (hS3.sp [] rfl) (min (max slots 0) 4096)) rfl ?_)
 rintro _ w4 ⟨spn,rfl,hS4⟩
 replace hS4:=hS4.jn rfl rfl
 clear hS3
 refine Qb rfl rfl (Qv cal_59 rfl (qar (hS4.sp [] rfl) (min (max count 1) 256) (by omega)) rfl ?_)
 rintro _ w5 ⟨kpn,rfl,hS5⟩
 replace hS5:=hS5.jn rfl rfl
 clear hS4
 refine Qb rfl rfl (Qb rfl rfl (Yj rfl rfl rfl (Zl rfl UO asz_117 zr_117 rfl rfl (XU hS5 rfl rfl rfl ?_))))
 intro bp wbp hSbp
 clear hS5
 refine Qe rfl rfl (Qf (Qc (Qi [6] rfl (Qu (QQ (.inr rfl) rfl rfl ?_)))))
 have hz:=(hSbp.pick [0,5,4,3,2,1,6] rfl).row_nil inC
 have hz2:=(hz.reorder [1,2,3,0,4,5,6,7] rfl).row_nil inC
 rw[show(min (max (min (max count 1) 256) 0) 4096).toNat=(min (max count 1) 256).toNat by omega]at hz2
 rw[show(max 0 (min (min (max slots 0) 4096) 4096)).toNat=(min (max slots 0) 4096).toNat by omega]at hz2
 exact⟨_,rfl,_,rfl,QZ (S:=K2 count slots budget) (hz2.reorder [1,2,3,4,5,6,7,0,8] rfl)⟩
end Go.Proofs.YtkcjfoaejijdoaaGreatDoor
