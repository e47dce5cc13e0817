/- slices.IndexFunc, DeleteFunc -/
import Derived.Test.YtkcjfoaejijdoaaGreatDoorFw
import Derived.Test.YtkcjfoaejijdoaaGreatDoorSh7
set_option linter.unusedVariables false
set_option maxRecDepth 100000
set_option maxHeartbeats 80000000000
namespace Go.Proofs.YtkcjfoaejijdoaaGreatDoor
open Go.RowKit M
def EqF (P:Program) (g:Nat) (c:Nat) (id:Int):Prop:=QH P g=true∧ ∀(n:Int) (w:World) (X:Th),Sat w [QG c [intV id],X]→Calls P g #[intV n,ptrV c 0] w (Ret fun v w'=>v= .bool (decide (n=id))∧Sat w' [QG c [intV id],X])
theorem ixI_sp {w:World} {g c:Nat} {id:Int} {F:Th} (hE:EqF Tryz.prog g c id) (hS:Sat w [QG c [intV id],F]) {lv:Value} {l:List Int} (hL:Ent F (RdL inC lv l)):
    Calls Tryz.prog 85 #[lv,.func (.func g) #[] #[ptrV c 0]] w (Ret fun v w'=>(v=intV (-1)∧(∀y∈l,y≠id)∧Sat w' [QG c [intV id],F])∨(∃k:Nat,v=intV (k:Int)∧l[k]? =some id∧(∀j y,j<k→l[j]? =some y→y≠id)∧Sat w' [QG c [intV id],F])):= by
 obtain⟨ao,cap,rfl,hmax⟩:=(hL.sat hS 1 rfl).shape
 refine Qo Tryz.func85 rfl Tryz.ntmps85 rfl ?_
 refine Qd (Qa (Qe rfl rfl (Qf (Qc (Qd (Qd (Qa (Qb rfl rfl (XE Tryz.underlying47 rfl rfl (Qb rfl rfl (Qf (Qc (Qw ?_)))))))))))))
 refine Xa (fun K0 E0 W0=> ∃(i:Nat),K0=l.length -i∧E0=[(0,.slice ao l.length cap),(1,.func (.func g) #[] #[ptrV c 0]),(7,intV (l.length:Int)),(8,intV (i:Int))]∧Sat W0 [QG c [intV id],F]∧(i≤l.length)∧(∀j y,j<i→l[j]? =some y→y≠id)) (L0:=[(0,_),(1,_),(7,_),(8,_)]) (l.length -0) (Vl rfl rfl rfl rfl) ⟨0,rfl,rfl,hS, by omega, by omega⟩ ?_
 rintro _ _ w1 ⟨i,rfl,rfl,hS1,hi,hno⟩
 refine Qd (Qa (Xg rfl rfl rfl (Qf (Qc (Qd (Qt rfl (fun h2=> ?_) (fun h2=> ?_)))))))
 ·obtain⟨x,hx⟩: ∃x,l[i]? =some x:=⟨_,Zi (by omega)⟩
  obtain⟨b,off,rfl,_⟩:=(hL.sat hS1 1 rfl).get hx
  refine Qr (Qc (Qd (Qw (Qd (Qa (Qb rfl rfl (Qe rfl rfl (Qf (Qc (Qd (Qa (Qb rfl rfl (Qb rfl rfl (Qb rfl rfl (Ze i rfl rfl (by first | rfl | omega) ((XW hx).1) KL rfl ?_)))))))))))))))
  refine Qp rfl QN (((hL.sat hS1 1 rfl).at_ hx) 0 _ rfl) rfl (D5 rfl hE.1 rfl (hE.2 _ _ _ (hS1.sp [0] rfl)) rfl ?_)
  rintro e w3 ⟨_,rfl,rfl,hS3⟩; refine⟨_,rfl, ?_⟩
  replace hS3:=hS3.jn rfl rfl
  clear hS1
  refine Qf (Qc (Qh [8,7,1,0,5,16] rfl (Qt rfl (fun h4=> ?_) (fun h4=> ?_))))
  ·have heq:x=id:=h4
   refine Qd (Qa (Qb rfl rfl (Qe rfl rfl (Qf (Qc (Qu (Qx (Qn (Qn (Qx (Qn (QP (.inr rfl) rfl rfl ?_))))))))))))
   exact⟨_,rfl,.inr ⟨i,rfl, by rw[hx,heq],hno,hS3.pick [0,1] rfl⟩⟩
  have hne:x≠id:=h4
  refine Qr (Ql (Qc (Qa (QK rfl rfl (by omega) (by omega) rfl ?_))))
  refine Qb rfl rfl (Qf ?_)
  exact Q4 (L1:=[(0,_),(1,_),(7,_),(8,intV ((i+1:Nat):Int))]) (Vl rfl rfl rfl rfl) (k1:=l.length -(i+1)) (by omega) ⟨i+1,rfl,rfl,hS3.pick [0,1] rfl, by omega, fun j y hj hq=> by by_cases e:j=i;(subst e; rw[hx]at hq; cases hq; exact hne); exact hno j y (by omega) hq⟩
 refine QR (Qq (Qq (Qy (Qc (Qd (Qa (Qe rfl rfl (Qf (Qc (Qu (QP (.inr rfl) rfl rfl ?_)))))))))))
 exact⟨_,rfl,.inl ⟨rfl, fun y hm=> by obtain⟨j,hj⟩:=List.mem_iff_getElem?.1 hm; exact hno j y (by have :=(XW hj).1;omega) hj,hS1.pick [0,1] rfl⟩⟩
theorem CP {w:World} {g c:Nat} {id:Int} {F:Th} (hE:EqF Tryz.prog g c id) {sv:Value} {l:List Int} (hS:Sat w [rowT inC sv l,QG c [intV id],F]) (hln:l.length≤100000000000):
    Calls Tryz.prog 153 #[sv,.func (.func g) #[] #[ptrV c 0]] w (Ret fun v w'=>Sat w' [rowT inC v (l.filter (fun n=> !decide (n=id))),QG c [intV id],F]):= by
 obtain⟨ao,cap,rfl,hcap0,_⟩:=hS.own_shape 0 rfl
 refine Qo Tryz.func153 rfl Tryz.ntmps153 rfl ?_
 refine Qd (Qa (Qe rfl rfl (Qf (Qc (Qd (Qa (Qb rfl rfl (Qb rfl rfl (Zf cal_85 rfl (ixI_sp hE (hS.sp [1] rfl) (l:=l) (Ent.starL (Hs (C:=inC) (l:=l) (by omega)) 0 rfl)) rfl ?_)))))))))
 rintro e w1 ⟨_,rfl,(⟨rfl,hno,hS1⟩ | ⟨k,rfl,hk,hno,hS1⟩)⟩
 ·refine⟨_,rfl, ?_⟩
  replace hS1:=hS1.jn rfl rfl
  refine Qe rfl rfl (Qf (Qc (Qd (Qd (Qa (Qb rfl rfl (Xe rfl rfl rfl (Qf (Qc (Qt rfl (fun h2=> ?_) (fun h2=> ?_)))))))))))
  ·refine Qd (Qa (Qb rfl rfl (Qe rfl rfl (Qf (Qc (Qu (Qn (QP (.inr rfl) rfl rfl ?_))))))))
   exact⟨_,rfl, by rw[show l.filter (fun n=> !decide (n=id))=l from List.filter_eq_self.2 (fun y hy=> by simpa using hno y hy)]; exact hS1.pick [1,0,2] rfl⟩
  exact absurd rfl h2
 refine⟨_,rfl, ?_⟩
 replace hS1:=hS1.jn rfl rfl
 refine Qe rfl rfl (Qf (Qc (Qd (Qd (Qa (Qb rfl rfl (Xe rfl rfl rfl (Qf (Qc (Qt rfl (fun h3=> ?_) (fun h3=> ?_)))))))))))
 ·exact absurd h3 (by omega)
 refine Qr (Qc (Qd (Qd ?_)))
 have hkl:=(XW hk).1
 obtain⟨ob,oc9,hq9,hcap⟩:=hS1.own_at 1 rfl (by omega)
 cases hq9
 refine Qa (Qb rfl rfl (QK rfl rfl (by omega) (by omega) rfl ?_))
 refine Qe rfl rfl (Qf (Qc (Qh [1,0,4,5,6] rfl (Qw ?_))))
 have hq0:=hS1.pick [1,0,2] rfl
 refine Xa (fun K0 E0 W0=> ∃(l1:List Int) (i j:Nat),K0=l.length -j∧E0=[(0,.slice (some ⟨ob,0,none⟩) l.length cap),(1,.func (.func g) #[] #[ptrV c 0]),(5,intV (i:Int)),(6,intV (j:Int))]∧Sat W0 [rowT inC (.slice (some ⟨ob,0,none⟩) l.length cap) l1,QG c [intV id],F]∧(i<j)∧(j≤l.length)∧(l1.length=l.length)∧(l1.take i=(l.take j).filter (fun n=> !decide (n=id)))∧(l1.drop j=l.drop j)) (L0:=[(0,_),(1,_),(5,_),(6,_)]) (l.length -(k+1)) (Vl rfl rfl rfl rfl) ⟨l,k,k+1,rfl,rfl,hq0, by omega, by omega,rfl, by rw[VJ hk,if_pos rfl,List.append_nil];symm; rw[List.filter_eq_self]; intro y hy; obtain⟨q,hq⟩:=List.mem_iff_getElem?.1 hy; have hql:=(XW hq).1; rw[List.length_take]at hql; rw[List.getElem?_take,if_pos (by omega)]at hq;simpa using hno q y (by omega) hq,rfl⟩ ?_
 rintro _ _ w4 ⟨l1,i,j,rfl,rfl,hS4,hij,hjl,hl1,ht1,hd1⟩
 refine Qd (Qd (Qa (Qb rfl rfl (Qb rfl rfl ?_))))
 first | refine XE Tryz.underlying47 rfl rfl ?_ | refine JG 0 hS4 Tryz.underlying47 rfl rfl rfl ?_
 refine Xg rfl rfl rfl (Qf (Qc (Qt rfl (fun h5=> ?_) (fun h5=> ?_))))
 ·obtain⟨v,hv⟩: ∃v,l[j]? =some v:=⟨_,Zi (by omega)⟩
  have hv1:l1[j]? =some v:= by have :=congrArg (fun q=>q[0]?) hd1; simp only[List.getElem?_drop,Nat.add_zero]at this; rw[this]; exact hv
  refine Qr (Qc (Qd (Qw (Qd (Qa (Qb rfl rfl (Qb rfl rfl (Xr inC 0 j hS4 rfl rfl rfl (by rfl) hv1 KL rfl ?_))))))))
  intro bx6 capx6 hvx6
  refine Zx 0 j 0 hS4 rfl hvx6 rfl rfl hv1 QN rfl rfl (Qe rfl rfl (Qf (Qc (Qh [6,5,1,0,7] rfl (Qd (Qa (Qb rfl rfl (Qb rfl rfl (D5 rfl hE.1 rfl (hE.2 _ _ _ (hS4.sp [1] rfl)) rfl ?_)))))))))
  rintro e w7 ⟨_,rfl,rfl,hS7⟩; refine⟨_,rfl, ?_⟩
  replace hS7:=hS7.jn rfl rfl
  clear hS4
  refine QQ rfl rfl (Qf (Qc (QL rfl (fun h8=> ?_) (fun h8=> ?_))))
  ·have hvn: ¬v=id:= by simpa using h8
   refine Qd ?_
   obtain⟨vx,hvx⟩: ∃v,l1[i]? =some v:=⟨_,Zi (by omega)⟩
   refine Qa (Qb rfl rfl (Qb rfl rfl (Qb rfl rfl (Xr inC 1 i hS7 rfl rfl rfl (by rfl) hvx KL rfl ?_))))
   intro bx9 capx9 hvx9
   refine W6 1 i v hS7 rfl hvx9 rfl rfl Um (by rfl) (by omega) ?_
   intro w10 hS11; dsimp only[List.set]at hS11
   clear hS7
   refine Qf (Qc (Qh [6,5,1,0] rfl (Qa (Qb rfl rfl (QK rfl rfl (by omega) (by omega) rfl ?_)))))
   refine Qe rfl rfl (Qf (Ql (Qc (Qa (Qb rfl rfl (QK rfl rfl (by omega) (by omega) rfl ?_))))))
   refine Qe rfl rfl (Qf ?_)
   exact Q4 (L1:=[(0,_),(1,_),(5,intV ((i+1:Nat):Int)),(6,intV ((j+1:Nat):Int))]) (Vl rfl rfl rfl rfl) (k1:=l.length -(j+1)) (by omega) ⟨l1.set i v,i+1,j+1,rfl,rfl,hS11.pick [1,0,2] rfl, by omega, by omega, by rw[List.length_set]; exact hl1, by rw[VJ hv,if_neg hvn,List.take_add_one,List.getElem?_set_self (by omega),List.take_set_of_le (by omega),ht1];rfl, by rw[List.drop_set_of_lt (by omega)]; have :=congrArg (List.drop 1) hd1;rwa [List.drop_drop,List.drop_drop]at this⟩
  have hvi:v=id:= by simpa using h8
  refine Qr (Ql (Qc (Qa (Qb rfl rfl (QK rfl rfl (by omega) (by omega) rfl ?_)))))
  refine Qe rfl rfl (Qf ?_)
  exact Q4 (L1:=[(0,_),(1,_),(5,_),(6,intV ((j+1:Nat):Int))]) (Vl rfl rfl rfl rfl) (k1:=l.length -(j+1)) (by omega) ⟨l1,i,j+1,rfl,rfl,hS7.pick [1,0,2] rfl, by omega, by omega,hl1, by rw[VJ hv,if_pos hvi,List.append_nil]; exact ht1, by have :=congrArg (List.drop 1) hd1;rwa [List.drop_drop,List.drop_drop]at this⟩
 refine QR (Qq (Qq (Qy (Qc (Qd (Qa (Qb rfl rfl (Qb rfl rfl (BM i l.length Tryz.underlying47 Um rfl (Bh i _ rfl rfl) (qbh _) (by omega) (by omega) rfl ?_)))))))))
 rw[show Ur 1 (.slice (some ⟨ob,0,none⟩) l.length cap) i l.length= .slice (some ⟨ob,0+i*1,none⟩) (l.length -i) (cap -i) from Tt (by omega)]
 refine Tp 0 hS4 rfl rfl rfl Tryz.underlying47 HV rfl (by rw[inC.cells_len]; show 0+i*1+(l.length -i)*1≤l1.length*1;omega) (xs':=inC.cells (l1.take i++List.replicate (l1.length -i) 0)) (by rw[←hl1]; exact qah (by omega)) rfl ?_
 intro w12 hS12a; dsimp only[List.set]at hS12a
 have hS12:=Sat.row_cast (C:=inC) (l:=l1.take i++List.replicate (l1.length -i) 0) (hS12a.pull 0 rfl) (by rw[List.length_append,List.length_take,List.length_replicate];omega) rfl rfl; dsimp only[List.eraseIdx]at hS12
 clear hS4
 refine Qf (Qc (Qh [5,0] rfl (Qd (Qa (Qb rfl rfl (Qb rfl rfl (BM 0 i Tryz.underlying47 Um rfl (qbh _) (Bh i _ rfl rfl) (by omega) (by omega) rfl ?_)))))))
 rw[show Ur 1 (.slice (some ⟨ob,0,none⟩) l.length cap) 0 i= .slice (some ⟨ob,0,none⟩) i cap from Tt (by omega)]
 refine Qe rfl rfl (Qf (Qc (Qu (QP (.inr rfl) rfl rfl ?_))))
 have hz:=(hS12.pick [0,1,2] rfl).row_shrink i (by rw[List.length_append,List.length_take];omega)
 rw[List.take_append_of_le_length (by rw[List.length_take];omega),List.take_take,Nat.min_self,ht1,List.take_of_length_le (by omega)]at hz
 exact⟨_,rfl,hz⟩
theorem Sw {S:SS} {A:Int→Option ShE} {j:Int} (hA:A=up S.all j none):(fun i=>(A i).map fun x=>(x.refs,x.pg))=up (vw S) j none:= by
  subst hA
  funext i
  by_cases q:i=j
  · subst q; rw[XU,XU];rfl
  · rw[Zg q,Zg q];rfl
structure DelS (T:Nat) (S S':SS) (id:Int):Prop where
  inv:ShI Rq (T+1) S'
  f:ShF S S'
  is:vw S'=up (vw S) id none
theorem An {T:Nat} {S:SS} {id:Int} {x:ShE} (h:ShI Rq T S) (hx:S.all id=some x) (hp:x.place=1):DelS T S {offFrame S x.at_ with all:=up S.all id none} id:= by
  have h1:=(h.offFrame (fun q=>q) hx hp rfl).gone (j:=id) (.inr rfl)
  refine⟨h1.congr fun i _=>⟨fun ⟨a,b⟩=>b (a.resolve_left fun q=>q),False.elim⟩,⟨⟨[x.at_],rfl, fun j y hy hp1=> ?_⟩,rfl,rfl, by show(S.fr.set _ _).length=_; rw[List.length_set]⟩,Sw rfl⟩
  by_cases q:j=id
  · subst q; rw[hx]at hy; cases hy; exact .inl (by simp)
  · exact .inr ⟨y, by show up S.all id _ j=_; rw[Zg q]; exact hy,hp1,rfl⟩
theorem ShF.del {S S':SS} {id:Int} {x:ShE} (hx:S.all id=some x) (hp:x.place≠1) (ha:S'.all=up S.all id none) (ht:S'.taken=S.taken) (hb:S'.budget=S.budget) (hs:S'.slots=S.slots) (hf:S'.fr=S.fr):ShF S S':= by
  refine⟨⟨[], by rw[ht]; simp, fun j y hy hp1=> .inr ⟨y, ?_,hp1,rfl⟩⟩,hb,hs, by rw[hf]⟩
  rw[ha,Zg (fun q=> by subst q; rw[hx]at hy; cases hy; exact hp hp1)]; exact hy
theorem GO {T:Nat} {S:SS} {id:Int} {x:ShE} (h:ShI Rq T S) (hx:S.all id=some x) (hp:x.place=2):ShI (one id) T {S with cache:=S.cache.filter (fun n=> !decide (n=id))}:=
  (h.offCache hx hp (List.filter_sublist) (fun i=> by rw[List.mem_filter]; simp)).congr fun i _=>⟨fun q=>q.resolve_left fun q=>q, fun q=> .inr q⟩
theorem Ao {T:Nat} {S:SS} {id:Int} {x:ShE} (h:ShI Rq T S) (hx:S.all id=some x) (hp:x.place=2):DelS T S {S with cache:=S.cache.filter (fun n=> !decide (n=id)),all:=up S.all id none} id:= by
  have h1:=((GO h hx hp).gone (j:=id) rfl).mono (Nat.le_add_right T 1)
  exact⟨h1.congr fun i _=>⟨fun ⟨a,b⟩=>b a,False.elim⟩,ShF.del hx (by omega) rfl rfl rfl rfl rfl,Sw rfl⟩
theorem V5 {E:Int→Prop} {T:Nat} {S:SS} {id:Int} {x:ShE} (h:ShI E T S) (hE: ¬E id) (hx:S.all id=some x) (hp:x.place=3):GS S.sl x.at_=true∧DF S.sl x.at_=x.pg∧KS S.sl x.at_=S.sl.set x.at_.toNat []:= by
  obtain⟨h0,h1⟩:=h.slt hE hx hp
  have h64:=(h.ent hx).2.2.2.2.1
  have hne:x.pg≠[]:= fun q=> by rw[q]at h64; simp at h64
  have hb:GS S.sl x.at_=true:= by unfold GS; rw[h1]; simp [h0,hne]
  exact⟨hb, by unfold DF; rw[if_pos hb,h1];rfl, by unfold KS; rw[if_pos hb]⟩
theorem Mg {T:Nat} {S:SS} {id:Int} {x:ShE} (h:ShI Rq T S) (hx:S.all id=some x) (hp:x.place=3):ShI (one id) T {S with sl:=S.sl.set x.at_.toNat []}:=
  (h.offSlot (fun q=>q) hx hp).congr fun i _=>⟨fun q=>q.resolve_left fun q=>q, fun q=> .inr q⟩
theorem qai {T:Nat} {S:SS} {id:Int} {x:ShE} (h:ShI Rq T S) (hx:S.all id=some x) (hp:x.place=3):DelS T S {S with sl:=S.sl.set x.at_.toNat [],all:=up S.all id none} id:= by
  have h1:=((Mg h hx hp).gone (j:=id) rfl).mono (Nat.le_add_right T 1)
  exact⟨h1.congr fun i _=>⟨fun ⟨a,b⟩=>b a,False.elim⟩,ShF.del hx (by omega) rfl rfl rfl rfl rfl,Sw rfl⟩
def YW (S:SS) (id:Int):Bs:= match S.all id with | none=> if id=0 then zer else[] | some x=>x.pg
theorem eqU (c:Nat) (id:Int):EqF Tryz.prog 154 c id:=⟨cal_154, fun n w X hS=> by
  refine Qo Tryz.func154 rfl Tryz.ntmps154 rfl ?_
  refine Qd (Qa (Qe rfl rfl (Qf (Qc (Qd (Qa (Qb rfl rfl (Qp rfl QN (hS.cell 0 rfl rfl) rfl (Xe rfl rfl rfl (Qe rfl rfl (Qf (Qc (Qu (QP (.inr rfl) rfl rfl ?_))))))))))))))
  exact⟨_,rfl,rfl,hS⟩⟩
theorem eqB (c:Nat) (id:Int):EqF Tryz.prog 157 c id:=⟨cal_157, fun n w X hS=> by
  refine Qo Tryz.func157 rfl Tryz.ntmps157 rfl ?_
  refine Qd (Qa (Qe rfl rfl (Qf (Qc (Qd (Qa (Qb rfl rfl (Qp rfl QN (hS.cell 0 rfl rfl) rfl (Xe rfl rfl rfl (Qe rfl rfl (Qf (Qc (Qu (QP (.inr rfl) rfl rfl ?_))))))))))))))
  exact⟨_,rfl,rfl,hS⟩⟩
theorem SA {w:World} {p:Nat} {S:SS} {F:Th} (hS:Sat w [YV p S,F]) {N:Nat} (hI:ShI Rq N S) (hN:N≤80000000000) (id:Int):
    Calls Tryz.prog 104 #[ptrV p 0,intV id] w (Ret fun v w'=>(match S.all id with | none=>v=(if id=0 then intV 0 else intV 4)∧Sat w' [YV p S,F] | some x=>v=intV 0∧((1<x.refs∧Sat w' [YV p {S with all:=up S.all id (some {x with refs:=x.refs -1})},F])∨(x.refs=1∧ ∃S',DelS N S S' id∧Sat w' [YV p S',F])))):= by
 obtain⟨ba,bi,fp,sp,kp,ac,cc,at2,ct,hS⟩:=Zh hS
 cases hid:S.all id with
 | none=>
  dsimp only
  refine Qo Tryz.func104 rfl Tryz.ntmps104 rfl ?_
  refine Qd (Qa (XX hS rfl rfl rfl ?_))
  intro b1 w1 hS1
  refine Qe rfl rfl (Qf (Qc (Qd ?_)))
  have hS2:=hS1.drew
  refine QI [0,1,2,3,4,5,6,7,8,9,10,11] [9,10] Wq (by kernel_rfl) ?_
  refine QE rfl rfl rfl (Xj rfl rfl rfl (QS rfl rfl rfl XL (Q8 rfl rfl rfl (Qm rfl Zm (hS2.cell 1 rfl rfl)) (Q8 rfl rfl rfl (Qm rfl QN (hS2.cell 0 rfl rfl)) (Q8 rfl rfl rfl (WB (k:=id) 2 hS2 keysInt Tryz.underlying108 rfl rfl rfl XH (u:=(.agg #[intV 0,intV 0,intV 0,strV []])) (g:=false) (Hw hid) (Hd hid)) (QE rfl rfl rfl (We rfl rfl rfl rfl (We rfl rfl rfl rfl (Xi rfl rfl rfl rfl rfl rfl ?_)))))))))
  refine Xc hS2 XH rfl rfl ?_
  intro b3 w3 hS3
  clear hS2
  refine X9 (.cons (.inl ⟨rfl,(WB (k:=id) 3 hS3 keysInt Tryz.underlying108 rfl rfl rfl XH (u:=(.agg #[intV 0,intV 0,intV 0,strV []])) (g:=false) (Hw hid) (Hd hid))⟩) (.cons (.inl ⟨rfl,(Qm rfl QN (hS3.cell 1 rfl rfl))⟩) (.cons (.inl ⟨rfl,(Qm rfl Zm (hS3.cell 2 rfl rfl))⟩) .nil))) (Xi rfl rfl rfl rfl rfl rfl ?_)
  (refine QU hS3 rfl rfl Yc rfl (by rfl) (i:=0) rfl (by decide) ?_)
  intro w4 hS5; dsimp only[List.set]at hS5
  clear hS3
  refine Z0 (Xu (by kernel_rfl)) ?_
  refine XP rfl rfl rfl (VC.nil (Qc (Qh [0,3,4,5,6] rfl (Qd (Qd (Qa (Qb rfl rfl (QQ rfl rfl (Qf (Qc (QL rfl (fun h6=> ?_) (fun h6=> ?_))))))))))))
  ·refine Qd (Qd (Qa (Qp rfl QN (by first | assumption | exact hS5.cell 0 rfl rfl | exact hS5.cell 1 rfl rfl | exact hS5.cell 2 rfl rfl) rfl ?_)))
   refine Xe rfl rfl rfl (Qf (Qc (Qt rfl (fun h7=> ?_) (fun h7=> ?_))))
   ·exact Qd (Qa (Qe rfl rfl (Qf (Qc (Qu (Qn (Qn (QP (.inr rfl) rfl rfl (⟨_,rfl, by rw[if_pos (by omega)],QY (hS5.pick [2,3,4,5,6,7,8,9,10] rfl)⟩)))))))))
   exact Qr (Qc (Qd (Qa (Qe rfl rfl (Qf (Qc (Qu (Qn (QP (.inr rfl) rfl rfl (⟨_,rfl, by rw[if_neg (by omega)],QY (hS5.pick [2,3,4,5,6,7,8,9,10] rfl)⟩))))))))))
  exact absurd h6 (by simp)
 | some x=>
  obtain⟨hid1,_,hr1,hr2,_,hplc⟩:=hI.ent hid
  dsimp only
  refine Qo Tryz.func104 rfl Tryz.ntmps104 rfl ?_
  refine Qd (Qa (XX hS rfl rfl rfl ?_))
  intro b1 w1 hS1
  refine Qe rfl rfl (Qf (Qc (Qd ?_)))
  have hS2:=hS1.drew
  refine QI [0,1,2,3,4,5,6,7,8,9,10,11] [9,10] Wq (by kernel_rfl) ?_
  refine QE rfl rfl rfl (Xj rfl rfl rfl (QS rfl rfl rfl XL (Q8 rfl rfl rfl (Qm rfl Zm (hS2.cell 1 rfl rfl)) (Q8 rfl rfl rfl (Qm rfl QN (hS2.cell 0 rfl rfl)) (Q8 rfl rfl rfl (WB (k:=id) 2 hS2 keysInt Tryz.underlying108 rfl rfl rfl XH (u:=(.agg #[intV x.refs,intV x.place,intV x.at_,strV (Rl x)])) (g:=true) (J3 hid) (Hc hid)) (QE rfl rfl rfl (We rfl rfl rfl rfl (We rfl rfl rfl rfl (Xi rfl rfl rfl rfl rfl rfl ?_)))))))))
  refine Xc hS2 XH rfl rfl ?_
  intro b3 w3 hS3
  clear hS2
  refine X9 (.cons (.inl ⟨rfl,(WB (k:=id) 3 hS3 keysInt Tryz.underlying108 rfl rfl rfl XH (u:=(.agg #[intV x.refs,intV x.place,intV x.at_,strV (Rl x)])) (g:=true) (J3 hid) (Hc hid))⟩) (.cons (.inl ⟨rfl,(Qm rfl QN (hS3.cell 1 rfl rfl))⟩) (.cons (.inl ⟨rfl,(Qm rfl Zm (hS3.cell 2 rfl rfl))⟩) .nil))) (Xi rfl rfl rfl rfl rfl rfl ?_)
  (refine QU hS3 rfl rfl Yc rfl (by rfl) (i:=0) rfl (by decide) ?_)
  intro w4 hS5; dsimp only[List.set]at hS5
  clear hS3
  refine Z0 (Xu (by kernel_rfl)) ?_
  refine XP rfl rfl rfl (VC.nil (Qc (Qh [0,3,4,5,6] rfl (Qd (Qd (Qa (Qb rfl rfl (QQ rfl rfl (Qf (Qc (QL rfl (fun h6=> ?_) (fun h6=> ?_))))))))))))
  ·exact absurd h6 (by simp)
  refine Qr (Qc (Qd (Qd (Qa (Qg rfl JA rfl (Qp rfl QN (hS5.cell 0 rfl rfl) rfl (Hi rfl rfl (by omega) (by omega) rfl ?_)))))))
  refine Qg rfl JA rfl ?_
  (refine QJ hS5 rfl rfl Um (by rfl) (i:=0) rfl (Xn rfl) ?_)
  intro w7 hS8; dsimp only[List.set]at hS8
  clear hS5
  refine Qf (Qc (Qh [0,3,4,5] rfl (Qd (Qa (Qg rfl JA rfl (Qp rfl QN (hS8.cell 0 rfl rfl) rfl (YA rfl rfl rfl (Qf (Qc (Qt rfl (fun h9=> ?_) (fun h9=> ?_)))))))))))
  ·refine Qd ?_
   have hS10:=hS8.drew
   refine QI [0,1,2,3,4,5,6] [6] Wq (by kernel_rfl) ?_
   refine QE rfl rfl rfl (Xj rfl rfl rfl (QS rfl rfl rfl XL (Q8 rfl rfl rfl (Qm rfl Zm (hS10.cell 2 rfl rfl)) (Q8 rfl rfl rfl (Qm rfl QN (hS10.cell 1 rfl rfl)) (Q8 rfl rfl rfl (XD rfl qbt Yc (hS10.blk 0 rfl) (Xn rfl) rfl) (Xi rfl rfl rfl rfl rfl rfl ?_))))))
   refine Xh (k:=id) (v:=FL {x with refs:=x.refs -1}) 3 hS10 keysInt Tryz.underlying108 rfl rfl rfl rfl ?_
   intro w11 hS11a; dsimp only[List.set]at hS11a; have hS11:=hS11a; rw[KO]at hS11
   clear hS10
   refine Z0 (Xu (by kernel_rfl)) ?_
   exact VC.nil (Qc (Qh [0,3,4,5] rfl (Qd (Qa (Qe rfl rfl (Qf (Qc (Qu (Qn (QP (.inr rfl) rfl rfl (⟨_,rfl,rfl,.inl ⟨by omega,QY (S:={S with all:=up S.all id (some {x with refs:=x.refs -1})}) (hS11.pick [2,3,4,5,6,7,8,9,10] rfl)⟩⟩)))))))))))
  refine Qr (Qc (Qd (Qd (Qa (Qg rfl YY rfl (Qp rfl QN (hS8.cell 0 rfl rfl) rfl (Qf (Qc (Qw (Qd (Qa (Xe rfl rfl rfl (Qe rfl rfl (Qf (Qc (Qh [0,3,4,5,34,35] rfl (Qt rfl (fun h12=> ?_) (fun h12=> ?_))))))))))))))))))
  ·have hp1:x.place=1:=h12
   refine Qa (Qb rfl rfl (Qg rfl Y0 rfl (Qp rfl QN (hS8.cell 0 rfl rfl) rfl ?_)))
   have hS13:=QY (hS8.pick [2,3,4,5,6,7,8,9,0,1,10] rfl)
   refine Qv Ni rfl (GF (hS13.sp [0] rfl) (f:=x.at_) (b0:=x.pg) (hI.frc (fun q=>q) hid hp1) (by show S.ck.length=S.fr.length; rw[hI.ck,List.length_map]) (by have :=hI.tln;omega)) rfl ?_
   rintro _ w14 ⟨rfl,hS14⟩
   replace hS14:=hS14.jn rfl rfl
   clear hS13
   obtain⟨ba,bi,fp,sp,kp,ac,cc,at2,ct,hSo15⟩:=Zh (hS14.pick [0,1,2,3] rfl)
   refine Qf (Ql (Qc (Qd ?_)))
   have hS16:=hSo15.drew
   refine QI [0,1,2,3,4,5] [5] Wq (by kernel_rfl) ?_
   refine QE rfl rfl rfl (Xj rfl rfl rfl (QS rfl rfl rfl XL (Q8 rfl rfl rfl (Qm rfl Zm (hS16.cell 0 rfl rfl)) (Q8 rfl rfl rfl (Qm rfl QN (hS16.cell 9 rfl rfl)) (Xi rfl rfl rfl rfl rfl rfl ?_)))))
   refine Jm (k:=id) 1 hS16 keysInt Tryz.underlying108 rfl rfl rfl rfl ?_
   intro w17 hS17; dsimp only[List.set]at hS17; rw[FB]at hS17
   clear hS16
   refine Z0 (Xu (by kernel_rfl)) ?_
   exact VC.nil (Qc (Qh [4] rfl (Qd (Qa (Qe rfl rfl (Qf (Qc (Qu (QP (.inr rfl) rfl rfl (⟨_,rfl,rfl,.inr ⟨by omega,_,An hI hid hp1,QY (S:={offFrame S x.at_ with all:=up S.all id none}) (hS17.pick [0,1,2,3,4,5,6,7,10] rfl)⟩⟩))))))))))
  refine Qd (Qa (Xe rfl rfl rfl (Qe rfl rfl (Qf (Qc (Qt rfl (fun h18=> ?_) (fun h18=> ?_)))))))
  ·have hp2:x.place=2:=h18
   refine Qa (Qb rfl rfl (Qb rfl rfl (Qj rfl rfl (Qg rfl WA rfl (Qp rfl Hb (hS8.cell 2 rfl rfl) rfl ?_)))))
   refine Qv CX rfl (Kw (hS8.sp [] rfl) (Ent.starL (Hs (C:=inC) (l:=S.cache) (by have :=hI.cln;omega)) 5 rfl) (by have :=hI.cln;omega)) rfl ?_
   rintro _ w19 hS19
   replace hS19:=hS19.jn rfl rfl
   clear hS8
   have h1n:=hS19.own_one 0 rfl
   refine ZM rfl rfl ?_
   refine Qv Nh rfl (CP (eqU _ id) (hS19.sp [0,2] rfl) (by have :=hI.cln;omega)) rfl ?_
   rintro _ w20 hS20
   replace hS20:=hS20.jn rfl rfl
   clear hS19
   have h1d:=hS20.own_one 0 rfl
   refine Qj rfl rfl (Qg rfl WA rfl ?_)
   (refine QJ hS20 rfl rfl R4 (by assumption) (i:=3) rfl (Xn rfl) ?_)
   intro w21 hS22; dsimp only[List.set]at hS22
   clear hS20
   refine Qf (Ql (Qc (Qh [0,3,4] rfl (Qd ?_))))
   have hS23:=hS22.drew
   refine QI [0,1,2,3,4,5] [5] Wq (by kernel_rfl) ?_
   refine QE rfl rfl rfl (Xj rfl rfl rfl (QS rfl rfl rfl XL (Q8 rfl rfl rfl (Qm rfl Zm (hS23.cell 3 rfl rfl)) (Q8 rfl rfl rfl (Qm rfl QN (hS23.cell 1 rfl rfl)) (Xi rfl rfl rfl rfl rfl rfl ?_)))))
   refine Jm (k:=id) 4 hS23 keysInt Tryz.underlying108 rfl rfl rfl rfl ?_
   intro w24 hS24; dsimp only[List.set]at hS24; rw[FB]at hS24
   clear hS23
   refine Z0 (Xu (by kernel_rfl)) ?_
   exact VC.nil (Qc (Qd (Qa (Qe rfl rfl (Qf (Qc (Qu (QP (.inr rfl) rfl rfl (⟨_,rfl,rfl,.inr ⟨by omega,_,Ao hI hid hp2,QY (S:={S with cache:=S.cache.filter (fun n=> !decide (n=id)),all:=up S.all id none}) (hS24.pick [3,4,5,0,7,8,9,10,11] rfl)⟩⟩)))))))))
  refine Qd (Qa (Xe rfl rfl rfl (Qe rfl rfl (Qf (Qc (Qt rfl (fun h25=> ?_) (fun h25=> ?_)))))))
  ·have hp3:x.place=3:=h25
   have hS26:=hS8.drew
   refine QI [0,1,2,3,4,5,6] [6] Wq (by kernel_rfl) ?_
   refine QE rfl rfl rfl (Xj rfl rfl rfl (QS rfl rfl rfl YZ (Q8 rfl rfl rfl (Qm rfl VZ (hS26.cell 2 rfl rfl)) (QS rfl rfl rfl Y0 (Q8 rfl rfl rfl (Qm rfl QN (hS26.cell 0 rfl rfl)) (Xi rfl rfl rfl rfl rfl rfl ?_))))))
   refine Qv Ng rfl (GC (hS26.sp [7] rfl) x.at_) rfl ?_
   rintro _ w27 ⟨rfl,hS27⟩
   replace hS27:=hS27.jn rfl rfl
   clear hS26
   rw[(V5 hI (fun q=>q) hid hp3).2.2]at hS27
   refine X9 (Xu (by kernel_rfl)) ?_
   refine VC.nil (Ql (Qc (Qh [0,3,4] rfl (Qd ?_))))
   have hS28:=hS27.drew
   refine QI [0,1,2,3,4,5] [5] Wq (by kernel_rfl) ?_
   refine QE rfl rfl rfl (Xj rfl rfl rfl (QS rfl rfl rfl XL (Q8 rfl rfl rfl (Qm rfl Zm (hS28.cell 3 rfl rfl)) (Q8 rfl rfl rfl (Qm rfl QN (hS28.cell 2 rfl rfl)) (Xi rfl rfl rfl rfl rfl rfl ?_)))))
   refine Jm (k:=id) 4 hS28 keysInt Tryz.underlying108 rfl rfl rfl rfl ?_
   intro w29 hS29; dsimp only[List.set]at hS29; rw[FB]at hS29
   clear hS28
   refine Z0 (Xu (by kernel_rfl)) ?_
   exact VC.nil (Qc (Qd (Qa (Qe rfl rfl (Qf (Qc (Qu (QP (.inr rfl) rfl rfl (⟨_,rfl,rfl,.inr ⟨by omega,_,qai hI hid hp3,QY (S:={S with sl:=S.sl.set x.at_.toNat [],all:=up S.all id none}) (hS29.pick [3,4,5,6,7,0,8,9,10] rfl)⟩⟩)))))))))
  exact absurd hplc (by omega)
theorem T4 {w:World} {p:Nat} {S:SS} {F:Th} (hS:Sat w [YV p S,F]) {E:Int→Prop} {N:Nat} (hI:ShI E N S) (id:Int) (hE: ¬E id):
    Calls Tryz.prog 34 #[ptrV p 0,intV id] w (Ret fun v w'=>v=strV (YW S id)∧Sat w' [YV p S,F]):= by
 obtain⟨ba,bi,fp,sp,kp,ac,cc,at2,ct,hS⟩:=Zh hS
 cases hid:S.all id with
 | none=>
  refine Qo Tryz.func34 rfl Tryz.ntmps34 rfl ?_
  refine Qd (Qa (Qe rfl rfl (Qf (Qc (Qd (Qa (Qb rfl rfl (Qj rfl rfl (Qg rfl XL rfl (Qp rfl Zm (hS.cell 0 rfl rfl) rfl (Qb rfl rfl (Wk (k:=id) 1 hS keysInt Tryz.underlying108 rfl rfl rfl XH (u:=(.agg #[intV 0,intV 0,intV 0,strV []])) (g:=false) (Hw hid) (Hd hid) rfl (Qb rfl rfl (Qs rfl rfl rfl (Qs rfl rfl rfl (Xc hS XH rfl rfl ?_))))))))))))))))
  intro b1 w1 hS1
  (refine QU hS1 rfl rfl Yc rfl (by rfl) (i:=0) rfl (by decide) ?_)
  intro w2 hS3; dsimp only[List.set]at hS3
  clear hS1
  refine Qe rfl rfl (Qf (Qc (Qh [1,0,4,5,6] rfl (Qd (Qw (Qd (Qa (Qb rfl rfl (Xe rfl rfl rfl (Qe rfl rfl (Qf (Qc (Qt rfl (fun h4=> ?_) (fun h4=> ?_))))))))))))))
  ·refine Qd (Qa (Qv Fw rfl (ME (hS3.sp [] rfl) zer (by decide)) rfl ?_))
   rintro _ w5 ⟨rfl,hS5⟩
   replace hS5:=hS5.jn rfl rfl
   clear hS3
   refine Qe rfl rfl (Qf (Qc (Qu (Qx (Qn (QP (.inr rfl) rfl rfl ?_))))))
   exact⟨_,rfl, by unfold YW; rw[hid]; dsimp only; rw[if_pos (by omega)],QY (hS5.pick [1,2,3,4,5,6,7,8,9] rfl)⟩
  refine Qd (Qa (Qb rfl rfl (QQ rfl rfl (Qe rfl rfl (Qf (Qc (Qh [0,4,5,24] rfl (QL rfl (fun h6=> ?_) (fun h6=> ?_)))))))))
  ·refine Qd (Qa (Qe rfl rfl (Qf (Qc (Qu (Qx (Qn (QP (.inr rfl) rfl rfl ?_))))))))
   exact⟨_,rfl, by unfold YW; rw[hid]; dsimp only; rw[if_neg (by omega)],QY (hS3.pick [1,2,3,4,5,6,7,8,9] rfl)⟩
  exact absurd h6 (by simp)
 | some x=>
  obtain⟨hid1,_,hr1,hr2,_,hplc⟩:=hI.ent hid
  refine Qo Tryz.func34 rfl Tryz.ntmps34 rfl ?_
  refine Qd (Qa (Qe rfl rfl (Qf (Qc (Qd (Qa (Qb rfl rfl (Qj rfl rfl (Qg rfl XL rfl (Qp rfl Zm (hS.cell 0 rfl rfl) rfl (Qb rfl rfl (Wk (k:=id) 1 hS keysInt Tryz.underlying108 rfl rfl rfl XH (u:=(.agg #[intV x.refs,intV x.place,intV x.at_,strV (Rl x)])) (g:=true) (J3 hid) (Hc hid) rfl (Qb rfl rfl (Qs rfl rfl rfl (Qs rfl rfl rfl (Xc hS XH rfl rfl ?_))))))))))))))))
  intro b1 w1 hS1
  (refine QU hS1 rfl rfl Yc rfl (by rfl) (i:=0) rfl (by decide) ?_)
  intro w2 hS3; dsimp only[List.set]at hS3
  clear hS1
  refine Qe rfl rfl (Qf (Qc (Qh [1,0,4,5,6] rfl (Qd (Qw (Qd (Qa (Qb rfl rfl (Xe rfl rfl rfl (Qe rfl rfl (Qf (Qc (Qt rfl (fun h4=> ?_) (fun h4=> ?_))))))))))))))
  ·exact absurd h4 (by omega)
  refine Qd (Qa (Qb rfl rfl (QQ rfl rfl (Qe rfl rfl (Qf (Qc (Qh [0,4,5,24] rfl (QL rfl (fun h5=> ?_) (fun h5=> ?_)))))))))
  ·exact absurd h5 (by simp)
  refine Qd (Qa (Qg rfl YY rfl (Qp rfl QN (hS3.cell 0 rfl rfl) rfl (Xe rfl rfl rfl (Qe rfl rfl (Qf (Qc (Qt rfl (fun h6=> ?_) (fun h6=> ?_)))))))))
  ·have hp1:x.place=1:=h6
   refine Qd ?_
   have hS7:=hS3.drew
   refine QI [0,1,2,3,4,5,6,7] [6] Wq (by kernel_rfl) ?_
   refine QE rfl rfl rfl (Xj rfl rfl rfl (QS rfl rfl rfl WO (Q8 rfl rfl rfl (Qm rfl YM (hS7.cell 1 rfl rfl)) (QS rfl rfl rfl Y0 (Q8 rfl rfl rfl (Qm rfl QN (hS7.cell 0 rfl rfl)) (Xi rfl rfl rfl rfl rfl rfl ?_))))))
   refine Qv Fv rfl (GU (hS7.sp [5] rfl) x.at_) rfl ?_
   rintro _ w8 ⟨rfl,hS8⟩
   replace hS8:=hS8.jn rfl rfl
   clear hS7
   rw[hI.frc hE hid hp1]
   dsimp only[Option.getD_some]
   refine X9 (Xu (by kernel_rfl)) ?_
   refine XP rfl rfl rfl (VC.nil (Qc (Qh [0,5,4] rfl (Qu (Qx (Qn (QP (.inr rfl) rfl rfl ?_)))))))
   exact⟨_,rfl, by unfold YW; rw[hid],QY (hS8.pick [2,3,4,5,0,6,7,8,9] rfl)⟩
  refine Qd (Qa (Qg rfl YY rfl (Qp rfl QN (hS3.cell 0 rfl rfl) rfl (Xe rfl rfl rfl (Qe rfl rfl (Qf (Qc (Qh [0,4,5,38] rfl (Qt rfl (fun h9=> ?_) (fun h9=> ?_))))))))))
  ·have hp2:x.place=2:=h9
   refine Qd (Qa (Qg rfl M0 rfl (Qp rfl ZZ (hS3.cell 0 rfl rfl) rfl ?_)))
   obtain⟨fy,hfy⟩:=Option.ne_none_iff_exists'.1 (hI.pck hE hid hp2).2
   have hfme:Rl x=fy:= by unfold Rl fm; rw[if_pos hp2,hfy];rfl
   refine Qv Fu rfl (G9 (hS3.sp [] rfl) (hI.ent hid).2.2.2.2.1 (by rw[hfme]; exact hfy)) rfl ?_
   rintro _ w10 ⟨rfl,hS10⟩
   replace hS10:=hS10.jn rfl rfl
   clear hS3
   refine Qb rfl rfl (Qs rfl rfl rfl (Qs rfl rfl rfl (Qe rfl rfl (Qe rfl rfl (Qf (Qc (Qh [0,4,5,7] rfl (Qd (Qa (Qb rfl rfl (Qe rfl rfl (Qf (Qc (Qu (Qx (Qn (QP (.inr rfl) rfl rfl ?_)))))))))))))))))
   exact⟨_,rfl, by unfold YW; rw[hid],QY (hS10.pick [1,2,3,4,5,6,7,8,9] rfl)⟩
  refine Qr (Ql (Qc (Qd ?_)))
  have hp3:x.place=3:= by omega
  have hS11:=hS3.drew
  refine QI [0,1,2,3,4,5,6,7,8,9,10,11] [6] Wq (by kernel_rfl) ?_
  refine QE rfl rfl rfl (Xj rfl rfl rfl (QS rfl rfl rfl YZ (Q8 rfl rfl rfl (Qm rfl VZ (hS11.cell 1 rfl rfl)) (QS rfl rfl rfl Y0 (Q8 rfl rfl rfl (Qm rfl QN (hS11.cell 0 rfl rfl)) (Xi rfl rfl rfl rfl rfl rfl ?_))))))
  refine Qv qa3 rfl (ND (hS11.sp [6] rfl) x.at_) rfl ?_
  rintro _ w12 ⟨eg,rfl,hS12⟩
  replace hS12:=hS12.jn rfl rfl
  clear hS11
  rw[(V5 hI hE hid hp3).2.1]
  refine X9 (Xu (by kernel_rfl)) ?_
  refine QE rfl rfl rfl (We rfl rfl rfl rfl (We rfl rfl rfl rfl (XP rfl rfl rfl (XP rfl rfl rfl (VC.nil (Qc (Qh [4,9] rfl (Qd (Qa (Qb rfl rfl (Qe rfl rfl (Qf (Qc (Qu (QP (.inr rfl) rfl rfl ?_)))))))))))))))
  exact⟨_,rfl, by unfold YW; rw[hid],QY (hS12.pick [2,3,4,5,6,0,7,8,9] rfl)⟩
def Et (S:SS) (id at_:Int):UInt8:= if 0≤at_∧at_<64 then(YW S id).getD at_.toNat 0 else 0
theorem OR {E:Int→Prop} {N:Nat} {S:SS} (hI:ShI E N S) (id:Int):(YW S id).length=64∨YW S id=[]:= by
  unfold YW
  cases hid:S.all id with
  | none=> dsimp only;split;(left;decide);right;rfl
  | some x=> exact .inl (hI.ent hid).2.2.2.2.1
theorem Es {w:World} {p:Nat} {S:SS} {F:Th} (hS:Sat w [YV p S,F]) {N:Nat} (hI:ShI Rq N S) (hN:N≤80000000000) (id at_:Int):
    Calls Tryz.prog 47 #[ptrV p 0,intV id,intV at_] w (Ret fun v w'=>v=XS (Et S id at_)∧Sat w' [YV p S,F]):= by
 refine Qo Tryz.func47 rfl Tryz.ntmps47 rfl ?_
 refine Qd (Qa (Qe rfl rfl (Qf (Qc (Qd (Qd (Qa (Qb rfl rfl (Xg rfl rfl rfl (Qb rfl rfl (QW 10 rfl (fun h1=> ?_) (fun h1=> ?_))))))))))))
 ·refine Qi rfl rfl (Xf h1) rfl (Qi rfl rfl (Xf h1) rfl (QC rfl (Xf h1) rfl rfl (Qf (Qc (Xl rfl (Qd (Qa (Qe rfl rfl (Qf (Qc (Qu (Qn (QP (.inr rfl) rfl rfl ?_)))))))))))))
  exact⟨_,rfl, by unfold Et; rw[if_neg (by omega)];rfl,hS.pick [0,1] rfl⟩
 refine Qk rfl rfl (Q6 h1) (Qb rfl rfl (Qk rfl rfl (Q6 h1) (JQ rfl rfl rfl (QO rfl (Q6 h1) rfl rfl (Qf (Qc (Qt rfl (fun h2=> ?_) (fun h2=> ?_))))))))
 ·refine Qd (Qa (Qe rfl rfl (Qf (Qc (Qu (Qn (QP (.inr rfl) rfl rfl ?_)))))))
  exact⟨_,rfl, by unfold Et; rw[if_neg (by omega)];rfl,hS.pick [0,1] rfl⟩
 refine Qr (Qc (Qd (Qd (Qa (Qb rfl rfl (Qb rfl rfl (Qv JV rfl (T4 (hS.sp [0] rfl) hI id (fun q=>q)) rfl ?_)))))))
 rintro _ w3 ⟨rfl,hS3⟩
 replace hS3:=hS3.jn rfl rfl
 refine Qe rfl rfl (Qf (Qc (Qh [2,6,7] rfl (Qd (Qa (Qb rfl rfl (Rv rfl rfl rfl (Qf (Qc (Qt rfl (fun h4=> ?_) (fun h4=> ?_)))))))))))
 ·have hpn:YW S id≠[]:=h4
  obtain⟨cb,hcb⟩: ∃c,(YW S id)[at_.toNat]? =some c:=⟨_,Zi (by have :=(OR hI id).resolve_right hpn;omega)⟩
  refine Qd (Qa (Qb rfl rfl (Qb rfl rfl (Y9 at_.toNat Tryz.underlying9 rfl rfl (by omega) hcb rfl ?_))))
  refine Qe rfl rfl (Qf (Qc (Qu (Qn (QP (.inr rfl) rfl rfl ?_)))))
  exact⟨_,rfl, by unfold Et; rw[if_pos (by omega),List.getD_eq_getElem?_getD,hcb];rfl,hS3.pick [0,1] rfl⟩
 have hpn: ¬YW S id≠[]:=h4
 refine Qr (Qc (Qd (Qa (Qe rfl rfl (Qf (Qc (Qu (QP (.inr rfl) rfl rfl ?_))))))))
 exact⟨_,rfl, by unfold Et; rw[if_pos (by omega), show YW S id=[] from Decidable.not_not.1 hpn];rfl,hS3.pick [0,1] rfl⟩
theorem mc1 : (Tryz.f127.name == "runtime.NumGoroutine") = false := by kernel_rfl
theorem mc2:Tryz.f127.body.isNone=true:= by kernel_rfl
theorem mc3:Extern.findNext Tryz.f127=none:= by kernel_rfl
theorem mc4:Extern.find Tryz.f127=some Extern.MapsClone.clone:= by kernel_rfl
def K6 (count slots budget:Int):SS:=⟨fun _=>none, fun _=>none,[],List.replicate (min (max count 1) 256).toNat none,List.replicate (min (max slots 0) 4096).toNat [],List.replicate (min (max count 1) 256).toNat false,min (max slots 0) 4096,max budget 0,1,[]⟩
theorem OX (count slots budget:Int):ShI Rq 0 (K6 count slots budget) where
  ck:= by simp [K6]
  fr1:= by simp [K6];omega
  fr2:= by simp [K6];omega
  slo:= by simp [K6];omega
  sl2:= by simp [K6];omega
  bud:= by simp [K6];omega
  nx1:= by simp [K6]
  nx2:= by simp [K6]
  ent:= fun h=> by cases h
  frm:= fun f j=>⟨fun h=>(by cases h), fun ⟨_,x,h,_⟩=>(by cases h)⟩
  frc:= fun _ h=> by cases h
  fru:= fun {f b} h=> by
    obtain⟨_,h⟩:=YF h
    have :(K6 count slots budget).fr=List.replicate (min (max count 1) 256).toNat none:=rfl
    rw[this,List.getElem?_replicate]at h
    split at h
    · cases h
    · cases h
  pck:= fun _ h=> by cases h
  cch:= fun h=> by cases h
  nod:=List.nodup_nil
  sum:= by show((0:Nat):Int)≤max budget 0;omega
  slt:= fun _ h=> by cases h
  slu:= fun {k p} h hp=> by
    have :(K6 count slots budget).sl=List.replicate (min (max slots 0) 4096).toNat []:=rfl
    rw[this,List.getElem?_replicate]at h
    split at h
    · cases h; exact absurd rfl hp
    · cases h
  sli:= fun _ _ h=> by cases h
  cln:=Nat.le_refl _
  tln:=Nat.le_refl _
theorem aG_nil:(fun _=>none:Int→Option Value)=aG (fun _=>none):=rfl
theorem On {w:World} {F:Th} (hS:Sat w [F]) (count slots budget:Int):
    Calls Tryz.prog 15 #[intV count,intV slots,intV budget] w (Ret fun v w'=> ∃p,v=ptrV p 0∧Sat w' [YV p (K6 count slots budget),F]):= by
 refine Qo Tryz.func15 rfl Tryz.ntmps15 rfl ?_
 refine Qd (Qa (Qe rfl rfl (Qf (Qc (Qd (Qa (Qb rfl rfl (Ym rfl rfl rfl (HZ rfl rfl rfl (Qb rfl rfl (Ym rfl rfl rfl (HZ rfl rfl rfl (Qe rfl rfl (Qe rfl rfl (Qf (Qc (Qd (Qa (Za QX hS rfl ?_)))))))))))))))))))
 intro mb1 w1 hS1; rw[aG_nil]at hS1
 refine Za QX hS1 rfl ?_
 intro mb2 w2 hS2; rw[RO]at hS2
 clear hS1
 refine Qb rfl rfl (Qv cal_57 rfl (IF (hS2.sp [] rfl) (min (max count 1) 256)) rfl ?_)
 rintro _ w3 ⟨fpn,rfl,hS3⟩
 replace hS3:=hS3.jn rfl rfl
 clear hS2
 refine Qb rfl rfl (Qv cal_58 rfl (Od (hS3.sp [] rfl) (min (max slots 0) 4096)) rfl ?_)
 rintro _ w4 ⟨spn,rfl,hS4⟩
 replace hS4:=hS4.jn rfl rfl
 clear hS3
 refine Qb rfl rfl (Qv cal_59 rfl (qay (hS4.sp [] rfl) (min (max count 1) 256) (by omega)) rfl ?_)
 rintro _ w5 ⟨kpn,rfl,hS5⟩
 replace hS5:=hS5.jn rfl rfl
 clear hS4
 refine Qb rfl rfl (Qb rfl rfl (Ym rfl rfl rfl (Zn rfl UQ asz_117 zr_117 rfl rfl (XX hS5 rfl rfl rfl ?_))))
 intro bp wbp hSbp
 clear hS5
 refine Qe rfl rfl (Qf (Qc (Qh [6] rfl (Qu (QP (.inr rfl) rfl rfl ?_)))))
 have hz:=(hSbp.pick [0,5,4,3,2,1,6] rfl).row_nil inC
 have hz2:=(hz.reorder [1,2,3,0,4,5,6,7] rfl).row_nil inC
 rw[show(min (max (min (max count 1) 256) 0) 4096).toNat=(min (max count 1) 256).toNat by omega]at hz2
 rw[show(max 0 (min (min (max slots 0) 4096) 4096)).toNat=(min (max slots 0) 4096).toNat by omega]at hz2
 exact⟨_,rfl,_,rfl,QY (S:=K6 count slots budget) (hz2.reorder [1,2,3,4,5,6,7,0,8] rfl)⟩
end Go.Proofs.YtkcjfoaejijdoaaGreatDoor
