/- slices.IndexFunc, DeleteFunc -/
import Derived.Test.YtifaibmhinlcfaaGreatDoorBit
import Derived.Test.YtifaibmhinlcfaaGreatDoorSh7
set_option linter.unusedVariables false
set_option maxRecDepth 100000
set_option maxHeartbeats 80000000000
namespace Go.Proofs.YtifaibmhinlcfaaGreatDoor
open Go.RowKit M Proofs.Tryz
variable {E:Int→Prop} {N g p:Nat} {S:SS} {X:Th} {caps:List Value} {id:Int} {l:List Int} {w:World} {x:ShE}
def EqG (P:Program) (g:Nat) (caps:List Value) (X:Th) (id:Int):Prop:=Q8 P g=true/\ ∀(n:Int) (w:World) (Y:Th),Sat w [X,Y]->Calls P g (intV n::caps).toArray w (Ret λv w'=>v= .bool (decide (n=id))/\Sat w' [X,Y])
abbrev EqF (P:Program) (g:Nat) (c:Nat) (id:Int):Prop:=EqG P g [ptrV c 0] (Q6 c [intV id]) id
theorem ixI_sp {F:Th} (r:EqG prog g caps X id) (s:Sat w [X,F]) {lv:Value} (h:Ent F (RdL inC lv l)):
    Calls prog 182 #[lv,.func (.func g) #[] caps.toArray] w (Ret λv w'=>(v=intV (-1)/\(∀y∈l,y≠id)/\Sat w' [X,F])\/(∃k:Nat,v=intV (k:Int)/\l[k]? =some id/\(∀j y,j<k->l[j]? =some y->y≠id)/\Sat w' [X,F])):=by
 obtain⟨ao,cap,rfl,t⟩:=(h.sat s 1 rfl).shape;refine Qn func182 U ntmps182 U ?_;refine Qe<|Qa<|Qd U U<|Qf<|Qc<|Qe<|Qe<|Qa<|Qb U U<|Xl underlying24 U U<|Qb U U<|Qf<|Qc<|Qx ?_;refine QU (λK0 E0 W0=> ∃(i:Nat),K0=l.length -i/\E0=[(0,.slice ao l.length cap),(1,.func (.func g) #[] caps.toArray),(7,intV (l.length:Int)),(8,intV (i:Int))]/\Sat W0 [X,F]/\(i<=l.length)/\(∀j y,j<i->l[j]? =some y->y≠id)) (L0:=[(0,_),(1,_),(7,_),(8,_)]) (l.length -0) (Rs U U U U) ⟨0,rfl,rfl,s,by omega,by omega⟩ ?_;rintro _ _ A ⟨i,rfl,rfl,d,hi,a⟩;refine Qe<|Qa<|Xa U U U<|Qf<|Qc<|Qe<|Qs U (λu=> ?_) (λu=> ?_)
 ·obtain⟨x,c⟩: ∃x,l[i]? =some x:=⟨_,XQ (by omega)⟩;obtain⟨b,off,rfl,_⟩:=(h.sat d 1 rfl).get c;refine Qt<|Qc<|Qe<|Qx<|Qe<|Qa<|Qb U U<|Qd U U<|Qf<|Qc<|Qe<|Qa<|Qb U U<|Qb U U<|Qb U U<|Xt i U U (by first | rfl | omega) ((Za c).1) WZ U ?_
  refine Qo U QL (((h.sat d 1 U).at_ c) 0 _ U) U<|VU U r.1 U (r.2 _ _ _ (d.sp [0] U)) U ?_;rintro e B ⟨_,rfl,rfl,f⟩;refine⟨_,rfl, ?_⟩;replace f:=f.jn U U;refine Qf<|Qc<|Qh [8,7,1,0,5,16] U<|Qs U (λm=> ?_) (λm=> ?_)
  ·have n:x=id:=m;refine Qe<|Qa<|Qb U U<|Qd U U<|Qf<|Qc<|Qu<|Q1<|Qq<|Qq<|Q1<|Qq<|QJ (.inr U) U U ?_;exact⟨_,rfl,.inr ⟨i,rfl,by rw[c,n],a,f.pick [0,1] U⟩⟩
  have o:x≠id:=m;refine Qt<|Qm<|Qc<|Qa<|QE U U (by omega) (by omega) U ?_;refine Qb U U<|Qf ?_;exact Q5 (L1:=[(0,_),(1,_),(7,_),(8,intV ((i+1:Nat):Int))]) (Rs U U U U) (k1:=l.length -(i+1)) (by omega) ⟨i+1,rfl,rfl,f.pick [0,1] U,by omega,λj y p q=>by by_cases e:j=i;(subst e;rw[c]at q;cases q;exact o);exact a j y (by omega) q⟩
 refine QQ<|Qp<|Qp<|Qy<|Qc<|Qe<|Qa<|Qd U U<|Qf<|Qc<|Qu<|QJ (.inr U) U U ?_;exact⟨_,rfl,.inl ⟨rfl,λy z=>by obtain⟨j,p⟩:=List.mem_iff_getElem?.1 z;exact a j y (by have :=(Za p).1;omega) p,d.pick [0,1] rfl⟩⟩
theorem Md {F:Th} (x:EqG prog g caps X id) {sv:Value} (M:Sat w [rowT inC sv l,X,F]) (S:l.length<=100000000000):
    Calls prog 128 #[sv,.func (.func g) #[] caps.toArray] w (Ret λv w'=>Sat w' [rowT inC v (l.filter (λn=> !decide (n=id))),X,F]):=by
 obtain⟨ao,cap,rfl,z,_⟩:=M.own_shape 0 rfl;refine Qn func128 U ntmps128 U ?_;refine Qe<|Qa<|Qd U U<|Qf<|Qc<|Qe<|Qa<|Qb U U<|Qb U U<|XF cal_182 U (ixI_sp x (M.sp [1] U) (l:=l) (Ent.starL (Ja (C:=inC) (l:=l) (by omega)) 0 U)) U ?_;rintro e w1 ⟨_,rfl,(⟨rfl,c,b⟩ | ⟨k,rfl,N,c,b⟩)⟩
 ·refine⟨_,U, ?_⟩;replace b:=b.jn U U;refine Qd U U<|Qf<|Qc<|Qe<|Qe<|Qa<|Qb U U<|Xg U U U<|Qf<|Qc<|Qs U (λO=> ?_) (λO=> ?_)
  ·refine Qe<|Qa<|Qb U U<|Qd U U<|Qf<|Qc<|Qu<|Qq<|QJ (.inr U) U U ?_;exact⟨_,rfl,by rw[show l.filter (λn=> !decide (n=id))=l from List.filter_eq_self.2 (λy A=>by simpa using c y A)];exact b.pick [1,0,2] U⟩
  exact absurd U O
 refine⟨_,U, ?_⟩;replace b:=b.jn U U;refine Qd U U<|Qf<|Qc<|Qe<|Qe<|Qa<|Qb U U<|Xg U U U<|Qf<|Qc<|Qs U (λP=> ?_) (λP=> ?_)
 ·exact absurd P (by omega)
 refine Qt<|Qc<|Qe<|Qe ?_;have T:=(Za N).1;obtain⟨ob,oc9,B,Q⟩:=b.own_at 1 rfl (by omega);cases B;refine Qa<|Qb U U<|QE U U (by omega) (by omega) U ?_;refine Qd U U<|Qf<|Qc<|Qh [1,0,4,5,6] U<|Qx ?_;have D:=b.pick [1,0,2] U;refine QU (λK0 E0 W0=> ∃(l1:List Int) (i j:Nat),K0=l.length -j/\E0=[(0,.slice (some ⟨ob,0,none⟩) l.length cap),(1,.func (.func g) #[] caps.toArray),(5,intV (i:Int)),(6,intV (j:Int))]/\Sat W0 [rowT inC (.slice (some ⟨ob,0,none⟩) l.length cap) l1,X,F]/\(i<j)/\(j<=l.length)/\(l1.length=l.length)/\(l1.take i=(l.take j).filter (λn=> !decide (n=id)))/\(l1.drop j=l.drop j)) (L0:=[(0,_),(1,_),(5,_),(6,_)]) (l.length -(k+1)) (Rs rfl rfl rfl rfl) ⟨l,k,k+1,rfl,rfl,D,by omega,by omega,rfl,by rw[Hp N,if_pos rfl,List.append_nil];symm;rw[List.filter_eq_self];intro y A;obtain⟨q,E⟩:=List.mem_iff_getElem?.1 A;have G:=(Za E).1;rw[List.length_take]at G;rw[List.getElem?_take,if_pos (by omega)]at E;simpa using c q y (by omega) E,rfl⟩ ?_;rintro _ _ w4 ⟨l1,i,j,rfl,rfl,m,V,W,d,f,h⟩;refine Qe<|Qe<|Qa<|Qb U U<|Qb U U ?_
 first | refine Xl underlying24 U U ?_ | refine Wa 0 m underlying24 U U U ?_
 refine Xa U U U<|Qf<|Qc<|Qs U (λY=> ?_) (λY=> ?_)
 ·obtain⟨v,H⟩: ∃v,l[j]? =some v:=⟨_,XQ (by omega)⟩;have o:l1[j]? =some v:=by have :=congrArg (λq=>q[0]?) h;simp only[List.getElem?_drop,Nat.add_zero]at this;rw[this];exact H
  refine Qt<|Qc<|Qe<|Qx<|Qe<|Qa<|Qb U U<|Qb U U<|Xj inC 0 j m U U U (by rfl) o WZ U ?_;intro bx6 capx6 p;refine Zh 0 j 0 m U p U U o QL U U<|Qd U U<|Qf<|Qc<|Qh [6,5,1,0,7] U<|Qe<|Qa<|Qb U U<|Qb U U<|VU U x.1 U (x.2 _ _ _ (m.sp [1] U)) U ?_;rintro e w7 ⟨_,rfl,rfl,r⟩;refine⟨_,rfl, ?_⟩;replace r:=r.jn U U;refine QX U U<|Qf<|Qc<|QR U (λI=> ?_) (λI=> ?_)
  ·have J: ¬v=id:=by simpa using I
   refine Qe ?_;obtain⟨vx,K⟩: ∃v,l1[i]? =some v:=⟨_,XQ (by omega)⟩;refine Qa<|Qb U U<|Qb U U<|Qb U U<|Xj inC 1 i r U U U (by rfl) K WZ U ?_;intro bx9 capx9 s;refine Wp 1 i v r U s U U YD (by rfl) (by omega) ?_;intro Z t;dsimp only[List.set]at t;refine Qf<|Qc<|Qh [6,5,1,0] U<|Qa<|Qb U U<|QE U U (by omega) (by omega) U ?_;refine Qd U U<|Qf<|Qm<|Qc<|Qa<|Qb U U<|QE U U (by omega) (by omega) U ?_;refine Qd U U<|Qf ?_;exact Q5 (L1:=[(0,_),(1,_),(5,intV ((i+1:Nat):Int)),(6,intV ((j+1:Nat):Int))]) (Rs U U U U) (k1:=l.length -(j+1)) (by omega) ⟨l1.set i v,i+1,j+1,rfl,rfl,t.pick [1,0,2] U,by omega,by omega,by rw[List.length_set];exact d,by rw[Hp H,if_neg J,List.take_add_one,List.getElem?_set_self (by omega),List.take_set_of_le (by omega),f];rfl,by rw[List.drop_set_of_lt (by omega)];have :=congrArg (List.drop 1) h;rwa [List.drop_drop,List.drop_drop]at this⟩
  have L:v=id:=by simpa using I
  refine Qt<|Qm<|Qc<|Qa<|Qb U U<|QE U U (by omega) (by omega) U ?_;refine Qd U U<|Qf ?_;exact Q5 (L1:=[(0,_),(1,_),(5,_),(6,intV ((j+1:Nat):Int))]) (Rs U U U U) (k1:=l.length -(j+1)) (by omega) ⟨l1,i,j+1,rfl,rfl,r.pick [1,0,2] U,by omega,by omega,d,by rw[Hp H,if_pos L,List.append_nil];exact f,by have :=congrArg (List.drop 1) h;rwa [List.drop_drop,List.drop_drop]at this⟩
 refine QQ<|Qp<|Qp<|Qy<|Qc<|Qe<|Qa<|Qb U U<|Qb U U<|DC i l.length underlying24 YD U (Bg i _ U U) (qad _) (by omega) (by omega) U ?_;rw[show U9 1 (.slice (some ⟨ob,0,none⟩) l.length cap) i l.length= .slice (some ⟨ob,0+i*1,none⟩) (l.length -i) (cap -i) from CE (by omega)];refine CB 0 m U U U underlying24 Ul U (by rw[inC.cells_len];show 0+i*1+(l.length -i)*1<=l1.length*1;omega) (xs':=inC.cells (l1.take i++List.replicate (l1.length -i) 0)) (by rw[<-d];exact qet (by omega)) U ?_;intro a0 a;dsimp only[List.set]at a;have u:=Sat.row_cast (C:=inC) (l:=l1.take i++List.replicate (l1.length -i) 0) (a.pull 0 U) (by rw[List.length_append,List.length_take,List.length_replicate];omega) U U;dsimp only[List.eraseIdx]at u;refine Qf<|Qc<|Qh [5,0] U<|Qe<|Qa<|Qb U U<|Qb U U<|DC 0 i underlying24 YD U (qad _) (Bg i _ U U) (by omega) (by omega) U ?_;rw[show U9 1 (.slice (some ⟨ob,0,none⟩) l.length cap) 0 i= .slice (some ⟨ob,0,none⟩) i cap from CE (by omega)];refine Qd U U<|Qf<|Qc<|Qu<|QJ (.inr U) U U ?_;have R:=(u.pick [0,1,2] U).row_shrink i (by rw[List.length_append,List.length_take];omega);rw[List.take_append_of_le_length (by rw[List.length_take];omega),List.take_take,Nat.min_self,f,List.take_of_length_le (by omega)]at R;exact⟨_,U,R⟩
theorem FW {A:Int->Option ShE} {j:Int} (a:A=up S.all j none):(λi=>(A i).map λx=>(x.refs,x.pg))=up (vw S) j none:=by
  subst a;funext i;by_cases q:i=j
  · subst q;rw[Zf,Zf];rfl
  · rw[Zq q,Zq q];rfl
structure DelS (T:Nat) (S S':SS) (id:Int):Prop where
  inv:ShI Gj (T+1) S'
  f:ShF S S'
  is:vw S'=up (vw S) id none
theorem IJ {T:Nat} (h:ShI Gj T S) (e:S.all id=some x) (f:x.place=1):DelS T S {offFrame S x.at_ with all:=up S.all id none} id:=by
  have g:=(h.offFrame (λq=>q) e f U).gone (j:=id) (.inr U);refine⟨g.congr λi _=>⟨λ⟨a,b⟩=>b (a.resolve_left λq=>q),False.elim⟩,⟨⟨[x.at_],rfl,λj y c d=> ?_⟩,rfl,rfl,by show(S.fr.set _ _).length=_;rw[List.length_set]⟩,FW U⟩;by_cases q:j=id
  · subst q;rw[e]at c;cases c;exact .inl (by simp)
  · exact .inr ⟨y,by show up S.all id _ j=_;rw[Zq q];exact c,d,rfl⟩
theorem ShF.del {S':SS} (c:S.all id=some x) (d:x.place≠1) (e:S'.all=up S.all id none) (f:S'.taken=S.taken) (g:S'.budget=S.budget) (h:S'.slots=S.slots) (i:S'.fr=S.fr):ShF S S':=by
  refine⟨⟨[],by rw[f];simp,λj y b a=> .inr ⟨y, ?_,a,rfl⟩⟩,g,h,by rw[i]⟩;rw[e,Zq (λq=>by subst q;rw[c]at b;cases b;exact d a)];exact b
theorem BI {T:Nat} (h:ShI Gj T S) (a:S.all id=some x) (b:x.place=2):ShI (one id) T {S with cache:=S.cache.filter (λn=> !decide (n=id))}:=
  (h.offCache a b (List.filter_sublist) (λi=>by rw[List.mem_filter];simp)).congr λi _=>⟨λq=>q.resolve_left λq=>q,λq=> .inr q⟩
theorem IK {T:Nat} (h:ShI Gj T S) (c:S.all id=some x) (d:x.place=2):DelS T S {S with cache:=S.cache.filter (λn=> !decide (n=id)),all:=up S.all id none} id:=by
  have e:=((BI h c d).gone (j:=id) U).mono (Nat.le_add_right T 1);exact⟨e.congr λi _=>⟨λ⟨a,b⟩=>b a,False.elim⟩,ShF.del c (by omega) U U U U U,FW U⟩
theorem Kc {T:Nat} (h:ShI E T S) (f: ¬E id) (d:S.all id=some x) (g:x.place=3):BN S.sl x.at_=true/\M7 S.sl x.at_=x.pg/\RD S.sl x.at_=S.sl.set x.at_.toNat []:=by
  obtain⟨i,e⟩:=h.slt f d g;have a:=(h.ent d).2.2.2.2.1;have b:x.pg≠[]:= λq=>by rw[q]at a;simp at a
  have c:BN S.sl x.at_=true:=by unfold BN;rw[e];simp [i,b]
  exact⟨c,by unfold M7;rw[if_pos c,e];rfl,by unfold RD;rw[if_pos c]⟩
theorem MW {T:Nat} (h:ShI Gj T S) (a:S.all id=some x) (b:x.place=3):ShI (one id) T {S with sl:=S.sl.set x.at_.toNat []}:=
  (h.offSlot (λq=>q) a b).congr λi _=>⟨λq=>q.resolve_left λq=>q,λq=> .inr q⟩
theorem qeu {T:Nat} (h:ShI Gj T S) (c:S.all id=some x) (d:x.place=3):DelS T S {S with sl:=S.sl.set x.at_.toNat [],all:=up S.all id none} id:=by
  have e:=((MW h c d).gone (j:=id) U).mono (Nat.le_add_right T 1);exact⟨e.congr λi _=>⟨λ⟨a,b⟩=>b a,False.elim⟩,ShF.del c (by omega) U U U U U,FW U⟩
def Hn (S:SS) (id:Int):Bs:= match S.all id with | none=> if id=0 then zer else[] | some x=>x.pg
theorem eqU (c:Nat) (id:Int):EqF prog 205 c id:=⟨cal_205,λn w X a=>by
  refine Qn func205 U ntmps205 U ?_;refine Qe (Qa (Qd U U (Qf (Qc (Qe (Qa (Qb U U (Qo U QL (a.cell 0 U U) U (Xg U U U (Qd U U (Qf (Qc (Qu (QJ (.inr U) U U ?_))))))))))))));exact⟨_,U,U,a⟩⟩
theorem eqB (c:Nat) (id:Int):EqF prog 190 c id:=⟨cal_190,λn w X a=>by
  refine Qn func190 U ntmps190 U ?_;refine Qe (Qa (Qd U U (Qf (Qc (Qe (Qa (Qb U U (Qo U QL (a.cell 0 U U) U (Xg U U U (Qd U U (Qf (Qc (Qu (QJ (.inr U) U U ?_))))))))))))));exact⟨_,U,U,a⟩⟩
theorem Lk {F:Th} (R:Sat w [He p S,F]) (a:ShI Gj N S) (hN:N<=80000000000) (id:Int):
    Calls prog 152 #[ptrV p 0,intV id] w (Ret λv w'=>(match S.all id with | none=>v=(if id=0 then intV 0 else intV 4)/\Sat w' [He p S,F] | some x=>v=intV 0/\((1<x.refs/\Sat w' [He p {S with all:=up S.all id (some {x with refs:=x.refs -1})},F])\/(x.refs=1/\ ∃S',DelS N S S' id/\Sat w' [He p S',F])))):=by
 obtain⟨ba,bi,fp,sp,kp,ac,cc,at2,ct,R⟩:=Zn R;cases Zl:S.all id with
 | none=>
  dsimp only;refine Qn func152 U ntmps152 U ?_;refine Qe<|Qa<|XL R U U U ?_;intro b1 Y T;refine Qd U U<|Qf<|Qc<|Qe ?_;have d:=T.drew;refine Q7 [0,1,2,3,4,5,6,7,8,9,10,11] [9,10] Z9 (by kernel_rfl) ?_;refine Q3 U U U<|QP U U U<|QG U U U Zg<|Q0 U U U (Ql U ZZ (d.cell 1 U U))<|Q0 U U U (Ql U QL (d.cell 0 U U))<|Q0 U U U (Z3 (k:=id) 2 d keysInt underlying74 U U U Zt (u:=(.agg #[intV 0,intV 0,intV 0,strV []])) (g:=false) (HF Zl) (Hs Zl))<|Q3 U U U<|ZX U U U U<|ZX U U U U<|QO U U U U U U ?_;refine Xc d Zt U U ?_;intro b3 Z e;refine Xh (.cons (.inl ⟨U,(Z3 (k:=id) 3 e keysInt underlying74 U U U Zt (u:=(.agg #[intV 0,intV 0,intV 0,strV []])) (g:=false) (HF Zl) (Hs Zl))⟩) (.cons (.inl ⟨U,(Ql U QL (e.cell 1 U U))⟩) (.cons (.inl ⟨U,(Ql U ZZ (e.cell 2 U U))⟩) .nil)))<|QO U U U U U U ?_
  (refine QW e U U HV U (by rfl) (i:=0) U (by decide) ?_)
  intro w4 c;dsimp only[List.set]at c;refine Zc (Xd (by kernel_rfl)) ?_;refine Zd U U U (VC.nil (Qc (Qh [0,3,4,5,6] U (Qe (Qe (Qa (Qb U U (QX U U (Qf (Qc (QR U (λH=> ?_) (λH=> ?_))))))))))))
  ·refine Qe<|Qe<|Qa<|Qo U QL (by first | assumption | exact c.cell 0 U U | exact c.cell 1 U U | exact c.cell 2 U U) U ?_
   refine Xg U U U<|Qf<|Qc<|Qs U (λh7=> ?_) (λh7=> ?_)
   ·exact Qe (Qa (Qd U U (Qf (Qc (Qu (Qq (Qq (QJ (.inr U) U U (⟨_,rfl,by rw[if_pos (by omega)],Xe (c.pick [2,3,4,5,6,7,8,9,10] U)⟩)))))))))
   exact Qt (Qc (Qe (Qa (Qd U U (Qf (Qc (Qu (Qq (QJ (.inr U) U U (⟨_,rfl,by rw[if_neg (by omega)],Xe (c.pick [2,3,4,5,6,7,8,9,10] U)⟩))))))))))
  exact absurd H (by simp)
 | some x=>
  obtain⟨X,_,a0,a1,_,I⟩:=a.ent Zl;dsimp only;refine Qn func152 U ntmps152 U ?_;refine Qe<|Qa<|XL R U U U ?_;intro b1 Y T;refine Qd U U<|Qf<|Qc<|Qe ?_;have d:=T.drew;refine Q7 [0,1,2,3,4,5,6,7,8,9,10,11] [9,10] Z9 (by kernel_rfl) ?_;refine Q3 U U U<|QP U U U<|QG U U U Zg<|Q0 U U U (Ql U ZZ (d.cell 1 U U))<|Q0 U U U (Ql U QL (d.cell 0 U U))<|Q0 U U U (Z3 (k:=id) 2 d keysInt underlying74 U U U Zt (u:=(.agg #[intV x.refs,intV x.place,intV x.at_,strV (RY x)])) (g:=true) (JH Zl) (Hr Zl))<|Q3 U U U<|ZX U U U U<|ZX U U U U<|QO U U U U U U ?_;refine Xc d Zt U U ?_;intro b3 Z e;refine Xh (.cons (.inl ⟨U,(Z3 (k:=id) 3 e keysInt underlying74 U U U Zt (u:=(.agg #[intV x.refs,intV x.place,intV x.at_,strV (RY x)])) (g:=true) (JH Zl) (Hr Zl))⟩) (.cons (.inl ⟨U,(Ql U QL (e.cell 1 U U))⟩) (.cons (.inl ⟨U,(Ql U ZZ (e.cell 2 U U))⟩) .nil)))<|QO U U U U U U ?_
  (refine QW e U U HV U (by rfl) (i:=0) U (by decide) ?_)
  intro w4 c;dsimp only[List.set]at c;refine Zc (Xd (by kernel_rfl)) ?_;refine Zd U U U (VC.nil (Qc (Qh [0,3,4,5,6] U (Qe (Qe (Qa (Qb U U (QX U U (Qf (Qc (QR U (λH=> ?_) (λH=> ?_))))))))))))
  ·exact absurd H (by simp)
  refine Qt<|Qc<|Qe<|Qe<|Qa<|Qg U YP U<|Qo U QL (c.cell 0 U U) U<|H2 U U (by omega) (by omega) U ?_;refine Qg U YP U ?_
  (refine QK c U U YD (by rfl) (i:=0) U (Xk U) ?_)
  intro w7 h;dsimp only[List.set]at h;refine Qf<|Qc<|Qh [0,3,4,5] U<|Qe<|Qa<|Qg U YP U<|Qo U QL (h.cell 0 U U) U<|JJ U U U<|Qf<|Qc<|Qs U (λh9=> ?_) (λh9=> ?_)
  ·refine Qe ?_;have j:=h.drew;refine Q7 [0,1,2,3,4,5,6] [6] Z9 (by kernel_rfl) ?_;refine Q3 U U U<|QP U U U<|QG U U U Zg<|Q0 U U U (Ql U ZZ (j.cell 2 U U))<|Q0 U U U (Ql U QL (j.cell 1 U U))<|Q0 U U U (X5 U ag_76 HV (j.blk 0 U) (Xk U) U)<|QO U U U U U U ?_;refine QT (k:=id) (v:=E3 {x with refs:=x.refs -1}) 3 j keysInt underlying74 U U U U ?_
   intro a2 b;dsimp only[List.set]at b;have J:=b;rw[R4]at J;refine Zc (Xd (by kernel_rfl)) ?_;exact VC.nil (Qc (Qh [0,3,4,5] U (Qe (Qa (Qd U U (Qf (Qc (Qu (Qq (QJ (.inr U) U U (⟨_,rfl,rfl,.inl ⟨by omega,Xe (S:={S with all:=up S.all id (some {x with refs:=x.refs -1})}) (J.pick [2,3,4,5,6,7,8,9,10] U)⟩⟩)))))))))))
  refine Qt<|Qc<|Qe<|Qe<|Qa<|Qg U Uv U<|Qo U QL (h.cell 0 U U) U<|Qf<|Qc<|Qx<|Qe<|Qa<|Xg U U U<|Qd U U<|Qf<|Qc<|Qh [0,3,4,5,34,35] U<|Qs U (λK=> ?_) (λK=> ?_)
  ·have L:x.place=1:=K;refine Qa<|Qb U U<|Qg U H9 U<|Qo U QL (h.cell 0 U U) U ?_;have V:=Xe (h.pick [2,3,4,5,6,7,8,9,0,1,10] U);refine Qw PK U (B7 (V.sp [0] U) (f:=x.at_) (b0:=x.pg) (a.frc (λq=>q) Zl L) (by show S.ck.length=S.fr.length;rw[a.ck,List.length_map]) (by have :=a.tln;omega)) U ?_;rintro _ a3 ⟨rfl,s⟩;replace s:=s.jn U U;obtain⟨ba,bi,fp,sp,kp,ac,cc,at2,ct,t⟩:=Zn (s.pick [0,1,2,3] rfl);refine Qf<|Qm<|Qc<|Qe ?_;have y:=t.drew;refine Q7 [0,1,2,3,4,5] [5] Z9 (by kernel_rfl) ?_;refine Q3 U U U<|QP U U U<|QG U U U Zg<|Q0 U U U (Ql U ZZ (y.cell 0 U U))<|Q0 U U U (Ql U QL (y.cell 9 U U))<|QO U U U U U U ?_;refine Wf (k:=id) 1 y keysInt underlying74 U U U U ?_;intro a4 z;dsimp only[List.set]at z;rw[Ed]at z;refine Zc (Xd (by kernel_rfl)) ?_;exact VC.nil (Qc (Qh [4] U (Qe (Qa (Qd U U (Qf (Qc (Qu (QJ (.inr U) U U (⟨_,rfl,rfl,.inr ⟨by omega,_,IJ a Zl L,Xe (S:={offFrame S x.at_ with all:=up S.all id none}) (z.pick [0,1,2,3,4,5,6,7,10] U)⟩⟩))))))))))
  refine Qe<|Qa<|Xg U U U<|Qd U U<|Qf<|Qc<|Qs U (λM=> ?_) (λM=> ?_)
  ·have W:x.place=2:=M;refine Qa<|Qb U U<|Qb U U<|Qj U U<|Qg U JD U<|Qo U J0 (h.cell 2 U U) U ?_;refine Qw Mi U (Rd (h.sp [] U) (Ent.starL (Ja (C:=inC) (l:=S.cache) (by have :=a.cln;omega)) 5 U) (by have :=a.cln;omega)) U ?_;rintro _ a5 m;replace m:=m.jn U U;have a6:=m.own_one 0 U;refine ZB U U ?_;refine Qw Mj U (Md (eqU _ id) (m.sp [0,2] U) (by have :=a.cln;omega)) U ?_;rintro _ a7 o;replace o:=o.jn U U;have a8:=o.own_one 0 U;refine Qj U U<|Qg U JD U ?_
   (refine QK o U U Gw (by assumption) (i:=3) U (Xk U) ?_)
   intro a9 O;dsimp only[List.set]at O;refine Qf<|Qm<|Qc<|Qh [0,3,4] U<|Qe ?_;have A:=O.drew;refine Q7 [0,1,2,3,4,5] [5] Z9 (by kernel_rfl) ?_;refine Q3 U U U<|QP U U U<|QG U U U Zg<|Q0 U U U (Ql U ZZ (A.cell 3 U U))<|Q0 U U U (Ql U QL (A.cell 1 U U))<|QO U U U U U U ?_;refine Wf (k:=id) 4 A keysInt underlying74 U U U U ?_;intro aa B;dsimp only[List.set]at B;rw[Ed]at B;refine Zc (Xd (by kernel_rfl)) ?_;exact VC.nil (Qc (Qe (Qa (Qd U U (Qf (Qc (Qu (QJ (.inr U) U U (⟨_,rfl,rfl,.inr ⟨by omega,_,IK a Zl W,Xe (S:={S with cache:=S.cache.filter (λn=> !decide (n=id)),all:=up S.all id none}) (B.pick [3,4,5,0,7,8,9,10,11] U)⟩⟩)))))))))
  refine Qe<|Qa<|Xg U U U<|Qd U U<|Qf<|Qc<|Qs U (λP=> ?_) (λP=> ?_)
  ·have Q:x.place=3:=P;have D:=h.drew;refine Q7 [0,1,2,3,4,5,6] [6] Z9 (by kernel_rfl) ?_;refine Q3 U U U<|QP U U U<|QG U U U Uu<|Q0 U U U (Ql U Dz (D.cell 2 U U))<|QG U U U H9<|Q0 U U U (Ql U QL (D.cell 0 U U))<|QO U U U U U U ?_;refine Qw PL U (B5 (D.sp [7] U) x.at_) U ?_;rintro _ ab ⟨rfl,r⟩;replace r:=r.jn U U;rw[(Kc a (λq=>q) Zl Q).2.2]at r;refine Xh (Xd (by kernel_rfl)) ?_;refine VC.nil (Qm (Qc (Qh [0,3,4] U (Qe ?_))));have E:=r.drew;refine Q7 [0,1,2,3,4,5] [5] Z9 (by kernel_rfl) ?_;refine Q3 U U U<|QP U U U<|QG U U U Zg<|Q0 U U U (Ql U ZZ (E.cell 3 U U))<|Q0 U U U (Ql U QL (E.cell 2 U U))<|QO U U U U U U ?_;refine Wf (k:=id) 4 E keysInt underlying74 U U U U ?_;intro ad G;dsimp only[List.set]at G;rw[Ed]at G;refine Zc (Xd (by kernel_rfl)) ?_;exact VC.nil (Qc (Qe (Qa (Qd U U (Qf (Qc (Qu (QJ (.inr U) U U (⟨_,rfl,rfl,.inr ⟨by omega,_,qeu a Zl Q,Xe (S:={S with sl:=S.sl.set x.at_.toNat [],all:=up S.all id none}) (G.pick [3,4,5,6,7,0,8,9,10] U)⟩⟩)))))))))
  exact absurd I (by omega)
theorem CP {F:Th} (b:Sat w [He p S,F]) (f:ShI E N S) (id:Int) (o: ¬E id):
    Calls prog 134 #[ptrV p 0,intV id] w (Ret λv w'=>v=strV (Hn S id)/\Sat w' [He p S,F]):=by
 obtain⟨ba,bi,fp,sp,kp,ac,cc,at2,ct,b⟩:=Zn b;cases Zl:S.all id with
 | none=>
  refine Qn func134 U ntmps134 U ?_;refine Qe<|Qa<|Qd U U<|Qf<|Qc<|Qe<|Qa<|Qb U U<|Qj U U<|Qg U Zg U<|Qo U ZZ (b.cell 0 U U) U<|Qb U U<|Xn (k:=id) 1 b keysInt underlying74 U U U Zt (u:=(.agg #[intV 0,intV 0,intV 0,strV []])) (g:=false) (HF Zl) (Hs Zl) U<|Qb U U<|Qr U U U<|Qr U U U<|Xc b Zt U U ?_;intro b1 G q
  (refine QW q U U HV U (by rfl) (i:=0) U (by decide) ?_)
  intro w2 a;dsimp only[List.set]at a;refine Qd U U<|Qf<|Qc<|Qh [1,0,4,5,6] U<|Qe<|Qx<|Qe<|Qa<|Qb U U<|Xg U U U<|Qd U U<|Qf<|Qc<|Qs U (λn=> ?_) (λn=> ?_)
  ·refine Qe<|Qa<|Qw Gf U (Uj (a.sp [] U) zer (by decide)) U ?_;rintro _ L ⟨rfl,r⟩;replace r:=r.jn U U;refine Qd U U<|Qf<|Qc<|Qu<|Q1<|Qq<|QJ (.inr U) U U ?_;exact⟨_,rfl,by unfold Hn;rw[Zl];dsimp only;rw[if_pos (by omega)],Xe (r.pick [1,2,3,4,5,6,7,8,9] U)⟩
  refine Qe<|Qa<|Qb U U<|QX U U<|Qd U U<|Qf<|Qc<|Qh [0,4,5,24] U<|QR U (λh=> ?_) (λh=> ?_)
  ·refine Qe<|Qa<|Qd U U<|Qf<|Qc<|Qu<|Q1<|Qq<|QJ (.inr U) U U ?_;exact⟨_,rfl,by unfold Hn;rw[Zl];dsimp only;rw[if_neg (by omega)],Xe (a.pick [1,2,3,4,5,6,7,8,9] U)⟩
  exact absurd h (by simp)
 | some x=>
  obtain⟨A,_,H,I,_,B⟩:=f.ent Zl;refine Qn func134 U ntmps134 U ?_;refine Qe<|Qa<|Qd U U<|Qf<|Qc<|Qe<|Qa<|Qb U U<|Qj U U<|Qg U Zg U<|Qo U ZZ (b.cell 0 U U) U<|Qb U U<|Xn (k:=id) 1 b keysInt underlying74 U U U Zt (u:=(.agg #[intV x.refs,intV x.place,intV x.at_,strV (RY x)])) (g:=true) (JH Zl) (Hr Zl) U<|Qb U U<|Qr U U U<|Qr U U U<|Xc b Zt U U ?_;intro b1 G q
  (refine QW q U U HV U (by rfl) (i:=0) U (by decide) ?_)
  intro w2 a;dsimp only[List.set]at a;refine Qd U U<|Qf<|Qc<|Qh [1,0,4,5,6] U<|Qe<|Qx<|Qe<|Qa<|Qb U U<|Xg U U U<|Qd U U<|Qf<|Qc<|Qs U (λn=> ?_) (λn=> ?_)
  ·exact absurd n (by omega)
  refine Qe<|Qa<|Qb U U<|QX U U<|Qd U U<|Qf<|Qc<|Qh [0,4,5,24] U<|QR U (λC=> ?_) (λC=> ?_)
  ·exact absurd C (by simp)
  refine Qe<|Qa<|Qg U Uv U<|Qo U QL (a.cell 0 U U) U<|Xg U U U<|Qd U U<|Qf<|Qc<|Qs U (λh=> ?_) (λh=> ?_)
  ·have s:x.place=1:=h;refine Qe ?_;have t:=a.drew;refine Q7 [0,1,2,3,4,5,6,7] [6] Z9 (by kernel_rfl) ?_;refine Q3 U U U<|QP U U U<|QG U U U Yg<|Q0 U U U (Ql U Va (t.cell 1 U U))<|QG U U U H9<|Q0 U U U (Ql U QL (t.cell 0 U U))<|QO U U U U U U ?_;refine Qw PN U (BO (t.sp [5] U) x.at_) U ?_;rintro _ M ⟨rfl,y⟩;replace y:=y.jn U U;rw[f.frc o Zl s];dsimp only[Option.getD_some];refine Xh (Xd (by kernel_rfl)) ?_;refine Zd U U U (VC.nil (Qc (Qh [0,5,4] U (Qu (Q1 (Qq (QJ (.inr U) U U ?_)))))));exact⟨_,rfl,by unfold Hn;rw[Zl],Xe (y.pick [2,3,4,5,0,6,7,8,9] U)⟩
  refine Qe<|Qa<|Qg U Uv U<|Qo U QL (a.cell 0 U U) U<|Xg U U U<|Qd U U<|Qf<|Qc<|Qh [0,4,5,38] U<|Qs U (λD=> ?_) (λD=> ?_)
  ·have j:x.place=2:=D;refine Qe<|Qa<|Qg U Pq U<|Qo U XT (a.cell 0 U U) U ?_;obtain⟨fy,l⟩:=Option.ne_none_iff_exists'.1 (f.pck o Zl j).2;have m:RY x=fy:=by unfold RY fm;rw[if_pos j,l];rfl
   refine Qw PM U (B3 (a.sp [] U) (f.ent Zl).2.2.2.2.1 (by rw[m];exact l)) U ?_;rintro _ J ⟨rfl,c⟩;replace c:=c.jn U U;refine Qb U U<|Qr U U U<|Qr U U U<|Qd U U<|Qd U U<|Qf<|Qc<|Qh [0,4,5,7] U<|Qe<|Qa<|Qb U U<|Qd U U<|Qf<|Qc<|Qu<|Q1<|Qq<|QJ (.inr U) U U ?_;exact⟨_,rfl,by unfold Hn;rw[Zl],Xe (c.pick [1,2,3,4,5,6,7,8,9] U)⟩
  refine Qt<|Qm<|Qc<|Qe ?_;have z:x.place=3:=by omega
  have d:=a.drew;refine Q7 [0,1,2,3,4,5,6,7,8,9,10,11] [6] Z9 (by kernel_rfl) ?_;refine Q3 U U U<|QP U U U<|QG U U U Uu<|Q0 U U U (Ql U Dz (d.cell 1 U U))<|QG U U U H9<|Q0 U U U (Ql U QL (d.cell 0 U U))<|QO U U U U U U ?_;refine Qw AD U (Sn (d.sp [6] U) x.at_) U ?_;rintro _ K ⟨eg,rfl,e⟩;replace e:=e.jn U U;rw[(Kc f o Zl z).2.1];refine Xh (Xd (by kernel_rfl)) ?_;refine Q3 U U U<|ZX U U U U<|ZX U U U U<|Zd U U U<|Zd U U U (VC.nil (Qc (Qh [4,9] U (Qe (Qa (Qb U U (Qd U U (Qf (Qc (Qu (QJ (.inr U) U U ?_)))))))))));exact⟨_,rfl,by unfold Hn;rw[Zl],Xe (e.pick [2,3,4,5,6,0,7,8,9] U)⟩
def OJ (S:SS) (id at_:Int):UInt8:= if 0<=at_/\at_<64 then(Hn S id).getD at_.toNat 0 else 0
theorem qcn (a:ShI E N S) (id:Int):(Hn S id).length=64\/Hn S id=[]:=by
  unfold Hn;cases Zl:S.all id with
  | none=> dsimp only;split;(left;decide);right;rfl
  | some x=> exact .inl (a.ent Zl).2.2.2.2.1
theorem OI {F:Th} (f:Sat w [He p S,F]) (h:ShI Gj N S) (j:N<=80000000000) (id at_:Int):
    Calls prog 102 #[ptrV p 0,intV id,intV at_] w (Ret λv w'=>v=XV (OJ S id at_)/\Sat w' [He p S,F]):=by
 refine Qn func102 U ntmps102 U ?_;refine Qe<|Qa<|Qd U U<|Qf<|Qc<|Qe<|Qe<|Qa<|Qb U U<|Xa U U U<|Qb U U<|QZ 10 U (λa=> ?_) (λa=> ?_)
 ·refine Qi U U (det a) U<|Qi U U (det a) U<|QF U (det a) U U<|Qf<|Qc<|Xm U<|Qe<|Qa<|Qd U U<|Qf<|Qc<|Qu<|Qq<|QJ (.inr U) U U ?_;exact⟨_,rfl,by unfold OJ;rw[if_neg (by omega)];rfl,f.pick [0,1] U⟩
 refine Qk U U (QH a)<|Qb U U<|Qk U U (QH a)<|WU U U U<|Q9 U (QH a) U U<|Qf<|Qc<|Qs U (λi=> ?_) (λi=> ?_)
 ·refine Qe<|Qa<|Qd U U<|Qf<|Qc<|Qu<|Qq<|QJ (.inr U) U U ?_;exact⟨_,rfl,by unfold OJ;rw[if_neg (by omega)];rfl,f.pick [0,1] U⟩
 refine Qt<|Qc<|Qe<|Qe<|Qa<|Qb U U<|Qb U U<|Qw Yh U (CP (f.sp [0] U) h id (λq=>q)) U ?_;rintro _ k ⟨rfl,e⟩;replace e:=e.jn U U;refine Qd U U<|Qf<|Qc<|Qh [2,6,7] U<|Qe<|Qa<|Qb U U<|KE U U U<|Qf<|Qc<|Qs U (λg=> ?_) (λg=> ?_)
 ·have b:Hn S id≠[]:=g;obtain⟨cb,d⟩: ∃c,(Hn S id)[at_.toNat]? =some c:=⟨_,XQ (by have :=(qcn h id).resolve_right b;omega)⟩;refine Qe<|Qa<|Qb U U<|Qb U U<|HH at_.toNat underlying9 U U (by omega) d U ?_;refine Qd U U<|Qf<|Qc<|Qu<|Qq<|QJ (.inr U) U U ?_;exact⟨_,rfl,by unfold OJ;rw[if_pos (by omega),List.getD_eq_getElem?_getD,d];rfl,e.pick [0,1] U⟩
 have b: ¬Hn S id≠[]:=g;refine Qt<|Qc<|Qe<|Qa<|Qd U U<|Qf<|Qc<|Qu<|QJ (.inr U) U U ?_;exact⟨_,rfl,by unfold OJ;rw[if_pos (by omega),show Hn S id=[] from Decidable.not_not.1 b];rfl,e.pick [0,1] U⟩
def Ro (count slots budget:Int):SS:=⟨λ_=>none,λ_=>none,[],List.replicate (min (max count 1) 256).toNat none,List.replicate (min (max slots 0) 4096).toNat [],List.replicate (min (max count 1) 256).toNat false,min (max slots 0) 4096,max budget 0,1,[]⟩
theorem qcw (count slots budget:Int):ShI Gj 0 (Ro count slots budget) where
  ck:=by simp [Ro]
  fr1:=by simp [Ro];omega
  fr2:=by simp [Ro];omega
  slo:=by simp [Ro];omega
  sl2:=by simp [Ro];omega
  bud:=by simp [Ro];omega
  nx1:=by simp [Ro]
  nx2:=by simp [Ro]
  ent:= λh=>by cases h
  frm:= λf j=>⟨λh=>(by cases h),λ⟨_,x,h,_⟩=>(by cases h)⟩
  frc:= λ_ h=>by cases h
  fru:= λ{f b} h=>by
    obtain⟨_,h⟩:=Hg h;have :(Ro count slots budget).fr=List.replicate (min (max count 1) 256).toNat none:=rfl;rw[this,List.getElem?_replicate]at h;split at h
    · cases h
    · cases h
  pck:= λ_ h=>by cases h
  cch:= λh=>by cases h
  nod:=List.nodup_nil
  sum:=by show((0:Nat):Int)<=max budget 0;omega
  slt:= λ_ h=>by cases h
  slu:= λ{k p} h a=>by
    have :(Ro count slots budget).sl=List.replicate (min (max slots 0) 4096).toNat []:=rfl;rw[this,List.getElem?_replicate]at h;split at h
    · cases h;exact absurd U a
    · cases h
  sli:= λ_ _ h=>by cases h
  cln:=Nat.le_refl _
  tln:=Nat.le_refl _
theorem aG_nil:(λ_=>none:Int->Option Value)=aG (λ_=>none):=rfl
theorem qbu {F:Th} (h:Sat w [F]) (count slots budget:Int):
    Calls prog 25 #[intV count,intV slots,intV budget] w (Ret λv w'=> ∃p,v=ptrV p 0/\Sat w' [He p (Ro count slots budget),F]):=by
 refine Qn func25 U ntmps25 U ?_;refine Qe<|Qa<|Qd U U<|Qf<|Qc<|Qe<|Qa<|Qb U U<|Jn U U U<|H3 U U U<|Qb U U<|Jn U U U<|H3 U U U<|Qd U U<|Qd U U<|Qf<|Qc<|Qe<|Qa<|XS QY h U ?_;intro mb1 j f;rw[aG_nil]at f;refine XS QY f U ?_;intro mb2 w2 g;rw[GD]at g;refine Qb U U<|Qw cal_55 U (qd6 (g.sp [] U) (min (max count 1) 256)) U ?_;rintro _ k ⟨fpn,rfl,c⟩;replace c:=c.jn U U;refine Qb U U<|Qw cal_56 U (qbk (c.sp [] U) (min (max slots 0) 4096)) U ?_;rintro _ l ⟨spn,rfl,d⟩;replace d:=d.jn U U;refine Qb U U<|Qw cal_57 U (qe8 (d.sp [] U) (min (max count 1) 256) (by omega)) U ?_;rintro _ m ⟨kpn,rfl,e⟩;replace e:=e.jn U U;refine Qb U U<|Qb U U<|Jn U U U<|Zj U VJ asz_82 zr_82 U U<|XL e U U U ?_;intro bp wbp b;refine Qd U U<|Qf<|Qc<|Qh [6] U<|Qu<|QJ (.inr U) U U ?_;have i:=(b.pick [0,5,4,3,2,1,6] U).row_nil inC;have a:=(i.reorder [1,2,3,0,4,5,6,7] U).row_nil inC;rw[show(min (max (min (max count 1) 256) 0) 4096).toNat=(min (max count 1) 256).toNat by omega]at a;rw[show(max 0 (min (min (max slots 0) 4096) 4096)).toNat=(min (max slots 0) 4096).toNat by omega]at a;exact⟨_,U,_,U,Xe (S:=Ro count slots budget) (a.reorder [1,2,3,4,5,6,7,0,8] U)⟩
