/- compress: equal, pieces -/
import Derived.Test.YtifaibmhinlcfaaGreatDoorWa
import Derived.Test.YtifaibmhinlcfaaGreatDoorDrs
import Derived.Test.YtifaibmhinlcfaaGreatDoorBit
set_option linter.unusedVariables false
set_option maxRecDepth 100000
set_option maxHeartbeats 80000000000
namespace Go.Proofs.YtifaibmhinlcfaaGreatDoor
open Go.RowKit M Proofs.Tryz
variable {b k:Nat} {bs l p s:Bs} {dn rest:List (Bs×Bool)} {w:World} {x:Bs×Bool}
def Ga:Bs->Nat
  | []=>0
  | x::l=>1+(l.takeWhile (λy=>decide (y=x))).length
def lit:Bs->Nat
  | []=>0
  | x::l=> if Ga (x::l)<3 then 1+lit l else 0
def J6 (l:Bs):Nat:= if 3<=Ga l then Ga l else Ga l+lit (l.drop (Ga l))
theorem qem (l:Bs):Ga l<=l.length:=by
  cases l with
  | nil=> simp [Ga]
  | cons x l=> have :=(List.takeWhile_sublist (l:=l) (λy=>decide (y=x))).length_le;simp [Ga];omega
theorem Al (h:l≠[]):1<=Ga l:=by
  cases l with
  | nil=> exact absurd rfl h
  | cons x l=> simp [Ga]
theorem qdd: ∀l:Bs,lit l<=l.length
  | []=>by simp [lit]
  | x::l=>by
    have :=qdd l;unfold lit;split
    · simp;omega
    · simp
theorem Ic (l:Bs):J6 l<=l.length:=by
  unfold J6;have :=qem l;have :=qdd (l.drop (Ga l));rw[List.length_drop]at this;split<;>omega
theorem RN (h:l≠[]):1<=J6 l:=by
  unfold J6;have :=Al h;split<;>omega
theorem Ru {x:UInt8}: ∀{l:Bs} {n:Nat},n<=l.length->(∀j,j<n->l[j]? =some x)->(n=l.length\/ ∃y,l[n]? =some y/\y≠x)->(l.takeWhile (λy=>decide (y=x))).length=n
  | [],n,h,_,_=>by simp at h;subst h;rfl
  | y::l,0,_,_,h=>by
    rcases h with h | ⟨z,a,b⟩
    · simp at h
    · simp at a;subst a;simp [b]
  | y::l,n+1,h,a,b=>by
    have :=a 0 (by omega);simp at this;subst this;have :=Ru (x:=y) (l:=l) (n:=n) (by simpa using h) (λj c=>by simpa using a (j+1) (by omega)) (by simpa using b);simp [this]
theorem qen {n:Nat} {x:UInt8} (b:s[k]? =some x) (l:1<=n) (c:k+n<=s.length) (d: ∀j,j<n->s[k+j]? =some x) (a:k+n=s.length\/ ∃y,s[k+n]? =some y/\y≠x):Ga (s.drop k)=n:=by
  have e:k<s.length:=(Za b).1;have f:s[k]=x:=(Za b).2;rw[List.drop_eq_getElem_cons e,f];rw[Ga,Ru (n:=n -1)]
  · omega
  · rw[List.length_drop];omega
  · intro j m;rw[List.getElem?_drop];have :=d (j+1) (by omega);rw[show k+1+j=k+(j+1)by omega];exact this
  · rcases a with h | ⟨y,g,i⟩
    · left;rw[List.length_drop];omega
    · right;refine⟨y, ?_,i⟩;rw[List.getElem?_drop,show k+1+(n -1)=k+n by omega];exact g
theorem qa7 {x:UInt8}: ∀(l:Bs) (j:Nat),j<(l.takeWhile (λy=>decide (y=x))).length->l[j]? =some x
  | [],j,h=>by simp at h
  | y::l,j,h=>by
    by_cases a:y=x
    · subst a;cases j with
      | zero=>rfl
      | succ j=> rw[List.getElem?_cons_succ];refine qa7 l j ?_;simp at h;simpa using h
    · simp [a]at h
theorem eqN_all {j:Nat} (h:j<Ga l):l[j]? =l[0]? :=by
  cases l with
  | nil=> simp
  | cons x l=>
    cases j with
    | zero=>rfl
    | succ j=>
      simp [Ga]at h;have a:j<(l.takeWhile (λy=>decide (y=x))).length:=by omega
      rw[List.getElem?_cons_succ,List.getElem?_cons_zero];exact qa7 l j a
theorem qdc {x:UInt8} (a:s[k]? =some x) (h:Ga (s.drop k)<3):lit (s.drop k)=1+lit (s.drop (k+1)):=by
  obtain⟨b,c⟩:=Za a;rw[List.drop_eq_getElem_cons b]at h⊢;rw[lit,if_pos h]
theorem qdb (h:l=[]\/3<=Ga l):lit l=0:=by
  cases l with
  | nil=>rfl
  | cons x l=>
    rcases h with h | h
    · cases h
    · rw[lit,if_neg (by omega)]
def SD:Nat->Bs->List (Bs×Bool)
  | 0,_=>[]
  | f+1,l=> if l=[]then[]else(l.take (J6 l),decide (3<=Ga l))::SD f (l.drop (J6 l))
theorem Nh: ∀(f g:Nat) (l:Bs),l.length<=f->l.length<=g->SD f l=SD g l
  | 0,g,l,h,_=>by
    have a:l=[]:=List.length_eq_zero_iff.1 (by omega);subst a;cases g with
    | zero=>rfl
    | succ g=> simp [SD]
  | f+1,0,l,_,h=>by
    have a:l=[]:=List.length_eq_zero_iff.1 (by omega);subst a;simp [SD]
  | f+1,g+1,l,b,c=>by
    unfold SD;split
    · rfl
    · rename_i a;have :=RN a;rw[Nh f g _ (by rw[List.length_drop];omega) (by rw[List.length_drop];omega)]
def D5 (l:Bs):List (Bs×Bool):=SD l.length l
theorem Pa:D5 []=[]:=rfl
theorem G8 (h:l≠[]):D5 l=(l.take (J6 l),decide (3<=Ga l))::D5 (l.drop (J6 l)):=by
  unfold D5;have b:=RN h;have c:1<=l.length:=by cases l with | nil=> exact absurd U h | cons=> simp
  obtain⟨m,a⟩: ∃m,l.length=m+1:=⟨l.length -1,by omega⟩;rw[a,SD,if_neg h,Nh m (l.drop (J6 l)).length _ (by rw[List.length_drop];omega) (Nat.le_refl _)]
def Ty (x:Bs×Bool):Bs:= if x.2=true then[UInt8.ofNat (128+x.1.length),x.1.headD 0]else UInt8.ofNat x.1.length::x.1
def ZI (l:List (Bs×Bool)):Bs:=l.flatMap Ty
def UG (p:Bs):Option Bs:= if(ZI (D5 p)).length<=47 then some (ZI (D5 p))else none
def okP (x:Bs×Bool):Prop:=1<=x.1.length/\x.1.length<=64/\(x.2=true-> ∀j,j<x.1.length->x.1[j]? =x.1[0]?)
theorem qcl: ∀(n:Nat) (l:Bs),l.length<=n->n<=64->(∀x∈D5 l,okP x)/\(D5 l).flatMap (·.1)=l
  | 0,l,h,_=>by
    have a:l=[]:=List.length_eq_zero_iff.1 (by omega);subst a;simp [Pa]
  | n+1,l,h,c=>by
    by_cases a:l=[]
    · subst a;simp [Pa]
    · have k:=RN a;have d:=Ic l;obtain⟨e,f⟩:=qcl n (l.drop (J6 l)) (by rw[List.length_drop];omega) (by omega);rw[G8 a];refine⟨?_, ?_⟩
      · intro x b;rcases List.mem_cons.1 b with rfl | b
        · refine⟨by simp;omega,by simp;omega, ?_⟩;intro hd j g;simp only[decide_eq_true_eq]at hd;have i:J6 l=Ga l:=by unfold J6;rw[if_pos hd]
          simp only[List.length_take]at g;simp only[List.getElem?_take];rw[if_pos (by omega),if_pos (by omega)];exact eqN_all (by omega)
        · exact e x b
      · rw[List.flatMap_cons,f];exact List.take_append_drop _ _
theorem qep (x:Bs×Bool):1<=(Ty x).length:=by unfold Ty;split<;> simp
theorem qeq (h:okP x):(Ty x).length<=65:=by
  obtain⟨_,a,_⟩:=h;unfold Ty;split<;> simp;omega
theorem Ui (a b:List (Bs×Bool)):ZI (a++b)=ZI a++ZI b:=List.flatMap_append
theorem Tx: ∀{l:List (Bs×Bool)},(∀x∈l,okP x)->(ZI l).length<=65*l.length
  | [],_=>by simp [ZI]
  | x::l,h=>by
    have c:=qeq (h x (by simp));have a:=Tx (l:=l) (λy b=>h y (by simp [b]));unfold ZI at a⊢;rw[List.flatMap_cons,List.length_append,List.length_cons];omega
theorem MT {f:Bs} (h:UG p=some f):f.length<=47/\f=ZI (D5 p):=by
  unfold UG at h;split at h
  · rename_i a;cases h;exact⟨a,rfl⟩
  · cases h
theorem run_eq (h: ∀j,j<s.length->s[j]? =s[0]?) (b:1<=s.length):s=List.replicate s.length (s.headD 0):=by
  apply List.ext_getElem?;intro j;by_cases a:j<s.length
  · rw[h j a,List.getElem?_replicate,if_pos a];cases s with
    | nil=> simp at b
    | cons x s=>rfl
  · rw[List.getElem?_eq_none (by omega),List.getElem?_eq_none (by simp;omega)]
theorem EA: ∀(l:List (Bs×Bool)),(∀x∈l,okP x)->l.length<=(l.flatMap (·.1)).length
  | [],_=>by simp
  | x::l,h=>by
    have b:=EA l (λy a=>h y (List.mem_cons_of_mem _ a));have c:=(h x (by simp)).1;rw[List.flatMap_cons,List.length_append,List.length_cons];omega
theorem Ng (c:p.length<=64):(∀x∈D5 p,okP x)/\(D5 p).flatMap (·.1)=p/\(D5 p).length<=64:=by
  obtain⟨a,b⟩:=qcl p.length p (Nat.le_refl _) c;have :=EA _ a;rw[b]at this;exact⟨a,b,by omega⟩
def bldZ (b:Nat) (bs:Bs):Th:=Cp λq:Value×Value=>starL [Yi 125 b [q.1,q.2],Be 5 q.2 bs]
theorem bldZ_of {As:List Th} (h:Sat w (K2 b bs::As)):Sat w (bldZ b bs::As):=by
  obtain⟨p,v,_,c⟩:=UW h;have a:=(c.pull 1 U).bufZ_of;dsimp only[List.eraseIdx]at a;exact Sat.ex_intro (f:= λq:Value×Value=>starL [Yi 125 b [q.1,q.2],Be 5 q.2 bs]) (p,v) (Sat.fold (As:=[Yi 125 b [p,v],Be 5 v bs]) (a.perm (List.Perm.swap _ _ _)))
theorem bl_len {F:Th} (a:Sat w [K2 b bs,F]):
    Calls prog 233 #[ptrV b 0] w (Ret λv w'=>v=intV (bs.length:Int)/\Sat w' [K2 b bs,F]):=by
 obtain⟨p,v,c,a⟩:=UW a;obtain⟨ao,cap,rfl,d,e⟩:=a.bufv 1 rfl;refine Qn func233 U ntmps233 U ?_;exact Qe (Qa (Qd U U (Qf (Qc (Qe (Qa (Qb U U (Qj U U (Qg U YS U (Qo U V8 (a.tcell 0 U (o:=1) U) U (Xl underlying123 U U (Qd U U (Qf (Qc (Qu (QJ (.inr U) U U (⟨_,U,U,HP c a⟩)))))))))))))))))
theorem TT {F:Th} (a:Sat w [bldZ b bs,F]) (h:bs.length<=70368744177663):
    Calls prog 86 #[ptrV b 0] w (Ret λv w'=>v=strV bs/\Sat w' [bldZ b bs,F]):=by
 obtain⟨⟨p,v⟩,a⟩:=a.ex;replace a:=a.flat;dsimp only[Dg,Df]at a;obtain⟨ao,cap,rfl,e,d⟩:=a.bufZv 1 rfl;refine Qn func86 U ntmps86 U ?_;refine Qe<|Qa<|Qd U U<|Qf<|Qc<|Qe ?_;have c:=a.drew;refine Q7 [0,1,2,3,5,6,7,8,9,4,10,11] [4,10] Z9 (by kernel_rfl) ?_;refine Q3 U U U<|QP U U U<|QG U U U YS<|Q0 U U U (Ql U V8 (c.tcell 0 U (o:=1) U))<|Q3 U U U<|QP U U U<|QG U U U YS<|Q0 U U U (Ql U V8 (c.tcell 0 U (o:=1) U))<|Xi U U U (λ_=>(YT underlying123 U)) ?_;refine QO U U U U U U ?_;refine Gl U d U<|Xh (.cons (.inl ⟨rfl,(Ql U V8 (c.tcell 0 U (o:=1) U))⟩) (Xd (by kernel_rfl))) ?_;refine QO U U U U U U ?_;refine Bv 1 c U U U underlying196 Oc (by omega) U ?_;intro w2 g;refine Xh (Xd (by kernel_rfl)) ?_;exact Zd U U U (VC.nil (Qc (Qh [2] U (Qu (QJ (.inr U) U U (⟨_,rfl,rfl,Sat.ex_intro (f:= λq:Value×Value=>starL [Yi 125 b [q.1,q.2],Be 5 q.2 bs]) (p,.slice ao bs.length cap) (Sat.fold (As:=[Yi 125 b [p,_],Be 5 _ bs]) g)⟩))))))
theorem N5 {F:Th} (m:Sat w [F]) (s:Bs) (k:Nat) (o:k<s.length) (t:s.length<=1000):
    Calls prog 251 #[strV s,intV (k:Int)] w (Ret λv w'=>v=intV (Ga (s.drop k):Nat)/\Sat w' [F]):=by
 obtain⟨x,d⟩: ∃x,s[k]? =some x:=⟨_,XQ o⟩;refine Qn func251 U ntmps251 U ?_;refine Qe<|Qa<|Qd U U<|Qf<|Qc<|Qe<|Qa<|Qd U U<|Qf<|Qc<|Qe<|Qx ?_;refine QU (λK0 E0 W0=> ∃(n:Nat),K0=s.length -k -n/\E0=[(0,strV s),(1,intV (k:Int)),(5,intV (n:Int))]/\Sat W0 [F]/\(1<=n)/\(k+n<=s.length)/\(∀j,j<n->s[k+j]? =some x)) (L0:=[(0,_),(1,_),(5,_)]) (s.length -k -1) (VG U U U) ⟨1,rfl,rfl,m,Nat.le_refl _,by omega,λj p=>by rw[show k+j=k by omega];exact d⟩ ?_;rintro _ _ u ⟨n,rfl,rfl,r,l,c,f⟩;refine Qe<|Qe ?_;have g:=r.drew;refine Q7 [0,1,2,3,4,5,6,7,8,9,10,11,12,13,14,15,16] [] Z9 (by kernel_rfl) ?_;refine Q3 U U U<|Q3 U U U<|Xi U U U (λ_=>(RZ U U (by omega) (by omega))) ?_;refine Q3 U U U<|Xi U U U (λ_=>(Mc underlying9 U)) ?_;refine Xi U U U (λ_=>(Tu U U)) ?_;refine Q3 U U U<|HI 12 U (λa=> ?_) (λa=> ?_)
 ·obtain⟨y,h⟩: ∃y,s[k+n]? =some y:=⟨_,XQ (by omega)⟩;refine Xi U U (QI U U (det a)) (λ_=>(Ev.gd (X2 U))) ?_;refine Xi U U (QI U U (det a)) (λ_=>(Ev.gd (X2 U))) ?_;refine Xi U U (QI U U (det a)) (λ_=>(Ev.gd (X2 U))) ?_;refine Xi U U (QI U U (det a)) (λ_=>(Ev.gd (RZ U U (by omega) (by omega)))) ?_;refine Q0 U U (QI U U (det a)) (Ev.gd (UP (k+n) underlying9 U U (by omega) h)) ?_;refine Xi U U (QI U U (det a)) (λ_=>(Ev.gd (X2 U))) ?_;refine Xi U U (QI U U (det a)) (λ_=>(Ev.gd (X2 U))) ?_;refine Q0 U U (QI U U (det a)) (Ev.gd (UP k underlying9 U U U d))<|Xi U U (QI U U (det a)) (λ_=>(Ev.gd (Px U U))) ?_;refine Xi U U U (λ_=>(Tt U (det a) U)) ?_;refine VC.nil (Qc (Qh [5,1,0,22] U (Qs U (λi=> ?_) (λi=> ?_))))
  ·have b:y=x:=UInt8.toNat_inj.1 (by have :=i;omega);refine Qt<|Qc<|Qx<|Qa<|Qb U U<|QE U U (by omega) (by omega) U ?_;refine Qd U U<|Qf<|Qm ?_;exact Q5 (L1:=[(0,_),(1,_),(5,intV ((n+1:Nat):Int))]) (VG U U U) (k1:=s.length -k -(n+1)) (by omega) ⟨n+1,rfl,rfl,g.pick [0] U,by omega,by omega,λj p=>by by_cases e:j=n;(subst e;rw[h,b]);exact f j (by omega)⟩
  have b:y≠x:= λq=>i (by rw[q]);exact QQ (Qp (Qp (Qy (Qc (Qe (Qa (Qb U U (Qd U U (Qf (Qc (Qu (QJ (.inr U) U U (⟨_,rfl,by rw[qen d l c f (.inr ⟨y,h,b⟩)],g.pick [0] U⟩)))))))))))))
 refine JL U U (Wc U U (QH a))<|JL U U (Wc U U (QH a))<|JL U U (Wc U U (QH a))<|JL U U (Wc U U (QH a))<|JL U U (Wc U U (QH a))<|JL U U (Wc U U (QH a))<|JL U U (Wc U U (QH a))<|JL U U (Wc U U (QH a))<|JL U U (Wc U U (QH a))<|Xi U U U (λ_=>(JT U (QH a) U)) ?_;exact VC.nil (Qc (Qh [5,1,0,22] U (QM U (QQ (Qp (Qp (Qy (Qc (Qe (Qa (Qb U U (Qd U U (Qf (Qc (Qu (QJ (.inr U) U U (⟨_,rfl,by rw[qen d l c f (.inl (by omega))],g.pick [0] U⟩)))))))))))))))))
def okPc (p:Bs) (ks:List (Bs×Bool)) (k:Bs×Bool):Prop:= ∃rest,D5 p=ks++k::rest
def YieldsP (P:Program) (l:Nat) (ok:List (Bs×Bool)->Bs×Bool->Prop) (J:List (Bs×Bool)->Th):Prop:=
  ∀(ks:List (Bs×Bool)) (k:Bs×Bool) (R:Th) (w:World),ok ks k->Sat w [J ks,R]->YieldAt Fence.wide 0 P l #[strV k.1,.bool k.2] w (λe w'=>e= .returned (.bool true)/\Sat w' [J (ks++[k]),R])
theorem SK (h:k=s.length\/3<=Ga (s.drop k)):lit (s.drop k)=0:=qdb (by rcases h with h | h;exact .inl (by rw[h,List.drop_length]);exact .inr h)
theorem pcs_it {l c:Nat} {page:Bs} {J:List (Bs×Bool)->Th} {F:Th} (i:page.length<=1000) (A:Sat w [J [],Q6 c [strV page],F]) (t:YieldsP prog l (okPc page) J):
    Calls prog 250 #[.func (.yield l) #[] #[],ptrV c 0] w (Ret λv w'=>Sat w' [J (D5 page),Q6 c [strV page],F]):=by
 refine Qn func250 U ntmps250 U ?_;refine Qe<|Qa<|Qd U U<|Qf<|Qc<|Qx ?_;refine QU (λK0 E0 W0=> ∃(ks:List (Bs×Bool)) (a:Nat),K0=page.length -a/\E0=[(0,.func (.yield l) #[] #[]),(1,ptrV c 0),(3,intV (a:Int))]/\Sat W0 [J ks,Q6 c [strV page],F]/\(D5 page=ks++D5 (page.drop a))/\(a<=page.length)) (L0:=[(0,_),(1,_),(3,_)]) (page.length -0) (VG U U U) ⟨[],0,rfl,rfl,A,by simp,by omega⟩ ?_;rintro _ _ I ⟨ks,a,rfl,rfl,r,f,B⟩;refine Qe<|Qe<|Qa<|Qb U U<|Qo U XT (by first | assumption | exact r.cell 1 U U) U ?_
 refine WD underlying9 U U<|Xa U U U<|Qf<|Qc<|Qs U (λC=> ?_) (λC=> ?_)
 ·have u:=Al (l:=page.drop a) (λq=>by have :=congrArg List.length q;rw[List.length_drop]at this;simp at this;omega);have x:a+Ga (page.drop a)<=page.length:=by have :=qem (page.drop a);rw[List.length_drop]at this;omega
  refine Qt<|Qc<|Qx<|Qe<|Qa<|Qo U XT (by first | assumption | exact r.cell 1 U U) U ?_
  refine Qb U U<|Qw Ax U (N5 (r.sp [] U) page (a) (by omega) i) U ?_;rintro _ K ⟨rfl,j⟩;replace j:=j.jn U U;refine Qd U U<|Qd U U<|Qf<|Qc<|Qh [3,1,0,4,5] U<|Qe<|Qe<|Qa<|Qb U U<|Xa U U U<|Qf<|Qc<|Qs U (λD=> ?_) (λD=> ?_)
  ·refine Qe<|Qa<|Qd U U<|Qf<|Qc<|Qx<|QU (λK0 E0 W0=> ∃(m:Nat),K0=page.length -a -m/\E0=[(0,.func (.yield l) #[] #[]),(1,ptrV c 0),(3,intV (a:Int)),(4,intV (m:Int)),(5,.bool false)]/\Sat W0 [J ks,Q6 c [strV page],F]/\(1<=m)/\(a+m<=page.length)/\(Ga (page.drop a)+lit (page.drop (a+Ga (page.drop a)))=m+lit (page.drop (a+m)))) (L0:=[(0,_),(1,_),(3,_),(4,_),(5,_)]) (page.length -a -Ga (page.drop a)) (Vb U U U U U) ⟨Ga (page.drop a),rfl,rfl,j,u,x,rfl⟩ ?_;rintro _ _ y ⟨m,rfl,rfl,b,E,G,z⟩;refine Qe<|Qe<|Qa<|Qb U U<|Qb U U<|QE U U (by omega) (by omega) U ?_;refine Qo U XT (b.cell 1 U U) U<|WD underlying9 U U<|Xa U U U<|Qb U U<|QZ 21 U (λe=> ?_) (λe=> ?_)
   ·refine Qk U U (det e)<|Qo U XT (b.cell 1 U U) U<|Qk U U (det e)<|Qb U U<|Qk U U (det e)<|Qb U U<|Qk U U (det e)<|QE U U (by omega) (by omega) U ?_;refine Qk U U (det e)<|Qw Ax U (N5 (b.sp [] U) page (a+m) (by omega) i) U ?_;rintro _ L ⟨rfl,n⟩;replace n:=n.jn U U;refine Qk U U (det e)<|Xa U U U<|QF U (det e) U U<|Qf<|Qc<|Qh [5,4,3,1,0,28] U<|Qs U (λH=> ?_) (λH=> ?_)
    ·refine Qt<|Qc<|Qx<|Qa<|Qb U U<|QE U U (by omega) (by omega) U ?_;refine Qd U U<|Qf<|Qm ?_;exact Q5 (L1:=[(0,_),(1,_),(3,_),(4,intV ((m+1:Nat):Int)),(5,_)]) (Vb U U U U U) (k1:=page.length -a -(m+1)) (by omega) ⟨m+1,rfl,rfl,n.pick [0,1,2] U,by omega,by omega,by rw[z,qdc (XQ (by omega)) (by omega),show a+(m+1)=a+m+1 by omega];omega⟩
    refine QQ<|Qp<|Qp<|Qy<|Qc<|Qe<|Qe ?_;have o:J6 (page.drop a)=m:=by unfold J6;rw[if_neg (by omega),List.drop_drop];have :=SK (s:=page) (k:=a+m) (.inr (by omega));omega
    have g:decide (3<=Ga (page.drop a))=false:=by exact QH (by omega)
    have d:D5 page=ks++((page.take (a+m)).drop a,false)::D5 (page.drop (a+m)):=by rw[f,G8 (l:=page.drop a) (λq=>by have :=congrArg List.length q;rw[List.length_drop]at this;simp at this;omega),List.drop_drop,o,g,List.drop_take,show a+m -a=m by omega]
    have h:=n.sp [0] U;refine WV<|X0 U (X2 U)<|X0 U (Ql U XT (n.cell 1 U U))<|X0 U (X2 U)<|X0 U (X2 U)<|X0 U (X2 U)<|X0 U (RZ U U (by omega) (by omega)) ?_;refine X0 U (Ra a (a+m) underlying9 U (Bg a _ U U) (Bg (a+m) _ U (by omega)) (by omega) (by omega)) ?_;refine X0 U (X2 U)<|R8 U U U U (t ks ((page.take (a+m)).drop a,false) _ _ ⟨_,d⟩ h) ?_;intro y b;replace b:=b.jn U U;refine X0 U (Hy U)<|Hi<|Qc<|Qh [4,3,1,0,40] U<|QM U<|Qt<|Qc<|Qa<|Qb U U<|Qb U U<|QE U U (by omega) (by omega) U ?_;refine Qd U U<|Qf<|Qm ?_;exact Q5 (L1:=[(0,_),(1,_),(3,intV ((a+m:Nat):Int))]) (VG U U U) (k1:=page.length -(a+m)) (by omega) ⟨_,a+m,rfl,rfl,b.pick [0,1,2] U,by rw[d,List.append_assoc];rfl,by omega⟩
   refine Qi U U (QH e) U<|Qi U U (QH e) U<|Qi U U (QH e) U<|Qi U U (QH e) U<|Qi U U (QH e) U<|Qi U U (QH e) U<|Q9 U (QH e) U U<|Qf<|Qc<|Qh [5,4,3,1,0,28] U<|QM U<|QQ<|Qp<|Qp<|Qy<|Qc<|Qe<|Qe ?_;have o:J6 (page.drop a)=m:=by unfold J6;rw[if_neg (by omega),List.drop_drop];have :=SK (s:=page) (k:=a+m) (.inl (by omega));omega
   have g:decide (3<=Ga (page.drop a))=false:=by exact QH (by omega)
   have d:D5 page=ks++((page.take (a+m)).drop a,false)::D5 (page.drop (a+m)):=by rw[f,G8 (l:=page.drop a) (λq=>by have :=congrArg List.length q;rw[List.length_drop]at this;simp at this;omega),List.drop_drop,o,g,List.drop_take,show a+m -a=m by omega]
   have h:=b.sp [0] U;refine WV<|X0 U (X2 U)<|X0 U (Ql U XT (b.cell 1 U U))<|X0 U (X2 U)<|X0 U (X2 U)<|X0 U (X2 U)<|X0 U (RZ U U (by omega) (by omega)) ?_;refine X0 U (Ra a (a+m) underlying9 U (Bg a _ U U) (Bg (a+m) _ U (by omega)) (by omega) (by omega)) ?_;refine X0 U (X2 U)<|R8 U U U U (t ks ((page.take (a+m)).drop a,false) _ _ ⟨_,d⟩ h) ?_;intro y b;replace b:=b.jn U U;refine X0 U (Hy U)<|Hi<|Qc<|Qh [4,3,1,0,40] U<|QM U<|Qt<|Qc<|Qa<|Qb U U<|Qb U U<|QE U U (by omega) (by omega) U ?_;refine Qd U U<|Qf<|Qm ?_;exact Q5 (L1:=[(0,_),(1,_),(3,intV ((a+m:Nat):Int))]) (VG U U U) (k1:=page.length -(a+m)) (by omega) ⟨_,a+m,rfl,rfl,b.pick [0,1,2] U,by rw[d,List.append_assoc];rfl,by omega⟩
  refine Qt<|Qc<|Qe<|Qe ?_;obtain⟨m,p⟩: ∃m,m=Ga (page.drop a):=⟨_,rfl⟩;have o:J6 (page.drop a)=m:=by unfold J6;rw[if_pos (by omega),p]
  have g:decide (3<=Ga (page.drop a))=true:=by exact det (by omega)
  rw[<-p];have d:D5 page=ks++((page.take (a+m)).drop a,true)::D5 (page.drop (a+m)):=by rw[f,G8 (l:=page.drop a) (λq=>by have :=congrArg List.length q;rw[List.length_drop]at this;simp at this;omega),List.drop_drop,o,g,List.drop_take,show a+m -a=m by omega]
  have h:=j.sp [0] U;refine WV<|X0 U (X2 U)<|X0 U (Ql U XT (j.cell 1 U U))<|X0 U (X2 U)<|X0 U (X2 U)<|X0 U (X2 U)<|X0 U (RZ U U (by omega) (by omega)) ?_;refine X0 U (Ra a (a+m) underlying9 U (Bg a _ U U) (Bg (a+m) _ U (by omega)) (by omega) (by omega)) ?_;refine X0 U (X2 U)<|R8 U U U U (t ks ((page.take (a+m)).drop a,true) _ _ ⟨_,d⟩ h) ?_;intro y b;replace b:=b.jn U U;refine X0 U (Hy U)<|Hi<|Qc<|Qh [3,1,0,4,40] U<|QM U<|Qt<|Qc<|Qa<|Qb U U<|Qb U U<|QE U U (by omega) (by omega) U ?_;refine Qd U U<|Qf<|Qm ?_;exact Q5 (L1:=[(0,_),(1,_),(3,intV ((a+m:Nat):Int))]) (VG U U U) (k1:=page.length -(a+m)) (by omega) ⟨_,a+m,rfl,rfl,b.pick [0,1,2] U,by rw[d,List.append_assoc];rfl,by omega⟩
 refine QQ<|Qp<|Qp<|Qy<|Zb (.inl U) U ?_;exact⟨_,rfl,by rw[show a=page.length by omega,List.drop_length,Pa,List.append_nil]at f;rw[f];exact r⟩
theorem pcs_sp {page:Bs} {F:Th} (a:Sat w [F]):
    Calls prog 232 #[strV page] w (Ret λv w'=> ∃c,v= .func (.func 250) #[] #[ptrV c 0]/\Sat w' [Q6 c [strV page],F]):=by
 refine Qn func232 U ntmps232 U ?_;refine Qe<|Qa<|XL a U U U ?_;intro b1 d b;exact Qd U U (Qf (Qc (Qe (Qa (ZB U U (Qd U U (Qf (Qc (Qu (QJ (.inr U) U U (⟨_,U,_,U,b⟩)))))))))))
def EC (o:Option Bs):Value:= .tuple #[strV (o.getD []),.bool o.isSome]
def Jp (l D b:Nat) (rec:Loop) (ks:List (Bs×Bool)):Th:=starL [JC l rec,WC D,K2 b (ZI ks)]
theorem Pb {F:Th} (hS:Sat w [F]) (page:Bs) (hp:page.length=64):
    Calls prog 217 #[strV page] w (Ret λv w'=>v=EC (UG page)/\Sat w' [F]):=by
 obtain⟨j,a3,a4⟩:=Ng (p:=page) (by omega);have a5:=Tx j;refine HC func217 U ntmps217 U ?_;refine Qe<|Qa<|Qd U U<|Qd U U<|Qf<|Qc<|Qe<|Qe<|Qa<|Qb U U<|WD underlying9 U U<|Xz U U U<|Qf<|Qc<|Qs U (λh1=> ?_) (λh1=> ?_)
 ·exact absurd h1 (by simp;omega)
 refine Qt<|Qc<|Qe<|Qa<|B0 hS FP (cs:=[.pointer none,.slice none 0 0]) U U ?_;intro bb wB L;have t:=HP (.inl U) ((TS L).perm (List.Perm.swap _ _ _));refine Qf<|Qc<|Qe<|Qe<|Qa<|Qb U U<|Qw cal_232 U (pcs_sp (t.sp [] U) (page:=page)) U ?_;rintro _ w2 ⟨c,rfl,M⟩;replace M:=M.jn U U;clear t;refine Qf<|Qc<|Qx<|H4 (caps:=[ptrV c 0]) U cal_250 ?_;intro rec d h N O P u z;have hE:=M.enter_loop rec;have Q:=hE.pick [0,1,3,2,4] U;have S:=Sat.fold (As:=[JC _ rec,WC _,K2 _ (ZI [])]) Q;refine(pcs_it (J:=Jp _ _ bb rec) (by omega) S ?_).mono ?_
 rotate_left
 ·rintro e w3 ⟨v0,rfl,T⟩;have b:=T.flat;dsimp only[Dg,Df]at b;refine⟨⟨v0,rfl⟩,rec,b.loop 0 U,by rw[d];simp,h, ?_⟩;intro a0 A V;have m:=b.loop_put 0 U (rec':={rec with state:= .exhausted});dsimp only[List.set]at m
  refine qsD_app (n:=32) V (by rw[A];exact u) (by rw[A];exact z) ?_;refine BB<|XJ<|Ze<|Ze<|XN ?_;have B:=m.sp [2] U;refine Qw cal_233 U (bl_len B) U ?_;rintro _ w3 ⟨rfl,I⟩;replace I:=I.jn U U;clear B;clear m;refine JJ U U U<|Qf<|ZT<|XJ<|Jo (L':=[(30,_),(4,_),(3,_),(2,_)]) (Rs U U U U)<|O2 U (λh4=> ?_) (λh4=> ?_)
  ·refine Ze<|XN<|Qd U U<|Qd U U<|Qf<|ZT<|XJ<|Un<|Vm ?_;obtain⟨W,C⟩:=I.defer_put (o:= .deferred none) 2 rfl;dsimp only[List.eraseIdx]at C;refine finM (.inr U) W (res2 U U U) ?_;exact⟨_,rfl,by unfold UG;rw[if_neg (by omega)];rfl,C.pick [3] U⟩
  refine VV<|XJ<|Ze<|XN<|Qw P7 U (N7 (I.sp [0] U) (by omega)) U ?_;rintro _ w5 ⟨rfl,X⟩;replace X:=X.jn U U;refine Qd U U<|Qd U U<|Qf<|ZT<|XJ<|Un ?_;obtain⟨W,C⟩:=X.defer_put (o:= .deferred none) 1 rfl;dsimp only[List.eraseIdx]at C;refine finM (.inr U) W (res2 U U U) ?_;exact⟨_,rfl,by unfold UG;rw[if_pos (by omega)];rfl,C.pick [2] U⟩
 intro ks k R w2 Y Z;have b:=Z.flat;dsimp only[Jp,Dg,Df]at b;have r:=b;obtain⟨rest,a⟩:=Y;have D:okP k:=j _ (by rw[a];simp);have a6:ks.length<=64:=by have :=congrArg List.length a;simp at this;omega
 have a7:=Tx (l:=ks) (λy hy=>j _ (by rw[a];simp [hy]));obtain⟨E,a8,a9⟩:=D;refine yieldG (r.loop 0 U) d h N O P u z U U (DE ?_);refine Yz (by rintro⟨_,_,q⟩;exact q) rfl ?_;refine Qd U U<|Qf<|DO<|NG (L':=[(5,_),(13,_),(4,_),(3,_),(2,_)]) (Vb U U U U U) ?_;refine Yz (by rintro⟨_,_,q⟩;exact q) rfl ?_;refine Qd U U<|Qf<|OU (r.loop 0 U) d ?_;have f:=r.loop_put 0 U (rec':={rec with state:= .busy});dsimp only[List.set]at f
 refine O1<|DE ?_;refine Yz (by rintro⟨_,_,q⟩;exact q) rfl ?_;refine Qb U U<|Qf<|DO (qaz U (λh6=> ?_) (λh6=> ?_))
 ·have a1:k.2=true:=h6;refine DE ?_;refine Yz (by rintro⟨_,_,q⟩;exact q) rfl ?_;refine Qb U U<|WD underlying9 U U<|QE U U (by omega) (by omega) U ?_;refine VT (128+k.1.length) underlying3 underlying5 U (by rfl) rfl ?_;have G:=f.sp [2] U;refine Qw TN U (YU G (UInt8.ofNat (128+k.1.length)) (by omega)) U ?_;rintro _ w7 ⟨rfl,j7⟩;replace j7:=j7.jn U U;clear G;clear f;refine Qf<|DO<|NG (L':=[(5,_),(4,_),(3,_),(2,_)]) (Rs U U U U) ?_;refine Yz (by rintro⟨_,_,q⟩;exact q) rfl ?_;refine Qb U U ?_;refine HH (c:=k.1.headD 0) 0 underlying9 U U U (by rw[<-List.head?_eq_getElem?];cases hq:k.1 with | nil=> rw[hq]at E;simp at E | cons x l=>rfl) U ?_
  refine Qw TN U (YU (j7.sp [0] U) (k.1.headD 0) (by simp;omega)) U ?_;rintro _ w8 ⟨rfl,K⟩;replace K:=K.jn U U;refine Qf<|UE<|E7 (K.loop 1 U) d h ?_;have g:=K.loop_put 1 U (rec':=rec);dsimp only[List.set]at g;have s:ZI (ks++[k])=ZI ks++[UInt8.ofNat (128+k.1.length)]++[k.1.headD 0]:=by rw[Ui];simp only[ZI,List.flatMap_cons,List.flatMap_nil,List.append_nil];rw[Ty,if_pos a1];simp
  refine Sat.fold (As:=[JC _ rec,WC _,K2 _ (ZI (ks++[k]))]) ?_;rw[s];exact g.pick [1,2,0,3] U
 have a2:k.2=false:=h6;refine DE ?_;refine Yz (by rintro⟨_,_,q⟩;exact q) rfl ?_;refine Qb U U<|WD underlying9 U U<|VT k.1.length underlying3 underlying5 U (by rfl) rfl ?_;have H:=f.sp [2] U;refine Qw TN U (YU H (UInt8.ofNat k.1.length) (by omega)) U ?_;rintro _ w9 ⟨rfl,j9⟩;replace j9:=j9.jn U U;clear H;clear f;refine Qf<|DO<|NG (L':=[(5,_),(4,_),(3,_),(2,_)]) (Rs U U U U) ?_;refine Yz (by rintro⟨_,_,q⟩;exact q) rfl ?_;refine Qb U U ?_;refine Qw AA U (K3 (j9.sp [0] U) k.1 (by simp;omega)) U ?_;rintro _ aa ⟨rfl,i⟩;replace i:=i.jn U U;refine Qf<|UE<|E7 (i.loop 1 U) d h ?_;have g:=i.loop_put 1 U (rec':=rec);dsimp only[List.set]at g;have s:ZI (ks++[k])=ZI ks++[UInt8.ofNat k.1.length]++k.1:=by rw[Ui];simp only[ZI,List.flatMap_cons,List.flatMap_nil,List.append_nil];rw[Ty,if_neg (by rw[a2];decide)];simp
 refine Sat.fold (As:=[JC _ rec,WC _,K2 _ (ZI (ks++[k]))]) ?_;rw[s];exact g.pick [1,2,0,3] U
theorem Eg (a:x.2=true):(ZI (dn++x::rest))[(ZI dn).length]? =some (UInt8.ofNat (128+x.1.length))/\(ZI (dn++x::rest))[(ZI dn).length+1]? =some (x.1.headD 0)/\(ZI (dn++[x])).length=(ZI dn).length+2/\(ZI dn).length+2<=(ZI (dn++x::rest)).length:=by
  have e:ZI (dn++x::rest)=ZI dn++(UInt8.ofNat (128+x.1.length)::x.1.headD 0::ZI rest):=by
    rw[Ui];simp only[ZI,List.flatMap_cons];rw[Ty,if_pos a];simp
  have b:ZI (dn++[x])=ZI dn++[UInt8.ofNat (128+x.1.length),x.1.headD 0]:=by
    rw[Ui];simp only[ZI,List.flatMap_cons,List.flatMap_nil];rw[Ty,if_pos a];simp
  rw[e,b];refine⟨by rw[List.getElem?_append_right (by omega)];simp,by rw[List.getElem?_append_right (by omega)];simp,by simp,by simp⟩
theorem Eh (a:x.2=false):(ZI (dn++x::rest))[(ZI dn).length]? =some (UInt8.ofNat x.1.length)/\((ZI (dn++x::rest)).take ((ZI dn).length+1+x.1.length)).drop ((ZI dn).length+1)=x.1/\(ZI (dn++[x])).length=(ZI dn).length+1+x.1.length/\(ZI dn).length+1+x.1.length<=(ZI (dn++x::rest)).length:=by
  have e:ZI (dn++x::rest)=ZI dn++(UInt8.ofNat x.1.length::x.1)++ZI rest:=by
    rw[Ui];simp only[ZI,List.flatMap_cons];rw[Ty,if_neg (by rw[a];decide)];simp
  have b:ZI (dn++[x])=ZI dn++(UInt8.ofNat x.1.length::x.1):=by
    rw[Ui];simp only[ZI,List.flatMap_cons,List.flatMap_nil];rw[Ty,if_neg (by rw[a];decide)];simp
  rw[e,b];refine⟨by rw[List.append_assoc,List.getElem?_append_right (by omega)];simp, ?_,by simp;omega,by simp;omega⟩;rw[List.take_append_of_le_length (by simp;omega)];rw[List.take_of_length_le (by simp;omega),List.drop_append,List.drop_of_length_le (by omega),List.nil_append,show(ZI dn).length+1 -(ZI dn).length=1 by omega];rfl
theorem Aw (h:(dn++rest).flatMap (·.1)=p):(dn.flatMap (·.1)).length<=p.length:=by
  rw[<-h,List.flatMap_append,List.length_append];omega
theorem B3 {F:Th} (Y:Sat w [F]) {f:Bs} (Z:p.length=64) (S:UG p=some f):
    Calls prog 187 #[strV f] w (Ret λv w'=>v= .tuple #[strV p,.bool true]/\Sat w' [F]):=by
 obtain⟨H,m,a0⟩:=Ng (p:=p) (by omega);obtain⟨T,j⟩:=MT S;refine Qn func187 U ntmps187 U ?_;refine Qe<|Qa<|Qd U U<|Qd U U<|Qf<|Qc<|Qe<|Qe<|Qa<|Qb U U<|WD underlying9 U U<|JJ U U U<|Qf<|Qc<|Qs U (λI=> ?_) (λI=> ?_)
 ·exact absurd I (by omega)
 refine Qt<|Qc<|Qe<|Qa<|B0 Y FP (cs:=[.pointer none,.slice none 0 0]) U U ?_;intro bb wB J;have K:=HP (.inl U) ((TS J).perm (List.Perm.swap _ _ _));refine Qf<|Qc<|Qe<|Qe<|Qa<|Qd U U<|Qf<|Qc<|Qx<|QU (λK0 E0 W0=> ∃(dn rest:List (Bs×Bool)),K0=rest.length/\E0=[(0,strV f),(4,ptrV bb 0),(5,intV ((ZI dn).length:Int))]/\Sat W0 [K2 bb (dn.flatMap (·.1)),F]/\(D5 p=dn++rest)) (L0:=[(0,_),(4,_),(5,_)]) ((D5 p).length) (VG U U U) ⟨[],D5 p,rfl,rfl,K,rfl⟩ ?_;rintro _ _ w2 ⟨dn,rest,rfl,rfl,L,a⟩;refine Qe<|Qe<|Qa<|Qb U U<|Qb U U<|WD underlying9 U U<|Xa U U U<|Qf<|Qc<|Qs U (λV=> ?_) (λV=> ?_)
 ·obtain⟨x,rest,rfl⟩: ∃x r,rest=x::r:=by cases rest with | nil=>(exfalso;have hh:=V;rw[j,a,List.append_nil]at hh;omega) | cons x r=> exact⟨x,r,rfl⟩
  have M:okP x:=H x (by rw[a];simp);obtain⟨N,a1,n⟩:=M;obtain⟨O,P,d⟩: ∃c,f[(ZI dn).length]? =some c/\c.toNat= if x.2=true then 128+x.1.length else x.1.length:=by(rw[j,a];cases e:x.2 with | true=> exact⟨_,(Eg e).1,by simp;omega⟩ | false=> exact⟨_,(Eh e).1,by simp;omega⟩)
  refine Qt<|Qc<|Qx<|Qe<|Qa<|Qb U U<|Qb U U<|HH ((ZI dn).length) underlying9 U U (by first | rfl | omega) P U ?_
  refine Ow underlying5 underlying3 U U<|Qd U U<|Qf<|Qc<|Qh [5,4,0,6] U<|Qe<|Qa<|Qb U U<|QE U U (by omega) (by omega) U ?_;refine Qd U U<|Qf<|Qc<|Qx<|Qe<|Qa<|Qb U U<|WU U U U<|Qb U U<|QZ 25 U (λg=> ?_) (λg=> ?_)
  ·have e:x.2=true:=by cases e:x.2 with | true=>rfl | false=>(exfalso;rw[e]at d;simp at d;have :=g;omega)
   obtain⟨_,A,o,q⟩:=Eg (dn:=dn) (rest:=rest) e;rw[<-a,<-j]at A q;have s:O.toNat=128+x.1.length:=by rw[d,if_pos e]
   replace n:=n e;refine Qk U U (det g)<|Qb U U<|Qk U U (det g)<|Qb U U<|Qk U U (det g)<|WD underlying9 U U<|Qk U U (det g)<|Xa U U U<|QF U (det g) U U<|Qd U U<|Qf<|Qc<|Qh [4,0,6,5,22] U<|Qs U (λW=> ?_) (λW=> ?_)
   ·refine Qe<|Qe<|Qa<|Qb U U<|H2 U U (by omega) (by omega) U ?_;refine Qb U U<|Qf<|Qc<|Qx ?_;have B:=L.pick [0,1] U;rw[<-List.append_nil (dn.flatMap (·.1))]at B;rw[show O.toNat=128+x.1.length from s];have Q:(((128+x.1.length:Nat):Int) -128)=(x.1.length:Int):=by omega
    rw[Q];refine QU (λK0 E0 W0=> ∃(i:Nat),K0=x.1.length -i/\E0=[(0,strV f),(4,ptrV bb 0),(5,intV (((ZI dn).length+1:Nat):Int)),(32,intV (x.1.length:Int)),(33,intV (i:Int))]/\Sat W0 [K2 bb (dn.flatMap (·.1)++List.replicate i (x.1.headD 0)),F]/\(i<=x.1.length)) (L0:=[(0,_),(4,_),(5,_),(32,_),(33,_)]) (x.1.length -0) (Vb U U U U U) ⟨0,rfl,rfl,B,by omega⟩ ?_;rintro _ _ w6 ⟨i,rfl,rfl,X,hi⟩;refine Qe<|Qa<|Xa U U U<|Qf<|Qc<|Qe<|Qs U (λh7=> ?_) (λh7=> ?_)
    ·refine Qt<|Qc<|Qe<|Qx<|Qa<|Qb U U<|Qb U U<|HH ((ZI dn).length+1) underlying9 U U (by first | rfl | omega) A U ?_
     refine Qw TN U (YU (X.sp [0] U) (x.1.headD 0) (by have :=Aw (p:=p) (by rw[<-a];exact m);rw[List.length_append,List.length_replicate];omega)) U ?_;rintro _ w8 ⟨rfl,R⟩;replace R:=R.jn U U;refine Qf<|Qm<|Qc<|Qa<|QE U U (by omega) (by omega) U ?_;refine Qb U U<|Qf ?_;have b:=R.pick [0,1] U;rw[List.append_assoc,<-List.replicate_succ']at b;exact Q5 (L1:=[(0,_),(4,_),(5,_),(32,_),(33,intV ((i+1:Nat):Int))]) (Vb U U U U U) (k1:=x.1.length -(i+1)) (by omega) ⟨i+1,rfl,rfl,b,by omega⟩
    refine QQ<|Qp<|Qp<|Qy<|Qc<|Qa<|Qb U U<|QE U U (by omega) (by omega) U ?_;refine Qd U U<|Qf<|Qm<|Qm ?_;have k:dn.flatMap (·.1)++List.replicate i (x.1.headD 0)=(dn++[x]).flatMap (·.1):=by rw[List.flatMap_append,show i=x.1.length by omega,<-run_eq n N];simp
    have b:=X.pick [0,1] U;rw[k]at b;exact Q5 (L1:=[(0,_),(4,_),(5,intV ((ZI (dn++[x])).length:Int))]) (by rw[o];exact(VG U U U)) (k1:=rest.length) (by simp) ⟨dn++[x],rest,rfl,rfl,b,by rw[a,List.append_assoc];rfl⟩
   exact absurd W (by omega)
  have e:x.2=false:=by cases e:x.2 with | false=>rfl | true=>(exfalso;rw[e]at d;simp at d;have :=g;omega)
  obtain⟨_,C,o,q⟩:=Eh (dn:=dn) (rest:=rest) e;rw[<-a,<-j]at C q;have s:O.toNat=x.1.length:=by rw[d,if_neg (by rw[e];decide)]
  refine Qi U U (QH g) U<|Qi U U (QH g) U<|Qi U U (QH g) U<|Qi U U (QH g) U<|Q9 U (QH g) U U<|Qd U U<|Qf<|Qc<|Qh [4,0,6,5,22] U<|QM U<|Qe<|Qa<|Qb U U<|Xa U U U<|Qb U U<|QZ 45 U (λl=> ?_) (λl=> ?_)
  ·refine Qk U U (det l)<|Qb U U<|Qk U U (det l)<|Qb U U<|Qk U U (det l)<|QE U U (by omega) (by omega) U ?_;refine Qk U U (det l)<|Qb U U<|Qk U U (det l)<|WD underlying9 U U<|Qk U U (det l)<|By U U U<|QF U (det l) U U<|Qd U U<|Qf<|Qc<|Qh [4,0,6,5,42] U<|Qs U (λD=> ?_) (λD=> ?_)
   ·refine Qe<|Qa<|Qb U U<|Qb U U<|Qb U U<|Qb U U<|QE U U (by omega) (by omega) U ?_;refine Bx ((ZI dn).length+1) ((ZI dn).length+1+x.1.length) underlying9 U (Bg _ _ U (by omega)) (Bg _ _ U (by omega)) (by omega) (by omega) U ?_;rw[C];refine Qw AA U (K3 (L.sp [0] U) x.1 (by have :=Aw (p:=p) (by rw[<-a];exact m);omega)) U ?_;rintro _ a2 ⟨rfl,t⟩;replace t:=t.jn U U;refine Qf<|Qc<|Qh [4,0,6,5] U<|Qa<|Qb U U<|Qb U U<|QE U U (by omega) (by omega) U ?_;refine Qd U U<|Qf<|Qm<|Qm ?_;have k:dn.flatMap (·.1)++x.1=(dn++[x]).flatMap (·.1):=by rw[List.flatMap_append];simp
    have b:=t.pick [0,1] U;rw[k]at b;exact Q5 (L1:=[(0,_),(4,_),(5,intV ((ZI (dn++[x])).length:Int))]) (by rw[o,<-s];exact(VG U U U)) (k1:=rest.length) (by simp) ⟨dn++[x],rest,rfl,rfl,b,by rw[a,List.append_assoc];rfl⟩
   exact absurd D (by first | omega | simp)
  exact absurd l (by omega)
 refine QQ<|Qp<|Qp<|Qy<|Qc<|Qe<|Qe ?_;have E:rest=[]:=by cases rest with | nil=>rfl | cons x r=>(exfalso;have I:=qep x;have h2:1<=(ZI (x::r)).length:=(by unfold ZI;rw[List.flatMap_cons,List.length_append];omega);have :=congrArg List.length j;rw[a,Ui,List.length_append]at this;omega)
 subst E;rw[List.append_nil]at a;have b:=bldZ_of (L.pick [0,1] U);rw[<-a,m]at b;refine Qa<|Qw P7 U (TT (b.sp [0] U) (by omega)) U ?_;rintro _ a3 ⟨rfl,u⟩;replace u:=u.jn U U;clear b;refine Qw PJ U (Pb (u.sp [] U) p Z) U ?_;rintro _ a4 ⟨rfl,y⟩;replace y:=y.jn U U;rw[S];dsimp only[EC,Option.getD_some,Option.isSome_some];refine Qb U U<|Qr U U U<|Qr U U U<|Qd U U<|Qd U U<|Qf<|Qc<|Qh [4,0,7,8] U<|Qe<|Qa<|Qb U U<|QX U U<|Qb U U<|X9 70 U (λh=> ?_) (λh=> ?_)
 ·exact absurd h (by simp)
 refine Qk U U h<|Qb U U<|Qk U U h<|Qb U U<|Qk U U h<|KE U U U<|Q9 U h U U<|Qf<|Qc<|Qh [4,74] U<|Qs U (λG=> ?_) (λG=> ?_)
 ·exact absurd G (by simp)
 refine Qt<|Qc<|Qe<|Qa<|Qw P7 U (TT (y.sp [0] U) (by omega)) U ?_;rintro _ a5 ⟨rfl,z⟩;replace z:=z.jn U U;exact Qd U U (Qd U U (Qf (Qc (Qu (Jt (.inr U) U U U (⟨_,U,U,z.pick [1] U⟩))))))
