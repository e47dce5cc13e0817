/- compress: equal, pieces -/
import Derived.Test.YtkcjfoaejijdoaaGreatDoorShelf
import Derived.Test.YtkcjfoaejijdoaaGreatDoorDrs
import Derived.Test.YtkcjfoaejijdoaaGreatDoorFw
set_option linter.unusedVariables false
set_option maxRecDepth 100000
set_option maxHeartbeats 80000000000
namespace Go.Proofs.YtkcjfoaejijdoaaGreatDoor
open Go.RowKit M
def Ky:Bs→Nat
  | []=>0
  | x::l=>1+(l.takeWhile (fun y=>decide (y=x))).length
def lit:Bs→Nat
  | []=>0
  | x::l=> if Ky (x::l)<3 then 1+lit l else 0
def Je (l:Bs):Nat:= if 3≤Ky l then Ky l else Ky l+lit (l.drop (Ky l))
theorem Oq (l:Bs):Ky l≤l.length:= by
  cases l with
  | nil=> simp [Ky]
  | cons x l=> have :=(List.takeWhile_sublist (l:=l) (fun y=>decide (y=x))).length_le; simp [Ky];omega
theorem S8 {l:Bs} (h:l≠[]):1≤Ky l:= by
  cases l with
  | nil=> exact absurd rfl h
  | cons x l=> simp [Ky]
theorem AF: ∀l:Bs,lit l≤l.length
  | []=> by simp [lit]
  | x::l=> by
    have :=AF l
    unfold lit
    split
    · simp;omega
    · simp
theorem FY (l:Bs):Je l≤l.length:= by
  unfold Je
  have :=Oq l
  have :=AF (l.drop (Ky l))
  rw[List.length_drop]at this
  split<;>omega
theorem Kn {l:Bs} (h:l≠[]):1≤Je l:= by
  unfold Je
  have :=S8 h
  split<;>omega
theorem VY {x:UInt8}: ∀{l:Bs} {n:Nat},n≤l.length→(∀j,j<n→l[j]? =some x)→(n=l.length∨ ∃y,l[n]? =some y∧y≠x)→(l.takeWhile (fun y=>decide (y=x))).length=n
  | [],n,h,_,_=> by simp at h; subst h;rfl
  | y::l,0,_,_,h=> by
    rcases h with h | ⟨z,h1,h2⟩
    · simp at h
    · simp at h1; subst h1; simp [h2]
  | y::l,n+1,h,h1,h2=> by
    have :=h1 0 (by omega)
    simp at this; subst this
    have :=VY (x:=y) (l:=l) (n:=n) (by simpa using h) (fun j hj=> by simpa using h1 (j+1) (by omega)) (by simpa using h2)
    simp [this]
theorem Ot {s:Bs} {k n:Nat} {x:UInt8} (h0:s[k]? =some x) (hn:1≤n) (hle:k+n≤s.length) (he: ∀j,j<n→s[k+j]? =some x) (hend:k+n=s.length∨ ∃y,s[k+n]? =some y∧y≠x):Ky (s.drop k)=n:= by
  have hk:k<s.length:=(XR h0).1
  have hx:s[k]=x:=(XR h0).2
  rw[List.drop_eq_getElem_cons hk,hx]
  rw[Ky,VY (n:=n -1)]
  · omega
  · rw[List.length_drop];omega
  · intro j hj; rw[List.getElem?_drop]; have :=he (j+1) (by omega); rw[show k+1+j=k+(j+1) by omega]; exact this
  · rcases hend with h | ⟨y,h1,h2⟩
    · left; rw[List.length_drop];omega
    · right; refine⟨y, ?_,h2⟩; rw[List.getElem?_drop, show k+1+(n -1)=k+n by omega]; exact h1
theorem Eh {x:UInt8}: ∀(l:Bs) (j:Nat),j<(l.takeWhile (fun y=>decide (y=x))).length→l[j]? =some x
  | [],j,h=> by simp at h
  | y::l,j,h=> by
    by_cases hy:y=x
    · subst hy
      cases j with
      | zero=>rfl
      | succ j=> rw[List.getElem?_cons_succ]; refine Eh l j ?_; simp at h;simpa using h
    · simp [hy]at h
theorem eqN_all {l:Bs} {j:Nat} (h:j<Ky l):l[j]? =l[0]? := by
  cases l with
  | nil=> simp
  | cons x l=>
    cases j with
    | zero=>rfl
    | succ j=>
      simp [Ky]at h
      have hj:j<(l.takeWhile (fun y=>decide (y=x))).length:= by omega
      rw[List.getElem?_cons_succ,List.getElem?_cons_zero]
      exact Eh l j hj
theorem AE {s:Bs} {k:Nat} {x:UInt8} (h0:s[k]? =some x) (h:Ky (s.drop k)<3):lit (s.drop k)=1+lit (s.drop (k+1)):= by
  obtain⟨hk,hx⟩:=XR h0
  rw[List.drop_eq_getElem_cons hk]at h⊢
  rw[lit,if_pos h]
theorem AD {l:Bs} (h:l=[]∨3≤Ky l):lit l=0:= by
  cases l with
  | nil=>rfl
  | cons x l=>
    rcases h with h | h
    · cases h
    · rw[lit,if_neg (by omega)]
def CA:Nat→Bs→List (Bs×Bool)
  | 0,_=>[]
  | f+1,l=> if l=[]then[]else(l.take (Je l),decide (3≤Ky l))::CA f (l.drop (Je l))
theorem Mv: ∀(f g:Nat) (l:Bs),l.length≤f→l.length≤g→CA f l=CA g l
  | 0,g,l,h,_=> by
    have hl:l=[]:=List.length_eq_zero_iff.1 (by omega)
    subst hl
    cases g with
    | zero=>rfl
    | succ g=> simp [CA]
  | f+1,0,l,_,h=> by
    have hl:l=[]:=List.length_eq_zero_iff.1 (by omega)
    subst hl
    simp [CA]
  | f+1,g+1,l,h1,h2=> by
    unfold CA
    split
    · rfl
    · rename_i hl
      have :=Kn hl
      rw[Mv f g _ (by rw[List.length_drop];omega) (by rw[List.length_drop];omega)]
def GC (l:Bs):List (Bs×Bool):=CA l.length l
theorem Tl:GC []=[]:=rfl
theorem KU {l:Bs} (h:l≠[]):GC l=(l.take (Je l),decide (3≤Ky l))::GC (l.drop (Je l)):= by
  unfold GC
  have hp:=Kn h
  have hl:1≤l.length:= by cases l with | nil=> exact absurd U h | cons=> simp
  obtain⟨m,hm⟩: ∃m,l.length=m+1:=⟨l.length -1, by omega⟩
  rw[hm,CA,if_neg h,Mv m (l.drop (Je l)).length _ (by rw[List.length_drop];omega) (Nat.le_refl _)]
def Dm (x:Bs×Bool):Bs:= if x.2=true then[UInt8.ofNat (128+x.1.length),x.1.headD 0]else UInt8.ofNat x.1.length::x.1
def Z9 (l:List (Bs×Bool)):Bs:=l.flatMap Dm
def Ub (p:Bs):Option Bs:= if(Z9 (GC p)).length≤47 then some (Z9 (GC p))else none
def okP (x:Bs×Bool):Prop:=1≤x.1.length∧x.1.length≤64∧(x.2=true→ ∀j,j<x.1.length→x.1[j]? =x.1[0]?)
theorem EZ: ∀(n:Nat) (l:Bs),l.length≤n→n≤64→(∀x∈GC l,okP x)∧(GC l).flatMap (·.1)=l
  | 0,l,h,_=> by
    have hl:l=[]:=List.length_eq_zero_iff.1 (by omega)
    subst hl; simp [Tl]
  | n+1,l,h,h64=> by
    by_cases hl:l=[]
    · subst hl; simp [Tl]
    · have hp:=Kn hl
      have hle:=FY l
      obtain⟨h1,h2⟩:=EZ n (l.drop (Je l)) (by rw[List.length_drop];omega) (by omega)
      rw[KU hl]
      refine⟨?_, ?_⟩
      · intro x hx
        rcases List.mem_cons.1 hx with rfl | hx
        · refine⟨by simp;omega, by simp;omega, ?_⟩
          intro hd j hj
          simp only[decide_eq_true_eq]at hd
          have hpn:Je l=Ky l:= by unfold Je; rw[if_pos hd]
          simp only[List.length_take]at hj
          simp only[List.getElem?_take]
          rw[if_pos (by omega),if_pos (by omega)]
          exact eqN_all (by omega)
        · exact h1 x hx
      · rw[List.flatMap_cons,h2]; exact List.take_append_drop _ _
theorem Ou (x:Bs×Bool):1≤(Dm x).length:= by unfold Dm;split<;> simp
theorem Ov {x:Bs×Bool} (h:okP x):(Dm x).length≤65:= by
  obtain⟨_,h2,_⟩:=h
  unfold Dm;split<;> simp;omega
theorem H1 (a b:List (Bs×Bool)):Z9 (a++b)=Z9 a++Z9 b:=List.flatMap_append
theorem Dl: ∀{l:List (Bs×Bool)},(∀x∈l,okP x)→(Z9 l).length≤65*l.length
  | [],_=> by simp [Z9]
  | x::l,h=> by
    have h1:=Ov (h x (by simp))
    have h2:=Dl (l:=l) (fun y hy=>h y (by simp [hy]))
    unfold Z9 at h2⊢
    rw[List.flatMap_cons,List.length_append,List.length_cons];omega
theorem BP {p f:Bs} (h:Ub p=some f):f.length≤47∧f=Z9 (GC p):= by
  unfold Ub at h
  split at h
  · rename_i h1; cases h; exact⟨h1,rfl⟩
  · cases h
theorem run_eq {s:Bs} (h: ∀j,j<s.length→s[j]? =s[0]?) (h1:1≤s.length):s=List.replicate s.length (s.headD 0):= by
  apply List.ext_getElem?
  intro j
  by_cases hj:j<s.length
  · rw[h j hj,List.getElem?_replicate,if_pos hj]
    cases s with
    | nil=> simp at h1
    | cons x s=>rfl
  · rw[List.getElem?_eq_none (by omega),List.getElem?_eq_none (by simp;omega)]
theorem Se: ∀(l:List (Bs×Bool)),(∀x∈l,okP x)→l.length≤(l.flatMap (·.1)).length
  | [],_=> by simp
  | x::l,h=> by
    have h1:=Se l (fun y hy=>h y (List.mem_cons_of_mem _ hy))
    have h2:=(h x (by simp)).1
    rw[List.flatMap_cons,List.length_append,List.length_cons];omega
theorem Mu {p:Bs} (hp:p.length≤64):(∀x∈GC p,okP x)∧(GC p).flatMap (·.1)=p∧(GC p).length≤64:= by
  obtain⟨h1,h2⟩:=EZ p.length p (Nat.le_refl _) hp
  have :=Se _ h1
  rw[h2]at this
  exact⟨h1,h2, by omega⟩
def bldZ (b:Nat) (bs:Bs):Th:=Ca fun q:Value×Value=>starL [J8 205 b [q.1,q.2],Rx 5 q.2 bs]
theorem bldZ_of {w:World} {b:Nat} {bs:Bs} {As:List Th} (h:Sat w (VV b bs::As)):Sat w (bldZ b bs::As):= by
  obtain⟨p,v,_,h1⟩:=Un h
  have h2:=(h1.pull 1 U).bufZ_of; dsimp only[List.eraseIdx]at h2
  exact Sat.ex_intro (f:= fun q:Value×Value=>starL [J8 205 b [q.1,q.2],Rx 5 q.2 bs]) (p,v) (Sat.fold (As:=[J8 205 b [p,v],Rx 5 v bs]) (h2.perm (List.Perm.swap _ _ _)))
theorem bl_len {w:World} {b:Nat} {bs:Bs} {F:Th} (hS:Sat w [VV b bs,F]):
    Calls Tryz.prog 178 #[ptrV b 0] w (Ret fun v w'=>v=intV (bs.length:Int)∧Sat w' [VV b bs,F]):= by
 obtain⟨p,v,hp,hS⟩:=Un hS
 obtain⟨ao,cap,rfl,h1v,hq⟩:=hS.bufv 1 rfl
 refine Qm Tryz.func178 U Tryz.ntmps178 U ?_
 exact Qd (Qa (Qe U U (Qf (Qc (Qd (Qa (Qb U U (Qj U U (Qg U Yn U (Qn U U8 (hS.tcell 0 U (o:=1) U) U (Xr Tryz.underlying143 U U (Qe U U (Qf (Qc (Qu (QR (.inr U) U U (⟨_,rfl,rfl,Um hp hS⟩)))))))))))))))))
theorem Dz {w:World} {b:Nat} {bs:Bs} {F:Th} (hS:Sat w [bldZ b bs,F]) (hl:bs.length≤70368744177663):
    Calls Tryz.prog 142 #[ptrV b 0] w (Ret fun v w'=>v=strV bs∧Sat w' [bldZ b bs,F]):= by
 obtain⟨⟨p,v⟩,hS⟩:=hS.ex
 replace hS:=hS.flat; dsimp only[R8,R7]at hS
 obtain⟨ao,cap,rfl,h1v,hao⟩:=hS.bufZv 1 rfl
 refine Qm Tryz.func142 U Tryz.ntmps142 U ?_
 refine Qd (Qa (Qe U U (Qf (Qc (Qd ?_)))))
 have hS1:=hS.drew
 refine QF [0,1,2,3,5,6,7,8,9,4,10,11] [4,10] We (by kernel_rfl) ?_
 refine QG U U U (Xh U U U (QV U U U Yn (Q4 U U U (Qr U U8 (hS1.tcell 0 U (o:=1) U)) (QG U U U (Xh U U U (QV U U U Yn (Q4 U U U (Qr U U8 (hS1.tcell 0 U (o:=1) U)) (X8 U U U (fun _=>(VB Tryz.underlying143 U)) ?_))))))))
 refine Xn U U U U U U ?_
 refine KB U hao U (XQ (.cons (.inl ⟨rfl,(Qr U U8 (hS1.tcell 0 U (o:=1) U))⟩) (X1 (by kernel_rfl))) ?_)
 refine Xn U U U U U U ?_
 refine RC 1 hS1 U U U Tryz.underlying230 Fc (by omega) U ?_
 intro w2 hS2
 clear hS1
 refine XQ (X1 (by kernel_rfl)) ?_
 exact Za U U U (VC.nil (Qc (Qh [2] U (Qu (QR (.inr U) U U (⟨_,rfl,rfl,Sat.ex_intro (f:= fun q:Value×Value=>starL [J8 205 b [q.1,q.2],Rx 5 q.2 bs]) (p,.slice ao bs.length cap) (Sat.fold (As:=[J8 205 b [p,_],Rx 5 _ bs]) hS2)⟩))))))
theorem MH {w:World} {F:Th} (hS:Sat w [F]) (s:Bs) (k:Nat) (hk:k<s.length) (hl:s.length≤1000):
    Calls Tryz.prog 216 #[strV s,intV (k:Int)] w (Ret fun v w'=>v=intV (Ky (s.drop k):Nat)∧Sat w' [F]):= by
 obtain⟨x,h0⟩: ∃x,s[k]? =some x:=⟨_,Zi hk⟩
 refine Qm Tryz.func216 U Tryz.ntmps216 U ?_
 refine Qd (Qa (Qe U U (Qf (Qc (Qd (Qa (Qe U U (Qf (Qc (Qd (Qv ?_)))))))))))
 refine Xb (fun K0 E0 W0=> ∃(n:Nat),K0=s.length -k -n∧E0=[(0,strV s),(1,intV (k:Int)),(5,intV (n:Int))]∧Sat W0 [F]∧(1≤n)∧(k+n≤s.length)∧(∀j,j<n→s[k+j]? =some x)) (L0:=[(0,_),(1,_),(5,_)]) (s.length -k -1) (RB U U U) ⟨1,rfl,rfl,hS,Nat.le_refl _, by omega, fun j hj=> by rw[show k+j=k by omega]; exact h0⟩ ?_
 rintro _ _ w1 ⟨n,rfl,rfl,hS1,hn,hle,he⟩
 refine Qd (Qd ?_)
 have hS2:=hS1.drew
 refine QF [0,1,2,3,4,5,6,7,8,9,10,11,12,13,14,15,16] [] We (by kernel_rfl) ?_
 refine QG U U U (QG U U U (X8 U U U (fun _=>(Kx U U (by omega) (by omega))) ?_))
 refine QG U U U (X8 U U U (fun _=>(Bd Tryz.underlying9 U)) ?_)
 refine X8 U U U (fun _=>(T0 U U)) ?_
 refine QG U U U (HR 12 U (fun h3=> ?_) (fun h3=> ?_))
 ·obtain⟨y,hy⟩: ∃y,s[k+n]? =some y:=⟨_,Zi (by omega)⟩
  refine X8 U U (XD U U (Xl h3)) (fun _=>(Ev.gd (XO U))) ?_
  refine X8 U U (XD U U (Xl h3)) (fun _=>(Ev.gd (XO U))) ?_
  refine X8 U U (XD U U (Xl h3)) (fun _=>(Ev.gd (XO U))) ?_
  refine X8 U U (XD U U (Xl h3)) (fun _=>(Ev.gd (Kx U U (by omega) (by omega)))) ?_
  refine Q4 U U (XD U U (Xl h3)) (Ev.gd (Ui (k+n) Tryz.underlying9 U U (by omega) hy)) ?_
  refine X8 U U (XD U U (Xl h3)) (fun _=>(Ev.gd (XO U))) ?_
  refine X8 U U (XD U U (Xl h3)) (fun _=>(Ev.gd (XO U))) ?_
  refine Q4 U U (XD U U (Xl h3)) (Ev.gd (Ui k Tryz.underlying9 U U U h0)) (X8 U U (XD U U (Xl h3)) (fun _=>(Ev.gd (U5 U U))) ?_)
  refine X8 U U U (fun _=>(UZ U (Xl h3) U)) ?_
  refine VC.nil (Qc (Qh [5,1,0,22] U (Qs U (fun h4=> ?_) (fun h4=> ?_))))
  ·have hyx:y=x:=UInt8.toNat_inj.1 (by have :=h4;omega)
   refine Qt (Qc (Qv (Qa (Qb U U (QI U U (by omega) (by omega) U ?_)))))
   refine Qe U U (Qf (Qk ?_))
   exact Q0 (L1:=[(0,_),(1,_),(5,intV ((n+1:Nat):Int))]) (RB U U U) (k1:=s.length -k -(n+1)) (by omega) ⟨n+1,rfl,rfl,hS2.pick [0] U, by omega, by omega, fun j hj=> by by_cases e:j=n;(subst e; rw[hy,hyx]); exact he j (by omega)⟩
  have hyx:y≠x:= fun q=>h4 (by rw[q])
  exact QM (Qo (Qo (Qx (Qc (Qd (Qa (Qb U U (Qe U U (Qf (Qc (Qu (QR (.inr U) U U (⟨_,rfl, by rw[Ot h0 hn hle he (.inr ⟨y,hy,hyx⟩)],hS2.pick [0] U⟩)))))))))))))
 refine Xx U U (XB U U (QC h3)) (Xx U U (XB U U (QC h3)) (Xx U U (XB U U (QC h3)) (Xx U U (XB U U (QC h3)) (Xx U U (XB U U (QC h3)) (Xx U U (XB U U (QC h3)) (Xx U U (XB U U (QC h3)) (Xx U U (XB U U (QC h3)) (Xx U U (XB U U (QC h3)) (X8 U U U (fun _=>(Uh U (QC h3) U)) ?_)))))))))
 exact VC.nil (Qc (Qh [5,1,0,22] U (QT U (QM (Qo (Qo (Qx (Qc (Qd (Qa (Qb U U (Qe U U (Qf (Qc (Qu (QR (.inr U) U U (⟨_,rfl, by rw[Ot h0 hn hle he (.inl (by omega))],hS2.pick [0] U⟩)))))))))))))))))
def okPc (p:Bs) (ks:List (Bs×Bool)) (k:Bs×Bool):Prop:= ∃rest,GC p=ks++k::rest
def YieldsP (P:Program) (l:Nat) (ok:List (Bs×Bool)→Bs×Bool→Prop) (J:List (Bs×Bool)→Th):Prop:=
  ∀(ks:List (Bs×Bool)) (k:Bs×Bool) (R:Th) (w:World),ok ks k→Sat w [J ks,R]→YieldAt Fence.wide 0 P l #[strV k.1,.bool k.2] w (fun e w'=>e= .returned (.bool true)∧Sat w' [J (ks++[k]),R])
theorem CG {s:Bs} {k:Nat} (h:k=s.length∨3≤Ky (s.drop k)):lit (s.drop k)=0:=AD (by rcases h with h | h; exact .inl (by rw[h,List.drop_length]); exact .inr h)
theorem pcs_it {w:World} {l c:Nat} {page:Bs} {J:List (Bs×Bool)→Th} {F:Th} (hpl:page.length≤1000) (hS:Sat w [J [],Q3 c [strV page],F]) (hY:YieldsP Tryz.prog l (okPc page) J):
    Calls Tryz.prog 215 #[.func (.yield l) #[] #[],ptrV c 0] w (Ret fun v w'=>Sat w' [J (GC page),Q3 c [strV page],F]):= by
 refine Qm Tryz.func215 U Tryz.ntmps215 U ?_
 refine Qd (Qa (Qe U U (Qf (Qc (Qv ?_)))))
 refine Xb (fun K0 E0 W0=> ∃(ks:List (Bs×Bool)) (a:Nat),K0=page.length -a∧E0=[(0,.func (.yield l) #[] #[]),(1,ptrV c 0),(3,intV (a:Int))]∧Sat W0 [J ks,Q3 c [strV page],F]∧(GC page=ks++GC (page.drop a))∧(a≤page.length)) (L0:=[(0,_),(1,_),(3,_)]) (page.length -0) (RB U U U) ⟨[],0,rfl,rfl,hS, by simp, by omega⟩ ?_
 rintro _ _ w1 ⟨ks,a,rfl,rfl,hS1,hks,hal⟩
 refine Qd (Qd (Qa (Qb U U (Qn U WC (by first | assumption | exact hS1.cell 1 U U) U ?_))))
 refine WD Tryz.underlying9 U U (Xg U U U (Qf (Qc (Qs U (fun h2=> ?_) (fun h2=> ?_)))))
 ·have he1:=S8 (l:=page.drop a) (fun q=> by have :=congrArg List.length q; rw[List.length_drop]at this; simp at this;omega)
  have he2:a+Ky (page.drop a)≤page.length:= by have :=Oq (page.drop a); rw[List.length_drop]at this;omega
  refine Qt (Qc (Qv (Qd (Qa (Qn U WC (by first | assumption | exact hS1.cell 1 U U) U ?_)))))
  refine Qb U U (Qw SF U (MH (hS1.sp [] U) page (a) (by omega) hpl) U ?_)
  rintro _ w3 ⟨rfl,hS3⟩
  replace hS3:=hS3.jn U U
  clear hS1
  refine Qe U U (Qe U U (Qf (Qc (Qh [3,1,0,4,5] U (Qd (Qd (Qa (Qb U U (Xg U U U (Qf (Qc (Qs U (fun h4=> ?_) (fun h4=> ?_)))))))))))))
  ·refine Qd (Qa (Qe U U (Qf (Qc (Qv (Xb (fun K0 E0 W0=> ∃(m:Nat),K0=page.length -a -m∧E0=[(0,.func (.yield l) #[] #[]),(1,ptrV c 0),(3,intV (a:Int)),(4,intV (m:Int)),(5,.bool false)]∧Sat W0 [J ks,Q3 c [strV page],F]∧(1≤m)∧(a+m≤page.length)∧(Ky (page.drop a)+lit (page.drop (a+Ky (page.drop a)))=m+lit (page.drop (a+m)))) (L0:=[(0,_),(1,_),(3,_),(4,_),(5,_)]) (page.length -a -Ky (page.drop a)) (YU U U U U U) ⟨Ky (page.drop a),rfl,rfl,hS3,he1,he2,rfl⟩ ?_))))))
   rintro _ _ w5 ⟨m,rfl,rfl,hS5,hm1,hm2,hm3⟩
   refine Qd (Qd (Qa (Qb U U (Qb U U (QI U U (by omega) (by omega) U ?_)))))
   refine Qn U WC (hS5.cell 1 U U) U (WD Tryz.underlying9 U U (Xg U U U (Qb U U (QU 21 U (fun h6=> ?_) (fun h6=> ?_)))))
   ·refine Ql U U (Xl h6) (Qn U WC (hS5.cell 1 U U) U (Ql U U (Xl h6) (Qb U U (Ql U U (Xl h6) (Qb U U (Ql U U (Xl h6) (QI U U (by omega) (by omega) U ?_)))))))
    refine Ql U U (Xl h6) (Qw SF U (MH (hS5.sp [] U) page (a+m) (by omega) hpl) U ?_)
    rintro _ w7 ⟨rfl,hS7⟩
    replace hS7:=hS7.jn U U
    clear hS5
    refine Ql U U (Xl h6) (Xg U U U (Q9 U (Xl h6) U U (Qf (Qc (Qh [5,4,3,1,0,28] U (Qs U (fun h8=> ?_) (fun h8=> ?_)))))))
    ·refine Qt (Qc (Qv (Qa (Qb U U (QI U U (by omega) (by omega) U ?_)))))
     refine Qe U U (Qf (Qk ?_))
     exact Q0 (L1:=[(0,_),(1,_),(3,_),(4,intV ((m+1:Nat):Int)),(5,_)]) (YU U U U U U) (k1:=page.length -a -(m+1)) (by omega) ⟨m+1,rfl,rfl,hS7.pick [0,1,2] U, by omega, by omega, by rw[hm3,AE (Zi (by omega)) (by omega), show a+(m+1)=a+m+1 by omega];omega⟩
    refine QM (Qo (Qo (Qx (Qc (Qd (Qd ?_))))))
    have hm:Je (page.drop a)=m:= by unfold Je; rw[if_neg (by omega),List.drop_drop]; have :=CG (s:=page) (k:=a+m) (.inr (by omega));omega
    have hbb:decide (3≤Ky (page.drop a))=false:= by exact QC (by omega)
    have hpc:GC page=ks++((page.take (a+m)).drop a,false)::GC (page.drop (a+m)):= by rw[hks,KU (l:=page.drop a) (fun q=> by have :=congrArg List.length q; rw[List.length_drop]at this; simp at this;omega),List.drop_drop,hm,hbb,List.drop_take, show a+m -a=m by omega]
    have hSy:=hS7.sp [0] U
    refine WQ (X3 U (XO U) (X3 U (Qr U WC (hS7.cell 1 U U)) (X3 U (XO U) (X3 U (XO U) (X3 U (XO U) (X3 U (Kx U U (by omega) (by omega)) ?_))))))
    refine X3 U (V8 a (a+m) Tryz.underlying9 U (VU a _ U U) (VU (a+m) _ U (by omega)) (by omega) (by omega)) ?_
    refine X3 U (XO U) (Ke U U U U (hY ks ((page.take (a+m)).drop a,false) _ _ ⟨_,hpc⟩ hSy) ?_)
    intro w5 hS5; replace hS5:=hS5.jn U U
    refine X3 U (HL U) (YV (Qc (Qh [4,3,1,0,40] U (QT U (Qt (Qc (Qa (Qb U U (Qb U U (QI U U (by omega) (by omega) U ?_))))))))))
    refine Qe U U (Qf (Qk ?_))
    exact Q0 (L1:=[(0,_),(1,_),(3,intV ((a+m:Nat):Int))]) (RB U U U) (k1:=page.length -(a+m)) (by omega) ⟨_,a+m,rfl,rfl,hS5.pick [0,1,2] U, by rw[hpc,List.append_assoc];rfl, by omega⟩
   refine Qi U U (QC h6) U (Qi U U (QC h6) U (Qi U U (QC h6) U (Qi U U (QC h6) U (Qi U U (QC h6) U (Qi U U (QC h6) U (QP U (QC h6) U U (Qf (Qc (Qh [5,4,3,1,0,28] U (QT U (QM (Qo (Qo (Qx (Qc (Qd (Qd ?_)))))))))))))))))
   have hm:Je (page.drop a)=m:= by unfold Je; rw[if_neg (by omega),List.drop_drop]; have :=CG (s:=page) (k:=a+m) (.inl (by omega));omega
   have hbb:decide (3≤Ky (page.drop a))=false:= by exact QC (by omega)
   have hpc:GC page=ks++((page.take (a+m)).drop a,false)::GC (page.drop (a+m)):= by rw[hks,KU (l:=page.drop a) (fun q=> by have :=congrArg List.length q; rw[List.length_drop]at this; simp at this;omega),List.drop_drop,hm,hbb,List.drop_take, show a+m -a=m by omega]
   have hSy:=hS5.sp [0] U
   refine WQ (X3 U (XO U) (X3 U (Qr U WC (hS5.cell 1 U U)) (X3 U (XO U) (X3 U (XO U) (X3 U (XO U) (X3 U (Kx U U (by omega) (by omega)) ?_))))))
   refine X3 U (V8 a (a+m) Tryz.underlying9 U (VU a _ U U) (VU (a+m) _ U (by omega)) (by omega) (by omega)) ?_
   refine X3 U (XO U) (Ke U U U U (hY ks ((page.take (a+m)).drop a,false) _ _ ⟨_,hpc⟩ hSy) ?_)
   intro w5 hS5; replace hS5:=hS5.jn U U
   refine X3 U (HL U) (YV (Qc (Qh [4,3,1,0,40] U (QT U (Qt (Qc (Qa (Qb U U (Qb U U (QI U U (by omega) (by omega) U ?_))))))))))
   refine Qe U U (Qf (Qk ?_))
   exact Q0 (L1:=[(0,_),(1,_),(3,intV ((a+m:Nat):Int))]) (RB U U U) (k1:=page.length -(a+m)) (by omega) ⟨_,a+m,rfl,rfl,hS5.pick [0,1,2] U, by rw[hpc,List.append_assoc];rfl, by omega⟩
  refine Qt (Qc (Qd (Qd ?_)))
  obtain⟨m,hm0⟩: ∃m,m=Ky (page.drop a):=⟨_,rfl⟩
  have hm:Je (page.drop a)=m:= by unfold Je; rw[if_pos (by omega),hm0]
  have hbb:decide (3≤Ky (page.drop a))=true:= by exact Xl (by omega)
  rw[←hm0]
  have hpc:GC page=ks++((page.take (a+m)).drop a,true)::GC (page.drop (a+m)):= by rw[hks,KU (l:=page.drop a) (fun q=> by have :=congrArg List.length q; rw[List.length_drop]at this; simp at this;omega),List.drop_drop,hm,hbb,List.drop_take, show a+m -a=m by omega]
  have hSy:=hS3.sp [0] U
  refine WQ (X3 U (XO U) (X3 U (Qr U WC (hS3.cell 1 U U)) (X3 U (XO U) (X3 U (XO U) (X3 U (XO U) (X3 U (Kx U U (by omega) (by omega)) ?_))))))
  refine X3 U (V8 a (a+m) Tryz.underlying9 U (VU a _ U U) (VU (a+m) _ U (by omega)) (by omega) (by omega)) ?_
  refine X3 U (XO U) (Ke U U U U (hY ks ((page.take (a+m)).drop a,true) _ _ ⟨_,hpc⟩ hSy) ?_)
  intro w5 hS5; replace hS5:=hS5.jn U U
  refine X3 U (HL U) (YV (Qc (Qh [3,1,0,4,40] U (QT U (Qt (Qc (Qa (Qb U U (Qb U U (QI U U (by omega) (by omega) U ?_))))))))))
  refine Qe U U (Qf (Qk ?_))
  exact Q0 (L1:=[(0,_),(1,_),(3,intV ((a+m:Nat):Int))]) (RB U U U) (k1:=page.length -(a+m)) (by omega) ⟨_,a+m,rfl,rfl,hS5.pick [0,1,2] U, by rw[hpc,List.append_assoc];rfl, by omega⟩
 refine QM (Qo (Qo (Qx (ZD (.inl U) U ?_))))
 exact⟨_,rfl, by rw[show a=page.length by omega,List.drop_length,Tl,List.append_nil]at hks; rw[hks]; exact hS1⟩
theorem pcs_sp {w:World} {page:Bs} {F:Th} (hS:Sat w [F]):
    Calls Tryz.prog 177 #[strV page] w (Ret fun v w'=> ∃c,v= .func (.func 215) #[] #[ptrV c 0]∧Sat w' [Q3 c [strV page],F]):= by
 refine Qm Tryz.func177 U Tryz.ntmps177 U ?_
 refine Qd (Qa (Zd hS U U U ?_))
 intro b1 w1 hS1
 exact Qe U U (Qf (Qc (Qd (Qa (Zx U U (Qe U U (Qf (Qc (Qu (QR (.inr U) U U (⟨_,rfl,_,rfl,hS1⟩)))))))))))
def Sf (o:Option Bs):Value:= .tuple #[strV (o.getD []),.bool o.isSome]
def Jp (l D b:Nat) (rec:Loop) (ks:List (Bs×Bool)):Th:=starL [Jk l rec,Ws D,VV b (Z9 ks)]
theorem Tm {w:World} {F:Th} (hS:Sat w [F]) (page:Bs) (hp:page.length=64):
    Calls Tryz.prog 141 #[strV page] w (Ret fun v w'=>v=Sf (Ub page)∧Sat w' [F]):= by
 obtain⟨hpo,hpf,hpl⟩:=Mu (p:=page) (by omega)
 have heL:=Dl hpo
 refine He Tryz.func141 U Tryz.ntmps141 U ?_
 refine Qd (Qa (Qe U U (Qe U U (Qf (Qc (Qd (Qd (Qa (Qb U U (WD Tryz.underlying9 U U (X0 U U U (Qf (Qc (Qs U (fun h1=> ?_) (fun h1=> ?_)))))))))))))))
 ·exact absurd h1 (by simp;omega)
 refine Qt (Qc (Qd (Qa (DW hS LV (cs:=[.pointer none,.slice none 0 0]) U U ?_))))
 intro bb wB hSB
 have hSC:=Um (.inl U) ((N6 hSB).perm (List.Perm.swap _ _ _))
 refine Qf (Qc (Qd (Qd (Qa (Qb U U (Qw cal_177 U (pcs_sp (hSC.sp [] U) (page:=page)) U ?_))))))
 rintro _ w2 ⟨c,rfl,hS2⟩
 replace hS2:=hS2.jn U U
 clear hSC
 refine Qf (Qc (Qv (YW (caps:=[ptrV c 0]) U cal_215 ?_)))
 intro rec hr1 hr2 hr3 hr4 hr5 htn htf
 have hE:=hS2.enter_loop rec
 have hE2:=hE.pick [0,1,3,2,4] U
 have hE3:=Sat.fold (As:=[Jk _ rec,Ws _,VV _ (Z9 [])]) hE2
 refine(pcs_it (J:=Jp _ _ bb rec) (by omega) hE3 ?_).mono ?_
 rotate_left
 ·rintro e w3 ⟨v0,rfl,hw3⟩
  have hw4:=hw3.flat; dsimp only[R8,R7]at hw4
  refine⟨⟨v0,rfl⟩,rec,hw4.loop 0 U, by rw[hr1]; simp,hr2, ?_⟩
  intro a0 ha1 ha2
  have hw5:=hw4.loop_put 0 U (rec':={rec with state:= .exhausted}); dsimp only[List.set]at hw5
  refine qsD_app (n:=32) ha2 (by rw[ha1]; exact htn) (by rw[ha1]; exact htf) ?_
  refine RS (XK (XV (XV (XP ?_))))
  have hC3:=hw5.sp [2] U
  refine Qw cal_178 U (bl_len hC3) U ?_
  rintro _ w3 ⟨rfl,hS3⟩
  replace hS3:=hS3.jn U U; clear hC3
  clear hw5
  refine YO U U U (Qf (ZI (XK (WR (L':=[(30,_),(4,_),(3,_),(2,_)]) (VN U U U U) (Fx U (fun h4=> ?_) (fun h4=> ?_))))))
  ·refine XV (XP (Qe U U (Qe U U (Qf (ZI (XK (H4 (Uu ?_))))))))
   obtain⟨hD,hZ⟩:=hS3.defer_put (o:= .deferred none) 2 rfl
   dsimp only[List.eraseIdx]at hZ
   refine finM (.inr U) hD (res2 U U U) ?_
   exact⟨_,rfl, by unfold Ub; rw[if_neg (by omega)];rfl,hZ.pick [3] U⟩
  refine UE (XK (XV (XP (Qw TP U (LK (hS3.sp [0] U) (by omega)) U ?_))))
  rintro _ w5 ⟨rfl,hS5⟩
  replace hS5:=hS5.jn U U
  clear hS3
  refine Qe U U (Qe U U (Qf (ZI (XK (H4 ?_)))))
  obtain⟨hD,hZ⟩:=hS5.defer_put (o:= .deferred none) 1 rfl
  dsimp only[List.eraseIdx]at hZ
  refine finM (.inr U) hD (res2 U U U) ?_
  exact⟨_,rfl, by unfold Ub; rw[if_pos (by omega)];rfl,hZ.pick [2] U⟩
 intro ks k R w2 hok hw2
 have hw4:=hw2.flat; dsimp only[Jp,R8,R7]at hw4
 have hw6:=hw4
 obtain⟨rest,hrest⟩:=hok
 have hok1:okP k:=hpo _ (by rw[hrest]; simp)
 have hkl:ks.length≤64:= by have :=congrArg List.length hrest; simp at this;omega
 have hel:=Dl (l:=ks) (fun y hy=>hpo _ (by rw[hrest]; simp [hy]))
 obtain⟨hk1,hk2,hk3⟩:=hok1
 refine yieldG (hw6.loop 0 U) hr1 hr2 hr3 hr4 hr5 htn htf U U (GK ?_)
 refine JW (by rintro⟨_,_,q⟩; exact q) rfl ?_
 refine Qe U U (Qf (GS (MZ (L':=[(5,_),(13,_),(4,_),(3,_),(2,_)]) (YU U U U U U) ?_)))
 refine JW (by rintro⟨_,_,q⟩; exact q) rfl ?_
 refine Qe U U (Qf (FP (hw6.loop 0 U) hr1 ?_))
 have hw7:=hw6.loop_put 0 U (rec':={rec with state:= .busy}); dsimp only[List.set]at hw7
 refine Fw (GK ?_)
 refine JW (by rintro⟨_,_,q⟩; exact q) rfl ?_
 refine Qb U U (Qf (GS (Ef U (fun h6=> ?_) (fun h6=> ?_))))
 ·have hkT:k.2=true:=h6
  refine GK ?_
  refine JW (by rintro⟨_,_,q⟩; exact q) rfl ?_
  refine Qb U U (WD Tryz.underlying9 U U (QI U U (by omega) (by omega) U ?_))
  refine Gr (128+k.1.length) Tryz.underlying3 Tryz.underlying5 U (by rfl) rfl ?_
  have hC7:=hw7.sp [2] U
  refine Qw Bi U (Hf hC7 (UInt8.ofNat (128+k.1.length)) (by omega)) U ?_
  rintro _ w7 ⟨rfl,hS7⟩
  replace hS7:=hS7.jn U U; clear hC7
  clear hw7
  refine Qf (GS (MZ (L':=[(5,_),(4,_),(3,_),(2,_)]) (VN U U U U) ?_))
  refine JW (by rintro⟨_,_,q⟩; exact q) rfl ?_
  refine Qb U U ?_
  refine Hk (c:=k.1.headD 0) 0 Tryz.underlying9 U U U (by rw[←List.head?_eq_getElem?]; cases hq:k.1 with | nil=> rw[hq]at hk1; simp at hk1 | cons x l=>rfl) U ?_
  refine Qw Bi U (Hf (hS7.sp [0] U) (k.1.headD 0) (by simp;omega)) U ?_
  rintro _ w8 ⟨rfl,hS8⟩
  replace hS8:=hS8.jn U U
  clear hS7
  refine Qf (HY (Sb (hS8.loop 1 U) hr1 hr2 ?_))
  have hw9:=hS8.loop_put 1 U (rec':=rec); dsimp only[List.set]at hw9
  have hek:Z9 (ks++[k])=Z9 ks++[UInt8.ofNat (128+k.1.length)]++[k.1.headD 0]:= by rw[H1]; simp only[Z9,List.flatMap_cons,List.flatMap_nil,List.append_nil]; rw[Dm,if_pos hkT]; simp
  refine Sat.fold (As:=[Jk _ rec,Ws _,VV _ (Z9 (ks++[k]))]) ?_
  rw[hek]; exact hw9.pick [1,2,0,3] U
 have hkF:k.2=false:=h6
 refine GK ?_
 refine JW (by rintro⟨_,_,q⟩; exact q) rfl ?_
 refine Qb U U (WD Tryz.underlying9 U U (Gr k.1.length Tryz.underlying3 Tryz.underlying5 U (by rfl) rfl ?_))
 have hC9:=hw7.sp [2] U
 refine Qw Bi U (Hf hC9 (UInt8.ofNat k.1.length) (by omega)) U ?_
 rintro _ w9 ⟨rfl,hS9⟩
 replace hS9:=hS9.jn U U; clear hC9
 clear hw7
 refine Qf (GS (MZ (L':=[(5,_),(4,_),(3,_),(2,_)]) (VN U U U U) ?_))
 refine JW (by rintro⟨_,_,q⟩; exact q) rfl ?_
 refine Qb U U ?_
 refine Qw SP U (Vd (hS9.sp [0] U) k.1 (by simp;omega)) U ?_
 rintro _ w10 ⟨rfl,hS10⟩
 replace hS10:=hS10.jn U U
 clear hS9
 refine Qf (HY (Sb (hS10.loop 1 U) hr1 hr2 ?_))
 have hw9:=hS10.loop_put 1 U (rec':=rec); dsimp only[List.set]at hw9
 have hek:Z9 (ks++[k])=Z9 ks++[UInt8.ofNat k.1.length]++k.1:= by rw[H1]; simp only[Z9,List.flatMap_cons,List.flatMap_nil,List.append_nil]; rw[Dm,if_neg (by rw[hkF];decide)]; simp
 refine Sat.fold (As:=[Jk _ rec,Ws _,VV _ (Z9 (ks++[k]))]) ?_
 rw[hek]; exact hw9.pick [1,2,0,3] U
theorem PP {dn rest:List (Bs×Bool)} {x:Bs×Bool} (hx:x.2=true):(Z9 (dn++x::rest))[(Z9 dn).length]? =some (UInt8.ofNat (128+x.1.length))∧(Z9 (dn++x::rest))[(Z9 dn).length+1]? =some (x.1.headD 0)∧(Z9 (dn++[x])).length=(Z9 dn).length+2∧(Z9 dn).length+2≤(Z9 (dn++x::rest)).length:= by
  have e:Z9 (dn++x::rest)=Z9 dn++(UInt8.ofNat (128+x.1.length)::x.1.headD 0::Z9 rest):= by
    rw[H1]; simp only[Z9,List.flatMap_cons]; rw[Dm,if_pos hx]; simp
  have e2:Z9 (dn++[x])=Z9 dn++[UInt8.ofNat (128+x.1.length),x.1.headD 0]:= by
    rw[H1]; simp only[Z9,List.flatMap_cons,List.flatMap_nil]; rw[Dm,if_pos hx]; simp
  rw[e,e2]
  refine⟨by rw[List.getElem?_append_right (by omega)]; simp, by rw[List.getElem?_append_right (by omega)]; simp, by simp, by simp⟩
theorem PQ {dn rest:List (Bs×Bool)} {x:Bs×Bool} (hx:x.2=false):(Z9 (dn++x::rest))[(Z9 dn).length]? =some (UInt8.ofNat x.1.length)∧((Z9 (dn++x::rest)).take ((Z9 dn).length+1+x.1.length)).drop ((Z9 dn).length+1)=x.1∧(Z9 (dn++[x])).length=(Z9 dn).length+1+x.1.length∧(Z9 dn).length+1+x.1.length≤(Z9 (dn++x::rest)).length:= by
  have e:Z9 (dn++x::rest)=Z9 dn++(UInt8.ofNat x.1.length::x.1)++Z9 rest:= by
    rw[H1]; simp only[Z9,List.flatMap_cons]; rw[Dm,if_neg (by rw[hx];decide)]; simp
  have e2:Z9 (dn++[x])=Z9 dn++(UInt8.ofNat x.1.length::x.1):= by
    rw[H1]; simp only[Z9,List.flatMap_cons,List.flatMap_nil]; rw[Dm,if_neg (by rw[hx];decide)]; simp
  rw[e,e2]
  refine⟨by rw[List.append_assoc,List.getElem?_append_right (by omega)]; simp, ?_, by simp;omega, by simp;omega⟩
  rw[List.take_append_of_le_length (by simp;omega)]
  rw[List.take_of_length_le (by simp;omega),List.drop_append,List.drop_of_length_le (by omega),List.nil_append, show(Z9 dn).length+1 -(Z9 dn).length=1 by omega]
  rfl
theorem SE {dn rest:List (Bs×Bool)} {p:Bs} (h:(dn++rest).flatMap (·.1)=p):(dn.flatMap (·.1)).length≤p.length:= by
  rw[←h,List.flatMap_append,List.length_append];omega
theorem RI {w:World} {F:Th} (hS:Sat w [F]) {p f:Bs} (hp:p.length=64) (hf:Ub p=some f):
    Calls Tryz.prog 92 #[strV f] w (Ret fun v w'=>v= .tuple #[strV p,.bool true]∧Sat w' [F]):= by
 obtain⟨hpo,hpf,hpl⟩:=Mu (p:=p) (by omega)
 obtain⟨hf47,hfe⟩:=BP hf
 refine Qm Tryz.func92 U Tryz.ntmps92 U ?_
 refine Qd (Qa (Qe U U (Qe U U (Qf (Qc (Qd (Qd (Qa (Qb U U (WD Tryz.underlying9 U U (YO U U U (Qf (Qc (Qs U (fun h1=> ?_) (fun h1=> ?_)))))))))))))))
 ·exact absurd h1 (by omega)
 refine Qt (Qc (Qd (Qa (DW hS LV (cs:=[.pointer none,.slice none 0 0]) U U ?_))))
 intro bb wB hSB
 have hSC:=Um (.inl U) ((N6 hSB).perm (List.Perm.swap _ _ _))
 refine Qf (Qc (Qd (Qd (Qa (Qe U U (Qf (Qc (Qv (Xb (fun K0 E0 W0=> ∃(dn rest:List (Bs×Bool)),K0=rest.length∧E0=[(0,strV f),(4,ptrV bb 0),(5,intV ((Z9 dn).length:Int))]∧Sat W0 [VV bb (dn.flatMap (·.1)),F]∧(GC p=dn++rest)) (L0:=[(0,_),(4,_),(5,_)]) ((GC p).length) (RB U U U) ⟨[],GC p,rfl,rfl,hSC,rfl⟩ ?_)))))))))
 rintro _ _ w2 ⟨dn,rest,rfl,rfl,hS2,hdr⟩
 refine Qd (Qd (Qa (Qb U U (Qb U U (WD Tryz.underlying9 U U (Xg U U U (Qf (Qc (Qs U (fun h3=> ?_) (fun h3=> ?_))))))))))
 ·obtain⟨x,rest,rfl⟩: ∃x r,rest=x::r:= by cases rest with | nil=>(exfalso; have hh:=h3; rw[hfe,hdr,List.append_nil]at hh;omega) | cons x r=> exact⟨x,r,rfl⟩
  have hxo:okP x:=hpo x (by rw[hdr]; simp)
  obtain⟨hx1,hx2,hx3⟩:=hxo
  obtain⟨c0,hc0,hcn0⟩: ∃c,f[(Z9 dn).length]? =some c∧c.toNat= if x.2=true then 128+x.1.length else x.1.length:= by(rw[hfe,hdr]; cases hb:x.2 with | true=> exact⟨_,(PP hb).1, by simp;omega⟩ | false=> exact⟨_,(PQ hb).1, by simp;omega⟩)
  refine Qt (Qc (Qv (Qd (Qa (Qb U U (Qb U U (Hk ((Z9 dn).length) Tryz.underlying9 U U (by first | rfl | omega) hc0 U ?_)))))))
  refine Fp Tryz.underlying5 Tryz.underlying3 U U (Qe U U (Qf (Qc (Qh [5,4,0,6] U (Qd (Qa (Qb U U (QI U U (by omega) (by omega) U ?_))))))))
  refine Qe U U (Qf (Qc (Qv (Qd (Qa (Qb U U (JA U U U (Qb U U (QU 25 U (fun h4=> ?_) (fun h4=> ?_))))))))))
  ·have hb:x.2=true:= by cases hb:x.2 with | true=>rfl | false=>(exfalso; rw[hb]at hcn0; simp at hcn0; have :=h4;omega)
   obtain⟨_,hc1,hel,hlf⟩:=PP (dn:=dn) (rest:=rest) hb
   rw[←hdr,←hfe]at hc1 hlf
   have hcn:c0.toNat=128+x.1.length:= by rw[hcn0,if_pos hb]
   replace hx3:=hx3 hb
   refine Ql U U (Xl h4) (Qb U U (Ql U U (Xl h4) (Qb U U (Ql U U (Xl h4) (WD Tryz.underlying9 U U (Ql U U (Xl h4) (Xg U U U (Q9 U (Xl h4) U U (Qe U U (Qf (Qc (Qh [4,0,6,5,22] U (Qs U (fun h5=> ?_) (fun h5=> ?_))))))))))))))
   ·refine Qd (Qd (Qa (Qb U U (Vg U U (by omega) (by omega) U ?_))))
    refine Qb U U (Qf (Qc (Qv ?_)))
    have hSl:=hS2.pick [0,1] U; rw[←List.append_nil (dn.flatMap (·.1))]at hSl
    rw[show c0.toNat=128+x.1.length from hcn]
    have e32:(((128+x.1.length:Nat):Int) -128)=(x.1.length:Int):= by omega
    rw[e32]
    refine Xb (fun K0 E0 W0=> ∃(i:Nat),K0=x.1.length -i∧E0=[(0,strV f),(4,ptrV bb 0),(5,intV (((Z9 dn).length+1:Nat):Int)),(32,intV (x.1.length:Int)),(33,intV (i:Int))]∧Sat W0 [VV bb (dn.flatMap (·.1)++List.replicate i (x.1.headD 0)),F]∧(i≤x.1.length)) (L0:=[(0,_),(4,_),(5,_),(32,_),(33,_)]) (x.1.length -0) (YU U U U U U) ⟨0,rfl,rfl,hSl, by omega⟩ ?_
    rintro _ _ w6 ⟨i,rfl,rfl,hS6,hi⟩
    refine Qd (Qa (Xg U U U (Qf (Qc (Qd (Qs U (fun h7=> ?_) (fun h7=> ?_)))))))
    ·refine Qt (Qc (Qd (Qv (Qa (Qb U U (Qb U U (Hk ((Z9 dn).length+1) Tryz.underlying9 U U (by first | rfl | omega) hc1 U ?_)))))))
     refine Qw Bi U (Hf (hS6.sp [0] U) (x.1.headD 0) (by have :=SE (p:=p) (by rw[←hdr]; exact hpf); rw[List.length_append,List.length_replicate];omega)) U ?_
     rintro _ w8 ⟨rfl,hS8⟩
     replace hS8:=hS8.jn U U
     clear hS6
     refine Qf (Qk (Qc (Qa (QI U U (by omega) (by omega) U ?_))))
     refine Qb U U (Qf ?_)
     have hSz:=hS8.pick [0,1] U; rw[List.append_assoc,←List.replicate_succ']at hSz
     exact Q0 (L1:=[(0,_),(4,_),(5,_),(32,_),(33,intV ((i+1:Nat):Int))]) (YU U U U U U) (k1:=x.1.length -(i+1)) (by omega) ⟨i+1,rfl,rfl,hSz, by omega⟩
    refine QM (Qo (Qo (Qx (Qc (Qa (Qb U U (QI U U (by omega) (by omega) U ?_)))))))
    refine Qe U U (Qf (Qk (Qk ?_)))
    have hcat:dn.flatMap (·.1)++List.replicate i (x.1.headD 0)=(dn++[x]).flatMap (·.1):= by rw[List.flatMap_append, show i=x.1.length by omega,←run_eq hx3 hx1]; simp
    have hSz:=hS6.pick [0,1] U
    rw[hcat]at hSz
    exact Q0 (L1:=[(0,_),(4,_),(5,intV ((Z9 (dn++[x])).length:Int))]) (by rw[hel]; exact(RB U U U)) (k1:=rest.length) (by simp) ⟨dn++[x],rest,rfl,rfl,hSz, by rw[hdr,List.append_assoc];rfl⟩
   exact absurd h5 (by omega)
  have hb:x.2=false:= by cases hb:x.2 with | false=>rfl | true=>(exfalso; rw[hb]at hcn0; simp at hcn0; have :=h4;omega)
  obtain⟨_,hsl,hel,hlf⟩:=PQ (dn:=dn) (rest:=rest) hb
  rw[←hdr,←hfe]at hsl hlf
  have hcn:c0.toNat=x.1.length:= by rw[hcn0,if_neg (by rw[hb];decide)]
  refine Qi U U (QC h4) U (Qi U U (QC h4) U (Qi U U (QC h4) U (Qi U U (QC h4) U (QP U (QC h4) U U (Qe U U (Qf (Qc (Qh [4,0,6,5,22] U (QT U (Qd (Qa (Qb U U (Xg U U U (Qb U U (QU 45 U (fun h9=> ?_) (fun h9=> ?_))))))))))))))))
  ·refine Ql U U (Xl h9) (Qb U U (Ql U U (Xl h9) (Qb U U (Ql U U (Xl h9) (QI U U (by omega) (by omega) U ?_)))))
   refine Ql U U (Xl h9) (Qb U U (Ql U U (Xl h9) (WD Tryz.underlying9 U U (Ql U U (Xl h9) (Ec U U U (Q9 U (Xl h9) U U (Qe U U (Qf (Qc (Qh [4,0,6,5,42] U (Qs U (fun h10=> ?_) (fun h10=> ?_))))))))))))
   ·refine Qd (Qa (Qb U U (Qb U U (Qb U U (Qb U U (QI U U (by omega) (by omega) U ?_))))))
    refine Fm ((Z9 dn).length+1) ((Z9 dn).length+1+x.1.length) Tryz.underlying9 U (VU _ _ U (by omega)) (VU _ _ U (by omega)) (by omega) (by omega) U ?_
    rw[hsl]
    refine Qw SP U (Vd (hS2.sp [0] U) x.1 (by have :=SE (p:=p) (by rw[←hdr]; exact hpf);omega)) U ?_
    rintro _ w11 ⟨rfl,hS11⟩
    replace hS11:=hS11.jn U U
    clear hS2
    refine Qf (Qc (Qh [4,0,6,5] U (Qa (Qb U U (Qb U U (QI U U (by omega) (by omega) U ?_))))))
    refine Qe U U (Qf (Qk (Qk ?_)))
    have hcat:dn.flatMap (·.1)++x.1=(dn++[x]).flatMap (·.1):= by rw[List.flatMap_append]; simp
    have hSz:=hS11.pick [0,1] U
    rw[hcat]at hSz
    exact Q0 (L1:=[(0,_),(4,_),(5,intV ((Z9 (dn++[x])).length:Int))]) (by rw[hel,←hcn]; exact(RB U U U)) (k1:=rest.length) (by simp) ⟨dn++[x],rest,rfl,rfl,hSz, by rw[hdr,List.append_assoc];rfl⟩
   exact absurd h10 (by first | omega | simp)
  exact absurd h9 (by omega)
 refine QM (Qo (Qo (Qx (Qc (Qd (Qd ?_))))))
 have hend:rest=[]:= by cases rest with | nil=>rfl | cons x r=>(exfalso; have h1:=Ou x; have h2:1≤(Z9 (x::r)).length:=(by unfold Z9; rw[List.flatMap_cons,List.length_append];omega); have :=congrArg List.length hfe; rw[hdr,H1,List.length_append]at this;omega)
 subst hend
 rw[List.append_nil]at hdr
 have hSz:=bldZ_of (hS2.pick [0,1] U)
 rw[←hdr,hpf]at hSz
 refine Qa (Qw TP U (Dz (hSz.sp [0] U) (by omega)) U ?_)
 rintro _ w12 ⟨rfl,hS12⟩
 replace hS12:=hS12.jn U U
 clear hSz
 refine Qw TQ U (Tm (hS12.sp [] U) p hp) U ?_
 rintro _ w13 ⟨rfl,hS13⟩
 replace hS13:=hS13.jn U U
 clear hS12
 rw[hf]
 dsimp only[Sf,Option.getD_some,Option.isSome_some]
 refine Qb U U (Qq U U U (Qq U U U (Qe U U (Qe U U (Qf (Qc (Qh [4,0,7,8] U (Qd (Qa (Qb U U (QQ U U (Qb U U (Ze 70 U (fun h14=> ?_) (fun h14=> ?_))))))))))))))
 ·exact absurd h14 (by simp)
 refine Ql U U h14 (Qb U U (Ql U U h14 (Qb U U (Ql U U h14 (MU U U U (QP U h14 U U (Qf (Qc (Qh [4,74] U (Qs U (fun h15=> ?_) (fun h15=> ?_)))))))))))
 ·exact absurd h15 (by simp)
 refine Qt (Qc (Qd (Qa (Qw TP U (Dz (hS13.sp [0] U) (by omega)) U ?_))))
 rintro _ w16 ⟨rfl,hS16⟩
 replace hS16:=hS16.jn U U
 clear hS13
 exact Qe U U (Qe U U (Qf (Qc (Qu (WW (.inr U) U U U (⟨_,rfl,rfl,hS16.pick [1] U⟩))))))
end Go.Proofs.YtkcjfoaejijdoaaGreatDoor
