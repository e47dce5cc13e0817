/- compress: equal, pieces -/
import Derived.Test.YtkgjmhcdacidoaaGreatDoorShelf
import Derived.Test.YtkgjmhcdacidoaaGreatDoorDrs
import Derived.Test.YtkgjmhcdacidoaaGreatDoorFw
set_option linter.unusedVariables false
set_option maxRecDepth 100000
set_option maxHeartbeats 80000000000
namespace Go.Proofs.YtkgjmhcdacidoaaGreatDoor
open Go.RowKit M Proofs.Tryz
def VO:Bs→Nat
  | []=>0
  | x::l=>1+(l.takeWhile (fun y=>decide (y=x))).length
def lit:Bs→Nat
  | []=>0
  | x::l=> if VO (x::l)<3 then 1+lit l else 0
def WL (l:Bs):Nat:= if 3≤VO l then VO l else VO l+lit (l.drop (VO l))
theorem Ej (l:Bs):VO l≤l.length:= by
  cases l with
  | nil=> simp [VO]
  | cons x l=> have :=(List.takeWhile_sublist (l:=l) (fun y=>decide (y=x))).length_le; simp [VO];omega
theorem P3 {l:Bs} (h:l≠[]):1≤VO l:= by
  cases l with
  | nil=> exact absurd rfl h
  | cons x l=> simp [VO]
theorem LL: ∀l:Bs,lit l≤l.length
  | []=> by simp [lit]
  | x::l=> by
    have :=LL l
    unfold lit
    split
    · simp;omega
    · simp
theorem S6 (l:Bs):WL l≤l.length:= by
  unfold WL
  have :=Ej l
  have :=LL (l.drop (VO l))
  rw[List.length_drop]at this
  split<;>omega
theorem VE {l:Bs} (h:l≠[]):1≤WL l:= by
  unfold WL
  have :=P3 h
  split<;>omega
theorem Vs {x:UInt8}: ∀{l:Bs} {n:Nat},n≤l.length→(∀j,j<n→l[j]? =some x)→(n=l.length∨ ∃y,l[n]? =some y∧y≠x)→(l.takeWhile (fun y=>decide (y=x))).length=n
  | [],n,h,_,_=> by simp at h; subst h;rfl
  | y::l,0,_,_,h=> by
    rcases h with h | ⟨z,h1,h2⟩
    · simp at h
    · simp at h1; subst h1; simp [h2]
  | y::l,n+1,h,h1,h2=> by
    have :=h1 0 (by omega)
    simp at this; subst this
    have :=Vs (x:=y) (l:=l) (n:=n) (by simpa using h) (fun j hj=> by simpa using h1 (j+1) (by omega)) (by simpa using h2)
    simp [this]
theorem Ek {s:Bs} {k n:Nat} {x:UInt8} (h0:s[k]? =some x) (hn:1≤n) (hle:k+n≤s.length) (he: ∀j,j<n→s[k+j]? =some x) (hend:k+n=s.length∨ ∃y,s[k+n]? =some y∧y≠x):VO (s.drop k)=n:= by
  have hk:k<s.length:=(XL h0).1
  have hx:s[k]=x:=(XL h0).2
  rw[List.drop_eq_getElem_cons hk,hx]
  rw[VO,Vs (n:=n -1)]
  · omega
  · rw[List.length_drop];omega
  · intro j hj; rw[List.getElem?_drop]; have :=he (j+1) (by omega); rw[show k+1+j=k+(j+1) by omega]; exact this
  · rcases hend with h | ⟨y,h1,h2⟩
    · left; rw[List.length_drop];omega
    · right; refine⟨y, ?_,h2⟩; rw[List.getElem?_drop, show k+1+(n -1)=k+n by omega]; exact h1
theorem FK {x:UInt8}: ∀(l:Bs) (j:Nat),j<(l.takeWhile (fun y=>decide (y=x))).length→l[j]? =some x
  | [],j,h=> by simp at h
  | y::l,j,h=> by
    by_cases hy:y=x
    · subst hy
      cases j with
      | zero=>rfl
      | succ j=> rw[List.getElem?_cons_succ]; refine FK l j ?_; simp at h;simpa using h
    · simp [hy]at h
theorem eqN_all {l:Bs} {j:Nat} (h:j<VO l):l[j]? =l[0]? := by
  cases l with
  | nil=> simp
  | cons x l=>
    cases j with
    | zero=>rfl
    | succ j=>
      simp [VO]at h
      have hj:j<(l.takeWhile (fun y=>decide (y=x))).length:= by omega
      rw[List.getElem?_cons_succ,List.getElem?_cons_zero]
      exact FK l j hj
theorem LK {s:Bs} {k:Nat} {x:UInt8} (h0:s[k]? =some x) (h:VO (s.drop k)<3):lit (s.drop k)=1+lit (s.drop (k+1)):= by
  obtain⟨hk,hx⟩:=XL h0
  rw[List.drop_eq_getElem_cons hk]at h⊢
  rw[lit,if_pos h]
theorem LJ {l:Bs} (h:l=[]∨3≤VO l):lit l=0:= by
  cases l with
  | nil=>rfl
  | cons x l=>
    rcases h with h | h
    · cases h
    · rw[lit,if_neg (by omega)]
def Ty:Nat→Bs→List (Bs×Bool)
  | 0,_=>[]
  | f+1,l=> if l=[]then[]else(l.take (WL l),decide (3≤VO l))::Ty f (l.drop (WL l))
theorem D4: ∀(f g:Nat) (l:Bs),l.length≤f→l.length≤g→Ty f l=Ty g l
  | 0,g,l,h,_=> by
    have hl:l=[]:=List.length_eq_zero_iff.1 (by omega)
    subst hl
    cases g with
    | zero=>rfl
    | succ g=> simp [Ty]
  | f+1,0,l,_,h=> by
    have hl:l=[]:=List.length_eq_zero_iff.1 (by omega)
    subst hl
    simp [Ty]
  | f+1,g+1,l,h1,h2=> by
    unfold Ty
    split
    · rfl
    · rename_i hl
      have :=VE hl
      rw[D4 f g _ (by rw[List.length_drop];omega) (by rw[List.length_drop];omega)]
def RO (l:Bs):List (Bs×Bool):=Ty l.length l
theorem Mp:RO []=[]:=rfl
theorem Kn {l:Bs} (h:l≠[]):RO l=(l.take (WL l),decide (3≤VO l))::RO (l.drop (WL l)):= by
  unfold RO
  have hp:=VE h
  have hl:1≤l.length:= by cases l with | nil=> exact absurd U h | cons=> simp
  obtain⟨m,hm⟩: ∃m,l.length=m+1:=⟨l.length -1, by omega⟩
  rw[hm,Ty,if_neg h,D4 m (l.drop (WL l)).length _ (by rw[List.length_drop];omega) (Nat.le_refl _)]
def Bz (x:Bs×Bool):Bs:= if x.2=true then[UInt8.ofNat (128+x.1.length),x.1.headD 0]else UInt8.ofNat x.1.length::x.1
def Zu (l:List (Bs×Bool)):Bs:=l.flatMap Bz
def H4 (p:Bs):Option Bs:= if(Zu (RO p)).length≤47 then some (Zu (RO p))else none
def okP (x:Bs×Bool):Prop:=1≤x.1.length∧x.1.length≤64∧(x.2=true→ ∀j,j<x.1.length→x.1[j]? =x.1[0]?)
theorem Lt: ∀(n:Nat) (l:Bs),l.length≤n→n≤64→(∀x∈RO l,okP x)∧(RO l).flatMap (·.1)=l
  | 0,l,h,_=> by
    have hl:l=[]:=List.length_eq_zero_iff.1 (by omega)
    subst hl; simp [Mp]
  | n+1,l,h,h64=> by
    by_cases hl:l=[]
    · subst hl; simp [Mp]
    · have hp:=VE hl
      have hle:=S6 l
      obtain⟨h1,h2⟩:=Lt n (l.drop (WL l)) (by rw[List.length_drop];omega) (by omega)
      rw[Kn hl]
      refine⟨?_, ?_⟩
      · intro x hx
        rcases List.mem_cons.1 hx with rfl | hx
        · refine⟨by simp;omega, by simp;omega, ?_⟩
          intro hd j hj
          simp only[decide_eq_true_eq]at hd
          have hpn:WL l=VO l:= by unfold WL; rw[if_pos hd]
          simp only[List.length_take]at hj
          simp only[List.getElem?_take]
          rw[if_pos (by omega),if_pos (by omega)]
          exact eqN_all (by omega)
        · exact h1 x hx
      · rw[List.flatMap_cons,h2]; exact List.take_append_drop _ _
theorem El (x:Bs×Bool):1≤(Bz x).length:= by unfold Bz;split<;> simp
theorem Em {x:Bs×Bool} (h:okP x):(Bz x).length≤65:= by
  obtain⟨_,h2,_⟩:=h
  unfold Bz;split<;> simp;omega
theorem Hj (a b:List (Bs×Bool)):Zu (a++b)=Zu a++Zu b:=List.flatMap_append
theorem By: ∀{l:List (Bs×Bool)},(∀x∈l,okP x)→(Zu l).length≤65*l.length
  | [],_=> by simp [Zu]
  | x::l,h=> by
    have h1:=Em (h x (by simp))
    have h2:=By (l:=l) (fun y hy=>h y (by simp [hy]))
    unfold Zu at h2⊢
    rw[List.flatMap_cons,List.length_append,List.length_cons];omega
theorem Bd {p f:Bs} (h:H4 p=some f):f.length≤47∧f=Zu (RO p):= by
  unfold H4 at h
  split at h
  · rename_i h1; cases h; exact⟨h1,rfl⟩
  · cases h
theorem run_eq {s:Bs} (h: ∀j,j<s.length→s[j]? =s[0]?) (h1:1≤s.length):s=List.replicate s.length (s.headD 0):= by
  apply List.ext_getElem?
  intro j
  by_cases hj:j<s.length
  · rw[h j hj,List.getElem?_replicate,if_pos hj]
    cases s with
    | nil=> simp at h1
    | cons x s=>rfl
  · rw[List.getElem?_eq_none (by omega),List.getElem?_eq_none (by simp;omega)]
theorem Pf: ∀(l:List (Bs×Bool)),(∀x∈l,okP x)→l.length≤(l.flatMap (·.1)).length
  | [],_=> by simp
  | x::l,h=> by
    have h1:=Pf l (fun y hy=>h y (List.mem_cons_of_mem _ hy))
    have h2:=(h x (by simp)).1
    rw[List.flatMap_cons,List.length_append,List.length_cons];omega
theorem D3 {p:Bs} (hp:p.length≤64):(∀x∈RO p,okP x)∧(RO p).flatMap (·.1)=p∧(RO p).length≤64:= by
  obtain⟨h1,h2⟩:=Lt p.length p (Nat.le_refl _) hp
  have :=Pf _ h1
  rw[h2]at this
  exact⟨h1,h2, by omega⟩
def bldZ (b:Nat) (bs:Bs):Th:=CH fun q:Value×Value=>starL [Jn 196 b [q.1,q.2],KG 5 q.2 bs]
theorem bldZ_of {w:World} {b:Nat} {bs:Bs} {As:List Th} (h:Sat w (Vp b bs::As)):Sat w (bldZ b bs::As):= by
  obtain⟨p,v,_,h1⟩:=HI h
  have h2:=(h1.pull 1 U).bufZ_of; dsimp only[List.eraseIdx]at h2
  exact Sat.ex_intro (f:= fun q:Value×Value=>starL [Jn 196 b [q.1,q.2],KG 5 q.2 bs]) (p,v) (Sat.fold (As:=[Jn 196 b [p,v],KG 5 v bs]) (h2.perm (List.Perm.swap _ _ _)))
theorem bl_len {w:World} {b:Nat} {bs:Bs} {F:Th} (hS:Sat w [Vp b bs,F]):
    Calls prog 161 #[ptrV b 0] w (Ret fun v w'=>v=intV (bs.length:Int)∧Sat w' [Vp b bs,F]):= by
 obtain⟨p,v,hp,hS⟩:=HI hS
 obtain⟨ao,cap,rfl,h1v,hq⟩:=hS.bufv 1 rfl
 refine Qn func161 U ntmps161 U ?_
 exact Qe (Qa (Qd U U (Qf (Qc (Qe (Qa (Qb U U (Qi U U (Qg U JW U (Qo U Uh (hS.tcell 0 U (o:=1) U) U (XB underlying176 U U (Qd U U (Qf (Qc (Qv (QR (.inr U) U U (⟨_,U,U,HH hp hS⟩)))))))))))))))))
theorem BA {w:World} {b:Nat} {bs:Bs} {F:Th} (hS:Sat w [bldZ b bs,F]) (hl:bs.length≤70368744177663):
    Calls prog 124 #[ptrV b 0] w (Ret fun v w'=>v=strV bs∧Sat w' [bldZ b bs,F]):= by
 obtain⟨⟨p,v⟩,hS⟩:=hS.ex
 replace hS:=hS.flat; dsimp only[RX,RW]at hS
 obtain⟨ao,cap,rfl,h1v,hao⟩:=hS.bufZv 1 rfl
 refine Qn func124 U ntmps124 U ?_
 refine Qe (Qa (Qd U U (Qf (Qc (Qe ?_)))))
 have j1:=hS.drew
 refine QH [0,1,2,3,5,6,7,8,9,4,10,11] [4,10] ZW (by kernel_rfl) ?_
 refine QJ U U U (Xd U U U (QP U U U JW (Q3 U U U (Qm U Uh (j1.tcell 0 U (o:=1) U)) (QJ U U U (Xd U U U (QP U U U JW (Q3 U U U (Qm U Uh (j1.tcell 0 U (o:=1) U)) (Xh U U U (fun _=>(UZ underlying176 U)) ?_))))))))
 refine Xl U U U U U U ?_
 refine Kb U hao U (XH (.cons (.inl ⟨rfl,(Qm U Uh (j1.tcell 0 U (o:=1) U))⟩) (Xq (by kernel_rfl))) ?_)
 refine Xl U U U U U U ?_
 refine KU 1 j1 U U U underlying223 PN (by omega) U ?_
 intro w2 j2
 refine XH (Xq (by kernel_rfl)) ?_
 exact Zo U U U (VC.nil (Qc (Qh [2] U (Qv (QR (.inr U) U U (⟨_,rfl,rfl,Sat.ex_intro (f:= fun q:Value×Value=>starL [Jn 196 b [q.1,q.2],KG 5 q.2 bs]) (p,.slice ao bs.length cap) (Sat.fold (As:=[Jn 196 b [p,_],KG 5 _ bs]) j2)⟩))))))
theorem DN {w:World} {F:Th} (hS:Sat w [F]) (s:Bs) (k:Nat) (hk:k<s.length) (hl:s.length≤1000):
    Calls prog 188 #[strV s,intV (k:Int)] w (Ret fun v w'=>v=intV (VO (s.drop k):Nat)∧Sat w' [F]):= by
 obtain⟨x,h0⟩: ∃x,s[k]? =some x:=⟨_,Zd hk⟩
 refine Qn func188 U ntmps188 U ?_
 refine Qe (Qa (Qd U U (Qf (Qc (Qe (Qa (Qd U U (Qf (Qc (Qe (Qw ?_)))))))))))
 refine Xe (fun K0 E0 W0=> ∃(n:Nat),K0=s.length -k -n∧E0=[(0,strV s),(1,intV (k:Int)),(5,intV (n:Int))]∧Sat W0 [F]∧(1≤n)∧(k+n≤s.length)∧(∀j,j<n→s[k+j]? =some x)) (L0:=[(0,_),(1,_),(5,_)]) (s.length -k -1) (CK U U U) ⟨1,rfl,rfl,hS,Nat.le_refl _, by omega, fun j hj=> by rw[show k+j=k by omega]; exact h0⟩ ?_
 rintro _ _ w1 ⟨n,rfl,rfl,j1,hn,hle,he⟩
 refine Qe (Qe ?_)
 have j2:=j1.drew
 refine QH [0,1,2,3,4,5,6,7,8,9,10,11,12,13,14,15,16] [] ZW (by kernel_rfl) ?_
 refine QJ U U U (QJ U U U (Xh U U U (fun _=>(VN U U (by omega) (by omega))) ?_))
 refine QJ U U U (Xh U U U (fun _=>(Gr underlying9 U)) ?_)
 refine Xh U U U (fun _=>(M2 U U)) ?_
 refine QJ U U U (YN 12 U (fun h3=> ?_) (fun h3=> ?_))
 ·obtain⟨y,hy⟩: ∃y,s[k+n]? =some y:=⟨_,Zd (by omega)⟩
  refine Xh U U (Q4 U U (det h3)) (fun _=>(Ev.gd (Xk U))) ?_
  refine Xh U U (Q4 U U (det h3)) (fun _=>(Ev.gd (Xk U))) ?_
  refine Xh U U (Q4 U U (det h3)) (fun _=>(Ev.gd (Xk U))) ?_
  refine Xh U U (Q4 U U (det h3)) (fun _=>(Ev.gd (VN U U (by omega) (by omega)))) ?_
  refine Q3 U U (Q4 U U (det h3)) (Ev.gd (HE (k+n) underlying9 U U (by omega) hy)) ?_
  refine Xh U U (Q4 U U (det h3)) (fun _=>(Ev.gd (Xk U))) ?_
  refine Xh U U (Q4 U U (det h3)) (fun _=>(Ev.gd (Xk U))) ?_
  refine Q3 U U (Q4 U U (det h3)) (Ev.gd (HE k underlying9 U U U h0)) (Xh U U (Q4 U U (det h3)) (fun _=>(Ev.gd (M5 U U))) ?_)
  refine Xh U U U (fun _=>(HD U (det h3) U)) ?_
  refine VC.nil (Qc (Qh [5,1,0,22] U (Qt U (fun h4=> ?_) (fun h4=> ?_))))
  ·have hyx:y=x:=UInt8.toNat_inj.1 (by have :=h4;omega)
   refine Qs (Qc (Qw (Qa (Qb U U (QK U U (by omega) (by omega) U ?_)))))
   refine Qd U U (Qf (Ql ?_))
   exact Q5 (L1:=[(0,_),(1,_),(5,intV ((n+1:Nat):Int))]) (CK U U U) (k1:=s.length -k -(n+1)) (by omega) ⟨n+1,rfl,rfl,j2.pick [0] U, by omega, by omega, fun j hj=> by by_cases e:j=n;(subst e; rw[hy,hyx]); exact he j (by omega)⟩
  have hyx:y≠x:= fun q=>h4 (by rw[q])
  exact QT (Qq (Qq (Qy (Qc (Qe (Qa (Qb U U (Qd U U (Qf (Qc (Qv (QR (.inr U) U U (⟨_,rfl, by rw[Ek h0 hn hle he (.inr ⟨y,hy,hyx⟩)],j2.pick [0] U⟩)))))))))))))
 refine X7 U U (QY U U (QF h3)) (X7 U U (QY U U (QF h3)) (X7 U U (QY U U (QF h3)) (X7 U U (QY U U (QF h3)) (X7 U U (QY U U (QF h3)) (X7 U U (QY U U (QF h3)) (X7 U U (QY U U (QF h3)) (X7 U U (QY U U (QF h3)) (X7 U U (QY U U (QF h3)) (Xh U U U (fun _=>(ZZ U (QF h3) U)) ?_)))))))))
 exact VC.nil (Qc (Qh [5,1,0,22] U (QL U (QT (Qq (Qq (Qy (Qc (Qe (Qa (Qb U U (Qd U U (Qf (Qc (Qv (QR (.inr U) U U (⟨_,rfl, by rw[Ek h0 hn hle he (.inl (by omega))],j2.pick [0] U⟩)))))))))))))))))
def okPc (p:Bs) (ks:List (Bs×Bool)) (k:Bs×Bool):Prop:= ∃rest,RO p=ks++k::rest
def YieldsP (P:Program) (l:Nat) (ok:List (Bs×Bool)→Bs×Bool→Prop) (J:List (Bs×Bool)→Th):Prop:=
  ∀(ks:List (Bs×Bool)) (k:Bs×Bool) (R:Th) (w:World),ok ks k→Sat w [J ks,R]→YieldAt Fence.wide 0 P l #[strV k.1,.bool k.2] w (fun e w'=>e= .returned (.bool true)∧Sat w' [J (ks++[k]),R])
theorem TC {s:Bs} {k:Nat} (h:k=s.length∨3≤VO (s.drop k)):lit (s.drop k)=0:=LJ (by rcases h with h | h; exact .inl (by rw[h,List.drop_length]); exact .inr h)
theorem pcs_it {w:World} {l c:Nat} {page:Bs} {J:List (Bs×Bool)→Th} {F:Th} (hpl:page.length≤1000) (hS:Sat w [J [],QE c [strV page],F]) (hY:YieldsP prog l (okPc page) J):
    Calls prog 187 #[.func (.yield l) #[] #[],ptrV c 0] w (Ret fun v w'=>Sat w' [J (RO page),QE c [strV page],F]):= by
 refine Qn func187 U ntmps187 U ?_
 refine Qe (Qa (Qd U U (Qf (Qc (Qw ?_)))))
 refine Xe (fun K0 E0 W0=> ∃(ks:List (Bs×Bool)) (a:Nat),K0=page.length -a∧E0=[(0,.func (.yield l) #[] #[]),(1,ptrV c 0),(3,intV (a:Int))]∧Sat W0 [J ks,QE c [strV page],F]∧(RO page=ks++RO (page.drop a))∧(a≤page.length)) (L0:=[(0,_),(1,_),(3,_)]) (page.length -0) (CK U U U) ⟨[],0,rfl,rfl,hS, by simp, by omega⟩ ?_
 rintro _ _ w1 ⟨ks,a,rfl,rfl,j1,hks,hal⟩
 refine Qe (Qe (Qa (Qb U U (Qo U Yd (by first | assumption | exact j1.cell 1 U U) U ?_))))
 refine WO underlying9 U U (Xn U U U (Qf (Qc (Qt U (fun h2=> ?_) (fun h2=> ?_)))))
 ·have he1:=P3 (l:=page.drop a) (fun q=> by have :=congrArg List.length q; rw[List.length_drop]at this; simp at this;omega)
  have he2:a+VO (page.drop a)≤page.length:= by have :=Ej (page.drop a); rw[List.length_drop]at this;omega
  refine Qs (Qc (Qw (Qe (Qa (Qo U Yd (by first | assumption | exact j1.cell 1 U U) U ?_)))))
  refine Qb U U (Q0 PA U (DN (j1.sp [] U) page (a) (by omega) hpl) U ?_)
  rintro _ w3 ⟨rfl,j3⟩
  replace j3:=j3.jn U U
  refine Qd U U (Qd U U (Qf (Qc (Qh [3,1,0,4,5] U (Qe (Qe (Qa (Qb U U (Xn U U U (Qf (Qc (Qt U (fun h4=> ?_) (fun h4=> ?_)))))))))))))
  ·refine Qe (Qa (Qd U U (Qf (Qc (Qw (Xe (fun K0 E0 W0=> ∃(m:Nat),K0=page.length -a -m∧E0=[(0,.func (.yield l) #[] #[]),(1,ptrV c 0),(3,intV (a:Int)),(4,intV (m:Int)),(5,.bool false)]∧Sat W0 [J ks,QE c [strV page],F]∧(1≤m)∧(a+m≤page.length)∧(VO (page.drop a)+lit (page.drop (a+VO (page.drop a)))=m+lit (page.drop (a+m)))) (L0:=[(0,_),(1,_),(3,_),(4,_),(5,_)]) (page.length -a -VO (page.drop a)) (Ym U U U U U) ⟨VO (page.drop a),rfl,rfl,j3,he1,he2,rfl⟩ ?_))))))
   rintro _ _ w5 ⟨m,rfl,rfl,j5,hm1,hm2,hm3⟩
   refine Qe (Qe (Qa (Qb U U (Qb U U (QK U U (by omega) (by omega) U ?_)))))
   refine Qo U Yd (by first | assumption | exact j5.cell 1 U U) U ?_
   refine WO underlying9 U U (Xn U U U (Qb U U (QZ 21 U (fun h6=> ?_) (fun h6=> ?_))))
   ·refine Qj U U (det h6) (Qo U Yd (by first | assumption | exact j5.cell 1 U U) U ?_)
    refine Qj U U (det h6) (Qb U U (Qj U U (det h6) (Qb U U (Qj U U (det h6) (QK U U (by omega) (by omega) U ?_)))))
    refine Qj U U (det h6) (Q0 PA U (DN (j5.sp [] U) page (a+m) (by omega) hpl) U ?_)
    rintro _ w7 ⟨rfl,j7⟩
    replace j7:=j7.jn U U
    refine Qj U U (det h6) (Xn U U U (QN U (det h6) U U (Qf (Qc (Qh [5,4,3,1,0,28] U (Qt U (fun h8=> ?_) (fun h8=> ?_)))))))
    ·refine Qs (Qc (Qw (Qa (Qb U U (QK U U (by omega) (by omega) U ?_)))))
     refine Qd U U (Qf (Ql ?_))
     exact Q5 (L1:=[(0,_),(1,_),(3,_),(4,intV ((m+1:Nat):Int)),(5,_)]) (Ym U U U U U) (k1:=page.length -a -(m+1)) (by omega) ⟨m+1,rfl,rfl,j7.pick [0,1,2] U, by omega, by omega, by rw[hm3,LK (Zd (by omega)) (by omega), show a+(m+1)=a+m+1 by omega];omega⟩
    refine QT (Qq (Qq (Qy (Qc (Qe (Qe ?_))))))
    have hm:WL (page.drop a)=m:= by unfold WL; rw[if_neg (by omega),List.drop_drop]; have :=TC (s:=page) (k:=a+m) (.inr (by omega));omega
    have hbb:decide (3≤VO (page.drop a))=false:= by exact QF (by omega)
    have hpc:RO page=ks++((page.take (a+m)).drop a,false)::RO (page.drop (a+m)):= by rw[hks,Kn (l:=page.drop a) (fun q=> by have :=congrArg List.length q; rw[List.length_drop]at this; simp at this;omega),List.drop_drop,hm,hbb,List.drop_take, show a+m -a=m by omega]
    have hSy:=j7.sp [0] U
    refine WB (Xu U (Xk U) (Xu U (Qm U Yd (j7.cell 1 U U)) (Xu U (Xk U) (Xu U (Xk U) (Xu U (Xk U) (Xu U (VN U U (by omega) (by omega)) ?_))))))
    refine Xu U (UY a (a+m) underlying9 U (RV a _ U U) (RV (a+m) _ U (by omega)) (by omega) (by omega)) ?_
    refine Xu U (Xk U) (V6 U U U U (hY ks ((page.take (a+m)).drop a,false) _ _ ⟨_,hpc⟩ hSy) ?_)
    intro w5 j5; replace j5:=j5.jn U U
    refine Xu U (Hi U) (Y5 (Qc (Qh [4,3,1,0,40] U (QL U (Qs (Qc (Qa (Qb U U (Qb U U (QK U U (by omega) (by omega) U ?_))))))))))
    refine Qd U U (Qf (Ql ?_))
    exact Q5 (L1:=[(0,_),(1,_),(3,intV ((a+m:Nat):Int))]) (CK U U U) (k1:=page.length -(a+m)) (by omega) ⟨_,a+m,rfl,rfl,j5.pick [0,1,2] U, by rw[hpc,List.append_assoc];rfl, by omega⟩
   refine Qk U U (QF h6) U (Qk U U (QF h6) U (Qk U U (QF h6) U (Qk U U (QF h6) U (Qk U U (QF h6) U (Qk U U (QF h6) U (QC U (QF h6) U U (Qf (Qc (Qh [5,4,3,1,0,28] U (QL U (QT (Qq (Qq (Qy (Qc (Qe (Qe ?_)))))))))))))))))
   have hm:WL (page.drop a)=m:= by unfold WL; rw[if_neg (by omega),List.drop_drop]; have :=TC (s:=page) (k:=a+m) (.inl (by omega));omega
   have hbb:decide (3≤VO (page.drop a))=false:= by exact QF (by omega)
   have hpc:RO page=ks++((page.take (a+m)).drop a,false)::RO (page.drop (a+m)):= by rw[hks,Kn (l:=page.drop a) (fun q=> by have :=congrArg List.length q; rw[List.length_drop]at this; simp at this;omega),List.drop_drop,hm,hbb,List.drop_take, show a+m -a=m by omega]
   have hSy:=j5.sp [0] U
   refine WB (Xu U (Xk U) (Xu U (Qm U Yd (j5.cell 1 U U)) (Xu U (Xk U) (Xu U (Xk U) (Xu U (Xk U) (Xu U (VN U U (by omega) (by omega)) ?_))))))
   refine Xu U (UY a (a+m) underlying9 U (RV a _ U U) (RV (a+m) _ U (by omega)) (by omega) (by omega)) ?_
   refine Xu U (Xk U) (V6 U U U U (hY ks ((page.take (a+m)).drop a,false) _ _ ⟨_,hpc⟩ hSy) ?_)
   intro w5 j5; replace j5:=j5.jn U U
   refine Xu U (Hi U) (Y5 (Qc (Qh [4,3,1,0,40] U (QL U (Qs (Qc (Qa (Qb U U (Qb U U (QK U U (by omega) (by omega) U ?_))))))))))
   refine Qd U U (Qf (Ql ?_))
   exact Q5 (L1:=[(0,_),(1,_),(3,intV ((a+m:Nat):Int))]) (CK U U U) (k1:=page.length -(a+m)) (by omega) ⟨_,a+m,rfl,rfl,j5.pick [0,1,2] U, by rw[hpc,List.append_assoc];rfl, by omega⟩
  refine Qs (Qc (Qe (Qe ?_)))
  obtain⟨m,hm0⟩: ∃m,m=VO (page.drop a):=⟨_,rfl⟩
  have hm:WL (page.drop a)=m:= by unfold WL; rw[if_pos (by omega),hm0]
  have hbb:decide (3≤VO (page.drop a))=true:= by exact det (by omega)
  rw[←hm0]
  have hpc:RO page=ks++((page.take (a+m)).drop a,true)::RO (page.drop (a+m)):= by rw[hks,Kn (l:=page.drop a) (fun q=> by have :=congrArg List.length q; rw[List.length_drop]at this; simp at this;omega),List.drop_drop,hm,hbb,List.drop_take, show a+m -a=m by omega]
  have hSy:=j3.sp [0] U
  refine WB (Xu U (Xk U) (Xu U (Qm U Yd (j3.cell 1 U U)) (Xu U (Xk U) (Xu U (Xk U) (Xu U (Xk U) (Xu U (VN U U (by omega) (by omega)) ?_))))))
  refine Xu U (UY a (a+m) underlying9 U (RV a _ U U) (RV (a+m) _ U (by omega)) (by omega) (by omega)) ?_
  refine Xu U (Xk U) (V6 U U U U (hY ks ((page.take (a+m)).drop a,true) _ _ ⟨_,hpc⟩ hSy) ?_)
  intro w5 j5; replace j5:=j5.jn U U
  refine Xu U (Hi U) (Y5 (Qc (Qh [3,1,0,4,40] U (QL U (Qs (Qc (Qa (Qb U U (Qb U U (QK U U (by omega) (by omega) U ?_))))))))))
  refine Qd U U (Qf (Ql ?_))
  exact Q5 (L1:=[(0,_),(1,_),(3,intV ((a+m:Nat):Int))]) (CK U U U) (k1:=page.length -(a+m)) (by omega) ⟨_,a+m,rfl,rfl,j5.pick [0,1,2] U, by rw[hpc,List.append_assoc];rfl, by omega⟩
 refine QT (Qq (Qq (Qy (ZP (.inl U) U ?_))))
 exact⟨_,rfl, by rw[show a=page.length by omega,List.drop_length,Mp,List.append_nil]at hks; rw[hks]; exact j1⟩
theorem pcs_sp {w:World} {page:Bs} {F:Th} (hS:Sat w [F]):
    Calls prog 160 #[strV page] w (Ret fun v w'=> ∃c,v= .func (.func 187) #[] #[ptrV c 0]∧Sat w' [QE c [strV page],F]):= by
 refine Qn func160 U ntmps160 U ?_
 refine Qe (Qa (XV hS U U U ?_))
 intro b1 w1 j1
 exact Qd U U (Qf (Qc (Qe (Qa (Zv U U (Qd U U (Qf (Qc (Qv (QR (.inr U) U U (⟨_,U,_,U,j1⟩)))))))))))
def Pg (o:Option Bs):Value:= .tuple #[strV (o.getD []),.bool o.isSome]
def Jp (l D b:Nat) (rec:Loop) (ks:List (Bs×Bool)):Th:=starL [WQ l rec,Wa D,Vp b (Zu ks)]
theorem Mq {w:World} {F:Th} (hS:Sat w [F]) (page:Bs) (hp:page.length=64):
    Calls prog 123 #[strV page] w (Ret fun v w'=>v=Pg (H4 page)∧Sat w' [F]):= by
 obtain⟨hpo,hpf,hpl⟩:=D3 (p:=page) (by omega)
 have heL:=By hpo
 refine YE func123 U ntmps123 U ?_
 refine Qe (Qa (Qd U U (Qd U U (Qf (Qc (Qe (Qe (Qa (Qb U U (WO underlying9 U U (Xp U U U (Qf (Qc (Qt U (fun h1=> ?_) (fun h1=> ?_)))))))))))))))
 ·exact absurd h1 (by simp;omega)
 refine Qs (Qc (Qe (Qa (Da hS F8 (cs:=[.pointer none,.slice none 0 0]) U U ?_))))
 intro bb wB hSB
 have hSC:=HH (.inl U) ((Cs hSB).perm (List.Perm.swap _ _ _))
 refine Qf (Qc (Qe (Qe (Qa (Qb U U (Q0 cal_160 U (pcs_sp (hSC.sp [] U) (page:=page)) U ?_))))))
 rintro _ w2 ⟨c,rfl,j2⟩
 replace j2:=j2.jn U U
 clear hSC
 refine Qf (Qc (Qw (Y6 (caps:=[ptrV c 0]) U cal_187 ?_)))
 intro rec hr1 hr2 hr3 hr4 hr5 htn htf
 have hE:=j2.enter_loop rec
 have hE2:=hE.pick [0,1,3,2,4] U
 have hE3:=Sat.fold (As:=[WQ _ rec,Wa _,Vp _ (Zu [])]) hE2
 refine(pcs_it (J:=Jp _ _ bb rec) (by omega) hE3 ?_).mono ?_
 rotate_left
 ·rintro e w3 ⟨v0,rfl,hw3⟩
  have hw4:=hw3.flat; dsimp only[RX,RW]at hw4
  refine⟨⟨v0,rfl⟩,rec,hw4.loop 0 U, by rw[hr1]; simp,hr2, ?_⟩
  intro a0 ha1 ha2
  have hw5:=hw4.loop_put 0 U (rec':={rec with state:= .exhausted}); dsimp only[List.set]at hw5
  refine qsD_app (n:=32) ha2 (by rw[ha1]; exact htn) (by rw[ha1]; exact htf) ?_
  refine Rk (XA (XN (XN (XE ?_))))
  have hC3:=hw5.sp [2] U
  refine Q0 cal_161 U (bl_len hC3) U ?_
  rintro _ w3 ⟨rfl,j3⟩
  replace j3:=j3.jn U U; clear hC3
  clear hw5
  refine J6 U U U (Qf (Z2 (XA (WC (L':=[(30,_),(4,_),(3,_),(2,_)]) (Vj U U U U) (Se U (fun h4=> ?_) (fun h4=> ?_))))))
  ·refine XN (XE (Qd U U (Qd U U (Qf (Z2 (XA (Hq (HY ?_))))))))
   obtain⟨hD,hZ⟩:=j3.defer_put (o:= .deferred none) 2 rfl
   dsimp only[List.eraseIdx]at hZ
   refine finM (.inr U) hD (res2 U U U) ?_
   exact⟨_,rfl, by unfold H4; rw[if_neg (by omega)];rfl,hZ.pick [3] U⟩
  refine Ur (XA (XN (XE (Q0 MJ U (Fk (j3.sp [0] U) (by omega)) U ?_))))
  rintro _ w5 ⟨rfl,j5⟩
  replace j5:=j5.jn U U
  refine Qd U U (Qd U U (Qf (Z2 (XA (Hq ?_)))))
  obtain⟨hD,hZ⟩:=j5.defer_put (o:= .deferred none) 1 rfl
  dsimp only[List.eraseIdx]at hZ
  refine finM (.inr U) hD (res2 U U U) ?_
  exact⟨_,rfl, by unfold H4; rw[if_pos (by omega)];rfl,hZ.pick [2] U⟩
 intro ks k R w2 hok hw2
 have hw4:=hw2.flat; dsimp only[Jp,RX,RW]at hw4
 have hw6:=hw4
 obtain⟨rest,hrest⟩:=hok
 have hok1:okP k:=hpo _ (by rw[hrest]; simp)
 have hkl:ks.length≤64:= by have :=congrArg List.length hrest; simp at this;omega
 have hel:=By (l:=ks) (fun y hy=>hpo _ (by rw[hrest]; simp [hy]))
 obtain⟨hk1,hk2,hk3⟩:=hok1
 refine yieldG (hw6.loop 0 U) hr1 hr2 hr3 hr4 hr5 htn htf U U (Ga ?_)
 refine J7 (by rintro⟨_,_,q⟩; exact q) rfl ?_
 refine Qd U U (Qf (Gd (Md (L':=[(5,_),(13,_),(4,_),(3,_),(2,_)]) (Ym U U U U U) ?_)))
 refine J7 (by rintro⟨_,_,q⟩; exact q) rfl ?_
 refine Qd U U (Qf (Sw (hw6.loop 0 U) hr1 ?_))
 have hw7:=hw6.loop_put 0 U (rec':={rec with state:= .busy}); dsimp only[List.set]at hw7
 refine Sd (Ga ?_)
 refine J7 (by rintro⟨_,_,q⟩; exact q) rfl ?_
 refine Qb U U (Qf (Gd (FE U (fun h6=> ?_) (fun h6=> ?_))))
 ·have hkT:k.2=true:=h6
  refine Ga ?_
  refine J7 (by rintro⟨_,_,q⟩; exact q) rfl ?_
  refine Qb U U (WO underlying9 U U (QK U U (by omega) (by omega) U ?_))
  refine R4 (128+k.1.length) underlying3 underlying5 U (by first | rfl | omega) U ?_
  have hC7:=hw7.sp [2] U
  refine Q0 Gx U (YF hC7 (UInt8.ofNat (128+k.1.length)) (by omega)) U ?_
  rintro _ w7 ⟨rfl,j7⟩
  replace j7:=j7.jn U U; clear hC7
  clear hw7
  refine Qf (Gd (Md (L':=[(5,_),(4,_),(3,_),(2,_)]) (Vj U U U U) ?_))
  refine J7 (by rintro⟨_,_,q⟩; exact q) rfl ?_
  refine Qb U U ?_
  refine YL (c:=k.1.headD 0) 0 underlying9 U U U (by rw[←List.head?_eq_getElem?]; cases hq:k.1 with | nil=> rw[hq]at hk1; simp at hk1 | cons x l=>rfl) U ?_
  refine Q0 Gx U (YF (j7.sp [0] U) (k.1.headD 0) (by simp;omega)) U ?_
  rintro _ w8 ⟨rfl,j8⟩
  replace j8:=j8.jn U U
  refine Qf (H3 (Pc (j8.loop 1 U) hr1 hr2 ?_))
  have hw9:=j8.loop_put 1 U (rec':=rec); dsimp only[List.set]at hw9
  have hek:Zu (ks++[k])=Zu ks++[UInt8.ofNat (128+k.1.length)]++[k.1.headD 0]:= by rw[Hj]; simp only[Zu,List.flatMap_cons,List.flatMap_nil,List.append_nil]; rw[Bz,if_pos hkT]; simp
  refine Sat.fold (As:=[WQ _ rec,Wa _,Vp _ (Zu (ks++[k]))]) ?_
  rw[hek]; exact hw9.pick [1,2,0,3] U
 have hkF:k.2=false:=h6
 refine Ga ?_
 refine J7 (by rintro⟨_,_,q⟩; exact q) rfl ?_
 refine Qb U U (WO underlying9 U U (R4 k.1.length underlying3 underlying5 U (by first | rfl | omega) U ?_))
 have hC9:=hw7.sp [2] U
 refine Q0 Gx U (YF hC9 (UInt8.ofNat k.1.length) (by omega)) U ?_
 rintro _ w9 ⟨rfl,j9⟩
 replace j9:=j9.jn U U; clear hC9
 clear hw7
 refine Qf (Gd (Md (L':=[(5,_),(4,_),(3,_),(2,_)]) (Vj U U U U) ?_))
 refine J7 (by rintro⟨_,_,q⟩; exact q) rfl ?_
 refine Qb U U ?_
 refine Q0 PI U (UC (j9.sp [0] U) k.1 (by simp;omega)) U ?_
 rintro _ w10 ⟨rfl,j10⟩
 replace j10:=j10.jn U U
 refine Qf (H3 (Pc (j10.loop 1 U) hr1 hr2 ?_))
 have hw9:=j10.loop_put 1 U (rec':=rec); dsimp only[List.set]at hw9
 have hek:Zu (ks++[k])=Zu ks++[UInt8.ofNat k.1.length]++k.1:= by rw[Hj]; simp only[Zu,List.flatMap_cons,List.flatMap_nil,List.append_nil]; rw[Bz,if_neg (by rw[hkF];decide)]; simp
 refine Sat.fold (As:=[WQ _ rec,Wa _,Vp _ (Zu (ks++[k]))]) ?_
 rw[hek]; exact hw9.pick [1,2,0,3] U
theorem NR {dn rest:List (Bs×Bool)} {x:Bs×Bool} (hx:x.2=true):(Zu (dn++x::rest))[(Zu dn).length]? =some (UInt8.ofNat (128+x.1.length))∧(Zu (dn++x::rest))[(Zu dn).length+1]? =some (x.1.headD 0)∧(Zu (dn++[x])).length=(Zu dn).length+2∧(Zu dn).length+2≤(Zu (dn++x::rest)).length:= by
  have e:Zu (dn++x::rest)=Zu dn++(UInt8.ofNat (128+x.1.length)::x.1.headD 0::Zu rest):= by
    rw[Hj]; simp only[Zu,List.flatMap_cons]; rw[Bz,if_pos hx]; simp
  have e2:Zu (dn++[x])=Zu dn++[UInt8.ofNat (128+x.1.length),x.1.headD 0]:= by
    rw[Hj]; simp only[Zu,List.flatMap_cons,List.flatMap_nil]; rw[Bz,if_pos hx]; simp
  rw[e,e2]
  refine⟨by rw[List.getElem?_append_right (by omega)]; simp, by rw[List.getElem?_append_right (by omega)]; simp, by simp, by simp⟩
theorem NS {dn rest:List (Bs×Bool)} {x:Bs×Bool} (hx:x.2=false):(Zu (dn++x::rest))[(Zu dn).length]? =some (UInt8.ofNat x.1.length)∧((Zu (dn++x::rest)).take ((Zu dn).length+1+x.1.length)).drop ((Zu dn).length+1)=x.1∧(Zu (dn++[x])).length=(Zu dn).length+1+x.1.length∧(Zu dn).length+1+x.1.length≤(Zu (dn++x::rest)).length:= by
  have e:Zu (dn++x::rest)=Zu dn++(UInt8.ofNat x.1.length::x.1)++Zu rest:= by
    rw[Hj]; simp only[Zu,List.flatMap_cons]; rw[Bz,if_neg (by rw[hx];decide)]; simp
  have e2:Zu (dn++[x])=Zu dn++(UInt8.ofNat x.1.length::x.1):= by
    rw[Hj]; simp only[Zu,List.flatMap_cons,List.flatMap_nil]; rw[Bz,if_neg (by rw[hx];decide)]; simp
  rw[e,e2]
  refine⟨by rw[List.append_assoc,List.getElem?_append_right (by omega)]; simp, ?_, by simp;omega, by simp;omega⟩
  rw[List.take_append_of_le_length (by simp;omega)]
  rw[List.take_of_length_le (by simp;omega),List.drop_append,List.drop_of_length_le (by omega),List.nil_append, show(Zu dn).length+1 -(Zu dn).length=1 by omega]
  rfl
theorem P7 {dn rest:List (Bs×Bool)} {p:Bs} (h:(dn++rest).flatMap (·.1)=p):(dn.flatMap (·.1)).length≤p.length:= by
  rw[←h,List.flatMap_append,List.length_append];omega
theorem Rb {w:World} {F:Th} (hS:Sat w [F]) {p f:Bs} (hp:p.length=64) (hf:H4 p=some f):
    Calls prog 87 #[strV f] w (Ret fun v w'=>v= .tuple #[strV p,.bool true]∧Sat w' [F]):= by
 obtain⟨hpo,hpf,hpl⟩:=D3 (p:=p) (by omega)
 obtain⟨hf47,hfe⟩:=Bd hf
 refine Qn func87 U ntmps87 U ?_
 refine Qe (Qa (Qd U U (Qd U U (Qf (Qc (Qe (Qe (Qa (Qb U U (WO underlying9 U U (J6 U U U (Qf (Qc (Qt U (fun h1=> ?_) (fun h1=> ?_)))))))))))))))
 ·exact absurd h1 (by omega)
 refine Qs (Qc (Qe (Qa (Da hS F8 (cs:=[.pointer none,.slice none 0 0]) U U ?_))))
 intro bb wB hSB
 have hSC:=HH (.inl U) ((Cs hSB).perm (List.Perm.swap _ _ _))
 refine Qf (Qc (Qe (Qe (Qa (Qd U U (Qf (Qc (Qw (Xe (fun K0 E0 W0=> ∃(dn rest:List (Bs×Bool)),K0=rest.length∧E0=[(0,strV f),(4,ptrV bb 0),(5,intV ((Zu dn).length:Int))]∧Sat W0 [Vp bb (dn.flatMap (·.1)),F]∧(RO p=dn++rest)) (L0:=[(0,_),(4,_),(5,_)]) ((RO p).length) (CK U U U) ⟨[],RO p,rfl,rfl,hSC,rfl⟩ ?_)))))))))
 rintro _ _ w2 ⟨dn,rest,rfl,rfl,j2,hdr⟩
 refine Qe (Qe (Qa (Qb U U (Qb U U (WO underlying9 U U (Xn U U U (Qf (Qc (Qt U (fun h3=> ?_) (fun h3=> ?_))))))))))
 ·obtain⟨x,rest,rfl⟩: ∃x r,rest=x::r:= by cases rest with | nil=>(exfalso; have hh:=h3; rw[hfe,hdr,List.append_nil]at hh;omega) | cons x r=> exact⟨x,r,rfl⟩
  have hxo:okP x:=hpo x (by rw[hdr]; simp)
  obtain⟨hx1,hx2,hx3⟩:=hxo
  obtain⟨c0,hc0,hcn0⟩: ∃c,f[(Zu dn).length]? =some c∧c.toNat= if x.2=true then 128+x.1.length else x.1.length:= by(rw[hfe,hdr]; cases hb:x.2 with | true=> exact⟨_,(NR hb).1, by simp;omega⟩ | false=> exact⟨_,(NS hb).1, by simp;omega⟩)
  refine Qs (Qc (Qw (Qe (Qa (Qb U U (Qb U U (YL ((Zu dn).length) underlying9 U U (by first | rfl | omega) hc0 U ?_)))))))
  refine PZ underlying5 underlying3 U U (Qd U U (Qf (Qc (Qh [5,4,0,6] U (Qe (Qa (Qb U U (QK U U (by omega) (by omega) U ?_))))))))
  refine Qd U U (Qf (Qc (Qw (Qe (Qa (Qb U U (Jr U U U (Qb U U (QZ 25 U (fun h4=> ?_) (fun h4=> ?_))))))))))
  ·have hb:x.2=true:= by cases hb:x.2 with | true=>rfl | false=>(exfalso; rw[hb]at hcn0; simp at hcn0; have :=h4;omega)
   obtain⟨_,hc1,hel,hlf⟩:=NR (dn:=dn) (rest:=rest) hb
   rw[←hdr,←hfe]at hc1 hlf
   have hcn:c0.toNat=128+x.1.length:= by rw[hcn0,if_pos hb]
   replace hx3:=hx3 hb
   refine Qj U U (det h4) (Qb U U (Qj U U (det h4) (Qb U U (Qj U U (det h4) (WO underlying9 U U (Qj U U (det h4) (Xn U U U (QN U (det h4) U U (Qd U U (Qf (Qc (Qh [4,0,6,5,22] U (Qt U (fun h5=> ?_) (fun h5=> ?_))))))))))))))
   ·refine Qe (Qe (Qa (Qb U U (Ka U U (by omega) (by omega) U ?_))))
    refine Qb U U (Qf (Qc (Qw ?_)))
    have hSl:=j2.pick [0,1] U; rw[←List.append_nil (dn.flatMap (·.1))]at hSl
    rw[show c0.toNat=128+x.1.length from hcn]
    have e32:(((128+x.1.length:Nat):Int) -128)=(x.1.length:Int):= by omega
    rw[e32]
    refine Xe (fun K0 E0 W0=> ∃(i:Nat),K0=x.1.length -i∧E0=[(0,strV f),(4,ptrV bb 0),(5,intV (((Zu dn).length+1:Nat):Int)),(32,intV (x.1.length:Int)),(33,intV (i:Int))]∧Sat W0 [Vp bb (dn.flatMap (·.1)++List.replicate i (x.1.headD 0)),F]∧(i≤x.1.length)) (L0:=[(0,_),(4,_),(5,_),(32,_),(33,_)]) (x.1.length -0) (Ym U U U U U) ⟨0,rfl,rfl,hSl, by omega⟩ ?_
    rintro _ _ w6 ⟨i,rfl,rfl,j6,hi⟩
    refine Qe (Qa (Xn U U U (Qf (Qc (Qe (Qt U (fun h7=> ?_) (fun h7=> ?_)))))))
    ·refine Qs (Qc (Qe (Qw (Qa (Qb U U (Qb U U (YL ((Zu dn).length+1) underlying9 U U (by first | rfl | omega) hc1 U ?_)))))))
     refine Q0 Gx U (YF (j6.sp [0] U) (x.1.headD 0) (by have :=P7 (p:=p) (by rw[←hdr]; exact hpf); rw[List.length_append,List.length_replicate];omega)) U ?_
     rintro _ w8 ⟨rfl,j8⟩
     replace j8:=j8.jn U U
     refine Qf (Ql (Qc (Qa (QK U U (by omega) (by omega) U ?_))))
     refine Qb U U (Qf ?_)
     have hSz:=j8.pick [0,1] U; rw[List.append_assoc,←List.replicate_succ']at hSz
     exact Q5 (L1:=[(0,_),(4,_),(5,_),(32,_),(33,intV ((i+1:Nat):Int))]) (Ym U U U U U) (k1:=x.1.length -(i+1)) (by omega) ⟨i+1,rfl,rfl,hSz, by omega⟩
    refine QT (Qq (Qq (Qy (Qc (Qa (Qb U U (QK U U (by omega) (by omega) U ?_)))))))
    refine Qd U U (Qf (Ql (Ql ?_)))
    have hcat:dn.flatMap (·.1)++List.replicate i (x.1.headD 0)=(dn++[x]).flatMap (·.1):= by rw[List.flatMap_append, show i=x.1.length by omega,←run_eq hx3 hx1]; simp
    have hSz:=j6.pick [0,1] U
    rw[hcat]at hSz
    exact Q5 (L1:=[(0,_),(4,_),(5,intV ((Zu (dn++[x])).length:Int))]) (by rw[hel]; exact(CK U U U)) (k1:=rest.length) (by simp) ⟨dn++[x],rest,rfl,rfl,hSz, by rw[hdr,List.append_assoc];rfl⟩
   exact absurd h5 (by omega)
  have hb:x.2=false:= by cases hb:x.2 with | false=>rfl | true=>(exfalso; rw[hb]at hcn0; simp at hcn0; have :=h4;omega)
  obtain⟨_,hsl,hel,hlf⟩:=NS (dn:=dn) (rest:=rest) hb
  rw[←hdr,←hfe]at hsl hlf
  have hcn:c0.toNat=x.1.length:= by rw[hcn0,if_neg (by rw[hb];decide)]
  refine Qk U U (QF h4) U (Qk U U (QF h4) U (Qk U U (QF h4) U (Qk U U (QF h4) U (QC U (QF h4) U U (Qd U U (Qf (Qc (Qh [4,0,6,5,22] U (QL U (Qe (Qa (Qb U U (Xn U U U (Qb U U (QZ 45 U (fun h9=> ?_) (fun h9=> ?_))))))))))))))))
  ·refine Qj U U (det h9) (Qb U U (Qj U U (det h9) (Qb U U (Qj U U (det h9) (QK U U (by omega) (by omega) U ?_)))))
   refine Qj U U (det h9) (Qb U U (Qj U U (det h9) (WO underlying9 U U (Qj U U (det h9) (FC U U U (QN U (det h9) U U (Qd U U (Qf (Qc (Qh [4,0,6,5,42] U (Qt U (fun h10=> ?_) (fun h10=> ?_))))))))))))
   ·refine Qe (Qa (Qb U U (Qb U U (Qb U U (Qb U U (QK U U (by omega) (by omega) U ?_))))))
    refine PV ((Zu dn).length+1) ((Zu dn).length+1+x.1.length) underlying9 U (RV _ _ U (by omega)) (RV _ _ U (by omega)) (by omega) (by omega) U ?_
    rw[hsl]
    refine Q0 PI U (UC (j2.sp [0] U) x.1 (by have :=P7 (p:=p) (by rw[←hdr]; exact hpf);omega)) U ?_
    rintro _ w11 ⟨rfl,j11⟩
    replace j11:=j11.jn U U
    refine Qf (Qc (Qh [4,0,6,5] U (Qa (Qb U U (Qb U U (QK U U (by omega) (by omega) U ?_))))))
    refine Qd U U (Qf (Ql (Ql ?_)))
    have hcat:dn.flatMap (·.1)++x.1=(dn++[x]).flatMap (·.1):= by rw[List.flatMap_append]; simp
    have hSz:=j11.pick [0,1] U
    rw[hcat]at hSz
    exact Q5 (L1:=[(0,_),(4,_),(5,intV ((Zu (dn++[x])).length:Int))]) (by rw[hel,←hcn]; exact(CK U U U)) (k1:=rest.length) (by simp) ⟨dn++[x],rest,rfl,rfl,hSz, by rw[hdr,List.append_assoc];rfl⟩
   exact absurd h10 (by first | omega | simp)
  exact absurd h9 (by omega)
 refine QT (Qq (Qq (Qy (Qc (Qe (Qe ?_))))))
 have hend:rest=[]:= by cases rest with | nil=>rfl | cons x r=>(exfalso; have h1:=El x; have h2:1≤(Zu (x::r)).length:=(by unfold Zu; rw[List.flatMap_cons,List.length_append];omega); have :=congrArg List.length hfe; rw[hdr,Hj,List.length_append]at this;omega)
 subst hend
 rw[List.append_nil]at hdr
 have hSz:=bldZ_of (j2.pick [0,1] U)
 rw[←hdr,hpf]at hSz
 refine Qa (Q0 MJ U (BA (hSz.sp [0] U) (by omega)) U ?_)
 rintro _ w12 ⟨rfl,j12⟩
 replace j12:=j12.jn U U
 clear hSz
 refine Q0 MK U (Mq (j12.sp [] U) p hp) U ?_
 rintro _ w13 ⟨rfl,j13⟩
 replace j13:=j13.jn U U
 rw[hf]
 dsimp only[Pg,Option.getD_some,Option.isSome_some]
 refine Qb U U (Qp U U U (Qp U U U (Qd U U (Qd U U (Qf (Qc (Qh [4,0,7,8] U (Qe (Qa (Qb U U (QU U U (Qb U U (Xw 70 U (fun h14=> ?_) (fun h14=> ?_))))))))))))))
 ·exact absurd h14 (by simp)
 refine Qj U U h14 (Qb U U (Qj U U h14 (Qb U U (Qj U U h14 (DZ U U U (QC U h14 U U (Qf (Qc (Qh [4,74] U (Qt U (fun h15=> ?_) (fun h15=> ?_)))))))))))
 ·exact absurd h15 (by simp)
 refine Qs (Qc (Qe (Qa (Q0 MJ U (BA (j13.sp [0] U) (by omega)) U ?_))))
 rintro _ w16 ⟨rfl,j16⟩
 replace j16:=j16.jn U U
 exact Qd U U (Qd U U (Qf (Qc (Qv (Jm (.inr U) U U U (⟨_,U,U,j16.pick [1] U⟩))))))
