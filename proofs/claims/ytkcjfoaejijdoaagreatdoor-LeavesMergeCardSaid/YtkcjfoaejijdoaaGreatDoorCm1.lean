/- compress: equal, pieces -/
import Derived.Test.YtkcjfoaejijdoaaGreatDoorShelf
import Derived.Test.YtkcjfoaejijdoaaGreatDoorDrs
import Derived.Test.YtkcjfoaejijdoaaGreatDoorFw
set_option linter.unusedVariables false
set_option maxRecDepth 100000
set_option maxHeartbeats 80000000000
namespace Go.Proofs.YtkcjfoaejijdoaaGreatDoor
open Go.RowKit M Proofs.Tryz
def KX:Bs→Nat
  | []=>0
  | x::l=>1+(l.takeWhile (fun y=>decide (y=x))).length
def lit:Bs→Nat
  | []=>0
  | x::l=> if KX (x::l)<3 then 1+lit l else 0
def Jz (l:Bs):Nat:= if 3≤KX l then KX l else KX l+lit (l.drop (KX l))
theorem Ip (l:Bs):KX l≤l.length:= by
  cases l with
  | nil=> simp [KX]
  | cons x l=> have :=(List.takeWhile_sublist (l:=l) (fun y=>decide (y=x))).length_le; simp [KX];omega
theorem Fj {l:Bs} (h:l≠[]):1≤KX l:= by
  cases l with
  | nil=> exact absurd rfl h
  | cons x l=> simp [KX]
theorem OD: ∀l:Bs,lit l≤l.length
  | []=> by simp [lit]
  | x::l=> by
    have :=OD l
    unfold lit
    split
    · simp;omega
    · simp
theorem LK (l:Bs):Jz l≤l.length:= by
  unfold Jz
  have :=Ip l
  have :=OD (l.drop (KX l))
  rw[List.length_drop]at this
  split<;>omega
theorem KN {l:Bs} (h:l≠[]):1≤Jz l:= by
  unfold Jz
  have :=Fj h
  split<;>omega
theorem Kw {x:UInt8}: ∀{l:Bs} {n:Nat},n≤l.length→(∀j,j<n→l[j]? =some x)→(n=l.length∨ ∃y,l[n]? =some y∧y≠x)→(l.takeWhile (fun y=>decide (y=x))).length=n
  | [],n,h,_,_=> by simp at h; subst h;rfl
  | y::l,0,_,_,h=> by
    rcases h with h | ⟨z,h1,h2⟩
    · simp at h
    · simp at h1; subst h1; simp [h2]
  | y::l,n+1,h,h1,h2=> by
    have :=h1 0 (by omega)
    simp at this; subst this
    have :=Kw (x:=y) (l:=l) (n:=n) (by simpa using h) (fun j hj=> by simpa using h1 (j+1) (by omega)) (by simpa using h2)
    simp [this]
theorem Iq {s:Bs} {k n:Nat} {x:UInt8} (h0:s[k]? =some x) (hn:1≤n) (hle:k+n≤s.length) (he: ∀j,j<n→s[k+j]? =some x) (hend:k+n=s.length∨ ∃y,s[k+n]? =some y∧y≠x):KX (s.drop k)=n:= by
  have hk:k<s.length:=(Zb h0).1
  have hx:s[k]=x:=(Zb h0).2
  rw[List.drop_eq_getElem_cons hk,hx]
  rw[KX,Kw (n:=n -1)]
  · omega
  · rw[List.length_drop];omega
  · intro j hj; rw[List.getElem?_drop]; have :=he (j+1) (by omega); rw[show k+1+j=k+(j+1) by omega]; exact this
  · rcases hend with h | ⟨y,h1,h2⟩
    · left; rw[List.length_drop];omega
    · right; refine⟨y, ?_,h2⟩; rw[List.getElem?_drop, show k+1+(n -1)=k+n by omega]; exact h1
theorem EZ {x:UInt8}: ∀(l:Bs) (j:Nat),j<(l.takeWhile (fun y=>decide (y=x))).length→l[j]? =some x
  | [],j,h=> by simp at h
  | y::l,j,h=> by
    by_cases hy:y=x
    · subst hy
      cases j with
      | zero=>rfl
      | succ j=> rw[List.getElem?_cons_succ]; refine EZ l j ?_; simp at h;simpa using h
    · simp [hy]at h
theorem eqN_all {l:Bs} {j:Nat} (h:j<KX l):l[j]? =l[0]? := by
  cases l with
  | nil=> simp
  | cons x l=>
    cases j with
    | zero=>rfl
    | succ j=>
      simp [KX]at h
      have hj:j<(l.takeWhile (fun y=>decide (y=x))).length:= by omega
      rw[List.getElem?_cons_succ,List.getElem?_cons_zero]
      exact EZ l j hj
theorem OC {s:Bs} {k:Nat} {x:UInt8} (h0:s[k]? =some x) (h:KX (s.drop k)<3):lit (s.drop k)=1+lit (s.drop (k+1)):= by
  obtain⟨hk,hx⟩:=Zb h0
  rw[List.drop_eq_getElem_cons hk]at h⊢
  rw[lit,if_pos h]
theorem OB {l:Bs} (h:l=[]∨3≤KX l):lit l=0:= by
  cases l with
  | nil=>rfl
  | cons x l=>
    rcases h with h | h
    · cases h
    · rw[lit,if_neg (by omega)]
def CZ:Nat→Bs→List (Bs×Bool)
  | 0,_=>[]
  | f+1,l=> if l=[]then[]else(l.take (Jz l),decide (3≤KX l))::CZ f (l.drop (Jz l))
theorem ML: ∀(f g:Nat) (l:Bs),l.length≤f→l.length≤g→CZ f l=CZ g l
  | 0,g,l,h,_=> by
    have hl:l=[]:=List.length_eq_zero_iff.1 (by omega)
    subst hl
    cases g with
    | zero=>rfl
    | succ g=> simp [CZ]
  | f+1,0,l,_,h=> by
    have hl:l=[]:=List.length_eq_zero_iff.1 (by omega)
    subst hl
    simp [CZ]
  | f+1,g+1,l,h1,h2=> by
    unfold CZ
    split
    · rfl
    · rename_i hl
      have :=KN hl
      rw[ML f g _ (by rw[List.length_drop];omega) (by rw[List.length_drop];omega)]
def Bu (l:Bs):List (Bs×Bool):=CZ l.length l
theorem T7:Bu []=[]:=rfl
theorem R1 {l:Bs} (h:l≠[]):Bu l=(l.take (Jz l),decide (3≤KX l))::Bu (l.drop (Jz l)):= by
  unfold Bu
  have hp:=KN h
  have hl:1≤l.length:= by cases l with | nil=> exact absurd U h | cons=> simp
  obtain⟨m,hm⟩: ∃m,l.length=m+1:=⟨l.length -1, by omega⟩
  rw[hm,CZ,if_neg h,ML m (l.drop (Jz l)).length _ (by rw[List.length_drop];omega) (Nat.le_refl _)]
def DM (x:Bs×Bool):Bs:= if x.2=true then[UInt8.ofNat (128+x.1.length),x.1.headD 0]else UInt8.ofNat x.1.length::x.1
def ZM (l:List (Bs×Bool)):Bs:=l.flatMap DM
def Ut (p:Bs):Option Bs:= if(ZM (Bu p)).length≤47 then some (ZM (Bu p))else none
def okP (x:Bs×Bool):Prop:=1≤x.1.length∧x.1.length≤64∧(x.2=true→ ∀j,j<x.1.length→x.1[j]? =x.1[0]?)
theorem Od: ∀(n:Nat) (l:Bs),l.length≤n→n≤64→(∀x∈Bu l,okP x)∧(Bu l).flatMap (·.1)=l
  | 0,l,h,_=> by
    have hl:l=[]:=List.length_eq_zero_iff.1 (by omega)
    subst hl; simp [T7]
  | n+1,l,h,h64=> by
    by_cases hl:l=[]
    · subst hl; simp [T7]
    · have hp:=KN hl
      have hle:=LK l
      obtain⟨h1,h2⟩:=Od n (l.drop (Jz l)) (by rw[List.length_drop];omega) (by omega)
      rw[R1 hl]
      refine⟨?_, ?_⟩
      · intro x hx
        rcases List.mem_cons.1 hx with rfl | hx
        · refine⟨by simp;omega, by simp;omega, ?_⟩
          intro hd j hj
          simp only[decide_eq_true_eq]at hd
          have hpn:Jz l=KX l:= by unfold Jz; rw[if_pos hd]
          simp only[List.length_take]at hj
          simp only[List.getElem?_take]
          rw[if_pos (by omega),if_pos (by omega)]
          exact eqN_all (by omega)
        · exact h1 x hx
      · rw[List.flatMap_cons,h2]; exact List.take_append_drop _ _
theorem Ir (x:Bs×Bool):1≤(DM x).length:= by unfold DM;split<;> simp
theorem Is {x:Bs×Bool} (h:okP x):(DM x).length≤65:= by
  obtain⟨_,h2,_⟩:=h
  unfold DM;split<;> simp;omega
theorem HP (a b:List (Bs×Bool)):ZM (a++b)=ZM a++ZM b:=List.flatMap_append
theorem DK: ∀{l:List (Bs×Bool)},(∀x∈l,okP x)→(ZM l).length≤65*l.length
  | [],_=> by simp [ZM]
  | x::l,h=> by
    have h1:=Is (h x (by simp))
    have h2:=DK (l:=l) (fun y hy=>h y (by simp [hy]))
    unfold ZM at h2⊢
    rw[List.flatMap_cons,List.length_append,List.length_cons];omega
theorem Dy {p f:Bs} (h:Ut p=some f):f.length≤47∧f=ZM (Bu p):= by
  unfold Ut at h
  split at h
  · rename_i h1; cases h; exact⟨h1,rfl⟩
  · cases h
theorem run_eq {s:Bs} (h: ∀j,j<s.length→s[j]? =s[0]?) (h1:1≤s.length):s=List.replicate s.length (s.headD 0):= by
  apply List.ext_getElem?
  intro j
  by_cases hj:j<s.length
  · rw[h j hj,List.getElem?_replicate,if_pos hj]
    cases s with
    | nil=> simp at h1
    | cons x s=>rfl
  · rw[List.getElem?_eq_none (by omega),List.getElem?_eq_none (by simp;omega)]
theorem SD: ∀(l:List (Bs×Bool)),(∀x∈l,okP x)→l.length≤(l.flatMap (·.1)).length
  | [],_=> by simp
  | x::l,h=> by
    have h1:=SD l (fun y hy=>h y (List.mem_cons_of_mem _ hy))
    have h2:=(h x (by simp)).1
    rw[List.flatMap_cons,List.length_append,List.length_cons];omega
theorem MK {p:Bs} (hp:p.length≤64):(∀x∈Bu p,okP x)∧(Bu p).flatMap (·.1)=p∧(Bu p).length≤64:= by
  obtain⟨h1,h2⟩:=Od p.length p (Nat.le_refl _) hp
  have :=SD _ h1
  rw[h2]at this
  exact⟨h1,h2, by omega⟩
def bldZ (b:Nat) (bs:Bs):Th:=Cw fun q:Value×Value=>starL [JV 205 b [q.1,q.2],Gb 5 q.2 bs]
theorem bldZ_of {w:World} {b:Nat} {bs:Bs} {As:List Th} (h:Sat w (Kt b bs::As)):Sat w (bldZ b bs::As):= by
  obtain⟨p,v,_,h1⟩:=U6 h
  have h2:=(h1.pull 1 U).bufZ_of; dsimp only[List.eraseIdx]at h2
  exact Sat.ex_intro (f:= fun q:Value×Value=>starL [JV 205 b [q.1,q.2],Gb 5 q.2 bs]) (p,v) (Sat.fold (As:=[JV 205 b [p,v],Gb 5 v bs]) (h2.perm (List.Perm.swap _ _ _)))
theorem bl_len {w:World} {b:Nat} {bs:Bs} {F:Th} (hS:Sat w [Kt b bs,F]):
    Calls prog 178 #[ptrV b 0] w (Ret fun v w'=>v=intV (bs.length:Int)∧Sat w' [Kt b bs,F]):= by
 obtain⟨p,v,hp,hS⟩:=U6 hS
 obtain⟨ao,cap,rfl,h1v,hq⟩:=hS.bufv 1 rfl
 refine Qm func178 U ntmps178 U ?_
 exact Qd (Qa (Qe U U (Qf (Qc (Qd (Qa (Qb U U (Qj U U (Qg U Y6 U (Qr U UT (hS.tcell 0 U (o:=1) U) U (X7 underlying143 U U (Qe U U (Qf (Qc (Qu (QY (.inr U) U U (⟨_,U,U,U5 hp hS⟩)))))))))))))))))
theorem Ma {w:World} {b:Nat} {bs:Bs} {F:Th} (hS:Sat w [bldZ b bs,F]) (hl:bs.length≤70368744177663):
    Calls prog 142 #[ptrV b 0] w (Ret fun v w'=>v=strV bs∧Sat w' [bldZ b bs,F]):= by
 obtain⟨⟨p,v⟩,hS⟩:=hS.ex
 replace hS:=hS.flat; dsimp only[Gl,Gk]at hS
 obtain⟨ao,cap,rfl,h1v,hao⟩:=hS.bufZv 1 rfl
 refine Qm func142 U ntmps142 U ?_
 refine Qd (Qa (Qe U U (Qf (Qc (Qd ?_)))))
 have j1:=hS.drew
 refine QE [0,1,2,3,5,6,7,8,9,4,10,11] [4,10] Wa (by kernel_rfl) ?_
 refine Q9 U U U (Xi U U U (QQ U U U Y6 (Q4 U U U (Ql U UT (j1.tcell 0 U (o:=1) U)) (Q9 U U U (Xi U U U (QQ U U U Y6 (Q4 U U U (Ql U UT (j1.tcell 0 U (o:=1) U)) (QZ U U U (fun _=>(Ke underlying143 U)) ?_))))))))
 refine Xe U U U U U U ?_
 refine Ri U hao U (Xz (.cons (.inl ⟨rfl,(Ql U UT (j1.tcell 0 U (o:=1) U))⟩) (Xj (by kernel_rfl))) ?_)
 refine Xe U U U U U U ?_
 refine Gn 1 j1 U U U underlying230 FI (by omega) U ?_
 intro w2 j2
 refine Xz (Xj (by kernel_rfl)) ?_
 exact XK U U U (VC.nil (Qc (Qh [2] U (Qu (QY (.inr U) U U (⟨_,rfl,rfl,Sat.ex_intro (f:= fun q:Value×Value=>starL [JV 205 b [q.1,q.2],Gb 5 q.2 bs]) (p,.slice ao bs.length cap) (Sat.fold (As:=[JV 205 b [p,_],Gb 5 _ bs]) j2)⟩))))))
theorem Tg {w:World} {F:Th} (hS:Sat w [F]) (s:Bs) (k:Nat) (hk:k<s.length) (hl:s.length≤1000):
    Calls prog 216 #[strV s,intV (k:Int)] w (Ret fun v w'=>v=intV (KX (s.drop k):Nat)∧Sat w' [F]):= by
 obtain⟨x,h0⟩: ∃x,s[k]? =some x:=⟨_,Zq hk⟩
 refine Qm func216 U ntmps216 U ?_
 refine Qd (Qa (Qe U U (Qf (Qc (Qd (Qa (Qe U U (Qf (Qc (Qd (Qw ?_)))))))))))
 refine Xg (fun K0 E0 W0=> ∃(n:Nat),K0=s.length -k -n∧E0=[(0,strV s),(1,intV (k:Int)),(5,intV (n:Int))]∧Sat W0 [F]∧(1≤n)∧(k+n≤s.length)∧(∀j,j<n→s[k+j]? =some x)) (L0:=[(0,_),(1,_),(5,_)]) (s.length -k -1) (Rg U U U) ⟨1,rfl,rfl,hS,Nat.le_refl _, by omega, fun j hj=> by rw[show k+j=k by omega]; exact h0⟩ ?_
 rintro _ _ w1 ⟨n,rfl,rfl,j1,hn,hle,he⟩
 refine Qd (Qd ?_)
 have j2:=j1.drew
 refine QE [0,1,2,3,4,5,6,7,8,9,10,11,12,13,14,15,16] [] Wa (by kernel_rfl) ?_
 refine Q9 U U U (Q9 U U U (QZ U U U (fun _=>(GI U U (by omega) (by omega))) ?_))
 refine Q9 U U U (QZ U U U (fun _=>(BF underlying9 U)) ?_)
 refine QZ U U U (fun _=>(TJ U U)) ?_
 refine Q9 U U U (Wy 12 U (fun h3=> ?_) (fun h3=> ?_))
 ·obtain⟨y,hy⟩: ∃y,s[k+n]? =some y:=⟨_,Zq (by omega)⟩
  refine QZ U U (Q0 U U (Xm h3)) (fun _=>(Ev.gd (Xl U))) ?_
  refine QZ U U (Q0 U U (Xm h3)) (fun _=>(Ev.gd (Xl U))) ?_
  refine QZ U U (Q0 U U (Xm h3)) (fun _=>(Ev.gd (Xl U))) ?_
  refine QZ U U (Q0 U U (Xm h3)) (fun _=>(Ev.gd (GI U U (by omega) (by omega)))) ?_
  refine Q4 U U (Q0 U U (Xm h3)) (Ev.gd (U0 (k+n) underlying9 U U (by omega) hy)) ?_
  refine QZ U U (Q0 U U (Xm h3)) (fun _=>(Ev.gd (Xl U))) ?_
  refine QZ U U (Q0 U U (Xm h3)) (fun _=>(Ev.gd (Xl U))) ?_
  refine Q4 U U (Q0 U U (Xm h3)) (Ev.gd (U0 k underlying9 U U U h0)) (QZ U U (Q0 U U (Xm h3)) (fun _=>(Ev.gd (YM U U))) ?_)
  refine QZ U U U (fun _=>(JE U (Xm h3) U)) ?_
  refine VC.nil (Qc (Qh [5,1,0,22] U (Qt U (fun h4=> ?_) (fun h4=> ?_))))
  ·have hyx:y=x:=UInt8.toNat_inj.1 (by have :=h4;omega)
   refine Qs (Qc (Qw (Qa (Qb U U (QO U U (by omega) (by omega) U ?_)))))
   refine Qe U U (Qf (Qk ?_))
   exact Q3 (L1:=[(0,_),(1,_),(5,intV ((n+1:Nat):Int))]) (Rg U U U) (k1:=s.length -k -(n+1)) (by omega) ⟨n+1,rfl,rfl,j2.pick [0] U, by omega, by omega, fun j hj=> by by_cases e:j=n;(subst e; rw[hy,hyx]); exact he j (by omega)⟩
  have hyx:y≠x:= fun q=>h4 (by rw[q])
  exact QU (Qq (Qq (Qx (Qc (Qd (Qa (Qb U U (Qe U U (Qf (Qc (Qu (QY (.inr U) U U (⟨_,rfl, by rw[Iq h0 hn hle he (.inr ⟨y,hy,hyx⟩)],j2.pick [0] U⟩)))))))))))))
 refine QC U U (QJ U U (Q7 h3)) (QC U U (QJ U U (Q7 h3)) (QC U U (QJ U U (Q7 h3)) (QC U U (QJ U U (Q7 h3)) (QC U U (QJ U U (Q7 h3)) (QC U U (QJ U U (Q7 h3)) (QC U U (QJ U U (Q7 h3)) (QC U U (QJ U U (Q7 h3)) (QC U U (QJ U U (Q7 h3)) (QZ U U U (fun _=>(Wm U (Q7 h3) U)) ?_)))))))))
 exact VC.nil (Qc (Qh [5,1,0,22] U (QR U (QU (Qq (Qq (Qx (Qc (Qd (Qa (Qb U U (Qe U U (Qf (Qc (Qu (QY (.inr U) U U (⟨_,rfl, by rw[Iq h0 hn hle he (.inl (by omega))],j2.pick [0] U⟩)))))))))))))))))
def okPc (p:Bs) (ks:List (Bs×Bool)) (k:Bs×Bool):Prop:= ∃rest,Bu p=ks++k::rest
def YieldsP (P:Program) (l:Nat) (ok:List (Bs×Bool)→Bs×Bool→Prop) (J:List (Bs×Bool)→Th):Prop:=
  ∀(ks:List (Bs×Bool)) (k:Bs×Bool) (R:Th) (w:World),ok ks k→Sat w [J ks,R]→YieldAt Fence.wide 0 P l #[strV k.1,.bool k.2] w (fun e w'=>e= .returned (.bool true)∧Sat w' [J (ks++[k]),R])
theorem Nh {s:Bs} {k:Nat} (h:k=s.length∨3≤KX (s.drop k)):lit (s.drop k)=0:=OB (by rcases h with h | h; exact .inl (by rw[h,List.drop_length]); exact .inr h)
theorem pcs_it {w:World} {l c:Nat} {page:Bs} {J:List (Bs×Bool)→Th} {F:Th} (hpl:page.length≤1000) (hS:Sat w [J [],Q8 c [strV page],F]) (hY:YieldsP prog l (okPc page) J):
    Calls prog 215 #[.func (.yield l) #[] #[],ptrV c 0] w (Ret fun v w'=>Sat w' [J (Bu page),Q8 c [strV page],F]):= by
 refine Qm func215 U ntmps215 U ?_
 refine Qd (Qa (Qe U U (Qf (Qc (Qw ?_)))))
 refine Xg (fun K0 E0 W0=> ∃(ks:List (Bs×Bool)) (a:Nat),K0=page.length -a∧E0=[(0,.func (.yield l) #[] #[]),(1,ptrV c 0),(3,intV (a:Int))]∧Sat W0 [J ks,Q8 c [strV page],F]∧(Bu page=ks++Bu (page.drop a))∧(a≤page.length)) (L0:=[(0,_),(1,_),(3,_)]) (page.length -0) (Rg U U U) ⟨[],0,rfl,rfl,hS, by simp, by omega⟩ ?_
 rintro _ _ w1 ⟨ks,a,rfl,rfl,j1,hks,hal⟩
 refine Qd (Qd (Qa (Qb U U (Qr U W9 (j1.cell 1 U U) U (WT underlying9 U U (Xk U U U (Qf (Qc (Qt U (fun h2=> ?_) (fun h2=> ?_))))))))))
 ·have he1:=Fj (l:=page.drop a) (fun q=> by have :=congrArg List.length q; rw[List.length_drop]at this; simp at this;omega)
  have he2:a+KX (page.drop a)≤page.length:= by have :=Ip (page.drop a); rw[List.length_drop]at this;omega
  refine Qs (Qc (Qw (Qd (Qa (Qr U W9 (j1.cell 1 U U) U (Qb U U (Qv Ft U (Tg (j1.sp [] U) page (a) (by omega) hpl) U ?_)))))))
  rintro _ w3 ⟨rfl,j3⟩
  replace j3:=j3.jn U U
  refine Qe U U (Qe U U (Qf (Qc (Qh [3,1,0,4,5] U (Qd (Qd (Qa (Qb U U (Xk U U U (Qf (Qc (Qt U (fun h4=> ?_) (fun h4=> ?_)))))))))))))
  ·refine Qd (Qa (Qe U U (Qf (Qc (Qw (Xg (fun K0 E0 W0=> ∃(m:Nat),K0=page.length -a -m∧E0=[(0,.func (.yield l) #[] #[]),(1,ptrV c 0),(3,intV (a:Int)),(4,intV (m:Int)),(5,.bool false)]∧Sat W0 [J ks,Q8 c [strV page],F]∧(1≤m)∧(a+m≤page.length)∧(KX (page.drop a)+lit (page.drop (a+KX (page.drop a)))=m+lit (page.drop (a+m)))) (L0:=[(0,_),(1,_),(3,_),(4,_),(5,_)]) (page.length -a -KX (page.drop a)) (Hi U U U U U) ⟨KX (page.drop a),rfl,rfl,j3,he1,he2,rfl⟩ ?_))))))
   rintro _ _ w5 ⟨m,rfl,rfl,j5,hm1,hm2,hm3⟩
   refine Qd (Qd (Qa (Qb U U (Qb U U (QO U U (by omega) (by omega) U ?_)))))
   refine Qr U W9 (j5.cell 1 U U) U (WT underlying9 U U (Xk U U U (Qb U U (Xc 21 U (fun h6=> ?_) (fun h6=> ?_)))))
   ·refine Qo U U (Xm h6) (Qr U W9 (j5.cell 1 U U) U (Qo U U (Xm h6) (Qb U U (Qo U U (Xm h6) (Qb U U (Qo U U (Xm h6) (QO U U (by omega) (by omega) U ?_)))))))
    refine Qo U U (Xm h6) (Qv Ft U (Tg (j5.sp [] U) page (a+m) (by omega) hpl) U ?_)
    rintro _ w7 ⟨rfl,j7⟩
    replace j7:=j7.jn U U
    refine Qo U U (Xm h6) (Xk U U U (QK U (Xm h6) U U (Qf (Qc (Qh [5,4,3,1,0,28] U (Qt U (fun h8=> ?_) (fun h8=> ?_)))))))
    ·refine Qs (Qc (Qw (Qa (Qb U U (QO U U (by omega) (by omega) U ?_)))))
     refine Qe U U (Qf (Qk ?_))
     exact Q3 (L1:=[(0,_),(1,_),(3,_),(4,intV ((m+1:Nat):Int)),(5,_)]) (Hi U U U U U) (k1:=page.length -a -(m+1)) (by omega) ⟨m+1,rfl,rfl,j7.pick [0,1,2] U, by omega, by omega, by rw[hm3,OC (Zq (by omega)) (by omega), show a+(m+1)=a+m+1 by omega];omega⟩
    refine QU (Qq (Qq (Qx (Qc (Qd (Qd ?_))))))
    have hm:Jz (page.drop a)=m:= by unfold Jz; rw[if_neg (by omega),List.drop_drop]; have :=Nh (s:=page) (k:=a+m) (.inr (by omega));omega
    have hbb:decide (3≤KX (page.drop a))=false:= by exact Q7 (by omega)
    have hpc:Bu page=ks++((page.take (a+m)).drop a,false)::Bu (page.drop (a+m)):= by rw[hks,R1 (l:=page.drop a) (fun q=> by have :=congrArg List.length q; rw[List.length_drop]at this; simp at this;omega),List.drop_drop,hm,hbb,List.drop_take, show a+m -a=m by omega]
    have hSy:=j7.sp [0] U
    refine Jg (XE U (Xl U) (XE U (Ql U W9 (j7.cell 1 U U)) (XE U (Xl U) (XE U (Xl U) (XE U (Xl U) (XE U (GI U U (by omega) (by omega)) ?_))))))
    refine XE U (Kc a (a+m) underlying9 U (Ks a _ U U) (Ks (a+m) _ U (by omega)) (by omega) (by omega)) ?_
    refine XE U (Xl U) (KC U U U U (hY ks ((page.take (a+m)).drop a,false) _ _ ⟨_,hpc⟩ hSy) ?_)
    intro w5 j5; replace j5:=j5.jn U U
    refine XE U (HO U) (Hr (Qc (Qh [4,3,1,0,40] U (QR U (Qs (Qc (Qa (Qb U U (Qb U U (QO U U (by omega) (by omega) U ?_))))))))))
    refine Qe U U (Qf (Qk ?_))
    exact Q3 (L1:=[(0,_),(1,_),(3,intV ((a+m:Nat):Int))]) (Rg U U U) (k1:=page.length -(a+m)) (by omega) ⟨_,a+m,rfl,rfl,j5.pick [0,1,2] U, by rw[hpc,List.append_assoc];rfl, by omega⟩
   refine Qi U U (Q7 h6) U (Qi U U (Q7 h6) U (Qi U U (Q7 h6) U (Qi U U (Q7 h6) U (Qi U U (Q7 h6) U (Qi U U (Q7 h6) U (QW U (Q7 h6) U U (Qf (Qc (Qh [5,4,3,1,0,28] U (QR U (QU (Qq (Qq (Qx (Qc (Qd (Qd ?_)))))))))))))))))
   have hm:Jz (page.drop a)=m:= by unfold Jz; rw[if_neg (by omega),List.drop_drop]; have :=Nh (s:=page) (k:=a+m) (.inl (by omega));omega
   have hbb:decide (3≤KX (page.drop a))=false:= by exact Q7 (by omega)
   have hpc:Bu page=ks++((page.take (a+m)).drop a,false)::Bu (page.drop (a+m)):= by rw[hks,R1 (l:=page.drop a) (fun q=> by have :=congrArg List.length q; rw[List.length_drop]at this; simp at this;omega),List.drop_drop,hm,hbb,List.drop_take, show a+m -a=m by omega]
   have hSy:=j5.sp [0] U
   refine Jg (XE U (Xl U) (XE U (Ql U W9 (j5.cell 1 U U)) (XE U (Xl U) (XE U (Xl U) (XE U (Xl U) (XE U (GI U U (by omega) (by omega)) ?_))))))
   refine XE U (Kc a (a+m) underlying9 U (Ks a _ U U) (Ks (a+m) _ U (by omega)) (by omega) (by omega)) ?_
   refine XE U (Xl U) (KC U U U U (hY ks ((page.take (a+m)).drop a,false) _ _ ⟨_,hpc⟩ hSy) ?_)
   intro w5 j5; replace j5:=j5.jn U U
   refine XE U (HO U) (Hr (Qc (Qh [4,3,1,0,40] U (QR U (Qs (Qc (Qa (Qb U U (Qb U U (QO U U (by omega) (by omega) U ?_))))))))))
   refine Qe U U (Qf (Qk ?_))
   exact Q3 (L1:=[(0,_),(1,_),(3,intV ((a+m:Nat):Int))]) (Rg U U U) (k1:=page.length -(a+m)) (by omega) ⟨_,a+m,rfl,rfl,j5.pick [0,1,2] U, by rw[hpc,List.append_assoc];rfl, by omega⟩
  refine Qs (Qc (Qd (Qd ?_)))
  obtain⟨m,hm0⟩: ∃m,m=KX (page.drop a):=⟨_,rfl⟩
  have hm:Jz (page.drop a)=m:= by unfold Jz; rw[if_pos (by omega),hm0]
  have hbb:decide (3≤KX (page.drop a))=true:= by exact Xm (by omega)
  rw[←hm0]
  have hpc:Bu page=ks++((page.take (a+m)).drop a,true)::Bu (page.drop (a+m)):= by rw[hks,R1 (l:=page.drop a) (fun q=> by have :=congrArg List.length q; rw[List.length_drop]at this; simp at this;omega),List.drop_drop,hm,hbb,List.drop_take, show a+m -a=m by omega]
  have hSy:=j3.sp [0] U
  refine Jg (XE U (Xl U) (XE U (Ql U W9 (j3.cell 1 U U)) (XE U (Xl U) (XE U (Xl U) (XE U (Xl U) (XE U (GI U U (by omega) (by omega)) ?_))))))
  refine XE U (Kc a (a+m) underlying9 U (Ks a _ U U) (Ks (a+m) _ U (by omega)) (by omega) (by omega)) ?_
  refine XE U (Xl U) (KC U U U U (hY ks ((page.take (a+m)).drop a,true) _ _ ⟨_,hpc⟩ hSy) ?_)
  intro w5 j5; replace j5:=j5.jn U U
  refine XE U (HO U) (Hr (Qc (Qh [3,1,0,4,40] U (QR U (Qs (Qc (Qa (Qb U U (Qb U U (QO U U (by omega) (by omega) U ?_))))))))))
  refine Qe U U (Qf (Qk ?_))
  exact Q3 (L1:=[(0,_),(1,_),(3,intV ((a+m:Nat):Int))]) (Rg U U U) (k1:=page.length -(a+m)) (by omega) ⟨_,a+m,rfl,rfl,j5.pick [0,1,2] U, by rw[hpc,List.append_assoc];rfl, by omega⟩
 refine QU (Qq (Qq (Qx (ZU (.inl U) U ?_))))
 exact⟨_,rfl, by rw[show a=page.length by omega,List.drop_length,T7,List.append_nil]at hks; rw[hks]; exact j1⟩
theorem pcs_sp {w:World} {page:Bs} {F:Th} (hS:Sat w [F]):
    Calls prog 177 #[strV page] w (Ret fun v w'=> ∃c,v= .func (.func 215) #[] #[ptrV c 0]∧Sat w' [Q8 c [strV page],F]):= by
 refine Qm func177 U ntmps177 U ?_
 refine Qd (Qa (XR hS U U U ?_))
 intro b1 w1 j1
 exact Qe U U (Qf (Qc (Qd (Qa (Z7 U U (Qe U U (Qf (Qc (Qu (QY (.inr U) U U (⟨_,U,_,U,j1⟩)))))))))))
def SE (o:Option Bs):Value:= .tuple #[strV (o.getD []),.bool o.isSome]
def Jp (l D b:Nat) (rec:Loop) (ks:List (Bs×Bool)):Th:=starL [J3 l rec,W3 D,Kt b (ZM ks)]
theorem T8 {w:World} {F:Th} (hS:Sat w [F]) (page:Bs) (hp:page.length=64):
    Calls prog 141 #[strV page] w (Ret fun v w'=>v=SE (Ut page)∧Sat w' [F]):= by
 obtain⟨hpo,hpf,hpl⟩:=MK (p:=page) (by omega)
 have heL:=DK hpo
 refine Hz func141 U ntmps141 U ?_
 refine Qd (Qa (Qe U U (Qe U U (Qf (Qc (Qd (Qd (Qa (Qb U U (WT underlying9 U U (XC U U U (Qf (Qc (Qt U (fun h1=> ?_) (fun h1=> ?_)))))))))))))))
 ·exact absurd h1 (by simp;omega)
 refine Qs (Qc (Qd (Qa (M0 hS EI (cs:=[.pointer none,.slice none 0 0]) U U ?_))))
 intro bb wB hSB
 have hSC:=U5 (.inl U) ((NT hSB).perm (List.Perm.swap _ _ _))
 refine Qf (Qc (Qd (Qd (Qa (Qb U U (Qv cal_177 U (pcs_sp (hSC.sp [] U) (page:=page)) U ?_))))))
 rintro _ w2 ⟨c,rfl,j2⟩
 replace j2:=j2.jn U U
 clear hSC
 refine Qf (Qc (Qw (Hs (caps:=[ptrV c 0]) U cal_215 ?_)))
 intro rec hr1 hr2 hr3 hr4 hr5 htn htf
 have hE:=j2.enter_loop rec
 have hE2:=hE.pick [0,1,3,2,4] U
 have hE3:=Sat.fold (As:=[J3 _ rec,W3 _,Kt _ (ZM [])]) hE2
 refine(pcs_it (J:=Jp _ _ bb rec) (by omega) hE3 ?_).mono ?_
 rotate_left
 ·rintro e w3 ⟨v0,rfl,hw3⟩
  have hw4:=hw3.flat; dsimp only[Gl,Gk]at hw4
  refine⟨⟨v0,rfl⟩,rec,hw4.loop 0 U, by rw[hr1]; simp,hr2, ?_⟩
  intro a0 ha1 ha2
  have hw5:=hw4.loop_put 0 U (rec':={rec with state:= .exhausted}); dsimp only[List.set]at hw5
  refine qsD_app (n:=32) ha2 (by rw[ha1]; exact htn) (by rw[ha1]; exact htf) ?_
  refine G5 (XP (Zd (Zd (XS ?_))))
  have hC3:=hw5.sp [2] U
  refine Qv cal_178 U (bl_len hC3) U ?_
  rintro _ w3 ⟨rfl,j3⟩
  replace j3:=j3.jn U U; clear hC3
  clear hw5
  refine YF U U U (Qf (ZV (XP (Jh (L':=[(30,_),(4,_),(3,_),(2,_)]) (HR U U U U) (Lb U (fun h4=> ?_) (fun h4=> ?_))))))
  ·refine Zd (XS (Qe U U (Qe U U (Qf (ZV (XP (HT (UE ?_))))))))
   obtain⟨hD,hZ⟩:=j3.defer_put (o:= .deferred none) 2 rfl
   dsimp only[List.eraseIdx]at hZ
   refine finM (.inr U) hD (res2 U U U) ?_
   exact⟨_,rfl, by unfold Ut; rw[if_neg (by omega)];rfl,hZ.pick [3] U⟩
  refine Vb (XP (Zd (XS (Qv Ck U (E7 (j3.sp [0] U) (by omega)) U ?_))))
  rintro _ w5 ⟨rfl,j5⟩
  replace j5:=j5.jn U U
  refine Qe U U (Qe U U (Qf (ZV (XP (HT ?_)))))
  obtain⟨hD,hZ⟩:=j5.defer_put (o:= .deferred none) 1 rfl
  dsimp only[List.eraseIdx]at hZ
  refine finM (.inr U) hD (res2 U U U) ?_
  exact⟨_,rfl, by unfold Ut; rw[if_pos (by omega)];rfl,hZ.pick [2] U⟩
 intro ks k R w2 hok hw2
 have hw4:=hw2.flat; dsimp only[Jp,Gl,Gk]at hw4
 have hw6:=hw4
 obtain⟨rest,hrest⟩:=hok
 have hok1:okP k:=hpo _ (by rw[hrest]; simp)
 have hkl:ks.length≤64:= by have :=congrArg List.length hrest; simp at this;omega
 have hel:=DK (l:=ks) (fun y hy=>hpo _ (by rw[hrest]; simp [hy]))
 obtain⟨hk1,hk2,hk3⟩:=hok1
 refine yieldG (hw6.loop 0 U) hr1 hr2 hr3 hr4 hr5 htn htf U U (B1 ?_)
 refine Yh (by rintro⟨_,_,q⟩; exact q) rfl ?_
 refine Qe U U (Qf (B7 (Tt (L':=[(5,_),(13,_),(4,_),(3,_),(2,_)]) (Hi U U U U U) ?_)))
 refine Yh (by rintro⟨_,_,q⟩; exact q) rfl ?_
 refine Qe U U (Qf (LC (hw6.loop 0 U) hr1 ?_))
 have hw7:=hw6.loop_put 0 U (rec':={rec with state:= .busy}); dsimp only[List.set]at hw7
 refine La (B1 ?_)
 refine Yh (by rintro⟨_,_,q⟩; exact q) rfl ?_
 refine Qb U U (Qf (B7 (EV U (fun h6=> ?_) (fun h6=> ?_))))
 ·have hkT:k.2=true:=h6
  refine B1 ?_
  refine Yh (by rintro⟨_,_,q⟩; exact q) rfl ?_
  refine Qb U U (WT underlying9 U U (QO U U (by omega) (by omega) U ?_))
  refine GY (128+k.1.length) underlying3 underlying5 U (by rfl) rfl ?_
  have hC7:=hw7.sp [2] U
  refine Qv BK U (H0 hC7 (UInt8.ofNat (128+k.1.length)) (by omega)) U ?_
  rintro _ w7 ⟨rfl,j7⟩
  replace j7:=j7.jn U U; clear hC7
  clear hw7
  refine Qf (B7 (Tt (L':=[(5,_),(4,_),(3,_),(2,_)]) (HR U U U U) ?_))
  refine Yh (by rintro⟨_,_,q⟩; exact q) rfl ?_
  refine Qb U U ?_
  refine H5 (c:=k.1.headD 0) 0 underlying9 U U U (by rw[←List.head?_eq_getElem?]; cases hq:k.1 with | nil=> rw[hq]at hk1; simp at hk1 | cons x l=>rfl) U ?_
  refine Qv BK U (H0 (j7.sp [0] U) (k.1.headD 0) (by simp;omega)) U ?_
  rintro _ w8 ⟨rfl,j8⟩
  replace j8:=j8.jn U U
  refine Qf (Up (S9 (j8.loop 1 U) hr1 hr2 ?_))
  have hw9:=j8.loop_put 1 U (rec':=rec); dsimp only[List.set]at hw9
  have hek:ZM (ks++[k])=ZM ks++[UInt8.ofNat (128+k.1.length)]++[k.1.headD 0]:= by rw[HP]; simp only[ZM,List.flatMap_cons,List.flatMap_nil,List.append_nil]; rw[DM,if_pos hkT]; simp
  refine Sat.fold (As:=[J3 _ rec,W3 _,Kt _ (ZM (ks++[k]))]) ?_
  rw[hek]; exact hw9.pick [1,2,0,3] U
 have hkF:k.2=false:=h6
 refine B1 ?_
 refine Yh (by rintro⟨_,_,q⟩; exact q) rfl ?_
 refine Qb U U (WT underlying9 U U (GY k.1.length underlying3 underlying5 U (by rfl) rfl ?_))
 have hC9:=hw7.sp [2] U
 refine Qv BK U (H0 hC9 (UInt8.ofNat k.1.length) (by omega)) U ?_
 rintro _ w9 ⟨rfl,j9⟩
 replace j9:=j9.jn U U; clear hC9
 clear hw7
 refine Qf (B7 (Tt (L':=[(5,_),(4,_),(3,_),(2,_)]) (HR U U U U) ?_))
 refine Yh (by rintro⟨_,_,q⟩; exact q) rfl ?_
 refine Qb U U ?_
 refine Qv F5 U (V6 (j9.sp [0] U) k.1 (by simp;omega)) U ?_
 rintro _ w10 ⟨rfl,j10⟩
 replace j10:=j10.jn U U
 refine Qf (Up (S9 (j10.loop 1 U) hr1 hr2 ?_))
 have hw9:=j10.loop_put 1 U (rec':=rec); dsimp only[List.set]at hw9
 have hek:ZM (ks++[k])=ZM ks++[UInt8.ofNat k.1.length]++k.1:= by rw[HP]; simp only[ZM,List.flatMap_cons,List.flatMap_nil,List.append_nil]; rw[DM,if_neg (by rw[hkF];decide)]; simp
 refine Sat.fold (As:=[J3 _ rec,W3 _,Kt _ (ZM (ks++[k]))]) ?_
 rw[hek]; exact hw9.pick [1,2,0,3] U
theorem Sv {dn rest:List (Bs×Bool)} {x:Bs×Bool} (hx:x.2=true):(ZM (dn++x::rest))[(ZM dn).length]? =some (UInt8.ofNat (128+x.1.length))∧(ZM (dn++x::rest))[(ZM dn).length+1]? =some (x.1.headD 0)∧(ZM (dn++[x])).length=(ZM dn).length+2∧(ZM dn).length+2≤(ZM (dn++x::rest)).length:= by
  have e:ZM (dn++x::rest)=ZM dn++(UInt8.ofNat (128+x.1.length)::x.1.headD 0::ZM rest):= by
    rw[HP]; simp only[ZM,List.flatMap_cons]; rw[DM,if_pos hx]; simp
  have e2:ZM (dn++[x])=ZM dn++[UInt8.ofNat (128+x.1.length),x.1.headD 0]:= by
    rw[HP]; simp only[ZM,List.flatMap_cons,List.flatMap_nil]; rw[DM,if_pos hx]; simp
  rw[e,e2]
  refine⟨by rw[List.getElem?_append_right (by omega)]; simp, by rw[List.getElem?_append_right (by omega)]; simp, by simp, by simp⟩
theorem Sw {dn rest:List (Bs×Bool)} {x:Bs×Bool} (hx:x.2=false):(ZM (dn++x::rest))[(ZM dn).length]? =some (UInt8.ofNat x.1.length)∧((ZM (dn++x::rest)).take ((ZM dn).length+1+x.1.length)).drop ((ZM dn).length+1)=x.1∧(ZM (dn++[x])).length=(ZM dn).length+1+x.1.length∧(ZM dn).length+1+x.1.length≤(ZM (dn++x::rest)).length:= by
  have e:ZM (dn++x::rest)=ZM dn++(UInt8.ofNat x.1.length::x.1)++ZM rest:= by
    rw[HP]; simp only[ZM,List.flatMap_cons]; rw[DM,if_neg (by rw[hx];decide)]; simp
  have e2:ZM (dn++[x])=ZM dn++(UInt8.ofNat x.1.length::x.1):= by
    rw[HP]; simp only[ZM,List.flatMap_cons,List.flatMap_nil]; rw[DM,if_neg (by rw[hx];decide)]; simp
  rw[e,e2]
  refine⟨by rw[List.append_assoc,List.getElem?_append_right (by omega)]; simp, ?_, by simp;omega, by simp;omega⟩
  rw[List.take_append_of_le_length (by simp;omega)]
  rw[List.take_of_length_le (by simp;omega),List.drop_append,List.drop_of_length_le (by omega),List.nil_append, show(ZM dn).length+1 -(ZM dn).length=1 by omega]
  rfl
theorem Fq {dn rest:List (Bs×Bool)} {p:Bs} (h:(dn++rest).flatMap (·.1)=p):(dn.flatMap (·.1)).length≤p.length:= by
  rw[←h,List.flatMap_append,List.length_append];omega
theorem Gt {w:World} {F:Th} (hS:Sat w [F]) {p f:Bs} (hp:p.length=64) (hf:Ut p=some f):
    Calls prog 92 #[strV f] w (Ret fun v w'=>v= .tuple #[strV p,.bool true]∧Sat w' [F]):= by
 obtain⟨hpo,hpf,hpl⟩:=MK (p:=p) (by omega)
 obtain⟨hf47,hfe⟩:=Dy hf
 refine Qm func92 U ntmps92 U ?_
 refine Qd (Qa (Qe U U (Qe U U (Qf (Qc (Qd (Qd (Qa (Qb U U (WT underlying9 U U (YF U U U (Qf (Qc (Qt U (fun h1=> ?_) (fun h1=> ?_)))))))))))))))
 ·exact absurd h1 (by omega)
 refine Qs (Qc (Qd (Qa (M0 hS EI (cs:=[.pointer none,.slice none 0 0]) U U ?_))))
 intro bb wB hSB
 have hSC:=U5 (.inl U) ((NT hSB).perm (List.Perm.swap _ _ _))
 refine Qf (Qc (Qd (Qd (Qa (Qe U U (Qf (Qc (Qw (Xg (fun K0 E0 W0=> ∃(dn rest:List (Bs×Bool)),K0=rest.length∧E0=[(0,strV f),(4,ptrV bb 0),(5,intV ((ZM dn).length:Int))]∧Sat W0 [Kt bb (dn.flatMap (·.1)),F]∧(Bu p=dn++rest)) (L0:=[(0,_),(4,_),(5,_)]) ((Bu p).length) (Rg U U U) ⟨[],Bu p,rfl,rfl,hSC,rfl⟩ ?_)))))))))
 rintro _ _ w2 ⟨dn,rest,rfl,rfl,j2,hdr⟩
 refine Qd (Qd (Qa (Qb U U (Qb U U (WT underlying9 U U (Xk U U U (Qf (Qc (Qt U (fun h3=> ?_) (fun h3=> ?_))))))))))
 ·obtain⟨x,rest,rfl⟩: ∃x r,rest=x::r:= by cases rest with | nil=>(exfalso; have hh:=h3; rw[hfe,hdr,List.append_nil]at hh;omega) | cons x r=> exact⟨x,r,rfl⟩
  have hxo:okP x:=hpo x (by rw[hdr]; simp)
  obtain⟨hx1,hx2,hx3⟩:=hxo
  obtain⟨c0,hc0,hcn0⟩: ∃c,f[(ZM dn).length]? =some c∧c.toNat= if x.2=true then 128+x.1.length else x.1.length:= by(rw[hfe,hdr]; cases hb:x.2 with | true=> exact⟨_,(Sv hb).1, by simp;omega⟩ | false=> exact⟨_,(Sw hb).1, by simp;omega⟩)
  refine Qs (Qc (Qw (Qd (Qa (Qb U U (Qb U U (H5 ((ZM dn).length) underlying9 U U (by rfl) hc0 U ?_)))))))
  refine FV underlying5 underlying3 U U (Qe U U (Qf (Qc (Qh [5,4,0,6] U (Qd (Qa (Qb U U (QO U U (by omega) (by omega) U ?_))))))))
  refine Qe U U (Qf (Qc (Qw (Qd (Qa (Qb U U (Jf U U U (Qb U U (Xc 25 U (fun h4=> ?_) (fun h4=> ?_))))))))))
  ·have hb:x.2=true:= by cases hb:x.2 with | true=>rfl | false=>(exfalso; rw[hb]at hcn0; simp at hcn0; have :=h4;omega)
   obtain⟨_,hc1,hel,hlf⟩:=Sv (dn:=dn) (rest:=rest) hb
   rw[←hdr,←hfe]at hc1 hlf
   have hcn:c0.toNat=128+x.1.length:= by rw[hcn0,if_pos hb]
   replace hx3:=hx3 hb
   refine Qo U U (Xm h4) (Qb U U (Qo U U (Xm h4) (Qb U U (Qo U U (Xm h4) (WT underlying9 U U (Qo U U (Xm h4) (Xk U U U (QK U (Xm h4) U U (Qe U U (Qf (Qc (Qh [4,0,6,5,22] U (Qt U (fun h5=> ?_) (fun h5=> ?_))))))))))))))
   ·refine Qd (Qd (Qa (Qb U U (VB U U (by omega) (by omega) U ?_))))
    refine Qb U U (Qf (Qc (Qw ?_)))
    have hSl:=j2.pick [0,1] U; rw[←List.append_nil (dn.flatMap (·.1))]at hSl
    rw[show c0.toNat=128+x.1.length from hcn]
    have e32:(((128+x.1.length:Nat):Int) -128)=(x.1.length:Int):= by omega
    rw[e32]
    refine Xg (fun K0 E0 W0=> ∃(i:Nat),K0=x.1.length -i∧E0=[(0,strV f),(4,ptrV bb 0),(5,intV (((ZM dn).length+1:Nat):Int)),(32,intV (x.1.length:Int)),(33,intV (i:Int))]∧Sat W0 [Kt bb (dn.flatMap (·.1)++List.replicate i (x.1.headD 0)),F]∧(i≤x.1.length)) (L0:=[(0,_),(4,_),(5,_),(32,_),(33,_)]) (x.1.length -0) (Hi U U U U U) ⟨0,rfl,rfl,hSl, by omega⟩ ?_
    rintro _ _ w6 ⟨i,rfl,rfl,j6,hi⟩
    refine Qd (Qa (Xk U U U (Qf (Qc (Qd (Qt U (fun h7=> ?_) (fun h7=> ?_)))))))
    ·refine Qs (Qc (Qd (Qw (Qa (Qb U U (Qb U U (H5 ((ZM dn).length+1) underlying9 U U (by rfl) hc1 U ?_)))))))
     refine Qv BK U (H0 (j6.sp [0] U) (x.1.headD 0) (by have :=Fq (p:=p) (by rw[←hdr]; exact hpf); rw[List.length_append,List.length_replicate];omega)) U ?_
     rintro _ w8 ⟨rfl,j8⟩
     replace j8:=j8.jn U U
     refine Qf (Qk (Qc (Qa (QO U U (by omega) (by omega) U ?_))))
     refine Qb U U (Qf ?_)
     have hSz:=j8.pick [0,1] U; rw[List.append_assoc,←List.replicate_succ']at hSz
     exact Q3 (L1:=[(0,_),(4,_),(5,_),(32,_),(33,intV ((i+1:Nat):Int))]) (Hi U U U U U) (k1:=x.1.length -(i+1)) (by omega) ⟨i+1,rfl,rfl,hSz, by omega⟩
    refine QU (Qq (Qq (Qx (Qc (Qa (Qb U U (QO U U (by omega) (by omega) U ?_)))))))
    refine Qe U U (Qf (Qk (Qk ?_)))
    have hcat:dn.flatMap (·.1)++List.replicate i (x.1.headD 0)=(dn++[x]).flatMap (·.1):= by rw[List.flatMap_append, show i=x.1.length by omega,←run_eq hx3 hx1]; simp
    have hSz:=j6.pick [0,1] U
    rw[hcat]at hSz
    exact Q3 (L1:=[(0,_),(4,_),(5,intV ((ZM (dn++[x])).length:Int))]) (by rw[hel]; exact(Rg U U U)) (k1:=rest.length) (by simp) ⟨dn++[x],rest,rfl,rfl,hSz, by rw[hdr,List.append_assoc];rfl⟩
   exact absurd h5 (by omega)
  have hb:x.2=false:= by cases hb:x.2 with | false=>rfl | true=>(exfalso; rw[hb]at hcn0; simp at hcn0; have :=h4;omega)
  obtain⟨_,hsl,hel,hlf⟩:=Sw (dn:=dn) (rest:=rest) hb
  rw[←hdr,←hfe]at hsl hlf
  have hcn:c0.toNat=x.1.length:= by rw[hcn0,if_neg (by rw[hb];decide)]
  refine Qi U U (Q7 h4) U (Qi U U (Q7 h4) U (Qi U U (Q7 h4) U (Qi U U (Q7 h4) U (QW U (Q7 h4) U U (Qe U U (Qf (Qc (Qh [4,0,6,5,22] U (QR U (Qd (Qa (Qb U U (Xk U U U (Qb U U (Xc 45 U (fun h9=> ?_) (fun h9=> ?_))))))))))))))))
  ·refine Qo U U (Xm h9) (Qb U U (Qo U U (Xm h9) (Qb U U (Qo U U (Xm h9) (QO U U (by omega) (by omega) U ?_)))))
   refine Qo U U (Xm h9) (Qb U U (Qo U U (Xm h9) (WT underlying9 U U (Qo U U (Xm h9) (ET U U U (QK U (Xm h9) U U (Qe U U (Qf (Qc (Qh [4,0,6,5,42] U (Qt U (fun h10=> ?_) (fun h10=> ?_))))))))))))
   ·refine Qd (Qa (Qb U U (Qb U U (Qb U U (Qb U U (QO U U (by omega) (by omega) U ?_))))))
    refine FT ((ZM dn).length+1) ((ZM dn).length+1+x.1.length) underlying9 U (Ks _ _ U (by omega)) (Ks _ _ U (by omega)) (by omega) (by omega) U ?_
    rw[hsl]
    refine Qv F5 U (V6 (j2.sp [0] U) x.1 (by have :=Fq (p:=p) (by rw[←hdr]; exact hpf);omega)) U ?_
    rintro _ w11 ⟨rfl,j11⟩
    replace j11:=j11.jn U U
    refine Qf (Qc (Qh [4,0,6,5] U (Qa (Qb U U (Qb U U (QO U U (by omega) (by omega) U ?_))))))
    refine Qe U U (Qf (Qk (Qk ?_)))
    have hcat:dn.flatMap (·.1)++x.1=(dn++[x]).flatMap (·.1):= by rw[List.flatMap_append]; simp
    have hSz:=j11.pick [0,1] U
    rw[hcat]at hSz
    exact Q3 (L1:=[(0,_),(4,_),(5,intV ((ZM (dn++[x])).length:Int))]) (by rw[hel,←hcn]; exact(Rg U U U)) (k1:=rest.length) (by simp) ⟨dn++[x],rest,rfl,rfl,hSz, by rw[hdr,List.append_assoc];rfl⟩
   exact absurd h10 (by omega)
  exact absurd h9 (by omega)
 refine QU (Qq (Qq (Qx (Qc (Qd (Qd ?_))))))
 have hend:rest=[]:= by cases rest with | nil=>rfl | cons x r=>(exfalso; have h1:=Ir x; have h2:1≤(ZM (x::r)).length:=(by unfold ZM; rw[List.flatMap_cons,List.length_append];omega); have :=congrArg List.length hfe; rw[hdr,HP,List.length_append]at this;omega)
 subst hend
 rw[List.append_nil]at hdr
 have hSz:=bldZ_of (j2.pick [0,1] U)
 rw[←hdr,hpf]at hSz
 refine Qa (Qv Ck U (Ma (hSz.sp [0] U) (by omega)) U ?_)
 rintro _ w12 ⟨rfl,j12⟩
 replace j12:=j12.jn U U
 clear hSz
 refine Qv Cl U (T8 (j12.sp [] U) p hp) U ?_
 rintro _ w13 ⟨rfl,j13⟩
 replace j13:=j13.jn U U
 rw[hf]
 dsimp only[SE,Option.getD_some,Option.isSome_some]
 refine Qb U U (Qn U U U (Qn U U U (Qe U U (Qe U U (Qf (Qc (Qh [4,0,7,8] U (Qd (Qa (Qb U U (Xb U U (Qb U U (Zl 70 U (fun h14=> ?_) (fun h14=> ?_))))))))))))))
 ·exact absurd h14 (by simp)
 refine Qo U U h14 (Qb U U (Qo U U h14 (Qb U U (Qo U U h14 (By U U U (QW U h14 U U (Qf (Qc (Qh [4,74] U (Qt U (fun h15=> ?_) (fun h15=> ?_)))))))))))
 ·exact absurd h15 (by simp)
 refine Qs (Qc (Qd (Qa (Qv Ck U (Ma (j13.sp [0] U) (by omega)) U ?_))))
 rintro _ w16 ⟨rfl,j16⟩
 replace j16:=j16.jn U U
 exact Qe U U (Qe U U (Qf (Qc (Qu (Wz (.inr U) U U U (⟨_,U,U,j16.pick [1] U⟩))))))
