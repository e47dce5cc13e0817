/- compress: equal, pieces -/
import Derived.Test.YtkcjfoaejijdoaaGreatDoorShelf
import Derived.Test.YtkcjfoaejijdoaaGreatDoorRng
import Derived.Test.YtkcjfoaejijdoaaGreatDoorFw
set_option linter.unusedVariables false
set_option maxRecDepth 100000
set_option maxHeartbeats 80000000000
namespace Go.Proofs.YtkcjfoaejijdoaaGreatDoor
open Go.RowKit M
def Rm:Bs→Nat
  | []=>0
  | x::l=>1+(l.takeWhile (fun y=>decide (y=x))).length
def lit:Bs→Nat
  | []=>0
  | x::l=> if Rm (x::l)<3 then 1+lit l else 0
def Jr (l:Bs):Nat:= if 3≤Rm l then Rm l else Rm l+lit (l.drop (Rm l))
theorem IY (l:Bs):Rm l≤l.length:= by
  cases l with
  | nil=> simp [Rm]
  | cons x l=> have :=(List.takeWhile_sublist (l:=l) (fun y=>decide (y=x))).length_le; simp [Rm];omega
theorem Lm {l:Bs} (h:l≠[]):1≤Rm l:= by
  cases l with
  | nil=> exact absurd rfl h
  | cons x l=> simp [Rm]
theorem Iw: ∀l:Bs,lit l≤l.length
  | []=> by simp [lit]
  | x::l=> by
    have :=Iw l
    unfold lit
    split
    · simp;omega
    · simp
theorem ED (l:Bs):Jr l≤l.length:= by
  unfold Jr
  have :=IY l
  have :=Iw (l.drop (Rm l))
  rw[List.length_drop]at this
  split<;>omega
theorem KY {l:Bs} (h:l≠[]):1≤Jr l:= by
  unfold Jr
  have :=Lm h
  split<;>omega
theorem KC {x:UInt8}: ∀{l:Bs} {n:Nat},n≤l.length→(∀j,j<n→l[j]? =some x)→(n=l.length∨ ∃y,l[n]? =some y∧y≠x)→(l.takeWhile (fun y=>decide (y=x))).length=n
  | [],n,h,_,_=> by simp at h; subst h;rfl
  | y::l,0,_,_,h=> by
    rcases h with h | ⟨z,h1,h2⟩
    · simp at h
    · simp at h1; subst h1; simp [h2]
  | y::l,n+1,h,h1,h2=> by
    have :=h1 0 (by omega)
    simp at this; subst this
    have :=KC (x:=y) (l:=l) (n:=n) (by simpa using h) (fun j hj=> by simpa using h1 (j+1) (by omega)) (by simpa using h2)
    simp [this]
theorem IZ {s:Bs} {k n:Nat} {x:UInt8} (h0:s[k]? =some x) (hn:1≤n) (hle:k+n≤s.length) (he: ∀j,j<n→s[k+j]? =some x) (hend:k+n=s.length∨ ∃y,s[k+n]? =some y∧y≠x):Rm (s.drop k)=n:= by
  have hk:k<s.length:=(XW h0).1
  have hx:s[k]=x:=(XW h0).2
  rw[List.drop_eq_getElem_cons hk,hx]
  rw[Rm,KC (n:=n -1)]
  · omega
  · rw[List.length_drop];omega
  · intro j hj; rw[List.getElem?_drop]; have :=he (j+1) (by omega); rw[show k+1+j=k+(j+1) by omega]; exact this
  · rcases hend with h | ⟨y,h1,h2⟩
    · left; rw[List.length_drop];omega
    · right; refine⟨y, ?_,h2⟩; rw[List.getElem?_drop, show k+1+(n -1)=k+n by omega]; exact h1
theorem AW {x:UInt8}: ∀(l:Bs) (j:Nat),j<(l.takeWhile (fun y=>decide (y=x))).length→l[j]? =some x
  | [],j,h=> by simp at h
  | y::l,j,h=> by
    by_cases hy:y=x
    · subst hy
      cases j with
      | zero=>rfl
      | succ j=> rw[List.getElem?_cons_succ]; refine AW l j ?_; simp at h;simpa using h
    · simp [hy]at h
theorem eqN_all {l:Bs} {j:Nat} (h:j<Rm l):l[j]? =l[0]? := by
  cases l with
  | nil=> simp
  | cons x l=>
    cases j with
    | zero=>rfl
    | succ j=>
      simp [Rm]at h
      have hj:j<(l.takeWhile (fun y=>decide (y=x))).length:= by omega
      rw[List.getElem?_cons_succ,List.getElem?_cons_zero]
      exact AW l j hj
theorem Iv {s:Bs} {k:Nat} {x:UInt8} (h0:s[k]? =some x) (h:Rm (s.drop k)<3):lit (s.drop k)=1+lit (s.drop (k+1)):= by
  obtain⟨hk,hx⟩:=XW h0
  rw[List.drop_eq_getElem_cons hk]at h⊢
  rw[lit,if_pos h]
theorem Iu {l:Bs} (h:l=[]∨3≤Rm l):lit l=0:= by
  cases l with
  | nil=>rfl
  | cons x l=>
    rcases h with h | h
    · cases h
    · rw[lit,if_neg (by omega)]
def Pi:Nat→Bs→List (Bs×Bool)
  | 0,_=>[]
  | f+1,l=> if l=[]then[]else(l.take (Jr l),decide (3≤Rm l))::Pi f (l.drop (Jr l))
theorem TK: ∀(f g:Nat) (l:Bs),l.length≤f→l.length≤g→Pi f l=Pi g l
  | 0,g,l,h,_=> by
    have hl:l=[]:=List.length_eq_zero_iff.1 (by omega)
    subst hl
    cases g with
    | zero=>rfl
    | succ g=> simp [Pi]
  | f+1,0,l,_,h=> by
    have hl:l=[]:=List.length_eq_zero_iff.1 (by omega)
    subst hl
    simp [Pi]
  | f+1,g+1,l,h1,h2=> by
    unfold Pi
    split
    · rfl
    · rename_i hl
      have :=KY hl
      rw[TK f g _ (by rw[List.length_drop];omega) (by rw[List.length_drop];omega)]
def BG (l:Bs):List (Bs×Bool):=Pi l.length l
theorem C7:BG []=[]:=rfl
theorem RC {l:Bs} (h:l≠[]):BG l=(l.take (Jr l),decide (3≤Rm l))::BG (l.drop (Jr l)):= by
  unfold BG
  have hp:=KY h
  have hl:1≤l.length:= by cases l with | nil=> exact absurd rfl h | cons=> simp
  obtain⟨m,hm⟩: ∃m,l.length=m+1:=⟨l.length -1, by omega⟩
  rw[hm,Pi,if_neg h,TK m (l.drop (Jr l)).length _ (by rw[List.length_drop];omega) (Nat.le_refl _)]
def M7 (x:Bs×Bool):Bs:= if x.2=true then[UInt8.ofNat (128+x.1.length),x.1.headD 0]else UInt8.ofNat x.1.length::x.1
def Z6 (l:List (Bs×Bool)):Bs:=l.flatMap M7
def Uy (p:Bs):Option Bs:= if(Z6 (BG p)).length≤47 then some (Z6 (BG p))else none
def okP (x:Bs×Bool):Prop:=1≤x.1.length∧x.1.length≤64∧(x.2=true→ ∀j,j<x.1.length→x.1[j]? =x.1[0]?)
theorem OO: ∀(n:Nat) (l:Bs),l.length≤n→n≤64→(∀x∈BG l,okP x)∧(BG l).flatMap (·.1)=l
  | 0,l,h,_=> by
    have hl:l=[]:=List.length_eq_zero_iff.1 (by omega)
    subst hl; simp [C7]
  | n+1,l,h,h64=> by
    by_cases hl:l=[]
    · subst hl; simp [C7]
    · have hp:=KY hl
      have hle:=ED l
      obtain⟨h1,h2⟩:=OO n (l.drop (Jr l)) (by rw[List.length_drop];omega) (by omega)
      rw[RC hl]
      refine⟨?_, ?_⟩
      · intro x hx
        rcases List.mem_cons.1 hx with rfl | hx
        · refine⟨by simp;omega, by simp;omega, ?_⟩
          intro hd j hj
          simp only[decide_eq_true_eq]at hd
          have hpn:Jr l=Rm l:= by unfold Jr; rw[if_pos hd]
          simp only[List.length_take]at hj
          simp only[List.getElem?_take]
          rw[if_pos (by omega),if_pos (by omega)]
          exact eqN_all (by omega)
        · exact h1 x hx
      · rw[List.flatMap_cons,h2]; exact List.take_append_drop _ _
theorem qab (x:Bs×Bool):1≤(M7 x).length:= by unfold M7;split<;> simp
theorem qac {x:Bs×Bool} (h:okP x):(M7 x).length≤65:= by
  obtain⟨_,h2,_⟩:=h
  unfold M7;split<;> simp;omega
theorem HR (a b:List (Bs×Bool)):Z6 (a++b)=Z6 a++Z6 b:=List.flatMap_append
theorem M6: ∀{l:List (Bs×Bool)},(∀x∈l,okP x)→(Z6 l).length≤65*l.length
  | [],_=> by simp [Z6]
  | x::l,h=> by
    have h1:=qac (h x (by simp))
    have h2:=M6 (l:=l) (fun y hy=>h y (by simp [hy]))
    unfold Z6 at h2⊢
    rw[List.flatMap_cons,List.length_append,List.length_cons];omega
theorem Me {p f:Bs} (h:Uy p=some f):f.length≤47∧f=Z6 (BG p):= by
  unfold Uy at h
  split at h
  · rename_i h1; cases h; exact⟨h1,rfl⟩
  · cases h
theorem run_eq {s:Bs} (h: ∀j,j<s.length→s[j]? =s[0]?) (h1:1≤s.length):s=List.replicate s.length (s.headD 0):= by
  apply List.ext_getElem?
  intro j
  by_cases hj:j<s.length
  · rw[h j hj,List.getElem?_replicate,if_pos hj]
    cases s with
    | nil=> simp at h1
    | cons x s=>rfl
  · rw[List.getElem?_eq_none (by omega),List.getElem?_eq_none (by simp;omega)]
theorem FQ: ∀(l:List (Bs×Bool)),(∀x∈l,okP x)→l.length≤(l.flatMap (·.1)).length
  | [],_=> by simp
  | x::l,h=> by
    have h1:=FQ l (fun y hy=>h y (List.mem_cons_of_mem _ hy))
    have h2:=(h x (by simp)).1
    rw[List.flatMap_cons,List.length_append,List.length_cons];omega
theorem TJ {p:Bs} (hp:p.length≤64):(∀x∈BG p,okP x)∧(BG p).flatMap (·.1)=p∧(BG p).length≤64:= by
  obtain⟨h1,h2⟩:=OO p.length p (Nat.le_refl _) hp
  have :=FQ _ h1
  rw[h2]at this
  exact⟨h1,h2, by omega⟩
def bldZ (b:Nat) (bs:Bs):Th:=CI fun q:Value×Value=>starL [JM 205 b [q.1,q.2],Gn 5 q.2 bs]
theorem bldZ_of {w:World} {b:Nat} {bs:Bs} {As:List Th} (h:Sat w (Va b bs::As)):Sat w (bldZ b bs::As):= by
  obtain⟨p,v,_,h1⟩:=H8 h
  have h2:=(h1.pull 1 rfl).bufZ_of; dsimp only[List.eraseIdx]at h2
  exact Sat.ex_intro (f:= fun q:Value×Value=>starL [JM 205 b [q.1,q.2],Gn 5 q.2 bs]) (p,v) (Sat.fold (As:=[JM 205 b [p,v],Gn 5 v bs]) (h2.perm (List.Perm.swap _ _ _)))
theorem bl_len {w:World} {b:Nat} {bs:Bs} {F:Th} (hS:Sat w [Va b bs,F]):
    Calls Tryz.prog 178 #[ptrV b 0] w (Ret fun v w'=>v=intV (bs.length:Int)∧Sat w' [Va b bs,F]):= by
 obtain⟨p,v,hp,hS⟩:=H8 hS
 obtain⟨ao,cap,rfl,h1v,hq⟩:=hS.bufv 1 rfl
 refine Qo Tryz.func178 rfl Tryz.ntmps178 rfl ?_
 exact Qd (Qa (Qe rfl rfl (Qf (Qc (Qd (Qa (Qb rfl rfl (Qj rfl rfl (Qg rfl J9 rfl (Qp rfl Uq (hS.tcell 0 rfl (o:=1) rfl) rfl (XE Tryz.underlying143 rfl rfl (Qe rfl rfl (Qf (Qc (Qu (QP (.inr rfl) rfl rfl (⟨_,rfl,rfl,YJ hp hS⟩)))))))))))))))))
theorem ML {w:World} {b:Nat} {bs:Bs} {F:Th} (hS:Sat w [bldZ b bs,F]) (hl:bs.length≤70368744177663):
    Calls Tryz.prog 142 #[ptrV b 0] w (Ret fun v w'=>v=strV bs∧Sat w' [bldZ b bs,F]):= by
 obtain⟨⟨p,v⟩,hS⟩:=hS.ex
 replace hS:=hS.flat; dsimp only[BC,BB]at hS
 obtain⟨ao,cap,rfl,h1v,hao⟩:=hS.bufZv 1 rfl
 refine Qo Tryz.func142 rfl Tryz.ntmps142 rfl ?_
 refine Qd (Qa (Qe rfl rfl (Qf (Qc (Qd ?_)))))
 have hS1:=hS.drew
 refine QI [0,1,2,3,5,6,7,8,9,4,10,11] [4,10] Wq (by kernel_rfl) ?_
 refine QE rfl rfl rfl (Xj rfl rfl rfl (QS rfl rfl rfl J9 (Q8 rfl rfl rfl (Qm rfl Uq (hS1.tcell 0 rfl (o:=1) rfl)) (QE rfl rfl rfl (Xj rfl rfl rfl (QS rfl rfl rfl J9 (Q8 rfl rfl rfl (Qm rfl Uq (hS1.tcell 0 rfl (o:=1) rfl)) (QZ rfl rfl rfl (fun _=>(Kv Tryz.underlying143 rfl)) ?_))))))))
 refine Xi rfl rfl rfl rfl rfl rfl ?_
 refine Rt rfl hao rfl (X9 (.cons (.inl ⟨rfl,(Qm rfl Uq (hS1.tcell 0 rfl (o:=1) rfl))⟩) (Xu (by kernel_rfl))) ?_)
 refine Xi rfl rfl rfl rfl rfl rfl ?_
 refine G3 1 hS1 rfl rfl rfl Tryz.underlying230 LO (by omega) rfl ?_
 intro w2 hS2
 clear hS1
 refine X9 (Xu (by kernel_rfl)) ?_
 exact XP rfl rfl rfl (VC.nil (Qc (Qh [2] rfl (Qu (QP (.inr rfl) rfl rfl (⟨_,rfl,rfl,Sat.ex_intro (f:= fun q:Value×Value=>starL [JM 205 b [q.1,q.2],Gn 5 q.2 bs]) (p,.slice ao bs.length cap) (Sat.fold (As:=[JM 205 b [p,_],Gn 5 _ bs]) hS2)⟩))))))
theorem Ch {w:World} {F:Th} (hS:Sat w [F]) (s:Bs) (k:Nat) (hk:k<s.length) (hl:s.length≤1000):
    Calls Tryz.prog 216 #[strV s,intV (k:Int)] w (Ret fun v w'=>v=intV (Rm (s.drop k):Nat)∧Sat w' [F]):= by
 obtain⟨x,h0⟩: ∃x,s[k]? =some x:=⟨_,Zi hk⟩
 refine Qo Tryz.func216 rfl Tryz.ntmps216 rfl ?_
 refine Qd (Qa (Qe rfl rfl (Qf (Qc (Qd (Qa (Qe rfl rfl (Qf (Qc (Qd (Qw ?_)))))))))))
 refine Xa (fun K0 E0 W0=> ∃(n:Nat),K0=s.length -k -n∧E0=[(0,strV s),(1,intV (k:Int)),(5,intV (n:Int))]∧Sat W0 [F]∧(1≤n)∧(k+n≤s.length)∧(∀j,j<n→s[k+j]? =some x)) (L0:=[(0,_),(1,_),(5,_)]) (s.length -k -1) (Cr rfl rfl rfl) ⟨1,rfl,rfl,hS,Nat.le_refl _, by omega, fun j hj=> by rw[show k+j=k by omega]; exact h0⟩ ?_
 rintro _ _ w1 ⟨n,rfl,rfl,hS1,hn,hle,he⟩
 refine Qd (Qd ?_)
 have hS2:=hS1.drew
 refine QI [0,1,2,3,4,5,6,7,8,9,10,11,12,13,14,15,16] [] Wq (by kernel_rfl) ?_
 refine QE rfl rfl rfl (QE rfl rfl rfl (QZ rfl rfl rfl (fun _=>(GW rfl rfl (by omega) (by omega))) ?_))
 refine QE rfl rfl rfl (QZ rfl rfl rfl (fun _=>(Dj Tryz.underlying9 rfl)) ?_)
 refine QZ rfl rfl rfl (fun _=>(CJ rfl rfl)) ?_
 refine QE rfl rfl rfl (Wm 12 rfl (fun h3=> ?_) (fun h3=> ?_))
 ·obtain⟨y,hy⟩: ∃y,s[k+n]? =some y:=⟨_,Zi (by omega)⟩
  refine QZ rfl rfl (Q1 rfl rfl (Xf h3)) (fun _=>(Ev.gd (Xm rfl))) ?_
  refine QZ rfl rfl (Q1 rfl rfl (Xf h3)) (fun _=>(Ev.gd (Xm rfl))) ?_
  refine QZ rfl rfl (Q1 rfl rfl (Xf h3)) (fun _=>(Ev.gd (Xm rfl))) ?_
  refine QZ rfl rfl (Q1 rfl rfl (Xf h3)) (fun _=>(Ev.gd (GW rfl rfl (by omega) (by omega)))) ?_
  refine Q8 rfl rfl (Q1 rfl rfl (Xf h3)) (Ev.gd (U4 (k+n) Tryz.underlying9 rfl rfl (by omega) hy)) ?_
  refine QZ rfl rfl (Q1 rfl rfl (Xf h3)) (fun _=>(Ev.gd (Xm rfl))) ?_
  refine QZ rfl rfl (Q1 rfl rfl (Xf h3)) (fun _=>(Ev.gd (Xm rfl))) ?_
  refine Q8 rfl rfl (Q1 rfl rfl (Xf h3)) (Ev.gd (U4 k Tryz.underlying9 rfl rfl rfl h0)) (QZ rfl rfl (Q1 rfl rfl (Xf h3)) (fun _=>(Ev.gd (HQ rfl rfl))) ?_)
  refine QZ rfl rfl rfl (fun _=>(JC rfl (Xf h3) rfl)) ?_
  refine VC.nil (Qc (Qh [5,1,0,22] rfl (Qt rfl (fun h4=> ?_) (fun h4=> ?_))))
  ·have hyx:y=x:=UInt8.toNat_inj.1 (by have :=h4;omega)
   refine Qr (Qc (Qw (Qa (Qb rfl rfl (QK rfl rfl (by omega) (by omega) rfl ?_)))))
   refine Qe rfl rfl (Qf (Ql ?_))
   exact Q4 (L1:=[(0,_),(1,_),(5,intV ((n+1:Nat):Int))]) (Cr rfl rfl rfl) (k1:=s.length -k -(n+1)) (by omega) ⟨n+1,rfl,rfl,hS2.pick [0] rfl, by omega, by omega, fun j hj=> by by_cases e:j=n;(subst e; rw[hy,hyx]); exact he j (by omega)⟩
  have hyx:y≠x:= fun q=>h4 (by rw[q])
  exact QR (Qq (Qq (Qy (Qc (Qd (Qa (Qb rfl rfl (Qe rfl rfl (Qf (Qc (Qu (QP (.inr rfl) rfl rfl (⟨_,rfl, by rw[IZ h0 hn hle he (.inr ⟨y,hy,hyx⟩)],hS2.pick [0] rfl⟩)))))))))))))
 refine Q7 rfl rfl (Q9 rfl rfl (Q6 h3)) (Q7 rfl rfl (Q9 rfl rfl (Q6 h3)) (Q7 rfl rfl (Q9 rfl rfl (Q6 h3)) (Q7 rfl rfl (Q9 rfl rfl (Q6 h3)) (Q7 rfl rfl (Q9 rfl rfl (Q6 h3)) (Q7 rfl rfl (Q9 rfl rfl (Q6 h3)) (Q7 rfl rfl (Q9 rfl rfl (Q6 h3)) (Q7 rfl rfl (Q9 rfl rfl (Q6 h3)) (Q7 rfl rfl (Q9 rfl rfl (Q6 h3)) (QZ rfl rfl rfl (fun _=>(Wh rfl (Q6 h3) rfl)) ?_)))))))))
 exact VC.nil (Qc (Qh [5,1,0,22] rfl (QT rfl (QR (Qq (Qq (Qy (Qc (Qd (Qa (Qb rfl rfl (Qe rfl rfl (Qf (Qc (Qu (QP (.inr rfl) rfl rfl (⟨_,rfl, by rw[IZ h0 hn hle he (.inl (by omega))],hS2.pick [0] rfl⟩)))))))))))))))))
def okPc (p:Bs) (ks:List (Bs×Bool)) (k:Bs×Bool):Prop:= ∃rest,BG p=ks++k::rest
def YieldsP (P:Program) (l:Nat) (ok:List (Bs×Bool)→Bs×Bool→Prop) (J:List (Bs×Bool)→Th):Prop:=
  ∀(ks:List (Bs×Bool)) (k:Bs×Bool) (R:Th) (w:World),ok ks k→Sat w [J ks,R]→YieldAt Fence.wide 0 P l #[strV k.1,.bool k.2] w (fun e w'=>e= .returned (.bool true)∧Sat w' [J (ks++[k]),R])
theorem Pt {s:Bs} {k:Nat} (h:k=s.length∨3≤Rm (s.drop k)):lit (s.drop k)=0:=Iu (by rcases h with h | h; exact .inl (by rw[h,List.drop_length]); exact .inr h)
theorem pcs_it {w:World} {l c:Nat} {page:Bs} {J:List (Bs×Bool)→Th} {F:Th} (hpl:page.length≤1000) (hS:Sat w [J [],QG c [strV page],F]) (hY:YieldsP Tryz.prog l (okPc page) J):
    Calls Tryz.prog 215 #[.func (.yield l) #[] #[],ptrV c 0] w (Ret fun v w'=>Sat w' [J (BG page),QG c [strV page],F]):= by
 refine Qo Tryz.func215 rfl Tryz.ntmps215 rfl ?_
 refine Qd (Qa (Qe rfl rfl (Qf (Qc (Qw ?_)))))
 refine Xa (fun K0 E0 W0=> ∃(ks:List (Bs×Bool)) (a:Nat),K0=page.length -a∧E0=[(0,.func (.yield l) #[] #[]),(1,ptrV c 0),(3,intV (a:Int))]∧Sat W0 [J ks,QG c [strV page],F]∧(BG page=ks++BG (page.drop a))∧(a≤page.length)) (L0:=[(0,_),(1,_),(3,_)]) (page.length -0) (Cr rfl rfl rfl) ⟨[],0,rfl,rfl,hS, by simp, by omega⟩ ?_
 rintro _ _ w1 ⟨ks,a,rfl,rfl,hS1,hks,hal⟩
 refine Qd (Qd (Qa (Qb rfl rfl (Qp rfl ZZ (by first | assumption | exact hS1.cell 1 rfl rfl) rfl ?_))))
 refine Wi Tryz.underlying9 rfl rfl (Xg rfl rfl rfl (Qf (Qc (Qt rfl (fun h2=> ?_) (fun h2=> ?_)))))
 ·have he1:=Lm (l:=page.drop a) (fun q=> by have :=congrArg List.length q; rw[List.length_drop]at this; simp at this;omega)
  have he2:a+Rm (page.drop a)≤page.length:= by have :=IY (page.drop a); rw[List.length_drop]at this;omega
  refine Qr (Qc (Qw (Qd (Qa (Qp rfl ZZ (by first | assumption | exact hS1.cell 1 rfl rfl) rfl ?_)))))
  refine Qb rfl rfl (Qv Lx rfl (Ch (hS1.sp [] rfl) page (a) (by omega) hpl) rfl ?_)
  rintro _ w3 ⟨rfl,hS3⟩
  replace hS3:=hS3.jn rfl rfl
  clear hS1
  refine Qe rfl rfl (Qe rfl rfl (Qf (Qc (Qh [3,1,0,4,5] rfl (Qd (Qd (Qa (Qb rfl rfl (Xg rfl rfl rfl (Qf (Qc (Qt rfl (fun h4=> ?_) (fun h4=> ?_)))))))))))))
  ·refine Qd (Qa (Qe rfl rfl (Qf (Qc (Qw (Xa (fun K0 E0 W0=> ∃(m:Nat),K0=page.length -a -m∧E0=[(0,.func (.yield l) #[] #[]),(1,ptrV c 0),(3,intV (a:Int)),(4,intV (m:Int)),(5,.bool false)]∧Sat W0 [J ks,QG c [strV page],F]∧(1≤m)∧(a+m≤page.length)∧(Rm (page.drop a)+lit (page.drop (a+Rm (page.drop a)))=m+lit (page.drop (a+m)))) (L0:=[(0,_),(1,_),(3,_),(4,_),(5,_)]) (page.length -a -Rm (page.drop a)) (Vp rfl rfl rfl rfl rfl) ⟨Rm (page.drop a),rfl,rfl,hS3,he1,he2,rfl⟩ ?_))))))
   rintro _ _ w5 ⟨m,rfl,rfl,hS5,hm1,hm2,hm3⟩
   refine Qd (Qd (Qa (Qb rfl rfl (Qb rfl rfl (QK rfl rfl (by omega) (by omega) rfl ?_)))))
   refine Qp rfl ZZ (hS5.cell 1 rfl rfl) rfl (Wi Tryz.underlying9 rfl rfl (Xg rfl rfl rfl (Qb rfl rfl (QW 21 rfl (fun h6=> ?_) (fun h6=> ?_)))))
   ·refine Qk rfl rfl (Xf h6) (Qp rfl ZZ (hS5.cell 1 rfl rfl) rfl (Qk rfl rfl (Xf h6) (Qb rfl rfl (Qk rfl rfl (Xf h6) (Qb rfl rfl (Qk rfl rfl (Xf h6) (QK rfl rfl (by omega) (by omega) rfl ?_)))))))
    refine Qk rfl rfl (Xf h6) (Qv Lx rfl (Ch (hS5.sp [] rfl) page (a+m) (by omega) hpl) rfl ?_)
    rintro _ w7 ⟨rfl,hS7⟩
    replace hS7:=hS7.jn rfl rfl
    clear hS5
    refine Qk rfl rfl (Xf h6) (Xg rfl rfl rfl (QC rfl (Xf h6) rfl rfl (Qf (Qc (Qh [5,4,3,1,0,28] rfl (Qt rfl (fun h8=> ?_) (fun h8=> ?_)))))))
    ·refine Qr (Qc (Qw (Qa (Qb rfl rfl (QK rfl rfl (by omega) (by omega) rfl ?_)))))
     refine Qe rfl rfl (Qf (Ql ?_))
     exact Q4 (L1:=[(0,_),(1,_),(3,_),(4,intV ((m+1:Nat):Int)),(5,_)]) (Vp rfl rfl rfl rfl rfl) (k1:=page.length -a -(m+1)) (by omega) ⟨m+1,rfl,rfl,hS7.pick [0,1,2] rfl, by omega, by omega, by rw[hm3,Iv (Zi (by omega)) (by omega), show a+(m+1)=a+m+1 by omega];omega⟩
    refine QR (Qq (Qq (Qy (Qc (Qd (Qd ?_))))))
    have hm:Jr (page.drop a)=m:= by unfold Jr; rw[if_neg (by omega),List.drop_drop]; have :=Pt (s:=page) (k:=a+m) (.inr (by omega));omega
    have hbb:decide (3≤Rm (page.drop a))=false:= by exact Q6 (by omega)
    have hpc:BG page=ks++((page.take (a+m)).drop a,false)::BG (page.drop (a+m)):= by rw[hks,RC (l:=page.drop a) (fun q=> by have :=congrArg List.length q; rw[List.length_drop]at this; simp at this;omega),List.drop_drop,hm,hbb,List.drop_take, show a+m -a=m by omega]
    have hSy:=hS7.sp [0] rfl
    refine WX (X5 rfl (Xm rfl) (X5 rfl (Qm rfl ZZ (hS7.cell 1 rfl rfl)) (X5 rfl (Xm rfl) (X5 rfl (Xm rfl) (X5 rfl (Xm rfl) (X5 rfl (GW rfl rfl (by omega) (by omega)) ?_))))))
    refine X5 rfl (Ku a (a+m) Tryz.underlying9 rfl (Bh a _ rfl rfl) (Bh (a+m) _ rfl (by omega)) (by omega) (by omega)) ?_
    refine X5 rfl (Xm rfl) (KP rfl rfl rfl rfl (hY ks ((page.take (a+m)).drop a,false) _ _ ⟨_,hpc⟩ hSy) ?_)
    intro w5 hS5; replace hS5:=hS5.jn rfl rfl
    refine X5 rfl (Uo rfl) (Hj (Qc (Qh [4,3,1,0,40] rfl (QT rfl (Qr (Qc (Qa (Qb rfl rfl (Qb rfl rfl (QK rfl rfl (by omega) (by omega) rfl ?_))))))))))
    refine Qe rfl rfl (Qf (Ql ?_))
    exact Q4 (L1:=[(0,_),(1,_),(3,intV ((a+m:Nat):Int))]) (Cr rfl rfl rfl) (k1:=page.length -(a+m)) (by omega) ⟨_,a+m,rfl,rfl,hS5.pick [0,1,2] rfl, by rw[hpc,List.append_assoc];rfl, by omega⟩
   refine Qi rfl rfl (Q6 h6) rfl (Qi rfl rfl (Q6 h6) rfl (Qi rfl rfl (Q6 h6) rfl (Qi rfl rfl (Q6 h6) rfl (Qi rfl rfl (Q6 h6) rfl (Qi rfl rfl (Q6 h6) rfl (QO rfl (Q6 h6) rfl rfl (Qf (Qc (Qh [5,4,3,1,0,28] rfl (QT rfl (QR (Qq (Qq (Qy (Qc (Qd (Qd ?_)))))))))))))))))
   have hm:Jr (page.drop a)=m:= by unfold Jr; rw[if_neg (by omega),List.drop_drop]; have :=Pt (s:=page) (k:=a+m) (.inl (by omega));omega
   have hbb:decide (3≤Rm (page.drop a))=false:= by exact Q6 (by omega)
   have hpc:BG page=ks++((page.take (a+m)).drop a,false)::BG (page.drop (a+m)):= by rw[hks,RC (l:=page.drop a) (fun q=> by have :=congrArg List.length q; rw[List.length_drop]at this; simp at this;omega),List.drop_drop,hm,hbb,List.drop_take, show a+m -a=m by omega]
   have hSy:=hS5.sp [0] rfl
   refine WX (X5 rfl (Xm rfl) (X5 rfl (Qm rfl ZZ (hS5.cell 1 rfl rfl)) (X5 rfl (Xm rfl) (X5 rfl (Xm rfl) (X5 rfl (Xm rfl) (X5 rfl (GW rfl rfl (by omega) (by omega)) ?_))))))
   refine X5 rfl (Ku a (a+m) Tryz.underlying9 rfl (Bh a _ rfl rfl) (Bh (a+m) _ rfl (by omega)) (by omega) (by omega)) ?_
   refine X5 rfl (Xm rfl) (KP rfl rfl rfl rfl (hY ks ((page.take (a+m)).drop a,false) _ _ ⟨_,hpc⟩ hSy) ?_)
   intro w5 hS5; replace hS5:=hS5.jn rfl rfl
   refine X5 rfl (Uo rfl) (Hj (Qc (Qh [4,3,1,0,40] rfl (QT rfl (Qr (Qc (Qa (Qb rfl rfl (Qb rfl rfl (QK rfl rfl (by omega) (by omega) rfl ?_))))))))))
   refine Qe rfl rfl (Qf (Ql ?_))
   exact Q4 (L1:=[(0,_),(1,_),(3,intV ((a+m:Nat):Int))]) (Cr rfl rfl rfl) (k1:=page.length -(a+m)) (by omega) ⟨_,a+m,rfl,rfl,hS5.pick [0,1,2] rfl, by rw[hpc,List.append_assoc];rfl, by omega⟩
  refine Qr (Qc (Qd (Qd ?_)))
  obtain⟨m,hm0⟩: ∃m,m=Rm (page.drop a):=⟨_,rfl⟩
  have hm:Jr (page.drop a)=m:= by unfold Jr; rw[if_pos (by omega),hm0]
  have hbb:decide (3≤Rm (page.drop a))=true:= by exact Xf (by omega)
  rw[←hm0]
  have hpc:BG page=ks++((page.take (a+m)).drop a,true)::BG (page.drop (a+m)):= by rw[hks,RC (l:=page.drop a) (fun q=> by have :=congrArg List.length q; rw[List.length_drop]at this; simp at this;omega),List.drop_drop,hm,hbb,List.drop_take, show a+m -a=m by omega]
  have hSy:=hS3.sp [0] rfl
  refine WX (X5 rfl (Xm rfl) (X5 rfl (Qm rfl ZZ (hS3.cell 1 rfl rfl)) (X5 rfl (Xm rfl) (X5 rfl (Xm rfl) (X5 rfl (Xm rfl) (X5 rfl (GW rfl rfl (by omega) (by omega)) ?_))))))
  refine X5 rfl (Ku a (a+m) Tryz.underlying9 rfl (Bh a _ rfl rfl) (Bh (a+m) _ rfl (by omega)) (by omega) (by omega)) ?_
  refine X5 rfl (Xm rfl) (KP rfl rfl rfl rfl (hY ks ((page.take (a+m)).drop a,true) _ _ ⟨_,hpc⟩ hSy) ?_)
  intro w5 hS5; replace hS5:=hS5.jn rfl rfl
  refine X5 rfl (Uo rfl) (Hj (Qc (Qh [3,1,0,4,40] rfl (QT rfl (Qr (Qc (Qa (Qb rfl rfl (Qb rfl rfl (QK rfl rfl (by omega) (by omega) rfl ?_))))))))))
  refine Qe rfl rfl (Qf (Ql ?_))
  exact Q4 (L1:=[(0,_),(1,_),(3,intV ((a+m:Nat):Int))]) (Cr rfl rfl rfl) (k1:=page.length -(a+m)) (by omega) ⟨_,a+m,rfl,rfl,hS5.pick [0,1,2] rfl, by rw[hpc,List.append_assoc];rfl, by omega⟩
 refine QR (Qq (Qq (Qy (ZY (.inl rfl) rfl ?_))))
 exact⟨_,rfl, by rw[show a=page.length by omega,List.drop_length,C7,List.append_nil]at hks; rw[hks]; exact hS1⟩
theorem pcs_sp {w:World} {page:Bs} {F:Th} (hS:Sat w [F]):
    Calls Tryz.prog 177 #[strV page] w (Ret fun v w'=> ∃c,v= .func (.func 215) #[] #[ptrV c 0]∧Sat w' [QG c [strV page],F]):= by
 refine Qo Tryz.func177 rfl Tryz.ntmps177 rfl ?_
 refine Qd (Qa (XX hS rfl rfl rfl ?_))
 intro b1 w1 hS1
 exact Qe rfl rfl (Qf (Qc (Qd (Qa (ZM rfl rfl (Qe rfl rfl (Qf (Qc (Qu (QP (.inr rfl) rfl rfl (⟨_,rfl,_,rfl,hS1⟩)))))))))))
def FT (o:Option Bs):Value:= .tuple #[strV (o.getD []),.bool o.isSome]
def Jp (l D b:Nat) (rec:Loop) (ks:List (Bs×Bool)):Th:=starL [Jx l rec,Ws D,Va b (Z6 ks)]
theorem C8 {w:World} {F:Th} (hS:Sat w [F]) (page:Bs) (hp:page.length=64):
    Calls Tryz.prog 141 #[strV page] w (Ret fun v w'=>v=FT (Uy page)∧Sat w' [F]):= by
 obtain⟨hpo,hpf,hpl⟩:=TJ (p:=page) (by omega)
 have heL:=M6 hpo
 refine Hu Tryz.func141 rfl Tryz.ntmps141 rfl ?_
 refine Qd (Qa (Qe rfl rfl (Qe rfl rfl (Qf (Qc (Qd (Qd (Qa (Qb rfl rfl (Wi Tryz.underlying9 rfl rfl (X0 rfl rfl rfl (Qf (Qc (Qt rfl (fun h1=> ?_) (fun h1=> ?_)))))))))))))))
 ·exact absurd h1 (by simp;omega)
 refine Qr (Qc (Qd (Qa (G6 hS Sr (cs:=[.pointer none,.slice none 0 0]) rfl rfl ?_))))
 intro bb wB hSB
 have hSC:=YJ (.inl rfl) ((MK hSB).perm (List.Perm.swap _ _ _))
 refine Qf (Qc (Qd (Qd (Qa (Qb rfl rfl (Qv cal_177 rfl (pcs_sp (hSC.sp [] rfl) (page:=page)) rfl ?_))))))
 rintro _ w2 ⟨c,rfl,hS2⟩
 replace hS2:=hS2.jn rfl rfl
 clear hSC
 refine Qf (Qc (Qw (Hk (caps:=[ptrV c 0]) rfl cal_215 ?_)))
 intro rec hr1 hr2 hr3 hr4 hr5 htn htf
 have hE:=hS2.enter_loop rec
 have hE2:=hE.pick [0,1,3,2,4] rfl
 have hE3:=Sat.fold (As:=[Jx _ rec,Ws _,Va _ (Z6 [])]) hE2
 refine(pcs_it (J:=Jp _ _ bb rec) (by omega) hE3 ?_).mono ?_
 rotate_left
 ·rintro e w3 ⟨v0,rfl,hw3⟩
  have hw4:=hw3.flat; dsimp only[BC,BB]at hw4
  refine⟨⟨v0,rfl⟩,rec,hw4.loop 0 rfl, by rw[hr1]; simp,hr2, ?_⟩
  intro a0 ha1 ha2
  have hw5:=hw4.loop_put 0 rfl (rec':={rec with state:= .exhausted}); dsimp only[List.set]at hw5
  refine qsD_app (n:=32) ha2 (by rw[ha1]; exact htn) (by rw[ha1]; exact htf) ?_
  refine GL (XI (XT (XT (XN ?_))))
  have hC3:=hw5.sp [2] rfl
  refine Qv cal_178 rfl (bl_len hC3) rfl ?_
  rintro _ w3 ⟨rfl,hS3⟩
  replace hS3:=hS3.jn rfl rfl; clear hC3
  clear hw5
  refine YA rfl rfl rfl (Qf (ZJ (XI (WY (L':=[(30,_),(4,_),(3,_),(2,_)]) (Vl rfl rfl rfl rfl) (Ed rfl (fun h4=> ?_) (fun h4=> ?_))))))
  ·refine XT (XN (Qe rfl rfl (Qe rfl rfl (Qf (ZJ (XI (Ua (UP ?_))))))))
   obtain⟨hD,hZ⟩:=hS3.defer_put (o:= .deferred none) 2 rfl
   dsimp only[List.eraseIdx]at hZ
   refine finM (.inr rfl) hD (res2 rfl rfl rfl) ?_
   exact⟨_,rfl, by unfold Uy; rw[if_neg (by omega)];rfl,hZ.pick [3] rfl⟩
  refine Vt (XI (XT (XN (Qv Dp rfl (Ci (hS3.sp [0] rfl) (by omega)) rfl ?_))))
  rintro _ w5 ⟨rfl,hS5⟩
  replace hS5:=hS5.jn rfl rfl
  clear hS3
  refine Qe rfl rfl (Qe rfl rfl (Qf (ZJ (XI (Ua ?_)))))
  obtain⟨hD,hZ⟩:=hS5.defer_put (o:= .deferred none) 1 rfl
  dsimp only[List.eraseIdx]at hZ
  refine finM (.inr rfl) hD (res2 rfl rfl rfl) ?_
  exact⟨_,rfl, by unfold Uy; rw[if_pos (by omega)];rfl,hZ.pick [2] rfl⟩
 intro ks k R w2 hok hw2
 have hw4:=hw2.flat; dsimp only[Jp,BC,BB]at hw4
 have hw6:=hw4
 obtain⟨rest,hrest⟩:=hok
 have hok1:okP k:=hpo _ (by rw[hrest]; simp)
 have hkl:ks.length≤64:= by have :=congrArg List.length hrest; simp at this;omega
 have hel:=M6 (l:=ks) (fun y hy=>hpo _ (by rw[hrest]; simp [hy]))
 obtain⟨hk1,hk2,hk3⟩:=hok1
 refine yieldG (hw6.loop 0 rfl) hr1 hr2 hr3 hr4 hr5 htn htf rfl rfl (BP ?_)
 refine Yb (by rintro⟨_,_,q⟩; exact q) rfl ?_
 refine Qe rfl rfl (Qf (BW (Cu (L':=[(5,_),(13,_),(4,_),(3,_),(2,_)]) (Vp rfl rfl rfl rfl rfl) ?_)))
 refine Yb (by rintro⟨_,_,q⟩; exact q) rfl ?_
 refine Qe rfl rfl (Qf (E5 (hw6.loop 0 rfl) hr1 ?_))
 have hw7:=hw6.loop_put 0 rfl (rec':={rec with state:= .busy}); dsimp only[List.set]at hw7
 refine Ec (BP ?_)
 refine Yb (by rintro⟨_,_,q⟩; exact q) rfl ?_
 refine Qb rfl rfl (Qf (BW (AU rfl (fun h6=> ?_) (fun h6=> ?_))))
 ·have hkT:k.2=true:=h6
  refine BP ?_
  refine Yb (by rintro⟨_,_,q⟩; exact q) rfl ?_
  refine Qb rfl rfl (Wi Tryz.underlying9 rfl rfl (QK rfl rfl (by omega) (by omega) rfl ?_))
  refine Br (128+k.1.length) Tryz.underlying3 Tryz.underlying5 rfl (by rfl) rfl ?_
  have hC7:=hw7.sp [2] rfl
  refine Qv Dq rfl (Hv hC7 (UInt8.ofNat (128+k.1.length)) (by omega)) rfl ?_
  rintro _ w7 ⟨rfl,hS7⟩
  replace hS7:=hS7.jn rfl rfl; clear hC7
  clear hw7
  refine Qf (BW (Cu (L':=[(5,_),(4,_),(3,_),(2,_)]) (Vl rfl rfl rfl rfl) ?_))
  refine Yb (by rintro⟨_,_,q⟩; exact q) rfl ?_
  refine Qb rfl rfl ?_
  refine Y9 (c:=k.1.headD 0) 0 Tryz.underlying9 rfl rfl rfl (by rw[←List.head?_eq_getElem?]; cases hq:k.1 with | nil=> rw[hq]at hk1; simp at hk1 | cons x l=>rfl) rfl ?_
  refine Qv Dq rfl (Hv (hS7.sp [0] rfl) (k.1.headD 0) (by simp;omega)) rfl ?_
  rintro _ w8 ⟨rfl,hS8⟩
  replace hS8:=hS8.jn rfl rfl
  clear hS7
  refine Qf (Uu (FN (hS8.loop 1 rfl) hr1 hr2 ?_))
  have hw9:=hS8.loop_put 1 rfl (rec':=rec); dsimp only[List.set]at hw9
  have hek:Z6 (ks++[k])=Z6 ks++[UInt8.ofNat (128+k.1.length)]++[k.1.headD 0]:= by rw[HR]; simp only[Z6,List.flatMap_cons,List.flatMap_nil,List.append_nil]; rw[M7,if_pos hkT]; simp
  refine Sat.fold (As:=[Jx _ rec,Ws _,Va _ (Z6 (ks++[k]))]) ?_
  rw[hek]; exact hw9.pick [1,2,0,3] rfl
 have hkF:k.2=false:=h6
 refine BP ?_
 refine Yb (by rintro⟨_,_,q⟩; exact q) rfl ?_
 refine Qb rfl rfl (Wi Tryz.underlying9 rfl rfl (Br k.1.length Tryz.underlying3 Tryz.underlying5 rfl (by rfl) rfl ?_))
 have hC9:=hw7.sp [2] rfl
 refine Qv Dq rfl (Hv hC9 (UInt8.ofNat k.1.length) (by omega)) rfl ?_
 rintro _ w9 ⟨rfl,hS9⟩
 replace hS9:=hS9.jn rfl rfl; clear hC9
 clear hw7
 refine Qf (BW (Cu (L':=[(5,_),(4,_),(3,_),(2,_)]) (Vl rfl rfl rfl rfl) ?_))
 refine Yb (by rintro⟨_,_,q⟩; exact q) rfl ?_
 refine Qb rfl rfl ?_
 refine Qv LA rfl (VX (hS9.sp [0] rfl) k.1 (by simp;omega)) rfl ?_
 rintro _ w10 ⟨rfl,hS10⟩
 replace hS10:=hS10.jn rfl rfl
 clear hS9
 refine Qf (Uu (FN (hS10.loop 1 rfl) hr1 hr2 ?_))
 have hw9:=hS10.loop_put 1 rfl (rec':=rec); dsimp only[List.set]at hw9
 have hek:Z6 (ks++[k])=Z6 ks++[UInt8.ofNat k.1.length]++k.1:= by rw[HR]; simp only[Z6,List.flatMap_cons,List.flatMap_nil,List.append_nil]; rw[M7,if_neg (by rw[hkF];decide)]; simp
 refine Sat.fold (As:=[Jx _ rec,Ws _,Va _ (Z6 (ks++[k]))]) ?_
 rw[hek]; exact hw9.pick [1,2,0,3] rfl
theorem FF {dn rest:List (Bs×Bool)} {x:Bs×Bool} (hx:x.2=true):(Z6 (dn++x::rest))[(Z6 dn).length]? =some (UInt8.ofNat (128+x.1.length))∧(Z6 (dn++x::rest))[(Z6 dn).length+1]? =some (x.1.headD 0)∧(Z6 (dn++[x])).length=(Z6 dn).length+2∧(Z6 dn).length+2≤(Z6 (dn++x::rest)).length:= by
  have e:Z6 (dn++x::rest)=Z6 dn++(UInt8.ofNat (128+x.1.length)::x.1.headD 0::Z6 rest):= by
    rw[HR]; simp only[Z6,List.flatMap_cons]; rw[M7,if_pos hx]; simp
  have e2:Z6 (dn++[x])=Z6 dn++[UInt8.ofNat (128+x.1.length),x.1.headD 0]:= by
    rw[HR]; simp only[Z6,List.flatMap_cons,List.flatMap_nil]; rw[M7,if_pos hx]; simp
  rw[e,e2]
  refine⟨by rw[List.getElem?_append_right (by omega)]; simp, by rw[List.getElem?_append_right (by omega)]; simp, by simp, by simp⟩
theorem FG {dn rest:List (Bs×Bool)} {x:Bs×Bool} (hx:x.2=false):(Z6 (dn++x::rest))[(Z6 dn).length]? =some (UInt8.ofNat x.1.length)∧((Z6 (dn++x::rest)).take ((Z6 dn).length+1+x.1.length)).drop ((Z6 dn).length+1)=x.1∧(Z6 (dn++[x])).length=(Z6 dn).length+1+x.1.length∧(Z6 dn).length+1+x.1.length≤(Z6 (dn++x::rest)).length:= by
  have e:Z6 (dn++x::rest)=Z6 dn++(UInt8.ofNat x.1.length::x.1)++Z6 rest:= by
    rw[HR]; simp only[Z6,List.flatMap_cons]; rw[M7,if_neg (by rw[hx];decide)]; simp
  have e2:Z6 (dn++[x])=Z6 dn++(UInt8.ofNat x.1.length::x.1):= by
    rw[HR]; simp only[Z6,List.flatMap_cons,List.flatMap_nil]; rw[M7,if_neg (by rw[hx];decide)]; simp
  rw[e,e2]
  refine⟨by rw[List.append_assoc,List.getElem?_append_right (by omega)]; simp, ?_, by simp;omega, by simp;omega⟩
  rw[List.take_append_of_le_length (by simp;omega)]
  rw[List.take_of_length_le (by simp;omega),List.drop_append,List.drop_of_length_le (by omega),List.nil_append, show(Z6 dn).length+1 -(Z6 dn).length=1 by omega]
  rfl
theorem Lw {dn rest:List (Bs×Bool)} {p:Bs} (h:(dn++rest).flatMap (·.1)=p):(dn.flatMap (·.1)).length≤p.length:= by
  rw[←h,List.flatMap_append,List.length_append];omega
theorem G9 {w:World} {F:Th} (hS:Sat w [F]) {p f:Bs} (hp:p.length=64) (hf:Uy p=some f):
    Calls Tryz.prog 92 #[strV f] w (Ret fun v w'=>v= .tuple #[strV p,.bool true]∧Sat w' [F]):= by
 obtain⟨hpo,hpf,hpl⟩:=TJ (p:=p) (by omega)
 obtain⟨hf47,hfe⟩:=Me hf
 refine Qo Tryz.func92 rfl Tryz.ntmps92 rfl ?_
 refine Qd (Qa (Qe rfl rfl (Qe rfl rfl (Qf (Qc (Qd (Qd (Qa (Qb rfl rfl (Wi Tryz.underlying9 rfl rfl (YA rfl rfl rfl (Qf (Qc (Qt rfl (fun h1=> ?_) (fun h1=> ?_)))))))))))))))
 ·exact absurd h1 (by omega)
 refine Qr (Qc (Qd (Qa (G6 hS Sr (cs:=[.pointer none,.slice none 0 0]) rfl rfl ?_))))
 intro bb wB hSB
 have hSC:=YJ (.inl rfl) ((MK hSB).perm (List.Perm.swap _ _ _))
 refine Qf (Qc (Qd (Qd (Qa (Qe rfl rfl (Qf (Qc (Qw (Xa (fun K0 E0 W0=> ∃(dn rest:List (Bs×Bool)),K0=rest.length∧E0=[(0,strV f),(4,ptrV bb 0),(5,intV ((Z6 dn).length:Int))]∧Sat W0 [Va bb (dn.flatMap (·.1)),F]∧(BG p=dn++rest)) (L0:=[(0,_),(4,_),(5,_)]) ((BG p).length) (Cr rfl rfl rfl) ⟨[],BG p,rfl,rfl,hSC,rfl⟩ ?_)))))))))
 rintro _ _ w2 ⟨dn,rest,rfl,rfl,hS2,hdr⟩
 refine Qd (Qd (Qa (Qb rfl rfl (Qb rfl rfl (Wi Tryz.underlying9 rfl rfl (Xg rfl rfl rfl (Qf (Qc (Qt rfl (fun h3=> ?_) (fun h3=> ?_))))))))))
 ·obtain⟨x,rest,rfl⟩: ∃x r,rest=x::r:= by cases rest with | nil=>(exfalso; have hh:=h3; rw[hfe,hdr,List.append_nil]at hh;omega) | cons x r=> exact⟨x,r,rfl⟩
  have hxo:okP x:=hpo x (by rw[hdr]; simp)
  obtain⟨hx1,hx2,hx3⟩:=hxo
  obtain⟨c0,hc0,hcn0⟩: ∃c,f[(Z6 dn).length]? =some c∧c.toNat= if x.2=true then 128+x.1.length else x.1.length:= by(rw[hfe,hdr]; cases hb:x.2 with | true=> exact⟨_,(FF hb).1, by simp;omega⟩ | false=> exact⟨_,(FG hb).1, by simp;omega⟩)
  refine Qr (Qc (Qw (Qd (Qa (Qb rfl rfl (Qb rfl rfl (Y9 ((Z6 dn).length) Tryz.underlying9 rfl rfl (by first | rfl | omega) hc0 rfl ?_)))))))
  refine LX Tryz.underlying5 Tryz.underlying3 rfl rfl (Qe rfl rfl (Qf (Qc (Qh [5,4,0,6] rfl (Qd (Qa (Qb rfl rfl (QK rfl rfl (by omega) (by omega) rfl ?_))))))))
  refine Qe rfl rfl (Qf (Qc (Qw (Qd (Qa (Qb rfl rfl (JQ rfl rfl rfl (Qb rfl rfl (QW 25 rfl (fun h4=> ?_) (fun h4=> ?_))))))))))
  ·have hb:x.2=true:= by cases hb:x.2 with | true=>rfl | false=>(exfalso; rw[hb]at hcn0; simp at hcn0; have :=h4;omega)
   obtain⟨_,hc1,hel,hlf⟩:=FF (dn:=dn) (rest:=rest) hb
   rw[←hdr,←hfe]at hc1 hlf
   have hcn:c0.toNat=128+x.1.length:= by rw[hcn0,if_pos hb]
   replace hx3:=hx3 hb
   refine Qk rfl rfl (Xf h4) (Qb rfl rfl (Qk rfl rfl (Xf h4) (Qb rfl rfl (Qk rfl rfl (Xf h4) (Wi Tryz.underlying9 rfl rfl (Qk rfl rfl (Xf h4) (Xg rfl rfl rfl (QC rfl (Xf h4) rfl rfl (Qe rfl rfl (Qf (Qc (Qh [4,0,6,5,22] rfl (Qt rfl (fun h5=> ?_) (fun h5=> ?_))))))))))))))
   ·refine Qd (Qd (Qa (Qb rfl rfl (Hi rfl rfl (by omega) (by omega) rfl ?_))))
    refine Qb rfl rfl (Qf (Qc (Qw ?_)))
    have hSl:=hS2.pick [0,1] rfl; rw[←List.append_nil (dn.flatMap (·.1))]at hSl
    rw[show c0.toNat=128+x.1.length from hcn]
    have e32:(((128+x.1.length:Nat):Int) -128)=(x.1.length:Int):= by omega
    rw[e32]
    refine Xa (fun K0 E0 W0=> ∃(i:Nat),K0=x.1.length -i∧E0=[(0,strV f),(4,ptrV bb 0),(5,intV (((Z6 dn).length+1:Nat):Int)),(32,intV (x.1.length:Int)),(33,intV (i:Int))]∧Sat W0 [Va bb (dn.flatMap (·.1)++List.replicate i (x.1.headD 0)),F]∧(i≤x.1.length)) (L0:=[(0,_),(4,_),(5,_),(32,_),(33,_)]) (x.1.length -0) (Vp rfl rfl rfl rfl rfl) ⟨0,rfl,rfl,hSl, by omega⟩ ?_
    rintro _ _ w6 ⟨i,rfl,rfl,hS6,hi⟩
    refine Qd (Qa (Xg rfl rfl rfl (Qf (Qc (Qd (Qt rfl (fun h7=> ?_) (fun h7=> ?_)))))))
    ·refine Qr (Qc (Qd (Qw (Qa (Qb rfl rfl (Qb rfl rfl (Y9 ((Z6 dn).length+1) Tryz.underlying9 rfl rfl (by first | rfl | omega) hc1 rfl ?_)))))))
     refine Qv Dq rfl (Hv (hS6.sp [0] rfl) (x.1.headD 0) (by have :=Lw (p:=p) (by rw[←hdr]; exact hpf); rw[List.length_append,List.length_replicate];omega)) rfl ?_
     rintro _ w8 ⟨rfl,hS8⟩
     replace hS8:=hS8.jn rfl rfl
     clear hS6
     refine Qf (Ql (Qc (Qa (QK rfl rfl (by omega) (by omega) rfl ?_))))
     refine Qb rfl rfl (Qf ?_)
     have hSz:=hS8.pick [0,1] rfl; rw[List.append_assoc,←List.replicate_succ']at hSz
     exact Q4 (L1:=[(0,_),(4,_),(5,_),(32,_),(33,intV ((i+1:Nat):Int))]) (Vp rfl rfl rfl rfl rfl) (k1:=x.1.length -(i+1)) (by omega) ⟨i+1,rfl,rfl,hSz, by omega⟩
    refine QR (Qq (Qq (Qy (Qc (Qa (Qb rfl rfl (QK rfl rfl (by omega) (by omega) rfl ?_)))))))
    refine Qe rfl rfl (Qf (Ql (Ql ?_)))
    have hcat:dn.flatMap (·.1)++List.replicate i (x.1.headD 0)=(dn++[x]).flatMap (·.1):= by rw[List.flatMap_append, show i=x.1.length by omega,←run_eq hx3 hx1]; simp
    have hSz:=hS6.pick [0,1] rfl
    rw[hcat]at hSz
    exact Q4 (L1:=[(0,_),(4,_),(5,intV ((Z6 (dn++[x])).length:Int))]) (by rw[hel]; exact(Cr rfl rfl rfl)) (k1:=rest.length) (by simp) ⟨dn++[x],rest,rfl,rfl,hSz, by rw[hdr,List.append_assoc];rfl⟩
   exact absurd h5 (by omega)
  have hb:x.2=false:= by cases hb:x.2 with | false=>rfl | true=>(exfalso; rw[hb]at hcn0; simp at hcn0; have :=h4;omega)
  obtain⟨_,hsl,hel,hlf⟩:=FG (dn:=dn) (rest:=rest) hb
  rw[←hdr,←hfe]at hsl hlf
  have hcn:c0.toNat=x.1.length:= by rw[hcn0,if_neg (by rw[hb];decide)]
  refine Qi rfl rfl (Q6 h4) rfl (Qi rfl rfl (Q6 h4) rfl (Qi rfl rfl (Q6 h4) rfl (Qi rfl rfl (Q6 h4) rfl (QO rfl (Q6 h4) rfl rfl (Qe rfl rfl (Qf (Qc (Qh [4,0,6,5,22] rfl (QT rfl (Qd (Qa (Qb rfl rfl (Xg rfl rfl rfl (Qb rfl rfl (QW 45 rfl (fun h9=> ?_) (fun h9=> ?_))))))))))))))))
  ·refine Qk rfl rfl (Xf h9) (Qb rfl rfl (Qk rfl rfl (Xf h9) (Qb rfl rfl (Qk rfl rfl (Xf h9) (QK rfl rfl (by omega) (by omega) rfl ?_)))))
   refine Qk rfl rfl (Xf h9) (Qb rfl rfl (Qk rfl rfl (Xf h9) (Wi Tryz.underlying9 rfl rfl (Qk rfl rfl (Xf h9) (AQ rfl rfl rfl (QC rfl (Xf h9) rfl rfl (Qe rfl rfl (Qf (Qc (Qh [4,0,6,5,42] rfl (Qt rfl (fun h10=> ?_) (fun h10=> ?_))))))))))))
   ·refine Qd (Qa (Qb rfl rfl (Qb rfl rfl (Qb rfl rfl (Qb rfl rfl (QK rfl rfl (by omega) (by omega) rfl ?_))))))
    refine Tm ((Z6 dn).length+1) ((Z6 dn).length+1+x.1.length) Tryz.underlying9 rfl (Bh _ _ rfl (by omega)) (Bh _ _ rfl (by omega)) (by omega) (by omega) rfl ?_
    rw[hsl]
    refine Qv LA rfl (VX (hS2.sp [0] rfl) x.1 (by have :=Lw (p:=p) (by rw[←hdr]; exact hpf);omega)) rfl ?_
    rintro _ w11 ⟨rfl,hS11⟩
    replace hS11:=hS11.jn rfl rfl
    clear hS2
    refine Qf (Qc (Qh [4,0,6,5] rfl (Qa (Qb rfl rfl (Qb rfl rfl (QK rfl rfl (by omega) (by omega) rfl ?_))))))
    refine Qe rfl rfl (Qf (Ql (Ql ?_)))
    have hcat:dn.flatMap (·.1)++x.1=(dn++[x]).flatMap (·.1):= by rw[List.flatMap_append]; simp
    have hSz:=hS11.pick [0,1] rfl
    rw[hcat]at hSz
    exact Q4 (L1:=[(0,_),(4,_),(5,intV ((Z6 (dn++[x])).length:Int))]) (by rw[hel,←hcn]; exact(Cr rfl rfl rfl)) (k1:=rest.length) (by simp) ⟨dn++[x],rest,rfl,rfl,hSz, by rw[hdr,List.append_assoc];rfl⟩
   exact absurd h10 (by first | omega | simp)
  exact absurd h9 (by omega)
 refine QR (Qq (Qq (Qy (Qc (Qd (Qd ?_))))))
 have hend:rest=[]:= by cases rest with | nil=>rfl | cons x r=>(exfalso; have h1:=qab x; have h2:1≤(Z6 (x::r)).length:=(by unfold Z6; rw[List.flatMap_cons,List.length_append];omega); have :=congrArg List.length hfe; rw[hdr,HR,List.length_append]at this;omega)
 subst hend
 rw[List.append_nil]at hdr
 have hSz:=bldZ_of (hS2.pick [0,1] rfl)
 rw[←hdr,hpf]at hSz
 refine Qa (Qv Dp rfl (ML (hSz.sp [0] rfl) (by omega)) rfl ?_)
 rintro _ w12 ⟨rfl,hS12⟩
 replace hS12:=hS12.jn rfl rfl
 clear hSz
 refine Qv Nj rfl (C8 (hS12.sp [] rfl) p hp) rfl ?_
 rintro _ w13 ⟨rfl,hS13⟩
 replace hS13:=hS13.jn rfl rfl
 clear hS12
 rw[hf]
 dsimp only[FT,Option.getD_some,Option.isSome_some]
 refine Qb rfl rfl (Qs rfl rfl rfl (Qs rfl rfl rfl (Qe rfl rfl (Qe rfl rfl (Qf (Qc (Qh [4,0,7,8] rfl (Qd (Qa (Qb rfl rfl (QQ rfl rfl (Qb rfl rfl (Zc 70 rfl (fun h14=> ?_) (fun h14=> ?_))))))))))))))
 ·exact absurd h14 (by simp)
 refine Qk rfl rfl h14 (Qb rfl rfl (Qk rfl rfl h14 (Qb rfl rfl (Qk rfl rfl h14 (Rv rfl rfl rfl (QO rfl h14 rfl rfl (Qf (Qc (Qh [4,74] rfl (Qt rfl (fun h15=> ?_) (fun h15=> ?_)))))))))))
 ·exact absurd h15 (by simp)
 refine Qr (Qc (Qd (Qa (Qv Dp rfl (ML (hS13.sp [0] rfl) (by omega)) rfl ?_))))
 rintro _ w16 ⟨rfl,hS16⟩
 replace hS16:=hS16.jn rfl rfl
 clear hS13
 exact Qe rfl rfl (Qe rfl rfl (Qf (Qc (Qu (Wx (.inr rfl) rfl rfl rfl (⟨_,rfl,rfl,hS16.pick [1] rfl⟩))))))
end Go.Proofs.YtkcjfoaejijdoaaGreatDoor
