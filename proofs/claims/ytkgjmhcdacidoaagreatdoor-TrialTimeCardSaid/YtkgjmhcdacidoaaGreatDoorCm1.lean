/- compress: equal, pieces -/
import Derived.Test.YtkgjmhcdacidoaaGreatDoorShelf
import Derived.Test.YtkgjmhcdacidoaaGreatDoorDrs
import Derived.Test.YtkgjmhcdacidoaaGreatDoorFw
set_option linter.unusedVariables false
set_option maxRecDepth 100000
set_option maxHeartbeats 80000000000
namespace Go.Proofs.YtkgjmhcdacidoaaGreatDoor
open Go.RowKit M Proofs.Tryz
def V7:Bs→Nat
  | []=>0
  | x::l=>1+(l.takeWhile (fun y=>decide (y=x))).length
def lit:Bs→Nat
  | []=>0
  | x::l=> if V7 (x::l)<3 then 1+lit l else 0
def WB (l:Bs):Nat:= if 3≤V7 l then V7 l else V7 l+lit (l.drop (V7 l))
theorem Lw (l:Bs):V7 l≤l.length:= by
  cases l with
  | nil=> simp [V7]
  | cons x l=> have :=(List.takeWhile_sublist (l:=l) (fun y=>decide (y=x))).length_le; simp [V7];omega
theorem NU {l:Bs} (h:l≠[]):1≤V7 l:= by
  cases l with
  | nil=> exact absurd rfl h
  | cons x l=> simp [V7]
theorem FW: ∀l:Bs,lit l≤l.length
  | []=> by simp [lit]
  | x::l=> by
    have :=FW l
    unfold lit
    split
    · simp;omega
    · simp
theorem PU (l:Bs):WB l≤l.length:= by
  unfold WB
  have :=Lw l
  have :=FW (l.drop (V7 l))
  rw[List.length_drop]at this
  split<;>omega
theorem Vs {l:Bs} (h:l≠[]):1≤WB l:= by
  unfold WB
  have :=NU h
  split<;>omega
theorem Ve {x:UInt8}: ∀{l:Bs} {n:Nat},n≤l.length→(∀j,j<n→l[j]? =some x)→(n=l.length∨ ∃y,l[n]? =some y∧y≠x)→(l.takeWhile (fun y=>decide (y=x))).length=n
  | [],n,h,_,_=> by simp at h; subst h;rfl
  | y::l,0,_,_,h=> by
    rcases h with h | ⟨z,h1,h2⟩
    · simp at h
    · simp at h1; subst h1; simp [h2]
  | y::l,n+1,h,h1,h2=> by
    have :=h1 0 (by omega)
    simp at this; subst this
    have :=Ve (x:=y) (l:=l) (n:=n) (by simpa using h) (fun j hj=> by simpa using h1 (j+1) (by omega)) (by simpa using h2)
    simp [this]
theorem Lx {s:Bs} {k n:Nat} {x:UInt8} (h0:s[k]? =some x) (hn:1≤n) (hle:k+n≤s.length) (he: ∀j,j<n→s[k+j]? =some x) (hend:k+n=s.length∨ ∃y,s[k+n]? =some y∧y≠x):V7 (s.drop k)=n:= by
  have hk:k<s.length:=(XP h0).1
  have hx:s[k]=x:=(XP h0).2
  rw[List.drop_eq_getElem_cons hk,hx]
  rw[V7,Ve (n:=n -1)]
  · omega
  · rw[List.length_drop];omega
  · intro j hj; rw[List.getElem?_drop]; have :=he (j+1) (by omega); rw[show k+1+j=k+(j+1) by omega]; exact this
  · rcases hend with h | ⟨y,h1,h2⟩
    · left; rw[List.length_drop];omega
    · right; refine⟨y, ?_,h2⟩; rw[List.getElem?_drop, show k+1+(n -1)=k+n by omega]; exact h1
theorem SQ {x:UInt8}: ∀(l:Bs) (j:Nat),j<(l.takeWhile (fun y=>decide (y=x))).length→l[j]? =some x
  | [],j,h=> by simp at h
  | y::l,j,h=> by
    by_cases hy:y=x
    · subst hy
      cases j with
      | zero=>rfl
      | succ j=> rw[List.getElem?_cons_succ]; refine SQ l j ?_; simp at h;simpa using h
    · simp [hy]at h
theorem eqN_all {l:Bs} {j:Nat} (h:j<V7 l):l[j]? =l[0]? := by
  cases l with
  | nil=> simp
  | cons x l=>
    cases j with
    | zero=>rfl
    | succ j=>
      simp [V7]at h
      have hj:j<(l.takeWhile (fun y=>decide (y=x))).length:= by omega
      rw[List.getElem?_cons_succ,List.getElem?_cons_zero]
      exact SQ l j hj
theorem FV {s:Bs} {k:Nat} {x:UInt8} (h0:s[k]? =some x) (h:V7 (s.drop k)<3):lit (s.drop k)=1+lit (s.drop (k+1)):= by
  obtain⟨hk,hx⟩:=XP h0
  rw[List.drop_eq_getElem_cons hk]at h⊢
  rw[lit,if_pos h]
theorem FU {l:Bs} (h:l=[]∨3≤V7 l):lit l=0:= by
  cases l with
  | nil=>rfl
  | cons x l=>
    rcases h with h | h
    · cases h
    · rw[lit,if_neg (by omega)]
def MZ:Nat→Bs→List (Bs×Bool)
  | 0,_=>[]
  | f+1,l=> if l=[]then[]else(l.take (WB l),decide (3≤V7 l))::MZ f (l.drop (WB l))
theorem Dg: ∀(f g:Nat) (l:Bs),l.length≤f→l.length≤g→MZ f l=MZ g l
  | 0,g,l,h,_=> by
    have hl:l=[]:=List.length_eq_zero_iff.1 (by omega)
    subst hl
    cases g with
    | zero=>rfl
    | succ g=> simp [MZ]
  | f+1,0,l,_,h=> by
    have hl:l=[]:=List.length_eq_zero_iff.1 (by omega)
    subst hl
    simp [MZ]
  | f+1,g+1,l,h1,h2=> by
    unfold MZ
    split
    · rfl
    · rename_i hl
      have :=Vs hl
      rw[Dg f g _ (by rw[List.length_drop];omega) (by rw[List.length_drop];omega)]
def RE (l:Bs):List (Bs×Bool):=MZ l.length l
theorem DO:RE []=[]:=rfl
theorem Ka {l:Bs} (h:l≠[]):RE l=(l.take (WB l),decide (3≤V7 l))::RE (l.drop (WB l)):= by
  unfold RE
  have hp:=Vs h
  have hl:1≤l.length:= by cases l with | nil=> exact absurd U h | cons=> simp
  obtain⟨m,hm⟩: ∃m,l.length=m+1:=⟨l.length -1, by omega⟩
  rw[hm,MZ,if_neg h,Dg m (l.drop (WB l)).length _ (by rw[List.length_drop];omega) (Nat.le_refl _)]
def Bf (x:Bs×Bool):Bs:= if x.2=true then[UInt8.ofNat (128+x.1.length),x.1.headD 0]else UInt8.ofNat x.1.length::x.1
def Zl (l:List (Bs×Bool)):Bs:=l.flatMap Bf
def Hp (p:Bs):Option Bs:= if(Zl (RE p)).length≤47 then some (Zl (RE p))else none
def okP (x:Bs×Bool):Prop:=1≤x.1.length∧x.1.length≤64∧(x.2=true→ ∀j,j<x.1.length→x.1[j]? =x.1[0]?)
theorem FB: ∀(n:Nat) (l:Bs),l.length≤n→n≤64→(∀x∈RE l,okP x)∧(RE l).flatMap (·.1)=l
  | 0,l,h,_=> by
    have hl:l=[]:=List.length_eq_zero_iff.1 (by omega)
    subst hl; simp [DO]
  | n+1,l,h,h64=> by
    by_cases hl:l=[]
    · subst hl; simp [DO]
    · have hp:=Vs hl
      have hle:=PU l
      obtain⟨h1,h2⟩:=FB n (l.drop (WB l)) (by rw[List.length_drop];omega) (by omega)
      rw[Ka hl]
      refine⟨?_, ?_⟩
      · intro x hx
        rcases List.mem_cons.1 hx with rfl | hx
        · refine⟨by simp;omega, by simp;omega, ?_⟩
          intro hd j hj
          simp only[decide_eq_true_eq]at hd
          have hpn:WB l=V7 l:= by unfold WB; rw[if_pos hd]
          simp only[List.length_take]at hj
          simp only[List.getElem?_take]
          rw[if_pos (by omega),if_pos (by omega)]
          exact eqN_all (by omega)
        · exact h1 x hx
      · rw[List.flatMap_cons,h2]; exact List.take_append_drop _ _
theorem Ly (x:Bs×Bool):1≤(Bf x).length:= by unfold Bf;split<;> simp
theorem Lz {x:Bs×Bool} (h:okP x):(Bf x).length≤65:= by
  obtain⟨_,h2,_⟩:=h
  unfold Bf;split<;> simp;omega
theorem YM (a b:List (Bs×Bool)):Zl (a++b)=Zl a++Zl b:=List.flatMap_append
theorem Be: ∀{l:List (Bs×Bool)},(∀x∈l,okP x)→(Zl l).length≤65*l.length
  | [],_=> by simp [Zl]
  | x::l,h=> by
    have h1:=Lz (h x (by simp))
    have h2:=Be (l:=l) (fun y hy=>h y (by simp [hy]))
    unfold Zl at h2⊢
    rw[List.flatMap_cons,List.length_append,List.length_cons];omega
theorem GL {p f:Bs} (h:Hp p=some f):f.length≤47∧f=Zl (RE p):= by
  unfold Hp at h
  split at h
  · rename_i h1; cases h; exact⟨h1,rfl⟩
  · cases h
theorem run_eq {s:Bs} (h: ∀j,j<s.length→s[j]? =s[0]?) (h1:1≤s.length):s=List.replicate s.length (s.headD 0):= by
  apply List.ext_getElem?
  intro j
  by_cases hj:j<s.length
  · rw[h j hj,List.getElem?_replicate,if_pos hj]
    cases s with
    | nil=> simp at h1
    | cons x s=>rfl
  · rw[List.getElem?_eq_none (by omega),List.getElem?_eq_none (by simp;omega)]
theorem N5: ∀(l:List (Bs×Bool)),(∀x∈l,okP x)→l.length≤(l.flatMap (·.1)).length
  | [],_=> by simp
  | x::l,h=> by
    have h1:=N5 l (fun y hy=>h y (List.mem_cons_of_mem _ hy))
    have h2:=(h x (by simp)).1
    rw[List.flatMap_cons,List.length_append,List.length_cons];omega
theorem Df {p:Bs} (hp:p.length≤64):(∀x∈RE p,okP x)∧(RE p).flatMap (·.1)=p∧(RE p).length≤64:= by
  obtain⟨h1,h2⟩:=FB p.length p (Nat.le_refl _) hp
  have :=N5 _ h1
  rw[h2]at this
  exact⟨h1,h2, by omega⟩
def bldZ (b:Nat) (bs:Bs):Th:=Ch fun q:Value×Value=>starL [Jd 196 b [q.1,q.2],K1 5 q.2 bs]
theorem bldZ_of {w:World} {b:Nat} {bs:Bs} {As:List Th} (h:Sat w (Vb b bs::As)):Sat w (bldZ b bs::As):= by
  obtain⟨p,v,_,h1⟩:=H5 h
  have h2:=(h1.pull 1 U).bufZ_of; dsimp only[List.eraseIdx]at h2
  exact Sat.ex_intro (f:= fun q:Value×Value=>starL [Jd 196 b [q.1,q.2],K1 5 q.2 bs]) (p,v) (Sat.fold (As:=[Jd 196 b [p,v],K1 5 v bs]) (h2.perm (List.Perm.swap _ _ _)))
theorem bl_len {w:World} {b:Nat} {bs:Bs} {F:Th} (hS:Sat w [Vb b bs,F]):
    Calls prog 161 #[ptrV b 0] w (Ret fun v w'=>v=intV (bs.length:Int)∧Sat w' [Vb b bs,F]):= by
 obtain⟨p,v,hp,hS⟩:=H5 hS
 obtain⟨ao,cap,rfl,h1v,hq⟩:=hS.bufv 1 rfl
 refine Qm func161 U ntmps161 U ?_
 exact Qe (Qa (Qd U U (Qf (Qc (Qe (Qa (Qb U U (Qi U U (Qg U JF U (Qn U HT (hS.tcell 0 U (o:=1) U) U (XK underlying176 U U (Qd U U (Qf (Qc (Qv (QM (.inr U) U U (⟨_,U,U,H4 hp hS⟩)))))))))))))))))
theorem Bt {w:World} {b:Nat} {bs:Bs} {F:Th} (hS:Sat w [bldZ b bs,F]) (hl:bs.length≤70368744177663):
    Calls prog 124 #[ptrV b 0] w (Ret fun v w'=>v=strV bs∧Sat w' [bldZ b bs,F]):= by
 obtain⟨⟨p,v⟩,hS⟩:=hS.ex
 replace hS:=hS.flat; dsimp only[M8,M7]at hS
 obtain⟨ao,cap,rfl,h1v,hao⟩:=hS.bufZv 1 rfl
 refine Qm func124 U ntmps124 U ?_
 refine Qe (Qa (Qd U U (Qf (Qc (Qe ?_)))))
 have j1:=hS.drew
 refine Q6 [0,1,2,3,5,6,7,8,9,4,10,11] [4,10] ZF (by kernel_rfl) ?_
 refine Q9 U U U (QQ U U U (QI U U U JF (Q1 U U U (Ql U HT (j1.tcell 0 U (o:=1) U)) (Q9 U U U (QQ U U U (QI U U U JF (Q1 U U U (Ql U HT (j1.tcell 0 U (o:=1) U)) (X9 U U U (fun _=>(UO underlying176 U)) ?_))))))))
 refine Xa U U U U U U ?_
 refine VL U hao U (X5 (.cons (.inl ⟨rfl,(Ql U HT (j1.tcell 0 U (o:=1) U))⟩) (Xf (by kernel_rfl))) ?_)
 refine Xa U U U U U U ?_
 refine KJ 1 j1 U U U underlying223 Pp (by omega) U ?_
 intro w2 j2
 refine X5 (Xf (by kernel_rfl)) ?_
 exact Za U U U (VC.nil (Qc (Qh [2] U (Qv (QM (.inr U) U U (⟨_,rfl,rfl,Sat.ex_intro (f:= fun q:Value×Value=>starL [Jd 196 b [q.1,q.2],K1 5 q.2 bs]) (p,.slice ao bs.length cap) (Sat.fold (As:=[Jd 196 b [p,_],K1 5 _ bs]) j2)⟩))))))
theorem Dw {w:World} {F:Th} (hS:Sat w [F]) (s:Bs) (k:Nat) (hk:k<s.length) (hl:s.length≤1000):
    Calls prog 188 #[strV s,intV (k:Int)] w (Ret fun v w'=>v=intV (V7 (s.drop k):Nat)∧Sat w' [F]):= by
 obtain⟨x,h0⟩: ∃x,s[k]? =some x:=⟨_,Zk hk⟩
 refine Qm func188 U ntmps188 U ?_
 refine Qe (Qa (Qd U U (Qf (Qc (Qe (Qa (Qd U U (Qf (Qc (Qe (Qz ?_)))))))))))
 refine Xh (fun K0 E0 W0=> ∃(n:Nat),K0=s.length -k -n∧E0=[(0,strV s),(1,intV (k:Int)),(5,intV (n:Int))]∧Sat W0 [F]∧(1≤n)∧(k+n≤s.length)∧(∀j,j<n→s[k+j]? =some x)) (L0:=[(0,_),(1,_),(5,_)]) (s.length -k -1) (Ck U U U) ⟨1,rfl,rfl,hS,Nat.le_refl _, by omega, fun j hj=> by rw[show k+j=k by omega]; exact h0⟩ ?_
 rintro _ _ w1 ⟨n,rfl,rfl,j1,hn,hle,he⟩
 refine Qe (Qe ?_)
 have j2:=j1.drew
 refine Q6 [0,1,2,3,4,5,6,7,8,9,10,11,12,13,14,15,16] [] ZF (by kernel_rfl) ?_
 refine Q9 U U U (Q9 U U U (X9 U U U (fun _=>(V6 U U (by omega) (by omega))) ?_))
 refine Q9 U U U (X9 U U U (fun _=>(Gf underlying9 U)) ?_)
 refine X9 U U U (fun _=>(Me U U)) ?_
 refine Q9 U U U (KO 12 U (fun h3=> ?_) (fun h3=> ?_))
 ·obtain⟨y,hy⟩: ∃y,s[k+n]? =some y:=⟨_,Zk (by omega)⟩
  refine X9 U U (Xd U U (det h3)) (fun _=>(Ev.gd (XH U))) ?_
  refine X9 U U (Xd U U (det h3)) (fun _=>(Ev.gd (XH U))) ?_
  refine X9 U U (Xd U U (det h3)) (fun _=>(Ev.gd (XH U))) ?_
  refine X9 U U (Xd U U (det h3)) (fun _=>(Ev.gd (V6 U U (by omega) (by omega)))) ?_
  refine Q1 U U (Xd U U (det h3)) (Ev.gd (Hy (k+n) underlying9 U U (by omega) hy)) ?_
  refine X9 U U (Xd U U (det h3)) (fun _=>(Ev.gd (XH U))) ?_
  refine X9 U U (Xd U U (det h3)) (fun _=>(Ev.gd (XH U))) ?_
  refine Q1 U U (Xd U U (det h3)) (Ev.gd (Hy k underlying9 U U U h0)) (X9 U U (Xd U U (det h3)) (fun _=>(Ev.gd (Mg U U))) ?_)
  refine X9 U U U (fun _=>(Bc U (det h3) U)) ?_
  refine VC.nil (Qc (Qh [5,1,0,22] U (Qu U (fun h4=> ?_) (fun h4=> ?_))))
  ·have hyx:y=x:=UInt8.toNat_inj.1 (by have :=h4;omega)
   refine Qt (Qc (Qz (Qa (Qb U U (QN U U (by omega) (by omega) U ?_)))))
   refine Qd U U (Qf (Qo ?_))
   exact Q8 (L1:=[(0,_),(1,_),(5,intV ((n+1:Nat):Int))]) (Ck U U U) (k1:=s.length -k -(n+1)) (by omega) ⟨n+1,rfl,rfl,j2.pick [0] U, by omega, by omega, fun j hj=> by by_cases e:j=n;(subst e; rw[hy,hyx]); exact he j (by omega)⟩
  have hyx:y≠x:= fun q=>h4 (by rw[q])
  exact Xc (Qs (Qs (Q3 (Qc (Qe (Qa (Qb U U (Qd U U (Qf (Qc (Qv (QM (.inr U) U U (⟨_,rfl, by rw[Lx h0 hn hle he (.inr ⟨y,hy,hyx⟩)],j2.pick [0] U⟩)))))))))))))
 refine WJ U U (Z3 U U (QJ h3)) (WJ U U (Z3 U U (QJ h3)) (WJ U U (Z3 U U (QJ h3)) (WJ U U (Z3 U U (QJ h3)) (WJ U U (Z3 U U (QJ h3)) (WJ U U (Z3 U U (QJ h3)) (WJ U U (Z3 U U (QJ h3)) (WJ U U (Z3 U U (QJ h3)) (WJ U U (Z3 U U (QJ h3)) (X9 U U U (fun _=>(Yb U (QJ h3) U)) ?_)))))))))
 exact VC.nil (Qc (Qh [5,1,0,22] U (QW U (Xc (Qs (Qs (Q3 (Qc (Qe (Qa (Qb U U (Qd U U (Qf (Qc (Qv (QM (.inr U) U U (⟨_,rfl, by rw[Lx h0 hn hle he (.inl (by omega))],j2.pick [0] U⟩)))))))))))))))))
def okPc (p:Bs) (ks:List (Bs×Bool)) (k:Bs×Bool):Prop:= ∃rest,RE p=ks++k::rest
def YieldsP (P:Program) (l:Nat) (ok:List (Bs×Bool)→Bs×Bool→Prop) (J:List (Bs×Bool)→Th):Prop:=
  ∀(ks:List (Bs×Bool)) (k:Bs×Bool) (R:Th) (w:World),ok ks k→Sat w [J ks,R]→YieldAt Fence.wide 0 P l #[strV k.1,.bool k.2] w (fun e w'=>e= .returned (.bool true)∧Sat w' [J (ks++[k]),R])
theorem Tf {s:Bs} {k:Nat} (h:k=s.length∨3≤V7 (s.drop k)):lit (s.drop k)=0:=FU (by rcases h with h | h; exact .inl (by rw[h,List.drop_length]); exact .inr h)
theorem pcs_it {w:World} {l c:Nat} {page:Bs} {J:List (Bs×Bool)→Th} {F:Th} (hpl:page.length≤1000) (hS:Sat w [J [],QC c [strV page],F]) (hY:YieldsP prog l (okPc page) J):
    Calls prog 187 #[.func (.yield l) #[] #[],ptrV c 0] w (Ret fun v w'=>Sat w' [J (RE page),QC c [strV page],F]):= by
 refine Qm func187 U ntmps187 U ?_
 refine Qe (Qa (Qd U U (Qf (Qc (Qz ?_)))))
 refine Xh (fun K0 E0 W0=> ∃(ks:List (Bs×Bool)) (a:Nat),K0=page.length -a∧E0=[(0,.func (.yield l) #[] #[]),(1,ptrV c 0),(3,intV (a:Int))]∧Sat W0 [J ks,QC c [strV page],F]∧(RE page=ks++RE (page.drop a))∧(a≤page.length)) (L0:=[(0,_),(1,_),(3,_)]) (page.length -0) (Ck U U U) ⟨[],0,rfl,rfl,hS, by simp, by omega⟩ ?_
 rintro _ _ w1 ⟨ks,a,rfl,rfl,j1,hks,hal⟩
 refine Qe (Qe (Qa (Qb U U (Qn U JN (by first | assumption | exact j1.cell 1 U U) U ?_))))
 refine WD underlying9 U U (Xk U U U (Qf (Qc (Qu U (fun h2=> ?_) (fun h2=> ?_)))))
 ·have he1:=NU (l:=page.drop a) (fun q=> by have :=congrArg List.length q; rw[List.length_drop]at this; simp at this;omega)
  have he2:a+V7 (page.drop a)≤page.length:= by have :=Lw (page.drop a); rw[List.length_drop]at this;omega
  refine Qt (Qc (Qz (Qe (Qa (Qn U JN (by first | assumption | exact j1.cell 1 U U) U ?_)))))
  refine Qb U U (Qy Pb U (Dw (j1.sp [] U) page (a) (by omega) hpl) U ?_)
  rintro _ w3 ⟨rfl,j3⟩
  replace j3:=j3.jn U U
  refine Qd U U (Qd U U (Qf (Qc (Qh [3,1,0,4,5] U (Qe (Qe (Qa (Qb U U (Xk U U U (Qf (Qc (Qu U (fun h4=> ?_) (fun h4=> ?_)))))))))))))
  ·refine Qe (Qa (Qd U U (Qf (Qc (Qz (Xh (fun K0 E0 W0=> ∃(m:Nat),K0=page.length -a -m∧E0=[(0,.func (.yield l) #[] #[]),(1,ptrV c 0),(3,intV (a:Int)),(4,intV (m:Int)),(5,.bool false)]∧Sat W0 [J ks,QC c [strV page],F]∧(1≤m)∧(a+m≤page.length)∧(V7 (page.drop a)+lit (page.drop (a+V7 (page.drop a)))=m+lit (page.drop (a+m)))) (L0:=[(0,_),(1,_),(3,_),(4,_),(5,_)]) (page.length -a -V7 (page.drop a)) (Ub U U U U U) ⟨V7 (page.drop a),rfl,rfl,j3,he1,he2,rfl⟩ ?_))))))
   rintro _ _ w5 ⟨m,rfl,rfl,j5,hm1,hm2,hm3⟩
   refine Qe (Qe (Qa (Qb U U (Qb U U (QN U U (by omega) (by omega) U ?_)))))
   refine Qn U JN (by first | assumption | exact j5.cell 1 U U) U ?_
   refine WD underlying9 U U (Xk U U U (Qb U U (QS 21 U (fun h6=> ?_) (fun h6=> ?_))))
   ·refine Qj U U (det h6) (Qn U JN (by first | assumption | exact j5.cell 1 U U) U ?_)
    refine Qj U U (det h6) (Qb U U (Qj U U (det h6) (Qb U U (Qj U U (det h6) (QN U U (by omega) (by omega) U ?_)))))
    refine Qj U U (det h6) (Qy Pb U (Dw (j5.sp [] U) page (a+m) (by omega) hpl) U ?_)
    rintro _ w7 ⟨rfl,j7⟩
    replace j7:=j7.jn U U
    refine Qj U U (det h6) (Xk U U U (QH U (det h6) U U (Qf (Qc (Qh [5,4,3,1,0,28] U (Qu U (fun h8=> ?_) (fun h8=> ?_)))))))
    ·refine Qt (Qc (Qz (Qa (Qb U U (QN U U (by omega) (by omega) U ?_)))))
     refine Qd U U (Qf (Qo ?_))
     exact Q8 (L1:=[(0,_),(1,_),(3,_),(4,intV ((m+1:Nat):Int)),(5,_)]) (Ub U U U U U) (k1:=page.length -a -(m+1)) (by omega) ⟨m+1,rfl,rfl,j7.pick [0,1,2] U, by omega, by omega, by rw[hm3,FV (Zk (by omega)) (by omega), show a+(m+1)=a+m+1 by omega];omega⟩
    refine Xc (Qs (Qs (Q3 (Qc (Qe (Qe ?_))))))
    have hm:WB (page.drop a)=m:= by unfold WB; rw[if_neg (by omega),List.drop_drop]; have :=Tf (s:=page) (k:=a+m) (.inr (by omega));omega
    have hbb:decide (3≤V7 (page.drop a))=false:= by exact QJ (by omega)
    have hpc:RE page=ks++((page.take (a+m)).drop a,false)::RE (page.drop (a+m)):= by rw[hks,Ka (l:=page.drop a) (fun q=> by have :=congrArg List.length q; rw[List.length_drop]at this; simp at this;omega),List.drop_drop,hm,hbb,List.drop_take, show a+m -a=m by omega]
    have hSy:=j7.sp [0] U
    refine Js (X1 U (XH U) (X1 U (Ql U JN (j7.cell 1 U U)) (X1 U (XH U) (X1 U (XH U) (X1 U (XH U) (X1 U (V6 U U (by omega) (by omega)) ?_))))))
    refine X1 U (UN a (a+m) underlying9 U (RK a _ U U) (RK (a+m) _ U (by omega)) (by omega) (by omega)) ?_
    refine X1 U (XH U) (Vk U U U U (hY ks ((page.take (a+m)).drop a,false) _ _ ⟨_,hpc⟩ hSy) ?_)
    intro w5 j5; replace j5:=j5.jn U U
    refine X1 U (HQ U) (HA (Qc (Qh [4,3,1,0,40] U (QW U (Qt (Qc (Qa (Qb U U (Qb U U (QN U U (by omega) (by omega) U ?_))))))))))
    refine Qd U U (Qf (Qo ?_))
    exact Q8 (L1:=[(0,_),(1,_),(3,intV ((a+m:Nat):Int))]) (Ck U U U) (k1:=page.length -(a+m)) (by omega) ⟨_,a+m,rfl,rfl,j5.pick [0,1,2] U, by rw[hpc,List.append_assoc];rfl, by omega⟩
   refine Qk U U (QJ h6) U (Qk U U (QJ h6) U (Qk U U (QJ h6) U (Qk U U (QJ h6) U (Qk U U (QJ h6) U (Qk U U (QJ h6) U (QG U (QJ h6) U U (Qf (Qc (Qh [5,4,3,1,0,28] U (QW U (Xc (Qs (Qs (Q3 (Qc (Qe (Qe ?_)))))))))))))))))
   have hm:WB (page.drop a)=m:= by unfold WB; rw[if_neg (by omega),List.drop_drop]; have :=Tf (s:=page) (k:=a+m) (.inl (by omega));omega
   have hbb:decide (3≤V7 (page.drop a))=false:= by exact QJ (by omega)
   have hpc:RE page=ks++((page.take (a+m)).drop a,false)::RE (page.drop (a+m)):= by rw[hks,Ka (l:=page.drop a) (fun q=> by have :=congrArg List.length q; rw[List.length_drop]at this; simp at this;omega),List.drop_drop,hm,hbb,List.drop_take, show a+m -a=m by omega]
   have hSy:=j5.sp [0] U
   refine Js (X1 U (XH U) (X1 U (Ql U JN (j5.cell 1 U U)) (X1 U (XH U) (X1 U (XH U) (X1 U (XH U) (X1 U (V6 U U (by omega) (by omega)) ?_))))))
   refine X1 U (UN a (a+m) underlying9 U (RK a _ U U) (RK (a+m) _ U (by omega)) (by omega) (by omega)) ?_
   refine X1 U (XH U) (Vk U U U U (hY ks ((page.take (a+m)).drop a,false) _ _ ⟨_,hpc⟩ hSy) ?_)
   intro w5 j5; replace j5:=j5.jn U U
   refine X1 U (HQ U) (HA (Qc (Qh [4,3,1,0,40] U (QW U (Qt (Qc (Qa (Qb U U (Qb U U (QN U U (by omega) (by omega) U ?_))))))))))
   refine Qd U U (Qf (Qo ?_))
   exact Q8 (L1:=[(0,_),(1,_),(3,intV ((a+m:Nat):Int))]) (Ck U U U) (k1:=page.length -(a+m)) (by omega) ⟨_,a+m,rfl,rfl,j5.pick [0,1,2] U, by rw[hpc,List.append_assoc];rfl, by omega⟩
  refine Qt (Qc (Qe (Qe ?_)))
  obtain⟨m,hm0⟩: ∃m,m=V7 (page.drop a):=⟨_,rfl⟩
  have hm:WB (page.drop a)=m:= by unfold WB; rw[if_pos (by omega),hm0]
  have hbb:decide (3≤V7 (page.drop a))=true:= by exact det (by omega)
  rw[←hm0]
  have hpc:RE page=ks++((page.take (a+m)).drop a,true)::RE (page.drop (a+m)):= by rw[hks,Ka (l:=page.drop a) (fun q=> by have :=congrArg List.length q; rw[List.length_drop]at this; simp at this;omega),List.drop_drop,hm,hbb,List.drop_take, show a+m -a=m by omega]
  have hSy:=j3.sp [0] U
  refine Js (X1 U (XH U) (X1 U (Ql U JN (j3.cell 1 U U)) (X1 U (XH U) (X1 U (XH U) (X1 U (XH U) (X1 U (V6 U U (by omega) (by omega)) ?_))))))
  refine X1 U (UN a (a+m) underlying9 U (RK a _ U U) (RK (a+m) _ U (by omega)) (by omega) (by omega)) ?_
  refine X1 U (XH U) (Vk U U U U (hY ks ((page.take (a+m)).drop a,true) _ _ ⟨_,hpc⟩ hSy) ?_)
  intro w5 j5; replace j5:=j5.jn U U
  refine X1 U (HQ U) (HA (Qc (Qh [3,1,0,4,40] U (QW U (Qt (Qc (Qa (Qb U U (Qb U U (QN U U (by omega) (by omega) U ?_))))))))))
  refine Qd U U (Qf (Qo ?_))
  exact Q8 (L1:=[(0,_),(1,_),(3,intV ((a+m:Nat):Int))]) (Ck U U U) (k1:=page.length -(a+m)) (by omega) ⟨_,a+m,rfl,rfl,j5.pick [0,1,2] U, by rw[hpc,List.append_assoc];rfl, by omega⟩
 refine Xc (Qs (Qs (Q3 (ZT (.inl U) U ?_))))
 exact⟨_,rfl, by rw[show a=page.length by omega,List.drop_length,DO,List.append_nil]at hks; rw[hks]; exact j1⟩
theorem pcs_sp {w:World} {page:Bs} {F:Th} (hS:Sat w [F]):
    Calls prog 160 #[strV page] w (Ret fun v w'=> ∃c,v= .func (.func 187) #[] #[ptrV c 0]∧Sat w' [QC c [strV page],F]):= by
 refine Qm func160 U ntmps160 U ?_
 refine Qe (Qa (XV hS U U U ?_))
 intro b1 w1 j1
 exact Qd U U (Qf (Qc (Qe (Qa (ZA U U (Qd U U (Qf (Qc (Qv (QM (.inr U) U U (⟨_,U,_,U,j1⟩)))))))))))
def N6 (o:Option Bs):Value:= .tuple #[strV (o.getD []),.bool o.isSome]
def Jp (l D b:Nat) (rec:Loop) (ks:List (Bs×Bool)):Th:=starL [WF l rec,ZU D,Vb b (Zl ks)]
theorem DP {w:World} {F:Th} (hS:Sat w [F]) (page:Bs) (hp:page.length=64):
    Calls prog 123 #[strV page] w (Ret fun v w'=>v=N6 (Hp page)∧Sat w' [F]):= by
 obtain⟨hpo,hpf,hpl⟩:=Df (p:=page) (by omega)
 have heL:=Be hpo
 refine Yv func123 U ntmps123 U ?_
 refine Qe (Qa (Qd U U (Qd U U (Qf (Qc (Qe (Qe (Qa (Qb U U (WD underlying9 U U (Xn U U U (Qf (Qc (Qu U (fun h1=> ?_) (fun h1=> ?_)))))))))))))))
 ·exact absurd h1 (by simp;omega)
 refine Qt (Qc (Qe (Qa (BH hS SG (cs:=[.pointer none,.slice none 0 0]) U U ?_))))
 intro bb wB hSB
 have hSC:=H4 (.inl U) ((TS hSB).perm (List.Perm.swap _ _ _))
 refine Qf (Qc (Qe (Qe (Qa (Qb U U (Qy cal_160 U (pcs_sp (hSC.sp [] U) (page:=page)) U ?_))))))
 rintro _ w2 ⟨c,rfl,j2⟩
 replace j2:=j2.jn U U
 clear hSC
 refine Qf (Qc (Qz (Yn (caps:=[ptrV c 0]) U cal_187 ?_)))
 intro rec hr1 hr2 hr3 hr4 hr5 htn htf
 have hE:=j2.enter_loop rec
 have hE2:=hE.pick [0,1,3,2,4] U
 have hE3:=Sat.fold (As:=[WF _ rec,ZU _,Vb _ (Zl [])]) hE2
 refine(pcs_it (J:=Jp _ _ bb rec) (by omega) hE3 ?_).mono ?_
 rotate_left
 ·rintro e w3 ⟨v0,rfl,hw3⟩
  have hw4:=hw3.flat; dsimp only[M8,M7]at hw4
  refine⟨⟨v0,rfl⟩,rec,hw4.loop 0 U, by rw[hr1]; simp,hr2, ?_⟩
  intro a0 ha1 ha2
  have hw5:=hw4.loop_put 0 U (rec':={rec with state:= .exhausted}); dsimp only[List.set]at hw5
  refine qsD_app (n:=32) ha2 (by rw[ha1]; exact htn) (by rw[ha1]; exact htf) ?_
  refine KZ (X2 (XD (XD (X4 ?_))))
  have hC3:=hw5.sp [2] U
  refine Qy cal_161 U (bl_len hC3) U ?_
  rintro _ w3 ⟨rfl,j3⟩
  replace j3:=j3.jn U U; clear hC3
  clear hw5
  refine J1 U U U (Qf (Zu (X2 (W3 (L':=[(30,_),(4,_),(3,_),(2,_)]) (VF U U U U) (P5 U (fun h4=> ?_) (fun h4=> ?_))))))
  ·refine XD (X4 (Qd U U (Qd U U (Qf (Zu (X2 (YU (HK ?_))))))))
   obtain⟨hD,hZ⟩:=j3.defer_put (o:= .deferred none) 2 rfl
   dsimp only[List.eraseIdx]at hZ
   refine finM (.inr U) hD (res2 U U U) ?_
   exact⟨_,rfl, by unfold Hp; rw[if_neg (by omega)];rfl,hZ.pick [3] U⟩
  refine Ud (X2 (XD (X4 (Qy Mv U (S8 (j3.sp [0] U) (by omega)) U ?_))))
  rintro _ w5 ⟨rfl,j5⟩
  replace j5:=j5.jn U U
  refine Qd U U (Qd U U (Qf (Zu (X2 (YU ?_)))))
  obtain⟨hD,hZ⟩:=j5.defer_put (o:= .deferred none) 1 rfl
  dsimp only[List.eraseIdx]at hZ
  refine finM (.inr U) hD (res2 U U U) ?_
  exact⟨_,rfl, by unfold Hp; rw[if_pos (by omega)];rfl,hZ.pick [2] U⟩
 intro ks k R w2 hok hw2
 have hw4:=hw2.flat; dsimp only[Jp,M8,M7]at hw4
 have hw6:=hw4
 obtain⟨rest,hrest⟩:=hok
 have hok1:okP k:=hpo _ (by rw[hrest]; simp)
 have hkl:ks.length≤64:= by have :=congrArg List.length hrest; simp at this;omega
 have hel:=Be (l:=ks) (fun y hy=>hpo _ (by rw[hrest]; simp [hy]))
 obtain⟨hk1,hk2,hk3⟩:=hok1
 refine yieldG (hw6.loop 0 U) hr1 hr2 hr3 hr4 hr5 htn htf U U (RO ?_)
 refine Jt (by rintro⟨_,_,q⟩; exact q) rfl ?_
 refine Qd U U (Qf (RT (DA (L':=[(5,_),(13,_),(4,_),(3,_),(2,_)]) (Ub U U U U U) ?_)))
 refine Jt (by rintro⟨_,_,q⟩; exact q) rfl ?_
 refine Qd U U (Qf (PN (hw6.loop 0 U) hr1 ?_))
 have hw7:=hw6.loop_put 0 U (rec':={rec with state:= .busy}); dsimp only[List.set]at hw7
 refine P4 (RO ?_)
 refine Jt (by rintro⟨_,_,q⟩; exact q) rfl ?_
 refine Qb U U (Qf (RT (SM U (fun h6=> ?_) (fun h6=> ?_))))
 ·have hkT:k.2=true:=h6
  refine RO ?_
  refine Jt (by rintro⟨_,_,q⟩; exact q) rfl ?_
  refine Qb U U (WD underlying9 U U (QN U U (by omega) (by omega) U ?_))
  refine Rv (128+k.1.length) underlying3 underlying5 U (by first | rfl | omega) U ?_
  have hC7:=hw7.sp [2] U
  refine Qy Gk U (Yw hC7 (UInt8.ofNat (128+k.1.length)) (by omega)) U ?_
  rintro _ w7 ⟨rfl,j7⟩
  replace j7:=j7.jn U U; clear hC7
  clear hw7
  refine Qf (RT (DA (L':=[(5,_),(4,_),(3,_),(2,_)]) (VF U U U U) ?_))
  refine Jt (by rintro⟨_,_,q⟩; exact q) rfl ?_
  refine Qb U U ?_
  refine Y0 (c:=k.1.headD 0) 0 underlying9 U U U (by rw[←List.head?_eq_getElem?]; cases hq:k.1 with | nil=> rw[hq]at hk1; simp at hk1 | cons x l=>rfl) U ?_
  refine Qy Gk U (Yw (j7.sp [0] U) (k.1.headD 0) (by simp;omega)) U ?_
  rintro _ w8 ⟨rfl,j8⟩
  replace j8:=j8.jn U U
  refine Qf (Hn (N2 (j8.loop 1 U) hr1 hr2 ?_))
  have hw9:=j8.loop_put 1 U (rec':=rec); dsimp only[List.set]at hw9
  have hek:Zl (ks++[k])=Zl ks++[UInt8.ofNat (128+k.1.length)]++[k.1.headD 0]:= by rw[YM]; simp only[Zl,List.flatMap_cons,List.flatMap_nil,List.append_nil]; rw[Bf,if_pos hkT]; simp
  refine Sat.fold (As:=[WF _ rec,ZU _,Vb _ (Zl (ks++[k]))]) ?_
  rw[hek]; exact hw9.pick [1,2,0,3] U
 have hkF:k.2=false:=h6
 refine RO ?_
 refine Jt (by rintro⟨_,_,q⟩; exact q) rfl ?_
 refine Qb U U (WD underlying9 U U (Rv k.1.length underlying3 underlying5 U (by first | rfl | omega) U ?_))
 have hC9:=hw7.sp [2] U
 refine Qy Gk U (Yw hC9 (UInt8.ofNat k.1.length) (by omega)) U ?_
 rintro _ w9 ⟨rfl,j9⟩
 replace j9:=j9.jn U U; clear hC9
 clear hw7
 refine Qf (RT (DA (L':=[(5,_),(4,_),(3,_),(2,_)]) (VF U U U U) ?_))
 refine Jt (by rintro⟨_,_,q⟩; exact q) rfl ?_
 refine Qb U U ?_
 refine Qy Pj U (Uy (j9.sp [0] U) k.1 (by simp;omega)) U ?_
 rintro _ w10 ⟨rfl,j10⟩
 replace j10:=j10.jn U U
 refine Qf (Hn (N2 (j10.loop 1 U) hr1 hr2 ?_))
 have hw9:=j10.loop_put 1 U (rec':=rec); dsimp only[List.set]at hw9
 have hek:Zl (ks++[k])=Zl ks++[UInt8.ofNat k.1.length]++k.1:= by rw[YM]; simp only[Zl,List.flatMap_cons,List.flatMap_nil,List.append_nil]; rw[Bf,if_neg (by rw[hkF];decide)]; simp
 refine Sat.fold (As:=[WF _ rec,ZU _,Vb _ (Zl (ks++[k]))]) ?_
 rw[hek]; exact hw9.pick [1,2,0,3] U
theorem Nr {dn rest:List (Bs×Bool)} {x:Bs×Bool} (hx:x.2=true):(Zl (dn++x::rest))[(Zl dn).length]? =some (UInt8.ofNat (128+x.1.length))∧(Zl (dn++x::rest))[(Zl dn).length+1]? =some (x.1.headD 0)∧(Zl (dn++[x])).length=(Zl dn).length+2∧(Zl dn).length+2≤(Zl (dn++x::rest)).length:= by
  have e:Zl (dn++x::rest)=Zl dn++(UInt8.ofNat (128+x.1.length)::x.1.headD 0::Zl rest):= by
    rw[YM]; simp only[Zl,List.flatMap_cons]; rw[Bf,if_pos hx]; simp
  have e2:Zl (dn++[x])=Zl dn++[UInt8.ofNat (128+x.1.length),x.1.headD 0]:= by
    rw[YM]; simp only[Zl,List.flatMap_cons,List.flatMap_nil]; rw[Bf,if_pos hx]; simp
  rw[e,e2]
  refine⟨by rw[List.getElem?_append_right (by omega)]; simp, by rw[List.getElem?_append_right (by omega)]; simp, by simp, by simp⟩
theorem Ns {dn rest:List (Bs×Bool)} {x:Bs×Bool} (hx:x.2=false):(Zl (dn++x::rest))[(Zl dn).length]? =some (UInt8.ofNat x.1.length)∧((Zl (dn++x::rest)).take ((Zl dn).length+1+x.1.length)).drop ((Zl dn).length+1)=x.1∧(Zl (dn++[x])).length=(Zl dn).length+1+x.1.length∧(Zl dn).length+1+x.1.length≤(Zl (dn++x::rest)).length:= by
  have e:Zl (dn++x::rest)=Zl dn++(UInt8.ofNat x.1.length::x.1)++Zl rest:= by
    rw[YM]; simp only[Zl,List.flatMap_cons]; rw[Bf,if_neg (by rw[hx];decide)]; simp
  have e2:Zl (dn++[x])=Zl dn++(UInt8.ofNat x.1.length::x.1):= by
    rw[YM]; simp only[Zl,List.flatMap_cons,List.flatMap_nil]; rw[Bf,if_neg (by rw[hx];decide)]; simp
  rw[e,e2]
  refine⟨by rw[List.append_assoc,List.getElem?_append_right (by omega)]; simp, ?_, by simp;omega, by simp;omega⟩
  rw[List.take_append_of_le_length (by simp;omega)]
  rw[List.take_of_length_le (by simp;omega),List.drop_append,List.drop_of_length_le (by omega),List.nil_append, show(Zl dn).length+1 -(Zl dn).length=1 by omega]
  rfl
theorem NY {dn rest:List (Bs×Bool)} {p:Bs} (h:(dn++rest).flatMap (·.1)=p):(dn.flatMap (·.1)).length≤p.length:= by
  rw[←h,List.flatMap_append,List.length_append];omega
theorem KR {w:World} {F:Th} (hS:Sat w [F]) {p f:Bs} (hp:p.length=64) (hf:Hp p=some f):
    Calls prog 87 #[strV f] w (Ret fun v w'=>v= .tuple #[strV p,.bool true]∧Sat w' [F]):= by
 obtain⟨hpo,hpf,hpl⟩:=Df (p:=p) (by omega)
 obtain⟨hf47,hfe⟩:=GL hf
 refine Qm func87 U ntmps87 U ?_
 refine Qe (Qa (Qd U U (Qd U U (Qf (Qc (Qe (Qe (Qa (Qb U U (WD underlying9 U U (J1 U U U (Qf (Qc (Qu U (fun h1=> ?_) (fun h1=> ?_)))))))))))))))
 ·exact absurd h1 (by omega)
 refine Qt (Qc (Qe (Qa (BH hS SG (cs:=[.pointer none,.slice none 0 0]) U U ?_))))
 intro bb wB hSB
 have hSC:=H4 (.inl U) ((TS hSB).perm (List.Perm.swap _ _ _))
 refine Qf (Qc (Qe (Qe (Qa (Qd U U (Qf (Qc (Qz (Xh (fun K0 E0 W0=> ∃(dn rest:List (Bs×Bool)),K0=rest.length∧E0=[(0,strV f),(4,ptrV bb 0),(5,intV ((Zl dn).length:Int))]∧Sat W0 [Vb bb (dn.flatMap (·.1)),F]∧(RE p=dn++rest)) (L0:=[(0,_),(4,_),(5,_)]) ((RE p).length) (Ck U U U) ⟨[],RE p,rfl,rfl,hSC,rfl⟩ ?_)))))))))
 rintro _ _ w2 ⟨dn,rest,rfl,rfl,j2,hdr⟩
 refine Qe (Qe (Qa (Qb U U (Qb U U (WD underlying9 U U (Xk U U U (Qf (Qc (Qu U (fun h3=> ?_) (fun h3=> ?_))))))))))
 ·obtain⟨x,rest,rfl⟩: ∃x r,rest=x::r:= by cases rest with | nil=>(exfalso; have hh:=h3; rw[hfe,hdr,List.append_nil]at hh;omega) | cons x r=> exact⟨x,r,rfl⟩
  have hxo:okP x:=hpo x (by rw[hdr]; simp)
  obtain⟨hx1,hx2,hx3⟩:=hxo
  obtain⟨c0,hc0,hcn0⟩: ∃c,f[(Zl dn).length]? =some c∧c.toNat= if x.2=true then 128+x.1.length else x.1.length:= by(rw[hfe,hdr]; cases hb:x.2 with | true=> exact⟨_,(Nr hb).1, by simp;omega⟩ | false=> exact⟨_,(Ns hb).1, by simp;omega⟩)
  refine Qt (Qc (Qz (Qe (Qa (Qb U U (Qb U U (Y0 ((Zl dn).length) underlying9 U U (by first | rfl | omega) hc0 U ?_)))))))
  refine Pz underlying5 underlying3 U U (Qd U U (Qf (Qc (Qh [5,4,0,6] U (Qe (Qa (Qb U U (QN U U (by omega) (by omega) U ?_))))))))
  refine Qd U U (Qf (Qc (Qz (Qe (Qa (Qb U U (Yg U U U (Qb U U (QS 25 U (fun h4=> ?_) (fun h4=> ?_))))))))))
  ·have hb:x.2=true:= by cases hb:x.2 with | true=>rfl | false=>(exfalso; rw[hb]at hcn0; simp at hcn0; have :=h4;omega)
   obtain⟨_,hc1,hel,hlf⟩:=Nr (dn:=dn) (rest:=rest) hb
   rw[←hdr,←hfe]at hc1 hlf
   have hcn:c0.toNat=128+x.1.length:= by rw[hcn0,if_pos hb]
   replace hx3:=hx3 hb
   refine Qj U U (det h4) (Qb U U (Qj U U (det h4) (Qb U U (Qj U U (det h4) (WD underlying9 U U (Qj U U (det h4) (Xk U U U (QH U (det h4) U U (Qd U U (Qf (Qc (Qh [4,0,6,5,22] U (Qu U (fun h5=> ?_) (fun h5=> ?_))))))))))))))
   ·refine Qe (Qe (Qa (Qb U U (VJ U U (by omega) (by omega) U ?_))))
    refine Qb U U (Qf (Qc (Qz ?_)))
    have hSl:=j2.pick [0,1] U; rw[←List.append_nil (dn.flatMap (·.1))]at hSl
    rw[show c0.toNat=128+x.1.length from hcn]
    have e32:(((128+x.1.length:Nat):Int) -128)=(x.1.length:Int):= by omega
    rw[e32]
    refine Xh (fun K0 E0 W0=> ∃(i:Nat),K0=x.1.length -i∧E0=[(0,strV f),(4,ptrV bb 0),(5,intV (((Zl dn).length+1:Nat):Int)),(32,intV (x.1.length:Int)),(33,intV (i:Int))]∧Sat W0 [Vb bb (dn.flatMap (·.1)++List.replicate i (x.1.headD 0)),F]∧(i≤x.1.length)) (L0:=[(0,_),(4,_),(5,_),(32,_),(33,_)]) (x.1.length -0) (Ub U U U U U) ⟨0,rfl,rfl,hSl, by omega⟩ ?_
    rintro _ _ w6 ⟨i,rfl,rfl,j6,hi⟩
    refine Qe (Qa (Xk U U U (Qf (Qc (Qe (Qu U (fun h7=> ?_) (fun h7=> ?_)))))))
    ·refine Qt (Qc (Qe (Qz (Qa (Qb U U (Qb U U (Y0 ((Zl dn).length+1) underlying9 U U (by first | rfl | omega) hc1 U ?_)))))))
     refine Qy Gk U (Yw (j6.sp [0] U) (x.1.headD 0) (by have :=NY (p:=p) (by rw[←hdr]; exact hpf); rw[List.length_append,List.length_replicate];omega)) U ?_
     rintro _ w8 ⟨rfl,j8⟩
     replace j8:=j8.jn U U
     refine Qf (Qo (Qc (Qa (QN U U (by omega) (by omega) U ?_))))
     refine Qb U U (Qf ?_)
     have hSz:=j8.pick [0,1] U; rw[List.append_assoc,←List.replicate_succ']at hSz
     exact Q8 (L1:=[(0,_),(4,_),(5,_),(32,_),(33,intV ((i+1:Nat):Int))]) (Ub U U U U U) (k1:=x.1.length -(i+1)) (by omega) ⟨i+1,rfl,rfl,hSz, by omega⟩
    refine Xc (Qs (Qs (Q3 (Qc (Qa (Qb U U (QN U U (by omega) (by omega) U ?_)))))))
    refine Qd U U (Qf (Qo (Qo ?_)))
    have hcat:dn.flatMap (·.1)++List.replicate i (x.1.headD 0)=(dn++[x]).flatMap (·.1):= by rw[List.flatMap_append, show i=x.1.length by omega,←run_eq hx3 hx1]; simp
    have hSz:=j6.pick [0,1] U
    rw[hcat]at hSz
    exact Q8 (L1:=[(0,_),(4,_),(5,intV ((Zl (dn++[x])).length:Int))]) (by rw[hel]; exact(Ck U U U)) (k1:=rest.length) (by simp) ⟨dn++[x],rest,rfl,rfl,hSz, by rw[hdr,List.append_assoc];rfl⟩
   exact absurd h5 (by omega)
  have hb:x.2=false:= by cases hb:x.2 with | false=>rfl | true=>(exfalso; rw[hb]at hcn0; simp at hcn0; have :=h4;omega)
  obtain⟨_,hsl,hel,hlf⟩:=Ns (dn:=dn) (rest:=rest) hb
  rw[←hdr,←hfe]at hsl hlf
  have hcn:c0.toNat=x.1.length:= by rw[hcn0,if_neg (by rw[hb];decide)]
  refine Qk U U (QJ h4) U (Qk U U (QJ h4) U (Qk U U (QJ h4) U (Qk U U (QJ h4) U (QG U (QJ h4) U U (Qd U U (Qf (Qc (Qh [4,0,6,5,22] U (QW U (Qe (Qa (Qb U U (Xk U U U (Qb U U (QS 45 U (fun h9=> ?_) (fun h9=> ?_))))))))))))))))
  ·refine Qj U U (det h9) (Qb U U (Qj U U (det h9) (Qb U U (Qj U U (det h9) (QN U U (by omega) (by omega) U ?_)))))
   refine Qj U U (det h9) (Qb U U (Qj U U (det h9) (WD underlying9 U U (Qj U U (det h9) (wl_leq U U U (QH U (det h9) U U (Qd U U (Qf (Qc (Qh [4,0,6,5,42] U (Qu U (fun h10=> ?_) (fun h10=> ?_))))))))))))
   ·refine Qe (Qa (Qb U U (Qb U U (Qb U U (Qb U U (QN U U (by omega) (by omega) U ?_))))))
    refine Pw ((Zl dn).length+1) ((Zl dn).length+1+x.1.length) underlying9 U (RK _ _ U (by omega)) (RK _ _ U (by omega)) (by omega) (by omega) U ?_
    rw[hsl]
    refine Qy Pj U (Uy (j2.sp [0] U) x.1 (by have :=NY (p:=p) (by rw[←hdr]; exact hpf);omega)) U ?_
    rintro _ w11 ⟨rfl,j11⟩
    replace j11:=j11.jn U U
    refine Qf (Qc (Qh [4,0,6,5] U (Qa (Qb U U (Qb U U (QN U U (by omega) (by omega) U ?_))))))
    refine Qd U U (Qf (Qo (Qo ?_)))
    have hcat:dn.flatMap (·.1)++x.1=(dn++[x]).flatMap (·.1):= by rw[List.flatMap_append]; simp
    have hSz:=j11.pick [0,1] U
    rw[hcat]at hSz
    exact Q8 (L1:=[(0,_),(4,_),(5,intV ((Zl (dn++[x])).length:Int))]) (by rw[hel,←hcn]; exact(Ck U U U)) (k1:=rest.length) (by simp) ⟨dn++[x],rest,rfl,rfl,hSz, by rw[hdr,List.append_assoc];rfl⟩
   exact absurd h10 (by first | omega | simp)
  exact absurd h9 (by omega)
 refine Xc (Qs (Qs (Q3 (Qc (Qe (Qe ?_))))))
 have hend:rest=[]:= by cases rest with | nil=>rfl | cons x r=>(exfalso; have h1:=Ly x; have h2:1≤(Zl (x::r)).length:=(by unfold Zl; rw[List.flatMap_cons,List.length_append];omega); have :=congrArg List.length hfe; rw[hdr,YM,List.length_append]at this;omega)
 subst hend
 rw[List.append_nil]at hdr
 have hSz:=bldZ_of (j2.pick [0,1] U)
 rw[←hdr,hpf]at hSz
 refine Qa (Qy Mv U (Bt (hSz.sp [0] U) (by omega)) U ?_)
 rintro _ w12 ⟨rfl,j12⟩
 replace j12:=j12.jn U U
 clear hSz
 refine Qy Mw U (DP (j12.sp [] U) p hp) U ?_
 rintro _ w13 ⟨rfl,j13⟩
 replace j13:=j13.jn U U
 rw[hf]
 dsimp only[N6,Option.getD_some,Option.isSome_some]
 refine Qb U U (Qp U U U (Qp U U U (Qd U U (Qd U U (Qf (Qc (Qh [4,0,7,8] U (Qe (Qa (Qb U U (QV U U (Qb U U (Xu 70 U (fun h14=> ?_) (fun h14=> ?_))))))))))))))
 ·exact absurd h14 (by simp)
 refine Qj U U h14 (Qb U U (Qj U U h14 (Qb U U (Qj U U h14 (D7 U U U (QG U h14 U U (Qf (Qc (Qh [4,74] U (Qu U (fun h15=> ?_) (fun h15=> ?_)))))))))))
 ·exact absurd h15 (by simp)
 refine Qt (Qc (Qe (Qa (Qy Mv U (Bt (j13.sp [0] U) (by omega)) U ?_))))
 rintro _ w16 ⟨rfl,j16⟩
 replace j16:=j16.jn U U
 exact Qd U U (Qd U U (Qf (Qc (Qv (Jc (.inr U) U U U (⟨_,U,U,j16.pick [1] U⟩))))))
