/- swap -/
import Derived.Test.YtifaibmhinlcfaaGreatDoorBit
set_option linter.unusedVariables false
set_option maxRecDepth 100000
namespace Go.Proofs.YtifaibmhinlcfaaGreatDoor
open Go.RowKit M Proofs.Tryz
variable {As:List Th} {p:Nat} {sl:List Bs} {w:World}
def WG (sl:List Bs):Nat:=(sl.filter λp=> !decide (p=[])).length
def BN (sl:List Bs) (slot:Int):Bool:=decide (0<=slot)&&(match sl[slot.toNat]? with | some p=> !decide (p=[]) | none=>false)
theorem HR (sl:List Bs):WG sl<=sl.length:=List.length_filter_le _ _
theorem B1: ∀{sl:List Bs} {k:Nat} {p:Bs},sl[k]? =some []->p≠[]->WG (sl.set k p)=WG sl+1
  | [],_,_,h,_=>by simp at h
  | a::sl,0,p,h,b=>by
    simp at h;subst h;unfold WG;simp [b]
  | a::sl,k+1,p,h,b=>by
    have :=B1 (sl:=sl) (k:=k) (by simpa using h) b;unfold WG at this⊢;rw[List.set_cons_succ,List.filter_cons,List.filter_cons];split
    · rw[List.length_cons,List.length_cons,this]
    · exact this
theorem Mx: ∀{sl:List Bs} {k:Nat} {p:Bs},sl[k]? =some p->p≠[]->WG (sl.set k [])+1=WG sl
  | [],_,_,h,_=>by simp at h
  | a::sl,0,p,h,b=>by
    simp at h;subst h;unfold WG;simp [b]
  | a::sl,k+1,p,h,b=>by
    have :=Mx (sl:=sl) (k:=k) (by simpa using h) b;unfold WG at this⊢;rw[List.set_cons_succ,List.filter_cons,List.filter_cons];split
    · rw[List.length_cons,List.length_cons,<-this]
    · exact this
theorem Gs:WG sl<sl.length↔[]∈sl:=by
  unfold WG
  induction sl with
  | nil=> simp
  | cons a sl ih=>
    have b:=HR sl;unfold WG at b;by_cases c:a=[]
    · subst c;rw[List.filter_cons,if_neg (by simp),List.length_cons];exact⟨λ_=>List.mem_cons_self,λ_=>by omega⟩
    · rw[List.filter_cons,if_pos (by simp [c]),List.length_cons,List.length_cons,List.mem_cons];constructor
      · intro h;exact .inr (ih.1 (by omega))
      · rintro(h | h)
        · exact absurd h.symm c
        · have :=ih.2 h;omega
theorem FZ (m:Nat):WG (List.replicate m [])=0:=by unfold WG;simp
def Bq (p:Nat) (sl:List Bs):Th:=Cp λq:Value×Int×Int=>starL [WH (sl.length<=4096),Q6 p [q.1,intV (WG sl:Nat),intV q.2.1,intV q.2.2],rowT stC q.1 sl]
theorem HW (h:Sat w (Bq p sl::As)): ∃ao cap du re,sl.length<=4096/\Sat w (Q6 p [.slice ao sl.length cap,intV (WG sl:Nat),intV du,intV re]::rowT stC (.slice ao sl.length cap) sl::As):=by
  obtain⟨⟨v,du,re⟩,h⟩:=h.ex;obtain⟨b,a⟩:=h.flat.pure_elim;obtain⟨ao,cap,c,_⟩:=Sat.own_shape (As:=Q6 p _::rowT stC v sl::As) a 1 rfl;obtain rfl:=c;exact⟨ao,cap,du,re,b,a⟩
theorem JM {v:Value} {du re:Int} (a:sl.length<=4096) (h:Sat w (Q6 p [v,intV (WG sl:Nat),intV du,intV re]::rowT stC v sl::As)):Sat w (Bq p sl::As):=
  Sat.ex_intro (v,du,re) (Sat.fold (As:=[WH (sl.length<=4096),Q6 p _,rowT stC v sl]) (Sat.pure_intro a h))
theorem Sk {F:Th} (a:Sat w [Bq p sl,F]):
    Calls prog 219 #[ptrV p 0] w (Ret λv w'=>v= .tuple #[]/\Sat w' [Bq p sl,F]):=by
 obtain⟨sa,sc,du,re,b,a⟩:=HW a;refine Qn func219 U ntmps219 U ?_;refine Qe ?_;have c:=a.drew;refine Q7 [0,1,2,3,4,5,6,7,8,9,10,11] [11] Z9 (by kernel_rfl) ?_;refine Q3 U U U<|QP U U U<|QG U U U Fc<|Q0 U U U (Ql U QL (c.cell 0 U U))<|Q3 U U U<|QP U U U<|QG U U U Fe<|Q0 U U U (Ql U QL (c.cell 0 U U))<|Xi U U U (λ_=>(Rb U U U)) ?_;refine QP U U U<|QG U U U Fc<|QO U U U U U U ?_
 first | (refine QK c U U YD (by rfl) (i:=0) U (Xk U) ?_)
 intro w2 d;dsimp only[List.set]at d;refine Zc (Xd (by kernel_rfl)) ?_;refine VC.nil (Qc (Qh [0] U (Qa (Qb U U (Qj U U (Qg U Fe U ?_))))))
 first | (refine QK d U U YD (by rfl) (i:=0) U (Xk U) ?_)
 intro f e;dsimp only[List.set]at e;exact Qf (Zb (.inl U) U (⟨_,U,U,JM b (e.pick [0,1,2] U)⟩))
theorem Sm {F:Th} (c:Sat w [Bq p sl,F]) (slot:Int):
    Calls prog 218 #[ptrV p 0,intV slot] w (Ret λv w'=>v= .bool (BN sl slot)/\Sat w' [Bq p sl,F]):=by
 obtain⟨sa,sc,du,re,d,c⟩:=HW c;refine Qn func218 U ntmps218 U ?_;refine Qe<|Qa<|Qd U U<|Qf<|Qc<|Qe<|Qa<|Qb U U<|WU U U U<|Qb U U<|QZ 7 U (λb=> ?_) (λb=> ?_)
 ·refine Qk U U (det b)<|Qb U U<|Qk U U (det b)<|Qb U U<|Qk U U (det b)<|Qj U U<|Qk U U (det b)<|Qg U Ug U<|Qk U U (det b)<|Qo U R3 (c.cell 0 U U) U<|Qk U U (det b)<|Xl underlying83 U U<|Qk U U (det b)<|Xa U U U<|QF U (det b) U U<|Qb U U<|QZ 16 U (λa=> ?_) (λa=> ?_)
  ·obtain⟨pg,f⟩: ∃p,sl[slot.toNat]? =some p:=⟨_,XQ (by omega)⟩;refine Qk U U (det a)<|Qb U U<|Qk U U (det a)<|Qj U U<|Qk U U (det a)<|Qg U Ug U<|Qk U U (det a)<|Qo U R3 (c.cell 0 U U) U<|Qk U U (det a)<|Qb U U<|Qk U U (det a)<|Xj stC 1 slot.toNat c U U U (by omega) f VF U ?_;intro bx3 capx3 e;refine Qk U U (det a)<|Zh 1 slot.toNat 0 c U e U U f XT U U<|Qk U U (det a)<|KE U U U<|QF U (det a) U U<|Qd U U<|Qf<|Qc<|Qh [4] U<|Qu<|QJ (.inr U) U U ?_;exact⟨_,rfl,by unfold BN;rw[f,det (show 0<=slot by omega),Bool.true_and];simp,JM d (c.pick [0,1,2] U)⟩
  refine Qi U U (QH a) U<|Qi U U (QH a) U<|Qi U U (QH a) U<|Qi U U (QH a) U<|Qi U U (QH a) U<|Qi U U (QH a) U<|Qi U U (QH a) U<|Qi U U (QH a) U<|Q9 U (QH a) U U<|Qd U U<|Qf<|Qc<|Qh [4] U<|Qu<|QJ (.inr U) U U ?_;exact⟨_,rfl,by unfold BN;rw[List.getElem?_eq_none (by omega),Bool.and_false],JM d (c.pick [0,1,2] U)⟩
 refine Qi U U (QH b) U<|Qi U U (QH b) U<|Qi U U (QH b) U<|Qi U U (QH b) U<|Qi U U (QH b) U<|Qi U U (QH b) U<|Qi U U (QH b) U<|Q9 U (QH b) U U<|Qb U U<|Qi U U U U<|Qi U U U U<|Qi U U U U<|Qi U U U U<|Qi U U U U<|Qi U U U U<|Qi U U U U<|Qi U U U U<|Q9 U U U U<|Qd U U<|Qf<|Qc<|Qh [4] U<|Qu<|QJ (.inr U) U U ?_;exact⟨_,rfl,by unfold BN;rw[QH (show ¬0<=slot by omega),Bool.false_and],JM d (c.pick [0,1,2] U)⟩
theorem ST {slot:Int} (h:BN sl slot=true):0<=slot/\ ∃p,sl[slot.toNat]? =some p/\p≠[]:=by
  unfold BN at h;rw[Bool.and_eq_true,decide_eq_true_eq]at h;refine⟨h.1, ?_⟩;cases a:sl[slot.toNat]? with
  | none=> rw[a]at h;exact absurd h.2 (by simp)
  | some p=> rw[a]at h;exact⟨p,rfl,by simpa using h.2⟩
def M7 (sl:List Bs) (slot:Int):Bs:= if BN sl slot=true then(sl[slot.toNat]?).getD []else[]
def RD (sl:List Bs) (slot:Int):List Bs:= if BN sl slot=true then sl.set slot.toNat []else sl
theorem six_sp {F:Th} (p:Sat w [F]) {lv:Value} {l:List Bs} (f:Ent F (RdL stC lv l)) (e:Bs):
    Calls prog 255 #[lv,strV e] w (Ret λv w'=>(v=intV (-1)/\e∉l/\Sat w' [F])\/(∃k:Nat,v=intV (k:Int)/\l[k]? =some e/\Sat w' [F])):=by
 obtain⟨ao,cap,rfl,r⟩:=(f.sat p 0 rfl).shape;refine Qn func255 U ntmps255 U ?_;refine Qe<|Qa<|Qd U U<|Qf<|Qc<|Qe<|Qe<|Qa<|Qb U U<|Xl underlying83 U U<|Qb U U<|Qf<|Qc<|Qx ?_;refine QU (λK0 E0 W0=> ∃(i:Nat),K0=l.length -i/\E0=[(0,.slice ao l.length cap),(1,strV e),(7,intV (l.length:Int)),(8,intV (i:Int))]/\Sat W0 [F]/\(i<=l.length)/\(∀j y,j<i->l[j]? =some y->y≠e)) (L0:=[(0,_),(1,_),(7,_),(8,_)]) (l.length -0) (Rs U U U U) ⟨0,rfl,rfl,p,by omega,by omega⟩ ?_;rintro _ _ u ⟨i,rfl,rfl,a,hi,c⟩;refine Qe<|Qa<|Xa U U U<|Qf<|Qc<|Qe<|Qs U (λs=> ?_) (λs=> ?_)
 ·obtain⟨x,d⟩: ∃x,l[i]? =some x:=⟨_,XQ (by omega)⟩;obtain⟨b,off,rfl,_⟩:=(f.sat a 0 rfl).get d;refine Qt<|Qc<|Qe<|Qx<|Qe<|Qa<|Qb U U<|Qd U U<|Qf<|Qc<|Qe<|Qa<|Qb U U<|Qb U U<|Qb U U<|Xt i U U (by first | rfl | omega) ((Za d).1) VF U ?_
  refine Qo U XT (((f.sat a 0 U).at_ d) 0 _ U) U<|YB U U U<|Qf<|Qc<|Qh [8,7,1,0,5,16] U<|Qs U (λg=> ?_) (λg=> ?_)
  ·have h:e=x:=g;refine Qe<|Qa<|Qb U U<|Qd U U<|Qf<|Qc<|Qu<|Q1<|Qq<|Qq<|Q1<|Qq<|QJ (.inr U) U U ?_;exact⟨_,rfl,.inr ⟨i,rfl,by rw[d,h],a.pick [0] U⟩⟩
  have m: ¬e=x:=g;refine Qt<|Qm<|Qc<|Qa<|QE U U (by omega) (by omega) U ?_;refine Qb U U<|Qf ?_;exact Q5 (L1:=[(0,_),(1,_),(7,_),(8,intV ((i+1:Nat):Int))]) (Rs U U U U) (k1:=l.length -(i+1)) (by omega) ⟨i+1,rfl,rfl,a.pick [0] U,by omega,λj y n o=>by by_cases e:j=i;(subst e;rw[d]at o;cases o;exact λq=>m q.symm);exact c j y (by omega) o⟩
 refine QQ<|Qp<|Qp<|Qy<|Qc<|Qe<|Qa<|Qd U U<|Qf<|Qc<|Qu<|QJ (.inr U) U U ?_;exact⟨_,rfl,.inl ⟨rfl,λt=>by obtain⟨j,n⟩:=List.mem_iff_getElem?.1 t;exact c j e (by have :=(Za n).1;omega) n rfl,a.pick [0] rfl⟩⟩
theorem Sl {F:Th} (x:Sat w [Bq p sl,F]) (page:Bs) (n:page.length=64):
    Calls prog 239 #[ptrV p 0,strV page] w (Ret λv w'=>(WG sl=sl.length/\v= .tuple #[intV (-1),.bool false]/\Sat w' [Bq p sl,F])\/(∃k:Nat,sl[k]? =some []/\v= .tuple #[intV (k:Int),.bool true]/\Sat w' [Bq p (sl.set k page),F])):=by
 refine Qn func239 U ntmps239 U ?_;refine Qe<|Qa<|Qd U U<|Qd U U<|Qf<|Qc<|Qe<|Qe ?_;have o:=HR sl;obtain⟨sa,sc,du,re,c,b⟩:=HW (x.pick [0,1] rfl);have j:=b.drew;refine Q7 [0,1,2,3,4,5,6,7,8,9,10,11,12,13,14] [] Z9 (by kernel_rfl) ?_;refine Q3 U U U<|Xi U U U (λ_=>(Mc underlying9 U)) ?_;refine Xi U U U (λ_=>(BQ U U)) ?_;refine Q3 U U U<|HI 10 U (λa=> ?_) (λa=> ?_)
 ·exact absurd a (by omega)
 refine Xi U U (QI U U (QH a)) (λ_=>(Ev.gd (X2 U))) ?_;refine Xi U U (QI U U (QH a)) (λ_=>(Ev.gd (Uy U))) ?_;refine Xi U U (QI U U (QH a)) (λ_=>(Ev.gd (Zv U UM))) ?_;refine Q0 U U (QI U U (QH a)) (Ev.gd (Ql U QL (j.cell 0 U U)))<|Xi U U (QI U U (QH a)) (λ_=>(Ev.gd (X2 U))) ?_;refine Xi U U (QI U U (QH a)) (λ_=>(Ev.gd (Uy U))) ?_;refine Xi U U (QI U U (QH a)) (λ_=>(Ev.gd (Zv U Ug))) ?_;refine Q0 U U (QI U U (QH a)) (Ev.gd (Ql U R3 (j.cell 0 U U)))<|Xi U U (QI U U (QH a)) (λ_=>(Ev.gd (YT underlying83 U))) ?_;refine Xi U U (QI U U (QH a)) (λ_=>(Ev.gd (Px U U))) ?_;refine Xi U U U (λ_=>(JT U (QH a) U)) ?_;refine VC.nil (Qc (Qh [1,0,4,5,21] U (Qs U (λy=> ?_) (λy=> ?_))))
 ·exact Qe (Qa (Qd U U (Qd U U (Qf (Qc (Qu (Qq (Jt (.inr U) U U U (⟨_,rfl,.inl ⟨by omega,rfl,JM c (j.pick [0,1,2] U)⟩⟩)))))))))
 refine Qt<|Qc<|Qe ?_;have f:=JM c (j.pick [0,1,2] U);refine Qa<|Qb U U<|Qw A7 U (Sk (f.sp [0] U)) U ?_;rintro _ z ⟨rfl,r⟩;replace r:=r.jn U U;clear f;refine Qf<|Qc<|Qe ?_;have o:=HR sl;obtain⟨sa,sc,du,re,c,b⟩:=HW (r.pick [0,1] rfl);refine Qa<|Qb U U<|Qj U U<|Qg U Ug U<|Qo U R3 (b.cell 0 U U) U<|XF cal_255 U (six_sp (b.sp [] U) (Ent.starL (Ja (C:=stC) (l:=sl) (by omega)) 1 U) []) U ?_;rintro e A ⟨_,rfl,(⟨rfl,s,d⟩ | ⟨k,rfl,m,d⟩)⟩
 ·exact absurd (Gs.1 (by have :=HR sl;omega)) s
 refine⟨_,U, ?_⟩;replace d:=d.jn U U;clear b;refine Qd U U<|Qf<|Qc<|Qh [1,0,4,5,6] U<|Qe<|Qa<|Qb U U<|Qj U U<|Qg U Ug U<|Qo U R3 (d.cell 0 U U) U<|Qb U U<|Qb U U<|Xj stC 1 k d U U U (by first | rfl | omega) m VF U ?_
 intro bx6 capx6 g;refine Wp 1 k page d U g U U sz_9 (by rfl) ((Za m).1) ?_;intro B t;dsimp only[List.set]at t;refine Qf<|Qc<|Qh [0,4,5,6] U<|Qe<|Qa<|Qb U U<|Qj U U<|Qg U UM U<|Qo U QL (t.cell 0 U U) U<|QE U U (by omega) (by omega) U ?_;refine Qj U U<|Qg U UM U ?_
 first | (refine QK t U U YD (by rfl) (i:=0) U (Xk U) ?_)
 intro D h;dsimp only[List.set]at h;refine Qf<|Qc<|Qh [4,5,6] U<|Qe<|Qa<|Qb U U<|Qd U U<|Qd U U<|Qf<|Qc<|Qu<|Jt (.inr U) U U U ?_;have u:page≠[]:= λq=>by subst q;simp at n
 exact⟨_,rfl,.inr ⟨k,m,rfl,JM (by rw[List.length_set];exact c) (by rw[B1 m u,Int.natCast_add];exact h.pick [0,1,2] U)⟩⟩
theorem Sn {F:Th} (j:Sat w [Bq p sl,F]) (slot:Int):
    Calls prog 188 #[ptrV p 0,intV slot] w (Ret λv w'=> ∃e,v= .tuple #[strV (M7 sl slot),intV e]/\Sat w' [Bq p sl,F]):=by
 refine Qn func188 U ntmps188 U ?_;refine Qe<|Qa<|Qd U U<|Qd U U<|Qf<|Qc<|Qe<|Qe<|Qa<|Qb U U<|Qb U U<|Qw A9 U (Sm (j.sp [0] U) slot) U ?_;rintro _ m ⟨rfl,c⟩;replace c:=c.jn U U;refine QX U U<|Qf<|Qc<|QR U (λh=> ?_) (λh=> ?_)
 ·refine Qe<|Qa<|Qd U U<|Qd U U<|Qf<|Qc<|Qu<|Qq<|Jt (.inr U) U U U ?_;exact⟨_,rfl,_,by rw[show M7 sl slot=[]by unfold M7;rw[if_neg (by simp_all)]],c.pick [0,1] U⟩
 have i:BN sl slot=true:=by simpa using h
 obtain⟨n,pg,d,k⟩:=ST i;refine Qt<|Qc<|Qe<|Qa<|Qb U U<|Qw A7 U (Sk (c.sp [0] U)) U ?_;rintro _ o ⟨rfl,f⟩;replace f:=f.jn U U;refine Qf<|Qc<|Qe ?_;have l:=HR sl;obtain⟨sa,sc,du,re,g,a⟩:=HW (f.pick [0,1] rfl);refine Qa<|Qb U U<|Qj U U<|Qg U Ug U<|Qo U R3 (a.cell 0 U U) U<|Qb U U<|Xj stC 1 slot.toNat a U U U (by omega) d VF U ?_;intro bx4 capx4 b;refine Zh 1 slot.toNat 0 a U b U U d XT U U<|Qd U U<|Qd U U<|Qf<|Qc<|Qh [4,5] U<|Qu<|Jt (.inr U) U U U ?_;exact⟨_,rfl,_,by rw[show M7 sl slot=pg by unfold M7;rw[if_pos i,d];rfl],JM g (a.pick [0,1,2] U)⟩
theorem B5 {F:Th} (l:Sat w [Bq p sl,F]) (slot:Int):
    Calls prog 191 #[ptrV p 0,intV slot] w (Ret λv w'=>v= .tuple #[]/\Sat w' [Bq p (RD sl slot),F]):=by
 refine Qn func191 U ntmps191 U ?_;refine Qe<|Qa<|Qb U U<|Qb U U<|Qw A9 U (Sm (l.sp [0] U) slot) U ?_;rintro _ n ⟨rfl,c⟩;replace c:=c.jn U U;refine Qf<|Qc<|QR U (λh=> ?_) (λh=> ?_)
 ·have j:BN sl slot=true:=by simpa using h
  obtain⟨o,pg,d,e⟩:=ST j;refine Qe ?_;have m:=HR sl;obtain⟨sa,sc,du,re,f,a⟩:=HW (c.pick [0,1] rfl);refine Qa<|Qb U U<|Qj U U<|Qg U Ug U<|Qo U R3 (a.cell 0 U U) U<|Qb U U<|Xj stC 1 slot.toNat a U U U (by omega) d VF U ?_;intro bx3 capx3 b;refine Wp 1 slot.toNat [] a U b U U sz_9 (by rfl) ((Za d).1) ?_;intro q g;dsimp only[List.set]at g;clear a;refine Qf<|Qc<|Qh [0] U<|Qa<|Qb U U<|Qj U U<|Qg U UM U<|Qo U QL (g.cell 0 U U) U<|H2 U U (by omega) (by omega) U ?_;refine Qj U U<|Qg U UM U ?_
  first | (refine QK g U U YD (by rfl) (i:=0) U (Xk U) ?_)
  intro r k;dsimp only[List.set]at k;refine Qf<|Zb (.inl U) U ?_;exact⟨_,rfl,rfl,by rw[show RD sl slot=sl.set slot.toNat []by unfold RD;rw[if_pos j]];exact JM (by rw[List.length_set];exact f) (by rw[show((WG (sl.set slot.toNat []):Nat):Int)=(WG sl:Nat) -1 by have :=Mx d e;omega];exact k.pick [0,1,2] U)⟩
 refine Qt<|Zb (.inl U) U ?_;exact⟨_,rfl,rfl,by rw[show RD sl slot=sl by unfold RD;rw[if_neg (by simp_all)]];exact c.pick [0,1] U⟩
theorem OA {F:Th} (a:Sat w [Bq p sl,F]):
    Calls prog 254 #[ptrV p 0] w (Ret λv w'=>v=intV (WG sl:Nat)/\Sat w' [Bq p sl,F]):=by
 obtain⟨sa,sc,du,re,b,a⟩:=HW a;refine Qn func254 U ntmps254 U ?_;exact Qe (Qa (Qd U U (Qf (Qc (Qe (Qa (Qb U U (Qj U U (Qg U UM U (Qo U QL (a.cell 0 U U) U (Qd U U (Qf (Qc (Qu (QJ (.inr U) U U (⟨_,U,U,JM b (a.pick [0,1,2] U)⟩))))))))))))))))
theorem srow (m:Nat):(List.replicate m [strV []]).flatten=stC.cells (List.replicate m []):=by
  induction m with
  | zero=>rfl
  | succ m ih=> rw[List.replicate_succ,List.flatten_cons,ih,List.replicate_succ];rfl
theorem qbk {F:Th} (c:Sat w [F]) (n:Int):
    Calls prog 56 #[intV n] w (Ret λv w'=> ∃p,v=ptrV p 0/\Sat w' [Bq p (List.replicate (max 0 (min n 4096)).toNat []),F]):=by
 refine Qn func56 U ntmps56 U ?_;refine Qe<|Qa<|Qd U U<|Qf<|Qc<|Qe<|Qa<|Qb U U<|H3 U U U<|Jn U U U<|Ve c (max 0 (min n 4096)).toNat U U (by omega) underlying83 qdy U (by omega) (by omega) U ?_;intro db e a;have d:=a.row_cast (l:=List.replicate (max 0 (min n 4096)).toNat []) (C:=stC) (by simp) U (srow _);refine Zj U qcf asz_180 zr_180 U U<|XL d U U U ?_;intro bp wbp b;refine Qd U U<|Qf<|Qc<|Qu<|QJ (.inr U) U U ?_;exact⟨_,rfl,_,rfl,JM (du:=0) (re:=0) (by rw[List.length_replicate];omega) (by rw[FZ];exact b.pick [0,1,2] U)⟩
end Go.Proofs.YtifaibmhinlcfaaGreatDoor
namespace Go.Proofs.YtifaibmhinlcfaaGreatDoor.M
open Go.RowKit Proofs.Tryz
variable {As:List Th} {b cap dT dc e m m' o off sT size:Nat} {v:Value} {x y:Operand} {xs:List Value}
section
variable {P:Program} {n:Nat} {ops:Array Oper} {Q:Exit→Act→World→Prop} {rest:List Oper} {L:Env} {w:World} {d:Nat} {ty:TypeId} {pos:String} {aft:Array Edge}
theorem qax (i:Nat) (k:Sat w As) {dl:Nat} {s:List UInt8} {xs':List Value} (hi:As[i]? =some (Jk v m size xs)) (l:v= .slice (some ⟨b,o,none⟩) m' cap) (p:look L x=some (.slice (some ⟨b,off,none⟩) dl dc)) (q:look L y=some (strV s)) (r:P.underlying dT=some (.slice e)) (t:ZQ P e=some 1) (g:off+min s.length dl<=xs.length)
    (f:X6 xs off (Zw (s.take dl))=xs') (hd:Nat.blt d n=true) (z: ∀w',Sat w' (As.set i (Jk v m size xs'))->wl P n ops Q rest ((d,.int .i64 ((min s.length dl:Nat):Int))::L) w'):wl P n ops Q (⟨some d,.call ⟨.builtin .copy, #[x,y], #[dT,sT]⟩,ty,pos,aft,none⟩::rest) L w:=by
  subst f;obtain⟨sp,A,c⟩:=k.own_row i hi l;refine XI U hd (λa h=>Cs dT sT x y U (h.eval p) (h.eval q) A r t (by rw[KM];simp;omega)) ?_;rintro u w' ⟨rfl,B,C,_⟩;rw[KM];have j:off+(Zw (s.take dl)).length<=xs.length:=by simp [Zw];omega
  refine z w' (c w' _ (J2 j) ?_ C);rw[<-Y0 j];exact B
theorem ev_strR (i:Nat) (h:Sat w As) {dl:Nat} (l:List UInt8) (hi:As[i]? =some (Jk v m size xs)) (k:v= .slice (some ⟨b,o,none⟩) m' cap) (n:look L x=some (.slice (some ⟨b,off,none⟩) dl dc)) (p:P.underlying sT=some (.slice e)) (r:P.underlying e=some (.int .u8)) (hd:P.underlying dT=some .string) (s:(xs.drop off).take dl=Zw l) (t:l.length=dl):Ev P L w ⟨some d,.convert sT dT x,ty,pos,aft,none⟩ (strV l):= λρ u=>by
  obtain⟨sp,y,_⟩:=h.own_row i hi k;subst t
  have z:=run_convert_bytes_back (P:=P) w sT dT e ⟨b,off,none⟩ dc l p r hd (λj c=>by
    rw[Wx];refine y.cell ?_;have a:=congrArg (λq=>q[j]?) s;simp only[List.getElem?_take,c,if_true,List.getElem?_drop,TR]at a
    have f:off+j<xs.length:=by
      rcases Nat.lt_or_ge (off+j) xs.length with g | g
      · exact g
      · rw[List.getElem?_eq_none g,XQ c]at a;cases a
    rw[List.getElem?_append_left f,a,XQ c];rfl)
  simp [execOp,u _ _ n,z]
theorem Mp {t N sz:Nat} {k:IntKind} {i:Int} (c:P.underlying t=some (.array N e)) (f:Nat.blt 0 N=true) (g:look L x=some (ptrV b o)) (h:look L y=some (.int k i)) (hi:i=(N:Int)) (j:ZQ P e=some sz) (hd:Nat.blt d n=true) (l:wl P n ops Q rest ((d,.slice (some ⟨b,o,none⟩) 0 0)::L) w):wl P n ops Q (⟨some d,.slice t x (some y) none none,ty,pos,aft,none⟩::rest) L w:=
  Xp hd (λρ a=>by
    have m: ∀w,(sizeOf e).run P w= .ok sz w:= λw=>Zp j w;have p: ¬N=0:=by simp at f;omega
    have q:= λw=>RJ (P:=P) false N N (some (.int k i)) none N N ⟨k,by rw[hi]⟩ U (Nat.le_refl _) (Nat.le_refl _) w;simp [execOp,a _ _ g,a _ _ h,Instr.sliceAt,run_underlying c,Instr.sureAddr,q,m,p]) l
end
end Go.Proofs.YtifaibmhinlcfaaGreatDoor.M
namespace Go.Proofs.YtifaibmhinlcfaaGreatDoor
open Go.RowKit M Proofs.Tryz
variable {As:List Th} {b:Bs} {fl:List (Option Bs)} {p:Nat} {w:World}
structure FrD where
  u:Bool
  b:Bs
variable {cl:List FrD}
def PW (b:Bs):List UInt8:=(List.range 64).map λi=>(b[i]?).getD 0
theorem Bk (b:Bs):(PW b).length=64:=by simp [PW]
theorem Bj (h:b.length=64):PW b=b:=by
  apply List.ext_getElem?;intro i;by_cases hi:i<64
  · unfold PW;rw[List.getElem?_map,List.getElem?_range hi,Option.map_some,XQ (by omega)];rfl
  · rw[List.getElem?_eq_none (by rw[Bk];omega),List.getElem?_eq_none (by omega)]
def Fa (x:FrD):List Value:= .bool x.u::Zw (PW x.b)
theorem TP (l:List UInt8):(Zw l).length=l.length:=by simp [Zw]
theorem EZ (x:FrD):(Fa x).length=65:=by unfold Fa;rw[List.length_cons,TP,Bk]
theorem frE_one (x:FrD):Uk (Fa x)=true:=by
  refine BZ λv a=> ?_;unfold Fa at a;rcases List.mem_cons.1 a with rfl | a
  · rfl
  · unfold Zw at a;obtain⟨b,_,rfl⟩:=List.mem_map.1 a;rfl
def frC:RowC FrD:=⟨Fa,65,by decide,EZ,frE_one⟩
def Tk (x:FrD):Option Bs:= if x.u=true then some (PW x.b)else none
def Y5 (fl:List (Option Bs)):Nat:=(fl.filter Option.isSome).length
def GF (p:Nat) (fl:List (Option Bs)):Th:=Cp λq:Value×List FrD=>starL [WH (fl=q.2.map Tk/\fl.length<=4096),Q6 p [q.1,intV (Y5 fl:Nat)],rowT frC q.1 q.2]
theorem UK (h:Sat w (GF p fl::As)): ∃ao cap cl,fl=cl.map Tk/\cl.length<=4096/\Sat w (Q6 p [.slice ao cl.length cap,intV (Y5 fl:Nat)]::rowT frC (.slice ao cl.length cap) cl::As):=by
  obtain⟨⟨v,cl⟩,h⟩:=h.ex;obtain⟨⟨a,b⟩,c⟩:=h.flat.pure_elim;obtain⟨ao,cap,d,_⟩:=Sat.own_shape (As:=Q6 p _::rowT frC v cl::As) c 1 rfl;obtain rfl:=d;exact⟨ao,cap,cl,a,by rw[a,List.length_map]at b;exact b,c⟩
theorem Yw {v:Value} (a:fl=cl.map Tk) (b:cl.length<=4096) (h:Sat w (Q6 p [v,intV (Y5 fl:Nat)]::rowT frC v cl::As)):Sat w (GF p fl::As):=
  Sat.ex_intro (v,cl) (Sat.fold (As:=[WH _,Q6 p _,rowT frC v cl]) (Sat.pure_intro ⟨a,by rw[a,List.length_map];exact b⟩ h))
theorem VW (fl:List (Option Bs)):Y5 fl<=fl.length:=List.length_filter_le _ _
theorem CG: ∀{fl:List (Option Bs)} {k:Nat} {b:Bs},fl[k]? =some none->Y5 (fl.set k (some b))=Y5 fl+1
  | [],_,_,h=>by simp at h
  | a::fl,0,b,h=>by
    simp at h;subst h;unfold Y5;simp
  | a::fl,k+1,b,h=>by
    have :=CG (fl:=fl) (k:=k) (b:=b) (by simpa using h);unfold Y5 at this⊢;rw[List.set_cons_succ,List.filter_cons,List.filter_cons];split
    · rw[List.length_cons,List.length_cons,this]
    · exact this
theorem My: ∀{fl:List (Option Bs)} {k:Nat} {b:Bs},fl[k]? =some (some b)->Y5 (fl.set k none)+1=Y5 fl
  | [],_,_,h=>by simp at h
  | a::fl,0,b,h=>by
    simp at h;subst h;unfold Y5;simp
  | a::fl,k+1,b,h=>by
    have :=My (fl:=fl) (k:=k) (b:=b) (by simpa using h);unfold Y5 at this⊢;rw[List.set_cons_succ,List.filter_cons,List.filter_cons];split
    · rw[List.length_cons,List.length_cons,<-this]
    · exact this
theorem R9: ∀{fl:List (Option Bs)} {k:Nat} {b c:Bs},fl[k]? =some (some b)->Y5 (fl.set k (some c))=Y5 fl
  | [],_,_,_,h=>by simp at h
  | a::fl,0,b,c,h=>by
    simp at h;subst h;unfold Y5;simp
  | a::fl,k+1,b,c,h=>by
    have :=R9 (fl:=fl) (k:=k) (b:=b) (c:=c) (by simpa using h);unfold Y5 at this⊢;rw[List.set_cons_succ,List.filter_cons,List.filter_cons];split
    · rw[List.length_cons,List.length_cons,this]
    · exact this
def Ws (fl:List (Option Bs)) (f:Int):Option Bs:= if 0<=f then(match fl[f.toNat]? with | some (some b)=>some b | _=>none)else none
theorem Hg {f:Int} (h:Ws fl f=some b):0<=f/\fl[f.toNat]? =some (some b):=by
  unfold Ws at h;split at h
  · rename_i a;refine⟨a, ?_⟩;split at h
    · rename_i b' c;cases h;exact c
    · cases h
  · cases h
theorem qd9 {f:Int} {x:FrD} (a:0<=f) (b:cl[f.toNat]? =some x):Ws (cl.map Tk) f=Tk x:=by
  unfold Ws;rw[if_pos a,List.getElem?_map,b,Option.map_some];unfold Tk;cases x.u<;>rfl
theorem Nw {f:Int} (h:f<0\/(cl.length:Int)<=f):Ws (cl.map Tk) f=none:=by
  unfold Ws;split
  · rw[List.getElem?_eq_none (by rw[List.length_map];omega)]
  · rfl
theorem GE {F:Th} (d:Sat w [GF p fl,F]) (f:Int):
    Calls prog 195 #[ptrV p 0,intV f] w (Ret λv w'=>v= .bool (Ws fl f).isSome/\Sat w' [GF p fl,F]):=by
 obtain⟨fa,fc,cl,c,e,d⟩:=UK d;refine Qn func195 U ntmps195 U ?_;refine Qe<|Qa<|Qd U U<|Qf<|Qc<|Qe<|Qa<|Qb U U<|WU U U U<|Qb U U<|QZ 7 U (λb=> ?_) (λb=> ?_)
 ·refine Qk U U (det b)<|Qb U U<|Qk U U (det b)<|Qb U U<|Qk U U (det b)<|Qj U U<|Qk U U (det b)<|Qg U YQ U<|Qk U U (det b)<|Qo U V7 (d.cell 0 U U) U<|Qk U U (det b)<|Xl underlying176 U U<|Qk U U (det b)<|Xa U U U<|QF U (det b) U U<|Qb U U<|QZ 16 U (λa=> ?_) (λa=> ?_)
  ·obtain⟨x,h⟩: ∃x,cl[f.toNat]? =some x:=⟨_,XQ (by omega)⟩;refine Qk U U (det a)<|Qb U U<|Qk U U (det a)<|Qj U U<|Qk U U (det a)<|Qg U YQ U<|Qk U U (det a)<|Qo U V7 (d.cell 0 U U) U<|Qk U U (det a)<|Qb U U<|Qk U U (det a)<|Xj frC 1 f.toNat d U U U (by omega) h Kt U ?_;intro bx3 capx3 g;refine Qk U U (det a)<|Qg U Tm U<|Qk U U (det a)<|Zh 1 f.toNat 0 d U g U U h VM U U<|QF U (det a) U U<|Qd U U<|Qf<|Qc<|Qh [4] U<|Qu<|QJ (.inr U) U U ?_;exact⟨_,rfl,by rw[c,qd9 (by omega) h];unfold Tk;cases x.u<;>rfl,Yw c e (d.pick [0,1,2] U)⟩
  refine Qi U U (QH a) U<|Qi U U (QH a) U<|Qi U U (QH a) U<|Qi U U (QH a) U<|Qi U U (QH a) U<|Qi U U (QH a) U<|Qi U U (QH a) U<|Qi U U (QH a) U<|Q9 U (QH a) U U<|Qd U U<|Qf<|Qc<|Qh [4] U<|Qu<|QJ (.inr U) U U ?_;exact⟨_,rfl,by rw[c,Nw (by omega)];rfl,Yw c e (d.pick [0,1,2] U)⟩
 refine Qi U U (QH b) U<|Qi U U (QH b) U<|Qi U U (QH b) U<|Qi U U (QH b) U<|Qi U U (QH b) U<|Qi U U (QH b) U<|Qi U U (QH b) U<|Q9 U (QH b) U U<|Qb U U<|Qi U U U U<|Qi U U U U<|Qi U U U U<|Qi U U U U<|Qi U U U U<|Qi U U U U<|Qi U U U U<|Qi U U U U<|Q9 U U U U<|Qd U U<|Qf<|Qc<|Qh [4] U<|Qu<|QJ (.inr U) U U ?_;exact⟨_,rfl,by rw[c,Nw (by omega)];rfl,Yw c e (d.pick [0,1,2] U)⟩
