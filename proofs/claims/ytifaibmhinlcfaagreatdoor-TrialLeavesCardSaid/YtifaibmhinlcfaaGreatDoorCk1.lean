/- reclaim: the clock -/
import Derived.Test.YtifaibmhinlcfaaGreatDoorSh4
set_option linter.unusedVariables false
set_option maxRecDepth 100000
namespace Go.Proofs.YtifaibmhinlcfaaGreatDoor
open Go.RowKit M Proofs.Tryz
variable {As:List Th} {b1 b2 b3 k p:Nat} {g1 g2 g3:Int→Option Int} {h hd:Int} {ul:List Bool} {v0:Value} {w:World}
structure CkD where
  u:Bool
  m:Bool
  t:Bool
  o:Int
variable {l:List CkD} {x:CkD}
def ckC:RowC CkD:=⟨λx=>[.bool x.u,.bool x.m,.bool x.t,intV x.o],4,by decide,λ_=>rfl,λ_=>rfl⟩
def gI (g:Int->Option Int):Int->Option Value:= λk=>(g k).map intV
theorem Kk (g:Int->Option Int) (k:Int):(gI g k).getD (intV 0)=intV ((g k).getD 0):=by unfold gI;cases g k<;>rfl
theorem GC (g:Int->Option Int) (k x:Int):upd (gI g) k (some (intV x))=gI (up g k (some x)):=by
  funext j;by_cases h:j=k
  · subst h;rw[XR];unfold gI;rw[Zf];rfl
  · rw[ZG h];unfold gI;rw[Zq h]
theorem GD:(λ_=>none:Int->Option Value)=gI (λ_=>none):=rfl
structure CkX where
  v:Value
  l:List CkD
  b1:Nat
  b2:Nat
  b3:Nat
  g1:Int→Option Int
  g2:Int→Option Int
  g3:Int→Option Int
def DB (p:Nat) (ul:List Bool) (h:Int):Th:=Cp λq:CkX=>starL [WH (ul=q.l.map CkD.u/\ul.length<=4096/\0<=h/\h<ul.length),Q6 p [q.v,intV h,.map (some q.b1),.map (some q.b2),.map (some q.b3)],rowT ckC q.v q.l,Q4 QY q.b1 (gI q.g1),Q4 QY q.b2 (gI q.g2),Q4 QY q.b3 (gI q.g3)]
def N4 (p:Nat) (ul:List Bool):Th:=Cp λh:Int=>DB p ul h
theorem JV (a:Sat w (DB p ul h::As)): ∃ob cap l b1 b2 b3 g1 g2 g3,ul=l.map CkD.u/\l.length<=4096/\0<=h/\h<l.length/\Sat w (Q6 p [.slice (some ⟨ob,0,none⟩) l.length cap,intV h,.map (some b1),.map (some b2),.map (some b3)]::rowT ckC (.slice (some ⟨ob,0,none⟩) l.length cap) l::Q4 QY b1 (gI g1)::Q4 QY b2 (gI g2)::Q4 QY b3 (gI g3)::As):=by
  obtain⟨⟨v,l,b1,b2,b3,g1,g2,g3⟩,a⟩:=a.ex;obtain⟨⟨b,c,e,d⟩,f⟩:=a.flat.pure_elim;dsimp only at b c e d;rw[b,List.length_map]at c d;obtain⟨ob,cap,g,_⟩:=Sat.own_at (As:=Q6 p _::rowT ckC v l::Q4 QY b1 (gI g1)::Q4 QY b2 (gI g2)::Q4 QY b3 (gI g3)::As) f 1 rfl (by omega);obtain rfl:=g;exact⟨ob,cap,l,b1,b2,b3,g1,g2,g3,b,c,e,d,f⟩
theorem Z4 {v:Value} (a:ul=l.map CkD.u) (b:l.length<=4096) (c:0<=h) (d:h<l.length)
    (e:Sat w (Q6 p [v,intV h,.map (some b1),.map (some b2),.map (some b3)]::rowT ckC v l::Q4 QY b1 (gI g1)::Q4 QY b2 (gI g2)::Q4 QY b3 (gI g3)::As)):Sat w (DB p ul h::As):=
  Sat.ex_intro (f:= λq:CkX=>starL [WH (ul=q.l.map CkD.u/\ul.length<=4096/\0<=h/\h<ul.length),Q6 p [q.v,intV h,.map (some q.b1),.map (some q.b2),.map (some q.b3)],rowT ckC q.v q.l,Q4 QY q.b1 (gI q.g1),Q4 QY q.b2 (gI q.g2),Q4 QY q.b3 (gI q.g3)]) ⟨v,l,b1,b2,b3,g1,g2,g3⟩
    (Sat.fold (As:=[WH _,Q6 p _,rowT ckC v l,Q4 QY b1 (gI g1),Q4 QY b2 (gI g2),Q4 QY b3 (gI g3)]) (Sat.pure_intro ⟨a,by rw[a,List.length_map];exact b,c,by rw[a,List.length_map];exact d⟩ e))
theorem ck_u (h:l[k]? =some x):(l.map CkD.u)[k]? =some x.u:=by rw[List.getElem?_map,h];rfl
theorem P3:(l.set k x).map CkD.u=(l.map CkD.u).set k x.u:=List.map_set
theorem Re {y:CkD} (h:l[k]? =some x) (a:y.u=x.u):(l.set k y).map CkD.u=l.map CkD.u:=by
  rw[P3,a];exact Gy (ck_u h)
theorem TJ {F:Th} (c:Sat w [DB p ul hd,F]) (f:Int):
    Calls prog 240 #[ptrV p 0,intV f] w (Ret λv w'=>v= .bool (decide (0<=f/\f<(ul.length:Int)))/\Sat w' [DB p ul hd,F]):=by
 obtain⟨ob,cap,l,b1,b2,b3,g1,g2,g3,b,d,e,g,c⟩:=JV c;refine Qn func240 U ntmps240 U ?_;refine Qe<|Qa<|Qd U U<|Qf<|Qc<|Qe<|Qa<|Qb U U<|WU U U U<|Qb U U<|QZ 7 U (λa=> ?_) (λa=> ?_)
 ·refine Qk U U (det a)<|Qb U U<|Qk U U (det a)<|Qb U U<|Qk U U (det a)<|Qj U U<|Qk U U (det a)<|Qg U Wd U<|Qk U U (det a)<|Qo U J8 (c.cell 0 U U) U<|Qk U U (det a)<|Xl underlying181 U U<|Qk U U (det a)<|Xa U U U<|QF U (det a) U U<|Qd U U<|Qf<|Qc<|Qh [4] U<|Qu<|QJ (.inr U) U U ?_;exact⟨_,rfl,by congr 1;rw[b,List.length_map];(simp;omega),Z4 (b) (d) (e) (g) (c.pick [0,1,2,3,4,5] U)⟩
 refine Qi U U (QH a) U<|Qi U U (QH a) U<|Qi U U (QH a) U<|Qi U U (QH a) U<|Qi U U (QH a) U<|Qi U U (QH a) U<|Qi U U (QH a) U<|Q9 U (QH a) U U<|Qd U U<|Qf<|Qc<|Qh [4] U<|Qu<|QJ (.inr U) U U ?_;exact⟨_,rfl,by congr 1;rw[b,List.length_map];(simp;omega),Z4 (b) (d) (e) (g) (c.pick [0,1,2,3,4,5] U)⟩
theorem BU {F:Th} (r:Sat w [DB p ul hd,F]) (f:Int) (s:0<=f/\f<(ul.length:Int)):
    Calls prog 229 #[ptrV p 0,intV f] w (Ret λv w'=>v= .tuple #[]/\Sat w' [DB p (ul.set f.toNat false) hd,F]):=by
 refine Qn func229 U ntmps229 U ?_;refine Qe<|Qe<|Qa<|Qb U U<|Qb U U<|Qw PF U (TJ (r.sp [0] U) f) U ?_;rintro _ y ⟨rfl,m⟩;replace m:=m.jn U U;rw[det (show 0<=f/\f<(ul.length:Int) from s)];refine QX U U<|Qb U U<|Qk U U U ?_;obtain⟨ob,cap,l,b1,b2,b3,g1,g2,g3,b,c,d,e,a⟩:=JV (m.pick [0,1] rfl);have n:ul.length=l.length:=by rw[b,List.length_map]
 obtain⟨x,g⟩: ∃x,l[f.toNat]? =some x:=⟨_,XQ (by omega)⟩;refine Qb U U<|Qk U U U<|Qj U U<|Qk U U U<|Qg U Wd U<|Qk U U U<|Qo U J8 (a.cell 0 U U) U<|Qk U U U<|Qb U U<|Qk U U U<|Xj ckC 1 f.toNat a U U U (by omega) g Hz U ?_;intro bx2 capx2 h;refine Qk U U U<|Qg U GI U<|Qk U U U<|Zh 1 f.toNat 0 a U h U U g VM U U<|Qk U U U<|QX U U<|Q9 U U U U<|Qf<|Qc<|Qh [1,0,18] U<|QR U (λt=> ?_) (λt=> ?_)
 ·refine Qu<|Qq<|Zb (.inr U) U ?_;exact⟨_,rfl,rfl,by rw[show ul.set f.toNat false=ul by rw[b];exact Gy (by rw[ck_u g];congr 1;simpa using(by assumption:(!x.u)=true))];exact Z4 (b) (c) (d) (e) (a.pick [0,1,2,3,4,5] U)⟩
 refine Qt<|Qc<|Qe ?_;have i:=a.drew;refine Q7 [0,1,2,3,4,5,6,7,8,9,10,11,12,13,14] [14] Z9 (by kernel_rfl) ?_;refine Q3 U U U<|QP U U U<|QG U U U GK<|Q0 U U U (Ql U YX (i.cell 0 U U))<|Q3 U U U<|QP U U U<|QG U U U Wd<|Q0 U U U (Ql U J8 (i.cell 0 U U))<|Q3 U U U<|Xi U U U (λ_=>(XK f.toNat U U (by omega) (by omega) Hz)) ?_;refine QG U U U GH<|Q0 U U U (ZN ckC 1 f.toNat 3 i U g QL U U)<|Q0 U U U (X4 2 i keysInt underlying77 U U U Ul (Kk _ _))<|Xi U U U (λ_=>(Mb U U U)) ?_;refine QO U U U U U U ?_
 first | refine QT 2 i keysInt underlying77 U U U U ?_
 intro z o;dsimp only[List.set]at o;refine Zc (Xd (by kernel_rfl)) ?_;refine VC.nil ?_;have k:=o;rw[GC]at k;refine Qc<|Qh [1,0] U<|Qa<|Qb U U<|Qj U U<|Qg U Wd U<|Qo U J8 (k.cell 0 U U) U<|Qb U U<|Zj U pl_281_ PX Mm U U<|Xj ckC 1 f.toNat k U U U (by omega) g Hz U ?_;intro bx7 capx7 j;refine Wp 1 f.toNat (⟨false,false,false,0⟩:CkD) k U j U U RC (by rfl) (by omega) ?_;intro A q;dsimp only[List.set]at q;refine Qf<|Zb (.inl U) U ?_;exact⟨_,rfl,rfl,Z4 (show _=(l.set f.toNat ⟨false,false,false,0⟩).map CkD.u by rw[b,P3]) (by rw[List.length_set];exact c) (d) (by rw[List.length_set];exact e) (q.pick [0,1,2,3,4,5] U)⟩
theorem Gc {F:Th} (A:Sat w [DB p ul hd,F]) (f:Int) (B:0<=f/\f<(ul.length:Int)):
    Calls prog 241 #[ptrV p 0,intV f] w (Ret λv w'=>v= .tuple #[]/\Sat w' [DB p ul hd,F]):=by
 refine Qn func241 U ntmps241 U ?_;refine Qe<|Qe<|Qa<|Qb U U<|Qb U U<|Qw PF U (TJ (A.sp [0] U) f) U ?_;rintro _ G ⟨rfl,r⟩;replace r:=r.jn U U;rw[det (show 0<=f/\f<(ul.length:Int) from B)];refine QX U U<|Qb U U<|Qk U U U ?_;obtain⟨ob,cap,l,b1,b2,b3,g1,g2,g3,c,e,g,h,a⟩:=JV (r.pick [0,1] rfl);have u:ul.length=l.length:=by rw[c,List.length_map]
 obtain⟨x,j⟩: ∃x,l[f.toNat]? =some x:=⟨_,XQ (by omega)⟩;refine Qb U U<|Qk U U U<|Qj U U<|Qk U U U<|Qg U Wd U<|Qk U U U<|Qo U J8 (a.cell 0 U U) U<|Qk U U U<|Qb U U<|Qk U U U<|Xj ckC 1 f.toNat a U U U (by omega) j Hz U ?_;intro bx2 capx2 k;refine Qk U U U<|Qg U GI U<|Qk U U U<|Zh 1 f.toNat 0 a U k U U j VM U U<|Qk U U U<|QX U U<|Q9 U U U U<|Qf<|Qc<|Qh [1,0,19] U<|QR U (λC=> ?_) (λC=> ?_)
 ·exact Qu (Qq (Zb (.inr U) U (⟨_,U,U,Z4 (c) (e) (g) (h) (a.pick [0,1,2,3,4,5] U)⟩)))
 refine Qt<|Qc<|Qe<|Qa<|Qb U U<|Qj U U<|Qg U Wd U<|Qo U J8 (a.cell 0 U U) U<|Qb U U<|Xj ckC 1 f.toNat a U U U (by omega) j Hz U ?_;intro bx4 capx4 b;refine Qd U U<|Qf<|Qc<|Qe<|Qa<|Qb U U<|Qj U U<|Qg U UL U<|JZ 1 f.toNat 1 {x with m:=true} a U b U U U Cj j U (by decide) U (by rfl) ?_
 intro H q;dsimp only[List.set]at q;clear a;refine Qf<|Qc<|Qh [0,4] U<|Qe ?_;have i:(l.set f.toNat {x with m:=true})[f.toNat]? =some {x with m:=true}:=List.getElem?_set_self (by omega)
 refine Qa<|Qb U U<|Qj U U<|Qg U Tl U<|Zh 1 f.toNat 2 q U b U U i VM U U<|QX U U<|Qf<|Qc<|QR U (λD=> ?_) (λD=> ?_)
 ·refine Qe<|Qa<|Qb U U<|Qj U U<|Qg U Tl U<|JZ 1 f.toNat 2 {x with m:=true,t:=true} q U b U U U Cj i U (by decide) U (by rfl) ?_
  intro I z;dsimp only[List.set]at z;refine Qf<|Qc ?_;have s:((l.set f.toNat {x with m:=true}).set f.toNat {x with m:=true,t:=true})[f.toNat]? =some {x with m:=true,t:=true}:=List.getElem?_set_self (by rw[List.length_set];omega)
  have d:=z.drew;refine Q7 [0,1,2,3,4,5,6,7,8,9,10] [10] Z9 (by kernel_rfl) ?_;refine Q3 U U U<|QP U U U<|QG U U U Kn<|Q0 U U U (Ql U YX (d.cell 0 U U))<|Q3 U U U<|QP U U U<|QG U U U GH<|Q0 U U U (Ql U QL (d.ocell 1 U b (RowC.cells_get s U)))<|Q0 U U U (X4 3 d keysInt underlying77 U U U Ul (Kk _ _))<|Xi U U U (λ_=>(Rb U U U)) ?_;refine QO U U U U U U ?_
  first | refine QT 3 d keysInt underlying77 U U U U ?_
  intro E n;dsimp only[List.set]at n;refine Zc (Xd (by kernel_rfl)) ?_;refine VC.nil ?_;have o:=n;rw[GC]at o;refine Zb (.inl U) U ?_;exact⟨_,rfl,rfl,Z4 (l:=((l.set f.toNat {x with m:=true}).set f.toNat {x with m:=true,t:=true})) (by rw[c];exact((Re (y:={x with m:=true,t:=true}) i U).trans (Re (y:={x with m:=true}) j U)).symm) (by simp only[List.length_set];exact e) (g) (by simp only[List.length_set];exact h) (o.pick [0,1,2,3,4,5] U)⟩
 refine Qt<|Zb (.inl U) U ?_;exact⟨_,rfl,rfl,Z4 (l:=(l.set f.toNat {x with m:=true})) (by rw[c];exact(Re (y:={x with m:=true}) j U).symm) (by simp only[List.length_set];exact e) (g) (by simp only[List.length_set];exact h) (q.pick [0,1,2,3,4,5] U)⟩
theorem qe6 {F:Th} (hS:Sat w [DB p ul hd,F]) (f:Int) (E:0<=f/\f<(ul.length:Int)) (owner:Int):
    Calls prog 223 #[ptrV p 0,intV f,intV owner] w (Ret λv w'=>v= .tuple #[]/\Sat w' [DB p (ul.set f.toNat true) hd,F]):=by
 refine Qn func223 U ntmps223 U ?_;refine Qe<|Qe<|Qa<|Qb U U<|Qb U U<|Qw PF U (TJ (hS.sp [0] U) f) U ?_;rintro _ w1 ⟨rfl,O⟩;replace O:=O.jn U U;rw[det (show 0<=f/\f<(ul.length:Int) from E)];refine QX U U<|Qf<|Qc<|O0 U U<|Qt<|Qc<|Qe<|Qe ?_;obtain⟨ob,cap,l,b1,b2,b3,g1,g2,g3,e,r,s,t,g⟩:=JV (O.pick [0,1] rfl);have a1:ul.length=l.length:=by rw[e,List.length_map]
 obtain⟨x,P⟩: ∃x,l[f.toNat]? =some x:=⟨_,XQ (by omega)⟩;refine Qa<|Qb U U<|Qj U U<|Qg U Wd U<|Qo U J8 (g.cell 0 U U) U<|Qb U U<|Xj ckC 1 f.toNat g U U U (by omega) P Hz U ?_;intro bx2 capx2 H;refine Wq 1 f.toNat g U H U P qgh RC U U<|Xc g Mm U U ?_;intro b3 w3 j3;clear g
 (refine QW j3 U U RC U (by rfl) (i:=0) U (by decide) ?_)
 intro w4 G;dsimp only[List.set]at G;refine Qf<|Qc<|Qh [2,1,0,6] U<|Qe<|Qa<|Qg U GI U<|Qo U VM (G.cell 0 U U) U<|QX U U<|Qb U U<|X9 21 U (λh=> ?_) (λh=> ?_)
 ·refine Qi U U h U<|Qi U U h U<|Qi U U h U<|Qi U U h U<|QF U h U U<|Qf<|Qc<|Qh [2,1,0,26] U<|Xm U<|Qe ?_;have b:=Z4 (e) (r) (s) (t) (G.pick [1,2,3,4,5,6] U);refine Qa<|Qb U U<|Qb U U<|Qw PH U (BU (b.sp [0] U) f E) U ?_;rintro _ w7 ⟨rfl,Q⟩;replace Q:=Q.jn U U;clear b;refine Qf<|Qc<|Qe ?_;obtain⟨ob2,cap2,l2,R,S,T,V,W,X,c,j,k,m,a⟩:=JV (Q.pick [0,1] rfl);have I:l2.length=ul.length:=by have :=congrArg List.length c;rw[List.length_set,List.length_map]at this;exact this.symm
  obtain⟨x2,y⟩: ∃x,l2[f.toNat]? =some x:=⟨_,XQ (by omega)⟩;refine Qa<|Qb U U<|Qj U U<|Qg U Wd U<|Qo U J8 (a.cell 0 U U) U<|Qb U U<|Qb U U<|Zj U MO PX Mm U U<|Xj ckC 1 f.toNat a U U U (by omega) y Hz U ?_;intro bx8 capx8 J;refine Wp 1 f.toNat (⟨true,false,false,owner⟩:CkD) a U J U U RC (by rfl) (by omega) ?_;intro w9 o;dsimp only[List.set]at o;clear a;refine Qf<|Qc<|Qh [2,1,0] U<|Qa<|Qb U U<|Qj U U<|Qg U GK U<|Qo U YX (o.cell 0 U U) U<|Qb U U<|Xf 2 o keysInt underlying77 U U U Ul (Kk _ _) U<|NE U U U U ?_
  first | refine QT 2 o keysInt underlying77 U U U U ?_
  intro a2 K;dsimp only[List.set]at K;refine Qf ?_;have L:=K;rw[GC]at L;have d:=Z4 (ul:=ul.set f.toNat true) (l:=l2.set f.toNat ⟨true,false,false,owner⟩) (by rw[P3,<-c,List.set_set]) (by rw[List.length_set];exact j) k (by rw[List.length_set];exact m) (L.pick [0,1,2,3,4,5] U);refine Qc<|Qa<|Qb U U<|Qb U U ?_;refine Qw PE U (Gc (d.sp [0] U) f (by rw[List.length_set];exact E)) U ?_;rintro _ a3 ⟨rfl,z⟩;replace z:=z.jn U U;clear d;exact Qf (Zb (.inl U) U (⟨_,U,U,z.pick [0,1] U⟩))
 refine Qk U U h<|Qg U GH U<|Qk U U h<|Qo U QL (G.cell 0 U U) U<|Qk U U h<|Qb U U<|Qk U U h<|Xz U U U<|Q9 U h U U<|Qf<|Qc<|Qh [2,1,0,26] U<|Qs U (λY=> ?_) (λY=> ?_)
 ·refine Qe ?_;have b:=Z4 (e) (r) (s) (t) (G.pick [1,2,3,4,5,6] U);refine Qa<|Qb U U<|Qb U U<|Qw PH U (BU (b.sp [0] U) f E) U ?_;rintro _ a4 ⟨rfl,A⟩;replace A:=A.jn U U;clear b;refine Qf<|Qc<|Qe ?_;obtain⟨ob2,cap2,l2,R,S,T,V,W,X,c,j,k,m,a⟩:=JV (A.pick [0,1] rfl);have I:l2.length=ul.length:=by have :=congrArg List.length c;rw[List.length_set,List.length_map]at this;exact this.symm
  obtain⟨x2,y⟩: ∃x,l2[f.toNat]? =some x:=⟨_,XQ (by omega)⟩;refine Qa<|Qb U U<|Qj U U<|Qg U Wd U<|Qo U J8 (a.cell 0 U U) U<|Qb U U<|Qb U U<|Zj U MO PX Mm U U<|Xj ckC 1 f.toNat a U U U (by omega) y Hz U ?_;intro bx16 capx16 B;refine Wp 1 f.toNat (⟨true,false,false,owner⟩:CkD) a U B U U RC (by rfl) (by omega) ?_;intro a5 q;dsimp only[List.set]at q;clear a;refine Qf<|Qc<|Qh [2,1,0] U<|Qa<|Qb U U<|Qj U U<|Qg U GK U<|Qo U YX (q.cell 0 U U) U<|Qb U U<|Xf 2 q keysInt underlying77 U U U Ul (Kk _ _) U<|NE U U U U ?_
  first | refine QT 2 q keysInt underlying77 U U U U ?_
  intro a6 M;dsimp only[List.set]at M;refine Qf ?_;have N:=M;rw[GC]at N;have d:=Z4 (ul:=ul.set f.toNat true) (l:=l2.set f.toNat ⟨true,false,false,owner⟩) (by rw[P3,<-c,List.set_set]) (by rw[List.length_set];exact j) k (by rw[List.length_set];exact m) (N.pick [0,1,2,3,4,5] U);refine Qc<|Qa<|Qb U U<|Qb U U ?_;refine Qw PE U (Gc (d.sp [0] U) f (by rw[List.length_set];exact E)) U ?_;rintro _ a7 ⟨rfl,C⟩;replace C:=C.jn U U;clear d;exact Qf (Zb (.inl U) U (⟨_,U,U,C.pick [0,1] U⟩))
 refine Qt<|Qc ?_;have n:=Z4 (e) (r) (s) (t) (G.pick [1,2,3,4,5,6] U);have Z:x.u=true:=by simpa using(by assumption:(!x.u)=false)
 have a0:ul.set f.toNat true=ul:=by rw[e];exact Gy (by rw[ck_u P,Z])
 rw[<-a0]at n;refine Qa<|Qb U U<|Qb U U ?_;refine Qw PE U (Gc (n.sp [0] U) f (by rw[List.length_set];exact E)) U ?_;rintro _ a8 ⟨rfl,D⟩;replace D:=D.jn U U;clear n;exact Qf (Zb (.inl U) U (⟨_,U,U,D.pick [0,1] U⟩))
theorem IT {F:Th} (b:Sat w [Q6 p [v0,intV hd,.map (some b1),.map (some b2),.map (some b3)],rowT ckC v0 l,Q4 QY b1 (gI g1),Q4 QY b2 (gI g2),Q4 QY b3 (gI g3),F]) (owner:Int):
    Calls prog 259 #[ptrV p 0,intV owner] w (Ret λv w'=> ∃n,v=intV n/\Sat w' [Q6 p [v0,intV hd,.map (some b1),.map (some b2),.map (some b3)],rowT ckC v0 l,Q4 QY b1 (gI g1),Q4 QY b2 (gI g2),Q4 QY b3 (gI g3),F]):=by
 refine Qn func259 U ntmps259 U ?_;refine Qe<|Qa<|Qd U U<|Qf<|Qc<|Qe ?_;have a:=b.drew;refine Q7 [0,1,2,3,4,5,6,7,8,9,10,11,12,13] [] Z9 (by kernel_rfl) ?_;refine Q3 U U U<|QP U U U<|QG U U U Kn<|Q0 U U U (Ql U YX (a.cell 0 U U))<|Q3 U U U<|Q0 U U U (X4 3 a keysInt underlying77 U U U Ul (Kk _ _))<|Q3 U U U<|QP U U U<|QG U U U Tn<|Q0 U U U (Ql U YX (a.cell 0 U U))<|Q3 U U U<|Q0 U U U (X4 4 a keysInt underlying77 U U U Ul (Kk _ _))<|Xi U U U (λ_=>(Aj U U)) ?_;exact Zd U U U (VC.nil (Qc (Qh [4] U (Qu (QJ (.inr U) U U (⟨_,U,_,U,a⟩))))))
theorem IV {F:Th} (c:Sat w [Q6 p [v0,intV hd,.map (some b1),.map (some b2),.map (some b3)],rowT ckC v0 l,Q4 QY b1 (gI g1),Q4 QY b2 (gI g2),Q4 QY b3 (gI g3),F]) (owner:Int):
    Calls prog 252 #[ptrV p 0,intV owner] w (Ret λv w'=> ∃g,v= .bool g/\Sat w' [Q6 p [v0,intV hd,.map (some b1),.map (some b2),.map (some b3)],rowT ckC v0 l,Q4 QY b1 (gI g1),Q4 QY b2 (gI g2),Q4 QY b3 (gI g3),F]):=by
 refine Qn func252 U ntmps252 U ?_;refine Qe<|Qa<|Qd U U<|Qf<|Qc<|Qe ?_;have b:=c.drew;refine Q7 [0,1,2,3,4,5,6,7,8,9,10] [8] Z9 (by kernel_rfl) ?_;refine Q3 U U U<|QP U U U<|QG U U U GK<|Q0 U U U (Ql U YX (b.cell 0 U U))<|Q3 U U U<|Q0 U U U (X4 2 b keysInt underlying77 U U U Ul (Kk _ _))<|Q3 U U U<|Q3 U U U<|QO U U U U U U ?_;refine Qw cal_259 U (IT (b.sp [0,1,2,3,4] U) owner) U ?_;rintro _ w2 ⟨n,rfl,a⟩;replace a:=a.jn U U;refine Xh (.cons (.inl ⟨U,(X4 2 a keysInt underlying77 U U U Ul (Kk _ _))⟩) (.cons (.inl ⟨U,(Ql U YX (a.cell 0 U U))⟩) .nil))<|Xi U U U (λ_=>(qeh U U)) ?_;exact Zd U U U (VC.nil (Qc (Qh [4] U (Qu (QJ (.inr U) U U (⟨_,U,_,U,a⟩))))))
