/- leaves: SetByte -/
import Derived.Test.YtifaibmhinlcfaaGreatDoorLv5
import Derived.Shelf.Lays7
import Derived.Ground.Names7Prog
import Derived.Test.YtifaibmhinlcfaaGreatDoorProg
import Derived.Test.YtifaibmhinlcfaaGreatDoorSh13
import Derived.Test.YtifaibmhinlcfaaGreatDoorCk2
import Derived.Shelf.Spec.TrailingZeros
set_option linter.unusedSectionVars false
set_option linter.unusedVariables false
set_option maxRecDepth 100000
set_option maxHeartbeats 80000000000
namespace Go.Proofs.YtifaibmhinlcfaaGreatDoor
open Go.RowKit M Proofs.Tryz
variable [Inhabited SlW]
variable {L:LvD} {V:VS} {b m n:Nat} {id parent s:Int} {k:KD} {t:TrD} {w:World}
def M4 (A:LvA) (id:Int):Bool:=decide (id=0) || (A.tr id).isSome
theorem O9:M4 (QC L V) id=J5 L id:=by simp [M4,J5,QC]
theorem UF {A:LvA} {x y:LfA}:Wj (Wj A id k x) id k y=Wj A id k y:=by
  cases h:A.tr id with
  | none=>unfold Wj;simp [h]
  | some t=>
    rw[Wi h,Wi (t:={t with lv:=QN t.lv k (some x)}) Qv,Wi h]
    simp only[Hj]
section
variable {L L1 L2 L':LvD} {V V1 V2 V':VS} {id:Int} {t t1 t2:TrD} {k:KD} {x1 x2:LfD} {m Fr:Nat} {s e a r:Int} {pg:Bs} {b:UInt8} {p:Pl}
theorem OwnI.tight_own (h:OwnI L V p m Fr L' V' s e) (a:e≠0):NA V Fr:=by
  rcases h.2.2.2.2 with⟨_,_,b⟩ | ⟨d,_⟩
  · exact λc q=>by have :=Uz q b;omega
  · exact absurd d a
theorem OwnI.tight_set (h:OwnI L V p m Fr L' V' s e) (g:e=0) (i:0<=a/\a<64) (b:V' s=none\/1<ZF V' s\/a<0\/64<=a\/AliveGe V' Fr):NA V Fr:=by
  rcases h.2.2.2.2 with⟨d,_,j⟩ | ⟨k,d,f,l⟩
  · omega
  · rcases b with b | b | b | b | b
    · rw[Vl b]at f;omega
    · omega
    · omega
    · omega
    · exact λc q=>by have :=Uz (h.2.2.1 c q) b;omega
theorem OwnP.step (a:OwnP L V k Fr L' V' s e) (b:LvI m L V):StepI m L V m 1 1 L' V':=by
  refine⟨(a.inv b).1.1, ?_,(a.inv b).1.2.2.1,λc q=>a.sz q⟩;rcases a with⟨_,_,_,_,rfl,_⟩ | ⟨_,_,_,rfl,_⟩ | ⟨_,_,_,_,_,rfl⟩<;>rfl
noncomputable def wrP (A:LvA) (k:KD) (a:Int) (b:UInt8):LvA:={A with pres:=VN A.pres k ((A.pres k).set a.toNat b)}
theorem qb7 (g:OwnP L V k Fr L' V' s 0) (h:LvI m L V) (i:V' s=some (r,pg)) (l:0<=a/\a<64):StepI m L V m 1 1 L' (QN V' s (some (r,pg.set a.toNat b)))/\QC L' (QN V' s (some (r,pg.set a.toNat b)))=wrP (QC L V) k a b:=by
  have d:=(g.inv h).1;have f:=g.step h
  obtain⟨c1,n,o⟩:s≠0/\ZF V' s=1/\Xx L' (.inl k)=s:=by
    rcases d.2.2.2.2 with⟨q,_⟩ | ⟨_,q⟩
    · omega
    · exact q
  obtain⟨p,d2⟩:=qb3 (b:=b) d.1 n i o l;refine⟨⟨p,f.sp,λc q=>(f.al c q).sub λj t=> ?_,f.sz⟩,by rw[d2,d.2.1];rfl⟩;by_cases e:j=s
  · subst e;rw[i];simp
  · rwa [Qz e]at t
theorem Sv (a:TouR L V id t k L1 V1 t1 x1) (b:L.tr id=some t) (h:LvI m L V) (f:OwnT L1 V1 id t1 k x1 Fr L2 V2 s e):
    StepI m L V m 1 1 L2 V2/\OwnI L1 V1 (.inr (id,k,true)) m Fr L2 V2 s e/\QC L2 V2=Wj (QC L V) id k (Z6 (QC L V) id k)/\(NA V1 Fr->NA V Fr):=by
  obtain⟨i,n,j,g,o⟩:=a.inv b h;have d:=(f.inv (a.tr b) a.lv i).1;exact⟨⟨d.1,f.sp.trans a.sp,λc q=>d.2.2.1 c (g c q),λc q=>f.sz (a.tr b) a.lv (a.sz b q)⟩,d,d.2.1.trans j,λq c l=>q c (g c l)⟩
def wrX (x:LfA) (a:Int) (b:UInt8):LfA:={x with own:=x.own.set a.toNat b,wr:=x.wr ||| (1#64<<<a.toNat)}
theorem qb4 (g:TouR L V id t k L1 V1 t1 x1) (h:L.tr id=some t) (n:LvI m L V) (u:OwnT L1 V1 id t1 k x1 Fr L2 V2 s 0) (d:L2.tr id=some t2) (f:t2.lv k=some x2) (o:V2 s=some (r,pg)) (v:0<=a/\a<64):
    StepI m L V m 1 1 (ZA L2 id t2 k {x2 with wr:=x2.wr ||| (1#64<<<a.toNat)}) (QN V2 s (some (r,pg.set a.toNat b)))/\
    QC (ZA L2 id t2 k {x2 with wr:=x2.wr ||| (1#64<<<a.toNat)}) (QN V2 s (some (r,pg.set a.toNat b)))=Wj (QC L V) id k (wrX (Z6 (QC L V) id k) a b):=by
  obtain⟨i,l,w,C⟩:=Sv g h n u;obtain⟨g1,g2,g3,D,E⟩:=g.inv h n
  obtain⟨c1,x,y⟩:s≠0/\ZF V2 s=1/\Xx L2 (.inr (id,k,true))=s:=by
    rcases l.2.2.2.2 with⟨q,_⟩ | ⟨_,q⟩
    · omega
    · exact q
  obtain⟨z,d2⟩:=qb2 (b:=b) l.1 x o y d f v;have p:WF V2 x2=Z6 (QC L V) id k:=(qgl l.2.1 (g.tr h) g.lv d f).trans g2;have A:x2.wr=(Z6 (QC L V) id k).wr:=by rw[<-p];rfl
  refine⟨⟨z,i.sp,λc q=>(i.al c q).sub λj B=> ?_,λc q=>(i.sz c q).putOld d f U U⟩, ?_⟩
  · by_cases e:j=s
    · subst e;rw[o];simp
    · rwa [Qz e]at B
  · rw[d2,w,UF,p,A];rfl
end
theorem OwnT.pres {L':LvD} {V':VS} {x:LfD} {Fr:Nat} {e:Int} (h:OwnT L V id t k x Fr L' V' s e):L'.pres=L.pres:=by
  rcases h with⟨_,_,_,_,rfl,_⟩ | ⟨_,_,_,rfl,_⟩ | ⟨_,_,_,_,_,rfl⟩<;>rfl
theorem qbx {Fr:Nat} {F:Th} (D:Sat w [WB b L,ZP L.sp n Fr V,F]) (K:n<=60000000000) (ob:Bs) (a:Int) (bt:UInt8) (g:LvI m L V) (E:m<ZO) (G:0<=a/\a<16384):
    Calls prog 49 #[ptrV b 0,intV 0,strV ob,intV a,XV bt] w (Ret λv w'=> ∃L' V' e,v=intV e/\StepI m L V m 1 1 L' V'/\((e=0/\QC L' V'=wrP (QC L V) (ob,a/ 64) (a%64) bt)\/(e≠0/\QC L' V'=QC L V/\NA V Fr))/\Sat w' [WB b L',ZP L'.sp (n+5) Fr V',F]):=by
 refine Qn func49 U ntmps49 U ?_;refine Qe<|Qa<|Qd U U<|Qf<|Qc<|Qe<|Qa<|Qb U U<|Qb U U<|Qw P6 U (G7 (D.sp [] U) ob a) U ?_;rintro _ M ⟨rfl,z⟩;replace z:=z.jn U U;rw[KQ G];refine Qb U U<|Qr U U U<|Qr U U U<|Qr U U U<|Xc z Wo U U ?_;intro kb w2 H;refine QW H U U Xb U (by rfl) (i:=0) U (by decide) ?_;intro N u;dsimp only[List.set]at u;replace u:=Zr (k:=(ob,a/ 64)) u;refine Qd U U<|Qd U U<|Qf<|Qc<|Qh [4,3,1,0,10,11,12,13] U<|Qe<|Qx<|Qe<|Qa<|Qb U U<|Qb U U<|Qw Ge U (HU (u.sp [1] U) 0) U ?_;rintro _ O ⟨rfl,x⟩;replace x:=x.jn U U;refine QX U U<|Qd U U<|Qf<|Qc<|Qh [4,3,1,0,10,11,12,13,24] U<|QR U (λB=> ?_) (λB=> ?_)
 ·exact absurd B (by simp [J5])
 refine Qe<|Qa<|Qb U U<|QX U U<|Qd U U<|Qf<|Qc<|Qh [4,3,1,0,10,11,12,29] U<|QR U (λC=> ?_) (λC=> ?_)
 ·exact absurd C (by decide)
 refine Qt<|Qm<|Qc<|Qe<|Qa<|Qb U U<|Qb U U ?_;refine XX U Xu Xb (by first | exact x.blk 1 U) (by first | decide | exact Xk U | (simp;done) | omega) U U ?_
 refine Qw qfe U (own0_sp (x.sp [0,2] U) (by omega) (g.rank.ends E) (k:=(ob,a/ 64)) (g.alive (.inl (ob,a/ 64)))) U ?_;rintro _ P ⟨L1,V1,s,e,rfl,y,h⟩;replace h:=h.jn U U;have c:=(y.inv g).1;refine Qb U U<|Qr U U U<|Qr U U U<|Qd U U<|Qd U U<|Qf<|Qc<|Qh [4,3,1,0,10,11,12,14,15] U<|Qe<|Qe<|Qa<|Qb U U<|Xz U U U<|Qf<|Qc<|Qs U (λA=> ?_) (λA=> ?_)
 ·have j:e≠0:=A;exact Qe (Qa (Qb U U (Qd U U (Qf (Qc (Qh [4,3,1,0,11,12,14,10] U (Qu (Qq (QJ (.inr U) U U (⟨_,rfl,L1,V1,e,rfl,y.step g,.inr ⟨j,c.2.1,c.tight_own j⟩,(X3 (m:=n+5) (by omega) (h.pick [1,0,3] U)).reorder [1,0,2] U⟩))))))))))
 have j:e=0:=Decidable.not_not.1 A;refine Qt<|Qc<|Qh [4,3,1,0,10,11,12,14] U<|Qe<|Qe<|Qa<|Qb U U<|Qj U U<|Qg U XC U<|Qo U Xr (YJ h 0 U) U<|Qb U U<|Qb U U<|Vd U U (by omega) (by omega) U ?_;refine Qb U U<|XF qfd U (stSet (h.sp [1] U) (by omega) s (a%64) bt) U ?_;rintro e Q ⟨_,rfl,(⟨I,rfl,l,o,f⟩ | ⟨r,pg,J,rfl,R,f⟩)⟩
 ·refine⟨_,U, ?_⟩;replace f:=f.jn U U;refine Qd U U<|Qf<|Qc<|Qh [1,0,10,11,12,16] U<|Qe<|Qa<|Qb U U<|Xz U U U<|Qf<|Qc<|Qs U (λp=> ?_) (λp=> ?_)
  ·exact Qe (Qa (Qb U U (Qd U U (Qf (Qc (Qu (Qq (QJ (.inr U) U U (⟨_,rfl,L1,V1,I,rfl,y.step g,.inr ⟨l,c.2.1,c.tight_set j (by omega) o⟩,(X3 (m:=n+5) (by omega) (f.pick [0,1,3] U)).reorder [1,0,2] U⟩)))))))))
  exact absurd (Decidable.not_not.1 p) l
 refine⟨_,U, ?_⟩;replace f:=f.jn U U;refine Qd U U<|Qf<|Qc<|Qh [1,0,10,11,12,16] U<|Qe<|Qa<|Qb U U<|Xz U U U<|Qf<|Qc<|Qs U (λq=> ?_) (λq=> ?_)
 ·exact absurd U q
 refine Qt<|Qc<|Qe<|Qe<|Qa<|Qb U U<|Xz U U U<|Qf<|Qc<|Qs U (λt=> ?_) (λt=> ?_)
 ·exact absurd U t
 refine Qt<|Qc<|Qe<|Qa<|Qd U U<|Qf<|Qc<|Qu<|QJ (.inr U) U U ?_;subst j;have d:=qb7 (b:=bt) y g J (by omega:0<=a%64/\a%64<64);exact⟨_,rfl,L1,_,0,rfl,d.1,.inl ⟨rfl,d.2⟩,(X3 (m:=n+5) (by omega) (f.pick [0,1,3] U)).reorder [1,0,2] U⟩
theorem qbw {Fr:Nat} {F:Th} (R:Sat w [WB b L,ZP L.sp n Fr V,F]) (hn:n<=60000000000) (ob:Bs) (a:Int) (bt:UInt8) (h:LvI m L V) (S:m<ZO) (d:L.tr id=some t) (T:0<=a/\a<16384):
    Calls prog 49 #[ptrV b 0,intV id,strV ob,intV a,XV bt] w (Ret λv w'=> ∃L' V' e,v=intV e/\StepI m L V m 1 1 L' V'/\((e=0/\QC L' V'=Wj (QC L V) id (ob,a/ 64) (wrX (Z6 (QC L V) id (ob,a/ 64)) (a%64) bt))\/(e≠0/\QC L' V'=Wj (QC L V) id (ob,a/ 64) (Z6 (QC L V) id (ob,a/ 64))/\NA V Fr))/\L'.pres=L.pres/\Sat w' [WB b L',ZP L'.sp (n+5) Fr V',F]):=by
 have O:id≠0:=h.rank.none0 d;refine Qn func49 U ntmps49 U ?_;refine Qe<|Qa<|Qd U U<|Qf<|Qc<|Qe<|Qa<|Qb U U<|Qb U U<|Qw P6 U (G7 (R.sp [] U) ob a) U ?_;rintro _ w1 ⟨rfl,J⟩;replace J:=J.jn U U;rw[KQ T];refine Qb U U<|Qr U U U<|Qr U U U<|Qr U U U<|Xc J Wo U U ?_;intro kb w2 W;refine QW W U U Xb U (by rfl) (i:=0) U (by decide) ?_;intro w3 H;dsimp only[List.set]at H;replace H:=Zr (k:=(ob,a/ 64)) H;refine Qd U U<|Qd U U<|Qf<|Qc<|Qh [4,3,1,0,10,11,12,13] U<|Qe<|Qx<|Qe<|Qa<|Qb U U<|Qb U U<|Qw Ge U (HU (H.sp [1] U) id) U ?_;rintro _ w4 ⟨rfl,I⟩;replace I:=I.jn U U;refine QX U U<|Qd U U<|Qf<|Qc<|Qh [4,3,1,0,10,11,12,13,24] U<|QR U (λP=> ?_) (λP=> ?_)
 ·exact absurd P (by simp [J5,d])
 refine Qe<|Qa<|Qb U U<|QX U U<|Qd U U<|Qf<|Qc<|Qh [4,3,1,0,10,11,12,29] U<|QR U (λQ=> ?_) (λQ=> ?_)
 ·exact absurd Q (by decide)
 refine Qt<|Qm<|Qc<|Qe<|Qa<|Qb U U<|Qb U U ?_;refine XX U Xu Xb (by first | exact I.blk 1 U) (by first | decide | exact Xk U | (simp;done) | omega) U U ?_
 refine Qw qfe U (ownT_sp (I.sp [0,2] U) (by omega) (h.rank.ends S) d (k:=(ob,a/ 64)) O (h.aliveS id (ob,a/ 64))) U ?_;rintro _ w7 ⟨L1,V1,t1,x1,L2,V2,s,e,rfl,o,q,x⟩;replace x:=x.jn U U;have j:=Sv o d h q;refine Qb U U<|Qr U U U<|Qr U U U<|Qd U U<|Qd U U<|Qf<|Qc<|Qh [4,3,1,0,10,11,12,14,15] U<|Qe<|Qe<|Qa<|Qb U U<|Xz U U U<|Qf<|Qc<|Qs U (λK=> ?_) (λK=> ?_)
 ·have z:e≠0:=K;exact Qe (Qa (Qb U U (Qd U U (Qf (Qc (Qh [4,3,1,0,11,12,14,10] U (Qu (Qq (QJ (.inr U) U U (⟨_,rfl,L2,V2,e,rfl,j.1,.inr ⟨z,j.2.2.1,j.2.2.2 (j.2.1.tight_own z)⟩,(q.pres.trans (o.inv d h).2.2.2.2),(X3 (m:=n+5) (by omega) (x.pick [1,0,3] U)).reorder [1,0,2] U⟩))))))))))
 have z:e=0:=Decidable.not_not.1 K;refine Qt<|Qc<|Qh [4,3,1,0,10,11,12,14] U<|Qe<|Qe<|Qa<|Qb U U<|Qj U U<|Qg U XC U<|Qo U Xr (YJ x 0 U) U<|Qb U U<|Qb U U<|Vd U U (by omega) (by omega) U ?_;refine Qb U U<|XF qfd U (stSet (x.sp [1] U) (by omega) s (a%64) bt) U ?_;rintro e w9 ⟨_,rfl,(⟨X,rfl,A,B,p⟩ | ⟨r,pg,Y,rfl,ha,p⟩)⟩
 ·refine⟨_,U, ?_⟩;replace p:=p.jn U U;refine Qd U U<|Qf<|Qc<|Qh [1,0,10,11,12,16] U<|Qe<|Qa<|Qb U U<|Xz U U U<|Qf<|Qc<|Qs U (λC=> ?_) (λC=> ?_)
  ·exact Qe (Qa (Qb U U (Qd U U (Qf (Qc (Qu (Qq (QJ (.inr U) U U (⟨_,rfl,L2,V2,X,rfl,j.1,.inr ⟨A,j.2.2.1,j.2.2.2 (j.2.1.tight_set z (by omega) B)⟩,(q.pres.trans (o.inv d h).2.2.2.2),(X3 (m:=n+5) (by omega) (p.pick [0,1,3] U)).reorder [1,0,2] U⟩)))))))))
  exact absurd (Decidable.not_not.1 C) A
 refine⟨_,U, ?_⟩;replace p:=p.jn U U;refine Qd U U<|Qf<|Qc<|Qh [1,0,10,11,12,16] U<|Qe<|Qa<|Qb U U<|Xz U U U<|Qf<|Qc<|Qs U (λD=> ?_) (λD=> ?_)
 ·exact absurd U D
 refine Qt<|Qc<|Qe<|Qe<|Qa<|Qb U U<|Xz U U U<|Qf<|Qc<|Qs U (λE=> ?_) (λE=> ?_)
 ·obtain⟨t2,x2,f,g,_⟩:=q.leaf (o.tr d) o.lv;have M:=YL f g (p.pick [1,0,2,3] U);have c:=M.drew;refine Q7 [0,1,2,3,4,5,6,7,8,9,10,11,12,13,14,15,16,17,18] [18] Z9 (by kernel_rfl) ?_;refine Q3 U U U<|QP U U U<|QG U U U Wv<|Q0 U U U (Ql U J9 (c.cell 6 U U))<|Q3 U U U<|Q0 U U U (X4 (k:=id) 8 c keysInt underlying141 U U U YY (u:=ptrV t2.ad 0) (XH f))<|QP U U U<|QG U U U Wu<|Q0 U U U (Ql U Jv (c.cell 2 U U))<|Q0 U U U (X5 U Xu Xb (c.blk 11 U) (Xk U) U)<|Q0 U U U (X4 (k:=(ob,a/ 64)) 3 c keysKey underlying145 U U U Ht (u:=ptrV x2.ad 0) (XH g))<|QP U U U<|QG U U U Wt<|Q0 U U U (Ql U Ju (c.cell 0 U U))<|Q3 U U U<|Xi U U U (λ_=>(GR U U)) ?_;refine QP U U U<|QG U U U Wt<|QO U U U U U U ?_;refine QK c U U Kb U (i:=0) U (Xk U) ?_;intro Z G;dsimp only[List.set]at G;refine Zc (Xd (by kernel_rfl)) ?_;refine VC.nil (Qc (Qh [10] U (Qe (Qa (Qd U U (Qf (Qc (Qu (QJ (.inr U) U U ?_)))))))));have N:=Js (L:=_) (y:={x2 with wr:=x2.wr ||| (1#64<<<(a%64).toNat)}) f g U (G.pick [0,1,2,3,4,5,6,7,8,9,10,11,12] U)
  subst z;have l:=qb4 (b:=bt) o d h q f g Y (by omega:0<=a%64/\a%64<64);exact⟨_,rfl,_,_,0,rfl,l.1,.inl ⟨rfl,l.2⟩,(q.pres.trans (o.inv d h).2.2.2.2),(X3 (m:=n+5) (by omega) (N.pick [1,0,3] U)).reorder [1,0,2] U⟩
 exact absurd (Decidable.not_not.1 E) O
section
variable {L L1 L':LvD} {V V1 V':VS} {id:Int} {t t1 t':TrD} {k:KD} {x y x1:LfD} {m Fr:Nat} {a:Int}
theorem qcd (c:LvI m L V) (a:L.tr id=some t) (e:t.lv k=some x) (i:y.base=x.base) (j:y.own=x.own) (l:AgA (WF V y)):
    LvI m (ZA L id t k y) V/\QC (ZA L id t k y) V=Wj (QC L V) id k (WF V y):=by
  generalize b:ZA L id t k y=L';have g:L'.pres=L.pres:=by subst b;rfl
  have d:L'.tr=QN L.tr id (some {t with lv:=QN t.lv k (some y)}):=by subst b;rfl
  have n: ∀q,Xx L' q=Xx L q:= λq=>by
    rw[HM (x:=y) g d a U,i,j];rw[HS (f:=Xx L) (v:=x.base) (by rw[XB a e];rfl),HS (by rw[XB a e];rfl)]
  have h:QC L' V=Wj (QC L V) id k (WF V y):=Hh g d a U λ_ _ _=>rfl;exact⟨⟨c.ref.fn n,by rw[d];exact c.rank.same (Jr a U),by rw[h];exact c.agree.put l⟩,h⟩
theorem TouR.step (a:TouR L V id t k L1 V1 t1 x1) (b:L.tr id=some t) (d:LvI m L V):StepI m L V m 0 1 L1 V1:=by
  obtain⟨e,g,h,f,i⟩:=a.inv b d;exact⟨e,a.sp,λc q=>(f c q).mono (by omega),λc q=>a.sz b q⟩
theorem qa9 (a:TouR L V id t k L1 V1 t1 x1) (b:L.tr id=some t) (f:LvI m L V) {rd wr:BitVec 64} (g: ∀j,j<64->wr.getLsbD j=false->x1.wr.getLsbD j=false):
    StepI m L V m 0 1 (ZA L1 id t1 k {x1 with rd:=rd,wr:=wr}) V1/\QC (ZA L1 id t1 k {x1 with rd:=rd,wr:=wr}) V1=Wj (QC L V) id k {Z6 (QC L V) id k with rd:=rd,wr:=wr}:=by
  obtain⟨d,i,l,n,r⟩:=a.inv b f;obtain⟨o,p⟩:=qcd (y:={x1 with rd:=rd,wr:=wr}) d (a.tr b) a.lv rfl rfl (λj e h=>(d.agree id _ k _ (Z1 (a.tr b)) (ZW a.lv)) j e (g j e h))
  refine⟨⟨o,a.sp,λc q=>(n c q).mono (by omega),λc q=>(a.sz b q).putOld (a.tr b) a.lv U U⟩, ?_⟩;rw[p,l,UF];congr 1;rw[<-i];rfl
def rdX (x:LfA) (a:Int):LfA:={x with rd:=x.rd ||| ((1#64<<<a.toNat)&&& ~~~x.wr)}
def btA (c:Bs) (a:Int):UInt8:=c.getD a.toNat 0
theorem qf0 (b:0<=a/\a<64):btV V s a=btA (Zm V s) a:=by unfold btV btA;rw[if_pos b]
theorem IZ (c:TouR L V id t k L1 V1 t1 x1) (d:L.tr id=some t) (f:LvI m L V) (g:0<=a/\a<64):
    StepI m L V m 0 1 (ZA L1 id t1 k {x1 with rd:=x1.rd ||| ((1#64<<<a.toNat)&&& ~~~x1.wr)}) V1/\QC (ZA L1 id t1 k {x1 with rd:=x1.rd ||| ((1#64<<<a.toNat)&&& ~~~x1.wr)}) V1=Wj (QC L V) id k (rdX (Z6 (QC L V) id k) a)/\btV V1 x1.own a=btA (Z6 (QC L V) id k).own a:=by
  obtain⟨n,b,o,p,q⟩:=c.inv d f;obtain⟨i,j⟩:=qa9 c d f (rd:=x1.rd ||| ((1#64<<<a.toNat)&&& ~~~x1.wr)) (wr:=x1.wr) λ_ _ h=>h
  have e:x1.wr=(Z6 (QC L V) id k).wr:=by rw[<-b];rfl
  have l:x1.rd=(Z6 (QC L V) id k).rd:=by rw[<-b];rfl
  refine⟨i, ?_,by rw[qf0 g,<-b];rfl⟩;rw[j,e,l];rfl
theorem RankI.beg {T:Int->Option TrD} (h:RankI T m) {i p:Int} {u:TrD} (hi:1<=i) (n:T i=none) (d:u.parent=0\/T u.parent≠none):RankI (QN T i (some u)) (m+1):=by
  obtain⟨o,r,a,b⟩:=h;refine⟨by rw[Qz (by omega)];exact o,VN r i (r u.parent+1),λj=> ?_,λj v g=> ?_⟩
  · by_cases e:j=i
    · subst e;rw[XO];have :=a u.parent;omega
    · rw[Zk e];have :=a j;omega
  · have c: ∀q,T q≠none->QN T i (some u) q≠none/\q≠i:= λq l=>by
      have :q≠i:= λe=>l (e▸n);exact⟨by rw[Qz this];exact l,this⟩
    by_cases e:j=i
    · subst e;rw[Qv]at g;cases g;rcases d with d | d
      · exact .inl d
      · obtain⟨f,k⟩:=c _ d;exact .inr ⟨f,by rw[XO,Zk k];omega⟩
    · rw[Qz e]at g;rcases b j v g with f | ⟨f,k⟩
      · exact .inl f
      · obtain⟨s,t⟩:=c _ f;exact .inr ⟨s,by rw[Zk e,Zk t];exact k⟩
def FH (A:LvA) (id parent:Int):Int:= if id<1 then 1 else if(A.tr id).isSome=true then 5 else if M4 A parent=false then 4 else 0
noncomputable def K5 (A:LvA) (id parent:Int):LvA:= if FH A id parent=0 then{A with tr:=QN A.tr id (some ⟨parent,λ_=>none,λ_=>false⟩)}else A
theorem FG:FH (QC L V) id parent=Yo L id parent:=by unfold FH Yo;rw[O9];simp [QC]
theorem beg_fin (n:LvI m L V) {ad ml md:Nat}:StepI m L V (m+1) 0 0 (PV L id parent ad ml md) V/\QC (PV L id parent ad ml md) V=K5 (QC L V) id parent:=by
  unfold K5;rw[FG];unfold PV;by_cases f:Yo L id parent=0
  · rw[if_pos f,if_pos f];have z: ¬id<1:= λq=>by unfold Yo at f;rw[if_pos q]at f;omega
    have v:L.tr id=none:=by
      unfold Yo at f;rw[if_neg z]at f;cases q:L.tr id with
      | none=>rfl
      | some u=> rw[q]at f;simp at f
    have w:J5 L parent=true:=by
      unfold Yo at f;rw[if_neg z,v]at f;cases q:J5 L parent with
      | true=>rfl
      | false=> rw[q]at f;simp at f
    have B:parent=0\/L.tr parent≠none:=by
      unfold J5 at w;simp only[Bool.or_eq_true,decide_eq_true_eq]at w;exact w.imp_right λq e=>by rw[e]at q;cases q
    generalize g:({L with tr:=QN L.tr id (some ⟨ad,ml,md,parent,λ_=>none,λ_=>false⟩)}:LvD)=L'
    have y:L'.pres=L.pres:=by subst g;rfl
    have t:L'.tr=QN L.tr id (some ⟨ad,ml,md,parent,λ_=>none,λ_=>false⟩):=by subst g;rfl
    have C: ∀q,Xx L' q=Xx L q:= λq=>by
      cases q with
      | inl j=> simp [Xx,y]
      | inr q=>
        obtain⟨i,j,o⟩:=q;simp only[Xx,t];by_cases e:i=id
        · subst e;rw[Qv,v]
        · rw[Qz e]
    have A:QC L' V={QC L V with tr:=QN (QC L V).tr id (some ⟨parent,λ_=>none,λ_=>false⟩)}:=by
      unfold QC;rw[y,t];congr 1;funext i;by_cases e:i=id
      · subst e;rw[Qv,Qv];rfl
      · rw[Qz e,Qz e]
    refine⟨⟨⟨n.ref.fn C,by rw[t];exact n.rank.beg (p:=parent) (by omega) v B, ?_⟩,by subst g;rfl,λ_ q=>q,λc q=> ?_⟩,A⟩
    · rw[A];intro i u k x hi h;dsimp only at hi;by_cases e:i=id
      · subst e;rw[Qv]at hi;cases hi;cases h
      · rw[Qz e]at hi;exact n.agree i u k x hi h
    · obtain⟨l,a,b,d⟩:=q;refine⟨l,a,λk h=>b k (by rwa [y]at h),λj u k x s h=> ?_⟩;rw[t]at s;by_cases e:j=id
      · subst e;rw[Qv]at s;cases s;cases h
      · rw[Qz e]at s;exact d j u k x s h
  · rw[if_neg f,if_neg f];exact⟨⟨⟨n.ref,(by obtain⟨D,r,a,b⟩:=n.rank;exact⟨D,r,λi=>Nat.le_succ_of_le (a i),b⟩),n.agree⟩,rfl,λ_ q=>q,λ_ q=>q⟩,rfl⟩
def leafB (L:LvD) (id:Int) (k:KD):Bool:= match L.tr id with | none=>false | some t=>(t.lv k).isSome
def oneB (L:LvD) (V:VS) (id:Int) (k:KD):Bool:=decide (XA L id k≠0)&&(decide (ZF V (XA L id k)=1)&&(decide (id=0) || leafB L id k))
end
theorem qaa {Fr:Nat} {F:Th} (g:Sat w [WB b L,ZP L.sp n Fr V,F]) (i:n<=60000000000) (ob:Bs) (a:Int) (c:LvI m L V) (j:m<ZO) (d:L.tr id=some t) (k:0<=a/\a<16384):
    Calls prog 51 #[ptrV b 0,intV id,strV ob,intV a] w (Ret λv w'=> ∃L' V',v=XV (btA (Z6 (QC L V) id (ob,a/ 64)).own (a%64))/\StepI m L V m 0 1 L' V'/\QC L' V'=Wj (QC L V) id (ob,a/ 64) (rdX (Z6 (QC L V) id (ob,a/ 64)) (a%64))/\L'.pres=L.pres/\Sat w' [WB b L',ZP L'.sp (n+2) Fr V',F]):=by
  refine(qfy g i (c.rank.ends j) d (c.rank.none0 d) ob a k).mono λe w h=>h.mono λv w h=> ?_;obtain⟨L1,V1,t1,x1,f,rfl,h⟩:=h;obtain⟨l,o,p⟩:=IZ f d c (by omega:0<=a%64/\a%64<64);exact⟨_,_,by rw[p],l,o,(f.inv d c).2.2.2.2,h⟩
theorem qab {Fr:Nat} {F:Th} (c:Sat w [WB b L,ZP L.sp n Fr V,F]) (d:n<=60000000000) (ob:Bs) (a:Int) (f:LvI m L V) (g:m<ZO) (i:0<=a/\a<16384):
    Calls prog 51 #[ptrV b 0,intV 0,strV ob,intV a] w (Ret λv w'=>v=XV (btA ((QC L V).pres (ob,a/ 64)) (a%64))/\Sat w' [WB b L,ZP L.sp n Fr V,F]):=by
  refine(qfz c d ob a (f.rank.ends g) i).mono λe w h=>h.mono λv w h=> ?_;exact⟨by rw[h.1,qf0 (by omega)];rfl,h.2⟩
theorem begI_sp {Fr:Nat} {F:Th} (c:Sat w [WB b L,ZP L.sp n Fr V,F]) (d:LvI m L V) (id parent:Int):
    Calls prog 93 #[ptrV b 0,intV id,intV parent] w (Ret λv w'=> ∃L',v=intV (FH (QC L V) id parent)/\StepI m L V (m+1) 0 0 L' V/\QC L' V=K5 (QC L V) id parent/\L'.pres=L.pres/\Sat w' [WB b L',ZP L'.sp n Fr V,F]):=by
  refine(qf8 (c.split [0] [true,false,false] U) id parent).mono λe w h=>h.mono λv w h=> ?_;obtain⟨rfl,ad,ml,md,h⟩:=h;have f:=h.join U;obtain⟨a,g⟩:=beg_fin (id:=id) (parent:=parent) (ad:=ad) (ml:=ml) (md:=md) d;refine⟨_,by rw[FG],a,g,(by unfold PV;split<;>rfl), ?_⟩
  rw[a.sp];exact f
end Go.Proofs.YtifaibmhinlcfaaGreatDoor
namespace Go.Proofs
open Proofs.Tryz
open Go.Shelf
def Tryz.tz64_ren:Go.Shelf.Ren:=⟨fun | 29=>143 | n=>n,fun | 22=>152 | 3=>3 | 4=>4 | 25=>194 | 54=>186 | 0=>0 | 5=>5 | n=>n,fun | 1=>0 | n=>n⟩
theorem Tryz.tz64:Go.Proofs.Lays7.n29 prog Tryz.tz64_ren:={
  mixed:=by kernel_rfl
  f29:=func143.trans (congrArg some (by kernel_rfl))
  t0:=underlying0
  a0:=Tryz.isAgg0
  z0:=Tryz.sizeOf0
  v0:=Tryz.zeroValue0
  i0:=by kernel_rfl
  t3:=underlying3
  a3:=Tryz.isAgg3
  z3:=Tryz.sizeOf3
  v3:=Tryz.zeroValue3
  i3:=by kernel_rfl
  t4:=underlying4
  a4:=Tryz.isAgg4
  z4:=Tryz.sizeOf4
  v4:=Tryz.zeroValue4
  i4:=by kernel_rfl
  t5:=underlying5
  a5:=Tryz.isAgg5
  z5:=Tryz.sizeOf5
  v5:=Tryz.zeroValue5
  i5:=by kernel_rfl
  t22:=underlying152
  a22:=Tryz.isAgg152
  z22:=Tryz.sizeOf152
  v22:=Tryz.zeroValue152
  i22:=by kernel_rfl
  t25:=underlying194
  a25:=Tryz.isAgg194
  z25:=Tryz.sizeOf194
  v25:=Tryz.zeroValue194
  i25:=by kernel_rfl
  t54:=underlying186
  a54:=Tryz.isAgg186
  z54:=Tryz.sizeOf186
  g1:=by kernel_rfl}
end Go.Proofs
namespace Go.Proofs.YtifaibmhinlcfaaGreatDoor.M
open Go.RowKit Go.Sort Proofs.Tryz
variable {As:List Th} {W:World} {a b:BitVec 64} {e t:Nat} {parts:List (Nat×Operand)} {vs:List Value} {z:Value}
def kC:RowC (Bs×Int):=⟨λx=>[strV x.1,intV x.2],2,by decide,λ_=>rfl,λ_=>rfl⟩
def GrW (W w:World):Prop:= ∃q os,w=grow (W.drewN q) os
theorem GrW.refl (W:World):GrW W W:=⟨0, #[],by rw[grow_empty];rfl⟩
theorem GrW.trans {w w':World} (h:GrW W w) (a:GrW w w'):GrW W w':=by
  obtain⟨q,os,rfl⟩:=h;obtain⟨q',os',rfl⟩:=a;exact⟨q+q',os++os',by show grow (grow ((W.drewN q).drewN q') os) os'=_;rw[grow_grow,World.drewN_drewN]⟩
theorem GrW.drew:GrW W W.drew:=⟨1, #[],by rw[grow_empty];rfl⟩
theorem GrW.alloc {o:Obj}:GrW W (W.alloc o):=⟨0, #[o],by rw[alloc_eq_grow];rfl⟩
section
variable {P:Program} {n:Nat} {ops:Array Oper} {Q:Exit→Act→World→Prop} {rest:List Oper} {L:Env} {w:World} {d:Nat} {ty:TypeId} {pos:String} {aft:Array Edge}
theorem DD {x:Operand} {v:Value} (e:Sat w As) (f:look L x=some v) {cs:List Value} (c:v.cells.toList=cs) (hd:Nat.blt d n=true) (g: ∀b w',GrW w w'->Sat w' (Q6 b cs::As)->wl P n ops Q rest ((d,ptrV b 0)::L) w'):wl P n ops Q (⟨some d,.box t x,ty,pos,aft,none⟩::rest) L w:=by
  subst c;refine XI U hd (R:= λu w'=>u=ptrV w.heap.size 0/\w'=w.alloc (.cells v.cells t)) (λa h=>⟨_,_,.inl ?_,rfl,rfl⟩) (λu w' ⟨i,j⟩=> ?_)
  · simp [execOp,h.eval f,Instr.box,newVar,newRow]
  · subst i j;exact g _ _ .alloc (e.blk_new (Blk.new' w _ t) ((Only.refl _ _).alloc _) (Nat.le_refl _))
theorem Mr (O:Sat w As) {size len:Nat} (K:Jg L (parts.map (·.2))=some vs) (M:P.underlying t=some (.slice e)) (hi:(P.info? e).map (λi=>(i.zero,i.size))=some (some z,size)) (m:Nat.ble (len*size) 1000=true) (o:z.cells.size=size)
    (f:Ym (len*size) ((parts.map (·.1)).map λi=>(i*size,size)) vs=true) (hd:Nat.blt d n=true)
    (D: ∀b w',GrW w w'->Sat w' (Jk (.slice (some ⟨b,0,none⟩) len len) len size (Jz (List.replicate len z.cells.toList).flatten ((parts.map (·.1)).map λi=>(i*size,size)) vs)::As)->wl P n ops Q rest ((d,.slice (some ⟨b,0,none⟩) len len)::L) w'):wl P n ops Q (⟨some d,.buildSlice t len parts.toArray,ty,pos,aft,none⟩::rest) L w:=by
  obtain⟨ii,q,g⟩:=Option.map_eq_some_iff.1 hi;simp only[Prod.mk.injEq]at g;have S:len*size<=1000:=Xk m
  have F:((Array.range (len*size)).map (z.cells[· %z.cells.size]!)).toList=(List.replicate len z.cells.toList).flatten:=by
    rw[<-o];exact Yf z.cells len
  have r:((Array.range (len*size)).map (z.cells[· %z.cells.size]!)).size=len*size:=by simp
  have l:=Vv (λi=>some (i*size,size)) (parts.map (·.1)) ((parts.map (·.1)).map λi=>(i*size,size)) vs ((Array.range (len*size)).map (z.cells[· %z.cells.size]!)) (by simp [Function.comp_def]) (by rw[r];exact f);rw[F]at l;generalize s:Jz (List.replicate len z.cells.toList).flatten ((parts.map (·.1)).map λi=>(i*size,size)) vs=cells at l D
  have u:cells.length=len*size:=by
    have y: ∀(pls:List (Nat×Nat)) (vs:List Value) (zz:List Value),Ym zz.length pls vs=true->(Jz zz pls vs).length=zz.length:=by
      intro pls
      induction pls with
      | nil=> intro vs zz _;cases vs<;>rfl
      | cons p pls ih=>
        intro vs zz h;cases vs with
        | nil=>rfl
        | cons v vs=>
          simp only[Ym,Bool.and_eq_true]at h;have T:=Nat.eq_of_beq_eq_true h.1.1;have W:=Xk h.1.2;have N:(X6 zz p.1 v.cells.toList).length=zz.length:=J2 (by simp [T];omega);simp only[Jz];rw[ih vs _ (by rw[N];exact h.2),N]
    have c:(List.replicate len z.cells.toList).flatten.length=len*size:=by simp [o]
    rw[<-s,y _ _ _ (by rw[c];exact f),c]
  refine XI U hd (R:= λv w'=>v= .slice (some ⟨w.heap.size,0,none⟩) len len/\w'=w.alloc (.cells cells.toArray e)) (λa V=>⟨_,_,.inl ?_,rfl,rfl⟩) ?_
  · have G:(zeroValue e).run P w= .ok z w:=by simp [zeroValue,typeInfo,q,g.1]
    have B:(sizeOf e).run P w= .ok size w:=by simp [sizeOf,typeInfo,q,g.2]
    have C:=V.evals K
    have E:(parts.toArray.map λ(i,x)=>(i,a.eval x)).toList=(parts.map (·.1)).zip vs:=by
      rw[<-C];simp;clear C K l s f
      induction parts with
      | nil=>rfl
      | cons p ps ih=> simp [ih]
    have H: ¬(2^24<len*size):=by omega
    by_cases j:len*size=0
    · have I:Instr.fill (λi=>some (i*size,size)) #[] ((parts.map (·.1)).zip vs)=some cells.toArray:=by
        rw[j,show Array.range 0= #[] from rfl]at l;simpa using l
      simp only[execOp,Instr.buildSlice];have J:Array.range 0= #[]:=rfl;simp [run_underlying M,B,j,newRow,J];simp at E;rw[E,I];simp
    · simp only[execOp,Instr.buildSlice];simp [run_underlying M,B,j,H,G,newRow];simp at E;rw[E,l];simp
  · rintro v w' ⟨rfl,rfl⟩;exact D _ _ .alloc (O.new ((Only.refl _ _).alloc _) (F':= λk=>k∈[w.heap.size]) (A:=Jk _ _ _ _) ⟨[w.heap.size],rfl,Vn (sp:=[]) (by simpa using Blk.new w cells e) (by simpa using u) (Nat.le_refl _) (by simpa using u)⟩ (λk D=>by simp at D;omega))
theorem Gm {α:Type} (C:RowC α) (l:List α) (g:Sat w As) {len:Nat} (j:Jg L (parts.map (·.2))=some vs) (k:P.underlying t=some (.slice e)) (hi:(P.info? e).map (λi=>(i.zero,i.size))=some (some z,C.size)) (a:Nat.ble (len*C.size) 1000=true) (c:z.cells.size=C.size)
    (f:Ym (len*C.size) ((parts.map (·.1)).map λi=>(i*C.size,C.size)) vs=true) (m:l.length=len) (o:Jz (List.replicate len z.cells.toList).flatten ((parts.map (·.1)).map λi=>(i*C.size,C.size)) vs=C.cells l) (hd:Nat.blt d n=true)
    (p: ∀b w',GrW w w'->Sat w' (rowT C (.slice (some ⟨b,0,none⟩) len len) l::As)->wl P n ops Q rest ((d,.slice (some ⟨b,0,none⟩) len len)::L) w'):wl P n ops Q (⟨some d,.buildSlice t len parts.toArray,ty,pos,aft,none⟩::rest) L w:=by
  refine Mr g j k hi a c f hd ?_;intro b w' q h;exact p b w' q (h.row_cast m.symm U o)
section
variable {P:Program} {n:Nat} {ops:Array Oper} {Q:Exit→Act→World→Prop} {rest:List Oper} {L:Env} {w:World} {d:Nat} {ty:TypeId} {pos:String} {aft:Array Edge} {t t2:TypeId} {x y:Operand}
theorem qed (c:look L x=some (ZC a)) (e:look L y=some (ZC b)):Ev P L w ⟨some d,.binOp .sub t x y t2,ty,pos,aft,none⟩ (ZC (a -b)):=
  Mb c e (by
    rw[IntKind.wrap_u64,BitVec.toNat_sub];have :=a.isLt;have :=b.isLt;omega)
theorem qat (c:look L x=some (ZC a)) (e:look L y=some (ZC b)) (hd:Nat.blt d n=true) (f:wl P n ops Q rest ((d,ZC (a -b))::L) w):wl P n ops Q (⟨some d,.binOp .sub t x y t2,ty,pos,aft,none⟩::rest) L w:=Xp hd (qed c e) f
end
end
end Go.Proofs.YtifaibmhinlcfaaGreatDoor.M
namespace Go.Proofs.YtifaibmhinlcfaaGreatDoor
open Go.RowKit M Proofs.Tryz
variable [Inhabited SlW]
theorem Fx (x:BitVec 64) (h:x≠0#64):Lib.ctz 64 x.toNat<64/\ ∀j,j<64->((x&&&(x -1#64)).getLsbD j=(x.getLsbD j&&decide (j≠Lib.ctz 64 x.toNat)))/\x.getLsbD (Lib.ctz 64 x.toNat)=true:=by
  have p:x.toNat≠0:= λq=>h (BitVec.eq_of_toNat_eq (by simpa using q));obtain⟨m,f,g⟩:=Lib.ctzFrom_spec 64 x.toNat (by omega) x.isLt;have e:Lib.ctz 64 x.toNat=Lib.ctzFrom 64 x.toNat:=by simp [Lib.ctz,p]
  rw[<-e]at f g;generalize Lib.ctz 64 x.toNat=k at f g
  have l:(x -1#64).toNat=x.toNat -1:=by
    rw[BitVec.toNat_sub];have :=x.isLt;simp;omega
  have t:0<2^k:=Nat.two_pow_pos k;have c: ∀j,x.getLsbD j=x.toNat.testBit j:= λj=>by rw[<-BitVec.testBit_toNat]
  have d: ∀j,(x -1#64).getLsbD j=(x.toNat -1).testBit j:= λj=>by rw[<-BitVec.testBit_toNat,l]
  have u:x.toNat=2^k*(2*m)+2^k:=by rw[f];rw[Nat.mul_add];simp
  have o:x.toNat -1=2^k*(2*m)+(2^k -1):=by omega
  refine⟨g,λj v=>⟨?_, ?_⟩⟩
  · rw[BitVec.getLsbD_and,c,d];rcases Nat.lt_trichotomy j k with n | rfl | n
    · have a:x.toNat.testBit j=false:=by
        rw[f,Nat.testBit_two_pow_mul];simp;omega
      simp [a]
    · have b:(x.toNat -1).testBit j=false:=by
        rw[o,Nat.testBit_two_pow_mul_add _ (by omega)];simp
      simp [b]
    · have b:(x.toNat -1).testBit j=x.toNat.testBit j:=by
        rw[o,f,Nat.testBit_two_pow_mul_add _ (by omega),Nat.testBit_two_pow_mul];have r: ¬j<k:=by omega
        have s:j>=k:=by omega
        simp only[r,if_false,s,decide_true,Bool.true_and];obtain⟨i,hi⟩: ∃i,j -k=i+1:=⟨j -k -1,by omega⟩;rw[hi,Nat.testBit_succ,Nat.testBit_succ];congr 1;omega
      rw[b];have :j≠k:=by omega
      simp [this]
  · rw[c,f,Nat.testBit_two_pow_mul];simp
theorem RankI.av {T:Int->Option TrD} {m:Nat} (h:RankI T m) (i0:Int): ∃Av:Int->Prop,(∀t,T i0=some t->Av t.parent)/\ ∀i u,Av i->T i=some u->i≠i0/\Av u.parent:=by
  obtain⟨d,r,a,b⟩:=h;refine⟨λi=>T i≠none->r i<r i0,λt g c=> ?_,λi u hi f=> ?_⟩
  · rcases b i0 t g with e | e
    · rw[e]at c;exact absurd d c
    · exact e.2
  · have j:r i<r i0:=hi (by rw[f];simp);refine⟨λe=>by rw[e]at j;omega,λc=> ?_⟩;rcases b i u f with e | e
    · rw[e]at c;exact absurd d c
    · omega
def GT (w:World):Prop:=TabAt 0 Lib.deBruijn64tab w
def VK (L:LvD) (V:VS) (t:TrD) (k:KD) (x:LfD):Prop:= ∀j,j<64->x.rd.getLsbD j=true->(Zm V x.base)[j]? =(Zm V (XA L t.parent k))[j]?
theorem E8 {κ α:Type} {ad:α->Nat} {f:κ->Option α} {k:κ} {v:Value} (h:XM ad f k=some v): ∃x,f k=some x/\v=ptrV (ad x) 0:=by
  unfold XM at h;cases q:f k with
  | none=> rw[q]at h;cases h
  | some x=> rw[q]at h;exact⟨x,rfl,by simpa using h.symm⟩
theorem tz_sp (x:BitVec 64) (w:World) (a:GT w):Calls prog 143 #[ZC x] w (Ret λv w'=>v=intV (Lib.ctz 64 x.toNat)/\w'=w):=
  (Any7.bits_TrailingZeros64 Tryz.tz64 x.toNat x.isLt w (λ_=>a)).mono λe w' ⟨b,c⟩=>⟨_,b,rfl,c⟩
theorem Sx {w:World} {b:Nat} {L:LvD} {i0:Int} {F:Th} (I:Sat w [Q6 b [ptrV L.sp 0,.map (some L.mp),.map (some L.mt),intV L.cur,.map (some L.ms)],Q4 X7 L.mp (ZU L.pres),Q4 QY L.mt (XM TrD.ad L.tr),Xw Gi (QN L.tr i0 none),Q4 QY L.ms (YA L.sh),F]) (J: ∀i,HG L.tr ZO i) {Av:Int->Prop} (l: ∀i u,Av i->L.tr i=some u->i≠i0/\Av u.parent) (id:Int) (r:Av id) (k:KD):
    Calls prog 103 #[ptrV b 0,intV id,X7 k] w (Ret λv w'=>v=intV (XA L id k)/\Sat w' [Q6 b [ptrV L.sp 0,.map (some L.mp),.map (some L.mt),intV L.cur,.map (some L.ms)],Q4 X7 L.mp (ZU L.pres),Q4 QY L.mt (XM TrD.ad L.tr),Xw Gi (QN L.tr i0 none),Q4 QY L.ms (YA L.sh),F]):=by
 refine Qn func103 U ntmps103 U ?_;refine Qe<|Qa<|XL I U U U ?_;intro kb K E;change Sat K [Q6 kb [strV k.1,intV k.2],_,_,_,_,_,_]at E;refine Qd U U<|Qf<|Qc<|Qe<|Qx<|QU (λK0 E0 W0=> ∃(m:Nat) (i:Int),K0=m+1/\E0=[(0,ptrV b 0),(1,intV i),(5,ptrV kb 0)]/\Sat W0 [Q6 kb [strV k.1,intV k.2],Q6 b [ptrV L.sp 0,.map (some L.mp),.map (some L.mt),intV L.cur,.map (some L.ms)],Q4 X7 L.mp (ZU L.pres),Q4 QY L.mt (XM TrD.ad L.tr),Xw Gi (QN L.tr i0 none),Q4 QY L.ms (YA L.sh),F]/\(XA L id k=Yt L (m+1) i k)/\(HG L.tr m i)/\(m<=ZO)/\(Av i)) (L0:=[(0,_),(1,_),(5,_)]) (ZO+1) (VG U U U) ⟨ZO,id,rfl,rfl,E,rfl,J id,Nat.le_refl _,r⟩ ?_;rintro _ _ w2 ⟨m,i,rfl,rfl,n,e,s,O,o⟩;refine Qe<|Qe<|Qa<|Qb U U<|Xz U U U<|Qf<|Qc<|Qs U (λy=> ?_) (λy=> ?_)
 ·have c:i≠0:=y;refine Qt<|Qc<|Qx<|Qe<|Qa<|Qb U U<|Qj U U<|Qg U Wv U<|Qo U J9 (n.cell 1 U U) U<|Qb U U<|Xf (k:=i) 3 n keysInt underlying141 U U U YY (u:=(ptO TrD.ad (L.tr i))) (KP _) U<|Qd U U<|Qf<|Qc<|Qh [5,1,0,7] U<|Qe<|Qe<|Qa<|Qb U U ?_;rcases a:L.tr i with _ | t
  ·refine Ya underlying139 U U U<|Qf<|Qc<|Xm U<|Qe<|Qa<|Qd U U<|Qf<|Qc<|Qu<|Qq<|Q1<|Qq<|Q1<|Qq<|QJ (.inr U) U U ?_;exact⟨_,rfl,by rw[e,CR c a],n.pick [1,2,3,4,5,6] U⟩
  refine XG underlying139 U U U ?_;have f:QN L.tr i0 none i=some t:=by rw[Qz (l _ _ o a).1];exact a
  have M:=W3 (n.pick [4,0,1,2,3,5,6] U) f;refine Qf<|Qc<|QM U<|Qt<|Qc<|Qe<|Qe ?_;have p:=M.drew;refine Q7 [0,1,2,3,4,5,6] [] Z9 (by kernel_rfl) ?_;refine Q3 U U U<|QP U U U<|QG U U U Wu<|Q0 U U U (Ql U Jv (p.cell 0 U U))<|Q0 U U U (X5 U Xu Xb (p.blk 5 U) (Xk U) U)<|Q0 U U U (X4 (k:=k) 1 p keysKey underlying145 U U U Ht (u:=(ptO LfD.ad (t.lv k))) (KP _))<|Zd U U U (VC.nil (Qc (Qh [5,1,0,7,8] U (Qe (Qa (Qb U U ?_))))));rcases d:t.lv k with _ | x
  ·refine Z7 underlying159 U U U<|Qf<|Qc<|QM U<|Qt<|Qc<|Qe<|Qe ?_;have j:=p.drew;refine Q7 [0,1,2,3,4,5,6] [] Z9 (by kernel_rfl) ?_;refine Q3 U U U<|QP U U U<|QG U U U Ko<|Q0 U U U (Ql U Db (j.cell 0 U U))<|QG U U U YR<|Q0 U U U (Ql U XT (j.cell 5 U U))<|Q0 U U U (X4 (k:=k.1) 3 j keysStr underlying146 U U U zr_4 (u:= .bool (t.dr k.1)) (PU _ _)) (VC.nil (Qc (Qh [5,1,0,7,37] U (QR U (λz=> ?_) (λz=> ?_)))))
   ·have h:t.dr k.1=true:=z;refine Qe<|Qa<|Qd U U<|Qf<|Qc<|Qu<|Qq<|Q1<|Qq<|Q1<|Qq<|QJ (.inr U) U U ?_;have N:=W4 f (j.pick [0,1,2,3,4,5,6,7,8,9,10] U);exact⟨_,rfl,by rw[e,CT c a d h],N.pick [2,3,4,0,5,6] U⟩
   have h:t.dr k.1=false:=z;refine Qt<|Qc<|Qa<|Qb U U<|Qj U U<|Qg U JR U<|Qo U QL (j.cell 0 U U) U<|Qd U U<|Qf<|Qm ?_;have A:=W4 f (j.pick [0,1,2,3,4,5,6,7,8,9,10] U);obtain⟨G,B,q⟩:=Am s c a;exact Q5 (L1:=[(0,_),(1,intV t.parent),(5,_)]) (VG U U U) (k1:=G+1) (by omega) ⟨G,t.parent,rfl,rfl,A.pick [1,2,3,4,0,5,6] U,by rw[e,B,E4 c a d h],q,by omega,(l _ _ o a).2⟩
  refine Zi underlying159 U U U ?_;have H:=Ue (p.pick [2,0,1,3,4,5,6,7,8,9,10] U) d;refine Qf<|Qc<|Xm U<|Qe<|Qa<|Qb U U<|Qj U U<|Qg U WP U<|Qo U QL (H.cell 0 U U) U<|Qd U U<|Qf<|Qc<|Qh [5,1,0,7,6] U<|Qu<|Qq<|Q1<|Qq<|Q1<|Qq<|QJ (.inr U) U U ?_;have C:=W5 d (H.pick [0,1,2,3,4,5,6,7,8,9,10,11] U);have D:=W4 f (C.pick [1,2,0,3,4,5,6,7,8,9,10] U);exact⟨_,rfl,by rw[e,UD c a d],D.pick [2,3,4,0,5,6] U⟩
 have c:i=0:=Decidable.not_not.1 y;refine QQ<|Qp<|Qp<|Qy<|Qc<|Qe ?_;have g:=n.drew;refine Q7 [0,1,2,3,4,5,6] [] Z9 (by kernel_rfl) ?_;refine Q3 U U U<|QP U U U<|QG U U U UN<|Q0 U U U (Ql U Gh (g.cell 1 U U))<|Q0 U U U (X5 U Xu Xb (g.blk 0 U) (Xk U) U)<|Q0 U U U (X4 (k:=k) 2 g keysKey underlying140 U U U Ul (u:=intV (L.pres k)) (BD _ _))<|Zd U U U (VC.nil (Qc (Qh [6] U (Qu (QJ (.inr U) U U ?_)))));exact⟨_,rfl,by rw[e,UC c],g.pick [1,2,3,4,5,6] U⟩
