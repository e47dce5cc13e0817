/- cells: Commit -/
import Derived.Test.YtifaibmhinlcfaaGreatDoorCe5
import Derived.Test.YtifaibmhinlcfaaGreatDoorLv1
import Derived.Test.YtifaibmhinlcfaaGreatDoorLvm
import Derived.Test.YtifaibmhinlcfaaGreatDoorDl
import Derived.Test.YtifaibmhinlcfaaGreatDoorLv29
set_option linter.unusedSectionVars false
set_option linter.unusedVariables false
set_option maxRecDepth 100000
namespace Go.Proofs.YtifaibmhinlcfaaGreatDoor
open Go.RowKit M Proofs.Tryz
variable [Inhabited SlW]
variable {C:CeD} {b c:Nat} {dn:Bs→Prop} {g:Int→Option Value} {i id last:Int} {ids ks:List Int} {n:NodeD} {w:World} {x y:OneD}
def US (x y:OneD) (k:Bs):Option Bs:= match x.writes k with
  | none=>y.writes k
  | some v=> if y.par.isNone=true/\v=[]then none else some v
def ComW (x y:OneD) (dn:Bs->Prop) (f:Bs->Option Bs):Prop:= ∀k,(dn k->f k=US x y k)/\(¬dn k->f k=y.writes k)
theorem ComW.next {f:Bs->Option Bs} {k v:Bs} (h:ComW x y dn f) (b:x.writes k=some v):ComW x y (λq=>dn q\/q=k) (Ye {y with writes:=f} k v).writes:= λq=>by
  show(_->QN f k _ q=_)/\(_->QN f k _ q=_);by_cases e:q=k
  · subst e;refine⟨λ_=> ?_,λa=>absurd (.inr U) a⟩;rw[Qv];unfold US;rw[b]
  · rw[Qz e];exact⟨λa=>(h q).1 (a.resolve_right e),λa=>(h q).2 λp=>a (.inl p)⟩
theorem ComW.fin {f:Bs->Option Bs} (h:ComW x y dn f) (hd: ∀k v,Hv x.writes k=some v->dn k):f=US x y:=by
  funext k;by_cases q:dn k
  · exact(h k).1 q
  · rw[(h k).2 q];unfold US;cases e:x.writes k with
    | none=>rfl
    | some v=> exact absurd (hd k _ (Jx e)) q
theorem qa6 {κ β:Type} {f:κ->Option β} {a b:κ} {u v:Option β} (h:b≠a):QN (QN f a u) b v=QN (QN f b v) a u:=by
  funext j;by_cases e:j=a
  · subst e;rw[Qz (λq=>h q.symm),Qv,Qv]
  · by_cases c:j=b
    · subst c;rw[Qv,Qz e,Qv]
    · rw[Qz c,Qz e,Qz e,Qz c]
theorem F8 {T:Nodes} {F:Th} {nd:NodeD} (d:Sat w [Y8 c C,F]) (hW:CeW C T) (hI:TrI T last) (g:C.all id=some x) (Y:id≠0) (t:T id=some nd) (N:C.all nd.par=some y) (O:0<=y.kids/\y.kids<=100000000000) (a0:x.kids=0) (P:x.order=[]) (z:x.logs= λ_=>none):
    Calls prog 54 #[ptrV c 0,intV id] w (Ret λv w'=>v=intV 0/\Sat w' [Y8 c ⟨C.ma,QN (QN C.all nd.par (some {y with writes:=US x y,kids:=y.kids -1})) id none⟩,F]):=by
 obtain⟨y',A,B⟩:=hW.up Y t g;have h:x.par=some y.ad:=by rw[N]at A;cases A;exact B
 have b:nd.par≠id:=by have :=(hI.par t Y).1;omega
 have D:NW x.par=ptrV y.ad 0:=by rw[h];rfl
 replace d:=WT d;refine Qn func54 U ntmps54 U ?_;refine Qe<|Qa<|Qd U U<|Qf<|Qc<|Qe<|Qa<|Qb U U<|Qj U U<|Qg U WQ U<|Qo U Yp (d.cell 0 U U) U<|Qb U U<|Xf (k:=id) 1 d keysInt underlying131 U U U Hu (u:=(ptrV x.ad 0)) (XH g) U<|Qd U U<|Qf<|Qc<|Qe<|Qx<|Qe<|Qa<|Qb U U<|XG underlying130 U U U<|Qb U U<|Qk U U U<|Qb U U<|Qk U U U<|Qj U U<|Qk U U U<|Qg U Ww U<|Qk U U U<|Qo U Ji (Vo d 2 U g h) U<|Qk U U U<|XG underlying130 U U U<|Q9 U U U U<|Qd U U<|Qf<|Qc<|Qh [1,0,4,5,18] U<|QM U<|Qe<|Qa<|Qb U U<|Qj U U<|Qg U Kp U<|Qo U QL (HZ d 2 U g 1 U) U<|JJ U U U<|Qd U U<|Qf<|Qc<|Qh [1,0,4,5,28] U<|Qs U (λZ=> ?_) (λZ=> ?_)
 ·exact absurd Z (by omega)
 refine Qt<|Qm<|Qc<|Qe<|Qe<|Qa<|Qb U U<|Qj U U<|Qg U UO U<|Qo U Dc (HZ d 2 U g 4 U) U ?_;have Q:Sat _ _:=Zz (d.pick [2,0,1,3] U) g;refine Wa 3 Q underlying134 U U U<|Qb U U<|Qf<|Qc<|Qh [1,0,4,5,37,38,39] U<|Qx<|QU (λK0 E0 W0=> ∃(q:Nat),K0=q/\E0=[(0,ptrV c 0),(1,intV id),(5,ptrV x.ad 0),(37,x.ov),(38,intV (x.order.length:Int)),(39,intV 0)]/\Sat W0 [Q6 c [.map (some C.ma)],Q4 QY C.ma (XM OneD.ad C.all),Xw ZM C.all,F]) (L0:=[(0,_),(1,_),(5,_),(37,_),(38,_),(39,_)]) (0) (R6 U U U U U U) ⟨0,rfl,rfl,d.pick [0,1,2,3] U⟩ ?_;rintro _ _ w2 ⟨q,rfl,rfl,j2⟩;refine Qe<|Qa<|Xa U U U<|Qf<|Qc<|Qe<|Qs U (λh3=> ?_) (λh3=> ?_)
 ·exact absurd h3 (by rw[P];decide)
 refine QQ<|Qp<|Qp<|Qy<|Qc<|Qe<|Qe ?_;have R:=Zz (j2.pick [2,0,1,3] U) g;rw[h]at R;have S:QN C.all id none nd.par=some y:=by rw[Qz b];exact N
 refine Qa<|Qb U U<|Qj U U<|Qg U Uh U<|Qo U JX (R.cellF 0 U U) U<|WN 1 R underlying61 U U U ?_;intro RR left0 wR m;dsimp only[List.set]at m;refine Qf<|Qc<|Qh [5,1,0,65] U<|Qx ?_;rw[<-Wr S]at m;refine QU (λK0 E0 W0=> ∃(dn:Bs->Prop) (cur:Option Bs) (left:Nat) (f:Bs->Option Bs),K0=left/\E0=[(0,ptrV c 0),(1,intV id),(5,ptrV x.ad 0),(65,ptrV RR 0)]/\Sat W0 [blkF x.ad [ptrV y.ad 0,intV x.kids,.map (some x.mw),.map (some x.ml),x.ov,.map (some x.mv),.map (some x.ms)],WI Xo x.mw RR (Hv x.writes) dn cur left,Q4 Xo x.ml (Hv x.logs),rowT VL x.ov x.order,Q4 Xo x.mv (Hv x.vals),Q4 Xo x.ms (SM x.li),Xw liT x.li,Xw ZM (QN (QN C.all id none) nd.par (some {y with writes:=f})),Q6 c [.map (some C.ma)],Q4 QY C.ma (XM OneD.ad C.all),F]/\(ComW x y dn f)) (L0:=[(0,_),(1,_),(5,_),(65,_)]) (left0) (Rs U U U U) ⟨_,_,_,y.writes,rfl,rfl,m.pick [0,1,2,3,4,5,6,7,8,9,10] U,λk=>⟨λq=>q.elim,λ_=>rfl⟩⟩ ?_
 rintro _ _ w5 ⟨dn,cur,left,f,rfl,rfl,j5,E⟩;refine Qe<|Qa<|JA 1 j5 keysStr.inj U U U (λn=> ?_) (λk v9 left2 wN o j G a=> ?_)
 ·refine Qr U U U<|Qf<|Qc<|Qe<|QM U<|QQ<|Qp<|Qp<|Qy<|Qc<|Qe<|Qe ?_;have l:=Wh (j5.pick [1,0,2,3,4,5,6,7,8,9,10] U);have V:=E.fin n;subst V;rw[z]at l;refine Qa<|Qb U U<|Qj U U<|Qg U Tr U<|Qo U JX (l.cellF 1 U U) U<|WN 2 l underlying61 U U U ?_;intro RS left1 wS H;dsimp only[List.set]at H;clear l;refine Qf<|Qc<|Qh [5,1,0,82] U<|Qx<|QU (λK0 E0 W0=> ∃(dn:Bs->Prop) (cur:Option Bs) (left:Nat),K0=left/\E0=[(0,ptrV c 0),(1,intV id),(5,ptrV x.ad 0),(82,ptrV RS 0)]/\Sat W0 [WI Xo x.ml RS (Hv (λ_=>none)) dn cur left,blkF x.ad [ptrV y.ad 0,intV x.kids,.map (some x.mw),.map (some x.ml),x.ov,.map (some x.mv),.map (some x.ms)],Q4 Xo x.mw (Hv x.writes),rowT VL x.ov x.order,Q4 Xo x.mv (Hv x.vals),Q4 Xo x.ms (SM x.li),Xw liT x.li,Xw ZM (QN (QN C.all id none) nd.par (some {y with writes:=US x y})),Q6 c [.map (some C.ma)],Q4 QY C.ma (XM OneD.ad C.all),F]) (L0:=[(0,_),(1,_),(5,_),(82,_)]) (left1) (Rs U U U U) ⟨_,_,_,rfl,rfl,H.pick [2,1,0,3,4,5,6,7,8,9,10] U⟩ ?_
  rintro _ _ w6 ⟨dn,cur,left,rfl,rfl,j6⟩;refine Qe<|Qa<|JA 0 j6 keysStr.inj U U U (λL=> ?_) (λk v9 left2 wN o j G a=> ?_)
  ·refine Qr U U U<|Qf<|Qc<|Qe<|QM U<|QQ<|Qp<|Qp<|Qy<|Qc<|Qe ?_;have p:=Wh (j6.pick [0,1,2,3,4,5,6,7,8,9,10] U);rw[<-z,<-D]at p;rw[qa6 b]at p;have I:=ZD (T:=QN C.all nd.par (some {y with writes:=US x y})) (i:=id) (by rw[Qz (λe=>b e.symm)];exact g) (p.pick [1,2,0,3,4,5,6,7,8,9,10] U)
   rw[<-WK (k:=nd.par) (y:={y with writes:=US x y}) N U]at I
   have J:=WR (C:=C.up nd.par {y with writes:=US x y}) (I.pick [1,2,0,3] U)
   have W:(C.up nd.par {y with writes:=US x y}).all id=some x:=by show QN C.all nd.par _ id=_;rw[Qz (λe=>b e.symm)];exact g
   refine Qa<|Qb U U<|Qb U U<|Qb U U ?_;have K:=J.sp [0] U;refine Qw qfh U (N6 (y:={y with writes:=US x y}) K W Qv h (λe=>b e.symm) O) U ?_
   rintro _ w7 X;replace X:=X.jn U U;clear K;clear J;refine Qf<|Qc<|Qe<|Qa<|Qd U U<|Qf<|Qc<|Qh [4] U<|Qu<|QJ (.inr U) U U ?_;have r:=X.pick [0,1] U;dsimp only[CeD.up]at r;rw[Hj]at r;exact⟨_,U,U,r⟩
  exact absurd j (λq=>by cases q)
 dsimp only[List.set]at a;obtain⟨s,hs,rfl⟩:=qbo j;refine Qr U U U<|Qf<|Qc<|Qe<|Xm U<|Qt<|Qc<|Qx<|Qe<|Qa<|Jc 1 a U j U U<|Qr U U U<|Qr U U U<|Qd U U<|Qd U U<|Qf<|Qc<|Qh [65,5,1,0,8,9] U<|Qa<|Qb U U<|Qj U U<|Qg U Ww U<|Qo U Ji (a.cellF 0 U U) U<|Qb U U<|Qb U U<|Qw qff U (Ap (x:={y with writes:=f}) (a.sp [7] U) (i:=nd.par) Qv k s) U ?_
 rintro _ w8 M;replace M:=M.jn U U;clear a;rw[Hj]at M;exact Qf (Qm (Q5 (L1:=[(0,_),(1,_),(5,_),(65,_)]) (Rs U U U U) (k1:=left2) (by omega) ⟨_,_,_,_,rfl,rfl,M.pick [1,2,3,4,5,6,7,0,8,9,10] U,E.next hs⟩))
theorem ko_it {l:Nat} {J:List Int->Th} {F:Th} (o:Sat w [J [],Q6 c [.map (some b)],Q4 QY b g,F]) (q:Hm prog l QY (okC g) J):
    Calls prog 183 #[.func (.yield l) #[] #[],ptrV c 0] w (Ret λv w'=> ∃ks,AllC g ks/\Sat w' [J ks,Q6 c [.map (some b)],Q4 QY b g,F]):=by
 refine Qn func183 U ntmps183 U ?_;refine Qe<|Qa<|Qo U Yp (by first | assumption | exact o.cell 1 U U) U ?_
 refine WN 2 o underlying131 U U U ?_;intro RR left0 wR h;dsimp only[List.set]at h;refine Qf<|Qc<|Qx<|QU (λK0 E0 W0=> ∃(dn:Int->Prop) (cur:Option Int) (left:Nat) (ks:List Int),K0=1*left/\E0=[(0,.func (.yield l) #[] #[]),(5,ptrV RR 0)]/\Sat W0 [J ks,WI QY b RR g dn cur left,Q6 c [.map (some b)],F]/\(CSt g dn ks)) (L0:=[(0,_),(5,_)]) (1*left0) (D0 U U) ⟨_,_,_,_,rfl,rfl,h.reorder [0,2,1,3] U,CSt.start g⟩ ?_;rintro _ _ r ⟨dn,cur,left,ks,rfl,rfl,p,d⟩;refine Qe<|Qa<|JA 1 p keysInt.inj U U U (λe=> ?_) (λk v left2 w2 j f i m=> ?_)
 ·refine Qr U U U<|Qf<|Qc<|Qe<|QM U<|QQ<|Qp<|Qp<|Qy<|Zb (.inl U) U ?_;exact⟨_,rfl,ks,d.all e,by have a:=Wh (p.reorder [1,0,2,3] U);exact a.reorder [1,2,0,3] U⟩
 dsimp only[List.set]at m;refine Qr U U U<|Qf<|Qc<|Qe<|Xm U<|Qt<|Qc<|Qx<|Qe<|Qa<|Jc 1 m U f U U<|Qr U U U<|Qd U U<|Qf<|Qc<|Qe<|WV<|X0 U (X2 U)<|X0 U (X2 U)<|Hb U U U (q _ _ _ _ (d.ok i f) (m.sp [0] U)) ?_;intro s n;replace n:=n.jn U U;refine X0 U (Hy U)<|Hi<|Qc<|Qh [5,0,13] U<|QM U<|Qt<|Qm ?_;have a:=n.reorder [0,1,2,3] U;dsimp only[Yu,Ub]at a;exact Q5 (L1:=[(0,_),(5,_)]) (D0 U U) (k1:=1*left2) (by omega) ⟨_,_,_,_,rfl,rfl,a,d.step i f⟩
theorem ko_sp {v0:Value} {F:Th} (a:Sat w [F]) (d:v0.oneCell'=true):
    Calls prog 129 #[v0] w (Ret λv w'=> ∃c,v= .func (.func 183) #[] #[ptrV c 0]/\Sat w' [Q6 c v0.cells.toList,F]):=by
 refine Qn func129 U ntmps129 U ?_;refine Qe<|Qa<|XL a U U U ?_;intro b1 e b;exact Qd U U (Qf (Qc (Qe (Qa (ZB U U (Qd U U (Qf (Qc (Qu (QJ (.inr U) U U (⟨_,U,_,U,b⟩)))))))))))
theorem itKO (c b:Nat) (g:Int->Option Value):ItI g 183 [ptrV c 0] (Kj c b g):= λl J X w d f=>by
  have a:=(d.perm (List.Perm.swap _ _ _)).flat;dsimp only[Dg,Df]at a;refine(ko_it (a.reorder [2,0,1,3] U) f).mono λe w' h=>h.mono λv w' ⟨ks,i,j⟩=>⟨ks,i, ?_⟩;exact(Sat.fold (As:=[Q6 c [.map (some b)],Q4 QY b g]) (j.reorder [1,2,0,3] U)).perm (List.Perm.swap _ _ _)
theorem eqL:EqG prog 130 [] (starL []) 0:=⟨cal_130,λn w X a=>by
  refine Qn func130 U ntmps130 U ?_;refine Qe (Qa (Qd U U (Qf (Qc (Qe (Qa (Qb U U (Xg U U U (Qd U U (Qf (Qc (Qu (QJ (.inr U) U U ?_)))))))))))));exact⟨_,U,U,a⟩⟩
theorem IX {F:Th} (f:Sat w [Y8 c C,F]) (a: ∀ks,Came (XM OneD.ad C.all) ks->ks.length<=100000000000):
    Calls prog 88 #[ptrV c 0] w (Ret λv w'=> ∃ks,AllC (XM OneD.ad C.all) ks/\Sat w' [rowT inC v ((XU ks).filter (λn=> !decide (n=0))),Y8 c C,F]):=by
 replace f:=WT f;refine Qn func88 U ntmps88 U ?_;refine Qe<|Qa<|Qd U U<|Qf<|Qc<|Qe<|Qa<|Qb U U<|Qj U U<|Qg U WQ U<|Qo U Yp (f.cell 0 U U) U<|Qw cal_129 U (ko_sp (f.sp [] U) U) U ?_;rintro _ o ⟨ck,rfl,g⟩;replace g:=g.jn U U;have k:=Sat.fold (As:=[Q6 ck [.map (some C.ma)],Q4 QY C.ma (XM OneD.ad C.all)]) (g.pick [0,2,1,3,4] U);have b:=k.sp [0] U;refine Qw PD U (Vj b cal_183 (itKO ck C.ma (XM OneD.ad C.all)) a) U ?_;rintro _ w2 ⟨ks,d,h⟩;replace h:=h.jn U U;clear b;clear k;have i:(XU ks).length<=100000000000:=by rw[Yd];exact a _ (Came.of_all d)
 have l:=h.emp_intro;have e:=l.sp [1,0] U;refine Qw Mj U (Md eqL e i) U ?_;rintro _ p j;replace j:=j.jn U U;clear e;clear l;refine Qd U U<|Qf<|Qc<|Qu<|QJ (.inr U) U U ?_;have m:=(j.pick [2,0,3,4,5] U).flat;dsimp only[Kj,Dg,Df]at m;exact⟨_,U,ks,d,(WR (m.pick [3,1,4,2,5] U)).perm (List.Perm.swap _ _ _)⟩
theorem infO: ∃j,prog.info? 137=some j/\j.size≠0:=by
  have h:=sz_137;unfold ZQ at h;cases q:prog.info? 137 with
  | none=> rw[q]at h;cases h
  | some j=> rw[q]at h;exact⟨j,rfl,by have a:j.size=7:=Option.some.inj h;omega⟩
theorem qda {k:Int} (h:AllC (XM OneD.ad C.all) ks) (a:k∈((XU ks).filter (λn=> !decide (n=0)))):k≠0/\ ∃u,C.all k=some u:=by
  obtain⟨b,c⟩:=List.mem_filter.1 a;refine⟨by simpa using c, ?_⟩;have d:=(h.mem k).1 ((Y2 ks).mem_iff.1 b);cases q:C.all k with
  | some u=> exact⟨u,rfl⟩
  | none=> exact absurd (by unfold XM;rw[q];rfl) d
theorem LU {T:Nodes} {F:Th} {nd:NodeD} (b:Sat w [Y8 c C,F]) (A:CeW C T) (S:TrI T last) (d:C.all id=some x) (P:id≠0) (f:T id=some nd) (Q:C.all nd.par=some y) (E:0<=y.kids/\y.kids<=100000000000) (g: ∀j,¬ChildOf T id j) (a: ∀ks,Came (XM OneD.ad C.all) ks->ks.length<=100000000000):
    Calls prog 44 #[ptrV c 0,intV id] w (Ret λv w'=>Sat w' [Y8 c ⟨C.ma,QN (QN C.all nd.par (some {y with kids:=y.kids -1})) id none⟩,F]):=by
 obtain⟨y',h,i⟩:=A.up P f d;have l:x.par=some y.ad:=by rw[Q]at h;cases h;exact i
 replace b:=WT b;refine Qn func44 U ntmps44 U ?_;refine Qe<|Qa<|Qb U U<|Qj U U<|Qg U WQ U<|Qo U Yp (b.cell 0 U U) U<|Qb U U<|Xf (k:=id) 1 b keysInt underlying131 U U U Hu (u:=(ptrV x.ad 0)) (XH d) U<|Qd U U<|Qf<|Qc<|Qe<|Qe<|Qa<|Qb U U<|XG underlying130 U U U<|Qb U U<|Qk U U U<|Qb U U<|Qk U U U<|Qj U U<|Qk U U U<|Qg U Ww U<|Qk U U U<|Qo U Ji (Vo b 2 U d l) U<|Qk U U U<|XG underlying130 U U U<|Q9 U U U U<|Qf<|Qc<|Qh [1,0,4,22] U<|QM U<|Qt<|Qc<|Qe<|Qe ?_;have V:=WR (C:=C) (b.pick [0,1,2,3] U);refine Qa<|Qb U U<|Qw cal_88 U (IX (V.sp [0] U) a) U ?_;rintro _ w2 ⟨ks,m,B⟩;replace B:=B.jn U U;obtain⟨ar,cr,G,_⟩:=B.own_shape 0 rfl;obtain rfl:=G;have W:((XU ks).filter (λn=> !decide (n=0))).length<=100000000000:=Nat.le_trans (List.length_filter_le _ _) (by rw[Yd];exact a _ (Came.of_all m));refine Xl underlying24 U U<|Qb U U<|Qf<|Qc<|Qx ?_;refine QU (λK0 E0 W0=> ∃(q:Nat),K0=((XU ks).filter (λn=> !decide (n=0))).length -q/\E0=[(0,ptrV c 0),(1,intV id),(4,ptrV x.ad 0),(24,.slice ar ((XU ks).filter (λn=> !decide (n=0))).length cr),(25,intV (((XU ks).filter (λn=> !decide (n=0))).length:Int)),(26,intV (q:Int))]/\Sat W0 [Y8 c C,rowT inC (.slice ar ((XU ks).filter (λn=> !decide (n=0))).length cr) ((XU ks).filter (λn=> !decide (n=0))),F]/\(q<=((XU ks).filter (λn=> !decide (n=0))).length)) (L0:=[(0,_),(1,_),(4,_),(24,_),(25,_),(26,_)]) (((XU ks).filter (λn=> !decide (n=0))).length) (R6 U U U U U U) ⟨0,rfl,rfl,B.pick [1,0,2] U,by omega⟩ ?_;rintro _ _ Z ⟨q,rfl,rfl,D,hi⟩;refine Qe<|Qa<|Xa U U U<|Qf<|Qc<|Qe<|Qs U (λX=> ?_) (λX=> ?_)
 ·obtain⟨k,H⟩: ∃k,((XU ks).filter (λn=> !decide (n=0)))[q]? =some k:=⟨_,XQ (by omega)⟩;obtain⟨I,u,o⟩:=qda m (List.mem_of_getElem? H);obtain⟨nu,p⟩:=A.node o;obtain⟨z,Y,r⟩:=A.up I p o;have J: ¬z.ad=x.ad:= λe=>g k ((A.child d o p).1 (by rw[r,e]));refine Qt<|Qc<|Qe<|Qx<|Qe<|Qa<|Xj inC 1 q D U U U (by first | rfl | omega) H WZ U ?_
  intro bx5 capx5 s;refine Zh 1 q 0 D U s U U H QL U U<|Qd U U<|Qf<|Qc<|Qe ?_;have K:=WT (D.pick [0,1,2] U);refine Qa<|Qb U U<|Qj U U<|Qg U WQ U<|Qo U Yp (K.cell 0 U U) U<|Qb U U<|Xf (k:=k) 1 K keysInt underlying131 U U U Hu (u:=ptrV u.ad 0) (XH o) U<|Qd U U<|Qf ?_;have L:=WR (C:=C) (K.pick [0,1,2,3,4] U);refine Qc<|Qh [26,25,24,4,1,0,6,7] U<|Qe<|Qa<|Qb U U<|Zi underlying130 U U U<|Qb U U<|Qk U U U<|Qb U U<|Qk U U U<|Qj U U<|Qk U U U<|Qg U Ww U<|Qk U U U<|Qo U Ji (Vo (WT (L.pick [0,1,2] U)) 2 U o r) U<|Qk U U U<|Qb U U<|Qk U U U ?_;have t:=WT (L.pick [0,1,2] U);obtain⟨jj,M,N⟩:=infO;refine Ov underlying130 M N (ED t 2 U Y) (ED t 2 U d) (by show 0<7;decide) (by show 0<7;decide) U U U ?_;refine QF U U U U<|Qf<|Qc<|Qh [26,25,24,4,1,0,6,45] U<|Qs U (λR=> ?_) (λR=> ?_)
  ·exact absurd (by simpa using R) J
  refine Qt<|Qm<|Qc<|Qa<|QE U U (by omega) (by omega) U ?_;refine Qb U U<|Qf ?_;exact Q5 (L1:=[(0,_),(1,_),(4,_),(24,_),(25,_),(26,intV ((q+1:Nat):Int))]) (R6 U U U U U U) (k1:=((XU ks).filter (λn=> !decide (n=0))).length -(q+1)) (by omega) ⟨q+1,rfl,rfl,L.pick [0,1,2] U,by omega⟩
 refine QQ<|Qp<|Qp<|Qy<|Qc<|Qa<|Qb U U<|Qb U U<|Qb U U ?_;refine Qw qfh U (N6 (D.sp [0] U) d Q l (λe=>by have :=(S.par f P).1;omega) E) U ?_;rintro _ w9 O;replace O:=O.jn U U;exact Qf (Zb (.inl U) U (⟨_,U,O.pick [0,2] U⟩))
def zN:NodeD:=⟨0,0,0,0,0,false,false⟩
def nd (T:Nodes) (i:Int):NodeD:=(T i).getD zN
theorem KU {T:Nodes} (h:T i=some n):nd T i=n:=by unfold nd;rw[h];rfl
def ndA (n:NodeD):Value:= .agg #[intV n.id,intV n.par,intV n.dep,intV n.gue,intV n.el,.bool n.timed,.bool n.short]
def Rp (T:Nodes):Int->Option Value:= λi=>(T i).map ndA
theorem Pc {T:Nodes} (i:Int):(Rp T i).getD (.agg #[intV 0,intV 0,intV 0,intV 0,intV 0,.bool false,.bool false])= .agg #[intV (nd T i).id,intV (nd T i).par,intV (nd T i).dep,intV (nd T i).gue,intV (nd T i).el,.bool (nd T i).timed,.bool (nd T i).short]:=by
  unfold Rp nd;cases T i<;>rfl
theorem ndG_ok {T:Nodes} (i:Int):(Rp T i).isSome=(T i).isSome:=by unfold Rp;cases T i<;>rfl
theorem MZ {T:Nodes} :upd (Rp T) i (some (ndA n))=Rp (QN T i (some n)):=by
  funext j;by_cases e:j=i
  · subst e;rw[XR];unfold Rp;rw[Qv];rfl
  · rw[ZG e];unfold Rp;rw[Qz e]
theorem EH {T:Nodes} :upd (Rp T) i none=Rp (QN T i none):=by
  funext j;by_cases e:j=i
  · subst e;rw[XR];unfold Rp;rw[Qv];rfl
  · rw[ZG e];unfold Rp;rw[Qz e]
structure TrAd where
  t:Nat
  mt:Nat
  c:Nat
  b:Nat
def Z5 (a:TrAd) (T:Nodes) (last:Int):Th:=starL [Q6 a.t [.map (some a.mt),ptrV a.c 0,ptrV a.b 0,intV last],Q4 QY a.mt (Rp T)]
section
variable {w:World} {As:List Th} {a:TrAd} {T:Nodes} {last:Int}
theorem XW (h:Sat w (Z5 a T last::As)):Sat w (Q6 a.t [.map (some a.mt),ptrV a.c 0,ptrV a.b 0,intV last]::Q4 QY a.mt (Rp T)::As):=h.flat
theorem X1 (h:Sat w (Q6 a.t [.map (some a.mt),ptrV a.c 0,ptrV a.b 0,intV last]::Q4 QY a.mt (Rp T)::As)):Sat w (Z5 a T last::As):=Sat.fold (As:=[Q6 a.t [.map (some a.mt),ptrV a.c 0,ptrV a.b 0,intV last],Q4 QY a.mt (Rp T)]) h
theorem Sat.blk_as {cs ds:List Value} (h:Sat w (Q6 b cs::As)) (e:cs=ds):Sat w (Q6 b ds::As):=e▸h
end
def O7:RowC NodeD:=⟨λn=>[intV n.id,intV n.par,intV n.dep,intV n.gue],4,by decide,λ_=>rfl,λ_=>rfl⟩
def Wn (T:Nodes) (ids:List Int):List NodeD:=ids.map (nd T)
def FewT (T:Nodes) (ids:List Int):Prop:=IdsOf T ids/\ids.length<=40
theorem FewT.card {T:Nodes} (h:FewT T ids) {r:NodeD} (a:T 0=some r):Card (Rp T) (ids.length+1):=by
  refine⟨0::ids,List.nodup_cons.2 ⟨λq=>((h.1.2 0).1 q).1 U,h.1.1.imp λh=>by omega⟩,rfl,λk=> ?_⟩;rw[List.mem_cons,h.1.2];unfold Rp;by_cases e:k=0
  · subst e;rw[a];simp
  · simp [e]
theorem FewT.came {T:Nodes} (h:FewT T ids) (b: ∀i,g i≠none->T i≠none) (a:Came g ks):ks.length<=41:=by
  have c:ks.length<=(0::ids).length:=Kh a.nodup λi hi=>by
    by_cases e:i=0
    · subst e;exact List.mem_cons_self
    · exact List.mem_cons_of_mem _ ((h.1.2 i).2 ⟨e,b i (a.has i hi)⟩)
  have :=h.2;rw[List.length_cons]at c;omega
theorem Sr (h:ks.Nodup):(XU ks).Pairwise (· < ·):=by
  have d:=List.pairwise_mergeSort (le:= λa b:Int=>decide (a<=b)) (by intro a b c;simp;omega) (by intro a b;simp;omega) ks;have e:(XU ks).Nodup:=(Y2 ks).nodup_iff.2 h;exact(d.and e).imp λ⟨a,b⟩=>by simp at a;omega
theorem qc9 {T:Nodes} (h:FewT T ids) (b: ∀i,g i=none↔T i=none) (a:AllC g ks):(XU ks).filter (λn=> !decide (n=0))=ids:=by
  refine Ml ?_ h.1.1 λi=> ?_
  · exact(Sr a.nodup).sublist List.filter_sublist
  · rw[List.mem_filter,(Y2 ks).mem_iff,a.mem,h.1.2];simp only[Bool.not_eq_true',decide_eq_false_iff_not,ne_eq];rw[<-b i];exact And.comm
theorem KidN.le {T:Nodes} {n:Nat} (h:KidN T i n) (c:FewT T ids):n<=40:=by
  obtain⟨l,d,e,g⟩:=h
  have k:l.length<=ids.length:=Kh d λj f=>by
    obtain⟨m,a,b,_⟩:=(e j).1 f;exact(c.1.2 j).2 ⟨b,by rw[a];simp⟩
  have :=c.2;omega
theorem CeW.kid40 {T:Nodes} (h:CeW C T) (a:FewT T ids) (b:C.all i=some x):0<=x.kids/\x.kids<=40:=by
  obtain⟨n,d,c⟩:=h.kids b;have :=c.le a;omega
