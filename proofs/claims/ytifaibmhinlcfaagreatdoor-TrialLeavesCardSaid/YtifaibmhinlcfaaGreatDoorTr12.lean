/- trials: views; laws: fresh -/
import Derived.Test.YtifaibmhinlcfaaGreatDoorTr8
import Derived.Test.YtifaibmhinlcfaaGreatDoorLv1
import Derived.Test.YtifaibmhinlcfaaGreatDoorCe5
import Derived.Test.YtifaibmhinlcfaaGreatDoorLv20
set_option linter.unusedSectionVars false
set_option linter.unusedVariables false
set_option maxRecDepth 100000
set_option maxHeartbeats 1600000
namespace Go.Proofs.YtifaibmhinlcfaaGreatDoor
open Go.RowKit M Proofs.Tryz
variable [Inhabited SlW]
variable {A:LvA} {As:List Th} {C:CeD} {G:(KD→Int)→Prop} {N b c cc e m n p vb:Nat} {a:TrAd} {dn:Bs→Prop} {g:Bs→Option Bool} {i id last:Int} {k s:Bs} {ks l:List Bs} {t:Bool} {w:World} {x:OneD}
theorem Gr {T:Nodes} {F:Th} (f:Sat w [Q6 vb [ptrV a.t 0,intV id],Z5 a T last,Y8 a.c C,F]) (g:CeW C T) (h:TrI T last) (i:C.all id=some x) (d:x.order.length<=100000000000) (k:Bs):
    Calls prog 22 #[ptrV vb 0,strV k] w (Ret λv w'=> ∃x' s,AskR C T id x k x'/\v=strV s/\SeesR (C.up id x') T k id s/\Sat w' [Q6 vb [ptrV a.t 0,intV id],Z5 a T last,Y8 a.c (C.up id x'),F]):=by
 refine Qn func22 U ntmps22 U ?_;refine Qe<|Qa<|Qd U U<|Qf<|Qc<|Qe ?_;have j:=XW (f.pick [1,0,2,3] U);have b:=j.drew;refine Q7 [0,1,2,3,4,5,6,7,8,9,10,11,12,13] [12] Z9 (by kernel_rfl) ?_;refine Q3 U U U<|QP U U U<|QG U U U We<|Q0 U U U (Ql U JY (b.cell 2 U U))<|QP U U U<|QG U U U Hl<|Q0 U U U (Ql U R2 (b.cell 0 U U))<|Q3 U U U<|QP U U U<|QG U U U ZV<|Q0 U U U (Ql U QL (b.cell 2 U U))<|Q3 U U U<|QO U U U U U U ?_;refine Qw cal_50 U (qfc (b.sp [3] U) g h i d k) U ?_;rintro _ o ⟨x',s,l,rfl,m,e⟩;replace e:=e.jn U U;refine Xh (Xd (by kernel_rfl)) ?_;refine Zd U U U (VC.nil (Qc (Qh [4] U (Qu (QJ (.inr U) U U ?_)))));have n:=X1 (T:=T) (last:=last) (e.pick [1,2,0,3,4] U);exact⟨_,U,x',s,l,U,m,n.pick [2,0,1,3] U⟩
theorem NH {T:Nodes} {F:Th} (e:Sat w [Q6 vb [ptrV a.t 0,intV id],Z5 a T last,Y8 a.c C,F]) (f:C.all id=some x) (k s:Bs):
    Calls prog 20 #[ptrV vb 0,strV k,strV s] w (Ret λv w'=>Sat w' [Q6 vb [ptrV a.t 0,intV id],Z5 a T last,Y8 a.c (C.up id (Ye x k s)),F]):=by
 refine Qn func20 U ntmps20 U ?_;have g:=XW (e.pick [1,0,2,3] U);have b:=g.drew;refine Q7 [0,1,2,3,4,5,6,7,8,9,10,11,12,13] [13] Z9 (by kernel_rfl) ?_;refine Q3 U U U<|QP U U U<|QG U U U We<|Q0 U U U (Ql U JY (b.cell 2 U U))<|QP U U U<|QG U U U Hl<|Q0 U U U (Ql U R2 (b.cell 0 U U))<|Q3 U U U<|QP U U U<|QG U U U ZV<|Q0 U U U (Ql U QL (b.cell 2 U U))<|Q3 U U U<|Q3 U U U<|QO U U U U U U ?_;refine Qw cal_47 U (qe9 (b.sp [3] U) f k s) U ?_;rintro _ i d;replace d:=d.jn U U;refine Xh (Xd (by kernel_rfl)) ?_;refine VC.nil (Zb (.inl U) U ?_);have h:=X1 (T:=T) (last:=last) (d.pick [1,2,0,3,4] U);exact⟨_,U,h.pick [2,0,1,3] U⟩
theorem CF {T:Nodes} {F:Th} (f:Sat w [Q6 vb [ptrV a.t 0,intV 0],Z5 a T last,D7 a.b p n m cc e A G,F]) (g:n<=60000000000) (h:m<ZO) (ob:Bs) (at_:Int) (i:0<=at_/\at_<16384):
    Calls prog 23 #[ptrV vb 0,strV ob,intV at_] w (Ret λv w'=>v=XV (btA (A.pres (ob,at_/ 64)) (at_%64))/\Sat w' [Q6 vb [ptrV a.t 0,intV 0],Z5 a T last,D7 a.b p n m cc e A G,F]):=by
 refine Qn func23 U ntmps23 U ?_;refine Qe<|Qa<|Qd U U<|Qf<|Qc<|Qe ?_;have j:=XW (f.pick [1,0,2,3] U);have c:=j.drew;refine Q7 [0,1,2,3,4,5,6,7,8,9,10,11,12,13,14] [13] Z9 (by kernel_rfl) ?_;refine Q3 U U U<|QP U U U<|QG U U U We<|Q0 U U U (Ql U JY (c.cell 2 U U))<|QP U U U<|QG U U U YO<|Q0 U U U (Ql U K8 (c.cell 0 U U))<|Q3 U U U<|QP U U U<|QG U U U ZV<|Q0 U U U (Ql U QL (c.cell 2 U U))<|Q3 U U U<|Q3 U U U<|QO U U U U U U ?_;refine Qw qfn U (Tb (c.sp [3] U) g h ob at_ i) U ?_;rintro _ l ⟨rfl,d⟩;replace d:=d.jn U U;refine Xh (Xd (by kernel_rfl)) ?_;refine Zd U U U (VC.nil (Qc (Qh [6] U (Qu (QJ (.inr U) U U ?_)))));have k:=X1 (T:=T) (last:=last) (d.pick [1,2,0,3,4] U);exact⟨_,U,U,k.pick [2,0,1,3] U⟩
theorem qa1 {T:Nodes} {F:Th} (i:Sat w [Q6 vb [ptrV a.t 0,intV id],Z5 a T last,D7 a.b p n m cc e A G,F]) (j:n<=60000000000) (k:m<ZO) {n0:NodeD} (d:T id=some n0) {tA:TrA} (l:A.tr id=some tA) (o:cc+1<(default:SlW).f) (ob:Bs) (at_:Int) (bt:UInt8) (q:0<=at_/\at_<16384):
    Calls prog 21 #[ptrV vb 0,strV ob,intV at_,XV bt] w (Ret λv w'=>Sat w' [Q6 vb [ptrV a.t 0,intV id],Z5 a T last,D7 a.b p (n+5) m (cc+1) (e+1) (Wj A id (ob,at_/ 64) (wrX (Z6 A id (ob,at_/ 64)) (at_%64) bt)) G,F]):=by
 refine Qn func21 U ntmps21 U ?_;have r:=XW (i.pick [1,0,2,3] U);have c:=r.drew;refine Q7 [0,1,2,3,4,5,6,7,8,9,10,11,12,13,14,15,16] [15,16] Z9 (by kernel_rfl) ?_;refine Q3 U U U<|Q3 U U U<|QP U U U<|QG U U U We<|Q0 U U U (Ql U JY (c.cell 2 U U))<|QP U U U<|QG U U U YO<|Q0 U U U (Ql U K8 (c.cell 0 U U))<|Q3 U U U<|QP U U U<|QG U U U ZV<|Q0 U U U (Ql U QL (c.cell 2 U U))<|Q3 U U U<|Q3 U U U<|Q3 U U U<|QO U U U U U U ?_;refine Qw qfo U (SJ (c.sp [3] U) j k l o ob at_ bt q) U ?_;rintro _ u ⟨rfl,g⟩;replace g:=g.jn U U;refine Xh (Xd (by kernel_rfl)) ?_;refine QO U U U U U U ?_;have s:=X1 (T:=T) (last:=last) (g.pick [1,2,0,3,4] U);refine Qw qfp U (CD (s.sp [2,0] U) d) U ?_;rintro _ x h;replace h:=h.jn U U;refine Xh (Xd (by kernel_rfl)) ?_;exact VC.nil (Zb (.inl U) U (⟨_,U,h.pick [0,1,2,3] U⟩))
theorem roomy2 {mp mt ms:Nat} (h:Sat w (WB b (H8 p mp mt ms)::ZP p 0 (default:SlW).f (λ_=>none)::As)):Sat w (lsT b p 0 0 0 0 MY::As):=by
  obtain⟨a,c,d,e,_⟩:=qcy (sp:=p) (mp:=mp) (mt:=mt) (ms:=ms);exact UI (L:=H8 p mp mt ms) (V:= λ_=>none) ⟨rfl,a,c,d,e⟩ h
theorem newQ {ma:Nat} (f:x.par=none) (g:x.kids=0) (k:QuD x):TQ Vq 0 (Nl ma x) MY []:=by
  have c: ∀{i n},Vq i=some n->i=0/\n=zN:= λ{i n} h=>by
    unfold Vq at h;by_cases e:i=0
    · subst e;rw[Qv]at h;cases h;exact⟨rfl,rfl⟩
    · rw[Qz e]at h;cases h
  have d: ∀{i z},(Nl ma x).all i=some z->i=0/\z=x:= λ{i z} h=>by
    have h:QN (λ_=>none) 0 (some x) i=some z:=h;by_cases e:i=0
    · subst e;rw[Qv]at h;cases h;exact⟨rfl,rfl⟩
    · rw[Qz e]at h;cases h
  refine⟨⟨⟨zN,Qv,rfl,rfl,rfl⟩,λh=>(by obtain⟨a,b⟩:=c h;subst a;subst b;rfl),λh q=>absurd (c h).1 q,λh q=>absurd (c h).1 q,Int.le_refl _⟩,
    ⟨⟨λi=> ?_,λh=>(by rw[(d h).2];exact f),λq h _=>absurd (c h).1 q,λa b _=>(d a).1.trans (d b).1.symm,λ{i z} h=> ?_⟩,λh=>(by rw[(d h).2];exact k)⟩,
    ⟨⟨rfl,λi hi=> ?_⟩,λh=>by cases h⟩,⟨⟨List.Pairwise.nil,λi=>⟨λh=>(by cases h),λh=> ?_⟩⟩,by simp⟩⟩
  · by_cases e:i=0
    · subst e;show QN (λ_=>none) 0 (some x) 0=none↔QN (λ_=>none) 0 (some zN) 0=none;rw[Qv,Qv];simp
    · show QN (λ_=>none) 0 (some x) i=none↔QN (λ_=>none) 0 (some zN) i=none;rw[Qz e,Qz e];simp
  · obtain⟨a,b⟩:=d h;subst a;subst b;exact⟨0,g,[],List.nodup_nil,λj=>⟨λq=>(by cases q),λ⟨n,l,m,_⟩=>absurd (c l).1 m⟩,rfl⟩
  · show(QN (λ_=>none) 0 (some zN) i).map NodeD.par=_;rw[Qz hi];rfl
  · exact absurd (show Vq i=none from by unfold Vq;rw[Qz h.1]) h.2
theorem EY {F:Th} (m:Sat w [F]) (count:Int) (d:(default:SlW).v=4096) (e:(default:SlW).f<=(min (max count 1) 256).toNat+(min (max 4096 0) 4096:Int).toNat):
    Calls prog 5 #[intV count] w (Ret λv w'=> ∃a p C,v= .tuple #[ptrV a.t 0,ptrV p 0]/\TQ Vq 0 C MY []/\Sat w' [Z5 a Vq 0,Y8 a.c C,lsT a.b p 0 0 0 0 MY,F]):=by
 refine Qn func5 U ntmps5 U ?_;refine Qe<|Qa<|Qd U U<|Qd U U<|Qf<|Qc<|Qe<|Qa<|Qb U U ?_;refine Qw cal_25 U (stNew (m.sp [] U) count 4096 200 (by rw[d];rfl) (Fr:=(default:SlW).f) e) U ?_;rintro _ n ⟨p,rfl,g⟩;replace g:=g.jn U U;refine Qd U U<|Qf<|Qc<|Qe<|Qe<|Qa<|Qb U U<|XG underlying27 U U U<|Qf<|Qc<|QM U<|Qt<|Qc<|Qe<|Qa<|Qb U U<|Qw cal_26 U (qa8 (g.sp [] U)) U ?_;rintro _ w2 ⟨a,ma,x,mp,mt,ms,rfl,h,i,j,k⟩;replace k:=k.jn U U;refine Qb U U<|Qd U U<|Qd U U<|Qf<|Qc<|Qh [2,3] U<|Qu<|Jt (.inr U) U U U ?_;have l:=k.pick [2,3,0,1,4] U;exact⟨_,U,a,p,Nl ma x,U,newQ h i j,(roomy2 l).reorder [1,2,0,3] U⟩
theorem liG_put {f:Bs->Option (SlD×List Bs)} {s:SlD} :upd (SM f) k (some (U5 s))=SM (QN f k (some (s,l))):=by
  funext j;by_cases e:j=k
  · subst e;rw[XR];unfold SM;rw[Qv];rfl
  · rw[ZG e];unfold SM;rw[Qz e]
theorem GB {f:Bs->Option (SlD×List Bs)} {q:SlD×List Bs} (h:f k=some q):SM f k=some (U5 q.1):=by unfold SM;rw[h];rfl
theorem DQ {f:Bs->Option (SlD×List Bs)} (h:f k=none):SM f k=none:=by unfold SM;rw[h];rfl
noncomputable def RT (x:OneD) (k s:Bs):OneD:= if s=[]then x else{x with logs:=QN x.logs k (some ((x.logs k).getD []++s))}
theorem Pf (h:s=[]):RT x k s=x:=if_pos h
theorem Tc (h: ¬s=[]):RT x k s={x with logs:=QN x.logs k (some ((x.logs k).getD []++s))}:=if_neg h
theorem Pg:(RT x k s).ad=x.ad/\(RT x k s).par=x.par/\(RT x k s).kids=x.kids:=by unfold RT;split<;> exact⟨rfl,rfl,rfl⟩
theorem IQ {T0:Int->Option OneD} {F:Th} {s:SlD} (o:Sat w [rowT stC (U5 s) l,Xw ZM T0,F]) (p:T0 i=some x) (c:x.li k=none) (q:x.order.length<=100000000000):
    Calls prog 139 #[ptrV x.ad 0,.agg #[intV 1,strV k,strV [],U5 s]] w (Ret λv w'=> ∃ov,Sat w' [Xw ZM (QN T0 i (some {x with ov:=ov,order:=x.order++[(1,k,[],s)],li:=QN x.li k (some (s,l))})),F]):=by
 refine Qn func139 U ntmps139 U ?_;refine Qe<|Qa<|XL o U U U ?_;intro rb r d;replace d:Sat r (Q6 rb [intV 1,strV k,strV [],U5 s]::_):=d;refine Qf<|Qc<|Qe ?_;have t:=Zz (d.pick [2,0,1,3] U) p;have e:=t.drew;refine Q7 [0,1,2,3,4,5,6,7,8,9,10] [6,7,10] Z9 (by kernel_rfl) ?_;refine Q3 U U U<|Q3 U U U<|QP U U U<|QG U U U UO<|Q0 U U U (Ql U Dc (e.cellF 0 U U))<|Q0 U U U (X5 U LZ Lf (by first | exact e.blk 8 U) (Xk U) U) ?_
 refine QO U U U U U U ?_;refine X8 VL [((1:Int),k,([]:Bs),s)] e U underlying134 EV U U U U (by rfl) rfl ?_;intro z A g;refine Xh (.skip (by kernel_rfl) (.cons (.inl ⟨rfl,(Ql U Dc (g.cellF 1 U U))⟩) .nil)) ?_;refine QO U U U U U U ?_;refine Zx VL 4 g U U U (g.rd 0 U (by simp)) underlying134 underlying134 (by intro k c;cases c) EW U (by simp;omega) U (by simp;omega) ?_;intro v5 B h;dsimp only[List.set]at h;have m:v5.oneCell'=true:=h.own_one 4 U;refine Xh (Xd (by kernel_rfl)) ?_;refine QP U U U<|QG U U U UO<|QO U U U U U U ?_
 (refine KC h U U qbi (by assumption) (i:=1) U (Xk U) ?_)
 intro C j;dsimp only[List.set]at j;refine Zc (Xd (by kernel_rfl)) ?_;refine VC.nil (Qc (Qh [0,3] U (Qe (Qa (Qg U Tp U (Qo U QL (j.cell 9 U U) U (Xg U U U (Qf (Qc (Qs U (λn=> ?_) (λn=> ?_)))))))))))
 ·exact absurd n (by decide)
 have b:=j.drew;refine Q7 [0,1,2,3,4,5,6,7,8] [8] Z9 (by kernel_rfl) ?_;refine Q3 U U U<|QP U U U<|QG U U U Tq<|Q0 U U U (Ql U Ea (b.cellF 1 U U))<|QG U U U To<|Q0 U U U (Ql U XT (b.cell 9 U U))<|QG U U U qea<|Q0 U U U (Ql U R3 (b.cell 9 U U))<|QO U U U U U U ?_;refine QT (k:=k) (v:=U5 s) 6 b keysStr underlying135 U U U U ?_;intro u a;dsimp only[List.set]at a;rw[liG_put (s:=s) (l:=l)]at a;refine Zc (Xd (by kernel_rfl)) ?_;refine VC.nil (Zb (.inl U) U ?_);have y:=K4 (th:=liT) (f:=x.li) (k:=k) (x:=(s,l)) (a.pick [10,7,1,2,3,4,5,6,8,11] U) c;exact⟨_,U,_,Y6 (x:={x with ov:=_,order:=x.order++[(1,k,[],s)],li:=QN x.li k (some (s,l))}) (y.pick [1,2,3,4,5,6,0,7,8] U)⟩
theorem qfb {F:Th} (b:Sat w [Y8 c C,F]) (d:C.all id=some x) (k s:Bs) (j:((x.logs k).getD []).length+s.length<=281474976710656):
    Calls prog 116 #[ptrV c 0,intV id,strV k,strV s] w (Ret λv w'=>Sat w' [Y8 c (C.up id (RT x k s)),F]):=by
 replace b:=WT b;refine Qn func116 U ntmps116 U ?_;refine Qe<|Qa<|Qb U U<|Qj U U<|Qg U WQ U<|Qo U Yp (b.cell 0 U U) U<|Qb U U<|Xf (k:=id) 1 b keysInt underlying131 U U U Hu (u:=(ptrV x.ad 0)) (XH d) U<|Qd U U<|Qf<|Qc<|Qh [3,2,8] U<|Qe<|Qa<|Qb U U<|Zi underlying130 U U U<|Qb U U<|Qk U U U<|Qb U U<|Qk U U U<|KE U U U<|QF U U U U<|Qf<|Qc<|Qs U (λe=> ?_) (λe=> ?_)
 ·have a: ¬s=[]:=by simpa using e
  have f:=Zz (b.pick [2,0,1,3] U) d;refine Qa<|Qb U U<|Qj U U<|Qg U Tr U<|Qo U JX (f.cellF 0 U U) U<|Qb U U<|Xf (k:=k) 2 f keysStr underlying61 U U U R5 (u:=strV ((x.logs k).getD [])) (E2 x.logs k) U<|Qb U U<|KG U U (by omega) U ?_;refine QT (k:=k) (v:=strV ((x.logs k).getD []++s)) 2 f keysStr underlying61 U U U U ?_;intro l g;dsimp only[List.set]at g;rw[DJ]at g;refine Qf<|Zb (.inl U) U ?_;have i:=Y6 (x:={x with logs:=QN x.logs k (some ((x.logs k).getD []++s))}) (g.pick [0,1,2,3,4,5,6,7,8,9,10] U)
  have h:=(i.pick [0,1,2,3] U).reorder [1,2,0,3] U;rw[<-WK (k:=id) (y:={x with logs:=QN x.logs k (some ((x.logs k).getD []++s))}) d U]at h
  exact⟨_,rfl,by rw[Tc a];exact WR (C:=C.up id _) h⟩
 have a:s=[]:=by simpa using e
 refine Qt<|Zb (.inl U) U ?_;exact⟨_,rfl,by rw[Pf a];unfold CeD.up;rw[Wr d];exact WR (b.pick [0,1,2,3] U)⟩
theorem IW {F:Th} (a:Sat w [Y8 c C,F]) (b:C.all id=some x) (k:Bs):
    Calls prog 84 #[ptrV c 0,intV id,strV k] w (Ret λv w'=>v=strV ((x.logs k).getD [])/\Sat w' [Y8 c C,F]):=by
 replace a:=WT a;refine Qn func84 U ntmps84 U ?_;refine Qe<|Qa<|Qd U U<|Qf<|Qc<|Qe<|Qe<|Qa<|Qb U U<|Qj U U<|Qg U WQ U<|Qo U Yp (a.cell 0 U U) U<|Qb U U<|Xf (k:=id) 1 a keysInt underlying131 U U U Hu (u:=(ptrV x.ad 0)) (XH b) U<|Qd U U<|Qf<|Qc<|Qh [2,6,7] U<|Qe<|Qa<|Qb U U<|Zi underlying130 U U U<|Qf<|Qc<|Xm U<|Qe ?_;have d:=Zz (a.pick [2,0,1,3] U) b;refine Qa<|Qb U U<|Qj U U<|Qg U Tr U<|Qo U JX (d.cellF 0 U U) U<|Qb U U<|Xf (k:=k) 2 d keysStr underlying61 U U U R5 (u:=strV ((x.logs k).getD [])) (E2 x.logs k) U<|Qd U U<|Qf<|Qc<|Qh [6] U<|Qu<|Qq<|QJ (.inr U) U U ?_;have e:=ZD b (d.pick [0,1,2,3,4,5,6,7,8,9,10] U);exact⟨_,U,U,WR (e.pick [1,2,0,3] U)⟩
def Bu (f:Bs->Option Bool):Bs->Option Value:= λk=>(f k).map Value.bool
theorem bqG_ex {f:Bs->Option Bool} {v:Value} (h:Bu f k=some v): ∃t,f k=some t/\v= .bool t:=by
  unfold Bu at h;obtain⟨s,a,b⟩:=Option.map_eq_some_iff.1 h;exact⟨s,a,b.symm⟩
theorem qf2 {f:Bs->Option Bool} (h:f k=some t):Bu f k=some (.bool t):=by unfold Bu;rw[h];rfl
theorem Oa {f:Bs->Option Bool} :upd (Bu f) k (some (.bool t))=Bu (QN f k (some t)):=by
  funext j;by_cases e:j=k
  · subst e;rw[XR];unfold Bu;rw[Qv];rfl
  · rw[ZG e];unfold Bu;rw[Qz e]
theorem bqG_del {f:Bs->Option Bool} :upd (Bu f) k none=Bu (QN f k none):=by
  funext j;by_cases e:j=k
  · subst e;rw[XR];unfold Bu;rw[Qv];rfl
  · rw[ZG e];unfold Bu;rw[Qz e]
def RB (f:Bs->Option Bool):Bs->Option Bool:= λk=> if f k=some true then some true else none
def OutB (f g:Bs->Option Bool) (dn:Bs->Prop):Prop:= ∀p,(dn p->g p=RB f p)/\(¬dn p->g p=f p)
theorem OutB.next {f:Bs->Option Bool} (h:OutB f g dn) (c: ¬dn k) (b:g k=some true):OutB f g (λj=>dn j\/j=k):= λp=>by
  refine⟨λa=> ?_,λa=>(h p).2 λq=>a (.inl q)⟩;rcases a with a | rfl
  · exact(h p).1 a
  · have :=(h p).2 c;rw[b]at this;unfold RB;rw[<-this,if_pos U,b]
theorem OutB.del {f:Bs->Option Bool} (h:OutB f g dn) (b: ¬dn k) (c:g k=some false):OutB f (QN g k none) (λj=>dn j\/j=k):= λp=>by
  by_cases a:p=k
  · subst a;refine⟨λ_=> ?_,λq=>absurd (.inr U) q⟩;have :=(h p).2 b;rw[c]at this;rw[Qv];unfold RB;rw[<-this,if_neg (by decide)]
  · rw[Qz a];exact⟨λq=>(h p).1 (q.resolve_right a),λq=>(h p).2 λr=>q (.inl r)⟩
theorem OutB.done {f:Bs->Option Bool} (h:OutB f g dn) (hd: ∀k v,Bu g k=some v->dn k):g=RB f:=by
  funext p;by_cases q:dn p
  · exact(h p).1 q
  · have b:=(h p).2 q
    have a:g p=none:=by
      cases e:g p with
      | none=>rfl
      | some t=> exact absurd (hd p _ (qf2 e)) q
    rw[a];unfold RB;rw[<-b,a,if_neg (by simp)]
theorem qbr {F:Th} (a:Sat w [F]) (k:Bs) (t:Bool):
    Calls prog 180 #[strV k,.bool t] w (Ret λv w'=>v= .bool (!t)/\Sat w' [F]):=by
 refine Qn func180 U ntmps180 U ?_;exact Qe (Qa (Qd U U (Qf (Qc (Qe (Qa (Qb U U (QX U U (Qd U U (Qf (Qc (Qu (QJ (.inr U) U U (⟨_,U,U,a.pick [0] U⟩))))))))))))))
theorem qc1 {F:Th} {f:Bs->Option Bool} (x:Sat w [Q4 Xo b (Bu f),F]):
    Calls prog 179 #[.map (some b),.func (.func 180) #[] #[]] w (Ret λv w'=>v= .tuple #[]/\Sat w' [Q4 Xo b (Bu (RB f)),F]):=by
 refine Qn func179 U ntmps179 U ?_;refine Qe<|Qa<|Qb U U<|WN 0 x underlying146 U U U ?_;intro RR left0 wR l;dsimp only[List.set]at l;refine Qf<|Qc<|Qx<|QU (λK0 E0 W0=> ∃(g:Bs->Option Bool) (dn:Bs->Prop) (cur:Option Bs) (left:Nat),K0=left/\E0=[(0,.map (some b)),(1,.func (.func 180) #[] #[]),(7,ptrV RR 0)]/\Sat W0 [WI Xo b RR (Bu g) dn cur left,F]/\(OutB f g dn)) (L0:=[(0,_),(1,_),(7,_)]) (left0) (VG U U U) ⟨f,_,_,_,rfl,rfl,l.pick [0,1] U,λp=>⟨λh=>h.elim,λ_=>rfl⟩⟩ ?_;rintro _ _ y ⟨g,dn,cur,left,rfl,rfl,s,a⟩;refine Qe<|Qa<|JA 0 s keysStr.inj U U U (λi=> ?_) (λk v9 left2 wN o m d c=> ?_)
 ·refine Qr U U U<|Qf<|Qc<|Qe<|QM U<|QQ<|Qp<|Qp<|Qy<|Zb (.inl U) U ?_;rw[<-a.done i];exact⟨_,rfl,rfl,Wh (s.pick [0,1] U)⟩
 dsimp only[List.set]at c;obtain⟨t,u,rfl⟩:=bqG_ex m;refine Qr U U U<|Qf<|Qc<|Qe<|Xm U<|Qt<|Qc<|Qx<|Qe<|Qa<|Jc 0 c U m U U<|Qr U U U<|Qr U U U<|Qd U U<|Qd U U<|Qf<|Qc<|Qe<|Qa<|Qb U U<|Qb U U<|Qb U U<|VU U cal_180 U (qbr (c.sp [] U) k t) U ?_;rintro e w2 ⟨_,rfl,rfl,n⟩;refine⟨_,rfl, ?_⟩;replace n:=n.jn U U;clear c;refine Qf<|Qc<|Qh [7,1,0,4,16] U<|QR U (λq=> ?_) (λq=> ?_)
 ·have j:(!t)=true:=q;refine Qa<|Qb U U<|Qb U U<|FU (k:=k) 0 n keysStr underlying146 U (.inr U) U U U ?_;intro z r;dsimp only[List.set,pd]at r⊢;rw[bqG_del]at r;refine Qf<|Qm ?_;exact Q5 (L1:=[(0,.map (some b)),(1,.func (.func 180) #[] #[]),(7,ptrV RR 0)]) (VG U U U) (k1:=left2) (by omega) ⟨_,_,_,_,rfl,rfl,r.pick [0,1] U,a.del d (by cases t;exact u;cases j)⟩
 have j:(!t)=false:=q;refine Qt<|Qm ?_;exact Q5 (L1:=[(0,.map (some b)),(1,.func (.func 180) #[] #[]),(7,ptrV RR 0)]) (VG U U U) (k1:=left2) (by omega) ⟨_,_,_,_,rfl,rfl,n.pick [0,1] U,a.next d (by cases t;cases j;exact u)⟩
def U1 (c:Bs->Bs) (pre:Bs) (l:List Bs):Prop:= ∃l0,l=Wk l0/\l0.Nodup/\ ∀k,k∈l0↔c k≠[]/\Lib.hasPrefix k pre=true
theorem Nx {α:Type} (q:α->Bool): ∀l:List α,l.length=(l.filter q).length+(l.filter λx=> !q x).length
  | []=>rfl
  | a::l=>by
    have :=Nx q l;rw[List.filter_cons,List.filter_cons];cases h:q a<;> simp <;>omega
structure CeB (C:CeD) (T:Nodes) (N:Nat):Prop where
  wr: ∀{i y},C.all i=some y→ ∀ks,Came (Hv y.writes) ks→ks.length≤N
  li: ∀{i y n k s l},C.all i=some y→T i=some n→y.li k=some (s,l)→(l.length:Int)≤n.dep*N
  dep: ∀{i n},T i=some n→0≤n.dep∧n.dep≤100
  kw: ∀{i y},C.all i=some y→ ∀q,y.writes q≠none→q.length≤10
  kl: ∀{i y k s l},C.all i=some y→y.li k=some (s,l)→ ∀q∈l,q.length≤10
section
variable {T0:Int→Option OneD} {i:Int} {x:OneD} {k:Bs} {s:SlD} {l:List Bs} {w:World} {A B:Th} {f:Bs→Option Bool}
theorem qeo (a:T0 i=some x) (b:x.li k=some (s,l)) (c:l.length<=9223372036854775807):Ent (Xw ZM T0) (RdL stC (U5 s) l):= λ{w G} h=>by
  have d:=Rk ((Zz (Sat.one h) a).pick [6,0,1,2,3,4,5,7] U) b;exact Ent.sat (Ja (C:=stC) c) d 0 U
theorem Ent.or2 {P:World->Prop} (h:Ent A P\/Ent B P) (c:Sat w As) (a b:Nat) (d:As[a]? =some A) (e:As[b]? =some B):P w:=h.elim (λq=>q.sat c a d) λq=>q.sat c b e
def BE (l:List Bs) (i:Nat):Bs->Option Bool:= λq=> if q∈l.take i then some true else none
theorem Ib {i:Nat} {y:Bs} (h:l[i]? =some y):QN (BE l i) y (some true)=BE l (i+1):=by
  funext q;unfold BE;rw[List.take_add_one,h];by_cases e:q=y
  · subst e;rw[Qv,if_pos (by simp)]
  · rw[Qz e];simp [e]
theorem Ia:BE l 0= λ_=>none:=by funext q;simp [BE]
def HasR (x:OneD) (l:List Bs) (k:Bs) (dn:Bs->Prop) (g:Bs->Option Bool):Prop:= ∀q,(dn q/\Lib.hasPrefix q k=true-> ∃v,x.writes q=some v/\g q=some (decide (v≠[])))/\(¬(dn q/\Lib.hasPrefix q k=true)->g q=BE l l.length q)
variable {dn:Bs→Prop} {g:Bs→Option Bool} {q v:Bs}
theorem HasR.start:HasR x l k (λ_=>False) (BE l l.length):= λq=>⟨λh=>h.1.elim,λ_=>rfl⟩
theorem HasR.yes (h:HasR x l k dn g) (a:x.writes q=some v) (b:Lib.hasPrefix q k=true):HasR x l k (λj=>dn j\/j=q) (QN g q (some (decide (v≠[])))):= λj=>by
  by_cases e:j=q
  · subst e;rw[Qv];exact⟨λ_=>⟨v,a,rfl⟩,λr=>absurd ⟨.inr U,b⟩ r⟩
  · rw[Qz e];exact⟨λr=>(h j).1 ⟨r.1.resolve_right e,r.2⟩,λr=>(h j).2 λt=>r ⟨.inl t.1,t.2⟩⟩
theorem HasR.no (h:HasR x l k dn g) (b:Lib.hasPrefix q k=false):HasR x l k (λj=>dn j\/j=q) g:= λj=>by
  refine⟨λr=> ?_,λr=>(h j).2 λt=>r ⟨.inl t.1,t.2⟩⟩;rcases r.1 with a | a
  · exact(h j).1 ⟨a,r.2⟩
  · rw[a,b]at r;cases r.2
theorem HasR.mem (h:HasR x l k dn g) (a:g q≠none):q∈l\/x.writes q≠none:=by
  by_cases r:dn q/\Lib.hasPrefix q k=true
  · obtain⟨v,b,_⟩:=(h q).1 r;exact .inr (by rw[b];simp)
  · left;rw[(h q).2 r]at a;unfold BE at a;rw[List.take_length]at a;exact Decidable.byContradiction λz=>a (if_neg z)
theorem HasR.len (h:HasR x l k dn g) (d: ∀ks,Came (Hv x.writes) ks->ks.length<=N) (b:Came (Bu (RB g)) ks):ks.length<=l.length+N:=by
  have o:=Nx (λa=>decide (a∈l)) ks;have p:(ks.filter λa=>decide (a∈l)).length<=l.length:=List.Nodup.length_le_of_subset (b.nodup.filter _) λa c=>by simpa using(List.mem_filter.1 c).2
  have q:=d (ks.filter λa=> !decide (a∈l)) ⟨b.nodup.filter _,λa c=>by
    obtain⟨f,i⟩:=List.mem_filter.1 c;have j:=b.has a f;have m:g a≠none:= λz=>j (by unfold Bu RB;rw[z];rfl);have n:=(h.mem m).resolve_left (by simpa using i);unfold Hv;cases e:x.writes a with
    | none=> exact absurd e n
    | some v=> simp⟩
  omega
theorem HasR.short (h:HasR x l k dn g) (a: ∀q∈l,q.length<=10) (b: ∀q,x.writes q≠none->q.length<=10) (c:AllC (Bu (RB g)) ks): ∀q∈Wk ks,q.length<=10:= λq d=>by
  have e:=(c.mem q).1 ((Y1 ks).mem_iff.1 d);have f:g q≠none:= λz=>e (by unfold Bu RB;rw[z];rfl);exact(h.mem f).elim (a q) (b q)
theorem HasR.present (h:HasR x [] k dn g) (hd: ∀q v,Hv x.writes q=some v->dn q) (f:AllC (Bu (RB g)) ks):U1 (λq=>(x.writes q).getD []) k (Wk ks):=by
  refine⟨ks,rfl,f.nodup,λq=> ?_⟩;rw[f.mem q]
  have e:Bu (RB g) q≠none↔g q=some true:=by
    unfold Bu RB;by_cases z:g q=some true
    · rw[if_pos z];simp [z]
    · rw[if_neg z];simp [z]
  rw[e];cases a:x.writes q with
  | none=>
    have i: ¬(dn q/\Lib.hasPrefix q k=true):= λr=>by obtain⟨v,b,_⟩:=(h q).1 r;rw[a]at b;cases b
    rw[(h q).2 i];simp [BE,a]
  | some v=>
    have d:=hd q _ (Jx a);by_cases c:Lib.hasPrefix q k=true
    · obtain⟨u,b,j⟩:=(h q).1 ⟨d,c⟩;rw[a]at b;cases b;rw[j];simp [c,a]
    · rw[(h q).2 (λr=>c r.2)];simp [BE,c,a]
end
theorem hpx (a:Sat w As) (s t:Bs):Calls prog 80 #[strV s,strV t] w (Ret λv w'=>v= .bool (Lib.hasPrefix s t)/\Sat w' As):=
  (Tryz.strings_HasPrefix ⟨s.toArray⟩ ⟨t.toArray⟩ w).mono λe w' ⟨b,c⟩=>⟨_,b,rfl,by rw[c];exact a⟩
theorem rdS_nil (w:World):RdL stC (.slice none 0 0) [] w:=⟨none,0,rfl,by simp,λi x h=>by cases h⟩
theorem qbq {T:Nodes} {F:Th} (W:Sat w [Xw ZM C.all,F]) (hW:CeW C T) (hI:TrI T last) (K:CeB C T N) (hN:N<=1000) {nd:NodeD} (b:C.all i=some x) (d:T i=some nd) (k:Bs) (ih: ∀(j:Int) (y:OneD) (m:NodeD),0<=j->j<i->C.all j=some y->T j=some m-> ∀(w:World) (F:Th),Sat w [Xw ZM C.all,F]->Calls prog 126 #[ptrV y.ad 0,strV k] w (Ret λv w'=> ∃(s:SlD) (l:List Bs),v=U5 s/\(l.length:Int)<=(m.dep+1)*N/\(y.par=none->U1 (λq=>(y.writes q).getD []) k l)/\(∀q∈l,q.length<=10)/\Sat w' [rowT stC (U5 s) l,Xw ZM C.all,F])):
    Calls prog 126 #[ptrV x.ad 0,strV k] w (Ret λv w'=> ∃(s:SlD) (l:List Bs),v=U5 s/\(l.length:Int)<=(nd.dep+1)*N/\(x.par=none->U1 (λq=>(x.writes q).getD []) k l)/\(∀q∈l,q.length<=10)/\Sat w' [rowT stC (U5 s) l,Xw ZM C.all,F]):=by
 refine Qn func126 U ntmps126 U ?_;have L:=K.dep d;have af:nd.dep*N<=100000:=by have :=Int.mul_le_mul L.2 (Int.ofNat_le.2 hN) (by omega) (by omega);omega
 refine Qe<|Qa<|Qd U U<|Qf<|Qc<|Qe<|Qa<|Qd U U<|Qf<|Qc<|Mt (λE0 W0=> ∃(lv:Value) (l:List Bs) (H:Th),E0=[(0,ptrV x.ad 0),(1,strV k),(5,lv)]/\Sat W0 [Xw ZM C.all,H,F]/\(Ent (Xw ZM C.all) (RdL stC lv l)\/Ent H (RdL stC lv l))/\((l.length:Int)<=nd.dep*N)/\(x.par=none->l=[])/\(∀q∈l,q.length<=10)) ?_ ?_
 ·refine Qe<|Qa<|Qb U U<|Qj U U<|Qg U Ww U<|Qo U Ji (HZ W 0 U b 0 U) U ?_;rcases M:x.par with _ | pa
  ·refine Z7 underlying130 U U U<|Qf<|Qc<|QM U<|Qt ?_;exact Hx (VG U U U) ⟨.slice none 0 0,[],starL [],rfl,(Sat.fold (As:=[]) (W.pick [0,1] U)).pick [1,0,2] U,.inr (λ_=>rdS_nil _),(by have :=Int.mul_nonneg L.1 (Int.natCast_nonneg N);simpa using this),(λ_=>rfl),(λq h=>by cases h)⟩
  refine Zi underlying130 U U U<|Qf<|Qc<|Xm U<|Qe<|Qa<|Qd U U<|Qf<|Qc<|Qe ?_;have O:=Zz (W.pick [0,1] U) b;refine Qa<|Qb U U<|Qj U U<|Qg U Tq U<|Qo U Ea (O.cellF 0 U U) U<|Qb U U ?_;rcases a:x.li k with _ | ⟨s0,l0⟩
  ·refine Xn (k:=k) 5 O keysStr underlying135 U U U Ee (u:=(.slice none 0 0)) (g:=false) (by rw[DQ a];rfl) (by rw[DQ a];rfl) U ?_;refine Qb U U<|Qr U U U<|Qr U U U<|Qd U U<|Qd U U<|Qf<|Qc<|Qh [1,0,4,5,6] U<|Qe ?_;have j3:=ZD b (O.pick [0,1,2,3,4,5,6,7,8] U);refine Qa<|Qb U U<|QX U U<|Qf<|Qc<|QR U (λh4=> ?_) (λh4=> ?_)
   ·have h0:i≠0:= λe=>by have :=hW.root (e▸b);rw[M]at this;cases this
    obtain⟨y,hy,X⟩:=hW.up h0 d b;obtain⟨Y,Z,pn,a0,a1⟩:=hI.par d h0;refine Qa<|Qb U U<|Qj U U<|Qg U Ww U<|Qo U Ji (Vo j3 0 U b X) U<|Qb U U<|Qw PQ U ((ih nd.par y pn Z Y hy a0 _ _ (j3.sp [0] U))) U ?_;rintro _ w5 ⟨s1,l1,rfl,a2,_,a3,j5⟩;replace j5:=j5.jn U U;refine Qd U U<|Qf ?_;have t:(l1.length:Int)<=nd.dep*N:=by rw[a1];exact a2
    exact Hx (VG U U U) ⟨U5 s1,l1,_,rfl,j5.pick [1,0,2] U,.inr (Ja (C:=stC) (l:=l1) (by omega)),t,(λe=>by cases e),a3⟩
   exact absurd h4 (by decide)
  refine Xn (k:=k) 5 O keysStr underlying135 U U U Ee (u:=(U5 s0)) (g:=true) (by rw[GB a];rfl) (by rw[GB a];rfl) U ?_;refine Qb U U<|Qr U U U<|Qr U U U<|Qd U U<|Qd U U<|Qf<|Qc<|Qh [1,0,4,5,6] U<|Qe ?_;have j6:=ZD b (O.pick [0,1,2,3,4,5,6,7,8] U);refine Qa<|Qb U U<|QX U U<|Qf<|Qc<|QR U (λh7=> ?_) (λh7=> ?_)
  ·exact absurd h7 (by decide)
  refine Qt ?_;have t:=K.li b d a;exact Hx (VG U U U) ⟨U5 s0,l0,starL [],rfl,(Sat.fold (As:=[]) (j6.pick [0,1] U)).pick [1,0,2] U,.inl (qeo b a (by omega)),t,(λe=>by cases e),K.kl b a⟩
 rintro _ w1 ⟨lv,l,H,rfl,j1,P,ag,a4,a5⟩;have a6:=Ent.or2 P j1 0 1 U U;obtain⟨ao,cap,rfl,ah⟩:=a6.shape;refine Qe<|Qa<|XS Xo j1 U ?_;intro p w8 j8;refine Qd U U<|Qf<|Qc<|Qe<|Qe<|Qa<|Qb U U<|Xl underlying83 U U<|Qb U U<|Qf<|Qc<|Qx ?_;replace j8:Sat w8 [Q4 Xo p (Bu (BE l 0)),Xw ZM C.all,H,F]:=by rw[Ia];exact j8.pick [0,1,2,3] U
 refine QU (λK0 E0 W0=> ∃(q:Nat),K0=l.length -q/\E0=[(0,ptrV x.ad 0),(1,strV k),(7,.map (some p)),(35,.slice ao l.length cap),(36,intV (l.length:Int)),(37,intV (q:Int))]/\Sat W0 [Q4 Xo p (Bu (BE l q)),Xw ZM C.all,H,F]/\(q<=l.length)) (L0:=[(0,_),(1,_),(7,_),(35,_),(36,_),(37,_)]) (l.length -0) (R6 U U U U U U) ⟨0,rfl,rfl,j8.pick [0,1,2,3] U,by omega⟩ ?_;rintro _ _ w9 ⟨q,rfl,rfl,j9,hq⟩;refine Qe<|Qa<|Xa U U U<|Qf<|Qc<|Qe<|Qs U (λa7=> ?_) (λa7=> ?_)
 ·refine Qt<|Qc<|Qe<|Qx<|Qe ?_;obtain⟨u,hu⟩: ∃u,l[q]? =some u:=⟨_,XQ (by omega)⟩;obtain⟨lb,lo,rfl,hc⟩:=(Ent.or2 P j9 1 2 rfl rfl).get hu;refine Qa<|Xt q U U (by rfl) (by omega) VF U ?_;refine Qo U XT (hc 0 _ U) U<|Qd U U<|Qf<|Qc<|Qa<|Qb U U<|Qb U U<|QT (k:=u) (v:= .bool true) 0 j9 keysStr underlying146 U U U U ?_;intro ai z;dsimp only[List.set]at z;rw[Oa,Ib hu]at z;refine Qf<|Qm<|Qc<|Qh [37,36,35,7,1,0] U<|Qa<|QE U U (by omega) (by omega) U ?_;refine Qb U U<|Qf ?_;exact Q5 (L1:=[(0,_),(1,_),(7,_),(35,_),(36,_),(37,intV ((q+1:Nat):Int))]) (R6 U U U U U U) (k1:=l.length -(q+1)) (by omega) ⟨q+1,rfl,rfl,z.pick [0,1,2,3] U,by omega⟩
 refine QQ<|Qp<|Qp<|Qy<|Qc<|Qe<|Qe ?_;obtain rfl:q=l.length:=by omega
 have Q:=Zz (j9.pick [1,0,2,3] U) b;refine Qa<|Qb U U<|Qj U U<|Qg U Uh U<|Qo U JX (Q.cellF 0 U U) U<|WN 1 Q underlying61 U U U ?_;intro RR left0 wR R;dsimp only[List.set]at R;refine Qf<|Qc<|Qh [7,1,48] U<|Qx<|QU (λK0 E0 W0=> ∃(dn:Bs->Prop) (cur:Option Bs) (left:Nat) (g:Bs->Option Bool),K0=left/\E0=[(1,strV k),(7,.map (some p)),(48,ptrV RR 0)]/\Sat W0 [blkF x.ad [NW x.par,intV x.kids,.map (some x.mw),.map (some x.ml),x.ov,.map (some x.mv),.map (some x.ms)],WI Xo x.mw RR (Hv x.writes) dn cur left,Q4 Xo x.ml (Hv x.logs),rowT VL x.ov x.order,Q4 Xo x.mv (Hv x.vals),Q4 Xo x.ms (SM x.li),Xw liT x.li,Xw ZM (QN C.all i none),Q4 Xo p (Bu g),H,F]/\(HasR x l k dn g)) (L0:=[(1,_),(7,_),(48,_)]) (left0) (VG U U U) ⟨_,_,_,BE l l.length,rfl,rfl,R.pick [0,1,2,3,4,5,6,7,8,9,10] U,HasR.start⟩ ?_;rintro _ _ aj ⟨dn,cur,left,g,rfl,rfl,S,c⟩;refine Qe<|Qa<|JA 1 S keysStr.inj U U U (λA=> ?_) (λq v9 left2 wN a8 V ae f=> ?_)
 ·refine Qr U U U<|Qf<|Qc<|Qe<|QM U<|QQ<|Qp<|Qp<|Qy<|Qc<|Qe ?_;have a9:=Wh (S.pick [1,0,2,3,4,5,6,7,8,9,10] U);have aa:=ZD b (a9.pick [1,0,2,3,4,5,6,7,8,9,10] U);refine Qa<|Qb U U<|Qw cal_179 U (qc1 (aa.sp [1] U)) U ?_;rintro _ ak ⟨rfl,B⟩;replace B:=B.jn U U;refine Qf<|Qc<|Qe<|Qa<|Qb U U<|Qw AU U (kd_sp (B.sp [] U) U) U ?_;rintro _ al ⟨ck,rfl,D⟩;replace D:=D.jn U U;have hK:=Sat.fold (As:=[Q6 ck [.map (some p)],Q4 Xo p (Bu (RB g))]) (D.pick [0,1,2,3,4] U);have r:=hK.sp [0] U;refine Qw AV U (M9 r AG (itS ck p (Bu (RB g))) (λks h=>by have :=c.len (K.wr b) h;omega)) U ?_;rintro _ am ⟨ns,E,n⟩;replace n:=n.jn U U;clear r;clear hK;obtain⟨an,cn,ab,_⟩:=n.own_shape 0 rfl;obtain rfl:=ab;refine Qd U U<|Qf<|Qc<|Qh [4] U<|Qu<|QJ (.inr U) U U ?_;have ap:=c.len (K.wr b) (Came.of_all E);have aq:=Hc ns;exact⟨_,rfl,⟨an,_,cn⟩,_,rfl,(by rw[Int.add_mul];omega),(λe=>by have ac:=a4 e;subst ac;exact c.present A E),c.short a5 (K.kw b) E,n.pick [0,2,4] U⟩
 dsimp only[List.set]at f;obtain⟨s,hs,rfl⟩:=qbo V;refine Qr U U U<|Qf<|Qc<|Qe<|Xm U<|Qt<|Qc<|Qx<|Qe<|Qa<|Jc 1 f U V U U<|Qr U U U<|Qr U U U<|Qd U U<|Qd U U<|Qf<|Qc<|Qe<|Qa<|Qb U U<|Qb U U<|Qw qfj U (hpx (f.sp [] U) q k) U ?_;rintro _ ar ⟨rfl,o⟩;replace o:=o.jn U U;clear f;refine Qf<|Qc<|Qh [48,7,1,10,11,56] U<|QR U (λG=> ?_) (λG=> ?_)
 ·have I:Lib.hasPrefix q k=true:=G;refine Qa<|Qb U U<|Qb U U<|Qb U U<|KE U U U<|QT (k:=q) (v:= .bool (decide (s≠[]))) 8 o keysStr underlying146 U U U U ?_;intro au J;dsimp only[List.set]at J;rw[Oa]at J;exact Qf (Qm (Q5 (L1:=[(1,_),(7,_),(48,_)]) (VG U U U) (k1:=left2) (by omega) ⟨_,_,_,_,rfl,rfl,J.pick [0,1,2,3,4,5,6,7,8,9,10] U,c.yes hs I⟩))
 have I:Lib.hasPrefix q k=false:=by simpa using G
 exact Qt (Qm (Q5 (L1:=[(1,_),(7,_),(48,_)]) (VG U U U) (k1:=left2) (by omega) ⟨_,_,_,_,rfl,rfl,o.pick [0,1,2,3,4,5,6,7,8,9,10] U,c.no I⟩))
