/- cells: sees, open, note -/
import Derived.Test.YtifaibmhinlcfaaGreatDoorLv29
import Derived.Test.YtifaibmhinlcfaaGreatDoorLv1
set_option linter.unusedSectionVars false
set_option linter.unusedVariables false
set_option maxRecDepth 100000
namespace Go.Proofs.YtifaibmhinlcfaaGreatDoor
open Go.RowKit M Proofs.Tryz
variable [Inhabited SlW]
variable {C:CeD} {T0:Int→Option OneD} {bk c:Nat} {i id last:Int} {k:Bs} {l:List CRd} {w:World} {x x':OneD}
def FN (x:OneD) (k:Bs):Bool:=x.par.isSome&&(x.writes k).isNone&&(x.vals k).isNone
noncomputable def CeD.up (C:CeD) (i:Int) (x:OneD):CeD:={C with all:=QN C.all i (some x)}
def AskR (C:CeD) (T:Nodes) (i:Int) (x:OneD) (k:Bs) (x':OneD):Prop:=(FN x k=false/\x'=x)\/(FN x k=true/\ ∃n s ov,i≠0/\T i=some n/\SeesR C T k n.par s/\x'={x with ov:=ov,order:=x.order++[rdC k s],vals:=QN x.vals k (some s)})
noncomputable def Ye (x:OneD) (k v:Bs):OneD:={x with writes:=QN x.writes k (if x.par.isNone=true/\v=[]then none else some v)}
theorem AskR.ad {T:Nodes} (h:AskR C T i x k x'):x'.ad=x.ad/\x'.par=x.par/\x'.kids=x.kids:=by
  rcases h with⟨_,rfl⟩ | ⟨_,_,_,_,_,_,_,rfl⟩<;> exact⟨rfl,rfl,rfl⟩
theorem CeW.ask {T:Nodes} (h:CeW C T) (b:C.all i=some x) (a:AskR C T i x k x'):CeW (C.up i x') T:=h.set b a.ad.1 a.ad.2.1 a.ad.2.2
theorem CeW.put {T:Nodes} {v:Bs} (h:CeW C T) (a:C.all i=some x):CeW (C.up i (Ye x k v)) T:=h.set a U U U
theorem MV (h:x.par=none):FN x k=false:=by unfold FN;rw[h];rfl
theorem TE {T:Nodes} {F:Th} (H:Sat w [Xw ZM C.all,F]) (n:CeW C T) (I:TrI T last) (J:C.all i=some x) (k:Bs):
    Calls prog 100 #[ptrV x.ad 0,strV k] w (Ret λv w'=> ∃s,v=strV s/\SeesR C T k i s/\Sat w' [Xw ZM C.all,F]):=by
 refine Qn func100 U ntmps100 U ?_;refine Qe<|Qa<|Qd U U<|Qf<|Qc<|Qe<|Qx ?_;refine QU (λK0 E0 W0=> ∃(oo:Option OneD) (mm:Nat),K0=mm/\E0=[(0,ptO OneD.ad oo),(1,strV k)]/\Sat W0 [Xw ZM C.all,F]/\(oo=none->SeesR C T k i [])/\(∀y,oo=some y-> ∃j,C.all j=some y/\mm=j.toNat+1/\ ∀s,SeesR C T k j s->SeesR C T k i s)) (L0:=[(0,_),(1,_)]) (i.toNat+1) (D0 U U) ⟨some x,i.toNat+1,rfl,rfl,H,λe=>(by cases e),λy e=>by cases e;exact⟨i,J,rfl,λ_ q=>q⟩⟩ ?_;rintro _ _ O ⟨oo,mm,rfl,rfl,t,o,p⟩;refine Qe<|Qe<|Qa<|Qb U U ?_;rcases h:oo with _ | y
 ·exact Z7 underlying130 U U U (Qf (Qc (QM U (QQ (Qp (Qp (Qy (Qc (Qe (Qa (Qd U U (Qf (Qc (Qu (QJ (.inr U) U U (⟨_,U,[],U,o h,t.pick [0,1] U⟩))))))))))))))))
 refine Zi underlying130 U U U<|Qf<|Qc<|Xm U<|Qt<|Qc<|Qe<|Qx<|Qe<|Qe ?_;obtain⟨j,c,P,m⟩:=p y h;have f:=Zz (t.pick [0,1] U) c;refine Qa<|Qb U U<|Qj U U<|Qg U Uh U<|Qo U JX (f.cellF 0 U U) U<|Qb U U ?_;rcases a:y.writes k with _ | vW
 ·refine Xn (k:=k) 1 f keysStr underlying61 U U U R5 (u:=strV []) (g:=false) (by rw[Yr a];rfl) (by rw[Yr a];rfl) U ?_;refine Qb U U<|Qr U U U<|Qr U U U<|Qd U U<|Qd U U<|Qf<|Qc<|Qh [1,0,5,6] U<|Qe<|Qa<|Qb U U<|Qf<|Qc<|QR U (λA=> ?_) (λA=> ?_)
  ·exact absurd A (by decide)
  refine Qt<|Qc<|Qe<|Qa<|Qb U U<|Qj U U<|Qg U GO U<|Qo U JX (f.cellF 0 U U) U<|Qb U U ?_;rcases b:y.vals k with _ | vV
  ·refine Xn (k:=k) 4 f keysStr underlying61 U U U R5 (u:=strV []) (g:=false) (by rw[Yr b];rfl) (by rw[Yr b];rfl) U ?_;refine Qb U U<|Qr U U U<|Qr U U U<|Qd U U<|Qd U U<|Qf<|Qc<|Qh [1,0,7,8] U<|Qe<|Qa<|Qb U U<|Qf<|Qc<|QR U (λB=> ?_) (λB=> ?_)
   ·exact absurd B (by decide)
   refine Qt<|Qm<|Qc<|Qa<|Qb U U<|Qj U U<|Qg U Ww U<|Qo U Ji (f.cellF 0 U U) U<|Qd U U<|Qf ?_;have D:=ZD c (f.pick [0,1,2,3,4,5,6,7,8] U);by_cases d:j=0
   ·have r:=n.root (d▸c);exact Q5 (L1:=[(0,_),(1,_)]) (D0 U U) (k1:=0) (by omega) ⟨none,0,rfl,by rw[r];rfl,D.pick [0,1] U,λ_=>m _ (by subst d;exact .root c a b),λy e=>by cases e⟩
   ·obtain⟨nd,l⟩:=n.node c;obtain⟨z,K,r⟩:=n.up d l c;have L:=I.par l d;exact Q5 (L1:=[(0,_),(1,_)]) (D0 rfl rfl) (k1:=nd.par.toNat+1) (by omega) ⟨some z,_,rfl,by rw[r];rfl,D.pick [0,1] rfl,λe=>(by cases e),λy e=>by cases e;exact⟨nd.par,K,rfl,λs q=>m s (.up d c a b l q)⟩⟩
  refine Xn (k:=k) 4 f keysStr underlying61 U U U R5 (u:=strV vV) (g:=true) (by rw[Jx b];rfl) (by rw[Jx b];rfl) U ?_;refine Qb U U<|Qr U U U<|Qr U U U<|Qd U U<|Qd U U<|Qf<|Qc<|Qh [1,0,7,8] U<|Qe<|Qa<|Qb U U<|Qf<|Qc<|QR U (λE=> ?_) (λE=> ?_)
  ·refine Qe<|Qa<|Qb U U<|Qd U U<|Qf<|Qc<|Qu<|Q1<|Qq<|Qq<|Q1<|Qq<|QJ (.inr U) U U ?_;have M:=ZD c (f.pick [0,1,2,3,4,5,6,7,8] U);exact⟨_,U,_,U,m _ (.rd c a b),M.pick [0,1] U⟩
  exact absurd E (by decide)
 refine Xn (k:=k) 1 f keysStr underlying61 U U U R5 (u:=strV vW) (g:=true) (by rw[Jx a];rfl) (by rw[Jx a];rfl) U ?_;refine Qb U U<|Qr U U U<|Qr U U U<|Qd U U<|Qd U U<|Qf<|Qc<|Qh [1,0,5,6] U<|Qe<|Qa<|Qb U U<|Qf<|Qc<|QR U (λG=> ?_) (λG=> ?_)
 ·refine Qe<|Qa<|Qb U U<|Qd U U<|Qf<|Qc<|Qu<|Qq<|Q1<|Qq<|Qq<|Q1<|Qq<|QJ (.inr U) U U ?_;have N:=ZD c (f.pick [0,1,2,3,4,5,6,7,8] U);exact⟨_,U,_,U,m _ (.wr c a),N.pick [0,1] U⟩
 exact absurd G (by decide)
theorem qe0 {F:Th} (p:Sat w [Xw ZM T0,F]) (f:T0 i=some x) (k:Bs):
    Calls prog 138 #[ptrV x.ad 0,strV k] w (Ret λv w'=>v= .bool (FN x k)/\Sat w' [Xw ZM T0,F]):=by
 refine Qn func138 U ntmps138 U ?_;refine Qe<|Qa<|Qd U U<|Qf<|Qc<|Qe ?_;have d:=Zz (p.pick [0,1] U) f;refine Qa<|Qb U U<|Qj U U<|Qg U Uh U<|Qo U JX (d.cellF 0 U U) U<|Qb U U ?_;rcases b:x.writes k with _ | vW
 ·refine Xn (k:=k) 1 d keysStr underlying61 U U U R5 (u:=strV []) (g:=false) (by rw[Yr b];rfl) (by rw[Yr b];rfl) U ?_;refine Qb U U<|Qr U U U<|Qr U U U<|Qd U U<|Qd U U<|Qf<|Qc<|Qh [1,0,4,6] U<|Qe<|Qa<|Qb U U<|Qj U U<|Qg U GO U<|Qo U JX (d.cellF 0 U U) U<|Qb U U ?_;rcases a:x.vals k with _ | vV
  ·refine Xn (k:=k) 4 d keysStr underlying61 U U U R5 (u:=strV []) (g:=false) (by rw[Yr a];rfl) (by rw[Yr a];rfl) U ?_;refine Qb U U<|Qr U U U<|Qr U U U<|Qd U U<|Qd U U<|Qf<|Qc<|Qh [0,4,6,8] U<|Qe<|Qa<|Qb U U<|Qj U U<|Qg U Ww U<|Qo U Ji (d.cellF 0 U U) U ?_;rcases c:x.par with _ | pa
   ·refine Z7 underlying130 U U U<|Qb U U<|Qi U U U U<|Qi U U U U<|Q9 U U U U<|Qb U U<|Qi U U U U<|Qi U U U U<|Q9 U U U U<|Qd U U<|Qf<|Qc<|Qh [4] U<|Qu<|QJ (.inr U) U U ?_;have q:=ZD f (d.pick [0,1,2,3,4,5,6,7,8] U);exact⟨_,rfl,by simp [FN,b,a,c],q.pick [0,1] U⟩
   refine Zi underlying130 U U U<|Qb U U<|Qk U U U<|Qb U U<|Qk U U U<|QX U U<|QF U U U U<|Qb U U<|X9 36 U (λh=> ?_) (λh=> ?_)
   ·refine Qk U U h<|Qb U U<|Qk U U h<|QX U U<|QF U h U U<|Qd U U<|Qf<|Qc<|Qh [4] U<|Qu<|QJ (.inr U) U U ?_;have r:=ZD f (d.pick [0,1,2,3,4,5,6,7,8] U);exact⟨_,rfl,by simp [FN,b,a,c],r.pick [0,1] U⟩
   exact absurd h (by decide)
  refine Xn (k:=k) 4 d keysStr underlying61 U U U R5 (u:=strV vV) (g:=true) (by rw[Jx a];rfl) (by rw[Jx a];rfl) U ?_;refine Qb U U<|Qr U U U<|Qr U U U<|Qd U U<|Qd U U<|Qf<|Qc<|Qh [0,4,6,8] U<|Qe<|Qa<|Qb U U<|Qj U U<|Qg U Ww U<|Qo U Ji (d.cellF 0 U U) U ?_;rcases c:x.par with _ | pa
  ·refine Z7 underlying130 U U U<|Qb U U<|Qi U U U U<|Qi U U U U<|Q9 U U U U<|Qb U U<|Qi U U U U<|Qi U U U U<|Q9 U U U U<|Qd U U<|Qf<|Qc<|Qh [4] U<|Qu<|QJ (.inr U) U U ?_;have s:=ZD f (d.pick [0,1,2,3,4,5,6,7,8] U);exact⟨_,rfl,by simp [FN,b,a,c],s.pick [0,1] U⟩
  refine Zi underlying130 U U U<|Qb U U<|Qk U U U<|Qb U U<|Qk U U U<|QX U U<|QF U U U U<|Qb U U<|X9 36 U (λj=> ?_) (λj=> ?_)
  ·refine Qk U U j<|Qb U U<|Qk U U j<|QX U U<|QF U j U U<|Qd U U<|Qf<|Qc<|Qh [4] U<|Qu<|QJ (.inr U) U U ?_;have t:=ZD f (d.pick [0,1,2,3,4,5,6,7,8] U);exact⟨_,rfl,by simp [FN,b,a,c],t.pick [0,1] U⟩
  exact absurd j (by decide)
 refine Xn (k:=k) 1 d keysStr underlying61 U U U R5 (u:=strV vW) (g:=true) (by rw[Jx b];rfl) (by rw[Jx b];rfl) U ?_;refine Qb U U<|Qr U U U<|Qr U U U<|Qd U U<|Qd U U<|Qf<|Qc<|Qh [1,0,4,6] U<|Qe<|Qa<|Qb U U<|Qj U U<|Qg U GO U<|Qo U JX (d.cellF 0 U U) U<|Qb U U ?_;rcases a:x.vals k with _ | vV
 ·refine Xn (k:=k) 4 d keysStr underlying61 U U U R5 (u:=strV []) (g:=false) (by rw[Yr a];rfl) (by rw[Yr a];rfl) U ?_;refine Qb U U<|Qr U U U<|Qr U U U<|Qd U U<|Qd U U<|Qf<|Qc<|Qh [0,4,6,8] U<|Qe<|Qa<|Qb U U<|Qj U U<|Qg U Ww U<|Qo U Ji (d.cellF 0 U U) U ?_;rcases c:x.par with _ | pa
  ·refine Z7 underlying130 U U U<|Qb U U<|Qi U U U U<|Qi U U U U<|Q9 U U U U<|Qb U U<|Qi U U U U<|Qi U U U U<|Q9 U U U U<|Qd U U<|Qf<|Qc<|Qh [4] U<|Qu<|QJ (.inr U) U U ?_;have y:=ZD f (d.pick [0,1,2,3,4,5,6,7,8] U);exact⟨_,rfl,by simp [FN,b,a,c],y.pick [0,1] U⟩
  refine Zi underlying130 U U U<|Qb U U<|Qk U U U<|Qb U U<|Qk U U U<|QX U U<|QF U U U U<|Qb U U<|X9 36 U (λl=> ?_) (λl=> ?_)
  ·exact absurd l (by decide)
  refine Qi U U l U<|Qi U U l U<|Q9 U l U U<|Qd U U<|Qf<|Qc<|Qh [4] U<|Qu<|QJ (.inr U) U U ?_;have m:=ZD f (d.pick [0,1,2,3,4,5,6,7,8] U);exact⟨_,rfl,by simp [FN,b,a,c],m.pick [0,1] U⟩
 refine Xn (k:=k) 4 d keysStr underlying61 U U U R5 (u:=strV vV) (g:=true) (by rw[Jx a];rfl) (by rw[Jx a];rfl) U ?_;refine Qb U U<|Qr U U U<|Qr U U U<|Qd U U<|Qd U U<|Qf<|Qc<|Qh [0,4,6,8] U<|Qe<|Qa<|Qb U U<|Qj U U<|Qg U Ww U<|Qo U Ji (d.cellF 0 U U) U ?_;rcases c:x.par with _ | pa
 ·refine Z7 underlying130 U U U<|Qb U U<|Qi U U U U<|Qi U U U U<|Q9 U U U U<|Qb U U<|Qi U U U U<|Qi U U U U<|Q9 U U U U<|Qd U U<|Qf<|Qc<|Qh [4] U<|Qu<|QJ (.inr U) U U ?_;have n:=ZD f (d.pick [0,1,2,3,4,5,6,7,8] U);exact⟨_,rfl,by simp [FN,b,a,c],n.pick [0,1] U⟩
 refine Zi underlying130 U U U<|Qb U U<|Qk U U U<|Qb U U<|Qk U U U<|QX U U<|QF U U U U<|Qb U U<|X9 36 U (λe=> ?_) (λe=> ?_)
 ·exact absurd e (by decide)
 refine Qi U U e U<|Qi U U e U<|Q9 U e U U<|Qd U U<|Qf<|Qc<|Qh [4] U<|Qu<|QJ (.inr U) U U ?_;have o:=ZD f (d.pick [0,1,2,3,4,5,6,7,8] U);exact⟨_,rfl,by simp [FN,b,a,c],o.pick [0,1] U⟩
theorem qe4 {F:Th} (l:Sat w [Xw ZM T0,F]) (m:T0 i=some x) (k s:Bs) (n:x.order.length<=100000000000):
    Calls prog 139 #[ptrV x.ad 0,.agg #[intV 0,strV k,strV s,.slice none 0 0]] w (Ret λv w'=> ∃ov,Sat w' [Xw ZM (QN T0 i (some {x with ov:=ov,order:=x.order++[rdC k s],vals:=QN x.vals k (some s)})),F]):=by
 refine Qn func139 U ntmps139 U ?_;refine Qe<|Qa<|XL l U U U ?_;intro rb o c;replace c:Sat o (Q6 rb [intV 0,strV k,strV s,.slice none 0 0]::_):=c;refine Qf<|Qc<|Qe ?_;have p:=Zz (c.pick [1,0,2] U) m;have d:=p.drew;refine Q7 [0,1,2,3,4,5,6,7,8,9,10] [6,7,10] Z9 (by kernel_rfl) ?_;refine Q3 U U U<|Q3 U U U<|QP U U U<|QG U U U UO<|Q0 U U U (Ql U Dc (d.cellF 0 U U))<|Q0 U U U (X5 U LZ Lf (by first | exact d.blk 8 U) (Xk U) U) ?_
 refine QO U U U U U U ?_;refine X8 VL [rdC k s] d U underlying134 EV U U U U (by rfl) rfl ?_;intro t u e;refine Xh (.skip (by kernel_rfl) (.cons (.inl ⟨rfl,(Ql U Dc (e.cellF 1 U U))⟩) .nil)) ?_;refine QO U U U U U U ?_;refine Zx VL 4 e U U U (e.rd 0 U (by simp)) underlying134 underlying134 (by intro k q;cases q) EW U (by simp;omega) U (by simp;omega) ?_;intro v5 y f;dsimp only[List.set]at f;have h:v5.oneCell'=true:=f.own_one 4 U;refine Xh (Xd (by kernel_rfl)) ?_;refine QP U U U<|QG U U U UO<|QO U U U U U U ?_
 (refine KC f U U qbi (by assumption) (i:=1) U (Xk U) ?_)
 intro z g;dsimp only[List.set]at g;refine Zc (Xd (by kernel_rfl)) ?_;refine VC.nil (Qc (Qh [0,3] U (Qe (Qa (Qg U Tp U (Qo U QL (g.cell 9 U U) U (Xg U U U (Qf (Qc (Qs U (λj=> ?_) (λj=> ?_)))))))))))
 ·have b:=g.drew;refine Q7 [0,1,2,3,4,5,6,7,8] [8] Z9 (by kernel_rfl) ?_;refine Q3 U U U<|QP U U U<|QG U U U GO<|Q0 U U U (Ql U JX (b.cellF 1 U U))<|QG U U U To<|Q0 U U U (Ql U XT (b.cell 9 U U))<|QG U U U Ff<|Q0 U U U (Ql U XT (b.cell 9 U U))<|QO U U U U U U ?_;refine QT (k:=k) (v:=strV s) 5 b keysStr underlying61 U U U U ?_;intro r a;dsimp only[List.set]at a;rw[DJ]at a;refine Zc (Xd (by kernel_rfl)) ?_;exact VC.nil (Zb (.inl U) U (⟨_,U,_,(Y6 (x:={x with ov:=_,order:=x.order++[rdC k s],vals:=QN x.vals k (some s)}) (a.pick [1,2,3,4,5,6,7,8,10] U))⟩))
 exact absurd j (by omega)
theorem ask_sp {T:Nodes} {F:Th} (q:Sat w [Xw ZM C.all,F]) (f:CeW C T) (r:TrI T last) (b:C.all i=some x) (g:x.order.length<=100000000000) (k:Bs):
    Calls prog 99 #[ptrV x.ad 0,strV k] w (Ret λv w'=> ∃x',AskR C T i x k x'/\Sat w' [Xw ZM (QN C.all i (some x')),F]):=by
 refine Qn func99 U ntmps99 U ?_;refine Qe<|Qa<|Qb U U<|Qb U U<|Qw cal_138 U (qe0 (q.sp [0] U) b k) U ?_;rintro _ z ⟨rfl,c⟩;replace c:=c.jn U U;refine Qf<|Qc<|QR U (λh=> ?_) (λh=> ?_)
 ·have a:FN x k=true:=h;have j:x.par≠none:= λe=>by rw[MV e]at a;cases a
  have o:i≠0:= λe=>j (f.root (e▸b));obtain⟨nd,d⟩:=f.node b;obtain⟨y,t,l⟩:=f.up o d b;refine Qa<|Qb U U<|Qb U U<|Qb U U<|Qj U U<|Qg U Ww U ?_;refine Qo U Ji (show _=some (ptrV y.ad 0)by have p:=HZ c 0 U b 0 U;rw[l]at p;exact p) U ?_;refine Qb U U<|Qw PS U (TE (c.sp [0] U) f r t k) U ?_;rintro _ A ⟨s,rfl,u,m⟩;replace m:=m.jn U U;refine Zj U NY Of qar U U<|Qw AM U (qe4 (m.sp [0] U) b k s g) U ?_;rintro _ B ⟨ov,n⟩;replace n:=n.jn U U;exact Qf (Zb (.inl U) U (⟨_,U,_,.inr ⟨a,nd,s,ov,o,d,u,U⟩,n.pick [0,1] U⟩))
 have a:FN x k=false:=by simpa using h
 refine Qt<|Zb (.inl U) U ?_;exact⟨_,rfl,x,.inl ⟨a,rfl⟩,by rw[Wr b];exact c.pick [0,1] U⟩
theorem qfc {T:Nodes} {F:Th} (a:Sat w [Y8 c C,F]) (j:CeW C T) (l:TrI T last) (d:C.all id=some x) (e:x.order.length<=100000000000) (k:Bs):
    Calls prog 50 #[ptrV c 0,intV id,strV k] w (Ret λv w'=> ∃x' s,AskR C T id x k x'/\v=strV s/\SeesR (C.up id x') T k id s/\Sat w' [Y8 c (C.up id x'),F]):=by
 replace a:=WT a;refine Qn func50 U ntmps50 U ?_;refine Qe<|Qa<|Qd U U<|Qf<|Qc<|Qe<|Qa<|Qb U U<|Qj U U<|Qg U WQ U<|Qo U Yp (a.cell 0 U U) U<|Qb U U<|Xf (k:=id) 1 a keysInt underlying131 U U U Hu (u:=(ptrV x.ad 0)) (XH d) U<|Qd U U<|Qf<|Qc<|Qh [2,6,7] U<|Qe<|Qe<|Qa<|Qb U U<|XG underlying130 U U U<|Qf<|Qc<|QM U<|Qt<|Qc<|Qe<|Qa<|Qb U U<|Qb U U<|Qw cal_99 U (ask_sp (a.sp [2] U) j l d e k) U ?_;rintro _ o ⟨x',f,g⟩;replace g:=g.jn U U;have b:=f.ad.1;have h:(C.up id x').all id=some x':=Qv;refine Qf<|Qc<|Qe<|Qa<|Qb U U<|Qb U U ?_;refine Qw PS U ((show Calls _ _ #[ptrV x.ad 0,strV k] _ _ by rw[<-b];exact TE (C:=C.up id x') (g.sp [0] U) (j.ask d f) l h k)) U ?_;rintro _ w2 ⟨s,rfl,n,i⟩;replace i:=i.jn U U;refine Qd U U<|Qf<|Qc<|Qh [6] U<|Qu<|QJ (.inr U) U U ?_;have m:=(i.pick [0,1,2,3] U).reorder [1,2,0,3] U;rw[<-WK (k:=id) (y:=x') d b]at m;exact⟨_,U,x',s,f,U,n,WR (C:=C.up id x') m⟩
theorem Ap {F:Th} (h:Sat w [Xw ZM T0,F]) (j:T0 i=some x) (k s:Bs):
    Calls prog 94 #[ptrV x.ad 0,strV k,strV s] w (Ret λv w'=>Sat w' [Xw ZM (QN T0 i (some (Ye x k s))),F]):=by
 refine Qn func94 U ntmps94 U ?_;refine Qe<|Qe ?_;have b:=Zz (h.pick [0,1] U) j;refine Qa<|Qb U U<|Qj U U<|Qg U Ww U<|Qo U Ji (b.cellF 0 U U) U ?_;rcases a:x.par with _ | pa
 ·refine Ya underlying130 U U U<|Qb U U<|Qk U U U<|Qb U U<|Qk U U U<|YB U U U<|QF U U U U<|Qf<|Qc<|Qh [2,1,0,14] U<|Qs U (λc=> ?_) (λc=> ?_)
  ·have d:s=[]:=c;refine Qe<|Qa<|Qb U U<|Qj U U<|Qg U Uh U<|Qo U JX (b.cellF 0 U U) U<|Qb U U<|Wf (k:=k) 1 b keysStr underlying61 U U U U ?_;intro l e;dsimp only[List.set]at e;rw[stG_del]at e;refine Qf<|Qc<|Qu<|Qq<|Zb (.inr U) U ?_;exact⟨_,rfl,by unfold Ye;rw[if_pos ⟨by rw[a];rfl,d⟩];exact Y6 (x:={x with writes:=_}) (e.pick [0,1,2,3,4,5,6,7,8] U)⟩
  have d: ¬s=[]:=c;refine Qt<|Qc<|Qa<|Qb U U<|Qj U U<|Qg U Uh U<|Qo U JX (b.cellF 0 U U) U<|Qb U U<|Qb U U<|QT (k:=k) (v:=strV s) 1 b keysStr underlying61 U U U U ?_;intro m f;dsimp only[List.set]at f;rw[DJ]at f;refine Qf<|Zb (.inl U) U ?_;exact⟨_,rfl,by unfold Ye;rw[if_neg (λq=>d q.2)];exact Y6 (x:={x with writes:=_}) (f.pick [0,1,2,3,4,5,6,7,8] U)⟩
 refine XG underlying130 U U U<|Qb U U<|Qi U U U U<|Qi U U U U<|Q9 U U U U<|Qf<|Qc<|Qh [2,1,0,14] U<|QM U<|Qt<|Qc<|Qa<|Qb U U<|Qj U U<|Qg U Uh U<|Qo U JX (b.cellF 0 U U) U<|Qb U U<|Qb U U<|QT (k:=k) (v:=strV s) 1 b keysStr underlying61 U U U U ?_;intro n g;dsimp only[List.set]at g;rw[DJ]at g;refine Qf<|Zb (.inl U) U ?_;exact⟨_,rfl,by unfold Ye;rw[if_neg (by rw[a];simp)];exact Y6 (x:={x with writes:=_}) (g.pick [0,1,2,3,4,5,6,7,8] U)⟩
theorem qe9 {F:Th} (a:Sat w [Y8 c C,F]) (b:C.all id=some x) (k s:Bs):
    Calls prog 47 #[ptrV c 0,intV id,strV k,strV s] w (Ret λv w'=>Sat w' [Y8 c (C.up id (Ye x k s)),F]):=by
 replace a:=WT a;refine Qn func47 U ntmps47 U ?_;refine Qe<|Qa<|Qb U U<|Qj U U<|Qg U WQ U<|Qo U Yp (a.cell 0 U U) U<|Qb U U<|Xf (k:=id) 1 a keysInt underlying131 U U U Hu (u:=(ptrV x.ad 0)) (XH b) U<|Qd U U<|Qf<|Qc<|Qh [3,2,8] U<|Qe<|Qa<|Qb U U<|Zi underlying130 U U U<|Qf<|Qc<|Xm U<|Qa<|Qb U U<|Qb U U<|Qb U U<|Qw qff U (Ap (a.sp [2] U) b k s) U ?_;rintro _ f d;replace d:=d.jn U U;refine Qf<|Zb (.inl U) U ?_;have e:=(d.pick [0,1,2,3] U).reorder [1,2,0,3] U;rw[<-WK (k:=id) (y:=Ye x k s) b U]at e;exact⟨_,U,WR (C:=C.up id (Ye x k s)) e⟩
theorem Sat.one {A:Th} {G:Nat->Prop} (h:A.at_ w G):Sat w [A]:=⟨_,G,λ_=>False,rfl,λ_ _ h=>h,h,rfl⟩
theorem I9 (a:T0 i=some x) (b:x.order.length<=9223372036854775807):Ent (Xw ZM T0) (RdL VL x.ov x.order):= λ{w G} h=>
  Ent.sat (Ja (C:=VL) b) (Zz (Sat.one h) a) 3 U
theorem Vo {As:List Th} {a:Nat} (b:Sat w As) (j:Nat) (c:As[j]? =some (Xw ZM T0)) (d:T0 i=some x) (e:x.par=some a):w.cell? ⟨x.ad,0,none⟩=some (ptrV a 0):=by
  have h:=HZ b j c d 0 U;rw[e]at h;exact h
theorem IL {T:Nodes} {F:Th} {nd:NodeD} (j:Sat w [Q6 bk [ptrV x.ad 0],Xw ZM C.all,F]) (f:CeW C T) (l:TrI T last) (g:C.all i=some x) (m:i≠0) (d:T i=some nd) (k s:Bs) (t:SlD):
    Calls prog 140 #[.agg #[intV 0,strV k,strV s,U5 t],ptrV bk 0] w (Ret λv w'=> ∃u,SeesR C T k nd.par u/\v= .bool (decide (u≠s))/\Sat w' [Q6 bk [ptrV x.ad 0],Xw ZM C.all,F]):=by
 obtain⟨y,n,e⟩:=f.up m d g;refine Qn func140 U ntmps140 U ?_;refine Qe<|Qa<|XL j U U U ?_;intro rb o b;replace b:Sat o (Q6 rb [intV 0,strV k,strV s,U5 t]::_):=b;refine Qd U U<|Qf<|Qc<|Qe<|Qe<|Qa<|Qg U Tp U<|Qo U QL (b.cell 0 U U) U<|Xg U U U<|Qf<|Qc<|Qs U (λh=> ?_) (λh=> ?_)
 ·refine Qe ?_;have a:=b.drew;refine Q7 [0,1,2,3,4,5,7,8,6,9,10] [6] Z9 (by kernel_rfl) ?_;refine Q0 U U U (Ql U Ji (a.cell 1 U U))<|QP U U U<|QG U U U Ww<|Q0 U U U (Ql U Ji (Vo a 2 U g e))<|QG U U U To<|Q0 U U U (Ql U XT (a.cell 0 U U))<|QG U U U Ff<|Q0 U U U (Ql U XT (a.cell 0 U U))<|QO U U U U U U ?_;refine Qw PS U (TE (a.sp [2] U) f l n k) U ?_;rintro _ q ⟨u,rfl,p,c⟩;replace c:=c.jn U U;refine Xh (.cons (.inl ⟨rfl,(Ql U XT (c.cell 1 U U))⟩) (Xd (by kernel_rfl))) ?_;refine Xi U U U (λ_=>(Vw U U)) ?_;exact Zd U U U (VC.nil (Qc (Qh [1,2,3] U (Qu (Qq (QJ (.inr U) U U (⟨_,U,u,p,U,c.pick [2,0,3] U⟩)))))))
 exact absurd h (by omega)
theorem cixf_sp {T:Nodes} {F:Th} {nd:NodeD} (A:Sat w [Q6 bk [ptrV x.ad 0],Xw ZM C.all,F]) (G:CeW C T) (H:TrI T last) (I:C.all i=some x) (J:i≠0) (k:T i=some nd) {lv:Value} (m: ∀z∈l,z.1=0) (B:Ent (Xw ZM C.all) (RdL VL lv l)):
    Calls prog 196 #[lv,.func (.func 140) #[] #[ptrV bk 0]] w (Ret λv w'=> ∃r:Int,v=intV r/\(0<=r↔ ¬ ∀z∈l,SeesR C T z.2.1 nd.par z.2.2.1)/\Sat w' [Q6 bk [ptrV x.ad 0],Xw ZM C.all,F]):=by
 obtain⟨ao,cap,rfl,D⟩:=(B.sat A 1 rfl).shape;refine Qn func196 U ntmps196 U ?_;refine Qe<|Qa<|Qd U U<|Qf<|Qc<|Qe<|Qe<|Qa<|Qb U U<|Xl underlying134 U U<|Qb U U<|Qf<|Qc<|Qx ?_;refine QU (λK0 E0 W0=> ∃(j:Nat),K0=l.length -j/\E0=[(0,.slice ao l.length cap),(1,.func (.func 140) #[] #[ptrV bk 0]),(7,intV (l.length:Int)),(8,intV (j:Int))]/\Sat W0 [Q6 bk [ptrV x.ad 0],Xw ZM C.all,F]/\(j<=l.length)/\(∀q z,q<j->l[q]? =some z->SeesR C T z.2.1 nd.par z.2.2.1)) (L0:=[(0,_),(1,_),(7,_),(8,_)]) (l.length -0) (Rs U U U U) ⟨0,rfl,rfl,A,by omega,by omega⟩ ?_;rintro _ _ N ⟨j,rfl,rfl,n,hi,d⟩;refine Qe<|Qa<|Xa U U U<|Qf<|Qc<|Qe<|Qs U (λK=> ?_) (λK=> ?_)
 ·obtain⟨y,a⟩: ∃y,l[j]? =some y:=⟨_,XQ (by omega)⟩;obtain⟨L,g,c,t9⟩:=y;obtain rfl:L=0:=m _ (List.mem_of_getElem? a);obtain⟨b,off,rfl,M⟩:=(B.sat n 1 rfl).get a;refine Qt<|Qc<|Qe<|Qx<|Qe<|Qa<|Qb U U<|Qd U U<|Qf<|Qc<|Qe<|Qa<|Qb U U<|Qb U U<|Qb U U<|Xt j U U (by first | rfl | omega) (by omega) es_134 U ?_
  refine Ha U LZ Lf (vs:=crdV (0,g,c,t9)) M U<|VU U cal_140 U (IL (n.sp [0,1] U) G H I J k g c t9) U ?_;rintro e O ⟨_,rfl,u,E,rfl,h⟩;refine⟨_,rfl, ?_⟩;replace h:=h.jn U U;refine Qf<|Qc<|Qh [8,7,1,0,5,16] U<|Qs U (λo=> ?_) (λo=> ?_)
  ·have p:u≠c:=o;refine Qe<|Qa<|Qb U U<|Qd U U<|Qf<|Qc<|Qu<|Q1<|Qq<|Qq<|Q1<|Qq<|QJ (.inr U) U U ?_;exact⟨_,rfl,_,rfl,⟨λ_ q=>p (E.det (q (0,g,c,t9) (List.mem_of_getElem? a))),λ_=>by omega⟩,h.pick [0,1,2] U⟩
  have s:u=c:=Decidable.not_not.1 o;refine Qt<|Qm<|Qc<|Qa<|QE U U (by omega) (by omega) U ?_;refine Qb U U<|Qf ?_;exact Q5 (L1:=[(0,_),(1,_),(7,_),(8,intV ((j+1:Nat):Int))]) (Rs U U U U) (k1:=l.length -(j+1)) (by omega) ⟨j+1,rfl,rfl,h.pick [0,1,2] U,by omega,λq z t f=>by by_cases e:q=j;(subst e;rw[a]at f;cases f;show SeesR C T g nd.par c;rw[<-s];exact E);exact d q z (by omega) f⟩
 refine QQ<|Qp<|Qp<|Qy<|Qc<|Qe<|Qa<|Qd U U<|Qf<|Qc<|Qu<|QJ (.inr U) U U ?_;exact⟨_,rfl,_,rfl,⟨λq=>absurd q (by omega),λq=>absurd (λz f=>by obtain⟨q,t⟩:=List.mem_iff_getElem?.1 f;exact d q z (by have :=(Za t).1;omega) t) q⟩,n.pick [0,1,2] rfl⟩
theorem cctf_sp {T:Nodes} {F:Th} {nd:NodeD} (d:Sat w [Q6 bk [ptrV x.ad 0],Xw ZM C.all,F]) (e:CeW C T) (f:TrI T last) (g:C.all i=some x) (h:i≠0) (a:T i=some nd) {lv:Value} (b: ∀z∈l,z.1=0) (j:Ent (Xw ZM C.all) (RdL VL lv l)):
    Calls prog 142 #[lv,.func (.func 140) #[] #[ptrV bk 0]] w (Ret λv w'=> ∃r:Bool,v= .bool r/\(r=true↔ ¬ ∀z∈l,SeesR C T z.2.1 nd.par z.2.2.1)/\Sat w' [Q6 bk [ptrV x.ad 0],Xw ZM C.all,F]):=by
 refine Qn func142 U ntmps142 U ?_;refine Qe<|Qa<|Qd U U<|Qf<|Qc<|Qe<|Qa<|Qb U U<|Qb U U<|Qw cal_196 U (cixf_sp (d.sp [0,1] U) e f g h a b j) U ?_;rintro _ m ⟨r,rfl,k,c⟩;replace c:=c.jn U U;exact WU U U U (Qd U U (Qf (Qc (Qu (QJ (.inr U) U U (⟨_,U,_,U,decide_eq_true_iff.trans k,c.pick [0,1,2] U⟩))))))
theorem TK {T:Nodes} {F:Th} {nd:NodeD} (b:Sat w [Y8 c C,F]) (h:CeW C T) (j:TrI T last) (d:C.all id=some x) (l:id≠0) (e:T id=some nd) (m:x.order.length<=100000000000) (f: ∀z∈x.order,z.1=0):
    Calls prog 104 #[ptrV c 0,intV id] w (Ret λv w'=> ∃r:Bool,v= .bool r/\(r=true↔ ∀z∈x.order,SeesR C T z.2.1 nd.par z.2.2.1)/\Sat w' [Y8 c C,F]):=by
 replace b:=WT b;refine Qn func104 U ntmps104 U ?_;refine Qe<|Qa<|Qd U U<|Qf<|Qc<|Qe<|Qa<|Qb U U<|Qj U U<|Qg U WQ U<|Qo U Yp (b.cell 0 U U) U<|Qb U U<|Xf (k:=id) 1 b keysInt underlying131 U U U Hu (u:=(ptrV x.ad 0)) (XH d) U<|Xc b Hu U U ?_;intro bk p n
 (refine QK n U U sz_130 (by rfl) (i:=0) U (by decide) ?_)
 intro w2 a;dsimp only[List.set]at a;refine Qf<|Qc<|Qe<|Qe<|Qa<|Qo U Ji (by first | assumption | exact a.cell 0 U U | exact a.cell 1 U U) U ?_
 refine XG underlying130 U U U<|Qf<|Qc<|Qh [4,5,14] U<|QM U<|Qt<|Qc<|Qe<|Qa<|ZB U U<|Qd U U<|Qf<|Qc<|Qe<|Qa<|Qo U Ji (by first | assumption | exact a.cell 0 U U | exact a.cell 1 U U) U ?_
 refine Qj U U<|Qg U UO U<|Qo U Dc (HZ a 3 U d 4 U) U<|Qb U U<|Qw cal_142 U (cctf_sp (a.sp [0,3] U) h j d l e f (I9 d (by omega))) U ?_;rintro _ q ⟨r,rfl,o,g⟩;replace g:=g.jn U U;refine QX U U<|Qd U U<|Qf<|Qc<|Qh [4] U<|Qu<|QJ (.inr U) U U ?_;exact⟨_,rfl,_,rfl,by rw[Bool.not_eq_true',<-Bool.not_eq_true,o];exact Classical.not_not,WR (g.pick [2,3,1,4] U)⟩
theorem N6 {F:Th} (a:Sat w [Y8 c C,F]) {p:Int} {y:OneD} (f:C.all id=some x) (g:C.all p=some y) (b:x.par=some y.ad) (d:id≠p) (q:0<=y.kids/\y.kids<=100000000000):
    Calls prog 89 #[ptrV c 0,intV id,ptrV x.ad 0] w (Ret λv w'=>Sat w' [Y8 c ⟨C.ma,QN (QN C.all p (some {y with kids:=y.kids -1})) id none⟩,F]):=by
 replace a:=WT a;refine Qn func89 U ntmps89 U ?_;refine Qe<|Qa<|Qb U U<|Qj U U<|Qg U Ww U<|Qo U Ji (Vo a 2 U f b) U ?_;have e:=a;have h:=Zz (e.pick [2,0,1,3] U) g;refine Qj U U<|Qg U Kp U<|Qo U QL (h.cellF 0 U U) U<|H2 U U (by omega) (by omega) U ?_;refine Qj U U<|Qg U Kp U ?_
 (refine KC h U U YD (by rfl) (i:=0) U (Xk U) ?_)
 intro w2 j;dsimp only[List.set]at j;refine Qf<|Qc<|Qh [1,0] U ?_;have l:=Y6 (x:={y with kids:=y.kids -1}) (j.pick [0,1,2,3,4,5,6,7,8,9,10] U)
 refine Qa<|Qb U U<|Qj U U<|Qg U WQ U<|Qo U Yp (l.cell 1 U U) U<|Qb U U<|Wf (k:=id) 2 l keysInt underlying131 U U U U ?_;intro r m;dsimp only[List.set]at m;refine Qf<|Zb (.inl U) U ?_;have o:=Zz (i:=id) (x:=x) (m.pick [0,1,2,3] U) (by rw[Qz d];exact f);have n:=o.pick [8,9,7,10] U;rw[<-WK (k:=p) (y:={y with kids:=y.kids -1}) g U,MM]at n
 exact⟨_,U,WR (C:=⟨C.ma,QN (QN C.all p (some {y with kids:=y.kids -1})) id none⟩) n⟩
