/- cells: askKeys, Keys -/
import Derived.Test.YtifaibmhinlcfaaGreatDoorTr12
import Derived.Test.YtifaibmhinlcfaaGreatDoorLv1
set_option linter.unusedSectionVars false
set_option linter.unusedVariables false
set_option maxRecDepth 100000
namespace Go.Proofs.YtifaibmhinlcfaaGreatDoor
open Go.RowKit M Proofs.Tryz
variable [Inhabited SlW]
variable {C:CeD} {N vb:Nat} {X:Th} {a:TrAd} {id last:Int} {w:World} {x:OneD} {ι:Type}
theorem MA {C:CeD} {T:Nodes} {last:Int} {N:Nat} (c:CeW C T) (d:TrI T last) (e:CeB C T N) (f:N<=1000) (k:Bs): ∀(n:Nat) (i:Int) (x:OneD) (nd:NodeD),i.toNat<=n->C.all i=some x->T i=some nd-> ∀(w:World) (F:Th),Sat w [Xw ZM C.all,F]->Calls prog 126 #[ptrV x.ad 0,strV k] w (Ret λv w'=> ∃(s:SlD) (l:List Bs),v=U5 s/\(l.length:Int)<=(nd.dep+1)*N/\(x.par=none->U1 (λq=>(x.writes q).getD []) k l)/\(∀q∈l,q.length<=10)/\Sat w' [rowT stC (U5 s) l,Xw ZM C.all,F])
  | n,i,x,nd,p,g,a,w,F,b=>qbq b c d e f g a k λj y m r t h o w F b=>by
    cases n with
    | zero=>omega
    | succ n=> exact MA c d e f k n j y m (by omega) h o w F b
def AskL (N:Nat) (nd:NodeD) (x:OneD) (k:Bs) (x':OneD):Prop:=x'=x\/(x.par≠none/\x.li k=none/\ ∃ov s l,((l.length:Int)<=nd.dep*N/\ ∀q∈l,q.length<=10)/\x'={x with ov:=ov,order:=x.order++[(1,k,[],s)],li:=QN x.li k (some (s,l))})
section
variable {C:CeD} {T:Nodes} {N:Nat} {i:Int} {x x':OneD} {k:Bs} {nd:NodeD}
theorem AskL.ad (h:AskL N nd x k x'):x'.ad=x.ad/\x'.par=x.par/\x'.kids=x.kids/\x'.writes=x.writes/\x'.logs=x.logs:=by
  rcases h with rfl | ⟨_,_,_,_,_,_,rfl⟩<;> exact⟨rfl,rfl,rfl,rfl,rfl⟩
theorem AskL.root (h:AskL N nd x k x') (a:x.par=none):x'=x:=by
  rcases h with h | ⟨h,_⟩
  · exact h
  · exact absurd a h
theorem CeB.set (h:CeB C T N) (c:T i=some nd) (o: ∀ks,Came (Hv x'.writes) ks->ks.length<=N) (g: ∀k s l,x'.li k=some (s,l)->(l.length:Int)<=nd.dep*N/\ ∀q∈l,q.length<=10) (d: ∀q,x'.writes q≠none->q.length<=10):CeB (C.up i x') T N:=by
  refine⟨λ{j y} a ks b=> ?_,λ{j y n k s l} a f b=> ?_,h.dep,λ{j y} a q m=> ?_,λ{j y k s l} a b=> ?_⟩
  · have a:QN C.all i (some x') j=some y:=a;by_cases e:j=i
    · subst e;rw[Qv]at a;cases a;exact o ks b
    · rw[Qz e]at a;exact h.wr a ks b
  · have a:QN C.all i (some x') j=some y:=a;by_cases e:j=i
    · subst e;rw[Qv]at a;cases a;rw[c]at f;cases f;exact(g k s l b).1
    · rw[Qz e]at a;exact h.li a f b
  · have a:QN C.all i (some x') j=some y:=a;by_cases e:j=i
    · subst e;rw[Qv]at a;cases a;exact d q m
    · rw[Qz e]at a;exact h.kw a q m
  · have a:QN C.all i (some x') j=some y:=a;by_cases e:j=i
    · subst e;rw[Qv]at a;cases a;exact(g k s l b).2
    · rw[Qz e]at a;exact h.kl a b
theorem CeB.askL (h:CeB C T N) (c:C.all i=some x) (b:T i=some nd) (d:AskL N nd x k x'):CeB (C.up i x') T N:=by
  refine h.set b (λks f=>h.wr c ks (by rw[<-d.ad.2.2.2.1];exact f)) (λq s l a=> ?_) (λq a=>h.kw c q (by rw[<-d.ad.2.2.2.1];exact a));rcases d with rfl | ⟨_,_,ov,g,l1,j,rfl⟩
  · exact⟨h.li c b a,h.kl c a⟩
  · have a:QN x.li k (some (g,l1)) q=some (s,l):=a;by_cases e:q=k
    · subst e;rw[Qv]at a;cases a;exact j
    · rw[Qz e]at a;exact⟨h.li c b a,h.kl c a⟩
end
theorem askL_sp {T:Nodes} {F:Th} (D:Sat w [Xw ZM C.all,F]) (m:CeW C T) (A:TrI T last) (E:CeB C T N) (G:N<=1000) {i:Int} {nd:NodeD} (b:C.all i=some x) (h:T i=some nd) (k:Bs) (n:x.order.length<=100000000000):
    Calls prog 113 #[ptrV x.ad 0,strV k] w (Ret λv w'=> ∃x',AskL N nd x k x'/\Sat w' [Xw ZM (QN C.all i (some x')),F]):=by
 refine Qn func113 U ntmps113 U ?_;refine Qe ?_;have j:=Zz (D.pick [0,1] U) b;refine Qa<|Qb U U<|Qj U U<|Qg U Tq U<|Qo U Ea (j.cellF 0 U U) U<|Qb U U ?_;rcases a:x.li k with _ | ⟨H,l0⟩
 ·refine Xn (k:=k) 5 j keysStr underlying135 U U U Ee (u:=(.slice none 0 0)) (g:=false) (by rw[DQ a];rfl) (by rw[DQ a];rfl) U ?_;refine Qb U U<|Qr U U U<|Qr U U U<|Qd U U<|Qd U U<|Qf<|Qc<|Qh [1,0,5] U<|Qe ?_;have l:=ZD b (j.pick [0,1,2,3,4,5,6,7,8] U);refine Qa<|Qb U U<|QX U U<|Qb U U<|X9 17 U (λc=> ?_) (λc=> ?_)
  ·refine Qk U U c<|Qb U U<|Qk U U c<|Qj U U<|Qk U U c<|Qg U Ww U<|Qk U U c<|Qo U Ji (HZ l 0 U b 0 U) U<|Qk U U c ?_;rcases d:x.par with _ | pa
   ·refine Z7 underlying130 U U U<|QF U c U U<|Qf<|Qc<|Qh [1,0,23] U<|QM U<|Qt<|Zb (.inl U) U ?_;exact⟨_,rfl,x,.inl U,by rw[Wr b];exact l.pick [0,1] U⟩
   refine Zi underlying130 U U U<|QF U c U U<|Qf<|Qc<|Qh [1,0,23] U<|Xm U ?_;have B:i≠0:= λe=>by have :=m.root (e▸b);rw[d]at this;cases this
   obtain⟨y,I,o⟩:=m.up B h b;obtain⟨J,K,pn,p,q⟩:=A.par h B;refine Qa<|Qb U U<|Qb U U<|Qb U U<|Qj U U<|Qg U Ww U<|Qo U Ji (Vo l 0 U b o) U<|Qb U U<|Qw PQ U ((MA m A E G k _ _ y pn (Nat.le_refl _) I p _ _ (l.sp [0] U))) U ?_;rintro _ O ⟨L,l1,rfl,r,_,s,t⟩;replace t:=t.jn U U;refine Zj U NX Of qar U U<|Qw AM U (IQ (t.sp [0,1] U) b a n) U ?_;rintro _ P ⟨ov,z⟩;replace z:=z.jn U U;refine Qf<|Zb (.inl U) U ?_;exact⟨_,rfl,_,.inr ⟨(by rw[d];simp),a,ov,L,l1,⟨(by rw[q];exact r),s⟩,rfl⟩,z.pick [0,1] U⟩
  exact absurd c (by decide)
 refine Xn (k:=k) 5 j keysStr underlying135 U U U Ee (u:=(U5 H)) (g:=true) (by rw[GB a];rfl) (by rw[GB a];rfl) U ?_;refine Qb U U<|Qr U U U<|Qr U U U<|Qd U U<|Qd U U<|Qf<|Qc<|Qh [1,0,5] U<|Qe ?_;have M:=ZD b (j.pick [0,1,2,3,4,5,6,7,8] U);refine Qa<|Qb U U<|QX U U<|Qb U U<|X9 17 U (λf=> ?_) (λf=> ?_)
 ·exact absurd f (by decide)
 refine Qi U U f U<|Qi U U f U<|Qi U U f U<|Qi U U f U<|Qi U U f U<|Q9 U f U U<|Qf<|Qc<|Qh [1,0,23] U<|QM U<|Qt<|Zb (.inl U) U ?_;exact⟨_,rfl,x,.inl U,by rw[Wr b];exact M.pick [0,1] U⟩
theorem IY {c:Nat} {T:Nodes} {F:Th} (d:Sat w [Y8 c C,F]) (t:CeW C T) (z:TrI T last) (A:CeB C T N) (B:N<=1000) {nd:NodeD} (f:C.all id=some x) (b:T id=some nd) (h:x.order.length<=100000000000) (k:Bs):
    Calls prog 83 #[ptrV c 0,intV id,strV k] w (Ret λv w'=> ∃x' s l,AskL N nd x k x'/\v=U5 s/\(l.length:Int)<=(nd.dep+1)*N/\(x.par=none->U1 (λq=>(x.writes q).getD []) k l)/\(∀q∈l,q.length<=10)/\Sat w' [rowT stC (U5 s) l,Y8 c (C.up id x'),F]):=by
 replace d:=WT d;refine Qn func83 U ntmps83 U ?_;refine Qe<|Qa<|Qd U U<|Qf<|Qc<|Qe<|Qa<|Qb U U<|Qj U U<|Qg U WQ U<|Qo U Yp (d.cell 0 U U) U<|Qb U U<|Xf (k:=id) 1 d keysInt underlying131 U U U Hu (u:=(ptrV x.ad 0)) (XH f) U<|Qd U U<|Qf<|Qc<|Qh [2,6,7] U<|Qe<|Qe<|Qa<|Qb U U<|XG underlying130 U U U<|Qf<|Qc<|QM U<|Qt<|Qc<|Qe<|Qa<|Qb U U<|Qb U U<|Qw cal_113 U (askL_sp (d.sp [2] U) t z A B f b k h) U ?_;rintro _ G ⟨x',a,i⟩;replace i:=i.jn U U;have g:=a.ad.1;have j:(C.up id x').all id=some x':=Qv;refine Qf<|Qc<|Qe<|Qa<|Qb U U<|Qb U U ?_;refine Qw PQ U ((show Calls _ _ #[ptrV x.ad 0,strV k] _ _ by rw[<-g];exact MA (C:=C.up id x') (t.set f a.ad.1 a.ad.2.1 a.ad.2.2.1) z (A.askL f b a) B k _ _ x' nd (Nat.le_refl _) j b _ _ (i.sp [0] U))) U ?_;rintro _ w2 ⟨E,l1,rfl,m,n,o,p⟩;replace p:=p.jn U U;refine Qd U U<|Qf<|Qc<|Qh [6] U<|Qu<|QJ (.inr U) U U ?_;have D:=(p.pick [1,2,3,0,4] U).reorder [1,2,0,3,4] U;rw[<-WK (k:=id) (y:=x') f g]at D;have r:=WR (C:=C.up id x') D;exact⟨_,rfl,x',E,l1,a,rfl,m,(λe=>by have :=n (by rw[a.ad.2.1];exact e);rw[a.ad.2.2.2.1]at this;exact this),o,r.pick [1,0,2] U⟩
theorem FY {T:Nodes} {F:Th} {Y:ι->Th} (e:Sat w [Q6 vb [ptrV a.t 0,intV id],Z5 a T last,X,F]) {Q:ι->UInt8->Prop} (ob:Bs) (at_:Int) (f: ∀{w:World} {F:Th},Sat w [X,F]->Calls prog 51 #[ptrV a.b 0,intV id,strV ob,intV at_] w (Ret λv w'=> ∃z x,v=XV x/\Q z x/\Sat w' [Y z,F])):
    Calls prog 23 #[ptrV vb 0,strV ob,intV at_] w (Ret λv w'=> ∃z x,v=XV x/\Q z x/\Sat w' [Q6 vb [ptrV a.t 0,intV id],Z5 a T last,Y z,F]):=by
 refine Qn func23 U ntmps23 U ?_;refine Qe<|Qa<|Qd U U<|Qf<|Qc<|Qe ?_;have g:=XW (e.pick [1,0,2,3] U);have c:=g.drew;refine Q7 [0,1,2,3,4,5,6,7,8,9,10,11,12,13,14] [13] Z9 (by kernel_rfl) ?_;refine Q3 U U U<|QP U U U<|QG U U U We<|Q0 U U U (Ql U JY (c.cell 2 U U))<|QP U U U<|QG U U U YO<|Q0 U U U (Ql U K8 (c.cell 0 U U))<|Q3 U U U<|QP U U U<|QG U U U ZV<|Q0 U U U (Ql U QL (c.cell 2 U U))<|Q3 U U U<|Q3 U U U<|QO U U U U U U ?_;refine Qw qfn U (f (c.sp [3] U)) U ?_;rintro _ j ⟨z,x,rfl,h,d⟩;replace d:=d.jn U U;refine Xh (Xd (by kernel_rfl)) ?_;refine Zd U U U (VC.nil (Qc (Qh [6] U (Qu (QJ (.inr U) U U ?_)))));have i:=X1 (T:=T) (last:=last) (d.pick [1,2,0,3,4] U);exact⟨_,U,z,x,U,h,i.pick [2,0,1,3] U⟩
theorem qa2 {T:Nodes} {F:Th} {Y:ι->Th} {Q:ι->Prop} (g:Sat w [Q6 vb [ptrV a.t 0,intV id],Z5 a T last,X,F]) {n0:NodeD} (d:T id=some n0) (ob:Bs) (at_:Int) (bt:UInt8) (h: ∀{w:World} {F:Th},Sat w [X,F]->Calls prog 49 #[ptrV a.b 0,intV id,strV ob,intV at_,XV bt] w (Ret λv w'=> ∃z,v=intV 0/\Q z/\Sat w' [Y z,F])):
    Calls prog 21 #[ptrV vb 0,strV ob,intV at_,XV bt] w (Ret λv w'=> ∃z,Q z/\Sat w' [Q6 vb [ptrV a.t 0,intV id],Z5 a T last,Y z,F]):=by
 refine Qn func21 U ntmps21 U ?_;have i:=XW (g.pick [1,0,2,3] U);have c:=i.drew;refine Q7 [0,1,2,3,4,5,6,7,8,9,10,11,12,13,14,15,16] [15,16] Z9 (by kernel_rfl) ?_;refine Q3 U U U<|Q3 U U U<|QP U U U<|QG U U U We<|Q0 U U U (Ql U JY (c.cell 2 U U))<|QP U U U<|QG U U U YO<|Q0 U U U (Ql U K8 (c.cell 0 U U))<|Q3 U U U<|QP U U U<|QG U U U ZV<|Q0 U U U (Ql U QL (c.cell 2 U U))<|Q3 U U U<|Q3 U U U<|Q3 U U U<|QO U U U U U U ?_;refine Qw qfo U (h (c.sp [3] U)) U ?_;rintro _ l ⟨z,rfl,j,e⟩;replace e:=e.jn U U;refine Xh (Xd (by kernel_rfl)) ?_;refine QO U U U U U U ?_;have k:=X1 (T:=T) (last:=last) (e.pick [1,2,0,3,4] U);refine Qw qfp U (CD (k.sp [2,0] U) d) U ?_;rintro _ m f;replace f:=f.jn U U;refine Xh (Xd (by kernel_rfl)) ?_;exact VC.nil (Zb (.inl U) U (⟨_,U,z,j,f.pick [0,1,2,3] U⟩))
theorem qa4 {T:Nodes} {F:Th} {Y:ι->Th} {Q:ι->Prop} (e:Sat w [Q6 vb [ptrV a.t 0,intV id],Z5 a T last,X,F]) (ob to:Bs) (fi cn aa:Int) (f: ∀{w:World} {F:Th},Sat w [X,F]->Calls prog 115 #[ptrV a.b 0,intV id,strV ob,intV fi,intV cn,strV to,intV aa] w (Ret λv w'=> ∃z,Q z/\Sat w' [Y z,F])):
    Calls prog 61 #[ptrV vb 0,strV ob,intV fi,intV cn,strV to,intV aa] w (Ret λv w'=> ∃z,Q z/\Sat w' [Q6 vb [ptrV a.t 0,intV id],Z5 a T last,Y z,F]):=by
 refine Qn func61 U ntmps61 U ?_;have g:=XW (e.pick [1,0,2,3] U);have c:=g.drew;refine Q7 [0,1,2,3,4,5,6,7,8,9,10,11,12,13,14,15,16] [16] Z9 (by kernel_rfl) ?_;refine Q3 U U U<|QP U U U<|QG U U U We<|Q0 U U U (Ql U JY (c.cell 2 U U))<|QP U U U<|QG U U U YO<|Q0 U U U (Ql U K8 (c.cell 0 U U))<|Q3 U U U<|QP U U U<|QG U U U ZV<|Q0 U U U (Ql U QL (c.cell 2 U U))<|Q3 U U U<|Q3 U U U<|Q3 U U U<|Q3 U U U<|Q3 U U U<|QO U U U U U U ?_;refine Qw cal_115 U (f (c.sp [3] U)) U ?_;rintro _ j ⟨z,h,d⟩;replace d:=d.jn U U;refine Xh (Xd (by kernel_rfl)) ?_;refine VC.nil (Zb (.inl U) U ?_);have i:=X1 (T:=T) (last:=last) (d.pick [1,2,0,3,4] U);exact⟨_,U,z,h,i.pick [2,0,1,3] U⟩
theorem qa3 {T:Nodes} {F:Th} {Y:ι->Th} {Q:ι->Prop} (e:Sat w [Q6 vb [ptrV a.t 0,intV id],Z5 a T last,X,F]) (ob:Bs) (f: ∀{w:World} {F:Th},Sat w [X,F]->Calls prog 110 #[ptrV a.b 0,intV id,strV ob] w (Ret λv w'=> ∃z,Q z/\Sat w' [Y z,F])):
    Calls prog 62 #[ptrV vb 0,strV ob] w (Ret λv w'=> ∃z,Q z/\Sat w' [Q6 vb [ptrV a.t 0,intV id],Z5 a T last,Y z,F]):=by
 refine Qn func62 U ntmps62 U ?_;have g:=XW (e.pick [1,0,2,3] U);have c:=g.drew;refine Q7 [0,1,2,3,4,5,6,7,8,9,10,11,12] [12] Z9 (by kernel_rfl) ?_;refine Q3 U U U<|QP U U U<|QG U U U We<|Q0 U U U (Ql U JY (c.cell 2 U U))<|QP U U U<|QG U U U YO<|Q0 U U U (Ql U K8 (c.cell 0 U U))<|Q3 U U U<|QP U U U<|QG U U U ZV<|Q0 U U U (Ql U QL (c.cell 2 U U))<|Q3 U U U<|QO U U U U U U ?_;refine Qw AT U (f (c.sp [3] U)) U ?_;rintro _ j ⟨z,h,d⟩;replace d:=d.jn U U;refine Xh (Xd (by kernel_rfl)) ?_;refine VC.nil (Zb (.inl U) U ?_);have i:=X1 (T:=T) (last:=last) (d.pick [1,2,0,3,4] U);exact⟨_,U,z,h,i.pick [2,0,1,3] U⟩
theorem vlogG {T:Nodes} {F:Th} {Y:ι->Th} {Q:ι->Prop} (e:Sat w [Q6 vb [ptrV a.t 0,intV id],Z5 a T last,X,F]) (ob s:Bs) (f: ∀{w:World} {F:Th},Sat w [X,F]->Calls prog 116 #[ptrV a.c 0,intV id,strV ob,strV s] w (Ret λv w'=> ∃z,Q z/\Sat w' [Y z,F])):
    Calls prog 64 #[ptrV vb 0,strV ob,strV s] w (Ret λv w'=> ∃z,Q z/\Sat w' [Q6 vb [ptrV a.t 0,intV id],Z5 a T last,Y z,F]):=by
 refine Qn func64 U ntmps64 U ?_;have g:=XW (e.pick [1,0,2,3] U);have b:=g.drew;refine Q7 [0,1,2,3,4,5,6,7,8,9,10,11,12,13] [13] Z9 (by kernel_rfl) ?_;refine Q3 U U U<|QP U U U<|QG U U U We<|Q0 U U U (Ql U JY (b.cell 2 U U))<|QP U U U<|QG U U U Hl<|Q0 U U U (Ql U R2 (b.cell 0 U U))<|Q3 U U U<|QP U U U<|QG U U U ZV<|Q0 U U U (Ql U QL (b.cell 2 U U))<|Q3 U U U<|Q3 U U U<|QO U U U U U U ?_;refine Qw cal_116 U (f (b.sp [3] U)) U ?_;rintro _ j ⟨z,h,d⟩;replace d:=d.jn U U;refine Xh (Xd (by kernel_rfl)) ?_;refine VC.nil (Zb (.inl U) U ?_);have i:=X1 (T:=T) (last:=last) (d.pick [1,2,0,3,4] U);exact⟨_,U,z,h,i.pick [2,0,1,3] U⟩
theorem vkeysG {T:Nodes} {F:Th} {Y:ι->Th} {Q:ι->List Bs->Prop} (e:Sat w [Q6 vb [ptrV a.t 0,intV id],Z5 a T last,X,F]) (k:Bs) (f: ∀{w:World} {F:Th},Sat w [X,F]->Calls prog 83 #[ptrV a.c 0,intV id,strV k] w (Ret λv w'=> ∃z s l,v=U5 s/\Q z l/\Sat w' [rowT stC (U5 s) l,Y z,F])):
    Calls prog 35 #[ptrV vb 0,strV k] w (Ret λv w'=> ∃z s l,v=U5 s/\Q z l/\Sat w' [rowT stC (U5 s) l,Q6 vb [ptrV a.t 0,intV id],Z5 a T last,Y z,F]):=by
 refine Qn func35 U ntmps35 U ?_;refine Qe<|Qa<|Qd U U<|Qf<|Qc<|Qe ?_;have g:=XW (e.pick [1,0,2,3] U);have b:=g.drew;refine Q7 [0,1,2,3,4,5,6,7,8,9,10,11,12,13] [12] Z9 (by kernel_rfl) ?_;refine Q3 U U U<|QP U U U<|QG U U U We<|Q0 U U U (Ql U JY (b.cell 2 U U))<|QP U U U<|QG U U U Hl<|Q0 U U U (Ql U R2 (b.cell 0 U U))<|Q3 U U U<|QP U U U<|QG U U U ZV<|Q0 U U U (Ql U QL (b.cell 2 U U))<|Q3 U U U<|QO U U U U U U ?_;refine Qw cal_83 U (f (b.sp [3] U)) U ?_;rintro _ j ⟨z,sl,l,rfl,h,d⟩;replace d:=d.jn U U;refine Xh (Xd (by kernel_rfl)) ?_;refine Zd U U U (VC.nil (Qc (Qh [4] U (Qu (QJ (.inr U) U U ?_)))));have i:=X1 (T:=T) (last:=last) (d.pick [2,3,0,1,4,5] U);exact⟨_,U,z,sl,l,U,h,i.pick [1,3,0,2,4] U⟩
theorem logs_tr {T:Nodes} {F:Th} (b:Sat w [Z5 a T last,Y8 a.c C,F]) (e:C.all id=some x) (k:Bs):
    Calls prog 39 #[ptrV a.t 0,intV id,strV k] w (Ret λv w'=>v=strV ((x.logs k).getD [])/\Sat w' [Z5 a T last,Y8 a.c C,F]):=by
 replace b:=XW b;refine Qn func39 U ntmps39 U ?_;refine Qe<|Qa<|Qd U U<|Qf<|Qc<|Qe<|Qa<|Qb U U<|Qj U U<|Qg U Hl U<|Qo U R2 (b.cell 0 U U) U<|Qb U U<|Qb U U<|Qw cal_84 U (IW (b.sp [2] U) e k) U ?_;rintro _ f ⟨rfl,d⟩;replace d:=d.jn U U;exact Qd U U (Qf (Qc (Qh [6] U (Qu (QJ (.inr U) U U (⟨_,U,U,X1 (d.pick [1,2,0,3] U)⟩))))))
