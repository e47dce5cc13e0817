/- leaves: maps.Keys, slices.Collect of keys -/
import Derived.Test.YtifaibmhinlcfaaGreatDoorTr2
import Derived.Test.YtifaibmhinlcfaaGreatDoorWa
import Derived.Test.YtifaibmhinlcfaaGreatDoorLv9
import Derived.Test.YtifaibmhinlcfaaGreatDoorLv1
import Derived.Test.YtifaibmhinlcfaaGreatDoorSh3
import Derived.Shelf.SlSortCmp.NoneTotal
import Derived.Lib.Bytealg
import Derived.Lib.Small
import Derived.Shelf.SlLaysF0
import Derived.Ground.SlsfProg
import Derived.Test.YtifaibmhinlcfaaGreatDoorProg
import Derived.Test.YtifaibmhinlcfaaGreatDoorDl
set_option linter.unusedSectionVars false
set_option linter.unusedVariables false
set_option maxRecDepth 100000
namespace Go.Proofs.YtifaibmhinlcfaaGreatDoor
open Go.RowKit M Proofs.Tryz
variable [Inhabited SlW]
variable {It:Th} {J:List KD→Th} {b c gf l:Nat} {caps:List Value} {g:KD→Option Value} {v0:Value} {w:World}
theorem kl_it {F:Th} (s:Sat w [J [],Q6 c [.map (some b)],Q4 X7 b g,F]) (u:Hm prog l X7 (okC g) J):
    Calls prog 199 #[.func (.yield l) #[] #[],ptrV c 0] w (Ret λv w'=> ∃ks,AllC g ks/\Sat w' [J ks,Q6 c [.map (some b)],Q4 X7 b g,F]):=by
 refine Qn func199 U ntmps199 U ?_;refine Qe<|Qa<|Qo U Jv (by first | assumption | exact s.cell 1 U U) U ?_
 refine WN 2 s underlying145 U U U ?_;intro RR left0 wR j;dsimp only[List.set]at j;refine Qf<|Qc<|Qx<|QU (λK0 E0 W0=> ∃(dn:KD->Prop) (cur:Option KD) (left:Nat) (ks:List KD),K0=1*left/\E0=[(0,.func (.yield l) #[] #[]),(5,ptrV RR 0)]/\Sat W0 [J ks,WI X7 b RR g dn cur left,Q6 c [.map (some b)],F]/\(CSt g dn ks)) (L0:=[(0,_),(5,_)]) (1*left0) (D0 U U) ⟨_,_,_,_,rfl,rfl,j.reorder [0,2,1,3] U,CSt.start g⟩ ?_;rintro _ _ x ⟨dn,cur,left,ks,rfl,rfl,t,e⟩;refine Qe<|Qa<|JA 1 t keysKey.inj U U U (λf=> ?_) (λk v left2 w2 n h m o=> ?_)
 ·refine Qr U U U<|Qf<|Qc<|Qe<|QM U<|QQ<|Qp<|Qp<|Qy<|Zb (.inl U) U ?_;exact⟨_,rfl,ks,e.all f,by have d:=Wh (t.reorder [1,0,2,3] U);exact d.reorder [1,2,0,3] U⟩
 dsimp only[List.set]at o;refine Qr U U U<|Qf<|Qc<|Qe<|Xm U<|Qt<|Qc<|Qx<|Qe<|Qa<|Jc 1 o U h U U<|Qr U U U<|Xc o Wo U U ?_;intro bk wq1 p;refine QW p U U Xb U (by rfl) (i:=0) U (by decide) ?_;intro wq2 a;dsimp only[List.set]at a;replace a:=Zr (k:=k) a;refine Qf<|Qc<|Qe<|WV<|X0 U (X2 U)<|X0 U (X5 U Xu Xb (a.blk 0 U) (Xk U) U) ?_;have q:=a.sp [1] U;refine Hb U U U (u _ _ _ _ (e.ok m h) q) ?_;intro y r;replace r:=r.jn U U;refine X0 U (Hy U)<|Hi<|Qc<|Qh [5,0,13] U<|QM U<|Qt<|Qm ?_;have d:=r.pick [0,2,3,4] U;dsimp only[Yu,Ub]at d;exact Q5 (L1:=[(0,_),(5,_)]) (D0 U U) (k1:=1*left2) (by omega) ⟨_,_,_,_,rfl,rfl,d,e.step m h⟩
theorem kl_sp {F:Th} (a:Sat w [F]) (d:v0.oneCell'=true):
    Calls prog 145 #[v0] w (Ret λv w'=> ∃c,v= .func (.func 199) #[] #[ptrV c 0]/\Sat w' [Q6 c v0.cells.toList,F]):=by
 refine Qn func145 U ntmps145 U ?_;refine Qe<|Qa<|XL a U U U ?_;intro b1 e b;exact Qd U U (Qf (Qc (Qe (Qa (ZB U U (Qd U U (Qf (Qc (Qu (QJ (.inr U) U U (⟨_,U,_,U,b⟩)))))))))))
theorem kp_it {F:Th} (s:Sat w [J [],Q6 c [.map (some b)],Q4 X7 b g,F]) (u:Hm prog l X7 (okC g) J):
    Calls prog 227 #[.func (.yield l) #[] #[],ptrV c 0] w (Ret λv w'=> ∃ks,AllC g ks/\Sat w' [J ks,Q6 c [.map (some b)],Q4 X7 b g,F]):=by
 refine Qn func227 U ntmps227 U ?_;refine Qe<|Qa<|Qo U Gh (by first | assumption | exact s.cell 1 U U) U ?_
 refine WN 2 s underlying140 U U U ?_;intro RR left0 wR j;dsimp only[List.set]at j;refine Qf<|Qc<|Qx<|QU (λK0 E0 W0=> ∃(dn:KD->Prop) (cur:Option KD) (left:Nat) (ks:List KD),K0=1*left/\E0=[(0,.func (.yield l) #[] #[]),(5,ptrV RR 0)]/\Sat W0 [J ks,WI X7 b RR g dn cur left,Q6 c [.map (some b)],F]/\(CSt g dn ks)) (L0:=[(0,_),(5,_)]) (1*left0) (D0 U U) ⟨_,_,_,_,rfl,rfl,j.reorder [0,2,1,3] U,CSt.start g⟩ ?_;rintro _ _ x ⟨dn,cur,left,ks,rfl,rfl,t,e⟩;refine Qe<|Qa<|JA 1 t keysKey.inj U U U (λf=> ?_) (λk v left2 w2 n h m o=> ?_)
 ·refine Qr U U U<|Qf<|Qc<|Qe<|QM U<|QQ<|Qp<|Qp<|Qy<|Zb (.inl U) U ?_;exact⟨_,rfl,ks,e.all f,by have d:=Wh (t.reorder [1,0,2,3] U);exact d.reorder [1,2,0,3] U⟩
 dsimp only[List.set]at o;refine Qr U U U<|Qf<|Qc<|Qe<|Xm U<|Qt<|Qc<|Qx<|Qe<|Qa<|Jc 1 o U h U U<|Qr U U U<|Xc o Wo U U ?_;intro bk wq1 p;refine QW p U U Xb U (by rfl) (i:=0) U (by decide) ?_;intro wq2 a;dsimp only[List.set]at a;replace a:=Zr (k:=k) a;refine Qf<|Qc<|Qe<|WV<|X0 U (X2 U)<|X0 U (X5 U Xu Xb (a.blk 0 U) (Xk U) U) ?_;have q:=a.sp [1] U;refine Hb U U U (u _ _ _ _ (e.ok m h) q) ?_;intro y r;replace r:=r.jn U U;refine X0 U (Hy U)<|Hi<|Qc<|Qh [5,0,13] U<|QM U<|Qt<|Qm ?_;have d:=r.pick [0,2,3,4] U;dsimp only[Yu,Ub]at d;exact Q5 (L1:=[(0,_),(5,_)]) (D0 U U) (k1:=1*left2) (by omega) ⟨_,_,_,_,rfl,rfl,d,e.step m h⟩
theorem kp_sp {F:Th} (a:Sat w [F]) (d:v0.oneCell'=true):
    Calls prog 202 #[v0] w (Ret λv w'=> ∃c,v= .func (.func 227) #[] #[ptrV c 0]/\Sat w' [Q6 c v0.cells.toList,F]):=by
 refine Qn func202 U ntmps202 U ?_;refine Qe<|Qa<|XL a U U U ?_;intro b1 e b;exact Qd U U (Qf (Qc (Qe (Qa (ZB U U (Qd U U (Qf (Qc (Qu (QJ (.inr U) U U (⟨_,U,_,U,b⟩)))))))))))
theorem kt_it {g:Int->Option Value} {J:List Int->Th} {F:Th} (o:Sat w [J [],Q6 c [.map (some b)],Q4 QY b g,F]) (q:Hm prog l QY (okC g) J):
    Calls prog 184 #[.func (.yield l) #[] #[],ptrV c 0] w (Ret λv w'=> ∃ks,AllC g ks/\Sat w' [J ks,Q6 c [.map (some b)],Q4 QY b g,F]):=by
 refine Qn func184 U ntmps184 U ?_;refine Qe<|Qa<|Qo U J9 (by first | assumption | exact o.cell 1 U U) U ?_
 refine WN 2 o underlying141 U U U ?_;intro RR left0 wR h;dsimp only[List.set]at h;refine Qf<|Qc<|Qx<|QU (λK0 E0 W0=> ∃(dn:Int->Prop) (cur:Option Int) (left:Nat) (ks:List Int),K0=1*left/\E0=[(0,.func (.yield l) #[] #[]),(5,ptrV RR 0)]/\Sat W0 [J ks,WI QY b RR g dn cur left,Q6 c [.map (some b)],F]/\(CSt g dn ks)) (L0:=[(0,_),(5,_)]) (1*left0) (D0 U U) ⟨_,_,_,_,rfl,rfl,h.reorder [0,2,1,3] U,CSt.start g⟩ ?_;rintro _ _ r ⟨dn,cur,left,ks,rfl,rfl,p,d⟩;refine Qe<|Qa<|JA 1 p keysInt.inj U U U (λe=> ?_) (λk v left2 w2 j f i m=> ?_)
 ·refine Qr U U U<|Qf<|Qc<|Qe<|QM U<|QQ<|Qp<|Qp<|Qy<|Zb (.inl U) U ?_;exact⟨_,rfl,ks,d.all e,by have a:=Wh (p.reorder [1,0,2,3] U);exact a.reorder [1,2,0,3] U⟩
 dsimp only[List.set]at m;refine Qr U U U<|Qf<|Qc<|Qe<|Xm U<|Qt<|Qc<|Qx<|Qe<|Qa<|Jc 1 m U f U U<|Qr U U U<|Qd U U<|Qf<|Qc<|Qe<|WV<|X0 U (X2 U)<|X0 U (X2 U)<|Hb U U U (q _ _ _ _ (d.ok i f) (m.sp [0] U)) ?_;intro s n;replace n:=n.jn U U;refine X0 U (Hy U)<|Hi<|Qc<|Qh [5,0,13] U<|QM U<|Qt<|Qm ?_;have a:=n.reorder [0,1,2,3] U;dsimp only[Yu,Ub]at a;exact Q5 (L1:=[(0,_),(5,_)]) (D0 U U) (k1:=1*left2) (by omega) ⟨_,_,_,_,rfl,rfl,a,d.step i f⟩
theorem kt_sp {F:Th} (a:Sat w [F]) (d:v0.oneCell'=true):
    Calls prog 131 #[v0] w (Ret λv w'=> ∃c,v= .func (.func 184) #[] #[ptrV c 0]/\Sat w' [Q6 c v0.cells.toList,F]):=by
 refine Qn func131 U ntmps131 U ?_;refine Qe<|Qa<|XL a U U U ?_;intro b1 e b;exact Qd U U (Qf (Qc (Qe (Qa (ZB U U (Qd U U (Qf (Qc (Qu (QJ (.inr U) U U (⟨_,U,_,U,b⟩)))))))))))
theorem kd_it {g:Bs->Option Value} {J:List Bs->Th} {F:Th} (o:Sat w [J [],Q6 c [.map (some b)],Q4 Xo b g,F]) (q:Hm prog l Xo (okC g) J):
    Calls prog 154 #[.func (.yield l) #[] #[],ptrV c 0] w (Ret λv w'=> ∃ks,AllC g ks/\Sat w' [J ks,Q6 c [.map (some b)],Q4 Xo b g,F]):=by
 refine Qn func154 U ntmps154 U ?_;refine Qe<|Qa<|Qo U Db (by first | assumption | exact o.cell 1 U U) U ?_
 refine WN 2 o underlying146 U U U ?_;intro RR left0 wR h;dsimp only[List.set]at h;refine Qf<|Qc<|Qx<|QU (λK0 E0 W0=> ∃(dn:Bs->Prop) (cur:Option Bs) (left:Nat) (ks:List Bs),K0=1*left/\E0=[(0,.func (.yield l) #[] #[]),(5,ptrV RR 0)]/\Sat W0 [J ks,WI Xo b RR g dn cur left,Q6 c [.map (some b)],F]/\(CSt g dn ks)) (L0:=[(0,_),(5,_)]) (1*left0) (D0 U U) ⟨_,_,_,_,rfl,rfl,h.reorder [0,2,1,3] U,CSt.start g⟩ ?_;rintro _ _ r ⟨dn,cur,left,ks,rfl,rfl,p,d⟩;refine Qe<|Qa<|JA 1 p keysStr.inj U U U (λe=> ?_) (λk v left2 w2 j f i m=> ?_)
 ·refine Qr U U U<|Qf<|Qc<|Qe<|QM U<|QQ<|Qp<|Qp<|Qy<|Zb (.inl U) U ?_;exact⟨_,rfl,ks,d.all e,by have a:=Wh (p.reorder [1,0,2,3] U);exact a.reorder [1,2,0,3] U⟩
 dsimp only[List.set]at m;refine Qr U U U<|Qf<|Qc<|Qe<|Xm U<|Qt<|Qc<|Qx<|Qe<|Qa<|Jc 1 m U f U U<|Qr U U U<|Qd U U<|Qf<|Qc<|Qe<|WV<|X0 U (X2 U)<|X0 U (X2 U)<|Hb U U U (q _ _ _ _ (d.ok i f) (m.sp [0] U)) ?_;intro s n;replace n:=n.jn U U;refine X0 U (Hy U)<|Hi<|Qc<|Qh [5,0,13] U<|QM U<|Qt<|Qm ?_;have a:=n.reorder [0,1,2,3] U;dsimp only[Yu,Ub]at a;exact Q5 (L1:=[(0,_),(5,_)]) (D0 U U) (k1:=1*left2) (by omega) ⟨_,_,_,_,rfl,rfl,a,d.step i f⟩
theorem kd_sp {F:Th} (a:Sat w [F]) (d:v0.oneCell'=true):
    Calls prog 109 #[v0] w (Ret λv w'=> ∃c,v= .func (.func 154) #[] #[ptrV c 0]/\Sat w' [Q6 c v0.cells.toList,F]):=by
 refine Qn func109 U ntmps109 U ?_;refine Qe<|Qa<|XL a U U U ?_;intro b1 e b;exact Qd U U (Qf (Qc (Qe (Qa (ZB U U (Qd U U (Qf (Qc (Qu (QJ (.inr U) U U (⟨_,U,_,U,b⟩)))))))))))
def ItK (g:KD->Option Value) (gf:Nat) (caps:List Value) (It:Th):Prop:= ∀(l:Nat) (J:List KD->Th) (X:Th) (w:World),Sat w [J [],It,X]->Hm prog l X7 (okC g) J->Calls prog gf (.func (.yield l) #[] #[]::caps).toArray w (Ret λ_ w'=> ∃ks,AllC g ks/\Sat w' [J ks,It,X])
def JK (l D b:Nat) (rec:Loop) (ks:List KD):Th:=Cp λv:Value=>starL [JC l rec,WC D,Q6 b [v],rowT kC v ks]
theorem appK {F:Th} (P:Sat w [It,F]) (q:Q8 prog gf=true) (D:ItK g gf caps It) (r: ∀ks,Came g ks->ks.length<=100000000000):
    Calls prog 224 [.slice none 0 0,.func (.func gf) #[] caps.toArray].toArray w (Ret λv w'=> ∃ks,AllC g ks/\Sat w' [rowT kC v ks,It,F]):=by
 refine HC func224 U ntmps224 U ?_;refine Qe<|Qa<|XL P U U U ?_;intro b1 w1 Q;refine Qd U U<|Qf<|Qc<|Qe<|Qe<|Qa<|Qb U U<|Qf<|Qc<|Qx<|H4 (caps:=caps) U q ?_;intro rec s t E G H u x;have S:=((Q.enter_loop rec).row_nil kC);have I:=S.sp [1,2,3,0] U;have J:=Sat.ex_intro (f:= λv:Value=>starL [JC _ _,WC _,Q6 _ [v],rowT kC v []]) _ (Sat.fold (As:=[JC _ _,WC _,Q6 _ [_],rowT kC _ []]) I);refine(D _ (JK _ _ _ _) _ _ (J.join U) ?_).mono ?_
 ·intro ks k R w2 K L;obtain⟨v,m⟩:=L.ex;have l:=m.flat;dsimp only[Dg,Df]at l;have M:=r _ K;simp only[List.length_append,List.length_cons,List.length_nil]at M;refine Mn (l.loop 0 rfl) s t E G H u x rfl (by intro o y c;simp at y;rcases y with rfl | rfl<;> simp) (by intro o y c;simp at y;rcases y with rfl | rfl | rfl | rfl | rfl<;> simp) ?_
  intro QA T;refine Xc l Wo U U ?_;intro bk wk1 N;refine QW N U U Xb U (by rfl) (i:=0) U (by decide) ?_;intro wk2 d;dsimp only[List.set]at d;replace d:=Zr (k:=k) d;refine Qf<|T _ _ (d.loop 1 U) ?_;intro QB V;have W:v.oneCell'=true:=d.own_one 4 U;have b:=d.loop_put 1 U (rec':={rec with state:= .busy});dsimp only[List.set]at b
  refine Qo U qgi (b.cell 3 U U) U<|XX U Xu Xb (b.blk 0 U) (Xk U) U U<|X8 kC [k] b U underlying163 ifz_151 U U U U (by rfl) rfl ?_;intro b3 X h;refine Zx kC 5 h U U U (h.rd 0 U (by simp)) underlying163 underlying163 (by intro k Y;cases Y) ifo_151 U (by simp;omega) U (by simp;omega) ?_;intro v4 w4 j;dsimp only[List.set]at j;have z:v4.oneCell'=true:=j.own_one 5 U;refine QK j U U sz_163 z (i:=4) U (by simp) ?_;intro w5 p;dsimp only[List.set]at p;refine Qf<|V _ _ (p.loop 2 U) ?_;have A:=p.loop_put 2 U (rec':=rec);dsimp only[List.set]at A;exact(Sat.ex_intro (f:= λv:Value=>starL [JC _ _,WC _,Q6 _ [v],rowT kC v (ks++[k])]) v4 (Sat.fold (As:=[JC _ _,WC _,Q6 _ [_],rowT kC _ _]) (A.pick [2,3,4,5,6] U)))
 ·rintro e X ⟨v0,rfl,ks,B,m⟩;obtain⟨v,l⟩:=m.ex;have b:=l.flat;dsimp only[Dg,Df]at b;refine⟨⟨v0,rfl⟩,rec,b.loop 0 U,by rw[s];simp,t, ?_⟩;intro a C O;have h:=b.loop_put 0 U (rec':={rec with state:= .exhausted});dsimp only[List.set]at h
  obtain⟨Z,j⟩:=h.defer_put (o:= .deferred none) 1 rfl;dsimp only[List.eraseIdx]at j;refine M5 (n:=13) (by rw[C];exact u) (by rw[C];exact x) O U qgi (h.cell 2 U U) Z U U U ?_;exact⟨_,U,ks,B,j.pick [2,3,4] U⟩
def keysTkl (c b:Nat) (g:KD->Option Value):Th:=starL [Q6 c [.map (some b)],Q4 X7 b g]
theorem itkl (c b:Nat) (g:KD->Option Value):ItK g 199 [ptrV c 0] (keysTkl c b g):= λl J X w d f=>by
  have a:=(d.perm (List.Perm.swap _ _ _)).flat;dsimp only[Dg,Df]at a;refine(kl_it (a.reorder [2,0,1,3] U) f).mono λe w' h=>h.mono λv w' ⟨ks,i,j⟩=>⟨ks,i, ?_⟩;exact(Sat.fold (As:=[Q6 c [.map (some b)],Q4 X7 b g]) (j.reorder [1,2,0,3] U)).perm (List.Perm.swap _ _ _)
def keysTkp (c b:Nat) (g:KD->Option Value):Th:=starL [Q6 c [.map (some b)],Q4 X7 b g]
theorem itkp (c b:Nat) (g:KD->Option Value):ItK g 227 [ptrV c 0] (keysTkp c b g):= λl J X w d f=>by
  have a:=(d.perm (List.Perm.swap _ _ _)).flat;dsimp only[Dg,Df]at a;refine(kp_it (a.reorder [2,0,1,3] U) f).mono λe w' h=>h.mono λv w' ⟨ks,i,j⟩=>⟨ks,i, ?_⟩;exact(Sat.fold (As:=[Q6 c [.map (some b)],Q4 X7 b g]) (j.reorder [1,2,0,3] U)).perm (List.Perm.swap _ _ _)
theorem colK {F:Th} (f:Sat w [It,F]) (a:Q8 prog gf=true) (d:ItK g gf caps It) (b: ∀ks,Came g ks->ks.length<=100000000000):
    Calls prog 197 #[.func (.func gf) #[] caps.toArray] w (Ret λv w'=> ∃ks,AllC g ks/\Sat w' [rowT kC v ks,It,F]):=by
 refine Qn func197 U ntmps197 U ?_;refine Qe<|Qa<|Qd U U<|Qf<|Qc<|Qe<|Qa<|Qb U U<|Qw cal_224 U (appK (f.sp [0] U) a d b) U ?_;rintro _ i ⟨ks,e,c⟩;replace c:=c.jn U U;have h:=c.own_one 0 U;exact Qd U U (Qf (Qc (Qu (QJ (.inr U) U U (⟨_,U,ks,e,c⟩)))))
def orI (a b:Int):Int:= if a≠0 then a else b
theorem or_step {l:List Int} {i:Nat} {x:Int} (a: ∀q,q<i->l[q]? =some 0) (b:l[i]? =some x) (c:x=0): ∀q,q<i+1->l[q]? =some 0:= λq d=>by
  rcases Nat.lt_or_ge q i with h | h
  · exact a q h
  · have :q=i:=by omega
    subst this;rw[b,c]
theorem or_sp {a b:Int} {F:Th} (n:Sat w [rowT inC (.slice (some ⟨c,0,none⟩) 2 2) [a,b],F]):
    Calls prog 147 #[.slice (some ⟨c,0,none⟩) 2 2] w (Ret λv w'=>v=intV (orI a b)/\w'=w):=by
 refine Qn func147 U ntmps147 U ?_;refine Qe<|Qa<|Qd U U<|Qf<|Qc<|Qe<|Qa<|Qd U U<|Qf<|Qc<|Qe<|Qe<|Qa<|Qb U U ?_
 first | refine Xl underlying24 U U ?_ | refine Wa 0 n underlying24 U U U ?_
 refine Qb U U<|Qf<|Qc<|Qx<|QU (λK0 E0 W0=> ∃(i:Nat),K0=2 -i/\E0=[(3,intV 0),(6,.slice (some ⟨c,0,none⟩) 2 2),(7,intV 2),(8,intV (i:Int))]/\Sat W0 [rowT inC (.slice (some ⟨c,0,none⟩) 2 2) [a,b],F]/\(W0=w)/\(i<=2)/\(∀q,q<i->[a,b][q]? =some 0)) (L0:=[(3,_),(6,_),(7,_),(8,_)]) (2) (Rs U U U U) ⟨0,by omega,rfl,n,rfl,by omega,λq o=>absurd o (by omega)⟩ ?_;rintro _ _ s ⟨i,rfl,rfl,l,f,hi,k⟩;refine Qe<|Qa<|Xa U U U<|Qf<|Qc<|Qe<|Qs U (λh=> ?_) (λh=> ?_)
 ·obtain⟨xi,d⟩: ∃xi,[a,b][i]? =some xi:=⟨_,XQ (by simp;omega)⟩;refine Qt<|Qc<|Qe<|Qx<|Qe<|Qa<|Xj inC 0 i l U U U (by first | rfl | omega) d WZ U ?_
  intro bx3 capx3 j;refine Zh 0 i 0 l U j U U d QL U U<|Qd U U<|Qf<|Qc<|Qe<|Qa<|Qb U U<|Qb U U<|Xz U U U<|Qf<|Qc<|Qh [8,7,6,3,5,14] U<|Qs U (λm=> ?_) (λm=> ?_)
  ·have g:xi≠0:=m;refine Qe<|Qa<|Qb U U<|Qd U U<|Qf<|Qc<|Qu<|Q1<|Qq<|Qq<|Q1<|Qq<|QJ (.inr U) U U (⟨_,U, ?_,f⟩);have h:i=0\/i=1:=by omega
   rcases h with rfl | rfl
   ·have e:a=xi:=(by simpa using d);subst e;unfold orI;rw[if_pos g]
   ·have e:b=xi:=(by simpa using d);have p:a=0:=(by simpa using k 0 (by omega));subst e;unfold orI;rw[if_neg (by omega)]
  have g:xi=0:=Decidable.not_not.1 m;refine Qt<|Qm<|Qc<|Qa<|QE U U (by omega) (by omega) U ?_;refine Qb U U<|Qf ?_;exact Q5 (L1:=[(3,intV 0),(6,_),(7,intV 2),(8,intV ((i+1:Nat):Int))]) (Rs U U U U) (k1:=2 -(i+1)) (by omega) ⟨i+1,by omega,rfl,l.pick [0,1] U,f,by omega,or_step k d g⟩
 refine QQ<|Qp<|Qp<|Qy<|Qc<|Qe<|Qa<|Qb U U<|Qd U U<|Qf<|Qc<|Qu<|QJ (.inr U) U U ?_;have h:i=2:=by omega
 subst h;have p:a=0:=by simpa using k 0 (by omega)
 have r:b=0:=by simpa using k 1 (by omega)
 exact⟨_,rfl,by unfold orI;rw[if_neg (by omega),r],f⟩
def qe5 (x y:KD):Int:=orI (Lib.compareBytes x.1 y.1) (Lib.compareInt x.2 y.2)
theorem Eo (a b:Bs) (w:World):Calls prog 148 #[strV a,strV b] w (Ret λv w'=>v=intV (Lib.compareBytes a b)/\w'=w):=
  (Tryz.strings_Compare ⟨a.toArray⟩ ⟨b.toArray⟩ w).mono λe w' ⟨c,d⟩=>⟨_,c,rfl,d⟩
theorem EU (a b:Int) (w:World):Calls prog 149 #[intV a,intV b] w (Ret λv w'=>v=intV (Lib.compareInt a b)/\w'=w):=
  (Tryz.cmp_Compare_int a b w).mono λe w' ⟨c,d⟩=>⟨_,c,rfl,d⟩
theorem cmpL_sp {F:Th} (g:Sat w [F]) (x y:KD):
    Calls prog 146 #[X7 x,X7 y] w (Ret λv w'=>v=intV (qe5 x y)/\GrW w w'):=by
 refine Qn func146 U ntmps146 U ?_;refine Qe<|Qa<|DD g U U U ?_;intro ka i b c;replace c:=Zr (k:=x) c;refine DD c U U U ?_;intro kb w2 d e;replace e:=Zr (k:=y) e;refine Qd U U<|Qf<|Qc<|Qe ?_;have a:=e.drew;refine Q7 [0,1,2,3,5,6,7,8,4,9,10,11,12] [4,9,10,11] Z9 (by kernel_rfl) ?_;refine QG U U U YR<|Q0 U U U (Ql U XT (by first | exact a.cell 0 U U | exact a.cell 1 U U)) ?_
 refine QG U U U YR<|Q0 U U U (Ql U XT (by first | exact a.cell 0 U U | exact a.cell 1 U U)) ?_
 refine QG U U U GN<|Q0 U U U (Ql U QL (by first | exact a.cell 0 U U | exact a.cell 1 U U)) ?_
 refine QG U U U GN<|Q0 U U U (Ql U QL (by first | exact a.cell 0 U U | exact a.cell 1 U U)) ?_
 refine QO U U U U U U ?_;refine Qw AJ U (Eo x.1 y.1 _) U ?_;rintro _ _ ⟨rfl,rfl⟩;refine Xh (.cons (.inl ⟨rfl,(Ql U QL (a.cell 0 U U))⟩) (.cons (.inl ⟨rfl,(Ql U QL (a.cell 1 U U))⟩) (Xd (by kernel_rfl)))) ?_;refine QO U U U U U U ?_;refine Qw AI U (EU x.2 y.2 _) U ?_;rintro _ _ ⟨rfl,rfl⟩;refine Xh (Xd (by kernel_rfl)) ?_;refine QO U U U U U U ?_;refine Gm inC [Lib.compareBytes x.1 y.1,Lib.compareInt x.2 y.2] a U underlying24 Uf U U U U (by rfl) rfl ?_;intro cc j f h;refine Xh (Xd (by kernel_rfl)) ?_;refine QO U U U U U U ?_;refine Qw AK U (or_sp (h.split [0] [true,false,false,false] U)) U ?_;rintro _ _ ⟨rfl,rfl⟩;refine Xh (Xd (by kernel_rfl)) ?_;exact Zd U U U (VC.nil (Qc (Qh [4] U (Qu (QJ (.inr U) U U (⟨_,U,U,(b.trans d).trans (GrW.drew.trans f)⟩))))))
theorem cmpI_sp {F:Th} (g:Sat w [F]) (x y:KD):
    Calls prog 203 #[X7 x,X7 y] w (Ret λv w'=>v=intV (qe5 x y)/\GrW w w'):=by
 refine Qn func203 U ntmps203 U ?_;refine Qe<|Qa<|DD g U U U ?_;intro ka i b c;replace c:=Zr (k:=x) c;refine DD c U U U ?_;intro kb w2 d e;replace e:=Zr (k:=y) e;refine Qd U U<|Qf<|Qc<|Qe ?_;have a:=e.drew;refine Q7 [0,1,2,3,5,6,7,8,4,9,10,11,12] [4,9,10,11] Z9 (by kernel_rfl) ?_;refine QG U U U YR<|Q0 U U U (Ql U XT (by first | exact a.cell 0 U U | exact a.cell 1 U U)) ?_
 refine QG U U U YR<|Q0 U U U (Ql U XT (by first | exact a.cell 0 U U | exact a.cell 1 U U)) ?_
 refine QG U U U GN<|Q0 U U U (Ql U QL (by first | exact a.cell 0 U U | exact a.cell 1 U U)) ?_
 refine QG U U U GN<|Q0 U U U (Ql U QL (by first | exact a.cell 0 U U | exact a.cell 1 U U)) ?_
 refine QO U U U U U U ?_;refine Qw AJ U (Eo x.1 y.1 _) U ?_;rintro _ _ ⟨rfl,rfl⟩;refine Xh (.cons (.inl ⟨rfl,(Ql U QL (a.cell 0 U U))⟩) (.cons (.inl ⟨rfl,(Ql U QL (a.cell 1 U U))⟩) (Xd (by kernel_rfl)))) ?_;refine QO U U U U U U ?_;refine Qw AI U (EU x.2 y.2 _) U ?_;rintro _ _ ⟨rfl,rfl⟩;refine Xh (Xd (by kernel_rfl)) ?_;refine QO U U U U U U ?_;refine Gm inC [Lib.compareBytes x.1 y.1,Lib.compareInt x.2 y.2] a U underlying24 Uf U U U U (by rfl) rfl ?_;intro cc j f h;refine Xh (Xd (by kernel_rfl)) ?_;refine QO U U U U U U ?_;refine Qw AK U (or_sp (h.split [0] [true,false,false,false] U)) U ?_;rintro _ _ ⟨rfl,rfl⟩;refine Xh (Xd (by kernel_rfl)) ?_;exact Zd U U U (VC.nil (Qc (Qh [4] U (Qu (QJ (.inr U) U U (⟨_,U,U,(b.trans d).trans (GrW.drew.trans f)⟩))))))
end Go.Proofs.YtifaibmhinlcfaaGreatDoor
namespace Go.Proofs.YtifaibmhinlcfaaGreatDoor.M
open Go.RowKit Go.Sort Proofs.Tryz
def cfK (x y:Bs×Int):Int:= if Lib.compareBytes x.1 y.1≠0 then Lib.compareBytes x.1 y.1 else Lib.compareInt x.2 y.2
def QV (l:List (Bs×Int)):List (Bs×Int):=l.mergeSort λx y=> !ltOf cfK y x
theorem Hd (l:List (Bs×Int)):(QV l).Perm l:=List.mergeSort_perm _ _
theorem Jd (l:List (Bs×Int)):(QV l).length=l.length:=(Hd l).length_eq
theorem cmpB: ∀a b:Bs,(Lib.compareBytes a b<0↔a<b)/\(Lib.compareBytes a b=0↔a=b)
  | [],[]=>by simp [Lib.compareBytes]
  | [],y::ys=>by simp [Lib.compareBytes]
  | x::xs,[]=>by simp [Lib.compareBytes]
  | x::xs,y::ys=>by
    have ih:=cmpB xs ys;unfold Lib.compareBytes;rw[List.cons_lt_cons_iff];by_cases c:x<y
    · have :x≠y:= λe=>by subst e;exact absurd c (UInt8.lt_irrefl _)
      simp [c,this]
    · by_cases d:y<x
      · have :x≠y:= λe=>by subst e;exact absurd d (UInt8.lt_irrefl _)
        simp [c,d,this]
      · have e:x=y:=UInt8.le_antisymm (UInt8.not_lt.1 d) (UInt8.not_lt.1 c);subst e;simp [c,ih.1,ih.2]
theorem ltK (x y:Bs×Int):ltOf cfK x y=true↔x.1<y.1\/x.1=y.1/\x.2<y.2:=by
  have h:=cmpB x.1 y.1;unfold ltOf cfK Lib.compareInt;by_cases e:x.1=y.1
  · rw[if_neg (by simpa using h.2.2 e)];have : ¬x.1<y.1:=by rw[e];exact List.lt_irrefl _
    by_cases a:x.2<y.2
    · simp [a,e]
    · by_cases b:x.2>y.2<;> simp [a,b,e,List.lt_irrefl]
  · rw[if_pos (by simpa using λq=>e (h.2.1 q))];simp [h.1,e]
theorem ltKf (x y:Bs×Int):ltOf cfK x y=false↔ ¬x.1<y.1/\(x.1=y.1-> ¬x.2<y.2):=by
  rw[<-Bool.not_eq_true,ltK];exact⟨λh=>⟨λa=>h (.inl a),λe a=>h (.inr ⟨e,a⟩)⟩,λ⟨b,c⟩ h=>h.elim b λ⟨e,a⟩=>c e a⟩
theorem bs_nlt {a b c:Bs} (h: ¬a<b) (d: ¬b<c): ¬a<c:=List.not_lt.2 (List.le_trans (List.not_lt.1 d) (List.not_lt.1 h))
theorem swoK:SWO (ltOf cfK) where
  irrefl x:=by rw[ltKf];exact⟨List.lt_irrefl _,λ_=>by omega⟩
  trans x y z a b:=by
    rw[ltK]at *;rcases a with a | ⟨c,a⟩<;> rcases b with b | ⟨d,b⟩
    · exact .inl (List.lt_trans a b)
    · exact .inl (d▸a)
    · exact .inl (c▸b)
    · exact .inr ⟨c.trans d,by omega⟩
  ntrans x y z a b:=by
    rw[ltKf]at *;refine⟨bs_nlt a.1 b.1,λe=> ?_⟩;have g: ¬z.1<y.1:=e▸a.1;have f:y.1=z.1:=List.le_antisymm (List.not_lt.1 g) (List.not_lt.1 b.1);have :=a.2 (e.trans f.symm);have :=b.2 f;omega
theorem totK (x y:Bs×Int) (a:ltOf cfK x y=false) (b:ltOf cfK y x=false):x=y:=by
  rw[ltKf]at *;have e:x.1=y.1:=List.le_antisymm (List.not_lt.1 b.1) (List.not_lt.1 a.1);exact Prod.ext e (by have :=a.2 e;have :=b.2 e.symm;omega)
theorem kC_get (l:List (Bs×Int)): ∀t,t<l.length*2->(kC.cells l)[t]! =(kC.enc l[t/ 2]!)[t%2]! :=by
  induction l with
  | nil=> intro t h;simp at h
  | cons a l ih=>
    intro t h;have e:kC.cells (a::l)=strV a.1::intV a.2::kC.cells l:=rfl;rw[e]
    match t with
    | 0=>rfl
    | 1=>rfl
    | t+2=>
      have b:=ih t (by simp at h;omega);have c:(t+2)/ 2=t/ 2+1:=by omega
      have d:(t+2)%2=t%2:=by omega
      rw[c,d]
      simpa using b
theorem ES (l:List (Bs×Int)):flatK kC.enc 2 l.toArray=(kC.cells l).toArray:=by
  refine ext_get! (by simp [RowC.cells_len];rfl) λt b=> ?_;have a:t<l.length*2:=by simpa using b
  rw[get_flatK _ _ _ _ (by simpa using a)];have :=kC_get l t a
  simpa using this.symm
theorem S8 (d xs sp:List Value) (h:d.length=xs.length):(putCells id 0 d.toArray (xs++sp).toArray)=(d++sp).toArray:=by
  apply Array.ext_getElem?;intro k;unfold putCells;simp only[Array.getElem?_mapIdx,List.getElem?_toArray,Nat.zero_le,true_and,Nat.zero_add,Nat.sub_zero,List.size_toArray];by_cases a:k<d.length
  · rw[List.getElem?_append_left (by simpa [<-h]using a),List.getElem?_append_left (by simpa using a)];simp [a,h▸a]
  · rw[List.getElem?_append_right (by omega),List.getElem?_append_right (by omega)];have b: ¬k<xs.length:=by omega
    simp only[h,b,if_false,Option.map_id']
theorem Du {P:Program} {f:Nat} {fv:Value}
    (c: ∀(blk off cap:Nat) (ss:List (Bs×Int)) (w:World),HoldsK kC.enc 2 w blk off ss.toArray->blk<w.heap.size->ss.length<4611686018427387904->Calls P f #[.slice (some ⟨blk,off,none⟩) ss.length cap,fv] w λe w'=>e= .returned (.tuple #[])/\ ∃n os,w'=sortWorldK kC.enc 2 w blk off n (QV ss).toArray os)
    (d: ∀(p:Option Addr) (cap:Nat) (w:World),Calls P f #[.slice p 0 cap,fv] w λe w'=>e= .returned (.tuple #[])/\w'=w)
    {w:World} {v:Value} {l:List (Bs×Int)} {As:List Th} (A:Sat w (rowT kC v l::As)) (K:l.length<4611686018427387904):Calls P f #[v,fv] w (Ret λu w'=>u= .tuple #[]/\Sat w' (rowT kC v (QV l)::As)):=by
  obtain⟨foot,H,h⟩:=A.own 0 rfl;rcases h with⟨rfl,B,L⟩ | ⟨b,cap,sp,rfl,m,o,r,L⟩
  · have :l=[]:=List.eq_nil_of_length_eq_zero B;subst this;exact(d none 0 w).mono λe w' ⟨C,a⟩=>⟨_,C,rfl,by rw[a];simpa [QV]using A⟩
  · have M:HoldsK kC.enc 2 w b 0 l.toArray:= λj I=>by
      rw[ES]at I⊢;have s:j<(kC.cells l).length:=by simpa using I
      refine⟨?_, ?_⟩
      · rw[Nat.zero_add];refine o.cell ?_;rw[List.getElem?_append_left (by simpa using s)];simp [s]
      · exact o.free _ (by simp;omega)
    refine(c b 0 cap l w M o.lt K).mono λe w' ⟨C,n,os,a⟩=>⟨_,C,rfl, ?_⟩;have D:=o.lt;have E:(kC.cells (QV l)).length=(kC.cells l).length:=by rw[RowC.cells_len,RowC.cells_len,Jd]
    unfold sortWorldK putRowK at a;rw[ES]at a
    have i: ∀k,k<w.heap.size->k≠b->w'.heap[k]? =w.heap[k]? := λk t F=>by
      rw[a,heap_grow_old _ _ (by simpa using t)];simp only[putRow,mapBlock,heap_ahead,Array.getElem?_modify];rw[if_neg (λq=>F q.symm)]
    obtain⟨T,lo,hi,N,G⟩:=o
    have x:w'.heap[b]? =some (.cells (kC.cells (QV l)++sp).toArray T (lo,hi)):=by
      rw[a,heap_grow_old _ _ (by simpa using D)];simp only[putRow,mapBlock,heap_ahead,Array.getElem?_modify,if_pos,N,Option.map_some,onCells];rw[S8 _ _ _ E]
    have O:Only [b] w w':=by
      refine⟨?_, ?_, ?_, ?_,λk t B=>i k t (by simpa using B)⟩
      · rw[a];rfl
      · rw[a];rfl
      · rw[a];rfl
      · rw[a];simp
    have y:=A.own_set (w':=w') 0 U (v':= .slice (some ⟨b,0,none⟩) l.length cap) (n':=l.length) (size':=2) (xs':=kC.cells (QV l)) (λfoot' g=>by
      obtain⟨_,g⟩:=g;rcases g with⟨z,_⟩ | ⟨b',cap',sp',z,g1,g2,g3,J⟩
      · cases z
      · simp only[Value.slice.injEq,Option.some.injEq,Addr.mk.injEq,and_true,true_and]at z;obtain⟨rfl,rfl⟩:=z;refine⟨[b],⟨?_,.inr ⟨b,cap,sp,U,m,⟨T,lo,hi, ?_, ?_⟩, ?_,U⟩⟩, ?_, ?_⟩
        · rw[kC.cells_len,Jd];rfl
        · exact x
        · rcases G with q | q
          · exact .inl q
          · refine .inr ?_;simp only[List.length_append,kC.cells_len,Jd]at q⊢;exact q
        · simp only[List.length_append,kC.cells_len,Jd]at r⊢;exact r
        · rw[J];exact O
        · rw[J];intro k t;exact .inl t)
    have e:(QV l).length=l.length:=Jd l;show Sat w' (Jk _ (QV l).length 2 _::As);rw[e];exact y
end Go.Proofs.YtifaibmhinlcfaaGreatDoor.M
namespace Go.Proofs
open Proofs.Tryz
open Go.Shelf
def Tryz.sortKeys_ren:Go.Shelf.Ren:=⟨fun | 6=>198 | 15=>122 | 14=>225 | 28=>168 | 29=>169 | 20=>242 | 21=>243 | 22=>244 | 23=>245 | 24=>246 | 25=>247 | 26=>248 | 27=>249 | 46=>256 | 47=>208 | 48=>209 | 49=>257 | 50=>258 | 57=>260 | n=>n,fun | 22=>163 | 24=>151 | 25=>218 | 3=>3 | 39=>194 | 0=>0 | 53=>234 | 55=>152 | 4=>4 | 46=>227 | 45=>226 | 50=>172 | 5=>5 | 9=>9 | 66=>259 | 70=>221 | 76=>271 | 77=>272 | n=>n,fun | n=>n⟩
theorem Tryz.sortKeys:Go.Proofs.SlLaysF0.n6 prog Tryz.sortKeys_ren:={
  mixed:=by kernel_rfl
  f6:=⟨Tryz.f198.name,by decide,func198.trans (congrArg some (by kernel_rfl))⟩
  f14:=⟨Tryz.f225.name,by decide,func225.trans (congrArg some (by kernel_rfl))⟩
  f15:=func122.trans (congrArg some (by kernel_rfl))
  f20:=⟨Tryz.f242.name,by decide,func242.trans (congrArg some (by kernel_rfl))⟩
  f21:=⟨Tryz.f243.name,by decide,func243.trans (congrArg some (by kernel_rfl))⟩
  f22:=⟨Tryz.f244.name,by decide,func244.trans (congrArg some (by kernel_rfl))⟩
  f23:=⟨Tryz.f245.name,by decide,func245.trans (congrArg some (by kernel_rfl))⟩
  f24:=⟨Tryz.f246.name,by decide,func246.trans (congrArg some (by kernel_rfl))⟩
  f25:=⟨Tryz.f247.name,by decide,func247.trans (congrArg some (by kernel_rfl))⟩
  f26:=⟨Tryz.f248.name,by decide,func248.trans (congrArg some (by kernel_rfl))⟩
  f27:=⟨Tryz.f249.name,by decide,func249.trans (congrArg some (by kernel_rfl))⟩
  f28:=func168.trans (congrArg some (by kernel_rfl))
  f29:=func169.trans (congrArg some (by kernel_rfl))
  f46:=⟨Tryz.f256.name,by decide,func256.trans (congrArg some (by kernel_rfl))⟩
  f47:=func208.trans (congrArg some (by kernel_rfl))
  f48:=func209.trans (congrArg some (by kernel_rfl))
  f49:=⟨Tryz.f257.name,by decide,func257.trans (congrArg some (by kernel_rfl))⟩
  f50:=⟨Tryz.f258.name,by decide,func258.trans (congrArg some (by kernel_rfl))⟩
  f57:=⟨Tryz.f260.name,by decide,func260.trans (congrArg some (by kernel_rfl))⟩
  t0:=underlying0
  a0:=Tryz.isAgg0
  z0:=Tryz.sizeOf0
  v0:=Tryz.zeroValue0
  t3:=underlying3
  a3:=Tryz.isAgg3
  z3:=Tryz.sizeOf3
  v3:=Tryz.zeroValue3
  t4:=underlying4
  a4:=Tryz.isAgg4
  z4:=Tryz.sizeOf4
  v4:=Tryz.zeroValue4
  t5:=underlying5
  a5:=Tryz.isAgg5
  z5:=Tryz.sizeOf5
  v5:=Tryz.zeroValue5
  t9:=underlying9
  a9:=Tryz.isAgg9
  z9:=Tryz.sizeOf9
  v9:=Tryz.zeroValue9
  t22:=underlying163
  a22:=Tryz.isAgg163
  z22:=Tryz.sizeOf163
  v22:=Tryz.zeroValue163
  t25:=underlying218
  a25:=Tryz.isAgg218
  z25:=Tryz.sizeOf218
  v25:=Tryz.zeroValue218
  t39:=underlying194
  a39:=Tryz.isAgg194
  z39:=Tryz.sizeOf194
  v39:=Tryz.zeroValue194
  t45:=underlying226
  a45:=Tryz.isAgg226
  z45:=Tryz.sizeOf226
  v45:=Tryz.zeroValue226
  t46:=underlying227
  a46:=Tryz.isAgg227
  z46:=Tryz.sizeOf227
  v46:=Tryz.zeroValue227
  t50:=underlying172
  a50:=Tryz.isAgg172
  z50:=Tryz.sizeOf172
  v50:=Tryz.zeroValue172
  t53:=underlying234
  a53:=Tryz.isAgg234
  z53:=Tryz.sizeOf234
  v53:=Tryz.zeroValue234
  t55:=underlying152
  a55:=Tryz.isAgg152
  z55:=Tryz.sizeOf152
  v55:=Tryz.zeroValue152
  t66:=underlying259
  a66:=Tryz.isAgg259
  z66:=Tryz.sizeOf259
  v66:=Tryz.zeroValue259
  t70:=underlying221
  a70:=Tryz.isAgg221
  z70:=Tryz.sizeOf221
  v70:=Tryz.zeroValue221
  t76:=underlying271
  a76:=Tryz.isAgg271
  z76:=Tryz.sizeOf271
  v76:=Tryz.zeroValue271
  t77:=underlying272
  a77:=Tryz.isAgg272
  z77:=Tryz.sizeOf272
  v77:=Tryz.zeroValue272}
end Go.Proofs
namespace Go.Proofs.YtifaibmhinlcfaaGreatDoor
open Go.RowKit M Proofs.Tryz
variable {It:Th} {caps:List Value} {g:Int→Option Value} {gf:Nat} {w:World}
theorem qds {l c b:Nat} {J:List Int->Th} {F:Th} (o:Sat w [J [],Q6 c [.map (some b)],Q4 QY b g,F]) (q:Hm prog l QY (okC g) J):
    Calls prog 78 #[.func (.yield l) #[] #[],ptrV c 0] w (Ret λv w'=> ∃ks,AllC g ks/\Sat w' [J ks,Q6 c [.map (some b)],Q4 QY b g,F]):=by
 refine Qn func78 U ntmps78 U ?_;refine Qe<|Qa<|Qo U ZZ (by first | assumption | exact o.cell 1 U U) U ?_
 refine WN 2 o underlying74 U U U ?_;intro RR left0 wR h;dsimp only[List.set]at h;refine Qf<|Qc<|Qx<|QU (λK0 E0 W0=> ∃(dn:Int->Prop) (cur:Option Int) (left:Nat) (ks:List Int),K0=1*left/\E0=[(0,.func (.yield l) #[] #[]),(5,ptrV RR 0)]/\Sat W0 [J ks,WI QY b RR g dn cur left,Q6 c [.map (some b)],F]/\(CSt g dn ks)) (L0:=[(0,_),(5,_)]) (1*left0) (D0 U U) ⟨_,_,_,_,rfl,rfl,h.reorder [0,2,1,3] U,CSt.start g⟩ ?_;rintro _ _ r ⟨dn,cur,left,ks,rfl,rfl,p,d⟩;refine Qe<|Qa<|JA 1 p keysInt.inj U U U (λe=> ?_) (λk v left2 w2 j f i m=> ?_)
 ·refine Qr U U U<|Qf<|Qc<|Qe<|QM U<|QQ<|Qp<|Qp<|Qy<|Zb (.inl U) U ?_;exact⟨_,rfl,ks,d.all e,by have a:=Wh (p.reorder [1,0,2,3] U);exact a.reorder [1,2,0,3] U⟩
 dsimp only[List.set]at m;refine Qr U U U<|Qf<|Qc<|Qe<|Xm U<|Qt<|Qc<|Qx<|Qe<|Qa<|Jc 1 m U f U U<|Qr U U U<|Qd U U<|Qf<|Qc<|Qe<|WV<|X0 U (X2 U)<|X0 U (X2 U)<|Hb U U U (q _ _ _ _ (d.ok i f) (m.sp [0] U)) ?_;intro s n;replace n:=n.jn U U;refine X0 U (Hy U)<|Hi<|Qc<|Qh [5,0,13] U<|QM U<|Qt<|Qm ?_;have a:=n.reorder [0,1,2,3] U;dsimp only[Yu,Ub]at a;exact Q5 (L1:=[(0,_),(5,_)]) (D0 U U) (k1:=1*left2) (by omega) ⟨_,_,_,_,rfl,rfl,a,d.step i f⟩
theorem qdr {v0:Value} {F:Th} (a:Sat w [F]) (d:v0.oneCell'=true):
    Calls prog 31 #[v0] w (Ret λv w'=> ∃c,v= .func (.func 78) #[] #[ptrV c 0]/\Sat w' [Q6 c v0.cells.toList,F]):=by
 refine Qn func31 U ntmps31 U ?_;refine Qe<|Qa<|XL a U U U ?_;intro b1 e b;exact Qd U U (Qf (Qc (Qe (Qa (ZB U U (Qd U U (Qf (Qc (Qu (QJ (.inr U) U U (⟨_,U,_,U,b⟩)))))))))))
theorem sortI0 {v:Value} {l:List Int} {F:Th} (a:Sat w [rowT inC v l,F]) (b:l.length<4611686018427387904):Calls prog 77 #[v] w (Ret λu w'=>u= .tuple #[]/\Sat w' [rowT inC v (XU l),F]):=F9 Tryz.slices_Sort_int Tryz.slices_Sort_int_none a b
def ItI (g:Int->Option Value) (gf:Nat) (caps:List Value) (It:Th):Prop:= ∀(l:Nat) (J:List Int->Th) (X:Th) (w:World),Sat w [J [],It,X]->Hm prog l QY (okC g) J->Calls prog gf (.func (.yield l) #[] #[]::caps).toArray w (Ret λ_ w'=> ∃ks,AllC g ks/\Sat w' [J ks,It,X])
def JI (l D b:Nat) (rec:Loop) (ks:List Int):Th:=Cp λv:Value=>starL [JC l rec,WC D,Q6 b [v],rowT inC v ks]
theorem appI {F:Th} (N:Sat w [It,F]) (p:Q8 prog gf=true) (C:ItI g gf caps It) (q: ∀ks,Came g ks->ks.length<=100000000000):
    Calls prog 120 [.slice none 0 0,.func (.func gf) #[] caps.toArray].toArray w (Ret λv w'=> ∃ks,AllC g ks/\Sat w' [rowT inC v ks,It,F]):=by
 refine HC func120 U ntmps120 U ?_;refine Qe<|Qa<|XL N U U U ?_;intro b1 Y O;refine Qd U U<|Qf<|Qc<|Qe<|Qe<|Qa<|Qb U U<|Qf<|Qc<|Qx<|H4 (caps:=caps) U p ?_;intro rec r s D E G t u;have P:=((O.enter_loop rec).row_nil inC);have H:=P.sp [1,2,3,0] U;have I:=Sat.ex_intro (f:= λv:Value=>starL [JC _ _,WC _,Q6 _ [v],rowT inC v []]) _ (Sat.fold (As:=[JC _ _,WC _,Q6 _ [_],rowT inC _ []]) H);refine(C _ (JI _ _ _ _) _ _ (I.join U) ?_).mono ?_
 ·intro ks k R w2 J K;obtain⟨v,l⟩:=K.ex;have b:=l.flat;dsimp only[Dg,Df]at b;have L:=q _ J;simp only[List.length_append,List.length_cons,List.length_nil]at L;refine Mn (b.loop 0 rfl) r s D E G t u rfl (by intro o x c;simp at x;subst x;simp) (by intro o x c;simp at x;rcases x with rfl | rfl | rfl | rfl | rfl<;> simp) ?_
  intro QA Q;refine Qd U U<|Qf<|Q _ _ (b.loop 0 U) ?_;intro QB S;have T:v.oneCell'=true:=b.own_one 3 U;have d:=b.loop_put 0 U (rec':={rec with state:= .busy});dsimp only[List.set]at d
  refine Qo U J0 (d.cell 2 U U) U<|Qb U U<|X8 inC [k] d U underlying24 Uf U U U U (by rfl) rfl ?_;intro b3 V h;refine Zx inC 4 h U U U (h.rd 0 U (by simp)) underlying24 underlying24 (by intro k W;cases W) H0 U (by simp;omega) U (by simp;omega) ?_;intro v4 Z j;dsimp only[List.set]at j;have y:v4.oneCell'=true:=j.own_one 4 U;refine QK j U U Gw y (i:=3) U (by simp) ?_;intro w5 m;dsimp only[List.set]at m;refine Qf<|S _ _ (m.loop 1 U) ?_;have z:=m.loop_put 1 U (rec':=rec);dsimp only[List.set]at z;exact(Sat.ex_intro (f:= λv:Value=>starL [JC _ _,WC _,Q6 _ [v],rowT inC v (ks++[k])]) v4 (Sat.fold (As:=[JC _ _,WC _,Q6 _ [_],rowT inC _ _]) (z.pick [1,2,3,4,5] U)))
 ·rintro e V ⟨v0,rfl,ks,A,l⟩;obtain⟨v,b⟩:=l.ex;have d:=b.flat;dsimp only[Dg,Df]at d;refine⟨⟨v0,rfl⟩,rec,d.loop 0 U,by rw[r];simp,s, ?_⟩;intro a B M;have h:=d.loop_put 0 U (rec':={rec with state:= .exhausted});dsimp only[List.set]at h
  obtain⟨X,j⟩:=h.defer_put (o:= .deferred none) 1 rfl;dsimp only[List.eraseIdx]at j;refine M5 (n:=13) (by rw[B];exact t) (by rw[B];exact u) M U J0 (h.cell 2 U U) X U U U ?_;exact⟨_,U,ks,A,j.pick [2,3,4] U⟩
def Kj (c b:Nat) (g:Int->Option Value):Th:=starL [Q6 c [.map (some b)],Q4 QY b g]
theorem Came.of_all {κ:Type} {g:κ->Option Value} {ks:List κ} (h:AllC g ks):Came g ks:=⟨h.nodup,λk a=>(h.mem k).1 a⟩
theorem itI (c b:Nat) (g:Int->Option Value):ItI g 78 [ptrV c 0] (Kj c b g):= λl J X w d f=>by
  have a:=(d.perm (List.Perm.swap _ _ _)).flat;dsimp only[Dg,Df]at a;refine(qds (a.reorder [2,0,1,3] U) f).mono λe w' h=>h.mono λv w' ⟨ks,i,j⟩=>⟨ks,i, ?_⟩;exact(Sat.fold (As:=[Q6 c [.map (some b)],Q4 QY b g]) (j.reorder [1,2,0,3] U)).perm (List.Perm.swap _ _ _)
theorem colI {F:Th} (f:Sat w [It,F]) (a:Q8 prog gf=true) (d:ItI g gf caps It) (b: ∀ks,Came g ks->ks.length<=100000000000):
    Calls prog 76 #[.func (.func gf) #[] caps.toArray] w (Ret λv w'=> ∃ks,AllC g ks/\Sat w' [rowT inC v ks,It,F]):=by
 refine Qn func76 U ntmps76 U ?_;refine Qe<|Qa<|Qd U U<|Qf<|Qc<|Qe<|Qa<|Qb U U<|Qw cal_120 U (appI (f.sp [0] U) a d b) U ?_;rintro _ i ⟨ks,e,c⟩;replace c:=c.jn U U;have h:=c.own_one 0 U;exact Qd U U (Qf (Qc (Qu (QJ (.inr U) U U (⟨_,U,ks,e,c⟩)))))
theorem Vj {F:Th} (h:Sat w [It,F]) (b:Q8 prog gf=true) (e:ItI g gf caps It) (a: ∀ks,Came g ks->ks.length<=100000000000):
    Calls prog 30 #[.func (.func gf) #[] caps.toArray] w (Ret λv w'=> ∃ks,AllC g ks/\Sat w' [rowT inC v (XU ks),It,F]):=by
 refine Qn func30 U ntmps30 U ?_;refine Qe<|Qa<|Qd U U<|Qf<|Qc<|Qe<|Qa<|Qb U U<|Qw cal_76 U (colI (h.sp [0] U) b e a) U ?_;rintro _ k ⟨ks,c,d⟩;replace d:=d.jn U U;have i:=d.own_one 0 U;have j:=a _ (Came.of_all c);refine Qd U U<|Qf<|Qc<|Qe<|Qa<|Qb U U<|Qw cal_77 U (sortI0 (d.sp [0] U) (by omega)) U ?_;rintro _ w2 ⟨rfl,f⟩;replace f:=f.jn U U;exact Qf (Qc (Qe (Qa (Qb U U (Qd U U (Qf (Qc (Qu (QJ (.inr U) U U (⟨_,U,ks,c,f⟩))))))))))
theorem Kh: ∀{l m:List Int},l.Nodup->(∀x∈l,x∈m)->l.length<=m.length
  | [],_,_,_=>Nat.zero_le _
  | a::l,m,e,b=>by
    obtain⟨f,g⟩:=List.nodup_cons.1 e;have h:=Kh (l:=l) (m:=m.erase a) g λx c=>(List.mem_erase_of_ne (λq=>f (by rw[<-q];exact c))).2 (b x (List.mem_cons_of_mem _ c));have d:=b a (by simp);have i:=List.length_erase_of_mem d;have j:=List.length_pos_of_mem d;rw[List.length_cons];omega
theorem OH {p:Nat} {S:SS} {F:Th} (c:Sat w [He p S,F]) {ids:List Int} (hd: ∀j,S.all j≠none->j∈ids) (k:ids.length<=100000000000):
    Calls prog 11 #[ptrV p 0] w (Ret λv w'=> ∃ks,AllC (aG S.all) ks/\Sat w' [rowT inC v (XU ks),He p S,F]):=by
 have a: ∀ks:List Int,Came (aG S.all) ks->ks.length<=100000000000:= λks g=>Nat.le_trans (Kh g.nodup λx l=>hd x λq=>g.has x l (by unfold aG;rw[q];rfl)) k;obtain⟨ba,bi,fp,sp,kp,ac,cc,at2,ct,c⟩:=Zn c;refine Qn func11 U ntmps11 U ?_;refine Qe<|Qa<|Qd U U<|Qf<|Qc<|Qe<|Qa<|Qb U U<|Qj U U<|Qg U Zg U<|Qo U ZZ (c.cell 0 U U) U<|Qw cal_31 U (qdr (c.sp [] U) U) U ?_;rintro _ m ⟨ck,rfl,d⟩;replace d:=d.jn U U;have h:=Sat.fold (As:=[Q6 ck [.map (some ba)],Q4 QY ba (aG S.all)]) (d.pick [0,2,1,3,4,5,6,7,8,9] U);have b:=h.sp [0] U;refine Qw PD U (Vj b cal_78 (itI ck ba (aG S.all)) a) U ?_;rintro _ w2 ⟨ks,e,f⟩;replace f:=f.jn U U;clear b;clear h;refine Qd U U<|Qf<|Qc<|Qu<|QJ (.inr U) U U ?_;have i:=(f.pick [1,0,2,3,4,5,6,7,8,9] U).flat;dsimp only[Kj,Dg,Df]at i;exact⟨_,U,ks,e,(Xe (S:=S) (i.pick [3,1,4,5,6,7,8,9,2,10] U)).reorder [1,0,2] U⟩
