/- laws of trials: small -/
import Derived.Test.YtifaibmhinlcfaaGreatDoorTr12
import Derived.Test.YtifaibmhinlcfaaGreatDoorLv1
import Derived.Test.YtifaibmhinlcfaaGreatDoorWc
set_option linter.unusedSectionVars false
set_option linter.unusedVariables false
set_option maxRecDepth 100000
set_option maxHeartbeats 3200000
namespace Go.Proofs.YtifaibmhinlcfaaGreatDoor
open Go.RowKit M Proofs.Tryz
variable [Inhabited SlW]
variable {A:LvA} {B D:Th} {G:(KD→Int)→Prop} {a i j:Int} {b c e m:Nat} {k v:Bs} {n:NodeD} {t:TrA} {w:World} {x x' y:OneD}
theorem Gu {a:TrAd} {T T':Nodes} {l l2:Int} {p n cc:Nat} {C C':CeD} {A':LvA} {As:List Th} (h:Sat w (Z5 a T l::Y8 c C::lsT b p n m cc e A::As)) (d:T'=T) (f:C'=C) (g:A'=A) (i:l2=l):Sat w (Z5 a T' l2::Y8 c C'::lsT b p n m cc e A'::As):=by
  subst d;subst f;subst g;subst i;exact h
theorem sees_nz {k:KD} {n:Nat}:YE A (n+1) 0 k=A.pres k:=by rw[YE,if_pos U]
structure OneB (A:LvA) (T:Nodes) (id:Int) (k:KD) (own:Bs) (wr:BitVec 64):Prop extends LvP A T where
  pr: ∀j,A.pres j=zer
  tr: ∃t,A.tr id=some t∧t.parent=0∧t.lv=QN (fun _=>none) k (some ⟨zer,own,0#64,wr⟩)∧ ∀ob,t.dr ob=false
  ot: ∀i t,A.tr i=some t→ ∀ob,t.dr ob=false
  qt: ∀i t,i≠id→A.tr i=some t→t.lv=(fun _=>none)∧t.dr= fun _=>false
section
variable {A:LvA} {T:Nodes} {id last:Int} {k:KD} {own:Bs} {wr:BitVec 64}
theorem QuA.oneB (h:QuA A T) (d:id≠0) (f:T id=some n) (g:n.par=0) (l: ∀j,A.pres j=zer) {b:UInt8}:
    OneB (Wj A id k (wrX (Z6 A id k) a b)) T id k (zer.set a.toNat b) (1#64<<<a.toNat):=by
  have c:=h.get d f;rw[g]at c
  have m:WY A id k=zer:=by
    unfold WY;rw[YE,if_neg d,c];dsimp only;rw[if_neg (by simp)];exact(show YE A (99999+1) 0 k=zer from sees_nz.trans (l k))
  have o:Z6 A id k=⟨zer,zer,0#64,0#64⟩:=by rw[CK c U,m];rfl
  have p:wrX (Z6 A id k) a b=⟨zer,zer.set a.toNat b,0#64,1#64<<<a.toNat⟩:=by rw[o];unfold wrX;simp
  rw[p]
  have q: ∀i t,(Wj A id k ⟨zer,zer.set a.toNat b,0#64,1#64<<<a.toNat⟩).tr i=some t-> ∃u,A.tr i=some u/\t.parent=u.parent/\t.dr=u.dr:= λi t hi=>by
    by_cases e:i=id
    · subst e;rw[Wi c]at hi;have hi:QN A.tr i _ i=some t:=hi;rw[Qv]at hi;cases hi;exact⟨_,c,U,U⟩
    · rw[H7 e]at hi;exact⟨t,hi,rfl,rfl⟩
  refine⟨⟨by rw[H7 (λe=>d e.symm)];exact h.zero,λi hi=> ?_⟩,λj=>by rw[BC];exact l j,⟨_,by rw[Wi c];exact Qv,rfl,rfl,λ_=>rfl⟩,λi t hi ob=> ?_,λi t e hi=>h.none (by rw[H7 e]at hi;exact hi)⟩
  · by_cases e:i=id
    · subst e;rw[f,Wi c];show _=(QN A.tr i _ i).map TrA.parent;rw[Qv,<-g];rfl
    · rw[H7 e];exact h.par i hi
  · obtain⟨u,r,_,e⟩:=q i t hi;rw[e,(h.none r).2]
theorem OneB.dr (h:OneB A T id k own wr):DrA A:= λi t j x a hd _=>by rw[h.ot i t a j.1]at hd;cases hd
theorem OneB.drle (h:OneB A T id k own wr) (a:A.tr id=some t):DrLe t 0:=⟨[],Nat.le_refl _,λob hd=>by rw[h.ot id t a ob]at hd;cases hd⟩
theorem OneB.lv (h:OneB A T id k own wr) (c:A.tr id=some t):t.parent=0/\t.lv=QN (λ_=>none) k (some ⟨zer,own,0#64,wr⟩):=by
  obtain⟨u,d,a,b,_⟩:=h.tr;rw[d]at c;cases c;exact⟨a,b⟩
theorem OneB.part (h:OneB A T id k own wr) (b:A.tr id=some t):PartLe t 1:=⟨[k],Nat.le_refl _,λj x a _ _=>by
  rw[(h.lv b).2]at a;by_cases e:j=k
  · simp [e]
  · rw[Qz e]at a;cases a⟩
theorem OneB.va (h:OneB A T id k own wr) (b:A.tr id=some t):VA A t:= λj x a i hi c=>by
  rw[(h.lv b).2]at a;by_cases e:j=k
  · subst e;rw[Qv]at a;cases a;simp at c
  · rw[Qz e]at a;cases a
theorem OneB.com (h:OneB A T id k own wr) (d:id≠0) (f:A.tr id=some t) {order:List KD} {obs:List Bs} (b:(∀j,j∈order↔t.lv j≠none)/\order.Nodup/\(∀ob,ob∈obs↔t.dr ob=true)) (g:wr≠0#64):
    QuA (DA A id t order obs) (QN T id none)/\(DA A id t order obs).pres k=Ca zer own wr:=by
  have c:=h.lv f;rw[IP c.1 b.2.1 b.1 b.2.2];refine⟨⟨h.toLvP.del d U,λ{i u} a=> ?_⟩, ?_⟩
  · have a:QN A.tr id none i=some u:=a;by_cases e:i=id
    · subst e;rw[Qv]at a;cases a
    · rw[Qz e]at a;exact h.qt i u e a
  show qe1 A t k=_;unfold qe1;rw[c.2,Qv];dsimp only;rw[if_neg g,h.pr]
theorem LvP.oth (h:LvP A T) {p1 p2:NodeD} (a:T i=some p1) (b:p2.par=p1.par):LvP A (QN T i (some p2)):=h.same λj c=>by
  by_cases e:j=i
  · subst e;rw[Qv,a];show some p2.par=some p1.par;rw[b]
  · rw[Qz e]
end
structure SmS (C:CeD) (T:Nodes) (last:Int) (ids:List Int) (f:Bs→Option Bs):Prop where
  tri:TrI T last
  w:CeW C T
  few:FewT T ids
  z:T 0=some zN
  pz: ∀{i n},T i=some n→n.par=0
  root: ∃y,C.all 0=some y∧y.par=none∧y.writes=f∧y.order=[]∧y.vals= fun _=>none
section
variable {C:CeD} {T:Nodes} {id last:Int} {ids:List Int} {f:Bs→Option Bs}
theorem TQ.sm (h:TQ T last C A []) (b:T 0=some zN) (c: ∀{i n},T i=some n->n.par=0):SmS C T last [] (λ_=>none):=by
  obtain⟨y,a⟩:=h.ce.get b;exact⟨h.tri,h.ce.toCeW,h.few,b,c,y,a,h.ce.root a,(h.ce.quiet a).1,(h.ce.quiet a).2.2.2.1,(h.ce.quiet a).2.2.1⟩
def nw0 (id gue:Int):NodeD:=⟨id,0,1,gue,0,false,false⟩
theorem SmS.begin (h:SmS C T last ids f) (t:ids.length<=30) {g:Int} {y x:OneD} (m:C.all 0=some y) (p: ∀j z,C.all j=some z->z.ad≠x.ad) (k:x.par=some y.ad) (l:x.kids=0):
    SmS ⟨C.ma,QN (QN C.all 0 (some {y with kids:=y.kids+1})) (last+1) (some x)⟩ (QN T (last+1) (some (nw0 (last+1) g))) (last+1) (ids++[last+1]) f:=by
  have r:=h.tri.last0;obtain⟨u,a,b,c,o,d⟩:=h.root;rw[m]at a;cases a;have s:=h.tri.begin (n:=g) h.z;refine⟨s,h.w.begin h.tri h.z m p k l,⟨h.few.1.begin h.tri,by rw[List.length_append];simp;omega⟩,by rw[Qz (by omega)];exact h.z,λ{i n} q=> ?_,{y with kids:=y.kids+1}, ?_,b,c,o,d⟩
  · by_cases e:i=last+1
    · subst e;rw[Qv]at q;cases q;rfl
    · rw[Qz e]at q;exact h.pz q
  · show QN (QN C.all 0 _) (last+1) _ 0=_;rw[Qz (by omega),Qv]
theorem TU:(⟨C.ma,QN (QN C.all 0 (some y)) id (some x)⟩:CeD).all id=some x:=Qv
theorem qai (a:j≠0) (b:j≠id):(⟨C.ma,QN (QN C.all 0 (some y)) id (some x)⟩:CeD).all j=C.all j:=by
  show QN (QN C.all 0 _) id _ j=_;rw[Qz b,Qz a]
theorem SmS.set (h:SmS C T last ids f) {x x':OneD} (c:id≠0) (d:C.all id=some x) (g:x'.ad=x.ad) (i:x'.par=x.par) (j:x'.kids=x.kids):SmS (C.up id x') T last ids f:=by
  obtain⟨y,a,b⟩:=h.root;exact⟨h.tri,h.w.set d g i j,h.few,h.z,h.pz,y,by show QN C.all id _ 0=_;rw[Qz (λe=>c e.symm)];exact a,b⟩
theorem SmS.sees (h:SmS C T last ids f) (k:Bs):SeesR C T k 0 ((f k).getD []):=by
  obtain⟨y,a,b,c,o,d⟩:=h.root;cases q:f k with
  | none=> exact .root a (by rw[c];exact q) (by rw[d])
  | some v=> exact .wr a (by rw[c];exact q)
theorem SmS.com (h:SmS C T last ids f) (g:id≠0) (u:T id=some n) (k:n.par=0) (G:C.all id=some x) (p:C.all 0=some y) (r: ∀j,¬ChildOf T id j) (v:n.el=0) (A:n.timed=false):
    ∃ids',SmS (TI C id n.par x y) (TH T id n zN) last ids' (US x y)/\ids'.length<=ids.length:=by
  obtain⟨H,a,b,c,o,d⟩:=h.root;rw[p]at a;cases a
  have ez:Cu zN n=zN:=by
    unfold Cu;rw[v,A];rfl
  have B:TH T id n zN=QN T id none:=by
    unfold TH;rw[ez,k,Wr h.z]
  have l:=(h.w.set (id:=0) (x':={y with writes:=US x y}) p U U U).del h.tri g u r (y:={y with writes:=US x y}) (by rw[k];exact Qv)
  have E:=TZ r;obtain⟨ids',s,F⟩:=h.few.abs (D:= λj=>j=id);have t:=h.tri.abS (D:= λj=>j=id) (λq=>g q.symm);rw[E]at s t;rw[B];refine⟨ids',⟨t, ?_,s,by rw[Qz (λe=>g e.symm)];exact h.z,λ{i m} q=> ?_,{y with writes:=US x y,kids:=y.kids -1}, ?_,b,rfl,o,d⟩,F⟩
  · unfold TI;rw[k]at l⊢;dsimp only at l;rw[Hj]at l;exact l
  · by_cases e:i=id
    · subst e;rw[Qv]at q;cases q
    · rw[Qz e]at q;exact h.pz q
  · show QN (QN C.all n.par _) id _ 0=_;rw[Qz (λe=>g e.symm),k,Qv]
theorem SmS.nokid (h:SmS C T last ids f) (c:id≠0): ∀j,¬ChildOf T id j:= λj ⟨n,a,_,b⟩=>c (b.symm.trans (h.pz a))
theorem qcc (a:v≠[]):(Ye x k v).writes k=some v:=by
  show QN x.writes k _ k=_;rw[Qv,if_neg (λq=>a q.2)]
theorem Ar (a:v≠[]) (b:x.writes k=some v):US x y k=some v:=by
  unfold US;rw[b];dsimp only;rw[if_neg (λq=>a q.2)]
theorem Bi:(K5 A i j).pres=A.pres:=by unfold K5;split<;>rfl
theorem qcx (h:Vq i=some n):n.par=0:=by
  unfold Vq at h;by_cases e:i=0
  · subst e;rw[Qv]at h;cases h;rfl
  · rw[Qz e]at h;cases h
theorem Fz (a:T 0=some zN) (b:n.par=0) (c:n.el=0) (d:n.timed=false):TH T id n zN=QN T id none:=by
  have ez:Cu zN n=zN:=by unfold Cu;rw[c,d];rfl
  unfold TH;rw[ez,b,Wr a]
theorem com_oth {p:Int} (a:j≠p) (b:j≠id):(TI C id p x y).all j=C.all j:=by
  show QN (QN C.all p _) id _ j=_;rw[Qz b,Qz a]
theorem AskR.root (h:AskR C T i x k x') (a:x.par=none):x'=x:=by
  rcases h with⟨_,e⟩ | ⟨e,_⟩
  · exact e
  · rw[MV a]at e;cases e
theorem AskR.new {s:Bs} (h:AskR C T id x k x') (f:x.par≠none) (b:QuD x) (g:T id=some n) (i:SeesR C T k n.par s): ∃ov,x'={x with ov:=ov,order:=[rdC k s],vals:=QN (λ_=>none) k (some s)}:=by
  rcases h with⟨e,_⟩ | ⟨_,m,t,ov,_,c,j,d⟩
  · unfold FN at e;rw[b.1,b.2.2.1]at e;cases q:x.par with
    | none=> exact absurd q f
    | some a=> rw[q]at e;cases e
  · rw[g]at c;cases c;rw[j.det i,b.2.2.2.1,b.2.2.1]at d;exact⟨ov,d⟩
end
theorem small18 {F:Th} (hS:Sat w [F]) (hG:Ent F GT):
    Calls prog 4 #[] w (Ret λv w'=>v= .bool true/\Sat w' [F]):=by
 letI:Inhabited SlW:=⟨⟨4096,4⟩⟩
 refine Qn func4 U ntmps4 U ?_;refine Qe<|Qa<|Qd U U<|Qf<|Qc<|Qe<|Qa ?_;have B:=hS.sp [] U;refine Qw cal_5 U (EY B 4 U (by show 4<=(min (max (4:Int) 1) 256).toNat+(min (max 4096 0) 4096:Int).toNat;decide)) U ?_;rintro _ w1 ⟨a,p,C0,rfl,aa,j1⟩;replace j1:=j1.jn U U;clear B;have ar:Vq 0=some zN:=Qv;have s0:=aa.sm ar qcx;obtain⟨y0,au, -⟩:=s0.root;refine Qb U U<|Qr U U U<|Qr U U U<|Qd U U<|Qd U U<|Qf<|Qc<|Qe<|Qe<|Qa<|Qb U U<|XG underlying26 U U U<|Qf<|Qc<|QM U<|Qt<|Qc<|Qe<|Qa<|Qb U U ?_;have T:=j1.sp [0,1,2] U;refine XF PO U (Bp T (by omega) (by decide) s0.tri s0.w s0.few (parent:=0) (guess:=5) s0.z au (by omega) (by decide) (by decide) (by decide)) U ?_;rintro e w2 ⟨_,rfl,(⟨c,_,j2⟩ | ⟨_,rfl,x1,bf,av,aw,h,j2⟩)⟩
 ·exact absurd c (by rintro(q | q);exact absurd q (by decide);exact absurd q (by decide))
 refine⟨_,U, ?_⟩;replace j2:=j2.jn U U;clear T;refine Qb U U<|Qr U U U<|Qr U U U<|Qd U U<|Qd U U<|Qf ?_;have s1:=s0.begin (by decide) (g:=5) au bf av aw;have q1:=aa.qu.begin aa.tri (n:=5) (d:=1) ar;obtain⟨T1,V⟩: ∃q,q=(QN Vq 1 (some (nw0 1 5)):Nodes):=⟨_,rfl⟩;obtain⟨C1,B⟩: ∃q,q=(⟨C0.ma,QN (QN C0.all 0 (some {y0 with kids:=y0.kids+1})) 1 (some x1)⟩:CeD):=⟨_,rfl⟩
 obtain⟨A1,ab⟩: ∃q,q=(K5 MY 1 0:LvA):=⟨_,rfl⟩;have c1:C1.all 1=some x1:=by rw[B];exact TU
 have t1:T1 1=some (nw0 1 5):=by rw[V];exact Qv
 replace s1:SmS C1 T1 1 [1] (λ_=>none):=by rw[B,V];exact s1
 replace q1:QuA A1 T1:=by rw[ab,V];exact q1
 have z1: ∀j,A1.pres j=zer:= λj=>by rw[ab,Bi];rfl
 have j3:=Gu (l2:=1) (j2.pick [0,1,2,3] U) V B ab (by decide);refine Qc<|Qh [0,1,3,4] U<|Qe<|Qa<|Qb U U<|Qb U U ?_;have C:=j3.sp [0] U;refine XF BW U (Gq C 1) U ?_;rintro e w4 ⟨_,rfl,(⟨hq,_,j4⟩ | ⟨_,vb,rfl,j4⟩)⟩
 ·exact absurd hq (by rw[t1];simp)
 refine⟨_,U, ?_⟩;replace j4:=j4.jn U U;clear C;refine Qd U U<|Qf<|Qc<|Qe<|Qa<|Qb U U ?_;have o:=j4.sp [1] U;refine Qw cal_9 U (MN o (by rw[s1.z];simp)) U ?_;rintro _ w5 ⟨pb,rfl,j5⟩;replace j5:=j5.jn U U;clear o;refine Qd U U<|Qf<|Qc<|Qh [0,1,3,4,5,6] U<|Qe<|Qe<|Qa<|Qb U U<|XG underlying34 U U U<|Qb U U<|Qk U U U<|Qb U U<|Qk U U U<|XG underlying34 U U U<|Q9 U U U U<|Qf<|Qc<|Qh [0,1,3,4,5,6,39] U<|QM U<|Qt<|Qc<|Qe<|Qa<|Qb U U ?_;have W:=j5.sp [2,1,3] U;refine Qw BV U (NH W c1 [97] [120]) U ?_;rintro _ w6 j6;replace j6:=j6.jn U U;clear W;obtain⟨C2,T⟩: ∃q,q=(C1.up 1 (Ye x1 [97] [120]):CeD):=⟨_,rfl⟩;have s2:=s1.set (by decide) c1 (x':=(Ye x1 [97] [120])) U U U;have c2:(C1.up 1 (Ye x1 [97] [120])).all 1=some (Ye x1 [97] [120]):=Qv;rw[<-T]at s2 c2 j6;obtain⟨y2,X,ax,bs,ay,bt⟩:=s2.root;refine Qf<|Qc<|Qe<|Qa<|Qb U U ?_;have Y:=j6.sp [0,1,4] U;refine Qw qfu U (qa1 Y (by omega) (by decide) t1 (q1.get (by decide) t1) (by decide) [111] 70 9 (by decide)) U ?_;rintro _ w7 j7;replace j7:=j7.jn U U;clear Y;have o2:=q1.oneB (k:=(([111],70/ 64):KD)) (a:=70%64) (b:=9) (by decide) t1 U z1;obtain⟨A2,bg⟩: ∃q,q=(Wj A1 1 (([111],70/ 64):KD) (wrX (Z6 A1 1 (([111],70/ 64):KD)) (70%64) 9):LvA):=⟨_,rfl⟩;rw[<-bg]at o2 j7;obtain⟨t2,I, -⟩:=o2.tr;refine Qf<|Qc<|Qh [0,1,3,4,6] U<|Qe<|Qa<|Qb U U ?_;have D:=j7.sp [4,1,3] U;refine Qw Gg U (Gr D s2.w s2.tri X (by rw[ay];decide) [97]) U ?_;rintro _ w8 ⟨y',v2,bh,rfl,az,j8⟩;replace j8:=j8.jn U U;clear D;have ey:=(bh.root ax).symm;subst ey;rw[show C2.up 0 y2=C2 by unfold CeD.up;rw[Wr X]]at az j8;have ev:=az.det (s2.sees [97]);subst ev;refine YB U U U<|Qb U U<|QZ 47 U (λh9=> ?_) (λh9=> ?_)
 ·refine Qk U U (det h9)<|Qb U U<|Qk U U (det h9)<|Qw PG U (CF (j8.sp [0,1,4] U) (by omega) (by decide) [111] 70 (by decide)) U ?_;rintro _ bz ⟨rfl,ac⟩;replace ac:=ac.jn U U;rw[o2.pr];refine Qk U U (det h9)<|Xg U U U<|QF U (det h9) U U<|Qd U U<|Qf<|Qc<|Qh [0,1,3,4,6,7] U<|Qe<|Qa<|Qb U U<|Qb U U ?_;refine XF LV U (BT (d:=0) (q:=1) (ac.sp [1,3,2] U) (hG.starL 2 U) s2.tri s2.w s2.few o2.toLvP (by omega) (by decide) t1 (by decide) s2.z U c2 X (by show x1.order.length<=_;rw[h.2.2.2.1];decide) (λz y=>(by rw[show(Ye x1 [97] [120]).order=[] from h.2.2.2.1]at y;cases y)) I (λ_=>⟨h.2.2.2.1,h.2.1⟩) o2.dr (o2.drle I) (by decide) (o2.part I) (by decide) (by decide)) U ?_;rintro e c0 ⟨_,rfl,(⟨hk,_,J⟩ | ⟨_,ae,_,J⟩ | ⟨_,_,rfl,order,obs,bi,J⟩)⟩
  ·exact absurd (s2.nokid (by decide)) hk
  ·exact absurd ⟨λq=>(by cases q),λz y=>(by rw[show(Ye x1 [97] [120]).order=[] from h.2.2.2.1]at y;cases y),o2.va I⟩ ae
  refine⟨_,U, ?_⟩;replace J:=J.jn U U;refine Qd U U<|Qf ?_;obtain⟨ids3,P,af⟩:=s2.com (by decide) t1 rfl c2 X (s2.nokid (by decide)) rfl rfl;obtain⟨q3,p3⟩:=o2.com (by decide) I bi (by decide);have e3:=Fz (id:=1) (n:=nw0 1 5) s2.z U U U;obtain⟨T3,ag⟩: ∃q,q=(QN T1 1 none:Nodes):=⟨_,rfl⟩;obtain⟨C3,b0⟩: ∃q,q=(TI C2 1 0 (Ye x1 [97] [120]) y2:CeD):=⟨_,rfl⟩;obtain⟨A3,b1⟩: ∃q,q=(DA A2 1 t2 order obs:LvA):=⟨_,rfl⟩;obtain⟨f3,b2⟩: ∃q,q=(US (Ye x1 [97] [120]) y2:Bs->Option Bs):=⟨_,rfl⟩;have bj:f3 [97]=some [120]:=by rw[b2];exact Ar (by decide) (qcc (by decide))
  replace P:SmS C3 T3 1 ids3 f3:=by rw[b0,ag,b2,<-e3];exact P
  rw[<-b1]at q3 p3;rw[<-ag]at q3;obtain⟨y3,b3,bu, -⟩:=P.root;have bk:=Gu (l2:=1) (J.pick [0,1,2,3,4,5] U) (ag.trans e3.symm) b0 b1 (by decide);refine Qc<|Qe<|Qa<|Qb U U<|XF PO U (Bp (bk.sp [0,1,2] U) (by omega) (by decide) P.tri P.w P.few (parent:=0) (guess:=5) P.z b3 (by omega) (by decide) (by decide) (by decide)) U ?_;rintro e c3 ⟨_,rfl,(⟨c,_,Z⟩ | ⟨_,rfl,A,bl,b4,b5,i,Z⟩)⟩
  ·exact absurd c (by rintro(q | q);exact absurd q (by decide);simp at af;omega)
  refine⟨_,U, ?_⟩;replace Z:=Z.jn U U;refine Qb U U<|Qr U U U<|Qr U U U<|Qd U U<|Qd U U<|Qf ?_;have Q:=P.begin (by simp at af;omega) (g:=5) b3 bl b4 b5;have q4:=q3.begin P.tri (n:=5) (d:=1) P.z;obtain⟨T4,a0⟩: ∃q,q=(QN T3 2 (some (nw0 2 5)):Nodes):=⟨_,rfl⟩;obtain⟨C4,C⟩: ∃q,q=(⟨C3.ma,QN (QN C3.all 0 (some {y3 with kids:=y3.kids+1})) 2 (some A)⟩:CeD):=⟨_,rfl⟩
  obtain⟨A4,ah⟩: ∃q,q=(K5 A3 2 0:LvA):=⟨_,rfl⟩;obtain⟨ids4,K⟩: ∃q,q=(ids3++[2]:List Int):=⟨_,rfl⟩;have c4:C4.all 2=some A:=by rw[C];exact TU
  have t4:T4 2=some (nw0 2 5):=by rw[a0];exact Qv
  replace Q:SmS C4 T4 2 ids4 f3:=by rw[C,a0,K];exact Q
  replace q4:QuA A4 T4:=by rw[ah,a0];exact q4
  have p4:A4.pres (([111],70/ 64):KD)=Ca zer (zer.set (70%64:Int).toNat 9) (1#64<<<(70%64:Int).toNat):=by rw[ah,Bi];exact p3
  have c9:ids4.length<=2:=by rw[K];simp at af⊢;omega
  obtain⟨y4,b6,bv, -⟩:=Q.root;have bm:=Gu (l2:=2) (Z.pick [0,1,2,3,4,5] U) a0 C ah (by decide);refine Qc<|Qh [0,1,3,4,6,7,8,9] U<|Qe<|Qa<|Qb U U<|XF PO U (Bp (bm.sp [0,1,2] U) (by omega) (by decide) Q.tri Q.w Q.few (parent:=0) (guess:=5) Q.z b6 (by omega) (by decide) (by decide) (by decide)) U ?_;rintro e ca ⟨_,rfl,(⟨c,_,a1⟩ | ⟨_,rfl,x5,bn,a8,b7,L,a1⟩)⟩
  ·exact absurd c (by rintro(q | q);exact absurd q (by decide);omega)
  refine⟨_,U, ?_⟩;replace a1:=a1.jn U U;refine Qb U U<|Qr U U U<|Qr U U U<|Qd U U<|Qd U U<|Qf ?_;have s5:=Q.begin (by omega) (g:=5) b6 bn a8 b7;have R:=q4.begin Q.tri (n:=5) (d:=1) Q.z;obtain⟨T5,M⟩: ∃q,q=(QN T4 3 (some (nw0 3 5)):Nodes):=⟨_,rfl⟩;obtain⟨C5,o⟩: ∃q,q=(⟨C4.ma,QN (QN C4.all 0 (some {y4 with kids:=y4.kids+1})) 3 (some x5)⟩:CeD):=⟨_,rfl⟩
  obtain⟨A5,ai⟩: ∃q,q=(K5 A4 3 0:LvA):=⟨_,rfl⟩;obtain⟨ids5,aj⟩: ∃q,q=(ids4++[3]:List Int):=⟨_,rfl⟩;have c5:C5.all 3=some x5:=by rw[o];exact TU
  have bo:C5.all 2=some A:=by rw[o,qai (by decide) (by decide)];exact c4
  have t5:T5 3=some (nw0 3 5):=by rw[M];exact Qv
  have t52:T5 2=some (nw0 2 5):=by rw[M,Qz (by decide)];exact t4
  replace s5:SmS C5 T5 3 ids5 f3:=by rw[o,M,aj];exact s5
  replace R:QuA A5 T5:=by rw[ai,M];exact R
  have p5:A5.pres (([111],70/ 64):KD)=Ca zer (zer.set (70%64:Int).toNat 9) (1#64<<<(70%64:Int).toNat):=by rw[ai,Bi];exact p4
  have bp:=Gu (l2:=3) (a1.pick [0,1,2,3,4,5] U) M o ai (by decide);refine Qc<|Qh [0,1,3,4,6,7,8,9,11] U<|Qe<|Qa<|Qb U U<|Qb U U<|XF BW U (Gq (bp.sp [0] U) 2) U ?_;rintro e cb ⟨_,rfl,(⟨hq,_,a2⟩ | ⟨_,vx,rfl,a2⟩)⟩
  ·exact absurd hq (by rw[t52];simp)
  refine⟨_,U, ?_⟩;replace a2:=a2.jn U U;refine Qd U U<|Qf<|Qc<|Qh [0,1,3,4,6,7,8,9,11,13] U<|Qe<|Qa<|Qb U U<|Qb U U<|XF BW U (Gq (a2.sp [1] U) 3) U ?_;rintro e cc ⟨_,rfl,(⟨hq,_,a3⟩ | ⟨_,vy,rfl,a3⟩)⟩
  ·exact absurd hq (by rw[t5];simp)
  refine⟨_,U, ?_⟩;replace a3:=a3.jn U U;refine Qd U U<|Qf<|Qc<|Qh [0,1,3,4,6,7,8,9,11,13,14] U<|Qe<|Qe<|Qa<|Qb U U<|XG underlying34 U U U<|Qb U U<|Qk U U U<|Qb U U<|Qk U U U<|XG underlying34 U U U<|Q9 U U U U<|Qf<|Qc<|Qh [0,1,3,4,6,7,8,9,11,13,14,76] U<|QM U<|Qt<|Qc<|Qe<|Qa<|Qb U U ?_;refine Qw Gg U (Gr (a3.sp [0,1,3] U) s5.w s5.tri c5 (by rw[L.2.2.2.1];decide) [97]) U ?_;rintro _ cd ⟨x6,v6,a4,rfl,b8,a5⟩;replace a5:=a5.jn U U;have b9:=s5.sees [97];rw[bj]at b9;obtain⟨ov6,E⟩:=a4.new (by rw[a8];simp) L t5 b9;obtain⟨C6,W⟩: ∃q,q=(C5.up 3 x6:CeD):=⟨_,rfl⟩;have s6:=s5.set (by decide) c5 (x':=x6) a4.ad.1 a4.ad.2.1 a4.ad.2.2;have c6:(C5.up 3 x6).all 3=some x6:=Qv;have ak:(C5.up 3 x6).all 2=some A:=(Qz (by decide)).trans bo;rw[<-W]at s6 c6 ak b8 a5;have ev6:=b8.det (.rd c6 (by rw[E];exact congrFun L.1 _) (show x6.vals [97]=some [120]by rw[E];exact(Qv (f:= λ_=>none) (k:=[97]) (v:=some [120]))));subst ev6;refine Qd U U<|Qf<|Qc<|Qh [0,1,3,4,6,7,8,9,11,13,15] U<|Qe<|Qa<|Qb U U<|Qw BV U (NH (a5.sp [3,1,2] U) ak [97] [121]) U ?_;rintro _ ce a6;replace a6:=a6.jn U U;obtain⟨C7,Y⟩: ∃q,q=(C6.up 2 (Ye A [97] [121]):CeD):=⟨_,rfl⟩;have S:=s6.set (by decide) ak (x':=(Ye A [97] [121])) U U U;have al:(C6.up 2 (Ye A [97] [121])).all 2=some (Ye A [97] [121]):=Qv;have c7:(C6.up 2 (Ye A [97] [121])).all 3=some x6:=(Qz (by decide)).trans c6;rw[<-Y]at S c7 al a6;obtain⟨y7,ba,bw, -⟩:=S.root;refine Qf<|Qc<|Qh [0,1,3,4,6,7,8,9,11,15] U<|Qe<|Qa<|Qb U U<|Qb U U ?_;refine XF LV U (BT (d:=0) (q:=0) (a6.sp [1,2,4] U) (hG.starL 4 U) S.tri S.w S.few R.toLvP (by omega) (by decide) t52 (by decide) S.z U al ba (by show A.order.length<=_;rw[i.2.2.2.1];decide) (λz y=>(by rw[show(Ye A [97] [121]).order=[] from i.2.2.2.1]at y;cases y)) (R.get (by decide) t52) (λ_=>⟨i.2.2.2.1,i.2.1⟩) R.dr ⟨[],Nat.le_refl _,λ_ q=>by cases q⟩ (by decide) ⟨[],Nat.le_refl _,λ_ _ q=>by cases q⟩ (by decide) (by decide)) U ?_;rintro e cf ⟨_,rfl,(⟨hk,_,N⟩ | ⟨_,ae,_,N⟩ | ⟨_,_,rfl,order2,obs2,a9,N⟩)⟩
  ·exact absurd (S.nokid (by decide)) hk
  ·exact absurd ⟨λq=>(by cases q),λz y=>(by rw[show(Ye A [97] [121]).order=[] from i.2.2.2.1]at y;cases y),R.va (R.get (by decide) t52)⟩ ae
  refine⟨_,U, ?_⟩;replace N:=N.jn U U;refine Qd U U<|Qf ?_;obtain⟨ids8,G,cg⟩:=S.com (by decide) t52 rfl al ba (S.nokid (by decide)) rfl rfl;have ec8:=R.com (R.get (by decide) t52) a9.1 a9.2.2;have q8:=R.del (id:=2) (by decide);have e8:=Fz (id:=2) (n:=nw0 2 5) S.z U U U;obtain⟨T8,a7⟩: ∃q,q=(QN T5 2 none:Nodes):=⟨_,rfl⟩;obtain⟨C8,D⟩: ∃q,q=(TI C7 2 0 (Ye A [97] [121]) y7:CeD):=⟨_,rfl⟩;obtain⟨A8,am⟩: ∃q,q=(Kw A5 2:LvA):=⟨_,rfl⟩;obtain⟨f8,bb⟩: ∃q,q=(US (Ye A [97] [121]) y7:Bs->Option Bs):=⟨_,rfl⟩;have an:f8 [97]=some [121]:=by rw[bb];exact Ar (by decide) (qcc (by decide))
  replace G:SmS C8 T8 3 ids8 f8:=by rw[D,a7,bb,<-e8];exact G
  rw[<-am,<-a7]at q8;have p8:A8.pres (([111],70/ 64):KD)=Ca zer (zer.set (70%64:Int).toNat 9) (1#64<<<(70%64:Int).toNat):=by rw[am];exact p5
  have c8:C8.all 3=some x6:=by rw[D,com_oth (by decide) (by decide)];exact c7
  have t8:T8 3=some (nw0 3 5):=by rw[a7,Qz (by decide)];exact t5
  obtain⟨y8,ao,bc,bx,bd, -⟩:=G.root;have bq:=Gu (l2:=3) (N.pick [0,1,2,3,4,5,6,7] U) (a7.trans e8.symm) D (am.trans ec8.symm) (by decide);refine Qc<|Qh [0,1,3,4,6,7,8,11,15,16] U<|Qe<|Qa<|Qb U U<|Qb U U ?_;refine XF LV U (BT (d:=0) (q:=0) (bq.sp [0,1,2] U) (hG.starL 4 U) G.tri G.w G.few q8.toLvP (by omega) (by decide) t8 (by decide) G.z U c8 ao (by rw[E];simp) (λz y=>(by rw[E]at y;have e:z=rdC [97] [120]:=(by simpa using y);rw[e];rfl)) (q8.get (by decide) t8) (λhv=>absurd ((hv.2.1 (rdC [97] [120]) (by rw[E];simp)).det (G.sees [97])) (by rw[an];decide)) q8.dr ⟨[],Nat.le_refl _,λ_ q=>by cases q⟩ (by decide) ⟨[],Nat.le_refl _,λ_ _ q=>by cases q⟩ (by decide) (by decide)) U ?_;rintro e ch ⟨_,rfl,(⟨hk,_,O⟩ | ⟨_,_,rfl,O⟩ | ⟨_,hv,_,O⟩)⟩
  ·exact absurd (G.nokid (by decide)) hk
  ·refine⟨_,U, ?_⟩;replace O:=O.jn U U;refine Qd U U<|Qf<|Qc<|Qh [0,3,4,6,7,8,15,16,17] U<|Qe<|Qa<|Qb U U<|Xg U U U<|Qb U U<|QZ 89 U (λr=> ?_) (λr=> ?_)
   ·refine Qk U U (det r)<|Qb U U<|Qk U U (det r)<|Xg U U U<|QF U (det r) U U<|Qb U U<|QZ 93 U (λH=> ?_) (λH=> ?_)
    ·refine Qk U U (det H)<|Qb U U<|QF U (det H) U U<|Qb U U<|QZ 96 U (λs=> ?_) (λs=> ?_)
     ·refine Qk U U (det s)<|Qb U U<|Qk U U (det s)<|Xg U U U<|QF U (det s) U U<|Qb U U<|QZ 100 U (λl=> ?_) (λl=> ?_)
      ·refine Qk U U (det l)<|Qb U U<|Qk U U (det l)<|Qw PG U (CF (O.sp [5,0,2] U) (by omega) (by decide) [111] 70 (by decide)) U ?_;rintro _ ci ⟨rfl,ap⟩;replace ap:=ap.jn U U;rw[p8];refine Qk U U (det l)<|Xg U U U<|QF U (det l) U U<|Qb U U<|QZ 105 U (λt=> ?_) (λt=> ?_)
       ·refine Qk U U (det t)<|Qb U U<|Qk U U (det t)<|YB U U U<|QF U (det t) U U<|Qb U U<|QZ 109 U (λu=> ?_) (λu=> ?_)
        ·refine Qk U U (det u)<|Qb U U<|Qk U U (det u)<|Xg U U U<|QF U (det u) U U<|Qb U U<|QZ 113 U (λx=> ?_) (λx=> ?_)
         ·refine Qk U U (det x)<|Qb U U<|Qk U U (det x)<|Xg U U U<|QF U (det x) U U<|Qb U U<|QZ 117 U (λm=> ?_) (λm=> ?_)
          ·refine Qk U U (det m)<|Qb U U<|Qk U U (det m) ?_;refine Qw Gg U (Gr (ap.sp [0,1,3] U) G.w G.tri ao (by rw[bd];decide) [97]) U ?_;rintro _ cj ⟨y',v9,br,rfl,be,aq⟩;replace aq:=aq.jn U U;have ey9:=(br.root bc).symm;subst ey9;rw[show C8.up 0 y8=C8 by unfold CeD.up;rw[Wr ao]]at be;have ev9:=be.det (G.sees [97]);rw[an]at ev9;subst ev9;refine Qk U U (det m)<|YB U U U<|QF U (det m) U U<|Qd U U<|Qf<|Qc<|Qh [0] U<|Qu<|QJ (.inr U) U U ?_;exact⟨_,rfl,by rfl,aq.pick [7] U⟩
          first | exact absurd (by decide) m | exact absurd U m | exact absurd m (by decide)
         first | exact absurd (by decide) x | exact absurd U x | exact absurd x (by decide)
        first | exact absurd (by decide) u | exact absurd U u | exact absurd u (by decide)
       first | exact absurd (by decide) t | exact absurd U t | exact absurd t (by decide)
      first | exact absurd (by decide) l | exact absurd U l | exact absurd l (by decide)
     first | exact absurd (by decide) s | exact absurd U s | exact absurd s (by decide)
    first | exact absurd (by decide) H | exact absurd U H | exact absurd H (by decide)
   first | exact absurd (by decide) r | exact absurd U r | exact absurd r (by decide)
  exact absurd ((hv.2.1 (rdC [97] [120]) (by rw[E];simp)).det (G.sees [97])) (by rw[an];decide)
 first | exact absurd (by decide) h9 | exact absurd U h9 | exact absurd h9 (by decide)
section
variable {i:Nat} {x y:OneD} {C:CeD} {T:Nodes} {id last gu:Int} {A:LvA} {ids:List Int} {W:WS} {n p:NodeD}
theorem Ch {α:Type} {f:Int->Option α} {b:Int} {u v:Option α} {z:α} (h:QN (QN f a u) b v j=some z):(j=b/\v=some z)\/(j≠b/\j=a/\u=some z)\/(j≠b/\j≠a/\f j=some z):=by
  by_cases e:j=b
  · subst e;rw[Qv]at h;exact .inl ⟨rfl,h⟩
  · rw[Qz e]at h;by_cases c:j=a
    · subst c;rw[Qv]at h;exact .inr (.inl ⟨e,rfl,h⟩)
    · rw[Qz c]at h;exact .inr (.inr ⟨e,c,h⟩)
theorem PI.begin (h:PI i T last C A ids) (hi:i+1<=400) (n:T 0=some p) (l:C.all 0=some y) (E: ∀j z,C.all j=some z->z.ad≠x.ad) (u:x.par=some y.ad) (v:x.kids=0) (d:QuD x) (D:0<=gu/\gu<=1099511627776) (J:ids.length<=30):
    PI (i+1) (QN T (last+1) (some ⟨last+1,0,p.dep+1,gu,0,false,false⟩)) (last+1) ⟨C.ma,QN (QN C.all 0 (some {y with kids:=y.kids+1})) (last+1) (some x)⟩ (K5 A (last+1) 0) (ids++[last+1]):=by
  have F:=h.tri.last0
  have G:p.dep=0:=by
    obtain⟨r,a,_,_,b⟩:=h.tri.root;rw[n]at a;cases a;exact b
  have o:x.li= λ_=>none:=d.2.2.2.2;have w:x.writes= λ_=>none:=d.1
  have s: ∀{j m},QN T (last+1) (some ⟨last+1,0,p.dep+1,gu,0,false,false⟩) j=some m->(j=last+1/\m=⟨last+1,0,p.dep+1,gu,0,false,false⟩)\/(j≠last+1/\T j=some m):= λ{j m} e=>by
    by_cases z:j=last+1
    · subst z;rw[Qv]at e;cases e;exact .inl ⟨rfl,rfl⟩
    · rw[Qz z]at e;exact .inr ⟨z,e⟩
  have K:T 0=some p:=n;refine⟨h.tri.begin n,h.ce.begin h.tri n l E u v,⟨λf ks c=> ?_,λf g c=> ?_,λg=> ?_,λf q t=> ?_,λf c=> ?_⟩,λf=> ?_,(h.lv.begin h.tri n).2,⟨h.few.1.begin h.tri,by rw[List.length_append];simp;omega⟩,λg H=> ?_,λg=> ?_,by have :=h.la;omega⟩
  · rcases Ch f with⟨_,e⟩ | ⟨_,_,e⟩ | ⟨_,_,e⟩
    · cases e;have :=(OkO.quiet (i:=i) d).came c;omega
    · cases e;exact h.cb.wr l ks c
    · exact h.cb.wr e ks c
  · rcases Ch f with⟨_,e⟩ | ⟨B,I,e⟩ | ⟨B,_,e⟩
    · cases e;rw[o]at c;cases c
    · cases e;rcases s g with⟨k,_⟩ | ⟨_,k⟩
      · exact absurd k B
      · subst I;exact h.cb.li l k c
    · rcases s g with⟨k,_⟩ | ⟨_,k⟩
      · exact absurd k B
      · exact h.cb.li e k c
  · rcases s g with⟨_,rfl⟩ | ⟨_,e⟩
    · show 0<=p.dep+1/\p.dep+1<=100;omega
    · exact h.cb.dep e
  · rcases Ch f with⟨_,e⟩ | ⟨_,_,e⟩ | ⟨_,_,e⟩
    · cases e;rw[w]at t;exact absurd U t
    · cases e;exact h.cb.kw l q t
    · exact h.cb.kw e q t
  · rcases Ch f with⟨_,e⟩ | ⟨_,_,e⟩ | ⟨_,_,e⟩
    · cases e;rw[o]at c;cases c
    · cases e;exact h.cb.kl l c
    · exact h.cb.kl e c
  · rcases Ch f with⟨_,e⟩ | ⟨_,_,e⟩ | ⟨_,_,e⟩
    · cases e;exact .quiet d
    · cases e;have :=(h.ok l).mono (show i<=i+1 by omega);exact⟨this.wr,this.vl,this.lg,this.od,this.cn⟩
    · exact(h.ok e).mono (by omega)
  · rcases s g with⟨_,rfl⟩ | ⟨_,e⟩
    · rfl
    · exact h.flat e H
  · rcases s g with⟨_,rfl⟩ | ⟨_,e⟩
    · exact⟨D.1,D.2,Int.le_refl _,by show(0:Int)<=300*(i+1:Nat);omega⟩
    · have :=h.tm e;omega
theorem PrS.begin (h:PrS T C A W) (i:C.all 0=some y) (g:last+1≠0) {m:NodeD}:PrS (QN T (last+1) (some m)) ⟨C.ma,QN (QN C.all 0 (some {y with kids:=y.kids+1})) (last+1) (some x)⟩ (K5 A (last+1) 0) W:=by
  obtain⟨z,a,b,c,d⟩:=h.rc;rw[i]at a;cases a;obtain⟨n,e,f⟩:=h.tm;refine⟨⟨{y with kids:=y.kids+1}, ?_,b,c,d⟩, ?_,h.pg,n,(Qz (λq=>g q.symm)).trans e,f⟩
  · show QN (QN C.all 0 _) (last+1) _ 0=_;rw[Qz (λq=>g q.symm),Qv]
  · rw[Bi];exact h.vis
theorem PI.del (h:PI i T last C A ids) (o:id≠0) (v:T id=some n) (k:C.all n.par=some y) {r:List Int} (p:ids=id::r):
    (∀j,¬ChildOf T id j)/\PI (i+1) (QN T id none) last ⟨C.ma,QN (QN C.all n.par (some {y with kids:=y.kids -1})) id none⟩ (Kw A id) r:=by
  have s: ∀j,¬ChildOf T id j:= λj ⟨m,a,b,c⟩=>o (c.symm.trans (h.flat a b))
  have l: ∀{j m},QN T id none j=some m->T j=some m:= λ{j m} e=>by
    by_cases z:j=id
    · subst z;rw[Qv]at e;cases e
    · rw[Qz z]at e;exact e
  have ea:=TZ s;refine⟨s,by rw[<-ea];exact h.tri.abS (λq=>o q.symm),h.ce.del h.tri o v s k,⟨λf ks d=> ?_,λf g d=> ?_,λg=>h.cb.dep (l g),λf q d=> ?_,λf d=> ?_⟩,λf=> ?_,h.lv.del o U,⟨⟨?_,λj=> ?_⟩, ?_⟩,λg w=>h.flat (l g) w,λg=> ?_,by have :=h.la;omega⟩
  · rcases Ch f with⟨_,e⟩ | ⟨_,_,e⟩ | ⟨_,_,e⟩
    · cases e
    · cases e;exact h.cb.wr k ks d
    · exact h.cb.wr e ks d
  · rcases Ch f with⟨_,e⟩ | ⟨_,x,e⟩ | ⟨_,_,e⟩
    · cases e
    · cases e;rw[x]at g;exact h.cb.li k (l g) d
    · exact h.cb.li e (l g) d
  · rcases Ch f with⟨_,e⟩ | ⟨_,_,e⟩ | ⟨_,_,e⟩
    · cases e
    · cases e;exact h.cb.kw k q d
    · exact h.cb.kw e q d
  · rcases Ch f with⟨_,e⟩ | ⟨_,_,e⟩ | ⟨_,_,e⟩
    · cases e
    · cases e;exact h.cb.kl k d
    · exact h.cb.kl e d
  · rcases Ch f with⟨_,e⟩ | ⟨_,_,e⟩ | ⟨_,_,e⟩
    · cases e
    · cases e;have :=(h.ok k).mono (show i<=i+1 by omega);exact⟨this.wr,this.vl,this.lg,this.od,this.cn⟩
    · exact(h.ok e).mono (by omega)
  · have :=h.few.1.1;rw[p]at this;exact(List.pairwise_cons.1 this).2
  · have t:=h.few.1.2 j;have u:=h.few.1.1;rw[p]at t u;by_cases z:j=id
    · subst z;rw[Qv];exact⟨λq=>by have :=(List.pairwise_cons.1 u).1 j q;omega,λq=>absurd U q.2⟩
    · rw[Qz z,<-t,List.mem_cons];exact⟨.inr,λq=>q.resolve_left z⟩
  · have :=h.few.2;rw[p]at this;simp at this;omega
  · have :=h.tm (l g);omega
theorem PrS.del (h:PrS T C A W) (g:id≠0) {q:Int} (i:q=0) (j:C.all q=some y):PrS (QN T id none) ⟨C.ma,QN (QN C.all q (some {y with kids:=y.kids -1})) id none⟩ (Kw A id) W:=by
  subst i;obtain⟨z,a,b,c,d⟩:=h.rc;rw[j]at a;cases a;obtain⟨n,e,f⟩:=h.tm;refine⟨⟨{y with kids:=y.kids -1}, ?_,b,c,d⟩,h.vis,h.pg,n,(Qz (λq=>g q.symm)).trans e,f⟩
  show QN (QN C.all 0 _) id _ 0=_;rw[Qz (λq=>g q.symm),Qv]
end
def GQ (g:Option (KD->Int)):(KD->Int)->Prop:= λq=> ∀P,g=some P->q=P
structure TlS where
  T:Nodes
  last:Int
  C:CeD
  A:LvA
def J1 (a:TrAd) (p i:Nat) (W:WS) (ids:List Int) (g:Option (KD->Int)):Th:=Cp λq:TlS=>starL [WH (PI i q.T q.last q.C q.A ids/\PrS q.T q.C q.A W),Z5 a q.T q.last,Y8 a.c q.C,lsI a.b p i i q.A (GQ g)]
section
variable {w:World} {a:TrAd} {p i:Nat} {W:WS} {ids:List Int} {g:Option (KD→Int)} {As:List Th} {T:Nodes} {last:Int} {C:CeD} {A:LvA}
theorem Zu (h:Sat w (J1 a p i W ids g::As)): ∃T last C A,PI i T last C A ids/\PrS T C A W/\Sat w (Z5 a T last::Y8 a.c C::lsI a.b p i i A (GQ g)::As):=by
  obtain⟨q,h⟩:=h.ex;have h:=h.flat;dsimp only[Dg,Df]at h;obtain⟨⟨a,b⟩,h⟩:=h.pure_elim;exact⟨q.T,q.last,q.C,q.A,a,b,h⟩
theorem XY (d:PI i T last C A ids) (e:PrS T C A W) (h:Sat w (Z5 a T last::Y8 a.c C::lsI a.b p i i A (GQ g)::As)):Sat w (J1 a p i W ids g::As):=
  Sat.ex_intro (f:= λq:TlS=>starL [WH (PI i q.T q.last q.C q.A ids/\PrS q.T q.C q.A W),Z5 a q.T q.last,Y8 a.c q.C,lsI a.b p i i q.A (GQ g)]) ⟨T,last,C,A⟩ (Sat.fold (As:=[WH (PI i T last C A ids/\PrS T C A W),Z5 a T last,Y8 a.c C,lsI a.b p i i A (GQ g)]) (Sat.pure_intro ⟨d,e⟩ h))
theorem Hk {A:Th} (h:Sat w (A::B::D::As)):Sat w (D::A::B::As):=h.perm (((List.Perm.swap D B As).cons A).trans (List.Perm.swap D A (B::As)))
theorem Z8 {A:Th} (h:Sat w (D::A::B::As)):Sat w (A::B::D::As):=h.perm (((List.Perm.swap D B As).cons A).trans (List.Perm.swap D A (B::As))).symm
theorem JQ {j m':Nat} (a:i<=j) (c:m<=m') (h:Sat w (lsI b p i m A G::As)):Sat w (lsI b p j m' A G::As):=U6 (by omega) c a (by omega) h
theorem YK {n:Nat} {G':(KD->Int)->Prop} (a: ∀q,G q->G' q) (h:Sat w (D7 b p n m c e A G::As)):Sat w (D7 b p n m c e A G'::As):=by
  obtain⟨L,V,d,f,h⟩:=Jf h;exact Je d (a _ f) h
theorem VZ {j:Nat} (b:i<=j) (h:Sat w (J1 a p i W ids g::As)):Sat w (J1 a p j W ids g::As):=by
  obtain⟨T,last,C,A,c,d,h⟩:=Zu h;exact XY (c.mono b) d (Z8 (JQ b b (Hk h)))
theorem tlT_fix (h:Sat w (J1 a p i W ids g::As)): ∃P,Sat w (J1 a p i W ids (some P)::As):=by
  obtain⟨T,last,C,A,b,c,h⟩:=Zu h;have d:=Hk h;obtain⟨L,V,f,_,j⟩:=Jf d;exact⟨L.pres,XY b c (Z8 (Je (G:=GQ (some L.pres)) f (λP e=>by cases e;rfl) j))⟩
end
