/- TrialLeaves: rest, runs -/
import Derived.Test.YtifaibmhinlcfaaGreatDoorTla
import Derived.Test.YtifaibmhinlcfaaGreatDoorTr12
import Derived.Test.YtifaibmhinlcfaaGreatDoorLv1
import Derived.Test.YtifaibmhinlcfaaGreatDoorTl5
import Derived.Test.YtifaibmhinlcfaaGreatDoorWa
set_option linter.unusedSectionVars false
set_option linter.unusedVariables false
set_option maxRecDepth 100000
set_option maxHeartbeats 3200000
namespace Go.Proofs.YtifaibmhinlcfaaGreatDoor
open Go.RowKit M Proofs.Tryz
variable [Inhabited SlW]
variable {W:WS} {a:TrAd} {i p:Nat} {l:List StD} {w:World}
section
variable {i:Nat} {W:WS} {l:List StD}
theorem WOk.runF: ∀(l:List StD) {b:Bool} {i:Nat} {W:WS},WOk i W->(∀s∈l,Y9 s)->WOk (i+l.length) (runF b W l)
  | [],b,i,W,h,_=>by cases b<;> exact h
  | s::l,true,i,W,h,a=>by
    have :=WOk.runF l (b:=false) h λq c=>a q (List.mem_cons_of_mem _ c);exact this.mono (by simp)
  | s::l,false,i,W,h,a=>by
    have :=WOk.runF l (b:=VD W s) (h.step (a s List.mem_cons_self)) λq c=>a q (List.mem_cons_of_mem _ c);exact this.mono (by simp;omega)
theorem WOk.run (h:WOk i W) (a: ∀s∈l,Y9 s):WOk (i+l.length) (RK W l):=h.runF l a
theorem S3 {k:Nat} (h:l.length<=k):runF false W (l.drop k)=W:=by rw[List.drop_eq_nil_of_le h];rfl
theorem qbd {C:CeD} {As:List Th} (d:TQ Vq 0 C MY []) (h:Sat w (Z5 a Vq 0::Y8 a.c C::lsT a.b p 0 0 0 0 MY::As)):Sat w (J1 a p 0 emptyW [] none::As):=by
  have o: ∀{i n},Vq i=some n->i=0/\n=zN:= λ{i n} h=>by
    unfold Vq at h;by_cases e:i=0
    · subst e;rw[Qv]at h;cases h;exact⟨rfl,rfl⟩
    · rw[Qz e]at h;cases h
  have r:Vq 0=some zN:=Qv;obtain⟨y,t⟩:=d.ce.get r;have l:=d.ce.quiet t;obtain⟨u,v,x,B,m⟩:=l;refine XY (T:=Vq) (C:=C) (A:=MY) ⟨d.tri,d.ce.toCeW,⟨λf ks g=> ?_,λf _ g=> ?_,λj=> ?_,λf q l=> ?_,λf g=> ?_⟩,λf=> .quiet (d.ce.quiet f),d.qu.toLvP,d.few,λj z=>absurd (o j).1 z,λj=> ?_,Int.le_refl _⟩ ⟨⟨y,t,λk=>by rw[u];rfl,λk=>by rw[x],λk=>by rw[v];rfl⟩,λnm q=> ?_,⟨λn p s h=>by cases h⟩,zN,r,rfl,rfl⟩ (Z8 (YK (λ_ _ _ e=>by cases e) (Hk h)))
  · have :=(OkO.quiet (i:=0) (d.ce.quiet f)).came g;omega
  · obtain⟨_,_,_,_,m⟩:=d.ce.quiet f;rw[m]at g;cases g
  · rw[(o j).2];exact⟨Int.le_refl _,by decide⟩
  · rw[(d.ce.quiet f).1]at l;exact absurd U l
  · obtain⟨_,_,_,_,m⟩:=d.ce.quiet f;rw[m]at g;cases g
  · rw[(o j).2];exact⟨Int.le_refl _,by decide,Int.le_refl _,by decide⟩
  · rfl
end
theorem OS {vb:Nat} {ids:List Int} {F:Th} (o:Sat w [Q6 vb [ptrV a.t 0,intV 0],J1 a p i W ids none,F]) {lv:Value} (q:Ent F (RdL FM lv l)) (x: ∀s∈l,Y9 s) (hi:i+3*l.length<=300) (d:400<(default:SlW).f):
    Calls prog 8 #[ptrV vb 0,lv,intV 0] w (Ret λv w'=>Sat w' [Q6 vb [ptrV a.t 0,intV 0],J1 a p (i+3*l.length) (RK W l) ids none,F]):=by
 obtain⟨ao,cap,rfl,r⟩:=(q.sat o 2 rfl).shape;refine Qn func8 U ntmps8 U ?_;refine Qx ?_;refine QU (λK0 E0 W0=> ∃(k:Nat) (W1:WS) (j:Nat),K0=l.length -k/\E0=[(0,ptrV vb 0),(1,.slice ao l.length cap),(2,intV (k:Int))]/\Sat W0 [Q6 vb [ptrV a.t 0,intV 0],J1 a p j W1 ids none,F]/\(j+3*(l.length -k)<=i+3*l.length)/\(runF false W1 (l.drop k)=RK W l)) (L0:=[(0,_),(1,_),(2,_)]) (l.length) (VG U U U) ⟨0,W,i,rfl,rfl,o.pick [0,1,2] U,by omega,rfl⟩ ?_;rintro _ _ B ⟨k,W1,j,rfl,rfl,u,C,e⟩;refine Qe<|Qe<|Qa<|Qb U U<|Qb U U<|Xl underlying22 U U<|Xa U U U<|Qf<|Qc<|Qs U (λy=> ?_) (λy=> ?_)
 ·obtain⟨s,g⟩: ∃s,l[k]? =some s:=⟨_,XQ (by omega)⟩;have h:=x s (List.mem_of_getElem? g);refine Qt<|Qc<|Qx<|Qa<|Qb U U<|Qb U U<|Qb U U<|Qw qft U (CO (u.sp [0,1] U) (.inl U) (by omega) (λ_=>rfl) d (q.starL 0 U) g h (by omega)) U ?_;rintro _ D ⟨b,rfl,m,c⟩;replace c:=c.jn U U;have z:=m U;rw[M1]at c;have A:k+1<=(k+ if b=true then 2 else 1):=by split<;>omega
  rw[E5 g,<-z]at e;refine Qd U U<|Qf<|Qm ?_;exact Q5 (L1:=[(0,_),(1,_),(2,intV ((k+ if b=true then 2 else 1:Nat):Int))]) (VG U U U) (k1:=l.length -(k+ if b=true then 2 else 1)) (by omega) ⟨_,_,j+3,rfl,rfl,c.pick [0,1,2] U,by omega,e⟩
 refine QQ<|Qp<|Qp<|Qy<|Zb (.inl U) U ?_;have n:=u.pick [1,0,2] U;rw[<-e,S3 (by omega)];exact⟨_,rfl,(VZ (by omega) n).pick [1,0,2] U⟩
theorem OO {F:Th} (g:Sat w [Xv p W,F]) (o:WOk i W) {lv:Value} (h:Ent F (RdL FM lv l)) (q: ∀s∈l,Y9 s) (hi:i+l.length<=300):
    Calls prog 10 #[ptrV p 0,lv] w (Ret λv w'=>Sat w' [Xv p (RK W l),F]):=by
 obtain⟨ao,cap,rfl,m⟩:=(h.sat g 1 rfl).shape;refine Qn func10 U ntmps10 U ?_;refine Qe<|Qa<|Qd U U<|Qf<|Qc<|Qx ?_;refine QU (λK0 E0 W0=> ∃(k:Nat) (W1:WS) (j:Nat),K0=l.length -k/\E0=[(0,ptrV p 0),(1,.slice ao l.length cap),(4,intV (k:Int))]/\Sat W0 [Xv p W1,F]/\(j+(l.length -k)<=i+l.length)/\(WOk j W1)/\(runF false W1 (l.drop k)=RK W l)) (L0:=[(0,_),(1,_),(4,_)]) (l.length) (VG U U U) ⟨0,W,i,rfl,rfl,g.pick [0,1] U,by omega,o,rfl⟩ ?_;rintro _ _ x ⟨k,W1,j,rfl,rfl,n,y,a,d⟩;refine Qe<|Qe<|Qa<|Qb U U<|Qb U U<|Xl underlying22 U U<|Xa U U U<|Qf<|Qc<|Qs U (λr=> ?_) (λr=> ?_)
 ·obtain⟨s,e⟩: ∃s,l[k]? =some s:=⟨_,XQ (by omega)⟩;have c:=q s (List.mem_of_getElem? e);refine Qt<|Qc<|Qx<|Qa<|Qb U U<|Qb U U<|Qb U U<|Qw cal_29 U (Iy (n.sp [0] U) a (by omega) (h.starL 0 U) e c (by omega)) U ?_;rintro _ z ⟨b,rfl,t,f⟩;replace f:=f.jn U U;have u:k+1<=(k+ if b=true then 2 else 1):=by split<;>omega
  rw[E5 e,<-t]at d;refine Qd U U<|Qf<|Qm ?_;exact Q5 (L1:=[(0,_),(1,_),(4,intV ((k+ if b=true then 2 else 1:Nat):Int))]) (VG U U U) (k1:=l.length -(k+ if b=true then 2 else 1)) (by omega) ⟨_,_,j+1,rfl,rfl,f.pick [0,1] U,by omega,a.step c,d⟩
 refine QQ<|Qp<|Qp<|Qy<|Zb (.inl U) U ?_;rw[<-d,S3 (by omega)];exact⟨_,U,n.pick [0,1] U⟩
end Go.Proofs.YtifaibmhinlcfaaGreatDoor
namespace Go.Proofs.YtifaibmhinlcfaaGreatDoor
open Go.RowKit M Proofs.Tryz
variable {W:WS} {a:TrAd} {g:Option (KD→Int)} {i p vb:Nat} {ids:List Int} {l1 l2:List Bs} {w:World}
theorem qb8 (h: ∀j,j<i->l1[j]? =l2[j]?) (b:i=l1.length) (c:l1.length=l2.length):l1=l2:=by
  apply List.ext_getElem?;intro j;by_cases a:j<i
  · exact h j a
  · rw[List.getElem?_eq_none (by omega),List.getElem?_eq_none (by omega)]
theorem same_sp {F:Th} (c:Sat w [F]) {v1 v2:Value} (o:Ent F (RdL stC v1 l1)) (p:Ent F (RdL stC v2 l2)):
    Calls prog 34 #[v1,v2] w (Ret λv w'=>v= .bool (decide (l1=l2))/\Sat w' [F]):=by
 obtain⟨ao1,cap1,rfl,t⟩:=(o.sat c 0 rfl).shape;obtain⟨ao2,cap2,rfl,u⟩:=(p.sat c 0 rfl).shape;refine Qn func34 U ntmps34 U ?_;refine Qe<|Qa<|Qd U U<|Qf<|Qc<|Qe<|Qe<|Qa<|Qb U U<|Xl underlying83 U U<|Qb U U<|Xl underlying83 U U<|Xz U U U<|Qf<|Qc<|Qs U (λx=> ?_) (λx=> ?_)
 ·refine Qe<|Qa<|Qd U U<|Qf<|Qc<|Qu<|Qq<|QJ (.inr U) U U ?_;exact⟨_,rfl,by rw[QH (by rintro rfl;omega)],c⟩
 refine Qt<|Qc<|Qe<|Qe<|Qa<|Qd U U<|Qf<|Qc<|Qx ?_;refine QU (λK0 E0 W0=> ∃(i:Nat),K0=l1.length -i/\E0=[(0,.slice ao1 l1.length cap1),(1,.slice ao2 l2.length cap2),(5,intV (i:Int))]/\Sat W0 [F]/\(i<=l1.length)/\(∀j,j<i->l1[j]? =l2[j]?)) (L0:=[(0,_),(1,_),(5,_)]) (l1.length -0) (VG U U U) ⟨0,rfl,rfl,c,by omega,by omega⟩ ?_;rintro _ _ w2 ⟨i,rfl,rfl,d,hi,a⟩;refine Qe<|Qe<|Qa<|Qb U U<|Qb U U<|Xl underlying83 U U<|Xa U U U<|Qf<|Qc<|Qs U (λy=> ?_) (λy=> ?_)
 ·obtain⟨q,f⟩: ∃s,l1[i]? =some s:=⟨_,XQ (by omega)⟩;obtain⟨s2,b⟩: ∃s,l2[i]? =some s:=⟨_,XQ (by omega)⟩;obtain⟨b1,off1,rfl,g⟩:=(o.sat d 0 rfl).get f;obtain⟨b2,off2,rfl,k⟩:=(p.sat d 0 rfl).get b;refine Qt<|Qc<|Qe<|Qx<|Qe ?_;have r:=d.drew;refine Q7 [0,1,2,3,4,5,6,7,8] [] Z9 (by kernel_rfl) ?_;refine Q3 U U U<|Q3 U U U<|Xi U U U (λ_=>(XK i U U (by rfl) ((Za f).1) VF)) ?_;refine Q0 U U U (Ql U XT (by have h:=g 0 _ U;exact h)) ?_;refine Q3 U U U<|Q3 U U U<|Xi U U U (λ_=>(XK i U U (by rfl) ((Za b).1) VF)) ?_;refine Q0 U U U (Ql U XT (by have h:=k 0 _ U;exact h)) ?_;refine Xi U U U (λ_=>(Vw U U)) ?_;refine VC.nil (Qc (Qh [5,1,0,25] U (Qs U (λl=> ?_) (λl=> ?_))))
  ·have m:q≠s2:=l;refine Qe<|Qa<|Qd U U<|Qf<|Qc<|Qu<|Q1<|Qq<|Qq<|Q1<|Qq<|QJ (.inr U) U U ?_;exact⟨_,rfl,by rw[QH (by rintro rfl;rw[f]at b;cases b;exact m rfl)],r⟩
  have n:q=s2:=Decidable.not_not.1 l;refine Qt<|Qm<|Qc<|Qa<|Qb U U<|QE U U (by omega) (by omega) U ?_;refine Qd U U<|Qf ?_;exact Q5 (L1:=[(0,_),(1,_),(5,intV ((i+1:Nat):Int))]) (VG U U U) (k1:=l1.length -(i+1)) (by omega) ⟨i+1,rfl,rfl,r,by omega,λj z=>by by_cases e:j=i;(subst e;rw[f,b,n]);exact a j (by omega)⟩
 exact QQ (Qp (Qp (Qy (Qc (Qe (Qa (Qd U U (Qf (Qc (Qu (QJ (.inr U) U U (⟨_,rfl,by rw[det (qb8 a (by omega) (by omega))],d⟩))))))))))))
variable [Inhabited SlW]
theorem HA {P:Program} {L:Env} {d:Nat} {ty:TypeId} {pos:String} {aft:Array Edge} {x:Operand} {t:TypeId} {v:Value} (a:YH P t=true) (c:M.look L x=some v):Ev P L w ⟨some d,.makeInterface t x,ty,pos,aft,none⟩ (.iface t v):= λρ e=>by
  unfold YH at a;cases b:P.underlying t with
  | none=> rw[b]at a;cases a
  | some dd=>
    rw[b]at a;simp only[execOp,e _ _ c,Instr.makeInterface];cases dd<;> simp [run_underlying b]<;> simp at a
def G5 (W:WS) (nm:Bs) (k:Nat):Bs:=(List.range k).map λ(j:Nat)=>Hq W nm (0+(j:Int))
theorem Lv (W:WS) (nm:Bs) (k:Nat):G5 W nm (k+1)=G5 W nm k++[Hq W nm (0+(k:Int))]:=by simp [G5,List.range_succ]
theorem OT (W:WS) (nm:Bs) (k:Nat):(G5 W nm k).length=k:=by simp [G5]
theorem Ls (p : Nat) : ∀ w : World, (method (prog.types.size + Made.depth) 34 (ptrV p 0) "Byte").run prog w = .ok (23, ptrV p 0) w := by intro w; kernel_rfl
theorem Lt (p : Nat) : ∀ w : World, (method (prog.types.size + Made.depth) 30 (ptrV p 0) "Byte").run prog w = .ok (70, ptrV p 0) w := by intro w; kernel_rfl
theorem readG {F X : Th} {ty m: Nat} (hS : Sat w [X, F]) (hm : ∀ w : World, (method (prog.types.size + Made.depth) ty (ptrV p 0) "Byte").run prog w = .ok (m, ptrV p 0) w) (hcal : Q8 prog m = true) (hCB : ∀ {w : World} {F : Th} (ob : Bs) (a : Int), 0 ≤ a ∧ a < 16384 → Sat w [X, F] → Calls prog m #[ptrV p 0, strV ob, intV a] w (Ret fun v w' => v = XV (Hq W ob a) ∧ Sat w' [X, F])) (nm : Bs) :
    Calls prog 41 #[.iface ty (ptrV p 0),strV nm,intV 0,intV 600] w (Ret fun v w'=>v=strV (G5 W nm 600)∧Sat w' [X,F]):= by
 refine Qn func41 U ntmps41 U ?_
 refine Qe (Qa (Qd U U (Qf (Qc (Qe (Qa (B0 hS FP (cs:=[.pointer none,.slice none 0 0]) U U ?_)))))))
 intro bb wB hSB
 have hSC:=HP (.inl U) ((TS hSB).perm (List.Perm.swap _ _ _))
 refine Qf (Qc (Qe (Qe (Qa (Qb U U (Jn U U U (Qb U U (Qf (Qc (Qx ?_))))))))))
 refine QU (fun K0 E0 W0=> ∃(k:Nat),K0=600 -k∧E0=[(0,.iface ty (ptrV p 0)),(1,strV nm),(2,intV 0),(9,ptrV bb 0),(12,intV 600),(13,intV (k:Int))]∧Sat W0 [K2 bb (G5 W nm k),X,F]∧(k≤600)) (L0:=[(0,_),(1,_),(2,_),(9,_),(12,_),(13,_)]) (600) (R6 U U U U U U) ⟨0,rfl,rfl,hSC, by omega⟩ ?_
 rintro _ _ w1 ⟨k,rfl,rfl,j1,hk⟩
 have hlr:=OT W nm k
 refine Qe (Qa (Xa U U U (Qf (Qc (Qe (Qs U (fun h2=> ?_) (fun h2=> ?_)))))))
 ·refine Qt (Qc (Qe (Qx (Qe (Qa (Qb U U (Qd U U (Qf (Qc (Qa (Qb U U (Qb U U (Qb U U (Qb U U (QE U U (by omega) (by omega) U ?_)))))))))))))))
  refine Oq (vs:=[strV nm,intV (0+(k:Int))]) U hm hcal U (hCB nm (0+(k:Int)) (by omega) (j1.sp [1] U)) U ?_
  rintro e w3 ⟨_,rfl,rfl,j3⟩; refine⟨_,rfl, ?_⟩
  replace j3:=j3.jn U U
  refine Qw TN U (YU (j3.sp [1] U) (Hq W nm (0+(k:Int))) (by omega)) U ?_
  rintro _ w4 ⟨rfl,j4⟩
  replace j4:=j4.jn U U
  refine Qf (Qm (Qc (Qh [13,12,9,2,1,0] U (Qa (QE U U (by omega) (by omega) U ?_)))))
  refine Qb U U (Qf ?_)
  have hSz:=j4.pick [0,1,2] U; rw[←Lv]at hSz
  exact Q5 (L1:=[(0,_),(1,_),(2,_),(9,_),(12,_),(13,intV ((k+1:Nat):Int))]) (R6 U U U U U U) (k1:=600 -(k+1)) (by omega) ⟨k+1,rfl,rfl,hSz, by omega⟩
 refine QQ (Qp (Qp (Qy (Qc (Qe (Qa (Qw P7 U (N7 (j1.sp [0] U) (by omega)) U ?_)))))))
 rintro _ w5 ⟨rfl,j5⟩
 replace j5:=j5.jn U U
 refine Qd U U (Qf (Qc (Qu (QJ (.inr U) U U ?_))))
 exact⟨_,rfl, by rw[show k=600 by omega],j5⟩
theorem CY {F:Th} (b:Sat w [Q6 vb [ptrV a.t 0,intV 0],J1 a p i W ids g,F]) (hi:i+1<=400) (nm:Bs):
    Calls prog 41 #[.iface 34 (ptrV vb 0),strV nm,intV 0,intV 600] w (Ret λv w'=>v=strV (G5 W nm 600)/\Sat w' [Q6 vb [ptrV a.t 0,intV 0],J1 a p i W ids g,F]):=
  (readG (Sat.fold (As:=[Q6 vb [ptrV a.t 0,intV 0],J1 a p i W ids g]) b) (Ls vb) PG (λob x c h=>(qbe h.flat hi ob x c).mono λew w h=>h.mono λv w h=>⟨h.1,Sat.fold (As:=[Q6 vb [ptrV a.t 0,intV 0],J1 a p i W ids g]) h.2⟩) nm).mono λew w h=>h.mono λv w h=>⟨h.1,h.2.flat⟩
theorem CZ {q:Nat} {F:Th} (a:Sat w [Xv q W,F]) (nm:Bs):
    Calls prog 41 #[.iface 30 (ptrV q 0),strV nm,intV 0,intV 600] w (Ret λv w'=>v=strV (G5 W nm 600)/\Sat w' [Xv q W,F]):=
  readG a (Lt q) qfk (λob x b h=>AZ h ob x) nm
theorem logs_sp {F:Th} (a:Sat w [Xv p W,F]) (k:Bs):
    Calls prog 40 #[ptrV p 0,strV k] w (Ret λv w'=>v=strV (W.logs k)/\Sat w' [Xv p W,F]):=by
 obtain⟨LL,b,a⟩:=ZJ a;refine Qn func40 U ntmps40 U ?_;exact Qe (Qa (Qd U U (Qf (Qc (Qe (Qa (Qb U U (Qj U U (Qg U Ae U (Qo U JX (a.cell 0 U U) U (Qb U U (Xf 3 a keysStr underlying61 U U U R5 (Gd W.logs k) U (Qd U U (Qf (Qc (Qu (QJ (.inr U) U U (⟨_,U,U,ZY LL b a⟩))))))))))))))))))
theorem Ej {F:Th} (e:Sat w [J1 a p i W ids g,F]) {id:Int} (Zl:id=0\/id∈ids):
    Calls prog 19 #[ptrV a.t 0,intV id] w (Ret λv w'=> ∃vb,v=ptrV vb 0/\Sat w' [Q6 vb [ptrV a.t 0,intV id],J1 a p i W ids g,F]):=by
  obtain⟨T,last,C,A,c,f,j⟩:=Zu e;obtain⟨nd,b⟩:=c.get Zl;refine(Gq (j.split [0] [true,false,false,false] U) id).mono λew w h=>h.mono λv w h=> ?_;rcases h with⟨d,_⟩ | ⟨_,vb,rfl,h⟩
  · rw[b]at d;cases d
  have k:=h.join U;exact⟨vb,U,(XY c f (k.pick [1,2,3,0,4] U)).pick [1,0,2] U⟩
theorem Lc {F:Th} (d:Sat w [J1 a p i W ids g,F]):
    Calls prog 9 #[ptrV a.t 0] w (Ret λv w'=> ∃vb,v=ptrV vb 0/\Sat w' [Q6 vb [ptrV a.t 0,intV 0],J1 a p i W ids g,F]):=by
  obtain⟨T,last,C,A,c,e,f⟩:=Zu d;obtain⟨nd,b⟩:=c.get (.inl rfl);refine(MN (f.split [0] [true,false,false,false] U) (by rw[b];simp)).mono λew w h=>h.mono λv w h=> ?_;obtain⟨vb,rfl,h⟩:=h;have j:=h.join U;exact⟨vb,U,(XY c e (j.pick [1,2,3,0,4] U)).pick [1,0,2] U⟩
theorem tl_logs {F:Th} (c:Sat w [J1 a p i W ids g,F]) (k:Bs):
    Calls prog 39 #[ptrV a.t 0,intV 0,strV k] w (Ret λv w'=>v=strV (W.logs k)/\Sat w' [J1 a p i W ids g,F]):=by
  obtain⟨T,last,C,A,d,b,e⟩:=Zu c;obtain⟨y,f,m,n,j⟩:=b.rc;refine(logs_tr (e.split [0,1] [true,true,false,false] U) f k).mono λew w h=>h.mono λv w h=> ?_;obtain⟨rfl,h⟩:=h;have l:=h.join U;exact⟨by rw[j],XY d b l⟩
theorem qbc {F:Th} (e:Sat w [Q6 vb [ptrV a.t 0,intV 0],J1 a p i W ids g,F]) (hi:i+1<=400):
    Calls prog 36 #[ptrV vb 0] w (Ret λv w'=>v=intV W.time/\Sat w' [Q6 vb [ptrV a.t 0,intV 0],J1 a p i W ids g,F]):=by
  obtain⟨T,last,C,A,c,d,f⟩:=Zu (e.pick [1,0,2] rfl);obtain⟨n,b1,b2,b3⟩:=d.tm;have k:=c.tm b1;have b:=KU b1;refine(O4 (f.split [3,0] [true,false,false,true,false] U) (by rw[b];omega)).mono λew w h=>h.mono λv w h=> ?_;obtain⟨rfl,h⟩:=h;have j:=h.join U;exact⟨by rw[b,b2,b3,Int.zero_add],(XY c d (j.pick [1,2,3,0,4] U)).pick [1,0,2] U⟩
end Go.Proofs.YtifaibmhinlcfaaGreatDoor
namespace Go.Proofs.YtifaibmhinlcfaaGreatDoor
open Go.RowKit M Proofs.Tryz
variable [Inhabited SlW]
variable {P:KD→Int} {W:WS} {a:TrAd} {atl idl ids il rl:List Int} {g:Option (KD→Int)} {i k m n p:Nat} {ls:List TkD} {s:Int} {w:World}
structure PlI (ls:List TkD) (ids idl atl:List Int):Prop where
  il:idl.length=ls.length
  al:atl.length=ls.length
  id: ∀(k:Nat) x,idl[k]? =some x→x=0∨x∈ids
  sub: ∀x∈ids,x∈idl∧x≠0
  at_: ∀(k:Nat) x,atl[k]? =some x→ ∃m:Nat,x=(m:Int)∧m≤12
theorem PlI.start:PlI ls [] (List.replicate ls.length 0) (List.replicate ls.length 0):=by
  refine⟨by simp,by simp,λk x h=> ?_,λx h=>(by cases h),λk x h=> ?_⟩
  · rw[List.getElem?_replicate]at h;split at h<;> cases h;exact .inl U
  · rw[List.getElem?_replicate]at h;split at h<;> cases h;exact⟨0,rfl,by omega⟩
theorem PlI.begin {nid:Int} (h:PlI ls ids idl atl) (g:idl[k]? =some 0) (i:nid≠0):PlI ls (ids++[nid]) (idl.set k nid) atl:=by
  have d:=(Za g).1;refine⟨by rw[List.length_set];exact h.il,h.al,λj x c=> ?_,λx f=> ?_,h.at_⟩
  · by_cases e:k=j
    · subst e;rw[List.getElem?_set_self d]at c;cases c;exact .inr (by simp)
    · rw[List.getElem?_set_ne e]at c;exact(h.id j x c).imp (λq=>q) λq=>List.mem_append_left _ q
  · rcases List.mem_append.1 f with f | f
    · obtain⟨a,b⟩:=h.sub x f;obtain⟨j,c⟩:=List.mem_iff_getElem?.1 a;refine⟨List.mem_iff_getElem?.2 ⟨j, ?_⟩,b⟩;rw[List.getElem?_set_ne (λe=>by subst e;rw[g]at c;cases c;exact b U)];exact c
    · obtain rfl:=List.mem_singleton.1 f;exact⟨List.mem_iff_getElem?.2 ⟨k,List.getElem?_set_self d⟩,i⟩
theorem PlI.step (h:PlI ls ids idl atl) (b:m<=12):PlI ls ids idl (atl.set k (m:Int)):=by
  refine⟨h.il,by rw[List.length_set];exact h.al,h.id,h.sub,λj x a=> ?_⟩;by_cases e:k=j
  · subst e;rw[List.getElem?_set]at a;simp at a;exact⟨m,a.2.symm,b⟩
  · rw[List.getElem?_set_ne e]at a;exact h.at_ j x a
theorem PlI.few (h:PlI ls ids idl atl) (a:ids.Nodup):ids.length<=ls.length:=by
  rw[<-h.il];exact List.Nodup.length_le_of_subset a λx b=>(h.sub x b).1
theorem qbb {As:List Th} (k:Nat) (b:Sat w As) (c:As[k]? =some (J1 a p i W ids g)):ids.Nodup:=by
  obtain⟨T,last,C,A,d,_⟩:=Zu (b.pull k c);exact d.few.1.1.imp λh e=>by omega
theorem qgk {pb:Nat} {F:Th} {ks:List Int} {ao aok ai aa:Option Addr} {cap capk ci ca:Nat} (b:Sat w [Q6 pb [ptrV a.t 0,intV 0,.slice ao ls.length cap,.slice aok ks.length capk,.slice ai ls.length ci,.slice aa ls.length ca,intV 0,.bool true],rowT inC (.slice ai ls.length ci) idl,rowT inC (.slice aa ls.length ca) atl,J1 a p i W ids g,F]) (hi:i+3<=400) (Y:400<(default:SlW).f) (Z:Ent F (RdL Ci (.slice ao ls.length cap) ls)) (hE: ∀t∈ls,Ent F (RdL FM (U5 t.v) t.l)) (hK:Ent F (RdL inC (.slice aok ks.length capk) ks)) (R:FewS ls ks) (q:PlI ls ids idl atl) (S:k<ls.length):
    Calls prog 13 #[ptrV pb 0,intV (k:Int)] w (Ret λv w'=> ∃ids' idl' atl',PlI ls ids' idl' atl'/\Sat w' [Q6 pb [ptrV a.t 0,intV 0,.slice ao ls.length cap,.slice aok ks.length capk,.slice ai ls.length ci,.slice aa ls.length ca,intV 0,.bool true],rowT inC (.slice ai ls.length ci) idl',rowT inC (.slice aa ls.length ca) atl',J1 a p (i+3) W ids' g,F]):=by
 have a0:(k:Int)%((ls.length:Int)+1)=k:=Int.emod_eq_of_lt (by omega) (by omega);have ab:=R.n;have ac:=R.k;obtain⟨gk,G,a1,a2⟩:=R.g k S;obtain⟨bk,offk,rfl,_⟩:=(hK.sat b 4 rfl).get G;obtain⟨⟨tv,tl⟩,H⟩: ∃t,ls[k]? =some t:=⟨_,XQ S⟩;have C:=R.t _ (List.mem_of_getElem? H);obtain⟨bt,offt,rfl,_⟩:=(Z.sat b 4 rfl).get H;have I:Ent F (RdL FM (U5 tv) tl):=hE _ (List.mem_of_getElem? H);obtain⟨ao2,cap2,a3,ad⟩:=(I.sat b 4 rfl).shape;obtain rfl:=Le a3;obtain⟨xi,c⟩: ∃x,idl[k]? =some x:=⟨_,XQ (by rw[q.il];exact S)⟩;obtain⟨xa,D⟩: ∃x,atl[k]? =some x:=⟨_,XQ (by rw[q.al];exact S)⟩;obtain⟨m,rfl,a9⟩:=q.at_ k xa D;have ae:=q.il;have af:=q.al;dsimp only at C;refine Qn func13 U ntmps13 U ?_;refine Qe<|Qa<|Qb U U<|Qb U U<|Qj U U<|Qg U Ma U<|Qo U Oj (b.cell 0 U U) U<|Xl underlying23 U U<|QE U U (by omega) (by omega) U ?_;refine Vd U U (by omega) (by omega) U ?_;rw[a0];refine Qd U U<|Qf<|Qc<|Qh [0,4] U<|Qe<|Qe<|Qa<|Qb U U<|Xa U U U<|Qf<|Qc<|Qs U (λh1=> ?_) (λh1=> ?_)
 ·exact absurd h1 (by omega)
 refine Qt<|Qc<|Qe<|Qe<|Qa<|Qb U U<|Qb U U<|Qj U U<|Qg U Ma U<|Qo U Oj (b.cell 0 U U) U<|Xl underlying23 U U<|Xg U U U<|Qf<|Qc<|Qh [0,4,32] U<|Qs U (λh2=> ?_) (λh2=> ?_)
 ·exact absurd h2 (by omega)
 refine Qt<|Qc<|Qe<|Qe<|Qa<|Qb U U<|Qb U U<|Qj U U<|Qg U fo_41_6 U<|Qo U QL (b.cell 0 U U) U<|Xa U U U<|Qf<|Qc<|Qs U (λh3=> ?_) (λh3=> ?_)
 ·exact absurd h3 (by omega)
 refine Qt<|Qc<|Qe<|Qe<|Qa<|Qb U U<|Qj U U<|Qg U Ps U<|Qo U J0 (b.cell 0 U U) U<|Qb U U<|Xj inC 1 k b U U U (by rfl) c WZ U ?_;intro bx4 capx4 J;refine Zh 1 k 0 b U J U U c QL U U<|Xg U U U<|Qf<|Qc<|Qh [0,4,95] U<|Qs U (λh5=> ?_) (λh5=> ?_)
 ·have j:xi=0:=h5;refine Qe ?_;have a4:=qbb 3 b U;have ag:=q.few a4;have K:=b.drew;refine Q7 [0,1,2,3,4,5,6,7,8,9,10,11,12,13,14,15,16,17,18,19,20] [15] Z9 (by kernel_rfl) ?_;refine Q3 U U U<|QP U U U<|QG U U U Ah<|Q0 U U U (Ql U JY (K.cell 0 U U))<|Q3 U U U<|QP U U U<|QG U U U fo_41_1<|Q0 U U U (Ql U QL (K.cell 0 U U))<|Q3 U U U<|QP U U U<|QG U U U fo_41_3<|Q0 U U U (Ql U J0 (K.cell 0 U U))<|Q3 U U U<|Xi U U U (λ_=>(XK k U U (by rfl) (by omega) WZ)) ?_;refine Q0 U U U (Ql U QL ((hK.sat K 4 U).at_ G 0 _ U))<|QO U U U U U U ?_;refine Qw PO U (qf7 (K.sp [3] U) (by omega) (by omega) ⟨a1,a2⟩) U ?_;rintro _ w7 ⟨nid,a5,rfl,T⟩;replace T:=T.jn U U;refine Xh (Xd (by kernel_rfl)) ?_;refine Q3 U U U<|ZX U U U U<|ZX U U U U<|Zd U U U<|Zd U U U (VC.nil (Qc (Qh [0,4,5,6] U (Qe (Qa (Qb U U (Qb U U (Qj U U (Qg U DZ U (Qo U VM (T.cell 1 U U) U (Qb U U (X9 120 U (λL=> ?_) (λL=> ?_)))))))))))))
  ·refine Qk U U L<|Qb U U<|Qk U U L<|Xg U U U<|QF U L U U<|Qj U U<|Qg U DZ U ?_
   first | (refine QK T U U Cj (by rfl) (i:=1) U (Xk U) ?_)
   intro w9 r;dsimp only[List.set]at r;refine Qf<|Qc<|Qh [0,4,5] U<|Qe<|Qa<|Qb U U<|Qj U U<|Qg U Ps U<|Qo U J0 (r.cell 1 U U) U<|Qb U U<|Qb U U<|Xj inC 2 k r U U U (by first | rfl | omega) c WZ U ?_
   intro bx11 capx11 E;refine Wp 2 k nid r U E U U YD (by rfl) (by omega) ?_;intro ah M;dsimp only[List.set]at M;refine Qf<|Qc<|Qu<|Qq<|Zb (.inr U) U ?_;have N:=M.pick [0,1,2,3,4] U;exact⟨_,rfl,ids++[nid],idl.set k nid,atl,q.begin (j▸c) a5,(VZ (by omega) N).pick [1,2,3,0,4] U⟩
  exact absurd L (by decide)
 have j: ¬xi=0:=h5;have z:=(q.id k xi c).resolve_left j;refine Qt<|Qc<|Qe ?_;obtain⟨ob15,oc15,A,V⟩:=b.own_at 1 rfl (by omega);simp only[Value.slice.injEq]at A;obtain⟨rfl, -,rfl⟩:=A;have u:=b.drew;refine Q7 [0,1,2,3,4,5,6,7,8,9,10,11,12] [11] Z9 (by kernel_rfl) ?_;refine Q3 U U U<|QP U U U<|QG U U U Ah<|Q0 U U U (Ql U JY (u.cell 0 U U))<|Q3 U U U<|QP U U U<|QG U U U Ps<|Q0 U U U (Ql U J0 (u.cell 0 U U))<|Q3 U U U<|Xi U U U (λ_=>(XK k U U (by rfl) (by omega) WZ)) ?_;refine Q0 U U U (ZN inC 1 k 0 u U c QL U U)<|QO U U U U U U ?_;refine Qw BW U (Ej (u.sp [3] U) (.inr z)) U ?_;rintro _ aj ⟨vb,rfl,y⟩;replace y:=y.jn U U;refine Xh (Xd (by kernel_rfl)) ?_;refine Zd U U U (VC.nil (Qc (Qh [0,4,7] U (Qe (Qe (Qa (Qb U U (XG underlying34 U U U (Qf (Qc (QM U (Qt (Qc (Qe ?_))))))))))))));obtain⟨ob18,oc18,B,X⟩:=y.own_at 4 rfl (by omega);simp only[Value.slice.injEq]at B;obtain⟨rfl, -,rfl⟩:=B;have d:=y.drew;refine Q7 [0,1,2,3,4,5,6,7,8,9,10,11,12,13,14,15] [] Z9 (by kernel_rfl) ?_;refine Q3 U U U<|QP U U U<|QG U U U Pr<|Q0 U U U (Ql U J0 (d.cell 2 U U))<|Q3 U U U<|Xi U U U (λ_=>(XK k U U (by rfl) (by omega) WZ)) ?_;refine Q0 U U U (ZN inC 4 k 0 d U D QL U U)<|Q3 U U U<|QP U U U<|QG U U U Ma<|Q0 U U U (Ql U Oj (d.cell 2 U U))<|Q3 U U U<|Xi U U U (λ_=>(XK k U U (by rfl) (by omega) Tw)) ?_;refine Q0 U U U (Ql U TV ((Z.sat d 5 U).at_ H 0 (.slice ao2 tl.length cap2) U))<|Xi U U U (λ_=>(YT underlying22 U)) ?_;refine Xi U U U (λ_=>(Tu U U)) ?_;refine VC.nil (Qc (Qh [0,4,7,165] U (Qs U (λa6=> ?_) (λa6=> ?_))))
 ·obtain⟨s,hs⟩: ∃s,tl[m]? =some s:=⟨_,XQ (by omega)⟩;have a7:=C.2 s (List.mem_of_getElem? hs);have ak:=(Za hs).1;have h:=d.drew;refine Q7 [0,1,2,3,4,5,6,7,8,9,10,11,12,13,14,15,16,17,18,19,20,21,22] [20,22] Z9 (by kernel_rfl) ?_;refine Q3 U U U<|QP U U U<|QG U U U Pr<|Q0 U U U (Ql U J0 (h.cell 2 U U))<|Q3 U U U<|Q3 U U U<|Q3 U U U<|QP U U U<|QG U U U Ma<|Q0 U U U (Ql U Oj (h.cell 2 U U))<|Q3 U U U<|Xi U U U (λ_=>(XK k U U (by rfl) (by omega) Tw)) ?_;refine Q0 U U U (Ql U TV ((Z.sat h 5 U).at_ H 0 (.slice ao2 tl.length cap2) U))<|Q3 U U U<|QP U U U<|QG U U U Pr<|Q0 U U U (Ql U J0 (h.cell 2 U U))<|Q3 U U U<|Xi U U U (λ_=>(XK k U U (by rfl) (by omega) WZ)) ?_;refine Q0 U U U (ZN inC 4 k 0 h U D QL U U)<|QO U U U U U U ?_;refine Qw qft U (CO (h.sp [0,1] U) (.inr z) (by omega) (λe=>absurd e j) Y (I.starL 3 U) hs a7 (by omega)) U ?_;rintro _ am ⟨b9,rfl,_,o⟩;replace o:=o.jn U U;rw[RA j]at o;have a8:(m+ if b9=true then 2 else 1)<=12:=by have :=C.1;split<;>omega
  refine Xh (.skip (by kernel_rfl) (.skip (by kernel_rfl) (.skip (by kernel_rfl) (.skip (by kernel_rfl) (.cons (.inl ⟨rfl,(Ql U J0 (o.cell 2 U U))⟩) .nil))))) ?_;refine Xi U U U (λ_=>(XK k U U (by rfl) (by omega) WZ)) ?_;rw[show 0+k*1=k*inC.size from Nat.zero_add _];refine QO U U U U U U ?_;refine Wp 4 k ((m+ if b9=true then 2 else 1:Nat):Int) o U U U U YD (by rfl) (by omega) ?_;intro an O;dsimp only[List.set]at O;refine Zc (Xd (by kernel_rfl)) ?_;refine VC.nil (Zb (.inl U) U ?_);have P:=O.pick [1,2,3,4,5] U;exact⟨_,U,ids,idl,_,q.step a8,P.pick [1,2,3,0,4] U⟩
 refine Qt<|Zb (.inl U) U ?_;have Q:=d.pick [1,2,3,4,5] U;exact⟨_,rfl,ids,idl,atl,q,(VZ (by omega) Q).pick [1,2,3,0,4] U⟩
theorem Cnt.det {κ:Type} {f:κ->Int} (h:Cnt f s n) (e:Cnt f s m):n=m:=by
  obtain⟨a,g,d,rfl⟩:=h;obtain⟨b,b1,b2,rfl⟩:=e;have i:a⊆b:= λx c=>(b2 x).2 ((d x).1 c);have j:b⊆a:= λx c=>(d x).2 ((b2 x).1 c);exact Nat.le_antisymm (List.Nodup.length_le_of_subset g i) (List.Nodup.length_le_of_subset b1 j)
def RfL (P:KD->Int) (il rl:List Int):Prop:=rl.length<=il.length/\ ∀(j:Nat) (s r:Int),il[j]? =some s->rl[j]? =some r-> ∃n:Nat,Cnt P s n/\r=(n:Int)
theorem RfL.nil:RfL P il []:=⟨Nat.zero_le _,λj s r _ h=>by simp at h⟩
theorem RfL.app (h:RfL P il rl) (c:il[rl.length]? =some s) (d:Cnt P s n):RfL P il (rl++[(n:Int)]):=by
  have g:=(Za c).1;refine⟨by simp;omega,λj t r b a=> ?_⟩;by_cases e:j<rl.length
  · rw[List.getElem?_append_left e]at a;exact h.2 j t r b a
  · rw[List.getElem?_append_right (by omega)]at a
    have f:j=rl.length:=by
      have :=(Za a).1;simp at this;omega
    subst f;rw[c]at b;cases b;simp at a;exact⟨n,d,a.symm⟩
theorem sref_sp {iv rv:Value} {F:Th} (q:Sat w [rowT inC iv il,rowT inC rv rl,J1 a p i W [] (some P),F]) (hi:i+1<=400) (f:LiveP P il) (t:RfL P il rl) (L:rl.length=il.length):
    Calls prog 17 #[ptrV p 0,iv,rv] w (Ret λv w'=>v= .bool true/\Sat w' [rowT inC iv il,rowT inC rv rl,J1 a p i W [] (some P),F]):=by
 obtain⟨ai,ci,u,_⟩:=q.own_shape 0 rfl;obtain rfl:=u;obtain⟨ar,cr,x,_⟩:=q.own_shape 1 rfl;obtain rfl:=x;refine Qn func17 U ntmps17 U ?_;refine Qe<|Qa<|Qd U U<|Qf<|Qc<|Qe<|Qa<|Qb U U<|Qw qfw U (El (q.sp [2] U) (by omega)) U ?_;rintro _ Q ⟨l2,y,H,d⟩;replace d:=d.jn U U;obtain rfl:il=l2:=f.eq y;obtain⟨I,J,z,_⟩:=d.own_shape 0 rfl;obtain rfl:=z;refine Qd U U<|Qf<|Qc<|Qe<|Qe<|Qa<|Qb U U<|Wa 0 d underlying24 U U U<|Qb U U<|Wa 2 d underlying24 U U U<|Xz U U U<|Qf<|Qc<|Qh [2,1,0,6,7,15] U<|Qs U (λK=> ?_) (λK=> ?_)
 ·exact absurd U K
 refine Qt<|Qc<|Qe<|Qe<|Qa<|Qd U U<|Qf<|Qc<|Qx ?_;refine QU (λK0 E0 W0=> ∃(j:Nat),K0=il.length -j/\E0=[(0,ptrV p 0),(1,.slice ai il.length ci),(2,.slice ar rl.length cr),(7,.slice I il.length J),(8,intV (j:Int))]/\Sat W0 [rowT inC (.slice I il.length J) il,rowT inC (.slice ai il.length ci) il,rowT inC (.slice ar rl.length cr) rl,J1 a p i W [] (some P),F]/\(j<=il.length)) (L0:=[(0,_),(1,_),(2,_),(7,_),(8,_)]) (il.length) (Vb U U U U U) ⟨0,rfl,rfl,d.pick [0,2,3,1,4] U,by omega⟩ ?_;rintro _ _ R ⟨j,rfl,rfl,e,S⟩;refine Qe<|Qe<|Qa<|Qb U U<|Qb U U<|Wa 0 e underlying24 U U U<|Xa U U U<|Qf<|Qc<|Qs U (λM=> ?_) (λM=> ?_)
 ·obtain⟨s,g⟩: ∃s,il[j]? =some s:=⟨_,XQ (by omega)⟩;obtain⟨r,A⟩: ∃r,rl[j]? =some r:=⟨_,XQ (by omega)⟩;obtain⟨n,N,rfl⟩:=t.2 j s r g A;have B:=((f.2 s).1 (List.mem_of_getElem? g)).1;refine Qt<|Qc<|Qe<|Qx<|Qe ?_;obtain⟨ob5,oc5,h,C⟩:=e.own_at 0 rfl (by omega);simp only[Value.slice.injEq,true_and]at h;obtain⟨rfl,rfl⟩:=h;obtain⟨ob6,oc6,k,D⟩:=e.own_at 1 rfl (by omega);simp only[Value.slice.injEq,true_and]at k;obtain⟨rfl,rfl⟩:=k;obtain⟨ob7,oc7,l,E⟩:=e.own_at 2 rfl (by omega);simp only[Value.slice.injEq,true_and]at l;obtain⟨rfl,rfl⟩:=l;have m:=e.drew;refine Q7 [0,1,2,3,4,5,6,7,8,9,10,11,12,13,14,16,17,18,19,15,20,21] [15] Z9 (by kernel_rfl) ?_;refine Q3 U U U<|Q3 U U U<|Xi U U U (λ_=>(XK j U U (by rfl) (by omega) WZ)) ?_;refine Q0 U U U (ZN inC 0 j 0 m U g QL U U)<|Q3 U U U<|Q3 U U U<|Xi U U U (λ_=>(XK j U U (by rfl) (by omega) WZ)) ?_;refine Q0 U U U (ZN inC 1 j 0 m U g QL U U)<|Xi U U U (λ_=>(BQ U U)) ?_;refine Q3 U U U<|HI 31 U (λb=> ?_) (λb=> ?_)
  ·exact absurd U b
  refine Xi U U (QI U U (QH b)) (λ_=>(Ev.gd (X2 U))) ?_;refine Xi U U (QI U U (QH b)) (λ_=>(Ev.gd (X2 U))) ?_;refine Xi U U (QI U U (QH b)) (λ_=>(Ev.gd (X2 U))) ?_;refine Xi U U (QI U U (QH b)) (λ_=>(Ev.gd (XK j U U (by rfl) (by omega) WZ))) ?_;refine Q0 U U (QI U U (QH b)) (Ev.gd (ZN inC 0 j 0 m U g QL U U))<|Xi U U (QI U U (QH b)) (λ_=>(Ev.gd (X2 U))) ?_;refine Xi U U (QI U U (QH b)) (λ_=>(Ev.gd (X2 U))) ?_;refine Xi U U (QI U U (QH b)) (λ_=>(Ev.gd (XK j U U (by rfl) (by omega) WZ))) ?_;refine Q0 U U (QI U U (QH b)) (Ev.gd (ZN inC 2 j 0 m U A QL U U))<|QO U U (QI U U (QH b)) U U U ?_;refine Qw TO U (Ek (m.sp [3] U) (by omega) B) U ?_;rintro _ O ⟨T,G,rfl,c⟩;replace c:=c.jn U U;obtain rfl:=N.det G;refine Xh (.cons (.inl ⟨(QI U U (QH b)),(Ev.gd (ZN inC 3 j 0 c U A QL U U))⟩) (Xd (by kernel_rfl))) ?_;refine Xi U U (QI U U (QH b)) (λ_=>(Ev.gd (BQ U U))) ?_;refine Xi U U U (λ_=>(JT U (QH b) U)) ?_;refine VC.nil (Qc (Qh [8,7,2,1,0,43] U (Qs U (λo=> ?_) (λo=> ?_))))
  ·exact absurd U o
  refine Qt<|Qm<|Qc<|Qa<|Qb U U<|QE U U (by omega) (by omega) U ?_;refine Qd U U<|Qf ?_;exact Q5 (L1:=[(0,_),(1,_),(2,_),(7,_),(8,intV ((j+1:Nat):Int))]) (Vb U U U U U) (k1:=il.length -(j+1)) (by omega) ⟨j+1,rfl,rfl,c.pick [1,2,3,0,4] U,by omega⟩
 exact QQ (Qp (Qp (Qy (Qc (Qe (Qa (Qd U U (Qf (Qc (Qu (QJ (.inr U) U U (⟨_,U,U,e.pick [1,2,3,4] U⟩))))))))))))
