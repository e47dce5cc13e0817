/- leaves: Commit by contents -/
import Derived.Test.YtifaibmhinlcfaaGreatDoorLv27
import Derived.Test.YtifaibmhinlcfaaGreatDoorTr2
import Derived.Test.YtifaibmhinlcfaaGreatDoorLv1
import Derived.Test.YtifaibmhinlcfaaGreatDoorSh7
import Derived.Test.YtifaibmhinlcfaaGreatDoorSh3
set_option linter.unusedSectionVars false
set_option linter.unusedVariables false
set_option maxRecDepth 100000
namespace Go.Proofs.YtifaibmhinlcfaaGreatDoor
open Go.RowKit M Proofs.Tryz
variable [Inhabited SlW]
variable {D:Int→Prop} {V:VS} {d q:Nat} {i id n who:Int} {order:List KD} {p:NodeD} {t:TrD}
def PartLe (t:TrA) (q:Nat):Prop:= ∃l:List KD,l.length<=q/\ ∀k x,t.lv k=some x->x.wr≠0#64->x.wr≠BitVec.allOnes 64->k∈l
def DrLe (t:TrA) (d:Nat):Prop:= ∃l:List Bs,l.length<=d/\ ∀ob,t.dr ob=true->ob∈l
theorem PartLe.part (h:PartLe (ZR V t) q) (d:order.Nodup):YG t order<=q:=by
  obtain⟨l,e,f⟩:=h;refine Nat.le_trans ?_ e;unfold YG;refine Wm (d.filter _) λk c=> ?_;obtain⟨_,c⟩:=List.mem_filter.1 c;simp only[decide_eq_true_eq]at c;obtain⟨x,g,a,b⟩:=c;exact f k _ (ZW g) a b
theorem DrLe.came (h:DrLe (ZR V t) d) {ks:List Bs} (a:Came (YA t.dr) ks):ks.length<=d:=by
  obtain⟨l,b,c⟩:=h;refine Nat.le_trans (Wm a.nodup λk e=> ?_) b;have f:=a.has k e;refine c k ?_;show t.dr k=true;cases q:t.dr k with
  | true=>rfl
  | false=> exact absurd (by unfold YA;rw[q];rfl) f
theorem Ok {L:LvD} (h: ∀i u,(QC L V).tr i=some u->u.parent≠id): ∀i u,L.tr i=some u->u.parent≠id:= λi u a=>h i _ (Z1 a)
theorem ls_com {w:World} {b p n m c e:Nat} {A:LvA} {F:Th} (g:Sat w [lsT b p n m c e A,F]) (S:n<=60000000000) (J:m<ZO) (j:n+(16*e+4*e*d)<=60000000000) (l:d<=90000000000) {tA:TrA} (K:A.tr id=some tA) (o: ∀i u,A.tr i=some u->u.parent≠id) (s:DrA A) (hd:DrLe tA d) (B:PartLe tA q) (M:c+q<(default:SlW).f):
    Calls prog 53 #[ptrV b 0,intV id] w (Ret λv w'=> ∃order obs,v=intV 0/\((∀k,k∈order↔tA.lv k≠none)/\order.Nodup/\(∀ob,ob∈obs↔tA.dr ob=true))/\Sat w' [lsT b p (n+(16*e+4*e*d)) m (c+q) e (DA A id tA order obs),F]):=by
  obtain⟨L,V,⟨N,O,rfl,C,D⟩,P⟩:=Ki g;obtain⟨t,y,rfl⟩:=U3 K;refine(IN P j O J D y (Ok o) s (λks h=>hd.came h) l).mono λew w h=>h.mono λv w h=> ?_;obtain⟨L',V',h,g⟩:=h;rcases h with⟨rfl,order,obs,E,a,G,H,z,I,Q,R⟩ | ⟨_,_,order,E,a,G,H,z,I⟩
  · refine⟨order,obs,rfl,⟨λk=>(E k).trans ?_,a,G⟩,UI ⟨z.trans N,H,I,(R _ C).mono (Nat.add_le_add_left (B.part a) c),Q _ D⟩ g⟩;cases r:t.lv k with
    | none=> rw[K9 r];simp
    | some x=> rw[ZW r];simp
  · have x1:=z _ C;have x2:=B.part a;omega
structure LvP (A:LvA) (T:Nodes):Prop where
  zero:A.tr 0=none
  par: ∀i,i≠0→(T i).map NodeD.par=(A.tr i).map TrA.parent
structure QuA (A:LvA) (T:Nodes):Prop extends LvP A T where
  none: ∀{i t},A.tr i=some t→t.lv=(fun _=>Option.none)∧t.dr= fun _=>false
section
variable {A:LvA} {T:Nodes} {id last:Int}
theorem QuA.get (h:QuA A T) {n:NodeD} (d:id≠0) (e:T id=some n):A.tr id=some ⟨n.par,λ_=> .none,λ_=>false⟩:=by
  have a:=h.par id d;rw[e]at a;cases q:A.tr id with
  | none=> rw[q]at a;cases a
  | some t=>
    rw[q]at a;obtain⟨p,lv,dr⟩:=t;obtain⟨b,c⟩:=h.none q;have f:n.par=p:=Option.some.inj a;dsimp only at b c;rw[b,c,f]
theorem LvP.miss (h:LvP A T) (b:id≠0):A.tr id= .none↔T id= .none:=by
  have a:=h.par id b;cases q:A.tr id<;> cases c:T id<;> rw[q,c]at a<;> simp at a⊢
theorem LvP.begin (h:LvP A T) (a:TrI T last) {d:Int} (b:T who=some p):
    FH A (last+1) who=0/\LvP (K5 A (last+1) who) (QN T (last+1) (some ⟨last+1,who,d,n,0,false,false⟩)):=by
  have k:=a.last0
  have f:A.tr (last+1)= .none:=(h.miss (by omega)).2 (by
    cases q:T (last+1)with
    | none=>rfl
    | some x=> have :=a.pos q (by omega);omega)
  have g:who=0\/A.tr who≠ .none:=by
    by_cases e:who=0
    · exact .inl e
    · exact .inr λq=>by rw[(h.miss e).1 q]at b;cases b
  have c:FH A (last+1) who=0:=by
    unfold FH;rw[if_neg (by omega),f];rcases g with e | e
    · subst e;simp [M4]
    · obtain⟨u,j⟩:=Option.ne_none_iff_exists'.1 e;simp [M4,j]
  refine⟨c, ?_⟩;unfold K5;rw[if_pos c];refine⟨by show QN A.tr (last+1) _ 0= .none;rw[Qz (by omega)];exact h.zero,λi hi=> ?_⟩;show _=(QN A.tr (last+1) _ i).map TrA.parent;by_cases e:i=last+1
  · subst e;rw[Qv,Qv];rfl
  · rw[Qz e,Qz e];exact h.par i hi
theorem QuA.begin (h:QuA A T) (b:TrI T last) {who n d:Int} {p:NodeD} (c:T who=some p):
    QuA (K5 A (last+1) who) (QN T (last+1) (some ⟨last+1,who,d,n,0,false,false⟩)) where
  toLvP:=(h.toLvP.begin b c).2
  none:= λ{i t} a=>by
    unfold K5 at a;rw[if_pos (h.toLvP.begin b (n:=n) (d:=d) c).1]at a;have a:QN A.tr (last+1) _ i=some t:=a;by_cases e:i=last+1
    · subst e;rw[Qv]at a;cases a;exact⟨rfl,rfl⟩
    · rw[Qz e]at a;exact h.none a
theorem LvP.del (h:LvP A T) (b:id≠0) {A':LvA} (a:A'.tr=QN A.tr id .none):LvP A' (QN T id .none):=by
  refine⟨by rw[a,Qz (λe=>b e.symm)];exact h.zero,λi hi=> ?_⟩;rw[a];by_cases e:i=id
  · subst e;rw[Qv,Qv];rfl
  · rw[Qz e,Qz e];exact h.par i hi
theorem QuA.del (h:QuA A T) (b:id≠0):QuA (Kw A id) (QN T id .none) where
  toLvP:=h.toLvP.del b U
  none:= λ{i t} a=>by
    have a:QN A.tr id .none i=some t:=a;by_cases e:i=id
    · subst e;rw[Qv]at a;cases a
    · rw[Qz e]at a;exact h.none a
theorem LvP.kids (h:LvP A T) (c: ∀j,¬ChildOf T id j): ∀i u,A.tr i=some u->u.parent≠id:= λi u b e=>by
  by_cases hi:i=0
  · subst hi;rw[h.zero]at b;cases b
  · have a:=h.par i hi;rw[b]at a;cases q:T i with
    | none=> rw[q]at a;cases a
    | some n=>
      rw[q]at a;exact c i ⟨n,q,hi,(Option.some.inj a).trans e⟩
theorem QuA.va (h:QuA A T) {t:TrA} (b:A.tr id=some t):VA A t:= λk x a=>by
  rw[(h.none b).1]at a;cases a
theorem QuA.dr (h:QuA A T):DrA A:= λi t k x a hd _=>by
  rw[(h.none a).2]at hd;cases hd
theorem QuA.com (h:QuA A T) {t:TrA} (b:A.tr id=some t) {obs:List Bs} (c: ∀k,k∈order↔t.lv k≠ .none) (d: ∀ob,ob∈obs↔t.dr ob=true):DA A id t order obs=Kw A id:=by
  have e:order=[]:=List.eq_nil_iff_forall_not_mem.2 λk a=>(c k).1 a (by rw[(h.none b).1]);have f:obs=[]:=List.eq_nil_iff_forall_not_mem.2 λk a=>by have :=(d k).1 a;rw[(h.none b).2]at this;cases this
  subst e;subst f;unfold DA;simp
theorem LvP.same (h:LvP A T) {T':Nodes} (a: ∀i,i≠0->(T' i).map NodeD.par=(T i).map NodeD.par):LvP A T':=⟨h.zero,λi hi=>(a i hi).trans (h.par i hi)⟩
theorem LvP.get (h:LvP A T) {n:NodeD} (b:id≠0) (c:T id=some n): ∃t,A.tr id=some t/\t.parent=n.par:=by
  have a:=h.par id b;rw[c]at a;cases q:A.tr id with
  | none=> rw[q]at a;cases a
  | some t=> rw[q]at a;exact⟨t,rfl,(Option.some.inj a).symm⟩
end
section
variable {T:Nodes} {id last:Int}
theorem IdsOf.len_abS {ids ids':List Int} (h:IdsOf T ids) (b:IdsOf (abS T D) ids'):ids'.length<=ids.length:=by
  have d: ∀x∈ids',x∈ids:= λx e=>by
    obtain⟨a,c⟩:=(b.2 x).1 e;refine(h.2 x).2 ⟨a,λq=>c ?_⟩;unfold abS;split
    · rfl
    · exact q
  exact Wm (b.1.imp λh=>by omega) d
end
def PlainN (T:Nodes):Prop:= ∀i n,T i=some n->n.el=0/\n.timed=false/\n.short=false
theorem PlainN.abS {T:Nodes} (h:PlainN T):PlainN (abS T D):= λi n q=>h i n (KA q).2
theorem PlainN.begin {T:Nodes} {d:Int} (h:PlainN T):PlainN (QN T i (some ⟨i,who,d,n,0,false,false⟩)):= λj m q=>by
  by_cases e:j=i
  · subst e;rw[Qv]at q;cases q;exact⟨rfl,rfl,rfl⟩
  · rw[Qz e]at q;exact h j m q
theorem DepI.begin {T:Nodes} (h:DepI T) (a:T who=some p) (hd:p.dep<8):DepI (QN T i (some ⟨i,who,p.dep+1,n,0,false,false⟩)):= λj m q=>by
  by_cases e:j=i
  · subst e;rw[Qv]at q;cases q;have :=h _ _ a;exact⟨by show 0<=p.dep+1;omega,by show p.dep+1<=8;omega⟩
  · rw[Qz e]at q;exact h j m q
end Go.Proofs.YtifaibmhinlcfaaGreatDoor
namespace Go.Proofs.YtifaibmhinlcfaaGreatDoor.M
open Go.RowKit Proofs.Tryz
variable {a b m o off s t:Nat} {cs ds vs:List Value} {et kt t2 u:TypeId} {j:TypeInfo} {v:Value} {x y:Operand}
section
variable {κ:Type} {kv:κ→Value} {P:Program} {n:Nat} {ops:Array Oper} {Q:Exit→Act→World→Prop} {rest:List Oper} {L:Env} {w:World} {d:Nat} {ty:TypeId} {pos:String} {aft:Array Edge} {As:List Th}
theorem Fv {es:Array MapEntry} {clock:Nat} {o:Oper} {a:Act} (mt:TypeId) (x y z:Operand) (j:o.op= .insert mt x y z) (K:KeyOk P kt kv) (l:P.underlying mt=some (.map kt et)) (h:MapAt kv w b es clock)
    (m:a.eval x= .map (some b)) {k:κ} (n:a.eval y=kv k) (p:a.eval z=v):
    does P o a w (λu w'=>u=undef/\ ∃es' clock',isPut kv es es' clock clock' k v/\MapAt kv w' b es' clock'/\Only [b] w w'/\w'.heap.size=w.heap.size):=by
  rcases K.find k es.toList w h.keys with⟨i,e,d,f,q⟩ | ⟨d,f⟩
  · have c:isPut kv es (es.modify i (λe=>{e with key:=kv k,val:=v})) clock clock k v:= .inl ⟨rfl,i,e,by simpa using d,f,rfl⟩
    refine⟨undef,_,.inr ⟨?_,rfl⟩,rfl,_,_,c,h.put c,Only.setObj _ _ _,by simp⟩;have g:es[i]? =some e:=by simpa using d
    simp [execOp,j,m,n,p,Instr.mapUpdate,run_underlying l,MapKept.run_getObj_map h.blk,MapKept.run_setObj_map _ h.blk,K.check,q,g,f,Instr.keyThatStays,K.bits]
  · have c:isPut kv es (es.push {key:=kv k,val:=v,born:=clock}) clock (clock+1) k v:= .inr ⟨rfl,d,rfl⟩;refine⟨undef,_,.inr ⟨?_,rfl⟩,rfl,_,_,c,h.put c,Only.setObj _ _ _,by simp⟩;simp [execOp,j,m,n,p,Instr.mapUpdate,run_underlying l,MapKept.run_getObj_map h.blk,MapKept.run_setObj_map _ h.blk,K.check,f]
theorem Cz {mt:TypeId} {z:Operand} {f:κ->Option Value} {k:κ} (i:Nat) (e:Sat w As) (K:KeyOk P kt kv) (h:P.underlying mt=some (.map kt et)) (hi:As[i]? =some (Q4 kv b f)) (j:look L x=some (.map (some b))) (l:look L y=some (kv k)) (m:look L z=some v)
    (o: ∀w',Sat w' (As.set i (Q4 kv b (upd f k (some v))))->wl P n ops Q rest L w'):wl P n ops Q (⟨none,.insert mt x y z,ty,pos,aft,none⟩::rest) L w:=by
  obtain⟨es,c,g,p⟩:=e.map i hi;refine XI U U (λa d=>Fv mt x y z U K h g (d.eval j) (d.eval l) (d.eval m)) ?_;rintro _ w' ⟨rfl,es',c',q,r,s,_⟩;exact o w' (e.map_set i hi r (p.put K g.stamped q) s)
def BlkF (w:World) (b:Nat) (cs:List Value):Prop:=
  ∃T lo hi,w.heap[b]? =some (.cells cs.toArray T (lo,hi))/\(hi<=lo\/cs.length<lo)
theorem BlkF.blk {b:Nat} {cs:List Value} (h:BlkF w b cs):Blk w b cs:=by
  obtain⟨T,lo,hi,h,q⟩:=h;exact⟨T,lo,hi,h,by omega⟩
def blkF (b:Nat) (cs:List Value):Th where
  at_:= λw F=>(F= λk=>k=b)/\BlkF w b cs
  fr:= λa ⟨e,T,lo,hi,h,q⟩=>⟨e,T,lo,hi,by rw[a.blk _ (by rw[e])];exact h,q⟩
  lt:= λ⟨e,h⟩ k c=>by rw[e]at c;subst c;exact h.blk.lt
theorem Sat.blkF (h:Sat w As) (i:Nat) (hi:As[i]? =some (blkF b cs)):BlkF w b cs:=by
  obtain⟨F,_,h⟩:=h.get i hi;exact h
theorem Sat.cellF (h:Sat w As) (i:Nat) (hi:As[i]? =some (M.blkF b cs)) (a:cs[o]? =some v):w.cell? ⟨b,o,none⟩=some v:=(h.blkF i hi).blk.cell a
theorem BlkF.set (h:BlkF w b cs) (o:Nat) (v:Value):BlkF (w.setCell ⟨b,o,none⟩ v) b (cs.set o v):=by
  obtain⟨T,lo,hi,h,q⟩:=h;refine⟨T,lo,hi, ?_,by simpa using q⟩;simp [World.setCell,Array.getElem?_modify,h]
theorem KC {i:Nat} (l:Sat w As) (c:look L x=some (ptrV b o)) (r:look L y=some v) (s:ZQ P t=some 1) (m:v.oneCell'=true) (hi:As[i]? =some (blkF b cs)) (p:o<cs.length)
    (d: ∀w',Sat w' (As.set i (blkF b (cs.set o v)))->wl P n ops Q rest L w'):wl P n ops Q (⟨none,.store t x y,ty,pos,aft,none⟩::rest) L w:=by
  have f:=l.blkF i hi;have u:=f.blk.cell (XQ p);have z:=f.blk.free o p;have g:v.cells= #[v]:=by cases v<;>first | rfl | cases m
  refine XI U U (R:= λ_ w'=>w'=w.setCell ⟨b,o,none⟩ v) (λa q=>⟨undef,_,.inr ⟨?_,rfl⟩,rfl⟩) (λ_ w' e=> ?_)
  · have h:(store ⟨b,o,none⟩ v).run P w= .ok () (w.setCell ⟨b,o,none⟩ v):=by
      rw[run_store P w _ v _ m,u];simp [z]
    have A:(⟨b,o,none⟩:Addr).add 0=⟨b,o,none⟩:=by simp [Addr.add]
    simp [execOp,q.eval c,q.eval r,Instr.storeAt,Instr.sureAddr,storeVar,g,Zp s,storeCells,A,h]
  · subst e;have j:Only [b] w (w.setCell ⟨b,o,none⟩ v):=(Only.refl _ _).setCell (.inl (by simp)) v;exact d _ (l.step i hi λF ⟨e,_⟩=>⟨F,⟨e,f.set o v⟩,λk d=> .inl d,j.agree (λx c=> .inl (by simp only[List.mem_singleton]at c;subst c;rw[e]))⟩)
theorem wl_boxF (f:Sat w As) (g:look L x=some v) (c:v.cells.toList=cs) (hd:Nat.blt d n=true) (e: ∀b w',Sat w' (blkF b cs::As)->wl P n ops Q rest ((d,ptrV b 0)::L) w'):wl P n ops Q (⟨some d,.box t x,ty,pos,aft,none⟩::rest) L w:=by
  subst c;refine XI U hd (R:= λu w'=>u=ptrV w.heap.size 0/\w'=w.alloc (.cells v.cells t)) (λa h=>⟨_,_,.inl ?_,rfl,rfl⟩) (λu w' ⟨i,j⟩=> ?_)
  · simp [execOp,h.eval g,Instr.box,newVar,newRow]
  · subst i j;have l:BlkF (w.alloc (.cells v.cells t)) w.heap.size v.cells.toList:=⟨t,0,0,by rw[heap_alloc_new],.inl (Nat.le_refl _)⟩;exact e _ _ (f.new ((Only.refl _ _).alloc _) (A:=blkF w.heap.size v.cells.toList) ⟨rfl,l⟩ (λk e=>by rw[e];exact Nat.le_refl _))
theorem Sz (f:BlkF w a cs) (g:BlkF w b ds) (i:0<cs.length) (d:0<ds.length):(sameAddr ⟨a,0,none⟩ ⟨b,0,none⟩).run P w= .ok (decide (a=b)) w:=by
  by_cases e:a=b
  · subst e;rw[run_sameAddr_same];simp
  · obtain⟨T,lo,hi,h,j⟩:=f;obtain⟨T2,lo2,c,d,k⟩:=g;have f1: ¬(lo=0/\0<hi):=by omega
    have f2: ¬(lo<=cs.length/\cs.length<hi):=by omega
    have f3: ¬(lo2=0/\0<c):=by omega
    have f4: ¬(lo2<=ds.length/\ds.length<c):=by omega
    simp [sameAddr,World.frozen?,e,h,d,noView,viewAt,World.shape?,mayBeOne,stringish,f1,f2,f3,f4]
theorem Lr {tp te:TypeId} (e:P.underlying tp=some (.pointer te)) (c:P.info? te=some j) (d:j.size≠0) (f:BlkF w a cs) (g:BlkF w b ds) (i:0<cs.length) (k:0<ds.length):
    (Op.equal tp (ptrV a 0) (ptrV b 0)).run P w= .ok (decide (a=b)) w:=by
  have h:=Sz (P:=P) f g i k;unfold Op.equal Op.maxDepth Op.equalIn ptrV;simp [run_underlying e,sizeOf,typeInfo,c,d,h]
theorem I5 {t:TypeId} (f:P.underlying t=some (.pointer u)) (g:P.info? u=some j) (c:j.size≠0) (i:BlkF w a cs) (k:BlkF w b ds) (l:0<cs.length) (m:0<ds.length) (n:look L x=some (ptrV a 0)) (o:look L y=some (ptrV b 0)):Ev P L w ⟨some d,.binOp .eql t x y t2,ty,pos,aft,none⟩ (.bool (decide (a=b))):= λρ e=>by
  have h:=Lr f g c i k l m;simp only[ptrV]at h;simp [execOp,e _ _ n,e _ _ o,eqGuard,binOp,ptrV,h]
theorem Ov {t:TypeId} (e:P.underlying t=some (.pointer u)) (f:P.info? u=some j) (c:j.size≠0) (g:BlkF w a cs) (h:BlkF w b ds) (i:0<cs.length) (k:0<ds.length) (l:look L x=some (ptrV a 0)) (m:look L y=some (ptrV b 0)) (hd:Nat.blt d n=true) (o:wl P n ops Q rest ((d,.bool (decide (a=b)))::L) w):wl P n ops Q (⟨some d,.binOp .eql t x y t2,ty,pos,aft,none⟩::rest) L w:=
  Xp hd (I5 e f c g h i k l m) o
theorem I3 {j:Nat} (a:Vu P s j=some (off,some m)) (h:look L x=some (.agg cs.toArray)) (k:cs.toArray.extract off (off+m)=vs.toArray):Ev P L w ⟨some d,.field s x j,ty,pos,aft,none⟩ (.agg vs.toArray):= λρ l=>by
  unfold Vu at a;split at a
  · rename_i fs n;split at a
    · rename_i f e;split at a
      · rename_i dd i g hi;have b:HE dd=true:=by cases o:HE dd<;> simp [o]at a;rfl
        have c:f.offset=off/\i.size=m:=by simp [b]at a;exact a
        have p:Z0 P f.type=some true:=by simp [Z0,g,b]
        have q:(P.info? f.type).map (·.size)=some m:=by rw[hi];exact congrArg some c.2
        simp [execOp,l _ _ h,Instr.field,run_underlying n,e,asAgg,part,UZ p,Zp q,c.1,<-k]
      · cases a
    · cases a
  · cases a
theorem Ou {j:Nat} (a:Vu P s j=some (off,some m)) (b:look L x=some (.agg cs.toArray)) (c:cs.toArray.extract off (off+m)=vs.toArray) (hd:Nat.blt d n=true) (e:wl P n ops Q rest ((d,.agg vs.toArray)::L) w):wl P n ops Q (⟨some d,.field s x j,ty,pos,aft,none⟩::rest) L w:=
  Xp hd (I3 a b c) e
end
end Go.Proofs.YtifaibmhinlcfaaGreatDoor.M
namespace Go.Proofs.YtifaibmhinlcfaaGreatDoor
open Go.RowKit M Proofs.Tryz
variable [Inhabited SlW]
variable {As:List Th} {a c:Nat} {cs:List Value} {d i j who:Int} {k s:Bs} {n p:NodeD} {v:Value} {w:World}
structure SlD where
  a:Option Addr
  n:Nat
  c:Nat
def U5 (s:SlD):Value:= .slice s.a s.n s.c
abbrev CRd:=Int×Bs×Bs×SlD
def rdC (k s:Bs):CRd:=(0,k,s,⟨none,0,0⟩)
structure OneD where
  ad:Nat
  par:Option Nat
  kids:Int
  mw:Nat
  ml:Nat
  mv:Nat
  ms:Nat
  ov:Value
  writes:Bs→Option Bs
  logs:Bs→Option Bs
  order:List CRd
  vals:Bs→Option Bs
  li:Bs→Option (SlD×List Bs)
variable {x y:OneD}
structure CeD where
  ma:Nat
  all:Int→Option OneD
variable {C:CeD}
def Hv (f:Bs->Option Bs):Bs->Option Value:= λk=>(f k).map strV
theorem E2 (f:Bs->Option Bs) (k:Bs):(Hv f k).getD (strV [])=strV ((f k).getD []):=by
  unfold Hv;cases f k<;>rfl
theorem Jx {f:Bs->Option Bs} (h:f k=some s):Hv f k=some (strV s):=by unfold Hv;rw[h];rfl
theorem Yr {f:Bs->Option Bs} (h:f k=none):Hv f k=none:=by unfold Hv;rw[h];rfl
theorem DJ {f:Bs->Option Bs} :upd (Hv f) k (some (strV s))=Hv (QN f k (some s)):=by
  funext j;by_cases e:j=k
  · subst e;rw[XR];unfold Hv;rw[Qv];rfl
  · rw[ZG e];unfold Hv;rw[Qz e]
theorem stG_del {f:Bs->Option Bs} :upd (Hv f) k none=Hv (QN f k none):=by
  funext j;by_cases e:j=k
  · subst e;rw[XR];unfold Hv;rw[Qv];rfl
  · rw[ZG e];unfold Hv;rw[Qz e]
theorem qbo {f:Bs->Option Bs} (h:Hv f k=some v): ∃s,f k=some s/\v=strV s:=by
  unfold Hv at h;obtain⟨s,a,b⟩:=Option.map_eq_some_iff.1 h;exact⟨s,a,b.symm⟩
def NW (o:Option Nat):Value:= match o with | none=> .pointer none | some a=>ptrV a 0
def qco (x:OneD):List Value:=[NW x.par,intV x.kids,.map (some x.mw),.map (some x.ml),x.ov,.map (some x.mv),.map (some x.ms)]
def crdV (x:CRd):List Value:=[intV x.1,strV x.2.1,strV x.2.2.1,U5 x.2.2.2]
def SM (f:Bs->Option (SlD×List Bs)):Bs->Option Value:= λk=>(f k).map λq=>U5 q.1
def liT (q:SlD×List Bs):Th:=rowT stC (U5 q.1) q.2
def VL:RowC CRd:=⟨crdV,4,by decide,λ_=>rfl,λ_=>rfl⟩
def ZM (x:OneD):Th:=starL [blkF x.ad (qco x),Q4 Xo x.mw (Hv x.writes),Q4 Xo x.ml (Hv x.logs),rowT VL x.ov x.order,Q4 Xo x.mv (Hv x.vals),Q4 Xo x.ms (SM x.li),Xw liT x.li]
def Y8 (c:Nat) (C:CeD):Th:=starL [Q6 c [.map (some C.ma)],Q4 QY C.ma (XM OneD.ad C.all),Xw ZM C.all]
section
variable {w:World} {As:List Th}
theorem WT (h:Sat w (Y8 c C::As)):Sat w (Q6 c [.map (some C.ma)]::Q4 QY C.ma (XM OneD.ad C.all)::Xw ZM C.all::As):=h.flat
theorem WR (h:Sat w (Q6 c [.map (some C.ma)]::Q4 QY C.ma (XM OneD.ad C.all)::Xw ZM C.all::As)):Sat w (Y8 c C::As):=Sat.fold (As:=[Q6 c [.map (some C.ma)],Q4 QY C.ma (XM OneD.ad C.all),Xw ZM C.all]) h
theorem Zz {T:Int->Option OneD} (h:Sat w (Xw ZM T::As)) (a:T i=some x):Sat w (blkF x.ad [NW x.par,intV x.kids,.map (some x.mw),.map (some x.ml),x.ov,.map (some x.mv),.map (some x.ms)]::Q4 Xo x.mw (Hv x.writes)::Q4 Xo x.ml (Hv x.logs)::rowT VL x.ov x.order::Q4 Xo x.mv (Hv x.vals)::Q4 Xo x.ms (SM x.li)::Xw liT x.li::Xw ZM (QN T i none)::As):=(Rk h a).flat
theorem BH (h:Sat w (blkF x.ad [NW x.par,intV x.kids,.map (some x.mw),.map (some x.ml),x.ov,.map (some x.mv),.map (some x.ms)]::Q4 Xo x.mw (Hv x.writes)::Q4 Xo x.ml (Hv x.logs)::rowT VL x.ov x.order::Q4 Xo x.mv (Hv x.vals)::Q4 Xo x.ms (SM x.li)::Xw liT x.li::As)):Sat w (ZM x::As):=Sat.fold (As:=[blkF x.ad (qco x),Q4 Xo x.mw (Hv x.writes),Q4 Xo x.ml (Hv x.logs),rowT VL x.ov x.order,Q4 Xo x.mv (Hv x.vals),Q4 Xo x.ms (SM x.li),Xw liT x.li]) h
theorem Y6 {T:Int->Option OneD} (h:Sat w (blkF x.ad [NW x.par,intV x.kids,.map (some x.mw),.map (some x.ml),x.ov,.map (some x.mv),.map (some x.ms)]::Q4 Xo x.mw (Hv x.writes)::Q4 Xo x.ml (Hv x.logs)::rowT VL x.ov x.order::Q4 Xo x.mv (Hv x.vals)::Q4 Xo x.ms (SM x.li)::Xw liT x.li::Xw ZM (QN T i none)::As)):Sat w (Xw ZM (QN T i (some x))::As):=Rj (BH h)
theorem ZD {T:Int->Option OneD} (a:T i=some x) (h:Sat w (blkF x.ad [NW x.par,intV x.kids,.map (some x.mw),.map (some x.ml),x.ov,.map (some x.mv),.map (some x.ms)]::Q4 Xo x.mw (Hv x.writes)::Q4 Xo x.ml (Hv x.logs)::rowT VL x.ov x.order::Q4 Xo x.mv (Hv x.vals)::Q4 Xo x.ms (SM x.li)::Xw liT x.li::Xw ZM (QN T i none)::As)):Sat w (Xw ZM T::As):=BY (BH h) a
end
structure CeI (C:CeD) (par:Int→Option Int):Prop where
  dom: ∀i,C.all i=none↔(i≠0∧par i=none)
  root: ∃x,C.all 0=some x∧x.par=none
  up: ∀{i p},i≠0→par i=some p→ ∃x y,C.all i=some x∧C.all p=some y∧x.par=some y.ad
  inj: ∀{i j x y},C.all i=some x→C.all j=some y→x.ad=y.ad→i=j
theorem blk_ne {ds:List Value} (h:Sat w (blkF a cs::blkF c ds::As)):a≠c:=by
  rintro rfl;obtain⟨F,F1,F2,_,d,⟨b,_⟩,F3,F4,e,_,⟨f,_⟩,_⟩:=h;subst b;subst f;subst e;exact d a U (.inl U)
theorem one_new {T:Int->Option OneD} (h:Sat w (blkF a cs::Xw ZM T::As)) (b:T j=some x):x.ad≠a:=by
  have c:=Zz (h.perm (List.Perm.swap _ _ _)) b;have d:=c.perm (List.Perm.cons _ (List.perm_middle (l₁:=[_,_,_,_,_,_,_])));exact blk_ne d
def KidN (T:Nodes) (i:Int) (n:Nat):Prop:= ∃l:List Int,l.Nodup/\(∀j,j∈l↔ChildOf T i j)/\l.length=n
structure CeW (C:CeD) (T:Nodes):Prop where
  dom: ∀i,C.all i=none↔T i=none
  root: ∀{x},C.all 0=some x→x.par=none
  up: ∀{i n x},i≠0→T i=some n→C.all i=some x→ ∃y,C.all n.par=some y∧x.par=some y.ad
  inj: ∀{i j x y},C.all i=some x→C.all j=some y→x.ad=y.ad→i=j
  kids: ∀{i x},C.all i=some x→ ∃n,x.kids=(n:Nat)∧KidN T i n
def QuD (x:OneD):Prop:=x.writes=(λ_=>none)/\x.logs=(λ_=>none)/\x.vals=(λ_=>none)/\x.order=[]/\x.li=(λ_=>none)
structure CeQ (C:CeD) (T:Nodes):Prop extends CeW C T where
  quiet: ∀{i x},C.all i=some x→QuD x
section
variable {C:CeD} {T:Nodes} {id last:Int}
theorem KidN.zero (h:KidN T i 0): ∀j,¬ChildOf T i j:= λj a=>by
  obtain⟨l,_,b,c⟩:=h;have :=(b j).2 a;rw[List.length_eq_zero_iff.1 c]at this;cases this
theorem KidN.pos {n:Nat} (h:KidN T i n) (b:n≠0): ∃j,ChildOf T i j:=by
  obtain⟨l,_,c,d⟩:=h;cases l with
  | nil=> exact absurd d.symm b
  | cons a l=> exact⟨a,(c a).1 List.mem_cons_self⟩
theorem CeW.get (h:CeW C T) (a:T id=some n): ∃x,C.all id=some x:=by
  cases q:C.all id with
  | none=> rw[(h.dom id).1 q]at a;cases a
  | some x=> exact⟨x,rfl⟩
theorem CeW.node (h:CeW C T) (a:C.all id=some x): ∃n,T id=some n:=by
  cases q:T id with
  | none=> rw[(h.dom id).2 q]at a;cases a
  | some n=> exact⟨n,rfl⟩
theorem CeW.child (h:CeW C T) {m:NodeD} (g:C.all id=some x) (f:C.all j=some y) (a:T j=some m):y.par=some x.ad↔ChildOf T id j:=by
  constructor
  · intro e;have b:j≠0:= λq=>by subst q;rw[h.root f]at e;cases e
    obtain⟨z,c,d⟩:=h.up b a f;rw[e]at d;exact⟨m,a,b,h.inj c g (Option.some.inj d).symm⟩
  · rintro⟨n,i,b,e⟩;rw[a]at i;cases i;obtain⟨z,c,d⟩:=h.up b a f;rw[e,g]at c;cases c;exact d
theorem U7 (b:TrI T last) {n:Int} (g:T who=some p) (j:Int):ChildOf (QN T (last+1) (some ⟨last+1,who,d,n,0,false,false⟩)) i j↔ChildOf T i j\/(i=who/\j=last+1):=by
  have h:=b.last0;unfold ChildOf;by_cases e:j=last+1
  · subst e;rw[Qv]
    have c:T (last+1)=none:=by
      cases q:T (last+1)with
      | none=>rfl
      | some x=> have :=b.pos q (by omega);omega
    constructor
    · rintro⟨m,a,_,f⟩;cases a;exact .inr ⟨f.symm,rfl⟩
    · rintro(⟨m,a,_⟩ | ⟨a,_⟩)
      · rw[c]at a;cases a
      · exact⟨_,rfl,by omega,a.symm⟩
  · rw[Qz e];exact⟨.inl,λq=>q.resolve_right λr=>e r.2⟩
theorem CeW.begin (h:CeW C T) (B:TrI T last) {n:Int} (D:T who=some p) (G:C.all who=some y) (N: ∀j z,C.all j=some z->z.ad≠x.ad) (H:x.par=some y.ad) (I:x.kids=0):
    CeW {C with all:=QN (QN C.all who (some {y with kids:=y.kids+1})) (last+1) (some x)} (QN T (last+1) (some ⟨last+1,who,d,n,0,false,false⟩)):=by
  have V:=B.last0
  have J:who≠last+1:= λe=>by
    have K:who≠0:=by omega
    have :=B.pos D K;omega
  have L:T (last+1)=none:=by
    cases q:T (last+1)with
    | none=>rfl
    | some x=> have :=B.pos q (by omega);omega
  -- what stands at i
  have s: ∀{i z},i≠last+1->QN (QN C.all who (some {y with kids:=y.kids+1})) (last+1) (some x) i=some z-> ∃o,C.all i=some o/\z.ad=o.ad/\z.par=o.par/\z.writes=o.writes/\z.logs=o.logs/\z.vals=o.vals/\z.order=o.order/\z.kids=(if i=who then o.kids+1 else o.kids):=by
    intro i z hi f;rw[Qz hi]at f;by_cases e:i=who
    · subst e;rw[Qv]at f;cases f;exact⟨y,G,rfl,rfl,rfl,rfl,rfl,rfl,by rw[if_pos U]⟩
    · rw[Qz e]at f;exact⟨z,f,rfl,rfl,rfl,rfl,rfl,rfl,by rw[if_neg e]⟩
  have E: ∀{i z},C.all i=some z-> ∃w,QN (QN C.all who (some {y with kids:=y.kids+1})) (last+1) (some x) i=some w/\w.ad=z.ad:=by
    intro i z f;have hi:i≠last+1:= λe=>by subst e;obtain⟨m,t⟩:=h.node f;rw[L]at t;cases t
    rw[Qz hi];by_cases e:i=who
    · subst e;rw[Qv];rw[G]at f;cases f;exact⟨_,rfl,rfl⟩
    · rw[Qz e];exact⟨z,f,rfl⟩
  refine⟨λi=> ?_,λ{z} f=> ?_,λ{i m z} K t f=> ?_,λ{i j w P} v A e=> ?_,λ{i z} f=> ?_⟩
  · by_cases e:i=last+1
    · subst e;simp [Qv]
    · show QN (QN C.all who _) (last+1) _ i=none↔_;rw[Qz e,Qz e];by_cases g:i=who
      · subst g;rw[Qv,D];simp
      · rw[Qz g];exact h.dom i
  · obtain⟨o,a,_,c,_⟩:=s (by omega) f;rw[c];exact h.root a
  · by_cases e:i=last+1
    · subst e;have f:QN _ (last+1) (some x) (last+1)=some z:=f;rw[Qv]at t f;cases t;cases f;obtain⟨w,a,b⟩:=E G;exact⟨w,a,by rw[H,b]⟩
    · rw[Qz e]at t;obtain⟨o,a,_,c,_⟩:=s e f;obtain⟨u,F,g⟩:=h.up K t a;obtain⟨w,Q,b1⟩:=E F;exact⟨w,Q,by rw[c,g,b1]⟩
  · by_cases M:i=last+1
    · by_cases g:j=last+1
      · rw[M,g]
      · subst M;have v:QN _ (last+1) (some x) (last+1)=some w:=v;rw[Qv]at v;cases v;obtain⟨o,a,b,_⟩:=s g A;exact absurd (b.symm.trans e.symm) (N _ _ a)
    · obtain⟨o,a,b,_⟩:=s M v;by_cases g:j=last+1
      · subst g;have A:QN _ (last+1) (some x) (last+1)=some P:=A;rw[Qv]at A;cases A;exact absurd (b.symm.trans e) (N _ _ a)
      · obtain⟨W,R,b3,_⟩:=s g A;exact h.inj a R (b.symm.trans (e.trans b3))
  · by_cases e:i=last+1
    · subst e;have f:QN _ (last+1) (some x) (last+1)=some z:=f;rw[Qv]at f;cases f;refine⟨0,I,[],List.nodup_nil,λj=> ?_,rfl⟩;rw[U7 B D];refine⟨λq=>(by cases q), ?_⟩;rintro(⟨m,v,A,S⟩ | ⟨v,_⟩)
      · obtain⟨X,Y,q,O,_⟩:=B.par v A;rw[S,L]at O;cases O
      · exact absurd v.symm J
    · obtain⟨o,a,_,_,_,_,_,_,k⟩:=s e f;obtain⟨m,t,l,l1,l2,l3⟩:=h.kids a;by_cases g:i=who
      · rw[if_pos g]at k;refine⟨m+1,by rw[k,t];rfl,(last+1)::l,List.nodup_cons.2 ⟨λq=> ?_,l1⟩,λj=> ?_,by simp [l3]⟩
        · obtain⟨u,F,_⟩:=(l2 _).1 q;rw[L]at F;cases F
        · rw[U7 B D,List.mem_cons,l2];exact⟨λq=>q.elim (λr=> .inr ⟨g,r⟩) .inl,λq=>q.elim .inr λr=> .inl r.2⟩
      · rw[if_neg g]at k;refine⟨m,by rw[k,t],l,l1,λj=> ?_,l3⟩;rw[U7 B D,l2];exact⟨.inl,λq=>q.resolve_right λr=>g r.1⟩
theorem CeQ.begin (h:CeQ C T) (l:TrI T last) {who d n:Int} {p:NodeD} (m:T who=some p) {y x:OneD} (g:C.all who=some y) (o: ∀j z,C.all j=some z->z.ad≠x.ad) (b:x.par=some y.ad) (c:x.kids=0) (f:QuD x):
    CeQ {C with all:=QN (QN C.all who (some {y with kids:=y.kids+1})) (last+1) (some x)} (QN T (last+1) (some ⟨last+1,who,d,n,0,false,false⟩)) where
  toCeW:=h.toCeW.begin l m g o b c
  quiet:= λ{i z} a=>by
    have a:QN (QN C.all who (some {y with kids:=y.kids+1})) (last+1) (some x) i=some z:=a
    by_cases e:i=last+1
    · subst e;rw[Qv]at a;cases a;exact f
    · rw[Qz e]at a;by_cases k:i=who
      · subst k;rw[Qv]at a;cases a;have q:=h.quiet g;exact q
      · rw[Qz k]at a;exact h.quiet a
theorem CeW.set (h:CeW C T) {x':OneD} (l:C.all id=some x) (o:x'.ad=x.ad) (p:x'.par=x.par) (q:x'.kids=x.kids):CeW {C with all:=QN C.all id (some x')} T:=by
  have d: ∀{i z},QN C.all id (some x') i=some z-> ∃f,C.all i=some f/\z.ad=f.ad/\z.par=f.par/\z.kids=f.kids:=by
    intro i z b;by_cases e:i=id
    · subst e;rw[Qv]at b;cases b;exact⟨x,l,o,p,q⟩
    · rw[Qz e]at b;exact⟨z,b,rfl,rfl,rfl⟩
  have n: ∀{i z},C.all i=some z-> ∃g,QN C.all id (some x') i=some g/\g.ad=z.ad:=by
    intro i z b;by_cases e:i=id
    · subst e;rw[Qv];rw[l]at b;cases b;exact⟨_,rfl,o⟩
    · rw[Qz e];exact⟨z,b,rfl⟩
  refine⟨λi=> ?_,λ{z} b=> ?_,λ{i m z} r s b=> ?_,λ{i j g F} t v e=> ?_,λ{i z} b=> ?_⟩
  · show QN C.all id _ i=none↔_;by_cases e:i=id
    · subst e;rw[Qv,<-h.dom,l];simp
    · rw[Qz e];exact h.dom i
  · obtain⟨f,a,_,c,_⟩:=d b;rw[c];exact h.root a
  · obtain⟨f,a,_,c,_⟩:=d b;obtain⟨u,w,y⟩:=h.up r s a;obtain⟨g,A,b1⟩:=n w;exact⟨g,A,by rw[c,y,b1]⟩
  · obtain⟨G,B,b3,_⟩:=d t;obtain⟨H,D,E,_⟩:=d v;exact h.inj B D (b3.symm.trans (e.trans E))
  · obtain⟨f,a,_,_,k⟩:=d b;rw[k];exact h.kids a
inductive SeesR (C:CeD) (T:Nodes) (k:Bs):Int→Bs→Prop
  | wr {i:Int} {x:OneD} {v:Bs}:C.all i=some x→x.writes k=some v→SeesR C T k i v
  | rd {i:Int} {x:OneD} {v:Bs}:C.all i=some x→x.writes k=none→x.vals k=some v→SeesR C T k i v
  | root {x:OneD}:C.all 0=some x→x.writes k=none→x.vals k=none→SeesR C T k 0 []
  | up {i:Int} {x:OneD} {n:NodeD} {v:Bs}:i≠0→C.all i=some x→x.writes k=none→x.vals k=none→T i=some n→SeesR C T k n.par v→SeesR C T k i v
theorem SeesR.det {u v:Bs} (h:SeesR C T k i u) (j:SeesR C T k i v):u=v:=by
  induction h with
  | wr a b=> cases j with
    | wr f b2=> rw[a]at f;cases f;rw[b]at b2;cases b2;rfl
    | rd f b2 _=> rw[a]at f;cases f;rw[b]at b2;cases b2
    | root f b2 _=> rw[a]at f;cases f;rw[b]at b2;cases b2
    | up _ f b2 _ _ _=> rw[a]at f;cases f;rw[b]at b2;cases b2
  | rd a b c=> cases j with
    | wr f b2=> rw[a]at f;cases f;rw[b]at b2;cases b2
    | rd f _ g=> rw[a]at f;cases f;rw[c]at g;cases g;rfl
    | root f _ g=> rw[a]at f;cases f;rw[c]at g;cases g
    | up _ f _ g _ _=> rw[a]at f;cases f;rw[c]at g;cases g
  | root a b c=> cases j with
    | wr f b2=> rw[a]at f;cases f;rw[b]at b2;cases b2
    | rd f _ g=> rw[a]at f;cases f;rw[c]at g;cases g
    | root _ _ _=>rfl
    | up e _ _ _ _ _=> exact absurd rfl e
  | up e a b c d _ ih=> cases j with
    | wr f b2=> rw[a]at f;cases f;rw[b]at b2;cases b2
    | rd f _ g=> rw[a]at f;cases f;rw[c]at g;cases g
    | root _ _ _=> exact absurd rfl e
    | up _ _ _ _ d2 l=> rw[d]at d2;cases d2;exact ih l
end
section
variable {C:CeD} {T:Nodes} {id last:Int}
theorem Dt (a: ∀j,¬ChildOf T id j):ChildOf (QN T id none) i j↔ChildOf T i j/\j≠id:=by
  unfold ChildOf;by_cases e:j=id
  · subst e;rw[Qv];simp
  · rw[Qz e];exact⟨λq=>⟨q,e⟩,λq=>q.1⟩
theorem CeW.del (h:CeW C T) (H:TrI T last) (E:id≠0) (w:T id=some n) (x: ∀j,¬ChildOf T id j) (F:C.all n.par=some y):
    CeW {C with all:=QN (QN C.all n.par (some {y with kids:=y.kids -1})) id none} (QN T id none):=by
  obtain⟨I,J,p,K,_⟩:=H.par w E;have L:n.par≠id:=by omega
  have f: ∀{i z},QN (QN C.all n.par (some {y with kids:=y.kids -1})) id none i=some z->i≠id/\ ∃d,C.all i=some d/\z.ad=d.ad/\z.par=d.par/\z.writes=d.writes/\z.logs=d.logs/\z.vals=d.vals/\z.order=d.order/\z.kids=(if i=n.par then d.kids -1 else d.kids):=by
    intro i z b;by_cases hi:i=id
    · subst hi;rw[Qv]at b;cases b
    refine⟨hi, ?_⟩;rw[Qz hi]at b;by_cases e:i=n.par
    · subst e;rw[Qv]at b;cases b;exact⟨y,F,rfl,rfl,rfl,rfl,rfl,rfl,by rw[if_pos U]⟩
    · rw[Qz e]at b;exact⟨z,b,rfl,rfl,rfl,rfl,rfl,rfl,by rw[if_neg e]⟩
  have A: ∀{i z},i≠id->C.all i=some z-> ∃r,QN (QN C.all n.par (some {y with kids:=y.kids -1})) id none i=some r/\r.ad=z.ad:=by
    intro i z hi b;rw[Qz hi];by_cases e:i=n.par
    · subst e;rw[Qv];rw[F]at b;cases b;exact⟨_,rfl,rfl⟩
    · rw[Qz e];exact⟨z,b,rfl⟩
  have B:ChildOf T n.par id:=⟨n,w,E,rfl⟩;refine⟨λi=> ?_,λ{z} b=> ?_,λ{i m z} s o b=> ?_,λ{i j r W} M N e=> ?_,λ{i z} b=> ?_⟩
  · by_cases e:i=id
    · subst e;simp [Qv]
    · show QN (QN C.all n.par _) id none i=none↔_;rw[Qz e,Qz e];by_cases g:i=n.par
      · subst g;rw[Qv,K];simp
      · rw[Qz g];exact h.dom i
  · obtain⟨_,d,a,_,c,_⟩:=f b;rw[c];exact h.root a
  · obtain⟨hi,d,a,_,c,_⟩:=f b;rw[Qz hi]at o;obtain⟨u,v,g⟩:=h.up s o a;have D:m.par≠id:= λe=>x i ⟨m,o,s,e⟩;obtain⟨r,O,b1⟩:=A D v;exact⟨r,O,by rw[c,g,b1]⟩
  · obtain⟨_,X,P,b3,_⟩:=f M;obtain⟨_,Y,Q,R,_⟩:=f N;exact h.inj P Q (b3.symm.trans (e.trans R))
  · obtain⟨hi,d,a,_,_,_,_,_,_,k⟩:=f b;obtain⟨m,o,l,l1,l2,l3⟩:=h.kids a;by_cases g:i=n.par
    · subst g;rw[if_pos U]at k;have t:id∈l:=(l2 id).2 B;have S:=List.length_erase_of_mem t;have G:0<l.length:=List.length_pos_of_mem t;refine⟨m -1,by rw[k,o];omega,l.erase id,l1.erase id,λj=> ?_,by rw[S,l3]⟩;rw[Dt x,l1.mem_erase_iff,l2];exact And.comm
    · rw[if_neg g]at k;refine⟨m,by rw[k,o],l,l1,λj=> ?_,l3⟩;rw[Dt x,l2];refine⟨λq=>⟨q,λe=> ?_⟩,λq=>q.1⟩;subst e;obtain⟨u,v,_,V⟩:=q;rw[w]at v;cases v;exact g V.symm
theorem CeQ.del (h:CeQ C T) (d:TrI T last) (f:id≠0) {n:NodeD} (g:T id=some n) (k: ∀j,¬ChildOf T id j) {y:OneD} (b:C.all n.par=some y):
    CeQ {C with all:=QN (QN C.all n.par (some {y with kids:=y.kids -1})) id none} (QN T id none) where
  toCeW:=h.toCeW.del d f g k b
  quiet:= λ{i z} a=>by
    have a:QN (QN C.all n.par (some {y with kids:=y.kids -1})) id none i=some z:=a
    by_cases e:i=id
    · subst e;rw[Qv]at a;cases a
    · rw[Qz e]at a;by_cases c:i=n.par
      · subst c;rw[Qv]at a;cases a;have l:=h.quiet b;exact l
      · rw[Qz c]at a;exact h.quiet a
end
section
variable {w:World} {As:List Th}
theorem HZ {T:Int->Option OneD} (a:Sat w As) (j:Nat) (b:As[j]? =some (Xw ZM T)) (c:T i=some x) (q:Nat) (d:(qco x)[q]? =some v):w.cell? ⟨x.ad,q,none⟩=some v:=
  (Zz (a.pull j b) c).cellF 0 U d
theorem ED {T:Int->Option OneD} (a:Sat w As) (j:Nat) (b:As[j]? =some (Xw ZM T)) (c:T i=some x):BlkF w x.ad (qco x):=(Zz (a.pull j b) c).blkF 0 U
theorem SE {T:Int->Option OneD} (h:Sat w (ZM x::Xw ZM T::As)) {z:OneD} (a:T j=some z):z.ad≠x.ad:=
  one_new ((h.flat.perm (List.Perm.cons _ (List.perm_middle (l₁:=[_,_,_,_,_,_])))):Sat w (blkF x.ad (qco x)::Xw ZM T::_)) a
end
theorem SZ {F:Th} (b:Sat w [F]) (P:Option Nat):
    Calls prog 114 #[NW P] w (Ret λv w'=> ∃x:OneD,v=ptrV x.ad 0/\x.par=P/\x.kids=0/\QuD x/\Sat w' [ZM x,F]):=by
 refine Qn func114 U ntmps114 U ?_;refine Qe<|Qa<|Qd U U<|Qf<|Qc<|Qe<|Qa<|Qb U U<|XS Xo b U ?_;intro mw h c;refine XS Xo c U ?_;intro ml w2 d;refine XS Xo d U ?_;intro mv i e;refine XS Xo e U ?_;intro ms j f;refine Bz (vs':=[NW P,intV 0,.map (some mw),.map (some ml),.slice none 0 0,.map (some mv),.map (some ms)]) U BG asz_137 zr_137 (by(cases P<;>rfl)) (by rfl) (by(cases P<;>rfl)) ?_
 refine wl_boxF f U U U ?_;intro bx k g;refine Qd U U<|Qf<|Qc<|Qu<|QJ (.inr U) U U ?_;have a:=(Bh (κ:=Bs) liT (g.pick [0,4,3,2,1,5] U)).row_nil VL;exact⟨_,rfl,(⟨bx,P,0,mw,ml,mv,ms,.slice none 0 0,λ_=>none,λ_=>none,[],λ_=>none,λ_=>none⟩:OneD),rfl,rfl,rfl,⟨rfl,rfl,rfl,rfl,rfl⟩,BH (x:=(⟨bx,P,0,mw,ml,mv,ms,.slice none 0 0,λ_=>none,λ_=>none,[],λ_=>none,λ_=>none⟩:OneD)) (a.reorder [2,3,4,0,5,6,1,7] U)⟩
noncomputable def Nl (ma:Nat) (x:OneD):CeD:=⟨ma,QN (λ_=>none) 0 (some x)⟩
theorem qfa {F:Th} (j:Sat w [F]):
    Calls prog 58 #[] w (Ret λv w'=> ∃c ma x,v=ptrV c 0/\x.par=none/\x.kids=0/\QuD x/\Sat w' [Y8 c (Nl ma x),F]):=by
 refine Qn func58 U ntmps58 U ?_;refine Qe<|Qa<|Qd U U<|Qf<|Qc<|Qe<|Qa<|XS QY j U ?_;intro ma o l;refine Qw AR U (SZ (l.sp [] U) none) U ?_;rintro _ w2 ⟨x,rfl,a,b,d,e⟩;replace e:=e.jn U U;refine Cz (k:=0) (v:=ptrV x.ad 0) 1 e keysInt underlying131 U U U U ?_;intro p h;dsimp only[List.set]at h;refine Qb U U<|Zj U qch asz_133 zr_133 U U<|XL h U U U ?_;intro cb q m;refine Qd U U<|Qf<|Qc<|Qu<|QJ (.inr U) U U ?_;have g:Sat _ (ZM x::Xw ZM (λ_:Int=>none)::_):=(Bh (κ:=Int) ZM (m.pick [1,0,2,3] U)).reorder [1,0,2,3,4] U;have n:=K4 (f:= λ_=>none) (k:=(0:Int)) g U;have i:=n.reorder [1,2,0,3] U;rw[show(λ_:Int=>(none:Option Value))=XM OneD.ad (λ_=>none) from rfl,G6 (x:=x)]at i;exact⟨_,U,cb,ma,x,U,a,b,d,WR (C:=Nl ma x) i⟩
theorem LT {F:Th} (a:Sat w [Y8 c C,F]) {id parent:Int} (Zl:C.all id=none) (d:C.all parent=some y) (m:1<=id) (H:0<=y.kids/\y.kids<=100000000000):
    Calls prog 92 #[ptrV c 0,intV id,intV parent] w (Ret λv w'=>v=intV 0/\ ∃x:OneD,(∀j z,C.all j=some z->z.ad≠x.ad)/\x.par=some y.ad/\x.kids=0/\QuD x/\Sat w' [Y8 c ⟨C.ma,QN (QN C.all parent (some {y with kids:=y.kids+1})) id (some x)⟩,F]):=by
 replace a:=WT a;refine Qn func92 U ntmps92 U ?_;refine Qe<|Qa<|Qd U U<|Qf<|Qc<|Qe<|Qa<|Qb U U<|Qj U U<|Qg U WQ U<|Qo U Yp (a.cell 0 U U) U<|Qb U U ?_;refine Xn (k:=parent) 1 a keysInt underlying131 U U U Hu (u:=(ptrV y.ad 0)) (g:=true) (XH d) (by unfold XM;rw[d];rfl) U ?_;refine Qb U U<|Qr U U U<|Qr U U U<|Qd U U<|Qd U U<|Qf<|Qc<|Qh [1,0,6,7,8] U<|Qe<|Qx<|Qe<|Qa<|Qb U U<|Xa U U U<|Qd U U<|Qf<|Qc<|Qs U (λm=> ?_) (λm=> ?_)
 ·exact absurd m (by omega)
 refine Qe<|Qa<|Qb U U<|Qj U U<|Qg U WQ U<|Qo U Yp (a.cell 0 U U) U<|Qb U U<|Xf (k:=id) 1 a keysInt underlying131 U U U Hu (u:= .pointer none) (Nd Zl) U<|Z7 underlying130 U U U<|Qd U U<|Qf<|Qc<|Qh [1,0,6,7,8,21] U<|QM U<|Qe<|Qa<|Qb U U<|QX U U<|Qd U U<|Qf<|Qc<|QR U (λs=> ?_) (λs=> ?_)
 ·exact absurd s (by decide)
 refine Qt<|Qm<|Qc<|Qe ?_;have t:=Zz (a.pick [2,0,1,3] U) d;refine Qa<|Qb U U<|Qj U U<|Qg U Kp U<|Qo U QL (t.cellF 0 U U) U<|QE U U (by omega) (by omega) U ?_;refine Qj U U<|Qg U Kp U ?_
 (refine KC t U U YD (by rfl) (i:=0) U (Xk U) ?_)
 intro I A;dsimp only[List.set]at A;refine Qf ?_;have G:=Y6 (x:={y with kids:=y.kids+1}) (A.pick [0,1,2,3,4,5,6,7,8,9,10] U)
 refine Qc<|Qh [1,0,6,7] U<|Qe ?_;have B:=G.drew;refine Q7 [0,1,2,3,4,5,6,7] [6,7] Z9 (by kernel_rfl) ?_;refine Q3 U U U<|QP U U U<|QG U U U WQ<|Q0 U U U (Ql U Yp (B.cell 1 U U))<|Q3 U U U<|Q3 U U U<|QO U U U U U U ?_;refine Qw AR U (SZ (B.sp [] U) (some y.ad)) U ?_;rintro _ J ⟨x,rfl,n,o,p,l⟩;replace l:=l.jn U U;refine Xh (.cons (.inl ⟨U,(Ql U Yp (l.cell 2 U U))⟩) .nil)<|QO U U U U U U ?_;refine QT (k:=id) (v:=ptrV x.ad 0) 3 l keysInt underlying131 U U U U ?_;intro K D;dsimp only[List.set]at D;refine Zc (Xd (by kernel_rfl)) ?_;refine VC.nil (Qc (Qh [6] U (Qe (Qa (Qd U U (Qf (Qc (Qu (QJ (.inr U) U U ?_)))))))));have q:=D.pick [0,1,2,3,4] U;have h: ∀j z,C.all j=some z->z.ad≠x.ad:= λj z b=>by by_cases e:j=parent;(subst e;rw[d]at b;cases b;exact SE q (x:=x) (j:=j) (z:={y with kids:=y.kids+1}) Qv);exact SE q (j:=j) (by rw[Qz e];exact b)
 have r:id≠parent:= λe=>by rw[e,d]at Zl;cases Zl
 have E:=(K4 (f:=QN C.all parent (some {y with kids:=y.kids+1})) q (k:=id) (by rw[Qz r];exact Zl)).reorder [1,2,0,3] U
 rw[<-WK (k:=parent) (y:={y with kids:=y.kids+1}) d U,G6 (x:=x)]at E
 exact⟨_,U,U,x,h,n,o,p,WR (C:=⟨C.ma,QN (QN C.all parent (some {y with kids:=y.kids+1})) id (some x)⟩) E⟩
