/- trials: leaves that did nothing -/
import Derived.Test.YtkgjmhcdacidoaaGreatDoorTr2
import Derived.Test.YtkgjmhcdacidoaaGreatDoorLv27
import Derived.Test.YtkgjmhcdacidoaaGreatDoorLv1
import Derived.Test.YtkgjmhcdacidoaaGreatDoorSh7
import Derived.Test.YtkgjmhcdacidoaaGreatDoorFrm
set_option linter.unusedSectionVars false
set_option linter.unusedVariables false
set_option maxRecDepth 100000
namespace Go.Proofs.YtkgjmhcdacidoaaGreatDoor
open Go.RowKit M Proofs.Tryz
variable [Inhabited SlW]
structure LvP (A:LvA) (T:Nodes):Prop where
  zero:A.tr 0=none
  par: ∀i,i≠0→(T i).map NodeD.par=(A.tr i).map TrA.parent
structure QuA (A:LvA) (T:Nodes):Prop extends LvP A T where
  none: ∀{i t},A.tr i=some t→t.lv=(fun _=>Option.none)∧t.dr= fun _=>false
section
variable {A:LvA} {T:Nodes} {id last:Int}
theorem QuA.get (h:QuA A T) {n:NodeD} (h0:id≠0) (ht:T id=some n):A.tr id=some ⟨n.par, fun _=> .none, fun _=>false⟩:= by
  have h1:=h.par id h0
  rw[ht]at h1
  cases q:A.tr id with
  | none=> rw[q]at h1; cases h1
  | some t=>
    rw[q]at h1
    obtain⟨p,lv,dr⟩:=t
    obtain⟨h2,h3⟩:=h.none q
    have h4:n.par=p:=Option.some.inj h1
    dsimp only at h2 h3
    rw[h2,h3,h4]
theorem LvP.miss (h:LvP A T) (h0:id≠0):A.tr id= .none↔T id= .none:= by
  have h1:=h.par id h0
  cases q:A.tr id<;> cases q2:T id<;> rw[q,q2]at h1<;> simp at h1⊢
theorem LvP.begin (h:LvP A T) (hI:TrI T last) {who n d:Int} {p:NodeD} (hp:T who=some p):
    Cz A (last+1) who=0∧LvP (UD A (last+1) who) (QO T (last+1) (some ⟨last+1,who,d,n,0,false,false⟩)):= by
  have h0:=hI.last0
  have h1:A.tr (last+1)= .none:=(h.miss (by omega)).2 (by
    cases q:T (last+1)with
    | none=>rfl
    | some x=> have :=hI.pos q (by omega);omega)
  have h2:who=0∨A.tr who≠ .none:= by
    by_cases e:who=0
    · exact .inl e
    · exact .inr fun q=> by rw[(h.miss e).1 q]at hp; cases hp
  have e1:Cz A (last+1) who=0:= by
    unfold Cz
    rw[if_neg (by omega),h1]
    rcases h2 with e | e
    · subst e; simp [GM]
    · obtain⟨u,hu⟩:=Option.ne_none_iff_exists'.1 e
      simp [GM,hu]
  refine⟨e1, ?_⟩
  unfold UD
  rw[if_pos e1]
  refine⟨by show QO A.tr (last+1) _ 0= .none; rw[Qz (by omega)]; exact h.zero, fun i hi=> ?_⟩
  show _=(QO A.tr (last+1) _ i).map TrA.parent
  by_cases e:i=last+1
  · subst e; rw[Qu,Qu];rfl
  · rw[Qz e,Qz e]; exact h.par i hi
theorem QuA.begin (h:QuA A T) (hI:TrI T last) {who n d:Int} {p:NodeD} (hp:T who=some p):
    QuA (UD A (last+1) who) (QO T (last+1) (some ⟨last+1,who,d,n,0,false,false⟩)) where
  toLvP:=(h.toLvP.begin hI hp).2
  none:= fun {i t} ht=> by
    unfold UD at ht
    rw[if_pos (h.toLvP.begin hI (n:=n) (d:=d) hp).1]at ht
    have ht:QO A.tr (last+1) _ i=some t:=ht
    by_cases e:i=last+1
    · subst e; rw[Qu]at ht; cases ht; exact⟨rfl,rfl⟩
    · rw[Qz e]at ht; exact h.none ht
theorem LvP.del (h:LvP A T) (h0:id≠0) {A':LvA} (ha:A'.tr=QO A.tr id .none):LvP A' (QO T id .none):= by
  refine⟨by rw[ha,Qz (fun e=>h0 e.symm)]; exact h.zero, fun i hi=> ?_⟩
  rw[ha]
  by_cases e:i=id
  · subst e; rw[Qu,Qu];rfl
  · rw[Qz e,Qz e]; exact h.par i hi
theorem QuA.del (h:QuA A T) (h0:id≠0):QuA (VP A id) (QO T id .none) where
  toLvP:=h.toLvP.del h0 U
  none:= fun {i t} ht=> by
    have ht:QO A.tr id .none i=some t:=ht
    by_cases e:i=id
    · subst e; rw[Qu]at ht; cases ht
    · rw[Qz e]at ht; exact h.none ht
theorem LvP.kids (h:LvP A T) (hk: ∀j,¬ChildOf T id j): ∀i u,A.tr i=some u→u.parent≠id:= fun i u hu e=> by
  by_cases hi:i=0
  · subst hi; rw[h.zero]at hu; cases hu
  · have h1:=h.par i hi
    rw[hu]at h1
    cases q:T i with
    | none=> rw[q]at h1; cases h1
    | some n=>
      rw[q]at h1
      exact hk i ⟨n,q,hi,(Option.some.inj h1).trans e⟩
theorem QuA.va (h:QuA A T) {t:TrA} (ht:A.tr id=some t):VA A t:= fun k x hx=> by
  rw[(h.none ht).1]at hx; cases hx
theorem QuA.dr (h:QuA A T):DrA A:= fun i t k x ht hd _=> by
  rw[(h.none ht).2]at hd; cases hd
theorem QuA.com (h:QuA A T) {t:TrA} (ht:A.tr id=some t) {order:List KD} {obs:List Bs} (ho: ∀k,k∈order↔t.lv k≠ .none) (hb: ∀ob,ob∈obs↔t.dr ob=true):RT A id t order obs=VP A id:= by
  have e1:order=[]:=List.eq_nil_iff_forall_not_mem.2 fun k hk=>(ho k).1 hk (by rw[(h.none ht).1])
  have e2:obs=[]:=List.eq_nil_iff_forall_not_mem.2 fun k hk=> by have :=(hb k).1 hk; rw[(h.none ht).2]at this; cases this
  subst e1; subst e2
  unfold RT
  simp
theorem LvP.same (h:LvP A T) {T':Nodes} (hs: ∀i,i≠0→(T' i).map NodeD.par=(T i).map NodeD.par):LvP A T':=⟨h.zero, fun i hi=>(hs i hi).trans (h.par i hi)⟩
theorem LvP.get (h:LvP A T) {n:NodeD} (h0:id≠0) (ht:T id=some n): ∃t,A.tr id=some t∧t.parent=n.par:= by
  have h1:=h.par id h0
  rw[ht]at h1
  cases q:A.tr id with
  | none=> rw[q]at h1; cases h1
  | some t=> rw[q]at h1; exact⟨t,rfl,(Option.some.inj h1).symm⟩
end
section
variable {T:Nodes} {id last:Int}
theorem TrI.below_le (h:TrI T last) {who j:Int} (hb:Blw T who j):who≤j:= by
  induction hb with
  | self=> exact Int.le_refl _
  | up a b _ ih=> have :=(h.par a b).1;omega
theorem TrI.sib (h:TrI T last) {c d:Int} (hc:ChildOf T id c) (hd:ChildOf T id d) (hb:Blw T d c):c=d:= by
  cases hb with
  | self=>rfl
  | up a b hb2=>
    obtain⟨n,h1,_,h3⟩:=hc
    rw[h1]at a; cases a
    rw[h3]at hb2
    have h4:=h.below_le hb2
    have h5:=h.child_gt hd
    omega
theorem CR (h:TrI T last) {ks:List Int} (hn:ks.Pairwise (· < ·)) (hk: ∀j,j∈ks↔ChildOf T id j) {k:Nat} {c:Int} (hc:ks[k]? =some c):abS T (fun j=>j∈ks.take k) c=T c:= by
  refine Yj ?_
  rintro⟨d,hd,hb⟩
  have h1:=(hk c).1 (List.mem_of_getElem? hc)
  have h2:=(hk d).1 (List.mem_of_mem_take hd)
  have e:=h.sib h1 h2 hb
  subst e
  obtain⟨i,hi,he⟩:=List.mem_take_iff_getElem.1 hd
  obtain⟨hk2,he2⟩:=XL hc
  have :=List.pairwise_iff_getElem.1 hn i k (by omega) hk2 (by omega)
  omega
theorem Al {ks:List Int} {k:Nat} {c:Int} (hc:ks[k]? =some c):abS (abS T (fun j=>j∈ks.take k)) (fun j=>j=c)=abS T (fun j=>j∈ks.take (k+1)):= by
  rw[abS_abS]
  refine Vi fun j=> ?_
  rw[List.take_add_one,hc,List.mem_append]
  simp
theorem Lz {D:Int→Prop} (hD: ∀j,ChildOf T id j→D j): ∀j,¬ChildOf (abS T D) id j:= by
  rintro j ⟨n,h1,h2,h3⟩
  obtain⟨q1,q2⟩:=Yc h1
  exact q1 ⟨j,hD j ⟨n,q2,h2,h3⟩,.self⟩
theorem Ta (h:TrI T last) {D:Int→Prop} (hD: ∀j,D j→ChildOf T id j):abS T D id=T id:=Yj (by
  rintro⟨d,hd,q⟩
  have h1:=h.child_gt (hD d hd)
  have h2:=h.below_le q
  omega)
theorem IdsOf.len_abS {ids ids':List Int} {D:Int→Prop} (h:IdsOf T ids) (h':IdsOf (abS T D) ids'):ids'.length≤ids.length:= by
  have h1: ∀x∈ids',x∈ids:= fun x hx=> by
    obtain⟨a,c⟩:=(h'.2 x).1 hx
    refine(h.2 x).2 ⟨a, fun q=>c ?_⟩
    unfold abS
    split
    · rfl
    · exact q
  exact Wn (h'.1.imp fun h=> by omega) h1
end
def PlainN (T:Nodes):Prop:= ∀i n,T i=some n→n.el=0∧n.timed=false∧n.short=false
theorem PlainN.abS {T:Nodes} {D:Int→Prop} (h:PlainN T):PlainN (abS T D):= fun i n q=>h i n (Yc q).2
theorem PlainN.begin {T:Nodes} {i who d n:Int} (h:PlainN T):PlainN (QO T i (some ⟨i,who,d,n,0,false,false⟩)):= fun j m q=> by
  by_cases e:j=i
  · subst e; rw[Qu]at q; cases q; exact⟨rfl,rfl,rfl⟩
  · rw[Qz e]at q; exact h j m q
theorem DepI.begin {T:Nodes} {i who n:Int} {p:NodeD} (h:DepI T) (hp:T who=some p) (hd:p.dep<8):DepI (QO T i (some ⟨i,who,p.dep+1,n,0,false,false⟩)):= fun j m q=> by
  by_cases e:j=i
  · subst e; rw[Qu]at q; cases q
    have :=h _ _ hp
    exact⟨by show 0≤p.dep+1;omega, by show p.dep+1≤8;omega⟩
  · rw[Qz e]at q; exact h j m q
end Go.Proofs.YtkgjmhcdacidoaaGreatDoor
namespace Go.Proofs.YtkgjmhcdacidoaaGreatDoor.M
open Go.RowKit Proofs.Tryz
section
variable {κ:Type} {kv:κ→Value} {P:Program} {n:Nat} {ops:Array Oper} {Q:Exit→Act→World→Prop} {rest:List Oper} {L:Env} {w:World} {d:Nat} {ty:TypeId} {pos:String} {aft:Array Edge} {As:List Th}
theorem Ci {es:Array MapEntry} {b clock:Nat} {o:Oper} {a:Act} (mt:TypeId) (x y z:Operand) (ho:o.op= .insert mt x y z) {kt et:TypeId} (K:KeyOk P kt kv) (hm:P.underlying mt=some (.map kt et)) (h:MapAt kv w b es clock)
    (hx:a.eval x= .map (some b)) {k:κ} (hy:a.eval y=kv k) {v:Value} (hz:a.eval z=v):
    does P o a w (fun u w'=>u=undef∧ ∃es' clock',isPut kv es es' clock clock' k v∧MapAt kv w' b es' clock'∧Only [b] w w'∧w'.heap.size=w.heap.size):= by
  rcases K.find k es.toList w h.keys with⟨i,e,h1,h2,h3⟩ | ⟨h1,h2⟩
  · have hp:isPut kv es (es.modify i (fun e=>{e with key:=kv k,val:=v})) clock clock k v:= .inl ⟨rfl,i,e, by simpa using h1,h2,rfl⟩
    refine⟨undef,_,.inr ⟨?_,rfl⟩,rfl,_,_,hp,h.put hp,Only.setObj _ _ _, by simp⟩
    have h1':es[i]? =some e:= by simpa using h1
    simp [execOp,ho,hx,hy,hz,Instr.mapUpdate,run_underlying hm,MapKept.run_getObj_map h.blk,MapKept.run_setObj_map _ h.blk,K.check,h3,h1',h2,Instr.keyThatStays,K.bits]
  · have hp:isPut kv es (es.push {key:=kv k,val:=v,born:=clock}) clock (clock+1) k v:= .inr ⟨rfl,h1,rfl⟩
    refine⟨undef,_,.inr ⟨?_,rfl⟩,rfl,_,_,hp,h.put hp,Only.setObj _ _ _, by simp⟩
    simp [execOp,ho,hx,hy,hz,Instr.mapUpdate,run_underlying hm,MapKept.run_getObj_map h.blk,MapKept.run_setObj_map _ h.blk,K.check,h2]
theorem BY {mt kt et:TypeId} {x y z:Operand} {b:Nat} {f:κ→Option Value} {k:κ} {v:Value} (i:Nat) (hS:Sat w As) (K:KeyOk P kt kv) (hm:P.underlying mt=some (.map kt et)) (hi:As[i]? =some (Q6 kv b f)) (hx:look L x=some (.map (some b))) (hy:look L y=some (kv k)) (hz:look L z=some v)
    (hk: ∀w',Sat w' (As.set i (Q6 kv b (upd f k (some v))))→wl P n ops Q rest L w'):wl P n ops Q (⟨none,.insert mt x y z,ty,pos,aft,none⟩::rest) L w:= by
  obtain⟨es,c,h1,h2⟩:=hS.map i hi
  refine XG U U (fun a ha=>Ci mt x y z U K hm h1 (ha.eval hx) (ha.eval hy) (ha.eval hz)) ?_
  rintro _ w' ⟨rfl,es',c',hp,h3,h4,_⟩
  exact hk w' (hS.map_set i hi h3 (h2.put K h1.stamped hp) h4)
def BlkF (w:World) (b:Nat) (cs:List Value):Prop:=
  ∃T lo hi,w.heap[b]? =some (.cells cs.toArray T (lo,hi))∧(hi≤lo∨cs.length<lo)
theorem BlkF.blk {b:Nat} {cs:List Value} (h:BlkF w b cs):Blk w b cs:= by
  obtain⟨T,lo,hi,h,q⟩:=h
  exact⟨T,lo,hi,h, by omega⟩
def blkF (b:Nat) (cs:List Value):Th where
  at_:= fun w F=>(F= fun k=>k=b)∧BlkF w b cs
  fr:= fun a ⟨e,T,lo,hi,h,q⟩=>⟨e,T,lo,hi, by rw[a.blk _ (by rw[e])]; exact h,q⟩
  lt:= fun ⟨e,h⟩ k hk=> by rw[e]at hk; subst hk; exact h.blk.lt
theorem Sat.blkF (h:Sat w As) (i:Nat) {b:Nat} {cs:List Value} (hi:As[i]? =some (blkF b cs)):BlkF w b cs:= by
  obtain⟨F,_,h⟩:=h.get i hi; exact h
theorem Sat.cellF (h:Sat w As) (i:Nat) {b o:Nat} {cs:List Value} {v:Value} (hi:As[i]? =some (M.blkF b cs)) (hv:cs[o]? =some v):w.cell? ⟨b,o,none⟩=some v:=(h.blkF i hi).blk.cell hv
theorem BlkF.set {b:Nat} {cs:List Value} (h:BlkF w b cs) (o:Nat) (v:Value):BlkF (w.setCell ⟨b,o,none⟩ v) b (cs.set o v):= by
  obtain⟨T,lo,hi,h,q⟩:=h
  refine⟨T,lo,hi, ?_, by simpa using q⟩
  simp [World.setCell,Array.getElem?_modify,h]
theorem KW {x y:Operand} {t b o i:Nat} {v:Value} {cs:List Value} (hS:Sat w As) (hx:look L x=some (ptrV b o)) (hy:look L y=some v) (hs:ZO P t=some 1) (h1:v.oneCell'=true) (hi:As[i]? =some (blkF b cs)) (ho:o<cs.length)
    (hk: ∀w',Sat w' (As.set i (blkF b (cs.set o v)))→wl P n ops Q rest L w'):wl P n ops Q (⟨none,.store t x y,ty,pos,aft,none⟩::rest) L w:= by
  have hb:=hS.blkF i hi
  have hc:=hb.blk.cell (Zd ho)
  have hf:=hb.blk.free o ho
  have hcs:v.cells= #[v]:= by cases v<;>first | rfl | cases h1
  refine XG U U (R:= fun _ w'=>w'=w.setCell ⟨b,o,none⟩ v) (fun a ha=>⟨undef,_,.inr ⟨?_,rfl⟩,rfl⟩) (fun _ w' e=> ?_)
  · have hst:(store ⟨b,o,none⟩ v).run P w= .ok () (w.setCell ⟨b,o,none⟩ v):= by
      rw[run_store P w _ v _ h1,hc]; simp [hf]
    have e0:(⟨b,o,none⟩:Addr).add 0=⟨b,o,none⟩:= by simp [Addr.add]
    simp [execOp,ha.eval hx,ha.eval hy,Instr.storeAt,Instr.sureAddr,storeVar,hcs,Zm hs,storeCells,e0,hst]
  · subst e
    have ho':Only [b] w (w.setCell ⟨b,o,none⟩ v):=(Only.refl _ _).setCell (.inl (by simp)) v
    exact hk _ (hS.step i hi fun F ⟨e,_⟩=>⟨F,⟨e,hb.set o v⟩, fun k hk=> .inl hk,ho'.agree (fun x hx=> .inl (by simp only[List.mem_singleton]at hx; subst hx; rw[e]))⟩)
theorem wl_boxF {t:Nat} {x:Operand} {v:Value} (hS:Sat w As) (hx:look L x=some v) {cs:List Value} (hcs:v.cells.toList=cs) (hd:Nat.blt d n=true) (hk: ∀b w',Sat w' (blkF b cs::As)→wl P n ops Q rest ((d,ptrV b 0)::L) w'):wl P n ops Q (⟨some d,.box t x,ty,pos,aft,none⟩::rest) L w:= by
  subst hcs
  refine XG U hd (R:= fun u w'=>u=ptrV w.heap.size 0∧w'=w.alloc (.cells v.cells t)) (fun a ha=>⟨_,_,.inl ?_,rfl,rfl⟩) (fun u w' ⟨e1,e2⟩=> ?_)
  · simp [execOp,ha.eval hx,Instr.box,newVar,newRow]
  · subst e1 e2
    have hb:BlkF (w.alloc (.cells v.cells t)) w.heap.size v.cells.toList:=⟨t,0,0, by rw[heap_alloc_new],.inl (Nat.le_refl _)⟩
    exact hk _ _ (hS.new ((Only.refl _ _).alloc _) (A:=blkF w.heap.size v.cells.toList) ⟨rfl,hb⟩ (fun k hk=> by rw[hk]; exact Nat.le_refl _))
theorem Tp {a b:Nat} {cs ds:List Value} (ha:BlkF w a cs) (hb:BlkF w b ds) (h0:0<cs.length) (h2:0<ds.length):(sameAddr ⟨a,0,none⟩ ⟨b,0,none⟩).run P w= .ok (decide (a=b)) w:= by
  by_cases e:a=b
  · subst e; rw[run_sameAddr_same]; simp
  · obtain⟨T,lo,hi,h1,q1⟩:=ha
    obtain⟨T2,lo2,hi2,h2,q2⟩:=hb
    have f1: ¬(lo=0∧0<hi):= by omega
    have f2: ¬(lo≤cs.length∧cs.length<hi):= by omega
    have f3: ¬(lo2=0∧0<hi2):= by omega
    have f4: ¬(lo2≤ds.length∧ds.length<hi2):= by omega
    simp [sameAddr,World.frozen?,e,h1,h2,noView,viewAt,World.shape?,mayBeOne,stringish,f1,f2,f3,f4]
theorem Nc {tp te:TypeId} {j:TypeInfo} {a b:Nat} {cs ds:List Value} (hp:P.underlying tp=some (.pointer te)) (hte:P.info? te=some j) (hsz:j.size≠0) (ha:BlkF w a cs) (hb:BlkF w b ds) (h0:0<cs.length) (h2:0<ds.length):
    (Op.equal tp (ptrV a 0) (ptrV b 0)).run P w= .ok (decide (a=b)) w:= by
  have h:=Tp (P:=P) ha hb h0 h2
  unfold Op.equal Op.maxDepth Op.equalIn ptrV
  simp [run_underlying hp,sizeOf,typeInfo,hte,hsz,h]
theorem SP {x y:Operand} {t t2 u:TypeId} {j:TypeInfo} {a b:Nat} {cs ds:List Value} (hu:P.underlying t=some (.pointer u)) (hj:P.info? u=some j) (hsz:j.size≠0) (ha:BlkF w a cs) (hb:BlkF w b ds) (h0:0<cs.length) (h2:0<ds.length) (hx:look L x=some (ptrV a 0)) (hy:look L y=some (ptrV b 0)):Ev P L w ⟨some d,.binOp .eql t x y t2,ty,pos,aft,none⟩ (.bool (decide (a=b))):= fun ρ hρ=> by
  have h:=Nc hu hj hsz ha hb h0 h2
  simp only[ptrV]at h
  simp [execOp,hρ _ _ hx,hρ _ _ hy,eqGuard,binOp,ptrV,h]
theorem PY {x y:Operand} {t t2 u:TypeId} {j:TypeInfo} {a b:Nat} {cs ds:List Value} (hu:P.underlying t=some (.pointer u)) (hj:P.info? u=some j) (hsz:j.size≠0) (ha:BlkF w a cs) (hb:BlkF w b ds) (h0:0<cs.length) (h2:0<ds.length) (hx:look L x=some (ptrV a 0)) (hy:look L y=some (ptrV b 0)) (hd:Nat.blt d n=true) (hk:wl P n ops Q rest ((d,.bool (decide (a=b)))::L) w):wl P n ops Q (⟨some d,.binOp .eql t x y t2,ty,pos,aft,none⟩::rest) L w:=
  Xv hd (SP hu hj hsz ha hb h0 h2 hx hy) hk
theorem SO {x:Operand} {s j off m:Nat} {cs vs:List Value} (hf:Ud P s j=some (off,some m)) (hx:look L x=some (.agg cs.toArray)) (hv:cs.toArray.extract off (off+m)=vs.toArray):Ev P L w ⟨some d,.field s x j,ty,pos,aft,none⟩ (.agg vs.toArray):= fun ρ hρ=> by
  unfold Ud at hf
  split at hf
  · rename_i fs hu
    split at hf
    · rename_i f hfj
      split at hf
      · rename_i dd i hd' hi
        have hagg:YG dd=true:= by cases hq:YG dd<;> simp [hq]at hf;rfl
        have hoff:f.offset=off∧i.size=m:= by simp [hagg]at hf; exact hf
        have hg:Z5 P f.type=some true:= by simp [Z5,hd',hagg]
        have hs:(P.info? f.type).map (·.size)=some m:= by rw[hi]; exact congrArg some hoff.2
        simp [execOp,hρ _ _ hx,Instr.field,run_underlying hu,hfj,asAgg,part,HK hg,Zm hs,hoff.1,←hv]
      · cases hf
    · cases hf
  · cases hf
theorem PX {x:Operand} {s j off m:Nat} {cs vs:List Value} (hf:Ud P s j=some (off,some m)) (hx:look L x=some (.agg cs.toArray)) (hv:cs.toArray.extract off (off+m)=vs.toArray) (hd:Nat.blt d n=true) (hk:wl P n ops Q rest ((d,.agg vs.toArray)::L) w):wl P n ops Q (⟨some d,.field s x j,ty,pos,aft,none⟩::rest) L w:=
  Xv hd (SO hf hx hv) hk
end
end Go.Proofs.YtkgjmhcdacidoaaGreatDoor.M
namespace Go.Proofs.YtkgjmhcdacidoaaGreatDoor
open Go.RowKit M Proofs.Tryz
variable [Inhabited SlW]
structure OneD where
  ad:Nat
  par:Option Nat
  kids:Int
  mw:Nat
  ml:Nat
  mv:Nat
  ms:Nat
  ov:Value
  writes:Bs→Option Bs
  logs:Bs→Option Bs
  order:List (Bs×Bs)
  vals:Bs→Option Bs
structure CeD where
  ma:Nat
  all:Int→Option OneD
def HV (f:Bs→Option Bs):Bs→Option Value:= fun k=>(f k).map strV
theorem WW {f:Bs→Option Bs} {k s:Bs} (h:f k=some s):HV f k=some (strV s):= by unfold HV; rw[h];rfl
theorem Jy {f:Bs→Option Bs} {k:Bs} (h:f k=none):HV f k=none:= by unfold HV; rw[h];rfl
theorem Mh {f:Bs→Option Bs} {k s:Bs}:upd (HV f) k (some (strV s))=HV (QO f k (some s)):= by
  funext j
  by_cases e:j=k
  · subst e; rw[Z0];unfold HV; rw[Qu];rfl
  · rw[Wp e];unfold HV; rw[Qz e]
theorem stG_del {f:Bs→Option Bs} {k:Bs}:upd (HV f) k none=HV (QO f k none):= by
  funext j
  by_cases e:j=k
  · subst e; rw[Z0];unfold HV; rw[Qu];rfl
  · rw[Wp e];unfold HV; rw[Qz e]
theorem stG_ex {f:Bs→Option Bs} {k:Bs} {v:Value} (h:HV f k=some v): ∃s,f k=some s∧v=strV s:= by
  unfold HV at h
  obtain⟨s,a,b⟩:=Option.map_eq_some_iff.1 h
  exact⟨s,a,b.symm⟩
def Tt (o:Option Nat):Value:= match o with | none=> .pointer none | some a=>ptrV a 0
def Lx (x:OneD):List Value:=[Tt x.par,intV x.kids,.map (some x.mw),.map (some x.ml),x.ov,.map (some x.mv),.map (some x.ms)]
def crdV (x:Bs×Bs):List Value:=[intV 0,strV x.1,strV x.2,.slice none 0 0]
def VQ:RowC (Bs×Bs):=⟨crdV,4, by decide, fun _=>rfl, fun _=>rfl⟩
def Wc (x:OneD):Th:=starL [blkF x.ad (Lx x),Q6 Zl x.mw (HV x.writes),Q6 Zl x.ml (HV x.logs),rowT VQ x.ov x.order,Q6 Zl x.mv (HV x.vals),Q6 Zl x.ms (fun _=>none)]
def Yb (c:Nat) (C:CeD):Th:=starL [QE c [.map (some C.ma)],Q6 QX C.ma (XC OneD.ad C.all),X6 Wc C.all]
section
variable {w:World} {As:List Th}
theorem Jd {c:Nat} {C:CeD} (h:Sat w (Yb c C::As)):Sat w (QE c [.map (some C.ma)]::Q6 QX C.ma (XC OneD.ad C.all)::X6 Wc C.all::As):=h.flat
theorem J2 {c:Nat} {C:CeD} (h:Sat w (QE c [.map (some C.ma)]::Q6 QX C.ma (XC OneD.ad C.all)::X6 Wc C.all::As)):Sat w (Yb c C::As):=Sat.fold (As:=[QE c [.map (some C.ma)],Q6 QX C.ma (XC OneD.ad C.all),X6 Wc C.all]) h
theorem ZY {T:Int→Option OneD} {i:Int} {x:OneD} (h:Sat w (X6 Wc T::As)) (hk:T i=some x):Sat w (blkF x.ad [Tt x.par,intV x.kids,.map (some x.mw),.map (some x.ml),x.ov,.map (some x.mv),.map (some x.ms)]::Q6 Zl x.mw (HV x.writes)::Q6 Zl x.ml (HV x.logs)::rowT VQ x.ov x.order::Q6 Zl x.mv (HV x.vals)::Q6 Zl x.ms (fun _=>none)::X6 Wc (QO T i none)::As):=(Ry h hk).flat
theorem Ro {x:OneD} (h:Sat w (blkF x.ad [Tt x.par,intV x.kids,.map (some x.mw),.map (some x.ml),x.ov,.map (some x.mv),.map (some x.ms)]::Q6 Zl x.mw (HV x.writes)::Q6 Zl x.ml (HV x.logs)::rowT VQ x.ov x.order::Q6 Zl x.mv (HV x.vals)::Q6 Zl x.ms (fun _=>none)::As)):Sat w (Wc x::As):=Sat.fold (As:=[blkF x.ad (Lx x),Q6 Zl x.mw (HV x.writes),Q6 Zl x.ml (HV x.logs),rowT VQ x.ov x.order,Q6 Zl x.mv (HV x.vals),Q6 Zl x.ms (fun _=>none)]) h
theorem YS {T:Int→Option OneD} {i:Int} {x:OneD} (h:Sat w (blkF x.ad [Tt x.par,intV x.kids,.map (some x.mw),.map (some x.ml),x.ov,.map (some x.mv),.map (some x.ms)]::Q6 Zl x.mw (HV x.writes)::Q6 Zl x.ml (HV x.logs)::rowT VQ x.ov x.order::Q6 Zl x.mv (HV x.vals)::Q6 Zl x.ms (fun _=>none)::X6 Wc (QO T i none)::As)):Sat w (X6 Wc (QO T i (some x))::As):=Vg (Ro h)
theorem Wf {T:Int→Option OneD} {i:Int} {x:OneD} (hk:T i=some x) (h:Sat w (blkF x.ad [Tt x.par,intV x.kids,.map (some x.mw),.map (some x.ml),x.ov,.map (some x.mv),.map (some x.ms)]::Q6 Zl x.mw (HV x.writes)::Q6 Zl x.ml (HV x.logs)::rowT VQ x.ov x.order::Q6 Zl x.mv (HV x.vals)::Q6 Zl x.ms (fun _=>none)::X6 Wc (QO T i none)::As)):Sat w (X6 Wc T::As):=Rz (Ro h) hk
end
structure CeI (C:CeD) (par:Int→Option Int):Prop where
  dom: ∀i,C.all i=none↔(i≠0∧par i=none)
  root: ∃x,C.all 0=some x∧x.par=none
  up: ∀{i p},i≠0→par i=some p→ ∃x y,C.all i=some x∧C.all p=some y∧x.par=some y.ad
  inj: ∀{i j x y},C.all i=some x→C.all j=some y→x.ad=y.ad→i=j
theorem blk_ne {w:World} {a c:Nat} {cs ds:List Value} {As:List Th} (h:Sat w (blkF a cs::blkF c ds::As)):a≠c:= by
  rintro rfl
  obtain⟨F,F1,F2,_,d,⟨h1,_⟩,F3,F4,h2,_,⟨h3,_⟩,_⟩:=h
  subst h1; subst h3; subst h2
  exact d a U (.inl U)
theorem one_new {w:World} {a:Nat} {cs:List Value} {T:Int→Option OneD} {As:List Th} (h:Sat w (blkF a cs::X6 Wc T::As)) {j:Int} {x:OneD} (hj:T j=some x):x.ad≠a:= by
  have h1:=ZY (h.perm (List.Perm.swap _ _ _)) hj
  have h2:=h1.perm (List.Perm.cons _ (List.perm_middle (l₁:=[_,_,_,_,_,_])))
  exact blk_ne h2
def KidN (T:Nodes) (i:Int) (n:Nat):Prop:= ∃l:List Int,l.Nodup∧(∀j,j∈l↔ChildOf T i j)∧l.length=n
structure CeW (C:CeD) (T:Nodes):Prop where
  dom: ∀i,C.all i=none↔T i=none
  root: ∀{x},C.all 0=some x→x.par=none
  up: ∀{i n x},i≠0→T i=some n→C.all i=some x→ ∃y,C.all n.par=some y∧x.par=some y.ad
  inj: ∀{i j x y},C.all i=some x→C.all j=some y→x.ad=y.ad→i=j
  kids: ∀{i x},C.all i=some x→ ∃n,x.kids=(n:Nat)∧KidN T i n
def F7 (x:OneD):Prop:=x.writes=(fun _=>none)∧x.logs=(fun _=>none)∧x.vals=(fun _=>none)∧x.order=[]
structure CeQ (C:CeD) (T:Nodes):Prop extends CeW C T where
  quiet: ∀{i x},C.all i=some x→F7 x
section
variable {C:CeD} {T:Nodes} {id last:Int}
theorem KidN.zero {i:Int} (h:KidN T i 0): ∀j,¬ChildOf T i j:= fun j hj=> by
  obtain⟨l,_,h2,h3⟩:=h
  have :=(h2 j).2 hj
  rw[List.length_eq_zero_iff.1 h3]at this
  cases this
theorem KidN.pos {i:Int} {n:Nat} (h:KidN T i n) (hn:n≠0): ∃j,ChildOf T i j:= by
  obtain⟨l,_,h2,h3⟩:=h
  cases l with
  | nil=> exact absurd h3.symm hn
  | cons a l=> exact⟨a,(h2 a).1 List.mem_cons_self⟩
theorem CeW.get (h:CeW C T) {n:NodeD} (ht:T id=some n): ∃x,C.all id=some x:= by
  cases q:C.all id with
  | none=> rw[(h.dom id).1 q]at ht; cases ht
  | some x=> exact⟨x,rfl⟩
theorem CeW.node (h:CeW C T) {x:OneD} (hx:C.all id=some x): ∃n,T id=some n:= by
  cases q:T id with
  | none=> rw[(h.dom id).2 q]at hx; cases hx
  | some n=> exact⟨n,rfl⟩
theorem CeW.child (h:CeW C T) {x y:OneD} {j:Int} {m:NodeD} (hx:C.all id=some x) (hj:C.all j=some y) (hm:T j=some m):y.par=some x.ad↔ChildOf T id j:= by
  constructor
  · intro e
    have h0:j≠0:= fun q=> by subst q; rw[h.root hj]at e; cases e
    obtain⟨z,hz,e2⟩:=h.up h0 hm hj
    rw[e]at e2
    exact⟨m,hm,h0,h.inj hz hx (Option.some.inj e2).symm⟩
  · rintro⟨n,h1,h0,e⟩
    rw[hm]at h1; cases h1
    obtain⟨z,hz,e2⟩:=h.up h0 hm hj
    rw[e,hx]at hz; cases hz
    exact e2
theorem H0 (hI:TrI T last) {who d n i:Int} {p:NodeD} (hp:T who=some p) (j:Int):ChildOf (QO T (last+1) (some ⟨last+1,who,d,n,0,false,false⟩)) i j↔ChildOf T i j∨(i=who∧j=last+1):= by
  have hl:=hI.last0
  unfold ChildOf
  by_cases e:j=last+1
  · subst e
    rw[Qu]
    have hN:T (last+1)=none:= by
      cases q:T (last+1)with
      | none=>rfl
      | some x=> have :=hI.pos q (by omega);omega
    constructor
    · rintro⟨m,h1,_,h3⟩; cases h1; exact .inr ⟨h3.symm,rfl⟩
    · rintro(⟨m,h1,_⟩ | ⟨h1,_⟩)
      · rw[hN]at h1; cases h1
      · exact⟨_,rfl, by omega,h1.symm⟩
  · rw[Qz e]
    exact⟨.inl, fun q=>q.resolve_right fun r=>e r.2⟩
theorem CeW.begin (h:CeW C T) (hI:TrI T last) {who d n:Int} {p:NodeD} (hp:T who=some p) {y x:OneD} (hy:C.all who=some y) (hn: ∀j z,C.all j=some z→z.ad≠x.ad) (hxp:x.par=some y.ad) (hxk:x.kids=0):
    CeW {C with all:=QO (QO C.all who (some {y with kids:=y.kids+1})) (last+1) (some x)} (QO T (last+1) (some ⟨last+1,who,d,n,0,false,false⟩)):= by
  have hl:=hI.last0
  have hwl:who≠last+1:= fun e=> by
    have h0:who≠0:= by omega
    have :=hI.pos hp h0;omega
  have hN:T (last+1)=none:= by
    cases q:T (last+1)with
    | none=>rfl
    | some x=> have :=hI.pos q (by omega);omega
  -- what stands at i
  have hat: ∀{i z},i≠last+1→QO (QO C.all who (some {y with kids:=y.kids+1})) (last+1) (some x) i=some z→ ∃z0,C.all i=some z0∧z.ad=z0.ad∧z.par=z0.par∧z.writes=z0.writes∧z.logs=z0.logs∧z.vals=z0.vals∧z.order=z0.order∧z.kids=(if i=who then z0.kids+1 else z0.kids):= by
    intro i z hi hz
    rw[Qz hi]at hz
    by_cases e:i=who
    · subst e; rw[Qu]at hz; cases hz; exact⟨y,hy,rfl,rfl,rfl,rfl,rfl,rfl, by rw[if_pos U]⟩
    · rw[Qz e]at hz; exact⟨z,hz,rfl,rfl,rfl,rfl,rfl,rfl, by rw[if_neg e]⟩
  have hto: ∀{i z},C.all i=some z→ ∃z1,QO (QO C.all who (some {y with kids:=y.kids+1})) (last+1) (some x) i=some z1∧z1.ad=z.ad:= by
    intro i z hz
    have hi:i≠last+1:= fun e=> by subst e; obtain⟨m,hm⟩:=h.node hz; rw[hN]at hm; cases hm
    rw[Qz hi]
    by_cases e:i=who
    · subst e; rw[Qu]; rw[hy]at hz; cases hz; exact⟨_,rfl,rfl⟩
    · rw[Qz e]; exact⟨z,hz,rfl⟩
  refine⟨fun i=> ?_, fun {z} hz=> ?_, fun {i m z} h0 hm hz=> ?_, fun {i j z1 z2} h1 h2 e=> ?_, fun {i z} hz=> ?_⟩
  · by_cases e:i=last+1
    · subst e; simp [Qu]
    · show QO (QO C.all who _) (last+1) _ i=none↔_
      rw[Qz e,Qz e]
      by_cases e2:i=who
      · subst e2; rw[Qu,hp]; simp
      · rw[Qz e2]; exact h.dom i
  · obtain⟨z0,a,_,c,_⟩:=hat (by omega) hz
    rw[c]; exact h.root a
  · by_cases e:i=last+1
    · subst e
      have hz:QO _ (last+1) (some x) (last+1)=some z:=hz
      rw[Qu]at hm hz; cases hm; cases hz
      obtain⟨z1,a,b⟩:=hto hy
      exact⟨z1,a, by rw[hxp,b]⟩
    · rw[Qz e]at hm
      obtain⟨z0,a,_,c,_⟩:=hat e hz
      obtain⟨u,hu,e2⟩:=h.up h0 hm a
      obtain⟨z1,a1,b1⟩:=hto hu
      exact⟨z1,a1, by rw[c,e2,b1]⟩
  · by_cases e1:i=last+1
    · by_cases e2:j=last+1
      · rw[e1,e2]
      · subst e1
        have h1:QO _ (last+1) (some x) (last+1)=some z1:=h1
        rw[Qu]at h1; cases h1
        obtain⟨z0,a,b,_⟩:=hat e2 h2
        exact absurd (b.symm.trans e.symm) (hn _ _ a)
    · obtain⟨z0,a,b,_⟩:=hat e1 h1
      by_cases e2:j=last+1
      · subst e2
        have h2:QO _ (last+1) (some x) (last+1)=some z2:=h2
        rw[Qu]at h2; cases h2
        exact absurd (b.symm.trans e) (hn _ _ a)
      · obtain⟨z3,a3,b3,_⟩:=hat e2 h2
        exact h.inj a a3 (b.symm.trans (e.trans b3))
  · by_cases e:i=last+1
    · subst e
      have hz:QO _ (last+1) (some x) (last+1)=some z:=hz
      rw[Qu]at hz; cases hz
      refine⟨0,hxk,[],List.nodup_nil, fun j=> ?_,rfl⟩
      rw[H0 hI hp]
      refine⟨fun q=>(by cases q), ?_⟩
      rintro(⟨m,h1,h2,h3⟩ | ⟨h1,_⟩)
      · obtain⟨h4,h5,q,h6,_⟩:=hI.par h1 h2
        rw[h3,hN]at h6; cases h6
      · exact absurd h1.symm hwl
    · obtain⟨z0,a,_,_,_,_,_,_,k⟩:=hat e hz
      obtain⟨m,hm,l,l1,l2,l3⟩:=h.kids a
      by_cases e2:i=who
      · rw[if_pos e2]at k
        refine⟨m+1, by rw[k,hm];rfl,(last+1)::l,List.nodup_cons.2 ⟨fun q=> ?_,l1⟩, fun j=> ?_, by simp [l3]⟩
        · obtain⟨u,hu,_⟩:=(l2 _).1 q
          rw[hN]at hu; cases hu
        · rw[H0 hI hp,List.mem_cons,l2]
          exact⟨fun q=>q.elim (fun r=> .inr ⟨e2,r⟩) .inl, fun q=>q.elim .inr fun r=> .inl r.2⟩
      · rw[if_neg e2]at k
        refine⟨m, by rw[k,hm],l,l1, fun j=> ?_,l3⟩
        rw[H0 hI hp,l2]
        exact⟨.inl, fun q=>q.resolve_right fun r=>e2 r.1⟩
theorem CeQ.begin (h:CeQ C T) (hI:TrI T last) {who d n:Int} {p:NodeD} (hp:T who=some p) {y x:OneD} (hy:C.all who=some y) (hn: ∀j z,C.all j=some z→z.ad≠x.ad) (hxp:x.par=some y.ad) (hxk:x.kids=0) (hxq:F7 x):
    CeQ {C with all:=QO (QO C.all who (some {y with kids:=y.kids+1})) (last+1) (some x)} (QO T (last+1) (some ⟨last+1,who,d,n,0,false,false⟩)) where
  toCeW:=h.toCeW.begin hI hp hy hn hxp hxk
  quiet:= fun {i z} hz=> by
    have hz:QO (QO C.all who (some {y with kids:=y.kids+1})) (last+1) (some x) i=some z:=hz
    by_cases e:i=last+1
    · subst e; rw[Qu]at hz; cases hz; exact hxq
    · rw[Qz e]at hz
      by_cases e2:i=who
      · subst e2; rw[Qu]at hz; cases hz; have hq:=h.quiet hy; exact hq
      · rw[Qz e2]at hz; exact h.quiet hz
theorem CeW.set (h:CeW C T) {x x':OneD} (hx:C.all id=some x) (h1:x'.ad=x.ad) (h2:x'.par=x.par) (h3:x'.kids=x.kids):CeW {C with all:=QO C.all id (some x')} T:= by
  have hat: ∀{i z},QO C.all id (some x') i=some z→ ∃z0,C.all i=some z0∧z.ad=z0.ad∧z.par=z0.par∧z.kids=z0.kids:= by
    intro i z hz
    by_cases e:i=id
    · subst e; rw[Qu]at hz; cases hz; exact⟨x,hx,h1,h2,h3⟩
    · rw[Qz e]at hz; exact⟨z,hz,rfl,rfl,rfl⟩
  have hto: ∀{i z},C.all i=some z→ ∃z1,QO C.all id (some x') i=some z1∧z1.ad=z.ad:= by
    intro i z hz
    by_cases e:i=id
    · subst e; rw[Qu]; rw[hx]at hz; cases hz; exact⟨_,rfl,h1⟩
    · rw[Qz e]; exact⟨z,hz,rfl⟩
  refine⟨fun i=> ?_, fun {z} hz=> ?_, fun {i m z} h0 hm hz=> ?_, fun {i j z1 z2} q1 q2 e=> ?_, fun {i z} hz=> ?_⟩
  · show QO C.all id _ i=none↔_
    by_cases e:i=id
    · subst e; rw[Qu,←h.dom,hx]; simp
    · rw[Qz e]; exact h.dom i
  · obtain⟨z0,a,_,c,_⟩:=hat hz
    rw[c]; exact h.root a
  · obtain⟨z0,a,_,c,_⟩:=hat hz
    obtain⟨u,hu,e2⟩:=h.up h0 hm a
    obtain⟨z1,a1,b1⟩:=hto hu
    exact⟨z1,a1, by rw[c,e2,b1]⟩
  · obtain⟨z3,a3,b3,_⟩:=hat q1
    obtain⟨z4,a4,b4,_⟩:=hat q2
    exact h.inj a3 a4 (b3.symm.trans (e.trans b4))
  · obtain⟨z0,a,_,_,k⟩:=hat hz
    rw[k]; exact h.kids a
inductive SeesR (C:CeD) (T:Nodes) (k:Bs):Int→Bs→Prop
  | wr {i:Int} {x:OneD} {v:Bs}:C.all i=some x→x.writes k=some v→SeesR C T k i v
  | rd {i:Int} {x:OneD} {v:Bs}:C.all i=some x→x.writes k=none→x.vals k=some v→SeesR C T k i v
  | root {x:OneD}:C.all 0=some x→x.writes k=none→x.vals k=none→SeesR C T k 0 []
  | up {i:Int} {x:OneD} {n:NodeD} {v:Bs}:i≠0→C.all i=some x→x.writes k=none→x.vals k=none→T i=some n→SeesR C T k n.par v→SeesR C T k i v
theorem SeesR.det {k:Bs} {i:Int} {u v:Bs} (h:SeesR C T k i u) (h2:SeesR C T k i v):u=v:= by
  induction h with
  | wr a b=> cases h2 with
    | wr a2 b2=> rw[a]at a2; cases a2; rw[b]at b2; cases b2;rfl
    | rd a2 b2 _=> rw[a]at a2; cases a2; rw[b]at b2; cases b2
    | root a2 b2 _=> rw[a]at a2; cases a2; rw[b]at b2; cases b2
    | up _ a2 b2 _ _ _=> rw[a]at a2; cases a2; rw[b]at b2; cases b2
  | rd a b c=> cases h2 with
    | wr a2 b2=> rw[a]at a2; cases a2; rw[b]at b2; cases b2
    | rd a2 _ c2=> rw[a]at a2; cases a2; rw[c]at c2; cases c2;rfl
    | root a2 _ c2=> rw[a]at a2; cases a2; rw[c]at c2; cases c2
    | up _ a2 _ c2 _ _=> rw[a]at a2; cases a2; rw[c]at c2; cases c2
  | root a b c=> cases h2 with
    | wr a2 b2=> rw[a]at a2; cases a2; rw[b]at b2; cases b2
    | rd a2 _ c2=> rw[a]at a2; cases a2; rw[c]at c2; cases c2
    | root _ _ _=>rfl
    | up e _ _ _ _ _=> exact absurd rfl e
  | up e a b c d _ ih=> cases h2 with
    | wr a2 b2=> rw[a]at a2; cases a2; rw[b]at b2; cases b2
    | rd a2 _ c2=> rw[a]at a2; cases a2; rw[c]at c2; cases c2
    | root _ _ _=> exact absurd rfl e
    | up _ _ _ _ d2 r2=> rw[d]at d2; cases d2; exact ih r2
end
section
variable {C:CeD} {T:Nodes} {id last:Int}
theorem RC {i j:Int} (hk: ∀j,¬ChildOf T id j):ChildOf (QO T id none) i j↔ChildOf T i j∧j≠id:= by
  unfold ChildOf
  by_cases e:j=id
  · subst e; rw[Qu]; simp
  · rw[Qz e]; exact⟨fun q=>⟨q,e⟩, fun q=>q.1⟩
theorem CeW.del (h:CeW C T) (hI:TrI T last) (h0:id≠0) {n:NodeD} (ht:T id=some n) (hk: ∀j,¬ChildOf T id j) {y:OneD} (hy:C.all n.par=some y):
    CeW {C with all:=QO (QO C.all n.par (some {y with kids:=y.kids -1})) id none} (QO T id none):= by
  obtain⟨hp1,hp2,p,hp,_⟩:=hI.par ht h0
  have hpi:n.par≠id:= by omega
  have hat: ∀{i z},QO (QO C.all n.par (some {y with kids:=y.kids -1})) id none i=some z→i≠id∧ ∃z0,C.all i=some z0∧z.ad=z0.ad∧z.par=z0.par∧z.writes=z0.writes∧z.logs=z0.logs∧z.vals=z0.vals∧z.order=z0.order∧z.kids=(if i=n.par then z0.kids -1 else z0.kids):= by
    intro i z hz
    by_cases hi:i=id
    · subst hi; rw[Qu]at hz; cases hz
    refine⟨hi, ?_⟩
    rw[Qz hi]at hz
    by_cases e:i=n.par
    · subst e; rw[Qu]at hz; cases hz; exact⟨y,hy,rfl,rfl,rfl,rfl,rfl,rfl, by rw[if_pos U]⟩
    · rw[Qz e]at hz; exact⟨z,hz,rfl,rfl,rfl,rfl,rfl,rfl, by rw[if_neg e]⟩
  have hto: ∀{i z},i≠id→C.all i=some z→ ∃z1,QO (QO C.all n.par (some {y with kids:=y.kids -1})) id none i=some z1∧z1.ad=z.ad:= by
    intro i z hi hz
    rw[Qz hi]
    by_cases e:i=n.par
    · subst e; rw[Qu]; rw[hy]at hz; cases hz; exact⟨_,rfl,rfl⟩
    · rw[Qz e]; exact⟨z,hz,rfl⟩
  have hch:ChildOf T n.par id:=⟨n,ht,h0,rfl⟩
  refine⟨fun i=> ?_, fun {z} hz=> ?_, fun {i m z} hi0 hm hz=> ?_, fun {i j z1 z2} h1 h2 e=> ?_, fun {i z} hz=> ?_⟩
  · by_cases e:i=id
    · subst e; simp [Qu]
    · show QO (QO C.all n.par _) id none i=none↔_
      rw[Qz e,Qz e]
      by_cases e2:i=n.par
      · subst e2; rw[Qu,hp]; simp
      · rw[Qz e2]; exact h.dom i
  · obtain⟨_,z0,a,_,c,_⟩:=hat hz
    rw[c]; exact h.root a
  · obtain⟨hi,z0,a,_,c,_⟩:=hat hz
    rw[Qz hi]at hm
    obtain⟨u,hu,e2⟩:=h.up hi0 hm a
    have hmi:m.par≠id:= fun e=>hk i ⟨m,hm,hi0,e⟩
    obtain⟨z1,a1,b1⟩:=hto hmi hu
    exact⟨z1,a1, by rw[c,e2,b1]⟩
  · obtain⟨_,z3,a3,b3,_⟩:=hat h1
    obtain⟨_,z4,a4,b4,_⟩:=hat h2
    exact h.inj a3 a4 (b3.symm.trans (e.trans b4))
  · obtain⟨hi,z0,a,_,_,_,_,_,_,k⟩:=hat hz
    obtain⟨m,hm,l,l1,l2,l3⟩:=h.kids a
    by_cases e2:i=n.par
    · subst e2
      rw[if_pos U]at k
      have hml:id∈l:=(l2 id).2 hch
      have hl:=List.length_erase_of_mem hml
      have hpos:0<l.length:=List.length_pos_of_mem hml
      refine⟨m -1, by rw[k,hm];omega,l.erase id,l1.erase id, fun j=> ?_, by rw[hl,l3]⟩
      rw[RC hk,l1.mem_erase_iff,l2]
      exact And.comm
    · rw[if_neg e2]at k
      refine⟨m, by rw[k,hm],l,l1, fun j=> ?_,l3⟩
      rw[RC hk,l2]
      refine⟨fun q=>⟨q, fun e=> ?_⟩, fun q=>q.1⟩
      subst e
      obtain⟨u,hu,_,e3⟩:=q
      rw[ht]at hu; cases hu
      exact e2 e3.symm
theorem CeQ.del (h:CeQ C T) (hI:TrI T last) (h0:id≠0) {n:NodeD} (ht:T id=some n) (hk: ∀j,¬ChildOf T id j) {y:OneD} (hy:C.all n.par=some y):
    CeQ {C with all:=QO (QO C.all n.par (some {y with kids:=y.kids -1})) id none} (QO T id none) where
  toCeW:=h.toCeW.del hI h0 ht hk hy
  quiet:= fun {i z} hz=> by
    have hz:QO (QO C.all n.par (some {y with kids:=y.kids -1})) id none i=some z:=hz
    by_cases e:i=id
    · subst e; rw[Qu]at hz; cases hz
    · rw[Qz e]at hz
      by_cases e2:i=n.par
      · subst e2; rw[Qu]at hz; cases hz; have hq:=h.quiet hy; exact hq
      · rw[Qz e2]at hz; exact h.quiet hz
end
section
variable {w:World} {As:List Th}
theorem U0 {T:Int→Option OneD} {i:Int} {x:OneD} (hS:Sat w As) (j:Nat) (hj:As[j]? =some (X6 Wc T)) (hx:T i=some x) (q:Nat) {v:Value} (hv:(Lx x)[q]? =some v):w.cell? ⟨x.ad,q,none⟩=some v:=
  (ZY (hS.pull j hj) hx).cellF 0 U hv
theorem Ph {T:Int→Option OneD} {i:Int} {x:OneD} (hS:Sat w As) (j:Nat) (hj:As[j]? =some (X6 Wc T)) (hx:T i=some x):BlkF w x.ad (Lx x):=(ZY (hS.pull j hj) hx).blkF 0 U
theorem T6 {T:Int→Option OneD} {x:OneD} (h:Sat w (Wc x::X6 Wc T::As)) {j:Int} {z:OneD} (hz:T j=some z):z.ad≠x.ad:=
  one_new ((h.flat.perm (List.Perm.cons _ (List.perm_middle (l₁:=[_,_,_,_,_])))):Sat w (blkF x.ad (Lx x)::X6 Wc T::_)) hz
end
theorem TR {w:World} {F:Th} (hS:Sat w [F]) (P:Option Nat):
    Calls prog 80 #[Tt P] w (Ret fun v w'=> ∃x:OneD,v=ptrV x.ad 0∧x.par=P∧x.kids=0∧F7 x∧Sat w' [Wc x,F]):= by
 refine Qn func80 U ntmps80 U ?_
 refine Qe (Qa (Qd U U (Qf (Qc (Qe (Qa (Qb U U (Zg Zl hS U ?_))))))))
 intro mw w1 j1
 refine Zg Zl j1 U ?_
 intro ml w2 j2
 refine Zg Zl j2 U ?_
 intro mv w3 j3
 refine Zg Zl j3 U ?_
 intro ms w4 j4
 refine KY (vs':=[Tt P,intV 0,.map (some mw),.map (some ml),.slice none 0 0,.map (some mv),.map (some ms)]) U RN asz_99 zr_99 (by first | rfl | (cases P<;>rfl)) (by first | rfl | (cases P<;>rfl)) (by first | rfl | (cases P<;>rfl)) ?_
 refine wl_boxF j4 U U U ?_
 intro bx w5 j5
 refine Qd U U (Qf (Qc (Qv (QR (.inr U) U U ?_))))
 have hrn:=(j5.pick [0,4,3,2,1,5] U).row_nil VQ
 exact⟨_,rfl,(⟨bx,P,0,mw,ml,mv,ms,.slice none 0 0, fun _=>none, fun _=>none,[], fun _=>none⟩:OneD),rfl,rfl,rfl,⟨rfl,rfl,rfl,rfl⟩,Ro (x:=(⟨bx,P,0,mw,ml,mv,ms,.slice none 0 0, fun _=>none, fun _=>none,[], fun _=>none⟩:OneD)) (hrn.reorder [1,2,3,0,4,5,6] U)⟩
noncomputable def D7 (ma:Nat) (x:OneD):CeD:=⟨ma,QO (fun _=>none) 0 (some x)⟩
theorem E6 {w:World} {F:Th} (hS:Sat w [F]):
    Calls prog 45 #[] w (Ret fun v w'=> ∃c ma x,v=ptrV c 0∧x.par=none∧x.kids=0∧F7 x∧Sat w' [Yb c (D7 ma x),F]):= by
 refine Qn func45 U ntmps45 U ?_
 refine Qe (Qa (Qd U U (Qf (Qc (Qe (Qa (Zg QX hS U ?_)))))))
 intro ma w1 j1
 refine Q0 EF U (TR (j1.sp [] U) none) U ?_
 rintro _ w2 ⟨x,rfl,hxp,hxk,hxq,j2⟩
 replace j2:=j2.jn U U
 refine BY (k:=0) (v:=ptrV x.ad 0) 1 j2 keysInt underlying89 U U U U ?_
 intro w3 j3; dsimp only[List.set]at j3
 refine Qb U U (Zw U pl_91_0 asz_91 zr_91 U U (XV j3 U U U ?_))
 intro cb w4 j4
 refine Qd U U (Qf (Qc (Qv (QR (.inr U) U U ?_))))
 have hA0:Sat _ (Wc x::X6 Wc (fun _:Int=>none)::_):=(BB (κ:=Int) Wc (j4.pick [1,0,2,3] U)).reorder [1,0,2,3,4] U
 have hA:=KI (f:= fun _=>none) (k:=(0:Int)) hA0 U
 have hB:=hA.reorder [1,2,0,3] U
 rw[show(fun _:Int=>(none:Option Value))=XC OneD.ad (fun _=>none) from rfl,Km (x:=x)]at hB
 exact⟨_,U,cb,ma,x,U,hxp,hxk,hxq,J2 (C:=D7 ma x) hB⟩
theorem N5 {w:World} {c:Nat} {C:CeD} {F:Th} (hS:Sat w [Yb c C,F]) {id parent:Int} {y:OneD} (Zt:C.all id=none) (hy:C.all parent=some y) (h1:1≤id) (hk:0≤y.kids∧y.kids≤100000000000):
    Calls prog 47 #[ptrV c 0,intV id,intV parent] w (Ret fun v w'=>v=intV 0∧ ∃x:OneD,(∀j z,C.all j=some z→z.ad≠x.ad)∧x.par=some y.ad∧x.kids=0∧F7 x∧Sat w' [Yb c ⟨C.ma,QO (QO C.all parent (some {y with kids:=y.kids+1})) id (some x)⟩,F]):= by
 replace hS:=Jd hS
 refine Qn func47 U ntmps47 U ?_
 refine Qe (Qa (Qd U U (Qf (Qc (Qe (Qa (Qb U U (Qi U U (Qg U JU U (Qo U HL (by first | assumption | exact hS.cell 0 U U) U ?_))))))))))
 refine Qb U U ?_
 refine Xj (k:=parent) 1 hS keysInt underlying89 U U U VY (u:=(ptrV y.ad 0)) (g:=true) (XJ hy) (by unfold XC; rw[hy];rfl) U ?_
 refine Qb U U (Qp U U U (Qp U U U (Qd U U (Qd U U (Qf (Qc (Qh [1,0,6,7,8] U (Qe (Qw (Qe (Qa (Qb U U (Xn U U U (Qd U U (Qf (Qc (Qt U (fun h1=> ?_) (fun h1=> ?_))))))))))))))))))
 ·exact absurd h1 (by omega)
 refine Qe (Qa (Qb U U (Qi U U (Qg U JU U (Qo U HL (by first | assumption | exact hS.cell 0 U U) U ?_)))))
 refine Qb U U (X8 (k:=id) 1 hS keysInt underlying89 U U U VY (u:= .pointer none) (Dy Zt) U (Zz underlying88 U U U (Qd U U (Qf (Qc (Qh [1,0,6,7,8,21] U (QL U (Qe (Qa (Qb U U (QU U U (Qd U U (Qf (Qc (QS U (fun h2=> ?_) (fun h2=> ?_))))))))))))))))
 ·exact absurd h2 (by decide)
 refine Qs (Ql (Qc (Qe ?_)))
 have j3:=ZY (hS.pick [2,0,1,3] U) hy
 refine Qa (Qb U U (Qi U U (Qg U Kx U (Qo U QM (by first | assumption | exact j3.cellF 0 U U | exact j3.cell 7 U U) U ?_))))
 refine QK U U (by omega) (by omega) U ?_
 refine Qi U U (Qg U Kx U ?_)
 first | (refine Qx j3 U U Js (by first | rfl | assumption | exact j3.own_one 3 U) (i:=7) U (by first | decide | exact Q7 U | (simp;done) | omega) ?_) | (refine KW j3 U U Js (by first | rfl | assumption | exact j3.own_one 3 U) (i:=0) U (by first | decide | exact Q7 U | (simp;done) | omega) ?_)
 intro w4 j5; dsimp only[List.set]at j5
 refine Qf ?_
 have j6:=YS (x:={y with kids:=y.kids+1}) (j5.pick [0,1,2,3,4,5,6,7,8,9] U)
 refine Qc (Qh [1,0,6,7] U (Qe ?_))
 have j7:=j6.drew
 refine QH [0,1,2,3,4,5,6,7] [6,7] ZW (by kernel_rfl) ?_
 refine QJ U U U (Xd U U U (QP U U U JU (Q3 U U U (Qm U HL (by first | assumption | exact j7.cell 1 U U)) ?_)))
 refine QJ U U U (QJ U U U (Xl U U U U U U ?_))
 refine Q0 EF U (TR (j7.sp [] U) (some y.ad)) U ?_
 rintro _ w8 ⟨x,rfl,hxp,hxk,hxq,j8⟩
 replace j8:=j8.jn U U
 refine XH (.cons (.inl ⟨rfl,(Qm U HL (by first | assumption | exact j8.cell 2 U U))⟩) .nil) ?_
 refine Xl U U U U U U ?_
 refine Xi (k:=id) (v:=ptrV x.ad 0) 3 j8 keysInt underlying89 U U U U ?_
 intro w9 j9; dsimp only[List.set]at j9
 refine Zj (Xq (by kernel_rfl)) ?_
 refine VC.nil (Qc (Qh [6] U (Qe (Qa (Qd U U (Qf (Qc (Qv (QR (.inr U) U U ?_)))))))))
 have hz:=j9.pick [0,1,2,3,4] U
 have hnew: ∀j z,C.all j=some z→z.ad≠x.ad:= fun j z hz0=> by by_cases e:j=parent;(subst e; rw[hy]at hz0; cases hz0; exact T6 hz (x:=x) (j:=j) (z:={y with kids:=y.kids+1}) Qu); exact T6 hz (j:=j) (by rw[Qz e]; exact hz0)
 have hne:id≠parent:= fun e=> by rw[e,hy]at Zt; cases Zt
 have hB:=(KI (f:=QO C.all parent (some {y with kids:=y.kids+1})) hz (k:=id) (by rw[Qz hne]; exact Zt)).reorder [1,2,0,3] U
 rw[←WI (k:=parent) (y:={y with kids:=y.kids+1}) hy U,Km (x:=x)]at hB
 exact⟨_,U,U,x,hnew,hxp,hxk,hxq,J2 (C:=⟨C.ma,QO (QO C.all parent (some {y with kids:=y.kids+1})) id (some x)⟩) hB⟩
