/- Maps: what lies in a map's block, and laws for the operations on maps. Keys: of one kind ('KeyOk'): integers, or structs of two integers. -/
import Derived.Test.YtifaibmhinlcfaaGreatDoorMem
import Derived.MapKept
import Derived.Laws.IdiomRangeMap
import Derived.Maps.RangeRun
import Derived.Test.YtifaibmhinlcfaaGreatDoorWk
import Derived.Test.YtifaibmhinlcfaaGreatDoorDr
namespace Go.Proofs.YtifaibmhinlcfaaGreatDoor.M
open Go.RowKit
variable {As:List Th} {P:Program} {a:Act} {ao:Option Addr} {b bytes c cap clock clock' e i j m m' off q r size t:Nat} {cs vs xs:List Value} {es es':Array MapEntry} {et kt mt t2:TypeId} {k:IntKind} {l:List MapEntry} {o:Oper} {parts:List (Nat×Operand)} {pls:List (Nat×Nat)} {seen:Array Nat} {u v z:Value} {w w':World} {x y:Operand}
structure KeyOk {κ:Type} (P:Program) (kt:TypeId) (kv:κ→Value):Prop where
  inj: ∀a b,kv a=kv b→a=b
  bits: ∀a,Instr.sameBits 10000 (kv a) (kv a)=true
  check: ∀(e:Bool) (a:κ) (w:World),(Instr.checkKey e 10000 kt (kv a)).run P w= .ok () w
  find: ∀(a:κ) (l:List MapEntry) (w:World),(∀x∈l,∃b,x.key=kv b)→
    (∃i x,l[i]? =some x∧x.key=kv a∧(Instr.findKey kt (kv a) l).run P w= .ok (some (i,x.val)) w)∨((∀x∈l,x.key≠kv a)∧(Instr.findKey kt (kv a) l).run P w= .ok none w)
def QY (a:Int):Value:= .int .i64 a
def pairK (p:Int×Int):Value:= .agg #[.int .i64 p.1,.int .i64 p.2]
theorem Iq (f:P.underlying kt=some (.int .i64)):KeyOk P kt QY where
  inj:=by intro a b h;simpa [QY]using h
  bits:= λa=>MapKept.sameBits_self (d:= .int .i64) (by simp [MapKept.IsKey,QY]) _
  check:= λe a w=>MapKept.run_checkKey f (by simp [MapKept.IsKey,QY]) e 9999
  find:= λa l w h=>by
    rcases MapKept.findNow_spec (d:= .int .i64) (k:=QY a) (by simp [MapKept.IsKey,QY]) l 0 (λx i=>by obtain⟨b,m⟩:=h x i;rw[m];simp [MapKept.IsKey,QY])with⟨c,g⟩ | ⟨j,e,c,g,n⟩
    · exact .inr ⟨g,MapKept.run_findKey f c⟩
    · refine .inl ⟨j,e,g,n, ?_⟩;rw[Nat.zero_add]at c;exact MapKept.run_findKey f c
theorem CV {t:TypeId} (a:P.underlying t=some (.int k)) (cs:Array Value) (off:Nat) (v:Value) (b:cs[off]? =some v) (w:World):(part t cs off).run P w= .ok v w:=by
  simp [part,isAgg,run_underlying a,b]
theorem VE {t:TypeId} (c:P.underlying t=some (.int k)) (n:Nat) (a b:Int) (w:World):(Op.equalIn (n+1) t (.int k a) (.int k b)).run P w= .ok (a==b) w:=by
  unfold Op.equalIn;simp only[Sem.run_bind,run_underlying c,Result.andThen];simp
structure MapAt {κ:Type} (kv:κ→Value) (w:World) (b:Nat) (es:Array MapEntry) (clock:Nat):Prop where
  blk:w.heap[b]? =some (.map es clock)
  stamped:MapKept.Stamped es clock
  keys: ∀x∈es.toList,∃a,x.key=kv a
section
variable {κ:Type} {kv:κ→Value} {w:World} {b:Nat} {es:Array MapEntry} {clock:Nat}
theorem MapAt.lt (h:MapAt kv w b es clock):b<w.heap.size:=by
  rcases Nat.lt_or_ge b w.heap.size with g | g
  · exact g
  · have :=h.blk;simp [Array.getElem?_eq_none g]at this
theorem MapAt.congr (h:MapAt kv w b es clock) (e:w'.heap[b]? =w.heap[b]?):MapAt kv w' b es clock:=⟨by rw[e];exact h.blk,h.stamped,h.keys⟩
theorem Only.setObj (w:World) (b:Nat) (o:Obj):Only [b] w {w with heap:=w.heap.setIfInBounds b o}:=
  ⟨rfl,rfl,rfl,by simp,λk c a=>by
    have :b≠k:=by intro q;subst q;simp at a
    simp [Array.getElem?_setIfInBounds,this]⟩
theorem Pz (kv:κ->Value) (t:TypeId) (b:o.op= .makeMap t none):
    does P o a w (λv w'=>v= .map (some w.heap.size)/\MapAt kv w' w.heap.size #[] 0/\w'=w.alloc (.map #[] 0)):=by
  refine⟨_,_,.inl ?_,rfl,⟨(MapKept.heap_alloc w _).1,MapKept.stamped_empty _,by simp⟩,rfl⟩;simp [execOp,b,Instr.makeMap]
theorem Fu (mt:TypeId) (x y:Operand) (f:o.op= .lookup mt x y false) (K:KeyOk P kt kv) (g:P.underlying mt=some (.map kt et)) (h:MapAt kv w b es clock)
    (j:a.eval x= .map (some b)) {k:κ} (l:a.eval y=kv k) (m:(zeroValue et).run P w= .ok z w):
    does P o a w (λv w'=>((∃e∈es.toList,e.key=kv k/\v=e.val)\/((∀e∈es.toList,e.key≠kv k)/\v=z))/\w=w'):=by
  rcases K.find k es.toList w h.keys with⟨i,e,c,d,n⟩ | ⟨c,d⟩
  · refine⟨e.val,w,.inl ?_,.inl ⟨e,List.mem_of_getElem? c,d,U⟩,U⟩;simp [execOp,f,j,l,Instr.lookup,run_underlying g,MapKept.run_getObj_map h.blk,K.check,n]
  · refine⟨z,w,.inl ?_,.inr ⟨c,U⟩,U⟩;simp [execOp,f,j,l,Instr.lookup,run_underlying g,MapKept.run_getObj_map h.blk,K.check,d,m]
def isPut (kv:κ->Value) (es es':Array MapEntry) (clock clock':Nat) (k:κ) (v:Value):Prop:=
  (clock'=clock/\ ∃i e,es[i]? =some e/\e.key=kv k/\es'=es.modify i (λe=>{e with key:=kv k,val:=v}))\/
  (clock'=clock+1/\(∀e∈es.toList,e.key≠kv k)/\es'=es.push {key:=kv k,val:=v,born:=clock})
theorem Nk {α β:Type} (f:α->β) {l:List α} (h:(l.map f).Nodup) {x y:α} (hi:l[i]? =some x) (d:l[j]? =some y) (e:f x=f y):i=j:=by
  have c:=List.pairwise_iff_getElem.1 h;obtain⟨a,ex⟩:=Za hi;obtain⟨b,ey⟩:=Za d;rcases Nat.lt_trichotomy i j with g | g | g
  · exact(c i j (by simpa using a) (by simpa using b) g (by simp [ex,ey,e])).elim
  · exact g
  · exact(c j i (by simpa using b) (by simpa using a) g (by simp [ex,ey,e])).elim
theorem Pk (h:(l.map (·.key)).Nodup) {x y:MapEntry} (hi:l[i]? =some x) (a:l[j]? =some y) (e:x.key=y.key):i=j:=Nk _ h hi a e
theorem qf3 (h:(l.map (·.born)).Nodup) {x y:MapEntry} (hi:l[i]? =some x) (a:l[j]? =some y) (e:x.born=y.born):i=j:=Nk _ h hi a e
theorem key_one (h:(l.map (·.key)).Nodup) {x y:MapEntry} (b:x∈l) (c:y∈l) (e:x.key=y.key):x=y:=by
  obtain⟨i,hi⟩:=List.mem_iff_getElem?.1 b;obtain⟨j,a⟩:=List.mem_iff_getElem?.1 c;have :=Pk h hi a e;subst this;rw[hi]at a;exact Option.some.inj a
theorem isPut.stamped {k:κ} (h:isPut kv es es' clock clock' k v) (b:MapKept.Stamped es clock):MapKept.Stamped es' clock':=by
  rcases h with⟨rfl,i,e,a,d,rfl⟩ | ⟨rfl,a,rfl⟩
  · exact MapKept.stamped_modify b i _ (λ_ _=>rfl) (λx _ c=>by rw[a]at c;cases c;exact d.symm)
  · exact MapKept.stamped_push b a
theorem isPut.mem {k:κ} (h:isPut kv es es' clock clock' k v) (m:MapKept.Stamped es clock):
    (∀x∈es'.toList,(x.key=kv k/\x.val=v)\/(x.key≠kv k/\x∈es.toList))/\(∀x∈es.toList,x.key≠kv k->x∈es'.toList)/\ ∃x∈es'.toList,x.key=kv k/\x.val=v:=by
  rcases h with⟨rfl,i,e,d,l,rfl⟩ | ⟨rfl,d,rfl⟩
  · have f:es.toList[i]? =some e:=by simpa using d
    refine⟨λx a=> ?_,λx a n=> ?_, ?_⟩
    · obtain⟨j,c⟩:=List.mem_iff_getElem?.1 a;rw[Array.getElem?_toList,Array.getElem?_modify]at c;by_cases b:i=j
      · subst b;rw[if_pos U,d]at c;simp at c;subst c;exact .inl ⟨U,U⟩
      · rw[if_neg b]at c;have g:es.toList[j]? =some x:=by simpa using c
        exact .inr ⟨λq=>b (Pk m.2.2 f g (by rw[l,q])),List.mem_of_getElem? g⟩
    · obtain⟨j,c⟩:=List.mem_iff_getElem?.1 a;have b:i≠j:=by intro q;subst q;rw[f]at c;cases c;exact n l
      refine List.mem_of_getElem? (i:=j) ?_;rw[Array.getElem?_toList,Array.getElem?_modify,if_neg b];simpa using c
    · refine⟨{e with key:=kv k,val:=v},List.mem_of_getElem? (i:=i) ?_,U,U⟩
      rw[Array.getElem?_toList,Array.getElem?_modify,if_pos U,d];rfl
  · refine⟨λx a=> ?_,λx a _=>by simp at a⊢;exact .inl a,⟨_,by simp;exact .inr U,rfl,rfl⟩⟩;simp at a;rcases a with a | rfl
    · exact .inr ⟨d x (by simpa using a),by simpa using a⟩
    · exact .inl ⟨U,U⟩
theorem MapAt.put {k:κ} (h:MapAt kv w b es clock) (c:isPut kv es es' clock clock' k v):MapAt kv {w with heap:=w.heap.setIfInBounds b (.map es' clock')} b es' clock':=
  ⟨(MapKept.heap_set h.blk).1,c.stamped h.stamped,λx d=>by
    rcases(c.mem h.stamped).1 x d with⟨a,_⟩ | ⟨_,a⟩
    · exact⟨k,a⟩
    · exact h.keys x a⟩
theorem TA (mt:TypeId) (x y z:Operand) (j:o.op= .mapUpdate mt x y z) (K:KeyOk P kt kv) (l:P.underlying mt=some (.map kt et)) (h:MapAt kv w b es clock)
    (m:a.eval x= .map (some b)) {k:κ} (n:a.eval y=kv k) (p:a.eval z=v):
    does P o a w (λu w'=>u=undef/\ ∃es' clock',isPut kv es es' clock clock' k v/\MapAt kv w' b es' clock'/\Only [b] w w'/\w'.heap.size=w.heap.size):=by
  rcases K.find k es.toList w h.keys with⟨i,e,d,f,q⟩ | ⟨d,f⟩
  · have c:isPut kv es (es.modify i (λe=>{e with key:=kv k,val:=v})) clock clock k v:= .inl ⟨rfl,i,e,by simpa using d,f,rfl⟩
    refine⟨undef,_,.inr ⟨?_,rfl⟩,rfl,_,_,c,h.put c,Only.setObj _ _ _,by simp⟩;have g:es[i]? =some e:=by simpa using d
    simp [execOp,j,m,n,p,Instr.mapUpdate,run_underlying l,MapKept.run_getObj_map h.blk,MapKept.run_setObj_map _ h.blk,K.check,q,g,f,Instr.keyThatStays,K.bits]
  · have c:isPut kv es (es.push {key:=kv k,val:=v,born:=clock}) clock (clock+1) k v:= .inr ⟨rfl,d,rfl⟩;refine⟨undef,_,.inr ⟨?_,rfl⟩,rfl,_,_,c,h.put c,Only.setObj _ _ _,by simp⟩;simp [execOp,j,m,n,p,Instr.mapUpdate,run_underlying l,MapKept.run_getObj_map h.blk,MapKept.run_setObj_map _ h.blk,K.check,f]
theorem Dq (mt t2:TypeId) (x y:Operand) (m:o.op= .call {callee:= .builtin .delete,args:= #[x,y],argTypes:= #[mt,t2]}) (K:KeyOk P kt kv) (n:P.underlying mt=some (.map kt et)) (h:MapAt kv w b es clock)
    (c:a.eval x= .map (some b)) {k:κ} (p:a.eval y=kv k):
    does P o a w (λu w'=>u= .tuple #[]/\ ∃es',(∀e,e∈es'.toList↔e∈es.toList/\e.key≠kv k)/\MapAt kv w' b es' clock/\Only [b] w w'/\w'.heap.size=w.heap.size):=by
  rcases K.find k es.toList w h.keys with⟨i,e,d,g,r⟩ | ⟨d,g⟩
  · have s:(es.eraseIdxIfInBounds i).toList=es.toList.eraseIdx i:=by
      unfold Array.eraseIdxIfInBounds;split
      · simp only[Array.toList_eraseIdx]
      · rename_i t;rw[List.eraseIdx_of_length_le (by simpa using t)]
    have f: ∀x,x∈(es.eraseIdxIfInBounds i).toList↔x∈es.toList/\x.key≠kv k:=by
      intro x;rw[s,List.mem_eraseIdx_iff_getElem?];constructor
      · rintro⟨j,l,c⟩;exact⟨List.mem_of_getElem? c,λq=>l (Pk h.stamped.2.2 c d (by rw[g,q]))⟩
      · rintro⟨c,v⟩;obtain⟨j,l⟩:=List.mem_iff_getElem?.1 c;exact⟨j,λq=>by subst q;rw[l]at d;cases d;exact v g,l⟩
    refine⟨_,_,.inl ?_,rfl,_,f,⟨(MapKept.heap_set h.blk).1,MapKept.stamped_erase h.stamped i,λx c=>h.keys x ((f x).1 c).1⟩,Only.setObj _ _ _,by simp⟩;simp [execOp,m,c,p,resolve,invoke,builtin,Builtin.delete_,run_underlying n,MapKept.run_getObj_map h.blk,MapKept.run_setObj_map _ h.blk,K.check,r]
  · refine⟨_,_,.inl ?_,rfl,es,λx=>⟨λc=>⟨c,d x c⟩,λc=>c.1⟩,⟨(MapKept.heap_set h.blk).1,h.stamped,h.keys⟩,Only.setObj _ _ _,by simp⟩;simp [execOp,m,c,p,resolve,invoke,builtin,Builtin.delete_,run_underlying n,MapKept.run_getObj_map h.blk,MapKept.run_setObj_map _ h.blk,K.check,g]
def IterAt (w:World) (r b since:Nat) (seen:Array Nat) (a:Nat):Prop:=w.heap[r]? =some (.mapIter (some b) since seen a)
theorem IterAt.lt {since a:Nat} (h:IterAt w r b since seen a):r<w.heap.size:=by
  rcases Nat.lt_or_ge r w.heap.size with g | g
  · exact g
  · unfold IterAt at h;simp [Array.getElem?_eq_none g]at h
theorem LM (mt:TypeId) (x:Operand) (c:o.op= .range mt x) (d:P.underlying mt=some (.map kt et)) (h:MapAt kv w b es clock) (e:a.eval x= .map (some b)):
    does P o a w (λv w'=>v= .pointer (some ⟨w.heap.size,0,none⟩)/\IterAt w' w.heap.size b clock #[] clock/\w'=w.alloc (.mapIter (some b) clock #[] clock)):=by
  refine⟨_,_,.inl ?_,U,(MapKept.heap_alloc w _).1,U⟩;simp [execOp,c,e,run_range_map w mt kt et b es clock d h.blk]
theorem IH (x:Operand) (i:o.op= .next x false) (h:MapAt kv w b es clock) (hi:IterAt w r b clock seen clock) (j:a.eval x= .pointer (some ⟨r,0,none⟩)):
    does P o a w (λv w'=>(v= .tuple #[.bool false]/\w=w'/\ ∀e∈es.toList,e.born∈seen.toList)\/
      ∃e∈es.toList,e.born∉seen.toList/\v= .tuple #[.bool true,e.key,e.val]/\Only [r] w w'/\IterAt w' r b clock (seen.push e.born) clock/\w'.heap.size=w.heap.size):=by
  rcases run_next_at (P:=P) w o.type r b clock clock seen es clock hi h.blk h.stamped.1 (Nat.le_refl _)with⟨m,g⟩ | ⟨e,f,k,c,g⟩
  · refine⟨_,w,.inl ?_,.inl ⟨rfl,rfl,λe f=> ?_⟩⟩
    · simp [execOp,i,j,g]
    · have n:(leftOf es seen).toList=[]:=List.eq_nil_of_length_eq_zero (by simpa using m);apply Classical.byContradiction;intro l;have :e∈(leftOf es seen).toList:=by simp [leftOf]at f l⊢;exact⟨f,l⟩
      rw[n]at this;cases this
  · have d:e∈es.toList/\e.born∉seen.toList:=by simpa [leftOf]using f
    refine⟨.tuple #[.bool true,e.key,e.val],ChangeMaps.setBlock k r (.mapIter (some b) clock (seen.push e.born) clock),.inl ?_,.inr ⟨e,d.1,d.2,U, ?_, ?_, ?_⟩⟩
    · simp [execOp,i,j,g]
    · rcases c with rfl | rfl
      · exact Only.setObj _ _ _
      · exact(Only.refl _ w).drew.trans1 (Only.setObj w.drew r _)
    · have :r<k.heap.size:=by rcases c with rfl | rfl<;> exact hi.lt
      simp [IterAt,ChangeMaps.setBlock,this]
    · rcases c with rfl | rfl<;> simp [ChangeMaps.setBlock]<;>rfl
theorem LN (x:Operand) (c:o.op= .entry x) {e:MapEntry} (h:MapAt kv w b es clock) (hi:IterAt w r b clock (seen.push e.born) clock) (d:e∈es.toList) (f:a.eval x= .pointer (some ⟨r,0,none⟩)):
    does P o a w (λv w'=>v= .tuple #[e.key,e.val]/\w=w'):=by
  refine⟨_,w,.inl ?_,U,U⟩;simp [execOp,c,f,run_entry_at (P:=P) w r b clock seen es clock e hi h.blk d h.stamped.2.1]
end
section
variable {κ:Type} {kv:κ→Value}
def Reads (kv:κ->Value) (es:Array MapEntry) (f:κ->Option Value):Prop:= ∀k v,f k=some v↔ ∃e∈es.toList,e.key=kv k/\e.val=v
def Q4 (kv:κ->Value) (b:Nat) (f:κ->Option Value):Th where
  at_:= λw F=>(F= λk=>k=b)/\ ∃es clock,MapAt kv w b es clock/\Reads kv es f
  fr:= λa ⟨e,es,c,h,r⟩=>⟨e,es,c,h.congr (a.blk _ (by rw[e])),r⟩
  lt:= λ⟨e,es,c,h,_⟩ k d=>by rw[e]at d;subst d;exact h.lt
open Classical in
noncomputable def upd (f:κ->Option Value) (k:κ) (v:Option Value):κ->Option Value:= λj=> if j=k then v else f j
theorem XR {f:κ->Option Value} {k:κ} {v:Option Value}:upd f k v k=v:=by simp [upd]
theorem ZG {f:κ->Option Value} {k j:κ} {v:Option Value} (h:j≠k):upd f k v j=f j:=by simp [upd,h]
theorem Sat.map (h:Sat w As) (i:Nat) {f:κ->Option Value} (hi:As[i]? =some (Q4 kv b f)): ∃es clock,MapAt kv w b es clock/\Reads kv es f:=by
  obtain⟨F,_,h⟩:=h.get i hi;exact h
theorem Sat.map_set (h:Sat w As) (i:Nat) {f f':κ->Option Value} (hi:As[i]? =some (Q4 kv b f)) (c:MapAt kv w' b es clock) (d:Reads kv es f') (g:Only [b] w w'):Sat w' (As.set i (Q4 kv b f')):=
  h.step i hi λF ⟨e,_⟩=>⟨F,⟨e,es,clock,c,d⟩,λk j=> .inl j,g.agree (λx a=> .inl (by simp only[List.mem_singleton]at a;subst a;rw[e]))⟩
theorem Reads.put (K:KeyOk P kt kv) {f:κ->Option Value} (h:Reads kv es f) (l:MapKept.Stamped es clock) {k:κ} (m:isPut kv es es' clock clock' k v):Reads kv es' (upd f k (some v)):=by
  intro j u;obtain⟨i,n,o⟩:=m.mem l;by_cases d:j=k
  · subst d;rw[XR];constructor
    · intro e;cases e;exact o
    · rintro⟨e,c,a,rfl⟩;rcases i e c with⟨_,b⟩ | ⟨b,_⟩
      · rw[b]
      · exact absurd a b
  · rw[ZG d,h j u];constructor
    · rintro⟨e,c,a,g⟩;exact⟨e,n e c (λq=>d (K.inj _ _ (a.symm.trans q))),a,g⟩
    · rintro⟨e,c,a,g⟩;rcases i e c with⟨b,_⟩ | ⟨_,b⟩
      · exact absurd (K.inj _ _ (a.symm.trans b)) d
      · exact⟨e,b,a,g⟩
section
variable {P:Program} {n:Nat} {ops:Array Oper} {Q:Exit→Act→World→Prop} {rest:List Oper} {L:Env} {w:World} {d:Nat} {ty:TypeId} {pos:String} {aft:Array Edge}
theorem XS (kv:κ->Value) (e:Sat w As) (hd:Nat.blt d n=true) (c: ∀b w',Sat w' (Q4 kv b (λ_=>none)::As)->wl P n ops Q rest ((d,.map (some b))::L) w'):wl P n ops Q (⟨some d,.makeMap t none,ty,pos,aft,none⟩::rest) L w:=
  XI U hd (λa _=>Pz kv t U) (by
    rintro v w' ⟨rfl,f,g⟩;have h:Only [] w w':=by rw[g];exact(Only.refl _ _).alloc _
    exact c _ _ (e.new h (A:=Q4 kv w.heap.size (λ_=>none)) ⟨rfl,_,_,f,λk v=>by simp⟩ (λk c=>by rw[c];exact Nat.le_refl _)))
theorem Xf {f:κ->Option Value} {k:κ} (i:Nat) (m:Sat w As) (K:KeyOk P kt kv) (o:P.underlying mt=some (.map kt et)) (hi:As[i]? =some (Q4 kv b f)) (p:look L x=some (.map (some b))) (q:look L y=some (kv k)) (r:XE P et=some (some z)) (s:(f k).getD z=u) (hd:Nat.blt d n=true)
    (t:wl P n ops Q rest ((d,u)::L) w):wl P n ops Q (⟨some d,.lookup mt x y false,ty,pos,aft,none⟩::rest) L w:=by
  obtain⟨es,c,A,j⟩:=m.map i hi;refine XI U hd (λa l=>Fu mt x y U K o A (l.eval p) (l.eval q) (Jq r w)) ?_;rintro v w' ⟨B,rfl⟩
  have e:v=(f k).getD z:=by
    rcases B with⟨e,h,g,rfl⟩ | ⟨C,rfl⟩
    · rw[(j k e.val).2 ⟨e,h,g,rfl⟩];rfl
    · cases D:f k with
      | none=>rfl
      | some u=> obtain⟨e,h,g,_⟩:=(j k u).1 D;exact absurd g (C e h)
  subst e;subst s;exact t
theorem QT {z:Operand} {f:κ->Option Value} {k:κ} (i:Nat) (e:Sat w As) (K:KeyOk P kt kv) (h:P.underlying mt=some (.map kt et)) (hi:As[i]? =some (Q4 kv b f)) (j:look L x=some (.map (some b))) (l:look L y=some (kv k)) (m:look L z=some v)
    (o: ∀w',Sat w' (As.set i (Q4 kv b (upd f k (some v))))->wl P n ops Q rest L w'):wl P n ops Q (⟨none,.mapUpdate mt x y z,ty,pos,aft,none⟩::rest) L w:=by
  obtain⟨es,c,g,p⟩:=e.map i hi;refine XI U U (λa d=>TA mt x y z U K h g (d.eval j) (d.eval l) (d.eval m)) ?_;rintro _ w' ⟨rfl,es',c',q,r,s,_⟩;exact o w' (e.map_set i hi r (p.put K g.stamped q) s)
end
end
theorem Sat.drew {w:World} {As:List Th} (h:Sat w As):Sat w.drew As:=h.only ((Only.refl [] w).drew)
section
variable {P:Program} {n:Nat} {ops:Array Oper} {Q:Exit→Act→World→Prop} {rest:List Oper} {L:Env} {w:World} {d:Nat} {ty:TypeId} {pos:String} {aft:Array Edge}
theorem Sat.own_shape (b:Sat w As) (i:Nat) (hi:As[i]? =some (Jk v m size xs)): ∃ao cap,v= .slice ao m cap/\m<=cap/\xs.length=m*size:=by
  obtain⟨f,h⟩:=b.own i hi;obtain⟨a,c,d,e⟩:=h.shape;exact⟨a,c,d,e,h.1⟩
theorem Sat.own_one (a:Sat w As) (i:Nat) (hi:As[i]? =some (Jk v m size xs)):v.oneCell'=true:=by
  obtain⟨ao,cap,rfl,_⟩:=a.own_shape i hi;rfl
theorem Sat.own_at (a:Sat w As) (i:Nat) (hi:As[i]? =some (Jk v m size xs)) (c:0<m): ∃b cap,v= .slice (some ⟨b,0,none⟩) m cap/\m<=cap:=by
  obtain⟨f,h⟩:=a.own i hi;obtain⟨b,cap,sp,d,e,_⟩:=h.row c;exact⟨b,cap,d,e⟩
theorem Sat.ocell (a:Sat w As) (i:Nat) {o k:Nat} (hi:As[i]? =some (Jk v m size xs)) (c:v= .slice (some ⟨b,o,none⟩) m' cap) (d:xs[k]? =some u):w.cell? ⟨b,k,none⟩=some u:=by
  obtain⟨f,h⟩:=a.own i hi;subst c;exact h.cell d
theorem Wa (i:Nat) (a:Sat w As) (b:P.underlying t=some (.slice e)) (hi:As[i]? =some (Jk v m size xs)) (c:look L x=some v) (hd:Nat.blt d n=true) (f:wl P n ops Q rest ((d,.int .i64 (m:Int))::L) w):wl P n ops Q (⟨some d,.call ⟨.builtin .len, #[x], #[t]⟩,ty,pos,aft,none⟩::rest) L w:=by
  obtain⟨ao,cap,rfl,_⟩:=a.own_shape i hi;exact Xl b c hd f
theorem Ot (i j:Nat) (c:Sat w As) {sz:Nat} {a:Int} (hi:As[i]? =some (Jk v m size xs)) (e:look L x=some v) (f:look L y=some (.int k a)) (g:a=(j:Int)) (h:j<m) (l:Yn P t=some sz) (hd:Nat.blt d n=true)
    (o: ∀b cap,v= .slice (some ⟨b,0,none⟩) m cap->wl P n ops Q rest ((d,ptrV b (j*sz))::L) w):wl P n ops Q (⟨some d,.indexAddr t x y,ty,pos,aft,none⟩::rest) L w:=by
  obtain⟨b,cap,rfl,_⟩:=c.own_at i hi (by omega);refine Xt j e f g h l hd ?_;rw[Nat.zero_add];exact o b cap U
theorem Ft (f:o.op= .store t x y) (g:a.eval x= .pointer (some ⟨b,off,none⟩)) (h:a.eval y=u) (i:Blk w b cs) (j:ZQ P t=some m) (e:u.cells.size=m) (p:off+m<=cs.length) (k: ∀v∈u.cells.toList,v.oneCell'=true):
    does P o a w (λv w'=>v=undef/\Blk w' b (X6 cs off u.cells.toList)/\Only [b] w w'):=by
  obtain⟨w',l,c,d,n⟩:=Wg (P:=P) u.cells.toList 0 cs w b off i (by simp [e];omega) k;refine⟨_,w',.inr ⟨?_,U⟩,U,c,d⟩;simp [execOp,f,g,h,Instr.storeAt,Instr.sureAddr,storeVar,Zp j,e,l]
theorem Cy (i:Nat) (r:Sat w As) {o:Nat} {xs':List Value} (hi:As[i]? =some (Jk v m size xs)) (A:v= .slice (some ⟨b,0,none⟩) m' cap) (B:look L x=some (ptrV b o)) (C:look L y=some u) (D:ZQ P t=some q) (j:u.cells.size=q) (E:Uk u.cells.toList=true) (J:o+q<=xs.length) (l:X6 xs o u.cells.toList=xs')
    (p: ∀w',Sat w' (As.set i (Jk v m size xs'))->wl P n ops Q rest L w'):wl P n ops Q (⟨none,.store t x y,ty,pos,aft,none⟩::rest) L w:=by
  subst l;obtain⟨f,e⟩:=r.own i hi;subst A;obtain⟨F,⟨c,_⟩ | ⟨b',cap',sp,c,G,H,g,rfl⟩⟩:=e
  · cases c
  · cases c;refine XI U U (λa s=>Ft U (s.eval B) (s.eval C) H D j (by simp;omega) (Jm E)) ?_;rintro _ w' ⟨_,z,I⟩;have h:(X6 xs o u.cells.toList).length=xs.length:=J2 (by simp [j];omega);refine p w' (r.own_set i hi λfoot d=>⟨[b], ?_, ?_, ?_⟩)
    · refine⟨by rw[h];exact F,.inr ⟨b,cap,sp,rfl,G, ?_,by rw[List.length_append,h,<-List.length_append];exact g,rfl⟩⟩;rw[Y0 (by simp [j];omega)]at z;exact z
    · obtain⟨_,⟨c,_⟩ | ⟨b2,cap2,sp2,c,_,_,_,rfl⟩⟩:=d
      · cases c
      · cases c;exact I
    · obtain⟨_,⟨c,_⟩ | ⟨b2,cap2,sp2,c,_,_,_,rfl⟩⟩:=d
      · cases c
      · cases c;exact λk p=> .inl p
theorem Ve (j:Sat w As) {kl kc:IntKind} {A:Int} (m:Nat) (l:look L x=some (.int kl A)) (o:look L y=some (.int kc A)) (g:A=(m:Int)) (p:P.underlying t=some (.slice e)) (hi:(P.info? e).map (λi=>(i.zero,i.size,i.bytes))=some (some z,size,bytes)) (c:z.cells.size=size) (q:bytes*m<=281474976710656) (r:m<=9223372036854775807) (hd:Nat.blt d n=true)
    (f: ∀b w',Sat w' (Jk (.slice (some ⟨b,0,none⟩) m m) m size (List.replicate m z.cells.toList).flatten::As)->wl P n ops Q rest ((d,.slice (some ⟨b,0,none⟩) m m)::L) w'):wl P n ops Q (⟨some d,.makeSlice t x y,ty,pos,aft,none⟩::rest) L w:=
  XI U hd (λa h=>II t x y U (h.eval l) (h.eval o) g g (Nat.le_refl _) p hi c q r) (by
    rintro v w' ⟨rfl,s,u,_⟩;refine f _ _ (j.new u (F':= λk=>k∈[w.heap.size]) (A:=Jk _ _ _ _) ⟨[w.heap.size],rfl,Vn (sp:=[]) (by simpa using s) (by simp [c]) (Nat.le_refl _) (by simp [c])⟩ (λk f=>by simp at f;omega)))
theorem Oz (i:Nat) (B:Sat w As) {t2:Nat} {s:Operand} {sv xv:Value} {d2:TypeDesc} {news:List Value} (hi:As[i]? =some (Jk sv m size xs)) (D:look L s=some sv) (E:look L x=some xv) (G:P.underlying t=some (.slice e)) (o:P.underlying t2=some d2) (p: ∀k,d2≠ .int k)
    (r:(P.info? e).map (λi=>(i.zero,i.size,i.bytes))=some (some z,size,bytes)) (H:z.cells.size=size) (I:0<size) (u: ∀f,(Builtin.lenOf xv).run P f= .ok q f) (y: ∀f:World,f.heap=w.heap->(Builtin.firstCells size q xv).run P f= .ok news.toArray f) (A:news.length=q*size) (J:Uk news=true)
    (K:(m+q)*bytes<=140737488355328) (M:m+q<=9223372036854775807) (hd:Nat.blt d n=true) (N: ∀v w',Sat w' (As.set i (Jk v (m+q) size (xs++news)))->wl P n ops Q rest ((d,v)::L) w'):wl P n ops Q (⟨some d,.call ⟨.builtin .append, #[s,x], #[t,t2]⟩,ty,pos,aft,none⟩::rest) L w:=by
  obtain⟨F,h⟩:=B.own i hi;refine XI U hd (R:= λv w'=>Sat w' (As.set i (Jk v (m+q) size (xs++news)))) (λa C=> ?_) (λv w' O=>N v w' O);refine(Kv t t2 s x U (C.eval D) (C.eval E) h G o p r H I u y A (Jm J) K M).mono ?_;rintro v w' ⟨foot',g,S,T,_⟩
  have c: ∀foot,Own w sv m size xs foot->foot=F:=by
    intro foot j;obtain⟨_,⟨l,_,rfl⟩ | ⟨b1,c1,W,l,_,_,_,rfl⟩⟩:=h
    · obtain⟨_,⟨b,_,rfl⟩ | ⟨b2,V,s2,b,_,_,_,rfl⟩⟩:=j
      · rfl
      · rw[l]at b;cases b
    · obtain⟨_,⟨b,_,rfl⟩ | ⟨b2,V,s2,b,_,_,_,rfl⟩⟩:=j
      · rw[l]at b;cases b
      · rw[l]at b;cases b;rfl
  exact B.own_set i hi λfoot j=>by rw[c foot j]at *;exact⟨foot',g,S,T⟩
theorem Fj {t e:TypeId} (b:P.underlying t=some (.slice e)) (f:look L x=some (.slice ao m c)) (g:look L y=some (.slice none 0 0)):Ev P L w ⟨some d,.binOp .eql t x y t2,ty,pos,aft,none⟩ (.bool ao.isNone):= λρ a=>by
  have :(Op.equal t (.slice ao m c) (.slice none 0 0)).run P w= .ok ao.isNone w:=by
    unfold Op.equal Op.maxDepth Op.equalIn;simp only[Sem.run_bind,run_underlying b,Result.andThen];cases ao<;> simp
  simp [execOp,a _ _ f,a _ _ g,eqGuard,binOp,this]
theorem X5 {o:Nat} (c:look L x=some (ptrV b o)) (e:Z0 P t=some true) (f:ZQ P t=some m) (g:Blk w b cs) (h:o+m<=cs.length) (a:(cs.drop o).take m=vs):Ev P L w ⟨some d,.load t x,ty,pos,aft,none⟩ (.agg vs.toArray):=by
  subst a;exact λρ i=>by simp [execOp,i _ _ c,Instr.loadAt,Instr.sureAddr,loadVar,UZ e,Zp f,JB g o m h]
theorem qei {V:Value} (f:Jg L (parts.map (·.2))=some vs) (g: ∀w,(Instr.build t ((parts.map (·.1)).zip vs).toArray).run P w= .ok V w):Ev P L w ⟨some d,.build t parts.toArray,ty,pos,aft,none⟩ V:= λρ i=>by
  have b: ∀(ps:List Operand) (us:List Value),Jg L ps=some us->ps.map ρ=us:=by
    intro ps
    induction ps with
    | nil=> intro us h;simp [Jg]at h;subst h;rfl
    | cons p ps ih=>
      intro us h;simp only[Jg]at h;cases a:look L p with
      | none=> simp [a]at h
      | some v=>
        cases e:Jg L ps with
        | none=> simp [a,e]at h
        | some vs=> simp [a,e]at h;subst h;simp [i _ _ a,ih vs e]
  have a:=b _ _ f
  have j:(parts.toArray.map λx=>(x.1,ρ x.2))=((parts.map (·.1)).zip vs).toArray:=by
    rw[<-a];apply Array.ext';simp;clear f g a b
    induction parts with
    | nil=>rfl
    | cons p ps ih=> simp [ih]
  have c:=g w;rw[<-j]at c;simp only[execOp,Sem.run_bind,c];rfl
theorem X4 {κ:Type} {kv:κ->Value} {f:κ->Option Value} {k:κ} (i:Nat) (r:Sat w As) (K:KeyOk P kt kv) (o:P.underlying mt=some (.map kt et)) (hi:As[i]? =some (Q4 kv b f)) (s:look L x=some (.map (some b))) (t:look L y=some (kv k)) (v:XE P et=some (some z)) (A:(f k).getD z=u):Ev P L w ⟨some d,.lookup mt x y false,ty,pos,aft,none⟩ u:= λρ p=>by
  subst A;obtain⟨es,c,h,q⟩:=r.map i hi;have a:=p _ _ s;have g:=p _ _ t;rcases K.find k es.toList w h.keys with⟨j,e,l,B,m⟩ | ⟨l,m⟩
  · have :(f k)=some e.val:=(q k e.val).2 ⟨e,List.mem_of_getElem? l,B,rfl⟩;simp [execOp,a,g,Instr.lookup,run_underlying o,MapKept.run_getObj_map h.blk,K.check,m,this]
  · have :f k=none:=by
      cases C:f k with
      | none=>rfl
      | some u=> obtain⟨e,D,n,_⟩:=(q k u).1 C;exact absurd n (l e D)
    simp [execOp,a,g,Instr.lookup,run_underlying o,MapKept.run_getObj_map h.blk,K.check,m,this,Jq v]
theorem Sf {t e:TypeId} (a:P.underlying t=some (.slice e)) (b:look L x=some (.slice ao m c)) (f:look L y=some (.slice none 0 0)) (hd:Nat.blt d n=true) (g:wl P n ops Q rest ((d,.bool ao.isNone)::L) w):wl P n ops Q (⟨some d,.binOp .eql t x y t2,ty,pos,aft,none⟩::rest) L w:=Xp hd (Fj a b f) g
theorem Sat.own_row (n:Sat w As) (i:Nat) {o:Nat} (hi:As[i]? =some (Jk v m size xs)) (p:v= .slice (some ⟨b,o,none⟩) m' cap):
    ∃sp,Blk w b (xs++sp)/\ ∀(w':World) (xs':List Value),xs'.length=xs.length->Blk w' b (xs'++sp)->Only [b] w w'->Sat w' (As.set i (Jk v m size xs')):=by
  obtain⟨f,e⟩:=n.own i hi;obtain⟨q,⟨d,_⟩ | ⟨b',cap',sp,d,r,s,g,rfl⟩⟩:=e
  · rw[p]at d;cases d
  · have h:=d;rw[p]at h;cases h;refine⟨sp,s,λw' xs' j l t=>n.own_set i hi λfoot a=>⟨[b],⟨by rw[j];exact q,.inr ⟨b,cap,sp,d,r,l,by rw[List.length_append,j,<-List.length_append];exact g,rfl⟩⟩, ?_, ?_⟩⟩
    · obtain⟨_,⟨c,_⟩ | ⟨b2,cap2,sp2,c,_,_,_,rfl⟩⟩:=a
      · rw[d]at c;cases c
      · rw[d]at c;cases c;exact t
    · obtain⟨_,⟨c,_⟩ | ⟨b2,cap2,sp2,c,_,_,_,rfl⟩⟩:=a
      · rw[d]at c;cases c
      · rw[d]at c;cases c;exact λk u=> .inl u
theorem ev_strB (i:Nat) (h:Sat w As) {sT dT o dl dc:Nat} (l:List UInt8) (hi:As[i]? =some (Jk v m 1 xs)) (k:v= .slice (some ⟨b,o,none⟩) m' cap) (n:look L x=some (.slice (some ⟨b,off,none⟩) dl dc)) (p:P.underlying sT=some (.slice e)) (r:P.underlying e=some (.int .u8)) (hd:P.underlying dT=some .string) (s:(xs.drop off).take dl=Zw l) (t:l.length=dl):Ev P L w ⟨some d,.convert sT dT x,ty,pos,aft,none⟩ (strV l):= λρ u=>by
  obtain⟨sp,y,_⟩:=h.own_row i hi k;subst t
  have z:=run_convert_bytes_back (P:=P) w sT dT e ⟨b,off,none⟩ dc l p r hd (λj c=>by
    rw[Wx];refine y.cell ?_;have a:=congrArg (λq=>q[j]?) s;simp only[List.getElem?_take,c,if_true,List.getElem?_drop,TR]at a
    have f:off+j<xs.length:=by
      rcases Nat.lt_or_ge (off+j) xs.length with g | g
      · exact g
      · rw[List.getElem?_eq_none g,XQ c]at a;cases a
    rw[List.getElem?_append_left f,a,XQ c];rfl)
  simp [execOp,u _ _ n,z]
theorem ZB {f:Nat} {cap:List Operand} (b:Jg L cap=some vs) (hd:Nat.blt d n=true) (c:wl P n ops Q rest ((d,.func (.func f) #[] vs.toArray)::L) w):wl P n ops Q (⟨some d,.makeFunc (.func f) #[] cap.toArray,ty,pos,aft,none⟩::rest) L w:=by
  refine XI U hd (R:= λv w'=>v= .func (.func f) #[] vs.toArray/\w'=w) (λa e=>⟨_,_,.inl ?_,rfl,rfl⟩) ?_
  · have g:=e.evals b;simp [execOp,Instr.makeFunc,g]
  · rintro v w' ⟨rfl,rfl⟩;exact c
def XZ (P:Program) (t:Nat) (idx:List Nat):Option (List (Nat×Nat)):= match P.underlying t with
  | some (.struct fs)=>idx.mapM λi=> match fs[i]? with
    | some f=>(ZQ P f.type).map λn=>(f.offset,n)
    | none=>none
  | _=>none
def JF (P:Program) (t:Nat):Bool:= match P.underlying t with
  | some (.struct fs)=>fs.toList.all λf=>(ZQ P f.type).isSome
  | _=>false
def Jz (z:List Value):List (Nat×Nat)->List Value->List Value
  | p::ps,v::vs=>Jz (X6 z p.1 v.cells.toList) ps vs
  | _,_=>z
def Ym (m:Nat):List (Nat×Nat)->List Value->Bool
  | p::ps,v::vs=>Nat.beq v.cells.size p.2&&Nat.ble (p.1+p.2) m&&Ym m ps vs
  | [],[]=>true
  | _,_=>false
theorem Dn: ∀(vs:List Value) (k off:Nat) (cs:Array Value),off+k+vs.length<=cs.size->((vs.zipIdx k).foldl (λcs (c,j)=>cs.setIfInBounds (off+j) c) cs).toList=X6 cs.toList (off+k) vs
  | [],k,off,cs,_=>by simp [X6]
  | v::vs,k,off,cs,h=>by
    simp only[List.zipIdx_cons,List.foldl_cons];rw[Dn vs (k+1) off _ (by simp at h⊢;omega)];simp only[Array.toList_setIfInBounds];have e:=list_seg_step cs.toList (off+k) v vs (by simp at h⊢;omega);unfold X6;rw[<-Nat.add_assoc]
    simpa using e
theorem Vv (place:Nat->Option (Nat×Nat)): ∀(idx:List Nat) (pls:List (Nat×Nat)) (vs:List Value) (cells:Array Value),idx.map place=pls.map some->Ym cells.size pls vs=true->Instr.fill place cells (idx.zip vs)=some (Jz cells.toList pls vs).toArray
  | [],[],[],cells,_,_=>by simp [Instr.fill,Jz]
  | [],[],_::_,_,_,h=>by simp [Ym]at h
  | [],_::_,_,_,h,_=>by simp at h
  | _::_,[],_,_,h,_=>by simp at h
  | i::idx,p::pls,[],cells,_,h=>by simp [Ym]at h
  | i::idx,p::pls,v::vs,cells,d,h=>by
    simp only[List.map_cons,List.cons.injEq]at d;simp only[Ym,Bool.and_eq_true]at h;obtain⟨⟨a,e⟩,f⟩:=h;have a:=Nat.eq_of_beq_eq_true a;have e:=Xk e;have g:=Dn v.cells.toList 0 p.1 cells (by simp [a];omega)
    have b:(v.cells.zipIdx.foldl (λcs (c,j)=>cs.setIfInBounds (p.1+j) c) cells).toList=X6 cells.toList p.1 v.cells.toList:=by
      rw[<-Array.foldl_toList,Array.toList_zipIdx]
      simpa using g
    have k:(v.cells.zipIdx.foldl (λcs (c,j)=>cs.setIfInBounds (p.1+j) c) cells).size=cells.size:=by
      have :=congrArg List.length b;rw[J2 (by simp [a];omega)]at this
      simpa using this
    simp only[List.zip_cons_cons,Instr.fill,d.1];rw[if_neg (by simp [a];omega),Vv place idx pls vs _ d.2 (by rw[k];exact f),b];rfl
theorem Cg (O:Sat w As) {len:Nat} (K:Jg L (parts.map (·.2))=some vs) (M:P.underlying t=some (.slice e)) (hi:(P.info? e).map (λi=>(i.zero,i.size))=some (some z,size)) (m:Nat.ble (len*size) 1000=true) (o:z.cells.size=size)
    (f:Ym (len*size) ((parts.map (·.1)).map λi=>(i*size,size)) vs=true) (hd:Nat.blt d n=true)
    (D: ∀b w',Sat w' (Jk (.slice (some ⟨b,0,none⟩) len len) len size (Jz (List.replicate len z.cells.toList).flatten ((parts.map (·.1)).map λi=>(i*size,size)) vs)::As)->wl P n ops Q rest ((d,.slice (some ⟨b,0,none⟩) len len)::L) w'):wl P n ops Q (⟨some d,.buildSlice t len parts.toArray,ty,pos,aft,none⟩::rest) L w:=by
  obtain⟨ii,q,g⟩:=Option.map_eq_some_iff.1 hi;simp only[Prod.mk.injEq]at g;have S:len*size<=1000:=Xk m
  have F:((Array.range (len*size)).map (z.cells[· %z.cells.size]!)).toList=(List.replicate len z.cells.toList).flatten:=by
    rw[<-o];exact Yf z.cells len
  have r:((Array.range (len*size)).map (z.cells[· %z.cells.size]!)).size=len*size:=by simp
  have l:=Vv (λi=>some (i*size,size)) (parts.map (·.1)) ((parts.map (·.1)).map λi=>(i*size,size)) vs ((Array.range (len*size)).map (z.cells[· %z.cells.size]!)) (by simp [Function.comp_def]) (by rw[r];exact f);rw[F]at l;generalize s:Jz (List.replicate len z.cells.toList).flatten ((parts.map (·.1)).map λi=>(i*size,size)) vs=cells at l D
  have u:cells.length=len*size:=by
    have y: ∀(pls:List (Nat×Nat)) (vs:List Value) (zz:List Value),Ym zz.length pls vs=true->(Jz zz pls vs).length=zz.length:=by
      intro pls
      induction pls with
      | nil=> intro vs zz _;cases vs<;>rfl
      | cons p pls ih=>
        intro vs zz h;cases vs with
        | nil=>rfl
        | cons v vs=>
          simp only[Ym,Bool.and_eq_true]at h;have T:=Nat.eq_of_beq_eq_true h.1.1;have W:=Xk h.1.2;have N:(X6 zz p.1 v.cells.toList).length=zz.length:=J2 (by simp [T];omega);simp only[Jz];rw[ih vs _ (by rw[N];exact h.2),N]
    have c:(List.replicate len z.cells.toList).flatten.length=len*size:=by simp [o]
    rw[<-s,y _ _ _ (by rw[c];exact f),c]
  refine XI U hd (R:= λv w'=>v= .slice (some ⟨w.heap.size,0,none⟩) len len/\w'=w.alloc (.cells cells.toArray e)) (λa V=>⟨_,_,.inl ?_,rfl,rfl⟩) ?_
  · have G:(zeroValue e).run P w= .ok z w:=by simp [zeroValue,typeInfo,q,g.1]
    have B:(sizeOf e).run P w= .ok size w:=by simp [sizeOf,typeInfo,q,g.2]
    have C:=V.evals K
    have E:(parts.toArray.map λ(i,x)=>(i,a.eval x)).toList=(parts.map (·.1)).zip vs:=by
      rw[<-C];simp;clear C K l s f
      induction parts with
      | nil=>rfl
      | cons p ps ih=> simp [ih]
    have H: ¬(2^24<len*size):=by omega
    by_cases j:len*size=0
    · have I:Instr.fill (λi=>some (i*size,size)) #[] ((parts.map (·.1)).zip vs)=some cells.toArray:=by
        rw[j,show Array.range 0= #[] from rfl]at l;simpa using l
      simp only[execOp,Instr.buildSlice];have J:Array.range 0= #[]:=rfl;simp [run_underlying M,B,j,newRow,J];simp at E;rw[E,I];simp
    · simp only[execOp,Instr.buildSlice];simp [run_underlying M,B,j,H,G,newRow];simp at E;rw[E,l];simp
  · rintro v w' ⟨rfl,rfl⟩;exact D _ _ (O.new ((Only.refl _ _).alloc _) (F':= λk=>k∈[w.heap.size]) (A:=Jk _ _ _ _) ⟨[w.heap.size],rfl,Vn (sp:=[]) (by simpa using Blk.new w cells e) (by simpa using u) (Nat.le_refl _) (by simpa using u)⟩ (λk D=>by simp at D;omega))
theorem Wy {z:List Value} (x:Jg L (parts.map (·.2))=some vs) (c:XZ P t (parts.map (·.1))=some pls) (o:JF P t=true) (y:XE P t=some (some (.agg z.toArray))) (n:Ym z.length pls vs=true):Ev P L w ⟨some d,.build t parts.toArray,ty,pos,aft,none⟩ (.agg (Jz z pls vs).toArray):=by
  refine qei x λw=> ?_;unfold XZ at c;unfold JF at o;split at c
  · rename_i fs A;rw[A]at o;simp only at o
    have B: ∀(l:List Field),(∀f∈l,(ZQ P f.type).isSome=true)-> ∃ps:List (Nat×Nat),ps=l.map (λf=>(f.offset,(ZQ P f.type).getD 0))/\(l.mapM (m:=Sem) λf=>Prod.mk f.offset<$>sizeOf f.type).run P w= .ok ps w:=by
      intro l
      induction l with
      | nil=> intro _;exact⟨[],rfl,by simp⟩
      | cons f l ih=>
        intro h;obtain⟨ps,C,D⟩:=ih (λg E=>h g (by simp [E]));obtain⟨q,r⟩:=Option.isSome_iff_exists.1 (h f (by simp));refine⟨(f.offset,q)::ps,by simp [C,r], ?_⟩;simp [List.mapM_cons,Zp r,D]
    obtain⟨ps,s,j⟩:=B fs.toList (λf F=>List.all_eq_true.1 o f F)
    have a:(fs.mapM (m:=Sem) λf=>Prod.mk f.offset<$>sizeOf f.type).run P w= .ok ps.toArray w:=by
      rw[Array.mapM_eq_mapM_toList];simp [j]
    have u:(parts.map (·.1)).map (λi=>ps.toArray[i]?)=pls.map some:=by
      clear n x y j a;generalize parts.map (·.1)=idx at c
      induction idx generalizing pls with
      | nil=> simp at c;subst c;rfl
      | cons i idx ih=>
        rw[List.mapM_cons]at c;simp only[Option.bind_eq_bind,Option.bind_eq_some_iff,Option.pure_def,Option.some.injEq]at c;obtain⟨p,k,qs,v,rfl⟩:=c;simp only[List.map_cons,ih v,List.cons.injEq,and_true];cases e:fs[i]? with
        | none=> simp [e]at k
        | some f=>
          simp only[e,Option.map_eq_some_iff]at k;obtain⟨q,r,rfl⟩:=k;rw[s];have :fs.toList[i]? =some f:=by simpa using e
          simp [e,r]
    have b:=Vv (λi=>ps.toArray[i]?) (parts.map (·.1)) pls vs z.toArray u (by simpa using n);simp only[List.getElem?_toArray]at b;simp [Instr.build,Jq y,Value.cells,run_underlying A,a];rw[b];rfl
  · cases c
theorem Zj {z:List Value} (b:Jg L (parts.map (·.2))=some vs) (c:XZ P t (parts.map (·.1))=some pls) (e:JF P t=true) (f:XE P t=some (some (.agg z.toArray))) (a:Ym z.length pls vs=true) (hd:Nat.blt d n=true) (g:wl P n ops Q rest ((d,.agg (Jz z pls vs).toArray)::L) w):wl P n ops Q (⟨some d,.build t parts.toArray,ty,pos,aft,none⟩::rest) L w:=
  Xp hd (Wy b c e f a) g
end
