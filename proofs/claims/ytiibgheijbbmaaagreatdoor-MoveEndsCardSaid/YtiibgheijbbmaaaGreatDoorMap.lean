/- Maps: what lies in a map's block, and laws for the operations on maps. Keys: of one kind ('KeyOk'): integers, or structs of two integers. -/
import Derived.Test.YtiibgheijbbmaaaGreatDoorMem
import Derived.MapKept
import Derived.Laws.IdiomRangeMap
import Derived.Maps.RangeRun
import Derived.Test.YtiibgheijbbmaaaGreatDoorWk
import Derived.Test.YtiibgheijbbmaaaGreatDoorDr
namespace Go.Proofs.YtiibgheijbbmaaaGreatDoor.M
open Go.RowKit
structure KeyOk {κ:Type} (P:Program) (kt:TypeId) (kv:κ→Value):Prop where
  inj: ∀a b,kv a=kv b→a=b
  bits: ∀a,Instr.sameBits 10000 (kv a) (kv a)=true
  check: ∀(e:Bool) (a:κ) (w:World),(Instr.checkKey e 10000 kt (kv a)).run P w= .ok () w
  find: ∀(a:κ) (l:List MapEntry) (w:World),(∀x∈l,∃b,x.key=kv b)→
    (∃i x,l[i]? =some x∧x.key=kv a∧(Instr.findKey kt (kv a) l).run P w= .ok (some (i,x.val)) w)∨((∀x∈l,x.key≠kv a)∧(Instr.findKey kt (kv a) l).run P w= .ok none w)
def Za (a:Int):Value:= .int .i64 a
def Wq (p:Int×Int):Value:= .agg #[.int .i64 p.1,.int .i64 p.2]
theorem Ac {P:Program} {kt:TypeId} (hu:P.underlying kt=some (.int .i64)):KeyOk P kt Za where
  inj:= by intro a b h;simpa [Za]using h
  bits:= fun a=>MapKept.sameBits_self (d:= .int .i64) (by simp [MapKept.IsKey,Za]) _
  check:= fun e a w=>MapKept.run_checkKey hu (by simp [MapKept.IsKey,Za]) e 9999
  find:= fun a l w h=> by
    rcases MapKept.findNow_spec (d:= .int .i64) (k:=Za a) (by simp [MapKept.IsKey,Za]) l 0 (fun x hx=> by obtain⟨b,hb⟩:=h x hx; rw[hb]; simp [MapKept.IsKey,Za])with⟨h1,h2⟩ | ⟨j,e,h1,h2,h3⟩
    · exact .inr ⟨h2,MapKept.run_findKey hu h1⟩
    · refine .inl ⟨j,e,h2,h3, ?_⟩
      rw[Nat.zero_add]at h1
      exact MapKept.run_findKey hu h1
theorem TC {P:Program} {t:TypeId} {k:IntKind} (hu:P.underlying t=some (.int k)) (cs:Array Value) (off:Nat) (v:Value) (hv:cs[off]? =some v) (w:World):(part t cs off).run P w= .ok v w:= by
  simp [part,isAgg,run_underlying hu,hv]
theorem run_equalIn_int {P:Program} {t:TypeId} {k:IntKind} (hu:P.underlying t=some (.int k)) (n:Nat) (a b:Int) (w:World):(Op.equalIn (n+1) t (.int k a) (.int k b)).run P w= .ok (a==b) w:= by
  unfold Op.equalIn
  simp only[Sem.run_bind,run_underlying hu,Result.andThen]
  simp
theorem Fo {P:Program} {kt t:TypeId} {f0 f1:Field} (hu:P.underlying kt=some (.struct #[f0,f1])) (hs:P.stoodInHeld kt=false) (ht:P.underlying t=some (.int .i64))
    (h0 : f0.type = t) (h1 : f1.type = t) (o0 : f0.offset = 0) (o1 : f1.offset = 1) (n0 : f0.name ≠ "_") (n1 : f1.name ≠ "_") : KeyOk P kt Wq where
  inj:= by rintro⟨a,b⟩ ⟨c,d⟩ h;simpa [Wq]using h
  bits:= fun a=> by simp [Wq,Instr.sameBits]
  check:= fun e a w=> by
    unfold Instr.checkKey
    simp only[Sem.run_bind,run_underlying hu,Result.andThen,Wq]
    have c: ∀x:Int,(Instr.checkKey e 9999 t (.int .i64 x)).run P w= .ok () w:= fun x=>MapKept.run_checkKey ht (by simp [MapKept.IsKey]) e 9998
    simp [n0,n1,h0,h1,o0,o1,TC ht,c]
  find:= fun a l w h=> by
    have eq: ∀b:Int×Int,(Op.equal kt (Wq a) (Wq b)).run P w= .ok (decide (a=b)) w:= by
      intro b
      have c: ∀x y:Int,(Op.equalIn 9999 t (.int .i64 x) (.int .i64 y)).run P w= .ok (x==y) w:= fun x y=>run_equalIn_int ht 9998 x y w
      unfold Op.equal Op.maxDepth Op.equalIn
      simp only[Sem.run_bind,run_underlying hu,Result.andThen,Wq]
      obtain⟨a1,a2⟩:=a
      obtain⟨b1,b2⟩:=b
      by_cases e1:a1=b1<;>by_cases e2:a2=b2<;> simp [hs,n0,n1,h0,h1,o0,o1,TC ht,c,e1,e2]
    have ask: ∀(l:List MapEntry) (i:Nat),(∀x∈l,∃b,x.key=Wq b)→
        (∃j x,l[j]? =some x∧x.key=Wq a∧(Instr.findAsking kt (Wq a) l i).run P w= .ok (some (i+j,x.val)) w)∨((∀x∈l,x.key≠Wq a)∧(Instr.findAsking kt (Wq a) l i).run P w= .ok none w):= by
      intro l
      induction l with
      | nil=> intro i _; exact .inr ⟨by simp, by simp [Instr.findAsking]⟩
      | cons e es ih=>
        intro i hl
        obtain⟨b,hb⟩:=hl e (by simp)
        by_cases hab:a=b
        · refine .inl ⟨0,e,rfl, by rw[hb,hab], ?_⟩
          subst hab
          simp [Instr.findAsking,hb,eq]
        · have hne:e.key≠Wq a:= by
            rw[hb]; intro q; apply hab
            obtain⟨a1,a2⟩:=a
            obtain⟨b1,b2⟩:=b
            simp [Wq]at q⊢; exact⟨q.1.symm,q.2.symm⟩
          rcases ih (i+1) (fun x hx=>hl x (by simp [hx]))with⟨j,x,h1,h2,h3⟩ | ⟨h1,h2⟩
          · refine .inl ⟨j+1,x, by simpa using h1,h2, ?_⟩
            simp [Instr.findAsking,hb,eq,hab,h3];omega
          · refine .inr ⟨fun x hx=> ?_, ?_⟩
            · rcases List.mem_cons.1 hx with rfl | hx
              · exact hne
              · exact h1 x hx
            · simp [Instr.findAsking,hb,eq,hab,h2]
    cases l with
    | nil=> exact .inr ⟨by simp, by simp [Instr.findKey,run_underlying hu,Instr.findNow]⟩
    | cons e es=>
      obtain⟨b,hb⟩:=h e (by simp)
      have hn:Instr.findNow (.struct #[f0,f1]) (Wq a) (e::es) 0=none:= by simp [Instr.findNow,Instr.sameNow]
      have hk: ∀r,(Instr.findAsking kt (Wq a) (e::es) 0).run P w= .ok r w→(Instr.findKey kt (Wq a) (e::es)).run P w= .ok r w:= by
        intro r hr
        simp only[Instr.findKey,Sem.run_bind,run_underlying hu,Result.andThen,hn,hr]
      rcases ask (e::es) 0 h with⟨j,x,h1,h2,h3⟩ | ⟨h1,h2⟩
      · rw[Nat.zero_add]at h3
        exact .inl ⟨j,x,h1,h2,hk _ h3⟩
      · exact .inr ⟨h1,hk _ h2⟩
structure MapAt {κ:Type} (kv:κ→Value) (w:World) (b:Nat) (es:Array MapEntry) (clock:Nat):Prop where
  blk:w.heap[b]? =some (.map es clock)
  stamped:MapKept.Stamped es clock
  keys: ∀x∈es.toList,∃a,x.key=kv a
section
variable {κ:Type} {kv:κ→Value} {w:World} {b:Nat} {es:Array MapEntry} {clock:Nat}
theorem MapAt.lt (h:MapAt kv w b es clock):b<w.heap.size:= by
  rcases Nat.lt_or_ge b w.heap.size with g | g
  · exact g
  · have :=h.blk; simp [Array.getElem?_eq_none g]at this
theorem MapAt.congr {w':World} (h:MapAt kv w b es clock) (e:w'.heap[b]? =w.heap[b]?):MapAt kv w' b es clock:=⟨by rw[e]; exact h.blk,h.stamped,h.keys⟩
theorem Only.setObj (w:World) (b:Nat) (o:Obj):Only [b] w {w with heap:=w.heap.setIfInBounds b o}:=
  ⟨rfl,rfl,rfl, by simp, fun k hk hn=> by
    have :b≠k:= by intro q; subst q; simp at hn
    simp [Array.getElem?_setIfInBounds,this]⟩
theorem Ni {P:Program} {o:Oper} {a:Act} (kv:κ→Value) (t:TypeId) (ho:o.op= .makeMap t none):
    does P o a w (fun v w'=>v= .map (some w.heap.size)∧MapAt kv w' w.heap.size #[] 0∧w'=w.alloc (.map #[] 0)):= by
  refine⟨_,_,.inl ?_,rfl,⟨(MapKept.heap_alloc w _).1,MapKept.stamped_empty _, by simp⟩,rfl⟩
  simp [execOp,ho,Instr.makeMap]
theorem Sp {P:Program} {o:Oper} {a:Act} (mt:TypeId) (x y:Operand) (ho:o.op= .lookup mt x y false) {kt et:TypeId} (K:KeyOk P kt kv) (hm:P.underlying mt=some (.map kt et)) (h:MapAt kv w b es clock)
    (hx:a.eval x= .map (some b)) {k:κ} (hy:a.eval y=kv k) {z:Value} (hz:(zeroValue et).run P w= .ok z w):
    does P o a w (fun v w'=>((∃e∈es.toList,e.key=kv k∧v=e.val)∨((∀e∈es.toList,e.key≠kv k)∧v=z))∧w=w'):= by
  rcases K.find k es.toList w h.keys with⟨i,e,h1,h2,h3⟩ | ⟨h1,h2⟩
  · refine⟨e.val,w,.inl ?_,.inl ⟨e,List.mem_of_getElem? h1,h2,Qa⟩,Qa⟩
    simp [execOp,ho,hx,hy,Instr.lookup,run_underlying hm,MapKept.run_getObj_map h.blk,K.check,h3]
  · refine⟨z,w,.inl ?_,.inr ⟨h1,Qa⟩,Qa⟩
    simp [execOp,ho,hx,hy,Instr.lookup,run_underlying hm,MapKept.run_getObj_map h.blk,K.check,h2,hz]
def isPut (kv:κ→Value) (es es':Array MapEntry) (clock clock':Nat) (k:κ) (v:Value):Prop:=
  (clock'=clock∧ ∃i e,es[i]? =some e∧e.key=kv k∧es'=es.modify i (fun e=>{e with key:=kv k,val:=v}))∨
  (clock'=clock+1∧(∀e∈es.toList,e.key≠kv k)∧es'=es.push {key:=kv k,val:=v,born:=clock})
theorem TN {α β:Type} (f:α→β) {l:List α} (h:(l.map f).Nodup) {i j:Nat} {x y:α} (hi:l[i]? =some x) (hj:l[j]? =some y) (e:f x=f y):i=j:= by
  have hp:=List.pairwise_iff_getElem.1 h
  obtain⟨hi',ex⟩:=Jo hi
  obtain⟨hj',ey⟩:=Jo hj
  rcases Nat.lt_trichotomy i j with g | g | g
  · exact(hp i j (by simpa using hi') (by simpa using hj') g (by simp [ex,ey,e])).elim
  · exact g
  · exact(hp j i (by simpa using hj') (by simpa using hi') g (by simp [ex,ey,e])).elim
theorem CJ {l:List MapEntry} (h:(l.map (·.key)).Nodup) {i j:Nat} {x y:MapEntry} (hi:l[i]? =some x) (hj:l[j]? =some y) (e:x.key=y.key):i=j:=TN _ h hi hj e
theorem qap {l:List MapEntry} (h:(l.map (·.born)).Nodup) {i j:Nat} {x y:MapEntry} (hi:l[i]? =some x) (hj:l[j]? =some y) (e:x.born=y.born):i=j:=TN _ h hi hj e
theorem key_one {l:List MapEntry} (h:(l.map (·.key)).Nodup) {x y:MapEntry} (hx:x∈l) (hy:y∈l) (e:x.key=y.key):x=y:= by
  obtain⟨i,hi⟩:=List.mem_iff_getElem?.1 hx
  obtain⟨j,hj⟩:=List.mem_iff_getElem?.1 hy
  have :=CJ h hi hj e
  subst this; rw[hi]at hj; exact Option.some.inj hj
theorem isPut.stamped {es':Array MapEntry} {clock':Nat} {k:κ} {v:Value} (h:isPut kv es es' clock clock' k v) (hs:MapKept.Stamped es clock):MapKept.Stamped es' clock':= by
  rcases h with⟨rfl,i,e,h1,h2,rfl⟩ | ⟨rfl,h1,rfl⟩
  · exact MapKept.stamped_modify hs i _ (fun _ _=>rfl) (fun x _ hx=> by rw[h1]at hx; cases hx; exact h2.symm)
  · exact MapKept.stamped_push hs h1
theorem isPut.mem {es':Array MapEntry} {clock':Nat} {k:κ} {v:Value} (h:isPut kv es es' clock clock' k v) (hs:MapKept.Stamped es clock):
    (∀x∈es'.toList,(x.key=kv k∧x.val=v)∨(x.key≠kv k∧x∈es.toList))∧(∀x∈es.toList,x.key≠kv k→x∈es'.toList)∧ ∃x∈es'.toList,x.key=kv k∧x.val=v:= by
  rcases h with⟨rfl,i,e,h1,h2,rfl⟩ | ⟨rfl,h1,rfl⟩
  · have hil:es.toList[i]? =some e:= by simpa using h1
    refine⟨fun x hx=> ?_, fun x hx hk=> ?_, ?_⟩
    · obtain⟨j,hj⟩:=List.mem_iff_getElem?.1 hx
      rw[Array.getElem?_toList,Array.getElem?_modify]at hj
      by_cases hij:i=j
      · subst hij
        rw[if_pos Qa,h1]at hj
        simp at hj; subst hj
        exact .inl ⟨Qa,Qa⟩
      · rw[if_neg hij]at hj
        have hj':es.toList[j]? =some x:= by simpa using hj
        exact .inr ⟨fun q=>hij (CJ hs.2.2 hil hj' (by rw[h2,q])),List.mem_of_getElem? hj'⟩
    · obtain⟨j,hj⟩:=List.mem_iff_getElem?.1 hx
      have hij:i≠j:= by intro q; subst q; rw[hil]at hj; cases hj; exact hk h2
      refine List.mem_of_getElem? (i:=j) ?_
      rw[Array.getElem?_toList,Array.getElem?_modify,if_neg hij];simpa using hj
    · refine⟨{e with key:=kv k,val:=v},List.mem_of_getElem? (i:=i) ?_,Qa,Qa⟩
      rw[Array.getElem?_toList,Array.getElem?_modify,if_pos Qa,h1];rfl
  · refine⟨fun x hx=> ?_, fun x hx _=> by simp at hx⊢; exact .inl hx,⟨_, by simp; exact .inr Qa,rfl,rfl⟩⟩
    simp at hx
    rcases hx with hx | rfl
    · exact .inr ⟨h1 x (by simpa using hx), by simpa using hx⟩
    · exact .inl ⟨Qa,Qa⟩
theorem MapAt.put {es':Array MapEntry} {clock':Nat} {k:κ} {v:Value} (h:MapAt kv w b es clock) (hp:isPut kv es es' clock clock' k v):MapAt kv {w with heap:=w.heap.setIfInBounds b (.map es' clock')} b es' clock':=
  ⟨(MapKept.heap_set h.blk).1,hp.stamped h.stamped, fun x hx=> by
    rcases(hp.mem h.stamped).1 x hx with⟨h1,_⟩ | ⟨_,h1⟩
    · exact⟨k,h1⟩
    · exact h.keys x h1⟩
theorem KA {P:Program} {o:Oper} {a:Act} (mt:TypeId) (x y z:Operand) (ho:o.op= .mapUpdate mt x y z) {kt et:TypeId} (K:KeyOk P kt kv) (hm:P.underlying mt=some (.map kt et)) (h:MapAt kv w b es clock)
    (hx:a.eval x= .map (some b)) {k:κ} (hy:a.eval y=kv k) {v:Value} (hz:a.eval z=v):
    does P o a w (fun u w'=>u=undef∧ ∃es' clock',isPut kv es es' clock clock' k v∧MapAt kv w' b es' clock'∧Only [b] w w'∧w'.heap.size=w.heap.size):= by
  rcases K.find k es.toList w h.keys with⟨i,e,h1,h2,h3⟩ | ⟨h1,h2⟩
  · have hp:isPut kv es (es.modify i (fun e=>{e with key:=kv k,val:=v})) clock clock k v:= .inl ⟨rfl,i,e, by simpa using h1,h2,rfl⟩
    refine⟨undef,_,.inr ⟨?_,rfl⟩,rfl,_,_,hp,h.put hp,Only.setObj _ _ _, by simp⟩
    have h1':es[i]? =some e:= by simpa using h1
    simp [execOp,ho,hx,hy,hz,Instr.mapUpdate,run_underlying hm,MapKept.run_getObj_map h.blk,MapKept.run_setObj_map _ h.blk,K.check,h3,h1',h2,Instr.keyThatStays,K.bits]
  · have hp:isPut kv es (es.push {key:=kv k,val:=v,born:=clock}) clock (clock+1) k v:= .inr ⟨rfl,h1,rfl⟩
    refine⟨undef,_,.inr ⟨?_,rfl⟩,rfl,_,_,hp,h.put hp,Only.setObj _ _ _, by simp⟩
    simp [execOp,ho,hx,hy,hz,Instr.mapUpdate,run_underlying hm,MapKept.run_getObj_map h.blk,MapKept.run_setObj_map _ h.blk,K.check,h2]
theorem GD {P:Program} {o:Oper} {a:Act} (mt:TypeId) (x y:Operand) (ho:o.op= .mapEntry mt x y) {kt et:TypeId} (K:KeyOk P kt kv) (hm:P.underlying mt=some (.map kt et)) (h:MapAt kv w b es clock)
    (hx:a.eval x= .map (some b)) {k:κ} (hy:a.eval y=kv k) (hn: ∀e∈es.toList,e.key≠kv k) {z:Value} (hz:(zeroValue et).run P w= .ok z w):
    does P o a w (fun u w'=>u= .tuple #[z,.int .i64 (clock:Int)]∧MapAt kv w' b (es.push {key:=kv k,val:=z,born:=clock}) (clock+1)∧Only [b] w w'∧w'.heap.size=w.heap.size):= by
  rcases K.find k es.toList w h.keys with⟨i,e,h1,h2,h3⟩ | ⟨h1,h2⟩
  · exact absurd h2 (hn e (List.mem_of_getElem? h1))
  · have hp:isPut kv es (es.push {key:=kv k,val:=z,born:=clock}) clock (clock+1) k z:= .inr ⟨rfl,h1,rfl⟩
    refine⟨_,_,.inl ?_,rfl,h.put hp,Only.setObj _ _ _, by simp⟩
    simp [execOp,ho,hx,hy,Instr.mapEntry,run_underlying hm,MapKept.run_getObj_map h.blk,MapKept.run_setObj_map _ h.blk,K.check,h2,hz,goInt]
theorem Dg {P:Program} {o:Oper} {a:Act} (mt:TypeId) (x y z:Operand) (ho:o.op= .entryStore mt x y z) {k:κ} {u v:Value} (h:MapAt kv w b (es.push {key:=kv k,val:=u,born:=clock}) (clock+1))
    (hx:a.eval x= .map (some b)) (hy:a.eval y= .int .i64 (clock:Int)) (hz:a.eval z=v) (hs:MapKept.Stamped es clock):
    does P o a w (fun t w'=>t=undef∧MapAt kv w' b (es.push {key:=kv k,val:=v,born:=clock}) (clock+1)∧Only [b] w w'∧w'.heap.size=w.heap.size):= by
  have hf:(es.push {key:=kv k,val:=u,born:=clock}).findIdx? (fun e=>((e.born:Nat):Int)==(clock:Int))=some es.size:= by
    rw[Array.findIdx?_eq_some_iff_getElem]
    refine⟨by simp, by simp, fun j hj=> ?_⟩
    have hj':j<es.size:=hj
    have :=hs.1 es[j] (by simp)
    simp [Array.getElem_push_lt hj'];omega
  have he:(es.push {key:=kv k,val:=u,born:=clock}).modify es.size (fun e=>{e with val:=v})=es.push {key:=kv k,val:=v,born:=clock}:= by
    apply Array.ext_getElem?
    intro j
    rw[Array.getElem?_modify]
    by_cases hj:es.size=j
    · subst hj; simp
    · simp [hj,Array.getElem?_push,Ne.symm hj]
  refine⟨undef,_,.inr ⟨?_,rfl⟩,rfl,⟨(MapKept.heap_set h.blk).1, ?_, ?_⟩,Only.setObj _ _ _, by simp⟩
  · simp [execOp,ho,hx,hy,hz,Instr.entryStore,MapKept.run_getObj_map h.blk,MapKept.run_setObj_map _ h.blk,asInt,asIntOf,hf,he]
  · have :=MapKept.stamped_modify h.stamped es.size (fun e=>{e with val:=v}) (fun _ _=>rfl) (fun _ _ _=>rfl)
    rwa [he]at this
  · intro e hx
    simp at hx
    rcases hx with hx | rfl
    · exact h.keys e (by simp; exact .inl hx)
    · exact⟨k,Qa⟩
theorem BY {P:Program} {o:Oper} {a:Act} (mt t2:TypeId) (x y:Operand) (ho:o.op= .call {callee:= .builtin .delete,args:= #[x,y],argTypes:= #[mt,t2]}) {kt et:TypeId} (K:KeyOk P kt kv) (hm:P.underlying mt=some (.map kt et)) (h:MapAt kv w b es clock)
    (hx:a.eval x= .map (some b)) {k:κ} (hy:a.eval y=kv k):
    does P o a w (fun u w'=>u= .tuple #[]∧ ∃es',(∀e,e∈es'.toList↔e∈es.toList∧e.key≠kv k)∧MapAt kv w' b es' clock∧Only [b] w w'∧w'.heap.size=w.heap.size):= by
  rcases K.find k es.toList w h.keys with⟨i,e,h1,h2,h3⟩ | ⟨h1,h2⟩
  · have hl:(es.eraseIdxIfInBounds i).toList=es.toList.eraseIdx i:= by
      unfold Array.eraseIdxIfInBounds
      split
      · simp only[Array.toList_eraseIdx]
      · rename_i hn; rw[List.eraseIdx_of_length_le (by simpa using hn)]
    have hm': ∀x,x∈(es.eraseIdxIfInBounds i).toList↔x∈es.toList∧x.key≠kv k:= by
      intro x
      rw[hl,List.mem_eraseIdx_iff_getElem?]
      constructor
      · rintro⟨j,hj,hx⟩
        exact⟨List.mem_of_getElem? hx, fun q=>hj (CJ h.stamped.2.2 hx h1 (by rw[h2,q]))⟩
      · rintro⟨hx,hk⟩
        obtain⟨j,hj⟩:=List.mem_iff_getElem?.1 hx
        exact⟨j, fun q=> by subst q; rw[hj]at h1; cases h1; exact hk h2,hj⟩
    refine⟨_,_,.inl ?_,rfl,_,hm',⟨(MapKept.heap_set h.blk).1,MapKept.stamped_erase h.stamped i, fun x hx=>h.keys x ((hm' x).1 hx).1⟩,Only.setObj _ _ _, by simp⟩
    simp [execOp,ho,hx,hy,resolve,invoke,builtin,Builtin.delete_,run_underlying hm,MapKept.run_getObj_map h.blk,MapKept.run_setObj_map _ h.blk,K.check,h3]
  · refine⟨_,_,.inl ?_,rfl,es, fun x=>⟨fun hx=>⟨hx,h1 x hx⟩, fun hx=>hx.1⟩,⟨(MapKept.heap_set h.blk).1,h.stamped,h.keys⟩,Only.setObj _ _ _, by simp⟩
    simp [execOp,ho,hx,hy,resolve,invoke,builtin,Builtin.delete_,run_underlying hm,MapKept.run_getObj_map h.blk,MapKept.run_setObj_map _ h.blk,K.check,h2]
def IterAt (w:World) (r b since:Nat) (seen:Array Nat) (c0:Nat):Prop:=w.heap[r]? =some (.mapIter (some b) since seen c0)
theorem IterAt.lt {r since c0:Nat} {seen:Array Nat} (h:IterAt w r b since seen c0):r<w.heap.size:= by
  rcases Nat.lt_or_ge r w.heap.size with g | g
  · exact g
  · unfold IterAt at h; simp [Array.getElem?_eq_none g]at h
theorem FA {P:Program} {o:Oper} {a:Act} (mt:TypeId) (x:Operand) (ho:o.op= .range mt x) {kt et:TypeId} (hm:P.underlying mt=some (.map kt et)) (h:MapAt kv w b es clock) (hx:a.eval x= .map (some b)):
    does P o a w (fun v w'=>v= .pointer (some ⟨w.heap.size,0,none⟩)∧IterAt w' w.heap.size b clock #[] clock∧w'=w.alloc (.mapIter (some b) clock #[] clock)):= by
  refine⟨_,_,.inl ?_,Qa,(MapKept.heap_alloc w _).1,Qa⟩
  simp [execOp,ho,hx,run_range_map w mt kt et b es clock hm h.blk]
theorem AA {P:Program} {o:Oper} {a:Act} (x:Operand) (ho:o.op= .next x false) {r:Nat} {seen:Array Nat} (h:MapAt kv w b es clock) (hi:IterAt w r b clock seen clock) (hx:a.eval x= .pointer (some ⟨r,0,none⟩)):
    does P o a w (fun v w'=>(v= .tuple #[.bool false]∧w=w'∧ ∀e∈es.toList,e.born∈seen.toList)∨
      ∃e∈es.toList,e.born∉seen.toList∧v= .tuple #[.bool true,e.key,e.val]∧Only [r] w w'∧IterAt w' r b clock (seen.push e.born) clock∧w'.heap.size=w.heap.size):= by
  rcases run_next_at (P:=P) w o.type r b clock clock seen es clock hi h.blk h.stamped.1 (Nat.le_refl _)with⟨h1,h2⟩ | ⟨e,he,w1,hw1,h2⟩
  · refine⟨_,w,.inl ?_,.inl ⟨rfl,rfl, fun e he=> ?_⟩⟩
    · simp [execOp,ho,hx,h2]
    · have hz:(leftOf es seen).toList=[]:=List.eq_nil_of_length_eq_zero (by simpa using h1)
      apply Classical.byContradiction
      intro hn
      have :e∈(leftOf es seen).toList:= by simp [leftOf]at he hn⊢; exact⟨he,hn⟩
      rw[hz]at this; cases this
  · have he':e∈es.toList∧e.born∉seen.toList:= by simpa [leftOf]using he
    refine⟨.tuple #[.bool true,e.key,e.val],ChangeMaps.setBlock w1 r (.mapIter (some b) clock (seen.push e.born) clock),.inl ?_,.inr ⟨e,he'.1,he'.2,Qa, ?_, ?_, ?_⟩⟩
    · simp [execOp,ho,hx,h2]
    · rcases hw1 with rfl | rfl
      · exact Only.setObj _ _ _
      · exact(Only.refl _ w).drew.trans1 (Only.setObj w.drew r _)
    · have :r<w1.heap.size:= by rcases hw1 with rfl | rfl<;> exact hi.lt
      simp [IterAt,ChangeMaps.setBlock,this]
    · rcases hw1 with rfl | rfl<;> simp [ChangeMaps.setBlock]<;>rfl
theorem FB {P:Program} {o:Oper} {a:Act} (x:Operand) (ho:o.op= .entry x) {r:Nat} {seen:Array Nat} {e:MapEntry} (h:MapAt kv w b es clock) (hi:IterAt w r b clock (seen.push e.born) clock) (he:e∈es.toList) (hx:a.eval x= .pointer (some ⟨r,0,none⟩)):
    does P o a w (fun v w'=>v= .tuple #[e.key,e.val]∧w=w'):= by
  refine⟨_,w,.inl ?_,Qa,Qa⟩
  simp [execOp,ho,hx,run_entry_at (P:=P) w r b clock seen es clock e hi h.blk he h.stamped.2.1]
end
section
variable {κ:Type} {kv:κ→Value}
def Reads (kv:κ→Value) (es:Array MapEntry) (f:κ→Option Value):Prop:= ∀k v,f k=some v↔ ∃e∈es.toList,e.key=kv k∧e.val=v
def XI (kv:κ→Value) (b:Nat) (f:κ→Option Value):Th where
  at_:= fun w F=>(F= fun k=>k=b)∧ ∃es clock,MapAt kv w b es clock∧Reads kv es f
  fr:= fun a ⟨e,es,c,h,r⟩=>⟨e,es,c,h.congr (a.blk _ (by rw[e])),r⟩
  lt:= fun ⟨e,es,c,h,_⟩ k hk=> by rw[e]at hk; subst hk; exact h.lt
open Classical in
noncomputable def upd (f:κ→Option Value) (k:κ) (v:Option Value):κ→Option Value:= fun j=> if j=k then v else f j
theorem HE {f:κ→Option Value} {k:κ} {v:Option Value}:upd f k v k=v:= by simp [upd]
theorem R7 {f:κ→Option Value} {k j:κ} {v:Option Value} (h:j≠k):upd f k v j=f j:= by simp [upd,h]
theorem Sat.map {w:World} {As:List Th} (h:Sat w As) (i:Nat) {b:Nat} {f:κ→Option Value} (hi:As[i]? =some (XI kv b f)): ∃es clock,MapAt kv w b es clock∧Reads kv es f:= by
  obtain⟨F,_,h⟩:=h.get i hi; exact h
theorem Sat.map_set {w w':World} {As:List Th} (h:Sat w As) (i:Nat) {b:Nat} {f f':κ→Option Value} (hi:As[i]? =some (XI kv b f)) {es:Array MapEntry} {clock:Nat} (hm:MapAt kv w' b es clock) (hr:Reads kv es f') (ho:Only [b] w w'):Sat w' (As.set i (XI kv b f')):=
  h.step i hi fun F ⟨e,_⟩=>⟨F,⟨e,es,clock,hm,hr⟩, fun k hk=> .inl hk,ho.agree (fun x hx=> .inl (by simp only[List.mem_singleton]at hx; subst hx; rw[e]))⟩
theorem Reads.put {P:Program} {kt:TypeId} (K:KeyOk P kt kv) {es es':Array MapEntry} {clock clock':Nat} {f:κ→Option Value} (h:Reads kv es f) (hs:MapKept.Stamped es clock) {k:κ} {v:Value} (hp:isPut kv es es' clock clock' k v):Reads kv es' (upd f k (some v)):= by
  intro j u
  obtain⟨m1,m2,m3⟩:=hp.mem hs
  by_cases hj:j=k
  · subst hj
    rw[HE]
    constructor
    · intro e; cases e; exact m3
    · rintro⟨e,he,hk,rfl⟩
      rcases m1 e he with⟨_,h2⟩ | ⟨h2,_⟩
      · rw[h2]
      · exact absurd hk h2
  · rw[R7 hj,h j u]
    constructor
    · rintro⟨e,he,hk,hv⟩
      exact⟨e,m2 e he (fun q=>hj (K.inj _ _ (hk.symm.trans q))),hk,hv⟩
    · rintro⟨e,he,hk,hv⟩
      rcases m1 e he with⟨h2,_⟩ | ⟨_,h2⟩
      · exact absurd (K.inj _ _ (hk.symm.trans h2)) hj
      · exact⟨e,h2,hk,hv⟩
section
variable {P:Program} {n:Nat} {ops:Array Oper} {Q:Exit→Act→World→Prop} {rest:List Oper} {L:Env} {w:World} {d:Nat} {ty:TypeId} {pos:String} {aft:Array Edge}
theorem W6 (kv:κ→Value) {t:Nat} {As:List Th} (hS:Sat w As) (hd:Nat.blt d n=true) (hk: ∀b w',Sat w' (XI kv b (fun _=>none)::As)→wl P n ops Q rest ((d,.map (some b))::L) w'):wl P n ops Q (⟨some d,.makeMap t none,ty,pos,aft,none⟩::rest) L w:=
  Zk Qa hd (fun a _=>Ni kv t Qa) (by
    rintro v w' ⟨rfl,h1,h2⟩
    have ho:Only [] w w':= by rw[h2]; exact(Only.refl _ _).alloc _
    exact hk _ _ (hS.new ho (A:=XI kv w.heap.size (fun _=>none)) ⟨rfl,_,_,h1, fun k v=> by simp⟩ (fun k hk=> by rw[hk]; exact Nat.le_refl _)))
theorem Hy {mt kt et:TypeId} {x y:Operand} {b:Nat} {f:κ→Option Value} {As:List Th} {k:κ} {z:Value} (i:Nat) (hS:Sat w As) (K:KeyOk P kt kv) (hm:P.underlying mt=some (.map kt et)) (hi:As[i]? =some (XI kv b f)) (hx:look L x=some (.map (some b))) (hy:look L y=some (kv k)) (hz:Z9 P et=some (some z)) {u:Value} (hv:(f k).getD z=u) (hd:Nat.blt d n=true)
    (hk:wl P n ops Q rest ((d,u)::L) w):wl P n ops Q (⟨some d,.lookup mt x y false,ty,pos,aft,none⟩::rest) L w:= by
  obtain⟨es,c,h1,h2⟩:=hS.map i hi
  refine Zk Qa hd (fun a ha=>Sp mt x y Qa K hm h1 (ha.eval hx) (ha.eval hy) (YJ hz w)) ?_
  rintro v w' ⟨h3,rfl⟩
  have e:v=(f k).getD z:= by
    rcases h3 with⟨e,he,hkk,rfl⟩ | ⟨hn,rfl⟩
    · rw[(h2 k e.val).2 ⟨e,he,hkk,rfl⟩];rfl
    · cases hf:f k with
      | none=>rfl
      | some u=> obtain⟨e,he,hkk,_⟩:=(h2 k u).1 hf; exact absurd hkk (hn e he)
  subst e; subst hv
  exact hk
theorem Zj {mt kt et:TypeId} {x y z:Operand} {b:Nat} {f:κ→Option Value} {As:List Th} {k:κ} {v:Value} (i:Nat) (hS:Sat w As) (K:KeyOk P kt kv) (hm:P.underlying mt=some (.map kt et)) (hi:As[i]? =some (XI kv b f)) (hx:look L x=some (.map (some b))) (hy:look L y=some (kv k)) (hz:look L z=some v)
    (hk: ∀w',Sat w' (As.set i (XI kv b (upd f k (some v))))→wl P n ops Q rest L w'):wl P n ops Q (⟨none,.mapUpdate mt x y z,ty,pos,aft,none⟩::rest) L w:= by
  obtain⟨es,c,h1,h2⟩:=hS.map i hi
  refine Zk Qa Qa (fun a ha=>KA mt x y z Qa K hm h1 (ha.eval hx) (ha.eval hy) (ha.eval hz)) ?_
  rintro _ w' ⟨rfl,es',c',hp,h3,h4,_⟩
  exact hk w' (hS.map_set i hi h3 (h2.put K h1.stamped hp) h4)
def mapE (kv:κ→Value) (b:Nat) (f:κ→Option Value) (k:κ) (c:Nat):Th where
  at_:= fun w F=>(F= fun k=>k=b)∧ ∃es z,MapAt kv w b (es.push {key:=kv k,val:=z,born:=c}) (c+1)∧MapKept.Stamped es c∧Reads kv es f∧ ∀e∈es.toList,e.key≠kv k
  fr:= fun {w1 w2 F} a h=> by
    obtain⟨e,es,z,h,r⟩:=h
    have h':=h.congr (w':=w2) (a.blk _ (by rw[e]))
    exact⟨e,es,z,h',r⟩
  lt:= fun h k hk=> by
    obtain⟨e,es,z,h,_⟩:=h
    rw[e]at hk; subst hk; exact h.lt
theorem NC {mt kt et:TypeId} {x y:Operand} {b:Nat} {f:κ→Option Value} {As:List Th} {k:κ} {z:Value} (i:Nat) (hS:Sat w As) (K:KeyOk P kt kv) (hm:P.underlying mt=some (.map kt et)) (hi:As[i]? =some (XI kv b f)) (hx:look L x=some (.map (some b))) (hy:look L y=some (kv k)) (hn:f k=none) (hz:Z9 P et=some (some z)) (hd:Nat.blt d n=true)
    (hk: ∀c w',Sat w' (As.set i (mapE kv b f k c))→wl P n ops Q rest ((d,.tuple #[z,.int .i64 (c:Int)])::L) w'):wl P n ops Q (⟨some d,.mapEntry mt x y,ty,pos,aft,none⟩::rest) L w:= by
  obtain⟨es,c,h1,h2⟩:=hS.map i hi
  have hno: ∀e∈es.toList,e.key≠kv k:= fun e he hk=> by have :=(h2 k e.val).2 ⟨e,he,hk,rfl⟩; rw[hn]at this; cases this
  refine Zk Qa hd (fun a ha=>GD mt x y Qa K hm h1 (ha.eval hx) (ha.eval hy) hno (YJ hz w)) ?_
  rintro v w' ⟨rfl,h3,h4,_⟩
  refine hk c w' (hS.step i hi fun F ⟨e,_⟩=>⟨F,⟨e,es,z,h3,h1.stamped,h2,hno⟩, fun k hk=> .inl hk,h4.agree (fun x hx=> .inl (by simp only[List.mem_singleton]at hx; subst hx; rw[e]))⟩)
theorem Tb {mt:TypeId} {x y z:Operand} {b c:Nat} {f:κ→Option Value} {As:List Th} {k:κ} {v:Value} {kt:TypeId} (i:Nat) (hS:Sat w As) (K:KeyOk P kt kv) (hi:As[i]? =some (mapE kv b f k c)) (hx:look L x=some (.map (some b))) (hy:look L y=some (.int .i64 (c:Int))) (hz:look L z=some v)
    (hk: ∀w',Sat w' (As.set i (XI kv b (upd f k (some v))))→wl P n ops Q rest L w'):wl P n ops Q (⟨none,.entryStore mt x y z,ty,pos,aft,none⟩::rest) L w:= by
  obtain⟨F,_,es,u,h1,h2,h3,h4⟩:=hS.get i hi
  refine Zk Qa Qa (fun a ha=>Dg mt x y z Qa h1 (ha.eval hx) (ha.eval hy) (ha.eval hz) h2) ?_
  rintro _ w' ⟨rfl,h5,h6,_⟩
  have hp:isPut kv es (es.push {key:=kv k,val:=v,born:=c}) c (c+1) k v:= .inr ⟨rfl,h4,rfl⟩
  refine hk w' (hS.step i hi fun F ⟨e,_⟩=>⟨F,⟨e,_,_,h5,h3.put K h2 hp⟩, fun k hk=> .inl hk,h6.agree (fun x hx=> .inl (by simp only[List.mem_singleton]at hx; subst hx; rw[e]))⟩)
end
end
theorem Sat.drew {w:World} {As:List Th} (h:Sat w As):Sat w.drew As:=h.only ((Only.refl [] w).drew)
section
variable {P:Program} {n:Nat} {ops:Array Oper} {Q:Exit→Act→World→Prop} {rest:List Oper} {L:Env} {w:World} {d:Nat} {ty:TypeId} {pos:String} {aft:Array Edge}
theorem Sat.own_shape {As:List Th} (hS:Sat w As) (i:Nat) {v:Value} {m size:Nat} {xs:List Value} (hi:As[i]? =some (XT v m size xs)): ∃ao cap,v= .slice ao m cap∧m≤cap∧xs.length=m*size:= by
  obtain⟨f,h⟩:=hS.own i hi
  obtain⟨a,c,h1,h2⟩:=h.shape
  exact⟨a,c,h1,h2,h.1⟩
theorem Sat.own_one {As:List Th} (hS:Sat w As) (i:Nat) {v:Value} {m size:Nat} {xs:List Value} (hi:As[i]? =some (XT v m size xs)):v.oneCell'=true:= by
  obtain⟨ao,cap,rfl,_⟩:=hS.own_shape i hi
  rfl
theorem Sat.own_at {As:List Th} (hS:Sat w As) (i:Nat) {v:Value} {m size:Nat} {xs:List Value} (hi:As[i]? =some (XT v m size xs)) (hm:0<m): ∃b cap,v= .slice (some ⟨b,0,none⟩) m cap∧m≤cap:= by
  obtain⟨f,h⟩:=hS.own i hi
  obtain⟨b,cap,sp,h1,h2,_⟩:=h.row hm
  exact⟨b,cap,h1,h2⟩
theorem Sat.ocell {As:List Th} (hS:Sat w As) (i:Nat) {v u:Value} {m size b o k cap m':Nat} {xs:List Value} (hi:As[i]? =some (XT v m size xs)) (hv:v= .slice (some ⟨b,o,none⟩) m' cap) (hx:xs[k]? =some u):w.cell? ⟨b,k,none⟩=some u:= by
  obtain⟨f,h⟩:=hS.own i hi
  subst hv
  exact h.cell hx
theorem X3 {As:List Th} (i:Nat) (hS:Sat w As) {x:Operand} {t e m size:Nat} {v:Value} {xs:List Value} (hu:P.underlying t=some (.slice e)) (hi:As[i]? =some (XT v m size xs)) (hx:look L x=some v) (hd:Nat.blt d n=true) (hk:wl P n ops Q rest ((d,.int .i64 (m:Int))::L) w):wl P n ops Q (⟨some d,.call ⟨.builtin .len, #[x], #[t]⟩,ty,pos,aft,none⟩::rest) L w:= by
  obtain⟨ao,cap,rfl,_⟩:=hS.own_shape i hi
  exact Xj hu hx hd hk
theorem Ve {As:List Th} (i j:Nat) (hS:Sat w As) {x y:Operand} {t sz m size:Nat} {k:IntKind} {a:Int} {v:Value} {xs:List Value} (hi:As[i]? =some (XT v m size xs)) (hx:look L x=some v) (hy:look L y=some (.int k a)) (ha:a=(j:Int)) (hj:j<m) (hs:Ho P t=some sz) (hd:Nat.blt d n=true)
    (hk: ∀b cap,v= .slice (some ⟨b,0,none⟩) m cap→wl P n ops Q rest ((d,ptrV b (j*sz))::L) w):wl P n ops Q (⟨some d,.indexAddr t x y,ty,pos,aft,none⟩::rest) L w:= by
  obtain⟨b,cap,rfl,_⟩:=hS.own_at i hi (by omega)
  refine XG j hx hy ha hj hs hd ?_
  rw[Nat.zero_add]
  exact hk b cap Qa
theorem So {o:Oper} {a:Act} {t b off m:Nat} {x y:Operand} {u:Value} {cs:List Value} (ho:o.op= .store t x y) (hx:a.eval x= .pointer (some ⟨b,off,none⟩)) (hy:a.eval y=u) (hb:Blk w b cs) (hs:Wv P t=some m) (hm:u.cells.size=m) (hn:off+m≤cs.length) (h1: ∀v∈u.cells.toList,v.oneCell'=true):
    does P o a w (fun v w'=>v=undef∧Blk w' b (XK cs off u.cells.toList)∧Only [b] w w'):= by
  obtain⟨w',hr,hb',ho',hsz⟩:=Wl (P:=P) u.cells.toList 0 cs w b off hb (by simp [hm];omega) h1
  refine⟨_,w',.inr ⟨?_,Qa⟩,Qa,hb',ho'⟩
  simp [execOp,ho,hx,hy,Instr.storeAt,Instr.sureAddr,storeVar,ZX hs,hm,hr]
theorem Ts {As:List Th} (i:Nat) (hS:Sat w As) {x y:Operand} {t b o cap m m' q size:Nat} {v u:Value} {xs xs':List Value} (hi:As[i]? =some (XT v m size xs)) (hv:v= .slice (some ⟨b,0,none⟩) m' cap) (hx:look L x=some (ptrV b o)) (hy:look L y=some u) (hs:Wv P t=some q) (hq:u.cells.size=q) (h1:ZV u.cells.toList=true) (ho:o+q≤xs.length) (hxs:XK xs o u.cells.toList=xs')
    (hk: ∀w',Sat w' (As.set i (XT v m size xs'))→wl P n ops Q rest L w'):wl P n ops Q (⟨none,.store t x y,ty,pos,aft,none⟩::rest) L w:= by
  subst hxs
  obtain⟨f,hown⟩:=hS.own i hi
  subst hv
  obtain⟨hl,⟨h0,_⟩ | ⟨b',cap',sp,h0,hc,hb,hlen,rfl⟩⟩:=hown
  · cases h0
  · cases h0
    refine Zk Qa Qa (fun a ha=>So Qa (ha.eval hx) (ha.eval hy) hb hs hq (by simp;omega) (Yh h1)) ?_
    rintro _ w' ⟨_,h2,h3⟩
    have hsl:(XK xs o u.cells.toList).length=xs.length:=Y3 (by simp [hq];omega)
    refine hk w' (hS.own_set i hi fun foot hown2=>⟨[b], ?_, ?_, ?_⟩)
    · refine⟨by rw[hsl]; exact hl,.inr ⟨b,cap,sp,rfl,hc, ?_, by rw[List.length_append,hsl,←List.length_append]; exact hlen,rfl⟩⟩
      rw[YI (by simp [hq];omega)]at h2
      exact h2
    · obtain⟨_,⟨h0,_⟩ | ⟨b2,cap2,sp2,h0,_,_,_,rfl⟩⟩:=hown2
      · cases h0
      · cases h0; exact h3
    · obtain⟨_,⟨h0,_⟩ | ⟨b2,cap2,sp2,h0,_,_,_,rfl⟩⟩:=hown2
      · cases h0
      · cases h0; exact fun k hk=> .inl hk
theorem Lc {As:List Th} (hS:Sat w As) {t e size bytes:Nat} {x y:Operand} {z:Value} {kl kc:IntKind} {A:Int} (m:Nat) (hx:look L x=some (.int kl A)) (hy:look L y=some (.int kc A)) (hA:A=(m:Int)) (hu:P.underlying t=some (.slice e)) (hi:(P.info? e).map (fun i=>(i.zero,i.size,i.bytes))=some (some z,size,bytes)) (hz:z.cells.size=size) (hb:bytes*m≤281474976710656) (hm:m≤9223372036854775807) (hd:Nat.blt d n=true)
    (hk: ∀b w',Sat w' (XT (.slice (some ⟨b,0,none⟩) m m) m size (List.replicate m z.cells.toList).flatten::As)→wl P n ops Q rest ((d,.slice (some ⟨b,0,none⟩) m m)::L) w'):wl P n ops Q (⟨some d,.makeSlice t x y,ty,pos,aft,none⟩::rest) L w:=
  Zk Qa hd (fun a ha=>AB t x y Qa (ha.eval hx) (ha.eval hy) hA hA (Nat.le_refl _) hu hi hz hb hm) (by
    rintro v w' ⟨rfl,h1,h2,_⟩
    refine hk _ _ (hS.new h2 (F':= fun k=>k∈[w.heap.size]) (A:=XT _ _ _ _) ⟨[w.heap.size],rfl,Mr (sp:=[]) (by simpa using h1) (by simp [hz]) (Nat.le_refl _) (by simp [hz])⟩ (fun k hk=> by simp at hk;omega)))
theorem GS {As:List Th} (i:Nat) (hS:Sat w As) {t t2 e size bytes m q:Nat} {s x:Operand} {z sv xv:Value} {d2:TypeDesc} {xs news:List Value} (hi:As[i]? =some (XT sv m size xs)) (hs:look L s=some sv) (hx:look L x=some xv) (hu:P.underlying t=some (.slice e)) (hu2:P.underlying t2=some d2) (hd2: ∀k,d2≠ .int k)
    (hif:(P.info? e).map (fun i=>(i.zero,i.size,i.bytes))=some (some z,size,bytes)) (hz:z.cells.size=size) (h0:0<size) (hx1: ∀w1,(Builtin.lenOf xv).run P w1= .ok q w1) (hx2: ∀w1:World,w1.heap=w.heap→(Builtin.firstCells size q xv).run P w1= .ok news.toArray w1) (hnl:news.length=q*size) (h1:ZV news=true)
    (hb:(m+q)*bytes≤140737488355328) (hm:m+q≤9223372036854775807) (hd:Nat.blt d n=true) (hk: ∀v w',Sat w' (As.set i (XT v (m+q) size (xs++news)))→wl P n ops Q rest ((d,v)::L) w'):wl P n ops Q (⟨some d,.call ⟨.builtin .append, #[s,x], #[t,t2]⟩,ty,pos,aft,none⟩::rest) L w:= by
  obtain⟨F,h⟩:=hS.own i hi
  refine Zk Qa hd (R:= fun v w'=>Sat w' (As.set i (XT v (m+q) size (xs++news)))) (fun a ha=> ?_) (fun v w' hR=>hk v w' hR)
  refine(BZ t t2 s x Qa (ha.eval hs) (ha.eval hx) h hu hu2 hd2 hif hz h0 hx1 hx2 hnl (Yh h1) hb hm).mono ?_
  rintro v w' ⟨foot',hown,ho,hf,_⟩
  have hfoot: ∀foot,Own w sv m size xs foot→foot=F:= by
    intro foot h'
    obtain⟨_,⟨e1,_,rfl⟩ | ⟨b1,c1,s1,e1,_,_,_,rfl⟩⟩:=h
    · obtain⟨_,⟨e2,_,rfl⟩ | ⟨b2,c2,s2,e2,_,_,_,rfl⟩⟩:=h'
      · rfl
      · rw[e1]at e2; cases e2
    · obtain⟨_,⟨e2,_,rfl⟩ | ⟨b2,c2,s2,e2,_,_,_,rfl⟩⟩:=h'
      · rw[e1]at e2; cases e2
      · rw[e1]at e2; cases e2;rfl
  exact hS.own_set i hi fun foot h'=> by rw[hfoot foot h']at *; exact⟨foot',hown,ho,hf⟩
theorem TQ {As:List Th} (hS:Sat w As) (j:Nat) {v:Value} {m size:Nat} {xs:List Value} (hj:As[j]? =some (XT v m size xs)): ∀w1,(Builtin.lenOf v).run P w1= .ok m w1:= by
  obtain⟨ao,cap,rfl,_⟩:=hS.own_shape j hj
  exact Kw _ _ _
theorem K4 {As:List Th} (hS:Sat w As) (j:Nat) {v:Value} {m size:Nat} {xs:List Value} (hj:As[j]? =some (XT v m size xs)): ∀w1:World,w1.heap=w.heap→(Builtin.firstCells size m v).run P w1= .ok xs.toArray w1:= by
  obtain⟨f,h⟩:=hS.own j hj
  intro w1 hw
  obtain⟨hl,⟨rfl,rfl,_⟩ | ⟨b,cap,sp,rfl,hc,hb,hlen,_⟩⟩:=h
  · have :xs=[]:=List.eq_nil_of_length_eq_zero (by simpa using hl)
    subst this
    simp [Builtin.firstCells]
  · exact G7 hb size m 0 m cap (by simp [hl]) (by simp [←hl]) w1 hw
theorem Sg {x y:Operand} {t e t2:TypeId} {ao:Option Addr} {m c:Nat} (hu:P.underlying t=some (.slice e)) (hx:look L x=some (.slice ao m c)) (hy:look L y=some (.slice none 0 0)):Ev P L w ⟨some d,.binOp .eql t x y t2,ty,pos,aft,none⟩ (.bool ao.isNone):= fun ρ hρ=> by
  have :(Op.equal t (.slice ao m c) (.slice none 0 0)).run P w= .ok ao.isNone w:= by
    unfold Op.equal Op.maxDepth Op.equalIn
    simp only[Sem.run_bind,run_underlying hu,Result.andThen]
    cases ao<;> simp
  simp [execOp,hρ _ _ hx,hρ _ _ hy,eqGuard,binOp,this]
theorem Jh {x:Operand} {t b o m:Nat} {cs:List Value} (hx:look L x=some (ptrV b o)) (ha:W9 P t=some true) (hs:Wv P t=some m) (hb:Blk w b cs) (hm:o+m≤cs.length) {vs:List Value} (hvs:(cs.drop o).take m=vs):Ev P L w ⟨some d,.load t x,ty,pos,aft,none⟩ (.agg vs.toArray):= by
  subst hvs
  exact fun ρ hρ=> by simp [execOp,hρ _ _ hx,Instr.loadAt,Instr.sureAddr,loadVar,Ro ha,ZX hs,JQ hb o m hm]
theorem ID {t:Nat} {parts:List (Nat×Operand)} {vs:List Value} {V:Value} (hx:J9 L (parts.map (·.2))=some vs) (hr: ∀w,(Instr.build t ((parts.map (·.1)).zip vs).toArray).run P w= .ok V w):Ev P L w ⟨some d,.build t parts.toArray,ty,pos,aft,none⟩ V:= fun ρ hρ=> by
  have hev: ∀(ps:List Operand) (us:List Value),J9 L ps=some us→ps.map ρ=us:= by
    intro ps
    induction ps with
    | nil=> intro us h; simp [J9]at h; subst h;rfl
    | cons p ps ih=>
      intro us h
      simp only[J9]at h
      cases h1:look L p with
      | none=> simp [h1]at h
      | some v=>
        cases h2:J9 L ps with
        | none=> simp [h1,h2]at h
        | some vs=> simp [h1,h2]at h; subst h; simp [hρ _ _ h1,ih vs h2]
  have h1:=hev _ _ hx
  have he:(parts.toArray.map fun x=>(x.1,ρ x.2))=((parts.map (·.1)).zip vs).toArray:= by
    rw[←h1]
    apply Array.ext'
    simp
    clear hx hr h1 hev
    induction parts with
    | nil=>rfl
    | cons p ps ih=> simp [ih]
  have hr':=hr w
  rw[←he]at hr'
  simp only[execOp,Sem.run_bind,hr']
  rfl
theorem JK {κ:Type} {kv:κ→Value} {mt kt et:TypeId} {x y:Operand} {b:Nat} {f:κ→Option Value} {As:List Th} {k:κ} {z:Value} (i:Nat) (hS:Sat w As) (K:KeyOk P kt kv) (hm:P.underlying mt=some (.map kt et)) (hi:As[i]? =some (XI kv b f)) (hx:look L x=some (.map (some b))) (hy:look L y=some (kv k)) (hz:Z9 P et=some (some z)) {u:Value} (hv:(f k).getD z=u):Ev P L w ⟨some d,.lookup mt x y false,ty,pos,aft,none⟩ u:= fun ρ hρ=> by
  subst hv
  obtain⟨es,c,h,h2⟩:=hS.map i hi
  have hx':=hρ _ _ hx
  have hy':=hρ _ _ hy
  rcases K.find k es.toList w h.keys with⟨j,e,h1,h3,h4⟩ | ⟨h1,h4⟩
  · have :(f k)=some e.val:=(h2 k e.val).2 ⟨e,List.mem_of_getElem? h1,h3,rfl⟩
    simp [execOp,hx',hy',Instr.lookup,run_underlying hm,MapKept.run_getObj_map h.blk,K.check,h4,this]
  · have :f k=none:= by
      cases hf:f k with
      | none=>rfl
      | some u=> obtain⟨e,he,hkk,_⟩:=(h2 k u).1 hf; exact absurd hkk (h1 e he)
    simp [execOp,hx',hy',Instr.lookup,run_underlying hm,MapKept.run_getObj_map h.blk,K.check,h4,this,YJ hz]
theorem IC {x:Operand} {t e b o m cap sz:Nat} {lo hi:Option Operand} (A B:Nat) (hu:P.underlying t=some (.slice e)) (hs:Wv P e=some sz) (hx:look L x=some (.slice (some ⟨b,o,none⟩) m cap)) (hlo:bndL L lo 0 A) (hhi:bndL L hi m B) (h1:A≤B) (h2:B≤cap):
    Ev P L w ⟨some d,.slice t x lo hi none,ty,pos,aft,none⟩ (.slice (some ⟨b, if cap=A then o else o+A*sz,none⟩) (B -A) (cap -A)):= fun ρ hρ=> by
  have hb:=RB (P:=P) true m cap _ _ A B (hlo.val hρ) (hhi.val hρ) h1 h2 w
  simp only[execOp,hρ _ _ hx]
  simp [Instr.sliceAt,Instr.slice,run_underlying hu,hb,ZX hs,Wu]
  split<;>simp_all
theorem DG {x:Operand} {t e b o m cap sz:Nat} {lo hi:Option Operand} (A B:Nat) (hu:P.underlying t=some (.slice e)) (hs:Wv P e=some sz) (hx:look L x=some (.slice (some ⟨b,o,none⟩) m cap)) (hlo:bndL L lo 0 A) (hhi:bndL L hi m B) (h1:A≤B) (h2:B≤cap) (hd:Nat.blt d n=true)
    (hk:wl P n ops Q rest ((d,.slice (some ⟨b, if cap=A then o else o+A*sz,none⟩) (B -A) (cap -A))::L) w):wl P n ops Q (⟨some d,.slice t x lo hi none,ty,pos,aft,none⟩::rest) L w:=Xv hd (IC A B hu hs hx hlo hhi h1 h2) hk
theorem ND {x y:Operand} {t e t2:TypeId} {ao:Option Addr} {m c:Nat} (hu:P.underlying t=some (.slice e)) (hx:look L x=some (.slice ao m c)) (hy:look L y=some (.slice none 0 0)) (hd:Nat.blt d n=true) (hk:wl P n ops Q rest ((d,.bool ao.isNone)::L) w):wl P n ops Q (⟨some d,.binOp .eql t x y t2,ty,pos,aft,none⟩::rest) L w:=Xv hd (Sg hu hx hy) hk
theorem Sat.own_row {As:List Th} (hS:Sat w As) (i:Nat) {v:Value} {m size b o m' cap:Nat} {xs:List Value} (hi:As[i]? =some (XT v m size xs)) (hv:v= .slice (some ⟨b,o,none⟩) m' cap):
    ∃sp,Blk w b (xs++sp)∧ ∀(w':World) (xs':List Value),xs'.length=xs.length→Blk w' b (xs'++sp)→Only [b] w w'→Sat w' (As.set i (XT v m size xs')):= by
  obtain⟨f,hown⟩:=hS.own i hi
  obtain⟨hl,⟨h0,_⟩ | ⟨b',cap',sp,h0,hc,hb,hlen,rfl⟩⟩:=hown
  · rw[hv]at h0; cases h0
  · have h00:=h0
    rw[hv]at h00; cases h00
    refine⟨sp,hb, fun w' xs' hx' hb' ho=>hS.own_set i hi fun foot hown2=>⟨[b],⟨by rw[hx']; exact hl,.inr ⟨b,cap,sp,h0,hc,hb', by rw[List.length_append,hx',←List.length_append]; exact hlen,rfl⟩⟩, ?_, ?_⟩⟩
    · obtain⟨_,⟨h1,_⟩ | ⟨b2,cap2,sp2,h1,_,_,_,rfl⟩⟩:=hown2
      · rw[h0]at h1; cases h1
      · rw[h0]at h1; cases h1; exact ho
    · obtain⟨_,⟨h1,_⟩ | ⟨b2,cap2,sp2,h1,_,_,_,rfl⟩⟩:=hown2
      · rw[h0]at h1; cases h1
      · rw[h0]at h1; cases h1; exact fun k hk=> .inl hk
theorem NE {As:List Th} (i:Nat) (hS:Sat w As) {x y:Operand} {dT sT e b o off m m' cap dl dc:Nat} {v:Value} {s:List UInt8} {xs xs':List Value} (hi:As[i]? =some (XT v m 1 xs)) (hv:v= .slice (some ⟨b,o,none⟩) m' cap) (hx:look L x=some (.slice (some ⟨b,off,none⟩) dl dc)) (hy:look L y=some (strV s)) (hu:P.underlying dT=some (.slice e)) (hs:Wv P e=some 1) (hfit:off+min s.length dl≤xs.length)
    (hxs:XK xs off (Zf (s.take dl))=xs') (hd:Nat.blt d n=true) (hk: ∀w',Sat w' (As.set i (XT v m 1 xs'))→wl P n ops Q rest ((d,.int .i64 ((min s.length dl:Nat):Int))::L) w'):wl P n ops Q (⟨some d,.call ⟨.builtin .copy, #[x,y], #[dT,sT]⟩,ty,pos,aft,none⟩::rest) L w:= by
  subst hxs
  obtain⟨sp,hb,hback⟩:=hS.own_row i hi hv
  refine Zk Qa hd (fun a ha=>Tn dT sT x y Qa (ha.eval hx) (ha.eval hy) hb hu hs (by rw[KN]; simp;omega)) ?_
  rintro u w' ⟨rfl,h1,h2,_⟩
  rw[KN]
  have hl:off+(Zf (s.take dl)).length≤xs.length:= by simp [Zf];omega
  refine hk w' (hback w' _ (Y3 hl) ?_ h2)
  rw[←YI hl]
  exact h1
theorem LH {As:List Th} (i:Nat) (hS:Sat w As) {x:Operand} {sT dT e b o off m m' cap dl dc:Nat} {v:Value} (l:List UInt8) {xs:List Value} (hi:As[i]? =some (XT v m 1 xs)) (hv:v= .slice (some ⟨b,o,none⟩) m' cap) (hx:look L x=some (.slice (some ⟨b,off,none⟩) dl dc)) (hs:P.underlying sT=some (.slice e)) (he:P.underlying e=some (.int .u8)) (hd:P.underlying dT=some .string) (hl:(xs.drop off).take dl=Zf l) (hn:l.length=dl):Ev P L w ⟨some d,.convert sT dT x,ty,pos,aft,none⟩ (strV l):= fun ρ hρ=> by
  obtain⟨sp,hb,_⟩:=hS.own_row i hi hv
  subst hn
  have hr:=run_convert_bytes_back (P:=P) w sT dT e ⟨b,off,none⟩ dc l hs he hd (fun j hj=> by
    rw[Wu]
    refine hb.cell ?_
    have h1:=congrArg (fun q=>q[j]?) hl
    simp only[List.getElem?_take,hj,if_true,List.getElem?_drop,FP]at h1
    have hlt:off+j<xs.length:= by
      rcases Nat.lt_or_ge (off+j) xs.length with g | g
      · exact g
      · rw[List.getElem?_eq_none g,WU hj]at h1; cases h1
    rw[List.getElem?_append_left hlt,h1,WU hj];rfl)
  simp [execOp,hρ _ _ hx,hr]
theorem wl_strB {As:List Th} (i:Nat) (hS:Sat w As) {x:Operand} {sT dT e b o off m m' cap dl dc:Nat} {v:Value} (l:List UInt8) {xs:List Value} (hi:As[i]? =some (XT v m 1 xs)) (hv:v= .slice (some ⟨b,o,none⟩) m' cap) (hx:look L x=some (.slice (some ⟨b,off,none⟩) dl dc)) (hs:P.underlying sT=some (.slice e)) (he:P.underlying e=some (.int .u8)) (hd:P.underlying dT=some .string) (hl:(xs.drop off).take dl=Zf l) (hn:l.length=dl) (hdd:Nat.blt d n=true) (hk:wl P n ops Q rest ((d,strV l)::L) w):wl P n ops Q (⟨some d,.convert sT dT x,ty,pos,aft,none⟩::rest) L w:=
  Xv hdd (LH i hS l hi hv hx hs he hd hl hn) hk
theorem U8 {f:Nat} {cap:List Operand} {vs:List Value} (hx:J9 L cap=some vs) (hd:Nat.blt d n=true) (hk:wl P n ops Q rest ((d,.func (.func f) #[] vs.toArray)::L) w):wl P n ops Q (⟨some d,.makeFunc (.func f) #[] cap.toArray,ty,pos,aft,none⟩::rest) L w:= by
  refine Zk Qa hd (R:= fun v w'=>v= .func (.func f) #[] vs.toArray∧w'=w) (fun a ha=>⟨_,_,.inl ?_,rfl,rfl⟩) ?_
  · have h1:=ha.evals hx
    simp [execOp,Instr.makeFunc,h1]
  · rintro v w' ⟨rfl,rfl⟩; exact hk
def Zp (P:Program) (t:Nat) (idx:List Nat):Option (List (Nat×Nat)):= match P.underlying t with
  | some (.struct fs)=>idx.mapM fun i=> match fs[i]? with
    | some f=>(Wv P f.type).map fun n=>(f.offset,n)
    | none=>none
  | _=>none
def Hq (P:Program) (t:Nat):Bool:= match P.underlying t with
  | some (.struct fs)=>fs.toList.all fun f=>(Wv P f.type).isSome
  | _=>false
def VV (z:List Value):List (Nat×Nat)→List Value→List Value
  | p::ps,v::vs=>VV (XK z p.1 v.cells.toList) ps vs
  | _,_=>z
def HU (m:Nat):List (Nat×Nat)→List Value→Bool
  | p::ps,v::vs=>Nat.beq v.cells.size p.2&&Nat.ble (p.1+p.2) m&&HU m ps vs
  | [],[]=>true
  | _,_=>false
theorem BR: ∀(vs:List Value) (k off:Nat) (cs:Array Value),off+k+vs.length≤cs.size→((vs.zipIdx k).foldl (fun cs (c,j)=>cs.setIfInBounds (off+j) c) cs).toList=XK cs.toList (off+k) vs
  | [],k,off,cs,_=> by simp [XK]
  | v::vs,k,off,cs,h=> by
    simp only[List.zipIdx_cons,List.foldl_cons]
    rw[BR vs (k+1) off _ (by simp at h⊢;omega)]
    simp only[Array.toList_setIfInBounds]
    have e:=list_seg_step cs.toList (off+k) v vs (by simp at h⊢;omega)
    unfold XK
    rw[←Nat.add_assoc]
    simpa using e
theorem RN (place:Nat→Option (Nat×Nat)): ∀(idx:List Nat) (pls:List (Nat×Nat)) (vs:List Value) (cells:Array Value),idx.map place=pls.map some→HU cells.size pls vs=true→Instr.fill place cells (idx.zip vs)=some (VV cells.toList pls vs).toArray
  | [],[],[],cells,_,_=> by simp [Instr.fill,VV]
  | [],[],_::_,_,_,h=> by simp [HU]at h
  | [],_::_,_,_,h,_=> by simp at h
  | _::_,[],_,_,h,_=> by simp at h
  | i::idx,p::pls,[],cells,_,h=> by simp [HU]at h
  | i::idx,p::pls,v::vs,cells,he,h=> by
    simp only[List.map_cons,List.cons.injEq]at he
    simp only[HU,Bool.and_eq_true]at h
    obtain⟨⟨h1,h2⟩,h3⟩:=h
    have h1:=Nat.eq_of_beq_eq_true h1
    have h2:=Xe h2
    have hf:=BR v.cells.toList 0 p.1 cells (by simp [h1];omega)
    have hf2:(v.cells.zipIdx.foldl (fun cs (c,j)=>cs.setIfInBounds (p.1+j) c) cells).toList=XK cells.toList p.1 v.cells.toList:= by
      rw[←Array.foldl_toList,Array.toList_zipIdx]
      simpa using hf
    have hs:(v.cells.zipIdx.foldl (fun cs (c,j)=>cs.setIfInBounds (p.1+j) c) cells).size=cells.size:= by
      have :=congrArg List.length hf2
      rw[Y3 (by simp [h1];omega)]at this
      simpa using this
    simp only[List.zip_cons_cons,Instr.fill,he.1]
    rw[if_neg (by simp [h1];omega),RN place idx pls vs _ he.2 (by rw[hs]; exact h3),hf2]
    rfl
theorem UU {As:List Th} (hS:Sat w As) {t e size len:Nat} {z:Value} {parts:List (Nat×Operand)} {vs:List Value} (hx:J9 L (parts.map (·.2))=some vs) (hu:P.underlying t=some (.slice e)) (hi:(P.info? e).map (fun i=>(i.zero,i.size))=some (some z,size)) (hlen:Nat.ble (len*size) 1000=true) (hzs:z.cells.size=size)
    (hok:HU (len*size) ((parts.map (·.1)).map fun i=>(i*size,size)) vs=true) (hd:Nat.blt d n=true)
    (hk: ∀b w',Sat w' (XT (.slice (some ⟨b,0,none⟩) len len) len size (VV (List.replicate len z.cells.toList).flatten ((parts.map (·.1)).map fun i=>(i*size,size)) vs)::As)→wl P n ops Q rest ((d,.slice (some ⟨b,0,none⟩) len len)::L) w'):wl P n ops Q (⟨some d,.buildSlice t len parts.toArray,ty,pos,aft,none⟩::rest) L w:= by
  obtain⟨ii,hi1,hi2⟩:=Option.map_eq_some_iff.1 hi
  simp only[Prod.mk.injEq]at hi2
  have hle:len*size≤1000:=Xe hlen
  have hzl:((Array.range (len*size)).map (z.cells[· %z.cells.size]!)).toList=(List.replicate len z.cells.toList).flatten:= by
    rw[←hzs]; exact H2 z.cells len
  have hzsz:((Array.range (len*size)).map (z.cells[· %z.cells.size]!)).size=len*size:= by simp
  have hf:=RN (fun i=>some (i*size,size)) (parts.map (·.1)) ((parts.map (·.1)).map fun i=>(i*size,size)) vs ((Array.range (len*size)).map (z.cells[· %z.cells.size]!)) (by simp [Function.comp_def]) (by rw[hzsz]; exact hok)
  rw[hzl]at hf
  generalize hcs:VV (List.replicate len z.cells.toList).flatten ((parts.map (·.1)).map fun i=>(i*size,size)) vs=cells at hf hk
  have hcl:cells.length=len*size:= by
    have hgen: ∀(pls:List (Nat×Nat)) (vs:List Value) (zz:List Value),HU zz.length pls vs=true→(VV zz pls vs).length=zz.length:= by
      intro pls
      induction pls with
      | nil=> intro vs zz _; cases vs<;>rfl
      | cons p pls ih=>
        intro vs zz h
        cases vs with
        | nil=>rfl
        | cons v vs=>
          simp only[HU,Bool.and_eq_true]at h
          have h1:=Nat.eq_of_beq_eq_true h.1.1
          have h2:=Xe h.1.2
          have hl:(XK zz p.1 v.cells.toList).length=zz.length:=Y3 (by simp [h1];omega)
          simp only[VV]
          rw[ih vs _ (by rw[hl]; exact h.2),hl]
    have hzl2:(List.replicate len z.cells.toList).flatten.length=len*size:= by simp [hzs]
    rw[←hcs,hgen _ _ _ (by rw[hzl2]; exact hok),hzl2]
  refine Zk Qa hd (R:= fun v w'=>v= .slice (some ⟨w.heap.size,0,none⟩) len len∧w'=w.alloc (.cells cells.toArray e)) (fun a ha=>⟨_,_,.inl ?_,rfl,rfl⟩) ?_
  · have hzv:(zeroValue e).run P w= .ok z w:= by simp [zeroValue,typeInfo,hi1,hi2.1]
    have hso:(sizeOf e).run P w= .ok size w:= by simp [sizeOf,typeInfo,hi1,hi2.2]
    have hev:=ha.evals hx
    have hp:(parts.toArray.map fun (i,x)=>(i,a.eval x)).toList=(parts.map (·.1)).zip vs:= by
      rw[←hev]
      simp
      clear hev hx hf hcs hok
      induction parts with
      | nil=>rfl
      | cons p ps ih=> simp [ih]
    have hno: ¬(2^24<len*size):= by omega
    by_cases hz0:len*size=0
    · have hf':Instr.fill (fun i=>some (i*size,size)) #[] ((parts.map (·.1)).zip vs)=some cells.toArray:= by
        rw[hz0, show Array.range 0= #[] from rfl]at hf;simpa using hf
      simp only[execOp,Instr.buildSlice]
      have hr0:Array.range 0= #[]:=rfl
      simp [run_underlying hu,hso,hz0,newRow,hr0]
      simp at hp
      rw[hp,hf']
      simp
    · simp only[execOp,Instr.buildSlice]
      simp [run_underlying hu,hso,hz0,hno,hzv,newRow]
      simp at hp
      rw[hp,hf]
      simp
  · rintro v w' ⟨rfl,rfl⟩
    exact hk _ _ (hS.new ((Only.refl _ _).alloc _) (F':= fun k=>k∈[w.heap.size]) (A:=XT _ _ _ _) ⟨[w.heap.size],rfl,Mr (sp:=[]) (by simpa using Blk.new w cells e) (by simpa using hcl) (Nat.le_refl _) (by simpa using hcl)⟩ (fun k hk=> by simp at hk;omega))
theorem Wb {t:Nat} {parts:List (Nat×Operand)} {vs:List Value} {pls:List (Nat×Nat)} {z:List Value} (hx:J9 L (parts.map (·.2))=some vs) (hp:Zp P t (parts.map (·.1))=some pls) (ha:Hq P t=true) (hz:Z9 P t=some (some (.agg z.toArray))) (hok:HU z.length pls vs=true):Ev P L w ⟨some d,.build t parts.toArray,ty,pos,aft,none⟩ (.agg (VV z pls vs).toArray):= by
  refine ID hx fun w=> ?_
  unfold Zp at hp
  unfold Hq at ha
  split at hp
  · rename_i fs hu
    rw[hu]at ha
    simp only at ha
    have hm: ∀(l:List Field),(∀f∈l,(Wv P f.type).isSome=true)→ ∃ps:List (Nat×Nat),ps=l.map (fun f=>(f.offset,(Wv P f.type).getD 0))∧(l.mapM (m:=Sem) fun f=>Prod.mk f.offset<$>sizeOf f.type).run P w= .ok ps w:= by
      intro l
      induction l with
      | nil=> intro _; exact⟨[],rfl, by simp⟩
      | cons f l ih=>
        intro h
        obtain⟨ps,h1,h2⟩:=ih (fun g hg=>h g (by simp [hg]))
        obtain⟨q,hq⟩:=Option.isSome_iff_exists.1 (h f (by simp))
        refine⟨(f.offset,q)::ps, by simp [h1,hq], ?_⟩
        simp [List.mapM_cons,ZX hq,h2]
    obtain⟨ps,hps,hrun⟩:=hm fs.toList (fun f hf=>List.all_eq_true.1 ha f hf)
    have hrun':(fs.mapM (m:=Sem) fun f=>Prod.mk f.offset<$>sizeOf f.type).run P w= .ok ps.toArray w:= by
      rw[Array.mapM_eq_mapM_toList]
      simp [hrun]
    have hpl:(parts.map (·.1)).map (fun i=>ps.toArray[i]?)=pls.map some:= by
      clear hok hx hz hrun hrun'
      generalize parts.map (·.1)=idx at hp
      induction idx generalizing pls with
      | nil=> simp at hp; subst hp;rfl
      | cons i idx ih=>
        rw[List.mapM_cons]at hp
        simp only[Option.bind_eq_bind,Option.bind_eq_some_iff,Option.pure_def,Option.some.injEq]at hp
        obtain⟨p,hp1,qs,hp2,rfl⟩:=hp
        simp only[List.map_cons,ih hp2,List.cons.injEq,and_true]
        cases hfi:fs[i]? with
        | none=> simp [hfi]at hp1
        | some f=>
          simp only[hfi,Option.map_eq_some_iff]at hp1
          obtain⟨q,hq,rfl⟩:=hp1
          rw[hps]
          have :fs.toList[i]? =some f:= by simpa using hfi
          simp [hfi,hq]
    have hfill:=RN (fun i=>ps.toArray[i]?) (parts.map (·.1)) pls vs z.toArray hpl (by simpa using hok)
    simp only[List.getElem?_toArray]at hfill
    simp [Instr.build,YJ hz,Value.cells,run_underlying hu,hrun']
    rw[hfill];rfl
  · cases hp
theorem Zu {t:Nat} {parts:List (Nat×Operand)} {vs:List Value} {pls:List (Nat×Nat)} {z:List Value} (hx:J9 L (parts.map (·.2))=some vs) (hp:Zp P t (parts.map (·.1))=some pls) (ha:Hq P t=true) (hz:Z9 P t=some (some (.agg z.toArray))) (hok:HU z.length pls vs=true) (hd:Nat.blt d n=true) (hk:wl P n ops Q rest ((d,.agg (VV z pls vs).toArray)::L) w):wl P n ops Q (⟨some d,.build t parts.toArray,ty,pos,aft,none⟩::rest) L w:=
  Xv hd (Wb hx hp ha hz hok) hk
end
