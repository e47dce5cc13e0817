/- Maps: what lies in a map's block, and laws for the operations on maps. Keys: of one kind ('KeyOk'): integers, or structs of two integers. -/
import Derived.Test.YtkgjmhcdacidoaaGreatDoorMem
import Derived.MapKept
import Derived.Laws.IdiomRangeMap
import Derived.Maps.RangeRun
import Derived.Test.YtkgjmhcdacidoaaGreatDoorWk
import Derived.Test.YtkgjmhcdacidoaaGreatDoorDr
import Derived.Laws.Externs
namespace Go.Proofs.YtkgjmhcdacidoaaGreatDoor.M
open Go.RowKit
structure KeyOk {κ:Type} (P:Program) (kt:TypeId) (kv:κ→Value):Prop where
  inj: ∀a b,kv a=kv b→a=b
  bits: ∀a,Instr.sameBits 10000 (kv a) (kv a)=true
  check: ∀(e:Bool) (a:κ) (w:World),(Instr.checkKey e 10000 kt (kv a)).run P w= .ok () w
  find: ∀(a:κ) (l:List MapEntry) (w:World),(∀x∈l,∃b,x.key=kv b)→
    (∃i x,l[i]? =some x∧x.key=kv a∧(Instr.findKey kt (kv a) l).run P w= .ok (some (i,x.val)) w)∨((∀x∈l,x.key≠kv a)∧(Instr.findKey kt (kv a) l).run P w= .ok none w)
def QX (a:Int):Value:= .int .i64 a
theorem SE {P:Program} {kt:TypeId} (hu:P.underlying kt=some (.int .i64)):KeyOk P kt QX where
  inj:= by intro a b h;simpa [QX]using h
  bits:= fun a=>MapKept.sameBits_self (d:= .int .i64) (by simp [MapKept.IsKey,QX]) _
  check:= fun e a w=>MapKept.run_checkKey hu (by simp [MapKept.IsKey,QX]) e 9999
  find:= fun a l w h=> by
    rcases MapKept.findNow_spec (d:= .int .i64) (k:=QX a) (by simp [MapKept.IsKey,QX]) l 0 (fun x hx=> by obtain⟨b,hb⟩:=h x hx; rw[hb]; simp [MapKept.IsKey,QX])with⟨h1,h2⟩ | ⟨j,e,h1,h2,h3⟩
    · exact .inr ⟨h2,MapKept.run_findKey hu h1⟩
    · refine .inl ⟨j,e,h2,h3, ?_⟩
      rw[Nat.zero_add]at h1
      exact MapKept.run_findKey hu h1
theorem Dr {P:Program} {t:TypeId} {k:IntKind} (hu:P.underlying t=some (.int k)) (cs:Array Value) (off:Nat) (v:Value) (hv:cs[off]? =some v) (w:World):(part t cs off).run P w= .ok v w:= by
  simp [part,isAgg,run_underlying hu,hv]
theorem RK {P:Program} {t:TypeId} {k:IntKind} (hu:P.underlying t=some (.int k)) (n:Nat) (a b:Int) (w:World):(Op.equalIn (n+1) t (.int k a) (.int k b)).run P w= .ok (a==b) w:= by
  unfold Op.equalIn
  simp only[Sem.run_bind,run_underlying hu,Result.andThen]
  simp
structure MapAt {κ:Type} (kv:κ→Value) (w:World) (b:Nat) (es:Array MapEntry) (clock:Nat):Prop where
  blk:w.heap[b]? =some (.map es clock)
  stamped:MapKept.Stamped es clock
  keys: ∀x∈es.toList,∃a,x.key=kv a
section
variable {κ:Type} {kv:κ→Value} {w:World} {b:Nat} {es:Array MapEntry} {clock:Nat}
theorem MapAt.lt (h:MapAt kv w b es clock):b<w.heap.size:= by
  rcases Nat.lt_or_ge b w.heap.size with g | g
  · exact g
  · have :=h.blk; simp [Array.getElem?_eq_none g]at this
theorem MapAt.congr {w':World} (h:MapAt kv w b es clock) (e:w'.heap[b]? =w.heap[b]?):MapAt kv w' b es clock:=⟨by rw[e]; exact h.blk,h.stamped,h.keys⟩
theorem Only.setObj (w:World) (b:Nat) (o:Obj):Only [b] w {w with heap:=w.heap.setIfInBounds b o}:=
  ⟨rfl,rfl,rfl, by simp, fun k hk hn=> by
    have :b≠k:= by intro q; subst q; simp at hn
    simp [Array.getElem?_setIfInBounds,this]⟩
theorem M7 {P:Program} {o:Oper} {a:Act} (kv:κ→Value) (t:TypeId) (ho:o.op= .makeMap t none):
    does P o a w (fun v w'=>v= .map (some w.heap.size)∧MapAt kv w' w.heap.size #[] 0∧w'=w.alloc (.map #[] 0)):= by
  refine⟨_,_,.inl ?_,rfl,⟨(MapKept.heap_alloc w _).1,MapKept.stamped_empty _, by simp⟩,rfl⟩
  simp [execOp,ho,Instr.makeMap]
theorem Ch {P:Program} {o:Oper} {a:Act} (mt:TypeId) (x y:Operand) (ho:o.op= .lookup mt x y false) {kt et:TypeId} (K:KeyOk P kt kv) (hm:P.underlying mt=some (.map kt et)) (h:MapAt kv w b es clock)
    (hx:a.eval x= .map (some b)) {k:κ} (hy:a.eval y=kv k) {z:Value} (hz:(zeroValue et).run P w= .ok z w):
    does P o a w (fun v w'=>((∃e∈es.toList,e.key=kv k∧v=e.val)∨((∀e∈es.toList,e.key≠kv k)∧v=z))∧w=w'):= by
  rcases K.find k es.toList w h.keys with⟨i,e,h1,h2,h3⟩ | ⟨h1,h2⟩
  · refine⟨e.val,w,.inl ?_,.inl ⟨e,List.mem_of_getElem? h1,h2,U⟩,U⟩
    simp [execOp,ho,hx,hy,Instr.lookup,run_underlying hm,MapKept.run_getObj_map h.blk,K.check,h3]
  · refine⟨z,w,.inl ?_,.inr ⟨h1,U⟩,U⟩
    simp [execOp,ho,hx,hy,Instr.lookup,run_underlying hm,MapKept.run_getObj_map h.blk,K.check,h2,hz]
def isPut (kv:κ→Value) (es es':Array MapEntry) (clock clock':Nat) (k:κ) (v:Value):Prop:=
  (clock'=clock∧ ∃i e,es[i]? =some e∧e.key=kv k∧es'=es.modify i (fun e=>{e with key:=kv k,val:=v}))∨
  (clock'=clock+1∧(∀e∈es.toList,e.key≠kv k)∧es'=es.push {key:=kv k,val:=v,born:=clock})
theorem D5 {α β:Type} (f:α→β) {l:List α} (h:(l.map f).Nodup) {i j:Nat} {x y:α} (hi:l[i]? =some x) (hj:l[j]? =some y) (e:f x=f y):i=j:= by
  have hp:=List.pairwise_iff_getElem.1 h
  obtain⟨hi',ex⟩:=XL hi
  obtain⟨hj',ey⟩:=XL hj
  rcases Nat.lt_trichotomy i j with g | g | g
  · exact(hp i j (by simpa using hi') (by simpa using hj') g (by simp [ex,ey,e])).elim
  · exact g
  · exact(hp j i (by simpa using hj') (by simpa using hi') g (by simp [ex,ey,e])).elim
theorem Mv {l:List MapEntry} (h:(l.map (·.key)).Nodup) {i j:Nat} {x y:MapEntry} (hi:l[i]? =some x) (hj:l[j]? =some y) (e:x.key=y.key):i=j:=D5 _ h hi hj e
theorem ES {l:List MapEntry} (h:(l.map (·.born)).Nodup) {i j:Nat} {x y:MapEntry} (hi:l[i]? =some x) (hj:l[j]? =some y) (e:x.born=y.born):i=j:=D5 _ h hi hj e
theorem key_one {l:List MapEntry} (h:(l.map (·.key)).Nodup) {x y:MapEntry} (hx:x∈l) (hy:y∈l) (e:x.key=y.key):x=y:= by
  obtain⟨i,hi⟩:=List.mem_iff_getElem?.1 hx
  obtain⟨j,hj⟩:=List.mem_iff_getElem?.1 hy
  have :=Mv h hi hj e
  subst this; rw[hi]at hj; exact Option.some.inj hj
theorem isPut.stamped {es':Array MapEntry} {clock':Nat} {k:κ} {v:Value} (h:isPut kv es es' clock clock' k v) (hs:MapKept.Stamped es clock):MapKept.Stamped es' clock':= by
  rcases h with⟨rfl,i,e,h1,h2,rfl⟩ | ⟨rfl,h1,rfl⟩
  · exact MapKept.stamped_modify hs i _ (fun _ _=>rfl) (fun x _ hx=> by rw[h1]at hx; cases hx; exact h2.symm)
  · exact MapKept.stamped_push hs h1
theorem isPut.mem {es':Array MapEntry} {clock':Nat} {k:κ} {v:Value} (h:isPut kv es es' clock clock' k v) (hs:MapKept.Stamped es clock):
    (∀x∈es'.toList,(x.key=kv k∧x.val=v)∨(x.key≠kv k∧x∈es.toList))∧(∀x∈es.toList,x.key≠kv k→x∈es'.toList)∧ ∃x∈es'.toList,x.key=kv k∧x.val=v:= by
  rcases h with⟨rfl,i,e,h1,h2,rfl⟩ | ⟨rfl,h1,rfl⟩
  · have hil:es.toList[i]? =some e:= by simpa using h1
    refine⟨fun x hx=> ?_, fun x hx hk=> ?_, ?_⟩
    · obtain⟨j,hj⟩:=List.mem_iff_getElem?.1 hx
      rw[Array.getElem?_toList,Array.getElem?_modify]at hj
      by_cases hij:i=j
      · subst hij
        rw[if_pos U,h1]at hj
        simp at hj; subst hj
        exact .inl ⟨U,U⟩
      · rw[if_neg hij]at hj
        have hj':es.toList[j]? =some x:= by simpa using hj
        exact .inr ⟨fun q=>hij (Mv hs.2.2 hil hj' (by rw[h2,q])),List.mem_of_getElem? hj'⟩
    · obtain⟨j,hj⟩:=List.mem_iff_getElem?.1 hx
      have hij:i≠j:= by intro q; subst q; rw[hil]at hj; cases hj; exact hk h2
      refine List.mem_of_getElem? (i:=j) ?_
      rw[Array.getElem?_toList,Array.getElem?_modify,if_neg hij];simpa using hj
    · refine⟨{e with key:=kv k,val:=v},List.mem_of_getElem? (i:=i) ?_,U,U⟩
      rw[Array.getElem?_toList,Array.getElem?_modify,if_pos U,h1];rfl
  · refine⟨fun x hx=> ?_, fun x hx _=> by simp at hx⊢; exact .inl hx,⟨_, by simp; exact .inr U,rfl,rfl⟩⟩
    simp at hx
    rcases hx with hx | rfl
    · exact .inr ⟨h1 x (by simpa using hx), by simpa using hx⟩
    · exact .inl ⟨U,U⟩
theorem MapAt.put {es':Array MapEntry} {clock':Nat} {k:κ} {v:Value} (h:MapAt kv w b es clock) (hp:isPut kv es es' clock clock' k v):MapAt kv {w with heap:=w.heap.setIfInBounds b (.map es' clock')} b es' clock':=
  ⟨(MapKept.heap_set h.blk).1,hp.stamped h.stamped, fun x hx=> by
    rcases(hp.mem h.stamped).1 x hx with⟨h1,_⟩ | ⟨_,h1⟩
    · exact⟨k,h1⟩
    · exact h.keys x h1⟩
theorem B3 {P:Program} {o:Oper} {a:Act} (mt:TypeId) (x y z:Operand) (ho:o.op= .mapUpdate mt x y z) {kt et:TypeId} (K:KeyOk P kt kv) (hm:P.underlying mt=some (.map kt et)) (h:MapAt kv w b es clock)
    (hx:a.eval x= .map (some b)) {k:κ} (hy:a.eval y=kv k) {v:Value} (hz:a.eval z=v):
    does P o a w (fun u w'=>u=undef∧ ∃es' clock',isPut kv es es' clock clock' k v∧MapAt kv w' b es' clock'∧Only [b] w w'∧w'.heap.size=w.heap.size):= by
  rcases K.find k es.toList w h.keys with⟨i,e,h1,h2,h3⟩ | ⟨h1,h2⟩
  · have hp:isPut kv es (es.modify i (fun e=>{e with key:=kv k,val:=v})) clock clock k v:= .inl ⟨rfl,i,e, by simpa using h1,h2,rfl⟩
    refine⟨undef,_,.inr ⟨?_,rfl⟩,rfl,_,_,hp,h.put hp,Only.setObj _ _ _, by simp⟩
    have h1':es[i]? =some e:= by simpa using h1
    simp [execOp,ho,hx,hy,hz,Instr.mapUpdate,run_underlying hm,MapKept.run_getObj_map h.blk,MapKept.run_setObj_map _ h.blk,K.check,h3,h1',h2,Instr.keyThatStays,K.bits]
  · have hp:isPut kv es (es.push {key:=kv k,val:=v,born:=clock}) clock (clock+1) k v:= .inr ⟨rfl,h1,rfl⟩
    refine⟨undef,_,.inr ⟨?_,rfl⟩,rfl,_,_,hp,h.put hp,Only.setObj _ _ _, by simp⟩
    simp [execOp,ho,hx,hy,hz,Instr.mapUpdate,run_underlying hm,MapKept.run_getObj_map h.blk,MapKept.run_setObj_map _ h.blk,K.check,h2]
theorem Cj {P:Program} {o:Oper} {a:Act} (mt t2:TypeId) (x y:Operand) (ho:o.op= .call {callee:= .builtin .delete,args:= #[x,y],argTypes:= #[mt,t2]}) {kt et:TypeId} (K:KeyOk P kt kv) (hm:P.underlying mt=some (.map kt et)) (h:MapAt kv w b es clock)
    (hx:a.eval x= .map (some b)) {k:κ} (hy:a.eval y=kv k):
    does P o a w (fun u w'=>u= .tuple #[]∧ ∃es',(∀e,e∈es'.toList↔e∈es.toList∧e.key≠kv k)∧MapAt kv w' b es' clock∧Only [b] w w'∧w'.heap.size=w.heap.size):= by
  rcases K.find k es.toList w h.keys with⟨i,e,h1,h2,h3⟩ | ⟨h1,h2⟩
  · have hl:(es.eraseIdxIfInBounds i).toList=es.toList.eraseIdx i:= by
      unfold Array.eraseIdxIfInBounds
      split
      · simp only[Array.toList_eraseIdx]
      · rename_i hn; rw[List.eraseIdx_of_length_le (by simpa using hn)]
    have hm': ∀x,x∈(es.eraseIdxIfInBounds i).toList↔x∈es.toList∧x.key≠kv k:= by
      intro x
      rw[hl,List.mem_eraseIdx_iff_getElem?]
      constructor
      · rintro⟨j,hj,hx⟩
        exact⟨List.mem_of_getElem? hx, fun q=>hj (Mv h.stamped.2.2 hx h1 (by rw[h2,q]))⟩
      · rintro⟨hx,hk⟩
        obtain⟨j,hj⟩:=List.mem_iff_getElem?.1 hx
        exact⟨j, fun q=> by subst q; rw[hj]at h1; cases h1; exact hk h2,hj⟩
    refine⟨_,_,.inl ?_,rfl,_,hm',⟨(MapKept.heap_set h.blk).1,MapKept.stamped_erase h.stamped i, fun x hx=>h.keys x ((hm' x).1 hx).1⟩,Only.setObj _ _ _, by simp⟩
    simp [execOp,ho,hx,hy,resolve,invoke,builtin,Builtin.delete_,run_underlying hm,MapKept.run_getObj_map h.blk,MapKept.run_setObj_map _ h.blk,K.check,h3]
  · refine⟨_,_,.inl ?_,rfl,es, fun x=>⟨fun hx=>⟨hx,h1 x hx⟩, fun hx=>hx.1⟩,⟨(MapKept.heap_set h.blk).1,h.stamped,h.keys⟩,Only.setObj _ _ _, by simp⟩
    simp [execOp,ho,hx,hy,resolve,invoke,builtin,Builtin.delete_,run_underlying hm,MapKept.run_getObj_map h.blk,MapKept.run_setObj_map _ h.blk,K.check,h2]
def IterAt (w:World) (r b since:Nat) (seen:Array Nat) (c0:Nat):Prop:=w.heap[r]? =some (.mapIter (some b) since seen c0)
theorem IterAt.lt {r since c0:Nat} {seen:Array Nat} (h:IterAt w r b since seen c0):r<w.heap.size:= by
  rcases Nat.lt_or_ge r w.heap.size with g | g
  · exact g
  · unfold IterAt at h; simp [Array.getElem?_eq_none g]at h
theorem Nz {P:Program} {o:Oper} {a:Act} (mt:TypeId) (x:Operand) (ho:o.op= .range mt x) {kt et:TypeId} (hm:P.underlying mt=some (.map kt et)) (h:MapAt kv w b es clock) (hx:a.eval x= .map (some b)):
    does P o a w (fun v w'=>v= .pointer (some ⟨w.heap.size,0,none⟩)∧IterAt w' w.heap.size b clock #[] clock∧w'=w.alloc (.mapIter (some b) clock #[] clock)):= by
  refine⟨_,_,.inl ?_,U,(MapKept.heap_alloc w _).1,U⟩
  simp [execOp,ho,hx,run_range_map w mt kt et b es clock hm h.blk]
theorem SW {P:Program} {o:Oper} {a:Act} (x:Operand) (ho:o.op= .next x false) {r:Nat} {seen:Array Nat} (h:MapAt kv w b es clock) (hi:IterAt w r b clock seen clock) (hx:a.eval x= .pointer (some ⟨r,0,none⟩)):
    does P o a w (fun v w'=>(v= .tuple #[.bool false]∧w=w'∧ ∀e∈es.toList,e.born∈seen.toList)∨
      ∃e∈es.toList,e.born∉seen.toList∧v= .tuple #[.bool true,e.key,e.val]∧Only [r] w w'∧IterAt w' r b clock (seen.push e.born) clock∧w'.heap.size=w.heap.size):= by
  rcases run_next_at (P:=P) w o.type r b clock clock seen es clock hi h.blk h.stamped.1 (Nat.le_refl _)with⟨h1,h2⟩ | ⟨e,he,w1,hw1,h2⟩
  · refine⟨_,w,.inl ?_,.inl ⟨rfl,rfl, fun e he=> ?_⟩⟩
    · simp [execOp,ho,hx,h2]
    · have hz:(leftOf es seen).toList=[]:=List.eq_nil_of_length_eq_zero (by simpa using h1)
      apply Classical.byContradiction
      intro hn
      have :e∈(leftOf es seen).toList:= by simp [leftOf]at he hn⊢; exact⟨he,hn⟩
      rw[hz]at this; cases this
  · have he':e∈es.toList∧e.born∉seen.toList:= by simpa [leftOf]using he
    refine⟨.tuple #[.bool true,e.key,e.val],ChangeMaps.setBlock w1 r (.mapIter (some b) clock (seen.push e.born) clock),.inl ?_,.inr ⟨e,he'.1,he'.2,U, ?_, ?_, ?_⟩⟩
    · simp [execOp,ho,hx,h2]
    · rcases hw1 with rfl | rfl
      · exact Only.setObj _ _ _
      · exact(Only.refl _ w).drew.trans1 (Only.setObj w.drew r _)
    · have :r<w1.heap.size:= by rcases hw1 with rfl | rfl<;> exact hi.lt
      simp [IterAt,ChangeMaps.setBlock,this]
    · rcases hw1 with rfl | rfl<;> simp [ChangeMaps.setBlock]<;>rfl
theorem N0 {P:Program} {o:Oper} {a:Act} (x:Operand) (ho:o.op= .entry x) {r:Nat} {seen:Array Nat} {e:MapEntry} (h:MapAt kv w b es clock) (hi:IterAt w r b clock (seen.push e.born) clock) (he:e∈es.toList) (hx:a.eval x= .pointer (some ⟨r,0,none⟩)):
    does P o a w (fun v w'=>v= .tuple #[e.key,e.val]∧w=w'):= by
  refine⟨_,w,.inl ?_,U,U⟩
  simp [execOp,ho,hx,run_entry_at (P:=P) w r b clock seen es clock e hi h.blk he h.stamped.2.1]
end
section
variable {κ:Type} {kv:κ→Value}
def Reads (kv:κ→Value) (es:Array MapEntry) (f:κ→Option Value):Prop:= ∀k v,f k=some v↔ ∃e∈es.toList,e.key=kv k∧e.val=v
def Q6 (kv:κ→Value) (b:Nat) (f:κ→Option Value):Th where
  at_:= fun w F=>(F= fun k=>k=b)∧ ∃es clock,MapAt kv w b es clock∧Reads kv es f
  fr:= fun a ⟨e,es,c,h,r⟩=>⟨e,es,c,h.congr (a.blk _ (by rw[e])),r⟩
  lt:= fun ⟨e,es,c,h,_⟩ k hk=> by rw[e]at hk; subst hk; exact h.lt
open Classical in
noncomputable def upd (f:κ→Option Value) (k:κ) (v:Option Value):κ→Option Value:= fun j=> if j=k then v else f j
theorem Z0 {f:κ→Option Value} {k:κ} {v:Option Value}:upd f k v k=v:= by simp [upd]
theorem Wp {f:κ→Option Value} {k j:κ} {v:Option Value} (h:j≠k):upd f k v j=f j:= by simp [upd,h]
theorem Sat.map {w:World} {As:List Th} (h:Sat w As) (i:Nat) {b:Nat} {f:κ→Option Value} (hi:As[i]? =some (Q6 kv b f)): ∃es clock,MapAt kv w b es clock∧Reads kv es f:= by
  obtain⟨F,_,h⟩:=h.get i hi; exact h
theorem Sat.map_set {w w':World} {As:List Th} (h:Sat w As) (i:Nat) {b:Nat} {f f':κ→Option Value} (hi:As[i]? =some (Q6 kv b f)) {es:Array MapEntry} {clock:Nat} (hm:MapAt kv w' b es clock) (hr:Reads kv es f') (ho:Only [b] w w'):Sat w' (As.set i (Q6 kv b f')):=
  h.step i hi fun F ⟨e,_⟩=>⟨F,⟨e,es,clock,hm,hr⟩, fun k hk=> .inl hk,ho.agree (fun x hx=> .inl (by simp only[List.mem_singleton]at hx; subst hx; rw[e]))⟩
theorem Reads.put {P:Program} {kt:TypeId} (K:KeyOk P kt kv) {es es':Array MapEntry} {clock clock':Nat} {f:κ→Option Value} (h:Reads kv es f) (hs:MapKept.Stamped es clock) {k:κ} {v:Value} (hp:isPut kv es es' clock clock' k v):Reads kv es' (upd f k (some v)):= by
  intro j u
  obtain⟨m1,m2,m3⟩:=hp.mem hs
  by_cases hj:j=k
  · subst hj
    rw[Z0]
    constructor
    · intro e; cases e; exact m3
    · rintro⟨e,he,hk,rfl⟩
      rcases m1 e he with⟨_,h2⟩ | ⟨h2,_⟩
      · rw[h2]
      · exact absurd hk h2
  · rw[Wp hj,h j u]
    constructor
    · rintro⟨e,he,hk,hv⟩
      exact⟨e,m2 e he (fun q=>hj (K.inj _ _ (hk.symm.trans q))),hk,hv⟩
    · rintro⟨e,he,hk,hv⟩
      rcases m1 e he with⟨h2,_⟩ | ⟨_,h2⟩
      · exact absurd (K.inj _ _ (hk.symm.trans h2)) hj
      · exact⟨e,h2,hk,hv⟩
section
variable {P:Program} {n:Nat} {ops:Array Oper} {Q:Exit→Act→World→Prop} {rest:List Oper} {L:Env} {w:World} {d:Nat} {ty:TypeId} {pos:String} {aft:Array Edge}
theorem Zg (kv:κ→Value) {t:Nat} {As:List Th} (hS:Sat w As) (hd:Nat.blt d n=true) (hk: ∀b w',Sat w' (Q6 kv b (fun _=>none)::As)→wl P n ops Q rest ((d,.map (some b))::L) w'):wl P n ops Q (⟨some d,.makeMap t none,ty,pos,aft,none⟩::rest) L w:=
  XG U hd (fun a _=>M7 kv t U) (by
    rintro v w' ⟨rfl,h1,h2⟩
    have ho:Only [] w w':= by rw[h2]; exact(Only.refl _ _).alloc _
    exact hk _ _ (hS.new ho (A:=Q6 kv w.heap.size (fun _=>none)) ⟨rfl,_,_,h1, fun k v=> by simp⟩ (fun k hk=> by rw[hk]; exact Nat.le_refl _)))
theorem X8 {mt kt et:TypeId} {x y:Operand} {b:Nat} {f:κ→Option Value} {As:List Th} {k:κ} {z:Value} (i:Nat) (hS:Sat w As) (K:KeyOk P kt kv) (hm:P.underlying mt=some (.map kt et)) (hi:As[i]? =some (Q6 kv b f)) (hx:look L x=some (.map (some b))) (hy:look L y=some (kv k)) (hz:XQ P et=some (some z)) {u:Value} (hv:(f k).getD z=u) (hd:Nat.blt d n=true)
    (hk:wl P n ops Q rest ((d,u)::L) w):wl P n ops Q (⟨some d,.lookup mt x y false,ty,pos,aft,none⟩::rest) L w:= by
  obtain⟨es,c,h1,h2⟩:=hS.map i hi
  refine XG U hd (fun a ha=>Ch mt x y U K hm h1 (ha.eval hx) (ha.eval hy) (J9 hz w)) ?_
  rintro v w' ⟨h3,rfl⟩
  have e:v=(f k).getD z:= by
    rcases h3 with⟨e,he,hkk,rfl⟩ | ⟨hn,rfl⟩
    · rw[(h2 k e.val).2 ⟨e,he,hkk,rfl⟩];rfl
    · cases hf:f k with
      | none=>rfl
      | some u=> obtain⟨e,he,hkk,_⟩:=(h2 k u).1 hf; exact absurd hkk (hn e he)
  subst e; subst hv
  exact hk
theorem Xi {mt kt et:TypeId} {x y z:Operand} {b:Nat} {f:κ→Option Value} {As:List Th} {k:κ} {v:Value} (i:Nat) (hS:Sat w As) (K:KeyOk P kt kv) (hm:P.underlying mt=some (.map kt et)) (hi:As[i]? =some (Q6 kv b f)) (hx:look L x=some (.map (some b))) (hy:look L y=some (kv k)) (hz:look L z=some v)
    (hk: ∀w',Sat w' (As.set i (Q6 kv b (upd f k (some v))))→wl P n ops Q rest L w'):wl P n ops Q (⟨none,.mapUpdate mt x y z,ty,pos,aft,none⟩::rest) L w:= by
  obtain⟨es,c,h1,h2⟩:=hS.map i hi
  refine XG U U (fun a ha=>B3 mt x y z U K hm h1 (ha.eval hx) (ha.eval hy) (ha.eval hz)) ?_
  rintro _ w' ⟨rfl,es',c',hp,h3,h4,_⟩
  exact hk w' (hS.map_set i hi h3 (h2.put K h1.stamped hp) h4)
end
end
theorem Sat.drew {w:World} {As:List Th} (h:Sat w As):Sat w.drew As:=h.only ((Only.refl [] w).drew)
section
variable {P:Program} {n:Nat} {ops:Array Oper} {Q:Exit→Act→World→Prop} {rest:List Oper} {L:Env} {w:World} {d:Nat} {ty:TypeId} {pos:String} {aft:Array Edge}
theorem Sat.own_shape {As:List Th} (hS:Sat w As) (i:Nat) {v:Value} {m size:Nat} {xs:List Value} (hi:As[i]? =some (W6 v m size xs)): ∃ao cap,v= .slice ao m cap∧m≤cap∧xs.length=m*size:= by
  obtain⟨f,h⟩:=hS.own i hi
  obtain⟨a,c,h1,h2⟩:=h.shape
  exact⟨a,c,h1,h2,h.1⟩
theorem Sat.own_one {As:List Th} (hS:Sat w As) (i:Nat) {v:Value} {m size:Nat} {xs:List Value} (hi:As[i]? =some (W6 v m size xs)):v.oneCell'=true:= by
  obtain⟨ao,cap,rfl,_⟩:=hS.own_shape i hi
  rfl
theorem Sat.own_at {As:List Th} (hS:Sat w As) (i:Nat) {v:Value} {m size:Nat} {xs:List Value} (hi:As[i]? =some (W6 v m size xs)) (hm:0<m): ∃b cap,v= .slice (some ⟨b,0,none⟩) m cap∧m≤cap:= by
  obtain⟨f,h⟩:=hS.own i hi
  obtain⟨b,cap,sp,h1,h2,_⟩:=h.row hm
  exact⟨b,cap,h1,h2⟩
theorem Sat.ocell {As:List Th} (hS:Sat w As) (i:Nat) {v u:Value} {m size b o k cap m':Nat} {xs:List Value} (hi:As[i]? =some (W6 v m size xs)) (hv:v= .slice (some ⟨b,o,none⟩) m' cap) (hx:xs[k]? =some u):w.cell? ⟨b,k,none⟩=some u:= by
  obtain⟨f,h⟩:=hS.own i hi
  subst hv
  exact h.cell hx
theorem Xo {As:List Th} (i:Nat) (hS:Sat w As) {x:Operand} {t e m size:Nat} {v:Value} {xs:List Value} (hu:P.underlying t=some (.slice e)) (hi:As[i]? =some (W6 v m size xs)) (hx:look L x=some v) (hd:Nat.blt d n=true) (hk:wl P n ops Q rest ((d,.int .i64 (m:Int))::L) w):wl P n ops Q (⟨some d,.call ⟨.builtin .len, #[x], #[t]⟩,ty,pos,aft,none⟩::rest) L w:= by
  obtain⟨ao,cap,rfl,_⟩:=hS.own_shape i hi
  exact XB hu hx hd hk
theorem PW {As:List Th} (i j:Nat) (hS:Sat w As) {x y:Operand} {t sz m size:Nat} {k:IntKind} {a:Int} {v:Value} {xs:List Value} (hi:As[i]? =some (W6 v m size xs)) (hx:look L x=some v) (hy:look L y=some (.int k a)) (ha:a=(j:Int)) (hj:j<m) (hs:Ya P t=some sz) (hd:Nat.blt d n=true)
    (hk: ∀b cap,v= .slice (some ⟨b,0,none⟩) m cap→wl P n ops Q rest ((d,ptrV b (j*sz))::L) w):wl P n ops Q (⟨some d,.indexAddr t x y,ty,pos,aft,none⟩::rest) L w:= by
  obtain⟨b,cap,rfl,_⟩:=hS.own_at i hi (by omega)
  refine Za j hx hy ha hj hs hd ?_
  rw[Nat.zero_add]
  exact hk b cap U
theorem Cg {o:Oper} {a:Act} {t b off m:Nat} {x y:Operand} {u:Value} {cs:List Value} (ho:o.op= .store t x y) (hx:a.eval x= .pointer (some ⟨b,off,none⟩)) (hy:a.eval y=u) (hb:Blk w b cs) (hs:ZO P t=some m) (hm:u.cells.size=m) (hn:off+m≤cs.length) (h1: ∀v∈u.cells.toList,v.oneCell'=true):
    does P o a w (fun v w'=>v=undef∧Blk w' b (Xz cs off u.cells.toList)∧Only [b] w w'):= by
  obtain⟨w',hr,hb',ho',hsz⟩:=ZC (P:=P) u.cells.toList 0 cs w b off hb (by simp [hm];omega) h1
  refine⟨_,w',.inr ⟨?_,U⟩,U,hb',ho'⟩
  simp [execOp,ho,hx,hy,Instr.storeAt,Instr.sureAddr,storeVar,Zm hs,hm,hr]
theorem BX {As:List Th} (i:Nat) (hS:Sat w As) {x y:Operand} {t b o cap m m' q size:Nat} {v u:Value} {xs xs':List Value} (hi:As[i]? =some (W6 v m size xs)) (hv:v= .slice (some ⟨b,0,none⟩) m' cap) (hx:look L x=some (ptrV b o)) (hy:look L y=some u) (hs:ZO P t=some q) (hq:u.cells.size=q) (h1:QV u.cells.toList=true) (ho:o+q≤xs.length) (hxs:Xz xs o u.cells.toList=xs')
    (hk: ∀w',Sat w' (As.set i (W6 v m size xs'))→wl P n ops Q rest L w'):wl P n ops Q (⟨none,.store t x y,ty,pos,aft,none⟩::rest) L w:= by
  subst hxs
  obtain⟨f,hown⟩:=hS.own i hi
  subst hv
  obtain⟨hl,⟨h0,_⟩ | ⟨b',cap',sp,h0,hc,hb,hlen,rfl⟩⟩:=hown
  · cases h0
  · cases h0
    refine XG U U (fun a ha=>Cg U (ha.eval hx) (ha.eval hy) hb hs hq (by simp;omega) (WA h1)) ?_
    rintro _ w' ⟨_,h2,h3⟩
    have hsl:(Xz xs o u.cells.toList).length=xs.length:=WH (by simp [hq];omega)
    refine hk w' (hS.own_set i hi fun foot hown2=>⟨[b], ?_, ?_, ?_⟩)
    · refine⟨by rw[hsl]; exact hl,.inr ⟨b,cap,sp,rfl,hc, ?_, by rw[List.length_append,hsl,←List.length_append]; exact hlen,rfl⟩⟩
      rw[J8 (by simp [hq];omega)]at h2
      exact h2
    · obtain⟨_,⟨h0,_⟩ | ⟨b2,cap2,sp2,h0,_,_,_,rfl⟩⟩:=hown2
      · cases h0
      · cases h0; exact h3
    · obtain⟨_,⟨h0,_⟩ | ⟨b2,cap2,sp2,h0,_,_,_,rfl⟩⟩:=hown2
      · cases h0
      · cases h0; exact fun k hk=> .inl hk
theorem Ma {As:List Th} (hS:Sat w As) {t e size bytes:Nat} {x y:Operand} {z:Value} {kl kc:IntKind} {A:Int} (m:Nat) (hx:look L x=some (.int kl A)) (hy:look L y=some (.int kc A)) (hA:A=(m:Int)) (hu:P.underlying t=some (.slice e)) (hi:(P.info? e).map (fun i=>(i.zero,i.size,i.bytes))=some (some z,size,bytes)) (hz:z.cells.size=size) (hb:bytes*m≤281474976710656) (hm:m≤9223372036854775807) (hd:Nat.blt d n=true)
    (hk: ∀b w',Sat w' (W6 (.slice (some ⟨b,0,none⟩) m m) m size (List.replicate m z.cells.toList).flatten::As)→wl P n ops Q rest ((d,.slice (some ⟨b,0,none⟩) m m)::L) w'):wl P n ops Q (⟨some d,.makeSlice t x y,ty,pos,aft,none⟩::rest) L w:=
  XG U hd (fun a ha=>SX t x y U (ha.eval hx) (ha.eval hy) hA hA (Nat.le_refl _) hu hi hz hb hm) (by
    rintro v w' ⟨rfl,h1,h2,_⟩
    refine hk _ _ (hS.new h2 (F':= fun k=>k∈[w.heap.size]) (A:=W6 _ _ _ _) ⟨[w.heap.size],rfl,HZ (sp:=[]) (by simpa using h1) (by simp [hz]) (Nat.le_refl _) (by simp [hz])⟩ (fun k hk=> by simp at hk;omega)))
theorem Sc {As:List Th} (i:Nat) (hS:Sat w As) {t t2 e size bytes m q:Nat} {s x:Operand} {z sv xv:Value} {d2:TypeDesc} {xs news:List Value} (hi:As[i]? =some (W6 sv m size xs)) (hs:look L s=some sv) (hx:look L x=some xv) (hu:P.underlying t=some (.slice e)) (hu2:P.underlying t2=some d2) (hd2: ∀k,d2≠ .int k)
    (hif:(P.info? e).map (fun i=>(i.zero,i.size,i.bytes))=some (some z,size,bytes)) (hz:z.cells.size=size) (h0:0<size) (hx1: ∀w1,(Builtin.lenOf xv).run P w1= .ok q w1) (hx2: ∀w1:World,w1.heap=w.heap→(Builtin.firstCells size q xv).run P w1= .ok news.toArray w1) (hnl:news.length=q*size) (h1:QV news=true)
    (hb:(m+q)*bytes≤140737488355328) (hm:m+q≤9223372036854775807) (hd:Nat.blt d n=true) (hk: ∀v w',Sat w' (As.set i (W6 v (m+q) size (xs++news)))→wl P n ops Q rest ((d,v)::L) w'):wl P n ops Q (⟨some d,.call ⟨.builtin .append, #[s,x], #[t,t2]⟩,ty,pos,aft,none⟩::rest) L w:= by
  obtain⟨F,h⟩:=hS.own i hi
  refine XG U hd (R:= fun v w'=>Sat w' (As.set i (W6 v (m+q) size (xs++news)))) (fun a ha=> ?_) (fun v w' hR=>hk v w' hR)
  refine(UA t t2 s x U (ha.eval hs) (ha.eval hx) h hu hu2 hd2 hif hz h0 hx1 hx2 hnl (WA h1) hb hm).mono ?_
  rintro v w' ⟨foot',hown,ho,hf,_⟩
  have hfoot: ∀foot,Own w sv m size xs foot→foot=F:= by
    intro foot h'
    obtain⟨_,⟨e1,_,rfl⟩ | ⟨b1,c1,s1,e1,_,_,_,rfl⟩⟩:=h
    · obtain⟨_,⟨e2,_,rfl⟩ | ⟨b2,c2,s2,e2,_,_,_,rfl⟩⟩:=h'
      · rfl
      · rw[e1]at e2; cases e2
    · obtain⟨_,⟨e2,_,rfl⟩ | ⟨b2,c2,s2,e2,_,_,_,rfl⟩⟩:=h'
      · rw[e1]at e2; cases e2
      · rw[e1]at e2; cases e2;rfl
  exact hS.own_set i hi fun foot h'=> by rw[hfoot foot h']at *; exact⟨foot',hown,ho,hf⟩
theorem TZ {x y:Operand} {t e t2:TypeId} {ao:Option Addr} {m c:Nat} (hu:P.underlying t=some (.slice e)) (hx:look L x=some (.slice ao m c)) (hy:look L y=some (.slice none 0 0)):Ev P L w ⟨some d,.binOp .eql t x y t2,ty,pos,aft,none⟩ (.bool ao.isNone):= fun ρ hρ=> by
  have :(Op.equal t (.slice ao m c) (.slice none 0 0)).run P w= .ok ao.isNone w:= by
    unfold Op.equal Op.maxDepth Op.equalIn
    simp only[Sem.run_bind,run_underlying hu,Result.andThen]
    cases ao<;> simp
  simp [execOp,hρ _ _ hx,hρ _ _ hy,eqGuard,binOp,this]
theorem X3 {x:Operand} {t b o m:Nat} {cs:List Value} (hx:look L x=some (ptrV b o)) (ha:Z5 P t=some true) (hs:ZO P t=some m) (hb:Blk w b cs) (hm:o+m≤cs.length) {vs:List Value} (hvs:(cs.drop o).take m=vs):Ev P L w ⟨some d,.load t x,ty,pos,aft,none⟩ (.agg vs.toArray):= by
  subst hvs
  exact fun ρ hρ=> by simp [execOp,hρ _ _ hx,Instr.loadAt,Instr.sureAddr,loadVar,HK ha,Zm hs,WP hb o m hm]
theorem Ef {t:Nat} {parts:List (Nat×Operand)} {vs:List Value} {V:Value} (hx:W8 L (parts.map (·.2))=some vs) (hr: ∀w,(Instr.build t ((parts.map (·.1)).zip vs).toArray).run P w= .ok V w):Ev P L w ⟨some d,.build t parts.toArray,ty,pos,aft,none⟩ V:= fun ρ hρ=> by
  have hev: ∀(ps:List Operand) (us:List Value),W8 L ps=some us→ps.map ρ=us:= by
    intro ps
    induction ps with
    | nil=> intro us h; simp [W8]at h; subst h;rfl
    | cons p ps ih=>
      intro us h
      simp only[W8]at h
      cases h1:look L p with
      | none=> simp [h1]at h
      | some v=>
        cases h2:W8 L ps with
        | none=> simp [h1,h2]at h
        | some vs=> simp [h1,h2]at h; subst h; simp [hρ _ _ h1,ih vs h2]
  have h1:=hev _ _ hx
  have he:(parts.toArray.map fun x=>(x.1,ρ x.2))=((parts.map (·.1)).zip vs).toArray:= by
    rw[←h1]
    apply Array.ext'
    simp
    clear hx hr h1 hev
    induction parts with
    | nil=>rfl
    | cons p ps ih=> simp [ih]
  have hr':=hr w
  rw[←he]at hr'
  simp only[execOp,Sem.run_bind,hr']
  rfl
theorem Xt {κ:Type} {kv:κ→Value} {mt kt et:TypeId} {x y:Operand} {b:Nat} {f:κ→Option Value} {As:List Th} {k:κ} {z:Value} (i:Nat) (hS:Sat w As) (K:KeyOk P kt kv) (hm:P.underlying mt=some (.map kt et)) (hi:As[i]? =some (Q6 kv b f)) (hx:look L x=some (.map (some b))) (hy:look L y=some (kv k)) (hz:XQ P et=some (some z)) {u:Value} (hv:(f k).getD z=u):Ev P L w ⟨some d,.lookup mt x y false,ty,pos,aft,none⟩ u:= fun ρ hρ=> by
  subst hv
  obtain⟨es,c,h,h2⟩:=hS.map i hi
  have hx':=hρ _ _ hx
  have hy':=hρ _ _ hy
  rcases K.find k es.toList w h.keys with⟨j,e,h1,h3,h4⟩ | ⟨h1,h4⟩
  · have :(f k)=some e.val:=(h2 k e.val).2 ⟨e,List.mem_of_getElem? h1,h3,rfl⟩
    simp [execOp,hx',hy',Instr.lookup,run_underlying hm,MapKept.run_getObj_map h.blk,K.check,h4,this]
  · have :f k=none:= by
      cases hf:f k with
      | none=>rfl
      | some u=> obtain⟨e,he,hkk,_⟩:=(h2 k u).1 hf; exact absurd hkk (h1 e he)
    simp [execOp,hx',hy',Instr.lookup,run_underlying hm,MapKept.run_getObj_map h.blk,K.check,h4,this,J9 hz]
theorem MX {x y:Operand} {t e t2:TypeId} {ao:Option Addr} {m c:Nat} (hu:P.underlying t=some (.slice e)) (hx:look L x=some (.slice ao m c)) (hy:look L y=some (.slice none 0 0)) (hd:Nat.blt d n=true) (hk:wl P n ops Q rest ((d,.bool ao.isNone)::L) w):wl P n ops Q (⟨some d,.binOp .eql t x y t2,ty,pos,aft,none⟩::rest) L w:=Xv hd (TZ hu hx hy) hk
theorem Sat.own_row {As:List Th} (hS:Sat w As) (i:Nat) {v:Value} {m size b o m' cap:Nat} {xs:List Value} (hi:As[i]? =some (W6 v m size xs)) (hv:v= .slice (some ⟨b,o,none⟩) m' cap):
    ∃sp,Blk w b (xs++sp)∧ ∀(w':World) (xs':List Value),xs'.length=xs.length→Blk w' b (xs'++sp)→Only [b] w w'→Sat w' (As.set i (W6 v m size xs')):= by
  obtain⟨f,hown⟩:=hS.own i hi
  obtain⟨hl,⟨h0,_⟩ | ⟨b',cap',sp,h0,hc,hb,hlen,rfl⟩⟩:=hown
  · rw[hv]at h0; cases h0
  · have h00:=h0
    rw[hv]at h00; cases h00
    refine⟨sp,hb, fun w' xs' hx' hb' ho=>hS.own_set i hi fun foot hown2=>⟨[b],⟨by rw[hx']; exact hl,.inr ⟨b,cap,sp,h0,hc,hb', by rw[List.length_append,hx',←List.length_append]; exact hlen,rfl⟩⟩, ?_, ?_⟩⟩
    · obtain⟨_,⟨h1,_⟩ | ⟨b2,cap2,sp2,h1,_,_,_,rfl⟩⟩:=hown2
      · rw[h0]at h1; cases h1
      · rw[h0]at h1; cases h1; exact ho
    · obtain⟨_,⟨h1,_⟩ | ⟨b2,cap2,sp2,h1,_,_,_,rfl⟩⟩:=hown2
      · rw[h0]at h1; cases h1
      · rw[h0]at h1; cases h1; exact fun k hk=> .inl hk
theorem ev_strB {As:List Th} (i:Nat) (hS:Sat w As) {x:Operand} {sT dT e b o off m m' cap dl dc:Nat} {v:Value} (l:List UInt8) {xs:List Value} (hi:As[i]? =some (W6 v m 1 xs)) (hv:v= .slice (some ⟨b,o,none⟩) m' cap) (hx:look L x=some (.slice (some ⟨b,off,none⟩) dl dc)) (hs:P.underlying sT=some (.slice e)) (he:P.underlying e=some (.int .u8)) (hd:P.underlying dT=some .string) (hl:(xs.drop off).take dl=Ze l) (hn:l.length=dl):Ev P L w ⟨some d,.convert sT dT x,ty,pos,aft,none⟩ (strV l):= fun ρ hρ=> by
  obtain⟨sp,hb,_⟩:=hS.own_row i hi hv
  subst hn
  have hr:=run_convert_bytes_back (P:=P) w sT dT e ⟨b,off,none⟩ dc l hs he hd (fun j hj=> by
    rw[ZL]
    refine hb.cell ?_
    have h1:=congrArg (fun q=>q[j]?) hl
    simp only[List.getElem?_take,hj,if_true,List.getElem?_drop,B9]at h1
    have hlt:off+j<xs.length:= by
      rcases Nat.lt_or_ge (off+j) xs.length with g | g
      · exact g
      · rw[List.getElem?_eq_none g,Zd hj]at h1; cases h1
    rw[List.getElem?_append_left hlt,h1,Zd hj];rfl)
  simp [execOp,hρ _ _ hx,hr]
theorem Zv {f:Nat} {cap:List Operand} {vs:List Value} (hx:W8 L cap=some vs) (hd:Nat.blt d n=true) (hk:wl P n ops Q rest ((d,.func (.func f) #[] vs.toArray)::L) w):wl P n ops Q (⟨some d,.makeFunc (.func f) #[] cap.toArray,ty,pos,aft,none⟩::rest) L w:= by
  refine XG U hd (R:= fun v w'=>v= .func (.func f) #[] vs.toArray∧w'=w) (fun a ha=>⟨_,_,.inl ?_,rfl,rfl⟩) ?_
  · have h1:=ha.evals hx
    simp [execOp,Instr.makeFunc,h1]
  · rintro v w' ⟨rfl,rfl⟩; exact hk
def XS (P:Program) (t:Nat) (idx:List Nat):Option (List (Nat×Nat)):= match P.underlying t with
  | some (.struct fs)=>idx.mapM fun i=> match fs[i]? with
    | some f=>(ZO P f.type).map fun n=>(f.offset,n)
    | none=>none
  | _=>none
def Jq (P:Program) (t:Nat):Bool:= match P.underlying t with
  | some (.struct fs)=>fs.toList.all fun f=>(ZO P f.type).isSome
  | _=>false
def Wu (z:List Value):List (Nat×Nat)→List Value→List Value
  | p::ps,v::vs=>Wu (Xz z p.1 v.cells.toList) ps vs
  | _,_=>z
def Ju (m:Nat):List (Nat×Nat)→List Value→Bool
  | p::ps,v::vs=>Nat.beq v.cells.size p.2&&Nat.ble (p.1+p.2) m&&Ju m ps vs
  | [],[]=>true
  | _,_=>false
theorem R8: ∀(vs:List Value) (k off:Nat) (cs:Array Value),off+k+vs.length≤cs.size→((vs.zipIdx k).foldl (fun cs (c,j)=>cs.setIfInBounds (off+j) c) cs).toList=Xz cs.toList (off+k) vs
  | [],k,off,cs,_=> by simp [Xz]
  | v::vs,k,off,cs,h=> by
    simp only[List.zipIdx_cons,List.foldl_cons]
    rw[R8 vs (k+1) off _ (by simp at h⊢;omega)]
    simp only[Array.toList_setIfInBounds]
    have e:=list_seg_step cs.toList (off+k) v vs (by simp at h⊢;omega)
    unfold Xz
    rw[←Nat.add_assoc]
    simpa using e
theorem Ue (place:Nat→Option (Nat×Nat)): ∀(idx:List Nat) (pls:List (Nat×Nat)) (vs:List Value) (cells:Array Value),idx.map place=pls.map some→Ju cells.size pls vs=true→Instr.fill place cells (idx.zip vs)=some (Wu cells.toList pls vs).toArray
  | [],[],[],cells,_,_=> by simp [Instr.fill,Wu]
  | [],[],_::_,_,_,h=> by simp [Ju]at h
  | [],_::_,_,_,h,_=> by simp at h
  | _::_,[],_,_,h,_=> by simp at h
  | i::idx,p::pls,[],cells,_,h=> by simp [Ju]at h
  | i::idx,p::pls,v::vs,cells,he,h=> by
    simp only[List.map_cons,List.cons.injEq]at he
    simp only[Ju,Bool.and_eq_true]at h
    obtain⟨⟨h1,h2⟩,h3⟩:=h
    have h1:=Nat.eq_of_beq_eq_true h1
    have h2:=Q7 h2
    have hf:=R8 v.cells.toList 0 p.1 cells (by simp [h1];omega)
    have hf2:(v.cells.zipIdx.foldl (fun cs (c,j)=>cs.setIfInBounds (p.1+j) c) cells).toList=Xz cells.toList p.1 v.cells.toList:= by
      rw[←Array.foldl_toList,Array.toList_zipIdx]
      simpa using hf
    have hs:(v.cells.zipIdx.foldl (fun cs (c,j)=>cs.setIfInBounds (p.1+j) c) cells).size=cells.size:= by
      have :=congrArg List.length hf2
      rw[WH (by simp [h1];omega)]at this
      simpa using this
    simp only[List.zip_cons_cons,Instr.fill,he.1]
    rw[if_neg (by simp [h1];omega),Ue place idx pls vs _ he.2 (by rw[hs]; exact h3),hf2]
    rfl
theorem BP {As:List Th} (hS:Sat w As) {t e size len:Nat} {z:Value} {parts:List (Nat×Operand)} {vs:List Value} (hx:W8 L (parts.map (·.2))=some vs) (hu:P.underlying t=some (.slice e)) (hi:(P.info? e).map (fun i=>(i.zero,i.size))=some (some z,size)) (hlen:Nat.ble (len*size) 1000=true) (hzs:z.cells.size=size)
    (hok:Ju (len*size) ((parts.map (·.1)).map fun i=>(i*size,size)) vs=true) (hd:Nat.blt d n=true)
    (hk: ∀b w',Sat w' (W6 (.slice (some ⟨b,0,none⟩) len len) len size (Wu (List.replicate len z.cells.toList).flatten ((parts.map (·.1)).map fun i=>(i*size,size)) vs)::As)→wl P n ops Q rest ((d,.slice (some ⟨b,0,none⟩) len len)::L) w'):wl P n ops Q (⟨some d,.buildSlice t len parts.toArray,ty,pos,aft,none⟩::rest) L w:= by
  obtain⟨ii,hi1,hi2⟩:=Option.map_eq_some_iff.1 hi
  simp only[Prod.mk.injEq]at hi2
  have hle:len*size≤1000:=Q7 hlen
  have hzl:((Array.range (len*size)).map (z.cells[· %z.cells.size]!)).toList=(List.replicate len z.cells.toList).flatten:= by
    rw[←hzs]; exact Jj z.cells len
  have hzsz:((Array.range (len*size)).map (z.cells[· %z.cells.size]!)).size=len*size:= by simp
  have hf:=Ue (fun i=>some (i*size,size)) (parts.map (·.1)) ((parts.map (·.1)).map fun i=>(i*size,size)) vs ((Array.range (len*size)).map (z.cells[· %z.cells.size]!)) (by simp [Function.comp_def]) (by rw[hzsz]; exact hok)
  rw[hzl]at hf
  generalize hcs:Wu (List.replicate len z.cells.toList).flatten ((parts.map (·.1)).map fun i=>(i*size,size)) vs=cells at hf hk
  have hcl:cells.length=len*size:= by
    have hgen: ∀(pls:List (Nat×Nat)) (vs:List Value) (zz:List Value),Ju zz.length pls vs=true→(Wu zz pls vs).length=zz.length:= by
      intro pls
      induction pls with
      | nil=> intro vs zz _; cases vs<;>rfl
      | cons p pls ih=>
        intro vs zz h
        cases vs with
        | nil=>rfl
        | cons v vs=>
          simp only[Ju,Bool.and_eq_true]at h
          have h1:=Nat.eq_of_beq_eq_true h.1.1
          have h2:=Q7 h.1.2
          have hl:(Xz zz p.1 v.cells.toList).length=zz.length:=WH (by simp [h1];omega)
          simp only[Wu]
          rw[ih vs _ (by rw[hl]; exact h.2),hl]
    have hzl2:(List.replicate len z.cells.toList).flatten.length=len*size:= by simp [hzs]
    rw[←hcs,hgen _ _ _ (by rw[hzl2]; exact hok),hzl2]
  refine XG U hd (R:= fun v w'=>v= .slice (some ⟨w.heap.size,0,none⟩) len len∧w'=w.alloc (.cells cells.toArray e)) (fun a ha=>⟨_,_,.inl ?_,rfl,rfl⟩) ?_
  · have hzv:(zeroValue e).run P w= .ok z w:= by simp [zeroValue,typeInfo,hi1,hi2.1]
    have hso:(sizeOf e).run P w= .ok size w:= by simp [sizeOf,typeInfo,hi1,hi2.2]
    have hev:=ha.evals hx
    have hp:(parts.toArray.map fun (i,x)=>(i,a.eval x)).toList=(parts.map (·.1)).zip vs:= by
      rw[←hev]
      simp
      clear hev hx hf hcs hok
      induction parts with
      | nil=>rfl
      | cons p ps ih=> simp [ih]
    have hno: ¬(2^24<len*size):= by omega
    by_cases hz0:len*size=0
    · have hf':Instr.fill (fun i=>some (i*size,size)) #[] ((parts.map (·.1)).zip vs)=some cells.toArray:= by
        rw[hz0, show Array.range 0= #[] from rfl]at hf;simpa using hf
      simp only[execOp,Instr.buildSlice]
      have hr0:Array.range 0= #[]:=rfl
      simp [run_underlying hu,hso,hz0,newRow,hr0]
      simp at hp
      rw[hp,hf']
      simp
    · simp only[execOp,Instr.buildSlice]
      simp [run_underlying hu,hso,hz0,hno,hzv,newRow]
      simp at hp
      rw[hp,hf]
      simp
  · rintro v w' ⟨rfl,rfl⟩
    exact hk _ _ (hS.new ((Only.refl _ _).alloc _) (F':= fun k=>k∈[w.heap.size]) (A:=W6 _ _ _ _) ⟨[w.heap.size],rfl,HZ (sp:=[]) (by simpa using Blk.new w cells e) (by simpa using hcl) (Nat.le_refl _) (by simpa using hcl)⟩ (fun k hk=> by simp at hk;omega))
theorem Wg {t:Nat} {parts:List (Nat×Operand)} {vs:List Value} {pls:List (Nat×Nat)} {z:List Value} (hx:W8 L (parts.map (·.2))=some vs) (hp:XS P t (parts.map (·.1))=some pls) (ha:Jq P t=true) (hz:XQ P t=some (some (.agg z.toArray))) (hok:Ju z.length pls vs=true):Ev P L w ⟨some d,.build t parts.toArray,ty,pos,aft,none⟩ (.agg (Wu z pls vs).toArray):= by
  refine Ef hx fun w=> ?_
  unfold XS at hp
  unfold Jq at ha
  split at hp
  · rename_i fs hu
    rw[hu]at ha
    simp only at ha
    have hm: ∀(l:List Field),(∀f∈l,(ZO P f.type).isSome=true)→ ∃ps:List (Nat×Nat),ps=l.map (fun f=>(f.offset,(ZO P f.type).getD 0))∧(l.mapM (m:=Sem) fun f=>Prod.mk f.offset<$>sizeOf f.type).run P w= .ok ps w:= by
      intro l
      induction l with
      | nil=> intro _; exact⟨[],rfl, by simp⟩
      | cons f l ih=>
        intro h
        obtain⟨ps,h1,h2⟩:=ih (fun g hg=>h g (by simp [hg]))
        obtain⟨q,hq⟩:=Option.isSome_iff_exists.1 (h f (by simp))
        refine⟨(f.offset,q)::ps, by simp [h1,hq], ?_⟩
        simp [List.mapM_cons,Zm hq,h2]
    obtain⟨ps,hps,hrun⟩:=hm fs.toList (fun f hf=>List.all_eq_true.1 ha f hf)
    have hrun':(fs.mapM (m:=Sem) fun f=>Prod.mk f.offset<$>sizeOf f.type).run P w= .ok ps.toArray w:= by
      rw[Array.mapM_eq_mapM_toList]
      simp [hrun]
    have hpl:(parts.map (·.1)).map (fun i=>ps.toArray[i]?)=pls.map some:= by
      clear hok hx hz hrun hrun'
      generalize parts.map (·.1)=idx at hp
      induction idx generalizing pls with
      | nil=> simp at hp; subst hp;rfl
      | cons i idx ih=>
        rw[List.mapM_cons]at hp
        simp only[Option.bind_eq_bind,Option.bind_eq_some_iff,Option.pure_def,Option.some.injEq]at hp
        obtain⟨p,hp1,qs,hp2,rfl⟩:=hp
        simp only[List.map_cons,ih hp2,List.cons.injEq,and_true]
        cases hfi:fs[i]? with
        | none=> simp [hfi]at hp1
        | some f=>
          simp only[hfi,Option.map_eq_some_iff]at hp1
          obtain⟨q,hq,rfl⟩:=hp1
          rw[hps]
          have :fs.toList[i]? =some f:= by simpa using hfi
          simp [hfi,hq]
    have hfill:=Ue (fun i=>ps.toArray[i]?) (parts.map (·.1)) pls vs z.toArray hpl (by simpa using hok)
    simp only[List.getElem?_toArray]at hfill
    simp [Instr.build,J9 hz,Value.cells,run_underlying hu,hrun']
    rw[hfill];rfl
  · cases hp
theorem Zw {t:Nat} {parts:List (Nat×Operand)} {vs:List Value} {pls:List (Nat×Nat)} {z:List Value} (hx:W8 L (parts.map (·.2))=some vs) (hp:XS P t (parts.map (·.1))=some pls) (ha:Jq P t=true) (hz:XQ P t=some (some (.agg z.toArray))) (hok:Ju z.length pls vs=true) (hd:Nat.blt d n=true) (hk:wl P n ops Q rest ((d,.agg (Wu z pls vs).toArray)::L) w):wl P n ops Q (⟨some d,.build t parts.toArray,ty,pos,aft,none⟩::rest) L w:=
  Xv hd (Wg hx hp ha hz hok) hk
end
section
variable {κ:Type} {kv:κ→Value}
def Kq (es:Array MapEntry) (seen:Array Nat):List MapEntry:=es.toList.filter fun e=> !seen.toList.contains e.born
def Jt (kv:κ→Value) (b r:Nat) (g:κ→Option Value) (dn:κ→Prop) (cur:Option κ) (left:Nat):Th where
  at_:= fun w F=>(F= fun k=>k=b∨k=r)∧b≠r∧ ∃es clock seen,MapAt kv w b es clock∧Reads kv es g∧IterAt w r b clock seen clock∧(∀e∈es.toList,∀k,e.key=kv k→(e.born∈seen.toList↔dn k))∧(Kq es seen).length=left∧
    (∀k,cur=some k→ ∃(s0:Array Nat) (e:MapEntry),seen=s0.push e.born∧e∈es.toList∧e.key=kv k)
  fr:= fun {w w2 F} a h=> by
    obtain⟨e,hne,es,c,sn,h1,h2,h3,h4⟩:=h
    have hb:=a.blk b (by rw[e]; exact .inl U)
    have hr:=a.blk r (by rw[e]; exact .inr U)
    exact⟨e,hne,es,c,sn,h1.congr hb,h2, by unfold IterAt at h3⊢; rw[hr]; exact h3,h4⟩
  lt:= fun h k hk=> by
    obtain⟨e,_,es,c,sn,h1,_,h3,_⟩:=h
    rw[e]at hk
    rcases hk with rfl | rfl
    · exact h1.lt
    · exact h3.lt
theorem W2 {w:World} {As:List Th} {b r:Nat} {g:κ→Option Value} {dn:κ→Prop} {cur:Option κ} {left:Nat} (h:Sat w (Jt kv b r g dn cur left::As)):Sat w (Q6 kv b g::As):= by
  obtain⟨F,F1,F2,rfl,d,⟨e,_,es,c,sn,h1,h2,_⟩,g2⟩:=h
  exact⟨_, fun k=>k=b,F2,rfl, fun k hk hf=>d k (by rw[e]; exact .inl hk) hf,⟨rfl,es,c,h1,h2⟩,g2⟩
section
variable {P:Program} {n:Nat} {ops:Array Oper} {Q:Exit→Act→World→Prop} {rest:List Oper} {L:Env} {w:World} {d:Nat} {ty:TypeId} {pos:String} {aft:Array Edge}
theorem Jw {mt kt et:TypeId} {x:Operand} {b:Nat} {f:κ→Option Value} {As:List Th} (i:Nat) (hS:Sat w As) (hm:P.underlying mt=some (.map kt et)) (hi:As[i]? =some (Q6 kv b f)) (hx:look L x=some (.map (some b))) (hd:Nat.blt d n=true)
    (hk: ∀r left w',Sat w' (As.set i (Jt kv b r f (fun _=>False) none left))→wl P n ops Q rest ((d,ptrV r 0)::L) w'):wl P n ops Q (⟨some d,.range mt x,ty,pos,aft,none⟩::rest) L w:= by
  obtain⟨es,c,h1,h2⟩:=hS.map i hi
  refine XG U hd (fun a ha=>Nz mt x U hm h1 (ha.eval hx)) ?_
  rintro v w' ⟨rfl,h3,h4⟩
  have ho:Only [] w w':= by rw[h4]; exact(Only.refl _ _).alloc _
  refine hk w.heap.size _ w' (hS.step i hi fun F ⟨e,_⟩=>⟨fun k=>k=b∨k=w.heap.size,⟨rfl, ?_,es,c, #[], ?_,h2,h3, by simp,rfl, by simp⟩, ?_, ?_⟩)
  · have :=h1.lt;omega
  · exact h1.congr (ho.block b h1.lt (by simp))
  · rintro k (rfl | rfl)
    · exact .inl (by rw[e])
    · exact .inr (Nat.le_refl _)
  · exact⟨ho.os,ho.tape,ho.output, fun k hk=>ho.block k hk.1 (by simp)⟩
theorem Yk {x:Operand} {b r left:Nat} {g:κ→Option Value} {dn:κ→Prop} {cur:Option κ} {As:List Th} (i:Nat) (hS:Sat w As) (hinj: ∀a b,kv a=kv b→a=b) (hi:As[i]? =some (Jt kv b r g dn cur left)) (hx:look L x=some (ptrV r 0)) (hd:Nat.blt d n=true)
    (h0:(∀k v,g k=some v→dn k)→wl P n ops Q rest ((d,.tuple #[.bool false])::L) w)
    (h1: ∀k v left' w',left=left'+1→g k=some v→ ¬dn k→Sat w' (As.set i (Jt kv b r g (fun j=>dn j∨j=k) (some k) left'))→wl P n ops Q rest ((d,.tuple #[.bool true,kv k,v])::L) w'):wl P n ops Q (⟨some d,.next x false,ty,pos,aft,none⟩::rest) L w:= by
  obtain⟨F,hF,hne,es,c,sn,m1,m2,m3,m4,m5,m6⟩:=hS.get i hi
  refine XG U hd (fun a ha=>SW x U m1 m3 (ha.eval hx)) ?_
  rintro v w' (⟨rfl,rfl,hall⟩ | ⟨e,he,hns,rfl,ho,hit,hsz⟩)
  · refine h0 fun k v hk=> ?_
    obtain⟨e,he,hkk,_⟩:=(m2 k v).1 hk
    exact(m4 e he k hkk).1 (hall e he)
  · obtain⟨k,hk⟩:=m1.keys e he
    have hgk:g k=some e.val:=(m2 k e.val).2 ⟨e,he,hk,rfl⟩
    have hcnt:(Kq es (sn.push e.born)).length+1=(Kq es sn).length:= by
      unfold Kq
      have hnd:=m1.stamped.2.1
      have hmem: ∀l:List MapEntry,(l.map (·.born)).Nodup→e∈l→(l.filter fun x=> !(sn.push e.born).toList.contains x.born).length+1=(l.filter fun x=> !sn.toList.contains x.born).length:= by
        intro l
        induction l with
        | nil=> intro _ h; cases h
        | cons y l ih=>
          intro hn hy
          simp only[List.map_cons,List.nodup_cons]at hn
          rcases List.mem_cons.1 hy with rfl | hy
          · have h1:(!(sn.push e.born).toList.contains e.born)=false:= by simp
            have h2:(!sn.toList.contains e.born)=true:= by simpa using hns
            have h3:l.filter (fun x=> !(sn.push e.born).toList.contains x.born)=l.filter fun x=> !sn.toList.contains x.born:= by
              apply List.filter_congr
              intro x hx
              have :x.born≠e.born:= fun q=>hn.1 (List.mem_map.2 ⟨x,hx,q⟩)
              simp [this]
            rw[List.filter_cons,List.filter_cons,h1,h2,h3]; simp
          · have hne2:y.born≠e.born:= fun q=>hn.1 (List.mem_map.2 ⟨e,hy,q.symm⟩)
            have h1:(!(sn.push e.born).toList.contains y.born)=(!sn.toList.contains y.born):= by simp [hne2]
            have :=ih hn.2 hy
            rw[List.filter_cons,List.filter_cons,h1]
            split
            · simp only[List.length_cons];omega
            · exact this
      exact hmem es.toList hnd he
    rw[hk]
    refine h1 k e.val (Kq es (sn.push e.born)).length w' (by omega) hgk (fun q=>hns ((m4 e he k hk).2 q)) (hS.step i hi fun F2 h2=> ?_)
    have hF2:=h2.1
    refine⟨fun k=>k=b∨k=r,⟨rfl,hne,es,c,sn.push e.born,m1.congr (ho.block b m1.lt (by simpa using hne)),m2,hit, ?_,rfl, ?_⟩, fun q hq=> .inl (by rw[hF2]; exact hq),ho.agree (fun x hx=> .inl (by simp only[List.mem_singleton]at hx; subst hx; rw[hF2]; exact .inr U))⟩
    · intro e2 he2 j hj
      simp only[Array.toList_push,List.mem_append,List.mem_singleton]
      rw[m4 e2 he2 j hj]
      constructor
      · rintro(h | h)
        · exact .inl h
        · have :e2=e:= by
            obtain⟨p,hp⟩:=List.mem_iff_getElem?.1 he2
            obtain⟨q,hq⟩:=List.mem_iff_getElem?.1 he
            have :=ES m1.stamped.2.1 hp hq h
            subst this; rw[hp]at hq; exact Option.some.inj hq
          subst this
          exact .inr (hinj _ _ (hj.symm.trans hk))
      · rintro(h | h)
        · exact .inl h
        · subst h
          exact .inr (by rw[key_one m1.stamped.2.2 he2 he (hj.trans hk.symm)])
    · intro j hj
      cases hj
      exact⟨sn,e,U,he,hk⟩
theorem JG {x:Operand} {b r left:Nat} {g:κ→Option Value} {dn:κ→Prop} {k:κ} {v:Value} {As:List Th} (i:Nat) (hS:Sat w As) (hi:As[i]? =some (Jt kv b r g dn (some k) left)) (hg:g k=some v) (hx:look L x=some (ptrV r 0)) (hd:Nat.blt d n=true)
    (hk:wl P n ops Q rest ((d,.tuple #[kv k,v])::L) w):wl P n ops Q (⟨some d,.entry x,ty,pos,aft,none⟩::rest) L w:= by
  obtain⟨F,hF,hne,es,c,sn,m1,m2,m3,m4,m5,m6⟩:=hS.get i hi
  obtain⟨s0,e,rfl,he,hke⟩:=m6 k rfl
  have hv:v=e.val:= by have :=(m2 k e.val).2 ⟨e,he,hke,rfl⟩; rw[hg]at this; exact Option.some.inj this
  subst hv
  refine XG U hd (fun a ha=>N0 x U m1 m3 he (ha.eval hx)) ?_
  rintro u w' ⟨rfl,rfl⟩
  rw[hke]; exact hk
end
section
variable {P:Program} {n:Nat} {ops:Array Oper} {Q:Exit→Act→World→Prop} {rest:List Oper} {L:Env} {w:World} {d:Nat} {ty:TypeId} {pos:String} {aft:Array Edge}
theorem Sat.oagg {As:List Th} (hS:Sat w As) (i:Nat) {v:Value} {m m' size b o o' cap k:Nat} {xs vs:List Value} (hi:As[i]? =some (W6 v m size xs)) (hv:v= .slice (some ⟨b,o',none⟩) m' cap) (hvs:(xs.drop o).take k=vs): ∀j u,vs[j]? =some u→w.cell? ⟨b,o+j,none⟩=some u:= by
  intro j u hj
  rw[←hvs,List.getElem?_take]at hj
  split at hj
  · rw[List.getElem?_drop]at hj; exact hS.ocell i hi hv hj
  · cases hj
theorem FB {As:List Th} (i:Nat) (hS:Sat w As) {x:Operand} {t b o o' cap m m' k size:Nat} {v:Value} {xs vs:List Value} (hi:As[i]? =some (W6 v m size xs)) (hv:v= .slice (some ⟨b,o',none⟩) m' cap) (hx:look L x=some (ptrV b o)) (ha:Z5 P t=some true) (hs:ZO P t=some k) (hvs:(xs.drop o).take k=vs) (hl:vs.length=k) (hd:Nat.blt d n=true)
    (hk:wl P n ops Q rest ((d,.agg vs.toArray)::L) w):wl P n ops Q (⟨some d,.load t x,ty,pos,aft,none⟩::rest) L w:=
  KX hx ha (by rw[hl]; exact hs) (hS.oagg i hi hv hvs) hd hk
theorem BZ {As:List Th} (i:Nat) (hS:Sat w As) {x:Operand} {t e b o off m m' cap size q dc:Nat} {v z:Value} {xs xs':List Value} (hi:As[i]? =some (W6 v m size xs)) (hv:v= .slice (some ⟨b,o,none⟩) m' cap) (hx:look L x=some (.slice (some ⟨b,off,none⟩) q dc)) (hu:P.underlying t=some (.slice e)) (hz:XQ P e=some (some z)) (h1:QV z.cells.toList=true) (hfit:off+q*z.cells.size≤xs.length) (hxs:Xz xs off (List.replicate q z.cells.toList).flatten=xs') {dst:Option Nat} (hd:dOk n dst=true)
    (hk: ∀w',Sat w' (As.set i (W6 v m size xs'))→wl P n ops Q rest (pd dst (.tuple #[]) L) w'):wl P n ops Q (⟨dst,.call ⟨.builtin .clear, #[x], #[t]⟩,ty,pos,aft,none⟩::rest) L w:= by
  subst hxs
  obtain⟨sp,hb,hback⟩:=hS.own_row i hi hv
  refine XG U (by cases dst<;> exact hd) (fun a ha=>N1 t x U (ha.eval hx) hb hu hz (WA h1) (by simp;omega)) ?_
  rintro u w' ⟨rfl,h2,h3,_⟩
  have hl:off+(List.replicate q z.cells.toList).flatten.length≤xs.length:= by simp;omega
  refine hk w' (hback w' _ (WH hl) ?_ h3)
  rw[←J8 hl]
  exact h2
end
end
