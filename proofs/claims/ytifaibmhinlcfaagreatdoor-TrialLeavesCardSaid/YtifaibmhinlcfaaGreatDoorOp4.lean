/- Rules for ranging over maps, for values in interfaces, and for calls into the model's own entries. Conditions: each rule's own hypotheses. -/
import Derived.Test.YtifaibmhinlcfaaGreatDoorMap
import Derived.Laws.Externs
namespace Go.Proofs.YtifaibmhinlcfaaGreatDoor.M
open Go.RowKit
variable {As:List Th} {P:Program} {R:Ending→World→Prop} {ao:Option Addr} {b cap dT e i left m m' n o o' off q r sT size t:Nat} {cs:Array Value} {dst:Option Nat} {et kt mt t2:TypeId} {k:IntKind} {l s:List UInt8} {ts:Array TypeId} {u v z:Value} {vs xs:List Value} {w:World} {x y:Operand} {α κ:Type}
section
variable {κ:Type} {kv:κ→Value}
def KT (es:Array MapEntry) (seen:Array Nat):List MapEntry:=es.toList.filter λe=> !seen.toList.contains e.born
def WI (kv:κ->Value) (b r:Nat) (g:κ->Option Value) (dn:κ->Prop) (cur:Option κ) (left:Nat):Th where
  at_:= λw F=>(F= λk=>k=b\/k=r)/\b≠r/\ ∃es clock seen,MapAt kv w b es clock/\Reads kv es g/\IterAt w r b clock seen clock/\(∀e∈es.toList,∀k,e.key=kv k->(e.born∈seen.toList↔dn k))/\(KT es seen).length=left/\
    (∀k,cur=some k-> ∃(l:Array Nat) (e:MapEntry),seen=l.push e.born/\e∈es.toList/\e.key=kv k)
  fr:= λ{w w2 F} a h=>by
    obtain⟨e,f,es,c,sn,i,m,d,n⟩:=h;have o:=a.blk b (by rw[e];exact .inl U);have p:=a.blk r (by rw[e];exact .inr U);exact⟨e,f,es,c,sn,i.congr o,m,by unfold IterAt at d⊢;rw[p];exact d,n⟩
  lt:= λh k j=>by
    obtain⟨e,_,es,c,sn,i,_,d,_⟩:=h;rw[e]at j;rcases j with rfl | rfl
    · exact i.lt
    · exact d.lt
theorem Wh {g:κ->Option Value} {dn:κ->Prop} {cur:Option κ} (h:Sat w (WI kv b r g dn cur left::As)):Sat w (Q4 kv b g::As):=by
  obtain⟨F,F1,F2,rfl,d,⟨e,_,es,c,sn,a,f,_⟩,g2⟩:=h;exact⟨_,λk=>k=b,F2,rfl,λk i j=>d k (by rw[e];exact .inl i) j,⟨rfl,es,c,a,f⟩,g2⟩
section
variable {P:Program} {n:Nat} {ops:Array Oper} {Q:Exit→Act→World→Prop} {rest:List Oper} {L:Env} {w:World} {d:Nat} {ty:TypeId} {pos:String} {aft:Array Edge}
theorem WN {f:κ->Option Value} (i:Nat) (l:Sat w As) (m:P.underlying mt=some (.map kt et)) (hi:As[i]? =some (Q4 kv b f)) (o:look L x=some (.map (some b))) (hd:Nat.blt d n=true)
    (j: ∀r left w',Sat w' (As.set i (WI kv b r f (λ_=>False) none left))->wl P n ops Q rest ((d,ptrV r 0)::L) w'):wl P n ops Q (⟨some d,.range mt x,ty,pos,aft,none⟩::rest) L w:=by
  obtain⟨es,c,h,p⟩:=l.map i hi;refine XI U hd (λa q=>LM mt x U m h (q.eval o)) ?_;rintro v w' ⟨rfl,s,t⟩;have g:Only [] w w':=by rw[t];exact(Only.refl _ _).alloc _
  refine j w.heap.size _ w' (l.step i hi λF ⟨e,_⟩=>⟨λk=>k=b\/k=w.heap.size,⟨rfl, ?_,es,c, #[], ?_,p,s,by simp,rfl,by simp⟩, ?_, ?_⟩)
  · have :=h.lt;omega
  · exact h.congr (g.block b h.lt (by simp))
  · rintro k (rfl | rfl)
    · exact .inl (by rw[e])
    · exact .inr (Nat.le_refl _)
  · exact⟨g.os,g.tape,g.output,λk j=>g.block k j.1 (by simp)⟩
theorem JA {g:κ->Option Value} {dn:κ->Prop} {cur:Option κ} (i:Nat) (W:Sat w As) (u: ∀a b,kv a=kv b->a=b) (hi:As[i]? =some (WI kv b r g dn cur left)) (t:look L x=some (ptrV r 0)) (hd:Nat.blt d n=true)
    (h0:(∀k v,g k=some v->dn k)->wl P n ops Q rest ((d,.tuple #[.bool false])::L) w)
    (z: ∀k v left' w',left=left'+1->g k=some v-> ¬dn k->Sat w' (As.set i (WI kv b r g (λj=>dn j\/j=k) (some k) left'))->wl P n ops Q rest ((d,.tuple #[.bool true,kv k,v])::L) w'):wl P n ops Q (⟨some d,.next x false,ty,pos,aft,none⟩::rest) L w:=by
  obtain⟨F,hF,A,es,c,sn,o,M,m3,N,m5,m6⟩:=W.get i hi;refine XI U hd (λa ha=>IH x U o m3 (ha.eval t)) ?_;rintro v w' (⟨rfl,rfl,B⟩ | ⟨e,f,C,rfl,X,O,a0⟩)
  · refine h0 λk v m=> ?_;obtain⟨e,f,R,_⟩:=(M k v).1 m;exact(N e f k R).1 (B e f)
  · obtain⟨k,m⟩:=o.keys e f;have S:g k=some e.val:=(M k e.val).2 ⟨e,f,m,rfl⟩
    have Y:(KT es (sn.push e.born)).length+1=(KT es sn).length:=by
      unfold KT;have T:=o.stamped.2.1
      have D: ∀l:List MapEntry,(l.map (·.born)).Nodup->e∈l->(l.filter λx=> !(sn.push e.born).toList.contains x.born).length+1=(l.filter λx=> !sn.toList.contains x.born).length:=by
        intro l
        induction l with
        | nil=> intro _ h;cases h
        | cons y l ih=>
          intro J K;simp only[List.map_cons,List.nodup_cons]at J;rcases List.mem_cons.1 K with rfl | K
          · have z:(!(sn.push e.born).toList.contains e.born)=false:=by simp
            have V:(!sn.toList.contains e.born)=true:=by simpa using C
            have h3:l.filter (λx=> !(sn.push e.born).toList.contains x.born)=l.filter λx=> !sn.toList.contains x.born:=by
              apply List.filter_congr;intro x t;have :x.born≠e.born:= λq=>J.1 (List.mem_map.2 ⟨x,t,q⟩);simp [this]
            rw[List.filter_cons,List.filter_cons,z,V,h3];simp
          · have E:y.born≠e.born:= λq=>J.1 (List.mem_map.2 ⟨e,K,q.symm⟩);have z:(!(sn.push e.born).toList.contains y.born)=(!sn.toList.contains y.born):=by simp [E]
            have :=ih J.2 K;rw[List.filter_cons,List.filter_cons,z];split
            · simp only[List.length_cons];omega
            · exact this
      exact D es.toList T f
    rw[m];refine z k e.val (KT es (sn.push e.born)).length w' (by omega) S (λq=>C ((N e f k m).2 q)) (W.step i hi λF2 V=> ?_);have G:=V.1;refine⟨λk=>k=b\/k=r,⟨rfl,A,es,c,sn.push e.born,o.congr (X.block b o.lt (by simpa using A)),M,O, ?_,rfl, ?_⟩,λq H=> .inl (by rw[G];exact H),X.agree (λx t=> .inl (by simp only[List.mem_singleton]at t;subst t;rw[G];exact .inr U))⟩
    · intro Z s j I;simp only[Array.toList_push,List.mem_append,List.mem_singleton];rw[N Z s j I];constructor
      · rintro(h | h)
        · exact .inl h
        · have :Z=e:=by
            obtain⟨p,hp⟩:=List.mem_iff_getElem?.1 s;obtain⟨q,H⟩:=List.mem_iff_getElem?.1 f;have :=qf3 o.stamped.2.1 hp H h;subst this;rw[hp]at H;exact Option.some.inj H
          subst this;exact .inr (u _ _ (I.symm.trans m))
      · rintro(h | h)
        · exact .inl h
        · subst h;exact .inr (by rw[key_one o.stamped.2.2 s f (I.trans m.symm)])
    · intro j I;cases I;exact⟨sn,e,U,f,m⟩
theorem Jc {g:κ->Option Value} {dn:κ->Prop} {k:κ} (i:Nat) (j:Sat w As) (hi:As[i]? =some (WI kv b r g dn (some k) left)) (l:g k=some v) (m:look L x=some (ptrV r 0)) (hd:Nat.blt d n=true)
    (o:wl P n ops Q rest ((d,.tuple #[kv k,v])::L) w):wl P n ops Q (⟨some d,.entry x,ty,pos,aft,none⟩::rest) L w:=by
  obtain⟨F,B,p,es,c,sn,q,s,t,C,D,y⟩:=j.get i hi;obtain⟨E,e,rfl,h,f⟩:=y k rfl;have z:v=e.val:=by have :=(s k e.val).2 ⟨e,h,f,rfl⟩;rw[l]at this;exact Option.some.inj this
  subst z;refine XI U hd (λa A=>LN x U q t h (A.eval m)) ?_;rintro u w' ⟨rfl,rfl⟩;rw[f];exact o
theorem FU {g:κ->Option Value} {dn:κ->Prop} {k:κ} (i:Nat) (M:Sat w As) (K:KeyOk P kt kv) (C:P.underlying mt=some (.map kt et)) (hi:As[i]? =some (WI kv b r g dn (some k) left)) (D:dn k) (A:look L x=some (.map (some b))) (V:look L y=some (kv k)) (hd:dOk n dst=true)
    (W: ∀w',Sat w' (As.set i (WI kv b r (upd g k none) dn none left))->wl P n ops Q rest (pd dst (.tuple #[]) L) w'):wl P n ops Q (⟨dst,.call ⟨.builtin .delete, #[x,y], #[mt,t2]⟩,ty,pos,aft,none⟩::rest) L w:=by
  obtain⟨F,Z,s,es,c,sn,N,X,E,O,Y,m6⟩:=M.get i hi;refine XI U (by cases dst<;> exact hd) (λa R=>Dq mt t2 x y U K C N (R.eval A) (R.eval V)) ?_
  rintro _ w' ⟨rfl,es',d,S,T,_⟩;refine W w' (M.step i hi λF2 t=> ?_);have u:=t.1;have p: ∀e∈es'.toList,e∈es.toList:= λe o=>((d e).1 o).1;refine⟨λk=>k=b\/k=r,⟨rfl,s,es',c,sn,S, ?_, ?_,λe o q G=>O e (p e o) q G, ?_,by simp⟩,λq G=> .inl (by rw[u];exact G),T.agree (λx A=> .inl (by simp only[List.mem_singleton]at A;subst A;rw[u];exact .inl U))⟩
  · intro j v;by_cases H:j=k
    · subst H;rw[XR];constructor
      · intro h;cases h
      · rintro⟨e,o,m,_⟩;exact absurd m ((d e).1 o).2
    · rw[ZG H,X j v];constructor
      · rintro⟨e,o,m,I⟩;exact⟨e,(d e).2 ⟨o,λq=>H (K.inj _ _ (m.symm.trans q))⟩,m,I⟩
      · rintro⟨e,o,m,I⟩;exact⟨e,p e o,m,I⟩
  · have J:=E.lt;unfold IterAt at E⊢;rw[T.block r J (by simpa using Ne.symm s)];exact E
  · rw[<-Y];unfold KT;apply List.Perm.length_eq;refine(List.perm_ext_iff_of_nodup ?_ ?_).2 ?_
    · exact List.Pairwise.filter _ (nodup_of_map S.stamped.2.1)
    · exact List.Pairwise.filter _ (nodup_of_map N.stamped.2.1)
    · intro e;simp only[List.mem_filter,d];constructor
      · rintro⟨⟨B,_⟩,z⟩;exact⟨B,z⟩
      · rintro⟨B,z⟩;refine⟨⟨B,λq=> ?_⟩,z⟩;have :=(O e B k q).2 D;simp at z;exact z (by simpa using this)
where
  nodup_of_map {α β:Type} {f:α->β} {l:List α} (h:(l.map f).Nodup):l.Nodup:=by
    induction l with
    | nil=> exact List.nodup_nil
    | cons x l ih=>
      simp only[List.map_cons,List.nodup_cons]at h;exact List.nodup_cons.2 ⟨λC=>h.1 (List.mem_map.2 ⟨x,C,rfl⟩),ih h.2⟩
theorem Gn {t:TypeId} (c:P.underlying t=some (.map kt et)) (e:look L x=some (.map (some b))) (f:look L y=some (.map none)) (hd:Nat.blt d n=true) (g:wl P n ops Q rest ((d,.bool false)::L) w):wl P n ops Q (⟨some d,.binOp .eql t x y t2,ty,pos,aft,none⟩::rest) L w:=
  Xp hd (λρ a=>by
    have :(Op.equal t (.map (some b)) (.map none)).run P w= .ok false w:=by
      unfold Op.equal Op.maxDepth Op.equalIn;simp only[Sem.run_bind,run_underlying c,Result.andThen];rfl
    simp [execOp,a _ _ e,a _ _ f,eqGuard,binOp,this]) g
def YH (P:Program) (t:Nat):Bool:= match P.underlying t with | some (.interface _)=>false | some _=>true | none=>false
theorem NC {t:TypeId} (a:YH P t=true) (c:look L x=some v) (hd:Nat.blt d n=true) (e:wl P n ops Q rest ((d,.iface t v)::L) w):wl P n ops Q (⟨some d,.makeInterface t x,ty,pos,aft,none⟩::rest) L w:=
  Xp hd (λρ f=>by
    unfold YH at a;cases b:P.underlying t with
    | none=> rw[b]at a;cases a
    | some dd=>
      rw[b]at a;simp only[execOp,f _ _ c,Instr.makeInterface];cases dd<;> simp [run_underlying b]<;> simp at a) e
theorem Cd {xt t:TypeId} (a:YH P t=true) (c:look L x=some (.iface t v)) (hd:Nat.blt d n=true) (e:wl P n ops Q rest ((d,v)::L) w):wl P n ops Q (⟨some d,.typeAssert x xt t false,ty,pos,aft,none⟩::rest) L w:=
  Xp hd (λρ f=>by
    unfold YH at a;cases b:P.underlying t with
    | none=> rw[b]at a;cases a
    | some dd=>
      rw[b]at a;simp only[execOp,f _ _ c,Instr.typeAssert];cases dd<;> simp [run_underlying b]<;> simp at a) e
theorem NB {f : Nat} {fn : Func} {t : TypeId} {g : κ → Option Value} (i : Nat) (hS : Sat w As) (hf : P.funcs[f]? = some fn) (hname : (fn.name == "runtime.NumGoroutine") = false) (hb : fn.body.isNone = true) (hn : Extern.findNext fn = none) (he : Extern.find fn = some Extern.MapsClone.clone)
    (hi:As[i]? =some (Q4 kv b g)) (hx:look L x=some (.iface t (.map (some b)))) (hd:Nat.blt d n=true) (hk: ∀b' w',Sat w' (Q4 kv b' g::As)→wl P n ops Q rest ((d,.iface t (.map (some b')))::L) w'):wl P n ops Q (⟨some d,.call ⟨.value (.func f), #[x],ts⟩,ty,pos,aft,none⟩::rest) L w:= by
  obtain⟨es,c,h1,h2⟩:=hS.map i hi
  refine XI U hd (R:= fun v w'=>v= .iface t (.map (some w.heap.size))∧w'=w.alloc (.map es c)) (fun a ha=>⟨_,_,.inl ?_,rfl,rfl⟩) ?_
  · have hr:(Extern.MapsClone.clone #[.iface t (.map (some b))]).run P w= .ok (.iface t (.map (some w.heap.size))) (w.alloc (.map es c)):= by
      have e:Extern.MapsClone.clone #[.iface t (.map (some b))]=(getObj b>>= fun o=> match o with
          | .map entries clock=>(newObj (.map entries clock)>>= fun n=>pure (.iface t (.map (some n))))
          | _ => stuck "maps.clone: a map expected") := rfl
      rw[e]
      simp [MapKept.run_getObj_map h1.blk]
    have hc:=run_callFunc_extern hf hname hb hn he #[.iface t (.map (some b))] w
    rw[hr]at hc
    simp only[execOp,resolve,Act.eval,Deferred.ofValue,invoke]
    have hxe:=ha.eval hx
    simp
    rw[hxe,hc];rfl
  · rintro v w' ⟨rfl,rfl⟩
    exact hk _ _ (hS.new ((Only.refl _ _).alloc _) (A:=Q4 kv w.heap.size g) ⟨rfl,es,c,⟨(MapKept.heap_alloc w _).1,h1.stamped,h1.keys⟩,h2⟩ (fun k hk=> by rw[hk]; exact Nat.le_refl _))
end
section
variable {P:Program} {n:Nat} {ops:Array Oper} {Q:Exit→Act→World→Prop} {rest:List Oper} {L:Env} {w:World} {d:Nat} {ty:TypeId} {pos:String} {aft:Array Edge}
theorem Sat.oagg (d:Sat w As) (i:Nat) {k:Nat} (hi:As[i]? =some (Jk v m size xs)) (e:v= .slice (some ⟨b,o',none⟩) m' cap) (c:(xs.drop o).take k=vs): ∀j u,vs[j]? =some u->w.cell? ⟨b,o+j,none⟩=some u:=by
  intro j u a;rw[<-c,List.getElem?_take]at a;split at a
  · rw[List.getElem?_drop]at a;exact d.ocell i hi e a
  · cases a
theorem qav (i:Nat) (c:Sat w As) {k:Nat} (hi:As[i]? =some (Jk v m size xs)) (e:v= .slice (some ⟨b,o',none⟩) m' cap) (f:look L x=some (ptrV b o)) (g:Z0 P t=some true) (h:ZQ P t=some k) (a:(xs.drop o).take k=vs) (j:vs.length=k) (hd:Nat.blt d n=true)
    (l:wl P n ops Q rest ((d,.agg vs.toArray)::L) w):wl P n ops Q (⟨some d,.load t x,ty,pos,aft,none⟩::rest) L w:=
  Ha f g (by rw[j];exact h) (c.oagg i hi e a) hd l
theorem CB (i:Nat) (h:Sat w As) {dc:Nat} {xs':List Value} (hi:As[i]? =some (Jk v m size xs)) (j:v= .slice (some ⟨b,o,none⟩) m' cap) (k:look L x=some (.slice (some ⟨b,off,none⟩) q dc)) (l:P.underlying t=some (.slice e)) (p:XE P e=some (some z)) (r:Uk z.cells.toList=true) (f:off+q*z.cells.size<=xs.length) (d:X6 xs off (List.replicate q z.cells.toList).flatten=xs') (hd:dOk n dst=true)
    (s: ∀w',Sat w' (As.set i (Jk v m size xs'))->wl P n ops Q rest (pd dst (.tuple #[]) L) w'):wl P n ops Q (⟨dst,.call ⟨.builtin .clear, #[x], #[t]⟩,ty,pos,aft,none⟩::rest) L w:=by
  subst d;obtain⟨sp,y,c⟩:=h.own_row i hi j;refine XI U (by cases dst<;> exact hd) (λa A=>LO t x U (A.eval k) y l p (Jm r) (by simp;omega)) ?_
  rintro u w' ⟨rfl,B,C,_⟩;have g:off+(List.replicate q z.cells.toList).flatten.length<=xs.length:=by simp;omega
  refine s w' (c w' _ (J2 g) ?_ C);rw[<-Y0 g];exact B
end
end
structure RowC (α:Type) where
  enc:α→List Value
  size:Nat
  pos:0<size
  len: ∀a,(enc a).length=size
  one: ∀a,Uk (enc a)=true
def RowC.cells {α:Type} (C:RowC α) (l:List α):List Value:=l.flatMap C.enc
section
variable {α:Type} {C:RowC α} {l l2:List α} {a:α} {j:Nat}
theorem RowC.cells_len (C:RowC α) (l:List α):(C.cells l).length=l.length*C.size:=by
  induction l with
  | nil=> simp [RowC.cells]
  | cons a l ih=> simp only[RowC.cells,List.flatMap_cons,List.length_append,C.len,List.length_cons]at ih⊢;rw[ih,Nat.add_mul];omega
theorem RowC.cells_one (C:RowC α) (l:List α):Uk (C.cells l)=true:=BZ (by
  intro v b;obtain⟨a,_,h⟩:=List.mem_flatMap.1 b;exact Jm (C.one a) v h)
theorem RowC.cells_app (C:RowC α) (l l2:List α):C.cells l++C.cells l2=C.cells (l++l2):=by simp [RowC.cells]
theorem RowC.cells_at: ∀{l:List α} {j:Nat},l[j]? =some a->((C.cells l).drop (j*C.size)).take C.size=C.enc a
  | [],j,h=>by simp at h
  | b::l,0,h=>by
    simp at h;subst h;rw[Nat.zero_mul,List.drop_zero];show(C.enc b++C.cells l).take C.size=_;rw[<-C.len b,List.take_left]
  | b::l,j+1,h=>by
    have e:(j+1)*C.size=(C.enc b).length+j*C.size:=by rw[C.len,Nat.add_mul];omega
    show((C.enc b++C.cells l).drop _).take _=_;rw[e,<-List.drop_drop,List.drop_left];exact RowC.cells_at (by simpa using h)
theorem RowC.cells_get (h:l[j]? =some a) (b:(C.enc a)[o]? =some u):(C.cells l)[j*C.size+o]? =some u:=by
  have c:=RowC.cells_at (C:=C) h;rw[<-c,List.getElem?_take]at b;split at b
  · rw[List.getElem?_drop]at b;exact b
  · cases b
theorem RowC.cells_set {X:List Value} (c:X=C.enc a): ∀{l:List α} {j:Nat},j<l.length->X6 (C.cells l) (j*C.size) X=C.cells (l.set j a)
  | [],j,h=>by simp at h
  | b::l,0,h=>by
    subst c;rw[Nat.zero_mul];show X6 (C.enc b++C.cells l) 0 (C.enc a)=C.enc a++C.cells l;unfold X6;rw[Nat.zero_add,C.len,<-C.len b,List.drop_left];rfl
  | b::l,j+1,h=>by
    have e:(j+1)*C.size=(C.enc b).length+j*C.size:=by rw[C.len,Nat.add_mul];omega
    show X6 (C.enc b++C.cells l) _ _=C.enc b++C.cells (l.set j a);rw[e,Rm,RowC.cells_set c (by simpa using h)]
theorem RowC.cells_take (C:RowC α): ∀(l:List α) (i:Nat),(C.cells l).take (i*C.size)=C.cells (l.take i)
  | [],i=>by simp [RowC.cells]
  | b::l,0=>by simp [RowC.cells]
  | b::l,i+1=>by
    have e:(i+1)*C.size=(C.enc b).length+i*C.size:=by rw[C.len,Nat.add_mul];omega
    show(C.enc b++C.cells l).take _=C.enc b++C.cells (l.take i);rw[e,List.take_length_add_append,RowC.cells_take C l i]
end
abbrev rowT {α:Type} (C:RowC α) (v:Value) (l:List α):Th:=Jk v l.length C.size (C.cells l)
theorem Sat.row_cast {C:RowC α} {l:List α} (h:Sat w (Jk v m size xs::As)) (a:m=l.length) (b:size=C.size) (c:xs=C.cells l):Sat w (rowT C v l::As):=by subst a b c;exact h
def qc3 (n:Nat) (is:List Nat):List Bool:=(List.range n).map (is.contains ·)
theorem Sat.pick (h:Sat w As) (is:List Nat) (b:Ta As.length is (qc3 As.length is)=true):Sat w (Yu As is):=by
  have c:=h.split is _ b;have a:=c.drop (Yu As is).length (A:=starL (VI (qc3 As.length is) As)) (by simp);rw[List.eraseIdx_append_of_length_le (Nat.le_refl _),Nat.sub_self]at a
  simpa using a
theorem Sat.row_nil (C:RowC α) (h:Sat w As):Sat w (rowT C (.slice none 0 0) []::As):=
  h.new (Only.refl [] w) (A:=Jk (.slice none 0 0) 0 C.size []) (F':= λk=>k∈([]:List Nat)) ⟨[],rfl,Own.nil w C.size⟩ (by simp)
def RdL {α:Type} (C:RowC α) (v:Value) (l:List α) (w:World):Prop:= ∃ao cap,v= .slice ao l.length cap/\l.length<=9223372036854775807/\ ∀(i:Nat) (a:α),l[i]? =some a-> ∃b off,ao=some ⟨b,off,none⟩/\ ∀(j:Nat) (u:Value),(C.enc a)[j]? =some u->w.cell? ⟨b,off+i*C.size+j,none⟩=some u
section
variable {α:Type} {C:RowC α} {l:List α} {w:World} {v:Value}
theorem RdL.shape (h:RdL C v l w): ∃ao cap,v= .slice ao l.length cap/\l.length<=9223372036854775807:=by obtain⟨ao,cap,a,b,_⟩:=h;exact⟨ao,cap,a,b⟩
theorem RdL.get {a:α} (h:RdL C (.slice ao n cap) l w) (c:l[i]? =some a): ∃b off,ao=some ⟨b,off,none⟩/\ ∀(j:Nat) (u:Value),(C.enc a)[j]? =some u->w.cell? ⟨b,off+i*C.size+j,none⟩=some u:=by
  obtain⟨ao',cap',d,_,e⟩:=h;cases d;exact e i a c
theorem RdL.nil (C:RowC α) (w:World):RdL C (.slice none 0 0) [] w:=⟨none,0,rfl,by simp,by simp⟩
theorem RdL.lenOf (h:RdL C v l w): ∀a,(Builtin.lenOf v).run P a= .ok l.length a:=by
  obtain⟨ao,cap,rfl,_⟩:=h.shape;exact SN _ _ _
theorem RdL.isNil (h:RdL C (.slice none n cap) l w):l=[]:=by
  cases l with
  | nil=>rfl
  | cons x l=> obtain⟨b,off,c,_⟩:=h.get (i:=0) (a:=x) rfl;cases c
theorem RdL.first (h:RdL C v l w): ∀c:World,c.heap=w.heap->(Builtin.firstCells C.size l.length v).run P c= .ok (C.cells l).toArray c:=by
  obtain⟨ao,cap,rfl,_⟩:=h.shape;intro c n;cases f:l with
  | nil=> cases ao<;> simp [Builtin.firstCells,RowC.cells,loadCells,loadCellsFrom]
  | cons x l'=>
    obtain⟨b,off,rfl,_⟩:=h.get (i:=0) (a:=x) (by rw[f];rfl);rw[<-f];simp only[Builtin.firstCells]
    have :=run_loadCells_list (P:=P) c ⟨b,off,none⟩ (C.cells l) (λj v g=>by
      rw[Wx];have d:=(Za g).1;rw[C.cells_len]at d;have o:j/ C.size<l.length:=Nat.div_lt_of_lt_mul (by rw[Nat.mul_comm];exact d);have k:l[j/ C.size]? =some l[j/ C.size]:=XQ o;obtain⟨b2,o2,e,p⟩:=h.get k;cases e;have q:=Nat.mod_lt j C.pos;have m:j/ C.size*C.size+j%C.size=j:=by have :=Nat.div_add_mod j C.size;rw[Nat.mul_comm];exact this
      have r:(C.enc l[j/ C.size])[j%C.size]? =some v:=by
        have s:=RowC.cells_at (C:=C) k;rw[<-s,List.getElem?_take,if_pos q,List.getElem?_drop,m];exact g
      have :=p _ _ r;rw[World.cell?_of_block (w:=w) (by rw[n])];rw[<-this,Nat.add_assoc,m])
    rw[C.cells_len]at this;exact this
theorem Sat.rd (c:Sat w As) (i:Nat) (hi:As[i]? =some (rowT C v l)) (e:l.length<=9223372036854775807):RdL C v l w:=by
  obtain⟨ao,cap,rfl,_⟩:=c.own_shape i hi;refine⟨ao,cap,rfl,e,λk a d=> ?_⟩;obtain⟨b,cap',f,_⟩:=c.own_at i hi (by have :=(Za d).1;omega);cases f;exact⟨b,0,rfl,λj u g=>by rw[Nat.zero_add];exact c.ocell i hi U (RowC.cells_get d g)⟩
theorem Ja {v:Value} {l:List α} (a:l.length<=9223372036854775807):Ent (rowT C v l) (RdL C v l):= λ{w G} h=>
  Sat.rd (As:=[rowT C v l]) (w:=w) ⟨G,G,λ_=>False,by simp,λ_ _ h=>h,h,rfl⟩ 0 U a
end
section
variable {P:Program} {n:Nat} {ops:Array Oper} {Q:Exit→Act→World→Prop} {rest:List Oper} {L:Env} {w:World} {d:Nat} {ty:TypeId} {pos:String} {aft:Array Edge}
variable {α:Type} {C:RowC α} {l:List α} {v:Value} {a:α} {As:List Th}
theorem Xj (C:RowC α) (i j:Nat) (c:Sat w As) {q:Int} (hi:As[i]? =some (rowT C v l)) (e:look L x=some v) (f:look L y=some (.int k q)) (g:q=(j:Int)) (h:l[j]? =some a) (m:Yn P t=some C.size) (hd:Nat.blt d n=true)
    (o: ∀b cap,v= .slice (some ⟨b,0,none⟩) l.length cap->wl P n ops Q rest ((d,ptrV b (j*C.size))::L) w):wl P n ops Q (⟨some d,.indexAddr t x y,ty,pos,aft,none⟩::rest) L w:=
  Ot i j c hi e f g (Za h).1 m hd o
theorem Wq (i j:Nat) (e:Sat w As) (hi:As[i]? =some (rowT C v l)) (f:v= .slice (some ⟨b,0,none⟩) m cap) (g:look L x=some (ptrV b (j*C.size))) (h:l[j]? =some a) (k:Z0 P t=some true) (o:ZQ P t=some C.size) (c:C.enc a=vs) (hd:Nat.blt d n=true)
    (p:wl P n ops Q rest ((d,.agg vs.toArray)::L) w):wl P n ops Q (⟨some d,.load t x,ty,pos,aft,none⟩::rest) L w:=by
  subst c;exact qav i e hi f g k o (RowC.cells_at h) (C.len a) hd p
theorem Zh (i j o:Nat) (c:Sat w As) (hi:As[i]? =some (rowT C v l)) (e:v= .slice (some ⟨b,0,none⟩) m cap) (f:look L x=some (ptrV b q)) (g:q=j*C.size+o) (h:l[j]? =some a) (k:Z0 P t=some false) (p:(C.enc a)[o]? =some u) (hd:Nat.blt d n=true)
    (r:wl P n ops Q rest ((d,u)::L) w):wl P n ops Q (⟨some d,.load t x,ty,pos,aft,none⟩::rest) L w:=by
  subst g;exact Qo f k (c.ocell i hi e (RowC.cells_get h p)) hd r
theorem ZN (C:RowC α) (i j o:Nat) (c:Sat w As) {a:α} {l:List α} (hi:As[i]? =some (rowT C (.slice (some ⟨b,0,none⟩) m cap) l)) (e:l[j]? =some a) (f:Z0 P t=some false) (g:look L x=some (ptrV b (0+j*C.size+o))) (h:(C.enc a)[o]? =some u):Ev P L w ⟨some d,.load t x,ty,pos,aft,none⟩ u:=by
  refine Ql g f ?_;rw[Nat.zero_add];exact c.ocell i hi U (RowC.cells_get e h)
theorem Wp (i j:Nat) (a':α) (e:Sat w As) (hi:As[i]? =some (rowT C v l)) (f:v= .slice (some ⟨b,0,none⟩) m' cap) (g:look L x=some (ptrV b (j*C.size))) (k:look L y=some u) (m:ZQ P t=some C.size) (c:u.cells.toList=C.enc a') (d:j<l.length)
    (o: ∀w',Sat w' (As.set i (rowT C v (l.set j a')))->wl P n ops Q rest L w'):wl P n ops Q (⟨none,.store t x y,ty,pos,aft,none⟩::rest) L w:=by
  have a:j*C.size+C.size<=(C.cells l).length:=by
    rw[C.cells_len];have :=Nat.mul_le_mul_right C.size (show j+1<=l.length from d);rw[Nat.add_mul]at this;omega
  refine Cy i e hi f g k m (by rw[<-Array.length_toList,c,C.len]) (by rw[c];exact C.one a') a (RowC.cells_set c d) ?_;intro w' h;refine o w' ?_;show Sat w' (As.set i (Jk v (l.set j a').length C.size (C.cells (l.set j a'))));rw[List.length_set];exact h
theorem JZ (i j o:Nat) (a':α) (D:Sat w As) (hi:As[i]? =some (rowT C v l)) (E:v= .slice (some ⟨b,0,none⟩) m' cap) (F:look L x=some (ptrV b q)) (G:q=j*C.size+o) (H:look L y=some u) (I:ZQ P t=some 1) (s:l[j]? =some a) (m:u.cells.toList=[u]) (O:o<C.size) (J:(C.enc a).set o u=C.enc a') (p:u.oneCell'=true)
    (r: ∀w',Sat w' (As.set i (rowT C v (l.set j a')))->wl P n ops Q rest L w'):wl P n ops Q (⟨none,.store t x y,ty,pos,aft,none⟩::rest) L w:=by
  subst G;have z:=(Za s).1
  have d:j*C.size+C.size<=(C.cells l).length:=by
    rw[C.cells_len];have :=Nat.mul_le_mul_right C.size (show j+1<=l.length from z);rw[Nat.add_mul]at this;omega
  have e:X6 (C.cells l) (j*C.size+o) u.cells.toList=C.cells (l.set j a'):=by
    rw[m,<-RowC.cells_set (C:=C) J z];have f:=RowC.cells_at (C:=C) s;have g:=C.len a;generalize R:C.cells l=X at f d⊢;apply List.ext_getElem?;intro k
    have K: ∀k,k<C.size->(C.enc a)[k]? =X[j*C.size+k]? :=by
      intro k r;rw[<-f,List.getElem?_take,if_pos r,List.getElem?_drop]
    simp only[X6,List.length_cons,List.length_nil,List.length_set,g];have A:(X.take (j*C.size)).length=j*C.size:=by rw[List.length_take];omega
    have c:(X.take (j*C.size+o)).length=j*C.size+o:=by rw[List.length_take];omega
    by_cases M:k<j*C.size
    · rw[List.append_assoc,List.getElem?_append_left (by omega),List.append_assoc,List.getElem?_append_left (by omega),List.getElem?_take,List.getElem?_take,if_pos (by omega),if_pos M]
    · by_cases S:k<j*C.size+C.size
      · rw[List.append_assoc (X.take (j*C.size)),List.getElem?_append_right (l₁:=X.take (j*C.size)) (by omega),A,List.getElem?_append_left (l₁:=(C.enc a).set o u) (by simp [g];omega),List.getElem?_set];by_cases B:o=k -j*C.size
        · rw[if_pos B,if_pos (by omega),List.append_assoc,List.getElem?_append_right (by omega),c,show k -(j*C.size+o)=0 by omega];rfl
        · rw[if_neg B,K _ (by omega),show j*C.size+(k -j*C.size)=k by omega];by_cases N:k<j*C.size+o
          · rw[List.append_assoc,List.getElem?_append_left (by omega),List.getElem?_take,if_pos N]
          · rw[List.append_assoc,List.getElem?_append_right (by omega),c,List.getElem?_append_right (by simp;omega),List.getElem?_drop];congr 1;simp;omega
      · rw[List.append_assoc,List.getElem?_append_right (by omega),c,List.getElem?_append_right (by simp;omega),List.getElem?_drop,List.append_assoc,List.getElem?_append_right (by omega),A,List.getElem?_append_right (by simp [g];omega),List.getElem?_drop];congr 1;simp [g];omega
  refine Cy i D hi E F H I (by rw[<-Array.length_toList,m];rfl) (by rw[m];simp [Uk,p]) (by omega) e ?_;intro w' h;refine r w' ?_;show Sat w' (As.set i (Jk v (l.set j a').length C.size (C.cells (l.set j a'))));rw[List.length_set];exact h
theorem X8 (C:RowC α) (l:List α) (g:Sat w As) {len:Nat} {parts:List (Nat×Operand)} (j:Jg L (parts.map (·.2))=some vs) (k:P.underlying t=some (.slice e)) (hi:(P.info? e).map (λi=>(i.zero,i.size))=some (some z,C.size)) (a:Nat.ble (len*C.size) 1000=true) (c:z.cells.size=C.size)
    (f:Ym (len*C.size) ((parts.map (·.1)).map λi=>(i*C.size,C.size)) vs=true) (m:l.length=len) (o:Jz (List.replicate len z.cells.toList).flatten ((parts.map (·.1)).map λi=>(i*C.size,C.size)) vs=C.cells l) (hd:Nat.blt d n=true)
    (p: ∀b w',Sat w' (rowT C (.slice (some ⟨b,0,none⟩) len len) l::As)->wl P n ops Q rest ((d,.slice (some ⟨b,0,none⟩) len len)::L) w'):wl P n ops Q (⟨some d,.buildSlice t len parts.toArray,ty,pos,aft,none⟩::rest) L w:=by
  refine Cg g j k hi a c f hd ?_;intro b w' h;exact p b w' (h.row_cast m.symm U o)
theorem Zx (C:RowC α) (i:Nat) {l2:List α} (g:Sat w As) {t2 bytes:Nat} {s:Operand} {xv:Value} {d2:TypeDesc} (hi:As[i]? =some (rowT C v l)) (j:look L s=some v) (m:look L x=some xv) (f:RdL C xv l2 w) (o:P.underlying t=some (.slice e)) (a:P.underlying t2=some d2) (b: ∀k,d2≠ .int k)
    (c:(P.info? e).map (λi=>(i.zero,i.size,i.bytes))=some (some z,C.size,bytes)) (p:z.cells.size=C.size) (q:(l.length+l2.length)*bytes<=140737488355328) (hd:Nat.blt d n=true) (r:l.length+l2.length<=9223372036854775807)
    (u: ∀v' w',Sat w' (As.set i (rowT C v' (l++l2)))->wl P n ops Q rest ((d,v')::L) w'):wl P n ops Q (⟨some d,.call ⟨.builtin .append, #[s,x], #[t,t2]⟩,ty,pos,aft,none⟩::rest) L w:=by
  refine Oz i g hi j m o a b c p C.pos f.lenOf f.first (C.cells_len l2) (C.cells_one l2) q r hd ?_
  intro v' w' h;refine u v' w' ?_;show Sat w' (As.set i (Jk v' (l++l2).length C.size (C.cells (l++l2))));rw[List.length_append,<-C.cells_app];exact h
end
def BA (tmps:Array Value):ResultVar->Sem Value
  | .tmp t=>pure (tmps.getD t undef)
  | .cell a t=>do loadVar t (<-asAddr (tmps.getD a undef))
def Rw (P:Program) (n:Nat) (L:Env) (w:World) (r:ResultVar) (v:Value):Prop:= ∀a,Fr n L a->(BA a.tmps r).run P w= .ok v w
section
variable {P:Program} {n:Nat} {L:Env} {w:World} {Q:Exit→Act→World→Prop}
theorem Gz (h:Xy L t=some v):Rw P n L w (.tmp t) v:= λa b=>by
  have :=b.get t v h;simp [BA,this]
theorem S4 {x:Nat} (h:Xy L x=some (ptrV b o)) (c:Z0 P t=some false) (d:w.cell? ⟨b,o,none⟩=some v):Rw P n L w (.cell x t) v:= λa e=>by
  have :=e.get x _ h;simp [BA,this,asAddr,loadVar,V6 c,load,Sem.run,d]
theorem qb9 {x:Nat} {cs:List Value} (h:Xy L x=some (ptrV b o)) (d:Z0 P t=some true) (e:ZQ P t=some m) (f:Blk w b cs) (g:o+m<=cs.length) (c:(cs.drop o).take m=vs):Rw P n L w (.cell x t) (.agg vs.toArray):= λa i=>by
  subst c;have :=i.get x _ h;simp [BA,this,asAddr,loadVar,UZ d,Zp e,JB f o m g]
theorem RM (fn:Func) (tmps:Array Value):results fn tmps=(do let vs<-fn.results.mapM (BA tmps);pure (if h:vs.size=1 then vs[0]else .tuple vs)):=by
  have e:(BA tmps)=(fun | .tmp t=>pure (tmps.getD t undef) | .cell a t=>do loadVar t (<-asAddr (tmps.getD a undef)):ResultVar->Sem Value):=by
    funext r;cases r<;>rfl
  rw[e];rfl
theorem qec {fn:Func} {r f g:ResultVar} {v2 v3:Value} {e:Exit} (i:e= .normal\/e= .ret) (j:fn.results= #[r,f,g]) (k:Rw P n L w r v) (b:Rw P n L w f v2) (c:Rw P n L w g v3) (h:R (.returned (.tuple #[v,v2,v3])) w):qs n (bodyPost P fn R) e L w:=
  Pt i (λa d=>by rw[RM,j];simp [k a d,b a d,c a d]) h
end
def byC:RowC UInt8:=⟨λc=>[.int .u8 (c.toNat:Int)],1,by decide,λ_=>rfl,λ_=>rfl⟩
theorem Rh (l:List UInt8):byC.cells l=Zw l:=by
  induction l with
  | nil=>rfl
  | cons c l ih=> show[_]++byC.cells l=_;rw[ih];rfl
section
variable {P:Program} {n:Nat} {ops:Array Oper} {Q:Exit→Act→World→Prop} {rest:List Oper} {L:Env} {w:World} {d:Nat} {ty:TypeId} {pos:String} {aft:Array Edge} {As:List Th}
theorem Di (h:Sat w As) (i:look L x=some (strV s)) (j:P.underlying sT=some .string) (hd:P.underlying dT=some (.slice e)) (l:P.underlying e=some (.int .u8)) (b:Nat.blt d n=true)
    (c: ∀v w',Sat w' (rowT byC v s::As)->wl P n ops Q rest ((d,v)::L) w'):wl P n ops Q (⟨some d,.convert sT dT x,ty,pos,aft,none⟩::rest) L w:=by
  refine XI U b (λa m=>LP sT dT x U (m.eval i) j hd l) ?_;rintro v w' ⟨cap,g,rfl,f,o,p⟩;have q:(⟨s.toArray⟩:ByteArray).size=s.length:=by simp [ByteArray.size]
  rw[q]at g f⊢;have r:(⟨s.toArray⟩:ByteArray).data.toList=s:=rfl;rw[r]at f;refine c _ _ (h.new o (F':= λk=>k∈[w.heap.size]) (A:=Jk _ _ _ _) ⟨[w.heap.size],rfl,Vn (sp:=Zw (List.replicate (cap -s.length) 0)) ?_ (byC.cells_len s) g ?_⟩ (λk c=>by simp at c;omega))
  · rw[Rh];simpa [Zw]using f
  · rw[Rh];have :byC.size=1:=rfl;rw[this,List.length_append,U8,U8,List.length_replicate];omega
theorem BP (i:Nat) (f:Sat w As) (hi:As[i]? =some (rowT byC v l)) (g:look L x=some v) (h:P.underlying sT=some (.slice e)) (j:P.underlying e=some (.int .u8)) (hd:P.underlying dT=some .string):Ev P L w ⟨some d,.convert sT dT x,ty,pos,aft,none⟩ (strV l):= λρ k=>by
  obtain⟨foot,a⟩:=f.own i hi;obtain⟨o,⟨rfl,n,rfl⟩ | ⟨b,cap,sp,rfl,p,q,m,rfl⟩⟩:=a
  · have c:l=[]:=List.eq_nil_of_length_eq_zero n;subst c;simp [execOp,k _ _ g,run_convert_bytes_string w sT dT e none 0 0 h j hd,Conv.bytesToString];rfl
  · refine ev_strB i f l hi U g h j hd ?_ U ρ k;rw[List.drop_zero,Rh,List.take_of_length_le (by rw[U8];exact Nat.le_refl _)]
theorem Oo (i:Nat) (b:Sat w As) (hi:As[i]? =some (rowT byC v l)) (c:look L x=some v) (f:P.underlying sT=some (.slice e)) (g:P.underlying e=some (.int .u8)) (hd:P.underlying dT=some .string) (a:Nat.blt d n=true) (h:wl P n ops Q rest ((d,strV l)::L) w):wl P n ops Q (⟨some d,.convert sT dT x,ty,pos,aft,none⟩::rest) L w:=
  Xp a (BP i b hi c f g hd) h
end
theorem Ev.gd {L:Env} {d:Option Nat} {op:Op} {ty:TypeId} {pos:String} {aft:Array Edge} {gd:Option (Nat×Bool)} (h:Ev P L w ⟨d,op,ty,pos,aft,none⟩ v):Ev P L w ⟨d,op,ty,pos,aft,gd⟩ v:=h
def RdX {α:Type} (enc:α->List Value) (size:Nat) (φ:α->World->Prop) (v:Value) (l:List α) (w:World):Prop:= ∃ao cap,v= .slice ao l.length cap/\l.length<=9223372036854775807/\ ∀(i:Nat) (a:α),l[i]? =some a->
  (∃b off,ao=some ⟨b,off,none⟩/\ ∀(j:Nat) (u:Value),(enc a)[j]? =some u->w.cell? ⟨b,off+i*size+j,none⟩=some u)/\φ a w
section
variable {α:Type} {enc:α→List Value} {size:Nat} {φ:α→World→Prop} {l:List α} {w:World} {v:Value}
theorem RdX.shape (h:RdX enc size φ v l w): ∃ao cap,v= .slice ao l.length cap/\l.length<=9223372036854775807:=by obtain⟨ao,cap,a,b,_⟩:=h;exact⟨ao,cap,a,b⟩
theorem RdX.get {a:α} (h:RdX enc size φ (.slice ao n cap) l w) (c:l[i]? =some a):
    (∃b off,ao=some ⟨b,off,none⟩/\ ∀(j:Nat) (u:Value),(enc a)[j]? =some u->w.cell? ⟨b,off+i*size+j,none⟩=some u)/\φ a w:=by
  obtain⟨ao',cap',d,_,e⟩:=h;cases d;exact e i a c
theorem RdX.cells {a:α} (h:RdX enc size φ (.slice (some ⟨b,off,none⟩) n cap) l w) (c:l[i]? =some a): ∀(j:Nat) (u:Value),(enc a)[j]? =some u->w.cell? ⟨b,off+i*size+j,none⟩=some u:=by
  obtain⟨⟨b2,o2,e,d⟩,_⟩:=h.get c;cases e;exact d
end
def Xo (s:List UInt8):Value:=strV s
theorem qbl {t:List UInt8} (h:strV s=strV t):s=t:=by
  simp only[strV,Value.string.injEq,ByteArray.mk.injEq]at h
  simpa using h
theorem Ip (f:P.underlying kt=some .string):KeyOk P kt Xo where
  inj:= λa b h=>qbl h
  bits:= λa=>MapKept.sameBits_self (d:= .string) (by simp [MapKept.IsKey,Xo,strV]) _
  check:= λe a w=>MapKept.run_checkKey f (by simp [MapKept.IsKey,Xo,strV]) e 9999
  find:= λa l w h=>by
    rcases MapKept.findNow_spec (d:= .string) (k:=Xo a) (by simp [MapKept.IsKey,Xo,strV]) l 0 (λx i=>by obtain⟨b,m⟩:=h x i;rw[m];simp [MapKept.IsKey,Xo,strV])with⟨c,g⟩ | ⟨j,e,c,g,n⟩
    · exact .inr ⟨g,MapKept.run_findKey f c⟩
    · refine .inl ⟨j,e,g,n, ?_⟩;rw[Nat.zero_add]at c;exact MapKept.run_findKey f c
def Card {κ:Type} (f:κ->Option Value) (n:Nat):Prop:= ∃ks:List κ,ks.Nodup/\ks.length=n/\ ∀k,f k≠none↔k∈ks
theorem Card.zero {f:κ->Option Value} (h:Card f n):n=0↔ ∀k,f k=none:=by
  obtain⟨ks,_,c,a⟩:=h;constructor
  · intro d k;have :ks=[]:=List.eq_nil_of_length_eq_zero (by omega);subst this;by_cases b:f k=none
    · exact b
    · exact absurd ((a k).1 b) (by simp)
  · intro h;cases ks with
    | nil=>simpa using c.symm
    | cons k ks=> exact absurd (h k) ((a k).2 (by simp))
theorem Card.same {f g:κ->Option Value} (h:Card f n) (c:Card g m) (e: ∀k,f k=none↔g k=none):n=m:=by
  obtain⟨ks,d,j,b⟩:=h;obtain⟨js,g1,g2,g3⟩:=c;have i: ∀x∈ks,x∈js:= λx a=>(g3 x).1 λq=>((b x).2 a) ((e x).2 q);have s2: ∀x∈js,x∈ks:= λx a=>(b x).1 λq=>((g3 x).2 a) ((e x).1 q);have l1:=List.Nodup.length_le_of_subset d i;have l2:=List.Nodup.length_le_of_subset g1 s2;omega
theorem MapAt.card {kv:κ->Value} {es:Array MapEntry} {clock:Nat} {f:κ->Option Value} (h:MapAt kv w b es clock) (i: ∀a b,kv a=kv b->a=b) (o:Reads kv es f):Card f es.size:=by
  have s: ∀(l:List MapEntry),(∀x∈l,∃a,x.key=kv a)-> ∃ks:List κ,l.map (·.key)=ks.map kv:=by
    intro l
    induction l with
    | nil=> intro _;exact⟨[],rfl⟩
    | cons x l ih=>
      intro p;obtain⟨a,t⟩:=p x (by simp);obtain⟨ks,c⟩:=ih λy u=>p y (by simp [u]);exact⟨a::ks,by simp [t,c]⟩
  obtain⟨ks,c⟩:=s es.toList h.keys;refine⟨ks, ?_, ?_,λk=> ?_⟩
  · have q:(es.toList.map (·.key)).Nodup:=h.stamped.2.2;rw[c,List.Nodup,List.pairwise_map]at q;exact q.imp λd e=>d (by rw[e])
  · have :=congrArg List.length c
    simpa using this.symm
  · constructor
    · intro d;cases r:f k with
      | none=> exact absurd r d
      | some v=>
        obtain⟨e,m,g,_⟩:=(o k v).1 r;have :kv k∈ks.map kv:=by rw[<-c,<-g];exact List.mem_map.2 ⟨e,m,rfl⟩
        obtain⟨j,z,n⟩:=List.mem_map.1 this;rw[<-i _ _ n];exact z
    · intro A;have :kv k∈es.toList.map (·.key):=by rw[c];exact List.mem_map.2 ⟨k,A,rfl⟩
      obtain⟨e,m,g⟩:=List.mem_map.1 this;rw[(o k e.val).2 ⟨e,m,g,rfl⟩];simp
section
variable {κ:Type} {kv:κ→Value}
variable {P:Program} {n:Nat} {ops:Array Oper} {Q:Exit→Act→World→Prop} {rest:List Oper} {L:Env} {w:World} {d:Nat} {ty:TypeId} {pos:String} {aft:Array Edge} {As:List Th}
theorem Wf {f:κ->Option Value} {k:κ} (i:Nat) (o:Sat w As) (K:KeyOk P kt kv) (r:P.underlying mt=some (.map kt et)) (hi:As[i]? =some (Q4 kv b f)) (s:look L x=some (.map (some b))) (t:look L y=some (kv k)) (hd:dOk n dst=true)
    (v: ∀w',Sat w' (As.set i (Q4 kv b (upd f k none)))->wl P n ops Q rest (pd dst (.tuple #[]) L) w'):wl P n ops Q (⟨dst,.call ⟨.builtin .delete, #[x,y], #[mt,t2]⟩,ty,pos,aft,none⟩::rest) L w:=by
  obtain⟨es,c,z,A⟩:=o.map i hi;refine XI U (by cases dst<;> exact hd) (λa p=>Dq mt t2 x y U K r z (p.eval s) (p.eval t)) ?_
  rintro _ w' ⟨rfl,es',g,B,C,_⟩;refine v w' (o.map_set i hi B ?_ C);intro j u;by_cases l:j=k
  · subst l;rw[XR];constructor
    · intro e;cases e
    · rintro⟨e,h,d,_⟩;exact absurd d ((g e).1 h).2
  · rw[ZG l,A j u];constructor
    · rintro⟨e,h,d,m⟩;exact⟨e,(g e).2 ⟨h,λq=>l (K.inj _ _ (d.symm.trans q))⟩,d,m⟩
    · rintro⟨e,h,d,m⟩;exact⟨e,((g e).1 h).1,d,m⟩
theorem ND {k:κ} (K:KeyOk P kt kv) (c:P.underlying mt=some (.map kt et)) (d:look L x=some (.map none)) (e:look L y=some (kv k)) (hd:dOk n dst=true)
    (f:wl P n ops Q rest (pd dst (.tuple #[]) L) w):wl P n ops Q (⟨dst,.call ⟨.builtin .delete, #[x,y], #[mt,t2]⟩,ty,pos,aft,none⟩::rest) L w:=
  XI rfl (by cases dst<;> exact hd) (R:= λu w'=>u= .tuple #[]/\w'=w) (λa b=>⟨_,w,.inl (by simp [execOp,b.eval d,b.eval e,resolve,invoke,builtin,Builtin.delete_,run_underlying c,K.check]),rfl,rfl⟩) (by rintro _ _ ⟨rfl,rfl⟩;exact f)
theorem ev_lenM {t:TypeId} {f:κ->Option Value} (i:Nat) (j:Sat w As) (k:P.underlying t=some (.map kt et)) (g: ∀a b,kv a=kv b->a=b) (hi:As[i]? =some (Q4 kv b f)) (l:look L x=some (.map (some b))) (n:Card f m):Ev P L w ⟨some d,.call ⟨.builtin .len, #[x], #[t]⟩,ty,pos,aft,none⟩ (.int .i64 (m:Int)):= λρ o=>by
  obtain⟨es,c,h,p⟩:=j.map i hi;have e:m=es.size:=n.same (h.card g p) λ_=>Iff.rfl;subst e;simp [execOp,o _ _ l,resolve,invoke,builtin,Builtin.len_,run_underlying k,MapKept.run_getObj_map h.blk,goInt]
theorem Ef {t:TypeId} {f:κ->Option Value} (i:Nat) (g:Sat w As) (j:P.underlying t=some (.map kt et)) (e: ∀a b,kv a=kv b->a=b) (hi:As[i]? =some (Q4 kv b f)) (k:look L x=some (.map (some b))) (hd:Nat.blt d n=true)
    (l: ∀m:Nat,Card f m->wl P n ops Q rest ((d,.int .i64 (m:Int))::L) w):wl P n ops Q (⟨some d,.call ⟨.builtin .len, #[x], #[t]⟩,ty,pos,aft,none⟩::rest) L w:=by
  obtain⟨es,c,o,p⟩:=g.map i hi;have h:=o.card e p;exact Xp hd (ev_lenM i g j e hi k h) (l _ h)
theorem qeg {t:TypeId} (a:P.underlying t=some (.map kt et)) (b:look L x=some (.map none)):Ev P L w ⟨some d,.call ⟨.builtin .len, #[x], #[t]⟩,ty,pos,aft,none⟩ (.int .i64 0):= λρ c=>by
  simp [execOp,c _ _ b,resolve,invoke,builtin,Builtin.len_,run_underlying a,goInt]
theorem qaw {t:TypeId} (a:P.underlying t=some (.map kt et)) (b:look L x=some (.map none)) (hd:Nat.blt d n=true) (c:wl P n ops Q rest ((d,.int .i64 0)::L) w):wl P n ops Q (⟨some d,.call ⟨.builtin .len, #[x], #[t]⟩,ty,pos,aft,none⟩::rest) L w:=Xp hd (qeg a b) c
theorem Pv {k:κ} (K:KeyOk P kt kv) (b:P.underlying mt=some (.map kt et)) (c:XE P et=some (some z)) (e:look L x=some (.map none)) (f:look L y=some (kv k)):Ev P L w ⟨some d,.lookup mt x y false,ty,pos,aft,none⟩ z:= λρ a=>by
  have g:(Instr.findKey kt (kv k) []).run P w= .ok none w:=by
    rcases K.find k [] w (by simp)with⟨i,x,h,_⟩ | ⟨_,h⟩
    · simp at h
    · exact h
  simp [execOp,a _ _ e,a _ _ f,Instr.lookup,run_underlying b,K.check,g,Jq c w]
theorem Vf {k:κ} (K:KeyOk P kt kv) (a:P.underlying mt=some (.map kt et)) (b:XE P et=some (some z)) (c:look L x=some (.map none)) (e:look L y=some (kv k)) (hd:Nat.blt d n=true) (f:wl P n ops Q rest ((d,z)::L) w):wl P n ops Q (⟨some d,.lookup mt x y false,ty,pos,aft,none⟩::rest) L w:=Xp hd (Pv K a b c e) f
theorem D8 {t:TypeId} (b:P.underlying t=some (.map kt et)) (c:look L x=some (.map none)) (e:look L y=some (.map none)):Ev P L w ⟨some d,.binOp .eql t x y t2,ty,pos,aft,none⟩ (.bool true):= λρ a=>by
  have h:(Op.equal t (.map none) (.map none)).run P w= .ok true w:=by
    unfold Op.equal Op.maxDepth Op.equalIn;simp only[Sem.run_bind,run_underlying b,Result.andThen];rfl
  simp [execOp,a _ _ c,a _ _ e,eqGuard,binOp,h]
theorem VB {t:TypeId} (a:P.underlying t=some (.map kt et)) (b:look L x=some (.map none)) (c:look L y=some (.map none)) (hd:Nat.blt d n=true) (e:wl P n ops Q rest ((d,.bool true)::L) w):wl P n ops Q (⟨some d,.binOp .eql t x y t2,ty,pos,aft,none⟩::rest) L w:=Xp hd (D8 a b c) e
end
def XV (c:UInt8):Value:= .int .u8 (c.toNat:Int)
theorem B9 {e:TypeId} (a:Z0 P e=some false) (xs:Array Value) (i:Nat) (v:Value) (b:xs[i]? =some v) (w:World):(part e xs i).run P w= .ok v w:=by
  unfold part;simp [V6 a,b]
theorem Rv {P:Program} {w:World} (c:Nat->Bool) (F:Nat->Option Bool×Unit->Sem (ForInStep (Option Bool×Unit))):
    ∀(is:List Nat),(∀i∈is,(F i (none,())).run P w= .ok (if c i then .yield (none,())else .done (some false,())) w)->(forIn is (none,()) F).run P w= .ok (if is.all c then(none,())else(some false,())) w
  | [],_=>by simp
  | i::is,h=>by
    have b:=h i (by simp);have d:=Rv c F is λj e=>h j (by simp [e]);rw[List.forIn_cons,Sem.run_bind,b];cases a:c i with
    | true=> simp [Result.andThen,a,d]
    | false=> simp [Result.andThen,a]
theorem OQ {t e:TypeId} {len:Nat} (k:P.underlying t=some (.array len e)) (l:P.underlying e=some (.int .u8)) (m:ZQ P e=some 1) (j:Z0 P e=some false) (xs ys:List UInt8) (o:xs.length=len) (p:ys.length=len) (w:World):
    (Op.equal t (.agg (xs.map XV).toArray) (.agg (ys.map XV).toArray)).run P w= .ok (decide (xs=ys)) w:=by
  unfold Op.equal Op.maxDepth Op.equalIn;simp only[Sem.run_bind,run_underlying k,Result.andThen,Zp m];rw[Std.Legacy.Range.forIn_eq_forIn_range'];rw[Rv (λi=>decide (xs[i]? =ys[i]?))]
  · simp only
    have d:(List.range' 0 ((([:len]:Std.Legacy.Range).size)) 1).all (λi=>decide (xs[i]? =ys[i]?))=decide (xs=ys):=by
      rw[Bool.eq_iff_iff,List.all_eq_true,decide_eq_true_eq];constructor
      · intro h;apply List.ext_getElem?;intro i;by_cases hi:i<len
        · have :=h i (by simp [List.mem_range'];omega)
          simpa using this
        · rw[List.getElem?_eq_none (by omega),List.getElem?_eq_none (by omega)]
      · rintro rfl i _;simp
    rw[d];by_cases h:xs=ys
    · simp [h]
    · simp [h]
  · intro i hi;have n:i<len:=by simp [List.mem_range']at hi;omega
    obtain⟨a,f⟩: ∃a,xs[i]? =some a:=⟨_,XQ (by omega)⟩;obtain⟨b,g⟩: ∃b,ys[i]? =some b:=⟨_,XQ (by omega)⟩;have px:=B9 (P:=P) j (xs.map XV).toArray (i*1) (XV a) (by simp [f]) w;have py:=B9 (P:=P) j (ys.map XV).toArray (i*1) (XV b) (by simp [g]) w;simp only[Sem.run_bind,px,py,Result.andThen,XV,VE l];rw[f,g];by_cases c:a=b
    · subst c;simp
    · have : ¬((a.toNat:Int)=(b.toNat:Int)):= λq=>c (UInt8.toNat_inj.1 (by omega));simp [c,this]
section
variable {P:Program} {n:Nat} {ops:Array Oper} {Q:Exit→Act→World→Prop} {rest:List Oper} {L:Env} {w:World} {d:Nat} {ty:TypeId} {pos:String} {aft:Array Edge} {As:List Th}
theorem I6 {t2 len:Nat} (xs ys:List UInt8) (f:P.underlying t=some (.array len e)) (g:P.underlying e=some (.int .u8)) (i:ZQ P e=some 1) (j:Z0 P e=some false) (k:P.eqGuardType P.depth t=false) (a:xs.length=len) (b:ys.length=len) (l:look L x=some (.agg (xs.map XV).toArray)) (m:look L y=some (.agg (ys.map XV).toArray)):Ev P L w ⟨some d,.binOp .eql t x y t2,ty,pos,aft,none⟩ (.bool (decide (xs=ys))):= λρ c=>by
  have h:=OQ f g i j xs ys a b w;simp [execOp,c _ _ l,c _ _ m,eqGuard,binOp,program,Sem.run,k]at h⊢;rw[h];rfl
theorem CA {t2 len:Nat} (xs ys:List UInt8) (c:P.underlying t=some (.array len e)) (f:P.underlying e=some (.int .u8)) (g:ZQ P e=some 1) (h:Z0 P e=some false) (i:P.eqGuardType P.depth t=false) (a:xs.length=len) (b:ys.length=len) (j:look L x=some (.agg (xs.map XV).toArray)) (k:look L y=some (.agg (ys.map XV).toArray)) (hd:Nat.blt d n=true)
    (l:wl P n ops Q rest ((d,.bool (decide (xs=ys)))::L) w):wl P n ops Q (⟨some d,.binOp .eql t x y t2,ty,pos,aft,none⟩::rest) L w:=Xp hd (I6 xs ys c f g h i a b j k) l
theorem I2 {len:Nat} {i:Int} (j:Nat) (b:P.underlying t=some (.array len e)) (c:ZQ P e=some 1) (f:Z0 P e=some false) (hi:i=(j:Int)) (g:j<len) (h:cs[j]? =some v) (l:look L x=some (.agg cs)) (m:look L y=some (.int k i)):Ev P L w ⟨some d,.index t x y,ty,pos,aft,none⟩ v:= λρ a=>by
  subst hi;have n:=B9 (P:=P) f cs j v h w;have o:(0:Int)<=(j:Int)/\(j:Int)<(len:Int):=by omega
  simp [execOp,a _ _ l,a _ _ m,Instr.index,asIntOf,run_underlying b,Zp c,n,g]
theorem C9 {len:Nat} {i:Int} (j:Nat) (a:P.underlying t=some (.array len e)) (b:ZQ P e=some 1) (c:Z0 P e=some false) (hi:i=(j:Int)) (f:j<len) (g:cs[j]? =some v) (h:look L x=some (.agg cs)) (l:look L y=some (.int k i)) (hd:Nat.blt d n=true) (m:wl P n ops Q rest ((d,v)::L) w):wl P n ops Q (⟨some d,.index t x y,ty,pos,aft,none⟩::rest) L w:=Xp hd (I2 j a b c hi f g h l) m
theorem I8 {len:Nat} {z:Array Value} (a:P.underlying t=some (.array len e)) (b:ZQ P e=some 1) (c:XE P t=some (some (.agg z))):Ev P L w ⟨some d,.build t #[],ty,pos,aft,none⟩ (.agg z):= λρ _=>by
  simp [execOp,Instr.build,run_underlying a,Zp b,Jq c w,Value.cells,Instr.fill]
theorem CC {len:Nat} {z:Array Value} (a:P.underlying t=some (.array len e)) (b:ZQ P e=some 1) (c:XE P t=some (some (.agg z))) (hd:Nat.blt d n=true) (f:wl P n ops Q rest ((d,.agg z)::L) w):wl P n ops Q (⟨some d,.build t #[],ty,pos,aft,none⟩::rest) L w:=Xp hd (I8 a b c) f
theorem Oq {f:Nat} {name:String} {args:List Operand} {v':Value} (g:look L x=some (.iface t v)) (i: ∀w:World,(method (P.types.size+Made.depth) t v name).run P w= .ok (f,v') w) (j:Q8 P f=true) (k:Jg L args=some vs) (l:Calls P f (v'::vs).toArray w R) (hd:(match dst with | some d=>Nat.blt d n | none=>true)=true)
    (m: ∀e w',R e w'-> ∃v,e= .returned v/\wl P n ops Q rest (pd dst v L) w'):wl P n ops Q (⟨dst,.call ⟨.invoke x name,args.toArray,ts⟩,ty,pos,aft,none⟩::rest) L w:=by
  unfold wl;intro a b;refine wpList_plain U λK o=> ?_;unfold Oper.wp;have p:=b.evals k
  have q:(execOp a.eval ⟨dst,.call ⟨.invoke x name,args.toArray,ts⟩,ty,pos,aft,none⟩).run P w= .ok (.enter f (v'::vs).toArray) w:=by
    have c:=i w;simp only[execOp,resolve,b.eval g];simp [invoke,callMethod,p,program,Sem.run]at c⊢;rw[c];have :=UV j (v'::vs).toArray w
    simpa [Sem.run]using this
  rw[q];refine Calls.mono l λe w' r=> ?_;obtain⟨u,rfl,h⟩:=m e w' r;unfold wl at h;exact o _ _ (h _ (b.put dst u hd))
end
