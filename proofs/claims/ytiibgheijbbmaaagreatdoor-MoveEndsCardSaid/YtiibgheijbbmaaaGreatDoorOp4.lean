/- Rules for ranging over maps, for values in interfaces, and for calls into the model's own entries. Conditions: each rule's own hypotheses. -/
import Derived.Test.YtiibgheijbbmaaaGreatDoorMap
import Derived.Laws.Externs
import Derived.Sort.EncStr
import Derived.Sort.Grow
namespace Go.Proofs.YtiibgheijbbmaaaGreatDoor.M
open Go.RowKit
section
variable {κ:Type} {kv:κ→Value}
def KY (es:Array MapEntry) (seen:Array Nat):List MapEntry:=es.toList.filter fun e=> !seen.toList.contains e.born
def YK (kv:κ→Value) (b r:Nat) (g:κ→Option Value) (dn:κ→Prop) (cur:Option κ) (left:Nat):Th where
  at_:= fun w F=>(F= fun k=>k=b∨k=r)∧b≠r∧ ∃es clock seen,MapAt kv w b es clock∧Reads kv es g∧IterAt w r b clock seen clock∧(∀e∈es.toList,∀k,e.key=kv k→(e.born∈seen.toList↔dn k))∧(KY es seen).length=left∧
    (∀k,cur=some k→ ∃(s0:Array Nat) (e:MapEntry),seen=s0.push e.born∧e∈es.toList∧e.key=kv k)
  fr:= fun {w w2 F} a h=> by
    obtain⟨e,hne,es,c,sn,h1,h2,h3,h4⟩:=h
    have hb:=a.blk b (by rw[e]; exact .inl Qa)
    have hr:=a.blk r (by rw[e]; exact .inr Qa)
    exact⟨e,hne,es,c,sn,h1.congr hb,h2, by unfold IterAt at h3⊢; rw[hr]; exact h3,h4⟩
  lt:= fun h k hk=> by
    obtain⟨e,_,es,c,sn,h1,_,h3,_⟩:=h
    rw[e]at hk
    rcases hk with rfl | rfl
    · exact h1.lt
    · exact h3.lt
theorem Vq {w:World} {As:List Th} {b r:Nat} {g:κ→Option Value} {dn:κ→Prop} {cur:Option κ} {left:Nat} (h:Sat w (YK kv b r g dn cur left::As)):Sat w (XI kv b g::As):= by
  obtain⟨F,F1,F2,rfl,d,⟨e,_,es,c,sn,h1,h2,_⟩,g2⟩:=h
  exact⟨_, fun k=>k=b,F2,rfl, fun k hk hf=>d k (by rw[e]; exact .inl hk) hf,⟨rfl,es,c,h1,h2⟩,g2⟩
section
variable {P:Program} {n:Nat} {ops:Array Oper} {Q:Exit→Act→World→Prop} {rest:List Oper} {L:Env} {w:World} {d:Nat} {ty:TypeId} {pos:String} {aft:Array Edge}
theorem Kd {mt kt et:TypeId} {x:Operand} {b:Nat} {f:κ→Option Value} {As:List Th} (i:Nat) (hS:Sat w As) (hm:P.underlying mt=some (.map kt et)) (hi:As[i]? =some (XI kv b f)) (hx:look L x=some (.map (some b))) (hd:Nat.blt d n=true)
    (hk: ∀r left w',Sat w' (As.set i (YK kv b r f (fun _=>False) none left))→wl P n ops Q rest ((d,ptrV r 0)::L) w'):wl P n ops Q (⟨some d,.range mt x,ty,pos,aft,none⟩::rest) L w:= by
  obtain⟨es,c,h1,h2⟩:=hS.map i hi
  refine Zk Qa hd (fun a ha=>FA mt x Qa hm h1 (ha.eval hx)) ?_
  rintro v w' ⟨rfl,h3,h4⟩
  have ho:Only [] w w':= by rw[h4]; exact(Only.refl _ _).alloc _
  refine hk w.heap.size _ w' (hS.step i hi fun F ⟨e,_⟩=>⟨fun k=>k=b∨k=w.heap.size,⟨rfl, ?_,es,c, #[], ?_,h2,h3, by simp,rfl, by simp⟩, ?_, ?_⟩)
  · have :=h1.lt;omega
  · exact h1.congr (ho.block b h1.lt (by simp))
  · rintro k (rfl | rfl)
    · exact .inl (by rw[e])
    · exact .inr (Nat.le_refl _)
  · exact⟨ho.os,ho.tape,ho.output, fun k hk=>ho.block k hk.1 (by simp)⟩
theorem RQ {x:Operand} {b r left:Nat} {g:κ→Option Value} {dn:κ→Prop} {cur:Option κ} {As:List Th} (i:Nat) (hS:Sat w As) (hinj: ∀a b,kv a=kv b→a=b) (hi:As[i]? =some (YK kv b r g dn cur left)) (hx:look L x=some (ptrV r 0)) (hd:Nat.blt d n=true)
    (h0:(∀k v,g k=some v→dn k)→wl P n ops Q rest ((d,.tuple #[.bool false])::L) w)
    (h1: ∀k v left' w',left=left'+1→g k=some v→ ¬dn k→Sat w' (As.set i (YK kv b r g (fun j=>dn j∨j=k) (some k) left'))→wl P n ops Q rest ((d,.tuple #[.bool true,kv k,v])::L) w'):wl P n ops Q (⟨some d,.next x false,ty,pos,aft,none⟩::rest) L w:= by
  obtain⟨F,hF,hne,es,c,sn,m1,m2,m3,m4,m5,m6⟩:=hS.get i hi
  refine Zk Qa hd (fun a ha=>AA x Qa m1 m3 (ha.eval hx)) ?_
  rintro v w' (⟨rfl,rfl,hall⟩ | ⟨e,he,hns,rfl,ho,hit,hsz⟩)
  · refine h0 fun k v hk=> ?_
    obtain⟨e,he,hkk,_⟩:=(m2 k v).1 hk
    exact(m4 e he k hkk).1 (hall e he)
  · obtain⟨k,hk⟩:=m1.keys e he
    have hgk:g k=some e.val:=(m2 k e.val).2 ⟨e,he,hk,rfl⟩
    have hcnt:(KY es (sn.push e.born)).length+1=(KY es sn).length:= by
      unfold KY
      have hnd:=m1.stamped.2.1
      have hmem: ∀l:List MapEntry,(l.map (·.born)).Nodup→e∈l→(l.filter fun x=> !(sn.push e.born).toList.contains x.born).length+1=(l.filter fun x=> !sn.toList.contains x.born).length:= by
        intro l
        induction l with
        | nil=> intro _ h; cases h
        | cons y l ih=>
          intro hn hy
          simp only[List.map_cons,List.nodup_cons]at hn
          rcases List.mem_cons.1 hy with rfl | hy
          · have h1:(!(sn.push e.born).toList.contains e.born)=false:= by simp
            have h2:(!sn.toList.contains e.born)=true:= by simpa using hns
            have h3:l.filter (fun x=> !(sn.push e.born).toList.contains x.born)=l.filter fun x=> !sn.toList.contains x.born:= by
              apply List.filter_congr
              intro x hx
              have :x.born≠e.born:= fun q=>hn.1 (List.mem_map.2 ⟨x,hx,q⟩)
              simp [this]
            rw[List.filter_cons,List.filter_cons,h1,h2,h3]; simp
          · have hne2:y.born≠e.born:= fun q=>hn.1 (List.mem_map.2 ⟨e,hy,q.symm⟩)
            have h1:(!(sn.push e.born).toList.contains y.born)=(!sn.toList.contains y.born):= by simp [hne2]
            have :=ih hn.2 hy
            rw[List.filter_cons,List.filter_cons,h1]
            split
            · simp only[List.length_cons];omega
            · exact this
      exact hmem es.toList hnd he
    rw[hk]
    refine h1 k e.val (KY es (sn.push e.born)).length w' (by omega) hgk (fun q=>hns ((m4 e he k hk).2 q)) (hS.step i hi fun F2 h2=> ?_)
    have hF2:=h2.1
    refine⟨fun k=>k=b∨k=r,⟨rfl,hne,es,c,sn.push e.born,m1.congr (ho.block b m1.lt (by simpa using hne)),m2,hit, ?_,rfl, ?_⟩, fun q hq=> .inl (by rw[hF2]; exact hq),ho.agree (fun x hx=> .inl (by simp only[List.mem_singleton]at hx; subst hx; rw[hF2]; exact .inr Qa))⟩
    · intro e2 he2 j hj
      simp only[Array.toList_push,List.mem_append,List.mem_singleton]
      rw[m4 e2 he2 j hj]
      constructor
      · rintro(h | h)
        · exact .inl h
        · have :e2=e:= by
            obtain⟨p,hp⟩:=List.mem_iff_getElem?.1 he2
            obtain⟨q,hq⟩:=List.mem_iff_getElem?.1 he
            have :=qap m1.stamped.2.1 hp hq h
            subst this; rw[hp]at hq; exact Option.some.inj hq
          subst this
          exact .inr (hinj _ _ (hj.symm.trans hk))
      · rintro(h | h)
        · exact .inl h
        · subst h
          exact .inr (by rw[key_one m1.stamped.2.2 he2 he (hj.trans hk.symm)])
    · intro j hj
      cases hj
      exact⟨sn,e,Qa,he,hk⟩
theorem Ke {x:Operand} {b r left:Nat} {g:κ→Option Value} {dn:κ→Prop} {k:κ} {v:Value} {As:List Th} (i:Nat) (hS:Sat w As) (hi:As[i]? =some (YK kv b r g dn (some k) left)) (hg:g k=some v) (hx:look L x=some (ptrV r 0)) (hd:Nat.blt d n=true)
    (hk:wl P n ops Q rest ((d,.tuple #[kv k,v])::L) w):wl P n ops Q (⟨some d,.entry x,ty,pos,aft,none⟩::rest) L w:= by
  obtain⟨F,hF,hne,es,c,sn,m1,m2,m3,m4,m5,m6⟩:=hS.get i hi
  obtain⟨s0,e,rfl,he,hke⟩:=m6 k rfl
  have hv:v=e.val:= by have :=(m2 k e.val).2 ⟨e,he,hke,rfl⟩; rw[hg]at this; exact Option.some.inj this
  subst hv
  refine Zk Qa hd (fun a ha=>FB x Qa m1 m3 he (ha.eval hx)) ?_
  rintro u w' ⟨rfl,rfl⟩
  rw[hke]; exact hk
theorem UT {mt kt et:TypeId} {x y z:Operand} {b r left:Nat} {g:κ→Option Value} {dn:κ→Prop} {cur:Option κ} {As:List Th} {k:κ} {v v0:Value} (i:Nat) (hS:Sat w As) (K:KeyOk P kt kv) (hm:P.underlying mt=some (.map kt et)) (hi:As[i]? =some (YK kv b r g dn cur left)) (hg:g k=some v0) (hx:look L x=some (.map (some b))) (hy:look L y=some (kv k)) (hz:look L z=some v)
    (hk: ∀w',Sat w' (As.set i (YK kv b r (upd g k (some v)) dn cur left))→wl P n ops Q rest L w'):wl P n ops Q (⟨none,.mapUpdate mt x y z,ty,pos,aft,none⟩::rest) L w:= by
  obtain⟨F,hF,hne,es,c,sn,m1,m2,m3,m4,m5,m6⟩:=hS.get i hi
  refine Zk Qa Qa (fun a ha=>KA mt x y z Qa K hm m1 (ha.eval hx) (ha.eval hy) (ha.eval hz)) ?_
  rintro _ w' ⟨rfl,es',c',hp,h3,h4,_⟩
  have hread:=m2.put K m1.stamped hp
  obtain⟨e0,he0,hk0,hv0⟩:=(m2 k v0).1 hg
  rcases hp with⟨rfl,j,e,h1,h2,rfl⟩ | ⟨rfl,h1,rfl⟩
  · have hborn: ∀e2∈(es.modify j (fun e=>{e with key:=kv k,val:=v})).toList,∃e1∈es.toList,e1.born=e2.born∧e1.key=e2.key:= by
      intro e2 he2
      obtain⟨q,hq⟩:=List.mem_iff_getElem?.1 he2
      rw[Array.getElem?_toList,Array.getElem?_modify]at hq
      by_cases hjq:j=q
      · subst hjq
        rw[if_pos Qa,h1]at hq
        simp at hq; subst hq
        exact⟨e,List.mem_of_getElem? (by simpa using h1),rfl,h2⟩
      · rw[if_neg hjq]at hq
        exact⟨e2,List.mem_of_getElem? (by simpa using hq),rfl,rfl⟩
    have hmapb:(es.modify j (fun e=>{e with key:=kv k,val:=v})).toList.map (·.born)=es.toList.map (·.born):= by
      apply List.ext_getElem?
      intro q
      simp only[List.getElem?_map,Array.getElem?_toList,Array.getElem?_modify]
      by_cases hjq:j=q
      · subst hjq; rw[if_pos Qa]; cases es[j]? <;>rfl
      · rw[if_neg hjq]
    have hlen: ∀(l l':List MapEntry),l.map (·.born)=l'.map (·.born)→(l.filter fun e=> !sn.toList.contains e.born).length=(l'.filter fun e=> !sn.toList.contains e.born).length:= by
      intro l
      induction l with
      | nil=> intro l' h; cases l' with | nil=>rfl | cons=> simp at h
      | cons y l ih=>
        intro l' h
        cases l' with
        | nil=> simp at h
        | cons y' l'=>
          simp only[List.map_cons,List.cons.injEq]at h
          rw[List.filter_cons,List.filter_cons,h.1]
          split
          · simp only[List.length_cons,ih l' h.2]
          · exact ih l' h.2
    refine hk w' (hS.step i hi fun F2 hF2'=> ?_)
    have hF2:=hF2'.1
    refine⟨fun k=>k=b∨k=r,⟨rfl,hne,_,c',sn,h3,hread, ?_, ?_, ?_, ?_⟩, fun q hq=> .inl (by rw[hF2]; exact hq),h4.agree (fun x hx=> .inl (by simp only[List.mem_singleton]at hx; subst hx; rw[hF2]; exact .inl Qa))⟩
    · have hlt:=m3.lt;unfold IterAt at m3⊢; rw[h4.block r hlt (by simpa using Ne.symm hne)]; exact m3
    · intro e2 he2 q hq
      obtain⟨e1,he1,hb1,hk1⟩:=hborn e2 he2
      rw[←hb1]; exact m4 e1 he1 q (hk1.trans hq)
    · rw[←m5]; exact hlen _ _ hmapb
    · intro q hq
      obtain⟨s0,e1,hs,he1,hk1⟩:=m6 q hq
      obtain⟨p,hp⟩:=List.mem_iff_getElem?.1 he1
      by_cases hjp:j=p
      · subst hjp
        have :e1=e:= by rw[Array.getElem?_toList,h1]at hp; exact(Option.some.inj hp).symm
        subst this
        refine⟨s0,{e1 with key:=kv k,val:=v},hs,List.mem_of_getElem? (i:=j) ?_,h2.symm.trans hk1⟩
        rw[Array.getElem?_toList,Array.getElem?_modify,if_pos Qa,h1];rfl
      · refine⟨s0,e1,hs,List.mem_of_getElem? (i:=p) ?_,hk1⟩
        rw[Array.getElem?_toList,Array.getElem?_modify,if_neg hjp];simpa using hp
  · exact absurd hk0 (h1 e0 he0)
theorem SI {mt t2 kt et:TypeId} {x y:Operand} {b r left:Nat} {g:κ→Option Value} {dn:κ→Prop} {As:List Th} {k:κ} (i:Nat) (hS:Sat w As) (K:KeyOk P kt kv) (hm:P.underlying mt=some (.map kt et)) (hi:As[i]? =some (YK kv b r g dn (some k) left)) (hdn:dn k) (hx:look L x=some (.map (some b))) (hy:look L y=some (kv k)) {dst:Option Nat} (hd:dOk n dst=true)
    (hk: ∀w',Sat w' (As.set i (YK kv b r (upd g k none) dn none left))→wl P n ops Q rest (pd dst (.tuple #[]) L) w'):wl P n ops Q (⟨dst,.call ⟨.builtin .delete, #[x,y], #[mt,t2]⟩,ty,pos,aft,none⟩::rest) L w:= by
  obtain⟨F,hF,hne,es,c,sn,m1,m2,m3,m4,m5,m6⟩:=hS.get i hi
  refine Zk Qa (by cases dst<;> exact hd) (fun a ha=>BY mt t2 x y Qa K hm m1 (ha.eval hx) (ha.eval hy)) ?_
  rintro _ w' ⟨rfl,es',hmem,h3,h4,_⟩
  refine hk w' (hS.step i hi fun F2 hF2'=> ?_)
  have hF2:=hF2'.1
  have hsub: ∀e∈es'.toList,e∈es.toList:= fun e he=>((hmem e).1 he).1
  refine⟨fun k=>k=b∨k=r,⟨rfl,hne,es',c,sn,h3, ?_, ?_, fun e he q hq=>m4 e (hsub e he) q hq, ?_, by simp⟩, fun q hq=> .inl (by rw[hF2]; exact hq),h4.agree (fun x hx=> .inl (by simp only[List.mem_singleton]at hx; subst hx; rw[hF2]; exact .inl Qa))⟩
  · intro j v
    by_cases hj:j=k
    · subst hj
      rw[HE]
      constructor
      · intro h; cases h
      · rintro⟨e,he,hk2,_⟩; exact absurd hk2 ((hmem e).1 he).2
    · rw[R7 hj,m2 j v]
      constructor
      · rintro⟨e,he,hk2,hv⟩; exact⟨e,(hmem e).2 ⟨he, fun q=>hj (K.inj _ _ (hk2.symm.trans q))⟩,hk2,hv⟩
      · rintro⟨e,he,hk2,hv⟩; exact⟨e,hsub e he,hk2,hv⟩
  · have hlt:=m3.lt;unfold IterAt at m3⊢; rw[h4.block r hlt (by simpa using Ne.symm hne)]; exact m3
  · rw[←m5]
    unfold KY
    apply List.Perm.length_eq
    refine(List.perm_ext_iff_of_nodup ?_ ?_).2 ?_
    · exact List.Pairwise.filter _ (nodup_of_map h3.stamped.2.1)
    · exact List.Pairwise.filter _ (nodup_of_map m1.stamped.2.1)
    · intro e
      simp only[List.mem_filter,hmem]
      constructor
      · rintro⟨⟨h1,_⟩,h2⟩; exact⟨h1,h2⟩
      · rintro⟨h1,h2⟩
        refine⟨⟨h1, fun q=> ?_⟩,h2⟩
        have :=(m4 e h1 k q).2 hdn
        simp at h2
        exact h2 (by simpa using this)
where
  nodup_of_map {α β:Type} {f:α→β} {l:List α} (h:(l.map f).Nodup):l.Nodup:= by
    induction l with
    | nil=> exact List.nodup_nil
    | cons x l ih=>
      simp only[List.map_cons,List.nodup_cons]at h
      exact List.nodup_cons.2 ⟨fun hm=>h.1 (List.mem_map.2 ⟨x,hm,rfl⟩),ih h.2⟩
theorem RV {x y:Operand} {t t2 kt et:TypeId} {b:Nat} (hu:P.underlying t=some (.map kt et)) (hx:look L x=some (.map (some b))) (hy:look L y=some (.map none)) (hd:Nat.blt d n=true) (hk:wl P n ops Q rest ((d,.bool false)::L) w):wl P n ops Q (⟨some d,.binOp .eql t x y t2,ty,pos,aft,none⟩::rest) L w:=
  Xv hd (fun ρ hρ=> by
    have :(Op.equal t (.map (some b)) (.map none)).run P w= .ok false w:= by
      unfold Op.equal Op.maxDepth Op.equalIn
      simp only[Sem.run_bind,run_underlying hu,Result.andThen]
      rfl
    simp [execOp,hρ _ _ hx,hρ _ _ hy,eqGuard,binOp,this]) hk
def Vv (P:Program) (t:Nat):Bool:= match P.underlying t with | some (.interface _)=>false | some _=>true | none=>false
theorem RT {x:Operand} {t:TypeId} {v:Value} (ht:Vv P t=true) (hx:look L x=some v) (hd:Nat.blt d n=true) (hk:wl P n ops Q rest ((d,.iface t v)::L) w):wl P n ops Q (⟨some d,.makeInterface t x,ty,pos,aft,none⟩::rest) L w:=
  Xv hd (fun ρ hρ=> by
    unfold Vv at ht
    cases hu:P.underlying t with
    | none=> rw[hu]at ht; cases ht
    | some dd=>
      rw[hu]at ht
      simp only[execOp,hρ _ _ hx,Instr.makeInterface]
      cases dd<;> simp [run_underlying hu]<;> simp at ht) hk
theorem Rw {x:Operand} {xt t:TypeId} {v:Value} (ht:Vv P t=true) (hx:look L x=some (.iface t v)) (hd:Nat.blt d n=true) (hk:wl P n ops Q rest ((d,v)::L) w):wl P n ops Q (⟨some d,.typeAssert x xt t false,ty,pos,aft,none⟩::rest) L w:=
  Xv hd (fun ρ hρ=> by
    unfold Vv at ht
    cases hu:P.underlying t with
    | none=> rw[hu]at ht; cases ht
    | some dd=>
      rw[hu]at ht
      simp only[execOp,hρ _ _ hx,Instr.typeAssert]
      cases dd<;> simp [run_underlying hu]<;> simp at ht) hk
theorem RS {f : Nat} {fn : Func} {x : Operand} {ts : Array TypeId} {t : TypeId} {b : Nat} {g : κ → Option Value} {As : List Th} (i : Nat) (hS : Sat w As) (hf : P.funcs[f]? = some fn) (hname : (fn.name == "runtime.NumGoroutine") = false) (hb : fn.body.isNone = true) (hn : Extern.findNext fn = none) (he : Extern.find fn = some Extern.MapsClone.clone)
    (hi:As[i]? =some (XI kv b g)) (hx:look L x=some (.iface t (.map (some b)))) (hd:Nat.blt d n=true) (hk: ∀b' w',Sat w' (XI kv b' g::As)→wl P n ops Q rest ((d,.iface t (.map (some b')))::L) w'):wl P n ops Q (⟨some d,.call ⟨.value (.func f), #[x],ts⟩,ty,pos,aft,none⟩::rest) L w:= by
  obtain⟨es,c,h1,h2⟩:=hS.map i hi
  refine Zk Qa hd (R:= fun v w'=>v= .iface t (.map (some w.heap.size))∧w'=w.alloc (.map es c)) (fun a ha=>⟨_,_,.inl ?_,rfl,rfl⟩) ?_
  · have hr:(Extern.MapsClone.clone #[.iface t (.map (some b))]).run P w= .ok (.iface t (.map (some w.heap.size))) (w.alloc (.map es c)):= by
      have e:Extern.MapsClone.clone #[.iface t (.map (some b))]=(getObj b>>= fun o=> match o with
          | .map entries clock=>(newObj (.map entries clock)>>= fun n=>pure (.iface t (.map (some n))))
          | _ => stuck "maps.clone: a map expected") := rfl
      rw[e]
      simp [MapKept.run_getObj_map h1.blk]
    have hc:=run_callFunc_extern hf hname hb hn he #[.iface t (.map (some b))] w
    rw[hr]at hc
    simp only[execOp,resolve,Act.eval,Deferred.ofValue,invoke]
    have hxe:=ha.eval hx
    simp
    rw[hxe,hc];rfl
  · rintro v w' ⟨rfl,rfl⟩
    exact hk _ _ (hS.new ((Only.refl _ _).alloc _) (A:=XI kv w.heap.size g) ⟨rfl,es,c,⟨(MapKept.heap_alloc w _).1,h1.stamped,h1.keys⟩,h2⟩ (fun k hk=> by rw[hk]; exact Nat.le_refl _))
end
section
variable {P:Program} {n:Nat} {ops:Array Oper} {Q:Exit→Act→World→Prop} {rest:List Oper} {L:Env} {w:World} {d:Nat} {ty:TypeId} {pos:String} {aft:Array Edge}
theorem Sat.oagg {As:List Th} (hS:Sat w As) (i:Nat) {v:Value} {m m' size b o o' cap k:Nat} {xs vs:List Value} (hi:As[i]? =some (XT v m size xs)) (hv:v= .slice (some ⟨b,o',none⟩) m' cap) (hvs:(xs.drop o).take k=vs): ∀j u,vs[j]? =some u→w.cell? ⟨b,o+j,none⟩=some u:= by
  intro j u hj
  rw[←hvs,List.getElem?_take]at hj
  split at hj
  · rw[List.getElem?_drop]at hj; exact hS.ocell i hi hv hj
  · cases hj
theorem RU {As:List Th} (i:Nat) (hS:Sat w As) {x:Operand} {t b o o' cap m m' k size:Nat} {v:Value} {xs vs:List Value} (hi:As[i]? =some (XT v m size xs)) (hv:v= .slice (some ⟨b,o',none⟩) m' cap) (hx:look L x=some (ptrV b o)) (ha:W9 P t=some true) (hs:Wv P t=some k) (hvs:(xs.drop o).take k=vs) (hl:vs.length=k) (hd:Nat.blt d n=true)
    (hk:wl P n ops Q rest ((d,.agg vs.toArray)::L) w):wl P n ops Q (⟨some d,.load t x,ty,pos,aft,none⟩::rest) L w:=
  YO hx ha (by rw[hl]; exact hs) (hS.oagg i hi hv hvs) hd hk
theorem GR {As:List Th} (i:Nat) (hS:Sat w As) {x:Operand} {t e b o off m m' cap size q dc:Nat} {v z:Value} {xs xs':List Value} (hi:As[i]? =some (XT v m size xs)) (hv:v= .slice (some ⟨b,o,none⟩) m' cap) (hx:look L x=some (.slice (some ⟨b,off,none⟩) q dc)) (hu:P.underlying t=some (.slice e)) (hz:Z9 P e=some (some z)) (h1:ZV z.cells.toList=true) (hfit:off+q*z.cells.size≤xs.length) (hxs:XK xs off (List.replicate q z.cells.toList).flatten=xs') {dst:Option Nat} (hd:dOk n dst=true)
    (hk: ∀w',Sat w' (As.set i (XT v m size xs'))→wl P n ops Q rest (pd dst (.tuple #[]) L) w'):wl P n ops Q (⟨dst,.call ⟨.builtin .clear, #[x], #[t]⟩,ty,pos,aft,none⟩::rest) L w:= by
  subst hxs
  obtain⟨sp,hb,hback⟩:=hS.own_row i hi hv
  refine Zk Qa (by cases dst<;> exact hd) (fun a ha=>FC t x Qa (ha.eval hx) hb hu hz (Yh h1) (by simp;omega)) ?_
  rintro u w' ⟨rfl,h2,h3,_⟩
  have hl:off+(List.replicate q z.cells.toList).flatten.length≤xs.length:= by simp;omega
  refine hk w' (hback w' _ (Y3 hl) ?_ h3)
  rw[←YI hl]
  exact h2
theorem Sat.own_head {As:List Th} (hS:Sat w As) (i:Nat) {v:Value} {m m' size b cap q:Nat} {xs:List Value} (hi:As[i]? =some (XT v m size xs)) (hv:v= .slice (some ⟨b,0,none⟩) m' cap) (hq:q≤m):Sat w (As.set i (XT (.slice (some ⟨b,0,none⟩) q cap) q size (xs.take (q*size)))):= by
  refine hS.mono1 i hi fun F h=> ?_
  obtain⟨f,rfl,hl,⟨h0,_⟩ | ⟨b',cap',sp,h0,hc,hb,hlen,rfl⟩⟩:=h
  · rw[hv]at h0; cases h0
  · rw[hv]at h0; cases h0
    have hle:q*size≤m*size:=Nat.mul_le_mul_right _ hq
    refine⟨[b],rfl, by rw[List.length_take,hl];omega,.inr ⟨b,cap,xs.drop (q*size)++sp,rfl, by omega, ?_, ?_,rfl⟩⟩
    · rw[←List.append_assoc,List.take_append_drop]; exact hb
    · rw[←List.append_assoc,List.take_append_drop]; exact hlen
end
end
structure RowC (α:Type) where
  enc:α→List Value
  size:Nat
  pos:0<size
  len: ∀a,(enc a).length=size
  one: ∀a,ZV (enc a)=true
def RowC.cells {α:Type} (C:RowC α) (l:List α):List Value:=l.flatMap C.enc
section
variable {α:Type} {C:RowC α} {l l2:List α} {a:α} {j:Nat}
theorem RowC.cells_len (C:RowC α) (l:List α):(C.cells l).length=l.length*C.size:= by
  induction l with
  | nil=> simp [RowC.cells]
  | cons a l ih=> simp only[RowC.cells,List.flatMap_cons,List.length_append,C.len,List.length_cons]at ih⊢; rw[ih,Nat.add_mul];omega
theorem RowC.cells_one (C:RowC α) (l:List α):ZV (C.cells l)=true:=Ci (by
  intro v hv
  obtain⟨a,_,h⟩:=List.mem_flatMap.1 hv
  exact Yh (C.one a) v h)
theorem RowC.cells_app (C:RowC α) (l l2:List α):C.cells l++C.cells l2=C.cells (l++l2):= by simp [RowC.cells]
theorem RowC.cells_at: ∀{l:List α} {j:Nat},l[j]? =some a→((C.cells l).drop (j*C.size)).take C.size=C.enc a
  | [],j,h=> by simp at h
  | b::l,0,h=> by
    simp at h; subst h
    rw[Nat.zero_mul,List.drop_zero]
    show(C.enc b++C.cells l).take C.size=_
    rw[←C.len b,List.take_left]
  | b::l,j+1,h=> by
    have e:(j+1)*C.size=(C.enc b).length+j*C.size:= by rw[C.len,Nat.add_mul];omega
    show((C.enc b++C.cells l).drop _).take _=_
    rw[e,←List.drop_drop,List.drop_left]
    exact RowC.cells_at (by simpa using h)
theorem RowC.cells_get {o:Nat} {u:Value} (h:l[j]? =some a) (ho:(C.enc a)[o]? =some u):(C.cells l)[j*C.size+o]? =some u:= by
  have h1:=RowC.cells_at (C:=C) h
  rw[←h1,List.getElem?_take]at ho
  split at ho
  · rw[List.getElem?_drop]at ho; exact ho
  · cases ho
theorem RowC.cells_set {X:List Value} (hX:X=C.enc a): ∀{l:List α} {j:Nat},j<l.length→XK (C.cells l) (j*C.size) X=C.cells (l.set j a)
  | [],j,h=> by simp at h
  | b::l,0,h=> by
    subst hX
    rw[Nat.zero_mul]
    show XK (C.enc b++C.cells l) 0 (C.enc a)=C.enc a++C.cells l
    unfold XK
    rw[Nat.zero_add,C.len,←C.len b,List.drop_left];rfl
  | b::l,j+1,h=> by
    have e:(j+1)*C.size=(C.enc b).length+j*C.size:= by rw[C.len,Nat.add_mul];omega
    show XK (C.enc b++C.cells l) _ _=C.enc b++C.cells (l.set j a)
    rw[e,Ua,RowC.cells_set hX (by simpa using h)]
theorem RowC.cells_take (C:RowC α): ∀(l:List α) (i:Nat),(C.cells l).take (i*C.size)=C.cells (l.take i)
  | [],i=> by simp [RowC.cells]
  | b::l,0=> by simp [RowC.cells]
  | b::l,i+1=> by
    have e:(i+1)*C.size=(C.enc b).length+i*C.size:= by rw[C.len,Nat.add_mul];omega
    show(C.enc b++C.cells l).take _=C.enc b++C.cells (l.take i)
    rw[e,List.take_length_add_append,RowC.cells_take C l i]
end
abbrev rowT {α:Type} (C:RowC α) (v:Value) (l:List α):Th:=XT v l.length C.size (C.cells l)
theorem Sat.row_cast {α:Type} {C:RowC α} {w:World} {As:List Th} {v:Value} {m size:Nat} {xs:List Value} {l:List α} (h:Sat w (XT v m size xs::As)) (hm:m=l.length) (hs:size=C.size) (hx:xs=C.cells l):Sat w (rowT C v l::As):= by subst hm hs hx; exact h
def Ib (n:Nat) (is:List Nat):List Bool:=(List.range n).map (is.contains ·)
theorem Sat.pick {w:World} {As:List Th} (h:Sat w As) (is:List Nat) (hm:Mw As.length is (Ib As.length is)=true):Sat w (R0 As is):= by
  have h1:=h.split is _ hm
  have h2:=h1.drop (R0 As is).length (A:=starL (Kl (Ib As.length is) As)) (by simp)
  rw[List.eraseIdx_append_of_length_le (Nat.le_refl _),Nat.sub_self]at h2
  simpa using h2
theorem Sat.row_nil {α:Type} (C:RowC α) {w:World} {As:List Th} (h:Sat w As):Sat w (rowT C (.slice none 0 0) []::As):=
  h.new (Only.refl [] w) (A:=XT (.slice none 0 0) 0 C.size []) (F':= fun k=>k∈([]:List Nat)) ⟨[],rfl,Own.nil w C.size⟩ (by simp)
def RdL {α:Type} (C:RowC α) (v:Value) (l:List α) (w:World):Prop:= ∃ao cap,v= .slice ao l.length cap∧l.length≤9223372036854775807∧ ∀(i:Nat) (a:α),l[i]? =some a→ ∃b off,ao=some ⟨b,off,none⟩∧ ∀(j:Nat) (u:Value),(C.enc a)[j]? =some u→w.cell? ⟨b,off+i*C.size+j,none⟩=some u
section
variable {α:Type} {C:RowC α} {l:List α} {w:World} {v:Value}
theorem RdL.shape (h:RdL C v l w): ∃ao cap,v= .slice ao l.length cap∧l.length≤9223372036854775807:= by obtain⟨ao,cap,h1,h2,_⟩:=h; exact⟨ao,cap,h1,h2⟩
theorem RdL.get {ao:Option Addr} {n cap i:Nat} {a:α} (h:RdL C (.slice ao n cap) l w) (ha:l[i]? =some a): ∃b off,ao=some ⟨b,off,none⟩∧ ∀(j:Nat) (u:Value),(C.enc a)[j]? =some u→w.cell? ⟨b,off+i*C.size+j,none⟩=some u:= by
  obtain⟨ao',cap',h1,_,h3⟩:=h
  cases h1
  exact h3 i a ha
theorem RdL.nil (C:RowC α) (w:World):RdL C (.slice none 0 0) [] w:=⟨none,0,rfl, by simp, by simp⟩
theorem RdL.lenOf {P:Program} (h:RdL C v l w): ∀w1,(Builtin.lenOf v).run P w1= .ok l.length w1:= by
  obtain⟨ao,cap,rfl,_⟩:=h.shape
  exact Kw _ _ _
theorem RdL.first {P:Program} (h:RdL C v l w): ∀w1:World,w1.heap=w.heap→(Builtin.firstCells C.size l.length v).run P w1= .ok (C.cells l).toArray w1:= by
  obtain⟨ao,cap,rfl,_⟩:=h.shape
  intro w1 hw
  cases hl:l with
  | nil=> cases ao<;> simp [Builtin.firstCells,RowC.cells,loadCells,loadCellsFrom]
  | cons x l'=>
    obtain⟨b,off,rfl,_⟩:=h.get (i:=0) (a:=x) (by rw[hl];rfl)
    rw[←hl]
    simp only[Builtin.firstCells]
    have :=run_loadCells_list (P:=P) w1 ⟨b,off,none⟩ (C.cells l) (fun j v hv=> by
      rw[Wu]
      have hjl:=(Jo hv).1
      rw[C.cells_len]at hjl
      have hq:j/ C.size<l.length:=Nat.div_lt_of_lt_mul (by rw[Nat.mul_comm]; exact hjl)
      have ha:l[j/ C.size]? =some l[j/ C.size]:=WU hq
      obtain⟨b2,o2,e,hc⟩:=h.get ha
      cases e
      have hr:=Nat.mod_lt j C.pos
      have hm:j/ C.size*C.size+j%C.size=j:= by have :=Nat.div_add_mod j C.size; rw[Nat.mul_comm]; exact this
      have hu:(C.enc l[j/ C.size])[j%C.size]? =some v:= by
        have h1:=RowC.cells_at (C:=C) ha
        rw[←h1,List.getElem?_take,if_pos hr,List.getElem?_drop,hm]; exact hv
      have :=hc _ _ hu
      rw[World.cell?_of_block (w:=w) (by rw[hw])]
      rw[←this,Nat.add_assoc,hm])
    rw[C.cells_len]at this
    exact this
theorem Sat.rd {As:List Th} (hS:Sat w As) (i:Nat) (hi:As[i]? =some (rowT C v l)) (hl:l.length≤9223372036854775807):RdL C v l w:= by
  obtain⟨ao,cap,rfl,_⟩:=hS.own_shape i hi
  refine⟨ao,cap,rfl,hl, fun k a ha=> ?_⟩
  obtain⟨b,cap',hv,_⟩:=hS.own_at i hi (by have :=(Jo ha).1;omega)
  cases hv
  exact⟨b,0,rfl, fun j u hu=> by rw[Nat.zero_add]; exact hS.ocell i hi Qa (RowC.cells_get ha hu)⟩
theorem VJ {v:Value} {l:List α} (hl:l.length≤9223372036854775807):Ent (rowT C v l) (RdL C v l):= fun {w G} h=>
  Sat.rd (As:=[rowT C v l]) (w:=w) ⟨G,G, fun _=>False, by simp, fun _ _ h=>h,h,rfl⟩ 0 Qa hl
end
section
variable {P:Program} {n:Nat} {ops:Array Oper} {Q:Exit→Act→World→Prop} {rest:List Oper} {L:Env} {w:World} {d:Nat} {ty:TypeId} {pos:String} {aft:Array Edge}
variable {α:Type} {C:RowC α} {l:List α} {v:Value} {a:α} {As:List Th}
theorem ZP (C:RowC α) (i j:Nat) (hS:Sat w As) {x y:Operand} {t:Nat} {k:IntKind} {q:Int} (hi:As[i]? =some (rowT C v l)) (hx:look L x=some v) (hy:look L y=some (.int k q)) (hq:q=(j:Int)) (ha:l[j]? =some a) (hs:Ho P t=some C.size) (hd:Nat.blt d n=true)
    (hk: ∀b cap,v= .slice (some ⟨b,0,none⟩) l.length cap→wl P n ops Q rest ((d,ptrV b (j*C.size))::L) w):wl P n ops Q (⟨some d,.indexAddr t x y,ty,pos,aft,none⟩::rest) L w:=
  Ve i j hS hi hx hy hq (Jo ha).1 hs hd hk
theorem NB (i j:Nat) (hS:Sat w As) {x:Operand} {t b cap m:Nat} {vs:List Value} (hi:As[i]? =some (rowT C v l)) (hv:v= .slice (some ⟨b,0,none⟩) m cap) (hx:look L x=some (ptrV b (j*C.size))) (ha:l[j]? =some a) (hg:W9 P t=some true) (hs:Wv P t=some C.size) (hvs:C.enc a=vs) (hd:Nat.blt d n=true)
    (hk:wl P n ops Q rest ((d,.agg vs.toArray)::L) w):wl P n ops Q (⟨some d,.load t x,ty,pos,aft,none⟩::rest) L w:= by
  subst hvs
  exact RU i hS hi hv hx hg hs (RowC.cells_at ha) (C.len a) hd hk
theorem ZW (i j o:Nat) (hS:Sat w As) {x:Operand} {t b cap m q:Nat} {u:Value} (hi:As[i]? =some (rowT C v l)) (hv:v= .slice (some ⟨b,0,none⟩) m cap) (hx:look L x=some (ptrV b q)) (hq:q=j*C.size+o) (ha:l[j]? =some a) (hg:W9 P t=some false) (hu:(C.enc a)[o]? =some u) (hd:Nat.blt d n=true)
    (hk:wl P n ops Q rest ((d,u)::L) w):wl P n ops Q (⟨some d,.load t x,ty,pos,aft,none⟩::rest) L w:= by
  subst hq
  exact Qp hx hg (hS.ocell i hi hv (RowC.cells_get ha hu)) hd hk
theorem ZS (C:RowC α) (i j o:Nat) (hS:Sat w As) {x:Operand} {t b cap m:Nat} {u:Value} {a:α} {l:List α} (hi:As[i]? =some (rowT C (.slice (some ⟨b,0,none⟩) m cap) l)) (ha:l[j]? =some a) (hg:W9 P t=some false) (hx:look L x=some (ptrV b (0+j*C.size+o))) (hu:(C.enc a)[o]? =some u):Ev P L w ⟨some d,.load t x,ty,pos,aft,none⟩ u:= by
  refine Qn hx hg ?_
  rw[Nat.zero_add]
  exact hS.ocell i hi Qa (RowC.cells_get ha hu)
theorem BB (i j:Nat) (a':α) (hS:Sat w As) {x y:Operand} {t b cap m':Nat} {u:Value} (hi:As[i]? =some (rowT C v l)) (hv:v= .slice (some ⟨b,0,none⟩) m' cap) (hx:look L x=some (ptrV b (j*C.size))) (hy:look L y=some u) (hs:Wv P t=some C.size) (hu:u.cells.toList=C.enc a') (hj:j<l.length)
    (hk: ∀w',Sat w' (As.set i (rowT C v (l.set j a')))→wl P n ops Q rest L w'):wl P n ops Q (⟨none,.store t x y,ty,pos,aft,none⟩::rest) L w:= by
  have hfit:j*C.size+C.size≤(C.cells l).length:= by
    rw[C.cells_len]
    have :=Nat.mul_le_mul_right C.size (show j+1≤l.length from hj)
    rw[Nat.add_mul]at this;omega
  refine Ts i hS hi hv hx hy hs (by rw[←Array.length_toList,hu,C.len]) (by rw[hu]; exact C.one a') hfit (RowC.cells_set hu hj) ?_
  intro w' h
  refine hk w' ?_
  show Sat w' (As.set i (XT v (l.set j a').length C.size (C.cells (l.set j a'))))
  rw[List.length_set]
  exact h
theorem Xc (C:RowC α) (l:List α) (hS:Sat w As) {t e len:Nat} {z:Value} {parts:List (Nat×Operand)} {vs:List Value} (hx:J9 L (parts.map (·.2))=some vs) (hu:P.underlying t=some (.slice e)) (hi:(P.info? e).map (fun i=>(i.zero,i.size))=some (some z,C.size)) (hlen:Nat.ble (len*C.size) 1000=true) (hzs:z.cells.size=C.size)
    (hok:HU (len*C.size) ((parts.map (·.1)).map fun i=>(i*C.size,C.size)) vs=true) (hl:l.length=len) (he:VV (List.replicate len z.cells.toList).flatten ((parts.map (·.1)).map fun i=>(i*C.size,C.size)) vs=C.cells l) (hd:Nat.blt d n=true)
    (hk: ∀b w',Sat w' (rowT C (.slice (some ⟨b,0,none⟩) len len) l::As)→wl P n ops Q rest ((d,.slice (some ⟨b,0,none⟩) len len)::L) w'):wl P n ops Q (⟨some d,.buildSlice t len parts.toArray,ty,pos,aft,none⟩::rest) L w:= by
  refine UU hS hx hu hi hlen hzs hok hd ?_
  intro b w' h
  exact hk b w' (h.row_cast hl.symm Qa he)
theorem XV (C:RowC α) (i:Nat) {l2:List α} (hS:Sat w As) {t t2 e bytes:Nat} {s x:Operand} {z xv:Value} {d2:TypeDesc} (hi:As[i]? =some (rowT C v l)) (hs:look L s=some v) (hx:look L x=some xv) (hr:RdL C xv l2 w) (hu:P.underlying t=some (.slice e)) (hu2:P.underlying t2=some d2) (hd2: ∀k,d2≠ .int k)
    (hif:(P.info? e).map (fun i=>(i.zero,i.size,i.bytes))=some (some z,C.size,bytes)) (hz:z.cells.size=C.size) (hb:(l.length+l2.length)*bytes≤140737488355328) (hd:Nat.blt d n=true) (hm:l.length+l2.length≤9223372036854775807)
    (hk: ∀v' w',Sat w' (As.set i (rowT C v' (l++l2)))→wl P n ops Q rest ((d,v')::L) w'):wl P n ops Q (⟨some d,.call ⟨.builtin .append, #[s,x], #[t,t2]⟩,ty,pos,aft,none⟩::rest) L w:= by
  refine GS i hS hi hs hx hu hu2 hd2 hif hz C.pos hr.lenOf hr.first (C.cells_len l2) (C.cells_one l2) hb hm hd ?_
  intro v' w' h
  refine hk v' w' ?_
  show Sat w' (As.set i (XT v' (l++l2).length C.size (C.cells (l++l2))))
  rw[List.length_append,←C.cells_app]
  exact h
end
def Md (tmps:Array Value):ResultVar→Sem Value
  | .tmp t=>pure (tmps.getD t undef)
  | .cell a t=>do loadVar t (←asAddr (tmps.getD a undef))
def NZ (P:Program) (n:Nat) (L:Env) (w:World) (r:ResultVar) (v:Value):Prop:= ∀a,Fr n L a→(Md a.tmps r).run P w= .ok v w
section
variable {P:Program} {n:Nat} {L:Env} {w:World} {Q:Exit→Act→World→Prop}
theorem O7 {t:Nat} {v:Value} (h:Zd L t=some v):NZ P n L w (.tmp t) v:= fun a ha=> by
  have :=ha.get t v h; simp [Md,this]
theorem Gc {x t b o m:Nat} {cs vs:List Value} (h:Zd L x=some (ptrV b o)) (ha:W9 P t=some true) (hs:Wv P t=some m) (hb:Blk w b cs) (hm:o+m≤cs.length) (hvs:(cs.drop o).take m=vs):NZ P n L w (.cell x t) (.agg vs.toArray):= fun a hf=> by
  subst hvs
  have :=hf.get x _ h; simp [Md,this,asAddr,loadVar,Ro ha,ZX hs,JQ hb o m hm]
theorem Mc (fn:Func) (tmps:Array Value):results fn tmps=(do let vs←fn.results.mapM (Md tmps);pure (if h:vs.size=1 then vs[0]else .tuple vs)):= by
  have e:(Md tmps)=(fun | .tmp t=>pure (tmps.getD t undef) | .cell a t=>do loadVar t (←asAddr (tmps.getD a undef)):ResultVar→Sem Value):= by
    funext r; cases r<;>rfl
  rw[e];rfl
theorem LF {fn:Func} {R:Ending→World→Prop} {r:ResultVar} {v:Value} {e:Exit} (he:e= .normal∨e= .ret) (hf:fn.results= #[r]) (hv:NZ P n L w r v) (h:R (.returned v) w):qs n (bodyPost P fn R) e L w:=
  MC he (fun a ha=> by rw[Mc,hf]; simp [hv a ha]) h
theorem PZ {fn:Func} {R:Ending→World→Prop} {r r2:ResultVar} {v v2:Value} {e:Exit} (he:e= .normal∨e= .ret) (hf:fn.results= #[r,r2]) (hv:NZ P n L w r v) (hv2:NZ P n L w r2 v2) (h:R (.returned (.tuple #[v,v2])) w):qs n (bodyPost P fn R) e L w:=
  MC he (fun a ha=> by rw[Mc,hf]; simp [hv a ha,hv2 a ha]) h
end
def byC:RowC UInt8:=⟨fun c=>[.int .u8 (c.toNat:Int)],1, by decide, fun _=>rfl, fun _=>rfl⟩
theorem Ce (l:List UInt8):byC.cells l=Zf l:= by
  induction l with
  | nil=>rfl
  | cons c l ih=> show[_]++byC.cells l=_; rw[ih];rfl
section
variable {P:Program} {n:Nat} {ops:Array Oper} {Q:Exit→Act→World→Prop} {rest:List Oper} {L:Env} {w:World} {d:Nat} {ty:TypeId} {pos:String} {aft:Array Edge} {As:List Th}
theorem Ay (i:Nat) (hS:Sat w As) {x:Operand} {sT dT e:Nat} {v:Value} {l:List UInt8} (hi:As[i]? =some (rowT byC v l)) (hx:look L x=some v) (hs:P.underlying sT=some (.slice e)) (he:P.underlying e=some (.int .u8)) (hd:P.underlying dT=some .string):Ev P L w ⟨some d,.convert sT dT x,ty,pos,aft,none⟩ (strV l):= fun ρ hρ=> by
  obtain⟨foot,hown⟩:=hS.own i hi
  obtain⟨hl,⟨rfl,h0,rfl⟩ | ⟨b,cap,sp,rfl,hc,hb,hlen,rfl⟩⟩:=hown
  · have hl0:l=[]:=List.eq_nil_of_length_eq_zero h0
    subst hl0
    simp [execOp,hρ _ _ hx,run_convert_bytes_string w sT dT e none 0 0 hs he hd,Conv.bytesToString]
    rfl
  · refine LH i hS l hi Qa hx hs he hd ?_ Qa ρ hρ
    rw[List.drop_zero,Ce,List.take_of_length_le (by rw[Vc]; exact Nat.le_refl _)]
theorem Tt (i:Nat) (hS:Sat w As) {x:Operand} {sT dT e:Nat} {v:Value} {l:List UInt8} (hi:As[i]? =some (rowT byC v l)) (hx:look L x=some v) (hs:P.underlying sT=some (.slice e)) (he:P.underlying e=some (.int .u8)) (hd:P.underlying dT=some .string) (hdd:Nat.blt d n=true) (hk:wl P n ops Q rest ((d,strV l)::L) w):wl P n ops Q (⟨some d,.convert sT dT x,ty,pos,aft,none⟩::rest) L w:=
  Xv hdd (Ay i hS hi hx hs he hd) hk
end
theorem Ev.gd {P:Program} {L:Env} {w:World} {d:Option Nat} {op:Op} {ty:TypeId} {pos:String} {aft:Array Edge} {gd:Option (Nat×Bool)} {v:Value} (h:Ev P L w ⟨d,op,ty,pos,aft,none⟩ v):Ev P L w ⟨d,op,ty,pos,aft,gd⟩ v:=h
def RdX {α:Type} (enc:α→List Value) (size:Nat) (φ:α→World→Prop) (v:Value) (l:List α) (w:World):Prop:= ∃ao cap,v= .slice ao l.length cap∧l.length≤9223372036854775807∧ ∀(i:Nat) (a:α),l[i]? =some a→
  (∃b off,ao=some ⟨b,off,none⟩∧ ∀(j:Nat) (u:Value),(enc a)[j]? =some u→w.cell? ⟨b,off+i*size+j,none⟩=some u)∧φ a w
section
variable {α:Type} {enc:α→List Value} {size:Nat} {φ:α→World→Prop} {l:List α} {w:World} {v:Value}
theorem RdX.shape (h:RdX enc size φ v l w): ∃ao cap,v= .slice ao l.length cap∧l.length≤9223372036854775807:= by obtain⟨ao,cap,h1,h2,_⟩:=h; exact⟨ao,cap,h1,h2⟩
theorem RdX.get {ao:Option Addr} {n cap i:Nat} {a:α} (h:RdX enc size φ (.slice ao n cap) l w) (ha:l[i]? =some a):
    (∃b off,ao=some ⟨b,off,none⟩∧ ∀(j:Nat) (u:Value),(enc a)[j]? =some u→w.cell? ⟨b,off+i*size+j,none⟩=some u)∧φ a w:= by
  obtain⟨ao',cap',h1,_,h3⟩:=h
  cases h1
  exact h3 i a ha
theorem RdX.cells {b off n cap i:Nat} {a:α} (h:RdX enc size φ (.slice (some ⟨b,off,none⟩) n cap) l w) (ha:l[i]? =some a): ∀(j:Nat) (u:Value),(enc a)[j]? =some u→w.cell? ⟨b,off+i*size+j,none⟩=some u:= by
  obtain⟨⟨b2,o2,e,hc⟩,_⟩:=h.get ha
  cases e; exact hc
theorem RdX.elem {F:Th} {ao:Option Addr} {n cap i:Nat} {a:α} (h:Ent F (RdX enc size φ (.slice ao n cap) l)) (ha:l[i]? =some a):Ent F (φ a):= fun g=>((h g).get ha).2
end
def Card {κ:Type} (f:κ→Option Value) (n:Nat):Prop:= ∃ks:List κ,ks.Nodup∧ks.length=n∧ ∀k,f k≠none↔k∈ks
theorem Card.zero {κ:Type} {f:κ→Option Value} {n:Nat} (h:Card f n):n=0↔ ∀k,f k=none:= by
  obtain⟨ks,_,h2,h3⟩:=h
  constructor
  · intro h0 k
    have :ks=[]:=List.eq_nil_of_length_eq_zero (by omega)
    subst this
    by_cases hq:f k=none
    · exact hq
    · exact absurd ((h3 k).1 hq) (by simp)
  · intro h
    cases ks with
    | nil=>simpa using h2.symm
    | cons k ks=> exact absurd (h k) ((h3 k).2 (by simp))
theorem Card.same {κ:Type} {f g:κ→Option Value} {n m:Nat} (h:Card f n) (h':Card g m) (e: ∀k,f k=none↔g k=none):n=m:= by
  obtain⟨ks,h1,h2,h3⟩:=h
  obtain⟨js,g1,g2,g3⟩:=h'
  have s1: ∀x∈ks,x∈js:= fun x hx=>(g3 x).1 fun q=>((h3 x).2 hx) ((e x).2 q)
  have s2: ∀x∈js,x∈ks:= fun x hx=>(h3 x).1 fun q=>((g3 x).2 hx) ((e x).1 q)
  have l1:=List.Nodup.length_le_of_subset h1 s1
  have l2:=List.Nodup.length_le_of_subset g1 s2
  omega
theorem MapAt.card {κ:Type} {kv:κ→Value} {w:World} {b:Nat} {es:Array MapEntry} {clock:Nat} {f:κ→Option Value} (h:MapAt kv w b es clock) (hinj: ∀a b,kv a=kv b→a=b) (hr:Reads kv es f):Card f es.size:= by
  have hk: ∀(l:List MapEntry),(∀x∈l,∃a,x.key=kv a)→ ∃ks:List κ,l.map (·.key)=ks.map kv:= by
    intro l
    induction l with
    | nil=> intro _; exact⟨[],rfl⟩
    | cons x l ih=>
      intro hl
      obtain⟨a,ha⟩:=hl x (by simp)
      obtain⟨ks,hks⟩:=ih fun y hy=>hl y (by simp [hy])
      exact⟨a::ks, by simp [ha,hks]⟩
  obtain⟨ks,hks⟩:=hk es.toList h.keys
  refine⟨ks, ?_, ?_, fun k=> ?_⟩
  · have hp:(es.toList.map (·.key)).Nodup:=h.stamped.2.2
    rw[hks,List.Nodup,List.pairwise_map]at hp
    exact hp.imp fun hne e=>hne (by rw[e])
  · have :=congrArg List.length hks
    simpa using this.symm
  · constructor
    · intro hne
      cases hq:f k with
      | none=> exact absurd hq hne
      | some v=>
        obtain⟨e,he,hke,_⟩:=(hr k v).1 hq
        have :kv k∈ks.map kv:= by rw[←hks,←hke]; exact List.mem_map.2 ⟨e,he,rfl⟩
        obtain⟨j,hj,hjk⟩:=List.mem_map.1 this
        rw[←hinj _ _ hjk]; exact hj
    · intro hm
      have :kv k∈es.toList.map (·.key):= by rw[hks]; exact List.mem_map.2 ⟨k,hm,rfl⟩
      obtain⟨e,he,hke⟩:=List.mem_map.1 this
      rw[(hr k e.val).2 ⟨e,he,hke,rfl⟩]; simp
section
variable {κ:Type} {kv:κ→Value}
variable {P:Program} {n:Nat} {ops:Array Oper} {Q:Exit→Act→World→Prop} {rest:List Oper} {L:Env} {w:World} {d:Nat} {ty:TypeId} {pos:String} {aft:Array Edge} {As:List Th}
theorem Er {mt t2 kt et:TypeId} {x y:Operand} {b:Nat} {f:κ→Option Value} {k:κ} (i:Nat) (hS:Sat w As) (K:KeyOk P kt kv) (hm:P.underlying mt=some (.map kt et)) (hi:As[i]? =some (XI kv b f)) (hx:look L x=some (.map (some b))) (hy:look L y=some (kv k)) {dst:Option Nat} (hd:dOk n dst=true)
    (hk: ∀w',Sat w' (As.set i (XI kv b (upd f k none)))→wl P n ops Q rest (pd dst (.tuple #[]) L) w'):wl P n ops Q (⟨dst,.call ⟨.builtin .delete, #[x,y], #[mt,t2]⟩,ty,pos,aft,none⟩::rest) L w:= by
  obtain⟨es,c,h1,h2⟩:=hS.map i hi
  refine Zk Qa (by cases dst<;> exact hd) (fun a ha=>BY mt t2 x y Qa K hm h1 (ha.eval hx) (ha.eval hy)) ?_
  rintro _ w' ⟨rfl,es',hes,h3,h4,_⟩
  refine hk w' (hS.map_set i hi h3 ?_ h4)
  intro j u
  by_cases hj:j=k
  · subst hj
    rw[HE]
    constructor
    · intro e; cases e
    · rintro⟨e,he,hke,_⟩; exact absurd hke ((hes e).1 he).2
  · rw[R7 hj,h2 j u]
    constructor
    · rintro⟨e,he,hke,hv⟩
      exact⟨e,(hes e).2 ⟨he, fun q=>hj (K.inj _ _ (hke.symm.trans q))⟩,hke,hv⟩
    · rintro⟨e,he,hke,hv⟩
      exact⟨e,((hes e).1 he).1,hke,hv⟩
theorem Nf {t kt et:TypeId} {x:Operand} {b:Nat} {f:κ→Option Value} {m:Nat} (i:Nat) (hS:Sat w As) (hm:P.underlying t=some (.map kt et)) (hinj: ∀a b,kv a=kv b→a=b) (hi:As[i]? =some (XI kv b f)) (hx:look L x=some (.map (some b))) (hc:Card f m):Ev P L w ⟨some d,.call ⟨.builtin .len, #[x], #[t]⟩,ty,pos,aft,none⟩ (.int .i64 (m:Int)):= fun ρ hρ=> by
  obtain⟨es,c,h1,h2⟩:=hS.map i hi
  have e:m=es.size:=hc.same (h1.card hinj h2) fun _=>Iff.rfl
  subst e
  simp [execOp,hρ _ _ hx,resolve,invoke,builtin,Builtin.len_,run_underlying hm,MapKept.run_getObj_map h1.blk,goInt]
theorem Cn {t kt et:TypeId} {x:Operand} {b:Nat} {f:κ→Option Value} (i:Nat) (hS:Sat w As) (hm:P.underlying t=some (.map kt et)) (hinj: ∀a b,kv a=kv b→a=b) (hi:As[i]? =some (XI kv b f)) (hx:look L x=some (.map (some b))) (hd:Nat.blt d n=true)
    (hk: ∀m:Nat,Card f m→wl P n ops Q rest ((d,.int .i64 (m:Int))::L) w):wl P n ops Q (⟨some d,.call ⟨.builtin .len, #[x], #[t]⟩,ty,pos,aft,none⟩::rest) L w:= by
  obtain⟨es,c,h1,h2⟩:=hS.map i hi
  have hc:=h1.card hinj h2
  exact Xv hd (Nf i hS hm hinj hi hx hc) (hk _ hc)
end
def byteV (c:UInt8):Value:= .int .u8 (c.toNat:Int)
theorem KS {P:Program} {e:TypeId} (ha:W9 P e=some false) (xs:Array Value) (i:Nat) (v:Value) (hv:xs[i]? =some v) (w:World):(part e xs i).run P w= .ok v w:= by
  unfold part
  simp [RO ha,hv]
section
variable {P:Program} {n:Nat} {ops:Array Oper} {Q:Exit→Act→World→Prop} {rest:List Oper} {L:Env} {w:World} {d:Nat} {ty:TypeId} {pos:String} {aft:Array Edge} {κ:Type} {kv:κ→Value} {As:List Th}
theorem UL {mt kt et:TypeId} {x y:Operand} {b:Nat} {f:κ→Option Value} {k:κ} {z:Value} (i:Nat) (hS:Sat w As) (K:KeyOk P kt kv) (hm:P.underlying mt=some (.map kt et)) (hi:As[i]? =some (XI kv b f)) (hx:look L x=some (.map (some b))) (hy:look L y=some (kv k)) (hz:Z9 P et=some (some z)) {u:Value} {g:Bool} (hv:(f k).getD z=u) (hg:(f k).isSome=g):Ev P L w ⟨some d,.lookup mt x y true,ty,pos,aft,none⟩ (.tuple #[u,.bool g]):= fun ρ hρ=> by
  subst hv; subst hg
  obtain⟨es,c,h,h2⟩:=hS.map i hi
  have hx':=hρ _ _ hx
  have hy':=hρ _ _ hy
  rcases K.find k es.toList w h.keys with⟨j,e,h1,h3,h4⟩ | ⟨h1,h4⟩
  · have :(f k)=some e.val:=(h2 k e.val).2 ⟨e,List.mem_of_getElem? h1,h3,rfl⟩
    simp [execOp,hx',hy',Instr.lookup,run_underlying hm,MapKept.run_getObj_map h.blk,K.check,h4,this]
  · have :f k=none:= by
      cases hf:f k with
      | none=>rfl
      | some u=> obtain⟨e,he,hkk,_⟩:=(h2 k u).1 hf; exact absurd hkk (h1 e he)
    simp [execOp,hx',hy',Instr.lookup,run_underlying hm,MapKept.run_getObj_map h.blk,K.check,h4,this,YJ hz]
theorem HD {mt kt et:TypeId} {x y:Operand} {b:Nat} {f:κ→Option Value} {k:κ} {z:Value} (i:Nat) (hS:Sat w As) (K:KeyOk P kt kv) (hm:P.underlying mt=some (.map kt et)) (hi:As[i]? =some (XI kv b f)) (hx:look L x=some (.map (some b))) (hy:look L y=some (kv k)) (hz:Z9 P et=some (some z)) {u:Value} {g:Bool} (hv:(f k).getD z=u) (hg:(f k).isSome=g) (hd:Nat.blt d n=true)
    (hk:wl P n ops Q rest ((d,.tuple #[u,.bool g])::L) w):wl P n ops Q (⟨some d,.lookup mt x y true,ty,pos,aft,none⟩::rest) L w:=Xv hd (UL i hS K hm hi hx hy hz hv hg) hk
theorem Card.sub {f g:κ→Option Value} {m:Nat} (h:Card f m) (h':Card g m) (e: ∀k v,f k=some v→g k=some v):f=g:= by
  obtain⟨ks,h1,h2,h3⟩:=h
  obtain⟨js,g1,g2,g3⟩:=h'
  have s1: ∀x∈ks,x∈js:= fun x hx=>(g3 x).1 fun q=> by
    cases hf:f x with
    | none=> exact((h3 x).2 hx) hf
    | some v=> rw[e x v hf]at q; cases q
  have s2: ∀x∈js,x∈ks:= fun x hx=>Classical.byContradiction fun hn=> by
    have :=List.Nodup.length_le_of_subset (l₂:=js) (List.nodup_cons.2 ⟨hn,h1⟩) (by
      intro y hy
      rcases List.mem_cons.1 hy with rfl | hy
      · exact hx
      · exact s1 y hy)
    simp at this;omega
  funext k
  cases hf:f k with
  | some v=> exact(e k v hf).symm
  | none=>
    cases hg:g k with
    | none=>rfl
    | some v=> exact absurd hf ((h3 k).2 (s2 k ((g3 k).1 (by rw[hg]; simp))))
theorem Card.uniq {f:κ→Option Value} {m q:Nat} (h:Card f m) (h':Card f q):m=q:=h.same h' fun _=>Iff.rfl
end
section
variable {P:Program} {n:Nat} {ops:Array Oper} {Q:Exit→Act→World→Prop} {rest:List Oper} {L:Env} {w:World} {d:Nat} {ty:TypeId} {pos:String} {aft:Array Edge} {t t2:TypeId} {x y:Operand} {a b:Int} {yk:IntKind}
theorem ev_shl (m:Nat) (hx:look L x=some (.int .i64 a)) (hy:look L y=some (.int yk b)) (hb:b=(m:Int)) (hm:Nat.ble m 64=true) {q:Int} (hq:((2^m:Nat):Int)=q) (h1: -9223372036854775808≤a*q) (h2:a*q≤9223372036854775807):Ev P L w ⟨some d,.binOp .shl t x y t2,ty,pos,aft,none⟩ (.int .i64 (a*q)):= fun ρ hρ=> by
  have hm':m≤64:=Xe hm
  subst hb
  have e:IntKind.i64.wrap (a*2^(min m 64))=a*q:= by
    have :(2:Int)^(min m 64)=q:= by rw[←hq,Nat.min_eq_left hm']; simp
    rw[this]; exact Um h1 h2
  have h0: ¬((m:Int)<0):= by omega
  simp only[execOp,hρ _ _ hx,hρ _ _ hy,binOp,Op.shift,IntKind.bits,eqGuard,h0,if_false,Int.toNat_natCast,e]
  simp
theorem Cm (m:Nat) (hx:look L x=some (.int .i64 a)) (hy:look L y=some (.int yk b)) (hb:b=(m:Int)) (hm:Nat.ble m 64=true) {q:Int} (hq:((2^m:Nat):Int)=q) (h1: -9223372036854775808≤a*q) (h2:a*q≤9223372036854775807) (hd:Nat.blt d n=true) (hk:wl P n ops Q rest ((d,.int .i64 (a*q))::L) w):wl P n ops Q (⟨some d,.binOp .shl t x y t2,ty,pos,aft,none⟩::rest) L w:=
  Xv hd (ev_shl m hx hy hb hm hq h1 h2) hk
theorem ev_shr {k:IntKind} (m:Nat) (hx:look L x=some (.int k a)) (hy:look L y=some (.int yk b)) (hb:b=(m:Int)) (hm:Nat.ble m k.bits=true) {q:Int} (hq:((2^m:Nat):Int)=q):Ev P L w ⟨some d,.binOp .shr t x y t2,ty,pos,aft,none⟩ (.int k (a/ q)):= fun ρ hρ=> by
  have hm':m≤k.bits:=Xe hm
  subst hb
  have e:a.fdiv (2^(min m k.bits))=a/ q:= by
    have :(2:Int)^(min m k.bits)=q:= by rw[←hq,Nat.min_eq_left hm']; simp
    rw[this]; exact Int.fdiv_eq_ediv_of_nonneg _ (by rw[←hq]; exact Int.natCast_nonneg _)
  have h0: ¬((m:Int)<0):= by omega
  simp only[execOp,hρ _ _ hx,hρ _ _ hy,binOp,Op.shift,eqGuard,h0,if_false,Int.toNat_natCast,e]
  simp
theorem wl_shr {k:IntKind} (m:Nat) (hx:look L x=some (.int k a)) (hy:look L y=some (.int yk b)) (hb:b=(m:Int)) (hm:Nat.ble m k.bits=true) {q:Int} (hq:((2^m:Nat):Int)=q) (hd:Nat.blt d n=true) (hk:wl P n ops Q rest ((d,.int k (a/ q))::L) w):wl P n ops Q (⟨some d,.binOp .shr t x y t2,ty,pos,aft,none⟩::rest) L w:=
  Xv hd (ev_shr m hx hy hb hm hq) hk
theorem OR (A B m:Nat) (h:B<2^m):A*2^m ||| B=A*2^m+B:= by
  rw[Nat.mul_comm]; exact(Nat.two_pow_add_eq_or_of_lt h A).symm
theorem ev_or (m:Nat) (A:Nat) (hx:look L x=some (.int .i64 a)) (hy:look L y=some (.int .i64 b)) (ha:a=(A:Int)*((2^m:Nat):Int)) (hb:0≤b∧b<((2^m:Nat):Int)) (h2:a+b≤9223372036854775807):Ev P L w ⟨some d,.binOp .or t x y t2,ty,pos,aft,none⟩ (.int .i64 (a+b)):= fun ρ hρ=> by
  obtain⟨B,rfl⟩:=Int.eq_ofNat_of_zero_le hb.1
  subst ha
  have hB:B<2^m:= by have :=hb.2;omega
  have hA:((A:Int)*((2^m:Nat):Int))=((A*2^m:Nat):Int):= by simp
  rw[hA]at h2
  have h3:IntKind.i64.wrap (((A*2^m ||| B:Nat):Int))=((A*2^m:Nat):Int)+(B:Int):= by
    rw[OR A B m hB,Int.natCast_add]; exact Um (by omega) h2
  have hx':=hρ _ _ hx
  rw[hA]at hx'⊢
  have h4:((BitVec.ofInt 64 ((A*2^m:Nat):Int)) ||| (BitVec.ofInt 64 (B:Int))).toNat=A*2^m ||| B:= by
    rw[BitVec.toNat_or,BitVec.ofInt_natCast,BitVec.ofInt_natCast,BitVec.toNat_ofNat,BitVec.toNat_ofNat,Nat.mod_eq_of_lt (by omega),Nat.mod_eq_of_lt (by omega)]
  have h5:=h3
  rw[←h4]at h5
  simp only[execOp,hx',hρ _ _ hy,binOp,Op.intBits]
  simp only[IntKind.bits,eqGuard]
  simp only[BitVec.ofInt_natCast]at h5⊢
  simp [-BitVec.toNat_or]at h5⊢
  exact h5
theorem La (m:Nat) (A:Nat) (hx:look L x=some (.int .i64 a)) (hy:look L y=some (.int .i64 b)) (ha:a=(A:Int)*((2^m:Nat):Int)) (hb:0≤b∧b<((2^m:Nat):Int)) (h2:a+b≤9223372036854775807) (hd:Nat.blt d n=true) (hk:wl P n ops Q rest ((d,.int .i64 (a+b))::L) w):wl P n ops Q (⟨some d,.binOp .or t x y t2,ty,pos,aft,none⟩::rest) L w:=
  Xv hd (ev_or m A hx hy ha hb h2) hk
theorem A7 {sT dT:TypeId} {ds:TypeDesc} {c:UInt8} (hs:P.underlying sT=some ds) (ht:P.underlying dT=some (.int .i64)) (hx:look L x=some (.int .u8 (c.toNat:Int))):Ev P L w ⟨some d,.convert sT dT x,ty,pos,aft,none⟩ (.int .i64 (c.toNat:Int)):=
  Cb hs ht hx (by have :=c.toNat_lt; exact Um (by omega) (by omega))
theorem YP {sT dT:TypeId} {ds:TypeDesc} {c:UInt8} (hs:P.underlying sT=some ds) (ht:P.underlying dT=some (.int .i64)) (hx:look L x=some (.int .u8 (c.toNat:Int))) (hd:Nat.blt d n=true) (hk:wl P n ops Q rest ((d,.int .i64 (c.toNat:Int))::L) w):wl P n ops Q (⟨some d,.convert sT dT x,ty,pos,aft,none⟩::rest) L w:=Xv hd (A7 hs ht hx) hk
theorem wrap_u8 (m:Nat):IntKind.u8.wrap (m:Int)=((UInt8.ofNat m).toNat:Int):= by
  simp [IntKind.wrap,IntKind.signed,IntKind.bits]
theorem Sh {sT dT:TypeId} {ds:TypeDesc} {k:IntKind} {a:Int} (m:Nat) (hs:P.underlying sT=some ds) (ht:P.underlying dT=some (.int .u8)) (hx:look L x=some (.int k a)) (ha:a=(m:Int)):Ev P L w ⟨some d,.convert sT dT x,ty,pos,aft,none⟩ (.int .u8 ((UInt8.ofNat m).toNat:Int)):=
  Cb hs ht hx (by rw[ha]; exact wrap_u8 m)
theorem BC {sT dT:TypeId} {ds:TypeDesc} {k:IntKind} {a:Int} (m:Nat) (hs:P.underlying sT=some ds) (ht:P.underlying dT=some (.int .u8)) (hx:look L x=some (.int k a)) (ha:a=(m:Int)) (hd:Nat.blt d n=true) (hk:wl P n ops Q rest ((d,.int .u8 ((UInt8.ofNat m).toNat:Int))::L) w):wl P n ops Q (⟨some d,.convert sT dT x,ty,pos,aft,none⟩::rest) L w:=Xv hd (Sh m hs ht hx ha) hk
end
end Go.Proofs.YtiibgheijbbmaaaGreatDoor.M
namespace Go.Proofs.YtiibgheijbbmaaaGreatDoor
open Go.RowKit M
abbrev Bs:=List UInt8
structure WS where
  cells:Bs→Bs
  objs:Bs→Int→Option Bs
  logs:Bs→Bs
  time:Int
def SA:Bs:=List.replicate 64 0
def OQ (o:Option Bs):Bs:=o.getD SA
structure PagesOk (O:Bs→Int→Option Bs):Prop where
  ok: ∀n p s,O n p=some s→s.length=64∧s≠SA∧0≤p∧p<256
theorem PagesOk.len {O:Bs→Int→Option Bs} (h:PagesOk O) (n:Bs) (p:Int):(OQ (O n p)).length=64:= by
  unfold OQ
  cases hq:O n p with
  | none=>rfl
  | some s=> exact(h.ok n p s hq).1
structure ObjL (L:List (Bs×Nat)) (O:Bs→Int→Option Bs):Prop where
  nodup:(L.map (·.1)).Nodup
  has: ∀n,n∈L.map (·.1)↔ ∃p,O n p≠none
structure WL where
  bc:Nat
  bo:Nat
  bl:Nat
def Et (c:Bs→Bs) (k v:Bs):Bs→Bs:= fun j=> if j=k then v else c j
def setO (O:Bs→Int→Option Bs) (n:Bs) (p:Int) (s:Bs):Bs→Int→Option Bs:= fun m q=> if m=n∧q=p then(if s=SA then none else some s)else O m q
theorem PagesOk.set {O:Bs→Int→Option Bs} (h:PagesOk O) {n:Bs} {p:Int} {s:Bs} (hs:s.length=64) (hp:0≤p∧p<256):PagesOk (setO O n p s):= by
  refine⟨fun m q t ht=> ?_⟩
  unfold setO at ht
  split at ht
  · rename_i hc
    split at ht
    · cases ht
    · rename_i hz; cases ht; exact⟨hs,hz, by omega, by omega⟩
  · exact h.ok m q t ht
end Go.Proofs.YtiibgheijbbmaaaGreatDoor
namespace Go.Proofs.YtiibgheijbbmaaaGreatDoor.M
open Go.RowKit Go.Sort
def Z4:RowC (List UInt8):=⟨fun s=>[strV s],1, by decide, fun _=>rfl, fun _=>rfl⟩
theorem Sat.belowAll {w w':World} {As:List Th} (h:Sat w As) (hb:RowKit.Below w.heap.size w w'):Sat w' As:=h.only ⟨hb.os,hb.tape,hb.output,hb.size, fun k hk _=>hb.block k hk⟩
