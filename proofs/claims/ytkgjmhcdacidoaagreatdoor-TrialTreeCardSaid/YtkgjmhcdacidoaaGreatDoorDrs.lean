/- A region that draws its order, where operations that change things may come in more than one order: by cases on which of two comes first. Conditions: the rule's own hypotheses. -/
import Derived.Test.YtkgjmhcdacidoaaGreatDoorDr
import Derived.Test.YtkgjmhcdacidoaaGreatDoorShelf
import Derived.Test.YtkgjmhcdacidoaaGreatDoorRow
namespace Go.Proofs.YtkgjmhcdacidoaaGreatDoor.M
open Go.RowKit
def Sch (l:Array Oper):Array Bool→List Nat→Prop
  | listed,[]=>Region.ready .any l listed=[]
  | listed,i::s=>i∈Region.ready .any l listed∧Sch l (listed.setIfInBounds i true) s
theorem GX (ops:Array Oper) (listed:Array Bool):Region.ready .any ops listed=(List.range ops.size).filter fun i=> !listed.getD i true&&((ops[i]?).map (·.after.all fun e=> !Region.binds .any e || listed.getD e.on false)).getD false:=rfl
theorem SH {listed:Array Bool} {i:Nat} (h:(!listed.getD i true)=true):i<listed.size∧listed.getD i false=false:= by
  have hi:i<listed.size:= by
    rcases Nat.lt_or_ge i listed.size with q | q
    · exact q
    · simp [Array.getD,Nat.not_lt.2 q]at h
  refine⟨hi, ?_⟩
  simp [Array.getD,hi]at h⊢
  exact h
theorem Kl {l:Array Oper} {listed:Array Bool} {i:Nat} (h:i∈Region.ready .any l listed):i<l.size∧i<listed.size∧listed.getD i false=false:= by
  rw[GX]at h
  simp only[List.mem_filter,List.mem_range,Bool.and_eq_true]at h
  have :=SH h.2.1
  exact⟨h.1,this.1,this.2⟩
theorem Nn (l:Array Oper): ∀(fuel t:Nat) (listed:Array Bool),YY listed l.size≤fuel→Sch l listed (Region.linearise.go .any l fuel t listed [])
  | 0,t,listed,h=> by
    simp only[Region.linearise.go,List.reverse_nil,Sch]
    cases hr:Region.ready .any l listed with
    | nil=>rfl
    | cons i rs=>
      have hm:i∈Region.ready .any l listed:= by rw[hr]; simp
      obtain⟨h1,_,h2⟩:=Kl hm
      have h3:i∈(List.range l.size).filter fun i=> !listed.getD i false:= by simp only[List.mem_filter,List.mem_range,h2]; exact⟨h1,rfl⟩
      have h4:((List.range l.size).filter fun i=> !listed.getD i false)=[]:=List.eq_nil_of_length_eq_zero (by unfold YY at h;omega)
      rw[h4]at h3; cases h3
  | fuel+1,t,listed,h=> by
    simp only[Region.linearise.go]
    change Sch l listed (match(Region.ready .any l listed)[t%(Region.ready .any l listed).length]? with
      | some i=>Region.linearise.go .any l fuel (t/ (Region.ready .any l listed).length) (listed.setIfInBounds i true) [i]
      | none=>[].reverse)
    cases hi:(Region.ready .any l listed)[t%(Region.ready .any l listed).length]? with
    | none=>
      simp only[List.reverse_nil,Sch]
      cases hr:Region.ready .any l listed with
      | nil=>rfl
      | cons x xs=>
        rw[hr]at hi
        have hlt:t%(x::xs).length<(x::xs).length:=Nat.mod_lt _ (by simp)
        rw[Zd hlt]at hi; cases hi
    | some i=>
      simp only[]
      have hm:=List.mem_of_getElem? hi
      obtain⟨h1,h2,h3⟩:=Kl hm
      rw[linearise_go_acc,List.reverse_singleton,List.singleton_append]
      refine⟨hm,Nn l fuel _ _ ?_⟩
      have :=Dk h1 h2 h3
      omega
theorem PQ {P:Program} {l:Array Oper} {Q:Exit→Act→World→Prop}: ∀(s:List Nat) (fuel:Nat) (listed:Array Bool) (a:Act) (w:World),wpAny P .any l Q fuel listed a w→Sch l listed s→wpOps P l Q s a w
  | [],0,_,_,_,h,_=>h.2
  | [],_+1,_,_,_,h,hs=>h.1 hs
  | i::s,0,_,_,_,h,hs=> by have :=hs.1; rw[h.1]at this; cases this
  | i::s,fuel+1,_,_,_,h,hs=> by
    rw[wpOps_cons]
    exact wpOp_mono (fun a w hk=>PQ s fuel _ a w hk hs.2) (h.2 i hs.1)
structure AlikeO (l l':Array Oper):Prop where
  at_: ∀i:Nat,(l[i]?).map (fun (o:Oper)=>(o.dst,o.op,o.type,o.pos,o.guard))=(l'[i]?).map (fun (o:Oper)=>(o.dst,o.op,o.type,o.pos,o.guard))
theorem AlikeO.yielded {l l':Array Oper} (h:AlikeO l l') (tmps:Array Value):yielded l tmps=yielded l' tmps:= by
  funext j
  have :=h.at_ j
  unfold Go.yielded
  have e:(l[j]?).bind (·.dst)=(l'[j]?).bind (·.dst):= by
    cases h1:l[j]? <;> cases h2:l'[j]? <;> simp [h1,h2]at this⊢
    exact this.1
  rw[e]
theorem AlikeO.wpOps {P:Program} {Q:Exit→Act→World→Prop} {l l':Array Oper} (h:AlikeO l l'): ∀(s:List Nat) (a:Act) (w:World),wpOps P l' Q s a w→wpOps P l Q s a w
  | [],_,_,hh=>hh
  | i::s,a,w,hh=> by
    rw[wpOps_cons]at hh⊢
    have hh2:=wpOp_mono (fun a w=>h.wpOps s a w) hh
    have hi:=h.at_ i
    unfold wpOp at hh2⊢
    cases h1:l[i]? with
    | none=>
      cases h2:l'[i]? with
      | none=> rw[h2]at hh2; exact hh2
      | some o'=> simp [h1,h2]at hi
    | some o=>
      cases h2:l'[i]? with
      | none=> simp [h1,h2]at hi
      | some o'=>
        rw[h2]at hh2
        simp only at hh2⊢
        obtain⟨d,op,ty,pos,aft,g⟩:=o
        obtain⟨d',op',ty',pos',aft',g'⟩:=o'
        simp [h1,h2]at hi
        obtain⟨rfl,rfl,rfl,rfl,rfl⟩:=hi
        rw[h.yielded]
        have he: ∀ρ:Operand→Value,execOp ρ ⟨d,op,ty,pos,aft,g⟩=execOp ρ ⟨d,op,ty,pos,aft',g⟩:= by intro ρ; cases op<;>rfl
        have hw:Region.wanted ⟨d,op,ty,pos,aft,g⟩ (Go.yielded l' a.tmps)=Region.wanted ⟨d,op,ty,pos,aft',g⟩ (Go.yielded l' a.tmps):=rfl
        rw[hw]
        split
        · rename_i hwt
          rw[if_pos hwt]at hh2
          rcases hh2 with hq | ⟨hq,hl⟩
          · left
            unfold Oper.wp at hq⊢
            rw[he]
            generalize (execOp a.eval ⟨d,op,ty,pos,aft',g⟩).run P w=r at hq⊢
            cases r with
            | ok m w'=> cases m<;> exact hq
            | halt x w'=> cases x<;> exact hq
          · right
            refine⟨?_,hl⟩
            unfold Oper.asks at hq⊢
            rw[he]; exact hq
        · rename_i hwt
          rw[if_neg hwt]at hh2
          exact hh2
def Vq:List Oper→Nat→Nat→List Oper
  | [],_,_=>[]
  | o::l,0,x=>{o with after:=o.after.push ⟨x,.chain⟩}::l
  | o::l,i+1,x=>o::Vq l i x
theorem Hz: ∀(l:List Oper) (i x:Nat),(Vq l i x).length=l.length
  | [],_,_=>rfl
  | _::_,0,_=>rfl
  | _::l,i+1,x=> by simp [Vq,Hz l i x]
theorem BH: ∀(l:List Oper) (i x k:Nat),(Vq l i x)[k]? = if k=i then(l[k]?).map (fun (o:Oper)=>{o with after:=o.after.push ⟨x,.chain⟩})else l[k]?
  | [],i,x,k=> by simp [Vq]
  | o::l,0,x,0=> by simp [Vq]
  | o::l,0,x,k+1=> by simp [Vq]
  | o::l,i+1,x,0=> by simp [Vq]
  | o::l,i+1,x,k+1=> by simp [Vq,BH l i x k]
theorem BG {l:List Oper} {i x k:Nat} {listed:Array Bool}:k∈Region.ready .any (Vq l i x).toArray listed↔k∈Region.ready .any l.toArray listed∧(k=i→listed.getD x false=true):= by
  rw[GX,GX]
  simp only[List.mem_filter,List.mem_range,List.size_toArray,Hz,List.getElem?_toArray,BH,Bool.and_eq_true]
  by_cases hk:k=i
  · subst hk
    simp only[if_true]
    cases hl:l[k]? with
    | none=> simp
    | some o=> simp [Region.binds]; exact⟨fun ⟨h1,h2,h3,h4⟩=>⟨⟨h1,h2,h3⟩,h4⟩, fun ⟨⟨h1,h2,h3⟩,h4⟩=>⟨h1,h2,h3,h4⟩⟩
  · simp [hk]
theorem BI (l:List Oper) (i x:Nat):AlikeO l.toArray (Vq l i x).toArray:=⟨fun k=> by
  simp only[List.getElem?_toArray,BH]
  split
  · cases l[k]? <;>rfl
  · rfl⟩
theorem AlikeO.trans {l l' l2:Array Oper} (h:AlikeO l l') (g:AlikeO l' l2):AlikeO l l2:=⟨fun i=>(h.at_ i).trans (g.at_ i)⟩
theorem AlikeO.refl (l:Array Oper):AlikeO l l:=⟨fun _=>rfl⟩
theorem Mk {l:List Oper} {i x:Nat}: ∀(s:List Nat) (listed:Array Bool),Sch l.toArray listed s→(∀p q,s=p++i::q→listed.getD x false=true∨x∈p)→Sch (Vq l i x).toArray listed s
  | [],listed,h,_=> by
    unfold Sch at h⊢
    cases hr:Region.ready .any (Vq l i x).toArray listed with
    | nil=>rfl
    | cons k rs=>
      have hm:k∈Region.ready .any (Vq l i x).toArray listed:= by rw[hr]; simp
      have :=(BG.1 hm).1
      rw[h]at this; cases this
  | k::s,listed,h,hx=> by
    obtain⟨h1,h2⟩:=h
    refine⟨BG.2 ⟨h1, fun e=> ?_⟩,Mk s _ h2 fun p q e=> ?_⟩
    · subst e
      rcases hx [] s rfl with h3 | h3
      · exact h3
      · cases h3
    · rcases hx (k::p) q (by rw[e];rfl)with h3 | h3
      · left
        by_cases hkx:k=x
        · subst hkx; exact Wr (Kl h1).2.1
        · rw[W3 (fun e=>hkx e.symm)]; exact h3
      · rcases List.mem_cons.1 h3 with h4 | h4
        · subst h4; exact .inl (Wr (Kl h1).2.1)
        · exact .inr h4
theorem Eb (s:List Nat) {x y:Nat} (hne:x≠y):(∀p q,s=p++y::q→x∈p)∨(∀p q,s=p++x::q→y∈p):= by
  by_cases h: ∀p q,s=p++y::q→x∈p
  · exact .inl h
  · right
    obtain⟨p,hp⟩:=Classical.not_forall.1 h
    obtain⟨q,hq⟩:=Classical.not_forall.1 hp
    obtain⟨e,hx⟩:=Classical.not_imp.1 hq
    intro p' q' e'
    rw[e]at e'
    rcases List.append_eq_append_iff.1 e' with⟨r,h1,h2⟩ | ⟨r,h1,h2⟩
    · cases r with
      | nil=> simp at h2; exact absurd h2.1.symm hne
      | cons r0 r=>
        simp at h2
        rw[h1,h2.1]; simp
    · cases r with
      | nil=> simp at h2; exact absurd h2.1 hne
      | cons r0 r=>
        simp at h2
        refine absurd ?_ hx
        rw[h1,h2.1]; simp
section
variable {P:Program} {n:Nat} {l0 l:List Oper} {sp:List Nat} {Q:Exit→Act→World→Prop}
@[irreducible] def DrW (P:Program) (n:Nat) (l0 l:List Oper) (Q:Exit→Act→World→Prop) (L:Env) (w:World):Prop:=AlikeO l0.toArray l.toArray→ ∀s,Sch l.toArray (Array.replicate l.length false) s→ ∀a,Fr n L a→wpOps P l0.toArray Q s a w
theorem MY {id:Nat} {L:Env} {w:World} (hm:P.follows .mixedOrders=true) (h:DrW P n l l Q L w.drew):wc P n (.region id l.toArray true) Q L w:= by
  unfold wc
  unfold DrW at h
  intro a ha
  refine wp_region_draw fun t=> ?_
  simp only[Region.schedule,hm,Bool.true_or,if_true]
  refine h (AlikeO.refl _) _ ?_ a ha
  have :=Nn l.toArray l.toArray.size t (Array.replicate l.length false) (by
    unfold YY
    have :=List.length_filter_le (fun i=> !(Array.replicate l.length false).getD i false) (List.range l.toArray.size)
    simpa using this)
  simpa [Region.linearise]using this
theorem Cf {L:Env} {w:World} (x y:Nat) (hne:Nat.beq x y=false) (h1:DrW P n l0 (Vq l y x) Q L w) (h2:DrW P n l0 (Vq l x y) Q L w):DrW P n l0 l Q L w:= by
  unfold DrW at *
  intro hal s hs a ha
  rcases Eb s (x:=x) (y:=y) (fun e=> by subst e; rw[Nat.beq_refl]at hne; cases hne)with h | h
  · refine h1 (hal.trans (BI l y x)) s ?_ a ha
    rw[Hz]
    exact Mk s _ hs fun p q e=> .inr (h p q e)
  · refine h2 (hal.trans (BI l x y)) s ?_ a ha
    rw[Hz]
    exact Mk s _ hs fun p q e=> .inr (h p q e)
theorem RB {L:Env} {w:World} (ord:List Nat) (hck:M6 l n ord sp=true) (h:VC P n l (JQ l []) sp Q ord L w []):DrW P n l0 l Q L w:= by
  unfold DrW
  intro hal s hs a ha
  refine hal.wpOps s a w (PQ s l.length _ a w ?_ hs)
  have st:=RA hck
  have inv0:Inv P n l sp ord Q a L (Array.replicate l.length false) a w [] ord [] false:=
    { size:= by simp,closed:= fun i o _ hl=>(by rw[getD_replicate_false]at hl; cases hl),order:=rfl,vc:=h,head:=(fun h=> by cases h),inD:= fun i hl=>(by rw[getD_replicate_false]at hl; cases hl),
      spD:= by simp,old:= fun _ _=>rfl,val:= by simp,quiet:=(by intro D1 r D2 e; simp at e),again:=(by intro D1 r D2 e; simp at e),ops:= by simp,tsize:=ha.size,defers:=ha.defers}
  obtain⟨D,suf,pf,inv⟩:=inv0.advance st
  have htodo:YY (Array.replicate l.length false) l.length=l.length:= by
    unfold YY
    rw[List.filter_eq_self.2 (fun i _=> by rw[getD_replicate_false];rfl)]
    simp
  exact GD st ha l.length (Array.replicate l.length false) a w D suf pf inv htodo
end
section
variable {P:Program} {n m l:Nat} {ops:Array Oper} {Q:Exit→Act→World→Prop} {rest:List Oper} {L:Env} {w:World} {D:List Deferred} {ty:TypeId} {pos:String} {aft:Array Edge}
def more (D:List Deferred) (a:Act):Act:={a with defers:=a.defers++D}
theorem He (a:Act) (d:Option Tmp) (v:Value):(more D a).put d v=more D (a.put d v):= by cases d<;>rfl
theorem Rr (a:Act):(more D a).eval=a.eval:= by funext x; cases x<;>rfl
def QD (D:List Deferred) (Q:Exit→Act→World→Prop):Exit→Act→World→Prop:= fun e a w=>Q e (more D a) w
theorem letsD (h:LetsOut (QD D Q)):LetsOut Q:= by obtain⟨a,w,h⟩:=h; exact⟨_,w,h⟩
theorem uponD {o:Oper} {a:Act} {K K':Act→World→Prop} (hK: ∀a w,K a w→K' (more D a) w) {r:Result Next} (h:o.upon P a K (QD D Q) r):o.upon P (more D a) K' Q r:= by
  unfold Oper.upon at h⊢
  split at h
  · rw[He]; exact hK _ _ h
  · rw[He]; exact hK _ _ h
  · have :=hK _ _ h; rw[←He]at this; exact this
  · refine Calls.mono h fun e w' he=> ?_
    cases e with
    | returned v=> dsimp only at he⊢; rw[He]; exact hK _ _ he
    | panicked c=> exact he
    | outgrown=> exact letsD he
  · refine Rows.mono h fun v w' he=> ?_
    rw[He]; exact hK _ _ he
  · exact h
  · exact h.elim
theorem opD {o:Oper} {a:Act} {K K':Act→World→Prop} (hK: ∀a w,K a w→K' (more D a) w) (h:o.wp P a w K (QD D Q)∨(o.asks P a w∧LetsOut (QD D Q))):o.wp P (more D a) w K' Q∨(o.asks P (more D a) w∧LetsOut Q):= by
  rcases h with h | ⟨h1,h2⟩
  · refine .inl ?_
    unfold Oper.wp at h⊢
    rw[Rr]
    exact uponD hK h
  · refine .inr ⟨?_,letsD h2⟩
    unfold Oper.asks at h1⊢
    rw[Rr]; exact h1
theorem LM: ∀(rest:List Oper) (a:Act) (w:World),wpList P ops (QD D Q) rest a w→wpList P ops Q rest (more D a) w
  | [],_,_,h=>h
  | o::rest,a,w,h=> by
    unfold wpList at h⊢
    rw[show(more D a).tmps=a.tmps from rfl]
    split
    · rename_i hw
      rw[if_pos hw]at h
      exact opD (fun a w=>LM rest a w) h
    · rename_i hw
      rw[if_neg hw]at h
      rw[He]; exact LM rest _ _ h
theorem opsD: ∀(s:List Nat) (a:Act) (w:World),wpOps P ops (QD D Q) s a w→wpOps P ops Q s (more D a) w
  | [],_,_,h=>h
  | i::s,a,w,h=> by
    unfold wpOps at h⊢
    cases ho:ops[i]? with
    | none=> simp only[ho]at h⊢; exact opsD s a w h
    | some o=>
      simp only[ho]at h⊢
      rw[show(more D a).tmps=a.tmps from rfl]
      split
      · rename_i hw
        rw[if_pos hw]at h
        exact opD (fun a w=>opsD s a w) h
      · rename_i hw
        rw[if_neg hw]at h
        rw[He]; exact opsD s _ _ h
structure FrD (D:List Deferred) (n:Nat) (L:Env) (a:Act):Prop where
  size:a.tmps.size=n
  defers:a.defers=D
  get: ∀t v,Xm L t=some v→a.tmps[t]? =some v
theorem FrD.less {a:Act} (h:FrD D n L a): ∃a0,Fr n L a0∧a=more D a0:=⟨{a with defers:=[]},⟨h.size,rfl,h.get⟩, by obtain⟨t,d⟩:=a; have :=h.defers; simp at this; subst this;rfl⟩
theorem Fr.more {a:Act} (h:Fr n L a):FrD D n L (more D a):=⟨h.size, by show a.defers++D=D; rw[h.defers];rfl,h.get⟩
theorem FrD.eval {a:Act} (h:FrD D n L a) {x:Operand} {v:Value} (hx:look L x=some v):a.eval x=v:= by
  obtain⟨a0,h0,rfl⟩:=h.less
  rw[Rr]; exact h0.eval hx
theorem FrD.sub {L':Env} {a:Act} (h:FrD D n L a) (hs:SubE L L'):FrD D n L' a:=⟨h.size,h.defers, fun t v ht=>h.get t v (hs.get t v ht)⟩
@[irreducible] def wcD (D:List Deferred) (P:Program) (n:Nat) (c:Code) (Q:Exit→Act→World→Prop) (L:Env) (w:World):Prop:= ∀a,FrD D n L a→c.wp P Q a w
@[irreducible] def qsD (D:List Deferred) (n:Nat) (Q:Exit→Act→World→Prop) (e:Exit) (L:Env) (w:World):Prop:= ∀a,FrD D n L a→Q e a w
theorem Z2 {e:Exit} (h:qsD D n Q e L w):qs n (QD D Q) e L w:= by unfold qsD at h;unfold qs; exact fun a ha=>h _ ha.more
theorem WC {c:Code} {L':Env} (hs:SubE L L') (h:wcD D P n c Q L' w):wcD D P n c Q L w:= by unfold wcD at *; exact fun a ha=>h a (ha.sub hs)
theorem XN {x y:Code} (h:wcD D P n x (Exit.then (y.wp P Q) Q) L w):wcD D P n (.seq x y) Q L w:= by unfold wcD at *; exact fun a ha=>Go.wp_seq (h a ha)
theorem XE {id:Nat} {l:List Oper} (h:wl P n l.toArray (QD D Q) l L w):wcD D P n (.region id l.toArray false) Q L w:= by
  unfold wcD;unfold wl at h
  intro a ha
  obtain⟨a0,h0,rfl⟩:=ha.less
  exact Go.wp_region_lit (LM _ _ _ (h a0 h0))
theorem UH {id:Nat} {l:List Oper} (hm:P.follows .mixedOrders=true) (h:DrW P n l l (QD D Q) L w.drew):wcD D P n (.region id l.toArray true) Q L w:= by
  unfold wcD
  unfold DrW at h
  intro a ha
  obtain⟨a0,h0,rfl⟩:=ha.less
  refine wp_region_draw fun t=> ?_
  simp only[Region.schedule,hm,Bool.true_or,if_true]
  refine opsD _ _ _ (h (AlikeO.refl _) _ ?_ a0 h0)
  have :=Nn l.toArray l.toArray.size t (Array.replicate l.length false) (by
    unfold YY
    have :=List.length_filter_le (fun i=> !(Array.replicate l.length false).getD i false) (List.range l.toArray.size)
    simpa using this)
  simpa [Region.linearise]using this
theorem Ur (h:qsD D n Q .normal L w):wcD D P n .skip Q L w:= by unfold wcD;unfold qsD at h; exact fun a ha=>Go.wp_skip (h a ha)
theorem Hq (h:qsD D n Q .ret L w):wcD D P n .ret Q L w:= by unfold wcD;unfold qsD at h; exact fun a ha=>Go.wp_ret (h a ha)
theorem YV {c:Operand} {x y:Code} {t:Bool} (hc:look L c=some (.bool t)) (h1:t=true→wcD D P n x Q L w) (h2:t=false→wcD D P n y Q L w):wcD D P n (.cond c x y) Q L w:= by
  unfold wcD at *; exact fun a ha=>Go.wp_cond_split (ha.eval hc) (fun e=>h1 e a ha) (fun e=>h2 e a ha)
theorem Se {c:Operand} {x y:Code} {p:Prop} {dp:Decidable p} (hc:look L c=some (.bool (@decide p dp))) (h1:p→wcD D P n x Q L w) (h2: ¬p→wcD D P n y Q L w):wcD D P n (.cond c x y) Q L w:=
  YV hc (fun e=>h1 (of_decide_eq_true e)) (fun e=>h2 (of_decide_eq_false e))
theorem XA {y:Code} (h:wcD D P n y Q L w):qsD D n (Exit.then (y.wp P Q) Q) .normal L w:= by unfold qsD;unfold wcD at h; exact fun a ha=>h a ha
theorem HY {K:Act→World→Prop} (h:qsD D n Q .ret L w):qsD D n (Exit.then K Q) .ret L w:= by unfold qsD at *; exact fun a ha=>h a ha
theorem Rk {id:Nat} (h:qsD D n Q .normal L w):qsD D n (Exit.inBlock id Q) .normal L w:= by unfold qsD at *; exact fun a ha=>h a ha
theorem Ke {x:Operand} {f:Nat} {fs cap:Array Value} {ts:Array TypeId} (hx:look L x=some (.func (.func f) fs cap)) (h:qsD [{target:= .fn (.func f) cap,args:=fs}] n Q .normal L w):wl P n ops Q [⟨none,.defer ⟨.value x, #[],ts⟩,ty,pos,aft,none⟩] L w:= by
  unfold wl;unfold qsD at h
  intro a ha
  unfold wpList
  rw[if_pos (by simp [Region.wanted])]
  refine .inl ?_
  unfold Oper.wp
  have hr:(execOp a.eval ⟨none,.defer ⟨.value x, #[],ts⟩,ty,pos,aft,none⟩).run P w= .ok (.defer {target:= .fn (.func f) cap,args:=fs}) w:= by
    simp [execOp,resolve,ha.eval hx,Deferred.ofValue]
  rw[hr]
  exact h _ ⟨ha.size, by show _::a.defers=_; rw[ha.defers],ha.get⟩
theorem KB {f:FuncId} {fn:Func} {c:Code} {args:List Value} {R:Ending→World→Prop} (hf:P.funcs[f]? =some fn) (hb:fn.body=some c) (hn:fn.ntmps=n) (hl:Nat.ble args.length n=true)
    (h:wc P n c (bodyPostD P fn R) (RE 0 args) w):Calls P f args.toArray w R:= by
  have hle:args.length≤n:=Q7 hl
  unfold wc at h
  refine calls_of_wp_defers hf hb (h _ ⟨by simp [hn];omega,rfl, fun t v ht=> ?_⟩)
  obtain⟨_,h2⟩:=HJ args 0 t v ht
  simp only[Nat.sub_zero]at h2
  have hlt:=(XL h2).1
  rw[Array.getElem?_append_left (by simpa using hlt)]
  simpa using h2
theorem MA {f:FuncId} {fn:Func} {c:Code} {args:List Value} {R:Ending→World→Prop} {u:FrameMode} (hf:P.funcs[f]? =some fn) (hb:fn.body=some c) (hn:fn.ntmps=n) (hl:Nat.ble args.length n=true)
    (h:wc P n c (bodyPost P fn R) (RE 0 args) w):CallsD P f args.toArray u w (fun e u' w'=>u'=u∧R e w'):= by
  have hle:args.length≤n:=Q7 hl
  unfold wc at h
  refine callsD_of_wp hf hb (h _ ⟨by simp [hn];omega,rfl, fun t v ht=> ?_⟩)
  obtain⟨_,h2⟩:=HJ args 0 t v ht
  simp only[Nat.sub_zero]at h2
  have hlt:=(XL h2).1
  rw[Array.getElem?_append_left (by simpa using hlt)]
  simpa using h2
theorem finE_of {fn:Func} {R:Ending→World→Prop} {v:Value} {e:Exit} (he:e= .normal∨e= .ret) (hr: ∀a,Fr n L a→(results fn a.tmps).run P w= .ok v w) (h:R (.returned v) w):qs n (bodyPostD P fn R) e L w:= by
  unfold qs
  intro a ha
  have hd:=ha.defers
  rcases he with rfl | rfl
  · show Leaves P fn a.tmps R a.defers .returning w
    rw[hd]; exact⟨v,hr a ha,h⟩
  · show Leaves P fn a.tmps R a.defers .returning w
    rw[hd]; exact⟨v,hr a ha,h⟩
theorem finE2 {fn:Func} {R:Ending→World→Prop} {r r2:ResultVar} {v v2:Value} {e:Exit} (he:e= .normal∨e= .ret) (hf:fn.results= #[r,r2]) (hv:Ul P n L w r v) (hv2:Ul P n L w r2 v2) (h:R (.returned (.tuple #[v,v2])) w):qs n (bodyPostD P fn R) e L w:=
  finE_of he (fun a ha=> by rw[HW,hf]; simp [hv a ha,hv2 a ha]) h
theorem SK {fn:Func} {R:Ending→World→Prop} {R0:Value→World→Prop} {e:Exit} {f:Nat} {cap:List Value} (he:e= .normal∨e= .ret) (hc:Q8 P f=true) (hcd:CallsD P f cap.toArray .returning w (fun e u' w'=>u'= .returning∧Ret R0 e w'))
    (hk: ∀v0 w',R0 v0 w'→ ∃v,(∀a,Fr n L a→(results fn a.tmps).run P w'= .ok v w')∧R (.returned v) w'):qsD [{target:= .fn (.func f) cap.toArray,args:= #[]}] n (bodyPostD P fn R) e L w:= by
  unfold qsD
  intro a ha
  have hd:=ha.defers
  have main:Leaves P fn a.tmps R a.defers .returning w:= by
    rw[hd]
    refine leaves_cons (f:=f) (args:=cap.toArray) (by simp) ?_ ?_
    · have :=Vd hc cap.toArray w
      simp only[invoke]
      simpa using this
    · refine CallsD.mono hcd ?_
      rintro e u' w' ⟨rfl,v0,rfl,h0⟩
      obtain⟨v,h1,h2⟩:=hk v0 w' h0
      show Leaves P fn a.tmps R [] (settle .returning) w'
      exact⟨v,h1 {tmps:=a.tmps,defers:=[]} ⟨ha.size,U,ha.get⟩,h2⟩
  rcases he with rfl | rfl<;> exact main
theorem finM {fn:Func} {R:Ending→World→Prop} {e:Exit} {B:Nat} {v:Value} (he:e= .normal∨e= .ret) (hB:w.heap[B]? =some (.deferred (some []))) (hr: ∀a,Fr n L a→(results fn a.tmps).run P (w.putObj B (.deferred none))= .ok v (w.putObj B (.deferred none))) (h:R (.returned v) (w.putObj B (.deferred none))):
    qsD [{target:= .collected B,args:= #[]}] n (bodyPostM Fence.wide 0 P fn R) e L w:= by
  unfold qsD
  intro a ha
  have main:LeavesInM Fence.wide 0 P fn a.tmps R a.defers .returning w:= by
    rw[ha.defers]
    exact⟨by simp,.inl ⟨B,_,rfl,run_takeDeferred hB,⟨v,hr {tmps:=a.tmps,defers:=[]} ⟨ha.size,rfl,ha.get⟩,h⟩⟩⟩
  rcases he with rfl | rfl<;> exact main
theorem res2 {fn:Func} {t u:Nat} {v x:Value} (hf:fn.results= #[.tmp t,.tmp u]) (hv:Xm L t=some v) (hx:Xm L u=some x) (a:Act) (ha:Fr n L a):(results fn a.tmps).run P w= .ok (.tuple #[v,x]) w:= by
  have :=ha.get t v hv; have :=ha.get u x hx; simp [results,hf, *]
@[irreducible] def wcI (l:Nat) (P:Program) (n:Nat) (c:Code) (Q:Exit→Act→World→Prop) (L:Env) (w:World):Prop:= ∀a,Fr n L a→c.wpIn (RF l) 0 P Q a w
theorem Md {c:Code} {L':Env} (hs:SubE L L') (h:wcI l P n c Q L' w):wcI l P n c Q L w:= by unfold wcI at *; exact fun a ha=>h a (ha.sub hs)
theorem Ga {x y:Code} (h:wcI l P n x (Exit.then (y.wpIn (RF l) 0 P Q) Q) L w):wcI l P n (.seq x y) Q L w:= by unfold wcI at *; exact fun a ha=>Go.wpIn_seq (h a ha)
def noDef (o:Oper):Bool:= match o.op with | .defer _=>false | _=>true
theorem J7 {id:Nat} {os:List Oper} (hQ: ¬LetsOut Q) (hd:os.all noDef=true) (h:wl P n os.toArray Q os L w):wcI l P n (.region id os.toArray false) Q L w:= by
  unfold wcI;unfold wl at h
  exact fun a ha=>Go.wpIn_region_lit (WJ hQ _ _ _ (fun o ho c e=> by have :=List.all_eq_true.1 hd o ho;unfold noDef at this; rw[e]at this; cases this) (h a ha))
theorem Sd {id:Nat} {c:Code} (h:wcI l P n c (Exit.inBlock id Q) L w):wcI l P n (.block id c) Q L w:= by unfold wcI at *; exact fun a ha=>Go.wpIn_block (h a ha)
theorem FE {c:Operand} {x y:Code} {t:Bool} (hc:look L c=some (.bool t)) (h1:t=true→wcI l P n x Q L w) (h2:t=false→wcI l P n y Q L w):wcI l P n (.cond c x y) Q L w:= by
  unfold wcI at *; exact fun a ha=>Go.wpIn_cond_split (ha.eval hc) (fun e=>h1 e a ha) (fun e=>h2 e a ha)
theorem Gd {y:Code} (h:wcI l P n y Q L w):qs n (Exit.then (y.wpIn (RF l) 0 P Q) Q) .normal L w:= by unfold qs;unfold wcI at h; exact fun a ha=>h a ha
theorem H3 {id:Nat} (h:qs n Q .normal L w):qs n (Exit.inBlock id Q) .normal L w:=Ql h
theorem qsD_app {e:Exit} {a:Act} (hd:a.defers=D) (hs:a.tmps.size=n) (hg: ∀t v,Xm L t=some v→a.tmps[t]? =some v) (h:qsD D n Q e L w):Q e a w:= by unfold qsD at h; exact h a ⟨hs,hd,hg⟩
theorem V6 {rest:List Oper} {d:Nat} {x y z:Operand} {u v v2:Value} {ts:Array TypeId} {R:World→Prop} (hx:look L x=some (.func (.yield l) #[] #[])) (hy:look L y=some v) (hz:look L z=some v2) (hd:Nat.blt d n=true)
    (hY:YieldAt Fence.wide 0 P l #[v,v2] w (fun e w'=>e= .returned u∧R w')) (hk: ∀w',R w'→wlI P n ops Q rest ((d,u)::L) w'):wlI P n ops Q (⟨some d,.call ⟨.value x, #[y,z],ts⟩,ty,pos,aft,none⟩::rest) L w:= by
  obtain⟨fn,tmps,assign,body,h1,h2⟩:=hY
  unfold wlI at *
  intro a ha
  unfold wpListIn
  rw[if_pos (by simp [Region.wanted])]
  refine⟨fun _ _=>trivial, ?_⟩
  have h3:(execOp a.eval ⟨some d,.call ⟨.value x, #[y,z],ts⟩,ty,pos,aft,none⟩).run P w= .ok (.round l fn tmps assign body) w:= by
    simp only[execOp,resolve,ha.eval hx,Deferred.ofValue,invoke]
    simp [ha.eval hy,ha.eval hz,h1]
  show Oper.uponIn _ _ _ _ _ _ _ ((Oper.semAt none a.eval _).run P w)
  rw[Oper.semAt_none,h3]
  refine⟨fun q=> by simp [Fence.wide]at q,h2.mono fun e w' ⟨he,hR⟩=> ?_⟩
  subst he
  exact hk w' hR _ (ha.put (some d) u hd)
theorem yieldG {t1 t2:Nat} {x1 x2:Value} {rec:Loop} {assign body:Code} {L0:Env} {R:World→Prop}
    (hrec:w.heap[l]? =some (.loop rec)) (hst:rec.state= .ready) (hpd:rec.pending=none) (hps:rec.params= #[t1,t2]) (has:rec.assign=assign) (hbo:rec.body=body) (htn:rec.tmps.size=n)
    (hfr: ∀t v,Xm L0 t=some v→rec.tmps[t]? =some v) (ht1:Nat.blt t1 n=true) (ht2:Nat.blt t2 n=true)
    (h:wcI l P n assign (Exit.then (fun a₁ w₁=> ∃w₂,(Instr.beginRound l).run P w₁= .ok () w₂∧body.wpIn (RF l) 0 P (roundPost P l fun e w'=>e= .returned (.bool true)∧R w') a₁ w₂) (fun _ _ _=>False)) ((t2,x2)::(t1,x1)::L0) w):
    YieldAt Fence.wide 0 P l #[x1,x2] w (fun e w'=>e= .returned (.bool true)∧R w'):= by
  subst has hbo
  unfold wcI at h
  refine⟨rec.fn,(rec.tmps.setIfInBounds t1 x1).setIfInBounds t2 x2,rec.assign,rec.body, ?_,roundIn_of_wpIn trivial ?_⟩
  · have :=run_yield (P:=P) (args:= #[x1,x2]) hrec (by simp [hps])
    simpa [hps]using this
  · have ha0:Fr n L0 {tmps:=rec.tmps,defers:=[]}:=⟨htn,rfl,hfr⟩
    exact h _ ((ha0.put (some t1) x1 ht1).put (some t2) x2 ht2)
theorem Sw {rec:Loop} {body:Code} {R:World→Prop} {Q2:Exit→Act→World→Prop} (hrec:w.heap[l]? =some (.loop rec)) (hst:rec.state= .ready) (h:wcI l P n body (roundPost P l fun e w'=>e= .returned (.bool true)∧R w') L (w.putObj l (.loop {rec with state:= .busy}))):
    qs n (Exit.then (fun a₁ w₁=> ∃w₂,(Instr.beginRound l).run P w₁= .ok () w₂∧body.wpIn (RF l) 0 P (roundPost P l fun e w'=>e= .returned (.bool true)∧R w') a₁ w₂) Q2) .normal L w:= by
  unfold wcI at h;unfold qs
  exact fun a ha=>⟨_,run_beginRound hrec hst,h a ha⟩
theorem Pc {rec:Loop} {R:World→Prop} (hrec:w.heap[l]? =some (.loop {rec with state:= .busy})) (hst:rec.state= .ready) (hpd:rec.pending=none) (hR:R (w.putObj l (.loop rec))):qs n (roundPost P l fun e w'=>e= .returned (.bool true)∧R w') .normal L w:= by
  unfold qs
  intro a _
  refine⟨_,_,run_endRound none hrec,U, ?_⟩
  have e:({{rec with state:= .busy}with state:= if(none:Option Code).isNone then .ready else .done,pending:=none}:Loop)=rec:= by
    cases rec; simp at hst hpd; subst hst hpd;rfl
  rw[e]; exact hR
end
