/- A region that draws its order, where operations that change things may come in more than one order: by cases on which of two comes first. Conditions: the rule's own hypotheses. -/
import Derived.Test.YtifaibmhinlcfaaGreatDoorDr
import Derived.Test.YtifaibmhinlcfaaGreatDoorWa
import Derived.Test.YtifaibmhinlcfaaGreatDoorOp4
namespace Go.Proofs.YtifaibmhinlcfaaGreatDoor.M
open Go.RowKit
variable {K K':Act→World→Prop} {L L':Env} {R:Ending→World→Prop} {a:Act} {args:List Value} {body c x y:Code} {e:Exit} {i id:Nat} {listed:Array Bool} {o:Oper} {rec:Loop} {t:Bool} {ts:Array TypeId} {v v2:Value} {w:World}
def Sch (l:Array Oper):Array Bool->List Nat->Prop
  | listed,[]=>Region.ready .any l listed=[]
  | listed,i::s=>i∈Region.ready .any l listed/\Sch l (listed.setIfInBounds i true) s
theorem ML (ops:Array Oper) (listed:Array Bool):Region.ready .any ops listed=(List.range ops.size).filter λi=> !listed.getD i true&&((ops[i]?).map (·.after.all λe=> !Region.binds .any e || listed.getD e.on false)).getD false:=rfl
theorem Iv (h:(!listed.getD i true)=true):i<listed.size/\listed.getD i false=false:=by
  have hi:i<listed.size:=by
    rcases Nat.lt_or_ge i listed.size with q | q
    · exact q
    · simp [Array.getD,Nat.not_lt.2 q]at h
  refine⟨hi, ?_⟩;simp [Array.getD,hi]at h⊢;exact h
theorem G4 {l:Array Oper} (h:i∈Region.ready .any l listed):i<l.size/\i<listed.size/\listed.getD i false=false:=by
  rw[ML]at h;simp only[List.mem_filter,List.mem_range,Bool.and_eq_true]at h;have :=Iv h.2.1;exact⟨h.1,this.1,this.2⟩
theorem LA (l:Array Oper): ∀(fuel t:Nat) (listed:Array Bool),HT listed l.size<=fuel->Sch l listed (Region.linearise.go .any l fuel t listed [])
  | 0,t,listed,h=>by
    simp only[Region.linearise.go,List.reverse_nil,Sch];cases c:Region.ready .any l listed with
    | nil=>rfl
    | cons i rs=>
      have a:i∈Region.ready .any l listed:=by rw[c];simp
      obtain⟨d,_,e⟩:=G4 a;have b:i∈(List.range l.size).filter λi=> !listed.getD i false:=by simp only[List.mem_filter,List.mem_range,e];exact⟨d,rfl⟩
      have g:((List.range l.size).filter λi=> !listed.getD i false)=[]:=List.eq_nil_of_length_eq_zero (by unfold HT at h;omega);rw[g]at b;cases b
  | fuel+1,t,listed,h=>by
    simp only[Region.linearise.go]
    change Sch l listed (match(Region.ready .any l listed)[t%(Region.ready .any l listed).length]? with
      | some i=>Region.linearise.go .any l fuel (t/ (Region.ready .any l listed).length) (listed.setIfInBounds i true) [i]
      | none=>[].reverse)
    cases hi:(Region.ready .any l listed)[t%(Region.ready .any l listed).length]? with
    | none=>
      simp only[List.reverse_nil,Sch];cases c:Region.ready .any l listed with
      | nil=>rfl
      | cons x xs=>
        rw[c]at hi;have f:t%(x::xs).length<(x::xs).length:=Nat.mod_lt _ (by simp);rw[XQ f]at hi;cases hi
    | some i=>
      simp only[];have a:=List.mem_of_getElem? hi;obtain⟨d,e,b⟩:=G4 a;rw[linearise_go_acc,List.reverse_singleton,List.singleton_append];refine⟨a,LA l fuel _ _ ?_⟩;have :=CL d e b;omega
theorem Og {P:Program} {l:Array Oper} {Q:Exit->Act->World->Prop}: ∀(s:List Nat) (fuel:Nat) (listed:Array Bool) (a:Act) (w:World),wpAny P .any l Q fuel listed a w->Sch l listed s->wpOps P l Q s a w
  | [],0,_,_,_,h,_=>h.2
  | [],_+1,_,_,_,h,b=>h.1 b
  | i::s,0,_,_,_,h,b=>by have :=b.1;rw[h.1]at this;cases this
  | i::s,fuel+1,_,_,_,h,b=>by
    rw[wpOps_cons];exact wpOp_mono (λa w c=>Og s fuel _ a w c b.2) (h.2 i b.1)
structure AlikeO (l l':Array Oper):Prop where
  at_: ∀i:Nat,(l[i]?).map (fun (o:Oper)=>(o.dst,o.op,o.type,o.pos,o.guard))=(l'[i]?).map (fun (o:Oper)=>(o.dst,o.op,o.type,o.pos,o.guard))
theorem AlikeO.yielded {l l':Array Oper} (h:AlikeO l l') (tmps:Array Value):yielded l tmps=yielded l' tmps:=by
  funext j;have :=h.at_ j;unfold Go.yielded
  have e:(l[j]?).bind (·.dst)=(l'[j]?).bind (·.dst):=by
    cases a:l[j]? <;> cases b:l'[j]? <;> simp [a,b]at this⊢
    exact this.1
  rw[e]
theorem AlikeO.wpOps {P:Program} {Q:Exit->Act->World->Prop} {l l':Array Oper} (h:AlikeO l l'): ∀(s:List Nat) (a:Act) (w:World),wpOps P l' Q s a w->wpOps P l Q s a w
  | [],_,_,j=>j
  | i::s,a,w,j=>by
    rw[wpOps_cons]at j⊢;have b:=wpOp_mono (λa w=>h.wpOps s a w) j;have hi:=h.at_ i;unfold wpOp at b⊢;cases k:l[i]? with
    | none=>
      cases f:l'[i]? with
      | none=> rw[f]at b;exact b
      | some o'=> simp [k,f]at hi
    | some o=>
      cases f:l'[i]? with
      | none=> simp [k,f]at hi
      | some o'=>
        rw[f]at b;simp only at b⊢;obtain⟨d,op,ty,pos,aft,g⟩:=o;obtain⟨d',op',ty',pos',aft',g'⟩:=o';simp [k,f]at hi;obtain⟨rfl,rfl,rfl,rfl,rfl⟩:=hi;rw[h.yielded];have n: ∀ρ:Operand->Value,execOp ρ ⟨d,op,ty,pos,aft,g⟩=execOp ρ ⟨d,op,ty,pos,aft',g⟩:=by intro ρ;cases op<;>rfl
        have p:Region.wanted ⟨d,op,ty,pos,aft,g⟩ (Go.yielded l' a.tmps)=Region.wanted ⟨d,op,ty,pos,aft',g⟩ (Go.yielded l' a.tmps):=rfl;rw[p];split
        · rename_i c;rw[if_pos c]at b;rcases b with e | ⟨e,q⟩
          · left;unfold Oper.wp at e⊢;rw[n];generalize (execOp a.eval ⟨d,op,ty,pos,aft',g⟩).run P w=r at e⊢;cases r with
            | ok m w'=> cases m<;> exact e
            | halt x w'=> cases x<;> exact e
          · right;refine⟨?_,q⟩;unfold Oper.asks at e⊢;rw[n];exact e
        · rename_i c;rw[if_neg c]at b;exact b
def Rr:List Oper->Nat->Nat->List Oper
  | [],_,_=>[]
  | o::l,0,x=>{o with after:=o.after.push ⟨x,.chain⟩}::l
  | o::l,i+1,x=>o::Rr l i x
theorem U0: ∀(l:List Oper) (i x:Nat),(Rr l i x).length=l.length
  | [],_,_=>rfl
  | _::_,0,_=>rfl
  | _::l,i+1,x=>by simp [Rr,U0 l i x]
theorem TX: ∀(l:List Oper) (i x k:Nat),(Rr l i x)[k]? = if k=i then(l[k]?).map (λ(o:Oper)=>{o with after:=o.after.push ⟨x,.chain⟩})else l[k]?
  | [],i,x,k=>by simp [Rr]
  | o::l,0,x,0=>by simp [Rr]
  | o::l,0,x,k+1=>by simp [Rr]
  | o::l,i+1,x,0=>by simp [Rr]
  | o::l,i+1,x,k+1=>by simp [Rr,TX l i x k]
theorem TW {l:List Oper} {x k:Nat} :k∈Region.ready .any (Rr l i x).toArray listed↔k∈Region.ready .any l.toArray listed/\(k=i->listed.getD x false=true):=by
  rw[ML,ML];simp only[List.mem_filter,List.mem_range,List.size_toArray,U0,List.getElem?_toArray,TX,Bool.and_eq_true];by_cases e:k=i
  · subst e;simp only[if_true];cases f:l[k]? with
    | none=> simp
    | some o=> simp [Region.binds];exact⟨λ⟨a,b,c,d⟩=>⟨⟨a,b,c⟩,d⟩,λ⟨⟨a,b,c⟩,d⟩=>⟨a,b,c,d⟩⟩
  · simp [e]
theorem TY (l:List Oper) (i x:Nat):AlikeO l.toArray (Rr l i x).toArray:=⟨λk=>by
  simp only[List.getElem?_toArray,TX];split
  · cases l[k]? <;>rfl
  · rfl⟩
theorem AlikeO.trans {l l' l2:Array Oper} (h:AlikeO l l') (g:AlikeO l' l2):AlikeO l l2:=⟨λi=>(h.at_ i).trans (g.at_ i)⟩
theorem AlikeO.refl (l:Array Oper):AlikeO l l:=⟨λ_=>rfl⟩
theorem NS {l:List Oper} {i x:Nat}: ∀(s:List Nat) (listed:Array Bool),Sch l.toArray listed s->(∀p q,s=p++i::q->listed.getD x false=true\/x∈p)->Sch (Rr l i x).toArray listed s
  | [],listed,h,_=>by
    unfold Sch at h⊢;cases g:Region.ready .any (Rr l i x).toArray listed with
    | nil=>rfl
    | cons k rs=>
      have j:k∈Region.ready .any (Rr l i x).toArray listed:=by rw[g];simp
      have :=(TW.1 j).1;rw[h]at this;cases this
  | k::s,listed,h,f=>by
    obtain⟨c,m⟩:=h;refine⟨TW.2 ⟨c,λe=> ?_⟩,NS s _ m λp q e=> ?_⟩
    · subst e;rcases f [] s rfl with a | a
      · exact a
      · cases a
    · rcases f (k::p) q (by rw[e];rfl)with a | a
      · left;by_cases b:k=x
        · subst b;exact WX (G4 c).2.1
        · rw[Jh (λe=>b e.symm)];exact a
      · rcases List.mem_cons.1 a with d | d
        · subst d;exact .inl (WX (G4 c).2.1)
        · exact .inr d
theorem qeb (s:List Nat) {x y:Nat} (b:x≠y):(∀p q,s=p++y::q->x∈p)\/(∀p q,s=p++x::q->y∈p):=by
  by_cases h: ∀p q,s=p++y::q->x∈p
  · exact .inl h
  · right;obtain⟨p,d⟩:=Classical.not_forall.1 h;obtain⟨q,f⟩:=Classical.not_forall.1 d;obtain⟨e,g⟩:=Classical.not_imp.1 f;intro p' q' e';rw[e]at e';rcases List.append_eq_append_iff.1 e' with⟨r,c,a⟩ | ⟨r,c,a⟩
    · cases r with
      | nil=> simp at a;exact absurd a.1.symm b
      | cons i r=>
        simp at a;rw[c,a.1];simp
    · cases r with
      | nil=> simp at a;exact absurd a.1 b
      | cons i r=>
        simp at a;refine absurd ?_ g;rw[c,a.1];simp
section
variable {P:Program} {n:Nat} {l0 l:List Oper} {sp:List Nat} {Q:Exit→Act→World→Prop}
@[irreducible] def DrW (P:Program) (n:Nat) (l0 l:List Oper) (Q:Exit→Act→World→Prop) (L:Env) (w:World):Prop:=AlikeO l0.toArray l.toArray→ ∀s,Sch l.toArray (Array.replicate l.length false) s→ ∀a,Fr n L a→wpOps P l0.toArray Q s a w
theorem Mu (b:P.follows .mixedOrders=true) (h:DrW P n l l Q L w.drew):wc P n (.region id l.toArray true) Q L w:=by
  unfold wc;unfold DrW at h;intro a c;refine wp_region_draw λt=> ?_;simp only[Region.schedule,b,Bool.true_or,if_true];refine h (AlikeO.refl _) _ ?_ a c
  have :=LA l.toArray l.toArray.size t (Array.replicate l.length false) (by
    unfold HT;have :=List.length_filter_le (λi=> !(Array.replicate l.length false).getD i false) (List.range l.toArray.size)
    simpa using this)
  simpa [Region.linearise]using this
theorem T9 (x y:Nat) (b:Nat.beq x y=false) (g:DrW P n l0 (Rr l y x) Q L w) (i:DrW P n l0 (Rr l x y) Q L w):DrW P n l0 l Q L w:=by
  unfold DrW at *;intro c s d a f;rcases qeb s (x:=x) (y:=y) (λe=>by subst e;rw[Nat.beq_refl]at b;cases b)with h | h
  · refine g (c.trans (TY l y x)) s ?_ a f;rw[U0];exact NS s _ d λp q e=> .inr (h p q e)
  · refine i (c.trans (TY l x y)) s ?_ a f;rw[U0];exact NS s _ d λp q e=> .inr (h p q e)
theorem R1 (ord:List Nat) (d:Py l n ord sp=true) (h:VC P n l (YI l []) sp Q ord L w []):DrW P n l0 l Q L w:=by
  unfold DrW;intro f s j a g;refine f.wpOps s a w (Og s l.length _ a w ?_ j);have st:=Dp d
  have inv0:Inv P n l sp ord Q a L (Array.replicate l.length false) a w [] ord [] false:=
    { size:=by simp,closed:= λi o _ c=>(by rw[getD_replicate_false]at c;cases c),order:=rfl,vc:=h,head:=(λh=>by cases h),inD:= λi c=>(by rw[getD_replicate_false]at c;cases c),
      spD:=by simp,old:= λ_ _=>rfl,val:=by simp,quiet:=(by intro D1 r D2 e;simp at e),again:=(by intro D1 r D2 e;simp at e),ops:=by simp,tsize:=g.size,defers:=g.defers}
  obtain⟨D,suf,pf,inv⟩:=inv0.advance st
  have b:HT (Array.replicate l.length false) l.length=l.length:=by
    unfold HT;rw[List.filter_eq_self.2 (λi _=>by rw[getD_replicate_false];rfl)];simp
  exact Mw st g l.length (Array.replicate l.length false) a w D suf pf inv b
end
section
variable {P:Program} {n m l:Nat} {ops:Array Oper} {Q:Exit→Act→World→Prop} {rest:List Oper} {L:Env} {w:World} {D:List Deferred} {ty:TypeId} {pos:String} {aft:Array Edge}
def more (D:List Deferred) (a:Act):Act:={a with defers:=a.defers++D}
theorem Ud (a:Act) (d:Option Tmp) (v:Value):(more D a).put d v=more D (a.put d v):=by cases d<;>rfl
theorem BK (a:Act):(more D a).eval=a.eval:=by funext x;cases x<;>rfl
def QD (D:List Deferred) (Q:Exit->Act->World->Prop):Exit->Act->World->Prop:= λe a w=>Q e (more D a) w
theorem letsD (h:LetsOut (QD D Q)):LetsOut Q:=by obtain⟨a,w,h⟩:=h;exact⟨_,w,h⟩
theorem uponD (d: ∀a w,K a w->K' (more D a) w) {r:Result Next} (h:o.upon P a K (QD D Q) r):o.upon P (more D a) K' Q r:=by
  unfold Oper.upon at h⊢;split at h
  · rw[Ud];exact d _ _ h
  · rw[Ud];exact d _ _ h
  · have :=d _ _ h;rw[<-Ud]at this;exact this
  · refine Calls.mono h λe w' b=> ?_;cases e with
    | returned v=> dsimp only at b⊢;rw[Ud];exact d _ _ b
    | panicked c=> exact b
    | outgrown=> exact letsD b
  · refine Rows.mono h λv w' b=> ?_;rw[Ud];exact d _ _ b
  · exact h
  · exact h.elim
theorem opD (c: ∀a w,K a w->K' (more D a) w) (h:o.wp P a w K (QD D Q)\/(o.asks P a w/\LetsOut (QD D Q))):o.wp P (more D a) w K' Q\/(o.asks P (more D a) w/\LetsOut Q):=by
  rcases h with h | ⟨b,d⟩
  · refine .inl ?_;unfold Oper.wp at h⊢;rw[BK];exact uponD c h
  · refine .inr ⟨?_,letsD d⟩;unfold Oper.asks at b⊢;rw[BK];exact b
theorem qde: ∀(rest:List Oper) (a:Act) (w:World),wpList P ops (QD D Q) rest a w->wpList P ops Q rest (more D a) w
  | [],_,_,h=>h
  | o::rest,a,w,h=>by
    unfold wpList at h⊢;rw[show(more D a).tmps=a.tmps from rfl];split
    · rename_i b;rw[if_pos b]at h;exact opD (λa w=>qde rest a w) h
    · rename_i b;rw[if_neg b]at h;rw[Ud];exact qde rest _ _ h
theorem opsD: ∀(s:List Nat) (a:Act) (w:World),wpOps P ops (QD D Q) s a w->wpOps P ops Q s (more D a) w
  | [],_,_,h=>h
  | i::s,a,w,h=>by
    unfold wpOps at h⊢;cases c:ops[i]? with
    | none=> simp only[c]at h⊢;exact opsD s a w h
    | some o=>
      simp only[c]at h⊢;rw[show(more D a).tmps=a.tmps from rfl];split
      · rename_i b;rw[if_pos b]at h;exact opD (λa w=>opsD s a w) h
      · rename_i b;rw[if_neg b]at h;rw[Ud];exact opsD s _ _ h
structure FrD (D:List Deferred) (n:Nat) (L:Env) (a:Act):Prop where
  size:a.tmps.size=n
  defers:a.defers=D
  get: ∀t v,Xy L t=some v→a.tmps[t]? =some v
theorem FrD.less (h:FrD D n L a): ∃a0,Fr n L a0/\a=more D a0:=⟨{a with defers:=[]},⟨h.size,rfl,h.get⟩,by obtain⟨t,d⟩:=a;have :=h.defers;simp at this;subst this;rfl⟩
theorem Fr.more (h:Fr n L a):FrD D n L (more D a):=⟨h.size,by show a.defers++D=D;rw[h.defers];rfl,h.get⟩
theorem FrD.eval {a:Act} (h:FrD D n L a) {x:Operand} {v:Value} (b:look L x=some v):a.eval x=v:=by
  obtain⟨a0,c,rfl⟩:=h.less;rw[BK];exact c.eval b
theorem FrD.sub (h:FrD D n L a) (b:SubE L L'):FrD D n L' a:=⟨h.size,h.defers,λt v d=>h.get t v (b.get t v d)⟩
@[irreducible] def wcD (D:List Deferred) (P:Program) (n:Nat) (c:Code) (Q:Exit->Act->World->Prop) (L:Env) (w:World):Prop:= ∀a,FrD D n L a->c.wp P Q a w
@[irreducible] def qsD (D:List Deferred) (n:Nat) (Q:Exit->Act->World->Prop) (e:Exit) (L:Env) (w:World):Prop:= ∀a,FrD D n L a->Q e a w
theorem ZT (h:qsD D n Q e L w):qs n (QD D Q) e L w:=by unfold qsD at h;unfold qs;exact λa b=>h _ b.more
theorem Jo (b:SubE L L') (h:wcD D P n c Q L' w):wcD D P n c Q L w:=by unfold wcD at *;exact λa d=>h a (d.sub b)
theorem Ze (h:wcD D P n x (Exit.then (y.wp P Q) Q) L w):wcD D P n (.seq x y) Q L w:=by unfold wcD at *;exact λa b=>Go.wp_seq (h a b)
theorem XN {l:List Oper} (h:wl P n l.toArray (QD D Q) l L w):wcD D P n (.region id l.toArray false) Q L w:=by
  unfold wcD;unfold wl at h;intro a b;obtain⟨a0,c,rfl⟩:=b.less;exact Go.wp_region_lit (qde _ _ _ (h a0 c))
theorem KH {l:List Oper} (b:P.follows .mixedOrders=true) (h:DrW P n l l (QD D Q) L w.drew):wcD D P n (.region id l.toArray true) Q L w:=by
  unfold wcD;unfold DrW at h;intro a c;obtain⟨a0,d,rfl⟩:=c.less;refine wp_region_draw λt=> ?_;simp only[Region.schedule,b,Bool.true_or,if_true];refine opsD _ _ _ (h (AlikeO.refl _) _ ?_ a0 d)
  have :=LA l.toArray l.toArray.size t (Array.replicate l.length false) (by
    unfold HT;have :=List.length_filter_le (λi=> !(Array.replicate l.length false).getD i false) (List.range l.toArray.size)
    simpa using this)
  simpa [Region.linearise]using this
theorem VV (h:qsD D n Q .normal L w):wcD D P n .skip Q L w:=by unfold wcD;unfold qsD at h;exact λa b=>Go.wp_skip (h a b)
theorem Un (h:qsD D n Q .ret L w):wcD D P n .ret Q L w:=by unfold wcD;unfold qsD at h;exact λa b=>Go.wp_ret (h a b)
theorem HQ {c:Operand} (d:look L c=some (.bool t)) (f:t=true->wcD D P n x Q L w) (g:t=false->wcD D P n y Q L w):wcD D P n (.cond c x y) Q L w:=by
  unfold wcD at *;exact λa b=>Go.wp_cond_split (b.eval d) (λe=>f e a b) (λe=>g e a b)
theorem O2 {c:Operand} {p:Prop} {dp:Decidable p} (a:look L c=some (.bool (@decide p dp))) (b:p->wcD D P n x Q L w) (d: ¬p->wcD D P n y Q L w):wcD D P n (.cond c x y) Q L w:=
  HQ a (λe=>b (of_decide_eq_true e)) (λe=>d (of_decide_eq_false e))
theorem XJ (h:wcD D P n y Q L w):qsD D n (Exit.then (y.wp P Q) Q) .normal L w:=by unfold qsD;unfold wcD at h;exact λa b=>h a b
theorem Vm (h:qsD D n Q .ret L w):qsD D n (Exit.then K Q) .ret L w:=by unfold qsD at *;exact λa b=>h a b
theorem BB (h:qsD D n Q .normal L w):qsD D n (Exit.inBlock id Q) .normal L w:=by unfold qsD at *;exact λa b=>h a b
theorem Gp {x:Operand} {f:Nat} {fs cap:Array Value} (c:look L x=some (.func (.func f) fs cap)) (h:qsD [{target:= .fn (.func f) cap,args:=fs}] n Q .normal L w):wl P n ops Q [⟨none,.defer ⟨.value x, #[],ts⟩,ty,pos,aft,none⟩] L w:=by
  unfold wl;unfold qsD at h;intro a b;unfold wpList;rw[if_pos (by simp [Region.wanted])];refine .inl ?_;unfold Oper.wp
  have d:(execOp a.eval ⟨none,.defer ⟨.value x, #[],ts⟩,ty,pos,aft,none⟩).run P w= .ok (.defer {target:= .fn (.func f) cap,args:=fs}) w:=by
    simp [execOp,resolve,b.eval c,Deferred.ofValue]
  rw[d];exact h _ ⟨b.size,by show _::a.defers=_;rw[b.defers],b.get⟩
theorem GW {f:FuncId} {fn:Func} (d:P.funcs[f]? =some fn) (e:fn.body=some c) (g:fn.ntmps=n) (i:Nat.ble args.length n=true)
    (h:wc P n c (bodyPostD P fn R) (Dy 0 args) w):Calls P f args.toArray w R:=by
  have j:args.length<=n:=Xk i;unfold wc at h;refine calls_of_wp_defers d e (h _ ⟨by simp [g];omega,rfl,λt v k=> ?_⟩);obtain⟨_,a⟩:=UY args 0 t v k;simp only[Nat.sub_zero]at a;have b:=(Za a).1;rw[Array.getElem?_append_left (by simpa using b)]
  simpa using a
theorem P5 {f:FuncId} {fn:Func} {u:FrameMode} (d:P.funcs[f]? =some fn) (g:fn.body=some c) (i:fn.ntmps=n) (j:Nat.ble args.length n=true)
    (h:wc P n c (bodyPost P fn R) (Dy 0 args) w):CallsD P f args.toArray u w (λe u' w'=>u'=u/\R e w'):=by
  have k:args.length<=n:=Xk j;unfold wc at h;refine callsD_of_wp d g (h _ ⟨by simp [i];omega,rfl,λt v l=> ?_⟩);obtain⟨_,a⟩:=UY args 0 t v l;simp only[Nat.sub_zero]at a;have b:=(Za a).1;rw[Array.getElem?_append_left (by simpa using b)]
  simpa using a
theorem finE_of {fn:Func} (d:e= .normal\/e= .ret) (c: ∀a,Fr n L a->(results fn a.tmps).run P w= .ok v w) (h:R (.returned v) w):qs n (bodyPostD P fn R) e L w:=by
  unfold qs;intro a b;have hd:=b.defers;rcases d with rfl | rfl
  · show Leaves P fn a.tmps R a.defers .returning w;rw[hd];exact⟨v,c a b,h⟩
  · show Leaves P fn a.tmps R a.defers .returning w;rw[hd];exact⟨v,c a b,h⟩
theorem finE2 {fn:Func} {r c:ResultVar} (f:e= .normal\/e= .ret) (g:fn.results= #[r,c]) (i:Rw P n L w r v) (b:Rw P n L w c v2) (h:R (.returned (.tuple #[v,v2])) w):qs n (bodyPostD P fn R) e L w:=
  finE_of f (λa d=>by rw[RM,g];simp [i a d,b a d]) h
theorem Iz {fn:Func} {R0:Value->World->Prop} {f:Nat} {cap:List Value} (d:e= .normal\/e= .ret) (g:Q8 P f=true) (b:CallsD P f cap.toArray .returning w (λe u' w'=>u'= .returning/\Ret R0 e w'))
    (h: ∀v0 w',R0 v0 w'-> ∃v,(∀a,Fr n L a->(results fn a.tmps).run P w'= .ok v w')/\R (.returned v) w'):qsD [{target:= .fn (.func f) cap.toArray,args:= #[]}] n (bodyPostD P fn R) e L w:=by
  unfold qsD;intro a c;have hd:=c.defers
  have main:Leaves P fn a.tmps R a.defers .returning w:=by
    rw[hd];refine leaves_cons (f:=f) (args:=cap.toArray) (by simp) ?_ ?_
    · have :=UV g cap.toArray w;simp only[invoke]
      simpa using this
    · refine CallsD.mono b ?_;rintro e u' w' ⟨rfl,v0,rfl,i⟩;obtain⟨v,j,k⟩:=h v0 w' i;show Leaves P fn a.tmps R [] (settle .returning) w';exact⟨v,j {tmps:=a.tmps,defers:=[]} ⟨c.size,U,c.get⟩,k⟩
  rcases d with rfl | rfl<;> exact main
theorem finM {fn:Func} {B:Nat} (c:e= .normal\/e= .ret) (d:w.heap[B]? =some (.deferred (some []))) (f: ∀a,Fr n L a->(results fn a.tmps).run P (w.putObj B (.deferred none))= .ok v (w.putObj B (.deferred none))) (h:R (.returned v) (w.putObj B (.deferred none))):
    qsD [{target:= .collected B,args:= #[]}] n (bodyPostM Fence.wide 0 P fn R) e L w:=by
  unfold qsD;intro a b
  have main:LeavesInM Fence.wide 0 P fn a.tmps R a.defers .returning w:=by
    rw[b.defers];exact⟨by simp,.inl ⟨B,_,rfl,run_takeDeferred d,⟨v,f {tmps:=a.tmps,defers:=[]} ⟨b.size,rfl,b.get⟩,h⟩⟩⟩
  rcases c with rfl | rfl<;> exact main
theorem res2 {fn:Func} {t u:Nat} {x:Value} (d:fn.results= #[.tmp t,.tmp u]) (e:Xy L t=some v) (f:Xy L u=some x) (a:Act) (b:Fr n L a):(results fn a.tmps).run P w= .ok (.tuple #[v,x]) w:=by
  have :=b.get t v e;have :=b.get u x f;simp [results,d, *]
@[irreducible] def wcI (l:Nat) (P:Program) (n:Nat) (c:Code) (Q:Exit->Act->World->Prop) (L:Env) (w:World):Prop:= ∀a,Fr n L a->c.wpIn (RF l) 0 P Q a w
theorem NG (b:SubE L L') (h:wcI l P n c Q L' w):wcI l P n c Q L w:=by unfold wcI at *;exact λa d=>h a (d.sub b)
theorem DE (h:wcI l P n x (Exit.then (y.wpIn (RF l) 0 P Q) Q) L w):wcI l P n (.seq x y) Q L w:=by unfold wcI at *;exact λa b=>Go.wpIn_seq (h a b)
def noDef (o:Oper):Bool:= match o.op with | .defer _=>false | _=>true
theorem Yz {os:List Oper} (b: ¬LetsOut Q) (hd:os.all noDef=true) (h:wl P n os.toArray Q os L w):wcI l P n (.region id os.toArray false) Q L w:=by
  unfold wcI;unfold wl at h;exact λa d=>Go.wpIn_region_lit (J4 b _ _ _ (λo f c e=>by have :=List.all_eq_true.1 hd o f;unfold noDef at this;rw[e]at this;cases this) (h a d))
theorem O1 (h:wcI l P n c (Exit.inBlock id Q) L w):wcI l P n (.block id c) Q L w:=by unfold wcI at *;exact λa b=>Go.wpIn_block (h a b)
theorem qaz {c:Operand} (d:look L c=some (.bool t)) (f:t=true->wcI l P n x Q L w) (g:t=false->wcI l P n y Q L w):wcI l P n (.cond c x y) Q L w:=by
  unfold wcI at *;exact λa b=>Go.wpIn_cond_split (b.eval d) (λe=>f e a b) (λe=>g e a b)
theorem DO (h:wcI l P n y Q L w):qs n (Exit.then (y.wpIn (RF l) 0 P Q) Q) .normal L w:=by unfold qs;unfold wcI at h;exact λa b=>h a b
theorem UE (h:qs n Q .normal L w):qs n (Exit.inBlock id Q) .normal L w:=Qm h
theorem qsD_app (hd:a.defers=D) (b:a.tmps.size=n) (c: ∀t v,Xy L t=some v->a.tmps[t]? =some v) (h:qsD D n Q e L w):Q e a w:=by unfold qsD at h;exact h a ⟨b,hd,c⟩
theorem R8 {rest:List Oper} {d:Nat} {x y z:Operand} {u:Value} {R:World->Prop} (c:look L x=some (.func (.yield l) #[] #[])) (f:look L y=some v) (g:look L z=some v2) (hd:Nat.blt d n=true)
    (h:YieldAt Fence.wide 0 P l #[v,v2] w (λe w'=>e= .returned u/\R w')) (i: ∀w',R w'->wlI P n ops Q rest ((d,u)::L) w'):wlI P n ops Q (⟨some d,.call ⟨.value x, #[y,z],ts⟩,ty,pos,aft,none⟩::rest) L w:=by
  obtain⟨fn,tmps,assign,body,j,k⟩:=h;unfold wlI at *;intro a b;unfold wpListIn;rw[if_pos (by simp [Region.wanted])];refine⟨λ_ _=>trivial, ?_⟩
  have m:(execOp a.eval ⟨some d,.call ⟨.value x, #[y,z],ts⟩,ty,pos,aft,none⟩).run P w= .ok (.round l fn tmps assign body) w:=by
    simp only[execOp,resolve,b.eval c,Deferred.ofValue,invoke];simp [b.eval f,b.eval g,j]
  show Oper.uponIn _ _ _ _ _ _ _ ((Oper.semAt none a.eval _).run P w);rw[Oper.semAt_none,m];refine⟨λq=>by simp [Fence.wide]at q,k.mono λe w' ⟨o,p⟩=> ?_⟩;subst o;exact i w' p _ (b.put (some d) u hd)
theorem yieldG {t1 t2:Nat} {x1 x2:Value} {assign:Code} {L0:Env} {R:World->Prop}
    (a:w.heap[l]? =some (.loop rec)) (k:rec.state= .ready) (m:rec.pending=none) (b:rec.params= #[t1,t2]) (has:rec.assign=assign) (c:rec.body=body) (d:rec.tmps.size=n)
    (f: ∀t v,Xy L0 t=some v->rec.tmps[t]? =some v) (g:Nat.blt t1 n=true) (i:Nat.blt t2 n=true)
    (h:wcI l P n assign (Exit.then (λa₁ w₁=> ∃w₂,(Instr.beginRound l).run P w₁= .ok () w₂/\body.wpIn (RF l) 0 P (roundPost P l λe w'=>e= .returned (.bool true)/\R w') a₁ w₂) (λ_ _ _=>False)) ((t2,x2)::(t1,x1)::L0) w):
    YieldAt Fence.wide 0 P l #[x1,x2] w (λe w'=>e= .returned (.bool true)/\R w'):=by
  subst has c;unfold wcI at h;refine⟨rec.fn,(rec.tmps.setIfInBounds t1 x1).setIfInBounds t2 x2,rec.assign,rec.body, ?_,roundIn_of_wpIn trivial ?_⟩
  · have :=run_yield (P:=P) (args:= #[x1,x2]) a (by simp [b])
    simpa [b]using this
  · have j:Fr n L0 {tmps:=rec.tmps,defers:=[]}:=⟨d,rfl,f⟩;exact h _ ((j.put (some t1) x1 g).put (some t2) x2 i)
theorem OU {R:World->Prop} {Q2:Exit->Act->World->Prop} (b:w.heap[l]? =some (.loop rec)) (c:rec.state= .ready) (h:wcI l P n body (roundPost P l λe w'=>e= .returned (.bool true)/\R w') L (w.putObj l (.loop {rec with state:= .busy}))):
    qs n (Exit.then (λa₁ w₁=> ∃w₂,(Instr.beginRound l).run P w₁= .ok () w₂/\body.wpIn (RF l) 0 P (roundPost P l λe w'=>e= .returned (.bool true)/\R w') a₁ w₂) Q2) .normal L w:=by
  unfold wcI at h;unfold qs;exact λa d=>⟨_,run_beginRound b c,h a d⟩
theorem E7 {R:World->Prop} (b:w.heap[l]? =some (.loop {rec with state:= .busy})) (c:rec.state= .ready) (d:rec.pending=none) (f:R (w.putObj l (.loop rec))):qs n (roundPost P l λe w'=>e= .returned (.bool true)/\R w') .normal L w:=by
  unfold qs;intro a _;refine⟨_,_,run_endRound none b,U, ?_⟩
  have e:({{rec with state:= .busy}with state:= if(none:Option Code).isNone then .ready else .done,pending:=none}:Loop)=rec:=by
    cases rec;simp at c d;subst c d;rfl
  rw[e];exact f
end
