/- A region that draws its order, walked in one order: the operations that only look go as early as they can ('quiet'), the others ('spine') come one after the other in every order. Conditions: the rule's own hypotheses. -/
import Derived.Test.YtifaibmhinlcfaaGreatDoorWk
import Derived.StillTail
namespace Go.Proofs.YtifaibmhinlcfaaGreatDoor.M
open Go.RowKit
variable {L L0:Env} {P:Program} {S:Nat→Prop} {a a0:Act} {aft:Array Edge} {d i j t ty:Nat} {g hd want:Bool} {l:List Oper} {listed:Array Bool} {o:Oper} {op:Op} {ord q suf:List Nat} {v:Value} {w w2:World} {x:Operand}
def YI:List Oper->List Nat->List Nat
  | [],acc=>acc
  | o::l,acc=>YI l (acc++[o.after.toList.foldl (λs e=>bif Region.binds .any e then s ||| (2^e.on ||| acc.getD e.on 0)else s) 0])
def anc (M:List Nat) (j i:Nat):Bool:=(M.getD i 0).testBit j
theorem Fb (acc:List Nat) (j:Nat): ∀(es:List Edge) (s:Nat),(es.foldl (λs e=>bif Region.binds .any e then s ||| (2^e.on ||| acc.getD e.on 0)else s) s).testBit j=true->
    s.testBit j=true\/ ∃e∈es,Region.binds .any e=true/\(e.on=j\/(acc.getD e.on 0).testBit j=true)
  | [],s,h=> .inl h
  | e::es,s,h=>by
    simp only[List.foldl_cons]at h;rcases Fb acc j es _ h with a | ⟨e',c,a⟩
    · cases b:Region.binds .any e with
      | false=> rw[b]at a;exact .inl a
      | true=>
        rw[b]at a;simp only[cond_true,Nat.testBit_or,Bool.or_eq_true,Nat.testBit_two_pow,decide_eq_true_eq]at a;rcases a with a | a | a
        · exact .inl a
        · exact .inr ⟨e,by simp,b,.inl a⟩
        · exact .inr ⟨e,by simp,b,.inr a⟩
    · exact .inr ⟨e',by simp [c],a⟩
theorem BL: ∀(l:List Oper) (acc:List Nat) (pre:List Oper),acc.length=pre.length->
    (∀i o,pre[i]? =some o-> ∀j,(acc.getD i 0).testBit j=true-> ∃e∈o.after.toList,Region.binds .any e=true/\(e.on=j\/(e.on<i/\(acc.getD e.on 0).testBit j=true)))->
    ∀i o,(pre++l)[i]? =some o-> ∀j,((YI l acc).getD i 0).testBit j=true-> ∃e∈o.after.toList,Region.binds .any e=true/\(e.on=j\/(e.on<i/\((YI l acc).getD e.on 0).testBit j=true))
  | [],acc,pre,_,h=>by simpa [YI]using h
  | q::l,acc,pre,n,h=>by
    simp only[YI];have :=BL l (acc++[q.after.toList.foldl (λs e=>bif Region.binds .any e then s ||| (2^e.on ||| acc.getD e.on 0)else s) 0]) (pre++[q]) (by simp [n]) ?_
    · simpa using this
    · intro i o hi j a;rcases Nat.lt_trichotomy i pre.length with g | g | g
      · rw[List.getElem?_append_left g]at hi
        have b:(acc++[q.after.toList.foldl (λs e=>bif Region.binds .any e then s ||| (2^e.on ||| acc.getD e.on 0)else s) 0]).getD i 0=acc.getD i 0:=by
          simp only[List.getD_eq_getElem?_getD];rw[List.getElem?_append_left (by omega)]
        rw[b]at a;obtain⟨e,c,d,f⟩:=h i o hi j a;refine⟨e,c,d,f.imp id λ⟨x,y⟩=>⟨x, ?_⟩⟩;simp only[List.getD_eq_getElem?_getD]at y⊢;rw[List.getElem?_append_left (by omega)];exact y
      · subst g;simp at hi;subst hi
        have b:(acc++[q.after.toList.foldl (λs e=>bif Region.binds .any e then s ||| (2^e.on ||| acc.getD e.on 0)else s) 0]).getD pre.length 0=q.after.toList.foldl (λs e=>bif Region.binds .any e then s ||| (2^e.on ||| acc.getD e.on 0)else s) 0:=by
          simp only[List.getD_eq_getElem?_getD];rw[<-n,List.getElem?_append_right (Nat.le_refl _)];simp
        rw[b]at a;rcases Fb acc j _ _ a with p | ⟨e,c,d,f⟩
        · simp at p
        · refine⟨e,c,d,f.imp id λy=> ?_⟩
          have k:e.on<acc.length:=by
            rcases Nat.lt_or_ge e.on acc.length with m | m
            · exact m
            · simp [List.getD_eq_getElem?_getD,List.getElem?_eq_none m]at y
          refine⟨by omega, ?_⟩;simp only[List.getD_eq_getElem?_getD]at y⊢;rw[List.getElem?_append_left k];exact y
      · rw[List.getElem?_eq_none (by simp;omega)]at hi;cases hi
theorem qgc (f: ∀i o,l[i]? =some o->S i-> ∀e∈o.after.toList,Region.binds .any e=true->S e.on):
    ∀i o j,l[i]? =some o->S i->anc (YI l []) j i=true->S j:=by
  intro i
  induction i using Nat.strongRecOn with
  | _ i ih=>
    intro o j hi g h;obtain⟨e,k,m,a⟩:=BL l [] [] rfl (by simp) i o (by simpa using hi) j h;have d:=f i o hi g e k m;rcases a with rfl | ⟨b,a⟩
    · exact d
    · have c:e.on<l.length:=by have :=(Za hi).1;omega
      exact ih e.on b l[e.on] j (XQ c) d a
theorem Rl (d: ∀i o,l[i]? =some o->S i-> ∀e∈o.after.toList,Region.binds .any e=true->S e.on)
    (hi:l[i]? =some o) (f: ∀e∈o.after.toList,Region.binds .any e=true->S e.on) (g:anc (YI l []) j i=true):S j:=by
  obtain⟨e,h,k,a⟩:=BL l [] [] rfl (by simp) i o (by simpa using hi) j g;have c:=f e h k;rcases a with rfl | ⟨m,a⟩
  · exact c
  · have b:e.on<l.length:=by have :=(Za hi).1;omega
    exact qgc d e.on l[e.on] j (XQ b) c a
def gTmp (l:List Oper) (o:Oper):Option Nat:= match o.guard with | some (j,_)=>(l[j]?).bind (·.dst) | none=>none
def YN (l:List Oper) (L:Env) (o:Oper):Option Bool:= match o.guard with
  | none=>some true
  | some (j,want)=> match(l[j]?).bind (·.dst)with
    | some t=> match Xy L t with
      | some (.bool b)=>some (b==want)
      | some (.tuple _)=>some false
      | _=>none
    | none=>none
theorem QI {d:Option Nat} {ty:TypeId} {pos:String} (a:(l[j]?).bind (·.dst)=some t) (b:Xy L t=some (.bool g)) (c:g=want):YN l L ⟨d,op,ty,pos,aft,some (j,want)⟩=some true:=by
  subst c;simp [YN,a,b]
theorem Wc {d:Option Nat} {ty:TypeId} {pos:String} (a:(l[j]?).bind (·.dst)=some t) (b:Xy L t=some (.bool g)) (c:g= !want):YN l L ⟨d,op,ty,pos,aft,some (j,want)⟩=some false:=by
  subst c;cases want<;> simp [YN,a,b]
def Ev' (P:Program) (l:List Oper) (L:Env) (w:World) (o:Oper) (v:Value):Prop:=(YN l L o=some true/\Ev P L w o v)\/(YN l L o=some false/\v=undef)
structure Fl where
  i:Nat
  o:Oper
  L:Env
  v:Value
variable {fs pf:List Fl}
inductive Again (P:Program) (l:List Oper) (M:List Nat) (i:Nat) (w:World):List Fl→Prop
  | nil:Again P l M i w []
  | skip {f:Fl} {fs:List Fl} (h:anc M f.i i=true) (r:Again P l M i w fs):Again P l M i w (f::fs)
  | cons {f:Fl} {fs:List Fl} (h:Ev' P l f.L w f.o f.v) (r:Again P l M i w fs):Again P l M i w (f::fs)
theorem Again.get {M:List Nat} (h:Again P l M i w fs): ∀f∈fs,anc M f.i i=true\/Ev' P l f.L w f.o f.v:=by
  induction h with
  | nil=> simp
  | skip h _ ih=> intro f a;rcases List.mem_cons.1 a with rfl | a;exact .inl h;exact ih f a
  | cons h _ ih=> intro f a;rcases List.mem_cons.1 a with rfl | a;exact .inr h;exact ih f a
def OpEv (L:Env) (o:Oper) (a:Act):Prop:= ∀x∈o.op.operands,∀u,look L x=some u->a.eval x=u
def Spine (P:Program) (o:Oper) (L:Env) (w:World) (R:Value->World->Prop):Prop:= ∀a,OpEv L o a->o.wp P a w (λa' w2=> ∃v,a'=a.put o.dst v/\R v w2) (λ_ _ _=>False)
def YM (sp:List Nat) (i:Nat):Bool:=sp.contains i
inductive VC (P:Program) (n:Nat) (l:List Oper) (M:List Nat) (sp:List Nat) (Q:Exit→Act→World→Prop):List Nat→Env→World→List Fl→Prop
  | nil {L:Env} {w:World} {pf:List Fl} (h:qs n Q .normal L w):VC P n l M sp Q [] L w pf
  | pure {i:Nat} {ord:List Nat} {L:Env} {w:World} {pf:List Fl} {o:Oper} {v:Value} (ho:l[i]? =some o) (hs:YM sp i=false) (h: ∀w,Ev' P l L w o v) (r:VC P n l M sp Q ord (pd o.dst v L) w pf):VC P n l M sp Q (i::ord) L w pf
  | quiet {i:Nat} {ord:List Nat} {L:Env} {w:World} {pf:List Fl} {o:Oper} {v:Value} (ho:l[i]? =some o) (hs:YM sp i=false) (h:Ev' P l L w o v) (r:VC P n l M sp Q ord (pd o.dst v L) w (⟨i,o,L,v⟩::pf)):VC P n l M sp Q (i::ord) L w pf
  | spine {i:Nat} {ord:List Nat} {L:Env} {w:World} {pf:List Fl} {o:Oper} {R:Value→World→Prop} (ho:l[i]? =some o) (hs:YM sp i=true) (hg:YN l L o=some true) (h:(∃a,Fr n L a)→Spine P o L w R) (ha: ∀v w2,R v w2→Again P l M i w2 pf) (r: ∀v w2,R v w2→VC P n l M sp Q ord (pd o.dst v L) w2 pf):VC P n l M sp Q (i::ord) L w pf
  | spineNot {i:Nat} {ord:List Nat} {L:Env} {w:World} {pf:List Fl} {o:Oper} (ho:l[i]? =some o) (hs:YM sp i=true) (hg:YN l L o=some false) (r:VC P n l M sp Q ord (pd o.dst undef L) w pf):VC P n l M sp Q (i::ord) L w pf
structure Rc where
  i:Nat
  o:Oper
  v:Value
variable {D:List Rc}
def Yj (L0:Env):List Rc->Env
  | []=>L0
  | r::D=>pd r.o.dst r.v (Yj L0 D)
def B4 (l:List Oper) (o:Oper):List Nat:=(gTmp l o).toList++o.op.operands.toList.filterMap fun | .tmp t=>some t | _=>none
def okOp (l:List Oper) (M:List Nat) (n:Nat) (i:Nat):Bool:= match l[i]? with
  | some o=>(match o.op with | .select .. =>false | _=>true)&&(match o.dst with | some d=>Nat.blt d n | none=>true)&&
      (List.range l.length).all (λm=>Nat.beq m i || (match l[m]? with | some q=>(match q.dst with | some t=> !(B4 l o).contains t || anc M m i || anc M i m | none=>true) | none=>true))
  | none=>false
def asap (M:List Nat) (sp:List Nat):Option Nat->List Nat->Bool
  | _,[]=>true
  | last,i::ord=>(match last with | some s=>anc M s i | none=>true)&&asap M sp (bif YM sp i then some i else last) ord
def topo (l:List Oper):List Nat->List Nat->Bool
  | _,[]=>true
  | pre,i::ord=>(match l[i]? with | some o=>o.after.toList.all (λe=> !Region.binds .any e || pre.contains e.on) | none=>false)&&topo l (i::pre) ord
def Py (l:List Oper) (n:Nat) (ord sp:List Nat):Bool:=
  let M:=YI l []
  (List.range l.length).all (λi=>ord.contains i)&&ord.all (λi=>Nat.blt i l.length)&&decide (ord.Nodup)&&decide ((l.filterMap (·.dst)).Nodup)&&(List.range l.length).all (okOp l M n)&&asap M sp none ord&&topo l [] ord
theorem KK {l:List Oper}: ∀(ord pre:List Nat),topo l pre ord=true-> ∀p i q,ord=p++i::q-> ∀o,l[i]? =some o-> ∀e∈o.after.toList,Region.binds .any e=true->e.on∈pre\/e.on∈p
  | [],pre,h,p,i,q,a,_,_,_,_,_=>by simp at a
  | k::ord,pre,h,p,i,q,a,o,d,e,b,f=>by
    simp only[topo,Bool.and_eq_true]at h;obtain⟨g,j⟩:=h;cases p with
    | nil=>
      simp at a;obtain⟨rfl,rfl⟩:=a;rw[d]at g;have :=List.all_eq_true.1 g e b;simp [f]at this;exact .inl this
    | cons p0 p=>
      simp at a;obtain⟨rfl,rfl⟩:=a;rcases KK _ _ j p i q rfl o d e b f with c | c
      · rcases List.mem_cons.1 c with rfl | c
        · exact .inr (by simp)
        · exact .inl c
      · exact .inr (by simp [c])
theorem Si (h:topo l [] ord=true) {p:List Nat} (f:ord=p++i::q) (g:l[i]? =some o) (m:anc (YI l []) j i=true):j∈p:=by
  refine Rl (S:= λx=>x∈p) ?_ g (λe a c=> ?_) m
  · intro k ok n d e a c;obtain⟨p1,p2,rfl⟩:=List.append_of_mem d;rcases KK ord [] h p1 k (p2++i::q) (by simp [f]) ok n e a c with b | b
    · cases b
    · simp [b]
  · rcases KK ord [] h p i q f o g e a c with b | b
    · cases b
    · exact b
theorem HO {L0:Env} {t:Nat}: ∀(D:List Rc),(D.filterMap (·.o.dst)).Nodup->(∀r∈D,r.o.dst=some t->Xy (Yj L0 D) t=some r.v)/\((∀r∈D,r.o.dst≠some t)->Xy (Yj L0 D) t=Xy L0 t)
  | [],_=>⟨by simp,λ_=>rfl⟩
  | q::D,c=>by
    cases hd:q.o.dst with
    | none=>
      rw[List.filterMap_cons_none (f:= λx:Rc=>x.o.dst) hd]at c;have ih:=HO (L0:=L0) (t:=t) D c;simp only[Yj,hd,pd];refine⟨λr a b=> ?_,λh=>ih.2 λr a=>h r (by simp [a])⟩;rcases List.mem_cons.1 a with rfl | a
      · rw[hd]at b;cases b
      · exact ih.1 r a b
    | some d=>
      rw[List.filterMap_cons_some (f:= λx:Rc=>x.o.dst) hd]at c;obtain⟨g,i⟩:=List.nodup_cons.1 c;have ih:=HO (L0:=L0) (t:=t) D i;simp only[Yj,hd,pd,Xy];refine⟨λr a b=> ?_,λh=> ?_⟩
      · rcases List.mem_cons.1 a with rfl | a
        · rw[hd]at b;cases b;rw[Nat.beq_refl];rfl
        · have :d≠t:= λe=>by subst e;exact g (List.mem_filterMap.2 ⟨r,a,b⟩)
          have j:Nat.beq d t=false:=by cases k:Nat.beq d t with | false=>rfl | true=> exact absurd (Nat.eq_of_beq_eq_true k) this
          rw[j];exact ih.1 r a b
      · have :d≠t:= λe=>by subst e;exact h q (by simp) hd
        have j:Nat.beq d t=false:=by cases k:Nat.beq d t with | false=>rfl | true=> exact absurd (Nat.eq_of_beq_eq_true k) this
        rw[j];exact ih.2 λr a=>h r (by simp [a])
theorem Ev.at (h:Ev P L w o v) (d: ∀cs b,o.op≠ .select cs b) (e:OpEv L o a):(execOp a.eval o).run P w= .ok (.value v) w:=by
  rw[execOp_congr o d (ρ':= λx=>(look L x).getD (a.eval x)) (λx c=>by
    cases f:look L x with
    | none=>rfl
    | some u=> exact e x c u f)]
  exact h _ λx u c=>by simp [c]
section
variable {P:Program} {n:Nat} {l:List Oper} {sp:List Nat} {Q:Exit→Act→World→Prop}
structure Inv (P:Program) (n:Nat) (l:List Oper) (sp ord:List Nat) (Q:Exit→Act→World→Prop) (a0:Act) (L0:Env) (listed:Array Bool) (a:Act) (w:World) (D:List Rc) (suf:List Nat) (pf:List Fl) (hd:Bool):Prop where
  size:listed.size=l.length
  closed: ∀i o,l[i]? =some o→listed.getD i false=true→ ∀e∈o.after.toList,Region.binds .any e=true→listed.getD e.on false=true
  order:ord=(D.map (·.i)).reverse++suf
  vc:VC P n l (YI l []) sp Q suf (Yj L0 D) w pf
  head:hd=true→suf=[]∨ ∃s q,suf=s::q∧YM sp s=true
  inD: ∀i,listed.getD i false=true→i∈D.map (·.i)
  spD: ∀r∈D,YM sp r.i=true→listed.getD r.i false=true
  old: ∀t,(∀r∈D,listed.getD r.i false=true→r.o.dst≠some t)→a.tmps[t]? =a0.tmps[t]?
  val: ∀r∈D,listed.getD r.i false=true→ ∀t,r.o.dst=some t→a.tmps[t]? =some r.v
  quiet: ∀D1 r D2,D=D1++r::D2→listed.getD r.i false=false→Ev' P l (Yj L0 D2) w r.o r.v
  again: ∀D1 r D2,D=D1++r::D2→YM sp r.i=false→(∀w,Ev' P l (Yj L0 D2) w r.o r.v)∨(⟨r.i,r.o,Yj L0 D2,r.v⟩:Fl)∈pf
  ops: ∀r∈D,l[r.i]? =some r.o
  tsize:a.tmps.size=n
  defers:a.defers=[]
structure Stat (l:List Oper) (n:Nat) (ord sp:List Nat):Prop where
  all: ∀i,i<l.length→i∈ord
  lt: ∀i∈ord,i<l.length
  nodup:ord.Nodup
  dst:(l.filterMap (·.dst)).Nodup
  okOp: ∀i,i<l.length→okOp l (YI l []) n i=true
  asap:asap (YI l []) sp none ord=true
  topo:topo l [] ord=true
theorem Dp (h:Py l n ord sp=true):Stat l n ord sp:=by
  simp only[Py,Bool.and_eq_true,decide_eq_true_eq,List.all_eq_true,List.mem_range,List.contains_iff_mem]at h;obtain⟨⟨⟨⟨⟨⟨a,b⟩,c⟩,d⟩,e⟩,f⟩,g⟩:=h;exact⟨a,λi hi=>by have :=b i hi;simpa [Nat.blt_eq]using this,c,d,e,f,g⟩
theorem KS (h:okOp l (YI l []) n i=true) (g:l[i]? =some o):(∀cs b,o.op≠ .select cs b)/\(match o.dst with | some d=>Nat.blt d n | none=>true)=true/\True/\
    ∀m q t,l[m]? =some q->q.dst=some t->t∈B4 l o->m=i\/anc (YI l []) m i=true\/anc (YI l []) i m=true:=by
  unfold okOp at h;rw[g]at h;simp only[Bool.and_eq_true,List.all_eq_true,List.mem_range,Bool.or_eq_true]at h;obtain⟨⟨c,j⟩,k⟩:=h;refine⟨(λcs b e=>by rw[e]at c;cases c),j,trivial,λm q t f p r=> ?_⟩
  · have a:=(Za f).1;have :=k m a;rcases this with h | h
    · exact .inl (Nat.eq_of_beq_eq_true h)
    · rw[f]at h;simp only[p]at h;have s:(B4 l o).contains t=true:=by simpa using r
      rw[s]at h;simp at h;exact .inr h
theorem GU: ∀{l:List Oper},(l.filterMap (·.dst)).Nodup-> ∀{i j:Nat} {x y:Oper} {t:Nat},l[i]? =some x->l[j]? =some y->x.dst=some t->y.dst=some t->i=j
  | [],_,i,_,_,_,_,hi,_,_,_=>by simp at hi
  | z::zs,hd,i,j,x,y,t,hi,a,b,c=>by
    cases e:z.dst with
    | none=>
      rw[List.filterMap_cons_none e]at hd;cases i with
      | zero=> simp at hi;subst hi;rw[e]at b;cases b
      | succ i=>
        cases j with
        | zero=> simp at a;subst a;rw[e]at c;cases c
        | succ j=> simp at hi a;exact congrArg (· +1) (GU hd hi a b c)
    | some d=>
      rw[List.filterMap_cons_some e]at hd;obtain⟨f,g⟩:=List.nodup_cons.1 hd;cases i with
      | zero=>
        simp at hi;subst hi;cases j with
        | zero=>rfl
        | succ j=>
          simp at a;rw[e]at b;cases b;exact absurd (List.mem_filterMap.2 ⟨y,List.mem_of_getElem? a,c⟩) f
      | succ i=>
        simp at hi;cases j with
        | zero=>
          simp at a;subst a;rw[e]at c;cases c;exact absurd (List.mem_filterMap.2 ⟨x,List.mem_of_getElem? hi,b⟩) f
        | succ j=> simp at a;exact congrArg (· +1) (GU g hi a b c)
theorem RQ (st:Stat l n ord sp) (inv:Inv P n l sp ord Q a0 L0 listed a w D suf pf hd) (M:Fr n L0 a0)
    (I:l[i]? =some o) (B:listed.getD i false=false) (y: ∀e∈o.after.toList,Region.binds .any e=true->listed.getD e.on false=true)
    {D1 D2:List Rc} (J:D=D1++D2) (z:ord=(D2.map (·.i)).reverse++i::q):OpEv (Yj L0 D2) o a/\ ∀t,gTmp l o=some t-> ∀u,Xy (Yj L0 D2) t=some u->a.tmps[t]? =some u:=by
  have N:=(Za I).1
  have m:(D2.filterMap (·.o.dst)).Nodup:=by
    have k: ∀r∈D2,l[r.i]? =some r.o:= λr y=>inv.ops r (by rw[J];simp [y])
    have O:(D2.map (·.i)).Nodup:=by
      have :=st.nodup;rw[z]at this;have :=(List.nodup_append.1 this).1;exact(List.reverse_perm _).nodup_iff.1 this
    clear z J y inv
    induction D2 with
    | nil=> simp
    | cons r D2 ih=>
      obtain⟨R,S⟩:=List.nodup_cons.1 O;have ih':=ih (λr y=>k r (by simp [y])) S;cases hd:r.o.dst with
      | none=> rw[List.filterMap_cons_none (f:= λx:Rc=>x.o.dst) hd];exact ih'
      | some d=>
        rw[List.filterMap_cons_some (f:= λx:Rc=>x.o.dst) hd];refine List.nodup_cons.2 ⟨λhm=> ?_,ih'⟩;obtain⟨A,b,T⟩:=List.mem_filterMap.1 hm;have :=GU st.dst (k r (by simp)) (k A (by simp [b])) hd T;exact R (List.mem_map.2 ⟨A,b,this.symm⟩)
  have main: ∀t,t∈B4 l o-> ∀u,Xy (Yj L0 D2) t=some u->a.tmps[t]? =some u:=by
    intro t K u C;obtain⟨_,_,_,E⟩:=KS (st.okOp i N) I;by_cases F: ∃r∈D2,r.o.dst=some t
    · obtain⟨r,b,j⟩:=F;have h:r∈D:=by rw[J];simp [b]
      have V:r.i≠i:= λe=>by
        have :=st.nodup;rw[z]at this;have :=(List.nodup_append.1 this).2.2 r.i (by simp;exact⟨r,b,rfl⟩) i (by simp);exact this e
      have W:u=r.v:=by have :=(HO (L0:=L0) D2 m).1 r b j;rw[C]at this;exact Option.some.inj this
      subst W;rcases E r.i r.o t (inv.ops r h) j K with e | e | e
      · exact absurd e V
      · exact inv.val r h (Rl inv.closed I y e) t j
      · exfalso;obtain⟨p1,p2,G⟩:=List.append_of_mem (show r.i∈(D2.map (·.i)).reverse by simp;exact⟨r,b,rfl⟩);have X:=Si st.topo (p:=p1) (q:=p2++i::q) (i:=r.i) (by rw[z,G];simp) (inv.ops r h) e;have :=st.nodup;rw[z]at this;have :=(List.nodup_append.1 this).2.2 i (by rw[G];simp [X]) i (by simp);exact this U
    · have H: ∀r∈D2,r.o.dst≠some t:= λr b e=>F ⟨r,b,e⟩;have Y:=(HO (L0:=L0) D2 m).2 H;rw[C]at Y;have X:a0.tmps[t]? =some u:=M.get t u Y.symm;rw[<-X];refine inv.old t λr h s j=> ?_;rcases E r.i r.o t (inv.ops r h) j K with e | e | e
      · rw[e,B]at s;cases s
      · have Z:=Si st.topo z I e;simp at Z;obtain⟨A,b,he⟩:=Z;have :A.o=r.o:=by have h3:=inv.ops A (by rw[J];simp [b]);rw[he,inv.ops r h]at h3;exact(Option.some.inj h3).symm
        exact H A b (by rw[this];exact j)
      · have :=qgc inv.closed r.i r.o i (inv.ops r h) s e;rw[B]at this;cases this
  refine⟨λx hx u L=> ?_,λt K u hu=>main t (by simp [B4,K]) u hu⟩;cases x with
  | const c=>simpa [look,Act.eval]using L
  | global g=>simpa [look,Act.eval]using L
  | func f=>simpa [look,Act.eval]using L
  | tmp t=> have :=main t (by unfold B4;exact List.mem_append.2 (.inr (List.mem_filterMap.2 ⟨.tmp t,by simpa using hx,rfl⟩))) u L;simp [Act.eval,this]
theorem Inv.fresh (st:Stat l n ord sp) (inv:Inv P n l sp ord Q a0 L0 listed a w D (i::suf) pf hd):listed.getD i false=false:=by
  cases c:listed.getD i false with
  | false=>rfl
  | true=>
    have b:=inv.inD i c;have :=st.nodup;rw[inv.order]at this;exact absurd U ((List.nodup_append.1 this).2.2 i (by simp at b⊢;exact b) i (by simp))
theorem Inv.push {pf':List Fl} (st:Stat l n ord sp) (inv:Inv P n l sp ord Q a0 L0 listed a w D (i::suf) pf hd) (q:l[i]? =some o) (s:YM sp i=false) (h:Ev' P l (Yj L0 D) w o v)
    (g:(∀w,Ev' P l (Yj L0 D) w o v)\/(⟨i,o,Yj L0 D,v⟩:Fl)∈pf') (k: ∀f∈pf,f∈pf') (m:VC P n l (YI l []) sp Q suf (pd o.dst v (Yj L0 D)) w pf'):Inv P n l sp ord Q a0 L0 listed a w (⟨i,o,v⟩::D) suf pf' false:=by
  have p:=inv.fresh st;refine{size:=inv.size,closed:=inv.closed,order:=by rw[inv.order];simp,vc:=m,head:=(by intro h;cases h),inD:= λj u=>by simp;exact .inr (by simpa using inv.inD j u),spD:= ?_,old:= ?_,val:= ?_,quiet:= ?_,again:= ?_,ops:= ?_,tsize:=inv.tsize,defers:=inv.defers}
  · intro r b c;rcases List.mem_cons.1 b with rfl | b
    · rw[s]at c;cases c
    · exact inv.spD r b c
  · intro t y;exact inv.old t λr b=>y r (by simp [b])
  · intro r b d;rcases List.mem_cons.1 b with rfl | b
    · rw[p]at d;cases d
    · exact inv.val r b d
  · intro D1 r D2 e d;cases D1 with
    | nil=> simp at e;obtain⟨rfl,rfl⟩:=e;exact h
    | cons x D1=> simp at e;exact inv.quiet D1 r D2 e.2 d
  · intro D1 r D2 e d;cases D1 with
    | nil=> simp at e;obtain⟨rfl,rfl⟩:=e;exact g
    | cons x D1=>
      simp at e;exact(inv.again D1 r D2 e.2 d).imp id (k _)
  · intro r b;rcases List.mem_cons.1 b with rfl | b
    · exact q
    · exact inv.ops r b
theorem Inv.advance {ord:List Nat} {a0:Act} {L0:Env} {listed:Array Bool} {a:Act} {w:World} (st:Stat l n ord sp): ∀(suf:List Nat) (D:List Rc) (pf:List Fl),Inv P n l sp ord Q a0 L0 listed a w D suf pf false-> ∃D' suf' pf',Inv P n l sp ord Q a0 L0 listed a w D' suf' pf' true
  | [],D,pf,inv=>⟨D,[],pf,{inv with head:= λ_=> .inl rfl}⟩
  | i::suf,D,pf,inv=>by
    have d:=inv.vc;cases d with
    | pure c b h r=> exact Inv.advance st suf _ pf (inv.push st c b (h w) (.inl h) (λ_ e=>e) r)
    | quiet c b h r=> exact Inv.advance st suf _ _ (inv.push st c b h (.inr (by simp)) (λ_ e=>by simp [e]) r)
    | spine c b f h g r=> exact⟨D,i::suf,pf,{inv with head:= λ_=> .inr ⟨i,suf,rfl,b⟩}⟩
    | spineNot c b f r=> exact⟨D,i::suf,pf,{inv with head:= λ_=> .inr ⟨i,suf,rfl,b⟩}⟩
theorem WX (h:i<listed.size):(listed.setIfInBounds i true).getD i false=true:=by simp [h]
theorem Jh {k:Nat} (h:k≠i):(listed.setIfInBounds i true).getD k false=listed.getD k false:=by
  simp only[Array.getD_eq_getD_getElem?];rw[Array.getElem?_setIfInBounds_ne (λe=>h e.symm)]
def HT (listed:Array Bool) (n:Nat):Nat:=((List.range n).filter λi=> !listed.getD i false).length
theorem CL {n:Nat} (c:i<n) (a:i<listed.size) (b:listed.getD i false=false):HT (listed.setIfInBounds i true) n+1=HT listed n:=by
  unfold HT
  induction n with
  | zero=>omega
  | succ n ih=>
    rw[List.range_succ,List.filter_append,List.filter_append,List.length_append,List.length_append];by_cases hi:i=n
    · subst hi
      have d:(List.range i).filter (λj=> !(listed.setIfInBounds i true).getD j false)=(List.range i).filter (λj=> !listed.getD j false):=by
        apply List.filter_congr;intro j e;have f:=List.mem_range.1 e;rw[Jh (by omega)]
      rw[d];simp only[List.filter_cons,WX a,b,List.filter_nil];rfl
    · have :=ih (by omega);simp only[List.filter_cons,Jh (Ne.symm hi),List.filter_nil]at this⊢;omega
theorem Bo (a:Act) (d:Option Nat) (v:Value) (t:Nat):(a.put d v).tmps[t]? = if d=some t/\t<a.tmps.size then some v else a.tmps[t]? :=by
  cases d with
  | none=> simp [Act.put]
  | some d=>
    simp only[Act.put,Array.getElem?_setIfInBounds];by_cases e:d=t
    · subst e;by_cases h:d<a.tmps.size
      · simp [h]
      · simp [h,Array.getElem?_eq_none (Nat.le_of_not_lt h)]
    · simp [e]
theorem Inv.list {D':List Rc} {suf':List Nat} (st:Stat l n ord sp) (inv:Inv P n l sp ord Q a0 L0 listed a w D suf pf hd)
    (F:l[i]? =some o) (V:listed.getD i false=false) (c: ∀e∈o.after.toList,Region.binds .any e=true->listed.getD e.on false=true) (K: ∀r∈D',r.i=i->r.v=v) (p: ∃r∈D',r.i=i) (u: ∀r∈D,r∈D') (x: ∀r∈D',r∈D\/r.i=i) (g: ∀r∈D',l[r.i]? =some r.o)
    (m:ord=(D'.map (·.i)).reverse++suf') (L:VC P n l (YI l []) sp Q suf' (Yj L0 D') w2 pf) (W: ∀D1 r D2,D'=D1++r::D2->listed.getD r.i false=false->r.i≠i->Ev' P l (Yj L0 D2) w2 r.o r.v)
    (M: ∀D1 r D2,D'=D1++r::D2->YM sp r.i=false->(∀w,Ev' P l (Yj L0 D2) w r.o r.v)\/(⟨r.i,r.o,Yj L0 D2,r.v⟩:Fl)∈pf) {G:Bool} (B:G=true->suf'=[]\/ ∃s q,suf'=s::q/\YM sp s=true):
    Inv P n l sp ord Q a0 L0 (listed.setIfInBounds i true) (a.put o.dst v) w2 D' suf' pf G:=by
  have H:i<l.length:=(Za F).1;have d:i<listed.size:=by rw[inv.size];exact H
  have b: ∀k,listed.getD k false=true->(listed.setIfInBounds i true).getD k false=true:= λk f=>by
    by_cases e:k=i
    · subst e;exact WX d
    · rw[Jh e];exact f
  have j: ∀k,(listed.setIfInBounds i true).getD k false=true->k=i\/listed.getD k false=true:= λk f=>by
    by_cases e:k=i
    · exact .inl e
    · rw[Jh e]at f;exact .inr f
  have y: ∀r∈D',r.i=i->r.o=o:= λr c e=>by have :=g r c;rw[e,F]at this;exact(Option.some.inj this).symm
  have I:=(KS (st.okOp i H) F).2.1;refine{size:=by simpa using inv.size,closed:= ?_,order:=m,vc:=L,head:=B,inD:= ?_,spD:= ?_,old:= ?_,val:= ?_,quiet:= ?_,again:=M,ops:=g,tsize:= ?_,defers:= ?_}
  · intro k q f C e R S;rcases j k C with rfl | C
    · rw[F]at f;cases f;exact b _ (c e R S)
    · exact b _ (inv.closed k q f C e R S)
  · intro k f;rcases j k f with rfl | f
    · obtain⟨r,c,e⟩:=p;exact List.mem_map.2 ⟨r,c,e⟩
    · obtain⟨r,c,e⟩:=List.mem_map.1 (inv.inD k f);exact List.mem_map.2 ⟨r,u r c,e⟩
  · intro r c X;rcases x r c with h | h
    · exact b _ (inv.spD r h X)
    · rw[h];exact WX d
  · intro t z;rw[Bo];obtain⟨T,J,U⟩:=p
    have E:o.dst≠some t:=by
      have :=z T J (by rw[U];exact WX d)
      rwa [y T J U]at this
    rw[if_neg (λh=>E h.1)];exact inv.old t λr c A=>z r (u r c) (b _ A)
  · intro r c A t z;rw[Bo];by_cases e:r.i=i
    · rw[y r c e]at z;rw[z]at I;have :t<n:=by simpa [Nat.blt_eq]using I
      rw[if_pos ⟨z,by rw[inv.tsize];exact this⟩,K r c e]
    · have N:r∈D:=(x r c).resolve_right e;have O:listed.getD r.i false=true:=(j _ A).resolve_left e;have E:o.dst≠some t:= λh=>e (GU st.dst (g r c) F z h);rw[if_neg (λh=>E h.1)];exact inv.val r N O t z
  · intro D1 r D2 e A;by_cases hi:r.i=i
    · rw[hi,WX d]at A;cases A
    · rw[Jh hi]at A;exact W D1 r D2 e A hi
  · cases hd:o.dst<;> simp [Act.put,inv.tsize]
  · cases hd:o.dst<;> simp [Act.put,inv.defers]
theorem N9 {M:List Nat}: ∀(ord:List Nat) (last:Option Nat),asap M sp last ord=true-> ∀p i q,ord=p++i::q-> ∀p1 s p2,p=p1++s::p2->YM sp s=true->(∀x∈p2,YM sp x=false)->anc M s i=true
  | [],_,_,p,i,q,a,_,_,_,_,_,_=>by simp at a
  | k::ord,last,h,p,i,q,a,p1,s,p2,c,e,b=>by
    simp only[asap,Bool.and_eq_true]at h;cases p with
    | nil=> simp at c
    | cons p0 p=>
      simp at a;obtain⟨rfl,rfl⟩:=a;cases p1 with
      | nil=>
        simp at c;obtain⟨rfl,rfl⟩:=c;have d:=h.2;rw[e]at d;exact asap_last _ _ d p i q U b
      | cons x p1=>
        simp at c;exact N9 _ _ h.2 p i q U p1 s p2 c.2 e b
where
  asap_last {M:List Nat}: ∀(ord:List Nat) (s:Nat),asap M sp (some s) ord=true-> ∀p i q,ord=p++i::q->(∀x∈p,YM sp x=false)->anc M s i=true
    | [],_,_,p,i,q,a,_=>by simp at a
    | k::ord,s,h,p,i,q,a,b=>by
      simp only[asap,Bool.and_eq_true]at h;cases p with
      | nil=> simp at a;obtain⟨rfl,rfl⟩:=a;exact h.1
      | cons p0 p=>
        simp at a;obtain⟨rfl,rfl⟩:=a;have d:=h.2;rw[b k (by simp)]at d;exact asap_last _ s d p i q U (λx f=>b x (by simp [f]))
theorem Pj: ∀(q:List Nat) (a:Nat),YM sp a=true-> ∃p1 s p2,a::q=p1++s::p2/\YM sp s=true/\ ∀x∈p2,YM sp x=false
  | [],a,h=>⟨[],a,[],rfl,h,by simp⟩
  | x::q,a,h=>by
    cases f:YM sp x with
    | true=> obtain⟨p1,s,p2,e,b,c⟩:=Pj q x f;exact⟨a::p1,s,p2,by simp [e],b,c⟩
    | false=>
      obtain⟨p1,s,p2,e,b,c⟩:=Pj q a h;cases p1 with
      | nil=>
        simp at e;obtain⟨rfl,rfl⟩:=e;exact⟨[],a,x::q,rfl,b,λy d=>by rcases List.mem_cons.1 d with rfl | d;exact f;exact c y d⟩
      | cons y p1=>
        simp at e;obtain⟨rfl,rfl⟩:=e;exact⟨a::x::p1,s,p2,U,b,c⟩
theorem Inv.fr (st:Stat l n ord sp) (inv:Inv P n l sp ord Q a0 L0 listed a w D suf pf hd) (q:Fr n L0 a0) (g: ∀r∈D,listed.getD r.i false=true):Fr n (Yj L0 D) a:=by
  have h:(D.filterMap (·.o.dst)).Nodup:=by
    have s:(D.map (·.i)).Nodup:=by
      have :=st.nodup;rw[inv.order]at this;exact(List.reverse_perm _).nodup_iff.1 (List.nodup_append.1 this).1
    have b:=inv.ops;clear inv g
    induction D with
    | nil=> simp
    | cons r D2 ih=>
      obtain⟨u,y⟩:=List.nodup_cons.1 s;have ih':=ih y (λr c=>b r (by simp [c]));cases hd:r.o.dst with
      | none=> rw[List.filterMap_cons_none (f:= λx:Rc=>x.o.dst) hd];exact ih'
      | some d=>
        rw[List.filterMap_cons_some (f:= λx:Rc=>x.o.dst) hd];refine List.nodup_cons.2 ⟨λC=> ?_,ih'⟩;obtain⟨A,j,z⟩:=List.mem_filterMap.1 C;have :=GU st.dst (b r (by simp)) (b A (by simp [j])) hd z;exact u (List.mem_map.2 ⟨A,j,this.symm⟩)
  refine⟨inv.tsize,inv.defers,λt v B=> ?_⟩;by_cases k: ∃r∈D,r.o.dst=some t
  · obtain⟨r,c,m⟩:=k;have :=(HO (L0:=L0) D h).1 r c m;rw[B]at this;rw[inv.val r c (g r c) t m,Option.some.inj this]
  · have p: ∀r∈D,r.o.dst≠some t:= λr c e=>k ⟨r,c,e⟩;have :=(HO (L0:=L0) D h).2 p;rw[B]at this;rw[inv.old t λr c _=>p r c];exact q.get t v this.symm
theorem KI {b:Bool} (c:YN l L o=some b) (h: ∀t,gTmp l o=some t-> ∀u,Xy L t=some u->a.tmps[t]? =some u):Region.wanted o (yielded l.toArray a.tmps)=b:=by
  unfold YN at c;unfold gTmp at h;cases d:o.guard with
  | none=> rw[d]at c;simp at c;simp [Region.wanted,d,c]
  | some jw=>
    obtain⟨j,want⟩:=jw;rw[d]at c h;simp only at c h;cases e:(l[j]?).bind (·.dst)with
    | none=> rw[e]at c;cases c
    | some t=>
      rw[e]at c;simp only at c;cases f:Xy L t with
      | none=> rw[f]at c;cases c
      | some u=>
        rw[f]at c;have g:=h t e u f
        have i:yielded l.toArray a.tmps j=(match u with | .bool b=>some b | _=>none):=by
          unfold yielded;rw[List.getElem?_toArray,e];simp only[Option.bind_some,g];cases u<;>rfl
        cases u<;> simp at c<;> simp [Region.wanted,d,i,<-c]
theorem qd7 {L0:Env} {a0:Act} (b:Fr n L0 a0): ∀(D:List Rc),(∀r∈D,(match r.o.dst with | some d=>Nat.blt d n | none=>true)=true)-> ∃a,Fr n (Yj L0 D) a
  | [],_=>⟨a0,b⟩
  | r::D,h=>by
    obtain⟨a,c⟩:=qd7 b D (λq e=>h q (by simp [e]));exact⟨a.put r.o.dst r.v,c.put _ _ (h r (by simp))⟩
theorem Mw {ord:List Nat} {a0:Act} {L0:Env} (st:Stat l n ord sp) (z:Fr n L0 a0): ∀(f:Nat) (listed:Array Bool) (a:Act) (w:World) (D:List Rc) (suf:List Nat) (pf:List Fl),
    Inv P n l sp ord Q a0 L0 listed a w D suf pf true->HT listed l.length=f->wpAny P .any l.toArray Q f listed a w
  | 0,listed,a,w,D,suf,pf,inv,hf=>by
    have K: ∀i,i<l.length->listed.getD i false=true:=by
      intro i hi;cases C:listed.getD i false with
      | true=>rfl
      | false=>
        have H:i∈(List.range l.length).filter λi=> !listed.getD i false:=by simp [List.mem_filter,hi];simpa using C
        have h0:((List.range l.length).filter λi=> !listed.getD i false)=[]:=List.eq_nil_of_length_eq_zero hf;rw[h0]at H;cases H
    have j:suf=[]:=by
      rcases inv.head rfl with h | ⟨s,q,h,_⟩
      · exact h
      · subst h;have H:=inv.fresh st;have h2:s<l.length:=st.lt s (by rw[inv.order];simp);rw[K s h2]at H;cases H
    subst j;refine⟨?_, ?_⟩
    · cases V:Region.ready .any l.toArray listed with
      | nil=>rfl
      | cons i rs=>
        have :i∈Region.ready .any l.toArray listed:=by rw[V];simp
        obtain⟨H,o,A,_⟩:=mem_ready.1 this;have g:i<l.length:=by have :=(Array.getElem?_eq_some_iff.1 A).1;simpa using this
        have :=getD_both H;rw[K i g]at this;cases this
    · have W:=inv.vc;cases W with
      | nil h=>
        unfold qs at h;refine h a (inv.fr st z λr V=>K r.i ?_);exact(Za (inv.ops r V)).1
  | f+1,listed,a,w,D,suf,pf,inv,hf=>by
    refine⟨λa2=> ?_,λi hi=> ?_⟩
    · exfalso
      have ac: ∃i,i<l.length/\listed.getD i false=false:=by
        have L:((List.range l.length).filter λi=> !listed.getD i false)≠[]:=by
          intro e;have :HT listed l.length=0:=by unfold HT;rw[e];rfl
          omega
        obtain⟨i,hi⟩:=List.exists_mem_of_ne_nil _ L;simp only[List.mem_filter,List.mem_range]at hi;exact⟨i,hi.1,by simpa using hi.2⟩
      have a3: ∃p:Nat,p<ord.length/\listed.getD (ord.getD p 0) false=false:=by
        obtain⟨i,g,c⟩:=ac;obtain⟨p,hp,I⟩:=List.mem_iff_getElem.1 (st.all i g);exact⟨p,hp,by rw[List.getD_eq_getElem?_getD,XQ hp,Option.getD_some,I];exact c⟩
      obtain⟨p,⟨a4,c⟩,O⟩:=EN a3;have ad:ord.getD p 0=ord[p]:=by rw[List.getD_eq_getElem?_getD,XQ a4,Option.getD_some]
      rw[ad]at c;have g:ord[p]<l.length:=st.lt _ (List.getElem_mem a4)
      have this:ord[p]∈Region.ready .any l.toArray listed:=by
        refine mem_ready.2 ⟨getD_in (by rw[inv.size];exact g) c,l[ord[p]],by simp [g],λe I hb=> ?_⟩;have ae:ord=ord.take p++ord[p]::ord.drop (p+1):=by rw[List.getElem_cons_drop,List.take_append_drop]
        rcases KK ord [] st.topo _ _ _ ae _ (XQ g) e (by simpa using I) hb with C | C
        · cases C
        · obtain⟨k,hk,a5⟩:=List.mem_iff_getElem.1 C;simp only[List.length_take]at hk;rw[List.getElem_take]at a5;cases hz:listed.getD e.on false with
          | true=>rfl
          | false=> exact absurd ⟨by omega,by rw[List.getD_eq_getElem?_getD,XQ (by omega),Option.getD_some,a5];exact hz⟩ (O k (by omega))
      rw[a2]at this;cases this
    · obtain⟨a6,o,a7,X⟩:=mem_ready.1 hi;have c:=getD_both a6;have A:l[i]? =some o:=by simpa using a7
      have g:=(Za A).1;have d: ∀e∈o.after.toList,Region.binds .any e=true->listed.getD e.on false=true:= λe I hb=>X e (Array.mem_def.2 I) hb;obtain⟨a8,_,_,_⟩:=KS (st.okOp i g) A;have E:HT (listed.setIfInBounds i true) l.length=f:=by have :=CL g (by rw[inv.size];exact g) c;omega
      unfold wpOp;rw[a7];simp only;have M:i∈ord:=st.all i g;rw[inv.order]at M;rcases List.mem_append.1 M with a9 | R
      · -- a quiet one
        simp only[List.mem_reverse,List.mem_map]at a9;obtain⟨r,V,rfl⟩:=a9;obtain⟨D1,D2,hD⟩:=List.append_of_mem V;have af:r.o=o:=by have :=inv.ops r V;rw[A]at this;exact(Option.some.inj this).symm
        subst af;have Y:=inv.quiet D1 r D2 hD c;obtain⟨S,J⟩:=RQ st inv z A c d (D1:=D1++[r]) (D2:=D2) (by simp [hD]) (q:=(D1.map (·.i)).reverse++suf) (by rw[inv.order,hD];simp)
        suffices hnx:wpAny P .any l.toArray Q f (listed.setIfInBounds r.i true) (a.put r.o.dst r.v) w by
          rcases Y with⟨Z,Y⟩ | ⟨Z,hv⟩
          · rw[if_pos (KI Z J)];refine .inl ?_;unfold Oper.wp;rw[Y.at a8 S];exact hnx
          · rw[if_neg (by rw[KI Z J];simp)];rw[<-hv];exact hnx
        refine Mw st z f _ _ w D suf pf (inv.list st A c d (v:=r.v) (D':=D) (suf':=suf) ?_ ⟨r,V,rfl⟩ (λ_ h=>h) (λ_ h=> .inl h) inv.ops inv.order inv.vc (λD1 q D2 e h _=>inv.quiet D1 q D2 e h) inv.again inv.head) E;intro q C e
        have hn:(D.map (·.i)).Nodup:=by
          have :=st.nodup;rw[inv.order]at this;exact(List.reverse_perm _).nodup_iff.1 (List.nodup_append.1 this).1
        rw[hD]at hn C;simp only[List.map_append,List.map_cons]at hn;obtain⟨_,ag,ah⟩:=List.nodup_append.1 hn;simp only[List.mem_append,List.mem_cons]at C;rcases C with C | rfl | C
        · exact absurd e (ah q.i (List.mem_map.2 ⟨q,C,rfl⟩) r.i (by simp))
        · rfl
        · exact absurd (List.mem_map.2 ⟨q,C,e⟩) (List.nodup_cons.1 ag).1
      · -- the next of the spine
        rcases inv.head rfl with h | ⟨s,q,j,hs⟩
        · rw[h]at R;cases R
        · have ai:i=s:=by
            rw[j]at R;rcases List.mem_cons.1 R with h | h
            · exact h
            · exfalso;obtain⟨q1,q2,rfl⟩:=List.append_of_mem h;obtain⟨p1,s1,p2,e,H,h2⟩:=Pj q1 s hs;have aa:=N9 ord none st.asap ((D.map (·.i)).reverse++s::q1) i q2 (by rw[inv.order,j];simp) ((D.map (·.i)).reverse++p1) s1 p2 (by rw[e];simp) H h2;have hl:=Rl inv.closed A d aa;have hm:=inv.inD s1 hl;have B:=st.nodup;rw[inv.order,j]at B
              have ab:s1∈s::(q1++i::q2):=by
                have :s1∈s::q1:=by rw[e];simp
                rcases List.mem_cons.1 this with h | h
                · simp [h]
                · simp [h]
              exact(List.nodup_append.1 B).2.2 s1 (by simpa using hm) s1 ab U
          subst ai;subst j;have W:=inv.vc;cases W with
          | pure F N _ _=> rw[N]at hs;cases hs
          | quiet F N _ _=> rw[N]at hs;cases hs
          | spineNot F N Z r=>
            rw[A]at F;cases F;obtain⟨S,J⟩:=RQ st inv z A c d (D1:=[]) (D2:=D) rfl (q:=q) inv.order;rw[if_neg (by rw[KI Z J];simp)]
            have L: ∀x∈D,x.i≠i:= λx hx e=>by
              have B:=st.nodup;rw[inv.order]at B;exact(List.nodup_append.1 B).2.2 i (by simp;exact⟨x,hx,e⟩) i (by simp) U
            have inv2:Inv P n l sp ord Q a0 L0 (listed.setIfInBounds i true) (a.put o.dst undef) w (⟨i,o,undef⟩::D) q pf false:=by
              refine inv.list st A c d (v:=undef) ?_ ⟨⟨i,o,undef⟩,by simp,rfl⟩ (λ_ h=>by simp [h]) (λx hx=>by rcases List.mem_cons.1 hx with rfl | hx;exact .inr rfl;exact .inl hx) ?_ (by rw[inv.order];simp) r ?_ ?_ (λh=>by cases h)
              · intro x hx e;rcases List.mem_cons.1 hx with rfl | hx
                · rfl
                · exact absurd e (L x hx)
              · intro x hx;rcases List.mem_cons.1 hx with rfl | hx
                · exact A
                · exact inv.ops x hx
              · intro D1 x D2 e hl a1;cases D1 with
                | nil=> simp at e;obtain⟨rfl,rfl⟩:=e;exact absurd rfl a1
                | cons y D1=> simp at e;exact inv.quiet D1 x D2 e.2 hl
              · intro D1 x D2 e t;cases D1 with
                | nil=> simp at e;obtain⟨rfl,rfl⟩:=e;rw[hs]at t;cases t
                | cons y D1=> simp at e;exact inv.again D1 x D2 e.2 t
            obtain⟨D',suf',pf',inv3⟩:=inv2.advance st;exact Mw st z f _ _ w D' suf' pf' inv3 E
          | spine F N Z h ha r=>
            rw[A]at F;cases F;obtain⟨S,J⟩:=RQ st inv z A c d (D1:=[]) (D2:=D) rfl (q:=q) inv.order;rw[if_pos (KI Z J)];refine .inl ?_;have b:=h (qd7 z D λx hx=>(KS (st.okOp x.i (Za (inv.ops x hx)).1) (inv.ops x hx)).2.1) a S
            have L: ∀x∈D,x.i≠i:= λx hx e=>by
              have B:=st.nodup;rw[inv.order]at B;exact(List.nodup_append.1 B).2.2 i (by simp;exact⟨x,hx,e⟩) i (by simp) U
            have G: ∀v w2,_->wpAny P .any l.toArray Q f (listed.setIfInBounds i true) (a.put o.dst v) w2:= λv w2 T=>by
              have aj:=(ha v w2 T).get
              have inv2:Inv P n l sp ord Q a0 L0 (listed.setIfInBounds i true) (a.put o.dst v) w2 (⟨i,o,v⟩::D) q pf false:=by
                refine inv.list st A c d (v:=v) ?_ ⟨⟨i,o,v⟩,by simp,rfl⟩ (λ_ h=>by simp [h]) (λx hx=>by rcases List.mem_cons.1 hx with rfl | hx;exact .inr rfl;exact .inl hx) ?_ (by rw[inv.order];simp) (r v w2 T) ?_ ?_ (λh=>by cases h)
                · intro x hx e;rcases List.mem_cons.1 hx with rfl | hx
                  · rfl
                  · exact absurd e (L x hx)
                · intro x hx;rcases List.mem_cons.1 hx with rfl | hx
                  · exact A
                  · exact inv.ops x hx
                · intro D1 x D2 e hl a1;cases D1 with
                  | nil=> simp at e;obtain⟨rfl,rfl⟩:=e;exact absurd rfl a1
                  | cons y D1=>
                    simp at e;have ak:x∈D:=by rw[e.2];simp
                    have t:YM sp x.i=false:=by
                      cases C:YM sp x.i with
                      | false=>rfl
                      | true=> rw[inv.spD x ak C]at hl;cases hl
                    rcases inv.again D1 x D2 e.2 t with hp | hp
                    · exact hp w2
                    · rcases aj _ hp with H | H
                      · have :=Rl inv.closed A d H;rw[hl]at this;cases this
                      · exact H
                · intro D1 x D2 e t;cases D1 with
                  | nil=> simp at e;obtain⟨rfl,rfl⟩:=e;rw[hs]at t;cases t
                  | cons y D1=> simp at e;exact inv.again D1 x D2 e.2 t
              obtain⟨D',suf',pf',inv3⟩:=inv2.advance st;exact Mw st z f _ _ w2 D' suf' pf' inv3 E
            -- the operation itself
            unfold Oper.wp at b⊢;generalize (execOp a.eval o).run P w=res at b⊢;cases res with
            | ok m w'=>
              cases m<;> simp only[Oper.upon]at b⊢ <;>
                first
                  | (obtain⟨v,e,T⟩:=b;rw[e];exact G v _ T)
                  | exact Calls.mono b (λe w'' I=>by
                      cases e with
                      | returned u=> obtain⟨v,e,T⟩:=I;simp only;rw[e];exact G v _ T
                      | panicked ch=> exact I.elim
                      | outgrown=> obtain⟨_,_,I⟩:=I;exact I.elim)
                  | exact Rows.mono b (λu w'' I=>by obtain⟨v,e,T⟩:=I;rw[e];exact G v _ T)
            | halt x w'=> cases x<;> simp only[Oper.upon]at b⊢
theorem Q7 {id:Nat} (ord sp:List Nat) (g:P.follows .mixedOrders=true) (d:Py l n ord sp=true) (h:VC P n l (YI l []) sp Q ord L w.drew []):wc P n (.region id l.toArray true) Q L w:=by
  unfold wc;intro a f;have st:=Dp d;refine wp_region_any g ?_
  have inv0:Inv P n l sp ord Q a L (Array.replicate l.length false) a w.drew [] ord [] false:=
    { size:=by simp,closed:= λi o _ c=>(by rw[getD_replicate_false]at c;cases c),order:=rfl,vc:=h,head:=(λh=>by cases h),inD:= λi c=>(by rw[getD_replicate_false]at c;cases c),
      spD:=by simp,old:= λ_ _=>rfl,val:=by simp,quiet:=(by intro D1 r D2 e;simp at e),again:=(by intro D1 r D2 e;simp at e),ops:=by simp,tsize:=f.size,defers:=f.defers}
  obtain⟨D,suf,pf,inv⟩:=inv0.advance st
  have b:HT (Array.replicate l.length false) l.length=l.length:=by
    unfold HT;rw[List.filter_eq_self.2 (λi _=>by rw[getD_replicate_false];rfl)];simp
  have :=Mw st f l.length (Array.replicate l.length false) a w.drew D suf pf inv b
  simpa using this
variable {M:List Nat} {L:Env} {w:World} {pf:List Fl} {i:Nat} {ord:List Nat}
theorem Xi (a:l[i]? =some o) (b:YM sp i=false) (c:YN l L o=some true) (h: ∀w,Ev P L w o v) (r:VC P n l M sp Q ord (pd o.dst v L) w pf):VC P n l M sp Q (i::ord) L w pf:= .pure a b (λw=> .inl ⟨c,h w⟩) r
theorem Q0 (a:l[i]? =some o) (b:YM sp i=false) (c:YN l L o=some true) (h:Ev P L w o v) (r:VC P n l M sp Q ord (pd o.dst v L) w (⟨i,o,L,v⟩::pf)):VC P n l M sp Q (i::ord) L w pf:= .quiet a b (.inl ⟨c,h⟩) r
theorem JL (a:l[i]? =some o) (b:YM sp i=false) (c:YN l L o=some false) (r:VC P n l M sp Q ord (pd o.dst undef L) w pf):VC P n l M sp Q (i::ord) L w pf:= .pure a b (λw=> .inr ⟨c,rfl⟩) r
theorem Mv (t:Nat) (_ht:Xy L t=some (.bool g)) (a:g=true->VC P n l M sp Q ord L w pf) (b:g=false->VC P n l M sp Q ord L w pf):VC P n l M sp Q ord L w pf:=by
  cases g with
  | true=> exact a rfl
  | false=> exact b rfl
theorem HI (t:Nat) {p:Prop} {dp:Decidable p} (_ht:Xy L t=some (.bool (@decide p dp))) (a:p->VC P n l M sp Q ord L w pf) (b: ¬p->VC P n l M sp Q ord L w pf):VC P n l M sp Q ord L w pf:=by
  by_cases h:p
  · exact a h
  · exact b h
def VCs (P:Program) (n:Nat) (l:List Oper) (M sp:List Nat) (Q:Exit->Act->World->Prop) (i:Nat) (ord:List Nat) (L:Env) (dst:Option Nat) (pf:List Fl):Exit->Act->World->Prop:=
  λe a w2=>e= .normal/\a.defers=[]/\Again P l M i w2 pf/\VC P n l M sp Q ord (pd dst (match dst with | some d=>(a.tmps[d]?).getD undef | none=>undef) L) w2 pf
def dOk (n:Nat) (d:Option Nat):Bool:= match d with | some d=>Nat.blt d n | none=>true
def knownB (L:Env) (op:Op):Bool:=op.operands.toList.all λx=>(look L x).isSome
def notSel (op:Op):Bool:= match op with | .select .. =>false | _=>true
theorem QO {dst:Option Nat} {ty:TypeId} {pos:String} {gd:Option (Nat×Bool)} (C:l[i]? =some ⟨dst,op,ty,pos,aft,gd⟩) (D:YM sp i=true) (E:YN l L ⟨dst,op,ty,pos,aft,gd⟩=some true) (hd:dOk n dst=true) (j:notSel op=true) (t:knownB L op=true)
    (h:wl P n #[] (VCs P n l M sp Q i ord L dst pf) [⟨dst,op,ty,pos,aft,none⟩] L w):VC P n l M sp Q (i::ord) L w pf:=by
  refine .spine C D E (R:= λv w2=> ∃v',(dst≠none->v'=v)/\Again P l M i w2 pf/\VC P n l M sp Q ord (pd dst v' L) w2 pf) (λ⟨k,o⟩ a y=> ?_) (λv w2 ⟨_,_,h,_⟩=>h) (λv w2 ⟨v',F,_,h⟩=>by cases dst with | none=> exact h | some d=> rw[<-F (by simp)];exact h)
  have f: ∀cs b,op≠ .select cs b:= λcs b e=>by rw[e]at j;cases j
  unfold wl at h;have c:=h k o;unfold wpList at c;rw[if_pos (by simp [Region.wanted])]at c;rcases c with c | ⟨_,a0,I,G⟩
  · have q:(execOp a.eval ⟨dst,op,ty,pos,aft,gd⟩).run P w=(execOp k.eval ⟨dst,op,ty,pos,aft,none⟩).run P w:=by
      have H:execOp a.eval ⟨dst,op,ty,pos,aft,gd⟩=execOp a.eval ⟨dst,op,ty,pos,aft,none⟩:=by cases op<;>rfl
      rw[H];rw[execOp_congr (ρ':= λx=>(look L x).getD (k.eval x)) ⟨dst,op,ty,pos,aft,none⟩ f (λx z=> ?_),execOp_congr (ρ:=k.eval) (ρ':= λx=>(look L x).getD (k.eval x)) ⟨dst,op,ty,pos,aft,none⟩ f (λx z=> ?_)]
      · cases s:look L x with
        | none=>rfl
        | some u=> exact o.eval s
      · cases s:look L x with
        | none=> have :=List.all_eq_true.1 t x (by simpa using z);simp [s]at this
        | some u=> exact y x z u s
    unfold Oper.wp at c⊢;rw[q];generalize (execOp k.eval ⟨dst,op,ty,pos,aft,none⟩).run P w=res at c⊢
    have g: ∀v w2,wpList P #[] (VCs P n l M sp Q i ord L dst pf) [] (k.put dst v) w2-> ∃u,a.put dst v=a.put dst u/\ ∃v',(dst≠none->v'=u)/\Again P l M i w2 pf/\VC P n l M sp Q ord (pd dst v' L) w2 pf:=by
      rintro v w2 ⟨_,_,r,B⟩;refine⟨v,rfl,v,λ_=>rfl,r, ?_⟩;cases dst with
      | none=> exact B
      | some d=>
        have A:d<k.tmps.size:=by rw[o.size];simpa [dOk,Nat.blt_eq]using hd
        simpa [Act.put,A]using B
    cases res with
    | ok m w'=>
      cases m<;> simp only[Oper.upon]at c⊢ <;>
        first
          | exact g _ _ c
          | exact Calls.mono c (λe w'' p=>by
              cases e with
              | returned u=> exact g _ _ p
              | panicked ch=> exact absurd p.1 (by simp)
              | outgrown=> obtain⟨_,_,p⟩:=p;exact absurd p.1 (by simp))
          | exact Rows.mono c (λu w'' p=>g _ _ p)
          | (have r:=c.2.1;cases dst<;> simp [Act.put]at r)
          | (have r:=c.1;cases r)
    | halt x w'=> cases x<;> simp only[Oper.upon]at c⊢ <;> exact absurd c.1 (by simp)
  · exact absurd G.1 (by simp)
theorem Xh (c:Again P l M i w2 pf) (r:VC P n l M sp Q ord ((d,v)::L) w2 pf):wl P n #[] (VCs P n l M sp Q i ord L (some d) pf) [] ((d,v)::L) w2:=by
  refine Qf ?_;unfold qs;intro a b;refine⟨U,b.defers,c, ?_⟩;have :=b.get d v (by simp [Xy,Nat.beq_refl]);simp only[this,Option.getD_some];exact r
theorem Zc (c:Again P l M i w2 pf) (r:VC P n l M sp Q ord L w2 pf):wl P n #[] (VCs P n l M sp Q i ord L none pf) [] L w2:=by
  refine Qf ?_;unfold qs;exact λa b=>⟨rfl,b.defers,c,r⟩
theorem Xd {i:Nat} {w:World} (h:fs.all (λf=>anc M f.i i)=true):Again P l M i w fs:=by
  induction fs with
  | nil=> exact .nil
  | cons f fs ih=> rw[List.all_cons,Bool.and_eq_true]at h;exact .skip h.1 (ih h.2)
theorem Q3 {pos aft} (a:l[i]? =some ⟨some d,.move x,ty,pos,aft,none⟩) (b:YM sp i=false) (c:look L x=some v) (r:VC P n l M sp Q ord ((d,v)::L) w pf):VC P n l M sp Q (i::ord) L w pf:=Xi a b rfl (λ_=>X2 c) r
theorem Zd {pos aft} (a:l[i]? =some ⟨some d,.assign x,ty,pos,aft,none⟩) (b:YM sp i=false) (c:look L x=some v) (r:VC P n l M sp Q ord ((d,v)::L) w pf):VC P n l M sp Q (i::ord) L w pf:=Xi a b rfl (λ_=>Nz c) r
theorem QP {pos aft} {q:Addr} (a:l[i]? =some ⟨some d,.nilCheck x,ty,pos,aft,none⟩) (b:YM sp i=false) (c:look L x=some (.pointer (some q))) (r:VC P n l M sp Q ord ((d,.pointer (some q))::L) w pf):VC P n l M sp Q (i::ord) L w pf:=Xi a b rfl (λ_=>Uy c) r
theorem ZX {pos aft} {vs:List Value} (a:l[i]? =some ⟨some d,.extract x j,ty,pos,aft,none⟩) (b:YM sp i=false) (c:look L x=some (.tuple vs.toArray)) (e:vs[j]? =some v) (r:VC P n l M sp Q ord ((d,v)::L) w pf):VC P n l M sp Q (i::ord) L w pf:=Xi a b rfl (λ_=>Tv c e) r
theorem QG {pos aft} {s off b o:Nat} (a:l[i]? =some ⟨some d,.fieldAddr s x j,ty,pos,aft,none⟩) (c:YM sp i=false) (e:look L x=some (ptrV b o)) (f:QS P s j=some off) (r:VC P n l M sp Q ord ((d,ptrV b (o+off))::L) w pf):VC P n l M sp Q (i::ord) L w pf:=Xi a c rfl (λ_=>Zv e f) r
end
