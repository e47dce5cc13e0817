/- A region that draws its order, walked in one order: the operations that only look go as early as they can ('quiet'), the others ('spine') come one after the other in every order. Conditions: the rule's own hypotheses. -/
import Derived.Test.YtiibgheijbbmaaaGreatDoorWk
import Derived.StillTail
namespace Go.Proofs.YtiibgheijbbmaaaGreatDoor.M
open Go.RowKit
def Hi:List Oper→List Nat→List Nat
  | [],acc=>acc
  | o::l,acc=>Hi l (acc++[o.after.toList.foldl (fun s e=>bif Region.binds .any e then s ||| (2^e.on ||| acc.getD e.on 0)else s) 0])
def AO (M:List Nat) (j i:Nat):Bool:=(M.getD i 0).testBit j
theorem PU (acc:List Nat) (j:Nat): ∀(es:List Edge) (s:Nat),(es.foldl (fun s e=>bif Region.binds .any e then s ||| (2^e.on ||| acc.getD e.on 0)else s) s).testBit j=true→
    s.testBit j=true∨ ∃e∈es,Region.binds .any e=true∧(e.on=j∨(acc.getD e.on 0).testBit j=true)
  | [],s,h=> .inl h
  | e::es,s,h=> by
    simp only[List.foldl_cons]at h
    rcases PU acc j es _ h with h1 | ⟨e',he,h1⟩
    · cases hb:Region.binds .any e with
      | false=> rw[hb]at h1; exact .inl h1
      | true=>
        rw[hb]at h1
        simp only[cond_true,Nat.testBit_or,Bool.or_eq_true,Nat.testBit_two_pow,decide_eq_true_eq]at h1
        rcases h1 with h1 | h1 | h1
        · exact .inl h1
        · exact .inr ⟨e, by simp,hb,.inl h1⟩
        · exact .inr ⟨e, by simp,hb,.inr h1⟩
    · exact .inr ⟨e', by simp [he],h1⟩
theorem Bm: ∀(l:List Oper) (acc:List Nat) (pre:List Oper),acc.length=pre.length→
    (∀i o,pre[i]? =some o→ ∀j,(acc.getD i 0).testBit j=true→ ∃e∈o.after.toList,Region.binds .any e=true∧(e.on=j∨(e.on<i∧(acc.getD e.on 0).testBit j=true)))→
    ∀i o,(pre++l)[i]? =some o→ ∀j,((Hi l acc).getD i 0).testBit j=true→ ∃e∈o.after.toList,Region.binds .any e=true∧(e.on=j∨(e.on<i∧((Hi l acc).getD e.on 0).testBit j=true))
  | [],acc,pre,_,h=> by simpa [Hi]using h
  | q::l,acc,pre,hl,h=> by
    simp only[Hi]
    have :=Bm l (acc++[q.after.toList.foldl (fun s e=>bif Region.binds .any e then s ||| (2^e.on ||| acc.getD e.on 0)else s) 0]) (pre++[q]) (by simp [hl]) ?_
    · simpa using this
    · intro i o hi j hj
      rcases Nat.lt_trichotomy i pre.length with g | g | g
      · rw[List.getElem?_append_left g]at hi
        have e1:(acc++[q.after.toList.foldl (fun s e=>bif Region.binds .any e then s ||| (2^e.on ||| acc.getD e.on 0)else s) 0]).getD i 0=acc.getD i 0:= by
          simp only[List.getD_eq_getElem?_getD]; rw[List.getElem?_append_left (by omega)]
        rw[e1]at hj
        obtain⟨e,he,hb,hr⟩:=h i o hi j hj
        refine⟨e,he,hb,hr.imp id fun ⟨x,y⟩=>⟨x, ?_⟩⟩
        simp only[List.getD_eq_getElem?_getD]at y⊢; rw[List.getElem?_append_left (by omega)]; exact y
      · subst g
        simp at hi; subst hi
        have e1:(acc++[q.after.toList.foldl (fun s e=>bif Region.binds .any e then s ||| (2^e.on ||| acc.getD e.on 0)else s) 0]).getD pre.length 0=q.after.toList.foldl (fun s e=>bif Region.binds .any e then s ||| (2^e.on ||| acc.getD e.on 0)else s) 0:= by
          simp only[List.getD_eq_getElem?_getD]; rw[←hl,List.getElem?_append_right (Nat.le_refl _)]; simp
        rw[e1]at hj
        rcases PU acc j _ _ hj with h1 | ⟨e,he,hb,hr⟩
        · simp at h1
        · refine⟨e,he,hb,hr.imp id fun y=> ?_⟩
          have hlt:e.on<acc.length:= by
            rcases Nat.lt_or_ge e.on acc.length with q1 | q1
            · exact q1
            · simp [List.getD_eq_getElem?_getD,List.getElem?_eq_none q1]at y
          refine⟨by omega, ?_⟩
          simp only[List.getD_eq_getElem?_getD]at y⊢; rw[List.getElem?_append_left hlt]; exact y
      · rw[List.getElem?_eq_none (by simp;omega)]at hi; cases hi
theorem qaw {l:List Oper} {S:Nat→Prop} (hc: ∀i o,l[i]? =some o→S i→ ∀e∈o.after.toList,Region.binds .any e=true→S e.on):
    ∀i o j,l[i]? =some o→S i→AO (Hi l []) j i=true→S j:= by
  intro i
  induction i using Nat.strongRecOn with
  | _ i ih=>
    intro o j hi hl ha
    obtain⟨e,he,hb,hr⟩:=Bm l [] [] rfl (by simp) i o (by simpa using hi) j ha
    have h1:=hc i o hi hl e he hb
    rcases hr with rfl | ⟨hlt,hr⟩
    · exact h1
    · have hin:e.on<l.length:= by have :=(Jo hi).1;omega
      exact ih e.on hlt l[e.on] j (WU hin) h1 hr
theorem Rn {l:List Oper} {S:Nat→Prop} (hc: ∀i o,l[i]? =some o→S i→ ∀e∈o.after.toList,Region.binds .any e=true→S e.on)
    {i j:Nat} {o:Oper} (hi:l[i]? =some o) (hr: ∀e∈o.after.toList,Region.binds .any e=true→S e.on) (ha:AO (Hi l []) j i=true):S j:= by
  obtain⟨e,he,hb,hq⟩:=Bm l [] [] rfl (by simp) i o (by simpa using hi) j ha
  have h1:=hr e he hb
  rcases hq with rfl | ⟨hlt,hq⟩
  · exact h1
  · have hin:e.on<l.length:= by have :=(Jo hi).1;omega
    exact qaw hc e.on l[e.on] j (WU hin) h1 hq
def gTmp (l:List Oper) (o:Oper):Option Nat:= match o.guard with | some (j,_)=>(l[j]?).bind (·.dst) | none=>none
def Yz (l:List Oper) (L:Env) (o:Oper):Option Bool:= match o.guard with
  | none=>some true
  | some (j,want)=> match(l[j]?).bind (·.dst)with
    | some t=> match Zd L t with
      | some (.bool b)=>some (b==want)
      | some (.tuple _)=>some false
      | _=>none
    | none=>none
theorem Qt {l:List Oper} {L:Env} {d:Option Nat} {op:Op} {ty:TypeId} {pos:String} {aft:Array Edge} {j t:Nat} {want g:Bool} (hj:(l[j]?).bind (·.dst)=some t) (ht:Zd L t=some (.bool g)) (hg:g=want):Yz l L ⟨d,op,ty,pos,aft,some (j,want)⟩=some true:= by
  subst hg; simp [Yz,hj,ht]
theorem Qs {l:List Oper} {L:Env} {d:Option Nat} {op:Op} {ty:TypeId} {pos:String} {aft:Array Edge} {j t:Nat} {want g:Bool} (hj:(l[j]?).bind (·.dst)=some t) (ht:Zd L t=some (.bool g)) (hg:g= !want):Yz l L ⟨d,op,ty,pos,aft,some (j,want)⟩=some false:= by
  subst hg; cases want<;> simp [Yz,hj,ht]
theorem WK {l:List Oper} {L:Env} {d:Option Nat} {op:Op} {ty:TypeId} {pos:String} {aft:Array Edge} {j t:Nat} {want:Bool} (hj:(l[j]?).bind (·.dst)=some t) (ht:Zd L t=some undef):Yz l L ⟨d,op,ty,pos,aft,some (j,want)⟩=some false:= by
  simp [Yz,hj,ht,undef]
def Ev' (P:Program) (l:List Oper) (L:Env) (w:World) (o:Oper) (v:Value):Prop:=(Yz l L o=some true∧Ev P L w o v)∨(Yz l L o=some false∧v=undef)
structure Fl where
  i:Nat
  o:Oper
  L:Env
  v:Value
inductive Again (P:Program) (l:List Oper) (M:List Nat) (i:Nat) (w:World):List Fl→Prop
  | nil:Again P l M i w []
  | skip {f:Fl} {fs:List Fl} (h:AO M f.i i=true) (r:Again P l M i w fs):Again P l M i w (f::fs)
  | cons {f:Fl} {fs:List Fl} (h:Ev' P l f.L w f.o f.v) (r:Again P l M i w fs):Again P l M i w (f::fs)
theorem Again.get {P:Program} {l:List Oper} {M:List Nat} {i:Nat} {w:World} {fs:List Fl} (h:Again P l M i w fs): ∀f∈fs,AO M f.i i=true∨Ev' P l f.L w f.o f.v:= by
  induction h with
  | nil=> simp
  | skip h _ ih=> intro f hf; rcases List.mem_cons.1 hf with rfl | hf; exact .inl h; exact ih f hf
  | cons h _ ih=> intro f hf; rcases List.mem_cons.1 hf with rfl | hf; exact .inr h; exact ih f hf
def OpEv (L:Env) (o:Oper) (a:Act):Prop:= ∀x∈o.op.operands,∀u,look L x=some u→a.eval x=u
def Spine (P:Program) (o:Oper) (L:Env) (w:World) (R:Value→World→Prop):Prop:= ∀a,OpEv L o a→o.wp P a w (fun a' w2=> ∃v,a'=a.put o.dst v∧R v w2) (fun _ _ _=>False)
def Hj (sp:List Nat) (i:Nat):Bool:=sp.contains i
inductive VC (P:Program) (n:Nat) (l:List Oper) (M:List Nat) (sp:List Nat) (Q:Exit→Act→World→Prop):List Nat→Env→World→List Fl→Prop
  | nil {L:Env} {w:World} {pf:List Fl} (h:qs n Q .normal L w):VC P n l M sp Q [] L w pf
  | pure {i:Nat} {ord:List Nat} {L:Env} {w:World} {pf:List Fl} {o:Oper} {v:Value} (ho:l[i]? =some o) (hs:Hj sp i=false) (h: ∀w,Ev' P l L w o v) (r:VC P n l M sp Q ord (pd o.dst v L) w pf):VC P n l M sp Q (i::ord) L w pf
  | quiet {i:Nat} {ord:List Nat} {L:Env} {w:World} {pf:List Fl} {o:Oper} {v:Value} (ho:l[i]? =some o) (hs:Hj sp i=false) (h:Ev' P l L w o v) (r:VC P n l M sp Q ord (pd o.dst v L) w (⟨i,o,L,v⟩::pf)):VC P n l M sp Q (i::ord) L w pf
  | spine {i:Nat} {ord:List Nat} {L:Env} {w:World} {pf:List Fl} {o:Oper} {R:Value→World→Prop} (ho:l[i]? =some o) (hs:Hj sp i=true) (hg:Yz l L o=some true) (h:(∃a,Fr n L a)→Spine P o L w R) (ha: ∀v w2,R v w2→Again P l M i w2 pf) (r: ∀v w2,R v w2→VC P n l M sp Q ord (pd o.dst v L) w2 pf):VC P n l M sp Q (i::ord) L w pf
  | spineNot {i:Nat} {ord:List Nat} {L:Env} {w:World} {pf:List Fl} {o:Oper} (ho:l[i]? =some o) (hs:Hj sp i=true) (hg:Yz l L o=some false) (r:VC P n l M sp Q ord (pd o.dst undef L) w pf):VC P n l M sp Q (i::ord) L w pf
structure Rc where
  i:Nat
  o:Oper
  v:Value
def Ys (L0:Env):List Rc→Env
  | []=>L0
  | r::D=>pd r.o.dst r.v (Ys L0 D)
def GW (l:List Oper) (o:Oper):List Nat:=(gTmp l o).toList++o.op.operands.toList.filterMap fun | .tmp t=>some t | _=>none
def okOp (l:List Oper) (M:List Nat) (n:Nat) (i:Nat):Bool:= match l[i]? with
  | some o=>(match o.op with | .select .. =>false | _=>true)&&(match o.dst with | some d=>Nat.blt d n | none=>true)&&
      (List.range l.length).all (fun m=>Nat.beq m i || (match l[m]? with | some q=>(match q.dst with | some t=> !(GW l o).contains t || AO M m i || AO M i m | none=>true) | none=>true))
  | none=>false
def asap (M:List Nat) (sp:List Nat):Option Nat→List Nat→Bool
  | _,[]=>true
  | last,i::ord=>(match last with | some s=>AO M s i | none=>true)&&asap M sp (bif Hj sp i then some i else last) ord
def topo (l:List Oper):List Nat→List Nat→Bool
  | _,[]=>true
  | pre,i::ord=>(match l[i]? with | some o=>o.after.toList.all (fun e=> !Region.binds .any e || pre.contains e.on) | none=>false)&&topo l (i::pre) ord
def Nh (l:List Oper) (n:Nat) (ord sp:List Nat):Bool:=
  let M:=Hi l []
  (List.range l.length).all (fun i=>ord.contains i)&&ord.all (fun i=>Nat.blt i l.length)&&decide (ord.Nodup)&&decide ((l.filterMap (·.dst)).Nodup)&&(List.range l.length).all (okOp l M n)&&asap M sp none ord&&topo l [] ord
theorem KL {l:List Oper}: ∀(ord pre:List Nat),topo l pre ord=true→ ∀p i q,ord=p++i::q→ ∀o,l[i]? =some o→ ∀e∈o.after.toList,Region.binds .any e=true→e.on∈pre∨e.on∈p
  | [],pre,h,p,i,q,he,_,_,_,_,_=> by simp at he
  | k::ord,pre,h,p,i,q,he,o,ho,e,hee,hb=> by
    simp only[topo,Bool.and_eq_true]at h
    obtain⟨h1,h2⟩:=h
    cases p with
    | nil=>
      simp at he
      obtain⟨rfl,rfl⟩:=he
      rw[ho]at h1
      have :=List.all_eq_true.1 h1 e hee
      simp [hb]at this
      exact .inl this
    | cons p0 p=>
      simp at he
      obtain⟨rfl,rfl⟩:=he
      rcases KL _ _ h2 p i q rfl o ho e hee hb with h3 | h3
      · rcases List.mem_cons.1 h3 with rfl | h3
        · exact .inr (by simp)
        · exact .inl h3
      · exact .inr (by simp [h3])
theorem NK {l:List Oper} {ord:List Nat} (h:topo l [] ord=true) {p q:List Nat} {i j:Nat} {o:Oper} (he:ord=p++i::q) (ho:l[i]? =some o) (ha:AO (Hi l []) j i=true):j∈p:= by
  refine Rn (S:= fun x=>x∈p) ?_ ho (fun e hee hb=> ?_) ha
  · intro k ok hk hkp e hee hb
    obtain⟨p1,p2,rfl⟩:=List.append_of_mem hkp
    rcases KL ord [] h p1 k (p2++i::q) (by simp [he]) ok hk e hee hb with h1 | h1
    · cases h1
    · simp [h1]
  · rcases KL ord [] h p i q he o ho e hee hb with h1 | h1
    · cases h1
    · exact h1
theorem Ul {L0:Env} {t:Nat}: ∀(D:List Rc),(D.filterMap (·.o.dst)).Nodup→(∀r∈D,r.o.dst=some t→Zd (Ys L0 D) t=some r.v)∧((∀r∈D,r.o.dst≠some t)→Zd (Ys L0 D) t=Zd L0 t)
  | [],_=>⟨by simp, fun _=>rfl⟩
  | q::D,hn=> by
    cases hd:q.o.dst with
    | none=>
      rw[List.filterMap_cons_none (f:= fun x:Rc=>x.o.dst) hd]at hn
      have ih:=Ul (L0:=L0) (t:=t) D hn
      simp only[Ys,hd,pd]
      refine⟨fun r hr ht=> ?_, fun h=>ih.2 fun r hr=>h r (by simp [hr])⟩
      rcases List.mem_cons.1 hr with rfl | hr
      · rw[hd]at ht; cases ht
      · exact ih.1 r hr ht
    | some d=>
      rw[List.filterMap_cons_some (f:= fun x:Rc=>x.o.dst) hd]at hn
      obtain⟨hn1,hn2⟩:=List.nodup_cons.1 hn
      have ih:=Ul (L0:=L0) (t:=t) D hn2
      simp only[Ys,hd,pd,Zd]
      refine⟨fun r hr ht=> ?_, fun h=> ?_⟩
      · rcases List.mem_cons.1 hr with rfl | hr
        · rw[hd]at ht; cases ht; rw[Nat.beq_refl];rfl
        · have :d≠t:= fun e=> by subst e; exact hn1 (List.mem_filterMap.2 ⟨r,hr,ht⟩)
          have hb:Nat.beq d t=false:= by cases hq:Nat.beq d t with | false=>rfl | true=> exact absurd (Nat.eq_of_beq_eq_true hq) this
          rw[hb]; exact ih.1 r hr ht
      · have :d≠t:= fun e=> by subst e; exact h q (by simp) hd
        have hb:Nat.beq d t=false:= by cases hq:Nat.beq d t with | false=>rfl | true=> exact absurd (Nat.eq_of_beq_eq_true hq) this
        rw[hb]; exact ih.2 fun r hr=>h r (by simp [hr])
theorem Ev.at {P:Program} {L:Env} {w:World} {o:Oper} {v:Value} {a:Act} (h:Ev P L w o v) (hs: ∀cs b,o.op≠ .select cs b) (ho:OpEv L o a):(execOp a.eval o).run P w= .ok (.value v) w:= by
  rw[execOp_congr o hs (ρ':= fun x=>(look L x).getD (a.eval x)) (fun x hx=> by
    cases hl:look L x with
    | none=>rfl
    | some u=> exact ho x hx u hl)]
  exact h _ fun x u hx=> by simp [hx]
section
variable {P:Program} {n:Nat} {l:List Oper} {sp:List Nat} {Q:Exit→Act→World→Prop}
structure Inv (P:Program) (n:Nat) (l:List Oper) (sp ord:List Nat) (Q:Exit→Act→World→Prop) (a0:Act) (L0:Env) (listed:Array Bool) (a:Act) (w:World) (D:List Rc) (suf:List Nat) (pf:List Fl) (hd:Bool):Prop where
  size:listed.size=l.length
  closed: ∀i o,l[i]? =some o→listed.getD i false=true→ ∀e∈o.after.toList,Region.binds .any e=true→listed.getD e.on false=true
  order:ord=(D.map (·.i)).reverse++suf
  vc:VC P n l (Hi l []) sp Q suf (Ys L0 D) w pf
  head:hd=true→suf=[]∨ ∃s q,suf=s::q∧Hj sp s=true
  inD: ∀i,listed.getD i false=true→i∈D.map (·.i)
  spD: ∀r∈D,Hj sp r.i=true→listed.getD r.i false=true
  old: ∀t,(∀r∈D,listed.getD r.i false=true→r.o.dst≠some t)→a.tmps[t]? =a0.tmps[t]?
  val: ∀r∈D,listed.getD r.i false=true→ ∀t,r.o.dst=some t→a.tmps[t]? =some r.v
  quiet: ∀D1 r D2,D=D1++r::D2→listed.getD r.i false=false→Ev' P l (Ys L0 D2) w r.o r.v
  again: ∀D1 r D2,D=D1++r::D2→Hj sp r.i=false→(∀w,Ev' P l (Ys L0 D2) w r.o r.v)∨(⟨r.i,r.o,Ys L0 D2,r.v⟩:Fl)∈pf
  ops: ∀r∈D,l[r.i]? =some r.o
  tsize:a.tmps.size=n
  defers:a.defers=[]
structure Stat (l:List Oper) (n:Nat) (ord sp:List Nat):Prop where
  all: ∀i,i<l.length→i∈ord
  lt: ∀i∈ord,i<l.length
  nodup:ord.Nodup
  dst:(l.filterMap (·.dst)).Nodup
  okOp: ∀i,i<l.length→okOp l (Hi l []) n i=true
  asap:asap (Hi l []) sp none ord=true
  topo:topo l [] ord=true
theorem BX {ord:List Nat} (h:Nh l n ord sp=true):Stat l n ord sp:= by
  simp only[Nh,Bool.and_eq_true,decide_eq_true_eq,List.all_eq_true,List.mem_range,List.contains_iff_mem]at h
  obtain⟨⟨⟨⟨⟨⟨h1,h2⟩,h3⟩,h4⟩,h5⟩,h6⟩,h7⟩:=h
  exact⟨h1, fun i hi=> by have :=h2 i hi;simpa [Nat.blt_eq]using this,h3,h4,h5,h6,h7⟩
theorem KW {i:Nat} {o:Oper} (h:okOp l (Hi l []) n i=true) (ho:l[i]? =some o):(∀cs b,o.op≠ .select cs b)∧(match o.dst with | some d=>Nat.blt d n | none=>true)=true∧True∧
    ∀m q t,l[m]? =some q→q.dst=some t→t∈GW l o→m=i∨AO (Hi l []) m i=true∨AO (Hi l []) i m=true:= by
  unfold okOp at h
  rw[ho]at h
  simp only[Bool.and_eq_true,List.all_eq_true,List.mem_range,Bool.or_eq_true]at h
  obtain⟨⟨h2,h3⟩,h5⟩:=h
  refine⟨(fun cs b e=> by rw[e]at h2; cases h2),h3,trivial, fun m q t hm hq ht=> ?_⟩
  · have hlt:=(Jo hm).1
    have :=h5 m hlt
    rcases this with h | h
    · exact .inl (Nat.eq_of_beq_eq_true h)
    · rw[hm]at h
      simp only[hq]at h
      have hc:(GW l o).contains t=true:= by simpa using ht
      rw[hc]at h
      simp at h
      exact .inr h
theorem GA: ∀{l:List Oper},(l.filterMap (·.dst)).Nodup→ ∀{i j:Nat} {x y:Oper} {t:Nat},l[i]? =some x→l[j]? =some y→x.dst=some t→y.dst=some t→i=j
  | [],_,i,_,_,_,_,hi,_,_,_=> by simp at hi
  | z::zs,hd,i,j,x,y,t,hi,hj,hx,hy=> by
    cases hz:z.dst with
    | none=>
      rw[List.filterMap_cons_none hz]at hd
      cases i with
      | zero=> simp at hi; subst hi; rw[hz]at hx; cases hx
      | succ i=>
        cases j with
        | zero=> simp at hj; subst hj; rw[hz]at hy; cases hy
        | succ j=> simp at hi hj; exact congrArg (· +1) (GA hd hi hj hx hy)
    | some d=>
      rw[List.filterMap_cons_some hz]at hd
      obtain⟨hd1,hd2⟩:=List.nodup_cons.1 hd
      cases i with
      | zero=>
        simp at hi; subst hi
        cases j with
        | zero=>rfl
        | succ j=>
          simp at hj
          rw[hz]at hx; cases hx
          exact absurd (List.mem_filterMap.2 ⟨y,List.mem_of_getElem? hj,hy⟩) hd1
      | succ i=>
        simp at hi
        cases j with
        | zero=>
          simp at hj; subst hj
          rw[hz]at hy; cases hy
          exact absurd (List.mem_filterMap.2 ⟨x,List.mem_of_getElem? hi,hx⟩) hd1
        | succ j=> simp at hj; exact congrArg (· +1) (GA hd2 hi hj hx hy)
theorem RE {ord:List Nat} {a0:Act} {L0:Env} {listed:Array Bool} {a:Act} {w:World} {D:List Rc} {suf:List Nat} {pf:List Fl} {hd:Bool} (st:Stat l n ord sp) (inv:Inv P n l sp ord Q a0 L0 listed a w D suf pf hd) (hf0:Fr n L0 a0)
    {i:Nat} {o:Oper} (ho:l[i]? =some o) (hun:listed.getD i false=false) (hr: ∀e∈o.after.toList,Region.binds .any e=true→listed.getD e.on false=true)
    {D1 D2:List Rc} (hD:D=D1++D2) {q:List Nat} (hp:ord=(D2.map (·.i)).reverse++i::q):OpEv (Ys L0 D2) o a∧ ∀t,gTmp l o=some t→ ∀u,Zd (Ys L0 D2) t=some u→a.tmps[t]? =some u:= by
  have hil:=(Jo ho).1
  have hnd2:(D2.filterMap (·.o.dst)).Nodup:= by
    have hsub: ∀r∈D2,l[r.i]? =some r.o:= fun r hr=>inv.ops r (by rw[hD]; simp [hr])
    have hn2:(D2.map (·.i)).Nodup:= by
      have :=st.nodup; rw[hp]at this
      have :=(List.nodup_append.1 this).1
      exact(List.reverse_perm _).nodup_iff.1 this
    clear hp hD hr inv
    induction D2 with
    | nil=> simp
    | cons r D2 ih=>
      obtain⟨hn3,hn4⟩:=List.nodup_cons.1 hn2
      have ih':=ih (fun r hr=>hsub r (by simp [hr])) hn4
      cases hd:r.o.dst with
      | none=> rw[List.filterMap_cons_none (f:= fun x:Rc=>x.o.dst) hd]; exact ih'
      | some d=>
        rw[List.filterMap_cons_some (f:= fun x:Rc=>x.o.dst) hd]
        refine List.nodup_cons.2 ⟨fun hm=> ?_,ih'⟩
        obtain⟨r2,hr2,hd2⟩:=List.mem_filterMap.1 hm
        have :=GA st.dst (hsub r (by simp)) (hsub r2 (by simp [hr2])) hd hd2
        exact hn3 (List.mem_map.2 ⟨r2,hr2,this.symm⟩)
  have main: ∀t,t∈GW l o→ ∀u,Zd (Ys L0 D2) t=some u→a.tmps[t]? =some u:= by
    intro t ht u hl'
    obtain⟨_,_,_,hop⟩:=KW (st.okOp i hil) ho
    by_cases hex: ∃r∈D2,r.o.dst=some t
    · obtain⟨r,hr2,hrt⟩:=hex
      have hrD:r∈D:= by rw[hD]; simp [hr2]
      have hne:r.i≠i:= fun e=> by
        have :=st.nodup; rw[hp]at this
        have :=(List.nodup_append.1 this).2.2 r.i (by simp; exact⟨r,hr2,rfl⟩) i (by simp)
        exact this e
      have hrv:u=r.v:= by have :=(Ul (L0:=L0) D2 hnd2).1 r hr2 hrt; rw[hl']at this; exact Option.some.inj this
      subst hrv
      rcases hop r.i r.o t (inv.ops r hrD) hrt ht with e | e | e
      · exact absurd e hne
      · exact inv.val r hrD (Rn inv.closed ho hr e) t hrt
      · exfalso
        obtain⟨p1,p2,hpp⟩:=List.append_of_mem (show r.i∈(D2.map (·.i)).reverse by simp; exact⟨r,hr2,rfl⟩)
        have h1:=NK st.topo (p:=p1) (q:=p2++i::q) (i:=r.i) (by rw[hp,hpp]; simp) (inv.ops r hrD) e
        have :=st.nodup; rw[hp]at this
        have :=(List.nodup_append.1 this).2.2 i (by rw[hpp]; simp [h1]) i (by simp)
        exact this Qa
    · have hno: ∀r∈D2,r.o.dst≠some t:= fun r hr2 e=>hex ⟨r,hr2,e⟩
      have h0:=(Ul (L0:=L0) D2 hnd2).2 hno
      rw[hl']at h0
      have h1:a0.tmps[t]? =some u:=hf0.get t u h0.symm
      rw[←h1]
      refine inv.old t fun r hrD hrl hrt=> ?_
      rcases hop r.i r.o t (inv.ops r hrD) hrt ht with e | e | e
      · rw[e,hun]at hrl; cases hrl
      · have h2:=NK st.topo hp ho e
        simp at h2
        obtain⟨r2,hr2,he⟩:=h2
        have :r2.o=r.o:= by have h3:=inv.ops r2 (by rw[hD]; simp [hr2]); rw[he,inv.ops r hrD]at h3; exact(Option.some.inj h3).symm
        exact hno r2 hr2 (by rw[this]; exact hrt)
      · have :=qaw inv.closed r.i r.o i (inv.ops r hrD) hrl e
        rw[hun]at this; cases this
  refine⟨fun x hx u hl=> ?_, fun t ht u hu=>main t (by simp [GW,ht]) u hu⟩
  cases x with
  | const c=>simpa [look,Act.eval]using hl
  | global g=>simpa [look,Act.eval]using hl
  | func f=>simpa [look,Act.eval]using hl
  | tmp t=> have :=main t (by unfold GW; exact List.mem_append.2 (.inr (List.mem_filterMap.2 ⟨.tmp t, by simpa using hx,rfl⟩))) u hl; simp [Act.eval,this]
theorem Inv.fresh {ord:List Nat} {a0:Act} {L0:Env} {listed:Array Bool} {a:Act} {w:World} {D:List Rc} {i:Nat} {suf:List Nat} {pf:List Fl} {hd:Bool} (st:Stat l n ord sp) (inv:Inv P n l sp ord Q a0 L0 listed a w D (i::suf) pf hd):listed.getD i false=false:= by
  cases hq:listed.getD i false with
  | false=>rfl
  | true=>
    have h1:=inv.inD i hq
    have :=st.nodup; rw[inv.order]at this
    exact absurd Qa ((List.nodup_append.1 this).2.2 i (by simp at h1⊢; exact h1) i (by simp))
theorem Inv.push {ord:List Nat} {a0:Act} {L0:Env} {listed:Array Bool} {a:Act} {w:World} {D:List Rc} {i:Nat} {suf:List Nat} {pf pf':List Fl} {hd:Bool} (st:Stat l n ord sp) (inv:Inv P n l sp ord Q a0 L0 listed a w D (i::suf) pf hd) {o:Oper} {v:Value} (ho:l[i]? =some o) (hs:Hj sp i=false) (h:Ev' P l (Ys L0 D) w o v)
    (hag:(∀w,Ev' P l (Ys L0 D) w o v)∨(⟨i,o,Ys L0 D,v⟩:Fl)∈pf') (hpf: ∀f∈pf,f∈pf') (hvc:VC P n l (Hi l []) sp Q suf (pd o.dst v (Ys L0 D)) w pf'):Inv P n l sp ord Q a0 L0 listed a w (⟨i,o,v⟩::D) suf pf' false:= by
  have hun:=inv.fresh st
  refine{size:=inv.size,closed:=inv.closed,order:= by rw[inv.order]; simp,vc:=hvc,head:=(by intro h; cases h),inD:= fun j hj=> by simp; exact .inr (by simpa using inv.inD j hj),spD:= ?_,old:= ?_,val:= ?_,quiet:= ?_,again:= ?_,ops:= ?_,tsize:=inv.tsize,defers:=inv.defers}
  · intro r hr hr2
    rcases List.mem_cons.1 hr with rfl | hr
    · rw[hs]at hr2; cases hr2
    · exact inv.spD r hr hr2
  · intro t ht
    exact inv.old t fun r hr=>ht r (by simp [hr])
  · intro r hr hl
    rcases List.mem_cons.1 hr with rfl | hr
    · rw[hun]at hl; cases hl
    · exact inv.val r hr hl
  · intro D1 r D2 e hl
    cases D1 with
    | nil=> simp at e; obtain⟨rfl,rfl⟩:=e; exact h
    | cons x D1=> simp at e; exact inv.quiet D1 r D2 e.2 hl
  · intro D1 r D2 e hl
    cases D1 with
    | nil=> simp at e; obtain⟨rfl,rfl⟩:=e; exact hag
    | cons x D1=>
      simp at e
      exact(inv.again D1 r D2 e.2 hl).imp id (hpf _)
  · intro r hr
    rcases List.mem_cons.1 hr with rfl | hr
    · exact ho
    · exact inv.ops r hr
theorem Inv.advance {ord:List Nat} {a0:Act} {L0:Env} {listed:Array Bool} {a:Act} {w:World} (st:Stat l n ord sp): ∀(suf:List Nat) (D:List Rc) (pf:List Fl),Inv P n l sp ord Q a0 L0 listed a w D suf pf false→ ∃D' suf' pf',Inv P n l sp ord Q a0 L0 listed a w D' suf' pf' true
  | [],D,pf,inv=>⟨D,[],pf,{inv with head:= fun _=> .inl rfl}⟩
  | i::suf,D,pf,inv=> by
    have hvc:=inv.vc
    cases hvc with
    | pure ho hs h r=> exact Inv.advance st suf _ pf (inv.push st ho hs (h w) (.inl h) (fun _ hf=>hf) r)
    | quiet ho hs h r=> exact Inv.advance st suf _ _ (inv.push st ho hs h (.inr (by simp)) (fun _ hf=> by simp [hf]) r)
    | spine ho hs hg h ha r=> exact⟨D,i::suf,pf,{inv with head:= fun _=> .inr ⟨i,suf,rfl,hs⟩}⟩
    | spineNot ho hs hg r=> exact⟨D,i::suf,pf,{inv with head:= fun _=> .inr ⟨i,suf,rfl,hs⟩}⟩
theorem Jl {listed:Array Bool} {i:Nat} (h:i<listed.size):(listed.setIfInBounds i true).getD i false=true:= by simp [h]
theorem Ju {listed:Array Bool} {i k:Nat} (h:k≠i):(listed.setIfInBounds i true).getD k false=listed.getD k false:= by
  simp only[Array.getD_eq_getD_getElem?]
  rw[Array.getElem?_setIfInBounds_ne (fun e=>h e.symm)]
def UA (listed:Array Bool) (n:Nat):Nat:=((List.range n).filter fun i=> !listed.getD i false).length
theorem T1 {listed:Array Bool} {n i:Nat} (hin:i<n) (hil:i<listed.size) (hun:listed.getD i false=false):UA (listed.setIfInBounds i true) n+1=UA listed n:= by
  unfold UA
  induction n with
  | zero=>omega
  | succ n ih=>
    rw[List.range_succ,List.filter_append,List.filter_append,List.length_append,List.length_append]
    by_cases hi:i=n
    · subst hi
      have e1:(List.range i).filter (fun j=> !(listed.setIfInBounds i true).getD j false)=(List.range i).filter (fun j=> !listed.getD j false):= by
        apply List.filter_congr
        intro j hj
        have hji:=List.mem_range.1 hj
        rw[Ju (by omega)]
      rw[e1]
      simp only[List.filter_cons,Jl hil,hun,List.filter_nil]
      rfl
    · have :=ih (by omega)
      simp only[List.filter_cons,Ju (Ne.symm hi),List.filter_nil]at this⊢
      omega
theorem GM (a:Act) (d:Option Nat) (v:Value) (t:Nat):(a.put d v).tmps[t]? = if d=some t∧t<a.tmps.size then some v else a.tmps[t]? := by
  cases d with
  | none=> simp [Act.put]
  | some d=>
    simp only[Act.put,Array.getElem?_setIfInBounds]
    by_cases e:d=t
    · subst e
      by_cases h:d<a.tmps.size
      · simp [h]
      · simp [h,Array.getElem?_eq_none (Nat.le_of_not_lt h)]
    · simp [e]
theorem Inv.list {ord:List Nat} {a0:Act} {L0:Env} {listed:Array Bool} {a:Act} {w w2:World} {D D':List Rc} {suf suf':List Nat} {pf:List Fl} {hd:Bool} (st:Stat l n ord sp) (inv:Inv P n l sp ord Q a0 L0 listed a w D suf pf hd)
    {i:Nat} {o:Oper} {v:Value} (ho:l[i]? =some o) (hun:listed.getD i false=false) (hr: ∀e∈o.after.toList,Region.binds .any e=true→listed.getD e.on false=true) (hrc: ∀r∈D',r.i=i→r.v=v) (hmem: ∃r∈D',r.i=i) (hsub: ∀r∈D,r∈D') (hsup: ∀r∈D',r∈D∨r.i=i) (hops: ∀r∈D',l[r.i]? =some r.o)
    (horder:ord=(D'.map (·.i)).reverse++suf') (hvc:VC P n l (Hi l []) sp Q suf' (Ys L0 D') w2 pf) (hq: ∀D1 r D2,D'=D1++r::D2→listed.getD r.i false=false→r.i≠i→Ev' P l (Ys L0 D2) w2 r.o r.v)
    (hag: ∀D1 r D2,D'=D1++r::D2→Hj sp r.i=false→(∀w,Ev' P l (Ys L0 D2) w r.o r.v)∨(⟨r.i,r.o,Ys L0 D2,r.v⟩:Fl)∈pf) {hd':Bool} (hhead:hd'=true→suf'=[]∨ ∃s q,suf'=s::q∧Hj sp s=true):
    Inv P n l sp ord Q a0 L0 (listed.setIfInBounds i true) (a.put o.dst v) w2 D' suf' pf hd':= by
  have hil:i<l.length:=(Jo ho).1
  have hil':i<listed.size:= by rw[inv.size]; exact hil
  have hmono: ∀k,listed.getD k false=true→(listed.setIfInBounds i true).getD k false=true:= fun k hk=> by
    by_cases e:k=i
    · subst e; exact Jl hil'
    · rw[Ju e]; exact hk
  have hinv: ∀k,(listed.setIfInBounds i true).getD k false=true→k=i∨listed.getD k false=true:= fun k hk=> by
    by_cases e:k=i
    · exact .inl e
    · rw[Ju e]at hk; exact .inr hk
  have hdst: ∀r∈D',r.i=i→r.o=o:= fun r hr e=> by have :=hops r hr; rw[e,ho]at this; exact(Option.some.inj this).symm
  have hbd:=(KW (st.okOp i hil) ho).2.1
  refine{size:= by simpa using inv.size,closed:= ?_,order:=horder,vc:=hvc,head:=hhead,inD:= ?_,spD:= ?_,old:= ?_,val:= ?_,quiet:= ?_,again:=hag,ops:=hops,tsize:= ?_,defers:= ?_}
  · intro k q hk hkl e he hb
    rcases hinv k hkl with rfl | hkl
    · rw[ho]at hk; cases hk
      exact hmono _ (hr e he hb)
    · exact hmono _ (inv.closed k q hk hkl e he hb)
  · intro k hk
    rcases hinv k hk with rfl | hk
    · obtain⟨r,hr,e⟩:=hmem; exact List.mem_map.2 ⟨r,hr,e⟩
    · obtain⟨r,hr,e⟩:=List.mem_map.1 (inv.inD k hk)
      exact List.mem_map.2 ⟨r,hsub r hr,e⟩
  · intro r hr hs
    rcases hsup r hr with h | h
    · exact hmono _ (inv.spD r h hs)
    · rw[h]; exact Jl hil'
  · intro t ht
    rw[GM]
    obtain⟨r0,hr0,e0⟩:=hmem
    have hne:o.dst≠some t:= by
      have :=ht r0 hr0 (by rw[e0]; exact Jl hil')
      rwa [hdst r0 hr0 e0]at this
    rw[if_neg (fun h=>hne h.1)]
    exact inv.old t fun r hr hl=>ht r (hsub r hr) (hmono _ hl)
  · intro r hr hl t ht
    rw[GM]
    by_cases e:r.i=i
    · rw[hdst r hr e]at ht
      rw[ht]at hbd
      have :t<n:= by simpa [Nat.blt_eq]using hbd
      rw[if_pos ⟨ht, by rw[inv.tsize]; exact this⟩,hrc r hr e]
    · have hrD:r∈D:=(hsup r hr).resolve_right e
      have hl':listed.getD r.i false=true:=(hinv _ hl).resolve_left e
      have hne:o.dst≠some t:= fun h=>e (GA st.dst (hops r hr) ho ht h)
      rw[if_neg (fun h=>hne h.1)]
      exact inv.val r hrD hl' t ht
  · intro D1 r D2 e hl
    by_cases hi:r.i=i
    · rw[hi,Jl hil']at hl; cases hl
    · rw[Ju hi]at hl
      exact hq D1 r D2 e hl hi
  · cases hd:o.dst<;> simp [Act.put,inv.tsize]
  · cases hd:o.dst<;> simp [Act.put,inv.defers]
theorem Cf {M:List Nat}: ∀(ord:List Nat) (last:Option Nat),asap M sp last ord=true→ ∀p i q,ord=p++i::q→ ∀p1 s p2,p=p1++s::p2→Hj sp s=true→(∀x∈p2,Hj sp x=false)→AO M s i=true
  | [],_,_,p,i,q,he,_,_,_,_,_,_=> by simp at he
  | k::ord,last,h,p,i,q,he,p1,s,p2,hp,hs,hno=> by
    simp only[asap,Bool.and_eq_true]at h
    cases p with
    | nil=> simp at hp
    | cons p0 p=>
      simp at he
      obtain⟨rfl,rfl⟩:=he
      cases p1 with
      | nil=>
        simp at hp
        obtain⟨rfl,rfl⟩:=hp
        have h2:=h.2
        rw[hs]at h2
        exact asap_last _ _ h2 p i q Qa hno
      | cons x p1=>
        simp at hp
        exact Cf _ _ h.2 p i q Qa p1 s p2 hp.2 hs hno
where
  asap_last {M:List Nat}: ∀(ord:List Nat) (s:Nat),asap M sp (some s) ord=true→ ∀p i q,ord=p++i::q→(∀x∈p,Hj sp x=false)→AO M s i=true
    | [],_,_,p,i,q,he,_=> by simp at he
    | k::ord,s,h,p,i,q,he,hno=> by
      simp only[asap,Bool.and_eq_true]at h
      cases p with
      | nil=> simp at he; obtain⟨rfl,rfl⟩:=he; exact h.1
      | cons p0 p=>
        simp at he
        obtain⟨rfl,rfl⟩:=he
        have h2:=h.2
        rw[hno k (by simp)]at h2
        exact asap_last _ s h2 p i q Qa (fun x hx=>hno x (by simp [hx]))
theorem CI: ∀(q:List Nat) (s0:Nat),Hj sp s0=true→ ∃p1 s p2,s0::q=p1++s::p2∧Hj sp s=true∧ ∀x∈p2,Hj sp x=false
  | [],s0,h=>⟨[],s0,[],rfl,h, by simp⟩
  | x::q,s0,h=> by
    cases hx:Hj sp x with
    | true=> obtain⟨p1,s,p2,e,h1,h2⟩:=CI q x hx; exact⟨s0::p1,s,p2, by simp [e],h1,h2⟩
    | false=>
      obtain⟨p1,s,p2,e,h1,h2⟩:=CI q s0 h
      cases p1 with
      | nil=>
        simp at e; obtain⟨rfl,rfl⟩:=e
        exact⟨[],s0,x::q,rfl,h1, fun y hy=> by rcases List.mem_cons.1 hy with rfl | hy; exact hx; exact h2 y hy⟩
      | cons y p1=>
        simp at e
        obtain⟨rfl,rfl⟩:=e
        exact⟨s0::x::p1,s,p2,Qa,h1,h2⟩
theorem Inv.fr {ord:List Nat} {a0:Act} {L0:Env} {listed:Array Bool} {a:Act} {w:World} {D:List Rc} {suf:List Nat} {pf:List Fl} {hd:Bool} (st:Stat l n ord sp) (inv:Inv P n l sp ord Q a0 L0 listed a w D suf pf hd) (hf0:Fr n L0 a0) (hall: ∀r∈D,listed.getD r.i false=true):Fr n (Ys L0 D) a:= by
  have hnd:(D.filterMap (·.o.dst)).Nodup:= by
    have hn2:(D.map (·.i)).Nodup:= by
      have :=st.nodup; rw[inv.order]at this
      exact(List.reverse_perm _).nodup_iff.1 (List.nodup_append.1 this).1
    have hsub:=inv.ops
    clear inv hall
    induction D with
    | nil=> simp
    | cons r D2 ih=>
      obtain⟨hn3,hn4⟩:=List.nodup_cons.1 hn2
      have ih':=ih hn4 (fun r hr=>hsub r (by simp [hr]))
      cases hd:r.o.dst with
      | none=> rw[List.filterMap_cons_none (f:= fun x:Rc=>x.o.dst) hd]; exact ih'
      | some d=>
        rw[List.filterMap_cons_some (f:= fun x:Rc=>x.o.dst) hd]
        refine List.nodup_cons.2 ⟨fun hm=> ?_,ih'⟩
        obtain⟨r2,hr2,hd2⟩:=List.mem_filterMap.1 hm
        have :=GA st.dst (hsub r (by simp)) (hsub r2 (by simp [hr2])) hd hd2
        exact hn3 (List.mem_map.2 ⟨r2,hr2,this.symm⟩)
  refine⟨inv.tsize,inv.defers, fun t v ht=> ?_⟩
  by_cases hex: ∃r∈D,r.o.dst=some t
  · obtain⟨r,hr,hrt⟩:=hex
    have :=(Ul (L0:=L0) D hnd).1 r hr hrt
    rw[ht]at this
    rw[inv.val r hr (hall r hr) t hrt,Option.some.inj this]
  · have hno: ∀r∈D,r.o.dst≠some t:= fun r hr e=>hex ⟨r,hr,e⟩
    have :=(Ul (L0:=L0) D hnd).2 hno
    rw[ht]at this
    rw[inv.old t fun r hr _=>hno r hr]
    exact hf0.get t v this.symm
theorem KJ {L:Env} {o:Oper} {a:Act} {b:Bool} (hg:Yz l L o=some b) (h: ∀t,gTmp l o=some t→ ∀u,Zd L t=some u→a.tmps[t]? =some u):Region.wanted o (yielded l.toArray a.tmps)=b:= by
  unfold Yz at hg
  unfold gTmp at h
  cases hq:o.guard with
  | none=> rw[hq]at hg; simp at hg; simp [Region.wanted,hq,hg]
  | some jw=>
    obtain⟨j,want⟩:=jw
    rw[hq]at hg h
    simp only at hg h
    cases ht:(l[j]?).bind (·.dst)with
    | none=> rw[ht]at hg; cases hg
    | some t=>
      rw[ht]at hg
      simp only at hg
      cases hv:Zd L t with
      | none=> rw[hv]at hg; cases hg
      | some u=>
        rw[hv]at hg
        have h1:=h t ht u hv
        have hy:yielded l.toArray a.tmps j=(match u with | .bool b=>some b | _=>none):= by
          unfold yielded
          rw[List.getElem?_toArray,ht]
          simp only[Option.bind_some,h1]
          cases u<;>rfl
        cases u<;> simp at hg<;> simp [Region.wanted,hq,hy,←hg]
theorem I5 {L0:Env} {a0:Act} (hf0:Fr n L0 a0): ∀(D:List Rc),(∀r∈D,(match r.o.dst with | some d=>Nat.blt d n | none=>true)=true)→ ∃a,Fr n (Ys L0 D) a
  | [],_=>⟨a0,hf0⟩
  | r::D,h=> by
    obtain⟨a,ha⟩:=I5 hf0 D (fun q hq=>h q (by simp [hq]))
    exact⟨a.put r.o.dst r.v,ha.put _ _ (h r (by simp))⟩
theorem DN {ord:List Nat} {a0:Act} {L0:Env} (st:Stat l n ord sp) (hf0:Fr n L0 a0): ∀(f:Nat) (listed:Array Bool) (a:Act) (w:World) (D:List Rc) (suf:List Nat) (pf:List Fl),
    Inv P n l sp ord Q a0 L0 listed a w D suf pf true→UA listed l.length=f→wpAny P .any l.toArray Q f listed a w
  | 0,listed,a,w,D,suf,pf,inv,hf=> by
    have hall: ∀i,i<l.length→listed.getD i false=true:= by
      intro i hi
      cases hq:listed.getD i false with
      | true=>rfl
      | false=>
        have h1:i∈(List.range l.length).filter fun i=> !listed.getD i false:= by simp [List.mem_filter,hi];simpa using hq
        have h0:((List.range l.length).filter fun i=> !listed.getD i false)=[]:=List.eq_nil_of_length_eq_zero hf
        rw[h0]at h1; cases h1
    have hsuf:suf=[]:= by
      rcases inv.head rfl with h | ⟨s,q,h,_⟩
      · exact h
      · subst h
        have h1:=inv.fresh st
        have h2:s<l.length:=st.lt s (by rw[inv.order]; simp)
        rw[hall s h2]at h1; cases h1
    subst hsuf
    refine⟨?_, ?_⟩
    · cases hr:Region.ready .any l.toArray listed with
      | nil=>rfl
      | cons i rs=>
        have :i∈Region.ready .any l.toArray listed:= by rw[hr]; simp
        obtain⟨h1,o,ho,_⟩:=mem_ready.1 this
        have hil:i<l.length:= by have :=(Array.getElem?_eq_some_iff.1 ho).1;simpa using this
        have :=getD_both h1
        rw[hall i hil]at this; cases this
    · have hvc:=inv.vc
      cases hvc with
      | nil h=>
        unfold qs at h
        refine h a (inv.fr st hf0 fun r hr=>hall r.i ?_)
        exact(Jo (inv.ops r hr)).1
  | f+1,listed,a,w,D,suf,pf,inv,hf=> by
    refine⟨fun hnil=> ?_, fun i hi=> ?_⟩
    · exfalso
      have hex: ∃i,i<l.length∧listed.getD i false=false:= by
        have hne:((List.range l.length).filter fun i=> !listed.getD i false)≠[]:= by
          intro e
          have :UA listed l.length=0:= by unfold UA; rw[e];rfl
          omega
        obtain⟨i,hi⟩:=List.exists_mem_of_ne_nil _ hne
        simp only[List.mem_filter,List.mem_range]at hi
        exact⟨i,hi.1, by simpa using hi.2⟩
      have hexp: ∃p:Nat,p<ord.length∧listed.getD (ord.getD p 0) false=false:= by
        obtain⟨i,hil,hun⟩:=hex
        obtain⟨p,hp,he⟩:=List.mem_iff_getElem.1 (st.all i hil)
        exact⟨p,hp, by rw[List.getD_eq_getElem?_getD,WU hp,Option.getD_some,he]; exact hun⟩
      obtain⟨p,⟨hpl,hun⟩,hleast⟩:=Lz hexp
      have hpe:ord.getD p 0=ord[p]:= by rw[List.getD_eq_getElem?_getD,WU hpl,Option.getD_some]
      rw[hpe]at hun
      have hil:ord[p]<l.length:=st.lt _ (List.getElem_mem hpl)
      have this:ord[p]∈Region.ready .any l.toArray listed:= by
        refine mem_ready.2 ⟨getD_in (by rw[inv.size]; exact hil) hun,l[ord[p]], by simp [hil], fun e he hb=> ?_⟩
        have hsp:ord=ord.take p++ord[p]::ord.drop (p+1):= by rw[List.getElem_cons_drop,List.take_append_drop]
        rcases KL ord [] st.topo _ _ _ hsp _ (WU hil) e (by simpa using he) hb with hq | hq
        · cases hq
        · obtain⟨k,hk,hke⟩:=List.mem_iff_getElem.1 hq
          simp only[List.length_take]at hk
          rw[List.getElem_take]at hke
          cases hz:listed.getD e.on false with
          | true=>rfl
          | false=> exact absurd ⟨by omega, by rw[List.getD_eq_getElem?_getD,WU (by omega),Option.getD_some,hke]; exact hz⟩ (hleast k (by omega))
      rw[hnil]at this; cases this
    · obtain⟨hun0,o,ho',hpre0⟩:=mem_ready.1 hi
      have hun:=getD_both hun0
      have ho:l[i]? =some o:= by simpa using ho'
      have hil:=(Jo ho).1
      have hpre: ∀e∈o.after.toList,Region.binds .any e=true→listed.getD e.on false=true:= fun e he hb=>hpre0 e (Array.mem_def.2 he) hb
      obtain⟨hsel,_,_,_⟩:=KW (st.okOp i hil) ho
      have htodo:UA (listed.setIfInBounds i true) l.length=f:= by have :=T1 hil (by rw[inv.size]; exact hil) hun;omega
      unfold wpOp
      rw[ho']
      simp only
      have hiord:i∈ord:=st.all i hil
      rw[inv.order]at hiord
      rcases List.mem_append.1 hiord with hiD | hiS
      · -- a quiet one
        simp only[List.mem_reverse,List.mem_map]at hiD
        obtain⟨r,hr,rfl⟩:=hiD
        obtain⟨D1,D2,hD⟩:=List.append_of_mem hr
        have hro:r.o=o:= by have :=inv.ops r hr; rw[ho]at this; exact(Option.some.inj this).symm
        subst hro
        have hev:=inv.quiet D1 r D2 hD hun
        obtain⟨hop,hgt⟩:=RE st inv hf0 ho hun hpre (D1:=D1++[r]) (D2:=D2) (by simp [hD]) (q:=(D1.map (·.i)).reverse++suf) (by rw[inv.order,hD]; simp)
        suffices hnx:wpAny P .any l.toArray Q f (listed.setIfInBounds r.i true) (a.put r.o.dst r.v) w by
          rcases hev with⟨hg,hev⟩ | ⟨hg,hv⟩
          · rw[if_pos (KJ hg hgt)]
            refine .inl ?_
            unfold Oper.wp
            rw[hev.at hsel hop]
            exact hnx
          · rw[if_neg (by rw[KJ hg hgt]; simp)]
            rw[←hv]; exact hnx
        refine DN st hf0 f _ _ w D suf pf (inv.list st ho hun hpre (v:=r.v) (D':=D) (suf':=suf) ?_ ⟨r,hr,rfl⟩ (fun _ h=>h) (fun _ h=> .inl h) inv.ops inv.order inv.vc (fun D1 q D2 e h _=>inv.quiet D1 q D2 e h) inv.again inv.head) htodo
        intro q hq e
        have hn:(D.map (·.i)).Nodup:= by
          have :=st.nodup; rw[inv.order]at this
          exact(List.reverse_perm _).nodup_iff.1 (List.nodup_append.1 this).1
        rw[hD]at hn hq
        simp only[List.map_append,List.map_cons]at hn
        obtain⟨_,hn2,hn3⟩:=List.nodup_append.1 hn
        simp only[List.mem_append,List.mem_cons]at hq
        rcases hq with hq | rfl | hq
        · exact absurd e (hn3 q.i (List.mem_map.2 ⟨q,hq,rfl⟩) r.i (by simp))
        · rfl
        · exact absurd (List.mem_map.2 ⟨q,hq,e⟩) (List.nodup_cons.1 hn2).1
      · -- the next of the spine
        rcases inv.head rfl with h | ⟨s,q,hsuf,hs⟩
        · rw[h]at hiS; cases hiS
        · have his:i=s:= by
            rw[hsuf]at hiS
            rcases List.mem_cons.1 hiS with h | h
            · exact h
            · exfalso
              obtain⟨q1,q2,rfl⟩:=List.append_of_mem h
              obtain⟨p1,s1,p2,e,h1,h2⟩:=CI q1 s hs
              have hanc:=Cf ord none st.asap ((D.map (·.i)).reverse++s::q1) i q2 (by rw[inv.order,hsuf]; simp) ((D.map (·.i)).reverse++p1) s1 p2 (by rw[e]; simp) h1 h2
              have hl:=Rn inv.closed ho hpre hanc
              have hm:=inv.inD s1 hl
              have hnd:=st.nodup; rw[inv.order,hsuf]at hnd
              have hmem:s1∈s::(q1++i::q2):= by
                have :s1∈s::q1:= by rw[e]; simp
                rcases List.mem_cons.1 this with h | h
                · simp [h]
                · simp [h]
              exact(List.nodup_append.1 hnd).2.2 s1 (by simpa using hm) s1 hmem Qa
          subst his
          subst hsuf
          have hvc:=inv.vc
          cases hvc with
          | pure ho2 hs2 _ _=> rw[hs2]at hs; cases hs
          | quiet ho2 hs2 _ _=> rw[hs2]at hs; cases hs
          | spineNot ho2 hs2 hg r=>
            rw[ho]at ho2; cases ho2
            obtain⟨hop,hgt⟩:=RE st inv hf0 ho hun hpre (D1:=[]) (D2:=D) rfl (q:=q) inv.order
            rw[if_neg (by rw[KJ hg hgt]; simp)]
            have hne: ∀x∈D,x.i≠i:= fun x hx e=> by
              have hnd:=st.nodup; rw[inv.order]at hnd
              exact(List.nodup_append.1 hnd).2.2 i (by simp; exact⟨x,hx,e⟩) i (by simp) Qa
            have inv2:Inv P n l sp ord Q a0 L0 (listed.setIfInBounds i true) (a.put o.dst undef) w (⟨i,o,undef⟩::D) q pf false:= by
              refine inv.list st ho hun hpre (v:=undef) ?_ ⟨⟨i,o,undef⟩, by simp,rfl⟩ (fun _ h=> by simp [h]) (fun x hx=> by rcases List.mem_cons.1 hx with rfl | hx; exact .inr rfl; exact .inl hx) ?_ (by rw[inv.order]; simp) r ?_ ?_ (fun h=> by cases h)
              · intro x hx e
                rcases List.mem_cons.1 hx with rfl | hx
                · rfl
                · exact absurd e (hne x hx)
              · intro x hx
                rcases List.mem_cons.1 hx with rfl | hx
                · exact ho
                · exact inv.ops x hx
              · intro D1 x D2 e hl hxi
                cases D1 with
                | nil=> simp at e; obtain⟨rfl,rfl⟩:=e; exact absurd rfl hxi
                | cons y D1=> simp at e; exact inv.quiet D1 x D2 e.2 hl
              · intro D1 x D2 e hxs
                cases D1 with
                | nil=> simp at e; obtain⟨rfl,rfl⟩:=e; rw[hs]at hxs; cases hxs
                | cons y D1=> simp at e; exact inv.again D1 x D2 e.2 hxs
            obtain⟨D',suf',pf',inv3⟩:=inv2.advance st
            exact DN st hf0 f _ _ w D' suf' pf' inv3 htodo
          | spine ho2 hs2 hg h ha r=>
            rw[ho]at ho2; cases ho2
            obtain⟨hop,hgt⟩:=RE st inv hf0 ho hun hpre (D1:=[]) (D2:=D) rfl (q:=q) inv.order
            rw[if_pos (KJ hg hgt)]
            refine .inl ?_
            have hstep:=h (I5 hf0 D fun x hx=>(KW (st.okOp x.i (Jo (inv.ops x hx)).1) (inv.ops x hx)).2.1) a hop
            have hne: ∀x∈D,x.i≠i:= fun x hx e=> by
              have hnd:=st.nodup; rw[inv.order]at hnd
              exact(List.nodup_append.1 hnd).2.2 i (by simp; exact⟨x,hx,e⟩) i (by simp) Qa
            have hnext: ∀v w2,_→wpAny P .any l.toArray Q f (listed.setIfInBounds i true) (a.put o.dst v) w2:= fun v w2 hR=> by
              have hag:=(ha v w2 hR).get
              have inv2:Inv P n l sp ord Q a0 L0 (listed.setIfInBounds i true) (a.put o.dst v) w2 (⟨i,o,v⟩::D) q pf false:= by
                refine inv.list st ho hun hpre (v:=v) ?_ ⟨⟨i,o,v⟩, by simp,rfl⟩ (fun _ h=> by simp [h]) (fun x hx=> by rcases List.mem_cons.1 hx with rfl | hx; exact .inr rfl; exact .inl hx) ?_ (by rw[inv.order]; simp) (r v w2 hR) ?_ ?_ (fun h=> by cases h)
                · intro x hx e
                  rcases List.mem_cons.1 hx with rfl | hx
                  · rfl
                  · exact absurd e (hne x hx)
                · intro x hx
                  rcases List.mem_cons.1 hx with rfl | hx
                  · exact ho
                  · exact inv.ops x hx
                · intro D1 x D2 e hl hxi
                  cases D1 with
                  | nil=> simp at e; obtain⟨rfl,rfl⟩:=e; exact absurd rfl hxi
                  | cons y D1=>
                    simp at e
                    have hxD:x∈D:= by rw[e.2]; simp
                    have hxs:Hj sp x.i=false:= by
                      cases hq:Hj sp x.i with
                      | false=>rfl
                      | true=> rw[inv.spD x hxD hq]at hl; cases hl
                    rcases inv.again D1 x D2 e.2 hxs with hp | hp
                    · exact hp w2
                    · rcases hag _ hp with h1 | h1
                      · have :=Rn inv.closed ho hpre h1
                        rw[hl]at this; cases this
                      · exact h1
                · intro D1 x D2 e hxs
                  cases D1 with
                  | nil=> simp at e; obtain⟨rfl,rfl⟩:=e; rw[hs]at hxs; cases hxs
                  | cons y D1=> simp at e; exact inv.again D1 x D2 e.2 hxs
              obtain⟨D',suf',pf',inv3⟩:=inv2.advance st
              exact DN st hf0 f _ _ w2 D' suf' pf' inv3 htodo
            -- the operation itself
            unfold Oper.wp at hstep⊢
            generalize (execOp a.eval o).run P w=res at hstep⊢
            cases res with
            | ok m w'=>
              cases m<;> simp only[Oper.upon]at hstep⊢ <;>
                first
                  | (obtain⟨v,e,hR⟩:=hstep; rw[e]; exact hnext v _ hR)
                  | exact Calls.mono hstep (fun e w'' he=> by
                      cases e with
                      | returned u=> obtain⟨v,e,hR⟩:=he; simp only; rw[e]; exact hnext v _ hR
                      | panicked ch=> exact he.elim
                      | outgrown=> obtain⟨_,_,he⟩:=he; exact he.elim)
                  | exact Rows.mono hstep (fun u w'' he=> by obtain⟨v,e,hR⟩:=he; rw[e]; exact hnext v _ hR)
            | halt x w'=> cases x<;> simp only[Oper.upon]at hstep⊢
theorem QT {id:Nat} {L:Env} {w:World} (ord sp:List Nat) (hm:P.follows .mixedOrders=true) (hck:Nh l n ord sp=true) (h:VC P n l (Hi l []) sp Q ord L w.drew []):wc P n (.region id l.toArray true) Q L w:= by
  unfold wc
  intro a ha
  have st:=BX hck
  refine wp_region_any hm ?_
  have inv0:Inv P n l sp ord Q a L (Array.replicate l.length false) a w.drew [] ord [] false:=
    { size:= by simp,closed:= fun i o _ hl=>(by rw[getD_replicate_false]at hl; cases hl),order:=rfl,vc:=h,head:=(fun h=> by cases h),inD:= fun i hl=>(by rw[getD_replicate_false]at hl; cases hl),
      spD:= by simp,old:= fun _ _=>rfl,val:= by simp,quiet:=(by intro D1 r D2 e; simp at e),again:=(by intro D1 r D2 e; simp at e),ops:= by simp,tsize:=ha.size,defers:=ha.defers}
  obtain⟨D,suf,pf,inv⟩:=inv0.advance st
  have htodo:UA (Array.replicate l.length false) l.length=l.length:= by
    unfold UA
    rw[List.filter_eq_self.2 (fun i _=> by rw[getD_replicate_false];rfl)]
    simp
  have :=DN st ha l.length (Array.replicate l.length false) a w.drew D suf pf inv htodo
  simpa using this
variable {M:List Nat} {L:Env} {w:World} {pf:List Fl} {i:Nat} {ord:List Nat}
theorem QG {o:Oper} {v:Value} (ho:l[i]? =some o) (hs:Hj sp i=false) (hg:Yz l L o=some true) (h: ∀w,Ev P L w o v) (r:VC P n l M sp Q ord (pd o.dst v L) w pf):VC P n l M sp Q (i::ord) L w pf:= .pure ho hs (fun w=> .inl ⟨hg,h w⟩) r
theorem QH {o:Oper} {v:Value} (ho:l[i]? =some o) (hs:Hj sp i=false) (hg:Yz l L o=some true) (h:Ev P L w o v) (r:VC P n l M sp Q ord (pd o.dst v L) w (⟨i,o,L,v⟩::pf)):VC P n l M sp Q (i::ord) L w pf:= .quiet ho hs (.inl ⟨hg,h⟩) r
theorem Q2 {o:Oper} (ho:l[i]? =some o) (hs:Hj sp i=false) (hg:Yz l L o=some false) (r:VC P n l M sp Q ord (pd o.dst undef L) w pf):VC P n l M sp Q (i::ord) L w pf:= .pure ho hs (fun w=> .inr ⟨hg,rfl⟩) r
theorem Kg (t:Nat) {g:Bool} (_ht:Zd L t=some (.bool g)) (h1:g=true→VC P n l M sp Q ord L w pf) (h2:g=false→VC P n l M sp Q ord L w pf):VC P n l M sp Q ord L w pf:= by
  cases g with
  | true=> exact h1 rfl
  | false=> exact h2 rfl
theorem ZK (t:Nat) {p:Prop} {dp:Decidable p} (_ht:Zd L t=some (.bool (@decide p dp))) (h1:p→VC P n l M sp Q ord L w pf) (h2: ¬p→VC P n l M sp Q ord L w pf):VC P n l M sp Q ord L w pf:= by
  by_cases h:p
  · exact h1 h
  · exact h2 h
def VCs (P:Program) (n:Nat) (l:List Oper) (M sp:List Nat) (Q:Exit→Act→World→Prop) (i:Nat) (ord:List Nat) (L:Env) (dst:Option Nat) (pf:List Fl):Exit→Act→World→Prop:=
  fun e a w2=>e= .normal∧a.defers=[]∧Again P l M i w2 pf∧VC P n l M sp Q ord (pd dst (match dst with | some d=>(a.tmps[d]?).getD undef | none=>undef) L) w2 pf
def dOk (n:Nat) (d:Option Nat):Bool:= match d with | some d=>Nat.blt d n | none=>true
def knownB (L:Env) (op:Op):Bool:=op.operands.toList.all fun x=>(look L x).isSome
def notSel (op:Op):Bool:= match op with | .select .. =>false | _=>true
theorem Xb {dst:Option Nat} {op:Op} {ty:TypeId} {pos:String} {aft:Array Edge} {gd:Option (Nat×Bool)} (ho:l[i]? =some ⟨dst,op,ty,pos,aft,gd⟩) (hs:Hj sp i=true) (hg:Yz l L ⟨dst,op,ty,pos,aft,gd⟩=some true) (hd:dOk n dst=true) (hsel:notSel op=true) (hkn:knownB L op=true)
    (h:wl P n #[] (VCs P n l M sp Q i ord L dst pf) [⟨dst,op,ty,pos,aft,none⟩] L w):VC P n l M sp Q (i::ord) L w pf:= by
  refine .spine ho hs hg (R:= fun v w2=> ∃v',(dst≠none→v'=v)∧Again P l M i w2 pf∧VC P n l M sp Q ord (pd dst v' L) w2 pf) (fun ⟨a1,ha1⟩ a hop=> ?_) (fun v w2 ⟨_,_,h,_⟩=>h) (fun v w2 ⟨v',hv,_,h⟩=> by cases dst with | none=> exact h | some d=> rw[←hv (by simp)]; exact h)
  have hselp: ∀cs b,op≠ .select cs b:= fun cs b e=> by rw[e]at hsel; cases hsel
  unfold wl at h
  have h1:=h a1 ha1
  unfold wpList at h1
  rw[if_pos (by simp [Region.wanted])]at h1
  rcases h1 with h1 | ⟨_,a0,w0,h0⟩
  · have hrun:(execOp a.eval ⟨dst,op,ty,pos,aft,gd⟩).run P w=(execOp a1.eval ⟨dst,op,ty,pos,aft,none⟩).run P w:= by
      have e1:execOp a.eval ⟨dst,op,ty,pos,aft,gd⟩=execOp a.eval ⟨dst,op,ty,pos,aft,none⟩:= by cases op<;>rfl
      rw[e1]
      rw[execOp_congr (ρ':= fun x=>(look L x).getD (a1.eval x)) ⟨dst,op,ty,pos,aft,none⟩ hselp (fun x hx=> ?_),execOp_congr (ρ:=a1.eval) (ρ':= fun x=>(look L x).getD (a1.eval x)) ⟨dst,op,ty,pos,aft,none⟩ hselp (fun x hx=> ?_)]
      · cases hl:look L x with
        | none=>rfl
        | some u=> exact ha1.eval hl
      · cases hl:look L x with
        | none=> have :=List.all_eq_true.1 hkn x (by simpa using hx); simp [hl]at this
        | some u=> exact hop x hx u hl
    unfold Oper.wp at h1⊢
    rw[hrun]
    generalize (execOp a1.eval ⟨dst,op,ty,pos,aft,none⟩).run P w=res at h1⊢
    have hfin: ∀v w2,wpList P #[] (VCs P n l M sp Q i ord L dst pf) [] (a1.put dst v) w2→ ∃u,a.put dst v=a.put dst u∧ ∃v',(dst≠none→v'=u)∧Again P l M i w2 pf∧VC P n l M sp Q ord (pd dst v' L) w2 pf:= by
      rintro v w2 ⟨_,_,h2,h3⟩
      refine⟨v,rfl,v, fun _=>rfl,h2, ?_⟩
      cases dst with
      | none=> exact h3
      | some d=>
        have hlt:d<a1.tmps.size:= by rw[ha1.size];simpa [dOk,Nat.blt_eq]using hd
        simpa [Act.put,hlt]using h3
    cases res with
    | ok m w'=>
      cases m<;> simp only[Oper.upon]at h1⊢ <;>
        first
          | exact hfin _ _ h1
          | exact Calls.mono h1 (fun e w'' he=> by
              cases e with
              | returned u=> exact hfin _ _ he
              | panicked ch=> exact absurd he.1 (by simp)
              | outgrown=> obtain⟨_,_,he⟩:=he; exact absurd he.1 (by simp))
          | exact Rows.mono h1 (fun u w'' he=>hfin _ _ he)
          | (have h2:=h1.2.1; cases dst<;> simp [Act.put]at h2)
          | (have h2:=h1.1; cases h2)
    | halt x w'=> cases x<;> simp only[Oper.upon]at h1⊢ <;> exact absurd h1.1 (by simp)
  · exact absurd h0.1 (by simp)
theorem Xn {d:Nat} {v:Value} {w2:World} (ha:Again P l M i w2 pf) (r:VC P n l M sp Q ord ((d,v)::L) w2 pf):wl P n #[] (VCs P n l M sp Q i ord L (some d) pf) [] ((d,v)::L) w2:= by
  refine Qh ?_
  unfold qs
  intro a hfr
  refine⟨Qa,hfr.defers,ha, ?_⟩
  have :=hfr.get d v (by simp [Zd,Nat.beq_refl])
  simp only[this,Option.getD_some]; exact r
theorem ZG {w2:World} (ha:Again P l M i w2 pf) (r:VC P n l M sp Q ord L w2 pf):wl P n #[] (VCs P n l M sp Q i ord L none pf) [] L w2:= by
  refine Qh ?_
  unfold qs
  exact fun a hfr=>⟨rfl,hfr.defers,ha,r⟩
theorem XC {i:Nat} {fs:List Fl} {w:World} (h:fs.all (fun f=>AO M f.i i)=true):Again P l M i w fs:= by
  induction fs with
  | nil=> exact .nil
  | cons f fs ih=> rw[List.all_cons,Bool.and_eq_true]at h; exact .skip h.1 (ih h.2)
theorem QM {d:Nat} {x:Operand} {ty:Nat} {pos aft} {v:Value} (ho:l[i]? =some ⟨some d,.move x,ty,pos,aft,none⟩) (hs:Hj sp i=false) (hx:look L x=some v) (r:VC P n l M sp Q ord ((d,v)::L) w pf):VC P n l M sp Q (i::ord) L w pf:=QG ho hs rfl (fun _=>XA hx) r
theorem Jr {d:Nat} {x:Operand} {ty:Nat} {pos aft} {v:Value} (ho:l[i]? =some ⟨some d,.assign x,ty,pos,aft,none⟩) (hs:Hj sp i=false) (hx:look L x=some v) (r:VC P n l M sp Q ord ((d,v)::L) w pf):VC P n l M sp Q (i::ord) L w pf:=QG ho hs rfl (fun _=>Cc hx) r
theorem Xw {d:Nat} {x:Operand} {ty:Nat} {pos aft} {q:Addr} (ho:l[i]? =some ⟨some d,.nilCheck x,ty,pos,aft,none⟩) (hs:Hj sp i=false) (hx:look L x=some (.pointer (some q))) (r:VC P n l M sp Q ord ((d,.pointer (some q))::L) w pf):VC P n l M sp Q (i::ord) L w pf:=QG ho hs rfl (fun _=>XH hx) r
theorem Ha {d:Nat} {x:Operand} {ty:Nat} {pos aft} {j:Nat} {vs:List Value} {v:Value} (ho:l[i]? =some ⟨some d,.extract x j,ty,pos,aft,none⟩) (hs:Hj sp i=false) (hx:look L x=some (.tuple vs.toArray)) (hv:vs[j]? =some v) (r:VC P n l M sp Q ord ((d,v)::L) w pf):VC P n l M sp Q (i::ord) L w pf:=QG ho hs rfl (fun _=>MG hx hv) r
theorem QQ {d:Nat} {x:Operand} {ty:Nat} {pos aft} {s j off b o:Nat} (ho:l[i]? =some ⟨some d,.fieldAddr s x j,ty,pos,aft,none⟩) (hs:Hj sp i=false) (hx:look L x=some (ptrV b o)) (hf:Xl P s j=some off) (r:VC P n l M sp Q ord ((d,ptrV b (o+off))::L) w pf):VC P n l M sp Q (i::ord) L w pf:=QG ho hs rfl (fun _=>QV hx hf) r
end
