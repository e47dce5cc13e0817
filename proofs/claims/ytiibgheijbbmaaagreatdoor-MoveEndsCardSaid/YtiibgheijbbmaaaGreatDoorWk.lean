/- Rules that walk code by its text: what is known of a frame is a list; each operation has a rule. Conditions: each rule's own hypotheses. -/
import Derived.Test.YtiibgheijbbmaaaGreatDoorMem
namespace Go.Proofs.YtiibgheijbbmaaaGreatDoor.M
open Go.RowKit
abbrev Env:=List (Nat×Value)
def Zd:Env→Nat→Option Value
  | [],_=>none
  | (d,v)::L,t=>bif Nat.beq d t then some v else Zd L t
def look (L:Env):Operand→Option Value
  | .tmp t=>Zd L t
  | .const v=>some v
  | .global g=>some (.pointer (some ⟨g,0,none⟩))
  | .func f=>some (.func (.func f) #[] #[])
def J9 (L:Env):List Operand→Option (List Value)
  | []=>some []
  | x::xs=> match look L x,J9 L xs with | some v,some vs=>some (v::vs) | _,_=>none
structure Fr (n:Nat) (L:Env) (a:Act):Prop where
  size:a.tmps.size=n
  defers:a.defers=[]
  get: ∀t v,Zd L t=some v→a.tmps[t]? =some v
def pd (d:Option Nat) (v:Value) (L:Env):Env:= match d with | some d=>(d,v)::L | none=>L
theorem Fr.eval {n:Nat} {L:Env} {a:Act} (h:Fr n L a) {x:Operand} {v:Value} (hx:look L x=some v):a.eval x=v:= by
  cases x with
  | tmp t=> have :=h.get t v hx; simp [Act.eval,this]
  | const u=>simpa [look,Act.eval]using hx
  | global g=>simpa [look,Act.eval]using hx
  | func f=>simpa [look,Act.eval]using hx
theorem Fr.evals {n:Nat} {L:Env} {a:Act} (h:Fr n L a): ∀{xs:List Operand} {vs:List Value},J9 L xs=some vs→xs.map a.eval=vs
  | [],vs,hx=> by simp [J9]at hx; subst hx;rfl
  | x::xs,vs,hx=> by
    simp only[J9]at hx
    cases h1:look L x with
    | none=> simp [h1]at hx
    | some v=>
      cases h2:J9 L xs with
      | none=> simp [h1,h2]at hx
      | some us=> simp [h1,h2]at hx; subst hx; simp [h.eval h1,h.evals h2]
theorem Fr.put {n:Nat} {L:Env} {a:Act} (h:Fr n L a) (d:Option Nat) (v:Value) (hd:(match d with | some d=>Nat.blt d n | none=>true)=true):Fr n (pd d v L) (a.put d v):= by
  cases d with
  | none=> exact h
  | some d=>
    have hlt:d<n:= by simpa [Nat.blt_eq]using hd
    refine⟨by simp [Act.put,h.size], by simp [Act.put,h.defers], fun t u ht=> ?_⟩
    simp only[pd,Zd]at ht
    simp only[Act.put]
    rw[Array.getElem?_setIfInBounds]
    by_cases e:d=t
    · subst e
      rw[show Nat.beq d d=true from Nat.beq_refl d]at ht
      simp at ht
      rw[if_pos rfl,if_pos (by rw[h.size]; exact hlt),ht]
    · have :Nat.beq d t=false:= by
        cases hq:Nat.beq d t with
        | false=>rfl
        | true=> exact absurd (Nat.eq_of_beq_eq_true hq) e
      rw[this]at ht
      rw[if_neg e]
      exact h.get t u ht
def SubE (L:Env):Env→Prop
  | []=>True
  | (t,v)::L'=>Zd L t=some v∧SubE L L'
theorem SubE.get {L:Env}: ∀{L':Env},SubE L L'→ ∀t v,Zd L' t=some v→Zd L t=some v
  | [],_,t,v,h=> by simp [Zd]at h
  | (d,u)::L',⟨h1,h2⟩,t,v,h=> by
    simp only[Zd]at h
    cases hq:Nat.beq d t with
    | true=> rw[hq]at h; simp at h; subst h; rw[←Nat.eq_of_beq_eq_true hq]; exact h1
    | false=> rw[hq]at h; exact h2.get t v h
theorem Fr.sub {n:Nat} {L L':Env} {a:Act} (h:Fr n L a) (hs:SubE L L'):Fr n L' a:=⟨h.size,h.defers, fun t v ht=>h.get t v (hs.get t v ht)⟩
@[irreducible] def wl (P:Program) (n:Nat) (ops:Array Oper) (Q:Exit→Act→World→Prop) (rest:List Oper) (L:Env) (w:World):Prop:= ∀a,Fr n L a→wpList P ops Q rest a w
@[irreducible] def wc (P:Program) (n:Nat) (c:Code) (Q:Exit→Act→World→Prop) (L:Env) (w:World):Prop:= ∀a,Fr n L a→c.wp P Q a w
@[irreducible] def qs (n:Nat) (Q:Exit→Act→World→Prop) (e:Exit) (L:Env) (w:World):Prop:= ∀a,Fr n L a→Q e a w
section
variable {P:Program} {n:Nat} {ops:Array Oper} {Q:Exit→Act→World→Prop} {rest:List Oper} {L:Env} {w:World} {d:Option Nat} {ty:TypeId} {pos:String} {aft:Array Edge}
theorem DI {c:Code} {L':Env} (hs:SubE L L') (h:wc P n c Q L' w):wc P n c Q L w:= by unfold wc at *; exact fun a ha=>h a (ha.sub hs)
theorem Qg {x y:Code} (h:wc P n x (Exit.then (y.wp P Q) Q) L w):wc P n (.seq x y) Q L w:= by
  unfold wc at *; exact fun a ha=>Go.wp_seq (h a ha)
theorem Qb {id:Nat} {l:List Oper} (h:wl P n l.toArray Q l L w):wc P n (.region id l.toArray false) Q L w:= by
  unfold wc;unfold wl at h; exact fun a ha=>Go.wp_region_lit (h a ha)
theorem QD {id:Nat} {c:Code} (h:wc P n c (Exit.inBlock id Q) L w):wc P n (.block id c) Q L w:= by
  unfold wc at *; exact fun a ha=>Go.wp_block (h a ha)
theorem Qr (h:qs n Q .normal L w):wc P n .skip Q L w:= by unfold wc;unfold qs at h; exact fun a ha=>Go.wp_skip (h a ha)
theorem Xu {id:Nat} (h:qs n Q (.exit id) L w):wc P n (.exit id) Q L w:= by unfold wc;unfold qs at h; exact fun a ha=>Go.wp_exit (h a ha)
theorem Qo (h:qs n Q .ret L w):wc P n .ret Q L w:= by unfold wc;unfold qs at h; exact fun a ha=>Go.wp_ret (h a ha)
theorem Xd {c:Operand} {x y:Code} {t:Bool} (hc:look L c=some (.bool t)) (h1:t=true→wc P n x Q L w) (h2:t=false→wc P n y Q L w):wc P n (.cond c x y) Q L w:= by
  unfold wc at *; exact fun a ha=>Go.wp_cond_split (ha.eval hc) (fun e=>h1 e a ha) (fun e=>h2 e a ha)
theorem Qw {c:Operand} {x y:Code} {p:Prop} {dp:Decidable p} (hc:look L c=some (.bool (@decide p dp))) (h1:p→wc P n x Q L w) (h2: ¬p→wc P n y Q L w):wc P n (.cond c x y) Q L w:=
  Xd hc (fun e=>h1 (of_decide_eq_true e)) (fun e=>h2 (of_decide_eq_false e))
theorem QL {c:Operand} {x y:Code} (hc:look L c=some (.bool true)) (h1:wc P n x Q L w):wc P n (.cond c x y) Q L w:=Xd hc (fun _=>h1) (fun e=> by cases e)
theorem QF {c:Operand} {x y:Code} (hc:look L c=some (.bool false)) (h1:wc P n y Q L w):wc P n (.cond c x y) Q L w:=Xd hc (fun e=> by cases e) (fun _=>h1)
theorem Tv {c:Operand} {x y:Code} {g:Bool} (hc:look L c=some (.bool g)) (hg:g=true) (h1:wc P n x Q L w):wc P n (.cond c x y) Q L w:=Xd hc (fun _=>h1) (fun e=> by rw[hg]at e; cases e)
theorem SubE.nil:SubE L []:=trivial
theorem SubE.cons {t:Nat} {v:Value} {L':Env} (h:Zd L t=some v) (hs:SubE L L'):SubE L ((t,v)::L'):=⟨h,hs⟩
theorem zqc {α:Type} (a:α) (l m:List α):(a::l)++m=a::(l++m):=rfl
theorem zqd {α:Type} (l:List α):[]++l=l:=rfl
theorem zqa {α:Type} (a:α):[a].dropLast=[]:=rfl
theorem zqb {α:Type} (a c:α) (l:List α):(a::c::l).dropLast=a::(c::l).dropLast:=rfl
theorem zb1 {L:Env} {t0:Nat} {v0:Value} (h0:Zd L t0=some v0):SubE L [(t0,v0)]:= .cons h0 (.nil)
theorem FZ {L:Env} {t0:Nat} {v0:Value} {t1:Nat} {v1:Value} (h0:Zd L t0=some v0) (h1:Zd L t1=some v1):SubE L [(t0,v0),(t1,v1)]:= .cons h0 (.cons h1 (.nil))
theorem Dh {L:Env} {t0:Nat} {v0:Value} {t1:Nat} {v1:Value} {t2:Nat} {v2:Value} (h0:Zd L t0=some v0) (h1:Zd L t1=some v1) (h2:Zd L t2=some v2):SubE L [(t0,v0),(t1,v1),(t2,v2)]:= .cons h0 (.cons h1 (.cons h2 (.nil)))
theorem DF {L:Env} {t0:Nat} {v0:Value} {t1:Nat} {v1:Value} {t2:Nat} {v2:Value} {t3:Nat} {v3:Value} (h0:Zd L t0=some v0) (h1:Zd L t1=some v1) (h2:Zd L t2=some v2) (h3:Zd L t3=some v3):SubE L [(t0,v0),(t1,v1),(t2,v2),(t3,v3)]:= .cons h0 (.cons h1 (.cons h2 (.cons h3 (.nil))))
theorem SC {L:Env} {t0:Nat} {v0:Value} {t1:Nat} {v1:Value} {t2:Nat} {v2:Value} {t3:Nat} {v3:Value} {t4:Nat} {v4:Value} (h0:Zd L t0=some v0) (h1:Zd L t1=some v1) (h2:Zd L t2=some v2) (h3:Zd L t3=some v3) (h4:Zd L t4=some v4):SubE L [(t0,v0),(t1,v1),(t2,v2),(t3,v3),(t4,v4)]:= .cons h0 (.cons h1 (.cons h2 (.cons h3 (.cons h4 (.nil)))))
theorem Dc {L:Env} {t0:Nat} {v0:Value} {t1:Nat} {v1:Value} {t2:Nat} {v2:Value} {t3:Nat} {v3:Value} {t4:Nat} {v4:Value} {t5:Nat} {v5:Value} (h0:Zd L t0=some v0) (h1:Zd L t1=some v1) (h2:Zd L t2=some v2) (h3:Zd L t3=some v3) (h4:Zd L t4=some v4) (h5:Zd L t5=some v5):SubE L [(t0,v0),(t1,v1),(t2,v2),(t3,v3),(t4,v4),(t5,v5)]:= .cons h0 (.cons h1 (.cons h2 (.cons h3 (.cons h4 (.cons h5 (.nil))))))
theorem zb7 {L:Env} {t0:Nat} {v0:Value} {t1:Nat} {v1:Value} {t2:Nat} {v2:Value} {t3:Nat} {v3:Value} {t4:Nat} {v4:Value} {t5:Nat} {v5:Value} {t6:Nat} {v6:Value} (h0:Zd L t0=some v0) (h1:Zd L t1=some v1) (h2:Zd L t2=some v2) (h3:Zd L t3=some v3) (h4:Zd L t4=some v4) (h5:Zd L t5=some v5) (h6:Zd L t6=some v6):SubE L [(t0,v0),(t1,v1),(t2,v2),(t3,v3),(t4,v4),(t5,v5),(t6,v6)]:= .cons h0 (.cons h1 (.cons h2 (.cons h3 (.cons h4 (.cons h5 (.cons h6 (.nil)))))))
theorem zb8 {L:Env} {t0:Nat} {v0:Value} {t1:Nat} {v1:Value} {t2:Nat} {v2:Value} {t3:Nat} {v3:Value} {t4:Nat} {v4:Value} {t5:Nat} {v5:Value} {t6:Nat} {v6:Value} {t7:Nat} {v7:Value} (h0:Zd L t0=some v0) (h1:Zd L t1=some v1) (h2:Zd L t2=some v2) (h3:Zd L t3=some v3) (h4:Zd L t4=some v4) (h5:Zd L t5=some v5) (h6:Zd L t6=some v6) (h7:Zd L t7=some v7):SubE L [(t0,v0),(t1,v1),(t2,v2),(t3,v3),(t4,v4),(t5,v5),(t6,v6),(t7,v7)]:= .cons h0 (.cons h1 (.cons h2 (.cons h3 (.cons h4 (.cons h5 (.cons h6 (.cons h7 (.nil))))))))
theorem SB {L:Env} {t0:Nat} {v0:Value} {t1:Nat} {v1:Value} {t2:Nat} {v2:Value} {t3:Nat} {v3:Value} {t4:Nat} {v4:Value} {t5:Nat} {v5:Value} {t6:Nat} {v6:Value} {t7:Nat} {v7:Value} {t8:Nat} {v8:Value} (h0:Zd L t0=some v0) (h1:Zd L t1=some v1) (h2:Zd L t2=some v2) (h3:Zd L t3=some v3) (h4:Zd L t4=some v4) (h5:Zd L t5=some v5) (h6:Zd L t6=some v6) (h7:Zd L t7=some v7) (h8:Zd L t8=some v8):SubE L [(t0,v0),(t1,v1),(t2,v2),(t3,v3),(t4,v4),(t5,v5),(t6,v6),(t7,v7),(t8,v8)]:= .cons h0 (.cons h1 (.cons h2 (.cons h3 (.cons h4 (.cons h5 (.cons h6 (.cons h7 (.cons h8 (.nil)))))))))
theorem Qa {α:Sort _} {a:α}:a=a:=rfl
def L4:List Nat→Env→Env→Option Env
  | [],_,acc=>some acc
  | k::ks,L,acc=> match Zd L k with
    | some v=>L4 ks L ((k,v)::acc)
    | none=>none
theorem TS {L:Env}: ∀{ks:List Nat} {acc M:Env},L4 ks L acc=some M→SubE L acc→SubE L M
  | [],acc,M,h,ha=> by cases h; exact ha
  | k::ks,acc,M,h,ha=> by
    unfold L4 at h
    cases e:Zd L k with
    | none=> rw[e]at h; cases h
    | some v=> rw[e]at h; exact TS h ⟨e,ha⟩
theorem Qk {L':Env} {c:Code} (ks:List Nat) (h:L4 ks L []=some L') (hk:wc P n c Q L' w):wc P n c Q L w:=DI (TS h trivial) hk
theorem Zz (t:Nat) {g:Bool} (_ht:Zd L t=some (.bool g)) (h1:g=true→wl P n ops Q rest L w) (h2:g=false→wl P n ops Q rest L w):wl P n ops Q rest L w:= by
  cases g with
  | true=> exact h1 rfl
  | false=> exact h2 rfl
theorem Q3 (t:Nat) {p:Prop} {dp:Decidable p} (_ht:Zd L t=some (.bool (@decide p dp))) (h1:p→wl P n ops Q rest L w) (h2: ¬p→wl P n ops Q rest L w):wl P n ops Q rest L w:= by
  by_cases h:p
  · exact h1 h
  · exact h2 h
theorem Qh (h:qs n Q .normal L w):wl P n ops Q [] L w:= by unfold wl;unfold qs at h; exact fun a ha=>h a ha
theorem Qe {y:Code} (h:wc P n y Q L w):qs n (Exit.then (y.wp P Q) Q) .normal L w:= by unfold qs;unfold wc at h; exact fun a ha=>h a ha
theorem Q1 {K:Act→World→Prop} {id:Nat} (h:qs n Q (.exit id) L w):qs n (Exit.then K Q) (.exit id) L w:= by unfold qs at *; exact fun a ha=>h a ha
theorem Qm {K:Act→World→Prop} (h:qs n Q .ret L w):qs n (Exit.then K Q) .ret L w:= by unfold qs at *; exact fun a ha=>h a ha
theorem Qq {id:Nat} (h:qs n Q .normal L w):qs n (Exit.inBlock id Q) .normal L w:= by unfold qs at *; exact fun a ha=>h a ha
theorem Q0 {id:Nat} (h:qs n Q .ret L w):qs n (Exit.inBlock id Q) .ret L w:= by unfold qs at *; exact fun a ha=>h a ha
theorem QJ {id:Nat} (h:qs n Q .normal L w):qs n (Exit.inBlock id Q) (.exit id) L w:= by
  unfold qs at *; intro a ha; simp only[Exit.inBlock,if_true]; exact h a ha
theorem Te {id id':Nat} (hne:Nat.beq id' id=false) (h:qs n Q (.exit id') L w):qs n (Exit.inBlock id Q) (.exit id') L w:= by
  unfold qs at *; intro a ha; simp only[Exit.inBlock]; rw[if_neg (fun e=> by subst e; rw[Nat.beq_refl]at hne; cases hne)]; exact h a ha
theorem V7 {x y:Code} (Mid:Env→World→Prop) (h1:wc P n x (Exit.then (fun a w'=> ∃L',Fr n L' a∧Mid L' w') Q) L w) (h2: ∀L' w',Mid L' w'→wc P n y Q L' w'):wc P n (.seq x y) Q L w:= by
  unfold wc at *
  intro a ha
  refine Go.wp_seq (Go.wp_mono (h1 a ha) fun e a' w' hq=> ?_)
  cases e with
  | normal=> obtain⟨L',hf,hm⟩:=hq; exact h2 L' w' hm a' hf
  | exit id=> exact hq
  | goto l=> exact hq
  | ret=> exact hq
  | panic ch=> exact hq
  | outgrown=> exact hq
theorem JL {Mid:Env→World→Prop} {L':Env} (hs:SubE L L') (h:Mid L' w):qs n (Exit.then (fun a w'=> ∃L',Fr n L' a∧Mid L' w') Q) .normal L w:= by
  unfold qs; exact fun a ha=>⟨L',ha.sub hs,h⟩
theorem Lz {p:Nat→Prop} (h: ∃i,p i): ∃i,p i∧ ∀j,j<i→ ¬p j:= by
  obtain⟨i,hi⟩:=h
  induction i using Nat.strongRecOn with
  | _ i ih=>
    by_cases hex: ∃j,j<i∧p j
    · obtain⟨j,hj,hp⟩:=hex; exact ih j hj hp
    · exact⟨i,hi, fun j hj hp=>hex ⟨j,hj,hp⟩⟩
theorem XD {c:Code} (Inv:Nat→Env→World→Prop) {L0:Env} (k0:Nat) (hs:SubE L L0) (h0:Inv k0 L0 w)
    (round: ∀k L' w',Inv k L' w'→wc P n c (Exit.then (fun a w1=> ∃k1 L1,k1<k∧Fr n L1 a∧Inv k1 L1 w1) Q) L' w'):wc P n (.loop c) Q L w:= by
  unfold wc at *
  intro a ha
  have hμ: ∃μ:Act→World→Nat,∀a w,(∃k L',Fr n L' a∧Inv k L' w)→(∃L',Fr n L' a∧Inv (μ a w) L' w)∧ ∀k,(∃L',Fr n L' a∧Inv k L' w)→μ a w≤k:= by
    have hex: ∀(a:Act) (w:World),∃m:Nat,(∃k L',Fr n L' a∧Inv k L' w)→(∃L',Fr n L' a∧Inv m L' w)∧ ∀k,(∃L',Fr n L' a∧Inv k L' w)→m≤k:= by
      intro a w
      by_cases h: ∃k L',Fr n L' a∧Inv k L' w
      · obtain⟨m,hm,hl⟩:=Lz (p:= fun k=> ∃L',Fr n L' a∧Inv k L' w) h
        exact⟨m, fun _=>⟨hm, fun k hk=>Nat.le_of_not_lt fun q=>hl k q hk⟩⟩
      · exact⟨0, fun q=>absurd q h⟩
    exact⟨fun a w=>(hex a w).choose, fun a w h=>(hex a w).choose_spec h⟩
  obtain⟨μ,hμ⟩:=hμ
  refine Go.wp_loop (fun a w=> ∃k L',Fr n L' a∧Inv k L' w) μ ⟨k0,L0,ha.sub hs,h0⟩ fun a w hI=> ?_
  obtain⟨⟨L',hf,hi⟩,_⟩:=hμ a w hI
  refine Go.wp_mono (round _ L' w hi a hf) fun e a1 w1 hq=> ?_
  cases e with
  | normal=>
    obtain⟨k1,L1,hlt,hf1,hi1⟩:=hq
    exact⟨⟨k1,L1,hf1,hi1⟩,Nat.lt_of_le_of_lt ((hμ a1 w1 ⟨k1,L1,hf1,hi1⟩).2 k1 ⟨L1,hf1,hi1⟩) hlt⟩
  | exit id=> exact hq
  | goto l=> exact hq
  | ret=> exact hq
  | panic ch=> exact hq
  | outgrown=> exact hq
theorem QY {Inv:Nat→Env→World→Prop} {k k1:Nat} {L1:Env} (hs:SubE L L1) (hlt:k1<k) (h:Inv k1 L1 w):
    qs n (Exit.then (fun a w1=> ∃k1 L1,k1<k∧Fr n L1 a∧Inv k1 L1 w1) Q) .normal L w:= by
  unfold qs; exact fun a ha=>⟨k1,L1,hlt,ha.sub hs,h⟩
def Ch:Nat→List Value→Env
  | _,[]=>[]
  | i,v::vs=>(i,v)::Ch (i+1) vs
theorem B5: ∀(vs:List Value) (i t:Nat) (v:Value),Zd (Ch i vs) t=some v→i≤t∧vs[t -i]? =some v
  | [],i,t,v,h=> by simp [Ch,Zd]at h
  | u::vs,i,t,v,h=> by
    simp only[Ch,Zd]at h
    cases hq:Nat.beq i t with
    | true=> rw[hq]at h; simp at h; subst h; have :=Nat.eq_of_beq_eq_true hq; subst this; simp
    | false=>
      rw[hq]at h
      obtain⟨h1,h2⟩:=B5 vs (i+1) t v h
      refine⟨by omega, ?_⟩
      rw[show t -i=(t -(i+1))+1 by omega]
      simpa using h2
theorem Qy {f:FuncId} {fn:Func} {c:Code} {args:List Value} {R:Ending→World→Prop} (hf:P.funcs[f]? =some fn) (hb:fn.body=some c) (hn:fn.ntmps=n) (hl:Nat.ble args.length n=true)
    (h:wc P n c (bodyPost P fn R) (Ch 0 args) w):Calls P f args.toArray w R:= by
  have hle:args.length≤n:=Xe hl
  unfold wc at h
  refine calls_of_wp hf hb (h _ ⟨by simp [hn];omega,rfl, fun t v ht=> ?_⟩)
  obtain⟨_,h2⟩:=B5 args 0 t v ht
  simp only[Nat.sub_zero]at h2
  have hlt:=(Jo h2).1
  rw[Array.getElem?_append_left (by simpa using hlt)]
  simpa using h2
theorem MC {fn:Func} {R:Ending→World→Prop} {v:Value} {e:Exit} (he:e= .normal∨e= .ret) (hr: ∀a,Fr n L a→(results fn a.tmps).run P w= .ok v w) (h:R (.returned v) w):qs n (bodyPost P fn R) e L w:= by
  unfold qs
  intro a ha
  rcases he with rfl | rfl
  · exact⟨ha.defers,v,hr a ha,h⟩
  · exact⟨ha.defers,v,hr a ha,h⟩
theorem H5 {fn:Func} {R:Ending→World→Prop} {e:Exit} (he:e= .normal∨e= .ret) (hf:fn.results= #[]) (h:R (.returned (.tuple #[])) w):qs n (bodyPost P fn R) e L w:=
  MC he (fun a _=> by simp [results,hf]) h
theorem Q7 {fn:Func} {R:Ending→World→Prop} {t:Nat} {v:Value} {e:Exit} (he:e= .normal∨e= .ret) (hf:fn.results= #[.tmp t]) (hv:Zd L t=some v) (h:R (.returned v) w):qs n (bodyPost P fn R) e L w:=
  MC he (fun a ha=> by have :=ha.get t v hv; simp [results,hf,this]) h
theorem ZI {fn:Func} {R:Ending→World→Prop} {t u:Nat} {v x:Value} {e:Exit} (he:e= .normal∨e= .ret) (hf:fn.results= #[.tmp t,.tmp u]) (hv:Zd L t=some v) (hx:Zd L u=some x) (h:R (.returned (.tuple #[v,x])) w):qs n (bodyPost P fn R) e L w:=
  MC he (fun a ha=> by have :=ha.get t v hv; have :=ha.get u x hx; simp [results,hf, *]) h
def Ret (R:Value→World→Prop) (e:Ending) (w':World):Prop:= ∃v,e= .returned v∧R v w'
theorem Ret.mono {R R':Value→World→Prop} {e:Ending} {w':World} (h:Ret R e w') (hr: ∀v w',R v w'→R' v w'):Ret R' e w':=let ⟨v,h1,h2⟩:=h;⟨v,h1,hr _ _ h2⟩
theorem Zk {o:Oper} {R:Value→World→Prop} (hg:o.guard=none) (hd:(match o.dst with | some d=>Nat.blt d n | none=>true)=true) (h: ∀a,Fr n L a→does P o a w R)
    (hk: ∀v w',R v w'→wl P n ops Q rest (pd o.dst v L) w'):wl P n ops Q (o::rest) L w:= by
  unfold wl at *
  intro a ha
  exact Kc hg (h a ha) (fun v w' hr=>hk v w' hr _ (ha.put _ v hd))
def Ev (P:Program) (L:Env) (w:World) (o:Oper) (v:Value):Prop:= ∀ρ:Operand→Value,(∀x u,look L x=some u→ρ x=u)→(execOp ρ o).run P w= .ok (.value v) w
theorem Xv {d:Nat} {op:Op} {v:Value} (hd:Nat.blt d n=true) (h:Ev P L w ⟨some d,op,ty,pos,aft,none⟩ v)
    (hk:wl P n ops Q rest ((d,v)::L) w):wl P n ops Q (⟨some d,op,ty,pos,aft,none⟩::rest) L w:=
  Zk rfl hd (R:= fun u w'=>u=v∧w'=w) (fun a ha=>⟨v,w,.inl (h a.eval fun x u hx=>ha.eval hx),rfl,rfl⟩) (fun u w' ⟨e1,e2⟩=> by subst e1 e2; exact hk)
theorem Qj {o:Op} {j t:Nat} {want g:Bool} (hj:(ops[j]?).bind (·.dst)=some t) (ht:Zd L t=some (.bool g)) (hg:g=want) (h:wl P n ops Q (⟨d,o,ty,pos,aft,none⟩::rest) L w):wl P n ops Q (⟨d,o,ty,pos,aft,some (j,want)⟩::rest) L w:= by
  unfold wl at *
  intro a ha
  have :=h a ha
  have hw:Region.wanted ⟨d,o,ty,pos,aft,some (j,want)⟩ (yielded ops a.tmps)=true:= by
    have :=ha.get t _ ht
    simp [Region.wanted,yielded,hj,this,hg]
  unfold wpList at this⊢
  rw[if_pos hw]
  rw[if_pos (by simp [Region.wanted])]at this
  exact this
theorem Qf {o:Op} {j t:Nat} {want g:Bool} (hj:(ops[j]?).bind (·.dst)=some t) (ht:Zd L t=some (.bool g)) (hg:g= !want) (hd:(match d with | some d=>Nat.blt d n | none=>true)=true) (h:wl P n ops Q rest (pd d undef L) w):wl P n ops Q (⟨d,o,ty,pos,aft,some (j,want)⟩::rest) L w:= by
  unfold wl at *
  intro a ha
  have hw:Region.wanted ⟨d,o,ty,pos,aft,some (j,want)⟩ (yielded ops a.tmps)=false:= by
    have :=ha.get t _ ht
    simp [Region.wanted,yielded,hj,this,hg]
  unfold wpList
  rw[if_neg (by rw[hw]; simp)]
  exact h _ (ha.put d undef hd)
theorem Q5 {o:Op} {j t:Nat} {want:Bool} (hj:(ops[j]?).bind (·.dst)=some t) (ht:Zd L t=some undef) (hd:(match d with | some d=>Nat.blt d n | none=>true)=true) (h:wl P n ops Q rest (pd d undef L) w):wl P n ops Q (⟨d,o,ty,pos,aft,some (j,want)⟩::rest) L w:= by
  unfold wl at *
  intro a ha
  have hw:Region.wanted ⟨d,o,ty,pos,aft,some (j,want)⟩ (yielded ops a.tmps)=false:= by
    have :=ha.get t _ ht
    simp [Region.wanted,yielded,hj,this,undef]
  unfold wpList
  rw[if_neg (by rw[hw]; simp)]
  exact h _ (ha.put d undef hd)
end
abbrev strV (l:List UInt8):Value:= .string ⟨l.toArray⟩
abbrev intV (a:Int):Value:= .int .i64 a
abbrev ptrV (b o:Nat):Value:= .pointer (some ⟨b,o,none⟩)
def Xl (P:Program) (s j:Nat):Option Nat:= match P.underlying s with
  | some (.struct fs)=> match fs[j]? with
    | some f=> match P.info? f.type with
      | some i=>bif Nat.beq i.size 0 then none else some f.offset
      | none=>none
    | none=>none
  | _=>none
def RM (P:Program) (s j:Nat):Option (Nat×Option Nat):= match P.underlying s with
  | some (.struct fs)=> match fs[j]? with
    | some f=> match P.underlying f.type,P.info? f.type with
      | some d,some i=>some (f.offset,bif VS d then some i.size else none)
      | _,_=>none
    | none=>none
  | _=>none
def W9 (P:Program) (t:Nat):Option Bool:=(P.underlying t).map VS
def Wv (P:Program) (t:Nat):Option Nat:=(P.info? t).map (·.size)
def Z9 (P:Program) (t:Nat):Option (Option Value):=(P.info? t).map (·.zero)
def Ho (P:Program) (t:Nat):Option Nat:= match P.underlying t with
  | some (.slice e)=>Wv P e
  | _=>none
def QZ (P:Program) (f:Nat):Bool:= match P.funcs[f]? with
  | some fn => !(fn.name == "runtime.NumGoroutine") && fn.body.isSome
  | none=>false
section
variable {P:Program} {n:Nat} {ops:Array Oper} {Q:Exit→Act→World→Prop} {rest:List Oper} {L:Env} {w:World} {d:Nat} {ty:TypeId} {pos:String} {aft:Array Edge}
theorem XA {x:Operand} {v:Value} (hx:look L x=some v):Ev P L w ⟨some d,.move x,ty,pos,aft,none⟩ (v):= fun ρ hρ=> by simp [execOp,hρ _ _ hx]
theorem Qd {x:Operand} {v:Value} (hx:look L x=some v) (hd:Nat.blt d n=true) (hk:wl P n ops Q rest ((d,v)::L) w):wl P n ops Q (⟨some d,.move x,ty,pos,aft,none⟩::rest) L w:=
  Xv hd (XA hx) hk
theorem Cc {x:Operand} {v:Value} (hx:look L x=some v):Ev P L w ⟨some d,.assign x,ty,pos,aft,none⟩ (v):= fun ρ hρ=> by simp [execOp,hρ _ _ hx]
theorem Qc {x:Operand} {v:Value} (hx:look L x=some v) (hd:Nat.blt d n=true) (hk:wl P n ops Q rest ((d,v)::L) w):wl P n ops Q (⟨some d,.assign x,ty,pos,aft,none⟩::rest) L w:=
  Xv hd (Cc hx) hk
theorem XL {c x y:Operand} {g:Bool} {v:Value} (hc:look L c=some (.bool g)) (hg:g=true) (hx:look L x=some v):Ev P L w ⟨some d,.pick c x y,ty,pos,aft,none⟩ (v):= fun ρ hρ=> by subst hg; simp [execOp,hρ _ _ hc,hρ _ _ hx,asBool]
theorem Qx {c x y:Operand} {g:Bool} {v:Value} (hc:look L c=some (.bool g)) (hg:g=true) (hx:look L x=some v) (hd:Nat.blt d n=true) (hk:wl P n ops Q rest ((d,v)::L) w):wl P n ops Q (⟨some d,.pick c x y,ty,pos,aft,none⟩::rest) L w:=
  Xv hd (XL hc hg hx) hk
theorem X0 {c x y:Operand} {g:Bool} {v:Value} (hc:look L c=some (.bool g)) (hg:g=false) (hy:look L y=some v):Ev P L w ⟨some d,.pick c x y,ty,pos,aft,none⟩ (v):= fun ρ hρ=> by subst hg; simp [execOp,hρ _ _ hc,hρ _ _ hy,asBool]
theorem Qz {c x y:Operand} {g:Bool} {v:Value} (hc:look L c=some (.bool g)) (hg:g=false) (hy:look L y=some v) (hd:Nat.blt d n=true) (hk:wl P n ops Q rest ((d,v)::L) w):wl P n ops Q (⟨some d,.pick c x y,ty,pos,aft,none⟩::rest) L w:=
  Xv hd (X0 hc hg hy) hk
section ints
variable {x y:Operand} {k:IntKind} {a b c:Int} {t2:TypeId} {t:TypeId}
theorem LK (hx:look L x=some (.int k a)) (hy:look L y=some (.int k b)) (hr:k.wrap (a+b)=c):Ev P L w ⟨some d,.binOp .add t x y t2,ty,pos,aft,none⟩ (.int k c):= fun ρ hρ=> by simp [execOp,hρ _ _ hx,hρ _ _ hy,eqGuard,binOp,Op.intArith,hr]
theorem Cp (hx:look L x=some (.int k a)) (hy:look L y=some (.int k b)) (hr:k.wrap (a+b)=c) (hd:Nat.blt d n=true) (hk:wl P n ops Q rest ((d,.int k c)::L) w):wl P n ops Q (⟨some d,.binOp .add t x y t2,ty,pos,aft,none⟩::rest) L w:=
  Xv hd (LK hx hy hr) hk
theorem LG (hx:look L x=some (.int k a)) (hy:look L y=some (.int k b)) (hr:k.wrap (a -b)=c):Ev P L w ⟨some d,.binOp .sub t x y t2,ty,pos,aft,none⟩ (.int k c):= fun ρ hρ=> by simp [execOp,hρ _ _ hx,hρ _ _ hy,eqGuard,binOp,Op.intArith,hr]
theorem wl_subW (hx:look L x=some (.int k a)) (hy:look L y=some (.int k b)) (hr:k.wrap (a -b)=c) (hd:Nat.blt d n=true) (hk:wl P n ops Q rest ((d,.int k c)::L) w):wl P n ops Q (⟨some d,.binOp .sub t x y t2,ty,pos,aft,none⟩::rest) L w:=
  Xv hd (LG hx hy hr) hk
theorem ev_mulW (hx:look L x=some (.int k a)) (hy:look L y=some (.int k b)) (hr:k.wrap (a*b)=c):Ev P L w ⟨some d,.binOp .mul t x y t2,ty,pos,aft,none⟩ (.int k c):= fun ρ hρ=> by simp [execOp,hρ _ _ hx,hρ _ _ hy,eqGuard,binOp,Op.intArith,hr]
theorem Um {a:Int} (h1: -9223372036854775808≤a) (h2:a≤9223372036854775807):IntKind.i64.wrap a=a:= by
  simp only[IntKind.wrap,IntKind.signed,IntKind.bits]; simp [Int.bmod];omega
theorem Xq (hx:look L x=some (.int .i64 a)) (hy:look L y=some (.int .i64 b)) (h1: -9223372036854775808≤a+b) (h2:a+b≤9223372036854775807) (hd:Nat.blt d n=true) (hk:wl P n ops Q rest ((d,.int .i64 (a+b))::L) w):wl P n ops Q (⟨some d,.binOp .add t x y t2,ty,pos,aft,none⟩::rest) L w:=
  Cp hx hy (Um h1 h2) hd hk
theorem JN (hx:look L x=some (.int .i64 a)) (hy:look L y=some (.int .i64 b)) (h1: -9223372036854775808≤a -b) (h2:a -b≤9223372036854775807) (hd:Nat.blt d n=true) (hk:wl P n ops Q rest ((d,.int .i64 (a -b))::L) w):wl P n ops Q (⟨some d,.binOp .sub t x y t2,ty,pos,aft,none⟩::rest) L w:=
  wl_subW hx hy (Um h1 h2) hd hk
theorem ev_quo (hx:look L x=some (.int .i64 a)) (hy:look L y=some (.int .i64 b)) (h0:0≤a) (hb:0<b) (ha:a≤9223372036854775807):Ev P L w ⟨some d,.binOp .quo t x y t2,ty,pos,aft,none⟩ (.int .i64 (a/ b)):= fun ρ hρ=> by
    have hb':b≠0:= by omega
    have h3:0≤a/ b:=Int.ediv_nonneg h0 (by omega)
    have h4:a/ b≤a:=Int.ediv_le_self b h0
    have e:IntKind.i64.wrap (a.tdiv b)=a/ b:= by rw[Int.tdiv_eq_ediv_of_nonneg h0]; exact Um (by omega) (by omega)
    simp [execOp,hρ _ _ hx,hρ _ _ hy,eqGuard,binOp,Op.intDiv,hb',e]
theorem IE (hx:look L x=some (.int .i64 a)) (hy:look L y=some (.int .i64 b)) (h1: -9223372036854775808≤a+b) (h2:a+b≤9223372036854775807):Ev P L w ⟨some d,.binOp .add t x y t2,ty,pos,aft,none⟩ (.int .i64 (a+b)):=LK hx hy (Um h1 h2)
theorem ev_sub' (hx:look L x=some (.int .i64 a)) (hy:look L y=some (.int .i64 b)) (h1: -9223372036854775808≤a -b) (h2:a -b≤9223372036854775807):Ev P L w ⟨some d,.binOp .sub t x y t2,ty,pos,aft,none⟩ (.int .i64 (a -b)):=LG hx hy (Um h1 h2)
theorem F6 (hx:look L x=some (.int .i64 a)) (hy:look L y=some (.int .i64 b)) (h1: -9223372036854775808≤a*b) (h2:a*b≤9223372036854775807):Ev P L w ⟨some d,.binOp .mul t x y t2,ty,pos,aft,none⟩ (.int .i64 (a*b)):=ev_mulW hx hy (Um h1 h2)
theorem SG (hx:look L x=some (.int .i64 a)) (hy:look L y=some (.int .i64 b)) (h0:0≤a) (hb:0<b) (ha:a≤9223372036854775807) (hd:Nat.blt d n=true) (hk:wl P n ops Q rest ((d,.int .i64 (a/ b))::L) w):wl P n ops Q (⟨some d,.binOp .quo t x y t2,ty,pos,aft,none⟩::rest) L w:=
  Xv hd (ev_quo hx hy h0 hb ha) hk
theorem ev_rem (hx:look L x=some (.int .i64 a)) (hy:look L y=some (.int .i64 b)) (h0:0≤a) (hb:0<b):Ev P L w ⟨some d,.binOp .rem t x y t2,ty,pos,aft,none⟩ (.int .i64 (a%b)):= fun ρ hρ=> by
    have hb':b≠0:= by omega
    have e:a.tmod b=a%b:=Int.tmod_eq_emod_of_nonneg h0
    simp [execOp,hρ _ _ hx,hρ _ _ hy,eqGuard,binOp,Op.intDiv,hb',e]
theorem SF (hx:look L x=some (.int .i64 a)) (hy:look L y=some (.int .i64 b)) (h0:0≤a) (hb:0<b) (hd:Nat.blt d n=true) (hk:wl P n ops Q rest ((d,.int .i64 (a%b))::L) w):wl P n ops Q (⟨some d,.binOp .rem t x y t2,ty,pos,aft,none⟩::rest) L w:=
  Xv hd (ev_rem hx hy h0 hb) hk
theorem MF (hx:look L x=some (.int k a)) (hy:look L y=some (.int k b)):Ev P L w ⟨some d,.binOp .lss t x y t2,ty,pos,aft,none⟩ (.bool (decide (a<b))):= fun ρ hρ=> by simp [execOp,hρ _ _ hx,hρ _ _ hy,eqGuard,binOp,Op.intCmp]
theorem Xz (hx:look L x=some (.int k a)) (hy:look L y=some (.int k b)) (hd:Nat.blt d n=true) (hk:wl P n ops Q rest ((d,.bool (decide (a<b)))::L) w):wl P n ops Q (⟨some d,.binOp .lss t x y t2,ty,pos,aft,none⟩::rest) L w:=
  Xv hd (MF hx hy) hk
theorem ev_leq (hx:look L x=some (.int k a)) (hy:look L y=some (.int k b)):Ev P L w ⟨some d,.binOp .leq t x y t2,ty,pos,aft,none⟩ (.bool (decide (a≤b))):= fun ρ hρ=> by simp [execOp,hρ _ _ hx,hρ _ _ hy,eqGuard,binOp,Op.intCmp]
theorem W7 (hx:look L x=some (.int k a)) (hy:look L y=some (.int k b)) (hd:Nat.blt d n=true) (hk:wl P n ops Q rest ((d,.bool (decide (a≤b)))::L) w):wl P n ops Q (⟨some d,.binOp .leq t x y t2,ty,pos,aft,none⟩::rest) L w:=
  Xv hd (ev_leq hx hy) hk
theorem F7 (hx:look L x=some (.int k a)) (hy:look L y=some (.int k b)):Ev P L w ⟨some d,.binOp .gtr t x y t2,ty,pos,aft,none⟩ (.bool (decide (b<a))):= fun ρ hρ=> by simp [execOp,hρ _ _ hx,hρ _ _ hy,eqGuard,binOp,Op.intCmp]
theorem We (hx:look L x=some (.int k a)) (hy:look L y=some (.int k b)) (hd:Nat.blt d n=true) (hk:wl P n ops Q rest ((d,.bool (decide (b<a)))::L) w):wl P n ops Q (⟨some d,.binOp .gtr t x y t2,ty,pos,aft,none⟩::rest) L w:=
  Xv hd (F7 hx hy) hk
theorem ev_geq (hx:look L x=some (.int k a)) (hy:look L y=some (.int k b)):Ev P L w ⟨some d,.binOp .geq t x y t2,ty,pos,aft,none⟩ (.bool (decide (b≤a))):= fun ρ hρ=> by simp [execOp,hρ _ _ hx,hρ _ _ hy,eqGuard,binOp,Op.intCmp]
theorem Jj (hx:look L x=some (.int k a)) (hy:look L y=some (.int k b)) (hd:Nat.blt d n=true) (hk:wl P n ops Q rest ((d,.bool (decide (b≤a)))::L) w):wl P n ops Q (⟨some d,.binOp .geq t x y t2,ty,pos,aft,none⟩::rest) L w:=
  Xv hd (ev_geq hx hy) hk
theorem HV (hx:look L x=some (.int k a)) (hy:look L y=some (.int k b)):Ev P L w ⟨some d,.binOp .eql t x y t2,ty,pos,aft,none⟩ (.bool (decide (a=b))):= fun ρ hρ=> by simp [execOp,hρ _ _ hx,hρ _ _ hy,eqGuard,binOp,Op.intCmp];rfl
theorem QO (hx:look L x=some (.int k a)) (hy:look L y=some (.int k b)) (hd:Nat.blt d n=true) (hk:wl P n ops Q rest ((d,.bool (decide (a=b)))::L) w):wl P n ops Q (⟨some d,.binOp .eql t x y t2,ty,pos,aft,none⟩::rest) L w:=
  Xv hd (HV hx hy) hk
theorem Ye (hx:look L x=some (.int k a)) (hy:look L y=some (.int k b)):Ev P L w ⟨some d,.binOp .neq t x y t2,ty,pos,aft,none⟩ (.bool (decide (a≠b))):= fun ρ hρ=> by simp [execOp,hρ _ _ hx,hρ _ _ hy,eqGuard,binOp,Op.intCmp];rfl
theorem Xt (hx:look L x=some (.int k a)) (hy:look L y=some (.int k b)) (hd:Nat.blt d n=true) (hk:wl P n ops Q rest ((d,.bool (decide (a≠b)))::L) w):wl P n ops Q (⟨some d,.binOp .neq t x y t2,ty,pos,aft,none⟩::rest) L w:=
  Xv hd (Ye hx hy) hk
theorem S3 (a:Int) (m:Nat) (hm:m<64):IntKind.i64.wrap ((BitVec.ofInt 64 a&&&BitVec.ofInt 64 ((2^m -1:Nat):Int)).toNat:Int)=a%(2^m:Nat):= by
  have h1:(BitVec.ofInt 64 a&&&BitVec.ofInt 64 ((2^m -1:Nat):Int)).toNat=(a%2^64).toNat%2^m:= by
    rw[BitVec.toNat_and,BitVec.toNat_ofInt,BitVec.ofInt_natCast,BitVec.toNat_ofNat]
    rw[Nat.mod_eq_of_lt (a:=2^m -1) (by have :2^m<2^64:=Nat.pow_lt_pow_right (by omega) hm;omega)]
    exact Nat.and_two_pow_sub_one_eq_mod _ _
  have h2:((a%2^64).toNat:Int)=a%2^64:=Int.toNat_of_nonneg (Int.emod_nonneg _ (by decide))
  have h3:(((a%2^64).toNat%2^m:Nat):Int)=a%(2^m:Nat):= by
    rw[Int.natCast_emod,h2]
    have :(((2:Nat)^m:Nat):Int)∣(2^64:Int):= by
      refine⟨((2^(64 -m):Nat):Int), ?_⟩
      rw[←Int.natCast_mul,←Nat.pow_add, show m+(64 -m)=64 by omega];rfl
    exact Int.emod_emod_of_dvd _ this
  rw[h1,h3]
  have hlt:a%(2^m:Nat)<(2^m:Nat):=Int.emod_lt_of_pos _ (by have :=Nat.two_pow_pos m;omega)
  have hle:(2^m:Nat)≤2^63:=Nat.pow_le_pow_right (by omega) (by omega)
  have h0:0≤a%(2^m:Nat):=Int.emod_nonneg _ (by have :=Nat.two_pow_pos m;omega)
  exact Um (by omega) (by omega)
theorem V6 (m:Nat) (hx:look L x=some (.int .i64 a)) (hy:look L y=some (.int .i64 b)) (hb:b=((2^m -1:Nat):Int)) (hm:Nat.blt m 64=true) {q:Int} (hq:((2^m:Nat):Int)=q) (hd:Nat.blt d n=true) (hk:wl P n ops Q rest ((d,.int .i64 (a%q))::L) w):wl P n ops Q (⟨some d,.binOp .and t x y t2,ty,pos,aft,none⟩::rest) L w:= by
  subst hq
  refine Xv hd (fun ρ hρ=> ?_) hk
  subst hb
  have :=S3 a m (by simpa [Nat.blt_eq]using hm)
  simp only[execOp,hρ _ _ hx,hρ _ _ hy,binOp,Op.intBits]
  simp only[IntKind.bits,eqGuard]
  simp only[BitVec.ofInt_natCast]at this⊢
  simp [-BitVec.toNat_and]at this⊢
  exact this
theorem K5 {g:Bool} (hx:look L x=some (.bool g)):Ev P L w ⟨some d,.unOp .not t x,ty,pos,aft,none⟩ (.bool (!g)):= fun ρ hρ=> by simp [execOp,hρ _ _ hx,Op.unary]
theorem XS {g:Bool} (hx:look L x=some (.bool g)) (hd:Nat.blt d n=true) (hk:wl P n ops Q rest ((d,.bool (!g))::L) w):wl P n ops Q (⟨some d,.unOp .not t x,ty,pos,aft,none⟩::rest) L w:=
  Xv hd (K5 hx) hk
theorem run_eqB (hu:P.underlying t=some .bool) (g h:Bool) (w:World):(Op.equal t (.bool g) (.bool h)).run P w= .ok (g==h) w:= by
  unfold Op.equal Op.maxDepth Op.equalIn
  simp only[Sem.run_bind,run_underlying hu,Result.andThen]
  rfl
theorem Dl {e:TypeId} (hu:P.underlying t=some (.pointer e)) (q:Option Addr) (w:World):(Op.equal t (.pointer q) (.pointer none)).run P w= .ok q.isNone w:= by
  unfold Op.equal Op.maxDepth Op.equalIn
  simp only[Sem.run_bind,run_underlying hu,Result.andThen]
  cases q<;>rfl
theorem ev_eqlB {g h:Bool} (hu:P.underlying t=some .bool) (hx:look L x=some (.bool g)) (hy:look L y=some (.bool h)):Ev P L w ⟨some d,.binOp .eql t x y t2,ty,pos,aft,none⟩ (.bool (g==h)):= fun ρ hρ=> by simp [execOp,hρ _ _ hx,hρ _ _ hy,eqGuard,binOp,run_eqB hu]
theorem wl_eqlB {g h:Bool} (hu:P.underlying t=some .bool) (hx:look L x=some (.bool g)) (hy:look L y=some (.bool h)) (hd:Nat.blt d n=true) (hk:wl P n ops Q rest ((d,.bool (g==h))::L) w):wl P n ops Q (⟨some d,.binOp .eql t x y t2,ty,pos,aft,none⟩::rest) L w:=
  Xv hd (ev_eqlB hu hx hy) hk
theorem Bu {e:TypeId} {q:Addr} (hu:P.underlying t=some (.pointer e)) (hx:look L x=some (.pointer (some q))) (hy:look L y=some (.pointer none)):Ev P L w ⟨some d,.binOp .eql t x y t2,ty,pos,aft,none⟩ (.bool false):= fun ρ hρ=> by simp [execOp,hρ _ _ hx,hρ _ _ hy,eqGuard,binOp,Dl hu]
theorem ZJ {e:TypeId} {q:Addr} (hu:P.underlying t=some (.pointer e)) (hx:look L x=some (.pointer (some q))) (hy:look L y=some (.pointer none)) (hd:Nat.blt d n=true) (hk:wl P n ops Q rest ((d,.bool false)::L) w):wl P n ops Q (⟨some d,.binOp .eql t x y t2,ty,pos,aft,none⟩::rest) L w:=
  Xv hd (Bu hu hx hy) hk
theorem Uk {e:TypeId} {q:Addr} (hu:P.underlying t=some (.pointer e)) (hx:look L x=some (.pointer (some q))) (hy:look L y=some (.pointer none)):Ev P L w ⟨some d,.binOp .neq t x y t2,ty,pos,aft,none⟩ (.bool true):= fun ρ hρ=> by simp [execOp,hρ _ _ hx,hρ _ _ hy,eqGuard,binOp,Dl hu]
theorem Vd {e:TypeId} {q:Addr} (hu:P.underlying t=some (.pointer e)) (hx:look L x=some (.pointer (some q))) (hy:look L y=some (.pointer none)) (hd:Nat.blt d n=true) (hk:wl P n ops Q rest ((d,.bool true)::L) w):wl P n ops Q (⟨some d,.binOp .neq t x y t2,ty,pos,aft,none⟩::rest) L w:=
  Xv hd (Uk hu hx hy) hk
theorem VI {e:TypeId} (hu:P.underlying t=some (.pointer e)) (hx:look L x=some (.pointer none)) (hy:look L y=some (.pointer none)):Ev P L w ⟨some d,.binOp .eql t x y t2,ty,pos,aft,none⟩ (.bool true):= fun ρ hρ=> by simp [execOp,hρ _ _ hx,hρ _ _ hy,eqGuard,binOp,Dl hu]
theorem ZN {e:TypeId} (hu:P.underlying t=some (.pointer e)) (hx:look L x=some (.pointer none)) (hy:look L y=some (.pointer none)) (hd:Nat.blt d n=true) (hk:wl P n ops Q rest ((d,.bool true)::L) w):wl P n ops Q (⟨some d,.binOp .eql t x y t2,ty,pos,aft,none⟩::rest) L w:=
  Xv hd (VI hu hx hy) hk
theorem Dw (hx:look L x=some (.int k a)) (hy:look L y=some (.int k b)) {ts:Array TypeId}:Ev P L w ⟨some d,.call ⟨.builtin .min, #[x,y],ts⟩,ty,pos,aft,none⟩ (.int k (min a b)):= fun ρ hρ=> by
    have :(if b<a then b else a)=min a b:= by omega
    simp [execOp,resolve,hρ _ _ hx,hρ _ _ hy,invoke,builtin,Builtin.min_,Builtin.min2,this]
theorem U7 (hx:look L x=some (.int k a)) (hy:look L y=some (.int k b)) (hd:Nat.blt d n=true) {ts:Array TypeId} (hk:wl P n ops Q rest ((d,.int k (min a b))::L) w):wl P n ops Q (⟨some d,.call ⟨.builtin .min, #[x,y],ts⟩,ty,pos,aft,none⟩::rest) L w:=
  Xv hd (Dw hx hy) hk
theorem ev_maxI (hx:look L x=some (.int k a)) (hy:look L y=some (.int k b)) {ts:Array TypeId}:Ev P L w ⟨some d,.call ⟨.builtin .max, #[x,y],ts⟩,ty,pos,aft,none⟩ (.int k (max a b)):= fun ρ hρ=> by
    have :(if a<b then b else a)=max a b:= by omega
    simp [execOp,resolve,hρ _ _ hx,hρ _ _ hy,invoke,builtin,Builtin.max_,Builtin.max2,this]
theorem Lb (hx:look L x=some (.int k a)) (hy:look L y=some (.int k b)) (hd:Nat.blt d n=true) {ts:Array TypeId} (hk:wl P n ops Q rest ((d,.int k (max a b))::L) w):wl P n ops Q (⟨some d,.call ⟨.builtin .max, #[x,y],ts⟩,ty,pos,aft,none⟩::rest) L w:=
  Xv hd (ev_maxI hx hy) hk
theorem Cb {s t:TypeId} {k':IntKind} {ds:TypeDesc} (hs:P.underlying s=some ds) (ht:P.underlying t=some (.int k')) (hx:look L x=some (.int k a)) (hr:k'.wrap a=c):Ev P L w ⟨some d,.convert s t x,ty,pos,aft,none⟩ (.int k' c):= fun ρ hρ=> by simp [execOp,hρ _ _ hx,convert,run_underlying hs,run_underlying ht,Conv.intToInt,hr]
end ints
section strs
variable {x y:Operand} {s u:List UInt8} {t t2:TypeId}
theorem KN (s:List UInt8):(⟨s.toArray⟩:ByteArray).size=s.length:= by show s.toArray.size=_; simp
theorem LZ (s u:List UInt8):(s==u)=decide (s=u):= by rw[Bool.eq_iff_iff]; simp
theorem T2 (s:List UInt8):(⟨s.toArray⟩:ByteArray).toList=s:= by simp [ByteArray.toList_eq]
theorem ev_eqlS (hx:look L x=some (strV s)) (hy:look L y=some (strV u)):Ev P L w ⟨some d,.binOp .eql t x y t2,ty,pos,aft,none⟩ (.bool (decide (s=u))):= fun ρ hρ=> by simp [execOp,hρ _ _ hx,hρ _ _ hy,eqGuard,binOp,Op.stringOp,T2,LZ]
theorem KH (hx:look L x=some (strV s)) (hy:look L y=some (strV u)) (hd:Nat.blt d n=true) (hk:wl P n ops Q rest ((d,.bool (decide (s=u)))::L) w):wl P n ops Q (⟨some d,.binOp .eql t x y t2,ty,pos,aft,none⟩::rest) L w:=
  Xv hd (ev_eqlS hx hy) hk
theorem LI (hx:look L x=some (strV s)) (hy:look L y=some (strV u)):Ev P L w ⟨some d,.binOp .neq t x y t2,ty,pos,aft,none⟩ (.bool (decide (s≠u))):= fun ρ hρ=> by simp [execOp,hρ _ _ hx,hρ _ _ hy,eqGuard,binOp,Op.stringOp,T2,LZ]
theorem KG (hx:look L x=some (strV s)) (hy:look L y=some (strV u)) (hd:Nat.blt d n=true) (hk:wl P n ops Q rest ((d,.bool (decide (s≠u)))::L) w):wl P n ops Q (⟨some d,.binOp .neq t x y t2,ty,pos,aft,none⟩::rest) L w:=
  Xv hd (LI hx hy) hk
theorem G9 (hu:P.underlying t=some .string) (hx:look L x=some (strV s)):Ev P L w ⟨some d,.call ⟨.builtin .len, #[x], #[t]⟩,ty,pos,aft,none⟩ (.int .i64 (s.length:Int)):= fun ρ hρ=> by simp [execOp,resolve,hρ _ _ hx,invoke,builtin,Builtin.len_,run_underlying hu,goInt,KN]
theorem Zs (hu:P.underlying t=some .string) (hx:look L x=some (strV s)) (hd:Nat.blt d n=true) (hk:wl P n ops Q rest ((d,.int .i64 (s.length:Int))::L) w):wl P n ops Q (⟨some d,.call ⟨.builtin .len, #[x], #[t]⟩,ty,pos,aft,none⟩::rest) L w:=
  Xv hd (G9 hu hx) hk
theorem Dx {e:TypeId} {a:Option Addr} {m c:Nat} (hu:P.underlying t=some (.slice e)) (hx:look L x=some (.slice a m c)):Ev P L w ⟨some d,.call ⟨.builtin .len, #[x], #[t]⟩,ty,pos,aft,none⟩ (.int .i64 (m:Int)):= fun ρ hρ=> by simp [execOp,resolve,hρ _ _ hx,invoke,builtin,Builtin.len_,run_underlying hu,goInt]
theorem Xj {e:TypeId} {a:Option Addr} {m c:Nat} (hu:P.underlying t=some (.slice e)) (hx:look L x=some (.slice a m c)) (hd:Nat.blt d n=true) (hk:wl P n ops Q rest ((d,.int .i64 (m:Int))::L) w):wl P n ops Q (⟨some d,.call ⟨.builtin .len, #[x], #[t]⟩,ty,pos,aft,none⟩::rest) L w:=
  Xv hd (Dx hu hx) hk
theorem YV (hx:look L x=some (strV s)) (hy:look L y=some (strV u)) (hl:s.length+u.length≤9223372036854775807):Ev P L w ⟨some d,.binOp .add t x y t2,ty,pos,aft,none⟩ (strV (s++u)):= fun ρ hρ=> by
    have e:(⟨s.toArray⟩:ByteArray)++⟨u.toArray⟩=⟨(s++u).toArray⟩:= by
      apply ByteArray.ext; simp
    simp [execOp,hρ _ _ hx,hρ _ _ hy,eqGuard,binOp,Op.stringOp,KN,e,IntKind.max]
    simp [IntKind.signed,IntKind.bits];omega
theorem Vf (hx:look L x=some (strV s)) (hy:look L y=some (strV u)) (hl:s.length+u.length≤9223372036854775807) (hd:Nat.blt d n=true) (hk:wl P n ops Q rest ((d,strV (s++u))::L) w):wl P n ops Q (⟨some d,.binOp .add t x y t2,ty,pos,aft,none⟩::rest) L w:=
  Xv hd (YV hx hy hl) hk
theorem A0 {k:IntKind} {i:Int} (j:Nat) {c:UInt8} (hu:P.underlying t=some .string) (hx:look L x=some (strV s)) (hy:look L y=some (.int k i)) (hi:i=(j:Int)) (hc:s[j]? =some c):Ev P L w ⟨some d,.index t x y,ty,pos,aft,none⟩ (.int .u8 (c.toNat:Int)):= fun ρ hρ=> by
    subst hi
    have h1:=(Jo hc)
    obtain⟨h2,h3⟩:=h1
    have e:(⟨s.toArray⟩:ByteArray)[j]? =some c:= by
      rw[getElem?_pos (⟨s.toArray⟩:ByteArray) j (by rw[KN]; exact h2)]
      rw[←h3];rfl
    simp [execOp,hρ _ _ hx,hρ _ _ hy,Instr.index,asIntOf,run_underlying hu,e]
theorem Wx {k:IntKind} {i:Int} (j:Nat) {c:UInt8} (hu:P.underlying t=some .string) (hx:look L x=some (strV s)) (hy:look L y=some (.int k i)) (hi:i=(j:Int)) (hc:s[j]? =some c) (hd:Nat.blt d n=true) (hk:wl P n ops Q rest ((d,.int .u8 (c.toNat:Int))::L) w):wl P n ops Q (⟨some d,.index t x y,ty,pos,aft,none⟩::rest) L w:=
  Xv hd (A0 j hu hx hy hi hc) hk
theorem F5 (s:List UInt8) (a b:Nat):(⟨s.toArray⟩:ByteArray).extract a b=⟨((s.take b).drop a).toArray⟩:= by
  apply ByteArray.ext
  have hz:(ByteArray.mk s.toArray).data=s.toArray:=rfl
  rw[ByteArray.data_extract,hz]
  simp [List.extract_eq_take_drop,List.drop_take]
def bndL (L:Env) (x:Option Operand) (dflt A:Nat):Prop:= match x with | none=>A=dflt | some y=> ∃k,look L y=some (.int k (A:Int))
theorem V4 {L:Env} (dflt:Nat):bndL L none dflt dflt:=rfl
theorem HP {L:Env} {y:Operand} {k:IntKind} {i:Int} (A dflt:Nat) (hy:look L y=some (.int k i)) (hi:i=(A:Int)):bndL L (some y) dflt A:=⟨k, by rw[hy,hi]⟩
def AH (x:Option Value) (dflt A:Nat):Prop:= match x with | none=>A=dflt | some v=> ∃k,v= .int k (A:Int)
theorem bndL.val {lo:Option Operand} {dflt A:Nat} (h:bndL L lo dflt A) {ρ:Operand→Value} (hρ: ∀x u,look L x=some u→ρ x=u):AH (lo.map ρ) dflt A:= by
  cases lo with
  | none=> exact h
  | some y=> obtain⟨k,h⟩:=h; exact⟨k,hρ _ _ h⟩
theorem RB (isSlice:Bool) (len cap:Nat) (lo hi:Option Value) (A B:Nat) (hlo:AH lo 0 A) (hhi:AH hi len B) (h1:A≤B) (h2:B≤cap) (w:World):(Instr.sliceBounds isSlice len cap lo hi none).run P w= .ok (A,B,cap) w:= by
  unfold Instr.sliceBounds
  cases hi with
  | none=>
    simp only[AH]at hhi; subst hhi
    cases lo with
    | none=> simp only[AH]at hlo; subst hlo; simp
    | some y=>
      obtain⟨k,rfl⟩:=hlo
      have :(A:Int)≤(B:Int):= by omega
      simp [Instr.sliceBound,asIntOf,this,h1]
  | some z=>
    obtain⟨k2,rfl⟩:=hhi
    have g2:(B:Int)≤(cap:Int):= by omega
    cases lo with
    | none=> simp only[AH]at hlo; subst hlo; simp [Instr.sliceBound,asIntOf,g2,h2]
    | some y=>
      obtain⟨k,rfl⟩:=hlo
      have :(A:Int)≤(B:Int):= by omega
      simp [Instr.sliceBound,asIntOf,this,h1,g2,h2]
theorem V1 {lo hi:Option Operand} (A B:Nat) (hu:P.underlying t=some .string) (hx:look L x=some (strV s)) (hlo:bndL L lo 0 A) (hhi:bndL L hi s.length B) (h1:A≤B) (h2:B≤s.length):Ev P L w ⟨some d,.slice t x lo hi none,ty,pos,aft,none⟩ (strV ((s.take B).drop A)):= fun ρ hρ=> by
  have hb:=RB (P:=P) false s.length s.length _ _ A B (hlo.val hρ) (hhi.val hρ) h1 h2 w
  simp only[execOp,hρ _ _ hx]
  simp [Instr.sliceAt,Instr.slice,run_underlying hu,KN,hb,F5]
theorem Hx {lo hi:Option Operand} (A B:Nat) (hu:P.underlying t=some .string) (hx:look L x=some (strV s)) (hlo:bndL L lo 0 A) (hhi:bndL L hi s.length B) (h1:A≤B) (h2:B≤s.length) (hd:Nat.blt d n=true) (hk:wl P n ops Q rest ((d,strV ((s.take B).drop A))::L) w):wl P n ops Q (⟨some d,.slice t x lo hi none,ty,pos,aft,none⟩::rest) L w:=
  Xv hd (V1 A B hu hx hlo hhi h1 h2) hk
end strs
end
def ZV (l:List Value):Bool:=l.all (·.oneCell')
theorem Yh {l:List Value} (h:ZV l=true): ∀v∈l,v.oneCell'=true:=List.all_eq_true.1 h
theorem Ci {l:List Value} (h: ∀v∈l,v.oneCell'=true):ZV l=true:=List.all_eq_true.2 h
section
variable {P:Program} {n:Nat} {ops:Array Oper} {Q:Exit→Act→World→Prop} {rest:List Oper} {L:Env} {w:World} {d:Nat} {ty:TypeId} {pos:String} {aft:Array Edge}
theorem XH {x:Operand} {q:Addr} (hx:look L x=some (.pointer (some q))):Ev P L w ⟨some d,.nilCheck x,ty,pos,aft,none⟩ (.pointer (some q)):= fun ρ hρ=> by simp [execOp,hρ _ _ hx]
theorem Ql {x:Operand} {q:Addr} (hx:look L x=some (.pointer (some q))) (hd:Nat.blt d n=true) (hk:wl P n ops Q rest ((d,.pointer (some q))::L) w):wl P n ops Q (⟨some d,.nilCheck x,ty,pos,aft,none⟩::rest) L w:=
  Xv hd (XH hx) hk
theorem PY {s j off:Nat} (h:Xl P s j=some off): ∃fs f i,P.underlying s=some (.struct fs)∧fs[j]? =some f∧P.info? f.type=some i∧i.size≠0∧f.offset=off:= by
  unfold Xl at h
  split at h
  · rename_i fs hu
    split at h
    · rename_i f hf
      split at h
      · rename_i i hi
        cases hz:Nat.beq i.size 0 with
        | true=> rw[hz]at h; simp at h
        | false=> rw[hz]at h; simp at h; exact⟨fs,f,i,hu,hf,hi,(by intro e; rw[e]at hz; cases hz),h⟩
      · cases h
    · cases h
  · cases h
theorem QV {x:Operand} {s j off b o:Nat} (hx:look L x=some (ptrV b o)) (hf:Xl P s j=some off):Ev P L w ⟨some d,.fieldAddr s x j,ty,pos,aft,none⟩ (ptrV b (o+off)):= fun ρ hρ=> by
    obtain⟨fs,f,i,h1,h2,h3,h4,h5⟩:=PY hf
    simp [execOp,hρ _ _ hx,Instr.fieldAt,run_underlying h1,h2,Instr.sureAddr,fieldPlace,sizeOf,typeInfo,h3,h4,h5,Wu]
theorem Qi {x:Operand} {s j off b o:Nat} (hx:look L x=some (ptrV b o)) (hf:Xl P s j=some off) (hd:Nat.blt d n=true) (hk:wl P n ops Q rest ((d,ptrV b (o+off))::L) w):wl P n ops Q (⟨some d,.fieldAddr s x j,ty,pos,aft,none⟩::rest) L w:=
  Xv hd (QV hx hf) hk
theorem Sn {t sz:Nat} (h:Ho P t=some sz): ∃e i,P.underlying t=some (.slice e)∧P.info? e=some i∧i.size=sz:= by
  unfold Ho at h
  split at h
  · rename_i e hu
    unfold Wv at h
    cases hi:P.info? e with
    | none=> simp [hi]at h
    | some i=> simp [hi]at h; exact⟨e,i,hu,hi,h⟩
  · cases h
theorem Zc {x y:Operand} {t sz b o m c:Nat} {k:IntKind} {i:Int} (j:Nat) (hx:look L x=some (.slice (some ⟨b,o,none⟩) m c)) (hy:look L y=some (.int k i)) (hi:i=(j:Int)) (hj:j<m) (hs:Ho P t=some sz):Ev P L w ⟨some d,.indexAddr t x y,ty,pos,aft,none⟩ (ptrV b (o+j*sz)):= fun ρ hρ=> by
    obtain⟨e,ii,h1,h2,h3⟩:=Sn hs
    subst hi
    have :(j:Int)<(m:Int):= by omega
    simp [execOp,hρ _ _ hx,hρ _ _ hy,Instr.indexAt,asIntOf,run_underlying h1,this,hj,sizeOf,typeInfo,h2,h3,Wu]
theorem XG {x y:Operand} {t sz b o m c:Nat} {k:IntKind} {i:Int} (j:Nat) (hx:look L x=some (.slice (some ⟨b,o,none⟩) m c)) (hy:look L y=some (.int k i)) (hi:i=(j:Int)) (hj:j<m) (hs:Ho P t=some sz) (hd:Nat.blt d n=true) (hk:wl P n ops Q rest ((d,ptrV b (o+j*sz))::L) w):wl P n ops Q (⟨some d,.indexAddr t x y,ty,pos,aft,none⟩::rest) L w:=
  Xv hd (Zc j hx hy hi hj hs) hk
theorem R4 {x y:Operand} {t e sz b o N:Nat} {k:IntKind} {i:Int} (j:Nat) (hu:P.underlying t=some (.array N e)) (hx:look L x=some (ptrV b o)) (hy:look L y=some (.int k i)) (hi:i=(j:Int)) (hj:j<N) (hs:Wv P e=some sz):Ev P L w ⟨some d,.indexAddr t x y,ty,pos,aft,none⟩ (ptrV b (o+j*sz)):= fun ρ hρ=> by
    subst hi
    have h3: ∀w,(sizeOf e).run P w= .ok sz w:= fun w=>ZX hs w
    have :(j:Int)<(N:Int):= by omega
    simp [execOp,hρ _ _ hx,hρ _ _ hy,Instr.indexAt,asIntOf,run_underlying hu,Instr.sureAddr,this,hj,h3,Wu]
theorem H8 {x y:Operand} {t e sz b o N:Nat} {k:IntKind} {i:Int} (j:Nat) (hu:P.underlying t=some (.array N e)) (hx:look L x=some (ptrV b o)) (hy:look L y=some (.int k i)) (hi:i=(j:Int)) (hj:j<N) (hs:Wv P e=some sz) (hd:Nat.blt d n=true) (hk:wl P n ops Q rest ((d,ptrV b (o+j*sz))::L) w):wl P n ops Q (⟨some d,.indexAddr t x y,ty,pos,aft,none⟩::rest) L w:=
  Xv hd (R4 j hu hx hy hi hj hs) hk
theorem RO {t:Nat} (h:W9 P t=some false) (w:World):(isAgg t).run P w= .ok false w:= by
  unfold W9 at h
  obtain⟨d,hd,ha⟩:=Option.map_eq_some_iff.1 h
  cases d<;> simp [isAgg,run_underlying hd]<;> simp [VS]at ha
theorem Ro {t:Nat} (h:W9 P t=some true) (w:World):(isAgg t).run P w= .ok true w:= by
  unfold W9 at h
  obtain⟨d,hd,ha⟩:=Option.map_eq_some_iff.1 h
  exact E4 hd ha w
theorem Qn {x:Operand} {t b o:Nat} {v:Value} (hx:look L x=some (ptrV b o)) (ha:W9 P t=some false) (hc:w.cell? ⟨b,o,none⟩=some v):Ev P L w ⟨some d,.load t x,ty,pos,aft,none⟩ (v):= fun ρ hρ=> by simp [execOp,hρ _ _ hx,Instr.loadAt,Instr.sureAddr,loadVar,RO ha,load,Sem.run,hc]
theorem Qp {x:Operand} {t b o:Nat} {v:Value} (hx:look L x=some (ptrV b o)) (ha:W9 P t=some false) (hc:w.cell? ⟨b,o,none⟩=some v) (hd:Nat.blt d n=true) (hk:wl P n ops Q rest ((d,v)::L) w):wl P n ops Q (⟨some d,.load t x,ty,pos,aft,none⟩::rest) L w:=
  Xv hd (Qn hx ha hc) hk
theorem Zg {x:Operand} {t b o m:Nat} {cs:List Value} (hx:look L x=some (ptrV b o)) (ha:W9 P t=some true) (hs:Wv P t=some m) (hb:Blk w b cs) (hm:o+m≤cs.length) {vs:List Value} (hvs:(cs.drop o).take m=vs) (hd:Nat.blt d n=true) (hk:wl P n ops Q rest ((d,.agg vs.toArray)::L) w):wl P n ops Q (⟨some d,.load t x,ty,pos,aft,none⟩::rest) L w:= by
  subst hvs
  exact Xv hd (fun ρ hρ=> by simp [execOp,hρ _ _ hx,Instr.loadAt,Instr.sureAddr,loadVar,Ro ha,ZX hs,JQ hb o m hm]) hk
theorem Bt {x:Operand} {t b o:Nat} {vs:List Value} (hx:look L x=some (ptrV b o)) (ha:W9 P t=some true) (hs:Wv P t=some vs.length) (hat: ∀j v,vs[j]? =some v→w.cell? ⟨b,o+j,none⟩=some v):Ev P L w ⟨some d,.load t x,ty,pos,aft,none⟩ (.agg vs.toArray):= fun ρ hρ=> by
    have hr:=run_loadCells_list (P:=P) w ⟨b,o,none⟩ vs (fun j v hv=> by rw[Wu]; exact hat j v hv)
    simp [execOp,hρ _ _ hx,Instr.loadAt,Instr.sureAddr,loadVar,Ro ha,ZX hs,hr]
theorem YO {x:Operand} {t b o:Nat} {vs:List Value} (hx:look L x=some (ptrV b o)) (ha:W9 P t=some true) (hs:Wv P t=some vs.length) (hat: ∀j v,vs[j]? =some v→w.cell? ⟨b,o+j,none⟩=some v) (hd:Nat.blt d n=true) (hk:wl P n ops Q rest ((d,.agg vs.toArray)::L) w):wl P n ops Q (⟨some d,.load t x,ty,pos,aft,none⟩::rest) L w:=
  Xv hd (Bt hx ha hs hat) hk
theorem QC {x y:Operand} {t b o i:Nat} {v:Value} {cs:List Value} {As:List Th} (hS:Sat w As) (hx:look L x=some (ptrV b o)) (hy:look L y=some v) (hs:Wv P t=some 1) (h1:v.oneCell'=true) (hi:As[i]? =some (QR b cs)) (ho:o<cs.length)
    (hk: ∀w',Sat w' (As.set i (QR b (cs.set o v)))→wl P n ops Q rest L w'):wl P n ops Q (⟨none,.store t x y,ty,pos,aft,none⟩::rest) L w:= by
  have hb:=hS.blk i hi
  have hc:=hb.cell (WU ho)
  have hf:=hb.free o ho
  have hcs:v.cells= #[v]:= by cases v<;>first | rfl | cases h1
  refine Zk rfl rfl (R:= fun _ w'=>w'=w.setCell ⟨b,o,none⟩ v) (fun a ha=>⟨undef,_,.inr ⟨?_,rfl⟩,rfl⟩) (fun _ w' e=> ?_)
  · have hst:(store ⟨b,o,none⟩ v).run P w= .ok () (w.setCell ⟨b,o,none⟩ v):= by
      rw[run_store P w _ v _ h1,hc]; simp [hf]
    have e0:(⟨b,o,none⟩:Addr).add 0=⟨b,o,none⟩:= by simp [Addr.add]
    simp [execOp,ha.eval hx,ha.eval hy,Instr.storeAt,Instr.sureAddr,storeVar,hcs,ZX hs,storeCells,e0,hst]
  · subst e
    exact hk _ (hS.blk_set i hi (hb.set o v) ((Only.refl _ _).setCell (.inl (by simp)) v))
theorem QX {x y:Operand} {t b o i m:Nat} {vs:Array Value} {cs:List Value} {As:List Th} (hS:Sat w As) (hx:look L x=some (ptrV b o)) (hy:look L y=some (.agg vs)) (hs:Wv P t=some m) (hm:vs.size=m) (h1:ZV vs.toList=true) (hi:As[i]? =some (QR b cs)) (ho:o+m≤cs.length)
    (hk: ∀w',Sat w' (As.set i (QR b (XK cs o vs.toList)))→wl P n ops Q rest L w'):wl P n ops Q (⟨none,.store t x y,ty,pos,aft,none⟩::rest) L w:=
  Zk rfl rfl (fun a ha=>F9 t x y rfl (ha.eval hx) (ha.eval hy) (hS.blk i hi) hs hm ho (Yh h1)) (fun _ w' ⟨_,h2,h3,_⟩=>hk w' (hS.blk_set i hi h2 h3))
theorem YJ {t:Nat} {z:Value} (h:Z9 P t=some (some z)) (w:World):(zeroValue t).run P w= .ok z w:= by
  cases hq:P.info? t with
  | none=> simp [Z9,hq]at h
  | some i => have :i.zero=some z:= by simpa [Z9,hq]using h
              simp [zeroValue,typeInfo,hq,this]
theorem Xk {t:Nat} {z:Value} {As:List Th} (hS:Sat w As) (hz:Z9 P t=some (some z)) {cs:List Value} (hcs:z.cells.toList=cs) (hd:Nat.blt d n=true) (hk: ∀b w',Sat w' (QR b cs::As)→wl P n ops Q rest ((d,ptrV b 0)::L) w'):wl P n ops Q (⟨some d,.alloc t,ty,pos,aft,none⟩::rest) L w:= by
  subst hcs
  refine Zk rfl hd (R:= fun v w'=>v=ptrV w.heap.size 0∧w'=w.alloc (.cells z.cells t)) (fun a ha=>⟨_,_,.inl ?_,rfl,rfl⟩) (fun v w' ⟨e1,e2⟩=> ?_)
  · simp [execOp,Instr.alloc,YJ hz,newVar,newRow]
  · subst e1 e2
    exact hk _ _ (hS.blk_new (Blk.new' w _ t) ((Only.refl _ _).alloc _) (Nat.le_refl _))
theorem XZ {t:Nat} {x:Operand} {v:Value} {As:List Th} (hS:Sat w As) (hx:look L x=some v) {cs:List Value} (hcs:v.cells.toList=cs) (hd:Nat.blt d n=true) (hk: ∀b w',Sat w' (QR b cs::As)→wl P n ops Q rest ((d,ptrV b 0)::L) w'):wl P n ops Q (⟨some d,.box t x,ty,pos,aft,none⟩::rest) L w:= by
  subst hcs
  refine Zk rfl hd (R:= fun u w'=>u=ptrV w.heap.size 0∧w'=w.alloc (.cells v.cells t)) (fun a ha=>⟨_,_,.inl ?_,rfl,rfl⟩) (fun u w' ⟨e1,e2⟩=> ?_)
  · simp [execOp,ha.eval hx,Instr.box,newVar,newRow]
  · subst e1 e2
    exact hk _ _ (hS.blk_new (Blk.new' w _ t) ((Only.refl _ _).alloc _) (Nat.le_refl _))
theorem K6 {x:Operand} {s j off:Nat} {cs:List Value} {v:Value} (hf:RM P s j=some (off,none)) (hx:look L x=some (.agg cs.toArray)) (hv:cs[off]? =some v):Ev P L w ⟨some d,.field s x j,ty,pos,aft,none⟩ (v):= fun ρ hρ=> by
    unfold RM at hf
    split at hf
    · rename_i fs hu
      split at hf
      · rename_i f hfj
        split at hf
        · rename_i dd i hd' hi
          have hagg:VS dd=false:= by cases hq:VS dd<;> simp [hq]at hf;rfl
          have hoff:f.offset=off:= by simp [hagg]at hf; exact hf
          have hg:W9 P f.type=some false:= by simp [W9,hd',hagg]
          simp [execOp,hρ _ _ hx,Instr.field,run_underlying hu,hfj,asAgg,part,RO hg,hoff,hv]
        · cases hf
      · cases hf
    · cases hf
theorem DH {x:Operand} {s j off:Nat} {cs:List Value} {v:Value} (hf:RM P s j=some (off,none)) (hx:look L x=some (.agg cs.toArray)) (hv:cs[off]? =some v) (hd:Nat.blt d n=true) (hk:wl P n ops Q rest ((d,v)::L) w):wl P n ops Q (⟨some d,.field s x j,ty,pos,aft,none⟩::rest) L w:=
  Xv hd (K6 hf hx hv) hk
theorem MG {x:Operand} {j:Nat} {vs:List Value} {v:Value} (hx:look L x=some (.tuple vs.toArray)) (hv:vs[j]? =some v):Ev P L w ⟨some d,.extract x j,ty,pos,aft,none⟩ (v):= fun ρ hρ=> by simp [execOp,hρ _ _ hx,Instr.extract,hv]
theorem Q9 {x:Operand} {j:Nat} {vs:List Value} {v:Value} (hx:look L x=some (.tuple vs.toArray)) (hv:vs[j]? =some v) (hd:Nat.blt d n=true) (hk:wl P n ops Q rest ((d,v)::L) w):wl P n ops Q (⟨some d,.extract x j,ty,pos,aft,none⟩::rest) L w:=
  Xv hd (MG hx hv) hk
theorem Rk {f:Nat} (h:QZ P f=true) (args:Array Value) (w:World):(callFunc f args).run P w= .ok (.enter f args) w:= by
  unfold QZ at h
  split at h
  · rename_i fn hf
    simp only[Bool.and_eq_true,Bool.not_eq_true']at h
    obtain⟨h1,h2⟩:=h
    have h1' : fn.name ≠ "runtime.NumGoroutine" := by simpa using h1
    simp [callFunc,program,Sem.run,hf,h1',Option.isSome_iff_ne_none.1 h2]
  · cases h
theorem Ub {dst:Option Nat} {f:Nat} {args:List Operand} {vs:List Value} {ts:Array TypeId} {R:Ending→World→Prop} (hf:QZ P f=true) (ha:J9 L args=some vs) (hc:Calls P f vs.toArray w R) (hd:(match dst with | some d=>Nat.blt d n | none=>true)=true)
    (hk: ∀e w',R e w'→ ∃v,e= .returned v∧wl P n ops Q rest (pd dst v L) w'):wl P n ops Q (⟨dst,.call ⟨.value (.func f),args.toArray,ts⟩,ty,pos,aft,none⟩::rest) L w:= by
  unfold wl
  intro a hfr
  refine wpList_plain rfl fun K hK=> ?_
  unfold Oper.wp
  have he:=hfr.evals ha
  have hr:(execOp a.eval ⟨dst,.call ⟨.value (.func f),args.toArray,ts⟩,ty,pos,aft,none⟩).run P w= .ok (.enter f vs.toArray) w:= by
    simp only[execOp,resolve,Act.eval,Deferred.ofValue,invoke]
    simp [he,Rk hf]
  rw[hr]
  refine Calls.mono hc fun e w' hR=> ?_
  obtain⟨v,rfl,h⟩:=hk e w' hR
  unfold wl at h
  exact hK _ _ (h _ (hfr.put dst v hd))
theorem Q4 {dst:Option Nat} {f:Nat} {args:List Operand} {vs:List Value} {ts:Array TypeId} {R:Value→World→Prop} (hf:QZ P f=true) (ha:J9 L args=some vs) (hc:Calls P f vs.toArray w (Ret R)) (hd:(match dst with | some d=>Nat.blt d n | none=>true)=true) (hk: ∀v w',R v w'→wl P n ops Q rest (pd dst v L) w'):wl P n ops Q (⟨dst,.call ⟨.value (.func f),args.toArray,ts⟩,ty,pos,aft,none⟩::rest) L w:=Ub hf ha hc hd (fun _ w' ⟨v,h1,h2⟩=>⟨v,h1,hk v w' h2⟩)
theorem Kf {dst:Option Nat} {x:Operand} {f:Nat} {cap:List Value} {args:List Operand} {vs:List Value} {ts:Array TypeId} {R:Ending→World→Prop} (hx:look L x=some (.func (.func f) #[] cap.toArray)) (hf:QZ P f=true) (ha:J9 L args=some vs) (hc:Calls P f (vs++cap).toArray w R) (hd:(match dst with | some d=>Nat.blt d n | none=>true)=true)
    (hk: ∀e w',R e w'→ ∃v,e= .returned v∧wl P n ops Q rest (pd dst v L) w'):wl P n ops Q (⟨dst,.call ⟨.value x,args.toArray,ts⟩,ty,pos,aft,none⟩::rest) L w:= by
  unfold wl
  intro a hfr
  refine wpList_plain rfl fun K hK=> ?_
  unfold Oper.wp
  have he:=hfr.evals ha
  have hr:(execOp a.eval ⟨dst,.call ⟨.value x,args.toArray,ts⟩,ty,pos,aft,none⟩).run P w= .ok (.enter f (vs++cap).toArray) w:= by
    simp only[execOp,resolve,hfr.eval hx,Deferred.ofValue,invoke]
    simp [he,Rk hf]
  rw[hr]
  refine Calls.mono hc fun e w' hR=> ?_
  obtain⟨v,rfl,h⟩:=hk e w' hR
  unfold wl at h
  exact hK _ _ (h _ (hfr.put dst v hd))
end
