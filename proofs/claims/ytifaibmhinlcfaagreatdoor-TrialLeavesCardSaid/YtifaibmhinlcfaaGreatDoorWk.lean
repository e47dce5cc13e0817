/- Rules that walk code by its text: what is known of a frame is a list; each operation has a rule. Conditions: each rule's own hypotheses. -/
import Derived.Test.YtifaibmhinlcfaaGreatDoorMem
namespace Go.Proofs.YtifaibmhinlcfaaGreatDoor.M
open Go.RowKit
variable {As:List Th} {K:Act→World→Prop} {N b id j m o off s t t0 t1 t10 t2 t3 t4 t5 t6 t7 t8 t9:Nat} {R:Ending→World→Prop} {a:Option Addr} {args:List Operand} {c x y:Operand} {cs l vs:List Value} {dst:Option Nat} {e:TypeId} {g want:Bool} {hi lo:Option Operand} {i:Int} {k:IntKind} {p:Prop} {q:Addr} {ts:Array TypeId} {v v0 v1 v10 v2 v3 v4 v5 v6 v7 v8 v9 z:Value} {α:Type}
abbrev Env:=List (Nat×Value)
variable {L':Env}
def Xy:Env->Nat->Option Value
  | [],_=>none
  | (d,v)::L,t=>bif Nat.beq d t then some v else Xy L t
def look (L:Env):Operand->Option Value
  | .tmp t=>Xy L t
  | .const v=>some v
  | .global g=>some (.pointer (some ⟨g,0,none⟩))
  | .func f=>some (.func (.func f) #[] #[])
def Jg (L:Env):List Operand->Option (List Value)
  | []=>some []
  | x::xs=> match look L x,Jg L xs with | some v,some vs=>some (v::vs) | _,_=>none
structure Fr (n:Nat) (L:Env) (a:Act):Prop where
  size:a.tmps.size=n
  defers:a.defers=[]
  get: ∀t v,Xy L t=some v→a.tmps[t]? =some v
def pd (d:Option Nat) (v:Value) (L:Env):Env:= match d with | some d=>(d,v)::L | none=>L
theorem Fr.eval {n:Nat} {L:Env} {a:Act} (h:Fr n L a) {x:Operand} {v:Value} (b:look L x=some v):a.eval x=v:=by
  cases x with
  | tmp t=> have :=h.get t v b;simp [Act.eval,this]
  | const u=>simpa [look,Act.eval]using b
  | global g=>simpa [look,Act.eval]using b
  | func f=>simpa [look,Act.eval]using b
theorem Fr.evals {n:Nat} {L:Env} {a:Act} (h:Fr n L a): ∀{xs:List Operand} {vs:List Value},Jg L xs=some vs->xs.map a.eval=vs
  | [],vs,b=>by simp [Jg]at b;subst b;rfl
  | x::xs,vs,b=>by
    simp only[Jg]at b;cases c:look L x with
    | none=> simp [c]at b
    | some v=>
      cases d:Jg L xs with
      | none=> simp [c,d]at b
      | some us=> simp [c,d]at b;subst b;simp [h.eval c,h.evals d]
theorem Fr.put {n:Nat} {L:Env} {a:Act} (h:Fr n L a) (d:Option Nat) (v:Value) (hd:(match d with | some d=>Nat.blt d n | none=>true)=true):Fr n (pd d v L) (a.put d v):=by
  cases d with
  | none=> exact h
  | some d=>
    have c:d<n:=by simpa [Nat.blt_eq]using hd
    refine⟨by simp [Act.put,h.size],by simp [Act.put,h.defers],λt u b=> ?_⟩;simp only[pd,Xy]at b;simp only[Act.put];rw[Array.getElem?_setIfInBounds];by_cases e:d=t
    · subst e;rw[show Nat.beq d d=true from Nat.beq_refl d]at b;simp at b;rw[if_pos rfl,if_pos (by rw[h.size];exact c),b]
    · have :Nat.beq d t=false:=by
        cases f:Nat.beq d t with
        | false=>rfl
        | true=> exact absurd (Nat.eq_of_beq_eq_true f) e
      rw[this]at b;rw[if_neg e];exact h.get t u b
def SubE (L:Env):Env->Prop
  | []=>True
  | (t,v)::L'=>Xy L t=some v/\SubE L L'
theorem SubE.get {L:Env}: ∀{L':Env},SubE L L'-> ∀t v,Xy L' t=some v->Xy L t=some v
  | [],_,t,v,h=>by simp [Xy]at h
  | (d,u)::L',⟨b,c⟩,t,v,h=>by
    simp only[Xy]at h;cases a:Nat.beq d t with
    | true=> rw[a]at h;simp at h;subst h;rw[<-Nat.eq_of_beq_eq_true a];exact b
    | false=> rw[a]at h;exact c.get t v h
theorem Fr.sub {n:Nat} {L:Env} {a:Act} (h:Fr n L a) (b:SubE L L'):Fr n L' a:=⟨h.size,h.defers,λt v d=>h.get t v (b.get t v d)⟩
@[irreducible] def wl (P:Program) (n:Nat) (ops:Array Oper) (Q:Exit->Act->World->Prop) (rest:List Oper) (L:Env) (w:World):Prop:= ∀a,Fr n L a->wpList P ops Q rest a w
@[irreducible] def wc (P:Program) (n:Nat) (c:Code) (Q:Exit->Act->World->Prop) (L:Env) (w:World):Prop:= ∀a,Fr n L a->c.wp P Q a w
@[irreducible] def qs (n:Nat) (Q:Exit->Act->World->Prop) (e:Exit) (L:Env) (w:World):Prop:= ∀a,Fr n L a->Q e a w
section
variable {P:Program} {n:Nat} {ops:Array Oper} {Q:Exit→Act→World→Prop} {rest:List Oper} {L:Env} {w:World} {d:Option Nat} {ty:TypeId} {pos:String} {aft:Array Edge}
theorem NF {c:Code} (b:SubE L L') (h:wc P n c Q L' w):wc P n c Q L w:=by unfold wc at *;exact λa d=>h a (d.sub b)
theorem Qe {x y:Code} (h:wc P n x (Exit.then (y.wp P Q) Q) L w):wc P n (.seq x y) Q L w:=by
  unfold wc at *;exact λa b=>Go.wp_seq (h a b)
theorem Qa {l:List Oper} (h:wl P n l.toArray Q l L w):wc P n (.region id l.toArray false) Q L w:=by
  unfold wc;unfold wl at h;exact λa b=>Go.wp_region_lit (h a b)
theorem Qx {c:Code} (h:wc P n c (Exit.inBlock id Q) L w):wc P n (.block id c) Q L w:=by
  unfold wc at *;exact λa b=>Go.wp_block (h a b)
theorem Qt (h:qs n Q .normal L w):wc P n .skip Q L w:=by unfold wc;unfold qs at h;exact λa b=>Go.wp_skip (h a b)
theorem QQ (h:qs n Q (.exit id) L w):wc P n (.exit id) Q L w:=by unfold wc;unfold qs at h;exact λa b=>Go.wp_exit (h a b)
theorem Qu (h:qs n Q .ret L w):wc P n .ret Q L w:=by unfold wc;unfold qs at h;exact λa b=>Go.wp_ret (h a b)
theorem QR {x y:Code} {t:Bool} (d:look L c=some (.bool t)) (f:t=true->wc P n x Q L w) (g:t=false->wc P n y Q L w):wc P n (.cond c x y) Q L w:=by
  unfold wc at *;exact λa b=>Go.wp_cond_split (b.eval d) (λe=>f e a b) (λe=>g e a b)
theorem Qs {x y:Code} {dp:Decidable p} (a:look L c=some (.bool (@decide p dp))) (b:p->wc P n x Q L w) (d: ¬p->wc P n y Q L w):wc P n (.cond c x y) Q L w:=
  QR a (λe=>b (of_decide_eq_true e)) (λe=>d (of_decide_eq_false e))
theorem Xm {x y:Code} (a:look L c=some (.bool true)) (b:wc P n x Q L w):wc P n (.cond c x y) Q L w:=QR a (λ_=>b) (λe=>by cases e)
theorem QM {x y:Code} (a:look L c=some (.bool false)) (b:wc P n y Q L w):wc P n (.cond c x y) Q L w:=QR a (λe=>by cases e) (λ_=>b)
theorem O0 {x y:Code} (a:look L c=some (.bool g)) (b:g=false) (d:wc P n y Q L w):wc P n (.cond c x y) Q L w:=QR a (λe=>by rw[b]at e;cases e) (λ_=>d)
theorem SubE.nil:SubE L []:=trivial
theorem SubE.cons (h:Xy L t=some v) (a:SubE L L'):SubE L ((t,v)::L'):=⟨h,a⟩
theorem Dg (a:α) (l m:List α):(a::l)++m=a::(l++m):=rfl
theorem Df (l:List α):[]++l=l:=rfl
theorem zqa (a:α):[a].dropLast=[]:=rfl
theorem zqb (a c:α) (l:List α):(a::c::l).dropLast=a::(c::l).dropLast:=rfl
theorem zb1 {L:Env} (a:Xy L t0=some v0):SubE L [(t0,v0)]:= .cons a (.nil)
theorem D0 {L:Env} (a:Xy L t0=some v0) (b:Xy L t1=some v1):SubE L [(t0,v0),(t1,v1)]:= .cons a (.cons b (.nil))
theorem VG {L:Env} (a:Xy L t0=some v0) (b:Xy L t1=some v1) (c:Xy L t2=some v2):SubE L [(t0,v0),(t1,v1),(t2,v2)]:= .cons a (.cons b (.cons c (.nil)))
theorem Rs {L:Env} (a:Xy L t0=some v0) (b:Xy L t1=some v1) (c:Xy L t2=some v2) (d:Xy L t3=some v3):SubE L [(t0,v0),(t1,v1),(t2,v2),(t3,v3)]:= .cons a (.cons b (.cons c (.cons d (.nil))))
theorem Vb {L:Env} (a:Xy L t0=some v0) (b:Xy L t1=some v1) (c:Xy L t2=some v2) (d:Xy L t3=some v3) (e:Xy L t4=some v4):SubE L [(t0,v0),(t1,v1),(t2,v2),(t3,v3),(t4,v4)]:= .cons a (.cons b (.cons c (.cons d (.cons e (.nil)))))
theorem R6 {L:Env} (a:Xy L t0=some v0) (b:Xy L t1=some v1) (c:Xy L t2=some v2) (d:Xy L t3=some v3) (e:Xy L t4=some v4) (f:Xy L t5=some v5):SubE L [(t0,v0),(t1,v1),(t2,v2),(t3,v3),(t4,v4),(t5,v5)]:= .cons a (.cons b (.cons c (.cons d (.cons e (.cons f (.nil))))))
theorem Cb {L:Env} (a:Xy L t0=some v0) (b:Xy L t1=some v1) (c:Xy L t2=some v2) (d:Xy L t3=some v3) (e:Xy L t4=some v4) (f:Xy L t5=some v5) (g:Xy L t6=some v6):SubE L [(t0,v0),(t1,v1),(t2,v2),(t3,v3),(t4,v4),(t5,v5),(t6,v6)]:= .cons a (.cons b (.cons c (.cons d (.cons e (.cons f (.cons g (.nil)))))))
theorem zb8 {L:Env} (a:Xy L t0=some v0) (b:Xy L t1=some v1) (c:Xy L t2=some v2) (d:Xy L t3=some v3) (e:Xy L t4=some v4) (f:Xy L t5=some v5) (g:Xy L t6=some v6) (h:Xy L t7=some v7):SubE L [(t0,v0),(t1,v1),(t2,v2),(t3,v3),(t4,v4),(t5,v5),(t6,v6),(t7,v7)]:= .cons a (.cons b (.cons c (.cons d (.cons e (.cons f (.cons g (.cons h (.nil))))))))
theorem zb9 {L:Env} (a:Xy L t0=some v0) (b:Xy L t1=some v1) (c:Xy L t2=some v2) (d:Xy L t3=some v3) (e:Xy L t4=some v4) (f:Xy L t5=some v5) (g:Xy L t6=some v6) (h:Xy L t7=some v7) (i:Xy L t8=some v8):SubE L [(t0,v0),(t1,v1),(t2,v2),(t3,v3),(t4,v4),(t5,v5),(t6,v6),(t7,v7),(t8,v8)]:= .cons a (.cons b (.cons c (.cons d (.cons e (.cons f (.cons g (.cons h (.cons i (.nil)))))))))
theorem Cc {L:Env} (a:Xy L t0=some v0) (b:Xy L t1=some v1) (c:Xy L t2=some v2) (d:Xy L t3=some v3) (e:Xy L t4=some v4) (f:Xy L t5=some v5) (g:Xy L t6=some v6) (h:Xy L t7=some v7) (i:Xy L t8=some v8) (j:Xy L t9=some v9):SubE L [(t0,v0),(t1,v1),(t2,v2),(t3,v3),(t4,v4),(t5,v5),(t6,v6),(t7,v7),(t8,v8),(t9,v9)]:= .cons a (.cons b (.cons c (.cons d (.cons e (.cons f (.cons g (.cons h (.cons i (.cons j (.nil))))))))))
theorem On {L:Env} (b:Xy L t0=some v0) (c:Xy L t1=some v1) (d:Xy L t2=some v2) (e:Xy L t3=some v3) (f:Xy L t4=some v4) (g:Xy L t5=some v5) (h:Xy L t6=some v6) (i:Xy L t7=some v7) (j:Xy L t8=some v8) (k:Xy L t9=some v9) (a:Xy L t10=some v10):SubE L [(t0,v0),(t1,v1),(t2,v2),(t3,v3),(t4,v4),(t5,v5),(t6,v6),(t7,v7),(t8,v8),(t9,v9),(t10,v10)]:= .cons b (.cons c (.cons d (.cons e (.cons f (.cons g (.cons h (.cons i (.cons j (.cons k (.cons a (.nil)))))))))))
theorem Om {L:Env} {t11:Nat} {a:Value} (d:Xy L t0=some v0) (e:Xy L t1=some v1) (f:Xy L t2=some v2) (g:Xy L t3=some v3) (h:Xy L t4=some v4) (i:Xy L t5=some v5) (j:Xy L t6=some v6) (k:Xy L t7=some v7) (l:Xy L t8=some v8) (m:Xy L t9=some v9) (b:Xy L t10=some v10) (c:Xy L t11=some a):SubE L [(t0,v0),(t1,v1),(t2,v2),(t3,v3),(t4,v4),(t5,v5),(t6,v6),(t7,v7),(t8,v8),(t9,v9),(t10,v10),(t11,a)]:= .cons d (.cons e (.cons f (.cons g (.cons h (.cons i (.cons j (.cons k (.cons l (.cons m (.cons b (.cons c (.nil))))))))))))
theorem U {α:Sort _} {a:α}:a=a:=rfl
def ER:List Nat->Env->Env->Option Env
  | [],_,acc=>some acc
  | k::ks,L,acc=> match Xy L k with
    | some v=>ER ks L ((k,v)::acc)
    | none=>none
theorem Nn {L:Env}: ∀{ks:List Nat} {acc M:Env},ER ks L acc=some M->SubE L acc->SubE L M
  | [],acc,M,h,a=>by cases h;exact a
  | k::ks,acc,M,h,a=>by
    unfold ER at h;cases e:Xy L k with
    | none=> rw[e]at h;cases h
    | some v=> rw[e]at h;exact Nn h ⟨e,a⟩
theorem Qh {c:Code} (ks:List Nat) (h:ER ks L []=some L') (a:wc P n c Q L' w):wc P n c Q L w:=NF (Nn h trivial) a
theorem X9 (t:Nat) (_ht:Xy L t=some (.bool g)) (a:g=true->wl P n ops Q rest L w) (b:g=false->wl P n ops Q rest L w):wl P n ops Q rest L w:=by
  cases g with
  | true=> exact a rfl
  | false=> exact b rfl
theorem QZ (t:Nat) {dp:Decidable p} (_ht:Xy L t=some (.bool (@decide p dp))) (a:p->wl P n ops Q rest L w) (b: ¬p->wl P n ops Q rest L w):wl P n ops Q rest L w:=by
  by_cases h:p
  · exact a h
  · exact b h
theorem Qf (h:qs n Q .normal L w):wl P n ops Q [] L w:=by unfold wl;unfold qs at h;exact λa b=>h a b
theorem Qc {y:Code} (h:wc P n y Q L w):qs n (Exit.then (y.wp P Q) Q) .normal L w:=by unfold qs;unfold wc at h;exact λa b=>h a b
theorem Qp (h:qs n Q (.exit id) L w):qs n (Exit.then K Q) (.exit id) L w:=by unfold qs at *;exact λa b=>h a b
theorem Qq (h:qs n Q .ret L w):qs n (Exit.then K Q) .ret L w:=by unfold qs at *;exact λa b=>h a b
theorem Qm (h:qs n Q .normal L w):qs n (Exit.inBlock id Q) .normal L w:=by unfold qs at *;exact λa b=>h a b
theorem Q1 (h:qs n Q .ret L w):qs n (Exit.inBlock id Q) .ret L w:=by unfold qs at *;exact λa b=>h a b
theorem Qy (h:qs n Q .normal L w):qs n (Exit.inBlock id Q) (.exit id) L w:=by
  unfold qs at *;intro a b;simp only[Exit.inBlock,if_true];exact h a b
theorem Ck {id':Nat} (b:Nat.beq id' id=false) (h:qs n Q (.exit id') L w):qs n (Exit.inBlock id Q) (.exit id') L w:=by
  unfold qs at *;intro a c;simp only[Exit.inBlock];rw[if_neg (λe=>by subst e;rw[Nat.beq_refl]at b;cases b)];exact h a c
theorem Mt {x y:Code} (Mid:Env->World->Prop) (c:wc P n x (Exit.then (λa w'=> ∃L',Fr n L' a/\Mid L' w') Q) L w) (d: ∀L' w',Mid L' w'->wc P n y Q L' w'):wc P n (.seq x y) Q L w:=by
  unfold wc at *;intro a f;refine Go.wp_seq (Go.wp_mono (c a f) λe a' w' b=> ?_);cases e with
  | normal=> obtain⟨L',g,h⟩:=b;exact d L' w' h a' g
  | exit id=> exact b
  | goto l=> exact b
  | ret=> exact b
  | panic ch=> exact b
  | outgrown=> exact b
theorem Hx {Mid:Env->World->Prop} (b:SubE L L') (h:Mid L' w):qs n (Exit.then (λa w'=> ∃L',Fr n L' a/\Mid L' w') Q) .normal L w:=by
  unfold qs;exact λa c=>⟨L',c.sub b,h⟩
theorem EN {p:Nat->Prop} (h: ∃i,p i): ∃i,p i/\ ∀j,j<i-> ¬p j:=by
  obtain⟨i,hi⟩:=h
  induction i using Nat.strongRecOn with
  | _ i ih=>
    by_cases a: ∃j,j<i/\p j
    · obtain⟨j,b,c⟩:=a;exact ih j b c
    · exact⟨i,hi,λj b c=>a ⟨j,b,c⟩⟩
theorem QU {c:Code} (Inv:Nat->Env->World->Prop) {L0:Env} (r:Nat) (s:SubE L L0) (t:Inv r L0 w)
    (round: ∀k L' w',Inv k L' w'->wc P n c (Exit.then (λa j=> ∃k1 L1,k1<k/\Fr n L1 a/\Inv k1 L1 j) Q) L' w'):wc P n (.loop c) Q L w:=by
  unfold wc at *;intro a u
  have i: ∃μ:Act->World->Nat,∀a w,(∃k L',Fr n L' a/\Inv k L' w)->(∃L',Fr n L' a/\Inv (μ a w) L' w)/\ ∀k,(∃L',Fr n L' a/\Inv k L' w)->μ a w<=k:=by
    have g: ∀(a:Act) (w:World),∃m:Nat,(∃k L',Fr n L' a/\Inv k L' w)->(∃L',Fr n L' a/\Inv m L' w)/\ ∀k,(∃L',Fr n L' a/\Inv k L' w)->m<=k:=by
      intro a w;by_cases h: ∃k L',Fr n L' a/\Inv k L' w
      · obtain⟨m,v,x⟩:=EN (p:= λk=> ∃L',Fr n L' a/\Inv k L' w) h;exact⟨m,λ_=>⟨v,λk y=>Nat.le_of_not_lt λq=>x k q y⟩⟩
      · exact⟨0,λq=>absurd q h⟩
    exact⟨λa w=>(g a w).choose,λa w h=>(g a w).choose_spec h⟩
  obtain⟨μ,i⟩:=i;refine Go.wp_loop (λa w=> ∃k L',Fr n L' a/\Inv k L' w) μ ⟨r,L0,u.sub s,t⟩ λa w z=> ?_;obtain⟨⟨L',A,hi⟩,_⟩:=i a w z;refine Go.wp_mono (round _ L' w hi a A) λe B j f=> ?_;cases e with
  | normal=>
    obtain⟨k1,L1,o,b,d⟩:=f;exact⟨⟨k1,L1,b,d⟩,Nat.lt_of_le_of_lt ((i B j ⟨k1,L1,b,d⟩).2 k1 ⟨L1,b,d⟩) o⟩
  | exit id=> exact f
  | goto l=> exact f
  | ret=> exact f
  | panic ch=> exact f
  | outgrown=> exact f
theorem Q5 {Inv:Nat->Env->World->Prop} {k k1:Nat} {L1:Env} (c:SubE L L1) (b:k1<k) (h:Inv k1 L1 w):
    qs n (Exit.then (λa d=> ∃k1 L1,k1<k/\Fr n L1 a/\Inv k1 L1 d) Q) .normal L w:=by
  unfold qs;exact λa e=>⟨k1,L1,b,e.sub c,h⟩
def Dy:Nat->List Value->Env
  | _,[]=>[]
  | i,v::vs=>(i,v)::Dy (i+1) vs
theorem UY: ∀(vs:List Value) (i t:Nat) (v:Value),Xy (Dy i vs) t=some v->i<=t/\vs[t -i]? =some v
  | [],i,t,v,h=>by simp [Dy,Xy]at h
  | u::vs,i,t,v,h=>by
    simp only[Dy,Xy]at h;cases a:Nat.beq i t with
    | true=> rw[a]at h;simp at h;subst h;have :=Nat.eq_of_beq_eq_true a;subst this;simp
    | false=>
      rw[a]at h;obtain⟨c,b⟩:=UY vs (i+1) t v h;refine⟨by omega, ?_⟩;rw[show t -i=(t -(i+1))+1 by omega]
      simpa using b
theorem Qn {f:FuncId} {fn:Func} {c:Code} {args:List Value} (d:P.funcs[f]? =some fn) (e:fn.body=some c) (g:fn.ntmps=n) (i:Nat.ble args.length n=true)
    (h:wc P n c (bodyPost P fn R) (Dy 0 args) w):Calls P f args.toArray w R:=by
  have j:args.length<=n:=Xk i;unfold wc at h;refine calls_of_wp d e (h _ ⟨by simp [g];omega,rfl,λt v k=> ?_⟩);obtain⟨_,a⟩:=UY args 0 t v k;simp only[Nat.sub_zero]at a;have b:=(Za a).1;rw[Array.getElem?_append_left (by simpa using b)]
  simpa using a
theorem Pt {fn:Func} {e:Exit} (d:e= .normal\/e= .ret) (c: ∀a,Fr n L a->(results fn a.tmps).run P w= .ok v w) (h:R (.returned v) w):qs n (bodyPost P fn R) e L w:=by
  unfold qs;intro a b;rcases d with rfl | rfl
  · exact⟨b.defers,v,c a b,h⟩
  · exact⟨b.defers,v,c a b,h⟩
theorem Zb {fn:Func} {e:Exit} (b:e= .normal\/e= .ret) (c:fn.results= #[]) (h:R (.returned (.tuple #[])) w):qs n (bodyPost P fn R) e L w:=
  Pt b (λa _=>by simp [results,c]) h
theorem QJ {fn:Func} {e:Exit} (b:e= .normal\/e= .ret) (c:fn.results= #[.tmp t]) (d:Xy L t=some v) (h:R (.returned v) w):qs n (bodyPost P fn R) e L w:=
  Pt b (λa f=>by have :=f.get t v d;simp [results,c,this]) h
theorem Jt {fn:Func} {u:Nat} {x:Value} {e:Exit} (c:e= .normal\/e= .ret) (d:fn.results= #[.tmp t,.tmp u]) (f:Xy L t=some v) (g:Xy L u=some x) (h:R (.returned (.tuple #[v,x])) w):qs n (bodyPost P fn R) e L w:=
  Pt c (λa b=>by have :=b.get t v f;have :=b.get u x g;simp [results,d, *]) h
def Ret (R:Value->World->Prop) (e:Ending) (w':World):Prop:= ∃v,e= .returned v/\R v w'
theorem Ret.mono {R R':Value->World->Prop} {e:Ending} {w':World} (h:Ret R e w') (a: ∀v w',R v w'->R' v w'):Ret R' e w':=let ⟨v,h1,h2⟩:=h;⟨v,h1,a _ _ h2⟩
theorem XI {o:Oper} {R:Value->World->Prop} (c:o.guard=none) (hd:(match o.dst with | some d=>Nat.blt d n | none=>true)=true) (h: ∀a,Fr n L a->does P o a w R)
    (e: ∀v w',R v w'->wl P n ops Q rest (pd o.dst v L) w'):wl P n ops Q (o::rest) L w:=by
  unfold wl at *;intro a b;exact VQ c (h a b) (λv w' f=>e v w' f _ (b.put _ v hd))
def Ev (P:Program) (L:Env) (w:World) (o:Oper) (v:Value):Prop:= ∀ρ:Operand->Value,(∀x u,look L x=some u->ρ x=u)->(execOp ρ o).run P w= .ok (.value v) w
theorem Xp {d:Nat} {op:Op} (hd:Nat.blt d n=true) (h:Ev P L w ⟨some d,op,ty,pos,aft,none⟩ v)
    (b:wl P n ops Q rest ((d,v)::L) w):wl P n ops Q (⟨some d,op,ty,pos,aft,none⟩::rest) L w:=
  XI rfl hd (R:= λu w'=>u=v/\w'=w) (λa c=>⟨v,w,.inl (h a.eval λx u e=>c.eval e),rfl,rfl⟩) (λu w' ⟨f,g⟩=>by subst f g;exact b)
theorem Qk {o:Op} (c:(ops[j]?).bind (·.dst)=some t) (e:Xy L t=some (.bool g)) (f:g=want) (h:wl P n ops Q (⟨d,o,ty,pos,aft,none⟩::rest) L w):wl P n ops Q (⟨d,o,ty,pos,aft,some (j,want)⟩::rest) L w:=by
  unfold wl at *;intro a b;have :=h a b
  have i:Region.wanted ⟨d,o,ty,pos,aft,some (j,want)⟩ (yielded ops a.tmps)=true:=by
    have :=b.get t _ e;simp [Region.wanted,yielded,c,this,f]
  unfold wpList at this⊢;rw[if_pos i];rw[if_pos (by simp [Region.wanted])]at this;exact this
theorem Qi {o:Op} (c:(ops[j]?).bind (·.dst)=some t) (e:Xy L t=some (.bool g)) (f:g= !want) (hd:(match d with | some d=>Nat.blt d n | none=>true)=true) (h:wl P n ops Q rest (pd d undef L) w):wl P n ops Q (⟨d,o,ty,pos,aft,some (j,want)⟩::rest) L w:=by
  unfold wl at *;intro a b
  have i:Region.wanted ⟨d,o,ty,pos,aft,some (j,want)⟩ (yielded ops a.tmps)=false:=by
    have :=b.get t _ e;simp [Region.wanted,yielded,c,this,f]
  unfold wpList;rw[if_neg (by rw[i];simp)];exact h _ (b.put d undef hd)
theorem H1 {o:Op} (c:(ops[j]?).bind (·.dst)=some t) (e:Xy L t=some undef) (hd:(match d with | some d=>Nat.blt d n | none=>true)=true) (h:wl P n ops Q rest (pd d undef L) w):wl P n ops Q (⟨d,o,ty,pos,aft,some (j,want)⟩::rest) L w:=by
  unfold wl at *;intro a b
  have f:Region.wanted ⟨d,o,ty,pos,aft,some (j,want)⟩ (yielded ops a.tmps)=false:=by
    have :=b.get t _ e;simp [Region.wanted,yielded,c,this,undef]
  unfold wpList;rw[if_neg (by rw[f];simp)];exact h _ (b.put d undef hd)
end
abbrev strV (l:List UInt8):Value:= .string ⟨l.toArray⟩
abbrev intV (a:Int):Value:= .int .i64 a
abbrev ptrV (b o:Nat):Value:= .pointer (some ⟨b,o,none⟩)
def QS (P:Program) (s j:Nat):Option Nat:= match P.underlying s with
  | some (.struct fs)=> match fs[j]? with
    | some f=> match P.info? f.type with
      | some i=>bif Nat.beq i.size 0 then none else some f.offset
      | none=>none
    | none=>none
  | _=>none
def Vu (P:Program) (s j:Nat):Option (Nat×Option Nat):= match P.underlying s with
  | some (.struct fs)=> match fs[j]? with
    | some f=> match P.underlying f.type,P.info? f.type with
      | some d,some i=>some (f.offset,bif HE d then some i.size else none)
      | _,_=>none
    | none=>none
  | _=>none
def Z0 (P:Program) (t:Nat):Option Bool:=(P.underlying t).map HE
def ZQ (P:Program) (t:Nat):Option Nat:=(P.info? t).map (·.size)
def XE (P:Program) (t:Nat):Option (Option Value):=(P.info? t).map (·.zero)
def Yn (P:Program) (t:Nat):Option Nat:= match P.underlying t with
  | some (.slice e)=>ZQ P e
  | _=>none
def Q8 (P:Program) (f:Nat):Bool:= match P.funcs[f]? with
  | some fn => !(fn.name == "runtime.NumGoroutine") && fn.body.isSome
  | none=>false
section
variable {P:Program} {n:Nat} {ops:Array Oper} {Q:Exit→Act→World→Prop} {rest:List Oper} {L:Env} {w:World} {d:Nat} {ty:TypeId} {pos:String} {aft:Array Edge}
theorem X2 (a:look L x=some v):Ev P L w ⟨some d,.move x,ty,pos,aft,none⟩ (v):= λρ b=>by simp [execOp,b _ _ a]
theorem Qb (a:look L x=some v) (hd:Nat.blt d n=true) (b:wl P n ops Q rest ((d,v)::L) w):wl P n ops Q (⟨some d,.move x,ty,pos,aft,none⟩::rest) L w:=
  Xp hd (X2 a) b
theorem Nz (a:look L x=some v):Ev P L w ⟨some d,.assign x,ty,pos,aft,none⟩ (v):= λρ b=>by simp [execOp,b _ _ a]
theorem Qd (a:look L x=some v) (hd:Nat.blt d n=true) (b:wl P n ops Q rest ((d,v)::L) w):wl P n ops Q (⟨some d,.assign x,ty,pos,aft,none⟩::rest) L w:=
  Xp hd (Nz a) b
theorem Tt (b:look L c=some (.bool g)) (e:g=true) (f:look L x=some v):Ev P L w ⟨some d,.pick c x y,ty,pos,aft,none⟩ (v):= λρ a=>by subst e;simp [execOp,a _ _ b,a _ _ f,asBool]
theorem QF (a:look L c=some (.bool g)) (b:g=true) (e:look L x=some v) (hd:Nat.blt d n=true) (f:wl P n ops Q rest ((d,v)::L) w):wl P n ops Q (⟨some d,.pick c x y,ty,pos,aft,none⟩::rest) L w:=
  Xp hd (Tt a b e) f
theorem JT (b:look L c=some (.bool g)) (e:g=false) (f:look L y=some v):Ev P L w ⟨some d,.pick c x y,ty,pos,aft,none⟩ (v):= λρ a=>by subst e;simp [execOp,a _ _ b,a _ _ f,asBool]
theorem Q9 (a:look L c=some (.bool g)) (b:g=false) (e:look L y=some v) (hd:Nat.blt d n=true) (f:wl P n ops Q rest ((d,v)::L) w):wl P n ops Q (⟨some d,.pick c x y,ty,pos,aft,none⟩::rest) L w:=
  Xp hd (JT a b e) f
section ints
variable {x y:Operand} {k:IntKind} {a b c:Int} {t2:TypeId} {t:TypeId}
theorem Rb (f:look L x=some (.int k a)) (g:look L y=some (.int k b)) (h:k.wrap (a+b)=c):Ev P L w ⟨some d,.binOp .add t x y t2,ty,pos,aft,none⟩ (.int k c):= λρ e=>by simp [execOp,e _ _ f,e _ _ g,eqGuard,binOp,Op.intArith,h]
theorem NE (e:look L x=some (.int k a)) (f:look L y=some (.int k b)) (g:k.wrap (a+b)=c) (hd:Nat.blt d n=true) (h:wl P n ops Q rest ((d,.int k c)::L) w):wl P n ops Q (⟨some d,.binOp .add t x y t2,ty,pos,aft,none⟩::rest) L w:=
  Xp hd (Rb e f g) h
theorem Mb (f:look L x=some (.int k a)) (g:look L y=some (.int k b)) (h:k.wrap (a -b)=c):Ev P L w ⟨some d,.binOp .sub t x y t2,ty,pos,aft,none⟩ (.int k c):= λρ e=>by simp [execOp,e _ _ f,e _ _ g,eqGuard,binOp,Op.intArith,h]
theorem wl_subW (e:look L x=some (.int k a)) (f:look L y=some (.int k b)) (g:k.wrap (a -b)=c) (hd:Nat.blt d n=true) (h:wl P n ops Q rest ((d,.int k c)::L) w):wl P n ops Q (⟨some d,.binOp .sub t x y t2,ty,pos,aft,none⟩::rest) L w:=
  Xp hd (Mb e f g) h
theorem VP {a:Int} (b: -9223372036854775808<=a) (c:a<=9223372036854775807):IntKind.i64.wrap a=a:=by
  simp only[IntKind.wrap,IntKind.signed,IntKind.bits];simp [Int.bmod];omega
theorem QE (c:look L x=some (.int .i64 a)) (e:look L y=some (.int .i64 b)) (f: -9223372036854775808<=a+b) (g:a+b<=9223372036854775807) (hd:Nat.blt d n=true) (h:wl P n ops Q rest ((d,.int .i64 (a+b))::L) w):wl P n ops Q (⟨some d,.binOp .add t x y t2,ty,pos,aft,none⟩::rest) L w:=
  NE c e (VP f g) hd h
theorem H2 (c:look L x=some (.int .i64 a)) (e:look L y=some (.int .i64 b)) (f: -9223372036854775808<=a -b) (g:a -b<=9223372036854775807) (hd:Nat.blt d n=true) (h:wl P n ops Q rest ((d,.int .i64 (a -b))::L) w):wl P n ops Q (⟨some d,.binOp .sub t x y t2,ty,pos,aft,none⟩::rest) L w:=
  wl_subW c e (VP f g) hd h
theorem qef (h:look L x=some (.int .i64 a)) (i:look L y=some (.int .i64 b)) (c:0<=a) (j:0<b) (k:a<=9223372036854775807):Ev P L w ⟨some d,.binOp .quo t x y t2,ty,pos,aft,none⟩ (.int .i64 (a/ b)):= λρ g=>by
    have f:b≠0:=by omega
    have l:0<=a/ b:=Int.ediv_nonneg c (by omega);have m:a/ b<=a:=Int.ediv_le_self b c;have e:IntKind.i64.wrap (a.tdiv b)=a/ b:=by rw[Int.tdiv_eq_ediv_of_nonneg c];exact VP (by omega) (by omega)
    simp [execOp,g _ _ h,g _ _ i,eqGuard,binOp,Op.intDiv,f,e]
theorem RZ (c:look L x=some (.int .i64 a)) (e:look L y=some (.int .i64 b)) (f: -9223372036854775808<=a+b) (g:a+b<=9223372036854775807):Ev P L w ⟨some d,.binOp .add t x y t2,ty,pos,aft,none⟩ (.int .i64 (a+b)):=Rb c e (VP f g)
theorem Ai (c:look L x=some (.int .i64 a)) (e:look L y=some (.int .i64 b)) (f: -9223372036854775808<=a -b) (g:a -b<=9223372036854775807):Ev P L w ⟨some d,.binOp .sub t x y t2,ty,pos,aft,none⟩ (.int .i64 (a -b)):=Mb c e (VP f g)
theorem R7 (c:look L x=some (.int .i64 a)) (e:look L y=some (.int .i64 b)) (f:0<=a) (g:0<b) (h:a<=9223372036854775807) (hd:Nat.blt d n=true) (i:wl P n ops Q rest ((d,.int .i64 (a/ b))::L) w):wl P n ops Q (⟨some d,.binOp .quo t x y t2,ty,pos,aft,none⟩::rest) L w:=
  Xp hd (qef c e f g h) i
theorem Ts (g:look L x=some (.int .i64 a)) (h:look L y=some (.int .i64 b)) (i:0<=a) (j:0<b):Ev P L w ⟨some d,.binOp .rem t x y t2,ty,pos,aft,none⟩ (.int .i64 (a%b)):= λρ f=>by
    have c:b≠0:=by omega
    have e:a.tmod b=a%b:=Int.tmod_eq_emod_of_nonneg i;simp [execOp,f _ _ g,f _ _ h,eqGuard,binOp,Op.intDiv,c,e]
theorem Vd (c:look L x=some (.int .i64 a)) (e:look L y=some (.int .i64 b)) (f:0<=a) (g:0<b) (hd:Nat.blt d n=true) (h:wl P n ops Q rest ((d,.int .i64 (a%b))::L) w):wl P n ops Q (⟨some d,.binOp .rem t x y t2,ty,pos,aft,none⟩::rest) L w:=
  Xp hd (Ts c e f g) h
theorem Tu (e:look L x=some (.int k a)) (f:look L y=some (.int k b)):Ev P L w ⟨some d,.binOp .lss t x y t2,ty,pos,aft,none⟩ (.bool (decide (a<b))):= λρ c=>by simp [execOp,c _ _ e,c _ _ f,eqGuard,binOp,Op.intCmp]
theorem Xa (c:look L x=some (.int k a)) (e:look L y=some (.int k b)) (hd:Nat.blt d n=true) (f:wl P n ops Q rest ((d,.bool (decide (a<b)))::L) w):wl P n ops Q (⟨some d,.binOp .lss t x y t2,ty,pos,aft,none⟩::rest) L w:=
  Xp hd (Tu c e) f
theorem ev_leq (e:look L x=some (.int k a)) (f:look L y=some (.int k b)):Ev P L w ⟨some d,.binOp .leq t x y t2,ty,pos,aft,none⟩ (.bool (decide (a<=b))):= λρ c=>by simp [execOp,c _ _ e,c _ _ f,eqGuard,binOp,Op.intCmp]
theorem By (c:look L x=some (.int k a)) (e:look L y=some (.int k b)) (hd:Nat.blt d n=true) (f:wl P n ops Q rest ((d,.bool (decide (a<=b)))::L) w):wl P n ops Q (⟨some d,.binOp .leq t x y t2,ty,pos,aft,none⟩::rest) L w:=
  Xp hd (ev_leq c e) f
theorem qeh (e:look L x=some (.int k a)) (f:look L y=some (.int k b)):Ev P L w ⟨some d,.binOp .gtr t x y t2,ty,pos,aft,none⟩ (.bool (decide (b<a))):= λρ c=>by simp [execOp,c _ _ e,c _ _ f,eqGuard,binOp,Op.intCmp]
theorem JJ (c:look L x=some (.int k a)) (e:look L y=some (.int k b)) (hd:Nat.blt d n=true) (f:wl P n ops Q rest ((d,.bool (decide (b<a)))::L) w):wl P n ops Q (⟨some d,.binOp .gtr t x y t2,ty,pos,aft,none⟩::rest) L w:=
  Xp hd (qeh c e) f
theorem ev_geq (e:look L x=some (.int k a)) (f:look L y=some (.int k b)):Ev P L w ⟨some d,.binOp .geq t x y t2,ty,pos,aft,none⟩ (.bool (decide (b<=a))):= λρ c=>by simp [execOp,c _ _ e,c _ _ f,eqGuard,binOp,Op.intCmp]
theorem WU (c:look L x=some (.int k a)) (e:look L y=some (.int k b)) (hd:Nat.blt d n=true) (f:wl P n ops Q rest ((d,.bool (decide (b<=a)))::L) w):wl P n ops Q (⟨some d,.binOp .geq t x y t2,ty,pos,aft,none⟩::rest) L w:=
  Xp hd (ev_geq c e) f
theorem Px (e:look L x=some (.int k a)) (f:look L y=some (.int k b)):Ev P L w ⟨some d,.binOp .eql t x y t2,ty,pos,aft,none⟩ (.bool (decide (a=b))):= λρ c=>by simp [execOp,c _ _ e,c _ _ f,eqGuard,binOp,Op.intCmp];rfl
theorem Xg (c:look L x=some (.int k a)) (e:look L y=some (.int k b)) (hd:Nat.blt d n=true) (f:wl P n ops Q rest ((d,.bool (decide (a=b)))::L) w):wl P n ops Q (⟨some d,.binOp .eql t x y t2,ty,pos,aft,none⟩::rest) L w:=
  Xp hd (Px c e) f
theorem BQ (e:look L x=some (.int k a)) (f:look L y=some (.int k b)):Ev P L w ⟨some d,.binOp .neq t x y t2,ty,pos,aft,none⟩ (.bool (decide (a≠b))):= λρ c=>by simp [execOp,c _ _ e,c _ _ f,eqGuard,binOp,Op.intCmp];rfl
theorem Xz (c:look L x=some (.int k a)) (e:look L y=some (.int k b)) (hd:Nat.blt d n=true) (f:wl P n ops Q rest ((d,.bool (decide (a≠b)))::L) w):wl P n ops Q (⟨some d,.binOp .neq t x y t2,ty,pos,aft,none⟩::rest) L w:=
  Xp hd (BQ c e) f
theorem qgb (a:Int) (m:Nat) (b:m<64):IntKind.i64.wrap ((BitVec.ofInt 64 a&&&BitVec.ofInt 64 ((2^m -1:Nat):Int)).toNat:Int)=a%(2^m:Nat):=by
  have c:(BitVec.ofInt 64 a&&&BitVec.ofInt 64 ((2^m -1:Nat):Int)).toNat=(a%2^64).toNat%2^m:=by
    rw[BitVec.toNat_and,BitVec.toNat_ofInt,BitVec.ofInt_natCast,BitVec.toNat_ofNat];rw[Nat.mod_eq_of_lt (a:=2^m -1) (by have :2^m<2^64:=Nat.pow_lt_pow_right (by omega) b;omega)];exact Nat.and_two_pow_sub_one_eq_mod _ _
  have d:((a%2^64).toNat:Int)=a%2^64:=Int.toNat_of_nonneg (Int.emod_nonneg _ (by decide))
  have e:(((a%2^64).toNat%2^m:Nat):Int)=a%(2^m:Nat):=by
    rw[Int.natCast_emod,d]
    have :(((2:Nat)^m:Nat):Int)∣(2^64:Int):=by
      refine⟨((2^(64 -m):Nat):Int), ?_⟩;rw[<-Int.natCast_mul,<-Nat.pow_add,show m+(64 -m)=64 by omega];rfl
    exact Int.emod_emod_of_dvd _ this
  rw[c,e];have f:a%(2^m:Nat)<(2^m:Nat):=Int.emod_lt_of_pos _ (by have :=Nat.two_pow_pos m;omega);have g:(2^m:Nat)<=2^63:=Nat.pow_le_pow_right (by omega) (by omega);have h:0<=a%(2^m:Nat):=Int.emod_nonneg _ (by have :=Nat.two_pow_pos m;omega);exact VP (by omega) (by omega)
theorem KF (m:Nat) (e:look L x=some (.int .i64 a)) (f:look L y=some (.int .i64 b)) (g:b=((2^m -1:Nat):Int)) (h:Nat.blt m 64=true) {q:Int} (i:((2^m:Nat):Int)=q) (hd:Nat.blt d n=true) (j:wl P n ops Q rest ((d,.int .i64 (a%q))::L) w):wl P n ops Q (⟨some d,.binOp .and t x y t2,ty,pos,aft,none⟩::rest) L w:=by
  subst i;refine Xp hd (λρ c=> ?_) j;subst g;have :=qgb a m (by simpa [Nat.blt_eq]using h);simp only[execOp,c _ _ e,c _ _ f,binOp,Op.intBits];simp only[IntKind.bits,eqGuard];simp only[BitVec.ofInt_natCast]at this⊢;simp [-BitVec.toNat_and]at this⊢;exact this
theorem Hy (a:look L x=some (.bool g)):Ev P L w ⟨some d,.unOp .not t x,ty,pos,aft,none⟩ (.bool (!g)):= λρ b=>by simp [execOp,b _ _ a,Op.unary]
theorem QX (a:look L x=some (.bool g)) (hd:Nat.blt d n=true) (b:wl P n ops Q rest ((d,.bool (!g))::L) w):wl P n ops Q (⟨some d,.unOp .not t x,ty,pos,aft,none⟩::rest) L w:=
  Xp hd (Hy a) b
theorem ev_neg (b:look L x=some (.int .i64 a)) (c: -9223372036854775808<= -a) (e: -a<=9223372036854775807):Ev P L w ⟨some d,.unOp .neg t x,ty,pos,aft,none⟩ (.int .i64 (-a)):= λρ f=>by have :=VP c e;simp [execOp,f _ _ b,Op.unary,Op.intArith,this]
theorem qau (b:look L x=some (.int .i64 a)) (c: -9223372036854775808<= -a) (e: -a<=9223372036854775807) (hd:Nat.blt d n=true) (f:wl P n ops Q rest ((d,.int .i64 (-a))::L) w):wl P n ops Q (⟨some d,.unOp .neg t x,ty,pos,aft,none⟩::rest) L w:=
  Xp hd (ev_neg b c e) f
theorem DN (a:P.underlying t=some (.pointer e)) (q:Option Addr) (w:World):(Op.equal t (.pointer q) (.pointer none)).run P w= .ok q.isNone w:=by
  unfold Op.equal Op.maxDepth Op.equalIn;simp only[Sem.run_bind,run_underlying a,Result.andThen];cases q<;>rfl
theorem I4 (b:P.underlying t=some (.pointer e)) (c:look L x=some (.pointer (some q))) (f:look L y=some (.pointer none)):Ev P L w ⟨some d,.binOp .eql t x y t2,ty,pos,aft,none⟩ (.bool false):= λρ a=>by simp [execOp,a _ _ c,a _ _ f,eqGuard,binOp,DN b]
theorem XG (a:P.underlying t=some (.pointer e)) (b:look L x=some (.pointer (some q))) (c:look L y=some (.pointer none)) (hd:Nat.blt d n=true) (f:wl P n ops Q rest ((d,.bool false)::L) w):wl P n ops Q (⟨some d,.binOp .eql t x y t2,ty,pos,aft,none⟩::rest) L w:=
  Xp hd (I4 a b c) f
theorem I0 (b:P.underlying t=some (.pointer e)) (c:look L x=some (.pointer (some q))) (f:look L y=some (.pointer none)):Ev P L w ⟨some d,.binOp .neq t x y t2,ty,pos,aft,none⟩ (.bool true):= λρ a=>by simp [execOp,a _ _ c,a _ _ f,eqGuard,binOp,DN b]
theorem Zi (a:P.underlying t=some (.pointer e)) (b:look L x=some (.pointer (some q))) (c:look L y=some (.pointer none)) (hd:Nat.blt d n=true) (f:wl P n ops Q rest ((d,.bool true)::L) w):wl P n ops Q (⟨some d,.binOp .neq t x y t2,ty,pos,aft,none⟩::rest) L w:=
  Xp hd (I0 a b c) f
theorem Pw (b:P.underlying t=some (.pointer e)) (c:look L x=some (.pointer none)) (f:look L y=some (.pointer none)):Ev P L w ⟨some d,.binOp .eql t x y t2,ty,pos,aft,none⟩ (.bool true):= λρ a=>by simp [execOp,a _ _ c,a _ _ f,eqGuard,binOp,DN b]
theorem Ya (a:P.underlying t=some (.pointer e)) (b:look L x=some (.pointer none)) (c:look L y=some (.pointer none)) (hd:Nat.blt d n=true) (f:wl P n ops Q rest ((d,.bool true)::L) w):wl P n ops Q (⟨some d,.binOp .eql t x y t2,ty,pos,aft,none⟩::rest) L w:=
  Xp hd (Pw a b c) f
theorem ev_minI (e:look L x=some (.int k a)) (f:look L y=some (.int k b)) :Ev P L w ⟨some d,.call ⟨.builtin .min, #[x,y],ts⟩,ty,pos,aft,none⟩ (.int k (min a b)):= λρ c=>by
    have :(if b<a then b else a)=min a b:=by omega
    simp [execOp,resolve,c _ _ e,c _ _ f,invoke,builtin,Builtin.min_,Builtin.min2,this]
theorem H3 (c:look L x=some (.int k a)) (e:look L y=some (.int k b)) (hd:Nat.blt d n=true) (f:wl P n ops Q rest ((d,.int k (min a b))::L) w):wl P n ops Q (⟨some d,.call ⟨.builtin .min, #[x,y],ts⟩,ty,pos,aft,none⟩::rest) L w:=
  Xp hd (ev_minI c e) f
theorem Aj (e:look L x=some (.int k a)) (f:look L y=some (.int k b)) :Ev P L w ⟨some d,.call ⟨.builtin .max, #[x,y],ts⟩,ty,pos,aft,none⟩ (.int k (max a b)):= λρ c=>by
    have :(if a<b then b else a)=max a b:=by omega
    simp [execOp,resolve,c _ _ e,c _ _ f,invoke,builtin,Builtin.max_,Builtin.max2,this]
theorem Jn (c:look L x=some (.int k a)) (e:look L y=some (.int k b)) (hd:Nat.blt d n=true) (f:wl P n ops Q rest ((d,.int k (max a b))::L) w):wl P n ops Q (⟨some d,.call ⟨.builtin .max, #[x,y],ts⟩,ty,pos,aft,none⟩::rest) L w:=
  Xp hd (Aj c e) f
theorem Ny {s t:TypeId} {k':IntKind} {ds:TypeDesc} (b:P.underlying s=some ds) (e:P.underlying t=some (.int k')) (f:look L x=some (.int k a)) (g:k'.wrap a=c):Ev P L w ⟨some d,.convert s t x,ty,pos,aft,none⟩ (.int k' c):= λρ h=>by simp [execOp,h _ _ f,convert,run_underlying b,run_underlying e,Conv.intToInt,g]
end ints
section strs
variable {x y:Operand} {s u:List UInt8} {t t2:TypeId}
theorem KM (s:List UInt8):(⟨s.toArray⟩:ByteArray).size=s.length:=by show s.toArray.size=_;simp
theorem Oe (s u:List UInt8):(s==u)=decide (s=u):=by rw[Bool.eq_iff_iff];simp
theorem CM (s:List UInt8):(⟨s.toArray⟩:ByteArray).toList=s:=by simp [ByteArray.toList_eq]
theorem ev_eqlS (b:look L x=some (strV s)) (c:look L y=some (strV u)):Ev P L w ⟨some d,.binOp .eql t x y t2,ty,pos,aft,none⟩ (.bool (decide (s=u))):= λρ a=>by simp [execOp,a _ _ b,a _ _ c,eqGuard,binOp,Op.stringOp,CM,Oe]
theorem YB (a:look L x=some (strV s)) (b:look L y=some (strV u)) (hd:Nat.blt d n=true) (c:wl P n ops Q rest ((d,.bool (decide (s=u)))::L) w):wl P n ops Q (⟨some d,.binOp .eql t x y t2,ty,pos,aft,none⟩::rest) L w:=
  Xp hd (ev_eqlS a b) c
theorem Vw (b:look L x=some (strV s)) (c:look L y=some (strV u)):Ev P L w ⟨some d,.binOp .neq t x y t2,ty,pos,aft,none⟩ (.bool (decide (s≠u))):= λρ a=>by simp [execOp,a _ _ b,a _ _ c,eqGuard,binOp,Op.stringOp,CM,Oe]
theorem KE (a:look L x=some (strV s)) (b:look L y=some (strV u)) (hd:Nat.blt d n=true) (c:wl P n ops Q rest ((d,.bool (decide (s≠u)))::L) w):wl P n ops Q (⟨some d,.binOp .neq t x y t2,ty,pos,aft,none⟩::rest) L w:=
  Xp hd (Vw a b) c
theorem Mc (a:P.underlying t=some .string) (b:look L x=some (strV s)):Ev P L w ⟨some d,.call ⟨.builtin .len, #[x], #[t]⟩,ty,pos,aft,none⟩ (.int .i64 (s.length:Int)):= λρ c=>by simp [execOp,resolve,c _ _ b,invoke,builtin,Builtin.len_,run_underlying a,goInt,KM]
theorem WD (a:P.underlying t=some .string) (b:look L x=some (strV s)) (hd:Nat.blt d n=true) (c:wl P n ops Q rest ((d,.int .i64 (s.length:Int))::L) w):wl P n ops Q (⟨some d,.call ⟨.builtin .len, #[x], #[t]⟩,ty,pos,aft,none⟩::rest) L w:=
  Xp hd (Mc a b) c
theorem YT {c:Nat} (b:P.underlying t=some (.slice e)) (f:look L x=some (.slice a m c)):Ev P L w ⟨some d,.call ⟨.builtin .len, #[x], #[t]⟩,ty,pos,aft,none⟩ (.int .i64 (m:Int)):= λρ g=>by simp [execOp,resolve,g _ _ f,invoke,builtin,Builtin.len_,run_underlying b,goInt]
theorem Xl {c:Nat} (b:P.underlying t=some (.slice e)) (f:look L x=some (.slice a m c)) (hd:Nat.blt d n=true) (g:wl P n ops Q rest ((d,.int .i64 (m:Int))::L) w):wl P n ops Q (⟨some d,.call ⟨.builtin .len, #[x], #[t]⟩,ty,pos,aft,none⟩::rest) L w:=
  Xp hd (YT b f) g
theorem HN (b:look L x=some (strV s)) (c:look L y=some (strV u)) (f:s.length+u.length<=9223372036854775807):Ev P L w ⟨some d,.binOp .add t x y t2,ty,pos,aft,none⟩ (strV (s++u)):= λρ a=>by
    have e:(⟨s.toArray⟩:ByteArray)++⟨u.toArray⟩=⟨(s++u).toArray⟩:=by
      apply ByteArray.ext;simp
    simp [execOp,a _ _ b,a _ _ c,eqGuard,binOp,Op.stringOp,KM,e,IntKind.max];simp [IntKind.signed,IntKind.bits];omega
theorem KG (a:look L x=some (strV s)) (b:look L y=some (strV u)) (c:s.length+u.length<=9223372036854775807) (hd:Nat.blt d n=true) (e:wl P n ops Q rest ((d,strV (s++u))::L) w):wl P n ops Q (⟨some d,.binOp .add t x y t2,ty,pos,aft,none⟩::rest) L w:=
  Xp hd (HN a b c) e
theorem UP (j:Nat) {c:UInt8} (b:P.underlying t=some .string) (f:look L x=some (strV s)) (g:look L y=some (.int k i)) (hi:i=(j:Int)) (h:s[j]? =some c):Ev P L w ⟨some d,.index t x y,ty,pos,aft,none⟩ (.int .u8 (c.toNat:Int)):= λρ a=>by
    subst hi;have l:=(Za h);obtain⟨m,n⟩:=l
    have e:(⟨s.toArray⟩:ByteArray)[j]? =some c:=by
      rw[getElem?_pos (⟨s.toArray⟩:ByteArray) j (by rw[KM];exact m)];rw[<-n];rfl
    simp [execOp,a _ _ f,a _ _ g,Instr.index,asIntOf,run_underlying b,e]
theorem HH (j:Nat) {c:UInt8} (a:P.underlying t=some .string) (b:look L x=some (strV s)) (e:look L y=some (.int k i)) (hi:i=(j:Int)) (f:s[j]? =some c) (hd:Nat.blt d n=true) (g:wl P n ops Q rest ((d,.int .u8 (c.toNat:Int))::L) w):wl P n ops Q (⟨some d,.index t x y,ty,pos,aft,none⟩::rest) L w:=
  Xp hd (UP j a b e hi f) g
theorem LD (s:List UInt8) (a b:Nat):(⟨s.toArray⟩:ByteArray).extract a b=⟨((s.take b).drop a).toArray⟩:=by
  apply ByteArray.ext;have c:(ByteArray.mk s.toArray).data=s.toArray:=rfl;rw[ByteArray.data_extract,c];simp [List.extract_eq_take_drop,List.drop_take]
def bndL (L:Env) (x:Option Operand) (dflt A:Nat):Prop:= match x with | none=>A=dflt | some y=> ∃k,look L y=some (.int k (A:Int))
theorem qad {L:Env} (dflt:Nat):bndL L none dflt dflt:=rfl
theorem Bg {L:Env} {y:Operand} (A dflt:Nat) (a:look L y=some (.int k i)) (hi:i=(A:Int)):bndL L (some y) dflt A:=⟨k,by rw[a,hi]⟩
def qac (x:Option Value) (dflt A:Nat):Prop:= match x with | none=>A=dflt | some v=> ∃k,v= .int k (A:Int)
theorem bndL.val {dflt A:Nat} (h:bndL L lo dflt A) {ρ:Operand->Value} (a: ∀x u,look L x=some u->ρ x=u):qac (lo.map ρ) dflt A:=by
  cases lo with
  | none=> exact h
  | some y=> obtain⟨k,h⟩:=h;exact⟨k,a _ _ h⟩
theorem RJ (isSlice:Bool) (len cap:Nat) (lo hi:Option Value) (A B:Nat) (a:qac lo 0 A) (b:qac hi len B) (c:A<=B) (d:B<=cap) (w:World):(Instr.sliceBounds isSlice len cap lo hi none).run P w= .ok (A,B,cap) w:=by
  unfold Instr.sliceBounds;cases hi with
  | none=>
    simp only[qac]at b;subst b;cases lo with
    | none=> simp only[qac]at a;subst a;simp
    | some y=>
      obtain⟨k,rfl⟩:=a;have :(A:Int)<=(B:Int):=by omega
      simp [Instr.sliceBound,asIntOf,this,c]
  | some z=>
    obtain⟨e,rfl⟩:=b;have g2:(B:Int)<=(cap:Int):=by omega
    cases lo with
    | none=> simp only[qac]at a;subst a;simp [Instr.sliceBound,asIntOf,g2,d]
    | some y=>
      obtain⟨k,rfl⟩:=a;have :(A:Int)<=(B:Int):=by omega
      simp [Instr.sliceBound,asIntOf,this,c,g2,d]
theorem Ra (A B:Nat) (e:P.underlying t=some .string) (f:look L x=some (strV s)) (a:bndL L lo 0 A) (b:bndL L hi s.length B) (g:A<=B) (h:B<=s.length):Ev P L w ⟨some d,.slice t x lo hi none,ty,pos,aft,none⟩ (strV ((s.take B).drop A)):= λρ c=>by
  have i:=RJ (P:=P) false s.length s.length _ _ A B (a.val c) (b.val c) g h w;simp only[execOp,c _ _ f];simp [Instr.sliceAt,Instr.slice,run_underlying e,KM,i,LD]
theorem Bx (A B:Nat) (c:P.underlying t=some .string) (e:look L x=some (strV s)) (a:bndL L lo 0 A) (b:bndL L hi s.length B) (f:A<=B) (g:B<=s.length) (hd:Nat.blt d n=true) (h:wl P n ops Q rest ((d,strV ((s.take B).drop A))::L) w):wl P n ops Q (⟨some d,.slice t x lo hi none,ty,pos,aft,none⟩::rest) L w:=
  Xp hd (Ra A B c e a b f g) h
end strs
end
def Uk (l:List Value):Bool:=l.all (·.oneCell')
theorem Jm (h:Uk l=true): ∀v∈l,v.oneCell'=true:=List.all_eq_true.1 h
theorem BZ (h: ∀v∈l,v.oneCell'=true):Uk l=true:=List.all_eq_true.2 h
section
variable {P:Program} {n:Nat} {ops:Array Oper} {Q:Exit→Act→World→Prop} {rest:List Oper} {L:Env} {w:World} {d:Nat} {ty:TypeId} {pos:String} {aft:Array Edge}
theorem Uy (a:look L x=some (.pointer (some q))):Ev P L w ⟨some d,.nilCheck x,ty,pos,aft,none⟩ (.pointer (some q)):= λρ b=>by simp [execOp,b _ _ a]
theorem Qj (a:look L x=some (.pointer (some q))) (hd:Nat.blt d n=true) (b:wl P n ops Q rest ((d,.pointer (some q))::L) w):wl P n ops Q (⟨some d,.nilCheck x,ty,pos,aft,none⟩::rest) L w:=
  Xp hd (Uy a) b
theorem Fh (h:QS P s j=some off): ∃fs f i,P.underlying s=some (.struct fs)/\fs[j]? =some f/\P.info? f.type=some i/\i.size≠0/\f.offset=off:=by
  unfold QS at h;split at h
  · rename_i fs b;split at h
    · rename_i f c;split at h
      · rename_i i hi;cases a:Nat.beq i.size 0 with
        | true=> rw[a]at h;simp at h
        | false=> rw[a]at h;simp at h;exact⟨fs,f,i,b,c,hi,(by intro e;rw[e]at a;cases a),h⟩
      · cases h
    · cases h
  · cases h
theorem Zv (a:look L x=some (ptrV b o)) (c:QS P s j=some off):Ev P L w ⟨some d,.fieldAddr s x j,ty,pos,aft,none⟩ (ptrV b (o+off)):= λρ e=>by
    obtain⟨fs,f,i,g,h,k,l,m⟩:=Fh c;simp [execOp,e _ _ a,Instr.fieldAt,run_underlying g,h,Instr.sureAddr,fieldPlace,sizeOf,typeInfo,k,l,m,Wx]
theorem Qg (a:look L x=some (ptrV b o)) (c:QS P s j=some off) (hd:Nat.blt d n=true) (e:wl P n ops Q rest ((d,ptrV b (o+off))::L) w):wl P n ops Q (⟨some d,.fieldAddr s x j,ty,pos,aft,none⟩::rest) L w:=
  Xp hd (Zv a c) e
theorem Fm {sz:Nat} (h:Yn P t=some sz): ∃e i,P.underlying t=some (.slice e)/\P.info? e=some i/\i.size=sz:=by
  unfold Yn at h;split at h
  · rename_i e a;unfold ZQ at h;cases hi:P.info? e with
    | none=> simp [hi]at h
    | some i=> simp [hi]at h;exact⟨e,i,a,hi,h⟩
  · cases h
theorem XK {sz c:Nat} (j:Nat) (f:look L x=some (.slice (some ⟨b,o,none⟩) m c)) (g:look L y=some (.int k i)) (hi:i=(j:Int)) (h:j<m) (l:Yn P t=some sz):Ev P L w ⟨some d,.indexAddr t x y,ty,pos,aft,none⟩ (ptrV b (o+j*sz)):= λρ a=>by
    obtain⟨e,ii,n,p,q⟩:=Fm l;subst hi;have :(j:Int)<(m:Int):=by omega
    simp [execOp,a _ _ f,a _ _ g,Instr.indexAt,asIntOf,run_underlying n,this,h,sizeOf,typeInfo,p,q,Wx]
theorem Xt {sz c:Nat} (j:Nat) (a:look L x=some (.slice (some ⟨b,o,none⟩) m c)) (e:look L y=some (.int k i)) (hi:i=(j:Int)) (f:j<m) (g:Yn P t=some sz) (hd:Nat.blt d n=true) (h:wl P n ops Q rest ((d,ptrV b (o+j*sz))::L) w):wl P n ops Q (⟨some d,.indexAddr t x y,ty,pos,aft,none⟩::rest) L w:=
  Xp hd (XK j a e hi f g) h
theorem Cq {e sz:Nat} (j:Nat) (c:P.underlying t=some (.array N e)) (f:look L x=some (ptrV b o)) (g:look L y=some (.int k i)) (hi:i=(j:Int)) (h:j<N) (l:ZQ P e=some sz):Ev P L w ⟨some d,.indexAddr t x y,ty,pos,aft,none⟩ (ptrV b (o+j*sz)):= λρ a=>by
    subst hi;have m: ∀w,(sizeOf e).run P w= .ok sz w:= λw=>Zp l w;have :(j:Int)<(N:Int):=by omega
    simp [execOp,a _ _ f,a _ _ g,Instr.indexAt,asIntOf,run_underlying c,Instr.sureAddr,this,h,m,Wx]
theorem U2 {e sz:Nat} (j:Nat) (a:P.underlying t=some (.array N e)) (c:look L x=some (ptrV b o)) (f:look L y=some (.int k i)) (hi:i=(j:Int)) (g:j<N) (h:ZQ P e=some sz) (hd:Nat.blt d n=true) (l:wl P n ops Q rest ((d,ptrV b (o+j*sz))::L) w):wl P n ops Q (⟨some d,.indexAddr t x y,ty,pos,aft,none⟩::rest) L w:=
  Xp hd (Cq j a c f hi g h) l
theorem V6 (h:Z0 P t=some false) (w:World):(isAgg t).run P w= .ok false w:=by
  unfold Z0 at h;obtain⟨d,hd,a⟩:=Option.map_eq_some_iff.1 h;cases d<;> simp [isAgg,run_underlying hd]<;> simp [HE]at a
theorem UZ (h:Z0 P t=some true) (w:World):(isAgg t).run P w= .ok true w:=by
  unfold Z0 at h;obtain⟨d,hd,a⟩:=Option.map_eq_some_iff.1 h;exact OP hd a w
theorem Ql (a:look L x=some (ptrV b o)) (c:Z0 P t=some false) (e:w.cell? ⟨b,o,none⟩=some v):Ev P L w ⟨some d,.load t x,ty,pos,aft,none⟩ (v):= λρ f=>by simp [execOp,f _ _ a,Instr.loadAt,Instr.sureAddr,loadVar,V6 c,load,Sem.run,e]
theorem Qo (a:look L x=some (ptrV b o)) (c:Z0 P t=some false) (e:w.cell? ⟨b,o,none⟩=some v) (hd:Nat.blt d n=true) (f:wl P n ops Q rest ((d,v)::L) w):wl P n ops Q (⟨some d,.load t x,ty,pos,aft,none⟩::rest) L w:=
  Xp hd (Ql a c e) f
theorem XX (c:look L x=some (ptrV b o)) (e:Z0 P t=some true) (f:ZQ P t=some m) (g:Blk w b cs) (h:o+m<=cs.length) (a:(cs.drop o).take m=vs) (hd:Nat.blt d n=true) (i:wl P n ops Q rest ((d,.agg vs.toArray)::L) w):wl P n ops Q (⟨some d,.load t x,ty,pos,aft,none⟩::rest) L w:=by
  subst a;exact Xp hd (λρ j=>by simp [execOp,j _ _ c,Instr.loadAt,Instr.sureAddr,loadVar,UZ e,Zp f,JB g o m h]) i
theorem I1 (c:look L x=some (ptrV b o)) (e:Z0 P t=some true) (f:ZQ P t=some vs.length) (a: ∀j v,vs[j]? =some v->w.cell? ⟨b,o+j,none⟩=some v):Ev P L w ⟨some d,.load t x,ty,pos,aft,none⟩ (.agg vs.toArray):= λρ g=>by
    have h:=run_loadCells_list (P:=P) w ⟨b,o,none⟩ vs (λj v i=>by rw[Wx];exact a j v i);simp [execOp,g _ _ c,Instr.loadAt,Instr.sureAddr,loadVar,UZ e,Zp f,h]
theorem Ha (c:look L x=some (ptrV b o)) (e:Z0 P t=some true) (f:ZQ P t=some vs.length) (a: ∀j v,vs[j]? =some v->w.cell? ⟨b,o+j,none⟩=some v) (hd:Nat.blt d n=true) (g:wl P n ops Q rest ((d,.agg vs.toArray)::L) w):wl P n ops Q (⟨some d,.load t x,ty,pos,aft,none⟩::rest) L w:=
  Xp hd (I1 c e f a) g
theorem QK {i:Nat} (g:Sat w As) (l:look L x=some (ptrV b o)) (m:look L y=some v) (p:ZQ P t=some 1) (h:v.oneCell'=true) (hi:As[i]? =some (Q6 b cs)) (j:o<cs.length)
    (q: ∀w',Sat w' (As.set i (Q6 b (cs.set o v)))->wl P n ops Q rest L w'):wl P n ops Q (⟨none,.store t x y,ty,pos,aft,none⟩::rest) L w:=by
  have c:=g.blk i hi;have r:=c.cell (XQ j);have s:=c.free o j;have d:v.cells= #[v]:=by cases v<;>first | rfl | cases h
  refine XI rfl rfl (R:= λ_ w'=>w'=w.setCell ⟨b,o,none⟩ v) (λa k=>⟨undef,_,.inr ⟨?_,rfl⟩,rfl⟩) (λ_ w' e=> ?_)
  · have f:(store ⟨b,o,none⟩ v).run P w= .ok () (w.setCell ⟨b,o,none⟩ v):=by
      rw[run_store P w _ v _ h,r];simp [s]
    have u:(⟨b,o,none⟩:Addr).add 0=⟨b,o,none⟩:=by simp [Addr.add]
    simp [execOp,k.eval l,k.eval m,Instr.storeAt,Instr.sureAddr,storeVar,d,Zp p,storeCells,u,f]
  · subst e;exact q _ (g.blk_set i hi (c.set o v) ((Only.refl _ _).setCell (.inl (by simp)) v))
theorem QW {i:Nat} {vs:Array Value} (c:Sat w As) (e:look L x=some (ptrV b o)) (f:look L y=some (.agg vs)) (g:ZQ P t=some m) (h:vs.size=m) (j:Uk vs.toList=true) (hi:As[i]? =some (Q6 b cs)) (k:o+m<=cs.length)
    (l: ∀w',Sat w' (As.set i (Q6 b (X6 cs o vs.toList)))->wl P n ops Q rest L w'):wl P n ops Q (⟨none,.store t x y,ty,pos,aft,none⟩::rest) L w:=
  XI rfl rfl (λa d=>LK t x y rfl (d.eval e) (d.eval f) (c.blk i hi) g h k (Jm j)) (λ_ w' ⟨_,p,q,_⟩=>l w' (c.blk_set i hi p q))
theorem Jq (h:XE P t=some (some z)) (w:World):(zeroValue t).run P w= .ok z w:=by
  cases a:P.info? t with
  | none=> simp [XE,a]at h
  | some i => have :i.zero=some z:=by simpa [XE,a]using h
              simp [zeroValue,typeInfo,a,this]
theorem Xc (e:Sat w As) (f:XE P t=some (some z)) (c:z.cells.toList=cs) (hd:Nat.blt d n=true) (g: ∀b w',Sat w' (Q6 b cs::As)->wl P n ops Q rest ((d,ptrV b 0)::L) w'):wl P n ops Q (⟨some d,.alloc t,ty,pos,aft,none⟩::rest) L w:=by
  subst c;refine XI rfl hd (R:= λv w'=>v=ptrV w.heap.size 0/\w'=w.alloc (.cells z.cells t)) (λa j=>⟨_,_,.inl ?_,rfl,rfl⟩) (λv w' ⟨h,i⟩=> ?_)
  · simp [execOp,Instr.alloc,Jq f,newVar,newRow]
  · subst h i;exact g _ _ (e.blk_new (Blk.new' w _ t) ((Only.refl _ _).alloc _) (Nat.le_refl _))
theorem XL (e:Sat w As) (f:look L x=some v) (c:v.cells.toList=cs) (hd:Nat.blt d n=true) (g: ∀b w',Sat w' (Q6 b cs::As)->wl P n ops Q rest ((d,ptrV b 0)::L) w'):wl P n ops Q (⟨some d,.box t x,ty,pos,aft,none⟩::rest) L w:=by
  subst c;refine XI rfl hd (R:= λu w'=>u=ptrV w.heap.size 0/\w'=w.alloc (.cells v.cells t)) (λa h=>⟨_,_,.inl ?_,rfl,rfl⟩) (λu w' ⟨i,j⟩=> ?_)
  · simp [execOp,h.eval f,Instr.box,newVar,newRow]
  · subst i j;exact g _ _ (e.blk_new (Blk.new' w _ t) ((Only.refl _ _).alloc _) (Nat.le_refl _))
theorem GS (a:Vu P s j=some (off,none)) (h:look L x=some (.agg cs.toArray)) (k:cs[off]? =some v):Ev P L w ⟨some d,.field s x j,ty,pos,aft,none⟩ (v):= λρ l=>by
    unfold Vu at a;split at a
    · rename_i fs m;split at a
      · rename_i f e;split at a
        · rename_i dd i g hi;have b:HE dd=false:=by cases n:HE dd<;> simp [n]at a;rfl
          have c:f.offset=off:=by simp [b]at a;exact a
          have o:Z0 P f.type=some false:=by simp [Z0,g,b]
          simp [execOp,l _ _ h,Instr.field,run_underlying m,e,asAgg,part,V6 o,c,k]
        · cases a
      · cases a
    · cases a
theorem Mq (a:Vu P s j=some (off,none)) (b:look L x=some (.agg cs.toArray)) (c:cs[off]? =some v) (hd:Nat.blt d n=true) (e:wl P n ops Q rest ((d,v)::L) w):wl P n ops Q (⟨some d,.field s x j,ty,pos,aft,none⟩::rest) L w:=
  Xp hd (GS a b c) e
theorem Tv (a:look L x=some (.tuple vs.toArray)) (b:vs[j]? =some v):Ev P L w ⟨some d,.extract x j,ty,pos,aft,none⟩ (v):= λρ c=>by simp [execOp,c _ _ a,Instr.extract,b]
theorem Qr (a:look L x=some (.tuple vs.toArray)) (b:vs[j]? =some v) (hd:Nat.blt d n=true) (c:wl P n ops Q rest ((d,v)::L) w):wl P n ops Q (⟨some d,.extract x j,ty,pos,aft,none⟩::rest) L w:=
  Xp hd (Tv a b) c
theorem UV {f:Nat} (h:Q8 P f=true) (args:Array Value) (w:World):(callFunc f args).run P w= .ok (.enter f args) w:= by
  unfold Q8 at h
  split at h
  · rename_i fn hf
    simp only[Bool.and_eq_true,Bool.not_eq_true']at h
    obtain⟨h1,h2⟩:=h
    have h1' : fn.name ≠ "runtime.NumGoroutine" := by simpa using h1
    simp [callFunc,program,Sem.run,hf,h1',Option.isSome_iff_ne_none.1 h2]
  · cases h
theorem XF {f:Nat} (c:Q8 P f=true) (g:Jg L args=some vs) (i:Calls P f vs.toArray w R) (hd:(match dst with | some d=>Nat.blt d n | none=>true)=true)
    (j: ∀e w',R e w'-> ∃v,e= .returned v/\wl P n ops Q rest (pd dst v L) w'):wl P n ops Q (⟨dst,.call ⟨.value (.func f),args.toArray,ts⟩,ty,pos,aft,none⟩::rest) L w:=by
  unfold wl;intro a b;refine wpList_plain rfl λK k=> ?_;unfold Oper.wp;have l:=b.evals g
  have m:(execOp a.eval ⟨dst,.call ⟨.value (.func f),args.toArray,ts⟩,ty,pos,aft,none⟩).run P w= .ok (.enter f vs.toArray) w:=by
    simp only[execOp,resolve,Act.eval,Deferred.ofValue,invoke];simp [l,UV c]
  rw[m];refine Calls.mono i λe w' o=> ?_;obtain⟨v,rfl,h⟩:=j e w' o;unfold wl at h;exact k _ _ (h _ (b.put dst v hd))
theorem Qw {f:Nat} {R:Value->World->Prop} (a:Q8 P f=true) (b:Jg L args=some vs) (c:Calls P f vs.toArray w (Ret R)) (hd:(match dst with | some d=>Nat.blt d n | none=>true)=true) (e: ∀v w',R v w'->wl P n ops Q rest (pd dst v L) w'):wl P n ops Q (⟨dst,.call ⟨.value (.func f),args.toArray,ts⟩,ty,pos,aft,none⟩::rest) L w:=XF a b c hd (λ_ w' ⟨v,g,h⟩=>⟨v,g,e v w' h⟩)
theorem VU {f:Nat} {cap:List Value} (c:look L x=some (.func (.func f) #[] cap.toArray)) (g:Q8 P f=true) (i:Jg L args=some vs) (j:Calls P f (vs++cap).toArray w R) (hd:(match dst with | some d=>Nat.blt d n | none=>true)=true)
    (k: ∀e w',R e w'-> ∃v,e= .returned v/\wl P n ops Q rest (pd dst v L) w'):wl P n ops Q (⟨dst,.call ⟨.value x,args.toArray,ts⟩,ty,pos,aft,none⟩::rest) L w:=by
  unfold wl;intro a b;refine wpList_plain rfl λK l=> ?_;unfold Oper.wp;have m:=b.evals i
  have o:(execOp a.eval ⟨dst,.call ⟨.value x,args.toArray,ts⟩,ty,pos,aft,none⟩).run P w= .ok (.enter f (vs++cap).toArray) w:=by
    simp only[execOp,resolve,b.eval c,Deferred.ofValue,invoke];simp [m,UV g]
  rw[o];refine Calls.mono j λe w' p=> ?_;obtain⟨v,rfl,h⟩:=k e w' p;unfold wl at h;exact l _ _ (h _ (b.put dst v hd))
end
