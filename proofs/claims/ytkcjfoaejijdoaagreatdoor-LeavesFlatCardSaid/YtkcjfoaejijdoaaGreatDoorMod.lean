/- Walks where the frame holds deferred calls (D), and in a round of a range over a function (I). Conditions: the rules' own hypotheses. -/
import Derived.Test.YtkcjfoaejijdoaaGreatDoorWa
import Derived.Test.YtkcjfoaejijdoaaGreatDoorRow
import Derived.Test.YtkcjfoaejijdoaaGreatDoorFw
set_option linter.unusedVariables false
set_option maxRecDepth 100000
set_option maxHeartbeats 80000000000
namespace Go.Proofs.YtkcjfoaejijdoaaGreatDoor.M
open Go.RowKit
section
variable {P:Program} {n m l:Nat} {ops:Array Oper} {Q:Exit→Act→World→Prop} {rest:List Oper} {L:Env} {w:World} {D:List Deferred} {ty:TypeId} {pos:String} {aft:Array Edge}
def more (D:List Deferred) (a:Act):Act:={a with defers:=a.defers++D}
theorem H8 (a:Act) (d:Option Tmp) (v:Value):(more D a).put d v=more D (a.put d v):= by cases d<;>rfl
theorem GR (a:Act):(more D a).eval=a.eval:= by funext x; cases x<;>rfl
def QD (D:List Deferred) (Q:Exit→Act→World→Prop):Exit→Act→World→Prop:= fun e a w=>Q e (more D a) w
theorem letsD (h:LetsOut (QD D Q)):LetsOut Q:= by obtain⟨a,w,h⟩:=h; exact⟨_,w,h⟩
theorem uponD {o:Oper} {a:Act} {K K':Act→World→Prop} (hK: ∀a w,K a w→K' (more D a) w) {r:Result Next} (h:o.upon P a K (QD D Q) r):o.upon P (more D a) K' Q r:= by
  unfold Oper.upon at h⊢
  split at h
  · rw[H8]; exact hK _ _ h
  · rw[H8]; exact hK _ _ h
  · have :=hK _ _ h; rw[←H8]at this; exact this
  · refine Calls.mono h fun e w' he=> ?_
    cases e with
    | returned v=> dsimp only at he⊢; rw[H8]; exact hK _ _ he
    | panicked c=> exact he
    | outgrown=> exact letsD he
  · refine Rows.mono h fun v w' he=> ?_
    rw[H8]; exact hK _ _ he
  · exact h
  · exact h.elim
theorem opD {o:Oper} {a:Act} {K K':Act→World→Prop} (hK: ∀a w,K a w→K' (more D a) w) (h:o.wp P a w K (QD D Q)∨(o.asks P a w∧LetsOut (QD D Q))):o.wp P (more D a) w K' Q∨(o.asks P (more D a) w∧LetsOut Q):= by
  rcases h with h | ⟨h1,h2⟩
  · refine .inl ?_
    unfold Oper.wp at h⊢
    rw[GR]
    exact uponD hK h
  · refine .inr ⟨?_,letsD h2⟩
    unfold Oper.asks at h1⊢
    rw[GR]; exact h1
theorem Ir: ∀(rest:List Oper) (a:Act) (w:World),wpList P ops (QD D Q) rest a w→wpList P ops Q rest (more D a) w
  | [],_,_,h=>h
  | o::rest,a,w,h=> by
    unfold wpList at h⊢
    rw[show(more D a).tmps=a.tmps from rfl]
    split
    · rename_i hw
      rw[if_pos hw]at h
      exact opD (fun a w=>Ir rest a w) h
    · rename_i hw
      rw[if_neg hw]at h
      rw[H8]; exact Ir rest _ _ h
theorem opsD: ∀(s:List Nat) (a:Act) (w:World),wpOps P ops (QD D Q) s a w→wpOps P ops Q s (more D a) w
  | [],_,_,h=>h
  | i::s,a,w,h=> by
    unfold wpOps at h⊢
    cases ho:ops[i]? with
    | none=> simp only[ho]at h⊢; exact opsD s a w h
    | some o=>
      simp only[ho]at h⊢
      rw[show(more D a).tmps=a.tmps from rfl]
      split
      · rename_i hw
        rw[if_pos hw]at h
        exact opD (fun a w=>opsD s a w) h
      · rename_i hw
        rw[if_neg hw]at h
        rw[H8]; exact opsD s _ _ h
structure FrD (D:List Deferred) (n:Nat) (L:Env) (a:Act):Prop where
  size:a.tmps.size=n
  defers:a.defers=D
  get: ∀t v,Xt L t=some v→a.tmps[t]? =some v
theorem FrD.less {a:Act} (h:FrD D n L a): ∃a0,Fr n L a0∧a=more D a0:=⟨{a with defers:=[]},⟨h.size,rfl,h.get⟩, by obtain⟨t,d⟩:=a; have :=h.defers; simp at this; subst this;rfl⟩
theorem Fr.more {a:Act} (h:Fr n L a):FrD D n L (more D a):=⟨h.size, by show a.defers++D=D; rw[h.defers];rfl,h.get⟩
theorem FrD.eval {a:Act} (h:FrD D n L a) {x:Operand} {v:Value} (hx:look L x=some v):a.eval x=v:= by
  obtain⟨a0,h0,rfl⟩:=h.less
  rw[GR]; exact h0.eval hx
theorem FrD.sub {L':Env} {a:Act} (h:FrD D n L a) (hs:SubE L L'):FrD D n L' a:=⟨h.size,h.defers, fun t v ht=>h.get t v (hs.get t v ht)⟩
@[irreducible] def wcD (D:List Deferred) (P:Program) (n:Nat) (c:Code) (Q:Exit→Act→World→Prop) (L:Env) (w:World):Prop:= ∀a,FrD D n L a→c.wp P Q a w
@[irreducible] def qsD (D:List Deferred) (n:Nat) (Q:Exit→Act→World→Prop) (e:Exit) (L:Env) (w:World):Prop:= ∀a,FrD D n L a→Q e a w
theorem ZG {e:Exit} (h:qsD D n Q e L w):qs n (QD D Q) e L w:= by unfold qsD at h;unfold qs; exact fun a ha=>h _ ha.more
theorem WT {c:Code} {L':Env} (hs:SubE L L') (h:wcD D P n c Q L' w):wcD D P n c Q L w:= by unfold wcD at *; exact fun a ha=>h a (ha.sub hs)
theorem XV {x y:Code} (h:wcD D P n x (Exit.then (y.wp P Q) Q) L w):wcD D P n (.seq x y) Q L w:= by unfold wcD at *; exact fun a ha=>Go.wp_seq (h a ha)
theorem XO {id:Nat} {l:List Oper} (h:wl P n l.toArray (QD D Q) l L w):wcD D P n (.region id l.toArray false) Q L w:= by
  unfold wcD;unfold wl at h
  intro a ha
  obtain⟨a0,h0,rfl⟩:=ha.less
  exact Go.wp_region_lit (Ir _ _ _ (h a0 h0))
theorem VZ {id:Nat} {l:List Oper} (hm:P.follows .mixedOrders=true) (h:DrW P n l l (QD D Q) L w.drew):wcD D P n (.region id l.toArray true) Q L w:= by
  unfold wcD
  unfold DrW at h
  intro a ha
  obtain⟨a0,h0,rfl⟩:=ha.less
  refine wp_region_draw fun t=> ?_
  simp only[Region.schedule,hm,Bool.true_or,if_true]
  refine opsD _ _ _ (h (AlikeO.refl _) _ ?_ a0 h0)
  have :=SI l.toArray l.toArray.size t (Array.replicate l.length false) (by
    unfold H0
    have :=List.length_filter_le (fun i=> !(Array.replicate l.length false).getD i false) (List.range l.toArray.size)
    simpa using this)
  simpa [Region.linearise]using this
theorem Vq (h:qsD D n Q .normal L w):wcD D P n .skip Q L w:= by unfold wcD;unfold qsD at h; exact fun a ha=>Go.wp_skip (h a ha)
theorem HN (h:qsD D n Q .ret L w):wcD D P n .ret Q L w:= by unfold wcD;unfold qsD at h; exact fun a ha=>Go.wp_ret (h a ha)
theorem Hw {c:Operand} {x y:Code} {t:Bool} (hc:look L c=some (.bool t)) (h1:t=true→wcD D P n x Q L w) (h2:t=false→wcD D P n y Q L w):wcD D P n (.cond c x y) Q L w:= by
  unfold wcD at *; exact fun a ha=>Go.wp_cond_split (ha.eval hc) (fun e=>h1 e a ha) (fun e=>h2 e a ha)
theorem LV {c:Operand} {x y:Code} {p:Prop} {dp:Decidable p} (hc:look L c=some (.bool (@decide p dp))) (h1:p→wcD D P n x Q L w) (h2: ¬p→wcD D P n y Q L w):wcD D P n (.cond c x y) Q L w:=
  Hw hc (fun e=>h1 (of_decide_eq_true e)) (fun e=>h2 (of_decide_eq_false e))
theorem XJ {y:Code} (h:wcD D P n y Q L w):qsD D n (Exit.then (y.wp P Q) Q) .normal L w:= by unfold qsD;unfold wcD at h; exact fun a ha=>h a ha
theorem UN {K:Act→World→Prop} (h:qsD D n Q .ret L w):qsD D n (Exit.then K Q) .ret L w:= by unfold qsD at *; exact fun a ha=>h a ha
theorem GM {id:Nat} (h:qsD D n Q .normal L w):qsD D n (Exit.inBlock id Q) .normal L w:= by unfold qsD at *; exact fun a ha=>h a ha
theorem Ru {x:Operand} {f:Nat} {fs cap:Array Value} {ts:Array TypeId} (hx:look L x=some (.func (.func f) fs cap)) (h:qsD [{target:= .fn (.func f) cap,args:=fs}] n Q .normal L w):wl P n ops Q [⟨none,.defer ⟨.value x, #[],ts⟩,ty,pos,aft,none⟩] L w:= by
  unfold wl;unfold qsD at h
  intro a ha
  unfold wpList
  rw[if_pos (by simp [Region.wanted])]
  refine .inl ?_
  unfold Oper.wp
  have hr:(execOp a.eval ⟨none,.defer ⟨.value x, #[],ts⟩,ty,pos,aft,none⟩).run P w= .ok (.defer {target:= .fn (.func f) cap,args:=fs}) w:= by
    simp [execOp,resolve,ha.eval hx,Deferred.ofValue]
  rw[hr]
  exact h _ ⟨ha.size, by show _::a.defers=_; rw[ha.defers],ha.get⟩
theorem Gh {f:FuncId} {fn:Func} {c:Code} {args:List Value} {R:Ending→World→Prop} (hf:P.funcs[f]? =some fn) (hb:fn.body=some c) (hn:fn.ntmps=n) (hl:Nat.ble args.length n=true)
    (h:wc P n c (bodyPostD P fn R) (B8 0 args) w):Calls P f args.toArray w R:= by
  have hle:args.length≤n:=Xn hl
  unfold wc at h
  refine calls_of_wp_defers hf hb (h _ ⟨by simp [hn];omega,rfl, fun t v ht=> ?_⟩)
  obtain⟨_,h2⟩:=U7 args 0 t v ht
  simp only[Nat.sub_zero]at h2
  have hlt:=(XQ h2).1
  rw[Array.getElem?_append_left (by simpa using hlt)]
  simpa using h2
theorem CX {f:FuncId} {fn:Func} {c:Code} {args:List Value} {R:Ending→World→Prop} {u:FrameMode} (hf:P.funcs[f]? =some fn) (hb:fn.body=some c) (hn:fn.ntmps=n) (hl:Nat.ble args.length n=true)
    (h:wc P n c (bodyPost P fn R) (B8 0 args) w):CallsD P f args.toArray u w (fun e u' w'=>u'=u∧R e w'):= by
  have hle:args.length≤n:=Xn hl
  unfold wc at h
  refine callsD_of_wp hf hb (h _ ⟨by simp [hn];omega,rfl, fun t v ht=> ?_⟩)
  obtain⟨_,h2⟩:=U7 args 0 t v ht
  simp only[Nat.sub_zero]at h2
  have hlt:=(XQ h2).1
  rw[Array.getElem?_append_left (by simpa using hlt)]
  simpa using h2
theorem finE_of {fn:Func} {R:Ending→World→Prop} {v:Value} {e:Exit} (he:e= .normal∨e= .ret) (hr: ∀a,Fr n L a→(results fn a.tmps).run P w= .ok v w) (h:R (.returned v) w):qs n (bodyPostD P fn R) e L w:= by
  unfold qs
  intro a ha
  have hd:=ha.defers
  rcases he with rfl | rfl
  · show Leaves P fn a.tmps R a.defers .returning w
    rw[hd]; exact⟨v,hr a ha,h⟩
  · show Leaves P fn a.tmps R a.defers .returning w
    rw[hd]; exact⟨v,hr a ha,h⟩
theorem finE2 {fn:Func} {R:Ending→World→Prop} {r r2:ResultVar} {v v2:Value} {e:Exit} (he:e= .normal∨e= .ret) (hf:fn.results= #[r,r2]) (hv:KA P n L w r v) (hv2:KA P n L w r2 v2) (h:R (.returned (.tuple #[v,v2])) w):qs n (bodyPostD P fn R) e L w:=
  finE_of he (fun a ha=> by rw[KT,hf]; simp [hv a ha,hv2 a ha]) h
theorem ES {fn:Func} {R:Ending→World→Prop} {R0:Value→World→Prop} {e:Exit} {f:Nat} {cap:List Value} (he:e= .normal∨e= .ret) (hc:QH P f=true) (hcd:CallsD P f cap.toArray .returning w (fun e u' w'=>u'= .returning∧Ret R0 e w'))
    (hk: ∀v0 w',R0 v0 w'→ ∃v,(∀a,Fr n L a→(results fn a.tmps).run P w'= .ok v w')∧R (.returned v) w'):qsD [{target:= .fn (.func f) cap.toArray,args:= #[]}] n (bodyPostD P fn R) e L w:= by
  unfold qsD
  intro a ha
  have hd:=ha.defers
  have main:Leaves P fn a.tmps R a.defers .returning w:= by
    rw[hd]
    refine leaves_cons (f:=f) (args:=cap.toArray) (by simp) ?_ ?_
    · have :=Ku hc cap.toArray w
      simp only[invoke]
      simpa using this
    · refine CallsD.mono hcd ?_
      rintro e u' w' ⟨rfl,v0,rfl,h0⟩
      obtain⟨v,h1,h2⟩:=hk v0 w' h0
      show Leaves P fn a.tmps R [] (settle .returning) w'
      exact⟨v,h1 {tmps:=a.tmps,defers:=[]} ⟨ha.size,rfl,ha.get⟩,h2⟩
  rcases he with rfl | rfl<;> exact main
theorem finM {fn:Func} {R:Ending→World→Prop} {e:Exit} {B:Nat} {v:Value} (he:e= .normal∨e= .ret) (hB:w.heap[B]? =some (.deferred (some []))) (hr: ∀a,Fr n L a→(results fn a.tmps).run P (w.putObj B (.deferred none))= .ok v (w.putObj B (.deferred none))) (h:R (.returned v) (w.putObj B (.deferred none))):
    qsD [{target:= .collected B,args:= #[]}] n (bodyPostM Fence.wide 0 P fn R) e L w:= by
  unfold qsD
  intro a ha
  have main:LeavesInM Fence.wide 0 P fn a.tmps R a.defers .returning w:= by
    rw[ha.defers]
    exact⟨by simp,.inl ⟨B,_,rfl,run_takeDeferred hB,⟨v,hr {tmps:=a.tmps,defers:=[]} ⟨ha.size,rfl,ha.get⟩,h⟩⟩⟩
  rcases he with rfl | rfl<;> exact main
theorem res2 {fn:Func} {t u:Nat} {v x:Value} (hf:fn.results= #[.tmp t,.tmp u]) (hv:Xt L t=some v) (hx:Xt L u=some x) (a:Act) (ha:Fr n L a):(results fn a.tmps).run P w= .ok (.tuple #[v,x]) w:= by
  have :=ha.get t v hv; have :=ha.get u x hx; simp [results,hf, *]
@[irreducible] def wcI (l:Nat) (P:Program) (n:Nat) (c:Code) (Q:Exit→Act→World→Prop) (L:Env) (w:World):Prop:= ∀a,Fr n L a→c.wpIn (RF l) 0 P Q a w
theorem Cq {c:Code} {L':Env} (hs:SubE L L') (h:wcI l P n c Q L' w):wcI l P n c Q L w:= by unfold wcI at *; exact fun a ha=>h a (ha.sub hs)
theorem BJ {x y:Code} (h:wcI l P n x (Exit.then (y.wpIn (RF l) 0 P Q) Q) L w):wcI l P n (.seq x y) Q L w:= by unfold wcI at *; exact fun a ha=>Go.wpIn_seq (h a ha)
def noDef (o:Oper):Bool:= match o.op with | .defer _=>false | _=>true
theorem JX {id:Nat} {os:List Oper} (hQ: ¬LetsOut Q) (hd:os.all noDef=true) (h:wl P n os.toArray Q os L w):wcI l P n (.region id os.toArray false) Q L w:= by
  unfold wcI;unfold wl at h
  exact fun a ha=>Go.wpIn_region_lit (Jk hQ _ _ _ (fun o ho c e=> by have :=List.all_eq_true.1 hd o ho;unfold noDef at this; rw[e]at this; cases this) (h a ha))
theorem LU {id:Nat} {c:Code} (h:wcI l P n c (Exit.inBlock id Q) L w):wcI l P n (.block id c) Q L w:= by unfold wcI at *; exact fun a ha=>Go.wpIn_block (h a ha)
theorem AN {c:Operand} {x y:Code} {t:Bool} (hc:look L c=some (.bool t)) (h1:t=true→wcI l P n x Q L w) (h2:t=false→wcI l P n y Q L w):wcI l P n (.cond c x y) Q L w:= by
  unfold wcI at *; exact fun a ha=>Go.wpIn_cond_split (ha.eval hc) (fun e=>h1 e a ha) (fun e=>h2 e a ha)
theorem BR {y:Code} (h:wcI l P n y Q L w):qs n (Exit.then (y.wpIn (RF l) 0 P Q) Q) .normal L w:= by unfold qs;unfold wcI at h; exact fun a ha=>h a ha
theorem Us {id:Nat} (h:qs n Q .normal L w):qs n (Exit.inBlock id Q) .normal L w:=Ql h
theorem qsD_app {e:Exit} {a:Act} (hd:a.defers=D) (hs:a.tmps.size=n) (hg: ∀t v,Xt L t=some v→a.tmps[t]? =some v) (h:qsD D n Q e L w):Q e a w:= by unfold qsD at h; exact h a ⟨hs,hd,hg⟩
theorem KK {rest:List Oper} {d:Nat} {x y z:Operand} {u v v2:Value} {ts:Array TypeId} {R:World→Prop} (hx:look L x=some (.func (.yield l) #[] #[])) (hy:look L y=some v) (hz:look L z=some v2) (hd:Nat.blt d n=true)
    (hY:YieldAt Fence.wide 0 P l #[v,v2] w (fun e w'=>e= .returned u∧R w')) (hk: ∀w',R w'→wlI P n ops Q rest ((d,u)::L) w'):wlI P n ops Q (⟨some d,.call ⟨.value x, #[y,z],ts⟩,ty,pos,aft,none⟩::rest) L w:= by
  obtain⟨fn,tmps,assign,body,h1,h2⟩:=hY
  unfold wlI at *
  intro a ha
  unfold wpListIn
  rw[if_pos (by simp [Region.wanted])]
  refine⟨fun _ _=>trivial, ?_⟩
  have h3:(execOp a.eval ⟨some d,.call ⟨.value x, #[y,z],ts⟩,ty,pos,aft,none⟩).run P w= .ok (.round l fn tmps assign body) w:= by
    simp only[execOp,resolve,ha.eval hx,Deferred.ofValue,invoke]
    simp [ha.eval hy,ha.eval hz,h1]
  show Oper.uponIn _ _ _ _ _ _ _ ((Oper.semAt none a.eval _).run P w)
  rw[Oper.semAt_none,h3]
  refine⟨fun q=> by simp [Fence.wide]at q,h2.mono fun e w' ⟨he,hR⟩=> ?_⟩
  subst he
  exact hk w' hR _ (ha.put (some d) u hd)
theorem yieldG {t1 t2:Nat} {x1 x2:Value} {rec:Loop} {assign body:Code} {L0:Env} {R:World→Prop}
    (hrec:w.heap[l]? =some (.loop rec)) (hst:rec.state= .ready) (hpd:rec.pending=none) (hps:rec.params= #[t1,t2]) (has:rec.assign=assign) (hbo:rec.body=body) (htn:rec.tmps.size=n)
    (hfr: ∀t v,Xt L0 t=some v→rec.tmps[t]? =some v) (ht1:Nat.blt t1 n=true) (ht2:Nat.blt t2 n=true)
    (h:wcI l P n assign (Exit.then (fun a₁ w₁=> ∃w₂,(Instr.beginRound l).run P w₁= .ok () w₂∧body.wpIn (RF l) 0 P (roundPost P l fun e w'=>e= .returned (.bool true)∧R w') a₁ w₂) (fun _ _ _=>False)) ((t2,x2)::(t1,x1)::L0) w):
    YieldAt Fence.wide 0 P l #[x1,x2] w (fun e w'=>e= .returned (.bool true)∧R w'):= by
  subst has hbo
  unfold wcI at h
  refine⟨rec.fn,(rec.tmps.setIfInBounds t1 x1).setIfInBounds t2 x2,rec.assign,rec.body, ?_,roundIn_of_wpIn trivial ?_⟩
  · have :=run_yield (P:=P) (args:= #[x1,x2]) hrec (by simp [hps])
    simpa [hps]using this
  · have ha0:Fr n L0 {tmps:=rec.tmps,defers:=[]}:=⟨htn,rfl,hfr⟩
    exact h _ ((ha0.put (some t1) x1 ht1).put (some t2) x2 ht2)
theorem Ez {rec:Loop} {body:Code} {R:World→Prop} {Q2:Exit→Act→World→Prop} (hrec:w.heap[l]? =some (.loop rec)) (hst:rec.state= .ready) (h:wcI l P n body (roundPost P l fun e w'=>e= .returned (.bool true)∧R w') L (w.putObj l (.loop {rec with state:= .busy}))):
    qs n (Exit.then (fun a₁ w₁=> ∃w₂,(Instr.beginRound l).run P w₁= .ok () w₂∧body.wpIn (RF l) 0 P (roundPost P l fun e w'=>e= .returned (.bool true)∧R w') a₁ w₂) Q2) .normal L w:= by
  unfold wcI at h;unfold qs
  exact fun a ha=>⟨_,run_beginRound hrec hst,h a ha⟩
theorem FM {rec:Loop} {R:World→Prop} (hrec:w.heap[l]? =some (.loop {rec with state:= .busy})) (hst:rec.state= .ready) (hpd:rec.pending=none) (hR:R (w.putObj l (.loop rec))):qs n (roundPost P l fun e w'=>e= .returned (.bool true)∧R w') .normal L w:= by
  unfold qs
  intro a _
  refine⟨_,_,run_endRound none hrec,rfl, ?_⟩
  have e:({{rec with state:= .busy}with state:= if(none:Option Code).isNone then .ready else .done,pending:=none}:Loop)=rec:= by
    cases rec; simp at hst hpd; subst hst hpd;rfl
  rw[e]; exact hR
end
end Go.Proofs.YtkcjfoaejijdoaaGreatDoor.M
namespace Go.Proofs.YtkcjfoaejijdoaaGreatDoor
open Go.RowKit M
def Rg:Bs→Nat
  | []=>0
  | x::l=>1+(l.takeWhile (fun y=>decide (y=x))).length
def lit:Bs→Nat
  | []=>0
  | x::l=> if Rg (x::l)<3 then 1+lit l else 0
def Jl (l:Bs):Nat:= if 3≤Rg l then Rg l else Rg l+lit (l.drop (Rg l))
theorem IT (l:Bs):Rg l≤l.length:= by
  cases l with
  | nil=> simp [Rg]
  | cons x l=> have :=(List.takeWhile_sublist (l:=l) (fun y=>decide (y=x))).length_le; simp [Rg];omega
theorem Lj {l:Bs} (h:l≠[]):1≤Rg l:= by
  cases l with
  | nil=> exact absurd rfl h
  | cons x l=> simp [Rg]
theorem Iq: ∀l:Bs,lit l≤l.length
  | []=> by simp [lit]
  | x::l=> by
    have :=Iq l
    unfold lit
    split
    · simp;omega
    · simp
theorem E8 (l:Bs):Jl l≤l.length:= by
  unfold Jl
  have :=IT l
  have :=Iq (l.drop (Rg l))
  rw[List.length_drop]at this
  split<;>omega
theorem KU {l:Bs} (h:l≠[]):1≤Jl l:= by
  unfold Jl
  have :=Lj h
  split<;>omega
theorem K8 {x:UInt8}: ∀{l:Bs} {n:Nat},n≤l.length→(∀j,j<n→l[j]? =some x)→(n=l.length∨ ∃y,l[n]? =some y∧y≠x)→(l.takeWhile (fun y=>decide (y=x))).length=n
  | [],n,h,_,_=> by simp at h; subst h;rfl
  | y::l,0,_,_,h=> by
    rcases h with h | ⟨z,h1,h2⟩
    · simp at h
    · simp at h1; subst h1; simp [h2]
  | y::l,n+1,h,h1,h2=> by
    have :=h1 0 (by omega)
    simp at this; subst this
    have :=K8 (x:=y) (l:=l) (n:=n) (by simpa using h) (fun j hj=> by simpa using h1 (j+1) (by omega)) (by simpa using h2)
    simp [this]
theorem IU {s:Bs} {k n:Nat} {x:UInt8} (h0:s[k]? =some x) (hn:1≤n) (hle:k+n≤s.length) (he: ∀j,j<n→s[k+j]? =some x) (hend:k+n=s.length∨ ∃y,s[k+n]? =some y∧y≠x):Rg (s.drop k)=n:= by
  have hk:k<s.length:=(XQ h0).1
  have hx:s[k]=x:=(XQ h0).2
  rw[List.drop_eq_getElem_cons hk,hx]
  rw[Rg,K8 (n:=n -1)]
  · omega
  · rw[List.length_drop];omega
  · intro j hj; rw[List.getElem?_drop]; have :=he (j+1) (by omega); rw[show k+1+j=k+(j+1) by omega]; exact this
  · rcases hend with h | ⟨y,h1,h2⟩
    · left; rw[List.length_drop];omega
    · right; refine⟨y, ?_,h2⟩; rw[List.getElem?_drop, show k+1+(n -1)=k+n by omega]; exact h1
theorem AQ {x:UInt8}: ∀(l:Bs) (j:Nat),j<(l.takeWhile (fun y=>decide (y=x))).length→l[j]? =some x
  | [],j,h=> by simp at h
  | y::l,j,h=> by
    by_cases hy:y=x
    · subst hy
      cases j with
      | zero=>rfl
      | succ j=> rw[List.getElem?_cons_succ]; refine AQ l j ?_; simp at h;simpa using h
    · simp [hy]at h
theorem eqN_all {l:Bs} {j:Nat} (h:j<Rg l):l[j]? =l[0]? := by
  cases l with
  | nil=> simp
  | cons x l=>
    cases j with
    | zero=>rfl
    | succ j=>
      simp [Rg]at h
      have hj:j<(l.takeWhile (fun y=>decide (y=x))).length:= by omega
      rw[List.getElem?_cons_succ,List.getElem?_cons_zero]
      exact AQ l j hj
theorem Ip {s:Bs} {k:Nat} {x:UInt8} (h0:s[k]? =some x) (h:Rg (s.drop k)<3):lit (s.drop k)=1+lit (s.drop (k+1)):= by
  obtain⟨hk,hx⟩:=XQ h0
  rw[List.drop_eq_getElem_cons hk]at h⊢
  rw[lit,if_pos h]
theorem Io {l:Bs} (h:l=[]∨3≤Rg l):lit l=0:= by
  cases l with
  | nil=>rfl
  | cons x l=>
    rcases h with h | h
    · cases h
    · rw[lit,if_neg (by omega)]
def Pk:Nat→Bs→List (Bs×Bool)
  | 0,_=>[]
  | f+1,l=> if l=[]then[]else(l.take (Jl l),decide (3≤Rg l))::Pk f (l.drop (Jl l))
theorem TI: ∀(f g:Nat) (l:Bs),l.length≤f→l.length≤g→Pk f l=Pk g l
  | 0,g,l,h,_=> by
    have hl:l=[]:=List.length_eq_zero_iff.1 (by omega)
    subst hl
    cases g with
    | zero=>rfl
    | succ g=> simp [Pk]
  | f+1,0,l,_,h=> by
    have hl:l=[]:=List.length_eq_zero_iff.1 (by omega)
    subst hl
    simp [Pk]
  | f+1,g+1,l,h1,h2=> by
    unfold Pk
    split
    · rfl
    · rename_i hl
      have :=KU hl
      rw[TI f g _ (by rw[List.length_drop];omega) (by rw[List.length_drop];omega)]
def BC (l:Bs):List (Bs×Bool):=Pk l.length l
theorem C5:BC []=[]:=rfl
theorem R9 {l:Bs} (h:l≠[]):BC l=(l.take (Jl l),decide (3≤Rg l))::BC (l.drop (Jl l)):= by
  unfold BC
  have hp:=KU h
  have hl:1≤l.length:= by cases l with | nil=> exact absurd rfl h | cons=> simp
  obtain⟨m,hm⟩: ∃m,l.length=m+1:=⟨l.length -1, by omega⟩
  rw[hm,Pk,if_neg h,TI m (l.drop (Jl l)).length _ (by rw[List.length_drop];omega) (Nat.le_refl _)]
def M8 (x:Bs×Bool):Bs:= if x.2=true then[UInt8.ofNat (128+x.1.length),x.1.headD 0]else UInt8.ofNat x.1.length::x.1
def Z3 (l:List (Bs×Bool)):Bs:=l.flatMap M8
def Uw (p:Bs):Option Bs:= if(Z3 (BC p)).length≤47 then some (Z3 (BC p))else none
def okP (x:Bs×Bool):Prop:=1≤x.1.length∧x.1.length≤64∧(x.2=true→ ∀j,j<x.1.length→x.1[j]? =x.1[0]?)
theorem OL: ∀(n:Nat) (l:Bs),l.length≤n→n≤64→(∀x∈BC l,okP x)∧(BC l).flatMap (·.1)=l
  | 0,l,h,_=> by
    have hl:l=[]:=List.length_eq_zero_iff.1 (by omega)
    subst hl; simp [C5]
  | n+1,l,h,h64=> by
    by_cases hl:l=[]
    · subst hl; simp [C5]
    · have hp:=KU hl
      have hle:=E8 l
      obtain⟨h1,h2⟩:=OL n (l.drop (Jl l)) (by rw[List.length_drop];omega) (by omega)
      rw[R9 hl]
      refine⟨?_, ?_⟩
      · intro x hx
        rcases List.mem_cons.1 hx with rfl | hx
        · refine⟨by simp;omega, by simp;omega, ?_⟩
          intro hd j hj
          simp only[decide_eq_true_eq]at hd
          have hpn:Jl l=Rg l:= by unfold Jl; rw[if_pos hd]
          simp only[List.length_take]at hj
          simp only[List.getElem?_take]
          rw[if_pos (by omega),if_pos (by omega)]
          exact eqN_all (by omega)
        · exact h1 x hx
      · rw[List.flatMap_cons,h2]; exact List.take_append_drop _ _
theorem IW (x:Bs×Bool):1≤(M8 x).length:= by unfold M8;split<;> simp
theorem IX {x:Bs×Bool} (h:okP x):(M8 x).length≤65:= by
  obtain⟨_,h2,_⟩:=h
  unfold M8;split<;> simp;omega
theorem HC (a b:List (Bs×Bool)):Z3 (a++b)=Z3 a++Z3 b:=List.flatMap_append
theorem M7: ∀{l:List (Bs×Bool)},(∀x∈l,okP x)→(Z3 l).length≤65*l.length
  | [],_=> by simp [Z3]
  | x::l,h=> by
    have h1:=IX (h x (by simp))
    have h2:=M7 (l:=l) (fun y hy=>h y (by simp [hy]))
    unfold Z3 at h2⊢
    rw[List.flatMap_cons,List.length_append,List.length_cons];omega
theorem Mg {p f:Bs} (h:Uw p=some f):f.length≤47∧f=Z3 (BC p):= by
  unfold Uw at h
  split at h
  · rename_i h1; cases h; exact⟨h1,rfl⟩
  · cases h
theorem run_eq {s:Bs} (h: ∀j,j<s.length→s[j]? =s[0]?) (h1:1≤s.length):s=List.replicate s.length (s.headD 0):= by
  apply List.ext_getElem?
  intro j
  by_cases hj:j<s.length
  · rw[h j hj,List.getElem?_replicate,if_pos hj]
    cases s with
    | nil=> simp at h1
    | cons x s=>rfl
  · rw[List.getElem?_eq_none (by omega),List.getElem?_eq_none (by simp;omega)]
theorem FO: ∀(l:List (Bs×Bool)),(∀x∈l,okP x)→l.length≤(l.flatMap (·.1)).length
  | [],_=> by simp
  | x::l,h=> by
    have h1:=FO l (fun y hy=>h y (List.mem_cons_of_mem _ hy))
    have h2:=(h x (by simp)).1
    rw[List.flatMap_cons,List.length_append,List.length_cons];omega
theorem TH {p:Bs} (hp:p.length≤64):(∀x∈BC p,okP x)∧(BC p).flatMap (·.1)=p∧(BC p).length≤64:= by
  obtain⟨h1,h2⟩:=OL p.length p (Nat.le_refl _) hp
  have :=FO _ h1
  rw[h2]at this
  exact⟨h1,h2, by omega⟩
def bldZ (b:Nat) (bs:Bs):Th:=CG fun q:Value×Value=>starL [JF 205 b [q.1,q.2],Gn 5 q.2 bs]
theorem bldZ_of {w:World} {b:Nat} {bs:Bs} {As:List Th} (h:Sat w (Va b bs::As)):Sat w (bldZ b bs::As):= by
  obtain⟨p,v,_,h1⟩:=Hu h
  have h2:=(h1.pull 1 rfl).bufZ_of; dsimp only[List.eraseIdx]at h2
  exact Sat.ex_intro (f:= fun q:Value×Value=>starL [JF 205 b [q.1,q.2],Gn 5 q.2 bs]) (p,v) (Sat.fold (As:=[JF 205 b [p,v],Gn 5 v bs]) (h2.perm (List.Perm.swap _ _ _)))
theorem bl_len {w:World} {b:Nat} {bs:Bs} {F:Th} (hS:Sat w [Va b bs,F]):
    Calls Tryz.prog 178 #[ptrV b 0] w (Ret fun v w'=>v=intV (bs.length:Int)∧Sat w' [Va b bs,F]):= by
 obtain⟨p,v,hp,hS⟩:=Hu hS
 obtain⟨ao,cap,rfl,h1v,hq⟩:=hS.bufv 1 rfl
 refine Qq Tryz.func178 rfl Tryz.ntmps178 rfl ?_
 exact Qd (Qa (Qe rfl rfl (Qf (Qc (Qd (Qa (Qb rfl rfl (Qk rfl rfl (Qg rfl J5 rfl (Qo rfl Ui (hS.tcell 0 rfl (o:=1) rfl) rfl (X5 Tryz.underlying143 rfl rfl (Qe rfl rfl (Qf (Qc (Qu (QQ (.inr rfl) rfl rfl (⟨_,rfl,rfl,YF hp hS⟩)))))))))))))))))
theorem MM {w:World} {b:Nat} {bs:Bs} {F:Th} (hS:Sat w [bldZ b bs,F]) (hl:bs.length≤70368744177663):
    Calls Tryz.prog 142 #[ptrV b 0] w (Ret fun v w'=>v=strV bs∧Sat w' [bldZ b bs,F]):= by
 obtain⟨⟨p,v⟩,hS⟩:=hS.ex
 replace hS:=hS.flat; dsimp only[Ds,Dr]at hS
 obtain⟨ao,cap,rfl,h1v,hao⟩:=hS.bufZv 1 rfl
 refine Qq Tryz.func142 rfl Tryz.ntmps142 rfl ?_
 refine Qd (Qa (Qe rfl rfl (Qf (Qc (Qd ?_)))))
 have hS1:=hS.drew
 refine QJ [0,1,2,3,5,6,7,8,9,4,10,11] [4,10] Wp (by kernel_rfl) ?_
 refine QE rfl rfl rfl (Xl rfl rfl rfl (QT rfl rfl rfl J5 (Q9 rfl rfl rfl (Qm rfl Ui (hS1.tcell 0 rfl (o:=1) rfl)) (QE rfl rfl rfl (Xl rfl rfl rfl (QT rfl rfl rfl J5 (Q9 rfl rfl rfl (Qm rfl Ui (hS1.tcell 0 rfl (o:=1) rfl)) (QU rfl rfl rfl (fun _=>(Kr Tryz.underlying143 rfl)) ?_))))))))
 refine Xj rfl rfl rfl rfl rfl rfl ?_
 refine Ro rfl hao rfl (X6 (.cons (.inl ⟨rfl,(Qm rfl Ui (hS1.tcell 0 rfl (o:=1) rfl))⟩) (Xq (by kernel_rfl))) ?_)
 refine Xj rfl rfl rfl rfl rfl rfl ?_
 refine G3 1 hS1 rfl rfl rfl Tryz.underlying230 LD (by omega) rfl ?_
 intro w2 hS2
 clear hS1
 refine X6 (Xq (by kernel_rfl)) ?_
 exact XN rfl rfl rfl (VC.nil (Qc (Qi [2] rfl (Qu (QQ (.inr rfl) rfl rfl (⟨_,rfl,rfl,Sat.ex_intro (f:= fun q:Value×Value=>starL [JF 205 b [q.1,q.2],Gn 5 q.2 bs]) (p,.slice ao bs.length cap) (Sat.fold (As:=[JF 205 b [p,_],Gn 5 _ bs]) hS2)⟩))))))
theorem Ce {w:World} {F:Th} (hS:Sat w [F]) (s:Bs) (k:Nat) (hk:k<s.length) (hl:s.length≤1000):
    Calls Tryz.prog 216 #[strV s,intV (k:Int)] w (Ret fun v w'=>v=intV (Rg (s.drop k):Nat)∧Sat w' [F]):= by
 obtain⟨x,h0⟩: ∃x,s[k]? =some x:=⟨_,Zd hk⟩
 refine Qq Tryz.func216 rfl Tryz.ntmps216 rfl ?_
 refine Qd (Qa (Qe rfl rfl (Qf (Qc (Qd (Qa (Qe rfl rfl (Qf (Qc (Qd (Qw ?_)))))))))))
 refine Xe (fun K0 E0 W0=> ∃(n:Nat),K0=s.length -k -n∧E0=[(0,strV s),(1,intV (k:Int)),(5,intV (n:Int))]∧Sat W0 [F]∧(1≤n)∧(k+n≤s.length)∧(∀j,j<n→s[k+j]? =some x)) (L0:=[(0,_),(1,_),(5,_)]) (s.length -k -1) (Cn rfl rfl rfl) ⟨1,rfl,rfl,hS,Nat.le_refl _, by omega, fun j hj=> by rw[show k+j=k by omega]; exact h0⟩ ?_
 rintro _ _ w1 ⟨n,rfl,rfl,hS1,hn,hle,he⟩
 refine Qd (Qd ?_)
 have hS2:=hS1.drew
 refine QJ [0,1,2,3,4,5,6,7,8,9,10,11,12,13,14,15,16] [] Wp (by kernel_rfl) ?_
 refine QE rfl rfl rfl (QE rfl rfl rfl (QU rfl rfl rfl (fun _=>(GX rfl rfl (by omega) (by omega))) ?_))
 refine QE rfl rfl rfl (QU rfl rfl rfl (fun _=>(Df Tryz.underlying9 rfl)) ?_)
 refine QU rfl rfl rfl (fun _=>(CI rfl rfl)) ?_
 refine QE rfl rfl rfl (Wn 12 rfl (fun h3=> ?_) (fun h3=> ?_))
 ·obtain⟨y,hy⟩: ∃y,s[k+n]? =some y:=⟨_,Zd (by omega)⟩
  refine QU rfl rfl (Qy rfl rfl (QW h3)) (fun _=>(Ev.gd (Xa rfl))) ?_
  refine QU rfl rfl (Qy rfl rfl (QW h3)) (fun _=>(Ev.gd (Xa rfl))) ?_
  refine QU rfl rfl (Qy rfl rfl (QW h3)) (fun _=>(Ev.gd (Xa rfl))) ?_
  refine QU rfl rfl (Qy rfl rfl (QW h3)) (fun _=>(Ev.gd (GX rfl rfl (by omega) (by omega)))) ?_
  refine Q9 rfl rfl (Qy rfl rfl (QW h3)) (Ev.gd (U2 (k+n) Tryz.underlying9 rfl rfl (by omega) hy)) ?_
  refine QU rfl rfl (Qy rfl rfl (QW h3)) (fun _=>(Ev.gd (Xa rfl))) ?_
  refine QU rfl rfl (Qy rfl rfl (QW h3)) (fun _=>(Ev.gd (Xa rfl))) ?_
  refine Q9 rfl rfl (Qy rfl rfl (QW h3)) (Ev.gd (U2 k Tryz.underlying9 rfl rfl rfl h0)) (QU rfl rfl (Qy rfl rfl (QW h3)) (fun _=>(Ev.gd (Hb rfl rfl))) ?_)
  refine QU rfl rfl rfl (fun _=>(Jf rfl (QW h3) rfl)) ?_
  refine VC.nil (Qc (Qi [5,1,0,22] rfl (Qs rfl (fun h4=> ?_) (fun h4=> ?_))))
  ·have hyx:y=x:=UInt8.toNat_inj.1 (by have :=h4;omega)
   refine Qr (Qc (Qw (Qa (Qb rfl rfl (QK rfl rfl (by omega) (by omega) rfl ?_)))))
   refine Qe rfl rfl (Qf (Ql ?_))
   exact Q6 (L1:=[(0,_),(1,_),(5,intV ((n+1:Nat):Int))]) (Cn rfl rfl rfl) (k1:=s.length -k -(n+1)) (by omega) ⟨n+1,rfl,rfl,hS2.pick [0] rfl, by omega, by omega, fun j hj=> by by_cases e:j=n;(subst e; rw[hy,hyx]); exact he j (by omega)⟩
  have hyx:y≠x:= fun q=>h4 (by rw[q])
  exact QS (Qp (Qp (Qz (Qc (Qd (Qa (Qb rfl rfl (Qe rfl rfl (Qf (Qc (Qu (QQ (.inr rfl) rfl rfl (⟨_,rfl, by rw[IU h0 hn hle he (.inr ⟨y,hy,hyx⟩)],hS2.pick [0] rfl⟩)))))))))))))
 refine Q4 rfl rfl (Q7 rfl rfl (Q0 h3)) (Q4 rfl rfl (Q7 rfl rfl (Q0 h3)) (Q4 rfl rfl (Q7 rfl rfl (Q0 h3)) (Q4 rfl rfl (Q7 rfl rfl (Q0 h3)) (Q4 rfl rfl (Q7 rfl rfl (Q0 h3)) (Q4 rfl rfl (Q7 rfl rfl (Q0 h3)) (Q4 rfl rfl (Q7 rfl rfl (Q0 h3)) (Q4 rfl rfl (Q7 rfl rfl (Q0 h3)) (Q4 rfl rfl (Q7 rfl rfl (Q0 h3)) (QU rfl rfl rfl (fun _=>(Wa rfl (Q0 h3) rfl)) ?_)))))))))
 exact VC.nil (Qc (Qi [5,1,0,22] rfl (QV rfl (QS (Qp (Qp (Qz (Qc (Qd (Qa (Qb rfl rfl (Qe rfl rfl (Qf (Qc (Qu (QQ (.inr rfl) rfl rfl (⟨_,rfl, by rw[IU h0 hn hle he (.inl (by omega))],hS2.pick [0] rfl⟩)))))))))))))))))
def okPc (p:Bs) (ks:List (Bs×Bool)) (k:Bs×Bool):Prop:= ∃rest,BC p=ks++k::rest
def YieldsP (P:Program) (l:Nat) (ok:List (Bs×Bool)→Bs×Bool→Prop) (J:List (Bs×Bool)→Th):Prop:=
  ∀(ks:List (Bs×Bool)) (k:Bs×Bool) (R:Th) (w:World),ok ks k→Sat w [J ks,R]→YieldAt Fence.wide 0 P l #[strV k.1,.bool k.2] w (fun e w'=>e= .returned (.bool true)∧Sat w' [J (ks++[k]),R])
theorem Pv {s:Bs} {k:Nat} (h:k=s.length∨3≤Rg (s.drop k)):lit (s.drop k)=0:=Io (by rcases h with h | h; exact .inl (by rw[h,List.drop_length]); exact .inr h)
theorem pcs_it {w:World} {l c:Nat} {page:Bs} {J:List (Bs×Bool)→Th} {F:Th} (hpl:page.length≤1000) (hS:Sat w [J [],QF c [strV page],F]) (hY:YieldsP Tryz.prog l (okPc page) J):
    Calls Tryz.prog 215 #[.func (.yield l) #[] #[],ptrV c 0] w (Ret fun v w'=>Sat w' [J (BC page),QF c [strV page],F]):= by
 refine Qq Tryz.func215 rfl Tryz.ntmps215 rfl ?_
 refine Qd (Qa (Qe rfl rfl (Qf (Qc (Qw ?_)))))
 refine Xe (fun K0 E0 W0=> ∃(ks:List (Bs×Bool)) (a:Nat),K0=page.length -a∧E0=[(0,.func (.yield l) #[] #[]),(1,ptrV c 0),(3,intV (a:Int))]∧Sat W0 [J ks,QF c [strV page],F]∧(BC page=ks++BC (page.drop a))∧(a≤page.length)) (L0:=[(0,_),(1,_),(3,_)]) (page.length -0) (Cn rfl rfl rfl) ⟨[],0,rfl,rfl,hS, by simp, by omega⟩ ?_
 rintro _ _ w1 ⟨ks,a,rfl,rfl,hS1,hks,hal⟩
 refine Qd (Qd (Qa (Qb rfl rfl (Qo rfl ZC (by first | assumption | exact hS1.cell 1 rfl rfl) rfl ?_))))
 refine Wj Tryz.underlying9 rfl rfl (Xb rfl rfl rfl (Qf (Qc (Qs rfl (fun h2=> ?_) (fun h2=> ?_)))))
 ·have he1:=Lj (l:=page.drop a) (fun q=> by have :=congrArg List.length q; rw[List.length_drop]at this; simp at this;omega)
  have he2:a+Rg (page.drop a)≤page.length:= by have :=IT (page.drop a); rw[List.length_drop]at this;omega
  refine Qr (Qc (Qw (Qd (Qa (Qo rfl ZC (by first | assumption | exact hS1.cell 1 rfl rfl) rfl ?_)))))
  refine Qb rfl rfl (Qv Lq rfl (Ce (hS1.sp [] rfl) page (a) (by omega) hpl) rfl ?_)
  rintro _ w3 ⟨rfl,hS3⟩
  replace hS3:=hS3.jn rfl rfl
  clear hS1
  refine Qe rfl rfl (Qe rfl rfl (Qf (Qc (Qi [3,1,0,4,5] rfl (Qd (Qd (Qa (Qb rfl rfl (Xb rfl rfl rfl (Qf (Qc (Qs rfl (fun h4=> ?_) (fun h4=> ?_)))))))))))))
  ·refine Qd (Qa (Qe rfl rfl (Qf (Qc (Qw (Xe (fun K0 E0 W0=> ∃(m:Nat),K0=page.length -a -m∧E0=[(0,.func (.yield l) #[] #[]),(1,ptrV c 0),(3,intV (a:Int)),(4,intV (m:Int)),(5,.bool false)]∧Sat W0 [J ks,QF c [strV page],F]∧(1≤m)∧(a+m≤page.length)∧(Rg (page.drop a)+lit (page.drop (a+Rg (page.drop a)))=m+lit (page.drop (a+m)))) (L0:=[(0,_),(1,_),(3,_),(4,_),(5,_)]) (page.length -a -Rg (page.drop a)) (VX rfl rfl rfl rfl rfl) ⟨Rg (page.drop a),rfl,rfl,hS3,he1,he2,rfl⟩ ?_))))))
   rintro _ _ w5 ⟨m,rfl,rfl,hS5,hm1,hm2,hm3⟩
   refine Qd (Qd (Qa (Qb rfl rfl (Qb rfl rfl (QK rfl rfl (by omega) (by omega) rfl ?_)))))
   refine Qo rfl ZC (hS5.cell 1 rfl rfl) rfl (Wj Tryz.underlying9 rfl rfl (Xb rfl rfl rfl (Qb rfl rfl (QN 21 rfl (fun h6=> ?_) (fun h6=> ?_)))))
   ·refine Qj rfl rfl (QW h6) (Qo rfl ZC (hS5.cell 1 rfl rfl) rfl (Qj rfl rfl (QW h6) (Qb rfl rfl (Qj rfl rfl (QW h6) (Qb rfl rfl (Qj rfl rfl (QW h6) (QK rfl rfl (by omega) (by omega) rfl ?_)))))))
    refine Qj rfl rfl (QW h6) (Qv Lq rfl (Ce (hS5.sp [] rfl) page (a+m) (by omega) hpl) rfl ?_)
    rintro _ w7 ⟨rfl,hS7⟩
    replace hS7:=hS7.jn rfl rfl
    clear hS5
    refine Qj rfl rfl (QW h6) (Xb rfl rfl rfl (QC rfl (QW h6) rfl rfl (Qf (Qc (Qi [5,4,3,1,0,28] rfl (Qs rfl (fun h8=> ?_) (fun h8=> ?_)))))))
    ·refine Qr (Qc (Qw (Qa (Qb rfl rfl (QK rfl rfl (by omega) (by omega) rfl ?_)))))
     refine Qe rfl rfl (Qf (Ql ?_))
     exact Q6 (L1:=[(0,_),(1,_),(3,_),(4,intV ((m+1:Nat):Int)),(5,_)]) (VX rfl rfl rfl rfl rfl) (k1:=page.length -a -(m+1)) (by omega) ⟨m+1,rfl,rfl,hS7.pick [0,1,2] rfl, by omega, by omega, by rw[hm3,Ip (Zd (by omega)) (by omega), show a+(m+1)=a+m+1 by omega];omega⟩
    refine QS (Qp (Qp (Qz (Qc (Qd (Qd ?_))))))
    have hm:Jl (page.drop a)=m:= by unfold Jl; rw[if_neg (by omega),List.drop_drop]; have :=Pv (s:=page) (k:=a+m) (.inr (by omega));omega
    have hbb:decide (3≤Rg (page.drop a))=false:= by exact Q0 (by omega)
    have hpc:BC page=ks++((page.take (a+m)).drop a,false)::BC (page.drop (a+m)):= by rw[hks,R9 (l:=page.drop a) (fun q=> by have :=congrArg List.length q; rw[List.length_drop]at this; simp at this;omega),List.drop_drop,hm,hbb,List.drop_take, show a+m -a=m by omega]
    have hSy:=hS7.sp [0] rfl
    refine Jz (XC rfl (Xa rfl) (XC rfl (Qm rfl ZC (hS7.cell 1 rfl rfl)) (XC rfl (Xa rfl) (XC rfl (Xa rfl) (XC rfl (Xa rfl) (XC rfl (GX rfl rfl (by omega) (by omega)) ?_))))))
    refine XC rfl (Kp a (a+m) Tryz.underlying9 rfl (Rk a _ rfl rfl) (Rk (a+m) _ rfl (by omega)) (by omega) (by omega)) ?_
    refine XC rfl (Xa rfl) (KK rfl rfl rfl rfl (hY ks ((page.take (a+m)).drop a,false) _ _ ⟨_,hpc⟩ hSy) ?_)
    intro w5 hS5; replace hS5:=hS5.jn rfl rfl
    refine XC rfl (UW rfl) (HM (Qc (Qi [4,3,1,0,40] rfl (QV rfl (Qr (Qc (Qa (Qb rfl rfl (Qb rfl rfl (QK rfl rfl (by omega) (by omega) rfl ?_))))))))))
    refine Qe rfl rfl (Qf (Ql ?_))
    exact Q6 (L1:=[(0,_),(1,_),(3,intV ((a+m:Nat):Int))]) (Cn rfl rfl rfl) (k1:=page.length -(a+m)) (by omega) ⟨_,a+m,rfl,rfl,hS5.pick [0,1,2] rfl, by rw[hpc,List.append_assoc];rfl, by omega⟩
   refine Qh rfl rfl (Q0 h6) rfl (Qh rfl rfl (Q0 h6) rfl (Qh rfl rfl (Q0 h6) rfl (Qh rfl rfl (Q0 h6) rfl (Qh rfl rfl (Q0 h6) rfl (Qh rfl rfl (Q0 h6) rfl (QG rfl (Q0 h6) rfl rfl (Qf (Qc (Qi [5,4,3,1,0,28] rfl (QV rfl (QS (Qp (Qp (Qz (Qc (Qd (Qd ?_)))))))))))))))))
   have hm:Jl (page.drop a)=m:= by unfold Jl; rw[if_neg (by omega),List.drop_drop]; have :=Pv (s:=page) (k:=a+m) (.inl (by omega));omega
   have hbb:decide (3≤Rg (page.drop a))=false:= by exact Q0 (by omega)
   have hpc:BC page=ks++((page.take (a+m)).drop a,false)::BC (page.drop (a+m)):= by rw[hks,R9 (l:=page.drop a) (fun q=> by have :=congrArg List.length q; rw[List.length_drop]at this; simp at this;omega),List.drop_drop,hm,hbb,List.drop_take, show a+m -a=m by omega]
   have hSy:=hS5.sp [0] rfl
   refine Jz (XC rfl (Xa rfl) (XC rfl (Qm rfl ZC (hS5.cell 1 rfl rfl)) (XC rfl (Xa rfl) (XC rfl (Xa rfl) (XC rfl (Xa rfl) (XC rfl (GX rfl rfl (by omega) (by omega)) ?_))))))
   refine XC rfl (Kp a (a+m) Tryz.underlying9 rfl (Rk a _ rfl rfl) (Rk (a+m) _ rfl (by omega)) (by omega) (by omega)) ?_
   refine XC rfl (Xa rfl) (KK rfl rfl rfl rfl (hY ks ((page.take (a+m)).drop a,false) _ _ ⟨_,hpc⟩ hSy) ?_)
   intro w5 hS5; replace hS5:=hS5.jn rfl rfl
   refine XC rfl (UW rfl) (HM (Qc (Qi [4,3,1,0,40] rfl (QV rfl (Qr (Qc (Qa (Qb rfl rfl (Qb rfl rfl (QK rfl rfl (by omega) (by omega) rfl ?_))))))))))
   refine Qe rfl rfl (Qf (Ql ?_))
   exact Q6 (L1:=[(0,_),(1,_),(3,intV ((a+m:Nat):Int))]) (Cn rfl rfl rfl) (k1:=page.length -(a+m)) (by omega) ⟨_,a+m,rfl,rfl,hS5.pick [0,1,2] rfl, by rw[hpc,List.append_assoc];rfl, by omega⟩
  refine Qr (Qc (Qd (Qd ?_)))
  obtain⟨m,hm0⟩: ∃m,m=Rg (page.drop a):=⟨_,rfl⟩
  have hm:Jl (page.drop a)=m:= by unfold Jl; rw[if_pos (by omega),hm0]
  have hbb:decide (3≤Rg (page.drop a))=true:= by exact QW (by omega)
  rw[←hm0]
  have hpc:BC page=ks++((page.take (a+m)).drop a,true)::BC (page.drop (a+m)):= by rw[hks,R9 (l:=page.drop a) (fun q=> by have :=congrArg List.length q; rw[List.length_drop]at this; simp at this;omega),List.drop_drop,hm,hbb,List.drop_take, show a+m -a=m by omega]
  have hSy:=hS3.sp [0] rfl
  refine Jz (XC rfl (Xa rfl) (XC rfl (Qm rfl ZC (hS3.cell 1 rfl rfl)) (XC rfl (Xa rfl) (XC rfl (Xa rfl) (XC rfl (Xa rfl) (XC rfl (GX rfl rfl (by omega) (by omega)) ?_))))))
  refine XC rfl (Kp a (a+m) Tryz.underlying9 rfl (Rk a _ rfl rfl) (Rk (a+m) _ rfl (by omega)) (by omega) (by omega)) ?_
  refine XC rfl (Xa rfl) (KK rfl rfl rfl rfl (hY ks ((page.take (a+m)).drop a,true) _ _ ⟨_,hpc⟩ hSy) ?_)
  intro w5 hS5; replace hS5:=hS5.jn rfl rfl
  refine XC rfl (UW rfl) (HM (Qc (Qi [3,1,0,4,40] rfl (QV rfl (Qr (Qc (Qa (Qb rfl rfl (Qb rfl rfl (QK rfl rfl (by omega) (by omega) rfl ?_))))))))))
  refine Qe rfl rfl (Qf (Ql ?_))
  exact Q6 (L1:=[(0,_),(1,_),(3,intV ((a+m:Nat):Int))]) (Cn rfl rfl rfl) (k1:=page.length -(a+m)) (by omega) ⟨_,a+m,rfl,rfl,hS5.pick [0,1,2] rfl, by rw[hpc,List.append_assoc];rfl, by omega⟩
 refine QS (Qp (Qp (Qz (ZB (.inl rfl) rfl ?_))))
 exact⟨_,rfl, by rw[show a=page.length by omega,List.drop_length,C5,List.append_nil]at hks; rw[hks]; exact hS1⟩
theorem pcs_sp {w:World} {page:Bs} {F:Th} (hS:Sat w [F]):
    Calls Tryz.prog 177 #[strV page] w (Ret fun v w'=> ∃c,v= .func (.func 215) #[] #[ptrV c 0]∧Sat w' [QF c [strV page],F]):= by
 refine Qq Tryz.func177 rfl Tryz.ntmps177 rfl ?_
 refine Qd (Qa (XU hS rfl rfl rfl ?_))
 intro b1 w1 hS1
 exact Qe rfl rfl (Qf (Qc (Qd (Qa (ZX rfl rfl (Qe rfl rfl (Qf (Qc (Qu (QQ (.inr rfl) rfl rfl (⟨_,rfl,_,rfl,hS1⟩)))))))))))
def FQ (o:Option Bs):Value:= .tuple #[strV (o.getD []),.bool o.isSome]
def Jp (l D b:Nat) (rec:Loop) (ks:List (Bs×Bool)):Th:=starL [Js l rec,Ws D,Va b (Z3 ks)]
theorem C6 {w:World} {F:Th} (hS:Sat w [F]) (page:Bs) (hp:page.length=64):
    Calls Tryz.prog 141 #[strV page] w (Ret fun v w'=>v=FQ (Uw page)∧Sat w' [F]):= by
 obtain⟨hpo,hpf,hpl⟩:=TH (p:=page) (by omega)
 have heL:=M7 hpo
 refine Hl Tryz.func141 rfl Tryz.ntmps141 rfl ?_
 refine Qd (Qa (Qe rfl rfl (Qe rfl rfl (Qf (Qc (Qd (Qd (Qa (Qb rfl rfl (Wj Tryz.underlying9 rfl rfl (X0 rfl rfl rfl (Qf (Qc (Qs rfl (fun h1=> ?_) (fun h1=> ?_)))))))))))))))
 ·exact absurd h1 (by simp;omega)
 refine Qr (Qc (Qd (Qa (G6 hS Sn (cs:=[.pointer none,.slice none 0 0]) rfl rfl ?_))))
 intro bb wB hSB
 have hSC:=YF (.inl rfl) ((ML hSB).perm (List.Perm.swap _ _ _))
 refine Qf (Qc (Qd (Qd (Qa (Qb rfl rfl (Qv cal_177 rfl (pcs_sp (hSC.sp [] rfl) (page:=page)) rfl ?_))))))
 rintro _ w2 ⟨c,rfl,hS2⟩
 replace hS2:=hS2.jn rfl rfl
 clear hSC
 refine Qf (Qc (Qw (Hg (caps:=[ptrV c 0]) rfl cal_215 ?_)))
 intro rec hr1 hr2 hr3 hr4 hr5 htn htf
 have hE:=hS2.enter_loop rec
 have hE2:=hE.pick [0,1,3,2,4] rfl
 have hE3:=Sat.fold (As:=[Js _ rec,Ws _,Va _ (Z3 [])]) hE2
 refine(pcs_it (J:=Jp _ _ bb rec) (by omega) hE3 ?_).mono ?_
 rotate_left
 ·rintro e w3 ⟨v0,rfl,hw3⟩
  have hw4:=hw3.flat; dsimp only[Ds,Dr]at hw4
  refine⟨⟨v0,rfl⟩,rec,hw4.loop 0 rfl, by rw[hr1]; simp,hr2, ?_⟩
  intro a0 ha1 ha2
  have hw5:=hw4.loop_put 0 rfl (rec':={rec with state:= .exhausted}); dsimp only[List.set]at hw5
  refine qsD_app (n:=32) ha2 (by rw[ha1]; exact htn) (by rw[ha1]; exact htf) ?_
  refine GM (XJ (XV (XV (XO ?_))))
  have hC3:=hw5.sp [2] rfl
  refine Qv cal_178 rfl (bl_len hC3) rfl ?_
  rintro _ w3 ⟨rfl,hS3⟩
  replace hS3:=hS3.jn rfl rfl; clear hC3
  clear hw5
  refine Y6 rfl rfl rfl (Qf (ZG (XJ (WT (L':=[(30,_),(4,_),(3,_),(2,_)]) (Vk rfl rfl rfl rfl) (LV rfl (fun h4=> ?_) (fun h4=> ?_))))))
  ·refine XV (XO (Qe rfl rfl (Qe rfl rfl (Qf (ZG (XJ (HN (UN ?_))))))))
   obtain⟨hD,hZ⟩:=hS3.defer_put (o:= .deferred none) 2 rfl
   dsimp only[List.eraseIdx]at hZ
   refine finM (.inr rfl) hD (res2 rfl rfl rfl) ?_
   exact⟨_,rfl, by unfold Uw; rw[if_neg (by omega)];rfl,hZ.pick [3] rfl⟩
  refine Vq (XJ (XV (XO (Qv Dm rfl (Cf (hS3.sp [0] rfl) (by omega)) rfl ?_))))
  rintro _ w5 ⟨rfl,hS5⟩
  replace hS5:=hS5.jn rfl rfl
  clear hS3
  refine Qe rfl rfl (Qe rfl rfl (Qf (ZG (XJ (HN ?_)))))
  obtain⟨hD,hZ⟩:=hS5.defer_put (o:= .deferred none) 1 rfl
  dsimp only[List.eraseIdx]at hZ
  refine finM (.inr rfl) hD (res2 rfl rfl rfl) ?_
  exact⟨_,rfl, by unfold Uw; rw[if_pos (by omega)];rfl,hZ.pick [2] rfl⟩
 intro ks k R w2 hok hw2
 have hw4:=hw2.flat; dsimp only[Jp,Ds,Dr]at hw4
 have hw6:=hw4
 obtain⟨rest,hrest⟩:=hok
 have hok1:okP k:=hpo _ (by rw[hrest]; simp)
 have hkl:ks.length≤64:= by have :=congrArg List.length hrest; simp at this;omega
 have hel:=M7 (l:=ks) (fun y hy=>hpo _ (by rw[hrest]; simp [hy]))
 obtain⟨hk1,hk2,hk3⟩:=hok1
 refine yieldG (hw6.loop 0 rfl) hr1 hr2 hr3 hr4 hr5 htn htf rfl rfl (BJ ?_)
 refine JX (by rintro⟨_,_,q⟩; exact q) rfl ?_
 refine Qe rfl rfl (Qf (BR (Cq (L':=[(5,_),(13,_),(4,_),(3,_),(2,_)]) (VX rfl rfl rfl rfl rfl) ?_)))
 refine JX (by rintro⟨_,_,q⟩; exact q) rfl ?_
 refine Qe rfl rfl (Qf (Ez (hw6.loop 0 rfl) hr1 ?_))
 have hw7:=hw6.loop_put 0 rfl (rec':={rec with state:= .busy}); dsimp only[List.set]at hw7
 refine LU (BJ ?_)
 refine JX (by rintro⟨_,_,q⟩; exact q) rfl ?_
 refine Qb rfl rfl (Qf (BR (AN rfl (fun h6=> ?_) (fun h6=> ?_))))
 ·have hkT:k.2=true:=h6
  refine BJ ?_
  refine JX (by rintro⟨_,_,q⟩; exact q) rfl ?_
  refine Qb rfl rfl (Wj Tryz.underlying9 rfl rfl (QK rfl rfl (by omega) (by omega) rfl ?_))
  refine Bq (128+k.1.length) Tryz.underlying3 Tryz.underlying5 rfl (by rfl) rfl ?_
  have hC7:=hw7.sp [2] rfl
  refine Qv Dn rfl (Hm hC7 (UInt8.ofNat (128+k.1.length)) (by omega)) rfl ?_
  rintro _ w7 ⟨rfl,hS7⟩
  replace hS7:=hS7.jn rfl rfl; clear hC7
  clear hw7
  refine Qf (BR (Cq (L':=[(5,_),(4,_),(3,_),(2,_)]) (Vk rfl rfl rfl rfl) ?_))
  refine JX (by rintro⟨_,_,q⟩; exact q) rfl ?_
  refine Qb rfl rfl ?_
  refine Y5 (c:=k.1.headD 0) 0 Tryz.underlying9 rfl rfl rfl (by rw[←List.head?_eq_getElem?]; cases hq:k.1 with | nil=> rw[hq]at hk1; simp at hk1 | cons x l=>rfl) rfl ?_
  refine Qv Dn rfl (Hm (hS7.sp [0] rfl) (k.1.headD 0) (by simp;omega)) rfl ?_
  rintro _ w8 ⟨rfl,hS8⟩
  replace hS8:=hS8.jn rfl rfl
  clear hS7
  refine Qf (Us (FM (hS8.loop 1 rfl) hr1 hr2 ?_))
  have hw9:=hS8.loop_put 1 rfl (rec':=rec); dsimp only[List.set]at hw9
  have hek:Z3 (ks++[k])=Z3 ks++[UInt8.ofNat (128+k.1.length)]++[k.1.headD 0]:= by rw[HC]; simp only[Z3,List.flatMap_cons,List.flatMap_nil,List.append_nil]; rw[M8,if_pos hkT]; simp
  refine Sat.fold (As:=[Js _ rec,Ws _,Va _ (Z3 (ks++[k]))]) ?_
  rw[hek]; exact hw9.pick [1,2,0,3] rfl
 have hkF:k.2=false:=h6
 refine BJ ?_
 refine JX (by rintro⟨_,_,q⟩; exact q) rfl ?_
 refine Qb rfl rfl (Wj Tryz.underlying9 rfl rfl (Bq k.1.length Tryz.underlying3 Tryz.underlying5 rfl (by rfl) rfl ?_))
 have hC9:=hw7.sp [2] rfl
 refine Qv Dn rfl (Hm hC9 (UInt8.ofNat k.1.length) (by omega)) rfl ?_
 rintro _ w9 ⟨rfl,hS9⟩
 replace hS9:=hS9.jn rfl rfl; clear hC9
 clear hw7
 refine Qf (BR (Cq (L':=[(5,_),(4,_),(3,_),(2,_)]) (Vk rfl rfl rfl rfl) ?_))
 refine JX (by rintro⟨_,_,q⟩; exact q) rfl ?_
 refine Qb rfl rfl ?_
 refine Qv Lz rfl (VQ (hS9.sp [0] rfl) k.1 (by simp;omega)) rfl ?_
 rintro _ w10 ⟨rfl,hS10⟩
 replace hS10:=hS10.jn rfl rfl
 clear hS9
 refine Qf (Us (FM (hS10.loop 1 rfl) hr1 hr2 ?_))
 have hw9:=hS10.loop_put 1 rfl (rec':=rec); dsimp only[List.set]at hw9
 have hek:Z3 (ks++[k])=Z3 ks++[UInt8.ofNat k.1.length]++k.1:= by rw[HC]; simp only[Z3,List.flatMap_cons,List.flatMap_nil,List.append_nil]; rw[M8,if_neg (by rw[hkF];decide)]; simp
 refine Sat.fold (As:=[Js _ rec,Ws _,Va _ (Z3 (ks++[k]))]) ?_
 rw[hek]; exact hw9.pick [1,2,0,3] rfl
end Go.Proofs.YtkcjfoaejijdoaaGreatDoor
