/- move: hearWant -/
import Derived.Test.YtiibgheijbbmaaaGreatDoorMvd
import Derived.Test.YtiibgheijbbmaaaGreatDoorOp4
import Derived.RangeFuncIn
import Derived.RangeFuncRecord
import Derived.RangeFuncLeaves
import Derived.RangeFuncSeq
import Derived.TacticsIn
import Derived.Test.YtiibgheijbbmaaaGreatDoorDr
import Derived.Test.YtiibgheijbbmaaaGreatDoorWire
set_option linter.unusedVariables false
set_option maxRecDepth 100000
namespace Go.Proofs.YtiibgheijbbmaaaGreatDoor
open Go.RowKit M Proofs.Tryz
section
variable {E:EnD} {m:MsD} {s:SeD} {p:PgD}
theorem LA (h:E.kind≠3∨m.move≠E.move):Zv E m=[]:= by unfold Zv; rw[if_pos h]
theorem hearW_b (h: ¬(E.kind≠3∨m.move≠E.move)) (hs:E.ses=none):Zv E m=[Ze E 7 0 0 []]:= by unfold Zv; rw[if_neg h,hs]
theorem hearW_c (h: ¬(E.kind≠3∨m.move≠E.move)) (hs:E.ses=some s) (hp:QN s.pages m.a=none):Zv E m=[]:= by unfold Zv; rw[if_neg h,hs]; dsimp only; rw[hp]
theorem hearW_d (h: ¬(E.kind≠3∨m.move≠E.move)) (hs:E.ses=some s) (hp:QN s.pages m.a=some p):Zv E m=[Ze E 0 m.a p.ver p.data]:= by unfold Zv; rw[if_neg h,hs]; dsimp only; rw[hp]
end
theorem P1 {w:World} {e:Nat} {E:EnD} {F:Th} (hS:Sat w [Xs e E,F]) (m:MsD) (hG:Ent F WireG) (hmv:Xy E.move) (hma:Xy m.a) (hpv: ∀s p,E.ses=some s→QN s.pages m.a=some p→Xy p.ver∧p.data.length≤20000000):
    Calls prog 75 #[ptrV e 0,.agg #[intV m.kind,intV m.move,intV m.a,intV m.b,strV m.data]] w (Ret fun v w'=>Sat w' [rowT Z4 v ((E,Zv E m)).2,Xs e ((E,Zv E m)).1,F]):= by
 obtain⟨dp,cv,sv,ov,hS⟩:=QW hS
 refine Qy func75 Qa ntmps75 Qa ?_
 refine Qg (Qb (XZ hS Qa Qa Qa ?_))
 intro mp w1 hS1
 replace hS1:Sat w1 (QR mp [intV m.kind,intV m.move,intV m.a,intV m.b,strV m.data]::_):=hS1
 refine Qc Qa Qa (Qh (Qe (Qg (Qg ?_))))
 have hS2:=hS1.drew
 refine QT [0,1,2,3,4,5,6,7,8,9,10,11,12,13] [] Jk (by kernel_rfl) ?_
 refine QM Qa Qa Qa (Xw Qa Qa Qa (QQ Qa Qa Qa Z0 (QH Qa Qa Qa (Qn Qa QK (hS2.cell 1 Qa Qa)) (QG Qa Qa Qa (fun _=>(Ye Qa Qa)) ?_))))
 refine QM Qa Qa Qa (ZK 12 Qa (fun h3=> ?_) (fun h3=> ?_))
 ·refine Q2 Qa Qa (Qs Qa Qa (Q8 h3)) (Q2 Qa Qa (Qs Qa Qa (Q8 h3)) (Q2 Qa Qa (Qs Qa Qa (Q8 h3)) (Q2 Qa Qa (Qs Qa Qa (Q8 h3)) (Q2 Qa Qa (Qs Qa Qa (Q8 h3)) (Q2 Qa Qa (Qs Qa Qa (Q8 h3)) (Q2 Qa Qa (Qs Qa Qa (Q8 h3)) (QG Qa Qa Qa (fun _=>(XL Qa (Q8 h3) Qa)) ?_)))))))
  refine VC.nil (Qe (Qk [0,3,4,20] Qa (QL Qa (Qg (Qb (Qc Qa Qa (Qh (Qe (Qo (Qm (Q7 (.inr Qa) Qa Qa ?_)))))))))))
  exact⟨_,rfl, by rw[LA (by omega)]; exact(Sat.row_nil Z4 (Qu (E:=E) ((hS2.pick [1,2,3,4,5,6] Qa))))⟩
 refine QG Qa Qa (Qt Qa Qa (Qv h3)) (fun _=>(Ev.gd (QV Qa ZE))) ?_
 refine QH Qa Qa (Qt Qa Qa (Qv h3)) (Ev.gd (Qn Qa QK (hS2.cell 0 Qa Qa))) (QG Qa Qa (Qt Qa Qa (Qv h3)) (fun _=>(Ev.gd (XA Qa))) ?_)
 refine QG Qa Qa (Qt Qa Qa (Qv h3)) (fun _=>(Ev.gd (XH Qa))) ?_
 refine QG Qa Qa (Qt Qa Qa (Qv h3)) (fun _=>(Ev.gd (QV Qa WH))) ?_
 refine QH Qa Qa (Qt Qa Qa (Qv h3)) (Ev.gd (Qn Qa QK (hS2.cell 1 Qa Qa))) (QG Qa Qa (Qt Qa Qa (Qv h3)) (fun _=>(Ev.gd (Ye Qa Qa))) ?_)
 refine QG Qa Qa Qa (fun _=>(X0 Qa (Qv h3) Qa)) ?_
 refine VC.nil (Qe (Qk [0,3,4,20] Qa (Qw Qa (fun h4=> ?_) (fun h4=> ?_))))
 ·refine Qg (Qb (Qc Qa Qa (Qh (Qe (Qo (Qm (Q7 (.inr Qa) Qa Qa ?_)))))))
  exact⟨_,rfl, by rw[LA (by omega)]; exact(Sat.row_nil Z4 (Qu (E:=E) ((hS2.pick [1,2,3,4,5,6] Qa))))⟩
 refine Qr (Qe (Qg (Qg (Qb (Qd Qa Qa (Ql Qa Qa (Qi Qa Xm Qa (Qp Qa Z8 (hS2.cell 1 Qa Qa) Qa ?_))))))))
 rcases hq_s:E.ses with _ | s
 ·rw[hq_s]at hS2
  obtain⟨rfl,hSo5⟩:=WM (hS2.pick [4,0,1,2,3,5,6] rfl)
  refine ZN underlying78 Qa Qa Qa (Qh (Qe (QL Qa (Qg ?_))))
  have hS7:=Qu (E:=E) (by rw[hq_s]; exact((ZQ hSo5).pick [2,3,4,0,5,1,6] Qa))
  refine Qb (Qd Qa Qa (Q4 WY Qa (WX (hS7.sp [0] Qa) (hG.starL 1 Qa) (k:=7) (a:=0) (b:=0) (s:=[]) (Yw (XJ (by decide)) hmv)) Qa ?_))
  rintro _ w8 ⟨rfl,hS8⟩
  replace hS8:=hS8.jn Qa Qa
  refine Xc Z4 [Ze E 7 0 0 []] hS8 Qa underlying66 JZ Qa Qa Qa Qa (by rfl) rfl ?_
  intro b9 w9 hS9
  refine Qc Qa Qa (Qh (Qe (Qk [0,3,4] Qa (Qo (Qm (Q7 (.inr Qa) Qa Qa ?_))))))
  exact⟨_,rfl, by rw[hearW_b (by omega) hq_s]; exact hS9.pick [0,1,3] Qa⟩
 rw[hq_s]at hS2
 obtain⟨sb,sm,rfl,hSo6⟩:=Zn (hS2.pick [4,0,1,2,3,5,6] rfl)
 refine ZJ underlying78 Qa Qa Qa (Qh (Qe (QF Qa (Qr (Qe (Qg ?_))))))
 have hS10:=hSo6.drew
 refine QT [0,1,2,3,4,5,6,7,8,9,10,11,12,13,14,15] [13,14] Jk (by kernel_rfl) ?_
 refine QM Qa Qa Qa (Xw Qa Qa Qa (QQ Qa Qa Qa Xm (QH Qa Qa Qa (Qn Qa Z8 (hS10.cell 3 Qa Qa)) (Xw Qa Qa Qa (QQ Qa Qa Qa ZH (QH Qa Qa Qa (Qn Qa ZZ (hS10.cell 0 Qa Qa)) (QQ Qa Qa Qa Ws (QH Qa Qa Qa (Qn Qa QK (hS10.cell 2 Qa Qa)) (QH Qa Qa Qa (UL (k:=m.a) 1 hS10 keysInt underlying89 Qa Qa Qa Wg (u:=Rr (VZ (QN s.pages m.a))) (g:=(QN s.pages m.a).isSome) (YB _ _) (KV _ _)) (QM Qa Qa Qa (Ha Qa Qa Qa Qa (Ha Qa Qa Qa Qa (Xb Qa Qa Qa Qa Qa Qa ?_)))))))))))))
 refine Xk hS10 Wg Qa Qa ?_
 intro b11 w11 hS11
 refine Xn (.cons (.inl ⟨Qa,(UL (k:=m.a) 2 hS11 keysInt underlying89 Qa Qa Qa Wg (u:=Rr (VZ (QN s.pages m.a))) (g:=(QN s.pages m.a).isSome) (YB _ _) (KV _ _))⟩) (.cons (.inl ⟨Qa,(Qn Qa QK (hS11.cell 3 Qa Qa))⟩) (.cons (.inl ⟨Qa,(Qn Qa ZZ (hS11.cell 1 Qa Qa))⟩) (.cons (.inl ⟨Qa,(Qn Qa Z8 (hS11.cell 4 Qa Qa))⟩) .nil)))) (Xb Qa Qa Qa Qa Qa Qa ?_)
 (refine QX hS11 Qa Qa Vl Qa (by rfl) (i:=0) Qa (by decide) ?_)
 intro w12 hS13; dsimp only[List.set]at hS13
 refine ZG (XC (by kernel_rfl)) ?_
 refine Jr Qa Qa Qa (VC.nil (Qe (Qk [0,3,4,5,6] Qa (Qg (Qg (Qb (Qd Qa Qa (XS Qa Qa (Qh (Qe (Xd Qa (fun h14=> ?_) (fun h14=> ?_))))))))))))
 ·have hno:QN s.pages m.a=none:= by simpa using h14
  refine Qg (Qb (Qc Qa Qa (Qh (Qe (Qo (Qm (Q7 (.inr Qa) Qa Qa ?_)))))))
  exact⟨_,rfl, by rw[hearW_c (by omega) hq_s hno]; exact(Sat.row_nil Z4 (Qu (E:=E) (by rw[hq_s]; exact((Xg (hS13.pick [1,2,0,3,4,5,6,7,8] Qa)).pick [3,4,5,0,6,7] Qa))))⟩
 obtain⟨p,hgp⟩: ∃p,QN s.pages m.a=some p:=Option.isSome_iff_exists.1 (by simpa using h14)
 have hpo:VZ (QN s.pages m.a)=p:= by rw[hgp];rfl
 rw[hpo]at hS13
 refine Qr (Qe (Qg (Qb (Qd Qa Qa (Qi Qa Ws Qa (Qp Qa QK (hS13.cell 3 Qa Qa) Qa (Qi Qa UJ Qa (Qp Qa QK (hS13.cell 0 Qa Qa) Qa (Qi Qa Rd Qa (Qp Qa Zw (hS13.cell 0 Qa Qa) Qa ?_))))))))))
 have hS15:=Qu (E:=E) (by rw[hq_s]; exact((Xg (hS13.pick [1,2,0,3,4,5,6,7,8] Qa)).pick [3,4,5,0,6,1,2,7] Qa))
 refine Q4 WY Qa (WX (hS15.sp [0] Qa) (hG.starL 2 Qa) (k:=0) (a:=m.a) (b:=p.ver) (s:=p.data) ⟨XJ (k:=0) (by decide),hmv,hma,(hpv s p hq_s hgp).1,(hpv s p hq_s hgp).2⟩) Qa ?_
 rintro _ w16 ⟨rfl,hS16⟩
 replace hS16:=hS16.jn Qa Qa
 refine Xc Z4 [Ze E 0 m.a p.ver p.data] hS16 Qa underlying66 JZ Qa Qa Qa Qa (by rfl) rfl ?_
 intro b17 w17 hS17
 refine Qc Qa Qa (Qh (Qe (Qk [4] Qa (Qo (Q7 (.inr Qa) Qa Qa ?_)))))
 exact⟨_,rfl, by rw[hearW_d (by omega) hq_s hgp]; exact hS17.pick [0,1,4] Qa⟩
end Go.Proofs.YtiibgheijbbmaaaGreatDoor
namespace Go.Proofs.YtiibgheijbbmaaaGreatDoor.M
open Go.RowKit Proofs.Tryz
section
variable {P:Program} {n m l:Nat} {ops:Array Oper} {Q:Exit→Act→World→Prop} {L:Env} {w:World}
abbrev RF (l:Nat):Fence:=Fence.wide.inRound l
theorem Tp {f:FuncId} {args:Array Value} {R:Ending→World→Prop} (h:Calls P f args w R):CallsIn (RF l) m P f args w R:=(callsIn_wide (n:=m)).2 h
theorem C8 {row:String} {args:Array Value} {R:Value→World→Prop} (h:Rows P row args w R):RowsIn (RF l) m P row args w R:= fun c cs _=> by
  obtain⟨v,w',r,s⟩:=h c cs
  exact⟨v,w',r,stepsIn_wide.2 s⟩
theorem DO {o:Oper} {a:Act} {next:Act→World→Prop} {r:Result Next} (h:o.upon P a next Q r):o.uponIn (RF l) m P a next Q r:= by
  unfold Oper.upon at h
  split at h
  · exact h
  · exact h
  · exact h
  · exact⟨fun q=> by simp [RF,Fence.wide,Fence.inRound]at q,Tp h⟩
  · exact⟨fun q=> by simp [RF,Fence.wide,Fence.inRound]at q,C8 h⟩
  · exact h
  · exact h.elim
def Dp (rest:List Oper):Prop:= ∀o∈rest,∀c,o.op≠ .defer c
theorem Yo (hQ: ¬LetsOut Q): ∀(rest:List Oper) (a:Act) (w:World),Dp rest→wpList P ops Q rest a w→wpListIn (RF l) m P ops Q rest a w
  | [],_,_,_,h=>h
  | o::rest,a,w,hd,h=> by
    unfold wpList at h
    unfold wpListIn
    have hr:Dp rest:= fun q hq=>hd q (List.mem_cons_of_mem _ hq)
    split
    · rename_i hw
      rw[if_pos hw]at h
      rcases h with h | h
      · refine⟨fun _ _=>trivial, ?_⟩
        rw[Oper.semAt_eq _ _ _ (hd o (by simp))]
        have h2:=DO (l:=l) (m:=m) h
        revert h2
        generalize (execOp a.eval o).run P w=r
        intro h2
        unfold Oper.uponIn at h2⊢
        split at h2
        · exact Yo hQ rest _ _ hr h2
        · exact Yo hQ rest _ _ hr h2
        · exact Yo hQ rest _ _ hr h2
        · refine⟨h2.1,h2.2.mono fun e w' he=> ?_⟩
          cases e with
          | returned v=> exact Yo hQ rest _ _ hr he
          | panicked c=> exact he
          | outgrown=> exact he
        · exact⟨h2.1,h2.2.mono fun v w' he=>Yo hQ rest _ _ hr he⟩
        · refine⟨h2.1,h2.2.mono fun e w' he=> ?_⟩
          cases e with
          | returned v=> exact Yo hQ rest _ _ hr he
          | panicked c=> exact he
          | outgrown=> exact he
        · exact h2
        · exact h2.elim
      · exact absurd h.2 hQ
    · rename_i hw
      rw[if_neg hw]at h
      exact⟨fun _ _=>trivial,Yo hQ rest _ _ hr h⟩
theorem AW {t:Nat} {x:Value} {rec:Loop} {idA idB idR:Nat} {opsA opsR:Array Oper} {L0:Env} {R:World→Prop}
    (hrec:w.heap[l]? =some (.loop rec)) (hst:rec.state= .ready) (hpd:rec.pending=none) (hps:rec.params= #[t]) (has:rec.assign= .region idA opsA false) (hbo:rec.body= .block idB (.region idR opsR false)) (htn:rec.tmps.size=n)
    (hfr: ∀t v,Zd L0 t=some v→rec.tmps[t]? =some v) (ht:Nat.blt t n=true) (hdA:Dp opsA.toList) (hdR:Dp opsR.toList)
    (h: ∀QA:Exit→Act→World→Prop,
      (∀L1 w1,w1.heap[l]? =some (.loop rec)→(∀QB:Exit→Act→World→Prop,(∀L2 w2,w2.heap[l]? =some (.loop {rec with state:= .busy})→R (w2.putObj l (.loop rec))→qs n QB .normal L2 w2)→wl P n opsR QB opsR.toList L1 (w1.putObj l (.loop {rec with state:= .busy})))→qs n QA .normal L1 w1)→
      wl P n opsA QA opsA.toList ((t,x)::L0) w):
    YieldAt Fence.wide m P l #[x] w (fun e w'=>e= .returned (.bool true)∧R w'):= by
  refine⟨rec.fn,rec.tmps.setIfInBounds t x,rec.assign,rec.body, ?_,roundIn_of_wpIn trivial ?_⟩
  · have :=run_yield (P:=P) (args:= #[x]) hrec (by simp [hps])
    simpa [hps]using this
  · have hA:=h (Exit.then (fun a₁ w₁=> ∃w₂,(Instr.beginRound l).run P w₁= .ok () w₂∧rec.body.wpIn (RF l) m P (roundPost P l fun e w'=>e= .returned (.bool true)∧R w') a₁ w₂) (fun _ _ _=>False)) ?_
    · unfold wl at hA
      have ha0:Fr n L0 {tmps:=rec.tmps,defers:=[]}:=⟨htn,rfl,hfr⟩
      have h1:=hA _ (ha0.put (some t) x ht)
      rw[has]
      exact wpIn_region_list (Yo (by rintro⟨a,w,q⟩; exact q) _ _ _ hdA h1)
    · intro L1 w1 hr1 hB
      unfold qs
      intro a ha
      refine⟨_,run_beginRound hr1 hst, ?_⟩
      have key: ∀c:Code,c= .block idB (.region idR opsR false)→c.wpIn (RF l) m P (roundPost P l fun e w'=>e= .returned (.bool true)∧R w') a (w1.putObj l (.loop {rec with state:= .busy})):= ?_
      · exact key _ hbo
      rintro _ rfl
      refine wpIn_block (wpIn_region_list ?_)
      have h2:=hB (Exit.inBlock idB (roundPost P l fun e w'=>e= .returned (.bool true)∧R w')) ?_
      · unfold wl at h2
        exact Yo (by rintro⟨a,w,q⟩; exact q) _ _ _ hdR (h2 a ha)
      · intro L2 w2 hr2 hR
        unfold qs
        intro a2 _
        refine⟨_,_,run_endRound none hr2,Qa, ?_⟩
        have e:({{rec with state:= .busy}with state:= if(none:Option Code).isNone then .ready else .done,pending:=none}:Loop)=rec:= by
          cases rec; simp at hst hpd; subst hst hpd;rfl
        rw[e]; exact hR
theorem Cs {g:Operand} {ps:Array Tmp} {assign body:Code} {gf:Nat} {caps:List Value} (hg:look L g=some (.func (.func gf) #[] caps.toArray)) (hc:QZ P gf=true)
    (h: ∀rec:Loop,rec.state= .ready→rec.pending=none→rec.params=ps→rec.assign=assign→rec.body=body→rec.tmps.size=n→(∀t v,Zd L t=some v→rec.tmps[t]? =some v)→
      Calls P gf (Value.func (.yield (w.heap.size+1)) #[] #[]::caps).toArray ((w.alloc (.deferred (some []))).alloc (.loop rec)) (fun e w3=>(∃v,e= .returned v)∧ ∃rec':Loop,w3.heap[w.heap.size+1]? =some (.loop rec')∧rec'.state≠ .busy∧rec'.pending=none∧
        ∀a:Act,a.tmps=rec.tmps→a.defers=[{target:= .collected w.heap.size,args:= #[]}]→Q .normal a (w3.putObj (w.heap.size+1) (.loop {rec' with state:= .exhausted})))):
    wc P n (.rangeFunc g ps assign body) Q L w:= by
  unfold wc
  intro a ha
  refine(wpIn_wide (n:=0)).1 (wpIn_rangeFunc fun fn _=> ?_)
  obtain⟨W1,hW1⟩: ∃W1,W1=(w.alloc (.deferred (some []))).alloc (.loop {state:= .ready,pending:=none,fn,tmps:=a.tmps,params:=ps,assign,body,defers:=w.heap.size}):=⟨_,rfl⟩
  have e1:(Instr.enterLoop fn a.tmps ps assign body none).run P w= .ok (w.heap.size+1,[{target:= .collected w.heap.size,args:= #[]}]) W1:= by rw[hW1]; exact run_enterLoop_outer fn a.tmps ps assign body
  have e2:(resolve a.eval (rangeCall g (w.heap.size+1)) 0).run P W1= .ok {target:= .fn (.func gf) caps.toArray,args:= #[Value.func (.yield (w.heap.size+1)) #[] #[]]} W1:= by
    simp only[resolve,rangeCall,ha.eval hg,Deferred.ofValue]
    simp [Act.eval]
  have e3:(invoke (.fn (.func gf) caps.toArray) #[Value.func (.yield (w.heap.size+1)) #[] #[]]).run P W1= .ok (.enter gf (Value.func (.yield (w.heap.size+1)) #[] #[]::caps).toArray) W1:= by
    have :=Rk hc (Value.func (.yield (w.heap.size+1)) #[] #[]::caps).toArray W1
    simp only[invoke]
    simpa using this
  refine⟨w.heap.size+1,[{target:= .collected w.heap.size,args:= #[]}],W1,{target:= .fn (.func gf) caps.toArray,args:= #[Value.func (.yield (w.heap.size+1)) #[] #[]]},W1,gf,(Value.func (.yield (w.heap.size+1)) #[] #[]::caps).toArray,W1,e1,e2, fun _ _=>trivial,e3, fun q=> by simp [Fence.wide]at q, ?_⟩
  subst hW1
  · refine callsIn_wide.2 ((h {state:= .ready,pending:=none,fn,tmps:=a.tmps,params:=ps,assign,body,defers:=w.heap.size} rfl Qa Qa Qa Qa ha.size ha.get).mono fun e w3 ⟨⟨v,he⟩,rec,h1,h2,h3,h4⟩=> ?_)
    subst he
    obtain⟨st,pd,f1,t1,p1,a1,b1,d1⟩:=rec
    simp only at h3
    subst h3
    exact⟨none,_,run_endLoop h1 h2,h4 {a with defers:=[{target:= .collected w.heap.size,args:= #[]}]++a.defers} rfl (by rw[ha.defers];rfl)⟩
theorem Nq {f:FuncId} {fn:Func} {c:Code} {args:List Value} {R:Ending→World→Prop} (hf:P.funcs[f]? =some fn) (hb:fn.body=some c) (hn:fn.ntmps=n) (hl:Nat.ble args.length n=true)
    (h:wc P n c (bodyPostM Fence.wide 0 P fn R) (Ch 0 args) w):Calls P f args.toArray w R:= by
  have hle:args.length≤n:=Xe hl
  unfold wc at h
  refine callsIn_wide.1 (callsIn_of_wp_marks (F:=Fence.wide) (n:=0) hf hb trivial ((wpIn_wide (n:=0)).2 (h _ ⟨by simp [hn];omega,rfl, fun t v ht=> ?_⟩)))
  obtain⟨_,h2⟩:=B5 args 0 t v ht
  simp only[Nat.sub_zero]at h2
  have hlt:=(Jo h2).1
  rw[Array.getElem?_append_left (by simpa using hlt)]
  simpa using h2
@[irreducible] def wlI (P:Program) (n:Nat) (ops:Array Oper) (Q:Exit→Act→World→Prop) (rest:List Oper) (L:Env) (w:World):Prop:= ∀a,Fr n L a→wpListIn Fence.wide 0 P ops Q rest a w
theorem SK {id:Nat} (h:wlI P n ops Q ops.toList L w):wc P n (.region id ops false) Q L w:= by
  unfold wlI at h;unfold wc
  intro a ha
  exact(wpIn_wide (n:=0)).1 (wpIn_region_list (h a ha))
theorem wlI_nil (h:qs n Q .normal L w):wlI P n ops Q [] L w:= by
  unfold wlI;unfold qs at h
  exact h
theorem Cq {rest:List Oper} {d:Nat} {op:Op} {v:Value} {ty:TypeId} {pos:String} {aft:Array Edge} (hd:Nat.blt d n=true) (h:Ev P L w ⟨some d,op,ty,pos,aft,none⟩ v) (hk:wlI P n ops Q rest ((d,v)::L) w):wlI P n ops Q (⟨some d,op,ty,pos,aft,none⟩::rest) L w:= by
  unfold wlI at *
  intro a ha
  unfold wpListIn
  rw[if_pos (by simp [Region.wanted])]
  refine⟨fun _ _=>trivial, ?_⟩
  have h1:=h a.eval (fun x u hx=>ha.eval hx)
  show Oper.uponIn _ _ _ _ _ _ _ ((Oper.semAt none a.eval _).run P w)
  rw[Oper.semAt_none,h1]
  exact hk _ (ha.put (some d) v hd)
theorem Es {rest:List Oper} {d:Nat} {x y:Operand} {u v:Value} {ts:Array TypeId} {ty:TypeId} {pos:String} {aft:Array Edge} {R:World→Prop} (hx:look L x=some (.func (.yield l) #[] #[])) (hy:look L y=some v) (hd:Nat.blt d n=true)
    (hY:YieldAt Fence.wide 0 P l #[v] w (fun e w'=>e= .returned u∧R w')) (hk: ∀w',R w'→wlI P n ops Q rest ((d,u)::L) w'):wlI P n ops Q (⟨some d,.call ⟨.value x, #[y],ts⟩,ty,pos,aft,none⟩::rest) L w:= by
  obtain⟨fn,tmps,assign,body,h1,h2⟩:=hY
  unfold wlI at *
  intro a ha
  unfold wpListIn
  rw[if_pos (by simp [Region.wanted])]
  refine⟨fun _ _=>trivial, ?_⟩
  have h3:(execOp a.eval ⟨some d,.call ⟨.value x, #[y],ts⟩,ty,pos,aft,none⟩).run P w= .ok (.round l fn tmps assign body) w:= by
    simp only[execOp,resolve,ha.eval hx,Deferred.ofValue,invoke]
    simp [ha.eval hy,h1]
  show Oper.uponIn _ _ _ _ _ _ _ ((Oper.semAt none a.eval _).run P w)
  rw[Oper.semAt_none,h3]
  refine⟨fun q=> by simp [Fence.wide]at q,h2.mono fun e w' ⟨he,hR⟩=> ?_⟩
  subst he
  exact hk w' hR _ (ha.put (some d) u hd)
def R1 (l:Nat) (rec:Loop):Th where
  at_:= fun w F=>(F= fun k=>k=l)∧w.heap[l]? =some (.loop rec)
  fr:= fun a ⟨e,h⟩=>⟨e, by rw[a.blk _ (by rw[e])]; exact h⟩
  lt:= fun {w F} ⟨e,h⟩ k hk=> by
    rw[e]at hk; subst hk
    rcases Nat.lt_or_ge k w.heap.size with g | g
    · exact g
    · rw[Array.getElem?_eq_none g]at h; cases h
def VN (b:Nat):Th where
  at_:= fun w F=>(F= fun k=>k=b)∧w.heap[b]? =some (.deferred (some []))
  fr:= fun a ⟨e,h⟩=>⟨e, by rw[a.blk _ (by rw[e])]; exact h⟩
  lt:= fun {w F} ⟨e,h⟩ k hk=> by
    rw[e]at hk; subst hk
    rcases Nat.lt_or_ge k w.heap.size with g | g
    · exact g
    · rw[Array.getElem?_eq_none g]at h; cases h
variable {As:List Th}
theorem Sat.loop (h:Sat w As) (i:Nat) {rec:Loop} (hi:As[i]? =some (R1 l rec)):w.heap[l]? =some (.loop rec):= by
  obtain⟨F,_,h⟩:=h.get i hi; exact h
theorem Sat.loop_put (h:Sat w As) (i:Nat) {rec rec':Loop} (hi:As[i]? =some (R1 l rec)):Sat (w.putObj l (.loop rec')) (As.set i (R1 l rec')):= by
  have hl:=h.loop i hi
  have hlt:l<w.heap.size:= by
    rcases Nat.lt_or_ge l w.heap.size with g | g
    · exact g
    · rw[Array.getElem?_eq_none g]at hl; cases hl
  refine h.step i hi fun F ⟨e,_⟩=>⟨F,⟨e,World.putObj_heap_same hlt⟩, fun k hk=> .inl hk,rfl,rfl,rfl, fun k hk=>World.putObj_heap_other fun q=>hk.2 (by rw[e]; exact q)⟩
theorem Sat.enter_loop (h:Sat w As) (rec:Loop):Sat ((w.alloc (.deferred (some []))).alloc (.loop rec)) (R1 (w.heap.size+1) rec::VN w.heap.size::As):= by
  have h1:Sat (w.alloc (.deferred (some []))) (VN w.heap.size::As):=h.new ((Only.refl _ _).alloc _) (A:=VN w.heap.size) (F':= fun k=>k=w.heap.size) ⟨rfl,heap_alloc_new w _⟩ (fun k hk=> by rw[hk]; exact Nat.le_refl _)
  have h2:=h1.new (w':=(w.alloc (.deferred (some []))).alloc (.loop rec)) ((Only.refl _ _).alloc _) (A:=R1 (w.heap.size+1) rec) (F':= fun k=>k=w.heap.size+1) ⟨rfl, by have :=heap_alloc_new (w.alloc (.deferred (some []))) (.loop rec);simpa using this⟩ (fun k hk=> by rw[hk]; simp)
  exact h2
def Eo {κ:Type} (P:Program) (l:Nat) (kv:κ→Value) (ok:List κ→κ→Prop) (J:List κ→Th):Prop:=
  ∀(ks:List κ) (k:κ) (R:Th) (w:World),ok ks k→Sat w [J ks,R]→YieldAt Fence.wide 0 P l #[kv k] w (fun e w'=>e= .returned (.bool true)∧Sat w' [J (ks++[k]),R])
structure Came {κ:Type} (g:κ→Option Value) (ks:List κ):Prop where
  nodup:ks.Nodup
  has: ∀k∈ks,g k≠none
def okC {κ:Type} (g:κ→Option Value) (ks:List κ) (k:κ):Prop:=Came g (ks++[k])
structure CSt {κ:Type} (g:κ→Option Value) (dn:κ→Prop) (ks:List κ):Prop where
  came:Came g ks
  mem: ∀k,k∈ks↔dn k
theorem CSt.start {κ:Type} (g:κ→Option Value):CSt g (fun _=>False) []:=⟨⟨List.nodup_nil, by simp⟩, by simp⟩
theorem CSt.ok {κ:Type} {g:κ→Option Value} {dn:κ→Prop} {ks:List κ} {k:κ} {v:Value} (h:CSt g dn ks) (hn: ¬dn k) (hg:g k=some v):okC g ks k:= by
  refine⟨List.nodup_append.2 ⟨h.came.nodup, by simp, ?_⟩, fun j hj=> ?_⟩
  · rintro a ha b hb rfl
    simp at hb; subst hb
    exact hn ((h.mem _).1 ha)
  · rcases List.mem_append.1 hj with hj | hj
    · exact h.came.has j hj
    · simp at hj; subst hj; rw[hg]; simp
theorem CSt.step {κ:Type} {g:κ→Option Value} {dn:κ→Prop} {ks:List κ} {k:κ} {v:Value} (h:CSt g dn ks) (hn: ¬dn k) (hg:g k=some v):CSt g (fun j=>dn j∨j=k) (ks++[k]):=
  ⟨h.ok hn hg, fun j=> by rw[List.mem_append,h.mem j]; simp⟩
structure AllC {κ:Type} (g:κ→Option Value) (ks:List κ):Prop where
  nodup:ks.Nodup
  mem: ∀k,k∈ks↔g k≠none
theorem CSt.all {κ:Type} {g:κ→Option Value} {dn:κ→Prop} {ks:List κ} (h:CSt g dn ks) (hd: ∀k v,g k=some v→dn k):AllC g ks:=
  ⟨h.came.nodup, fun k=>⟨h.came.has k, fun hk=> by
    cases hq:g k with
    | none=> exact absurd hq hk
    | some v=> exact(h.mem k).2 (hd k v hq)⟩⟩
theorem Oj {fn:Func} {R:Ending→World→Prop} {a:Act} {id d1 d2 t b D:Nat} {x:Operand} {v:Value} {ty1 ty2:TypeId} {p1 p2:String} {f1 f2:Array Edge} (hsz:a.tmps.size=n) (hget: ∀t v,Zd L t=some v→a.tmps[t]? =some v) (hdef:a.defers=[{target:= .collected D,args:= #[]}])
    (hx:look L x=some (ptrV b 0)) (ha:W9 P t=some false) (hc:w.cell? ⟨b,0,none⟩=some v) (hD:w.heap[D]? =some (.deferred (some []))) (h1:Nat.blt d1 n=true) (h2:Nat.blt d2 n=true) (hres:fn.results= #[.tmp d2])
    (hR:R (.returned v) (w.putObj D (.deferred none))):
    (Code.seq (.region id #[⟨some d1,.load t x,ty1,p1,f1,none⟩,⟨some d2,.assign (.tmp d1),ty2,p2,f2,none⟩] false) .ret).wp P (bodyPostM Fence.wide 0 P fn R) a w:= by
  have ha0:Fr n L {tmps:=a.tmps,defers:=[]}:=⟨hsz,rfl,hget⟩
  have hev: ∀y,a.eval y=({tmps:=a.tmps,defers:=[]}:Act).eval y:= fun y=> by cases y<;>rfl
  refine Go.wp_seq (Go.wp_region_lit ?_)
  refine Kc (R:= fun u w'=>u=v∧w'=w) Qa ⟨v,w,.inl (Qn (d:=d1) (ty:=ty1) (pos:=p1) (aft:=f1) hx ha hc a.eval fun y u hy=> by rw[hev]; exact ha0.eval hy),rfl,rfl⟩ ?_
  rintro v1 w1 ⟨q1,q2⟩
  rw[q1,q2]
  have hd1:d1<a.tmps.size:= by rw[hsz];simpa using h1
  have e1:(a.put (some d1) v).eval (.tmp d1)=v:= by simp [Act.put,Act.eval,hd1]
  refine Kc (R:= fun u w'=>u=v∧w'=w) Qa ⟨v,w,.inl ?_,rfl,rfl⟩ ?_
  · simp [execOp,e1]
  rintro v2 w2 ⟨q3,q4⟩
  rw[q3,q4]
  show Code.wp P .ret _ _ w
  refine Go.wp_ret ?_
  show LeavesInM Fence.wide 0 P fn _ R _ .returning w
  have hdf:((a.put (some d1) v).put (some d2) v).defers=[{target:= .collected D,args:= #[]}]:= by simp [Act.put,hdef]
  rw[hdf]
  refine⟨by simp,.inl ⟨D,_,rfl,run_takeDeferred hD, ?_⟩⟩
  refine⟨v, ?_,hR⟩
  have hd2:d2<a.tmps.size:= by rw[hsz];simpa using h2
  simp [results,hres,Act.put,hd2]
theorem Sat.defer_put {As:List Th} (h:Sat w As) (i:Nat) {D:Nat} {o:Obj} (hi:As[i]? =some (VN D)):w.heap[D]? =some (.deferred (some []))∧Sat (w.putObj D o) (As.eraseIdx i):= by
  have hp:=h.pull i hi
  obtain⟨F,F1,F2,rfl,dj,⟨e1,h1⟩,h2⟩:=hp
  have hag:Agree F2 w (w.putObj D o):=⟨rfl,rfl,rfl, fun k hk=>World.putObj_heap_other fun q=>dj k (by rw[e1]; exact q) hk⟩
  exact⟨h1,F2,(starL (As.eraseIdx i)).fr hag h2⟩
end
def Sch (l:Array Oper):Array Bool→List Nat→Prop
  | listed,[]=>Region.ready .any l listed=[]
  | listed,i::s=>i∈Region.ready .any l listed∧Sch l (listed.setIfInBounds i true) s
theorem Me (ops:Array Oper) (listed:Array Bool):Region.ready .any ops listed=(List.range ops.size).filter fun i=> !listed.getD i true&&((ops[i]?).map (·.after.all fun e=> !Region.binds .any e || listed.getD e.on false)).getD false:=rfl
theorem Av {listed:Array Bool} {i:Nat} (h:(!listed.getD i true)=true):i<listed.size∧listed.getD i false=false:= by
  have hi:i<listed.size:= by
    rcases Nat.lt_or_ge i listed.size with q | q
    · exact q
    · simp [Array.getD,Nat.not_lt.2 q]at h
  refine⟨hi, ?_⟩
  simp [Array.getD,hi]at h⊢
  exact h
theorem Ge {l:Array Oper} {listed:Array Bool} {i:Nat} (h:i∈Region.ready .any l listed):i<l.size∧i<listed.size∧listed.getD i false=false:= by
  rw[Me]at h
  simp only[List.mem_filter,List.mem_range,Bool.and_eq_true]at h
  have :=Av h.2.1
  exact⟨h.1,this.1,this.2⟩
theorem I2 (l:Array Oper): ∀(fuel t:Nat) (listed:Array Bool),UA listed l.size≤fuel→Sch l listed (Region.linearise.go .any l fuel t listed [])
  | 0,t,listed,h=> by
    simp only[Region.linearise.go,List.reverse_nil,Sch]
    cases hr:Region.ready .any l listed with
    | nil=>rfl
    | cons i rs=>
      have hm:i∈Region.ready .any l listed:= by rw[hr]; simp
      obtain⟨h1,_,h2⟩:=Ge hm
      have h3:i∈(List.range l.size).filter fun i=> !listed.getD i false:= by simp only[List.mem_filter,List.mem_range,h2]; exact⟨h1,rfl⟩
      have h4:((List.range l.size).filter fun i=> !listed.getD i false)=[]:=List.eq_nil_of_length_eq_zero (by unfold UA at h;omega)
      rw[h4]at h3; cases h3
  | fuel+1,t,listed,h=> by
    simp only[Region.linearise.go]
    change Sch l listed (match(Region.ready .any l listed)[t%(Region.ready .any l listed).length]? with
      | some i=>Region.linearise.go .any l fuel (t/ (Region.ready .any l listed).length) (listed.setIfInBounds i true) [i]
      | none=>[].reverse)
    cases hi:(Region.ready .any l listed)[t%(Region.ready .any l listed).length]? with
    | none=>
      simp only[List.reverse_nil,Sch]
      cases hr:Region.ready .any l listed with
      | nil=>rfl
      | cons x xs=>
        rw[hr]at hi
        have hlt:t%(x::xs).length<(x::xs).length:=Nat.mod_lt _ (by simp)
        rw[WU hlt]at hi; cases hi
    | some i=>
      simp only[]
      have hm:=List.mem_of_getElem? hi
      obtain⟨h1,h2,h3⟩:=Ge hm
      rw[linearise_go_acc,List.reverse_singleton,List.singleton_append]
      refine⟨hm,I2 l fuel _ _ ?_⟩
      have :=T1 h1 h2 h3
      omega
theorem Ek {P:Program} {l:Array Oper} {Q:Exit→Act→World→Prop}: ∀(s:List Nat) (fuel:Nat) (listed:Array Bool) (a:Act) (w:World),wpAny P .any l Q fuel listed a w→Sch l listed s→wpOps P l Q s a w
  | [],0,_,_,_,h,_=>h.2
  | [],_+1,_,_,_,h,hs=>h.1 hs
  | i::s,0,_,_,_,h,hs=> by have :=hs.1; rw[h.1]at this; cases this
  | i::s,fuel+1,_,_,_,h,hs=> by
    rw[wpOps_cons]
    exact wpOp_mono (fun a w hk=>Ek s fuel _ a w hk hs.2) (h.2 i hs.1)
structure AlikeO (l l':Array Oper):Prop where
  at_: ∀i:Nat,(l[i]?).map (fun (o:Oper)=>(o.dst,o.op,o.type,o.pos,o.guard))=(l'[i]?).map (fun (o:Oper)=>(o.dst,o.op,o.type,o.pos,o.guard))
theorem AlikeO.yielded {l l':Array Oper} (h:AlikeO l l') (tmps:Array Value):yielded l tmps=yielded l' tmps:= by
  funext j
  have :=h.at_ j
  unfold Go.yielded
  have e:(l[j]?).bind (·.dst)=(l'[j]?).bind (·.dst):= by
    cases h1:l[j]? <;> cases h2:l'[j]? <;> simp [h1,h2]at this⊢
    exact this.1
  rw[e]
theorem AlikeO.wpOps {P:Program} {Q:Exit→Act→World→Prop} {l l':Array Oper} (h:AlikeO l l'): ∀(s:List Nat) (a:Act) (w:World),wpOps P l' Q s a w→wpOps P l Q s a w
  | [],_,_,hh=>hh
  | i::s,a,w,hh=> by
    rw[wpOps_cons]at hh⊢
    have hh2:=wpOp_mono (fun a w=>h.wpOps s a w) hh
    have hi:=h.at_ i
    unfold wpOp at hh2⊢
    cases h1:l[i]? with
    | none=>
      cases h2:l'[i]? with
      | none=> rw[h2]at hh2; exact hh2
      | some o'=> simp [h1,h2]at hi
    | some o=>
      cases h2:l'[i]? with
      | none=> simp [h1,h2]at hi
      | some o'=>
        rw[h2]at hh2
        simp only at hh2⊢
        obtain⟨d,op,ty,pos,aft,g⟩:=o
        obtain⟨d',op',ty',pos',aft',g'⟩:=o'
        simp [h1,h2]at hi
        obtain⟨rfl,rfl,rfl,rfl,rfl⟩:=hi
        rw[h.yielded]
        have he: ∀ρ:Operand→Value,execOp ρ ⟨d,op,ty,pos,aft,g⟩=execOp ρ ⟨d,op,ty,pos,aft',g⟩:= by intro ρ; cases op<;>rfl
        have hw:Region.wanted ⟨d,op,ty,pos,aft,g⟩ (Go.yielded l' a.tmps)=Region.wanted ⟨d,op,ty,pos,aft',g⟩ (Go.yielded l' a.tmps):=rfl
        rw[hw]
        split
        · rename_i hwt
          rw[if_pos hwt]at hh2
          rcases hh2 with hq | ⟨hq,hl⟩
          · left
            unfold Oper.wp at hq⊢
            rw[he]
            generalize (execOp a.eval ⟨d,op,ty,pos,aft',g⟩).run P w=r at hq⊢
            cases r with
            | ok m w'=> cases m<;> exact hq
            | halt x w'=> cases x<;> exact hq
          · right
            refine⟨?_,hl⟩
            unfold Oper.asks at hq⊢
            rw[he]; exact hq
        · rename_i hwt
          rw[if_neg hwt]at hh2
          exact hh2
def Ru:List Oper→Nat→Nat→List Oper
  | [],_,_=>[]
  | o::l,0,x=>{o with after:=o.after.push ⟨x,.chain⟩}::l
  | o::l,i+1,x=>o::Ru l i x
theorem UP: ∀(l:List Oper) (i x:Nat),(Ru l i x).length=l.length
  | [],_,_=>rfl
  | _::_,0,_=>rfl
  | _::l,i+1,x=> by simp [Ru,UP l i x]
theorem MV: ∀(l:List Oper) (i x k:Nat),(Ru l i x)[k]? = if k=i then(l[k]?).map (fun (o:Oper)=>{o with after:=o.after.push ⟨x,.chain⟩})else l[k]?
  | [],i,x,k=> by simp [Ru]
  | o::l,0,x,0=> by simp [Ru]
  | o::l,0,x,k+1=> by simp [Ru]
  | o::l,i+1,x,0=> by simp [Ru]
  | o::l,i+1,x,k+1=> by simp [Ru,MV l i x k]
theorem MU {l:List Oper} {i x k:Nat} {listed:Array Bool}:k∈Region.ready .any (Ru l i x).toArray listed↔k∈Region.ready .any l.toArray listed∧(k=i→listed.getD x false=true):= by
  rw[Me,Me]
  simp only[List.mem_filter,List.mem_range,List.size_toArray,UP,List.getElem?_toArray,MV,Bool.and_eq_true]
  by_cases hk:k=i
  · subst hk
    simp only[if_true]
    cases hl:l[k]? with
    | none=> simp
    | some o=> simp [Region.binds]; exact⟨fun ⟨h1,h2,h3,h4⟩=>⟨⟨h1,h2,h3⟩,h4⟩, fun ⟨⟨h1,h2,h3⟩,h4⟩=>⟨h1,h2,h3,h4⟩⟩
  · simp [hk]
theorem MW (l:List Oper) (i x:Nat):AlikeO l.toArray (Ru l i x).toArray:=⟨fun k=> by
  simp only[List.getElem?_toArray,MV]
  split
  · cases l[k]? <;>rfl
  · rfl⟩
theorem AlikeO.trans {l l' l2:Array Oper} (h:AlikeO l l') (g:AlikeO l' l2):AlikeO l l2:=⟨fun i=>(h.at_ i).trans (g.at_ i)⟩
theorem AlikeO.refl (l:Array Oper):AlikeO l l:=⟨fun _=>rfl⟩
theorem C7 {l:List Oper} {i x:Nat}: ∀(s:List Nat) (listed:Array Bool),Sch l.toArray listed s→(∀p q,s=p++i::q→listed.getD x false=true∨x∈p)→Sch (Ru l i x).toArray listed s
  | [],listed,h,_=> by
    unfold Sch at h⊢
    cases hr:Region.ready .any (Ru l i x).toArray listed with
    | nil=>rfl
    | cons k rs=>
      have hm:k∈Region.ready .any (Ru l i x).toArray listed:= by rw[hr]; simp
      have :=(MU.1 hm).1
      rw[h]at this; cases this
  | k::s,listed,h,hx=> by
    obtain⟨h1,h2⟩:=h
    refine⟨MU.2 ⟨h1, fun e=> ?_⟩,C7 s _ h2 fun p q e=> ?_⟩
    · subst e
      rcases hx [] s rfl with h3 | h3
      · exact h3
      · cases h3
    · rcases hx (k::p) q (by rw[e];rfl)with h3 | h3
      · left
        by_cases hkx:k=x
        · subst hkx; exact Jl (Ge h1).2.1
        · rw[Ju (fun e=>hkx e.symm)]; exact h3
      · rcases List.mem_cons.1 h3 with h4 | h4
        · subst h4; exact .inl (Jl (Ge h1).2.1)
        · exact .inr h4
theorem I9 (s:List Nat) {x y:Nat} (hne:x≠y):(∀p q,s=p++y::q→x∈p)∨(∀p q,s=p++x::q→y∈p):= by
  by_cases h: ∀p q,s=p++y::q→x∈p
  · exact .inl h
  · right
    obtain⟨p,hp⟩:=Classical.not_forall.1 h
    obtain⟨q,hq⟩:=Classical.not_forall.1 hp
    obtain⟨e,hx⟩:=Classical.not_imp.1 hq
    intro p' q' e'
    rw[e]at e'
    rcases List.append_eq_append_iff.1 e' with⟨r,h1,h2⟩ | ⟨r,h1,h2⟩
    · cases r with
      | nil=> simp at h2; exact absurd h2.1.symm hne
      | cons r0 r=>
        simp at h2
        rw[h1,h2.1]; simp
    · cases r with
      | nil=> simp at h2; exact absurd h2.1 hne
      | cons r0 r=>
        simp at h2
        refine absurd ?_ hx
        rw[h1,h2.1]; simp
section
variable {P:Program} {n:Nat} {l0 l:List Oper} {sp:List Nat} {Q:Exit→Act→World→Prop}
@[irreducible] def DrW (P:Program) (n:Nat) (l0 l:List Oper) (Q:Exit→Act→World→Prop) (L:Env) (w:World):Prop:=AlikeO l0.toArray l.toArray→ ∀s,Sch l.toArray (Array.replicate l.length false) s→ ∀a,Fr n L a→wpOps P l0.toArray Q s a w
theorem DJ {id:Nat} {L:Env} {w:World} (hm:P.follows .mixedOrders=true) (h:DrW P n l l Q L w.drew):wc P n (.region id l.toArray true) Q L w:= by
  unfold wc
  unfold DrW at h
  intro a ha
  refine wp_region_draw fun t=> ?_
  simp only[Region.schedule,hm,Bool.true_or,if_true]
  refine h (AlikeO.refl _) _ ?_ a ha
  have :=I2 l.toArray l.toArray.size t (Array.replicate l.length false) (by
    unfold UA
    have :=List.length_filter_le (fun i=> !(Array.replicate l.length false).getD i false) (List.range l.toArray.size)
    simpa using this)
  simpa [Region.linearise]using this
theorem Hp {L:Env} {w:World} (x y:Nat) (hne:Nat.beq x y=false) (h1:DrW P n l0 (Ru l y x) Q L w) (h2:DrW P n l0 (Ru l x y) Q L w):DrW P n l0 l Q L w:= by
  unfold DrW at *
  intro hal s hs a ha
  rcases I9 s (x:=x) (y:=y) (fun e=> by subst e; rw[Nat.beq_refl]at hne; cases hne)with h | h
  · refine h1 (hal.trans (MW l y x)) s ?_ a ha
    rw[UP]
    exact C7 s _ hs fun p q e=> .inr (h p q e)
  · refine h2 (hal.trans (MW l x y)) s ?_ a ha
    rw[UP]
    exact C7 s _ hs fun p q e=> .inr (h p q e)
theorem VW {L:Env} {w:World} (ord:List Nat) (hck:Nh l n ord sp=true) (h:VC P n l (Hi l []) sp Q ord L w []):DrW P n l0 l Q L w:= by
  unfold DrW
  intro hal s hs a ha
  refine hal.wpOps s a w (Ek s l.length _ a w ?_ hs)
  have st:=BX hck
  have inv0:Inv P n l sp ord Q a L (Array.replicate l.length false) a w [] ord [] false:=
    { size:= by simp,closed:= fun i o _ hl=>(by rw[getD_replicate_false]at hl; cases hl),order:=rfl,vc:=h,head:=(fun h=> by cases h),inD:= fun i hl=>(by rw[getD_replicate_false]at hl; cases hl),
      spD:= by simp,old:= fun _ _=>rfl,val:= by simp,quiet:=(by intro D1 r D2 e; simp at e),again:=(by intro D1 r D2 e; simp at e),ops:= by simp,tsize:=ha.size,defers:=ha.defers}
  obtain⟨D,suf,pf,inv⟩:=inv0.advance st
  have htodo:UA (Array.replicate l.length false) l.length=l.length:= by
    unfold UA
    rw[List.filter_eq_self.2 (fun i _=> by rw[getD_replicate_false];rfl)]
    simp
  exact DN st ha l.length (Array.replicate l.length false) a w D suf pf inv htodo
end
section
variable {P:Program} {n m l:Nat} {ops:Array Oper} {Q:Exit→Act→World→Prop} {rest:List Oper} {L:Env} {w:World} {D:List Deferred} {ty:TypeId} {pos:String} {aft:Array Edge}
def more (D:List Deferred) (a:Act):Act:={a with defers:=a.defers++D}
theorem EO (a:Act):(more D a).eval=a.eval:= by funext x; cases x<;>rfl
structure FrD (D:List Deferred) (n:Nat) (L:Env) (a:Act):Prop where
  size:a.tmps.size=n
  defers:a.defers=D
  get: ∀t v,Zd L t=some v→a.tmps[t]? =some v
theorem FrD.less {a:Act} (h:FrD D n L a): ∃a0,Fr n L a0∧a=more D a0:=⟨{a with defers:=[]},⟨h.size,rfl,h.get⟩, by obtain⟨t,d⟩:=a; have :=h.defers; simp at this; subst this;rfl⟩
theorem Fr.more {a:Act} (h:Fr n L a):FrD D n L (more D a):=⟨h.size, by show a.defers++D=D; rw[h.defers];rfl,h.get⟩
theorem FrD.eval {a:Act} (h:FrD D n L a) {x:Operand} {v:Value} (hx:look L x=some v):a.eval x=v:= by
  obtain⟨a0,h0,rfl⟩:=h.less
  rw[EO]; exact h0.eval hx
theorem FrD.sub {L':Env} {a:Act} (h:FrD D n L a) (hs:SubE L L'):FrD D n L' a:=⟨h.size,h.defers, fun t v ht=>h.get t v (hs.get t v ht)⟩
@[irreducible] def wcD (D:List Deferred) (P:Program) (n:Nat) (c:Code) (Q:Exit→Act→World→Prop) (L:Env) (w:World):Prop:= ∀a,FrD D n L a→c.wp P Q a w
@[irreducible] def qsD (D:List Deferred) (n:Nat) (Q:Exit→Act→World→Prop) (e:Exit) (L:Env) (w:World):Prop:= ∀a,FrD D n L a→Q e a w
@[irreducible] def wcI (l:Nat) (P:Program) (n:Nat) (c:Code) (Q:Exit→Act→World→Prop) (L:Env) (w:World):Prop:= ∀a,Fr n L a→c.wpIn (RF l) 0 P Q a w
end
structure FnV where
  f:Nat
  fs:List Value
  cap:List Value
def FnV.v (g:FnV):Value:= .func (.func g.f) g.fs.toArray g.cap.toArray
end Go.Proofs.YtiibgheijbbmaaaGreatDoor.M
namespace Go.Proofs.YtiibgheijbbmaaaGreatDoor
open Go.RowKit M Proofs.Tryz
theorem Ik {w:World} {l c b:Nat} {g:Int→Option Value} {J:List Int→Th} {F:Th} (hS:Sat w [J [],QR c [.map (some b)],XI Za b g,F]) (hY:Eo prog l Za (okC g) J):
    Calls prog 121 #[.func (.yield l) #[] #[],ptrV c 0] w (Ret fun v w'=> ∃ks,AllC g ks∧Sat w' [J ks,QR c [.map (some b)],XI Za b g,F]):= by
 refine Qy func121 Qa ntmps121 Qa ?_
 refine Qg (Qb (Qp Qa ZZ (by first | assumption | exact hS.cell 1 Qa Qa) Qa ?_))
 refine Kd 2 hS underlying89 Qa Qa Qa ?_
 intro RR left0 wR hSR; dsimp only[List.set]at hSR
 refine Qh (Qe (QD (XD (fun K0 E0 W0=> ∃(dn:Int→Prop) (cur:Option Int) (left:Nat) (ks:List Int),K0=1*left∧E0=[(0,.func (.yield l) #[] #[]),(5,ptrV RR 0)]∧Sat W0 [J ks,YK Za b RR g dn cur left,QR c [.map (some b)],F]∧(CSt g dn ks)) (L0:=[(0,_),(5,_)]) (1*left0) (FZ Qa Qa) ⟨_,_,_,_,rfl,rfl,hSR.reorder [0,2,1,3] Qa,CSt.start g⟩ ?_)))
 rintro _ _ w1 ⟨dn,cur,left,ks,rfl,rfl,hS1,hcs⟩
 refine Qg (Qb (RQ 1 hS1 keysInt.inj Qa Qa Qa (fun hdone=> ?_) (fun k v left2 w2 hleft hgk hnd hS2=> ?_)))
 ·refine Q9 Qa Qa Qa (Qh (Qe (Qg (QF Qa (Xu (Q1 (Q1 (QJ (H5 (.inl Qa) Qa ?_)))))))))
  exact⟨_,rfl,ks,hcs.all hdone, by have hSz:=Vq (hS1.reorder [1,0,2,3] Qa); exact hSz.reorder [1,2,0,3] Qa⟩
 dsimp only[List.set]at hS2
 refine Q9 Qa Qa Qa (Qh (Qe (Qg (QL Qa (Qr (Qe (QD (Qg (Qb (Ke 1 hS2 Qa hgk Qa Qa (Q9 Qa Qa Qa (Qc Qa Qa (Qh (Qe (Qg (SK (Cq Qa (XA Qa) (Cq Qa (XA Qa) (Es Qa Qa Qa (hY _ _ _ _ (hcs.ok hnd hgk) (hS2.sp [0] Qa)) ?_)))))))))))))))))))
 intro w5 hS5; replace hS5:=hS5.jn Qa Qa
 refine Cq Qa (K5 Qa) (wlI_nil (Qe (Qk [5,0,13] Qa (QF Qa (Qr (Qq ?_))))))
 have hSz:=hS5.reorder [0,1,2,3] Qa; dsimp only[R0,De]at hSz
 exact QY (L1:=[(0,_),(5,_)]) (FZ Qa Qa) (k1:=1*left2) (by omega) ⟨_,_,_,_,rfl,rfl,hSz,hcs.step hnd hgk⟩
theorem Ij {w:World} {v0:Value} {F:Th} (hS:Sat w [F]) (h0:v0.oneCell'=true):
    Calls prog 98 #[v0] w (Ret fun v w'=> ∃c,v= .func (.func 121) #[] #[ptrV c 0]∧Sat w' [QR c v0.cells.toList,F]):= by
 refine Qy func98 Qa ntmps98 Qa ?_
 refine Qg (Qb (XZ hS Qa Qa Qa ?_))
 intro b1 w1 hS1
 exact Qc Qa Qa (Qh (Qe (Qg (Qb (U8 Qa Qa (Qc Qa Qa (Qh (Qe (Qo (Q7 (.inr Qa) Qa Qa (⟨_,Qa,_,Qa,hS1⟩)))))))))))
def ItI (g:Int→Option Value) (gf:Nat) (caps:List Value) (It:Th):Prop:= ∀(l:Nat) (J:List Int→Th) (X:Th) (w:World),Sat w [J [],It,X]→Eo prog l Za (okC g) J→Calls prog gf (.func (.yield l) #[] #[]::caps).toArray w (Ret fun _ w'=> ∃ks,AllC g ks∧Sat w' [J ks,It,X])
def JI (l D b:Nat) (rec:Loop) (ks:List Int):Th:=S8 fun v:Value=>starL [R1 l rec,VN D,QR b [v],rowT inC v ks]
theorem appI {w:World} {g:Int→Option Value} {It F:Th} {gf:Nat} {caps:List Value} (hS:Sat w [It,F]) (hcal:QZ prog gf=true) (hIt:ItI g gf caps It) (hlen: ∀ks,Came g ks→ks.length≤100000000000):
    Calls prog 131 [.slice none 0 0,.func (.func gf) #[] caps.toArray].toArray w (Ret fun v w'=> ∃ks,AllC g ks∧Sat w' [rowT inC v ks,It,F]):= by
 refine Nq func131 Qa ntmps131 Qa ?_
 refine Qg (Qb (XZ hS Qa Qa Qa ?_))
 intro b1 w1 hS1
 refine Qc Qa Qa (Qh (Qe (Qg (Qg (Qb (Qd Qa Qa (Qh (Qe (QD (Cs (caps:=caps) Qa hcal ?_))))))))))
 intro rec hr1 hr2 hr3 hr4 hr5 htn htf
 have hE:=((hS1.enter_loop rec).row_nil inC)
 have hE2:=hE.sp [1,2,3,0] Qa
 have hJ0:=Sat.ex_intro (f:= fun v:Value=>starL [R1 _ _,VN _,QR _ [v],rowT inC v []]) _ (Sat.fold (As:=[R1 _ _,VN _,QR _ [_],rowT inC _ []]) hE2)
 refine(hIt _ (JI _ _ _ _) _ _ (hJ0.join Qa) ?_).mono ?_
 ·intro ks k R w2 hok hw2
  obtain⟨v,hw3⟩:=hw2.ex
  have hw4:=hw3.flat; dsimp only[zqc,zqd]at hw4
  have hl1:=hlen _ hok
  simp only[List.length_append,List.length_cons,List.length_nil]at hl1
  refine AW (hw4.loop 0 rfl) hr1 hr2 hr3 hr4 hr5 htn htf rfl (by intro o ho c; simp at ho; subst ho; simp) (by intro o ho c; simp at ho; rcases ho with rfl | rfl | rfl | rfl | rfl<;> simp) ?_
  intro QA hA
  refine Qc Qa Qa (Qh (hA _ _ (hw4.loop 0 Qa) ?_))
  intro QB hB
  have h1v:v.oneCell'=true:=hw4.own_one 3 Qa
  have hw5:=hw4.loop_put 0 Qa (rec':={rec with state:= .busy}); dsimp only[List.set]at hw5
  refine Qp Qa S6 (hw5.cell 2 Qa Qa) Qa (Qd Qa Qa (Xc inC [k] hw5 Qa underlying33 ifz_3 Qa Qa Qa Qa (by rfl) rfl ?_))
  intro b3 w3 hw6
  refine XV inC 4 hw6 Qa Qa Qa (hw6.rd 0 Qa (by simp)) underlying33 underlying33 (by intro k hk; cases hk) ifo_3 Qa (by simp;omega) Qa (by simp;omega) ?_
  intro v4 w4 hw7; dsimp only[List.set]at hw7
  have h1v4:v4.oneCell'=true:=hw7.own_one 4 Qa
  refine QC hw7 Qa Qa sz_33 h1v4 (i:=3) Qa (by simp) ?_
  intro w5 hw8; dsimp only[List.set]at hw8
  refine Qh (hB _ _ (hw8.loop 1 Qa) ?_)
  have hw9:=hw8.loop_put 1 Qa (rec':=rec); dsimp only[List.set]at hw9
  exact(Sat.ex_intro (f:= fun v:Value=>starL [R1 _ _,VN _,QR _ [v],rowT inC v (ks++[k])]) v4 (Sat.fold (As:=[R1 _ _,VN _,QR _ [_],rowT inC _ _]) (hw9.pick [1,2,3,4,5] Qa)))
 ·rintro e w3 ⟨v0,rfl,ks,hall,hw3⟩
  obtain⟨v,hw4⟩:=hw3.ex
  have hw5:=hw4.flat; dsimp only[zqc,zqd]at hw5
  refine⟨⟨v0,rfl⟩,rec,hw5.loop 0 Qa, by rw[hr1]; simp,hr2, ?_⟩
  intro a ha1 ha2
  have hw6:=hw5.loop_put 0 Qa (rec':={rec with state:= .exhausted}); dsimp only[List.set]at hw6
  obtain⟨hD,hw7⟩:=hw6.defer_put (o:= .deferred none) 1 rfl
  dsimp only[List.eraseIdx]at hw7
  refine Oj (n:=13) (by rw[ha1]; exact htn) (by rw[ha1]; exact htf) ha2 Qa S6 (hw6.cell 2 Qa Qa) hD Qa Qa Qa ?_
  exact⟨_,Qa,ks,hall,hw7.pick [2,3,4] Qa⟩
def Ii (c b:Nat) (g:Int→Option Value):Th:=starL [QR c [.map (some b)],XI Za b g]
theorem Came.of_all {κ:Type} {g:κ→Option Value} {ks:List κ} (h:AllC g ks):Came g ks:=⟨h.nodup, fun k hk=>(h.mem k).1 hk⟩
theorem itI (c b:Nat) (g:Int→Option Value):ItI g 121 [ptrV c 0] (Ii c b g):= fun l J X w hS hY=> by
  have h1:=(hS.perm (List.Perm.swap _ _ _)).flat; dsimp only[zqc,zqd]at h1
  refine(Ik (h1.reorder [2,0,1,3] Qa) hY).mono fun e w' h=>h.mono fun v w' ⟨ks,h2,h3⟩=>⟨ks,h2, ?_⟩
  exact(Sat.fold (As:=[QR c [.map (some b)],XI Za b g]) (h3.reorder [1,2,0,3] Qa)).perm (List.Perm.swap _ _ _)
theorem colI {w:World} {g:Int→Option Value} {It F:Th} {gf:Nat} {caps:List Value} (hS:Sat w [It,F]) (hcal:QZ prog gf=true) (hIt:ItI g gf caps It) (hlen: ∀ks,Came g ks→ks.length≤100000000000):
    Calls prog 119 #[.func (.func gf) #[] caps.toArray] w (Ret fun v w'=> ∃ks,AllC g ks∧Sat w' [rowT inC v ks,It,F]):= by
 refine Qy func119 Qa ntmps119 Qa ?_
 refine Qg (Qb (Qc Qa Qa (Qh (Qe (Qg (Qb (Qd Qa Qa (Q4 cal_131 Qa (appI (hS.sp [0] Qa) hcal hIt hlen) Qa ?_))))))))
 rintro _ w1 ⟨ks,hks,hS1⟩
 replace hS1:=hS1.jn Qa Qa
 have h1v:=hS1.own_one 0 Qa
 exact Qc Qa Qa (Qh (Qe (Qo (Q7 (.inr Qa) Qa Qa (⟨_,Qa,ks,hks,hS1⟩)))))
theorem SU {w:World} {g:Int→Option Value} {It F:Th} {gf:Nat} {caps:List Value} (hS:Sat w [It,F]) (hcal:QZ prog gf=true) (hIt:ItI g gf caps It) (hlen: ∀ks,Came g ks→ks.length≤100000000000):
    Calls prog 97 #[.func (.func gf) #[] caps.toArray] w (Ret fun v w'=> ∃ks,AllC g ks∧Sat w' [rowT inC v (UB ks),It,F]):= by
 refine Qy func97 Qa ntmps97 Qa ?_
 refine Qg (Qb (Qc Qa Qa (Qh (Qe (Qg (Qb (Qd Qa Qa (Q4 cal_119 Qa (colI (hS.sp [0] Qa) hcal hIt hlen) Qa ?_))))))))
 rintro _ w1 ⟨ks,hks,hS1⟩
 replace hS1:=hS1.jn Qa Qa
 have h1v:=hS1.own_one 0 Qa
 have hln:=hlen _ (Came.of_all hks)
 refine Qc Qa Qa (Qh (Qe (Qg (Qb (Qd Qa Qa (Q4 cal_120 Qa (sortI0 (hS1.sp [0] Qa) (by omega)) Qa ?_))))))
 rintro _ w2 ⟨rfl,hS2⟩
 replace hS2:=hS2.jn Qa Qa
 exact Qh (Qe (Qg (Qb (Qd Qa Qa (Qc Qa Qa (Qh (Qe (Qo (Q7 (.inr Qa) Qa Qa (⟨_,Qa,ks,hks,hS2⟩))))))))))
