/- leaves: a commit, by contents -/
import Derived.Test.YtkcjfoaejijdoaaGreatDoorLv16
import Derived.Test.YtkcjfoaejijdoaaGreatDoorSk
import Derived.Test.YtkcjfoaejijdoaaGreatDoorLv19
set_option linter.unusedSectionVars false
set_option linter.unusedVariables false
set_option maxRecDepth 100000
set_option maxHeartbeats 80000000000
namespace Go.Proofs.YtkcjfoaejijdoaaGreatDoor
open Go.RowKit M Proofs.Tryz
variable [Inhabited SlW]
def orR (y:LfA) (r:BitVec 64):LfA:={y with rd:=y.rd ||| (r&&& ~~~y.wr)}
noncomputable def rdS (p:Int) (t:TrA) (A:LvA) (k:KD):LvA:= match t.lv k with | none=>A | some x=> if x.rd=0#64 then A else ZJ A p k (orR (Z0 A p k) x.rd)
noncomputable def Js (p:Int) (A:LvA) (ob:Bs):LvA:= if p=0 then dropP A ob else dropT A p ob
def gvX (y:LfA) (c:Bs) (wr:BitVec 64):LfA:={y with own:=c,wr:=y.wr ||| wr}
def Bv (A0:LvA) (p:Int) (k:KD) (x:LfA):Bs:=R7 (Wq A0 p k) x.own x.wr
noncomputable def gvS (A0:LvA) (p:Int) (t:TrA) (A:LvA) (k:KD):LvA:= match t.lv k with | none=>A | some x=> if x.wr=0#64 then A else if p=0 then{A with pres:=UV A.pres k (Bv A0 p k x)}else ZJ A p k (gvX (Z0 A p k) (Bv A0 p k x) x.wr)
noncomputable def PZ (A:LvA) (id:Int) (t:TrA) (l:List KD) (obs:List Bs):LvA:=
  Bw (l.foldl (gvS A t.parent t) (obs.foldl (Js t.parent) (if t.parent=0 then A else l.foldl (rdS t.parent t) A))) id
def DrA (A:LvA):Prop:= ∀i t k x,A.tr i=some t→t.dr k.1=true→t.lv k=some x→x.wr=BitVec.allOnes 64
theorem HZ {α β:Type} {f:α→β→α} {a:α} {l:List β} {i:Nat} {k:β} (h:l[i]? =some k):(l.take (i+1)).foldl f a=f ((l.take i).foldl f a) k:= by
  rw[List.take_add_one,h,List.foldl_append];rfl
theorem D4 {now own:Bs} {wr:BitVec 64} (ho:own.length=64) (hn:now.length=64) (h: ∀j,j<64→wr.getLsbD j=false→now[j]? =own[j]?):R7 now own wr=own:= by
  apply List.ext_getElem?
  intro j
  by_cases hj:j<64
  · unfold R7
    rw[List.getElem?_map,List.getElem?_range hj]
    simp only[Option.map_some]
    split
    · rw[getD_some (by omega)]
    · rename_i q
      rw[←h j hj (by simpa using q),getD_some (by omega)]
  · rw[List.getElem?_eq_none (by simp [R7];omega),List.getElem?_eq_none (by omega)]
theorem BA {now own:Bs} (ho:own.length=64) (hn:now.length=64):R7 now own (BitVec.allOnes 64)=own:=
  D4 ho hn fun j hj h=> by rw[BitVec.getLsbD_allOnes]at h; simp [hj]at h
theorem mgB_bit {now own:Bs} {wr:BitVec 64} {j:Nat} (hj:j<64) (hn:now.length=64) (h:wr.getLsbD j=false):(R7 now own wr)[j]? =now[j]? := by
  unfold R7
  rw[List.getElem?_map,List.getElem?_range hj]
  simp only[Option.map_some]
  rw[if_neg (by rw[h];decide),getD_some (by omega)]
theorem Vk {A A':LvA} {k:KD} (hp:A'.pres k=A.pres k) (ht: ∀i,(A'.tr i).map (fun t=>(t.parent,t.lv k,t.dr k.1))=(A.tr i).map (fun t=>(t.parent,t.lv k,t.dr k.1))): ∀n i,Yz A' n i k=Yz A n i k
  | 0,_=>rfl
  | n+1,i=> by
    unfold Yz
    have h:=ht i
    split
    · exact hp
    · cases q:A.tr i with
      | none=>
        cases q':A'.tr i with
        | none=>rfl
        | some t'=> rw[q,q']at h; simp at h
      | some t=>
        cases q':A'.tr i with
        | none=> rw[q,q']at h; simp at h
        | some t'=>
          rw[q,q']at h
          simp only[Option.map_some,Option.some.injEq,Prod.mk.injEq]at h
          obtain⟨h1,h2,h3⟩:=h
          dsimp only
          rw[h1,h2,h3]
          cases t.lv k with
          | some x=>rfl
          | none=>
            dsimp only
            split
            · rfl
            · exact Vk hp ht n _
theorem B2 {A:LvA} {p:Int} {k:KD} {t:TrA} (h0:p≠0) (ht:A.tr p=some t):(Z0 A p k).own=Wq A p k:= by
  unfold Z0
  rw[ht]; dsimp only
  cases hx:t.lv k with
  | none=>rfl
  | some x=>unfold Wq; rw[Yz,if_neg h0,ht]; dsimp only; rw[hx]
theorem HX {A:LvA} {p i:Int} {k:KD} {y:LfA} (h:i≠p):(ZJ A p k y).tr i=A.tr i:= by
  unfold ZJ
  cases A.tr p with
  | none=>rfl
  | some t=> dsimp only; rw[QF h]
theorem G7 {A:LvA} {p:Int} {k:KD} {y:LfA}:(ZJ A p k y).pres=A.pres:= by
  unfold ZJ
  cases A.tr p<;>rfl
theorem Dn {A:LvA} {p:Int} {k j:KD} {y:LfA} {t:TrA} (h0:p≠0) (ht:A.tr p=some t):Wq (ZJ A p k y) p j= if j=k then y.own else Wq A p j:= by
  split
  · rename_i e
    subst e
    unfold Wq
    rw[Yz,if_neg h0,Wg ht]
    dsimp only
    rw[Qy]
    dsimp only
    rw[Qy]
  · rename_i e
    refine Vk (by rw[G7]) (fun i=> ?_) _ _
    by_cases e2:i=p
    · subst e2
      rw[Wg ht,ht]
      dsimp only
      rw[Qy]
      simp only[Option.map_some]
      rw[QF e]
    · rw[HX e2]
theorem DO {A:LvA} {p:Int} {ob:Bs} {t:TrA} (ht:A.tr p=some t):dropT A p ob={A with tr:=Xu A.tr p (some {t with lv:=Z1 (fun j=>j.1=ob) t.lv,dr:=WC t.dr ob})}:= by unfold dropT; rw[ht]
theorem P2 {A:LvA} {p:Int} {j:KD} {ob:Bs} (h:j.1≠ob):Wq (dropT A p ob) p j=Wq A p j:= by
  cases ht:A.tr p with
  | none=>unfold dropT; rw[ht]
  | some t=>
    rw[DO ht]
    unfold Wq
    refine Vk (A:=A) (A':={A with tr:=Xu A.tr p (some {t with lv:=Z1 (fun j=>j.1=ob) t.lv,dr:=WC t.dr ob})}) U (fun i=> ?_) _ _
    by_cases e2:i=p
    · subst e2
      dsimp only
      rw[Qy,ht]
      simp only[Option.map_some]
      have e1:Z1 (fun j=>j.1=ob) t.lv j=t.lv j:= by unfold Z1; rw[if_neg h]
      have e3:WC t.dr ob j.1=t.dr j.1:= by unfold WC; rw[if_neg h]
      rw[e1,e3]
    · dsimp only; rw[QF e2]
theorem N7 {A:LvA} {p i:Int} {ob:Bs} (h:i≠p):(dropT A p ob).tr i=A.tr i:= by
  unfold dropT
  cases A.tr p with
  | none=>rfl
  | some t=> dsimp only; rw[QF h]
structure SeI (A0 A:LvA) (id p:Int) (t:TrA) (obs:List Bs) (gv:List KD):Prop where
  tr:A.tr id=some t
  par:p≠0→ ∃tp,A.tr p=some tp
  sees:p≠0→ ∀k,k∉gv→k.1∉obs→Wq A p k=Wq A0 p k
  oth: ∀i,i≠p→A.tr i=A0.tr i
theorem SeI.start {A0:LvA} {id p:Int} {t:TrA} (ht:A0.tr id=some t) (hp:p≠0→ ∃tp,A0.tr p=some tp):SeI A0 A0 id p t [] []:=⟨ht,hp, fun _ _ _ _=>rfl, fun _ _=>rfl⟩
theorem SeI.read {A0 A:LvA} {id p:Int} {t:TrA} (h:SeI A0 A id p t [] []) (hne:id≠p) (h0:p≠0) (k:KD):SeI A0 (rdS p t A k) id p t [] []:= by
  unfold rdS
  cases hx:t.lv k with
  | none=> exact h
  | some x=>
    dsimp only
    split
    · exact h
    · obtain⟨tp,htp⟩:=h.par h0
      refine⟨by rw[HX hne]; exact h.tr, fun _=>⟨_, by rw[Wg htp]; exact Qy⟩, fun _ j hj hb=> ?_, fun i hi=> by rw[HX hi]; exact h.oth i hi⟩
      rw[Dn h0 htp]
      split
      · rename_i e
        subst e
        rw[show(orR (Z0 A p j) x.rd).own=(Z0 A p j).own from rfl,B2 h0 htp]
        exact h.sees h0 j hj hb
      · exact h.sees h0 j hj hb
theorem SeI.drop {A0 A:LvA} {id p:Int} {t:TrA} {obs:List Bs} {ob:Bs} (h:SeI A0 A id p t obs []) (hne:id≠p):SeI A0 (Js p A ob) id p t (obs++[ob]) []:= by
  unfold Js
  by_cases h0:p=0
  · rw[if_pos h0]
    exact⟨h.tr, fun q=>absurd h0 q, fun q=>absurd h0 q,h.oth⟩
  · rw[if_neg h0]
    obtain⟨tp,htp⟩:=h.par h0
    refine⟨by rw[N7 hne]; exact h.tr, fun _=>⟨_, by rw[DO htp]; exact Qy⟩, fun _ j hj hb=> ?_, fun i hi=> by rw[N7 hi]; exact h.oth i hi⟩
    rw[P2 (fun e=>hb (by simp [e]))]
    exact h.sees h0 j hj fun q=>hb (by simp [q])
theorem SeI.give {A0 A:LvA} {id p:Int} {t:TrA} {obs:List Bs} {gv:List KD} (h:SeI A0 A id p t obs gv) (hne:id≠p) (k:KD):SeI A0 (gvS A0 p t A k) id p t obs (gv++[k]):= by
  have up:SeI A0 A id p t obs (gv++[k]):=⟨h.tr,h.par, fun h0 j hj hb=>h.sees h0 j (fun q=>hj (by simp [q])) hb,h.oth⟩
  unfold gvS
  cases hx:t.lv k with
  | none=> exact up
  | some x=>
    dsimp only
    split
    · exact up
    · split
      · rename_i h0
        exact⟨h.tr, fun q=>absurd h0 q, fun q=>absurd h0 q,h.oth⟩
      · rename_i h0
        obtain⟨tp,htp⟩:=h.par h0
        refine⟨by rw[HX hne]; exact h.tr, fun _=>⟨_, by rw[Wg htp]; exact Qy⟩, fun _ j hj hb=> ?_, fun i hi=> by rw[HX hi]; exact h.oth i hi⟩
        rw[Dn h0 htp,if_neg (fun e=>hj (by simp [e]))]
        exact h.sees h0 j (fun q=>hj (by simp [q])) hb
theorem SeI.ag {A0 A:LvA} {id p:Int} {t:TrA} {obs:List Bs} {gv:List KD} {k:KD} {x:LfA} (h:SeI A0 A id p t obs gv) (h0:p≠0) (hg:AgL A) (hk:k∉gv) (hl:(Wq A0 p k).length=64) (hd:k.1∈obs→x.wr=BitVec.allOnes 64):Pe (gvX (Z0 A p k) (Bv A0 p k x) x.wr):= fun j hj hw=> by
  have hw':(Z0 A p k).wr.getLsbD j=false∧x.wr.getLsbD j=false:= by
    have :((Z0 A p k).wr ||| x.wr).getLsbD j=false:=hw
    rw[BitVec.getLsbD_or,Bool.or_eq_false_iff]at this
    exact this
  obtain⟨tp,htp⟩:=h.par h0
  have hb:k.1∉obs:= fun q=> by
    have h2:=hw'.2
    rw[hd q,BitVec.getLsbD_allOnes]at h2
    simp [hj]at h2
  show(Z0 A p k).base[j]? =(Bv A0 p k x)[j]?
  rw[hg.tou j hj hw'.1,B2 h0 htp,h.sees h0 k hk hb]
  exact(mgB_bit hj hl hw'.2).symm
def ItS (g:Bs→Option Value) (gf:Nat) (caps:List Value) (It:Th):Prop:= ∀(l:Nat) (J:List Bs→Th) (X:Th) (w:World),Sat w [J [],It,X]→H2 prog l W8 (okC g) J→Calls prog gf (.func (.yield l) #[] #[]::caps).toArray w (Ret fun _ w'=> ∃ks,AllC g ks∧Sat w' [J ks,It,X])
def JS (l D b:Nat) (rec:Loop) (ks:List Bs):Th:=Cw fun v:Value=>starL [J3 l rec,W3 D,Q8 b [v],rowT stC v ks]
theorem appS {w:World} {g:Bs→Option Value} {It F:Th} {gf:Nat} {caps:List Value} (hS:Sat w [It,F]) (hcal:QI prog gf=true) (hIt:ItS g gf caps It) (hlen: ∀ks,Came g ks→ks.length≤100000000000):
    Calls prog 166 [.slice none 0 0,.func (.func gf) #[] caps.toArray].toArray w (Ret fun v w'=> ∃ks,AllC g ks∧Sat w' [rowT stC v ks,It,F]):= by
 refine Hz func166 U ntmps166 U ?_
 refine Qd (Qa (XR hS U U U ?_))
 intro b1 w1 j1
 refine Qe U U (Qf (Qc (Qd (Qd (Qa (Qb U U (Qf (Qc (Qw (Hs (caps:=caps) U hcal ?_))))))))))
 intro rec hr1 hr2 hr3 hr4 hr5 htn htf
 have hE:=((j1.enter_loop rec).row_nil stC)
 have hE2:=hE.sp [1,2,3,0] U
 have hJ0:=Sat.ex_intro (f:= fun v:Value=>starL [J3 _ _,W3 _,Q8 _ [v],rowT stC v []]) _ (Sat.fold (As:=[J3 _ _,W3 _,Q8 _ [_],rowT stC _ []]) hE2)
 refine(hIt _ (JS _ _ _ _) _ _ (hJ0.join U) ?_).mono ?_
 ·intro ks k R w2 hok hw2
  obtain⟨v,hw3⟩:=hw2.ex
  have hw4:=hw3.flat; dsimp only[Gl,Gk]at hw4
  have hl1:=hlen _ hok
  simp only[List.length_append,List.length_cons,List.length_nil]at hl1
  refine BP (hw4.loop 0 rfl) hr1 hr2 hr3 hr4 hr5 htn htf rfl (by intro o ho c; simp at ho; subst ho; simp) (by intro o ho c; simp at ho; rcases ho with rfl | rfl | rfl | rfl | rfl<;> simp) ?_
  intro QA hA
  refine Qe U U (Qf (hA _ _ (hw4.loop 0 U) ?_))
  intro QB hB
  have h1v:v.oneCell'=true:=hw4.own_one 3 U
  have hw5:=hw4.loop_put 0 U (rec':={rec with state:= .busy}); dsimp only[List.set]at hw5
  refine Qr U K8 (hw5.cell 2 U U) U (Qb U U (XU stC [k] hw5 U underlying61 ifz_9 U U U U (by rfl) rfl ?_))
  intro b3 w3 hw6
  refine ZH stC 4 hw6 U U U (hw6.rd 0 U (by simp)) underlying61 underlying61 (by intro k hk; cases hk) OO U (by simp;omega) U (by simp;omega) ?_
  intro v4 w4 hw7; dsimp only[List.set]at hw7
  have h1v4:v4.oneCell'=true:=hw7.own_one 4 U
  refine QV hw7 U U sz_61 h1v4 (i:=3) U (by simp) ?_
  intro w5 hw8; dsimp only[List.set]at hw8
  refine Qf (hB _ _ (hw8.loop 1 U) ?_)
  have hw9:=hw8.loop_put 1 U (rec':=rec); dsimp only[List.set]at hw9
  exact(Sat.ex_intro (f:= fun v:Value=>starL [J3 _ _,W3 _,Q8 _ [v],rowT stC v (ks++[k])]) v4 (Sat.fold (As:=[J3 _ _,W3 _,Q8 _ [_],rowT stC _ _]) (hw9.pick [1,2,3,4,5] U)))
 ·rintro e w3 ⟨v0,rfl,ks,hall,hw3⟩
  obtain⟨v,hw4⟩:=hw3.ex
  have hw5:=hw4.flat; dsimp only[Gl,Gk]at hw5
  refine⟨⟨v0,rfl⟩,rec,hw5.loop 0 U, by rw[hr1]; simp,hr2, ?_⟩
  intro a ha1 ha2
  have hw6:=hw5.loop_put 0 U (rec':={rec with state:= .exhausted}); dsimp only[List.set]at hw6
  obtain⟨hD,hw7⟩:=hw6.defer_put (o:= .deferred none) 1 rfl
  dsimp only[List.eraseIdx]at hw7
  refine Db (n:=13) (by rw[ha1]; exact htn) (by rw[ha1]; exact htf) ha2 U K8 (hw6.cell 2 U U) hD U U U ?_
  exact⟨_,U,ks,hall,hw7.pick [2,3,4] U⟩
def keysTS (c b:Nat) (g:Bs→Option Value):Th:=starL [Q8 c [.map (some b)],Q5 W8 b g]
theorem itS (c b:Nat) (g:Bs→Option Value):ItS g 118 [ptrV c 0] (keysTS c b g):= fun l J X w hS hY=> by
  have h1:=(hS.perm (List.Perm.swap _ _ _)).flat; dsimp only[Gl,Gk]at h1
  refine(kd_it (h1.reorder [2,0,1,3] U) hY).mono fun e w' h=>h.mono fun v w' ⟨ks,h2,h3⟩=>⟨ks,h2, ?_⟩
  exact(Sat.fold (As:=[Q8 c [.map (some b)],Q5 W8 b g]) (h3.reorder [1,2,0,3] U)).perm (List.Perm.swap _ _ _)
theorem sortS0 {w:World} {v:Value} {l:List Bs} {As:List Th} (hS:Sat w (rowT stC v l::As)) (hl:l.length<4611686018427387904):Calls prog 117 #[v] w (Ret fun u w'=>u= .tuple #[]∧Sat w' (rowT stC v (ZK l)::As)):=
  Se Tryz.slices_Sort_string Tryz.slices_Sort_string_none hS hl
theorem colS {w:World} {g:Bs→Option Value} {It F:Th} {gf:Nat} {caps:List Value} (hS:Sat w [It,F]) (hcal:QI prog gf=true) (hIt:ItS g gf caps It) (hlen: ∀ks,Came g ks→ks.length≤100000000000):
    Calls prog 116 #[.func (.func gf) #[] caps.toArray] w (Ret fun v w'=> ∃ks,AllC g ks∧Sat w' [rowT stC v ks,It,F]):= by
 refine Qm func116 U ntmps116 U ?_
 refine Qd (Qa (Qe U U (Qf (Qc (Qd (Qa (Qb U U (Qv cal_166 U (appS (hS.sp [0] U) hcal hIt hlen) U ?_))))))))
 rintro _ w1 ⟨ks,hks,j1⟩
 replace j1:=j1.jn U U
 have h1v:=j1.own_one 0 U
 exact Qe U U (Qf (Qc (Qu (QY (.inr U) U U (⟨_,U,ks,hks,j1⟩)))))
theorem Df {w:World} {g:Bs→Option Value} {It F:Th} {gf:Nat} {caps:List Value} (hS:Sat w [It,F]) (hcal:QI prog gf=true) (hIt:ItS g gf caps It) (hlen: ∀ks,Came g ks→ks.length≤100000000000):
    Calls prog 51 #[.func (.func gf) #[] caps.toArray] w (Ret fun v w'=> ∃ks,AllC g ks∧Sat w' [rowT stC v (ZK ks),It,F]):= by
 refine Qm func51 U ntmps51 U ?_
 refine Qd (Qa (Qe U U (Qf (Qc (Qd (Qa (Qb U U (Qv cal_116 U (colS (hS.sp [0] U) hcal hIt hlen) U ?_))))))))
 rintro _ w1 ⟨ks,hks,j1⟩
 replace j1:=j1.jn U U
 have h1v:=j1.own_one 0 U
 have hln:=hlen _ (Came.of_all hks)
 refine Qe U U (Qf (Qc (Qd (Qa (Qb U U (Qv cal_117 U (sortS0 (j1.sp [0] U) (by omega)) U ?_))))))
 rintro _ w2 ⟨rfl,j2⟩
 replace j2:=j2.jn U U
 exact Qf (Qc (Qd (Qa (Qb U U (Qe U U (Qf (Qc (Qu (QY (.inr U) U U (⟨_,U,ks,hks,j2⟩))))))))))
section
variable {w:World} {As:List Th}
theorem SR {T:Int→Option TrD} {i:Int} {t:TrD} {k:KD} {x:LfD} (hS:Sat w As) (j:Nat) (hj:As[j]? =some (XW YW T)) (ht:T i=some t) (hx:t.lv k=some x) (q:Nat) {v:Value} (hv:(lfV x)[q]? =some v):w.cell? ⟨x.ad,q,none⟩=some v:= by
  have h1:=Z3 (hS.pull j hj) ht
  have h2:=JC (h1.perm ((List.Perm.cons _ (List.Perm.swap _ _ _)).trans (List.Perm.swap _ _ _))) hx
  exact h2.cell 0 U hv
theorem VY {b:Nat} {L:LvD} {i:Int} {t:TrD} (hS:Sat w As) (j:Nat) (hj:As[j]? =some (XX b L)) (ht:L.tr i=some t) (q:Nat) {v:Value} (hv:(trV t)[q]? =some v):w.cell? ⟨t.ad,q,none⟩=some v:= by
  have h1:=X1 (hS.pull j hj)
  have h2:=Z3 (h1.pull 3 U) ht
  exact h2.cell 0 U hv
theorem Nc {b:Nat} {L:LvD} {i:Int} {t:TrD} {k:KD} {x:LfD} (hS:Sat w As) (j:Nat) (hj:As[j]? =some (XX b L)) (ht:L.tr i=some t) (hx:t.lv k=some x) (q:Nat) {v:Value} (hv:(lfV x)[q]? =some v):w.cell? ⟨x.ad,q,none⟩=some v:=
  SR (X1 (hS.pull j hj)) 3 U ht hx q hv
end
theorem PW {w:World} {b n Fr:Nat} {L:LvD} {V:VS} {F:Th} (hS:Sat w [XX b L,XD L.sp n Fr V,F]) (hn:n≤60000000000) {id:Int} (ht:L.tr id=none):
    Calls prog 13 #[ptrV b 0,intV id] w (Ret fun v w'=>v=intV 4∧Sat w' [XX b L,XD L.sp n Fr V,F]):= by
 replace hS:=X1 hS
 refine Qm func13 U ntmps13 U ?_
 exact Qd (Qa (Qe U U (Qf (Qc (Qd (Qa (Qb U U (Qj U U (Qg U Zr U (Qr U Wx (hS.cell 0 U U) U (Qb U U (XV (k:=id) 2 hS keysInt underlying82 U U U JU (u:= .pointer none) (Ur ht) U (Qe U U (Qf (Qc (Qd (Qd (Qa (Qb U U (WG underlying94 U U U (Qf (Qc (Qh [1,0,4,5,29] U (Xd U (Qd (Qa (Qe U U (Qf (Qc (Qu (Qp (QY (.inr U) U U (⟨_,U,U,QX (hS.pick [0,1,2,3,4,5,6] U)⟩)))))))))))))))))))))))))))))))))
theorem PX {w:World} {b n Fr:Nat} {L:LvD} {V:VS} {F:Th} (hS:Sat w [XX b L,XD L.sp n Fr V,F]) (hn:n≤60000000000) {id:Int} {t:TrD} (ht:L.tr id=some t) (hb: ∃i u,L.tr i=some u∧u.parent=id):
    Calls prog 13 #[ptrV b 0,intV id] w (Ret fun v w'=>v=intV 8∧Sat w' [XX b L,XD L.sp n Fr V,F]):= by
 replace hS:=X1 hS
 refine Qm func13 U ntmps13 U ?_
 refine Qd (Qa (Qe U U (Qf (Qc (Qd (Qa (Qb U U (Qj U U (Qg U Zr U (Qr U Wx (hS.cell 0 U U) U (Qb U U (XV (k:=id) 2 hS keysInt underlying82 U U U JU (u:=ptrV t.ad 0) (XY ht) U (Qe U U (Qf (Qc (Qd (Qd (Qa (Qb U U (ZO underlying94 U U U (Qf (Qc (Qh [1,0,4,5,29] U (QR U (Qs (Qc (Qd (Qd (Qa (Qb U U (Qj U U (Qg U Zr U (Qr U Wx (hS.cell 0 U U) U (ZN 2 hS underlying82 U U U ?_))))))))))))))))))))))))))))))))))
 intro RR left0 wR hSR; dsimp only[List.set]at hSR
 refine Qf (Qc (Qw (Xg (fun K0 E0 W0=> ∃(dn:Int→Prop) (cur:Option Int) (left:Nat),K0=left∧E0=[(0,ptrV b 0),(1,intV id),(5,ptrV t.ad 0),(34,ptrV RR 0)]∧Sat W0 [Q8 b [ptrV L.sp 0,.map (some L.mp),.map (some L.mt),intV L.cur,.map (some L.ms)],Q5 Xr L.mp (XN L.pres),ZS QN L.mt RR (X0 TrD.ad L.tr) dn cur left,XW YW L.tr,Q5 QN L.ms (ZF L.sh),XD L.sp n Fr V,F]∧(∀i u,dn i→L.tr i=some u→u.parent≠id)) (L0:=[(0,_),(1,_),(5,_),(34,_)]) (left0) (HR U U U U) ⟨_,_,_,rfl,rfl,hSR.pick [0,1,2,3,4,5,6] U, fun _ _ h=>h.elim⟩ ?_)))
 rintro _ _ w1 ⟨dn,cur,left,rfl,rfl,j1,hnc⟩
 refine Qd (Qa (Wp 2 j1 keysInt.inj U U U (fun hdone=> ?_) (fun i v left2 wN hleft hgk hnd hSN=> ?_)))
 ·exact(absurd hb (fun ⟨i,u,h1,h2⟩=>hnc i u (hdone i (ptrV u.ad 0) (by unfold X0; rw[h1];rfl)) h1 h2))
 dsimp only[List.set]at hSN
 obtain⟨u,hu,rfl⟩:=YR hgk
 refine Qn U U U (Qf (Qc (Qd (Xd U (Qs (Qc (Qw (Qd (Qa (ZP 2 hSN U hgk U U (Qn U U U (Qe U U (Qf (Qc (Qd (Qa (Qb U U (Qj U U (Qg U Jl U (Qr U QL ((Z3 (hSN.pull 3 U) hu).cell 0 U U) U (Qb U U (Xq U U U (Qf (Qc (Qh [34,5,1,0,44] U (Qt U (fun h2=> ?_) (fun h2=> ?_)))))))))))))))))))))))))))
 ·refine Qd (Qa (Qe U U (Qf (Qc (Qu (Qz (Qp (Qz (Qp (QY (.inr U) U U ?_))))))))))
  have hz:=ZA (hSN.pick [2,0,1,3,4,5,6] U)
  exact⟨_,U,U,QX (hz.reorder [1,2,0,3,4,5,6] U)⟩
 have hup:u.parent≠id:=h2
 refine Qs (Qk ?_)
 exact Q3 (L1:=[(0,_),(1,_),(5,_),(34,_)]) (HR U U U U) (k1:=left2) (by omega) ⟨_,_,_,rfl,rfl,hSN.pick [0,1,2,3,4,5,6] U, fun q y hq hy=>hq.elim (fun h=>hnc q y h hy) (fun h=> by subst h; rw[hu]at hy; cases hy; exact hup)⟩
noncomputable def Hw (sp mp mt ms:Nat):LvD:=⟨sp,mp,mt,ms, fun _=>0, fun _=>none,0, fun _=>false⟩
def PA:LvA:=⟨fun _=>zer, fun _=>none⟩
theorem R6 {sp mp mt ms:Nat}:LvI 0 (Hw sp mp mt ms) (fun _=>none)∧Q1 (Hw sp mp mt ms) (fun _=>none)=PA∧AliveLe (fun _=>none) 0∧SzLe (Hw sp mp mt ms) 0∧DrA PA:= by
  have hf: ∀p,QP (Hw sp mp mt ms) p=0:= fun p=> by cases p<;>rfl
  have e1:Q1 (Hw sp mp mt ms) (fun _=>none)=PA:=rfl
  refine⟨⟨⟨fun s hs=>⟨0,U3 (f:= fun _=>0) (fun p=> by rw[hf]) (BJ hs),rfl⟩, fun s x h=> by cases h⟩,⟨rfl, fun _=>0, fun _=>Nat.le_refl _, fun i t h=> by cases h⟩, ?_⟩,e1,⟨[], by simp, fun j h=>absurd U h⟩,⟨[], by simp, fun k h=>absurd U h, fun i t k x h=> by cases h⟩, fun i t k x h=> by cases h⟩
  intro i t k x h
  cases h
theorem LQ {w:World} {b p mp mt ms:Nat} {As:List Th} (h:Sat w (Q8 b [ptrV p 0,.map (some mp),.map (some mt),intV 0,.map (some ms)]::Q5 Xr mp (fun _=>none)::Q5 QN mt (fun _=>none)::XW YW (fun _:Int=>none)::Q5 QN ms (fun _=>none)::As)):
    Sat w (Q8 b [ptrV (Hw p mp mt ms).sp 0,.map (some (Hw p mp mt ms).mp),.map (some (Hw p mp mt ms).mt),intV (Hw p mp mt ms).cur,.map (some (Hw p mp mt ms).ms)]::Q5 Xr (Hw p mp mt ms).mp (XN (Hw p mp mt ms).pres)::Q5 QN (Hw p mp mt ms).mt (X0 TrD.ad (Hw p mp mt ms).tr)::XW YW (Hw p mp mt ms).tr::Q5 QN (Hw p mp mt ms).ms (ZF (Hw p mp mt ms).sh)::As):= by
  have e1:XN (Hw p mp mt ms).pres= fun _=>none:=LH
  have e2:ZF (Hw p mp mt ms).sh= fun _=>none:=Gd
  rw[e1,e2]
  exact h
theorem O4 {w:World} {p:Nat} {F:Th} (hS:Sat w [F]):
    Calls prog 16 #[ptrV p 0] w (Ret fun v w'=> ∃b mp mt ms,v=ptrV b 0∧Sat w' [XX b (Hw p mp mt ms),F]):= by
 refine Qm func16 U ntmps16 U ?_
 refine Qd (Qa (Qe U U (Qf (Qc (Qd (Qa (Qb U U (Zi Xr hS U ?_))))))))
 intro mp w1 j1
 refine Zi QN j1 U ?_
 intro mt w2 j2
 refine Zi QN j2 U ?_
 intro ms w3 j3
 refine Mz (vs':=[ptrV p 0,.map (some mp),.map (some mt),intV 0,.map (some ms)]) U Mn Cr Ss U U U (XR j3 U U U ?_)
 intro b w4 j4
 refine Qe U U (Qf (Qc (Qu (QY (.inr U) U U ?_))))
 have hA:=Ge (κ:=Int) YW (j4.pick [0,3,2,1,4] U)
 exact⟨_,U,b,mp,mt,ms,U,QX (L:=Hw p mp mt ms) (LQ (hA.reorder [1,2,3,0,4,5] U))⟩
theorem CQ {w:World} {F:Th} (hS:Sat w [F]) (hsl:(default:SlW).v=4096):
    Calls prog 9 #[] w (Ret fun v w'=> ∃b p mp mt ms,v= .tuple #[ptrV b 0,ptrV p 0]∧Sat w' [XX b (Hw p mp mt ms),XD p 0 256 (fun _=>none),F]):= by
 refine Qm func9 U ntmps9 U ?_
 refine Qd (Qa (Qe U U (Qe U U (Qf (Qc (Qd (Qa ?_)))))))
 refine Qv cal_15 U (stNew (hS.sp [] U) 256 4096 4096 (by rw[hsl];rfl)) U ?_
 rintro _ w1 ⟨p,rfl,j1⟩
 replace j1:=j1.jn U U
 refine Qe U U (Qf (Qc (Qd (Qd (Qa (Qb U U (ZO underlying25 U U U (Qf (Qc (QR U (Qs (Qc (Qd (Qa (Qb U U (Qv cal_16 U (O4 (j1.sp [] U)) U ?_))))))))))))))))
 rintro _ w2 ⟨b,mp,mt,ms,rfl,j2⟩
 replace j2:=j2.jn U U
 exact Qb U U (Qe U U (Qe U U (Qf (Qc (Qu (Wz (.inr U) U U U (⟨_,U,b,p,_,_,_,U,j2.pick [0,1,2] U⟩)))))))
def allR (y:LfA):LfA:={y with rd:=y.rd ||| (BitVec.allOnes 64&&& ~~~y.wr)}
open Classical in
noncomputable def cpRd (id:Int) (ob:Bs) (A:LvA) (p:Int):LvA:= if id≠0∧0≤p∧p<256 then ZJ A id (ob,p) (allR (Z0 A id (ob,p)))else A
def cpC (A:LvA) (id:Int) (ob:Bs) (p:Int):Bs:= if 0≤p∧p<256 then Wq A id (ob,p)else zer
noncomputable def cpWr (id:Int) (A:LvA) (q:KD×Bs):LvA:= if id=0 then{A with pres:=UV A.pres q.1 q.2}else ZJ A id q.1 (allX (Z0 A id q.1) q.2)
theorem L9 {A:LvA} {id:Int} {ob:Bs} {p:Int} {t:TrA} (ht:id≠0→A.tr id=some t) (j:KD):Wq (cpRd id ob A p) id j=Wq A id j:= by
  unfold cpRd
  split
  · rename_i h
    rw[Dn h.1 (ht h.1)]
    split
    · rename_i e
      subst e
      rw[show(allR (Z0 A id (ob,p))).own=(Z0 A id (ob,p)).own from rfl,B2 h.1 (ht h.1)]
    · rfl
  · rfl
theorem cpRd_tr {A:LvA} {id:Int} {ob:Bs} {p:Int} (ht: ∃t,A.tr id=some t): ∃t,(cpRd id ob A p).tr id=some t:= by
  unfold cpRd
  split
  · obtain⟨t,ht⟩:=ht
    exact⟨_, by rw[Wg ht]; exact Qy⟩
  · exact ht
def NoI (ex:Int→Int) (l:List Int):Prop:= ∀j,j≠0→ex j=(l.count j:Int)
theorem NoI.nn {ex:Int→Int} {l:List Int} (h:NoI ex l):NN ex:= fun j hj=> by rw[h j hj];omega
theorem NoI.add {ex:Int→Int} {l:List Int} {s:Int} (h:NoI ex l):NoI (fun j=>ex j+dl s j) (l++[s]):= fun j hj=> by
  show ex j+dl s j=_
  rw[h j hj,List.count_append]
  by_cases e:j=s
  · subst e; rw[W7]; simp
  · have e2: ¬s=j:= fun q=>e q.symm
    rw[J4 e]; simp [List.count_cons,e2]
theorem NoI.ge {ex:Int→Int} {l:List Int} {s:Int} (h:NoI ex (s::l)) (h0:s≠0):1≤ex s:= by
  rw[h s h0]; simp;omega
theorem NoI.tail {ex:Int→Int} {l:List Int} {s:Int} (h:NoI ex (s::l)):NoI (fun j=>ex j -dl s j) l:= fun j hj=> by
  show ex j -dl s j=_
  rw[h j hj]
  by_cases e:j=s
  · subst e; rw[W7]; simp
  · have e2: ¬s=j:= fun q=>e q.symm
    rw[J4 e]; simp [List.count_cons,e2]
theorem AN {V:VS} {s:Int} (h0:V 0=none):Hv V s=refW V s:= by
  unfold refW
  split
  · rename_i e
    subst e
    unfold Hv; rw[h0]
  · rfl
theorem LvX.held {ex:Int→Int} {m:Nat} {L:LvD} {V:VS} {s:Int} (h:LvX ex m L V) (hs:s≠0→1≤ex s):X5 V s:= by
  by_cases h0:s=0
  · exact .inl h0
  · obtain⟨n,a,b⟩:=h.ref.1 s h0
    have :=hs h0
    exact .inr (h.ref.alive_of (by omega))
theorem UJ {ex:Int→Int} {m:Nat} {L:LvD} {V:VS} {s:Int} {l:List Int} (h:LvX ex m L V) (hn:NoI ex l) (ha:X5 V s):
    StepX ex m L V (fun j=>ex j+dl s j) m 0 0 L (Hv V s)∧NoI (fun j=>ex j+dl s j) (l++[s])∧Q1 L (Hv V s)=Q1 L V:= by
  rw[AN h.zero]
  obtain⟨h1,h2⟩:=h.refW ha
  exact⟨⟨h1,rfl, fun c q=>q.refW, fun c q=>q,Pgs.ref⟩,hn.add,h2⟩
theorem Rm {ex:Int→Int} {m:Nat} {L:LvD} {V:VS} {s:Int} {l:List Int} (h:LvX ex m L V) (hn:NoI ex (s::l)):
    StepX ex m L V (fun j=>ex j -dl s j) m 0 0 L (Zj V s)∧NoI (fun j=>ex j -dl s j) l∧Q1 L (Zj V s)=Q1 L V:= by
  obtain⟨h1,h2⟩:=h.unr hn.nn fun h0=>hn.ge h0
  exact⟨⟨h1,rfl, fun c q=>q.unr, fun c q=>q,Pgs.unr h.zero⟩,hn.tail,h2⟩
def PV (L:LvD) (ob:Bs) (p:Int):Int:= if 0≤p∧p<256 then L.pres (ob,p)else 0
def Bi (L:LvD) (ob:Bs) (p0:Int) (j:Nat):List Int:=(List.range j).map fun q:Nat=>PV L ob (p0+(q:Int))
theorem DT {L:LvD} {ob:Bs} {p0:Int} {j:Nat}:Bi L ob p0 (j+1)=Bi L ob p0 j++[PV L ob (p0+(j:Int))]:= by simp [Bi,List.range_succ]
theorem Hy {L:LvD} {ob:Bs} {p0:Int} {j:Nat}:(Bi L ob p0 j).length=j:= by simp [Bi]
theorem GK {ex:Int→Int} {m:Nat} {L:LvD} {V:VS} (h:LvX ex m L V) (hx:NN ex) (ob:Bs) (p:Int):X5 V (PV L ob p):= by
  unfold PV
  split
  · exact h.aliveX hx (.inl (ob,p))
  · exact .inl U
noncomputable def Iy (p:KD→Int) (to:Bs) (base:Int) (l:List Int):Nat→(KD→Int)
  | 0=>p
  | q+1=>Z6 (Iy p to base l q) (to,base+(q:Int)) (l.getD q 0)
noncomputable def Ew (A:LvA) (to:Bs) (base:Int) (f:Nat→Bs):Nat→LvA
  | 0=>A
  | q+1=>cpWr 0 (Ew A to base f q) ((to,base+(q:Int)),f q)
theorem Tb {l:List Int} {q:Nat} {s:Int} (h:l[q]? =some s):l.drop q=s::l.drop (q+1):= by
  obtain⟨h1,h2⟩:=Zb h
  rw[List.drop_eq_getElem_cons h1,h2]
theorem TF {l:List Int} {q:Nat} {s:Int} (h:l[q]? =some s):l.getD q 0=s:= by simp [List.getD,h]
theorem NI {w:World} {m:Nat} {b n Fr:Nat} {L:LvD} {V:VS} {F:Th} (hS:Sat w [XX b L,XD L.sp n Fr V,F]) (hn:n+2000≤60000000000) (hI:LvI m L V) (hm:m<Zg) (ob to:Bs) (first cnt aa:Int) (hf: -2147483648≤first∧first≤2147483648) (ha: -2147483648≤aa∧aa≤2147483648) (hc: -2147483648≤cnt∧cnt≤300):
    Calls prog 41 #[ptrV b 0,intV 0,strV ob,intV first,intV cnt,strV to,intV aa] w (Ret fun v w'=> ∃L' V' q,StepI m L V m 0 256 L' V'∧L'.pres=Iy L.pres to (aa+max 0 (-aa)) (Bi L ob (first+max 0 (-aa)) q) q∧Q1 L' V'=Ew (Q1 L V) to (aa+max 0 (-aa)) (fun i=>XH V ((Bi L ob (first+max 0 (-aa)) q).getD i 0)) q∧(max 0 (-aa)+(q:Int)=min cnt (256 -aa)∨(q=0∧min cnt (256 -aa)≤max 0 (-aa)))∧Sat w' [XX b L',XD L'.sp (n+2000) Fr V',F]):= by
 refine Qm func41 U ntmps41 U ?_
 refine Qd (Qd (Qa (Qb U U (Qb U U (Qv W4 U (Z8 (hS.sp [0] U) 0) U ?_)))))
 rintro _ w1 ⟨rfl,j1⟩
 replace j1:=j1.jn U U
 refine Xb U U (Qf (Qc (Qh [6,5,4,3,2,1,0,27] U (QT U (fun h2=> ?_) (fun h2=> ?_)))))
 ·exact absurd h2 (by simp [Zk])
 refine Qs (Qc (Qd (Qa (Qb U U (ER U (by omega) (by omega) U ?_)))))
 refine YP U U U (Qb U U (Qb U U (VB U U (by omega) (by omega) U ?_)))
 refine U9 U U U (Qe U U (Qe U U (Qf (Qc (Qh [6,5,3,2,1,0,14,15] U (Qd (Qa (Qe U U (Qf (Qc (Qd (Qd (Qa (Qb U U (Qe U U (Qf (Qc (Qw ?_))))))))))))))))))
 have hrn:=j1.row_nil inC
 refine Xg (fun K0 E0 W0=> ∃(j:Nat) (V1:VS) (ex:Int→Int) (nv:Value),K0=((min cnt (256 -aa)) -(max 0 (-aa))).toNat -j∧E0=[(0,ptrV b 0),(1,intV 0),(2,strV ob),(3,intV first),(5,strV to),(6,intV aa),(14,intV (max 0 (-aa))),(15,intV (min cnt (256 -aa))),(16,nv),(17,intV ((max 0 (-aa))+(j:Int)))]∧Sat W0 [XX b L,XD L.sp (n+j) Fr V1,rowT inC nv (Bi L ob (first+(max 0 (-aa))) j),F]∧(j≤256)∧(j=0∨(max 0 (-aa))+(j:Int)≤(min cnt (256 -aa)))∧(LvX ex m L V1)∧(NoI ex (Bi L ob (first+(max 0 (-aa))) j))∧(Q1 L V1=Q1 L V)∧(∀c,AliveLe V c→AliveLe V1 c)∧(Pgs V V1)) (L0:=[(0,_),(1,_),(2,_),(3,_),(5,_),(6,_),(14,_),(15,_),(16,_),(17,_)]) (((min cnt (256 -aa)) -(max 0 (-aa))).toNat) (Cy U U U U U U U U U U) ⟨0,V, fun _=>0,_, by omega, by simp,hrn.pick [1,2,0,3] U, by omega,.inl U,hI, fun _ _=>rfl,rfl, fun _ q=>q,.refl⟩ ?_
 rintro _ _ w3 ⟨j,V1,ex,nv,rfl,rfl,j3,hjb,hj,hI1,hno,hab,hal,hpg⟩
 refine Qd (Qd (Qa (Qb U U (Qb U U (Xk U U U (Qf (Qc (Qt U (fun h4=> ?_) (fun h4=> ?_)))))))))
 ·refine Qs (Qc (Qh [17,16,15,14,6,5,3,2,1,0] U (Qd (Qw (Qd (Qa (Qe U U (Qf (Qc (Qd (Qd (Qa (Qb U U (Qb U U (QO U U (by omega) (by omega) U ?_)))))))))))))))
  refine Qe U U (Qf (Qc (Qh [17,16,15,14,6,5,3,2,1,0,18,19] U (Qd (Qa (Qb U U (Jf U U U (Qb U U (Xc 46 U (fun h5=> ?_) (fun h5=> ?_))))))))))
  ·refine Qo U U (Xm h5) (Qb U U (Qo U U (Xm h5) (Xk U U U (QK U (Xm h5) U U (Qf (Qc (Qh [17,16,15,14,6,5,3,2,1,0,18,19,49] U (Qt U (fun h6=> ?_) (fun h6=> ?_)))))))))
   ·refine Qd (Qa (Qb U U (Qb U U (Zo U Jw Hn Zy U U (Xa j3 Zy U U ?_)))))
    intro kb wk7 hk7
    refine QG hk7 U U Xf U (by rfl) (i:=0) U (by decide) ?_
    intro wk8 hk8; dsimp only[List.set]at hk8
    clear hk7
    replace hk8:=X6 (k:=(ob,first+((max 0 (-aa))+(j:Int)))) hk8
    refine Qf (Qc (Qh [17,16,15,14,6,5,3,2,1,0,18,20] U (Qd (Qd (Qa (Qb U U (XC U U U (Qf (Qc (Qt U (fun h9=> ?_) (fun h9=> ?_)))))))))))
    ·exact absurd U h9
    refine Qs (Qc (Qa (Qb U U (Qb U U (Xw U X9 Xf (by first | exact hk8.blk 0 U) (Xv U) U U ?_)))))
    have hC10:=hk8.sp [1] U
    refine Qv YN U (Yy hC10 (hI.rank.ends hm) 0 (ob,first+((max 0 (-aa))+(j:Int)))) U ?_
    rintro _ w10 ⟨rfl,j10⟩
    replace j10:=j10.jn U U; clear hC10
    clear hk8
    rw[show Xo L 0 (ob,first+((max 0 (-aa))+(j:Int)))=L.pres (ob,first+((max 0 (-aa))+(j:Int))) from Yo U]
    refine Qe U U (Qf (Qc (Qh [17,16,15,14,6,5,3,2,1,0,18] U (Qd (Qa (Qb U U (Qj U U (Qg U XJ U (Qr U Xy (Jk j10 0 U) U (Qb U U ?_))))))))))
    have hse:L.pres (ob,first+((max 0 (-aa))+(j:Int)))=PV L ob ((first+(max 0 (-aa)))+(j:Int)):= by unfold PV; rw[if_pos ⟨by omega, by omega⟩,Int.add_assoc]
    rw[hse]
    refine Qv UQ U (De (j10.sp [2] U) (by omega) (PV L ob ((first+(max 0 (-aa)))+(j:Int)))) U ?_
    rintro _ w11 ⟨e0,rfl,j11⟩
    replace j11:=j11.jn U U
    refine Qf (Qc (Qh [17,16,15,14,6,5,3,2,1,0,18] U (Qa (Qb U U (Qb U U (XU inC [PV L ob ((first+(max 0 (-aa)))+(j:Int))] j11 U underlying47 Uu U U U U (by rfl) rfl ?_))))))
    intro b12 w12 j12
    refine ZH inC 4 j12 U U U (j12.rd 0 U (by simp)) underlying47 underlying47 (by intro k hk; cases hk) UX U (by simp only[Hy,List.length_cons,List.length_nil];omega) U (by simp only[Hy,List.length_cons,List.length_nil];omega) ?_
    intro v13 w13 j13; dsimp only[List.set]at j13
    have h1v13:v13.oneCell'=true:=j13.own_one 4 U
    refine Qe U U (Qf (Qk (Qc (Qh [17,15,14,6,5,3,2,1,0,16] U (Qa (Qb U U (QO U U (by omega) (by omega) U ?_)))))))
    refine Qe U U (Qf ?_)
    obtain⟨hq1,hq2,hq3⟩:=UJ hI1 hno (GK hI1 hno.nn ob ((first+(max 0 (-aa)))+(j:Int)))
    rw[←DT]at hq2 j13
    exact Q3 (L1:=[(0,_),(1,_),(2,_),(3,_),(5,_),(6,_),(14,_),(15,_),(16,_),(17,intV ((max 0 (-aa))+(j:Int)+1))]) (Cy U U U U U U U U U U) (k1:=((min cnt (256 -aa)) -(max 0 (-aa))).toNat -(j+1)) (by omega) ⟨j+1,_,_,_,rfl,(by rw[show(max 0 (-aa))+((j+1:Nat):Int)=(max 0 (-aa))+(j:Int)+1 by omega]),j13.pick [2,1,4,5] U, by omega, by omega,hq1.inv,hq2,hq3.trans hab, fun c q=>hq1.al c (hal c q),hpg.trans hq1.pg⟩
   refine Qs (Qc (Qd (Qa (Qb U U (Qj U U (Qg U XJ U (Qr U Xy (Jk j3 0 U) U (Qb U U ?_))))))))
   have hse:PV L ob ((first+(max 0 (-aa)))+(j:Int))=0:= by unfold PV; rw[if_neg (by omega)]
   refine Qv UQ U (De (j3.sp [1] U) (by omega) (0)) U ?_
   rintro _ w14 ⟨e0,rfl,j14⟩
   replace j14:=j14.jn U U
   rw[show Hv V1 0=Hv V1 (PV L ob ((first+(max 0 (-aa)))+(j:Int))) by rw[hse]]at j14
   refine Qf (Qc (Qh [17,16,15,14,6,5,3,2,1,0,18] U (Qa (Qb U U (Qb U U (XU inC [0] j14 U underlying47 Uu U U U U (by rfl) rfl ?_))))))
   intro b15 w15 j15
   refine ZH inC 3 j15 U U U (j15.rd 0 U (by simp)) underlying47 underlying47 (by intro k hk; cases hk) UX U (by simp only[Hy,List.length_cons,List.length_nil];omega) U (by simp only[Hy,List.length_cons,List.length_nil];omega) ?_
   intro v16 w16 j16; dsimp only[List.set]at j16
   have h1v16:v16.oneCell'=true:=j16.own_one 3 U
   refine Qe U U (Qf (Qk (Qc (Qh [17,15,14,6,5,3,2,1,0,16] U (Qa (Qb U U (QO U U (by omega) (by omega) U ?_)))))))
   refine Qe U U (Qf ?_)
   obtain⟨hq1,hq2,hq3⟩:=UJ hI1 hno (GK hI1 hno.nn ob ((first+(max 0 (-aa)))+(j:Int)))
   rw[show Bi L ob (first+(max 0 (-aa))) j++[0]=Bi L ob (first+(max 0 (-aa))) (j+1) by rw[DT,hse]]at j16
   rw[←DT]at hq2
   exact Q3 (L1:=[(0,_),(1,_),(2,_),(3,_),(5,_),(6,_),(14,_),(15,_),(16,_),(17,intV ((max 0 (-aa))+(j:Int)+1))]) (Cy U U U U U U U U U U) (k1:=((min cnt (256 -aa)) -(max 0 (-aa))).toNat -(j+1)) (by omega) ⟨j+1,_,_,_,rfl,(by rw[show(max 0 (-aa))+((j+1:Nat):Int)=(max 0 (-aa))+(j:Int)+1 by omega]),j16.pick [2,1,3,4] U, by omega, by omega,hq1.inv,hq2,hq3.trans hab, fun c q=>hq1.al c (hal c q),hpg.trans hq1.pg⟩
  refine Qi U U (Q7 h5) U (Qi U U (Q7 h5) U (QW U (Q7 h5) U U (Qf (Qc (Qh [17,16,15,14,6,5,3,2,1,0,18,19,49] U (QR U (Qs (Qc (Qd (Qa (Qb U U (Qj U U (Qg U XJ U (Qr U Xy (Jk j3 0 U) U (Qb U U ?_)))))))))))))))
  have hse:PV L ob ((first+(max 0 (-aa)))+(j:Int))=0:= by unfold PV; rw[if_neg (by omega)]
  refine Qv UQ U (De (j3.sp [1] U) (by omega) (0)) U ?_
  rintro _ w17 ⟨e0,rfl,j17⟩
  replace j17:=j17.jn U U
  rw[show Hv V1 0=Hv V1 (PV L ob ((first+(max 0 (-aa)))+(j:Int))) by rw[hse]]at j17
  refine Qf (Qc (Qh [17,16,15,14,6,5,3,2,1,0,18] U (Qa (Qb U U (Qb U U (XU inC [0] j17 U underlying47 Uu U U U U (by rfl) rfl ?_))))))
  intro b18 w18 j18
  refine ZH inC 3 j18 U U U (j18.rd 0 U (by simp)) underlying47 underlying47 (by intro k hk; cases hk) UX U (by simp only[Hy,List.length_cons,List.length_nil];omega) U (by simp only[Hy,List.length_cons,List.length_nil];omega) ?_
  intro v19 w19 j19; dsimp only[List.set]at j19
  have h1v19:v19.oneCell'=true:=j19.own_one 3 U
  refine Qe U U (Qf (Qk (Qc (Qh [17,15,14,6,5,3,2,1,0,16] U (Qa (Qb U U (QO U U (by omega) (by omega) U ?_)))))))
  refine Qe U U (Qf ?_)
  obtain⟨hq1,hq2,hq3⟩:=UJ hI1 hno (GK hI1 hno.nn ob ((first+(max 0 (-aa)))+(j:Int)))
  rw[show Bi L ob (first+(max 0 (-aa))) j++[0]=Bi L ob (first+(max 0 (-aa))) (j+1) by rw[DT,hse]]at j19
  rw[←DT]at hq2
  exact Q3 (L1:=[(0,_),(1,_),(2,_),(3,_),(5,_),(6,_),(14,_),(15,_),(16,_),(17,intV ((max 0 (-aa))+(j:Int)+1))]) (Cy U U U U U U U U U U) (k1:=((min cnt (256 -aa)) -(max 0 (-aa))).toNat -(j+1)) (by omega) ⟨j+1,_,_,_,rfl,(by rw[show(max 0 (-aa))+((j+1:Nat):Int)=(max 0 (-aa))+(j:Int)+1 by omega]),j19.pick [2,1,3,4] U, by omega, by omega,hq1.inv,hq2,hq3.trans hab, fun c q=>hq1.al c (hal c q),hpg.trans hq1.pg⟩
 refine QU (Qq (Qq (Qx (Qc (Qh [16,14,6,5,1,0] U (Qd ?_))))))
 obtain⟨an,cn,hvn,_⟩:=j3.own_shape 2 rfl; obtain rfl:=hvn
 refine Qa (Qb U U (X7 underlying47 U U (Qb U U (Qf (Qc (Qw ?_))))))
 refine Xg (fun K0 E0 W0=> ∃(q:Nat) (L1:LvD) (V2:VS) (ex2:Int→Int),K0=j -q∧E0=[(0,ptrV b 0),(1,intV 0),(5,strV to),(6,intV aa),(14,intV (max 0 (-aa))),(85,.slice an (Bi L ob (first+(max 0 (-aa))) j).length cn),(86,intV ((Bi L ob (first+(max 0 (-aa))) j).length:Int)),(87,intV (q:Int))]∧Sat W0 [XX b L1,XD L1.sp (n+j+5*q) Fr V2,rowT inC (.slice an (Bi L ob (first+(max 0 (-aa))) j).length cn) (Bi L ob (first+(max 0 (-aa))) j),F]∧(q≤j)∧(LvX ex2 m L1 V2)∧(NoI ex2 ((Bi L ob (first+(max 0 (-aa))) j).drop q))∧(L1.sp=L.sp)∧(L1.pres=Iy L.pres to (aa+(max 0 (-aa))) (Bi L ob (first+(max 0 (-aa))) j) q)∧(Q1 L1 V2=Ew (Q1 L V) to (aa+(max 0 (-aa))) (fun q=>XH V ((Bi L ob (first+(max 0 (-aa))) j).getD q 0)) q)∧(∀c,AliveLe V c→AliveLe V2 c)∧(∀c,SzLe L c→SzLe L1 (c+q))∧(Pgs V V2)) (L0:=[(0,_),(1,_),(5,_),(6,_),(14,_),(85,_),(86,_),(87,_)]) (j) (zb8 U U U U U U U U) ⟨0,L,V1,ex,rfl,rfl,j3.pick [0,1,2,3] U, by omega,hI1,hno,rfl,rfl,hab,hal, fun _ h=>h,hpg⟩ ?_
 rintro _ _ w20 ⟨q,L1,V2,ex2,rfl,rfl,j20,hq,hI2,hno2,hsp,hp2,hab2,hal2,hsz2,hpg2⟩
 refine Qd (Qa (Xk U U U (Qf (Qc (Qd (Qt U (fun h21=> ?_) (fun h21=> ?_)))))))
 ·obtain⟨s,hs⟩: ∃s,(Bi L ob (first+(max 0 (-aa))) j)[q]? =some s:=⟨_,Zq (by omega)⟩; have hln:(Bi L ob (first+(max 0 (-aa))) j).length=j:=Hy; rw[Tb hs]at hno2; have hsa:=hI2.held (s:=s) fun h0=>hno2.ge h0
  refine Qs (Qc (Qd (Qw (Qd (Qa (Qb U U (Xx inC 2 q j20 U U U (by rfl) hs Jr U ?_)))))))
  intro bx22 capx22 hvx22
  refine Zz 2 q 0 j20 U hvx22 U U hs QL U U (Qe U U (Qe U U (Qf (Qc (Qh [87,86,85,14,6,5,1,0,22,23] U (Qd (Qa (Qb U U (Qb U U (Qb U U (Qb U U (Qb U U (QO U U (by omega) (by omega) U ?_)))))))))))))
  refine Qb U U (QO U U (by omega) (by omega) U ?_)
  refine Zo U Jw Hn Zy U U (Qb U U (Qv FG U (CT (j20.sp [0,1] U) (by omega) hI2 hno2.nn hsa (to,(aa+(max 0 (-aa)))+(q:Int))) U ?_))
  rintro _ w23 ⟨L2,V3,hr1,hr2,hr3,j23⟩
  replace j23:=j23.jn U U
  refine Qf (Qc (Qh [87,86,85,14,6,5,1,0,23] U (Qa (Qb U U (Qj U U (Qg U XJ U (Qr U Xy (Jk j23 0 U) U (Qb U U (Qv Ga U (Rq (j23.sp [1] U) (by omega) s) U ?_)))))))))
  rintro _ w24 ⟨e0,rfl,j24⟩
  replace j24:=j24.jn U U
  refine Qf (Qk (Qc (Qh [87,86,85,14,6,5,1,0] U (Qa (QO U U (by omega) (by omega) U ?_)))))
  refine Qb U U (Qf ?_)
  obtain⟨hu1,hu2,hu3⟩:=Rm hr1.inv hno2
  exact Q3 (L1:=[(0,_),(1,_),(5,_),(6,_),(14,_),(85,_),(86,_),(87,intV ((q+1:Nat):Int))]) (zb8 U U U U U U U U) (k1:=j -(q+1)) (by omega) ⟨q+1,_,_,_,rfl,rfl,j24.pick [1,0,2,3] U, by omega,hu1.inv,hu2,hu1.sp.trans (hr1.sp.trans hsp), by rw[hr3,hp2,Iy,TF hs], by rw[hu3,hr2,hab2,Ew]; simp only[cpWr,if_true,TF hs]; rw[(hpg2 s hsa).2], fun c q2=>hu1.al _ (hr1.al _ (hal2 c q2)), fun c q2=> by have :=hu1.sz _ (hr1.sz _ (hsz2 c q2)); exact this.mono (by omega),(hpg2.trans hr1.pg).trans hu1.pg⟩
 refine QU (Qq (Qq (Qx (ZU (.inl U) U ?_))))
 have hln:(Bi L ob (first+(max 0 (-aa))) j).length=j:=Hy
 have hqj:q=j:= by omega
 subst hqj
 have hjj:q≤256:= by omega
 exact⟨_,rfl,L1,V2,q,⟨hI2.ext fun i hi=> by rw[hno2 i hi,List.drop_eq_nil_of_le (by rw[Hy];omega)];rfl,hsp, fun c h=>(hal2 c h).mono (by omega), fun c h=>(hsz2 c h).mono (by omega)⟩,hp2,hab2, by omega,(Xn (m:=n+2000) (by omega) (j20.pick [1,0,3] U)).reorder [1,0,2] U⟩
