/- leaves: a commit, by contents -/
import Derived.Test.YtkgjmhcdacidoaaGreatDoorLv16
import Derived.Test.YtkgjmhcdacidoaaGreatDoorSk
import Derived.Test.YtkgjmhcdacidoaaGreatDoorLv19
import Derived.Shelf.Spec.TrailingZeros
set_option linter.unusedSectionVars false
set_option linter.unusedVariables false
set_option maxRecDepth 100000
namespace Go.Proofs.YtkgjmhcdacidoaaGreatDoor
open Go.RowKit M Proofs.Tryz
variable [Inhabited SlW]
def orR (y:LfA) (r:BitVec 64):LfA:={y with rd:=y.rd ||| (r&&& ~~~y.wr)}
noncomputable def rdS (p:Int) (t:TrA) (A:LvA) (k:KD):LvA:= match t.lv k with | none=>A | some x=> if x.rd=0#64 then A else Ww A p k (orR (ZN A p k) x.rd)
noncomputable def Ja (p:Int) (A:LvA) (ob:Bs):LvA:= if p=0 then dropP A ob else U9 A p ob
def gvX (y:LfA) (c:Bs) (wr:BitVec 64):LfA:={y with own:=c,wr:=y.wr ||| wr}
def RP (A0:LvA) (p:Int) (k:KD) (x:LfA):Bs:=BK (WX A0 p k) x.own x.wr
noncomputable def Gg (A0:LvA) (p:Int) (t:TrA) (A:LvA) (k:KD):LvA:= match t.lv k with | none=>A | some x=> if x.wr=0#64 then A else if p=0 then{A with pres:=KQ A.pres k (RP A0 p k x)}else Ww A p k (gvX (ZN A p k) (RP A0 p k x) x.wr)
noncomputable def RT (A:LvA) (id:Int) (t:TrA) (l:List KD) (obs:List Bs):LvA:=
  VP (l.foldl (Gg A t.parent t) (obs.foldl (Ja t.parent) (if t.parent=0 then A else l.foldl (rdS t.parent t) A))) id
def DrA (A:LvA):Prop:= ∀i t k x,A.tr i=some t→t.dr k.1=true→t.lv k=some x→x.wr=BitVec.allOnes 64
theorem Hu {α β:Type} {f:α→β→α} {a:α} {l:List β} {i:Nat} {k:β} (h:l[i]? =some k):(l.take (i+1)).foldl f a=f ((l.take i).foldl f a) k:= by
  rw[List.take_add_one,h,List.foldl_append];rfl
theorem T7 {now own:Bs} {wr:BitVec 64} (ho:own.length=64) (hn:now.length=64) (h: ∀j,j<64→wr.getLsbD j=false→now[j]? =own[j]?):BK now own wr=own:= by
  apply List.ext_getElem?
  intro j
  by_cases hj:j<64
  · unfold BK
    rw[List.getElem?_map,List.getElem?_range hj]
    simp only[Option.map_some]
    split
    · rw[getD_some (by omega)]
    · rename_i q
      rw[←h j hj (by simpa using q),getD_some (by omega)]
  · rw[List.getElem?_eq_none (by simp [BK];omega),List.getElem?_eq_none (by omega)]
theorem mgB_all {now own:Bs} (ho:own.length=64) (hn:now.length=64):BK now own (BitVec.allOnes 64)=own:=
  T7 ho hn fun j hj h=> by rw[BitVec.getLsbD_allOnes]at h; simp [hj]at h
theorem mgB_bit {now own:Bs} {wr:BitVec 64} {j:Nat} (hj:j<64) (hn:now.length=64) (h:wr.getLsbD j=false):(BK now own wr)[j]? =now[j]? := by
  unfold BK
  rw[List.getElem?_map,List.getElem?_range hj]
  simp only[Option.map_some]
  rw[if_neg (by rw[h];decide),getD_some (by omega)]
theorem Uz {A A':LvA} {k:KD} (hp:A'.pres k=A.pres k) (ht: ∀i,(A'.tr i).map (fun t=>(t.parent,t.lv k,t.dr k.1))=(A.tr i).map (fun t=>(t.parent,t.lv k,t.dr k.1))): ∀n i,JM A' n i k=JM A n i k
  | 0,_=>rfl
  | n+1,i=> by
    unfold JM
    have h:=ht i
    split
    · exact hp
    · cases q:A.tr i with
      | none=>
        cases q':A'.tr i with
        | none=>rfl
        | some t'=> rw[q,q']at h; simp at h
      | some t=>
        cases q':A'.tr i with
        | none=> rw[q,q']at h; simp at h
        | some t'=>
          rw[q,q']at h
          simp only[Option.map_some,Option.some.injEq,Prod.mk.injEq]at h
          obtain⟨h1,h2,h3⟩:=h
          dsimp only
          rw[h1,h2,h3]
          cases t.lv k with
          | some x=>rfl
          | none=>
            dsimp only
            split
            · rfl
            · exact Uz hp ht n _
theorem NT {A:LvA} {p:Int} {k:KD} {t:TrA} (h0:p≠0) (ht:A.tr p=some t):(ZN A p k).own=WX A p k:= by
  unfold ZN
  rw[ht]; dsimp only
  cases hx:t.lv k with
  | none=>rfl
  | some x=>unfold WX; rw[JM,if_neg h0,ht]; dsimp only; rw[hx]
theorem Y9 {A:LvA} {p i:Int} {k:KD} {y:LfA} (h:i≠p):(Ww A p k y).tr i=A.tr i:= by
  unfold Ww
  cases A.tr p with
  | none=>rfl
  | some t=> dsimp only; rw[Qz h]
theorem Dw {A:LvA} {p:Int} {k:KD} {y:LfA}:(Ww A p k y).pres=A.pres:= by
  unfold Ww
  cases A.tr p<;>rfl
theorem Tl {A:LvA} {p:Int} {k j:KD} {y:LfA} {t:TrA} (h0:p≠0) (ht:A.tr p=some t):WX (Ww A p k y) p j= if j=k then y.own else WX A p j:= by
  split
  · rename_i e
    subst e
    unfold WX
    rw[JM,if_neg h0,ZX ht]
    dsimp only
    rw[Qu]
    dsimp only
    rw[Qu]
  · rename_i e
    refine Uz (by rw[Dw]) (fun i=> ?_) _ _
    by_cases e2:i=p
    · subst e2
      rw[ZX ht,ht]
      dsimp only
      rw[Qu]
      simp only[Option.map_some]
      rw[Qz e]
    · rw[Y9 e2]
theorem B0 {A:LvA} {p:Int} {ob:Bs} {t:TrA} (ht:A.tr p=some t):U9 A p ob={A with tr:=QO A.tr p (some {t with lv:=ZU (fun j=>j.1=ob) t.lv,dr:=Y0 t.dr ob})}:= by unfold U9; rw[ht]
theorem Nb {A:LvA} {p:Int} {j:KD} {ob:Bs} (h:j.1≠ob):WX (U9 A p ob) p j=WX A p j:= by
  cases ht:A.tr p with
  | none=>unfold U9; rw[ht]
  | some t=>
    rw[B0 ht]
    unfold WX
    refine Uz (A:=A) (A':={A with tr:=QO A.tr p (some {t with lv:=ZU (fun j=>j.1=ob) t.lv,dr:=Y0 t.dr ob})}) U (fun i=> ?_) _ _
    by_cases e2:i=p
    · subst e2
      dsimp only
      rw[Qu,ht]
      simp only[Option.map_some]
      have e1:ZU (fun j=>j.1=ob) t.lv j=t.lv j:= by unfold ZU; rw[if_neg h]
      have e3:Y0 t.dr ob j.1=t.dr j.1:= by unfold Y0; rw[if_neg h]
      rw[e1,e3]
    · dsimp only; rw[Qz e2]
theorem Ce {A:LvA} {p i:Int} {ob:Bs} (h:i≠p):(U9 A p ob).tr i=A.tr i:= by
  unfold U9
  cases A.tr p with
  | none=>rfl
  | some t=> dsimp only; rw[Qz h]
structure SeI (A0 A:LvA) (id p:Int) (t:TrA) (obs:List Bs) (gv:List KD):Prop where
  tr:A.tr id=some t
  par:p≠0→ ∃tp,A.tr p=some tp
  sees:p≠0→ ∀k,k∉gv→k.1∉obs→WX A p k=WX A0 p k
  oth: ∀i,i≠p→A.tr i=A0.tr i
theorem SeI.start {A0:LvA} {id p:Int} {t:TrA} (ht:A0.tr id=some t) (hp:p≠0→ ∃tp,A0.tr p=some tp):SeI A0 A0 id p t [] []:=⟨ht,hp, fun _ _ _ _=>rfl, fun _ _=>rfl⟩
theorem SeI.read {A0 A:LvA} {id p:Int} {t:TrA} (h:SeI A0 A id p t [] []) (hne:id≠p) (h0:p≠0) (k:KD):SeI A0 (rdS p t A k) id p t [] []:= by
  unfold rdS
  cases hx:t.lv k with
  | none=> exact h
  | some x=>
    dsimp only
    split
    · exact h
    · obtain⟨tp,htp⟩:=h.par h0
      refine⟨by rw[Y9 hne]; exact h.tr, fun _=>⟨_, by rw[ZX htp]; exact Qu⟩, fun _ j hj hb=> ?_, fun i hi=> by rw[Y9 hi]; exact h.oth i hi⟩
      rw[Tl h0 htp]
      split
      · rename_i e
        subst e
        rw[show(orR (ZN A p j) x.rd).own=(ZN A p j).own from rfl,NT h0 htp]
        exact h.sees h0 j hj hb
      · exact h.sees h0 j hj hb
theorem SeI.drop {A0 A:LvA} {id p:Int} {t:TrA} {obs:List Bs} {ob:Bs} (h:SeI A0 A id p t obs []) (hne:id≠p):SeI A0 (Ja p A ob) id p t (obs++[ob]) []:= by
  unfold Ja
  by_cases h0:p=0
  · rw[if_pos h0]
    exact⟨h.tr, fun q=>absurd h0 q, fun q=>absurd h0 q,h.oth⟩
  · rw[if_neg h0]
    obtain⟨tp,htp⟩:=h.par h0
    refine⟨by rw[Ce hne]; exact h.tr, fun _=>⟨_, by rw[B0 htp]; exact Qu⟩, fun _ j hj hb=> ?_, fun i hi=> by rw[Ce hi]; exact h.oth i hi⟩
    rw[Nb (fun e=>hb (by simp [e]))]
    exact h.sees h0 j hj fun q=>hb (by simp [q])
theorem SeI.give {A0 A:LvA} {id p:Int} {t:TrA} {obs:List Bs} {gv:List KD} (h:SeI A0 A id p t obs gv) (hne:id≠p) (k:KD):SeI A0 (Gg A0 p t A k) id p t obs (gv++[k]):= by
  have up:SeI A0 A id p t obs (gv++[k]):=⟨h.tr,h.par, fun h0 j hj hb=>h.sees h0 j (fun q=>hj (by simp [q])) hb,h.oth⟩
  unfold Gg
  cases hx:t.lv k with
  | none=> exact up
  | some x=>
    dsimp only
    split
    · exact up
    · split
      · rename_i h0
        exact⟨h.tr, fun q=>absurd h0 q, fun q=>absurd h0 q,h.oth⟩
      · rename_i h0
        obtain⟨tp,htp⟩:=h.par h0
        refine⟨by rw[Y9 hne]; exact h.tr, fun _=>⟨_, by rw[ZX htp]; exact Qu⟩, fun _ j hj hb=> ?_, fun i hi=> by rw[Y9 hi]; exact h.oth i hi⟩
        rw[Tl h0 htp,if_neg (fun e=>hj (by simp [e]))]
        exact h.sees h0 j (fun q=>hj (by simp [q])) hb
theorem SeI.ag {A0 A:LvA} {id p:Int} {t:TrA} {obs:List Bs} {gv:List KD} {k:KD} {x:LfA} (h:SeI A0 A id p t obs gv) (h0:p≠0) (hg:AgL A) (hk:k∉gv) (hl:(WX A0 p k).length=64) (hd:k.1∈obs→x.wr=BitVec.allOnes 64):An (gvX (ZN A p k) (RP A0 p k x) x.wr):= fun j hj hw=> by
  have hw':(ZN A p k).wr.getLsbD j=false∧x.wr.getLsbD j=false:= by
    have :((ZN A p k).wr ||| x.wr).getLsbD j=false:=hw
    rw[BitVec.getLsbD_or,Bool.or_eq_false_iff]at this
    exact this
  obtain⟨tp,htp⟩:=h.par h0
  have hb:k.1∉obs:= fun q=> by
    have h2:=hw'.2
    rw[hd q,BitVec.getLsbD_allOnes]at h2
    simp [hj]at h2
  show(ZN A p k).base[j]? =(RP A0 p k x)[j]?
  rw[hg.tou j hj hw'.1,NT h0 htp,h.sees h0 k hk hb]
  exact(mgB_bit hj hl hw'.2).symm
def ItS (g:Bs→Option Value) (gf:Nat) (caps:List Value) (It:Th):Prop:= ∀(l:Nat) (J:List Bs→Th) (X:Th) (w:World),Sat w [J [],It,X]→YJ prog l Zl (okC g) J→Calls prog gf (.func (.yield l) #[] #[]::caps).toArray w (Ret fun _ w'=> ∃ks,AllC g ks∧Sat w' [J ks,It,X])
def JS (l D b:Nat) (rec:Loop) (ks:List Bs):Th:=CH fun v:Value=>starL [WQ l rec,Wa D,QE b [v],rowT stC v ks]
theorem appS {w:World} {g:Bs→Option Value} {It F:Th} {gf:Nat} {caps:List Value} (hS:Sat w [It,F]) (hcal:Q8 prog gf=true) (hIt:ItS g gf caps It) (hlen: ∀ks,Came g ks→ks.length≤100000000000):
    Calls prog 138 [.slice none 0 0,.func (.func gf) #[] caps.toArray].toArray w (Ret fun v w'=> ∃ks,AllC g ks∧Sat w' [rowT stC v ks,It,F]):= by
 refine YE func138 U ntmps138 U ?_
 refine Qe (Qa (XV hS U U U ?_))
 intro b1 w1 j1
 refine Qd U U (Qf (Qc (Qe (Qe (Qa (Qb U U (Qf (Qc (Qw (Y6 (caps:=caps) U hcal ?_))))))))))
 intro rec hr1 hr2 hr3 hr4 hr5 htn htf
 have hE:=((j1.enter_loop rec).row_nil stC)
 have hE2:=hE.sp [1,2,3,0] U
 have hJ0:=Sat.ex_intro (f:= fun v:Value=>starL [WQ _ _,Wa _,QE _ [v],rowT stC v []]) _ (Sat.fold (As:=[WQ _ _,Wa _,QE _ [_],rowT stC _ []]) hE2)
 refine(hIt _ (JS _ _ _ _) _ _ (hJ0.join U) ?_).mono ?_
 ·intro ks k R w2 hok hw2
  obtain⟨v,hw3⟩:=hw2.ex
  have hw4:=hw3.flat; dsimp only[RX,RW]at hw4
  have hl1:=hlen _ hok
  simp only[List.length_append,List.length_cons,List.length_nil]at hl1
  refine G6 (hw4.loop 0 rfl) hr1 hr2 hr3 hr4 hr5 htn htf rfl (by intro o ho c; simp at ho; subst ho; simp) (by intro o ho c; simp at ho; rcases ho with rfl | rfl | rfl | rfl | rfl<;> simp) ?_
  intro QA hA
  refine Qd U U (Qf (hA _ _ (hw4.loop 0 U) ?_))
  intro QB hB
  have h1v:v.oneCell'=true:=hw4.own_one 3 U
  have hw5:=hw4.loop_put 0 U (rec':={rec with state:= .busy}); dsimp only[List.set]at hw5
  refine Qo U KM (hw5.cell 2 U U) U (Qb U U (ZV stC [k] hw5 U underlying92 ifz_9 U U U U (by first | rfl | simp [RowC.cells,Wu,Xz]) U ?_))
  intro b3 w3 hw6
  refine Jf stC 4 hw6 U U U (hw6.rd 0 U (by simp)) underlying92 underlying92 (by intro k hk; cases hk) ifo_9 U (by simp;omega) U (by simp;omega) ?_
  intro v4 w4 hw7; dsimp only[List.set]at hw7
  have h1v4:v4.oneCell'=true:=hw7.own_one 4 U
  refine Qx hw7 U U sz_92 h1v4 (i:=3) U (by simp) ?_
  intro w5 hw8; dsimp only[List.set]at hw8
  refine Qf (hB _ _ (hw8.loop 1 U) ?_)
  have hw9:=hw8.loop_put 1 U (rec':=rec); dsimp only[List.set]at hw9
  exact(Sat.ex_intro (f:= fun v:Value=>starL [WQ _ _,Wa _,QE _ [v],rowT stC v (ks++[k])]) v4 (Sat.fold (As:=[WQ _ _,Wa _,QE _ [_],rowT stC _ _]) (hw9.pick [1,2,3,4,5] U)))
 ·rintro e w3 ⟨v0,rfl,ks,hall,hw3⟩
  obtain⟨v,hw4⟩:=hw3.ex
  have hw5:=hw4.flat; dsimp only[RX,RW]at hw5
  refine⟨⟨v0,rfl⟩,rec,hw5.loop 0 U, by rw[hr1]; simp,hr2, ?_⟩
  intro a ha1 ha2
  have hw6:=hw5.loop_put 0 U (rec':={rec with state:= .exhausted}); dsimp only[List.set]at hw6
  obtain⟨hD,hw7⟩:=hw6.defer_put (o:= .deferred none) 1 rfl
  dsimp only[List.eraseIdx]at hw7
  refine GN (n:=13) (by rw[ha1]; exact htn) (by rw[ha1]; exact htf) ha2 U KM (hw6.cell 2 U U) hD U U U ?_
  exact⟨_,U,ks,hall,hw7.pick [2,3,4] U⟩
def keysTS (c b:Nat) (g:Bs→Option Value):Th:=starL [QE c [.map (some b)],Q6 Zl b g]
theorem itS (c b:Nat) (g:Bs→Option Value):ItS g 100 [ptrV c 0] (keysTS c b g):= fun l J X w hS hY=> by
  have h1:=(hS.perm (List.Perm.swap _ _ _)).flat; dsimp only[RX,RW]at h1
  refine(kd_it (h1.reorder [2,0,1,3] U) hY).mono fun e w' h=>h.mono fun v w' ⟨ks,h2,h3⟩=>⟨ks,h2, ?_⟩
  exact(Sat.fold (As:=[QE c [.map (some b)],Q6 Zl b g]) (h3.reorder [1,2,0,3] U)).perm (List.Perm.swap _ _ _)
theorem sortS0 {w:World} {v:Value} {l:List Bs} {As:List Th} (hS:Sat w (rowT stC v l::As)) (hl:l.length<4611686018427387904):Calls prog 99 #[v] w (Ret fun u w'=>u= .tuple #[]∧Sat w' (rowT stC v (Wl l)::As)):=
  N7 Tryz.slices_Sort_string Tryz.slices_Sort_string_none hS hl
theorem colS {w:World} {g:Bs→Option Value} {It F:Th} {gf:Nat} {caps:List Value} (hS:Sat w [It,F]) (hcal:Q8 prog gf=true) (hIt:ItS g gf caps It) (hlen: ∀ks,Came g ks→ks.length≤100000000000):
    Calls prog 98 #[.func (.func gf) #[] caps.toArray] w (Ret fun v w'=> ∃ks,AllC g ks∧Sat w' [rowT stC v ks,It,F]):= by
 refine Qn func98 U ntmps98 U ?_
 refine Qe (Qa (Qd U U (Qf (Qc (Qe (Qa (Qb U U (Q0 cal_138 U (appS (hS.sp [0] U) hcal hIt hlen) U ?_))))))))
 rintro _ w1 ⟨ks,hks,j1⟩
 replace j1:=j1.jn U U
 have h1v:=j1.own_one 0 U
 exact Qd U U (Qf (Qc (Qv (QR (.inr U) U U (⟨_,U,ks,hks,j1⟩)))))
theorem CU {w:World} {g:Bs→Option Value} {It F:Th} {gf:Nat} {caps:List Value} (hS:Sat w [It,F]) (hcal:Q8 prog gf=true) (hIt:ItS g gf caps It) (hlen: ∀ks,Came g ks→ks.length≤100000000000):
    Calls prog 60 #[.func (.func gf) #[] caps.toArray] w (Ret fun v w'=> ∃ks,AllC g ks∧Sat w' [rowT stC v (Wl ks),It,F]):= by
 refine Qn func60 U ntmps60 U ?_
 refine Qe (Qa (Qd U U (Qf (Qc (Qe (Qa (Qb U U (Q0 cal_98 U (colS (hS.sp [0] U) hcal hIt hlen) U ?_))))))))
 rintro _ w1 ⟨ks,hks,j1⟩
 replace j1:=j1.jn U U
 have h1v:=j1.own_one 0 U
 have hln:=hlen _ (Came.of_all hks)
 refine Qd U U (Qf (Qc (Qe (Qa (Qb U U (Q0 cal_99 U (sortS0 (j1.sp [0] U) (by omega)) U ?_))))))
 rintro _ w2 ⟨rfl,j2⟩
 replace j2:=j2.jn U U
 exact Qf (Qc (Qe (Qa (Qb U U (Qd U U (Qf (Qc (Qv (QR (.inr U) U U (⟨_,U,ks,hks,j2⟩))))))))))
section
variable {w:World} {As:List Th}
theorem Pn {T:Int→Option TrD} {i:Int} {t:TrD} {k:KD} {x:LfD} (hS:Sat w As) (j:Nat) (hj:As[j]? =some (X6 VW T)) (ht:T i=some t) (hx:t.lv k=some x) (q:Nat) {v:Value} (hv:(lfV x)[q]? =some v):w.cell? ⟨x.ad,q,none⟩=some v:= by
  have h1:=ZQ (hS.pull j hj) ht
  have h2:=Hg (h1.perm ((List.Perm.cons _ (List.Perm.swap _ _ _)).trans (List.Perm.swap _ _ _))) hx
  exact h2.cell 0 U hv
theorem UU {b:Nat} {L:LvD} {i:Int} {t:TrD} (hS:Sat w As) (j:Nat) (hj:As[j]? =some (WU b L)) (ht:L.tr i=some t) (q:Nat) {v:Value} (hv:(trV t)[q]? =some v):w.cell? ⟨t.ad,q,none⟩=some v:= by
  have h1:=Zb (hS.pull j hj)
  have h2:=ZQ (h1.pull 3 U) ht
  exact h2.cell 0 U hv
theorem TA {b:Nat} {L:LvD} {i:Int} {t:TrD} {k:KD} {x:LfD} (hS:Sat w As) (j:Nat) (hj:As[j]? =some (WU b L)) (ht:L.tr i=some t) (hx:t.lv k=some x) (q:Nat) {v:Value} (hv:(lfV x)[q]? =some v):w.cell? ⟨x.ad,q,none⟩=some v:=
  Pn (Zb (hS.pull j hj)) 3 U ht hx q hv
end
noncomputable def YB (sp mp mt ms:Nat):LvD:=⟨sp,mp,mt,ms, fun _=>0, fun _=>none,0, fun _=>false⟩
def Bg:LvA:=⟨fun _=>zer, fun _=>none⟩
theorem L6 {sp mp mt ms:Nat}:LvI 0 (YB sp mp mt ms) (fun _=>none)∧QG (YB sp mp mt ms) (fun _=>none)=Bg∧AliveLe (fun _=>none) 0∧SzLe (YB sp mp mt ms) 0∧DrA Bg:= by
  have hf: ∀p,Xy (YB sp mp mt ms) p=0:= fun p=> by cases p<;>rfl
  have e1:QG (YB sp mp mt ms) (fun _=>none)=Bg:=rfl
  refine⟨⟨⟨fun s hs=>⟨0,HF (f:= fun _=>0) (fun p=> by rw[hf]) (Gv hs),rfl⟩, fun s x h=> by cases h⟩,⟨rfl, fun _=>0, fun _=>Nat.le_refl _, fun i t h=> by cases h⟩, ?_⟩,e1,⟨[], by simp, fun j h=>absurd U h⟩,⟨[], by simp, fun k h=>absurd U h, fun i t k x h=> by cases h⟩, fun i t k x h=> by cases h⟩
  intro i t k x h
  cases h
theorem SA {w:World} {b p mp mt ms:Nat} {As:List Th} (h:Sat w (QE b [ptrV p 0,.map (some mp),.map (some mt),intV 0,.map (some ms)]::Q6 X0 mp (fun _=>none)::Q6 QX mt (fun _=>none)::X6 VW (fun _:Int=>none)::Q6 QX ms (fun _=>none)::As)):
    Sat w (QE b [ptrV (YB p mp mt ms).sp 0,.map (some (YB p mp mt ms).mp),.map (some (YB p mp mt ms).mt),intV (YB p mp mt ms).cur,.map (some (YB p mp mt ms).ms)]::Q6 X0 (YB p mp mt ms).mp (Z3 (YB p mp mt ms).pres)::Q6 QX (YB p mp mt ms).mt (XC TrD.ad (YB p mp mt ms).tr)::X6 VW (YB p mp mt ms).tr::Q6 QX (YB p mp mt ms).ms (JF (YB p mp mt ms).sh)::As):= by
  have e1:Z3 (YB p mp mt ms).pres= fun _=>none:=S3
  have e2:JF (YB p mp mt ms).sh= fun _=>none:=boG_nil
  rw[e1,e2]
  exact h
theorem LC {w:World} {p:Nat} {F:Th} (hS:Sat w [F]):
    Calls prog 46 #[ptrV p 0] w (Ret fun v w'=> ∃b mp mt ms,v=ptrV b 0∧Sat w' [WU b (YB p mp mt ms),F]):= by
 refine Qn func46 U ntmps46 U ?_
 refine Qe (Qa (Qd U U (Qf (Qc (Qe (Qa (Qb U U (Zg X0 hS U ?_))))))))
 intro mp w1 j1
 refine Zg QX j1 U ?_
 intro mt w2 j2
 refine Zg QX j2 U ?_
 intro ms w3 j3
 refine KY (vs':=[ptrV p 0,.map (some mp),.map (some mt),intV 0,.map (some ms)]) U Bb asz_109 zr_109 U U U (XV j3 U U U ?_)
 intro b w4 j4
 refine Qd U U (Qf (Qc (Qv (QR (.inr U) U U ?_))))
 have hA:=BB (κ:=Int) VW (j4.pick [0,3,2,1,4] U)
 exact⟨_,U,b,mp,mt,ms,U,Xx (L:=YB p mp mt ms) (SA (hA.reorder [1,2,3,0,4,5] U))⟩
def NoI (ex:Int→Int) (l:List Int):Prop:= ∀j,j≠0→ex j=(l.count j:Int)
theorem NoI.nn {ex:Int→Int} {l:List Int} (h:NoI ex l):NN ex:= fun j hj=> by rw[h j hj];omega
theorem NoI.add {ex:Int→Int} {l:List Int} {s:Int} (h:NoI ex l):NoI (fun j=>ex j+dl s j) (l++[s]):= fun j hj=> by
  show ex j+dl s j=_
  rw[h j hj,List.count_append]
  by_cases e:j=s
  · subst e; rw[Wx]; simp
  · have e2: ¬s=j:= fun q=>e q.symm
    rw[Jb e]; simp [List.count_cons,e2]
theorem NoI.ge {ex:Int→Int} {l:List Int} {s:Int} (h:NoI ex (s::l)) (h0:s≠0):1≤ex s:= by
  rw[h s h0]; simp;omega
theorem NoI.tail {ex:Int→Int} {l:List Int} {s:Int} (h:NoI ex (s::l)):NoI (fun j=>ex j -dl s j) l:= fun j hj=> by
  show ex j -dl s j=_
  rw[h j hj]
  by_cases e:j=s
  · subst e; rw[Wx]; simp
  · have e2: ¬s=j:= fun q=>e q.symm
    rw[Jb e]; simp [List.count_cons,e2]
theorem LvX.held {ex:Int→Int} {m:Nat} {L:LvD} {V:VS} {s:Int} (h:LvX ex m L V) (hs:s≠0→1≤ex s):XZ V s:= by
  by_cases h0:s=0
  · exact .inl h0
  · obtain⟨n,a,b⟩:=h.ref.1 s h0
    have :=hs h0
    exact .inr (h.ref.alive_of (by omega))
section
variable {ex:Int→Int} {L L1 L':LvD} {V V1 V':VS} {id:Int} {t t1 t':TrD} {k:KD} {x y x1:LfD} {m:Nat}
theorem Sy (hI:LvX ex m L V) (ht:L.tr id=some t) (hx:t.lv k=some x) (hb:y.base=x.base) (ho:y.own=x.own) (hg:An (Ws V y)):
    LvX ex m (We L id t k y) V∧QG (We L id t k y) V=Ww (QG L V) id k (Ws V y):= by
  generalize hL':We L id t k y=L'
  have hP:L'.pres=L.pres:= by subst hL';rfl
  have hT:L'.tr=QO L.tr id (some {t with lv:=QO t.lv k (some y)}):= by subst hL';rfl
  have hf: ∀q,Xy L' q=Xy L q:= fun q=> by
    rw[H6 (x:=y) hP hT ht U,hb,ho]
    rw[Us (f:=Xy L) (v:=x.base) (by rw[XF ht hx];rfl),Us (by rw[XF ht hx];rfl)]
  have e1:QG L' V=Ww (QG L V) id k (Ws V y):=Hl hP hT ht U fun _ _ _=>rfl
  exact⟨⟨hI.ref.fn hf, by rw[hT]; exact hI.rank.same (JA ht U), by rw[e1]; exact hI.agree.put hg⟩,e1⟩
theorem Si (hT:TouR L V id t k L1 V1 t1 x1) (ht:L.tr id=some t) (hI:LvX ex m L V) (hx:NN ex) {rd wr:BitVec 64} (hw: ∀j,j<64→wr.getLsbD j=false→x1.wr.getLsbD j=false):
    StepX ex m L V ex m 0 1 (We L1 id t1 k {x1 with rd:=rd,wr:=wr}) V1∧QG (We L1 id t1 k {x1 with rd:=rd,wr:=wr}) V1=Ww (QG L V) id k {ZN (QG L V) id k with rd:=rd,wr:=wr}:= by
  obtain⟨h1,h2,h3,h4,h5⟩:=hT.invX ht hI hx
  obtain⟨a1,a2⟩:=Sy (y:={x1 with rd:=rd,wr:=wr}) h1 (hT.tr ht) hT.lv rfl rfl (fun j hj h=>(h1.agree id _ k _ (Z6 (hT.tr ht)) (Z8 hT.lv)) j hj (hw j hj h))
  refine⟨⟨a1,hT.sp, fun c q=>(h4 c q).mono (by omega), fun c q=>(hT.sz ht q).putOld (hT.tr ht) hT.lv U U,hT.pgs⟩, ?_⟩
  rw[a2,h3,Rl]
  congr 1
  rw[←h2];rfl
theorem orR_fin (hT:TouR L V id t k L1 V1 t1 x1) (ht:L.tr id=some t) (hI:LvX ex m L V) (hx:NN ex) (r:BitVec 64):
    StepX ex m L V ex m 0 1 (We L1 id t1 k {x1 with rd:=x1.rd ||| (r&&& ~~~x1.wr)}) V1∧QG (We L1 id t1 k {x1 with rd:=x1.rd ||| (r&&& ~~~x1.wr)}) V1=Ww (QG L V) id k (orR (ZN (QG L V) id k) r):= by
  obtain⟨h1,h2,h3,h4,h5⟩:=hT.invX ht hI hx
  obtain⟨a1,a2⟩:=Si hT ht hI hx (rd:=x1.rd ||| (r&&& ~~~x1.wr)) (wr:=x1.wr) fun _ _ h=>h
  have e:x1.wr=(ZN (QG L V) id k).wr:= by rw[←h2];rfl
  have e2:x1.rd=(ZN (QG L V) id k).rd:= by rw[←h2];rfl
  refine⟨a1, ?_⟩
  rw[a2,e,e2];rfl
end
theorem GI {L:LvD} {V:VS} {i:Int} {a:TrA} (h:(QG L V).tr i=some a): ∃t,L.tr i=some t∧Zy V t=a:= by
  unfold QG at h
  dsimp only at h
  cases q:L.tr i with
  | none=> rw[q]at h; cases h
  | some t=> rw[q]at h; exact⟨t,rfl, by simpa using h⟩
theorem SeI.reads {A0:LvA} {id p:Int} {t:TrA} (hne:id≠p) (h0:p≠0): ∀(l:List KD) {A:LvA},SeI A0 A id p t [] []→SeI A0 (l.foldl (rdS p t) A) id p t [] []
  | [],_,h=>h
  | k::l,_,h=>SeI.reads hne h0 l (h.read hne h0 k)
theorem SeI.drops {A0:LvA} {id p:Int} {t:TrA} (hne:id≠p): ∀(l:List Bs) {A:LvA} {obs:List Bs},SeI A0 A id p t obs []→SeI A0 (l.foldl (Ja p) A) id p t (obs++l) []
  | [],_,_,h=> by rw[List.append_nil]; exact h
  | ob::l,_,_,h=> by
    have :=SeI.drops hne l (h.drop (ob:=ob) hne)
    rw[List.append_assoc]at this
    exact this
theorem SeI.gives {A0:LvA} {id p:Int} {t:TrA} {obs:List Bs} (hne:id≠p): ∀(l:List KD) {A:LvA} {gv:List KD},SeI A0 A id p t obs gv→SeI A0 (l.foldl (Gg A0 p t) A) id p t obs (gv++l)
  | [],_,_,h=> by rw[List.append_nil]; exact h
  | k::l,_,_,h=> by
    have :=SeI.gives hne l (h.give hne k)
    rw[List.append_assoc]at this
    exact this
structure CmI (ex:Int→Int) (m:Nat) (L L1:LvD) (V V1:VS) (id:Int) (t:TrD) (A:LvA):Prop where
  inv:LvX ex m L1 V1
  sp:L1.sp=L.sp
  tr:L1.tr id=some t
  ab:QG L1 V1=A
  al: ∀c,AliveLe V c→AliveLe V1 c
  ok:OthK L L1 t.parent (fun q=>t.lv q≠none)
  pg:Pgs V V1
noncomputable def gvR (A:LvA) (p:Int) (k:KD) (c:Bs) (wr:BitVec 64):LvA:= if p=0 then{A with pres:=KQ A.pres k c}else Ww A p k (gvX (ZN A p k) c wr)
theorem TJ {A A0:LvA} {p:Int} {t:TrA} {k:KD} {x:LfA} (hx:t.lv k=some x) (h0:x.wr≠0#64):Gg A0 p t A k=gvR A p k (RP A0 p k x) x.wr:= by
  unfold Gg gvR
  rw[hx]
  dsimp only
  rw[if_neg h0]
theorem LT {A A0:LvA} {p:Int} {t:TrA} {k:KD} {x:LfA} (hx:t.lv k=some x) (h0:x.wr=0#64):Gg A0 p t A k=A:= by
  unfold Gg
  rw[hx]
  dsimp only
  rw[if_pos h0]
theorem Lk {A:LvA} {p:Int} {t:TrA} {k:KD} {x:LfA} (hx:t.lv k=some x) (h0:x.rd=0#64):rdS p t A k=A:= by
  unfold rdS
  rw[hx]
  dsimp only
  rw[if_pos h0]
section
variable {ex ex' ex0:Int→Int} {m e i:Nat} {L L1 L2:LvD} {V0 V V1 V2:VS} {id:Int} {t tp t2:TrD} {A A0 A' Ad:LvA} {k:KD} {x y:LfD} {P:KD→Prop} {s:Int} {order:List KD} {made:KD→Option Int} {obs:List Bs}
theorem CmI.start (hI:LvX ex m L V) (ht:L.tr id=some t):CmI ex m L L V V id t (QG L V):=⟨hI,rfl,ht,rfl, fun _ q=>q,.refl,.refl⟩
theorem CmI.step (h:CmI ex m L L1 V V1 id t A) (hs:StepX ex m L1 V1 ex' m 0 e L2 V2) (ho:OthK L1 L2 t.parent P) (hP: ∀q,P q→t.lv q≠none) (hne:id≠t.parent) (hab:QG L2 V2=A'):CmI ex' m L L2 V V2 id t A':=
  ⟨hs.inv,hs.sp.trans h.sp,(ho.1 id hne).trans h.tr,hab, fun c q=>hs.al c (h.al c q),h.ok.trans ho (fun _ q=>q) hP,h.pg.trans hs.pg⟩
theorem CmI.ref (h:CmI ex m L L1 V V1 id t A) (ha:XZ V1 s) (f:Int→Bool):CmI (fun j=>ex j+dl s j) m L {L1 with sh:=f} V (refW V1 s) id t A:= by
  obtain⟨a,b⟩:=h.inv.refW ha
  obtain⟨c,d⟩:=a.same (L':={L1 with sh:=f}) rfl rfl
  exact⟨c,h.sp,h.tr,(d.trans b).trans h.ab, fun c q=>(h.al c q).refW,⟨h.ok.1, fun j q hk=>h.ok.2 j q hk⟩,h.pg.trans .ref⟩
theorem Pr (ht:L.tr id=some t) (q:KD) (hq:t.lv q≠none):CF L id q:= by
  cases r:t.lv q with
  | none=> exact absurd r hq
  | some x=> exact .inr ⟨t,x,ht,r⟩
theorem CmI.sz2 {c:Nat} (h:CmI ex m L L1 V V1 id t A) (ht:L.tr id=some t) (hc:SzLe L c):SzLe L1 (2*c):=h.ok.sz2 (Pr ht) hc
theorem CmI.par {tA:TrA} {gv:List KD} (h:CmI ex m L L1 V V1 id t A) (hse:SeI A0 A id t.parent tA obs gv):t.parent=0∨ ∃tp,L1.tr t.parent=some tp:= by
  by_cases h0:t.parent=0
  · exact .inl h0
  · obtain⟨tp,htp⟩:=hse.par h0
    rw[←h.ab]at htp
    obtain⟨u,hu,_⟩:=GI htp
    exact .inr ⟨u,hu⟩
theorem CmI.read (h:CmI ex m L L1 V V1 id t A) (hx0:NN ex) (hx:t.lv k=some x) (h0:x.rd≠0#64) (hne:id≠t.parent) (htp:L1.tr t.parent=some tp) (hT:TouR L1 V1 t.parent tp k L2 V2 t2 y):
    CmI ex m L (We L2 t.parent t2 k {y with rd:=y.rd ||| (x.rd&&& ~~~y.wr)}) V V2 id t (rdS t.parent (Zy V0 t) A k):= by
  obtain⟨h1,h2⟩:=orR_fin hT htp h.inv hx0 x.rd
  refine h.step h1 (hT.othK htp U U) (fun q e=> by subst e; rw[hx]; simp) hne ?_
  rw[h2,h.ab]
  unfold rdS
  rw[Z8 hx]
  dsimp only
  rw[if_neg (show ¬(Ws V0 x).rd=0#64 from h0)]
  rfl
structure GvI (ex:Int→Int) (m:Nat) (L L1:LvD) (V0 V V1:VS) (id:Int) (t:TrD) (made:KD→Option Int) (A0 Ad:LvA) (order:List KD) (i:Nat):Prop where
  cm:CmI ex m L L1 V V1 id t ((order.take i).foldl (Gg A0 t.parent (Zy V0 t)) Ad)
  mx: ∀j,j≠0→ ∃n:Nat,CI (Wv (fun k=>k∈order.take i) 0 (Hs made)) j n∧ex j=n
theorem GvI.start (h:CmI ex m L L1 V V1 id t Ad) (hm: ∀j,j≠0→ ∃n:Nat,CI (Hs made) j n∧ex j=n):GvI ex m L L1 V0 V V1 id t made A0 Ad order 0:=
  ⟨h, fun j hj=> by
    obtain⟨n,a,e⟩:=hm j hj
    have e2:Wv (fun k=>k∈order.take 0) 0 (Hs made)=Hs made:= by funext k; simp [Wv]
    exact⟨n, by rw[e2]; exact a,e⟩⟩
theorem GvI.nn (h:GvI ex m L L1 V0 V V1 id t made A0 Ad order i):NN ex:= fun j hj=> by
  obtain⟨n,_,e⟩:=h.mx j hj
  rw[e];omega
theorem GvI.next (h:GvI ex m L L1 V0 V V1 id t made A0 Ad order i) (hk:order[i]? =some k) (hd:order.Nodup) (hc:CmI ex' m L L2 V V2 id t (Gg A0 t.parent (Zy V0 t) ((order.take i).foldl (Gg A0 t.parent (Zy V0 t)) Ad) k)) (he: ∀j,j≠0→ex' j=ex j -dl (Hs made k) j):
    GvI ex' m L L2 V0 V V2 id t made A0 Ad order (i+1):= by
  refine⟨by rw[Hu hk]; exact hc, fun j hj=> ?_⟩
  have hni:=YP hd hk
  have hz:Wv (fun k=>k∈order.take i) 0 (Hs made) k=Hs made k:= by unfold Wv; rw[if_neg hni]
  obtain⟨n,a,e⟩:=h.mx j hj
  rw[UG (P:= fun k=>k∈order.take i) (k:=k) (fun p=>(UT hk).trans Or.comm),he j hj]
  by_cases q:Hs made k=j
  · obtain⟨n',rfl,b⟩:=M8 (v:=0) (hz.trans q) (by omega) a
    exact⟨n',b, by rw[q,Wx,e];omega⟩
  · refine⟨n,HF (fun p=> ?_) a, by rw[Jb (fun a=>q a.symm),e];omega⟩
    by_cases e2:p=k
    · subst e2; rw[XK,hz]; exact⟨fun a=>absurd a.symm hj, fun a=>absurd a q⟩
    · rw[XT e2]
theorem GvI.ge (h:GvI ex m L L1 V0 V V1 id t made A0 Ad order i) (hk:order[i]? =some k) (hd:order.Nodup) (hm:made k=some s) (h0:s≠0):1≤ex s:= by
  obtain⟨n,a,e⟩:=h.mx s h0
  have hz:Wv (fun k=>k∈order.take i) 0 (Hs made) k=s:= by unfold Wv Hs; rw[if_neg (YP hd hk),hm];rfl
  have :=Gu a (p:=k) hz
  rw[e];omega
theorem Pj (hI0:LvI m L V0):RP (QG L V0) t.parent k (Ws V0 x)=BK (Zf V0 (X4 L t.parent k)) (Zf V0 x.own) x.wr:= by
  unfold RP
  rw[←hI0.sees];rfl
theorem GvI.con_made (h:GvI ex m L L1 V0 V V1 id t made (QG L V0) Ad order i) (hmd:MdI m L V0 V t ex0 made order) (hI0:LvI m L V0) (hk:order[i]? =some k) (hd:order.Nodup) (hx:t.lv k=some x) (hm:made k=some s):Zf V1 s=RP (QG L V0) t.parent k (Ws V0 x):= by
  rw[Pj hI0,←hmd.con k s x hm hx]
  exact(h.cm.pg s (h.cm.inv.held fun h0=>h.ge hk hd hm h0)).2
theorem GvI.own_alive (h:GvI ex m L L1 V0 V V1 id t made A0 Ad order i) (hx:t.lv k=some x):XZ V1 x.own:= by
  have :=h.cm.inv.aliveX h.nn (.inr (id,k,true))
  rw[XF h.cm.tr hx]at this
  exact this
theorem GvI.con_own (h:GvI ex m L L1 V0 V V1 id t made (QG L V0) Ad order i) (hmd:MdI m L V0 V t ex0 made order) (hI0:LvI m L V0) (ht:L.tr id=some t) (hk:order[i]? =some k) (hx:t.lv k=some x) (hw:x.wr≠0#64) (hm:made k=none):Zf V1 x.own=RP (QG L V0) t.parent k (Ws V0 x):= by
  have hao:XZ V0 x.own:= by
    have ha:=hI0.alive (.inr (id,k,true))
    rw[XF ht hx]at ha
    exact ha
  rw[(h.cm.pg _ (h.own_alive hx)).2,hmd.pg _ hao,Pj hI0]
  have hnn: ¬Vv L t k x:= fun q=>(hmd.dom k).2 ⟨List.mem_of_getElem? hk,x,hx,q⟩ hm
  have hl:=hI0.len (hI0.aliveS t.parent k)
  by_cases e1:x.wr=BitVec.allOnes 64
  · rw[e1,mgB_all (hI0.len hao) hl]
  · have e2:X4 L t.parent k=x.base:=Classical.byContradiction fun q=>hnn ⟨hw,e1,q⟩
    rw[T7 (hI0.len hao) hl]
    intro j hj hb
    rw[e2]
    exact hI0.agree id _ k _ (Z6 ht) (Z8 hx) j hj hb
theorem GvI.ag (h:GvI ex m L L1 V0 V V1 id t made (QG L V0) Ad order i) (hI0:LvI m L V0) (hse:SeI (QG L V0) Ad id t.parent (Zy V0 t) obs []) (hne:id≠t.parent) (hk:order[i]? =some k) (hd:order.Nodup) (hdr:k.1∈obs→x.wr=BitVec.allOnes 64) {L':LvD} {V':VS} (hab:QG L' V'=QG L1 V1) {c:Bs} (hc:c=RP (QG L V0) t.parent k (Ws V0 x)) (h0:t.parent≠0):An (gvX (ZN (QG L' V') t.parent k) c x.wr):= by
  have h1:=hse.gives hne (order.take i)
  rw[←h.cm.ab]at h1
  have hl:(WX (QG L V0) t.parent k).length=64:= by rw[←hI0.sees]; exact hI0.len (hI0.aliveS t.parent k)
  rw[hab,hc]
  exact h1.ag (x:=Ws V0 x) h0 h.cm.inv.agree (by rw[List.nil_append]; exact YP hd hk) hl hdr
theorem GvI.made_next (h:GvI ex m L L1 V0 V V1 id t made (QG L V0) Ad order i) (hmd:MdI m L V0 V t ex0 made order) (hI0:LvI m L V0) (hne:id≠t.parent) (hk:order[i]? =some k) (hd:order.Nodup) (hx:t.lv k=some x) (hw:x.wr≠0#64) (hm:made k=some s)
    (hs:StepX ex m L1 V1 (fun j=>ex j -dl s j) m 0 e L2 V2) (hab:QG L2 V2=gvR (QG L1 V1) t.parent k (Zf V1 s) x.wr) (ho:OthK L1 L2 t.parent (fun q=>q=k)):GvI (fun j=>ex j -dl s j) m L L2 V0 V V2 id t made (QG L V0) Ad order (i+1):= by
  refine h.next hk hd (h.cm.step hs ho (fun q e=> by subst e; rw[hx]; simp) hne ?_) fun j _=> by unfold Hs; rw[hm];rfl
  rw[hab,h.cm.ab,TJ (Z8 hx) hw,h.con_made hmd hI0 hk hd hx hm]
  rfl
theorem GvI.own_next (h:GvI ex m L L1 V0 V V1 id t made (QG L V0) Ad order i) (hmd:MdI m L V0 V t ex0 made order) (hI0:LvI m L V0) (hne:id≠t.parent) (ht:L.tr id=some t) (hk:order[i]? =some k) (hd:order.Nodup) (hx:t.lv k=some x) (hw:x.wr≠0#64) (hm:made k=none) {f:Int→Bool}
    (hs:StepX (fun j=>ex j+dl x.own j) m {L1 with sh:=f} (refW V1 x.own) (fun j=>ex j+dl x.own j -dl x.own j) m 0 e L2 V2) (hab:QG L2 V2=gvR (QG {L1 with sh:=f} (refW V1 x.own)) t.parent k (Zf (refW V1 x.own) x.own) x.wr) (ho:OthK {L1 with sh:=f} L2 t.parent (fun q=>q=k)):GvI (fun j=>ex j+dl x.own j -dl x.own j) m L L2 V0 V V2 id t made (QG L V0) Ad order (i+1):= by
  have hr:=h.cm.ref (h.own_alive hx) f
  refine h.next hk hd (hr.step hs ho (fun q e=> by subst e; rw[hx]; simp) hne ?_) fun j hj=> by
    have e0:Hs made k=0:= by unfold Hs; rw[hm];rfl
    rw[e0,Jb hj];omega
  rw[hab,hr.ab,YA,TJ (Z8 hx) hw,h.con_own hmd hI0 ht hk hx hw hm]
  rfl
theorem GvI.skip (h:GvI ex m L L1 V0 V V1 id t made A0 Ad order i) (hmd:MdI m L V0 V t ex0 made order) (hk:order[i]? =some k) (hd:order.Nodup) (hx:t.lv k=some x) (hw:x.wr=0#64):GvI ex m L L1 V0 V V1 id t made A0 Ad order (i+1):= by
  have hm:made k=none:=Classical.byContradiction fun q=> by
    obtain⟨_,y,hy,h1,_⟩:=(hmd.dom k).1 q
    rw[hx]at hy; cases hy; exact h1 hw
  refine h.next hk hd ?_ fun j hj=> by
    have e0:Hs made k=0:= by unfold Hs; rw[hm];rfl
    rw[e0,Jb hj];omega
  rw[LT (Z8 hx) hw]
  exact h.cm
theorem GvI.fin (h:GvI ex m L L1 V0 V V1 id t made A0 Ad order order.length) (hd: ∀k,made k≠none→k∈order):LvI m L1 V1:= by
  refine h.cm.inv.ext fun j hj=> ?_
  obtain⟨n,a,e⟩:=h.mx j hj
  rw[List.take_length]at a
  have e1:Wv (fun k=>k∈order) 0 (Hs made)= fun _=>0:= by
    funext k
    unfold Wv
    split
    · rfl
    · rename_i q
      unfold Hs
      cases r:made k with
      | none=>rfl
      | some s=> exact absurd (hd k (by rw[r]; simp)) q
  rw[e1]at a
  rw[e,P6 a (Gv hj)];rfl
theorem CmI.noch (h:CmI ex m L L1 V V1 id t A) (hch: ∀i u,L.tr i=some u→u.parent≠id): ∀i u,L1.tr i=some u→u.parent≠id:= fun j u hu e=> by
  by_cases q:j=t.parent
  · subst q
    obtain⟨h0,r,_,h2⟩:=h.inv.rank
    have Zt:id≠0:= fun q=> by subst q; have :=h.tr; rw[h0]at this; cases this
    have hp0:t.parent≠0:= fun q=> by rw[q,h0]at hu; cases hu
    have a:=(h2 _ _ h.tr).resolve_left hp0
    have b:=(h2 _ _ hu).resolve_left (by rw[e]; exact Zt)
    rw[e]at b
    omega
  · exact hch j u ((h.ok.1 j q).symm.trans hu) e
end
theorem TM {w:World} {ex:Int→Int} {m:Nat} {b n Fr:Nat} {L:LvD} {V:VS} {F:Th} (hS:Sat w [WU b L,ZT L.sp n Fr V,F]) (hn:n≤60000000000) (hI:LvX ex m L V) (hx:NN ex) (hm:m<Wd) {p:Int} (hp:p=0∨ ∃tp,L.tr p=some tp) {s:Int} (hs:s≠0→1≤ex s) (k:KD) (wr:BitVec 64) (hg:p≠0→An (gvX (ZN (QG L V) p k) (Zf V s) wr)):
    Calls prog 64 #[ptrV b 0,intV p,X0 k,intV s,Zr wr] w (Ret fun v w'=> ∃L' V',StepX ex m L V (fun j=>ex j -dl s j) m 0 1 L' V'∧QG L' V'=gvR (QG L V) p k (Zf V s) wr∧OthK L L' p (fun q=>q=k)∧Sat w' [WU b L',ZT L'.sp (n+4) Fr V',F]):= by
  rcases hp with rfl | ⟨tp,htp⟩
  · refine(LV hS hn hI hx hs k wr).mono fun e w h=>h.mono fun v w h=> ?_
    obtain⟨L',V',a,b,c,d⟩:=h
    exact⟨L',V',a, by rw[b];unfold gvR; rw[if_pos U],c,d⟩
  · have h0:=hI.rank.none0 htp
    refine(LU hS hn hI hx hm htp hs k wr (hg h0)).mono fun e w h=>h.mono fun v w h=> ?_
    obtain⟨L',V',a,b,c,d⟩:=h
    exact⟨L',V',a, by rw[b];unfold gvR; rw[if_neg h0];rfl,c,d⟩
theorem En {w:World} {ex:Int→Int} {m:Nat} {b n Fr:Nat} {L:LvD} {V:VS} {F:Th} (hS:Sat w [WU b L,ZT L.sp n Fr V,F]) {c:Nat} (hc:SzLe L c) (hn:n+2*c≤60000000000) (hI:LvX ex m L V) (hx:NN ex) {p:Int} (hp:p=0∨ ∃tp,L.tr p=some tp) (ob:Bs):
    Calls prog 62 #[ptrV b 0,intV p,strV ob] w (Ret fun v w'=> ∃L' V',StepX ex m L V ex m 0 0 L' V'∧QG L' V'=Ja p (QG L V) ob∧OthK L L' p (fun _=>False)∧Sat w' [WU b L',ZT L'.sp (n+2*c) Fr V',F]):= by
  rcases hp with rfl | ⟨tp,htp⟩
  · refine(Ep hS hc hn hI hx ob).mono fun e w h=>h.mono fun v w h=> ?_
    obtain⟨L',V',a,b,c,d⟩:=h
    exact⟨L',V',a, by rw[b];unfold Ja; rw[if_pos U],c,d⟩
  · have h0:=hI.rank.none0 htp
    refine(Eo hS hc hn hI hx htp ob).mono fun e w h=>h.mono fun v w h=> ?_
    obtain⟨L',V',a,b,c,d⟩:=h
    exact⟨L',V',a, by rw[b];unfold Ja; rw[if_neg h0],c,d⟩
theorem Nl {w:World} {m:Nat} {b n Fr:Nat} {L:LvD} {V:VS} {F:Th} {ar:Option Addr} {cr:Nat} {order:List KD} (hS:Sat w [WU b L,ZT L.sp n Fr V,rowT kC (.slice ar order.length cr) order,F]) {c:Nat} (hn:n+2*c≤60000000000) (hI:LvI m L V) (hm:m<Wd) {id:Int} {t:TrD} (ht:L.tr id=some t) (hord: ∀k,k∈order↔t.lv k≠none) (hnd:order.Nodup) (hoc:order.length≤c):
    Calls prog 58 #[ptrV b 0,ptrV t.ad 0,.slice ar order.length cr] w (Ret fun v w'=>(∃V' mm made ex,v= .tuple #[.map (some mm),intV 0]∧MdI m L V V' t ex made order∧Sat w' [WU b L,ZT L.sp (n+2*c) Fr V',rowT kC (.slice ar order.length cr) order,Q6 X0 mm (KS made),F])∨(∃V',v= .tuple #[.map none,intV 6]∧LvI m L V'∧QG L V'=QG L V∧(∀c,AliveLe V c→Fr≤c+JP t order)∧(∀c,AliveLe V c→AliveLe V' (c+JP t order))∧Sat w' [WU b L,ZT L.sp (n+2*c) Fr V',rowT kC (.slice ar order.length cr) order,F])):= by
  refine(SB hS hn hI hm ht hord hnd hoc).mono fun e w h=>h.mono fun v w h=> ?_
  obtain⟨V',h⟩:=h
  rcases h with⟨mm,made,ex,h⟩ | h
  · exact .inl ⟨V',mm,made,ex,h⟩
  · exact .inr ⟨V',h⟩
