/- leaves: a commit, by contents -/
import Derived.Test.YtkcjfoaejijdoaaGreatDoorLv16
import Derived.Test.YtkcjfoaejijdoaaGreatDoorSk
import Derived.Test.YtkcjfoaejijdoaaGreatDoorLv19
set_option linter.unusedSectionVars false
set_option linter.unusedVariables false
set_option maxRecDepth 100000
set_option maxHeartbeats 80000000000
namespace Go.Proofs.YtkcjfoaejijdoaaGreatDoor
open Go.RowKit M
variable [Inhabited SlW]
def orR (y:LfA) (r:BitVec 64):LfA:={y with rd:=y.rd ||| (r&&& ~~~y.wr)}
noncomputable def rdS (p:Int) (t:TrA) (A:LvA) (k:KD):LvA:= match t.lv k with | none=>A | some x=> if x.rd=0#64 then A else Z6 A p k (orR (Zo A p k) x.rd)
noncomputable def WZ (p:Int) (A:LvA) (ob:Bs):LvA:= if p=0 then dropP A ob else dropT A p ob
def gvX (y:LfA) (c:Bs) (wr:BitVec 64):LfA:={y with own:=c,wr:=y.wr ||| wr}
def GD (A0:LvA) (p:Int) (k:KD) (x:LfA):Bs:=KZ (Wp A0 p k) x.own x.wr
noncomputable def gvS (A0:LvA) (p:Int) (t:TrA) (A:LvA) (k:KD):LvA:= match t.lv k with | none=>A | some x=> if x.wr=0#64 then A else if p=0 then{A with pres:=UA A.pres k (GD A0 p k x)}else Z6 A p k (gvX (Zo A p k) (GD A0 p k x) x.wr)
noncomputable def P8 (A:LvA) (id:Int) (t:TrA) (l:List KD) (obs:List Bs):LvA:=
  GE (l.foldl (gvS A t.parent t) (obs.foldl (WZ t.parent) (if t.parent=0 then A else l.foldl (rdS t.parent t) A))) id
def DrA (A:LvA):Prop:= ∀i t k x,A.tr i=some t→t.dr k.1=true→t.lv k=some x→x.wr=BitVec.allOnes 64
theorem HA {α β:Type} {f:α→β→α} {a:α} {l:List β} {i:Nat} {k:β} (h:l[i]? =some k):(l.take (i+1)).foldl f a=f ((l.take i).foldl f a) k:= by
  rw[List.take_add_one,h,List.foldl_append];rfl
theorem BT {now own:Bs} {wr:BitVec 64} (ho:own.length=64) (hn:now.length=64) (h: ∀j,j<64→wr.getLsbD j=false→now[j]? =own[j]?):KZ now own wr=own:= by
  apply List.ext_getElem?
  intro j
  by_cases hj:j<64
  · unfold KZ
    rw[List.getElem?_map,List.getElem?_range hj]
    simp only[Option.map_some]
    split
    · rw[getD_some (by omega)]
    · rename_i q
      rw[←h j hj (by simpa using q),getD_some (by omega)]
  · rw[List.getElem?_eq_none (by simp [KZ];omega),List.getElem?_eq_none (by omega)]
theorem GW {now own:Bs} (ho:own.length=64) (hn:now.length=64):KZ now own (BitVec.allOnes 64)=own:=
  BT ho hn fun j hj h=> by rw[BitVec.getLsbD_allOnes]at h; simp [hj]at h
theorem mgB_bit {now own:Bs} {wr:BitVec 64} {j:Nat} (hj:j<64) (hn:now.length=64) (h:wr.getLsbD j=false):(KZ now own wr)[j]? =now[j]? := by
  unfold KZ
  rw[List.getElem?_map,List.getElem?_range hj]
  simp only[Option.map_some]
  rw[if_neg (by rw[h];decide),getD_some (by omega)]
theorem UL {A A':LvA} {k:KD} (hp:A'.pres k=A.pres k) (ht: ∀i,(A'.tr i).map (fun t=>(t.parent,t.lv k,t.dr k.1))=(A.tr i).map (fun t=>(t.parent,t.lv k,t.dr k.1))): ∀n i,Yh A' n i k=Yh A n i k
  | 0,_=>rfl
  | n+1,i=> by
    unfold Yh
    have h:=ht i
    split
    · exact hp
    · cases q:A.tr i with
      | none=>
        cases q':A'.tr i with
        | none=>rfl
        | some t'=> rw[q,q']at h; simp at h
      | some t=>
        cases q':A'.tr i with
        | none=> rw[q,q']at h; simp at h
        | some t'=>
          rw[q,q']at h
          simp only[Option.map_some,Option.some.injEq,Prod.mk.injEq]at h
          obtain⟨h1,h2,h3⟩:=h
          dsimp only
          rw[h1,h2,h3]
          cases t.lv k with
          | some x=>rfl
          | none=>
            dsimp only
            split
            · rfl
            · exact UL hp ht n _
theorem GL {A:LvA} {p:Int} {k:KD} {t:TrA} (h0:p≠0) (ht:A.tr p=some t):(Zo A p k).own=Wp A p k:= by
  unfold Zo
  rw[ht]; dsimp only
  cases hx:t.lv k with
  | none=>rfl
  | some x=>unfold Wp; rw[Yh,if_neg h0,ht]; dsimp only; rw[hx]
theorem H8 {A:LvA} {p i:Int} {k:KD} {y:LfA} (h:i≠p):(Z6 A p k y).tr i=A.tr i:= by
  unfold Z6
  cases A.tr p with
  | none=>rfl
  | some t=> dsimp only; rw[Q7 h]
theorem RU {A:LvA} {p:Int} {k:KD} {y:LfA}:(Z6 A p k y).pres=A.pres:= by
  unfold Z6
  cases A.tr p<;>rfl
theorem BE {A:LvA} {p:Int} {k j:KD} {y:LfA} {t:TrA} (h0:p≠0) (ht:A.tr p=some t):Wp (Z6 A p k y) p j= if j=k then y.own else Wp A p j:= by
  split
  · rename_i e
    subst e
    unfold Wp
    rw[Yh,if_neg h0,ZR ht]
    dsimp only
    rw[Qy]
    dsimp only
    rw[Qy]
  · rename_i e
    refine UL (by rw[RU]) (fun i=> ?_) _ _
    by_cases e2:i=p
    · subst e2
      rw[ZR ht,ht]
      dsimp only
      rw[Qy]
      simp only[Option.map_some]
      rw[Q7 e]
    · rw[H8 e2]
theorem Do {A:LvA} {p:Int} {ob:Bs} {t:TrA} (ht:A.tr p=some t):dropT A p ob={A with tr:=Xi A.tr p (some {t with lv:=Zp (fun j=>j.1=ob) t.lv,dr:=Wv t.dr ob})}:= by unfold dropT; rw[ht]
theorem Pc {A:LvA} {p:Int} {j:KD} {ob:Bs} (h:j.1≠ob):Wp (dropT A p ob) p j=Wp A p j:= by
  cases ht:A.tr p with
  | none=>unfold dropT; rw[ht]
  | some t=>
    rw[Do ht]
    unfold Wp
    refine UL (A:=A) (A':={A with tr:=Xi A.tr p (some {t with lv:=Zp (fun j=>j.1=ob) t.lv,dr:=Wv t.dr ob})}) U (fun i=> ?_) _ _
    by_cases e2:i=p
    · subst e2
      dsimp only
      rw[Qy,ht]
      simp only[Option.map_some]
      have e1:Zp (fun j=>j.1=ob) t.lv j=t.lv j:= by unfold Zp; rw[if_neg h]
      have e3:Wv t.dr ob j.1=t.dr j.1:= by unfold Wv; rw[if_neg h]
      rw[e1,e3]
    · dsimp only; rw[Q7 e2]
theorem Nj {A:LvA} {p i:Int} {ob:Bs} (h:i≠p):(dropT A p ob).tr i=A.tr i:= by
  unfold dropT
  cases A.tr p with
  | none=>rfl
  | some t=> dsimp only; rw[Q7 h]
structure SeI (A0 A:LvA) (id p:Int) (t:TrA) (obs:List Bs) (gv:List KD):Prop where
  tr:A.tr id=some t
  par:p≠0→ ∃tp,A.tr p=some tp
  sees:p≠0→ ∀k,k∉gv→k.1∉obs→Wp A p k=Wp A0 p k
  oth: ∀i,i≠p→A.tr i=A0.tr i
theorem SeI.start {A0:LvA} {id p:Int} {t:TrA} (ht:A0.tr id=some t) (hp:p≠0→ ∃tp,A0.tr p=some tp):SeI A0 A0 id p t [] []:=⟨ht,hp, fun _ _ _ _=>rfl, fun _ _=>rfl⟩
theorem SeI.read {A0 A:LvA} {id p:Int} {t:TrA} (h:SeI A0 A id p t [] []) (hne:id≠p) (h0:p≠0) (k:KD):SeI A0 (rdS p t A k) id p t [] []:= by
  unfold rdS
  cases hx:t.lv k with
  | none=> exact h
  | some x=>
    dsimp only
    split
    · exact h
    · obtain⟨tp,htp⟩:=h.par h0
      refine⟨by rw[H8 hne]; exact h.tr, fun _=>⟨_, by rw[ZR htp]; exact Qy⟩, fun _ j hj hb=> ?_, fun i hi=> by rw[H8 hi]; exact h.oth i hi⟩
      rw[BE h0 htp]
      split
      · rename_i e
        subst e
        rw[show(orR (Zo A p j) x.rd).own=(Zo A p j).own from rfl,GL h0 htp]
        exact h.sees h0 j hj hb
      · exact h.sees h0 j hj hb
theorem SeI.drop {A0 A:LvA} {id p:Int} {t:TrA} {obs:List Bs} {ob:Bs} (h:SeI A0 A id p t obs []) (hne:id≠p):SeI A0 (WZ p A ob) id p t (obs++[ob]) []:= by
  unfold WZ
  by_cases h0:p=0
  · rw[if_pos h0]
    exact⟨h.tr, fun q=>absurd h0 q, fun q=>absurd h0 q,h.oth⟩
  · rw[if_neg h0]
    obtain⟨tp,htp⟩:=h.par h0
    refine⟨by rw[Nj hne]; exact h.tr, fun _=>⟨_, by rw[Do htp]; exact Qy⟩, fun _ j hj hb=> ?_, fun i hi=> by rw[Nj hi]; exact h.oth i hi⟩
    rw[Pc (fun e=>hb (by simp [e]))]
    exact h.sees h0 j hj fun q=>hb (by simp [q])
theorem SeI.give {A0 A:LvA} {id p:Int} {t:TrA} {obs:List Bs} {gv:List KD} (h:SeI A0 A id p t obs gv) (hne:id≠p) (k:KD):SeI A0 (gvS A0 p t A k) id p t obs (gv++[k]):= by
  have up:SeI A0 A id p t obs (gv++[k]):=⟨h.tr,h.par, fun h0 j hj hb=>h.sees h0 j (fun q=>hj (by simp [q])) hb,h.oth⟩
  unfold gvS
  cases hx:t.lv k with
  | none=> exact up
  | some x=>
    dsimp only
    split
    · exact up
    · split
      · rename_i h0
        exact⟨h.tr, fun q=>absurd h0 q, fun q=>absurd h0 q,h.oth⟩
      · rename_i h0
        obtain⟨tp,htp⟩:=h.par h0
        refine⟨by rw[H8 hne]; exact h.tr, fun _=>⟨_, by rw[ZR htp]; exact Qy⟩, fun _ j hj hb=> ?_, fun i hi=> by rw[H8 hi]; exact h.oth i hi⟩
        rw[BE h0 htp,if_neg (fun e=>hj (by simp [e]))]
        exact h.sees h0 j (fun q=>hj (by simp [q])) hb
theorem SeI.ag {A0 A:LvA} {id p:Int} {t:TrA} {obs:List Bs} {gv:List KD} {k:KD} {x:LfA} (h:SeI A0 A id p t obs gv) (h0:p≠0) (hg:AgL A) (hk:k∉gv) (hl:(Wp A0 p k).length=64) (hd:k.1∈obs→x.wr=BitVec.allOnes 64):NH (gvX (Zo A p k) (GD A0 p k x) x.wr):= fun j hj hw=> by
  have hw':(Zo A p k).wr.getLsbD j=false∧x.wr.getLsbD j=false:= by
    have :((Zo A p k).wr ||| x.wr).getLsbD j=false:=hw
    rw[BitVec.getLsbD_or,Bool.or_eq_false_iff]at this
    exact this
  obtain⟨tp,htp⟩:=h.par h0
  have hb:k.1∉obs:= fun q=> by
    have h2:=hw'.2
    rw[hd q,BitVec.getLsbD_allOnes]at h2
    simp [hj]at h2
  show(Zo A p k).base[j]? =(GD A0 p k x)[j]?
  rw[hg.tou j hj hw'.1,GL h0 htp,h.sees h0 k hk hb]
  exact(mgB_bit hj hl hw'.2).symm
end Go.Proofs.YtkcjfoaejijdoaaGreatDoor
namespace Go.Proofs.YtkcjfoaejijdoaaGreatDoor
open Go.RowKit M
variable [Inhabited SlW]
def ItS (g:Bs→Option Value) (gf:Nat) (caps:List Value) (It:Th):Prop:= ∀(l:Nat) (J:List Bs→Th) (X:Th) (w:World),Sat w [J [],It,X]→Hh Tryz.prog l Js (okC g) J→Calls Tryz.prog gf (.func (.yield l) #[] #[]::caps).toArray w (Ret fun _ w'=> ∃ks,AllC g ks∧Sat w' [J ks,It,X])
def JS (l D b:Nat) (rec:Loop) (ks:List Bs):Th:=Ca fun v:Value=>starL [Jk l rec,Ws D,Q3 b [v],rowT stC v ks]
theorem appS {w:World} {g:Bs→Option Value} {It F:Th} {gf:Nat} {caps:List Value} (hS:Sat w [It,F]) (hcal:QE Tryz.prog gf=true) (hIt:ItS g gf caps It) (hlen: ∀ks,Came g ks→ks.length≤100000000000):
    Calls Tryz.prog 166 [.slice none 0 0,.func (.func gf) #[] caps.toArray].toArray w (Ret fun v w'=> ∃ks,AllC g ks∧Sat w' [rowT stC v ks,It,F]):= by
 refine He Tryz.func166 U Tryz.ntmps166 U ?_
 refine Qd (Qa (Zd hS U U U ?_))
 intro b1 w1 hS1
 refine Qe U U (Qf (Qc (Qd (Qd (Qa (Qb U U (Qf (Qc (Qv (YW (caps:=caps) U hcal ?_))))))))))
 intro rec hr1 hr2 hr3 hr4 hr5 htn htf
 have hE:=((hS1.enter_loop rec).row_nil stC)
 have hE2:=hE.sp [1,2,3,0] U
 have hJ0:=Sat.ex_intro (f:= fun v:Value=>starL [Jk _ _,Ws _,Q3 _ [v],rowT stC v []]) _ (Sat.fold (As:=[Jk _ _,Ws _,Q3 _ [_],rowT stC _ []]) hE2)
 refine(hIt _ (JS _ _ _ _) _ _ (hJ0.join U) ?_).mono ?_
 ·intro ks k R w2 hok hw2
  obtain⟨v,hw3⟩:=hw2.ex
  have hw4:=hw3.flat; dsimp only[R8,R7]at hw4
  have hl1:=hlen _ hok
  simp only[List.length_append,List.length_cons,List.length_nil]at hl1
  refine Bn (hw4.loop 0 rfl) hr1 hr2 hr3 hr4 hr5 htn htf rfl (by intro o ho c; simp at ho; subst ho; simp) (by intro o ho c; simp at ho; rcases ho with rfl | rfl | rfl | rfl | rfl<;> simp) ?_
  intro QA hA
  refine Qe U U (Qf (hA _ _ (hw4.loop 0 U) ?_))
  intro QB hB
  have h1v:v.oneCell'=true:=hw4.own_one 3 U
  have hw5:=hw4.loop_put 0 U (rec':={rec with state:= .busy}); dsimp only[List.set]at hw5
  refine Qn U R4 (hw5.cell 2 U U) U (Qb U U (Zf stC [k] hw5 U Tryz.underlying61 ifz_9 U U U U (by rfl) rfl ?_))
  intro b3 w3 hw6
  refine ZM stC 4 hw6 U U U (hw6.rd 0 U (by simp)) Tryz.underlying61 Tryz.underlying61 (by intro k hk; cases hk) ifo_9 U (by simp;omega) U (by simp;omega) ?_
  intro v4 w4 hw7; dsimp only[List.set]at hw7
  have h1v4:v4.oneCell'=true:=hw7.own_one 4 U
  refine Q6 hw7 U U sz_61 h1v4 (i:=3) U (by simp) ?_
  intro w5 hw8; dsimp only[List.set]at hw8
  refine Qf (hB _ _ (hw8.loop 1 U) ?_)
  have hw9:=hw8.loop_put 1 U (rec':=rec); dsimp only[List.set]at hw9
  exact(Sat.ex_intro (f:= fun v:Value=>starL [Jk _ _,Ws _,Q3 _ [v],rowT stC v (ks++[k])]) v4 (Sat.fold (As:=[Jk _ _,Ws _,Q3 _ [_],rowT stC _ _]) (hw9.pick [1,2,3,4,5] U)))
 ·rintro e w3 ⟨v0,rfl,ks,hall,hw3⟩
  obtain⟨v,hw4⟩:=hw3.ex
  have hw5:=hw4.flat; dsimp only[R8,R7]at hw5
  refine⟨⟨v0,rfl⟩,rec,hw5.loop 0 U, by rw[hr1]; simp,hr2, ?_⟩
  intro a ha1 ha2
  have hw6:=hw5.loop_put 0 U (rec':={rec with state:= .exhausted}); dsimp only[List.set]at hw6
  obtain⟨hD,hw7⟩:=hw6.defer_put (o:= .deferred none) 1 rfl
  dsimp only[List.eraseIdx]at hw7
  refine B1 (n:=13) (by rw[ha1]; exact htn) (by rw[ha1]; exact htf) ha2 U R4 (hw6.cell 2 U U) hD U U U ?_
  exact⟨_,rfl,ks,hall,hw7.pick [2,3,4] U⟩
def keysTS (c b:Nat) (g:Bs→Option Value):Th:=starL [Q3 c [.map (some b)],Q5 Js b g]
theorem itS (c b:Nat) (g:Bs→Option Value):ItS g 118 [ptrV c 0] (keysTS c b g):= fun l J X w hS hY=> by
  have h1:=(hS.perm (List.Perm.swap _ _ _)).flat; dsimp only[R8,R7]at h1
  refine(kd_it (h1.reorder [2,0,1,3] U) hY).mono fun e w' h=>h.mono fun v w' ⟨ks,h2,h3⟩=>⟨ks,h2, ?_⟩
  exact(Sat.fold (As:=[Q3 c [.map (some b)],Q5 Js b g]) (h3.reorder [1,2,0,3] U)).perm (List.Perm.swap _ _ _)
theorem sortS0 {w:World} {v:Value} {l:List Bs} {As:List Th} (hS:Sat w (rowT stC v l::As)) (hl:l.length<4611686018427387904):Calls Tryz.prog 117 #[v] w (Ret fun u w'=>u= .tuple #[]∧Sat w' (rowT stC v (W2 l)::As)):=
  PB Tryz.slices_Sort_string Tryz.slices_Sort_string_none hS hl
theorem colS {w:World} {g:Bs→Option Value} {It F:Th} {gf:Nat} {caps:List Value} (hS:Sat w [It,F]) (hcal:QE Tryz.prog gf=true) (hIt:ItS g gf caps It) (hlen: ∀ks,Came g ks→ks.length≤100000000000):
    Calls Tryz.prog 116 #[.func (.func gf) #[] caps.toArray] w (Ret fun v w'=> ∃ks,AllC g ks∧Sat w' [rowT stC v ks,It,F]):= by
 refine Qm Tryz.func116 U Tryz.ntmps116 U ?_
 refine Qd (Qa (Qe U U (Qf (Qc (Qd (Qa (Qb U U (Qw cal_166 U (appS (hS.sp [0] U) hcal hIt hlen) U ?_))))))))
 rintro _ w1 ⟨ks,hks,hS1⟩
 replace hS1:=hS1.jn U U
 have h1v:=hS1.own_one 0 U
 exact Qe U U (Qf (Qc (Qu (QR (.inr U) U U (⟨_,rfl,ks,hks,hS1⟩)))))
theorem NV {w:World} {g:Bs→Option Value} {It F:Th} {gf:Nat} {caps:List Value} (hS:Sat w [It,F]) (hcal:QE Tryz.prog gf=true) (hIt:ItS g gf caps It) (hlen: ∀ks,Came g ks→ks.length≤100000000000):
    Calls Tryz.prog 51 #[.func (.func gf) #[] caps.toArray] w (Ret fun v w'=> ∃ks,AllC g ks∧Sat w' [rowT stC v (W2 ks),It,F]):= by
 refine Qm Tryz.func51 U Tryz.ntmps51 U ?_
 refine Qd (Qa (Qe U U (Qf (Qc (Qd (Qa (Qb U U (Qw cal_116 U (colS (hS.sp [0] U) hcal hIt hlen) U ?_))))))))
 rintro _ w1 ⟨ks,hks,hS1⟩
 replace hS1:=hS1.jn U U
 have h1v:=hS1.own_one 0 U
 have hln:=hlen _ (Came.of_all hks)
 refine Qe U U (Qf (Qc (Qd (Qa (Qb U U (Qw cal_117 U (sortS0 (hS1.sp [0] U) (by omega)) U ?_))))))
 rintro _ w2 ⟨rfl,hS2⟩
 replace hS2:=hS2.jn U U
 clear hS1
 exact Qf (Qc (Qd (Qa (Qb U U (Qe U U (Qf (Qc (Qu (QR (.inr U) U U (⟨_,rfl,ks,hks,hS2⟩))))))))))
end Go.Proofs.YtkcjfoaejijdoaaGreatDoor
namespace Go.Proofs.YtkcjfoaejijdoaaGreatDoor
open Go.RowKit M
variable [Inhabited SlW]
section
variable {w:World} {As:List Th}
theorem So {T:Int→Option TrD} {i:Int} {t:TrD} {k:KD} {x:LfD} (hS:Sat w As) (j:Nat) (hj:As[j]? =some (Zj HK T)) (ht:T i=some t) (hx:t.lv k=some x) (q:Nat) {v:Value} (hv:(lfV x)[q]? =some v):w.cell? ⟨x.ad,q,none⟩=some v:= by
  have h1:=ZB (hS.pull j hj) ht
  have h2:=JO (h1.perm ((List.Perm.cons _ (List.Perm.swap _ _ _)).trans (List.Perm.swap _ _ _))) hx
  exact h2.cell 0 U hv
theorem V6 {b:Nat} {L:LvD} {i:Int} {t:TrD} (hS:Sat w As) (j:Nat) (hj:As[j]? =some (XY b L)) (ht:L.tr i=some t) (q:Nat) {v:Value} (hv:(trV t)[q]? =some v):w.cell? ⟨t.ad,q,none⟩=some v:= by
  have h1:=Xy (hS.pull j hj)
  have h2:=ZB (h1.pull 3 U) ht
  exact h2.cell 0 U hv
theorem CC {b:Nat} {L:LvD} {i:Int} {t:TrD} {k:KD} {x:LfD} (hS:Sat w As) (j:Nat) (hj:As[j]? =some (XY b L)) (ht:L.tr i=some t) (hx:t.lv k=some x) (q:Nat) {v:Value} (hv:(lfV x)[q]? =some v):w.cell? ⟨x.ad,q,none⟩=some v:=
  So (Xy (hS.pull j hj)) 3 U ht hx q hv
end
theorem P5 {w:World} {b n Fr:Nat} {L:LvD} {V:VS} {F:Th} (hS:Sat w [XY b L,XG L.sp n Fr V,F]) (hn:n≤60000000000) {id:Int} (ht:L.tr id=none):
    Calls Tryz.prog 13 #[ptrV b 0,intV id] w (Ret fun v w'=>v=intV 4∧Sat w' [XY b L,XG L.sp n Fr V,F]):= by
 replace hS:=Xy hS
 refine Qm Tryz.func13 U Tryz.ntmps13 U ?_
 exact Qd (Qa (Qe U U (Qf (Qc (Qd (Qa (Qb U U (Qj U U (Qg U Z7 U (Qn U WN (hS.cell 0 U U) U (Qb U U (XT (k:=id) 2 hS keysInt Tryz.underlying82 U U U Yu (u:= .pointer none) (Vw ht) U (Qe U U (Qf (Qc (Qd (Qd (Qa (Qb U U (Wy Tryz.underlying94 U U U (Qf (Qc (Qh [1,0,4,5,29] U (Xf U (Qd (Qa (Qe U U (Qf (Qc (Qu (Qp (QR (.inr U) U U (⟨_,rfl,rfl,QZ (hS.pick [0,1,2,3,4,5,6] U)⟩)))))))))))))))))))))))))))))))))
theorem P6 {w:World} {b n Fr:Nat} {L:LvD} {V:VS} {F:Th} (hS:Sat w [XY b L,XG L.sp n Fr V,F]) (hn:n≤60000000000) {id:Int} {t:TrD} (ht:L.tr id=some t) (hb: ∃i u,L.tr i=some u∧u.parent=id):
    Calls Tryz.prog 13 #[ptrV b 0,intV id] w (Ret fun v w'=>v=intV 8∧Sat w' [XY b L,XG L.sp n Fr V,F]):= by
 replace hS:=Xy hS
 refine Qm Tryz.func13 U Tryz.ntmps13 U ?_
 refine Qd (Qa (Qe U U (Qf (Qc (Qd (Qa (Qb U U (Qj U U (Qg U Z7 U (Qn U WN (hS.cell 0 U U) U (Qb U U (XT (k:=id) 2 hS keysInt Tryz.underlying82 U U U Yu (u:=ptrV t.ad 0) (Zw ht) U (Qe U U (Qf (Qc (Qd (Qd (Qa (Qb U U (ZO Tryz.underlying94 U U U (Qf (Qc (Qh [1,0,4,5,29] U (QT U (Qt (Qc (Qd (Qd (Qa (Qb U U (Qj U U (Qg U Z7 U (Qn U WN (hS.cell 0 U U) U (Wm 2 hS Tryz.underlying82 U U U ?_))))))))))))))))))))))))))))))))))
 intro RR left0 wR hSR; dsimp only[List.set]at hSR
 refine Qf (Qc (Qv (Xb (fun K0 E0 W0=> ∃(dn:Int→Prop) (cur:Option Int) (left:Nat),K0=left∧E0=[(0,ptrV b 0),(1,intV id),(5,ptrV t.ad 0),(34,ptrV RR 0)]∧Sat W0 [Q3 b [ptrV L.sp 0,.map (some L.mp),.map (some L.mt),intV L.cur,.map (some L.ms)],Q5 Xo L.mp (Zg L.pres),Wq QO L.mt RR (Xv TrD.ad L.tr) dn cur left,Zj HK L.tr,Q5 QO L.ms (ZZ L.sh),XG L.sp n Fr V,F]∧(∀i u,dn i→L.tr i=some u→u.parent≠id)) (L0:=[(0,_),(1,_),(5,_),(34,_)]) (left0) (VN U U U U) ⟨_,_,_,rfl,rfl,hSR.pick [0,1,2,3,4,5,6] U, fun _ _ h=>h.elim⟩ ?_)))
 rintro _ _ w1 ⟨dn,cur,left,rfl,rfl,hS1,hnc⟩
 refine Qd (Qa (WP 2 hS1 keysInt.inj U U U (fun hdone=> ?_) (fun i v left2 wN hleft hgk hnd hSN=> ?_)))
 ·exact(absurd hb (fun ⟨i,u,h1,h2⟩=>hnc i u (hdone i (ptrV u.ad 0) (by unfold Xv; rw[h1];rfl)) h1 h2))
 dsimp only[List.set]at hSN
 obtain⟨u,hu,rfl⟩:=Uv hgk
 refine Qq U U U (Qf (Qc (Qd (Xf U (Qt (Qc (Qv (Qd (Qa (Wn 2 hSN U hgk U U (Qq U U U (Qe U U (Qf (Qc (Qd (Qa (Qb U U (Qj U U (Qg U JT U (Qn U QL ((ZB (hSN.pull 3 U) hu).cell 0 U U) U (Qb U U (Xd U U U (Qf (Qc (Qh [34,5,1,0,44] U (Qs U (fun h2=> ?_) (fun h2=> ?_)))))))))))))))))))))))))))
 ·refine Qd (Qa (Qe U U (Qf (Qc (Qu (Qz (Qp (Qz (Qp (QR (.inr U) U U ?_))))))))))
  have hz:=ZQ (hSN.pick [2,0,1,3,4,5,6] U)
  exact⟨_,rfl,rfl,QZ (hz.reorder [1,2,0,3,4,5,6] U)⟩
 have hup:u.parent≠id:=h2
 refine Qt (Qk ?_)
 exact Q0 (L1:=[(0,_),(1,_),(5,_),(34,_)]) (VN U U U U) (k1:=left2) (by omega) ⟨_,_,_,rfl,rfl,hSN.pick [0,1,2,3,4,5,6] U, fun q y hq hy=>hq.elim (fun h=>hnc q y h hy) (fun h=> by subst h; rw[hu]at hy; cases hy; exact hup)⟩
end Go.Proofs.YtkcjfoaejijdoaaGreatDoor
namespace Go.Proofs.YtkcjfoaejijdoaaGreatDoor
open Go.RowKit M
variable [Inhabited SlW]
noncomputable def Hb (sp mp mt ms:Nat):LvD:=⟨sp,mp,mt,ms, fun _=>0, fun _=>none,0, fun _=>false⟩
def Pi:LvA:=⟨fun _=>zer, fun _=>none⟩
theorem KY {sp mp mt ms:Nat}:LvI 0 (Hb sp mp mt ms) (fun _=>none)∧Q1 (Hb sp mp mt ms) (fun _=>none)=Pi∧AliveLe (fun _=>none) 0∧SzLe (Hb sp mp mt ms) 0∧DrA Pi:= by
  have hf: ∀p,QJ (Hb sp mp mt ms) p=0:= fun p=> by cases p<;>rfl
  have e1:Q1 (Hb sp mp mt ms) (fun _=>none)=Pi:=rfl
  refine⟨⟨⟨fun s hs=>⟨0,Uk (f:= fun _=>0) (fun p=> by rw[hf]) (Bh hs),rfl⟩, fun s x h=> by cases h⟩,⟨rfl, fun _=>0, fun _=>Nat.le_refl _, fun i t h=> by cases h⟩, ?_⟩,e1,⟨[], by simp, fun j h=>absurd U h⟩,⟨[], by simp, fun k h=>absurd U h, fun i t k x h=> by cases h⟩, fun i t k x h=> by cases h⟩
  intro i t k x h
  cases h
theorem Le {w:World} {b p mp mt ms:Nat} {As:List Th} (h:Sat w (Q3 b [ptrV p 0,.map (some mp),.map (some mt),intV 0,.map (some ms)]::Q5 Xo mp (fun _=>none)::Q5 QO mt (fun _=>none)::Zj HK (fun _:Int=>none)::Q5 QO ms (fun _=>none)::As)):
    Sat w (Q3 b [ptrV (Hb p mp mt ms).sp 0,.map (some (Hb p mp mt ms).mp),.map (some (Hb p mp mt ms).mt),intV (Hb p mp mt ms).cur,.map (some (Hb p mp mt ms).ms)]::Q5 Xo (Hb p mp mt ms).mp (Zg (Hb p mp mt ms).pres)::Q5 QO (Hb p mp mt ms).mt (Xv TrD.ad (Hb p mp mt ms).tr)::Zj HK (Hb p mp mt ms).tr::Q5 QO (Hb p mp mt ms).ms (ZZ (Hb p mp mt ms).sh)::As):= by
  have e1:Zg (Hb p mp mt ms).pres= fun _=>none:=FV
  have e2:ZZ (Hb p mp mt ms).sh= fun _=>none:=TS
  rw[e1,e2]
  exact h
theorem CB {w:World} {p:Nat} {F:Th} (hS:Sat w [F]):
    Calls Tryz.prog 16 #[ptrV p 0] w (Ret fun v w'=> ∃b mp mt ms,v=ptrV b 0∧Sat w' [XY b (Hb p mp mt ms),F]):= by
 refine Qm Tryz.func16 U Tryz.ntmps16 U ?_
 refine Qd (Qa (Qe U U (Qf (Qc (Qd (Qa (Qb U U (ZN Xo hS U ?_))))))))
 intro mp w1 hS1
 refine ZN QO hS1 U ?_
 intro mt w2 hS2
 clear hS1
 refine ZN QO hS2 U ?_
 intro ms w3 hS3
 clear hS2
 refine DV (vs':=[ptrV p 0,.map (some mp),.map (some mt),intV 0,.map (some ms)]) U DG asz_85 zr_85 U U U (Zd hS3 U U U ?_)
 intro b w4 hS4
 clear hS3
 refine Qe U U (Qf (Qc (Qu (QR (.inr U) U U ?_))))
 have hA:=NB (κ:=Int) HK (hS4.pick [0,3,2,1,4] U)
 exact⟨_,rfl,b,mp,mt,ms,rfl,QZ (L:=Hb p mp mt ms) (Le (hA.reorder [1,2,3,0,4,5] U))⟩
theorem EI {w:World} {F:Th} (hS:Sat w [F]) (hsl:(default:SlW).v=4096):
    Calls Tryz.prog 9 #[] w (Ret fun v w'=> ∃b p mp mt ms,v= .tuple #[ptrV b 0,ptrV p 0]∧Sat w' [XY b (Hb p mp mt ms),XG p 0 256 (fun _=>none),F]):= by
 refine Qm Tryz.func9 U Tryz.ntmps9 U ?_
 refine Qd (Qa (Qe U U (Qe U U (Qf (Qc (Qd (Qa ?_)))))))
 refine Qw OV U (stNew (hS.sp [] U) 256 4096 4096 (by rw[hsl];rfl)) U ?_
 rintro _ w1 ⟨p,rfl,hS1⟩
 replace hS1:=hS1.jn U U
 refine Qe U U (Qf (Qc (Qd (Qd (Qa (Qb U U (ZO Tryz.underlying25 U U U (Qf (Qc (QT U (Qt (Qc (Qd (Qa (Qb U U (Qw OU U (CB (hS1.sp [] U)) U ?_))))))))))))))))
 rintro _ w2 ⟨b,mp,mt,ms,rfl,hS2⟩
 replace hS2:=hS2.jn U U
 clear hS1
 exact Qb U U (Qe U U (Qe U U (Qf (Qc (Qu (WW (.inr U) U U U (⟨_,rfl,b,p,_,_,_,rfl,hS2.pick [0,1,2] U⟩)))))))
end Go.Proofs.YtkcjfoaejijdoaaGreatDoor
namespace Go.Proofs.YtkcjfoaejijdoaaGreatDoor
open Go.RowKit M
variable [Inhabited SlW]
def allR (y:LfA):LfA:={y with rd:=y.rd ||| (BitVec.allOnes 64&&& ~~~y.wr)}
open Classical in
noncomputable def cpRd (id:Int) (ob:Bs) (A:LvA) (p:Int):LvA:= if id≠0∧0≤p∧p<256 then Z6 A id (ob,p) (allR (Zo A id (ob,p)))else A
def cpC (A:LvA) (id:Int) (ob:Bs) (p:Int):Bs:= if 0≤p∧p<256 then Wp A id (ob,p)else zer
noncomputable def cpWr (id:Int) (A:LvA) (q:KD×Bs):LvA:= if id=0 then{A with pres:=UA A.pres q.1 q.2}else Z6 A id q.1 (allX (Zo A id q.1) q.2)
theorem FL {A:LvA} {id:Int} {ob:Bs} {p:Int} {t:TrA} (ht:id≠0→A.tr id=some t) (j:KD):Wp (cpRd id ob A p) id j=Wp A id j:= by
  unfold cpRd
  split
  · rename_i h
    rw[BE h.1 (ht h.1)]
    split
    · rename_i e
      subst e
      rw[show(allR (Zo A id (ob,p))).own=(Zo A id (ob,p)).own from rfl,GL h.1 (ht h.1)]
    · rfl
  · rfl
theorem cpRd_tr {A:LvA} {id:Int} {ob:Bs} {p:Int} (ht: ∃t,A.tr id=some t): ∃t,(cpRd id ob A p).tr id=some t:= by
  unfold cpRd
  split
  · obtain⟨t,ht⟩:=ht
    exact⟨_, by rw[ZR ht]; exact Qy⟩
  · exact ht
def NoI (ex:Int→Int) (l:List Int):Prop:= ∀j,j≠0→ex j=(l.count j:Int)
theorem NoI.nn {ex:Int→Int} {l:List Int} (h:NoI ex l):NN ex:= fun j hj=> by rw[h j hj];omega
theorem NoI.add {ex:Int→Int} {l:List Int} {s:Int} (h:NoI ex l):NoI (fun j=>ex j+dl s j) (l++[s]):= fun j hj=> by
  show ex j+dl s j=_
  rw[h j hj,List.count_append]
  by_cases e:j=s
  · subst e; rw[Wt]; simp
  · have e2: ¬s=j:= fun q=>e q.symm
    rw[Ja e]; simp [List.count_cons,e2]
theorem NoI.ge {ex:Int→Int} {l:List Int} {s:Int} (h:NoI ex (s::l)) (h0:s≠0):1≤ex s:= by
  rw[h s h0]; simp;omega
theorem NoI.tail {ex:Int→Int} {l:List Int} {s:Int} (h:NoI ex (s::l)):NoI (fun j=>ex j -dl s j) l:= fun j hj=> by
  show ex j -dl s j=_
  rw[h j hj]
  by_cases e:j=s
  · subst e; rw[Wt]; simp
  · have e2: ¬s=j:= fun q=>e q.symm
    rw[Ja e]; simp [List.count_cons,e2]
theorem EN {V:VS} {s:Int} (h0:V 0=none):Ha V s=refW V s:= by
  unfold refW
  split
  · rename_i e
    subst e
    unfold Ha; rw[h0]
  · rfl
theorem LvX.held {ex:Int→Int} {m:Nat} {L:LvD} {V:VS} {s:Int} (h:LvX ex m L V) (hs:s≠0→1≤ex s):Xq V s:= by
  by_cases h0:s=0
  · exact .inl h0
  · obtain⟨n,a,b⟩:=h.ref.1 s h0
    have :=hs h0
    exact .inr (h.ref.alive_of (by omega))
theorem U0 {ex:Int→Int} {m:Nat} {L:LvD} {V:VS} {s:Int} {l:List Int} (h:LvX ex m L V) (hn:NoI ex l) (ha:Xq V s):
    StepX ex m L V (fun j=>ex j+dl s j) m 0 0 L (Ha V s)∧NoI (fun j=>ex j+dl s j) (l++[s])∧Q1 L (Ha V s)=Q1 L V:= by
  rw[EN h.zero]
  obtain⟨h1,h2⟩:=h.refW ha
  exact⟨⟨h1,rfl, fun c q=>q.refW, fun c q=>q,Pgs.ref⟩,hn.add,h2⟩
theorem KG {ex:Int→Int} {m:Nat} {L:LvD} {V:VS} {s:Int} {l:List Int} (h:LvX ex m L V) (hn:NoI ex (s::l)):
    StepX ex m L V (fun j=>ex j -dl s j) m 0 0 L (Zb V s)∧NoI (fun j=>ex j -dl s j) l∧Q1 L (Zb V s)=Q1 L V:= by
  obtain⟨h1,h2⟩:=h.unr hn.nn fun h0=>hn.ge h0
  exact⟨⟨h1,rfl, fun c q=>q.unr, fun c q=>q,Pgs.unr h.zero⟩,hn.tail,h2⟩
end Go.Proofs.YtkcjfoaejijdoaaGreatDoor
namespace Go.Proofs.YtkcjfoaejijdoaaGreatDoor
open Go.RowKit M
variable [Inhabited SlW]
def P4 (L:LvD) (ob:Bs) (p:Int):Int:= if 0≤p∧p<256 then L.pres (ob,p)else 0
def G3 (L:LvD) (ob:Bs) (p0:Int) (j:Nat):List Int:=(List.range j).map fun q:Nat=>P4 L ob (p0+(q:Int))
theorem Ds {L:LvD} {ob:Bs} {p0:Int} {j:Nat}:G3 L ob p0 (j+1)=G3 L ob p0 j++[P4 L ob (p0+(j:Int))]:= by simp [G3,List.range_succ]
theorem Hd {L:LvD} {ob:Bs} {p0:Int} {j:Nat}:(G3 L ob p0 j).length=j:= by simp [G3]
theorem Gf {ex:Int→Int} {m:Nat} {L:LvD} {V:VS} (h:LvX ex m L V) (hx:NN ex) (ob:Bs) (p:Int):Xq V (P4 L ob p):= by
  unfold P4
  split
  · exact h.aliveX hx (.inl (ob,p))
  · exact .inl U
noncomputable def O1 (p:KD→Int) (to:Bs) (base:Int) (l:List Int):Nat→(KD→Int)
  | 0=>p
  | q+1=>Zv (O1 p to base l q) (to,base+(q:Int)) (l.getD q 0)
noncomputable def LC (A:LvA) (to:Bs) (base:Int) (f:Nat→Bs):Nat→LvA
  | 0=>A
  | q+1=>cpWr 0 (LC A to base f q) ((to,base+(q:Int)),f q)
theorem MB {l:List Int} {q:Nat} {s:Int} (h:l[q]? =some s):l.drop q=s::l.drop (q+1):= by
  obtain⟨h1,h2⟩:=XR h
  rw[List.drop_eq_getElem_cons h1,h2]
theorem Ts {l:List Int} {q:Nat} {s:Int} (h:l[q]? =some s):l.getD q 0=s:= by simp [List.getD,h]
theorem Nw {w:World} {m:Nat} {b n Fr:Nat} {L:LvD} {V:VS} {F:Th} (hS:Sat w [XY b L,XG L.sp n Fr V,F]) (hn:n+2000≤60000000000) (hI:LvI m L V) (hm:m<Zs) (ob to:Bs) (first cnt aa:Int) (hf: -2147483648≤first∧first≤2147483648) (ha: -2147483648≤aa∧aa≤2147483648) (hc: -2147483648≤cnt∧cnt≤300):
    Calls Tryz.prog 41 #[ptrV b 0,intV 0,strV ob,intV first,intV cnt,strV to,intV aa] w (Ret fun v w'=> ∃L' V' q,StepI m L V m 0 256 L' V'∧L'.pres=O1 L.pres to (aa+max 0 (-aa)) (G3 L ob (first+max 0 (-aa)) q) q∧Q1 L' V'=LC (Q1 L V) to (aa+max 0 (-aa)) (fun i=>XH V ((G3 L ob (first+max 0 (-aa)) q).getD i 0)) q∧(max 0 (-aa)+(q:Int)=min cnt (256 -aa)∨(q=0∧min cnt (256 -aa)≤max 0 (-aa)))∧Sat w' [XY b L',XG L'.sp (n+2000) Fr V',F]):= by
 refine Qm Tryz.func41 U Tryz.ntmps41 U ?_
 refine Qd (Qd (Qa (Qb U U (Qb U U (Qw WX U (ZH (hS.sp [0] U) 0) U ?_)))))
 rintro _ w1 ⟨rfl,hS1⟩
 replace hS1:=hS1.jn U U
 refine QQ U U (Qf (Qc (Qh [6,5,4,3,2,1,0,27] U (QN U (fun h2=> ?_) (fun h2=> ?_)))))
 ·exact absurd h2 (by simp [Zt])
 refine Qt (Qc (Qd (Qa (Qb U U (Ea U (by omega) (by omega) U ?_)))))
 refine Y3 U U U (Qb U U (Qb U U (Vg U U (by omega) (by omega) U ?_)))
 refine Uq U U U (Qe U U (Qe U U (Qf (Qc (Qh [6,5,3,2,1,0,14,15] U (Qd (Qa (Qe U U (Qf (Qc (Qd (Qd (Qa (Qb U U (Qe U U (Qf (Qc (Qv ?_))))))))))))))))))
 have hrn:=hS1.row_nil inC
 refine Xb (fun K0 E0 W0=> ∃(j:Nat) (V1:VS) (ex:Int→Int) (nv:Value),K0=((min cnt (256 -aa)) -(max 0 (-aa))).toNat -j∧E0=[(0,ptrV b 0),(1,intV 0),(2,strV ob),(3,intV first),(5,strV to),(6,intV aa),(14,intV (max 0 (-aa))),(15,intV (min cnt (256 -aa))),(16,nv),(17,intV ((max 0 (-aa))+(j:Int)))]∧Sat W0 [XY b L,XG L.sp (n+j) Fr V1,rowT inC nv (G3 L ob (first+(max 0 (-aa))) j),F]∧(j≤256)∧(j=0∨(max 0 (-aa))+(j:Int)≤(min cnt (256 -aa)))∧(LvX ex m L V1)∧(NoI ex (G3 L ob (first+(max 0 (-aa))) j))∧(Q1 L V1=Q1 L V)∧(∀c,AliveLe V c→AliveLe V1 c)∧(Pgs V V1)) (L0:=[(0,_),(1,_),(2,_),(3,_),(5,_),(6,_),(14,_),(15,_),(16,_),(17,_)]) (((min cnt (256 -aa)) -(max 0 (-aa))).toNat) (Cb U U U U U U U U U U) ⟨0,V, fun _=>0,_, by omega, by simp,hrn.pick [1,2,0,3] U, by omega,.inl U,hI, fun _ _=>rfl,rfl, fun _ q=>q,.refl⟩ ?_
 rintro _ _ w3 ⟨j,V1,ex,nv,rfl,rfl,hS3,hjb,hj,hI1,hno,hab,hal,hpg⟩
 refine Qd (Qd (Qa (Qb U U (Qb U U (Xg U U U (Qf (Qc (Qs U (fun h4=> ?_) (fun h4=> ?_)))))))))
 ·refine Qt (Qc (Qh [17,16,15,14,6,5,3,2,1,0] U (Qd (Qv (Qd (Qa (Qe U U (Qf (Qc (Qd (Qd (Qa (Qb U U (Qb U U (QI U U (by omega) (by omega) U ?_)))))))))))))))
  refine Qe U U (Qf (Qc (Qh [17,16,15,14,6,5,3,2,1,0,18,19] U (Qd (Qa (Qb U U (JA U U U (Qb U U (QU 46 U (fun h5=> ?_) (fun h5=> ?_))))))))))
  ·refine Ql U U (Xl h5) (Qb U U (Ql U U (Xl h5) (Xg U U U (Q9 U (Xl h5) U U (Qf (Qc (Qh [17,16,15,14,6,5,3,2,1,0,18,19,49] U (Qs U (fun h6=> ?_) (fun h6=> ?_)))))))))
   ·refine Qd (Qa (Qb U U (Qb U U (Zu U Yc HN Z2 U U (QX hS3 Z2 U U ?_)))))
    intro kb wk7 hk7
    clear hS3
    refine QK hk7 U U Xc U (by rfl) (i:=0) U (by decide) ?_
    intro wk8 hk8; dsimp only[List.set]at hk8
    clear hk7
    replace hk8:=X5 (k:=(ob,first+((max 0 (-aa))+(j:Int)))) hk8
    refine Qf (Qc (Qh [17,16,15,14,6,5,3,2,1,0,18,20] U (Qd (Qd (Qa (Qb U U (X0 U U U (Qf (Qc (Qs U (fun h9=> ?_) (fun h9=> ?_)))))))))))
    ·exact absurd U h9
    refine Qt (Qc (Qa (Qb U U (Qb U U ?_))))
    refine Xt U X7 Xc (by first | exact hk8.blk 0 U) (by first | decide | exact Xa U | (simp;done) | omega) U U ?_
    have hC10:=hk8.sp [1] U
    refine Qw HM U (H7 hC10 (hI.rank.ends hm) 0 (ob,first+((max 0 (-aa))+(j:Int)))) U ?_
    rintro _ w10 ⟨rfl,hS10⟩
    replace hS10:=hS10.jn U U; clear hC10
    clear hk8
    rw[show X2 L 0 (ob,first+((max 0 (-aa))+(j:Int)))=L.pres (ob,first+((max 0 (-aa))+(j:Int))) from Yy U]
    refine Qe U U (Qf (Qc (Qh [17,16,15,14,6,5,3,2,1,0,18] U (Qd (Qa (Qb U U (Qj U U (Qg U XN U (Qn U Xk (JB hS10 0 U) U (Qb U U ?_))))))))))
    have hse:L.pres (ob,first+((max 0 (-aa))+(j:Int)))=P4 L ob ((first+(max 0 (-aa)))+(j:Int)):= by unfold P4; rw[if_pos ⟨by omega, by omega⟩,Int.add_assoc]
    rw[hse]
    refine Qw U6 U (B5 (hS10.sp [2] U) (by omega) (P4 L ob ((first+(max 0 (-aa)))+(j:Int)))) U ?_
    rintro _ w11 ⟨e0,rfl,hS11⟩
    replace hS11:=hS11.jn U U
    clear hS10
    refine Qf (Qc (Qh [17,16,15,14,6,5,3,2,1,0,18] U (Qa (Qb U U (Qb U U (Zf inC [P4 L ob ((first+(max 0 (-aa)))+(j:Int))] hS11 U Tryz.underlying47 Uc U U U U (by first | rfl | simp [RowC.cells,Jl,X9]) U ?_))))))
    intro b12 w12 hS12
    clear hS11
    refine ZM inC 4 hS12 U U U (hS12.rd 0 U (by simp)) Tryz.underlying47 Tryz.underlying47 (by intro k hk; cases hk) UB U (by simp only[Hd,List.length_cons,List.length_nil];omega) U (by simp only[Hd,List.length_cons,List.length_nil];omega) ?_
    intro v13 w13 hS13; dsimp only[List.set]at hS13
    clear hS12
    have h1v13:v13.oneCell'=true:=hS13.own_one 4 U
    refine Qe U U (Qf (Qk (Qc (Qh [17,15,14,6,5,3,2,1,0,16] U (Qa (Qb U U (QI U U (by omega) (by omega) U ?_)))))))
    refine Qe U U (Qf ?_)
    obtain⟨hq1,hq2,hq3⟩:=U0 hI1 hno (Gf hI1 hno.nn ob ((first+(max 0 (-aa)))+(j:Int)))
    rw[←Ds]at hq2 hS13
    exact Q0 (L1:=[(0,_),(1,_),(2,_),(3,_),(5,_),(6,_),(14,_),(15,_),(16,_),(17,intV ((max 0 (-aa))+(j:Int)+1))]) (Cb U U U U U U U U U U) (k1:=((min cnt (256 -aa)) -(max 0 (-aa))).toNat -(j+1)) (by omega) ⟨j+1,_,_,_,rfl,(by rw[show(max 0 (-aa))+((j+1:Nat):Int)=(max 0 (-aa))+(j:Int)+1 by omega]),hS13.pick [2,1,4,5] U, by omega, by omega,hq1.inv,hq2,hq3.trans hab, fun c q=>hq1.al c (hal c q),hpg.trans hq1.pg⟩
   refine Qt (Qc (Qd (Qa (Qb U U (Qj U U (Qg U XN U (Qn U Xk (JB hS3 0 U) U (Qb U U ?_))))))))
   have hse:P4 L ob ((first+(max 0 (-aa)))+(j:Int))=0:= by unfold P4; rw[if_neg (by omega)]
   refine Qw U6 U (B5 (hS3.sp [1] U) (by omega) (0)) U ?_
   rintro _ w14 ⟨e0,rfl,hS14⟩
   replace hS14:=hS14.jn U U
   clear hS3
   rw[show Ha V1 0=Ha V1 (P4 L ob ((first+(max 0 (-aa)))+(j:Int))) by rw[hse]]at hS14
   refine Qf (Qc (Qh [17,16,15,14,6,5,3,2,1,0,18] U (Qa (Qb U U (Qb U U (Zf inC [0] hS14 U Tryz.underlying47 Uc U U U U (by first | rfl | simp [RowC.cells,Jl,X9]) U ?_))))))
   intro b15 w15 hS15
   clear hS14
   refine ZM inC 3 hS15 U U U (hS15.rd 0 U (by simp)) Tryz.underlying47 Tryz.underlying47 (by intro k hk; cases hk) UB U (by simp only[Hd,List.length_cons,List.length_nil];omega) U (by simp only[Hd,List.length_cons,List.length_nil];omega) ?_
   intro v16 w16 hS16; dsimp only[List.set]at hS16
   clear hS15
   have h1v16:v16.oneCell'=true:=hS16.own_one 3 U
   refine Qe U U (Qf (Qk (Qc (Qh [17,15,14,6,5,3,2,1,0,16] U (Qa (Qb U U (QI U U (by omega) (by omega) U ?_)))))))
   refine Qe U U (Qf ?_)
   obtain⟨hq1,hq2,hq3⟩:=U0 hI1 hno (Gf hI1 hno.nn ob ((first+(max 0 (-aa)))+(j:Int)))
   rw[show G3 L ob (first+(max 0 (-aa))) j++[0]=G3 L ob (first+(max 0 (-aa))) (j+1) by rw[Ds,hse]]at hS16
   rw[←Ds]at hq2
   exact Q0 (L1:=[(0,_),(1,_),(2,_),(3,_),(5,_),(6,_),(14,_),(15,_),(16,_),(17,intV ((max 0 (-aa))+(j:Int)+1))]) (Cb U U U U U U U U U U) (k1:=((min cnt (256 -aa)) -(max 0 (-aa))).toNat -(j+1)) (by omega) ⟨j+1,_,_,_,rfl,(by rw[show(max 0 (-aa))+((j+1:Nat):Int)=(max 0 (-aa))+(j:Int)+1 by omega]),hS16.pick [2,1,3,4] U, by omega, by omega,hq1.inv,hq2,hq3.trans hab, fun c q=>hq1.al c (hal c q),hpg.trans hq1.pg⟩
  refine Qi U U (QC h5) U (Qi U U (QC h5) U (QP U (QC h5) U U (Qf (Qc (Qh [17,16,15,14,6,5,3,2,1,0,18,19,49] U (QT U (Qt (Qc (Qd (Qa (Qb U U (Qj U U (Qg U XN U (Qn U Xk (JB hS3 0 U) U (Qb U U ?_)))))))))))))))
  have hse:P4 L ob ((first+(max 0 (-aa)))+(j:Int))=0:= by unfold P4; rw[if_neg (by omega)]
  refine Qw U6 U (B5 (hS3.sp [1] U) (by omega) (0)) U ?_
  rintro _ w17 ⟨e0,rfl,hS17⟩
  replace hS17:=hS17.jn U U
  clear hS3
  rw[show Ha V1 0=Ha V1 (P4 L ob ((first+(max 0 (-aa)))+(j:Int))) by rw[hse]]at hS17
  refine Qf (Qc (Qh [17,16,15,14,6,5,3,2,1,0,18] U (Qa (Qb U U (Qb U U (Zf inC [0] hS17 U Tryz.underlying47 Uc U U U U (by first | rfl | simp [RowC.cells,Jl,X9]) U ?_))))))
  intro b18 w18 hS18
  clear hS17
  refine ZM inC 3 hS18 U U U (hS18.rd 0 U (by simp)) Tryz.underlying47 Tryz.underlying47 (by intro k hk; cases hk) UB U (by simp only[Hd,List.length_cons,List.length_nil];omega) U (by simp only[Hd,List.length_cons,List.length_nil];omega) ?_
  intro v19 w19 hS19; dsimp only[List.set]at hS19
  clear hS18
  have h1v19:v19.oneCell'=true:=hS19.own_one 3 U
  refine Qe U U (Qf (Qk (Qc (Qh [17,15,14,6,5,3,2,1,0,16] U (Qa (Qb U U (QI U U (by omega) (by omega) U ?_)))))))
  refine Qe U U (Qf ?_)
  obtain⟨hq1,hq2,hq3⟩:=U0 hI1 hno (Gf hI1 hno.nn ob ((first+(max 0 (-aa)))+(j:Int)))
  rw[show G3 L ob (first+(max 0 (-aa))) j++[0]=G3 L ob (first+(max 0 (-aa))) (j+1) by rw[Ds,hse]]at hS19
  rw[←Ds]at hq2
  exact Q0 (L1:=[(0,_),(1,_),(2,_),(3,_),(5,_),(6,_),(14,_),(15,_),(16,_),(17,intV ((max 0 (-aa))+(j:Int)+1))]) (Cb U U U U U U U U U U) (k1:=((min cnt (256 -aa)) -(max 0 (-aa))).toNat -(j+1)) (by omega) ⟨j+1,_,_,_,rfl,(by rw[show(max 0 (-aa))+((j+1:Nat):Int)=(max 0 (-aa))+(j:Int)+1 by omega]),hS19.pick [2,1,3,4] U, by omega, by omega,hq1.inv,hq2,hq3.trans hab, fun c q=>hq1.al c (hal c q),hpg.trans hq1.pg⟩
 refine QM (Qo (Qo (Qx (Qc (Qh [16,14,6,5,1,0] U (Qd ?_))))))
 obtain⟨an,cn,hvn,_⟩:=hS3.own_shape 2 rfl; obtain rfl:=hvn
 refine Qa (Qb U U ?_)
 first | refine Xr Tryz.underlying47 U U ?_ | refine ZG 2 hS3 Tryz.underlying47 U U U ?_
 refine Qb U U (Qf (Qc (Qv ?_)))
 refine Xb (fun K0 E0 W0=> ∃(q:Nat) (L1:LvD) (V2:VS) (ex2:Int→Int),K0=j -q∧E0=[(0,ptrV b 0),(1,intV 0),(5,strV to),(6,intV aa),(14,intV (max 0 (-aa))),(85,.slice an (G3 L ob (first+(max 0 (-aa))) j).length cn),(86,intV ((G3 L ob (first+(max 0 (-aa))) j).length:Int)),(87,intV (q:Int))]∧Sat W0 [XY b L1,XG L1.sp (n+j+5*q) Fr V2,rowT inC (.slice an (G3 L ob (first+(max 0 (-aa))) j).length cn) (G3 L ob (first+(max 0 (-aa))) j),F]∧(q≤j)∧(LvX ex2 m L1 V2)∧(NoI ex2 ((G3 L ob (first+(max 0 (-aa))) j).drop q))∧(L1.sp=L.sp)∧(L1.pres=O1 L.pres to (aa+(max 0 (-aa))) (G3 L ob (first+(max 0 (-aa))) j) q)∧(Q1 L1 V2=LC (Q1 L V) to (aa+(max 0 (-aa))) (fun q=>XH V ((G3 L ob (first+(max 0 (-aa))) j).getD q 0)) q)∧(∀c,AliveLe V c→AliveLe V2 c)∧(∀c,SzLe L c→SzLe L1 (c+q))∧(Pgs V V2)) (L0:=[(0,_),(1,_),(5,_),(6,_),(14,_),(85,_),(86,_),(87,_)]) (j) (zb8 U U U U U U U U) ⟨0,L,V1,ex,rfl,rfl,hS3.pick [0,1,2,3] U, by omega,hI1,hno,rfl,rfl,hab,hal, fun _ h=>h,hpg⟩ ?_
 rintro _ _ w20 ⟨q,L1,V2,ex2,rfl,rfl,hS20,hq,hI2,hno2,hsp,hp2,hab2,hal2,hsz2,hpg2⟩
 refine Qd (Qa (Xg U U U (Qf (Qc (Qd (Qs U (fun h21=> ?_) (fun h21=> ?_)))))))
 ·obtain⟨s,hs⟩: ∃s,(G3 L ob (first+(max 0 (-aa))) j)[q]? =some s:=⟨_,Zi (by omega)⟩; have hln:(G3 L ob (first+(max 0 (-aa))) j).length=j:=Hd; rw[MB hs]at hno2; have hsa:=hI2.held (s:=s) fun h0=>hno2.ge h0
  refine Qt (Qc (Qd (Qv (Qd (Qa (Qb U U (QW inC 2 q hS20 U U U (by first | rfl | omega) hs JQ U ?_)))))))
  intro bx22 capx22 hvx22
  refine XE 2 q 0 hS20 U hvx22 U U hs QL U U (Qe U U (Qe U U (Qf (Qc (Qh [87,86,85,14,6,5,1,0,22,23] U (Qd (Qa (Qb U U (Qb U U (Qb U U (Qb U U (Qb U U (QI U U (by omega) (by omega) U ?_)))))))))))))
  refine Qb U U (QI U U (by omega) (by omega) U ?_)
  refine Zu U Yc HN Z2 U U (Qb U U (Qw Fa U (C3 (hS20.sp [0,1] U) (by omega) hI2 hno2.nn hsa (to,(aa+(max 0 (-aa)))+(q:Int))) U ?_))
  rintro _ w23 ⟨L2,V3,hr1,hr2,hr3,hS23⟩
  replace hS23:=hS23.jn U U
  clear hS20
  refine Qf (Qc (Qh [87,86,85,14,6,5,1,0,23] U (Qa (Qb U U (Qj U U (Qg U XN U (Qn U Xk (JB hS23 0 U) U (Qb U U (Qw Rw U (KK (hS23.sp [1] U) (by omega) s) U ?_)))))))))
  rintro _ w24 ⟨e0,rfl,hS24⟩
  replace hS24:=hS24.jn U U
  clear hS23
  refine Qf (Qk (Qc (Qh [87,86,85,14,6,5,1,0] U (Qa (QI U U (by omega) (by omega) U ?_)))))
  refine Qb U U (Qf ?_)
  obtain⟨hu1,hu2,hu3⟩:=KG hr1.inv hno2
  exact Q0 (L1:=[(0,_),(1,_),(5,_),(6,_),(14,_),(85,_),(86,_),(87,intV ((q+1:Nat):Int))]) (zb8 U U U U U U U U) (k1:=j -(q+1)) (by omega) ⟨q+1,_,_,_,rfl,rfl,hS24.pick [1,0,2,3] U, by omega,hu1.inv,hu2,hu1.sp.trans (hr1.sp.trans hsp), by rw[hr3,hp2,O1,Ts hs], by rw[hu3,hr2,hab2,LC]; simp only[cpWr,if_true,Ts hs]; rw[(hpg2 s hsa).2], fun c q2=>hu1.al _ (hr1.al _ (hal2 c q2)), fun c q2=> by have :=hu1.sz _ (hr1.sz _ (hsz2 c q2)); exact this.mono (by omega),(hpg2.trans hr1.pg).trans hu1.pg⟩
 refine QM (Qo (Qo (Qx (ZD (.inl U) U ?_))))
 have hln:(G3 L ob (first+(max 0 (-aa))) j).length=j:=Hd
 have hqj:q=j:= by omega
 subst hqj
 have hjj:q≤256:= by omega
 exact⟨_,rfl,L1,V2,q,⟨hI2.ext fun i hi=> by rw[hno2 i hi,List.drop_eq_nil_of_le (by rw[Hd];omega)];rfl,hsp, fun c h=>(hal2 c h).mono (by omega), fun c h=>(hsz2 c h).mono (by omega)⟩,hp2,hab2, by omega,(Xe (m:=n+2000) (by omega) (hS20.pick [1,0,3] U)).reorder [1,0,2] U⟩
end Go.Proofs.YtkcjfoaejijdoaaGreatDoor
