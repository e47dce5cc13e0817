/- leaves: a commit, by contents -/
import Derived.Test.YtkcjfoaejijdoaaGreatDoorLv17
import Derived.Test.YtkcjfoaejijdoaaGreatDoorKs
import Derived.Test.YtkcjfoaejijdoaaGreatDoorLv19
set_option linter.unusedVariables false
set_option maxRecDepth 100000
set_option maxHeartbeats 80000000000
namespace Go.Proofs.YtkcjfoaejijdoaaGreatDoor
open Go.RowKit M
set_option linter.unusedSectionVars false
variable [Inhabited SlW]
def orR (y:LfA) (r:BitVec 64):LfA:={y with rd:=y.rd ||| (r&&& ~~~y.wr)}
noncomputable def rdS (p:Int) (t:TrA) (A:LvA) (k:KD):LvA:= match t.lv k with | none=>A | some x=> if x.rd=0#64 then A else ZA A p k (orR (Zi A p k) x.rd)
noncomputable def J8 (p:Int) (A:LvA) (ob:Bs):LvA:= if p=0 then dropP A ob else U3 A p ob
def gvX (y:LfA) (c:Bs) (wr:BitVec 64):LfA:={y with own:=c,wr:=y.wr ||| wr}
def BD (A0:LvA) (p:Int) (k:KD) (x:LfA):Bs:=RH (ZN A0 p k) x.own x.wr
noncomputable def BX (A0:LvA) (p:Int) (t:TrA) (A:LvA) (k:KD):LvA:= match t.lv k with | none=>A | some x=> if x.wr=0#64 then A else if p=0 then{A with pres:=Vn A.pres k (BD A0 p k x)}else ZA A p k (gvX (Zi A p k) (BD A0 p k x) x.wr)
noncomputable def qak (A:LvA) (id:Int) (t:TrA) (l:List KD) (obs:List Bs):LvA:=
  PP (l.foldl (BX A t.parent t) (obs.foldl (J8 t.parent) (if t.parent=0 then A else l.foldl (rdS t.parent t) A))) id
def DrA (A:LvA):Prop:= ∀i t k x,A.tr i=some t→t.dr k.1=true→t.lv k=some x→x.wr=BitVec.allOnes 64
theorem HT {α β:Type} {f:α→β→α} {a:α} {l:List β} {i:Nat} {k:β} (h:l[i]? =some k):(l.take (i+1)).foldl f a=f ((l.take i).foldl f a) k:= by
  rw[List.take_add_one,h,List.foldl_append];rfl
theorem RE {now own:Bs} {wr:BitVec 64} (ho:own.length=64) (hn:now.length=64) (h: ∀j,j<64→wr.getLsbD j=false→now[j]? =own[j]?):RH now own wr=own:= by
  apply List.ext_getElem?
  intro j
  by_cases hj:j<64
  · unfold RH
    rw[List.getElem?_map,List.getElem?_range hj]
    simp only[Option.map_some]
    split
    · rw[getD_some (by omega)]
    · rename_i q
      rw[←h j hj (by simpa using q),getD_some (by omega)]
  · rw[List.getElem?_eq_none (by simp [RH];omega),List.getElem?_eq_none (by omega)]
theorem RG {now own:Bs} (ho:own.length=64) (hn:now.length=64):RH now own (BitVec.allOnes 64)=own:=
  RE ho hn fun j hj h=> by rw[BitVec.getLsbD_allOnes]at h; simp [hj]at h
theorem mgB_bit {now own:Bs} {wr:BitVec 64} {j:Nat} (hj:j<64) (hn:now.length=64) (h:wr.getLsbD j=false):(RH now own wr)[j]? =now[j]? := by
  unfold RH
  rw[List.getElem?_map,List.getElem?_range hj]
  simp only[Option.map_some]
  rw[if_neg (by rw[h];decide),getD_some (by omega)]
theorem Vz {A A':LvA} {k:KD} (hp:A'.pres k=A.pres k) (ht: ∀i,(A'.tr i).map (fun t=>(t.parent,t.lv k,t.dr k.1))=(A.tr i).map (fun t=>(t.parent,t.lv k,t.dr k.1))): ∀n i,J1 A' n i k=J1 A n i k
  | 0,_=>rfl
  | n+1,i=> by
    unfold J1
    have h:=ht i
    split
    · exact hp
    · cases q:A.tr i with
      | none=>
        cases q':A'.tr i with
        | none=>rfl
        | some t'=> rw[q,q']at h; simp at h
      | some t=>
        cases q':A'.tr i with
        | none=> rw[q,q']at h; simp at h
        | some t'=>
          rw[q,q']at h
          simp only[Option.map_some,Option.some.injEq,Prod.mk.injEq]at h
          obtain⟨h1,h2,h3⟩:=h
          dsimp only
          rw[h1,h2,h3]
          cases t.lv k with
          | some x=>rfl
          | none=>
            dsimp only
            split
            · rfl
            · exact Vz hp ht n _
theorem BK {A:LvA} {p:Int} {k:KD} {t:TrA} (h0:p≠0) (ht:A.tr p=some t):(Zi A p k).own=ZN A p k:= by
  unfold Zi
  rw[ht]; dsimp only
  cases hx:t.lv k with
  | none=>rfl
  | some x=>unfold ZN; rw[J1,if_neg h0,ht]; dsimp only; rw[hx]
theorem HQ {A:LvA} {p i:Int} {k:KD} {y:LfA} (h:i≠p):(ZA A p k y).tr i=A.tr i:= by
  unfold ZA
  cases A.tr p with
  | none=>rfl
  | some t=> dsimp only; rw[QI h]
theorem GN {A:LvA} {p:Int} {k:KD} {y:LfA}:(ZA A p k y).pres=A.pres:= by
  unfold ZA
  cases A.tr p<;>rfl
theorem DT {A:LvA} {p:Int} {k j:KD} {y:LfA} {t:TrA} (h0:p≠0) (ht:A.tr p=some t):ZN (ZA A p k y) p j= if j=k then y.own else ZN A p j:= by
  split
  · rename_i e
    subst e
    unfold ZN
    rw[J1,if_neg h0,ZS ht]
    dsimp only
    rw[Q1]
    dsimp only
    rw[Q1]
  · rename_i e
    refine Vz (by rw[GN]) (fun i=> ?_) _ _
    by_cases e2:i=p
    · subst e2
      rw[ZS ht,ht]
      dsimp only
      rw[Q1]
      simp only[Option.map_some]
      rw[QI e]
    · rw[HQ e2]
theorem Ri {A:LvA} {p:Int} {ob:Bs} {t:TrA} (ht:A.tr p=some t):U3 A p ob={A with tr:=Xz A.tr p (some {t with lv:=Zn (fun j=>j.1=ob) t.lv,dr:=JD t.dr ob})}:= by unfold U3; rw[ht]
theorem S9 {A:LvA} {p:Int} {j:KD} {ob:Bs} (h:j.1≠ob):ZN (U3 A p ob) p j=ZN A p j:= by
  cases ht:A.tr p with
  | none=>unfold U3; rw[ht]
  | some t=>
    rw[Ri ht]
    unfold ZN
    refine Vz (A:=A) (A':={A with tr:=Xz A.tr p (some {t with lv:=Zn (fun j=>j.1=ob) t.lv,dr:=JD t.dr ob})}) rfl (fun i=> ?_) _ _
    by_cases e2:i=p
    · subst e2
      dsimp only
      rw[Q1,ht]
      simp only[Option.map_some]
      have e1:Zn (fun j=>j.1=ob) t.lv j=t.lv j:= by unfold Zn; rw[if_neg h]
      have e3:JD t.dr ob j.1=t.dr j.1:= by unfold JD; rw[if_neg h]
      rw[e1,e3]
    · dsimp only; rw[QI e2]
theorem PJ {A:LvA} {p i:Int} {ob:Bs} (h:i≠p):(U3 A p ob).tr i=A.tr i:= by
  unfold U3
  cases A.tr p with
  | none=>rfl
  | some t=> dsimp only; rw[QI h]
structure SeI (A0 A:LvA) (id p:Int) (t:TrA) (obs:List Bs) (gv:List KD):Prop where
  tr:A.tr id=some t
  par:p≠0→ ∃tp,A.tr p=some tp
  sees:p≠0→ ∀k,k∉gv→k.1∉obs→ZN A p k=ZN A0 p k
  oth: ∀i,i≠p→A.tr i=A0.tr i
theorem SeI.start {A0:LvA} {id p:Int} {t:TrA} (ht:A0.tr id=some t) (hp:p≠0→ ∃tp,A0.tr p=some tp):SeI A0 A0 id p t [] []:=⟨ht,hp, fun _ _ _ _=>rfl, fun _ _=>rfl⟩
theorem SeI.read {A0 A:LvA} {id p:Int} {t:TrA} (h:SeI A0 A id p t [] []) (hne:id≠p) (h0:p≠0) (k:KD):SeI A0 (rdS p t A k) id p t [] []:= by
  unfold rdS
  cases hx:t.lv k with
  | none=> exact h
  | some x=>
    dsimp only
    split
    · exact h
    · obtain⟨tp,htp⟩:=h.par h0
      refine⟨by rw[HQ hne]; exact h.tr, fun _=>⟨_, by rw[ZS htp]; exact Q1⟩, fun _ j hj hb=> ?_, fun i hi=> by rw[HQ hi]; exact h.oth i hi⟩
      rw[DT h0 htp]
      split
      · rename_i e
        subst e
        rw[show(orR (Zi A p j) x.rd).own=(Zi A p j).own from rfl,BK h0 htp]
        exact h.sees h0 j hj hb
      · exact h.sees h0 j hj hb
theorem SeI.drop {A0 A:LvA} {id p:Int} {t:TrA} {obs:List Bs} {ob:Bs} (h:SeI A0 A id p t obs []) (hne:id≠p):SeI A0 (J8 p A ob) id p t (obs++[ob]) []:= by
  unfold J8
  by_cases h0:p=0
  · rw[if_pos h0]
    exact⟨h.tr, fun q=>absurd h0 q, fun q=>absurd h0 q,h.oth⟩
  · rw[if_neg h0]
    obtain⟨tp,htp⟩:=h.par h0
    refine⟨by rw[PJ hne]; exact h.tr, fun _=>⟨_, by rw[Ri htp]; exact Q1⟩, fun _ j hj hb=> ?_, fun i hi=> by rw[PJ hi]; exact h.oth i hi⟩
    rw[S9 (fun e=>hb (by simp [e]))]
    exact h.sees h0 j hj fun q=>hb (by simp [q])
theorem SeI.give {A0 A:LvA} {id p:Int} {t:TrA} {obs:List Bs} {gv:List KD} (h:SeI A0 A id p t obs gv) (hne:id≠p) (k:KD):SeI A0 (BX A0 p t A k) id p t obs (gv++[k]):= by
  have up:SeI A0 A id p t obs (gv++[k]):=⟨h.tr,h.par, fun h0 j hj hb=>h.sees h0 j (fun q=>hj (by simp [q])) hb,h.oth⟩
  unfold BX
  cases hx:t.lv k with
  | none=> exact up
  | some x=>
    dsimp only
    split
    · exact up
    · split
      · rename_i h0
        exact⟨h.tr, fun q=>absurd h0 q, fun q=>absurd h0 q,h.oth⟩
      · rename_i h0
        obtain⟨tp,htp⟩:=h.par h0
        refine⟨by rw[HQ hne]; exact h.tr, fun _=>⟨_, by rw[ZS htp]; exact Q1⟩, fun _ j hj hb=> ?_, fun i hi=> by rw[HQ hi]; exact h.oth i hi⟩
        rw[DT h0 htp,if_neg (fun e=>hj (by simp [e]))]
        exact h.sees h0 j (fun q=>hj (by simp [q])) hb
theorem SeI.ag {A0 A:LvA} {id p:Int} {t:TrA} {obs:List Bs} {gv:List KD} {k:KD} {x:LfA} (h:SeI A0 A id p t obs gv) (h0:p≠0) (hg:AgL A) (hk:k∉gv) (hl:(ZN A0 p k).length=64) (hd:k.1∈obs→x.wr=BitVec.allOnes 64):Sl (gvX (Zi A p k) (BD A0 p k x) x.wr):= fun j hj hw=> by
  have hw':(Zi A p k).wr.getLsbD j=false∧x.wr.getLsbD j=false:= by
    have :((Zi A p k).wr ||| x.wr).getLsbD j=false:=hw
    rw[BitVec.getLsbD_or,Bool.or_eq_false_iff]at this
    exact this
  obtain⟨tp,htp⟩:=h.par h0
  have hb:k.1∉obs:= fun q=> by
    have h2:=hw'.2
    rw[hd q,BitVec.getLsbD_allOnes]at h2
    simp [hj]at h2
  show(Zi A p k).base[j]? =(BD A0 p k x)[j]?
  rw[hg.tou j hj hw'.1,BK h0 htp,h.sees h0 k hk hb]
  exact(mgB_bit hj hl hw'.2).symm
end Go.Proofs.YtkcjfoaejijdoaaGreatDoor
namespace Go.Proofs.YtkcjfoaejijdoaaGreatDoor
open Go.RowKit M
set_option linter.unusedSectionVars false
variable [Inhabited SlW]
def ItS (g:Bs→Option Value) (gf:Nat) (caps:List Value) (It:Th):Prop:= ∀(l:Nat) (J:List Bs→Th) (X:Th) (w:World),Sat w [J [],It,X]→Ua Tryz.prog l Xp (okC g) J→Calls Tryz.prog gf (.func (.yield l) #[] #[]::caps).toArray w (Ret fun _ w'=> ∃ks,AllC g ks∧Sat w' [J ks,It,X])
def JS (l D b:Nat) (rec:Loop) (ks:List Bs):Th:=CG fun v:Value=>starL [Js l rec,Ws D,QF b [v],rowT stC v ks]
theorem appS {w:World} {g:Bs→Option Value} {It F:Th} {gf:Nat} {caps:List Value} (hS:Sat w [It,F]) (hcal:QH Tryz.prog gf=true) (hIt:ItS g gf caps It) (hlen: ∀ks,Came g ks→ks.length≤100000000000):
    Calls Tryz.prog 166 [.slice none 0 0,.func (.func gf) #[] caps.toArray].toArray w (Ret fun v w'=> ∃ks,AllC g ks∧Sat w' [rowT stC v ks,It,F]):= by
 refine Hl Tryz.func166 rfl Tryz.ntmps166 rfl ?_
 refine Qd (Qa (XU hS rfl rfl rfl ?_))
 intro b1 w1 hS1
 refine Qe rfl rfl (Qf (Qc (Qd (Qd (Qa (Qb rfl rfl (Qf (Qc (Qw (Hg (caps:=caps) rfl hcal ?_))))))))))
 intro rec hr1 hr2 hr3 hr4 hr5 htn htf
 have hE:=((hS1.enter_loop rec).row_nil stC)
 have hE2:=hE.sp [1,2,3,0] rfl
 have hJ0:=Sat.ex_intro (f:= fun v:Value=>starL [Js _ _,Ws _,QF _ [v],rowT stC v []]) _ (Sat.fold (As:=[Js _ _,Ws _,QF _ [_],rowT stC _ []]) hE2)
 refine(hIt _ (JS _ _ _ _) _ _ (hJ0.join rfl) ?_).mono ?_
 ·intro ks k R w2 hok hw2
  obtain⟨v,hw3⟩:=hw2.ex
  have hw4:=hw3.flat; dsimp only[Ds,Dr]at hw4
  have hl1:=hlen _ hok
  simp only[List.length_append,List.length_cons,List.length_nil]at hl1
  refine Dv (hw4.loop 0 rfl) hr1 hr2 hr3 hr4 hr5 htn htf rfl (by intro o ho c; simp at ho; subst ho; simp) (by intro o ho c; simp at ho; rcases ho with rfl | rfl | rfl | rfl | rfl<;> simp) ?_
  intro QA hA
  refine Qe rfl rfl (Qf (hA _ _ (hw4.loop 0 rfl) ?_))
  intro QB hB
  have h1v:v.oneCell'=true:=hw4.own_one 3 rfl
  have hw5:=hw4.loop_put 0 rfl (rec':={rec with state:= .busy}); dsimp only[List.set]at hw5
  refine Qo rfl Gu (hw5.cell 2 rfl rfl) rfl (Qb rfl rfl (Z4 stC [k] hw5 rfl Tryz.underlying61 ifz_9 rfl rfl rfl rfl (by rfl) rfl ?_))
  intro b3 w3 hw6
  refine W3 stC 4 hw6 rfl rfl rfl (hw6.rd 0 rfl (by simp)) Tryz.underlying61 Tryz.underlying61 (by intro k hk; cases hk) ifo_9 rfl (by simp;omega) rfl (by simp;omega) ?_
  intro v4 w4 hw7; dsimp only[List.set]at hw7
  have h1v4:v4.oneCell'=true:=hw7.own_one 4 rfl
  refine QL hw7 rfl rfl sz_61 h1v4 (i:=3) rfl (by simp) ?_
  intro w5 hw8; dsimp only[List.set]at hw8
  refine Qf (hB _ _ (hw8.loop 1 rfl) ?_)
  have hw9:=hw8.loop_put 1 rfl (rec':=rec); dsimp only[List.set]at hw9
  exact(Sat.ex_intro (f:= fun v:Value=>starL [Js _ _,Ws _,QF _ [v],rowT stC v (ks++[k])]) v4 (Sat.fold (As:=[Js _ _,Ws _,QF _ [_],rowT stC _ _]) (hw9.pick [1,2,3,4,5] rfl)))
 ·rintro e w3 ⟨v0,rfl,ks,hall,hw3⟩
  obtain⟨v,hw4⟩:=hw3.ex
  have hw5:=hw4.flat; dsimp only[Ds,Dr]at hw5
  refine⟨⟨v0,rfl⟩,rec,hw5.loop 0 rfl, by rw[hr1]; simp,hr2, ?_⟩
  intro a ha1 ha2
  have hw6:=hw5.loop_put 0 rfl (rec':={rec with state:= .exhausted}); dsimp only[List.set]at hw6
  obtain⟨hD,hw7⟩:=hw6.defer_put (o:= .deferred none) 1 rfl
  dsimp only[List.eraseIdx]at hw7
  refine DE (n:=13) (by rw[ha1]; exact htn) (by rw[ha1]; exact htf) ha2 rfl Gu (hw6.cell 2 rfl rfl) hD rfl rfl rfl ?_
  exact⟨_,rfl,ks,hall,hw7.pick [2,3,4] rfl⟩
def Iu (c b:Nat) (g:Bs→Option Value):Th:=starL [QF c [.map (some b)],Q3 Xp b g]
theorem itS (c b:Nat) (g:Bs→Option Value):ItS g 118 [ptrV c 0] (Iu c b g):= fun l J X w hS hY=> by
  have h1:=(hS.perm (List.Perm.swap _ _ _)).flat; dsimp only[Ds,Dr]at h1
  refine(kd_it (h1.reorder [2,0,1,3] rfl) hY).mono fun e w' h=>h.mono fun v w' ⟨ks,h2,h3⟩=>⟨ks,h2, ?_⟩
  exact(Sat.fold (As:=[QF c [.map (some b)],Q3 Xp b g]) (h3.reorder [1,2,0,3] rfl)).perm (List.Perm.swap _ _ _)
theorem sortS0 {w:World} {v:Value} {l:List Bs} {As:List Th} (hS:Sat w (rowT stC v l::As)) (hl:l.length<4611686018427387904):Calls Tryz.prog 117 #[v] w (Ret fun u w'=>u= .tuple #[]∧Sat w' (rowT stC v (Zc l)::As)):=
  Fh Tryz.slices_Sort_string Tryz.slices_Sort_string_none hS hl
theorem colS {w:World} {g:Bs→Option Value} {It F:Th} {gf:Nat} {caps:List Value} (hS:Sat w [It,F]) (hcal:QH Tryz.prog gf=true) (hIt:ItS g gf caps It) (hlen: ∀ks,Came g ks→ks.length≤100000000000):
    Calls Tryz.prog 116 #[.func (.func gf) #[] caps.toArray] w (Ret fun v w'=> ∃ks,AllC g ks∧Sat w' [rowT stC v ks,It,F]):= by
 refine Qq Tryz.func116 rfl Tryz.ntmps116 rfl ?_
 refine Qd (Qa (Qe rfl rfl (Qf (Qc (Qd (Qa (Qb rfl rfl (Qv cal_166 rfl (appS (hS.sp [0] rfl) hcal hIt hlen) rfl ?_))))))))
 rintro _ w1 ⟨ks,hks,hS1⟩
 replace hS1:=hS1.jn rfl rfl
 have h1v:=hS1.own_one 0 rfl
 exact Qe rfl rfl (Qf (Qc (Qu (QQ (.inr rfl) rfl rfl (⟨_,rfl,ks,hks,hS1⟩)))))
theorem KO {w:World} {g:Bs→Option Value} {It F:Th} {gf:Nat} {caps:List Value} (hS:Sat w [It,F]) (hcal:QH Tryz.prog gf=true) (hIt:ItS g gf caps It) (hlen: ∀ks,Came g ks→ks.length≤100000000000):
    Calls Tryz.prog 51 #[.func (.func gf) #[] caps.toArray] w (Ret fun v w'=> ∃ks,AllC g ks∧Sat w' [rowT stC v (Zc ks),It,F]):= by
 refine Qq Tryz.func51 rfl Tryz.ntmps51 rfl ?_
 refine Qd (Qa (Qe rfl rfl (Qf (Qc (Qd (Qa (Qb rfl rfl (Qv cal_116 rfl (colS (hS.sp [0] rfl) hcal hIt hlen) rfl ?_))))))))
 rintro _ w1 ⟨ks,hks,hS1⟩
 replace hS1:=hS1.jn rfl rfl
 have h1v:=hS1.own_one 0 rfl
 have hln:=hlen _ (Came.of_all hks)
 refine Qe rfl rfl (Qf (Qc (Qd (Qa (Qb rfl rfl (Qv cal_117 rfl (sortS0 (hS1.sp [0] rfl) (by omega)) rfl ?_))))))
 rintro _ w2 ⟨rfl,hS2⟩
 replace hS2:=hS2.jn rfl rfl
 clear hS1
 exact Qf (Qc (Qd (Qa (Qb rfl rfl (Qe rfl rfl (Qf (Qc (Qu (QQ (.inr rfl) rfl rfl (⟨_,rfl,ks,hks,hS2⟩))))))))))
end Go.Proofs.YtkcjfoaejijdoaaGreatDoor
namespace Go.Proofs.YtkcjfoaejijdoaaGreatDoor
open Go.RowKit M
set_option linter.unusedSectionVars false
variable [Inhabited SlW]
section
variable {w:World} {As:List Th}
theorem FY {T:Int→Option TrD} {i:Int} {t:TrD} {k:KD} {x:LfD} (hS:Sat w As) (j:Nat) (hj:As[j]? =some (Z0 K7 T)) (ht:T i=some t) (hx:t.lv k=some x) (q:Nat) {v:Value} (hv:(lfV x)[q]? =some v):w.cell? ⟨x.ad,q,none⟩=some v:= by
  have h1:=ZE (hS.pull j hj) ht
  have h2:=H9 (h1.perm ((List.Perm.cons _ (List.Perm.swap _ _ _)).trans (List.Perm.swap _ _ _))) hx
  exact h2.cell 0 rfl hv
theorem RI {b:Nat} {L:LvD} {i:Int} {t:TrD} (hS:Sat w As) (j:Nat) (hj:As[j]? =some (ZY b L)) (ht:L.tr i=some t) (q:Nat) {v:Value} (hv:(trV t)[q]? =some v):w.cell? ⟨t.ad,q,none⟩=some v:= by
  have h1:=XX (hS.pull j hj)
  have h2:=ZE (h1.pull 3 rfl) ht
  exact h2.cell 0 rfl hv
theorem Pn {b:Nat} {L:LvD} {i:Int} {t:TrD} {k:KD} {x:LfD} (hS:Sat w As) (j:Nat) (hj:As[j]? =some (ZY b L)) (ht:L.tr i=some t) (hx:t.lv k=some x) (q:Nat) {v:Value} (hv:(lfV x)[q]? =some v):w.cell? ⟨x.ad,q,none⟩=some v:=
  FY (XX (hS.pull j hj)) 3 rfl ht hx q hv
end
end Go.Proofs.YtkcjfoaejijdoaaGreatDoor
namespace Go.Proofs.YtkcjfoaejijdoaaGreatDoor
open Go.RowKit M
set_option linter.unusedSectionVars false
variable [Inhabited SlW]
noncomputable def Hi (sp mp mt ms:Nat):LvD:=⟨sp,mp,mt,ms, fun _=>0, fun _=>none,0, fun _=>false⟩
def OW:LvA:=⟨fun _=>zer, fun _=>none⟩
theorem OV {sp mp mt ms:Nat}:LvI 0 (Hi sp mp mt ms) (fun _=>none)∧Q8 (Hi sp mp mt ms) (fun _=>none)=OW∧AliveLe (fun _=>none) 0∧SzLe (Hi sp mp mt ms) 0∧DrA OW:= by
  have hf: ∀p,Xw (Hi sp mp mt ms) p=0:= fun p=> by cases p<;>rfl
  have e1:Q8 (Hi sp mp mt ms) (fun _=>none)=OW:=rfl
  refine⟨⟨⟨fun s hs=>⟨0,U5 (f:= fun _=>0) (fun p=> by rw[hf]) (Dk hs),rfl⟩, fun s x h=> by cases h⟩,⟨rfl, fun _=>0, fun _=>Nat.le_refl _, fun i t h=> by cases h⟩, ?_⟩,e1,⟨[], by simp, fun j h=>absurd rfl h⟩,⟨[], by simp, fun k h=>absurd rfl h, fun i t k x h=> by cases h⟩, fun i t k x h=> by cases h⟩
  intro i t k x h
  cases h
theorem EH {w:World} {b p mp mt ms:Nat} {As:List Th} (h:Sat w (QF b [ptrV p 0,.map (some mp),.map (some mt),intV 0,.map (some ms)]::Q3 Xy mp (fun _=>none)::Q3 Xf mt (fun _=>none)::Z0 K7 (fun _:Int=>none)::Q3 Xf ms (fun _=>none)::As)):
    Sat w (QF b [ptrV (Hi p mp mt ms).sp 0,.map (some (Hi p mp mt ms).mp),.map (some (Hi p mp mt ms).mt),intV (Hi p mp mt ms).cur,.map (some (Hi p mp mt ms).ms)]::Q3 Xy (Hi p mp mt ms).mp (Zt (Hi p mp mt ms).pres)::Q3 Xf (Hi p mp mt ms).mt (Zj TrD.ad (Hi p mp mt ms).tr)::Z0 K7 (Hi p mp mt ms).tr::Q3 Xf (Hi p mp mt ms).ms (Jg (Hi p mp mt ms).sh)::As):= by
  have e1:Zt (Hi p mp mt ms).pres= fun _=>none:=E5
  have e2:Jg (Hi p mp mt ms).sh= fun _=>none:=Nr
  rw[e1,e2]
  exact h
theorem Ic {w:World} {p:Nat} {F:Th} (hS:Sat w [F]):
    Calls Tryz.prog 16 #[ptrV p 0] w (Ret fun v w'=> ∃b mp mt ms,v=ptrV b 0∧Sat w' [ZY b (Hi p mp mt ms),F]):= by
 refine Qq Tryz.func16 rfl Tryz.ntmps16 rfl ?_
 refine Qd (Qa (Qe rfl rfl (Qf (Qc (Qd (Qa (Qb rfl rfl (Za Xy hS rfl ?_))))))))
 intro mp w1 hS1
 refine Za Xf hS1 rfl ?_
 intro mt w2 hS2
 clear hS1
 refine Za Xf hS2 rfl ?_
 intro ms w3 hS3
 clear hS2
 refine Ts (vs':=[ptrV p 0,.map (some mp),.map (some mt),intV 0,.map (some ms)]) rfl MZ asz_85 zr_85 rfl rfl rfl (XU hS3 rfl rfl rfl ?_)
 intro b w4 hS4
 clear hS3
 refine Qe rfl rfl (Qf (Qc (Qu (QQ (.inr rfl) rfl rfl ?_))))
 have hA:=Sf (κ:=Int) K7 (hS4.pick [0,3,2,1,4] rfl)
 exact⟨_,rfl,b,mp,mt,ms,rfl,Xd (L:=Hi p mp mt ms) (EH (hA.reorder [1,2,3,0,4,5] rfl))⟩
theorem NY {w:World} {F:Th} (hS:Sat w [F]) (hsl:(default:SlW).v=4096):
    Calls Tryz.prog 9 #[] w (Ret fun v w'=> ∃b p mp mt ms,v= .tuple #[ptrV b 0,ptrV p 0]∧Sat w' [ZY b (Hi p mp mt ms),Zq p 0 256 (fun _=>none),F]):= by
 refine Qq Tryz.func9 rfl Tryz.ntmps9 rfl ?_
 refine Qd (Qa (Qe rfl rfl (Qe rfl rfl (Qf (Qc (Qd (Qa ?_)))))))
 refine Qv cal_15 rfl (stNew (hS.sp [] rfl) 256 4096 4096 (by rw[hsl];rfl)) rfl ?_
 rintro _ w1 ⟨p,rfl,hS1⟩
 replace hS1:=hS1.jn rfl rfl
 refine Qe rfl rfl (Qf (Qc (Qd (Qd (Qa (Qb rfl rfl (ZJ Tryz.underlying25 rfl rfl rfl (Qf (Qc (QV rfl (Qr (Qc (Qd (Qa (Qb rfl rfl (Qv cal_16 rfl (Ic (hS1.sp [] rfl)) rfl ?_))))))))))))))))
 rintro _ w2 ⟨b,mp,mt,ms,rfl,hS2⟩
 replace hS2:=hS2.jn rfl rfl
 clear hS1
 exact Qb rfl rfl (Qe rfl rfl (Qe rfl rfl (Qf (Qc (Qu (Wx (.inr rfl) rfl rfl rfl (⟨_,rfl,b,p,_,_,_,rfl,hS2.pick [0,1,2] rfl⟩)))))))
end Go.Proofs.YtkcjfoaejijdoaaGreatDoor
namespace Go.Proofs.YtkcjfoaejijdoaaGreatDoor
open Go.RowKit M
set_option linter.unusedSectionVars false
variable [Inhabited SlW]
def allR (y:LfA):LfA:={y with rd:=y.rd ||| (BitVec.allOnes 64&&& ~~~y.wr)}
open Classical in
noncomputable def Tf (id:Int) (ob:Bs) (A:LvA) (p:Int):LvA:= if id≠0∧0≤p∧p<256 then ZA A id (ob,p) (allR (Zi A id (ob,p)))else A
def cpC (A:LvA) (id:Int) (ob:Bs) (p:Int):Bs:= if 0≤p∧p<256 then ZN A id (ob,p)else zer
noncomputable def Gg (id:Int) (A:LvA) (q:KD×Bs):LvA:= if id=0 then{A with pres:=Vn A.pres q.1 q.2}else ZA A id q.1 (allX (Zi A id q.1) q.2)
theorem Eo {A:LvA} {id:Int} {ob:Bs} {p:Int} {t:TrA} (ht:id≠0→A.tr id=some t) (j:KD):ZN (Tf id ob A p) id j=ZN A id j:= by
  unfold Tf
  split
  · rename_i h
    rw[DT h.1 (ht h.1)]
    split
    · rename_i e
      subst e
      rw[show(allR (Zi A id (ob,p))).own=(Zi A id (ob,p)).own from rfl,BK h.1 (ht h.1)]
    · rfl
  · rfl
theorem cpRd_tr {A:LvA} {id:Int} {ob:Bs} {p:Int} (ht: ∃t,A.tr id=some t): ∃t,(Tf id ob A p).tr id=some t:= by
  unfold Tf
  split
  · obtain⟨t,ht⟩:=ht
    exact⟨_, by rw[ZS ht]; exact Q1⟩
  · exact ht
def NoI (ex:Int→Int) (l:List Int):Prop:= ∀j,j≠0→ex j=(l.count j:Int)
theorem NoI.nn {ex:Int→Int} {l:List Int} (h:NoI ex l):NN ex:= fun j hj=> by rw[h j hj];omega
theorem NoI.add {ex:Int→Int} {l:List Int} {s:Int} (h:NoI ex l):NoI (fun j=>ex j+dl s j) (l++[s]):= fun j hj=> by
  show ex j+dl s j=_
  rw[h j hj,List.count_append]
  by_cases e:j=s
  · subst e; rw[Ww]; simp
  · have e2: ¬s=j:= fun q=>e q.symm
    rw[Ju e]; simp [List.count_cons,e2]
theorem NoI.ge {ex:Int→Int} {l:List Int} {s:Int} (h:NoI ex (s::l)) (h0:s≠0):1≤ex s:= by
  rw[h s h0]; simp;omega
theorem NoI.tail {ex:Int→Int} {l:List Int} {s:Int} (h:NoI ex (s::l)):NoI (fun j=>ex j -dl s j) l:= fun j hj=> by
  show ex j -dl s j=_
  rw[h j hj]
  by_cases e:j=s
  · subst e; rw[Ww]; simp
  · have e2: ¬s=j:= fun q=>e q.symm
    rw[Ju e]; simp [List.count_cons,e2]
theorem O6 {V:VS} {s:Int} (h0:V 0=none):H3 V s=refW V s:= by
  unfold refW
  split
  · rename_i e
    subst e
    unfold H3; rw[h0]
  · rfl
theorem LvX.held {ex:Int→Int} {m:Nat} {L:LvD} {V:VS} {s:Int} (h:LvX ex m L V) (hs:s≠0→1≤ex s):XP V s:= by
  by_cases h0:s=0
  · exact .inl h0
  · obtain⟨n,a,b⟩:=h.ref.1 s h0
    have :=hs h0
    exact .inr (h.ref.alive_of (by omega))
theorem UR {ex:Int→Int} {m:Nat} {L:LvD} {V:VS} {s:Int} {l:List Int} (h:LvX ex m L V) (hn:NoI ex l) (ha:XP V s):
    StepX ex m L V (fun j=>ex j+dl s j) m 0 0 L (H3 V s)∧NoI (fun j=>ex j+dl s j) (l++[s])∧Q8 L (H3 V s)=Q8 L V:= by
  rw[O6 h.zero]
  obtain⟨h1,h2⟩:=h.refW ha
  exact⟨⟨h1,rfl, fun c q=>q.refW, fun c q=>q,Pgs.ref⟩,hn.add,h2⟩
theorem Rw {ex:Int→Int} {m:Nat} {L:LvD} {V:VS} {s:Int} {l:List Int} (h:LvX ex m L V) (hn:NoI ex (s::l)):
    StepX ex m L V (fun j=>ex j -dl s j) m 0 0 L (Z2 V s)∧NoI (fun j=>ex j -dl s j) l∧Q8 L (Z2 V s)=Q8 L V:= by
  obtain⟨h1,h2⟩:=h.unr hn.nn fun h0=>hn.ge h0
  exact⟨⟨h1,rfl, fun c q=>q.unr, fun c q=>q,Pgs.unr h.zero⟩,hn.tail,h2⟩
end Go.Proofs.YtkcjfoaejijdoaaGreatDoor
namespace Go.Proofs.YtkcjfoaejijdoaaGreatDoor
open Go.RowKit M
set_option linter.unusedSectionVars false
variable [Inhabited SlW]
def PR (L:LvD) (ob:Bs) (p:Int):Int:= if 0≤p∧p<256 then L.pres (ob,p)else 0
def Gz (L:LvD) (ob:Bs) (p0:Int) (j:Nat):List Int:=(List.range j).map fun q:Nat=>PR L ob (p0+(q:Int))
theorem MD {L:LvD} {ob:Bs} {p0:Int} {j:Nat}:Gz L ob p0 (j+1)=Gz L ob p0 j++[PR L ob (p0+(j:Int))]:= by simp [Gz,List.range_succ]
theorem Hk {L:LvD} {ob:Bs} {p0:Int} {j:Nat}:(Gz L ob p0 j).length=j:= by simp [Gz]
theorem Ba {ex:Int→Int} {m:Nat} {L:LvD} {V:VS} (h:LvX ex m L V) (hx:NN ex) (ob:Bs) (p:Int):XP V (PR L ob p):= by
  unfold PR
  split
  · exact h.aliveX hx (.inl (ob,p))
  · exact .inl rfl
noncomputable def qad (p:KD→Int) (to:Bs) (base:Int) (l:List Int):Nat→(KD→Int)
  | 0=>p
  | q+1=>Zy (qad p to base l q) (to,base+(q:Int)) (l.getD q 0)
noncomputable def Ak (A:LvA) (to:Bs) (base:Int) (f:Nat→Bs):Nat→LvA
  | 0=>A
  | q+1=>Gg 0 (Ak A to base f q) ((to,base+(q:Int)),f q)
theorem Ca {l:List Int} {q:Nat} {s:Int} (h:l[q]? =some s):l.drop q=s::l.drop (q+1):= by
  obtain⟨h1,h2⟩:=XQ h
  rw[List.drop_eq_getElem_cons h1,h2]
theorem CC {l:List Int} {q:Nat} {s:Int} (h:l[q]? =some s):l.getD q 0=s:= by simp [List.getD,h]
theorem PT {w:World} {m:Nat} {b n Fr:Nat} {L:LvD} {V:VS} {F:Th} (hS:Sat w [ZY b L,Zq L.sp n Fr V,F]) (hn:n+2000≤60000000000) (hI:LvI m L V) (hm:m<Zp) (ob to:Bs) (first cnt aa:Int) (hf: -2147483648≤first∧first≤2147483648) (ha: -2147483648≤aa∧aa≤2147483648) (hc: -2147483648≤cnt∧cnt≤300):
    Calls Tryz.prog 41 #[ptrV b 0,intV 0,strV ob,intV first,intV cnt,strV to,intV aa] w (Ret fun v w'=> ∃L' V' q,StepI m L V m 0 256 L' V'∧L'.pres=qad L.pres to (aa+max 0 (-aa)) (Gz L ob (first+max 0 (-aa)) q) q∧Q8 L' V'=Ak (Q8 L V) to (aa+max 0 (-aa)) (fun i=>XT V ((Gz L ob (first+max 0 (-aa)) q).getD i 0)) q∧(max 0 (-aa)+(q:Int)=min cnt (256 -aa)∨(q=0∧min cnt (256 -aa)≤max 0 (-aa)))∧Sat w' [ZY b L',Zq L'.sp (n+2000) Fr V',F]):= by
 refine Qq Tryz.func41 rfl Tryz.ntmps41 rfl ?_
 refine Qd (Qd (Qa (Qb rfl rfl (Qb rfl rfl (Qv Hd rfl (Jd (hS.sp [0] rfl) 0) rfl ?_)))))
 rintro _ w1 ⟨rfl,hS1⟩
 replace hS1:=hS1.jn rfl rfl
 refine QR rfl rfl (Qf (Qc (Qi [6,5,4,3,2,1,0,27] rfl (QM rfl (fun h2=> ?_) (fun h2=> ?_)))))
 ·exact absurd h2 (by simp [Z8])
 refine Qr (Qc (Qd (Qa (Qb rfl rfl (AH rfl (by omega) (by omega) rfl ?_)))))
 refine Yj rfl rfl rfl (Qb rfl rfl (Qb rfl rfl (Hf rfl rfl (by omega) (by omega) rfl ?_)))
 refine HL rfl rfl rfl (Qe rfl rfl (Qe rfl rfl (Qf (Qc (Qi [6,5,3,2,1,0,14,15] rfl (Qd (Qa (Qe rfl rfl (Qf (Qc (Qd (Qd (Qa (Qb rfl rfl (Qe rfl rfl (Qf (Qc (Qw ?_))))))))))))))))))
 have hrn:=hS1.row_nil inC
 refine Xe (fun K0 E0 W0=> ∃(j:Nat) (V1:VS) (ex:Int→Int) (nv:Value),K0=((min cnt (256 -aa)) -(max 0 (-aa))).toNat -j∧E0=[(0,ptrV b 0),(1,intV 0),(2,strV ob),(3,intV first),(5,strV to),(6,intV aa),(14,intV (max 0 (-aa))),(15,intV (min cnt (256 -aa))),(16,nv),(17,intV ((max 0 (-aa))+(j:Int)))]∧Sat W0 [ZY b L,Zq L.sp (n+j) Fr V1,rowT inC nv (Gz L ob (first+(max 0 (-aa))) j),F]∧(j≤256)∧(j=0∨(max 0 (-aa))+(j:Int)≤(min cnt (256 -aa)))∧(LvX ex m L V1)∧(NoI ex (Gz L ob (first+(max 0 (-aa))) j))∧(Q8 L V1=Q8 L V)∧(∀c,AliveLe V c→AliveLe V1 c)∧(Pgs V V1)) (L0:=[(0,_),(1,_),(2,_),(3,_),(5,_),(6,_),(14,_),(15,_),(16,_),(17,_)]) (((min cnt (256 -aa)) -(max 0 (-aa))).toNat) (KJ rfl rfl rfl rfl rfl rfl rfl rfl rfl rfl) ⟨0,V, fun _=>0,_, by omega, by simp,hrn.pick [1,2,0,3] rfl, by omega,.inl rfl,hI, fun _ _=>rfl,rfl, fun _ q=>q,.refl⟩ ?_
 rintro _ _ w3 ⟨j,V1,ex,nv,rfl,rfl,hS3,hjb,hj,hI1,hno,hab,hal,hpg⟩
 refine Qd (Qd (Qa (Qb rfl rfl (Qb rfl rfl (Xb rfl rfl rfl (Qf (Qc (Qs rfl (fun h4=> ?_) (fun h4=> ?_)))))))))
 ·refine Qr (Qc (Qi [17,16,15,14,6,5,3,2,1,0] rfl (Qd (Qw (Qd (Qa (Qe rfl rfl (Qf (Qc (Qd (Qd (Qa (Qb rfl rfl (Qb rfl rfl (QK rfl rfl (by omega) (by omega) rfl ?_)))))))))))))))
  refine Qe rfl rfl (Qf (Qc (Qi [17,16,15,14,6,5,3,2,1,0,18,19] rfl (Qd (Qa (Qb rfl rfl (JJ rfl rfl rfl (Qb rfl rfl (QN 46 rfl (fun h5=> ?_) (fun h5=> ?_))))))))))
  ·refine Qj rfl rfl (QW h5) (Qb rfl rfl (Qj rfl rfl (QW h5) (Xb rfl rfl rfl (QC rfl (QW h5) rfl rfl (Qf (Qc (Qi [17,16,15,14,6,5,3,2,1,0,18,19,49] rfl (Qs rfl (fun h6=> ?_) (fun h6=> ?_)))))))))
   ·refine Qd (Qa (Qb rfl rfl (Qb rfl rfl (Zl rfl Yf Uh ZM rfl rfl (Xg hS3 ZM rfl rfl ?_)))))
    intro kb wk7 hk7
    clear hS3
    refine QY hk7 rfl rfl Xh rfl (by rfl) (i:=0) rfl (by decide) ?_
    intro wk8 hk8; dsimp only[List.set]at hk8
    clear hk7
    replace hk8:=XM (k:=(ob,first+((max 0 (-aa))+(j:Int)))) hk8
    refine Qf (Qc (Qi [17,16,15,14,6,5,3,2,1,0,18,20] rfl (Qd (Qd (Qa (Qb rfl rfl (X0 rfl rfl rfl (Qf (Qc (Qs rfl (fun h9=> ?_) (fun h9=> ?_)))))))))))
    ·exact absurd rfl h9
    refine Qr (Qc (Qa (Qb rfl rfl (Qb rfl rfl ?_))))
    refine XA rfl X9 Xh (by first | exact hk8.blk 0 rfl) (by first | decide | exact Xn rfl | (simp;done) | omega) rfl rfl ?_
    have hC10:=hk8.sp [1] rfl
    refine Qv YE rfl (Yo hC10 (hI.rank.ends hm) 0 (ob,first+((max 0 (-aa))+(j:Int)))) rfl ?_
    rintro _ w10 ⟨rfl,hS10⟩
    replace hS10:=hS10.jn rfl rfl; clear hC10
    clear hk8
    rw[show Xc L 0 (ob,first+((max 0 (-aa))+(j:Int)))=L.pres (ob,first+((max 0 (-aa))+(j:Int))) from Ye rfl]
    refine Qe rfl rfl (Qf (Qc (Qi [17,16,15,14,6,5,3,2,1,0,18] rfl (Qd (Qa (Qb rfl rfl (Qk rfl rfl (Qg rfl XF rfl (Qo rfl Xm (J4 hS10 0 rfl) rfl (Qb rfl rfl ?_))))))))))
    have hse:L.pres (ob,first+((max 0 (-aa))+(j:Int)))=PR L ob ((first+(max 0 (-aa)))+(j:Int)):= by unfold PR; rw[if_pos ⟨by omega, by omega⟩,Int.add_assoc]
    rw[hse]
    refine Qv UY rfl (DM (hS10.sp [2] rfl) (by omega) (PR L ob ((first+(max 0 (-aa)))+(j:Int)))) rfl ?_
    rintro _ w11 ⟨e0,rfl,hS11⟩
    replace hS11:=hS11.jn rfl rfl
    clear hS10
    refine Qf (Qc (Qi [17,16,15,14,6,5,3,2,1,0,18] rfl (Qa (Qb rfl rfl (Qb rfl rfl (Z4 inC [PR L ob ((first+(max 0 (-aa)))+(j:Int))] hS11 rfl Tryz.underlying47 Vi rfl rfl rfl rfl (by first | rfl | simp [RowC.cells,J7,X3]) rfl ?_))))))
    intro b12 w12 hS12
    clear hS11
    refine W3 inC 4 hS12 rfl rfl rfl (hS12.rd 0 rfl (by simp)) Tryz.underlying47 Tryz.underlying47 (by intro k hk; cases hk) KE rfl (by simp only[Hk,List.length_cons,List.length_nil];omega) rfl (by simp only[Hk,List.length_cons,List.length_nil];omega) ?_
    intro v13 w13 hS13; dsimp only[List.set]at hS13
    clear hS12
    have h1v13:v13.oneCell'=true:=hS13.own_one 4 rfl
    refine Qe rfl rfl (Qf (Ql (Qc (Qi [17,15,14,6,5,3,2,1,0,16] rfl (Qa (Qb rfl rfl (QK rfl rfl (by omega) (by omega) rfl ?_)))))))
    refine Qe rfl rfl (Qf ?_)
    obtain⟨hq1,hq2,hq3⟩:=UR hI1 hno (Ba hI1 hno.nn ob ((first+(max 0 (-aa)))+(j:Int)))
    rw[←MD]at hq2 hS13
    exact Q6 (L1:=[(0,_),(1,_),(2,_),(3,_),(5,_),(6,_),(14,_),(15,_),(16,_),(17,intV ((max 0 (-aa))+(j:Int)+1))]) (KJ rfl rfl rfl rfl rfl rfl rfl rfl rfl rfl) (k1:=((min cnt (256 -aa)) -(max 0 (-aa))).toNat -(j+1)) (by omega) ⟨j+1,_,_,_,rfl,(by rw[show(max 0 (-aa))+((j+1:Nat):Int)=(max 0 (-aa))+(j:Int)+1 by omega]),hS13.pick [2,1,4,5] rfl, by omega, by omega,hq1.inv,hq2,hq3.trans hab, fun c q=>hq1.al c (hal c q),hpg.trans hq1.pg⟩
   refine Qr (Qc (Qd (Qa (Qb rfl rfl (Qk rfl rfl (Qg rfl XF rfl (Qo rfl Xm (J4 hS3 0 rfl) rfl (Qb rfl rfl ?_))))))))
   have hse:PR L ob ((first+(max 0 (-aa)))+(j:Int))=0:= by unfold PR; rw[if_neg (by omega)]
   refine Qv UY rfl (DM (hS3.sp [1] rfl) (by omega) (0)) rfl ?_
   rintro _ w14 ⟨e0,rfl,hS14⟩
   replace hS14:=hS14.jn rfl rfl
   clear hS3
   rw[show H3 V1 0=H3 V1 (PR L ob ((first+(max 0 (-aa)))+(j:Int))) by rw[hse]]at hS14
   refine Qf (Qc (Qi [17,16,15,14,6,5,3,2,1,0,18] rfl (Qa (Qb rfl rfl (Qb rfl rfl (Z4 inC [0] hS14 rfl Tryz.underlying47 Vi rfl rfl rfl rfl (by first | rfl | simp [RowC.cells,J7,X3]) rfl ?_))))))
   intro b15 w15 hS15
   clear hS14
   refine W3 inC 3 hS15 rfl rfl rfl (hS15.rd 0 rfl (by simp)) Tryz.underlying47 Tryz.underlying47 (by intro k hk; cases hk) KE rfl (by simp only[Hk,List.length_cons,List.length_nil];omega) rfl (by simp only[Hk,List.length_cons,List.length_nil];omega) ?_
   intro v16 w16 hS16; dsimp only[List.set]at hS16
   clear hS15
   have h1v16:v16.oneCell'=true:=hS16.own_one 3 rfl
   refine Qe rfl rfl (Qf (Ql (Qc (Qi [17,15,14,6,5,3,2,1,0,16] rfl (Qa (Qb rfl rfl (QK rfl rfl (by omega) (by omega) rfl ?_)))))))
   refine Qe rfl rfl (Qf ?_)
   obtain⟨hq1,hq2,hq3⟩:=UR hI1 hno (Ba hI1 hno.nn ob ((first+(max 0 (-aa)))+(j:Int)))
   rw[show Gz L ob (first+(max 0 (-aa))) j++[0]=Gz L ob (first+(max 0 (-aa))) (j+1) by rw[MD,hse]]at hS16
   rw[←MD]at hq2
   exact Q6 (L1:=[(0,_),(1,_),(2,_),(3,_),(5,_),(6,_),(14,_),(15,_),(16,_),(17,intV ((max 0 (-aa))+(j:Int)+1))]) (KJ rfl rfl rfl rfl rfl rfl rfl rfl rfl rfl) (k1:=((min cnt (256 -aa)) -(max 0 (-aa))).toNat -(j+1)) (by omega) ⟨j+1,_,_,_,rfl,(by rw[show(max 0 (-aa))+((j+1:Nat):Int)=(max 0 (-aa))+(j:Int)+1 by omega]),hS16.pick [2,1,3,4] rfl, by omega, by omega,hq1.inv,hq2,hq3.trans hab, fun c q=>hq1.al c (hal c q),hpg.trans hq1.pg⟩
  refine Qh rfl rfl (Q0 h5) rfl (Qh rfl rfl (Q0 h5) rfl (QG rfl (Q0 h5) rfl rfl (Qf (Qc (Qi [17,16,15,14,6,5,3,2,1,0,18,19,49] rfl (QV rfl (Qr (Qc (Qd (Qa (Qb rfl rfl (Qk rfl rfl (Qg rfl XF rfl (Qo rfl Xm (J4 hS3 0 rfl) rfl (Qb rfl rfl ?_)))))))))))))))
  have hse:PR L ob ((first+(max 0 (-aa)))+(j:Int))=0:= by unfold PR; rw[if_neg (by omega)]
  refine Qv UY rfl (DM (hS3.sp [1] rfl) (by omega) (0)) rfl ?_
  rintro _ w17 ⟨e0,rfl,hS17⟩
  replace hS17:=hS17.jn rfl rfl
  clear hS3
  rw[show H3 V1 0=H3 V1 (PR L ob ((first+(max 0 (-aa)))+(j:Int))) by rw[hse]]at hS17
  refine Qf (Qc (Qi [17,16,15,14,6,5,3,2,1,0,18] rfl (Qa (Qb rfl rfl (Qb rfl rfl (Z4 inC [0] hS17 rfl Tryz.underlying47 Vi rfl rfl rfl rfl (by first | rfl | simp [RowC.cells,J7,X3]) rfl ?_))))))
  intro b18 w18 hS18
  clear hS17
  refine W3 inC 3 hS18 rfl rfl rfl (hS18.rd 0 rfl (by simp)) Tryz.underlying47 Tryz.underlying47 (by intro k hk; cases hk) KE rfl (by simp only[Hk,List.length_cons,List.length_nil];omega) rfl (by simp only[Hk,List.length_cons,List.length_nil];omega) ?_
  intro v19 w19 hS19; dsimp only[List.set]at hS19
  clear hS18
  have h1v19:v19.oneCell'=true:=hS19.own_one 3 rfl
  refine Qe rfl rfl (Qf (Ql (Qc (Qi [17,15,14,6,5,3,2,1,0,16] rfl (Qa (Qb rfl rfl (QK rfl rfl (by omega) (by omega) rfl ?_)))))))
  refine Qe rfl rfl (Qf ?_)
  obtain⟨hq1,hq2,hq3⟩:=UR hI1 hno (Ba hI1 hno.nn ob ((first+(max 0 (-aa)))+(j:Int)))
  rw[show Gz L ob (first+(max 0 (-aa))) j++[0]=Gz L ob (first+(max 0 (-aa))) (j+1) by rw[MD,hse]]at hS19
  rw[←MD]at hq2
  exact Q6 (L1:=[(0,_),(1,_),(2,_),(3,_),(5,_),(6,_),(14,_),(15,_),(16,_),(17,intV ((max 0 (-aa))+(j:Int)+1))]) (KJ rfl rfl rfl rfl rfl rfl rfl rfl rfl rfl) (k1:=((min cnt (256 -aa)) -(max 0 (-aa))).toNat -(j+1)) (by omega) ⟨j+1,_,_,_,rfl,(by rw[show(max 0 (-aa))+((j+1:Nat):Int)=(max 0 (-aa))+(j:Int)+1 by omega]),hS19.pick [2,1,3,4] rfl, by omega, by omega,hq1.inv,hq2,hq3.trans hab, fun c q=>hq1.al c (hal c q),hpg.trans hq1.pg⟩
 refine QS (Qp (Qp (Qz (Qc (Qi [16,14,6,5,1,0] rfl (Qd ?_))))))
 obtain⟨an,cn,hvn,_⟩:=hS3.own_shape 2 rfl; obtain rfl:=hvn
 refine Qa (Qb rfl rfl ?_)
 first | refine X5 Tryz.underlying47 rfl rfl ?_ | refine JB 2 hS3 Tryz.underlying47 rfl rfl rfl ?_
 refine Qb rfl rfl (Qf (Qc (Qw ?_)))
 refine Xe (fun K0 E0 W0=> ∃(q:Nat) (L1:LvD) (V2:VS) (ex2:Int→Int),K0=j -q∧E0=[(0,ptrV b 0),(1,intV 0),(5,strV to),(6,intV aa),(14,intV (max 0 (-aa))),(85,.slice an (Gz L ob (first+(max 0 (-aa))) j).length cn),(86,intV ((Gz L ob (first+(max 0 (-aa))) j).length:Int)),(87,intV (q:Int))]∧Sat W0 [ZY b L1,Zq L1.sp (n+j+5*q) Fr V2,rowT inC (.slice an (Gz L ob (first+(max 0 (-aa))) j).length cn) (Gz L ob (first+(max 0 (-aa))) j),F]∧(q≤j)∧(LvX ex2 m L1 V2)∧(NoI ex2 ((Gz L ob (first+(max 0 (-aa))) j).drop q))∧(L1.sp=L.sp)∧(L1.pres=qad L.pres to (aa+(max 0 (-aa))) (Gz L ob (first+(max 0 (-aa))) j) q)∧(Q8 L1 V2=Ak (Q8 L V) to (aa+(max 0 (-aa))) (fun q=>XT V ((Gz L ob (first+(max 0 (-aa))) j).getD q 0)) q)∧(∀c,AliveLe V c→AliveLe V2 c)∧(∀c,SzLe L c→SzLe L1 (c+q))∧(Pgs V V2)) (L0:=[(0,_),(1,_),(5,_),(6,_),(14,_),(85,_),(86,_),(87,_)]) (j) (LI rfl rfl rfl rfl rfl rfl rfl rfl) ⟨0,L,V1,ex,rfl,rfl,hS3.pick [0,1,2,3] rfl, by omega,hI1,hno,rfl,rfl,hab,hal, fun _ h=>h,hpg⟩ ?_
 rintro _ _ w20 ⟨q,L1,V2,ex2,rfl,rfl,hS20,hq,hI2,hno2,hsp,hp2,hab2,hal2,hsz2,hpg2⟩
 refine Qd (Qa (Xb rfl rfl rfl (Qf (Qc (Qd (Qs rfl (fun h21=> ?_) (fun h21=> ?_)))))))
 ·obtain⟨s,hs⟩: ∃s,(Gz L ob (first+(max 0 (-aa))) j)[q]? =some s:=⟨_,Zd (by omega)⟩; have hln:(Gz L ob (first+(max 0 (-aa))) j).length=j:=Hk; rw[Ca hs]at hno2; have hsa:=hI2.held (s:=s) fun h0=>hno2.ge h0
  refine Qr (Qc (Qd (Qw (Qd (Qa (Qb rfl rfl (Xu inC 2 q hS20 rfl rfl rfl (by first | rfl | omega) hs Ge rfl ?_)))))))
  intro bx22 capx22 hvx22
  refine Z1 2 q 0 hS20 rfl hvx22 rfl rfl hs QO rfl rfl (Qe rfl rfl (Qe rfl rfl (Qf (Qc (Qi [87,86,85,14,6,5,1,0,22,23] rfl (Qd (Qa (Qb rfl rfl (Qb rfl rfl (Qb rfl rfl (Qb rfl rfl (Qb rfl rfl (QK rfl rfl (by omega) (by omega) rfl ?_)))))))))))))
  refine Qb rfl rfl (QK rfl rfl (by omega) (by omega) rfl ?_)
  refine Zl rfl Yf Uh ZM rfl rfl (Qb rfl rfl (Qv LB rfl (Pc (hS20.sp [0,1] rfl) (by omega) hI2 hno2.nn hsa (to,(aa+(max 0 (-aa)))+(q:Int))) rfl ?_))
  rintro _ w23 ⟨L2,V3,hr1,hr2,hr3,hS23⟩
  replace hS23:=hS23.jn rfl rfl
  clear hS20
  refine Qf (Qc (Qi [87,86,85,14,6,5,1,0,23] rfl (Qa (Qb rfl rfl (Qk rfl rfl (Qg rfl XF rfl (Qo rfl Xm (J4 hS23 0 rfl) rfl (Qb rfl rfl (Qv Gm rfl (R1 (hS23.sp [1] rfl) (by omega) s) rfl ?_)))))))))
  rintro _ w24 ⟨e0,rfl,hS24⟩
  replace hS24:=hS24.jn rfl rfl
  clear hS23
  refine Qf (Ql (Qc (Qi [87,86,85,14,6,5,1,0] rfl (Qa (QK rfl rfl (by omega) (by omega) rfl ?_)))))
  refine Qb rfl rfl (Qf ?_)
  obtain⟨hu1,hu2,hu3⟩:=Rw hr1.inv hno2
  exact Q6 (L1:=[(0,_),(1,_),(5,_),(6,_),(14,_),(85,_),(86,_),(87,intV ((q+1:Nat):Int))]) (LI rfl rfl rfl rfl rfl rfl rfl rfl) (k1:=j -(q+1)) (by omega) ⟨q+1,_,_,_,rfl,rfl,hS24.pick [1,0,2,3] rfl, by omega,hu1.inv,hu2,hu1.sp.trans (hr1.sp.trans hsp), by rw[hr3,hp2,qad,CC hs], by rw[hu3,hr2,hab2,Ak]; simp only[Gg,if_true,CC hs]; rw[(hpg2 s hsa).2], fun c q2=>hu1.al _ (hr1.al _ (hal2 c q2)), fun c q2=> by have :=hu1.sz _ (hr1.sz _ (hsz2 c q2)); exact this.mono (by omega),(hpg2.trans hr1.pg).trans hu1.pg⟩
 refine QS (Qp (Qp (Qz (ZB (.inl rfl) rfl ?_))))
 have hln:(Gz L ob (first+(max 0 (-aa))) j).length=j:=Hk
 have hqj:q=j:= by omega
 subst hqj
 have hjj:q≤256:= by omega
 exact⟨_,rfl,L1,V2,q,⟨hI2.ext fun i hi=> by rw[hno2 i hi,List.drop_eq_nil_of_le (by rw[Hk];omega)];rfl,hsp, fun c h=>(hal2 c h).mono (by omega), fun c h=>(hsz2 c h).mono (by omega)⟩,hp2,hab2, by omega,(X1 (m:=n+2000) (by omega) (hS20.pick [1,0,3] rfl)).reorder [1,0,2] rfl⟩
end Go.Proofs.YtkcjfoaejijdoaaGreatDoor
namespace Go.Proofs.YtkcjfoaejijdoaaGreatDoor
open Go.RowKit M
set_option linter.unusedSectionVars false
variable [Inhabited SlW]
section
variable {ex:Int→Int} {L L1 L':LvD} {V V1 V':VS} {id:Int} {t t1 t':TrD} {k:KD} {x y x1:LfD} {m:Nat}
theorem E2 (hI:LvX ex m L V) (ht:L.tr id=some t) (hx:t.lv k=some x) (hb:y.base=x.base) (ho:y.own=x.own) (hg:Sl (Wy V y)):
    LvX ex m (Zs L id t k y) V∧Q8 (Zs L id t k y) V=ZA (Q8 L V) id k (Wy V y):= by
  generalize hL':Zs L id t k y=L'
  have hP:L'.pres=L.pres:= by subst hL';rfl
  have hT:L'.tr=Xz L.tr id (some {t with lv:=Xz t.lv k (some y)}):= by subst hL';rfl
  have hf: ∀q,Xw L' q=Xw L q:= fun q=> by
    rw[Hs (x:=y) hP hT ht rfl,hb,ho]
    rw[Hy (f:=Xw L) (v:=x.base) (by rw[XB ht hx];rfl),Hy (by rw[XB ht hx];rfl)]
  have e1:Q8 L' V=ZA (Q8 L V) id k (Wy V y):=YJ hP hT ht rfl fun _ _ _=>rfl
  exact⟨⟨hI.ref.fn hf, by rw[hT]; exact hI.rank.same (WZ ht rfl), by rw[e1]; exact hI.agree.put hg⟩,e1⟩
theorem Tx (hT:TouR L V id t k L1 V1 t1 x1) (ht:L.tr id=some t) (hI:LvX ex m L V) (hx:NN ex) {rd wr:BitVec 64} (hw: ∀j,j<64→wr.getLsbD j=false→x1.wr.getLsbD j=false):
    StepX ex m L V ex m 0 1 (Zs L1 id t1 k {x1 with rd:=rd,wr:=wr}) V1∧Q8 (Zs L1 id t1 k {x1 with rd:=rd,wr:=wr}) V1=ZA (Q8 L V) id k {Zi (Q8 L V) id k with rd:=rd,wr:=wr}:= by
  obtain⟨h1,h2,h3,h4,h5⟩:=hT.invX ht hI hx
  obtain⟨a1,a2⟩:=E2 (y:={x1 with rd:=rd,wr:=wr}) h1 (hT.tr ht) hT.lv rfl rfl (fun j hj h=>(h1.agree id _ k _ (Zv (hT.tr ht)) (ZI hT.lv)) j hj (hw j hj h))
  refine⟨⟨a1,hT.sp, fun c q=>(h4 c q).mono (by omega), fun c q=>(hT.sz ht q).putOld (hT.tr ht) hT.lv rfl rfl,hT.pgs⟩, ?_⟩
  rw[a2,h3,Ut]
  congr 1
  rw[←h2];rfl
theorem qbb (hT:TouR L V id t k L1 V1 t1 x1) (ht:L.tr id=some t) (hI:LvX ex m L V) (hx:NN ex):
    StepX ex m L V ex m 0 1 (Zs L1 id t1 k {x1 with rd:=x1.rd ||| (BitVec.allOnes 64&&& ~~~x1.wr)}) V1∧Q8 (Zs L1 id t1 k {x1 with rd:=x1.rd ||| (BitVec.allOnes 64&&& ~~~x1.wr)}) V1=ZA (Q8 L V) id k (allR (Zi (Q8 L V) id k)):= by
  obtain⟨h1,h2,h3,h4,h5⟩:=hT.invX ht hI hx
  obtain⟨a1,a2⟩:=Tx hT ht hI hx (rd:=x1.rd ||| (BitVec.allOnes 64&&& ~~~x1.wr)) (wr:=x1.wr) fun _ _ h=>h
  have e:x1.wr=(Zi (Q8 L V) id k).wr:= by rw[←h2];rfl
  have e2:x1.rd=(Zi (Q8 L V) id k).rd:= by rw[←h2];rfl
  refine⟨a1, ?_⟩
  rw[a2,e,e2];rfl
theorem orR_fin (hT:TouR L V id t k L1 V1 t1 x1) (ht:L.tr id=some t) (hI:LvX ex m L V) (hx:NN ex) (r:BitVec 64):
    StepX ex m L V ex m 0 1 (Zs L1 id t1 k {x1 with rd:=x1.rd ||| (r&&& ~~~x1.wr)}) V1∧Q8 (Zs L1 id t1 k {x1 with rd:=x1.rd ||| (r&&& ~~~x1.wr)}) V1=ZA (Q8 L V) id k (orR (Zi (Q8 L V) id k) r):= by
  obtain⟨h1,h2,h3,h4,h5⟩:=hT.invX ht hI hx
  obtain⟨a1,a2⟩:=Tx hT ht hI hx (rd:=x1.rd ||| (r&&& ~~~x1.wr)) (wr:=x1.wr) fun _ _ h=>h
  have e:x1.wr=(Zi (Q8 L V) id k).wr:= by rw[←h2];rfl
  have e2:x1.rd=(Zi (Q8 L V) id k).rd:= by rw[←h2];rfl
  refine⟨a1, ?_⟩
  rw[a2,e,e2];rfl
end
end Go.Proofs.YtkcjfoaejijdoaaGreatDoor
