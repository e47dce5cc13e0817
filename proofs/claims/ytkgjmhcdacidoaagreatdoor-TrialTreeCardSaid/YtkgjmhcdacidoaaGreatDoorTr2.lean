/- trials: lists, plain -/
import Derived.Test.YtkgjmhcdacidoaaGreatDoorLv1
set_option linter.unusedSectionVars false
set_option linter.unusedVariables false
set_option maxRecDepth 100000
set_option maxHeartbeats 80000000000
namespace Go.Proofs.YtkgjmhcdacidoaaGreatDoor
open Go.RowKit M Proofs.Tryz
def IdsOf (T:Nodes) (ids:List Int):Prop:=ids.Pairwise (· < ·)∧ ∀i,i∈ids↔i≠0∧T i≠none
theorem MR: ∀{l m:List Int},l.Pairwise (· < ·)→m.Pairwise (· < ·)→(∀i,i∈l↔i∈m)→l=m
  | [],[],_,_,_=>rfl
  | [],a::m,_,_,h=>absurd ((h a).2 List.mem_cons_self) (by simp)
  | a::l,[],_,_,h=>absurd ((h a).1 List.mem_cons_self) (by simp)
  | a::l,b::m,hl,hm,h=> by
    obtain⟨h1,h2⟩:=List.pairwise_cons.1 hl
    obtain⟨h3,h4⟩:=List.pairwise_cons.1 hm
    have e:a=b:= by
      rcases List.mem_cons.1 ((h a).1 List.mem_cons_self)with e | e
      · exact e
      · rcases List.mem_cons.1 ((h b).2 List.mem_cons_self)with e2 | e2
        · exact e2.symm
        · have :=h1 b e2; have :=h3 a e;omega
    subst e
    rw[MR h2 h4 fun i=> ?_]
    constructor
    · intro hi
      rcases List.mem_cons.1 ((h i).1 (List.mem_cons_of_mem _ hi))with e | e
      · subst e; have :=h1 i hi;omega
      · exact e
    · intro hi
      rcases List.mem_cons.1 ((h i).2 (List.mem_cons_of_mem _ hi))with e | e
      · subst e; have :=h3 i hi;omega
      · exact e
theorem IdsOf.uniq {T:Nodes} {l m:List Int} (h:IdsOf T l) (h2:IdsOf T m):l=m:=MR h.1 h2.1 fun i=>(h.2 i).trans (h2.2 i).symm
theorem IdsOf.get {T:Nodes} {ids:List Int} (h:IdsOf T ids) {k:Nat} {i:Int} (hk:ids[k]? =some i):i≠0∧ ∃n,T i=some n:= by
  obtain⟨a,b⟩:=(h.2 i).1 (List.mem_of_getElem? hk)
  exact⟨a,Option.ne_none_iff_exists'.1 b⟩
theorem IdsOf.begin {T:Nodes} {ids:List Int} {last:Int} {x:NodeD} (hI:TrI T last) (h:IdsOf T ids):IdsOf (QO T (last+1) (some x)) (ids++[last+1]):= by
  refine⟨List.pairwise_append.2 ⟨h.1,List.pairwise_singleton _ _, fun a ha c hc=> ?_⟩, fun i=> ?_⟩
  · obtain⟨a0,a1⟩:=(h.2 a).1 ha
    obtain⟨n,hn⟩:=Option.ne_none_iff_exists'.1 a1
    have :=hI.pos hn a0
    rw[List.mem_singleton]at hc
    omega
  · rw[List.mem_append,List.mem_singleton,h.2]
    have h0:=hI.last0
    by_cases e:i=last+1
    · subst e
      rw[Qu]
      exact⟨fun _=>⟨by omega, by simp⟩, fun _=> .inr U⟩
    · rw[Qz e]
      exact⟨fun q=>q.resolve_right e,.inl⟩
theorem TrI.child_gt {T:Nodes} {last id j:Int} (h:TrI T last) (hc:ChildOf T id j):id<j:= by
  obtain⟨n,a,b,c⟩:=hc
  have :=(h.par a b).1
  omega
theorem BJ {T:Nodes} {id:Int} (h: ∀j,¬ChildOf T id j):abS T (fun j=>j=id)=QO T id none:= by
  rw[←CC]
  congr 1
  have e:abS T (ChildOf T id)=abS T (fun _=>False):=Vi fun j=>⟨fun q=>h j q, fun q=>q.elim⟩
  rw[e,CD]
def Zh (T:Nodes) (ids:List Int) (who:Int):List Int:=ids.filter fun i=> match T i with | none=>false | some n=>decide (n.par=who)
theorem TE {T:Nodes} {ids:List Int} {who:Int} (h:IdsOf T ids) (j:Int):j∈Zh T ids who↔ChildOf T who j:= by
  unfold Zh ChildOf
  rw[List.mem_filter,h.2]
  cases q:T j with
  | none=> simp
  | some n=> simp
theorem Bi {T:Nodes} {ids:List Int} {who:Int} (h:IdsOf T ids):Zh T ids who=[]↔ ∀j,¬ChildOf T who j:= by
  rw[List.eq_nil_iff_forall_not_mem]
  exact forall_congr' fun j=>not_congr (TE h j)
theorem LO {T:Nodes} {ids:List Int} {who:Int} (h:IdsOf T ids):(Zh T ids who).Pairwise (· < ·):=h.1.sublist List.filter_sublist
def DepI (T:Nodes):Prop:= ∀i n,T i=some n→0≤n.dep∧n.dep≤8
theorem DepI.abS {T:Nodes} {D:Int→Prop} (h:DepI T):DepI (abS T D):= fun i n q=>h i n (Yc q).2
theorem GH {T:Nodes}: ∀{k:Nat} {j:Int},Dg T (k+1) j=NQ T (Dg T k j)
  | 0,_=>rfl
  | k+1,j=>GH (k:=k) (j:=NQ T j)
theorem Fu {T:Nodes} {last who j:Int} {ids:List Int} (hI:TrI T last) (h:IdsOf T ids) (hw:who≠0):(∃k,k≤ids.length∧Dg T k j=who)↔Blw T who j:=
  (Fv hI hw fun i n q h0=>(h.2 i).2 ⟨h0, by rw[q]; simp⟩).symm
theorem TL {T:Nodes} {who j:Int} {n:NodeD} (hj:T j=some n):abS T (fun i=>i=who) j=none↔Blw T who j:= by
  by_cases h:Blw T who j
  · rw[YH (D:= fun i=>i=who) ⟨who,rfl,h⟩]; simp [h]
  · rw[Yj fun ⟨d,a,b⟩=> by subst a; exact h b,hj]; simp [h]
variable [Inhabited SlW]
noncomputable def We (L:LvD) (id:Int) (t:TrD) (k:KD) (x:LfD):LvD:={L with tr:=QO L.tr id (some {t with lv:=QO t.lv k (some x)})}
theorem Ht {w:World} {b:Nat} {L:LvD} {id:Int} {t:TrD} {k:KD} {x:LfD} {As:List Th} (ht:L.tr id=some t) (hx:t.lv k=some x) (h:Sat w (WU b L::As)):
    Sat w (QE x.ad [intV x.base,intV x.own,Zr x.rd,Zr x.wr]::X6 KT (QO t.lv k none)::QE t.ad [intV t.parent,.map (some t.ml),.map (some t.md)]::Q6 X0 t.ml (XC LfD.ad t.lv)::Q6 Zl t.md (JF t.dr)::X6 VW (QO L.tr id none)::QE b [ptrV L.sp 0,.map (some L.mp),.map (some L.mt),intV L.cur,.map (some L.ms)]::Q6 X0 L.mp (Z3 L.pres)::Q6 QX L.mt (XC TrD.ad L.tr)::Q6 QX L.ms (JF L.sh)::As):= by
  have h1:=ZQ (i:=id) (t:=t) ((Zb h).perm ((List.Perm.cons _ (List.Perm.cons _ (List.Perm.swap _ _ _))).trans ((List.Perm.cons _ (List.Perm.swap _ _ _)).trans (List.Perm.swap _ _ _)))) ht
  have h2:=Hg (k:=k) (x:=x) (h1.perm ((List.Perm.cons _ (List.Perm.swap _ _ _)).trans (List.Perm.swap _ _ _))) hx
  exact h2
theorem J4 {w:World} {b:Nat} {L:LvD} {id:Int} {t:TrD} {k:KD} {x y:LfD} {As:List Th} (ht:L.tr id=some t) (hx:t.lv k=some x) (hy:y.ad=x.ad)
    (h:Sat w (QE y.ad [intV y.base,intV y.own,Zr y.rd,Zr y.wr]::X6 KT (QO t.lv k none)::QE t.ad [intV t.parent,.map (some t.ml),.map (some t.md)]::Q6 X0 t.ml (XC LfD.ad t.lv)::Q6 Zl t.md (JF t.dr)::X6 VW (QO L.tr id none)::QE b [ptrV L.sp 0,.map (some L.mp),.map (some L.mt),intV L.cur,.map (some L.ms)]::Q6 X0 L.mp (Z3 L.pres)::Q6 QX L.mt (XC TrD.ad L.tr)::Q6 QX L.ms (JF L.sh)::As)):Sat w (WU b (We L id t k y)::As):= by
  have h1:=LN (x:=y) h
  rw[←WI hx hy]at h1
  have h2:=Kh (t:={t with lv:=QO t.lv k (some y)}) (i:=id) (T:=L.tr) (h1.perm ((List.Perm.swap _ _ _).trans (List.Perm.cons _ (List.Perm.swap _ _ _))))
  rw[←WI (ad:=TrD.ad) (f:=L.tr) (k:=id) (x:=t) (y:={t with lv:=QO t.lv k (some y)}) ht U]at h2
  exact Xx (L:=We L id t k y) (h2.perm ((List.Perm.swap _ _ _).trans ((List.Perm.cons _ (List.Perm.swap _ _ _)).trans (List.Perm.cons _ (List.Perm.cons _ (List.Perm.swap _ _ _))))))
theorem Li {L:LvD} {id:Int} {t:TrD} {k:KD} {x:LfD}:(We L id t k x).tr id=some {t with lv:=QO t.lv k (some x)}:=Qu
theorem DK {T T':Int→Option TrD} (h: ∀i,(T' i).map TrD.parent=(T i).map TrD.parent): ∀n i,HN T n i→HN T' n i
  | 0,_,q=>q
  | n+1,i,q=> by
    rcases q with q | q
    · exact .inl q
    · refine .inr ?_
      have h1:=h i
      cases a:T i with
      | none=> rw[a]at h1; cases c:T' i with
        | none=>trivial
        | some y=> rw[c]at h1; cases h1
      | some x=>
        rw[a]at h1 q
        cases c:T' i with
        | none=>trivial
        | some y=>
          rw[c]at h1
          have e:y.parent=x.parent:= by simpa using h1
          show HN T' n y.parent
          rw[e]; exact DK h n _ q
theorem JA {T:Int→Option TrD} {i:Int} {t t':TrD} (ht:T i=some t) (hp:t'.parent=t.parent): ∀j,((QO T i (some t')) j).map TrD.parent=(T j).map TrD.parent:= fun j=> by
  by_cases e:j=i
  · subst e; rw[Qu,ht]; simp [hp]
  · rw[Qz e]
def Y8 (t:TrD) (k:KD) (s:Int) (a:Nat):LfD:=⟨a,s,s,0#64, if t.dr k.1=true then BitVec.allOnes 64 else 0#64⟩
def TouR (L:LvD) (V:VS) (id:Int) (t:TrD) (k:KD) (L':LvD) (V':VS) (t':TrD) (x':LfD):Prop:=
  (t.lv k=some x'∧L'=L∧V'=V∧t'=t)∨(t.lv k=none∧ ∃a,x'=Y8 t k (X4 L id k) a∧t'={t with lv:=QO t.lv k (some x')}∧L'={L with tr:=QO L.tr id (some t'),sh:=Y1 (Y1 L.sh (X4 L id k)) (X4 L id k)}∧V'=refW (refW V (X4 L id k)) (X4 L id k))
section
variable {L L':LvD} {V V':VS} {id:Int} {t t':TrD} {k:KD} {x':LfD}
theorem TouR.tr (h:TouR L V id t k L' V' t' x') (ht:L.tr id=some t):L'.tr id=some t':= by
  rcases h with⟨_,rfl,_,rfl⟩ | ⟨_,a,_,_,rfl,_⟩
  · exact ht
  · exact Qu
theorem TouR.lv (h:TouR L V id t k L' V' t' x'):t'.lv k=some x':= by
  rcases h with⟨h,rfl,_,rfl⟩ | ⟨_,a,_,rfl,_,_⟩
  · exact h
  · exact Qu
theorem TouR.sp (h:TouR L V id t k L' V' t' x'):L'.sp=L.sp:= by
  rcases h with⟨_,rfl,_,_⟩ | ⟨_,a,_,_,rfl,_⟩<;>rfl
theorem TouR.ends (h:TouR L V id t k L' V' t' x') (ht:L.tr id=some t) (hE: ∀i,HN L.tr Wd i): ∀i,HN L'.tr Wd i:= by
  rcases h with⟨_,rfl,_,_⟩ | ⟨_,a,_,rfl,rfl,_⟩
  · exact hE
  · exact fun i=>DK (JA (t':={t with lv:=QO t.lv k (some x')}) ht U) _ _ (hE i)
theorem TouR.sees (h:TouR L V id t k L' V' t' x') (ht:L.tr id=some t) (h0:id≠0):X4 L' id k=x'.own:=UM h0 (h.tr ht) h.lv
end
def Rn (ob:Bs) (a:Int):Value:= if 0≤a∧a<16384 then .tuple #[X0 (ob,a/ 64),Zr (1#64<<<(a%64).toNat),.bool true]else .tuple #[X0 ([],0),Zr 0#64,.bool false]
def OwnP (L:LvD) (V:VS) (k:KD) (Fr:Nat) (L':LvD) (V':VS) (s e:Int):Prop:=
  (e=0∧s=L.pres k∧s≠0∧Z9 V s=1∧L'=L∧V'=V)∨(e=6∧s=0∧YK V Fr∧L'=L∧V'=V)∨
  (e=0∧1≤s∧V s=none∧ ¬(L.pres k≠0∧Z9 V (L.pres k)=1)∧V'=Z7 (QO V s (some (1,Zf V (L.pres k)))) (L.pres k)∧L'={L with pres:=Wm L.pres k s,sh:=YX (QO V s (some (1,Zf V (L.pres k)))) L.sh (L.pres k)})
def OwnT (L:LvD) (V:VS) (id:Int) (t:TrD) (k:KD) (x:LfD) (Fr:Nat) (L':LvD) (V':VS) (s e:Int):Prop:=
  (e=0∧s=x.own∧s≠0∧Z9 V s=1∧L'=L∧V'=V)∨(e=6∧s=0∧YK V Fr∧L'=L∧V'=V)∨
  (e=0∧1≤s∧V s=none∧ ¬(x.own≠0∧Z9 V x.own=1)∧V'=Z7 (QO V s (some (1,Zf V x.own))) x.own∧L'=We {L with sh:=YX (QO V s (some (1,Zf V x.own))) L.sh x.own} id t k {x with own:=s})
theorem Dx {κ α:Type} {ad:α→Nat} {f:κ→Option α} {k:κ} {x:α} {a:Nat} (h:ad x=a):upd (XC ad f) k (some (ptrV a 0))=XC ad (QO f k (some x)):= by subst h; exact Km
theorem F9 {w:World} {X:LfD} {a:Nat} {b1 o1:Int} {r1 w1:BitVec 64} {As:List Th} (hX:X=⟨a,b1,o1,r1,w1⟩) (h:Sat w (QE a [intV b1,intV o1,Zr r1,Zr w1]::As)):Sat w (QE X.ad [intV X.base,intV X.own,Zr X.rd,Zr X.wr]::As):= by subst hX; exact h
theorem Z4 {w:World} {kb:Nat} {k:KD} {As:List Th} (h:Sat w (QE kb (X0 k).cells.toList::As)):Sat w (QE kb [strV k.1,intV k.2]::As):=h
theorem touch_y {w:World} {b n Fr:Nat} {L:LvD} {V:VS} {F:Th} (hS:Sat w [WU b L,ZT L.sp n Fr V,F]) (hn:n≤60000000000) (hE: ∀i,HN L.tr Wd i) {id:Int} {t:TrD} (ht:L.tr id=some t) {k:KD} {x:LfD} (hx:t.lv k=some x):
    Calls prog 59 #[ptrV b 0,intV id,X0 k] w (Ret fun v w'=>v=ptrV x.ad 0∧Sat w' [WU b L,ZT L.sp n Fr V,F]):= by
 replace hS:=Zb hS
 refine Qn func59 U ntmps59 U ?_
 refine Qe (Qa (XV hS U U U ?_))
 intro kb w1 j1
 replace j1:=Z4 j1
 refine Qd U U (Qf (Qc (Qe (Qa (Qb U U (Qi U U (Qg U ZJ U (Qo U WN (by first | assumption | exact j1.cell 0 U U | exact j1.cell 1 U U) U ?_))))))))
 refine Qb U U (X8 (k:=id) 3 j1 keysInt underlying106 U U U Yf (u:=(ptrV t.ad 0)) (XJ ht) U (Qd U U (Qf (Qc (Qh [1,0,5,6,7] U (Qe (Qe ?_)))))))
 have j2:=ZQ (j1.pick [4,0,1,2,3,5,6,7] U) ht
 have j3:=j2.drew
 refine QH [0,1,2,3,4,5,6] [] ZW (by kernel_rfl) ?_
 refine QJ U U U (Xd U U U (QP U U U ZI (Q3 U U U (Qm U WF (by first | assumption | exact j3.cell 0 U U | exact j3.cell 5 U U | exact j3.cell 6 U U)) ?_)))
 refine Q3 U U U (X3 U X2 Xf (by first | exact j3.blk 0 U | exact j3.blk 5 U | exact j3.blk 6 U) (by first | decide | exact Q7 U | (simp;done) | omega) U) ?_
 refine Q3 U U U (Xt (k:=k) 1 j3 keysKey underlying110 U U U Yz (u:=(ptrV x.ad 0)) (XJ hx)) (Zo U U U (VC.nil (Qc (Qh [1,0,5,6,7,8] U (Qe (Qa (Qb U U (ZB underlying116 U U U (Qf (Qc (XD U (Qe (Qa (Qb U U (Qd U U (Qf (Qc (Qv (Qr (QR (.inr U) U U ?_))))))))))))))))))))
 have j4:=ZR ht (j3.pick [0,1,2,3,4,5,6,7,8,9,10,11] U)
 exact⟨_,U,U,Xx (j4.pick [2,3,4,0,5,6,7] U)⟩
theorem touch_n {w:World} {b n Fr:Nat} {L:LvD} {V:VS} {F:Th} (hS:Sat w [WU b L,ZT L.sp n Fr V,F]) (hn:n≤60000000000) (hE: ∀i,HN L.tr Wd i) {id:Int} {t:TrD} (ht:L.tr id=some t) {k:KD} (hx:t.lv k=none):
    Calls prog 59 #[ptrV b 0,intV id,X0 k] w (Ret fun v w'=> ∃a,v=ptrV a 0∧Sat w' [WU b {L with tr:=QO L.tr id (some {t with lv:=QO t.lv k (some (Y8 t k (X4 L id k) a))}),sh:=Y1 (Y1 L.sh (X4 L id k)) (X4 L id k)},ZT L.sp (n+2) Fr (refW (refW V (X4 L id k)) (X4 L id k)),F]):= by
 replace hS:=Zb hS
 refine Qn func59 U ntmps59 U ?_
 refine Qe (Qa (XV hS U U U ?_))
 intro kb w1 j1
 replace j1:=Z4 j1
 refine Qd U U (Qf (Qc (Qe (Qa (Qb U U (Qi U U (Qg U ZJ U (Qo U WN (by first | assumption | exact j1.cell 0 U U | exact j1.cell 1 U U) U ?_))))))))
 refine Qb U U (X8 (k:=id) 3 j1 keysInt underlying106 U U U Yf (u:=(ptrV t.ad 0)) (XJ ht) U (Qd U U (Qf (Qc (Qh [1,0,5,6,7] U (Qe (Qe ?_)))))))
 have j2:=ZQ (j1.pick [4,0,1,2,3,5,6,7] U) ht
 have j3:=j2.drew
 refine QH [0,1,2,3,4,5,6] [] ZW (by kernel_rfl) ?_
 refine QJ U U U (Xd U U U (QP U U U ZI (Q3 U U U (Qm U WF (by first | assumption | exact j3.cell 0 U U | exact j3.cell 5 U U | exact j3.cell 6 U U)) ?_)))
 refine Q3 U U U (X3 U X2 Xf (by first | exact j3.blk 0 U | exact j3.blk 5 U | exact j3.blk 6 U) (by first | decide | exact Q7 U | (simp;done) | omega) U) ?_
 refine Q3 U U U (Xt (k:=k) 1 j3 keysKey underlying110 U U U Yz (u:=(.pointer none)) (Dy hx)) (Zo U U U (VC.nil (Qc (Qh [1,0,5,6,7,8] U (Qe (Qa (Qb U U (Zz underlying116 U U U (Qf (Qc (QL U (Qs (Qc (Qe ?_))))))))))))))
 have j4:=ZR ht (j3.pick [0,1,2,3,4,5,6,7,8,9,10,11] U)
 have j5:=Xx (L:=L) (j4.pick [2,3,4,0,5,1,6,7] U)
 refine Qa (Qb U U (Qb U U ?_))
 refine Wi U X2 Xf (by first | exact j5.blk 1 U) (by first | decide | exact Q7 U | (simp;done) | omega) U U ?_
 refine Q0 B7 U (Mj (j5.sp [0] U) hE id k) U ?_
 rintro _ w6 ⟨rfl,j6⟩
 replace j6:=j6.jn U U
 refine Qd U U (Qf (Qc (Qh [0,5,6,7,9] U (Qe (Qa (Qb U U (Qb U U (KY (vs':=[intV (X4 L id k),intV (X4 L id k),.int .u64 0,.int .u64 0]) U Ng asz_120 zr_120 U U U (XV j6 U U U ?_)))))))))
 intro xa w8 j8
 refine Qd U U (Qf (Qc (Qe ?_)))
 have j9:=Zb (j8.pick [1,0,2,3,4] U)
 refine Qa (Qb U U (Qb U U (Q0 MB U (Pb (j9.sp [0,4,7] U) (by omega) (X4 L id k)) U ?_)))
 rintro _ w10 ⟨rfl,j10⟩
 replace j10:=j10.jn U U
 refine Qf (Qc (Qh [0,5,6,7,9,10] U (Qe (Qa (Qb U U (Qb U U (Q0 MB U (Pb (j10.sp [0,1,2] U) (by omega) (X4 L id k)) U ?_)))))))
 rintro _ w11 ⟨rfl,j11⟩
 replace j11:=j11.jn U U
 refine Qf (Qc (Qe (Qe ?_)))
 have j12:=ZQ (j11.pick [5,0,1,2,3,4,6,7,8] U) ht
 have j13:=j12.drew
 refine QH [0,1,2,3,4,5,6] [] ZW (by kernel_rfl) ?_
 refine QJ U U U (Xd U U U (QP U U U U5 (Q3 U U U (Qm U R1 (by first | assumption | exact j13.cell 0 U U | exact j13.cell 5 U U | exact j13.cell 10 U U | exact j13.cell 11 U U)) ?_)))
 refine QP U U U JZ (Q3 U U U (Qm U Yd (by first | assumption | exact j13.cell 0 U U | exact j13.cell 5 U U | exact j13.cell 10 U U | exact j13.cell 11 U U)) ?_)
 refine Q3 U U U (Xt (k:=k.1) 3 j13 keysStr underlying111 U U U zr_4 (u:= .bool (t.dr k.1)) (MN _ _)) (VC.nil (Qc (Qh [5,6,7,10,46] U (QS U (fun h14=> ?_) (fun h14=> ?_)))))
 ·have hdr:t.dr k.1=true:=h14
  refine Qa (Qb U U (Qi U U (Qg U Wo U ?_)))
  refine Qx j13 U U GO U (i:=10) U (by first | decide | exact Q7 U | (simp;done)) ?_
  intro w15 j15; dsimp only[List.set]at j15
  refine Qf (Qc (Qe ?_))
  have j16:=j15.drew
  refine QH [0,1,2,3,4,5,6] [6] ZW (by kernel_rfl) ?_
  refine QJ U U U (Xd U U U (QP U U U ZI (Q3 U U U (Qm U WF (by first | assumption | exact j16.cell 0 U U | exact j16.cell 5 U U | exact j16.cell 10 U U | exact j16.cell 11 U U)) ?_)))
  refine Q3 U U U (X3 U X2 Xf (by first | exact j16.blk 0 U | exact j16.blk 5 U | exact j16.blk 10 U | exact j16.blk 11 U) (by first | decide | exact Q7 U | (simp;done) | omega) U) ?_
  refine QJ U U U (Xl U U U U U U ?_)
  refine Xi (k:=k) (v:=ptrV xa 0) 1 j16 keysKey underlying110 U U U U ?_
  intro w17 j17; dsimp only[List.set]at j17
  refine Zj (Xq (by kernel_rfl)) ?_
  refine VC.nil (Qc (Qh [6,10] U (Qe (Qa (Qb U U (Qd U U (Qf (Qc (Qv (QR (.inr U) U U ?_))))))))))
  have hX:(Y8 t k (X4 L id k) xa)=⟨xa,X4 L id k,X4 L id k,0#64,BitVec.allOnes 64⟩:= by unfold Y8; rw[if_pos hdr]
  have hA:=F9 hX (j17.pick [10,2,0,1,3,4,5,8,9,6,7,12] U)
  have hB:=Po hx hA
  have hB2:=hB.perm ((List.Perm.swap _ _ _).trans (List.Perm.cons _ (List.Perm.swap _ _ _)))
  rw[Dx (ad:=LfD.ad) (x:=(Y8 t k (X4 L id k) xa)) (a:=xa) U]at hB2
  have hC:=Kh (t:=({t with lv:=QO t.lv k (some (Y8 t k (X4 L id k) xa))}:TrD)) (i:=id) (T:=L.tr) hB2
  rw[←WI (ad:=TrD.ad) (f:=L.tr) (k:=id) (x:=t) (y:=({t with lv:=QO t.lv k (some (Y8 t k (X4 L id k) xa))}:TrD)) ht U]at hC
  exact⟨_,U,xa,U,Xx (L:={L with tr:=QO L.tr id (some ({t with lv:=QO t.lv k (some (Y8 t k (X4 L id k) xa))}:TrD)),sh:=Y1 (Y1 L.sh (X4 L id k)) (X4 L id k)}) (hC.reorder [1,2,3,0,4,5,6] U)⟩
 have hdr:t.dr k.1=false:=h14
 refine Qs (Qc (Qe ?_))
 have j18:=j13.drew
 refine QH [0,1,2,3,4,5,6] [6] ZW (by kernel_rfl) ?_
 refine QJ U U U (Xd U U U (QP U U U ZI (Q3 U U U (Qm U WF (by first | assumption | exact j18.cell 0 U U | exact j18.cell 5 U U | exact j18.cell 10 U U | exact j18.cell 11 U U)) ?_)))
 refine Q3 U U U (X3 U X2 Xf (by first | exact j18.blk 0 U | exact j18.blk 5 U | exact j18.blk 10 U | exact j18.blk 11 U) (by first | decide | exact Q7 U | (simp;done) | omega) U) ?_
 refine QJ U U U (Xl U U U U U U ?_)
 refine Xi (k:=k) (v:=ptrV xa 0) 1 j18 keysKey underlying110 U U U U ?_
 intro w19 j19; dsimp only[List.set]at j19
 refine Zj (Xq (by kernel_rfl)) ?_
 refine VC.nil (Qc (Qh [6,10] U (Qe (Qa (Qb U U (Qd U U (Qf (Qc (Qv (QR (.inr U) U U ?_))))))))))
 have hX:(Y8 t k (X4 L id k) xa)=⟨xa,X4 L id k,X4 L id k,0#64,0#64⟩:= by unfold Y8; rw[if_neg (by rw[hdr];decide)]
 have hA:=F9 hX (j19.pick [10,2,0,1,3,4,5,8,9,6,7,12] U)
 have hB:=Po hx hA
 have hB2:=hB.perm ((List.Perm.swap _ _ _).trans (List.Perm.cons _ (List.Perm.swap _ _ _)))
 rw[Dx (ad:=LfD.ad) (x:=(Y8 t k (X4 L id k) xa)) (a:=xa) U]at hB2
 have hC:=Kh (t:=({t with lv:=QO t.lv k (some (Y8 t k (X4 L id k) xa))}:TrD)) (i:=id) (T:=L.tr) hB2
 rw[←WI (ad:=TrD.ad) (f:=L.tr) (k:=id) (x:=t) (y:=({t with lv:=QO t.lv k (some (Y8 t k (X4 L id k) xa))}:TrD)) ht U]at hC
 exact⟨_,U,xa,U,Xx (L:={L with tr:=QO L.tr id (some ({t with lv:=QO t.lv k (some (Y8 t k (X4 L id k) xa))}:TrD)),sh:=Y1 (Y1 L.sh (X4 L id k)) (X4 L id k)}) (hC.reorder [1,2,3,0,4,5,6] U)⟩
theorem GK {w:World} {b n Fr:Nat} {L:LvD} {V:VS} {F:Th} (hS:Sat w [WU b L,ZT L.sp n Fr V,F]) (hn:n≤60000000000) (hE: ∀i,HN L.tr Wd i) {id:Int} {t:TrD} (ht:L.tr id=some t) {k:KD}:
    Calls prog 59 #[ptrV b 0,intV id,X0 k] w (Ret fun v w'=> ∃L' V' t' x',v=ptrV x'.ad 0∧TouR L V id t k L' V' t' x'∧Sat w' [WU b L',ZT L'.sp (n+2) Fr V',F]):= by
  cases hx:t.lv k with
  | some x=>
    refine(touch_y hS hn hE ht hx).mono fun e w h=>h.mono fun v w h=> ?_
    exact⟨L,V,t,x,h.1,.inl ⟨hx,rfl,rfl,rfl⟩,(XM (by omega) (h.2.reorder [1,0,2] U)).reorder [1,0,2] U⟩
  | none=>
    refine(touch_n hS hn hE ht hx).mono fun e w h=>h.mono fun v w h=> ?_
    obtain⟨a,h1,h2⟩:=h
    exact⟨_,_,_,Y8 t k (X4 L id k) a,h1,.inr ⟨hx,a,U,U,U,U⟩,h2⟩
theorem Tu {w:World} {F:Th} (hS:Sat w [F]) (ob:Bs) (a:Int):
    Calls prog 75 #[strV ob,intV a] w (Ret fun v w'=>v=Rn ob a∧Sat w' [F]):= by
 refine Qn func75 U ntmps75 U ?_
 refine Qe (Qa (Xa hS WK U U ?_))
 intro b1 w1 j1
 refine Qd U U (Qd U U (Qf (Qc (Qe (Qe (Qa (Qb U U (Xn U U U (Qb U U (QZ 9 U (fun h2=> ?_) (fun h2=> ?_)))))))))))
 ·refine Qk U U (det h2) U (Qk U U (det h2) U (QN U (det h2) U U (Qf (Qc (Qh [1,0,4,5,6,12] U (XD U (Qe (Qa (Zw U Pe MQ WK U U ?_)))))))))
  first | (refine Q9 j1 U U Xf U (by first | rfl | (simp [QV,Value.oneCell'];done) | assumption | exact hone) (i:=0) U (by first | decide | exact Q7 U | (simp;done) | omega) ?_)
  intro w3 j4; dsimp only[List.set]at j4
  refine Qd U U (Qd U U (Qf (Qc (Qv (Qr ?_)))))
  refine Ec (.inr U) U (Tq U X2 Xf (by first | exact j4.blk 0 U) (by first | decide | exact Q7 U | (simp;done) | omega) U) (Vl U) (Vl U) ?_
  exact⟨_,rfl, by unfold Rn; rw[if_neg (by omega)];rfl,j4.pick [1] U⟩
 refine Qj U U (QF h2) (Qb U U (Qj U U (QF h2) (Jr U U U (QC U (QF h2) U U (Qf (Qc (Qh [1,0,4,5,6,12] U (Qt U (fun h5=> ?_) (fun h5=> ?_)))))))))
 ·refine Qe (Qa (Zw U Pe MQ WK U U ?_))
  first | (refine Q9 j1 U U Xf U (by first | rfl | (simp [QV,Value.oneCell'];done) | assumption | exact hone) (i:=0) U (by first | decide | exact Q7 U | (simp;done) | omega) ?_)
  intro w6 j7; dsimp only[List.set]at j7
  refine Qd U U (Qd U U (Qf (Qc (Qv (Qr ?_)))))
  refine Ec (.inr U) U (Tq U X2 Xf (by first | exact j7.blk 0 U) (by first | decide | exact Q7 U | (simp;done) | omega) U) (Vl U) (Vl U) ?_
  exact⟨_,rfl, by unfold Rn; rw[if_neg (by omega)];rfl,j7.pick [1] U⟩
 obtain⟨m,rfl⟩: ∃m:Nat,a=(m:Int):=⟨a.toNat, by omega⟩
 refine Qs (Qc (Qe ?_))
 have j8:=j1.drew
 refine QH [0,1,2,3,4,5,6,7,8,9] [7] ZW (by kernel_rfl) ?_
 refine QJ U U U (QJ U U U (Xh U U U (fun _=>(ev_quo U U (by omega) (by omega) (by omega))) ?_))
 refine Xh U U U (fun _=>(Wg U Nh MQ WK U)) ?_
 refine QJ U U U (Xh U U U (fun _=>(Mz U U (by omega) (by omega))) ?_)
 refine Xh U U U (fun _=>(Eg (m%64) U U (by omega))) ?_
 refine Xl U U U U U U ?_
 first | (refine Q9 j8 U U Xf U (by first | rfl | (simp [QV,Value.oneCell'];done) | assumption | exact hone) (i:=0) U (by first | decide | exact Q7 U | (simp;done) | omega) ?_)
 intro w9 j10; dsimp only[List.set]at j10
 refine Zj .nil (Zo U U U (Zo U U U (VC.nil (Qc (Qh [4,5,6] U (Qv ?_))))))
 refine Ec (.inr U) U (Tq U X2 Xf (by first | exact j10.blk 0 U) (by first | decide | exact Q7 U | (simp;done) | omega) U) (Vl U) (Vl U) ?_
 exact⟨_,rfl, by unfold Rn; rw[if_pos (by omega)];rfl,j10.pick [1] U⟩
end Go.Proofs.YtkgjmhcdacidoaaGreatDoor
namespace Go.Proofs.YtkgjmhcdacidoaaGreatDoor
open Go.RowKit M Proofs.Tryz
variable [Inhabited SlW]
theorem Nd {V:VS} {j i:Int}:RM V j i≠none↔V i≠none:= by
  unfold RM
  cases h:V j with
  | none=> exact Iff.rfl
  | some x=>
    dsimp only
    by_cases e:i=j
    · subst e; rw[Qu,h]; simp
    · rw[Qz e]
theorem Hb {V:VS} {j i:Int}:refW V j i≠none↔V i≠none:= by
  unfold refW;split
  · exact Iff.rfl
  · exact Nd
def XZ (V:VS) (j:Int):Prop:=j=0∨V j≠none
theorem stT_len {w:World} {p n F:Nat} {V:VS} {As:List Th} (h:Sat w (ZT p n F V::As)) {j:Int} {x:Int×Bs} (hx:V j=some x):x.2.length=64:= by
  obtain⟨S,hI,rfl,_,_⟩:=Jx h
  unfold vw at hx
  cases hq:S.all j with
  | none=> rw[hq]at hx; cases hx
  | some y=>
    rw[hq]at hx
    have hx2:(y.refs,y.pg)=x:= by simpa using hx
    subst hx2
    exact(hI.ent hq).2.2.2.2.1
theorem FT {w:World} {p n F:Nat} {V:VS} {As:List Th} (h:Sat w (ZT p n F V::As)) {j:Int} (hj:XZ V j):(Zf V j).length=64:= by
  unfold Zf
  cases hq:V j with
  | none=>
    rcases hj with rfl | hj
    · simp [zer]
    · exact absurd hq hj
  | some x=> exact stT_len h hq
theorem TouR.alive {L L':LvD} {V V':VS} {id:Int} {t t':TrD} {k:KD} {x':LfD} (h:TouR L V id t k L' V' t' x') (ht:L.tr id=some t) (h0:id≠0) (ha:XZ V (X4 L id k)):XZ V' x'.own:= by
  rcases h with⟨hx,rfl,rfl,rfl⟩ | ⟨_,a,rfl,_,_,rfl⟩
  · have e:X4 L' id k=x'.own:=UM h0 ht hx
    rwa [e]at ha
  · rcases ha with e | ha
    · exact .inl e
    · exact .inr (Hb.2 (Hb.2 ha))
theorem ownT_sp {w:World} {b n Fr:Nat} {L:LvD} {V:VS} {F:Th} (hS:Sat w [WU b L,ZT L.sp n Fr V,F]) (hn:n≤60000000000) (hE: ∀i,HN L.tr Wd i) {id:Int} {t:TrD} (ht:L.tr id=some t) {k:KD} (h0:id≠0) (hal:XZ V (X4 L id k)):
    Calls prog 77 #[ptrV b 0,intV id,X0 k] w (Ret fun v w'=> ∃L1 V1 t1 x1 L' V' s e,v= .tuple #[intV s,intV e]∧TouR L V id t k L1 V1 t1 x1∧OwnT L1 V1 id t1 k x1 Fr L' V' s e∧Sat w' [WU b L',ZT L'.sp (n+4) Fr V',F]):= by
 refine Qn func77 U ntmps77 U ?_
 refine Qe (Qa (XV hS U U U ?_))
 intro kb w1 j1
 replace j1:=Z4 j1
 refine Qd U U (Qd U U (Qf (Qc (Qe (Qa (Qd U U (Qf (Qc (Qe (Qe (Qa (Qb U U (Xp U U U (Qf (Qc (Qt U (fun h2=> ?_) (fun h2=> ?_)))))))))))))))))
 ·refine Qa (Qb U U (Qb U U ?_))
  refine Wi U X2 Xf (by first | exact j1.blk 0 U) (by first | decide | exact Q7 U | (simp;done) | omega) U U ?_
  refine Q0 ND U (GK (j1.sp [1,2] U) (by omega) hE ht (k:=k)) U ?_
  rintro _ w3 ⟨L1,V1,t1,x1,rfl,hT,j3⟩
  replace j3:=j3.jn U U
  have ht1:=hT.tr ht
  have hx1:=hT.lv
  have hE1:=hT.ends ht hE
  have hal1:=hT.alive ht h0 hal
  refine Qd U U (Qf (Qc (Qh [1,0,5,6,7,8] U (Qe (Qa (Qb U U (Qb U U ?_)))))))
  refine Wi U X2 Xf (by first | exact j3.blk 2 U) (by first | decide | exact Q7 U | (simp;done) | omega) U U ?_
  refine Q0 B7 U (Mj (j3.sp [0] U) hE1 id k) U ?_
  rintro _ w4 ⟨rfl,j4⟩
  replace j4:=j4.jn U U
  rw[hT.sees ht h0]
  refine Qd U U (Qf (Qc (Qh [0,5,6,7,8,9] U (Qe (Qe ?_)))))
  have j5:=Zb (j4.pick [0,1,2,3] U)
  refine Qa (Qb U U (Xp U U U (Qb U U (QZ 24 U (fun h6=> ?_) (fun h6=> ?_)))))
  ·have hs0:x1.own≠0:=h6
   refine Qj U U (det h6) (Qb U U (Qj U U (det h6) (Qi U U (Qj U U (det h6) (Qg U Zx U (Qj U U (det h6) (Qo U X5 (by first | assumption | exact j5.cell 0 U U | exact j5.cell 6 U U) U ?_)))))))
   refine Qj U U (det h6) (Qb U U (Qj U U (det h6) (Q0 PK U (FU (j5.sp [5] U) x1.own) U ?_)))
   rintro _ w7 ⟨rfl,j7⟩
   replace j7:=j7.jn U U
   refine Qj U U (det h6) (Xc U U U (QN U (det h6) U U (Qf (Qc (Qh [0,5,6,7,8,9,32] U (Qt U (fun h8=> ?_) (fun h8=> ?_)))))))
   ·have hs1:Z9 V1 x1.own=1:=h8
    exact Qe (Qa (Qb U U (Qd U U (Qd U U (Qf (Qc (Qv (Qr (Jm (.inr U) U U U (⟨_,rfl,L1,V1,t1,x1,L1,V1,_,_,rfl,hT,.inl ⟨rfl,rfl,hs0,hs1,rfl,rfl⟩,((XM (m:=n+4) (by omega) (j7.pick [0,1,2,3,4,5,7] U)).reorder [1,2,3,4,5,0,6] U |> fun q=>Xx q)⟩))))))))))
   have hnx: ¬(x1.own≠0∧Z9 V1 x1.own=1):= fun q=>h8 q.2
   refine Qs (Qc (Qe ?_))
   have j9:=j7.drew
   refine QH [0,1,2,3,4,5,6,7,8,9,10,11,12,13,14,15] [9,10] ZW (by kernel_rfl) ?_
   refine QJ U U U (Xd U U U (QP U U U Zx (Q3 U U U (Qm U X5 (by first | assumption | exact j9.cell 1 U U | exact j9.cell 6 U U)) ?_)))
   refine QJ U U U (Xd U U U (QP U U U Zx (Q3 U U U (Qm U X5 (by first | assumption | exact j9.cell 1 U U | exact j9.cell 6 U U)) ?_)))
   refine QJ U U U (Xl U U U U U U ?_)
   refine Q0 Hk U (Uv (j9.sp [0] U) x1.own) U ?_
   rintro _ w10 ⟨rfl,j10⟩
   replace j10:=j10.jn U U
   refine XH (.skip (by kernel_rfl) (.cons (.inl ⟨rfl,(Qm U X5 (by first | assumption | exact j10.cell 1 U U | exact j10.cell 6 U U))⟩) .nil)) ?_
   refine Xl U U U U U U ?_
   have hpg1:=FT (j10.pick [0,1,2,3,4,5,6,7] U) hal1
   refine Xr ML U (NW (j10.sp [0] U) (by omega) hpg1) U ?_
   rintro e w11 ⟨_,rfl,(⟨rfl,hag,j11⟩ | ⟨fr,rfl,hf1,hf0,j11⟩)⟩
   ·refine⟨_,U, ?_⟩
    replace j11:=j11.jn U U
    refine XH (Xq (by kernel_rfl)) ?_
    refine QJ U U U (Wj U U U U (Wj U U U U (Zo U U U (Zo U U U (VC.nil (Qc (Qh [0,5,6,7,8,10,11] U (Qe (Qe (Qa (Qb U U (Xp U U U (Qf (Qc (Qt U (fun h12=> ?_) (fun h12=> ?_))))))))))))))))
    ·exact Qe (Qa (Qb U U (Qd U U (Qd U U (Qf (Qc (Qv (Qr (Jm (.inr U) U U U (⟨_,rfl,L1,V1,t1,x1,L1,V1,_,_,rfl,hT,.inr (.inl ⟨rfl,rfl,hag,rfl,rfl⟩),((XM (m:=n+4) (by omega) (j11.pick [0,1,2,3,4,5,7] U)).reorder [1,2,3,4,5,0,6] U |> fun q=>Xx q)⟩))))))))))
    exact absurd (by decide) h12
   refine⟨_,U, ?_⟩
   replace j11:=j11.jn U U
   refine XH (Xq (by kernel_rfl)) ?_
   refine QJ U U U (Wj U U U U (Wj U U U U (Zo U U U (Zo U U U (VC.nil (Qc (Qh [0,5,6,7,8,10,11] U (Qe (Qe (Qa (Qb U U (Xp U U U (Qf (Qc (Qt U (fun h13=> ?_) (fun h13=> ?_))))))))))))))))
   ·exact absurd U h13
   refine Qs (Qc (Qe (Qe (Qa (Qb U U (XI underlying116 U U U (Qf (Qc (Qh [0,5,6,7,8,10,52] U (QL U (Qe ?_)))))))))))
   have j14:=Xx (L:=L1) (j11.pick [1,2,3,4,5,0,6,7] U)
   have j15:=Ht ht1 hx1 (j14.pick [0,1,2,3] U)
   refine Qa (Qb U U (Qb U U (Qi U U (Qg U W4 U (Qo U QM (by first | assumption | exact j15.cell 0 U U | exact j15.cell 2 U U | exact j15.cell 6 U U | exact j15.cell 11 U U) U ?_)))))
   refine Q0 Uf U (HS (j15.sp [6,9,10] U) (by omega) x1.own) U ?_
   rintro _ w16 ⟨rfl,j16⟩
   replace j16:=j16.jn U U
   refine Qf (Qc (Qh [6,7,8,10] U (Qa (Qb U U (Qb U U (Qi U U (Qg U W4 U ?_)))))))
   refine Qx j16 U U Js U (i:=3) U (by first | decide | exact Q7 U | (simp;done)) ?_
   intro w17 j17; dsimp only[List.set]at j17
   refine Qf (Qc (Qe (Qa (Qb U U (Qd U U (Qd U U (Qf (Qc (Qv (Jm (.inr U) U U U ?_))))))))))
   have j18:=J4 (L:={L1 with sh:=YX (QO V1 fr (some (1,Zf V1 x1.own))) L1.sh x1.own}) (y:={x1 with own:=fr}) ht1 hx1 U (j17.pick [3,4,5,6,7,8,0,9,10,1,2,11,12] U)
   exact⟨_,rfl,L1,V1,t1,x1,We ({L1 with sh:=YX (QO V1 fr (some (1,Zf V1 x1.own))) L1.sh x1.own}) id t1 k {x1 with own:=fr},_,_,_,rfl,hT,.inr (.inr ⟨rfl,hf1,hf0,hnx,rfl,rfl⟩),(XM (m:=n+4) (by omega) (j18.pick [1,0,3] U)).reorder [1,0,2] U⟩
  have hnx: ¬(x1.own≠0∧Z9 V1 x1.own=1):= fun q=>h6 q.1
  refine Qk U U (QF h6) U (Qk U U (QF h6) U (Qk U U (QF h6) U (Qk U U (QF h6) U (Qk U U (QF h6) U (Qk U U (QF h6) U (Qk U U (QF h6) U (QC U (QF h6) U U (Qf (Qc (Qh [0,5,6,7,8,9,32] U (QL U (Qs (Qc (Qe ?_))))))))))))))
  have j19:=j5.drew
  refine QH [0,1,2,3,4,5,6,7,8,9,10,11,12,13,14,15] [9,10] ZW (by kernel_rfl) ?_
  refine QJ U U U (Xd U U U (QP U U U Zx (Q3 U U U (Qm U X5 (by first | assumption | exact j19.cell 0 U U | exact j19.cell 6 U U)) ?_)))
  refine QJ U U U (Xd U U U (QP U U U Zx (Q3 U U U (Qm U X5 (by first | assumption | exact j19.cell 0 U U | exact j19.cell 6 U U)) ?_)))
  refine QJ U U U (Xl U U U U U U ?_)
  refine Q0 Hk U (Uv (j19.sp [5] U) x1.own) U ?_
  rintro _ w20 ⟨rfl,j20⟩
  replace j20:=j20.jn U U
  refine XH (.skip (by kernel_rfl) (.cons (.inl ⟨rfl,(Qm U X5 (by first | assumption | exact j20.cell 1 U U | exact j20.cell 6 U U))⟩) .nil)) ?_
  refine Xl U U U U U U ?_
  have hpg1:=FT (j20.pick [0,1,2,3,4,5,6,7] U) hal1
  refine Xr ML U (NW (j20.sp [0] U) (by omega) hpg1) U ?_
  rintro e w21 ⟨_,rfl,(⟨rfl,hag,j21⟩ | ⟨fr,rfl,hf1,hf0,j21⟩)⟩
  ·refine⟨_,U, ?_⟩
   replace j21:=j21.jn U U
   refine XH (Xq (by kernel_rfl)) ?_
   refine QJ U U U (Wj U U U U (Wj U U U U (Zo U U U (Zo U U U (VC.nil (Qc (Qh [0,5,6,7,8,10,11] U (Qe (Qe (Qa (Qb U U (Xp U U U (Qf (Qc (Qt U (fun h22=> ?_) (fun h22=> ?_))))))))))))))))
   ·exact Qe (Qa (Qb U U (Qd U U (Qd U U (Qf (Qc (Qv (Qr (Jm (.inr U) U U U (⟨_,rfl,L1,V1,t1,x1,L1,V1,_,_,rfl,hT,.inr (.inl ⟨rfl,rfl,hag,rfl,rfl⟩),((XM (m:=n+4) (by omega) (j21.pick [0,1,2,3,4,5,7] U)).reorder [1,2,3,4,5,0,6] U |> fun q=>Xx q)⟩))))))))))
   exact absurd (by decide) h22
  refine⟨_,U, ?_⟩
  replace j21:=j21.jn U U
  refine XH (Xq (by kernel_rfl)) ?_
  refine QJ U U U (Wj U U U U (Wj U U U U (Zo U U U (Zo U U U (VC.nil (Qc (Qh [0,5,6,7,8,10,11] U (Qe (Qe (Qa (Qb U U (Xp U U U (Qf (Qc (Qt U (fun h23=> ?_) (fun h23=> ?_))))))))))))))))
  ·exact absurd U h23
  refine Qs (Qc (Qe (Qe (Qa (Qb U U (XI underlying116 U U U (Qf (Qc (Qh [0,5,6,7,8,10,52] U (QL U (Qe ?_)))))))))))
  have j24:=Xx (L:=L1) (j21.pick [1,2,3,4,5,0,6,7] U)
  have j25:=Ht ht1 hx1 (j24.pick [0,1,2,3] U)
  refine Qa (Qb U U (Qb U U (Qi U U (Qg U W4 U (Qo U QM (by first | assumption | exact j25.cell 0 U U | exact j25.cell 2 U U | exact j25.cell 6 U U | exact j25.cell 11 U U) U ?_)))))
  refine Q0 Uf U (HS (j25.sp [6,9,10] U) (by omega) x1.own) U ?_
  rintro _ w26 ⟨rfl,j26⟩
  replace j26:=j26.jn U U
  refine Qf (Qc (Qh [6,7,8,10] U (Qa (Qb U U (Qb U U (Qi U U (Qg U W4 U ?_)))))))
  refine Qx j26 U U Js U (i:=3) U (by first | decide | exact Q7 U | (simp;done)) ?_
  intro w27 j27; dsimp only[List.set]at j27
  refine Qf (Qc (Qe (Qa (Qb U U (Qd U U (Qd U U (Qf (Qc (Qv (Jm (.inr U) U U U ?_))))))))))
  have j28:=J4 (L:={L1 with sh:=YX (QO V1 fr (some (1,Zf V1 x1.own))) L1.sh x1.own}) (y:={x1 with own:=fr}) ht1 hx1 U (j27.pick [3,4,5,6,7,8,0,9,10,1,2,11,12] U)
  exact⟨_,rfl,L1,V1,t1,x1,We ({L1 with sh:=YX (QO V1 fr (some (1,Zf V1 x1.own))) L1.sh x1.own}) id t1 k {x1 with own:=fr},_,_,_,rfl,hT,.inr (.inr ⟨rfl,hf1,hf0,hnx,rfl,rfl⟩),(XM (m:=n+4) (by omega) (j28.pick [1,0,3] U)).reorder [1,0,2] U⟩
 exact absurd (Decidable.not_not.1 h2) h0
theorem Nm {w:World} {As:List Th} {b:Nat} {L:LvD} (hS:Sat w As) (i:Nat) (hi:As[i]? =some (WU b L)):w.cell? ⟨b,0,none⟩=some (ptrV L.sp 0):=(Zb (hS.pull i hi)).cell 0 U U
theorem Dz {ob:Bs} {a:Int} (h:0≤a∧a<16384):Rn ob a= .tuple #[X0 (ob,a/ 64),Zr (1#64<<<(a%64).toNat),.bool true]:= by unfold Rn; rw[if_pos h]
theorem OwnT.leaf {L L':LvD} {V V':VS} {id:Int} {t:TrD} {k:KD} {x:LfD} {Fr:Nat} {s e:Int} (h:OwnT L V id t k x Fr L' V' s e) (ht:L.tr id=some t) (hx:t.lv k=some x): ∃t' x',L'.tr id=some t'∧t'.lv k=some x'∧x'.wr=x.wr∧x'.rd=x.rd∧x'.base=x.base∧(e=0→x'.own=s):= by
  rcases h with⟨_,h2,_,_,rfl,_⟩ | ⟨h1,_,_,rfl,_⟩ | ⟨_,_,_,_,_,rfl⟩
  · exact⟨t,x,ht,hx,rfl,rfl,rfl, fun _=>h2.symm⟩
  · exact⟨t,x,ht,hx,rfl,rfl,rfl, fun q=> by omega⟩
  · exact⟨_,_,Li,Qu,rfl,rfl,rfl, fun _=>rfl⟩
theorem OwnT.sp {L L':LvD} {V V':VS} {id:Int} {t:TrD} {k:KD} {x:LfD} {Fr:Nat} {s e:Int} (h:OwnT L V id t k x Fr L' V' s e):L'.sp=L.sp:= by
  rcases h with⟨_,h2,_,_,rfl,_⟩ | ⟨h1,_,_,rfl,_⟩ | ⟨_,_,_,_,_,rfl⟩<;>rfl
theorem ER {w:World} {b n Fr:Nat} {L:LvD} {V:VS} {F:Th} (hS:Sat w [WU b L,ZT L.sp n Fr V,F]) (hn:n≤60000000000) (ob:Bs) (a:Int) (hE: ∀i,HN L.tr Wd i) (hr:0≤a∧a<16384):
    Calls prog 41 #[ptrV b 0,intV 0,strV ob,intV a] w (Ret fun v w'=>v=Y3 (btV V (L.pres (ob,a/ 64)) (a%64))∧Sat w' [WU b L,ZT L.sp n Fr V,F]):= by
 refine Qn func41 U ntmps41 U ?_
 refine Qe (Qa (Qd U U (Qf (Qc (Qe (Qa (Qb U U (Qb U U (Q0 EG U (Tu (hS.sp [] U) ob a) U ?_)))))))))
 rintro _ w1 ⟨rfl,j1⟩
 replace j1:=j1.jn U U
 rw[Dz hr]
 refine Qb U U (Qp U U U (Qp U U U (Qp U U U (Xa j1 WK U U ?_))))
 intro kb w2 j2
 refine Q9 j2 U U Xf U (by first | rfl | (simp [QV,Value.oneCell'];done)) (i:=0) U (by first | decide | exact Q7 U) ?_
 intro w3 j3; dsimp only[List.set]at j3
 replace j3:=Z4 (k:=(ob,a/ 64)) j3
 refine Qd U U (Qd U U (Qf (Qc (Qh [3,1,0,8,9,10,11] U (Qe (Qe (Qa (Qb U U (QU U U (Qb U U (Xw 22 U (fun h4=> ?_) (fun h4=> ?_))))))))))))
 ·exact absurd h4 (by decide)
 refine Qj U U h4 (Qb U U (Qj U U h4 (Qb U U (Qj U U h4 (Q0 NC U (GL (j3.sp [1] U) 0) U ?_)))))
 rintro _ w5 ⟨rfl,j5⟩
 replace j5:=j5.jn U U
 refine Qj U U h4 (QU U U (QC U h4 U U (Qf (Qc (Qh [3,1,0,8,9,10,27] U (QS U (fun h6=> ?_) (fun h6=> ?_)))))))
 ·exact absurd h6 (by simp [JL])
 refine Qs (Qc (Qe (Qe (Qa (Qb U U (Xp U U U (Qf (Qc (Qt U (fun h7=> ?_) (fun h7=> ?_))))))))))
 ·exact absurd U h7
 refine Qs (Qc (Qe ?_))
 have j8:=j5.drew
 refine QH [0,1,2,3,4,5,6,8,9,7,10,11] [7,10] ZW (by kernel_rfl) ?_
 refine QJ U U U (Xd U U U (QP U U U Zx (Q3 U U U (Qm U X5 (Nm j8 0 U)) (QJ U U U (QJ U U U ?_)))))
 refine Q3 U U U (X3 U X2 Xf (by first | exact j8.blk 1 U) (by first | decide | exact Q7 U | (simp;done) | omega) U) ?_
 refine QJ U U U (Xh U U U (fun _=>(Mz U U (by omega) (by omega))) ?_)
 refine Xl U U U U U U ?_
 refine Q0 B7 U (Mj (j8.sp [0] U) hE 0 (ob,a/ 64)) U ?_
 rintro _ w9 ⟨rfl,j9⟩
 replace j9:=j9.jn U U
 rw[show X4 L 0 (ob,a/ 64)=L.pres (ob,a/ 64) from Ri U]
 refine XH (.skip (by kernel_rfl) (.cons (.inl ⟨rfl,(Qm U X5 (Nm j9 0 U))⟩) .nil)) ?_
 refine Xl U U U U U U ?_
 refine Q0 cal_79 U (stByte (j9.sp [2] U) (by omega) (L.pres (ob,a/ 64)) (a%64)) U ?_
 rintro _ w10 ⟨rfl,j10⟩
 replace j10:=j10.jn U U
 refine XH (Xq (by kernel_rfl)) ?_
 exact Zo U U U (VC.nil (Qc (Qh [8] U (Qv (QR (.inr U) U U (⟨_,U,U,j10.pick [1,0,3] U⟩))))))
