/- sheets: the store; giveUp, packed and what tells -/
import Derived.Test.YtkcjfoaejijdoaaGreatDoorCk2
import Derived.Test.YtkcjfoaejijdoaaGreatDoorFw
set_option linter.unusedVariables false
set_option maxRecDepth 100000
set_option maxHeartbeats 1600000
namespace Go.Proofs.YtkcjfoaejijdoaaGreatDoor
open Go.RowKit M
def Rf (x:ShE):Bs:= if x.place=2 then fm x.pg else[]
def FK (x:ShE):Value:= .agg #[intV x.refs,intV x.place,intV x.at_,strV (Rf x)]
def aG (A:Int→Option ShE):Int→Option Value:= fun k=>(A k).map FK
theorem Jw {A:Int→Option ShE} {k:Int} {x:ShE} {z:Value} (h:A k=some x):(aG A k).getD z= .agg #[intV x.refs,intV x.place,intV x.at_,strV (Rf x)]:= by unfold aG; rw[h];rfl
theorem YY {A:Int→Option ShE} {k:Int} {x:ShE} (h:A k=some x):(aG A k).isSome=true:= by unfold aG; rw[h];rfl
theorem Hn {A:Int→Option ShE} {k:Int} {z:Value} (h:A k=none):(aG A k).getD z=z:= by unfold aG; rw[h];rfl
theorem YZ {A:Int→Option ShE} {k:Int} (h:A k=none):(aG A k).isSome=false:= by unfold aG; rw[h];rfl
theorem KI (A:Int→Option ShE) (k:Int) (x:ShE):upd (aG A) k (some (FK x))=aG (up A k (some x)):= by
  funext j
  by_cases h:j=k
  · subst h; rw[Z5];unfold aG; rw[XW];rfl
  · rw[WC h];unfold aG; rw[Ze h]
theorem FA (A:Int→Option ShE) (k:Int):upd (aG A) k none=aG (up A k none):= by
  funext j
  by_cases h:j=k
  · subst h; rw[Z5];unfold aG; rw[XW];rfl
  · rw[WC h];unfold aG; rw[Ze h]
theorem gI_del (g:Int→Option Int) (k:Int):upd (gI g) k none=gI (up g k none):= by
  funext j
  by_cases h:j=k
  · subst h; rw[Z5];unfold gI; rw[XW];rfl
  · rw[WC h];unfold gI; rw[Ze h]
structure ShX where
  ba:Nat
  bi:Nat
  fp:Nat
  sp:Nat
  kp:Nat
  cv:Value
  tv:Value
def YQ (p:Nat) (S:SS):Th:=CG fun q:ShX=>starL [QF p [.map (some q.ba),.map (some q.bi),q.cv,ptrV q.fp 0,ptrV q.sp 0,ptrV q.kp 0,intV S.slots,intV S.budget,intV S.next,q.tv],Q3 Xf q.ba (aG S.all),Q3 Xf q.bi (gI S.inn),rowT inC q.cv S.cache,RQ q.fp S.fr,Gx q.sp S.sl,Cd q.kp S.ck,rowT inC q.tv S.taken]
theorem Zf {w:World} {p:Nat} {S:SS} {As:List Th} (h:Sat w (YQ p S::As)): ∃ba bi fp sp kp ac cc at2 ct,Sat w (QF p [.map (some ba),.map (some bi),.slice ac S.cache.length cc,ptrV fp 0,ptrV sp 0,ptrV kp 0,intV S.slots,intV S.budget,intV S.next,.slice at2 S.taken.length ct]::Q3 Xf ba (aG S.all)::Q3 Xf bi (gI S.inn)::rowT inC (.slice ac S.cache.length cc) S.cache::RQ fp S.fr::Gx sp S.sl::Cd kp S.ck::rowT inC (.slice at2 S.taken.length ct) S.taken::As):= by
  obtain⟨⟨ba,bi,fp,sp,kp,cv,tv⟩,h⟩:=h.ex
  replace h:=h.flat
  obtain⟨ac,cc,hv,_⟩:=Sat.own_shape (As:=QF p _::Q3 Xf ba (aG S.all)::Q3 Xf bi (gI S.inn)::rowT inC cv S.cache::RQ fp S.fr::Gx sp S.sl::Cd kp S.ck::rowT inC tv S.taken::As) h 3 rfl
  obtain rfl:=hv
  obtain⟨at2,ct,hv,_⟩:=Sat.own_shape (As:=QF p _::Q3 Xf ba (aG S.all)::Q3 Xf bi (gI S.inn)::rowT inC _ S.cache::RQ fp S.fr::Gx sp S.sl::Cd kp S.ck::rowT inC tv S.taken::As) h 7 rfl
  obtain rfl:=hv
  exact⟨ba,bi,fp,sp,kp,ac,cc,at2,ct,h⟩
theorem QZ {w:World} {p:Nat} {S:SS} {As:List Th} {ba bi fp sp kp:Nat} {cv tv:Value} (h:Sat w (QF p [.map (some ba),.map (some bi),cv,ptrV fp 0,ptrV sp 0,ptrV kp 0,intV S.slots,intV S.budget,intV S.next,tv]::Q3 Xf ba (aG S.all)::Q3 Xf bi (gI S.inn)::rowT inC cv S.cache::RQ fp S.fr::Gx sp S.sl::Cd kp S.ck::rowT inC tv S.taken::As)):Sat w (YQ p S::As):=
  Sat.ex_intro (f:= fun q:ShX=>starL [QF p [.map (some q.ba),.map (some q.bi),q.cv,ptrV q.fp 0,ptrV q.sp 0,ptrV q.kp 0,intV S.slots,intV S.budget,intV S.next,q.tv],Q3 Xf q.ba (aG S.all),Q3 Xf q.bi (gI S.inn),rowT inC q.cv S.cache,RQ q.fp S.fr,Gx q.sp S.sl,Cd q.kp S.ck,rowT inC q.tv S.taken]) ⟨ba,bi,fp,sp,kp,cv,tv⟩
    (Sat.fold (As:=[QF p _,Q3 Xf ba (aG S.all),Q3 Xf bi (gI S.inn),rowT inC cv S.cache,RQ fp S.fr,Gx sp S.sl,Cd kp S.ck,rowT inC tv S.taken]) h)
theorem Ks {w:World} {F:Th} (hS:Sat w [F]) {lv:Value} {l:List Int} (hL:Ent F (RdL inC lv l)) (hln:l.length≤100000000000):
    Calls Tryz.prog 76 #[lv] w (Ret fun v w'=>Sat w' [rowT inC v l,F]):= by
 obtain⟨ao,cap,rfl,hmax⟩:=(hL.sat hS 0 rfl).shape
 refine Qq Tryz.func76 rfl Tryz.ntmps76 rfl ?_
 refine Qd (Qa (Qe rfl rfl (Qf (Qc (Qd (Qd (Qa (Qb rfl rfl (NC Tryz.underlying47 rfl rfl rfl (Qf (Qc (QM rfl (fun h1=> ?_) (fun h1=> ?_)))))))))))))
 ·refine Qd (Qa (Qe rfl rfl (Qf (Qc (Qu (Qn (QQ (.inr rfl) rfl rfl ?_)))))))
  obtain rfl:=Option.isNone_iff_eq_none.1 (by assumption:ao.isNone=true)
  have hnl:l=[]:=(hL.sat hS 0 rfl).isNil
  exact⟨_,rfl, by rw[hnl]; exact(hS.pick [0] rfl).row_nil inC⟩
 refine Qr (Qc (Qd (Qa (Z4 inC [] hS rfl Tryz.underlying47 Vi rfl rfl rfl rfl (by first | rfl | simp [RowC.cells,J7,X3]) rfl ?_))))
 intro b2 w2 hS2
 refine Qb rfl rfl ?_
 refine W3 inC 0 hS2 rfl rfl rfl (hL.sat hS2 1 rfl) Tryz.underlying47 Tryz.underlying47 (by intro k hk; cases hk) KE rfl (by simp only[List.length_nil];omega) rfl (by simp only[List.length_nil];omega) ?_
 intro v3 w3 hS3; dsimp only[List.set]at hS3
 clear hS2
 have h1v3:v3.oneCell'=true:=hS3.own_one 0 rfl
 exact Qe rfl rfl (Qf (Qc (Qu (QQ (.inr rfl) rfl rfl (⟨_,rfl,hS3.pick [0,1] rfl⟩)))))
theorem Ee {w:World} {p:Nat} {S:SS} {F:Th} (hS:Sat w [YQ p S,F]) (id:Int):
    Calls Tryz.prog 23 #[ptrV p 0,intV id] w (Ret fun v w'=>v=(match S.all id with | none=>intV 0 | some x=>intV x.refs)∧Sat w' [YQ p S,F]):= by
 obtain⟨ba,bi,fp,sp,kp,ac,cc,at2,ct,hS⟩:=Zf hS
 cases hid:S.all id with
 | none=>
  refine Qq Tryz.func23 rfl Tryz.ntmps23 rfl ?_
  exact Qd (Qa (Qe rfl rfl (Qf (Qc (Qd (Qa (Qb rfl rfl (Qk rfl rfl (Qg rfl XL rfl (Qo rfl Zk (hS.cell 0 rfl rfl) rfl (Qb rfl rfl (X2 (k:=id) 1 hS keysInt Tryz.underlying108 rfl rfl rfl XH (u:=(.agg #[intV 0,intV 0,intV 0,strV []])) (Hn hid) rfl (D0 RO rfl rfl rfl (Qe rfl rfl (Qf (Qc (Qu (QQ (.inr rfl) rfl rfl (⟨_,rfl,rfl,QZ (hS.pick [0,1,2,3,4,5,6,7,8] rfl)⟩)))))))))))))))))))
 | some x=>
  refine Qq Tryz.func23 rfl Tryz.ntmps23 rfl ?_
  exact Qd (Qa (Qe rfl rfl (Qf (Qc (Qd (Qa (Qb rfl rfl (Qk rfl rfl (Qg rfl XL rfl (Qo rfl Zk (hS.cell 0 rfl rfl) rfl (Qb rfl rfl (X2 (k:=id) 1 hS keysInt Tryz.underlying108 rfl rfl rfl XH (u:=(.agg #[intV x.refs,intV x.place,intV x.at_,strV (Rf x)])) (Jw hid) rfl (D0 RO rfl rfl rfl (Qe rfl rfl (Qf (Qc (Qu (QQ (.inr rfl) rfl rfl (⟨_,rfl,rfl,QZ (hS.pick [0,1,2,3,4,5,6,7,8] rfl)⟩)))))))))))))))))))
theorem GG {w:World} {p:Nat} {S:SS} {F:Th} (hS:Sat w [YQ p S,F]) {f:Int} {b0:Bs} (hf:ZZ S.fr f=some b0) (hck:S.ck.length=S.fr.length) (htl:S.taken.length≤90000000000):
    Calls Tryz.prog 152 #[ptrV p 0,intV f] w (Ret fun v w'=>v= .tuple #[]∧Sat w' [YQ p (offFrame S f),F]):= by
 obtain⟨hf0,hfl⟩:=BY hf
 have hfc:0≤f∧f<(S.ck.length:Int):= by omega
 obtain⟨ba,bi,fp,sp,kp,ac,cc,at2,ct,hS⟩:=Zf hS
 refine Qq Tryz.func152 rfl Tryz.ntmps152 rfl ?_
 refine Qd (Qa (Qb rfl rfl (Qk rfl rfl (Qg rfl WJ rfl (Qo rfl YI (hS.cell 0 rfl rfl) rfl (Qb rfl rfl (Qv cal_185 rfl (EQ (hS.sp [4] rfl) f) rfl ?_)))))))
 rintro _ w1 ⟨_,rfl,hS1⟩
 replace hS1:=hS1.jn rfl rfl
 rw[show Re S.fr f=S.fr.set f.toNat none by unfold Re; rw[hf]]at hS1
 refine Qf (Qc (Qd (Qa (Qb rfl rfl (Qk rfl rfl (Qg rfl Ga rfl (Qo rfl Nz (hS1.cell 1 rfl rfl) rfl (Qb rfl rfl (Qv Ng rfl (ckgoneT (hS1.sp [6] rfl) f hfc) rfl ?_)))))))))
 rintro _ w2 ⟨rfl,hS2⟩
 replace hS2:=hS2.jn rfl rfl
 clear hS1
 refine Qf (Qc (Qi [1,0] rfl (Qd (Qa (Qb rfl rfl (Qk rfl rfl (Qg rfl HB rfl (Qo rfl Jo (hS2.cell 2 rfl rfl) rfl (Qb rfl rfl (Ji (k:=f) 4 hS2 keysInt Tryz.underlying109 rfl rfl rfl rfl ?_))))))))))
 intro w3 hS3; dsimp only[List.set]at hS3; rw[gI_del]at hS3
 clear hS2
 refine Qf (Qc (Qa (Qb rfl rfl (Qb rfl rfl (Qk rfl rfl (Qg rfl PB rfl (Qo rfl YX (hS3.cell 2 rfl rfl) rfl (Qb rfl rfl (Z4 inC [f] hS3 rfl Tryz.underlying47 Vi rfl rfl rfl rfl (by rfl) rfl ?_)))))))))
 intro b4 w4 hS4
 clear hS3
 refine W3 inC 8 hS4 rfl rfl rfl (hS4.rd 0 rfl (by simp)) Tryz.underlying47 Tryz.underlying47 (by intro k hk; cases hk) KE rfl (by simp only[List.length_cons,List.length_nil];omega) rfl (by simp only[List.length_cons,List.length_nil];omega) ?_
 intro v5 w5 hS5; dsimp only[List.set]at hS5
 clear hS4
 have h1v5:v5.oneCell'=true:=hS5.own_one 8 rfl
 refine Qk rfl rfl (Qg rfl PB rfl ?_)
 first | (refine QL hS5 rfl rfl Rz (by assumption) (i:=3) rfl (Xn rfl) ?_)
 intro w6 hS7; dsimp only[List.set]at hS7
 clear hS5
 exact Qf (ZB (.inl rfl) rfl (⟨_,rfl,rfl,QZ (S:=offFrame S f) (hS7.pick [3,4,5,6,2,7,1,8,9] rfl)⟩))
theorem Eb {A:Int→Option ShE} {l:List Int} {i:Nat} {j:Int} {x:ShE} (hj:l[i]? =some j) (hx:A j=some x) (hp:x.place=2):WK A (l.take (i+1))=WK A (l.take i)+(Rf x).length:= by
  rw[List.take_add_one,hj]
  unfold WK
  simp only[Option.toList_some,List.map_append,List.map_cons,List.map_nil,List.sum_append,List.sum_cons,List.sum_nil]
  unfold fmL Rf
  rw[hx,if_pos hp];rfl
theorem Ec {A:Int→Option ShE} {l:List Int} {i:Nat} {j:Int} {x:ShE} (hj:l[i]? =some j) (hx:A j=some x) (hp:x.place=2):WK A (l.drop i)=(Rf x).length+WK A (l.drop (i+1)):= by
  obtain⟨hi,he⟩:=XQ hj
  rw[List.drop_eq_getElem_cons hi,he]
  unfold WK
  rw[List.map_cons,List.sum_cons]
  unfold fmL Rf
  rw[hx,if_pos hp]
theorem fm_le (p:Bs):(fm p).length≤47:= by
  unfold fm
  cases h:Uw p with
  | none=> simp
  | some f=> exact(Mg h).1
theorem BL (A:Int→Option ShE): ∀l:List Int,WK A l≤47*l.length
  | []=> by simp [WK]
  | j::l=> by
    have h1:=BL A l
    unfold WK at h1⊢
    rw[List.map_cons,List.sum_cons,List.length_cons]
    have :fmL A j≤47:= by
      unfold fmL
      cases A j with
      | none=> simp
      | some x=> exact fm_le x.pg
    omega
theorem NO {w:World} {p:Nat} {S:SS} {F:Th} (hS:Sat w [YQ p S,F]) {E:Int→Prop} {N:Nat} (hI:ShI E N S) (hN:N≤90000000000):
    Calls Tryz.prog 204 #[ptrV p 0] w (Ret fun v w'=>v=intV ((WK S.all S.cache:Nat):Int)∧Sat w' [YQ p S,F]):= by
 have hcl:=hI.cln
 obtain⟨ba,bi,fp,sp,kp,ac,cc,at2,ct,hS⟩:=Zf hS
 refine Qq Tryz.func204 rfl Tryz.ntmps204 rfl ?_
 refine Qd (Qa (Qe rfl rfl (Qf (Qc (Qd (Qa (Qe rfl rfl (Qf (Qc (Qd (Qd (Qa (Qb rfl rfl (Qk rfl rfl (Qg rfl W9 rfl (Qo rfl YX (hS.cell 0 rfl rfl) rfl (X5 Tryz.underlying47 rfl rfl (Qb rfl rfl (Qf (Qc (Qw ?_)))))))))))))))))))))
 refine Xe (fun K0 E0 W0=> ∃(i:Nat),K0=S.cache.length -i∧E0=[(0,ptrV p 0),(3,intV ((WK S.all (S.cache.take i):Nat):Int)),(9,.slice ac S.cache.length cc),(10,intV (S.cache.length:Int)),(11,intV (i:Int))]∧Sat W0 [QF p [.map (some ba),.map (some bi),.slice ac S.cache.length cc,ptrV fp 0,ptrV sp 0,ptrV kp 0,intV S.slots,intV S.budget,intV S.next,.slice at2 S.taken.length ct],Q3 Xf ba (aG S.all),Q3 Xf bi (gI S.inn),rowT inC (.slice ac S.cache.length cc) S.cache,RQ fp S.fr,Gx sp S.sl,Cd kp S.ck,rowT inC (.slice at2 S.taken.length ct) S.taken,F]∧(i≤S.cache.length)) (L0:=[(0,_),(3,_),(9,_),(10,_),(11,_)]) (S.cache.length -0) (VX rfl rfl rfl rfl rfl) ⟨0,rfl,rfl,hS, by omega⟩ ?_
 rintro _ _ w1 ⟨i,rfl,rfl,hS1,hi⟩
 refine Qd (Qa (Xb rfl rfl rfl (Qf (Qc (Qd (Qs rfl (fun h2=> ?_) (fun h2=> ?_)))))))
 ·obtain⟨j,hj⟩: ∃j,S.cache[i]? =some j:=⟨_,Zd (by omega)⟩
  obtain⟨_,x,hx,hp⟩:=hI.cch (List.mem_of_getElem? hj)
  have hsl:=BL S.all (S.cache.take i)
  have htl:=List.length_take_le i S.cache
  have hfl:(Rf x).length≤47:= by unfold Rf; rw[if_pos hp]; exact fm_le x.pg
  refine Qr (Qc (Qd (Qw (Qd (Qa (Xu inC 3 i hS1 rfl rfl rfl (by first | rfl | omega) hj Ge rfl ?_))))))
  intro bx3 capx3 hvx3
  refine Z1 3 i 0 hS1 rfl hvx3 rfl rfl hj QO rfl rfl (Qe rfl rfl (Qf (Qc (Qa (Qb rfl rfl (Qb rfl rfl (Qk rfl rfl (Qg rfl XL rfl (Qo rfl Zk (hS1.cell 0 rfl rfl) rfl (Qb rfl rfl (X2 (k:=j) 1 hS1 keysInt Tryz.underlying108 rfl rfl rfl XH (u:=(.agg #[intV x.refs,intV x.place,intV x.at_,strV (Rf x)])) (Jw hx) rfl (D0 P5 rfl rfl rfl (Wj Tryz.underlying9 rfl rfl (QK rfl rfl (by omega) (by omega) rfl ?_))))))))))))))
  refine Qe rfl rfl (Qf (Ql (Qc (Qi [11,10,9,0,3] rfl (Qa (QK rfl rfl (by omega) (by omega) rfl ?_))))))
  refine Qb rfl rfl (Qf ?_)
  exact Q6 (L1:=[(0,_),(3,intV ((WK S.all (S.cache.take (i+1)):Nat):Int)),(9,_),(10,_),(11,intV ((i+1:Nat):Int))]) (by rw[Eb hj hx hp]; exact(VX rfl rfl rfl rfl rfl)) (k1:=S.cache.length -(i+1)) (by omega) ⟨i+1,rfl,rfl,hS1.pick [0,1,2,3,4,5,6,7,8] rfl, by omega⟩
 exact QS (Qp (Qp (Qz (Qc (Qd (Qa (Qb rfl rfl (Qe rfl rfl (Qf (Qc (Qu (QQ (.inr rfl) rfl rfl (⟨_,rfl, by rw[List.take_of_length_le (by omega)],QZ (hS1.pick [0,1,2,3,4,5,6,7,8] rfl)⟩)))))))))))))
structure PkS (E:Int→Prop) (S S1:SS):Prop where
  go:ShG S S1
  inn:S1.inn=S.inn
  fr:S1.fr=S.fr
  ck:S1.ck=S.ck
  tak:S1.taken=S.taken
  one: ∀j x,S.all j=some x→x.place=1∨E j→S1.all j=some x
theorem PkS.refl (E:Int→Prop) (S:SS):PkS E S S:=⟨ShG.refl S,rfl,rfl,rfl,rfl, fun _ _ h _=>h⟩
theorem ED {E:Int→Prop} {T:Nat} {S0 S:SS} {j:Int} {c:List Int} {x:ShE} {k:Nat} (h:ShI E T S) (hp:PkS E S0 S) (hc:S.cache=j::c) (hx:S.all j=some x) (hk:S.sl[k]? =some []):
    ShI E T {S with all:=up S.all j (some ⟨x.refs,3,(k:Nat),x.pg⟩),sl:=S.sl.set k x.pg,cache:=c}∧PkS E S0 {S with all:=up S.all j (some ⟨x.refs,3,(k:Nat),x.pg⟩),sl:=S.sl.set k x.pg,cache:=c}:= by
  obtain⟨hje,x',hx',hpl⟩:=h.cch (j:=j) (by rw[hc]; simp)
  obtain rfl:x=x':= by rw[hx]at hx'; cases hx';rfl
  have hjc:j∉c:= by have :=h.nod; rw[hc]at this; exact(List.nodup_cons.1 this).1
  have h1:=h.offCache hx hpl (c:=c) (by rw[hc]; exact List.sublist_cons_self j c) (fun i=> by
    rw[hc]
    constructor
    · intro hi; exact⟨List.mem_cons_of_mem _ hi, fun q=>hjc (q▸hi)⟩
    · rintro⟨hi,hne⟩; exact(List.mem_cons.1 hi).resolve_left hne)
  have h2:=ShI.onSlot (S:={S with cache:=c}) (x:=x) h1 (.inr rfl) hx hk
  refine⟨h2.congr fun i _=>⟨fun ⟨a,b⟩=>a.resolve_right b, fun a=>⟨.inl a, fun q=>hje (q▸a)⟩⟩, ?_⟩
  refine⟨hp.go.trans ⟨fun i=> ?_,⟨[], by simp, fun i y hy hp1=> .inr ⟨y, ?_,hp1,rfl⟩⟩,rfl,rfl,rfl,rfl⟩,hp.inn,hp.fr,hp.ck,hp.tak, fun i y hy hpy=> ?_⟩
  · show((up S.all j _) i).map _=_
    by_cases q:i=j
    · subst q; rw[XW,hx];rfl
    · rw[Ze q]
  · show(up S.all j _) i=_
    rw[Ze (fun q=> by subst q; rw[hx]at hy; cases hy;omega)]; exact hy
  · show(up S.all j _) i=_
    have h3:=hp.one i y hy hpy
    rw[Ze (fun q=> by
      subst q
      rcases hpy with hpy | hpy
      · rw[hx]at h3; cases h3;omega
      · exact hje hpy)]; exact h3
structure EvS (E:Int→Prop) (T:Nat) (f:Int) (S S':SS):Prop where
  inv:ShI E (T+1) S'
  go:ShG S S'
  fr:S'.fr=S.fr.set f.toNat none
  lim: ∀j x,S.all j=some x→E j→S'.all j=some x
theorem SP {E:Int→Prop} {T:Nat} {S S1:SS} {id f:Int} {x:ShE} (h0:ShI E T S) (h:ShI E T S1) (hp:PkS E S S1) (hE: ¬E id) (hx:S.all id=some x) (hpl:x.place=1) (hat:x.at_=f) (hpk:Uw x.pg≠none) (hs:(WK S1.all S1.cache+(fm x.pg).length:Int)≤S1.budget):
    EvS E T f S (offFrame {S1 with all:=up S1.all id (some ⟨x.refs,2,0,x.pg⟩),cache:=S1.cache++[id]} f):= by
  have hx1:=hp.one id x hx (.inl hpl)
  have h1:=h.offFrame hE hx1 hpl hat
  have h2:=ShI.onCache (S:=offFrame S1 f) (x:=x) h1 (.inr rfl) hx1 hpk hs (by have :=h.cln; show S1.cache.length+1≤_;omega) 0
  refine⟨h2.congr fun i _=>⟨fun ⟨a,b⟩=>a.resolve_right b, fun a=>⟨.inl a, fun q=>hE (q▸a)⟩⟩,hp.go.trans ⟨fun i=> ?_,⟨[f],rfl, fun i y hy hp1=> ?_⟩,rfl,rfl, by show(S1.fr.set _ _).length=_; rw[List.length_set],rfl⟩, by show S1.fr.set _ _=_; rw[hp.fr], fun i y hy hi=> ?_⟩
  · show(up S1.all id _ i).map _=_
    by_cases q:i=id
    · subst q; rw[XW,hx1];rfl
    · rw[Ze q]
  · by_cases q:i=id
    · subst q; rw[hx1]at hy; cases hy; exact .inl (by rw[hat]; simp)
    · exact .inr ⟨y, by show up S1.all id _ i=_; rw[Ze q]; exact hy,hp1,rfl⟩
  · show up S1.all id _ i=_
    rw[Ze (fun q=>hE (by rw[←q]; exact hi))]; exact hp.one i y hy (.inr hi)
theorem SO {E:Int→Prop} {T:Nat} {S:SS} {id f:Int} {x:ShE} {k:Nat} (h:ShI E T S) (hE: ¬E id) (hx:S.all id=some x) (hpl:x.place=1) (hat:x.at_=f) (hk:S.sl[k]? =some []):
    EvS E T f S (offFrame {S with all:=up S.all id (some ⟨x.refs,3,(k:Nat),x.pg⟩),sl:=S.sl.set k x.pg} f):= by
  have h1:=h.offFrame hE hx hpl hat
  have h2:=ShI.onSlot (S:=offFrame S f) (x:=x) h1 (.inr rfl) hx hk
  refine⟨h2.congr fun i _=>⟨fun ⟨a,b⟩=>a.resolve_right b, fun a=>⟨.inl a, fun q=>hE (q▸a)⟩⟩,⟨fun i=> ?_,⟨[f],rfl, fun i y hy hp1=> ?_⟩,rfl,rfl, by show(S.fr.set _ _).length=_; rw[List.length_set],rfl⟩,rfl, fun i y hy hi=> ?_⟩
  · show(up S.all id _ i).map _=_
    by_cases q:i=id
    · subst q; rw[XW,hx];rfl
    · rw[Ze q]
  · by_cases q:i=id
    · subst q; rw[hx]at hy; cases hy; exact .inl (by rw[hat]; simp)
    · exact .inr ⟨y, by show up S.all id _ i=_; rw[Ze q]; exact hy,hp1,rfl⟩
  · show up S.all id _ i=_
    rw[Ze (fun q=>hE (by rw[←q]; exact hi))]; exact hy
theorem ER {E:Int→Prop} {T:Nat} {S:SS} {f:Int} {b:Bs} (h:ShI E T S) (hf:ZZ S.fr f=some b): ∃id x,S.inn f=some id∧ ¬E id∧S.all id=some x∧x.place=1∧x.at_=f∧x.pg=b:= by
  cases hq:S.inn f with
  | none=> exact absurd hq (h.fru hf)
  | some id=>
    obtain⟨h1,x,h2,h3,h4⟩:=(h.frm f id).1 hq
    have :=h.frc h1 h2 h3
    rw[h4,hf]at this
    exact⟨id,x,rfl,h1,h2,h3,h4, by cases this;rfl⟩
theorem gI_some {g:Int→Option Int} {k j:Int} {z:Value} (h:g k=some j):(gI g k).getD z=intV j:= by unfold gI; rw[h];rfl
theorem Ef {w:World} {p:Nat} {S:SS} {F:Th} (hS:Sat w [YQ p S,F]) {E:Int→Prop} {N:Nat} (hI:ShI E N S) (hN:N≤90000000000) {id:Int} {x:ShE} (hx:S.all id=some x) (hpl:x.place=1):
    Calls Tryz.prog 171 #[ptrV p 0,intV id,strV x.pg] w (Ret fun v w'=>(v= .bool false∧Sat w' [YQ p S,F])∨(∃f S1,v= .bool true∧Uw x.pg=some f∧ShI E N S1∧PkS E S S1∧(WK S1.all S1.cache+f.length:Int)≤S1.budget∧Sat w' [YQ p {S1 with all:=up S1.all id (some ⟨x.refs,2,0,x.pg⟩),cache:=S1.cache++[id]},F])):= by
 have hx64:x.pg.length=64:=(hI.ent hx).2.2.2.2.1
 have hcl:=hI.cln
 have hul:=Hx S.sl
 have hslo:=hI.slo
 have hsl2:=hI.sl2
 obtain⟨ba,bi,fp,sp,kp,ac,cc,at2,ct,hS⟩:=Zf hS
 cases hpm:Uw x.pg with
 | none=>
  refine Qq Tryz.func171 rfl Tryz.ntmps171 rfl ?_
  refine Qd (Qa (Qe rfl rfl (Qf (Qc (Qd (Qa (Qb rfl rfl (Qv Nl rfl (C6 (hS.sp [] rfl) x.pg hx64) rfl ?_))))))))
  rintro _ w1 ⟨rfl,hS1⟩
  replace hS1:=hS1.jn rfl rfl
  rw[hpm]
  dsimp only[FQ,Option.getD_some,Option.isSome_some,Option.getD_none,Option.isSome_none]
  refine Qb rfl rfl (Qt rfl rfl rfl (Qt rfl rfl rfl (Qe rfl rfl (Qe rfl rfl (Qf (Qc (Qi [1,0,6,7,8] rfl (Qd (Qd (Qa (Qb rfl rfl (QR rfl rfl (Qb rfl rfl (Zh 25 rfl (fun h2=> ?_) (fun h2=> ?_)))))))))))))))
  ·exact Qh rfl rfl h2 rfl (Qh rfl rfl h2 rfl (Qh rfl rfl h2 rfl (Qh rfl rfl h2 rfl (Qh rfl rfl h2 rfl (Qh rfl rfl h2 rfl (Qh rfl rfl h2 rfl (QC rfl h2 rfl rfl (Qf (Qc (Qi [1,0,6,7,33] rfl (Xr rfl (Qd (Qa (Qe rfl rfl (Qf (Qc (Qu (Qn (QQ (.inr rfl) rfl rfl (⟨_,rfl,.inl ⟨rfl,QZ (hS1.pick [0,1,2,3,4,5,6,7,8] rfl)⟩⟩))))))))))))))))))))
  exact absurd h2 (by simp)
 | some f=>
  have hfl:=(Mg hpm).1
  have hss:=BL S.all S.cache
  refine Qq Tryz.func171 rfl Tryz.ntmps171 rfl ?_
  refine Qd (Qa (Qe rfl rfl (Qf (Qc (Qd (Qa (Qb rfl rfl ?_)))))))
  have hC1:=hS.sp [] rfl
  refine Qv Nl rfl (C6 hC1 x.pg hx64) rfl ?_
  rintro _ w1 ⟨rfl,hS1⟩
  replace hS1:=hS1.jn rfl rfl; clear hC1
  rw[hpm]
  dsimp only[FQ,Option.getD_some,Option.isSome_some,Option.getD_none,Option.isSome_none]
  refine Qb rfl rfl (Qt rfl rfl rfl (Qt rfl rfl rfl (Qe rfl rfl (Qe rfl rfl (Qf (Qc (Qi [1,0,6,7,8] rfl (Qd (Qd (Qa (Qb rfl rfl (QR rfl rfl (Qb rfl rfl (Zh 25 rfl (fun h2=> ?_) (fun h2=> ?_)))))))))))))))
  ·exact absurd h2 (by simp)
  refine Qj rfl rfl h2 (Qb rfl rfl (Qj rfl rfl h2 (Wj Tryz.underlying9 rfl rfl (Qj rfl rfl h2 (Qb rfl rfl (Qj rfl rfl h2 (Qk rfl rfl (Qj rfl rfl h2 (Qg rfl PC rfl (Qj rfl rfl h2 (Qo rfl QO (hS1.cell 0 rfl rfl) rfl (Qj rfl rfl h2 (Y6 rfl rfl rfl (QG rfl h2 rfl rfl (Qf (Qc (Qi [1,0,6,7,33] rfl (Qs rfl (fun h3=> ?_) (fun h3=> ?_)))))))))))))))))))
  ·exact Qd (Qa (Qe rfl rfl (Qf (Qc (Qu (Qn (QQ (.inr rfl) rfl rfl (⟨_,rfl,.inl ⟨rfl,QZ (hS1.pick [0,1,2,3,4,5,6,7,8] rfl)⟩⟩))))))))
  refine Qr (Qc (Qd (Qa (Qb rfl rfl ?_))))
  have hSc:=QZ (hS1.pick [0,1,2,3,4,5,6,7,8] rfl)
  refine Qv cal_204 rfl (NO (hSc.sp [0] rfl) hI hN) rfl ?_
  rintro _ w4 ⟨rfl,hS4⟩
  replace hS4:=hS4.jn rfl rfl
  clear hSc
  obtain⟨ba,bi,fp,sp,kp,ac,cc,at2,ct,hSo5⟩:=Zf (hS4.pick [0,1] rfl)
  obtain⟨_,_,hqc,hccl,_⟩:=hSo5.own_shape 3 rfl; cases hqc
  refine Qb rfl rfl (Wj Tryz.underlying9 rfl rfl (QK rfl rfl (by omega) (by omega) rfl ?_))
  refine Qe rfl rfl (Qe rfl rfl (Qf (Qc (Qi [1,0,6,7,9,10] rfl (Qd (Qw ?_))))))
  refine Xe (fun K0 E0 W0=> ∃(k:Nat),K0=S.cache.length -k∧E0=[(0,ptrV p 0),(1,intV id),(7,strV f),(9,intV (k:Int)),(10,intV ((WK S.all (S.cache.drop k)+f.length:Nat):Int))]∧Sat W0 [QF p [.map (some ba),.map (some bi),.slice ac S.cache.length cc,ptrV fp 0,ptrV sp 0,ptrV kp 0,intV S.slots,intV S.budget,intV S.next,.slice at2 S.taken.length ct],Q3 Xf ba (aG S.all),Q3 Xf bi (gI S.inn),rowT inC (.slice ac S.cache.length cc) S.cache,RQ fp S.fr,Gx sp S.sl,Cd kp S.ck,rowT inC (.slice at2 S.taken.length ct) S.taken,F]∧(k≤S.cache.length)) (L0:=[(0,_),(1,_),(7,_),(9,_),(10,_)]) (S.cache.length -0) (VX rfl rfl rfl rfl rfl) ⟨0,rfl,rfl,hSo5, by omega⟩ ?_
  rintro _ _ w6 ⟨k,rfl,rfl,hS6,hk⟩
  refine Qd (Qd (Qa (Qb rfl rfl (Qb rfl rfl (Qk rfl rfl (Qg rfl PC rfl (Qo rfl QO (hS6.cell 0 rfl rfl) rfl (Y6 rfl rfl rfl (Qf (Qc (Qi [10,9,7,1,0,44] rfl (Qs rfl (fun h7=> ?_) (fun h7=> ?_)))))))))))))
  ·have hkl:k<S.cache.length:= by rcases Nat.lt_or_ge k S.cache.length with q | q; exact q;(exfalso; have hh:=h7; rw[List.drop_of_length_le q]at hh; simp only[WK,List.map_nil,List.sum_nil]at hh;omega)
   obtain⟨j,hj⟩: ∃j,S.cache[k]? =some j:=⟨_,Zd hkl⟩
   obtain⟨_,y,hy,hyp⟩:=hI.cch (List.mem_of_getElem? hj)
   have hsd:=Ec hj hy hyp
   have hsl:=BL S.all (S.cache.drop k)
   have hdl:(S.cache.drop k).length≤S.cache.length:= by rw[List.length_drop];omega
   refine Qr (Qc (Qw (Qd ?_)))
   obtain⟨ob,oc9,hq9,_⟩:=hS6.own_at 3 rfl (by omega)
   cases hq9
   have hS8:=hS6.drew
   refine QJ [0,1,2,3,4,5,6,7,8,9,10,11,12,13,14,15,16] [] Wp (by kernel_rfl) ?_
   refine QE rfl rfl rfl (QE rfl rfl rfl (Xl rfl rfl rfl (QT rfl rfl rfl XL (Q9 rfl rfl rfl (Qm rfl Zk (hS8.cell 0 rfl rfl)) (QE rfl rfl rfl (Xl rfl rfl rfl (QT rfl rfl rfl W9 (Q9 rfl rfl rfl (Qm rfl YX (hS8.cell 0 rfl rfl)) (QE rfl rfl rfl (QU rfl rfl rfl (fun _=>(WB k rfl rfl (by rfl) (hkl) Ge)) ?_))))))))))
   refine Q9 rfl rfl rfl (B0 inC 3 k 0 hS8 rfl hj QO rfl rfl) (Q9 rfl rfl rfl (Xx (k:=j) 1 hS8 keysInt Tryz.underlying108 rfl rfl rfl XH (u:=(.agg #[intV y.refs,intV y.place,intV y.at_,strV (Rf y)])) (Jw hy)) (QU rfl rfl rfl (fun _=>(Gd P5 rfl rfl)) ?_))
   refine QU rfl rfl rfl (fun _=>(Df Tryz.underlying9 rfl)) ?_
   refine QU rfl rfl rfl (fun _=>(Lh rfl rfl (by omega) (by omega))) ?_
   refine XN rfl rfl rfl (VC.nil (Qc (Qi [9,7,1,0,10] rfl (Qa (Qb rfl rfl (QK rfl rfl (by omega) (by omega) rfl ?_))))))
   refine Qe rfl rfl (Qf (Ql ?_))
   exact Q6 (L1:=[(0,_),(1,_),(7,_),(9,intV ((k+1:Nat):Int)),(10,intV ((WK S.all (S.cache.drop (k+1))+f.length:Nat):Int))]) (by rw[show WK S.all (S.cache.drop (k+1))+f.length=WK S.all (S.cache.drop k)+f.length -(Rf y).length by omega,Int.ofNat_sub (by omega)]; exact(VX rfl rfl rfl rfl rfl)) (k1:=S.cache.length -(k+1)) (by omega) ⟨k+1,rfl,rfl,hS8.pick [0,1,2,3,4,5,6,7,8] rfl, by omega⟩
  refine QS (Qp (Qp (Qz (Qc (Qd (Qd ?_))))))
  have hS9:=hS6.drew
  refine QJ [0,1,2,3,4,5,6,7,10,8,9,11] [8] Wp (by kernel_rfl) ?_
  refine QE rfl rfl rfl (Xl rfl rfl rfl (QT rfl rfl rfl IC (Q9 rfl rfl rfl (Qm rfl QO (hS9.cell 0 rfl rfl)) (QE rfl rfl rfl (Xl rfl rfl rfl (QT rfl rfl rfl YV (Q9 rfl rfl rfl (Qm rfl VU (hS9.cell 0 rfl rfl)) (QE rfl rfl rfl (Xj rfl rfl rfl rfl rfl rfl ?_)))))))))
  refine Qv cal_62 rfl (Ea (hS9.sp [5] rfl)) rfl ?_
  rintro _ w10 ⟨rfl,hS10⟩
  replace hS10:=hS10.jn rfl rfl
  clear hS9
  refine X6 (.skip (by kernel_rfl) (.cons (.inl ⟨rfl,(Qm rfl QO (hS10.cell 1 rfl rfl))⟩) .nil)) ?_
  refine QU rfl rfl rfl (fun _=>(Lh rfl rfl (by omega) (by omega))) ?_
  refine QU rfl rfl rfl (fun _=>(CI rfl rfl)) ?_
  refine VC.nil (Qc (Qi [9,7,1,0,74] rfl (Qs rfl (fun h11=> ?_) (fun h11=> ?_))))
  ·exact Qd (Qa (Qe rfl rfl (Qf (Qc (Qu (Qn (QQ (.inr rfl) rfl rfl (⟨_,rfl,.inl ⟨rfl,QZ (hS10.pick [1,2,3,4,5,0,6,7,8] rfl)⟩⟩))))))))
  refine Qr (Qc (Qd (Qd ?_)))
  have hS12:=hS10.pick [1,2,3,4,5,0,6,7,8] rfl
  refine Qa (Qb rfl rfl (Qk rfl rfl (Qg rfl W9 rfl (Qo rfl YX (hS12.cell 0 rfl rfl) rfl (Qb rfl rfl (BG 0 k Tryz.underlying47 Ug rfl (F6 _) (Rk k _ rfl rfl) (by omega) (by omega) rfl ?_))))))
  refine X5 (m:=k) Tryz.underlying47 rfl rfl (Qb rfl rfl (Qf (Qc (Qi [9,7,1,0,80,81,82] rfl (Qw ?_)))))
  refine Xe (fun K0 E0 W0=> ∃(S1:SS) (i:Nat),K0=k -i∧E0=[(0,ptrV p 0),(1,intV id),(7,strV f),(9,intV (k:Int)),(80,Un 1 (.slice ac S.cache.length cc) 0 k),(81,intV (k:Int)),(82,intV (i:Int))]∧Sat W0 [QF p [.map (some ba),.map (some bi),.slice ac S.cache.length cc,ptrV fp 0,ptrV sp 0,ptrV kp 0,intV S.slots,intV S.budget,intV S.next,.slice at2 S.taken.length ct],Q3 Xf ba (aG S1.all),Q3 Xf bi (gI S.inn),rowT inC (.slice ac S.cache.length cc) S.cache,RQ fp S.fr,Gx sp S1.sl,Cd kp S.ck,rowT inC (.slice at2 S.taken.length ct) S.taken,F]∧(ShI E N S1)∧(PkS E S S1)∧(S1.cache=S.cache.drop i)∧(i≤k)∧(WE S1.sl+(k -i)≤S1.sl.length)) (L0:=[(0,_),(1,_),(7,_),(9,_),(80,_),(81,_),(82,_)]) (k -0) (N6 rfl rfl rfl rfl rfl rfl rfl) ⟨S,0,rfl,(by unfold Un;rfl),hS12,hI,PkS.refl E S,rfl, by omega, by omega⟩ ?_
  rintro _ _ w13 ⟨S1,i,rfl,rfl,hS13,hI1,hP1,hC0,hi,hU⟩
  refine Qd (Qa (Xb rfl rfl rfl (Qf (Qc (Qd (Qs rfl (fun h14=> ?_) (fun h14=> ?_)))))))
  ·obtain⟨j,hj⟩: ∃j,S.cache[i]? =some j:=⟨_,Zd (by omega)⟩
   have hC1:S1.cache=j::S.cache.drop (i+1):= by rw[hC0,List.drop_eq_getElem_cons (by omega)];congr 1; exact(XQ hj).2
   have hC2:S.cache.drop (i+1)=S.cache.drop (i+1):=rfl
   obtain⟨hjE,y,hy,hyp⟩:=hI1.cch (j:=j) (by rw[hC1]; simp)
   obtain⟨_,hpky⟩:=hI1.pck hjE hy hyp
   obtain⟨fy,hfy⟩:=Option.ne_none_iff_exists'.1 hpky
   have hfme:Rf y=fy:= by unfold Rf fm; rw[if_pos hyp,hfy];rfl
   have hy64:y.pg.length=64:=(hI1.ent hy).2.2.2.2.1
   have hype:y.pg≠[]:= fun q=> by rw[q]at hy64; simp at hy64
   have hvw:Ent (rowT inC (.slice ac S.cache.length cc) S.cache) (RdL inC (Un 1 (.slice ac S.cache.length cc) 0 k) ((S.cache.take k).drop 0)):=PH (by omega) (by omega) (by omega) hccl
   refine Qr (Qc (Qd (Qw (Qd (Qa ?_)))))
   have hvr:=Ent.sat hvw hS13 3 rfl
   obtain⟨va,vc,hvv,_⟩:=hvr.shape
   rw[hvv]at hvr
   obtain⟨vb,vo,rfl,hvc⟩:=hvr.get (i:=i) (a:=j) (by rw[List.drop_zero,List.getElem?_take,if_pos (by omega)]; exact hj)
   refine XI i (congrArg some hvv) rfl rfl (by rw[List.drop_zero,List.length_take];omega) Ge rfl ?_
   refine Qo rfl QO (hvc 0 _ rfl) rfl (Qe rfl rfl (Qf (Qc (Qi [82,81,80,9,7,1,0,12] rfl (Qd (Qa (Qb rfl rfl (Qk rfl rfl (Qg rfl XL rfl (Qo rfl Zk (hS13.cell 0 rfl rfl) rfl (Qb rfl rfl (X2 (k:=j) 1 hS13 keysInt Tryz.underlying108 rfl rfl rfl XH (u:=(.agg #[intV y.refs,intV y.place,intV y.at_,strV (Rf y)])) (Jw hy) rfl (Xg hS13 XH rfl rfl ?_)))))))))))))
   intro b15 w15 hS15
   clear hS13
   (refine QY hS15 rfl rfl JY rfl (by rfl) (i:=0) rfl (by decide) ?_)
   intro w16 hS17; dsimp only[List.set]at hS17
   clear hS15
   refine Qf (Qc (Qi [82,81,80,9,7,1,0,12,13] rfl (Qd (Qa (Qg rfl M2 rfl (Qo rfl ZC (hS17.cell 0 rfl rfl) rfl ?_))))))
   refine Qv Fn rfl (G9 (hS17.sp [] rfl) hy64 (by rw[hfme]; exact hfy)) rfl ?_
   rintro _ w18 ⟨rfl,hS18⟩
   replace hS18:=hS18.jn rfl rfl
   clear hS17
   refine Qb rfl rfl (Qt rfl rfl rfl (Qt rfl rfl rfl (Qe rfl rfl (Qe rfl rfl (Qf (Qc (Qi [82,81,80,9,7,1,0,12,13,14] rfl (Qd (Qa (Qb rfl rfl (Qk rfl rfl (Qg rfl YV rfl (Qo rfl VU (hS18.cell 1 rfl rfl) rfl (Qb rfl rfl (XY Lt rfl (NI (hS18.sp [6] rfl) y.pg hy64) rfl ?_)))))))))))))))
   rintro e w19 ⟨_,rfl,(⟨hfull,rfl,hS19⟩ | ⟨ks,hks,rfl,hS19⟩)⟩
   ·exact absurd hfull (by omega)
   refine⟨_,rfl, ?_⟩
   replace hS19:=hS19.jn rfl rfl
   clear hS18
   refine Qb rfl rfl (Qt rfl rfl rfl (Qt rfl rfl rfl (Qe rfl rfl (Qe rfl rfl (Qf (Qc (Qi [82,81,80,9,7,1,0,12,13,16] rfl ?_)))))))
   have hS20:=hS19.drew
   refine QJ [0,1,2,3,4,5,6,7,8,9] [9] Wp (by kernel_rfl) ?_
   refine QE rfl rfl rfl (Xl rfl rfl rfl (QT rfl rfl rfl XL (Q9 rfl rfl rfl (Qm rfl Zk (hS20.cell 2 rfl rfl)) (QE rfl rfl rfl (QT rfl rfl rfl J6 (Q9 rfl rfl rfl (Qm rfl QO (hS20.cell 1 rfl rfl)) (QE rfl rfl rfl (QU rfl rfl rfl (fun _=>(Wq rfl WY HX XH rfl)) ?_))))))))
   refine Xj rfl rfl rfl rfl rfl rfl ?_
   refine Xk (k:=j) (v:=FK ⟨y.refs,3,(ks:Nat),y.pg⟩) 3 hS20 keysInt Tryz.underlying108 rfl rfl rfl rfl ?_
   intro w21 hS21a; dsimp only[List.set]at hS21a; have hS21:=hS21a; rw[KI]at hS21
   clear hS20
   refine Zx (Xq (by kernel_rfl)) ?_
   refine VC.nil (Ql (Qc (Qi [82,81,80,9,7,1,0] rfl (Qa (QK rfl rfl (by omega) (by omega) rfl ?_)))))
   refine Qb rfl rfl (Qf ?_)
   obtain⟨hI2,hP2⟩:=ED hI1 hP1 hC1 hy hks
   exact Q6 (L1:=[(0,_),(1,_),(7,_),(9,_),(80,_),(81,_),(82,intV ((i+1:Nat):Int))]) (N6 rfl rfl rfl rfl rfl rfl rfl) (k1:=k -(i+1)) (by omega) ⟨{S1 with all:=up S1.all j (some ⟨y.refs,3,(ks:Nat),y.pg⟩),sl:=S1.sl.set ks y.pg,cache:=S.cache.drop (i+1)},i+1,rfl,rfl,hS21.pick [2,3,4,5,6,0,7,8,9] rfl,hI2,hP2,rfl, by omega, by dsimp only; rw[List.length_set,G7 hks hype];omega⟩
  refine QS (Qp (Qp (Qz (Qc (Qd ?_)))))
  have hx1:S1.all id=some x:=hP1.one id x hx (.inl hpl)
  refine Qa (Qb rfl rfl (Qb rfl rfl (Qk rfl rfl (Qg rfl W9 rfl (Qo rfl YX (hS13.cell 0 rfl rfl) rfl (Qb rfl rfl (BG k S.cache.length Tryz.underlying47 Ug rfl (Rk k _ rfl rfl) (F6 _) (by omega) (by omega) rfl ?_)))))))
  have hv2:Ent (rowT inC (.slice ac S.cache.length cc) S.cache) (RdL inC (Un 1 (.slice ac S.cache.length cc) k S.cache.length) (S.cache.drop k)):= fun hq=> by have q:=PH (C:=inC) (A:=k) (B:=S.cache.length) (by omega) (by omega) (by omega) hccl hq;rwa [List.take_of_length_le (by omega)]at q
  refine Qv CZ rfl (Ks (hS13.sp [] rfl) (Ent.starL hv2 3 rfl) (by rw[List.length_drop];omega)) rfl ?_
  rintro _ w22 hS22
  replace hS22:=hS22.jn rfl rfl
  clear hS13
  obtain⟨na,nc,hnv,_⟩:=hS22.own_shape 0 rfl
  obtain rfl:=hnv
  refine Qb rfl rfl (Z4 inC [id] hS22 rfl Tryz.underlying47 Vi rfl rfl rfl rfl (by rfl) rfl ?_)
  intro b23 w23 hS23
  clear hS22
  refine W3 inC 1 hS23 rfl rfl rfl (hS23.rd 0 rfl (by simp)) Tryz.underlying47 Tryz.underlying47 (by intro k hk; cases hk) KE rfl (by simp only[List.length_cons,List.length_nil,List.length_drop];omega) rfl (by simp only[List.length_cons,List.length_nil,List.length_drop];omega) ?_
  intro v24 w24 hS24; dsimp only[List.set]at hS24
  clear hS23
  have h1v24:v24.oneCell'=true:=hS24.own_one 1 rfl
  refine Qk rfl rfl (Qg rfl W9 rfl ?_)
  first | (refine QL hS24 rfl rfl Rz (by assumption) (i:=2) rfl (Xn rfl) ?_)
  intro w25 hS26; dsimp only[List.set]at hS26
  clear hS24
  refine Qf (Qc (Qi [7,1,0] rfl (Qd ?_)))
  have hS27:=hS26.drew
  refine QJ [0,1,2,3,4,5,6,7,8,9,10,11,12,13,14] [14] Wp (by kernel_rfl) ?_
  refine QE rfl rfl rfl (Xl rfl rfl rfl (QT rfl rfl rfl XL (Q9 rfl rfl rfl (Qm rfl Zk (hS27.cell 2 rfl rfl)) (QE rfl rfl rfl (QE rfl rfl rfl (Xl rfl rfl rfl (QT rfl rfl rfl XL (Q9 rfl rfl rfl (Qm rfl Zk (hS27.cell 2 rfl rfl)) (QE rfl rfl rfl (Q9 rfl rfl rfl (Xx (k:=id) 3 hS27 keysInt Tryz.underlying108 rfl rfl rfl XH (u:=(.agg #[intV x.refs,intV x.place,intV x.at_,strV (Rf x)])) (Jw hx1)) (QU rfl rfl rfl (fun _=>(Gd RO rfl rfl)) ?_)))))))))))
  refine QE rfl rfl rfl (QU rfl rfl rfl (fun _=>(Wq rfl C4 HX XH rfl)) ?_)
  refine Xj rfl rfl rfl rfl rfl rfl ?_
  have hsv28:Value.agg #[intV x.refs,intV 2,intV 0,strV f]=FK ⟨x.refs,2,0,x.pg⟩:= by unfold FK Rf fm; simp [hpm]
  refine Xk (k:=id) (v:=Value.agg #[intV x.refs,intV 2,intV 0,strV f]) 3 hS27 keysInt Tryz.underlying108 rfl rfl rfl rfl ?_
  intro w28 hS28a; dsimp only[List.set]at hS28a; have hS28:=hS28a; rw[hsv28,KI]at hS28
  clear hS27
  refine Zx (Xq (by kernel_rfl)) ?_
  refine VC.nil (Qc (Sr (L':=[]) .nil (Qd (Qa (Qe rfl rfl (Qf (Qc (Qu (QQ (.inr rfl) rfl rfl ?_)))))))))
  have hc1:S1.cache=S.cache.drop k:= by rw[hC0, show i=k by omega]
  have hsm:WK S1.all S1.cache=WK S.all (S.cache.drop k):= by rw[hc1]; exact T3 fun j _=> by have :=hP1.go.same j; cases hq:S1.all j<;> cases hq2:S.all j<;>simp_all
  have hSe:({S1 with all:=up S1.all id (some ⟨x.refs,2,0,x.pg⟩),cache:=S1.cache++[id]}:SS)=⟨up S1.all id (some ⟨x.refs,2,0,x.pg⟩),S.inn,S1.cache++[id],S.fr,S1.sl,S.ck,S.slots,S.budget,S.next,S.taken⟩:= by rw[←hP1.inn,←hP1.fr,←hP1.ck,←hP1.tak,←hP1.go.bud,←hP1.go.slo,←hP1.go.nxt]
  exact⟨_,rfl,.inr ⟨f,S1,rfl,rfl,hI1,hP1, by rw[hsm,hP1.go.bud];omega, by rw[hSe,hc1]; exact QZ (hS28.pick [2,3,4,1,6,7,8,9,10] rfl)⟩⟩
end Go.Proofs.YtkcjfoaejijdoaaGreatDoor
