/- leaves: remove -/
import Derived.Test.YtkcjfoaejijdoaaGreatDoorKs
import Derived.Shelf.Spec.TrailingZeros
set_option linter.unusedVariables false
set_option maxRecDepth 100000
set_option maxHeartbeats 1600000
namespace Go.Proofs.YtkcjfoaejijdoaaGreatDoor
open Go.RowKit M
set_option linter.unusedSectionVars false
variable [Inhabited SlW]
theorem Hq {α:Type} {L:List α} (hn:L.Nodup) {i:Nat} {y:α} (hy:L[i]? =some y):y∉L.take i:= by
  intro q
  obtain⟨j,hj⟩:=List.mem_iff_getElem?.1 q
  have hji:j<i:= by have :=(XQ hj).1; rw[List.length_take]at this;omega
  rw[List.getElem?_take_of_lt hji]at hj
  have h1:=(XQ hy)
  have h2:=(XQ hj)
  obtain⟨p1,p2⟩:=h1
  obtain⟨r1,r2⟩:=h2
  have :=(List.getElem_inj hn).1 (r2.trans p2.symm)
  omega
def I0 (id:Int) (l:List KD):Pl→Prop:= fun p=> ∃k o,p= .inr (id,k,o)∧k∈l
theorem Ph {κ α:Type} {ad:α→Nat} {f:κ→Option α} {k:κ}:upd (Zj ad f) k none=Zj ad (Xz f k none):= by
  funext j
  by_cases h:j=k
  · subst h; rw[Z5];unfold Zj; rw[Q1];rfl
  · rw[WC h];unfold Zj; rw[QI h]
structure RemI (ex:Int→Int) (L:LvD) (V V1:VS) (id:Int) (l:List KD):Prop where
  ref:RefI (W4 (I0 id l) 0 (Xw L)) V1 ex
  pg:Pgs V V1
  al: ∀c,AliveLe V c→AliveLe V1 c
theorem RemI.start {ex:Int→Int} {m:Nat} {L:LvD} {V:VS} {id:Int} (h:LvX ex m L V):RemI ex L V V id []:=
  ⟨h.ref.fn fun p=> by simp [W4,I0],.refl, fun _ q=>q⟩
theorem TA {κ:Type} {f:κ→Int} {V:VS} {ex:Int→Int} (h:RefI f V ex) (hx:NN ex) (p:κ):RefI (Vn f p 0) (Z2 V (f p)) ex:=
  ((h.put p 0).unr (h.aliveN rfl (hx _))).ext fun j hj=> by rw[Ju (s:=0) hj];omega
theorem RemI.step {ex:Int→Int} {L:LvD} {V V1:VS} {id:Int} {t:TrD} {l:List KD} {i:Nat} {k:KD} {x:LfD} (h:RemI ex L V V1 id (l.take i)) (hx:NN ex) (ht:L.tr id=some t) (hl:t.lv k=some x) (hk:l[i]? =some k) (hn:l.Nodup):
    RemI ex L V (Z2 (Z2 V1 x.base) x.own) id (l.take (i+1)):= by
  have hni:k∉l.take i:=Hq hn hk
  have hnz: ∀o,¬I0 id (l.take i) (.inr (id,k,o)):= fun o=> by
    rintro⟨k',o',e,q⟩
    simp at e
    obtain⟨rfl,rfl⟩:=e
    exact hni q
  have e1:W4 (I0 id (l.take i)) 0 (Xw L) (.inr (id,k,false))=x.base:= by unfold W4; rw[if_neg (hnz _),XB ht hl];rfl
  have a1:=TA h.ref hx (.inr (id,k,false))
  rw[e1]at a1
  have e2:Vn (W4 (I0 id (l.take i)) 0 (Xw L)) (.inr (id,k,false)) 0 (.inr (id,k,true))=x.own:= by rw[Zb (by simp)];unfold W4; rw[if_neg (hnz _),XB ht hl];rfl
  have a2:=TA a1 hx (.inr (id,k,true))
  rw[e2]at a2
  refine⟨a2.fn fun p=> ?_,(h.pg.trans (Pgs.unr h.ref.zero)).trans (Pgs.unr a1.zero), fun c q=>(h.al c q).unr.unr⟩
  · have hz: ∀p,I0 id (l.take (i+1)) p↔(p= .inr (id,k,true)∨(p= .inr (id,k,false)∨I0 id (l.take i) p)):= fun p=> by
      unfold I0
      rw[List.take_add_one,hk]
      simp only[Option.toList_some,List.mem_append,List.mem_singleton]
      constructor
      · rintro⟨k',o,rfl,q | q⟩
        · exact .inr (.inr ⟨k',o,rfl,q⟩)
        · subst q; cases o
          · exact .inr (.inl rfl)
          · exact .inl rfl
      · rintro(rfl | rfl | ⟨k',o,rfl,q⟩)
        · exact⟨k,true,rfl,.inr rfl⟩
        · exact⟨k,false,rfl,.inr rfl⟩
        · exact⟨k',o,rfl,.inl q⟩
    rw[VW (P:= fun p=>p= .inr (id,k,false)∨I0 id (l.take i) p) hz,VW (P:=I0 id (l.take i)) (fun _=>Iff.rfl)]
noncomputable def PP (A:LvA) (id:Int):LvA:={A with tr:=Xz A.tr id none}
theorem RankI.del {T:Int→Option TrD} {m:Nat} {id:Int} (h:RankI T m) (hch: ∀i u,T i=some u→u.parent≠id):RankI (Xz T id none) m:= by
  obtain⟨h0,r,a,b⟩:=h
  have h00:Xz T id none 0=none:= by
    by_cases e:(0:Int)=id
    · rw[←e,Q1]
    · rw[QI e]; exact h0
  refine⟨h00,r,a, fun i t ht=> ?_⟩
  by_cases e:i=id
  · subst e; rw[Q1]at ht; cases ht
  · rw[QI e]at ht
    rcases b i t ht with h1 | ⟨h1,h2⟩
    · exact .inl h1
    · exact .inr ⟨by rw[QI (hch i t ht)]; exact h1,h2⟩
theorem rem_fin {ex:Int→Int} {m:Nat} {L:LvD} {V V1:VS} {id:Int} {t:TrD} {l:List KD} {f:Int→Bool} (hI:LvX ex m L V) (hx:NN ex) (h:RemI ex L V V1 id l) (ht:L.tr id=some t) (hl: ∀k,k∈l↔t.lv k≠none) (hch: ∀i u,L.tr i=some u→u.parent≠id):
    StepX ex m L V ex m 0 0 {L with tr:=Xz L.tr id none,sh:=f} V1∧Q8 {L with tr:=Xz L.tr id none,sh:=f} V1=PP (Q8 L V) id:= by
  generalize hL2:({L with tr:=Xz L.tr id none,sh:=f}:LvD)=L2
  have hP:L2.pres=L.pres:= by subst hL2;rfl
  have hT:L2.tr=Xz L.tr id none:= by subst hL2;rfl
  have hf: ∀p,Xw L2 p=W4 (I0 id l) 0 (Xw L) p:= fun p=> by
    unfold W4
    cases p with
    | inl j=>
      rw[if_neg (by rintro⟨_,_,e,_⟩; cases e)]
      simp [Xw,hP]
    | inr q=>
      obtain⟨i,k,o⟩:=q
      by_cases e:i=id
      · subst e
        have e1:Xw L2 (.inr (i,k,o))=0:= by simp only[Xw,hT,Q1]
        rw[e1]
        split
        · rfl
        · rename_i hq
          cases hk:t.lv k with
          | none=> rw[Ra ht hk]
          | some x=> exact absurd ⟨k,o,rfl,(hl k).2 (by rw[hk]; simp)⟩ hq
      · rw[if_neg (by rintro⟨_,_,e2,_⟩; cases e2; exact e rfl)]
        simp only[Xw,hT]
        rw[QI e]
  have a1:RefI (Xw L2) V1 ex:=h.ref.fn hf
  have hc: ∀p,XT V1 (Xw L2 p)=XT V (Xw L2 p):= fun p=>(h.pg _ (a1.aliveN rfl (hx _))).2
  have e1:Q8 L2 V1=PP (Q8 L V) id:= by
    rw[Vf (V:=V) hc]
    unfold Q8 PP
    rw[hP,hT]
    congr 1
    funext i
    by_cases e:i=id
    · subst e; rw[Q1,Q1];rfl
    · rw[QI e,QI e]
  refine⟨⟨⟨a1, by rw[hT]; exact hI.rank.del hch, ?_⟩, by subst hL2;rfl,h.al, fun c q=> ?_,h.pg⟩,e1⟩
  · rw[e1]
    intro i u k x hi hk
    dsimp only[PP]at hi
    by_cases e:i=id
    · subst e; rw[Q1]at hi; cases hi
    · rw[QI e]at hi; exact hI.agree i u k x hi hk
  · obtain⟨li,a,b,d⟩:=q
    refine⟨li,a, fun k hk=>b k (by rwa [hP]at hk), fun j u k x hj hk=> ?_⟩
    rw[hT]at hj
    by_cases e:j=id
    · subst e; rw[Q1]at hj; cases hj
    · rw[QI e]at hj; exact d j u k x hj hk
theorem Ey {w:World} {ex:Int→Int} {m:Nat} {b n Fr:Nat} {L:LvD} {V:VS} {F:Th} (hS:Sat w [ZY b L,Zq L.sp n Fr V,F]) {c:Nat} (hc:SzLe L c) (hn:n+2*c≤60000000000) (hI:LvX ex m L V) (hx:NN ex) {id:Int} {t:TrD} (ht:L.tr id=some t) (hch: ∀i u,L.tr i=some u→u.parent≠id):
    Calls Tryz.prog 55 #[ptrV b 0,intV id] w (Ret fun v w'=> ∃L' V',StepX ex m L V ex m 0 0 L' V'∧Q8 L' V'=PP (Q8 L V) id∧L'.pres=L.pres∧L'.tr=Xz L.tr id none∧Sat w' [ZY b L',Zq L'.sp (n+2*c) Fr V',F]):= by
 replace hS:=XX hS
 refine Qq Tryz.func55 rfl Tryz.ntmps55 rfl ?_
 refine Qd (Qa (Qb rfl rfl (Qk rfl rfl (Qg rfl Wu rfl (Qo rfl Y4 (hS.cell 0 rfl rfl) rfl (Qb rfl rfl (X2 (k:=id) 2 hS keysInt Tryz.underlying82 rfl rfl rfl Hv (u:=ptrV t.ad 0) (Zg ht) rfl (Qe rfl rfl (Qf (Qc (Qd (Qd ?_))))))))))))
 have hS1:=ZE (hS.pick [3,0,1,2,4,5,6] rfl) ht
 refine Qa (Qb rfl rfl (Qk rfl rfl (Qg rfl Wd rfl (Qo rfl JH (hS1.cell 0 rfl rfl) rfl ?_))))
 refine Qv Fu rfl (Mr (hS1.sp [1] rfl) (fun ks h=> by have :=hc.keysL ht h;omega)) rfl ?_
 rintro _ w2 ⟨ks,hks,hS2⟩
 replace hS2:=hS2.jn rfl rfl
 clear hS1
 obtain⟨ar,cr,hvr,_⟩:=hS2.own_shape 0 rfl; obtain rfl:=hvr
 refine X5 Tryz.underlying98 rfl rfl (Qb rfl rfl (Qf (Qc (Qi [1,0,4,17,18,19] rfl (Qw ?_)))))
 have hnd:=HP hks.nodup
 have hlk:(QP ks).length≤c:= by rw[WF]; exact hc.keysL ht (Came.of_all hks)
 refine Xe (fun K0 E0 W0=> ∃(i:Nat) (f:Int→Bool) (V1:VS),K0=(QP ks).length -i∧E0=[(0,ptrV b 0),(1,intV id),(4,ptrV t.ad 0),(17,.slice ar (QP ks).length cr),(18,intV ((QP ks).length:Int)),(19,intV (i:Int))]∧Sat W0 [QF t.ad [intV t.parent,.map (some t.ml),.map (some t.md)],Q3 Xy t.ml (Zj LfD.ad t.lv),Z0 RK t.lv,Q3 Xp t.md (Jg t.dr),Z0 K7 (Xz L.tr id none),QF b [ptrV L.sp 0,.map (some L.mp),.map (some L.mt),intV L.cur,.map (some L.ms)],Q3 Xy L.mp (Zt L.pres),Q3 Xf L.mt (Zj TrD.ad L.tr),Q3 Xf L.ms (Jg f),Zq L.sp (n+2*i) Fr V1,rowT kC (.slice ar (QP ks).length cr) (QP ks),F]∧(i≤(QP ks).length)∧(RemI ex L V V1 id ((QP ks).take i))) (L0:=[(0,_),(1,_),(4,_),(17,_),(18,_),(19,_)]) ((QP ks).length) (U9 rfl rfl rfl rfl rfl rfl) ⟨0,L.sh,V, by omega,rfl,hS2.pick [2,1,3,4,5,6,7,8,9,10,0,11] rfl, by omega,RemI.start hI⟩ ?_
 rintro _ _ w3 ⟨i,f,V1,rfl,rfl,hS3,hi,hrm⟩
 refine Qd (Qa (Xb rfl rfl rfl (Qf (Qc (Qd (Qs rfl (fun h4=> ?_) (fun h4=> ?_)))))))
 ·obtain⟨k,hk⟩: ∃k,(QP ks)[i]? =some k:=⟨_,Zd (by omega)⟩
  refine Qr (Qc (Qd (Qw (Qd (Qa (Xu kC 10 i hS3 rfl rfl rfl (by first | rfl | omega) hk B2 rfl ?_))))))
  intro bx5 capx5 hvx5
  refine Wk 10 i hS3 rfl hvx5 rfl hk X9 Xh rfl rfl (Xg hS3 ZM rfl rfl ?_)
  intro kb wk6 hk6
  clear hS3
  refine QY hk6 rfl rfl Xh rfl (by rfl) (i:=0) rfl (by decide) ?_
  intro wk7 hk7; dsimp only[List.set]at hk7
  clear hk6
  replace hk7:=XM (k:=k) hk7
  refine Qf (Qc (Qd ?_))
  obtain⟨x,hl⟩: ∃x,t.lv k=some x:=Option.ne_none_iff_exists'.1 ((qbc hks k).1 (List.mem_of_getElem? hk))
  have hS8:=H9 (hk7.pick [3,0,1,2,4,5,6,7,8,9,10,11,12] rfl) hl
  have hS9:=hS8.drew
  refine QJ [0,1,2,3,4,5,6,7,8,9,10] [10] Wp (by kernel_rfl) ?_
  refine QE rfl rfl rfl (QE rfl rfl rfl (Xl rfl rfl rfl (QT rfl rfl rfl Wd (Q9 rfl rfl rfl (Qm rfl JH (hS9.cell 3 rfl rfl)) (Q9 rfl rfl rfl (XE rfl X9 Xh (hS9.blk 2 rfl) (Xn rfl) rfl) (Q9 rfl rfl rfl (Xx (k:=k) 4 hS9 keysKey Tryz.underlying90 rfl rfl rfl HI (u:=ptrV x.ad 0) (Zg hl)) (Xl rfl rfl rfl (QT rfl rfl rfl BZ (Q9 rfl rfl rfl (Qm rfl QO (hS9.cell 0 rfl rfl)) (Xj rfl rfl rfl rfl rfl rfl ?_))))))))))
  refine Qv UX rfl (UF (hS9.sp [7,10,11] rfl) (by omega) x.base) rfl ?_
  rintro _ w10 ⟨rfl,hS10⟩
  replace hS10:=hS10.jn rfl rfl
  clear hS9
  refine X6 (Xq (by kernel_rfl)) ?_
  refine VC.nil (Qc (Qi [19,18,17,4,1,0,6] rfl ?_))
  have hS11:=hS10.drew
  refine QJ [0,1,2,3,4,5,6,7,8,9,10] [10] Wp (by kernel_rfl) ?_
  refine QE rfl rfl rfl (QE rfl rfl rfl (Xl rfl rfl rfl (QT rfl rfl rfl Wd (Q9 rfl rfl rfl (Qm rfl JH (hS11.cell 6 rfl rfl)) (Q9 rfl rfl rfl (XE rfl X9 Xh (hS11.blk 5 rfl) (Xn rfl) rfl) (Q9 rfl rfl rfl (Xx (k:=k) 7 hS11 keysKey Tryz.underlying90 rfl rfl rfl HI (u:=ptrV x.ad 0) (Zg hl)) (Xl rfl rfl rfl (QT rfl rfl rfl Jt (Q9 rfl rfl rfl (Qm rfl QO (hS11.cell 3 rfl rfl)) (Xj rfl rfl rfl rfl rfl rfl ?_))))))))))
  refine Qv UX rfl (UF (hS11.sp [0,1,2] rfl) (by omega) x.own) rfl ?_
  rintro _ w12 ⟨rfl,hS12⟩
  replace hS12:=hS12.jn rfl rfl
  clear hS11
  refine X6 (Xq (by kernel_rfl)) ?_
  refine VC.nil (Ql (Qc (Qi [19,18,17,4,1,0] rfl (Qa (QK rfl rfl (by omega) (by omega) rfl ?_)))))
  refine Qb rfl rfl (Qf ?_)
  have hS13:=Wi hl (hS12.pick [3,4,0,1,2,5,6,7,8,9,10,11,12,13] rfl)
  have hr2:=hrm.step hx ht hl hk hnd
  exact Q6 (L1:=[(0,_),(1,_),(4,_),(17,_),(18,_),(19,intV ((i+1:Nat):Int))]) (U9 rfl rfl rfl rfl rfl rfl) (k1:=(QP ks).length -(i+1)) (by omega) ⟨i+1,_,_, by omega,rfl,hS13.pick [5,6,0,7,8,1,9,10,2,3,11,12] rfl, by omega,hr2⟩
 refine QS (Qp (Qp (Qz (Qc (Qa (Qb rfl rfl (Qk rfl rfl (Qg rfl Wu rfl (Qo rfl Y4 (hS3.cell 5 rfl rfl) rfl (Qb rfl rfl (Ji (k:=id) 7 hS3 keysInt Tryz.underlying82 rfl rfl rfl rfl ?_)))))))))))
 intro w14 hS14; dsimp only[List.set]at hS14; rw[Ph]at hS14
 clear hS3
 refine Qf (ZB (.inl rfl) rfl ?_)
 have hil:i=(QP ks).length:= by omega
 rw[hil,List.take_length]at hrm
 have hfin:=rem_fin (f:=f) hI hx hrm ht (qbc hks) hch
 exact⟨_,rfl,{L with tr:=Xz L.tr id none,sh:=f},V1,hfin.1,hfin.2,rfl,rfl,(X1 (m:=n+2*c) (by omega) ((Xd (L:={L with tr:=Xz L.tr id none,sh:=f}) (hS14.pick [5,6,7,4,8,9,11] rfl)).reorder [1,0,2] rfl)).reorder [1,0,2] rfl⟩
end Go.Proofs.YtkcjfoaejijdoaaGreatDoor
namespace Go.Proofs.YtkcjfoaejijdoaaGreatDoor
open Go.RowKit M
set_option linter.unusedSectionVars false
variable [Inhabited SlW]
def RH (now own:Bs) (wr:BitVec 64):Bs:=(List.range 64).map fun j=> if wr.getLsbD j=true then own.getD j 0 else now.getD j 0
def MgI (now own r:Bs) (wr:BitVec 64) (i:Nat):Prop:=r.length=64∧ ∀j,j<64→r[j]? = if j<i∧wr.getLsbD j=true then own[j]? else now[j]?
theorem MgI.start {now own:Bs} {wr:BitVec 64} (h:now.length=64):MgI now own now wr 0:=⟨h, fun j _=> by rw[if_neg (by omega)]⟩
theorem MgI.T {now own r:Bs} {wr:BitVec 64} {i:Nat} {c:UInt8} (h:MgI now own r wr i) (hi:i<64) (hw:wr.getLsbD i=true) (hc:own[i]? =some c):MgI now own (r.set i c) wr (i+1):= by
  refine⟨by rw[List.length_set]; exact h.1, fun j hj=> ?_⟩
  by_cases e:j=i
  · subst e
    rw[List.getElem?_set_self (by rw[h.1];omega),if_pos ⟨by omega,hw⟩,hc]
  · rw[List.getElem?_set_ne (fun q=>e q.symm),h.2 j hj]
    by_cases q:j<i∧wr.getLsbD j=true
    · rw[if_pos q,if_pos ⟨by omega,q.2⟩]
    · rw[if_neg q,if_neg fun a=>q ⟨by omega,a.2⟩]
theorem MgI.F {now own r:Bs} {wr:BitVec 64} {i:Nat} (h:MgI now own r wr i) (hw:wr.getLsbD i=false):MgI now own r wr (i+1):= by
  refine⟨h.1, fun j hj=> ?_⟩
  rw[h.2 j hj]
  by_cases q:j<i∧wr.getLsbD j=true
  · rw[if_pos q,if_pos ⟨by omega,q.2⟩]
  · rw[if_neg q,if_neg fun a=>q ⟨by
      have :j≠i:= fun e=> by subst e; rw[hw]at a; simp at a
      omega,a.2⟩]
theorem getD_some {l:Bs} {j:Nat} (h:j<l.length):l[j]? =some (l.getD j 0):= by simp [List.getD,h]
theorem MgI.fin {now own r:Bs} {wr:BitVec 64} (h:MgI now own r wr 64) (hn:now.length=64) (ho:own.length=64):r=RH now own wr:= by
  apply List.ext_getElem?
  intro j
  by_cases hj:j<64
  · rw[h.2 j hj]
    unfold RH
    rw[List.getElem?_map,List.getElem?_range hj]
    simp only[Option.map_some]
    split
    · rename_i q; rw[if_pos q.2,getD_some (by omega)]
    · rename_i q; rw[if_neg fun a=>q ⟨hj,a⟩,getD_some (by omega)]
  · rw[List.getElem?_eq_none (by rw[h.1];omega),List.getElem?_eq_none (by simp [RH];omega)]
theorem US {now own:Bs} {wr:BitVec 64}:(RH now own wr).length=64:= by simp [RH]
def KB (L:LvD) (t:TrD) (k:KD) (x:LfD):Prop:=x.wr≠0#64∧x.wr≠BitVec.allOnes 64∧Xc L t.parent k≠x.base
open Classical in
noncomputable def Yr (t:TrD) (l:List KD):Nat:=(l.filter fun k=>decide (∃x,t.lv k=some x∧x.wr≠0#64∧x.wr≠BitVec.allOnes 64)).length
def HS (made:KD→Option Int):KD→Int:= fun k=>(made k).getD 0
structure MdI (m:Nat) (L:LvD) (V V1:VS) (t:TrD) (ex:Int→Int) (made:KD→Option Int) (l:List KD):Prop where
  inv:LvX ex m L V1
  ab:Q8 L V1=Q8 L V
  pg: ∀s,XP V s→XT V1 s=XT V s
  av: ∀s,XP V s→XP V1 s
  mx: ∀j,j≠0→ ∃n:Nat,Sm (HS made) j n∧ex j=n
  dom: ∀k,made k≠none↔k∈l∧ ∃x,t.lv k=some x∧KB L t k x
  con: ∀k s x,made k=some s→t.lv k=some x→XT V1 s=RH (XT V (Xc L t.parent k)) (XT V x.own) x.wr
  al: ∀c,AliveLe V c→AliveLe V1 (c+Yr t l)
theorem Dk {κ:Type} {j:Int} (h:j≠0):Sm (fun _:κ=>0) j 0:=⟨[],List.nodup_nil, fun p=> by simp;omega,rfl⟩
theorem MdI.start {m:Nat} {L:LvD} {V:VS} {t:TrD} (h:LvI m L V):MdI m L V V t (fun _=>0) (fun _=>none) []:=
  ⟨h,rfl, fun _ _=>rfl, fun _ q=>q, fun j hj=>⟨0,Dk hj,rfl⟩, fun k=> by simp,(fun k s x q=> by cases q), fun c q=>q⟩
theorem MdI.nn {m:Nat} {L:LvD} {V V1:VS} {t:TrD} {ex:Int→Int} {made:KD→Option Int} {l:List KD} (h:MdI m L V V1 t ex made l):NN ex:= fun j hj=> by
  obtain⟨n,_,e⟩:=h.mx j hj
  rw[e];omega
theorem MdI.ge {m:Nat} {L:LvD} {V V1:VS} {t:TrD} {ex:Int→Int} {made:KD→Option Int} {l:List KD} (h:MdI m L V V1 t ex made l) {k:KD} {s:Int} (hk:made k=some s) (h0:s≠0):1≤ex s:= by
  obtain⟨n,a,e⟩:=h.mx s h0
  have :=Dj a (p:=k) (by unfold HS; rw[hk];rfl)
  rw[e];omega
theorem MdI.alive {m:Nat} {L:LvD} {V V1:VS} {t:TrD} {ex:Int→Int} {made:KD→Option Int} {l:List KD} (h:MdI m L V V1 t ex made l) {k:KD} {s:Int} (hk:made k=some s):XP V1 s:= by
  by_cases h0:s=0
  · exact .inl h0
  · obtain⟨n,a,b⟩:=h.inv.ref.1 s h0
    have :=h.ge hk h0
    exact .inr (h.inv.ref.alive_of (by omega))
theorem ON {t:TrD} {l:List KD} {i:Nat} {k:KD} (hk:l[i]? =some k):Yr t (l.take i)≤Yr t (l.take (i+1)):= by
  unfold Yr
  rw[List.take_add_one,hk,List.filter_append,List.length_append]
  omega
theorem EA {t:TrD} {l:List KD} {i:Nat} {k:KD} {x:LfD} (hk:l[i]? =some k) (hx:t.lv k=some x) (h1:x.wr≠0#64) (h2:x.wr≠BitVec.allOnes 64):Yr t (l.take (i+1))=Yr t (l.take i)+1:= by
  unfold Yr
  rw[List.take_add_one,hk,List.filter_append,List.length_append]
  simp only[Option.toList_some]
  rw[List.filter_cons_of_pos (by simp; exact⟨x,hx,h1,h2⟩)]
  rfl
theorem Ko {l:List KD} {i:Nat} {k j:KD} (hk:l[i]? =some k):j∈l.take (i+1)↔j∈l.take i∨j=k:= by
  rw[List.take_add_one,hk]; simp
theorem MdI.skip {m:Nat} {L:LvD} {V V1:VS} {t:TrD} {ex:Int→Int} {made:KD→Option Int} {l:List KD} {i:Nat} {k:KD} {x:LfD} (h:MdI m L V V1 t ex made (l.take i)) (hk:l[i]? =some k) (hx:t.lv k=some x) (hn: ¬KB L t k x):MdI m L V V1 t ex made (l.take (i+1)):=
  ⟨h.inv,h.ab,h.pg,h.av,h.mx, fun j=> by
    rw[h.dom,Ko hk]
    constructor
    · rintro⟨a,b⟩; exact⟨.inl a,b⟩
    · rintro⟨a | rfl,y,hy,b⟩
      · exact⟨a,y,hy,b⟩
      · rw[hx]at hy; cases hy; exact absurd b hn,h.con, fun c q=>(h.al c q).mono (by have :=ON (t:=t) hk;omega)⟩
theorem mdF_up {made:KD→Option Int} {k:KD} {s:Int}:HS (Xz made k (some s))=Vn (HS made) k s:= by
  funext j
  by_cases e:j=k
  · subst e; rw[XG];unfold HS; rw[Q1];rfl
  · rw[Zb e];unfold HS; rw[QI e]
theorem MdI.put {m:Nat} {L:LvD} {V V1 V2:VS} {t:TrD} {ex ex2:Int→Int} {made:KD→Option Int} {l:List KD} {i:Nat} {k:KD} {x:LfD} {s:Int} (h:MdI m L V V1 t ex made (l.take i)) (hk:l[i]? =some k) (hd:l.Nodup) (hx:t.lv k=some x) (hn:KB L t k x)
    (h1:LvX ex2 m L V2) (h2:Q8 L V2=Q8 L V) (h3: ∀j,XP V1 j→XT V2 j=XT V1 j∧XP V2 j) (h4: ∀j,j≠0→ex2 j=ex j+dl s j) (h5:XT V2 s=RH (XT V (Xc L t.parent k)) (XT V x.own) x.wr) (h6: ∀c,AliveLe V1 c→AliveLe V2 (c+1)):
    MdI m L V V2 t ex2 (Xz made k (some s)) (l.take (i+1)):= by
  have hni:=Hq hd hk
  have hm0:made k=none:=Classical.byContradiction fun q=>hni ((h.dom k).1 q).1
  refine⟨h1,h2, fun j hj=>((h3 j (h.av j hj)).1).trans (h.pg j hj), fun j hj=>(h3 j (h.av j hj)).2, fun j hj=> ?_, fun j=> ?_, fun j u y hu hy=> ?_, fun c q=>(h6 _ (h.al c q)).mono (by rw[EA hk hx hn.1 hn.2.1];omega)⟩
  · obtain⟨n,a,e⟩:=h.mx j hj
    rw[mdF_up]
    have hmk:HS made k=0:= by unfold HS; rw[hm0];rfl
    by_cases q:j=s
    · subst q
      exact⟨n+1,qal (by rw[hmk];omega) a, by rw[h4 j hj,Ww,e];omega⟩
    · refine⟨n,U5 (fun p=> ?_) a, by rw[h4 j hj,Ju q,e];omega⟩
      by_cases e2:p=k
      · subst e2; rw[XG,hmk]; exact⟨fun a=>absurd a.symm q, fun a=>absurd a.symm hj⟩
      · rw[Zb e2]
  · rw[Ko hk]
    by_cases e:j=k
    · subst e; rw[Q1]; simp; exact⟨x,hx,hn⟩
    · rw[QI e,h.dom]
      constructor
      · rintro⟨a,b⟩; exact⟨.inl a,b⟩
      · rintro⟨a | a,b⟩
        · exact⟨a,b⟩
        · exact absurd a e
  · by_cases e:j=k
    · subst e
      rw[Q1]at hu
      rw[hx]at hy
      cases hu; cases hy
      exact h5
    · rw[QI e]at hu
      rw[(h3 u (h.alive hu)).1]
      exact h.con j u y hu hy
theorem MdI.zero {m:Nat} {L:LvD} {V V1:VS} {t:TrD} {ex:Int→Int} {made:KD→Option Int} {l:List KD} {i:Nat} {k:KD} {x:LfD} {pg:Bs} (h:MdI m L V V1 t ex made (l.take i)) (hk:l[i]? =some k) (hd:l.Nodup) (hx:t.lv k=some x) (hn:KB L t k x)
    (hz:pg=zer) (hp:pg=RH (XT V (Xc L t.parent k)) (XT V x.own) x.wr):MdI m L V V1 t ex (Xz made k (some 0)) (l.take (i+1)):=
  h.put hk hd hx hn h.inv h.ab (fun j hj=>⟨rfl,hj⟩) (fun j hj=> by rw[Ju hj];omega) (by rw[Wr h.inv.zero,←hz,hp]) (fun c q=>q.mono (by omega))
theorem MdI.fresh {m:Nat} {L:LvD} {V V1:VS} {t:TrD} {ex:Int→Int} {made:KD→Option Int} {l:List KD} {i:Nat} {k:KD} {x:LfD} {pg:Bs} {s:Int} (h:MdI m L V V1 t ex made (l.take i)) (hk:l[i]? =some k) (hd:l.Nodup) (hx:t.lv k=some x) (hn:KB L t k x)
    (hs:1≤s) (hv:V1 s=none) (hp:pg=RH (XT V (Xc L t.parent k)) (XT V x.own) x.wr):MdI m L V (Xz V1 s (some (1,pg))) t (fun j=>ex j+dl s j) (Xz made k (some s)) (l.take (i+1)):= by
  have hl:pg.length=64:= by rw[hp]; exact US
  have hne: ∀j,XP V1 j→j≠s:= fun j hj e=> by
    subst e
    rcases hj with e | e
    · omega
    · exact e hv
  have e1:Q8 L (Xz V1 s (some (1,pg)))=Q8 L V1:=Vf fun p=>Km (hne _ (h.inv.aliveX h.nn p))
  refine h.put hk hd hx hn ⟨h.inv.ref.fresh hv hs hl,h.inv.rank, by rw[e1]; exact h.inv.agree⟩ (e1.trans h.ab) (fun j hj=>⟨Km (hne j hj), ?_⟩) (fun _ _=>rfl) (by rw[JV Q1]; exact hp) (fun c q=>q.put)
  rcases hj with e | e
  · exact .inl e
  · refine .inr ?_; rw[QI (hne j (.inr e))]; exact e
structure UnI (m:Nat) (L:LvD) (V V1:VS) (made:KD→Option Int) (l:List KD) (ex:Int→Int):Prop where
  inv:LvX ex m L V1
  ab:Q8 L V1=Q8 L V
  mx: ∀j,j≠0→ ∃n:Nat,Sm (W4 (fun k=>k∈l) 0 (HS made)) j n∧ex j=n
  al: ∀c,AliveLe V c→AliveLe V1 c
theorem UnI.nn {m:Nat} {L:LvD} {V V1:VS} {ex:Int→Int} {made:KD→Option Int} {l:List KD} (h:UnI m L V V1 made l ex):NN ex:= fun j hj=> by
  obtain⟨n,_,e⟩:=h.mx j hj
  rw[e];omega
theorem UnI.step {m:Nat} {L:LvD} {V V1:VS} {ex:Int→Int} {made:KD→Option Int} {l:List KD} {i:Nat} {k:KD} (h:UnI m L V V1 made (l.take i) ex) (hk:l[i]? =some k) (hd:l.Nodup):
    UnI m L V (Z2 V1 (HS made k)) made (l.take (i+1)) (fun j=>ex j -dl (HS made k) j):= by
  have hni:=Hq hd hk
  have hz:W4 (fun k=>k∈l.take i) 0 (HS made) k=HS made k:= by unfold W4; rw[if_neg hni]
  obtain⟨h1,h2⟩:=h.inv.unr (s:=HS made k) h.nn fun h0=> by
    obtain⟨n,a,e⟩:=h.mx _ h0
    have :=Dj a (p:=k) hz
    rw[e];omega
  refine⟨h1,h2.trans h.ab, fun j hj=> ?_, fun c q=>(h.al c q).unr⟩
  obtain⟨n,a,e⟩:=h.mx j hj
  rw[VW (P:= fun k=>k∈l.take i) (k:=k) (fun p=>(Ko hk).trans Or.comm)]
  by_cases q:HS made k=j
  · obtain⟨n',rfl,b⟩:=CR (v:=0) (hz.trans q) (by omega) a
    exact⟨n',b, by show ex j -dl (HS made k) j=_; rw[q,Ww,e];omega⟩
  · refine⟨n,U5 (fun p=> ?_) a, by show ex j -dl (HS made k) j=_; rw[Ju (fun a=>q a.symm),e];omega⟩
    by_cases e2:p=k
    · subst e2; rw[XG,hz]; exact⟨fun a=>absurd a.symm hj, fun a=>absurd a q⟩
    · rw[Zb e2]
theorem UnI.fin {m:Nat} {L:LvD} {V V1:VS} {ex:Int→Int} {made:KD→Option Int} {l:List KD} (h:UnI m L V V1 made l ex) (hl: ∀k,made k≠none→k∈l):LvI m L V1:= by
  refine h.inv.ext fun j hj=> ?_
  obtain⟨n,a,e⟩:=h.mx j hj
  have e1:W4 (fun k=>k∈l) 0 (HS made)= fun _=>0:= by
    funext k
    unfold W4
    split
    · rfl
    · rename_i q
      unfold HS
      cases r:made k with
      | none=>rfl
      | some s=> exact absurd (hl k (by rw[r]; simp)) q
  rw[e1]at a
  rw[e,Ll a (Dk hj)];rfl
def Gy (made:KD→Option Int):KD→Option Value:= fun k=>(made k).map intV
theorem OZ:Gy (fun _=>none)= fun _=>none:=rfl
theorem C9 {made:KD→Option Int} {k:KD} {s:Int}:upd (Gy made) k (some (intV s))=Gy (Xz made k (some s)):= by
  funext j
  by_cases e:j=k
  · subst e; rw[Z5];unfold Gy; rw[Q1];rfl
  · rw[WC e];unfold Gy; rw[QI e]
theorem FW {made:KD→Option Int} {k:KD}:(Gy made k).getD (intV 0)=intV (HS made k):= by unfold Gy HS; cases made k<;>rfl
theorem MdI.un {m:Nat} {L:LvD} {V V1:VS} {t:TrD} {ex:Int→Int} {made:KD→Option Int} {l:List KD} (h:MdI m L V V1 t ex made l):UnI m L V1 V1 made [] ex:= by
  refine⟨h.inv,rfl, fun j hj=> ?_, fun _ q=>q⟩
  obtain⟨n,a,e⟩:=h.mx j hj
  exact⟨n, by have e2:W4 (fun k=>k∈([]:List KD)) 0 (HS made)=HS made:=(by funext k; simp [W4]); rw[e2]; exact a,e⟩
end Go.Proofs.YtkcjfoaejijdoaaGreatDoor
