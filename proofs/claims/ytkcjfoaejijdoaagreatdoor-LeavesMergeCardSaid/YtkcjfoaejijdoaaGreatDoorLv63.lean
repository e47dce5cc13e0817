/- leaves: Leaves -/
import Derived.Test.YtkcjfoaejijdoaaGreatDoorLv62
import Derived.Test.YtkcjfoaejijdoaaGreatDoorLv33
import Derived.Test.YtkcjfoaejijdoaaGreatDoorLv56
import Derived.Shelf.Spec.TrailingZeros
set_option linter.unusedSectionVars false
set_option linter.unusedVariables false
set_option maxRecDepth 100000
set_option maxHeartbeats 1600000
namespace Go.Proofs.YtkcjfoaejijdoaaGreatDoor
open Go.RowKit M Proofs.Tryz
variable [Inhabited SlW]
structure LeR where
  k:KD
  base:Int
  own:Int
  rd:BitVec 64
  wr:BitVec 64
def leV (x:LeR):List Value:=[strV x.k.1,intV x.k.2,intV x.base,intV x.own,Z5 x.rd,Z5 x.wr]
def Pg:RowC LeR:=⟨leV,6, by decide, fun _=>rfl, fun _=>rfl⟩
def lfP (L:LvD) (k:KD):LeR:=⟨k,L.pres k,L.pres k,0#64,0#64⟩
def lfR (t:TrD) (k:KD):LeR:= match t.lv k with | none=>⟨k,0,0,0#64,0#64⟩ | some x=>⟨k,x.base,x.own,x.rd,x.wr⟩
theorem OF {t:TrD} {k:KD} {x:LfD} (h:t.lv k=some x):lfR t k=⟨k,x.base,x.own,x.rd,x.wr⟩:= by unfold lfR; rw[h]
theorem MN {α β:Type} {f:α→β} {l:List α} {i:Nat} {a:α} (h:l[i]? =some a):(l.take i).map f++[f a]=(l.take (i+1)).map f:= by
  rw[List.take_add_one,h,List.map_append];rfl
theorem PF {w:World} {b:Nat} {L:LvD} {F:Th} (hS:Sat w [XX b L,F]) (hlen: ∀ks,Came (XN L.pres) ks→ks.length≤100000000000):
    Calls prog 26 #[ptrV b 0,intV 0] w (Ret fun v w'=> ∃ks,AllC (XN L.pres) ks∧Sat w' [rowT Pg v ((QM ks).map (lfP L)),XX b L,F]):= by
 replace hS:=X1 hS
 refine Qm func26 U ntmps26 U ?_
 refine Qd (Qa (Qe U U (Qf (Qc (Qd (Qa (Qe U U (Qf (Qc (Qd (Qd (Qa (Qb U U (Xq U U U (Qf (Qc (Qt U (fun h1=> ?_) (fun h1=> ?_))))))))))))))))))
 ·refine Qd (Qd (Qa (Qb U U (Qj U U (Qg U Jm U (Qr U Hf (hS.cell 0 U U) U (Qv TZ U (R8 (hS.sp [1] U) hlen) U ?_)))))))
  rintro _ w2 ⟨ks,hks,j2⟩
  replace j2:=j2.jn U U
  obtain⟨ar,cr,hvr,_⟩:=j2.own_shape 0 rfl; obtain rfl:=hvr
  refine X7 underlying98 U U (Qb U U (Qf (Qc (Qh [1,0,4,5,18,19,20] U (Qw ?_)))))
  have hrn:=j2.row_nil Pg
  have hkl:(QM ks).length≤100000000000:= by rw[Wd]; exact hlen _ (Came.of_all hks)
  refine Xg (fun K0 E0 W0=> ∃(i:Nat) (ov:Value),K0=(QM ks).length -i∧E0=[(0,ptrV b 0),(5,ov),(18,.slice ar (QM ks).length cr),(19,intV ((QM ks).length:Int)),(20,intV (i:Int))]∧Sat W0 [Q8 b [ptrV L.sp 0,.map (some L.mp),.map (some L.mt),intV L.cur,.map (some L.ms)],Q5 Xr L.mp (XN L.pres),Q5 QN L.mt (X0 TrD.ad L.tr),XW YW L.tr,Q5 QN L.ms (ZF L.sh),rowT kC (.slice ar (QM ks).length cr) (QM ks),rowT Pg ov (((QM ks).take i).map (lfP L)),F]∧(i≤(QM ks).length)) (L0:=[(0,_),(5,_),(18,_),(19,_),(20,_)]) ((QM ks).length) (Hi U U U U U) ⟨0,_,rfl,rfl,hrn.pick [3,2,4,5,6,1,0,7] U, by omega⟩ ?_
  rintro _ _ w3 ⟨i,ov,rfl,rfl,j3,hi⟩
  refine Qd (Qa (Xk U U U (Qf (Qc (Qd (Qt U (fun h4=> ?_) (fun h4=> ?_)))))))
  ·obtain⟨k,hk⟩: ∃k,(QM ks)[i]? =some k:=⟨_,Zq (by omega)⟩
   refine Qs (Qc (Qd (Qw (Qd (Qa (Xx kC 5 i j3 U U U (by rfl) hk K6 U ?_))))))
   intro bx5 capx5 hvx5
   refine ZZ 5 i j3 U hvx5 U hk X9 Xf U U (Xa j3 Zy U U ?_)
   intro kb wk6 hk6
   refine QG hk6 U U Xf U (by rfl) (i:=0) U (by decide) ?_
   intro wk7 hk7; dsimp only[List.set]at hk7
   clear hk6
   replace hk7:=X6 (k:=k) hk7
   refine Qf (Qc ?_)
   have j8:=hk7.drew
   refine QE [0,1,2,3,4,5,6,7,8,9,10,11,12,13,14,15,16,17,18,19,20] [18,19] Wa (by kernel_rfl) ?_
   refine Q9 U U U (QQ U U U JT (Q4 U U U (Ql U W9 (j8.cell 0 U U)) (QQ U U U Ka (Q4 U U U (Ql U QL (j8.cell 0 U U)) (Q9 U U U (Xi U U U (QQ U U U Jm (Q4 U U U (Ql U Hf (j8.cell 1 U U)) (Q4 U U U (XB U X9 Xf (j8.blk 0 U) (Xv U) U) (Q4 U U U (X2 (k:=k) 2 j8 keysKey underlying81 U U U Hj (u:=intV (L.pres k)) (Us _ _)) (Q9 U U U (Xi U U U (QQ U U U Jm (Q4 U U U (Ql U Hf (j8.cell 1 U U)) (Q4 U U U (XB U X9 Xf (j8.blk 0 U) (Xv U) U) (Q4 U U U (X2 (k:=k) 2 j8 keysKey underlying81 U U U Hj (u:=intV (L.pres k)) (Us _ _)) (QZ U U U (fun _=>(ZC U Mo qah zr_56 U)) ?_)))))))))))))))))
   refine Xe U U U U U U ?_
   refine XU Pg [lfP L k] j8 U underlying52 ON U U U U (by rfl) rfl ?_
   intro bz w9 j9
   refine Xz (Xj (by kernel_rfl)) ?_
   refine Xe U U U U U U ?_
   refine ZH Pg 8 j9 U U U (j9.rd 0 U (by simp)) underlying52 underlying52 (by intro k hk; cases hk) OP U (by simp;omega) U (by simp;omega) ?_
   intro v10 w10 j10; dsimp only[List.set]at j10
   refine Xz (Xj (by kernel_rfl)) ?_
   refine XK U U U (VC.nil (Qk (Qc (Qh [20,19,18,0,5] U (Qa (QO U U (by omega) (by omega) U ?_))))))
   refine Qb U U (Qf ?_)
   exact Q3 (L1:=[(0,_),(5,_),(18,_),(19,_),(20,intV ((i+1:Nat):Int))]) (Hi U U U U U) (k1:=(QM ks).length -(i+1)) (by omega) ⟨i+1,_,rfl,rfl, by rw[←MN hk]; exact j10.pick [2,3,4,5,6,7,8,9] U, by omega⟩
  refine QU (Qq (Qq (Qx (Qc (Qd (Qa (Qb U U (Qe U U (Qf (Qc (Qu (Qp (QY (.inr U) U U ?_)))))))))))))
  have hil:i=(QM ks).length:= by omega
  rw[hil,List.take_length]at j3
  exact⟨_,U,ks,hks,(QX (j3.pick [0,1,2,3,4,6,7] U)).perm (List.Perm.swap _ _ _)⟩
 exact absurd U h1
theorem PD {w:World} {b:Nat} {L:LvD} {F:Th} (hS:Sat w [XX b L,F]) {id:Int} {t:TrD} (ht:L.tr id=some t) (h0:id≠0) (hlen: ∀ks,Came (X0 LfD.ad t.lv) ks→ks.length≤100000000000):
    Calls prog 26 #[ptrV b 0,intV id] w (Ret fun v w'=> ∃ks,AllC (X0 LfD.ad t.lv) ks∧Sat w' [rowT Pg v ((QM ks).map (lfR t)),XX b L,F]):= by
 replace hS:=X1 hS
 refine Qm func26 U ntmps26 U ?_
 refine Qd (Qa (Qe U U (Qf (Qc (Qd (Qa (Qe U U (Qf (Qc (Qd (Qd (Qa (Qb U U (Xq U U U (Qf (Qc (Qt U (fun h1=> ?_) (fun h1=> ?_))))))))))))))))))
 ·exact absurd h1 h0
 refine Qs (Qc (Qd (Qa (Qb U U (Qj U U (Qg U Zr U (Qr U Wx (hS.cell 0 U U) U (Qb U U (XV (k:=id) 2 hS keysInt underlying82 U U U JU (u:=ptrV t.ad 0) (XY ht) U (Qe U U (Qf (Qc (Qh [4,5,8] U (Qd (Qd (Qa (Qb U U (ZO underlying94 U U U (Qf (Qc (QR U (Qs (Qc (Qd (Qd ?_)))))))))))))))))))))))))
 have j2:=Z3 (hS.pick [3,0,1,2,4,5] U) ht
 refine Qa (Qb U U (Qj U U (Qg U ZE U (Qr U WR (j2.cell 0 U U) U (Qv Ca U (R9 (j2.sp [1] U) hlen) U ?_)))))
 rintro _ w3 ⟨ks,hks,j3⟩
 replace j3:=j3.jn U U
 obtain⟨ar,cr,hvr,_⟩:=j3.own_shape 0 rfl; obtain rfl:=hvr
 refine X7 underlying98 U U (Qb U U (Qf (Qc (Qh [4,5,8,58,59,60] U (Qw ?_)))))
 have hrn:=j3.row_nil Pg
 have hkl:(QM ks).length≤100000000000:= by rw[Wd]; exact hlen _ (Came.of_all hks)
 refine Xg (fun K0 E0 W0=> ∃(i:Nat) (ov:Value),K0=(QM ks).length -i∧E0=[(5,ov),(8,ptrV t.ad 0),(58,.slice ar (QM ks).length cr),(59,intV ((QM ks).length:Int)),(60,intV (i:Int))]∧Sat W0 [Q8 t.ad [intV t.parent,.map (some t.ml),.map (some t.md)],Q5 Xr t.ml (X0 LfD.ad t.lv),XW UW t.lv,Q5 W8 t.md (ZF t.dr),XW YW (Xu L.tr id none),Q8 b [ptrV L.sp 0,.map (some L.mp),.map (some L.mt),intV L.cur,.map (some L.ms)],Q5 Xr L.mp (XN L.pres),Q5 QN L.mt (X0 TrD.ad L.tr),Q5 QN L.ms (ZF L.sh),rowT kC (.slice ar (QM ks).length cr) (QM ks),rowT Pg ov (((QM ks).take i).map (lfR t)),F]∧(i≤(QM ks).length)) (L0:=[(5,_),(8,_),(58,_),(59,_),(60,_)]) ((QM ks).length) (Hi U U U U U) ⟨0,_,rfl,rfl,hrn.pick [3,2,4,5,6,7,8,9,10,1,0,11] U, by omega⟩ ?_
 rintro _ _ w4 ⟨i,ov,rfl,rfl,j4,hi⟩
 refine Qd (Qa (Xk U U U (Qf (Qc (Qd (Qt U (fun h5=> ?_) (fun h5=> ?_)))))))
 ·obtain⟨k,hk⟩: ∃k,(QM ks)[i]? =some k:=⟨_,Zq (by omega)⟩
  obtain⟨x,hx⟩: ∃x,t.lv k=some x:=Option.ne_none_iff_exists'.1 ((So hks k).1 (List.mem_of_getElem? hk))
  refine Qs (Qc (Qd (Qw (Qd (Qa (Xx kC 9 i j4 U U U (by rfl) hk K6 U ?_))))))
  intro bx6 capx6 hvx6
  refine ZZ 9 i j4 U hvx6 U hk X9 Xf U U (Xa j4 Zy U U ?_)
  intro kb wk7 hk7
  refine QG hk7 U U Xf U (by rfl) (i:=0) U (by decide) ?_
  intro wk8 hk8; dsimp only[List.set]at hk8
  clear hk7
  replace hk8:=X6 (k:=k) hk8
  refine Qf (Qc (Qd ?_))
  have j9:=hk8.drew
  refine QE [0,1,2,3,4,5,6] [] Wa (by kernel_rfl) ?_
  refine Q9 U U U (Xi U U U (QQ U U U ZE (Q4 U U U (Ql U WR (j9.cell 1 U U)) (Q4 U U U (XB U X9 Xf (j9.blk 0 U) (Xv U) U) (Q4 U U U (X2 (k:=k) 2 j9 keysKey underlying90 U U U HB (u:=ptrV x.ad 0) (XY hx)) (XK U U U (VC.nil (Qc (Qh [60,59,58,8,5,10,11] U ?_)))))))))
  have j10:=JC (j9.pick [3,0,1,2,4,5,6,7,8,9,10,11,12] U) hx
  have j11:=j10.drew
  refine QE [0,1,2,3,4,5,6,7,8,9,10,11,12,13,14,15,16,17,18,19,20,21,22,23,24] [22,23] Wa (by kernel_rfl) ?_
  refine Q9 U U U (QQ U U U JT (Q4 U U U (Ql U W9 (j11.cell 2 U U)) (QQ U U U Ka (Q4 U U U (Ql U QL (j11.cell 2 U U)) (Q9 U U U (Xi U U U (QQ U U U UN (Q4 U U U (Ql U QL (j11.cell 0 U U)) (Q9 U U U (Xi U U U (QQ U U U WK (Q4 U U U (Ql U QL (j11.cell 0 U U)) (Q9 U U U (Xi U U U (QQ U U U JR (Q4 U U U (Ql U J6 (j11.cell 0 U U)) (Q9 U U U (Xi U U U (QQ U U U Wj (Q4 U U U (Ql U J6 (j11.cell 0 U U)) (QZ U U U (fun _=>(ZC U Rz qah zr_56 U)) ?_)))))))))))))))))))))
  refine Xe U U U U U U ?_
  refine XU Pg [⟨k,x.base,x.own,x.rd,x.wr⟩] j11 U underlying52 ON U U U U (by rfl) rfl ?_
  intro bz w12 j12
  refine Xz (Xj (by kernel_rfl)) ?_
  refine Xe U U U U U U ?_
  refine ZH Pg 13 j12 U U U (j12.rd 0 U (by simp)) underlying52 underlying52 (by intro k hk; cases hk) OP U (by simp;omega) U (by simp;omega) ?_
  intro v13 w13 j13; dsimp only[List.set]at j13
  refine Xz (Xj (by kernel_rfl)) ?_
  refine XK U U U (VC.nil (Qk (Qc (Qh [60,59,58,8,5] U (Qa (QO U U (by omega) (by omega) U ?_))))))
  refine Qb U U (Qf ?_)
  have j14:=Wc hx (j13.pick [1,2,0,3,4,5,6,7,8,9,10,11,12,13,14] U)
  exact Q3 (L1:=[(5,_),(8,_),(58,_),(59,_),(60,intV ((i+1:Nat):Int))]) (Hi U U U U U) (k1:=(QM ks).length -(i+1)) (by omega) ⟨i+1,_,rfl,rfl, by rw[←MN hk,OF hx]; exact j14.pick [3,4,0,5,6,7,8,9,10,11,12,13] U, by omega⟩
 refine QU (Qq (Qq (Qx (Qc (Qd (Qa (Qb U U (Qe U U (Qf (Qc (Qu (QY (.inr U) U U ?_))))))))))))
 have hil:i=(QM ks).length:= by omega
 rw[hil,List.take_length]at j4
 have j15:=Zw ht (j4.pick [0,1,2,3,4,5,6,7,8,9,10,11] U)
 exact⟨_,U,ks,hks,(QX (j15.pick [1,2,3,0,4,6,7] U)).perm (List.Perm.swap _ _ _)⟩
def P7:Pl→Int
  | .inl _=>0
  | .inr q=>q.1
def Dx:Pl→KD
  | .inl k=>k
  | .inr q=>q.2.1
def Bt (L:LvD) (id:Int) (k:KD):LeR:= if id=0 then lfP L k else match L.tr id with | none=>⟨k,0,0,0#64,0#64⟩ | some t=>lfR t k
def qsP (id:Int) (k:KD):List Pl:= if id=0 then[.inl k]else[.inr (id,k,true),.inr (id,k,false)]
theorem S8 {id:Int} {k:KD} {p:Pl} (h:p∈qsP id k):P7 p=id∧Dx p=k:= by
  unfold qsP at h
  split at h
  · rename_i e
    simp at h
    subst h; exact⟨e.symm,rfl⟩
  · simp at h
    rcases h with rfl | rfl
    · exact⟨U,U⟩
    · exact⟨U,U⟩
theorem qs_mem {id:Int} {p:Pl} (h:P7 p=id) (h0: ∀q,p= .inr q→q.1≠0):p∈qsP id (Dx p):= by
  unfold qsP
  cases p with
  | inl k=>
    have h:0=id:=h
    rw[if_pos h.symm]; simp [Dx]
  | inr q=>
    obtain⟨i,k,o⟩:=q
    have h:i=id:=h
    have h1:=h0 _ U
    subst h
    rw[if_neg h1]
    cases o<;> simp [Dx]
theorem CU {id:Int}: ∀{kl:List KD},kl.Nodup→(kl.flatMap (qsP id)).Nodup
  | [],_=> by simp
  | k::kl,h=> by
    obtain⟨h1,h2⟩:=List.nodup_cons.1 h
    rw[List.flatMap_cons,List.nodup_append]
    refine⟨?_,CU h2, fun a ha b hb e=> ?_⟩
    · unfold qsP;split<;> simp
    · subst e
      obtain⟨k2,hk2,hb2⟩:=List.mem_flatMap.1 hb
      have e1:=(S8 ha).2
      have e2:=(S8 hb2).2
      rw[←e1,e2]at h1
      exact h1 hk2
structure VisI (L:LvD) (dn:List Int) (lp:List Pl):Prop where
  nod:lp.Nodup
  ids: ∀p∈lp,P7 p∈dn
  all: ∀p,P7 p∈dn→QP L p≠0→p∈lp
theorem VisI.nil {L:LvD}:VisI L [] []:=⟨List.nodup_nil,(fun p h=> by cases h),(fun p h=> by cases h)⟩
theorem VisI.step {L:LvD} {dn:List Int} {lp:List Pl} {id:Int} {kl:List KD} (h:VisI L dn lp) (hid:id∉dn) (hkl:kl.Nodup) (hc: ∀p,P7 p=id→QP L p≠0→Dx p∈kl) (h0:L.tr 0=none):VisI L (dn++[id]) (lp++kl.flatMap (qsP id)):= by
  refine⟨List.nodup_append.2 ⟨h.nod,CU hkl, fun a ha b hb e=> ?_⟩, fun p hp=> ?_, fun p hp hne=> ?_⟩
  · subst e
    obtain⟨k,_,hb⟩:=List.mem_flatMap.1 hb
    have :=h.ids a ha
    rw[(S8 hb).1]at this
    exact hid this
  · rcases List.mem_append.1 hp with q | q
    · exact List.mem_append_left _ (h.ids p q)
    · obtain⟨k,_,hb⟩:=List.mem_flatMap.1 q
      rw[(S8 hb).1]; simp
  · rcases List.mem_append.1 hp with r | r
    · exact List.mem_append_left _ (h.all p r hne)
    · have e:P7 p=id:= by simpa using r
      refine List.mem_append_right _ (List.mem_flatMap.2 ⟨Dx p,hc p e hne,qs_mem e fun q hq e0=> ?_⟩)
      subst hq
      obtain⟨i,k,o⟩:=q
      have e0:i=0:=e0
      subst e0
      exact hne (by simp [QP,h0])
theorem VisI.fin {L:LvD} {ids:List Int} {lp:List Pl} {s:Int} (h:VisI L ids lp) (hs:s≠0) (hi: ∀i,i=0∨L.tr i≠none→i∈ids):Pd (QP L) s (lp.countP fun p=>decide (QP L p=s)):= by
  refine⟨lp.filter fun p=>decide (QP L p=s),h.nod.filter _, fun p=> ?_,List.countP_eq_length_filter.symm⟩
  rw[List.mem_filter]
  constructor
  · rintro⟨_,e⟩;simpa using e
  · intro e
    refine⟨h.all p (hi _ ?_) (by rw[e]; exact hs), by simpa using e⟩
    cases p with
    | inl k=> exact .inl rfl
    | inr q=>
      refine .inr fun ht=>hs ?_
      obtain⟨i,k,o⟩:=q
      have ht:L.tr i=none:=ht
      rw[←e]; simp [QP,ht]
theorem LZ {L:LvD} {ks:List Int} (h0:L.tr 0=none) (h:AllC (X0 TrD.ad L.tr) ks):(0::ZL ks).Nodup∧ ∀i,i∈0::ZL ks↔i=0∨L.tr i≠none:= by
  have hm: ∀i,i∈ZL ks↔L.tr i≠none:= fun i=> by
    rw[(JA ks).mem_iff,h.mem]
    unfold X0
    cases L.tr i<;> simp
  exact⟨List.nodup_cons.2 ⟨fun q=>(hm 0).1 q h0,(JA ks).nodup_iff.2 h.nodup⟩, fun i=> by rw[List.mem_cons,hm]⟩
theorem PE {w:World} {b c:Nat} {L:LvD} {F:Th} (hS:Sat w [XX b L,F]) (hc:SzLe L c) (hcc:c≤100000) (h0:L.tr 0=none) {id:Int} (hid:id=0∨L.tr id≠none):
    Calls prog 26 #[ptrV b 0,intV id] w (Ret fun v w'=> ∃kl:List KD,kl.Nodup∧kl.length≤c∧(∀p,P7 p=id→QP L p≠0→Dx p∈kl)∧Sat w' [rowT Pg v (kl.map (Bt L id)),XX b L,F]):= by
  by_cases e:id=0
  · subst e
    refine(PF hS fun ks hk=>Nat.le_trans (hc.keysP hk) (by omega)).mono fun ew w h=>h.mono fun v w h=> ?_
    obtain⟨ks,hks,h⟩:=h
    refine⟨QM ks, ?_, by rw[Wd]; exact hc.keysP (Came.of_all hks), fun p hp hne=> ?_,h⟩
    · exact(J9 ks).nodup_iff.2 hks.nodup
    · cases p with
      | inl k=> exact(allP hks k).2 hne
      | inr q=>
        obtain⟨i,k,o⟩:=q
        have hp:i=0:=hp
        subst hp
        exact absurd (by simp [QP,h0]) hne
  · obtain⟨t,ht⟩:=Option.ne_none_iff_exists'.1 (hid.resolve_left e)
    refine(PD hS ht e fun ks hk=>Nat.le_trans (hc.keysL ht hk) (by omega)).mono fun ew w h=>h.mono fun v w h=> ?_
    obtain⟨ks,hks,h⟩:=h
    have er:(QM ks).map (Bt L id)=(QM ks).map (lfR t):= by
      refine List.map_congr_left fun k _=> ?_
      unfold Bt; rw[if_neg e,ht]
    refine⟨QM ks,(J9 ks).nodup_iff.2 hks.nodup, by rw[Wd]; exact hc.keysL ht (Came.of_all hks), fun p hp hne=> ?_, by rw[er]; exact h⟩
    cases p with
    | inl k=> exact absurd (show(0:Int)=id from hp).symm e
    | inr q=>
      obtain⟨i,k,o⟩:=q
      have hp:i=id:=hp
      subst hp
      refine(So hks k).2 fun hx=>hne ?_
      simp [QP,ht,hx]
theorem Pv {w:World} {p n F c:Nat} {V:VS} {X:Th} (hS:Sat w [XD p n F V,X]) (hc:AliveLe V c) (hcc:c≤100000000000):Calls prog 21 #[ptrV p 0] w (Ret fun v w'=> ∃ls:List Int,ls.Pairwise (· < ·)∧(∀j,j∈ls↔V j≠none)∧ls.length≤c∧Sat w' [rowT inC v ls,XD p n F V,X]):= by
  obtain⟨S,hI,rfl,hF,hS⟩:=WH hS
  obtain⟨ids,h1,h2⟩:=hc
  have hv: ∀j,vw S j≠none↔S.all j≠none:= fun j=> by
    cases q:S.all j with
    | none=> rw[Ht q]; simp
    | some x=> rw[HU q]; simp
  refine(Lt hS (ids:=ids) (fun j hj=>h2 j ((hv j).2 hj)) (by omega)).mono fun e w h=>h.mono fun v w h=> ?_
  obtain⟨ks,hks,h⟩:=h
  have hm: ∀j,j∈ZL ks↔vw S j≠none:= fun j=> by
    rw[(JA ks).mem_iff,hks.mem,hv]
    unfold aG
    cases S.all j<;> simp
  exact⟨ZL ks,M9 hks.nodup,hm,Nat.le_trans (Zp ((JA ks).nodup_iff.2 hks.nodup) fun j hj=>h2 j ((hm j).1 hj)) h1,(Z9 hI U hF (h.perm (List.Perm.swap _ _ _))).perm (List.Perm.swap _ _ _)⟩
structure AbQ (m c:Nat) (L L':LvD) (V':VS) (id:Int) (K K':Nat):Prop where
  inv:LvI m L' V'
  sp:L'.sp=L.sp
  pres:L'.pres=L.pres
  sub:SubT L.tr L'.tr
  gone:L'.tr id=none
  trn:TrN L'.tr K'
  le:K'≤K
  sz:SzLe L' c
end Go.Proofs.YtkcjfoaejijdoaaGreatDoor
namespace Go.Proofs.YtkcjfoaejijdoaaGreatDoor
open Go.RowKit M Proofs.Tryz
theorem TrN.came {T:Int→Option TrD} {K:Nat} {ks:List Int} (h:TrN T K) (hq:Came (X0 TrD.ad T) ks):ks.length≤K:= by
  obtain⟨ids,h1,h2⟩:=h
  exact Nat.le_trans (R5 hq.nodup fun i hi=>h2 i fun q=>absurd (by unfold X0; rw[q];rfl) (hq.has i hi)) h1
variable [Inhabited SlW]
def WB (x:LfD):LfD:={x with ad:=0}
def WW (t:TrD):TrD:=⟨0,0,0,t.parent, fun k=>(t.lv k).map WB,t.dr⟩
def SimT (T2 T:Int→Option TrD):Prop:= ∀i,(T2 i).map WW=(T i).map WW
theorem Pr {g:KD→Option LfD} {f:KD→Option LfD} {dk:KD→Prop} {k:KD} {x y:LfD} (h: ∀j,(dk j→(g j).map WB=(f j).map WB)∧(¬dk j→g j=none)) (hx:f k=some x) (hy:WB y=WB x): ∀j,((dk j∨j=k)→((Xu g k (some y)) j).map WB=(f j).map WB)∧(¬(dk j∨j=k)→(Xu g k (some y)) j=none):= by
  intro j
  by_cases e:j=k
  · subst e
    exact⟨fun _=> by rw[Qy,hx]; simp [hy], fun q=>absurd (.inr U) q⟩
  · rw[QF e]
    exact⟨fun q=>(h j).1 (q.resolve_right e), fun q=>(h j).2 fun d=>q (.inl d)⟩
theorem Ps {g:KD→Option LfD} {f:KD→Option LfD} {dk:KD→Prop} (h: ∀j,(dk j→(g j).map WB=(f j).map WB)∧(¬dk j→g j=none)) (hd: ∀k v,X0 LfD.ad f k=some v→dk k):(fun k=>(g k).map WB)= fun k=>(f k).map WB:= by
  funext k
  cases hx:f k with
  | none=>
    by_cases d:dk k
    · rw[(h k).1 d,hx]
    · rw[(h k).2 d]
  | some x=>
    rw[(h k).1 (hd k (ptrV x.ad 0) (by unfold X0; rw[hx];rfl)),hx]
theorem CA {g:Int→Option TrD} {f:Int→Option TrD} {dk:Int→Prop} {k:Int} {x y:TrD} (h: ∀j,(dk j→(g j).map WW=(f j).map WW)∧(¬dk j→g j=none)) (hx:f k=some x) (hy:WW y=WW x): ∀j,((dk j∨j=k)→((Xu g k (some y)) j).map WW=(f j).map WW)∧(¬(dk j∨j=k)→(Xu g k (some y)) j=none):= by
  intro j
  by_cases e:j=k
  · subst e
    exact⟨fun _=> by rw[Qy,hx]; simp [hy], fun q=>absurd (.inr U) q⟩
  · rw[QF e]
    exact⟨fun q=>(h j).1 (q.resolve_right e), fun q=>(h j).2 fun d=>q (.inl d)⟩
theorem CB {g:Int→Option TrD} {f:Int→Option TrD} {dk:Int→Prop} (h: ∀j,(dk j→(g j).map WW=(f j).map WW)∧(¬dk j→g j=none)) (hd: ∀k v,X0 TrD.ad f k=some v→dk k):SimT g f:= by
  intro k
  cases hx:f k with
  | none=>
    by_cases d:dk k
    · rw[(h k).1 d,hx]
    · rw[(h k).2 d]
  | some x=>
    rw[(h k).1 (hd k (ptrV x.ad 0) (by unfold X0; rw[hx];rfl)),hx]
theorem KZ {w:World} {F:Th} {b:Nat} {g:Int→Option Value} (hS:Sat w [Q5 QN b g,F]):
    Calls prog 81 #[.map (some b)] w (Ret fun v w'=> ∃b',v= .map (some b')∧Sat w' [Q5 QN b' g,Q5 QN b g,F]):= by
 refine Qm func81 U ntmps81 U ?_
 refine Qd (Qa (Qe U U (Qf (Qc (Qd (Qd (Qa (Qb U U (Yv underlying83 U U U (Qf (Qc (QR U (Qs (Qc (Qd (Qa (Qb U U (Yu Oo U U (Yt 0 hS func127 mc1 mc2 mc3 mc4 U U U ?_)))))))))))))))))))
 intro b9 w9 j9
 exact Ya Oo U U (Qe U U (Qf (Qc (Qu (QY (.inr U) U U (⟨_,U,_,U,j9⟩))))))
theorem DU {w:World} {F:Th} {b:Nat} {g:Bs→Option Value} (hS:Sat w [Q5 W8 b g,F]):
    Calls prog 82 #[.map (some b)] w (Ret fun v w'=> ∃b',v= .map (some b')∧Sat w' [Q5 W8 b' g,Q5 W8 b g,F]):= by
 refine Qm func82 U ntmps82 U ?_
 refine Qd (Qa (Qe U U (Qf (Qc (Qd (Qd (Qa (Qb U U (Yv underlying91 U U U (Qf (Qc (QR U (Qs (Qc (Qd (Qa (Qb U U (Yu On U U (Yt 0 hS func127 mc1 mc2 mc3 mc4 U U U ?_)))))))))))))))))))
 intro b9 w9 j9
 exact Ya On U U (Qe U U (Qf (Qc (Qu (QY (.inr U) U U (⟨_,U,_,U,j9⟩))))))
theorem y_norm {w:World} {a:Nat} {b1 o1:Int} {r1 w1:BitVec 64} {As:List Th} (h:Sat w (Q8 a [intV b1,intV o1,Z5 r1,Z5 w1]::As)):Sat w (Q8 a [intV b1,intV o1,Z5 r1,Z5 w1]::As):=h
theorem LV {w:World} {b s:Nat} {L:LvD} {F:Th} (hS:Sat w [XX b L,F]):
    Calls prog 29 #[ptrV b 0,ptrV s 0] w (Ret fun v w'=> ∃q L2,v=ptrV q 0∧L2.sp=s∧L2.pres=L.pres∧L2.cur=L.cur∧L2.sh=L.sh∧SimT L2.tr L.tr∧Sat w' [XX q L2,XX b L,F]):= by
 replace hS:=X1 hS
 refine Qm func29 U ntmps29 U ?_
 refine Qd (Qa (Qe U U (Qf (Qc (Ts (fun E0 W0=> ∃(q mp2 mt2 ms2:Nat),E0=[(0,ptrV b 0),(5,ptrV q 0)]∧Sat W0 [Q8 b [ptrV L.sp 0,.map (some L.mp),.map (some L.mt),intV L.cur,.map (some L.ms)],Q5 Xr L.mp (XN L.pres),Q5 QN L.mt (X0 TrD.ad L.tr),XW YW L.tr,Q5 QN L.ms (ZF L.sh),Q8 q [ptrV s 0,.map (some mp2),.map (some mt2),intV L.cur,.map (some ms2)],Q5 Xr mp2 (XN L.pres),Q5 QN mt2 (fun _=>none),Q5 QN ms2 (ZF L.sh),F]) ?_ ?_)))))
 ·have j2:=hS.drew
  refine Va Wa (U2 5 6 U ?_ ?_)
  ·refine U2 6 15 U ?_ ?_
   ·refine HQ (sp:=[5,6,15,17]) [0,1,2,3,4,7,8,9,10,11,12,13,14,5,6,15,16,17,18] (by kernel_rfl) ?_
    refine Q9 U U U (Q9 U U U (Xi U U U (QQ U U U Jm (Q4 U U U (Ql U Hf (j2.cell 0 U U)) (Q9 U U U (Xi U U U (QQ U U U VZ (Q4 U U U (Ql U QL (j2.cell 0 U U)) (Q9 U U U (Xi U U U (QQ U U U RG (Q4 U U U (Ql U Hq (j2.cell 0 U U)) (Xe U U U U U U ?_)))))))))))))
    refine Qv TW U (Kf (j2.sp [1] U)) U ?_
    rintro _ w3 ⟨mp2,rfl,j3⟩
    replace j3:=j3.jn U U
    refine Xz (.cons (.inl ⟨rfl,(Ql U Hq (j3.cell 2 U U))⟩) (.cons (.inl ⟨rfl,(Ql U QL (j3.cell 2 U U))⟩) (Xj (by kernel_rfl)))) ?_
    refine Xe U U U U U U ?_
    refine Zi QN j3 U ?_
    intro mt2 w4 j4
    refine Xz (.cons (.inl ⟨rfl,(Ql U Hq (j4.cell 3 U U))⟩) (.cons (.inl ⟨rfl,(Ql U QL (j4.cell 3 U U))⟩) (Xj (by kernel_rfl)))) ?_
    refine Xe U U U U U U ?_
    refine Qv Si U (KZ (j4.sp [6] U)) U ?_
    rintro _ w5 ⟨ms2,rfl,j5⟩
    replace j5:=j5.jn U U
    refine Xz (.skip (by kernel_rfl) (.cons (.inl ⟨rfl,(Ql U QL (j5.cell 5 U U))⟩) (Xj (by kernel_rfl)))) ?_
    refine QZ U U U (fun _=>(ZC U Hl Cr Ss U)) ?_
    refine Xe U U U U U U ?_
    refine XR j5 U U U ?_
    intro q w6 j6
    refine Xz (Xj (by kernel_rfl)) ?_
    exact XK U U U (VC.nil (UD (Bo U U) ⟨q,_,_,_,U,j6.pick [6,5,7,8,2,0,4,3,1,9] U⟩))
   refine HQ (sp:=[5,6,15,17]) [0,1,2,3,4,7,8,9,10,11,12,13,14,5,15,6,16,17,18] (by kernel_rfl) ?_
   refine Q9 U U U (Q9 U U U (Xi U U U (QQ U U U Jm (Q4 U U U (Ql U Hf (j2.cell 0 U U)) (Q9 U U U (Xi U U U (QQ U U U VZ (Q4 U U U (Ql U QL (j2.cell 0 U U)) (Q9 U U U (Xi U U U (QQ U U U RG (Q4 U U U (Ql U Hq (j2.cell 0 U U)) (Xe U U U U U U ?_)))))))))))))
   refine Qv TW U (Kf (j2.sp [1] U)) U ?_
   rintro _ w7 ⟨mp2,rfl,j7⟩
   replace j7:=j7.jn U U
   refine Xz (.cons (.inl ⟨rfl,(Ql U Hq (j7.cell 2 U U))⟩) (.cons (.inl ⟨rfl,(Ql U QL (j7.cell 2 U U))⟩) (Xj (by kernel_rfl)))) ?_
   refine Xe U U U U U U ?_
   refine Qv Si U (KZ (j7.sp [5] U)) U ?_
   rintro _ w8 ⟨ms2,rfl,j8⟩
   replace j8:=j8.jn U U
   refine Xz (.skip (by kernel_rfl) (.cons (.inl ⟨rfl,(Ql U QL (j8.cell 4 U U))⟩) (Xj (by kernel_rfl)))) ?_
   refine Xe U U U U U U ?_
   refine Zi QN j8 U ?_
   intro mt2 w9 j9
   refine Xz (.cons (.inl ⟨rfl,(Ql U Hq (j9.cell 5 U U))⟩) (.cons (.inl ⟨rfl,(Ql U QL (j9.cell 5 U U))⟩) (Xj (by kernel_rfl)))) ?_
   refine QZ U U U (fun _=>(ZC U Hl Cr Ss U)) ?_
   refine Xe U U U U U U ?_
   refine XR j9 U U U ?_
   intro q w10 j10
   refine Xz (Xj (by kernel_rfl)) ?_
   exact XK U U U (VC.nil (UD (Bo U U) ⟨q,_,_,_,U,j10.pick [6,5,7,8,3,0,4,1,2,9] U⟩))
  refine HQ (sp:=[5,6,15,17]) [0,1,2,3,4,7,8,9,10,11,12,13,14,6,5,15,16,17,18] (by kernel_rfl) ?_
  refine Q9 U U U (Q9 U U U (Xi U U U (QQ U U U Jm (Q4 U U U (Ql U Hf (j2.cell 0 U U)) (Q9 U U U (Xi U U U (QQ U U U VZ (Q4 U U U (Ql U QL (j2.cell 0 U U)) (Q9 U U U (Xi U U U (QQ U U U RG (Q4 U U U (Ql U Hq (j2.cell 0 U U)) (Xe U U U U U U ?_)))))))))))))
  refine Zi QN j2 U ?_
  intro mt2 w11 j11
  refine Xz (.cons (.inl ⟨U,(Ql U Hq (j11.cell 1 U U))⟩) (.cons (.inl ⟨U,(Ql U QL (j11.cell 1 U U))⟩) (.cons (.inl ⟨U,(Ql U Hf (j11.cell 1 U U))⟩) .nil))) (Xe U U U U U U ?_)
  refine Qv TW U (Kf (j11.sp [2] U)) U ?_
  rintro _ w12 ⟨mp2,rfl,j12⟩
  replace j12:=j12.jn U U
  refine Xz (.cons (.inl ⟨rfl,(Ql U Hq (j12.cell 3 U U))⟩) (.cons (.inl ⟨rfl,(Ql U QL (j12.cell 3 U U))⟩) (Xj (by kernel_rfl)))) ?_
  refine Xe U U U U U U ?_
  refine Qv Si U (KZ (j12.sp [6] U)) U ?_
  rintro _ w13 ⟨ms2,rfl,j13⟩
  replace j13:=j13.jn U U
  refine Xz (.skip (by kernel_rfl) (.cons (.inl ⟨rfl,(Ql U QL (j13.cell 5 U U))⟩) (Xj (by kernel_rfl)))) ?_
  refine QZ U U U (fun _=>(ZC U Hl Cr Ss U)) ?_
  refine Xe U U U U U U ?_
  refine XR j13 U U U ?_
  intro q w14 j14
  refine Xz (Xj (by kernel_rfl)) ?_
  exact XK U U U (VC.nil (UD (Bo U U) ⟨q,_,_,_,U,j14.pick [6,4,7,8,2,0,3,5,1,9] U⟩))
 rintro _ w1 ⟨q,mp2,mt2,ms2,rfl,j1⟩
 refine Qd (Qd (Qa (Qb U U (Qj U U (Qg U Zr U (Qr U Wx (j1.cell 0 U U) U (ZN 2 j1 underlying82 U U U ?_)))))))
 intro RR leftZ wRRR hSRRR; dsimp only[List.set]at hSRRR
 refine Qf (Qc (Qw ?_))
 have hz:=Ge (κ:=Int) YW (hSRRR)
 refine Xg (fun K0 E0 W0=> ∃(dn0:Int→Prop) (cur:Option Int) (left:Nat) (T2:Int→Option TrD),K0=left∧E0=[(5,ptrV q 0),(34,ptrV RR 0)]∧Sat W0 [Q8 b [ptrV L.sp 0,.map (some L.mp),.map (some L.mt),intV L.cur,.map (some L.ms)],Q5 Xr L.mp (XN L.pres),ZS QN L.mt RR (X0 TrD.ad L.tr) dn0 cur left,XW YW L.tr,Q5 QN L.ms (ZF L.sh),Q8 q [ptrV s 0,.map (some mp2),.map (some mt2),intV L.cur,.map (some ms2)],Q5 Xr mp2 (XN L.pres),Q5 QN mt2 (X0 TrD.ad T2),XW YW T2,Q5 QN ms2 (ZF L.sh),F]∧(∀j,(dn0 j→(T2 j).map WW=(L.tr j).map WW)∧(¬dn0 j→T2 j=none))) (L0:=[(5,_),(34,_)]) (leftZ) (Bo U U) ⟨_,_,_, fun _=>none,rfl,rfl,hz.pick [1,2,3,4,5,6,7,8,0,9,10] U, fun _=>⟨fun h=>h.elim, fun _=>rfl⟩⟩ ?_
 rintro _ _ w15 ⟨dn0,cur,left,T2,rfl,rfl,j15,hsim⟩
 refine Qd (Qa (Wp 2 j15 keysInt.inj U U U (fun hdoneA=> ?_) (fun i vA leftA wNA hleftA hgkA hndA hSNA=> ?_)))
 ·refine Qn U U U (Qf (Qc (Qd (QR U (QU (Qq (Qq (Qx (Qc (Qd (Qa (Qb U U (Qe U U (Qf (Qc (Qu (QY (.inr U) U U ?_)))))))))))))))))
  have hz:=ZA (j15.pick [2,0,1,3,4,5,6,7,8,9,10] U)
  exact⟨_,U,q,⟨s,mp2,mt2,ms2,L.pres,T2,L.cur,L.sh⟩,U,U,U,U,U,CB hsim hdoneA,(QX (L:=⟨s,mp2,mt2,ms2,L.pres,T2,L.cur,L.sh⟩) ((QX (L:=L) (hz.pick [1,2,0,3,4,5,6,7,8,9,10] U)).reorder [1,2,3,4,5,0,6] U))⟩
 dsimp only[List.set]at hSNA
 obtain⟨t,hu,rfl⟩:=YR hgkA
 refine Qn U U U (Qf (Qc (Qd (Xd U (Qs (Qc (Qw (Qd (Qa (ZP 2 hSNA U hgkA U U (Qn U U U (Qn U U U (Qe U U (Qe U U (Qf (Qc (Ts (fun E0 W0=> ∃(u nl nd:Nat),E0=[(5,ptrV q 0),(34,ptrV RR 0),(6,intV i),(7,ptrV t.ad 0),(8,ptrV u 0)]∧Sat W0 [Q8 u [intV t.parent,.map (some nl),.map (some nd)],Q5 Xr nl (fun _=>none),Q5 W8 nd (ZF t.dr),Q8 t.ad [intV t.parent,.map (some t.ml),.map (some t.md)],Q5 Xr t.ml (X0 LfD.ad t.lv),XW UW t.lv,Q5 W8 t.md (ZF t.dr),XW YW (Xu L.tr i none),Q8 b [ptrV L.sp 0,.map (some L.mp),.map (some L.mt),intV L.cur,.map (some L.ms)],Q5 Xr L.mp (XN L.pres),ZS QN L.mt RR (X0 TrD.ad L.tr) (fun j=>dn0 j∨j=i) (some i) leftA,Q5 QN L.ms (ZF L.sh),Q8 q [ptrV s 0,.map (some mp2),.map (some mt2),intV L.cur,.map (some ms2)],Q5 Xr mp2 (XN L.pres),Q5 QN mt2 (X0 TrD.ad T2),XW YW T2,Q5 QN ms2 (ZF L.sh),F]) ?_ ?_)))))))))))))))))
 ·have j17:=Z3 (hSNA.pick [3,0,1,2,4,5,6,7,8,9,10] U) hu
  have j18:=j17.drew
  refine Va Wa (U2 4 9 U ?_ ?_)
  ·refine HQ (sp:=[4,9,11]) [0,1,2,3,5,6,7,8,4,9,10,11,12] (by kernel_rfl) ?_
   refine Q9 U U U (Xi U U U (QQ U U U Jl (Q4 U U U (Ql U QL (j18.cell 0 U U)) (Q9 U U U (Xi U U U (QQ U U U UM (Q4 U U U (Ql U K7 (j18.cell 0 U U)) (Xe U U U U U U ?_))))))))
   refine Zi Xr j18 U ?_
   intro nl w19 j19
   refine Xz (.cons (.inl ⟨U,(Ql U K7 (j19.cell 1 U U))⟩) (.cons (.inl ⟨U,(Ql U QL (j19.cell 1 U U))⟩) .nil)) (Xe U U U U U U ?_)
   refine Qv IF U (DU (j19.sp [4] U)) U ?_
   rintro _ w20 ⟨nd,rfl,j20⟩
   replace j20:=j20.jn U U
   refine Xz (.skip (by kernel_rfl) (.cons (.inl ⟨rfl,(Ql U QL (j20.cell 3 U U))⟩) .nil)) ?_
   refine QZ U U U (fun _=>(ZC U Vn Sm EG U)) ?_
   refine Xe U U U U U U ?_
   refine XR j20 U U U ?_
   intro u w21 j21
   refine Xz (Xj (by kernel_rfl)) ?_
   exact XK U U U (VC.nil (UD (Hi U U U U U) ⟨u,_,_,U,j21.pick [0,3,1,4,5,6,2,7,8,9,10,11,12,13,14,15,16,17] U⟩))
  refine HQ (sp:=[4,9,11]) [0,1,2,3,5,6,7,8,9,4,10,11,12] (by kernel_rfl) ?_
  refine Q9 U U U (Xi U U U (QQ U U U Jl (Q4 U U U (Ql U QL (j18.cell 0 U U)) (Q9 U U U (Xi U U U (QQ U U U UM (Q4 U U U (Ql U K7 (j18.cell 0 U U)) (Xe U U U U U U ?_))))))))
  refine Qv IF U (DU (j18.sp [3] U)) U ?_
  rintro _ w22 ⟨nd,rfl,j22⟩
  replace j22:=j22.jn U U
  refine Xz (.skip (by kernel_rfl) (.cons (.inl ⟨rfl,(Ql U QL (j22.cell 2 U U))⟩) .nil)) ?_
  refine Xe U U U U U U ?_
  refine Zi Xr j22 U ?_
  intro nl w23 j23
  refine Xz (.cons (.inl ⟨U,(Ql U K7 (j23.cell 3 U U))⟩) (.cons (.inl ⟨U,(Ql U QL (j23.cell 3 U U))⟩) .nil)) (QZ U U U (fun _=>(ZC U Vn Sm EG U)) ?_)
  refine Xe U U U U U U ?_
  refine XR j23 U U U ?_
  intro u w24 j24
  refine Xz (Xj (by kernel_rfl)) ?_
  exact XK U U U (VC.nil (UD (Hi U U U U U) ⟨u,_,_,U,j24.pick [0,1,2,4,5,6,3,7,8,9,10,11,12,13,14,15,16,17] U⟩))
 rintro _ w16 ⟨u,nl,nd,rfl,j16⟩
 refine Qd (Qd (Qa (Qb U U (Qj U U (Qg U ZE U (Qr U WR (j16.cell 3 U U) U (ZN 4 j16 underlying90 U U U ?_)))))))
 intro R2 leftY wRR2 hSRR2; dsimp only[List.set]at hSRR2
 refine Qf (Qc (Qw ?_))
 have hz:=Ge (κ:=KD) UW (hSRR2)
 refine Xg (fun K0 E0 W0=> ∃(dk:KD→Prop) (ck:Option KD) (left3:Nat) (g1:KD→Option LfD),K0=left3∧E0=[(5,ptrV q 0),(34,ptrV RR 0),(6,intV i),(8,ptrV u 0),(56,ptrV R2 0)]∧Sat W0 [Q8 u [intV t.parent,.map (some nl),.map (some nd)],Q5 Xr nl (X0 LfD.ad g1),XW UW g1,Q5 W8 nd (ZF t.dr),Q8 t.ad [intV t.parent,.map (some t.ml),.map (some t.md)],ZS Xr t.ml R2 (X0 LfD.ad t.lv) dk ck left3,XW UW t.lv,Q5 W8 t.md (ZF t.dr),XW YW (Xu L.tr i none),Q8 b [ptrV L.sp 0,.map (some L.mp),.map (some L.mt),intV L.cur,.map (some L.ms)],Q5 Xr L.mp (XN L.pres),ZS QN L.mt RR (X0 TrD.ad L.tr) (fun j=>dn0 j∨j=i) (some i) leftA,Q5 QN L.ms (ZF L.sh),Q8 q [ptrV s 0,.map (some mp2),.map (some mt2),intV L.cur,.map (some ms2)],Q5 Xr mp2 (XN L.pres),Q5 QN mt2 (X0 TrD.ad T2),XW YW T2,Q5 QN ms2 (ZF L.sh),F]∧(∀j,(dk j→(g1 j).map WB=(t.lv j).map WB)∧(¬dk j→g1 j=none))) (L0:=[(5,_),(34,_),(6,_),(8,_),(56,_)]) (leftY) (Hi U U U U U) ⟨_,_,_, fun _=>none,rfl,rfl,hz.pick [1,2,0,3,4,5,6,7,8,9,10,11,12,13,14,15,16,17,18] U, fun _=>⟨fun h=>h.elim, fun _=>rfl⟩⟩ ?_
 rintro _ _ w25 ⟨dk,ck,left3,g1,rfl,rfl,j25,hl⟩
 refine Qd (Qa (Wp 5 j25 keysKey.inj U U U (fun hdoneB=> ?_) (fun k vB leftB wNB hleftB hgkB hndB hSNB=> ?_)))
 ·refine Qn U U U (Qf (Qc (Qd (QR U (QU (Qq (Qq (Qx (Qc (Qa (Qb U U (Qj U U (Qg U Zr U (Qr U Wx (j25.cell 13 U U) U (Qb U U (Qb U U (Xp (k:=i) (v:=ptrV u 0) 15 j25 keysInt underlying82 U U U U ?_)))))))))))))))))
  intro w26 j26; dsimp only[List.set]at j26
  refine Qf (Qk ?_)
  have hz:=ZA (j26.pick [5,0,1,2,3,4,6,7,8,9,10,11,12,13,14,15,16,17,18] U)
  have j27:=Zw hu (hz.pick [5,0,6,7,8,1,2,3,4,9,10,11,12,13,14,15,16,17,18] U)
  have hw:T2 i=none:=(hsim i).2 hndA
  have hy:=Mb (Rn (t:=(⟨u,nl,nd,t.parent,g1,t.dr⟩:TrD)) (j27.pick [1,2,3,4,12,0,5,6,7,8,9,10,11,13,14] U)) hw
  rw[VU (ad:=TrD.ad) (x:=(⟨u,nl,nd,t.parent,g1,t.dr⟩:TrD)) (a:=u) U]at hy
  exact Q3 (L1:=[(5,_),(34,_)]) (Bo U U) (k1:=leftA) (by omega) ⟨_,_,_,_,rfl,rfl,hy.pick [2,3,4,1,5,6,7,8,0,9,10] U,CA hsim hu (by unfold WW; exact congrArg (fun f=>(⟨0,0,0,t.parent,f,t.dr⟩:TrD)) (Ps hl hdoneB))⟩
 dsimp only[List.set]at hSNB
 obtain⟨x,hx,rfl⟩:=YR hgkB
 refine Qn U U U (Qf (Qc (Qd (Xd U (Qs (Qc (Qw (Qd (Qa (ZP 5 hSNB U hgkB U U (Qn U U U (Qn U U U (Xa hSNB Zy U U ?_)))))))))))))
 intro kb wk28 hk28
 clear hSNB
 refine QG hk28 U U Xf U (by rfl) (i:=0) U (by decide) ?_
 intro wk29 hk29; dsimp only[List.set]at hk29
 clear hk28
 replace hk29:=X6 (k:=k) hk29
 refine Qe U U (Qf (Qc (Qh [56,8,6,34,5,9,10] U (Qd ?_))))
 have j30:=JC (hk29.pick [7,0,1,2,3,4,5,6,8,9,10,11,12,13,14,15,16,17,18,19] U) hx
 refine Qa (Qb U U (Qj U U (Xw U ag_88 sz_88 (j30.blk 0 U) (Xv U) U U (Xa j30 zr_88 U U ?_))))
 intro ya w31 j31
 refine QG j31 U U sz_88 U (by rfl) (i:=0) U (by decide) ?_
 intro w32 j32; dsimp only[List.set]at j32
 replace j32:=y_norm j32
 refine Qf (Qc (Qh [56,8,6,34,5,9,11] U ?_))
 have j33:=j32.drew
 refine QE [0,1,2,3,4,5] [5] Wa (by kernel_rfl) ?_
 refine Q9 U U U (Xi U U U (QQ U U U ZE (Q4 U U U (Ql U WR (j33.cell 4 U U)) (Q4 U U U (XB (cs:=[strV k.1,intV k.2]) U X9 Xf (j33.blk 3 U) (Xv U) U) (Xe U U U U U U ?_)))))
 refine Xp (k:=k) (v:=ptrV ya 0) 5 j33 keysKey underlying90 U U U U ?_
 intro w34 j34; dsimp only[List.set]at j34
 refine Zu (Xj (by kernel_rfl)) ?_
 refine VC.nil (Qk ?_)
 have j35:=Wc hx (j34.pick [1,2,0,3,4,5,6,7,8,9,10,11,12,13,14,15,16,17,18,19,20,21] U)
 have hg:g1 k=none:=(hl k).2 hndB
 have hy:=TB (x:=(⟨ya,x.base,x.own,x.rd,x.wr⟩:LfD)) hg (j35.pick [1,5,0,2,3,4,6,7,8,9,10,11,12,13,14,15,16,17,18,19,20] U)
 rw[VU (ad:=LfD.ad) (x:=(⟨ya,x.base,x.own,x.rd,x.wr⟩:LfD)) (a:=ya) U]at hy
 exact Q3 (L1:=[(5,_),(34,_),(6,_),(8,_),(56,_)]) (Hi U U U U U) (k1:=leftB) (by omega) ⟨_,_,_,_,rfl,rfl,hy.pick [3,4,0,5,6,7,1,8,9,10,11,12,13,14,15,16,17,18,19] U,Pr hl hx U⟩
