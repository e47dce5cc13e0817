/- leaves: Leaves -/
import Derived.Test.YtkcjfoaejijdoaaGreatDoorLv62
import Derived.Test.YtkcjfoaejijdoaaGreatDoorLv33
set_option linter.unusedSectionVars false
set_option linter.unusedVariables false
set_option maxRecDepth 100000
set_option maxHeartbeats 80000000000
namespace Go.Proofs.YtkcjfoaejijdoaaGreatDoor
open Go.RowKit M
variable [Inhabited SlW]
structure LeR where
  k:KD
  base:Int
  own:Int
  rd:BitVec 64
  wr:BitVec 64
def leV (x:LeR):List Value:=[strV x.k.1,intV x.k.2,intV x.base,intV x.own,Zz x.rd,Zz x.wr]
def CJ:RowC LeR:=⟨leV,6, by decide, fun _=>rfl, fun _=>rfl⟩
def lfP (L:LvD) (k:KD):LeR:=⟨k,L.pres k,L.pres k,0#64,0#64⟩
def lfR (t:TrD) (k:KD):LeR:= match t.lv k with | none=>⟨k,0,0,0#64,0#64⟩ | some x=>⟨k,x.base,x.own,x.rd,x.wr⟩
theorem AH {t:TrD} {k:KD} {x:LfD} (h:t.lv k=some x):lfR t k=⟨k,x.base,x.own,x.rd,x.wr⟩:= by unfold lfR; rw[h]
theorem My {α β:Type} {f:α→β} {l:List α} {i:Nat} {a:α} (h:l[i]? =some a):(l.take i).map f++[f a]=(l.take (i+1)).map f:= by
  rw[List.take_add_one,h,List.map_append];rfl
theorem Pm {w:World} {b:Nat} {L:LvD} {F:Th} (hS:Sat w [XY b L,F]) (hlen: ∀ks,Came (Zg L.pres) ks→ks.length≤100000000000):
    Calls Tryz.prog 26 #[ptrV b 0,intV 0] w (Ret fun v w'=> ∃ks,AllC (Zg L.pres) ks∧Sat w' [rowT CJ v ((Q8 ks).map (lfP L)),XY b L,F]):= by
 replace hS:=Xy hS
 refine Qm Tryz.func26 U Tryz.ntmps26 U ?_
 refine Qd (Qa (Qe U U (Qf (Qc (Qd (Qa (Qe U U (Qf (Qc (Qd (Qd (Qa (Qb U U (Xd U U U (Qf (Qc (Qs U (fun h1=> ?_) (fun h1=> ?_))))))))))))))))))
 ·refine Qd (Qd (Qa (Qb U U (Qj U U (Qg U JU U (Qn U Up (hS.cell 0 U U) U (Qw Du U (UR (hS.sp [1] U) hlen) U ?_)))))))
  rintro _ w2 ⟨ks,hks,hS2⟩
  replace hS2:=hS2.jn U U
  obtain⟨ar,cr,hvr,_⟩:=hS2.own_shape 0 rfl; obtain rfl:=hvr
  refine Xr Tryz.underlying98 U U (Qb U U (Qf (Qc (Qh [1,0,4,5,18,19,20] U (Qv ?_)))))
  have hrn:=hS2.row_nil CJ
  have hkl:(Q8 ks).length≤100000000000:= by rw[ZJ]; exact hlen _ (Came.of_all hks)
  refine Xb (fun K0 E0 W0=> ∃(i:Nat) (ov:Value),K0=(Q8 ks).length -i∧E0=[(0,ptrV b 0),(5,ov),(18,.slice ar (Q8 ks).length cr),(19,intV ((Q8 ks).length:Int)),(20,intV (i:Int))]∧Sat W0 [Q3 b [ptrV L.sp 0,.map (some L.mp),.map (some L.mt),intV L.cur,.map (some L.ms)],Q5 Xo L.mp (Zg L.pres),Q5 QO L.mt (Xv TrD.ad L.tr),Zj HK L.tr,Q5 QO L.ms (ZZ L.sh),rowT kC (.slice ar (Q8 ks).length cr) (Q8 ks),rowT CJ ov (((Q8 ks).take i).map (lfP L)),F]∧(i≤(Q8 ks).length)) (L0:=[(0,_),(5,_),(18,_),(19,_),(20,_)]) ((Q8 ks).length) (YU U U U U U) ⟨0,_,rfl,rfl,hrn.pick [3,2,4,5,6,1,0,7] U, by omega⟩ ?_
  rintro _ _ w3 ⟨i,ov,rfl,rfl,hS3,hi⟩
  refine Qd (Qa (Xg U U U (Qf (Qc (Qd (Qs U (fun h4=> ?_) (fun h4=> ?_)))))))
  ·obtain⟨k,hk⟩: ∃k,(Q8 ks)[i]? =some k:=⟨_,Zi (by omega)⟩
   refine Qt (Qc (Qd (Qv (Qd (Qa (QW kC 5 i hS3 U U U (by first | rfl | omega) hk Va U ?_))))))
   intro bx5 capx5 hvx5
   refine ZA 5 i hS3 U hvx5 U hk X7 Xc U U (QX hS3 Z2 U U ?_)
   intro kb wk6 hk6
   clear hS3
   refine QK hk6 U U Xc U (by rfl) (i:=0) U (by decide) ?_
   intro wk7 hk7; dsimp only[List.set]at hk7
   clear hk6
   replace hk7:=X5 (k:=k) hk7
   refine Qf (Qc ?_)
   have hS8:=hk7.drew
   refine QF [0,1,2,3,4,5,6,7,8,9,10,11,12,13,14,15,16,17,18,19,20] [18,19] We (by kernel_rfl) ?_
   refine QG U U U (QV U U U JV (Q4 U U U (Qr U WC (hS8.cell 0 U U)) (QV U U U V7 (Q4 U U U (Qr U QL (hS8.cell 0 U U)) (QG U U U (Xh U U U (QV U U U JU (Q4 U U U (Qr U Up (hS8.cell 1 U U)) (Q4 U U U (XF U X7 Xc (hS8.blk 0 U) (Xa U) U) (Q4 U U U (Xz (k:=k) 2 hS8 keysKey Tryz.underlying81 U U U YN (u:=intV (L.pres k)) (Ua _ _)) (QG U U U (Xh U U U (QV U U U JU (Q4 U U U (Qr U Up (hS8.cell 1 U U)) (Q4 U U U (XF U X7 Xc (hS8.blk 0 U) (Xa U) U) (Q4 U U U (Xz (k:=k) 2 hS8 keysKey Tryz.underlying81 U U U YN (u:=intV (L.pres k)) (Ua _ _)) (X8 U U U (fun _=>(Ww U DH Im zr_56 U)) ?_)))))))))))))))))
   refine Xn U U U U U U ?_
   refine Zf CJ [lfP L k] hS8 U Tryz.underlying52 AO U U U U (by rfl) rfl ?_
   intro bz w9 hS9
   clear hS8
   refine XQ (X1 (by kernel_rfl)) ?_
   refine Xn U U U U U U ?_
   refine ZM CJ 8 hS9 U U U (hS9.rd 0 U (by simp)) Tryz.underlying52 Tryz.underlying52 (by intro k hk; cases hk) AP U (by simp;omega) U (by simp;omega) ?_
   intro v10 w10 hS10; dsimp only[List.set]at hS10
   clear hS9
   refine XQ (X1 (by kernel_rfl)) ?_
   refine Za U U U (VC.nil (Qk (Qc (Qh [20,19,18,0,5] U (Qa (QI U U (by omega) (by omega) U ?_))))))
   refine Qb U U (Qf ?_)
   exact Q0 (L1:=[(0,_),(5,_),(18,_),(19,_),(20,intV ((i+1:Nat):Int))]) (YU U U U U U) (k1:=(Q8 ks).length -(i+1)) (by omega) ⟨i+1,_,rfl,rfl, by rw[←My hk]; exact hS10.pick [2,3,4,5,6,7,8,9] U, by omega⟩
  refine QM (Qo (Qo (Qx (Qc (Qd (Qa (Qb U U (Qe U U (Qf (Qc (Qu (Qp (QR (.inr U) U U ?_)))))))))))))
  have hil:i=(Q8 ks).length:= by omega
  rw[hil,List.take_length]at hS3
  exact⟨_,rfl,ks,hks,(QZ (hS3.pick [0,1,2,3,4,6,7] U)).perm (List.Perm.swap _ _ _)⟩
 exact absurd U h1
theorem Pk {w:World} {b:Nat} {L:LvD} {F:Th} (hS:Sat w [XY b L,F]) {id:Int} {t:TrD} (ht:L.tr id=some t) (h0:id≠0) (hlen: ∀ks,Came (Xv LfD.ad t.lv) ks→ks.length≤100000000000):
    Calls Tryz.prog 26 #[ptrV b 0,intV id] w (Ret fun v w'=> ∃ks,AllC (Xv LfD.ad t.lv) ks∧Sat w' [rowT CJ v ((Q8 ks).map (lfR t)),XY b L,F]):= by
 replace hS:=Xy hS
 refine Qm Tryz.func26 U Tryz.ntmps26 U ?_
 refine Qd (Qa (Qe U U (Qf (Qc (Qd (Qa (Qe U U (Qf (Qc (Qd (Qd (Qa (Qb U U (Xd U U U (Qf (Qc (Qs U (fun h1=> ?_) (fun h1=> ?_))))))))))))))))))
 ·exact absurd h1 h0
 refine Qt (Qc (Qd (Qa (Qb U U (Qj U U (Qg U Z7 U (Qn U WN (hS.cell 0 U U) U (Qb U U (XT (k:=id) 2 hS keysInt Tryz.underlying82 U U U Yu (u:=ptrV t.ad 0) (Zw ht) U (Qe U U (Qf (Qc (Qh [4,5,8] U (Qd (Qd (Qa (Qb U U (ZO Tryz.underlying94 U U U (Qf (Qc (QT U (Qt (Qc (Qd (Qd ?_)))))))))))))))))))))))))
 have hS2:=ZB (hS.pick [3,0,1,2,4,5] U) ht
 refine Qa (Qb U U (Qj U U (Qg U ZU U (Qn U Jy (hS2.cell 0 U U) U (Qw TG U (Ra (hS2.sp [1] U) hlen) U ?_)))))
 rintro _ w3 ⟨ks,hks,hS3⟩
 replace hS3:=hS3.jn U U
 clear hS2
 obtain⟨ar,cr,hvr,_⟩:=hS3.own_shape 0 rfl; obtain rfl:=hvr
 refine Xr Tryz.underlying98 U U (Qb U U (Qf (Qc (Qh [4,5,8,58,59,60] U (Qv ?_)))))
 have hrn:=hS3.row_nil CJ
 have hkl:(Q8 ks).length≤100000000000:= by rw[ZJ]; exact hlen _ (Came.of_all hks)
 refine Xb (fun K0 E0 W0=> ∃(i:Nat) (ov:Value),K0=(Q8 ks).length -i∧E0=[(5,ov),(8,ptrV t.ad 0),(58,.slice ar (Q8 ks).length cr),(59,intV ((Q8 ks).length:Int)),(60,intV (i:Int))]∧Sat W0 [Q3 t.ad [intV t.parent,.map (some t.ml),.map (some t.md)],Q5 Xo t.ml (Xv LfD.ad t.lv),Zj VQ t.lv,Q5 Js t.md (ZZ t.dr),Zj HK (Xi L.tr id none),Q3 b [ptrV L.sp 0,.map (some L.mp),.map (some L.mt),intV L.cur,.map (some L.ms)],Q5 Xo L.mp (Zg L.pres),Q5 QO L.mt (Xv TrD.ad L.tr),Q5 QO L.ms (ZZ L.sh),rowT kC (.slice ar (Q8 ks).length cr) (Q8 ks),rowT CJ ov (((Q8 ks).take i).map (lfR t)),F]∧(i≤(Q8 ks).length)) (L0:=[(5,_),(8,_),(58,_),(59,_),(60,_)]) ((Q8 ks).length) (YU U U U U U) ⟨0,_,rfl,rfl,hrn.pick [3,2,4,5,6,7,8,9,10,1,0,11] U, by omega⟩ ?_
 rintro _ _ w4 ⟨i,ov,rfl,rfl,hS4,hi⟩
 refine Qd (Qa (Xg U U U (Qf (Qc (Qd (Qs U (fun h5=> ?_) (fun h5=> ?_)))))))
 ·obtain⟨k,hk⟩: ∃k,(Q8 ks)[i]? =some k:=⟨_,Zi (by omega)⟩
  obtain⟨x,hx⟩: ∃x,t.lv k=some x:=Option.ne_none_iff_exists'.1 ((PJ hks k).1 (List.mem_of_getElem? hk))
  refine Qt (Qc (Qd (Qv (Qd (Qa (QW kC 9 i hS4 U U U (by first | rfl | omega) hk Va U ?_))))))
  intro bx6 capx6 hvx6
  refine ZA 9 i hS4 U hvx6 U hk X7 Xc U U (QX hS4 Z2 U U ?_)
  intro kb wk7 hk7
  clear hS4
  refine QK hk7 U U Xc U (by rfl) (i:=0) U (by decide) ?_
  intro wk8 hk8; dsimp only[List.set]at hk8
  clear hk7
  replace hk8:=X5 (k:=k) hk8
  refine Qf (Qc (Qd ?_))
  have hS9:=hk8.drew
  refine QF [0,1,2,3,4,5,6] [] We (by kernel_rfl) ?_
  refine QG U U U (Xh U U U (QV U U U ZU (Q4 U U U (Qr U Jy (hS9.cell 1 U U)) (Q4 U U U (XF U X7 Xc (hS9.blk 0 U) (Xa U) U) (Q4 U U U (Xz (k:=k) 2 hS9 keysKey Tryz.underlying90 U U U HQ (u:=ptrV x.ad 0) (Zw hx)) (Za U U U (VC.nil (Qc (Qh [60,59,58,8,5,10,11] U ?_)))))))))
  have hS10:=JO (hS9.pick [3,0,1,2,4,5,6,7,8,9,10,11,12] U) hx
  have hS11:=hS10.drew
  refine QF [0,1,2,3,4,5,6,7,8,9,10,11,12,13,14,15,16,17,18,19,20,21,22,23,24] [22,23] We (by kernel_rfl) ?_
  refine QG U U U (QV U U U JV (Q4 U U U (Qr U WC (hS11.cell 2 U U)) (QV U U U V7 (Q4 U U U (Qr U QL (hS11.cell 2 U U)) (QG U U U (Xh U U U (QV U U U U3 (Q4 U U U (Qr U QL (hS11.cell 0 U U)) (QG U U U (Xh U U U (QV U U U W5 (Q4 U U U (Qr U QL (hS11.cell 0 U U)) (QG U U U (Xh U U U (QV U U U J6 (Q4 U U U (Qr U Jm (hS11.cell 0 U U)) (QG U U U (Xh U U U (QV U U U ZV (Q4 U U U (Qr U Jm (hS11.cell 0 U U)) (X8 U U U (fun _=>(Ww U KT Im zr_56 U)) ?_)))))))))))))))))))))
  refine Xn U U U U U U ?_
  refine Zf CJ [⟨k,x.base,x.own,x.rd,x.wr⟩] hS11 U Tryz.underlying52 AO U U U U (by rfl) rfl ?_
  intro bz w12 hS12
  clear hS11
  refine XQ (X1 (by kernel_rfl)) ?_
  refine Xn U U U U U U ?_
  refine ZM CJ 13 hS12 U U U (hS12.rd 0 U (by simp)) Tryz.underlying52 Tryz.underlying52 (by intro k hk; cases hk) AP U (by simp;omega) U (by simp;omega) ?_
  intro v13 w13 hS13; dsimp only[List.set]at hS13
  clear hS12
  refine XQ (X1 (by kernel_rfl)) ?_
  refine Za U U U (VC.nil (Qk (Qc (Qh [60,59,58,8,5] U (Qa (QI U U (by omega) (by omega) U ?_))))))
  refine Qb U U (Qf ?_)
  have hS14:=ZX hx (hS13.pick [1,2,0,3,4,5,6,7,8,9,10,11,12,13,14] U)
  exact Q0 (L1:=[(5,_),(8,_),(58,_),(59,_),(60,intV ((i+1:Nat):Int))]) (YU U U U U U) (k1:=(Q8 ks).length -(i+1)) (by omega) ⟨i+1,_,rfl,rfl, by rw[←My hk,AH hx]; exact hS14.pick [3,4,0,5,6,7,8,9,10,11,12,13] U, by omega⟩
 refine QM (Qo (Qo (Qx (Qc (Qd (Qa (Qb U U (Qe U U (Qf (Qc (Qu (QR (.inr U) U U ?_))))))))))))
 have hil:i=(Q8 ks).length:= by omega
 rw[hil,List.take_length]at hS4
 have hS15:=ZW ht (hS4.pick [0,1,2,3,4,5,6,7,8,9,10,11] U)
 exact⟨_,rfl,ks,hks,(QZ (hS15.pick [1,2,3,0,4,6,7] U)).perm (List.Perm.swap _ _ _)⟩
end Go.Proofs.YtkcjfoaejijdoaaGreatDoor
namespace Go.Proofs.YtkcjfoaejijdoaaGreatDoor
open Go.RowKit M
variable [Inhabited SlW]
def Pg:Pl→Int
  | .inl _=>0
  | .inr q=>q.1
def BO:Pl→KD
  | .inl k=>k
  | .inr q=>q.2.1
def W9 (L:LvD) (id:Int) (k:KD):LeR:= if id=0 then lfP L k else match L.tr id with | none=>⟨k,0,0,0#64,0#64⟩ | some t=>lfR t k
def FO (id:Int) (k:KD):List Pl:= if id=0 then[.inl k]else[.inr (id,k,true),.inr (id,k,false)]
theorem EH {L:LvD} {id:Int} {k:KD} (h:id≠0):(W9 L id k).own=QJ L (.inr (id,k,true))∧(W9 L id k).base=QJ L (.inr (id,k,false)):= by
  unfold W9
  rw[if_neg h]
  cases ht:L.tr id with
  | none=> simp [QJ,ht]
  | some t=>
    cases hx:t.lv k with
    | none=> simp [QJ,ht,hx,lfR]
    | some x=> simp [QJ,ht,hx,lfR]
theorem RQ {L:LvD} {id s:Int} {k:KD}:(FO id k).countP (fun p=>decide (QJ L p=s))=(if(W9 L id k).own=s then 1 else 0)+(if id≠0∧(W9 L id k).base=s then 1 else 0):= by
  unfold FO
  by_cases h:id=0
  · subst h
    have e:(W9 L 0 k).own=QJ L (.inl k):=rfl
    have e2: ¬((0:Int)≠0∧(W9 L 0 k).base=s):= fun q=>q.1 U
    rw[if_pos U,if_neg e2,e,List.countP_cons,List.countP_nil]
    simp
  · obtain⟨e1,e2⟩:=EH (L:=L) (k:=k) h
    rw[if_neg h,e1,e2,List.countP_cons,List.countP_cons,List.countP_nil]
    simp [h]
    omega
theorem Vv {L:LvD} {id s:Int} {k:KD} {kl:List KD} {j:Nat} (h:kl[j]? =some k):((kl.take (j+1)).flatMap (FO id)).countP (fun p=>decide (QJ L p=s))=((kl.take j).flatMap (FO id)).countP (fun p=>decide (QJ L p=s))+(FO id k).countP (fun p=>decide (QJ L p=s)):= by
  rw[List.take_add_one,h,List.flatMap_append,List.countP_append]
  simp
theorem Sa {id:Int} {k:KD} {p:Pl} (h:p∈FO id k):Pg p=id∧BO p=k:= by
  unfold FO at h
  split at h
  · rename_i e
    simp at h
    subst h; exact⟨e.symm,rfl⟩
  · simp at h
    rcases h with rfl | rfl
    · exact⟨rfl,rfl⟩
    · exact⟨rfl,rfl⟩
theorem qs_mem {id:Int} {p:Pl} (h:Pg p=id) (h0: ∀q,p= .inr q→q.1≠0):p∈FO id (BO p):= by
  unfold FO
  cases p with
  | inl k=>
    have h:0=id:=h
    rw[if_pos h.symm]; simp [BO]
  | inr q=>
    obtain⟨i,k,o⟩:=q
    have h:i=id:=h
    have h1:=h0 _ U
    subst h
    rw[if_neg h1]
    cases o<;> simp [BO]
theorem C4 {id:Int}: ∀{kl:List KD},kl.Nodup→(kl.flatMap (FO id)).Nodup
  | [],_=> by simp
  | k::kl,h=> by
    obtain⟨h1,h2⟩:=List.nodup_cons.1 h
    rw[List.flatMap_cons,List.nodup_append]
    refine⟨?_,C4 h2, fun a ha b hb e=> ?_⟩
    · unfold FO;split<;> simp
    · subst e
      obtain⟨k2,hk2,hb2⟩:=List.mem_flatMap.1 hb
      have e1:=(Sa ha).2
      have e2:=(Sa hb2).2
      rw[←e1,e2]at h1
      exact h1 hk2
structure VisI (L:LvD) (dn:List Int) (lp:List Pl):Prop where
  nod:lp.Nodup
  ids: ∀p∈lp,Pg p∈dn
  all: ∀p,Pg p∈dn→QJ L p≠0→p∈lp
theorem VisI.nil {L:LvD}:VisI L [] []:=⟨List.nodup_nil,(fun p h=> by cases h),(fun p h=> by cases h)⟩
theorem VisI.step {L:LvD} {dn:List Int} {lp:List Pl} {id:Int} {kl:List KD} (h:VisI L dn lp) (hid:id∉dn) (hkl:kl.Nodup) (hc: ∀p,Pg p=id→QJ L p≠0→BO p∈kl) (h0:L.tr 0=none):VisI L (dn++[id]) (lp++kl.flatMap (FO id)):= by
  refine⟨List.nodup_append.2 ⟨h.nod,C4 hkl, fun a ha b hb e=> ?_⟩, fun p hp=> ?_, fun p hp hne=> ?_⟩
  · subst e
    obtain⟨k,_,hb⟩:=List.mem_flatMap.1 hb
    have :=h.ids a ha
    rw[(Sa hb).1]at this
    exact hid this
  · rcases List.mem_append.1 hp with q | q
    · exact List.mem_append_left _ (h.ids p q)
    · obtain⟨k,_,hb⟩:=List.mem_flatMap.1 q
      rw[(Sa hb).1]; simp
  · rcases List.mem_append.1 hp with r | r
    · exact List.mem_append_left _ (h.all p r hne)
    · have e:Pg p=id:= by simpa using r
      refine List.mem_append_right _ (List.mem_flatMap.2 ⟨BO p,hc p e hne,qs_mem e fun q hq e0=> ?_⟩)
      subst hq
      obtain⟨i,k,o⟩:=q
      have e0:i=0:=e0
      subst e0
      exact hne (by simp [QJ,h0])
theorem VisI.fin {L:LvD} {ids:List Int} {lp:List Pl} {s:Int} (h:VisI L ids lp) (hs:s≠0) (hi: ∀i,i=0∨L.tr i≠none→i∈ids):TZ (QJ L) s (lp.countP fun p=>decide (QJ L p=s)):= by
  refine⟨lp.filter fun p=>decide (QJ L p=s),h.nod.filter _, fun p=> ?_,List.countP_eq_length_filter.symm⟩
  rw[List.mem_filter]
  constructor
  · rintro⟨_,e⟩;simpa using e
  · intro e
    refine⟨h.all p (hi _ ?_) (by rw[e]; exact hs), by simpa using e⟩
    cases p with
    | inl k=> exact .inl rfl
    | inr q=>
      refine .inr fun ht=>hs ?_
      obtain⟨i,k,o⟩:=q
      have ht:L.tr i=none:=ht
      rw[←e]; simp [QJ,ht]
theorem Lk {L:LvD} {ks:List Int} (h0:L.tr 0=none) (h:AllC (Xv TrD.ad L.tr) ks):(0::XZ ks).Nodup∧ ∀i,i∈0::XZ ks↔i=0∨L.tr i≠none:= by
  have hm: ∀i,i∈XZ ks↔L.tr i≠none:= fun i=> by
    rw[(WT ks).mem_iff,h.mem]
    unfold Xv
    cases L.tr i<;> simp
  exact⟨List.nodup_cons.2 ⟨fun q=>(hm 0).1 q h0,(WT ks).nodup_iff.2 h.nodup⟩, fun i=> by rw[List.mem_cons,hm]⟩
theorem NS {l:List Int} {i:Nat} {x:Int} (hn:l.Nodup) (h:l[i]? =some x):x∉l.take i:= fun hm=> by
  obtain⟨j,hj⟩:=List.mem_iff_getElem?.1 hm
  rw[List.getElem?_take]at hj
  split at hj
  · rename_i hlt
    obtain⟨h1,e1⟩:=XR h
    obtain⟨h2,e2⟩:=XR hj
    exact(List.pairwise_iff_getElem.1 hn) j i h2 h1 hlt (by rw[e1,e2])
  · cases hj
theorem BW {w:World} {b c:Nat} {L:LvD} {F:Th} (hS:Sat w [XY b L,F]) (hc:SzLe L c) (hcc:c≤100000) (h0:L.tr 0=none) {id:Int} (hid:id=0∨L.tr id≠none):
    Calls Tryz.prog 26 #[ptrV b 0,intV id] w (Ret fun v w'=> ∃kl:List KD,kl.Nodup∧kl.length≤c∧(∀p,Pg p=id→QJ L p≠0→BO p∈kl)∧Sat w' [rowT CJ v (kl.map (W9 L id)),XY b L,F]):= by
  by_cases e:id=0
  · subst e
    refine(Pm hS fun ks hk=>Nat.le_trans (hc.keysP hk) (by omega)).mono fun ew w h=>h.mono fun v w h=> ?_
    obtain⟨ks,hks,h⟩:=h
    refine⟨Q8 ks, ?_, by rw[ZJ]; exact hc.keysP (Came.of_all hks), fun p hp hne=> ?_,h⟩
    · exact(Ju ks).nodup_iff.2 hks.nodup
    · cases p with
      | inl k=> exact(allP hks k).2 hne
      | inr q=>
        obtain⟨i,k,o⟩:=q
        have hp:i=0:=hp
        subst hp
        exact absurd (by simp [QJ,h0]) hne
  · obtain⟨t,ht⟩:=Option.ne_none_iff_exists'.1 (hid.resolve_left e)
    refine(Pk hS ht e fun ks hk=>Nat.le_trans (hc.keysL ht hk) (by omega)).mono fun ew w h=>h.mono fun v w h=> ?_
    obtain⟨ks,hks,h⟩:=h
    have er:(Q8 ks).map (W9 L id)=(Q8 ks).map (lfR t):= by
      refine List.map_congr_left fun k _=> ?_
      unfold W9; rw[if_neg e,ht]
    refine⟨Q8 ks,(Ju ks).nodup_iff.2 hks.nodup, by rw[ZJ]; exact hc.keysL ht (Came.of_all hks), fun p hp hne=> ?_, by rw[er]; exact h⟩
    cases p with
    | inl k=> exact absurd (show(0:Int)=id from hp).symm e
    | inr q=>
      obtain⟨i,k,o⟩:=q
      have hp:i=id:=hp
      subst hp
      refine(PJ hks k).2 fun hx=>hne ?_
      simp [QJ,ht,hx]
theorem Pn {w:World} {b c:Nat} {L:LvD} {F:Th} (hS:Sat w [XY b L,F]) (hc:SzLe L c) (hcc:c≤100000) (h0:L.tr 0=none) (hlen: ∀ks,Came (Xv TrD.ad L.tr) ks→ks.length≤100000) {s:Int} (hs0:s≠0):
    Calls Tryz.prog 22 #[ptrV b 0,intV s] w (Ret fun v w'=> ∃n:Nat,v=intV (n:Int)∧TZ (QJ L) s n∧Sat w' [XY b L,F]):= by
 refine Qm Tryz.func22 U Tryz.ntmps22 U ?_
 refine Qd (Qa (Qe U U (Qf (Qc (Qd (Qa (Qe U U (Qf (Qc (Qd (Qa (Zf inC [0] hS U Tryz.underlying47 Uc U U U U (by first | rfl | simp [RowC.cells,Jl,X9]) U ?_))))))))))))
 intro bz w1 hS1
 refine Qb U U (Qw TI U (GX (hS1.sp [1] U) (fun ks h=>Nat.le_trans (hlen ks h) (by omega))) U ?_)
 rintro _ w2 ⟨ks,hks,hS2⟩
 replace hS2:=hS2.jn U U
 clear hS1
 refine ZM inC 2 hS2 U U U (hS2.rd 0 U (by rw[Wk]; have :=hlen _ (Came.of_all hks);omega)) Tryz.underlying47 Tryz.underlying47 (by intro k hk; cases hk) UB U (by simp [Wk]; have :=hlen _ (Came.of_all hks);omega) U (by simp [Wk]; have :=hlen _ (Came.of_all hks);omega) ?_
 intro v3 w3 hS3; dsimp only[List.set]at hS3
 clear hS2
 have hp3:=hS3.pick [2,1,3] U
 clear hS3
 refine Qe U U (Qf (Qc (Qd (Qd ?_))))
 obtain⟨hidn,hidm⟩:=Lk h0 hks
 obtain⟨ids,hids⟩: ∃ids,ids=0::XZ ks:=⟨_,rfl⟩
 rw[←hids]at hidn hidm
 rw[show([0]++XZ ks:List Int)=ids from hids.symm]at hp3
 have hidl:ids.length≤100001:= by rw[hids,List.length_cons,Wk]; have :=hlen _ (Came.of_all hks);omega
 obtain⟨ai,ci,hvi,_⟩:=hp3.own_shape 0 rfl; obtain rfl:=hvi
 refine Qa (Qe U U (Qf (Qc (Qv ?_))))
 refine Xb (fun K0 E0 W0=> ∃(i:Nat) (lp:List Pl) (n:Nat),K0=ids.length -i∧E0=[(0,ptrV b 0),(1,intV s),(5,intV (n:Int)),(6,.slice ai ids.length ci),(7,intV (i:Int))]∧Sat W0 [rowT inC (.slice ai ids.length ci) ids,XY b L,F]∧(i≤ids.length)∧(VisI L (ids.take i) lp)∧(n=lp.countP (fun p=>decide (QJ L p=s)))∧(n≤200000*i)) (L0:=[(0,_),(1,_),(5,_),(6,_),(7,_)]) (ids.length -0) (YU U U U U U) ⟨0,[],0,rfl,rfl,hp3.pick [0,1,2] U, by omega,VisI.nil,rfl, by omega⟩ ?_
 rintro _ _ w4 ⟨i,lp,n,rfl,rfl,hS4,hi,hvis,hcn0,hnb0⟩
 refine Qd (Qd (Qa (Qb U U (Qb U U ?_))))
 first | refine Xr Tryz.underlying47 U U ?_ | refine ZG 0 hS4 Tryz.underlying47 U U U ?_
 refine Xg U U U (Qf (Qc (Qs U (fun h5=> ?_) (fun h5=> ?_))))
 ·obtain⟨id,hid⟩: ∃x,ids[i]? =some x:=⟨_,Zi (by omega)⟩
  refine Qt (Qc (Qd (Qv (Qd (Qa (Qb U U (Qb U U (Qb U U (QW inC 0 i hS4 U U U (by first | rfl | omega) hid JQ U ?_)))))))))
  intro bx6 capx6 hvx6
  refine XE 0 i 0 hS4 U hvx6 U U hid QL U U (Qw OQ U (BW (hS4.sp [1] U) hc hcc h0 ((hidm id).1 (List.mem_of_getElem? hid))) U ?_)
  rintro _ w7 ⟨kl,hkn,hkl,hkc,hS7⟩
  replace hS7:=hS7.jn U U
  clear hS4
  obtain⟨an,cn,hvn,_⟩:=hS7.own_shape 0 rfl; obtain rfl:=hvn
  refine Qe U U (Qf (Qc (Qh [7,6,5,1,0,8] U (Qd (Qa (Qe U U (Qf (Qc (Qv ?_)))))))))
  refine Xb (fun K0 E0 W0=> ∃(j nn:Nat),K0=(kl.map (W9 L id)).length -j∧E0=[(0,ptrV b 0),(1,intV s),(5,intV (nn:Int)),(6,.slice ai ids.length ci),(7,intV (i:Int)),(8,.slice an (kl.map (W9 L id)).length cn),(9,intV (j:Int))]∧Sat W0 [rowT CJ (.slice an (kl.map (W9 L id)).length cn) (kl.map (W9 L id)),rowT inC (.slice ai ids.length ci) ids,XY b L,F]∧(j≤(kl.map (W9 L id)).length)∧(nn=n+((kl.take j).flatMap (FO id)).countP (fun p=>decide (QJ L p=s)))∧(nn≤200000*i+2*j)) (L0:=[(0,_),(1,_),(5,_),(6,_),(7,_),(8,_),(9,_)]) ((kl.map (W9 L id)).length -0) (D8 U U U U U U U) ⟨0,n,rfl,rfl,hS7.pick [0,2,1,3] U, by omega, by simp, by omega⟩ ?_
  rintro _ _ w8 ⟨j,nn,rfl,rfl,hS8,hj,hcn,hnb⟩
  refine Qd (Qd (Qa (Qb U U (Qb U U ?_))))
  first | refine Xr Tryz.underlying52 U U ?_ | refine ZG 0 hS8 Tryz.underlying52 U U U ?_ | refine ZG 1 hS8 Tryz.underlying52 U U U ?_
  refine Xg U U U (Qf (Qc (Qh [9,8,7,6,5,1,0,29] U (Qs U (fun h9=> ?_) (fun h9=> ?_)))))
  ·obtain⟨k,hk⟩: ∃k,kl[j]? =some k:=⟨_,Zi (by simpa using h9)⟩
   have hr:(kl.map (W9 L id))[j]? =some (W9 L id k):= by rw[List.getElem?_map,hk];rfl
   have hjk:=(XR hk).1
   refine Qt (Qc (Qd (Qv (Qd (Qd (Qa (Qb U U (Qb U U (QW CJ 0 j hS8 U U U (by first | rfl | omega) hr S7 U ?_)))))))))
   intro bx10 capx10 hvx10
   refine Qg U fo_56_3 U (XE 0 j 3 hS8 U hvx10 U U hr QL U U (Qb U U (Xd U U U (Qf (Qc (Qh [9,8,7,6,5,1,0,38] U (Qs U (fun h11=> ?_) (fun h11=> ?_))))))))
   ·have hown:(W9 L id k).own=s:=h11
    refine Qa (Qb U U (QI U U (by omega) (by omega) U ?_))
    refine Qe U U (Qf (Qc (Qd (Qa (Qb U U (Qb U U (QW inC 1 i hS8 U U U (by first | rfl | omega) hid JQ U ?_)))))))
    intro bx12 capx12 hvx12
    refine XE 1 i 0 hS8 U hvx12 U U hid QL U U (X0 U U U (Qb U U (QU 46 U (fun h13=> ?_) (fun h13=> ?_))))
    ·have hid0:id≠0:=h13
     refine Ql U U (Xl h13) (Qb U U (Ql U U (Xl h13) (Qb U U (Ql U U (Xl h13) (QW CJ 0 j hS8 U U U (by rfl) hr S7 U ?_)))))
     intro bx14 capx14 hvx14
     refine Ql U U (Xl h13) (Qg U Sy U (Ql U U (Xl h13) (XE 0 j 2 hS8 U hvx14 U U hr QL U U (Ql U U (Xl h13) (Qb U U (Ql U U (Xl h13) (Xd U U U (Q9 U (Xl h13) U U (Qf (Qc (Qh [9,8,7,6,1,0,5,54] U (Qs U (fun h15=> ?_) (fun h15=> ?_)))))))))))))
     ·have hbas:id≠0∧(W9 L id k).base=s:=⟨hid0,h15⟩
      refine Qa (Qb U U (QI U U (by omega) (by omega) U ?_))
      refine Qe U U (Qf (Qk (Qc (Qa (Qb U U (QI U U (by omega) (by omega) U ?_))))))
      refine Qe U U (Qf ?_)
      have hq:=RQ (L:=L) (id:=id) (s:=s) (k:=k)
      rw[if_pos hown]at hq
      rw[if_pos hbas]at hq
      exact Q0 (L1:=[(0,_),(1,_),(5,intV ((nn+1+1:Nat):Int)),(6,_),(7,_),(8,_),(9,intV ((j+1:Nat):Int))]) (D8 U U U U U U U) (k1:=(kl.map (W9 L id)).length -(j+1)) (by omega) ⟨j+1,nn+1+1,rfl,rfl,hS8.pick [0,1,2,3] U, by omega, by rw[Vv hk,hq];omega, by omega⟩
     have hbas: ¬(id≠0∧(W9 L id k).base=s):= fun q=>h15 q.2
     refine Qt (Qk (Qc (Qa (Qb U U (QI U U (by omega) (by omega) U ?_)))))
     refine Qe U U (Qf ?_)
     have hq:=RQ (L:=L) (id:=id) (s:=s) (k:=k)
     rw[if_pos hown]at hq
     rw[if_neg hbas]at hq
     exact Q0 (L1:=[(0,_),(1,_),(5,intV ((nn+1:Nat):Int)),(6,_),(7,_),(8,_),(9,intV ((j+1:Nat):Int))]) (D8 U U U U U U U) (k1:=(kl.map (W9 L id)).length -(j+1)) (by omega) ⟨j+1,nn+1,rfl,rfl,hS8.pick [0,1,2,3] U, by omega, by rw[Vv hk,hq];omega, by omega⟩
    have hbas: ¬(id≠0∧(W9 L id k).base=s):= fun q=>absurd q.1 h13
    refine Qi U U (QC h13) U (Qi U U (QC h13) U (Qi U U (QC h13) U (Qi U U (QC h13) U (Qi U U (QC h13) U (Qi U U (QC h13) U (Qi U U (QC h13) U (QP U (QC h13) U U (Qf (Qc (Qh [9,8,7,6,1,0,5,54] U (QT U (Qt (Qk (Qc (Qa (Qb U U (QI U U (by omega) (by omega) U ?_)))))))))))))))))
    refine Qe U U (Qf ?_)
    have hq:=RQ (L:=L) (id:=id) (s:=s) (k:=k)
    rw[if_pos hown]at hq
    rw[if_neg hbas]at hq
    exact Q0 (L1:=[(0,_),(1,_),(5,intV ((nn+1:Nat):Int)),(6,_),(7,_),(8,_),(9,intV ((j+1:Nat):Int))]) (D8 U U U U U U U) (k1:=(kl.map (W9 L id)).length -(j+1)) (by omega) ⟨j+1,nn+1,rfl,rfl,hS8.pick [0,1,2,3] U, by omega, by rw[Vv hk,hq];omega, by omega⟩
   have hown: ¬(W9 L id k).own=s:=h11
   refine Qt (Qc (Qd (Qa (Qb U U (Qb U U (QW inC 1 i hS8 U U U (by first | rfl | omega) hid JQ U ?_))))))
   intro bx16 capx16 hvx16
   refine XE 1 i 0 hS8 U hvx16 U U hid QL U U (X0 U U U (Qb U U (QU 46 U (fun h17=> ?_) (fun h17=> ?_))))
   ·have hid0:id≠0:=h17
    refine Ql U U (Xl h17) (Qb U U (Ql U U (Xl h17) (Qb U U (Ql U U (Xl h17) (QW CJ 0 j hS8 U U U (by rfl) hr S7 U ?_)))))
    intro bx18 capx18 hvx18
    refine Ql U U (Xl h17) (Qg U Sy U (Ql U U (Xl h17) (XE 0 j 2 hS8 U hvx18 U U hr QL U U (Ql U U (Xl h17) (Qb U U (Ql U U (Xl h17) (Xd U U U (Q9 U (Xl h17) U U (Qf (Qc (Qh [9,8,7,6,5,1,0,54] U (Qs U (fun h19=> ?_) (fun h19=> ?_)))))))))))))
    ·have hbas:id≠0∧(W9 L id k).base=s:=⟨hid0,h19⟩
     refine Qa (Qb U U (QI U U (by omega) (by omega) U ?_))
     refine Qe U U (Qf (Qk (Qc (Qa (Qb U U (QI U U (by omega) (by omega) U ?_))))))
     refine Qe U U (Qf ?_)
     have hq:=RQ (L:=L) (id:=id) (s:=s) (k:=k)
     rw[if_neg hown]at hq
     rw[if_pos hbas]at hq
     exact Q0 (L1:=[(0,_),(1,_),(5,intV ((nn+1:Nat):Int)),(6,_),(7,_),(8,_),(9,intV ((j+1:Nat):Int))]) (D8 U U U U U U U) (k1:=(kl.map (W9 L id)).length -(j+1)) (by omega) ⟨j+1,nn+1,rfl,rfl,hS8.pick [0,1,2,3] U, by omega, by rw[Vv hk,hq];omega, by omega⟩
    have hbas: ¬(id≠0∧(W9 L id k).base=s):= fun q=>h19 q.2
    refine Qt (Qk (Qc (Qa (Qb U U (QI U U (by omega) (by omega) U ?_)))))
    refine Qe U U (Qf ?_)
    have hq:=RQ (L:=L) (id:=id) (s:=s) (k:=k)
    rw[if_neg hown]at hq
    rw[if_neg hbas]at hq
    exact Q0 (L1:=[(0,_),(1,_),(5,intV ((nn:Nat):Int)),(6,_),(7,_),(8,_),(9,intV ((j+1:Nat):Int))]) (D8 U U U U U U U) (k1:=(kl.map (W9 L id)).length -(j+1)) (by omega) ⟨j+1,nn,rfl,rfl,hS8.pick [0,1,2,3] U, by omega, by rw[Vv hk,hq];omega, by omega⟩
   have hbas: ¬(id≠0∧(W9 L id k).base=s):= fun q=>absurd q.1 h17
   refine Qi U U (QC h17) U (Qi U U (QC h17) U (Qi U U (QC h17) U (Qi U U (QC h17) U (Qi U U (QC h17) U (Qi U U (QC h17) U (Qi U U (QC h17) U (QP U (QC h17) U U (Qf (Qc (Qh [9,8,7,6,5,1,0,54] U (QT U (Qt (Qk (Qc (Qa (Qb U U (QI U U (by omega) (by omega) U ?_)))))))))))))))))
   refine Qe U U (Qf ?_)
   have hq:=RQ (L:=L) (id:=id) (s:=s) (k:=k)
   rw[if_neg hown]at hq
   rw[if_neg hbas]at hq
   exact Q0 (L1:=[(0,_),(1,_),(5,intV ((nn:Nat):Int)),(6,_),(7,_),(8,_),(9,intV ((j+1:Nat):Int))]) (D8 U U U U U U U) (k1:=(kl.map (W9 L id)).length -(j+1)) (by omega) ⟨j+1,nn,rfl,rfl,hS8.pick [0,1,2,3] U, by omega, by rw[Vv hk,hq];omega, by omega⟩
  have hjn: ¬j<(kl.map (W9 L id)).length:= by omega
  refine QM (Qo (Qo (Qx (Qk (Qc (Qa (Qb U U (QI U U (by omega) (by omega) U ?_))))))))
  refine Qe U U (Qf ?_)
  have h7: ¬j<kl.length:= by simpa using hjn
  have h8:j≤kl.length:= by simpa using hj
  have hjl:j=kl.length:= by omega
  subst hjl
  rw[List.take_length]at hcn
  exact Q0 (L1:=[(0,_),(1,_),(5,_),(6,_),(7,intV ((i+1:Nat):Int))]) (YU U U U U U) (k1:=ids.length -(i+1)) (by omega) ⟨i+1,_,nn,rfl,rfl,hS8.pick [1,2,3] U, by omega, by rw[List.take_add_one,hid]; exact hvis.step (NS hidn hid) hkn hkc h0, by rw[List.countP_append];omega, by omega⟩
 refine QM (Qo (Qo (Qx (Qc (Qd (Qa (Qb U U (Qe U U (Qf (Qc (Qh [4] U (Qu (QR (.inr U) U U ?_)))))))))))))
 have hil:i=ids.length:= by omega
 rw[hil,List.take_length]at hvis
 exact⟨_,rfl,n,rfl, by rw[hcn0]; exact hvis.fin hs0 (fun i hi=>(hidm i).2 hi),hS4.pick [1,2] U⟩
end Go.Proofs.YtkcjfoaejijdoaaGreatDoor
namespace Go.Proofs.YtkcjfoaejijdoaaGreatDoor
open Go.RowKit M
variable [Inhabited SlW]
theorem zerF_in {L L1:LvD} {ks:List KD} {ob:Bs} {q:KD} (hp:L1.pres=Wf (inD ks ob) 0 L.pres) (hk:L.pres q≠0→q∈ks):L1.pres q= if q.1=ob then 0 else L.pres q:= by
  rw[hp]
  unfold Wf inD
  by_cases e1:q.1=ob
  · rw[if_pos e1]
    by_cases e2:L.pres q=0
    · split
      · rfl
      · exact e2
    · rw[if_pos ⟨hk e2,e1⟩]
  · rw[if_neg e1,if_neg (fun r=>e1 r.2)]
theorem Is {S:SS} (h: ∀j,vw S j=none): ∀j,S.all j=none:= fun j=> by
  cases q:S.all j with
  | none=>rfl
  | some x=> have :=h j; rw[YX q]at this; cases this
theorem Pp {T:Nat} {S:SS} (hI:ShI Vz T S) (h: ∀j,S.all j=none):Jh S.fr=0∧Wo S.sl=0:= by
  constructor
  · unfold Jh
    rw[List.length_eq_zero_iff,List.filter_eq_nil_iff]
    intro o ho hs
    obtain⟨k,hk⟩:=List.mem_iff_getElem?.1 ho
    cases o with
    | none=> cases hs
    | some b=>
      have h1:ZS S.fr (k:Int)=some b:= by unfold ZS; rw[if_pos (by omega),Int.toNat_natCast,hk]
      have h2:=hI.fru h1
      cases hq:S.inn (k:Int)with
      | none=> exact h2 hq
      | some id=> obtain⟨_,x,h3,_⟩:=(hI.frm _ _).1 hq; rw[h id]at h3; cases h3
  · unfold Wo
    rw[List.length_eq_zero_iff,List.filter_eq_nil_iff]
    intro p hp hs
    obtain⟨k,hk⟩:=List.mem_iff_getElem?.1 hp
    obtain⟨j,x,_,h3,_⟩:=hI.slu hk (by simpa using hs)
    rw[h j]at h3; cases h3
theorem Er {w:World} {p n F:Nat} {V:VS} {X:Th} (hS:Sat w [XG p n F V,X]) (hV: ∀j,V j=none):Calls Tryz.prog 18 #[ptrV p 0] w (Ret fun v w'=>v=intV ((F:Int)+((default:SlW).v:Int))∧Sat w' [XG p n F V,X]):= by
  obtain⟨S,hI,rfl,hF,hS⟩:=Wz hS
  refine(FB hS hI).mono fun e w h=>h.mono fun v w h=> ?_
  obtain⟨u1,u2⟩:=Pp hI (Is hV)
  refine⟨?_,Z0 hI U hF h.2⟩
  rw[h.1,u1,u2,hF.1,hF.2]
  congr 1<;>omega
theorem Et {w:World} {p n F c:Nat} {V:VS} {X:Th} (hS:Sat w [XG p n F V,X]) (hc:AliveLe V c) (hcc:c≤100000000000):Calls Tryz.prog 21 #[ptrV p 0] w (Ret fun v w'=> ∃ls:List Int,ls.Pairwise (· < ·)∧(∀j,j∈ls↔V j≠none)∧ls.length≤c∧Sat w' [rowT inC v ls,XG p n F V,X]):= by
  obtain⟨S,hI,rfl,hF,hS⟩:=Wz hS
  obtain⟨ids,h1,h2⟩:=hc
  have hv: ∀j,vw S j≠none↔S.all j≠none:= fun j=> by
    cases q:S.all j with
    | none=> rw[YY q]; simp
    | some x=> rw[YX q]; simp
  refine(FF hS (ids:=ids) (fun j hj=>h2 j ((hv j).2 hj)) (by omega)).mono fun e w h=>h.mono fun v w h=> ?_
  obtain⟨ks,hks,h⟩:=h
  have hm: ∀j,j∈XZ ks↔vw S j≠none:= fun j=> by
    rw[(WT ks).mem_iff,hks.mem,hv]
    unfold aG
    cases S.all j<;> simp
  exact⟨XZ ks,Mf hks.nodup,hm,Nat.le_trans (Zr ((WT ks).nodup_iff.2 hks.nodup) fun j hj=>h2 j ((hm j).1 hj)) h1,(Z0 hI U hF (h.perm (List.Perm.swap _ _ _))).perm (List.Perm.swap _ _ _)⟩
structure AbQ (m c:Nat) (L L':LvD) (V':VS) (id:Int) (K K':Nat):Prop where
  inv:LvI m L' V'
  sp:L'.sp=L.sp
  pres:L'.pres=L.pres
  sub:SubT L.tr L'.tr
  gone:L'.tr id=none
  trn:TrN L'.tr K'
  le:K'≤K
  sz:SzLe L' c
theorem LT {w:World} {b n Fr m c K:Nat} {L:LvD} {V:VS} {F:Th} (hS:Sat w [XY b L,XG L.sp n Fr V,F]) (hn:n+100000*K≤60000000000) (hI:LvI m L V) (hc:SzLe L c) (hcc:c≤50000) (hK:TrN L.tr K) (hKK:K≤100000) (id:Int):
    Calls Tryz.prog 25 #[ptrV b 0,intV id] w (Ret fun v w'=> ∃L' V' K',AbQ m c L L' V' id K K'∧Sat w' [XY b L',XG L'.sp (n+100000*(K -K')) Fr V',F]):= by
  cases ht:L.tr id with
  | none=>
    refine(MR hS (by omega) ht).mono fun e w h=>h.mono fun v w h=> ?_
    exact⟨L,V,K,⟨hI,rfl,rfl,.refl,ht,hK,Nat.le_refl _,hc⟩,(Xe (m:=n+100000*(K -K)) (by omega) (h.perm (List.Perm.swap _ _ _))).perm (List.Perm.swap _ _ _)⟩
  | some t=>
    refine(NF hS hn hI hc hcc hK hKK ht).mono fun e w h=>h.mono fun v w h=> ?_
    obtain⟨L',V',K',⟨r,hP⟩,h⟩:=h
    exact⟨L',V',K',⟨hP.inv,hP.sp,hP.pres,hP.sub,hP.gone,hP.trn, by have :=hP.lt;omega,hP.sz⟩,h⟩
theorem L5 {w:World} {ex:Int→Int} {m:Nat} {b n Fr:Nat} {L:LvD} {V:VS} {F:Th} (hS:Sat w [XY b L,XG L.sp n Fr V,F]) {c:Nat} (hc:SzLe L c) (hn:n+2*c≤60000000000) (hI:LvX ex m L V) (hx:NN ex) (ob:Bs):
    Calls Tryz.prog 27 #[ptrV b 0,intV 0,strV ob] w (Ret fun v w'=> ∃L' V',StepX ex m L V ex m 0 0 L' V'∧(∀q,L'.pres q= if q.1=ob then 0 else L.pres q)∧L'.tr=L.tr∧Sat w' [XY b L',XG L'.sp (n+2*c) Fr V',F]):= by
 replace hS:=Xy hS
 refine Qm Tryz.func27 U Tryz.ntmps27 U ?_
 refine Qd (Qd (Qa (Qb U U (Xd U U U (Qf (Qc (Qs U (fun h1=> ?_) (fun h1=> ?_))))))))
 ·refine Qd (Qd (Qa (Qb U U (Qj U U (Qg U JU U (Qn U Up (hS.cell 0 U U) U ?_))))))
  refine Qw Du U (UR (hS.sp [1] U) (fun ks h=> by have :=hc.keysP h;omega)) U ?_
  rintro _ w2 ⟨ks,hks,hS2⟩
  replace hS2:=hS2.jn U U
  obtain⟨ar,cr,hvr,_⟩:=hS2.own_shape 0 rfl; obtain rfl:=hvr
  refine Xr Tryz.underlying98 U U (Qb U U (Qf (Qc (Qh [2,1,0,18,19,20] U (Qv ?_)))))
  have hz:=QZ (hS2.pick [2,1,3,4,5,0,6,7] U)
  have hlk:(Q8 ks).length≤c:= by rw[ZJ]; exact hc.keysP (Came.of_all hks)
  refine Xb (fun K0 E0 W0=> ∃(i:Nat) (L1:LvD) (V1:VS),K0=(Q8 ks).length -i∧E0=[(0,ptrV b 0),(2,strV ob),(18,.slice ar (Q8 ks).length cr),(19,intV ((Q8 ks).length:Int)),(20,intV (i:Int))]∧Sat W0 [XY b L1,XG L1.sp (n+i) Fr V1,rowT kC (.slice ar (Q8 ks).length cr) (Q8 ks),F]∧(i≤(Q8 ks).length)∧(LvX ex m L1 V1)∧(L1.sp=L.sp)∧(∀c,AliveLe V c→AliveLe V1 c)∧(Pgs V V1)∧(L1.pres=Wf (inD ((Q8 ks).take i) ob) 0 L.pres)∧(L1.tr=L.tr)∧(Q1 L1 V1={Q1 L V with pres:=Wf (inD ((Q8 ks).take i) ob) zer (Q1 L V).pres})) (L0:=[(0,_),(2,_),(18,_),(19,_),(20,_)]) ((Q8 ks).length) (YU U U U U U) ⟨0,L,V, by omega,rfl,hz.pick [0,2,1,3] U, by omega,hI,rfl, fun _ q=>q,.refl, by rw[Y6 (Q:= fun _=>False) (by simp [inD]),K8],rfl, by rw[Y6 (Q:= fun _=>False) (by simp [inD]),K8]⟩ ?_
  rintro _ _ w3 ⟨i,L1,V1,rfl,rfl,hS3,hi,hI1,hsp,hal,hpg,hp,hT,hab⟩
  refine Qd (Qa (Xg U U U (Qf (Qc (Qd (Qs U (fun h4=> ?_) (fun h4=> ?_)))))))
  ·obtain⟨k,hk⟩: ∃k,(Q8 ks)[i]? =some k:=⟨_,Zi (by omega)⟩
   refine Qt (Qc (Qd (Qv (Qd (Qa (QW kC 2 i hS3 U U U (by first | rfl | omega) hk Va U ?_))))))
   intro bx5 capx5 hvx5
   refine ZA 2 i hS3 U hvx5 U hk X7 Xc U U (QX hS3 Z2 U U ?_)
   intro kb wk6 hk6
   clear hS3
   refine QK hk6 U U Xc U (by rfl) (i:=0) U (by decide) ?_
   intro wk7 hk7; dsimp only[List.set]at hk7
   clear hk6
   replace hk7:=X5 (k:=k) hk7
   refine Qf (Qc (Qd (Qa (Qg U JV U (Qn U WC (hk7.cell 0 U U) U (Qb U U (KE U U U (Qf (Qc (Qh [20,19,18,2,0,7,27] U (Qs U (fun h8=> ?_) (fun h8=> ?_))))))))))))
   ·have hob:k.1=ob:=h8
    refine Qa (Qb U U ?_)
    refine Xt U X7 Xc (by first | exact hk7.blk 0 U) (by first | decide | exact Xa U | (simp;done) | omega) U U ?_
    have hC9:=hk7.sp [1,2] U
    refine Qw K4 U (GP hC9 (by omega) k 0) U ?_
    rintro _ w9 ⟨rfl,hS9⟩
    replace hS9:=hS9.jn U U; clear hC9
    clear hk7
    refine Qf (Qk (Qc (Qa (QI U U (by omega) (by omega) U ?_))))
    refine Qb U U (Qf ?_)
    obtain⟨hs1,hs2⟩:=HW (s:=0) (k:=k) hI1 hx (fun q=>absurd rfl q) (Jq V1 L1.sh (L1.pres k))
    have hI2:=hs1.inv.ext (ex':=ex) fun j hj=> by rw[Ja hj];omega
    exact Q0 (L1:=[(0,_),(2,_),(18,_),(19,_),(20,intV ((i+1:Nat):Int))]) (YU U U U U U) (k1:=(Q8 ks).length -(i+1)) (by omega) ⟨i+1,_,_, by omega,rfl,hS9.pick [0,1,3,4] U, by omega,hI2,hs1.sp.trans hsp, fun c q=>hs1.al c (hal c q),hpg.trans hs1.pg, by dsimp only; rw[hp,Mi,H3 (CL hk hob)],hT, by rw[hs2,hab,H3 (CL hk hob),WG hI1.zero]⟩
   have hob:k.1≠ob:=h8
   refine Qt (Qk (Qc (Qa (QI U U (by omega) (by omega) U ?_))))
   exact Qb U U (Qf (Q0 (L1:=[(0,_),(2,_),(18,_),(19,_),(20,intV ((i+1:Nat):Int))]) (YU U U U U U) (k1:=(Q8 ks).length -(i+1)) (by omega) ⟨i+1,L1,V1, by omega,rfl,(Xe (m:=n+(i+1)) (by omega) (hk7.pick [2,1,3,4] U)).reorder [1,0,2,3] U, by omega,hI1,hsp,hal,hpg, by rw[hp,Y6 (CM hk hob)],hT, by rw[hab,Y6 (CM hk hob)]⟩))
  refine QM (Qo (Qo (Qx (Qc (Qu (Qp (ZD (.inr U) U ?_)))))))
  have hil:i=(Q8 ks).length:= by omega
  rw[hil,List.take_length]at hp hab
  have hq9: ∀q,L1.pres q= if q.1=ob then 0 else L.pres q:= fun q=>zerF_in hp (fun e=>(allP hks q).2 e)
  exact⟨_,rfl,L1,V1,⟨hI1,hsp, fun c q=>hal c q, fun c q=>q.subP (fun j hj=> by rw[hp]at hj;unfold Wf at hj;split at hj; exact absurd U hj; exact hj) hT,hpg⟩,hq9,hT,(Xe (m:=n+2*c) (by omega) (hS3.pick [1,0,3] U)).reorder [1,0,2] U⟩
 exact absurd U h1
end Go.Proofs.YtkcjfoaejijdoaaGreatDoor
