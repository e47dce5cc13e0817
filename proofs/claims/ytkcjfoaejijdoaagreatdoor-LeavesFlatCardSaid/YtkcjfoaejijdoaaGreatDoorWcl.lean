/- world: Clone -/
import Derived.Test.YtkcjfoaejijdoaaGreatDoorWc
import Derived.Test.YtkcjfoaejijdoaaGreatDoorWa
import Derived.Test.YtkcjfoaejijdoaaGreatDoorSh7
import Derived.Test.YtkcjfoaejijdoaaGreatDoorLv35
import Derived.Test.YtkcjfoaejijdoaaGreatDoorLv30
set_option linter.unusedVariables false
set_option maxRecDepth 100000
namespace Go.Proofs.YtkcjfoaejijdoaaGreatDoor
open Go.RowKit M
set_option linter.unusedSectionVars false
variable [Inhabited SlW]
theorem YD {w:World} {F:Th} {b:Nat} {g:Bs→Option Value} (hS:Sat w [Q3 Xp b g,F]):
    Calls Tryz.prog 98 #[.map (some b)] w (Ret fun v w'=> ∃b',v= .map (some b')∧Sat w' [Q3 Xp b' g,Q3 Xp b g,F]):= by
 refine Qq Tryz.func98 rfl Tryz.ntmps98 rfl ?_
 refine Qd (Qa (Qe rfl rfl (Qf (Qc (Qd (Qd (Qa (Qb rfl rfl (UC Tryz.underlying155 rfl rfl rfl (Qf (Qc (QV rfl (Qr (Qc (Qd (Qa (Qb rfl rfl (Rs FU rfl rfl (Rr 0 hS Tryz.func127 mc1 mc2 mc3 mc4 rfl rfl rfl ?_)))))))))))))))))))
 intro b9 w9 hS9
 exact K5 FU rfl rfl (Qe rfl rfl (Qf (Qc (Qu (QQ (.inr rfl) rfl rfl (⟨_,rfl,_,rfl,hS9⟩))))))
theorem Bn {w:World} {p:Nat} {W:WS} {LL:WL} {Lo:List (Bs×Nat)} {As:List Th} (hI:PagesOk W.objs) (hO:ObjL Lo W.objs) (h:Sat w ([Q3 Xp LL.bo (X4 Lo),starL (Lo.map (Wo W.objs)),QF p (Wf LL W.time),Q3 Xp LL.bc (X7 W.cells),Q3 Xp LL.bl (X7 W.logs)]++As)):Sat w (Xi p W::As):= by
  have h1:Sat w (starL As::[Q3 Xp LL.bo (X4 Lo),starL (Lo.map (Wo W.objs)),QF p (Wf LL W.time),Q3 Xp LL.bc (X7 W.cells),Q3 Xp LL.bl (X7 W.logs)]):=(h.perm List.perm_append_comm).fold
  have h2:=WR hI hO (h1.reorder [1,2,3,4,5,0] rfl)
  exact((h2.reorder [1,0] rfl).flat).perm List.perm_append_comm
theorem An {w:World} {p gp:Nat} {W:WS} {LL LN:WL} {Lo Ln:List (Bs×Nat)} {F:Th} (hI:PagesOk W.objs) (hO:ObjL Lo W.objs) (hN:ObjL Ln W.objs)
    (h:Sat w [Q3 Xp LL.bo (X4 Lo),starL (Lo.map (Wo W.objs)),QF p (Wf LL W.time),Q3 Xp LL.bc (X7 W.cells),Q3 Xp LL.bl (X7 W.logs),Q3 Xp LN.bo (X4 Ln),starL (Ln.map (Wo W.objs)),QF gp (Wf LN W.time),Q3 Xp LN.bc (X7 W.cells),Q3 Xp LN.bl (X7 W.logs),F]):Sat w [Xi gp W,Xi p W,F]:= by
  have h1:=Bn (As:=[_,_,_,_,_,_]) hI hO h
  exact Bn (As:=[_,_]) hI hN (h1.reorder [1,2,3,4,5,0,6] rfl)
theorem SF {Lo:List (Bs×Nat)} {k:Bs} {v:Value} (h:X4 Lo k=some v): ∃(m im:Nat),v= .map (some m)∧Lo[im]? =some (k,m):= by
  unfold X4 at h
  obtain⟨m,h1,h2⟩:=Option.map_eq_some_iff.1 h
  obtain⟨im,h3⟩:=YG h1
  exact⟨m,im,h2.symm,h3⟩
structure CloSt (Lo Ln:List (Bs×Nat)) (dn:Bs→Prop):Prop where
  nodup:(Ln.map (·.1)).Nodup
  mem: ∀n,n∈Ln.map (·.1)↔dn n
  sub: ∀n,dn n→n∈Lo.map (·.1)
theorem CloSt.start (Lo:List (Bs×Nat)):CloSt Lo [] (fun _=>False):=⟨by simp, by simp, fun _ h=>h.elim⟩
theorem CloSt.step {Lo Ln:List (Bs×Nat)} {dn:Bs→Prop} {k:Bs} {m im nb:Nat} (h:CloSt Lo Ln dn) (hn: ¬dn k) (him:Lo[im]? =some (k,m)):CloSt Lo ((k,nb)::Ln) (fun j=>dn j∨j=k) where
  nodup:=List.nodup_cons.2 ⟨fun hm=>hn ((h.mem k).1 hm),h.nodup⟩
  mem:= fun n=> by
    rw[List.map_cons,List.mem_cons,h.mem n]
    exact or_comm
  sub:= fun n hd=> by
    rcases hd with hd | rfl
    · exact h.sub n hd
    · exact List.mem_map.2 ⟨(n,m),List.mem_of_getElem? him,rfl⟩
theorem CloSt.done {W:WS} {Lo Ln:List (Bs×Nat)} {dn:Bs→Prop} (hO:ObjL Lo W.objs) (h:CloSt Lo Ln dn) (hd: ∀k v,X4 Lo k=some v→dn k):ObjL Ln W.objs:= by
  refine⟨h.nodup, fun n=> ?_⟩
  rw[h.mem,←hO.has]
  refine⟨h.sub n, fun hm=> ?_⟩
  cases ha:Jv Lo n with
  | none=> exact absurd hm (Wt.1 ha)
  | some m=> exact hd n (.map (some m)) (by simp [X4,ha])
theorem CU {w:World} {p:Nat} {W:WS} {F:Th} (hS:Sat w [Xi p W,F]):
    Calls Tryz.prog 37 #[ptrV p 0] w (Ret fun v w'=> ∃q,v=ptrV q 0∧Sat w' [Xi q W,Xi p W,F]):= by
 obtain⟨LL,hI,hS⟩:=W5 hS
 obtain⟨Lo,hO,hS⟩:=J3 (hS.pull 2 rfl); dsimp only[List.eraseIdx]at hS
 refine Qq Tryz.func37 rfl Tryz.ntmps37 rfl ?_
 refine Qd (Qa (Qe rfl rfl (Qf (Qc (Ue (fun E0 W0=> ∃(nc gob nl gp:Nat),E0=[(0,ptrV p 0),(3,ptrV gp 0)]∧Sat W0 [Q3 Xp LL.bo (X4 Lo),starL (Lo.map (Wo W.objs)),QF p (Wf LL W.time),Q3 Xp LL.bc (X7 W.cells),Q3 Xp LL.bl (X7 W.logs),QF gp (Wf ⟨nc,gob,nl⟩ W.time),Q3 Xp nc (X7 W.cells),Q3 Xp nl (X7 W.logs),Q3 Xp gob (X4 []),F]) ?_ ?_)))))
 ·have hS2:=hS.drew
  refine Rv Wp (VI 4 5 rfl ?_ ?_)
  ·refine VI 5 10 rfl ?_ ?_
   ·refine U4 (sp:=[4,5,10,16]) [0,1,2,3,6,7,8,9,11,12,13,14,4,5,10,15,16,17] (by kernel_rfl) ?_
    refine QE rfl rfl rfl (Xl rfl rfl rfl (QT rfl rfl rfl M1 (Q9 rfl rfl rfl (Qm rfl YH (hS2.cell 2 rfl rfl)) (QE rfl rfl rfl (Xl rfl rfl rfl (QT rfl rfl rfl M0 (Q9 rfl rfl rfl (Qm rfl YH (hS2.cell 2 rfl rfl)) (QE rfl rfl rfl (Xl rfl rfl rfl (QT rfl rfl rfl Mz (Q9 rfl rfl rfl (Qm rfl QO (hS2.cell 2 rfl rfl)) (Xj rfl rfl rfl rfl rfl rfl ?_))))))))))))
    refine Qv Bc rfl (YD (hS2.sp [3] rfl)) rfl ?_
    rintro _ w3 ⟨nc,rfl,hS3⟩
    replace hS3:=hS3.jn rfl rfl
    clear hS2
    refine X6 (.cons (.inl ⟨rfl,(Qm rfl QO (hS3.cell 4 rfl rfl))⟩) (.cons (.inl ⟨rfl,(Qm rfl YH (hS3.cell 4 rfl rfl))⟩) (Xq (by kernel_rfl)))) ?_
    refine Xj rfl rfl rfl rfl rfl rfl ?_
    refine Za Xp hS3 rfl ?_
    intro gob w4 hS4
    clear hS3
    refine X6 (.cons (.inl ⟨rfl,(Qm rfl QO (hS4.cell 5 rfl rfl))⟩) (.cons (.inl ⟨rfl,(Qm rfl YH (hS4.cell 5 rfl rfl))⟩) (Xq (by kernel_rfl)))) ?_
    refine Xj rfl rfl rfl rfl rfl rfl ?_
    refine Qv Bc rfl (YD (hS4.sp [6] rfl)) rfl ?_
    rintro _ w5 ⟨nl,rfl,hS5⟩
    replace hS5:=hS5.jn rfl rfl
    clear hS4
    refine X6 (.cons (.inl ⟨rfl,(Qm rfl QO (hS5.cell 7 rfl rfl))⟩) (Xq (by kernel_rfl))) ?_
    refine QU rfl rfl rfl (fun _=>(Wq rfl H4 Dp Cm rfl)) ?_
    refine Xj rfl rfl rfl rfl rfl rfl ?_
    refine XU hS5 rfl rfl rfl ?_
    intro gp w6 hS6
    clear hS5
    refine X6 (Xq (by kernel_rfl)) ?_
    exact XN rfl rfl rfl (VC.nil (Z9 (Du rfl rfl) ⟨_,_,_,_,rfl,hS6.pick [6,7,8,5,2,0,4,1,3,9] rfl⟩))
   refine U4 (sp:=[4,5,10,16]) [0,1,2,3,6,7,8,9,11,12,13,14,4,10,5,15,16,17] (by kernel_rfl) ?_
   refine QE rfl rfl rfl (Xl rfl rfl rfl (QT rfl rfl rfl M1 (Q9 rfl rfl rfl (Qm rfl YH (hS2.cell 2 rfl rfl)) (QE rfl rfl rfl (Xl rfl rfl rfl (QT rfl rfl rfl M0 (Q9 rfl rfl rfl (Qm rfl YH (hS2.cell 2 rfl rfl)) (QE rfl rfl rfl (Xl rfl rfl rfl (QT rfl rfl rfl Mz (Q9 rfl rfl rfl (Qm rfl QO (hS2.cell 2 rfl rfl)) (Xj rfl rfl rfl rfl rfl rfl ?_))))))))))))
   refine Qv Bc rfl (YD (hS2.sp [3] rfl)) rfl ?_
   rintro _ w7 ⟨nc,rfl,hS7⟩
   replace hS7:=hS7.jn rfl rfl
   clear hS2
   refine X6 (.cons (.inl ⟨rfl,(Qm rfl QO (hS7.cell 4 rfl rfl))⟩) (.cons (.inl ⟨rfl,(Qm rfl YH (hS7.cell 4 rfl rfl))⟩) (Xq (by kernel_rfl)))) ?_
   refine Xj rfl rfl rfl rfl rfl rfl ?_
   refine Qv Bc rfl (YD (hS7.sp [5] rfl)) rfl ?_
   rintro _ w8 ⟨nl,rfl,hS8⟩
   replace hS8:=hS8.jn rfl rfl
   clear hS7
   refine X6 (.cons (.inl ⟨rfl,(Qm rfl QO (hS8.cell 6 rfl rfl))⟩) (Xq (by kernel_rfl))) ?_
   refine Xj rfl rfl rfl rfl rfl rfl ?_
   refine Za Xp hS8 rfl ?_
   intro gob w9 hS9
   clear hS8
   refine X6 (.cons (.inl ⟨rfl,(Qm rfl QO (hS9.cell 7 rfl rfl))⟩) (.cons (.inl ⟨rfl,(Qm rfl YH (hS9.cell 7 rfl rfl))⟩) (Xq (by kernel_rfl)))) ?_
   refine QU rfl rfl rfl (fun _=>(Wq rfl H4 Dp Cm rfl)) ?_
   refine Xj rfl rfl rfl rfl rfl rfl ?_
   refine XU hS9 rfl rfl rfl ?_
   intro gp w10 hS10
   clear hS9
   refine X6 (Xq (by kernel_rfl)) ?_
   exact XN rfl rfl rfl (VC.nil (Z9 (Du rfl rfl) ⟨_,_,_,_,rfl,hS10.pick [6,7,8,5,3,0,4,2,1,9] rfl⟩))
  refine U4 (sp:=[4,5,10,16]) [0,1,2,3,6,7,8,9,11,12,13,14,5,4,10,15,16,17] (by kernel_rfl) ?_
  refine QE rfl rfl rfl (Xl rfl rfl rfl (QT rfl rfl rfl M1 (Q9 rfl rfl rfl (Qm rfl YH (hS2.cell 2 rfl rfl)) (QE rfl rfl rfl (Xl rfl rfl rfl (QT rfl rfl rfl M0 (Q9 rfl rfl rfl (Qm rfl YH (hS2.cell 2 rfl rfl)) (QE rfl rfl rfl (Xl rfl rfl rfl (QT rfl rfl rfl Mz (Q9 rfl rfl rfl (Qm rfl QO (hS2.cell 2 rfl rfl)) (Xj rfl rfl rfl rfl rfl rfl ?_))))))))))))
  refine Za Xp hS2 rfl ?_
  intro gob w11 hS11
  clear hS2
  refine X6 (.cons (.inl ⟨rfl,(Qm rfl QO (hS11.cell 3 rfl rfl))⟩) (.cons (.inl ⟨rfl,(Qm rfl YH (hS11.cell 3 rfl rfl))⟩) (.cons (.inl ⟨rfl,(Qm rfl YH (hS11.cell 3 rfl rfl))⟩) .nil))) (Xj rfl rfl rfl rfl rfl rfl ?_)
  refine Qv Bc rfl (YD (hS11.sp [4] rfl)) rfl ?_
  rintro _ w12 ⟨nc,rfl,hS12⟩
  replace hS12:=hS12.jn rfl rfl
  clear hS11
  refine X6 (.cons (.inl ⟨rfl,(Qm rfl QO (hS12.cell 5 rfl rfl))⟩) (.cons (.inl ⟨rfl,(Qm rfl YH (hS12.cell 5 rfl rfl))⟩) (Xq (by kernel_rfl)))) ?_
  refine Xj rfl rfl rfl rfl rfl rfl ?_
  refine Qv Bc rfl (YD (hS12.sp [6] rfl)) rfl ?_
  rintro _ w13 ⟨nl,rfl,hS13⟩
  replace hS13:=hS13.jn rfl rfl
  clear hS12
  refine X6 (.cons (.inl ⟨rfl,(Qm rfl QO (hS13.cell 7 rfl rfl))⟩) (Xq (by kernel_rfl))) ?_
  refine QU rfl rfl rfl (fun _=>(Wq rfl H4 Dp Cm rfl)) ?_
  refine Xj rfl rfl rfl rfl rfl rfl ?_
  refine XU hS13 rfl rfl rfl ?_
  intro gp w14 hS14
  clear hS13
  refine X6 (Xq (by kernel_rfl)) ?_
  exact XN rfl rfl rfl (VC.nil (Z9 (Du rfl rfl) ⟨_,_,_,_,rfl,hS14.pick [6,7,8,4,2,0,3,1,5,9] rfl⟩))
 rintro _ w1 ⟨nc,gob,nl,gp,rfl,hS1⟩
 refine Qd (Qd (Qa (Qb rfl rfl (Qk rfl rfl (Qg rfl Je rfl (Qo rfl Yc (hS1.cell 2 rfl rfl) rfl (Jx 0 hS1 Tryz.underlying156 rfl rfl rfl ?_)))))))
 intro RR left0 wR hSR; dsimp only[List.set]at hSR
 refine Qf (Qc (Qw (Xe (fun K0 E0 W0=> ∃(dn:Bs→Prop) (cur:Option Bs) (left:Nat) (Ln:List (Bs×Nat)),K0=1*left∧E0=[(3,ptrV gp 0),(27,ptrV RR 0)]∧Sat W0 [J2 Xp LL.bo RR (X4 Lo) dn cur left,starL (Lo.map (Wo W.objs)),QF p (Wf LL W.time),Q3 Xp LL.bc (X7 W.cells),Q3 Xp LL.bl (X7 W.logs),QF gp (Wf ⟨nc,gob,nl⟩ W.time),Q3 Xp nc (X7 W.cells),Q3 Xp nl (X7 W.logs),Q3 Xp gob (X4 Ln),starL (Ln.map (Wo W.objs)),F]∧(CloSt Lo Ln dn)) (L0:=[(3,_),(27,_)]) (1*left0) (Du rfl rfl) ⟨_,_,_,[],rfl,rfl,(Sat.new (hSR.pick [0,1,2,3,4,5,6,7,8,9] rfl) (Only.refl [] _) (A:=SQ) (F':= fun _=>False) rfl (fun _ q=>q.elim)).reorder [1,2,3,4,5,6,7,8,9,0,10] rfl,CloSt.start Lo⟩ ?_)))
 rintro _ _ w15 ⟨dn,cur,left,Ln,rfl,rfl,hS15,hcl⟩
 refine Qd (Qa (Yh 0 hS15 keysStr.inj rfl rfl rfl (fun hdone=> ?_) (fun k v left2 w2 hleft hgk hnd hS2=> ?_)))
 ·refine Qt rfl rfl rfl (Qf (Qc (Qd (QV rfl (QS (Qp (Qp (Qz (Qc (Qd (Qa (Qb rfl rfl (Qe rfl rfl (Qf (Qc (Qu (QQ (.inr rfl) rfl rfl ?_)))))))))))))))))
  have hSz:=WG (hS15.pick [0,1,2,3,4,5,6,7,8,9,10] rfl)
  exact⟨_,rfl,gp,rfl,An (LN:=⟨nc,gob,nl⟩) hI hO (hcl.done hO hdone) (hSz.reorder [0,1,2,3,4,8,9,5,6,7,10] rfl)⟩
 dsimp only[List.set]at hS2
 obtain⟨m,im,rfl,him⟩:=SF hgk
 have hS3:=HW (i:=im) (A:=Wo W.objs (k,m)) (hS2.pull 1 rfl) (by simp [him]); dsimp only[List.eraseIdx,Wo]at hS3
 refine Qt rfl rfl rfl (Qf (Qc (Qd (Xr rfl (Qr (Qc (Qw (Qd (Qa (Jy 2 hS3 rfl hgk rfl rfl (Qt rfl rfl rfl (Qt rfl rfl rfl (Qe rfl rfl (Qe rfl rfl (Qf (Qc ?_))))))))))))))))
 have hS16:=hS3.drew
 refine QJ [0,1,2,3,4,5,6,7] [6,7] Wp (by kernel_rfl) ?_
 refine QE rfl rfl rfl (Xl rfl rfl rfl (QT rfl rfl rfl Je (Q9 rfl rfl rfl (Qm rfl Yc (hS16.cell 6 rfl rfl)) (QE rfl rfl rfl (QE rfl rfl rfl (Xj rfl rfl rfl rfl rfl rfl ?_))))))
 refine Qv Fi rfl (Cc (hS16.sp [0] rfl)) rfl ?_
 rintro _ w17 ⟨nb,rfl,hS17⟩
 replace hS17:=hS17.jn rfl rfl
 clear hS16
 refine X6 (.cons (.inl ⟨rfl,(Qm rfl Yc (hS17.cell 7 rfl rfl))⟩) .nil) (Xj rfl rfl rfl rfl rfl rfl ?_)
 refine Xk (k:=k) 10 hS17 keysStr Tryz.underlying156 rfl rfl rfl rfl ?_
 intro w18 hS18; dsimp only[List.set]at hS18; rw[By]at hS18
 clear hS17
 refine Zx (Xq (by kernel_rfl)) ?_
 refine VC.nil (Ql ?_)
 have hSz:=hS18.pick [1,2,0,11,3,4,5,6,7,8,9,10,12] rfl; dsimp only[JU,H6]at hSz
 rw[GY]at hSz
 have hSy:=MO (MP (i:=0) hSz) (TG (x:=(k,m)) him (Wo W.objs))
 have hSx:=MP (i:=0) (hSy.reorder [1,2,0,3,4,5,6,7,8,9,10,11] rfl)
 exact Q6 (L1:=[(3,_),(27,_)]) (Du rfl rfl) (k1:=1*left2) (by omega) ⟨_,_,_,(k,nb)::Ln,rfl,rfl,hSx.reorder [2,1,3,4,5,6,7,8,9,0,10] rfl,hcl.step hnd him⟩
end Go.Proofs.YtkcjfoaejijdoaaGreatDoor
namespace Go.Proofs.YtkcjfoaejijdoaaGreatDoor
open Go.RowKit M
set_option linter.unusedSectionVars false
variable [Inhabited SlW]
def JL (t:TrA) (c:Bs) (k:KD):Bs:= match t.lv k with
  | some x=>x.own
  | none=> if t.dr k.1=true then zer else c
def ZV (b:KD→Bs) (t:TrA) (k:KD):LfA:= match t.lv k with
  | some x=>x
  | none=>⟨JL t (b k) k,JL t (b k) k,0#64, if t.dr k.1=true then BitVec.allOnes 64 else 0#64⟩
noncomputable def Yp (t:TrA) (k:KD) (y:LfA):TrA:={t with lv:=Xz t.lv k (some y)}
noncomputable def Rh (t:TrA) (ob:Bs):TrA:={t with lv:=Zn (fun j=>j.1=ob) t.lv,dr:=JD t.dr ob}
noncomputable def UK (A:LvA) (id:Int) (t:TrA):LvA:={A with tr:=Xz A.tr id (some t)}
theorem stA_set {A:LvA} {id:Int} {t u:TrA}:UK (UK A id t) id u=UK A id u:= by unfold UK; simp only[YK]
theorem GF {A:LvA} {id:Int} {t:TrA}:(UK A id t).tr id=some t:=Q1
theorem BN {A:LvA} {id j:Int} {t:TrA} (h:j≠id):(UK A id t).tr j=A.tr j:=QI h
theorem Up {A:LvA} {id:Int} {t:TrA} (h:A.tr id=some t):UK A id t=A:= by unfold UK; rw[YP h]
theorem DZ {A:LvA} {id:Int} {t:TrA} {k:KD} {y:LfA}:ZA (UK A id t) id k y=UK A id (Yp t k y):= by
  rw[ZS GF]
  unfold UK Yp
  simp only[YK]
theorem EZ {A:LvA} {id:Int} {t:TrA} {ob:Bs}:U3 (UK A id t) id ob=UK A id (Rh t ob):= by
  rw[Ri GF]
  unfold UK Rh
  simp only[YK]
def BgI (A:LvA) (id p:Int) (b:KD→Bs):Prop:=id≠0∧id≠p∧ ∀t,t.parent=p→ ∀k,ZN (UK A id t) p k=b k∧ZN (UK A id t) id k=JL t (b k) k
theorem O0 {A:LvA} {id:Int} {t:TrA} {k:KD} {n:Nat} (h0:id≠0) (ht:A.tr id=some t):J1 A (n+1) id k=JL t (J1 A n t.parent k) k:= by
  rw[J1,if_neg h0,ht]
  unfold JL
  rfl
theorem F7 {A:LvA} {id:Int} (h0:id≠0):BgI A id 0 A.pres:=⟨h0,h0, fun t hp k=>⟨We, by
  unfold ZN
  rw[O0 h0 GF,hp, show Zp=99999+1 from rfl,sees_nzero]
  rfl⟩⟩
theorem BgI.set {A:LvA} {id p:Int} {b:KD→Bs} {u:TrA} (h:BgI A id p b):BgI (UK A id u) id p b:=⟨h.1,h.2.1, fun t ht k=> by rw[stA_set]; exact h.2.2 t ht k⟩
section
variable {A:LvA} {id p i:Int} {b:KD→Bs} {t u:TrA} {k j:KD} {y:LfA} {ob nm:Bs} {W W':WS} {c:Bs}
theorem Hz:(ZV b t k).own=JL t (b k) k:= by
  unfold ZV JL
  cases t.lv k<;>rfl
theorem DC (h:BgI A id p b) (hp:t.parent=p):Zi (UK A id t) id k=ZV b t k:= by
  unfold Zi ZV
  rw[GF]
  dsimp only
  cases t.lv k with
  | some x=>rfl
  | none=> dsimp only; rw[(h.2.2 t hp k).2]
theorem R3:JL (Yp t k y) c j= if j=k then y.own else JL t c j:= by
  unfold JL Yp
  dsimp only
  by_cases e:j=k
  · subst e; rw[Q1,if_pos rfl]
  · rw[QI e,if_neg e]
theorem O2:JL (Rh t ob) c j= if j.1=ob then zer else JL t c j:= by
  unfold JL Rh Zn
  dsimp only
  by_cases e:j.1=ob
  · rw[if_pos e,if_pos e]
    cases t.lv j with
    | some x=>rfl
    | none=>
      dsimp only[Option.map_none]
      rw[if_pos (JC.2 (.inr e))]
  · rw[if_neg e,if_neg e]
    have e2:JD t.dr ob j.1=t.dr j.1:= by unfold JD; rw[if_neg e]
    simp only[e2]
def VisT (b:KD→Bs) (t:TrA) (W:WS):Prop:= ∀nm q,JL t (b (nm,q)) (nm,q)=XD W nm q
def VisP (P:KD→Bs) (W:WS):Prop:= ∀nm q,P (nm,q)=XD W nm q
theorem EB {n m:Bs} {q q':Int} {s:Bs}:XD (GI W n q s) m q'= if m=n∧q'=q then s else XD W m q':= by
  unfold XD GI KP W2
  dsimp only
  by_cases e:m=n∧q'=q
  · rw[if_pos e,if_pos e]
    by_cases z:s=ZQ
    · rw[if_pos z,z];rfl
    · rw[if_neg z];rfl
  · rw[if_neg e,if_neg e]
theorem KW (m:Bs) (q:Int) (a:Int) (v:UInt8) (h:0≤a∧a<16384):XD (Wh W nm a v) m q= if m=nm∧q=a/ 64 then(XD W nm (a/ 64)).set (a%64).toNat v else XD W m q:= by
  unfold Wh
  rw[if_pos h,EB]
theorem KX (m:Bs) (q:Int):XD (Vj W nm) m q= if m=nm then zer else XD W m q:= by
  unfold XD Vj W2
  dsimp only
  by_cases e:m=nm
  · rw[if_pos e,if_pos e];rfl
  · rw[if_neg e,if_neg e]
theorem EC (hI:PagesOk W.objs) {m:Bs} {q:Int} (h: ¬(0≤q∧q<256)):XD W m q=zer:= by
  unfold XD W2
  cases e:W.objs m q with
  | none=>rfl
  | some s=> exact absurd (hI.ok m q s e).2.2 h
def VM (n at_:Int):Nat:=(min n (256 -at_) -max 0 (-at_)).toNat
theorem KY (hI:PagesOk W.objs) {frm to:Bs} {fi n at_:Int} (m:Bs) (q:Int):XD (KH W frm fi n to at_) m q= if m=to∧at_+max 0 (-at_)≤q∧q<at_+max 0 (-at_)+(VM n at_:Int)then(if 0≤fi+q -at_∧fi+q -at_<256 then XD W frm (fi+q -at_)else zer)else XD W m q:= by
  have e0:XD (KH W frm fi n to at_) m q=W2 (if m=to∧max at_ 0≤q∧q<min (at_+n) 256 then W.objs frm (fi+q -at_)else W.objs m q):=rfl
  rw[e0]
  unfold VM
  by_cases e:m=to∧max at_ 0≤q∧q<min (at_+n) 256
  · rw[if_pos e,if_pos ⟨e.1, by omega, by omega⟩]
    by_cases r:0≤fi+q -at_∧fi+q -at_<256
    · rw[if_pos r];rfl
    · rw[if_neg r]; exact EC hI r
  · rw[if_neg e,if_neg fun a=>e ⟨a.1, by omega, by omega⟩]
    rfl
end
noncomputable def Vl (b:KD→Bs) (ob:Bs) (t:TrA) (p:Int):TrA:= if 0≤p∧p<256 then Yp t (ob,p) (allR (ZV b t (ob,p)))else t
noncomputable def V5 (b:KD→Bs) (ob:Bs) (p0:Int) (t:TrA):Nat→TrA
  | 0=>t
  | q+1=>Vl b ob (V5 b ob p0 t q) (p0+(q:Int))
noncomputable def G0 (b:KD→Bs) (t:TrA) (to:Bs) (base:Int) (f:Nat→Bs):Nat→TrA
  | 0=>t
  | q+1=>Yp (G0 b t to base f q) (to,base+(q:Int)) (allX (ZV b (G0 b t to base f q) (to,base+(q:Int))) (f q))
def Fc (b:KD→Bs) (t:TrA) (ob:Bs) (p:Int):Bs:= if 0≤p∧p<256 then JL t (b (ob,p)) (ob,p)else zer
noncomputable def HD (b:KD→Bs) (t:TrA) (ob:Bs) (fi n:Int) (to:Bs) (at_:Int):TrA:=
  G0 b (V5 b ob (fi+max 0 (-at_)) t (VM n at_)) to (at_+max 0 (-at_)) (fun i=>Fc b t ob (fi+max 0 (-at_)+(i:Int))) (VM n at_)
section
variable {A:LvA} {id p:Int} {b:KD→Bs} {t:TrA} {ob to:Bs} {p0 base:Int} {f:Nat→Bs} {W:WS}
theorem O7 {q:Int}:(Vl b ob t q).parent=t.parent:= by unfold Vl;split<;>rfl
theorem R8: ∀q,(V5 b ob p0 t q).parent=t.parent
  | 0=>rfl
  | q+1=>(O7 (b:=b)).trans (R8 q)
theorem Dx: ∀q,(G0 b t to base f q).parent=t.parent
  | 0=>rfl
  | q+1=>Dx q
theorem Pe (h:BgI A id p b) (hp:t.parent=p): ∀q,CQ id ob p0 (UK A id t) q=UK A id (V5 b ob p0 t q)
  | 0=>rfl
  | q+1=> by
    show Tf id ob (CQ id ob p0 (UK A id t) q) _=UK A id (Vl b ob (V5 b ob p0 t q) _)
    rw[Pe h hp q]
    unfold Tf Vl
    by_cases e:0≤p0+(q:Int)∧p0+(q:Int)<256
    · rw[if_pos ⟨h.1,e.1,e.2⟩,if_pos e,DC h ((R8 q).trans hp),DZ]
    · rw[if_neg (fun a=>e a.2),if_neg e]
theorem N7 (h:BgI A id p b) (hp:t.parent=p): ∀q,VL id (UK A id t) to base f q=UK A id (G0 b t to base f q)
  | 0=>rfl
  | q+1=> by
    show Gg id (VL id (UK A id t) to base f q) _=UK A id (Yp (G0 b t to base f q) _ _)
    rw[N7 h hp q]
    unfold Gg
    rw[if_neg h.1,DC h ((Dx q).trans hp),DZ]
theorem cpC_set (h:BgI A id p b) (hp:t.parent=p) {q:Int}:cpC (UK A id t) id ob q=Fc b t ob q:= by
  unfold cpC Fc
  rw[(h.2.2 t hp _).2]
theorem O1 {q:Int} {j:KD}:JL (Vl b ob t q) (b j) j=JL t (b j) j:= by
  unfold Vl
  split
  · rw[R3]
    by_cases e:j=(ob,q)
    · rw[if_pos e, show(allR (ZV b t (ob,q))).own=(ZV b t (ob,q)).own from rfl,Hz,e]
    · rw[if_neg e]
  · rfl
theorem DU {j:KD}: ∀q,JL (V5 b ob p0 t q) (b j) j=JL t (b j) j
  | 0=>rfl
  | q+1=>(O1 (b:=b)).trans (DU q)
theorem NV {m:Bs} {r:Int}: ∀q:Nat,JL (G0 b t to base f q) (b (m,r)) (m,r)= if m=to∧base≤r∧r<base+(q:Int)then f (r -base).toNat else JL t (b (m,r)) (m,r)
  | 0=> by rw[if_neg (by omega)];rfl
  | q+1=> by
    show JL (Yp (G0 b t to base f q) (to,base+(q:Int)) _) (b (m,r)) (m,r)=_
    rw[R3]
    by_cases e:(m,r)=(to,base+(q:Int))
    · obtain⟨e1,e2⟩:=Prod.mk.inj e
      rw[if_pos e,if_pos ⟨e1, by omega, by omega⟩]
      have :(r -base).toNat=q:= by omega
      rw[this]
      rfl
    · rw[if_neg e,NV q]
      by_cases e2:m=to∧base≤r∧r<base+(q:Int)
      · rw[if_pos e2,if_pos ⟨e2.1,e2.2.1, by omega⟩]
      · rw[if_neg e2,if_neg fun a=>e2 ⟨a.1,a.2.1,Classical.byContradiction fun z=>e (by rw[a.1, show r=base+(q:Int) by omega])⟩]
theorem VisT.copy (h:VisT b t W) (hI:PagesOk W.objs) {frm:Bs} {fi n at_:Int}:VisT b (HD b t frm fi n to at_) (KH W frm fi n to at_):= fun nm q=> by
  unfold HD
  rw[NV,KY hI,DU,h nm q]
  by_cases e:nm=to∧at_+max 0 (-at_)≤q∧q<at_+max 0 (-at_)+(VM n at_:Int)
  · rw[if_pos e,if_pos e]
    unfold Fc
    have e1:fi+max 0 (-at_)+(((q -(at_+max 0 (-at_))).toNat:Nat):Int)=fi+q -at_:= by omega
    rw[e1]
    by_cases r:0≤fi+q -at_∧fi+q -at_<256
    · rw[if_pos r,if_pos r]; exact h frm _
    · rw[if_neg r,if_neg r]
  · rw[if_neg e,if_neg e]
theorem VisT.rd (h:VisT b t W) {k:KD} {a:Int}:VisT b (Yp t k (rdX (ZV b t k) a)) W:= fun nm q=> by
  rw[R3]
  by_cases e:(nm,q)=k
  · rw[if_pos e, show(rdX (ZV b t k) a).own=(ZV b t k).own from rfl,Hz,←e]; exact h nm q
  · rw[if_neg e]; exact h nm q
theorem VisT.wr (h:VisT b t W) {nm:Bs} {a:Int} {v:UInt8} (ha:0≤a∧a<16384):VisT b (Yp t (nm,a/ 64) (wrX (ZV b t (nm,a/ 64)) (a%64) v)) (Wh W nm a v):= fun m q=> by
  rw[R3,KW m q a v ha]
  by_cases e:(m,q)=(nm,a/ 64)
  · obtain⟨e1,e2⟩:=Prod.mk.inj e
    rw[if_pos e,if_pos ⟨e1,e2⟩, show(wrX (ZV b t (nm,a/ 64)) (a%64) v).own=(ZV b t (nm,a/ 64)).own.set (a%64).toNat v from rfl,Hz,h nm (a/ 64)]
  · rw[if_neg e,if_neg fun z=>e (by rw[z.1,z.2])]; exact h m q
theorem VisT.drp (h:VisT b t W) {nm:Bs}:VisT b (Rh t nm) (Vj W nm):= fun m q=> by
  rw[O2,KX]
  by_cases e:m=nm
  · rw[if_pos e,if_pos e]
  · rw[if_neg e,if_neg e]; exact h m q
end
structure TrK (b:KD→Bs) (t:TrA) (q d:Nat):Prop where
  rd: ∀k x,t.lv k=some x→x.base=b k∨(x.rd=0#64∧x.wr=BitVec.allOnes 64)
  dr: ∀k x,t.dr k.1=true→t.lv k=some x→x.wr=BitVec.allOnes 64
  pt:PartLe t q
  dl:DrLe t d
def GoX (o y:LfA):Prop:=y.base=o.base∧(∃r,y.rd=o.rd ||| (r&&& ~~~o.wr))∧ ∃w,y.wr=o.wr ||| w
theorem qba {w:BitVec 64}:BitVec.allOnes 64 ||| w=BitVec.allOnes 64:= by
  apply BitVec.eq_of_getLsbD_eq
  intro i hi
  rw[BitVec.getLsbD_or,BitVec.getLsbD_allOnes]
  simp [hi]
theorem qa8 {r:BitVec 64}:0#64 ||| (r&&& ~~~(BitVec.allOnes 64))=0#64:= by
  apply BitVec.eq_of_getLsbD_eq
  intro i hi
  simp [hi]
theorem or_zer {w:BitVec 64}:w ||| 0#64=w:= by
  apply BitVec.eq_of_getLsbD_eq
  intro i hi
  simp
section
variable {A:LvA} {id p:Int} {b:KD→Bs} {t:TrA} {k:KD} {y o:LfA} {q d:Nat} {ob to:Bs} {p0 base:Int} {f:Nat→Bs} {W:WS}
theorem GoX.rdX {a:Int}:GoX o (rdX o a):=⟨rfl,⟨_,rfl⟩,0#64,or_zer.symm⟩
theorem GoX.allR:GoX o (allR o):=⟨rfl,⟨_,rfl⟩,0#64,or_zer.symm⟩
theorem GoX.wrX {a:Int} {v:UInt8}:GoX o (wrX o a v):=⟨rfl,⟨0#64, by
  show o.rd=o.rd ||| (0#64&&& ~~~o.wr)
  apply BitVec.eq_of_getLsbD_eq
  intro i hi
  simp⟩,_,rfl⟩
theorem GoX.allX {c:Bs}:GoX o (allX o c):=⟨rfl,⟨0#64, by
  show o.rd=o.rd ||| (0#64&&& ~~~o.wr)
  apply BitVec.eq_of_getLsbD_eq
  intro i hi
  simp⟩,BitVec.allOnes 64, by
  show BitVec.allOnes 64=o.wr ||| BitVec.allOnes 64
  apply BitVec.eq_of_getLsbD_eq
  intro i hi
  rw[BitVec.getLsbD_or,BitVec.getLsbD_allOnes]
  simp [hi]⟩
theorem LZ (h:TrK b t q d):(ZV b t k).base=b k∨((ZV b t k).rd=0#64∧(ZV b t k).wr=BitVec.allOnes 64):= by
  unfold ZV
  cases hx:t.lv k with
  | some x=> exact h.rd k x hx
  | none=>
    dsimp only
    unfold JL
    rw[hx]
    dsimp only
    cases hd:t.dr k.1 with
    | true=> exact .inr ⟨rfl, by simp⟩
    | false=> exact .inl (by simp)
theorem touT_dr (h:TrK b t q d) (hd:t.dr k.1=true):(ZV b t k).wr=BitVec.allOnes 64:= by
  unfold ZV
  cases hx:t.lv k with
  | some x=> exact h.dr k x hd hx
  | none=> dsimp only; rw[if_pos hd]
theorem TrK.putG (h:TrK b t q d) (hg:GoX (ZV b t k) y) {q':Nat} (hq:PartLe (Yp t k y) q'):TrK b (Yp t k y) q' d:= by
  obtain⟨g1,⟨r,g2⟩,w,g3⟩:=hg
  refine⟨fun j x hx=> ?_, fun j x hd hx=> ?_,hq,h.dl⟩
  · have hx':Xz t.lv k (some y) j=some x:=hx
    by_cases e:j=k
    · subst e
      rw[Q1]at hx'
      cases hx'
      rcases LZ (k:=j) h with e1 | ⟨e1,e2⟩
      · exact .inl (g1.trans e1)
      · exact .inr ⟨by rw[g2,e1,e2,qa8], by rw[g3,e2,qba]⟩
    · rw[QI e]at hx'; exact h.rd j x hx'
  · have hx':Xz t.lv k (some y) j=some x:=hx
    by_cases e:j=k
    · subst e
      rw[Q1]at hx'
      cases hx'
      rw[g3,touT_dr h hd,qba]
    · rw[QI e]at hx'; exact h.dr j x hd hx'
theorem PartLe.put1 (h:PartLe t q):PartLe (Yp t k y) (q+1):= by
  obtain⟨l,a,c⟩:=h
  refine⟨k::l, by simp;omega, fun j x hx h1 h2=> ?_⟩
  have hx':Xz t.lv k (some y) j=some x:=hx
  by_cases e:j=k
  · rw[e]; exact List.mem_cons_self
  · rw[QI e]at hx'; exact List.mem_cons_of_mem _ (c j x hx' h1 h2)
theorem PartLe.put0 (h:PartLe t q) (hy:y.wr=(ZV b t k).wr∨y.wr=BitVec.allOnes 64):PartLe (Yp t k y) q:= by
  obtain⟨l,a,c⟩:=h
  refine⟨l,a, fun j x hx h1 h2=> ?_⟩
  have hx':Xz t.lv k (some y) j=some x:=hx
  by_cases e:j=k
  · subst e
    rw[Q1]at hx'
    cases hx'
    rcases hy with hy | hy
    · unfold ZV at hy
      cases hz:t.lv j with
      | some z=> rw[hz]at hy; dsimp only at hy; exact c j z hz (by rw[←hy]; exact h1) (by rw[←hy]; exact h2)
      | none=>
        rw[hz]at hy
        dsimp only at hy
        split at hy
        · exact absurd hy h2
        · exact absurd hy h1
    · exact absurd hy h2
  · rw[QI e]at hx'; exact c j x hx' h1 h2
theorem TrK.rdX (h:TrK b t q d) {a:Int}:TrK b (Yp t k (Go.Proofs.YtkcjfoaejijdoaaGreatDoor.rdX (ZV b t k) a)) q d:=h.putG GoX.rdX (h.pt.put0 (b:=b) (.inl rfl))
theorem TrK.wrX (h:TrK b t q d) {a:Int} {v:UInt8}:TrK b (Yp t k (Go.Proofs.YtkcjfoaejijdoaaGreatDoor.wrX (ZV b t k) a v)) (q+1) d:=h.putG GoX.wrX h.pt.put1
theorem TrK.drp (h:TrK b t q d):TrK b (Rh t ob) q (d+1):= by
  have key: ∀j x,(Rh t ob).lv j=some x→ ∃z,t.lv j=some z∧((j.1=ob∧x=allX z zer)∨(j.1≠ob∧x=z)):= fun j x hx=> by
    have hx':Zn (fun j=>j.1=ob) t.lv j=some x:=hx
    unfold Zn at hx'
    by_cases e:j.1=ob
    · rw[if_pos e]at hx'
      obtain⟨z,hz,rfl⟩:=Option.map_eq_some_iff.1 hx'
      exact⟨z,hz,.inl ⟨e,rfl⟩⟩
    · rw[if_neg e]at hx'
      exact⟨x,hx',.inr ⟨e,rfl⟩⟩
  refine⟨fun j x hx=> ?_, fun j x hd hx=> ?_, ?_, ?_⟩
  · obtain⟨z,hz,⟨_,rfl⟩ | ⟨_,rfl⟩⟩:=key j x hx
    · rcases h.rd j z hz with e | ⟨e1,e2⟩
      · exact .inl e
      · exact .inr ⟨e1,rfl⟩
    · exact h.rd j _ hz
  · obtain⟨z,hz,⟨_,rfl⟩ | ⟨e,rfl⟩⟩:=key j x hx
    · rfl
    · have hd':JD t.dr ob j.1=true:=hd
      rcases JC.1 hd' with q | q
      · exact h.dr j _ q hz
      · exact absurd q e
  · obtain⟨l,a,c⟩:=h.pt
    refine⟨l,a, fun j x hx h1 h2=> ?_⟩
    obtain⟨z,hz,⟨_,rfl⟩ | ⟨_,rfl⟩⟩:=key j x hx
    · exact absurd rfl h2
    · exact c j _ hz h1 h2
  · obtain⟨l,a,c⟩:=h.dl
    refine⟨ob::l, by simp;omega, fun o ho=> ?_⟩
    have ho':JD t.dr ob o=true:=ho
    rcases JC.1 ho' with q | q
    · exact List.mem_cons_of_mem _ (c o q)
    · rw[q]; exact List.mem_cons_self
theorem TrK.rdf (h:TrK b t q d): ∀n,TrK b (V5 b ob p0 t n) q d
  | 0=>h
  | n+1=> by
    show TrK b (Vl b ob (V5 b ob p0 t n) _) q d
    unfold Vl
    split
    · exact(TrK.rdf h n).putG GoX.allR ((TrK.rdf h n).pt.put0 (b:=b) (.inl rfl))
    · exact TrK.rdf h n
theorem TrK.wrf (h:TrK b t q d): ∀n,TrK b (G0 b t to base f n) q d
  | 0=>h
  | n+1=>(TrK.wrf h n).putG GoX.allX ((TrK.wrf h n).pt.put0 (b:=b) (.inr rfl))
theorem TrK.copy (h:TrK b t q d) {frm:Bs} {fi n at_:Int}:TrK b (HD b t frm fi n to at_) q d:=(h.rdf _).wrf _
end
end Go.Proofs.YtkcjfoaejijdoaaGreatDoor
namespace Go.Proofs.YtkcjfoaejijdoaaGreatDoor
open Go.RowKit M
set_option linter.unusedSectionVars false
variable [Inhabited SlW]
structure AcL where
  dk:Int
  idn:Int
  ob:Bs
  to:Bs
  first:Int
  n:Int
  at_:Int
  bb:Int
def U8 (x:AcL):List Value:=[intV x.dk,intV x.idn,strV x.ob,strV x.to,intV x.first,intV x.n,intV x.at_,intV x.bb]
def AD:RowC AcL:=⟨U8,8, by decide, fun _=>rfl, fun _=>rfl⟩
def b8 (a:Int):UInt8:=UInt8.ofNat (a%256).toNat
theorem Gq (a:Int):IntKind.u8.wrap a=((b8 a).toNat:Int):= by
  rw[wrapU8]
  unfold b8
  simp
  omega
def FC (x:AcL):Prop:=x.ob.length≤20∧x.to.length≤20∧x.n≤300∧ -2147483648≤x.first∧x.first≤2147483648∧ -2147483648≤x.at_∧x.at_≤2147483648∧ -2147483648≤x.n
noncomputable def rdU (b:KD→Bs) (t:TrA) (ob:Bs) (a:Int):TrA:= if 0≤a∧a<16384 then Yp t (ob,a/ 64) (rdX (ZV b t (ob,a/ 64)) (a%64))else t
noncomputable def wrU (b:KD→Bs) (t:TrA) (ob:Bs) (a:Int) (v:UInt8):TrA:= if 0≤a∧a<16384 then Yp t (ob,a/ 64) (wrX (ZV b t (ob,a/ 64)) (a%64) v)else t
noncomputable def LK (P:KD→Bs) (ob:Bs) (a:Int) (v:UInt8):KD→Bs:= if 0≤a∧a<16384 then Vn P (ob,a/ 64) ((P (ob,a/ 64)).set (a%64).toNat v)else P
noncomputable def Fb (P:KD→Bs) (ob:Bs) (fi n:Int) (to:Bs) (at_:Int):KD→Bs:= fun k=> if k.1=to∧at_+max 0 (-at_)≤k.2∧k.2<at_+max 0 (-at_)+(VM n at_:Int)then(if 0≤fi+k.2 -at_∧fi+k.2 -at_<256 then P (ob,fi+k.2 -at_)else zer)else P k
noncomputable def IZ (P:KD→Bs) (ob:Bs):KD→Bs:=W4 (fun j=>j.1=ob) zer P
section
variable {A:LvA} {id p:Int} {b:KD→Bs} {t:TrA} {ob nm to:Bs} {W:WS} {P:KD→Bs} {k:KD} {a:Int} {v:UInt8} {q d:Nat}
theorem AM {f:Nat→Bs} {base:Int}: ∀q:Nat,VL 0 A to base f q={A with pres:= fun k=> if k.1=to∧base≤k.2∧k.2<base+(q:Int)then f (k.2 -base).toNat else A.pres k}
  | 0=> by
    show A=_
    apply LvA.eq2
    · funext k
      show A.pres k= if k.1=to∧base≤k.2∧k.2<base+((0:Nat):Int)then _ else A.pres k
      rw[if_neg (by omega)]
    · rfl
  | q+1=> by
    show Gg 0 (VL 0 A to base f q) ((to,base+(q:Int)),f q)=_
    rw[AM q]
    unfold Gg
    rw[if_pos rfl]
    apply LvA.eq2
    · funext k
      show Vn (fun k=> if k.1=to∧base≤k.2∧k.2<base+(q:Int)then f (k.2 -base).toNat else A.pres k) (to,base+(q:Int)) (f q) k= if k.1=to∧base≤k.2∧k.2<base+((q+1:Nat):Int)then f (k.2 -base).toNat else A.pres k
      by_cases e:k=(to,base+(q:Int))
      · subst e
        rw[XG,if_pos ⟨rfl, by dsimp only;omega, by dsimp only;omega⟩]
        congr 1
        dsimp only
        omega
      · rw[Zb e]
        by_cases e2:k.1=to∧base≤k.2∧k.2<base+(q:Int)
        · rw[if_pos e2,if_pos ⟨e2.1,e2.2.1, by omega⟩]
        · rw[if_neg e2,if_neg fun z=>e2 ⟨z.1,z.2.1,Classical.byContradiction fun y=>e (by
            obtain⟨k1,k2⟩:=k
            dsimp only at z y
            rw[z.1, show k2=base+(q:Int) by omega])⟩]
    · rfl
theorem qaj {fi n at_:Int}:VL 0 A to (at_+max 0 (-at_)) (fun i=>cpC A 0 ob (fi+max 0 (-at_)+(i:Int))) (VM n at_)={A with pres:=Fb A.pres ob fi n to at_}:= by
  rw[AM]
  apply LvA.eq2
  · funext k
    unfold Fb
    dsimp only
    by_cases e:k.1=to∧at_+max 0 (-at_)≤k.2∧k.2<at_+max 0 (-at_)+(VM n at_:Int)
    · rw[if_pos e,if_pos e]
      unfold cpC
      have e1:fi+max 0 (-at_)+(((k.2 -(at_+max 0 (-at_))).toNat:Nat):Int)=fi+k.2 -at_:= by omega
      rw[e1,We]
    · rw[if_neg e,if_neg e]
  · rfl
theorem qah (h:BgI A id p b) (hp:t.parent=p) {fi n at_:Int}:VL id (CQ id ob (fi+max 0 (-at_)) (UK A id t) (VM n at_)) to (at_+max 0 (-at_)) (fun i=>cpC (UK A id t) id ob (fi+max 0 (-at_)+(i:Int))) (VM n at_)=UK A id (HD b t ob fi n to at_):= by
  rw[Pe h hp,N7 h ((R8 _).trans hp)]
  unfold HD
  congr 2
  funext i
  exact cpC_set h hp
theorem rdU_par:(rdU b t ob a).parent=t.parent:= by unfold rdU;split<;>rfl
theorem wrU_par:(wrU b t ob a v).parent=t.parent:= by unfold wrU;split<;>rfl
theorem Fd {fi n at_:Int}:(HD b t ob fi n to at_).parent=t.parent:=(Dx _).trans (R8 _)
theorem VisT.rdU (h:VisT b t W):VisT b (rdU b t ob a) W:= by
  unfold Go.Proofs.YtkcjfoaejijdoaaGreatDoor.rdU
  split
  · exact h.rd
  · exact h
theorem VisT.wrU (h:VisT b t W):VisT b (wrU b t nm a v) (Wh W nm a v):= by
  unfold Go.Proofs.YtkcjfoaejijdoaaGreatDoor.wrU
  by_cases e:0≤a∧a<16384
  · rw[if_pos e]; exact h.wr e
  · rw[if_neg e]
    unfold Wh
    rw[if_neg e]
    exact h
theorem TrK.rdU (h:TrK b t q d):TrK b (Go.Proofs.YtkcjfoaejijdoaaGreatDoor.rdU b t ob a) q d:= by
  unfold Go.Proofs.YtkcjfoaejijdoaaGreatDoor.rdU
  split
  · exact h.rdX
  · exact h
theorem PartLe.up {q':Nat} (h:PartLe t q) (hq:q≤q'):PartLe t q':= by
  obtain⟨l,a,c⟩:=h
  exact⟨l, by omega,c⟩
theorem DrLe.up {d':Nat} (h:DrLe t d) (hq:d≤d'):DrLe t d':= by
  obtain⟨l,a,c⟩:=h
  exact⟨l, by omega,c⟩
theorem TrK.up {q' d':Nat} (h:TrK b t q d) (hq:q≤q') (hd:d≤d'):TrK b t q' d':=⟨h.rd,h.dr,h.pt.up hq,h.dl.up hd⟩
theorem TrK.wrU (h:TrK b t q d):TrK b (Go.Proofs.YtkcjfoaejijdoaaGreatDoor.wrU b t ob a v) (q+1) d:= by
  unfold Go.Proofs.YtkcjfoaejijdoaaGreatDoor.wrU
  split
  · exact h.wrX
  · exact h.up (by omega) (by omega)
theorem VisP.wrU (h:VisP P W):VisP (LK P nm a v) (Wh W nm a v):= fun m q=> by
  unfold LK
  by_cases e:0≤a∧a<16384
  · rw[if_pos e,KW m q a v e]
    by_cases e2:(m,q)=(nm,a/ 64)
    · obtain⟨e3,e4⟩:=Prod.mk.inj e2
      rw[e2,XG,if_pos ⟨e3,e4⟩,h nm (a/ 64)]
    · rw[Zb e2,if_neg fun z=>e2 (by rw[z.1,z.2])]
      exact h m q
  · rw[if_neg e]
    unfold Wh
    rw[if_neg e]
    exact h m q
theorem VisP.copy (h:VisP P W) (hI:PagesOk W.objs) {fi n at_:Int}:VisP (Fb P ob fi n to at_) (KH W ob fi n to at_):= fun m q=> by
  unfold Fb
  rw[KY hI]
  dsimp only
  by_cases e:m=to∧at_+max 0 (-at_)≤q∧q<at_+max 0 (-at_)+(VM n at_:Int)
  · rw[if_pos e,if_pos e]
    by_cases r:0≤fi+q -at_∧fi+q -at_<256
    · rw[if_pos r,if_pos r]; exact h ob _
    · rw[if_neg r,if_neg r]
  · rw[if_neg e,if_neg e]; exact h m q
theorem VisP.drp (h:VisP P W):VisP (IZ P nm) (Vj W nm):= fun m q=> by
  unfold IZ W4
  rw[KX]
  dsimp only
  by_cases e:m=nm
  · rw[if_pos e,if_pos e]
  · rw[if_neg e,if_neg e]; exact h m q
theorem PZ (h:VisT b t W):(if 0≤a∧a<16384 then N4 (JL t (b (ob,a/ 64)) (ob,a/ 64)) (a%64)else 0)=HF W ob a:= by
  unfold HF N4
  rw[h ob (a/ 64)]
  rfl
theorem Sa (h:VisP P W):(if 0≤a∧a<16384 then N4 (P (ob,a/ 64)) (a%64)else 0)=HF W ob a:= by
  unfold HF N4
  rw[h ob (a/ 64)]
  rfl
end
def Wc (x:AcL):Int:=x.dk%14
noncomputable def WM (b:KD→Bs) (t:TrA) (x:AcL):TrA:= if Wc x=0∨Wc x=1∨Wc x=2∨Wc x=7∨Wc x=8 then rdU b t x.ob x.at_ else if Wc x=5∨Wc x=11 then HD b t x.ob x.first x.n x.to x.at_ else if Wc x=6 then Rh t x.ob else wrU b t x.ob x.at_ (b8 x.bb)
noncomputable def Vv (P:KD→Bs) (x:AcL):KD→Bs:= if Wc x=0∨Wc x=1∨Wc x=2∨Wc x=7∨Wc x=8 then P else if Wc x=5∨Wc x=11 then Fb P x.ob x.first x.n x.to x.at_ else if Wc x=6 then IZ P x.ob else LK P x.ob x.at_ (b8 x.bb)
def Yn (W:WS) (x:AcL):WS:= if Wc x=0∨Wc x=1∨Wc x=2∨Wc x=7∨Wc x=8 then W else if Wc x=5∨Wc x=11 then KH W x.ob x.first x.n x.to x.at_ else if Wc x=6 then Vj W x.ob else Wh W x.ob x.at_ (b8 x.bb)
section
variable {b:KD→Bs} {t:TrA} {W:WS} {P:KD→Bs} {x:AcL} {q d:Nat}
theorem WU (h:Wc x=0∨Wc x=1∨Wc x=2∨Wc x=7∨Wc x=8):WM b t x=rdU b t x.ob x.at_∧Vv P x=P∧Yn W x=W:= by unfold WM Vv Yn; rw[if_pos h,if_pos h,if_pos h]; exact⟨rfl,rfl,rfl⟩
theorem Ym (h:Wc x=5∨Wc x=11):WM b t x=HD b t x.ob x.first x.n x.to x.at_∧Vv P x=Fb P x.ob x.first x.n x.to x.at_∧Yn W x=KH W x.ob x.first x.n x.to x.at_:= by
  have h1: ¬(Wc x=0∨Wc x=1∨Wc x=2∨Wc x=7∨Wc x=8):= by omega
  unfold WM Vv Yn; rw[if_neg h1,if_neg h1,if_neg h1,if_pos h,if_pos h,if_pos h]; exact⟨rfl,rfl,rfl⟩
theorem YM (h:Wc x=6):WM b t x=Rh t x.ob∧Vv P x=IZ P x.ob∧Yn W x=Vj W x.ob:= by
  have h1: ¬(Wc x=0∨Wc x=1∨Wc x=2∨Wc x=7∨Wc x=8):= by omega
  have h2: ¬(Wc x=5∨Wc x=11):= by omega
  unfold WM Vv Yn; rw[if_neg h1,if_neg h1,if_neg h1,if_neg h2,if_neg h2,if_neg h2,if_pos h,if_pos h,if_pos h]; exact⟨rfl,rfl,rfl⟩
theorem YL (h1: ¬(Wc x=0∨Wc x=1∨Wc x=2∨Wc x=7∨Wc x=8)) (h2: ¬(Wc x=5∨Wc x=11)) (h3: ¬Wc x=6):WM b t x=wrU b t x.ob x.at_ (b8 x.bb)∧Vv P x=LK P x.ob x.at_ (b8 x.bb)∧Yn W x=Wh W x.ob x.at_ (b8 x.bb):= by
  unfold WM Vv Yn; rw[if_neg h1,if_neg h1,if_neg h1,if_neg h2,if_neg h2,if_neg h2,if_neg h3,if_neg h3,if_neg h3]; exact⟨rfl,rfl,rfl⟩
theorem Vu (x:AcL):(Wc x=0∨Wc x=1∨Wc x=2∨Wc x=7∨Wc x=8)∨(Wc x=5∨Wc x=11)∨Wc x=6∨(¬(Wc x=0∨Wc x=1∨Wc x=2∨Wc x=7∨Wc x=8)∧ ¬(Wc x=5∨Wc x=11)∧ ¬Wc x=6):= by omega
theorem VisT.step (h:VisT b t W) (hI:PagesOk W.objs):VisT b (WM b t x) (Yn W x):= by
  rcases Vu x with e | e | e | ⟨e1,e2,e3⟩
  · rw[(WU (b:=b) (t:=t) (P:=b) (W:=W) e).1,(WU (b:=b) (t:=t) (P:=b) (W:=W) e).2.2]; exact h.rdU
  · rw[(Ym (b:=b) (t:=t) (P:=b) (W:=W) e).1,(Ym (b:=b) (t:=t) (P:=b) (W:=W) e).2.2]; exact h.copy hI
  · rw[(YM (b:=b) (t:=t) (P:=b) (W:=W) e).1,(YM (b:=b) (t:=t) (P:=b) (W:=W) e).2.2]; exact h.drp
  · rw[(YL (b:=b) (t:=t) (P:=b) (W:=W) e1 e2 e3).1,(YL (b:=b) (t:=t) (P:=b) (W:=W) e1 e2 e3).2.2]; exact h.wrU
theorem VisP.step (h:VisP P W) (hI:PagesOk W.objs):VisP (Vv P x) (Yn W x):= by
  rcases Vu x with e | e | e | ⟨e1,e2,e3⟩
  · rw[(WU (b:=P) (t:=⟨0, fun _=>none, fun _=>false⟩) (P:=P) (W:=W) e).2.1,(WU (b:=P) (t:=⟨0, fun _=>none, fun _=>false⟩) (P:=P) (W:=W) e).2.2]; exact h
  · rw[(Ym (b:=P) (t:=⟨0, fun _=>none, fun _=>false⟩) (P:=P) (W:=W) e).2.1,(Ym (b:=P) (t:=⟨0, fun _=>none, fun _=>false⟩) (P:=P) (W:=W) e).2.2]; exact h.copy hI
  · rw[(YM (b:=P) (t:=⟨0, fun _=>none, fun _=>false⟩) (P:=P) (W:=W) e).2.1,(YM (b:=P) (t:=⟨0, fun _=>none, fun _=>false⟩) (P:=P) (W:=W) e).2.2]; exact h.drp
  · rw[(YL (b:=P) (t:=⟨0, fun _=>none, fun _=>false⟩) (P:=P) (W:=W) e1 e2 e3).2.1,(YL (b:=P) (t:=⟨0, fun _=>none, fun _=>false⟩) (P:=P) (W:=W) e1 e2 e3).2.2]; exact h.wrU
theorem TrK.step (h:TrK b t q d):TrK b (WM b t x) (q+1) (d+1):= by
  rcases Vu x with e | e | e | ⟨e1,e2,e3⟩
  · rw[(WU (b:=b) (t:=t) (P:=b) (W:=emptyW) e).1]; exact h.rdU.up (by omega) (by omega)
  · rw[(Ym (b:=b) (t:=t) (P:=b) (W:=emptyW) e).1]; exact h.copy.up (by omega) (by omega)
  · rw[(YM (b:=b) (t:=t) (P:=b) (W:=emptyW) e).1]; exact h.drp.up (by omega) (by omega)
  · rw[(YL (b:=b) (t:=t) (P:=b) (W:=emptyW) e1 e2 e3).1]; exact h.wrU.up (by omega) (by omega)
theorem Ob:(WM b t x).parent=t.parent:= by
  rcases Vu x with e | e | e | ⟨e1,e2,e3⟩
  · rw[(WU (b:=b) (t:=t) (P:=b) (W:=emptyW) e).1]; exact rdU_par
  · rw[(Ym (b:=b) (t:=t) (P:=b) (W:=emptyW) e).1]; exact Fd
  · rw[(YM (b:=b) (t:=t) (P:=b) (W:=emptyW) e).1];rfl
  · rw[(YL (b:=b) (t:=t) (P:=b) (W:=emptyW) e1 e2 e3).1]; exact wrU_par
end
end Go.Proofs.YtkcjfoaejijdoaaGreatDoor
