/- leaves: touch, place -/
import Derived.Test.YtkcjfoaejijdoaaGreatDoorLv1
set_option linter.unusedVariables false
set_option maxRecDepth 100000
set_option maxHeartbeats 80000000000
namespace Go.Proofs.YtkcjfoaejijdoaaGreatDoor
open Go.RowKit M
set_option linter.unusedSectionVars false
variable [Inhabited SlW]
noncomputable def Zs (L:LvD) (id:Int) (t:TrD) (k:KD) (x:LfD):LvD:={L with tr:=Xz L.tr id (some {t with lv:=Xz t.lv k (some x)})}
theorem Yu {w:World} {b:Nat} {L:LvD} {id:Int} {t:TrD} {k:KD} {x:LfD} {As:List Th} (ht:L.tr id=some t) (hx:t.lv k=some x) (h:Sat w (ZY b L::As)):
    Sat w (QF x.ad [intV x.base,intV x.own,Zu x.rd,Zu x.wr]::Z0 RK (Xz t.lv k none)::QF t.ad [intV t.parent,.map (some t.ml),.map (some t.md)]::Q3 Xy t.ml (Zj LfD.ad t.lv)::Q3 Xp t.md (Jg t.dr)::Z0 K7 (Xz L.tr id none)::QF b [ptrV L.sp 0,.map (some L.mp),.map (some L.mt),intV L.cur,.map (some L.ms)]::Q3 Xy L.mp (Zt L.pres)::Q3 Xf L.mt (Zj TrD.ad L.tr)::Q3 Xf L.ms (Jg L.sh)::As):= by
  have h1:=ZE (i:=id) (t:=t) ((XX h).perm ((List.Perm.cons _ (List.Perm.cons _ (List.Perm.swap _ _ _))).trans ((List.Perm.cons _ (List.Perm.swap _ _ _)).trans (List.Perm.swap _ _ _)))) ht
  have h2:=H9 (k:=k) (x:=x) (h1.perm ((List.Perm.cons _ (List.Perm.swap _ _ _)).trans (List.Perm.swap _ _ _))) hx
  exact h2
theorem Jb {w:World} {b:Nat} {L:LvD} {id:Int} {t:TrD} {k:KD} {x y:LfD} {As:List Th} (ht:L.tr id=some t) (hx:t.lv k=some x) (hy:y.ad=x.ad)
    (h:Sat w (QF y.ad [intV y.base,intV y.own,Zu y.rd,Zu y.wr]::Z0 RK (Xz t.lv k none)::QF t.ad [intV t.parent,.map (some t.ml),.map (some t.md)]::Q3 Xy t.ml (Zj LfD.ad t.lv)::Q3 Xp t.md (Jg t.dr)::Z0 K7 (Xz L.tr id none)::QF b [ptrV L.sp 0,.map (some L.mp),.map (some L.mt),intV L.cur,.map (some L.ms)]::Q3 Xy L.mp (Zt L.pres)::Q3 Xf L.mt (Zj TrD.ad L.tr)::Q3 Xf L.ms (Jg L.sh)::As)):Sat w (ZY b (Zs L id t k y)::As):= by
  have h1:=Is (x:=y) h
  rw[←Uu hx hy]at h1
  have h2:=Rx (t:={t with lv:=Xz t.lv k (some y)}) (i:=id) (T:=L.tr) (h1.perm ((List.Perm.swap _ _ _).trans (List.Perm.cons _ (List.Perm.swap _ _ _))))
  rw[←Uu (ad:=TrD.ad) (f:=L.tr) (k:=id) (x:=t) (y:={t with lv:=Xz t.lv k (some y)}) ht rfl]at h2
  exact Xd (L:=Zs L id t k y) (h2.perm ((List.Perm.swap _ _ _).trans ((List.Perm.cons _ (List.Perm.swap _ _ _)).trans (List.Perm.cons _ (List.Perm.cons _ (List.Perm.swap _ _ _))))))
theorem DP {L:LvD} {id:Int} {t:TrD} {k:KD} {x:LfD}:(Zs L id t k x).tr id=some {t with lv:=Xz t.lv k (some x)}:=Q1
theorem GZ {T T':Int→Option TrD} (h: ∀i,(T' i).map TrD.parent=(T i).map TrD.parent): ∀n i,Y3 T n i→Y3 T' n i
  | 0,_,q=>q
  | n+1,i,q=> by
    rcases q with q | q
    · exact .inl q
    · refine .inr ?_
      have h1:=h i
      cases a:T i with
      | none=> rw[a]at h1; cases c:T' i with
        | none=>trivial
        | some y=> rw[c]at h1; cases h1
      | some x=>
        rw[a]at h1 q
        cases c:T' i with
        | none=>trivial
        | some y=>
          rw[c]at h1
          have e:y.parent=x.parent:= by simpa using h1
          show Y3 T' n y.parent
          rw[e]; exact GZ h n _ q
theorem WZ {T:Int→Option TrD} {i:Int} {t t':TrD} (ht:T i=some t) (hp:t'.parent=t.parent): ∀j,((Xz T i (some t')) j).map TrD.parent=(T j).map TrD.parent:= fun j=> by
  by_cases e:j=i
  · subst e; rw[Q1,ht]; simp [hp]
  · rw[QI e]
theorem S8 {L:LvD} {id:Int} {t:TrD} {k:KD} {x:LfD} (ht:L.tr id=some t) (hE: ∀i,Y3 L.tr Zp i): ∀i,Y3 (Zs L id t k x).tr Zp i:= fun i=>GZ (WZ (t':={t with lv:=Xz t.lv k (some x)}) ht rfl) _ _ (hE i)
def Hh (t:TrD) (k:KD) (s:Int) (a:Nat):LfD:=⟨a,s,s,0#64, if t.dr k.1=true then BitVec.allOnes 64 else 0#64⟩
def TouR (L:LvD) (V:VS) (id:Int) (t:TrD) (k:KD) (L':LvD) (V':VS) (t':TrD) (x':LfD):Prop:=
  (t.lv k=some x'∧L'=L∧V'=V∧t'=t)∨(t.lv k=none∧ ∃a,x'=Hh t k (Xc L id k) a∧t'={t with lv:=Xz t.lv k (some x')}∧L'={L with tr:=Xz L.tr id (some t'),sh:=Y2 (Y2 L.sh (Xc L id k)) (Xc L id k)}∧V'=refW (refW V (Xc L id k)) (Xc L id k))
section
variable {L L':LvD} {V V':VS} {id:Int} {t t':TrD} {k:KD} {x':LfD}
theorem TouR.tr (h:TouR L V id t k L' V' t' x') (ht:L.tr id=some t):L'.tr id=some t':= by
  rcases h with⟨_,rfl,_,rfl⟩ | ⟨_,a,_,_,rfl,_⟩
  · exact ht
  · exact Q1
theorem TouR.lv (h:TouR L V id t k L' V' t' x'):t'.lv k=some x':= by
  rcases h with⟨h,rfl,_,rfl⟩ | ⟨_,a,_,rfl,_,_⟩
  · exact h
  · exact Q1
theorem TouR.sp (h:TouR L V id t k L' V' t' x'):L'.sp=L.sp:= by
  rcases h with⟨_,rfl,_,_⟩ | ⟨_,a,_,_,rfl,_⟩<;>rfl
theorem TouR.ends (h:TouR L V id t k L' V' t' x') (ht:L.tr id=some t) (hE: ∀i,Y3 L.tr Zp i): ∀i,Y3 L'.tr Zp i:= by
  rcases h with⟨_,rfl,_,_⟩ | ⟨_,a,_,rfl,rfl,_⟩
  · exact hE
  · exact fun i=>GZ (WZ (t':={t with lv:=Xz t.lv k (some x')}) ht rfl) _ _ (hE i)
theorem TouR.sees (h:TouR L V id t k L' V' t' x') (ht:L.tr id=some t) (h0:id≠0):Xc L' id k=x'.own:=Uq h0 (h.tr ht) h.lv
end
def V6 (ob:Bs) (a:Int):Value:= if 0≤a∧a<16384 then .tuple #[Xy (ob,a/ 64),Zu (1#64<<<(a%64).toNat),.bool true]else .tuple #[Xy ([],0),Zu 0#64,.bool false]
def OwnP (L:LvD) (V:VS) (k:KD) (Fr:Nat) (L':LvD) (V':VS) (s e:Int):Prop:=
  (e=0∧s=L.pres k∧s≠0∧Zz V s=1∧L'=L∧V'=V)∨(e=6∧s=0∧Ho V Fr∧L'=L∧V'=V)∨
  (e=0∧1≤s∧V s=none∧ ¬(L.pres k≠0∧Zz V (L.pres k)=1)∧V'=Z2 (Xz V s (some (1,XT V (L.pres k)))) (L.pres k)∧L'={L with pres:=Zy L.pres k s,sh:=Y1 (Xz V s (some (1,XT V (L.pres k)))) L.sh (L.pres k)})
def OwnT (L:LvD) (V:VS) (id:Int) (t:TrD) (k:KD) (x:LfD) (Fr:Nat) (L':LvD) (V':VS) (s e:Int):Prop:=
  (e=0∧s=x.own∧s≠0∧Zz V s=1∧L'=L∧V'=V)∨(e=6∧s=0∧Ho V Fr∧L'=L∧V'=V)∨
  (e=0∧1≤s∧V s=none∧ ¬(x.own≠0∧Zz V x.own=1)∧V'=Z2 (Xz V s (some (1,XT V x.own))) x.own∧L'=Zs {L with sh:=Y1 (Xz V s (some (1,XT V x.own))) L.sh x.own} id t k {x with own:=s})
theorem TD {κ α:Type} {ad:α→Nat} {f:κ→Option α} {k:κ} {x:α} {a:Nat} (h:ad x=a):upd (Zj ad f) k (some (ptrV a 0))=Zj ad (Xz f k (some x)):= by subst h; exact Pg
theorem AF {w:World} {X:LfD} {a:Nat} {b1 o1:Int} {r1 w1:BitVec 64} {As:List Th} (hX:X=⟨a,b1,o1,r1,w1⟩) (h:Sat w (QF a [intV b1,intV o1,Zu r1,Zu w1]::As)):Sat w (QF X.ad [intV X.base,intV X.own,Zu X.rd,Zu X.wr]::As):= by subst hX; exact h
theorem XM {w:World} {kb:Nat} {k:KD} {As:List Th} (h:Sat w (QF kb (Xy k).cells.toList::As)):Sat w (QF kb [strV k.1,intV k.2]::As):=h
theorem touch_y {w:World} {b n Fr:Nat} {L:LvD} {V:VS} {F:Th} (hS:Sat w [ZY b L,Zq L.sp n Fr V,F]) (hn:n≤60000000000) (hE: ∀i,Y3 L.tr Zp i) {id:Int} {t:TrD} (ht:L.tr id=some t) {k:KD} {x:LfD} (hx:t.lv k=some x):
    Calls Tryz.prog 46 #[ptrV b 0,intV id,Xy k] w (Ret fun v w'=>v=ptrV x.ad 0∧Sat w' [ZY b L,Zq L.sp n Fr V,F]):= by
 replace hS:=XX hS
 refine Qq Tryz.func46 rfl Tryz.ntmps46 rfl ?_
 refine Qd (Qa (XU hS rfl rfl rfl ?_))
 intro kb w1 hS1
 replace hS1:=XM hS1
 refine Qe rfl rfl (Qf (Qc (Qd (Qa (Qb rfl rfl (Qk rfl rfl (Qg rfl Wu rfl (Qo rfl Y4 (hS1.cell 1 rfl rfl) rfl (Qb rfl rfl (X2 (k:=id) 3 hS1 keysInt Tryz.underlying82 rfl rfl rfl Hv (u:=(ptrV t.ad 0)) (Zg ht) rfl (Qe rfl rfl (Qf (Qc (Qi [1,0,5,6,7] rfl (Qd (Qd ?_))))))))))))))))
 have hS2:=ZE (hS1.pick [4,0,1,2,3,5,6,7] rfl) ht
 have hS3:=hS2.drew
 refine QJ [0,1,2,3,4,5,6] [] Wp (by kernel_rfl) ?_
 refine QE rfl rfl rfl (Xl rfl rfl rfl (QT rfl rfl rfl Wd (Q9 rfl rfl rfl (Qm rfl JH (hS3.cell 0 rfl rfl)) (Q9 rfl rfl rfl (XE rfl X9 Xh (hS3.blk 5 rfl) (Xn rfl) rfl) (Q9 rfl rfl rfl (Xx (k:=k) 1 hS3 keysKey Tryz.underlying90 rfl rfl rfl HI (u:=(ptrV x.ad 0)) (Zg hx)) (XN rfl rfl rfl (VC.nil (Qc (Qi [1,0,5,6,7,8] rfl (Qd (Qa (Qb rfl rfl (Uj Tryz.underlying89 rfl rfl rfl (Qf (Qc (Xr rfl (Qd (Qa (Qb rfl rfl (Qe rfl rfl (Qf (Qc (Qu (Qn (QQ (.inr rfl) rfl rfl ?_)))))))))))))))))))))))))
 have hS4:=Zm ht (hS3.pick [0,1,2,3,4,5,6,7,8,9,10,11] rfl)
 exact⟨_,rfl,rfl,Xd (hS4.pick [2,3,4,0,5,6,7] rfl)⟩
theorem touch_n {w:World} {b n Fr:Nat} {L:LvD} {V:VS} {F:Th} (hS:Sat w [ZY b L,Zq L.sp n Fr V,F]) (hn:n≤60000000000) (hE: ∀i,Y3 L.tr Zp i) {id:Int} {t:TrD} (ht:L.tr id=some t) {k:KD} (hx:t.lv k=none):
    Calls Tryz.prog 46 #[ptrV b 0,intV id,Xy k] w (Ret fun v w'=> ∃a,v=ptrV a 0∧Sat w' [ZY b {L with tr:=Xz L.tr id (some {t with lv:=Xz t.lv k (some (Hh t k (Xc L id k) a))}),sh:=Y2 (Y2 L.sh (Xc L id k)) (Xc L id k)},Zq L.sp (n+2) Fr (refW (refW V (Xc L id k)) (Xc L id k)),F]):= by
 replace hS:=XX hS
 refine Qq Tryz.func46 rfl Tryz.ntmps46 rfl ?_
 refine Qd (Qa (XU hS rfl rfl rfl ?_))
 intro kb w1 hS1
 replace hS1:=XM hS1
 refine Qe rfl rfl (Qf (Qc (Qd (Qa (Qb rfl rfl (Qk rfl rfl (Qg rfl Wu rfl (Qo rfl Y4 (hS1.cell 1 rfl rfl) rfl (Qb rfl rfl (X2 (k:=id) 3 hS1 keysInt Tryz.underlying82 rfl rfl rfl Hv (u:=(ptrV t.ad 0)) (Zg ht) rfl (Qe rfl rfl (Qf (Qc (Qi [1,0,5,6,7] rfl (Qd (Qd ?_))))))))))))))))
 have hS2:=ZE (hS1.pick [4,0,1,2,3,5,6,7] rfl) ht
 have hS3:=hS2.drew
 refine QJ [0,1,2,3,4,5,6] [] Wp (by kernel_rfl) ?_
 refine QE rfl rfl rfl (Xl rfl rfl rfl (QT rfl rfl rfl Wd (Q9 rfl rfl rfl (Qm rfl JH (hS3.cell 0 rfl rfl)) (Q9 rfl rfl rfl (XE rfl X9 Xh (hS3.blk 5 rfl) (Xn rfl) rfl) (Q9 rfl rfl rfl (Xx (k:=k) 1 hS3 keysKey Tryz.underlying90 rfl rfl rfl HI (u:=(.pointer none)) (TE hx)) (XN rfl rfl rfl (VC.nil (Qc (Qi [1,0,5,6,7,8] rfl (Qd (Qa (Qb rfl rfl (Yi Tryz.underlying89 rfl rfl rfl (Qf (Qc (QV rfl (Qr (Qc (Qd ?_)))))))))))))))))))
 have hS4:=Zm ht (hS3.pick [0,1,2,3,4,5,6,7,8,9,10,11] rfl)
 have hS5:=Xd (L:=L) (hS4.pick [2,3,4,0,5,1,6,7] rfl)
 refine Qa (Qb rfl rfl (Qb rfl rfl ?_))
 refine XA rfl X9 Xh (by first | exact hS5.blk 1 rfl) (by first | decide | exact Xn rfl | (simp;done) | omega) rfl rfl ?_
 refine Qv YE rfl (Yo (hS5.sp [0] rfl) hE id k) rfl ?_
 rintro _ w6 ⟨rfl,hS6⟩
 replace hS6:=hS6.jn rfl rfl
 clear hS5
 refine Qe rfl rfl (Qf (Qc (Qi [0,5,6,7,9] rfl (Qd (Qa (Qb rfl rfl (Qb rfl rfl (Ts (vs':=[intV (Xc L id k),intV (Xc L id k),.int .u64 0,.int .u64 0]) rfl E7 asz_88 zr_88 rfl rfl rfl (XU hS6 rfl rfl rfl ?_)))))))))
 intro xa w8 hS8
 clear hS6
 refine Qe rfl rfl (Qf (Qc (Qd ?_)))
 have hS9:=XX (hS8.pick [1,0,2,3,4] rfl)
 refine Qa (Qb rfl rfl (Qb rfl rfl (Qv MI rfl (Pd (hS9.sp [0,4,7] rfl) (by omega) (Xc L id k)) rfl ?_)))
 rintro _ w10 ⟨rfl,hS10⟩
 replace hS10:=hS10.jn rfl rfl
 clear hS9
 refine Qf (Qc (Qi [0,5,6,7,9,10] rfl (Qd (Qa (Qb rfl rfl (Qb rfl rfl (Qv MI rfl (Pd (hS10.sp [0,1,2] rfl) (by omega) (Xc L id k)) rfl ?_)))))))
 rintro _ w11 ⟨rfl,hS11⟩
 replace hS11:=hS11.jn rfl rfl
 clear hS10
 refine Qf (Qc (Qd (Qd ?_)))
 have hS12:=ZE (hS11.pick [5,0,1,2,3,4,6,7,8] rfl) ht
 have hS13:=hS12.drew
 refine QJ [0,1,2,3,4,5,6] [] Wp (by kernel_rfl) ?_
 refine QE rfl rfl rfl (Xl rfl rfl rfl (QT rfl rfl rfl RS (Q9 rfl rfl rfl (Qm rfl Ck (hS13.cell 0 rfl rfl)) (QT rfl rfl rfl Yx (Q9 rfl rfl rfl (Qm rfl ZC (hS13.cell 11 rfl rfl)) (Q9 rfl rfl rfl (Xx (k:=k.1) 3 hS13 keysStr Tryz.underlying91 rfl rfl rfl zr_4 (u:= .bool (t.dr k.1)) (Ns _ _)) (VC.nil (Qc (Qi [5,6,7,10,46] rfl (QM rfl (fun h14=> ?_) (fun h14=> ?_)))))))))))
 ·have hdr:t.dr k.1=true:=h14
  refine Qa (Qb rfl rfl (Qk rfl rfl (Qg rfl W8 rfl (QL hS13 rfl rfl Br rfl (i:=10) rfl (Xn rfl) ?_))))
  intro w15 hS15; dsimp only[List.set]at hS15
  clear hS13
  refine Qf (Qc (Qd ?_))
  have hS16:=hS15.drew
  refine QJ [0,1,2,3,4,5,6] [6] Wp (by kernel_rfl) ?_
  refine QE rfl rfl rfl (Xl rfl rfl rfl (QT rfl rfl rfl Wd (Q9 rfl rfl rfl (Qm rfl JH (hS16.cell 0 rfl rfl)) (Q9 rfl rfl rfl (XE rfl X9 Xh (hS16.blk 11 rfl) (Xn rfl) rfl) (QE rfl rfl rfl (Xj rfl rfl rfl rfl rfl rfl ?_))))))
  refine Xk (k:=k) (v:=ptrV xa 0) 1 hS16 keysKey Tryz.underlying90 rfl rfl rfl rfl ?_
  intro w17 hS17; dsimp only[List.set]at hS17
  clear hS16
  refine Zx (Xq (by kernel_rfl)) ?_
  refine VC.nil (Qc (Qi [6,10] rfl (Qd (Qa (Qb rfl rfl (Qe rfl rfl (Qf (Qc (Qu (QQ (.inr rfl) rfl rfl ?_))))))))))
  have hX:(Hh t k (Xc L id k) xa)=⟨xa,Xc L id k,Xc L id k,0#64,BitVec.allOnes 64⟩:= by unfold Hh; rw[if_pos hdr]
  have hA:=AF hX (hS17.pick [10,2,0,1,3,4,5,8,9,6,7,12] rfl)
  have hB:=FZ hx hA
  have hB2:=hB.perm ((List.Perm.swap _ _ _).trans (List.Perm.cons _ (List.Perm.swap _ _ _)))
  rw[TD (ad:=LfD.ad) (x:=(Hh t k (Xc L id k) xa)) (a:=xa) rfl]at hB2
  have hC:=Rx (t:=({t with lv:=Xz t.lv k (some (Hh t k (Xc L id k) xa))}:TrD)) (i:=id) (T:=L.tr) hB2
  rw[←Uu (ad:=TrD.ad) (f:=L.tr) (k:=id) (x:=t) (y:=({t with lv:=Xz t.lv k (some (Hh t k (Xc L id k) xa))}:TrD)) ht rfl]at hC
  exact⟨_,rfl,xa,rfl,Xd (L:={L with tr:=Xz L.tr id (some ({t with lv:=Xz t.lv k (some (Hh t k (Xc L id k) xa))}:TrD)),sh:=Y2 (Y2 L.sh (Xc L id k)) (Xc L id k)}) (hC.reorder [1,2,3,0,4,5,6] rfl)⟩
 have hdr:t.dr k.1=false:=h14
 refine Qr (Qc (Qd ?_))
 have hS18:=hS13.drew
 refine QJ [0,1,2,3,4,5,6] [6] Wp (by kernel_rfl) ?_
 refine QE rfl rfl rfl (Xl rfl rfl rfl (QT rfl rfl rfl Wd (Q9 rfl rfl rfl (Qm rfl JH (hS18.cell 0 rfl rfl)) (Q9 rfl rfl rfl (XE rfl X9 Xh (hS18.blk 11 rfl) (Xn rfl) rfl) (QE rfl rfl rfl (Xj rfl rfl rfl rfl rfl rfl ?_))))))
 refine Xk (k:=k) (v:=ptrV xa 0) 1 hS18 keysKey Tryz.underlying90 rfl rfl rfl rfl ?_
 intro w19 hS19; dsimp only[List.set]at hS19
 clear hS18
 refine Zx (Xq (by kernel_rfl)) ?_
 refine VC.nil (Qc (Qi [6,10] rfl (Qd (Qa (Qb rfl rfl (Qe rfl rfl (Qf (Qc (Qu (QQ (.inr rfl) rfl rfl ?_))))))))))
 have hX:(Hh t k (Xc L id k) xa)=⟨xa,Xc L id k,Xc L id k,0#64,0#64⟩:= by unfold Hh; rw[if_neg (by rw[hdr];decide)]
 have hA:=AF hX (hS19.pick [10,2,0,1,3,4,5,8,9,6,7,12] rfl)
 have hB:=FZ hx hA
 have hB2:=hB.perm ((List.Perm.swap _ _ _).trans (List.Perm.cons _ (List.Perm.swap _ _ _)))
 rw[TD (ad:=LfD.ad) (x:=(Hh t k (Xc L id k) xa)) (a:=xa) rfl]at hB2
 have hC:=Rx (t:=({t with lv:=Xz t.lv k (some (Hh t k (Xc L id k) xa))}:TrD)) (i:=id) (T:=L.tr) hB2
 rw[←Uu (ad:=TrD.ad) (f:=L.tr) (k:=id) (x:=t) (y:=({t with lv:=Xz t.lv k (some (Hh t k (Xc L id k) xa))}:TrD)) ht rfl]at hC
 exact⟨_,rfl,xa,rfl,Xd (L:={L with tr:=Xz L.tr id (some ({t with lv:=Xz t.lv k (some (Hh t k (Xc L id k) xa))}:TrD)),sh:=Y2 (Y2 L.sh (Xc L id k)) (Xc L id k)}) (hC.reorder [1,2,3,0,4,5,6] rfl)⟩
theorem Uo {w:World} {b n Fr:Nat} {L:LvD} {V:VS} {F:Th} (hS:Sat w [ZY b L,Zq L.sp n Fr V,F]) (hn:n≤60000000000) (hE: ∀i,Y3 L.tr Zp i) {id:Int} {t:TrD} (ht:L.tr id=some t) {k:KD}:
    Calls Tryz.prog 46 #[ptrV b 0,intV id,Xy k] w (Ret fun v w'=> ∃L' V' t' x',v=ptrV x'.ad 0∧TouR L V id t k L' V' t' x'∧Sat w' [ZY b L',Zq L'.sp (n+2) Fr V',F]):= by
  cases hx:t.lv k with
  | some x=>
    refine(touch_y hS hn hE ht hx).mono fun e w h=>h.mono fun v w h=> ?_
    exact⟨L,V,t,x,h.1,.inl ⟨hx,rfl,rfl,rfl⟩,(X1 (by omega) (h.2.reorder [1,0,2] rfl)).reorder [1,0,2] rfl⟩
  | none=>
    refine(touch_n hS hn hE ht hx).mono fun e w h=>h.mono fun v w h=> ?_
    obtain⟨a,h1,h2⟩:=h
    exact⟨_,_,_,Hh t k (Xc L id k) a,h1,.inr ⟨hx,a,rfl,rfl,rfl,rfl⟩,h2⟩
theorem Uv {w:World} {F:Th} (hS:Sat w [F]) (ob:Bs) (a:Int):
    Calls Tryz.prog 42 #[strV ob,intV a] w (Ret fun v w'=>v=V6 ob a∧Sat w' [F]):= by
 refine Qq Tryz.func42 rfl Tryz.ntmps42 rfl ?_
 refine Qd (Qa (Xg hS ZM rfl rfl ?_))
 intro b1 w1 hS1
 refine Qe rfl rfl (Qe rfl rfl (Qf (Qc (Qd (Qd (Qa (Qb rfl rfl (Xb rfl rfl rfl (Qb rfl rfl (QN 9 rfl (fun h2=> ?_) (fun h2=> ?_)))))))))))
 ·refine Qh rfl rfl (QW h2) rfl (Qh rfl rfl (QW h2) rfl (QC rfl (QW h2) rfl rfl (Qf (Qc (Qi [1,0,4,5,6,12] rfl (Xr rfl (Qd (Qa (Zl rfl OE Uh ZM rfl rfl ?_)))))))))
  first | (refine QY hS1 rfl rfl Xh rfl (by rfl) (i:=0) rfl (by decide) ?_)
  intro w3 hS4; dsimp only[List.set]at hS4
  clear hS1
  refine Qe rfl rfl (Qe rfl rfl (Qf (Qc (Qu (Qn ?_)))))
  refine IG (.inr rfl) rfl (O5 rfl X9 Xh (by first | exact hS4.blk 0 rfl) (by first | decide | exact Xn rfl | (simp;done) | omega) rfl) (R4 rfl) (R4 rfl) ?_
  exact⟨_,rfl, by unfold V6; rw[if_neg (by omega)];rfl,hS4.pick [1] rfl⟩
 refine Qj rfl rfl (Q0 h2) (Qb rfl rfl (Qj rfl rfl (Q0 h2) (JJ rfl rfl rfl (QG rfl (Q0 h2) rfl rfl (Qf (Qc (Qi [1,0,4,5,6,12] rfl (Qs rfl (fun h5=> ?_) (fun h5=> ?_)))))))))
 ·refine Qd (Qa (Zl rfl OE Uh ZM rfl rfl ?_))
  first | (refine QY hS1 rfl rfl Xh rfl (by rfl) (i:=0) rfl (by decide) ?_)
  intro w6 hS7; dsimp only[List.set]at hS7
  clear hS1
  refine Qe rfl rfl (Qe rfl rfl (Qf (Qc (Qu (Qn ?_)))))
  refine IG (.inr rfl) rfl (O5 rfl X9 Xh (by first | exact hS7.blk 0 rfl) (by first | decide | exact Xn rfl | (simp;done) | omega) rfl) (R4 rfl) (R4 rfl) ?_
  exact⟨_,rfl, by unfold V6; rw[if_neg (by omega)];rfl,hS7.pick [1] rfl⟩
 obtain⟨m,rfl⟩: ∃m:Nat,a=(m:Int):=⟨a.toNat, by omega⟩
 refine Qr (Qc (Qd ?_))
 have hS8:=hS1.drew
 refine QJ [0,1,2,3,4,5,6,7,8,9] [7] Wp (by kernel_rfl) ?_
 refine QE rfl rfl rfl (QE rfl rfl rfl (QU rfl rfl rfl (fun _=>(IK rfl rfl (by omega) (by omega) (by omega))) ?_))
 refine QU rfl rfl rfl (fun _=>(Wq rfl Yf Uh ZM rfl)) ?_
 refine QE rfl rfl rfl (QU rfl rfl rfl (fun _=>(M5 rfl rfl (by omega) (by omega))) ?_)
 refine QU rfl rfl rfl (fun _=>(IQ (m%64) rfl rfl (by omega))) ?_
 refine Xj rfl rfl rfl rfl rfl rfl ?_
 first | (refine QY hS8 rfl rfl Xh rfl (by rfl) (i:=0) rfl (by decide) ?_)
 intro w9 hS10; dsimp only[List.set]at hS10
 clear hS8
 refine Zx .nil (XN rfl rfl rfl (XN rfl rfl rfl (VC.nil (Qc (Qi [4,5,6] rfl (Qu (IG (.inr rfl) rfl (O5 rfl X9 Xh (by first | exact hS10.blk 0 rfl) (Xn rfl) rfl) (R4 rfl) (R4 rfl) ?_)))))))
 exact⟨_,rfl, by unfold V6; rw[if_pos (by omega)];rfl,hS10.pick [1] rfl⟩
end Go.Proofs.YtkcjfoaejijdoaaGreatDoor
