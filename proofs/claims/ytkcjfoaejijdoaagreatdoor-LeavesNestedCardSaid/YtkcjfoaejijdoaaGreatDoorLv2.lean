/- leaves: touch, place -/
import Derived.Test.YtkcjfoaejijdoaaGreatDoorLv1
set_option linter.unusedVariables false
set_option maxRecDepth 100000
set_option maxHeartbeats 80000000000
namespace Go.Proofs.YtkcjfoaejijdoaaGreatDoor
open Go.RowKit M
set_option linter.unusedSectionVars false
variable [Inhabited SlW]
noncomputable def Zv (L:LvD) (id:Int) (t:TrD) (k:KD) (x:LfD):LvD:={L with tr:=X1 L.tr id (some {t with lv:=X1 t.lv k (some x)})}
theorem Yw {w:World} {b:Nat} {L:LvD} {id:Int} {t:TrD} {k:KD} {x:LfD} {As:List Th} (ht:L.tr id=some t) (hx:t.lv k=some x) (h:Sat w (ZN b L::As)):
    Sat w (QG x.ad [intV x.base,intV x.own,Zy x.rd,Zy x.wr]::Z3 RK (X1 t.lv k none)::QG t.ad [intV t.parent,.map (some t.ml),.map (some t.md)]::Q0 Xy t.ml (XY LfD.ad t.lv)::Q0 Xq t.md (Jh t.dr)::Z3 K4 (X1 L.tr id none)::QG b [ptrV L.sp 0,.map (some L.mp),.map (some L.mt),intV L.cur,.map (some L.ms)]::Q0 Xy L.mp (Zt L.pres)::Q0 QX L.mt (XY TrD.ad L.tr)::Q0 QX L.ms (Jh L.sh)::As):= by
  have h1:=ZA (i:=id) (t:=t) ((XK h).perm ((List.Perm.cons _ (List.Perm.cons _ (List.Perm.swap _ _ _))).trans ((List.Perm.cons _ (List.Perm.swap _ _ _)).trans (List.Perm.swap _ _ _)))) ht
  have h2:=HN (k:=k) (x:=x) (h1.perm ((List.Perm.cons _ (List.Perm.swap _ _ _)).trans (List.Perm.swap _ _ _))) hx
  exact h2
theorem Jg {w:World} {b:Nat} {L:LvD} {id:Int} {t:TrD} {k:KD} {x y:LfD} {As:List Th} (ht:L.tr id=some t) (hx:t.lv k=some x) (hy:y.ad=x.ad)
    (h:Sat w (QG y.ad [intV y.base,intV y.own,Zy y.rd,Zy y.wr]::Z3 RK (X1 t.lv k none)::QG t.ad [intV t.parent,.map (some t.ml),.map (some t.md)]::Q0 Xy t.ml (XY LfD.ad t.lv)::Q0 Xq t.md (Jh t.dr)::Z3 K4 (X1 L.tr id none)::QG b [ptrV L.sp 0,.map (some L.mp),.map (some L.mt),intV L.cur,.map (some L.ms)]::Q0 Xy L.mp (Zt L.pres)::Q0 QX L.mt (XY TrD.ad L.tr)::Q0 QX L.ms (Jh L.sh)::As)):Sat w (ZN b (Zv L id t k y)::As):= by
  have h1:=Iy (x:=y) h
  rw[←Uw hx hy]at h1
  have h2:=R3 (t:={t with lv:=X1 t.lv k (some y)}) (i:=id) (T:=L.tr) (h1.perm ((List.Perm.swap _ _ _).trans (List.Perm.cons _ (List.Perm.swap _ _ _))))
  rw[←Uw (ad:=TrD.ad) (f:=L.tr) (k:=id) (x:=t) (y:={t with lv:=X1 t.lv k (some y)}) ht rfl]at h2
  exact QV (L:=Zv L id t k y) (h2.perm ((List.Perm.swap _ _ _).trans ((List.Perm.cons _ (List.Perm.swap _ _ _)).trans (List.Perm.cons _ (List.Perm.cons _ (List.Perm.swap _ _ _))))))
theorem DM {L:LvD} {id:Int} {t:TrD} {k:KD} {x:LfD}:(Zv L id t k x).tr id=some {t with lv:=X1 t.lv k (some x)}:=Qz
theorem GY {T T':Int→Option TrD} (h: ∀i,(T' i).map TrD.parent=(T i).map TrD.parent): ∀n i,Y5 T n i→Y5 T' n i
  | 0,_,q=>q
  | n+1,i,q=> by
    rcases q with q | q
    · exact .inl q
    · refine .inr ?_
      have h1:=h i
      cases a:T i with
      | none=> rw[a]at h1; cases c:T' i with
        | none=>trivial
        | some y=> rw[c]at h1; cases h1
      | some x=>
        rw[a]at h1 q
        cases c:T' i with
        | none=>trivial
        | some y=>
          rw[c]at h1
          have e:y.parent=x.parent:= by simpa using h1
          show Y5 T' n y.parent
          rw[e]; exact GY h n _ q
theorem Jf {T:Int→Option TrD} {i:Int} {t t':TrD} (ht:T i=some t) (hp:t'.parent=t.parent): ∀j,((X1 T i (some t')) j).map TrD.parent=(T j).map TrD.parent:= fun j=> by
  by_cases e:j=i
  · subst e; rw[Qz,ht]; simp [hp]
  · rw[QF e]
theorem SE {L:LvD} {id:Int} {t:TrD} {k:KD} {x:LfD} (ht:L.tr id=some t) (hE: ∀i,Y5 L.tr Zl i): ∀i,Y5 (Zv L id t k x).tr Zl i:= fun i=>GY (Jf (t':={t with lv:=X1 t.lv k (some x)}) ht rfl) _ _ (hE i)
def Hl (t:TrD) (k:KD) (s:Int) (a:Nat):LfD:=⟨a,s,s,0#64, if t.dr k.1=true then BitVec.allOnes 64 else 0#64⟩
def TouR (L:LvD) (V:VS) (id:Int) (t:TrD) (k:KD) (L':LvD) (V':VS) (t':TrD) (x':LfD):Prop:=
  (t.lv k=some x'∧L'=L∧V'=V∧t'=t)∨(t.lv k=none∧ ∃a,x'=Hl t k (Xb L id k) a∧t'={t with lv:=X1 t.lv k (some x')}∧L'={L with tr:=X1 L.tr id (some t'),sh:=Y4 (Y4 L.sh (Xb L id k)) (Xb L id k)}∧V'=refW (refW V (Xb L id k)) (Xb L id k))
section
variable {L L':LvD} {V V':VS} {id:Int} {t t':TrD} {k:KD} {x':LfD}
theorem TouR.tr (h:TouR L V id t k L' V' t' x') (ht:L.tr id=some t):L'.tr id=some t':= by
  rcases h with⟨_,rfl,_,rfl⟩ | ⟨_,a,_,_,rfl,_⟩
  · exact ht
  · exact Qz
theorem TouR.lv (h:TouR L V id t k L' V' t' x'):t'.lv k=some x':= by
  rcases h with⟨h,rfl,_,rfl⟩ | ⟨_,a,_,rfl,_,_⟩
  · exact h
  · exact Qz
theorem TouR.sp (h:TouR L V id t k L' V' t' x'):L'.sp=L.sp:= by
  rcases h with⟨_,rfl,_,_⟩ | ⟨_,a,_,_,rfl,_⟩<;>rfl
theorem TouR.ends (h:TouR L V id t k L' V' t' x') (ht:L.tr id=some t) (hE: ∀i,Y5 L.tr Zl i): ∀i,Y5 L'.tr Zl i:= by
  rcases h with⟨_,rfl,_,_⟩ | ⟨_,a,_,rfl,rfl,_⟩
  · exact hE
  · exact fun i=>GY (Jf (t':={t with lv:=X1 t.lv k (some x')}) ht rfl) _ _ (hE i)
theorem TouR.sees (h:TouR L V id t k L' V' t' x') (ht:L.tr id=some t) (h0:id≠0):Xb L' id k=x'.own:=Ut h0 (h.tr ht) h.lv
end
def VE (ob:Bs) (a:Int):Value:= if 0≤a∧a<16384 then .tuple #[Xy (ob,a/ 64),Zy (1#64<<<(a%64).toNat),.bool true]else .tuple #[Xy ([],0),Zy 0#64,.bool false]
def OwnP (L:LvD) (V:VS) (k:KD) (Fr:Nat) (L':LvD) (V':VS) (s e:Int):Prop:=
  (e=0∧s=L.pres k∧s≠0∧Z2 V s=1∧L'=L∧V'=V)∨(e=6∧s=0∧Hy V Fr∧L'=L∧V'=V)∨
  (e=0∧1≤s∧V s=none∧ ¬(L.pres k≠0∧Z2 V (L.pres k)=1)∧V'=Z4 (X1 V s (some (1,XR V (L.pres k)))) (L.pres k)∧L'={L with pres:=Z1 L.pres k s,sh:=Y3 (X1 V s (some (1,XR V (L.pres k)))) L.sh (L.pres k)})
def OwnT (L:LvD) (V:VS) (id:Int) (t:TrD) (k:KD) (x:LfD) (Fr:Nat) (L':LvD) (V':VS) (s e:Int):Prop:=
  (e=0∧s=x.own∧s≠0∧Z2 V s=1∧L'=L∧V'=V)∨(e=6∧s=0∧Hy V Fr∧L'=L∧V'=V)∨
  (e=0∧1≤s∧V s=none∧ ¬(x.own≠0∧Z2 V x.own=1)∧V'=Z4 (X1 V s (some (1,XR V x.own))) x.own∧L'=Zv {L with sh:=Y3 (X1 V s (some (1,XR V x.own))) L.sh x.own} id t k {x with own:=s})
theorem TF {κ α:Type} {ad:α→Nat} {f:κ→Option α} {k:κ} {x:α} {a:Nat} (h:ad x=a):upd (XY ad f) k (some (ptrV a 0))=XY ad (X1 f k (some x)):= by subst h; exact Pe
theorem AM {w:World} {X:LfD} {a:Nat} {b1 o1:Int} {r1 w1:BitVec 64} {As:List Th} (hX:X=⟨a,b1,o1,r1,w1⟩) (h:Sat w (QG a [intV b1,intV o1,Zy r1,Zy w1]::As)):Sat w (QG X.ad [intV X.base,intV X.own,Zy X.rd,Zy X.wr]::As):= by subst hX; exact h
theorem XM {w:World} {kb:Nat} {k:KD} {As:List Th} (h:Sat w (QG kb (Xy k).cells.toList::As)):Sat w (QG kb [strV k.1,intV k.2]::As):=h
theorem touch_y {w:World} {b n Fr:Nat} {L:LvD} {V:VS} {F:Th} (hS:Sat w [ZN b L,Zo L.sp n Fr V,F]) (hn:n≤60000000000) (hE: ∀i,Y5 L.tr Zl i) {id:Int} {t:TrD} (ht:L.tr id=some t) {k:KD} {x:LfD} (hx:t.lv k=some x):
    Calls Tryz.prog 46 #[ptrV b 0,intV id,Xy k] w (Ret fun v w'=>v=ptrV x.ad 0∧Sat w' [ZN b L,Zo L.sp n Fr V,F]):= by
 replace hS:=XK hS
 refine Qo Tryz.func46 rfl Tryz.ntmps46 rfl ?_
 refine Qd (Qa (XX hS rfl rfl rfl ?_))
 intro kb w1 hS1
 replace hS1:=XM hS1
 refine Qe rfl rfl (Qf (Qc (Qd (Qa (Qb rfl rfl (Qj rfl rfl (Qg rfl ZK rfl (Qp rfl J2 (hS1.cell 1 rfl rfl) rfl (Qb rfl rfl (Xt (k:=id) 3 hS1 keysInt Tryz.underlying82 rfl rfl rfl Y6 (u:=(ptrV t.ad 0)) (XV ht) rfl (Qe rfl rfl (Qf (Qc (Qh [1,0,5,6,7] rfl (Qd (Qd ?_))))))))))))))))
 have hS2:=ZA (hS1.pick [4,0,1,2,3,5,6,7] rfl) ht
 have hS3:=hS2.drew
 refine QI [0,1,2,3,4,5,6] [] Wq (by kernel_rfl) ?_
 refine QE rfl rfl rfl (Xj rfl rfl rfl (QS rfl rfl rfl Wb (Q8 rfl rfl rfl (Qm rfl JP (hS3.cell 0 rfl rfl)) (Q8 rfl rfl rfl (XD rfl X8 Xd (hS3.blk 5 rfl) (Xn rfl) rfl) (Q8 rfl rfl rfl (Xz (k:=k) 1 hS3 keysKey Tryz.underlying90 rfl rfl rfl HW (u:=(ptrV x.ad 0)) (XV hx)) (XP rfl rfl rfl (VC.nil (Qc (Qh [1,0,5,6,7,8] rfl (Qd (Qa (Qb rfl rfl (Hz Tryz.underlying89 rfl rfl rfl (Qf (Qc (Xl rfl (Qd (Qa (Qb rfl rfl (Qe rfl rfl (Qf (Qc (Qu (Qn (QP (.inr rfl) rfl rfl ?_)))))))))))))))))))))))))
 have hS4:=Zq ht (hS3.pick [0,1,2,3,4,5,6,7,8,9,10,11] rfl)
 exact⟨_,rfl,rfl,QV (hS4.pick [2,3,4,0,5,6,7] rfl)⟩
theorem touch_n {w:World} {b n Fr:Nat} {L:LvD} {V:VS} {F:Th} (hS:Sat w [ZN b L,Zo L.sp n Fr V,F]) (hn:n≤60000000000) (hE: ∀i,Y5 L.tr Zl i) {id:Int} {t:TrD} (ht:L.tr id=some t) {k:KD} (hx:t.lv k=none):
    Calls Tryz.prog 46 #[ptrV b 0,intV id,Xy k] w (Ret fun v w'=> ∃a,v=ptrV a 0∧Sat w' [ZN b {L with tr:=X1 L.tr id (some {t with lv:=X1 t.lv k (some (Hl t k (Xb L id k) a))}),sh:=Y4 (Y4 L.sh (Xb L id k)) (Xb L id k)},Zo L.sp (n+2) Fr (refW (refW V (Xb L id k)) (Xb L id k)),F]):= by
 replace hS:=XK hS
 refine Qo Tryz.func46 rfl Tryz.ntmps46 rfl ?_
 refine Qd (Qa (XX hS rfl rfl rfl ?_))
 intro kb w1 hS1
 replace hS1:=XM hS1
 refine Qe rfl rfl (Qf (Qc (Qd (Qa (Qb rfl rfl (Qj rfl rfl (Qg rfl ZK rfl (Qp rfl J2 (hS1.cell 1 rfl rfl) rfl (Qb rfl rfl (Xt (k:=id) 3 hS1 keysInt Tryz.underlying82 rfl rfl rfl Y6 (u:=(ptrV t.ad 0)) (XV ht) rfl (Qe rfl rfl (Qf (Qc (Qh [1,0,5,6,7] rfl (Qd (Qd ?_))))))))))))))))
 have hS2:=ZA (hS1.pick [4,0,1,2,3,5,6,7] rfl) ht
 have hS3:=hS2.drew
 refine QI [0,1,2,3,4,5,6] [] Wq (by kernel_rfl) ?_
 refine QE rfl rfl rfl (Xj rfl rfl rfl (QS rfl rfl rfl Wb (Q8 rfl rfl rfl (Qm rfl JP (hS3.cell 0 rfl rfl)) (Q8 rfl rfl rfl (XD rfl X8 Xd (hS3.blk 5 rfl) (Xn rfl) rfl) (Q8 rfl rfl rfl (Xz (k:=k) 1 hS3 keysKey Tryz.underlying90 rfl rfl rfl HW (u:=(.pointer none)) (TG hx)) (XP rfl rfl rfl (VC.nil (Qc (Qh [1,0,5,6,7,8] rfl (Qd (Qa (Qb rfl rfl (Yl Tryz.underlying89 rfl rfl rfl (Qf (Qc (QT rfl (Qr (Qc (Qd ?_)))))))))))))))))))
 have hS4:=Zq ht (hS3.pick [0,1,2,3,4,5,6,7,8,9,10,11] rfl)
 have hS5:=QV (L:=L) (hS4.pick [2,3,4,0,5,1,6,7] rfl)
 refine Qa (Qb rfl rfl (Qb rfl rfl ?_))
 refine XA rfl X8 Xd (by first | exact hS5.blk 1 rfl) (by first | decide | exact Xn rfl | (simp;done) | omega) rfl rfl ?_
 refine Qv YI rfl (Yr (hS5.sp [0] rfl) hE id k) rfl ?_
 rintro _ w6 ⟨rfl,hS6⟩
 replace hS6:=hS6.jn rfl rfl
 clear hS5
 refine Qe rfl rfl (Qf (Qc (Qh [0,5,6,7,9] rfl (Qd (Qa (Qb rfl rfl (Qb rfl rfl (Tr (vs':=[intV (Xb L id k),intV (Xb L id k),.int .u64 0,.int .u64 0]) rfl EC asz_88 zr_88 rfl rfl rfl (XX hS6 rfl rfl rfl ?_)))))))))
 intro xa w8 hS8
 clear hS6
 refine Qe rfl rfl (Qf (Qc (Qd ?_)))
 have hS9:=XK (hS8.pick [1,0,2,3,4] rfl)
 refine Qa (Qb rfl rfl (Qb rfl rfl (Qv MH rfl (Pa (hS9.sp [0,4,7] rfl) (by omega) (Xb L id k)) rfl ?_)))
 rintro _ w10 ⟨rfl,hS10⟩
 replace hS10:=hS10.jn rfl rfl
 clear hS9
 refine Qf (Qc (Qh [0,5,6,7,9,10] rfl (Qd (Qa (Qb rfl rfl (Qb rfl rfl (Qv MH rfl (Pa (hS10.sp [0,1,2] rfl) (by omega) (Xb L id k)) rfl ?_)))))))
 rintro _ w11 ⟨rfl,hS11⟩
 replace hS11:=hS11.jn rfl rfl
 clear hS10
 refine Qf (Qc (Qd (Qd ?_)))
 have hS12:=ZA (hS11.pick [5,0,1,2,3,4,6,7,8] rfl) ht
 have hS13:=hS12.drew
 refine QI [0,1,2,3,4,5,6] [] Wq (by kernel_rfl) ?_
 refine QE rfl rfl rfl (Xj rfl rfl rfl (QS rfl rfl rfl RT (Q8 rfl rfl rfl (Qm rfl Cn (hS13.cell 0 rfl rfl)) (QS rfl rfl rfl Yy (Q8 rfl rfl rfl (Qm rfl ZZ (hS13.cell 11 rfl rfl)) (Q8 rfl rfl rfl (Xz (k:=k.1) 3 hS13 keysStr Tryz.underlying91 rfl rfl rfl zr_4 (u:= .bool (t.dr k.1)) (Np _ _)) (VC.nil (Qc (Qh [5,6,7,10,46] rfl (QL rfl (fun h14=> ?_) (fun h14=> ?_)))))))))))
 ·have hdr:t.dr k.1=true:=h14
  refine Qa (Qb rfl rfl (Qj rfl rfl (Qg rfl W8 rfl (QJ hS13 rfl rfl Bt rfl (i:=10) rfl (Xn rfl) ?_))))
  intro w15 hS15; dsimp only[List.set]at hS15
  clear hS13
  refine Qf (Qc (Qd ?_))
  have hS16:=hS15.drew
  refine QI [0,1,2,3,4,5,6] [6] Wq (by kernel_rfl) ?_
  refine QE rfl rfl rfl (Xj rfl rfl rfl (QS rfl rfl rfl Wb (Q8 rfl rfl rfl (Qm rfl JP (hS16.cell 0 rfl rfl)) (Q8 rfl rfl rfl (XD rfl X8 Xd (hS16.blk 11 rfl) (Xn rfl) rfl) (QE rfl rfl rfl (Xi rfl rfl rfl rfl rfl rfl ?_))))))
  refine Xh (k:=k) (v:=ptrV xa 0) 1 hS16 keysKey Tryz.underlying90 rfl rfl rfl rfl ?_
  intro w17 hS17; dsimp only[List.set]at hS17
  clear hS16
  refine Z0 (Xu (by kernel_rfl)) ?_
  refine VC.nil (Qc (Qh [6,10] rfl (Qd (Qa (Qb rfl rfl (Qe rfl rfl (Qf (Qc (Qu (QP (.inr rfl) rfl rfl ?_))))))))))
  have hX:(Hl t k (Xb L id k) xa)=⟨xa,Xb L id k,Xb L id k,0#64,BitVec.allOnes 64⟩:= by unfold Hl; rw[if_pos hdr]
  have hA:=AM hX (hS17.pick [10,2,0,1,3,4,5,8,9,6,7,12] rfl)
  have hB:=Lb hx hA
  have hB2:=hB.perm ((List.Perm.swap _ _ _).trans (List.Perm.cons _ (List.Perm.swap _ _ _)))
  rw[TF (ad:=LfD.ad) (x:=(Hl t k (Xb L id k) xa)) (a:=xa) rfl]at hB2
  have hC:=R3 (t:=({t with lv:=X1 t.lv k (some (Hl t k (Xb L id k) xa))}:TrD)) (i:=id) (T:=L.tr) hB2
  rw[←Uw (ad:=TrD.ad) (f:=L.tr) (k:=id) (x:=t) (y:=({t with lv:=X1 t.lv k (some (Hl t k (Xb L id k) xa))}:TrD)) ht rfl]at hC
  exact⟨_,rfl,xa,rfl,QV (L:={L with tr:=X1 L.tr id (some ({t with lv:=X1 t.lv k (some (Hl t k (Xb L id k) xa))}:TrD)),sh:=Y4 (Y4 L.sh (Xb L id k)) (Xb L id k)}) (hC.reorder [1,2,3,0,4,5,6] rfl)⟩
 have hdr:t.dr k.1=false:=h14
 refine Qr (Qc (Qd ?_))
 have hS18:=hS13.drew
 refine QI [0,1,2,3,4,5,6] [6] Wq (by kernel_rfl) ?_
 refine QE rfl rfl rfl (Xj rfl rfl rfl (QS rfl rfl rfl Wb (Q8 rfl rfl rfl (Qm rfl JP (hS18.cell 0 rfl rfl)) (Q8 rfl rfl rfl (XD rfl X8 Xd (hS18.blk 11 rfl) (Xn rfl) rfl) (QE rfl rfl rfl (Xi rfl rfl rfl rfl rfl rfl ?_))))))
 refine Xh (k:=k) (v:=ptrV xa 0) 1 hS18 keysKey Tryz.underlying90 rfl rfl rfl rfl ?_
 intro w19 hS19; dsimp only[List.set]at hS19
 clear hS18
 refine Z0 (Xu (by kernel_rfl)) ?_
 refine VC.nil (Qc (Qh [6,10] rfl (Qd (Qa (Qb rfl rfl (Qe rfl rfl (Qf (Qc (Qu (QP (.inr rfl) rfl rfl ?_))))))))))
 have hX:(Hl t k (Xb L id k) xa)=⟨xa,Xb L id k,Xb L id k,0#64,0#64⟩:= by unfold Hl; rw[if_neg (by rw[hdr];decide)]
 have hA:=AM hX (hS19.pick [10,2,0,1,3,4,5,8,9,6,7,12] rfl)
 have hB:=Lb hx hA
 have hB2:=hB.perm ((List.Perm.swap _ _ _).trans (List.Perm.cons _ (List.Perm.swap _ _ _)))
 rw[TF (ad:=LfD.ad) (x:=(Hl t k (Xb L id k) xa)) (a:=xa) rfl]at hB2
 have hC:=R3 (t:=({t with lv:=X1 t.lv k (some (Hl t k (Xb L id k) xa))}:TrD)) (i:=id) (T:=L.tr) hB2
 rw[←Uw (ad:=TrD.ad) (f:=L.tr) (k:=id) (x:=t) (y:=({t with lv:=X1 t.lv k (some (Hl t k (Xb L id k) xa))}:TrD)) ht rfl]at hC
 exact⟨_,rfl,xa,rfl,QV (L:={L with tr:=X1 L.tr id (some ({t with lv:=X1 t.lv k (some (Hl t k (Xb L id k) xa))}:TrD)),sh:=Y4 (Y4 L.sh (Xb L id k)) (Xb L id k)}) (hC.reorder [1,2,3,0,4,5,6] rfl)⟩
theorem Us {w:World} {b n Fr:Nat} {L:LvD} {V:VS} {F:Th} (hS:Sat w [ZN b L,Zo L.sp n Fr V,F]) (hn:n≤60000000000) (hE: ∀i,Y5 L.tr Zl i) {id:Int} {t:TrD} (ht:L.tr id=some t) {k:KD}:
    Calls Tryz.prog 46 #[ptrV b 0,intV id,Xy k] w (Ret fun v w'=> ∃L' V' t' x',v=ptrV x'.ad 0∧TouR L V id t k L' V' t' x'∧Sat w' [ZN b L',Zo L'.sp (n+2) Fr V',F]):= by
  cases hx:t.lv k with
  | some x=>
    refine(touch_y hS hn hE ht hx).mono fun e w h=>h.mono fun v w h=> ?_
    exact⟨L,V,t,x,h.1,.inl ⟨hx,rfl,rfl,rfl⟩,(X2 (by omega) (h.2.reorder [1,0,2] rfl)).reorder [1,0,2] rfl⟩
  | none=>
    refine(touch_n hS hn hE ht hx).mono fun e w h=>h.mono fun v w h=> ?_
    obtain⟨a,h1,h2⟩:=h
    exact⟨_,_,_,Hl t k (Xb L id k) a,h1,.inr ⟨hx,a,rfl,rfl,rfl,rfl⟩,h2⟩
theorem Ux {w:World} {F:Th} (hS:Sat w [F]) (ob:Bs) (a:Int):
    Calls Tryz.prog 42 #[strV ob,intV a] w (Ret fun v w'=>v=VE ob a∧Sat w' [F]):= by
 refine Qo Tryz.func42 rfl Tryz.ntmps42 rfl ?_
 refine Qd (Qa (Xc hS ZO rfl rfl ?_))
 intro b1 w1 hS1
 refine Qe rfl rfl (Qe rfl rfl (Qf (Qc (Qd (Qd (Qa (Qb rfl rfl (Xg rfl rfl rfl (Qb rfl rfl (QW 9 rfl (fun h2=> ?_) (fun h2=> ?_)))))))))))
 ·refine Qi rfl rfl (Xf h2) rfl (Qi rfl rfl (Xf h2) rfl (QC rfl (Xf h2) rfl rfl (Qf (Qc (Qh [1,0,4,5,6,12] rfl (Xl rfl (Qd (Qa (Zn rfl OH Up ZO rfl rfl ?_)))))))))
  first | (refine QU hS1 rfl rfl Xd rfl (by rfl) (i:=0) rfl (by decide) ?_)
  intro w3 hS4; dsimp only[List.set]at hS4
  clear hS1
  refine Qe rfl rfl (Qe rfl rfl (Qf (Qc (Qu (Qn ?_)))))
  refine IL (.inr rfl) rfl (O7 rfl X8 Xd (by first | exact hS4.blk 0 rfl) (by first | decide | exact Xn rfl | (simp;done) | omega) rfl) (R7 rfl) (R7 rfl) ?_
  exact⟨_,rfl, by unfold VE; rw[if_neg (by omega)];rfl,hS4.pick [1] rfl⟩
 refine Qk rfl rfl (Q6 h2) (Qb rfl rfl (Qk rfl rfl (Q6 h2) (JQ rfl rfl rfl (QO rfl (Q6 h2) rfl rfl (Qf (Qc (Qh [1,0,4,5,6,12] rfl (Qt rfl (fun h5=> ?_) (fun h5=> ?_)))))))))
 ·refine Qd (Qa (Zn rfl OH Up ZO rfl rfl ?_))
  first | (refine QU hS1 rfl rfl Xd rfl (by rfl) (i:=0) rfl (by decide) ?_)
  intro w6 hS7; dsimp only[List.set]at hS7
  clear hS1
  refine Qe rfl rfl (Qe rfl rfl (Qf (Qc (Qu (Qn ?_)))))
  refine IL (.inr rfl) rfl (O7 rfl X8 Xd (by first | exact hS7.blk 0 rfl) (by first | decide | exact Xn rfl | (simp;done) | omega) rfl) (R7 rfl) (R7 rfl) ?_
  exact⟨_,rfl, by unfold VE; rw[if_neg (by omega)];rfl,hS7.pick [1] rfl⟩
 obtain⟨m,rfl⟩: ∃m:Nat,a=(m:Int):=⟨a.toNat, by omega⟩
 refine Qr (Qc (Qd ?_))
 have hS8:=hS1.drew
 refine QI [0,1,2,3,4,5,6,7,8,9] [7] Wq (by kernel_rfl) ?_
 refine QE rfl rfl rfl (QE rfl rfl rfl (QZ rfl rfl rfl (fun _=>(IR rfl rfl (by omega) (by omega) (by omega))) ?_))
 refine QZ rfl rfl rfl (fun _=>(Wp rfl Yi Up ZO rfl)) ?_
 refine QE rfl rfl rfl (QZ rfl rfl rfl (fun _=>(M4 rfl rfl (by omega) (by omega))) ?_)
 refine QZ rfl rfl rfl (fun _=>(IV (m%64) rfl rfl (by omega))) ?_
 refine Xi rfl rfl rfl rfl rfl rfl ?_
 first | (refine QU hS8 rfl rfl Xd rfl (by rfl) (i:=0) rfl (by decide) ?_)
 intro w9 hS10; dsimp only[List.set]at hS10
 clear hS8
 refine Z0 .nil (XP rfl rfl rfl (XP rfl rfl rfl (VC.nil (Qc (Qh [4,5,6] rfl (Qu (IL (.inr rfl) rfl (O7 rfl X8 Xd (by first | exact hS10.blk 0 rfl) (Xn rfl) rfl) (R7 rfl) (R7 rfl) ?_)))))))
 exact⟨_,rfl, by unfold VE; rw[if_pos (by omega)];rfl,hS10.pick [1] rfl⟩
end Go.Proofs.YtkcjfoaejijdoaaGreatDoor
