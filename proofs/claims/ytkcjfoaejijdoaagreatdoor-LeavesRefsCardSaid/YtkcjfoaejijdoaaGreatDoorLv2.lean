/- leaves: touch, place -/
import Derived.Test.YtkcjfoaejijdoaaGreatDoorLv1
set_option linter.unusedSectionVars false
set_option linter.unusedVariables false
set_option maxRecDepth 100000
set_option maxHeartbeats 80000000000
namespace Go.Proofs.YtkcjfoaejijdoaaGreatDoor
open Go.RowKit M
variable [Inhabited SlW]
noncomputable def Z1 (L:LvD) (id:Int) (t:TrD) (k:KD) (x:LfD):LvD:={L with tr:=Xi L.tr id (some {t with lv:=Xi t.lv k (some x)})}
theorem J5 {w:World} {b:Nat} {L:LvD} {id:Int} {t:TrD} {k:KD} {x:LfD} {As:List Th} (ht:L.tr id=some t) (hx:t.lv k=some x) (h:Sat w (XY b L::As)):
    Sat w (Q3 x.ad [intV x.base,intV x.own,Zz x.rd,Zz x.wr]::Zj VQ (Xi t.lv k none)::Q3 t.ad [intV t.parent,.map (some t.ml),.map (some t.md)]::Q5 Xo t.ml (Xv LfD.ad t.lv)::Q5 Js t.md (ZZ t.dr)::Zj HK (Xi L.tr id none)::Q3 b [ptrV L.sp 0,.map (some L.mp),.map (some L.mt),intV L.cur,.map (some L.ms)]::Q5 Xo L.mp (Zg L.pres)::Q5 QO L.mt (Xv TrD.ad L.tr)::Q5 QO L.ms (ZZ L.sh)::As):= by
  have h1:=ZB (i:=id) (t:=t) ((Xy h).perm ((List.Perm.cons _ (List.Perm.cons _ (List.Perm.swap _ _ _))).trans ((List.Perm.cons _ (List.Perm.swap _ _ _)).trans (List.Perm.swap _ _ _)))) ht
  have h2:=JO (k:=k) (x:=x) (h1.perm ((List.Perm.cons _ (List.Perm.swap _ _ _)).trans (List.Perm.swap _ _ _))) hx
  exact h2
theorem W4 {w:World} {b:Nat} {L:LvD} {id:Int} {t:TrD} {k:KD} {x y:LfD} {As:List Th} (ht:L.tr id=some t) (hx:t.lv k=some x) (hy:y.ad=x.ad)
    (h:Sat w (Q3 y.ad [intV y.base,intV y.own,Zz y.rd,Zz y.wr]::Zj VQ (Xi t.lv k none)::Q3 t.ad [intV t.parent,.map (some t.ml),.map (some t.md)]::Q5 Xo t.ml (Xv LfD.ad t.lv)::Q5 Js t.md (ZZ t.dr)::Zj HK (Xi L.tr id none)::Q3 b [ptrV L.sp 0,.map (some L.mp),.map (some L.mt),intV L.cur,.map (some L.ms)]::Q5 Xo L.mp (Zg L.pres)::Q5 QO L.mt (Xv TrD.ad L.tr)::Q5 QO L.ms (ZZ L.sh)::As)):Sat w (XY b (Z1 L id t k y)::As):= by
  have h1:=CH (x:=y) h
  rw[←J2 hx hy]at h1
  have h2:=HT (t:={t with lv:=Xi t.lv k (some y)}) (i:=id) (T:=L.tr) (h1.perm ((List.Perm.swap _ _ _).trans (List.Perm.cons _ (List.Perm.swap _ _ _))))
  rw[←J2 (ad:=TrD.ad) (f:=L.tr) (k:=id) (x:=t) (y:={t with lv:=Xi t.lv k (some y)}) ht U]at h2
  exact QZ (L:=Z1 L id t k y) (h2.perm ((List.Perm.swap _ _ _).trans ((List.Perm.cons _ (List.Perm.swap _ _ _)).trans (List.Perm.cons _ (List.Perm.cons _ (List.Perm.swap _ _ _))))))
theorem BB {L:LvD} {id:Int} {t:TrD} {k:KD} {x:LfD}:(Z1 L id t k x).tr id=some {t with lv:=Xi t.lv k (some x)}:=Qy
theorem Ge {T T':Int→Option TrD} (h: ∀i,(T' i).map TrD.parent=(T i).map TrD.parent): ∀n i,YS T n i→YS T' n i
  | 0,_,q=>q
  | n+1,i,q=> by
    rcases q with q | q
    · exact .inl q
    · refine .inr ?_
      have h1:=h i
      cases a:T i with
      | none=> rw[a]at h1; cases c:T' i with
        | none=>trivial
        | some y=> rw[c]at h1; cases h1
      | some x=>
        rw[a]at h1 q
        cases c:T' i with
        | none=>trivial
        | some y=>
          rw[c]at h1
          have e:y.parent=x.parent:= by simpa using h1
          show YS T' n y.parent
          rw[e]; exact Ge h n _ q
theorem WA {T:Int→Option TrD} {i:Int} {t t':TrD} (ht:T i=some t) (hp:t'.parent=t.parent): ∀j,((Xi T i (some t')) j).map TrD.parent=(T j).map TrD.parent:= fun j=> by
  by_cases e:j=i
  · subst e; rw[Qy,ht]; simp [hp]
  · rw[Q7 e]
theorem Pb {L:LvD} {id:Int} {t:TrD} {k:KD} {x:LfD} (ht:L.tr id=some t) (hE: ∀i,YS L.tr Zs i): ∀i,YS (Z1 L id t k x).tr Zs i:= fun i=>Ge (WA (t':={t with lv:=Xi t.lv k (some x)}) ht U) _ _ (hE i)
def YZ (t:TrD) (k:KD) (s:Int) (a:Nat):LfD:=⟨a,s,s,0#64, if t.dr k.1=true then BitVec.allOnes 64 else 0#64⟩
def TouR (L:LvD) (V:VS) (id:Int) (t:TrD) (k:KD) (L':LvD) (V':VS) (t':TrD) (x':LfD):Prop:=
  (t.lv k=some x'∧L'=L∧V'=V∧t'=t)∨(t.lv k=none∧ ∃a,x'=YZ t k (X2 L id k) a∧t'={t with lv:=Xi t.lv k (some x')}∧L'={L with tr:=Xi L.tr id (some t'),sh:=J1 (J1 L.sh (X2 L id k)) (X2 L id k)}∧V'=refW (refW V (X2 L id k)) (X2 L id k))
section
variable {L L':LvD} {V V':VS} {id:Int} {t t':TrD} {k:KD} {x':LfD}
theorem TouR.tr (h:TouR L V id t k L' V' t' x') (ht:L.tr id=some t):L'.tr id=some t':= by
  rcases h with⟨_,rfl,_,rfl⟩ | ⟨_,a,_,_,rfl,_⟩
  · exact ht
  · exact Qy
theorem TouR.lv (h:TouR L V id t k L' V' t' x'):t'.lv k=some x':= by
  rcases h with⟨h,rfl,_,rfl⟩ | ⟨_,a,_,rfl,_,_⟩
  · exact h
  · exact Qy
theorem TouR.sp (h:TouR L V id t k L' V' t' x'):L'.sp=L.sp:= by
  rcases h with⟨_,rfl,_,_⟩ | ⟨_,a,_,_,rfl,_⟩<;>rfl
theorem TouR.ends (h:TouR L V id t k L' V' t' x') (ht:L.tr id=some t) (hE: ∀i,YS L.tr Zs i): ∀i,YS L'.tr Zs i:= by
  rcases h with⟨_,rfl,_,_⟩ | ⟨_,a,_,rfl,rfl,_⟩
  · exact hE
  · exact fun i=>Ge (WA (t':={t with lv:=Xi t.lv k (some x')}) ht U) _ _ (hE i)
theorem TouR.sees (h:TouR L V id t k L' V' t' x') (ht:L.tr id=some t) (h0:id≠0):X2 L' id k=x'.own:=HX h0 (h.tr ht) h.lv
end
def UN (ob:Bs) (a:Int):Value:= if 0≤a∧a<16384 then .tuple #[Xo (ob,a/ 64),Zz (1#64<<<(a%64).toNat),.bool true]else .tuple #[Xo ([],0),Zz 0#64,.bool false]
def OwnP (L:LvD) (V:VS) (k:KD) (Fr:Nat) (L':LvD) (V':VS) (s e:Int):Prop:=
  (e=0∧s=L.pres k∧s≠0∧Zc V s=1∧L'=L∧V'=V)∨(e=6∧s=0∧Hi V Fr∧L'=L∧V'=V)∨
  (e=0∧1≤s∧V s=none∧ ¬(L.pres k≠0∧Zc V (L.pres k)=1)∧V'=Zb (Xi V s (some (1,XH V (L.pres k)))) (L.pres k)∧L'={L with pres:=Zv L.pres k s,sh:=Jq (Xi V s (some (1,XH V (L.pres k)))) L.sh (L.pres k)})
def OwnT (L:LvD) (V:VS) (id:Int) (t:TrD) (k:KD) (x:LfD) (Fr:Nat) (L':LvD) (V':VS) (s e:Int):Prop:=
  (e=0∧s=x.own∧s≠0∧Zc V s=1∧L'=L∧V'=V)∨(e=6∧s=0∧Hi V Fr∧L'=L∧V'=V)∨
  (e=0∧1≤s∧V s=none∧ ¬(x.own≠0∧Zc V x.own=1)∧V'=Zb (Xi V s (some (1,XH V x.own))) x.own∧L'=Z1 {L with sh:=Jq (Xi V s (some (1,XH V x.own))) L.sh x.own} id t k {x with own:=s})
theorem Ms {κ α:Type} {ad:α→Nat} {f:κ→Option α} {k:κ} {x:α} {a:Nat} (h:ad x=a):upd (Xv ad f) k (some (ptrV a 0))=Xv ad (Xi f k (some x)):= by subst h; exact C6
theorem LW {w:World} {X:LfD} {a:Nat} {b1 o1:Int} {r1 w1:BitVec 64} {As:List Th} (hX:X=⟨a,b1,o1,r1,w1⟩) (h:Sat w (Q3 a [intV b1,intV o1,Zz r1,Zz w1]::As)):Sat w (Q3 X.ad [intV X.base,intV X.own,Zz X.rd,Zz X.wr]::As):= by subst hX; exact h
theorem X5 {w:World} {kb:Nat} {k:KD} {As:List Th} (h:Sat w (Q3 kb (Xo k).cells.toList::As)):Sat w (Q3 kb [strV k.1,intV k.2]::As):=h
theorem touch_y {w:World} {b n Fr:Nat} {L:LvD} {V:VS} {F:Th} (hS:Sat w [XY b L,XG L.sp n Fr V,F]) (hn:n≤60000000000) (hE: ∀i,YS L.tr Zs i) {id:Int} {t:TrD} (ht:L.tr id=some t) {k:KD} {x:LfD} (hx:t.lv k=some x):
    Calls Tryz.prog 46 #[ptrV b 0,intV id,Xo k] w (Ret fun v w'=>v=ptrV x.ad 0∧Sat w' [XY b L,XG L.sp n Fr V,F]):= by
 replace hS:=Xy hS
 refine Qm Tryz.func46 U Tryz.ntmps46 U ?_
 refine Qd (Qa (Zd hS U U U ?_))
 intro kb w1 hS1
 replace hS1:=X5 hS1
 refine Qe U U (Qf (Qc (Qd (Qa (Qb U U (Qj U U (Qg U Z7 U (Qn U WN (hS1.cell 1 U U) U (Qb U U (XT (k:=id) 3 hS1 keysInt Tryz.underlying82 U U U Yu (u:=(ptrV t.ad 0)) (Zw ht) U (Qe U U (Qf (Qc (Qh [1,0,5,6,7] U (Qd (Qd ?_))))))))))))))))
 have hS2:=ZB (hS1.pick [4,0,1,2,3,5,6,7] U) ht
 have hS3:=hS2.drew
 refine QF [0,1,2,3,4,5,6] [] We (by kernel_rfl) ?_
 refine QG U U U (Xh U U U (QV U U U ZU (Q4 U U U (Qr U Jy (hS3.cell 0 U U)) (Q4 U U U (XF U X7 Xc (hS3.blk 5 U) (Xa U) U) (Q4 U U U (Xz (k:=k) 1 hS3 keysKey Tryz.underlying90 U U U HQ (u:=(ptrV x.ad 0)) (Zw hx)) (Za U U U (VC.nil (Qc (Qh [1,0,5,6,7,8] U (Qd (Qa (Qb U U (Hj Tryz.underlying89 U U U (Qf (Qc (Xf U (Qd (Qa (Qb U U (Qe U U (Qf (Qc (Qu (Qp (QR (.inr U) U U ?_)))))))))))))))))))))))))
 have hS4:=ZW ht (hS3.pick [0,1,2,3,4,5,6,7,8,9,10,11] U)
 exact⟨_,rfl,rfl,QZ (hS4.pick [2,3,4,0,5,6,7] U)⟩
theorem touch_n {w:World} {b n Fr:Nat} {L:LvD} {V:VS} {F:Th} (hS:Sat w [XY b L,XG L.sp n Fr V,F]) (hn:n≤60000000000) (hE: ∀i,YS L.tr Zs i) {id:Int} {t:TrD} (ht:L.tr id=some t) {k:KD} (hx:t.lv k=none):
    Calls Tryz.prog 46 #[ptrV b 0,intV id,Xo k] w (Ret fun v w'=> ∃a,v=ptrV a 0∧Sat w' [XY b {L with tr:=Xi L.tr id (some {t with lv:=Xi t.lv k (some (YZ t k (X2 L id k) a))}),sh:=J1 (J1 L.sh (X2 L id k)) (X2 L id k)},XG L.sp (n+2) Fr (refW (refW V (X2 L id k)) (X2 L id k)),F]):= by
 replace hS:=Xy hS
 refine Qm Tryz.func46 U Tryz.ntmps46 U ?_
 refine Qd (Qa (Zd hS U U U ?_))
 intro kb w1 hS1
 replace hS1:=X5 hS1
 refine Qe U U (Qf (Qc (Qd (Qa (Qb U U (Qj U U (Qg U Z7 U (Qn U WN (hS1.cell 1 U U) U (Qb U U (XT (k:=id) 3 hS1 keysInt Tryz.underlying82 U U U Yu (u:=(ptrV t.ad 0)) (Zw ht) U (Qe U U (Qf (Qc (Qh [1,0,5,6,7] U (Qd (Qd ?_))))))))))))))))
 have hS2:=ZB (hS1.pick [4,0,1,2,3,5,6,7] U) ht
 have hS3:=hS2.drew
 refine QF [0,1,2,3,4,5,6] [] We (by kernel_rfl) ?_
 refine QG U U U (Xh U U U (QV U U U ZU (Q4 U U U (Qr U Jy (hS3.cell 0 U U)) (Q4 U U U (XF U X7 Xc (hS3.blk 5 U) (Xa U) U) (Q4 U U U (Xz (k:=k) 1 hS3 keysKey Tryz.underlying90 U U U HQ (u:=(.pointer none)) (Vw hx)) (Za U U U (VC.nil (Qc (Qh [1,0,5,6,7,8] U (Qd (Qa (Qb U U (J0 Tryz.underlying89 U U U (Qf (Qc (QT U (Qt (Qc (Qd ?_)))))))))))))))))))
 have hS4:=ZW ht (hS3.pick [0,1,2,3,4,5,6,7,8,9,10,11] U)
 have hS5:=QZ (L:=L) (hS4.pick [2,3,4,0,5,1,6,7] U)
 refine Qa (Qb U U (Qb U U ?_))
 refine Xt U X7 Xc (by first | exact hS5.blk 1 U) (by first | decide | exact Xa U | (simp;done) | omega) U U ?_
 refine Qw HM U (H7 (hS5.sp [0] U) hE id k) U ?_
 rintro _ w6 ⟨rfl,hS6⟩
 replace hS6:=hS6.jn U U
 clear hS5
 refine Qe U U (Qf (Qc (Qh [0,5,6,7,9] U (Qd (Qa (Qb U U (Qb U U (DV (vs':=[intV (X2 L id k),intV (X2 L id k),.int .u64 0,.int .u64 0]) U FX asz_88 zr_88 U U U (Zd hS6 U U U ?_)))))))))
 intro xa w8 hS8
 clear hS6
 refine Qe U U (Qf (Qc (Qd ?_)))
 have hS9:=Xy (hS8.pick [1,0,2,3,4] U)
 refine Qa (Qb U U (Qb U U (Qw K5 U (BJ (hS9.sp [0,4,7] U) (by omega) (X2 L id k)) U ?_)))
 rintro _ w10 ⟨rfl,hS10⟩
 replace hS10:=hS10.jn U U
 clear hS9
 refine Qf (Qc (Qh [0,5,6,7,9,10] U (Qd (Qa (Qb U U (Qb U U (Qw K5 U (BJ (hS10.sp [0,1,2] U) (by omega) (X2 L id k)) U ?_)))))))
 rintro _ w11 ⟨rfl,hS11⟩
 replace hS11:=hS11.jn U U
 clear hS10
 refine Qf (Qc (Qd (Qd ?_)))
 have hS12:=ZB (hS11.pick [5,0,1,2,3,4,6,7,8] U) ht
 have hS13:=hS12.drew
 refine QF [0,1,2,3,4,5,6] [] We (by kernel_rfl) ?_
 refine QG U U U (Xh U U U (QV U U U Rh (Q4 U U U (Qr U MQ (hS13.cell 0 U U)) (QV U U U JV (Q4 U U U (Qr U WC (hS13.cell 11 U U)) (Q4 U U U (Xz (k:=k.1) 3 hS13 keysStr Tryz.underlying91 U U U zr_4 (u:= .bool (t.dr k.1)) (TT _ _)) (VC.nil (Qc (Qh [5,6,7,10,46] U (QN U (fun h14=> ?_) (fun h14=> ?_)))))))))))
 ·have hdr:t.dr k.1=true:=h14
  refine Qa (Qb U U (Qj U U (Qg U ZV U (Q6 hS13 U U VZ U (i:=10) U (Xa U) ?_))))
  intro w15 hS15; dsimp only[List.set]at hS15
  clear hS13
  refine Qf (Qc (Qd ?_))
  have hS16:=hS15.drew
  refine QF [0,1,2,3,4,5,6] [6] We (by kernel_rfl) ?_
  refine QG U U U (Xh U U U (QV U U U ZU (Q4 U U U (Qr U Jy (hS16.cell 0 U U)) (Q4 U U U (XF U X7 Xc (hS16.blk 11 U) (Xa U) U) (QG U U U (Xn U U U U U U ?_))))))
  refine Xw (k:=k) (v:=ptrV xa 0) 1 hS16 keysKey Tryz.underlying90 U U U U ?_
  intro w17 hS17; dsimp only[List.set]at hS17
  clear hS16
  refine Z4 (X1 (by kernel_rfl)) ?_
  refine VC.nil (Qc (Qh [6,10] U (Qd (Qa (Qb U U (Qe U U (Qf (Qc (Qu (QR (.inr U) U U ?_))))))))))
  have hX:(YZ t k (X2 L id k) xa)=⟨xa,X2 L id k,X2 L id k,0#64,BitVec.allOnes 64⟩:= by unfold YZ; rw[if_pos hdr]
  have hA:=LW hX (hS17.pick [10,2,0,1,3,4,5,8,9,6,7,12] U)
  have hB:=Sp hx hA
  have hB2:=hB.perm ((List.Perm.swap _ _ _).trans (List.Perm.cons _ (List.Perm.swap _ _ _)))
  rw[Ms (ad:=LfD.ad) (x:=(YZ t k (X2 L id k) xa)) (a:=xa) U]at hB2
  have hC:=HT (t:=({t with lv:=Xi t.lv k (some (YZ t k (X2 L id k) xa))}:TrD)) (i:=id) (T:=L.tr) hB2
  rw[←J2 (ad:=TrD.ad) (f:=L.tr) (k:=id) (x:=t) (y:=({t with lv:=Xi t.lv k (some (YZ t k (X2 L id k) xa))}:TrD)) ht U]at hC
  exact⟨_,rfl,xa,rfl,QZ (L:={L with tr:=Xi L.tr id (some ({t with lv:=Xi t.lv k (some (YZ t k (X2 L id k) xa))}:TrD)),sh:=J1 (J1 L.sh (X2 L id k)) (X2 L id k)}) (hC.reorder [1,2,3,0,4,5,6] U)⟩
 have hdr:t.dr k.1=false:=h14
 refine Qt (Qc (Qd ?_))
 have hS18:=hS13.drew
 refine QF [0,1,2,3,4,5,6] [6] We (by kernel_rfl) ?_
 refine QG U U U (Xh U U U (QV U U U ZU (Q4 U U U (Qr U Jy (hS18.cell 0 U U)) (Q4 U U U (XF U X7 Xc (hS18.blk 11 U) (Xa U) U) (QG U U U (Xn U U U U U U ?_))))))
 refine Xw (k:=k) (v:=ptrV xa 0) 1 hS18 keysKey Tryz.underlying90 U U U U ?_
 intro w19 hS19; dsimp only[List.set]at hS19
 clear hS18
 refine Z4 (X1 (by kernel_rfl)) ?_
 refine VC.nil (Qc (Qh [6,10] U (Qd (Qa (Qb U U (Qe U U (Qf (Qc (Qu (QR (.inr U) U U ?_))))))))))
 have hX:(YZ t k (X2 L id k) xa)=⟨xa,X2 L id k,X2 L id k,0#64,0#64⟩:= by unfold YZ; rw[if_neg (by rw[hdr];decide)]
 have hA:=LW hX (hS19.pick [10,2,0,1,3,4,5,8,9,6,7,12] U)
 have hB:=Sp hx hA
 have hB2:=hB.perm ((List.Perm.swap _ _ _).trans (List.Perm.cons _ (List.Perm.swap _ _ _)))
 rw[Ms (ad:=LfD.ad) (x:=(YZ t k (X2 L id k) xa)) (a:=xa) U]at hB2
 have hC:=HT (t:=({t with lv:=Xi t.lv k (some (YZ t k (X2 L id k) xa))}:TrD)) (i:=id) (T:=L.tr) hB2
 rw[←J2 (ad:=TrD.ad) (f:=L.tr) (k:=id) (x:=t) (y:=({t with lv:=Xi t.lv k (some (YZ t k (X2 L id k) xa))}:TrD)) ht U]at hC
 exact⟨_,rfl,xa,rfl,QZ (L:={L with tr:=Xi L.tr id (some ({t with lv:=Xi t.lv k (some (YZ t k (X2 L id k) xa))}:TrD)),sh:=J1 (J1 L.sh (X2 L id k)) (X2 L id k)}) (hC.reorder [1,2,3,0,4,5,6] U)⟩
theorem Hr {w:World} {b n Fr:Nat} {L:LvD} {V:VS} {F:Th} (hS:Sat w [XY b L,XG L.sp n Fr V,F]) (hn:n≤60000000000) (hE: ∀i,YS L.tr Zs i) {id:Int} {t:TrD} (ht:L.tr id=some t) {k:KD}:
    Calls Tryz.prog 46 #[ptrV b 0,intV id,Xo k] w (Ret fun v w'=> ∃L' V' t' x',v=ptrV x'.ad 0∧TouR L V id t k L' V' t' x'∧Sat w' [XY b L',XG L'.sp (n+2) Fr V',F]):= by
  cases hx:t.lv k with
  | some x=>
    refine(touch_y hS hn hE ht hx).mono fun e w h=>h.mono fun v w h=> ?_
    exact⟨L,V,t,x,h.1,.inl ⟨hx,rfl,rfl,rfl⟩,(Xe (by omega) (h.2.reorder [1,0,2] U)).reorder [1,0,2] U⟩
  | none=>
    refine(touch_n hS hn hE ht hx).mono fun e w h=>h.mono fun v w h=> ?_
    obtain⟨a,h1,h2⟩:=h
    exact⟨_,_,_,YZ t k (X2 L id k) a,h1,.inr ⟨hx,a,rfl,rfl,rfl,rfl⟩,h2⟩
theorem WF {w:World} {F:Th} (hS:Sat w [F]) (ob:Bs) (a:Int):
    Calls Tryz.prog 42 #[strV ob,intV a] w (Ret fun v w'=>v=UN ob a∧Sat w' [F]):= by
 refine Qm Tryz.func42 U Tryz.ntmps42 U ?_
 refine Qd (Qa (QX hS Z2 U U ?_))
 intro b1 w1 hS1
 refine Qe U U (Qe U U (Qf (Qc (Qd (Qd (Qa (Qb U U (Xg U U U (Qb U U (QU 9 U (fun h2=> ?_) (fun h2=> ?_)))))))))))
 ·refine Qi U U (Xl h2) U (Qi U U (Xl h2) U (Q9 U (Xl h2) U U (Qf (Qc (Qh [1,0,4,5,6,12] U (Xf U (Qd (Qa (Zu U EQ HN Z2 U U ?_)))))))))
  first | (refine QK hS1 U U Xc U (by rfl) (i:=0) U (by decide) ?_)
  intro w3 hS4; dsimp only[List.set]at hS4
  clear hS1
  refine Qe U U (Qe U U (Qf (Qc (Qu (Qp ?_)))))
  refine Of (.inr U) U (YT U X7 Xc (by first | exact hS4.blk 0 U) (by first | decide | exact Xa U | (simp;done) | omega) U) (KN U) (KN U) ?_
  exact⟨_,rfl, by unfold UN; rw[if_neg (by omega)];rfl,hS4.pick [1] U⟩
 refine Ql U U (QC h2) (Qb U U (Ql U U (QC h2) (JA U U U (QP U (QC h2) U U (Qf (Qc (Qh [1,0,4,5,6,12] U (Qs U (fun h5=> ?_) (fun h5=> ?_)))))))))
 ·refine Qd (Qa (Zu U EQ HN Z2 U U ?_))
  first | (refine QK hS1 U U Xc U (by rfl) (i:=0) U (by decide) ?_)
  intro w6 hS7; dsimp only[List.set]at hS7
  clear hS1
  refine Qe U U (Qe U U (Qf (Qc (Qu (Qp ?_)))))
  refine Of (.inr U) U (YT U X7 Xc (by first | exact hS7.blk 0 U) (by first | decide | exact Xa U | (simp;done) | omega) U) (KN U) (KN U) ?_
  exact⟨_,rfl, by unfold UN; rw[if_neg (by omega)];rfl,hS7.pick [1] U⟩
 obtain⟨m,rfl⟩: ∃m:Nat,a=(m:Int):=⟨a.toNat, by omega⟩
 refine Qt (Qc (Qd ?_))
 have hS8:=hS1.drew
 refine QF [0,1,2,3,4,5,6,7,8,9] [7] We (by kernel_rfl) ?_
 refine QG U U U (QG U U U (X8 U U U (fun _=>(ev_quo U U (by omega) (by omega) (by omega))) ?_))
 refine X8 U U U (fun _=>(Ww U Yc HN Z2 U)) ?_
 refine QG U U U (X8 U U U (fun _=>(Di U U (by omega) (by omega))) ?_)
 refine X8 U U U (fun _=>(Ol (m%64) U U (by omega))) ?_
 refine Xn U U U U U U ?_
 first | (refine QK hS8 U U Xc U (by rfl) (i:=0) U (by decide) ?_)
 intro w9 hS10; dsimp only[List.set]at hS10
 clear hS8
 refine Z4 .nil (Za U U U (Za U U U (VC.nil (Qc (Qh [4,5,6] U (Qu (Of (.inr U) U (YT U X7 Xc (by first | exact hS10.blk 0 U) (Xa U) U) (KN U) (KN U) ?_)))))))
 exact⟨_,rfl, by unfold UN; rw[if_pos (by omega)];rfl,hS10.pick [1] U⟩
end Go.Proofs.YtkcjfoaejijdoaaGreatDoor
