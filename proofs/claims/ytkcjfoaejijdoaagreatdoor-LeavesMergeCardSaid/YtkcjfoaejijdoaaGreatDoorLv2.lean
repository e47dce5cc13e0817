/- leaves: touch, place -/
import Derived.Test.YtkcjfoaejijdoaaGreatDoorLv1
set_option linter.unusedSectionVars false
set_option linter.unusedVariables false
set_option maxRecDepth 100000
set_option maxHeartbeats 80000000000
namespace Go.Proofs.YtkcjfoaejijdoaaGreatDoor
open Go.RowKit M Proofs.Tryz
variable [Inhabited SlW]
noncomputable def ZD (L:LvD) (id:Int) (t:TrD) (k:KD) (x:LfD):LvD:={L with tr:=Xu L.tr id (some {t with lv:=Xu t.lv k (some x)})}
theorem JQ {w:World} {b:Nat} {L:LvD} {id:Int} {t:TrD} {k:KD} {x:LfD} {As:List Th} (ht:L.tr id=some t) (hx:t.lv k=some x) (h:Sat w (XX b L::As)):
    Sat w (Q8 x.ad [intV x.base,intV x.own,Z5 x.rd,Z5 x.wr]::XW UW (Xu t.lv k none)::Q8 t.ad [intV t.parent,.map (some t.ml),.map (some t.md)]::Q5 Xr t.ml (X0 LfD.ad t.lv)::Q5 W8 t.md (ZF t.dr)::XW YW (Xu L.tr id none)::Q8 b [ptrV L.sp 0,.map (some L.mp),.map (some L.mt),intV L.cur,.map (some L.ms)]::Q5 Xr L.mp (XN L.pres)::Q5 QN L.mt (X0 TrD.ad L.tr)::Q5 QN L.ms (ZF L.sh)::As):= by
  have h1:=Z3 (i:=id) (t:=t) ((X1 h).perm ((List.Perm.cons _ (List.Perm.cons _ (List.Perm.swap _ _ _))).trans ((List.Perm.cons _ (List.Perm.swap _ _ _)).trans (List.Perm.swap _ _ _)))) ht
  have h2:=JC (k:=k) (x:=x) (h1.perm ((List.Perm.cons _ (List.Perm.swap _ _ _)).trans (List.Perm.swap _ _ _))) hx
  exact h2
theorem WJ {w:World} {b:Nat} {L:LvD} {id:Int} {t:TrD} {k:KD} {x y:LfD} {As:List Th} (ht:L.tr id=some t) (hx:t.lv k=some x) (hy:y.ad=x.ad)
    (h:Sat w (Q8 y.ad [intV y.base,intV y.own,Z5 y.rd,Z5 y.wr]::XW UW (Xu t.lv k none)::Q8 t.ad [intV t.parent,.map (some t.ml),.map (some t.md)]::Q5 Xr t.ml (X0 LfD.ad t.lv)::Q5 W8 t.md (ZF t.dr)::XW YW (Xu L.tr id none)::Q8 b [ptrV L.sp 0,.map (some L.mp),.map (some L.mt),intV L.cur,.map (some L.ms)]::Q5 Xr L.mp (XN L.pres)::Q5 QN L.mt (X0 TrD.ad L.tr)::Q5 QN L.ms (ZF L.sh)::As)):Sat w (XX b (ZD L id t k y)::As):= by
  have h1:=Ni (x:=y) h
  rw[←JN hx hy]at h1
  have h2:=Uk (t:={t with lv:=Xu t.lv k (some y)}) (i:=id) (T:=L.tr) (h1.perm ((List.Perm.swap _ _ _).trans (List.Perm.cons _ (List.Perm.swap _ _ _))))
  rw[←JN (ad:=TrD.ad) (f:=L.tr) (k:=id) (x:=t) (y:={t with lv:=Xu t.lv k (some y)}) ht U]at h2
  exact QX (L:=ZD L id t k y) (h2.perm ((List.Perm.swap _ _ _).trans ((List.Perm.cons _ (List.Perm.swap _ _ _)).trans (List.Perm.cons _ (List.Perm.cons _ (List.Perm.swap _ _ _))))))
theorem Dk {L:LvD} {id:Int} {t:TrD} {k:KD} {x:LfD}:(ZD L id t k x).tr id=some {t with lv:=Xu t.lv k (some x)}:=Qy
theorem GJ {T T':Int→Option TrD} (h: ∀i,(T' i).map TrD.parent=(T i).map TrD.parent): ∀n i,YE T n i→YE T' n i
  | 0,_,q=>q
  | n+1,i,q=> by
    rcases q with q | q
    · exact .inl q
    · refine .inr ?_
      have h1:=h i
      cases a:T i with
      | none=> rw[a]at h1; cases c:T' i with
        | none=>trivial
        | some y=> rw[c]at h1; cases h1
      | some x=>
        rw[a]at h1 q
        cases c:T' i with
        | none=>trivial
        | some y=>
          rw[c]at h1
          have e:y.parent=x.parent:= by simpa using h1
          show YE T' n y.parent
          rw[e]; exact GJ h n _ q
theorem WO {T:Int→Option TrD} {i:Int} {t t':TrD} (ht:T i=some t) (hp:t'.parent=t.parent): ∀j,((Xu T i (some t')) j).map TrD.parent=(T j).map TrD.parent:= fun j=> by
  by_cases e:j=i
  · subst e; rw[Qy,ht]; simp [hp]
  · rw[QF e]
theorem P1 {L:LvD} {id:Int} {t:TrD} {k:KD} {x:LfD} (ht:L.tr id=some t) (hE: ∀i,YE L.tr Zg i): ∀i,YE (ZD L id t k x).tr Zg i:= fun i=>GJ (WO (t':={t with lv:=Xu t.lv k (some x)}) ht U) _ _ (hE i)
def Hu (t:TrD) (k:KD) (s:Int) (a:Nat):LfD:=⟨a,s,s,0#64, if t.dr k.1=true then BitVec.allOnes 64 else 0#64⟩
def TouR (L:LvD) (V:VS) (id:Int) (t:TrD) (k:KD) (L':LvD) (V':VS) (t':TrD) (x':LfD):Prop:=
  (t.lv k=some x'∧L'=L∧V'=V∧t'=t)∨(t.lv k=none∧ ∃a,x'=Hu t k (Xo L id k) a∧t'={t with lv:=Xu t.lv k (some x')}∧L'={L with tr:=Xu L.tr id (some t'),sh:=JM (JM L.sh (Xo L id k)) (Xo L id k)}∧V'=refW (refW V (Xo L id k)) (Xo L id k))
section
variable {L L':LvD} {V V':VS} {id:Int} {t t':TrD} {k:KD} {x':LfD}
theorem TouR.tr (h:TouR L V id t k L' V' t' x') (ht:L.tr id=some t):L'.tr id=some t':= by
  rcases h with⟨_,rfl,_,rfl⟩ | ⟨_,a,_,_,rfl,_⟩
  · exact ht
  · exact Qy
theorem TouR.lv (h:TouR L V id t k L' V' t' x'):t'.lv k=some x':= by
  rcases h with⟨h,rfl,_,rfl⟩ | ⟨_,a,_,rfl,_,_⟩
  · exact h
  · exact Qy
theorem TouR.sp (h:TouR L V id t k L' V' t' x'):L'.sp=L.sp:= by
  rcases h with⟨_,rfl,_,_⟩ | ⟨_,a,_,_,rfl,_⟩<;>rfl
theorem TouR.ends (h:TouR L V id t k L' V' t' x') (ht:L.tr id=some t) (hE: ∀i,YE L.tr Zg i): ∀i,YE L'.tr Zg i:= by
  rcases h with⟨_,rfl,_,_⟩ | ⟨_,a,_,rfl,rfl,_⟩
  · exact hE
  · exact fun i=>GJ (WO (t':={t with lv:=Xu t.lv k (some x')}) ht U) _ _ (hE i)
theorem TouR.sees (h:TouR L V id t k L' V' t' x') (ht:L.tr id=some t) (h0:id≠0):Xo L' id k=x'.own:=Uo h0 (h.tr ht) h.lv
end
def Vm (ob:Bs) (a:Int):Value:= if 0≤a∧a<16384 then .tuple #[Xr (ob,a/ 64),Z5 (1#64<<<(a%64).toNat),.bool true]else .tuple #[Xr ([],0),Z5 0#64,.bool false]
def OwnP (L:LvD) (V:VS) (k:KD) (Fr:Nat) (L':LvD) (V':VS) (s e:Int):Prop:=
  (e=0∧s=L.pres k∧s≠0∧Zm V s=1∧L'=L∧V'=V)∨(e=6∧s=0∧H3 V Fr∧L'=L∧V'=V)∨
  (e=0∧1≤s∧V s=none∧ ¬(L.pres k≠0∧Zm V (L.pres k)=1)∧V'=Zj (Xu V s (some (1,XH V (L.pres k)))) (L.pres k)∧L'={L with pres:=Z6 L.pres k s,sh:=JJ (Xu V s (some (1,XH V (L.pres k)))) L.sh (L.pres k)})
def OwnT (L:LvD) (V:VS) (id:Int) (t:TrD) (k:KD) (x:LfD) (Fr:Nat) (L':LvD) (V':VS) (s e:Int):Prop:=
  (e=0∧s=x.own∧s≠0∧Zm V s=1∧L'=L∧V'=V)∨(e=6∧s=0∧H3 V Fr∧L'=L∧V'=V)∨
  (e=0∧1≤s∧V s=none∧ ¬(x.own≠0∧Zm V x.own=1)∧V'=Zj (Xu V s (some (1,XH V x.own))) x.own∧L'=ZD {L with sh:=JJ (Xu V s (some (1,XH V x.own))) L.sh x.own} id t k {x with own:=s})
theorem VU {κ α:Type} {ad:α→Nat} {f:κ→Option α} {k:κ} {x:α} {a:Nat} (h:ad x=a):upd (X0 ad f) k (some (ptrV a 0))=X0 ad (Xu f k (some x)):= by subst h; exact CW
theorem EN {w:World} {X:LfD} {a:Nat} {b1 o1:Int} {r1 w1:BitVec 64} {As:List Th} (hX:X=⟨a,b1,o1,r1,w1⟩) (h:Sat w (Q8 a [intV b1,intV o1,Z5 r1,Z5 w1]::As)):Sat w (Q8 X.ad [intV X.base,intV X.own,Z5 X.rd,Z5 X.wr]::As):= by subst hX; exact h
theorem X6 {w:World} {kb:Nat} {k:KD} {As:List Th} (h:Sat w (Q8 kb (Xr k).cells.toList::As)):Sat w (Q8 kb [strV k.1,intV k.2]::As):=h
theorem touch_y {w:World} {b n Fr:Nat} {L:LvD} {V:VS} {F:Th} (hS:Sat w [XX b L,XD L.sp n Fr V,F]) (hn:n≤60000000000) (hE: ∀i,YE L.tr Zg i) {id:Int} {t:TrD} (ht:L.tr id=some t) {k:KD} {x:LfD} (hx:t.lv k=some x):
    Calls prog 46 #[ptrV b 0,intV id,Xr k] w (Ret fun v w'=>v=ptrV x.ad 0∧Sat w' [XX b L,XD L.sp n Fr V,F]):= by
 replace hS:=X1 hS
 refine Qm func46 U ntmps46 U ?_
 refine Qd (Qa (XR hS U U U ?_))
 intro kb w1 j1
 replace j1:=X6 j1
 refine Qe U U (Qf (Qc (Qd (Qa (Qb U U (Qj U U (Qg U Zr U (Qr U Wx (j1.cell 1 U U) U (Qb U U (XV (k:=id) 3 j1 keysInt underlying82 U U U JU (u:=(ptrV t.ad 0)) (XY ht) U (Qe U U (Qf (Qc (Qh [1,0,5,6,7] U (Qd (Qd ?_))))))))))))))))
 have j2:=Z3 (j1.pick [4,0,1,2,3,5,6,7] U) ht
 have j3:=j2.drew
 refine QE [0,1,2,3,4,5,6] [] Wa (by kernel_rfl) ?_
 refine Q9 U U U (Xi U U U (QQ U U U ZE (Q4 U U U (Ql U WR (j3.cell 0 U U)) (Q4 U U U (XB U X9 Xf (j3.blk 5 U) (Xv U) U) (Q4 U U U (X2 (k:=k) 1 j3 keysKey underlying90 U U U HB (u:=(ptrV x.ad 0)) (XY hx)) (XK U U U (VC.nil (Qc (Qh [1,0,5,6,7,8] U (Qd (Qa (Qb U U (H4 underlying89 U U U (Qf (Qc (Xd U (Qd (Qa (Qb U U (Qe U U (Qf (Qc (Qu (Qp (QY (.inr U) U U ?_)))))))))))))))))))))))))
 have j4:=Zw ht (j3.pick [0,1,2,3,4,5,6,7,8,9,10,11] U)
 exact⟨_,U,U,QX (j4.pick [2,3,4,0,5,6,7] U)⟩
theorem touch_n {w:World} {b n Fr:Nat} {L:LvD} {V:VS} {F:Th} (hS:Sat w [XX b L,XD L.sp n Fr V,F]) (hn:n≤60000000000) (hE: ∀i,YE L.tr Zg i) {id:Int} {t:TrD} (ht:L.tr id=some t) {k:KD} (hx:t.lv k=none):
    Calls prog 46 #[ptrV b 0,intV id,Xr k] w (Ret fun v w'=> ∃a,v=ptrV a 0∧Sat w' [XX b {L with tr:=Xu L.tr id (some {t with lv:=Xu t.lv k (some (Hu t k (Xo L id k) a))}),sh:=JM (JM L.sh (Xo L id k)) (Xo L id k)},XD L.sp (n+2) Fr (refW (refW V (Xo L id k)) (Xo L id k)),F]):= by
 replace hS:=X1 hS
 refine Qm func46 U ntmps46 U ?_
 refine Qd (Qa (XR hS U U U ?_))
 intro kb w1 j1
 replace j1:=X6 j1
 refine Qe U U (Qf (Qc (Qd (Qa (Qb U U (Qj U U (Qg U Zr U (Qr U Wx (j1.cell 1 U U) U (Qb U U (XV (k:=id) 3 j1 keysInt underlying82 U U U JU (u:=(ptrV t.ad 0)) (XY ht) U (Qe U U (Qf (Qc (Qh [1,0,5,6,7] U (Qd (Qd ?_))))))))))))))))
 have j2:=Z3 (j1.pick [4,0,1,2,3,5,6,7] U) ht
 have j3:=j2.drew
 refine QE [0,1,2,3,4,5,6] [] Wa (by kernel_rfl) ?_
 refine Q9 U U U (Xi U U U (QQ U U U ZE (Q4 U U U (Ql U WR (j3.cell 0 U U)) (Q4 U U U (XB U X9 Xf (j3.blk 5 U) (Xv U) U) (Q4 U U U (X2 (k:=k) 1 j3 keysKey underlying90 U U U HB (u:=(.pointer none)) (Ur hx)) (XK U U U (VC.nil (Qc (Qh [1,0,5,6,7,8] U (Qd (Qa (Qb U U (JG underlying89 U U U (Qf (Qc (QR U (Qs (Qc (Qd ?_)))))))))))))))))))
 have j4:=Zw ht (j3.pick [0,1,2,3,4,5,6,7,8,9,10,11] U)
 have j5:=QX (L:=L) (j4.pick [2,3,4,0,5,1,6,7] U)
 refine Qa (Qb U U (Qb U U (Xw U X9 Xf (by first | exact j5.blk 1 U) (Xv U) U U ?_)))
 refine Qv YN U (Yy (j5.sp [0] U) hE id k) U ?_
 rintro _ w6 ⟨rfl,j6⟩
 replace j6:=j6.jn U U
 refine Qe U U (Qf (Qc (Qh [0,5,6,7,9] U (Qd (Qa (Qb U U (Qb U U (Mz (vs':=[intV (Xo L id k),intV (Xo L id k),.int .u64 0,.int .u64 0]) U LJ asz_88 zr_88 U U U (XR j6 U U U ?_)))))))))
 intro xa w8 j8
 refine Qe U U (Qf (Qc (Qd ?_)))
 have j9:=X1 (j8.pick [1,0,2,3,4] U)
 refine Qa (Qb U U (Qb U U (Qv Rb U (Ds (j9.sp [0,4,7] U) (by omega) (Xo L id k)) U ?_)))
 rintro _ w10 ⟨rfl,j10⟩
 replace j10:=j10.jn U U
 refine Qf (Qc (Qh [0,5,6,7,9,10] U (Qd (Qa (Qb U U (Qb U U (Qv Rb U (Ds (j10.sp [0,1,2] U) (by omega) (Xo L id k)) U ?_)))))))
 rintro _ w11 ⟨rfl,j11⟩
 replace j11:=j11.jn U U
 refine Qf (Qc (Qd (Qd ?_)))
 have j12:=Z3 (j11.pick [5,0,1,2,3,4,6,7,8] U) ht
 have j13:=j12.drew
 refine QE [0,1,2,3,4,5,6] [] Wa (by kernel_rfl) ?_
 refine Q9 U U U (Xi U U U (QQ U U U UM (Q4 U U U (Ql U K7 (j13.cell 0 U U)) (QQ U U U JT (Q4 U U U (Ql U W9 (j13.cell 11 U U)) (Q4 U U U (X2 (k:=k.1) 3 j13 keysStr underlying91 U U U zr_4 (u:= .bool (t.dr k.1)) (Co _ _)) (VC.nil (Qc (Qh [5,6,7,10,46] U (QT U (fun h14=> ?_) (fun h14=> ?_)))))))))))
 ·have hdr:t.dr k.1=true:=h14
  refine Qa (Qb U U (Qj U U (Qg U Wj U (QV j13 U U Kx U (i:=10) U (Xv U) ?_))))
  intro w15 j15; dsimp only[List.set]at j15
  refine Qf (Qc (Qd ?_))
  have j16:=j15.drew
  refine QE [0,1,2,3,4,5,6] [6] Wa (by kernel_rfl) ?_
  refine Q9 U U U (Xi U U U (QQ U U U ZE (Q4 U U U (Ql U WR (j16.cell 0 U U)) (Q4 U U U (XB U X9 Xf (j16.blk 11 U) (Xv U) U) (Q9 U U U (Xe U U U U U U ?_))))))
  refine Xp (k:=k) (v:=ptrV xa 0) 1 j16 keysKey underlying90 U U U U ?_
  intro w17 j17; dsimp only[List.set]at j17
  refine Zu (Xj (by kernel_rfl)) ?_
  refine VC.nil (Qc (Qh [6,10] U (Qd (Qa (Qb U U (Qe U U (Qf (Qc (Qu (QY (.inr U) U U ?_))))))))))
  have hX:(Hu t k (Xo L id k) xa)=⟨xa,Xo L id k,Xo L id k,0#64,BitVec.allOnes 64⟩:= by unfold Hu; rw[if_pos hdr]
  have hA:=EN hX (j17.pick [10,2,0,1,3,4,5,8,9,6,7,12] U)
  have hB:=TB hx hA
  have hB2:=hB.perm ((List.Perm.swap _ _ _).trans (List.Perm.cons _ (List.Perm.swap _ _ _)))
  rw[VU (ad:=LfD.ad) (x:=(Hu t k (Xo L id k) xa)) (a:=xa) U]at hB2
  have hC:=Uk (t:=({t with lv:=Xu t.lv k (some (Hu t k (Xo L id k) xa))}:TrD)) (i:=id) (T:=L.tr) hB2
  rw[←JN (ad:=TrD.ad) (f:=L.tr) (k:=id) (x:=t) (y:=({t with lv:=Xu t.lv k (some (Hu t k (Xo L id k) xa))}:TrD)) ht U]at hC
  exact⟨_,U,xa,U,QX (L:={L with tr:=Xu L.tr id (some ({t with lv:=Xu t.lv k (some (Hu t k (Xo L id k) xa))}:TrD)),sh:=JM (JM L.sh (Xo L id k)) (Xo L id k)}) (hC.reorder [1,2,3,0,4,5,6] U)⟩
 have hdr:t.dr k.1=false:=h14
 refine Qs (Qc (Qd ?_))
 have j18:=j13.drew
 refine QE [0,1,2,3,4,5,6] [6] Wa (by kernel_rfl) ?_
 refine Q9 U U U (Xi U U U (QQ U U U ZE (Q4 U U U (Ql U WR (j18.cell 0 U U)) (Q4 U U U (XB U X9 Xf (j18.blk 11 U) (Xv U) U) (Q9 U U U (Xe U U U U U U ?_))))))
 refine Xp (k:=k) (v:=ptrV xa 0) 1 j18 keysKey underlying90 U U U U ?_
 intro w19 j19; dsimp only[List.set]at j19
 refine Zu (Xj (by kernel_rfl)) ?_
 refine VC.nil (Qc (Qh [6,10] U (Qd (Qa (Qb U U (Qe U U (Qf (Qc (Qu (QY (.inr U) U U ?_))))))))))
 have hX:(Hu t k (Xo L id k) xa)=⟨xa,Xo L id k,Xo L id k,0#64,0#64⟩:= by unfold Hu; rw[if_neg (by rw[hdr];decide)]
 have hA:=EN hX (j19.pick [10,2,0,1,3,4,5,8,9,6,7,12] U)
 have hB:=TB hx hA
 have hB2:=hB.perm ((List.Perm.swap _ _ _).trans (List.Perm.cons _ (List.Perm.swap _ _ _)))
 rw[VU (ad:=LfD.ad) (x:=(Hu t k (Xo L id k) xa)) (a:=xa) U]at hB2
 have hC:=Uk (t:=({t with lv:=Xu t.lv k (some (Hu t k (Xo L id k) xa))}:TrD)) (i:=id) (T:=L.tr) hB2
 rw[←JN (ad:=TrD.ad) (f:=L.tr) (k:=id) (x:=t) (y:=({t with lv:=Xu t.lv k (some (Hu t k (Xo L id k) xa))}:TrD)) ht U]at hC
 exact⟨_,U,xa,U,QX (L:={L with tr:=Xu L.tr id (some ({t with lv:=Xu t.lv k (some (Hu t k (Xo L id k) xa))}:TrD)),sh:=JM (JM L.sh (Xo L id k)) (Xo L id k)}) (hC.reorder [1,2,3,0,4,5,6] U)⟩
theorem HE {w:World} {b n Fr:Nat} {L:LvD} {V:VS} {F:Th} (hS:Sat w [XX b L,XD L.sp n Fr V,F]) (hn:n≤60000000000) (hE: ∀i,YE L.tr Zg i) {id:Int} {t:TrD} (ht:L.tr id=some t) {k:KD}:
    Calls prog 46 #[ptrV b 0,intV id,Xr k] w (Ret fun v w'=> ∃L' V' t' x',v=ptrV x'.ad 0∧TouR L V id t k L' V' t' x'∧Sat w' [XX b L',XD L'.sp (n+2) Fr V',F]):= by
  cases hx:t.lv k with
  | some x=>
    refine(touch_y hS hn hE ht hx).mono fun e w h=>h.mono fun v w h=> ?_
    exact⟨L,V,t,x,h.1,.inl ⟨hx,rfl,rfl,rfl⟩,(Xn (by omega) (h.2.reorder [1,0,2] U)).reorder [1,0,2] U⟩
  | none=>
    refine(touch_n hS hn hE ht hx).mono fun e w h=>h.mono fun v w h=> ?_
    obtain⟨a,h1,h2⟩:=h
    exact⟨_,_,_,Hu t k (Xo L id k) a,h1,.inr ⟨hx,a,U,U,U,U⟩,h2⟩
theorem WY {w:World} {F:Th} (hS:Sat w [F]) (ob:Bs) (a:Int):
    Calls prog 42 #[strV ob,intV a] w (Ret fun v w'=>v=Vm ob a∧Sat w' [F]):= by
 refine Qm func42 U ntmps42 U ?_
 refine Qd (Qa (Xa hS Zy U U ?_))
 intro b1 w1 j1
 refine Qe U U (Qe U U (Qf (Qc (Qd (Qd (Qa (Qb U U (Xk U U U (Qb U U (Xc 9 U (fun h2=> ?_) (fun h2=> ?_)))))))))))
 ·refine Qi U U (Xm h2) U (Qi U U (Xm h2) U (QK U (Xm h2) U U (Qf (Qc (Qh [1,0,4,5,6,12] U (Xd U (Qd (Qa (Zo U AU Hn Zy U U ?_)))))))))
  first | (refine QG j1 U U Xf U (by rfl) (i:=0) U (by decide) ?_)
  intro w3 j4; dsimp only[List.set]at j4
  refine Qe U U (Qe U U (Qf (Qc (Qu (Qp (Ie (.inr U) U (Ho U X9 Xf (by first | exact j4.blk 0 U) (by decide) U) (Rt U) (Rt U) ?_))))))
  exact⟨_,rfl, by unfold Vm; rw[if_neg (by omega)];rfl,j4.pick [1] U⟩
 refine Qo U U (Q7 h2) (Qb U U (Qo U U (Q7 h2) (Jf U U U (QW U (Q7 h2) U U (Qf (Qc (Qh [1,0,4,5,6,12] U (Qt U (fun h5=> ?_) (fun h5=> ?_)))))))))
 ·refine Qd (Qa (Zo U AU Hn Zy U U ?_))
  first | (refine QG j1 U U Xf U (by rfl) (i:=0) U (by decide) ?_)
  intro w6 j7; dsimp only[List.set]at j7
  refine Qe U U (Qe U U (Qf (Qc (Qu (Qp (Ie (.inr U) U (Ho U X9 Xf (by first | exact j7.blk 0 U) (by decide) U) (Rt U) (Rt U) ?_))))))
  exact⟨_,rfl, by unfold Vm; rw[if_neg (by omega)];rfl,j7.pick [1] U⟩
 obtain⟨m,rfl⟩: ∃m:Nat,a=(m:Int):=⟨a.toNat, by omega⟩
 refine Qs (Qc (Qd ?_))
 have j8:=j1.drew
 refine QE [0,1,2,3,4,5,6,7,8,9] [7] Wa (by kernel_rfl) ?_
 refine Q9 U U U (Q9 U U U (QZ U U U (fun _=>(ev_quo U U (by omega) (by omega) (by omega))) ?_))
 refine QZ U U U (fun _=>(ZC U Jw Hn Zy U)) ?_
 refine Q9 U U U (QZ U U U (fun _=>(DH U U (by omega) (by omega))) ?_)
 refine QZ U U U (fun _=>(Ik (m%64) U U (by omega))) ?_
 refine Xe U U U U U U ?_
 first | (refine QG j8 U U Xf U (by rfl) (i:=0) U (by decide) ?_)
 intro w9 j10; dsimp only[List.set]at j10
 refine Zu .nil (XK U U U (XK U U U (VC.nil (Qc (Qh [4,5,6] U (Qu (Ie (.inr U) U (Ho U X9 Xf (by first | exact j10.blk 0 U) (Xv U) U) (Rt U) (Rt U) ?_)))))))
 exact⟨_,rfl, by unfold Vm; rw[if_pos (by omega)];rfl,j10.pick [1] U⟩
