/- leaves: touch, place -/
import Derived.Test.YtkgjmhcdacidoaaGreatDoorLv1
set_option linter.unusedSectionVars false
set_option linter.unusedVariables false
set_option maxRecDepth 100000
set_option maxHeartbeats 80000000000
namespace Go.Proofs.YtkgjmhcdacidoaaGreatDoor
open Go.RowKit M Proofs.Tryz
variable [Inhabited SlW]
noncomputable def ZX (L:LvD) (id:Int) (t:TrD) (k:KD) (x:LfD):LvD:={L with tr:=QK L.tr id (some {t with lv:=QK t.lv k (some x)})}
theorem YX {w:World} {b:Nat} {L:LvD} {id:Int} {t:TrD} {k:KD} {x:LfD} {As:List Th} (ht:L.tr id=some t) (hx:t.lv k=some x) (h:Sat w (Je b L::As)):
    Sat w (QC x.ad [intV x.base,intV x.own,Zh x.rd,Zh x.wr]::Xz KH (QK t.lv k none)::QC t.ad [intV t.parent,.map (some t.ml),.map (some t.md)]::Q4 Xr t.ml (XO LfD.ad t.lv)::Q4 Zd t.md (J0 t.dr)::Xz VG (QK L.tr id none)::QC b [ptrV L.sp 0,.map (some L.mp),.map (some L.mt),intV L.cur,.map (some L.ms)]::Q4 Xr L.mp (Zv L.pres)::Q4 QX L.mt (XO TrD.ad L.tr)::Q4 QX L.ms (J0 L.sh)::As):= by
  have h1:=ZI (i:=id) (t:=t) ((Zi h).perm ((List.Perm.cons _ (List.Perm.cons _ (List.Perm.swap _ _ _))).trans ((List.Perm.cons _ (List.Perm.swap _ _ _)).trans (List.Perm.swap _ _ _)))) ht
  have h2:=YJ (k:=k) (x:=x) (h1.perm ((List.Perm.cons _ (List.Perm.swap _ _ _)).trans (List.Perm.swap _ _ _))) hx
  exact h2
theorem Jq {w:World} {b:Nat} {L:LvD} {id:Int} {t:TrD} {k:KD} {x y:LfD} {As:List Th} (ht:L.tr id=some t) (hx:t.lv k=some x) (hy:y.ad=x.ad)
    (h:Sat w (QC y.ad [intV y.base,intV y.own,Zh y.rd,Zh y.wr]::Xz KH (QK t.lv k none)::QC t.ad [intV t.parent,.map (some t.ml),.map (some t.md)]::Q4 Xr t.ml (XO LfD.ad t.lv)::Q4 Zd t.md (J0 t.dr)::Xz VG (QK L.tr id none)::QC b [ptrV L.sp 0,.map (some L.mp),.map (some L.mt),intV L.cur,.map (some L.ms)]::Q4 Xr L.mp (Zv L.pres)::Q4 QX L.mt (XO TrD.ad L.tr)::Q4 QX L.ms (J0 L.sh)::As)):Sat w (Je b (ZX L id t k y)::As):= by
  have h1:=FY (x:=y) h
  rw[←W8 hx hy]at h1
  have h2:=VT (t:={t with lv:=QK t.lv k (some y)}) (i:=id) (T:=L.tr) (h1.perm ((List.Perm.swap _ _ _).trans (List.Perm.cons _ (List.Perm.swap _ _ _))))
  rw[←W8 (ad:=TrD.ad) (f:=L.tr) (k:=id) (x:=t) (y:={t with lv:=QK t.lv k (some y)}) ht U]at h2
  exact Xw (L:=ZX L id t k y) (h2.perm ((List.Perm.swap _ _ _).trans ((List.Perm.cons _ (List.Perm.swap _ _ _)).trans (List.Perm.cons _ (List.Perm.cons _ (List.Perm.swap _ _ _))))))
theorem Fu {L:LvD} {id:Int} {t:TrD} {k:KD} {x:LfD}:(ZX L id t k x).tr id=some {t with lv:=QK t.lv k (some x)}:=Qr
theorem Du {T T':Int→Option TrD} (h: ∀i,(T' i).map TrD.parent=(T i).map TrD.parent): ∀n i,H9 T n i→H9 T' n i
  | 0,_,q=>q
  | n+1,i,q=> by
    rcases q with q | q
    · exact .inl q
    · refine .inr ?_
      have h1:=h i
      cases a:T i with
      | none=> rw[a]at h1; cases c:T' i with
        | none=>trivial
        | some y=> rw[c]at h1; cases h1
      | some x=>
        rw[a]at h1 q
        cases c:T' i with
        | none=>trivial
        | some y=>
          rw[c]at h1
          have e:y.parent=x.parent:= by simpa using h1
          show H9 T' n y.parent
          rw[e]; exact Du h n _ q
theorem Jw {T:Int→Option TrD} {i:Int} {t t':TrD} (ht:T i=some t) (hp:t'.parent=t.parent): ∀j,((QK T i (some t')) j).map TrD.parent=(T j).map TrD.parent:= fun j=> by
  by_cases e:j=i
  · subst e; rw[Qr,ht]; simp [hp]
  · rw[Qw e]
def Yo (t:TrD) (k:KD) (s:Int) (a:Nat):LfD:=⟨a,s,s,0#64, if t.dr k.1=true then BitVec.allOnes 64 else 0#64⟩
def TouR (L:LvD) (V:VS) (id:Int) (t:TrD) (k:KD) (L':LvD) (V':VS) (t':TrD) (x':LfD):Prop:=
  (t.lv k=some x'∧L'=L∧V'=V∧t'=t)∨(t.lv k=none∧ ∃a,x'=Yo t k (Xx L id k) a∧t'={t with lv:=QK t.lv k (some x')}∧L'={L with tr:=QK L.tr id (some t'),sh:=Yi (Yi L.sh (Xx L id k)) (Xx L id k)}∧V'=refW (refW V (Xx L id k)) (Xx L id k))
section
variable {L L':LvD} {V V':VS} {id:Int} {t t':TrD} {k:KD} {x':LfD}
theorem TouR.tr (h:TouR L V id t k L' V' t' x') (ht:L.tr id=some t):L'.tr id=some t':= by
  rcases h with⟨_,rfl,_,rfl⟩ | ⟨_,a,_,_,rfl,_⟩
  · exact ht
  · exact Qr
theorem TouR.lv (h:TouR L V id t k L' V' t' x'):t'.lv k=some x':= by
  rcases h with⟨h,rfl,_,rfl⟩ | ⟨_,a,_,rfl,_,_⟩
  · exact h
  · exact Qr
theorem TouR.sp (h:TouR L V id t k L' V' t' x'):L'.sp=L.sp:= by
  rcases h with⟨_,rfl,_,_⟩ | ⟨_,a,_,_,rfl,_⟩<;>rfl
theorem TouR.ends (h:TouR L V id t k L' V' t' x') (ht:L.tr id=some t) (hE: ∀i,H9 L.tr Wx i): ∀i,H9 L'.tr Wx i:= by
  rcases h with⟨_,rfl,_,_⟩ | ⟨_,a,_,rfl,rfl,_⟩
  · exact hE
  · exact fun i=>Du (Jw (t':={t with lv:=QK t.lv k (some x')}) ht U) _ _ (hE i)
theorem TouR.sees (h:TouR L V id t k L' V' t' x') (ht:L.tr id=some t) (h0:id≠0):Xx L' id k=x'.own:=UC h0 (h.tr ht) h.lv
end
def Rd (ob:Bs) (a:Int):Value:= if 0≤a∧a<16384 then .tuple #[Xr (ob,a/ 64),Zh (1#64<<<(a%64).toNat),.bool true]else .tuple #[Xr ([],0),Zh 0#64,.bool false]
def OwnP (L:LvD) (V:VS) (k:KD) (Fr:Nat) (L':LvD) (V':VS) (s e:Int):Prop:=
  (e=0∧s=L.pres k∧s≠0∧Z2 V s=1∧L'=L∧V'=V)∨(e=6∧s=0∧Yz V Fr∧L'=L∧V'=V)∨
  (e=0∧1≤s∧V s=none∧ ¬(L.pres k≠0∧Z2 V (L.pres k)=1)∧V'=Zz (QK V s (some (1,XY V (L.pres k)))) (L.pres k)∧L'={L with pres:=We L.pres k s,sh:=YD (QK V s (some (1,XY V (L.pres k)))) L.sh (L.pres k)})
def OwnT (L:LvD) (V:VS) (id:Int) (t:TrD) (k:KD) (x:LfD) (Fr:Nat) (L':LvD) (V':VS) (s e:Int):Prop:=
  (e=0∧s=x.own∧s≠0∧Z2 V s=1∧L'=L∧V'=V)∨(e=6∧s=0∧Yz V Fr∧L'=L∧V'=V)∨
  (e=0∧1≤s∧V s=none∧ ¬(x.own≠0∧Z2 V x.own=1)∧V'=Zz (QK V s (some (1,XY V x.own))) x.own∧L'=ZX {L with sh:=YD (QK V s (some (1,XY V x.own))) L.sh x.own} id t k {x with own:=s})
theorem Db {κ α:Type} {ad:α→Nat} {f:κ→Option α} {k:κ} {x:α} {a:Nat} (h:ad x=a):upd (XO ad f) k (some (ptrV a 0))=XO ad (QK f k (some x)):= by subst h; exact VZ
theorem SH {w:World} {X:LfD} {a:Nat} {b1 o1:Int} {r1 w1:BitVec 64} {As:List Th} (hX:X=⟨a,b1,o1,r1,w1⟩) (h:Sat w (QC a [intV b1,intV o1,Zh r1,Zh w1]::As)):Sat w (QC X.ad [intV X.base,intV X.own,Zh X.rd,Zh X.wr]::As):= by subst hX; exact h
theorem Zw {w:World} {kb:Nat} {k:KD} {As:List Th} (h:Sat w (QC kb (Xr k).cells.toList::As)):Sat w (QC kb [strV k.1,intV k.2]::As):=h
theorem touch_y {w:World} {b n Fr:Nat} {L:LvD} {V:VS} {F:Th} (hS:Sat w [Je b L,ZR L.sp n Fr V,F]) (hn:n≤60000000000) (hE: ∀i,H9 L.tr Wx i) {id:Int} {t:TrD} (ht:L.tr id=some t) {k:KD} {x:LfD} (hx:t.lv k=some x):
    Calls prog 59 #[ptrV b 0,intV id,Xr k] w (Ret fun v w'=>v=ptrV x.ad 0∧Sat w' [Je b L,ZR L.sp n Fr V,F]):= by
 replace hS:=Zi hS
 refine Qm func59 U ntmps59 U ?_
 refine Qe (Qa (XV hS U U U ?_))
 intro kb w1 j1
 replace j1:=Zw j1
 refine Qd U U (Qf (Qc (Qe (Qa (Qb U U (Qi U U (Qg U Wh U (Qn U JM (by first | assumption | exact j1.cell 0 U U | exact j1.cell 1 U U) U ?_))))))))
 refine Qb U U (XA (k:=id) 3 j1 keysInt underlying106 U U U Y9 (u:=(ptrV t.ad 0)) (XR ht) U (Qd U U (Qf (Qc (Qh [1,0,5,6,7] U (Qe (Qe ?_)))))))
 have j2:=ZI (j1.pick [4,0,1,2,3,5,6,7] U) ht
 have j3:=j2.drew
 refine Q6 [0,1,2,3,4,5,6] [] ZF (by kernel_rfl) ?_
 refine Q9 U U U (QQ U U U (QI U U U ZC (Q1 U U U (Ql U W6 (by first | assumption | exact j3.cell 0 U U | exact j3.cell 5 U U | exact j3.cell 6 U U)) ?_)))
 refine Q1 U U U (Xp U Xt QZ (by first | exact j3.blk 0 U | exact j3.blk 5 U | exact j3.blk 6 U) (by first | decide | exact Q5 U | (simp;done) | omega) U) ?_
 refine Q1 U U U (Xj (k:=k) 1 j3 keysKey underlying110 U U U Yf (u:=(ptrV x.ad 0)) (XR hx)) (Za U U U (VC.nil (Qc (Qh [1,0,5,6,7,8] U (Qe (Qa (Qb U U (Zy underlying116 U U U (Qf (Qc (X3 U (Qe (Qa (Qb U U (Qd U U (Qf (Qc (Qv (Qq (QM (.inr U) U U ?_))))))))))))))))))))
 have j4:=ZJ ht (j3.pick [0,1,2,3,4,5,6,7,8,9,10,11] U)
 exact⟨_,U,U,Xw (j4.pick [2,3,4,0,5,6,7] U)⟩
theorem touch_n {w:World} {b n Fr:Nat} {L:LvD} {V:VS} {F:Th} (hS:Sat w [Je b L,ZR L.sp n Fr V,F]) (hn:n≤60000000000) (hE: ∀i,H9 L.tr Wx i) {id:Int} {t:TrD} (ht:L.tr id=some t) {k:KD} (hx:t.lv k=none):
    Calls prog 59 #[ptrV b 0,intV id,Xr k] w (Ret fun v w'=> ∃a,v=ptrV a 0∧Sat w' [Je b {L with tr:=QK L.tr id (some {t with lv:=QK t.lv k (some (Yo t k (Xx L id k) a))}),sh:=Yi (Yi L.sh (Xx L id k)) (Xx L id k)},ZR L.sp (n+2) Fr (refW (refW V (Xx L id k)) (Xx L id k)),F]):= by
 replace hS:=Zi hS
 refine Qm func59 U ntmps59 U ?_
 refine Qe (Qa (XV hS U U U ?_))
 intro kb w1 j1
 replace j1:=Zw j1
 refine Qd U U (Qf (Qc (Qe (Qa (Qb U U (Qi U U (Qg U Wh U (Qn U JM (by first | assumption | exact j1.cell 0 U U | exact j1.cell 1 U U) U ?_))))))))
 refine Qb U U (XA (k:=id) 3 j1 keysInt underlying106 U U U Y9 (u:=(ptrV t.ad 0)) (XR ht) U (Qd U U (Qf (Qc (Qh [1,0,5,6,7] U (Qe (Qe ?_)))))))
 have j2:=ZI (j1.pick [4,0,1,2,3,5,6,7] U) ht
 have j3:=j2.drew
 refine Q6 [0,1,2,3,4,5,6] [] ZF (by kernel_rfl) ?_
 refine Q9 U U U (QQ U U U (QI U U U ZC (Q1 U U U (Ql U W6 (by first | assumption | exact j3.cell 0 U U | exact j3.cell 5 U U | exact j3.cell 6 U U)) ?_)))
 refine Q1 U U U (Xp U Xt QZ (by first | exact j3.blk 0 U | exact j3.blk 5 U | exact j3.blk 6 U) (by first | decide | exact Q5 U | (simp;done) | omega) U) ?_
 refine Q1 U U U (Xj (k:=k) 1 j3 keysKey underlying110 U U U Yf (u:=(.pointer none)) (Dc hx)) (Za U U U (VC.nil (Qc (Qh [1,0,5,6,7,8] U (Qe (Qa (Qb U U (Zr underlying116 U U U (Qf (Qc (QW U (Qt (Qc (Qe ?_))))))))))))))
 have j4:=ZJ ht (j3.pick [0,1,2,3,4,5,6,7,8,9,10,11] U)
 have j5:=Xw (L:=L) (j4.pick [2,3,4,0,5,1,6,7] U)
 refine Qa (Qb U U (Qb U U ?_))
 refine Wq U Xt QZ (by first | exact j5.blk 1 U) (by first | decide | exact Q5 U | (simp;done) | omega) U U ?_
 refine Qy Bo U (DH (j5.sp [0] U) hE id k) U ?_
 rintro _ w6 ⟨rfl,j6⟩
 replace j6:=j6.jn U U
 refine Qd U U (Qf (Qc (Qh [0,5,6,7,9] U (Qe (Qa (Qb U U (Qb U U (KN (vs':=[intV (Xx L id k),intV (Xx L id k),.int .u64 0,.int .u64 0]) U CE asz_120 zr_120 U U U (XV j6 U U U ?_)))))))))
 intro xa w8 j8
 refine Qd U U (Qf (Qc (Qe ?_)))
 have j9:=Zi (j8.pick [1,0,2,3,4] U)
 refine Qa (Qb U U (Qb U U (Qy Mn U (N1 (j9.sp [0,4,7] U) (by omega) (Xx L id k)) U ?_)))
 rintro _ w10 ⟨rfl,j10⟩
 replace j10:=j10.jn U U
 refine Qf (Qc (Qh [0,5,6,7,9,10] U (Qe (Qa (Qb U U (Qb U U (Qy Mn U (N1 (j10.sp [0,1,2] U) (by omega) (Xx L id k)) U ?_)))))))
 rintro _ w11 ⟨rfl,j11⟩
 replace j11:=j11.jn U U
 refine Qf (Qc (Qe (Qe ?_)))
 have j12:=ZI (j11.pick [5,0,1,2,3,4,6,7,8] U) ht
 have j13:=j12.drew
 refine Q6 [0,1,2,3,4,5,6] [] ZF (by kernel_rfl) ?_
 refine Q9 U U U (QQ U U U (QI U U U Us (Q1 U U U (Ql U Rq (by first | assumption | exact j13.cell 0 U U | exact j13.cell 5 U U | exact j13.cell 10 U U | exact j13.cell 11 U U)) ?_)))
 refine QI U U U JJ (Q1 U U U (Ql U JN (by first | assumption | exact j13.cell 0 U U | exact j13.cell 5 U U | exact j13.cell 10 U U | exact j13.cell 11 U U)) ?_)
 refine Q1 U U U (Xj (k:=k.1) 3 j13 keysStr underlying111 U U U zr_4 (u:= .bool (t.dr k.1)) (M0 _ _)) (VC.nil (Qc (Qh [5,6,7,10,46] U (QP U (fun h14=> ?_) (fun h14=> ?_)))))
 ·have hdr:t.dr k.1=true:=h14
  refine Qa (Qb U U (Qi U U (Qg U Wg U ?_)))
  refine Qx j13 U U G6 U (i:=10) U (by first | decide | exact Q5 U | (simp;done)) ?_
  intro w15 j15; dsimp only[List.set]at j15
  refine Qf (Qc (Qe ?_))
  have j16:=j15.drew
  refine Q6 [0,1,2,3,4,5,6] [6] ZF (by kernel_rfl) ?_
  refine Q9 U U U (QQ U U U (QI U U U ZC (Q1 U U U (Ql U W6 (by first | assumption | exact j16.cell 0 U U | exact j16.cell 5 U U | exact j16.cell 10 U U | exact j16.cell 11 U U)) ?_)))
  refine Q1 U U U (Xp U Xt QZ (by first | exact j16.blk 0 U | exact j16.blk 5 U | exact j16.blk 10 U | exact j16.blk 11 U) (by first | decide | exact Q5 U | (simp;done) | omega) U) ?_
  refine Q9 U U U (Xa U U U U U U ?_)
  refine QY (k:=k) (v:=ptrV xa 0) 1 j16 keysKey underlying110 U U U U ?_
  intro w17 j17; dsimp only[List.set]at j17
  refine XS (Xf (by kernel_rfl)) ?_
  refine VC.nil (Qc (Qh [6,10] U (Qe (Qa (Qb U U (Qd U U (Qf (Qc (Qv (QM (.inr U) U U ?_))))))))))
  have hX:(Yo t k (Xx L id k) xa)=⟨xa,Xx L id k,Xx L id k,0#64,BitVec.allOnes 64⟩:= by unfold Yo; rw[if_pos hdr]
  have hA:=SH hX (j17.pick [10,2,0,1,3,4,5,8,9,6,7,12] U)
  have hB:=NB hx hA
  have hB2:=hB.perm ((List.Perm.swap _ _ _).trans (List.Perm.cons _ (List.Perm.swap _ _ _)))
  rw[Db (ad:=LfD.ad) (x:=(Yo t k (Xx L id k) xa)) (a:=xa) U]at hB2
  have hC:=VT (t:=({t with lv:=QK t.lv k (some (Yo t k (Xx L id k) xa))}:TrD)) (i:=id) (T:=L.tr) hB2
  rw[←W8 (ad:=TrD.ad) (f:=L.tr) (k:=id) (x:=t) (y:=({t with lv:=QK t.lv k (some (Yo t k (Xx L id k) xa))}:TrD)) ht U]at hC
  exact⟨_,U,xa,U,Xw (L:={L with tr:=QK L.tr id (some ({t with lv:=QK t.lv k (some (Yo t k (Xx L id k) xa))}:TrD)),sh:=Yi (Yi L.sh (Xx L id k)) (Xx L id k)}) (hC.reorder [1,2,3,0,4,5,6] U)⟩
 have hdr:t.dr k.1=false:=h14
 refine Qt (Qc (Qe ?_))
 have j18:=j13.drew
 refine Q6 [0,1,2,3,4,5,6] [6] ZF (by kernel_rfl) ?_
 refine Q9 U U U (QQ U U U (QI U U U ZC (Q1 U U U (Ql U W6 (by first | assumption | exact j18.cell 0 U U | exact j18.cell 5 U U | exact j18.cell 10 U U | exact j18.cell 11 U U)) ?_)))
 refine Q1 U U U (Xp U Xt QZ (by first | exact j18.blk 0 U | exact j18.blk 5 U | exact j18.blk 10 U | exact j18.blk 11 U) (by first | decide | exact Q5 U | (simp;done) | omega) U) ?_
 refine Q9 U U U (Xa U U U U U U ?_)
 refine QY (k:=k) (v:=ptrV xa 0) 1 j18 keysKey underlying110 U U U U ?_
 intro w19 j19; dsimp only[List.set]at j19
 refine XS (Xf (by kernel_rfl)) ?_
 refine VC.nil (Qc (Qh [6,10] U (Qe (Qa (Qb U U (Qd U U (Qf (Qc (Qv (QM (.inr U) U U ?_))))))))))
 have hX:(Yo t k (Xx L id k) xa)=⟨xa,Xx L id k,Xx L id k,0#64,0#64⟩:= by unfold Yo; rw[if_neg (by rw[hdr];decide)]
 have hA:=SH hX (j19.pick [10,2,0,1,3,4,5,8,9,6,7,12] U)
 have hB:=NB hx hA
 have hB2:=hB.perm ((List.Perm.swap _ _ _).trans (List.Perm.cons _ (List.Perm.swap _ _ _)))
 rw[Db (ad:=LfD.ad) (x:=(Yo t k (Xx L id k) xa)) (a:=xa) U]at hB2
 have hC:=VT (t:=({t with lv:=QK t.lv k (some (Yo t k (Xx L id k) xa))}:TrD)) (i:=id) (T:=L.tr) hB2
 rw[←W8 (ad:=TrD.ad) (f:=L.tr) (k:=id) (x:=t) (y:=({t with lv:=QK t.lv k (some (Yo t k (Xx L id k) xa))}:TrD)) ht U]at hC
 exact⟨_,U,xa,U,Xw (L:={L with tr:=QK L.tr id (some ({t with lv:=QK t.lv k (some (Yo t k (Xx L id k) xa))}:TrD)),sh:=Yi (Yi L.sh (Xx L id k)) (Xx L id k)}) (hC.reorder [1,2,3,0,4,5,6] U)⟩
theorem G0 {w:World} {b n Fr:Nat} {L:LvD} {V:VS} {F:Th} (hS:Sat w [Je b L,ZR L.sp n Fr V,F]) (hn:n≤60000000000) (hE: ∀i,H9 L.tr Wx i) {id:Int} {t:TrD} (ht:L.tr id=some t) {k:KD}:
    Calls prog 59 #[ptrV b 0,intV id,Xr k] w (Ret fun v w'=> ∃L' V' t' x',v=ptrV x'.ad 0∧TouR L V id t k L' V' t' x'∧Sat w' [Je b L',ZR L'.sp (n+2) Fr V',F]):= by
  cases hx:t.lv k with
  | some x=>
    refine(touch_y hS hn hE ht hx).mono fun e w h=>h.mono fun v w h=> ?_
    exact⟨L,V,t,x,h.1,.inl ⟨hx,rfl,rfl,rfl⟩,(XC (by omega) (h.2.reorder [1,0,2] U)).reorder [1,0,2] U⟩
  | none=>
    refine(touch_n hS hn hE ht hx).mono fun e w h=>h.mono fun v w h=> ?_
    obtain⟨a,h1,h2⟩:=h
    exact⟨_,_,_,Yo t k (Xx L id k) a,h1,.inr ⟨hx,a,U,U,U,U⟩,h2⟩
theorem MV {w:World} {F:Th} (hS:Sat w [F]) (ob:Bs) (a:Int):
    Calls prog 75 #[strV ob,intV a] w (Ret fun v w'=>v=Rd ob a∧Sat w' [F]):= by
 refine Qm func75 U ntmps75 U ?_
 refine Qe (Qa (Xb hS WA U U ?_))
 intro b1 w1 j1
 refine Qd U U (Qd U U (Qf (Qc (Qe (Qe (Qa (Qb U U (Xk U U U (Qb U U (QS 9 U (fun h2=> ?_) (fun h2=> ?_)))))))))))
 ·refine Qk U U (det h2) U (Qk U U (det h2) U (QH U (det h2) U U (Qf (Qc (Qh [1,0,4,5,6,12] U (X3 U (Qe (Qa (Zm U N4 M3 WA U U ?_)))))))))
  first | (refine QF j1 U U QZ U (by first | rfl | (simp [QU,Value.oneCell'];done) | assumption | exact hone) (i:=0) U (by first | decide | exact Q5 U | (simp;done) | omega) ?_)
  intro w3 j4; dsimp only[List.set]at j4
  refine Qd U U (Qd U U (Qf (Qc (Qv (Qq ?_)))))
  refine Lo (.inr U) U (Fw U Xt QZ (by first | exact j4.blk 0 U) (by first | decide | exact Q5 U | (simp;done) | omega) U) (VX U) (VX U) ?_
  exact⟨_,rfl, by unfold Rd; rw[if_neg (by omega)];rfl,j4.pick [1] U⟩
 refine Qj U U (QJ h2) (Qb U U (Qj U U (QJ h2) (Yg U U U (QG U (QJ h2) U U (Qf (Qc (Qh [1,0,4,5,6,12] U (Qu U (fun h5=> ?_) (fun h5=> ?_)))))))))
 ·refine Qe (Qa (Zm U N4 M3 WA U U ?_))
  first | (refine QF j1 U U QZ U (by first | rfl | (simp [QU,Value.oneCell'];done) | assumption | exact hone) (i:=0) U (by first | decide | exact Q5 U | (simp;done) | omega) ?_)
  intro w6 j7; dsimp only[List.set]at j7
  refine Qd U U (Qd U U (Qf (Qc (Qv (Qq ?_)))))
  refine Lo (.inr U) U (Fw U Xt QZ (by first | exact j7.blk 0 U) (by first | decide | exact Q5 U | (simp;done) | omega) U) (VX U) (VX U) ?_
  exact⟨_,rfl, by unfold Rd; rw[if_neg (by omega)];rfl,j7.pick [1] U⟩
 obtain⟨m,rfl⟩: ∃m:Nat,a=(m:Int):=⟨a.toNat, by omega⟩
 refine Qt (Qc (Qe ?_))
 have j8:=j1.drew
 refine Q6 [0,1,2,3,4,5,6,7,8,9] [7] ZF (by kernel_rfl) ?_
 refine Q9 U U U (Q9 U U U (X9 U U U (fun _=>(ev_quo U U (by omega) (by omega) (by omega))) ?_))
 refine X9 U U U (fun _=>(Wb U CF M3 WA U)) ?_
 refine Q9 U U U (X9 U U U (fun _=>(Ma U U (by omega) (by omega))) ?_)
 refine X9 U U U (fun _=>(Lt (m%64) U U (by omega))) ?_
 refine Xa U U U U U U ?_
 first | (refine QF j8 U U QZ U (by first | rfl | (simp [QU,Value.oneCell'];done) | assumption | exact hone) (i:=0) U (by first | decide | exact Q5 U | (simp;done) | omega) ?_)
 intro w9 j10; dsimp only[List.set]at j10
 refine XS .nil (Za U U U (Za U U U (VC.nil (Qc (Qh [4,5,6] U (Qv ?_))))))
 refine Lo (.inr U) U (Fw U Xt QZ (by first | exact j10.blk 0 U) (by first | decide | exact Q5 U | (simp;done) | omega) U) (VX U) (VX U) ?_
 exact⟨_,rfl, by unfold Rd; rw[if_pos (by omega)];rfl,j10.pick [1] U⟩
theorem CD {V:VS} {j i:Int}:RC V j i≠none↔V i≠none:= by
  unfold RC
  cases h:V j with
  | none=> exact Iff.rfl
  | some x=>
    dsimp only
    by_cases e:i=j
    · subst e; rw[Qr,h]; simp
    · rw[Qw e]
theorem YG {V:VS} {j i:Int}:refW V j i≠none↔V i≠none:= by
  unfold refW;split
  · exact Iff.rfl
  · exact CD
def XT (V:VS) (j:Int):Prop:=j=0∨V j≠none
theorem stT_len {w:World} {p n F:Nat} {V:VS} {As:List Th} (h:Sat w (ZR p n F V::As)) {j:Int} {x:Int×Bs} (hx:V j=some x):x.2.length=64:= by
  obtain⟨S,hI,rfl,_,_⟩:=Jj h
  unfold vw at hx
  cases hq:S.all j with
  | none=> rw[hq]at hx; cases hx
  | some y=>
    rw[hq]at hx
    have hx2:(y.refs,y.pg)=x:= by simpa using hx
    subst hx2
    exact(hI.ent hq).2.2.2.2.1
theorem Fa {w:World} {p n F:Nat} {V:VS} {As:List Th} (h:Sat w (ZR p n F V::As)) {j:Int} (hj:XT V j):(XY V j).length=64:= by
  unfold XY
  cases hq:V j with
  | none=>
    rcases hj with rfl | hj
    · simp [zer]
    · exact absurd hq hj
  | some x=> exact stT_len h hq
theorem TouR.alive {L L':LvD} {V V':VS} {id:Int} {t t':TrD} {k:KD} {x':LfD} (h:TouR L V id t k L' V' t' x') (ht:L.tr id=some t) (h0:id≠0) (ha:XT V (Xx L id k)):XT V' x'.own:= by
  rcases h with⟨hx,rfl,rfl,rfl⟩ | ⟨_,a,rfl,_,_,rfl⟩
  · have e:Xx L' id k=x'.own:=UC h0 ht hx
    rwa [e]at ha
  · rcases ha with e | ha
    · exact .inl e
    · exact .inr (YG.2 (YG.2 ha))
theorem ownT_sp {w:World} {b n Fr:Nat} {L:LvD} {V:VS} {F:Th} (hS:Sat w [Je b L,ZR L.sp n Fr V,F]) (hn:n≤60000000000) (hE: ∀i,H9 L.tr Wx i) {id:Int} {t:TrD} (ht:L.tr id=some t) {k:KD} (h0:id≠0) (hal:XT V (Xx L id k)):
    Calls prog 77 #[ptrV b 0,intV id,Xr k] w (Ret fun v w'=> ∃L1 V1 t1 x1 L' V' s e,v= .tuple #[intV s,intV e]∧TouR L V id t k L1 V1 t1 x1∧OwnT L1 V1 id t1 k x1 Fr L' V' s e∧Sat w' [Je b L',ZR L'.sp (n+4) Fr V',F]):= by
 refine Qm func77 U ntmps77 U ?_
 refine Qe (Qa (XV hS U U U ?_))
 intro kb w1 j1
 replace j1:=Zw j1
 refine Qd U U (Qd U U (Qf (Qc (Qe (Qa (Qd U U (Qf (Qc (Qe (Qe (Qa (Qb U U (Xn U U U (Qf (Qc (Qu U (fun h2=> ?_) (fun h2=> ?_)))))))))))))))))
 ·refine Qa (Qb U U (Qb U U ?_))
  refine Wq U Xt QZ (by first | exact j1.blk 0 U) (by first | decide | exact Q5 U | (simp;done) | omega) U U ?_
  refine Qy Ng U (G0 (j1.sp [1,2] U) (by omega) hE ht (k:=k)) U ?_
  rintro _ w3 ⟨L1,V1,t1,x1,rfl,hT,j3⟩
  replace j3:=j3.jn U U
  have ht1:=hT.tr ht
  have hx1:=hT.lv
  have hE1:=hT.ends ht hE
  have hal1:=hT.alive ht h0 hal
  refine Qd U U (Qf (Qc (Qh [1,0,5,6,7,8] U (Qe (Qa (Qb U U (Qb U U ?_)))))))
  refine Wq U Xt QZ (by first | exact j3.blk 2 U) (by first | decide | exact Q5 U | (simp;done) | omega) U U ?_
  refine Qy Bo U (DH (j3.sp [0] U) hE1 id k) U ?_
  rintro _ w4 ⟨rfl,j4⟩
  replace j4:=j4.jn U U
  rw[hT.sees ht h0]
  refine Qd U U (Qf (Qc (Qh [0,5,6,7,8,9] U (Qe (Qe ?_)))))
  have j5:=Zi (j4.pick [0,1,2,3] U)
  refine Qa (Qb U U (Xn U U U (Qb U U (QS 24 U (fun h6=> ?_) (fun h6=> ?_)))))
  ·have hs0:x1.own≠0:=h6
   refine Qj U U (det h6) (Qb U U (Qj U U (det h6) (Qi U U (Qj U U (det h6) (Qg U Zo U (Qj U U (det h6) (Qn U Xy (by first | assumption | exact j5.cell 0 U U | exact j5.cell 6 U U) U ?_)))))))
   refine Qj U U (det h6) (Qb U U (Qj U U (det h6) (Qy Pm U (Fb (j5.sp [5] U) x1.own) U ?_)))
   rintro _ w7 ⟨rfl,j7⟩
   replace j7:=j7.jn U U
   refine Qj U U (det h6) (Xl U U U (QH U (det h6) U U (Qf (Qc (Qh [0,5,6,7,8,9,32] U (Qu U (fun h8=> ?_) (fun h8=> ?_)))))))
   ·have hs1:Z2 V1 x1.own=1:=h8
    exact Qe (Qa (Qb U U (Qd U U (Qd U U (Qf (Qc (Qv (Qq (Jc (.inr U) U U U (⟨_,rfl,L1,V1,t1,x1,L1,V1,_,_,rfl,hT,.inl ⟨rfl,rfl,hs0,hs1,rfl,rfl⟩,((XC (m:=n+4) (by omega) (j7.pick [0,1,2,3,4,5,7] U)).reorder [1,2,3,4,5,0,6] U |> fun q=>Xw q)⟩))))))))))
   have hnx: ¬(x1.own≠0∧Z2 V1 x1.own=1):= fun q=>h8 q.2
   refine Qt (Qc (Qe ?_))
   have j9:=j7.drew
   refine Q6 [0,1,2,3,4,5,6,7,8,9,10,11,12,13,14,15] [9,10] ZF (by kernel_rfl) ?_
   refine Q9 U U U (QQ U U U (QI U U U Zo (Q1 U U U (Ql U Xy (by first | assumption | exact j9.cell 1 U U | exact j9.cell 6 U U)) ?_)))
   refine Q9 U U U (QQ U U U (QI U U U Zo (Q1 U U U (Ql U Xy (by first | assumption | exact j9.cell 1 U U | exact j9.cell 6 U U)) ?_)))
   refine Q9 U U U (Xa U U U U U U ?_)
   refine Qy YO U (Ui (j9.sp [0] U) x1.own) U ?_
   rintro _ w10 ⟨rfl,j10⟩
   replace j10:=j10.jn U U
   refine X5 (.skip (by kernel_rfl) (.cons (.inl ⟨rfl,(Ql U Xy (by first | assumption | exact j10.cell 1 U U | exact j10.cell 6 U U))⟩) .nil)) ?_
   refine Xa U U U U U U ?_
   have hpg1:=Fa (j10.pick [0,1,2,3,4,5,6,7] U) hal1
   refine Xv Mx U (Nw (j10.sp [0] U) (by omega) hpg1) U ?_
   rintro e w11 ⟨_,rfl,(⟨rfl,hag,j11⟩ | ⟨fr,rfl,hf1,hf0,j11⟩)⟩
   ·refine⟨_,U, ?_⟩
    replace j11:=j11.jn U U
    refine X5 (Xf (by kernel_rfl)) ?_
    refine Q9 U U U (ZP U U U U (ZP U U U U (Za U U U (Za U U U (VC.nil (Qc (Qh [0,5,6,7,8,10,11] U (Qe (Qe (Qa (Qb U U (Xn U U U (Qf (Qc (Qu U (fun h12=> ?_) (fun h12=> ?_))))))))))))))))
    ·exact Qe (Qa (Qb U U (Qd U U (Qd U U (Qf (Qc (Qv (Qq (Jc (.inr U) U U U (⟨_,rfl,L1,V1,t1,x1,L1,V1,_,_,rfl,hT,.inr (.inl ⟨rfl,rfl,hag,rfl,rfl⟩),((XC (m:=n+4) (by omega) (j11.pick [0,1,2,3,4,5,7] U)).reorder [1,2,3,4,5,0,6] U |> fun q=>Xw q)⟩))))))))))
    exact absurd (by decide) h12
   refine⟨_,U, ?_⟩
   replace j11:=j11.jn U U
   refine X5 (Xf (by kernel_rfl)) ?_
   refine Q9 U U U (ZP U U U U (ZP U U U U (Za U U U (Za U U U (VC.nil (Qc (Qh [0,5,6,7,8,10,11] U (Qe (Qe (Qa (Qb U U (Xn U U U (Qf (Qc (Qu U (fun h13=> ?_) (fun h13=> ?_))))))))))))))))
   ·exact absurd U h13
   refine Qt (Qc (Qe (Qe (Qa (Qb U U (XQ underlying116 U U U (Qf (Qc (Qh [0,5,6,7,8,10,52] U (QW U (Qe ?_)))))))))))
   have j14:=Xw (L:=L1) (j11.pick [1,2,3,4,5,0,6,7] U)
   have j15:=YX ht1 hx1 (j14.pick [0,1,2,3] U)
   refine Qa (Qb U U (Qb U U (Qi U U (Qg U Wu U (Qn U QO (by first | assumption | exact j15.cell 0 U U | exact j15.cell 2 U U | exact j15.cell 6 U U | exact j15.cell 11 U U) U ?_)))))
   refine Qy HS U (HF (j15.sp [6,9,10] U) (by omega) x1.own) U ?_
   rintro _ w16 ⟨rfl,j16⟩
   replace j16:=j16.jn U U
   refine Qf (Qc (Qh [6,7,8,10] U (Qa (Qb U U (Qb U U (Qi U U (Qg U Wu U ?_)))))))
   refine Qx j16 U U WI U (i:=3) U (by first | decide | exact Q5 U | (simp;done)) ?_
   intro w17 j17; dsimp only[List.set]at j17
   refine Qf (Qc (Qe (Qa (Qb U U (Qd U U (Qd U U (Qf (Qc (Qv (Jc (.inr U) U U U ?_))))))))))
   have j18:=Jq (L:={L1 with sh:=YD (QK V1 fr (some (1,XY V1 x1.own))) L1.sh x1.own}) (y:={x1 with own:=fr}) ht1 hx1 U (j17.pick [3,4,5,6,7,8,0,9,10,1,2,11,12] U)
   exact⟨_,rfl,L1,V1,t1,x1,ZX ({L1 with sh:=YD (QK V1 fr (some (1,XY V1 x1.own))) L1.sh x1.own}) id t1 k {x1 with own:=fr},_,_,_,rfl,hT,.inr (.inr ⟨rfl,hf1,hf0,hnx,rfl,rfl⟩),(XC (m:=n+4) (by omega) (j18.pick [1,0,3] U)).reorder [1,0,2] U⟩
  have hnx: ¬(x1.own≠0∧Z2 V1 x1.own=1):= fun q=>h6 q.1
  refine Qk U U (QJ h6) U (Qk U U (QJ h6) U (Qk U U (QJ h6) U (Qk U U (QJ h6) U (Qk U U (QJ h6) U (Qk U U (QJ h6) U (Qk U U (QJ h6) U (QG U (QJ h6) U U (Qf (Qc (Qh [0,5,6,7,8,9,32] U (QW U (Qt (Qc (Qe ?_))))))))))))))
  have j19:=j5.drew
  refine Q6 [0,1,2,3,4,5,6,7,8,9,10,11,12,13,14,15] [9,10] ZF (by kernel_rfl) ?_
  refine Q9 U U U (QQ U U U (QI U U U Zo (Q1 U U U (Ql U Xy (by first | assumption | exact j19.cell 0 U U | exact j19.cell 6 U U)) ?_)))
  refine Q9 U U U (QQ U U U (QI U U U Zo (Q1 U U U (Ql U Xy (by first | assumption | exact j19.cell 0 U U | exact j19.cell 6 U U)) ?_)))
  refine Q9 U U U (Xa U U U U U U ?_)
  refine Qy YO U (Ui (j19.sp [5] U) x1.own) U ?_
  rintro _ w20 ⟨rfl,j20⟩
  replace j20:=j20.jn U U
  refine X5 (.skip (by kernel_rfl) (.cons (.inl ⟨rfl,(Ql U Xy (by first | assumption | exact j20.cell 1 U U | exact j20.cell 6 U U))⟩) .nil)) ?_
  refine Xa U U U U U U ?_
  have hpg1:=Fa (j20.pick [0,1,2,3,4,5,6,7] U) hal1
  refine Xv Mx U (Nw (j20.sp [0] U) (by omega) hpg1) U ?_
  rintro e w21 ⟨_,rfl,(⟨rfl,hag,j21⟩ | ⟨fr,rfl,hf1,hf0,j21⟩)⟩
  ·refine⟨_,U, ?_⟩
   replace j21:=j21.jn U U
   refine X5 (Xf (by kernel_rfl)) ?_
   refine Q9 U U U (ZP U U U U (ZP U U U U (Za U U U (Za U U U (VC.nil (Qc (Qh [0,5,6,7,8,10,11] U (Qe (Qe (Qa (Qb U U (Xn U U U (Qf (Qc (Qu U (fun h22=> ?_) (fun h22=> ?_))))))))))))))))
   ·exact Qe (Qa (Qb U U (Qd U U (Qd U U (Qf (Qc (Qv (Qq (Jc (.inr U) U U U (⟨_,rfl,L1,V1,t1,x1,L1,V1,_,_,rfl,hT,.inr (.inl ⟨rfl,rfl,hag,rfl,rfl⟩),((XC (m:=n+4) (by omega) (j21.pick [0,1,2,3,4,5,7] U)).reorder [1,2,3,4,5,0,6] U |> fun q=>Xw q)⟩))))))))))
   exact absurd (by decide) h22
  refine⟨_,U, ?_⟩
  replace j21:=j21.jn U U
  refine X5 (Xf (by kernel_rfl)) ?_
  refine Q9 U U U (ZP U U U U (ZP U U U U (Za U U U (Za U U U (VC.nil (Qc (Qh [0,5,6,7,8,10,11] U (Qe (Qe (Qa (Qb U U (Xn U U U (Qf (Qc (Qu U (fun h23=> ?_) (fun h23=> ?_))))))))))))))))
  ·exact absurd U h23
  refine Qt (Qc (Qe (Qe (Qa (Qb U U (XQ underlying116 U U U (Qf (Qc (Qh [0,5,6,7,8,10,52] U (QW U (Qe ?_)))))))))))
  have j24:=Xw (L:=L1) (j21.pick [1,2,3,4,5,0,6,7] U)
  have j25:=YX ht1 hx1 (j24.pick [0,1,2,3] U)
  refine Qa (Qb U U (Qb U U (Qi U U (Qg U Wu U (Qn U QO (by first | assumption | exact j25.cell 0 U U | exact j25.cell 2 U U | exact j25.cell 6 U U | exact j25.cell 11 U U) U ?_)))))
  refine Qy HS U (HF (j25.sp [6,9,10] U) (by omega) x1.own) U ?_
  rintro _ w26 ⟨rfl,j26⟩
  replace j26:=j26.jn U U
  refine Qf (Qc (Qh [6,7,8,10] U (Qa (Qb U U (Qb U U (Qi U U (Qg U Wu U ?_)))))))
  refine Qx j26 U U WI U (i:=3) U (by first | decide | exact Q5 U | (simp;done)) ?_
  intro w27 j27; dsimp only[List.set]at j27
  refine Qf (Qc (Qe (Qa (Qb U U (Qd U U (Qd U U (Qf (Qc (Qv (Jc (.inr U) U U U ?_))))))))))
  have j28:=Jq (L:={L1 with sh:=YD (QK V1 fr (some (1,XY V1 x1.own))) L1.sh x1.own}) (y:={x1 with own:=fr}) ht1 hx1 U (j27.pick [3,4,5,6,7,8,0,9,10,1,2,11,12] U)
  exact⟨_,rfl,L1,V1,t1,x1,ZX ({L1 with sh:=YD (QK V1 fr (some (1,XY V1 x1.own))) L1.sh x1.own}) id t1 k {x1 with own:=fr},_,_,_,rfl,hT,.inr (.inr ⟨rfl,hf1,hf0,hnx,rfl,rfl⟩),(XC (m:=n+4) (by omega) (j28.pick [1,0,3] U)).reorder [1,0,2] U⟩
 exact absurd (Decidable.not_not.1 h2) h0
theorem CI {w:World} {As:List Th} {b:Nat} {L:LvD} (hS:Sat w As) (i:Nat) (hi:As[i]? =some (Je b L)):w.cell? ⟨b,0,none⟩=some (ptrV L.sp 0):=(Zi (hS.pull i hi)).cell 0 U U
theorem Dd {ob:Bs} {a:Int} (h:0≤a∧a<16384):Rd ob a= .tuple #[Xr (ob,a/ 64),Zh (1#64<<<(a%64).toNat),.bool true]:= by unfold Rd; rw[if_pos h]
theorem OwnT.leaf {L L':LvD} {V V':VS} {id:Int} {t:TrD} {k:KD} {x:LfD} {Fr:Nat} {s e:Int} (h:OwnT L V id t k x Fr L' V' s e) (ht:L.tr id=some t) (hx:t.lv k=some x): ∃t' x',L'.tr id=some t'∧t'.lv k=some x'∧x'.wr=x.wr∧x'.rd=x.rd∧x'.base=x.base∧(e=0→x'.own=s):= by
  rcases h with⟨_,h2,_,_,rfl,_⟩ | ⟨h1,_,_,rfl,_⟩ | ⟨_,_,_,_,_,rfl⟩
  · exact⟨t,x,ht,hx,rfl,rfl,rfl, fun _=>h2.symm⟩
  · exact⟨t,x,ht,hx,rfl,rfl,rfl, fun q=> by omega⟩
  · exact⟨_,_,Fu,Qr,rfl,rfl,rfl, fun _=>rfl⟩
theorem OwnT.sp {L L':LvD} {V V':VS} {id:Int} {t:TrD} {k:KD} {x:LfD} {Fr:Nat} {s e:Int} (h:OwnT L V id t k x Fr L' V' s e):L'.sp=L.sp:= by
  rcases h with⟨_,h2,_,_,rfl,_⟩ | ⟨h1,_,_,rfl,_⟩ | ⟨_,_,_,_,_,rfl⟩<;>rfl
theorem Ec {w:World} {b n Fr:Nat} {L:LvD} {V:VS} {F:Th} (hS:Sat w [Je b L,ZR L.sp n Fr V,F]) (hn:n≤60000000000) (ob:Bs) (a:Int) (hE: ∀i,H9 L.tr Wx i) (hr:0≤a∧a<16384):
    Calls prog 41 #[ptrV b 0,intV 0,strV ob,intV a] w (Ret fun v w'=>v=Yk (btV V (L.pres (ob,a/ 64)) (a%64))∧Sat w' [Je b L,ZR L.sp n Fr V,F]):= by
 refine Qm func41 U ntmps41 U ?_
 refine Qe (Qa (Qd U U (Qf (Qc (Qe (Qa (Qb U U (Qb U U (Qy LT U (MV (hS.sp [] U) ob a) U ?_)))))))))
 rintro _ w1 ⟨rfl,j1⟩
 replace j1:=j1.jn U U
 rw[Dd hr]
 refine Qb U U (Qp U U U (Qp U U U (Qp U U U (Xb j1 WA U U ?_))))
 intro kb w2 j2
 refine QF j2 U U QZ U (by first | rfl | (simp [QU,Value.oneCell'];done)) (i:=0) U (by first | decide | exact Q5 U) ?_
 intro w3 j3; dsimp only[List.set]at j3
 replace j3:=Zw (k:=(ob,a/ 64)) j3
 refine Qd U U (Qd U U (Qf (Qc (Qh [3,1,0,8,9,10,11] U (Qe (Qe (Qa (Qb U U (QV U U (Qb U U (Xu 22 U (fun h4=> ?_) (fun h4=> ?_))))))))))))
 ·exact absurd h4 (by decide)
 refine Qj U U h4 (Qb U U (Qj U U h4 (Qb U U (Qj U U h4 (Qy Nf U (G3 (j3.sp [1] U) 0) U ?_)))))
 rintro _ w5 ⟨rfl,j5⟩
 replace j5:=j5.jn U U
 refine Qj U U h4 (QV U U (QG U h4 U U (Qf (Qc (Qh [3,1,0,8,9,10,27] U (QP U (fun h6=> ?_) (fun h6=> ?_)))))))
 ·exact absurd h6 (by simp [J5])
 refine Qt (Qc (Qe (Qe (Qa (Qb U U (Xn U U U (Qf (Qc (Qu U (fun h7=> ?_) (fun h7=> ?_))))))))))
 ·exact absurd U h7
 refine Qt (Qc (Qe ?_))
 have j8:=j5.drew
 refine Q6 [0,1,2,3,4,5,6,8,9,7,10,11] [7,10] ZF (by kernel_rfl) ?_
 refine Q9 U U U (QQ U U U (QI U U U Zo (Q1 U U U (Ql U Xy (CI j8 0 U)) (Q9 U U U (Q9 U U U ?_)))))
 refine Q1 U U U (Xp U Xt QZ (by first | exact j8.blk 1 U) (by first | decide | exact Q5 U | (simp;done) | omega) U) ?_
 refine Q9 U U U (X9 U U U (fun _=>(Ma U U (by omega) (by omega))) ?_)
 refine Xa U U U U U U ?_
 refine Qy Bo U (DH (j8.sp [0] U) hE 0 (ob,a/ 64)) U ?_
 rintro _ w9 ⟨rfl,j9⟩
 replace j9:=j9.jn U U
 rw[show Xx L 0 (ob,a/ 64)=L.pres (ob,a/ 64) from KX U]
 refine X5 (.skip (by kernel_rfl) (.cons (.inl ⟨rfl,(Ql U Xy (CI j9 0 U))⟩) .nil)) ?_
 refine Xa U U U U U U ?_
 refine Qy cal_79 U (stByte (j9.sp [2] U) (by omega) (L.pres (ob,a/ 64)) (a%64)) U ?_
 rintro _ w10 ⟨rfl,j10⟩
 replace j10:=j10.jn U U
 refine X5 (Xf (by kernel_rfl)) ?_
 exact Za U U U (VC.nil (Qc (Qh [8] U (Qv (QM (.inr U) U U (⟨_,U,U,j10.pick [1,0,3] U⟩))))))
