/- leaves: touch, place -/
import Derived.Test.YtkcjfoaejijdoaaGreatDoorLv1
set_option linter.unusedVariables false
set_option maxRecDepth 100000
set_option maxHeartbeats 800000000
namespace Go.Proofs.YtkcjfoaejijdoaaGreatDoor
open Go.RowKit M
noncomputable def Zy (L:LvD) (id:Int) (t:TrD) (k:KD) (x:LfD):LvD:={L with tr:=X5 L.tr id (some {t with lv:=X5 t.lv k (some x)})}
theorem Yw {w:World} {b:Nat} {L:LvD} {id:Int} {t:TrD} {k:KD} {x:LfD} {As:List Th} (ht:L.tr id=some t) (hx:t.lv k=some x) (h:Sat w (We b L::As)):
    Sat w (QK x.ad [intV x.base,intV x.own,Z0 x.rd,Z0 x.wr]::Z6 RM (X5 t.lv k none)::QK t.ad [intV t.parent,.map (some t.ml),.map (some t.md)]::Q8 X4 t.ml (Zp LfD.ad t.lv)::Q8 Xw t.md (Jl t.dr)::Z6 K7 (X5 L.tr id none)::QK b [ptrV L.sp 0,.map (some L.mp),.map (some L.mt),intV L.cur,.map (some L.ms)]::Q8 X4 L.mp (Zz L.pres)::Q8 Xl L.mt (Zp TrD.ad L.tr)::Q8 Xl L.ms (Jl L.sh)::As):= by
  have h1:=ZK (i:=id) (t:=t) ((Ze h).perm ((List.Perm.cons _ (List.Perm.cons _ (List.Perm.swap _ _ _))).trans ((List.Perm.cons _ (List.Perm.swap _ _ _)).trans (List.Perm.swap _ _ _)))) ht
  have h2:=HC (k:=k) (x:=x) (h1.perm ((List.Perm.cons _ (List.Perm.swap _ _ _)).trans (List.Perm.swap _ _ _))) hx
  exact h2
theorem Jf {w:World} {b:Nat} {L:LvD} {id:Int} {t:TrD} {k:KD} {x y:LfD} {As:List Th} (ht:L.tr id=some t) (hx:t.lv k=some x) (hy:y.ad=x.ad)
    (h:Sat w (QK y.ad [intV y.base,intV y.own,Z0 y.rd,Z0 y.wr]::Z6 RM (X5 t.lv k none)::QK t.ad [intV t.parent,.map (some t.ml),.map (some t.md)]::Q8 X4 t.ml (Zp LfD.ad t.lv)::Q8 Xw t.md (Jl t.dr)::Z6 K7 (X5 L.tr id none)::QK b [ptrV L.sp 0,.map (some L.mp),.map (some L.mt),intV L.cur,.map (some L.ms)]::Q8 X4 L.mp (Zz L.pres)::Q8 Xl L.mt (Zp TrD.ad L.tr)::Q8 Xl L.ms (Jl L.sh)::As)):Sat w (We b (Zy L id t k y)::As):= by
  have h1:=Ir (x:=y) h
  rw[←Uw hx hy]at h1
  have h2:=Rx (t:={t with lv:=X5 t.lv k (some y)}) (i:=id) (T:=L.tr) (h1.perm ((List.Perm.swap _ _ _).trans (List.Perm.cons _ (List.Perm.swap _ _ _))))
  rw[←Uw (ad:=TrD.ad) (f:=L.tr) (k:=id) (x:=t) (y:={t with lv:=X5 t.lv k (some y)}) ht rfl]at h2
  exact Xj (L:=Zy L id t k y) (h2.perm ((List.Perm.swap _ _ _).trans ((List.Perm.cons _ (List.Perm.swap _ _ _)).trans (List.Perm.cons _ (List.Perm.cons _ (List.Perm.swap _ _ _))))))
theorem DP {L:LvD} {id:Int} {t:TrD} {k:KD} {x:LfD}:(Zy L id t k x).tr id=some {t with lv:=X5 t.lv k (some x)}:=Q7
theorem Ba {T T':Int→Option TrD} (h: ∀i,(T' i).map TrD.parent=(T i).map TrD.parent): ∀n i,Y5 T n i→Y5 T' n i
  | 0,_,q=>q
  | n+1,i,q=> by
    rcases q with q | q
    · exact .inl q
    · refine .inr ?_
      have h1:=h i
      cases a:T i with
      | none=> rw[a]at h1; cases c:T' i with
        | none=>trivial
        | some y=> rw[c]at h1; cases h1
      | some x=>
        rw[a]at h1 q
        cases c:T' i with
        | none=>trivial
        | some y=>
          rw[c]at h1
          have e:y.parent=x.parent:= by simpa using h1
          show Y5 T' n y.parent
          rw[e]; exact Ba h n _ q
theorem Jd {T:Int→Option TrD} {i:Int} {t t':TrD} (ht:T i=some t) (hp:t'.parent=t.parent): ∀j,((X5 T i (some t')) j).map TrD.parent=(T j).map TrD.parent:= fun j=> by
  by_cases e:j=i
  · subst e; rw[Q7,ht]; simp [hp]
  · rw[QN e]
theorem S8 {L:LvD} {id:Int} {t:TrD} {k:KD} {x:LfD} (ht:L.tr id=some t) (hE: ∀i,Y5 L.tr Zv i): ∀i,Y5 (Zy L id t k x).tr Zv i:= fun i=>Ba (Jd (t':={t with lv:=X5 t.lv k (some x)}) ht rfl) _ _ (hE i)
def Hl (t:TrD) (k:KD) (s:Int) (a:Nat):LfD:=⟨a,s,s,0#64, if t.dr k.1=true then BitVec.allOnes 64 else 0#64⟩
def TouR (L:LvD) (V:VS) (id:Int) (t:TrD) (k:KD) (L':LvD) (V':VS) (t':TrD) (x':LfD):Prop:=
  (t.lv k=some x'∧L'=L∧V'=V∧t'=t)∨(t.lv k=none∧ ∃a,x'=Hl t k (Xi L id k) a∧t'={t with lv:=X5 t.lv k (some x')}∧L'={L with tr:=X5 L.tr id (some t'),sh:=Y4 (Y4 L.sh (Xi L id k)) (Xi L id k)}∧V'=refW (refW V (Xi L id k)) (Xi L id k))
section
variable {L L':LvD} {V V':VS} {id:Int} {t t':TrD} {k:KD} {x':LfD}
theorem TouR.tr (h:TouR L V id t k L' V' t' x') (ht:L.tr id=some t):L'.tr id=some t':= by
  rcases h with⟨_,rfl,_,rfl⟩ | ⟨_,a,_,_,rfl,_⟩
  · exact ht
  · exact Q7
theorem TouR.lv (h:TouR L V id t k L' V' t' x'):t'.lv k=some x':= by
  rcases h with⟨h,rfl,_,rfl⟩ | ⟨_,a,_,rfl,_,_⟩
  · exact h
  · exact Q7
theorem TouR.sp (h:TouR L V id t k L' V' t' x'):L'.sp=L.sp:= by
  rcases h with⟨_,rfl,_,_⟩ | ⟨_,a,_,_,rfl,_⟩<;>rfl
theorem TouR.ends (h:TouR L V id t k L' V' t' x') (ht:L.tr id=some t) (hE: ∀i,Y5 L.tr Zv i): ∀i,Y5 L'.tr Zv i:= by
  rcases h with⟨_,rfl,_,_⟩ | ⟨_,a,_,rfl,rfl,_⟩
  · exact hE
  · exact fun i=>Ba (Jd (t':={t with lv:=X5 t.lv k (some x')}) ht rfl) _ _ (hE i)
theorem TouR.sees (h:TouR L V id t k L' V' t' x') (ht:L.tr id=some t) (h0:id≠0):Xi L' id k=x'.own:=Us h0 (h.tr ht) h.lv
end
def V7 (ob:Bs) (a:Int):Value:= if 0≤a∧a<16384 then .tuple #[X4 (ob,a/ 64),Z0 (1#64<<<(a%64).toNat),.bool true]else .tuple #[X4 ([],0),Z0 0#64,.bool false]
def OwnP (L:LvD) (V:VS) (k:KD) (Fr:Nat) (L':LvD) (V':VS) (s e:Int):Prop:=
  (e=0∧s=L.pres k∧s≠0∧Z5 V s=1∧L'=L∧V'=V)∨(e=6∧s=0∧Hs V Fr∧L'=L∧V'=V)∨
  (e=0∧1≤s∧V s=none∧ ¬(L.pres k≠0∧Z5 V (L.pres k)=1)∧V'=Z8 (X5 V s (some (1,Za V (L.pres k)))) (L.pres k)∧L'={L with pres:=Z4 L.pres k s,sh:=Y3 (X5 V s (some (1,Za V (L.pres k)))) L.sh (L.pres k)})
def OwnT (L:LvD) (V:VS) (id:Int) (t:TrD) (k:KD) (x:LfD) (Fr:Nat) (L':LvD) (V':VS) (s e:Int):Prop:=
  (e=0∧s=x.own∧s≠0∧Z5 V s=1∧L'=L∧V'=V)∨(e=6∧s=0∧Hs V Fr∧L'=L∧V'=V)∨
  (e=0∧1≤s∧V s=none∧ ¬(x.own≠0∧Z5 V x.own=1)∧V'=Z8 (X5 V s (some (1,Za V x.own))) x.own∧L'=Zy {L with sh:=Y3 (X5 V s (some (1,Za V x.own))) L.sh x.own} id t k {x with own:=s})
theorem TD {κ α:Type} {ad:α→Nat} {f:κ→Option α} {k:κ} {x:α} {a:Nat} (h:ad x=a):upd (Zp ad f) k (some (ptrV a 0))=Zp ad (X5 f k (some x)):= by subst h; exact Pg
theorem AE {w:World} {X:LfD} {a:Nat} {b1 o1:Int} {r1 w1:BitVec 64} {As:List Th} (hX:X=⟨a,b1,o1,r1,w1⟩) (h:Sat w (QK a [intV b1,intV o1,Z0 r1,Z0 w1]::As)):Sat w (QK X.ad [intV X.base,intV X.own,Z0 X.rd,Z0 X.wr]::As):= by subst hX; exact h
theorem XT {w:World} {kb:Nat} {k:KD} {As:List Th} (h:Sat w (QK kb (X4 k).cells.toList::As)):Sat w (QK kb [strV k.1,intV k.2]::As):=h
theorem touch_y {w:World} {b n Fr:Nat} {L:LvD} {V:VS} {F:Th} (hS:Sat w [We b L,Zw L.sp n Fr V,F]) (hn:n≤600000000) (hE: ∀i,Y5 L.tr Zv i) {id:Int} {t:TrD} (ht:L.tr id=some t) {k:KD} {x:LfD} (hx:t.lv k=some x):
    Calls Tryz.prog 46 #[ptrV b 0,intV id,X4 k] w (Ret fun v w'=>v=ptrV x.ad 0∧Sat w' [We b L,Zw L.sp n Fr V,F]):= by
 replace hS:=Ze hS
 refine Qr Tryz.func46 rfl Tryz.ntmps46 rfl ?_
 refine Qd (Qa (Zb hS rfl rfl rfl ?_))
 intro kb w1 hS1
 replace hS1:=XT hS1
 refine Qe rfl rfl (Qf (Qc (Qd (Qa (Qb rfl rfl (Qk rfl rfl (Qg rfl W2 rfl (Qp rfl Y6 (hS1.cell 1 rfl rfl) rfl (Qb rfl rfl (X8 (k:=id) 3 hS1 keysInt Tryz.underlying82 rfl rfl rfl Hz (u:=(ptrV t.ad 0)) (Zm ht) rfl (Qe rfl rfl (Qf (Qc (Qi [1,0,5,6,7] rfl (Qd (Qd ?_))))))))))))))))
 have hS2:=ZK (hS1.pick [4,0,1,2,3,5,6,7] rfl) ht
 have hS3:=hS2.drew
 refine QO [0,1,2,3,4,5,6] [] Wu (by kernel_rfl) ?_
 refine QJ rfl rfl rfl (Xr rfl rfl rfl (QZ rfl rfl rfl Wj (QH rfl rfl rfl (Qn rfl JM (hS3.cell 0 rfl rfl)) (QH rfl rfl rfl (XK rfl XE Xn (hS3.blk 5 rfl) (XJ rfl) rfl) (QH rfl rfl rfl (X3 (k:=k) 1 hS3 keysKey Tryz.underlying90 rfl rfl rfl HK (u:=(ptrV x.ad 0)) (Zm hx)) (XU rfl rfl rfl (VC.nil (Qc (Qi [1,0,5,6,7,8] rfl (Qd (Qa (Qb rfl rfl (Uk Tryz.underlying89 rfl rfl rfl (Qf (Qc (Xy rfl (Qd (Qa (Qb rfl rfl (Qe rfl rfl (Qf (Qc (Qw (Qo (QW (.inr rfl) rfl rfl ?_)))))))))))))))))))))))))
 have hS4:=Zs ht (hS3.pick [0,1,2,3,4,5,6,7,8,9,10,11] rfl)
 exact⟨_,rfl,rfl,Xj (hS4.pick [2,3,4,0,5,6,7] rfl)⟩
theorem touch_n {w:World} {b n Fr:Nat} {L:LvD} {V:VS} {F:Th} (hS:Sat w [We b L,Zw L.sp n Fr V,F]) (hn:n≤600000000) (hE: ∀i,Y5 L.tr Zv i) {id:Int} {t:TrD} (ht:L.tr id=some t) {k:KD} (hx:t.lv k=none):
    Calls Tryz.prog 46 #[ptrV b 0,intV id,X4 k] w (Ret fun v w'=> ∃a,v=ptrV a 0∧Sat w' [We b {L with tr:=X5 L.tr id (some {t with lv:=X5 t.lv k (some (Hl t k (Xi L id k) a))}),sh:=Y4 (Y4 L.sh (Xi L id k)) (Xi L id k)},Zw L.sp (n+2) Fr (refW (refW V (Xi L id k)) (Xi L id k)),F]):= by
 replace hS:=Ze hS
 refine Qr Tryz.func46 rfl Tryz.ntmps46 rfl ?_
 refine Qd (Qa (Zb hS rfl rfl rfl ?_))
 intro kb w1 hS1
 replace hS1:=XT hS1
 refine Qe rfl rfl (Qf (Qc (Qd (Qa (Qb rfl rfl (Qk rfl rfl (Qg rfl W2 rfl (Qp rfl Y6 (hS1.cell 1 rfl rfl) rfl (Qb rfl rfl (X8 (k:=id) 3 hS1 keysInt Tryz.underlying82 rfl rfl rfl Hz (u:=(ptrV t.ad 0)) (Zm ht) rfl (Qe rfl rfl (Qf (Qc (Qi [1,0,5,6,7] rfl (Qd (Qd ?_))))))))))))))))
 have hS2:=ZK (hS1.pick [4,0,1,2,3,5,6,7] rfl) ht
 have hS3:=hS2.drew
 refine QO [0,1,2,3,4,5,6] [] Wu (by kernel_rfl) ?_
 refine QJ rfl rfl rfl (Xr rfl rfl rfl (QZ rfl rfl rfl Wj (QH rfl rfl rfl (Qn rfl JM (hS3.cell 0 rfl rfl)) (QH rfl rfl rfl (XK rfl XE Xn (hS3.blk 5 rfl) (XJ rfl) rfl) (QH rfl rfl rfl (X3 (k:=k) 1 hS3 keysKey Tryz.underlying90 rfl rfl rfl HK (u:=(.pointer none)) (TE hx)) (XU rfl rfl rfl (VC.nil (Qc (Qi [1,0,5,6,7,8] rfl (Qd (Qa (Qb rfl rfl (Yk Tryz.underlying89 rfl rfl rfl (Qf (Qc (Xb rfl (Qs (Qc (Qd ?_)))))))))))))))))))
 have hS4:=Zs ht (hS3.pick [0,1,2,3,4,5,6,7,8,9,10,11] rfl)
 have hS5:=Xj (L:=L) (hS4.pick [2,3,4,0,5,1,6,7] rfl)
 refine Qa (Qb rfl rfl (Qb rfl rfl (XF rfl XE Xn (by first | exact hS5.blk 1 rfl) (XJ rfl) rfl rfl ?_)))
 refine qac YG rfl (Yq (hS5.sp [0] rfl) hE id k) rfl ?_
 rintro _ w6 ⟨rfl,hS6⟩
 replace hS6:=hS6.jn rfl rfl
 clear hS5
 refine Qe rfl rfl (Qf (Qc (Qi [0,5,6,7,9] rfl (Qd (Qa (Qb rfl rfl (Qb rfl rfl (Ts (vs':=[intV (Xi L id k),intV (Xi L id k),.int .u64 0,.int .u64 0]) rfl E6 asz_88 zr_88 rfl rfl rfl (Zb hS6 rfl rfl rfl ?_)))))))))
 intro xa w8 hS8
 clear hS6
 refine Qe rfl rfl (Qf (Qc (Qd ?_)))
 have hS9:=Ze (hS8.pick [1,0,2,3,4] rfl)
 refine Qa (Qb rfl rfl (Qb rfl rfl (qac MI rfl (Pd (hS9.sp [0,4,7] rfl) (by omega) (Xi L id k)) rfl ?_)))
 rintro _ w10 ⟨rfl,hS10⟩
 replace hS10:=hS10.jn rfl rfl
 clear hS9
 refine Qf (Qc (Qi [0,5,6,7,9,10] rfl (Qd (Qa (Qb rfl rfl (Qb rfl rfl (qac MI rfl (Pd (hS10.sp [0,1,2] rfl) (by omega) (Xi L id k)) rfl ?_)))))))
 rintro _ w11 ⟨rfl,hS11⟩
 replace hS11:=hS11.jn rfl rfl
 clear hS10
 refine Qf (Qc (Qd (Qd ?_)))
 have hS12:=ZK (hS11.pick [5,0,1,2,3,4,6,7,8] rfl) ht
 have hS13:=hS12.drew
 refine QO [0,1,2,3,4,5,6] [] Wu (by kernel_rfl) ?_
 refine QJ rfl rfl rfl (Xr rfl rfl rfl (QZ rfl rfl rfl RT (QH rfl rfl rfl (Qn rfl Ck (hS13.cell 0 rfl rfl)) (QZ rfl rfl rfl Yz (QH rfl rfl rfl (Qn rfl ZI (hS13.cell 11 rfl rfl)) (QH rfl rfl rfl (X3 (k:=k.1) 3 hS13 keysStr Tryz.underlying91 rfl rfl rfl zr_4 (u:= .bool (t.dr k.1)) (Ns _ _)) (VC.nil (Qc (Qi [5,6,7,10,46] rfl (QQ rfl (fun h14=> ?_) (fun h14=> ?_)))))))))))
 ·have hdr:t.dr k.1=true:=h14
  refine Qa (Qb rfl rfl (Qk rfl rfl (Qg rfl WD rfl (Xt hS13 rfl rfl Bu rfl (i:=10) rfl (XJ rfl) ?_))))
  intro w15 hS15; dsimp only[List.set]at hS15
  clear hS13
  refine Qf (Qc (Qd ?_))
  have hS16:=hS15.drew
  refine QO [0,1,2,3,4,5,6] [6] Wu (by kernel_rfl) ?_
  refine QJ rfl rfl rfl (Xr rfl rfl rfl (QZ rfl rfl rfl Wj (QH rfl rfl rfl (Qn rfl JM (hS16.cell 0 rfl rfl)) (QH rfl rfl rfl (XK rfl XE Xn (hS16.blk 11 rfl) (XJ rfl) rfl) (QJ rfl rfl rfl (Xp rfl rfl rfl rfl rfl rfl (Xq (k:=k) (v:=ptrV xa 0) 1 hS16 keysKey Tryz.underlying90 rfl rfl rfl rfl ?_)))))))
  intro w17 hS17; dsimp only[List.set]at hS17
  clear hS16
  refine Z3 (Xx (by kernel_rfl)) ?_
  refine VC.nil (Qc (Qi [6,10] rfl (Qd (Qa (Qb rfl rfl (Qe rfl rfl (Qf (Qc (Qw (QW (.inr rfl) rfl rfl ?_))))))))))
  have hX:(Hl t k (Xi L id k) xa)=⟨xa,Xi L id k,Xi L id k,0#64,BitVec.allOnes 64⟩:= by unfold Hl; rw[if_pos hdr]
  have hA:=AE hX (hS17.pick [10,2,0,1,3,4,5,8,9,6,7,12] rfl)
  have hB:=FY hx hA
  have hB2:=hB.perm ((List.Perm.swap _ _ _).trans (List.Perm.cons _ (List.Perm.swap _ _ _)))
  rw[TD (ad:=LfD.ad) (x:=(Hl t k (Xi L id k) xa)) (a:=xa) rfl]at hB2
  have hC:=Rx (t:=({t with lv:=X5 t.lv k (some (Hl t k (Xi L id k) xa))}:TrD)) (i:=id) (T:=L.tr) hB2
  rw[←Uw (ad:=TrD.ad) (f:=L.tr) (k:=id) (x:=t) (y:=({t with lv:=X5 t.lv k (some (Hl t k (Xi L id k) xa))}:TrD)) ht rfl]at hC
  exact⟨_,rfl,xa,rfl,Xj (L:={L with tr:=X5 L.tr id (some ({t with lv:=X5 t.lv k (some (Hl t k (Xi L id k) xa))}:TrD)),sh:=Y4 (Y4 L.sh (Xi L id k)) (Xi L id k)}) (hC.reorder [1,2,3,0,4,5,6] rfl)⟩
 have hdr:t.dr k.1=false:=h14
 refine Qs (Qc (Qd ?_))
 have hS18:=hS13.drew
 refine QO [0,1,2,3,4,5,6] [6] Wu (by kernel_rfl) ?_
 refine QJ rfl rfl rfl (Xr rfl rfl rfl (QZ rfl rfl rfl Wj (QH rfl rfl rfl (Qn rfl JM (hS18.cell 0 rfl rfl)) (QH rfl rfl rfl (XK rfl XE Xn (hS18.blk 11 rfl) (XJ rfl) rfl) (QJ rfl rfl rfl (Xp rfl rfl rfl rfl rfl rfl (Xq (k:=k) (v:=ptrV xa 0) 1 hS18 keysKey Tryz.underlying90 rfl rfl rfl rfl ?_)))))))
 intro w19 hS19; dsimp only[List.set]at hS19
 clear hS18
 refine Z3 (Xx (by kernel_rfl)) ?_
 refine VC.nil (Qc (Qi [6,10] rfl (Qd (Qa (Qb rfl rfl (Qe rfl rfl (Qf (Qc (Qw (QW (.inr rfl) rfl rfl ?_))))))))))
 have hX:(Hl t k (Xi L id k) xa)=⟨xa,Xi L id k,Xi L id k,0#64,0#64⟩:= by unfold Hl; rw[if_neg (by rw[hdr];decide)]
 have hA:=AE hX (hS19.pick [10,2,0,1,3,4,5,8,9,6,7,12] rfl)
 have hB:=FY hx hA
 have hB2:=hB.perm ((List.Perm.swap _ _ _).trans (List.Perm.cons _ (List.Perm.swap _ _ _)))
 rw[TD (ad:=LfD.ad) (x:=(Hl t k (Xi L id k) xa)) (a:=xa) rfl]at hB2
 have hC:=Rx (t:=({t with lv:=X5 t.lv k (some (Hl t k (Xi L id k) xa))}:TrD)) (i:=id) (T:=L.tr) hB2
 rw[←Uw (ad:=TrD.ad) (f:=L.tr) (k:=id) (x:=t) (y:=({t with lv:=X5 t.lv k (some (Hl t k (Xi L id k) xa))}:TrD)) ht rfl]at hC
 exact⟨_,rfl,xa,rfl,Xj (L:={L with tr:=X5 L.tr id (some ({t with lv:=X5 t.lv k (some (Hl t k (Xi L id k) xa))}:TrD)),sh:=Y4 (Y4 L.sh (Xi L id k)) (Xi L id k)}) (hC.reorder [1,2,3,0,4,5,6] rfl)⟩
theorem Up {w:World} {b n Fr:Nat} {L:LvD} {V:VS} {F:Th} (hS:Sat w [We b L,Zw L.sp n Fr V,F]) (hn:n≤600000000) (hE: ∀i,Y5 L.tr Zv i) {id:Int} {t:TrD} (ht:L.tr id=some t) {k:KD}:
    Calls Tryz.prog 46 #[ptrV b 0,intV id,X4 k] w (Ret fun v w'=> ∃L' V' t' x',v=ptrV x'.ad 0∧TouR L V id t k L' V' t' x'∧Sat w' [We b L',Zw L'.sp (n+2) Fr V',F]):= by
  cases hx:t.lv k with
  | some x=>
    refine(touch_y hS hn hE ht hx).mono fun e w h=>h.mono fun v w h=> ?_
    exact⟨L,V,t,x,h.1,.inl ⟨hx,rfl,rfl,rfl⟩,(X7 (by omega) (h.2.reorder [1,0,2] rfl)).reorder [1,0,2] rfl⟩
  | none=>
    refine(touch_n hS hn hE ht hx).mono fun e w h=>h.mono fun v w h=> ?_
    obtain⟨a,h1,h2⟩:=h
    exact⟨_,_,_,Hl t k (Xi L id k) a,h1,.inr ⟨hx,a,rfl,rfl,rfl,rfl⟩,h2⟩
theorem Ux {w:World} {F:Th} (hS:Sat w [F]) (ob:Bs) (a:Int):
    Calls Tryz.prog 42 #[strV ob,intV a] w (Ret fun v w'=>v=V7 ob a∧Sat w' [F]):= by
 refine Qr Tryz.func42 rfl Tryz.ntmps42 rfl ?_
 refine Qd (Qa (Xm hS ZS rfl rfl ?_))
 intro b1 w1 hS1
 refine Qe rfl rfl (Qe rfl rfl (Qf (Qc (Qd (Qd (Qa (Qb rfl rfl (Xh rfl rfl rfl (Qb rfl rfl (QR 9 rfl (fun h2=> ?_) (fun h2=> ?_)))))))))))
 ·refine Qh rfl rfl (Xc h2) rfl (Qh rfl rfl (Xc h2) rfl (QI rfl (Xc h2) rfl rfl (Qf (Qc (Qi [1,0,4,5,6,12] rfl (Xy rfl (Qd (Qa (Zr rfl OD Ui ZS rfl rfl ?_)))))))))
  first | (refine Xe hS1 rfl rfl Xn rfl (by rfl) (i:=0) rfl (by decide) ?_)
  intro w3 hS4; dsimp only[List.set]at hS4
  clear hS1
  refine Qe rfl rfl (Qe rfl rfl (Qf (Qc (Qw (Qo (IF (.inr rfl) rfl (O4 rfl XE Xn (by first | exact hS4.blk 0 rfl) (by decide) rfl) (R4 rfl) (R4 rfl) ?_))))))
  exact⟨_,rfl, by unfold V7; rw[if_neg (by omega)];rfl,hS4.pick [1] rfl⟩
 refine Qj rfl rfl (Q6 h2) (Qb rfl rfl (Qj rfl rfl (Q6 h2) (JN rfl rfl rfl (QL rfl (Q6 h2) rfl rfl (Qf (Qc (Qi [1,0,4,5,6,12] rfl (Qt rfl (fun h5=> ?_) (fun h5=> ?_)))))))))
 ·refine Qd (Qa (Zr rfl OD Ui ZS rfl rfl ?_))
  first | (refine Xe hS1 rfl rfl Xn rfl (by rfl) (i:=0) rfl (by decide) ?_)
  intro w6 hS7; dsimp only[List.set]at hS7
  clear hS1
  refine Qe rfl rfl (Qe rfl rfl (Qf (Qc (Qw (Qo (IF (.inr rfl) rfl (O4 rfl XE Xn (by first | exact hS7.blk 0 rfl) (by decide) rfl) (R4 rfl) (R4 rfl) ?_))))))
  exact⟨_,rfl, by unfold V7; rw[if_neg (by omega)];rfl,hS7.pick [1] rfl⟩
 obtain⟨m,rfl⟩: ∃m:Nat,a=(m:Int):=⟨a.toNat, by omega⟩
 refine Qs (Qc (Qd ?_))
 have hS8:=hS1.drew
 refine QO [0,1,2,3,4,5,6,7,8,9] [7] Wu (by kernel_rfl) ?_
 refine QJ rfl rfl rfl (QJ rfl rfl rfl (Xa rfl rfl rfl (fun _=>(IJ rfl rfl (by omega) (by omega) (by omega))) ?_))
 refine Xa rfl rfl rfl (fun _=>(Wv rfl Yh Ui ZS rfl)) ?_
 refine QJ rfl rfl rfl (Xa rfl rfl rfl (fun _=>(M5 rfl rfl (by omega) (by omega))) ?_)
 refine Xa rfl rfl rfl (fun _=>(zIO (m%64) rfl rfl (by omega))) ?_
 refine Xp rfl rfl rfl rfl rfl rfl ?_
 first | (refine Xe hS8 rfl rfl Xn rfl (by rfl) (i:=0) rfl (by decide) ?_)
 intro w9 hS10; dsimp only[List.set]at hS10
 clear hS8
 refine Z3 .nil (XU rfl rfl rfl (XU rfl rfl rfl (VC.nil (Qc (Qi [4,5,6] rfl (Qw (IF (.inr rfl) rfl (O4 rfl XE Xn (by first | exact hS10.blk 0 rfl) (XJ rfl) rfl) (R4 rfl) (R4 rfl) ?_)))))))
 exact⟨_,rfl, by unfold V7; rw[if_pos (by omega)];rfl,hS10.pick [1] rfl⟩
end Go.Proofs.YtkcjfoaejijdoaaGreatDoor
