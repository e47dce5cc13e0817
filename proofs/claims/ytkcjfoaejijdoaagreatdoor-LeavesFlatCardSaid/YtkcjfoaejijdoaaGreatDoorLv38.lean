/- laws of leaves: contracts by contents, whatever the arguments -/
import Derived.Test.YtkcjfoaejijdoaaGreatDoorWcl
import Derived.Test.YtkcjfoaejijdoaaGreatDoorFw
set_option linter.unusedVariables false
set_option maxRecDepth 100000
set_option maxHeartbeats 80000000000
namespace Go.Proofs.YtkcjfoaejijdoaaGreatDoor
open Go.RowKit M
set_option linter.unusedSectionVars false
variable [Inhabited SlW]
section
variable {A:LvA} {id p:Int} {b:KD→Bs} {t:TrA} {ob:Bs} {k:KD} {y:LfA}
theorem AR (ht:A.tr id=some t) (hp:t.parent=p) (hb:BgI A id p b):Zi A id k=ZV b t k:= by
  have :=DC (k:=k) (A:=A) hb hp
  rwa [Up ht]at this
theorem OA (ht:A.tr id=some t):ZA A id k y=UK A id (Yp t k y):= by
  have :=DZ (A:=A) (id:=id) (t:=t) (k:=k) (y:=y)
  rwa [Up ht]at this
theorem drop_bg (ht:A.tr id=some t):U3 A id ob=UK A id (Rh t ob):= by
  have :=EZ (A:=A) (id:=id) (t:=t) (ob:=ob)
  rwa [Up ht]at this
theorem AU {A:LvA} {L:LvD} {V:VS} (hA:Q8 L V=A) (ht:A.tr id=some t):Z8 L id=true:= by
  rw[←T1 (V:=V),hA]
  unfold DD
  rw[ht]
  simp
end
theorem Ik {w:World} {b p n m c e:Nat} {A:LvA} {F:Th} (hS:Sat w [Yb b p n m c e A,F]) (hn:n≤60000000000) (hm:m<Zp) {id pp:Int} {bg:KD→Bs} {t:TrA} (ht:A.tr id=some t) (hp:t.parent=pp) (hb:BgI A id pp bg) (ob:Bs) (a:Int):
    Calls Tryz.prog 12 #[ptrV b 0,intV id,strV ob,intV a] w (Ret fun v w'=>v=XS (if 0≤a∧a<16384 then N4 (JL t (bg (ob,a/ 64)) (ob,a/ 64)) (a%64)else 0)∧Sat w' [Yb b p (n+2) m c (e+1) (UK A id (rdU bg t ob a)),F]):= by
  unfold rdU
  by_cases hr:0≤a∧a<16384
  · rw[if_pos hr,if_pos hr]
    refine(Pq hS hn hm ht ob a hr).mono fun ew w h=>h.mono fun v w h=> ?_
    rw[AR ht hp hb,OA ht,Hz]at h
    exact h
  · rw[if_neg hr,if_neg hr,Up ht]
    obtain⟨L,V,⟨h1,h2,h3,h4,h5⟩,hS1⟩:=ZH hS
    refine(Sb hS1 hn ob a id hr).mono fun ew w h=>h.mono fun v w h=> ?_
    exact⟨h.1,Jm (by omega) (by omega) (by omega) (by omega) (ZO ⟨h1,h2,h3,h4,h5⟩ h.2)⟩
theorem Il {w:World} {b p n m c e:Nat} {A:LvA} {F:Th} (hS:Sat w [Yb b p n m c e A,F]) (hn:n≤60000000000) (hm:m<Zp) (ob:Bs) (a:Int):
    Calls Tryz.prog 12 #[ptrV b 0,intV 0,strV ob,intV a] w (Ret fun v w'=>v=XS (if 0≤a∧a<16384 then N4 (A.pres (ob,a/ 64)) (a%64)else 0)∧Sat w' [Yb b p n m c e A,F]):= by
  by_cases hr:0≤a∧a<16384
  · rw[if_pos hr]
    exact Pr hS hn hm ob a hr
  · rw[if_neg hr]
    obtain⟨L,V,⟨h1,h2,h3,h4,h5⟩,hS1⟩:=ZH hS
    refine(Sb hS1 hn ob a 0 hr).mono fun ew w h=>h.mono fun v w h=> ?_
    exact⟨h.1,Jm (by omega) (by omega) (by omega) (by omega) (ZO ⟨h1,h2,h3,h4,h5⟩ h.2)⟩
theorem Ie {w:World} {b p n m c e:Nat} {A:LvA} {F:Th} (hS:Sat w [Yb b p n m c e A,F]) (hn:n≤60000000000) (hm:m<Zp) {id pp:Int} {bg:KD→Bs} {t:TrA} (ht:A.tr id=some t) (hp:t.parent=pp) (hb:BgI A id pp bg) (hc:c+1<256) (ob:Bs) (a:Int) (bt:UInt8):
    Calls Tryz.prog 10 #[ptrV b 0,intV id,strV ob,intV a,XS bt] w (Ret fun v w'=>v=intV 0∧Sat w' [Yb b p (n+5) m (c+1) (e+1) (UK A id (wrU bg t ob a bt)),F]):= by
  unfold wrU
  by_cases hr:0≤a∧a<16384
  · rw[if_pos hr]
    refine(Po hS hn hm ht hc ob a bt hr).mono fun ew w h=>h.mono fun v w h=> ?_
    rw[AR ht hp hb,OA ht]at h
    exact h
  · rw[if_neg hr,Up ht]
    obtain⟨L,V,⟨h1,h2,h3,h4,h5⟩,hS1⟩:=ZH hS
    refine(NP hS1 hn ob a bt id hr (AU h3 ht)).mono fun ew w h=>h.mono fun v w h=> ?_
    exact⟨h.1,Jm (by omega) (by omega) (by omega) (by omega) (ZO ⟨h1,h2,h3,h4,h5⟩ h.2)⟩
theorem If {w:World} {b p n m c e:Nat} {A:LvA} {F:Th} (hS:Sat w [Yb b p n m c e A,F]) (hn:n≤60000000000) (hm:m<Zp) (hc:c+1<256) (ob:Bs) (a:Int) (bt:UInt8):
    Calls Tryz.prog 10 #[ptrV b 0,intV 0,strV ob,intV a,XS bt] w (Ret fun v w'=>v=intV 0∧Sat w' [Yb b p (n+5) m (c+1) (e+1) {A with pres:=LK A.pres ob a bt},F]):= by
  unfold LK
  by_cases hr:0≤a∧a<16384
  · rw[if_pos hr]
    exact Pp hS hn hm hc ob a bt hr
  · rw[if_neg hr]
    obtain⟨L,V,⟨h1,h2,h3,h4,h5⟩,hS1⟩:=ZH hS
    refine(NP hS1 hn ob a bt 0 hr rfl).mono fun ew w h=>h.mono fun v w h=> ?_
    exact⟨h.1,Jm (by omega) (by omega) (by omega) (by omega) (ZO ⟨h1,h2,h3,h4,h5⟩ h.2)⟩
theorem Ii {w:World} {b p n m c e:Nat} {A:LvA} {F:Th} (hS:Sat w [Yb b p n m c e A,F]) (hn:n≤60000000000) (hm:m<Zp) {id pp:Int} {bg:KD→Bs} {t:TrA} (ht:A.tr id=some t) (hp:t.parent=pp) (hb:BgI A id pp bg) (ob to:Bs) (fi cn a:Int) (hf: -2147483648≤fi∧fi≤2147483648) (ha: -2147483648≤a∧a≤2147483648) (hcn: -2147483648≤cn∧cn≤300) (hn2:n+2100≤60000000000):
    Calls Tryz.prog 41 #[ptrV b 0,intV id,strV ob,intV fi,intV cn,strV to,intV a] w (Ret fun v w'=>Sat w' [Yb b p (n+2100) m c (e+512) (UK A id (HD bg t ob fi cn to a)),F]):= by
  obtain⟨L,V,⟨h1,h2,h3,h4,h5⟩,hS1⟩:=ZH hS
  have ht2:=ht
  rw[←h3]at ht2
  obtain⟨u,hu,_⟩:=Uf ht2
  refine(qag hS1 hn2 h2 hm hu ob to fi cn a hf ha hcn).mono fun ew w h=>h.mono fun v w h=> ?_
  obtain⟨L',V',q,hs,hab,hq,hS2⟩:=h
  have e1:q=VM cn a:= by unfold VM;omega
  subst e1
  refine ZO ⟨hs.sp.trans h1,hs.inv, ?_,hs.al _ h4,hs.sz _ h5⟩ hS2
  rw[hab,h3,←qah hb hp,Up ht]
theorem Ij {w:World} {b p n m c e:Nat} {A:LvA} {F:Th} (hS:Sat w [Yb b p n m c e A,F]) (hn:n≤60000000000) (hm:m<Zp) (ob to:Bs) (fi cn a:Int) (hf: -2147483648≤fi∧fi≤2147483648) (ha: -2147483648≤a∧a≤2147483648) (hcn: -2147483648≤cn∧cn≤300) (hn2:n+2000≤60000000000):
    Calls Tryz.prog 41 #[ptrV b 0,intV 0,strV ob,intV fi,intV cn,strV to,intV a] w (Ret fun v w'=>Sat w' [Yb b p (n+2000) m c (e+256) {A with pres:=Fb A.pres ob fi cn to a},F]):= by
  obtain⟨L,V,⟨h1,h2,h3,h4,h5⟩,hS1⟩:=ZH hS
  refine(PT hS1 hn2 h2 hm ob to fi cn a hf ha hcn).mono fun ew w h=>h.mono fun v w h=> ?_
  obtain⟨L',V',q,hs,_,hab,hq,hS2⟩:=h
  have e1:q=VM cn a:= by unfold VM;omega
  subst e1
  refine ZO ⟨hs.sp.trans h1,hs.inv, ?_,hs.al _ h4,hs.sz _ h5⟩ hS2
  rw[hab,h3,Cb,←qaj]
  refine MC _ fun i hi=> ?_
  have e2:(Gz L ob (fi+max 0 (-a)) (VM cn a)).getD i 0=PR L ob (fi+max 0 (-a)+(i:Int)):= by
    unfold Gz
    simp [List.getD,hi]
  rw[e2]
  unfold PR cpC
  subst h3
  by_cases e3:0≤fi+max 0 (-a)+(i:Int)∧fi+max 0 (-a)+(i:Int)<256
  · rw[if_pos e3,if_pos e3,We];rfl
  · rw[if_neg e3,if_neg e3]; exact Wr h2.zero
theorem Ig {w:World} {b p n m c e:Nat} {A:LvA} {F:Th} (hS:Sat w [Yb b p n m c e A,F]) (hn:n≤60000000000) (hm:m<Zp) {id pp:Int} {bg:KD→Bs} {t:TrA} (ht:A.tr id=some t) (hp:t.parent=pp) (hb:BgI A id pp bg) (ob:Bs) (hn2:n+2*e≤60000000000):
    Calls Tryz.prog 27 #[ptrV b 0,intV id,strV ob] w (Ret fun v w'=>Sat w' [Yb b p (n+2*e) m c e (UK A id (Rh t ob)),F]):= by
  obtain⟨L,V,⟨h1,h2,h3,h4,h5⟩,hS1⟩:=ZH hS
  have ht2:=ht
  rw[←h3]at ht2
  obtain⟨u,hu,_⟩:=Uf ht2
  refine(PK hS1 h5 hn2 h2 (fun _ _=>Int.le_refl _) hu ob).mono fun ew w h=>h.mono fun v w h=> ?_
  obtain⟨L',V',hs,hab,_,hS2⟩:=h
  exact ZO ⟨hs.sp.trans h1,hs.inv, by rw[hab,h3,drop_bg ht],hs.al _ h4,hs.sz _ h5⟩ hS2
theorem Ih {w:World} {b p n m c e:Nat} {A:LvA} {F:Th} (hS:Sat w [Yb b p n m c e A,F]) (hn:n≤60000000000) (hm:m<Zp) (ob:Bs) (hn2:n+2*e≤60000000000):
    Calls Tryz.prog 27 #[ptrV b 0,intV 0,strV ob] w (Ret fun v w'=>Sat w' [Yb b p (n+2*e) m c e {A with pres:=IZ A.pres ob},F]):= by
  obtain⟨L,V,⟨h1,h2,h3,h4,h5⟩,hS1⟩:=ZH hS
  refine(PL hS1 h5 hn2 h2 (fun _ _=>Int.le_refl _) ob).mono fun ew w h=>h.mono fun v w h=> ?_
  obtain⟨L',V',hs,hab,_,hS2⟩:=h
  exact ZO ⟨hs.sp.trans h1,hs.inv, by rw[hab,h3];rfl,hs.al _ h4,hs.sz _ h5⟩ hS2
section
variable {P:Program} {n:Nat} {ops:Array Oper} {Q:Exit→Act→World→Prop} {rest:List Oper} {L:Env} {w:World} {d:Nat} {ty:TypeId} {pos:String} {aft:Array Edge} {x y:Operand} {t t2:TypeId}
theorem wl_remT {a b:Int} (hx:M.look L x=some (.int .i64 a)) (hy:M.look L y=some (.int .i64 b)) (hb:0<b∧b≤1000) (hd:Nat.blt d n=true) (hk:wl P n ops Q rest ((d,.int .i64 (a.tmod b))::L) w):wl P n ops Q (⟨some d,.binOp .rem t x y t2,ty,pos,aft,none⟩::rest) L w:=
  Xo hd (fun ρ hρ=> by
    have hb':b≠0:= by omega
    have h1:=Int.tmod_lt_of_pos a hb.1
    have h2:=Int.lt_tmod_of_pos a hb.1
    have e:IntKind.i64.wrap (a.tmod b)=a.tmod b:=Vo (by omega) (by omega)
    simp [execOp,hρ _ _ hx,hρ _ _ hy,eqGuard,binOp,Op.intDiv,hb',e]) hk
end
theorem FN {n m:Int} (hm:0<m):n%m= if n.tmod m<0 then n.tmod m+m else n.tmod m:= by
  rw[Int.tmod_eq_emod]
  have h1:=Int.emod_nonneg n (by omega:m≠0)
  have h2:=Int.emod_lt_of_pos n hm
  split
  · rw[if_neg (by omega)];omega
  · rename_i h
    rw[Int.natAbs_of_nonneg (by omega)]
    by_cases h3:n%m -m<0
    · rw[if_pos h3];omega
    · omega
theorem BS {w:World} {F:Th} (hS:Sat w [F]) (n m:Int) (hm:0<m∧m≤1000):
    Calls Tryz.prog 19 #[intV n,intV m] w (Ret fun v w'=>v=intV (n%m)∧Sat w' [F]):= by
 refine Qq Tryz.func19 rfl Tryz.ntmps19 rfl ?_
 have hm1:=Int.tmod_lt_of_pos n hm.1
 have hm2:=Int.lt_tmod_of_pos n hm.1
 refine Qd (Qa (Qe rfl rfl (Qf (Qc (Qd (Qa (Qb rfl rfl (Qb rfl rfl (wl_remT rfl rfl hm rfl (Qe rfl rfl (Qf (Qc (Ue (fun E0 W0=>E0=[(0,intV (n%m))]∧Sat W0 [F]) ?_ ?_)))))))))))))
 ·refine Qd (Qa (Qb rfl rfl (Xb rfl rfl rfl (Qf (Qc (Qs rfl (fun h2=> ?_) (fun h2=> ?_)))))))
  ·refine Qa (Qb rfl rfl (Qb rfl rfl (QK rfl rfl (by omega) (by omega) rfl ?_)))
   exact Qe rfl rfl (Qf (Z9 (L':=[(0,_)]) (zb1 rfl) ⟨by rw[FN (n:=n) hm.1,if_pos (by assumption)],hS⟩))
  exact Qr (Z9 (L':=[(0,_)]) (zb1 rfl) ⟨by rw[FN (n:=n) hm.1,if_neg (by assumption)],hS⟩)
 rintro _ w1 ⟨rfl,hS1⟩
 exact Qd (Qa (Qb rfl rfl (Qe rfl rfl (Qf (Qc (Qu (QQ (.inr rfl) rfl rfl (⟨_,rfl,rfl,hS1⟩))))))))
end Go.Proofs.YtkcjfoaejijdoaaGreatDoor
namespace Go.Proofs.YtkcjfoaejijdoaaGreatDoor
open Go.RowKit M
set_option linter.unusedSectionVars false
variable [Inhabited SlW]
def Bw (x:AcL):Bool:=decide (x.ob.length≤20)&&decide (x.to.length≤20)&&decide (x.n≤300)&&decide (-2147483648≤x.first)&&decide (x.first≤2147483648)&&decide (-2147483648≤x.at_)&&decide (x.at_≤2147483648)&&decide (-2147483648≤x.n)
def Tb (l:List AcL) (n:Int):Bool:=l.all Bw&&decide ((l.length:Int)≤n)
theorem YW {l:List AcL} {n:Int} {i:Nat} {x:AcL} (ha:l[i]? =some x) (h:Bw x=false):Value.bool false= .bool (Tb l n):= by
  have :l.all Bw=false:= by
    rw[List.all_eq_false]; exact⟨x,List.mem_of_getElem? ha, by rw[h]; simp⟩
  simp [Tb,this]
theorem IH {l:List AcL} {n:Int} {i:Nat} (hok: ∀j a,j<i→l[j]? =some a→Bw a=true) (hi:i≤l.length) (he: ¬i<l.length):Value.bool (decide ((l.length:Int)≤n))= .bool (Tb l n):= by
  have :l.all Bw=true:= by
    rw[List.all_eq_true]; intro a ha
    obtain⟨j,hj⟩:=List.mem_iff_getElem?.1 ha
    exact hok j a (by have :=(XQ hj).1;omega) hj
  simp only[Tb,this,Bool.true_and]
theorem okL_is {x:AcL} (h:Bw x=true):FC x:= by
  simp only[Bw,Bool.and_eq_true,decide_eq_true_eq]at h
  unfold FC
  omega
theorem CF {l:List AcL} {n:Int} (h:Tb l n=true):(l.length:Int)≤n∧ ∀(i:Nat) (x:AcL),l[i]? =some x→FC x:= by
  simp only[Tb,Bool.and_eq_true,List.all_eq_true,decide_eq_true_eq]at h
  exact⟨h.2, fun i x hx=>okL_is (h.1 x (List.mem_of_getElem? hx))⟩
theorem xb_norm {w:World} {xb:Nat} {x:AcL} {As:List Th} (h:Sat w (QF xb (Value.agg (U8 x).toArray).cells.toList::As)):Sat w (QF xb [intV x.dk,intV x.idn,strV x.ob,strV x.to,intV x.first,intV x.n,intV x.at_,intV x.bb]::As):=h
theorem SM {w:World} {F:Th} (hS:Sat w [F]) {lv:Value} {l:List AcL} (hL:Ent F (RdL AD lv l)) (n:Int):
    Calls Tryz.prog 17 #[lv,intV n] w (Ret fun v w'=>v= .bool (Tb l n)∧Sat w' [F]):= by
 obtain⟨ao,cap,rfl,hmax⟩:=(hL.sat hS 0 rfl).shape
 refine Qq Tryz.func17 rfl Tryz.ntmps17 rfl ?_
 refine Qd (Qa (Qe rfl rfl (Qf (Qc (Qd (Qd (Qa (Qe rfl rfl (Qf (Qc (Qw ?_)))))))))))
 refine Xe (fun K0 E0 W0=> ∃(i:Nat),K0=l.length -i∧E0=[(0,.slice ao l.length cap),(1,intV n),(5,intV (i:Int))]∧Sat W0 [F]∧(i≤l.length)∧(∀j a,j<i→l[j]? =some a→Bw a=true)) (L0:=[(0,_),(1,_),(5,_)]) (l.length -0) (Cn rfl rfl rfl) ⟨0,rfl,rfl,hS, by omega, by omega⟩ ?_
 rintro _ _ w1 ⟨i,rfl,rfl,hS1,hi,hok⟩
 refine Qd (Qd (Qa (Qb rfl rfl (Qb rfl rfl (X5 Tryz.underlying36 rfl rfl (Xb rfl rfl rfl (Qf (Qc (Qs rfl (fun h2=> ?_) (fun h2=> ?_))))))))))
 ·obtain⟨x,ha⟩: ∃x,l[i]? =some x:=⟨_,Zd (by omega)⟩
  obtain⟨bq,off,rfl,_⟩:=(hL.sat hS1 0 rfl).get ha
  have hil:=(XQ ha).1
  refine Qr (Qc (Qd (Qw (Qd (Qa (Qb rfl rfl (Qb rfl rfl (XI i rfl rfl (by first | rfl | omega) (by omega) VG rfl ?_))))))))
  refine Jh rfl VT HO (vs:=U8 x) ((hL.sat hS1 0 rfl).at_ ha) rfl (Xg hS1 zr_43 rfl rfl ?_)
  intro xb wk3 hk3
  clear hS1
  refine QY hk3 rfl rfl HO rfl (by rfl) (i:=0) rfl (by decide) ?_
  intro wk4 hk4; dsimp only[List.set]at hk4
  clear hk3
  replace hk4:=xb_norm (x:=x) hk4
  refine Qf (Qc (Qi [5,1,0,6] rfl (Qd (Qa (Qg rfl ZL rfl (Qo rfl ZC (hk4.cell 0 rfl rfl) rfl (Wj Tryz.underlying9 rfl rfl (Y6 rfl rfl rfl (Qb rfl rfl (QN 21 rfl (fun h5=> ?_) (fun h5=> ?_)))))))))))
  ·have hoo:Bw x=false:= by unfold Bw; simp;omega
   exact Qh rfl rfl (QW h5) rfl (Qh rfl rfl (QW h5) rfl (Qh rfl rfl (QW h5) rfl (Qh rfl rfl (QW h5) rfl (QC rfl (QW h5) rfl rfl (Qb rfl rfl (Qh rfl rfl rfl rfl (Qh rfl rfl rfl rfl (Qh rfl rfl rfl rfl (QC rfl rfl rfl rfl (Qb rfl rfl (Qh rfl rfl rfl rfl (Qh rfl rfl rfl rfl (Qh rfl rfl rfl rfl (QC rfl rfl rfl rfl (Qb rfl rfl (Qh rfl rfl rfl rfl (Qh rfl rfl rfl rfl (Qh rfl rfl rfl rfl (QC rfl rfl rfl rfl (Qb rfl rfl (Qh rfl rfl rfl rfl (Qh rfl rfl rfl rfl (Qh rfl rfl rfl rfl (QC rfl rfl rfl rfl (Qb rfl rfl (Qh rfl rfl rfl rfl (Qh rfl rfl rfl rfl (Qh rfl rfl rfl rfl (QC rfl rfl rfl rfl (Qb rfl rfl (Qh rfl rfl rfl rfl (Qh rfl rfl rfl rfl (Qh rfl rfl rfl rfl (QC rfl rfl rfl rfl (Qf (Qc (Qi [5,1,0,56] rfl (Xr rfl (Qd (Qa (Qe rfl rfl (Qf (Qc (Qu (Qx (Qn (Qn (Qx (Qn (QQ (.inr rfl) rfl rfl (⟨_,rfl,YW ha hoo,hk4.pick [1] rfl⟩)))))))))))))))))))))))))))))))))))))))))))))))))))
  refine Qj rfl rfl (Q0 h5) (Qg rfl UU rfl (Qj rfl rfl (Q0 h5) (Qo rfl ZC (hk4.cell 0 rfl rfl) rfl (Qj rfl rfl (Q0 h5) (Wj Tryz.underlying9 rfl rfl (Qj rfl rfl (Q0 h5) (Y6 rfl rfl rfl (QG rfl (Q0 h5) rfl rfl (Qb rfl rfl (QN 27 rfl (fun h6=> ?_) (fun h6=> ?_)))))))))))
  ·have hoo:Bw x=false:= by unfold Bw; simp;omega
   exact Qh rfl rfl (QW h6) rfl (Qh rfl rfl (QW h6) rfl (Qh rfl rfl (QW h6) rfl (QC rfl (QW h6) rfl rfl (Qb rfl rfl (Qh rfl rfl rfl rfl (Qh rfl rfl rfl rfl (Qh rfl rfl rfl rfl (QC rfl rfl rfl rfl (Qb rfl rfl (Qh rfl rfl rfl rfl (Qh rfl rfl rfl rfl (Qh rfl rfl rfl rfl (QC rfl rfl rfl rfl (Qb rfl rfl (Qh rfl rfl rfl rfl (Qh rfl rfl rfl rfl (Qh rfl rfl rfl rfl (QC rfl rfl rfl rfl (Qb rfl rfl (Qh rfl rfl rfl rfl (Qh rfl rfl rfl rfl (Qh rfl rfl rfl rfl (QC rfl rfl rfl rfl (Qb rfl rfl (Qh rfl rfl rfl rfl (Qh rfl rfl rfl rfl (Qh rfl rfl rfl rfl (QC rfl rfl rfl rfl (Qf (Qc (Qi [5,1,0,56] rfl (Xr rfl (Qd (Qa (Qe rfl rfl (Qf (Qc (Qu (Qx (Qn (Qn (Qx (Qn (QQ (.inr rfl) rfl rfl (⟨_,rfl,YW ha hoo,hk4.pick [1] rfl⟩)))))))))))))))))))))))))))))))))))))))))))))
  refine Qj rfl rfl (Q0 h6) (Qg rfl HU rfl (Qj rfl rfl (Q0 h6) (Qo rfl QO (hk4.cell 0 rfl rfl) rfl (Qj rfl rfl (Q0 h6) (Y6 rfl rfl rfl (QG rfl (Q0 h6) rfl rfl (Qb rfl rfl (QN 32 rfl (fun h7=> ?_) (fun h7=> ?_)))))))))
  ·have hoo:Bw x=false:= by unfold Bw; simp;omega
   exact Qh rfl rfl (QW h7) rfl (Qh rfl rfl (QW h7) rfl (Qh rfl rfl (QW h7) rfl (QC rfl (QW h7) rfl rfl (Qb rfl rfl (Qh rfl rfl rfl rfl (Qh rfl rfl rfl rfl (Qh rfl rfl rfl rfl (QC rfl rfl rfl rfl (Qb rfl rfl (Qh rfl rfl rfl rfl (Qh rfl rfl rfl rfl (Qh rfl rfl rfl rfl (QC rfl rfl rfl rfl (Qb rfl rfl (Qh rfl rfl rfl rfl (Qh rfl rfl rfl rfl (Qh rfl rfl rfl rfl (QC rfl rfl rfl rfl (Qb rfl rfl (Qh rfl rfl rfl rfl (Qh rfl rfl rfl rfl (Qh rfl rfl rfl rfl (QC rfl rfl rfl rfl (Qf (Qc (Qi [5,1,0,56] rfl (Xr rfl (Qd (Qa (Qe rfl rfl (Qf (Qc (Qu (Qx (Qn (Qn (Qx (Qn (QQ (.inr rfl) rfl rfl (⟨_,rfl,YW ha hoo,hk4.pick [1] rfl⟩))))))))))))))))))))))))))))))))))))))))
  refine Qj rfl rfl (Q0 h7) (Qg rfl HV rfl (Qj rfl rfl (Q0 h7) (Qo rfl QO (hk4.cell 0 rfl rfl) rfl (Qj rfl rfl (Q0 h7) (Xb rfl rfl rfl (QG rfl (Q0 h7) rfl rfl (Qb rfl rfl (QN 37 rfl (fun h8=> ?_) (fun h8=> ?_)))))))))
  ·have hoo:Bw x=false:= by unfold Bw; simp;omega
   exact Qh rfl rfl (QW h8) rfl (Qh rfl rfl (QW h8) rfl (Qh rfl rfl (QW h8) rfl (QC rfl (QW h8) rfl rfl (Qb rfl rfl (Qh rfl rfl rfl rfl (Qh rfl rfl rfl rfl (Qh rfl rfl rfl rfl (QC rfl rfl rfl rfl (Qb rfl rfl (Qh rfl rfl rfl rfl (Qh rfl rfl rfl rfl (Qh rfl rfl rfl rfl (QC rfl rfl rfl rfl (Qb rfl rfl (Qh rfl rfl rfl rfl (Qh rfl rfl rfl rfl (Qh rfl rfl rfl rfl (QC rfl rfl rfl rfl (Qf (Qc (Qi [5,1,0,56] rfl (Xr rfl (Qd (Qa (Qe rfl rfl (Qf (Qc (Qu (Qx (Qn (Qn (Qx (Qn (QQ (.inr rfl) rfl rfl (⟨_,rfl,YW ha hoo,hk4.pick [1] rfl⟩)))))))))))))))))))))))))))))))))))
  refine Qj rfl rfl (Q0 h8) (Qg rfl HV rfl (Qj rfl rfl (Q0 h8) (Qo rfl QO (hk4.cell 0 rfl rfl) rfl (Qj rfl rfl (Q0 h8) (Y6 rfl rfl rfl (QG rfl (Q0 h8) rfl rfl (Qb rfl rfl (QN 42 rfl (fun h9=> ?_) (fun h9=> ?_)))))))))
  ·have hoo:Bw x=false:= by unfold Bw; simp;omega
   exact Qh rfl rfl (QW h9) rfl (Qh rfl rfl (QW h9) rfl (Qh rfl rfl (QW h9) rfl (QC rfl (QW h9) rfl rfl (Qb rfl rfl (Qh rfl rfl rfl rfl (Qh rfl rfl rfl rfl (Qh rfl rfl rfl rfl (QC rfl rfl rfl rfl (Qb rfl rfl (Qh rfl rfl rfl rfl (Qh rfl rfl rfl rfl (Qh rfl rfl rfl rfl (QC rfl rfl rfl rfl (Qf (Qc (Qi [5,1,0,56] rfl (Xr rfl (Qd (Qa (Qe rfl rfl (Qf (Qc (Qu (Qx (Qn (Qn (Qx (Qn (QQ (.inr rfl) rfl rfl (⟨_,rfl,YW ha hoo,hk4.pick [1] rfl⟩))))))))))))))))))))))))))))))
  refine Qj rfl rfl (Q0 h9) (Qg rfl Wv rfl (Qj rfl rfl (Q0 h9) (Qo rfl QO (hk4.cell 0 rfl rfl) rfl (Qj rfl rfl (Q0 h9) (Xb rfl rfl rfl (QG rfl (Q0 h9) rfl rfl (Qb rfl rfl (QN 47 rfl (fun h10=> ?_) (fun h10=> ?_)))))))))
  ·have hoo:Bw x=false:= by unfold Bw; simp;omega
   exact Qh rfl rfl (QW h10) rfl (Qh rfl rfl (QW h10) rfl (Qh rfl rfl (QW h10) rfl (QC rfl (QW h10) rfl rfl (Qb rfl rfl (Qh rfl rfl rfl rfl (Qh rfl rfl rfl rfl (Qh rfl rfl rfl rfl (QC rfl rfl rfl rfl (Qf (Qc (Qi [5,1,0,56] rfl (Xr rfl (Qd (Qa (Qe rfl rfl (Qf (Qc (Qu (Qx (Qn (Qn (Qx (Qn (QQ (.inr rfl) rfl rfl (⟨_,rfl,YW ha hoo,hk4.pick [1] rfl⟩)))))))))))))))))))))))))
  refine Qj rfl rfl (Q0 h10) (Qg rfl Wv rfl (Qj rfl rfl (Q0 h10) (Qo rfl QO (hk4.cell 0 rfl rfl) rfl (Qj rfl rfl (Q0 h10) (Y6 rfl rfl rfl (QG rfl (Q0 h10) rfl rfl (Qb rfl rfl (QN 52 rfl (fun h11=> ?_) (fun h11=> ?_)))))))))
  ·have hoo:Bw x=false:= by unfold Bw; simp;omega
   exact Qh rfl rfl (QW h11) rfl (Qh rfl rfl (QW h11) rfl (Qh rfl rfl (QW h11) rfl (QC rfl (QW h11) rfl rfl (Qf (Qc (Qi [5,1,0,56] rfl (Xr rfl (Qd (Qa (Qe rfl rfl (Qf (Qc (Qu (Qx (Qn (Qn (Qx (Qn (QQ (.inr rfl) rfl rfl (⟨_,rfl,YW ha hoo,hk4.pick [1] rfl⟩))))))))))))))))))))
  refine Qj rfl rfl (Q0 h11) (Qg rfl HU rfl (Qj rfl rfl (Q0 h11) (Qo rfl QO (hk4.cell 0 rfl rfl) rfl (Qj rfl rfl (Q0 h11) (Xb rfl rfl rfl (QG rfl (Q0 h11) rfl rfl (Qf (Qc (Qi [5,1,0,56] rfl (Qs rfl (fun h12=> ?_) (fun h12=> ?_)))))))))))
  ·have hoo:Bw x=false:= by first | assumption | (unfold Bw; simp;omega)
   exact Qd (Qa (Qe rfl rfl (Qf (Qc (Qu (Qx (Qn (Qn (Qx (Qn (QQ (.inr rfl) rfl rfl (⟨_,rfl,YW ha hoo,hk4.pick [1] rfl⟩))))))))))))
  have hoo:Bw x=true:= by unfold Bw; simp;omega
  refine Qr (Ql (Qc (Qa (Qb rfl rfl (QK rfl rfl (by omega) (by omega) rfl ?_)))))
  refine Qe rfl rfl (Qf ?_)
  exact Q6 (L1:=[(0,_),(1,_),(5,intV ((i+1:Nat):Int))]) (Cn rfl rfl rfl) (k1:=l.length -(i+1)) (by omega) ⟨i+1,rfl,rfl,hk4.pick [1] rfl, by omega, fun j b hj hb=> by by_cases e:j=i;(subst e; rw[ha]at hb; cases hb; exact hoo); exact hok j b (by omega) hb⟩
 exact QS (Qp (Qp (Qz (Qc (Qd (Qa (Qb rfl rfl (X5 Tryz.underlying36 rfl rfl (Qb rfl rfl (AJ rfl rfl rfl (Qe rfl rfl (Qf (Qc (Qi [4] rfl (Qu (QQ (.inr rfl) rfl rfl (⟨_,rfl,IH hok hi (by omega),hS1.pick [0] rfl⟩)))))))))))))))))
theorem Oc {w:World} {b p q n m c e:Nat} {A:LvA} {W:WS} {F:Th} (hS:Sat w [Yb b p n m c e A,Xi q W,F]) (hn:n+(2200+2*e)≤60000000000) (hm:m<Zp) (hc:c+1<256) (hv:VisP A.pres W) {x:AcL} (hf:FC x):
    Calls Tryz.prog 36 #[ptrV b 0,intV 0,ptrV q 0,.agg #[intV x.dk,intV x.idn,strV x.ob,strV x.to,intV x.first,intV x.n,intV x.at_,intV x.bb]] w (Ret fun v w'=>v= .bool true∧Sat w' [Yb b p (n+(2200+2*e)) m (c+1) (e+512) {A with pres:=Vv A.pres x},Xi q (Yn W x),F]):= by
 refine Qq Tryz.func36 rfl Tryz.ntmps36 rfl ?_
 obtain⟨f1,f2,f3,f4,f5,f6,f7,f8⟩:=hf
 refine Qd (Qa (XU hS rfl rfl rfl ?_))
 intro qb w1 hS1
 refine Qe rfl rfl (Qf (Qc (Qd (Qd (Qa (Qg rfl Db rfl (Qo rfl QO (hS1.cell 0 rfl rfl) rfl (Qv Nf rfl (BS (hS1.sp [] rfl) x.dk 14 (by omega)) rfl ?_))))))))
 rintro _ w2 ⟨rfl,hS2⟩
 replace hS2:=hS2.jn rfl rfl
 clear hS1
 refine Qf (Qc (Qw (Ue (fun E0 W0=> ∃(bb:Bool),E0=[(0,ptrV b 0),(1,intV 0),(2,ptrV q 0),(7,ptrV qb 0),(11,intV (x.dk%14)),(12,.bool bb)]∧Sat W0 [Yb b p n m c e A,Xi q W,QF qb (U8 x),F]∧(bb=true↔(x.dk%14=0∨x.dk%14=1∨x.dk%14=2∨x.dk%14=7∨x.dk%14=8))) ?_ ?_)))
 ·refine Qd (Qa (QX rfl rfl rfl (Qe rfl rfl (Qf (Qc (Qi [2,1,0,7,8,11,12] rfl (Qs rfl (fun h4=> ?_) (fun h4=> ?_))))))))
  ·refine Qr ?_
   exact Z9 (U9 rfl rfl rfl rfl rfl rfl) ⟨_,rfl,hS2.pick [1,2,0,3] rfl, by rw[decide_eq_true_eq];omega⟩
  refine Qd (Qa (QX rfl rfl rfl (Qe rfl rfl (Qf (Qc (Qs rfl (fun h5=> ?_) (fun h5=> ?_)))))))
  ·refine Qr ?_
   exact Z9 (U9 rfl rfl rfl rfl rfl rfl) ⟨_,rfl,hS2.pick [1,2,0,3] rfl, by rw[decide_eq_true_eq];omega⟩
  refine Qd (Qa (QX rfl rfl rfl (Qe rfl rfl (Qf (Qc (Qs rfl (fun h6=> ?_) (fun h6=> ?_)))))))
  ·refine Qr ?_
   exact Z9 (U9 rfl rfl rfl rfl rfl rfl) ⟨_,rfl,hS2.pick [1,2,0,3] rfl, by rw[decide_eq_true_eq];omega⟩
  refine Qd (Qa (QX rfl rfl rfl (Qe rfl rfl (Qf (Qc (Qs rfl (fun h7=> ?_) (fun h7=> ?_)))))))
  ·refine Qr ?_
   exact Z9 (U9 rfl rfl rfl rfl rfl rfl) ⟨_,rfl,hS2.pick [1,2,0,3] rfl, by rw[decide_eq_true_eq];omega⟩
  refine Qa (QX rfl rfl rfl (Qe rfl rfl (Qf ?_)))
  exact Z9 (U9 rfl rfl rfl rfl rfl rfl) ⟨_,rfl,hS2.pick [1,2,0,3] rfl, by rw[decide_eq_true_eq];omega⟩
 rintro _ w3 ⟨bb,rfl,hS3,hbb⟩
 refine QM rfl (fun h8=> ?_) (fun h8=> ?_)
 ·have hK:=hbb.1 h8
  refine Qd ?_
  have hS9:=hS3.drew
  refine QJ [0,1,2,3,4,5,7,8,9,10,11,6,12,13,14] [6,12] Wp (by kernel_rfl) ?_
  refine QE rfl rfl rfl (QE rfl rfl rfl (QT rfl rfl rfl ZL (Q9 rfl rfl rfl (Qm rfl ZC (hS9.cell 2 rfl rfl)) (QT rfl rfl rfl Wv (Q9 rfl rfl rfl (Qm rfl QO (hS9.cell 2 rfl rfl)) (QE rfl rfl rfl (QT rfl rfl rfl ZL (Q9 rfl rfl rfl (Qm rfl ZC (hS9.cell 2 rfl rfl)) (QT rfl rfl rfl Wv (Q9 rfl rfl rfl (Qm rfl QO (hS9.cell 2 rfl rfl)) (Xj rfl rfl rfl rfl rfl rfl ?_)))))))))))
  refine Qv Bg rfl (Il (hS9.sp [0] rfl) (by omega) hm x.ob x.at_) rfl ?_
  rintro _ w10 ⟨rfl,hS10⟩
  replace hS10:=hS10.jn rfl rfl
  clear hS9
  rw[Sa hv]
  refine X6 (.cons (.inl ⟨rfl,(Qm rfl QO (hS10.cell 2 rfl rfl))⟩) (.cons (.inl ⟨rfl,(Qm rfl ZC (hS10.cell 2 rfl rfl))⟩) (Xq (by kernel_rfl)))) ?_
  refine Xj rfl rfl rfl rfl rfl rfl ?_
  refine Qv Fm rfl (Nq (hS10.sp [1] rfl) x.ob x.at_) rfl ?_
  rintro _ w11 ⟨rfl,hS11⟩
  replace hS11:=hS11.jn rfl rfl
  clear hS10
  refine X6 (Xq (by kernel_rfl)) ?_
  refine QU rfl rfl rfl (fun _=>(Hb rfl rfl)) ?_
  refine XN rfl rfl rfl (VC.nil (Qc (Qi [7,2,1,0,8] rfl (Qu (Qx (Qn (QQ (.inr rfl) rfl rfl ?_)))))))
  obtain⟨st1,st2,st3⟩:=WU (b:=A.pres) (t:=⟨0, fun _=>none, fun _=>false⟩) (P:=A.pres) (W:=W) (x:=x) (by unfold Wc;omega)
  exact⟨_,rfl, by(simp;done), by rw[st2,st3]; exact Jm (by omega) (by omega) (by omega) (by omega) (hS11.pick [1,0,3] rfl)⟩
 have hK: ¬(x.dk%14=0∨x.dk%14=1∨x.dk%14=2∨x.dk%14=7∨x.dk%14=8):= fun q=> by have q2:=hbb.2 q; rw[q2]at h8; cases h8
 refine Ue (fun E0 W0=> ∃(bb:Bool),E0=[(0,ptrV b 0),(1,intV 0),(2,ptrV q 0),(7,ptrV qb 0),(11,intV (x.dk%14)),(32,.bool bb)]∧Sat W0 [Yb b p n m c e A,Xi q W,QF qb (U8 x),F]∧(bb=true↔(x.dk%14=5∨x.dk%14=11))) ?_ ?_
 ·refine Qd (Qa (QX rfl rfl rfl (Qe rfl rfl (Qf (Qc (Qs rfl (fun h13=> ?_) (fun h13=> ?_)))))))
  ·refine Qr ?_
   exact Z9 (U9 rfl rfl rfl rfl rfl rfl) ⟨_,rfl,hS3.pick [0,1,2,3] rfl, by rw[decide_eq_true_eq];omega⟩
  refine Qa (QX rfl rfl rfl (Qe rfl rfl (Qf ?_)))
  exact Z9 (U9 rfl rfl rfl rfl rfl rfl) ⟨_,rfl,hS3.pick [0,1,2,3] rfl, by rw[decide_eq_true_eq];omega⟩
 rintro _ w12 ⟨bb,rfl,hS12,hbb⟩
 refine QM rfl (fun h14=> ?_) (fun h14=> ?_)
 ·have hK2:=hbb.1 h14
  refine Qd (Qa (Qb rfl rfl (Qb rfl rfl (Qg rfl ZL rfl (Qo rfl ZC (hS12.cell 2 rfl rfl) rfl (Qg rfl HV rfl (Qo rfl QO (hS12.cell 2 rfl rfl) rfl (Qg rfl HU rfl (Qo rfl QO (hS12.cell 2 rfl rfl) rfl (Qg rfl UU rfl (Qo rfl ZC (hS12.cell 2 rfl rfl) rfl (Qg rfl Wv rfl (Qo rfl QO (hS12.cell 2 rfl rfl) rfl (Qv Fv rfl (Ij (hS12.sp [0] rfl) (by omega) hm x.ob x.to x.first x.n x.at_ (by omega) (by omega) (by omega) (by omega)) rfl ?_))))))))))))))
  rintro _ w15 hS15
  replace hS15:=hS15.jn rfl rfl
  clear hS12
  refine Qf (Qc (Qi [7,2,1,0] rfl (Qd (Qa (Qb rfl rfl (Qg rfl ZL rfl (Qo rfl ZC (hS15.cell 2 rfl rfl) rfl (Qg rfl HV rfl (Qo rfl QO (hS15.cell 2 rfl rfl) rfl (Qg rfl HU rfl (Qo rfl QO (hS15.cell 2 rfl rfl) rfl (Qg rfl UU rfl (Qo rfl ZC (hS15.cell 2 rfl rfl) rfl (Qg rfl Wv rfl (Qo rfl QO (hS15.cell 2 rfl rfl) rfl (Qv CY rfl (Di (hS15.sp [1] rfl) x.ob x.first x.n x.to x.at_ (by omega) (by omega) (by omega) (by omega)) rfl ?_))))))))))))))))
  rintro _ w16 ⟨rfl,hS16⟩
  replace hS16:=hS16.jn rfl rfl
  clear hS15
  refine Qf (Qc (Qi [7,2,1,0] rfl (Qd (Qa (Qe rfl rfl (Qf (Qc (Qu (Qx (Qn (QQ (.inr rfl) rfl rfl ?_)))))))))))
  obtain⟨st1,st2,st3⟩:=Ym (b:=A.pres) (t:=⟨0, fun _=>none, fun _=>false⟩) (P:=A.pres) (W:=W) (x:=x) (by unfold Wc;omega)
  exact⟨_,rfl, by rfl, by rw[st2,st3]; exact Jm (by omega) (by omega) (by omega) (by omega) (hS16.pick [1,0,3] rfl)⟩
 have hK2: ¬(x.dk%14=5∨x.dk%14=11):= fun q=> by have q2:=hbb.2 q; rw[q2]at h14; cases h14
 refine Qd (Qa (QX rfl rfl rfl (Qe rfl rfl (Qf (Qc (Qs rfl (fun h17=> ?_) (fun h17=> ?_)))))))
 ·refine Qd (Qa (Qb rfl rfl (Qb rfl rfl (Qg rfl ZL rfl (Qo rfl ZC (hS12.cell 2 rfl rfl) rfl (Qv Fz rfl (Ih (hS12.sp [0] rfl) (by omega) hm x.ob (by omega)) rfl ?_))))))
  rintro _ w18 hS18
  replace hS18:=hS18.jn rfl rfl
  clear hS12
  refine Qf (Qc (Qi [7,2,1,0] rfl (Qd (Qa (Qb rfl rfl (Qg rfl ZL rfl (Qo rfl ZC (hS18.cell 2 rfl rfl) rfl (Qv Fk rfl (CM (hS18.sp [1] rfl) x.ob) rfl ?_))))))))
  rintro _ w19 ⟨rfl,hS19⟩
  replace hS19:=hS19.jn rfl rfl
  clear hS18
  refine Qf (Qc (Qd (Qa (Qe rfl rfl (Qf (Qc (Qu (Qx (Qn (QQ (.inr rfl) rfl rfl ?_))))))))))
  obtain⟨st1,st2,st3⟩:=YM (b:=A.pres) (t:=⟨0, fun _=>none, fun _=>false⟩) (P:=A.pres) (W:=W) (x:=x) (by unfold Wc;omega)
  exact⟨_,rfl, by rfl, by rw[st2,st3]; exact Jm (by omega) (by omega) (by omega) (by omega) (hS19.pick [1,0,3] rfl)⟩
 refine Qr (Ql (Qc (Qd (Qa (Qb rfl rfl (Qg rfl ZL rfl (Qo rfl ZC (hS12.cell 2 rfl rfl) rfl (Qg rfl Wv rfl (Qo rfl QO (hS12.cell 2 rfl rfl) rfl (Qg rfl RT rfl (Qo rfl QO (hS12.cell 2 rfl rfl) rfl (Uk Tryz.underlying3 Tryz.underlying5 rfl (Gq x.bb) rfl (Qv Fj rfl (KQ (hS12.sp [1] rfl) x.ob x.at_ (b8 x.bb) (by omega)) rfl ?_)))))))))))))
 rintro _ w20 ⟨rfl,hS20⟩
 replace hS20:=hS20.jn rfl rfl
 clear hS12
 refine Qf (Qc (Qi [7,1,0] rfl (Qd (Qa (Qb rfl rfl (Qb rfl rfl (Qg rfl ZL rfl (Qo rfl ZC (hS20.cell 2 rfl rfl) rfl (Qg rfl Wv rfl (Qo rfl QO (hS20.cell 2 rfl rfl) rfl (Qg rfl RT rfl (Qo rfl QO (hS20.cell 2 rfl rfl) rfl (Uk Tryz.underlying3 Tryz.underlying5 rfl (Gq x.bb) rfl (Qv Bh rfl (If (hS20.sp [1] rfl) (by omega) hm hc x.ob x.at_ (b8 x.bb)) rfl ?_))))))))))))))
 rintro _ w21 ⟨rfl,hS21⟩
 replace hS21:=hS21.jn rfl rfl
 clear hS20
 refine QX rfl rfl rfl (Qe rfl rfl (Qf (Qc (Qi [8] rfl (Qu (QQ (.inr rfl) rfl rfl ?_))))))
 obtain⟨st1,st2,st3⟩:=YL (b:=A.pres) (t:=⟨0, fun _=>none, fun _=>false⟩) (P:=A.pres) (W:=W) (x:=x) (by unfold Wc;omega) (by unfold Wc;omega) (by unfold Wc;omega)
 exact⟨_,rfl, by rfl, by rw[st2,st3]; exact Jm (by omega) (by omega) (by omega) (by omega) (hS21.pick [0,1,3] rfl)⟩
theorem DK {w:World} {b p q n m c e:Nat} {A:LvA} {W:WS} {F:Th} (hS:Sat w [Yb b p n m c e A,Xi q W,F]) (hn:n+(2200+2*e)≤60000000000) (hm:m<Zp) (hc:c+1<256) {id pp:Int} {bg:KD→Bs} {t:TrA} (ht:A.tr id=some t) (hp:t.parent=pp) (hb:BgI A id pp bg) (hv:VisT bg t W) {x:AcL} (hf:FC x):
    Calls Tryz.prog 36 #[ptrV b 0,intV id,ptrV q 0,.agg #[intV x.dk,intV x.idn,strV x.ob,strV x.to,intV x.first,intV x.n,intV x.at_,intV x.bb]] w (Ret fun v w'=>v= .bool true∧Sat w' [Yb b p (n+(2200+2*e)) m (c+1) (e+512) (UK A id (WM bg t x)),Xi q (Yn W x),F]):= by
 refine Qq Tryz.func36 rfl Tryz.ntmps36 rfl ?_
 obtain⟨f1,f2,f3,f4,f5,f6,f7,f8⟩:=hf
 refine Qd (Qa (XU hS rfl rfl rfl ?_))
 intro qb w1 hS1
 refine Qe rfl rfl (Qf (Qc (Qd (Qd (Qa (Qg rfl Db rfl (Qo rfl QO (hS1.cell 0 rfl rfl) rfl (Qv Nf rfl (BS (hS1.sp [] rfl) x.dk 14 (by omega)) rfl ?_))))))))
 rintro _ w2 ⟨rfl,hS2⟩
 replace hS2:=hS2.jn rfl rfl
 clear hS1
 refine Qf (Qc (Qw (Ue (fun E0 W0=> ∃(bb:Bool),E0=[(0,ptrV b 0),(1,intV id),(2,ptrV q 0),(7,ptrV qb 0),(11,intV (x.dk%14)),(12,.bool bb)]∧Sat W0 [Yb b p n m c e A,Xi q W,QF qb (U8 x),F]∧(bb=true↔(x.dk%14=0∨x.dk%14=1∨x.dk%14=2∨x.dk%14=7∨x.dk%14=8))) ?_ ?_)))
 ·refine Qd (Qa (QX rfl rfl rfl (Qe rfl rfl (Qf (Qc (Qi [2,1,0,7,8,11,12] rfl (Qs rfl (fun h4=> ?_) (fun h4=> ?_))))))))
  ·refine Qr ?_
   exact Z9 (U9 rfl rfl rfl rfl rfl rfl) ⟨_,rfl,hS2.pick [1,2,0,3] rfl, by rw[decide_eq_true_eq];omega⟩
  refine Qd (Qa (QX rfl rfl rfl (Qe rfl rfl (Qf (Qc (Qs rfl (fun h5=> ?_) (fun h5=> ?_)))))))
  ·refine Qr ?_
   exact Z9 (U9 rfl rfl rfl rfl rfl rfl) ⟨_,rfl,hS2.pick [1,2,0,3] rfl, by rw[decide_eq_true_eq];omega⟩
  refine Qd (Qa (QX rfl rfl rfl (Qe rfl rfl (Qf (Qc (Qs rfl (fun h6=> ?_) (fun h6=> ?_)))))))
  ·refine Qr ?_
   exact Z9 (U9 rfl rfl rfl rfl rfl rfl) ⟨_,rfl,hS2.pick [1,2,0,3] rfl, by rw[decide_eq_true_eq];omega⟩
  refine Qd (Qa (QX rfl rfl rfl (Qe rfl rfl (Qf (Qc (Qs rfl (fun h7=> ?_) (fun h7=> ?_)))))))
  ·refine Qr ?_
   exact Z9 (U9 rfl rfl rfl rfl rfl rfl) ⟨_,rfl,hS2.pick [1,2,0,3] rfl, by rw[decide_eq_true_eq];omega⟩
  refine Qa (QX rfl rfl rfl (Qe rfl rfl (Qf ?_)))
  exact Z9 (U9 rfl rfl rfl rfl rfl rfl) ⟨_,rfl,hS2.pick [1,2,0,3] rfl, by rw[decide_eq_true_eq];omega⟩
 rintro _ w3 ⟨bb,rfl,hS3,hbb⟩
 refine QM rfl (fun h8=> ?_) (fun h8=> ?_)
 ·have hK:=hbb.1 h8
  refine Qd ?_
  have hS9:=hS3.drew
  refine QJ [0,1,2,3,4,5,7,8,9,10,11,6,12,13,14] [6,12] Wp (by kernel_rfl) ?_
  refine QE rfl rfl rfl (QE rfl rfl rfl (QT rfl rfl rfl ZL (Q9 rfl rfl rfl (Qm rfl ZC (hS9.cell 2 rfl rfl)) (QT rfl rfl rfl Wv (Q9 rfl rfl rfl (Qm rfl QO (hS9.cell 2 rfl rfl)) (QE rfl rfl rfl (QT rfl rfl rfl ZL (Q9 rfl rfl rfl (Qm rfl ZC (hS9.cell 2 rfl rfl)) (QT rfl rfl rfl Wv (Q9 rfl rfl rfl (Qm rfl QO (hS9.cell 2 rfl rfl)) (Xj rfl rfl rfl rfl rfl rfl ?_)))))))))))
  refine Qv Bg rfl (Ik (hS9.sp [0] rfl) (by omega) hm ht hp hb x.ob x.at_) rfl ?_
  rintro _ w10 ⟨rfl,hS10⟩
  replace hS10:=hS10.jn rfl rfl
  clear hS9
  rw[PZ hv]
  refine X6 (.cons (.inl ⟨rfl,(Qm rfl QO (hS10.cell 2 rfl rfl))⟩) (.cons (.inl ⟨rfl,(Qm rfl ZC (hS10.cell 2 rfl rfl))⟩) (Xq (by kernel_rfl)))) ?_
  refine Xj rfl rfl rfl rfl rfl rfl ?_
  refine Qv Fm rfl (Nq (hS10.sp [1] rfl) x.ob x.at_) rfl ?_
  rintro _ w11 ⟨rfl,hS11⟩
  replace hS11:=hS11.jn rfl rfl
  clear hS10
  refine X6 (Xq (by kernel_rfl)) ?_
  refine QU rfl rfl rfl (fun _=>(Hb rfl rfl)) ?_
  refine XN rfl rfl rfl (VC.nil (Qc (Qi [7,2,1,0,8] rfl (Qu (Qx (Qn (QQ (.inr rfl) rfl rfl ?_)))))))
  obtain⟨st1,st2,st3⟩:=WU (b:=bg) (t:=t) (P:=A.pres) (W:=W) (x:=x) (by unfold Wc;omega)
  exact⟨_,rfl, by(simp;done), by rw[st1,st3]; exact Jm (by omega) (by omega) (by omega) (by omega) (hS11.pick [1,0,3] rfl)⟩
 have hK: ¬(x.dk%14=0∨x.dk%14=1∨x.dk%14=2∨x.dk%14=7∨x.dk%14=8):= fun q=> by have q2:=hbb.2 q; rw[q2]at h8; cases h8
 refine Ue (fun E0 W0=> ∃(bb:Bool),E0=[(0,ptrV b 0),(1,intV id),(2,ptrV q 0),(7,ptrV qb 0),(11,intV (x.dk%14)),(32,.bool bb)]∧Sat W0 [Yb b p n m c e A,Xi q W,QF qb (U8 x),F]∧(bb=true↔(x.dk%14=5∨x.dk%14=11))) ?_ ?_
 ·refine Qd (Qa (QX rfl rfl rfl (Qe rfl rfl (Qf (Qc (Qs rfl (fun h13=> ?_) (fun h13=> ?_)))))))
  ·refine Qr ?_
   exact Z9 (U9 rfl rfl rfl rfl rfl rfl) ⟨_,rfl,hS3.pick [0,1,2,3] rfl, by rw[decide_eq_true_eq];omega⟩
  refine Qa (QX rfl rfl rfl (Qe rfl rfl (Qf ?_)))
  exact Z9 (U9 rfl rfl rfl rfl rfl rfl) ⟨_,rfl,hS3.pick [0,1,2,3] rfl, by rw[decide_eq_true_eq];omega⟩
 rintro _ w12 ⟨bb,rfl,hS12,hbb⟩
 refine QM rfl (fun h14=> ?_) (fun h14=> ?_)
 ·have hK2:=hbb.1 h14
  refine Qd (Qa (Qb rfl rfl (Qb rfl rfl (Qg rfl ZL rfl (Qo rfl ZC (hS12.cell 2 rfl rfl) rfl (Qg rfl HV rfl (Qo rfl QO (hS12.cell 2 rfl rfl) rfl (Qg rfl HU rfl (Qo rfl QO (hS12.cell 2 rfl rfl) rfl (Qg rfl UU rfl (Qo rfl ZC (hS12.cell 2 rfl rfl) rfl (Qg rfl Wv rfl (Qo rfl QO (hS12.cell 2 rfl rfl) rfl (Qv Fv rfl (Ii (hS12.sp [0] rfl) (by omega) hm ht hp hb x.ob x.to x.first x.n x.at_ (by omega) (by omega) (by omega) (by omega)) rfl ?_))))))))))))))
  rintro _ w15 hS15
  replace hS15:=hS15.jn rfl rfl
  clear hS12
  refine Qf (Qc (Qi [7,2,1,0] rfl (Qd (Qa (Qb rfl rfl (Qg rfl ZL rfl (Qo rfl ZC (hS15.cell 2 rfl rfl) rfl (Qg rfl HV rfl (Qo rfl QO (hS15.cell 2 rfl rfl) rfl (Qg rfl HU rfl (Qo rfl QO (hS15.cell 2 rfl rfl) rfl (Qg rfl UU rfl (Qo rfl ZC (hS15.cell 2 rfl rfl) rfl (Qg rfl Wv rfl (Qo rfl QO (hS15.cell 2 rfl rfl) rfl (Qv CY rfl (Di (hS15.sp [1] rfl) x.ob x.first x.n x.to x.at_ (by omega) (by omega) (by omega) (by omega)) rfl ?_))))))))))))))))
  rintro _ w16 ⟨rfl,hS16⟩
  replace hS16:=hS16.jn rfl rfl
  clear hS15
  refine Qf (Qc (Qi [7,2,1,0] rfl (Qd (Qa (Qe rfl rfl (Qf (Qc (Qu (Qx (Qn (QQ (.inr rfl) rfl rfl ?_)))))))))))
  obtain⟨st1,st2,st3⟩:=Ym (b:=bg) (t:=t) (P:=A.pres) (W:=W) (x:=x) (by unfold Wc;omega)
  exact⟨_,rfl, by rfl, by rw[st1,st3]; exact Jm (by omega) (by omega) (by omega) (by omega) (hS16.pick [1,0,3] rfl)⟩
 have hK2: ¬(x.dk%14=5∨x.dk%14=11):= fun q=> by have q2:=hbb.2 q; rw[q2]at h14; cases h14
 refine Qd (Qa (QX rfl rfl rfl (Qe rfl rfl (Qf (Qc (Qs rfl (fun h17=> ?_) (fun h17=> ?_)))))))
 ·refine Qd (Qa (Qb rfl rfl (Qb rfl rfl (Qg rfl ZL rfl (Qo rfl ZC (hS12.cell 2 rfl rfl) rfl (Qv Fz rfl (Ig (hS12.sp [0] rfl) (by omega) hm ht hp hb x.ob (by omega)) rfl ?_))))))
  rintro _ w18 hS18
  replace hS18:=hS18.jn rfl rfl
  clear hS12
  refine Qf (Qc (Qi [7,2,1,0] rfl (Qd (Qa (Qb rfl rfl (Qg rfl ZL rfl (Qo rfl ZC (hS18.cell 2 rfl rfl) rfl (Qv Fk rfl (CM (hS18.sp [1] rfl) x.ob) rfl ?_))))))))
  rintro _ w19 ⟨rfl,hS19⟩
  replace hS19:=hS19.jn rfl rfl
  clear hS18
  refine Qf (Qc (Qd (Qa (Qe rfl rfl (Qf (Qc (Qu (Qx (Qn (QQ (.inr rfl) rfl rfl ?_))))))))))
  obtain⟨st1,st2,st3⟩:=YM (b:=bg) (t:=t) (P:=A.pres) (W:=W) (x:=x) (by unfold Wc;omega)
  exact⟨_,rfl, by rfl, by rw[st1,st3]; exact Jm (by omega) (by omega) (by omega) (by omega) (hS19.pick [1,0,3] rfl)⟩
 refine Qr (Ql (Qc (Qd (Qa (Qb rfl rfl (Qg rfl ZL rfl (Qo rfl ZC (hS12.cell 2 rfl rfl) rfl (Qg rfl Wv rfl (Qo rfl QO (hS12.cell 2 rfl rfl) rfl (Qg rfl RT rfl (Qo rfl QO (hS12.cell 2 rfl rfl) rfl (Uk Tryz.underlying3 Tryz.underlying5 rfl (Gq x.bb) rfl (Qv Fj rfl (KQ (hS12.sp [1] rfl) x.ob x.at_ (b8 x.bb) (by omega)) rfl ?_)))))))))))))
 rintro _ w20 ⟨rfl,hS20⟩
 replace hS20:=hS20.jn rfl rfl
 clear hS12
 refine Qf (Qc (Qi [7,1,0] rfl (Qd (Qa (Qb rfl rfl (Qb rfl rfl (Qg rfl ZL rfl (Qo rfl ZC (hS20.cell 2 rfl rfl) rfl (Qg rfl Wv rfl (Qo rfl QO (hS20.cell 2 rfl rfl) rfl (Qg rfl RT rfl (Qo rfl QO (hS20.cell 2 rfl rfl) rfl (Uk Tryz.underlying3 Tryz.underlying5 rfl (Gq x.bb) rfl (Qv Bh rfl (Ie (hS20.sp [1] rfl) (by omega) hm ht hp hb hc x.ob x.at_ (b8 x.bb)) rfl ?_))))))))))))))
 rintro _ w21 ⟨rfl,hS21⟩
 replace hS21:=hS21.jn rfl rfl
 clear hS20
 refine QX rfl rfl rfl (Qe rfl rfl (Qf (Qc (Qi [8] rfl (Qu (QQ (.inr rfl) rfl rfl ?_))))))
 obtain⟨st1,st2,st3⟩:=YL (b:=bg) (t:=t) (P:=A.pres) (W:=W) (x:=x) (by unfold Wc;omega) (by unfold Wc;omega) (by unfold Wc;omega)
 exact⟨_,rfl, by rfl, by rw[st1,st3]; exact Jm (by omega) (by omega) (by omega) (by omega) (hS21.pick [0,1,3] rfl)⟩
end Go.Proofs.YtkcjfoaejijdoaaGreatDoor
