/- laws of leaves: contracts by contents, whatever the arguments -/
import Derived.Test.YtkcjfoaejijdoaaGreatDoorWcl
import Derived.Test.YtkcjfoaejijdoaaGreatDoorFw
set_option linter.unusedVariables false
set_option maxRecDepth 100000
set_option maxHeartbeats 800000000
namespace Go.Proofs.YtkcjfoaejijdoaaGreatDoor
open Go.RowKit M
section
variable {A:LvA} {id p:Int} {b:KD→Bs} {t:TrA} {ob:Bs} {k:KD} {y:LfA}
theorem AQ (ht:A.tr id=some t) (hp:t.parent=p) (hb:BgI A id p b):Zo A id k=Wb b t k:= by
  have :=DC (k:=k) (A:=A) hb hp
  rwa [Ur ht]at this
theorem O9 (ht:A.tr id=some t):ZG A id k y=UM A id (Yr t k y):= by
  have :=DZ (A:=A) (id:=id) (t:=t) (k:=k) (y:=y)
  rwa [Ur ht]at this
theorem drop_bg (ht:A.tr id=some t):U5 A id ob=UM A id (Rh t ob):= by
  have :=EY (A:=A) (id:=id) (t:=t) (ob:=ob)
  rwa [Ur ht]at this
theorem AS {A:LvA} {L:LvD} {V:VS} (hA:QG L V=A) (ht:A.tr id=some t):ZE L id=true:= by
  rw[←T1 (V:=V),hA]
  unfold DD
  rw[ht]
  simp
end
theorem Ij {w:World} {b p n m c e:Nat} {A:LvA} {F:Th} (hS:Sat w [Yd b p n m c e A,F]) (hn:n≤600000000) (hm:m<Zv) {id pp:Int} {bg:KD→Bs} {t:TrA} (ht:A.tr id=some t) (hp:t.parent=pp) (hb:BgI A id pp bg) (ob:Bs) (a:Int):
    Calls Tryz.prog 12 #[ptrV b 0,intV id,strV ob,intV a] w (Ret fun v w'=>v=XZ (if 0≤a∧a<16384 then N4 (JO t (bg (ob,a/ 64)) (ob,a/ 64)) (a%64)else 0)∧Sat w' [Yd b p (n+2) m c (e+1) (UM A id (rdU bg t ob a)),F]):= by
  unfold rdU
  by_cases hr:0≤a∧a<16384
  · rw[if_pos hr,if_pos hr]
    refine(Pq hS hn hm ht ob a hr).mono fun ew w h=>h.mono fun v w h=> ?_
    rw[AQ ht hp hb,O9 ht,H3]at h
    exact h
  · rw[if_neg hr,if_neg hr,Ur ht]
    obtain⟨L,V,⟨h1,h2,h3,h4,h5⟩,hS1⟩:=ZN hS
    refine(Sb hS1 hn ob a id hr).mono fun ew w h=>h.mono fun v w h=> ?_
    exact⟨h.1,Js (by omega) (by omega) (by omega) (by omega) (ZU ⟨h1,h2,h3,h4,h5⟩ h.2)⟩
theorem Ik {w:World} {b p n m c e:Nat} {A:LvA} {F:Th} (hS:Sat w [Yd b p n m c e A,F]) (hn:n≤600000000) (hm:m<Zv) (ob:Bs) (a:Int):
    Calls Tryz.prog 12 #[ptrV b 0,intV 0,strV ob,intV a] w (Ret fun v w'=>v=XZ (if 0≤a∧a<16384 then N4 (A.pres (ob,a/ 64)) (a%64)else 0)∧Sat w' [Yd b p n m c e A,F]):= by
  by_cases hr:0≤a∧a<16384
  · rw[if_pos hr]
    exact Pr hS hn hm ob a hr
  · rw[if_neg hr]
    obtain⟨L,V,⟨h1,h2,h3,h4,h5⟩,hS1⟩:=ZN hS
    refine(Sb hS1 hn ob a 0 hr).mono fun ew w h=>h.mono fun v w h=> ?_
    exact⟨h.1,Js (by omega) (by omega) (by omega) (by omega) (ZU ⟨h1,h2,h3,h4,h5⟩ h.2)⟩
theorem Ic {w:World} {b p n m c e:Nat} {A:LvA} {F:Th} (hS:Sat w [Yd b p n m c e A,F]) (hn:n≤600000000) (hm:m<Zv) {id pp:Int} {bg:KD→Bs} {t:TrA} (ht:A.tr id=some t) (hp:t.parent=pp) (hb:BgI A id pp bg) (hc:c+1<256) (ob:Bs) (a:Int) (bt:UInt8):
    Calls Tryz.prog 10 #[ptrV b 0,intV id,strV ob,intV a,XZ bt] w (Ret fun v w'=>v=intV 0∧Sat w' [Yd b p (n+5) m (c+1) (e+1) (UM A id (wrU bg t ob a bt)),F]):= by
  unfold wrU
  by_cases hr:0≤a∧a<16384
  · rw[if_pos hr]
    refine(Po hS hn hm ht hc ob a bt hr).mono fun ew w h=>h.mono fun v w h=> ?_
    rw[AQ ht hp hb,O9 ht]at h
    exact h
  · rw[if_neg hr,Ur ht]
    obtain⟨L,V,⟨h1,h2,h3,h4,h5⟩,hS1⟩:=ZN hS
    refine(NP hS1 hn ob a bt id hr (AS h3 ht)).mono fun ew w h=>h.mono fun v w h=> ?_
    exact⟨h.1,Js (by omega) (by omega) (by omega) (by omega) (ZU ⟨h1,h2,h3,h4,h5⟩ h.2)⟩
theorem Ie {w:World} {b p n m c e:Nat} {A:LvA} {F:Th} (hS:Sat w [Yd b p n m c e A,F]) (hn:n≤600000000) (hm:m<Zv) (hc:c+1<256) (ob:Bs) (a:Int) (bt:UInt8):
    Calls Tryz.prog 10 #[ptrV b 0,intV 0,strV ob,intV a,XZ bt] w (Ret fun v w'=>v=intV 0∧Sat w' [Yd b p (n+5) m (c+1) (e+1) {A with pres:=LJ A.pres ob a bt},F]):= by
  unfold LJ
  by_cases hr:0≤a∧a<16384
  · rw[if_pos hr]
    exact Pp hS hn hm hc ob a bt hr
  · rw[if_neg hr]
    obtain⟨L,V,⟨h1,h2,h3,h4,h5⟩,hS1⟩:=ZN hS
    refine(NP hS1 hn ob a bt 0 hr rfl).mono fun ew w h=>h.mono fun v w h=> ?_
    exact⟨h.1,Js (by omega) (by omega) (by omega) (by omega) (ZU ⟨h1,h2,h3,h4,h5⟩ h.2)⟩
theorem Ih {w:World} {b p n m c e:Nat} {A:LvA} {F:Th} (hS:Sat w [Yd b p n m c e A,F]) (hn:n≤600000000) (hm:m<Zv) {id pp:Int} {bg:KD→Bs} {t:TrA} (ht:A.tr id=some t) (hp:t.parent=pp) (hb:BgI A id pp bg) (ob to:Bs) (fi cn a:Int) (hf: -2147483648≤fi∧fi≤2147483648) (ha: -2147483648≤a∧a≤2147483648) (hcn: -2147483648≤cn∧cn≤300) (hn2:n+2100≤600000000):
    Calls Tryz.prog 41 #[ptrV b 0,intV id,strV ob,intV fi,intV cn,strV to,intV a] w (Ret fun v w'=>Sat w' [Yd b p (n+2100) m c (e+512) (UM A id (HG bg t ob fi cn to a)),F]):= by
  obtain⟨L,V,⟨h1,h2,h3,h4,h5⟩,hS1⟩:=ZN hS
  have ht2:=ht
  rw[←h3]at ht2
  obtain⟨u,hu,_⟩:=Uh ht2
  refine(qae hS1 hn2 h2 hm hu ob to fi cn a hf ha hcn).mono fun ew w h=>h.mono fun v w h=> ?_
  obtain⟨L',V',q,hs,hab,hq,hS2⟩:=h
  have e1:q=VN cn a:= by unfold VN;omega
  subst e1
  refine ZU ⟨hs.sp.trans h1,hs.inv, ?_,hs.al _ h4,hs.sz _ h5⟩ hS2
  rw[hab,h3,←qaf hb hp,Ur ht]
theorem Ii {w:World} {b p n m c e:Nat} {A:LvA} {F:Th} (hS:Sat w [Yd b p n m c e A,F]) (hn:n≤600000000) (hm:m<Zv) (ob to:Bs) (fi cn a:Int) (hf: -2147483648≤fi∧fi≤2147483648) (ha: -2147483648≤a∧a≤2147483648) (hcn: -2147483648≤cn∧cn≤300) (hn2:n+2000≤600000000):
    Calls Tryz.prog 41 #[ptrV b 0,intV 0,strV ob,intV fi,intV cn,strV to,intV a] w (Ret fun v w'=>Sat w' [Yd b p (n+2000) m c (e+256) {A with pres:=Fb A.pres ob fi cn to a},F]):= by
  obtain⟨L,V,⟨h1,h2,h3,h4,h5⟩,hS1⟩:=ZN hS
  refine(PT hS1 hn2 h2 hm ob to fi cn a hf ha hcn).mono fun ew w h=>h.mono fun v w h=> ?_
  obtain⟨L',V',q,hs,_,hab,hq,hS2⟩:=h
  have e1:q=VN cn a:= by unfold VN;omega
  subst e1
  refine ZU ⟨hs.sp.trans h1,hs.inv, ?_,hs.al _ h4,hs.sz _ h5⟩ hS2
  rw[hab,h3,Cb,←qah]
  refine MC _ fun i hi=> ?_
  have e2:(G0 L ob (fi+max 0 (-a)) (VN cn a)).getD i 0=PR L ob (fi+max 0 (-a)+(i:Int)):= by
    unfold G0
    simp [List.getD,hi]
  rw[e2]
  unfold PR cpC
  subst h3
  by_cases e3:0≤fi+max 0 (-a)+(i:Int)∧fi+max 0 (-a)+(i:Int)<256
  · rw[if_pos e3,if_pos e3,Wk];rfl
  · rw[if_neg e3,if_neg e3]; exact Ww h2.zero
theorem If {w:World} {b p n m c e:Nat} {A:LvA} {F:Th} (hS:Sat w [Yd b p n m c e A,F]) (hn:n≤600000000) (hm:m<Zv) {id pp:Int} {bg:KD→Bs} {t:TrA} (ht:A.tr id=some t) (hp:t.parent=pp) (hb:BgI A id pp bg) (ob:Bs) (hn2:n+2*e≤600000000):
    Calls Tryz.prog 27 #[ptrV b 0,intV id,strV ob] w (Ret fun v w'=>Sat w' [Yd b p (n+2*e) m c e (UM A id (Rh t ob)),F]):= by
  obtain⟨L,V,⟨h1,h2,h3,h4,h5⟩,hS1⟩:=ZN hS
  have ht2:=ht
  rw[←h3]at ht2
  obtain⟨u,hu,_⟩:=Uh ht2
  refine(PK hS1 h5 hn2 h2 (fun _ _=>Int.le_refl _) hu ob).mono fun ew w h=>h.mono fun v w h=> ?_
  obtain⟨L',V',hs,hab,_,hS2⟩:=h
  exact ZU ⟨hs.sp.trans h1,hs.inv, by rw[hab,h3,drop_bg ht],hs.al _ h4,hs.sz _ h5⟩ hS2
theorem Ig {w:World} {b p n m c e:Nat} {A:LvA} {F:Th} (hS:Sat w [Yd b p n m c e A,F]) (hn:n≤600000000) (hm:m<Zv) (ob:Bs) (hn2:n+2*e≤600000000):
    Calls Tryz.prog 27 #[ptrV b 0,intV 0,strV ob] w (Ret fun v w'=>Sat w' [Yd b p (n+2*e) m c e {A with pres:=IX A.pres ob},F]):= by
  obtain⟨L,V,⟨h1,h2,h3,h4,h5⟩,hS1⟩:=ZN hS
  refine(PL hS1 h5 hn2 h2 (fun _ _=>Int.le_refl _) ob).mono fun ew w h=>h.mono fun v w h=> ?_
  obtain⟨L',V',hs,hab,_,hS2⟩:=h
  exact ZU ⟨hs.sp.trans h1,hs.inv, by rw[hab,h3];rfl,hs.al _ h4,hs.sz _ h5⟩ hS2
section
variable {P:Program} {n:Nat} {ops:Array Oper} {Q:Exit→Act→World→Prop} {rest:List Oper} {L:Env} {w:World} {d:Nat} {ty:TypeId} {pos:String} {aft:Array Edge} {x y:Operand} {t t2:TypeId}
theorem wl_remT {a b:Int} (hx:M.look L x=some (.int .i64 a)) (hy:M.look L y=some (.int .i64 b)) (hb:0<b∧b≤1000) (hd:Nat.blt d n=true) (hk:wl P n ops Q rest ((d,.int .i64 (a.tmod b))::L) w):wl P n ops Q (⟨some d,.binOp .rem t x y t2,ty,pos,aft,none⟩::rest) L w:=
  Xv hd (fun ρ hρ=> by
    have hb':b≠0:= by omega
    have h1:=Int.tmod_lt_of_pos a hb.1
    have h2:=Int.lt_tmod_of_pos a hb.1
    have e:IntKind.i64.wrap (a.tmod b)=a.tmod b:=Vp (by omega) (by omega)
    simp [execOp,hρ _ _ hx,hρ _ _ hy,eqGuard,binOp,Op.intDiv,hb',e]) hk
end
theorem FN {n m:Int} (hm:0<m):n%m= if n.tmod m<0 then n.tmod m+m else n.tmod m:= by
  rw[Int.tmod_eq_emod]
  have h1:=Int.emod_nonneg n (by omega:m≠0)
  have h2:=Int.emod_lt_of_pos n hm
  split
  · rw[if_neg (by omega)];omega
  · rename_i h
    rw[Int.natAbs_of_nonneg (by omega)]
    by_cases h3:n%m -m<0
    · rw[if_pos h3];omega
    · omega
theorem BU {w:World} {F:Th} (hS:Sat w [F]) (n m:Int) (hm:0<m∧m≤1000):
    Calls Tryz.prog 19 #[intV n,intV m] w (Ret fun v w'=>v=intV (n%m)∧Sat w' [F]):= by
 refine Qr Tryz.func19 rfl Tryz.ntmps19 rfl ?_
 have hm1:=Int.tmod_lt_of_pos n hm.1
 have hm2:=Int.lt_tmod_of_pos n hm.1
 refine Qd (Qa (Qe rfl rfl (Qf (Qc (Qd (Qa (Qb rfl rfl (Qb rfl rfl (wl_remT rfl rfl hm rfl (Qe rfl rfl (Qf (Qc (Ug (fun E0 W0=>E0=[(0,intV (n%m))]∧Sat W0 [F]) ?_ ?_)))))))))))))
 ·refine Qd (Qa (Qb rfl rfl (Xh rfl rfl rfl (Qf (Qc (Qt rfl (fun h2=> ?_) (fun h2=> ?_)))))))
  ·refine Qa (Qb rfl rfl (Qb rfl rfl (QP rfl rfl (by omega) (by omega) rfl ?_)))
   exact Qe rfl rfl (Qf (ZF (L':=[(0,_)]) (zb1 rfl) ⟨by rw[FN (n:=n) hm.1,if_pos (by assumption)],hS⟩))
  exact Qs (ZF (L':=[(0,_)]) (zb1 rfl) ⟨by rw[FN (n:=n) hm.1,if_neg (by assumption)],hS⟩)
 rintro _ w1 ⟨rfl,hS1⟩
 exact Qd (Qa (Qb rfl rfl (Qe rfl rfl (Qf (Qc (Qw (QW (.inr rfl) rfl rfl (⟨_,rfl,rfl,hS1⟩))))))))
def By (x:AcL):Bool:=decide (x.ob.length≤20)&&decide (x.to.length≤20)&&decide (x.n≤300)&&decide (-2147483648≤x.first)&&decide (x.first≤2147483648)&&decide (-2147483648≤x.at_)&&decide (x.at_≤2147483648)&&decide (-2147483648≤x.n)
def Tb (l:List AcL) (n:Int):Bool:=l.all By&&decide ((l.length:Int)≤n)
theorem YY {l:List AcL} {n:Int} {i:Nat} {x:AcL} (ha:l[i]? =some x) (h:By x=false):Value.bool false= .bool (Tb l n):= by
  have :l.all By=false:= by
    rw[List.all_eq_false]; exact⟨x,List.mem_of_getElem? ha, by rw[h]; simp⟩
  simp [Tb,this]
theorem IG {l:List AcL} {n:Int} {i:Nat} (hok: ∀j a,j<i→l[j]? =some a→By a=true) (hi:i≤l.length) (he: ¬i<l.length):Value.bool (decide ((l.length:Int)≤n))= .bool (Tb l n):= by
  have :l.all By=true:= by
    rw[List.all_eq_true]; intro a ha
    obtain⟨j,hj⟩:=List.mem_iff_getElem?.1 ha
    exact hok j a (by have :=(XX hj).1;omega) hj
  simp only[Tb,this,Bool.true_and]
theorem okL_is {x:AcL} (h:By x=true):FC x:= by
  simp only[By,Bool.and_eq_true,decide_eq_true_eq]at h
  unfold FC
  omega
theorem CF {l:List AcL} {n:Int} (h:Tb l n=true):(l.length:Int)≤n∧ ∀(i:Nat) (x:AcL),l[i]? =some x→FC x:= by
  simp only[Tb,Bool.and_eq_true,List.all_eq_true,decide_eq_true_eq]at h
  exact⟨h.2, fun i x hx=>okL_is (h.1 x (List.mem_of_getElem? hx))⟩
theorem xb_norm {w:World} {xb:Nat} {x:AcL} {As:List Th} (h:Sat w (QK xb (Value.agg (UA x).toArray).cells.toList::As)):Sat w (QK xb [intV x.dk,intV x.idn,strV x.ob,strV x.to,intV x.first,intV x.n,intV x.at_,intV x.bb]::As):=h
theorem SM {w:World} {F:Th} (hS:Sat w [F]) {lv:Value} {l:List AcL} (hL:Ent F (RdL AC lv l)) (n:Int):
    Calls Tryz.prog 17 #[lv,intV n] w (Ret fun v w'=>v= .bool (Tb l n)∧Sat w' [F]):= by
 obtain⟨ao,cap,rfl,hmax⟩:=(hL.sat hS 0 rfl).shape
 refine Qr Tryz.func17 rfl Tryz.ntmps17 rfl ?_
 refine Qd (Qa (Qe rfl rfl (Qf (Qc (Qd (Qd (Qa (Qe rfl rfl (Qf (Qc (Qx ?_)))))))))))
 refine Xk (fun K0 E0 W0=> ∃(i:Nat),K0=l.length -i∧E0=[(0,.slice ao l.length cap),(1,intV n),(5,intV (i:Int))]∧Sat W0 [F]∧(i≤l.length)∧(∀j a,j<i→l[j]? =some a→By a=true)) (L0:=[(0,_),(1,_),(5,_)]) (l.length -0) (Cn rfl rfl rfl) ⟨0,rfl,rfl,hS, by omega, by omega⟩ ?_
 rintro _ _ w1 ⟨i,rfl,rfl,hS1,hi,hok⟩
 refine Qd (Qd (Qa (Qb rfl rfl (Qb rfl rfl (XA Tryz.underlying36 rfl rfl (Xh rfl rfl rfl (Qf (Qc (Qt rfl (fun h2=> ?_) (fun h2=> ?_))))))))))
 ·obtain⟨x,ha⟩: ∃x,l[i]? =some x:=⟨_,Zj (by omega)⟩
  obtain⟨bq,off,rfl,_⟩:=(hL.sat hS1 0 rfl).get ha
  have hil:=(XX ha).1
  refine Qs (Qc (Qd (Qx (Qd (Qa (Qb rfl rfl (Qb rfl rfl (XP i rfl rfl (by first | rfl | omega) (by omega) VH rfl ?_))))))))
  refine Jm rfl VU HQ (vs:=UA x) ((hL.sat hS1 0 rfl).at_ ha) rfl (Xm hS1 zr_43 rfl rfl ?_)
  intro xb wk3 hk3
  clear hS1
  refine Xe hk3 rfl rfl HQ rfl (by first | rfl | (simp [Hg,Value.oneCell'];done)) (i:=0) rfl (by first | decide | exact XJ rfl) ?_
  intro wk4 hk4; dsimp only[List.set]at hk4
  clear hk3
  replace hk4:=xb_norm (x:=x) hk4
  refine Qf (Qc (Qi [5,1,0,6] rfl (Qd (Qa (Qg rfl ZR rfl (Qp rfl ZI (by first | assumption | exact hk4.cell 0 rfl rfl) rfl ?_))))))
  refine Wp Tryz.underlying9 rfl rfl (Y8 rfl rfl rfl (Qb rfl rfl (QR 21 rfl (fun h5=> ?_) (fun h5=> ?_))))
  ·have hoo:By x=false:= by unfold By; simp;omega
   exact Qh rfl rfl (Xc h5) rfl (Qh rfl rfl (Xc h5) rfl (Qh rfl rfl (Xc h5) rfl (Qh rfl rfl (Xc h5) rfl (QI rfl (Xc h5) rfl rfl (Qb rfl rfl (Qh rfl rfl rfl rfl (Qh rfl rfl rfl rfl (Qh rfl rfl rfl rfl (QI rfl rfl rfl rfl (Qb rfl rfl (Qh rfl rfl rfl rfl (Qh rfl rfl rfl rfl (Qh rfl rfl rfl rfl (QI rfl rfl rfl rfl (Qb rfl rfl (Qh rfl rfl rfl rfl (Qh rfl rfl rfl rfl (Qh rfl rfl rfl rfl (QI rfl rfl rfl rfl (Qb rfl rfl (Qh rfl rfl rfl rfl (Qh rfl rfl rfl rfl (Qh rfl rfl rfl rfl (QI rfl rfl rfl rfl (Qb rfl rfl (Qh rfl rfl rfl rfl (Qh rfl rfl rfl rfl (Qh rfl rfl rfl rfl (QI rfl rfl rfl rfl (Qb rfl rfl (Qh rfl rfl rfl rfl (Qh rfl rfl rfl rfl (Qh rfl rfl rfl rfl (QI rfl rfl rfl rfl (Qf (Qc (Qi [5,1,0,56] rfl (Xy rfl (Qd (Qa (Qe rfl rfl (Qf (Qc (Qw (Qy (Qo (Qo (Qy (Qo (QW (.inr rfl) rfl rfl (⟨_,rfl,YY ha hoo,hk4.pick [1] rfl⟩)))))))))))))))))))))))))))))))))))))))))))))))))))
  refine Qj rfl rfl (Q6 h5) (Qg rfl UV rfl (Qj rfl rfl (Q6 h5) (Qp rfl ZI (by first | assumption | exact hk4.cell 0 rfl rfl) rfl ?_)))
  refine Qj rfl rfl (Q6 h5) (Wp Tryz.underlying9 rfl rfl (Qj rfl rfl (Q6 h5) (Y8 rfl rfl rfl (QL rfl (Q6 h5) rfl rfl (Qb rfl rfl (QR 27 rfl (fun h6=> ?_) (fun h6=> ?_)))))))
  ·have hoo:By x=false:= by unfold By; simp;omega
   exact Qh rfl rfl (Xc h6) rfl (Qh rfl rfl (Xc h6) rfl (Qh rfl rfl (Xc h6) rfl (QI rfl (Xc h6) rfl rfl (Qb rfl rfl (Qh rfl rfl rfl rfl (Qh rfl rfl rfl rfl (Qh rfl rfl rfl rfl (QI rfl rfl rfl rfl (Qb rfl rfl (Qh rfl rfl rfl rfl (Qh rfl rfl rfl rfl (Qh rfl rfl rfl rfl (QI rfl rfl rfl rfl (Qb rfl rfl (Qh rfl rfl rfl rfl (Qh rfl rfl rfl rfl (Qh rfl rfl rfl rfl (QI rfl rfl rfl rfl (Qb rfl rfl (Qh rfl rfl rfl rfl (Qh rfl rfl rfl rfl (Qh rfl rfl rfl rfl (QI rfl rfl rfl rfl (Qb rfl rfl (Qh rfl rfl rfl rfl (Qh rfl rfl rfl rfl (Qh rfl rfl rfl rfl (QI rfl rfl rfl rfl (Qf (Qc (Qi [5,1,0,56] rfl (Xy rfl (Qd (Qa (Qe rfl rfl (Qf (Qc (Qw (Qy (Qo (Qo (Qy (Qo (QW (.inr rfl) rfl rfl (⟨_,rfl,YY ha hoo,hk4.pick [1] rfl⟩)))))))))))))))))))))))))))))))))))))))))))))
  refine Qj rfl rfl (Q6 h6) (Qg rfl HW rfl (Qj rfl rfl (Q6 h6) (Qp rfl QS (by first | assumption | exact hk4.cell 0 rfl rfl) rfl ?_)))
  refine Qj rfl rfl (Q6 h6) (Y8 rfl rfl rfl (QL rfl (Q6 h6) rfl rfl (Qb rfl rfl (QR 32 rfl (fun h7=> ?_) (fun h7=> ?_)))))
  ·have hoo:By x=false:= by unfold By; simp;omega
   exact Qh rfl rfl (Xc h7) rfl (Qh rfl rfl (Xc h7) rfl (Qh rfl rfl (Xc h7) rfl (QI rfl (Xc h7) rfl rfl (Qb rfl rfl (Qh rfl rfl rfl rfl (Qh rfl rfl rfl rfl (Qh rfl rfl rfl rfl (QI rfl rfl rfl rfl (Qb rfl rfl (Qh rfl rfl rfl rfl (Qh rfl rfl rfl rfl (Qh rfl rfl rfl rfl (QI rfl rfl rfl rfl (Qb rfl rfl (Qh rfl rfl rfl rfl (Qh rfl rfl rfl rfl (Qh rfl rfl rfl rfl (QI rfl rfl rfl rfl (Qb rfl rfl (Qh rfl rfl rfl rfl (Qh rfl rfl rfl rfl (Qh rfl rfl rfl rfl (QI rfl rfl rfl rfl (Qf (Qc (Qi [5,1,0,56] rfl (Xy rfl (Qd (Qa (Qe rfl rfl (Qf (Qc (Qw (Qy (Qo (Qo (Qy (Qo (QW (.inr rfl) rfl rfl (⟨_,rfl,YY ha hoo,hk4.pick [1] rfl⟩))))))))))))))))))))))))))))))))))))))))
  refine Qj rfl rfl (Q6 h7) (Qg rfl HX rfl (Qj rfl rfl (Q6 h7) (Qp rfl QS (by first | assumption | exact hk4.cell 0 rfl rfl) rfl ?_)))
  refine Qj rfl rfl (Q6 h7) (Xh rfl rfl rfl (QL rfl (Q6 h7) rfl rfl (Qb rfl rfl (QR 37 rfl (fun h8=> ?_) (fun h8=> ?_)))))
  ·have hoo:By x=false:= by unfold By; simp;omega
   exact Qh rfl rfl (Xc h8) rfl (Qh rfl rfl (Xc h8) rfl (Qh rfl rfl (Xc h8) rfl (QI rfl (Xc h8) rfl rfl (Qb rfl rfl (Qh rfl rfl rfl rfl (Qh rfl rfl rfl rfl (Qh rfl rfl rfl rfl (QI rfl rfl rfl rfl (Qb rfl rfl (Qh rfl rfl rfl rfl (Qh rfl rfl rfl rfl (Qh rfl rfl rfl rfl (QI rfl rfl rfl rfl (Qb rfl rfl (Qh rfl rfl rfl rfl (Qh rfl rfl rfl rfl (Qh rfl rfl rfl rfl (QI rfl rfl rfl rfl (Qf (Qc (Qi [5,1,0,56] rfl (Xy rfl (Qd (Qa (Qe rfl rfl (Qf (Qc (Qw (Qy (Qo (Qo (Qy (Qo (QW (.inr rfl) rfl rfl (⟨_,rfl,YY ha hoo,hk4.pick [1] rfl⟩)))))))))))))))))))))))))))))))))))
  refine Qj rfl rfl (Q6 h8) (Qg rfl HX rfl (Qj rfl rfl (Q6 h8) (Qp rfl QS (by first | assumption | exact hk4.cell 0 rfl rfl) rfl ?_)))
  refine Qj rfl rfl (Q6 h8) (Y8 rfl rfl rfl (QL rfl (Q6 h8) rfl rfl (Qb rfl rfl (QR 42 rfl (fun h9=> ?_) (fun h9=> ?_)))))
  ·have hoo:By x=false:= by unfold By; simp;omega
   exact Qh rfl rfl (Xc h9) rfl (Qh rfl rfl (Xc h9) rfl (Qh rfl rfl (Xc h9) rfl (QI rfl (Xc h9) rfl rfl (Qb rfl rfl (Qh rfl rfl rfl rfl (Qh rfl rfl rfl rfl (Qh rfl rfl rfl rfl (QI rfl rfl rfl rfl (Qb rfl rfl (Qh rfl rfl rfl rfl (Qh rfl rfl rfl rfl (Qh rfl rfl rfl rfl (QI rfl rfl rfl rfl (Qf (Qc (Qi [5,1,0,56] rfl (Xy rfl (Qd (Qa (Qe rfl rfl (Qf (Qc (Qw (Qy (Qo (Qo (Qy (Qo (QW (.inr rfl) rfl rfl (⟨_,rfl,YY ha hoo,hk4.pick [1] rfl⟩))))))))))))))))))))))))))))))
  refine Qj rfl rfl (Q6 h9) (Qg rfl W3 rfl (Qj rfl rfl (Q6 h9) (Qp rfl QS (by first | assumption | exact hk4.cell 0 rfl rfl) rfl ?_)))
  refine Qj rfl rfl (Q6 h9) (Xh rfl rfl rfl (QL rfl (Q6 h9) rfl rfl (Qb rfl rfl (QR 47 rfl (fun h10=> ?_) (fun h10=> ?_)))))
  ·have hoo:By x=false:= by unfold By; simp;omega
   exact Qh rfl rfl (Xc h10) rfl (Qh rfl rfl (Xc h10) rfl (Qh rfl rfl (Xc h10) rfl (QI rfl (Xc h10) rfl rfl (Qb rfl rfl (Qh rfl rfl rfl rfl (Qh rfl rfl rfl rfl (Qh rfl rfl rfl rfl (QI rfl rfl rfl rfl (Qf (Qc (Qi [5,1,0,56] rfl (Xy rfl (Qd (Qa (Qe rfl rfl (Qf (Qc (Qw (Qy (Qo (Qo (Qy (Qo (QW (.inr rfl) rfl rfl (⟨_,rfl,YY ha hoo,hk4.pick [1] rfl⟩)))))))))))))))))))))))))
  refine Qj rfl rfl (Q6 h10) (Qg rfl W3 rfl (Qj rfl rfl (Q6 h10) (Qp rfl QS (by first | assumption | exact hk4.cell 0 rfl rfl) rfl ?_)))
  refine Qj rfl rfl (Q6 h10) (Y8 rfl rfl rfl (QL rfl (Q6 h10) rfl rfl (Qb rfl rfl (QR 52 rfl (fun h11=> ?_) (fun h11=> ?_)))))
  ·have hoo:By x=false:= by unfold By; simp;omega
   exact Qh rfl rfl (Xc h11) rfl (Qh rfl rfl (Xc h11) rfl (Qh rfl rfl (Xc h11) rfl (QI rfl (Xc h11) rfl rfl (Qf (Qc (Qi [5,1,0,56] rfl (Xy rfl (Qd (Qa (Qe rfl rfl (Qf (Qc (Qw (Qy (Qo (Qo (Qy (Qo (QW (.inr rfl) rfl rfl (⟨_,rfl,YY ha hoo,hk4.pick [1] rfl⟩))))))))))))))))))))
  refine Qj rfl rfl (Q6 h11) (Qg rfl HW rfl (Qj rfl rfl (Q6 h11) (Qp rfl QS (by first | assumption | exact hk4.cell 0 rfl rfl) rfl ?_)))
  refine Qj rfl rfl (Q6 h11) (Xh rfl rfl rfl (QL rfl (Q6 h11) rfl rfl (Qf (Qc (Qi [5,1,0,56] rfl (Qt rfl (fun h12=> ?_) (fun h12=> ?_)))))))
  ·have hoo:By x=false:= by first | assumption | (unfold By; simp;omega)
   exact Qd (Qa (Qe rfl rfl (Qf (Qc (Qw (Qy (Qo (Qo (Qy (Qo (QW (.inr rfl) rfl rfl (⟨_,rfl,YY ha hoo,hk4.pick [1] rfl⟩))))))))))))
  have hoo:By x=true:= by unfold By; simp;omega
  refine Qs (Qm (Qc (Qa (Qb rfl rfl (QP rfl rfl (by omega) (by omega) rfl ?_)))))
  refine Qe rfl rfl (Qf ?_)
  exact QE (L1:=[(0,_),(1,_),(5,intV ((i+1:Nat):Int))]) (Cn rfl rfl rfl) (k1:=l.length -(i+1)) (by omega) ⟨i+1,rfl,rfl,hk4.pick [1] rfl, by omega, fun j b hj hb=> by by_cases e:j=i;(subst e; rw[ha]at hb; cases hb; exact hoo); exact hok j b (by omega) hb⟩
 exact QY (Qq (Qq (Q0 (Qc (Qd (Qa (Qb rfl rfl (XA Tryz.underlying36 rfl rfl (Qb rfl rfl (AI rfl rfl rfl (Qe rfl rfl (Qf (Qc (Qi [4] rfl (Qw (QW (.inr rfl) rfl rfl (⟨_,rfl,IG hok hi (by omega),hS1.pick [0] rfl⟩)))))))))))))))))
theorem Ob {w:World} {b p q n m c e:Nat} {A:LvA} {W:WS} {F:Th} (hS:Sat w [Yd b p n m c e A,Xo q W,F]) (hn:n+(2200+2*e)≤600000000) (hm:m<Zv) (hc:c+1<256) (hv:VisP A.pres W) {x:AcL} (hf:FC x):
    Calls Tryz.prog 36 #[ptrV b 0,intV 0,ptrV q 0,.agg #[intV x.dk,intV x.idn,strV x.ob,strV x.to,intV x.first,intV x.n,intV x.at_,intV x.bb]] w (Ret fun v w'=>v= .bool true∧Sat w' [Yd b p (n+(2200+2*e)) m (c+1) (e+512) {A with pres:=Vw A.pres x},Xo q (Yp W x),F]):= by
 refine Qr Tryz.func36 rfl Tryz.ntmps36 rfl ?_
 obtain⟨f1,f2,f3,f4,f5,f6,f7,f8⟩:=hf
 refine Qd (Qa (Zb hS rfl rfl rfl ?_))
 intro qb w1 hS1
 refine Qe rfl rfl (Qf (Qc (Qd (Qd (Qa (Qg rfl Dd rfl (Qp rfl QS (by first | assumption | exact hS1.cell 0 rfl rfl) rfl ?_)))))))
 refine qac Nf rfl (BU (hS1.sp [] rfl) x.dk 14 (by omega)) rfl ?_
 rintro _ w2 ⟨rfl,hS2⟩
 replace hS2:=hS2.jn rfl rfl
 clear hS1
 refine Qf (Qc (Qx (Ug (fun E0 W0=> ∃(bb:Bool),E0=[(0,ptrV b 0),(1,intV 0),(2,ptrV q 0),(7,ptrV qb 0),(11,intV (x.dk%14)),(12,.bool bb)]∧Sat W0 [Yd b p n m c e A,Xo q W,QK qb (UA x),F]∧(bb=true↔(x.dk%14=0∨x.dk%14=1∨x.dk%14=2∨x.dk%14=7∨x.dk%14=8))) ?_ ?_)))
 ·refine Qd (Qa (Xd rfl rfl rfl (Qe rfl rfl (Qf (Qc (Qi [2,1,0,7,8,11,12] rfl (Qt rfl (fun h4=> ?_) (fun h4=> ?_))))))))
  ·refine Qs ?_
   exact ZF (UB rfl rfl rfl rfl rfl rfl) ⟨_,rfl,hS2.pick [1,2,0,3] rfl, by rw[decide_eq_true_eq];omega⟩
  refine Qd (Qa (Xd rfl rfl rfl (Qe rfl rfl (Qf (Qc (Qt rfl (fun h5=> ?_) (fun h5=> ?_)))))))
  ·refine Qs ?_
   exact ZF (UB rfl rfl rfl rfl rfl rfl) ⟨_,rfl,hS2.pick [1,2,0,3] rfl, by rw[decide_eq_true_eq];omega⟩
  refine Qd (Qa (Xd rfl rfl rfl (Qe rfl rfl (Qf (Qc (Qt rfl (fun h6=> ?_) (fun h6=> ?_)))))))
  ·refine Qs ?_
   exact ZF (UB rfl rfl rfl rfl rfl rfl) ⟨_,rfl,hS2.pick [1,2,0,3] rfl, by rw[decide_eq_true_eq];omega⟩
  refine Qd (Qa (Xd rfl rfl rfl (Qe rfl rfl (Qf (Qc (Qt rfl (fun h7=> ?_) (fun h7=> ?_)))))))
  ·refine Qs ?_
   exact ZF (UB rfl rfl rfl rfl rfl rfl) ⟨_,rfl,hS2.pick [1,2,0,3] rfl, by rw[decide_eq_true_eq];omega⟩
  refine Qa (Xd rfl rfl rfl (Qe rfl rfl (Qf ?_)))
  exact ZF (UB rfl rfl rfl rfl rfl rfl) ⟨_,rfl,hS2.pick [1,2,0,3] rfl, by rw[decide_eq_true_eq];omega⟩
 rintro _ w3 ⟨bb,rfl,hS3,hbb⟩
 refine QQ rfl (fun h8=> ?_) (fun h8=> ?_)
 ·have hK:=hbb.1 h8
  refine Qd ?_
  have hS9:=hS3.drew
  refine QO [0,1,2,3,4,5,7,8,9,10,11,6,12,13,14] [6,12] Wu (by kernel_rfl) ?_
  refine QJ rfl rfl rfl (QJ rfl rfl rfl (QZ rfl rfl rfl ZR (QH rfl rfl rfl (Qn rfl ZI (by first | assumption | exact hS9.cell 2 rfl rfl)) ?_)))
  refine QZ rfl rfl rfl W3 (QH rfl rfl rfl (Qn rfl QS (by first | assumption | exact hS9.cell 2 rfl rfl)) ?_)
  refine QJ rfl rfl rfl (QZ rfl rfl rfl ZR (QH rfl rfl rfl (Qn rfl ZI (by first | assumption | exact hS9.cell 2 rfl rfl)) ?_))
  refine QZ rfl rfl rfl W3 (QH rfl rfl rfl (Qn rfl QS (by first | assumption | exact hS9.cell 2 rfl rfl)) ?_)
  refine Xp rfl rfl rfl rfl rfl rfl (qac Bh rfl (Ik (hS9.sp [0] rfl) (by omega) hm x.ob x.at_) rfl ?_)
  rintro _ w10 ⟨rfl,hS10⟩
  replace hS10:=hS10.jn rfl rfl
  clear hS9
  rw[Sa hv]
  refine XB (.cons (.inl ⟨rfl,(Qn rfl QS (by first | assumption | exact hS10.cell 2 rfl rfl))⟩) (.cons (.inl ⟨rfl,(Qn rfl ZI (by first | assumption | exact hS10.cell 2 rfl rfl))⟩) (Xx (by kernel_rfl)))) ?_
  refine Xp rfl rfl rfl rfl rfl rfl (qac Fm rfl (Nq (hS10.sp [1] rfl) x.ob x.at_) rfl ?_)
  rintro _ w11 ⟨rfl,hS11⟩
  replace hS11:=hS11.jn rfl rfl
  clear hS10
  refine XB (Xx (by kernel_rfl)) ?_
  refine Xa rfl rfl rfl (fun _=>(Hd rfl rfl)) ?_
  refine XU rfl rfl rfl (VC.nil (Qc (Qi [7,2,1,0,8] rfl (Qw (Qy (Qo (QW (.inr rfl) rfl rfl ?_)))))))
  obtain⟨st1,st2,st3⟩:=WY (b:=A.pres) (t:=⟨0, fun _=>none, fun _=>false⟩) (P:=A.pres) (W:=W) (x:=x) (by unfold Wi;omega)
  exact⟨_,rfl, by first | rfl | (simp;done), by rw[st2,st3]; exact Js (by omega) (by omega) (by omega) (by omega) (hS11.pick [1,0,3] rfl)⟩
 have hK: ¬(x.dk%14=0∨x.dk%14=1∨x.dk%14=2∨x.dk%14=7∨x.dk%14=8):= fun q=> by have q2:=hbb.2 q; rw[q2]at h8; cases h8
 refine Ug (fun E0 W0=> ∃(bb:Bool),E0=[(0,ptrV b 0),(1,intV 0),(2,ptrV q 0),(7,ptrV qb 0),(11,intV (x.dk%14)),(32,.bool bb)]∧Sat W0 [Yd b p n m c e A,Xo q W,QK qb (UA x),F]∧(bb=true↔(x.dk%14=5∨x.dk%14=11))) ?_ ?_
 ·refine Qd (Qa (Xd rfl rfl rfl (Qe rfl rfl (Qf (Qc (Qt rfl (fun h13=> ?_) (fun h13=> ?_)))))))
  ·refine Qs ?_
   exact ZF (UB rfl rfl rfl rfl rfl rfl) ⟨_,rfl,hS3.pick [0,1,2,3] rfl, by rw[decide_eq_true_eq];omega⟩
  refine Qa (Xd rfl rfl rfl (Qe rfl rfl (Qf ?_)))
  exact ZF (UB rfl rfl rfl rfl rfl rfl) ⟨_,rfl,hS3.pick [0,1,2,3] rfl, by rw[decide_eq_true_eq];omega⟩
 rintro _ w12 ⟨bb,rfl,hS12,hbb⟩
 refine QQ rfl (fun h14=> ?_) (fun h14=> ?_)
 ·have hK2:=hbb.1 h14
  refine Qd (Qa (Qb rfl rfl (Qb rfl rfl (Qg rfl ZR rfl (Qp rfl ZI (by first | assumption | exact hS12.cell 2 rfl rfl) rfl ?_)))))
  refine Qg rfl HX rfl (Qp rfl QS (by first | assumption | exact hS12.cell 2 rfl rfl) rfl ?_)
  refine Qg rfl HW rfl (Qp rfl QS (by first | assumption | exact hS12.cell 2 rfl rfl) rfl ?_)
  refine Qg rfl UV rfl (Qp rfl ZI (by first | assumption | exact hS12.cell 2 rfl rfl) rfl ?_)
  refine Qg rfl W3 rfl (Qp rfl QS (by first | assumption | exact hS12.cell 2 rfl rfl) rfl ?_)
  refine qac Fv rfl (Ii (hS12.sp [0] rfl) (by omega) hm x.ob x.to x.first x.n x.at_ (by omega) (by omega) (by omega) (by omega)) rfl ?_
  rintro _ w15 hS15
  replace hS15:=hS15.jn rfl rfl
  clear hS12
  refine Qf (Qc (Qi [7,2,1,0] rfl (Qd (Qa (Qb rfl rfl (Qg rfl ZR rfl (Qp rfl ZI (by first | assumption | exact hS15.cell 2 rfl rfl) rfl ?_)))))))
  refine Qg rfl HX rfl (Qp rfl QS (by first | assumption | exact hS15.cell 2 rfl rfl) rfl ?_)
  refine Qg rfl HW rfl (Qp rfl QS (by first | assumption | exact hS15.cell 2 rfl rfl) rfl ?_)
  refine Qg rfl UV rfl (Qp rfl ZI (by first | assumption | exact hS15.cell 2 rfl rfl) rfl ?_)
  refine Qg rfl W3 rfl (Qp rfl QS (by first | assumption | exact hS15.cell 2 rfl rfl) rfl ?_)
  refine qac CY rfl (Dk (hS15.sp [1] rfl) x.ob x.first x.n x.to x.at_ (by omega) (by omega) (by omega) (by omega)) rfl ?_
  rintro _ w16 ⟨rfl,hS16⟩
  replace hS16:=hS16.jn rfl rfl
  clear hS15
  refine Qf (Qc (Qi [7,2,1,0] rfl (Qd (Qa (Qe rfl rfl (Qf (Qc (Qw (Qy (Qo (QW (.inr rfl) rfl rfl ?_)))))))))))
  obtain⟨st1,st2,st3⟩:=Yo (b:=A.pres) (t:=⟨0, fun _=>none, fun _=>false⟩) (P:=A.pres) (W:=W) (x:=x) (by unfold Wi;omega)
  exact⟨_,rfl, by first | rfl | (simp;done), by rw[st2,st3]; exact Js (by omega) (by omega) (by omega) (by omega) (hS16.pick [1,0,3] rfl)⟩
 have hK2: ¬(x.dk%14=5∨x.dk%14=11):= fun q=> by have q2:=hbb.2 q; rw[q2]at h14; cases h14
 refine Qd (Qa (Xd rfl rfl rfl (Qe rfl rfl (Qf (Qc (Qt rfl (fun h17=> ?_) (fun h17=> ?_)))))))
 ·refine Qd (Qa (Qb rfl rfl (Qb rfl rfl (Qg rfl ZR rfl (Qp rfl ZI (by first | assumption | exact hS12.cell 2 rfl rfl) rfl ?_)))))
  refine qac Fz rfl (Ig (hS12.sp [0] rfl) (by omega) hm x.ob (by omega)) rfl ?_
  rintro _ w18 hS18
  replace hS18:=hS18.jn rfl rfl
  clear hS12
  refine Qf (Qc (Qi [7,2,1,0] rfl (Qd (Qa (Qb rfl rfl (Qg rfl ZR rfl (Qp rfl ZI (by first | assumption | exact hS18.cell 2 rfl rfl) rfl ?_)))))))
  refine qac Fk rfl (CM (hS18.sp [1] rfl) x.ob) rfl ?_
  rintro _ w19 ⟨rfl,hS19⟩
  replace hS19:=hS19.jn rfl rfl
  clear hS18
  refine Qf (Qc (Qd (Qa (Qe rfl rfl (Qf (Qc (Qw (Qy (Qo (QW (.inr rfl) rfl rfl ?_))))))))))
  obtain⟨st1,st2,st3⟩:=YO (b:=A.pres) (t:=⟨0, fun _=>none, fun _=>false⟩) (P:=A.pres) (W:=W) (x:=x) (by unfold Wi;omega)
  exact⟨_,rfl, by first | rfl | (simp;done), by rw[st2,st3]; exact Js (by omega) (by omega) (by omega) (by omega) (hS19.pick [1,0,3] rfl)⟩
 refine Qs (Qm (Qc (Qd (Qa (Qb rfl rfl (Qg rfl ZR rfl (Qp rfl ZI (by first | assumption | exact hS12.cell 2 rfl rfl) rfl ?_)))))))
 refine Qg rfl W3 rfl (Qp rfl QS (by first | assumption | exact hS12.cell 2 rfl rfl) rfl ?_)
 refine Qg rfl RU rfl (Qp rfl QS (by first | assumption | exact hS12.cell 2 rfl rfl) rfl ?_)
 refine Ul Tryz.underlying3 Tryz.underlying5 rfl (Gr x.bb) rfl (qac Fj rfl (KQ (hS12.sp [1] rfl) x.ob x.at_ (b8 x.bb) (by omega)) rfl ?_)
 rintro _ w20 ⟨rfl,hS20⟩
 replace hS20:=hS20.jn rfl rfl
 clear hS12
 refine Qf (Qc (Qi [7,1,0] rfl (Qd (Qa (Qb rfl rfl (Qb rfl rfl (Qg rfl ZR rfl (Qp rfl ZI (by first | assumption | exact hS20.cell 2 rfl rfl) rfl ?_))))))))
 refine Qg rfl W3 rfl (Qp rfl QS (by first | assumption | exact hS20.cell 2 rfl rfl) rfl ?_)
 refine Qg rfl RU rfl (Qp rfl QS (by first | assumption | exact hS20.cell 2 rfl rfl) rfl ?_)
 refine Ul Tryz.underlying3 Tryz.underlying5 rfl (Gr x.bb) rfl (qac Bi rfl (Ie (hS20.sp [1] rfl) (by omega) hm hc x.ob x.at_ (b8 x.bb)) rfl ?_)
 rintro _ w21 ⟨rfl,hS21⟩
 replace hS21:=hS21.jn rfl rfl
 clear hS20
 refine Xd rfl rfl rfl (Qe rfl rfl (Qf (Qc (Qi [8] rfl (Qw (QW (.inr rfl) rfl rfl ?_))))))
 obtain⟨st1,st2,st3⟩:=YN (b:=A.pres) (t:=⟨0, fun _=>none, fun _=>false⟩) (P:=A.pres) (W:=W) (x:=x) (by unfold Wi;omega) (by unfold Wi;omega) (by unfold Wi;omega)
 exact⟨_,rfl, by first | rfl | (simp;done), by rw[st2,st3]; exact Js (by omega) (by omega) (by omega) (by omega) (hS21.pick [0,1,3] rfl)⟩
theorem DK {w:World} {b p q n m c e:Nat} {A:LvA} {W:WS} {F:Th} (hS:Sat w [Yd b p n m c e A,Xo q W,F]) (hn:n+(2200+2*e)≤600000000) (hm:m<Zv) (hc:c+1<256) {id pp:Int} {bg:KD→Bs} {t:TrA} (ht:A.tr id=some t) (hp:t.parent=pp) (hb:BgI A id pp bg) (hv:VisT bg t W) {x:AcL} (hf:FC x):
    Calls Tryz.prog 36 #[ptrV b 0,intV id,ptrV q 0,.agg #[intV x.dk,intV x.idn,strV x.ob,strV x.to,intV x.first,intV x.n,intV x.at_,intV x.bb]] w (Ret fun v w'=>v= .bool true∧Sat w' [Yd b p (n+(2200+2*e)) m (c+1) (e+512) (UM A id (WR bg t x)),Xo q (Yp W x),F]):= by
 refine Qr Tryz.func36 rfl Tryz.ntmps36 rfl ?_
 obtain⟨f1,f2,f3,f4,f5,f6,f7,f8⟩:=hf
 refine Qd (Qa (Zb hS rfl rfl rfl ?_))
 intro qb w1 hS1
 refine Qe rfl rfl (Qf (Qc (Qd (Qd (Qa (Qg rfl Dd rfl (Qp rfl QS (by first | assumption | exact hS1.cell 0 rfl rfl) rfl ?_)))))))
 refine qac Nf rfl (BU (hS1.sp [] rfl) x.dk 14 (by omega)) rfl ?_
 rintro _ w2 ⟨rfl,hS2⟩
 replace hS2:=hS2.jn rfl rfl
 clear hS1
 refine Qf (Qc (Qx (Ug (fun E0 W0=> ∃(bb:Bool),E0=[(0,ptrV b 0),(1,intV id),(2,ptrV q 0),(7,ptrV qb 0),(11,intV (x.dk%14)),(12,.bool bb)]∧Sat W0 [Yd b p n m c e A,Xo q W,QK qb (UA x),F]∧(bb=true↔(x.dk%14=0∨x.dk%14=1∨x.dk%14=2∨x.dk%14=7∨x.dk%14=8))) ?_ ?_)))
 ·refine Qd (Qa (Xd rfl rfl rfl (Qe rfl rfl (Qf (Qc (Qi [2,1,0,7,8,11,12] rfl (Qt rfl (fun h4=> ?_) (fun h4=> ?_))))))))
  ·refine Qs ?_
   exact ZF (UB rfl rfl rfl rfl rfl rfl) ⟨_,rfl,hS2.pick [1,2,0,3] rfl, by rw[decide_eq_true_eq];omega⟩
  refine Qd (Qa (Xd rfl rfl rfl (Qe rfl rfl (Qf (Qc (Qt rfl (fun h5=> ?_) (fun h5=> ?_)))))))
  ·refine Qs ?_
   exact ZF (UB rfl rfl rfl rfl rfl rfl) ⟨_,rfl,hS2.pick [1,2,0,3] rfl, by rw[decide_eq_true_eq];omega⟩
  refine Qd (Qa (Xd rfl rfl rfl (Qe rfl rfl (Qf (Qc (Qt rfl (fun h6=> ?_) (fun h6=> ?_)))))))
  ·refine Qs ?_
   exact ZF (UB rfl rfl rfl rfl rfl rfl) ⟨_,rfl,hS2.pick [1,2,0,3] rfl, by rw[decide_eq_true_eq];omega⟩
  refine Qd (Qa (Xd rfl rfl rfl (Qe rfl rfl (Qf (Qc (Qt rfl (fun h7=> ?_) (fun h7=> ?_)))))))
  ·refine Qs ?_
   exact ZF (UB rfl rfl rfl rfl rfl rfl) ⟨_,rfl,hS2.pick [1,2,0,3] rfl, by rw[decide_eq_true_eq];omega⟩
  refine Qa (Xd rfl rfl rfl (Qe rfl rfl (Qf ?_)))
  exact ZF (UB rfl rfl rfl rfl rfl rfl) ⟨_,rfl,hS2.pick [1,2,0,3] rfl, by rw[decide_eq_true_eq];omega⟩
 rintro _ w3 ⟨bb,rfl,hS3,hbb⟩
 refine QQ rfl (fun h8=> ?_) (fun h8=> ?_)
 ·have hK:=hbb.1 h8
  refine Qd ?_
  have hS9:=hS3.drew
  refine QO [0,1,2,3,4,5,7,8,9,10,11,6,12,13,14] [6,12] Wu (by kernel_rfl) ?_
  refine QJ rfl rfl rfl (QJ rfl rfl rfl (QZ rfl rfl rfl ZR (QH rfl rfl rfl (Qn rfl ZI (by first | assumption | exact hS9.cell 2 rfl rfl)) ?_)))
  refine QZ rfl rfl rfl W3 (QH rfl rfl rfl (Qn rfl QS (by first | assumption | exact hS9.cell 2 rfl rfl)) ?_)
  refine QJ rfl rfl rfl (QZ rfl rfl rfl ZR (QH rfl rfl rfl (Qn rfl ZI (by first | assumption | exact hS9.cell 2 rfl rfl)) ?_))
  refine QZ rfl rfl rfl W3 (QH rfl rfl rfl (Qn rfl QS (by first | assumption | exact hS9.cell 2 rfl rfl)) ?_)
  refine Xp rfl rfl rfl rfl rfl rfl (qac Bh rfl (Ij (hS9.sp [0] rfl) (by omega) hm ht hp hb x.ob x.at_) rfl ?_)
  rintro _ w10 ⟨rfl,hS10⟩
  replace hS10:=hS10.jn rfl rfl
  clear hS9
  rw[PZ hv]
  refine XB (.cons (.inl ⟨rfl,(Qn rfl QS (by first | assumption | exact hS10.cell 2 rfl rfl))⟩) (.cons (.inl ⟨rfl,(Qn rfl ZI (by first | assumption | exact hS10.cell 2 rfl rfl))⟩) (Xx (by kernel_rfl)))) ?_
  refine Xp rfl rfl rfl rfl rfl rfl (qac Fm rfl (Nq (hS10.sp [1] rfl) x.ob x.at_) rfl ?_)
  rintro _ w11 ⟨rfl,hS11⟩
  replace hS11:=hS11.jn rfl rfl
  clear hS10
  refine XB (Xx (by kernel_rfl)) ?_
  refine Xa rfl rfl rfl (fun _=>(Hd rfl rfl)) ?_
  refine XU rfl rfl rfl (VC.nil (Qc (Qi [7,2,1,0,8] rfl (Qw (Qy (Qo (QW (.inr rfl) rfl rfl ?_)))))))
  obtain⟨st1,st2,st3⟩:=WY (b:=bg) (t:=t) (P:=A.pres) (W:=W) (x:=x) (by unfold Wi;omega)
  exact⟨_,rfl, by first | rfl | (simp;done), by rw[st1,st3]; exact Js (by omega) (by omega) (by omega) (by omega) (hS11.pick [1,0,3] rfl)⟩
 have hK: ¬(x.dk%14=0∨x.dk%14=1∨x.dk%14=2∨x.dk%14=7∨x.dk%14=8):= fun q=> by have q2:=hbb.2 q; rw[q2]at h8; cases h8
 refine Ug (fun E0 W0=> ∃(bb:Bool),E0=[(0,ptrV b 0),(1,intV id),(2,ptrV q 0),(7,ptrV qb 0),(11,intV (x.dk%14)),(32,.bool bb)]∧Sat W0 [Yd b p n m c e A,Xo q W,QK qb (UA x),F]∧(bb=true↔(x.dk%14=5∨x.dk%14=11))) ?_ ?_
 ·refine Qd (Qa (Xd rfl rfl rfl (Qe rfl rfl (Qf (Qc (Qt rfl (fun h13=> ?_) (fun h13=> ?_)))))))
  ·refine Qs ?_
   exact ZF (UB rfl rfl rfl rfl rfl rfl) ⟨_,rfl,hS3.pick [0,1,2,3] rfl, by rw[decide_eq_true_eq];omega⟩
  refine Qa (Xd rfl rfl rfl (Qe rfl rfl (Qf ?_)))
  exact ZF (UB rfl rfl rfl rfl rfl rfl) ⟨_,rfl,hS3.pick [0,1,2,3] rfl, by rw[decide_eq_true_eq];omega⟩
 rintro _ w12 ⟨bb,rfl,hS12,hbb⟩
 refine QQ rfl (fun h14=> ?_) (fun h14=> ?_)
 ·have hK2:=hbb.1 h14
  refine Qd (Qa (Qb rfl rfl (Qb rfl rfl (Qg rfl ZR rfl (Qp rfl ZI (by first | assumption | exact hS12.cell 2 rfl rfl) rfl ?_)))))
  refine Qg rfl HX rfl (Qp rfl QS (by first | assumption | exact hS12.cell 2 rfl rfl) rfl ?_)
  refine Qg rfl HW rfl (Qp rfl QS (by first | assumption | exact hS12.cell 2 rfl rfl) rfl ?_)
  refine Qg rfl UV rfl (Qp rfl ZI (by first | assumption | exact hS12.cell 2 rfl rfl) rfl ?_)
  refine Qg rfl W3 rfl (Qp rfl QS (by first | assumption | exact hS12.cell 2 rfl rfl) rfl ?_)
  refine qac Fv rfl (Ih (hS12.sp [0] rfl) (by omega) hm ht hp hb x.ob x.to x.first x.n x.at_ (by omega) (by omega) (by omega) (by omega)) rfl ?_
  rintro _ w15 hS15
  replace hS15:=hS15.jn rfl rfl
  clear hS12
  refine Qf (Qc (Qi [7,2,1,0] rfl (Qd (Qa (Qb rfl rfl (Qg rfl ZR rfl (Qp rfl ZI (by first | assumption | exact hS15.cell 2 rfl rfl) rfl ?_)))))))
  refine Qg rfl HX rfl (Qp rfl QS (by first | assumption | exact hS15.cell 2 rfl rfl) rfl ?_)
  refine Qg rfl HW rfl (Qp rfl QS (by first | assumption | exact hS15.cell 2 rfl rfl) rfl ?_)
  refine Qg rfl UV rfl (Qp rfl ZI (by first | assumption | exact hS15.cell 2 rfl rfl) rfl ?_)
  refine Qg rfl W3 rfl (Qp rfl QS (by first | assumption | exact hS15.cell 2 rfl rfl) rfl ?_)
  refine qac CY rfl (Dk (hS15.sp [1] rfl) x.ob x.first x.n x.to x.at_ (by omega) (by omega) (by omega) (by omega)) rfl ?_
  rintro _ w16 ⟨rfl,hS16⟩
  replace hS16:=hS16.jn rfl rfl
  clear hS15
  refine Qf (Qc (Qi [7,2,1,0] rfl (Qd (Qa (Qe rfl rfl (Qf (Qc (Qw (Qy (Qo (QW (.inr rfl) rfl rfl ?_)))))))))))
  obtain⟨st1,st2,st3⟩:=Yo (b:=bg) (t:=t) (P:=A.pres) (W:=W) (x:=x) (by unfold Wi;omega)
  exact⟨_,rfl, by first | rfl | (simp;done), by rw[st1,st3]; exact Js (by omega) (by omega) (by omega) (by omega) (hS16.pick [1,0,3] rfl)⟩
 have hK2: ¬(x.dk%14=5∨x.dk%14=11):= fun q=> by have q2:=hbb.2 q; rw[q2]at h14; cases h14
 refine Qd (Qa (Xd rfl rfl rfl (Qe rfl rfl (Qf (Qc (Qt rfl (fun h17=> ?_) (fun h17=> ?_)))))))
 ·refine Qd (Qa (Qb rfl rfl (Qb rfl rfl (Qg rfl ZR rfl (Qp rfl ZI (by first | assumption | exact hS12.cell 2 rfl rfl) rfl ?_)))))
  refine qac Fz rfl (If (hS12.sp [0] rfl) (by omega) hm ht hp hb x.ob (by omega)) rfl ?_
  rintro _ w18 hS18
  replace hS18:=hS18.jn rfl rfl
  clear hS12
  refine Qf (Qc (Qi [7,2,1,0] rfl (Qd (Qa (Qb rfl rfl (Qg rfl ZR rfl (Qp rfl ZI (by first | assumption | exact hS18.cell 2 rfl rfl) rfl ?_)))))))
  refine qac Fk rfl (CM (hS18.sp [1] rfl) x.ob) rfl ?_
  rintro _ w19 ⟨rfl,hS19⟩
  replace hS19:=hS19.jn rfl rfl
  clear hS18
  refine Qf (Qc (Qd (Qa (Qe rfl rfl (Qf (Qc (Qw (Qy (Qo (QW (.inr rfl) rfl rfl ?_))))))))))
  obtain⟨st1,st2,st3⟩:=YO (b:=bg) (t:=t) (P:=A.pres) (W:=W) (x:=x) (by unfold Wi;omega)
  exact⟨_,rfl, by first | rfl | (simp;done), by rw[st1,st3]; exact Js (by omega) (by omega) (by omega) (by omega) (hS19.pick [1,0,3] rfl)⟩
 refine Qs (Qm (Qc (Qd (Qa (Qb rfl rfl (Qg rfl ZR rfl (Qp rfl ZI (by first | assumption | exact hS12.cell 2 rfl rfl) rfl ?_)))))))
 refine Qg rfl W3 rfl (Qp rfl QS (by first | assumption | exact hS12.cell 2 rfl rfl) rfl ?_)
 refine Qg rfl RU rfl (Qp rfl QS (by first | assumption | exact hS12.cell 2 rfl rfl) rfl ?_)
 refine Ul Tryz.underlying3 Tryz.underlying5 rfl (Gr x.bb) rfl (qac Fj rfl (KQ (hS12.sp [1] rfl) x.ob x.at_ (b8 x.bb) (by omega)) rfl ?_)
 rintro _ w20 ⟨rfl,hS20⟩
 replace hS20:=hS20.jn rfl rfl
 clear hS12
 refine Qf (Qc (Qi [7,1,0] rfl (Qd (Qa (Qb rfl rfl (Qb rfl rfl (Qg rfl ZR rfl (Qp rfl ZI (by first | assumption | exact hS20.cell 2 rfl rfl) rfl ?_))))))))
 refine Qg rfl W3 rfl (Qp rfl QS (by first | assumption | exact hS20.cell 2 rfl rfl) rfl ?_)
 refine Qg rfl RU rfl (Qp rfl QS (by first | assumption | exact hS20.cell 2 rfl rfl) rfl ?_)
 refine Ul Tryz.underlying3 Tryz.underlying5 rfl (Gr x.bb) rfl (qac Bi rfl (Ic (hS20.sp [1] rfl) (by omega) hm ht hp hb hc x.ob x.at_ (b8 x.bb)) rfl ?_)
 rintro _ w21 ⟨rfl,hS21⟩
 replace hS21:=hS21.jn rfl rfl
 clear hS20
 refine Xd rfl rfl rfl (Qe rfl rfl (Qf (Qc (Qi [8] rfl (Qw (QW (.inr rfl) rfl rfl ?_))))))
 obtain⟨st1,st2,st3⟩:=YN (b:=bg) (t:=t) (P:=A.pres) (W:=W) (x:=x) (by unfold Wi;omega) (by unfold Wi;omega) (by unfold Wi;omega)
 exact⟨_,rfl, by first | rfl | (simp;done), by rw[st1,st3]; exact Js (by omega) (by omega) (by omega) (by omega) (hS21.pick [0,1,3] rfl)⟩
end Go.Proofs.YtkcjfoaejijdoaaGreatDoor
