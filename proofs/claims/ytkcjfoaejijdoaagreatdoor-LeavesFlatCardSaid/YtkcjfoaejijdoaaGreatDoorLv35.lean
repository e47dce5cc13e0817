/- leaves: Objects -/
import Derived.Test.YtkcjfoaejijdoaaGreatDoorLv33
import Derived.Shelf.Spec.TrailingZeros
import Derived.Test.YtkcjfoaejijdoaaGreatDoorLv27
set_option linter.unusedVariables false
set_option maxRecDepth 100000
set_option maxHeartbeats 1600000
namespace Go.Proofs.YtkcjfoaejijdoaaGreatDoor
open Go.RowKit M
set_option linter.unusedSectionVars false
variable [Inhabited SlW]
theorem OC {p:KD→Int} {k:KD} {v:Value} (h:Zt p k=some v):p k≠0:= by
  intro e
  unfold Zt at h
  simp [e]at h
theorem OD {p:KD→Int} {k:KD} (h:p k≠0): ∃v,Zt p k=some v:= by
  unfold Zt
  exact⟨_, by simp [h];rfl⟩
theorem JC {κ:Type} {f:κ→Bool} {k j:κ}:JD f k j=true↔f j=true∨j=k:= by
  unfold JD
  by_cases e:j=k<;> simp [e]
theorem boG_in {κ:Type} {f:κ→Bool} {k:κ} (h:f k=true):Jg f k=some (.bool true):= by unfold Jg; rw[if_pos h]
theorem Sc {κ:Type} {f:κ→Bool} {k:κ} {v:Value} (h:Jg f k=some v):f k=true:= by
  unfold Jg at h
  split at h
  · assumption
  · cases h
def Sk (L:LvD) (k:KD):Prop:= ∃j,N3 L j k
theorem obj_up {L:LvD} {id i:Int} {m2:Nat} {t:TrD} {S S2:KD→Bool} (hse: ∀k,S k=false→Xc L id k=0∨Xc L id k=Jq L (m2+1+1) i k) (h0:i≠0) (ht:L.tr i=some t) (hsub: ∀k,S k=true→S2 k=true) (hall: ∀k,t.lv k≠none→S2 k=true):
    ∀k,S2 k=false→Xc L id k=0∨Xc L id k=Jq L (m2+1) t.parent k:= fun k hk=> by
  have h1:S k=false:= by
    cases q:S k with
    | false=>rfl
    | true=> rw[hsub k q]at hk; cases hk
  have h2:t.lv k=none:=Classical.byContradiction fun q=> by rw[hall k q]at hk; cases hk
  rcases hse k h1 with e | e
  · exact .inl e
  · cases hd:t.dr k.1 with
    | true=>left; rw[e,GJ h0 ht h2 hd]
    | false=>right; rw[e,Cw h0 ht h2 hd]
theorem O9 {T:Int→Option TrD} {m:Nat} (h:RankI T m) {i:Int} {t:TrD} (ht:T i=some t):t.parent=0∨ ∃u,T t.parent=some u:= by
  obtain⟨_,r,_,h2⟩:=h
  rcases h2 i t ht with e | ⟨e,_⟩
  · exact .inl e
  · right
    cases q:T t.parent with
    | none=> exact absurd q e
    | some u=> exact⟨u,rfl⟩
def NmI (A:LvA) (id:Int) (ns:List Bs):Prop:=ns.Nodup∧ ∀ob,ob∈ns↔ ∃pg,ZN A id (ob,pg)≠zer
theorem OS {L:LvD} {c:Nat} (hc:SzLe L c) {Nm:Bs→Bool} (hn: ∀ob,Nm ob=true→ ∃k:KD,k.1=ob∧Sk L k) {ks:List Bs} (h:Came (Jg Nm) ks):ks.length≤c:= by
  obtain⟨l,a,b⟩:=hc.keys
  refine Nat.le_trans (W7 h.nodup (b:=l.map fun e=>e.2.1) fun ob hob=> ?_) (by simpa using a)
  have h1:=h.has ob hob
  have h2:Nm ob=true:= by
    cases q:Nm ob with
    | true=>rfl
    | false=> exact absurd (by unfold Jg; rw[q];rfl) h1
  obtain⟨k,rfl,j,hk⟩:=hn ob h2
  exact List.mem_map.2 ⟨(j,k),b j k hk,rfl⟩
theorem nm_fin {m:Nat} {L:LvD} {V:VS} {id:Int} {S:KD→Bool} {Nm:Bs→Bool} {ns:List Bs} (hI:LvI m L V) (hz: ∀k,S k=false→Xc L id k=0) (h1: ∀k,S k=true→XT V (Xc L id k)≠zer→Nm k.1=true) (h2: ∀ob,Nm ob=true→ ∃k:KD,k.1=ob∧S k=true∧XT V (Xc L id k)≠zer) (hns:AllC (Jg Nm) ns):NmI (Q8 L V) id ns:= by
  refine⟨hns.nodup, fun ob=> ?_⟩
  have h3:ob∈ns↔Nm ob=true:= by rw[←allS hns,(H2 ns).mem_iff]
  rw[h3]
  constructor
  · intro h
    obtain⟨k,rfl,_,q⟩:=h2 ob h
    exact⟨k.2, by rw[←hI.sees]; exact q⟩
  · rintro⟨pg,q⟩
    rw[←hI.sees]at q
    refine h1 (ob,pg) ?_ q
    cases r:S (ob,pg)with
    | true=>rfl
    | false=> exact absurd (by rw[hz _ r]; exact Wr hI.zero) q
theorem SD {w:World} {m c:Nat} {b n Fr:Nat} {L:LvD} {V:VS} {F:Th} (hS:Sat w [ZY b L,Zq L.sp n Fr V,F]) (hn:n≤60000000000) (hI:LvI m L V) (hm:m<Zp) (hc:SzLe L c) (hcm:c≤90000000000) (id:Int) (hth:Z8 L id=true) (hid:id=0∨ ∃u,L.tr id=some u):
    Calls Tryz.prog 32 #[ptrV b 0,intV id] w (Ret fun v w'=> ∃ns,NmI (Q8 L V) id ns∧ns.length≤c∧Sat w' [rowT stC v (Zc ns),ZY b L,Zq L.sp n Fr V,F]):= by
 refine Qq Tryz.func32 rfl Tryz.ntmps32 rfl ?_
 refine Qd (Qa (Qe rfl rfl (Qf (Qc (Qd (Qd (Qa (Qb rfl rfl (Qb rfl rfl (Qv Hd rfl (Jd (hS.sp [0] rfl) id) rfl ?_))))))))))
 rintro _ w1 ⟨rfl,hS1⟩
 replace hS1:=hS1.jn rfl rfl
 refine QR rfl rfl (Qf (Qc (QM rfl (fun h2=> ?_) (fun h2=> ?_))))
 ·exact absurd h2 (by rw[hth];decide)
 refine Qr (Qc (Qd (Qa (Za Xy hS1 rfl ?_))))
 intro sb w3 hS3
 clear hS1
 rw[←Nr]at hS3
 refine Qe rfl rfl (Qf (Qc (Qd (Qd ?_))))
 have hS4:=XX (hS3.pick [1,0,2,3] rfl)
 refine Qa (Qb rfl rfl (Qk rfl rfl (Qg rfl UT rfl (Qo rfl B9 (hS4.cell 0 rfl rfl) rfl (Jx 1 hS4 Tryz.underlying81 rfl rfl rfl ?_)))))
 intro RR left0 wR5 hSR5; dsimp only[List.set]at hSR5
 clear hS4
 refine Qf (Qc (Qi [1,0,4,5,21] rfl (Qw ?_)))
 refine Xe (fun K0 E0 W0=> ∃(dn:KD→Prop) (cur:Option KD) (left:Nat) (S:KD→Bool),K0=left∧E0=[(0,ptrV b 0),(1,intV id),(5,.map (some sb)),(21,ptrV RR 0)]∧Sat W0 [QF b [ptrV L.sp 0,.map (some L.mp),.map (some L.mt),intV L.cur,.map (some L.ms)],J2 Xy L.mp RR (Zt L.pres) dn cur left,Q3 Xf L.mt (Zj TrD.ad L.tr),Z0 K7 L.tr,Q3 Xf L.ms (Jg L.sh),Q3 Xy sb (Jg S),Zq L.sp n Fr V,F]∧(∀k,dn k→S k=true)∧(∀k,S k=true→Sk L k)) (L0:=[(0,_),(1,_),(5,_),(21,_)]) (left0) (Vk rfl rfl rfl rfl) ⟨_,_,_, fun _=>false,rfl,rfl,hSR5.pick [0,1,2,3,4,5,6,7] rfl, fun _ h=>h.elim, fun _ h=> by cases h⟩ ?_
 rintro _ _ w6 ⟨dn,cur,left,S,rfl,rfl,hS6,hd,hs⟩
 refine Qd (Qa (Yh 1 hS6 keysKey.inj rfl rfl rfl (fun hdone=> ?_) (fun k v left2 wN7 hleft hgk hnd hSN7=> ?_)))
 ·refine Qt rfl rfl rfl (Qf (Qc (Qd (QV rfl (QS (Qp (Qp (Qz (Qc (Qd (Qd (Qa (Qb rfl rfl (Qe rfl rfl (Qf (Qc (Qw ?_)))))))))))))))))
  have hz0:=WG (hS6.pick [1,0,2,3,4,5,6,7] rfl)
  have hp: ∀k,L.pres k≠0→S k=true:= fun k hk=> by obtain⟨v,hv⟩:=OD hk; exact hd k (hdone k v hv)
  have hS8:=Xd (L:=L) (hz0.pick [1,0,2,3,4,5,6,7] rfl)
  refine Xe (fun K0 E0 W0=> ∃(m1:Nat) (i:Int) (S:KD→Bool),K0=m1+1∧E0=[(0,ptrV b 0),(1,intV id),(5,.map (some sb)),(7,intV i)]∧Sat W0 [ZY b L,Q3 Xy sb (Jg S),Zq L.sp n Fr V,F]∧(∀k,L.pres k≠0→S k=true)∧(∀k,S k=true→Sk L k)∧(∀k,S k=false→Xc L id k=0∨Xc L id k=Jq L (m1+1) i k)∧(Y3 L.tr m1 i)∧(m1≤Zp)∧(i=0∨ ∃u,L.tr i=some u)) (L0:=[(0,_),(1,_),(5,_),(7,_)]) (Zp+1) (Vk rfl rfl rfl rfl) ⟨Zp,id,S,rfl,rfl,hS8.pick [0,1,2,3] rfl,hp,hs, fun _ _=> .inr rfl,hI.rank.ends hm id,Nat.le_refl _,hid⟩ ?_
  rintro _ _ w9 ⟨m1,i,S,rfl,rfl,hS9,hp,hs,hse,hen,hm1,hti⟩
  refine Qd (Qd (Qa (Qb rfl rfl (X0 rfl rfl rfl (Qf (Qc (Qs rfl (fun h10=> ?_) (fun h10=> ?_))))))))
  ·have hid0:i≠0:=h10
   obtain⟨t,ht⟩:=hti.resolve_left hid0
   refine Qr (Qc (Qd (Qw (Qd ?_))))
   have hS11:=XX (hS9.pick [0,1,2,3] rfl)
   have hS12:=ZE (hS11.pick [3,0,1,2,4,5,6,7] rfl) ht
   refine Qa (Qb rfl rfl (Qk rfl rfl (Qg rfl Wu rfl (Qo rfl Y4 (hS12.cell 5 rfl rfl) rfl (Qb rfl rfl (X2 (k:=i) 7 hS12 keysInt Tryz.underlying82 rfl rfl rfl Hv (u:=(ptrV t.ad 0)) (Zg ht) rfl (Qk rfl rfl (Qg rfl Wd rfl (Qo rfl JH (hS12.cell 0 rfl rfl) rfl (Jx 1 hS12 Tryz.underlying90 rfl rfl rfl ?_))))))))))
   intro RR left0 wR13 hSR13; dsimp only[List.set]at hSR13
   clear hS12
   refine Qf (Qc (Qi [7,5,1,0,49] rfl (Qw ?_)))
   refine Xe (fun K0 E0 W0=> ∃(dn:KD→Prop) (cur:Option KD) (left:Nat) (S2:KD→Bool),K0=left∧E0=[(0,ptrV b 0),(1,intV id),(5,.map (some sb)),(7,intV i),(49,ptrV RR 0)]∧Sat W0 [QF t.ad [intV t.parent,.map (some t.ml),.map (some t.md)],J2 Xy t.ml RR (Zj LfD.ad t.lv) dn cur left,Z0 RK t.lv,Q3 Xp t.md (Jg t.dr),Z0 K7 (Xz L.tr i none),QF b [ptrV L.sp 0,.map (some L.mp),.map (some L.mt),intV L.cur,.map (some L.ms)],Q3 Xy L.mp (Zt L.pres),Q3 Xf L.mt (Zj TrD.ad L.tr),Q3 Xf L.ms (Jg L.sh),Q3 Xy sb (Jg S2),Zq L.sp n Fr V,F]∧(∀k,dn k→S2 k=true)∧(∀k,S2 k=true→Sk L k)∧(∀k,S k=true→S2 k=true)) (L0:=[(0,_),(1,_),(5,_),(7,_),(49,_)]) (left0) (VX rfl rfl rfl rfl rfl) ⟨_,_,_,S,rfl,rfl,hSR13.pick [0,1,2,3,4,5,6,7,8,9,10,11] rfl, fun _ h=>h.elim,hs, fun _ h=>h⟩ ?_
   rintro _ _ w14 ⟨dn,cur,left,S2,rfl,rfl,hS14,hd2,hs2,hsub⟩
   refine Qd (Qa (Yh 1 hS14 keysKey.inj rfl rfl rfl (fun hdone=> ?_) (fun k v left2 wN15 hleft hgk hnd hSN15=> ?_)))
   ·refine Qt rfl rfl rfl (Qf (Qc (Qd (QV rfl (QS (Qp (Qp (Qz (Ql (Qc ?_))))))))))
    have hall: ∀k,t.lv k≠none→S2 k=true:= fun k hk=> by obtain⟨x,hx⟩:=Option.ne_none_iff_exists'.1 hk; exact hd2 k (hdone k _ (show Zj LfD.ad t.lv k=some (ptrV x.ad 0) by unfold Zj; rw[hx];rfl))
    have hz1:=WG (hS14.pick [1,0,2,3,4,5,6,7,8,9,10,11] rfl)
    refine Qa (Qb rfl rfl (Qk rfl rfl (Qg rfl Wu rfl (Qo rfl Y4 (hz1.cell 5 rfl rfl) rfl (Qb rfl rfl (X2 (k:=i) 7 hz1 keysInt Tryz.underlying82 rfl rfl rfl Hv (u:=(ptrV t.ad 0)) (Zg ht) rfl (Qk rfl rfl (Qg rfl Yw rfl (Qo rfl QO (hz1.cell 1 rfl rfl) rfl (Qe rfl rfl (Qf ?_)))))))))))
    have hS16:=Zm ht (hz1.pick [1,0,2,3,4,5,6,7,8,9,10,11] rfl)
    have hS17:=Xd (L:=L) (hS16.pick [1,2,3,0,4,5,6,7] rfl)
    obtain⟨m2,hm2,hen2⟩:=CL hen hid0 ht
    subst hm2
    exact Q6 (L1:=[(0,_),(1,_),(5,_),(7,intV t.parent)]) (Vk rfl rfl rfl rfl) (k1:=m2+1) (by omega) ⟨m2,t.parent,S2,rfl,rfl,hS17.pick [0,1,2,3] rfl, fun k hk=>hsub k (hp k hk),hs2,obj_up hse hid0 ht hsub hall,hen2, by omega,O9 hI.rank ht⟩
   dsimp only[List.set]at hSN15
   obtain⟨x,hx,rfl⟩:=C2 hgk
   refine Qt rfl rfl rfl (Qf (Qc (Qd (Xr rfl (Qr (Qc (Qw (Qd (Qa (Jy 1 hSN15 rfl hgk rfl rfl (Qt rfl rfl rfl (Xg hSN15 ZM rfl rfl ?_))))))))))))
   intro kb wk18 hk18
   clear hSN15
   refine QY hk18 rfl rfl Xh rfl (by rfl) (i:=0) rfl (by decide) ?_
   intro wk19 hk19; dsimp only[List.set]at hk19
   clear hk18
   replace hk19:=XM (k:=k) hk19
   refine Qf (Qc (Qa (Qb rfl rfl ?_)))
   refine XA rfl X9 Xh (by first | exact hk19.blk 0 rfl | exact hk19.blk 1 rfl | exact hk19.blk 6 rfl) (by first | decide | exact Xn rfl | (simp;done) | omega) rfl rfl ?_
   refine Xk (k:=k) (v:= .bool true) 10 hk19 keysKey Tryz.underlying148 rfl rfl rfl rfl ?_
   intro w20 hS20; dsimp only[List.set]at hS20; rw[UZ]at hS20
   clear hk19
   refine Qf (Ql ?_)
   exact Q6 (L1:=[(0,_),(1,_),(5,_),(7,_),(49,_)]) (VX rfl rfl rfl rfl rfl) (k1:=left2) (by omega) ⟨_,_,_,_,rfl,rfl,hS20.pick [1,2,3,4,5,6,7,8,9,10,11,12] rfl, fun j hj=>JC.2 (hj.imp (hd2 j) (fun e=>e)), fun j hj=>(JC.1 hj).elim (hs2 j) (fun e=> by subst e; exact⟨i,.inr ⟨t,x,ht,hx⟩⟩), fun j hj=>JC.2 (.inl (hsub j hj))⟩
  have hid0:i=0:=Decidable.not_not.1 h10
  refine QS (Qp (Qp (Qz (Qc (Qd ?_)))))
  have hz: ∀k,S k=false→Xc L id k=0:= fun k hk=>(hse k hk).elim (fun e=>e) fun e=> by rw[e,hid0,Ye rfl]; exact Classical.byContradiction fun q=> by rw[hp k q]at hk; cases hk
  refine Qa (Za Xp hS9 rfl ?_)
  intro nb w21 hS21
  clear hS9
  rw[←Nr]at hS21
  refine Qe rfl rfl (Qf (Qc (Qd (Qd (Qa (Qb rfl rfl (Jx 2 hS21 Tryz.underlying148 rfl rfl rfl ?_)))))))
  intro RR left0 wR22 hSR22; dsimp only[List.set]at hSR22
  clear hS21
  refine Qf (Qc (Qw ?_))
  refine Xe (fun K0 E0 W0=> ∃(dn:KD→Prop) (cur:Option KD) (left:Nat) (Nm:Bs→Bool),K0=left∧E0=[(0,ptrV b 0),(1,intV id),(9,.map (some nb)),(58,ptrV RR 0)]∧Sat W0 [ZY b L,J2 Xy sb RR (Jg S) dn cur left,Q3 Xp nb (Jg Nm),Zq L.sp n Fr V,F]∧(∀k,dn k→XT V (Xc L id k)≠zer→Nm k.1=true)∧(∀ob,Nm ob=true→ ∃k:KD,k.1=ob∧S k=true∧XT V (Xc L id k)≠zer)) (L0:=[(0,_),(1,_),(9,_),(58,_)]) (left0) (Vk rfl rfl rfl rfl) ⟨_,_,_, fun _=>false,rfl,rfl,hSR22.pick [1,2,0,3,4] rfl, fun _ h=>h.elim, fun _ h=> by cases h⟩ ?_
  rintro _ _ w23 ⟨dn,cur,left,Nm,rfl,rfl,hS23,hn1,hn2⟩
  refine Qd (Qa (Yh 1 hS23 keysKey.inj rfl rfl rfl (fun hdone=> ?_) (fun k v left2 wN24 hleft hgk hnd hSN24=> ?_)))
  ·refine Qt rfl rfl rfl (Qf (Qc (Qd (QV rfl (QS (Qp (Qp (Qz (Qc (Qd (Qa (Qb rfl rfl (Qv qav rfl (kd_sp (hS23.sp [] rfl) rfl) rfl ?_)))))))))))))
   rintro _ w25 ⟨ck,rfl,hS25⟩
   replace hS25:=hS25.jn rfl rfl
   clear hS23
   have hnmc: ∀ob,Nm ob=true→ ∃k:KD,k.1=ob∧Sk L k:= fun ob hob=> by obtain⟨k,a,b,_⟩:=hn2 ob hob; exact⟨k,a,hs k b⟩
   have hK:=Sat.fold (As:=[QF ck [.map (some nb)],Q3 Xp nb (Jg Nm)]) (hS25.pick [0,3,1,2,4,5] rfl)
   have hC26:=hK.sp [0] rfl
   refine Qv Ft rfl (KO hC26 L4 (itS ck nb (Jg Nm)) (fun ks h=> by have :=OS hc hnmc h;omega)) rfl ?_
   rintro _ w26 ⟨ns,hns,hS26⟩
   replace hS26:=hS26.jn rfl rfl; clear hC26
   clear hK
   exact Qe rfl rfl (Qf (Qc (Qu (QQ (.inr rfl) rfl rfl (⟨_,rfl,ns,nm_fin hI hz (fun k hk hq=>hn1 k (hdone k _ (boG_in hk)) hq) hn2 hns,OS hc hnmc (Came.of_all hns),hS26.pick [0,2,4,5] rfl⟩)))))
  dsimp only[List.set]at hSN24
  refine Qt rfl rfl rfl (Qf (Qc (Qd (Xr rfl (Qr (Qc (Qw (Qd (Qa (Jy 1 hSN24 rfl hgk rfl rfl (Qt rfl rfl rfl (Xg hSN24 ZM rfl rfl ?_))))))))))))
  intro kb wk27 hk27
  clear hSN24
  refine QY hk27 rfl rfl Xh rfl (by rfl) (i:=0) rfl (by decide) ?_
  intro wk28 hk28; dsimp only[List.set]at hk28
  clear hk27
  replace hk28:=XM (k:=k) hk28
  refine Qf (Qc (Qd (Qa (Qb rfl rfl (Qb rfl rfl ?_)))))
  refine XA rfl X9 Xh (by first | exact hk28.blk 0 rfl) (by first | decide | exact Xn rfl | (simp;done) | omega) rfl rfl ?_
  have hC29:=hk28.sp [1] rfl
  refine Qv YE rfl (Yo hC29 (hI.rank.ends hm) id k) rfl ?_
  rintro _ w29 ⟨rfl,hS29⟩
  replace hS29:=hS29.jn rfl rfl; clear hC29
  clear hk28
  refine Qe rfl rfl (Qf (Qc (Qi [58,9,1,0,10,11] rfl (Qd ?_))))
  have hS30:=hS29.drew
  refine Rv Wp (VI 8 9 rfl ?_ ?_)
  ·refine U4 (sp:=[8,9]) [0,1,2,3,4,5,6,7,8,9,10,11,12] (by kernel_rfl) ?_
   refine QE rfl rfl rfl (QU rfl rfl rfl (fun _=>(VE rfl rfl)) ?_)
   refine QE rfl rfl rfl (Wn 69 rfl (fun h31=> ?_) (fun h31=> ?_))
   ·refine QU rfl rfl (Qy rfl rfl (QW h31)) (fun _=>(Ev.gd (Xa rfl))) ?_
    refine QU rfl rfl (Qy rfl rfl (QW h31)) (fun _=>(Ev.gd (Z7 rfl))) ?_
    refine QU rfl rfl (Qy rfl rfl (QW h31)) (fun _=>(Ev.gd (Zr rfl XF))) ?_
    refine Q9 rfl rfl (Qy rfl rfl (QW h31)) (Ev.gd (Qm rfl Xm (J4 hS30 0 rfl))) (QU rfl rfl (Qy rfl rfl (QW h31)) (fun _=>(Ev.gd (Xa rfl))) ?_)
    refine Xj rfl rfl (Qy rfl rfl (QW h31)) rfl rfl rfl ?_
    refine Qv JQ rfl (Y7 (hS30.sp [4] rfl) (Xc L id k)) rfl ?_
    rintro _ w32 ⟨rfl,hS32⟩
    replace hS32:=hS32.jn rfl rfl
    clear hS30
    refine X6 (Xq (by kernel_rfl)) ?_
    refine Xj rfl rfl (Qy rfl rfl (QW h31)) rfl rfl rfl ?_
    refine Rt hS32 64 rfl rfl rfl Tryz.underlying143 Py rfl (by omega) (by omega) rfl ?_
    intro bz w33 hS33; rw[Dt]at hS33
    clear hS32
    refine X6 (Xq (by kernel_rfl)) ?_
    refine Q9 rfl rfl (Qy rfl rfl (QW h31)) (Ev.gd (Dd 0 hS33 zer rfl rfl rfl Tryz.underlying143 Tryz.underlying5 Tryz.underlying9 rfl rfl)) (QU rfl rfl (Qy rfl rfl (QW h31)) (fun _=>(Ev.gd (De rfl rfl))) ?_)
    refine QU rfl rfl rfl (fun _=>(Jf rfl (QW h31) rfl)) ?_
    refine VC.nil (Qc (Qi [58,9,1,0,10,79] rfl (Qs rfl (fun h34=> ?_) (fun h34=> ?_))))
    ·have hpz:XT V (Xc L id k)≠zer:=h34
     refine Qa (Qb rfl rfl (Qg rfl Yx rfl (Qo rfl ZC (hS33.cell 3 rfl rfl) rfl (Xk (k:=k.1) (v:= .bool true) 5 hS33 keysStr Tryz.underlying91 rfl rfl rfl rfl ?_))))
     intro w35 hS35; dsimp only[List.set]at hS35; rw[UZ]at hS35
     clear hS33
     exact Qf (Ql (Q6 (L1:=[(0,_),(1,_),(9,_),(58,_)]) (Vk rfl rfl rfl rfl) (k1:=left2) (by omega) ⟨_,_,_,_,rfl,rfl,hS35.pick [2,4,5,1,6] rfl, fun j hj hq=>JC.2 (hj.elim (fun h=> .inl (hn1 j h hq)) (fun e=> .inr (by rw[e]))), fun ob hob=>(JC.1 hob).elim (hn2 ob) (fun e=>⟨k,e.symm,Sc hgk,hpz⟩)⟩))
    have hpz:XT V (Xc L id k)=zer:=Decidable.not_not.1 h34
    refine Qr (Ql ?_)
    exact Q6 (L1:=[(0,_),(1,_),(9,_),(58,_)]) (Vk rfl rfl rfl rfl) (k1:=left2) (by omega) ⟨_,_,_,_,rfl,rfl,hS33.pick [2,4,5,1,6] rfl, fun j hj hq=>hj.elim (fun h=>hn1 j h hq) (fun e=> by subst e; exact absurd hpz hq),hn2⟩
   have hpz:XT V (Xc L id k)=zer:= by rw[Decidable.not_not.1 h31]; exact Wr hI.zero
   refine Q4 rfl rfl (Q7 rfl rfl (Q0 h31)) (Q4 rfl rfl (Q7 rfl rfl (Q0 h31)) (Q4 rfl rfl (Q7 rfl rfl (Q0 h31)) (Q4 rfl rfl (Q7 rfl rfl (Q0 h31)) (Q4 rfl rfl (Q7 rfl rfl (Q0 h31)) (VC.spineNot rfl rfl (Q7 rfl rfl (Q0 h31)) (VC.spineNot rfl rfl (Q7 rfl rfl (Q0 h31)) (Q4 rfl rfl (Q7 rfl rfl (Q0 h31)) (Q4 rfl rfl (Q7 rfl rfl (Q0 h31)) (QU rfl rfl rfl (fun _=>(Wa rfl (Q0 h31) rfl)) ?_)))))))))
   refine VC.nil (Qc (Qi [58,9,1,0,10,79] rfl (QV rfl (Qr (Ql ?_)))))
   exact Q6 (L1:=[(0,_),(1,_),(9,_),(58,_)]) (Vk rfl rfl rfl rfl) (k1:=left2) (by omega) ⟨_,_,_,_,rfl,rfl,hS30.pick [0,2,3,4,5] rfl, fun j hj hq=>hj.elim (fun h=>hn1 j h hq) (fun e=> by subst e; exact absurd hpz hq),hn2⟩
  refine U4 (sp:=[8,9]) [0,1,2,3,4,5,6,7,9,10,8,11,12] (by kernel_rfl) ?_
  refine QE rfl rfl rfl (QU rfl rfl rfl (fun _=>(VE rfl rfl)) ?_)
  refine QE rfl rfl rfl (Wn 69 rfl (fun h36=> ?_) (fun h36=> ?_))
  ·refine QU rfl rfl (Qy rfl rfl (QW h36)) (fun _=>(Ev.gd (Xa rfl))) ?_
   refine QU rfl rfl (Qy rfl rfl (QW h36)) (fun _=>(Ev.gd (Z7 rfl))) ?_
   refine QU rfl rfl (Qy rfl rfl (QW h36)) (fun _=>(Ev.gd (Zr rfl XF))) ?_
   refine Q9 rfl rfl (Qy rfl rfl (QW h36)) (Ev.gd (Qm rfl Xm (J4 hS30 0 rfl))) (QU rfl rfl (Qy rfl rfl (QW h36)) (fun _=>(Ev.gd (Xa rfl))) ?_)
   refine Xj rfl rfl (Qy rfl rfl (QW h36)) rfl rfl rfl ?_
   refine Rt hS30 64 rfl rfl rfl Tryz.underlying143 Py rfl (by omega) (by omega) rfl ?_
   intro bz w37 hS37; rw[Dt]at hS37
   clear hS30
   refine X6 (.cons (.inl ⟨(Qy rfl rfl (QW h36)),(Ev.gd (Qm rfl Xm (J4 hS37 1 rfl)))⟩) .nil) (Q9 rfl rfl (Qy rfl rfl (QW h36)) (Ev.gd (Dd 0 hS37 zer rfl rfl rfl Tryz.underlying143 Tryz.underlying5 Tryz.underlying9 rfl rfl)) (Xj rfl rfl (Qy rfl rfl (QW h36)) rfl rfl rfl ?_))
   refine Qv JQ rfl (Y7 (hS37.sp [5] rfl) (Xc L id k)) rfl ?_
   rintro _ w38 ⟨rfl,hS38⟩
   replace hS38:=hS38.jn rfl rfl
   clear hS37
   refine X6 (.cons (.inl ⟨(Qy rfl rfl (QW h36)),(Ev.gd (Dd 1 hS38 zer rfl rfl rfl Tryz.underlying143 Tryz.underlying5 Tryz.underlying9 rfl rfl))⟩) (Xq (by kernel_rfl))) ?_
   refine QU rfl rfl (Qy rfl rfl (QW h36)) (fun _=>(Ev.gd (De rfl rfl))) ?_
   refine QU rfl rfl rfl (fun _=>(Jf rfl (QW h36) rfl)) ?_
   refine VC.nil (Qc (Qi [58,9,1,0,10,79] rfl (Qs rfl (fun h39=> ?_) (fun h39=> ?_))))
   ·have hpz:XT V (Xc L id k)≠zer:=h39
    refine Qa (Qb rfl rfl (Qg rfl Yx rfl (Qo rfl ZC (hS38.cell 3 rfl rfl) rfl (Xk (k:=k.1) (v:= .bool true) 5 hS38 keysStr Tryz.underlying91 rfl rfl rfl rfl ?_))))
    intro w40 hS40; dsimp only[List.set]at hS40; rw[UZ]at hS40
    clear hS38
    exact Qf (Ql (Q6 (L1:=[(0,_),(1,_),(9,_),(58,_)]) (Vk rfl rfl rfl rfl) (k1:=left2) (by omega) ⟨_,_,_,_,rfl,rfl,hS40.pick [2,4,5,0,6] rfl, fun j hj hq=>JC.2 (hj.elim (fun h=> .inl (hn1 j h hq)) (fun e=> .inr (by rw[e]))), fun ob hob=>(JC.1 hob).elim (hn2 ob) (fun e=>⟨k,e.symm,Sc hgk,hpz⟩)⟩))
   have hpz:XT V (Xc L id k)=zer:=Decidable.not_not.1 h39
   refine Qr (Ql ?_)
   exact Q6 (L1:=[(0,_),(1,_),(9,_),(58,_)]) (Vk rfl rfl rfl rfl) (k1:=left2) (by omega) ⟨_,_,_,_,rfl,rfl,hS38.pick [2,4,5,0,6] rfl, fun j hj hq=>hj.elim (fun h=>hn1 j h hq) (fun e=> by subst e; exact absurd hpz hq),hn2⟩
  have hpz:XT V (Xc L id k)=zer:= by rw[Decidable.not_not.1 h36]; exact Wr hI.zero
  refine Q4 rfl rfl (Q7 rfl rfl (Q0 h36)) (Q4 rfl rfl (Q7 rfl rfl (Q0 h36)) (Q4 rfl rfl (Q7 rfl rfl (Q0 h36)) (Q4 rfl rfl (Q7 rfl rfl (Q0 h36)) (Q4 rfl rfl (Q7 rfl rfl (Q0 h36)) (VC.spineNot rfl rfl (Q7 rfl rfl (Q0 h36)) (Q4 rfl rfl (Q7 rfl rfl (Q0 h36)) (VC.spineNot rfl rfl (Q7 rfl rfl (Q0 h36)) (Q4 rfl rfl (Q7 rfl rfl (Q0 h36)) (QU rfl rfl rfl (fun _=>(Wa rfl (Q0 h36) rfl)) ?_)))))))))
  refine VC.nil (Qc (Qi [58,9,1,0,10,79] rfl (QV rfl (Qr (Ql ?_)))))
  exact Q6 (L1:=[(0,_),(1,_),(9,_),(58,_)]) (Vk rfl rfl rfl rfl) (k1:=left2) (by omega) ⟨_,_,_,_,rfl,rfl,hS30.pick [0,2,3,4,5] rfl, fun j hj hq=>hj.elim (fun h=>hn1 j h hq) (fun e=> by subst e; exact absurd hpz hq),hn2⟩
 dsimp only[List.set]at hSN7
 refine Qt rfl rfl rfl (Qf (Qc (Qd (Xr rfl (Qr (Qc (Qw (Qd (Qa (Jy 1 hSN7 rfl hgk rfl rfl (Qt rfl rfl rfl (Xg hSN7 ZM rfl rfl ?_))))))))))))
 intro kb wk41 hk41
 clear hSN7
 refine QY hk41 rfl rfl Xh rfl (by rfl) (i:=0) rfl (by decide) ?_
 intro wk42 hk42; dsimp only[List.set]at hk42
 clear hk41
 replace hk42:=XM (k:=k) hk42
 refine Qf (Qc (Qa (Qb rfl rfl ?_)))
 refine XA rfl X9 Xh (by first | exact hk42.blk 0 rfl | exact hk42.blk 1 rfl) (by first | decide | exact Xn rfl | (simp;done) | omega) rfl rfl ?_
 refine Xk (k:=k) (v:= .bool true) 6 hk42 keysKey Tryz.underlying148 rfl rfl rfl rfl ?_
 intro w43 hS43; dsimp only[List.set]at hS43; rw[UZ]at hS43
 clear hk42
 refine Qf (Ql ?_)
 exact Q6 (L1:=[(0,_),(1,_),(5,_),(21,_)]) (Vk rfl rfl rfl rfl) (k1:=left2) (by omega) ⟨_,_,_,_,rfl,rfl,hS43.pick [1,2,3,4,5,6,7,8] rfl, fun j hj=>JC.2 (hj.imp (hd j) (fun e=>e)), fun j hj=>(JC.1 hj).elim (hs j) (fun e=> by subst e; exact⟨0,.inl ⟨rfl,OC hgk⟩⟩)⟩
end Go.Proofs.YtkcjfoaejijdoaaGreatDoor
namespace Go.Proofs.YtkcjfoaejijdoaaGreatDoor
open Go.RowKit M
set_option linter.unusedSectionVars false
variable [Inhabited SlW]
def PartLe (t:TrA) (q:Nat):Prop:= ∃l:List KD,l.length≤q∧ ∀k x,t.lv k=some x→x.wr≠0#64→x.wr≠BitVec.allOnes 64→k∈l
def DrLe (t:TrA) (d:Nat):Prop:= ∃l:List Bs,l.length≤d∧ ∀ob,t.dr ob=true→ob∈l
theorem PartLe.part {V:VS} {t:TrD} {q:Nat} {order:List KD} (h:PartLe (ZD V t) q) (hn:order.Nodup):Yr t order≤q:= by
  obtain⟨l,h1,h2⟩:=h
  refine Nat.le_trans ?_ h1
  unfold Yr
  refine W7 (hn.filter _) fun k hk=> ?_
  obtain⟨_,hk⟩:=List.mem_filter.1 hk
  simp only[decide_eq_true_eq]at hk
  obtain⟨x,hx,a,b⟩:=hk
  exact h2 k _ (ZI hx) a b
theorem DrLe.came {t:TrD} {V:VS} {d:Nat} (h:DrLe (ZD V t) d) {ks:List Bs} (hc:Came (Jg t.dr) ks):ks.length≤d:= by
  obtain⟨l,h1,h2⟩:=h
  refine Nat.le_trans (W7 hc.nodup fun k hk=> ?_) h1
  have h3:=hc.has k hk
  refine h2 k ?_
  show t.dr k=true
  cases q:t.dr k with
  | true=>rfl
  | false=> exact absurd (by unfold Jg; rw[q];rfl) h3
theorem absL_ch {L:LvD} {V:VS} {id:Int} (h: ∀i u,(Q8 L V).tr i=some u→u.parent≠id): ∀i u,L.tr i=some u→u.parent≠id:= fun i u hu=>h i _ (Zv hu)
theorem ls_com {w:World} {b p n m c e:Nat} {A:LvA} {F:Th} (hS:Sat w [Yb b p n m c e A,F]) (hn:n≤60000000000) (hm:m<Zp) {d q:Nat} (hn2:n+(16*e+4*e*d)≤60000000000) (hdm:d≤90000000000) {id:Int} {tA:TrA} (ht:A.tr id=some tA) (hch: ∀i u,A.tr i=some u→u.parent≠id) (hdr:DrA A) (hd:DrLe tA d) (hq:PartLe tA q) (hcq:c+q<256):
    Calls Tryz.prog 13 #[ptrV b 0,intV id] w (Ret fun v w'=> ∃order obs,v=intV 0∧((∀k,k∈order↔tA.lv k≠none)∧order.Nodup∧(∀ob,ob∈obs↔tA.dr ob=true))∧Sat w' [Yb b p (n+(16*e+4*e*d)) m (c+q) e (qak A id tA order obs),F]):= by
  obtain⟨L,V,⟨h1,h2,rfl,h4,h5⟩,hS1⟩:=ZH hS
  obtain⟨t,ht1,rfl⟩:=Uf ht
  refine(Al hS1 hn2 h2 hm h5 ht1 (absL_ch hch) hdr (fun ks h=>hd.came h) hdm).mono fun ew w h=>h.mono fun v w h=> ?_
  obtain⟨L',V',h,hS⟩:=h
  rcases h with⟨rfl,order,obs,a1,a2,a3,a4,a5,a6,a7,a8⟩ | ⟨_,_,order,a1,a2,a3,a4,a5,a6⟩
  · refine⟨order,obs,rfl,⟨fun k=>(a1 k).trans ?_,a2,a3⟩,ZO ⟨a5.trans h1,a4,a6,(a8 _ h4).mono (Nat.add_le_add_left (hq.part a2) c),a7 _ h5⟩ hS⟩
    cases r:t.lv k with
    | none=> rw[VV r]; simp
    | some x=> rw[ZI r]; simp
  · have x1:=a5 _ h4
    have x2:=hq.part a2
    omega
theorem BW {w:World} {b p n m c e:Nat} {A:LvA} {F:Th} (hS:Sat w [Yb b p n m c e A,F]) (hn:n≤60000000000) (hm:m<Zp) {d q:Nat} (hn2:n+(16*e+4*e*d)≤60000000000) (hdm:d≤90000000000) {id:Int} {tA:TrA} (ht:A.tr id=some tA) (hp:tA.parent=0) (hch: ∀i u,A.tr i=some u→u.parent≠id) (hdr:DrA A) (hd:DrLe tA d) (hq:PartLe tA q) (hcq:c+q<256):
    Calls Tryz.prog 13 #[ptrV b 0,intV id] w (Ret fun v w'=>v=intV 0∧Sat w' [Yb b p (n+(16*e+4*e*d)) m (c+q) e ⟨ME A tA,Xz A.tr id none⟩,F]):= by
  refine(ls_com hS hn hm hn2 hdm ht hch hdr hd hq hcq).mono fun ew w h=>h.mono fun v w h=> ?_
  obtain⟨order,obs,rfl,⟨a,b,c⟩,hS⟩:=h
  rw[Am hp b a c]at hS
  exact⟨rfl,hS⟩
end Go.Proofs.YtkcjfoaejijdoaaGreatDoor
