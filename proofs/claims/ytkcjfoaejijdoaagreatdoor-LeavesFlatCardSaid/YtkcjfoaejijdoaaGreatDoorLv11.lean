/- leaves: sees with a hole -/
import Derived.Test.YtkcjfoaejijdoaaGreatDoorLv10
import Derived.Shelf.Spec.TrailingZeros
set_option linter.unusedVariables false
set_option maxRecDepth 100000
set_option maxHeartbeats 80000000000
namespace Go.Proofs.YtkcjfoaejijdoaaGreatDoor
open Go.RowKit M
set_option linter.unusedSectionVars false
variable [Inhabited SlW]
theorem PQ (x:BitVec 64) (h:x≠0#64):Lib.ctz 64 x.toNat<64∧ ∀j,j<64→((x&&&(x -1#64)).getLsbD j=(x.getLsbD j&&decide (j≠Lib.ctz 64 x.toNat)))∧x.getLsbD (Lib.ctz 64 x.toNat)=true:= by
  have h0:x.toNat≠0:= fun q=>h (BitVec.eq_of_toNat_eq (by simpa using q))
  obtain⟨m,hm,hk⟩:=Lib.ctzFrom_spec 64 x.toNat (by omega) x.isLt
  have e:Lib.ctz 64 x.toNat=Lib.ctzFrom 64 x.toNat:= by simp [Lib.ctz,h0]
  rw[←e]at hm hk
  generalize Lib.ctz 64 x.toNat=k at hm hk
  have hx1:(x -1#64).toNat=x.toNat -1:= by
    rw[BitVec.toNat_sub]; have :=x.isLt; simp;omega
  have hp:0<2^k:=Nat.two_pow_pos k
  have hbit: ∀j,x.getLsbD j=x.toNat.testBit j:= fun j=> by rw[←BitVec.testBit_toNat]
  have hbit1: ∀j,(x -1#64).getLsbD j=(x.toNat -1).testBit j:= fun j=> by rw[←BitVec.testBit_toNat,hx1]
  have q1:x.toNat=2^k*(2*m)+2^k:= by rw[hm]; rw[Nat.mul_add]; simp
  have q2:x.toNat -1=2^k*(2*m)+(2^k -1):= by omega
  refine⟨hk, fun j hj=>⟨?_, ?_⟩⟩
  · rw[BitVec.getLsbD_and,hbit,hbit1]
    rcases Nat.lt_trichotomy j k with hjk | rfl | hjk
    · have a:x.toNat.testBit j=false:= by
        rw[hm,Nat.testBit_two_pow_mul]; simp;omega
      simp [a]
    · have b:(x.toNat -1).testBit j=false:= by
        rw[q2,Nat.testBit_two_pow_mul_add _ (by omega)]; simp
      simp [b]
    · have b:(x.toNat -1).testBit j=x.toNat.testBit j:= by
        rw[q2,hm,Nat.testBit_two_pow_mul_add _ (by omega),Nat.testBit_two_pow_mul]
        have h3: ¬j<k:= by omega
        have h4:j≥k:= by omega
        simp only[h3,if_false,h4,decide_true,Bool.true_and]
        obtain⟨i,hi⟩: ∃i,j -k=i+1:=⟨j -k -1, by omega⟩
        rw[hi,Nat.testBit_succ,Nat.testBit_succ]
        congr 1;omega
      rw[b]
      have :j≠k:= by omega
      simp [this]
  · rw[hbit,hm,Nat.testBit_two_pow_mul]; simp
theorem RankI.av {T:Int→Option TrD} {m:Nat} (h:RankI T m) (i0:Int): ∃Av:Int→Prop,(∀t,T i0=some t→Av t.parent)∧ ∀i u,Av i→T i=some u→i≠i0∧Av u.parent:= by
  obtain⟨h0,r,a,b⟩:=h
  refine⟨fun i=>T i≠none→r i<r i0, fun t ht hp=> ?_, fun i u hi hu=> ?_⟩
  · rcases b i0 t ht with e | e
    · rw[e]at hp; exact absurd h0 hp
    · exact e.2
  · have h1:r i<r i0:=hi (by rw[hu]; simp)
    refine⟨fun e=> by rw[e]at h1;omega, fun hp=> ?_⟩
    rcases b i u hu with e | e
    · rw[e]at hp; exact absurd h0 hp
    · omega
def GT (w:World):Prop:=TabAt 0 Lib.deBruijn64tab w
def VK (L:LvD) (V:VS) (t:TrD) (k:KD) (x:LfD):Prop:= ∀j,j<64→x.rd.getLsbD j=true→(XT V x.base)[j]? =(XT V (Xc L t.parent k))[j]?
theorem C2 {κ α:Type} {ad:α→Nat} {f:κ→Option α} {k:κ} {v:Value} (h:Zj ad f k=some v): ∃x,f k=some x∧v=ptrV (ad x) 0:= by
  unfold Zj at h
  cases q:f k with
  | none=> rw[q]at h; cases h
  | some x=> rw[q]at h; exact⟨x,rfl, by simpa using h.symm⟩
theorem tz_sp (x:BitVec 64) (w:World) (hT:GT w):Calls Tryz.prog 56 #[Zu x] w (Ret fun v w'=>v=intV (Lib.ctz 64 x.toNat)∧w'=w):=
  (Any7.bits_TrailingZeros64 Tryz.tz64 x.toNat x.isLt w (fun _=>hT)).mono fun e w' ⟨h1,h2⟩=>⟨_,h1,rfl,h2⟩
theorem NU {w:World} {b:Nat} {L:LvD} {i0:Int} {F:Th} (hS:Sat w [QF b [ptrV L.sp 0,.map (some L.mp),.map (some L.mt),intV L.cur,.map (some L.ms)],Q3 Xy L.mp (Zt L.pres),Q3 Xf L.mt (Zj TrD.ad L.tr),Z0 K7 (Xz L.tr i0 none),Q3 Xf L.ms (Jg L.sh),F]) (hE: ∀i,Y3 L.tr Zp i) {Av:Int→Prop} (hAv: ∀i u,Av i→L.tr i=some u→i≠i0∧Av u.parent) (id:Int) (hA0:Av id) (k:KD):
    Calls Tryz.prog 48 #[ptrV b 0,intV id,Xy k] w (Ret fun v w'=>v=intV (Xc L id k)∧Sat w' [QF b [ptrV L.sp 0,.map (some L.mp),.map (some L.mt),intV L.cur,.map (some L.ms)],Q3 Xy L.mp (Zt L.pres),Q3 Xf L.mt (Zj TrD.ad L.tr),Z0 K7 (Xz L.tr i0 none),Q3 Xf L.ms (Jg L.sh),F]):= by
 refine Qq Tryz.func48 rfl Tryz.ntmps48 rfl ?_
 refine Qd (Qa (XU hS rfl rfl rfl ?_))
 intro kb w1 hS1
 change Sat w1 [QF kb [strV k.1,intV k.2],_,_,_,_,_,_]at hS1
 refine Qe rfl rfl (Qf (Qc (Qd (Qw (Xe (fun K0 E0 W0=> ∃(m:Nat) (i:Int),K0=m+1∧E0=[(0,ptrV b 0),(1,intV i),(5,ptrV kb 0)]∧Sat W0 [QF kb [strV k.1,intV k.2],QF b [ptrV L.sp 0,.map (some L.mp),.map (some L.mt),intV L.cur,.map (some L.ms)],Q3 Xy L.mp (Zt L.pres),Q3 Xf L.mt (Zj TrD.ad L.tr),Z0 K7 (Xz L.tr i0 none),Q3 Xf L.ms (Jg L.sh),F]∧(Xc L id k=Jq L (m+1) i k)∧(Y3 L.tr m i)∧(m≤Zp)∧(Av i)) (L0:=[(0,_),(1,_),(5,_)]) (Zp+1) (Cn rfl rfl rfl) ⟨Zp,id,rfl,rfl,hS1,rfl,hE id,Nat.le_refl _,hA0⟩ ?_)))))
 rintro _ _ w2 ⟨m,i,rfl,rfl,hS2,hse,hen,hm,hav⟩
 refine Qd (Qd (Qa (Qb rfl rfl (X0 rfl rfl rfl (Qf (Qc (Qs rfl (fun h3=> ?_) (fun h3=> ?_))))))))
 ·have hid0:i≠0:=h3
  refine Qr (Qc (Qw (Qd (Qa (Qb rfl rfl (Qk rfl rfl (Qg rfl Wu rfl (Qo rfl Y4 (hS2.cell 1 rfl rfl) rfl (Qb rfl rfl (X2 (k:=i) 3 hS2 keysInt Tryz.underlying82 rfl rfl rfl Hv (u:=(ptO TrD.ad (L.tr i))) (Kk _) rfl (Qe rfl rfl (Qf (Qc (Qi [5,1,0,7] rfl (Qd (Qd (Qa (Qb rfl rfl ?_))))))))))))))))))
  rcases hq_T:L.tr i with _ | t
  ·refine Yk Tryz.underlying94 rfl rfl rfl (Qf (Qc (Xr rfl (Qd (Qa (Qe rfl rfl (Qf (Qc (Qu (Qn (Qx (Qn (Qx (Qn (QQ (.inr rfl) rfl rfl ?_)))))))))))))))
   exact⟨_,rfl, by rw[hse,T6 hid0 hq_T],hS2.pick [1,2,3,4,5,6] rfl⟩
  refine ZJ Tryz.underlying94 rfl rfl rfl ?_
  have hqH:Xz L.tr i0 none i=some t:= by rw[QI (hAv _ _ hav hq_T).1]; exact hq_T
  have hS4:=ZE (hS2.pick [4,0,1,2,3,5,6] rfl) hqH
  refine Qf (Qc (QV rfl (Qr (Qc (Qd (Qd ?_))))))
  have hS5:=hS4.drew
  refine QJ [0,1,2,3,4,5,6] [] Wp (by kernel_rfl) ?_
  refine QE rfl rfl rfl (Xl rfl rfl rfl (QT rfl rfl rfl Wd (Q9 rfl rfl rfl (Qm rfl JH (hS5.cell 0 rfl rfl)) (Q9 rfl rfl rfl (XE rfl X9 Xh (hS5.blk 5 rfl) (Xn rfl) rfl) (Q9 rfl rfl rfl (Xx (k:=k) 1 hS5 keysKey Tryz.underlying90 rfl rfl rfl HI (u:=(ptO LfD.ad (t.lv k))) (Kk _)) (XN rfl rfl rfl (VC.nil (Qc (Qi [5,1,0,7,8] rfl (Qd (Qa (Qb rfl rfl ?_))))))))))))
  rcases hq_X:t.lv k with _ | x
  ·refine Yi Tryz.underlying89 rfl rfl rfl (Qf (Qc (QV rfl (Qr (Qc (Qd (Qd ?_)))))))
   have hS7:=hS5.drew
   refine QJ [0,1,2,3,4,5,6] [] Wp (by kernel_rfl) ?_
   refine QE rfl rfl rfl (Xl rfl rfl rfl (QT rfl rfl rfl RS (Q9 rfl rfl rfl (Qm rfl Ck (hS7.cell 0 rfl rfl)) (QT rfl rfl rfl Yx (Q9 rfl rfl rfl (Qm rfl ZC (hS7.cell 5 rfl rfl)) (Q9 rfl rfl rfl (Xx (k:=k.1) 3 hS7 keysStr Tryz.underlying91 rfl rfl rfl zr_4 (u:= .bool (t.dr k.1)) (Ns _ _)) (VC.nil (Qc (Qi [5,1,0,7,37] rfl (QM rfl (fun h8=> ?_) (fun h8=> ?_)))))))))))
   ·have hdr:t.dr k.1=true:=h8
    refine Qd (Qa (Qe rfl rfl (Qf (Qc (Qu (Qn (Qx (Qn (Qx (Qn (QQ (.inr rfl) rfl rfl ?_)))))))))))
    have hS9:=Zm hqH (hS7.pick [0,1,2,3,4,5,6,7,8,9,10] rfl)
    exact⟨_,rfl, by rw[hse,GJ hid0 hq_T hq_X hdr],hS9.pick [2,3,4,0,5,6] rfl⟩
   have hdr:t.dr k.1=false:=h8
   refine Qr (Qc (Qa (Qb rfl rfl (Qk rfl rfl (Qg rfl Yw rfl (Qo rfl QO (hS7.cell 0 rfl rfl) rfl (Qe rfl rfl (Qf (Ql ?_)))))))))
   have hS10:=Zm hqH (hS7.pick [0,1,2,3,4,5,6,7,8,9,10] rfl)
   obtain⟨m2,hm2,hen2⟩:=CL hen hid0 hq_T
   exact Q6 (L1:=[(0,_),(1,intV t.parent),(5,_)]) (Cn rfl rfl rfl) (k1:=m2+1) (by omega) ⟨m2,t.parent,rfl,rfl,hS10.pick [1,2,3,4,0,5,6] rfl, by rw[hse,hm2,Cw hid0 hq_T hq_X hdr],hen2, by omega,(hAv _ _ hav hq_T).2⟩
  refine Uj Tryz.underlying89 rfl rfl rfl ?_
  have hS6:=H9 (hS5.pick [2,0,1,3,4,5,6,7,8,9,10] rfl) hq_X
  refine Qf (Qc (Xr rfl (Qd (Qa (Qb rfl rfl (Qk rfl rfl (Qg rfl Jt rfl (Qo rfl QO (hS6.cell 0 rfl rfl) rfl (Qe rfl rfl (Qf (Qc (Qi [5,1,0,7,6] rfl (Qu (Qn (Qx (Qn (Qx (Qn (QQ (.inr rfl) rfl rfl ?_)))))))))))))))))))
  have hS11:=Wi hq_X (hS6.pick [0,1,2,3,4,5,6,7,8,9,10,11] rfl)
  have hS12:=Zm hqH (hS11.pick [1,2,0,3,4,5,6,7,8,9,10] rfl)
  exact⟨_,rfl, by rw[hse,Uq hid0 hq_T hq_X],hS12.pick [2,3,4,0,5,6] rfl⟩
 have hid0:i=0:=Decidable.not_not.1 h3
 refine QS (Qp (Qp (Qz (Qc (Qd ?_)))))
 have hS13:=hS2.drew
 refine QJ [0,1,2,3,4,5,6] [] Wp (by kernel_rfl) ?_
 refine QE rfl rfl rfl (Xl rfl rfl rfl (QT rfl rfl rfl UT (Q9 rfl rfl rfl (Qm rfl B9 (hS13.cell 1 rfl rfl)) (Q9 rfl rfl rfl (XE rfl X9 Xh (hS13.blk 0 rfl) (Xn rfl) rfl) (Q9 rfl rfl rfl (Xx (k:=k) 2 hS13 keysKey Tryz.underlying81 rfl rfl rfl HH (u:=intV (L.pres k)) (GO _ _)) (XN rfl rfl rfl (VC.nil (Qc (Qi [6] rfl (Qu (QQ (.inr rfl) rfl rfl ?_)))))))))))
 exact⟨_,rfl, by rw[hse,Ye hid0],hS13.pick [1,2,3,4,5,6] rfl⟩
end Go.Proofs.YtkcjfoaejijdoaaGreatDoor
namespace Go.Proofs.YtkcjfoaejijdoaaGreatDoor
open Go.RowKit M
set_option linter.unusedSectionVars false
variable [Inhabited SlW]
theorem AA {st s2 rd:BitVec 64} {pa pb:Bs} (hne:st≠0#64) (hsub: ∀j,j<64→st.getLsbD j=true→rd.getLsbD j=true) (hin: ∀j,j<64→rd.getLsbD j=true→st.getLsbD j=true∨pa[j]? =pb[j]?) (heq:pa[Lib.ctz 64 st.toNat]? =pb[Lib.ctz 64 st.toNat]?):
    (∀j,j<64→(st&&&(st -1#64)).getLsbD j=true→rd.getLsbD j=true)∧(∀j,j<64→rd.getLsbD j=true→(st&&&(st -1#64)).getLsbD j=true∨pa[j]? =pb[j]?)∧(st&&&(st -1#64)).toNat<st.toNat:= by
  obtain⟨h1,h2⟩:=PQ st hne
  refine⟨fun j hj h=> ?_, fun j hj h=> ?_, ?_⟩
  · rw[(h2 j hj).1,Bool.and_eq_true]at h; exact hsub j hj h.1
  · rcases hin j hj h with q | q
    · by_cases e:j=Lib.ctz 64 st.toNat
      · right; rw[e]; exact heq
      · left; rw[(h2 j hj).1,q]; simp [e]
    · exact .inr q
  · have h0:st.toNat≠0:= fun q=>hne (BitVec.eq_of_toNat_eq (by simpa using q))
    have h3:(st -1#64).toNat=st.toNat -1:= by
      rw[BitVec.toNat_sub]; have :=st.isLt; simp;omega
    rw[BitVec.toNat_and,h3]
    have :=Nat.and_le_right (n:=st.toNat) (m:=st.toNat -1)
    omega
theorem LW {w:World} {m:Nat} {b n Fr:Nat} {L:LvD} {V:VS} {F:Th} (hS:Sat w [ZY b L,Zq L.sp n Fr V,F]) (hn:n≤60000000000) (hI:LvI m L V) (hm:m<Zp) (hG:Ent F GT) {id:Int} {t:TrD} (ht:L.tr id=some t):
    Calls Tryz.prog 14 #[ptrV b 0,intV id] w (Ret fun v w'=> ∃r:Bool,v= .bool r∧(r=true↔ ∀k x,t.lv k=some x→VK L V t k x)∧Sat w' [ZY b L,Zq L.sp n Fr V,F]):= by
 have h0:id≠0:=hI.rank.none0 ht
 obtain⟨Av,hA0,hAv⟩:=hI.rank.av id
 replace hS:=XX hS
 refine Qq Tryz.func14 rfl Tryz.ntmps14 rfl ?_
 refine Qd (Qa (Qe rfl rfl (Qf (Qc (Qd (Qd (Qa (Qb rfl rfl (QX rfl rfl rfl (Qf (Qc (Qs rfl (fun h1=> ?_) (fun h1=> ?_)))))))))))))
 ·exact absurd h1 h0
 refine Qr (Qc (Qd (Qa (Qb rfl rfl (Qk rfl rfl (Qg rfl Wu rfl (Qo rfl Y4 (hS.cell 0 rfl rfl) rfl (Qb rfl rfl (X2 (k:=id) 2 hS keysInt Tryz.underlying82 rfl rfl rfl Hv (u:=ptrV t.ad 0) (Zg ht) rfl (Qe rfl rfl (Qf (Qc (Qi [0,4,5] rfl (Qd (Qd (Qa (Qb rfl rfl (ZJ Tryz.underlying94 rfl rfl rfl (Qf (Qc (QV rfl (Qr (Qc (Qd (Qd ?_)))))))))))))))))))))))))
 have hS2:=ZE (hS.pick [3,0,1,2,4,5,6] rfl) ht
 refine Qa (Qb rfl rfl (Qk rfl rfl (Qg rfl Wd rfl (Qo rfl JH (hS2.cell 0 rfl rfl) rfl (Jx 1 hS2 Tryz.underlying90 rfl rfl rfl ?_)))))
 intro RR left0 wR hSR; dsimp only[List.set]at hSR
 clear hS2
 refine Qf (Qc (Qw (Xe (fun K0 E0 W0=> ∃(dn:KD→Prop) (cur:Option KD) (left:Nat),K0=left∧E0=[(0,ptrV b 0),(4,.bool false),(5,ptrV t.ad 0),(27,ptrV RR 0)]∧Sat W0 [QF t.ad [intV t.parent,.map (some t.ml),.map (some t.md)],J2 Xy t.ml RR (Zj LfD.ad t.lv) dn cur left,Z0 RK t.lv,Q3 Xp t.md (Jg t.dr),Z0 K7 (Xz L.tr id none),QF b [ptrV L.sp 0,.map (some L.mp),.map (some L.mt),intV L.cur,.map (some L.ms)],Q3 Xy L.mp (Zt L.pres),Q3 Xf L.mt (Zj TrD.ad L.tr),Q3 Xf L.ms (Jg L.sh),Zq L.sp n Fr V,F]∧(∀k x,dn k→t.lv k=some x→VK L V t k x)) (L0:=[(0,_),(4,_),(5,_),(27,_)]) (left0) (Vk rfl rfl rfl rfl) ⟨_,_,_,rfl,rfl,hSR.pick [0,1,2,3,4,5,6,7,8,9,10] rfl, fun _ _ h=>h.elim⟩ ?_)))
 rintro _ _ w3 ⟨dn,cur,left,rfl,rfl,hS3,hok⟩
 refine Qd (Qa (Yh 1 hS3 keysKey.inj rfl rfl rfl (fun hdone=> ?_) (fun k v left2 wN hleft hgk hnd hSN=> ?_)))
 ·refine Qt rfl rfl rfl (Qf (Qc (Qd (QV rfl (QS (Qp (Qp (Qz (Qc (Qd (Qa (Qe rfl rfl (Qf (Qc (Qu (QQ (.inr rfl) rfl rfl ?_))))))))))))))))
  have hz:=WG (hS3.pick [1,0,2,3,4,5,6,7,8,9,10] rfl)
  have hS4:=Zm ht (hz.pick [1,0,2,3,4,5,6,7,8,9,10] rfl)
  exact⟨_,rfl,true,rfl,⟨fun _ k x hx=>hok k x (hdone _ _ (show Zj LfD.ad t.lv k=some (ptrV x.ad 0) by unfold Zj; rw[hx];rfl)) hx, fun _=>rfl⟩,Xd (hS4.pick [1,2,3,0,4,5,6] rfl)⟩
 dsimp only[List.set]at hSN
 obtain⟨x,hx,rfl⟩:=C2 hgk
 refine Qt rfl rfl rfl (Qf (Qc (Qd (Xr rfl (Qr (Qc (Qw (Qd (Qa (Jy 1 hSN rfl hgk rfl rfl (Qt rfl rfl rfl (Qt rfl rfl rfl (Xg hSN ZM rfl rfl ?_)))))))))))))
 intro kb wk5 hk5
 clear hSN
 refine QY hk5 rfl rfl Xh rfl (by rfl) (i:=0) rfl (by decide) ?_
 intro wk6 hk6; dsimp only[List.set]at hk6
 clear hk5
 replace hk6:=XM (k:=k) hk6
 refine Qe rfl rfl (Qf (Qc (Qi [27,5,4,0,6,7] rfl (Qd ?_))))
 have hS7:=H9 (hk6.pick [3,0,1,2,4,5,6,7,8,9,10,11] rfl) hx
 have hS8:=hS7.drew
 refine QJ [0,1,2,3,4,5,6,7] [6] Wp (by kernel_rfl) ?_
 refine QE rfl rfl rfl (QE rfl rfl rfl (Xl rfl rfl rfl (QT rfl rfl rfl Yw (Q9 rfl rfl rfl (Qm rfl QO (hS8.cell 3 rfl rfl)) (Q9 rfl rfl rfl (XE rfl X9 Xh (hS8.blk 2 rfl) (Xn rfl) rfl) (Xj rfl rfl rfl rfl rfl rfl ?_))))))
 refine Qv YE rfl (NU (i0:=id) (hS8.sp [7,8,9,6,10] rfl) (hI.rank.ends hm) hAv t.parent (hA0 t ht) k) rfl ?_
 rintro _ w9 ⟨rfl,hS9⟩
 replace hS9:=hS9.jn rfl rfl
 clear hS8
 refine X6 (Xq (by kernel_rfl)) ?_
 refine XN rfl rfl rfl (VC.nil (Qc (Qi [27,5,4,0,7,8] rfl (Qd (Qd (Qa (Qb rfl rfl (Qk rfl rfl (Qg rfl YN rfl (Qo rfl Y0 (hS9.cell 5 rfl rfl) rfl (QX rfl rfl rfl (Qb rfl rfl (QN 45 rfl (fun h10=> ?_) (fun h10=> ?_))))))))))))))
 ·have hrd0:x.rd=0#64:=BitVec.eq_of_toNat_eq (by simpa using h10)
  refine Qh rfl rfl (QW h10) rfl (Qh rfl rfl (QW h10) rfl (Qh rfl rfl (QW h10) rfl (Qh rfl rfl (QW h10) rfl (Qh rfl rfl (QW h10) rfl (Qh rfl rfl (QW h10) rfl (QC rfl (QW h10) rfl rfl (Qf (Qc (Qi [27,5,4,0,7,8,52] rfl (Xr rfl (QS (Qp (Qz ?_)))))))))))))
  have hvk:VK L V t k x:= fun j hj h=>(by first | (rw[hrd0]at h; simp at h) | rw[hnb])
  have hS11:=Wi hx (hS9.pick [5,6,0,1,2,3,4,7,8,9,10,11,12] rfl)
  exact Q6 (L1:=[(0,_),(4,_),(5,_),(27,_)]) (Vk rfl rfl rfl rfl) (k1:=left2) (by omega) ⟨_,_,_,rfl,rfl,hS11.pick [7,8,0,9,4,1,2,3,5,10,11] rfl, fun q y hq hy=>hq.elim (fun h=>hok q y h hy) (fun h=> by subst h; rw[hx]at hy; cases hy; exact hvk)⟩
 refine Qj rfl rfl (Q0 h10) (Qb rfl rfl (Qj rfl rfl (Q0 h10) (Qb rfl rfl (Qj rfl rfl (Q0 h10) (Qk rfl rfl (Qj rfl rfl (Q0 h10) (Qg rfl BZ rfl (Qj rfl rfl (Q0 h10) (Qo rfl QO (hS9.cell 5 rfl rfl) rfl (Qj rfl rfl (Q0 h10) (QX rfl rfl rfl (QG rfl (Q0 h10) rfl rfl (Qf (Qc (Qi [27,5,4,0,7,8,52] rfl (Qs rfl (fun h12=> ?_) (fun h12=> ?_)))))))))))))))))
 ·have hnb:Xc L t.parent k=x.base:=h12
  refine QS (Qp (Qz ?_))
  have hvk:VK L V t k x:= fun j hj h=>(by first | (rw[hrd0]at h; simp at h) | rw[hnb])
  have hS13:=Wi hx (hS9.pick [5,6,0,1,2,3,4,7,8,9,10,11,12] rfl)
  exact Q6 (L1:=[(0,_),(4,_),(5,_),(27,_)]) (Vk rfl rfl rfl rfl) (k1:=left2) (by omega) ⟨_,_,_,rfl,rfl,hS13.pick [7,8,0,9,4,1,2,3,5,10,11] rfl, fun q y hq hy=>hq.elim (fun h=>hok q y h hy) (fun h=> by subst h; rw[hx]at hy; cases hy; exact hvk)⟩
 refine Qr (Qc (Qd ?_))
 have hS14:=hS9.drew
 refine QJ [0,1,2,3,4,5,6,7,9,10,11,12,13,8,14,15,16] [8,14] Wp (by kernel_rfl) ?_
 refine QE rfl rfl rfl (Xl rfl rfl rfl (QT rfl rfl rfl XF (Q9 rfl rfl rfl (Qm rfl Xm (hS14.cell 0 rfl rfl)) (QE rfl rfl rfl (Xl rfl rfl rfl (QT rfl rfl rfl BZ (Q9 rfl rfl rfl (Qm rfl QO (hS14.cell 5 rfl rfl)) (QE rfl rfl rfl (Xl rfl rfl rfl (QT rfl rfl rfl XF (Q9 rfl rfl rfl (Qm rfl Xm (hS14.cell 0 rfl rfl)) (QE rfl rfl rfl (Xj rfl rfl rfl rfl rfl rfl ?_)))))))))))))
 refine Qv JQ rfl (Y7 (hS14.sp [11] rfl) (x.base)) rfl ?_
 rintro _ w15 ⟨rfl,hS15⟩
 replace hS15:=hS15.jn rfl rfl
 clear hS14
 refine X6 (.cons (.inl ⟨rfl,(Qm rfl Xm (hS15.cell 1 rfl rfl))⟩) (Xq (by kernel_rfl))) ?_
 refine Xj rfl rfl rfl rfl rfl rfl ?_
 refine Qv JQ rfl (Y7 (hS15.sp [0] rfl) (Xc L t.parent k)) rfl ?_
 rintro _ w16 ⟨rfl,hS16⟩
 replace hS16:=hS16.jn rfl rfl
 clear hS15
 refine X6 (Xq (by kernel_rfl)) ?_
 refine XN rfl rfl rfl (XN rfl rfl rfl (VC.nil (Qc (Qi [27,5,4,0,7,9,10] rfl (Qd ?_)))))
 have hlb:=hI.len (s:=x.base) (by have :=hI.alive (.inr (id,k,false));rwa [XB ht hx]at this)
 have hln:=hI.len (hI.aliveS t.parent k)
 refine Qa (Qb rfl rfl (Qk rfl rfl (Qg rfl YN rfl (Qo rfl Y0 (hS16.cell 6 rfl rfl) rfl (Qe rfl rfl (Qf (Qc (Qi [27,5,4,0,9,10,11] rfl (Qw ?_)))))))))
 refine Xe (fun K0 E0 W0=> ∃(st:BitVec 64),K0=st.toNat∧E0=[(0,ptrV b 0),(4,.bool false),(5,ptrV t.ad 0),(27,ptrV RR 0),(9,strV (XT V x.base)),(10,strV (XT V (Xc L t.parent k))),(11,Zu st)]∧Sat W0 [QF x.ad [intV x.base,intV x.own,Zu x.rd,Zu x.wr],Z0 RK (Xz t.lv k none),QF kb [strV k.1,intV k.2],QF t.ad [intV t.parent,.map (some t.ml),.map (some t.md)],J2 Xy t.ml RR (Zj LfD.ad t.lv) (fun j=>dn j∨j=k) (some k) left2,Q3 Xp t.md (Jg t.dr),Z0 K7 (Xz L.tr id none),QF b [ptrV L.sp 0,.map (some L.mp),.map (some L.mt),intV L.cur,.map (some L.ms)],Q3 Xy L.mp (Zt L.pres),Q3 Xf L.mt (Zj TrD.ad L.tr),Q3 Xf L.ms (Jg L.sh),Zq L.sp n Fr V,F]∧(∀j,j<64→st.getLsbD j=true→x.rd.getLsbD j=true)∧(∀j,j<64→x.rd.getLsbD j=true→st.getLsbD j=true∨(XT V x.base)[j]? =(XT V (Xc L t.parent k))[j]?)) (L0:=[(0,_),(4,_),(5,_),(27,_),(9,_),(10,_),(11,_)]) (x.rd.toNat) (N6 rfl rfl rfl rfl rfl rfl rfl) ⟨x.rd,rfl,rfl,hS16.pick [6,7,8,9,10,11,4,1,2,3,5,0,12] rfl, fun _ _ h=>h, fun _ _ h=> .inl h⟩ ?_
 rintro _ _ w17 ⟨st,rfl,rfl,hS17,hsub,hin⟩
 refine Qd (Qd (Qa (Qb rfl rfl (X0 rfl rfl rfl (Qf (Qc (Qs rfl (fun h18=> ?_) (fun h18=> ?_))))))))
 ·have hne:st≠0#64:= fun q=> by subst q; exact absurd h18 (by decide)
  refine Qr (Qc (Qd (Qw (Qd (Qa (Qb rfl rfl (Qv cal_56 rfl (tz_sp st _ (hG.sat hS17 12 rfl)) rfl ?_)))))))
  rintro _ _ ⟨rfl,rfl⟩
  have hcz:=PQ st hne
  have hci:=hcz.1
  obtain⟨ca,hca⟩: ∃ca,(XT V x.base)[Lib.ctz 64 st.toNat]? =some ca:=⟨_,Zd (by rw[hlb];omega)⟩
  obtain⟨cb,hcb⟩: ∃cb,(XT V (Xc L t.parent k))[Lib.ctz 64 st.toNat]? =some cb:=⟨_,Zd (by rw[hln];omega)⟩
  refine Qe rfl rfl (Qf (Qc (Qi [11,10,9,27,5,4,0,12] rfl (Qd ?_))))
  have hS19:=hS17.drew
  refine QJ [0,1,2,3,4,5,6] [] Wp (by kernel_rfl) ?_
  refine QE rfl rfl rfl (QE rfl rfl rfl (Q9 rfl rfl rfl (U2 _ Tryz.underlying9 rfl rfl (by rfl) (by assumption)) ?_))
  refine QE rfl rfl rfl (QE rfl rfl rfl (Q9 rfl rfl rfl (U2 _ Tryz.underlying9 rfl rfl (by rfl) (by assumption)) ?_))
  refine QU rfl rfl rfl (fun _=>(VE rfl rfl)) ?_
  refine VC.nil (Qc (Qi [11,10,9,27,5,4,0,86] rfl (Qs rfl (fun h20=> ?_) (fun h20=> ?_))))
  ·have hnq:ca≠cb:= fun q=> by subst q; exact h20 rfl
   refine Qd (Qa (Qe rfl rfl (Qf (Qc (Qu (Qx (Qn (Qn (Qx (Qx (Qn (Qx (Qn (QQ (.inr rfl) rfl rfl ?_))))))))))))))
   have hbad: ¬VK L V t k x:= fun q=> by have h1:=q _ hci (hsub _ hci ((hcz.2 0 (by omega)).2)); rw[hca,hcb]at h1; simp at h1; subst h1; exact hnq rfl
   have hS21:=Wi hx (hS19.pick [0,1,2,3,4,5,6,7,8,9,10,11,12] rfl)
   have hz:=WG (hS21.pick [3,2,0,4,5,6,7,8,9,10,11] rfl)
   have hS22:=Zm ht (hz.pick [1,0,2,3,4,5,6,7,8,9,10] rfl)
   exact⟨_,rfl,false,rfl,⟨(fun q=> by cases q), fun q=>absurd (q k x hx) hbad⟩,Xd (hS22.pick [1,2,3,0,4,5,6] rfl)⟩
  have heq:(XT V x.base)[Lib.ctz 64 st.toNat]? =(XT V (Xc L t.parent k))[Lib.ctz 64 st.toNat]? := by rw[hca,hcb];congr 1; have h0:=Decidable.not_not.1 h20; exact UInt8.toNat_inj.1 (by omega)
  refine Qr (Ql (Qc (Qa (Qb rfl rfl (Qb rfl rfl (AG (b:=1#64) rfl rfl rfl (D5 rfl rfl rfl (Qe rfl rfl (Qf ?_)))))))))
  have hbn:=AA (s2:=st) hne hsub hin heq
  exact Q6 (L1:=[(0,_),(4,_),(5,_),(27,_),(9,_),(10,_),(11,Zu (st&&&(st -1#64)))]) (N6 rfl rfl rfl rfl rfl rfl rfl) (k1:=(st&&&(st -1#64)).toNat) hbn.2.2 ⟨_,rfl,rfl,hS19.pick [0,1,2,3,4,5,6,7,8,9,10,11,12] rfl,hbn.1,hbn.2.1⟩
 have hz0:st=0#64:=BitVec.eq_of_toNat_eq (by have :=Decidable.not_not.1 h18;simpa using this)
 refine QS (Qp (Qp (Qz (Ql ?_))))
 have hvk:VK L V t k x:= fun j hj h=>(hin j hj h).resolve_left (by rw[hz0]; simp)
 have hS23:=Wi hx (hS17.pick [0,1,2,3,4,5,6,7,8,9,10,11,12] rfl)
 exact Q6 (L1:=[(0,_),(4,_),(5,_),(27,_)]) (Vk rfl rfl rfl rfl) (k1:=left2) (by omega) ⟨_,_,_,rfl,rfl,hS23.pick [2,3,0,4,5,6,7,8,9,10,11] rfl, fun q y hq hy=>hq.elim (fun h=>hok q y h hy) (fun h=> by subst h; rw[hx]at hy; cases hy; exact hvk)⟩
end Go.Proofs.YtkcjfoaejijdoaaGreatDoor
namespace Go.Proofs.YtkcjfoaejijdoaaGreatDoor
open Go.RowKit M
set_option linter.unusedSectionVars false
variable [Inhabited SlW]
def Pgs (V V':VS):Prop:= ∀j,XP V' j→XP V j∧XT V' j=XT V j
theorem Sv {V:VS} {s j:Int} (h:XP (Z2 V s) j):XP V j:= by
  rcases h with h | h
  · exact .inl h
  · exact .inr (Tw h)
theorem Pgs.refl {V:VS}:Pgs V V:= fun _ h=>⟨h,rfl⟩
theorem Pgs.trans {V V1 V2:VS} (h:Pgs V V1) (h':Pgs V1 V2):Pgs V V2:= fun j q=>⟨(h j (h' j q).1).1,(h' j q).2.trans (h j (h' j q).1).2⟩
theorem Pgs.ref {V:VS} {s:Int}:Pgs V (refW V s):= fun j q=>⟨q.imp_right Ya.1,Yq⟩
theorem Pgs.unr {V:VS} {s:Int} (h0:V 0=none):Pgs V (Z2 V s):= fun j q=>⟨Sv q,Md h0 q⟩
section
variable {ex:Int→Int} {L L1 L':LvD} {V V1 V':VS} {id:Int} {t t1 t':TrD} {k:KD} {x y x1:LfD} {m Fr:Nat} {s a:Int}
theorem SE (hx:NN ex) (hs:s≠0→1≤ex s):NN (fun j=>ex j -dl s j):= fun j hj=> by
  show 0≤ex j -dl s j
  have :=hx j hj
  by_cases e:j=s
  · subst e; have :=hs hj; rw[Ww];omega
  · rw[Ju e];omega
theorem setX (hI:LvX ex m L V) (hx:NN ex) (hs:s≠0→1≤ex s) (hp:L'.pres=Zy L.pres k s) (hT:L'.tr=L.tr):
    LvX (fun j=>ex j -dl s j) m L' (Z2 V (L.pres k))∧Q8 L' (Z2 V (L.pres k))={Q8 L V with pres:=Vn (Q8 L V).pres k (XT V s)}:= by
  have hf:=TP hp hT
  have hh:Xw L (.inl k)=L.pres k:=rfl
  have a1:=(((hI.ref.put (.inl k) s).fn hf).unr (hI.aliveX hx (.inl k)))
  rw[hh]at a1
  have a2:RefI (Xw L') (Z2 V (L.pres k)) (fun j=>ex j -dl s j):=a1.ext fun j hj=> by omega
  have nn:NN (fun j=>ex j -dl s j):=SE hx hs
  have hc: ∀p,XT (Z2 V (L.pres k)) (Xw L' p)=XT V (Xw L' p):= fun p=>Md hI.zero (a2.aliveN rfl (nn _))
  have e1:Q8 L' (Z2 V (L.pres k))={Q8 L V with pres:=Vn (Q8 L V).pres k (XT V s)}:= by
    rw[Bm (V:=V) (V':=Z2 V (L.pres k)) hp hT fun p hp=> by have :=hc p;rwa [hf,Zb hp]at this]
    have :=hc (.inl k)
    rw[hf,XG]at this
    rw[this]
  exact⟨⟨a2, by rw[hT]; exact hI.rank, by rw[e1]; exact hI.agree⟩,e1⟩
theorem ownX (hI:LvX ex m L V) (hx:NN ex) (hs:s≠0→1≤ex s) (ht:L.tr id=some t) (hl:t.lv k=some x) (hp:L'.pres=L.pres) (hT:L'.tr=Xz L.tr id (some {t with lv:=Xz t.lv k (some y)})) (hb:y.base=x.base) (ho:y.own=s)
    (hg:Sl {Wy V x with own:=XT V s,rd:=y.rd,wr:=y.wr}):
    LvX (fun j=>ex j -dl s j) m L' (Z2 V x.own)∧Q8 L' (Z2 V x.own)=ZA (Q8 L V) id k {Wy V x with own:=XT V s,rd:=y.rd,wr:=y.wr}:= by
  have hf: ∀q,Xw L' q=Vn (Xw L) (.inr (id,k,true)) s q:= fun q=> by
    rw[Hs (x:=y) hp hT ht rfl,hb,ho,Hy (f:=Xw L) (v:=x.base) (by rw[XB ht hl];rfl)]
  have hh:Xw L (.inr (id,k,true))=x.own:= by rw[XB ht hl];rfl
  have a1:=(((hI.ref.put (.inr (id,k,true)) s).fn hf).unr (hI.aliveX hx (.inr (id,k,true))))
  rw[hh]at a1
  have a2:RefI (Xw L') (Z2 V x.own) (fun j=>ex j -dl s j):=a1.ext fun j hj=> by omega
  have nn:NN (fun j=>ex j -dl s j):=SE hx hs
  have hc: ∀p,XT (Z2 V x.own) (Xw L' p)=XT V (Xw L' p):= fun p=>Md hI.zero (a2.aliveN rfl (nn _))
  have e1:Q8 L' (Z2 V x.own)=ZA (Q8 L V) id k {Wy V x with own:=XT V s,rd:=y.rd,wr:=y.wr}:= by
    rw[YJ (V:=V) (V':=Z2 V x.own) (x:=y) hp hT ht rfl fun p h1 h2=> by have :=hc p;rwa [hf,Zb h2]at this]
    congr 1
    have h1:=hc (.inr (id,k,true))
    have h2:=hc (.inr (id,k,false))
    rw[hf,XG]at h1
    rw[hf,Zb (by simp),XB ht hl]at h2
    simp at h2
    simp [Wy,hb,ho,h1,h2]
  exact⟨⟨a2, by rw[hT]; exact hI.rank.same (WZ ht rfl), by rw[e1]; exact hI.agree.put hg⟩,e1⟩
theorem LvX.refW (hI:LvX ex m L V) (ha:XP V s):LvX (fun j=>ex j+dl s j) m L (refW V s)∧Q8 L (refW V s)=Q8 L V:= by
  have e:Q8 L (Go.Proofs.YtkcjfoaejijdoaaGreatDoor.refW V s)=Q8 L V:=Vf fun p=>Yq
  exact⟨⟨hI.ref.ref ha,hI.rank, by rw[e]; exact hI.agree⟩,e⟩
theorem LvX.unr (hI:LvX ex m L V) (hx:NN ex) (hs:s≠0→1≤ex s):LvX (fun j=>ex j -dl s j) m L (Z2 V s)∧Q8 L (Z2 V s)=Q8 L V:= by
  have ha:XP V s:= by
    by_cases h0:s=0
    · exact .inl h0
    · obtain⟨n,a,b⟩:=hI.ref.1 s h0
      have :=hs h0
      exact .inr (hI.ref.alive_of (by omega))
  have nn:NN (fun j=>ex j -dl s j):=SE hx hs
  have a2:=hI.ref.unr ha
  have e:Q8 L (Z2 V s)=Q8 L V:=Vf fun p=>Md hI.zero (a2.aliveN rfl (nn _))
  exact⟨⟨a2,hI.rank, by rw[e]; exact hI.agree⟩,e⟩
theorem LvX.ext {ex':Int→Int} (hI:LvX ex m L V) (h: ∀j,j≠0→ex' j=ex j):LvX ex' m L V:=⟨hI.ref.ext h,hI.rank,hI.agree⟩
theorem LvX.same (hI:LvX ex m L V) (hp:L'.pres=L.pres) (hT:L'.tr=L.tr):LvX ex m L' V∧Q8 L' V=Q8 L V:= by
  have e:Q8 L' V=Q8 L V:= by unfold Q8; rw[hp,hT]
  have hf:Xw L'=Xw L:= by funext p; cases p<;> simp [Xw,hp,hT]
  exact⟨⟨by rw[hf]; exact hI.ref, by rw[hT]; exact hI.rank, by rw[e]; exact hI.agree⟩,e⟩
end
structure StepX (ex:Int→Int) (m:Nat) (L:LvD) (V:VS) (ex':Int→Int) (m' d e:Nat) (L':LvD) (V':VS):Prop where
  inv:LvX ex' m' L' V'
  sp:L'.sp=L.sp
  al: ∀c,AliveLe V c→AliveLe V' (c+d)
  sz: ∀c,SzLe L c→SzLe L' (c+e)
  pg:Pgs V V'
theorem StepX.refl {ex:Int→Int} {m d e:Nat} {L:LvD} {V:VS} (h:LvX ex m L V):StepX ex m L V ex m d e L V:=⟨h,rfl, fun _ q=>q.mono (by omega), fun _ q=>q.mono (by omega),.refl⟩
theorem StepX.trans {ex ex1 ex2:Int→Int} {m m1 m2:Nat} {L L1 L2:LvD} {V V1 V2:VS} {d d1 e e1:Nat} (h:StepX ex m L V ex1 m1 d e L1 V1) (h':StepX ex1 m1 L1 V1 ex2 m2 d1 e1 L2 V2):StepX ex m L V ex2 m2 (d+d1) (e+e1) L2 V2:=
  ⟨h'.inv,h'.sp.trans h.sp, fun c q=>(h'.al _ (h.al c q)).mono (by omega), fun c q=>(h'.sz _ (h.sz c q)).mono (by omega),h.pg.trans h'.pg⟩
theorem StepX.up {ex ex1:Int→Int} {m m1:Nat} {L L1:LvD} {V V1:VS} {d d1 e e1:Nat} (h:StepX ex m L V ex1 m1 d e L1 V1) (h1:d≤d1) (h2:e≤e1):StepX ex m L V ex1 m1 d1 e1 L1 V1:=
  ⟨h.inv,h.sp, fun c q=>(h.al c q).mono (by omega), fun c q=>(h.sz c q).mono (by omega),h.pg⟩
theorem StepX.plain {m m1:Nat} {L L1:LvD} {V V1:VS} {d e:Nat} (h:StepX (fun _=>0) m L V (fun _=>0) m1 d e L1 V1):StepI m L V m1 d e L1 V1:=⟨h.inv,h.sp,h.al,h.sz⟩
def N3 (L:LvD) (j:Int) (q:KD):Prop:=(j=0∧L.pres q≠0)∨ ∃t x,L.tr j=some t∧t.lv q=some x
def OthK (L L':LvD) (p:Int) (P:KD→Prop):Prop:=(∀i,i≠p→L'.tr i=L.tr i)∧ ∀j q,N3 L' j q→N3 L j q∨(j=p∧P q)
theorem OthK.refl {L:LvD} {p:Int} {P:KD→Prop}:OthK L L p P:=⟨fun _ _=>rfl, fun _ _ h=> .inl h⟩
theorem OthK.trans {L L1 L2:LvD} {p:Int} {P Q R:KD→Prop} (h:OthK L L1 p P) (h':OthK L1 L2 p Q) (hP: ∀q,P q→R q) (hQ: ∀q,Q q→R q):OthK L L2 p R:=
  ⟨fun i hi=>(h'.1 i hi).trans (h.1 i hi), fun j q hk=> by
    rcases h'.2 j q hk with a | ⟨a,b⟩
    · rcases h.2 j q a with c | ⟨c,d⟩
      · exact .inl c
      · exact .inr ⟨c,hP q d⟩
    · exact .inr ⟨a,hQ q b⟩⟩
theorem SzLe.keys {L:LvD} {c:Nat} (h:SzLe L c): ∃l:List (Int×KD),l.length≤c∧ ∀j q,N3 L j q→(j,q)∈l:= by
  obtain⟨l,a,b,d⟩:=h
  refine⟨l,a, fun j q hk=> ?_⟩
  rcases hk with⟨rfl,e⟩ | ⟨t,x,e,f⟩
  · exact b q e
  · exact d j t q x e f
theorem SzLe.of_keys {L:LvD} {c:Nat} {l:List (Int×KD)} (h:l.length≤c) (hk: ∀j q,N3 L j q→(j,q)∈l):SzLe L c:=⟨l,h, fun k e=>hk 0 k (.inl ⟨rfl,e⟩), fun i t k x e f=>hk i k (.inr ⟨t,x,e,f⟩)⟩
theorem OthK.sz2 {L L':LvD} {p id:Int} {P:KD→Prop} {c:Nat} (h:OthK L L' p P) (hP: ∀q,P q→N3 L id q) (hc:SzLe L c):SzLe L' (2*c):= by
  obtain⟨l,a,b⟩:=hc.keys
  refine SzLe.of_keys (l:=l++l.map fun e=>(p,e.2)) (by simp;omega) fun j q hk=> ?_
  rcases h.2 j q hk with e | ⟨rfl,e⟩
  · exact List.mem_append_left _ (b j q e)
  · exact List.mem_append_right _ (List.mem_map.2 ⟨(id,q),b id q (hP q e),rfl⟩)
theorem OthK.szRem {L L1 L':LvD} {p id:Int} {P:KD→Prop} {c:Nat} (h:OthK L L1 p P) (hP: ∀q,P q→N3 L id q) (h0:id≠0) (hr:L'.pres=L1.pres) (ht:L'.tr=Xz L1.tr id none) (hc:SzLe L c):SzLe L' c:= by
  obtain⟨l,a,b⟩:=hc.keys
  refine SzLe.of_keys (l:=l.map fun e=> if e.1=id then(p,e.2)else e) (by simpa using a) fun j q hk=> ?_
  have hj:j≠id∧N3 L1 j q:= by
    rcases hk with⟨rfl,e⟩ | ⟨t,x,e,f⟩
    · exact⟨fun a=>h0 a.symm,.inl ⟨rfl, by rwa [hr]at e⟩⟩
    · rw[ht]at e
      by_cases g:j=id
      · subst g; rw[Q1]at e; cases e
      · rw[QI g]at e; exact⟨g,.inr ⟨t,x,e,f⟩⟩
  rcases h.2 j q hj.2 with e | ⟨rfl,e⟩
  · exact List.mem_map.2 ⟨(j,q),b j q e, by rw[if_neg hj.1]⟩
  · exact List.mem_map.2 ⟨(id,q),b id q (hP q e), by rw[if_pos rfl]⟩
theorem TouR.oth {L L1:LvD} {V V1:VS} {id i:Int} {t t1:TrD} {k:KD} {x1:LfD} (hT:TouR L V id t k L1 V1 t1 x1) (hi:i≠id):L1.tr i=L.tr i:= by
  rcases hT with⟨_,rfl,_,_⟩ | ⟨_,a,_,_,rfl,_⟩
  · rfl
  · exact QI hi
theorem TouR.othK {L L1 L':LvD} {V V1:VS} {id:Int} {t t1:TrD} {k:KD} {x1 y:LfD} (hT:TouR L V id t k L1 V1 t1 x1) (ht:L.tr id=some t) (hp:L'.pres=L1.pres) (hT':L'.tr=Xz L1.tr id (some {t1 with lv:=Xz t1.lv k (some y)})):OthK L L' id (fun q=>q=k):= by
  refine⟨fun i hi=> by rw[hT',QI hi,hT.oth hi], fun j q hk=> ?_⟩
  have hpr:L1.pres=L.pres:= by
    rcases hT with⟨_,rfl,_,_⟩ | ⟨_,a,_,_,rfl,_⟩
    · rfl
    · rfl
  have hlv: ∀q,q≠k→t1.lv q=t.lv q:= fun q hq=> by
    rcases hT with⟨_,_,_,rfl⟩ | ⟨_,a,_,rfl,_,_⟩
    · rfl
    · exact QI hq
  by_cases e:j=id
  · subst e
    by_cases e2:q=k
    · exact .inr ⟨rfl,e2⟩
    · left
      rcases hk with⟨e3,e4⟩ | ⟨u,x,e3,e4⟩
      · exact .inl ⟨e3, by rwa [hp,hpr]at e4⟩
      · rw[hT',Q1]at e3
        cases e3
        dsimp only at e4
        rw[QI e2,hlv q e2]at e4
        exact .inr ⟨t,x,ht,e4⟩
  · left
    rcases hk with⟨e3,e4⟩ | ⟨u,x,e3,e4⟩
    · exact .inl ⟨e3, by rwa [hp,hpr]at e4⟩
    · rw[hT',QI e,hT.oth e]at e3
      exact .inr ⟨u,x,e3,e4⟩
theorem Oq {L:LvD} {k:KD} {s:Int} {f:Int→Bool}:OthK L {L with pres:=Zy L.pres k s,sh:=f} 0 (fun q=>q=k):= by
  refine⟨fun _ _=>rfl, fun j q hk=> ?_⟩
  rcases hk with⟨e,h⟩ | h
  · by_cases e2:q=k
    · exact .inr ⟨e,e2⟩
    · simp only[Zy,if_neg e2]at h
      exact .inl (.inl ⟨e,h⟩)
  · exact .inl (.inr h)
theorem SU {L L':LvD} {p:Int} {P:KD→Prop} (hp: ∀q,L'.pres q≠0→L.pres q≠0) (hT:L'.tr=L.tr):OthK L L' p P:=
  ⟨fun i _=> by rw[hT], fun j q hk=> .inl (hk.imp (fun a=>⟨a.1,hp q a.2⟩) (fun ⟨t,x,a,b⟩=>⟨t,x, by rwa [hT]at a,b⟩))⟩
theorem SR {L L':LvD} {id:Int} {t t':TrD} {P:KD→Prop} (ht:L.tr id=some t) (hp:L'.pres=L.pres) (hT:L'.tr=Xz L.tr id (some t')) (hg: ∀k x,t'.lv k=some x→t.lv k≠none):OthK L L' id P:= by
  refine⟨fun i hi=> by rw[hT,QI hi], fun j q hk=> .inl ?_⟩
  rcases hk with⟨e,h⟩ | ⟨u,x,e,h⟩
  · exact .inl ⟨e, by rwa [hp]at h⟩
  · rw[hT]at e
    by_cases e2:j=id
    · subst e2
      rw[Q1]at e
      cases e
      cases q2:t.lv q with
      | none=> exact absurd q2 (hg q x h)
      | some y=> exact .inr ⟨t,y,ht,q2⟩
    · rw[QI e2]at e; exact .inr ⟨u,x,e,h⟩
end Go.Proofs.YtkcjfoaejijdoaaGreatDoor
