/- leaves: sees with a hole -/
import Derived.Test.YtkcjfoaejijdoaaGreatDoorLv10
import Derived.Shelf.Spec.TrailingZeros
set_option linter.unusedSectionVars false
set_option linter.unusedVariables false
set_option maxRecDepth 100000
set_option maxHeartbeats 80000000000
namespace Go.Proofs.YtkcjfoaejijdoaaGreatDoor
open Go.RowKit M Proofs.Tryz
variable [Inhabited SlW]
theorem NE (x:BitVec 64) (h:x≠0#64):Lib.ctz 64 x.toNat<64∧ ∀j,j<64→((x&&&(x -1#64)).getLsbD j=(x.getLsbD j&&decide (j≠Lib.ctz 64 x.toNat)))∧x.getLsbD (Lib.ctz 64 x.toNat)=true:= by
  have h0:x.toNat≠0:= fun q=>h (BitVec.eq_of_toNat_eq (by simpa using q))
  obtain⟨m,hm,hk⟩:=Lib.ctzFrom_spec 64 x.toNat (by omega) x.isLt
  have e:Lib.ctz 64 x.toNat=Lib.ctzFrom 64 x.toNat:= by simp [Lib.ctz,h0]
  rw[←e]at hm hk
  generalize Lib.ctz 64 x.toNat=k at hm hk
  have hx1:(x -1#64).toNat=x.toNat -1:= by
    rw[BitVec.toNat_sub]; have :=x.isLt; simp;omega
  have hp:0<2^k:=Nat.two_pow_pos k
  have hbit: ∀j,x.getLsbD j=x.toNat.testBit j:= fun j=> by rw[←BitVec.testBit_toNat]
  have hbit1: ∀j,(x -1#64).getLsbD j=(x.toNat -1).testBit j:= fun j=> by rw[←BitVec.testBit_toNat,hx1]
  have q1:x.toNat=2^k*(2*m)+2^k:= by rw[hm]; rw[Nat.mul_add]; simp
  have q2:x.toNat -1=2^k*(2*m)+(2^k -1):= by omega
  refine⟨hk, fun j hj=>⟨?_, ?_⟩⟩
  · rw[BitVec.getLsbD_and,hbit,hbit1]
    rcases Nat.lt_trichotomy j k with hjk | rfl | hjk
    · have a:x.toNat.testBit j=false:= by
        rw[hm,Nat.testBit_two_pow_mul]; simp;omega
      simp [a]
    · have b:(x.toNat -1).testBit j=false:= by
        rw[q2,Nat.testBit_two_pow_mul_add _ (by omega)]; simp
      simp [b]
    · have b:(x.toNat -1).testBit j=x.toNat.testBit j:= by
        rw[q2,hm,Nat.testBit_two_pow_mul_add _ (by omega),Nat.testBit_two_pow_mul]
        have h3: ¬j<k:= by omega
        have h4:j≥k:= by omega
        simp only[h3,if_false,h4,decide_true,Bool.true_and]
        obtain⟨i,hi⟩: ∃i,j -k=i+1:=⟨j -k -1, by omega⟩
        rw[hi,Nat.testBit_succ,Nat.testBit_succ]
        congr 1;omega
      rw[b]
      have :j≠k:= by omega
      simp [this]
  · rw[hbit,hm,Nat.testBit_two_pow_mul]; simp
theorem RankI.av {T:Int→Option TrD} {m:Nat} (h:RankI T m) (i0:Int): ∃Av:Int→Prop,(∀t,T i0=some t→Av t.parent)∧ ∀i u,Av i→T i=some u→i≠i0∧Av u.parent:= by
  obtain⟨h0,r,a,b⟩:=h
  refine⟨fun i=>T i≠none→r i<r i0, fun t ht hp=> ?_, fun i u hi hu=> ?_⟩
  · rcases b i0 t ht with e | e
    · rw[e]at hp; exact absurd h0 hp
    · exact e.2
  · have h1:r i<r i0:=hi (by rw[hu]; simp)
    refine⟨fun e=> by rw[e]at h1;omega, fun hp=> ?_⟩
    rcases b i u hu with e | e
    · rw[e]at hp; exact absurd h0 hp
    · omega
def GT (w:World):Prop:=TabAt 0 Lib.deBruijn64tab w
def VK (L:LvD) (V:VS) (t:TrD) (k:KD) (x:LfD):Prop:= ∀j,j<64→x.rd.getLsbD j=true→(XH V x.base)[j]? =(XH V (Xo L t.parent k))[j]?
theorem YR {κ α:Type} {ad:α→Nat} {f:κ→Option α} {k:κ} {v:Value} (h:X0 ad f k=some v): ∃x,f k=some x∧v=ptrV (ad x) 0:= by
  unfold X0 at h
  cases q:f k with
  | none=> rw[q]at h; cases h
  | some x=> rw[q]at h; exact⟨x,rfl, by simpa using h.symm⟩
theorem tz_sp (x:BitVec 64) (w:World) (hT:GT w):Calls prog 56 #[Z5 x] w (Ret fun v w'=>v=intV (Lib.ctz 64 x.toNat)∧w'=w):=
  (Any7.bits_TrailingZeros64 Tryz.tz64 x.toNat x.isLt w (fun _=>hT)).mono fun e w' ⟨h1,h2⟩=>⟨_,h1,rfl,h2⟩
theorem CL {w:World} {b:Nat} {L:LvD} {i0:Int} {F:Th} (hS:Sat w [Q8 b [ptrV L.sp 0,.map (some L.mp),.map (some L.mt),intV L.cur,.map (some L.ms)],Q5 Xr L.mp (XN L.pres),Q5 QN L.mt (X0 TrD.ad L.tr),XW YW (Xu L.tr i0 none),Q5 QN L.ms (ZF L.sh),F]) (hE: ∀i,YE L.tr Zg i) {Av:Int→Prop} (hAv: ∀i u,Av i→L.tr i=some u→i≠i0∧Av u.parent) (id:Int) (hA0:Av id) (k:KD):
    Calls prog 48 #[ptrV b 0,intV id,Xr k] w (Ret fun v w'=>v=intV (Xo L id k)∧Sat w' [Q8 b [ptrV L.sp 0,.map (some L.mp),.map (some L.mt),intV L.cur,.map (some L.ms)],Q5 Xr L.mp (XN L.pres),Q5 QN L.mt (X0 TrD.ad L.tr),XW YW (Xu L.tr i0 none),Q5 QN L.ms (ZF L.sh),F]):= by
 refine Qm func48 U ntmps48 U ?_
 refine Qd (Qa (XR hS U U U ?_))
 intro kb w1 j1
 change Sat w1 [Q8 kb [strV k.1,intV k.2],_,_,_,_,_,_]at j1
 refine Qe U U (Qf (Qc (Qd (Qw (Xg (fun K0 E0 W0=> ∃(m:Nat) (i:Int),K0=m+1∧E0=[(0,ptrV b 0),(1,intV i),(5,ptrV kb 0)]∧Sat W0 [Q8 kb [strV k.1,intV k.2],Q8 b [ptrV L.sp 0,.map (some L.mp),.map (some L.mt),intV L.cur,.map (some L.ms)],Q5 Xr L.mp (XN L.pres),Q5 QN L.mt (X0 TrD.ad L.tr),XW YW (Xu L.tr i0 none),Q5 QN L.ms (ZF L.sh),F]∧(Xo L id k=J1 L (m+1) i k)∧(YE L.tr m i)∧(m≤Zg)∧(Av i)) (L0:=[(0,_),(1,_),(5,_)]) (Zg+1) (Rg U U U) ⟨Zg,id,rfl,rfl,j1,rfl,hE id,Nat.le_refl _,hA0⟩ ?_)))))
 rintro _ _ w2 ⟨m,i,rfl,rfl,j2,hse,hen,hm,hav⟩
 refine Qd (Qd (Qa (Qb U U (XC U U U (Qf (Qc (Qt U (fun h3=> ?_) (fun h3=> ?_))))))))
 ·have hid0:i≠0:=h3
  refine Qs (Qc (Qw (Qd (Qa (Qb U U (Qj U U (Qg U Zr U (Qr U Wx (j2.cell 1 U U) U (Qb U U (XV (k:=i) 3 j2 keysInt underlying82 U U U JU (u:=(ptO TrD.ad (L.tr i))) (UF _) U (Qe U U (Qf (Qc (Qh [5,1,0,7] U (Qd (Qd (Qa (Qb U U ?_))))))))))))))))))
  rcases hq_T:L.tr i with _ | t
  ·refine WG underlying94 U U U (Qf (Qc (Xd U (Qd (Qa (Qe U U (Qf (Qc (Qu (Qp (Qz (Qp (Qz (Qp (QY (.inr U) U U ?_)))))))))))))))
   exact⟨_,rfl, by rw[hse,MB hid0 hq_T],j2.pick [1,2,3,4,5,6] U⟩
  refine ZO underlying94 U U U ?_
  have hqH:Xu L.tr i0 none i=some t:= by rw[QF (hAv _ _ hav hq_T).1]; exact hq_T
  have j4:=Z3 (j2.pick [4,0,1,2,3,5,6] U) hqH
  refine Qf (Qc (QR U (Qs (Qc (Qd (Qd ?_))))))
  have j5:=j4.drew
  refine QE [0,1,2,3,4,5,6] [] Wa (by kernel_rfl) ?_
  refine Q9 U U U (Xi U U U (QQ U U U ZE (Q4 U U U (Ql U WR (j5.cell 0 U U)) (Q4 U U U (XB U X9 Xf (j5.blk 5 U) (Xv U) U) (Q4 U U U (X2 (k:=k) 1 j5 keysKey underlying90 U U U HB (u:=(ptO LfD.ad (t.lv k))) (UF _)) (XK U U U (VC.nil (Qc (Qh [5,1,0,7,8] U (Qd (Qa (Qb U U ?_))))))))))))
  rcases hq_X:t.lv k with _ | x
  ·refine JG underlying89 U U U (Qf (Qc (QR U (Qs (Qc (Qd (Qd ?_)))))))
   have j7:=j5.drew
   refine QE [0,1,2,3,4,5,6] [] Wa (by kernel_rfl) ?_
   refine Q9 U U U (Xi U U U (QQ U U U UM (Q4 U U U (Ql U K7 (j7.cell 0 U U)) (QQ U U U JT (Q4 U U U (Ql U W9 (j7.cell 5 U U)) (Q4 U U U (X2 (k:=k.1) 3 j7 keysStr underlying91 U U U zr_4 (u:= .bool (t.dr k.1)) (Co _ _)) (VC.nil (Qc (Qh [5,1,0,7,37] U (QT U (fun h8=> ?_) (fun h8=> ?_)))))))))))
   ·have hdr:t.dr k.1=true:=h8
    refine Qd (Qa (Qe U U (Qf (Qc (Qu (Qp (Qz (Qp (Qz (Qp (QY (.inr U) U U ?_)))))))))))
    have j9:=Zw hqH (j7.pick [0,1,2,3,4,5,6,7,8,9,10] U)
    exact⟨_,rfl, by rw[hse,G3 hid0 hq_T hq_X hdr],j9.pick [2,3,4,0,5,6] U⟩
   have hdr:t.dr k.1=false:=h8
   refine Qs (Qc (Qa (Qb U U (Qj U U (Qg U Jl U (Qr U QL (j7.cell 0 U U) U (Qe U U (Qf (Qk ?_)))))))))
   have j10:=Zw hqH (j7.pick [0,1,2,3,4,5,6,7,8,9,10] U)
   obtain⟨m2,hm2,hen2⟩:=TM hen hid0 hq_T
   exact Q3 (L1:=[(0,_),(1,intV t.parent),(5,_)]) (Rg U U U) (k1:=m2+1) (by omega) ⟨m2,t.parent,rfl,rfl,j10.pick [1,2,3,4,0,5,6] U, by rw[hse,hm2,Tz hid0 hq_T hq_X hdr],hen2, by omega,(hAv _ _ hav hq_T).2⟩
  refine H4 underlying89 U U U ?_
  have j6:=JC (j5.pick [2,0,1,3,4,5,6,7,8,9,10] U) hq_X
  refine Qf (Qc (Xd U (Qd (Qa (Qb U U (Qj U U (Qg U WK U (Qr U QL (j6.cell 0 U U) U (Qe U U (Qf (Qc (Qh [5,1,0,7,6] U (Qu (Qp (Qz (Qp (Qz (Qp (QY (.inr U) U U ?_)))))))))))))))))))
  have j11:=Wc hq_X (j6.pick [0,1,2,3,4,5,6,7,8,9,10,11] U)
  have j12:=Zw hqH (j11.pick [1,2,0,3,4,5,6,7,8,9,10] U)
  exact⟨_,rfl, by rw[hse,Uo hid0 hq_T hq_X],j12.pick [2,3,4,0,5,6] U⟩
 have hid0:i=0:=Decidable.not_not.1 h3
 refine QU (Qq (Qq (Qx (Qc (Qd ?_)))))
 have j13:=j2.drew
 refine QE [0,1,2,3,4,5,6] [] Wa (by kernel_rfl) ?_
 refine Q9 U U U (Xi U U U (QQ U U U Jm (Q4 U U U (Ql U Hf (j13.cell 1 U U)) (Q4 U U U (XB U X9 Xf (j13.blk 0 U) (Xv U) U) (Q4 U U U (X2 (k:=k) 2 j13 keysKey underlying81 U U U Hj (u:=intV (L.pres k)) (Us _ _)) (XK U U U (VC.nil (Qc (Qh [6] U (Qu (QY (.inr U) U U ?_)))))))))))
 exact⟨_,rfl, by rw[hse,Yo hid0],j13.pick [1,2,3,4,5,6] U⟩
theorem EA {st s2 rd:BitVec 64} {pa pb:Bs} (hne:st≠0#64) (hsub: ∀j,j<64→st.getLsbD j=true→rd.getLsbD j=true) (hin: ∀j,j<64→rd.getLsbD j=true→st.getLsbD j=true∨pa[j]? =pb[j]?) (heq:pa[Lib.ctz 64 st.toNat]? =pb[Lib.ctz 64 st.toNat]?):
    (∀j,j<64→(st&&&(st -1#64)).getLsbD j=true→rd.getLsbD j=true)∧(∀j,j<64→rd.getLsbD j=true→(st&&&(st -1#64)).getLsbD j=true∨pa[j]? =pb[j]?)∧(st&&&(st -1#64)).toNat<st.toNat:= by
  obtain⟨h1,h2⟩:=NE st hne
  refine⟨fun j hj h=> ?_, fun j hj h=> ?_, ?_⟩
  · rw[(h2 j hj).1,Bool.and_eq_true]at h; exact hsub j hj h.1
  · rcases hin j hj h with q | q
    · by_cases e:j=Lib.ctz 64 st.toNat
      · right; rw[e]; exact heq
      · left; rw[(h2 j hj).1,q]; simp [e]
    · exact .inr q
  · have h0:st.toNat≠0:= fun q=>hne (BitVec.eq_of_toNat_eq (by simpa using q))
    have h3:(st -1#64).toNat=st.toNat -1:= by
      rw[BitVec.toNat_sub]; have :=st.isLt; simp;omega
    rw[BitVec.toNat_and,h3]
    have :=Nat.and_le_right (n:=st.toNat) (m:=st.toNat -1)
    omega
theorem Lc {w:World} {b n Fr:Nat} {L:LvD} {V:VS} {F:Th} (hS:Sat w [XX b L,XD L.sp n Fr V,F]) (hn:n≤60000000000):
    Calls prog 14 #[ptrV b 0,intV 0] w (Ret fun v w'=>v= .bool true∧Sat w' [XX b L,XD L.sp n Fr V,F]):= by
 replace hS:=X1 hS
 refine Qm func14 U ntmps14 U ?_
 refine Qd (Qa (Qe U U (Qf (Qc (Qd (Qd (Qa (Qb U U (Xq U U U (Qf (Qc (Qt U (fun h1=> ?_) (fun h1=> ?_)))))))))))))
 ·exact Qd (Qa (Qe U U (Qf (Qc (Qu (Qp (QY (.inr U) U U (⟨_,U,U,QX (hS.pick [0,1,2,3,4,5,6] U)⟩))))))))
 exact absurd U h1
theorem M2 {w:World} {m:Nat} {b n Fr:Nat} {L:LvD} {V:VS} {F:Th} (hS:Sat w [XX b L,XD L.sp n Fr V,F]) (hn:n≤60000000000) (hI:LvI m L V) (hm:m<Zg) (hG:Ent F GT) {id:Int} {t:TrD} (ht:L.tr id=some t):
    Calls prog 14 #[ptrV b 0,intV id] w (Ret fun v w'=> ∃r:Bool,v= .bool r∧(r=true↔ ∀k x,t.lv k=some x→VK L V t k x)∧Sat w' [XX b L,XD L.sp n Fr V,F]):= by
 have h0:id≠0:=hI.rank.none0 ht
 obtain⟨Av,hA0,hAv⟩:=hI.rank.av id
 replace hS:=X1 hS
 refine Qm func14 U ntmps14 U ?_
 refine Qd (Qa (Qe U U (Qf (Qc (Qd (Qd (Qa (Qb U U (Xq U U U (Qf (Qc (Qt U (fun h1=> ?_) (fun h1=> ?_)))))))))))))
 ·exact absurd h1 h0
 refine Qs (Qc (Qd (Qa (Qb U U (Qj U U (Qg U Zr U (Qr U Wx (hS.cell 0 U U) U (Qb U U (XV (k:=id) 2 hS keysInt underlying82 U U U JU (u:=ptrV t.ad 0) (XY ht) U (Qe U U (Qf (Qc (Qh [0,4,5] U (Qd (Qd (Qa (Qb U U (ZO underlying94 U U U (Qf (Qc (QR U (Qs (Qc (Qd (Qd ?_)))))))))))))))))))))))))
 have j2:=Z3 (hS.pick [3,0,1,2,4,5,6] U) ht
 refine Qa (Qb U U (Qj U U (Qg U ZE U (Qr U WR (j2.cell 0 U U) U (ZN 1 j2 underlying90 U U U ?_)))))
 intro RR left0 wR hSR; dsimp only[List.set]at hSR
 refine Qf (Qc (Qw (Xg (fun K0 E0 W0=> ∃(dn:KD→Prop) (cur:Option KD) (left:Nat),K0=left∧E0=[(0,ptrV b 0),(4,.bool false),(5,ptrV t.ad 0),(27,ptrV RR 0)]∧Sat W0 [Q8 t.ad [intV t.parent,.map (some t.ml),.map (some t.md)],ZS Xr t.ml RR (X0 LfD.ad t.lv) dn cur left,XW UW t.lv,Q5 W8 t.md (ZF t.dr),XW YW (Xu L.tr id none),Q8 b [ptrV L.sp 0,.map (some L.mp),.map (some L.mt),intV L.cur,.map (some L.ms)],Q5 Xr L.mp (XN L.pres),Q5 QN L.mt (X0 TrD.ad L.tr),Q5 QN L.ms (ZF L.sh),XD L.sp n Fr V,F]∧(∀k x,dn k→t.lv k=some x→VK L V t k x)) (L0:=[(0,_),(4,_),(5,_),(27,_)]) (left0) (HR U U U U) ⟨_,_,_,rfl,rfl,hSR.pick [0,1,2,3,4,5,6,7,8,9,10] U, fun _ _ h=>h.elim⟩ ?_)))
 rintro _ _ w3 ⟨dn,cur,left,rfl,rfl,j3,hok⟩
 refine Qd (Qa (Wp 1 j3 keysKey.inj U U U (fun hdone=> ?_) (fun k v left2 wN hleft hgk hnd hSN=> ?_)))
 ·refine Qn U U U (Qf (Qc (Qd (QR U (QU (Qq (Qq (Qx (Qc (Qd (Qa (Qe U U (Qf (Qc (Qu (QY (.inr U) U U ?_))))))))))))))))
  have hz:=ZA (j3.pick [1,0,2,3,4,5,6,7,8,9,10] U)
  have j4:=Zw ht (hz.pick [1,0,2,3,4,5,6,7,8,9,10] U)
  exact⟨_,rfl,true,rfl,⟨fun _ k x hx=>hok k x (hdone _ _ (show X0 LfD.ad t.lv k=some (ptrV x.ad 0) by unfold X0; rw[hx];rfl)) hx, fun _=>rfl⟩,QX (j4.pick [1,2,3,0,4,5,6] U)⟩
 dsimp only[List.set]at hSN
 obtain⟨x,hx,rfl⟩:=YR hgk
 refine Qn U U U (Qf (Qc (Qd (Xd U (Qs (Qc (Qw (Qd (Qa (ZP 1 hSN U hgk U U (Qn U U U (Qn U U U (Xa hSN Zy U U ?_)))))))))))))
 intro kb wk5 hk5
 clear hSN
 refine QG hk5 U U Xf U (by rfl) (i:=0) U (by decide) ?_
 intro wk6 hk6; dsimp only[List.set]at hk6
 clear hk5
 replace hk6:=X6 (k:=k) hk6
 refine Qe U U (Qf (Qc (Qh [27,5,4,0,6,7] U (Qd ?_))))
 have j7:=JC (hk6.pick [3,0,1,2,4,5,6,7,8,9,10,11] U) hx
 have j8:=j7.drew
 refine QE [0,1,2,3,4,5,6,7] [6] Wa (by kernel_rfl) ?_
 refine Q9 U U U (Q9 U U U (Xi U U U (QQ U U U Jl (Q4 U U U (Ql U QL (j8.cell 3 U U)) (Q4 U U U (XB U X9 Xf (j8.blk 2 U) (Xv U) U) (Xe U U U U U U ?_))))))
 refine Qv YN U (CL (i0:=id) (j8.sp [7,8,9,6,10] U) (hI.rank.ends hm) hAv t.parent (hA0 t ht) k) U ?_
 rintro _ w9 ⟨rfl,j9⟩
 replace j9:=j9.jn U U
 refine Xz (Xj (by kernel_rfl)) ?_
 refine XK U U U (VC.nil (Qc (Qh [27,5,4,0,7,8] U (Qd (Qd (Qa (Qb U U (Qj U U (Qg U JR U (Qr U J6 (j9.cell 5 U U) U (Xq U U U (Qb U U (Xc 45 U (fun h10=> ?_) (fun h10=> ?_))))))))))))))
 ·have hrd0:x.rd=0#64:=BitVec.eq_of_toNat_eq (by simpa using h10)
  refine Qi U U (Xm h10) U (Qi U U (Xm h10) U (Qi U U (Xm h10) U (Qi U U (Xm h10) U (Qi U U (Xm h10) U (Qi U U (Xm h10) U (QK U (Xm h10) U U (Qf (Qc (Qh [27,5,4,0,7,8,52] U (Xd U (QU (Qq (Qx ?_)))))))))))))
  have hvk:VK L V t k x:= fun j hj h=>(by first | (rw[hrd0]at h; simp at h) | rw[hnb])
  have j11:=Wc hx (j9.pick [5,6,0,1,2,3,4,7,8,9,10,11,12] U)
  exact Q3 (L1:=[(0,_),(4,_),(5,_),(27,_)]) (HR U U U U) (k1:=left2) (by omega) ⟨_,_,_,rfl,rfl,j11.pick [7,8,0,9,4,1,2,3,5,10,11] U, fun q y hq hy=>hq.elim (fun h=>hok q y h hy) (fun h=> by subst h; rw[hx]at hy; cases hy; exact hvk)⟩
 refine Qo U U (Q7 h10) (Qb U U (Qo U U (Q7 h10) (Qb U U (Qo U U (Q7 h10) (Qj U U (Qo U U (Q7 h10) (Qg U UN U (Qo U U (Q7 h10) (Qr U QL (j9.cell 5 U U) U (Qo U U (Q7 h10) (Xq U U U (QW U (Q7 h10) U U (Qf (Qc (Qh [27,5,4,0,7,8,52] U (Qt U (fun h12=> ?_) (fun h12=> ?_)))))))))))))))))
 ·have hnb:Xo L t.parent k=x.base:=h12
  refine QU (Qq (Qx ?_))
  have hvk:VK L V t k x:= fun j hj h=>(by first | (rw[hrd0]at h; simp at h) | rw[hnb])
  have j13:=Wc hx (j9.pick [5,6,0,1,2,3,4,7,8,9,10,11,12] U)
  exact Q3 (L1:=[(0,_),(4,_),(5,_),(27,_)]) (HR U U U U) (k1:=left2) (by omega) ⟨_,_,_,rfl,rfl,j13.pick [7,8,0,9,4,1,2,3,5,10,11] U, fun q y hq hy=>hq.elim (fun h=>hok q y h hy) (fun h=> by subst h; rw[hx]at hy; cases hy; exact hvk)⟩
 refine Qs (Qc (Qd ?_))
 have j14:=j9.drew
 refine QE [0,1,2,3,4,5,6,7,9,10,11,12,13,8,14,15,16] [8,14] Wa (by kernel_rfl) ?_
 refine Q9 U U U (Xi U U U (QQ U U U XJ (Q4 U U U (Ql U Xy (j14.cell 0 U U)) (Q9 U U U (Xi U U U (QQ U U U UN (Q4 U U U (Ql U QL (j14.cell 5 U U)) (Q9 U U U (Xi U U U (QQ U U U XJ (Q4 U U U (Ql U Xy (j14.cell 0 U U)) (Q9 U U U (Xe U U U U U U ?_)))))))))))))
 refine Qv W5 U (WX (j14.sp [11] U) (x.base)) U ?_
 rintro _ w15 ⟨rfl,j15⟩
 replace j15:=j15.jn U U
 refine Xz (.cons (.inl ⟨rfl,(Ql U Xy (j15.cell 1 U U))⟩) (Xj (by kernel_rfl))) ?_
 refine Xe U U U U U U ?_
 refine Qv W5 U (WX (j15.sp [0] U) (Xo L t.parent k)) U ?_
 rintro _ w16 ⟨rfl,j16⟩
 replace j16:=j16.jn U U
 refine Xz (Xj (by kernel_rfl)) ?_
 refine XK U U U (XK U U U (VC.nil (Qc (Qh [27,5,4,0,7,9,10] U (Qd ?_)))))
 have hlb:=hI.len (s:=x.base) (by have :=hI.alive (.inr (id,k,false));rwa [Xt ht hx]at this)
 have hln:=hI.len (hI.aliveS t.parent k)
 refine Qa (Qb U U (Qj U U (Qg U JR U (Qr U J6 (j16.cell 6 U U) U (Qe U U (Qf (Qc (Qh [27,5,4,0,9,10,11] U (Qw ?_)))))))))
 refine Xg (fun K0 E0 W0=> ∃(st:BitVec 64),K0=st.toNat∧E0=[(0,ptrV b 0),(4,.bool false),(5,ptrV t.ad 0),(27,ptrV RR 0),(9,strV (XH V x.base)),(10,strV (XH V (Xo L t.parent k))),(11,Z5 st)]∧Sat W0 [Q8 x.ad [intV x.base,intV x.own,Z5 x.rd,Z5 x.wr],XW UW (Xu t.lv k none),Q8 kb [strV k.1,intV k.2],Q8 t.ad [intV t.parent,.map (some t.ml),.map (some t.md)],ZS Xr t.ml RR (X0 LfD.ad t.lv) (fun j=>dn j∨j=k) (some k) left2,Q5 W8 t.md (ZF t.dr),XW YW (Xu L.tr id none),Q8 b [ptrV L.sp 0,.map (some L.mp),.map (some L.mt),intV L.cur,.map (some L.ms)],Q5 Xr L.mp (XN L.pres),Q5 QN L.mt (X0 TrD.ad L.tr),Q5 QN L.ms (ZF L.sh),XD L.sp n Fr V,F]∧(∀j,j<64→st.getLsbD j=true→x.rd.getLsbD j=true)∧(∀j,j<64→x.rd.getLsbD j=true→st.getLsbD j=true∨(XH V x.base)[j]? =(XH V (Xo L t.parent k))[j]?)) (L0:=[(0,_),(4,_),(5,_),(27,_),(9,_),(10,_),(11,_)]) (x.rd.toNat) (Pf U U U U U U U) ⟨x.rd,rfl,rfl,j16.pick [6,7,8,9,10,11,4,1,2,3,5,0,12] U, fun _ _ h=>h, fun _ _ h=> .inl h⟩ ?_
 rintro _ _ w17 ⟨st,rfl,rfl,j17,hsub,hin⟩
 refine Qd (Qd (Qa (Qb U U (XC U U U (Qf (Qc (Qt U (fun h18=> ?_) (fun h18=> ?_))))))))
 ·have hne:st≠0#64:= fun q=> by subst q; exact absurd h18 (by decide)
  refine Qs (Qc (Qd (Qw (Qd (Qa (Qb U U (Qv cal_56 U (tz_sp st _ (hG.sat j17 12 U)) U ?_)))))))
  rintro _ _ ⟨rfl,rfl⟩
  have hcz:=NE st hne
  have hci:=hcz.1
  obtain⟨ca,hca⟩: ∃ca,(XH V x.base)[Lib.ctz 64 st.toNat]? =some ca:=⟨_,Zq (by rw[hlb];omega)⟩
  obtain⟨cb,hcb⟩: ∃cb,(XH V (Xo L t.parent k))[Lib.ctz 64 st.toNat]? =some cb:=⟨_,Zq (by rw[hln];omega)⟩
  refine Qe U U (Qf (Qc (Qh [11,10,9,27,5,4,0,12] U (Qd ?_))))
  have j19:=j17.drew
  refine QE [0,1,2,3,4,5,6] [] Wa (by kernel_rfl) ?_
  refine Q9 U U U (Q9 U U U (Q4 U U U (U0 _ underlying9 U U (by rfl) (by assumption)) ?_))
  refine Q9 U U U (Q9 U U U (Q4 U U U (U0 _ underlying9 U U (by rfl) (by assumption)) ?_))
  refine QZ U U U (fun _=>(Vx U U)) ?_
  refine VC.nil (Qc (Qh [11,10,9,27,5,4,0,86] U (Qt U (fun h20=> ?_) (fun h20=> ?_))))
  ·have hnq:ca≠cb:= fun q=> by subst q; exact h20 U
   refine Qd (Qa (Qe U U (Qf (Qc (Qu (Qz (Qp (Qp (Qz (Qz (Qp (Qz (Qp (QY (.inr U) U U ?_))))))))))))))
   have hbad: ¬VK L V t k x:= fun q=> by have h1:=q _ hci (hsub _ hci ((hcz.2 0 (by omega)).2)); rw[hca,hcb]at h1; simp at h1; subst h1; exact hnq U
   have j21:=Wc hx (j19.pick [0,1,2,3,4,5,6,7,8,9,10,11,12] U)
   have hz:=ZA (j21.pick [3,2,0,4,5,6,7,8,9,10,11] U)
   have j22:=Zw ht (hz.pick [1,0,2,3,4,5,6,7,8,9,10] U)
   exact⟨_,rfl,false,rfl,⟨(fun q=> by cases q), fun q=>absurd (q k x hx) hbad⟩,QX (j22.pick [1,2,3,0,4,5,6] U)⟩
  have heq:(XH V x.base)[Lib.ctz 64 st.toNat]? =(XH V (Xo L t.parent k))[Lib.ctz 64 st.toNat]? := by rw[hca,hcb];congr 1; have h0:=Decidable.not_not.1 h20; exact UInt8.toNat_inj.1 (by omega)
  refine Qs (Qk (Qc (Qa (Qb U U (Qb U U (EP (b:=1#64) U U U (BT U U U (Qe U U (Qf ?_)))))))))
  have hbn:=EA (s2:=st) hne hsub hin heq
  exact Q3 (L1:=[(0,_),(4,_),(5,_),(27,_),(9,_),(10,_),(11,Z5 (st&&&(st -1#64)))]) (Pf U U U U U U U) (k1:=(st&&&(st -1#64)).toNat) hbn.2.2 ⟨_,U,U,j19.pick [0,1,2,3,4,5,6,7,8,9,10,11,12] U,hbn.1,hbn.2.1⟩
 have hz0:st=0#64:=BitVec.eq_of_toNat_eq (by have :=Decidable.not_not.1 h18;simpa using this)
 refine QU (Qq (Qq (Qx (Qk ?_))))
 have hvk:VK L V t k x:= fun j hj h=>(hin j hj h).resolve_left (by rw[hz0]; simp)
 have j23:=Wc hx (j17.pick [0,1,2,3,4,5,6,7,8,9,10,11,12] U)
 exact Q3 (L1:=[(0,_),(4,_),(5,_),(27,_)]) (HR U U U U) (k1:=left2) (by omega) ⟨_,_,_,rfl,rfl,j23.pick [2,3,0,4,5,6,7,8,9,10,11] U, fun q y hq hy=>hq.elim (fun h=>hok q y h hy) (fun h=> by subst h; rw[hx]at hy; cases hy; exact hvk)⟩
def Pgs (V V':VS):Prop:= ∀j,X5 V' j→X5 V j∧XH V' j=XH V j
theorem Pp {V:VS} {s j:Int} (h:X5 (Zj V s) j):X5 V j:= by
  rcases h with h | h
  · exact .inl h
  · exact .inr (M4 h)
theorem Pgs.refl {V:VS}:Pgs V V:= fun _ h=>⟨h,rfl⟩
theorem Pgs.trans {V V1 V2:VS} (h:Pgs V V1) (h':Pgs V1 V2):Pgs V V2:= fun j q=>⟨(h j (h' j q).1).1,(h' j q).2.trans (h j (h' j q).1).2⟩
theorem Pgs.ref {V:VS} {s:Int}:Pgs V (refW V s):= fun j q=>⟨q.imp_right JB.1,Yg⟩
theorem Pgs.unr {V:VS} {s:Int} (h0:V 0=none):Pgs V (Zj V s):= fun j q=>⟨Pp q,G9 h0 q⟩
section
variable {ex:Int→Int} {L L1 L':LvD} {V V1 V':VS} {id:Int} {t t1 t':TrD} {k:KD} {x y x1:LfD} {m Fr:Nat} {s a:Int}
theorem P9 (hx:NN ex) (hs:s≠0→1≤ex s):NN (fun j=>ex j -dl s j):= fun j hj=> by
  show 0≤ex j -dl s j
  have :=hx j hj
  by_cases e:j=s
  · subst e; have :=hs hj; rw[W7];omega
  · rw[J4 e];omega
theorem setX (hI:LvX ex m L V) (hx:NN ex) (hs:s≠0→1≤ex s) (hp:L'.pres=Z6 L.pres k s) (hT:L'.tr=L.tr):
    LvX (fun j=>ex j -dl s j) m L' (Zj V (L.pres k))∧Q1 L' (Zj V (L.pres k))={Q1 L V with pres:=UV (Q1 L V).pres k (XH V s)}:= by
  have hf:=GF hp hT
  have hh:QP L (.inl k)=L.pres k:=rfl
  have a1:=(((hI.ref.put (.inl k) s).fn hf).unr (hI.aliveX hx (.inl k)))
  rw[hh]at a1
  have a2:RefI (QP L') (Zj V (L.pres k)) (fun j=>ex j -dl s j):=a1.ext fun j hj=> by omega
  have nn:NN (fun j=>ex j -dl s j):=P9 hx hs
  have hc: ∀p,XH (Zj V (L.pres k)) (QP L' p)=XH V (QP L' p):= fun p=>G9 hI.zero (a2.aliveN U (nn _))
  have e1:Q1 L' (Zj V (L.pres k))={Q1 L V with pres:=UV (Q1 L V).pres k (XH V s)}:= by
    rw[Kn (V:=V) (V':=Zj V (L.pres k)) hp hT fun p hp=> by have :=hc p;rwa [hf,XQ hp]at this]
    have :=hc (.inl k)
    rw[hf,XF]at this
    rw[this]
  exact⟨⟨a2, by rw[hT]; exact hI.rank, by rw[e1]; exact hI.agree⟩,e1⟩
theorem ownX (hI:LvX ex m L V) (hx:NN ex) (hs:s≠0→1≤ex s) (ht:L.tr id=some t) (hl:t.lv k=some x) (hp:L'.pres=L.pres) (hT:L'.tr=Xu L.tr id (some {t with lv:=Xu t.lv k (some y)})) (hb:y.base=x.base) (ho:y.own=s)
    (hg:Pe {Wu V x with own:=XH V s,rd:=y.rd,wr:=y.wr}):
    LvX (fun j=>ex j -dl s j) m L' (Zj V x.own)∧Q1 L' (Zj V x.own)=ZJ (Q1 L V) id k {Wu V x with own:=XH V s,rd:=y.rd,wr:=y.wr}:= by
  have hf: ∀q,QP L' q=UV (QP L) (.inr (id,k,true)) s q:= fun q=> by
    rw[YK (x:=y) hp hT ht U,hb,ho,Yw (f:=QP L) (v:=x.base) (by rw[Xt ht hl];rfl)]
  have hh:QP L (.inr (id,k,true))=x.own:= by rw[Xt ht hl];rfl
  have a1:=(((hI.ref.put (.inr (id,k,true)) s).fn hf).unr (hI.aliveX hx (.inr (id,k,true))))
  rw[hh]at a1
  have a2:RefI (QP L') (Zj V x.own) (fun j=>ex j -dl s j):=a1.ext fun j hj=> by omega
  have nn:NN (fun j=>ex j -dl s j):=P9 hx hs
  have hc: ∀p,XH (Zj V x.own) (QP L' p)=XH V (QP L' p):= fun p=>G9 hI.zero (a2.aliveN U (nn _))
  have e1:Q1 L' (Zj V x.own)=ZJ (Q1 L V) id k {Wu V x with own:=XH V s,rd:=y.rd,wr:=y.wr}:= by
    rw[Yl (V:=V) (V':=Zj V x.own) (x:=y) hp hT ht U fun p h1 h2=> by have :=hc p;rwa [hf,XQ h2]at this]
    congr 1
    have h1:=hc (.inr (id,k,true))
    have h2:=hc (.inr (id,k,false))
    rw[hf,XF]at h1
    rw[hf,XQ (by simp),Xt ht hl]at h2
    simp at h2
    simp [Wu,hb,ho,h1,h2]
  exact⟨⟨a2, by rw[hT]; exact hI.rank.same (WO ht U), by rw[e1]; exact hI.agree.put hg⟩,e1⟩
theorem LvX.refW (hI:LvX ex m L V) (ha:X5 V s):LvX (fun j=>ex j+dl s j) m L (refW V s)∧Q1 L (refW V s)=Q1 L V:= by
  have e:Q1 L (Go.Proofs.YtkcjfoaejijdoaaGreatDoor.refW V s)=Q1 L V:=UU fun p=>Yg
  exact⟨⟨hI.ref.ref ha,hI.rank, by rw[e]; exact hI.agree⟩,e⟩
theorem LvX.unr (hI:LvX ex m L V) (hx:NN ex) (hs:s≠0→1≤ex s):LvX (fun j=>ex j -dl s j) m L (Zj V s)∧Q1 L (Zj V s)=Q1 L V:= by
  have ha:X5 V s:= by
    by_cases h0:s=0
    · exact .inl h0
    · obtain⟨n,a,b⟩:=hI.ref.1 s h0
      have :=hs h0
      exact .inr (hI.ref.alive_of (by omega))
  have nn:NN (fun j=>ex j -dl s j):=P9 hx hs
  have a2:=hI.ref.unr ha
  have e:Q1 L (Zj V s)=Q1 L V:=UU fun p=>G9 hI.zero (a2.aliveN U (nn _))
  exact⟨⟨a2,hI.rank, by rw[e]; exact hI.agree⟩,e⟩
theorem LvX.ext {ex':Int→Int} (hI:LvX ex m L V) (h: ∀j,j≠0→ex' j=ex j):LvX ex' m L V:=⟨hI.ref.ext h,hI.rank,hI.agree⟩
theorem LvX.same (hI:LvX ex m L V) (hp:L'.pres=L.pres) (hT:L'.tr=L.tr):LvX ex m L' V∧Q1 L' V=Q1 L V:= by
  have e:Q1 L' V=Q1 L V:= by unfold Q1; rw[hp,hT]
  have hf:QP L'=QP L:= by funext p; cases p<;> simp [QP,hp,hT]
  exact⟨⟨by rw[hf]; exact hI.ref, by rw[hT]; exact hI.rank, by rw[e]; exact hI.agree⟩,e⟩
end
structure StepX (ex:Int→Int) (m:Nat) (L:LvD) (V:VS) (ex':Int→Int) (m' d e:Nat) (L':LvD) (V':VS):Prop where
  inv:LvX ex' m' L' V'
  sp:L'.sp=L.sp
  al: ∀c,AliveLe V c→AliveLe V' (c+d)
  sz: ∀c,SzLe L c→SzLe L' (c+e)
  pg:Pgs V V'
theorem StepX.refl {ex:Int→Int} {m d e:Nat} {L:LvD} {V:VS} (h:LvX ex m L V):StepX ex m L V ex m d e L V:=⟨h,rfl, fun _ q=>q.mono (by omega), fun _ q=>q.mono (by omega),.refl⟩
theorem StepX.trans {ex ex1 ex2:Int→Int} {m m1 m2:Nat} {L L1 L2:LvD} {V V1 V2:VS} {d d1 e e1:Nat} (h:StepX ex m L V ex1 m1 d e L1 V1) (h':StepX ex1 m1 L1 V1 ex2 m2 d1 e1 L2 V2):StepX ex m L V ex2 m2 (d+d1) (e+e1) L2 V2:=
  ⟨h'.inv,h'.sp.trans h.sp, fun c q=>(h'.al _ (h.al c q)).mono (by omega), fun c q=>(h'.sz _ (h.sz c q)).mono (by omega),h.pg.trans h'.pg⟩
theorem StepX.up {ex ex1:Int→Int} {m m1:Nat} {L L1:LvD} {V V1:VS} {d d1 e e1:Nat} (h:StepX ex m L V ex1 m1 d e L1 V1) (h1:d≤d1) (h2:e≤e1):StepX ex m L V ex1 m1 d1 e1 L1 V1:=
  ⟨h.inv,h.sp, fun c q=>(h.al c q).mono (by omega), fun c q=>(h.sz c q).mono (by omega),h.pg⟩
theorem StepX.plain {m m1:Nat} {L L1:LvD} {V V1:VS} {d e:Nat} (h:StepX (fun _=>0) m L V (fun _=>0) m1 d e L1 V1):StepI m L V m1 d e L1 V1:=⟨h.inv,h.sp,h.al,h.sz⟩
def Cv (L:LvD) (j:Int) (q:KD):Prop:=(j=0∧L.pres q≠0)∨ ∃t x,L.tr j=some t∧t.lv q=some x
def OthK (L L':LvD) (p:Int) (P:KD→Prop):Prop:=(∀i,i≠p→L'.tr i=L.tr i)∧ ∀j q,Cv L' j q→Cv L j q∨(j=p∧P q)
theorem OthK.refl {L:LvD} {p:Int} {P:KD→Prop}:OthK L L p P:=⟨fun _ _=>rfl, fun _ _ h=> .inl h⟩
theorem OthK.trans {L L1 L2:LvD} {p:Int} {P Q R:KD→Prop} (h:OthK L L1 p P) (h':OthK L1 L2 p Q) (hP: ∀q,P q→R q) (hQ: ∀q,Q q→R q):OthK L L2 p R:=
  ⟨fun i hi=>(h'.1 i hi).trans (h.1 i hi), fun j q hk=> by
    rcases h'.2 j q hk with a | ⟨a,b⟩
    · rcases h.2 j q a with c | ⟨c,d⟩
      · exact .inl c
      · exact .inr ⟨c,hP q d⟩
    · exact .inr ⟨a,hQ q b⟩⟩
theorem SzLe.keys {L:LvD} {c:Nat} (h:SzLe L c): ∃l:List (Int×KD),l.length≤c∧ ∀j q,Cv L j q→(j,q)∈l:= by
  obtain⟨l,a,b,d⟩:=h
  refine⟨l,a, fun j q hk=> ?_⟩
  rcases hk with⟨rfl,e⟩ | ⟨t,x,e,f⟩
  · exact b q e
  · exact d j t q x e f
theorem SzLe.of_keys {L:LvD} {c:Nat} {l:List (Int×KD)} (h:l.length≤c) (hk: ∀j q,Cv L j q→(j,q)∈l):SzLe L c:=⟨l,h, fun k e=>hk 0 k (.inl ⟨rfl,e⟩), fun i t k x e f=>hk i k (.inr ⟨t,x,e,f⟩)⟩
theorem OthK.sz2 {L L':LvD} {p id:Int} {P:KD→Prop} {c:Nat} (h:OthK L L' p P) (hP: ∀q,P q→Cv L id q) (hc:SzLe L c):SzLe L' (2*c):= by
  obtain⟨l,a,b⟩:=hc.keys
  refine SzLe.of_keys (l:=l++l.map fun e=>(p,e.2)) (by simp;omega) fun j q hk=> ?_
  rcases h.2 j q hk with e | ⟨rfl,e⟩
  · exact List.mem_append_left _ (b j q e)
  · exact List.mem_append_right _ (List.mem_map.2 ⟨(id,q),b id q (hP q e),U⟩)
theorem OthK.szRem {L L1 L':LvD} {p id:Int} {P:KD→Prop} {c:Nat} (h:OthK L L1 p P) (hP: ∀q,P q→Cv L id q) (h0:id≠0) (hr:L'.pres=L1.pres) (ht:L'.tr=Xu L1.tr id none) (hc:SzLe L c):SzLe L' c:= by
  obtain⟨l,a,b⟩:=hc.keys
  refine SzLe.of_keys (l:=l.map fun e=> if e.1=id then(p,e.2)else e) (by simpa using a) fun j q hk=> ?_
  have hj:j≠id∧Cv L1 j q:= by
    rcases hk with⟨rfl,e⟩ | ⟨t,x,e,f⟩
    · exact⟨fun a=>h0 a.symm,.inl ⟨rfl, by rwa [hr]at e⟩⟩
    · rw[ht]at e
      by_cases g:j=id
      · subst g; rw[Qy]at e; cases e
      · rw[QF g]at e; exact⟨g,.inr ⟨t,x,e,f⟩⟩
  rcases h.2 j q hj.2 with e | ⟨rfl,e⟩
  · exact List.mem_map.2 ⟨(j,q),b j q e, by rw[if_neg hj.1]⟩
  · exact List.mem_map.2 ⟨(id,q),b id q (hP q e), by rw[if_pos U]⟩
theorem TouR.oth {L L1:LvD} {V V1:VS} {id i:Int} {t t1:TrD} {k:KD} {x1:LfD} (hT:TouR L V id t k L1 V1 t1 x1) (hi:i≠id):L1.tr i=L.tr i:= by
  rcases hT with⟨_,rfl,_,_⟩ | ⟨_,a,_,_,rfl,_⟩
  · rfl
  · exact QF hi
theorem TouR.othK {L L1 L':LvD} {V V1:VS} {id:Int} {t t1:TrD} {k:KD} {x1 y:LfD} (hT:TouR L V id t k L1 V1 t1 x1) (ht:L.tr id=some t) (hp:L'.pres=L1.pres) (hT':L'.tr=Xu L1.tr id (some {t1 with lv:=Xu t1.lv k (some y)})):OthK L L' id (fun q=>q=k):= by
  refine⟨fun i hi=> by rw[hT',QF hi,hT.oth hi], fun j q hk=> ?_⟩
  have hpr:L1.pres=L.pres:= by
    rcases hT with⟨_,rfl,_,_⟩ | ⟨_,a,_,_,rfl,_⟩
    · rfl
    · rfl
  have hlv: ∀q,q≠k→t1.lv q=t.lv q:= fun q hq=> by
    rcases hT with⟨_,_,_,rfl⟩ | ⟨_,a,_,rfl,_,_⟩
    · rfl
    · exact QF hq
  by_cases e:j=id
  · subst e
    by_cases e2:q=k
    · exact .inr ⟨U,e2⟩
    · left
      rcases hk with⟨e3,e4⟩ | ⟨u,x,e3,e4⟩
      · exact .inl ⟨e3, by rwa [hp,hpr]at e4⟩
      · rw[hT',Qy]at e3
        cases e3
        dsimp only at e4
        rw[QF e2,hlv q e2]at e4
        exact .inr ⟨t,x,ht,e4⟩
  · left
    rcases hk with⟨e3,e4⟩ | ⟨u,x,e3,e4⟩
    · exact .inl ⟨e3, by rwa [hp,hpr]at e4⟩
    · rw[hT',QF e,hT.oth e]at e3
      exact .inr ⟨u,x,e3,e4⟩
theorem AA {L:LvD} {k:KD} {s:Int} {f:Int→Bool}:OthK L {L with pres:=Z6 L.pres k s,sh:=f} 0 (fun q=>q=k):= by
  refine⟨fun _ _=>rfl, fun j q hk=> ?_⟩
  rcases hk with⟨e,h⟩ | h
  · by_cases e2:q=k
    · exact .inr ⟨e,e2⟩
    · simp only[Z6,if_neg e2]at h
      exact .inl (.inl ⟨e,h⟩)
  · exact .inl (.inr h)
theorem PO {L L':LvD} {p:Int} {P:KD→Prop} (hp: ∀q,L'.pres q≠0→L.pres q≠0) (hT:L'.tr=L.tr):OthK L L' p P:=
  ⟨fun i _=> by rw[hT], fun j q hk=> .inl (hk.imp (fun a=>⟨a.1,hp q a.2⟩) (fun ⟨t,x,a,b⟩=>⟨t,x, by rwa [hT]at a,b⟩))⟩
theorem PN {L L':LvD} {id:Int} {t t':TrD} {P:KD→Prop} (ht:L.tr id=some t) (hp:L'.pres=L.pres) (hT:L'.tr=Xu L.tr id (some t')) (hg: ∀k x,t'.lv k=some x→t.lv k≠none):OthK L L' id P:= by
  refine⟨fun i hi=> by rw[hT,QF hi], fun j q hk=> .inl ?_⟩
  rcases hk with⟨e,h⟩ | ⟨u,x,e,h⟩
  · exact .inl ⟨e, by rwa [hp]at h⟩
  · rw[hT]at e
    by_cases e2:j=id
    · subst e2
      rw[Qy]at e
      cases e
      cases q2:t.lv q with
      | none=> exact absurd q2 (hg q x h)
      | some y=> exact .inr ⟨t,y,ht,q2⟩
    · rw[QF e2]at e; exact .inr ⟨u,x,e,h⟩
