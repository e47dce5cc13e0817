/- leaves: merged -/
import Derived.Test.YtkcjfoaejijdoaaGreatDoorLv17
import Derived.Shelf.Spec.TrailingZeros
set_option linter.unusedVariables false
set_option maxRecDepth 100000
set_option maxHeartbeats 3200000
namespace Go.Proofs.YtkcjfoaejijdoaaGreatDoor
open Go.RowKit M
set_option linter.unusedSectionVars false
variable [Inhabited SlW]
theorem MdI.came {m:Nat} {L:LvD} {V V1:VS} {t:TrD} {ex:Int→Int} {made:KD→Option Int} {l:List KD} (h:MdI m L V V1 t ex made l) {ks:List KD} (hc:Came (Gy made) ks):ks.length≤l.length:=
  W7 hc.nodup fun k hk=>((h.dom k).1 fun q=>hc.has k hk (by unfold Gy; rw[q];rfl)).1
theorem RA {t:TrD} {l:List KD} {i:Nat} (hi:i<l.length):Yr t (l.take i)≤Yr t l:= by
  unfold Yr
  have h:=List.filter_append (p:= fun k=>decide (∃x,t.lv k=some x∧x.wr≠0#64∧x.wr≠BitVec.allOnes 64)) (l.take i) (l.drop i)
  rw[List.take_append_drop]at h
  rw[h,List.length_append];omega
theorem all64 {w:BitVec 64} (h:(w.toNat:Int)=18446744073709551615):w=BitVec.allOnes 64:=BitVec.eq_of_toNat_eq (by simp;omega)
theorem zerW {w:BitVec 64} (h:(w.toNat:Int)=0):w=0#64:=BitVec.eq_of_toNat_eq (by simp;omega)
theorem bit1 {w:BitVec 64} {q:Nat} (hq:q<64):(((w>>>q)&&&1#64).toNat:Int)=1↔w.getLsbD q=true:= by
  have e:(1#64).toNat=1:=rfl
  rw[BitVec.toNat_and,BitVec.toNat_ushiftRight,←BitVec.testBit_toNat,e,Nat.and_one_is_mod,Nat.shiftRight_eq_div_pow,Nat.testBit_eq_decide_div_mod_eq,decide_eq_true_eq]
  generalize w.toNat/ 2^q=z
  omega
theorem EJ {w:World} {m:Nat} {b n Fr:Nat} {L:LvD} {V:VS} {F:Th} {ar:Option Addr} {cr:Nat} {order:List KD} (hS:Sat w [ZY b L,Zq L.sp n Fr V,rowT kC (.slice ar order.length cr) order,F]) {c:Nat} (hn:n+2*c≤60000000000) (hI:LvI m L V) (hm:m<Zp) {id:Int} {t:TrD} (ht:L.tr id=some t) (hord: ∀k,k∈order↔t.lv k≠none) (hnd:order.Nodup) (hoc:order.length≤c):
    Calls Tryz.prog 50 #[ptrV b 0,ptrV t.ad 0,.slice ar order.length cr] w (Ret fun v w'=> ∃V',(∃mm made ex,v= .tuple #[.map (some mm),intV 0]∧MdI m L V V' t ex made order∧Sat w' [ZY b L,Zq L.sp (n+2*c) Fr V',rowT kC (.slice ar order.length cr) order,Q3 Xy mm (Gy made),F])∨(v= .tuple #[.map none,intV 6]∧LvI m L V'∧Q8 L V'=Q8 L V∧(∀c,AliveLe V c→Fr≤c+Yr t order)∧(∀c,AliveLe V c→AliveLe V' (c+Yr t order))∧Sat w' [ZY b L,Zq L.sp (n+2*c) Fr V',rowT kC (.slice ar order.length cr) order,F])):= by
 have h0:id≠0:=hI.rank.none0 ht
 obtain⟨Av,hA0,hAv⟩:=hI.rank.av id
 have hcm0:True:=trivial
 replace hS:=XX hS
 replace hS:=ZE (hS.pick [3,0,1,2,4,5,6,7] rfl) ht
 refine Qq Tryz.func50 rfl Tryz.ntmps50 rfl ?_
 refine Qd (Qa (Qe rfl rfl (Qe rfl rfl (Qf (Qc (Qd (Qa (Za Xy hS rfl ?_))))))))
 intro mm w1 hS1
 rw[←OZ]at hS1
 refine Qe rfl rfl (Qf (Qc (Qd (Qd (Qa (Qb rfl rfl ?_))))))
 first | refine X5 Tryz.underlying98 rfl rfl ?_ | refine JB 11 hS1 Tryz.underlying98 rfl rfl rfl ?_
 refine Qb rfl rfl (Qf (Qc (Qw ?_)))
 refine Xe (fun K0 E0 W0=> ∃(i:Nat) (V1:VS) (ex:Int→Int) (made:KD→Option Int),K0=order.length -i∧E0=[(0,ptrV b 0),(1,ptrV t.ad 0),(8,.map (some mm)),(21,.slice ar order.length cr),(22,intV (order.length:Int)),(23,intV (i:Int))]∧Sat W0 [QF t.ad [intV t.parent,.map (some t.ml),.map (some t.md)],Q3 Xy t.ml (Zj LfD.ad t.lv),Z0 RK t.lv,Q3 Xp t.md (Jg t.dr),Z0 K7 (Xz L.tr id none),QF b [ptrV L.sp 0,.map (some L.mp),.map (some L.mt),intV L.cur,.map (some L.ms)],Q3 Xy L.mp (Zt L.pres),Q3 Xf L.mt (Zj TrD.ad L.tr),Q3 Xf L.ms (Jg L.sh),Zq L.sp (n+i) Fr V1,rowT kC (.slice ar order.length cr) order,Q3 Xy mm (Gy made),F]∧(i≤order.length)∧(MdI m L V V1 t ex made (order.take i))) (L0:=[(0,_),(1,_),(8,_),(21,_),(22,_),(23,_)]) (order.length) (U9 rfl rfl rfl rfl rfl rfl) ⟨0,V,_,_, by omega,rfl,hS1.pick [1,2,3,4,5,6,7,8,9,10,11,0,12] rfl, by omega,MdI.start hI⟩ ?_
 rintro _ _ w2 ⟨i,V1,ex,made,rfl,rfl,hS2,hi,hmd⟩
 refine Qd (Qa (Xb rfl rfl rfl (Qf (Qc (Qd (Qs rfl (fun h3=> ?_) (fun h3=> ?_)))))))
 ·have hilt:i<order.length:= by omega
  obtain⟨k,hk⟩: ∃k,order[i]? =some k:=⟨_,Zd (by omega)⟩
  obtain⟨x,hl⟩: ∃x,t.lv k=some x:=Option.ne_none_iff_exists'.1 ((hord k).1 (List.mem_of_getElem? hk))
  refine Qr (Qc (Qd (Qw (Qd (Qa (Xu kC 10 i hS2 rfl rfl rfl (by first | rfl | omega) hk B2 rfl ?_))))))
  intro bx4 capx4 hvx4
  refine Wk 10 i hS2 rfl hvx4 rfl hk X9 Xh rfl rfl (Xg hS2 ZM rfl rfl ?_)
  intro kb wk5 hk5
  clear hS2
  refine QY hk5 rfl rfl Xh rfl (by rfl) (i:=0) rfl (by decide) ?_
  intro wk6 hk6; dsimp only[List.set]at hk6
  clear hk5
  replace hk6:=XM (k:=k) hk6
  refine Qf (Qc (Qd ?_))
  have hS7:=hk6.drew
  refine QJ [0,1,2,3,4,5,6,7,8,9,10,11,12,13,14] [12] Wp (by kernel_rfl) ?_
  refine QE rfl rfl rfl (Xl rfl rfl rfl (QT rfl rfl rfl Wd (Q9 rfl rfl rfl (Qm rfl JH (hS7.cell 1 rfl rfl)) (Q9 rfl rfl rfl (XE rfl X9 Xh (hS7.blk 0 rfl) (Xn rfl) rfl) (Q9 rfl rfl rfl (Xx (k:=k) 2 hS7 keysKey Tryz.underlying90 rfl rfl rfl HI (u:=ptrV x.ad 0) (Zg hl)) (QE rfl rfl rfl (QE rfl rfl rfl (Xl rfl rfl rfl (QT rfl rfl rfl Yw (Q9 rfl rfl rfl (Qm rfl QO (hS7.cell 1 rfl rfl)) (Q9 rfl rfl rfl (XE rfl X9 Xh (hS7.blk 0 rfl) (Xn rfl) rfl) (Xj rfl rfl rfl rfl rfl rfl ?_))))))))))))
  refine Qv YE rfl (NU (i0:=id) (hS7.sp [6,7,8,5,9] rfl) (hI.rank.ends hm) hAv t.parent (hA0 t ht) k) rfl ?_
  rintro _ w8 ⟨rfl,hS8⟩
  replace hS8:=hS8.jn rfl rfl
  clear hS7
  refine X6 (.skip (by kernel_rfl) (.skip (by kernel_rfl) (.cons (.inl ⟨rfl,(Xx (k:=k) 7 hS8 keysKey Tryz.underlying90 rfl rfl rfl HI (u:=ptrV x.ad 0) (Zg hl))⟩) (.cons (.inl ⟨rfl,(XE rfl X9 Xh (hS8.blk 5 rfl) (Xn rfl) rfl)⟩) (.cons (.inl ⟨rfl,(Qm rfl JH (hS8.cell 6 rfl rfl))⟩) .nil))))) ?_
  refine XN rfl rfl rfl (XN rfl rfl rfl (VC.nil (Qc (Qi [23,22,21,8,1,0,10,11,12] rfl (Qd (Qd ?_))))))
  have hS9:=H9 (hS8.pick [8,0,1,2,3,4,5,6,7,9,10,11,12,13] rfl) hl
  refine Qa (Qb rfl rfl (Qk rfl rfl (Qg rfl W8 rfl (Qo rfl Y0 (hS9.cell 0 rfl rfl) rfl (QX rfl rfl rfl (Qb rfl rfl (QN 45 rfl (fun h10=> ?_) (fun h10=> ?_))))))))
  ·have hnn: ¬KB L t k x:= fun e=>e.1 (zerW h10)
   refine Qh rfl rfl (QW h10) rfl (Qh rfl rfl (QW h10) rfl (Qh rfl rfl (QW h10) rfl (Qh rfl rfl (QW h10) rfl (Qh rfl rfl (QW h10) rfl (QC rfl (QW h10) rfl rfl (Qb rfl rfl (Qh rfl rfl rfl rfl (Qh rfl rfl rfl rfl (Qh rfl rfl rfl rfl (Qh rfl rfl rfl rfl (Qh rfl rfl rfl rfl (Qh rfl rfl rfl rfl (QC rfl rfl rfl rfl (Qf (Qc (Qi [23,22,21,8,1,0,10,11,12,59] rfl (Xr rfl (QS (Qp (Qz (Qc (Qa (QK rfl rfl (by omega) (by omega) rfl ?_)))))))))))))))))))))))
   refine Qb rfl rfl (Qf ?_)
   have hS11:=Wi hl (hS9.pick [0,1,2,3,4,5,6,7,8,9,10,11,12,13,14] rfl)
   exact Q6 (L1:=[(0,_),(1,_),(8,_),(21,_),(22,_),(23,intV ((i+1:Nat):Int))]) (U9 rfl rfl rfl rfl rfl rfl) (k1:=order.length -(i+1)) (by omega) ⟨i+1,V1,ex,made, by omega,rfl,(X1 (m:=n+(i+1)) (by omega) (hS11.pick [10,7,8,0,9,4,1,2,3,5,11,12,13] rfl)).reorder [1,2,3,4,5,6,7,8,9,0,10,11,12] rfl, by omega,hmd.skip hk hl hnn⟩
  have hw0:x.wr≠0#64:= fun e=>h10 (by rw[e];rfl)
  refine Qj rfl rfl (Q0 h10) (Qb rfl rfl (Qj rfl rfl (Q0 h10) (Qk rfl rfl (Qj rfl rfl (Q0 h10) (Qg rfl W8 rfl (Qj rfl rfl (Q0 h10) (Qo rfl Y0 (hS9.cell 0 rfl rfl) rfl (Qj rfl rfl (Q0 h10) (QX rfl rfl rfl (QG rfl (Q0 h10) rfl rfl (Qb rfl rfl (QN 52 rfl (fun h12=> ?_) (fun h12=> ?_)))))))))))))
  ·have hnn: ¬KB L t k x:= fun e=>e.2.1 (all64 h12)
   refine Qh rfl rfl (QW h12) rfl (Qh rfl rfl (QW h12) rfl (Qh rfl rfl (QW h12) rfl (Qh rfl rfl (QW h12) rfl (Qh rfl rfl (QW h12) rfl (Qh rfl rfl (QW h12) rfl (QC rfl (QW h12) rfl rfl (Qf (Qc (Qi [23,22,21,8,1,0,10,11,12,59] rfl (Xr rfl (QS (Qp (Qz (Qc (Qa (QK rfl rfl (by omega) (by omega) rfl ?_))))))))))))))))
   refine Qb rfl rfl (Qf ?_)
   have hS13:=Wi hl (hS9.pick [0,1,2,3,4,5,6,7,8,9,10,11,12,13,14] rfl)
   exact Q6 (L1:=[(0,_),(1,_),(8,_),(21,_),(22,_),(23,intV ((i+1:Nat):Int))]) (U9 rfl rfl rfl rfl rfl rfl) (k1:=order.length -(i+1)) (by omega) ⟨i+1,V1,ex,made, by omega,rfl,(X1 (m:=n+(i+1)) (by omega) (hS13.pick [10,7,8,0,9,4,1,2,3,5,11,12,13] rfl)).reorder [1,2,3,4,5,6,7,8,9,0,10,11,12] rfl, by omega,hmd.skip hk hl hnn⟩
  have hw1:x.wr≠BitVec.allOnes 64:= fun e=>h12 (by rw[e];rfl)
  refine Qj rfl rfl (Q0 h12) (Qb rfl rfl (Qj rfl rfl (Q0 h12) (Qb rfl rfl (Qj rfl rfl (Q0 h12) (Qk rfl rfl (Qj rfl rfl (Q0 h12) (Qg rfl BZ rfl (Qj rfl rfl (Q0 h12) (Qo rfl QO (hS9.cell 0 rfl rfl) rfl (Qj rfl rfl (Q0 h12) (QX rfl rfl rfl (QG rfl (Q0 h12) rfl rfl (Qf (Qc (Qi [23,22,21,8,1,0,10,11,12,59] rfl (Qs rfl (fun h14=> ?_) (fun h14=> ?_)))))))))))))))))
  ·have hnn: ¬KB L t k x:= fun e=>e.2.2 h14
   refine QS (Qp (Qz (Qc (Qa (QK rfl rfl (by omega) (by omega) rfl ?_)))))
   refine Qb rfl rfl (Qf ?_)
   have hS15:=Wi hl (hS9.pick [0,1,2,3,4,5,6,7,8,9,10,11,12,13,14] rfl)
   exact Q6 (L1:=[(0,_),(1,_),(8,_),(21,_),(22,_),(23,intV ((i+1:Nat):Int))]) (U9 rfl rfl rfl rfl rfl rfl) (k1:=order.length -(i+1)) (by omega) ⟨i+1,V1,ex,made, by omega,rfl,(X1 (m:=n+(i+1)) (by omega) (hS15.pick [10,7,8,0,9,4,1,2,3,5,11,12,13] rfl)).reorder [1,2,3,4,5,6,7,8,9,0,10,11,12] rfl, by omega,hmd.skip hk hl hnn⟩
  have hneed:KB L t k x:=⟨hw0,hw1,h14⟩
  refine Qr (Qc (Qd ?_))
  have hS16:=hS9.drew
  refine Rv Wp (VI 6 15 rfl ?_ ?_)
  ·refine U4 (sp:=[5,6,15]) [0,1,2,3,4,7,8,9,10,11,12,13,14,5,6,15,16,17] (by kernel_rfl) ?_
   refine QE rfl rfl rfl (Xl rfl rfl rfl (QT rfl rfl rfl XF (Q9 rfl rfl rfl (Qm rfl Xm (hS16.cell 2 rfl rfl)) (QE rfl rfl rfl (QE rfl rfl rfl (Xl rfl rfl rfl (QT rfl rfl rfl XF (Q9 rfl rfl rfl (Qm rfl Xm (hS16.cell 2 rfl rfl)) (QE rfl rfl rfl (Xl rfl rfl rfl (QT rfl rfl rfl Jt (Q9 rfl rfl rfl (Qm rfl QO (hS16.cell 0 rfl rfl)) (Xj rfl rfl rfl rfl rfl rfl ?_)))))))))))))
   refine Qv JQ rfl (Y7 (hS16.sp [11] rfl) (Xc L t.parent k)) rfl ?_
   rintro _ w17 ⟨rfl,hS17⟩
   replace hS17:=hS17.jn rfl rfl
   clear hS16
   refine X6 (.cons (.inl ⟨rfl,(Qm rfl QO (hS17.cell 1 rfl rfl))⟩) (.cons (.inl ⟨rfl,(Qm rfl Xm (hS17.cell 3 rfl rfl))⟩) (Xq (by kernel_rfl)))) ?_
   refine Xj rfl rfl rfl rfl rfl rfl ?_
   refine Bp hS17 rfl Tryz.underlying9 Tryz.underlying143 Tryz.underlying5 rfl ?_
   intro v18 w18 hS18
   clear hS17
   refine X6 (.cons (.inl ⟨rfl,(Qm rfl QO (hS18.cell 2 rfl rfl))⟩) (.cons (.inl ⟨rfl,(Qm rfl Xm (hS18.cell 4 rfl rfl))⟩) (Xq (by kernel_rfl)))) ?_
   refine Xj rfl rfl rfl rfl rfl rfl ?_
   refine Qv JQ rfl (Y7 (hS18.sp [1] rfl) (x.own)) rfl ?_
   rintro _ w19 ⟨rfl,hS19⟩
   replace hS19:=hS19.jn rfl rfl
   clear hS18
   refine X6 (Xq (by kernel_rfl)) ?_
   refine XN rfl rfl rfl (XN rfl rfl rfl (VC.nil (Qc (Qi [23,22,21,8,1,0,10,11,13,14] rfl (Qd (Qd ?_))))))
   have hnl:(XT V1 (Xc L t.parent k)).length=64:= by rw[hmd.pg _ (hI.aliveS _ _)]; exact hI.len (hI.aliveS _ _)
   have hao:XP V x.own:= by have ha:=hI.alive (.inr (id,k,true)); rw[XB ht hl]at ha; exact ha
   have hol:(XT V1 x.own).length=64:= by rw[hmd.pg _ hao]; exact hI.len hao
   obtain⟨ab,cb,hvb,_⟩:=hS19.own_shape 1 rfl; rw[hnl]at hvb; obtain rfl:=hvb
   refine Qa (Qb rfl rfl ?_)
   first | refine X5 Tryz.underlying143 rfl rfl ?_ | refine JB 1 hS19 Tryz.underlying143 rfl rfl rfl ?_ | refine JB 13 hS19 Tryz.underlying143 rfl rfl rfl ?_
   refine Qb rfl rfl (Qf (Qc (Qw ?_)))
   have hoz:=hS19.pick [1,0,2,3,4,5,6,7,8,9,10,11,12,13,14,15] rfl
   refine Xe (fun K0 E0 W0=> ∃(q:Nat) (r:Bs),K0=64 -q∧E0=[(0,ptrV b 0),(1,ptrV t.ad 0),(8,.map (some mm)),(21,.slice ar order.length cr),(22,intV (order.length:Int)),(23,intV (i:Int)),(10,ptrV kb 0),(11,ptrV x.ad 0),(13,.slice ab 64 cb),(14,strV (XT V1 x.own)),(77,intV 64),(78,intV (q:Int))]∧Sat W0 [rowT byC (.slice ab 64 cb) r,QF x.ad [intV x.base,intV x.own,Zu x.rd,Zu x.wr],Z0 RK (Xz t.lv k none),QF kb [strV k.1,intV k.2],QF t.ad [intV t.parent,.map (some t.ml),.map (some t.md)],Q3 Xy t.ml (Zj LfD.ad t.lv),Q3 Xp t.md (Jg t.dr),Z0 K7 (Xz L.tr id none),QF b [ptrV L.sp 0,.map (some L.mp),.map (some L.mt),intV L.cur,.map (some L.ms)],Q3 Xy L.mp (Zt L.pres),Q3 Xf L.mt (Zj TrD.ad L.tr),Q3 Xf L.ms (Jg L.sh),Zq L.sp (n+i) Fr V1,rowT kC (.slice ar order.length cr) order,Q3 Xy mm (Gy made),F]∧(q≤64)∧(MgI (XT V1 (Xc L t.parent k)) (XT V1 x.own) r x.wr q)) (L0:=[(0,_),(1,_),(8,_),(21,_),(22,_),(23,_),(10,_),(11,_),(13,_),(14,_),(77,_),(78,_)]) (64) (LJ rfl rfl rfl rfl rfl rfl rfl rfl rfl rfl rfl rfl) ⟨0,_,rfl,rfl,hoz.pick [0,2,3,9,10,11,12,7,4,5,6,8,1,13,14,15] rfl, by omega,MgI.start hnl⟩ ?_
   rintro _ _ w20 ⟨q,r,rfl,rfl,hS20,hq,hmg⟩
   refine Qd (Qa (Xb rfl rfl rfl (Qf (Qc (Qd (Qs rfl (fun h21=> ?_) (fun h21=> ?_)))))))
   ·refine Qr (Qc (Qd (Qw (Qd (Qa (Qb rfl rfl (Qe rfl rfl (Qf (Qc (Qd (Qa (Qb rfl rfl (Qk rfl rfl (Qg rfl W8 rfl (Qo rfl Y0 (hS20.cell 1 rfl rfl) rfl (Qb rfl rfl (NA q rfl rfl (by omega) rfl ?_)))))))))))))))))
    refine D5 (b:=1#64) rfl rfl rfl (QX rfl rfl rfl (Qf (Qc (Qi [78,77,14,13,11,10,23,22,21,8,1,0,15,88] rfl (Qs rfl (fun h22=> ?_) (fun h22=> ?_))))))
    ·have hwb:=(bit1 (by omega)).1 h22
     obtain⟨co,hco⟩: ∃co,(XT V1 x.own)[q]? =some co:=⟨_,Zd (by omega)⟩
     obtain⟨cr0,hcr0⟩: ∃co,r[q]? =some co:=⟨_,Zd (by rw[hmg.1];omega)⟩
     refine Qa (Qb rfl rfl (Qb rfl rfl (Qb rfl rfl (Qb rfl rfl (Y5 q Tryz.underlying9 rfl rfl rfl hco rfl (Xu byC 0 q hS20 rfl rfl rfl (by rfl) hcr0 IS rfl ?_))))))
     intro bx23 capx23 hvx23
     refine W6 0 q co hS20 rfl hvx23 rfl rfl UH (by rfl) ((XQ hcr0).1) ?_
     intro w24 hS25; dsimp only[List.set]at hS25
     clear hS20
     refine Qf (Ql (Qc (Qi [78,77,14,13,11,10,23,22,21,8,1,0] rfl (Qa (QK rfl rfl (by omega) (by omega) rfl ?_)))))
     exact Qb rfl rfl (Qf (Q6 (L1:=[(0,_),(1,_),(8,_),(21,_),(22,_),(23,_),(10,_),(11,_),(13,_),(14,_),(77,_),(78,intV ((q+1:Nat):Int))]) (LJ rfl rfl rfl rfl rfl rfl rfl rfl rfl rfl rfl rfl) (k1:=64 -(q+1)) (by omega) ⟨q+1,_,rfl,rfl,hS25.pick [0,1,2,3,4,5,6,7,8,9,10,11,12,13,14,15] rfl, by omega,hmg.T (by omega) hwb hco⟩))
    have hwb:x.wr.getLsbD q=false:= by have :=(not_congr (bit1 (by omega))).1 h22;simpa using this
    refine Qr (Ql (Qc (Qa (QK rfl rfl (by omega) (by omega) rfl ?_))))
    refine Qb rfl rfl (Qf ?_)
    exact Q6 (L1:=[(0,_),(1,_),(8,_),(21,_),(22,_),(23,_),(10,_),(11,_),(13,_),(14,_),(77,_),(78,intV ((q+1:Nat):Int))]) (LJ rfl rfl rfl rfl rfl rfl rfl rfl rfl rfl rfl rfl) (k1:=64 -(q+1)) (by omega) ⟨q+1,_,rfl,rfl,hS20.pick [0,1,2,3,4,5,6,7,8,9,10,11,12,13,14,15] rfl, by omega,hmg.F hwb⟩
   refine QS (Qp (Qp (Qz (Qc (Qi [13,10,23,22,21,8,1,0] rfl (Qd ?_))))))
   have hS26:=hS20.drew
   refine QJ [0,1,2,3,4,5,6,7,8,9,10,11] [6] Wp (by kernel_rfl) ?_
   refine QE rfl rfl rfl (Xl rfl rfl rfl (QT rfl rfl rfl XF (Q9 rfl rfl rfl (Qm rfl Xm (hS26.cell 8 rfl rfl)) (QE rfl rfl rfl (Q9 rfl rfl rfl (TV 0 hS26 rfl rfl Tryz.underlying143 Tryz.underlying5 Tryz.underlying9) (Xj rfl rfl rfl rfl rfl rfl ?_))))))
   have hr64:q=64:= by omega
   subst hr64
   have hre:=hmg.fin hnl hol
   rw[hmd.pg _ (hI.aliveS _ _),hmd.pg x.own hao]at hre
   refine XY L5 rfl (Od (hS26.sp [12] rfl) (by omega) (by rw[hre]; exact US)) rfl ?_
   rintro e w27 ⟨_,rfl,(⟨hz0,rfl,hS27⟩ | ⟨hz0,rfl,hag,hS27⟩ | ⟨s2,hz0,rfl,hs1,hv1,hS27⟩)⟩
   ·refine⟨_,rfl, ?_⟩
    replace hS27:=hS27.jn rfl rfl
    clear hS26
    have hmd2:=hmd.zero hk hnd hl hneed hz0 hre
    refine X6 (Xq (by kernel_rfl)) ?_
    refine QE rfl rfl rfl (Wg rfl rfl rfl rfl (Wg rfl rfl rfl rfl (XN rfl rfl rfl (XN rfl rfl rfl (VC.nil (Qc (Qi [10,23,22,21,8,1,0,16,17] rfl (Qd (Qd (Qa (Qb rfl rfl (X0 rfl rfl rfl (Qf (Qc (Qs rfl (fun h28=> ?_) (fun h28=> ?_))))))))))))))))
    ·exact absurd rfl h28
    refine Qr (Qc (Qi [10,23,22,21,8,1,0,16] rfl ?_))
    have hS29:=Wi hl (hS27.pick [2,3,0,1,4,5,6,7,8,9,10,11,12,13,14,15] rfl)
    refine Qa (Qb rfl rfl ?_)
    refine XA rfl X9 Xh (by first | exact hS29.blk 3 rfl | exact hS29.blk 4 rfl | exact hS29.blk 8 rfl) (by first | decide | exact Xn rfl | (simp;done) | omega) rfl rfl ?_
    refine Qb rfl rfl (Xk (k:=k) (v:=intV 0) 13 hS29 keysKey Tryz.underlying81 rfl rfl rfl rfl ?_)
    intro w30 hS30; dsimp only[List.set]at hS30; rw[C9]at hS30
    clear hS29
    refine Qf (Ql (Qc (Qi [23,22,21,8,1,0] rfl (Qa (QK rfl rfl (by omega) (by omega) rfl ?_)))))
    refine Qb rfl rfl (Qf ?_)
    exact Q6 (L1:=[(0,_),(1,_),(8,_),(21,_),(22,_),(23,intV ((i+1:Nat):Int))]) (U9 rfl rfl rfl rfl rfl rfl) (k1:=order.length -(i+1)) (by omega) ⟨i+1,_,_,_, by omega,rfl,hS30.pick [4,5,0,6,7,8,9,10,11,1,12,13,14] rfl, by omega,hmd2⟩
   ·refine⟨_,rfl, ?_⟩
    replace hS27:=hS27.jn rfl rfl
    clear hS26
    refine X6 (Xq (by kernel_rfl)) ?_
    refine QE rfl rfl rfl (Wg rfl rfl rfl rfl (Wg rfl rfl rfl rfl (XN rfl rfl rfl (XN rfl rfl rfl (VC.nil (Qc (Qi [10,23,22,21,8,1,0,16,17] rfl (Qd (Qd (Qa (Qb rfl rfl (X0 rfl rfl rfl (Qf (Qc (Qs rfl (fun h31=> ?_) (fun h31=> ?_))))))))))))))))
    ·refine Qd (Qd (Qa (Qb rfl rfl ?_)))
     have hS32:=Wi hl (hS27.pick [2,3,0,1,4,5,6,7,8,9,10,11,12,13,14,15] rfl)
     have hcm: ∀{ks:List KD},Came (Gy made) ks→ks.length≤c:= fun h=>Nat.le_trans (hmd.came h) (by rw[List.length_take];omega)
     refine Qv Fq rfl (Mq (hS32.sp [13] rfl) (fun ks h=> by have :=hcm h;omega)) rfl ?_
     rintro _ w33 ⟨ks,hks,hS33⟩
     replace hS33:=hS33.jn rfl rfl
     clear hS32
     obtain⟨au,cu,hvu,_⟩:=hS33.own_shape 0 rfl; obtain rfl:=hvu
     have hndk:=HP hks.nodup
     have hlk:(QP ks).length≤c:= by rw[WF]; exact hcm (Came.of_all hks)
     refine X5 Tryz.underlying98 rfl rfl (Qb rfl rfl (Qf (Qc (Qi [10,23,22,21,8,1,0,16,17,109,110,111] rfl (Qw ?_)))))
     refine Xe (fun K0 E0 W0=> ∃(j:Nat) (V2:VS) (ex2:Int→Int),K0=(QP ks).length -j∧E0=[(0,ptrV b 0),(8,.map (some mm)),(17,intV 6),(109,.slice au (QP ks).length cu),(110,intV ((QP ks).length:Int)),(111,intV (j:Int))]∧Sat W0 [QF t.ad [intV t.parent,.map (some t.ml),.map (some t.md)],Q3 Xy t.ml (Zj LfD.ad t.lv),Z0 RK t.lv,Q3 Xp t.md (Jg t.dr),Z0 K7 (Xz L.tr id none),QF b [ptrV L.sp 0,.map (some L.mp),.map (some L.mt),intV L.cur,.map (some L.ms)],Q3 Xy L.mp (Zt L.pres),Q3 Xf L.mt (Zj TrD.ad L.tr),Q3 Xf L.ms (Jg L.sh),Zq L.sp (n+i+1+j) Fr V2,rowT kC (.slice ar order.length cr) order,Q3 Xy mm (Gy made),rowT kC (.slice au (QP ks).length cu) (QP ks),F]∧(j≤(QP ks).length)∧(UnI m L V1 V2 made ((QP ks).take j) ex2)) (L0:=[(0,_),(8,_),(17,_),(109,_),(110,_),(111,_)]) ((QP ks).length) (U9 rfl rfl rfl rfl rfl rfl) ⟨0,V1,ex, by omega,rfl,hS33.pick [6,7,2,8,9,10,11,12,13,3,14,1,0,15] rfl, by omega,hmd.un⟩ ?_
     rintro _ _ w34 ⟨j,V2,ex2,rfl,rfl,hS34,hjl,hun⟩
     refine Qd (Qa (Xb rfl rfl rfl (Qf (Qc (Qd (Qs rfl (fun h35=> ?_) (fun h35=> ?_)))))))
     ·obtain⟨k2,hj⟩: ∃k,(QP ks)[j]? =some k:=⟨_,Zd (by omega)⟩
      refine Qr (Qc (Qd (Qw (Qd (Qa (Xu kC 12 j hS34 rfl rfl rfl (by first | rfl | omega) hj B2 rfl ?_))))))
      intro bx36 capx36 hvx36
      refine Wk 12 j hS34 rfl hvx36 rfl hj X9 Xh rfl rfl (Xg hS34 ZM rfl rfl ?_)
      intro kb wk37 hk37
      clear hS34
      refine QY hk37 rfl rfl Xh rfl (by rfl) (i:=0) rfl (by decide) ?_
      intro wk38 hk38; dsimp only[List.set]at hk38
      clear hk37
      replace hk38:=XM (k:=k2) hk38
      refine Qf (Qc ?_)
      have hS39:=hk38.drew
      refine QJ [0,1,2,3,4,5,6,7] [7] Wp (by kernel_rfl) ?_
      refine QE rfl rfl rfl (Xl rfl rfl rfl (QT rfl rfl rfl XF (Q9 rfl rfl rfl (Qm rfl Xm (hS39.cell 6 rfl rfl)) (QE rfl rfl rfl (Q9 rfl rfl rfl (XE rfl X9 Xh (hS39.blk 0 rfl) (Xn rfl) rfl) (Q9 rfl rfl rfl (Xx (k:=k2) 12 hS39 keysKey Tryz.underlying81 rfl rfl rfl HH (u:=intV (HS made k2)) FW) (Xj rfl rfl rfl rfl rfl rfl ?_)))))))
      refine Qv Gm rfl (R1 (hS39.sp [10] rfl) (by omega) (HS made k2)) rfl ?_
      rintro _ w40 ⟨e0,rfl,hS40⟩
      replace hS40:=hS40.jn rfl rfl
      clear hS39
      refine X6 (Xq (by kernel_rfl)) ?_
      refine VC.nil (Ql (Qc (Qi [111,110,109,17,8,0] rfl (Qa (QK rfl rfl (by omega) (by omega) rfl ?_)))))
      refine Qb rfl rfl (Qf ?_)
      have hun2:=hun.step hj hndk
      exact Q6 (L1:=[(0,_),(8,_),(17,_),(109,_),(110,_),(111,intV ((j+1:Nat):Int))]) (U9 rfl rfl rfl rfl rfl rfl) (k1:=(QP ks).length -(j+1)) (by omega) ⟨j+1,_,_, by omega,rfl,hS40.pick [2,3,4,5,6,7,8,9,10,0,11,12,13,14] rfl, by omega,hun2⟩
     refine QS (Qp (Qp (Qz (Qc (Qd (Qa (Qb rfl rfl (Qe rfl rfl (Qe rfl rfl (Qf (Qc (Qu (Qn (Qx (Qn (Qn (Qx (Qn (Wx (.inr rfl) rfl rfl rfl ?_)))))))))))))))))))
     have hjj:j=(QP ks).length:= by omega
     rw[hjj,List.take_length]at hun
     have huf:=hun.fin (fun k hk=>(Y9 ks).mem_iff.2 ((hks.mem k).2 (by unfold Gy; cases q:made k with | none=> exact absurd q hk | some s=> simp)))
     have hS41:=Zm ht (hS34.pick [0,1,2,3,4,5,6,7,8,9,10,11,12,13] rfl)
     exact⟨_,rfl,V2,.inr ⟨rfl,huf,hun.ab.trans hmd.ab, fun c q=> by have :=HY (hmd.al c q) hag; exact Nat.le_trans this (Nat.add_le_add_left (RA hilt) c), fun c q=>(hun.al _ (hmd.al c q)).mono (Nat.add_le_add_left (RA hilt) c),((X1 (m:=n+2*c) (by omega) (hS41.pick [5,1,2,3,0,4,6,9] rfl)).reorder [1,2,3,4,5,0,6,7] rfl |> fun q=>Xd q)⟩⟩
    exact absurd (by decide) h31
   refine⟨_,rfl, ?_⟩
   replace hS27:=hS27.jn rfl rfl
   clear hS26
   have hmd2:=hmd.fresh hk hnd hl hneed hs1 hv1 hre
   refine X6 (Xq (by kernel_rfl)) ?_
   refine QE rfl rfl rfl (Wg rfl rfl rfl rfl (Wg rfl rfl rfl rfl (XN rfl rfl rfl (XN rfl rfl rfl (VC.nil (Qc (Qi [10,23,22,21,8,1,0,16,17] rfl (Qd (Qd (Qa (Qb rfl rfl (X0 rfl rfl rfl (Qf (Qc (Qs rfl (fun h42=> ?_) (fun h42=> ?_))))))))))))))))
   ·exact absurd rfl h42
   refine Qr (Qc (Qi [10,23,22,21,8,1,0,16] rfl ?_))
   have hS43:=Wi hl (hS27.pick [2,3,0,1,4,5,6,7,8,9,10,11,12,13,14,15] rfl)
   refine Qa (Qb rfl rfl ?_)
   refine XA rfl X9 Xh (by first | exact hS43.blk 3 rfl | exact hS43.blk 4 rfl | exact hS43.blk 8 rfl) (by first | decide | exact Xn rfl | (simp;done) | omega) rfl rfl ?_
   refine Qb rfl rfl (Xk (k:=k) (v:=intV s2) 13 hS43 keysKey Tryz.underlying81 rfl rfl rfl rfl ?_)
   intro w44 hS44; dsimp only[List.set]at hS44; rw[C9]at hS44
   clear hS43
   refine Qf (Ql (Qc (Qi [23,22,21,8,1,0] rfl (Qa (QK rfl rfl (by omega) (by omega) rfl ?_)))))
   refine Qb rfl rfl (Qf ?_)
   exact Q6 (L1:=[(0,_),(1,_),(8,_),(21,_),(22,_),(23,intV ((i+1:Nat):Int))]) (U9 rfl rfl rfl rfl rfl rfl) (k1:=order.length -(i+1)) (by omega) ⟨i+1,_,_,_, by omega,rfl,hS44.pick [4,5,0,6,7,8,9,10,11,1,12,13,14] rfl, by omega,hmd2⟩
  refine U4 (sp:=[5,6,15]) [0,1,2,3,4,7,8,9,10,11,12,13,14,5,15,6,16,17] (by kernel_rfl) ?_
  refine QE rfl rfl rfl (Xl rfl rfl rfl (QT rfl rfl rfl XF (Q9 rfl rfl rfl (Qm rfl Xm (hS16.cell 2 rfl rfl)) (QE rfl rfl rfl (QE rfl rfl rfl (Xl rfl rfl rfl (QT rfl rfl rfl XF (Q9 rfl rfl rfl (Qm rfl Xm (hS16.cell 2 rfl rfl)) (QE rfl rfl rfl (Xl rfl rfl rfl (QT rfl rfl rfl Jt (Q9 rfl rfl rfl (Qm rfl QO (hS16.cell 0 rfl rfl)) (Xj rfl rfl rfl rfl rfl rfl ?_)))))))))))))
  refine Qv JQ rfl (Y7 (hS16.sp [11] rfl) (Xc L t.parent k)) rfl ?_
  rintro _ w45 ⟨rfl,hS45⟩
  replace hS45:=hS45.jn rfl rfl
  clear hS16
  refine X6 (.cons (.inl ⟨rfl,(Qm rfl QO (hS45.cell 1 rfl rfl))⟩) (.cons (.inl ⟨rfl,(Qm rfl Xm (hS45.cell 3 rfl rfl))⟩) (Xq (by kernel_rfl)))) ?_
  refine Xj rfl rfl rfl rfl rfl rfl ?_
  refine Qv JQ rfl (Y7 (hS45.sp [0] rfl) (x.own)) rfl ?_
  rintro _ w46 ⟨rfl,hS46⟩
  replace hS46:=hS46.jn rfl rfl
  clear hS45
  refine X6 (Xq (by kernel_rfl)) ?_
  refine Xj rfl rfl rfl rfl rfl rfl ?_
  refine Bp hS46 rfl Tryz.underlying9 Tryz.underlying143 Tryz.underlying5 rfl ?_
  intro v47 w47 hS47
  clear hS46
  refine X6 (.cons (.inl ⟨rfl,(Qm rfl QO (hS47.cell 2 rfl rfl))⟩) (.cons (.inl ⟨rfl,(Qm rfl Xm (hS47.cell 4 rfl rfl))⟩) (Xq (by kernel_rfl)))) ?_
  refine XN rfl rfl rfl (XN rfl rfl rfl (VC.nil (Qc (Qi [23,22,21,8,1,0,10,11,13,14] rfl (Qd (Qd ?_))))))
  have hnl:(XT V1 (Xc L t.parent k)).length=64:= by rw[hmd.pg _ (hI.aliveS _ _)]; exact hI.len (hI.aliveS _ _)
  have hao:XP V x.own:= by have ha:=hI.alive (.inr (id,k,true)); rw[XB ht hl]at ha; exact ha
  have hol:(XT V1 x.own).length=64:= by rw[hmd.pg _ hao]; exact hI.len hao
  obtain⟨ab,cb,hvb,_⟩:=hS47.own_shape 0 rfl; rw[hnl]at hvb; obtain rfl:=hvb
  refine Qa (Qb rfl rfl ?_)
  first | refine X5 Tryz.underlying143 rfl rfl ?_ | refine JB 0 hS47 Tryz.underlying143 rfl rfl rfl ?_ | refine JB 13 hS47 Tryz.underlying143 rfl rfl rfl ?_
  refine Qb rfl rfl (Qf (Qc (Qw ?_)))
  have hoz:=hS47.pick [0,1,2,3,4,5,6,7,8,9,10,11,12,13,14,15] rfl
  refine Xe (fun K0 E0 W0=> ∃(q:Nat) (r:Bs),K0=64 -q∧E0=[(0,ptrV b 0),(1,ptrV t.ad 0),(8,.map (some mm)),(21,.slice ar order.length cr),(22,intV (order.length:Int)),(23,intV (i:Int)),(10,ptrV kb 0),(11,ptrV x.ad 0),(13,.slice ab 64 cb),(14,strV (XT V1 x.own)),(77,intV 64),(78,intV (q:Int))]∧Sat W0 [rowT byC (.slice ab 64 cb) r,QF x.ad [intV x.base,intV x.own,Zu x.rd,Zu x.wr],Z0 RK (Xz t.lv k none),QF kb [strV k.1,intV k.2],QF t.ad [intV t.parent,.map (some t.ml),.map (some t.md)],Q3 Xy t.ml (Zj LfD.ad t.lv),Q3 Xp t.md (Jg t.dr),Z0 K7 (Xz L.tr id none),QF b [ptrV L.sp 0,.map (some L.mp),.map (some L.mt),intV L.cur,.map (some L.ms)],Q3 Xy L.mp (Zt L.pres),Q3 Xf L.mt (Zj TrD.ad L.tr),Q3 Xf L.ms (Jg L.sh),Zq L.sp (n+i) Fr V1,rowT kC (.slice ar order.length cr) order,Q3 Xy mm (Gy made),F]∧(q≤64)∧(MgI (XT V1 (Xc L t.parent k)) (XT V1 x.own) r x.wr q)) (L0:=[(0,_),(1,_),(8,_),(21,_),(22,_),(23,_),(10,_),(11,_),(13,_),(14,_),(77,_),(78,_)]) (64) (LJ rfl rfl rfl rfl rfl rfl rfl rfl rfl rfl rfl rfl) ⟨0,_,rfl,rfl,hoz.pick [0,2,3,9,10,11,12,7,4,5,6,8,1,13,14,15] rfl, by omega,MgI.start hnl⟩ ?_
  rintro _ _ w48 ⟨q,r,rfl,rfl,hS48,hq,hmg⟩
  refine Qd (Qa (Xb rfl rfl rfl (Qf (Qc (Qd (Qs rfl (fun h49=> ?_) (fun h49=> ?_)))))))
  ·refine Qr (Qc (Qd (Qw (Qd (Qa (Qb rfl rfl (Qe rfl rfl (Qf (Qc (Qd (Qa (Qb rfl rfl (Qk rfl rfl (Qg rfl W8 rfl (Qo rfl Y0 (hS48.cell 1 rfl rfl) rfl (Qb rfl rfl (NA q rfl rfl (by omega) rfl ?_)))))))))))))))))
   refine D5 (b:=1#64) rfl rfl rfl (QX rfl rfl rfl (Qf (Qc (Qi [78,77,14,13,11,10,23,22,21,8,1,0,15,88] rfl (Qs rfl (fun h50=> ?_) (fun h50=> ?_))))))
   ·have hwb:=(bit1 (by omega)).1 h50
    obtain⟨co,hco⟩: ∃co,(XT V1 x.own)[q]? =some co:=⟨_,Zd (by omega)⟩
    obtain⟨cr0,hcr0⟩: ∃co,r[q]? =some co:=⟨_,Zd (by rw[hmg.1];omega)⟩
    refine Qa (Qb rfl rfl (Qb rfl rfl (Qb rfl rfl (Qb rfl rfl (Y5 q Tryz.underlying9 rfl rfl rfl hco rfl (Xu byC 0 q hS48 rfl rfl rfl (by rfl) hcr0 IS rfl ?_))))))
    intro bx51 capx51 hvx51
    refine W6 0 q co hS48 rfl hvx51 rfl rfl UH (by rfl) ((XQ hcr0).1) ?_
    intro w52 hS53; dsimp only[List.set]at hS53
    clear hS48
    refine Qf (Ql (Qc (Qi [78,77,14,13,11,10,23,22,21,8,1,0] rfl (Qa (QK rfl rfl (by omega) (by omega) rfl ?_)))))
    exact Qb rfl rfl (Qf (Q6 (L1:=[(0,_),(1,_),(8,_),(21,_),(22,_),(23,_),(10,_),(11,_),(13,_),(14,_),(77,_),(78,intV ((q+1:Nat):Int))]) (LJ rfl rfl rfl rfl rfl rfl rfl rfl rfl rfl rfl rfl) (k1:=64 -(q+1)) (by omega) ⟨q+1,_,rfl,rfl,hS53.pick [0,1,2,3,4,5,6,7,8,9,10,11,12,13,14,15] rfl, by omega,hmg.T (by omega) hwb hco⟩))
   have hwb:x.wr.getLsbD q=false:= by have :=(not_congr (bit1 (by omega))).1 h50;simpa using this
   refine Qr (Ql (Qc (Qa (QK rfl rfl (by omega) (by omega) rfl ?_))))
   refine Qb rfl rfl (Qf ?_)
   exact Q6 (L1:=[(0,_),(1,_),(8,_),(21,_),(22,_),(23,_),(10,_),(11,_),(13,_),(14,_),(77,_),(78,intV ((q+1:Nat):Int))]) (LJ rfl rfl rfl rfl rfl rfl rfl rfl rfl rfl rfl rfl) (k1:=64 -(q+1)) (by omega) ⟨q+1,_,rfl,rfl,hS48.pick [0,1,2,3,4,5,6,7,8,9,10,11,12,13,14,15] rfl, by omega,hmg.F hwb⟩
  refine QS (Qp (Qp (Qz (Qc (Qi [13,10,23,22,21,8,1,0] rfl (Qd ?_))))))
  have hS54:=hS48.drew
  refine QJ [0,1,2,3,4,5,6,7,8,9,10,11] [6] Wp (by kernel_rfl) ?_
  refine QE rfl rfl rfl (Xl rfl rfl rfl (QT rfl rfl rfl XF (Q9 rfl rfl rfl (Qm rfl Xm (hS54.cell 8 rfl rfl)) (QE rfl rfl rfl (Q9 rfl rfl rfl (TV 0 hS54 rfl rfl Tryz.underlying143 Tryz.underlying5 Tryz.underlying9) (Xj rfl rfl rfl rfl rfl rfl ?_))))))
  have hr64:q=64:= by omega
  subst hr64
  have hre:=hmg.fin hnl hol
  rw[hmd.pg _ (hI.aliveS _ _),hmd.pg x.own hao]at hre
  refine XY L5 rfl (Od (hS54.sp [12] rfl) (by omega) (by rw[hre]; exact US)) rfl ?_
  rintro e w55 ⟨_,rfl,(⟨hz0,rfl,hS55⟩ | ⟨hz0,rfl,hag,hS55⟩ | ⟨s2,hz0,rfl,hs1,hv1,hS55⟩)⟩
  ·refine⟨_,rfl, ?_⟩
   replace hS55:=hS55.jn rfl rfl
   clear hS54
   have hmd2:=hmd.zero hk hnd hl hneed hz0 hre
   refine X6 (Xq (by kernel_rfl)) ?_
   refine QE rfl rfl rfl (Wg rfl rfl rfl rfl (Wg rfl rfl rfl rfl (XN rfl rfl rfl (XN rfl rfl rfl (VC.nil (Qc (Qi [10,23,22,21,8,1,0,16,17] rfl (Qd (Qd (Qa (Qb rfl rfl (X0 rfl rfl rfl (Qf (Qc (Qs rfl (fun h56=> ?_) (fun h56=> ?_))))))))))))))))
   ·exact absurd rfl h56
   refine Qr (Qc (Qi [10,23,22,21,8,1,0,16] rfl ?_))
   have hS57:=Wi hl (hS55.pick [2,3,0,1,4,5,6,7,8,9,10,11,12,13,14,15] rfl)
   refine Qa (Qb rfl rfl ?_)
   refine XA rfl X9 Xh (by first | exact hS57.blk 3 rfl | exact hS57.blk 4 rfl | exact hS57.blk 8 rfl) (by first | decide | exact Xn rfl | (simp;done) | omega) rfl rfl ?_
   refine Qb rfl rfl (Xk (k:=k) (v:=intV 0) 13 hS57 keysKey Tryz.underlying81 rfl rfl rfl rfl ?_)
   intro w58 hS58; dsimp only[List.set]at hS58; rw[C9]at hS58
   clear hS57
   refine Qf (Ql (Qc (Qi [23,22,21,8,1,0] rfl (Qa (QK rfl rfl (by omega) (by omega) rfl ?_)))))
   refine Qb rfl rfl (Qf ?_)
   exact Q6 (L1:=[(0,_),(1,_),(8,_),(21,_),(22,_),(23,intV ((i+1:Nat):Int))]) (U9 rfl rfl rfl rfl rfl rfl) (k1:=order.length -(i+1)) (by omega) ⟨i+1,_,_,_, by omega,rfl,hS58.pick [4,5,0,6,7,8,9,10,11,1,12,13,14] rfl, by omega,hmd2⟩
  ·refine⟨_,rfl, ?_⟩
   replace hS55:=hS55.jn rfl rfl
   clear hS54
   refine X6 (Xq (by kernel_rfl)) ?_
   refine QE rfl rfl rfl (Wg rfl rfl rfl rfl (Wg rfl rfl rfl rfl (XN rfl rfl rfl (XN rfl rfl rfl (VC.nil (Qc (Qi [10,23,22,21,8,1,0,16,17] rfl (Qd (Qd (Qa (Qb rfl rfl (X0 rfl rfl rfl (Qf (Qc (Qs rfl (fun h59=> ?_) (fun h59=> ?_))))))))))))))))
   ·refine Qd (Qd (Qa (Qb rfl rfl ?_)))
    have hS60:=Wi hl (hS55.pick [2,3,0,1,4,5,6,7,8,9,10,11,12,13,14,15] rfl)
    have hcm: ∀{ks:List KD},Came (Gy made) ks→ks.length≤c:= fun h=>Nat.le_trans (hmd.came h) (by rw[List.length_take];omega)
    refine Qv Fq rfl (Mq (hS60.sp [13] rfl) (fun ks h=> by have :=hcm h;omega)) rfl ?_
    rintro _ w61 ⟨ks,hks,hS61⟩
    replace hS61:=hS61.jn rfl rfl
    clear hS60
    obtain⟨au,cu,hvu,_⟩:=hS61.own_shape 0 rfl; obtain rfl:=hvu
    have hndk:=HP hks.nodup
    have hlk:(QP ks).length≤c:= by rw[WF]; exact hcm (Came.of_all hks)
    refine X5 Tryz.underlying98 rfl rfl (Qb rfl rfl (Qf (Qc (Qi [10,23,22,21,8,1,0,16,17,109,110,111] rfl (Qw ?_)))))
    refine Xe (fun K0 E0 W0=> ∃(j:Nat) (V2:VS) (ex2:Int→Int),K0=(QP ks).length -j∧E0=[(0,ptrV b 0),(8,.map (some mm)),(17,intV 6),(109,.slice au (QP ks).length cu),(110,intV ((QP ks).length:Int)),(111,intV (j:Int))]∧Sat W0 [QF t.ad [intV t.parent,.map (some t.ml),.map (some t.md)],Q3 Xy t.ml (Zj LfD.ad t.lv),Z0 RK t.lv,Q3 Xp t.md (Jg t.dr),Z0 K7 (Xz L.tr id none),QF b [ptrV L.sp 0,.map (some L.mp),.map (some L.mt),intV L.cur,.map (some L.ms)],Q3 Xy L.mp (Zt L.pres),Q3 Xf L.mt (Zj TrD.ad L.tr),Q3 Xf L.ms (Jg L.sh),Zq L.sp (n+i+1+j) Fr V2,rowT kC (.slice ar order.length cr) order,Q3 Xy mm (Gy made),rowT kC (.slice au (QP ks).length cu) (QP ks),F]∧(j≤(QP ks).length)∧(UnI m L V1 V2 made ((QP ks).take j) ex2)) (L0:=[(0,_),(8,_),(17,_),(109,_),(110,_),(111,_)]) ((QP ks).length) (U9 rfl rfl rfl rfl rfl rfl) ⟨0,V1,ex, by omega,rfl,hS61.pick [6,7,2,8,9,10,11,12,13,3,14,1,0,15] rfl, by omega,hmd.un⟩ ?_
    rintro _ _ w62 ⟨j,V2,ex2,rfl,rfl,hS62,hjl,hun⟩
    refine Qd (Qa (Xb rfl rfl rfl (Qf (Qc (Qd (Qs rfl (fun h63=> ?_) (fun h63=> ?_)))))))
    ·obtain⟨k2,hj⟩: ∃k,(QP ks)[j]? =some k:=⟨_,Zd (by omega)⟩
     refine Qr (Qc (Qd (Qw (Qd (Qa (Xu kC 12 j hS62 rfl rfl rfl (by first | rfl | omega) hj B2 rfl ?_))))))
     intro bx64 capx64 hvx64
     refine Wk 12 j hS62 rfl hvx64 rfl hj X9 Xh rfl rfl (Xg hS62 ZM rfl rfl ?_)
     intro kb wk65 hk65
     clear hS62
     refine QY hk65 rfl rfl Xh rfl (by rfl) (i:=0) rfl (by decide) ?_
     intro wk66 hk66; dsimp only[List.set]at hk66
     clear hk65
     replace hk66:=XM (k:=k2) hk66
     refine Qf (Qc ?_)
     have hS67:=hk66.drew
     refine QJ [0,1,2,3,4,5,6,7] [7] Wp (by kernel_rfl) ?_
     refine QE rfl rfl rfl (Xl rfl rfl rfl (QT rfl rfl rfl XF (Q9 rfl rfl rfl (Qm rfl Xm (hS67.cell 6 rfl rfl)) (QE rfl rfl rfl (Q9 rfl rfl rfl (XE rfl X9 Xh (hS67.blk 0 rfl) (Xn rfl) rfl) (Q9 rfl rfl rfl (Xx (k:=k2) 12 hS67 keysKey Tryz.underlying81 rfl rfl rfl HH (u:=intV (HS made k2)) FW) (Xj rfl rfl rfl rfl rfl rfl ?_)))))))
     refine Qv Gm rfl (R1 (hS67.sp [10] rfl) (by omega) (HS made k2)) rfl ?_
     rintro _ w68 ⟨e0,rfl,hS68⟩
     replace hS68:=hS68.jn rfl rfl
     clear hS67
     refine X6 (Xq (by kernel_rfl)) ?_
     refine VC.nil (Ql (Qc (Qi [111,110,109,17,8,0] rfl (Qa (QK rfl rfl (by omega) (by omega) rfl ?_)))))
     refine Qb rfl rfl (Qf ?_)
     have hun2:=hun.step hj hndk
     exact Q6 (L1:=[(0,_),(8,_),(17,_),(109,_),(110,_),(111,intV ((j+1:Nat):Int))]) (U9 rfl rfl rfl rfl rfl rfl) (k1:=(QP ks).length -(j+1)) (by omega) ⟨j+1,_,_, by omega,rfl,hS68.pick [2,3,4,5,6,7,8,9,10,0,11,12,13,14] rfl, by omega,hun2⟩
    refine QS (Qp (Qp (Qz (Qc (Qd (Qa (Qb rfl rfl (Qe rfl rfl (Qe rfl rfl (Qf (Qc (Qu (Qn (Qx (Qn (Qn (Qx (Qn (Wx (.inr rfl) rfl rfl rfl ?_)))))))))))))))))))
    have hjj:j=(QP ks).length:= by omega
    rw[hjj,List.take_length]at hun
    have huf:=hun.fin (fun k hk=>(Y9 ks).mem_iff.2 ((hks.mem k).2 (by unfold Gy; cases q:made k with | none=> exact absurd q hk | some s=> simp)))
    have hS69:=Zm ht (hS62.pick [0,1,2,3,4,5,6,7,8,9,10,11,12,13] rfl)
    exact⟨_,rfl,V2,.inr ⟨rfl,huf,hun.ab.trans hmd.ab, fun c q=> by have :=HY (hmd.al c q) hag; exact Nat.le_trans this (Nat.add_le_add_left (RA hilt) c), fun c q=>(hun.al _ (hmd.al c q)).mono (Nat.add_le_add_left (RA hilt) c),((X1 (m:=n+2*c) (by omega) (hS69.pick [5,1,2,3,0,4,6,9] rfl)).reorder [1,2,3,4,5,0,6,7] rfl |> fun q=>Xd q)⟩⟩
   exact absurd (by decide) h59
  refine⟨_,rfl, ?_⟩
  replace hS55:=hS55.jn rfl rfl
  clear hS54
  have hmd2:=hmd.fresh hk hnd hl hneed hs1 hv1 hre
  refine X6 (Xq (by kernel_rfl)) ?_
  refine QE rfl rfl rfl (Wg rfl rfl rfl rfl (Wg rfl rfl rfl rfl (XN rfl rfl rfl (XN rfl rfl rfl (VC.nil (Qc (Qi [10,23,22,21,8,1,0,16,17] rfl (Qd (Qd (Qa (Qb rfl rfl (X0 rfl rfl rfl (Qf (Qc (Qs rfl (fun h70=> ?_) (fun h70=> ?_))))))))))))))))
  ·exact absurd rfl h70
  refine Qr (Qc (Qi [10,23,22,21,8,1,0,16] rfl ?_))
  have hS71:=Wi hl (hS55.pick [2,3,0,1,4,5,6,7,8,9,10,11,12,13,14,15] rfl)
  refine Qa (Qb rfl rfl ?_)
  refine XA rfl X9 Xh (by first | exact hS71.blk 3 rfl | exact hS71.blk 4 rfl | exact hS71.blk 8 rfl) (by first | decide | exact Xn rfl | (simp;done) | omega) rfl rfl ?_
  refine Qb rfl rfl (Xk (k:=k) (v:=intV s2) 13 hS71 keysKey Tryz.underlying81 rfl rfl rfl rfl ?_)
  intro w72 hS72; dsimp only[List.set]at hS72; rw[C9]at hS72
  clear hS71
  refine Qf (Ql (Qc (Qi [23,22,21,8,1,0] rfl (Qa (QK rfl rfl (by omega) (by omega) rfl ?_)))))
  refine Qb rfl rfl (Qf ?_)
  exact Q6 (L1:=[(0,_),(1,_),(8,_),(21,_),(22,_),(23,intV ((i+1:Nat):Int))]) (U9 rfl rfl rfl rfl rfl rfl) (k1:=order.length -(i+1)) (by omega) ⟨i+1,_,_,_, by omega,rfl,hS72.pick [4,5,0,6,7,8,9,10,11,1,12,13,14] rfl, by omega,hmd2⟩
 refine QS (Qp (Qp (Qz (Qc (Qd (Qa (Qb rfl rfl (Qe rfl rfl (Qe rfl rfl (Qf (Qc (Qu (Wx (.inr rfl) rfl rfl rfl ?_)))))))))))))
 have hil:i=order.length:= by omega
 rw[hil,List.take_length]at hmd
 have hS73:=Zm ht (hS2.pick [0,1,2,3,4,5,6,7,8,9,10,11,12] rfl)
 exact⟨_,rfl,V1,.inl ⟨mm,made,ex,rfl,hmd,((X1 (m:=n+2*c) (by omega) (hS73.pick [5,1,2,3,0,4,6,7,8] rfl)).reorder [1,2,3,4,5,0,6,7,8] rfl |> fun q=>Xd q)⟩⟩
end Go.Proofs.YtkcjfoaejijdoaaGreatDoor
