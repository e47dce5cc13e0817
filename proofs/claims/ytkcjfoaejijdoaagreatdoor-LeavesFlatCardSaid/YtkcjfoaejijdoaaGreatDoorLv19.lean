/- leaves: merged -/
import Derived.Test.YtkcjfoaejijdoaaGreatDoorLv17
import Derived.Shelf.Spec.TrailingZeros
set_option linter.unusedVariables false
set_option maxRecDepth 100000
set_option maxHeartbeats 3200000
namespace Go.Proofs.YtkcjfoaejijdoaaGreatDoor
open Go.RowKit M
theorem MdI.came {m:Nat} {L:LvD} {V V1:VS} {t:TrD} {ex:Int→Int} {made:KD→Option Int} {l:List KD} (h:MdI m L V V1 t ex made l) {ks:List KD} (hc:Came (Gz made) ks):ks.length≤l.length:=
  WC hc.nodup fun k hk=>((h.dom k).1 fun q=>hc.has k hk (by unfold Gz; rw[q];rfl)).1
theorem RA {t:TrD} {l:List KD} {i:Nat} (hi:i<l.length):Yu t (l.take i)≤Yu t l:= by
  unfold Yu
  have h:=List.filter_append (p:= fun k=>decide (∃x,t.lv k=some x∧x.wr≠0#64∧x.wr≠BitVec.allOnes 64)) (l.take i) (l.drop i)
  rw[List.take_append_drop]at h
  rw[h,List.length_append];omega
theorem all64 {w:BitVec 64} (h:(w.toNat:Int)=18446744073709551615):w=BitVec.allOnes 64:=BitVec.eq_of_toNat_eq (by simp;omega)
theorem zerW {w:BitVec 64} (h:(w.toNat:Int)=0):w=0#64:=BitVec.eq_of_toNat_eq (by simp;omega)
theorem bit1 {w:BitVec 64} {q:Nat} (hq:q<64):(((w>>>q)&&&1#64).toNat:Int)=1↔w.getLsbD q=true:= by
  have e:(1#64).toNat=1:=rfl
  rw[BitVec.toNat_and,BitVec.toNat_ushiftRight,←BitVec.testBit_toNat,e,Nat.and_one_is_mod,Nat.shiftRight_eq_div_pow,Nat.testBit_eq_decide_div_mod_eq,decide_eq_true_eq]
  generalize w.toNat/ 2^q=z
  omega
theorem EI {w:World} {m:Nat} {b n Fr:Nat} {L:LvD} {V:VS} {F:Th} {ar:Option Addr} {cr:Nat} {order:List KD} (hS:Sat w [We b L,Zw L.sp n Fr V,rowT kC (.slice ar order.length cr) order,F]) {c:Nat} (hn:n+2*c≤600000000) (hI:LvI m L V) (hm:m<Zv) {id:Int} {t:TrD} (ht:L.tr id=some t) (hord: ∀k,k∈order↔t.lv k≠none) (hnd:order.Nodup) (hoc:order.length≤c):
    Calls Tryz.prog 50 #[ptrV b 0,ptrV t.ad 0,.slice ar order.length cr] w (Ret fun v w'=> ∃V',(∃mm made ex,v= .tuple #[.map (some mm),intV 0]∧MdI m L V V' t ex made order∧Sat w' [We b L,Zw L.sp (n+2*c) Fr V',rowT kC (.slice ar order.length cr) order,Q8 X4 mm (Gz made),F])∨(v= .tuple #[.map none,intV 6]∧LvI m L V'∧QG L V'=QG L V∧(∀c,AliveLe V c→Fr≤c+Yu t order)∧(∀c,AliveLe V c→AliveLe V' (c+Yu t order))∧Sat w' [We b L,Zw L.sp (n+2*c) Fr V',rowT kC (.slice ar order.length cr) order,F])):= by
 have h0:id≠0:=hI.rank.none0 ht
 obtain⟨Av,hA0,hAv⟩:=hI.rank.av id
 have hcm0:True:=trivial
 replace hS:=Ze hS
 replace hS:=ZK (hS.pick [3,0,1,2,4,5,6,7] rfl) ht
 refine Qr Tryz.func50 rfl Tryz.ntmps50 rfl ?_
 refine Qd (Qa (Qe rfl rfl (Qe rfl rfl (Qf (Qc (Qd (Qa (Zg X4 hS rfl ?_))))))))
 intro mm w1 hS1
 rw[←OY]at hS1
 refine Qe rfl rfl (Qf (Qc (Qd (Qd (Qa (Qb rfl rfl (XA Tryz.underlying98 rfl rfl (Qb rfl rfl (Qf (Qc (Qx ?_)))))))))))
 refine Xk (fun K0 E0 W0=> ∃(i:Nat) (V1:VS) (ex:Int→Int) (made:KD→Option Int),K0=order.length -i∧E0=[(0,ptrV b 0),(1,ptrV t.ad 0),(8,.map (some mm)),(21,.slice ar order.length cr),(22,intV (order.length:Int)),(23,intV (i:Int))]∧Sat W0 [QK t.ad [intV t.parent,.map (some t.ml),.map (some t.md)],Q8 X4 t.ml (Zp LfD.ad t.lv),Z6 RM t.lv,Q8 Xw t.md (Jl t.dr),Z6 K7 (X5 L.tr id none),QK b [ptrV L.sp 0,.map (some L.mp),.map (some L.mt),intV L.cur,.map (some L.ms)],Q8 X4 L.mp (Zz L.pres),Q8 Xl L.mt (Zp TrD.ad L.tr),Q8 Xl L.ms (Jl L.sh),Zw L.sp (n+i) Fr V1,rowT kC (.slice ar order.length cr) order,Q8 X4 mm (Gz made),F]∧(i≤order.length)∧(MdI m L V V1 t ex made (order.take i))) (L0:=[(0,_),(1,_),(8,_),(21,_),(22,_),(23,_)]) (order.length) (UB rfl rfl rfl rfl rfl rfl) ⟨0,V,_,_, by omega,rfl,hS1.pick [1,2,3,4,5,6,7,8,9,10,11,0,12] rfl, by omega,MdI.start hI⟩ ?_
 rintro _ _ w2 ⟨i,V1,ex,made,rfl,rfl,hS2,hi,hmd⟩
 refine Qd (Qa (Xh rfl rfl rfl (Qf (Qc (Qd (Qt rfl (fun h3=> ?_) (fun h3=> ?_)))))))
 ·have hilt:i<order.length:= by omega
  obtain⟨k,hk⟩: ∃k,order[i]? =some k:=⟨_,Zj (by omega)⟩
  obtain⟨x,hl⟩: ∃x,t.lv k=some x:=Option.ne_none_iff_exists'.1 ((hord k).1 (List.mem_of_getElem? hk))
  refine Qs (Qc (Qd (Qx (Qd (Qa (X0 kC 10 i hS2 rfl rfl rfl (by rfl) hk B4 rfl ?_))))))
  intro bx4 capx4 hvx4
  refine Wq 10 i hS2 rfl hvx4 rfl hk XE Xn rfl rfl (Xm hS2 ZS rfl rfl ?_)
  intro kb wk5 hk5
  clear hS2
  refine Xe hk5 rfl rfl Xn rfl (by rfl) (i:=0) rfl (by decide) ?_
  intro wk6 hk6; dsimp only[List.set]at hk6
  clear hk5
  replace hk6:=XT (k:=k) hk6
  refine Qf (Qc (Qd ?_))
  have hS7:=hk6.drew
  refine QO [0,1,2,3,4,5,6,7,8,9,10,11,12,13,14] [12] Wu (by kernel_rfl) ?_
  refine QJ rfl rfl rfl (Xr rfl rfl rfl (QZ rfl rfl rfl Wj (QH rfl rfl rfl (Qn rfl JM (hS7.cell 1 rfl rfl)) (QH rfl rfl rfl (XK rfl XE Xn (hS7.blk 0 rfl) (XJ rfl) rfl) (QH rfl rfl rfl (X3 (k:=k) 2 hS7 keysKey Tryz.underlying90 rfl rfl rfl HK (u:=ptrV x.ad 0) (Zm hl)) (QJ rfl rfl rfl (QJ rfl rfl rfl (Xr rfl rfl rfl (QZ rfl rfl rfl Yy (QH rfl rfl rfl (Qn rfl QS (hS7.cell 1 rfl rfl)) (QH rfl rfl rfl (XK rfl XE Xn (hS7.blk 0 rfl) (XJ rfl) rfl) (Xp rfl rfl rfl rfl rfl rfl (qac YG rfl (NU (i0:=id) (hS7.sp [6,7,8,5,9] rfl) (hI.rank.ends hm) hAv t.parent (hA0 t ht) k) rfl ?_)))))))))))))
  rintro _ w8 ⟨rfl,hS8⟩
  replace hS8:=hS8.jn rfl rfl
  clear hS7
  refine XB (.skip (by kernel_rfl) (.skip (by kernel_rfl) (.cons (.inl ⟨rfl,(X3 (k:=k) 7 hS8 keysKey Tryz.underlying90 rfl rfl rfl HK (u:=ptrV x.ad 0) (Zm hl))⟩) (.cons (.inl ⟨rfl,(XK rfl XE Xn (hS8.blk 5 rfl) (XJ rfl) rfl)⟩) (.cons (.inl ⟨rfl,(Qn rfl JM (hS8.cell 6 rfl rfl))⟩) .nil))))) ?_
  refine XU rfl rfl rfl (XU rfl rfl rfl (VC.nil (Qc (Qi [23,22,21,8,1,0,10,11,12] rfl (Qd (Qd ?_))))))
  have hS9:=HC (hS8.pick [8,0,1,2,3,4,5,6,7,9,10,11,12,13] rfl) hl
  refine Qa (Qb rfl rfl (Qk rfl rfl (Qg rfl WD rfl (Qp rfl Y2 (hS9.cell 0 rfl rfl) rfl (Xd rfl rfl rfl (Qb rfl rfl (QR 45 rfl (fun h10=> ?_) (fun h10=> ?_))))))))
  ·have hnn: ¬KB L t k x:= fun e=>e.1 (zerW h10)
   refine Qh rfl rfl (Xc h10) rfl (Qh rfl rfl (Xc h10) rfl (Qh rfl rfl (Xc h10) rfl (Qh rfl rfl (Xc h10) rfl (Qh rfl rfl (Xc h10) rfl (QI rfl (Xc h10) rfl rfl (Qb rfl rfl (Qh rfl rfl rfl rfl (Qh rfl rfl rfl rfl (Qh rfl rfl rfl rfl (Qh rfl rfl rfl rfl (Qh rfl rfl rfl rfl (Qh rfl rfl rfl rfl (QI rfl rfl rfl rfl (Qf (Qc (Qi [23,22,21,8,1,0,10,11,12,59] rfl (Xy rfl (QY (Qq (Q0 (Qc (Qa (QP rfl rfl (by omega) (by omega) rfl ?_)))))))))))))))))))))))
   refine Qb rfl rfl (Qf ?_)
   have hS11:=Wo hl (hS9.pick [0,1,2,3,4,5,6,7,8,9,10,11,12,13,14] rfl)
   exact QE (L1:=[(0,_),(1,_),(8,_),(21,_),(22,_),(23,intV ((i+1:Nat):Int))]) (UB rfl rfl rfl rfl rfl rfl) (k1:=order.length -(i+1)) (by omega) ⟨i+1,V1,ex,made, by omega,rfl,(X7 (m:=n+(i+1)) (by omega) (hS11.pick [10,7,8,0,9,4,1,2,3,5,11,12,13] rfl)).reorder [1,2,3,4,5,6,7,8,9,0,10,11,12] rfl, by omega,hmd.skip hk hl hnn⟩
  have hw0:x.wr≠0#64:= fun e=>h10 (by rw[e];rfl)
  refine Qj rfl rfl (Q6 h10) (Qb rfl rfl (Qj rfl rfl (Q6 h10) (Qk rfl rfl (Qj rfl rfl (Q6 h10) (Qg rfl WD rfl (Qj rfl rfl (Q6 h10) (Qp rfl Y2 (hS9.cell 0 rfl rfl) rfl (Qj rfl rfl (Q6 h10) (Xd rfl rfl rfl (QL rfl (Q6 h10) rfl rfl (Qb rfl rfl (QR 52 rfl (fun h12=> ?_) (fun h12=> ?_)))))))))))))
  ·have hnn: ¬KB L t k x:= fun e=>e.2.1 (all64 h12)
   refine Qh rfl rfl (Xc h12) rfl (Qh rfl rfl (Xc h12) rfl (Qh rfl rfl (Xc h12) rfl (Qh rfl rfl (Xc h12) rfl (Qh rfl rfl (Xc h12) rfl (Qh rfl rfl (Xc h12) rfl (QI rfl (Xc h12) rfl rfl (Qf (Qc (Qi [23,22,21,8,1,0,10,11,12,59] rfl (Xy rfl (QY (Qq (Q0 (Qc (Qa (QP rfl rfl (by omega) (by omega) rfl ?_))))))))))))))))
   refine Qb rfl rfl (Qf ?_)
   have hS13:=Wo hl (hS9.pick [0,1,2,3,4,5,6,7,8,9,10,11,12,13,14] rfl)
   exact QE (L1:=[(0,_),(1,_),(8,_),(21,_),(22,_),(23,intV ((i+1:Nat):Int))]) (UB rfl rfl rfl rfl rfl rfl) (k1:=order.length -(i+1)) (by omega) ⟨i+1,V1,ex,made, by omega,rfl,(X7 (m:=n+(i+1)) (by omega) (hS13.pick [10,7,8,0,9,4,1,2,3,5,11,12,13] rfl)).reorder [1,2,3,4,5,6,7,8,9,0,10,11,12] rfl, by omega,hmd.skip hk hl hnn⟩
  have hw1:x.wr≠BitVec.allOnes 64:= fun e=>h12 (by rw[e];rfl)
  refine Qj rfl rfl (Q6 h12) (Qb rfl rfl (Qj rfl rfl (Q6 h12) (Qb rfl rfl (Qj rfl rfl (Q6 h12) (Qk rfl rfl (Qj rfl rfl (Q6 h12) (Qg rfl Db rfl (Qj rfl rfl (Q6 h12) (Qp rfl QS (hS9.cell 0 rfl rfl) rfl (Qj rfl rfl (Q6 h12) (Xd rfl rfl rfl (QL rfl (Q6 h12) rfl rfl (Qf (Qc (Qi [23,22,21,8,1,0,10,11,12,59] rfl (Qt rfl (fun h14=> ?_) (fun h14=> ?_)))))))))))))))))
  ·have hnn: ¬KB L t k x:= fun e=>e.2.2 h14
   refine QY (Qq (Q0 (Qc (Qa (QP rfl rfl (by omega) (by omega) rfl ?_)))))
   refine Qb rfl rfl (Qf ?_)
   have hS15:=Wo hl (hS9.pick [0,1,2,3,4,5,6,7,8,9,10,11,12,13,14] rfl)
   exact QE (L1:=[(0,_),(1,_),(8,_),(21,_),(22,_),(23,intV ((i+1:Nat):Int))]) (UB rfl rfl rfl rfl rfl rfl) (k1:=order.length -(i+1)) (by omega) ⟨i+1,V1,ex,made, by omega,rfl,(X7 (m:=n+(i+1)) (by omega) (hS15.pick [10,7,8,0,9,4,1,2,3,5,11,12,13] rfl)).reorder [1,2,3,4,5,6,7,8,9,0,10,11,12] rfl, by omega,hmd.skip hk hl hnn⟩
  have hneed:KB L t k x:=⟨hw0,hw1,h14⟩
  refine Qs (Qc (Qd ?_))
  have hS16:=hS9.drew
  refine Rv Wu (VJ 6 15 rfl ?_ ?_)
  ·refine U6 (sp:=[5,6,15]) [0,1,2,3,4,7,8,9,10,11,12,13,14,5,6,15,16,17] (by kernel_rfl) ?_
   refine QJ rfl rfl rfl (Xr rfl rfl rfl (QZ rfl rfl rfl XM (QH rfl rfl rfl (Qn rfl Xu (hS16.cell 2 rfl rfl)) (QJ rfl rfl rfl (QJ rfl rfl rfl (Xr rfl rfl rfl (QZ rfl rfl rfl XM (QH rfl rfl rfl (Qn rfl Xu (hS16.cell 2 rfl rfl)) (QJ rfl rfl rfl (Xr rfl rfl rfl (QZ rfl rfl rfl Jy (QH rfl rfl rfl (Qn rfl QS (hS16.cell 0 rfl rfl)) (Xp rfl rfl rfl rfl rfl rfl (qac JU rfl (Y9 (hS16.sp [11] rfl) (Xi L t.parent k)) rfl ?_))))))))))))))
   rintro _ w17 ⟨rfl,hS17⟩
   replace hS17:=hS17.jn rfl rfl
   clear hS16
   refine XB (.cons (.inl ⟨rfl,(Qn rfl QS (hS17.cell 1 rfl rfl))⟩) (.cons (.inl ⟨rfl,(Qn rfl Xu (hS17.cell 3 rfl rfl))⟩) (Xx (by kernel_rfl)))) ?_
   refine Xp rfl rfl rfl rfl rfl rfl (Bq hS17 rfl Tryz.underlying9 Tryz.underlying143 Tryz.underlying5 rfl ?_)
   intro v18 w18 hS18
   clear hS17
   refine XB (.cons (.inl ⟨rfl,(Qn rfl QS (hS18.cell 2 rfl rfl))⟩) (.cons (.inl ⟨rfl,(Qn rfl Xu (hS18.cell 4 rfl rfl))⟩) (Xx (by kernel_rfl)))) ?_
   refine Xp rfl rfl rfl rfl rfl rfl (qac JU rfl (Y9 (hS18.sp [1] rfl) (x.own)) rfl ?_)
   rintro _ w19 ⟨rfl,hS19⟩
   replace hS19:=hS19.jn rfl rfl
   clear hS18
   refine XB (Xx (by kernel_rfl)) ?_
   refine XU rfl rfl rfl (XU rfl rfl rfl (VC.nil (Qc (Qi [23,22,21,8,1,0,10,11,13,14] rfl (Qd (Qd ?_))))))
   have hnl:(Za V1 (Xi L t.parent k)).length=64:= by rw[hmd.pg _ (hI.aliveS _ _)]; exact hI.len (hI.aliveS _ _)
   have hao:XW V x.own:= by have ha:=hI.alive (.inr (id,k,true)); rw[XG ht hl]at ha; exact ha
   have hol:(Za V1 x.own).length=64:= by rw[hmd.pg _ hao]; exact hI.len hao
   obtain⟨ab,cb,hvb,_⟩:=hS19.own_shape 1 rfl; rw[hnl]at hvb; obtain rfl:=hvb
   refine Qa (Qb rfl rfl (XA Tryz.underlying143 rfl rfl (Qb rfl rfl (Qf (Qc (Qx ?_))))))
   have hoz:=hS19.pick [1,0,2,3,4,5,6,7,8,9,10,11,12,13,14,15] rfl
   refine Xk (fun K0 E0 W0=> ∃(q:Nat) (r:Bs),K0=64 -q∧E0=[(0,ptrV b 0),(1,ptrV t.ad 0),(8,.map (some mm)),(21,.slice ar order.length cr),(22,intV (order.length:Int)),(23,intV (i:Int)),(10,ptrV kb 0),(11,ptrV x.ad 0),(13,.slice ab 64 cb),(14,strV (Za V1 x.own)),(77,intV 64),(78,intV (q:Int))]∧Sat W0 [rowT byC (.slice ab 64 cb) r,QK x.ad [intV x.base,intV x.own,Z0 x.rd,Z0 x.wr],Z6 RM (X5 t.lv k none),QK kb [strV k.1,intV k.2],QK t.ad [intV t.parent,.map (some t.ml),.map (some t.md)],Q8 X4 t.ml (Zp LfD.ad t.lv),Q8 Xw t.md (Jl t.dr),Z6 K7 (X5 L.tr id none),QK b [ptrV L.sp 0,.map (some L.mp),.map (some L.mt),intV L.cur,.map (some L.ms)],Q8 X4 L.mp (Zz L.pres),Q8 Xl L.mt (Zp TrD.ad L.tr),Q8 Xl L.ms (Jl L.sh),Zw L.sp (n+i) Fr V1,rowT kC (.slice ar order.length cr) order,Q8 X4 mm (Gz made),F]∧(q≤64)∧(MgI (Za V1 (Xi L t.parent k)) (Za V1 x.own) r x.wr q)) (L0:=[(0,_),(1,_),(8,_),(21,_),(22,_),(23,_),(10,_),(11,_),(13,_),(14,_),(77,_),(78,_)]) (64) (LI rfl rfl rfl rfl rfl rfl rfl rfl rfl rfl rfl rfl) ⟨0,_,rfl,rfl,hoz.pick [0,2,3,9,10,11,12,7,4,5,6,8,1,13,14,15] rfl, by omega,MgI.start hnl⟩ ?_
   rintro _ _ w20 ⟨q,r,rfl,rfl,hS20,hq,hmg⟩
   refine Qd (Qa (Xh rfl rfl rfl (Qf (Qc (Qd (Qt rfl (fun h21=> ?_) (fun h21=> ?_)))))))
   ·refine Qs (Qc (Qd (Qx (Qd (Qa (Qb rfl rfl (Qe rfl rfl (Qf (Qc (Qd (Qa (Qb rfl rfl (Qk rfl rfl (Qg rfl WD rfl (Qp rfl Y2 (hS20.cell 1 rfl rfl) rfl (Qb rfl rfl (NA q rfl rfl (by omega) rfl ?_)))))))))))))))))
    refine D5 (b:=1#64) rfl rfl rfl (Xd rfl rfl rfl (Qf (Qc (Qi [78,77,14,13,11,10,23,22,21,8,1,0,15,88] rfl (Qt rfl (fun h22=> ?_) (fun h22=> ?_))))))
    ·have hwb:=(bit1 (by omega)).1 h22
     obtain⟨co,hco⟩: ∃co,(Za V1 x.own)[q]? =some co:=⟨_,Zj (by omega)⟩
     obtain⟨cr0,hcr0⟩: ∃co,r[q]? =some co:=⟨_,Zj (by rw[hmg.1];omega)⟩
     refine Qa (Qb rfl rfl (Qb rfl rfl (Qb rfl rfl (Qb rfl rfl (Y7 q Tryz.underlying9 rfl rfl rfl hco rfl (X0 byC 0 q hS20 rfl rfl rfl (by rfl) hcr0 IQ rfl ?_))))))
     intro bx23 capx23 hvx23
     refine WB 0 q co hS20 rfl hvx23 rfl rfl UJ (by rfl) ((XX hcr0).1) ?_
     intro w24 hS25; dsimp only[List.set]at hS25
     clear hS20
     refine Qf (Qm (Qc (Qi [78,77,14,13,11,10,23,22,21,8,1,0] rfl (Qa (QP rfl rfl (by omega) (by omega) rfl ?_)))))
     exact Qb rfl rfl (Qf (QE (L1:=[(0,_),(1,_),(8,_),(21,_),(22,_),(23,_),(10,_),(11,_),(13,_),(14,_),(77,_),(78,intV ((q+1:Nat):Int))]) (LI rfl rfl rfl rfl rfl rfl rfl rfl rfl rfl rfl rfl) (k1:=64 -(q+1)) (by omega) ⟨q+1,_,rfl,rfl,hS25.pick [0,1,2,3,4,5,6,7,8,9,10,11,12,13,14,15] rfl, by omega,hmg.T (by omega) hwb hco⟩))
    have hwb:x.wr.getLsbD q=false:= by have :=(not_congr (bit1 (by omega))).1 h22;simpa using this
    refine Qs (Qm (Qc (Qa (QP rfl rfl (by omega) (by omega) rfl ?_))))
    refine Qb rfl rfl (Qf ?_)
    exact QE (L1:=[(0,_),(1,_),(8,_),(21,_),(22,_),(23,_),(10,_),(11,_),(13,_),(14,_),(77,_),(78,intV ((q+1:Nat):Int))]) (LI rfl rfl rfl rfl rfl rfl rfl rfl rfl rfl rfl rfl) (k1:=64 -(q+1)) (by omega) ⟨q+1,_,rfl,rfl,hS20.pick [0,1,2,3,4,5,6,7,8,9,10,11,12,13,14,15] rfl, by omega,hmg.F hwb⟩
   refine QY (Qq (Qq (Q0 (Qc (Qi [13,10,23,22,21,8,1,0] rfl (Qd ?_))))))
   have hS26:=hS20.drew
   refine QO [0,1,2,3,4,5,6,7,8,9,10,11] [6] Wu (by kernel_rfl) ?_
   refine QJ rfl rfl rfl (Xr rfl rfl rfl (QZ rfl rfl rfl XM (QH rfl rfl rfl (Qn rfl Xu (hS26.cell 8 rfl rfl)) (QJ rfl rfl rfl (QH rfl rfl rfl (TV 0 hS26 rfl rfl Tryz.underlying143 Tryz.underlying5 Tryz.underlying9) (Xp rfl rfl rfl rfl rfl rfl ?_))))))
   have hr64:q=64:= by omega
   subst hr64
   have hre:=hmg.fin hnl hol
   rw[hmd.pg _ (hI.aliveS _ _),hmd.pg x.own hao]at hre
   refine Ql L4 rfl (Oc (hS26.sp [12] rfl) (by omega) (by rw[hre]; exact UT)) rfl ?_
   rintro e w27 ⟨_,rfl,(⟨hz0,rfl,hS27⟩ | ⟨hz0,rfl,hag,hS27⟩ | ⟨s2,hz0,rfl,hs1,hv1,hS27⟩)⟩
   ·refine⟨_,rfl, ?_⟩
    replace hS27:=hS27.jn rfl rfl
    clear hS26
    have hmd2:=hmd.zero hk hnd hl hneed hz0 hre
    refine XB (Xx (by kernel_rfl)) ?_
    refine QJ rfl rfl rfl (Wm rfl rfl rfl rfl (Wm rfl rfl rfl rfl (XU rfl rfl rfl (XU rfl rfl rfl (VC.nil (Qc (Qi [10,23,22,21,8,1,0,16,17] rfl (Qd (Qd (Qa (Qb rfl rfl (X6 rfl rfl rfl (Qf (Qc (Qt rfl (fun h28=> ?_) (fun h28=> ?_))))))))))))))))
    ·exact absurd rfl h28
    refine Qs (Qc (Qi [10,23,22,21,8,1,0,16] rfl ?_))
    have hS29:=Wo hl (hS27.pick [2,3,0,1,4,5,6,7,8,9,10,11,12,13,14,15] rfl)
    refine Qa (Qb rfl rfl (XF rfl XE Xn (hS29.blk 3 rfl) (XJ rfl) rfl rfl (Qb rfl rfl (Xq (k:=k) (v:=intV 0) 13 hS29 keysKey Tryz.underlying81 rfl rfl rfl rfl ?_))))
    intro w30 hS30; dsimp only[List.set]at hS30; rw[C9]at hS30
    clear hS29
    refine Qf (Qm (Qc (Qi [23,22,21,8,1,0] rfl (Qa (QP rfl rfl (by omega) (by omega) rfl ?_)))))
    refine Qb rfl rfl (Qf ?_)
    exact QE (L1:=[(0,_),(1,_),(8,_),(21,_),(22,_),(23,intV ((i+1:Nat):Int))]) (UB rfl rfl rfl rfl rfl rfl) (k1:=order.length -(i+1)) (by omega) ⟨i+1,_,_,_, by omega,rfl,hS30.pick [4,5,0,6,7,8,9,10,11,1,12,13,14] rfl, by omega,hmd2⟩
   ·refine⟨_,rfl, ?_⟩
    replace hS27:=hS27.jn rfl rfl
    clear hS26
    refine XB (Xx (by kernel_rfl)) ?_
    refine QJ rfl rfl rfl (Wm rfl rfl rfl rfl (Wm rfl rfl rfl rfl (XU rfl rfl rfl (XU rfl rfl rfl (VC.nil (Qc (Qi [10,23,22,21,8,1,0,16,17] rfl (Qd (Qd (Qa (Qb rfl rfl (X6 rfl rfl rfl (Qf (Qc (Qt rfl (fun h31=> ?_) (fun h31=> ?_))))))))))))))))
    ·refine Qd (Qd (Qa (Qb rfl rfl ?_)))
     have hS32:=Wo hl (hS27.pick [2,3,0,1,4,5,6,7,8,9,10,11,12,13,14,15] rfl)
     have hcm: ∀{ks:List KD},Came (Gz made) ks→ks.length≤c:= fun h=>Nat.le_trans (hmd.came h) (by rw[List.length_take];omega)
     refine qac Fq rfl (Mq (hS32.sp [13] rfl) (fun ks h=> by have :=hcm h;omega)) rfl ?_
     rintro _ w33 ⟨ks,hks,hS33⟩
     replace hS33:=hS33.jn rfl rfl
     clear hS32
     obtain⟨au,cu,hvu,_⟩:=hS33.own_shape 0 rfl; obtain rfl:=hvu
     have hndk:=HR hks.nodup
     have hlk:(QV ks).length≤c:= by rw[WK]; exact hcm (Came.of_all hks)
     refine XA Tryz.underlying98 rfl rfl (Qb rfl rfl (Qf (Qc (Qi [10,23,22,21,8,1,0,16,17,109,110,111] rfl (Qx ?_)))))
     refine Xk (fun K0 E0 W0=> ∃(j:Nat) (V2:VS) (ex2:Int→Int),K0=(QV ks).length -j∧E0=[(0,ptrV b 0),(8,.map (some mm)),(17,intV 6),(109,.slice au (QV ks).length cu),(110,intV ((QV ks).length:Int)),(111,intV (j:Int))]∧Sat W0 [QK t.ad [intV t.parent,.map (some t.ml),.map (some t.md)],Q8 X4 t.ml (Zp LfD.ad t.lv),Z6 RM t.lv,Q8 Xw t.md (Jl t.dr),Z6 K7 (X5 L.tr id none),QK b [ptrV L.sp 0,.map (some L.mp),.map (some L.mt),intV L.cur,.map (some L.ms)],Q8 X4 L.mp (Zz L.pres),Q8 Xl L.mt (Zp TrD.ad L.tr),Q8 Xl L.ms (Jl L.sh),Zw L.sp (n+i+1+j) Fr V2,rowT kC (.slice ar order.length cr) order,Q8 X4 mm (Gz made),rowT kC (.slice au (QV ks).length cu) (QV ks),F]∧(j≤(QV ks).length)∧(UnI m L V1 V2 made ((QV ks).take j) ex2)) (L0:=[(0,_),(8,_),(17,_),(109,_),(110,_),(111,_)]) ((QV ks).length) (UB rfl rfl rfl rfl rfl rfl) ⟨0,V1,ex, by omega,rfl,hS33.pick [6,7,2,8,9,10,11,12,13,3,14,1,0,15] rfl, by omega,hmd.un⟩ ?_
     rintro _ _ w34 ⟨j,V2,ex2,rfl,rfl,hS34,hjl,hun⟩
     refine Qd (Qa (Xh rfl rfl rfl (Qf (Qc (Qd (Qt rfl (fun h35=> ?_) (fun h35=> ?_)))))))
     ·obtain⟨k2,hj⟩: ∃k,(QV ks)[j]? =some k:=⟨_,Zj (by omega)⟩
      refine Qs (Qc (Qd (Qx (Qd (Qa (X0 kC 12 j hS34 rfl rfl rfl (by rfl) hj B4 rfl ?_))))))
      intro bx36 capx36 hvx36
      refine Wq 12 j hS34 rfl hvx36 rfl hj XE Xn rfl rfl (Xm hS34 ZS rfl rfl ?_)
      intro kb wk37 hk37
      clear hS34
      refine Xe hk37 rfl rfl Xn rfl (by rfl) (i:=0) rfl (by decide) ?_
      intro wk38 hk38; dsimp only[List.set]at hk38
      clear hk37
      replace hk38:=XT (k:=k2) hk38
      refine Qf (Qc ?_)
      have hS39:=hk38.drew
      refine QO [0,1,2,3,4,5,6,7] [7] Wu (by kernel_rfl) ?_
      refine QJ rfl rfl rfl (Xr rfl rfl rfl (QZ rfl rfl rfl XM (QH rfl rfl rfl (Qn rfl Xu (hS39.cell 6 rfl rfl)) (QJ rfl rfl rfl (QH rfl rfl rfl (XK rfl XE Xn (hS39.blk 0 rfl) (XJ rfl) rfl) (QH rfl rfl rfl (X3 (k:=k2) 12 hS39 keysKey Tryz.underlying81 rfl rfl rfl HJ (u:=intV (HU made k2)) FV) (Xp rfl rfl rfl rfl rfl rfl (qac Gn rfl (R1 (hS39.sp [10] rfl) (by omega) (HU made k2)) rfl ?_))))))))
      rintro _ w40 ⟨e0,rfl,hS40⟩
      replace hS40:=hS40.jn rfl rfl
      clear hS39
      refine XB (Xx (by kernel_rfl)) ?_
      refine VC.nil (Qm (Qc (Qi [111,110,109,17,8,0] rfl (Qa (QP rfl rfl (by omega) (by omega) rfl ?_)))))
      refine Qb rfl rfl (Qf ?_)
      have hun2:=hun.step hj hndk
      exact QE (L1:=[(0,_),(8,_),(17,_),(109,_),(110,_),(111,intV ((j+1:Nat):Int))]) (UB rfl rfl rfl rfl rfl rfl) (k1:=(QV ks).length -(j+1)) (by omega) ⟨j+1,_,_, by omega,rfl,hS40.pick [2,3,4,5,6,7,8,9,10,0,11,12,13,14] rfl, by omega,hun2⟩
     refine QY (Qq (Qq (Q0 (Qc (Qd (Qa (Qb rfl rfl (Qe rfl rfl (Qe rfl rfl (Qf (Qc (Qw (Qo (Qy (Qo (Qo (Qy (Qo (W5 (.inr rfl) rfl rfl rfl ?_)))))))))))))))))))
     have hjj:j=(QV ks).length:= by omega
     rw[hjj,List.take_length]at hun
     have huf:=hun.fin (fun k hk=>(YB ks).mem_iff.2 ((hks.mem k).2 (by unfold Gz; cases q:made k with | none=> exact absurd q hk | some s=> simp)))
     have hS41:=Zs ht (hS34.pick [0,1,2,3,4,5,6,7,8,9,10,11,12,13] rfl)
     exact⟨_,rfl,V2,.inr ⟨rfl,huf,hun.ab.trans hmd.ab, fun c q=> by have :=Ua (hmd.al c q) hag; exact Nat.le_trans this (Nat.add_le_add_left (RA hilt) c), fun c q=>(hun.al _ (hmd.al c q)).mono (Nat.add_le_add_left (RA hilt) c),((X7 (m:=n+2*c) (by omega) (hS41.pick [5,1,2,3,0,4,6,9] rfl)).reorder [1,2,3,4,5,0,6,7] rfl |> fun q=>Xj q)⟩⟩
    exact absurd (by decide) h31
   refine⟨_,rfl, ?_⟩
   replace hS27:=hS27.jn rfl rfl
   clear hS26
   have hmd2:=hmd.fresh hk hnd hl hneed hs1 hv1 hre
   refine XB (Xx (by kernel_rfl)) ?_
   refine QJ rfl rfl rfl (Wm rfl rfl rfl rfl (Wm rfl rfl rfl rfl (XU rfl rfl rfl (XU rfl rfl rfl (VC.nil (Qc (Qi [10,23,22,21,8,1,0,16,17] rfl (Qd (Qd (Qa (Qb rfl rfl (X6 rfl rfl rfl (Qf (Qc (Qt rfl (fun h42=> ?_) (fun h42=> ?_))))))))))))))))
   ·exact absurd rfl h42
   refine Qs (Qc (Qi [10,23,22,21,8,1,0,16] rfl ?_))
   have hS43:=Wo hl (hS27.pick [2,3,0,1,4,5,6,7,8,9,10,11,12,13,14,15] rfl)
   refine Qa (Qb rfl rfl (XF rfl XE Xn (hS43.blk 3 rfl) (XJ rfl) rfl rfl (Qb rfl rfl (Xq (k:=k) (v:=intV s2) 13 hS43 keysKey Tryz.underlying81 rfl rfl rfl rfl ?_))))
   intro w44 hS44; dsimp only[List.set]at hS44; rw[C9]at hS44
   clear hS43
   refine Qf (Qm (Qc (Qi [23,22,21,8,1,0] rfl (Qa (QP rfl rfl (by omega) (by omega) rfl ?_)))))
   refine Qb rfl rfl (Qf ?_)
   exact QE (L1:=[(0,_),(1,_),(8,_),(21,_),(22,_),(23,intV ((i+1:Nat):Int))]) (UB rfl rfl rfl rfl rfl rfl) (k1:=order.length -(i+1)) (by omega) ⟨i+1,_,_,_, by omega,rfl,hS44.pick [4,5,0,6,7,8,9,10,11,1,12,13,14] rfl, by omega,hmd2⟩
  refine U6 (sp:=[5,6,15]) [0,1,2,3,4,7,8,9,10,11,12,13,14,5,15,6,16,17] (by kernel_rfl) ?_
  refine QJ rfl rfl rfl (Xr rfl rfl rfl (QZ rfl rfl rfl XM (QH rfl rfl rfl (Qn rfl Xu (hS16.cell 2 rfl rfl)) (QJ rfl rfl rfl (QJ rfl rfl rfl (Xr rfl rfl rfl (QZ rfl rfl rfl XM (QH rfl rfl rfl (Qn rfl Xu (hS16.cell 2 rfl rfl)) (QJ rfl rfl rfl (Xr rfl rfl rfl (QZ rfl rfl rfl Jy (QH rfl rfl rfl (Qn rfl QS (hS16.cell 0 rfl rfl)) (Xp rfl rfl rfl rfl rfl rfl (qac JU rfl (Y9 (hS16.sp [11] rfl) (Xi L t.parent k)) rfl ?_))))))))))))))
  rintro _ w45 ⟨rfl,hS45⟩
  replace hS45:=hS45.jn rfl rfl
  clear hS16
  refine XB (.cons (.inl ⟨rfl,(Qn rfl QS (hS45.cell 1 rfl rfl))⟩) (.cons (.inl ⟨rfl,(Qn rfl Xu (hS45.cell 3 rfl rfl))⟩) (Xx (by kernel_rfl)))) ?_
  refine Xp rfl rfl rfl rfl rfl rfl (qac JU rfl (Y9 (hS45.sp [0] rfl) (x.own)) rfl ?_)
  rintro _ w46 ⟨rfl,hS46⟩
  replace hS46:=hS46.jn rfl rfl
  clear hS45
  refine XB (Xx (by kernel_rfl)) ?_
  refine Xp rfl rfl rfl rfl rfl rfl (Bq hS46 rfl Tryz.underlying9 Tryz.underlying143 Tryz.underlying5 rfl ?_)
  intro v47 w47 hS47
  clear hS46
  refine XB (.cons (.inl ⟨rfl,(Qn rfl QS (hS47.cell 2 rfl rfl))⟩) (.cons (.inl ⟨rfl,(Qn rfl Xu (hS47.cell 4 rfl rfl))⟩) (Xx (by kernel_rfl)))) ?_
  refine XU rfl rfl rfl (XU rfl rfl rfl (VC.nil (Qc (Qi [23,22,21,8,1,0,10,11,13,14] rfl (Qd (Qd ?_))))))
  have hnl:(Za V1 (Xi L t.parent k)).length=64:= by rw[hmd.pg _ (hI.aliveS _ _)]; exact hI.len (hI.aliveS _ _)
  have hao:XW V x.own:= by have ha:=hI.alive (.inr (id,k,true)); rw[XG ht hl]at ha; exact ha
  have hol:(Za V1 x.own).length=64:= by rw[hmd.pg _ hao]; exact hI.len hao
  obtain⟨ab,cb,hvb,_⟩:=hS47.own_shape 0 rfl; rw[hnl]at hvb; obtain rfl:=hvb
  refine Qa (Qb rfl rfl (XA Tryz.underlying143 rfl rfl (Qb rfl rfl (Qf (Qc (Qx ?_))))))
  have hoz:=hS47.pick [0,1,2,3,4,5,6,7,8,9,10,11,12,13,14,15] rfl
  refine Xk (fun K0 E0 W0=> ∃(q:Nat) (r:Bs),K0=64 -q∧E0=[(0,ptrV b 0),(1,ptrV t.ad 0),(8,.map (some mm)),(21,.slice ar order.length cr),(22,intV (order.length:Int)),(23,intV (i:Int)),(10,ptrV kb 0),(11,ptrV x.ad 0),(13,.slice ab 64 cb),(14,strV (Za V1 x.own)),(77,intV 64),(78,intV (q:Int))]∧Sat W0 [rowT byC (.slice ab 64 cb) r,QK x.ad [intV x.base,intV x.own,Z0 x.rd,Z0 x.wr],Z6 RM (X5 t.lv k none),QK kb [strV k.1,intV k.2],QK t.ad [intV t.parent,.map (some t.ml),.map (some t.md)],Q8 X4 t.ml (Zp LfD.ad t.lv),Q8 Xw t.md (Jl t.dr),Z6 K7 (X5 L.tr id none),QK b [ptrV L.sp 0,.map (some L.mp),.map (some L.mt),intV L.cur,.map (some L.ms)],Q8 X4 L.mp (Zz L.pres),Q8 Xl L.mt (Zp TrD.ad L.tr),Q8 Xl L.ms (Jl L.sh),Zw L.sp (n+i) Fr V1,rowT kC (.slice ar order.length cr) order,Q8 X4 mm (Gz made),F]∧(q≤64)∧(MgI (Za V1 (Xi L t.parent k)) (Za V1 x.own) r x.wr q)) (L0:=[(0,_),(1,_),(8,_),(21,_),(22,_),(23,_),(10,_),(11,_),(13,_),(14,_),(77,_),(78,_)]) (64) (LI rfl rfl rfl rfl rfl rfl rfl rfl rfl rfl rfl rfl) ⟨0,_,rfl,rfl,hoz.pick [0,2,3,9,10,11,12,7,4,5,6,8,1,13,14,15] rfl, by omega,MgI.start hnl⟩ ?_
  rintro _ _ w48 ⟨q,r,rfl,rfl,hS48,hq,hmg⟩
  refine Qd (Qa (Xh rfl rfl rfl (Qf (Qc (Qd (Qt rfl (fun h49=> ?_) (fun h49=> ?_)))))))
  ·refine Qs (Qc (Qd (Qx (Qd (Qa (Qb rfl rfl (Qe rfl rfl (Qf (Qc (Qd (Qa (Qb rfl rfl (Qk rfl rfl (Qg rfl WD rfl (Qp rfl Y2 (hS48.cell 1 rfl rfl) rfl (Qb rfl rfl (NA q rfl rfl (by omega) rfl ?_)))))))))))))))))
   refine D5 (b:=1#64) rfl rfl rfl (Xd rfl rfl rfl (Qf (Qc (Qi [78,77,14,13,11,10,23,22,21,8,1,0,15,88] rfl (Qt rfl (fun h50=> ?_) (fun h50=> ?_))))))
   ·have hwb:=(bit1 (by omega)).1 h50
    obtain⟨co,hco⟩: ∃co,(Za V1 x.own)[q]? =some co:=⟨_,Zj (by omega)⟩
    obtain⟨cr0,hcr0⟩: ∃co,r[q]? =some co:=⟨_,Zj (by rw[hmg.1];omega)⟩
    refine Qa (Qb rfl rfl (Qb rfl rfl (Qb rfl rfl (Qb rfl rfl (Y7 q Tryz.underlying9 rfl rfl rfl hco rfl (X0 byC 0 q hS48 rfl rfl rfl (by rfl) hcr0 IQ rfl ?_))))))
    intro bx51 capx51 hvx51
    refine WB 0 q co hS48 rfl hvx51 rfl rfl UJ (by rfl) ((XX hcr0).1) ?_
    intro w52 hS53; dsimp only[List.set]at hS53
    clear hS48
    refine Qf (Qm (Qc (Qi [78,77,14,13,11,10,23,22,21,8,1,0] rfl (Qa (QP rfl rfl (by omega) (by omega) rfl ?_)))))
    exact Qb rfl rfl (Qf (QE (L1:=[(0,_),(1,_),(8,_),(21,_),(22,_),(23,_),(10,_),(11,_),(13,_),(14,_),(77,_),(78,intV ((q+1:Nat):Int))]) (LI rfl rfl rfl rfl rfl rfl rfl rfl rfl rfl rfl rfl) (k1:=64 -(q+1)) (by omega) ⟨q+1,_,rfl,rfl,hS53.pick [0,1,2,3,4,5,6,7,8,9,10,11,12,13,14,15] rfl, by omega,hmg.T (by omega) hwb hco⟩))
   have hwb:x.wr.getLsbD q=false:= by have :=(not_congr (bit1 (by omega))).1 h50;simpa using this
   refine Qs (Qm (Qc (Qa (QP rfl rfl (by omega) (by omega) rfl ?_))))
   refine Qb rfl rfl (Qf ?_)
   exact QE (L1:=[(0,_),(1,_),(8,_),(21,_),(22,_),(23,_),(10,_),(11,_),(13,_),(14,_),(77,_),(78,intV ((q+1:Nat):Int))]) (LI rfl rfl rfl rfl rfl rfl rfl rfl rfl rfl rfl rfl) (k1:=64 -(q+1)) (by omega) ⟨q+1,_,rfl,rfl,hS48.pick [0,1,2,3,4,5,6,7,8,9,10,11,12,13,14,15] rfl, by omega,hmg.F hwb⟩
  refine QY (Qq (Qq (Q0 (Qc (Qi [13,10,23,22,21,8,1,0] rfl (Qd ?_))))))
  have hS54:=hS48.drew
  refine QO [0,1,2,3,4,5,6,7,8,9,10,11] [6] Wu (by kernel_rfl) ?_
  refine QJ rfl rfl rfl (Xr rfl rfl rfl (QZ rfl rfl rfl XM (QH rfl rfl rfl (Qn rfl Xu (hS54.cell 8 rfl rfl)) (QJ rfl rfl rfl (QH rfl rfl rfl (TV 0 hS54 rfl rfl Tryz.underlying143 Tryz.underlying5 Tryz.underlying9) (Xp rfl rfl rfl rfl rfl rfl ?_))))))
  have hr64:q=64:= by omega
  subst hr64
  have hre:=hmg.fin hnl hol
  rw[hmd.pg _ (hI.aliveS _ _),hmd.pg x.own hao]at hre
  refine Ql L4 rfl (Oc (hS54.sp [12] rfl) (by omega) (by rw[hre]; exact UT)) rfl ?_
  rintro e w55 ⟨_,rfl,(⟨hz0,rfl,hS55⟩ | ⟨hz0,rfl,hag,hS55⟩ | ⟨s2,hz0,rfl,hs1,hv1,hS55⟩)⟩
  ·refine⟨_,rfl, ?_⟩
   replace hS55:=hS55.jn rfl rfl
   clear hS54
   have hmd2:=hmd.zero hk hnd hl hneed hz0 hre
   refine XB (Xx (by kernel_rfl)) ?_
   refine QJ rfl rfl rfl (Wm rfl rfl rfl rfl (Wm rfl rfl rfl rfl (XU rfl rfl rfl (XU rfl rfl rfl (VC.nil (Qc (Qi [10,23,22,21,8,1,0,16,17] rfl (Qd (Qd (Qa (Qb rfl rfl (X6 rfl rfl rfl (Qf (Qc (Qt rfl (fun h56=> ?_) (fun h56=> ?_))))))))))))))))
   ·exact absurd rfl h56
   refine Qs (Qc (Qi [10,23,22,21,8,1,0,16] rfl ?_))
   have hS57:=Wo hl (hS55.pick [2,3,0,1,4,5,6,7,8,9,10,11,12,13,14,15] rfl)
   refine Qa (Qb rfl rfl (XF rfl XE Xn (hS57.blk 3 rfl) (XJ rfl) rfl rfl (Qb rfl rfl (Xq (k:=k) (v:=intV 0) 13 hS57 keysKey Tryz.underlying81 rfl rfl rfl rfl ?_))))
   intro w58 hS58; dsimp only[List.set]at hS58; rw[C9]at hS58
   clear hS57
   refine Qf (Qm (Qc (Qi [23,22,21,8,1,0] rfl (Qa (QP rfl rfl (by omega) (by omega) rfl ?_)))))
   refine Qb rfl rfl (Qf ?_)
   exact QE (L1:=[(0,_),(1,_),(8,_),(21,_),(22,_),(23,intV ((i+1:Nat):Int))]) (UB rfl rfl rfl rfl rfl rfl) (k1:=order.length -(i+1)) (by omega) ⟨i+1,_,_,_, by omega,rfl,hS58.pick [4,5,0,6,7,8,9,10,11,1,12,13,14] rfl, by omega,hmd2⟩
  ·refine⟨_,rfl, ?_⟩
   replace hS55:=hS55.jn rfl rfl
   clear hS54
   refine XB (Xx (by kernel_rfl)) ?_
   refine QJ rfl rfl rfl (Wm rfl rfl rfl rfl (Wm rfl rfl rfl rfl (XU rfl rfl rfl (XU rfl rfl rfl (VC.nil (Qc (Qi [10,23,22,21,8,1,0,16,17] rfl (Qd (Qd (Qa (Qb rfl rfl (X6 rfl rfl rfl (Qf (Qc (Qt rfl (fun h59=> ?_) (fun h59=> ?_))))))))))))))))
   ·refine Qd (Qd (Qa (Qb rfl rfl ?_)))
    have hS60:=Wo hl (hS55.pick [2,3,0,1,4,5,6,7,8,9,10,11,12,13,14,15] rfl)
    have hcm: ∀{ks:List KD},Came (Gz made) ks→ks.length≤c:= fun h=>Nat.le_trans (hmd.came h) (by rw[List.length_take];omega)
    refine qac Fq rfl (Mq (hS60.sp [13] rfl) (fun ks h=> by have :=hcm h;omega)) rfl ?_
    rintro _ w61 ⟨ks,hks,hS61⟩
    replace hS61:=hS61.jn rfl rfl
    clear hS60
    obtain⟨au,cu,hvu,_⟩:=hS61.own_shape 0 rfl; obtain rfl:=hvu
    have hndk:=HR hks.nodup
    have hlk:(QV ks).length≤c:= by rw[WK]; exact hcm (Came.of_all hks)
    refine XA Tryz.underlying98 rfl rfl (Qb rfl rfl (Qf (Qc (Qi [10,23,22,21,8,1,0,16,17,109,110,111] rfl (Qx ?_)))))
    refine Xk (fun K0 E0 W0=> ∃(j:Nat) (V2:VS) (ex2:Int→Int),K0=(QV ks).length -j∧E0=[(0,ptrV b 0),(8,.map (some mm)),(17,intV 6),(109,.slice au (QV ks).length cu),(110,intV ((QV ks).length:Int)),(111,intV (j:Int))]∧Sat W0 [QK t.ad [intV t.parent,.map (some t.ml),.map (some t.md)],Q8 X4 t.ml (Zp LfD.ad t.lv),Z6 RM t.lv,Q8 Xw t.md (Jl t.dr),Z6 K7 (X5 L.tr id none),QK b [ptrV L.sp 0,.map (some L.mp),.map (some L.mt),intV L.cur,.map (some L.ms)],Q8 X4 L.mp (Zz L.pres),Q8 Xl L.mt (Zp TrD.ad L.tr),Q8 Xl L.ms (Jl L.sh),Zw L.sp (n+i+1+j) Fr V2,rowT kC (.slice ar order.length cr) order,Q8 X4 mm (Gz made),rowT kC (.slice au (QV ks).length cu) (QV ks),F]∧(j≤(QV ks).length)∧(UnI m L V1 V2 made ((QV ks).take j) ex2)) (L0:=[(0,_),(8,_),(17,_),(109,_),(110,_),(111,_)]) ((QV ks).length) (UB rfl rfl rfl rfl rfl rfl) ⟨0,V1,ex, by omega,rfl,hS61.pick [6,7,2,8,9,10,11,12,13,3,14,1,0,15] rfl, by omega,hmd.un⟩ ?_
    rintro _ _ w62 ⟨j,V2,ex2,rfl,rfl,hS62,hjl,hun⟩
    refine Qd (Qa (Xh rfl rfl rfl (Qf (Qc (Qd (Qt rfl (fun h63=> ?_) (fun h63=> ?_)))))))
    ·obtain⟨k2,hj⟩: ∃k,(QV ks)[j]? =some k:=⟨_,Zj (by omega)⟩
     refine Qs (Qc (Qd (Qx (Qd (Qa (X0 kC 12 j hS62 rfl rfl rfl (by rfl) hj B4 rfl ?_))))))
     intro bx64 capx64 hvx64
     refine Wq 12 j hS62 rfl hvx64 rfl hj XE Xn rfl rfl (Xm hS62 ZS rfl rfl ?_)
     intro kb wk65 hk65
     clear hS62
     refine Xe hk65 rfl rfl Xn rfl (by rfl) (i:=0) rfl (by decide) ?_
     intro wk66 hk66; dsimp only[List.set]at hk66
     clear hk65
     replace hk66:=XT (k:=k2) hk66
     refine Qf (Qc ?_)
     have hS67:=hk66.drew
     refine QO [0,1,2,3,4,5,6,7] [7] Wu (by kernel_rfl) ?_
     refine QJ rfl rfl rfl (Xr rfl rfl rfl (QZ rfl rfl rfl XM (QH rfl rfl rfl (Qn rfl Xu (hS67.cell 6 rfl rfl)) (QJ rfl rfl rfl (QH rfl rfl rfl (XK rfl XE Xn (hS67.blk 0 rfl) (XJ rfl) rfl) (QH rfl rfl rfl (X3 (k:=k2) 12 hS67 keysKey Tryz.underlying81 rfl rfl rfl HJ (u:=intV (HU made k2)) FV) (Xp rfl rfl rfl rfl rfl rfl (qac Gn rfl (R1 (hS67.sp [10] rfl) (by omega) (HU made k2)) rfl ?_))))))))
     rintro _ w68 ⟨e0,rfl,hS68⟩
     replace hS68:=hS68.jn rfl rfl
     clear hS67
     refine XB (Xx (by kernel_rfl)) ?_
     refine VC.nil (Qm (Qc (Qi [111,110,109,17,8,0] rfl (Qa (QP rfl rfl (by omega) (by omega) rfl ?_)))))
     refine Qb rfl rfl (Qf ?_)
     have hun2:=hun.step hj hndk
     exact QE (L1:=[(0,_),(8,_),(17,_),(109,_),(110,_),(111,intV ((j+1:Nat):Int))]) (UB rfl rfl rfl rfl rfl rfl) (k1:=(QV ks).length -(j+1)) (by omega) ⟨j+1,_,_, by omega,rfl,hS68.pick [2,3,4,5,6,7,8,9,10,0,11,12,13,14] rfl, by omega,hun2⟩
    refine QY (Qq (Qq (Q0 (Qc (Qd (Qa (Qb rfl rfl (Qe rfl rfl (Qe rfl rfl (Qf (Qc (Qw (Qo (Qy (Qo (Qo (Qy (Qo (W5 (.inr rfl) rfl rfl rfl ?_)))))))))))))))))))
    have hjj:j=(QV ks).length:= by omega
    rw[hjj,List.take_length]at hun
    have huf:=hun.fin (fun k hk=>(YB ks).mem_iff.2 ((hks.mem k).2 (by unfold Gz; cases q:made k with | none=> exact absurd q hk | some s=> simp)))
    have hS69:=Zs ht (hS62.pick [0,1,2,3,4,5,6,7,8,9,10,11,12,13] rfl)
    exact⟨_,rfl,V2,.inr ⟨rfl,huf,hun.ab.trans hmd.ab, fun c q=> by have :=Ua (hmd.al c q) hag; exact Nat.le_trans this (Nat.add_le_add_left (RA hilt) c), fun c q=>(hun.al _ (hmd.al c q)).mono (Nat.add_le_add_left (RA hilt) c),((X7 (m:=n+2*c) (by omega) (hS69.pick [5,1,2,3,0,4,6,9] rfl)).reorder [1,2,3,4,5,0,6,7] rfl |> fun q=>Xj q)⟩⟩
   exact absurd (by decide) h59
  refine⟨_,rfl, ?_⟩
  replace hS55:=hS55.jn rfl rfl
  clear hS54
  have hmd2:=hmd.fresh hk hnd hl hneed hs1 hv1 hre
  refine XB (Xx (by kernel_rfl)) ?_
  refine QJ rfl rfl rfl (Wm rfl rfl rfl rfl (Wm rfl rfl rfl rfl (XU rfl rfl rfl (XU rfl rfl rfl (VC.nil (Qc (Qi [10,23,22,21,8,1,0,16,17] rfl (Qd (Qd (Qa (Qb rfl rfl (X6 rfl rfl rfl (Qf (Qc (Qt rfl (fun h70=> ?_) (fun h70=> ?_))))))))))))))))
  ·exact absurd rfl h70
  refine Qs (Qc (Qi [10,23,22,21,8,1,0,16] rfl ?_))
  have hS71:=Wo hl (hS55.pick [2,3,0,1,4,5,6,7,8,9,10,11,12,13,14,15] rfl)
  refine Qa (Qb rfl rfl (XF rfl XE Xn (hS71.blk 3 rfl) (XJ rfl) rfl rfl (Qb rfl rfl (Xq (k:=k) (v:=intV s2) 13 hS71 keysKey Tryz.underlying81 rfl rfl rfl rfl ?_))))
  intro w72 hS72; dsimp only[List.set]at hS72; rw[C9]at hS72
  clear hS71
  refine Qf (Qm (Qc (Qi [23,22,21,8,1,0] rfl (Qa (QP rfl rfl (by omega) (by omega) rfl ?_)))))
  refine Qb rfl rfl (Qf ?_)
  exact QE (L1:=[(0,_),(1,_),(8,_),(21,_),(22,_),(23,intV ((i+1:Nat):Int))]) (UB rfl rfl rfl rfl rfl rfl) (k1:=order.length -(i+1)) (by omega) ⟨i+1,_,_,_, by omega,rfl,hS72.pick [4,5,0,6,7,8,9,10,11,1,12,13,14] rfl, by omega,hmd2⟩
 refine QY (Qq (Qq (Q0 (Qc (Qd (Qa (Qb rfl rfl (Qe rfl rfl (Qe rfl rfl (Qf (Qc (Qw (W5 (.inr rfl) rfl rfl rfl ?_)))))))))))))
 have hil:i=order.length:= by omega
 rw[hil,List.take_length]at hmd
 have hS73:=Zs ht (hS2.pick [0,1,2,3,4,5,6,7,8,9,10,11,12] rfl)
 exact⟨_,rfl,V1,.inl ⟨mm,made,ex,rfl,hmd,((X7 (m:=n+2*c) (by omega) (hS73.pick [5,1,2,3,0,4,6,7,8] rfl)).reorder [1,2,3,4,5,0,6,7,8] rfl |> fun q=>Xj q)⟩⟩
end Go.Proofs.YtkcjfoaejijdoaaGreatDoor
