/- leaves: merged -/
import Derived.Test.YtkgjmhcdacidoaaGreatDoorLv16
import Derived.Shelf.Spec.TrailingZeros
set_option linter.unusedSectionVars false
set_option linter.unusedVariables false
set_option maxRecDepth 100000
set_option maxHeartbeats 3200000
namespace Go.Proofs.YtkgjmhcdacidoaaGreatDoor
open Go.RowKit M Proofs.Tryz
variable [Inhabited SlW]
theorem MdI.came {m:Nat} {L:LvD} {V V1:VS} {t:TrD} {ex:Int→Int} {made:KD→Option Int} {l:List KD} (h:MdI m L V V1 t ex made l) {ks:List KD} (hc:Came (KS made) ks):ks.length≤l.length:=
  Wn hc.nodup fun k hk=>((h.dom k).1 fun q=>hc.has k hk (by unfold KS; rw[q];rfl)).1
theorem Ko {t:TrD} {l:List KD} {i:Nat} (hi:i<l.length):JP t (l.take i)≤JP t l:= by
  unfold JP
  have h:=List.filter_append (p:= fun k=>decide (∃x,t.lv k=some x∧x.wr≠0#64∧x.wr≠BitVec.allOnes 64)) (l.take i) (l.drop i)
  rw[List.take_append_drop]at h
  rw[h,List.length_append];omega
theorem all64 {w:BitVec 64} (h:(w.toNat:Int)=18446744073709551615):w=BitVec.allOnes 64:=BitVec.eq_of_toNat_eq (by simp;omega)
theorem zerW {w:BitVec 64} (h:(w.toNat:Int)=0):w=0#64:=BitVec.eq_of_toNat_eq (by simp;omega)
theorem bit1 {w:BitVec 64} {q:Nat} (hq:q<64):(((w>>>q)&&&1#64).toNat:Int)=1↔w.getLsbD q=true:= by
  have e:(1#64).toNat=1:=rfl
  rw[BitVec.toNat_and,BitVec.toNat_ushiftRight,←BitVec.testBit_toNat,e,Nat.and_one_is_mod,Nat.shiftRight_eq_div_pow,Nat.testBit_eq_decide_div_mod_eq,decide_eq_true_eq]
  generalize w.toNat/ 2^q=z
  omega
theorem SB {w:World} {m:Nat} {b n Fr:Nat} {L:LvD} {V:VS} {F:Th} {ar:Option Addr} {cr:Nat} {order:List KD} (hS:Sat w [WU b L,ZT L.sp n Fr V,rowT kC (.slice ar order.length cr) order,F]) {c:Nat} (hn:n+2*c≤60000000000) (hI:LvI m L V) (hm:m<Wd) {id:Int} {t:TrD} (ht:L.tr id=some t) (hord: ∀k,k∈order↔t.lv k≠none) (hnd:order.Nodup) (hoc:order.length≤c):
    Calls prog 58 #[ptrV b 0,ptrV t.ad 0,.slice ar order.length cr] w (Ret fun v w'=> ∃V',(∃mm made ex,v= .tuple #[.map (some mm),intV 0]∧MdI m L V V' t ex made order∧Sat w' [WU b L,ZT L.sp (n+2*c) Fr V',rowT kC (.slice ar order.length cr) order,Q6 X0 mm (KS made),F])∨(v= .tuple #[.map none,intV 6]∧LvI m L V'∧QG L V'=QG L V∧(∀c,AliveLe V c→Fr≤c+JP t order)∧(∀c,AliveLe V c→AliveLe V' (c+JP t order))∧Sat w' [WU b L,ZT L.sp (n+2*c) Fr V',rowT kC (.slice ar order.length cr) order,F])):= by
 have h0:id≠0:=hI.rank.none0 ht
 obtain⟨Av,hA0,hAv⟩:=hI.rank.av id
 have hcm0:True:=trivial
 replace hS:=Zb hS
 replace hS:=ZQ (hS.pick [3,0,1,2,4,5,6,7] U) ht
 refine Qn func58 U ntmps58 U ?_
 refine Qe (Qa (Qd U U (Qd U U (Qf (Qc (Qe (Qa (Zg X0 hS U ?_))))))))
 intro mm w1 j1
 rw[←L9]at j1
 refine Qd U U (Qf (Qc (Qe (Qe (Qa (Qb U U ?_))))))
 first | refine XB underlying123 U U ?_ | refine Xo 11 j1 underlying123 U U U ?_
 refine Qb U U (Qf (Qc (Qw ?_)))
 refine Xe (fun K0 E0 W0=> ∃(i:Nat) (V1:VS) (ex:Int→Int) (made:KD→Option Int),K0=order.length -i∧E0=[(0,ptrV b 0),(1,ptrV t.ad 0),(8,.map (some mm)),(21,.slice ar order.length cr),(22,intV (order.length:Int)),(23,intV (i:Int))]∧Sat W0 [QE t.ad [intV t.parent,.map (some t.ml),.map (some t.md)],Q6 X0 t.ml (XC LfD.ad t.lv),X6 KT t.lv,Q6 Zl t.md (JF t.dr),X6 VW (QO L.tr id none),QE b [ptrV L.sp 0,.map (some L.mp),.map (some L.mt),intV L.cur,.map (some L.ms)],Q6 X0 L.mp (Z3 L.pres),Q6 QX L.mt (XC TrD.ad L.tr),Q6 QX L.ms (JF L.sh),ZT L.sp (n+i) Fr V1,rowT kC (.slice ar order.length cr) order,Q6 X0 mm (KS made),F]∧(i≤order.length)∧(MdI m L V V1 t ex made (order.take i))) (L0:=[(0,_),(1,_),(8,_),(21,_),(22,_),(23,_)]) (order.length) (G4 U U U U U U) ⟨0,V,_,_, by omega,rfl,j1.pick [1,2,3,4,5,6,7,8,9,10,11,0,12] U, by omega,MdI.start hI⟩ ?_
 rintro _ _ w2 ⟨i,V1,ex,made,rfl,rfl,j2,hi,hmd⟩
 refine Qe (Qa (Xn U U U (Qf (Qc (Qe (Qt U (fun h3=> ?_) (fun h3=> ?_)))))))
 ·have hilt:i<order.length:= by omega
  obtain⟨k,hk⟩: ∃k,order[i]? =some k:=⟨_,Zd (by omega)⟩
  obtain⟨x,hl⟩: ∃x,t.lv k=some x:=Option.ne_none_iff_exists'.1 ((hord k).1 (List.mem_of_getElem? hk))
  refine Qs (Qc (Qe (Qw (Qe (Qa (Xg kC 10 i j2 U U U (by first | rfl | omega) hk U8 U ?_))))))
  intro bx4 capx4 hvx4
  refine ZG 10 i j2 U hvx4 U hk X2 Xf U U (Xa j2 WK U U ?_)
  intro kb wk5 hk5
  refine Q9 hk5 U U Xf U (by first | rfl | (simp [QV,Value.oneCell'];done)) (i:=0) U (by first | decide | exact Q7 U) ?_
  intro wk6 hk6; dsimp only[List.set]at hk6
  clear hk5
  replace hk6:=Z4 (k:=k) hk6
  refine Qf (Qc (Qe ?_))
  have j7:=hk6.drew
  refine QH [0,1,2,3,4,5,6,7,8,9,10,11,12,13,14] [12] ZW (by kernel_rfl) ?_
  refine QJ U U U (Xd U U U (QP U U U ZI (Q3 U U U (Qm U WF (by first | assumption | exact j7.cell 0 U U | exact j7.cell 1 U U | exact j7.cell 6 U U)) ?_)))
  refine Q3 U U U (X3 U X2 Xf (by first | exact j7.blk 0 U | exact j7.blk 1 U | exact j7.blk 6 U) (by first | decide | exact Q7 U | (simp;done) | omega) U) ?_
  refine Q3 U U U (Xt (k:=k) 2 j7 keysKey underlying110 U U U Yz (u:=ptrV x.ad 0) (XJ hl)) (QJ U U U (QJ U U U (Xd U U U (QP U U U WZ (Q3 U U U (Qm U QM (by first | assumption | exact j7.cell 0 U U | exact j7.cell 1 U U | exact j7.cell 6 U U)) ?_)))))
  refine Q3 U U U (X3 U X2 Xf (by first | exact j7.blk 0 U | exact j7.blk 1 U | exact j7.blk 6 U) (by first | decide | exact Q7 U | (simp;done) | omega) U) ?_
  refine Xl U U U U U U ?_
  refine Q0 B7 U (Tn (i0:=id) (j7.sp [6,7,8,5,9] U) (hI.rank.ends hm) hAv t.parent (hA0 t ht) k) U ?_
  rintro _ w8 ⟨rfl,j8⟩
  replace j8:=j8.jn U U
  refine XH (.skip (by kernel_rfl) (.skip (by kernel_rfl) (.cons (.inl ⟨rfl,(Xt (k:=k) 7 j8 keysKey underlying110 U U U Yz (u:=ptrV x.ad 0) (XJ hl))⟩) (.cons (.inl ⟨rfl,(X3 U X2 Xf (by first | exact j8.blk 0 U | exact j8.blk 5 U | exact j8.blk 6 U) (by first | decide | exact Q7 U | (simp;done) | omega) U)⟩) (.cons (.inl ⟨rfl,(Qm U WF (by first | assumption | exact j8.cell 0 U U | exact j8.cell 5 U U | exact j8.cell 6 U U))⟩) .nil))))) ?_
  refine Zo U U U (Zo U U U (VC.nil (Qc (Qh [23,22,21,8,1,0,10,11,12] U (Qe (Qe ?_))))))
  have j9:=Hg (j8.pick [8,0,1,2,3,4,5,6,7,9,10,11,12,13] U) hl
  refine Qa (Qb U U (Qi U U (Qg U Wo U (Qo U JB (by first | assumption | exact j9.cell 0 U U | exact j9.cell 2 U U | exact j9.cell 7 U U | exact j9.cell 8 U U) U ?_))))
  refine Xc U U U (Qb U U (QZ 45 U (fun h10=> ?_) (fun h10=> ?_)))
  ·have hnn: ¬Vv L t k x:= fun e=>e.1 (zerW h10)
   refine Qk U U (det h10) U (Qk U U (det h10) U (Qk U U (det h10) U (Qk U U (det h10) U (Qk U U (det h10) U (QN U (det h10) U U (Qb U U (Qk U U U U (Qk U U U U (Qk U U U U (Qk U U U U (Qk U U U U (Qk U U U U (QN U U U U (Qf (Qc (Qh [23,22,21,8,1,0,10,11,12,59] U (XD U (QT (Qq (Qy (Qc (Qa (QK U U (by omega) (by omega) U ?_)))))))))))))))))))))))
   refine Qb U U (Qf ?_)
   have j11:=ZS hl (j9.pick [0,1,2,3,4,5,6,7,8,9,10,11,12,13,14] U)
   exact Q5 (L1:=[(0,_),(1,_),(8,_),(21,_),(22,_),(23,intV ((i+1:Nat):Int))]) (G4 U U U U U U) (k1:=order.length -(i+1)) (by omega) ⟨i+1,V1,ex,made, by omega,rfl,(XM (m:=n+(i+1)) (by omega) (j11.pick [10,7,8,0,9,4,1,2,3,5,11,12,13] U)).reorder [1,2,3,4,5,6,7,8,9,0,10,11,12] U, by omega,hmd.skip hk hl hnn⟩
  have hw0:x.wr≠0#64:= fun e=>h10 (by rw[e];rfl)
  refine Qj U U (QF h10) (Qb U U (Qj U U (QF h10) (Qi U U (Qj U U (QF h10) (Qg U Wo U (Qj U U (QF h10) (Qo U JB (by first | assumption | exact j9.cell 0 U U | exact j9.cell 2 U U | exact j9.cell 7 U U | exact j9.cell 8 U U) U ?_)))))))
  refine Qj U U (QF h10) (Xc U U U (QC U (QF h10) U U (Qb U U (QZ 52 U (fun h12=> ?_) (fun h12=> ?_)))))
  ·have hnn: ¬Vv L t k x:= fun e=>e.2.1 (all64 h12)
   refine Qk U U (det h12) U (Qk U U (det h12) U (Qk U U (det h12) U (Qk U U (det h12) U (Qk U U (det h12) U (Qk U U (det h12) U (QN U (det h12) U U (Qf (Qc (Qh [23,22,21,8,1,0,10,11,12,59] U (XD U (QT (Qq (Qy (Qc (Qa (QK U U (by omega) (by omega) U ?_))))))))))))))))
   refine Qb U U (Qf ?_)
   have j13:=ZS hl (j9.pick [0,1,2,3,4,5,6,7,8,9,10,11,12,13,14] U)
   exact Q5 (L1:=[(0,_),(1,_),(8,_),(21,_),(22,_),(23,intV ((i+1:Nat):Int))]) (G4 U U U U U U) (k1:=order.length -(i+1)) (by omega) ⟨i+1,V1,ex,made, by omega,rfl,(XM (m:=n+(i+1)) (by omega) (j13.pick [10,7,8,0,9,4,1,2,3,5,11,12,13] U)).reorder [1,2,3,4,5,6,7,8,9,0,10,11,12] U, by omega,hmd.skip hk hl hnn⟩
  have hw1:x.wr≠BitVec.allOnes 64:= fun e=>h12 (by rw[e];rfl)
  refine Qj U U (QF h12) (Qb U U (Qj U U (QF h12) (Qb U U (Qj U U (QF h12) (Qi U U (Qj U U (QF h12) (Qg U K7 U (Qj U U (QF h12) (Qo U QM (by first | assumption | exact j9.cell 0 U U | exact j9.cell 2 U U | exact j9.cell 7 U U | exact j9.cell 8 U U) U ?_)))))))))
  refine Qj U U (QF h12) (Xc U U U (QC U (QF h12) U U (Qf (Qc (Qh [23,22,21,8,1,0,10,11,12,59] U (Qt U (fun h14=> ?_) (fun h14=> ?_)))))))
  ·have hnn: ¬Vv L t k x:= fun e=>e.2.2 h14
   refine QT (Qq (Qy (Qc (Qa (QK U U (by omega) (by omega) U ?_)))))
   refine Qb U U (Qf ?_)
   have j15:=ZS hl (j9.pick [0,1,2,3,4,5,6,7,8,9,10,11,12,13,14] U)
   exact Q5 (L1:=[(0,_),(1,_),(8,_),(21,_),(22,_),(23,intV ((i+1:Nat):Int))]) (G4 U U U U U U) (k1:=order.length -(i+1)) (by omega) ⟨i+1,V1,ex,made, by omega,rfl,(XM (m:=n+(i+1)) (by omega) (j15.pick [10,7,8,0,9,4,1,2,3,5,11,12,13] U)).reorder [1,2,3,4,5,6,7,8,9,0,10,11,12] U, by omega,hmd.skip hk hl hnn⟩
  have hneed:Vv L t k x:=⟨hw0,hw1,h14⟩
  refine Qs (Qc (Qe ?_))
  have j16:=j9.drew
  refine MY ZW (Cf 6 15 U ?_ ?_)
  ·refine RB (sp:=[5,6,15]) [0,1,2,3,4,7,8,9,10,11,12,13,14,5,6,15,16,17] (by kernel_rfl) ?_
   refine QJ U U U (Xd U U U (QP U U U Zx (Q3 U U U (Qm U X5 (by first | assumption | exact j16.cell 0 U U | exact j16.cell 2 U U | exact j16.cell 7 U U | exact j16.cell 8 U U)) ?_)))
   refine QJ U U U (QJ U U U (Xd U U U (QP U U U Zx (Q3 U U U (Qm U X5 (by first | assumption | exact j16.cell 0 U U | exact j16.cell 2 U U | exact j16.cell 7 U U | exact j16.cell 8 U U)) ?_))))
   refine QJ U U U (Xd U U U (QP U U U W4 (Q3 U U U (Qm U QM (by first | assumption | exact j16.cell 0 U U | exact j16.cell 2 U U | exact j16.cell 7 U U | exact j16.cell 8 U U)) ?_)))
   refine Xl U U U U U U ?_
   refine Q0 Hk U (Uv (j16.sp [11] U) (X4 L t.parent k)) U ?_
   rintro _ w17 ⟨rfl,j17⟩
   replace j17:=j17.jn U U
   refine XH (.cons (.inl ⟨rfl,(Qm U QM (by first | assumption | exact j17.cell 1 U U | exact j17.cell 3 U U | exact j17.cell 8 U U | exact j17.cell 9 U U))⟩) (.cons (.inl ⟨rfl,(Qm U X5 (by first | assumption | exact j17.cell 1 U U | exact j17.cell 3 U U | exact j17.cell 8 U U | exact j17.cell 9 U U))⟩) (Xq (by kernel_rfl)))) ?_
   refine Xl U U U U U U ?_
   refine R3 j17 U underlying9 underlying176 underlying5 U ?_
   intro v18 w18 j18
   refine XH (.cons (.inl ⟨rfl,(Qm U QM (by first | assumption | exact j18.cell 2 U U | exact j18.cell 4 U U | exact j18.cell 9 U U | exact j18.cell 10 U U))⟩) (.cons (.inl ⟨rfl,(Qm U X5 (by first | assumption | exact j18.cell 2 U U | exact j18.cell 4 U U | exact j18.cell 9 U U | exact j18.cell 10 U U))⟩) (Xq (by kernel_rfl)))) ?_
   refine Xl U U U U U U ?_
   refine Q0 Hk U (Uv (j18.sp [1] U) (x.own)) U ?_
   rintro _ w19 ⟨rfl,j19⟩
   replace j19:=j19.jn U U
   refine XH (Xq (by kernel_rfl)) ?_
   refine Zo U U U (Zo U U U (VC.nil (Qc (Qh [23,22,21,8,1,0,10,11,13,14] U (Qe (Qe ?_))))))
   have hnl:(Zf V1 (X4 L t.parent k)).length=64:= by rw[hmd.pg _ (hI.aliveS _ _)]; exact hI.len (hI.aliveS _ _)
   have hao:XZ V x.own:= by have ha:=hI.alive (.inr (id,k,true)); rw[XF ht hl]at ha; exact ha
   have hol:(Zf V1 x.own).length=64:= by rw[hmd.pg _ hao]; exact hI.len hao
   obtain⟨ab,cb,hvb,_⟩:=j19.own_shape 1 rfl; rw[hnl]at hvb; obtain rfl:=hvb
   refine Qa (Qb U U ?_)
   first | refine XB underlying176 U U ?_ | refine Xo 1 j19 underlying176 U U U ?_ | refine Xo 13 j19 underlying176 U U U ?_
   refine Qb U U (Qf (Qc (Qw ?_)))
   have hoz:=j19.pick [1,0,2,3,4,5,6,7,8,9,10,11,12,13,14,15] U
   refine Xe (fun K0 E0 W0=> ∃(q:Nat) (r:Bs),K0=64 -q∧E0=[(0,ptrV b 0),(1,ptrV t.ad 0),(8,.map (some mm)),(21,.slice ar order.length cr),(22,intV (order.length:Int)),(23,intV (i:Int)),(10,ptrV kb 0),(11,ptrV x.ad 0),(13,.slice ab 64 cb),(14,strV (Zf V1 x.own)),(77,intV 64),(78,intV (q:Int))]∧Sat W0 [rowT byC (.slice ab 64 cb) r,QE x.ad [intV x.base,intV x.own,Zr x.rd,Zr x.wr],X6 KT (QO t.lv k none),QE kb [strV k.1,intV k.2],QE t.ad [intV t.parent,.map (some t.ml),.map (some t.md)],Q6 X0 t.ml (XC LfD.ad t.lv),Q6 Zl t.md (JF t.dr),X6 VW (QO L.tr id none),QE b [ptrV L.sp 0,.map (some L.mp),.map (some L.mt),intV L.cur,.map (some L.ms)],Q6 X0 L.mp (Z3 L.pres),Q6 QX L.mt (XC TrD.ad L.tr),Q6 QX L.ms (JF L.sh),ZT L.sp (n+i) Fr V1,rowT kC (.slice ar order.length cr) order,Q6 X0 mm (KS made),F]∧(q≤64)∧(MgI (Zf V1 (X4 L t.parent k)) (Zf V1 x.own) r x.wr q)) (L0:=[(0,_),(1,_),(8,_),(21,_),(22,_),(23,_),(10,_),(11,_),(13,_),(14,_),(77,_),(78,_)]) (64) (DX U U U U U U U U U U U U) ⟨0,_,rfl,rfl,hoz.pick [0,2,3,9,10,11,12,7,4,5,6,8,1,13,14,15] U, by omega,MgI.start hnl⟩ ?_
   rintro _ _ w20 ⟨q,r,rfl,rfl,j20,hq,hmg⟩
   refine Qe (Qa (Xn U U U (Qf (Qc (Qe (Qt U (fun h21=> ?_) (fun h21=> ?_)))))))
   ·refine Qs (Qc (Qe (Qw (Qe (Qa (Qb U U (Qd U U (Qf (Qc (Qe (Qa (Qb U U (Qi U U (Qg U Wo U (Qo U JB (by first | assumption | exact j20.cell 1 U U | exact j20.cell 3 U U | exact j20.cell 4 U U | exact j20.cell 8 U U) U ?_)))))))))))))))
    refine Qb U U (MW q U U (by omega) U ?_)
    refine GA (b:=1#64) U U U (Xc U U U (Qf (Qc (Qh [78,77,14,13,11,10,23,22,21,8,1,0,15,88] U (Qt U (fun h22=> ?_) (fun h22=> ?_))))))
    ·have hwb:=(bit1 (by omega)).1 h22
     obtain⟨co,hco⟩: ∃co,(Zf V1 x.own)[q]? =some co:=⟨_,Zd (by omega)⟩
     obtain⟨cr0,hcr0⟩: ∃co,r[q]? =some co:=⟨_,Zd (by rw[hmg.1];omega)⟩
     refine Qa (Qb U U (Qb U U (Qb U U (Qb U U (YL q underlying9 U U U hco U (Xg byC 0 q j20 U U U (by first | rfl | omega) hcr0 Ei U ?_))))))
     intro bx23 capx23 hvx23
     refine Wh 0 q co j20 U hvx23 U U Tc (by first | rfl | (simp;done)) (by first | omega | exact(XL hcr0).1) ?_
     intro w24 j25; dsimp only[List.set]at j25
     refine Qf (Ql (Qc (Qh [78,77,14,13,11,10,23,22,21,8,1,0] U (Qa (QK U U (by omega) (by omega) U ?_)))))
     exact Qb U U (Qf (Q5 (L1:=[(0,_),(1,_),(8,_),(21,_),(22,_),(23,_),(10,_),(11,_),(13,_),(14,_),(77,_),(78,intV ((q+1:Nat):Int))]) (DX U U U U U U U U U U U U) (k1:=64 -(q+1)) (by omega) ⟨q+1,_,rfl,rfl,j25.pick [0,1,2,3,4,5,6,7,8,9,10,11,12,13,14,15] U, by omega,hmg.T (by omega) hwb hco⟩))
    have hwb:x.wr.getLsbD q=false:= by have :=(not_congr (bit1 (by omega))).1 h22;simpa using this
    refine Qs (Ql (Qc (Qa (QK U U (by omega) (by omega) U ?_))))
    refine Qb U U (Qf ?_)
    exact Q5 (L1:=[(0,_),(1,_),(8,_),(21,_),(22,_),(23,_),(10,_),(11,_),(13,_),(14,_),(77,_),(78,intV ((q+1:Nat):Int))]) (DX U U U U U U U U U U U U) (k1:=64 -(q+1)) (by omega) ⟨q+1,_,rfl,rfl,j20.pick [0,1,2,3,4,5,6,7,8,9,10,11,12,13,14,15] U, by omega,hmg.F hwb⟩
   refine QT (Qq (Qq (Qy (Qc (Qh [13,10,23,22,21,8,1,0] U (Qe ?_))))))
   have j26:=j20.drew
   refine QH [0,1,2,3,4,5,6,7,8,9,10,11] [6] ZW (by kernel_rfl) ?_
   refine QJ U U U (Xd U U U (QP U U U Zx (Q3 U U U (Qm U X5 (by first | assumption | exact j26.cell 1 U U | exact j26.cell 3 U U | exact j26.cell 4 U U | exact j26.cell 8 U U)) ?_)))
   refine QJ U U U (Q3 U U U (DF 0 j26 U U underlying176 underlying5 underlying9) (Xl U U U U U U ?_))
   have hr64:q=64:= by omega
   subst hr64
   have hre:=hmg.fin hnl hol
   rw[hmd.pg _ (hI.aliveS _ _),hmd.pg x.own hao]at hre
   refine Xr E8 U (FV (j26.sp [12] U) (by omega) (by rw[hre]; exact Ms)) U ?_
   rintro e w27 ⟨_,rfl,(⟨hz0,rfl,j27⟩ | ⟨hz0,rfl,hag,j27⟩ | ⟨s2,hz0,rfl,hs1,hv1,j27⟩)⟩
   ·refine⟨_,U, ?_⟩
    replace j27:=j27.jn U U
    have hmd2:=hmd.zero hk hnd hl hneed hz0 hre
    refine XH (Xq (by kernel_rfl)) ?_
    refine QJ U U U (Wj U U U U (Wj U U U U (Zo U U U (Zo U U U (VC.nil (Qc (Qh [10,23,22,21,8,1,0,16,17] U (Qe (Qe (Qa (Qb U U (Xp U U U (Qf (Qc (Qt U (fun h28=> ?_) (fun h28=> ?_))))))))))))))))
    ·exact absurd U h28
    refine Qs (Qc (Qh [10,23,22,21,8,1,0,16] U ?_))
    have j29:=ZS hl (j27.pick [2,3,0,1,4,5,6,7,8,9,10,11,12,13,14,15] U)
    refine Qa (Qb U U ?_)
    refine Wi U X2 Xf (by first | exact j29.blk 3 U | exact j29.blk 4 U | exact j29.blk 8 U) (by first | decide | exact Q7 U | (simp;done) | omega) U U ?_
    refine Qb U U (Xi (k:=k) (v:=intV 0) 13 j29 keysKey underlying105 U U U U ?_)
    intro w30 j30; dsimp only[List.set]at j30; rw[Mt]at j30
    refine Qf (Ql (Qc (Qh [23,22,21,8,1,0] U (Qa (QK U U (by omega) (by omega) U ?_)))))
    refine Qb U U (Qf ?_)
    exact Q5 (L1:=[(0,_),(1,_),(8,_),(21,_),(22,_),(23,intV ((i+1:Nat):Int))]) (G4 U U U U U U) (k1:=order.length -(i+1)) (by omega) ⟨i+1,_,_,_, by omega,rfl,j30.pick [4,5,0,6,7,8,9,10,11,1,12,13,14] U, by omega,hmd2⟩
   ·refine⟨_,U, ?_⟩
    replace j27:=j27.jn U U
    refine XH (Xq (by kernel_rfl)) ?_
    refine QJ U U U (Wj U U U U (Wj U U U U (Zo U U U (Zo U U U (VC.nil (Qc (Qh [10,23,22,21,8,1,0,16,17] U (Qe (Qe (Qa (Qb U U (Xp U U U (Qf (Qc (Qt U (fun h31=> ?_) (fun h31=> ?_))))))))))))))))
    ·refine Qe (Qe (Qa (Qb U U ?_)))
     have j32:=ZS hl (j27.pick [2,3,0,1,4,5,6,7,8,9,10,11,12,13,14,15] U)
     have hcm: ∀{ks:List KD},Came (KS made) ks→ks.length≤c:= fun h=>Nat.le_trans (hmd.came h) (by rw[List.length_take];omega)
     refine Q0 N9 U (Bj (j32.sp [13] U) (fun ks h=> by have :=hcm h;omega)) U ?_
     rintro _ w33 ⟨ks,hks,j33⟩
     replace j33:=j33.jn U U
     obtain⟨au,cu,hvu,_⟩:=j33.own_shape 0 rfl; obtain rfl:=hvu
     have hndk:=Hr hks.nodup
     have hlk:(QQ ks).length≤c:= by rw[Wz]; exact hcm (Came.of_all hks)
     first | refine XB underlying123 U U ?_ | refine Xo 0 j33 underlying123 U U U ?_ | refine Xo 4 j33 underlying123 U U U ?_ | refine Xo 14 j33 underlying123 U U U ?_
     refine Qb U U (Qf (Qc (Qh [10,23,22,21,8,1,0,16,17,109,110,111] U (Qw ?_))))
     refine Xe (fun K0 E0 W0=> ∃(j:Nat) (V2:VS) (ex2:Int→Int),K0=(QQ ks).length -j∧E0=[(0,ptrV b 0),(8,.map (some mm)),(17,intV 6),(109,.slice au (QQ ks).length cu),(110,intV ((QQ ks).length:Int)),(111,intV (j:Int))]∧Sat W0 [QE t.ad [intV t.parent,.map (some t.ml),.map (some t.md)],Q6 X0 t.ml (XC LfD.ad t.lv),X6 KT t.lv,Q6 Zl t.md (JF t.dr),X6 VW (QO L.tr id none),QE b [ptrV L.sp 0,.map (some L.mp),.map (some L.mt),intV L.cur,.map (some L.ms)],Q6 X0 L.mp (Z3 L.pres),Q6 QX L.mt (XC TrD.ad L.tr),Q6 QX L.ms (JF L.sh),ZT L.sp (n+i+1+j) Fr V2,rowT kC (.slice ar order.length cr) order,Q6 X0 mm (KS made),rowT kC (.slice au (QQ ks).length cu) (QQ ks),F]∧(j≤(QQ ks).length)∧(UnI m L V1 V2 made ((QQ ks).take j) ex2)) (L0:=[(0,_),(8,_),(17,_),(109,_),(110,_),(111,_)]) ((QQ ks).length) (G4 U U U U U U) ⟨0,V1,ex, by omega,rfl,j33.pick [6,7,2,8,9,10,11,12,13,3,14,1,0,15] U, by omega,hmd.un⟩ ?_
     rintro _ _ w34 ⟨j,V2,ex2,rfl,rfl,j34,hjl,hun⟩
     refine Qe (Qa (Xn U U U (Qf (Qc (Qe (Qt U (fun h35=> ?_) (fun h35=> ?_)))))))
     ·obtain⟨k2,hj⟩: ∃k,(QQ ks)[j]? =some k:=⟨_,Zd (by omega)⟩
      refine Qs (Qc (Qe (Qw (Qe (Qa (Xg kC 12 j j34 U U U (by first | rfl | omega) hj U8 U ?_))))))
      intro bx36 capx36 hvx36
      refine ZG 12 j j34 U hvx36 U hj X2 Xf U U (Xa j34 WK U U ?_)
      intro kb wk37 hk37
      refine Q9 hk37 U U Xf U (by first | rfl | (simp [QV,Value.oneCell'];done)) (i:=0) U (by first | decide | exact Q7 U) ?_
      intro wk38 hk38; dsimp only[List.set]at hk38
      clear hk37
      replace hk38:=Z4 (k:=k2) hk38
      refine Qf (Qc ?_)
      have j39:=hk38.drew
      refine QH [0,1,2,3,4,5,6,7] [7] ZW (by kernel_rfl) ?_
      refine QJ U U U (Xd U U U (QP U U U Zx (Q3 U U U (Qm U X5 (by first | assumption | exact j39.cell 0 U U | exact j39.cell 1 U U | exact j39.cell 6 U U)) ?_)))
      refine QJ U U U ?_
      refine Q3 U U U (X3 U X2 Xf (by first | exact j39.blk 0 U | exact j39.blk 1 U | exact j39.blk 6 U) (by first | decide | exact Q7 U | (simp;done) | omega) U) ?_
      refine Q3 U U U (Xt (k:=k2) 12 j39 keysKey underlying105 U U U Hm (u:=intV (Hs made k2)) Pm) (Xl U U U U U U ?_)
      refine Q0 N8 U (Mg (j39.sp [10] U) (by omega) (Hs made k2)) U ?_
      rintro _ w40 ⟨e0,rfl,j40⟩
      replace j40:=j40.jn U U
      refine XH (Xq (by kernel_rfl)) ?_
      refine VC.nil (Ql (Qc (Qh [111,110,109,17,8,0] U (Qa (QK U U (by omega) (by omega) U ?_)))))
      refine Qb U U (Qf ?_)
      have hun2:=hun.step hj hndk
      exact Q5 (L1:=[(0,_),(8,_),(17,_),(109,_),(110,_),(111,intV ((j+1:Nat):Int))]) (G4 U U U U U U) (k1:=(QQ ks).length -(j+1)) (by omega) ⟨j+1,_,_, by omega,rfl,j40.pick [2,3,4,5,6,7,8,9,10,0,11,12,13,14] U, by omega,hun2⟩
     refine QT (Qq (Qq (Qy (Qc (Qe (Qa (Qb U U (Qd U U (Qd U U (Qf (Qc (Qv (Qr (Q1 (Qr (Qr (Q1 (Qr (Jm (.inr U) U U U ?_)))))))))))))))))))
     have hjj:j=(QQ ks).length:= by omega
     rw[hjj,List.take_length]at hun
     have huf:=hun.fin (fun k hk=>(Yg ks).mem_iff.2 ((hks.mem k).2 (by unfold KS; cases q:made k with | none=> exact absurd q hk | some s=> simp)))
     have j41:=ZR ht (j34.pick [0,1,2,3,4,5,6,7,8,9,10,11,12,13] U)
     exact⟨_,rfl,V2,.inr ⟨rfl,huf,hun.ab.trans hmd.ab, fun c q=> by have :=Hy (hmd.al c q) hag; exact Nat.le_trans this (Nat.add_le_add_left (Ko hilt) c), fun c q=>(hun.al _ (hmd.al c q)).mono (Nat.add_le_add_left (Ko hilt) c),((XM (m:=n+2*c) (by omega) (j41.pick [5,1,2,3,0,4,6,9] U)).reorder [1,2,3,4,5,0,6,7] U |> fun q=>Xx q)⟩⟩
    exact absurd (by decide) h31
   refine⟨_,U, ?_⟩
   replace j27:=j27.jn U U
   have hmd2:=hmd.fresh hk hnd hl hneed hs1 hv1 hre
   refine XH (Xq (by kernel_rfl)) ?_
   refine QJ U U U (Wj U U U U (Wj U U U U (Zo U U U (Zo U U U (VC.nil (Qc (Qh [10,23,22,21,8,1,0,16,17] U (Qe (Qe (Qa (Qb U U (Xp U U U (Qf (Qc (Qt U (fun h42=> ?_) (fun h42=> ?_))))))))))))))))
   ·exact absurd U h42
   refine Qs (Qc (Qh [10,23,22,21,8,1,0,16] U ?_))
   have j43:=ZS hl (j27.pick [2,3,0,1,4,5,6,7,8,9,10,11,12,13,14,15] U)
   refine Qa (Qb U U ?_)
   refine Wi U X2 Xf (by first | exact j43.blk 3 U | exact j43.blk 4 U | exact j43.blk 8 U) (by first | decide | exact Q7 U | (simp;done) | omega) U U ?_
   refine Qb U U (Xi (k:=k) (v:=intV s2) 13 j43 keysKey underlying105 U U U U ?_)
   intro w44 j44; dsimp only[List.set]at j44; rw[Mt]at j44
   refine Qf (Ql (Qc (Qh [23,22,21,8,1,0] U (Qa (QK U U (by omega) (by omega) U ?_)))))
   refine Qb U U (Qf ?_)
   exact Q5 (L1:=[(0,_),(1,_),(8,_),(21,_),(22,_),(23,intV ((i+1:Nat):Int))]) (G4 U U U U U U) (k1:=order.length -(i+1)) (by omega) ⟨i+1,_,_,_, by omega,rfl,j44.pick [4,5,0,6,7,8,9,10,11,1,12,13,14] U, by omega,hmd2⟩
  refine RB (sp:=[5,6,15]) [0,1,2,3,4,7,8,9,10,11,12,13,14,5,15,6,16,17] (by kernel_rfl) ?_
  refine QJ U U U (Xd U U U (QP U U U Zx (Q3 U U U (Qm U X5 (by first | assumption | exact j16.cell 0 U U | exact j16.cell 2 U U | exact j16.cell 7 U U | exact j16.cell 8 U U)) ?_)))
  refine QJ U U U (QJ U U U (Xd U U U (QP U U U Zx (Q3 U U U (Qm U X5 (by first | assumption | exact j16.cell 0 U U | exact j16.cell 2 U U | exact j16.cell 7 U U | exact j16.cell 8 U U)) ?_))))
  refine QJ U U U (Xd U U U (QP U U U W4 (Q3 U U U (Qm U QM (by first | assumption | exact j16.cell 0 U U | exact j16.cell 2 U U | exact j16.cell 7 U U | exact j16.cell 8 U U)) ?_)))
  refine Xl U U U U U U ?_
  refine Q0 Hk U (Uv (j16.sp [11] U) (X4 L t.parent k)) U ?_
  rintro _ w45 ⟨rfl,j45⟩
  replace j45:=j45.jn U U
  refine XH (.cons (.inl ⟨rfl,(Qm U QM (by first | assumption | exact j45.cell 1 U U | exact j45.cell 3 U U | exact j45.cell 8 U U | exact j45.cell 9 U U))⟩) (.cons (.inl ⟨rfl,(Qm U X5 (by first | assumption | exact j45.cell 1 U U | exact j45.cell 3 U U | exact j45.cell 8 U U | exact j45.cell 9 U U))⟩) (Xq (by kernel_rfl)))) ?_
  refine Xl U U U U U U ?_
  refine Q0 Hk U (Uv (j45.sp [0] U) (x.own)) U ?_
  rintro _ w46 ⟨rfl,j46⟩
  replace j46:=j46.jn U U
  refine XH (Xq (by kernel_rfl)) ?_
  refine Xl U U U U U U ?_
  refine R3 j46 U underlying9 underlying176 underlying5 U ?_
  intro v47 w47 j47
  refine XH (.cons (.inl ⟨rfl,(Qm U QM (by first | assumption | exact j47.cell 2 U U | exact j47.cell 4 U U | exact j47.cell 9 U U | exact j47.cell 10 U U))⟩) (.cons (.inl ⟨rfl,(Qm U X5 (by first | assumption | exact j47.cell 2 U U | exact j47.cell 4 U U | exact j47.cell 9 U U | exact j47.cell 10 U U))⟩) (Xq (by kernel_rfl)))) ?_
  refine Zo U U U (Zo U U U (VC.nil (Qc (Qh [23,22,21,8,1,0,10,11,13,14] U (Qe (Qe ?_))))))
  have hnl:(Zf V1 (X4 L t.parent k)).length=64:= by rw[hmd.pg _ (hI.aliveS _ _)]; exact hI.len (hI.aliveS _ _)
  have hao:XZ V x.own:= by have ha:=hI.alive (.inr (id,k,true)); rw[XF ht hl]at ha; exact ha
  have hol:(Zf V1 x.own).length=64:= by rw[hmd.pg _ hao]; exact hI.len hao
  obtain⟨ab,cb,hvb,_⟩:=j47.own_shape 0 rfl; rw[hnl]at hvb; obtain rfl:=hvb
  refine Qa (Qb U U ?_)
  first | refine XB underlying176 U U ?_ | refine Xo 0 j47 underlying176 U U U ?_ | refine Xo 13 j47 underlying176 U U U ?_
  refine Qb U U (Qf (Qc (Qw ?_)))
  have hoz:=j47.pick [0,1,2,3,4,5,6,7,8,9,10,11,12,13,14,15] U
  refine Xe (fun K0 E0 W0=> ∃(q:Nat) (r:Bs),K0=64 -q∧E0=[(0,ptrV b 0),(1,ptrV t.ad 0),(8,.map (some mm)),(21,.slice ar order.length cr),(22,intV (order.length:Int)),(23,intV (i:Int)),(10,ptrV kb 0),(11,ptrV x.ad 0),(13,.slice ab 64 cb),(14,strV (Zf V1 x.own)),(77,intV 64),(78,intV (q:Int))]∧Sat W0 [rowT byC (.slice ab 64 cb) r,QE x.ad [intV x.base,intV x.own,Zr x.rd,Zr x.wr],X6 KT (QO t.lv k none),QE kb [strV k.1,intV k.2],QE t.ad [intV t.parent,.map (some t.ml),.map (some t.md)],Q6 X0 t.ml (XC LfD.ad t.lv),Q6 Zl t.md (JF t.dr),X6 VW (QO L.tr id none),QE b [ptrV L.sp 0,.map (some L.mp),.map (some L.mt),intV L.cur,.map (some L.ms)],Q6 X0 L.mp (Z3 L.pres),Q6 QX L.mt (XC TrD.ad L.tr),Q6 QX L.ms (JF L.sh),ZT L.sp (n+i) Fr V1,rowT kC (.slice ar order.length cr) order,Q6 X0 mm (KS made),F]∧(q≤64)∧(MgI (Zf V1 (X4 L t.parent k)) (Zf V1 x.own) r x.wr q)) (L0:=[(0,_),(1,_),(8,_),(21,_),(22,_),(23,_),(10,_),(11,_),(13,_),(14,_),(77,_),(78,_)]) (64) (DX U U U U U U U U U U U U) ⟨0,_,rfl,rfl,hoz.pick [0,2,3,9,10,11,12,7,4,5,6,8,1,13,14,15] U, by omega,MgI.start hnl⟩ ?_
  rintro _ _ w48 ⟨q,r,rfl,rfl,j48,hq,hmg⟩
  refine Qe (Qa (Xn U U U (Qf (Qc (Qe (Qt U (fun h49=> ?_) (fun h49=> ?_)))))))
  ·refine Qs (Qc (Qe (Qw (Qe (Qa (Qb U U (Qd U U (Qf (Qc (Qe (Qa (Qb U U (Qi U U (Qg U Wo U (Qo U JB (by first | assumption | exact j48.cell 1 U U | exact j48.cell 3 U U | exact j48.cell 4 U U | exact j48.cell 8 U U) U ?_)))))))))))))))
   refine Qb U U (MW q U U (by omega) U ?_)
   refine GA (b:=1#64) U U U (Xc U U U (Qf (Qc (Qh [78,77,14,13,11,10,23,22,21,8,1,0,15,88] U (Qt U (fun h50=> ?_) (fun h50=> ?_))))))
   ·have hwb:=(bit1 (by omega)).1 h50
    obtain⟨co,hco⟩: ∃co,(Zf V1 x.own)[q]? =some co:=⟨_,Zd (by omega)⟩
    obtain⟨cr0,hcr0⟩: ∃co,r[q]? =some co:=⟨_,Zd (by rw[hmg.1];omega)⟩
    refine Qa (Qb U U (Qb U U (Qb U U (Qb U U (YL q underlying9 U U U hco U (Xg byC 0 q j48 U U U (by first | rfl | omega) hcr0 Ei U ?_))))))
    intro bx51 capx51 hvx51
    refine Wh 0 q co j48 U hvx51 U U Tc (by first | rfl | (simp;done)) (by first | omega | exact(XL hcr0).1) ?_
    intro w52 j53; dsimp only[List.set]at j53
    refine Qf (Ql (Qc (Qh [78,77,14,13,11,10,23,22,21,8,1,0] U (Qa (QK U U (by omega) (by omega) U ?_)))))
    exact Qb U U (Qf (Q5 (L1:=[(0,_),(1,_),(8,_),(21,_),(22,_),(23,_),(10,_),(11,_),(13,_),(14,_),(77,_),(78,intV ((q+1:Nat):Int))]) (DX U U U U U U U U U U U U) (k1:=64 -(q+1)) (by omega) ⟨q+1,_,rfl,rfl,j53.pick [0,1,2,3,4,5,6,7,8,9,10,11,12,13,14,15] U, by omega,hmg.T (by omega) hwb hco⟩))
   have hwb:x.wr.getLsbD q=false:= by have :=(not_congr (bit1 (by omega))).1 h50;simpa using this
   refine Qs (Ql (Qc (Qa (QK U U (by omega) (by omega) U ?_))))
   refine Qb U U (Qf ?_)
   exact Q5 (L1:=[(0,_),(1,_),(8,_),(21,_),(22,_),(23,_),(10,_),(11,_),(13,_),(14,_),(77,_),(78,intV ((q+1:Nat):Int))]) (DX U U U U U U U U U U U U) (k1:=64 -(q+1)) (by omega) ⟨q+1,_,rfl,rfl,j48.pick [0,1,2,3,4,5,6,7,8,9,10,11,12,13,14,15] U, by omega,hmg.F hwb⟩
  refine QT (Qq (Qq (Qy (Qc (Qh [13,10,23,22,21,8,1,0] U (Qe ?_))))))
  have j54:=j48.drew
  refine QH [0,1,2,3,4,5,6,7,8,9,10,11] [6] ZW (by kernel_rfl) ?_
  refine QJ U U U (Xd U U U (QP U U U Zx (Q3 U U U (Qm U X5 (by first | assumption | exact j54.cell 1 U U | exact j54.cell 3 U U | exact j54.cell 4 U U | exact j54.cell 8 U U)) ?_)))
  refine QJ U U U (Q3 U U U (DF 0 j54 U U underlying176 underlying5 underlying9) (Xl U U U U U U ?_))
  have hr64:q=64:= by omega
  subst hr64
  have hre:=hmg.fin hnl hol
  rw[hmd.pg _ (hI.aliveS _ _),hmd.pg x.own hao]at hre
  refine Xr E8 U (FV (j54.sp [12] U) (by omega) (by rw[hre]; exact Ms)) U ?_
  rintro e w55 ⟨_,rfl,(⟨hz0,rfl,j55⟩ | ⟨hz0,rfl,hag,j55⟩ | ⟨s2,hz0,rfl,hs1,hv1,j55⟩)⟩
  ·refine⟨_,U, ?_⟩
   replace j55:=j55.jn U U
   have hmd2:=hmd.zero hk hnd hl hneed hz0 hre
   refine XH (Xq (by kernel_rfl)) ?_
   refine QJ U U U (Wj U U U U (Wj U U U U (Zo U U U (Zo U U U (VC.nil (Qc (Qh [10,23,22,21,8,1,0,16,17] U (Qe (Qe (Qa (Qb U U (Xp U U U (Qf (Qc (Qt U (fun h56=> ?_) (fun h56=> ?_))))))))))))))))
   ·exact absurd U h56
   refine Qs (Qc (Qh [10,23,22,21,8,1,0,16] U ?_))
   have j57:=ZS hl (j55.pick [2,3,0,1,4,5,6,7,8,9,10,11,12,13,14,15] U)
   refine Qa (Qb U U ?_)
   refine Wi U X2 Xf (by first | exact j57.blk 3 U | exact j57.blk 4 U | exact j57.blk 8 U) (by first | decide | exact Q7 U | (simp;done) | omega) U U ?_
   refine Qb U U (Xi (k:=k) (v:=intV 0) 13 j57 keysKey underlying105 U U U U ?_)
   intro w58 j58; dsimp only[List.set]at j58; rw[Mt]at j58
   refine Qf (Ql (Qc (Qh [23,22,21,8,1,0] U (Qa (QK U U (by omega) (by omega) U ?_)))))
   refine Qb U U (Qf ?_)
   exact Q5 (L1:=[(0,_),(1,_),(8,_),(21,_),(22,_),(23,intV ((i+1:Nat):Int))]) (G4 U U U U U U) (k1:=order.length -(i+1)) (by omega) ⟨i+1,_,_,_, by omega,rfl,j58.pick [4,5,0,6,7,8,9,10,11,1,12,13,14] U, by omega,hmd2⟩
  ·refine⟨_,U, ?_⟩
   replace j55:=j55.jn U U
   refine XH (Xq (by kernel_rfl)) ?_
   refine QJ U U U (Wj U U U U (Wj U U U U (Zo U U U (Zo U U U (VC.nil (Qc (Qh [10,23,22,21,8,1,0,16,17] U (Qe (Qe (Qa (Qb U U (Xp U U U (Qf (Qc (Qt U (fun h59=> ?_) (fun h59=> ?_))))))))))))))))
   ·refine Qe (Qe (Qa (Qb U U ?_)))
    have j60:=ZS hl (j55.pick [2,3,0,1,4,5,6,7,8,9,10,11,12,13,14,15] U)
    have hcm: ∀{ks:List KD},Came (KS made) ks→ks.length≤c:= fun h=>Nat.le_trans (hmd.came h) (by rw[List.length_take];omega)
    refine Q0 N9 U (Bj (j60.sp [13] U) (fun ks h=> by have :=hcm h;omega)) U ?_
    rintro _ w61 ⟨ks,hks,j61⟩
    replace j61:=j61.jn U U
    obtain⟨au,cu,hvu,_⟩:=j61.own_shape 0 rfl; obtain rfl:=hvu
    have hndk:=Hr hks.nodup
    have hlk:(QQ ks).length≤c:= by rw[Wz]; exact hcm (Came.of_all hks)
    first | refine XB underlying123 U U ?_ | refine Xo 0 j61 underlying123 U U U ?_ | refine Xo 4 j61 underlying123 U U U ?_ | refine Xo 14 j61 underlying123 U U U ?_
    refine Qb U U (Qf (Qc (Qh [10,23,22,21,8,1,0,16,17,109,110,111] U (Qw ?_))))
    refine Xe (fun K0 E0 W0=> ∃(j:Nat) (V2:VS) (ex2:Int→Int),K0=(QQ ks).length -j∧E0=[(0,ptrV b 0),(8,.map (some mm)),(17,intV 6),(109,.slice au (QQ ks).length cu),(110,intV ((QQ ks).length:Int)),(111,intV (j:Int))]∧Sat W0 [QE t.ad [intV t.parent,.map (some t.ml),.map (some t.md)],Q6 X0 t.ml (XC LfD.ad t.lv),X6 KT t.lv,Q6 Zl t.md (JF t.dr),X6 VW (QO L.tr id none),QE b [ptrV L.sp 0,.map (some L.mp),.map (some L.mt),intV L.cur,.map (some L.ms)],Q6 X0 L.mp (Z3 L.pres),Q6 QX L.mt (XC TrD.ad L.tr),Q6 QX L.ms (JF L.sh),ZT L.sp (n+i+1+j) Fr V2,rowT kC (.slice ar order.length cr) order,Q6 X0 mm (KS made),rowT kC (.slice au (QQ ks).length cu) (QQ ks),F]∧(j≤(QQ ks).length)∧(UnI m L V1 V2 made ((QQ ks).take j) ex2)) (L0:=[(0,_),(8,_),(17,_),(109,_),(110,_),(111,_)]) ((QQ ks).length) (G4 U U U U U U) ⟨0,V1,ex, by omega,rfl,j61.pick [6,7,2,8,9,10,11,12,13,3,14,1,0,15] U, by omega,hmd.un⟩ ?_
    rintro _ _ w62 ⟨j,V2,ex2,rfl,rfl,j62,hjl,hun⟩
    refine Qe (Qa (Xn U U U (Qf (Qc (Qe (Qt U (fun h63=> ?_) (fun h63=> ?_)))))))
    ·obtain⟨k2,hj⟩: ∃k,(QQ ks)[j]? =some k:=⟨_,Zd (by omega)⟩
     refine Qs (Qc (Qe (Qw (Qe (Qa (Xg kC 12 j j62 U U U (by first | rfl | omega) hj U8 U ?_))))))
     intro bx64 capx64 hvx64
     refine ZG 12 j j62 U hvx64 U hj X2 Xf U U (Xa j62 WK U U ?_)
     intro kb wk65 hk65
     refine Q9 hk65 U U Xf U (by first | rfl | (simp [QV,Value.oneCell'];done)) (i:=0) U (by first | decide | exact Q7 U) ?_
     intro wk66 hk66; dsimp only[List.set]at hk66
     clear hk65
     replace hk66:=Z4 (k:=k2) hk66
     refine Qf (Qc ?_)
     have j67:=hk66.drew
     refine QH [0,1,2,3,4,5,6,7] [7] ZW (by kernel_rfl) ?_
     refine QJ U U U (Xd U U U (QP U U U Zx (Q3 U U U (Qm U X5 (by first | assumption | exact j67.cell 0 U U | exact j67.cell 1 U U | exact j67.cell 6 U U)) ?_)))
     refine QJ U U U ?_
     refine Q3 U U U (X3 U X2 Xf (by first | exact j67.blk 0 U | exact j67.blk 1 U | exact j67.blk 6 U) (by first | decide | exact Q7 U | (simp;done) | omega) U) ?_
     refine Q3 U U U (Xt (k:=k2) 12 j67 keysKey underlying105 U U U Hm (u:=intV (Hs made k2)) Pm) (Xl U U U U U U ?_)
     refine Q0 N8 U (Mg (j67.sp [10] U) (by omega) (Hs made k2)) U ?_
     rintro _ w68 ⟨e0,rfl,j68⟩
     replace j68:=j68.jn U U
     refine XH (Xq (by kernel_rfl)) ?_
     refine VC.nil (Ql (Qc (Qh [111,110,109,17,8,0] U (Qa (QK U U (by omega) (by omega) U ?_)))))
     refine Qb U U (Qf ?_)
     have hun2:=hun.step hj hndk
     exact Q5 (L1:=[(0,_),(8,_),(17,_),(109,_),(110,_),(111,intV ((j+1:Nat):Int))]) (G4 U U U U U U) (k1:=(QQ ks).length -(j+1)) (by omega) ⟨j+1,_,_, by omega,rfl,j68.pick [2,3,4,5,6,7,8,9,10,0,11,12,13,14] U, by omega,hun2⟩
    refine QT (Qq (Qq (Qy (Qc (Qe (Qa (Qb U U (Qd U U (Qd U U (Qf (Qc (Qv (Qr (Q1 (Qr (Qr (Q1 (Qr (Jm (.inr U) U U U ?_)))))))))))))))))))
    have hjj:j=(QQ ks).length:= by omega
    rw[hjj,List.take_length]at hun
    have huf:=hun.fin (fun k hk=>(Yg ks).mem_iff.2 ((hks.mem k).2 (by unfold KS; cases q:made k with | none=> exact absurd q hk | some s=> simp)))
    have j69:=ZR ht (j62.pick [0,1,2,3,4,5,6,7,8,9,10,11,12,13] U)
    exact⟨_,rfl,V2,.inr ⟨rfl,huf,hun.ab.trans hmd.ab, fun c q=> by have :=Hy (hmd.al c q) hag; exact Nat.le_trans this (Nat.add_le_add_left (Ko hilt) c), fun c q=>(hun.al _ (hmd.al c q)).mono (Nat.add_le_add_left (Ko hilt) c),((XM (m:=n+2*c) (by omega) (j69.pick [5,1,2,3,0,4,6,9] U)).reorder [1,2,3,4,5,0,6,7] U |> fun q=>Xx q)⟩⟩
   exact absurd (by decide) h59
  refine⟨_,U, ?_⟩
  replace j55:=j55.jn U U
  have hmd2:=hmd.fresh hk hnd hl hneed hs1 hv1 hre
  refine XH (Xq (by kernel_rfl)) ?_
  refine QJ U U U (Wj U U U U (Wj U U U U (Zo U U U (Zo U U U (VC.nil (Qc (Qh [10,23,22,21,8,1,0,16,17] U (Qe (Qe (Qa (Qb U U (Xp U U U (Qf (Qc (Qt U (fun h70=> ?_) (fun h70=> ?_))))))))))))))))
  ·exact absurd U h70
  refine Qs (Qc (Qh [10,23,22,21,8,1,0,16] U ?_))
  have j71:=ZS hl (j55.pick [2,3,0,1,4,5,6,7,8,9,10,11,12,13,14,15] U)
  refine Qa (Qb U U ?_)
  refine Wi U X2 Xf (by first | exact j71.blk 3 U | exact j71.blk 4 U | exact j71.blk 8 U) (by first | decide | exact Q7 U | (simp;done) | omega) U U ?_
  refine Qb U U (Xi (k:=k) (v:=intV s2) 13 j71 keysKey underlying105 U U U U ?_)
  intro w72 j72; dsimp only[List.set]at j72; rw[Mt]at j72
  refine Qf (Ql (Qc (Qh [23,22,21,8,1,0] U (Qa (QK U U (by omega) (by omega) U ?_)))))
  refine Qb U U (Qf ?_)
  exact Q5 (L1:=[(0,_),(1,_),(8,_),(21,_),(22,_),(23,intV ((i+1:Nat):Int))]) (G4 U U U U U U) (k1:=order.length -(i+1)) (by omega) ⟨i+1,_,_,_, by omega,rfl,j72.pick [4,5,0,6,7,8,9,10,11,1,12,13,14] U, by omega,hmd2⟩
 refine QT (Qq (Qq (Qy (Qc (Qe (Qa (Qb U U (Qd U U (Qd U U (Qf (Qc (Qv (Jm (.inr U) U U U ?_)))))))))))))
 have hil:i=order.length:= by omega
 rw[hil,List.take_length]at hmd
 have j73:=ZR ht (j2.pick [0,1,2,3,4,5,6,7,8,9,10,11,12] U)
 exact⟨_,rfl,V1,.inl ⟨mm,made,ex,rfl,hmd,((XM (m:=n+2*c) (by omega) (j73.pick [5,1,2,3,0,4,6,7,8] U)).reorder [1,2,3,4,5,0,6,7,8] U |> fun q=>Xx q)⟩⟩
