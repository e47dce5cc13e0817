/- leaves: merged -/
import Derived.Test.YtkgjmhcdacidoaaGreatDoorLv16
import Derived.Shelf.Spec.TrailingZeros
set_option linter.unusedSectionVars false
set_option linter.unusedVariables false
set_option maxRecDepth 100000
set_option maxHeartbeats 3200000
namespace Go.Proofs.YtkgjmhcdacidoaaGreatDoor
open Go.RowKit M Proofs.Tryz
variable [Inhabited SlW]
theorem MdI.came {m:Nat} {L:LvD} {V V1:VS} {t:TrD} {ex:Int→Int} {made:KD→Option Int} {l:List KD} (h:MdI m L V V1 t ex made l) {ks:List KD} (hc:Came (KG made) ks):ks.length≤l.length:=
  Wf hc.nodup fun k hk=>((h.dom k).1 fun q=>hc.has k hk (by unfold KG; rw[q];rfl)).1
theorem Kb {t:TrD} {l:List KD} {i:Nat} (hi:i<l.length):JA t (l.take i)≤JA t l:= by
  unfold JA
  have h:=List.filter_append (p:= fun k=>decide (∃x,t.lv k=some x∧x.wr≠0#64∧x.wr≠BitVec.allOnes 64)) (l.take i) (l.drop i)
  rw[List.take_append_drop]at h
  rw[h,List.length_append];omega
theorem all64 {w:BitVec 64} (h:(w.toNat:Int)=18446744073709551615):w=BitVec.allOnes 64:=BitVec.eq_of_toNat_eq (by simp;omega)
theorem zerW {w:BitVec 64} (h:(w.toNat:Int)=0):w=0#64:=BitVec.eq_of_toNat_eq (by simp;omega)
theorem bit1 {w:BitVec 64} {q:Nat} (hq:q<64):(((w>>>q)&&&1#64).toNat:Int)=1↔w.getLsbD q=true:= by
  have e:(1#64).toNat=1:=rfl
  rw[BitVec.toNat_and,BitVec.toNat_ushiftRight,←BitVec.testBit_toNat,e,Nat.and_one_is_mod,Nat.shiftRight_eq_div_pow,Nat.testBit_eq_decide_div_mod_eq,decide_eq_true_eq]
  generalize w.toNat/ 2^q=z
  omega
theorem PZ {w:World} {m:Nat} {b n Fr:Nat} {L:LvD} {V:VS} {F:Th} {ar:Option Addr} {cr:Nat} {order:List KD} (hS:Sat w [Je b L,ZR L.sp n Fr V,rowT kC (.slice ar order.length cr) order,F]) {c:Nat} (hn:n+2*c≤60000000000) (hI:LvI m L V) (hm:m<Wx) {id:Int} {t:TrD} (ht:L.tr id=some t) (hord: ∀k,k∈order↔t.lv k≠none) (hnd:order.Nodup) (hoc:order.length≤c):
    Calls prog 58 #[ptrV b 0,ptrV t.ad 0,.slice ar order.length cr] w (Ret fun v w'=> ∃V',(∃mm made ex,v= .tuple #[.map (some mm),intV 0]∧MdI m L V V' t ex made order∧Sat w' [Je b L,ZR L.sp (n+2*c) Fr V',rowT kC (.slice ar order.length cr) order,Q4 Xr mm (KG made),F])∨(v= .tuple #[.map none,intV 6]∧LvI m L V'∧QE L V'=QE L V∧(∀c,AliveLe V c→Fr≤c+JA t order)∧(∀c,AliveLe V c→AliveLe V' (c+JA t order))∧Sat w' [Je b L,ZR L.sp (n+2*c) Fr V',rowT kC (.slice ar order.length cr) order,F])):= by
 have h0:id≠0:=hI.rank.none0 ht
 obtain⟨Av,hA0,hAv⟩:=hI.rank.av id
 have hcm0:True:=trivial
 replace hS:=Zi hS
 replace hS:=ZI (hS.pick [3,0,1,2,4,5,6,7] U) ht
 refine Qm func58 U ntmps58 U ?_
 refine Qe (Qa (Qd U U (Qd U U (Qf (Qc (Qe (Qa (XZ Xr hS U ?_))))))))
 intro mm w1 j1
 rw[←FL]at j1
 refine Qd U U (Qf (Qc (Qe (Qe (Qa (Qb U U ?_))))))
 first | refine XK underlying123 U U ?_ | refine XG 11 j1 underlying123 U U U ?_
 refine Qb U U (Qf (Qc (Qz ?_)))
 refine Xh (fun K0 E0 W0=> ∃(i:Nat) (V1:VS) (ex:Int→Int) (made:KD→Option Int),K0=order.length -i∧E0=[(0,ptrV b 0),(1,ptrV t.ad 0),(8,.map (some mm)),(21,.slice ar order.length cr),(22,intV (order.length:Int)),(23,intV (i:Int))]∧Sat W0 [QC t.ad [intV t.parent,.map (some t.ml),.map (some t.md)],Q4 Xr t.ml (XO LfD.ad t.lv),Xz KH t.lv,Q4 Zd t.md (J0 t.dr),Xz VG (QK L.tr id none),QC b [ptrV L.sp 0,.map (some L.mp),.map (some L.mt),intV L.cur,.map (some L.ms)],Q4 Xr L.mp (Zv L.pres),Q4 QX L.mt (XO TrD.ad L.tr),Q4 QX L.ms (J0 L.sh),ZR L.sp (n+i) Fr V1,rowT kC (.slice ar order.length cr) order,Q4 Xr mm (KG made),F]∧(i≤order.length)∧(MdI m L V V1 t ex made (order.take i))) (L0:=[(0,_),(1,_),(8,_),(21,_),(22,_),(23,_)]) (order.length) (B1 U U U U U U) ⟨0,V,_,_, by omega,rfl,j1.pick [1,2,3,4,5,6,7,8,9,10,11,0,12] U, by omega,MdI.start hI⟩ ?_
 rintro _ _ w2 ⟨i,V1,ex,made,rfl,rfl,j2,hi,hmd⟩
 refine Qe (Qa (Xk U U U (Qf (Qc (Qe (Qu U (fun h3=> ?_) (fun h3=> ?_)))))))
 ·have hilt:i<order.length:= by omega
  obtain⟨k,hk⟩: ∃k,order[i]? =some k:=⟨_,Zk (by omega)⟩
  obtain⟨x,hl⟩: ∃x,t.lv k=some x:=Option.ne_none_iff_exists'.1 ((hord k).1 (List.mem_of_getElem? hk))
  refine Qt (Qc (Qe (Qz (Qe (Qa (Xg kC 10 i j2 U U U (by first | rfl | omega) hk Uv U ?_))))))
  intro bx4 capx4 hvx4
  refine Z9 10 i j2 U hvx4 U hk Xt QZ U U (Xb j2 WA U U ?_)
  intro kb wk5 hk5
  refine QF hk5 U U QZ U (by first | rfl | (simp [QU,Value.oneCell'];done)) (i:=0) U (by first | decide | exact Q5 U) ?_
  intro wk6 hk6; dsimp only[List.set]at hk6
  clear hk5
  replace hk6:=Zw (k:=k) hk6
  refine Qf (Qc (Qe ?_))
  have j7:=hk6.drew
  refine Q6 [0,1,2,3,4,5,6,7,8,9,10,11,12,13,14] [12] ZF (by kernel_rfl) ?_
  refine Q9 U U U (QQ U U U (QI U U U ZC (Q1 U U U (Ql U W6 (by first | assumption | exact j7.cell 0 U U | exact j7.cell 1 U U | exact j7.cell 6 U U)) ?_)))
  refine Q1 U U U (Xp U Xt QZ (by first | exact j7.blk 0 U | exact j7.blk 1 U | exact j7.blk 6 U) (by first | decide | exact Q5 U | (simp;done) | omega) U) ?_
  refine Q1 U U U (Xj (k:=k) 2 j7 keysKey underlying110 U U U Yf (u:=ptrV x.ad 0) (XR hl)) (Q9 U U U (Q9 U U U (QQ U U U (QI U U U Jo (Q1 U U U (Ql U QO (by first | assumption | exact j7.cell 0 U U | exact j7.cell 1 U U | exact j7.cell 6 U U)) ?_)))))
  refine Q1 U U U (Xp U Xt QZ (by first | exact j7.blk 0 U | exact j7.blk 1 U | exact j7.blk 6 U) (by first | decide | exact Q5 U | (simp;done) | omega) U) ?_
  refine Xa U U U U U U ?_
  refine Qy Bo U (MQ (i0:=id) (j7.sp [6,7,8,5,9] U) (hI.rank.ends hm) hAv t.parent (hA0 t ht) k) U ?_
  rintro _ w8 ⟨rfl,j8⟩
  replace j8:=j8.jn U U
  refine X5 (.skip (by kernel_rfl) (.skip (by kernel_rfl) (.cons (.inl ⟨rfl,(Xj (k:=k) 7 j8 keysKey underlying110 U U U Yf (u:=ptrV x.ad 0) (XR hl))⟩) (.cons (.inl ⟨rfl,(Xp U Xt QZ (by first | exact j8.blk 0 U | exact j8.blk 5 U | exact j8.blk 6 U) (by first | decide | exact Q5 U | (simp;done) | omega) U)⟩) (.cons (.inl ⟨rfl,(Ql U W6 (by first | assumption | exact j8.cell 0 U U | exact j8.cell 5 U U | exact j8.cell 6 U U))⟩) .nil))))) ?_
  refine Za U U U (Za U U U (VC.nil (Qc (Qh [23,22,21,8,1,0,10,11,12] U (Qe (Qe ?_))))))
  have j9:=YJ (j8.pick [8,0,1,2,3,4,5,6,7,9,10,11,12,13] U) hl
  refine Qa (Qb U U (Qi U U (Qg U Wg U (Qn U Jx (by first | assumption | exact j9.cell 0 U U | exact j9.cell 2 U U | exact j9.cell 7 U U | exact j9.cell 8 U U) U ?_))))
  refine Xl U U U (Qb U U (QS 45 U (fun h10=> ?_) (fun h10=> ?_)))
  ·have hnn: ¬Vg L t k x:= fun e=>e.1 (zerW h10)
   refine Qk U U (det h10) U (Qk U U (det h10) U (Qk U U (det h10) U (Qk U U (det h10) U (Qk U U (det h10) U (QH U (det h10) U U (Qb U U (Qk U U U U (Qk U U U U (Qk U U U U (Qk U U U U (Qk U U U U (Qk U U U U (QH U U U U (Qf (Qc (Qh [23,22,21,8,1,0,10,11,12,59] U (X3 U (Xc (Qs (Q3 (Qc (Qa (QN U U (by omega) (by omega) U ?_)))))))))))))))))))))))
   refine Qb U U (Qf ?_)
   have j11:=ZK hl (j9.pick [0,1,2,3,4,5,6,7,8,9,10,11,12,13,14] U)
   exact Q8 (L1:=[(0,_),(1,_),(8,_),(21,_),(22,_),(23,intV ((i+1:Nat):Int))]) (B1 U U U U U U) (k1:=order.length -(i+1)) (by omega) ⟨i+1,V1,ex,made, by omega,rfl,(XC (m:=n+(i+1)) (by omega) (j11.pick [10,7,8,0,9,4,1,2,3,5,11,12,13] U)).reorder [1,2,3,4,5,6,7,8,9,0,10,11,12] U, by omega,hmd.skip hk hl hnn⟩
  have hw0:x.wr≠0#64:= fun e=>h10 (by rw[e];rfl)
  refine Qj U U (QJ h10) (Qb U U (Qj U U (QJ h10) (Qi U U (Qj U U (QJ h10) (Qg U Wg U (Qj U U (QJ h10) (Qn U Jx (by first | assumption | exact j9.cell 0 U U | exact j9.cell 2 U U | exact j9.cell 7 U U | exact j9.cell 8 U U) U ?_)))))))
  refine Qj U U (QJ h10) (Xl U U U (QG U (QJ h10) U U (Qb U U (QS 52 U (fun h12=> ?_) (fun h12=> ?_)))))
  ·have hnn: ¬Vg L t k x:= fun e=>e.2.1 (all64 h12)
   refine Qk U U (det h12) U (Qk U U (det h12) U (Qk U U (det h12) U (Qk U U (det h12) U (Qk U U (det h12) U (Qk U U (det h12) U (QH U (det h12) U U (Qf (Qc (Qh [23,22,21,8,1,0,10,11,12,59] U (X3 U (Xc (Qs (Q3 (Qc (Qa (QN U U (by omega) (by omega) U ?_))))))))))))))))
   refine Qb U U (Qf ?_)
   have j13:=ZK hl (j9.pick [0,1,2,3,4,5,6,7,8,9,10,11,12,13,14] U)
   exact Q8 (L1:=[(0,_),(1,_),(8,_),(21,_),(22,_),(23,intV ((i+1:Nat):Int))]) (B1 U U U U U U) (k1:=order.length -(i+1)) (by omega) ⟨i+1,V1,ex,made, by omega,rfl,(XC (m:=n+(i+1)) (by omega) (j13.pick [10,7,8,0,9,4,1,2,3,5,11,12,13] U)).reorder [1,2,3,4,5,6,7,8,9,0,10,11,12] U, by omega,hmd.skip hk hl hnn⟩
  have hw1:x.wr≠BitVec.allOnes 64:= fun e=>h12 (by rw[e];rfl)
  refine Qj U U (QJ h12) (Qb U U (Qj U U (QJ h12) (Qb U U (Qj U U (QJ h12) (Qi U U (Qj U U (QJ h12) (Qg U Kr U (Qj U U (QJ h12) (Qn U QO (by first | assumption | exact j9.cell 0 U U | exact j9.cell 2 U U | exact j9.cell 7 U U | exact j9.cell 8 U U) U ?_)))))))))
  refine Qj U U (QJ h12) (Xl U U U (QG U (QJ h12) U U (Qf (Qc (Qh [23,22,21,8,1,0,10,11,12,59] U (Qu U (fun h14=> ?_) (fun h14=> ?_)))))))
  ·have hnn: ¬Vg L t k x:= fun e=>e.2.2 h14
   refine Xc (Qs (Q3 (Qc (Qa (QN U U (by omega) (by omega) U ?_)))))
   refine Qb U U (Qf ?_)
   have j15:=ZK hl (j9.pick [0,1,2,3,4,5,6,7,8,9,10,11,12,13,14] U)
   exact Q8 (L1:=[(0,_),(1,_),(8,_),(21,_),(22,_),(23,intV ((i+1:Nat):Int))]) (B1 U U U U U U) (k1:=order.length -(i+1)) (by omega) ⟨i+1,V1,ex,made, by omega,rfl,(XC (m:=n+(i+1)) (by omega) (j15.pick [10,7,8,0,9,4,1,2,3,5,11,12,13] U)).reorder [1,2,3,4,5,6,7,8,9,0,10,11,12] U, by omega,hmd.skip hk hl hnn⟩
  have hneed:Vg L t k x:=⟨hw0,hw1,h14⟩
  refine Qt (Qc (Qe ?_))
  have j16:=j9.drew
  refine MD ZF (TD 6 15 U ?_ ?_)
  ·refine R4 (sp:=[5,6,15]) [0,1,2,3,4,7,8,9,10,11,12,13,14,5,6,15,16,17] (by kernel_rfl) ?_
   refine Q9 U U U (QQ U U U (QI U U U Zo (Q1 U U U (Ql U Xy (by first | assumption | exact j16.cell 0 U U | exact j16.cell 2 U U | exact j16.cell 7 U U | exact j16.cell 8 U U)) ?_)))
   refine Q9 U U U (Q9 U U U (QQ U U U (QI U U U Zo (Q1 U U U (Ql U Xy (by first | assumption | exact j16.cell 0 U U | exact j16.cell 2 U U | exact j16.cell 7 U U | exact j16.cell 8 U U)) ?_))))
   refine Q9 U U U (QQ U U U (QI U U U Wu (Q1 U U U (Ql U QO (by first | assumption | exact j16.cell 0 U U | exact j16.cell 2 U U | exact j16.cell 7 U U | exact j16.cell 8 U U)) ?_)))
   refine Xa U U U U U U ?_
   refine Qy YO U (Ui (j16.sp [11] U) (Xx L t.parent k)) U ?_
   rintro _ w17 ⟨rfl,j17⟩
   replace j17:=j17.jn U U
   refine X5 (.cons (.inl ⟨rfl,(Ql U QO (by first | assumption | exact j17.cell 1 U U | exact j17.cell 3 U U | exact j17.cell 8 U U | exact j17.cell 9 U U))⟩) (.cons (.inl ⟨rfl,(Ql U Xy (by first | assumption | exact j17.cell 1 U U | exact j17.cell 3 U U | exact j17.cell 8 U U | exact j17.cell 9 U U))⟩) (Xf (by kernel_rfl)))) ?_
   refine Xa U U U U U U ?_
   refine Ru j17 U underlying9 underlying176 underlying5 U ?_
   intro v18 w18 j18
   refine X5 (.cons (.inl ⟨rfl,(Ql U QO (by first | assumption | exact j18.cell 2 U U | exact j18.cell 4 U U | exact j18.cell 9 U U | exact j18.cell 10 U U))⟩) (.cons (.inl ⟨rfl,(Ql U Xy (by first | assumption | exact j18.cell 2 U U | exact j18.cell 4 U U | exact j18.cell 9 U U | exact j18.cell 10 U U))⟩) (Xf (by kernel_rfl)))) ?_
   refine Xa U U U U U U ?_
   refine Qy YO U (Ui (j18.sp [1] U) (x.own)) U ?_
   rintro _ w19 ⟨rfl,j19⟩
   replace j19:=j19.jn U U
   refine X5 (Xf (by kernel_rfl)) ?_
   refine Za U U U (Za U U U (VC.nil (Qc (Qh [23,22,21,8,1,0,10,11,13,14] U (Qe (Qe ?_))))))
   have hnl:(XY V1 (Xx L t.parent k)).length=64:= by rw[hmd.pg _ (hI.aliveS _ _)]; exact hI.len (hI.aliveS _ _)
   have hao:XT V x.own:= by have ha:=hI.alive (.inr (id,k,true)); rw[X6 ht hl]at ha; exact ha
   have hol:(XY V1 x.own).length=64:= by rw[hmd.pg _ hao]; exact hI.len hao
   obtain⟨ab,cb,hvb,_⟩:=j19.own_shape 1 rfl; rw[hnl]at hvb; obtain rfl:=hvb
   refine Qa (Qb U U ?_)
   first | refine XK underlying176 U U ?_ | refine XG 1 j19 underlying176 U U U ?_ | refine XG 13 j19 underlying176 U U U ?_
   refine Qb U U (Qf (Qc (Qz ?_)))
   have hoz:=j19.pick [1,0,2,3,4,5,6,7,8,9,10,11,12,13,14,15] U
   refine Xh (fun K0 E0 W0=> ∃(q:Nat) (r:Bs),K0=64 -q∧E0=[(0,ptrV b 0),(1,ptrV t.ad 0),(8,.map (some mm)),(21,.slice ar order.length cr),(22,intV (order.length:Int)),(23,intV (i:Int)),(10,ptrV kb 0),(11,ptrV x.ad 0),(13,.slice ab 64 cb),(14,strV (XY V1 x.own)),(77,intV 64),(78,intV (q:Int))]∧Sat W0 [rowT byC (.slice ab 64 cb) r,QC x.ad [intV x.base,intV x.own,Zh x.rd,Zh x.wr],Xz KH (QK t.lv k none),QC kb [strV k.1,intV k.2],QC t.ad [intV t.parent,.map (some t.ml),.map (some t.md)],Q4 Xr t.ml (XO LfD.ad t.lv),Q4 Zd t.md (J0 t.dr),Xz VG (QK L.tr id none),QC b [ptrV L.sp 0,.map (some L.mp),.map (some L.mt),intV L.cur,.map (some L.ms)],Q4 Xr L.mp (Zv L.pres),Q4 QX L.mt (XO TrD.ad L.tr),Q4 QX L.ms (J0 L.sh),ZR L.sp (n+i) Fr V1,rowT kC (.slice ar order.length cr) order,Q4 Xr mm (KG made),F]∧(q≤64)∧(MgI (XY V1 (Xx L t.parent k)) (XY V1 x.own) r x.wr q)) (L0:=[(0,_),(1,_),(8,_),(21,_),(22,_),(23,_),(10,_),(11,_),(13,_),(14,_),(77,_),(78,_)]) (64) (D6 U U U U U U U U U U U U) ⟨0,_,rfl,rfl,hoz.pick [0,2,3,9,10,11,12,7,4,5,6,8,1,13,14,15] U, by omega,MgI.start hnl⟩ ?_
   rintro _ _ w20 ⟨q,r,rfl,rfl,j20,hq,hmg⟩
   refine Qe (Qa (Xk U U U (Qf (Qc (Qe (Qu U (fun h21=> ?_) (fun h21=> ?_)))))))
   ·refine Qt (Qc (Qe (Qz (Qe (Qa (Qb U U (Qd U U (Qf (Qc (Qe (Qa (Qb U U (Qi U U (Qg U Wg U (Qn U Jx (by first | assumption | exact j20.cell 1 U U | exact j20.cell 3 U U | exact j20.cell 4 U U | exact j20.cell 8 U U) U ?_)))))))))))))))
    refine Qb U U (MB q U U (by omega) U ?_)
    refine Gt (b:=1#64) U U U (Xl U U U (Qf (Qc (Qh [78,77,14,13,11,10,23,22,21,8,1,0,15,88] U (Qu U (fun h22=> ?_) (fun h22=> ?_))))))
    ·have hwb:=(bit1 (by omega)).1 h22
     obtain⟨co,hco⟩: ∃co,(XY V1 x.own)[q]? =some co:=⟨_,Zk (by omega)⟩
     obtain⟨cr0,hcr0⟩: ∃co,r[q]? =some co:=⟨_,Zk (by rw[hmg.1];omega)⟩
     refine Qa (Qb U U (Qb U U (Qb U U (Qb U U (Y0 q underlying9 U U U hco U (Xg byC 0 q j20 U U U (by first | rfl | omega) hcr0 Lv U ?_))))))
     intro bx23 capx23 hvx23
     refine Wc 0 q co j20 U hvx23 U U MG (by first | rfl | (simp;done)) (by first | omega | exact(XP hcr0).1) ?_
     intro w24 j25; dsimp only[List.set]at j25
     refine Qf (Qo (Qc (Qh [78,77,14,13,11,10,23,22,21,8,1,0] U (Qa (QN U U (by omega) (by omega) U ?_)))))
     exact Qb U U (Qf (Q8 (L1:=[(0,_),(1,_),(8,_),(21,_),(22,_),(23,_),(10,_),(11,_),(13,_),(14,_),(77,_),(78,intV ((q+1:Nat):Int))]) (D6 U U U U U U U U U U U U) (k1:=64 -(q+1)) (by omega) ⟨q+1,_,rfl,rfl,j25.pick [0,1,2,3,4,5,6,7,8,9,10,11,12,13,14,15] U, by omega,hmg.T (by omega) hwb hco⟩))
    have hwb:x.wr.getLsbD q=false:= by have :=(not_congr (bit1 (by omega))).1 h22;simpa using this
    refine Qt (Qo (Qc (Qa (QN U U (by omega) (by omega) U ?_))))
    refine Qb U U (Qf ?_)
    exact Q8 (L1:=[(0,_),(1,_),(8,_),(21,_),(22,_),(23,_),(10,_),(11,_),(13,_),(14,_),(77,_),(78,intV ((q+1:Nat):Int))]) (D6 U U U U U U U U U U U U) (k1:=64 -(q+1)) (by omega) ⟨q+1,_,rfl,rfl,j20.pick [0,1,2,3,4,5,6,7,8,9,10,11,12,13,14,15] U, by omega,hmg.F hwb⟩
   refine Xc (Qs (Qs (Q3 (Qc (Qh [13,10,23,22,21,8,1,0] U (Qe ?_))))))
   have j26:=j20.drew
   refine Q6 [0,1,2,3,4,5,6,7,8,9,10,11] [6] ZF (by kernel_rfl) ?_
   refine Q9 U U U (QQ U U U (QI U U U Zo (Q1 U U U (Ql U Xy (by first | assumption | exact j26.cell 1 U U | exact j26.cell 3 U U | exact j26.cell 4 U U | exact j26.cell 8 U U)) ?_)))
   refine Q9 U U U (Q1 U U U (Dq 0 j26 U U underlying176 underlying5 underlying9) (Xa U U U U U U ?_))
   have hr64:q=64:= by omega
   subst hr64
   have hre:=hmg.fin hnl hol
   rw[hmd.pg _ (hI.aliveS _ _),hmd.pg x.own hao]at hre
   refine Xv LL U (Fc (j26.sp [12] U) (by omega) (by rw[hre]; exact DT)) U ?_
   rintro e w27 ⟨_,rfl,(⟨hz0,rfl,j27⟩ | ⟨hz0,rfl,hag,j27⟩ | ⟨s2,hz0,rfl,hs1,hv1,j27⟩)⟩
   ·refine⟨_,U, ?_⟩
    replace j27:=j27.jn U U
    have hmd2:=hmd.zero hk hnd hl hneed hz0 hre
    refine X5 (Xf (by kernel_rfl)) ?_
    refine Q9 U U U (ZP U U U U (ZP U U U U (Za U U U (Za U U U (VC.nil (Qc (Qh [10,23,22,21,8,1,0,16,17] U (Qe (Qe (Qa (Qb U U (Xn U U U (Qf (Qc (Qu U (fun h28=> ?_) (fun h28=> ?_))))))))))))))))
    ·exact absurd U h28
    refine Qt (Qc (Qh [10,23,22,21,8,1,0,16] U ?_))
    have j29:=ZK hl (j27.pick [2,3,0,1,4,5,6,7,8,9,10,11,12,13,14,15] U)
    refine Qa (Qb U U ?_)
    refine Wq U Xt QZ (by first | exact j29.blk 3 U | exact j29.blk 4 U | exact j29.blk 8 U) (by first | decide | exact Q5 U | (simp;done) | omega) U U ?_
    refine Qb U U (QY (k:=k) (v:=intV 0) 13 j29 keysKey underlying105 U U U U ?_)
    intro w30 j30; dsimp only[List.set]at j30; rw[DU]at j30
    refine Qf (Qo (Qc (Qh [23,22,21,8,1,0] U (Qa (QN U U (by omega) (by omega) U ?_)))))
    refine Qb U U (Qf ?_)
    exact Q8 (L1:=[(0,_),(1,_),(8,_),(21,_),(22,_),(23,intV ((i+1:Nat):Int))]) (B1 U U U U U U) (k1:=order.length -(i+1)) (by omega) ⟨i+1,_,_,_, by omega,rfl,j30.pick [4,5,0,6,7,8,9,10,11,1,12,13,14] U, by omega,hmd2⟩
   ·refine⟨_,U, ?_⟩
    replace j27:=j27.jn U U
    refine X5 (Xf (by kernel_rfl)) ?_
    refine Q9 U U U (ZP U U U U (ZP U U U U (Za U U U (Za U U U (VC.nil (Qc (Qh [10,23,22,21,8,1,0,16,17] U (Qe (Qe (Qa (Qb U U (Xn U U U (Qf (Qc (Qu U (fun h31=> ?_) (fun h31=> ?_))))))))))))))))
    ·refine Qe (Qe (Qa (Qb U U ?_)))
     have j32:=ZK hl (j27.pick [2,3,0,1,4,5,6,7,8,9,10,11,12,13,14,15] U)
     have hcm: ∀{ks:List KD},Came (KG made) ks→ks.length≤c:= fun h=>Nat.le_trans (hmd.came h) (by rw[List.length_take];omega)
     refine Qy Nb U (GQ (j32.sp [13] U) (fun ks h=> by have :=hcm h;omega)) U ?_
     rintro _ w33 ⟨ks,hks,j33⟩
     replace j33:=j33.jn U U
     obtain⟨au,cu,hvu,_⟩:=j33.own_shape 0 rfl; obtain rfl:=hvu
     have hndk:=YV hks.nodup
     have hlk:(QL ks).length≤c:= by rw[Ws]; exact hcm (Came.of_all hks)
     first | refine XK underlying123 U U ?_ | refine XG 0 j33 underlying123 U U U ?_ | refine XG 4 j33 underlying123 U U U ?_ | refine XG 14 j33 underlying123 U U U ?_
     refine Qb U U (Qf (Qc (Qh [10,23,22,21,8,1,0,16,17,109,110,111] U (Qz ?_))))
     refine Xh (fun K0 E0 W0=> ∃(j:Nat) (V2:VS) (ex2:Int→Int),K0=(QL ks).length -j∧E0=[(0,ptrV b 0),(8,.map (some mm)),(17,intV 6),(109,.slice au (QL ks).length cu),(110,intV ((QL ks).length:Int)),(111,intV (j:Int))]∧Sat W0 [QC t.ad [intV t.parent,.map (some t.ml),.map (some t.md)],Q4 Xr t.ml (XO LfD.ad t.lv),Xz KH t.lv,Q4 Zd t.md (J0 t.dr),Xz VG (QK L.tr id none),QC b [ptrV L.sp 0,.map (some L.mp),.map (some L.mt),intV L.cur,.map (some L.ms)],Q4 Xr L.mp (Zv L.pres),Q4 QX L.mt (XO TrD.ad L.tr),Q4 QX L.ms (J0 L.sh),ZR L.sp (n+i+1+j) Fr V2,rowT kC (.slice ar order.length cr) order,Q4 Xr mm (KG made),rowT kC (.slice au (QL ks).length cu) (QL ks),F]∧(j≤(QL ks).length)∧(UnI m L V1 V2 made ((QL ks).take j) ex2)) (L0:=[(0,_),(8,_),(17,_),(109,_),(110,_),(111,_)]) ((QL ks).length) (B1 U U U U U U) ⟨0,V1,ex, by omega,rfl,j33.pick [6,7,2,8,9,10,11,12,13,3,14,1,0,15] U, by omega,hmd.un⟩ ?_
     rintro _ _ w34 ⟨j,V2,ex2,rfl,rfl,j34,hjl,hun⟩
     refine Qe (Qa (Xk U U U (Qf (Qc (Qe (Qu U (fun h35=> ?_) (fun h35=> ?_)))))))
     ·obtain⟨k2,hj⟩: ∃k,(QL ks)[j]? =some k:=⟨_,Zk (by omega)⟩
      refine Qt (Qc (Qe (Qz (Qe (Qa (Xg kC 12 j j34 U U U (by first | rfl | omega) hj Uv U ?_))))))
      intro bx36 capx36 hvx36
      refine Z9 12 j j34 U hvx36 U hj Xt QZ U U (Xb j34 WA U U ?_)
      intro kb wk37 hk37
      refine QF hk37 U U QZ U (by first | rfl | (simp [QU,Value.oneCell'];done)) (i:=0) U (by first | decide | exact Q5 U) ?_
      intro wk38 hk38; dsimp only[List.set]at hk38
      clear hk37
      replace hk38:=Zw (k:=k2) hk38
      refine Qf (Qc ?_)
      have j39:=hk38.drew
      refine Q6 [0,1,2,3,4,5,6,7] [7] ZF (by kernel_rfl) ?_
      refine Q9 U U U (QQ U U U (QI U U U Zo (Q1 U U U (Ql U Xy (by first | assumption | exact j39.cell 0 U U | exact j39.cell 1 U U | exact j39.cell 6 U U)) ?_)))
      refine Q9 U U U ?_
      refine Q1 U U U (Xp U Xt QZ (by first | exact j39.blk 0 U | exact j39.blk 1 U | exact j39.blk 6 U) (by first | decide | exact Q5 U | (simp;done) | omega) U) ?_
      refine Q1 U U U (Xj (k:=k2) 12 j39 keysKey underlying105 U U U YR (u:=intV (YW made k2)) N9) (Xa U U U U U U ?_)
      refine Qy Na U (DE (j39.sp [10] U) (by omega) (YW made k2)) U ?_
      rintro _ w40 ⟨e0,rfl,j40⟩
      replace j40:=j40.jn U U
      refine X5 (Xf (by kernel_rfl)) ?_
      refine VC.nil (Qo (Qc (Qh [111,110,109,17,8,0] U (Qa (QN U U (by omega) (by omega) U ?_)))))
      refine Qb U U (Qf ?_)
      have hun2:=hun.step hj hndk
      exact Q8 (L1:=[(0,_),(8,_),(17,_),(109,_),(110,_),(111,intV ((j+1:Nat):Int))]) (B1 U U U U U U) (k1:=(QL ks).length -(j+1)) (by omega) ⟨j+1,_,_, by omega,rfl,j40.pick [2,3,4,5,6,7,8,9,10,0,11,12,13,14] U, by omega,hun2⟩
     refine Xc (Qs (Qs (Q3 (Qc (Qe (Qa (Qb U U (Qd U U (Qd U U (Qf (Qc (Qv (Qq (Q0 (Qq (Qq (Q0 (Qq (Jc (.inr U) U U U ?_)))))))))))))))))))
     have hjj:j=(QL ks).length:= by omega
     rw[hjj,List.take_length]at hun
     have huf:=hun.fin (fun k hk=>(JP ks).mem_iff.2 ((hks.mem k).2 (by unfold KG; cases q:made k with | none=> exact absurd q hk | some s=> simp)))
     have j41:=ZJ ht (j34.pick [0,1,2,3,4,5,6,7,8,9,10,11,12,13] U)
     exact⟨_,rfl,V2,.inr ⟨rfl,huf,hun.ab.trans hmd.ab, fun c q=> by have :=Hf (hmd.al c q) hag; exact Nat.le_trans this (Nat.add_le_add_left (Kb hilt) c), fun c q=>(hun.al _ (hmd.al c q)).mono (Nat.add_le_add_left (Kb hilt) c),((XC (m:=n+2*c) (by omega) (j41.pick [5,1,2,3,0,4,6,9] U)).reorder [1,2,3,4,5,0,6,7] U |> fun q=>Xw q)⟩⟩
    exact absurd (by decide) h31
   refine⟨_,U, ?_⟩
   replace j27:=j27.jn U U
   have hmd2:=hmd.fresh hk hnd hl hneed hs1 hv1 hre
   refine X5 (Xf (by kernel_rfl)) ?_
   refine Q9 U U U (ZP U U U U (ZP U U U U (Za U U U (Za U U U (VC.nil (Qc (Qh [10,23,22,21,8,1,0,16,17] U (Qe (Qe (Qa (Qb U U (Xn U U U (Qf (Qc (Qu U (fun h42=> ?_) (fun h42=> ?_))))))))))))))))
   ·exact absurd U h42
   refine Qt (Qc (Qh [10,23,22,21,8,1,0,16] U ?_))
   have j43:=ZK hl (j27.pick [2,3,0,1,4,5,6,7,8,9,10,11,12,13,14,15] U)
   refine Qa (Qb U U ?_)
   refine Wq U Xt QZ (by first | exact j43.blk 3 U | exact j43.blk 4 U | exact j43.blk 8 U) (by first | decide | exact Q5 U | (simp;done) | omega) U U ?_
   refine Qb U U (QY (k:=k) (v:=intV s2) 13 j43 keysKey underlying105 U U U U ?_)
   intro w44 j44; dsimp only[List.set]at j44; rw[DU]at j44
   refine Qf (Qo (Qc (Qh [23,22,21,8,1,0] U (Qa (QN U U (by omega) (by omega) U ?_)))))
   refine Qb U U (Qf ?_)
   exact Q8 (L1:=[(0,_),(1,_),(8,_),(21,_),(22,_),(23,intV ((i+1:Nat):Int))]) (B1 U U U U U U) (k1:=order.length -(i+1)) (by omega) ⟨i+1,_,_,_, by omega,rfl,j44.pick [4,5,0,6,7,8,9,10,11,1,12,13,14] U, by omega,hmd2⟩
  refine R4 (sp:=[5,6,15]) [0,1,2,3,4,7,8,9,10,11,12,13,14,5,15,6,16,17] (by kernel_rfl) ?_
  refine Q9 U U U (QQ U U U (QI U U U Zo (Q1 U U U (Ql U Xy (by first | assumption | exact j16.cell 0 U U | exact j16.cell 2 U U | exact j16.cell 7 U U | exact j16.cell 8 U U)) ?_)))
  refine Q9 U U U (Q9 U U U (QQ U U U (QI U U U Zo (Q1 U U U (Ql U Xy (by first | assumption | exact j16.cell 0 U U | exact j16.cell 2 U U | exact j16.cell 7 U U | exact j16.cell 8 U U)) ?_))))
  refine Q9 U U U (QQ U U U (QI U U U Wu (Q1 U U U (Ql U QO (by first | assumption | exact j16.cell 0 U U | exact j16.cell 2 U U | exact j16.cell 7 U U | exact j16.cell 8 U U)) ?_)))
  refine Xa U U U U U U ?_
  refine Qy YO U (Ui (j16.sp [11] U) (Xx L t.parent k)) U ?_
  rintro _ w45 ⟨rfl,j45⟩
  replace j45:=j45.jn U U
  refine X5 (.cons (.inl ⟨rfl,(Ql U QO (by first | assumption | exact j45.cell 1 U U | exact j45.cell 3 U U | exact j45.cell 8 U U | exact j45.cell 9 U U))⟩) (.cons (.inl ⟨rfl,(Ql U Xy (by first | assumption | exact j45.cell 1 U U | exact j45.cell 3 U U | exact j45.cell 8 U U | exact j45.cell 9 U U))⟩) (Xf (by kernel_rfl)))) ?_
  refine Xa U U U U U U ?_
  refine Qy YO U (Ui (j45.sp [0] U) (x.own)) U ?_
  rintro _ w46 ⟨rfl,j46⟩
  replace j46:=j46.jn U U
  refine X5 (Xf (by kernel_rfl)) ?_
  refine Xa U U U U U U ?_
  refine Ru j46 U underlying9 underlying176 underlying5 U ?_
  intro v47 w47 j47
  refine X5 (.cons (.inl ⟨rfl,(Ql U QO (by first | assumption | exact j47.cell 2 U U | exact j47.cell 4 U U | exact j47.cell 9 U U | exact j47.cell 10 U U))⟩) (.cons (.inl ⟨rfl,(Ql U Xy (by first | assumption | exact j47.cell 2 U U | exact j47.cell 4 U U | exact j47.cell 9 U U | exact j47.cell 10 U U))⟩) (Xf (by kernel_rfl)))) ?_
  refine Za U U U (Za U U U (VC.nil (Qc (Qh [23,22,21,8,1,0,10,11,13,14] U (Qe (Qe ?_))))))
  have hnl:(XY V1 (Xx L t.parent k)).length=64:= by rw[hmd.pg _ (hI.aliveS _ _)]; exact hI.len (hI.aliveS _ _)
  have hao:XT V x.own:= by have ha:=hI.alive (.inr (id,k,true)); rw[X6 ht hl]at ha; exact ha
  have hol:(XY V1 x.own).length=64:= by rw[hmd.pg _ hao]; exact hI.len hao
  obtain⟨ab,cb,hvb,_⟩:=j47.own_shape 0 rfl; rw[hnl]at hvb; obtain rfl:=hvb
  refine Qa (Qb U U ?_)
  first | refine XK underlying176 U U ?_ | refine XG 0 j47 underlying176 U U U ?_ | refine XG 13 j47 underlying176 U U U ?_
  refine Qb U U (Qf (Qc (Qz ?_)))
  have hoz:=j47.pick [0,1,2,3,4,5,6,7,8,9,10,11,12,13,14,15] U
  refine Xh (fun K0 E0 W0=> ∃(q:Nat) (r:Bs),K0=64 -q∧E0=[(0,ptrV b 0),(1,ptrV t.ad 0),(8,.map (some mm)),(21,.slice ar order.length cr),(22,intV (order.length:Int)),(23,intV (i:Int)),(10,ptrV kb 0),(11,ptrV x.ad 0),(13,.slice ab 64 cb),(14,strV (XY V1 x.own)),(77,intV 64),(78,intV (q:Int))]∧Sat W0 [rowT byC (.slice ab 64 cb) r,QC x.ad [intV x.base,intV x.own,Zh x.rd,Zh x.wr],Xz KH (QK t.lv k none),QC kb [strV k.1,intV k.2],QC t.ad [intV t.parent,.map (some t.ml),.map (some t.md)],Q4 Xr t.ml (XO LfD.ad t.lv),Q4 Zd t.md (J0 t.dr),Xz VG (QK L.tr id none),QC b [ptrV L.sp 0,.map (some L.mp),.map (some L.mt),intV L.cur,.map (some L.ms)],Q4 Xr L.mp (Zv L.pres),Q4 QX L.mt (XO TrD.ad L.tr),Q4 QX L.ms (J0 L.sh),ZR L.sp (n+i) Fr V1,rowT kC (.slice ar order.length cr) order,Q4 Xr mm (KG made),F]∧(q≤64)∧(MgI (XY V1 (Xx L t.parent k)) (XY V1 x.own) r x.wr q)) (L0:=[(0,_),(1,_),(8,_),(21,_),(22,_),(23,_),(10,_),(11,_),(13,_),(14,_),(77,_),(78,_)]) (64) (D6 U U U U U U U U U U U U) ⟨0,_,rfl,rfl,hoz.pick [0,2,3,9,10,11,12,7,4,5,6,8,1,13,14,15] U, by omega,MgI.start hnl⟩ ?_
  rintro _ _ w48 ⟨q,r,rfl,rfl,j48,hq,hmg⟩
  refine Qe (Qa (Xk U U U (Qf (Qc (Qe (Qu U (fun h49=> ?_) (fun h49=> ?_)))))))
  ·refine Qt (Qc (Qe (Qz (Qe (Qa (Qb U U (Qd U U (Qf (Qc (Qe (Qa (Qb U U (Qi U U (Qg U Wg U (Qn U Jx (by first | assumption | exact j48.cell 1 U U | exact j48.cell 3 U U | exact j48.cell 4 U U | exact j48.cell 8 U U) U ?_)))))))))))))))
   refine Qb U U (MB q U U (by omega) U ?_)
   refine Gt (b:=1#64) U U U (Xl U U U (Qf (Qc (Qh [78,77,14,13,11,10,23,22,21,8,1,0,15,88] U (Qu U (fun h50=> ?_) (fun h50=> ?_))))))
   ·have hwb:=(bit1 (by omega)).1 h50
    obtain⟨co,hco⟩: ∃co,(XY V1 x.own)[q]? =some co:=⟨_,Zk (by omega)⟩
    obtain⟨cr0,hcr0⟩: ∃co,r[q]? =some co:=⟨_,Zk (by rw[hmg.1];omega)⟩
    refine Qa (Qb U U (Qb U U (Qb U U (Qb U U (Y0 q underlying9 U U U hco U (Xg byC 0 q j48 U U U (by first | rfl | omega) hcr0 Lv U ?_))))))
    intro bx51 capx51 hvx51
    refine Wc 0 q co j48 U hvx51 U U MG (by first | rfl | (simp;done)) (by first | omega | exact(XP hcr0).1) ?_
    intro w52 j53; dsimp only[List.set]at j53
    refine Qf (Qo (Qc (Qh [78,77,14,13,11,10,23,22,21,8,1,0] U (Qa (QN U U (by omega) (by omega) U ?_)))))
    exact Qb U U (Qf (Q8 (L1:=[(0,_),(1,_),(8,_),(21,_),(22,_),(23,_),(10,_),(11,_),(13,_),(14,_),(77,_),(78,intV ((q+1:Nat):Int))]) (D6 U U U U U U U U U U U U) (k1:=64 -(q+1)) (by omega) ⟨q+1,_,rfl,rfl,j53.pick [0,1,2,3,4,5,6,7,8,9,10,11,12,13,14,15] U, by omega,hmg.T (by omega) hwb hco⟩))
   have hwb:x.wr.getLsbD q=false:= by have :=(not_congr (bit1 (by omega))).1 h50;simpa using this
   refine Qt (Qo (Qc (Qa (QN U U (by omega) (by omega) U ?_))))
   refine Qb U U (Qf ?_)
   exact Q8 (L1:=[(0,_),(1,_),(8,_),(21,_),(22,_),(23,_),(10,_),(11,_),(13,_),(14,_),(77,_),(78,intV ((q+1:Nat):Int))]) (D6 U U U U U U U U U U U U) (k1:=64 -(q+1)) (by omega) ⟨q+1,_,rfl,rfl,j48.pick [0,1,2,3,4,5,6,7,8,9,10,11,12,13,14,15] U, by omega,hmg.F hwb⟩
  refine Xc (Qs (Qs (Q3 (Qc (Qh [13,10,23,22,21,8,1,0] U (Qe ?_))))))
  have j54:=j48.drew
  refine Q6 [0,1,2,3,4,5,6,7,8,9,10,11] [6] ZF (by kernel_rfl) ?_
  refine Q9 U U U (QQ U U U (QI U U U Zo (Q1 U U U (Ql U Xy (by first | assumption | exact j54.cell 1 U U | exact j54.cell 3 U U | exact j54.cell 4 U U | exact j54.cell 8 U U)) ?_)))
  refine Q9 U U U (Q1 U U U (Dq 0 j54 U U underlying176 underlying5 underlying9) (Xa U U U U U U ?_))
  have hr64:q=64:= by omega
  subst hr64
  have hre:=hmg.fin hnl hol
  rw[hmd.pg _ (hI.aliveS _ _),hmd.pg x.own hao]at hre
  refine Xv LL U (Fc (j54.sp [12] U) (by omega) (by rw[hre]; exact DT)) U ?_
  rintro e w55 ⟨_,rfl,(⟨hz0,rfl,j55⟩ | ⟨hz0,rfl,hag,j55⟩ | ⟨s2,hz0,rfl,hs1,hv1,j55⟩)⟩
  ·refine⟨_,U, ?_⟩
   replace j55:=j55.jn U U
   have hmd2:=hmd.zero hk hnd hl hneed hz0 hre
   refine X5 (Xf (by kernel_rfl)) ?_
   refine Q9 U U U (ZP U U U U (ZP U U U U (Za U U U (Za U U U (VC.nil (Qc (Qh [10,23,22,21,8,1,0,16,17] U (Qe (Qe (Qa (Qb U U (Xn U U U (Qf (Qc (Qu U (fun h56=> ?_) (fun h56=> ?_))))))))))))))))
   ·exact absurd U h56
   refine Qt (Qc (Qh [10,23,22,21,8,1,0,16] U ?_))
   have j57:=ZK hl (j55.pick [2,3,0,1,4,5,6,7,8,9,10,11,12,13,14,15] U)
   refine Qa (Qb U U ?_)
   refine Wq U Xt QZ (by first | exact j57.blk 3 U | exact j57.blk 4 U | exact j57.blk 8 U) (by first | decide | exact Q5 U | (simp;done) | omega) U U ?_
   refine Qb U U (QY (k:=k) (v:=intV 0) 13 j57 keysKey underlying105 U U U U ?_)
   intro w58 j58; dsimp only[List.set]at j58; rw[DU]at j58
   refine Qf (Qo (Qc (Qh [23,22,21,8,1,0] U (Qa (QN U U (by omega) (by omega) U ?_)))))
   refine Qb U U (Qf ?_)
   exact Q8 (L1:=[(0,_),(1,_),(8,_),(21,_),(22,_),(23,intV ((i+1:Nat):Int))]) (B1 U U U U U U) (k1:=order.length -(i+1)) (by omega) ⟨i+1,_,_,_, by omega,rfl,j58.pick [4,5,0,6,7,8,9,10,11,1,12,13,14] U, by omega,hmd2⟩
  ·refine⟨_,U, ?_⟩
   replace j55:=j55.jn U U
   refine X5 (Xf (by kernel_rfl)) ?_
   refine Q9 U U U (ZP U U U U (ZP U U U U (Za U U U (Za U U U (VC.nil (Qc (Qh [10,23,22,21,8,1,0,16,17] U (Qe (Qe (Qa (Qb U U (Xn U U U (Qf (Qc (Qu U (fun h59=> ?_) (fun h59=> ?_))))))))))))))))
   ·refine Qe (Qe (Qa (Qb U U ?_)))
    have j60:=ZK hl (j55.pick [2,3,0,1,4,5,6,7,8,9,10,11,12,13,14,15] U)
    have hcm: ∀{ks:List KD},Came (KG made) ks→ks.length≤c:= fun h=>Nat.le_trans (hmd.came h) (by rw[List.length_take];omega)
    refine Qy Nb U (GQ (j60.sp [13] U) (fun ks h=> by have :=hcm h;omega)) U ?_
    rintro _ w61 ⟨ks,hks,j61⟩
    replace j61:=j61.jn U U
    obtain⟨au,cu,hvu,_⟩:=j61.own_shape 0 rfl; obtain rfl:=hvu
    have hndk:=YV hks.nodup
    have hlk:(QL ks).length≤c:= by rw[Ws]; exact hcm (Came.of_all hks)
    first | refine XK underlying123 U U ?_ | refine XG 0 j61 underlying123 U U U ?_ | refine XG 4 j61 underlying123 U U U ?_ | refine XG 14 j61 underlying123 U U U ?_
    refine Qb U U (Qf (Qc (Qh [10,23,22,21,8,1,0,16,17,109,110,111] U (Qz ?_))))
    refine Xh (fun K0 E0 W0=> ∃(j:Nat) (V2:VS) (ex2:Int→Int),K0=(QL ks).length -j∧E0=[(0,ptrV b 0),(8,.map (some mm)),(17,intV 6),(109,.slice au (QL ks).length cu),(110,intV ((QL ks).length:Int)),(111,intV (j:Int))]∧Sat W0 [QC t.ad [intV t.parent,.map (some t.ml),.map (some t.md)],Q4 Xr t.ml (XO LfD.ad t.lv),Xz KH t.lv,Q4 Zd t.md (J0 t.dr),Xz VG (QK L.tr id none),QC b [ptrV L.sp 0,.map (some L.mp),.map (some L.mt),intV L.cur,.map (some L.ms)],Q4 Xr L.mp (Zv L.pres),Q4 QX L.mt (XO TrD.ad L.tr),Q4 QX L.ms (J0 L.sh),ZR L.sp (n+i+1+j) Fr V2,rowT kC (.slice ar order.length cr) order,Q4 Xr mm (KG made),rowT kC (.slice au (QL ks).length cu) (QL ks),F]∧(j≤(QL ks).length)∧(UnI m L V1 V2 made ((QL ks).take j) ex2)) (L0:=[(0,_),(8,_),(17,_),(109,_),(110,_),(111,_)]) ((QL ks).length) (B1 U U U U U U) ⟨0,V1,ex, by omega,rfl,j61.pick [6,7,2,8,9,10,11,12,13,3,14,1,0,15] U, by omega,hmd.un⟩ ?_
    rintro _ _ w62 ⟨j,V2,ex2,rfl,rfl,j62,hjl,hun⟩
    refine Qe (Qa (Xk U U U (Qf (Qc (Qe (Qu U (fun h63=> ?_) (fun h63=> ?_)))))))
    ·obtain⟨k2,hj⟩: ∃k,(QL ks)[j]? =some k:=⟨_,Zk (by omega)⟩
     refine Qt (Qc (Qe (Qz (Qe (Qa (Xg kC 12 j j62 U U U (by first | rfl | omega) hj Uv U ?_))))))
     intro bx64 capx64 hvx64
     refine Z9 12 j j62 U hvx64 U hj Xt QZ U U (Xb j62 WA U U ?_)
     intro kb wk65 hk65
     refine QF hk65 U U QZ U (by first | rfl | (simp [QU,Value.oneCell'];done)) (i:=0) U (by first | decide | exact Q5 U) ?_
     intro wk66 hk66; dsimp only[List.set]at hk66
     clear hk65
     replace hk66:=Zw (k:=k2) hk66
     refine Qf (Qc ?_)
     have j67:=hk66.drew
     refine Q6 [0,1,2,3,4,5,6,7] [7] ZF (by kernel_rfl) ?_
     refine Q9 U U U (QQ U U U (QI U U U Zo (Q1 U U U (Ql U Xy (by first | assumption | exact j67.cell 0 U U | exact j67.cell 1 U U | exact j67.cell 6 U U)) ?_)))
     refine Q9 U U U ?_
     refine Q1 U U U (Xp U Xt QZ (by first | exact j67.blk 0 U | exact j67.blk 1 U | exact j67.blk 6 U) (by first | decide | exact Q5 U | (simp;done) | omega) U) ?_
     refine Q1 U U U (Xj (k:=k2) 12 j67 keysKey underlying105 U U U YR (u:=intV (YW made k2)) N9) (Xa U U U U U U ?_)
     refine Qy Na U (DE (j67.sp [10] U) (by omega) (YW made k2)) U ?_
     rintro _ w68 ⟨e0,rfl,j68⟩
     replace j68:=j68.jn U U
     refine X5 (Xf (by kernel_rfl)) ?_
     refine VC.nil (Qo (Qc (Qh [111,110,109,17,8,0] U (Qa (QN U U (by omega) (by omega) U ?_)))))
     refine Qb U U (Qf ?_)
     have hun2:=hun.step hj hndk
     exact Q8 (L1:=[(0,_),(8,_),(17,_),(109,_),(110,_),(111,intV ((j+1:Nat):Int))]) (B1 U U U U U U) (k1:=(QL ks).length -(j+1)) (by omega) ⟨j+1,_,_, by omega,rfl,j68.pick [2,3,4,5,6,7,8,9,10,0,11,12,13,14] U, by omega,hun2⟩
    refine Xc (Qs (Qs (Q3 (Qc (Qe (Qa (Qb U U (Qd U U (Qd U U (Qf (Qc (Qv (Qq (Q0 (Qq (Qq (Q0 (Qq (Jc (.inr U) U U U ?_)))))))))))))))))))
    have hjj:j=(QL ks).length:= by omega
    rw[hjj,List.take_length]at hun
    have huf:=hun.fin (fun k hk=>(JP ks).mem_iff.2 ((hks.mem k).2 (by unfold KG; cases q:made k with | none=> exact absurd q hk | some s=> simp)))
    have j69:=ZJ ht (j62.pick [0,1,2,3,4,5,6,7,8,9,10,11,12,13] U)
    exact⟨_,rfl,V2,.inr ⟨rfl,huf,hun.ab.trans hmd.ab, fun c q=> by have :=Hf (hmd.al c q) hag; exact Nat.le_trans this (Nat.add_le_add_left (Kb hilt) c), fun c q=>(hun.al _ (hmd.al c q)).mono (Nat.add_le_add_left (Kb hilt) c),((XC (m:=n+2*c) (by omega) (j69.pick [5,1,2,3,0,4,6,9] U)).reorder [1,2,3,4,5,0,6,7] U |> fun q=>Xw q)⟩⟩
   exact absurd (by decide) h59
  refine⟨_,U, ?_⟩
  replace j55:=j55.jn U U
  have hmd2:=hmd.fresh hk hnd hl hneed hs1 hv1 hre
  refine X5 (Xf (by kernel_rfl)) ?_
  refine Q9 U U U (ZP U U U U (ZP U U U U (Za U U U (Za U U U (VC.nil (Qc (Qh [10,23,22,21,8,1,0,16,17] U (Qe (Qe (Qa (Qb U U (Xn U U U (Qf (Qc (Qu U (fun h70=> ?_) (fun h70=> ?_))))))))))))))))
  ·exact absurd U h70
  refine Qt (Qc (Qh [10,23,22,21,8,1,0,16] U ?_))
  have j71:=ZK hl (j55.pick [2,3,0,1,4,5,6,7,8,9,10,11,12,13,14,15] U)
  refine Qa (Qb U U ?_)
  refine Wq U Xt QZ (by first | exact j71.blk 3 U | exact j71.blk 4 U | exact j71.blk 8 U) (by first | decide | exact Q5 U | (simp;done) | omega) U U ?_
  refine Qb U U (QY (k:=k) (v:=intV s2) 13 j71 keysKey underlying105 U U U U ?_)
  intro w72 j72; dsimp only[List.set]at j72; rw[DU]at j72
  refine Qf (Qo (Qc (Qh [23,22,21,8,1,0] U (Qa (QN U U (by omega) (by omega) U ?_)))))
  refine Qb U U (Qf ?_)
  exact Q8 (L1:=[(0,_),(1,_),(8,_),(21,_),(22,_),(23,intV ((i+1:Nat):Int))]) (B1 U U U U U U) (k1:=order.length -(i+1)) (by omega) ⟨i+1,_,_,_, by omega,rfl,j72.pick [4,5,0,6,7,8,9,10,11,1,12,13,14] U, by omega,hmd2⟩
 refine Xc (Qs (Qs (Q3 (Qc (Qe (Qa (Qb U U (Qd U U (Qd U U (Qf (Qc (Qv (Jc (.inr U) U U U ?_)))))))))))))
 have hil:i=order.length:= by omega
 rw[hil,List.take_length]at hmd
 have j73:=ZJ ht (j2.pick [0,1,2,3,4,5,6,7,8,9,10,11,12] U)
 exact⟨_,rfl,V1,.inl ⟨mm,made,ex,rfl,hmd,((XC (m:=n+2*c) (by omega) (j73.pick [5,1,2,3,0,4,6,7,8] U)).reorder [1,2,3,4,5,0,6,7,8] U |> fun q=>Xw q)⟩⟩
