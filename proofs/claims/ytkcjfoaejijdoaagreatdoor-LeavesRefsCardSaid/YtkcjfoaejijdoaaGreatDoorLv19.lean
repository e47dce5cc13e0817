/- leaves: merged -/
import Derived.Test.YtkcjfoaejijdoaaGreatDoorLv16
import Derived.Shelf.Spec.TrailingZeros
set_option linter.unusedSectionVars false
set_option linter.unusedVariables false
set_option maxRecDepth 100000
set_option maxHeartbeats 3200000
namespace Go.Proofs.YtkcjfoaejijdoaaGreatDoor
open Go.RowKit M
variable [Inhabited SlW]
theorem MdI.came {m:Nat} {L:LvD} {V V1:VS} {t:TrD} {ex:Int→Int} {made:KD→Option Int} {l:List KD} (h:MdI m L V V1 t ex made l) {ks:List KD} (hc:Came (RA made) ks):ks.length≤l.length:=
  Zr hc.nodup fun k hk=>((h.dom k).1 fun q=>hc.has k hk (by unfold RA; rw[q];rfl)).1
theorem KV {t:TrD} {l:List KD} {i:Nat} (hi:i<l.length):Yi t (l.take i)≤Yi t l:= by
  unfold Yi
  have h:=List.filter_append (p:= fun k=>decide (∃x,t.lv k=some x∧x.wr≠0#64∧x.wr≠BitVec.allOnes 64)) (l.take i) (l.drop i)
  rw[List.take_append_drop]at h
  rw[h,List.length_append];omega
theorem all64 {w:BitVec 64} (h:(w.toNat:Int)=18446744073709551615):w=BitVec.allOnes 64:=BitVec.eq_of_toNat_eq (by simp;omega)
theorem zerW {w:BitVec 64} (h:(w.toNat:Int)=0):w=0#64:=BitVec.eq_of_toNat_eq (by simp;omega)
theorem bit1 {w:BitVec 64} {q:Nat} (hq:q<64):(((w>>>q)&&&1#64).toNat:Int)=1↔w.getLsbD q=true:= by
  have e:(1#64).toNat=1:=rfl
  rw[BitVec.toNat_and,BitVec.toNat_ushiftRight,←BitVec.testBit_toNat,e,Nat.and_one_is_mod,Nat.shiftRight_eq_div_pow,Nat.testBit_eq_decide_div_mod_eq,decide_eq_true_eq]
  generalize w.toNat/ 2^q=z
  omega
theorem Lf {w:World} {m:Nat} {b n Fr:Nat} {L:LvD} {V:VS} {F:Th} {ar:Option Addr} {cr:Nat} {order:List KD} (hS:Sat w [XY b L,XG L.sp n Fr V,rowT kC (.slice ar order.length cr) order,F]) {c:Nat} (hn:n+2*c≤60000000000) (hI:LvI m L V) (hm:m<Zs) {id:Int} {t:TrD} (ht:L.tr id=some t) (hord: ∀k,k∈order↔t.lv k≠none) (hnd:order.Nodup) (hoc:order.length≤c):
    Calls Tryz.prog 50 #[ptrV b 0,ptrV t.ad 0,.slice ar order.length cr] w (Ret fun v w'=> ∃V',(∃mm made ex,v= .tuple #[.map (some mm),intV 0]∧MdI m L V V' t ex made order∧Sat w' [XY b L,XG L.sp (n+2*c) Fr V',rowT kC (.slice ar order.length cr) order,Q5 Xo mm (RA made),F])∨(v= .tuple #[.map none,intV 6]∧LvI m L V'∧Q1 L V'=Q1 L V∧(∀c,AliveLe V c→Fr≤c+Yi t order)∧(∀c,AliveLe V c→AliveLe V' (c+Yi t order))∧Sat w' [XY b L,XG L.sp (n+2*c) Fr V',rowT kC (.slice ar order.length cr) order,F])):= by
 have h0:id≠0:=hI.rank.none0 ht
 obtain⟨Av,hA0,hAv⟩:=hI.rank.av id
 have hcm0:True:=trivial
 replace hS:=Xy hS
 replace hS:=ZB (hS.pick [3,0,1,2,4,5,6,7] U) ht
 refine Qm Tryz.func50 U Tryz.ntmps50 U ?_
 refine Qd (Qa (Qe U U (Qe U U (Qf (Qc (Qd (Qa (ZN Xo hS U ?_))))))))
 intro mm w1 hS1
 rw[←Ao]at hS1
 refine Qe U U (Qf (Qc (Qd (Qd (Qa (Qb U U ?_))))))
 first | refine Xr Tryz.underlying98 U U ?_ | refine ZG 11 hS1 Tryz.underlying98 U U U ?_
 refine Qb U U (Qf (Qc (Qv ?_)))
 refine Xb (fun K0 E0 W0=> ∃(i:Nat) (V1:VS) (ex:Int→Int) (made:KD→Option Int),K0=order.length -i∧E0=[(0,ptrV b 0),(1,ptrV t.ad 0),(8,.map (some mm)),(21,.slice ar order.length cr),(22,intV (order.length:Int)),(23,intV (i:Int))]∧Sat W0 [Q3 t.ad [intV t.parent,.map (some t.ml),.map (some t.md)],Q5 Xo t.ml (Xv LfD.ad t.lv),Zj VQ t.lv,Q5 Js t.md (ZZ t.dr),Zj HK (Xi L.tr id none),Q3 b [ptrV L.sp 0,.map (some L.mp),.map (some L.mt),intV L.cur,.map (some L.ms)],Q5 Xo L.mp (Zg L.pres),Q5 QO L.mt (Xv TrD.ad L.tr),Q5 QO L.ms (ZZ L.sh),XG L.sp (n+i) Fr V1,rowT kC (.slice ar order.length cr) order,Q5 Xo mm (RA made),F]∧(i≤order.length)∧(MdI m L V V1 t ex made (order.take i))) (L0:=[(0,_),(1,_),(8,_),(21,_),(22,_),(23,_)]) (order.length) (Gp U U U U U U) ⟨0,V,_,_, by omega,rfl,hS1.pick [1,2,3,4,5,6,7,8,9,10,11,0,12] U, by omega,MdI.start hI⟩ ?_
 rintro _ _ w2 ⟨i,V1,ex,made,rfl,rfl,hS2,hi,hmd⟩
 refine Qd (Qa (Xg U U U (Qf (Qc (Qd (Qs U (fun h3=> ?_) (fun h3=> ?_)))))))
 ·have hilt:i<order.length:= by omega
  obtain⟨k,hk⟩: ∃k,order[i]? =some k:=⟨_,Zi (by omega)⟩
  obtain⟨x,hl⟩: ∃x,t.lv k=some x:=Option.ne_none_iff_exists'.1 ((hord k).1 (List.mem_of_getElem? hk))
  refine Qt (Qc (Qd (Qv (Qd (Qa (QW kC 10 i hS2 U U U (by first | rfl | omega) hk Va U ?_))))))
  intro bx4 capx4 hvx4
  refine ZA 10 i hS2 U hvx4 U hk X7 Xc U U (QX hS2 Z2 U U ?_)
  intro kb wk5 hk5
  clear hS2
  refine QK hk5 U U Xc U (by rfl) (i:=0) U (by decide) ?_
  intro wk6 hk6; dsimp only[List.set]at hk6
  clear hk5
  replace hk6:=X5 (k:=k) hk6
  refine Qf (Qc (Qd ?_))
  have hS7:=hk6.drew
  refine QF [0,1,2,3,4,5,6,7,8,9,10,11,12,13,14] [12] We (by kernel_rfl) ?_
  refine QG U U U (Xh U U U (QV U U U ZU (Q4 U U U (Qr U Jy (hS7.cell 1 U U)) (Q4 U U U (XF U X7 Xc (hS7.blk 0 U) (Xa U) U) (Q4 U U U (Xz (k:=k) 2 hS7 keysKey Tryz.underlying90 U U U HQ (u:=ptrV x.ad 0) (Zw hl)) (QG U U U (QG U U U (Xh U U U (QV U U U JT (Q4 U U U (Qr U QL (hS7.cell 1 U U)) (Q4 U U U (XF U X7 Xc (hS7.blk 0 U) (Xa U) U) (Xn U U U U U U ?_))))))))))))
  refine Qw HM U (Cw (i0:=id) (hS7.sp [6,7,8,5,9] U) (hI.rank.ends hm) hAv t.parent (hA0 t ht) k) U ?_
  rintro _ w8 ⟨rfl,hS8⟩
  replace hS8:=hS8.jn U U
  clear hS7
  refine XQ (.skip (by kernel_rfl) (.skip (by kernel_rfl) (.cons (.inl ⟨rfl,(Xz (k:=k) 7 hS8 keysKey Tryz.underlying90 U U U HQ (u:=ptrV x.ad 0) (Zw hl))⟩) (.cons (.inl ⟨rfl,(XF U X7 Xc (hS8.blk 5 U) (Xa U) U)⟩) (.cons (.inl ⟨rfl,(Qr U Jy (hS8.cell 6 U U))⟩) .nil))))) ?_
  refine Za U U U (Za U U U (VC.nil (Qc (Qh [23,22,21,8,1,0,10,11,12] U (Qd (Qd ?_))))))
  have hS9:=JO (hS8.pick [8,0,1,2,3,4,5,6,7,9,10,11,12,13] U) hl
  refine Qa (Qb U U (Qj U U (Qg U ZV U (Qn U Jm (hS9.cell 0 U U) U (Xd U U U (Qb U U (QU 45 U (fun h10=> ?_) (fun h10=> ?_))))))))
  ·have hnn: ¬Ka L t k x:= fun e=>e.1 (zerW h10)
   refine Qi U U (Xl h10) U (Qi U U (Xl h10) U (Qi U U (Xl h10) U (Qi U U (Xl h10) U (Qi U U (Xl h10) U (Q9 U (Xl h10) U U (Qb U U (Qi U U U U (Qi U U U U (Qi U U U U (Qi U U U U (Qi U U U U (Qi U U U U (Q9 U U U U (Qf (Qc (Qh [23,22,21,8,1,0,10,11,12,59] U (Xf U (QM (Qo (Qx (Qc (Qa (QI U U (by omega) (by omega) U ?_)))))))))))))))))))))))
   refine Qb U U (Qf ?_)
   have hS11:=ZX hl (hS9.pick [0,1,2,3,4,5,6,7,8,9,10,11,12,13,14] U)
   exact Q0 (L1:=[(0,_),(1,_),(8,_),(21,_),(22,_),(23,intV ((i+1:Nat):Int))]) (Gp U U U U U U) (k1:=order.length -(i+1)) (by omega) ⟨i+1,V1,ex,made, by omega,rfl,(Xe (m:=n+(i+1)) (by omega) (hS11.pick [10,7,8,0,9,4,1,2,3,5,11,12,13] U)).reorder [1,2,3,4,5,6,7,8,9,0,10,11,12] U, by omega,hmd.skip hk hl hnn⟩
  have hw0:x.wr≠0#64:= fun e=>h10 (by rw[e];rfl)
  refine Ql U U (QC h10) (Qb U U (Ql U U (QC h10) (Qj U U (Ql U U (QC h10) (Qg U ZV U (Ql U U (QC h10) (Qn U Jm (hS9.cell 0 U U) U (Ql U U (QC h10) (Xd U U U (QP U (QC h10) U U (Qb U U (QU 52 U (fun h12=> ?_) (fun h12=> ?_)))))))))))))
  ·have hnn: ¬Ka L t k x:= fun e=>e.2.1 (all64 h12)
   refine Qi U U (Xl h12) U (Qi U U (Xl h12) U (Qi U U (Xl h12) U (Qi U U (Xl h12) U (Qi U U (Xl h12) U (Qi U U (Xl h12) U (Q9 U (Xl h12) U U (Qf (Qc (Qh [23,22,21,8,1,0,10,11,12,59] U (Xf U (QM (Qo (Qx (Qc (Qa (QI U U (by omega) (by omega) U ?_))))))))))))))))
   refine Qb U U (Qf ?_)
   have hS13:=ZX hl (hS9.pick [0,1,2,3,4,5,6,7,8,9,10,11,12,13,14] U)
   exact Q0 (L1:=[(0,_),(1,_),(8,_),(21,_),(22,_),(23,intV ((i+1:Nat):Int))]) (Gp U U U U U U) (k1:=order.length -(i+1)) (by omega) ⟨i+1,V1,ex,made, by omega,rfl,(Xe (m:=n+(i+1)) (by omega) (hS13.pick [10,7,8,0,9,4,1,2,3,5,11,12,13] U)).reorder [1,2,3,4,5,6,7,8,9,0,10,11,12] U, by omega,hmd.skip hk hl hnn⟩
  have hw1:x.wr≠BitVec.allOnes 64:= fun e=>h12 (by rw[e];rfl)
  refine Ql U U (QC h12) (Qb U U (Ql U U (QC h12) (Qb U U (Ql U U (QC h12) (Qj U U (Ql U U (QC h12) (Qg U U3 U (Ql U U (QC h12) (Qn U QL (hS9.cell 0 U U) U (Ql U U (QC h12) (Xd U U U (QP U (QC h12) U U (Qf (Qc (Qh [23,22,21,8,1,0,10,11,12,59] U (Qs U (fun h14=> ?_) (fun h14=> ?_)))))))))))))))))
  ·have hnn: ¬Ka L t k x:= fun e=>e.2.2 h14
   refine QM (Qo (Qx (Qc (Qa (QI U U (by omega) (by omega) U ?_)))))
   refine Qb U U (Qf ?_)
   have hS15:=ZX hl (hS9.pick [0,1,2,3,4,5,6,7,8,9,10,11,12,13,14] U)
   exact Q0 (L1:=[(0,_),(1,_),(8,_),(21,_),(22,_),(23,intV ((i+1:Nat):Int))]) (Gp U U U U U U) (k1:=order.length -(i+1)) (by omega) ⟨i+1,V1,ex,made, by omega,rfl,(Xe (m:=n+(i+1)) (by omega) (hS15.pick [10,7,8,0,9,4,1,2,3,5,11,12,13] U)).reorder [1,2,3,4,5,6,7,8,9,0,10,11,12] U, by omega,hmd.skip hk hl hnn⟩
  have hneed:Ka L t k x:=⟨hw0,hw1,h14⟩
  refine Qt (Qc (Qd ?_))
  have hS16:=hS9.drew
  refine Cg We (Nm 6 15 U ?_ ?_)
  ·refine G0 (sp:=[5,6,15]) [0,1,2,3,4,7,8,9,10,11,12,13,14,5,6,15,16,17] (by kernel_rfl) ?_
   refine QG U U U (Xh U U U (QV U U U XN (Q4 U U U (Qr U Xk (hS16.cell 2 U U)) (QG U U U (QG U U U (Xh U U U (QV U U U XN (Q4 U U U (Qr U Xk (hS16.cell 2 U U)) (QG U U U (Xh U U U (QV U U U W5 (Q4 U U U (Qr U QL (hS16.cell 0 U U)) (Xn U U U U U U ?_)))))))))))))
   refine Qw Ya U (YP (hS16.sp [11] U) (X2 L t.parent k)) U ?_
   rintro _ w17 ⟨rfl,hS17⟩
   replace hS17:=hS17.jn U U
   clear hS16
   refine XQ (.cons (.inl ⟨rfl,(Qr U QL (hS17.cell 1 U U))⟩) (.cons (.inl ⟨rfl,(Qr U Xk (hS17.cell 3 U U))⟩) (X1 (by kernel_rfl)))) ?_
   refine Xn U U U U U U ?_
   refine Gq hS17 U Tryz.underlying9 Tryz.underlying143 Tryz.underlying5 U ?_
   intro v18 w18 hS18
   clear hS17
   refine XQ (.cons (.inl ⟨rfl,(Qr U QL (hS18.cell 2 U U))⟩) (.cons (.inl ⟨rfl,(Qr U Xk (hS18.cell 4 U U))⟩) (X1 (by kernel_rfl)))) ?_
   refine Xn U U U U U U ?_
   refine Qw Ya U (YP (hS18.sp [1] U) (x.own)) U ?_
   rintro _ w19 ⟨rfl,hS19⟩
   replace hS19:=hS19.jn U U
   clear hS18
   refine XQ (X1 (by kernel_rfl)) ?_
   refine Za U U U (Za U U U (VC.nil (Qc (Qh [23,22,21,8,1,0,10,11,13,14] U (Qd (Qd ?_))))))
   have hnl:(XH V1 (X2 L t.parent k)).length=64:= by rw[hmd.pg _ (hI.aliveS _ _)]; exact hI.len (hI.aliveS _ _)
   have hao:Xq V x.own:= by have ha:=hI.alive (.inr (id,k,true)); rw[Xj ht hl]at ha; exact ha
   have hol:(XH V1 x.own).length=64:= by rw[hmd.pg _ hao]; exact hI.len hao
   obtain⟨ab,cb,hvb,_⟩:=hS19.own_shape 1 rfl; rw[hnl]at hvb; obtain rfl:=hvb
   refine Qa (Qb U U ?_)
   first | refine Xr Tryz.underlying143 U U ?_ | refine ZG 1 hS19 Tryz.underlying143 U U U ?_ | refine ZG 13 hS19 Tryz.underlying143 U U U ?_
   refine Qb U U (Qf (Qc (Qv ?_)))
   have hoz:=hS19.pick [1,0,2,3,4,5,6,7,8,9,10,11,12,13,14,15] U
   refine Xb (fun K0 E0 W0=> ∃(q:Nat) (r:Bs),K0=64 -q∧E0=[(0,ptrV b 0),(1,ptrV t.ad 0),(8,.map (some mm)),(21,.slice ar order.length cr),(22,intV (order.length:Int)),(23,intV (i:Int)),(10,ptrV kb 0),(11,ptrV x.ad 0),(13,.slice ab 64 cb),(14,strV (XH V1 x.own)),(77,intV 64),(78,intV (q:Int))]∧Sat W0 [rowT byC (.slice ab 64 cb) r,Q3 x.ad [intV x.base,intV x.own,Zz x.rd,Zz x.wr],Zj VQ (Xi t.lv k none),Q3 kb [strV k.1,intV k.2],Q3 t.ad [intV t.parent,.map (some t.ml),.map (some t.md)],Q5 Xo t.ml (Xv LfD.ad t.lv),Q5 Js t.md (ZZ t.dr),Zj HK (Xi L.tr id none),Q3 b [ptrV L.sp 0,.map (some L.mp),.map (some L.mt),intV L.cur,.map (some L.ms)],Q5 Xo L.mp (Zg L.pres),Q5 QO L.mt (Xv TrD.ad L.tr),Q5 QO L.ms (ZZ L.sh),XG L.sp (n+i) Fr V1,rowT kC (.slice ar order.length cr) order,Q5 Xo mm (RA made),F]∧(q≤64)∧(MgI (XH V1 (X2 L t.parent k)) (XH V1 x.own) r x.wr q)) (L0:=[(0,_),(1,_),(8,_),(21,_),(22,_),(23,_),(10,_),(11,_),(13,_),(14,_),(77,_),(78,_)]) (64) (Fk U U U U U U U U U U U U) ⟨0,_,rfl,rfl,hoz.pick [0,2,3,9,10,11,12,7,4,5,6,8,1,13,14,15] U, by omega,MgI.start hnl⟩ ?_
   rintro _ _ w20 ⟨q,r,rfl,rfl,hS20,hq,hmg⟩
   refine Qd (Qa (Xg U U U (Qf (Qc (Qd (Qs U (fun h21=> ?_) (fun h21=> ?_)))))))
   ·refine Qt (Qc (Qd (Qv (Qd (Qa (Qb U U (Qe U U (Qf (Qc (Qd (Qa (Qb U U (Qj U U (Qg U ZV U (Qn U Jm (hS20.cell 1 U U) U (Qb U U (Cd q U U (by omega) U ?_)))))))))))))))))
    refine Br (b:=1#64) U U U (Xd U U U (Qf (Qc (Qh [78,77,14,13,11,10,23,22,21,8,1,0,15,88] U (Qs U (fun h22=> ?_) (fun h22=> ?_))))))
    ·have hwb:=(bit1 (by omega)).1 h22
     obtain⟨co,hco⟩: ∃co,(XH V1 x.own)[q]? =some co:=⟨_,Zi (by omega)⟩
     obtain⟨cr0,hcr0⟩: ∃co,r[q]? =some co:=⟨_,Zi (by rw[hmg.1];omega)⟩
     refine Qa (Qb U U (Qb U U (Qb U U (Qb U U (Hk q Tryz.underlying9 U U U hco U (QW byC 0 q hS20 U U U (by rfl) hcr0 Oo U ?_))))))
     intro bx23 capx23 hvx23
     refine Wx 0 q co hS20 U hvx23 U U Ci (by rfl) ((XR hcr0).1) ?_
     intro w24 hS25; dsimp only[List.set]at hS25
     clear hS20
     refine Qf (Qk (Qc (Qh [78,77,14,13,11,10,23,22,21,8,1,0] U (Qa (QI U U (by omega) (by omega) U ?_)))))
     exact Qb U U (Qf (Q0 (L1:=[(0,_),(1,_),(8,_),(21,_),(22,_),(23,_),(10,_),(11,_),(13,_),(14,_),(77,_),(78,intV ((q+1:Nat):Int))]) (Fk U U U U U U U U U U U U) (k1:=64 -(q+1)) (by omega) ⟨q+1,_,rfl,rfl,hS25.pick [0,1,2,3,4,5,6,7,8,9,10,11,12,13,14,15] U, by omega,hmg.T (by omega) hwb hco⟩))
    have hwb:x.wr.getLsbD q=false:= by have :=(not_congr (bit1 (by omega))).1 h22;simpa using this
    refine Qt (Qk (Qc (Qa (QI U U (by omega) (by omega) U ?_))))
    refine Qb U U (Qf ?_)
    exact Q0 (L1:=[(0,_),(1,_),(8,_),(21,_),(22,_),(23,_),(10,_),(11,_),(13,_),(14,_),(77,_),(78,intV ((q+1:Nat):Int))]) (Fk U U U U U U U U U U U U) (k1:=64 -(q+1)) (by omega) ⟨q+1,_,rfl,rfl,hS20.pick [0,1,2,3,4,5,6,7,8,9,10,11,12,13,14,15] U, by omega,hmg.F hwb⟩
   refine QM (Qo (Qo (Qx (Qc (Qh [13,10,23,22,21,8,1,0] U (Qd ?_))))))
   have hS26:=hS20.drew
   refine QF [0,1,2,3,4,5,6,7,8,9,10,11] [6] We (by kernel_rfl) ?_
   refine QG U U U (Xh U U U (QV U U U XN (Q4 U U U (Qr U Xk (hS26.cell 8 U U)) (QG U U U (Q4 U U U (M7 0 hS26 U U Tryz.underlying143 Tryz.underlying5 Tryz.underlying9) (Xn U U U U U U ?_))))))
   have hr64:q=64:= by omega
   subst hr64
   have hre:=hmg.fin hnl hol
   rw[hmd.pg _ (hI.aliveS _ _),hmd.pg x.own hao]at hre
   refine XU SU U (Es (hS26.sp [12] U) (by omega) (by rw[hre]; exact U1)) U ?_
   rintro e w27 ⟨_,rfl,(⟨hz0,rfl,hS27⟩ | ⟨hz0,rfl,hag,hS27⟩ | ⟨s2,hz0,rfl,hs1,hv1,hS27⟩)⟩
   ·refine⟨_,rfl, ?_⟩
    replace hS27:=hS27.jn U U
    clear hS26
    have hmd2:=hmd.zero hk hnd hl hneed hz0 hre
    refine XQ (X1 (by kernel_rfl)) ?_
    refine QG U U U (Wc U U U U (Wc U U U U (Za U U U (Za U U U (VC.nil (Qc (Qh [10,23,22,21,8,1,0,16,17] U (Qd (Qd (Qa (Qb U U (X0 U U U (Qf (Qc (Qs U (fun h28=> ?_) (fun h28=> ?_))))))))))))))))
    ·exact absurd U h28
    refine Qt (Qc (Qh [10,23,22,21,8,1,0,16] U ?_))
    have hS29:=ZX hl (hS27.pick [2,3,0,1,4,5,6,7,8,9,10,11,12,13,14,15] U)
    refine Qa (Qb U U ?_)
    refine Xt U X7 Xc (by first | exact hS29.blk 3 U | exact hS29.blk 4 U | exact hS29.blk 8 U) (by first | decide | exact Xa U | (simp;done) | omega) U U ?_
    refine Qb U U (Xw (k:=k) (v:=intV 0) 13 hS29 keysKey Tryz.underlying81 U U U U ?_)
    intro w30 hS30; dsimp only[List.set]at hS30; rw[To]at hS30
    clear hS29
    refine Qf (Qk (Qc (Qh [23,22,21,8,1,0] U (Qa (QI U U (by omega) (by omega) U ?_)))))
    refine Qb U U (Qf ?_)
    exact Q0 (L1:=[(0,_),(1,_),(8,_),(21,_),(22,_),(23,intV ((i+1:Nat):Int))]) (Gp U U U U U U) (k1:=order.length -(i+1)) (by omega) ⟨i+1,_,_,_, by omega,rfl,hS30.pick [4,5,0,6,7,8,9,10,11,1,12,13,14] U, by omega,hmd2⟩
   ·refine⟨_,rfl, ?_⟩
    replace hS27:=hS27.jn U U
    clear hS26
    refine XQ (X1 (by kernel_rfl)) ?_
    refine QG U U U (Wc U U U U (Wc U U U U (Za U U U (Za U U U (VC.nil (Qc (Qh [10,23,22,21,8,1,0,16,17] U (Qd (Qd (Qa (Qb U U (X0 U U U (Qf (Qc (Qs U (fun h31=> ?_) (fun h31=> ?_))))))))))))))))
    ·refine Qd (Qd (Qa (Qb U U ?_)))
     have hS32:=ZX hl (hS27.pick [2,3,0,1,4,5,6,7,8,9,10,11,12,13,14,15] U)
     have hcm: ∀{ks:List KD},Came (RA made) ks→ks.length≤c:= fun h=>Nat.le_trans (hmd.came h) (by rw[List.length_take];omega)
     refine Qw Du U (UR (hS32.sp [13] U) (fun ks h=> by have :=hcm h;omega)) U ?_
     rintro _ w33 ⟨ks,hks,hS33⟩
     replace hS33:=hS33.jn U U
     clear hS32
     obtain⟨au,cu,hvu,_⟩:=hS33.own_shape 0 rfl; obtain rfl:=hvu
     have hndk:=H6 hks.nodup
     have hlk:(Q8 ks).length≤c:= by rw[ZJ]; exact hcm (Came.of_all hks)
     refine Xr Tryz.underlying98 U U (Qb U U (Qf (Qc (Qh [10,23,22,21,8,1,0,16,17,109,110,111] U (Qv ?_)))))
     refine Xb (fun K0 E0 W0=> ∃(j:Nat) (V2:VS) (ex2:Int→Int),K0=(Q8 ks).length -j∧E0=[(0,ptrV b 0),(8,.map (some mm)),(17,intV 6),(109,.slice au (Q8 ks).length cu),(110,intV ((Q8 ks).length:Int)),(111,intV (j:Int))]∧Sat W0 [Q3 t.ad [intV t.parent,.map (some t.ml),.map (some t.md)],Q5 Xo t.ml (Xv LfD.ad t.lv),Zj VQ t.lv,Q5 Js t.md (ZZ t.dr),Zj HK (Xi L.tr id none),Q3 b [ptrV L.sp 0,.map (some L.mp),.map (some L.mt),intV L.cur,.map (some L.ms)],Q5 Xo L.mp (Zg L.pres),Q5 QO L.mt (Xv TrD.ad L.tr),Q5 QO L.ms (ZZ L.sh),XG L.sp (n+i+1+j) Fr V2,rowT kC (.slice ar order.length cr) order,Q5 Xo mm (RA made),rowT kC (.slice au (Q8 ks).length cu) (Q8 ks),F]∧(j≤(Q8 ks).length)∧(UnI m L V1 V2 made ((Q8 ks).take j) ex2)) (L0:=[(0,_),(8,_),(17,_),(109,_),(110,_),(111,_)]) ((Q8 ks).length) (Gp U U U U U U) ⟨0,V1,ex, by omega,rfl,hS33.pick [6,7,2,8,9,10,11,12,13,3,14,1,0,15] U, by omega,hmd.un⟩ ?_
     rintro _ _ w34 ⟨j,V2,ex2,rfl,rfl,hS34,hjl,hun⟩
     refine Qd (Qa (Xg U U U (Qf (Qc (Qd (Qs U (fun h35=> ?_) (fun h35=> ?_)))))))
     ·obtain⟨k2,hj⟩: ∃k,(Q8 ks)[j]? =some k:=⟨_,Zi (by omega)⟩
      refine Qt (Qc (Qd (Qv (Qd (Qa (QW kC 12 j hS34 U U U (by first | rfl | omega) hj Va U ?_))))))
      intro bx36 capx36 hvx36
      refine ZA 12 j hS34 U hvx36 U hj X7 Xc U U (QX hS34 Z2 U U ?_)
      intro kb wk37 hk37
      clear hS34
      refine QK hk37 U U Xc U (by rfl) (i:=0) U (by decide) ?_
      intro wk38 hk38; dsimp only[List.set]at hk38
      clear hk37
      replace hk38:=X5 (k:=k2) hk38
      refine Qf (Qc ?_)
      have hS39:=hk38.drew
      refine QF [0,1,2,3,4,5,6,7] [7] We (by kernel_rfl) ?_
      refine QG U U U (Xh U U U (QV U U U XN (Q4 U U U (Qr U Xk (hS39.cell 6 U U)) (QG U U U (Q4 U U U (XF U X7 Xc (hS39.blk 0 U) (Xa U) U) (Q4 U U U (Xz (k:=k2) 12 hS39 keysKey Tryz.underlying81 U U U YN (u:=intV (H9 made k2)) Sl) (Xn U U U U U U ?_)))))))
      refine Qw Rw U (KK (hS39.sp [10] U) (by omega) (H9 made k2)) U ?_
      rintro _ w40 ⟨e0,rfl,hS40⟩
      replace hS40:=hS40.jn U U
      clear hS39
      refine XQ (X1 (by kernel_rfl)) ?_
      refine VC.nil (Qk (Qc (Qh [111,110,109,17,8,0] U (Qa (QI U U (by omega) (by omega) U ?_)))))
      refine Qb U U (Qf ?_)
      have hun2:=hun.step hj hndk
      exact Q0 (L1:=[(0,_),(8,_),(17,_),(109,_),(110,_),(111,intV ((j+1:Nat):Int))]) (Gp U U U U U U) (k1:=(Q8 ks).length -(j+1)) (by omega) ⟨j+1,_,_, by omega,rfl,hS40.pick [2,3,4,5,6,7,8,9,10,0,11,12,13,14] U, by omega,hun2⟩
     refine QM (Qo (Qo (Qx (Qc (Qd (Qa (Qb U U (Qe U U (Qe U U (Qf (Qc (Qu (Qp (Qz (Qp (Qp (Qz (Qp (WW (.inr U) U U U ?_)))))))))))))))))))
     have hjj:j=(Q8 ks).length:= by omega
     rw[hjj,List.take_length]at hun
     have huf:=hun.fin (fun k hk=>(Ju ks).mem_iff.2 ((hks.mem k).2 (by unfold RA; cases q:made k with | none=> exact absurd q hk | some s=> simp)))
     have hS41:=ZW ht (hS34.pick [0,1,2,3,4,5,6,7,8,9,10,11,12,13] U)
     exact⟨_,rfl,V2,.inr ⟨rfl,huf,hun.ab.trans hmd.ab, fun c q=> by have :=HH (hmd.al c q) hag; exact Nat.le_trans this (Nat.add_le_add_left (KV hilt) c), fun c q=>(hun.al _ (hmd.al c q)).mono (Nat.add_le_add_left (KV hilt) c),((Xe (m:=n+2*c) (by omega) (hS41.pick [5,1,2,3,0,4,6,9] U)).reorder [1,2,3,4,5,0,6,7] U |> fun q=>QZ q)⟩⟩
    exact absurd (by decide) h31
   refine⟨_,rfl, ?_⟩
   replace hS27:=hS27.jn U U
   clear hS26
   have hmd2:=hmd.fresh hk hnd hl hneed hs1 hv1 hre
   refine XQ (X1 (by kernel_rfl)) ?_
   refine QG U U U (Wc U U U U (Wc U U U U (Za U U U (Za U U U (VC.nil (Qc (Qh [10,23,22,21,8,1,0,16,17] U (Qd (Qd (Qa (Qb U U (X0 U U U (Qf (Qc (Qs U (fun h42=> ?_) (fun h42=> ?_))))))))))))))))
   ·exact absurd U h42
   refine Qt (Qc (Qh [10,23,22,21,8,1,0,16] U ?_))
   have hS43:=ZX hl (hS27.pick [2,3,0,1,4,5,6,7,8,9,10,11,12,13,14,15] U)
   refine Qa (Qb U U ?_)
   refine Xt U X7 Xc (by first | exact hS43.blk 3 U | exact hS43.blk 4 U | exact hS43.blk 8 U) (by first | decide | exact Xa U | (simp;done) | omega) U U ?_
   refine Qb U U (Xw (k:=k) (v:=intV s2) 13 hS43 keysKey Tryz.underlying81 U U U U ?_)
   intro w44 hS44; dsimp only[List.set]at hS44; rw[To]at hS44
   clear hS43
   refine Qf (Qk (Qc (Qh [23,22,21,8,1,0] U (Qa (QI U U (by omega) (by omega) U ?_)))))
   refine Qb U U (Qf ?_)
   exact Q0 (L1:=[(0,_),(1,_),(8,_),(21,_),(22,_),(23,intV ((i+1:Nat):Int))]) (Gp U U U U U U) (k1:=order.length -(i+1)) (by omega) ⟨i+1,_,_,_, by omega,rfl,hS44.pick [4,5,0,6,7,8,9,10,11,1,12,13,14] U, by omega,hmd2⟩
  refine G0 (sp:=[5,6,15]) [0,1,2,3,4,7,8,9,10,11,12,13,14,5,15,6,16,17] (by kernel_rfl) ?_
  refine QG U U U (Xh U U U (QV U U U XN (Q4 U U U (Qr U Xk (hS16.cell 2 U U)) (QG U U U (QG U U U (Xh U U U (QV U U U XN (Q4 U U U (Qr U Xk (hS16.cell 2 U U)) (QG U U U (Xh U U U (QV U U U W5 (Q4 U U U (Qr U QL (hS16.cell 0 U U)) (Xn U U U U U U ?_)))))))))))))
  refine Qw Ya U (YP (hS16.sp [11] U) (X2 L t.parent k)) U ?_
  rintro _ w45 ⟨rfl,hS45⟩
  replace hS45:=hS45.jn U U
  clear hS16
  refine XQ (.cons (.inl ⟨rfl,(Qr U QL (hS45.cell 1 U U))⟩) (.cons (.inl ⟨rfl,(Qr U Xk (hS45.cell 3 U U))⟩) (X1 (by kernel_rfl)))) ?_
  refine Xn U U U U U U ?_
  refine Qw Ya U (YP (hS45.sp [0] U) (x.own)) U ?_
  rintro _ w46 ⟨rfl,hS46⟩
  replace hS46:=hS46.jn U U
  clear hS45
  refine XQ (X1 (by kernel_rfl)) ?_
  refine Xn U U U U U U ?_
  refine Gq hS46 U Tryz.underlying9 Tryz.underlying143 Tryz.underlying5 U ?_
  intro v47 w47 hS47
  clear hS46
  refine XQ (.cons (.inl ⟨rfl,(Qr U QL (hS47.cell 2 U U))⟩) (.cons (.inl ⟨rfl,(Qr U Xk (hS47.cell 4 U U))⟩) (X1 (by kernel_rfl)))) ?_
  refine Za U U U (Za U U U (VC.nil (Qc (Qh [23,22,21,8,1,0,10,11,13,14] U (Qd (Qd ?_))))))
  have hnl:(XH V1 (X2 L t.parent k)).length=64:= by rw[hmd.pg _ (hI.aliveS _ _)]; exact hI.len (hI.aliveS _ _)
  have hao:Xq V x.own:= by have ha:=hI.alive (.inr (id,k,true)); rw[Xj ht hl]at ha; exact ha
  have hol:(XH V1 x.own).length=64:= by rw[hmd.pg _ hao]; exact hI.len hao
  obtain⟨ab,cb,hvb,_⟩:=hS47.own_shape 0 rfl; rw[hnl]at hvb; obtain rfl:=hvb
  refine Qa (Qb U U ?_)
  first | refine Xr Tryz.underlying143 U U ?_ | refine ZG 0 hS47 Tryz.underlying143 U U U ?_ | refine ZG 13 hS47 Tryz.underlying143 U U U ?_
  refine Qb U U (Qf (Qc (Qv ?_)))
  have hoz:=hS47.pick [0,1,2,3,4,5,6,7,8,9,10,11,12,13,14,15] U
  refine Xb (fun K0 E0 W0=> ∃(q:Nat) (r:Bs),K0=64 -q∧E0=[(0,ptrV b 0),(1,ptrV t.ad 0),(8,.map (some mm)),(21,.slice ar order.length cr),(22,intV (order.length:Int)),(23,intV (i:Int)),(10,ptrV kb 0),(11,ptrV x.ad 0),(13,.slice ab 64 cb),(14,strV (XH V1 x.own)),(77,intV 64),(78,intV (q:Int))]∧Sat W0 [rowT byC (.slice ab 64 cb) r,Q3 x.ad [intV x.base,intV x.own,Zz x.rd,Zz x.wr],Zj VQ (Xi t.lv k none),Q3 kb [strV k.1,intV k.2],Q3 t.ad [intV t.parent,.map (some t.ml),.map (some t.md)],Q5 Xo t.ml (Xv LfD.ad t.lv),Q5 Js t.md (ZZ t.dr),Zj HK (Xi L.tr id none),Q3 b [ptrV L.sp 0,.map (some L.mp),.map (some L.mt),intV L.cur,.map (some L.ms)],Q5 Xo L.mp (Zg L.pres),Q5 QO L.mt (Xv TrD.ad L.tr),Q5 QO L.ms (ZZ L.sh),XG L.sp (n+i) Fr V1,rowT kC (.slice ar order.length cr) order,Q5 Xo mm (RA made),F]∧(q≤64)∧(MgI (XH V1 (X2 L t.parent k)) (XH V1 x.own) r x.wr q)) (L0:=[(0,_),(1,_),(8,_),(21,_),(22,_),(23,_),(10,_),(11,_),(13,_),(14,_),(77,_),(78,_)]) (64) (Fk U U U U U U U U U U U U) ⟨0,_,rfl,rfl,hoz.pick [0,2,3,9,10,11,12,7,4,5,6,8,1,13,14,15] U, by omega,MgI.start hnl⟩ ?_
  rintro _ _ w48 ⟨q,r,rfl,rfl,hS48,hq,hmg⟩
  refine Qd (Qa (Xg U U U (Qf (Qc (Qd (Qs U (fun h49=> ?_) (fun h49=> ?_)))))))
  ·refine Qt (Qc (Qd (Qv (Qd (Qa (Qb U U (Qe U U (Qf (Qc (Qd (Qa (Qb U U (Qj U U (Qg U ZV U (Qn U Jm (hS48.cell 1 U U) U (Qb U U (Cd q U U (by omega) U ?_)))))))))))))))))
   refine Br (b:=1#64) U U U (Xd U U U (Qf (Qc (Qh [78,77,14,13,11,10,23,22,21,8,1,0,15,88] U (Qs U (fun h50=> ?_) (fun h50=> ?_))))))
   ·have hwb:=(bit1 (by omega)).1 h50
    obtain⟨co,hco⟩: ∃co,(XH V1 x.own)[q]? =some co:=⟨_,Zi (by omega)⟩
    obtain⟨cr0,hcr0⟩: ∃co,r[q]? =some co:=⟨_,Zi (by rw[hmg.1];omega)⟩
    refine Qa (Qb U U (Qb U U (Qb U U (Qb U U (Hk q Tryz.underlying9 U U U hco U (QW byC 0 q hS48 U U U (by rfl) hcr0 Oo U ?_))))))
    intro bx51 capx51 hvx51
    refine Wx 0 q co hS48 U hvx51 U U Ci (by rfl) ((XR hcr0).1) ?_
    intro w52 hS53; dsimp only[List.set]at hS53
    clear hS48
    refine Qf (Qk (Qc (Qh [78,77,14,13,11,10,23,22,21,8,1,0] U (Qa (QI U U (by omega) (by omega) U ?_)))))
    exact Qb U U (Qf (Q0 (L1:=[(0,_),(1,_),(8,_),(21,_),(22,_),(23,_),(10,_),(11,_),(13,_),(14,_),(77,_),(78,intV ((q+1:Nat):Int))]) (Fk U U U U U U U U U U U U) (k1:=64 -(q+1)) (by omega) ⟨q+1,_,rfl,rfl,hS53.pick [0,1,2,3,4,5,6,7,8,9,10,11,12,13,14,15] U, by omega,hmg.T (by omega) hwb hco⟩))
   have hwb:x.wr.getLsbD q=false:= by have :=(not_congr (bit1 (by omega))).1 h50;simpa using this
   refine Qt (Qk (Qc (Qa (QI U U (by omega) (by omega) U ?_))))
   refine Qb U U (Qf ?_)
   exact Q0 (L1:=[(0,_),(1,_),(8,_),(21,_),(22,_),(23,_),(10,_),(11,_),(13,_),(14,_),(77,_),(78,intV ((q+1:Nat):Int))]) (Fk U U U U U U U U U U U U) (k1:=64 -(q+1)) (by omega) ⟨q+1,_,rfl,rfl,hS48.pick [0,1,2,3,4,5,6,7,8,9,10,11,12,13,14,15] U, by omega,hmg.F hwb⟩
  refine QM (Qo (Qo (Qx (Qc (Qh [13,10,23,22,21,8,1,0] U (Qd ?_))))))
  have hS54:=hS48.drew
  refine QF [0,1,2,3,4,5,6,7,8,9,10,11] [6] We (by kernel_rfl) ?_
  refine QG U U U (Xh U U U (QV U U U XN (Q4 U U U (Qr U Xk (hS54.cell 8 U U)) (QG U U U (Q4 U U U (M7 0 hS54 U U Tryz.underlying143 Tryz.underlying5 Tryz.underlying9) (Xn U U U U U U ?_))))))
  have hr64:q=64:= by omega
  subst hr64
  have hre:=hmg.fin hnl hol
  rw[hmd.pg _ (hI.aliveS _ _),hmd.pg x.own hao]at hre
  refine XU SU U (Es (hS54.sp [12] U) (by omega) (by rw[hre]; exact U1)) U ?_
  rintro e w55 ⟨_,rfl,(⟨hz0,rfl,hS55⟩ | ⟨hz0,rfl,hag,hS55⟩ | ⟨s2,hz0,rfl,hs1,hv1,hS55⟩)⟩
  ·refine⟨_,rfl, ?_⟩
   replace hS55:=hS55.jn U U
   clear hS54
   have hmd2:=hmd.zero hk hnd hl hneed hz0 hre
   refine XQ (X1 (by kernel_rfl)) ?_
   refine QG U U U (Wc U U U U (Wc U U U U (Za U U U (Za U U U (VC.nil (Qc (Qh [10,23,22,21,8,1,0,16,17] U (Qd (Qd (Qa (Qb U U (X0 U U U (Qf (Qc (Qs U (fun h56=> ?_) (fun h56=> ?_))))))))))))))))
   ·exact absurd U h56
   refine Qt (Qc (Qh [10,23,22,21,8,1,0,16] U ?_))
   have hS57:=ZX hl (hS55.pick [2,3,0,1,4,5,6,7,8,9,10,11,12,13,14,15] U)
   refine Qa (Qb U U ?_)
   refine Xt U X7 Xc (by first | exact hS57.blk 3 U | exact hS57.blk 4 U | exact hS57.blk 8 U) (by first | decide | exact Xa U | (simp;done) | omega) U U ?_
   refine Qb U U (Xw (k:=k) (v:=intV 0) 13 hS57 keysKey Tryz.underlying81 U U U U ?_)
   intro w58 hS58; dsimp only[List.set]at hS58; rw[To]at hS58
   clear hS57
   refine Qf (Qk (Qc (Qh [23,22,21,8,1,0] U (Qa (QI U U (by omega) (by omega) U ?_)))))
   refine Qb U U (Qf ?_)
   exact Q0 (L1:=[(0,_),(1,_),(8,_),(21,_),(22,_),(23,intV ((i+1:Nat):Int))]) (Gp U U U U U U) (k1:=order.length -(i+1)) (by omega) ⟨i+1,_,_,_, by omega,rfl,hS58.pick [4,5,0,6,7,8,9,10,11,1,12,13,14] U, by omega,hmd2⟩
  ·refine⟨_,rfl, ?_⟩
   replace hS55:=hS55.jn U U
   clear hS54
   refine XQ (X1 (by kernel_rfl)) ?_
   refine QG U U U (Wc U U U U (Wc U U U U (Za U U U (Za U U U (VC.nil (Qc (Qh [10,23,22,21,8,1,0,16,17] U (Qd (Qd (Qa (Qb U U (X0 U U U (Qf (Qc (Qs U (fun h59=> ?_) (fun h59=> ?_))))))))))))))))
   ·refine Qd (Qd (Qa (Qb U U ?_)))
    have hS60:=ZX hl (hS55.pick [2,3,0,1,4,5,6,7,8,9,10,11,12,13,14,15] U)
    have hcm: ∀{ks:List KD},Came (RA made) ks→ks.length≤c:= fun h=>Nat.le_trans (hmd.came h) (by rw[List.length_take];omega)
    refine Qw Du U (UR (hS60.sp [13] U) (fun ks h=> by have :=hcm h;omega)) U ?_
    rintro _ w61 ⟨ks,hks,hS61⟩
    replace hS61:=hS61.jn U U
    clear hS60
    obtain⟨au,cu,hvu,_⟩:=hS61.own_shape 0 rfl; obtain rfl:=hvu
    have hndk:=H6 hks.nodup
    have hlk:(Q8 ks).length≤c:= by rw[ZJ]; exact hcm (Came.of_all hks)
    refine Xr Tryz.underlying98 U U (Qb U U (Qf (Qc (Qh [10,23,22,21,8,1,0,16,17,109,110,111] U (Qv ?_)))))
    refine Xb (fun K0 E0 W0=> ∃(j:Nat) (V2:VS) (ex2:Int→Int),K0=(Q8 ks).length -j∧E0=[(0,ptrV b 0),(8,.map (some mm)),(17,intV 6),(109,.slice au (Q8 ks).length cu),(110,intV ((Q8 ks).length:Int)),(111,intV (j:Int))]∧Sat W0 [Q3 t.ad [intV t.parent,.map (some t.ml),.map (some t.md)],Q5 Xo t.ml (Xv LfD.ad t.lv),Zj VQ t.lv,Q5 Js t.md (ZZ t.dr),Zj HK (Xi L.tr id none),Q3 b [ptrV L.sp 0,.map (some L.mp),.map (some L.mt),intV L.cur,.map (some L.ms)],Q5 Xo L.mp (Zg L.pres),Q5 QO L.mt (Xv TrD.ad L.tr),Q5 QO L.ms (ZZ L.sh),XG L.sp (n+i+1+j) Fr V2,rowT kC (.slice ar order.length cr) order,Q5 Xo mm (RA made),rowT kC (.slice au (Q8 ks).length cu) (Q8 ks),F]∧(j≤(Q8 ks).length)∧(UnI m L V1 V2 made ((Q8 ks).take j) ex2)) (L0:=[(0,_),(8,_),(17,_),(109,_),(110,_),(111,_)]) ((Q8 ks).length) (Gp U U U U U U) ⟨0,V1,ex, by omega,rfl,hS61.pick [6,7,2,8,9,10,11,12,13,3,14,1,0,15] U, by omega,hmd.un⟩ ?_
    rintro _ _ w62 ⟨j,V2,ex2,rfl,rfl,hS62,hjl,hun⟩
    refine Qd (Qa (Xg U U U (Qf (Qc (Qd (Qs U (fun h63=> ?_) (fun h63=> ?_)))))))
    ·obtain⟨k2,hj⟩: ∃k,(Q8 ks)[j]? =some k:=⟨_,Zi (by omega)⟩
     refine Qt (Qc (Qd (Qv (Qd (Qa (QW kC 12 j hS62 U U U (by first | rfl | omega) hj Va U ?_))))))
     intro bx64 capx64 hvx64
     refine ZA 12 j hS62 U hvx64 U hj X7 Xc U U (QX hS62 Z2 U U ?_)
     intro kb wk65 hk65
     clear hS62
     refine QK hk65 U U Xc U (by rfl) (i:=0) U (by decide) ?_
     intro wk66 hk66; dsimp only[List.set]at hk66
     clear hk65
     replace hk66:=X5 (k:=k2) hk66
     refine Qf (Qc ?_)
     have hS67:=hk66.drew
     refine QF [0,1,2,3,4,5,6,7] [7] We (by kernel_rfl) ?_
     refine QG U U U (Xh U U U (QV U U U XN (Q4 U U U (Qr U Xk (hS67.cell 6 U U)) (QG U U U (Q4 U U U (XF U X7 Xc (hS67.blk 0 U) (Xa U) U) (Q4 U U U (Xz (k:=k2) 12 hS67 keysKey Tryz.underlying81 U U U YN (u:=intV (H9 made k2)) Sl) (Xn U U U U U U ?_)))))))
     refine Qw Rw U (KK (hS67.sp [10] U) (by omega) (H9 made k2)) U ?_
     rintro _ w68 ⟨e0,rfl,hS68⟩
     replace hS68:=hS68.jn U U
     clear hS67
     refine XQ (X1 (by kernel_rfl)) ?_
     refine VC.nil (Qk (Qc (Qh [111,110,109,17,8,0] U (Qa (QI U U (by omega) (by omega) U ?_)))))
     refine Qb U U (Qf ?_)
     have hun2:=hun.step hj hndk
     exact Q0 (L1:=[(0,_),(8,_),(17,_),(109,_),(110,_),(111,intV ((j+1:Nat):Int))]) (Gp U U U U U U) (k1:=(Q8 ks).length -(j+1)) (by omega) ⟨j+1,_,_, by omega,rfl,hS68.pick [2,3,4,5,6,7,8,9,10,0,11,12,13,14] U, by omega,hun2⟩
    refine QM (Qo (Qo (Qx (Qc (Qd (Qa (Qb U U (Qe U U (Qe U U (Qf (Qc (Qu (Qp (Qz (Qp (Qp (Qz (Qp (WW (.inr U) U U U ?_)))))))))))))))))))
    have hjj:j=(Q8 ks).length:= by omega
    rw[hjj,List.take_length]at hun
    have huf:=hun.fin (fun k hk=>(Ju ks).mem_iff.2 ((hks.mem k).2 (by unfold RA; cases q:made k with | none=> exact absurd q hk | some s=> simp)))
    have hS69:=ZW ht (hS62.pick [0,1,2,3,4,5,6,7,8,9,10,11,12,13] U)
    exact⟨_,rfl,V2,.inr ⟨rfl,huf,hun.ab.trans hmd.ab, fun c q=> by have :=HH (hmd.al c q) hag; exact Nat.le_trans this (Nat.add_le_add_left (KV hilt) c), fun c q=>(hun.al _ (hmd.al c q)).mono (Nat.add_le_add_left (KV hilt) c),((Xe (m:=n+2*c) (by omega) (hS69.pick [5,1,2,3,0,4,6,9] U)).reorder [1,2,3,4,5,0,6,7] U |> fun q=>QZ q)⟩⟩
   exact absurd (by decide) h59
  refine⟨_,rfl, ?_⟩
  replace hS55:=hS55.jn U U
  clear hS54
  have hmd2:=hmd.fresh hk hnd hl hneed hs1 hv1 hre
  refine XQ (X1 (by kernel_rfl)) ?_
  refine QG U U U (Wc U U U U (Wc U U U U (Za U U U (Za U U U (VC.nil (Qc (Qh [10,23,22,21,8,1,0,16,17] U (Qd (Qd (Qa (Qb U U (X0 U U U (Qf (Qc (Qs U (fun h70=> ?_) (fun h70=> ?_))))))))))))))))
  ·exact absurd U h70
  refine Qt (Qc (Qh [10,23,22,21,8,1,0,16] U ?_))
  have hS71:=ZX hl (hS55.pick [2,3,0,1,4,5,6,7,8,9,10,11,12,13,14,15] U)
  refine Qa (Qb U U ?_)
  refine Xt U X7 Xc (by first | exact hS71.blk 3 U | exact hS71.blk 4 U | exact hS71.blk 8 U) (by first | decide | exact Xa U | (simp;done) | omega) U U ?_
  refine Qb U U (Xw (k:=k) (v:=intV s2) 13 hS71 keysKey Tryz.underlying81 U U U U ?_)
  intro w72 hS72; dsimp only[List.set]at hS72; rw[To]at hS72
  clear hS71
  refine Qf (Qk (Qc (Qh [23,22,21,8,1,0] U (Qa (QI U U (by omega) (by omega) U ?_)))))
  refine Qb U U (Qf ?_)
  exact Q0 (L1:=[(0,_),(1,_),(8,_),(21,_),(22,_),(23,intV ((i+1:Nat):Int))]) (Gp U U U U U U) (k1:=order.length -(i+1)) (by omega) ⟨i+1,_,_,_, by omega,rfl,hS72.pick [4,5,0,6,7,8,9,10,11,1,12,13,14] U, by omega,hmd2⟩
 refine QM (Qo (Qo (Qx (Qc (Qd (Qa (Qb U U (Qe U U (Qe U U (Qf (Qc (Qu (WW (.inr U) U U U ?_)))))))))))))
 have hil:i=order.length:= by omega
 rw[hil,List.take_length]at hmd
 have hS73:=ZW ht (hS2.pick [0,1,2,3,4,5,6,7,8,9,10,11,12] U)
 exact⟨_,rfl,V1,.inl ⟨mm,made,ex,rfl,hmd,((Xe (m:=n+2*c) (by omega) (hS73.pick [5,1,2,3,0,4,6,7,8] U)).reorder [1,2,3,4,5,0,6,7,8] U |> fun q=>QZ q)⟩⟩
end Go.Proofs.YtkcjfoaejijdoaaGreatDoor
