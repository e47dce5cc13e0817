/- reclaim: victim, pass -/
import Derived.Test.YtkcjfoaejijdoaaGreatDoorCk1
import Derived.Test.YtkcjfoaejijdoaaGreatDoorRow
import Derived.Test.YtkcjfoaejijdoaaGreatDoorFw
set_option linter.unusedVariables false
set_option maxRecDepth 100000
set_option maxHeartbeats 80000000000
namespace Go.Proofs.YtkcjfoaejijdoaaGreatDoor
open Go.RowKit M
def okK (ul:List Bool) (n:Int):Prop:=n= -1∨(0≤n∧ul[n.toNat]? =some true)
theorem clk_all {ul:List Bool} {hd:Int} (h0:0≤hd) (h1:hd<ul.length) (h: ∀j:Nat,j<ul.length→ul[((hd+(j:Int))%(ul.length:Int)).toNat]? =some false): ∀x∈ul,x=false:= by
  intro x hx
  obtain⟨k,hk⟩:=List.mem_iff_getElem?.1 hx
  have hkl:=(XR hk).1
  have h5:=Int.emod_lt_of_pos ((k:Int) -hd) (show(0:Int)<ul.length by omega)
  have h6:=Int.emod_nonneg ((k:Int) -hd) (show(ul.length:Int)≠0 by omega)
  have hj:=h (((k:Int) -hd)%(ul.length:Int)).toNat (by omega)
  have e:((hd+(((((k:Int) -hd)%(ul.length:Int)).toNat:Nat):Int))%(ul.length:Int)).toNat=k:= by
    rw[Int.toNat_of_nonneg h6,Int.add_emod_emod, show hd+((k:Int) -hd)=(k:Int) by omega,Int.emod_eq_of_lt (by omega) (by omega)];omega
  rw[e,hk]at hj
  exact Option.some.inj hj
theorem N1 {w:World} {p:Nat} {ul:List Bool} {hd:Int} {F:Th} (hS:Sat w [GF p ul hd,F]):
    Calls Tryz.prog 169 #[ptrV p 0] w (Ret fun v w'=>(∃k:Nat,ul[k]? =some true∧v= .tuple #[intV (k:Int),.bool true]∧Sat w' [GF p ul hd,F])∨((∀x∈ul,x=false)∧v= .tuple #[intV 0,.bool false]∧Sat w' [GF p ul hd,F])):= by
 obtain⟨ob,cap,l,b1,b2,b3,g1,g2,g3,hul,hl4,hh0,hh1,hS⟩:=Jx hS
 refine Qm Tryz.func169 U Tryz.ntmps169 U ?_
 refine Qd (Qa (Qe U U (Qe U U (Qf (Qc (Qd (Qa (Qe U U (Qe U U (Qf (Qc (Qd (Qd (Qa (Qb U U (Qj U U (Qg U ZL U (Qn U Jf (hS.cell 0 U U) U (Xr Tryz.underlying186 U U (Qb U U (Qf (Qc (Qh [0,2,3,4,5,13,14] U (Qv ?_))))))))))))))))))))))))
 refine Xb (fun K0 E0 W0=> ∃(i:Nat) (um an:Int),K0=l.length -i∧E0=[(0,ptrV p 0),(4,intV um),(5,intV an),(13,intV (l.length:Int)),(14,intV (i:Int))]∧Sat W0 [Q3 p [.slice (some ⟨ob,0,none⟩) l.length cap,intV hd,.map (some b1),.map (some b2),.map (some b3)],rowT ckC (.slice (some ⟨ob,0,none⟩) l.length cap) l,Q5 QO b1 (gI g1),Q5 QO b2 (gI g2),Q5 QO b3 (gI g3),F]∧(i≤l.length)∧(okK ul um)∧(okK ul an)∧(an= -1→ ∀j:Nat,j<i→ul[((hd+(j:Int))%(ul.length:Int)).toNat]? =some false)) (L0:=[(0,_),(4,_),(5,_),(13,_),(14,_)]) (l.length -0) (YU U U U U U) ⟨0, -1, -1,rfl,rfl,hS, by omega,.inl U,.inl U, fun _ j hj=> by omega⟩ ?_
 rintro _ _ w1 ⟨i,um,an,rfl,rfl,hS1,hi,hum,han,hall⟩
 refine Qd (Qa (Xg U U U (Qf (Qc (Qd (Qs U (fun h2=> ?_) (fun h2=> ?_)))))))
 ·refine Qt (Qc (Qd (Qv (Qd (Qa (Qb U U (Qe U U (Qf (Qc (Qd ?_))))))))))
  have hS3:=hS1.drew
  refine QF [0,1,2,3,4,5,6,7,8,9,10,11,12] [] We (by kernel_rfl) ?_
  refine QG U U U (Xh U U U (QV U U U YF (Q4 U U U (Qr U QL (hS3.cell 0 U U)) (QG U U U (X8 U U U (fun _=>(Kx U U (by omega) (by omega))) ?_)))))
  refine QG U U U (Xh U U U (QV U U U ZL (Q4 U U U (Qr U Jf (hS3.cell 0 U U)) (X8 U U U (fun _=>(VB Tryz.underlying186 U)) ?_))))
  refine X8 U U U (fun _=>(Di U U (by omega) (by omega))) ?_
  refine Za U U U (VC.nil ?_)
  have hm1:0≤((hd+(i:Int))%(l.length:Int)):=Int.emod_nonneg _ (by omega)
  have hm2:((hd+(i:Int))%(l.length:Int))<(l.length:Int):=Int.emod_lt_of_pos _ (by omega)
  obtain⟨x,hx⟩: ∃x,l[((hd+(i:Int))%(l.length:Int)).toNat]? =some x:=⟨_,Zi (by omega)⟩
  have hulk:ul[((hd+(i:Int))%(l.length:Int)).toNat]? =some x.u:= by rw[hul]; exact ck_u hx
  have hulx:ul[((hd+(i:Int))%(ul.length:Int)).toNat]? =some x.u:= by rw[show(ul.length:Int)=(l.length:Int) by rw[hul,List.length_map]]; exact hulk
  refine Qc (Qh [14,13,5,4,0,7] U (Qd (Qa (Qb U U (Qj U U (Qg U ZL U (Qn U Jf (hS3.cell 0 U U) U (Qb U U (QW ckC 1 ((hd+(i:Int))%(l.length:Int)).toNat hS3 U U U (by rw[Int.toNat_of_nonneg hm1]) hx YR U ?_)))))))))
  intro bx4 capx4 hvx4
  refine ZA 1 ((hd+(i:Int))%(l.length:Int)).toNat hS3 U hvx4 U hx Iv Kh U U (QX hS3 Bm U U ?_)
  intro b5 w5 hS5
  clear hS3
  (refine QK hS5 U U Kh U (by rfl) (i:=0) U (by decide) ?_)
  intro w6 hS7; dsimp only[List.set]at hS7
  clear hS5
  refine Qf (Qc (Qh [14,13,5,4,0,7,8] U (Qd (Qv (Qd (Qa (Qg U Rm U (Qn U D3 (hS7.cell 0 U U) U (QQ U U (Qe U U (Qf (Qc (Qh [14,13,5,4,0,7,8,36] U (QN U (fun h8=> ?_) (fun h8=> ?_)))))))))))))))
  ·have hxu:x.u=false:= by simpa using h8
   refine QM (Y4 U (Qo (Qx (Qc (Qa (QI U U (by omega) (by omega) U ?_))))))
   refine Qb U U (Qf ?_)
   exact Q0 (L1:=[(0,_),(4,intV um),(5,intV an),(13,_),(14,intV ((i+1:Nat):Int))]) (YU U U U U U) (k1:=l.length -(i+1)) (by omega) ⟨i+1,um,an,rfl,rfl,hS7.pick [1,2,3,4,5,6] U, by omega,hum,han, fun e j hj=> by by_cases q:j=i;(subst q; rw[hulx,hxu]); exact hall e j (by omega)⟩
  have hxu:x.u=true:= by simpa using h8
  refine Qd (Qa (Qg U Ue U (Qn U D3 (hS7.cell 0 U U) U (QQ U U (Qb U U (Ze 44 U (fun h9=> ?_) (fun h9=> ?_)))))))
  ·refine Ql U U h9 (Qb U U (Ql U U h9 (Qg U Rl U (Ql U U h9 (Qn U QL (hS7.cell 0 U U) U (Ql U U h9 (Qw cal_203 U (LG (hS7.sp [1,2,3,4,5] U) x.o) U ?_)))))))
   rintro _ w10 ⟨g0,rfl,hS10⟩
   replace hS10:=hS10.jn U U
   clear hS7
   refine Q9 U h9 U U (Qe U U (Qf (Qc (Qh [14,13,5,4,0,7,8,40] U (QN U (fun h11=> ?_) (fun h11=> ?_))))))
   ·exact Qd (Qa (Qb U U (Qe U U (Qe U U (Qf (Qc (Qh [14,13,5,4,0,7,2,3] U (Qu (Qz (Qp (Qz (Qp (Qp (Qz (Qp (WW (.inr U) U U U (⟨_,rfl,.inl ⟨((hd+(i:Int))%(l.length:Int)).toNat, by rw[hulk,hxu], by rw[Int.toNat_of_nonneg hm1],Zy (hul) (hl4) (hh0) (hh1) (hS10.pick [0,1,2,3,4,6] U)⟩⟩)))))))))))))))))
   refine Qd (Qa (Qg U Ue U (Qn U D3 (hS10.cell 5 U U) U (QQ U U (Qb U U (Ze 55 U (fun h12=> ?_) (fun h12=> ?_)))))))
   ·refine Ql U U h12 (Qb U U (Ql U U h12 (Xg U U U (Q9 U h12 U U (Qe U U (Qf (Qc (Qh [14,13,5,4,0,7,51] U (Qs U (fun h13=> ?_) (fun h13=> ?_))))))))))
    ·refine Qa (Qb U U (Qe U U (Qf (Qk (Qc (Qd (Qa (Qb U U (Xg U U U (Qf (Qc (Qs U (fun h14=> ?_) (fun h14=> ?_)))))))))))))
     ·refine Qa (Qb U U (Qe U U (Qf (Qk (Qc (Qh [14,13,0,4,5] U (Qa (QI U U (by omega) (by omega) U ?_))))))))
      refine Qb U U (Qf ?_)
      exact Q0 (L1:=[(0,_),(4,intV ((hd+(i:Int))%(l.length:Int))),(5,intV ((hd+(i:Int))%(l.length:Int))),(13,_),(14,intV ((i+1:Nat):Int))]) (YU U U U U U) (k1:=l.length -(i+1)) (by omega) ⟨i+1,((hd+(i:Int))%(l.length:Int)),((hd+(i:Int))%(l.length:Int)),rfl,rfl,hS10.pick [0,1,2,3,4,6] U, by omega,.inr ⟨by omega, by rw[hulk,hxu]⟩,.inr ⟨by omega, by rw[hulk,hxu]⟩, fun e=> by omega⟩
     refine Qt (Qk (Qc (Qa (QI U U (by omega) (by omega) U ?_))))
     refine Qb U U (Qf ?_)
     exact Q0 (L1:=[(0,_),(4,intV ((hd+(i:Int))%(l.length:Int))),(5,intV an),(13,_),(14,intV ((i+1:Nat):Int))]) (YU U U U U U) (k1:=l.length -(i+1)) (by omega) ⟨i+1,((hd+(i:Int))%(l.length:Int)),an,rfl,rfl,hS10.pick [0,1,2,3,4,6] U, by omega,.inr ⟨by omega, by rw[hulk,hxu]⟩,han, fun e=> by omega⟩
    refine Qt (Qk (Qc (Qd (Qa (Qb U U (Xg U U U (Qf (Qc (Qs U (fun h15=> ?_) (fun h15=> ?_))))))))))
    ·refine Qa (Qb U U (Qe U U (Qf (Qk (Qc (Qa (QI U U (by omega) (by omega) U ?_)))))))
     refine Qb U U (Qf ?_)
     exact Q0 (L1:=[(0,_),(4,intV um),(5,intV ((hd+(i:Int))%(l.length:Int))),(13,_),(14,intV ((i+1:Nat):Int))]) (YU U U U U U) (k1:=l.length -(i+1)) (by omega) ⟨i+1,um,((hd+(i:Int))%(l.length:Int)),rfl,rfl,hS10.pick [0,1,2,3,4,6] U, by omega,hum,.inr ⟨by omega, by rw[hulk,hxu]⟩, fun e=> by omega⟩
    refine Qt (Qk (Qc (Qa (QI U U (by omega) (by omega) U ?_))))
    refine Qb U U (Qf ?_)
    exact Q0 (L1:=[(0,_),(4,intV um),(5,intV an),(13,_),(14,intV ((i+1:Nat):Int))]) (YU U U U U U) (k1:=l.length -(i+1)) (by omega) ⟨i+1,um,an,rfl,rfl,hS10.pick [0,1,2,3,4,6] U, by omega,hum,han, fun e=> by omega⟩
   refine Qi U U h12 U (Qi U U h12 U (QP U h12 U U (Qe U U (Qf (Qc (Qh [14,13,5,4,0,7,51] U (QT U (Qt (Qk (Qc (Qd (Qa (Qb U U (Xg U U U (Qf (Qc (Qs U (fun h16=> ?_) (fun h16=> ?_))))))))))))))))))
   ·refine Qa (Qb U U (Qe U U (Qf (Qk (Qc (Qa (QI U U (by omega) (by omega) U ?_)))))))
    refine Qb U U (Qf ?_)
    exact Q0 (L1:=[(0,_),(4,intV um),(5,intV ((hd+(i:Int))%(l.length:Int))),(13,_),(14,intV ((i+1:Nat):Int))]) (YU U U U U U) (k1:=l.length -(i+1)) (by omega) ⟨i+1,um,((hd+(i:Int))%(l.length:Int)),rfl,rfl,hS10.pick [0,1,2,3,4,6] U, by omega,hum,.inr ⟨by omega, by rw[hulk,hxu]⟩, fun e=> by omega⟩
   refine Qt (Qk (Qc (Qa (QI U U (by omega) (by omega) U ?_))))
   refine Qb U U (Qf ?_)
   exact Q0 (L1:=[(0,_),(4,intV um),(5,intV an),(13,_),(14,intV ((i+1:Nat):Int))]) (YU U U U U U) (k1:=l.length -(i+1)) (by omega) ⟨i+1,um,an,rfl,rfl,hS10.pick [0,1,2,3,4,6] U, by omega,hum,han, fun e=> by omega⟩
  refine Qi U U h9 U (Qi U U h9 U (Qi U U h9 U (Qi U U h9 U (QP U h9 U U (Qe U U (Qf (Qc (Qh [14,13,5,4,0,7,8,40] U (QT U (Qd (Qa (Qg U Ue U (Qn U D3 (hS7.cell 0 U U) U (QQ U U (Qb U U (Ze 55 U (fun h17=> ?_) (fun h17=> ?_)))))))))))))))))
  ·refine Ql U U h17 (Qb U U (Ql U U h17 (Xg U U U (Q9 U h17 U U (Qe U U (Qf (Qc (Qh [14,13,5,4,0,7,51] U (Qs U (fun h18=> ?_) (fun h18=> ?_))))))))))
   ·refine Qa (Qb U U (Qe U U (Qf (Qk (Qc (Qd (Qa (Qb U U (Xg U U U (Qf (Qc (Qs U (fun h19=> ?_) (fun h19=> ?_)))))))))))))
    ·refine Qa (Qb U U (Qe U U (Qf (Qk (Qc (Qh [14,13,0,4,5] U (Qa (QI U U (by omega) (by omega) U ?_))))))))
     refine Qb U U (Qf ?_)
     exact Q0 (L1:=[(0,_),(4,intV ((hd+(i:Int))%(l.length:Int))),(5,intV ((hd+(i:Int))%(l.length:Int))),(13,_),(14,intV ((i+1:Nat):Int))]) (YU U U U U U) (k1:=l.length -(i+1)) (by omega) ⟨i+1,((hd+(i:Int))%(l.length:Int)),((hd+(i:Int))%(l.length:Int)),rfl,rfl,hS7.pick [1,2,3,4,5,6] U, by omega,.inr ⟨by omega, by rw[hulk,hxu]⟩,.inr ⟨by omega, by rw[hulk,hxu]⟩, fun e=> by omega⟩
    refine Qt (Qk (Qc (Qa (QI U U (by omega) (by omega) U ?_))))
    refine Qb U U (Qf ?_)
    exact Q0 (L1:=[(0,_),(4,intV ((hd+(i:Int))%(l.length:Int))),(5,intV an),(13,_),(14,intV ((i+1:Nat):Int))]) (YU U U U U U) (k1:=l.length -(i+1)) (by omega) ⟨i+1,((hd+(i:Int))%(l.length:Int)),an,rfl,rfl,hS7.pick [1,2,3,4,5,6] U, by omega,.inr ⟨by omega, by rw[hulk,hxu]⟩,han, fun e=> by omega⟩
   refine Qt (Qk (Qc (Qd (Qa (Qb U U (Xg U U U (Qf (Qc (Qs U (fun h20=> ?_) (fun h20=> ?_))))))))))
   ·refine Qa (Qb U U (Qe U U (Qf (Qk (Qc (Qa (QI U U (by omega) (by omega) U ?_)))))))
    refine Qb U U (Qf ?_)
    exact Q0 (L1:=[(0,_),(4,intV um),(5,intV ((hd+(i:Int))%(l.length:Int))),(13,_),(14,intV ((i+1:Nat):Int))]) (YU U U U U U) (k1:=l.length -(i+1)) (by omega) ⟨i+1,um,((hd+(i:Int))%(l.length:Int)),rfl,rfl,hS7.pick [1,2,3,4,5,6] U, by omega,hum,.inr ⟨by omega, by rw[hulk,hxu]⟩, fun e=> by omega⟩
   refine Qt (Qk (Qc (Qa (QI U U (by omega) (by omega) U ?_))))
   refine Qb U U (Qf ?_)
   exact Q0 (L1:=[(0,_),(4,intV um),(5,intV an),(13,_),(14,intV ((i+1:Nat):Int))]) (YU U U U U U) (k1:=l.length -(i+1)) (by omega) ⟨i+1,um,an,rfl,rfl,hS7.pick [1,2,3,4,5,6] U, by omega,hum,han, fun e=> by omega⟩
  refine Qi U U h17 U (Qi U U h17 U (QP U h17 U U (Qe U U (Qf (Qc (Qh [14,13,5,4,0,7,51] U (QT U (Qt (Qk (Qc (Qd (Qa (Qb U U (Xg U U U (Qf (Qc (Qs U (fun h21=> ?_) (fun h21=> ?_))))))))))))))))))
  ·refine Qa (Qb U U (Qe U U (Qf (Qk (Qc (Qa (QI U U (by omega) (by omega) U ?_)))))))
   refine Qb U U (Qf ?_)
   exact Q0 (L1:=[(0,_),(4,intV um),(5,intV ((hd+(i:Int))%(l.length:Int))),(13,_),(14,intV ((i+1:Nat):Int))]) (YU U U U U U) (k1:=l.length -(i+1)) (by omega) ⟨i+1,um,((hd+(i:Int))%(l.length:Int)),rfl,rfl,hS7.pick [1,2,3,4,5,6] U, by omega,hum,.inr ⟨by omega, by rw[hulk,hxu]⟩, fun e=> by omega⟩
  refine Qt (Qk (Qc (Qa (QI U U (by omega) (by omega) U ?_))))
  refine Qb U U (Qf ?_)
  exact Q0 (L1:=[(0,_),(4,intV um),(5,intV an),(13,_),(14,intV ((i+1:Nat):Int))]) (YU U U U U U) (k1:=l.length -(i+1)) (by omega) ⟨i+1,um,an,rfl,rfl,hS7.pick [1,2,3,4,5,6] U, by omega,hum,han, fun e=> by omega⟩
 refine QM (Qo (Qo (Qx (Qc (Qd (Qd (Qa (Qb U U (JA U U U (Qf (Qc (Qs U (fun h22=> ?_) (fun h22=> ?_)))))))))))))
 ·refine Qd (Qa (Qb U U (Qe U U (Qe U U (Qf (Qc (Qh [5,2,3] U (Qu (Qp (WW (.inr U) U U U ?_))))))))))
  obtain⟨h0,h1⟩:=hum.resolve_left (by omega); exact⟨_,rfl,.inl ⟨um.toNat,h1, by rw[Int.toNat_of_nonneg h0],Zy (hul) (hl4) (hh0) (hh1) (hS1.pick [0,1,2,3,4,5] rfl)⟩⟩
 refine Qt (Qc (Qd (Qa (Qb U U (Y3 U U U (Qb U U (JA U U U (Qe U U (Qe U U (Qf (Qc (Qh [2,3] U (Qu (WW (.inr U) U U U ?_))))))))))))))
 rcases han with han | ⟨ha0,ha1⟩
 ·exact⟨_,rfl,.inr ⟨clk_all hh0 (by rw[hul,List.length_map]; exact hh1) (fun j hj=>hall han j (by rw[hul,List.length_map]at hj;omega)), by subst han;rfl,Zy (hul) (hl4) (hh0) (hh1) (hS1.pick [0,1,2,3,4,5] U)⟩⟩
 ·exact⟨_,rfl,.inl ⟨an.toNat,ha1, by rw[Int.max_eq_left ha0,Xl (show an≥0 from ha0),Int.toNat_of_nonneg ha0],Zy (hul) (hl4) (hh0) (hh1) (hS1.pick [0,1,2,3,4,5] U)⟩⟩
theorem Ul {w:World} {p:Nat} {ul:List Bool} {hd:Int} {F:Th} (hS:Sat w [GF p ul hd,F]):
    Calls Tryz.prog 170 #[ptrV p 0] w (Ret fun v w'=>v= .tuple #[]∧Sat w' [GF p ul (if hd+1<(ul.length:Int)then hd+1 else 0),F]):= by
 obtain⟨ob,cap,l,b1,b2,b3,g1,g2,g3,hul,hl4,hh0,hh1,hS⟩:=Jx hS
 obtain⟨x,hx⟩: ∃x,l[hd.toNat]? =some x:=⟨_,Zi (by omega)⟩
 refine Qm Tryz.func170 U Tryz.ntmps170 U ?_
 refine Qd ?_
 have hS1:=hS.drew
 refine QF [0,1,2,3,4,5,6,7,8,9,10] [10] We (by kernel_rfl) ?_
 refine QG U U U (Xh U U U (QV U U U ZL (Q4 U U U (Qr U Jf (hS1.cell 0 U U)) (QG U U U (Xh U U U (QV U U U YF (Q4 U U U (Qr U QL (hS1.cell 0 U U)) (X8 U U U (fun _=>(J7 hd.toNat U U (by omega) (by omega) YR)) ?_))))))))
 refine QV U U U Ue (Xn U U U U U U ?_)
 refine Jz 1 hd.toNat 1 {x with m:=false} hS1 U U U (by show 0+hd.toNat*4+1=hd.toNat*4+1;omega) U Ej hx U (by decide) U U ?_
 intro w2 hS2; dsimp only[List.set]at hS2
 clear hS1
 refine Z4 (X1 (by kernel_rfl)) ?_
 refine VC.nil (Qc (Qh [0] U (Qd (Qa (Qb U U (Qj U U (Qg U YF U (Qn U QL (hS2.cell 0 U U) U (QI U U (by omega) (by omega) U ?_)))))))))
 refine Qj U U (Qg U YF U ?_)
 first | (refine Q6 hS2 U U JG (by rfl) (i:=0) U (Xa U) ?_)
 intro w3 hS4; dsimp only[List.set]at hS4
 clear hS2
 refine Qf (Qc (Qd (Qd ?_)))
 have hS5:=hS4.drew
 refine QF [0,1,2,3,4,5,6,7,8,9] [] We (by kernel_rfl) ?_
 refine QG U U U (Xh U U U (QV U U U YF (Q4 U U U (Qr U QL (hS5.cell 0 U U)) (QG U U U (Xh U U U (QV U U U ZL (Q4 U U U (Qr U Jf (hS5.cell 0 U U)) (X8 U U U (fun _=>(VB Tryz.underlying186 U)) ?_))))))))
 refine X8 U U U (fun _=>(T0 U U)) ?_
 refine VC.nil (Qc (Qh [0,29] U (Qs U (fun h6=> ?_) (fun h6=> ?_))))
 ·refine Qu (Qp (ZD (.inr U) U ?_))
  exact⟨_,rfl,rfl, by rw[if_pos (by rw[hul,List.length_map];omega)]; exact Zy (l:=l.set hd.toNat {x with m:=false}) (by rw[hul]; exact(VE (y:={x with m:=false}) hx U).symm) (by rw[List.length_set]; exact hl4) (by omega) (by rw[List.length_set];omega) (hS5.pick [0,1,2,3,4,5] U)⟩
 refine Qt (Qc (Qd (Qa (Qb U U (Qj U U (Qg U YF U ?_))))))
 first | (refine Q6 hS5 U U JG (by rfl) (i:=0) U (Xa U) ?_)
 intro w7 hS8; dsimp only[List.set]at hS8
 clear hS5
 refine Qf (Qc (Qd (Qd (Qa (Qb U U (Qj U U (Qg U ZL U (Qn U Jf (hS8.cell 0 U U) U (Xr Tryz.underlying186 U U (Qb U U (Qf (Qc (Qh [0,37,38] U (Qv ?_))))))))))))))
 have hSl:=hS8.pick [0,1,2,3,4,5] U
 have hls:(l.set hd.toNat {x with m:=false}).length=l.length:=List.length_set
 refine Xb (fun K0 E0 W0=> ∃(l2:List CkD) (i:Nat),K0=l.length -i∧E0=[(0,ptrV p 0),(37,intV (l2.length:Int)),(38,intV (i:Int))]∧Sat W0 [Q3 p [.slice (some ⟨ob,0,none⟩) l2.length cap,intV 0,.map (some b1),.map (some b2),.map (some b3)],rowT ckC (.slice (some ⟨ob,0,none⟩) l2.length cap) l2,Q5 QO b1 (gI g1),Q5 QO b2 (gI g2),Q5 QO b3 (gI g3),F]∧(i≤l.length)∧(l2.length=l.length)∧(l2.map CkD.u=ul)) (L0:=[(0,_),(37,_),(38,_)]) (l.length -0) (RB U U U) ⟨l.set hd.toNat {x with m:=false},0,rfl,(by rw[hls];rfl), by rw[hls]; exact hSl, by omega,hls, by rw[VE (y:={x with m:=false}) hx U]; exact hul.symm⟩ ?_
 rintro _ _ w9 ⟨l2,i,rfl,rfl,hS9,hi,hl2,hu2⟩
 refine Qd (Qa (Xg U U U (Qf (Qc (Qd (Qs U (fun h10=> ?_) (fun h10=> ?_)))))))
 ·obtain⟨x2,hx2⟩: ∃x,l2[i]? =some x:=⟨_,Zi (by omega)⟩
  refine Qt (Qc (Qd (Qv (Qd (Qa (Qb U U (Qe U U (Qf (Qc (Qa (Qb U U (Qj U U (Qg U ZL U (Qn U Jf (hS9.cell 0 U U) U (Qb U U (QW ckC 1 i hS9 U U U (by rfl) hx2 YR U ?_))))))))))))))))
  intro bx11 capx11 hvx11
  refine Qg U Db U (Jz 1 i 2 {x2 with t:=false} hS9 U hvx11 U U U Ej hx2 U (by decide) U (by rfl) ?_)
  intro w12 hS13; dsimp only[List.set]at hS13
  clear hS9
  refine Qf (Qk (Qc (Qh [38,37,0] U (Qa (QI U U (by omega) (by omega) U ?_)))))
  refine Qb U U (Qf ?_)
  have hSz:=hS13.pick [0,1,2,3,4,5] U
  exact Q0 (L1:=[(0,_),(37,intV ((l2.set i {x2 with t:=false}).length:Int)),(38,intV ((i+1:Nat):Int))]) (by rw[List.length_set]; exact(RB U U U)) (k1:=l.length -(i+1)) (by omega) ⟨l2.set i {x2 with t:=false},i+1,rfl,rfl, by rw[List.length_set]; exact hSz, by omega, by rw[List.length_set]; exact hl2, by rw[VE (y:={x2 with t:=false}) hx2 U]; exact hu2⟩
 refine QM (Qo (Qo (Qx (Qc (Qd ?_)))))
 have hS14:=hS9.drew
 refine QF [0,1,2,3,4,5,6,7,8,9,10,11,12,13,14,15] [12,15] We (by kernel_rfl) ?_
 refine QG U U U (QG U U U (QG U U U (Xh U U U (QV U U U Dd (Q4 U U U (Qr U Jg (hS14.cell 0 U U)) (QG U U U (Xh U U U (QV U U U UU (Q4 U U U (Qr U Jg (hS14.cell 0 U U)) (Xh U U U (QV U U U UU (Xn U U U U U U ?_))))))))))))
 first | (refine Q6 hS14 U U Em (by rfl) (i:=0) U (Xa U) ?_)
 intro w15 hS16; dsimp only[List.set]at hS16
 clear hS14
 refine Z4 (X1 (by kernel_rfl)) ?_
 refine Xh U U U (QV U U U Dd (Xn U U U U U U ?_))
 first | (refine Q6 hS16 U U Em (by rfl) (i:=0) U (Xa U) ?_)
 intro w17 hS18; dsimp only[List.set]at hS18
 clear hS16
 refine Z4 (X1 (by kernel_rfl)) ?_
 refine VC.nil (Qc (Qh [0] U (Qa (Qb U U (Qj U U (Qg U UU U (Qn U Jg (hS18.cell 0 U U) U (Fq 4 hS18 Tryz.underlying109 U U U ?_))))))))
 intro w19 hS19; dsimp only[List.set]at hS19; rw[Re]at hS19
 clear hS18
 refine Qf (ZD (.inl U) U ?_)
 exact⟨_,rfl,rfl, by rw[if_neg (by rw[hul,List.length_map];omega)]; exact Zy hu2.symm (by omega) (by omega) (by omega) (hS19.pick [0,1,2,4,3,5] U)⟩
theorem MF {w:World} {p:Nat} {ul:List Bool} {F:Th} (hS:Sat w [MG p ul,F]):
    Calls Tryz.prog 119 #[ptrV p 0] w (Ret fun v w'=>(∃k:Nat,ul[k]? =some true∧v= .tuple #[intV (k:Int),.bool true]∧Sat w' [MG p ul,F])∨((∀x∈ul,x=false)∧v= .tuple #[intV 0,.bool false]∧Sat w' [MG p ul,F])):= by
 obtain⟨hd,hS⟩:=hS.ex
 refine Qm Tryz.func119 U Tryz.ntmps119 U ?_
 refine Qd (Qa (Qe U U (Qe U U (Qf (Qc (Qd (Qa (Qb U U (XU cal_169 U (N1 (hS.sp [0] U)) U ?_)))))))))
 rintro e w1 ⟨_,rfl,(⟨k,hk,rfl,hS1⟩ | ⟨hno,rfl,hS1⟩)⟩
 ·refine⟨_,rfl, ?_⟩
  replace hS1:=hS1.jn U U
  refine Qb U U (Qq U U U (Qq U U U (Qe U U (Qe U U (Qf (Qc (Qd (Qd (Qa (Qb U U (QQ U U (Qf (Qc (Qh [0,2,3,4,12] U (QN U (fun h2=> ?_) (fun h2=> ?_))))))))))))))))
  ·exact absurd h2 (by simp)
  refine Qt (Qc (Qd (Qd ?_)))
  obtain⟨ob,cap,l,b1,b2,b3,g1,g2,g3,hul,hl4,hh0,hh1,hSo⟩:=Jx (hS1.pick [0,1] rfl)
  have hull:ul.length=l.length:= by rw[hul,List.length_map]
  obtain⟨x,hx⟩: ∃x,l[k]? =some x:=⟨_,Zi (by have :=(XR hk).1;omega)⟩
  refine Qa (Qb U U (Qj U U (Qg U ZL U (Qn U Jf (hSo.cell 0 U U) U (Qb U U (QW ckC 1 k hSo U U U (by rfl) hx YR U ?_))))))
  intro bx3 capx3 hvx3
  refine Qg U Ue U (XE 1 k 1 hSo U hvx3 U U hx D3 U U (Qf (Qc (Qh [0,2,3,4,20] U (QN U (fun h4=> ?_) (fun h4=> ?_))))))
  ·refine Qd (Qa (Qb U U (Qj U U (Qg U ZL U (Qn U Jf (hSo.cell 0 U U) U (Xr Tryz.underlying186 U U (Qb U U (Qf (Qc (Qh [0,2,3,4,25,26] U (Qv ?_)))))))))))
   have hS5:=Zy (hul) (hl4) (hh0) (hh1) (hSo.pick [0,1,2,3,4,5] U)
   refine Xb (fun K0 E0 W0=> ∃(i:Nat) (h:Int),K0=ul.length -i∧E0=[(0,ptrV p 0),(4,intV (k:Int)),(25,intV (ul.length:Int)),(26,intV (i:Int))]∧Sat W0 [GF p ul h,F]∧(i≤ul.length)) (L0:=[(0,_),(4,_),(25,_),(26,_)]) (ul.length -0) (VN U U U U) ⟨0,hd,rfl,(by rw[hull];rfl),hS5, by omega⟩ ?_
   rintro _ _ w6 ⟨i,h,rfl,rfl,hS6,hi⟩
   refine Qd (Qa (Xg U U U (Qf (Qc (Qd (Qs U (fun h7=> ?_) (fun h7=> ?_)))))))
   ·refine Qt (Qc (Qd (Qv (Qa (Qb U U (Qw Rs U (Ul (hS6.sp [0] U)) U ?_))))))
    rintro _ w8 ⟨rfl,hS8⟩
    replace hS8:=hS8.jn U U
    clear hS6
    refine Qf (Qk (Qc (Qa (QI U U (by omega) (by omega) U ?_))))
    refine Qb U U (Qf ?_)
    exact Q0 (L1:=[(0,_),(4,_),(25,_),(26,intV ((i+1:Nat):Int))]) (VN U U U U) (k1:=ul.length -(i+1)) (by omega) ⟨i+1,_,rfl,rfl,hS8.pick [0,1] U, by omega⟩
   refine QM (Qo (Qo (Qx (Qc (Qd (Qv ?_))))))
   obtain⟨hh,hhe⟩: ∃x:Int,x=h:=⟨_,rfl⟩
   rw[←hhe]at hS6
   refine Xb (fun K0 E0 W0=> ∃(h:Int),K0=(if h≤(k:Int)then(k:Int) -h else(ul.length:Int) -h+k).toNat∧E0=[(0,ptrV p 0),(4,intV (k:Int))]∧Sat W0 [GF p ul h,F]) (L0:=[(0,_),(4,_)]) ((if hh≤(k:Int)then(k:Int) -hh else(ul.length:Int) -hh+k).toNat) (DT U U) ⟨_,rfl,rfl,hS6⟩ ?_
   rintro _ _ w9 ⟨h,rfl,rfl,hS9⟩
   refine Qd (Qd ?_)
   obtain⟨ob3,cap3,l3,b13,b23,b33,g13,g23,g33,hul3,hl43,hh03,hh13,hSo10⟩:=Jx (hS9.pick [0,1] rfl)
   have hull3:ul.length=l3.length:= by rw[hul3,List.length_map]
   refine Qa (Qb U U (Qj U U (Qg U YF U (Qn U QL (hSo10.cell 0 U U) U (Qb U U (X0 U U U (Qf ?_)))))))
   have hS11:=Zy hul3 hl43 hh03 hh13 (hSo10.pick [0,1,2,3,4,5] U)
   refine Qc (Qs U (fun h12=> ?_) (fun h12=> ?_))
   ·refine Qt (Qc (Qv (Qa (Qb U U (Qw Rs U (Ul (hS11.sp [0] U)) U ?_)))))
    rintro _ w13 ⟨rfl,hS13⟩
    replace hS13:=hS13.jn U U
    clear hS11
    refine Qf (Qk ?_)
    have hkn:=(XR hk).1
    exact Q0 (L1:=[(0,_),(4,_)]) (DT U U) (k1:=(if(if h+1<(ul.length:Int)then h+1 else 0)≤(k:Int)then(k:Int) -(if h+1<(ul.length:Int)then h+1 else 0)else(ul.length:Int) -(if h+1<(ul.length:Int)then h+1 else 0)+k).toNat) (by split<;>split<;>split<;>omega) ⟨_,rfl,rfl,hS13.pick [0,1] U⟩
   refine QM (Qo (Qo (Qx (Qc (Qd (Qa (Qb U U (Qw Rs U (Ul (hS11.sp [0] U)) U ?_))))))))
   rintro _ w14 ⟨rfl,hS14⟩
   replace hS14:=hS14.jn U U
   clear hS11
   exact Qf (Qc (Qd (Qa (Qb U U (Qe U U (Qe U U (Qf (Qc (Qh [2,3] U (Qu (WW (.inr U) U U U (⟨_,rfl,.inl ⟨k,hk,rfl,Sat.ex_intro (f:= fun h:Int=>GF p ul h) _ (hS14.pick [0,1] U)⟩⟩))))))))))))
  refine Qt (Qc (Qd (Qv ?_)))
  have hS15:=Zy (hul) (hl4) (hh0) (hh1) (hSo.pick [0,1,2,3,4,5] U)
  obtain⟨hh,hhe⟩: ∃x:Int,x=hd:=⟨_,rfl⟩
  rw[←hhe]at hS15
  refine Xb (fun K0 E0 W0=> ∃(h:Int),K0=(if h≤(k:Int)then(k:Int) -h else(ul.length:Int) -h+k).toNat∧E0=[(0,ptrV p 0),(4,intV (k:Int))]∧Sat W0 [GF p ul h,F]) (L0:=[(0,_),(4,_)]) ((if hh≤(k:Int)then(k:Int) -hh else(ul.length:Int) -hh+k).toNat) (DT U U) ⟨_,rfl,rfl,hS15⟩ ?_
  rintro _ _ w16 ⟨h,rfl,rfl,hS16⟩
  refine Qd (Qd ?_)
  obtain⟨ob3,cap3,l3,b13,b23,b33,g13,g23,g33,hul3,hl43,hh03,hh13,hSo17⟩:=Jx (hS16.pick [0,1] rfl)
  have hull3:ul.length=l3.length:= by rw[hul3,List.length_map]
  refine Qa (Qb U U (Qj U U (Qg U YF U (Qn U QL (hSo17.cell 0 U U) U (Qb U U (X0 U U U (Qf ?_)))))))
  have hS18:=Zy hul3 hl43 hh03 hh13 (hSo17.pick [0,1,2,3,4,5] U)
  refine Qc (Qs U (fun h19=> ?_) (fun h19=> ?_))
  ·refine Qt (Qc (Qv (Qa (Qb U U (Qw Rs U (Ul (hS18.sp [0] U)) U ?_)))))
   rintro _ w20 ⟨rfl,hS20⟩
   replace hS20:=hS20.jn U U
   clear hS18
   refine Qf (Qk ?_)
   have hkn:=(XR hk).1
   exact Q0 (L1:=[(0,_),(4,_)]) (DT U U) (k1:=(if(if h+1<(ul.length:Int)then h+1 else 0)≤(k:Int)then(k:Int) -(if h+1<(ul.length:Int)then h+1 else 0)else(ul.length:Int) -(if h+1<(ul.length:Int)then h+1 else 0)+k).toNat) (by split<;>split<;>split<;>omega) ⟨_,rfl,rfl,hS20.pick [0,1] U⟩
  refine QM (Qo (Qo (Qx (Qc (Qd (Qa (Qb U U (Qw Rs U (Ul (hS18.sp [0] U)) U ?_))))))))
  rintro _ w21 ⟨rfl,hS21⟩
  replace hS21:=hS21.jn U U
  clear hS18
  exact Qf (Qc (Qd (Qa (Qb U U (Qe U U (Qe U U (Qf (Qc (Qh [2,3] U (Qu (WW (.inr U) U U U (⟨_,rfl,.inl ⟨k,hk,rfl,Sat.ex_intro (f:= fun h:Int=>GF p ul h) _ (hS21.pick [0,1] U)⟩⟩))))))))))))
 refine⟨_,rfl, ?_⟩
 replace hS1:=hS1.jn U U
 refine Qb U U (Qq U U U (Qq U U U (Qe U U (Qe U U (Qf (Qc (Qd (Qd (Qa (Qb U U (QQ U U (Qf (Qc (Qh [0,2,3,4,12] U (QN U (fun h22=> ?_) (fun h22=> ?_))))))))))))))))
 ·exact Qd (Qa (Qe U U (Qe U U (Qf (Qc (Qu (Qp (WW (.inr U) U U U (⟨_,rfl,.inr ⟨hno,rfl,Sat.ex_intro (f:= fun h:Int=>GF p ul h) _ (hS1.pick [0,1] U)⟩⟩)))))))))
 exact absurd h22 (by simp)
theorem ckgoneT {w:World} {p:Nat} {ul:List Bool} {F:Th} (hS:Sat w [MG p ul,F]) (f:Int) (hf:0≤f∧f<(ul.length:Int)):
    Calls Tryz.prog 186 #[ptrV p 0,intV f] w (Ret fun v w'=>v= .tuple #[]∧Sat w' [MG p (ul.set f.toNat false),F]):= by
  obtain⟨hd,hS⟩:=hS.ex
  exact(Gg hS f hf).mono fun e w1 h=>h.mono fun v w2 ⟨h1,h2⟩=>⟨h1,Sat.ex_intro (f:= fun h:Int=>GF p (ul.set f.toNat false) h) hd h2⟩
theorem OA {w:World} {p:Nat} {ul:List Bool} {F:Th} (hS:Sat w [MG p ul,F]) (f:Int) (hf:0≤f∧f<(ul.length:Int)) (owner:Int):
    Calls Tryz.prog 188 #[ptrV p 0,intV f,intV owner] w (Ret fun v w'=>v= .tuple #[]∧Sat w' [MG p (ul.set f.toNat true),F]):= by
  obtain⟨hd,hS⟩:=hS.ex
  exact(O9 hS f hf owner).mono fun e w1 h=>h.mono fun v w2 ⟨h1,h2⟩=>⟨h1,Sat.ex_intro (f:= fun h:Int=>GF p (ul.set f.toNat true) h) hd h2⟩
theorem ckrow {Z:List Value} (hZ:Z=ckC.enc ⟨false,false,false,0⟩) (m:Nat):(List.replicate m Z).flatten=ckC.cells (List.replicate m ⟨false,false,false,0⟩):= by
  subst hZ
  induction m with
  | zero=>rfl
  | succ m ih=> rw[List.replicate_succ,List.flatten_cons,ih,List.replicate_succ];rfl
theorem OB {w:World} {F:Th} (hS:Sat w [F]) (n:Int) (hn:1≤n):
    Calls Tryz.prog 59 #[intV n] w (Ret fun v w'=> ∃p,v=ptrV p 0∧Sat w' [MG p (List.replicate (min (max n 0) 4096).toNat false),F]):= by
 refine Qm Tryz.func59 U Tryz.ntmps59 U ?_
 refine Qd (Qa (Qe U U (Qf (Qc (Qd (Qa (Qb U U (Y3 U U U (Uq U U U (GH hS (min (max n 0) 4096).toNat U U (by omega) Tryz.underlying186 ifo_199 U (by omega) (by omega) U ?_))))))))))
 intro db w1 hS1a; have hS1:=hS1a.row_cast (l:=List.replicate (min (max n 0) 4096).toNat ⟨false,false,false,0⟩) (C:=ckC) (by simp) U (ckrow U _)
 refine ZN QO hS1 U ?_
 intro mb1 w2 hS2; rw[Re]at hS2
 clear hS1
 refine ZN QO hS2 U ?_
 intro mb2 w3 hS3; rw[Re]at hS3
 clear hS2
 refine ZN QO hS3 U ?_
 intro mb3 w4 hS4; rw[Re]at hS4
 clear hS3
 refine Zu U BN asz_188 zr_188 U U (Zd hS4 U U U ?_)
 intro bp wbp hSbp
 clear hS4
 refine Qe U U (Qf (Qc (Qh [2] U (Qu (QR (.inr U) U U ?_)))))
 exact⟨_,rfl,_,rfl,Sat.ex_intro (f:= fun h:Int=>GF bp _ h) 0 (Zy (l:=List.replicate (min (max n 0) 4096).toNat ⟨false,false,false,0⟩) (by rw[List.map_replicate]) (by rw[List.length_replicate];omega) (by omega) (by rw[List.length_replicate];omega) (hSbp.pick [0,4,3,2,1,5] U))⟩
end Go.Proofs.YtkcjfoaejijdoaaGreatDoor
namespace Go.Proofs.YtkcjfoaejijdoaaGreatDoor.M
open Go.RowKit Go.Sort
def XZ (l:List Int):List Int:=l.mergeSort fun x y=>decide (x≤y)
theorem WT (l:List Int):(XZ l).Perm l:=List.mergeSort_perm _ _
theorem Wk (l:List Int):(XZ l).length=l.length:=(WT l).length_eq
theorem DF (d xs:List Int) (sp:List Value) (h:d.length=xs.length):(putCells (Value.int .i64) 0 d.toArray (xs.map intV++sp).toArray)=(d.map intV++sp).toArray:= by
  apply Array.ext_getElem?
  intro k
  unfold putCells
  simp only[Array.getElem?_mapIdx,List.getElem?_toArray,Nat.zero_le,true_and,Nat.zero_add,Nat.sub_zero,List.size_toArray]
  by_cases hk:k<d.length
  · rw[List.getElem?_append_left (by simpa [←h]using hk),List.getElem?_append_left (by simpa using hk)]
    simp [hk,h▸hk,intV]
  · rw[List.getElem?_append_right (by simp;omega),List.getElem?_append_right (by simp;omega)]
    have hk': ¬k<xs.length:= by omega
    simp only[List.length_map,h,hk',if_false,Option.map_id']
theorem N2 {P:Program} {f:Nat}
    (hsome: ∀(blk off cap:Nat) (ss:List Int) (w:World),Holds (Value.int .i64) w blk off ss.toArray→blk<w.heap.size→ss.length<4611686018427387904→Calls P f #[.slice (some ⟨blk,off,none⟩) ss.length cap] w fun e w'=>e= .returned (.tuple #[])∧ ∃n os,w'=grow (putRow (Value.int .i64) (Go.Sort.ahead w n) blk off (ss.mergeSort fun x y=>decide (x≤y)).toArray) os)
    (hnone: ∀(p:Option Addr) (cap:Nat) (w:World),Calls P f #[.slice p 0 cap] w fun e w'=>e= .returned (.tuple #[])∧w'=w)
    {w:World} {v:Value} {l:List Int} {As:List Th} (hS:Sat w (rowT inC v l::As)) (hl:l.length<4611686018427387904):Calls P f #[v] w (Ret fun u w'=>u= .tuple #[]∧Sat w' (rowT inC v (XZ l)::As)):= by
  obtain⟨foot,hlen,h⟩:=hS.own 0 rfl
  rcases h with⟨rfl,hn,hf⟩ | ⟨b,cap,sp,rfl,hcap,hb,hsz,hf⟩
  · have :l=[]:=List.eq_nil_of_length_eq_zero hn
    subst this
    exact(hnone none 0 w).mono fun e w' ⟨h1,h2⟩=>⟨_,h1,rfl, by rw[h2];simpa [XZ]using hS⟩
  · have hH:Holds (Value.int .i64) w b 0 l.toArray:= fun j hj=> by
      have hj':j<l.length:= by simpa using hj
      rw[Hy]at hb
      refine⟨?_, ?_⟩
      · rw[Nat.zero_add]
        refine hb.cell ?_
        rw[List.getElem?_append_left (by simpa using hj')]
        simp [hj',intV]
      · exact hb.free _ (by simp;omega)
    refine(hsome b 0 cap l w hH hb.lt hl).mono fun e w' ⟨h1,n,os,h2⟩=>⟨_,h1,rfl, ?_⟩
    have hlt:=hb.lt
    have hheap: ∀k,k<w.heap.size→k≠b→w'.heap[k]? =w.heap[k]? := fun k hk hne=> by
      rw[h2,heap_grow_old _ _ (by simpa using hk)]
      simp only[putRow,mapBlock,heap_ahead,Array.getElem?_modify]
      rw[if_neg (fun q=>hne q.symm)]
    obtain⟨T,lo,hi,hc,hfz⟩:=hb
    have hnew:w'.heap[b]? =some (.cells ((XZ l).map intV++sp).toArray T (lo,hi)):= by
      rw[h2,heap_grow_old _ _ (by simpa using hlt)]
      simp only[putRow,mapBlock,heap_ahead,Array.getElem?_modify,if_pos,hc,Option.map_some,onCells,Hy]
      rw[show(l.mergeSort fun x y=>decide (x≤y))=XZ l from rfl,DF _ _ _ (Wk l)]
    have ho:Only [b] w w':= by
      refine⟨?_, ?_, ?_, ?_, fun k hk hn=>hheap k hk (by simpa using hn)⟩
      · rw[h2];rfl
      · rw[h2];rfl
      · rw[h2];rfl
      · rw[h2]; simp
    have hfin:=hS.own_set (w':=w') 0 U (v':= .slice (some ⟨b,0,none⟩) l.length cap) (n':=l.length) (size':=1) (xs':=inC.cells (XZ l)) (fun foot' g=> by
      obtain⟨_,g⟩:=g
      rcases g with⟨g0,_⟩ | ⟨b',cap',sp',g0,g1,g2,g3,g4⟩
      · cases g0
      · simp only[Value.slice.injEq,Option.some.injEq,Addr.mk.injEq,and_true,true_and]at g0
        obtain⟨rfl,rfl⟩:=g0
        refine⟨[b],⟨?_,.inr ⟨b,cap,sp,rfl,hcap,⟨T,lo,hi, ?_, ?_⟩, ?_,rfl⟩⟩, ?_, ?_⟩
        · rw[inC.cells_len,Wk];rfl
        · rw[Hy]; exact hnew
        · rcases hfz with q | q
          · exact .inl q
          · refine .inr ?_
            simp only[List.length_append,inC.cells_len,Wk]at q⊢; exact q
        · simp only[List.length_append,inC.cells_len,Wk]at hsz⊢; exact hsz
        · rw[g4]; exact ho
        · rw[g4]; intro k hk; exact .inl hk)
    have e:(XZ l).length=l.length:=Wk l
    show Sat w' (WK _ (XZ l).length 1 _::As)
    rw[e]; exact hfin
end Go.Proofs.YtkcjfoaejijdoaaGreatDoor.M
