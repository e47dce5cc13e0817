/- reclaim: victim, pass -/
import Derived.Test.YtkcjfoaejijdoaaGreatDoorCk1
import Derived.Test.YtkcjfoaejijdoaaGreatDoorRow
import Derived.Test.YtkcjfoaejijdoaaGreatDoorFw
set_option linter.unusedVariables false
set_option maxRecDepth 100000
set_option maxHeartbeats 80000000000
namespace Go.Proofs.YtkcjfoaejijdoaaGreatDoor
open Go.RowKit M
def okK (ul:List Bool) (n:Int):Prop:=n= -1∨(0≤n∧ul[n.toNat]? =some true)
theorem clk_all {ul:List Bool} {hd:Int} (h0:0≤hd) (h1:hd<ul.length) (h: ∀j:Nat,j<ul.length→ul[((hd+(j:Int))%(ul.length:Int)).toNat]? =some false): ∀x∈ul,x=false:= by
  intro x hx
  obtain⟨k,hk⟩:=List.mem_iff_getElem?.1 hx
  have hkl:=(XQ hk).1
  have h5:=Int.emod_lt_of_pos ((k:Int) -hd) (show(0:Int)<ul.length by omega)
  have h6:=Int.emod_nonneg ((k:Int) -hd) (show(ul.length:Int)≠0 by omega)
  have hj:=h (((k:Int) -hd)%(ul.length:Int)).toNat (by omega)
  have e:((hd+(((((k:Int) -hd)%(ul.length:Int)).toNat:Nat):Int))%(ul.length:Int)).toNat=k:= by
    rw[Int.toNat_of_nonneg h6,Int.add_emod_emod, show hd+((k:Int) -hd)=(k:Int) by omega,Int.emod_eq_of_lt (by omega) (by omega)];omega
  rw[e,hk]at hj
  exact Option.some.inj hj
theorem PV {w:World} {p:Nat} {ul:List Bool} {hd:Int} {F:Th} (hS:Sat w [BF p ul hd,F]):
    Calls Tryz.prog 169 #[ptrV p 0] w (Ret fun v w'=>(∃k:Nat,ul[k]? =some true∧v= .tuple #[intV (k:Int),.bool true]∧Sat w' [BF p ul hd,F])∨((∀x∈ul,x=false)∧v= .tuple #[intV 0,.bool false]∧Sat w' [BF p ul hd,F])):= by
 obtain⟨ob,cap,l,b1,b2,b3,g1,g2,g3,hul,hl4,hh0,hh1,hS⟩:=J9 hS
 refine Qq Tryz.func169 rfl Tryz.ntmps169 rfl ?_
 refine Qd (Qa (Qe rfl rfl (Qe rfl rfl (Qf (Qc (Qd (Qa (Qe rfl rfl (Qe rfl rfl (Qf (Qc (Qd (Qd (Qa (Qb rfl rfl (Qk rfl rfl (Qg rfl ZP rfl (Qo rfl Jn (hS.cell 0 rfl rfl) rfl (X5 Tryz.underlying186 rfl rfl (Qb rfl rfl (Qf (Qc (Qi [0,2,3,4,5,13,14] rfl (Qw ?_))))))))))))))))))))))))
 refine Xe (fun K0 E0 W0=> ∃(i:Nat) (um an:Int),K0=l.length -i∧E0=[(0,ptrV p 0),(4,intV um),(5,intV an),(13,intV (l.length:Int)),(14,intV (i:Int))]∧Sat W0 [QF p [.slice (some ⟨ob,0,none⟩) l.length cap,intV hd,.map (some b1),.map (some b2),.map (some b3)],rowT ckC (.slice (some ⟨ob,0,none⟩) l.length cap) l,Q3 Xf b1 (gI g1),Q3 Xf b2 (gI g2),Q3 Xf b3 (gI g3),F]∧(i≤l.length)∧(okK ul um)∧(okK ul an)∧(an= -1→ ∀j:Nat,j<i→ul[((hd+(j:Int))%(ul.length:Int)).toNat]? =some false)) (L0:=[(0,_),(4,_),(5,_),(13,_),(14,_)]) (l.length -0) (VX rfl rfl rfl rfl rfl) ⟨0, -1, -1,rfl,rfl,hS, by omega,.inl rfl,.inl rfl, fun _ j hj=> by omega⟩ ?_
 rintro _ _ w1 ⟨i,um,an,rfl,rfl,hS1,hi,hum,han,hall⟩
 refine Qd (Qa (Xb rfl rfl rfl (Qf (Qc (Qd (Qs rfl (fun h2=> ?_) (fun h2=> ?_)))))))
 ·refine Qr (Qc (Qd (Qw (Qd (Qa (Qb rfl rfl (Qe rfl rfl (Qf (Qc (Qd ?_))))))))))
  have hS3:=hS1.drew
  refine QJ [0,1,2,3,4,5,6,7,8,9,10,11,12] [] Wp (by kernel_rfl) ?_
  refine QE rfl rfl rfl (Xl rfl rfl rfl (QT rfl rfl rfl YT (Q9 rfl rfl rfl (Qm rfl QO (hS3.cell 0 rfl rfl)) (QE rfl rfl rfl (QU rfl rfl rfl (fun _=>(GX rfl rfl (by omega) (by omega))) ?_)))))
  refine QE rfl rfl rfl (Xl rfl rfl rfl (QT rfl rfl rfl ZP (Q9 rfl rfl rfl (Qm rfl Jn (hS3.cell 0 rfl rfl)) (QU rfl rfl rfl (fun _=>(Kr Tryz.underlying186 rfl)) ?_))))
  refine QU rfl rfl rfl (fun _=>(M5 rfl rfl (by omega) (by omega))) ?_
  refine XN rfl rfl rfl (VC.nil ?_)
  have hm1:0≤((hd+(i:Int))%(l.length:Int)):=Int.emod_nonneg _ (by omega)
  have hm2:((hd+(i:Int))%(l.length:Int))<(l.length:Int):=Int.emod_lt_of_pos _ (by omega)
  obtain⟨x,hx⟩: ∃x,l[((hd+(i:Int))%(l.length:Int)).toNat]? =some x:=⟨_,Zd (by omega)⟩
  have hulk:ul[((hd+(i:Int))%(l.length:Int)).toNat]? =some x.u:= by rw[hul]; exact ck_u hx
  have hulx:ul[((hd+(i:Int))%(ul.length:Int)).toNat]? =some x.u:= by rw[show(ul.length:Int)=(l.length:Int) by rw[hul,List.length_map]]; exact hulk
  refine Qc (Qi [14,13,5,4,0,7] rfl (Qd (Qa (Qb rfl rfl (Qk rfl rfl (Qg rfl ZP rfl (Qo rfl Jn (hS3.cell 0 rfl rfl) rfl (Qb rfl rfl (Xu ckC 1 ((hd+(i:Int))%(l.length:Int)).toNat hS3 rfl rfl rfl (by rw[Int.toNat_of_nonneg hm1]) hx Hc rfl ?_)))))))))
  intro bx4 capx4 hvx4
  refine Wk 1 ((hd+(i:Int))%(l.length:Int)).toNat hS3 rfl hvx4 rfl hx qbd KM rfl rfl (Xg hS3 Dq rfl rfl ?_)
  intro b5 w5 hS5
  clear hS3
  (refine QY hS5 rfl rfl KM rfl (by rfl) (i:=0) rfl (by decide) ?_)
  intro w6 hS7; dsimp only[List.set]at hS7
  clear hS5
  refine Qf (Qc (Qi [14,13,5,4,0,7,8] rfl (Qd (Qw (Qd (Qa (Qg rfl RW rfl (Qo rfl MQ (hS7.cell 0 rfl rfl) rfl (QR rfl rfl (Qe rfl rfl (Qf (Qc (Qi [14,13,5,4,0,7,8,36] rfl (QM rfl (fun h8=> ?_) (fun h8=> ?_)))))))))))))))
  ·have hxu:x.u=false:= by simpa using h8
   refine QS (MY rfl (Qp (Qz (Qc (Qa (QK rfl rfl (by omega) (by omega) rfl ?_))))))
   refine Qb rfl rfl (Qf ?_)
   exact Q6 (L1:=[(0,_),(4,intV um),(5,intV an),(13,_),(14,intV ((i+1:Nat):Int))]) (VX rfl rfl rfl rfl rfl) (k1:=l.length -(i+1)) (by omega) ⟨i+1,um,an,rfl,rfl,hS7.pick [1,2,3,4,5,6] rfl, by omega,hum,han, fun e j hj=> by by_cases q:j=i;(subst q; rw[hulx,hxu]); exact hall e j (by omega)⟩
  have hxu:x.u=true:= by simpa using h8
  refine Qd (Qa (Qg rfl U0 rfl (Qo rfl MQ (hS7.cell 0 rfl rfl) rfl (QR rfl rfl (Qb rfl rfl (Zh 44 rfl (fun h9=> ?_) (fun h9=> ?_)))))))
  ·refine Qj rfl rfl h9 (Qb rfl rfl (Qj rfl rfl h9 (Qg rfl RV rfl (Qj rfl rfl h9 (Qo rfl QO (hS7.cell 0 rfl rfl) rfl (Qj rfl rfl h9 (Qv cal_203 rfl (Ar (hS7.sp [1,2,3,4,5] rfl) x.o) rfl ?_)))))))
   rintro _ w10 ⟨g0,rfl,hS10⟩
   replace hS10:=hS10.jn rfl rfl
   clear hS7
   refine QC rfl h9 rfl rfl (Qe rfl rfl (Qf (Qc (Qi [14,13,5,4,0,7,8,40] rfl (QM rfl (fun h11=> ?_) (fun h11=> ?_))))))
   ·exact Qd (Qa (Qb rfl rfl (Qe rfl rfl (Qe rfl rfl (Qf (Qc (Qi [14,13,5,4,0,7,2,3] rfl (Qu (Qx (Qn (Qx (Qn (Qn (Qx (Qn (Wx (.inr rfl) rfl rfl rfl (⟨_,rfl,.inl ⟨((hd+(i:Int))%(l.length:Int)).toNat, by rw[hulk,hxu], by rw[Int.toNat_of_nonneg hm1],Zo (hul) (hl4) (hh0) (hh1) (hS10.pick [0,1,2,3,4,6] rfl)⟩⟩)))))))))))))))))
   refine Qd (Qa (Qg rfl U0 rfl (Qo rfl MQ (hS10.cell 5 rfl rfl) rfl (QR rfl rfl (Qb rfl rfl (Zh 55 rfl (fun h12=> ?_) (fun h12=> ?_)))))))
   ·refine Qj rfl rfl h12 (Qb rfl rfl (Qj rfl rfl h12 (Xb rfl rfl rfl (QC rfl h12 rfl rfl (Qe rfl rfl (Qf (Qc (Qi [14,13,5,4,0,7,51] rfl (Qs rfl (fun h13=> ?_) (fun h13=> ?_))))))))))
    ·refine Qa (Qb rfl rfl (Qe rfl rfl (Qf (Ql (Qc (Qd (Qa (Qb rfl rfl (Xb rfl rfl rfl (Qf (Qc (Qs rfl (fun h14=> ?_) (fun h14=> ?_)))))))))))))
     ·refine Qa (Qb rfl rfl (Qe rfl rfl (Qf (Ql (Qc (Qi [14,13,0,4,5] rfl (Qa (QK rfl rfl (by omega) (by omega) rfl ?_))))))))
      refine Qb rfl rfl (Qf ?_)
      exact Q6 (L1:=[(0,_),(4,intV ((hd+(i:Int))%(l.length:Int))),(5,intV ((hd+(i:Int))%(l.length:Int))),(13,_),(14,intV ((i+1:Nat):Int))]) (VX rfl rfl rfl rfl rfl) (k1:=l.length -(i+1)) (by omega) ⟨i+1,((hd+(i:Int))%(l.length:Int)),((hd+(i:Int))%(l.length:Int)),rfl,rfl,hS10.pick [0,1,2,3,4,6] rfl, by omega,.inr ⟨by omega, by rw[hulk,hxu]⟩,.inr ⟨by omega, by rw[hulk,hxu]⟩, fun e=> by omega⟩
     refine Qr (Ql (Qc (Qa (QK rfl rfl (by omega) (by omega) rfl ?_))))
     refine Qb rfl rfl (Qf ?_)
     exact Q6 (L1:=[(0,_),(4,intV ((hd+(i:Int))%(l.length:Int))),(5,intV an),(13,_),(14,intV ((i+1:Nat):Int))]) (VX rfl rfl rfl rfl rfl) (k1:=l.length -(i+1)) (by omega) ⟨i+1,((hd+(i:Int))%(l.length:Int)),an,rfl,rfl,hS10.pick [0,1,2,3,4,6] rfl, by omega,.inr ⟨by omega, by rw[hulk,hxu]⟩,han, fun e=> by omega⟩
    refine Qr (Ql (Qc (Qd (Qa (Qb rfl rfl (Xb rfl rfl rfl (Qf (Qc (Qs rfl (fun h15=> ?_) (fun h15=> ?_))))))))))
    ·refine Qa (Qb rfl rfl (Qe rfl rfl (Qf (Ql (Qc (Qa (QK rfl rfl (by omega) (by omega) rfl ?_)))))))
     refine Qb rfl rfl (Qf ?_)
     exact Q6 (L1:=[(0,_),(4,intV um),(5,intV ((hd+(i:Int))%(l.length:Int))),(13,_),(14,intV ((i+1:Nat):Int))]) (VX rfl rfl rfl rfl rfl) (k1:=l.length -(i+1)) (by omega) ⟨i+1,um,((hd+(i:Int))%(l.length:Int)),rfl,rfl,hS10.pick [0,1,2,3,4,6] rfl, by omega,hum,.inr ⟨by omega, by rw[hulk,hxu]⟩, fun e=> by omega⟩
    refine Qr (Ql (Qc (Qa (QK rfl rfl (by omega) (by omega) rfl ?_))))
    refine Qb rfl rfl (Qf ?_)
    exact Q6 (L1:=[(0,_),(4,intV um),(5,intV an),(13,_),(14,intV ((i+1:Nat):Int))]) (VX rfl rfl rfl rfl rfl) (k1:=l.length -(i+1)) (by omega) ⟨i+1,um,an,rfl,rfl,hS10.pick [0,1,2,3,4,6] rfl, by omega,hum,han, fun e=> by omega⟩
   refine Qh rfl rfl h12 rfl (Qh rfl rfl h12 rfl (QG rfl h12 rfl rfl (Qe rfl rfl (Qf (Qc (Qi [14,13,5,4,0,7,51] rfl (QV rfl (Qr (Ql (Qc (Qd (Qa (Qb rfl rfl (Xb rfl rfl rfl (Qf (Qc (Qs rfl (fun h16=> ?_) (fun h16=> ?_))))))))))))))))))
   ·refine Qa (Qb rfl rfl (Qe rfl rfl (Qf (Ql (Qc (Qa (QK rfl rfl (by omega) (by omega) rfl ?_)))))))
    refine Qb rfl rfl (Qf ?_)
    exact Q6 (L1:=[(0,_),(4,intV um),(5,intV ((hd+(i:Int))%(l.length:Int))),(13,_),(14,intV ((i+1:Nat):Int))]) (VX rfl rfl rfl rfl rfl) (k1:=l.length -(i+1)) (by omega) ⟨i+1,um,((hd+(i:Int))%(l.length:Int)),rfl,rfl,hS10.pick [0,1,2,3,4,6] rfl, by omega,hum,.inr ⟨by omega, by rw[hulk,hxu]⟩, fun e=> by omega⟩
   refine Qr (Ql (Qc (Qa (QK rfl rfl (by omega) (by omega) rfl ?_))))
   refine Qb rfl rfl (Qf ?_)
   exact Q6 (L1:=[(0,_),(4,intV um),(5,intV an),(13,_),(14,intV ((i+1:Nat):Int))]) (VX rfl rfl rfl rfl rfl) (k1:=l.length -(i+1)) (by omega) ⟨i+1,um,an,rfl,rfl,hS10.pick [0,1,2,3,4,6] rfl, by omega,hum,han, fun e=> by omega⟩
  refine Qh rfl rfl h9 rfl (Qh rfl rfl h9 rfl (Qh rfl rfl h9 rfl (Qh rfl rfl h9 rfl (QG rfl h9 rfl rfl (Qe rfl rfl (Qf (Qc (Qi [14,13,5,4,0,7,8,40] rfl (QV rfl (Qd (Qa (Qg rfl U0 rfl (Qo rfl MQ (hS7.cell 0 rfl rfl) rfl (QR rfl rfl (Qb rfl rfl (Zh 55 rfl (fun h17=> ?_) (fun h17=> ?_)))))))))))))))))
  ·refine Qj rfl rfl h17 (Qb rfl rfl (Qj rfl rfl h17 (Xb rfl rfl rfl (QC rfl h17 rfl rfl (Qe rfl rfl (Qf (Qc (Qi [14,13,5,4,0,7,51] rfl (Qs rfl (fun h18=> ?_) (fun h18=> ?_))))))))))
   ·refine Qa (Qb rfl rfl (Qe rfl rfl (Qf (Ql (Qc (Qd (Qa (Qb rfl rfl (Xb rfl rfl rfl (Qf (Qc (Qs rfl (fun h19=> ?_) (fun h19=> ?_)))))))))))))
    ·refine Qa (Qb rfl rfl (Qe rfl rfl (Qf (Ql (Qc (Qi [14,13,0,4,5] rfl (Qa (QK rfl rfl (by omega) (by omega) rfl ?_))))))))
     refine Qb rfl rfl (Qf ?_)
     exact Q6 (L1:=[(0,_),(4,intV ((hd+(i:Int))%(l.length:Int))),(5,intV ((hd+(i:Int))%(l.length:Int))),(13,_),(14,intV ((i+1:Nat):Int))]) (VX rfl rfl rfl rfl rfl) (k1:=l.length -(i+1)) (by omega) ⟨i+1,((hd+(i:Int))%(l.length:Int)),((hd+(i:Int))%(l.length:Int)),rfl,rfl,hS7.pick [1,2,3,4,5,6] rfl, by omega,.inr ⟨by omega, by rw[hulk,hxu]⟩,.inr ⟨by omega, by rw[hulk,hxu]⟩, fun e=> by omega⟩
    refine Qr (Ql (Qc (Qa (QK rfl rfl (by omega) (by omega) rfl ?_))))
    refine Qb rfl rfl (Qf ?_)
    exact Q6 (L1:=[(0,_),(4,intV ((hd+(i:Int))%(l.length:Int))),(5,intV an),(13,_),(14,intV ((i+1:Nat):Int))]) (VX rfl rfl rfl rfl rfl) (k1:=l.length -(i+1)) (by omega) ⟨i+1,((hd+(i:Int))%(l.length:Int)),an,rfl,rfl,hS7.pick [1,2,3,4,5,6] rfl, by omega,.inr ⟨by omega, by rw[hulk,hxu]⟩,han, fun e=> by omega⟩
   refine Qr (Ql (Qc (Qd (Qa (Qb rfl rfl (Xb rfl rfl rfl (Qf (Qc (Qs rfl (fun h20=> ?_) (fun h20=> ?_))))))))))
   ·refine Qa (Qb rfl rfl (Qe rfl rfl (Qf (Ql (Qc (Qa (QK rfl rfl (by omega) (by omega) rfl ?_)))))))
    refine Qb rfl rfl (Qf ?_)
    exact Q6 (L1:=[(0,_),(4,intV um),(5,intV ((hd+(i:Int))%(l.length:Int))),(13,_),(14,intV ((i+1:Nat):Int))]) (VX rfl rfl rfl rfl rfl) (k1:=l.length -(i+1)) (by omega) ⟨i+1,um,((hd+(i:Int))%(l.length:Int)),rfl,rfl,hS7.pick [1,2,3,4,5,6] rfl, by omega,hum,.inr ⟨by omega, by rw[hulk,hxu]⟩, fun e=> by omega⟩
   refine Qr (Ql (Qc (Qa (QK rfl rfl (by omega) (by omega) rfl ?_))))
   refine Qb rfl rfl (Qf ?_)
   exact Q6 (L1:=[(0,_),(4,intV um),(5,intV an),(13,_),(14,intV ((i+1:Nat):Int))]) (VX rfl rfl rfl rfl rfl) (k1:=l.length -(i+1)) (by omega) ⟨i+1,um,an,rfl,rfl,hS7.pick [1,2,3,4,5,6] rfl, by omega,hum,han, fun e=> by omega⟩
  refine Qh rfl rfl h17 rfl (Qh rfl rfl h17 rfl (QG rfl h17 rfl rfl (Qe rfl rfl (Qf (Qc (Qi [14,13,5,4,0,7,51] rfl (QV rfl (Qr (Ql (Qc (Qd (Qa (Qb rfl rfl (Xb rfl rfl rfl (Qf (Qc (Qs rfl (fun h21=> ?_) (fun h21=> ?_))))))))))))))))))
  ·refine Qa (Qb rfl rfl (Qe rfl rfl (Qf (Ql (Qc (Qa (QK rfl rfl (by omega) (by omega) rfl ?_)))))))
   refine Qb rfl rfl (Qf ?_)
   exact Q6 (L1:=[(0,_),(4,intV um),(5,intV ((hd+(i:Int))%(l.length:Int))),(13,_),(14,intV ((i+1:Nat):Int))]) (VX rfl rfl rfl rfl rfl) (k1:=l.length -(i+1)) (by omega) ⟨i+1,um,((hd+(i:Int))%(l.length:Int)),rfl,rfl,hS7.pick [1,2,3,4,5,6] rfl, by omega,hum,.inr ⟨by omega, by rw[hulk,hxu]⟩, fun e=> by omega⟩
  refine Qr (Ql (Qc (Qa (QK rfl rfl (by omega) (by omega) rfl ?_))))
  refine Qb rfl rfl (Qf ?_)
  exact Q6 (L1:=[(0,_),(4,intV um),(5,intV an),(13,_),(14,intV ((i+1:Nat):Int))]) (VX rfl rfl rfl rfl rfl) (k1:=l.length -(i+1)) (by omega) ⟨i+1,um,an,rfl,rfl,hS7.pick [1,2,3,4,5,6] rfl, by omega,hum,han, fun e=> by omega⟩
 refine QS (Qp (Qp (Qz (Qc (Qd (Qd (Qa (Qb rfl rfl (JJ rfl rfl rfl (Qf (Qc (Qs rfl (fun h22=> ?_) (fun h22=> ?_)))))))))))))
 ·refine Qd (Qa (Qb rfl rfl (Qe rfl rfl (Qe rfl rfl (Qf (Qc (Qi [5,2,3] rfl (Qu (Qn (Wx (.inr rfl) rfl rfl rfl ?_))))))))))
  obtain⟨h0,h1⟩:=hum.resolve_left (by omega); exact⟨_,rfl,.inl ⟨um.toNat,h1, by rw[Int.toNat_of_nonneg h0],Zo (hul) (hl4) (hh0) (hh1) (hS1.pick [0,1,2,3,4,5] rfl)⟩⟩
 refine Qr (Qc (Qd (Qa (Qb rfl rfl (Yj rfl rfl rfl (Qb rfl rfl (JJ rfl rfl rfl (Qe rfl rfl (Qe rfl rfl (Qf (Qc (Qi [2,3] rfl (Qu (Wx (.inr rfl) rfl rfl rfl ?_))))))))))))))
 rcases han with han | ⟨ha0,ha1⟩
 ·exact⟨_,rfl,.inr ⟨clk_all hh0 (by rw[hul,List.length_map]; exact hh1) (fun j hj=>hall han j (by rw[hul,List.length_map]at hj;omega)), by subst han;rfl,Zo (hul) (hl4) (hh0) (hh1) (hS1.pick [0,1,2,3,4,5] rfl)⟩⟩
 ·exact⟨_,rfl,.inl ⟨an.toNat,ha1, by rw[Int.max_eq_left ha0,QW (show an≥0 from ha0),Int.toNat_of_nonneg ha0],Zo (hul) (hl4) (hh0) (hh1) (hS1.pick [0,1,2,3,4,5] rfl)⟩⟩
theorem U6 {w:World} {p:Nat} {ul:List Bool} {hd:Int} {F:Th} (hS:Sat w [BF p ul hd,F]):
    Calls Tryz.prog 170 #[ptrV p 0] w (Ret fun v w'=>v= .tuple #[]∧Sat w' [BF p ul (if hd+1<(ul.length:Int)then hd+1 else 0),F]):= by
 obtain⟨ob,cap,l,b1,b2,b3,g1,g2,g3,hul,hl4,hh0,hh1,hS⟩:=J9 hS
 obtain⟨x,hx⟩: ∃x,l[hd.toNat]? =some x:=⟨_,Zd (by omega)⟩
 refine Qq Tryz.func170 rfl Tryz.ntmps170 rfl ?_
 refine Qd ?_
 have hS1:=hS.drew
 refine QJ [0,1,2,3,4,5,6,7,8,9,10] [10] Wp (by kernel_rfl) ?_
 refine QE rfl rfl rfl (Xl rfl rfl rfl (QT rfl rfl rfl ZP (Q9 rfl rfl rfl (Qm rfl Jn (hS1.cell 0 rfl rfl)) (QE rfl rfl rfl (Xl rfl rfl rfl (QT rfl rfl rfl YT (Q9 rfl rfl rfl (Qm rfl QO (hS1.cell 0 rfl rfl)) (QU rfl rfl rfl (fun _=>(WB hd.toNat rfl rfl (by omega) (by omega) Hc)) ?_))))))))
 refine QT rfl rfl rfl U0 (Xj rfl rfl rfl rfl rfl rfl ?_)
 refine JA 1 hd.toNat 1 {x with m:=false} hS1 rfl rfl rfl (by show 0+hd.toNat*4+1=hd.toNat*4+1;omega) rfl AW hx rfl (by decide) rfl rfl ?_
 intro w2 hS2; dsimp only[List.set]at hS2
 clear hS1
 refine Zx (Xq (by kernel_rfl)) ?_
 refine VC.nil (Qc (Qi [0] rfl (Qd (Qa (Qb rfl rfl (Qk rfl rfl (Qg rfl YT rfl (Qo rfl QO (hS2.cell 0 rfl rfl) rfl (QK rfl rfl (by omega) (by omega) rfl ?_)))))))))
 refine Qk rfl rfl (Qg rfl YT rfl ?_)
 first | (refine QL hS2 rfl rfl Ug (by rfl) (i:=0) rfl (Xn rfl) ?_)
 intro w3 hS4; dsimp only[List.set]at hS4
 clear hS2
 refine Qf (Qc (Qd (Qd ?_)))
 have hS5:=hS4.drew
 refine QJ [0,1,2,3,4,5,6,7,8,9] [] Wp (by kernel_rfl) ?_
 refine QE rfl rfl rfl (Xl rfl rfl rfl (QT rfl rfl rfl YT (Q9 rfl rfl rfl (Qm rfl QO (hS5.cell 0 rfl rfl)) (QE rfl rfl rfl (Xl rfl rfl rfl (QT rfl rfl rfl ZP (Q9 rfl rfl rfl (Qm rfl Jn (hS5.cell 0 rfl rfl)) (QU rfl rfl rfl (fun _=>(Kr Tryz.underlying186 rfl)) ?_))))))))
 refine QU rfl rfl rfl (fun _=>(CI rfl rfl)) ?_
 refine VC.nil (Qc (Qi [0,29] rfl (Qs rfl (fun h6=> ?_) (fun h6=> ?_))))
 ·refine Qu (Qn (ZB (.inr rfl) rfl ?_))
  exact⟨_,rfl,rfl, by rw[if_pos (by rw[hul,List.length_map];omega)]; exact Zo (l:=l.set hd.toNat {x with m:=false}) (by rw[hul]; exact(Kt (y:={x with m:=false}) hx rfl).symm) (by rw[List.length_set]; exact hl4) (by omega) (by rw[List.length_set];omega) (hS5.pick [0,1,2,3,4,5] rfl)⟩
 refine Qr (Qc (Qd (Qa (Qb rfl rfl (Qk rfl rfl (Qg rfl YT rfl ?_))))))
 first | (refine QL hS5 rfl rfl Ug (by rfl) (i:=0) rfl (Xn rfl) ?_)
 intro w7 hS8; dsimp only[List.set]at hS8
 clear hS5
 refine Qf (Qc (Qd (Qd (Qa (Qb rfl rfl (Qk rfl rfl (Qg rfl ZP rfl (Qo rfl Jn (hS8.cell 0 rfl rfl) rfl (X5 Tryz.underlying186 rfl rfl (Qb rfl rfl (Qf (Qc (Qi [0,37,38] rfl (Qw ?_))))))))))))))
 have hSl:=hS8.pick [0,1,2,3,4,5] rfl
 have hls:(l.set hd.toNat {x with m:=false}).length=l.length:=List.length_set
 refine Xe (fun K0 E0 W0=> ∃(l2:List CkD) (i:Nat),K0=l.length -i∧E0=[(0,ptrV p 0),(37,intV (l2.length:Int)),(38,intV (i:Int))]∧Sat W0 [QF p [.slice (some ⟨ob,0,none⟩) l2.length cap,intV 0,.map (some b1),.map (some b2),.map (some b3)],rowT ckC (.slice (some ⟨ob,0,none⟩) l2.length cap) l2,Q3 Xf b1 (gI g1),Q3 Xf b2 (gI g2),Q3 Xf b3 (gI g3),F]∧(i≤l.length)∧(l2.length=l.length)∧(l2.map CkD.u=ul)) (L0:=[(0,_),(37,_),(38,_)]) (l.length -0) (Cn rfl rfl rfl) ⟨l.set hd.toNat {x with m:=false},0,rfl,(by rw[hls];rfl), by rw[hls]; exact hSl, by omega,hls, by rw[Kt (y:={x with m:=false}) hx rfl]; exact hul.symm⟩ ?_
 rintro _ _ w9 ⟨l2,i,rfl,rfl,hS9,hi,hl2,hu2⟩
 refine Qd (Qa (Xb rfl rfl rfl (Qf (Qc (Qd (Qs rfl (fun h10=> ?_) (fun h10=> ?_)))))))
 ·obtain⟨x2,hx2⟩: ∃x,l2[i]? =some x:=⟨_,Zd (by omega)⟩
  refine Qr (Qc (Qd (Qw (Qd (Qa (Qb rfl rfl (Qe rfl rfl (Qf (Qc (Qa (Qb rfl rfl (Qk rfl rfl (Qg rfl ZP rfl (Qo rfl Jn (hS9.cell 0 rfl rfl) rfl (Qb rfl rfl (Xu ckC 1 i hS9 rfl rfl rfl (by rfl) hx2 Hc rfl ?_))))))))))))))))
  intro bx11 capx11 hvx11
  refine Qg rfl Mw rfl (JA 1 i 2 {x2 with t:=false} hS9 rfl hvx11 rfl rfl rfl AW hx2 rfl (by decide) rfl (by rfl) ?_)
  intro w12 hS13; dsimp only[List.set]at hS13
  clear hS9
  refine Qf (Ql (Qc (Qi [38,37,0] rfl (Qa (QK rfl rfl (by omega) (by omega) rfl ?_)))))
  refine Qb rfl rfl (Qf ?_)
  have hSz:=hS13.pick [0,1,2,3,4,5] rfl
  exact Q6 (L1:=[(0,_),(37,intV ((l2.set i {x2 with t:=false}).length:Int)),(38,intV ((i+1:Nat):Int))]) (by rw[List.length_set]; exact(Cn rfl rfl rfl)) (k1:=l.length -(i+1)) (by omega) ⟨l2.set i {x2 with t:=false},i+1,rfl,rfl, by rw[List.length_set]; exact hSz, by omega, by rw[List.length_set]; exact hl2, by rw[Kt (y:={x2 with t:=false}) hx2 rfl]; exact hu2⟩
 refine QS (Qp (Qp (Qz (Qc (Qd ?_)))))
 have hS14:=hS9.drew
 refine QJ [0,1,2,3,4,5,6,7,8,9,10,11,12,13,14,15] [12,15] Wp (by kernel_rfl) ?_
 refine QE rfl rfl rfl (QE rfl rfl rfl (QE rfl rfl rfl (Xl rfl rfl rfl (QT rfl rfl rfl My (Q9 rfl rfl rfl (Qm rfl Jo (hS14.cell 0 rfl rfl)) (QE rfl rfl rfl (Xl rfl rfl rfl (QT rfl rfl rfl V9 (Q9 rfl rfl rfl (Qm rfl Jo (hS14.cell 0 rfl rfl)) (Xl rfl rfl rfl (QT rfl rfl rfl V9 (Xj rfl rfl rfl rfl rfl rfl ?_))))))))))))
 first | (refine QL hS14 rfl rfl AY (by rfl) (i:=0) rfl (Xn rfl) ?_)
 intro w15 hS16; dsimp only[List.set]at hS16
 clear hS14
 refine Zx (Xq (by kernel_rfl)) ?_
 refine Xl rfl rfl rfl (QT rfl rfl rfl My (Xj rfl rfl rfl rfl rfl rfl ?_))
 first | (refine QL hS16 rfl rfl AY (by rfl) (i:=0) rfl (Xn rfl) ?_)
 intro w17 hS18; dsimp only[List.set]at hS18
 clear hS16
 refine Zx (Xq (by kernel_rfl)) ?_
 refine VC.nil (Qc (Qi [0] rfl (Qa (Qb rfl rfl (Qk rfl rfl (Qg rfl V9 rfl (Qo rfl Jo (hS18.cell 0 rfl rfl) rfl (LR 4 hS18 Tryz.underlying109 rfl rfl rfl ?_))))))))
 intro w19 hS19; dsimp only[List.set]at hS19; rw[RN]at hS19
 clear hS18
 refine Qf (ZB (.inl rfl) rfl ?_)
 exact⟨_,rfl,rfl, by rw[if_neg (by rw[hul,List.length_map];omega)]; exact Zo hu2.symm (by omega) (by omega) (by omega) (hS19.pick [0,1,2,4,3,5] rfl)⟩
theorem Aq {w:World} {p:Nat} {ul:List Bool} {F:Th} (hS:Sat w [Cd p ul,F]):
    Calls Tryz.prog 119 #[ptrV p 0] w (Ret fun v w'=>(∃k:Nat,ul[k]? =some true∧v= .tuple #[intV (k:Int),.bool true]∧Sat w' [Cd p ul,F])∨((∀x∈ul,x=false)∧v= .tuple #[intV 0,.bool false]∧Sat w' [Cd p ul,F])):= by
 obtain⟨hd,hS⟩:=hS.ex
 refine Qq Tryz.func119 rfl Tryz.ntmps119 rfl ?_
 refine Qd (Qa (Qe rfl rfl (Qe rfl rfl (Qf (Qc (Qd (Qa (Qb rfl rfl (XY cal_169 rfl (PV (hS.sp [0] rfl)) rfl ?_)))))))))
 rintro e w1 ⟨_,rfl,(⟨k,hk,rfl,hS1⟩ | ⟨hno,rfl,hS1⟩)⟩
 ·refine⟨_,rfl, ?_⟩
  replace hS1:=hS1.jn rfl rfl
  refine Qb rfl rfl (Qt rfl rfl rfl (Qt rfl rfl rfl (Qe rfl rfl (Qe rfl rfl (Qf (Qc (Qd (Qd (Qa (Qb rfl rfl (QR rfl rfl (Qf (Qc (Qi [0,2,3,4,12] rfl (QM rfl (fun h2=> ?_) (fun h2=> ?_))))))))))))))))
  ·exact absurd h2 (by simp)
  refine Qr (Qc (Qd (Qd ?_)))
  obtain⟨ob,cap,l,b1,b2,b3,g1,g2,g3,hul,hl4,hh0,hh1,hSo⟩:=J9 (hS1.pick [0,1] rfl)
  have hull:ul.length=l.length:= by rw[hul,List.length_map]
  obtain⟨x,hx⟩: ∃x,l[k]? =some x:=⟨_,Zd (by have :=(XQ hk).1;omega)⟩
  refine Qa (Qb rfl rfl (Qk rfl rfl (Qg rfl ZP rfl (Qo rfl Jn (hSo.cell 0 rfl rfl) rfl (Qb rfl rfl (Xu ckC 1 k hSo rfl rfl rfl (by rfl) hx Hc rfl ?_))))))
  intro bx3 capx3 hvx3
  refine Qg rfl U0 rfl (Z1 1 k 1 hSo rfl hvx3 rfl rfl hx MQ rfl rfl (Qf (Qc (Qi [0,2,3,4,20] rfl (QM rfl (fun h4=> ?_) (fun h4=> ?_))))))
  ·refine Qd (Qa (Qb rfl rfl (Qk rfl rfl (Qg rfl ZP rfl (Qo rfl Jn (hSo.cell 0 rfl rfl) rfl (X5 Tryz.underlying186 rfl rfl (Qb rfl rfl (Qf (Qc (Qi [0,2,3,4,25,26] rfl (Qw ?_)))))))))))
   have hS5:=Zo (hul) (hl4) (hh0) (hh1) (hSo.pick [0,1,2,3,4,5] rfl)
   refine Xe (fun K0 E0 W0=> ∃(i:Nat) (h:Int),K0=ul.length -i∧E0=[(0,ptrV p 0),(4,intV (k:Int)),(25,intV (ul.length:Int)),(26,intV (i:Int))]∧Sat W0 [BF p ul h,F]∧(i≤ul.length)) (L0:=[(0,_),(4,_),(25,_),(26,_)]) (ul.length -0) (Vk rfl rfl rfl rfl) ⟨0,hd,rfl,(by rw[hull];rfl),hS5, by omega⟩ ?_
   rintro _ _ w6 ⟨i,h,rfl,rfl,hS6,hi⟩
   refine Qd (Qa (Xb rfl rfl rfl (Qf (Qc (Qd (Qs rfl (fun h7=> ?_) (fun h7=> ?_)))))))
   ·refine Qr (Qc (Qd (Qw (Qa (Qb rfl rfl (Qv Gi rfl (U6 (hS6.sp [0] rfl)) rfl ?_))))))
    rintro _ w8 ⟨rfl,hS8⟩
    replace hS8:=hS8.jn rfl rfl
    clear hS6
    refine Qf (Ql (Qc (Qa (QK rfl rfl (by omega) (by omega) rfl ?_))))
    refine Qb rfl rfl (Qf ?_)
    exact Q6 (L1:=[(0,_),(4,_),(25,_),(26,intV ((i+1:Nat):Int))]) (Vk rfl rfl rfl rfl) (k1:=ul.length -(i+1)) (by omega) ⟨i+1,_,rfl,rfl,hS8.pick [0,1] rfl, by omega⟩
   refine QS (Qp (Qp (Qz (Qc (Qd (Qw ?_))))))
   obtain⟨hh,hhe⟩: ∃x:Int,x=h:=⟨_,rfl⟩
   rw[←hhe]at hS6
   refine Xe (fun K0 E0 W0=> ∃(h:Int),K0=(if h≤(k:Int)then(k:Int) -h else(ul.length:Int) -h+k).toNat∧E0=[(0,ptrV p 0),(4,intV (k:Int))]∧Sat W0 [BF p ul h,F]) (L0:=[(0,_),(4,_)]) ((if hh≤(k:Int)then(k:Int) -hh else(ul.length:Int) -hh+k).toNat) (Du rfl rfl) ⟨_,rfl,rfl,hS6⟩ ?_
   rintro _ _ w9 ⟨h,rfl,rfl,hS9⟩
   refine Qd (Qd ?_)
   obtain⟨ob3,cap3,l3,b13,b23,b33,g13,g23,g33,hul3,hl43,hh03,hh13,hSo10⟩:=J9 (hS9.pick [0,1] rfl)
   have hull3:ul.length=l3.length:= by rw[hul3,List.length_map]
   refine Qa (Qb rfl rfl (Qk rfl rfl (Qg rfl YT rfl (Qo rfl QO (hSo10.cell 0 rfl rfl) rfl (Qb rfl rfl (X0 rfl rfl rfl (Qf ?_)))))))
   have hS11:=Zo hul3 hl43 hh03 hh13 (hSo10.pick [0,1,2,3,4,5] rfl)
   refine Qc (Qs rfl (fun h12=> ?_) (fun h12=> ?_))
   ·refine Qr (Qc (Qw (Qa (Qb rfl rfl (Qv Gi rfl (U6 (hS11.sp [0] rfl)) rfl ?_)))))
    rintro _ w13 ⟨rfl,hS13⟩
    replace hS13:=hS13.jn rfl rfl
    clear hS11
    refine Qf (Ql ?_)
    have hkn:=(XQ hk).1
    exact Q6 (L1:=[(0,_),(4,_)]) (Du rfl rfl) (k1:=(if(if h+1<(ul.length:Int)then h+1 else 0)≤(k:Int)then(k:Int) -(if h+1<(ul.length:Int)then h+1 else 0)else(ul.length:Int) -(if h+1<(ul.length:Int)then h+1 else 0)+k).toNat) (by split<;>split<;>split<;>omega) ⟨_,rfl,rfl,hS13.pick [0,1] rfl⟩
   refine QS (Qp (Qp (Qz (Qc (Qd (Qa (Qb rfl rfl (Qv Gi rfl (U6 (hS11.sp [0] rfl)) rfl ?_))))))))
   rintro _ w14 ⟨rfl,hS14⟩
   replace hS14:=hS14.jn rfl rfl
   clear hS11
   exact Qf (Qc (Qd (Qa (Qb rfl rfl (Qe rfl rfl (Qe rfl rfl (Qf (Qc (Qi [2,3] rfl (Qu (Wx (.inr rfl) rfl rfl rfl (⟨_,rfl,.inl ⟨k,hk,rfl,Sat.ex_intro (f:= fun h:Int=>BF p ul h) _ (hS14.pick [0,1] rfl)⟩⟩))))))))))))
  refine Qr (Qc (Qd (Qw ?_)))
  have hS15:=Zo (hul) (hl4) (hh0) (hh1) (hSo.pick [0,1,2,3,4,5] rfl)
  obtain⟨hh,hhe⟩: ∃x:Int,x=hd:=⟨_,rfl⟩
  rw[←hhe]at hS15
  refine Xe (fun K0 E0 W0=> ∃(h:Int),K0=(if h≤(k:Int)then(k:Int) -h else(ul.length:Int) -h+k).toNat∧E0=[(0,ptrV p 0),(4,intV (k:Int))]∧Sat W0 [BF p ul h,F]) (L0:=[(0,_),(4,_)]) ((if hh≤(k:Int)then(k:Int) -hh else(ul.length:Int) -hh+k).toNat) (Du rfl rfl) ⟨_,rfl,rfl,hS15⟩ ?_
  rintro _ _ w16 ⟨h,rfl,rfl,hS16⟩
  refine Qd (Qd ?_)
  obtain⟨ob3,cap3,l3,b13,b23,b33,g13,g23,g33,hul3,hl43,hh03,hh13,hSo17⟩:=J9 (hS16.pick [0,1] rfl)
  have hull3:ul.length=l3.length:= by rw[hul3,List.length_map]
  refine Qa (Qb rfl rfl (Qk rfl rfl (Qg rfl YT rfl (Qo rfl QO (hSo17.cell 0 rfl rfl) rfl (Qb rfl rfl (X0 rfl rfl rfl (Qf ?_)))))))
  have hS18:=Zo hul3 hl43 hh03 hh13 (hSo17.pick [0,1,2,3,4,5] rfl)
  refine Qc (Qs rfl (fun h19=> ?_) (fun h19=> ?_))
  ·refine Qr (Qc (Qw (Qa (Qb rfl rfl (Qv Gi rfl (U6 (hS18.sp [0] rfl)) rfl ?_)))))
   rintro _ w20 ⟨rfl,hS20⟩
   replace hS20:=hS20.jn rfl rfl
   clear hS18
   refine Qf (Ql ?_)
   have hkn:=(XQ hk).1
   exact Q6 (L1:=[(0,_),(4,_)]) (Du rfl rfl) (k1:=(if(if h+1<(ul.length:Int)then h+1 else 0)≤(k:Int)then(k:Int) -(if h+1<(ul.length:Int)then h+1 else 0)else(ul.length:Int) -(if h+1<(ul.length:Int)then h+1 else 0)+k).toNat) (by split<;>split<;>split<;>omega) ⟨_,rfl,rfl,hS20.pick [0,1] rfl⟩
  refine QS (Qp (Qp (Qz (Qc (Qd (Qa (Qb rfl rfl (Qv Gi rfl (U6 (hS18.sp [0] rfl)) rfl ?_))))))))
  rintro _ w21 ⟨rfl,hS21⟩
  replace hS21:=hS21.jn rfl rfl
  clear hS18
  exact Qf (Qc (Qd (Qa (Qb rfl rfl (Qe rfl rfl (Qe rfl rfl (Qf (Qc (Qi [2,3] rfl (Qu (Wx (.inr rfl) rfl rfl rfl (⟨_,rfl,.inl ⟨k,hk,rfl,Sat.ex_intro (f:= fun h:Int=>BF p ul h) _ (hS21.pick [0,1] rfl)⟩⟩))))))))))))
 refine⟨_,rfl, ?_⟩
 replace hS1:=hS1.jn rfl rfl
 refine Qb rfl rfl (Qt rfl rfl rfl (Qt rfl rfl rfl (Qe rfl rfl (Qe rfl rfl (Qf (Qc (Qd (Qd (Qa (Qb rfl rfl (QR rfl rfl (Qf (Qc (Qi [0,2,3,4,12] rfl (QM rfl (fun h22=> ?_) (fun h22=> ?_))))))))))))))))
 ·exact Qd (Qa (Qe rfl rfl (Qe rfl rfl (Qf (Qc (Qu (Qn (Wx (.inr rfl) rfl rfl rfl (⟨_,rfl,.inr ⟨hno,rfl,Sat.ex_intro (f:= fun h:Int=>BF p ul h) _ (hS1.pick [0,1] rfl)⟩⟩)))))))))
 exact absurd h22 (by simp)
theorem ckgoneT {w:World} {p:Nat} {ul:List Bool} {F:Th} (hS:Sat w [Cd p ul,F]) (f:Int) (hf:0≤f∧f<(ul.length:Int)):
    Calls Tryz.prog 186 #[ptrV p 0,intV f] w (Ret fun v w'=>v= .tuple #[]∧Sat w' [Cd p (ul.set f.toNat false),F]):= by
  obtain⟨hd,hS⟩:=hS.ex
  exact(Bb hS f hf).mono fun e w1 h=>h.mono fun v w2 ⟨h1,h2⟩=>⟨h1,Sat.ex_intro (f:= fun h:Int=>BF p (ul.set f.toNat false) h) hd h2⟩
theorem qaq {w:World} {p:Nat} {ul:List Bool} {F:Th} (hS:Sat w [Cd p ul,F]) (f:Int) (hf:0≤f∧f<(ul.length:Int)) (owner:Int):
    Calls Tryz.prog 188 #[ptrV p 0,intV f,intV owner] w (Ret fun v w'=>v= .tuple #[]∧Sat w' [Cd p (ul.set f.toNat true),F]):= by
  obtain⟨hd,hS⟩:=hS.ex
  exact(qap hS f hf owner).mono fun e w1 h=>h.mono fun v w2 ⟨h1,h2⟩=>⟨h1,Sat.ex_intro (f:= fun h:Int=>BF p (ul.set f.toNat true) h) hd h2⟩
theorem ckrow {Z:List Value} (hZ:Z=ckC.enc ⟨false,false,false,0⟩) (m:Nat):(List.replicate m Z).flatten=ckC.cells (List.replicate m ⟨false,false,false,0⟩):= by
  subst hZ
  induction m with
  | zero=>rfl
  | succ m ih=> rw[List.replicate_succ,List.flatten_cons,ih,List.replicate_succ];rfl
theorem qar {w:World} {F:Th} (hS:Sat w [F]) (n:Int) (hn:1≤n):
    Calls Tryz.prog 59 #[intV n] w (Ret fun v w'=> ∃p,v=ptrV p 0∧Sat w' [Cd p (List.replicate (min (max n 0) 4096).toNat false),F]):= by
 refine Qq Tryz.func59 rfl Tryz.ntmps59 rfl ?_
 refine Qd (Qa (Qe rfl rfl (Qf (Qc (Qd (Qa (Qb rfl rfl (Yj rfl rfl rfl (HL rfl rfl rfl (Rt hS (min (max n 0) 4096).toNat rfl rfl (by omega) Tryz.underlying186 ifo_199 rfl (by omega) (by omega) rfl ?_))))))))))
 intro db w1 hS1a; have hS1:=hS1a.row_cast (l:=List.replicate (min (max n 0) 4096).toNat ⟨false,false,false,0⟩) (C:=ckC) (by simp) rfl (ckrow rfl _)
 refine Za Xf hS1 rfl ?_
 intro mb1 w2 hS2; rw[RN]at hS2
 clear hS1
 refine Za Xf hS2 rfl ?_
 intro mb2 w3 hS3; rw[RN]at hS3
 clear hS2
 refine Za Xf hS3 rfl ?_
 intro mb3 w4 hS4; rw[RN]at hS4
 clear hS3
 refine Zl rfl Mc asz_188 zr_188 rfl rfl (XU hS4 rfl rfl rfl ?_)
 intro bp wbp hSbp
 clear hS4
 refine Qe rfl rfl (Qf (Qc (Qi [2] rfl (Qu (QQ (.inr rfl) rfl rfl ?_)))))
 exact⟨_,rfl,_,rfl,Sat.ex_intro (f:= fun h:Int=>BF bp _ h) 0 (Zo (l:=List.replicate (min (max n 0) 4096).toNat ⟨false,false,false,0⟩) (by rw[List.map_replicate]) (by rw[List.length_replicate];omega) (by omega) (by rw[List.length_replicate];omega) (hSbp.pick [0,4,3,2,1,5] rfl))⟩
end Go.Proofs.YtkcjfoaejijdoaaGreatDoor
namespace Go.Proofs.YtkcjfoaejijdoaaGreatDoor.M
open Go.RowKit Go.Sort
end Go.Proofs.YtkcjfoaejijdoaaGreatDoor.M
