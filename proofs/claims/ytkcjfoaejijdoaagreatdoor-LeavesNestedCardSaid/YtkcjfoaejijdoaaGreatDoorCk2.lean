/- reclaim: victim, pass -/
import Derived.Test.YtkcjfoaejijdoaaGreatDoorCk1
import Derived.Test.YtkcjfoaejijdoaaGreatDoorRow
import Derived.Test.YtkcjfoaejijdoaaGreatDoorFw
set_option linter.unusedVariables false
set_option maxRecDepth 100000
set_option maxHeartbeats 80000000000
namespace Go.Proofs.YtkcjfoaejijdoaaGreatDoor
open Go.RowKit M
def okK (ul:List Bool) (n:Int):Prop:=n= -1∨(0≤n∧ul[n.toNat]? =some true)
theorem clk_all {ul:List Bool} {hd:Int} (h0:0≤hd) (h1:hd<ul.length) (h: ∀j:Nat,j<ul.length→ul[((hd+(j:Int))%(ul.length:Int)).toNat]? =some false): ∀x∈ul,x=false:= by
  intro x hx
  obtain⟨k,hk⟩:=List.mem_iff_getElem?.1 hx
  have hkl:=(XW hk).1
  have h5:=Int.emod_lt_of_pos ((k:Int) -hd) (show(0:Int)<ul.length by omega)
  have h6:=Int.emod_nonneg ((k:Int) -hd) (show(ul.length:Int)≠0 by omega)
  have hj:=h (((k:Int) -hd)%(ul.length:Int)).toNat (by omega)
  have e:((hd+(((((k:Int) -hd)%(ul.length:Int)).toNat:Nat):Int))%(ul.length:Int)).toNat=k:= by
    rw[Int.toNat_of_nonneg h6,Int.add_emod_emod, show hd+((k:Int) -hd)=(k:Int) by omega,Int.emod_eq_of_lt (by omega) (by omega)];omega
  rw[e,hk]at hj
  exact Option.some.inj hj
theorem PW {w:World} {p:Nat} {ul:List Bool} {hd:Int} {F:Th} (hS:Sat w [BK p ul hd,F]):
    Calls Tryz.prog 169 #[ptrV p 0] w (Ret fun v w'=>(∃k:Nat,ul[k]? =some true∧v= .tuple #[intV (k:Int),.bool true]∧Sat w' [BK p ul hd,F])∨((∀x∈ul,x=false)∧v= .tuple #[intV 0,.bool false]∧Sat w' [BK p ul hd,F])):= by
 obtain⟨ob,cap,l,b1,b2,b3,g1,g2,g3,hul,hl4,hh0,hh1,hS⟩:=JD hS
 refine Qo Tryz.func169 rfl Tryz.ntmps169 rfl ?_
 refine Qd (Qa (Qe rfl rfl (Qe rfl rfl (Qf (Qc (Qd (Qa (Qe rfl rfl (Qe rfl rfl (Qf (Qc (Qd (Qd (Qa (Qb rfl rfl (Qj rfl rfl (Qg rfl ZP rfl (Qp rfl Js (hS.cell 0 rfl rfl) rfl (XE Tryz.underlying186 rfl rfl (Qb rfl rfl (Qf (Qc (Qh [0,2,3,4,5,13,14] rfl (Qw ?_))))))))))))))))))))))))
 refine Xa (fun K0 E0 W0=> ∃(i:Nat) (um an:Int),K0=l.length -i∧E0=[(0,ptrV p 0),(4,intV um),(5,intV an),(13,intV (l.length:Int)),(14,intV (i:Int))]∧Sat W0 [QG p [.slice (some ⟨ob,0,none⟩) l.length cap,intV hd,.map (some b1),.map (some b2),.map (some b3)],rowT ckC (.slice (some ⟨ob,0,none⟩) l.length cap) l,Q0 QX b1 (gI g1),Q0 QX b2 (gI g2),Q0 QX b3 (gI g3),F]∧(i≤l.length)∧(okK ul um)∧(okK ul an)∧(an= -1→ ∀j:Nat,j<i→ul[((hd+(j:Int))%(ul.length:Int)).toNat]? =some false)) (L0:=[(0,_),(4,_),(5,_),(13,_),(14,_)]) (l.length -0) (Vp rfl rfl rfl rfl rfl) ⟨0, -1, -1,rfl,rfl,hS, by omega,.inl rfl,.inl rfl, fun _ j hj=> by omega⟩ ?_
 rintro _ _ w1 ⟨i,um,an,rfl,rfl,hS1,hi,hum,han,hall⟩
 refine Qd (Qa (Xg rfl rfl rfl (Qf (Qc (Qd (Qt rfl (fun h2=> ?_) (fun h2=> ?_)))))))
 ·refine Qr (Qc (Qd (Qw (Qd (Qa (Qb rfl rfl (Qe rfl rfl (Qf (Qc (Qd ?_))))))))))
  have hS3:=hS1.drew
  refine QI [0,1,2,3,4,5,6,7,8,9,10,11,12] [] Wq (by kernel_rfl) ?_
  refine QE rfl rfl rfl (Xj rfl rfl rfl (QS rfl rfl rfl YX (Q8 rfl rfl rfl (Qm rfl QN (hS3.cell 0 rfl rfl)) (QE rfl rfl rfl (QZ rfl rfl rfl (fun _=>(GW rfl rfl (by omega) (by omega))) ?_)))))
  refine QE rfl rfl rfl (Xj rfl rfl rfl (QS rfl rfl rfl ZP (Q8 rfl rfl rfl (Qm rfl Js (hS3.cell 0 rfl rfl)) (QZ rfl rfl rfl (fun _=>(Kv Tryz.underlying186 rfl)) ?_))))
  refine QZ rfl rfl rfl (fun _=>(M4 rfl rfl (by omega) (by omega))) ?_
  refine XP rfl rfl rfl (VC.nil ?_)
  have hm1:0≤((hd+(i:Int))%(l.length:Int)):=Int.emod_nonneg _ (by omega)
  have hm2:((hd+(i:Int))%(l.length:Int))<(l.length:Int):=Int.emod_lt_of_pos _ (by omega)
  obtain⟨x,hx⟩: ∃x,l[((hd+(i:Int))%(l.length:Int)).toNat]? =some x:=⟨_,Zi (by omega)⟩
  have hulk:ul[((hd+(i:Int))%(l.length:Int)).toNat]? =some x.u:= by rw[hul]; exact ck_u hx
  have hulx:ul[((hd+(i:Int))%(ul.length:Int)).toNat]? =some x.u:= by rw[show(ul.length:Int)=(l.length:Int) by rw[hul,List.length_map]]; exact hulk
  refine Qc (Qh [14,13,5,4,0,7] rfl (Qd (Qa (Qb rfl rfl (Qj rfl rfl (Qg rfl ZP rfl (Qp rfl Js (hS3.cell 0 rfl rfl) rfl (Qb rfl rfl (Xr ckC 1 ((hd+(i:Int))%(l.length:Int)).toNat hS3 rfl rfl rfl (by rw[Int.toNat_of_nonneg hm1]) hx Hf rfl ?_)))))))))
  intro bx4 capx4 hvx4
  refine Wj 1 ((hd+(i:Int))%(l.length:Int)).toNat hS3 rfl hvx4 rfl hx qbs KR rfl rfl (Xc hS3 Dw rfl rfl ?_)
  intro b5 w5 hS5
  clear hS3
  (refine QU hS5 rfl rfl KR rfl (by rfl) (i:=0) rfl (by decide) ?_)
  intro w6 hS7; dsimp only[List.set]at hS7
  clear hS5
  refine Qf (Qc (Qh [14,13,5,4,0,7,8] rfl (Qd (Qw (Qd (Qa (Qg rfl RX rfl (Qp rfl MP (hS7.cell 0 rfl rfl) rfl (QQ rfl rfl (Qe rfl rfl (Qf (Qc (Qh [14,13,5,4,0,7,8,36] rfl (QL rfl (fun h8=> ?_) (fun h8=> ?_)))))))))))))))
  ·have hxu:x.u=false:= by simpa using h8
   refine QR (MY rfl (Qq (Qy (Qc (Qa (QK rfl rfl (by omega) (by omega) rfl ?_))))))
   refine Qb rfl rfl (Qf ?_)
   exact Q4 (L1:=[(0,_),(4,intV um),(5,intV an),(13,_),(14,intV ((i+1:Nat):Int))]) (Vp rfl rfl rfl rfl rfl) (k1:=l.length -(i+1)) (by omega) ⟨i+1,um,an,rfl,rfl,hS7.pick [1,2,3,4,5,6] rfl, by omega,hum,han, fun e j hj=> by by_cases q:j=i;(subst q; rw[hulx,hxu]); exact hall e j (by omega)⟩
  have hxu:x.u=true:= by simpa using h8
  refine Qd (Qa (Qg rfl U2 rfl (Qp rfl MP (hS7.cell 0 rfl rfl) rfl (QQ rfl rfl (Qb rfl rfl (Zc 44 rfl (fun h9=> ?_) (fun h9=> ?_)))))))
  ·refine Qk rfl rfl h9 (Qb rfl rfl (Qk rfl rfl h9 (Qg rfl RW rfl (Qk rfl rfl h9 (Qp rfl QN (hS7.cell 0 rfl rfl) rfl (Qk rfl rfl h9 (Qv cal_203 rfl (Az (hS7.sp [1,2,3,4,5] rfl) x.o) rfl ?_)))))))
   rintro _ w10 ⟨g0,rfl,hS10⟩
   replace hS10:=hS10.jn rfl rfl
   clear hS7
   refine QC rfl h9 rfl rfl (Qe rfl rfl (Qf (Qc (Qh [14,13,5,4,0,7,8,40] rfl (QL rfl (fun h11=> ?_) (fun h11=> ?_))))))
   ·exact Qd (Qa (Qb rfl rfl (Qe rfl rfl (Qe rfl rfl (Qf (Qc (Qh [14,13,5,4,0,7,2,3] rfl (Qu (Qx (Qn (Qx (Qn (Qn (Qx (Qn (Wx (.inr rfl) rfl rfl rfl (⟨_,rfl,.inl ⟨((hd+(i:Int))%(l.length:Int)).toNat, by rw[hulk,hxu], by rw[Int.toNat_of_nonneg hm1],Zs (hul) (hl4) (hh0) (hh1) (hS10.pick [0,1,2,3,4,6] rfl)⟩⟩)))))))))))))))))
   refine Qd (Qa (Qg rfl U2 rfl (Qp rfl MP (hS10.cell 5 rfl rfl) rfl (QQ rfl rfl (Qb rfl rfl (Zc 55 rfl (fun h12=> ?_) (fun h12=> ?_)))))))
   ·refine Qk rfl rfl h12 (Qb rfl rfl (Qk rfl rfl h12 (Xg rfl rfl rfl (QC rfl h12 rfl rfl (Qe rfl rfl (Qf (Qc (Qh [14,13,5,4,0,7,51] rfl (Qt rfl (fun h13=> ?_) (fun h13=> ?_))))))))))
    ·refine Qa (Qb rfl rfl (Qe rfl rfl (Qf (Ql (Qc (Qd (Qa (Qb rfl rfl (Xg rfl rfl rfl (Qf (Qc (Qt rfl (fun h14=> ?_) (fun h14=> ?_)))))))))))))
     ·refine Qa (Qb rfl rfl (Qe rfl rfl (Qf (Ql (Qc (Qh [14,13,0,4,5] rfl (Qa (QK rfl rfl (by omega) (by omega) rfl ?_))))))))
      refine Qb rfl rfl (Qf ?_)
      exact Q4 (L1:=[(0,_),(4,intV ((hd+(i:Int))%(l.length:Int))),(5,intV ((hd+(i:Int))%(l.length:Int))),(13,_),(14,intV ((i+1:Nat):Int))]) (Vp rfl rfl rfl rfl rfl) (k1:=l.length -(i+1)) (by omega) ⟨i+1,((hd+(i:Int))%(l.length:Int)),((hd+(i:Int))%(l.length:Int)),rfl,rfl,hS10.pick [0,1,2,3,4,6] rfl, by omega,.inr ⟨by omega, by rw[hulk,hxu]⟩,.inr ⟨by omega, by rw[hulk,hxu]⟩, fun e=> by omega⟩
     refine Qr (Ql (Qc (Qa (QK rfl rfl (by omega) (by omega) rfl ?_))))
     refine Qb rfl rfl (Qf ?_)
     exact Q4 (L1:=[(0,_),(4,intV ((hd+(i:Int))%(l.length:Int))),(5,intV an),(13,_),(14,intV ((i+1:Nat):Int))]) (Vp rfl rfl rfl rfl rfl) (k1:=l.length -(i+1)) (by omega) ⟨i+1,((hd+(i:Int))%(l.length:Int)),an,rfl,rfl,hS10.pick [0,1,2,3,4,6] rfl, by omega,.inr ⟨by omega, by rw[hulk,hxu]⟩,han, fun e=> by omega⟩
    refine Qr (Ql (Qc (Qd (Qa (Qb rfl rfl (Xg rfl rfl rfl (Qf (Qc (Qt rfl (fun h15=> ?_) (fun h15=> ?_))))))))))
    ·refine Qa (Qb rfl rfl (Qe rfl rfl (Qf (Ql (Qc (Qa (QK rfl rfl (by omega) (by omega) rfl ?_)))))))
     refine Qb rfl rfl (Qf ?_)
     exact Q4 (L1:=[(0,_),(4,intV um),(5,intV ((hd+(i:Int))%(l.length:Int))),(13,_),(14,intV ((i+1:Nat):Int))]) (Vp rfl rfl rfl rfl rfl) (k1:=l.length -(i+1)) (by omega) ⟨i+1,um,((hd+(i:Int))%(l.length:Int)),rfl,rfl,hS10.pick [0,1,2,3,4,6] rfl, by omega,hum,.inr ⟨by omega, by rw[hulk,hxu]⟩, fun e=> by omega⟩
    refine Qr (Ql (Qc (Qa (QK rfl rfl (by omega) (by omega) rfl ?_))))
    refine Qb rfl rfl (Qf ?_)
    exact Q4 (L1:=[(0,_),(4,intV um),(5,intV an),(13,_),(14,intV ((i+1:Nat):Int))]) (Vp rfl rfl rfl rfl rfl) (k1:=l.length -(i+1)) (by omega) ⟨i+1,um,an,rfl,rfl,hS10.pick [0,1,2,3,4,6] rfl, by omega,hum,han, fun e=> by omega⟩
   refine Qi rfl rfl h12 rfl (Qi rfl rfl h12 rfl (QO rfl h12 rfl rfl (Qe rfl rfl (Qf (Qc (Qh [14,13,5,4,0,7,51] rfl (QT rfl (Qr (Ql (Qc (Qd (Qa (Qb rfl rfl (Xg rfl rfl rfl (Qf (Qc (Qt rfl (fun h16=> ?_) (fun h16=> ?_))))))))))))))))))
   ·refine Qa (Qb rfl rfl (Qe rfl rfl (Qf (Ql (Qc (Qa (QK rfl rfl (by omega) (by omega) rfl ?_)))))))
    refine Qb rfl rfl (Qf ?_)
    exact Q4 (L1:=[(0,_),(4,intV um),(5,intV ((hd+(i:Int))%(l.length:Int))),(13,_),(14,intV ((i+1:Nat):Int))]) (Vp rfl rfl rfl rfl rfl) (k1:=l.length -(i+1)) (by omega) ⟨i+1,um,((hd+(i:Int))%(l.length:Int)),rfl,rfl,hS10.pick [0,1,2,3,4,6] rfl, by omega,hum,.inr ⟨by omega, by rw[hulk,hxu]⟩, fun e=> by omega⟩
   refine Qr (Ql (Qc (Qa (QK rfl rfl (by omega) (by omega) rfl ?_))))
   refine Qb rfl rfl (Qf ?_)
   exact Q4 (L1:=[(0,_),(4,intV um),(5,intV an),(13,_),(14,intV ((i+1:Nat):Int))]) (Vp rfl rfl rfl rfl rfl) (k1:=l.length -(i+1)) (by omega) ⟨i+1,um,an,rfl,rfl,hS10.pick [0,1,2,3,4,6] rfl, by omega,hum,han, fun e=> by omega⟩
  refine Qi rfl rfl h9 rfl (Qi rfl rfl h9 rfl (Qi rfl rfl h9 rfl (Qi rfl rfl h9 rfl (QO rfl h9 rfl rfl (Qe rfl rfl (Qf (Qc (Qh [14,13,5,4,0,7,8,40] rfl (QT rfl (Qd (Qa (Qg rfl U2 rfl (Qp rfl MP (hS7.cell 0 rfl rfl) rfl (QQ rfl rfl (Qb rfl rfl (Zc 55 rfl (fun h17=> ?_) (fun h17=> ?_)))))))))))))))))
  ·refine Qk rfl rfl h17 (Qb rfl rfl (Qk rfl rfl h17 (Xg rfl rfl rfl (QC rfl h17 rfl rfl (Qe rfl rfl (Qf (Qc (Qh [14,13,5,4,0,7,51] rfl (Qt rfl (fun h18=> ?_) (fun h18=> ?_))))))))))
   ·refine Qa (Qb rfl rfl (Qe rfl rfl (Qf (Ql (Qc (Qd (Qa (Qb rfl rfl (Xg rfl rfl rfl (Qf (Qc (Qt rfl (fun h19=> ?_) (fun h19=> ?_)))))))))))))
    ·refine Qa (Qb rfl rfl (Qe rfl rfl (Qf (Ql (Qc (Qh [14,13,0,4,5] rfl (Qa (QK rfl rfl (by omega) (by omega) rfl ?_))))))))
     refine Qb rfl rfl (Qf ?_)
     exact Q4 (L1:=[(0,_),(4,intV ((hd+(i:Int))%(l.length:Int))),(5,intV ((hd+(i:Int))%(l.length:Int))),(13,_),(14,intV ((i+1:Nat):Int))]) (Vp rfl rfl rfl rfl rfl) (k1:=l.length -(i+1)) (by omega) ⟨i+1,((hd+(i:Int))%(l.length:Int)),((hd+(i:Int))%(l.length:Int)),rfl,rfl,hS7.pick [1,2,3,4,5,6] rfl, by omega,.inr ⟨by omega, by rw[hulk,hxu]⟩,.inr ⟨by omega, by rw[hulk,hxu]⟩, fun e=> by omega⟩
    refine Qr (Ql (Qc (Qa (QK rfl rfl (by omega) (by omega) rfl ?_))))
    refine Qb rfl rfl (Qf ?_)
    exact Q4 (L1:=[(0,_),(4,intV ((hd+(i:Int))%(l.length:Int))),(5,intV an),(13,_),(14,intV ((i+1:Nat):Int))]) (Vp rfl rfl rfl rfl rfl) (k1:=l.length -(i+1)) (by omega) ⟨i+1,((hd+(i:Int))%(l.length:Int)),an,rfl,rfl,hS7.pick [1,2,3,4,5,6] rfl, by omega,.inr ⟨by omega, by rw[hulk,hxu]⟩,han, fun e=> by omega⟩
   refine Qr (Ql (Qc (Qd (Qa (Qb rfl rfl (Xg rfl rfl rfl (Qf (Qc (Qt rfl (fun h20=> ?_) (fun h20=> ?_))))))))))
   ·refine Qa (Qb rfl rfl (Qe rfl rfl (Qf (Ql (Qc (Qa (QK rfl rfl (by omega) (by omega) rfl ?_)))))))
    refine Qb rfl rfl (Qf ?_)
    exact Q4 (L1:=[(0,_),(4,intV um),(5,intV ((hd+(i:Int))%(l.length:Int))),(13,_),(14,intV ((i+1:Nat):Int))]) (Vp rfl rfl rfl rfl rfl) (k1:=l.length -(i+1)) (by omega) ⟨i+1,um,((hd+(i:Int))%(l.length:Int)),rfl,rfl,hS7.pick [1,2,3,4,5,6] rfl, by omega,hum,.inr ⟨by omega, by rw[hulk,hxu]⟩, fun e=> by omega⟩
   refine Qr (Ql (Qc (Qa (QK rfl rfl (by omega) (by omega) rfl ?_))))
   refine Qb rfl rfl (Qf ?_)
   exact Q4 (L1:=[(0,_),(4,intV um),(5,intV an),(13,_),(14,intV ((i+1:Nat):Int))]) (Vp rfl rfl rfl rfl rfl) (k1:=l.length -(i+1)) (by omega) ⟨i+1,um,an,rfl,rfl,hS7.pick [1,2,3,4,5,6] rfl, by omega,hum,han, fun e=> by omega⟩
  refine Qi rfl rfl h17 rfl (Qi rfl rfl h17 rfl (QO rfl h17 rfl rfl (Qe rfl rfl (Qf (Qc (Qh [14,13,5,4,0,7,51] rfl (QT rfl (Qr (Ql (Qc (Qd (Qa (Qb rfl rfl (Xg rfl rfl rfl (Qf (Qc (Qt rfl (fun h21=> ?_) (fun h21=> ?_))))))))))))))))))
  ·refine Qa (Qb rfl rfl (Qe rfl rfl (Qf (Ql (Qc (Qa (QK rfl rfl (by omega) (by omega) rfl ?_)))))))
   refine Qb rfl rfl (Qf ?_)
   exact Q4 (L1:=[(0,_),(4,intV um),(5,intV ((hd+(i:Int))%(l.length:Int))),(13,_),(14,intV ((i+1:Nat):Int))]) (Vp rfl rfl rfl rfl rfl) (k1:=l.length -(i+1)) (by omega) ⟨i+1,um,((hd+(i:Int))%(l.length:Int)),rfl,rfl,hS7.pick [1,2,3,4,5,6] rfl, by omega,hum,.inr ⟨by omega, by rw[hulk,hxu]⟩, fun e=> by omega⟩
  refine Qr (Ql (Qc (Qa (QK rfl rfl (by omega) (by omega) rfl ?_))))
  refine Qb rfl rfl (Qf ?_)
  exact Q4 (L1:=[(0,_),(4,intV um),(5,intV an),(13,_),(14,intV ((i+1:Nat):Int))]) (Vp rfl rfl rfl rfl rfl) (k1:=l.length -(i+1)) (by omega) ⟨i+1,um,an,rfl,rfl,hS7.pick [1,2,3,4,5,6] rfl, by omega,hum,han, fun e=> by omega⟩
 refine QR (Qq (Qq (Qy (Qc (Qd (Qd (Qa (Qb rfl rfl (JQ rfl rfl rfl (Qf (Qc (Qt rfl (fun h22=> ?_) (fun h22=> ?_)))))))))))))
 ·refine Qd (Qa (Qb rfl rfl (Qe rfl rfl (Qe rfl rfl (Qf (Qc (Qh [5,2,3] rfl (Qu (Qn (Wx (.inr rfl) rfl rfl rfl ?_))))))))))
  obtain⟨h0,h1⟩:=hum.resolve_left (by omega); exact⟨_,rfl,.inl ⟨um.toNat,h1, by rw[Int.toNat_of_nonneg h0],Zs (hul) (hl4) (hh0) (hh1) (hS1.pick [0,1,2,3,4,5] rfl)⟩⟩
 refine Qr (Qc (Qd (Qa (Qb rfl rfl (Ym rfl rfl rfl (Qb rfl rfl (JQ rfl rfl rfl (Qe rfl rfl (Qe rfl rfl (Qf (Qc (Qh [2,3] rfl (Qu (Wx (.inr rfl) rfl rfl rfl ?_))))))))))))))
 rcases han with han | ⟨ha0,ha1⟩
 ·exact⟨_,rfl,.inr ⟨clk_all hh0 (by rw[hul,List.length_map]; exact hh1) (fun j hj=>hall han j (by rw[hul,List.length_map]at hj;omega)), by subst han;rfl,Zs (hul) (hl4) (hh0) (hh1) (hS1.pick [0,1,2,3,4,5] rfl)⟩⟩
 ·exact⟨_,rfl,.inl ⟨an.toNat,ha1, by rw[Int.max_eq_left ha0,Xf (show an≥0 from ha0),Int.toNat_of_nonneg ha0],Zs (hul) (hl4) (hh0) (hh1) (hS1.pick [0,1,2,3,4,5] rfl)⟩⟩
theorem U8 {w:World} {p:Nat} {ul:List Bool} {hd:Int} {F:Th} (hS:Sat w [BK p ul hd,F]):
    Calls Tryz.prog 170 #[ptrV p 0] w (Ret fun v w'=>v= .tuple #[]∧Sat w' [BK p ul (if hd+1<(ul.length:Int)then hd+1 else 0),F]):= by
 obtain⟨ob,cap,l,b1,b2,b3,g1,g2,g3,hul,hl4,hh0,hh1,hS⟩:=JD hS
 obtain⟨x,hx⟩: ∃x,l[hd.toNat]? =some x:=⟨_,Zi (by omega)⟩
 refine Qo Tryz.func170 rfl Tryz.ntmps170 rfl ?_
 refine Qd ?_
 have hS1:=hS.drew
 refine QI [0,1,2,3,4,5,6,7,8,9,10] [10] Wq (by kernel_rfl) ?_
 refine QE rfl rfl rfl (Xj rfl rfl rfl (QS rfl rfl rfl ZP (Q8 rfl rfl rfl (Qm rfl Js (hS1.cell 0 rfl rfl)) (QE rfl rfl rfl (Xj rfl rfl rfl (QS rfl rfl rfl YX (Q8 rfl rfl rfl (Qm rfl QN (hS1.cell 0 rfl rfl)) (QZ rfl rfl rfl (fun _=>(JL hd.toNat rfl rfl (by omega) (by omega) Hf)) ?_))))))))
 refine QS rfl rfl rfl U2 (Xi rfl rfl rfl rfl rfl rfl ?_)
 refine JE 1 hd.toNat 1 {x with m:=false} hS1 rfl rfl rfl (by show 0+hd.toNat*4+1=hd.toNat*4+1;omega) rfl Oa hx rfl (by decide) rfl rfl ?_
 intro w2 hS2; dsimp only[List.set]at hS2
 clear hS1
 refine Z0 (Xu (by kernel_rfl)) ?_
 refine VC.nil (Qc (Qh [0] rfl (Qd (Qa (Qb rfl rfl (Qj rfl rfl (Qg rfl YX rfl (Qp rfl QN (hS2.cell 0 rfl rfl) rfl (QK rfl rfl (by omega) (by omega) rfl ?_)))))))))
 refine Qj rfl rfl (Qg rfl YX rfl ?_)
 first | (refine QJ hS2 rfl rfl Um (by rfl) (i:=0) rfl (Xn rfl) ?_)
 intro w3 hS4; dsimp only[List.set]at hS4
 clear hS2
 refine Qf (Qc (Qd (Qd ?_)))
 have hS5:=hS4.drew
 refine QI [0,1,2,3,4,5,6,7,8,9] [] Wq (by kernel_rfl) ?_
 refine QE rfl rfl rfl (Xj rfl rfl rfl (QS rfl rfl rfl YX (Q8 rfl rfl rfl (Qm rfl QN (hS5.cell 0 rfl rfl)) (QE rfl rfl rfl (Xj rfl rfl rfl (QS rfl rfl rfl ZP (Q8 rfl rfl rfl (Qm rfl Js (hS5.cell 0 rfl rfl)) (QZ rfl rfl rfl (fun _=>(Kv Tryz.underlying186 rfl)) ?_))))))))
 refine QZ rfl rfl rfl (fun _=>(CJ rfl rfl)) ?_
 refine VC.nil (Qc (Qh [0,29] rfl (Qt rfl (fun h6=> ?_) (fun h6=> ?_))))
 ·refine Qu (Qn (ZY (.inr rfl) rfl ?_))
  exact⟨_,rfl,rfl, by rw[if_pos (by rw[hul,List.length_map];omega)]; exact Zs (l:=l.set hd.toNat {x with m:=false}) (by rw[hul]; exact(Kx (y:={x with m:=false}) hx rfl).symm) (by rw[List.length_set]; exact hl4) (by omega) (by rw[List.length_set];omega) (hS5.pick [0,1,2,3,4,5] rfl)⟩
 refine Qr (Qc (Qd (Qa (Qb rfl rfl (Qj rfl rfl (Qg rfl YX rfl ?_))))))
 first | (refine QJ hS5 rfl rfl Um (by rfl) (i:=0) rfl (Xn rfl) ?_)
 intro w7 hS8; dsimp only[List.set]at hS8
 clear hS5
 refine Qf (Qc (Qd (Qd (Qa (Qb rfl rfl (Qj rfl rfl (Qg rfl ZP rfl (Qp rfl Js (hS8.cell 0 rfl rfl) rfl (XE Tryz.underlying186 rfl rfl (Qb rfl rfl (Qf (Qc (Qh [0,37,38] rfl (Qw ?_))))))))))))))
 have hSl:=hS8.pick [0,1,2,3,4,5] rfl
 have hls:(l.set hd.toNat {x with m:=false}).length=l.length:=List.length_set
 refine Xa (fun K0 E0 W0=> ∃(l2:List CkD) (i:Nat),K0=l.length -i∧E0=[(0,ptrV p 0),(37,intV (l2.length:Int)),(38,intV (i:Int))]∧Sat W0 [QG p [.slice (some ⟨ob,0,none⟩) l2.length cap,intV 0,.map (some b1),.map (some b2),.map (some b3)],rowT ckC (.slice (some ⟨ob,0,none⟩) l2.length cap) l2,Q0 QX b1 (gI g1),Q0 QX b2 (gI g2),Q0 QX b3 (gI g3),F]∧(i≤l.length)∧(l2.length=l.length)∧(l2.map CkD.u=ul)) (L0:=[(0,_),(37,_),(38,_)]) (l.length -0) (Cr rfl rfl rfl) ⟨l.set hd.toNat {x with m:=false},0,rfl,(by rw[hls];rfl), by rw[hls]; exact hSl, by omega,hls, by rw[Kx (y:={x with m:=false}) hx rfl]; exact hul.symm⟩ ?_
 rintro _ _ w9 ⟨l2,i,rfl,rfl,hS9,hi,hl2,hu2⟩
 refine Qd (Qa (Xg rfl rfl rfl (Qf (Qc (Qd (Qt rfl (fun h10=> ?_) (fun h10=> ?_)))))))
 ·obtain⟨x2,hx2⟩: ∃x,l2[i]? =some x:=⟨_,Zi (by omega)⟩
  refine Qr (Qc (Qd (Qw (Qd (Qa (Qb rfl rfl (Qe rfl rfl (Qf (Qc (Qa (Qb rfl rfl (Qj rfl rfl (Qg rfl ZP rfl (Qp rfl Js (hS9.cell 0 rfl rfl) rfl (Qb rfl rfl (Xr ckC 1 i hS9 rfl rfl rfl (by rfl) hx2 Hf rfl ?_))))))))))))))))
  intro bx11 capx11 hvx11
  refine Qg rfl Mu rfl (JE 1 i 2 {x2 with t:=false} hS9 rfl hvx11 rfl rfl rfl Oa hx2 rfl (by decide) rfl (by rfl) ?_)
  intro w12 hS13; dsimp only[List.set]at hS13
  clear hS9
  refine Qf (Ql (Qc (Qh [38,37,0] rfl (Qa (QK rfl rfl (by omega) (by omega) rfl ?_)))))
  refine Qb rfl rfl (Qf ?_)
  have hSz:=hS13.pick [0,1,2,3,4,5] rfl
  exact Q4 (L1:=[(0,_),(37,intV ((l2.set i {x2 with t:=false}).length:Int)),(38,intV ((i+1:Nat):Int))]) (by rw[List.length_set]; exact(Cr rfl rfl rfl)) (k1:=l.length -(i+1)) (by omega) ⟨l2.set i {x2 with t:=false},i+1,rfl,rfl, by rw[List.length_set]; exact hSz, by omega, by rw[List.length_set]; exact hl2, by rw[Kx (y:={x2 with t:=false}) hx2 rfl]; exact hu2⟩
 refine QR (Qq (Qq (Qy (Qc (Qd ?_)))))
 have hS14:=hS9.drew
 refine QI [0,1,2,3,4,5,6,7,8,9,10,11,12,13,14,15] [12,15] Wq (by kernel_rfl) ?_
 refine QE rfl rfl rfl (QE rfl rfl rfl (QE rfl rfl rfl (Xj rfl rfl rfl (QS rfl rfl rfl Mw (Q8 rfl rfl rfl (Qm rfl Jt (hS14.cell 0 rfl rfl)) (QE rfl rfl rfl (Xj rfl rfl rfl (QS rfl rfl rfl VI (Q8 rfl rfl rfl (Qm rfl Jt (hS14.cell 0 rfl rfl)) (Xj rfl rfl rfl (QS rfl rfl rfl VI (Xi rfl rfl rfl rfl rfl rfl ?_))))))))))))
 first | (refine QJ hS14 rfl rfl Oc (by rfl) (i:=0) rfl (Xn rfl) ?_)
 intro w15 hS16; dsimp only[List.set]at hS16
 clear hS14
 refine Z0 (Xu (by kernel_rfl)) ?_
 refine Xj rfl rfl rfl (QS rfl rfl rfl Mw (Xi rfl rfl rfl rfl rfl rfl ?_))
 first | (refine QJ hS16 rfl rfl Oc (by rfl) (i:=0) rfl (Xn rfl) ?_)
 intro w17 hS18; dsimp only[List.set]at hS18
 clear hS16
 refine Z0 (Xu (by kernel_rfl)) ?_
 refine VC.nil (Qc (Qh [0] rfl (Qa (Qb rfl rfl (Qj rfl rfl (Qg rfl VI rfl (Qp rfl Jt (hS18.cell 0 rfl rfl) rfl (LZ 4 hS18 Tryz.underlying109 rfl rfl rfl ?_))))))))
 intro w19 hS19; dsimp only[List.set]at hS19; rw[RO]at hS19
 clear hS18
 refine Qf (ZY (.inl rfl) rfl ?_)
 exact⟨_,rfl,rfl, by rw[if_neg (by rw[hul,List.length_map];omega)]; exact Zs hu2.symm (by omega) (by omega) (by omega) (hS19.pick [0,1,2,4,3,5] rfl)⟩
theorem Ay {w:World} {p:Nat} {ul:List Bool} {F:Th} (hS:Sat w [Cg p ul,F]):
    Calls Tryz.prog 119 #[ptrV p 0] w (Ret fun v w'=>(∃k:Nat,ul[k]? =some true∧v= .tuple #[intV (k:Int),.bool true]∧Sat w' [Cg p ul,F])∨((∀x∈ul,x=false)∧v= .tuple #[intV 0,.bool false]∧Sat w' [Cg p ul,F])):= by
 obtain⟨hd,hS⟩:=hS.ex
 refine Qo Tryz.func119 rfl Tryz.ntmps119 rfl ?_
 refine Qd (Qa (Qe rfl rfl (Qe rfl rfl (Qf (Qc (Qd (Qa (Qb rfl rfl (Zf cal_169 rfl (PW (hS.sp [0] rfl)) rfl ?_)))))))))
 rintro e w1 ⟨_,rfl,(⟨k,hk,rfl,hS1⟩ | ⟨hno,rfl,hS1⟩)⟩
 ·refine⟨_,rfl, ?_⟩
  replace hS1:=hS1.jn rfl rfl
  refine Qb rfl rfl (Qs rfl rfl rfl (Qs rfl rfl rfl (Qe rfl rfl (Qe rfl rfl (Qf (Qc (Qd (Qd (Qa (Qb rfl rfl (QQ rfl rfl (Qf (Qc (Qh [0,2,3,4,12] rfl (QL rfl (fun h2=> ?_) (fun h2=> ?_))))))))))))))))
  ·exact absurd h2 (by simp)
  refine Qr (Qc (Qd (Qd ?_)))
  obtain⟨ob,cap,l,b1,b2,b3,g1,g2,g3,hul,hl4,hh0,hh1,hSo⟩:=JD (hS1.pick [0,1] rfl)
  have hull:ul.length=l.length:= by rw[hul,List.length_map]
  obtain⟨x,hx⟩: ∃x,l[k]? =some x:=⟨_,Zi (by have :=(XW hk).1;omega)⟩
  refine Qa (Qb rfl rfl (Qj rfl rfl (Qg rfl ZP rfl (Qp rfl Js (hSo.cell 0 rfl rfl) rfl (Qb rfl rfl (Xr ckC 1 k hSo rfl rfl rfl (by rfl) hx Hf rfl ?_))))))
  intro bx3 capx3 hvx3
  refine Qg rfl U2 rfl (Zx 1 k 1 hSo rfl hvx3 rfl rfl hx MP rfl rfl (Qf (Qc (Qh [0,2,3,4,20] rfl (QL rfl (fun h4=> ?_) (fun h4=> ?_))))))
  ·refine Qd (Qa (Qb rfl rfl (Qj rfl rfl (Qg rfl ZP rfl (Qp rfl Js (hSo.cell 0 rfl rfl) rfl (XE Tryz.underlying186 rfl rfl (Qb rfl rfl (Qf (Qc (Qh [0,2,3,4,25,26] rfl (Qw ?_)))))))))))
   have hS5:=Zs (hul) (hl4) (hh0) (hh1) (hSo.pick [0,1,2,3,4,5] rfl)
   refine Xa (fun K0 E0 W0=> ∃(i:Nat) (h:Int),K0=ul.length -i∧E0=[(0,ptrV p 0),(4,intV (k:Int)),(25,intV (ul.length:Int)),(26,intV (i:Int))]∧Sat W0 [BK p ul h,F]∧(i≤ul.length)) (L0:=[(0,_),(4,_),(25,_),(26,_)]) (ul.length -0) (Vl rfl rfl rfl rfl) ⟨0,hd,rfl,(by rw[hull];rfl),hS5, by omega⟩ ?_
   rintro _ _ w6 ⟨i,h,rfl,rfl,hS6,hi⟩
   refine Qd (Qa (Xg rfl rfl rfl (Qf (Qc (Qd (Qt rfl (fun h7=> ?_) (fun h7=> ?_)))))))
   ·refine Qr (Qc (Qd (Qw (Qa (Qb rfl rfl (Qv Gi rfl (U8 (hS6.sp [0] rfl)) rfl ?_))))))
    rintro _ w8 ⟨rfl,hS8⟩
    replace hS8:=hS8.jn rfl rfl
    clear hS6
    refine Qf (Ql (Qc (Qa (QK rfl rfl (by omega) (by omega) rfl ?_))))
    refine Qb rfl rfl (Qf ?_)
    exact Q4 (L1:=[(0,_),(4,_),(25,_),(26,intV ((i+1:Nat):Int))]) (Vl rfl rfl rfl rfl) (k1:=ul.length -(i+1)) (by omega) ⟨i+1,_,rfl,rfl,hS8.pick [0,1] rfl, by omega⟩
   refine QR (Qq (Qq (Qy (Qc (Qd (Qw ?_))))))
   obtain⟨hh,hhe⟩: ∃x:Int,x=h:=⟨_,rfl⟩
   rw[←hhe]at hS6
   refine Xa (fun K0 E0 W0=> ∃(h:Int),K0=(if h≤(k:Int)then(k:Int) -h else(ul.length:Int) -h+k).toNat∧E0=[(0,ptrV p 0),(4,intV (k:Int))]∧Sat W0 [BK p ul h,F]) (L0:=[(0,_),(4,_)]) ((if hh≤(k:Int)then(k:Int) -hh else(ul.length:Int) -hh+k).toNat) (BD rfl rfl) ⟨_,rfl,rfl,hS6⟩ ?_
   rintro _ _ w9 ⟨h,rfl,rfl,hS9⟩
   refine Qd (Qd ?_)
   obtain⟨ob3,cap3,l3,b13,b23,b33,g13,g23,g33,hul3,hl43,hh03,hh13,hSo10⟩:=JD (hS9.pick [0,1] rfl)
   have hull3:ul.length=l3.length:= by rw[hul3,List.length_map]
   refine Qa (Qb rfl rfl (Qj rfl rfl (Qg rfl YX rfl (Qp rfl QN (hSo10.cell 0 rfl rfl) rfl (Qb rfl rfl (X0 rfl rfl rfl (Qf ?_)))))))
   have hS11:=Zs hul3 hl43 hh03 hh13 (hSo10.pick [0,1,2,3,4,5] rfl)
   refine Qc (Qt rfl (fun h12=> ?_) (fun h12=> ?_))
   ·refine Qr (Qc (Qw (Qa (Qb rfl rfl (Qv Gi rfl (U8 (hS11.sp [0] rfl)) rfl ?_)))))
    rintro _ w13 ⟨rfl,hS13⟩
    replace hS13:=hS13.jn rfl rfl
    clear hS11
    refine Qf (Ql ?_)
    have hkn:=(XW hk).1
    exact Q4 (L1:=[(0,_),(4,_)]) (BD rfl rfl) (k1:=(if(if h+1<(ul.length:Int)then h+1 else 0)≤(k:Int)then(k:Int) -(if h+1<(ul.length:Int)then h+1 else 0)else(ul.length:Int) -(if h+1<(ul.length:Int)then h+1 else 0)+k).toNat) (by split<;>split<;>split<;>omega) ⟨_,rfl,rfl,hS13.pick [0,1] rfl⟩
   refine QR (Qq (Qq (Qy (Qc (Qd (Qa (Qb rfl rfl (Qv Gi rfl (U8 (hS11.sp [0] rfl)) rfl ?_))))))))
   rintro _ w14 ⟨rfl,hS14⟩
   replace hS14:=hS14.jn rfl rfl
   clear hS11
   exact Qf (Qc (Qd (Qa (Qb rfl rfl (Qe rfl rfl (Qe rfl rfl (Qf (Qc (Qh [2,3] rfl (Qu (Wx (.inr rfl) rfl rfl rfl (⟨_,rfl,.inl ⟨k,hk,rfl,Sat.ex_intro (f:= fun h:Int=>BK p ul h) _ (hS14.pick [0,1] rfl)⟩⟩))))))))))))
  refine Qr (Qc (Qd (Qw ?_)))
  have hS15:=Zs (hul) (hl4) (hh0) (hh1) (hSo.pick [0,1,2,3,4,5] rfl)
  obtain⟨hh,hhe⟩: ∃x:Int,x=hd:=⟨_,rfl⟩
  rw[←hhe]at hS15
  refine Xa (fun K0 E0 W0=> ∃(h:Int),K0=(if h≤(k:Int)then(k:Int) -h else(ul.length:Int) -h+k).toNat∧E0=[(0,ptrV p 0),(4,intV (k:Int))]∧Sat W0 [BK p ul h,F]) (L0:=[(0,_),(4,_)]) ((if hh≤(k:Int)then(k:Int) -hh else(ul.length:Int) -hh+k).toNat) (BD rfl rfl) ⟨_,rfl,rfl,hS15⟩ ?_
  rintro _ _ w16 ⟨h,rfl,rfl,hS16⟩
  refine Qd (Qd ?_)
  obtain⟨ob3,cap3,l3,b13,b23,b33,g13,g23,g33,hul3,hl43,hh03,hh13,hSo17⟩:=JD (hS16.pick [0,1] rfl)
  have hull3:ul.length=l3.length:= by rw[hul3,List.length_map]
  refine Qa (Qb rfl rfl (Qj rfl rfl (Qg rfl YX rfl (Qp rfl QN (hSo17.cell 0 rfl rfl) rfl (Qb rfl rfl (X0 rfl rfl rfl (Qf ?_)))))))
  have hS18:=Zs hul3 hl43 hh03 hh13 (hSo17.pick [0,1,2,3,4,5] rfl)
  refine Qc (Qt rfl (fun h19=> ?_) (fun h19=> ?_))
  ·refine Qr (Qc (Qw (Qa (Qb rfl rfl (Qv Gi rfl (U8 (hS18.sp [0] rfl)) rfl ?_)))))
   rintro _ w20 ⟨rfl,hS20⟩
   replace hS20:=hS20.jn rfl rfl
   clear hS18
   refine Qf (Ql ?_)
   have hkn:=(XW hk).1
   exact Q4 (L1:=[(0,_),(4,_)]) (BD rfl rfl) (k1:=(if(if h+1<(ul.length:Int)then h+1 else 0)≤(k:Int)then(k:Int) -(if h+1<(ul.length:Int)then h+1 else 0)else(ul.length:Int) -(if h+1<(ul.length:Int)then h+1 else 0)+k).toNat) (by split<;>split<;>split<;>omega) ⟨_,rfl,rfl,hS20.pick [0,1] rfl⟩
  refine QR (Qq (Qq (Qy (Qc (Qd (Qa (Qb rfl rfl (Qv Gi rfl (U8 (hS18.sp [0] rfl)) rfl ?_))))))))
  rintro _ w21 ⟨rfl,hS21⟩
  replace hS21:=hS21.jn rfl rfl
  clear hS18
  exact Qf (Qc (Qd (Qa (Qb rfl rfl (Qe rfl rfl (Qe rfl rfl (Qf (Qc (Qh [2,3] rfl (Qu (Wx (.inr rfl) rfl rfl rfl (⟨_,rfl,.inl ⟨k,hk,rfl,Sat.ex_intro (f:= fun h:Int=>BK p ul h) _ (hS21.pick [0,1] rfl)⟩⟩))))))))))))
 refine⟨_,rfl, ?_⟩
 replace hS1:=hS1.jn rfl rfl
 refine Qb rfl rfl (Qs rfl rfl rfl (Qs rfl rfl rfl (Qe rfl rfl (Qe rfl rfl (Qf (Qc (Qd (Qd (Qa (Qb rfl rfl (QQ rfl rfl (Qf (Qc (Qh [0,2,3,4,12] rfl (QL rfl (fun h22=> ?_) (fun h22=> ?_))))))))))))))))
 ·exact Qd (Qa (Qe rfl rfl (Qe rfl rfl (Qf (Qc (Qu (Qn (Wx (.inr rfl) rfl rfl rfl (⟨_,rfl,.inr ⟨hno,rfl,Sat.ex_intro (f:= fun h:Int=>BK p ul h) _ (hS1.pick [0,1] rfl)⟩⟩)))))))))
 exact absurd h22 (by simp)
theorem ckgoneT {w:World} {p:Nat} {ul:List Bool} {F:Th} (hS:Sat w [Cg p ul,F]) (f:Int) (hf:0≤f∧f<(ul.length:Int)):
    Calls Tryz.prog 186 #[ptrV p 0,intV f] w (Ret fun v w'=>v= .tuple #[]∧Sat w' [Cg p (ul.set f.toNat false),F]):= by
  obtain⟨hd,hS⟩:=hS.ex
  exact(Ba hS f hf).mono fun e w1 h=>h.mono fun v w2 ⟨h1,h2⟩=>⟨h1,Sat.ex_intro (f:= fun h:Int=>BK p (ul.set f.toNat false) h) hd h2⟩
theorem qax {w:World} {p:Nat} {ul:List Bool} {F:Th} (hS:Sat w [Cg p ul,F]) (f:Int) (hf:0≤f∧f<(ul.length:Int)) (owner:Int):
    Calls Tryz.prog 188 #[ptrV p 0,intV f,intV owner] w (Ret fun v w'=>v= .tuple #[]∧Sat w' [Cg p (ul.set f.toNat true),F]):= by
  obtain⟨hd,hS⟩:=hS.ex
  exact(qaw hS f hf owner).mono fun e w1 h=>h.mono fun v w2 ⟨h1,h2⟩=>⟨h1,Sat.ex_intro (f:= fun h:Int=>BK p (ul.set f.toNat true) h) hd h2⟩
theorem ckrow {Z:List Value} (hZ:Z=ckC.enc ⟨false,false,false,0⟩) (m:Nat):(List.replicate m Z).flatten=ckC.cells (List.replicate m ⟨false,false,false,0⟩):= by
  subst hZ
  induction m with
  | zero=>rfl
  | succ m ih=> rw[List.replicate_succ,List.flatten_cons,ih,List.replicate_succ];rfl
theorem qay {w:World} {F:Th} (hS:Sat w [F]) (n:Int) (hn:1≤n):
    Calls Tryz.prog 59 #[intV n] w (Ret fun v w'=> ∃p,v=ptrV p 0∧Sat w' [Cg p (List.replicate (min (max n 0) 4096).toNat false),F]):= by
 refine Qo Tryz.func59 rfl Tryz.ntmps59 rfl ?_
 refine Qd (Qa (Qe rfl rfl (Qf (Qc (Qd (Qa (Qb rfl rfl (Ym rfl rfl rfl (HZ rfl rfl rfl (Ry hS (min (max n 0) 4096).toNat rfl rfl (by omega) Tryz.underlying186 ifo_199 rfl (by omega) (by omega) rfl ?_))))))))))
 intro db w1 hS1a; have hS1:=hS1a.row_cast (l:=List.replicate (min (max n 0) 4096).toNat ⟨false,false,false,0⟩) (C:=ckC) (by simp) rfl (ckrow rfl _)
 refine Za QX hS1 rfl ?_
 intro mb1 w2 hS2; rw[RO]at hS2
 clear hS1
 refine Za QX hS2 rfl ?_
 intro mb2 w3 hS3; rw[RO]at hS3
 clear hS2
 refine Za QX hS3 rfl ?_
 intro mb3 w4 hS4; rw[RO]at hS4
 clear hS3
 refine Zn rfl Ma asz_188 zr_188 rfl rfl (XX hS4 rfl rfl rfl ?_)
 intro bp wbp hSbp
 clear hS4
 refine Qe rfl rfl (Qf (Qc (Qh [2] rfl (Qu (QP (.inr rfl) rfl rfl ?_)))))
 exact⟨_,rfl,_,rfl,Sat.ex_intro (f:= fun h:Int=>BK bp _ h) 0 (Zs (l:=List.replicate (min (max n 0) 4096).toNat ⟨false,false,false,0⟩) (by rw[List.map_replicate]) (by rw[List.length_replicate];omega) (by omega) (by rw[List.length_replicate];omega) (hSbp.pick [0,4,3,2,1,5] rfl))⟩
end Go.Proofs.YtkcjfoaejijdoaaGreatDoor
namespace Go.Proofs.YtkcjfoaejijdoaaGreatDoor.M
open Go.RowKit Go.Sort
def J5 (l:List Int):List Int:=l.mergeSort fun x y=>decide (x≤y)
theorem DI (l:List Int):(J5 l).Perm l:=List.mergeSort_perm _ _
theorem H3 (l:List Int):(J5 l).length=l.length:=(DI l).length_eq
theorem MZ (d xs:List Int) (sp:List Value) (h:d.length=xs.length):(putCells (Value.int .i64) 0 d.toArray (xs.map intV++sp).toArray)=(d.map intV++sp).toArray:= by
  apply Array.ext_getElem?
  intro k
  unfold putCells
  simp only[Array.getElem?_mapIdx,List.getElem?_toArray,Nat.zero_le,true_and,Nat.zero_add,Nat.sub_zero,List.size_toArray]
  by_cases hk:k<d.length
  · rw[List.getElem?_append_left (by simpa [←h]using hk),List.getElem?_append_left (by simpa using hk)]
    simp [hk,h▸hk,intV]
  · rw[List.getElem?_append_right (by simp;omega),List.getElem?_append_right (by simp;omega)]
    have hk': ¬k<xs.length:= by omega
    simp only[List.length_map,h,hk',if_false,Option.map_id']
theorem PX {P:Program} {f:Nat}
    (hsome: ∀(blk off cap:Nat) (ss:List Int) (w:World),Holds (Value.int .i64) w blk off ss.toArray→blk<w.heap.size→ss.length<4611686018427387904→Calls P f #[.slice (some ⟨blk,off,none⟩) ss.length cap] w fun e w'=>e= .returned (.tuple #[])∧ ∃n os,w'=grow (putRow (Value.int .i64) (Go.Sort.ahead w n) blk off (ss.mergeSort fun x y=>decide (x≤y)).toArray) os)
    (hnone: ∀(p:Option Addr) (cap:Nat) (w:World),Calls P f #[.slice p 0 cap] w fun e w'=>e= .returned (.tuple #[])∧w'=w)
    {w:World} {v:Value} {l:List Int} {As:List Th} (hS:Sat w (rowT inC v l::As)) (hl:l.length<4611686018427387904):Calls P f #[v] w (Ret fun u w'=>u= .tuple #[]∧Sat w' (rowT inC v (J5 l)::As)):= by
  obtain⟨foot,hlen,h⟩:=hS.own 0 rfl
  rcases h with⟨rfl,hn,hf⟩ | ⟨b,cap,sp,rfl,hcap,hb,hsz,hf⟩
  · have :l=[]:=List.eq_nil_of_length_eq_zero hn
    subst this
    exact(hnone none 0 w).mono fun e w' ⟨h1,h2⟩=>⟨_,h1,rfl, by rw[h2];simpa [J5]using hS⟩
  · have hH:Holds (Value.int .i64) w b 0 l.toArray:= fun j hj=> by
      have hj':j<l.length:= by simpa using hj
      rw[Rg]at hb
      refine⟨?_, ?_⟩
      · rw[Nat.zero_add]
        refine hb.cell ?_
        rw[List.getElem?_append_left (by simpa using hj')]
        simp [hj',intV]
      · exact hb.free _ (by simp;omega)
    refine(hsome b 0 cap l w hH hb.lt hl).mono fun e w' ⟨h1,n,os,h2⟩=>⟨_,h1,rfl, ?_⟩
    have hlt:=hb.lt
    have hheap: ∀k,k<w.heap.size→k≠b→w'.heap[k]? =w.heap[k]? := fun k hk hne=> by
      rw[h2,heap_grow_old _ _ (by simpa using hk)]
      simp only[putRow,mapBlock,heap_ahead,Array.getElem?_modify]
      rw[if_neg (fun q=>hne q.symm)]
    obtain⟨T,lo,hi,hc,hfz⟩:=hb
    have hnew:w'.heap[b]? =some (.cells ((J5 l).map intV++sp).toArray T (lo,hi)):= by
      rw[h2,heap_grow_old _ _ (by simpa using hlt)]
      simp only[putRow,mapBlock,heap_ahead,Array.getElem?_modify,if_pos,hc,Option.map_some,onCells,Rg]
      rw[show(l.mergeSort fun x y=>decide (x≤y))=J5 l from rfl,MZ _ _ _ (H3 l)]
    have ho:Only [b] w w':= by
      refine⟨?_, ?_, ?_, ?_, fun k hk hn=>hheap k hk (by simpa using hn)⟩
      · rw[h2];rfl
      · rw[h2];rfl
      · rw[h2];rfl
      · rw[h2]; simp
    have hfin:=hS.own_set (w':=w') 0 rfl (v':= .slice (some ⟨b,0,none⟩) l.length cap) (n':=l.length) (size':=1) (xs':=inC.cells (J5 l)) (fun foot' g=> by
      obtain⟨_,g⟩:=g
      rcases g with⟨g0,_⟩ | ⟨b',cap',sp',g0,g1,g2,g3,g4⟩
      · cases g0
      · simp only[Value.slice.injEq,Option.some.injEq,Addr.mk.injEq,and_true,true_and]at g0
        obtain⟨rfl,rfl⟩:=g0
        refine⟨[b],⟨?_,.inr ⟨b,cap,sp,rfl,hcap,⟨T,lo,hi, ?_, ?_⟩, ?_,rfl⟩⟩, ?_, ?_⟩
        · rw[inC.cells_len,H3];rfl
        · rw[Rg]; exact hnew
        · rcases hfz with q | q
          · exact .inl q
          · refine .inr ?_
            simp only[List.length_append,inC.cells_len,H3]at q⊢; exact q
        · simp only[List.length_append,inC.cells_len,H3]at hsz⊢; exact hsz
        · rw[g4]; exact ho
        · rw[g4]; intro k hk; exact .inl hk)
    have e:(J5 l).length=l.length:=H3 l
    show Sat w' (WQ _ (J5 l).length 1 _::As)
    rw[e]; exact hfin
end Go.Proofs.YtkcjfoaejijdoaaGreatDoor.M
