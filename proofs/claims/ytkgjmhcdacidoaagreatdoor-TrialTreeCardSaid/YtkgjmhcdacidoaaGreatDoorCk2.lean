/- reclaim: victim, pass -/
import Derived.Test.YtkgjmhcdacidoaaGreatDoorCk1
import Derived.Test.YtkgjmhcdacidoaaGreatDoorRow
import Derived.Test.YtkgjmhcdacidoaaGreatDoorFw
set_option linter.unusedVariables false
set_option maxRecDepth 100000
set_option maxHeartbeats 80000000000
namespace Go.Proofs.YtkgjmhcdacidoaaGreatDoor
open Go.RowKit M Proofs.Tryz
def okK (ul:List Bool) (n:Int):Prop:=n= -1∨(0≤n∧ul[n.toNat]? =some true)
theorem clk_all {ul:List Bool} {hd:Int} (h0:0≤hd) (h1:hd<ul.length) (h: ∀j:Nat,j<ul.length→ul[((hd+(j:Int))%(ul.length:Int)).toNat]? =some false): ∀x∈ul,x=false:= by
  intro x hx
  obtain⟨k,hk⟩:=List.mem_iff_getElem?.1 hx
  have hkl:=(XL hk).1
  have h5:=Int.emod_lt_of_pos ((k:Int) -hd) (show(0:Int)<ul.length by omega)
  have h6:=Int.emod_nonneg ((k:Int) -hd) (show(ul.length:Int)≠0 by omega)
  have hj:=h (((k:Int) -hd)%(ul.length:Int)).toNat (by omega)
  have e:((hd+(((((k:Int) -hd)%(ul.length:Int)).toNat:Nat):Int))%(ul.length:Int)).toNat=k:= by
    rw[Int.toNat_of_nonneg h6,Int.add_emod_emod, show hd+((k:Int) -hd)=(k:Int) by omega,Int.emod_eq_of_lt (by omega) (by omega)];omega
  rw[e,hk]at hj
  exact Option.some.inj hj
theorem Co {w:World} {p:Nat} {ul:List Bool} {hd:Int} {F:Th} (hS:Sat w [RU p ul hd,F]):
    Calls prog 205 #[ptrV p 0] w (Ret fun v w'=>(∃k:Nat,ul[k]? =some true∧v= .tuple #[intV (k:Int),.bool true]∧Sat w' [RU p ul hd,F])∨((∀x∈ul,x=false)∧v= .tuple #[intV 0,.bool false]∧Sat w' [RU p ul hd,F])):= by
 obtain⟨ob,cap,l,b1,b2,b3,g1,g2,g3,hul,hl4,hh0,hh1,hS⟩:=Jc hS
 refine Qn func205 U ntmps205 U ?_
 refine Qe (Qa (Qd U U (Qd U U (Qf (Qc (Qe (Qa (Qd U U (Qd U U (Qf (Qc (Qe (Qe (Qa (Qb U U (Qi U U (Qg U ZA U (Qo U WM (by first | assumption | exact hS.cell 0 U U) U ?_))))))))))))))))))
 first | refine XB underlying149 U U ?_ | refine Xo 1 hS underlying149 U U U ?_
 refine Qb U U (Qf (Qc (Qh [0,2,3,4,5,13,14] U (Qw ?_))))
 refine Xe (fun K0 E0 W0=> ∃(i:Nat) (um an:Int),K0=l.length -i∧E0=[(0,ptrV p 0),(4,intV um),(5,intV an),(13,intV (l.length:Int)),(14,intV (i:Int))]∧Sat W0 [QE p [.slice (some ⟨ob,0,none⟩) l.length cap,intV hd,.map (some b1),.map (some b2),.map (some b3)],rowT ckC (.slice (some ⟨ob,0,none⟩) l.length cap) l,Q6 QX b1 (gI g1),Q6 QX b2 (gI g2),Q6 QX b3 (gI g3),F]∧(i≤l.length)∧(okK ul um)∧(okK ul an)∧(an= -1→ ∀j:Nat,j<i→ul[((hd+(j:Int))%(ul.length:Int)).toNat]? =some false)) (L0:=[(0,_),(4,_),(5,_),(13,_),(14,_)]) (l.length -0) (Ym U U U U U) ⟨0, -1, -1,rfl,rfl,hS, by omega,.inl U,.inl U, fun _ j hj=> by omega⟩ ?_
 rintro _ _ w1 ⟨i,um,an,rfl,rfl,j1,hi,hum,han,hall⟩
 refine Qe (Qa (Xn U U U (Qf (Qc (Qe (Qt U (fun h2=> ?_) (fun h2=> ?_)))))))
 ·refine Qs (Qc (Qe (Qw (Qe (Qa (Qb U U (Qd U U (Qf (Qc (Qe ?_))))))))))
  have j3:=j1.drew
  refine QH [0,1,2,3,4,5,6,7,8,9,10,11,12] [] ZW (by kernel_rfl) ?_
  refine QJ U U U (Xd U U U (QP U U U Yu (Q3 U U U (Qm U QM (by first | assumption | exact j3.cell 0 U U)) ?_)))
  refine QJ U U U (Xh U U U (fun _=>(VN U U (by omega) (by omega))) ?_)
  refine QJ U U U (Xd U U U (QP U U U ZA (Q3 U U U (Qm U WM (by first | assumption | exact j3.cell 0 U U)) ?_)))
  refine Xh U U U (fun _=>(UZ underlying149 U)) ?_
  refine Xh U U U (fun _=>(Mz U U (by omega) (by omega))) ?_
  refine Zo U U U (VC.nil ?_)
  have hm1:0≤((hd+(i:Int))%(l.length:Int)):=Int.emod_nonneg _ (by omega)
  have hm2:((hd+(i:Int))%(l.length:Int))<(l.length:Int):=Int.emod_lt_of_pos _ (by omega)
  obtain⟨x,hx⟩: ∃x,l[((hd+(i:Int))%(l.length:Int)).toNat]? =some x:=⟨_,Zd (by omega)⟩
  have hulk:ul[((hd+(i:Int))%(l.length:Int)).toNat]? =some x.u:= by rw[hul]; exact ck_u hx
  have hulx:ul[((hd+(i:Int))%(ul.length:Int)).toNat]? =some x.u:= by rw[show(ul.length:Int)=(l.length:Int) by rw[hul,List.length_map]]; exact hulk
  refine Qc (Qh [14,13,5,4,0,7] U (Qe (Qa (Qb U U (Qi U U (Qg U ZA U (Qo U WM (by first | assumption | exact j3.cell 0 U U) U ?_)))))))
  refine Qb U U (Xg ckC 1 ((hd+(i:Int))%(l.length:Int)).toNat j3 U U U (by rw[Int.toNat_of_nonneg hm1]) hx Y2 U ?_)
  intro bx4 capx4 hvx4
  refine ZG 1 ((hd+(i:Int))%(l.length:Int)).toNat j3 U hvx4 U hx Af HT U U (Xa j3 G3 U U ?_)
  intro b5 w5 j5
  first | (refine Q9 j5 U U HT U (by first | rfl | (simp [QV,Value.oneCell'];done) | assumption | exact hone) (i:=0) U (by first | decide | exact Q7 U | (simp;done) | omega) ?_) | (refine Q9 j5 U U HT U (by first | rfl | (simp [QV,Value.oneCell'];done) | assumption | exact hone) (i:=1) U (by first | decide | exact Q7 U | (simp;done) | omega) ?_)
  intro w6 j7; dsimp only[List.set]at j7
  refine Qf (Qc (Qh [14,13,5,4,0,7,8] U (Qe (Qw (Qe (Qa (Qg U K2 U (Qo U VU (by first | assumption | exact j7.cell 0 U U | exact j7.cell 1 U U) U ?_))))))))
  refine QU U U (Qd U U (Qf (Qc (Qh [14,13,5,4,0,7,8,36] U (QS U (fun h8=> ?_) (fun h8=> ?_))))))
  ·have hxu:x.u=false:= by simpa using h8
   refine QT (Vu U (Qq (Qy (Qc (Qa (QK U U (by omega) (by omega) U ?_))))))
   refine Qb U U (Qf ?_)
   exact Q5 (L1:=[(0,_),(4,intV um),(5,intV an),(13,_),(14,intV ((i+1:Nat):Int))]) (Ym U U U U U) (k1:=l.length -(i+1)) (by omega) ⟨i+1,um,an,rfl,rfl,j7.pick [1,2,3,4,5,6] U, by omega,hum,han, fun e j hj=> by by_cases q:j=i;(subst q; rw[hulx,hxu]); exact hall e j (by omega)⟩
  have hxu:x.u=true:= by simpa using h8
  refine Qe (Qa (Qg U H9 U (Qo U VU (by first | assumption | exact j7.cell 0 U U | exact j7.cell 1 U U) U ?_)))
  refine QU U U (Qb U U (Xw 44 U (fun h9=> ?_) (fun h9=> ?_)))
  ·refine Qj U U h9 (Qb U U (Qj U U h9 (Qg U K1 U (Qj U U h9 (Qo U QM (by first | assumption | exact j7.cell 0 U U | exact j7.cell 1 U U) U ?_)))))
   refine Qj U U h9 (Q0 cal_214 U (Fg (j7.sp [1,2,3,4,5] U) x.o) U ?_)
   rintro _ w10 ⟨g0,rfl,j10⟩
   replace j10:=j10.jn U U
   refine QN U h9 U U (Qd U U (Qf (Qc (Qh [14,13,5,4,0,7,8,40] U (QS U (fun h11=> ?_) (fun h11=> ?_))))))
   ·exact Qe (Qa (Qb U U (Qd U U (Qd U U (Qf (Qc (Qh [14,13,5,4,0,7,2,3] U (Qv (Q1 (Qr (Q1 (Qr (Qr (Q1 (Qr (Jm (.inr U) U U U (⟨_,rfl,.inl ⟨((hd+(i:Int))%(l.length:Int)).toNat, by rw[hulk,hxu], by rw[Int.toNat_of_nonneg hm1],Zi (hul) (hl4) (hh0) (hh1) (j10.pick [0,1,2,3,4,6] U)⟩⟩)))))))))))))))))
   refine Qe (Qa (Qg U H9 U (Qo U VU (by first | assumption | exact j10.cell 0 U U | exact j10.cell 5 U U) U ?_)))
   refine QU U U (Qb U U (Xw 55 U (fun h12=> ?_) (fun h12=> ?_)))
   ·refine Qj U U h12 (Qb U U (Qj U U h12 (Xn U U U (QN U h12 U U (Qd U U (Qf (Qc (Qh [14,13,5,4,0,7,51] U (Qt U (fun h13=> ?_) (fun h13=> ?_))))))))))
    ·refine Qa (Qb U U (Qd U U (Qf (Ql (Qc (Qe (Qa (Qb U U (Xn U U U (Qf (Qc (Qt U (fun h14=> ?_) (fun h14=> ?_)))))))))))))
     ·refine Qa (Qb U U (Qd U U (Qf (Ql (Qc (Qh [14,13,0,4,5] U (Qa (QK U U (by omega) (by omega) U ?_))))))))
      refine Qb U U (Qf ?_)
      exact Q5 (L1:=[(0,_),(4,intV ((hd+(i:Int))%(l.length:Int))),(5,intV ((hd+(i:Int))%(l.length:Int))),(13,_),(14,intV ((i+1:Nat):Int))]) (Ym U U U U U) (k1:=l.length -(i+1)) (by omega) ⟨i+1,((hd+(i:Int))%(l.length:Int)),((hd+(i:Int))%(l.length:Int)),rfl,rfl,j10.pick [0,1,2,3,4,6] U, by omega,.inr ⟨by omega, by rw[hulk,hxu]⟩,.inr ⟨by omega, by rw[hulk,hxu]⟩, fun e=> by omega⟩
     refine Qs (Ql (Qc (Qa (QK U U (by omega) (by omega) U ?_))))
     refine Qb U U (Qf ?_)
     exact Q5 (L1:=[(0,_),(4,intV ((hd+(i:Int))%(l.length:Int))),(5,intV an),(13,_),(14,intV ((i+1:Nat):Int))]) (Ym U U U U U) (k1:=l.length -(i+1)) (by omega) ⟨i+1,((hd+(i:Int))%(l.length:Int)),an,rfl,rfl,j10.pick [0,1,2,3,4,6] U, by omega,.inr ⟨by omega, by rw[hulk,hxu]⟩,han, fun e=> by omega⟩
    refine Qs (Ql (Qc (Qe (Qa (Qb U U (Xn U U U (Qf (Qc (Qt U (fun h15=> ?_) (fun h15=> ?_))))))))))
    ·refine Qa (Qb U U (Qd U U (Qf (Ql (Qc (Qa (QK U U (by omega) (by omega) U ?_)))))))
     refine Qb U U (Qf ?_)
     exact Q5 (L1:=[(0,_),(4,intV um),(5,intV ((hd+(i:Int))%(l.length:Int))),(13,_),(14,intV ((i+1:Nat):Int))]) (Ym U U U U U) (k1:=l.length -(i+1)) (by omega) ⟨i+1,um,((hd+(i:Int))%(l.length:Int)),rfl,rfl,j10.pick [0,1,2,3,4,6] U, by omega,hum,.inr ⟨by omega, by rw[hulk,hxu]⟩, fun e=> by omega⟩
    refine Qs (Ql (Qc (Qa (QK U U (by omega) (by omega) U ?_))))
    refine Qb U U (Qf ?_)
    exact Q5 (L1:=[(0,_),(4,intV um),(5,intV an),(13,_),(14,intV ((i+1:Nat):Int))]) (Ym U U U U U) (k1:=l.length -(i+1)) (by omega) ⟨i+1,um,an,rfl,rfl,j10.pick [0,1,2,3,4,6] U, by omega,hum,han, fun e=> by omega⟩
   refine Qk U U h12 U (Qk U U h12 U (QC U h12 U U (Qd U U (Qf (Qc (Qh [14,13,5,4,0,7,51] U (QL U (Qs (Ql (Qc (Qe (Qa (Qb U U (Xn U U U (Qf (Qc (Qt U (fun h16=> ?_) (fun h16=> ?_))))))))))))))))))
   ·refine Qa (Qb U U (Qd U U (Qf (Ql (Qc (Qa (QK U U (by omega) (by omega) U ?_)))))))
    refine Qb U U (Qf ?_)
    exact Q5 (L1:=[(0,_),(4,intV um),(5,intV ((hd+(i:Int))%(l.length:Int))),(13,_),(14,intV ((i+1:Nat):Int))]) (Ym U U U U U) (k1:=l.length -(i+1)) (by omega) ⟨i+1,um,((hd+(i:Int))%(l.length:Int)),rfl,rfl,j10.pick [0,1,2,3,4,6] U, by omega,hum,.inr ⟨by omega, by rw[hulk,hxu]⟩, fun e=> by omega⟩
   refine Qs (Ql (Qc (Qa (QK U U (by omega) (by omega) U ?_))))
   refine Qb U U (Qf ?_)
   exact Q5 (L1:=[(0,_),(4,intV um),(5,intV an),(13,_),(14,intV ((i+1:Nat):Int))]) (Ym U U U U U) (k1:=l.length -(i+1)) (by omega) ⟨i+1,um,an,rfl,rfl,j10.pick [0,1,2,3,4,6] U, by omega,hum,han, fun e=> by omega⟩
  refine Qk U U h9 U (Qk U U h9 U (Qk U U h9 U (Qk U U h9 U (QC U h9 U U (Qd U U (Qf (Qc (Qh [14,13,5,4,0,7,8,40] U (QL U (Qe (Qa (Qg U H9 U (Qo U VU (by first | assumption | exact j7.cell 0 U U | exact j7.cell 1 U U) U ?_)))))))))))))
  refine QU U U (Qb U U (Xw 55 U (fun h17=> ?_) (fun h17=> ?_)))
  ·refine Qj U U h17 (Qb U U (Qj U U h17 (Xn U U U (QN U h17 U U (Qd U U (Qf (Qc (Qh [14,13,5,4,0,7,51] U (Qt U (fun h18=> ?_) (fun h18=> ?_))))))))))
   ·refine Qa (Qb U U (Qd U U (Qf (Ql (Qc (Qe (Qa (Qb U U (Xn U U U (Qf (Qc (Qt U (fun h19=> ?_) (fun h19=> ?_)))))))))))))
    ·refine Qa (Qb U U (Qd U U (Qf (Ql (Qc (Qh [14,13,0,4,5] U (Qa (QK U U (by omega) (by omega) U ?_))))))))
     refine Qb U U (Qf ?_)
     exact Q5 (L1:=[(0,_),(4,intV ((hd+(i:Int))%(l.length:Int))),(5,intV ((hd+(i:Int))%(l.length:Int))),(13,_),(14,intV ((i+1:Nat):Int))]) (Ym U U U U U) (k1:=l.length -(i+1)) (by omega) ⟨i+1,((hd+(i:Int))%(l.length:Int)),((hd+(i:Int))%(l.length:Int)),rfl,rfl,j7.pick [1,2,3,4,5,6] U, by omega,.inr ⟨by omega, by rw[hulk,hxu]⟩,.inr ⟨by omega, by rw[hulk,hxu]⟩, fun e=> by omega⟩
    refine Qs (Ql (Qc (Qa (QK U U (by omega) (by omega) U ?_))))
    refine Qb U U (Qf ?_)
    exact Q5 (L1:=[(0,_),(4,intV ((hd+(i:Int))%(l.length:Int))),(5,intV an),(13,_),(14,intV ((i+1:Nat):Int))]) (Ym U U U U U) (k1:=l.length -(i+1)) (by omega) ⟨i+1,((hd+(i:Int))%(l.length:Int)),an,rfl,rfl,j7.pick [1,2,3,4,5,6] U, by omega,.inr ⟨by omega, by rw[hulk,hxu]⟩,han, fun e=> by omega⟩
   refine Qs (Ql (Qc (Qe (Qa (Qb U U (Xn U U U (Qf (Qc (Qt U (fun h20=> ?_) (fun h20=> ?_))))))))))
   ·refine Qa (Qb U U (Qd U U (Qf (Ql (Qc (Qa (QK U U (by omega) (by omega) U ?_)))))))
    refine Qb U U (Qf ?_)
    exact Q5 (L1:=[(0,_),(4,intV um),(5,intV ((hd+(i:Int))%(l.length:Int))),(13,_),(14,intV ((i+1:Nat):Int))]) (Ym U U U U U) (k1:=l.length -(i+1)) (by omega) ⟨i+1,um,((hd+(i:Int))%(l.length:Int)),rfl,rfl,j7.pick [1,2,3,4,5,6] U, by omega,hum,.inr ⟨by omega, by rw[hulk,hxu]⟩, fun e=> by omega⟩
   refine Qs (Ql (Qc (Qa (QK U U (by omega) (by omega) U ?_))))
   refine Qb U U (Qf ?_)
   exact Q5 (L1:=[(0,_),(4,intV um),(5,intV an),(13,_),(14,intV ((i+1:Nat):Int))]) (Ym U U U U U) (k1:=l.length -(i+1)) (by omega) ⟨i+1,um,an,rfl,rfl,j7.pick [1,2,3,4,5,6] U, by omega,hum,han, fun e=> by omega⟩
  refine Qk U U h17 U (Qk U U h17 U (QC U h17 U U (Qd U U (Qf (Qc (Qh [14,13,5,4,0,7,51] U (QL U (Qs (Ql (Qc (Qe (Qa (Qb U U (Xn U U U (Qf (Qc (Qt U (fun h21=> ?_) (fun h21=> ?_))))))))))))))))))
  ·refine Qa (Qb U U (Qd U U (Qf (Ql (Qc (Qa (QK U U (by omega) (by omega) U ?_)))))))
   refine Qb U U (Qf ?_)
   exact Q5 (L1:=[(0,_),(4,intV um),(5,intV ((hd+(i:Int))%(l.length:Int))),(13,_),(14,intV ((i+1:Nat):Int))]) (Ym U U U U U) (k1:=l.length -(i+1)) (by omega) ⟨i+1,um,((hd+(i:Int))%(l.length:Int)),rfl,rfl,j7.pick [1,2,3,4,5,6] U, by omega,hum,.inr ⟨by omega, by rw[hulk,hxu]⟩, fun e=> by omega⟩
  refine Qs (Ql (Qc (Qa (QK U U (by omega) (by omega) U ?_))))
  refine Qb U U (Qf ?_)
  exact Q5 (L1:=[(0,_),(4,intV um),(5,intV an),(13,_),(14,intV ((i+1:Nat):Int))]) (Ym U U U U U) (k1:=l.length -(i+1)) (by omega) ⟨i+1,um,an,rfl,rfl,j7.pick [1,2,3,4,5,6] U, by omega,hum,han, fun e=> by omega⟩
 refine QT (Qq (Qq (Qy (Qc (Qe (Qe (Qa (Qb U U (Jr U U U (Qf (Qc (Qt U (fun h22=> ?_) (fun h22=> ?_)))))))))))))
 ·refine Qe (Qa (Qb U U (Qd U U (Qd U U (Qf (Qc (Qh [5,2,3] U (Qv (Qr (Jm (.inr U) U U U ?_))))))))))
  obtain⟨h0,h1⟩:=hum.resolve_left (by omega); exact⟨_,rfl,.inl ⟨um.toNat,h1, by rw[Int.toNat_of_nonneg h0],Zi (hul) (hl4) (hh0) (hh1) (j1.pick [0,1,2,3,4,5] rfl)⟩⟩
 refine Qs (Qc (Qe (Qa (Qb U U (Ho U U U (Qb U U (Jr U U U (Qd U U (Qd U U (Qf (Qc (Qh [2,3] U (Qv (Jm (.inr U) U U U ?_))))))))))))))
 rcases han with han | ⟨ha0,ha1⟩
 ·exact⟨_,rfl,.inr ⟨clk_all hh0 (by rw[hul,List.length_map]; exact hh1) (fun j hj=>hall han j (by rw[hul,List.length_map]at hj;omega)), by subst han;rfl,Zi (hul) (hl4) (hh0) (hh1) (j1.pick [0,1,2,3,4,5] U)⟩⟩
 ·exact⟨_,rfl,.inl ⟨an.toNat,ha1, by rw[Int.max_eq_left ha0,det (show an≥0 from ha0),Int.toNat_of_nonneg ha0],Zi (hul) (hl4) (hh0) (hh1) (j1.pick [0,1,2,3,4,5] U)⟩⟩
theorem HG {w:World} {p:Nat} {ul:List Bool} {hd:Int} {F:Th} (hS:Sat w [RU p ul hd,F]):
    Calls prog 206 #[ptrV p 0] w (Ret fun v w'=>v= .tuple #[]∧Sat w' [RU p ul (if hd+1<(ul.length:Int)then hd+1 else 0),F]):= by
 obtain⟨ob,cap,l,b1,b2,b3,g1,g2,g3,hul,hl4,hh0,hh1,hS⟩:=Jc hS
 obtain⟨x,hx⟩: ∃x,l[hd.toNat]? =some x:=⟨_,Zd (by omega)⟩
 refine Qn func206 U ntmps206 U ?_
 refine Qe ?_
 have j1:=hS.drew
 refine QH [0,1,2,3,4,5,6,7,8,9,10] [10] ZW (by kernel_rfl) ?_
 refine QJ U U U (Xd U U U (QP U U U ZA (Q3 U U U (Qm U WM (by first | assumption | exact j1.cell 0 U U)) ?_)))
 refine QJ U U U (Xd U U U (QP U U U Yu (Q3 U U U (Qm U QM (by first | assumption | exact j1.cell 0 U U)) ?_)))
 refine Xh U U U (fun _=>(ZF hd.toNat U U (by first | rfl | omega) (by omega) Y2)) ?_
 refine QP U U U H9 (Xl U U U U U U ?_)
 refine Je 1 hd.toNat 1 {x with m:=false} j1 U U U (by show 0+hd.toNat*4+1=hd.toNat*4+1;omega) U Ki hx U (by decide) U U ?_
 intro w2 j2; dsimp only[List.set]at j2
 refine Zj (Xq (by kernel_rfl)) ?_
 refine VC.nil (Qc (Qh [0] U (Qe (Qa (Qb U U (Qi U U (Qg U Yu U (Qo U QM (by first | assumption | exact j2.cell 0 U U) U ?_))))))))
 refine QK U U (by omega) (by omega) U ?_
 refine Qi U U (Qg U Yu U ?_)
 first | (refine Qx j2 U U Js (by first | rfl | assumption | exact j2.own_one 1 U) (i:=0) U (by first | decide | exact Q7 U | (simp;done) | omega) ?_)
 intro w3 j4; dsimp only[List.set]at j4
 refine Qf (Qc (Qe (Qe ?_)))
 have j5:=j4.drew
 refine QH [0,1,2,3,4,5,6,7,8,9] [] ZW (by kernel_rfl) ?_
 refine QJ U U U (Xd U U U (QP U U U Yu (Q3 U U U (Qm U QM (by first | assumption | exact j5.cell 0 U U)) ?_)))
 refine QJ U U U (Xd U U U (QP U U U ZA (Q3 U U U (Qm U WM (by first | assumption | exact j5.cell 0 U U)) ?_)))
 refine Xh U U U (fun _=>(UZ underlying149 U)) ?_
 refine Xh U U U (fun _=>(M2 U U)) ?_
 refine VC.nil (Qc (Qh [0,29] U (Qt U (fun h6=> ?_) (fun h6=> ?_))))
 ·refine Qv (Qr (ZP (.inr U) U ?_))
  exact⟨_,rfl,rfl, by rw[if_pos (by rw[hul,List.length_map];omega)]; exact Zi (l:=l.set hd.toNat {x with m:=false}) (by rw[hul]; exact(Vc (y:={x with m:=false}) hx U).symm) (by rw[List.length_set]; exact hl4) (by omega) (by rw[List.length_set];omega) (j5.pick [0,1,2,3,4,5] U)⟩
 refine Qs (Qc (Qe (Qa (Qb U U (Qi U U (Qg U Yu U ?_))))))
 first | (refine Qx j5 U U Js (by first | rfl | assumption | exact j5.own_one 1 U) (i:=0) U (by first | decide | exact Q7 U | (simp;done) | omega) ?_)
 intro w7 j8; dsimp only[List.set]at j8
 refine Qf (Qc (Qe (Qe (Qa (Qb U U (Qi U U (Qg U ZA U (Qo U WM (by first | assumption | exact j8.cell 0 U U) U ?_))))))))
 first | refine XB underlying149 U U ?_ | refine Xo 1 j8 underlying149 U U U ?_
 refine Qb U U (Qf (Qc (Qh [0,37,38] U (Qw ?_))))
 have hSl:=j8.pick [0,1,2,3,4,5] U
 have hls:(l.set hd.toNat {x with m:=false}).length=l.length:=List.length_set
 refine Xe (fun K0 E0 W0=> ∃(l2:List CkD) (i:Nat),K0=l.length -i∧E0=[(0,ptrV p 0),(37,intV (l2.length:Int)),(38,intV (i:Int))]∧Sat W0 [QE p [.slice (some ⟨ob,0,none⟩) l2.length cap,intV 0,.map (some b1),.map (some b2),.map (some b3)],rowT ckC (.slice (some ⟨ob,0,none⟩) l2.length cap) l2,Q6 QX b1 (gI g1),Q6 QX b2 (gI g2),Q6 QX b3 (gI g3),F]∧(i≤l.length)∧(l2.length=l.length)∧(l2.map CkD.u=ul)) (L0:=[(0,_),(37,_),(38,_)]) (l.length -0) (CK U U U) ⟨l.set hd.toNat {x with m:=false},0,rfl,(by rw[hls];rfl), by rw[hls]; exact hSl, by omega,hls, by rw[Vc (y:={x with m:=false}) hx U]; exact hul.symm⟩ ?_
 rintro _ _ w9 ⟨l2,i,rfl,rfl,j9,hi,hl2,hu2⟩
 refine Qe (Qa (Xn U U U (Qf (Qc (Qe (Qt U (fun h10=> ?_) (fun h10=> ?_)))))))
 ·obtain⟨x2,hx2⟩: ∃x,l2[i]? =some x:=⟨_,Zd (by omega)⟩
  refine Qs (Qc (Qe (Qw (Qe (Qa (Qb U U (Qd U U (Qf (Qc (Qa (Qb U U (Qi U U (Qg U ZA U (Qo U WM (by first | assumption | exact j9.cell 0 U U) U ?_))))))))))))))
  refine Qb U U (Xg ckC 1 i j9 U U U (by first | rfl | omega) hx2 Y2 U ?_)
  intro bx11 capx11 hvx11
  refine Qg U Bq U (Je 1 i 2 {x2 with t:=false} j9 U hvx11 U U U Ki hx2 U (by decide) U (by first | rfl | assumption) ?_)
  intro w12 j13; dsimp only[List.set]at j13
  refine Qf (Ql (Qc (Qh [38,37,0] U (Qa (QK U U (by omega) (by omega) U ?_)))))
  refine Qb U U (Qf ?_)
  have hSz:=j13.pick [0,1,2,3,4,5] U
  exact Q5 (L1:=[(0,_),(37,intV ((l2.set i {x2 with t:=false}).length:Int)),(38,intV ((i+1:Nat):Int))]) (by rw[List.length_set]; exact(CK U U U)) (k1:=l.length -(i+1)) (by omega) ⟨l2.set i {x2 with t:=false},i+1,rfl,rfl, by rw[List.length_set]; exact hSz, by omega, by rw[List.length_set]; exact hl2, by rw[Vc (y:={x2 with t:=false}) hx2 U]; exact hu2⟩
 refine QT (Qq (Qq (Qy (Qc (Qe ?_)))))
 have j14:=j9.drew
 refine QH [0,1,2,3,4,5,6,7,8,9,10,11,12,13,14,15] [12,15] ZW (by kernel_rfl) ?_
 refine QJ U U U (QJ U U U (QJ U U U (Xd U U U (QP U U U Bu (Q3 U U U (Qm U Ye (by first | assumption | exact j14.cell 0 U U)) ?_)))))
 refine QJ U U U (Xd U U U (QP U U U U4 (Q3 U U U (Qm U Ye (by first | assumption | exact j14.cell 0 U U)) ?_)))
 refine Xd U U U (QP U U U U4 (Xl U U U U U U ?_))
 first | (refine Qx j14 U U sz_76 (by first | rfl | assumption | exact j14.own_one 1 U) (i:=0) U (by first | decide | exact Q7 U | (simp;done) | omega) ?_)
 intro w15 j16; dsimp only[List.set]at j16
 refine Zj (Xq (by kernel_rfl)) ?_
 refine Xd U U U (QP U U U Bu (Xl U U U U U U ?_))
 first | (refine Qx j16 U U sz_76 (by first | rfl | assumption | exact j16.own_one 1 U) (i:=0) U (by first | decide | exact Q7 U | (simp;done) | omega) ?_)
 intro w17 j18; dsimp only[List.set]at j18
 refine Zj (Xq (by kernel_rfl)) ?_
 refine VC.nil (Qc (Qh [0] U (Qa (Qb U U (Qi U U (Qg U U4 U (Qo U Ye (by first | assumption | exact j18.cell 0 U U) U ?_)))))))
 refine Sa 4 j18 underlying76 U U U ?_
 intro w19 j19; dsimp only[List.set]at j19; rw[Kt]at j19
 refine Qf (ZP (.inl U) U ?_)
 exact⟨_,rfl,rfl, by rw[if_neg (by rw[hul,List.length_map];omega)]; exact Zi hu2.symm (by omega) (by omega) (by omega) (j19.pick [0,1,2,4,3,5] U)⟩
theorem Ff {w:World} {p:Nat} {ul:List Bool} {F:Th} (hS:Sat w [DM p ul,F]):
    Calls prog 183 #[ptrV p 0] w (Ret fun v w'=>(∃k:Nat,ul[k]? =some true∧v= .tuple #[intV (k:Int),.bool true]∧Sat w' [DM p ul,F])∨((∀x∈ul,x=false)∧v= .tuple #[intV 0,.bool false]∧Sat w' [DM p ul,F])):= by
 obtain⟨hd,hS⟩:=hS.ex
 refine Qn func183 U ntmps183 U ?_
 refine Qe (Qa (Qd U U (Qd U U (Qf (Qc (Qe (Qa (Qb U U (Xr cal_205 U (Co (hS.sp [0] U)) U ?_)))))))))
 rintro e w1 ⟨_,rfl,(⟨k,hk,rfl,j1⟩ | ⟨hno,rfl,j1⟩)⟩
 ·refine⟨_,U, ?_⟩
  replace j1:=j1.jn U U
  refine Qb U U (Qp U U U (Qp U U U (Qd U U (Qd U U (Qf (Qc (Qe (Qe (Qa (Qb U U (QU U U (Qf (Qc (Qh [0,2,3,4,12] U (QS U (fun h2=> ?_) (fun h2=> ?_))))))))))))))))
  ·exact absurd h2 (by simp)
  refine Qs (Qc (Qe (Qe ?_)))
  obtain⟨ob,cap,l,b1,b2,b3,g1,g2,g3,hul,hl4,hh0,hh1,hSo⟩:=Jc (j1.pick [0,1] rfl)
  have hull:ul.length=l.length:= by rw[hul,List.length_map]
  obtain⟨x,hx⟩: ∃x,l[k]? =some x:=⟨_,Zd (by have :=(XL hk).1;omega)⟩
  refine Qa (Qb U U (Qi U U (Qg U ZA U (Qo U WM (by first | assumption | exact hSo.cell 0 U U) U ?_))))
  refine Qb U U (Xg ckC 1 k hSo U U U (by first | rfl | omega) hx Y2 U ?_)
  intro bx3 capx3 hvx3
  refine Qg U H9 U (XY 1 k 1 hSo U hvx3 U U hx VU U U (Qf (Qc (Qh [0,2,3,4,20] U (QS U (fun h4=> ?_) (fun h4=> ?_))))))
  ·refine Qe (Qa (Qb U U (Qi U U (Qg U ZA U (Qo U WM (by first | assumption | exact hSo.cell 0 U U) U ?_)))))
   first | refine XB underlying149 U U ?_ | refine Xo 1 hSo underlying149 U U U ?_
   refine Qb U U (Qf (Qc (Qh [0,2,3,4,25,26] U (Qw ?_))))
   have j5:=Zi (hul) (hl4) (hh0) (hh1) (hSo.pick [0,1,2,3,4,5] U)
   refine Xe (fun K0 E0 W0=> ∃(i:Nat) (h:Int),K0=ul.length -i∧E0=[(0,ptrV p 0),(4,intV (k:Int)),(25,intV (ul.length:Int)),(26,intV (i:Int))]∧Sat W0 [RU p ul h,F]∧(i≤ul.length)) (L0:=[(0,_),(4,_),(25,_),(26,_)]) (ul.length -0) (Vj U U U U) ⟨0,hd,rfl,(by rw[hull];rfl),j5, by omega⟩ ?_
   rintro _ _ w6 ⟨i,h,rfl,rfl,j6,hi⟩
   refine Qe (Qa (Xn U U U (Qf (Qc (Qe (Qt U (fun h7=> ?_) (fun h7=> ?_)))))))
   ·refine Qs (Qc (Qe (Qw (Qa (Qb U U (Q0 KC U (HG (j6.sp [0] U)) U ?_))))))
    rintro _ w8 ⟨rfl,j8⟩
    replace j8:=j8.jn U U
    refine Qf (Ql (Qc (Qa (QK U U (by omega) (by omega) U ?_))))
    refine Qb U U (Qf ?_)
    exact Q5 (L1:=[(0,_),(4,_),(25,_),(26,intV ((i+1:Nat):Int))]) (Vj U U U U) (k1:=ul.length -(i+1)) (by omega) ⟨i+1,_,rfl,rfl,j8.pick [0,1] U, by omega⟩
   refine QT (Qq (Qq (Qy (Qc (Qe (Qw ?_))))))
   obtain⟨hh,hhe⟩: ∃x:Int,x=h:=⟨_,rfl⟩
   rw[←hhe]at j6
   refine Xe (fun K0 E0 W0=> ∃(h:Int),K0=(if h≤(k:Int)then(k:Int) -h else(ul.length:Int) -h+k).toNat∧E0=[(0,ptrV p 0),(4,intV (k:Int))]∧Sat W0 [RU p ul h,F]) (L0:=[(0,_),(4,_)]) ((if hh≤(k:Int)then(k:Int) -hh else(ul.length:Int) -hh+k).toNat) (G5 U U) ⟨_,rfl,rfl,j6⟩ ?_
   rintro _ _ w9 ⟨h,rfl,rfl,j9⟩
   refine Qe (Qe ?_)
   obtain⟨ob3,cap3,l3,b13,b23,b33,g13,g23,g33,hul3,hl43,hh03,hh13,hSo10⟩:=Jc (j9.pick [0,1] rfl)
   have hull3:ul.length=l3.length:= by rw[hul3,List.length_map]
   refine Qa (Qb U U (Qi U U (Qg U Yu U (Qo U QM (by first | assumption | exact hSo10.cell 0 U U) U ?_))))
   refine Qb U U (Xp U U U (Qf ?_))
   have j11:=Zi hul3 hl43 hh03 hh13 (hSo10.pick [0,1,2,3,4,5] U)
   refine Qc (Qt U (fun h12=> ?_) (fun h12=> ?_))
   ·refine Qs (Qc (Qw (Qa (Qb U U (Q0 KC U (HG (j11.sp [0] U)) U ?_)))))
    rintro _ w13 ⟨rfl,j13⟩
    replace j13:=j13.jn U U
    refine Qf (Ql ?_)
    have hkn:=(XL hk).1
    exact Q5 (L1:=[(0,_),(4,_)]) (G5 U U) (k1:=(if(if h+1<(ul.length:Int)then h+1 else 0)≤(k:Int)then(k:Int) -(if h+1<(ul.length:Int)then h+1 else 0)else(ul.length:Int) -(if h+1<(ul.length:Int)then h+1 else 0)+k).toNat) (by split<;>split<;>split<;>omega) ⟨_,rfl,rfl,j13.pick [0,1] U⟩
   refine QT (Qq (Qq (Qy (Qc (Qe (Qa (Qb U U (Q0 KC U (HG (j11.sp [0] U)) U ?_))))))))
   rintro _ w14 ⟨rfl,j14⟩
   replace j14:=j14.jn U U
   exact Qf (Qc (Qe (Qa (Qb U U (Qd U U (Qd U U (Qf (Qc (Qh [2,3] U (Qv (Jm (.inr U) U U U (⟨_,rfl,.inl ⟨k,hk,rfl,Sat.ex_intro (f:= fun h:Int=>RU p ul h) _ (j14.pick [0,1] U)⟩⟩))))))))))))
  refine Qs (Qc (Qe (Qw ?_)))
  have j15:=Zi (hul) (hl4) (hh0) (hh1) (hSo.pick [0,1,2,3,4,5] U)
  obtain⟨hh,hhe⟩: ∃x:Int,x=hd:=⟨_,rfl⟩
  rw[←hhe]at j15
  refine Xe (fun K0 E0 W0=> ∃(h:Int),K0=(if h≤(k:Int)then(k:Int) -h else(ul.length:Int) -h+k).toNat∧E0=[(0,ptrV p 0),(4,intV (k:Int))]∧Sat W0 [RU p ul h,F]) (L0:=[(0,_),(4,_)]) ((if hh≤(k:Int)then(k:Int) -hh else(ul.length:Int) -hh+k).toNat) (G5 U U) ⟨_,rfl,rfl,j15⟩ ?_
  rintro _ _ w16 ⟨h,rfl,rfl,j16⟩
  refine Qe (Qe ?_)
  obtain⟨ob3,cap3,l3,b13,b23,b33,g13,g23,g33,hul3,hl43,hh03,hh13,hSo17⟩:=Jc (j16.pick [0,1] rfl)
  have hull3:ul.length=l3.length:= by rw[hul3,List.length_map]
  refine Qa (Qb U U (Qi U U (Qg U Yu U (Qo U QM (by first | assumption | exact hSo17.cell 0 U U) U ?_))))
  refine Qb U U (Xp U U U (Qf ?_))
  have j18:=Zi hul3 hl43 hh03 hh13 (hSo17.pick [0,1,2,3,4,5] U)
  refine Qc (Qt U (fun h19=> ?_) (fun h19=> ?_))
  ·refine Qs (Qc (Qw (Qa (Qb U U (Q0 KC U (HG (j18.sp [0] U)) U ?_)))))
   rintro _ w20 ⟨rfl,j20⟩
   replace j20:=j20.jn U U
   refine Qf (Ql ?_)
   have hkn:=(XL hk).1
   exact Q5 (L1:=[(0,_),(4,_)]) (G5 U U) (k1:=(if(if h+1<(ul.length:Int)then h+1 else 0)≤(k:Int)then(k:Int) -(if h+1<(ul.length:Int)then h+1 else 0)else(ul.length:Int) -(if h+1<(ul.length:Int)then h+1 else 0)+k).toNat) (by split<;>split<;>split<;>omega) ⟨_,rfl,rfl,j20.pick [0,1] U⟩
  refine QT (Qq (Qq (Qy (Qc (Qe (Qa (Qb U U (Q0 KC U (HG (j18.sp [0] U)) U ?_))))))))
  rintro _ w21 ⟨rfl,j21⟩
  replace j21:=j21.jn U U
  exact Qf (Qc (Qe (Qa (Qb U U (Qd U U (Qd U U (Qf (Qc (Qh [2,3] U (Qv (Jm (.inr U) U U U (⟨_,rfl,.inl ⟨k,hk,rfl,Sat.ex_intro (f:= fun h:Int=>RU p ul h) _ (j21.pick [0,1] U)⟩⟩))))))))))))
 refine⟨_,U, ?_⟩
 replace j1:=j1.jn U U
 refine Qb U U (Qp U U U (Qp U U U (Qd U U (Qd U U (Qf (Qc (Qe (Qe (Qa (Qb U U (QU U U (Qf (Qc (Qh [0,2,3,4,12] U (QS U (fun h22=> ?_) (fun h22=> ?_))))))))))))))))
 ·exact Qe (Qa (Qd U U (Qd U U (Qf (Qc (Qv (Qr (Jm (.inr U) U U U (⟨_,rfl,.inr ⟨hno,rfl,Sat.ex_intro (f:= fun h:Int=>RU p ul h) _ (j1.pick [0,1] U)⟩⟩)))))))))
 exact absurd h22 (by simp)
theorem ckgoneT {w:World} {p:Nat} {ul:List Bool} {F:Th} (hS:Sat w [DM p ul,F]) (f:Int) (hf:0≤f∧f<(ul.length:Int)):
    Calls prog 167 #[ptrV p 0,intV f] w (Ret fun v w'=>v= .tuple #[]∧Sat w' [DM p (ul.set f.toNat false),F]):= by
  obtain⟨hd,hS⟩:=hS.ex
  exact(Rw hS f hf).mono fun e w1 h=>h.mono fun v w2 ⟨h1,h2⟩=>⟨h1,Sat.ex_intro (f:= fun h:Int=>RU p (ul.set f.toNat false) h) hd h2⟩
theorem E3 {w:World} {p:Nat} {ul:List Bool} {F:Th} (hS:Sat w [DM p ul,F]) (f:Int) (hf:0≤f∧f<(ul.length:Int)) (owner:Int):
    Calls prog 185 #[ptrV p 0,intV f,intV owner] w (Ret fun v w'=>v= .tuple #[]∧Sat w' [DM p (ul.set f.toNat true),F]):= by
  obtain⟨hd,hS⟩:=hS.ex
  exact(E2 hS f hf owner).mono fun e w1 h=>h.mono fun v w2 ⟨h1,h2⟩=>⟨h1,Sat.ex_intro (f:= fun h:Int=>RU p (ul.set f.toNat true) h) hd h2⟩
theorem ckrow {Z:List Value} (hZ:Z=ckC.enc ⟨false,false,false,0⟩) (m:Nat):(List.replicate m Z).flatten=ckC.cells (List.replicate m ⟨false,false,false,0⟩):= by
  subst hZ
  induction m with
  | zero=>rfl
  | succ m ih=> rw[List.replicate_succ,List.flatten_cons,ih,List.replicate_succ];rfl
theorem E4 {w:World} {F:Th} (hS:Sat w [F]) (n:Int) (hn:1≤n):
    Calls prog 44 #[intV n] w (Ret fun v w'=> ∃p,v=ptrV p 0∧Sat w' [DM p (List.replicate (min (max n 0) 4096).toNat false),F]):= by
 refine Qn func44 U ntmps44 U ?_
 refine Qe (Qa (Qd U U (Qf (Qc (Qe (Qa (Qb U U (Ho U U U (Kd U U U (Ma hS (min (max n 0) 4096).toNat U U (by omega) underlying149 ifo_249 U (by omega) (by omega) U ?_))))))))))
 intro db w1 hS1a; have j1:=hS1a.row_cast (l:=List.replicate (min (max n 0) 4096).toNat ⟨false,false,false,0⟩) (C:=ckC) (by simp) U (ckrow U _)
 refine Zg QX j1 U ?_
 intro mb1 w2 j2; rw[Kt]at j2
 refine Zg QX j2 U ?_
 intro mb2 w3 j3; rw[Kt]at j3
 refine Zg QX j3 U ?_
 intro mb3 w4 j4; rw[Kt]at j4
 refine Zw U Ba asz_151 zr_151 U U (XV j4 U U U ?_)
 intro bp wbp hSbp
 refine Qd U U (Qf (Qc (Qh [2] U (Qv (QR (.inr U) U U ?_)))))
 exact⟨_,rfl,_,rfl,Sat.ex_intro (f:= fun h:Int=>RU bp _ h) 0 (Zi (l:=List.replicate (min (max n 0) 4096).toNat ⟨false,false,false,0⟩) (by rw[List.map_replicate]) (by rw[List.length_replicate];omega) (by omega) (by rw[List.length_replicate];omega) (hSbp.pick [0,4,3,2,1,5] U))⟩
end Go.Proofs.YtkgjmhcdacidoaaGreatDoor
namespace Go.Proofs.YtkgjmhcdacidoaaGreatDoor.M
open Go.RowKit Go.Sort Proofs.Tryz
def XP (l:List Int):List Int:=l.mergeSort fun x y=>decide (x≤y)
theorem Ha (l:List Int):(XP l).Perm l:=List.mergeSort_perm _ _
theorem Ji (l:List Int):(XP l).length=l.length:=(Ha l).length_eq
theorem BQ (d xs:List Int) (sp:List Value) (h:d.length=xs.length):(putCells (Value.int .i64) 0 d.toArray (xs.map intV++sp).toArray)=(d.map intV++sp).toArray:= by
  apply Array.ext_getElem?
  intro k
  unfold putCells
  simp only[Array.getElem?_mapIdx,List.getElem?_toArray,Nat.zero_le,true_and,Nat.zero_add,Nat.sub_zero,List.size_toArray]
  by_cases hk:k<d.length
  · rw[List.getElem?_append_left (by simpa [←h]using hk),List.getElem?_append_left (by simpa using hk)]
    simp [hk,h▸hk,intV]
  · rw[List.getElem?_append_right (by simp;omega),List.getElem?_append_right (by simp;omega)]
    have hk': ¬k<xs.length:= by omega
    simp only[List.length_map,h,hk',if_false,Option.map_id']
theorem Cq {P:Program} {f:Nat}
    (hsome: ∀(blk off cap:Nat) (ss:List Int) (w:World),Holds (Value.int .i64) w blk off ss.toArray→blk<w.heap.size→ss.length<4611686018427387904→Calls P f #[.slice (some ⟨blk,off,none⟩) ss.length cap] w fun e w'=>e= .returned (.tuple #[])∧ ∃n os,w'=grow (putRow (Value.int .i64) (Go.Sort.ahead w n) blk off (ss.mergeSort fun x y=>decide (x≤y)).toArray) os)
    (hnone: ∀(p:Option Addr) (cap:Nat) (w:World),Calls P f #[.slice p 0 cap] w fun e w'=>e= .returned (.tuple #[])∧w'=w)
    {w:World} {v:Value} {l:List Int} {As:List Th} (hS:Sat w (rowT inC v l::As)) (hl:l.length<4611686018427387904):Calls P f #[v] w (Ret fun u w'=>u= .tuple #[]∧Sat w' (rowT inC v (XP l)::As)):= by
  obtain⟨foot,hlen,h⟩:=hS.own 0 rfl
  rcases h with⟨rfl,hn,hf⟩ | ⟨b,cap,sp,rfl,hcap,hb,hsz,hf⟩
  · have :l=[]:=List.eq_nil_of_length_eq_zero hn
    subst this
    exact(hnone none 0 w).mono fun e w' ⟨h1,h2⟩=>⟨_,h1,rfl, by rw[h2];simpa [XP]using hS⟩
  · have hH:Holds (Value.int .i64) w b 0 l.toArray:= fun j hj=> by
      have hj':j<l.length:= by simpa using hj
      rw[VG]at hb
      refine⟨?_, ?_⟩
      · rw[Nat.zero_add]
        refine hb.cell ?_
        rw[List.getElem?_append_left (by simpa using hj')]
        simp [hj',intV]
      · exact hb.free _ (by simp;omega)
    refine(hsome b 0 cap l w hH hb.lt hl).mono fun e w' ⟨h1,n,os,h2⟩=>⟨_,h1,rfl, ?_⟩
    have hlt:=hb.lt
    have hheap: ∀k,k<w.heap.size→k≠b→w'.heap[k]? =w.heap[k]? := fun k hk hne=> by
      rw[h2,heap_grow_old _ _ (by simpa using hk)]
      simp only[putRow,mapBlock,heap_ahead,Array.getElem?_modify]
      rw[if_neg (fun q=>hne q.symm)]
    obtain⟨T,lo,hi,hc,hfz⟩:=hb
    have hnew:w'.heap[b]? =some (.cells ((XP l).map intV++sp).toArray T (lo,hi)):= by
      rw[h2,heap_grow_old _ _ (by simpa using hlt)]
      simp only[putRow,mapBlock,heap_ahead,Array.getElem?_modify,if_pos,hc,Option.map_some,onCells,VG]
      rw[show(l.mergeSort fun x y=>decide (x≤y))=XP l from rfl,BQ _ _ _ (Ji l)]
    have ho:Only [b] w w':= by
      refine⟨?_, ?_, ?_, ?_, fun k hk hn=>hheap k hk (by simpa using hn)⟩
      · rw[h2];rfl
      · rw[h2];rfl
      · rw[h2];rfl
      · rw[h2]; simp
    have hfin:=hS.own_set (w':=w') 0 U (v':= .slice (some ⟨b,0,none⟩) l.length cap) (n':=l.length) (size':=1) (xs':=inC.cells (XP l)) (fun foot' g=> by
      obtain⟨_,g⟩:=g
      rcases g with⟨g0,_⟩ | ⟨b',cap',sp',g0,g1,g2,g3,g4⟩
      · cases g0
      · simp only[Value.slice.injEq,Option.some.injEq,Addr.mk.injEq,and_true,true_and]at g0
        obtain⟨rfl,rfl⟩:=g0
        refine⟨[b],⟨?_,.inr ⟨b,cap,sp,U,hcap,⟨T,lo,hi, ?_, ?_⟩, ?_,U⟩⟩, ?_, ?_⟩
        · rw[inC.cells_len,Ji];rfl
        · rw[VG]; exact hnew
        · rcases hfz with q | q
          · exact .inl q
          · refine .inr ?_
            simp only[List.length_append,inC.cells_len,Ji]at q⊢; exact q
        · simp only[List.length_append,inC.cells_len,Ji]at hsz⊢; exact hsz
        · rw[g4]; exact ho
        · rw[g4]; intro k hk; exact .inl hk)
    have e:(XP l).length=l.length:=Ji l
    show Sat w' (W6 _ (XP l).length 1 _::As)
    rw[e]; exact hfin
