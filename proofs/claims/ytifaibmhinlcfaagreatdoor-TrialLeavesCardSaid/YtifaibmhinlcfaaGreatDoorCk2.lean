/- reclaim: victim, pass -/
import Derived.Test.YtifaibmhinlcfaaGreatDoorCk1
import Derived.Test.YtifaibmhinlcfaaGreatDoorBit
set_option linter.unusedVariables false
set_option maxRecDepth 100000
set_option maxHeartbeats 80000000000
namespace Go.Proofs.YtifaibmhinlcfaaGreatDoor
open Go.RowKit M Proofs.Tryz
variable {hd:Int} {p:Nat} {ul:List Bool} {w:World}
def okK (ul:List Bool) (n:Int):Prop:=n= -1\/(0<=n/\ul[n.toNat]? =some true)
theorem clk_all (g:0<=hd) (i:hd<ul.length) (h: ∀j:Nat,j<ul.length->ul[((hd+(j:Int))%(ul.length:Int)).toNat]? =some false): ∀x∈ul,x=false:=by
  intro x c;obtain⟨k,a⟩:=List.mem_iff_getElem?.1 c;have d:=(Za a).1;have l:=Int.emod_lt_of_pos ((k:Int) -hd) (show(0:Int)<ul.length by omega);have f:=Int.emod_nonneg ((k:Int) -hd) (show(ul.length:Int)≠0 by omega);have b:=h (((k:Int) -hd)%(ul.length:Int)).toNat (by omega)
  have e:((hd+(((((k:Int) -hd)%(ul.length:Int)).toNat:Nat):Int))%(ul.length:Int)).toNat=k:=by
    rw[Int.toNat_of_nonneg f,Int.add_emod_emod,show hd+((k:Int) -hd)=(k:Int)by omega,Int.emod_eq_of_lt (by omega) (by omega)];omega
  rw[e,a]at b;exact Option.some.inj b
theorem F6 {F:Th} (G:Sat w [DB p ul hd,F]):
    Calls prog 236 #[ptrV p 0] w (Ret λv w'=>(∃k:Nat,ul[k]? =some true/\v= .tuple #[intV (k:Int),.bool true]/\Sat w' [DB p ul hd,F])\/((∀x∈ul,x=false)/\v= .tuple #[intV 0,.bool false]/\Sat w' [DB p ul hd,F])):=by
 obtain⟨ob,cap,l,b1,b2,b3,g1,g2,g3,g,y,r,s,G⟩:=JV G;refine Qn func236 U ntmps236 U ?_;refine Qe<|Qa<|Qd U U<|Qd U U<|Qf<|Qc<|Qe<|Qa<|Qd U U<|Qd U U<|Qf<|Qc<|Qe<|Qe<|Qa<|Qb U U<|Qj U U<|Qg U Wd U<|Qo U J8 (G.cell 0 U U) U<|Xl underlying181 U U<|Qb U U<|Qf<|Qc<|Qh [0,2,3,4,5,13,14] U<|Qx ?_;refine QU (λK0 E0 W0=> ∃(i:Nat) (um an:Int),K0=l.length -i/\E0=[(0,ptrV p 0),(4,intV um),(5,intV an),(13,intV (l.length:Int)),(14,intV (i:Int))]/\Sat W0 [Q6 p [.slice (some ⟨ob,0,none⟩) l.length cap,intV hd,.map (some b1),.map (some b2),.map (some b3)],rowT ckC (.slice (some ⟨ob,0,none⟩) l.length cap) l,Q4 QY b1 (gI g1),Q4 QY b2 (gI g2),Q4 QY b3 (gI g3),F]/\(i<=l.length)/\(okK ul um)/\(okK ul an)/\(an= -1-> ∀j:Nat,j<i->ul[((hd+(j:Int))%(ul.length:Int)).toNat]? =some false)) (L0:=[(0,_),(4,_),(5,_),(13,_),(14,_)]) (l.length -0) (Vb U U U U U) ⟨0, -1, -1,rfl,rfl,G,by omega,.inl U,.inl U,λ_ j I=>by omega⟩ ?_;rintro _ _ w1 ⟨i,um,an,rfl,rfl,H,hi,d,c,z⟩;refine Qe<|Qa<|Xa U U U<|Qf<|Qc<|Qe<|Qs U (λX=> ?_) (λX=> ?_)
 ·refine Qt<|Qc<|Qe<|Qx<|Qe<|Qa<|Qb U U<|Qd U U<|Qf<|Qc<|Qe ?_;have B:=H.drew;refine Q7 [0,1,2,3,4,5,6,7,8,9,10,11,12] [] Z9 (by kernel_rfl) ?_;refine Q3 U U U<|QP U U U<|QG U U U Ho<|Q0 U U U (Ql U QL (B.cell 0 U U))<|Q3 U U U<|Xi U U U (λ_=>(RZ U U (by omega) (by omega))) ?_;refine Q3 U U U<|QP U U U<|QG U U U Wd<|Q0 U U U (Ql U J8 (B.cell 0 U U))<|Xi U U U (λ_=>(YT underlying181 U)) ?_;refine Xi U U U (λ_=>(Ts U U (by omega) (by omega))) ?_;refine Zd U U U (VC.nil ?_);have C:0<=((hd+(i:Int))%(l.length:Int)):=Int.emod_nonneg _ (by omega);have Y:((hd+(i:Int))%(l.length:Int))<(l.length:Int):=Int.emod_lt_of_pos _ (by omega);obtain⟨x,J⟩: ∃x,l[((hd+(i:Int))%(l.length:Int)).toNat]? =some x:=⟨_,XQ (by omega)⟩;have a:ul[((hd+(i:Int))%(l.length:Int)).toNat]? =some x.u:=by rw[g];exact ck_u J
  have D:ul[((hd+(i:Int))%(ul.length:Int)).toNat]? =some x.u:=by rw[show(ul.length:Int)=(l.length:Int)by rw[g,List.length_map]];exact a
  refine Qc<|Qh [14,13,5,4,0,7] U<|Qe<|Qa<|Qb U U<|Qj U U<|Qg U Wd U<|Qo U J8 (B.cell 0 U U) U<|Qb U U<|Xj ckC 1 ((hd+(i:Int))%(l.length:Int)).toNat B U U U (by rw[Int.toNat_of_nonneg C]) J Hz U ?_;intro bx4 capx4 E;refine Wq 1 ((hd+(i:Int))%(l.length:Int)).toNat B U E U J qgh RC U U<|Xc B Mm U U ?_;intro b5 w5 Z
  (refine QW Z U U RC U (by rfl) (i:=0) U (by decide) ?_)
  intro w6 n;dsimp only[List.set]at n;refine Qf<|Qc<|Qh [14,13,5,4,0,7,8] U<|Qe<|Qx<|Qe<|Qa<|Qg U GI U<|Qo U VM (n.cell 0 U U) U<|QX U U<|Qd U U<|Qf<|Qc<|Qh [14,13,5,4,0,7,8,36] U<|QR U (λK=> ?_) (λK=> ?_)
  ·have b:x.u=false:=by simpa using K
   refine QQ<|Ck U<|Qp<|Qy<|Qc<|Qa<|QE U U (by omega) (by omega) U ?_;refine Qb U U<|Qf ?_;exact Q5 (L1:=[(0,_),(4,intV um),(5,intV an),(13,_),(14,intV ((i+1:Nat):Int))]) (Vb U U U U U) (k1:=l.length -(i+1)) (by omega) ⟨i+1,um,an,rfl,rfl,n.pick [1,2,3,4,5,6] U,by omega,d,c,λe j I=>by by_cases q:j=i;(subst q;rw[D,b]);exact z e j (by omega)⟩
  have b:x.u=true:=by simpa using K
  refine Qe<|Qa<|Qg U UL U<|Qo U VM (n.cell 0 U U) U<|QX U U<|Qb U U<|X9 44 U (λt=> ?_) (λt=> ?_)
  ·refine Qk U U t<|Qb U U<|Qk U U t<|Qg U GH U<|Qk U U t<|Qo U QL (n.cell 0 U U) U<|Qk U U t<|Qw cal_252 U (IV (n.sp [1,2,3,4,5] U) x.o) U ?_;rintro _ a0 ⟨g0,rfl,f⟩;replace f:=f.jn U U;refine QF U t U U<|Qd U U<|Qf<|Qc<|Qh [14,13,5,4,0,7,8,40] U<|QR U (λL=> ?_) (λL=> ?_)
   ·exact Qe (Qa (Qb U U (Qd U U (Qd U U (Qf (Qc (Qh [14,13,5,4,0,7,2,3] U (Qu (Q1 (Qq (Q1 (Qq (Qq (Q1 (Qq (Jt (.inr U) U U U (⟨_,rfl,.inl ⟨((hd+(i:Int))%(l.length:Int)).toNat,by rw[a,b],by rw[Int.toNat_of_nonneg C],Z4 (g) (y) (r) (s) (f.pick [0,1,2,3,4,6] U)⟩⟩)))))))))))))))))
   refine Qe<|Qa<|Qg U UL U<|Qo U VM (f.cell 5 U U) U<|QX U U<|Qb U U<|X9 55 U (λh=> ?_) (λh=> ?_)
   ·refine Qk U U h<|Qb U U<|Qk U U h<|Xa U U U<|QF U h U U<|Qd U U<|Qf<|Qc<|Qh [14,13,5,4,0,7,51] U<|Qs U (λM=> ?_) (λM=> ?_)
    ·refine Qa<|Qb U U<|Qd U U<|Qf<|Qm<|Qc<|Qe<|Qa<|Qb U U<|Xa U U U<|Qf<|Qc<|Qs U (λN=> ?_) (λN=> ?_)
     ·refine Qa<|Qb U U<|Qd U U<|Qf<|Qm<|Qc<|Qh [14,13,0,4,5] U<|Qa<|QE U U (by omega) (by omega) U ?_;refine Qb U U<|Qf ?_;exact Q5 (L1:=[(0,_),(4,intV ((hd+(i:Int))%(l.length:Int))),(5,intV ((hd+(i:Int))%(l.length:Int))),(13,_),(14,intV ((i+1:Nat):Int))]) (Vb U U U U U) (k1:=l.length -(i+1)) (by omega) ⟨i+1,((hd+(i:Int))%(l.length:Int)),((hd+(i:Int))%(l.length:Int)),rfl,rfl,f.pick [0,1,2,3,4,6] U,by omega,.inr ⟨by omega,by rw[a,b]⟩,.inr ⟨by omega,by rw[a,b]⟩,λe=>by omega⟩
     refine Qt<|Qm<|Qc<|Qa<|QE U U (by omega) (by omega) U ?_;refine Qb U U<|Qf ?_;exact Q5 (L1:=[(0,_),(4,intV ((hd+(i:Int))%(l.length:Int))),(5,intV an),(13,_),(14,intV ((i+1:Nat):Int))]) (Vb U U U U U) (k1:=l.length -(i+1)) (by omega) ⟨i+1,((hd+(i:Int))%(l.length:Int)),an,rfl,rfl,f.pick [0,1,2,3,4,6] U,by omega,.inr ⟨by omega,by rw[a,b]⟩,c,λe=>by omega⟩
    refine Qt<|Qm<|Qc<|Qe<|Qa<|Qb U U<|Xa U U U<|Qf<|Qc<|Qs U (λO=> ?_) (λO=> ?_)
    ·refine Qa<|Qb U U<|Qd U U<|Qf<|Qm<|Qc<|Qa<|QE U U (by omega) (by omega) U ?_;refine Qb U U<|Qf ?_;exact Q5 (L1:=[(0,_),(4,intV um),(5,intV ((hd+(i:Int))%(l.length:Int))),(13,_),(14,intV ((i+1:Nat):Int))]) (Vb U U U U U) (k1:=l.length -(i+1)) (by omega) ⟨i+1,um,((hd+(i:Int))%(l.length:Int)),rfl,rfl,f.pick [0,1,2,3,4,6] U,by omega,d,.inr ⟨by omega,by rw[a,b]⟩,λe=>by omega⟩
    refine Qt<|Qm<|Qc<|Qa<|QE U U (by omega) (by omega) U ?_;refine Qb U U<|Qf ?_;exact Q5 (L1:=[(0,_),(4,intV um),(5,intV an),(13,_),(14,intV ((i+1:Nat):Int))]) (Vb U U U U U) (k1:=l.length -(i+1)) (by omega) ⟨i+1,um,an,rfl,rfl,f.pick [0,1,2,3,4,6] U,by omega,d,c,λe=>by omega⟩
   refine Qi U U h U<|Qi U U h U<|Q9 U h U U<|Qd U U<|Qf<|Qc<|Qh [14,13,5,4,0,7,51] U<|QM U<|Qt<|Qm<|Qc<|Qe<|Qa<|Qb U U<|Xa U U U<|Qf<|Qc<|Qs U (λP=> ?_) (λP=> ?_)
   ·refine Qa<|Qb U U<|Qd U U<|Qf<|Qm<|Qc<|Qa<|QE U U (by omega) (by omega) U ?_;refine Qb U U<|Qf ?_;exact Q5 (L1:=[(0,_),(4,intV um),(5,intV ((hd+(i:Int))%(l.length:Int))),(13,_),(14,intV ((i+1:Nat):Int))]) (Vb U U U U U) (k1:=l.length -(i+1)) (by omega) ⟨i+1,um,((hd+(i:Int))%(l.length:Int)),rfl,rfl,f.pick [0,1,2,3,4,6] U,by omega,d,.inr ⟨by omega,by rw[a,b]⟩,λe=>by omega⟩
   refine Qt<|Qm<|Qc<|Qa<|QE U U (by omega) (by omega) U ?_;refine Qb U U<|Qf ?_;exact Q5 (L1:=[(0,_),(4,intV um),(5,intV an),(13,_),(14,intV ((i+1:Nat):Int))]) (Vb U U U U U) (k1:=l.length -(i+1)) (by omega) ⟨i+1,um,an,rfl,rfl,f.pick [0,1,2,3,4,6] U,by omega,d,c,λe=>by omega⟩
  refine Qi U U t U<|Qi U U t U<|Qi U U t U<|Qi U U t U<|Q9 U t U U<|Qd U U<|Qf<|Qc<|Qh [14,13,5,4,0,7,8,40] U<|QM U<|Qe<|Qa<|Qg U UL U<|Qo U VM (n.cell 0 U U) U<|QX U U<|Qb U U<|X9 55 U (λm=> ?_) (λm=> ?_)
  ·refine Qk U U m<|Qb U U<|Qk U U m<|Xa U U U<|QF U m U U<|Qd U U<|Qf<|Qc<|Qh [14,13,5,4,0,7,51] U<|Qs U (λQ=> ?_) (λQ=> ?_)
   ·refine Qa<|Qb U U<|Qd U U<|Qf<|Qm<|Qc<|Qe<|Qa<|Qb U U<|Xa U U U<|Qf<|Qc<|Qs U (λR=> ?_) (λR=> ?_)
    ·refine Qa<|Qb U U<|Qd U U<|Qf<|Qm<|Qc<|Qh [14,13,0,4,5] U<|Qa<|QE U U (by omega) (by omega) U ?_;refine Qb U U<|Qf ?_;exact Q5 (L1:=[(0,_),(4,intV ((hd+(i:Int))%(l.length:Int))),(5,intV ((hd+(i:Int))%(l.length:Int))),(13,_),(14,intV ((i+1:Nat):Int))]) (Vb U U U U U) (k1:=l.length -(i+1)) (by omega) ⟨i+1,((hd+(i:Int))%(l.length:Int)),((hd+(i:Int))%(l.length:Int)),rfl,rfl,n.pick [1,2,3,4,5,6] U,by omega,.inr ⟨by omega,by rw[a,b]⟩,.inr ⟨by omega,by rw[a,b]⟩,λe=>by omega⟩
    refine Qt<|Qm<|Qc<|Qa<|QE U U (by omega) (by omega) U ?_;refine Qb U U<|Qf ?_;exact Q5 (L1:=[(0,_),(4,intV ((hd+(i:Int))%(l.length:Int))),(5,intV an),(13,_),(14,intV ((i+1:Nat):Int))]) (Vb U U U U U) (k1:=l.length -(i+1)) (by omega) ⟨i+1,((hd+(i:Int))%(l.length:Int)),an,rfl,rfl,n.pick [1,2,3,4,5,6] U,by omega,.inr ⟨by omega,by rw[a,b]⟩,c,λe=>by omega⟩
   refine Qt<|Qm<|Qc<|Qe<|Qa<|Qb U U<|Xa U U U<|Qf<|Qc<|Qs U (λS=> ?_) (λS=> ?_)
   ·refine Qa<|Qb U U<|Qd U U<|Qf<|Qm<|Qc<|Qa<|QE U U (by omega) (by omega) U ?_;refine Qb U U<|Qf ?_;exact Q5 (L1:=[(0,_),(4,intV um),(5,intV ((hd+(i:Int))%(l.length:Int))),(13,_),(14,intV ((i+1:Nat):Int))]) (Vb U U U U U) (k1:=l.length -(i+1)) (by omega) ⟨i+1,um,((hd+(i:Int))%(l.length:Int)),rfl,rfl,n.pick [1,2,3,4,5,6] U,by omega,d,.inr ⟨by omega,by rw[a,b]⟩,λe=>by omega⟩
   refine Qt<|Qm<|Qc<|Qa<|QE U U (by omega) (by omega) U ?_;refine Qb U U<|Qf ?_;exact Q5 (L1:=[(0,_),(4,intV um),(5,intV an),(13,_),(14,intV ((i+1:Nat):Int))]) (Vb U U U U U) (k1:=l.length -(i+1)) (by omega) ⟨i+1,um,an,rfl,rfl,n.pick [1,2,3,4,5,6] U,by omega,d,c,λe=>by omega⟩
  refine Qi U U m U<|Qi U U m U<|Q9 U m U U<|Qd U U<|Qf<|Qc<|Qh [14,13,5,4,0,7,51] U<|QM U<|Qt<|Qm<|Qc<|Qe<|Qa<|Qb U U<|Xa U U U<|Qf<|Qc<|Qs U (λT=> ?_) (λT=> ?_)
  ·refine Qa<|Qb U U<|Qd U U<|Qf<|Qm<|Qc<|Qa<|QE U U (by omega) (by omega) U ?_;refine Qb U U<|Qf ?_;exact Q5 (L1:=[(0,_),(4,intV um),(5,intV ((hd+(i:Int))%(l.length:Int))),(13,_),(14,intV ((i+1:Nat):Int))]) (Vb U U U U U) (k1:=l.length -(i+1)) (by omega) ⟨i+1,um,((hd+(i:Int))%(l.length:Int)),rfl,rfl,n.pick [1,2,3,4,5,6] U,by omega,d,.inr ⟨by omega,by rw[a,b]⟩,λe=>by omega⟩
  refine Qt<|Qm<|Qc<|Qa<|QE U U (by omega) (by omega) U ?_;refine Qb U U<|Qf ?_;exact Q5 (L1:=[(0,_),(4,intV um),(5,intV an),(13,_),(14,intV ((i+1:Nat):Int))]) (Vb U U U U U) (k1:=l.length -(i+1)) (by omega) ⟨i+1,um,an,rfl,rfl,n.pick [1,2,3,4,5,6] U,by omega,d,c,λe=>by omega⟩
 refine QQ<|Qp<|Qp<|Qy<|Qc<|Qe<|Qe<|Qa<|Qb U U<|WU U U U<|Qf<|Qc<|Qs U (λV=> ?_) (λV=> ?_)
 ·refine Qe<|Qa<|Qb U U<|Qd U U<|Qd U U<|Qf<|Qc<|Qh [5,2,3] U<|Qu<|Qq<|Jt (.inr U) U U U ?_;obtain⟨h0,h1⟩:=d.resolve_left (by omega);exact⟨_,rfl,.inl ⟨um.toNat,h1,by rw[Int.toNat_of_nonneg h0],Z4 (g) (y) (r) (s) (H.pick [0,1,2,3,4,5] rfl)⟩⟩
 refine Qt<|Qc<|Qe<|Qa<|Qb U U<|Jn U U U<|Qb U U<|WU U U U<|Qd U U<|Qd U U<|Qf<|Qc<|Qh [2,3] U<|Qu<|Jt (.inr U) U U U ?_;rcases c with c | ⟨A,W⟩
 ·exact⟨_,rfl,.inr ⟨clk_all r (by rw[g,List.length_map];exact s) (λj I=>z c j (by rw[g,List.length_map]at I;omega)),by subst c;rfl,Z4 (g) (y) (r) (s) (H.pick [0,1,2,3,4,5] U)⟩⟩
 ·exact⟨_,rfl,.inl ⟨an.toNat,W,by rw[Int.max_eq_left A,det (show an>=0 from A),Int.toNat_of_nonneg A],Z4 (g) (y) (r) (s) (H.pick [0,1,2,3,4,5] U)⟩⟩
theorem UU {F:Th} (q:Sat w [DB p ul hd,F]):
    Calls prog 237 #[ptrV p 0] w (Ret λv w'=>v= .tuple #[]/\Sat w' [DB p ul (if hd+1<(ul.length:Int)then hd+1 else 0),F]):=by
 obtain⟨ob,cap,l,b1,b2,b3,g1,g2,g3,a,r,I,J,q⟩:=JV q;obtain⟨x,s⟩: ∃x,l[hd.toNat]? =some x:=⟨_,XQ (by omega)⟩;refine Qn func237 U ntmps237 U ?_;refine Qe ?_;have z:=q.drew;refine Q7 [0,1,2,3,4,5,6,7,8,9,10] [10] Z9 (by kernel_rfl) ?_;refine Q3 U U U<|QP U U U<|QG U U U Wd<|Q0 U U U (Ql U J8 (z.cell 0 U U))<|Q3 U U U<|QP U U U<|QG U U U Ho<|Q0 U U U (Ql U QL (z.cell 0 U U))<|Xi U U U (λ_=>(XK hd.toNat U U (by omega) (by omega) Hz)) ?_;refine QG U U U UL<|QO U U U U U U ?_;refine JZ 1 hd.toNat 1 {x with m:=false} z U U U (by show 0+hd.toNat*4+1=hd.toNat*4+1;omega) U Cj s U (by decide) U U ?_
 intro w2 A;dsimp only[List.set]at A;refine Zc (Xd (by kernel_rfl)) ?_;refine VC.nil (Qc (Qh [0] U (Qe (Qa (Qb U U (Qj U U (Qg U Ho U (Qo U QL (A.cell 0 U U) U (QE U U (by omega) (by omega) U ?_)))))))));refine Qj U U<|Qg U Ho U ?_
 first | (refine QK A U U YD (by rfl) (i:=0) U (Xk U) ?_)
 intro P H;dsimp only[List.set]at H;refine Qf<|Qc<|Qe<|Qe ?_;have n:=H.drew;refine Q7 [0,1,2,3,4,5,6,7,8,9] [] Z9 (by kernel_rfl) ?_;refine Q3 U U U<|QP U U U<|QG U U U Ho<|Q0 U U U (Ql U QL (n.cell 0 U U))<|Q3 U U U<|QP U U U<|QG U U U Wd<|Q0 U U U (Ql U J8 (n.cell 0 U U))<|Xi U U U (λ_=>(YT underlying181 U)) ?_;refine Xi U U U (λ_=>(Tu U U)) ?_;refine VC.nil (Qc (Qh [0,29] U (Qs U (λK=> ?_) (λK=> ?_))))
 ·refine Qu<|Qq<|Zb (.inr U) U ?_;exact⟨_,rfl,rfl,by rw[if_pos (by rw[a,List.length_map];omega)];exact Z4 (l:=l.set hd.toNat {x with m:=false}) (by rw[a];exact(Re (y:={x with m:=false}) s U).symm) (by rw[List.length_set];exact r) (by omega) (by rw[List.length_set];omega) (n.pick [0,1,2,3,4,5] U)⟩
 refine Qt<|Qc<|Qe<|Qa<|Qb U U<|Qj U U<|Qg U Ho U ?_
 first | (refine QK n U U YD (by rfl) (i:=0) U (Xk U) ?_)
 intro Q B;dsimp only[List.set]at B;refine Qf<|Qc<|Qe<|Qe<|Qa<|Qb U U<|Qj U U<|Qg U Wd U<|Qo U J8 (B.cell 0 U U) U<|Xl underlying181 U U<|Qb U U<|Qf<|Qc<|Qh [0,37,38] U<|Qx ?_;have C:=B.pick [0,1,2,3,4,5] U;have b:(l.set hd.toNat {x with m:=false}).length=l.length:=List.length_set
 refine QU (λK0 E0 W0=> ∃(l2:List CkD) (i:Nat),K0=l.length -i/\E0=[(0,ptrV p 0),(37,intV (l2.length:Int)),(38,intV (i:Int))]/\Sat W0 [Q6 p [.slice (some ⟨ob,0,none⟩) l2.length cap,intV 0,.map (some b1),.map (some b2),.map (some b3)],rowT ckC (.slice (some ⟨ob,0,none⟩) l2.length cap) l2,Q4 QY b1 (gI g1),Q4 QY b2 (gI g2),Q4 QY b3 (gI g3),F]/\(i<=l.length)/\(l2.length=l.length)/\(l2.map CkD.u=ul)) (L0:=[(0,_),(37,_),(38,_)]) (l.length -0) (VG U U U) ⟨l.set hd.toNat {x with m:=false},0,rfl,(by rw[b];rfl),by rw[b];exact C,by omega,b,by rw[Re (y:={x with m:=false}) s U];exact a.symm⟩ ?_
 rintro _ _ R ⟨l2,i,rfl,rfl,o,hi,D,h⟩;refine Qe<|Qa<|Xa U U U<|Qf<|Qc<|Qe<|Qs U (λE=> ?_) (λE=> ?_)
 ·obtain⟨x2,c⟩: ∃x,l2[i]? =some x:=⟨_,XQ (by omega)⟩;refine Qt<|Qc<|Qe<|Qx<|Qe<|Qa<|Qb U U<|Qd U U<|Qf<|Qc<|Qa<|Qb U U<|Qj U U<|Qg U Wd U<|Qo U J8 (o.cell 0 U U) U<|Qb U U<|Xj ckC 1 i o U U U (by rfl) c Hz U ?_;intro bx11 capx11 d;refine Qg U Tl U<|JZ 1 i 2 {x2 with t:=false} o U d U U U Cj c U (by decide) U (by rfl) ?_
  intro L j;dsimp only[List.set]at j;refine Qf<|Qm<|Qc<|Qh [38,37,0] U<|Qa<|QE U U (by omega) (by omega) U ?_;refine Qb U U<|Qf ?_;have G:=j.pick [0,1,2,3,4,5] U;exact Q5 (L1:=[(0,_),(37,intV ((l2.set i {x2 with t:=false}).length:Int)),(38,intV ((i+1:Nat):Int))]) (by rw[List.length_set];exact(VG U U U)) (k1:=l.length -(i+1)) (by omega) ⟨l2.set i {x2 with t:=false},i+1,rfl,rfl,by rw[List.length_set];exact G,by omega,by rw[List.length_set];exact D,by rw[Re (y:={x2 with t:=false}) c U];exact h⟩
 refine QQ<|Qp<|Qp<|Qy<|Qc<|Qe ?_;have e:=o.drew;refine Q7 [0,1,2,3,4,5,6,7,8,9,10,11,12,13,14,15] [12,15] Z9 (by kernel_rfl) ?_;refine Q3 U U U<|Q3 U U U<|Q3 U U U<|QP U U U<|QG U U U Tn<|Q0 U U U (Ql U YX (e.cell 0 U U))<|Q3 U U U<|QP U U U<|QG U U U Kn<|Q0 U U U (Ql U YX (e.cell 0 U U))<|QP U U U<|QG U U U Kn<|QO U U U U U U ?_
 first | (refine QK e U U sz_77 (by rfl) (i:=0) U (Xk U) ?_)
 intro M k;dsimp only[List.set]at k;refine Zc (Xd (by kernel_rfl)) ?_;refine QP U U U<|QG U U U Tn<|QO U U U U U U ?_
 first | (refine QK k U U sz_77 (by rfl) (i:=0) U (Xk U) ?_)
 intro N f;dsimp only[List.set]at f;refine Zc (Xd (by kernel_rfl)) ?_;refine VC.nil (Qc (Qh [0] U (Qa (Qb U U (Qj U U (Qg U Kn U (Qo U YX (f.cell 0 U U) U (Ox 4 f underlying77 U U U ?_))))))));intro O g;dsimp only[List.set]at g;rw[GD]at g;refine Qf<|Zb (.inl U) U ?_;exact⟨_,rfl,rfl,by rw[if_neg (by rw[a,List.length_map];omega)];exact Z4 h.symm (by omega) (by omega) (by omega) (g.pick [0,1,2,4,3,5] U)⟩
theorem IU {F:Th} (L:Sat w [N4 p ul,F]):
    Calls prog 221 #[ptrV p 0] w (Ret λv w'=>(∃k:Nat,ul[k]? =some true/\v= .tuple #[intV (k:Int),.bool true]/\Sat w' [N4 p ul,F])\/((∀x∈ul,x=false)/\v= .tuple #[intV 0,.bool false]/\Sat w' [N4 p ul,F])):=by
 obtain⟨hd,L⟩:=L.ex;refine Qn func221 U ntmps221 U ?_;refine Qe<|Qa<|Qd U U<|Qd U U<|Qf<|Qc<|Qe<|Qa<|Qb U U<|XF cal_236 U (F6 (L.sp [0] U)) U ?_;rintro e w1 ⟨_,rfl,(⟨k,A,rfl,n⟩ | ⟨M,rfl,n⟩)⟩
 ·refine⟨_,U, ?_⟩;replace n:=n.jn U U;refine Qb U U<|Qr U U U<|Qr U U U<|Qd U U<|Qd U U<|Qf<|Qc<|Qe<|Qe<|Qa<|Qb U U<|QX U U<|Qf<|Qc<|Qh [0,2,3,4,12] U<|QR U (λh2=> ?_) (λh2=> ?_)
  ·exact absurd h2 (by simp)
  refine Qt<|Qc<|Qe<|Qe ?_;obtain⟨ob,cap,l,b1,b2,b3,g1,g2,g3,o,B,C,D,b⟩:=JV (n.pick [0,1] rfl);have E:ul.length=l.length:=by rw[o,List.length_map]
  obtain⟨x,hx⟩: ∃x,l[k]? =some x:=⟨_,XQ (by have :=(Za A).1;omega)⟩;refine Qa<|Qb U U<|Qj U U<|Qg U Wd U<|Qo U J8 (b.cell 0 U U) U<|Qb U U<|Xj ckC 1 k b U U U (by rfl) hx Hz U ?_;intro bx3 capx3 G;refine Qg U UL U<|Zh 1 k 1 b U G U U hx VM U U<|Qf<|Qc<|Qh [0,2,3,4,20] U<|QR U (λh4=> ?_) (λh4=> ?_)
  ·refine Qe<|Qa<|Qb U U<|Qj U U<|Qg U Wd U<|Qo U J8 (b.cell 0 U U) U<|Xl underlying181 U U<|Qb U U<|Qf<|Qc<|Qh [0,2,3,4,25,26] U<|Qx ?_;have j5:=Z4 (o) (B) (C) (D) (b.pick [0,1,2,3,4,5] U);refine QU (λK0 E0 W0=> ∃(i:Nat) (h:Int),K0=ul.length -i/\E0=[(0,ptrV p 0),(4,intV (k:Int)),(25,intV (ul.length:Int)),(26,intV (i:Int))]/\Sat W0 [DB p ul h,F]/\(i<=ul.length)) (L0:=[(0,_),(4,_),(25,_),(26,_)]) (ul.length -0) (Rs U U U U) ⟨0,hd,rfl,(by rw[E];rfl),j5,by omega⟩ ?_;rintro _ _ w6 ⟨i,h,rfl,rfl,N,hi⟩;refine Qe<|Qa<|Xa U U U<|Qf<|Qc<|Qe<|Qs U (λh7=> ?_) (λh7=> ?_)
   ·refine Qt<|Qc<|Qe<|Qx<|Qa<|Qb U U<|Qw GX U (UU (N.sp [0] U)) U ?_;rintro _ w8 ⟨rfl,O⟩;replace O:=O.jn U U;refine Qf<|Qm<|Qc<|Qa<|QE U U (by omega) (by omega) U ?_;refine Qb U U<|Qf ?_;exact Q5 (L1:=[(0,_),(4,_),(25,_),(26,intV ((i+1:Nat):Int))]) (Rs U U U U) (k1:=ul.length -(i+1)) (by omega) ⟨i+1,_,rfl,rfl,O.pick [0,1] U,by omega⟩
   refine QQ<|Qp<|Qp<|Qy<|Qc<|Qe<|Qx ?_;obtain⟨q,r⟩: ∃x:Int,x=h:=⟨_,rfl⟩;rw[<-r]at N;refine QU (λK0 E0 W0=> ∃(h:Int),K0=(if h<=(k:Int)then(k:Int) -h else(ul.length:Int) -h+k).toNat/\E0=[(0,ptrV p 0),(4,intV (k:Int))]/\Sat W0 [DB p ul h,F]) (L0:=[(0,_),(4,_)]) ((if q<=(k:Int)then(k:Int) -q else(ul.length:Int) -q+k).toNat) (D0 U U) ⟨_,rfl,rfl,N⟩ ?_;rintro _ _ w9 ⟨h,rfl,rfl,j9⟩;refine Qe<|Qe ?_;obtain⟨ob3,cap3,l3,P,Q,R,S,T,V,a,c,d,g,j⟩:=JV (j9.pick [0,1] rfl);have s:ul.length=l3.length:=by rw[a,List.length_map]
   refine Qa<|Qb U U<|Qj U U<|Qg U Ho U<|Qo U QL (j.cell 0 U U) U<|Qb U U<|Xz U U U<|Qf ?_;have H:=Z4 a c d g (j.pick [0,1,2,3,4,5] U);refine Qc<|Qs U (λW=> ?_) (λW=> ?_)
   ·refine Qt<|Qc<|Qx<|Qa<|Qb U U<|Qw GX U (UU (H.sp [0] U)) U ?_;rintro _ a0 ⟨rfl,t⟩;replace t:=t.jn U U;refine Qf<|Qm ?_;have X:=(Za A).1;exact Q5 (L1:=[(0,_),(4,_)]) (D0 U U) (k1:=(if(if h+1<(ul.length:Int)then h+1 else 0)<=(k:Int)then(k:Int) -(if h+1<(ul.length:Int)then h+1 else 0)else(ul.length:Int) -(if h+1<(ul.length:Int)then h+1 else 0)+k).toNat) (by split<;>split<;>split<;>omega) ⟨_,rfl,rfl,t.pick [0,1] U⟩
   refine QQ<|Qp<|Qp<|Qy<|Qc<|Qe<|Qa<|Qb U U<|Qw GX U (UU (H.sp [0] U)) U ?_;rintro _ a1 ⟨rfl,u⟩;replace u:=u.jn U U;exact Qf (Qc (Qe (Qa (Qb U U (Qd U U (Qd U U (Qf (Qc (Qh [2,3] U (Qu (Jt (.inr U) U U U (⟨_,rfl,.inl ⟨k,A,rfl,Sat.ex_intro (f:= λh:Int=>DB p ul h) _ (u.pick [0,1] U)⟩⟩))))))))))))
  refine Qt<|Qc<|Qe<|Qx ?_;have I:=Z4 (o) (B) (C) (D) (b.pick [0,1,2,3,4,5] U);obtain⟨q,r⟩: ∃x:Int,x=hd:=⟨_,rfl⟩;rw[<-r]at I;refine QU (λK0 E0 W0=> ∃(h:Int),K0=(if h<=(k:Int)then(k:Int) -h else(ul.length:Int) -h+k).toNat/\E0=[(0,ptrV p 0),(4,intV (k:Int))]/\Sat W0 [DB p ul h,F]) (L0:=[(0,_),(4,_)]) ((if q<=(k:Int)then(k:Int) -q else(ul.length:Int) -q+k).toNat) (D0 U U) ⟨_,rfl,rfl,I⟩ ?_;rintro _ _ a2 ⟨h,rfl,rfl,Y⟩;refine Qe<|Qe ?_;obtain⟨ob3,cap3,l3,P,Q,R,S,T,V,a,c,d,g,m⟩:=JV (Y.pick [0,1] rfl);have s:ul.length=l3.length:=by rw[a,List.length_map]
  refine Qa<|Qb U U<|Qj U U<|Qg U Ho U<|Qo U QL (m.cell 0 U U) U<|Qb U U<|Xz U U U<|Qf ?_;have J:=Z4 a c d g (m.pick [0,1,2,3,4,5] U);refine Qc<|Qs U (λZ=> ?_) (λZ=> ?_)
  ·refine Qt<|Qc<|Qx<|Qa<|Qb U U<|Qw GX U (UU (J.sp [0] U)) U ?_;rintro _ a3 ⟨rfl,y⟩;replace y:=y.jn U U;refine Qf<|Qm ?_;have X:=(Za A).1;exact Q5 (L1:=[(0,_),(4,_)]) (D0 U U) (k1:=(if(if h+1<(ul.length:Int)then h+1 else 0)<=(k:Int)then(k:Int) -(if h+1<(ul.length:Int)then h+1 else 0)else(ul.length:Int) -(if h+1<(ul.length:Int)then h+1 else 0)+k).toNat) (by split<;>split<;>split<;>omega) ⟨_,rfl,rfl,y.pick [0,1] U⟩
  refine QQ<|Qp<|Qp<|Qy<|Qc<|Qe<|Qa<|Qb U U<|Qw GX U (UU (J.sp [0] U)) U ?_;rintro _ a4 ⟨rfl,z⟩;replace z:=z.jn U U;exact Qf (Qc (Qe (Qa (Qb U U (Qd U U (Qd U U (Qf (Qc (Qh [2,3] U (Qu (Jt (.inr U) U U U (⟨_,rfl,.inl ⟨k,A,rfl,Sat.ex_intro (f:= λh:Int=>DB p ul h) _ (z.pick [0,1] U)⟩⟩))))))))))))
 refine⟨_,U, ?_⟩;replace n:=n.jn U U;refine Qb U U<|Qr U U U<|Qr U U U<|Qd U U<|Qd U U<|Qf<|Qc<|Qe<|Qe<|Qa<|Qb U U<|QX U U<|Qf<|Qc<|Qh [0,2,3,4,12] U<|QR U (λK=> ?_) (λK=> ?_)
 ·exact Qe (Qa (Qd U U (Qd U U (Qf (Qc (Qu (Qq (Jt (.inr U) U U U (⟨_,rfl,.inr ⟨M,rfl,Sat.ex_intro (f:= λh:Int=>DB p ul h) _ (n.pick [0,1] U)⟩⟩)))))))))
 exact absurd K (by simp)
theorem ckgoneT {F:Th} (a:Sat w [N4 p ul,F]) (f:Int) (b:0<=f/\f<(ul.length:Int)):
    Calls prog 229 #[ptrV p 0,intV f] w (Ret λv w'=>v= .tuple #[]/\Sat w' [N4 p (ul.set f.toNat false),F]):=by
  obtain⟨hd,a⟩:=a.ex;exact(BU a f b).mono λe g h=>h.mono λv w2 ⟨c,d⟩=>⟨c,Sat.ex_intro (f:= λh:Int=>DB p (ul.set f.toNat false) h) hd d⟩
theorem qe7 {F:Th} (a:Sat w [N4 p ul,F]) (f:Int) (b:0<=f/\f<(ul.length:Int)) (owner:Int):
    Calls prog 223 #[ptrV p 0,intV f,intV owner] w (Ret λv w'=>v= .tuple #[]/\Sat w' [N4 p (ul.set f.toNat true),F]):=by
  obtain⟨hd,a⟩:=a.ex;exact(qe6 a f b owner).mono λe g h=>h.mono λv w2 ⟨c,d⟩=>⟨c,Sat.ex_intro (f:= λh:Int=>DB p (ul.set f.toNat true) h) hd d⟩
theorem ckrow {Z:List Value} (a:Z=ckC.enc ⟨false,false,false,0⟩) (m:Nat):(List.replicate m Z).flatten=ckC.cells (List.replicate m ⟨false,false,false,0⟩):=by
  subst a
  induction m with
  | zero=>rfl
  | succ m ih=> rw[List.replicate_succ,List.flatten_cons,ih,List.replicate_succ];rfl
theorem qe8 {F:Th} (g:Sat w [F]) (n:Int) (j:1<=n):
    Calls prog 57 #[intV n] w (Ret λv w'=> ∃p,v=ptrV p 0/\Sat w' [N4 p (List.replicate (min (max n 0) 4096).toNat false),F]):=by
 refine Qn func57 U ntmps57 U ?_;refine Qe<|Qa<|Qd U U<|Qf<|Qc<|Qe<|Qa<|Qb U U<|Jn U U U<|H3 U U U<|Ve g (min (max n 0) 4096).toNat U U (by omega) underlying181 ifo_281 U (by omega) (by omega) U ?_;intro db k a;have i:=a.row_cast (l:=List.replicate (min (max n 0) 4096).toNat ⟨false,false,false,0⟩) (C:=ckC) (by simp) U (ckrow U _);refine XS QY i U ?_;intro mb1 w2 c;rw[GD]at c;refine XS QY c U ?_;intro mb2 m d;rw[GD]at d;refine XS QY d U ?_;intro mb3 o e;rw[GD]at e;refine Zj U MP asz_183 zr_183 U U<|XL e U U U ?_;intro bp wbp b;refine Qd U U<|Qf<|Qc<|Qh [2] U<|Qu<|QJ (.inr U) U U ?_;exact⟨_,rfl,_,rfl,Sat.ex_intro (f:= λh:Int=>DB bp _ h) 0 (Z4 (l:=List.replicate (min (max n 0) 4096).toNat ⟨false,false,false,0⟩) (by rw[List.map_replicate]) (by rw[List.length_replicate];omega) (by omega) (by rw[List.length_replicate];omega) (b.pick [0,4,3,2,1,5] U))⟩
end Go.Proofs.YtifaibmhinlcfaaGreatDoor
namespace Go.Proofs.YtifaibmhinlcfaaGreatDoor.M
open Go.RowKit Go.Sort Proofs.Tryz
def XU (l:List Int):List Int:=l.mergeSort λx y=>decide (x<=y)
theorem Y2 (l:List Int):(XU l).Perm l:=List.mergeSort_perm _ _
theorem Yd (l:List Int):(XU l).length=l.length:=(Y2 l).length_eq
theorem Cl (d xs:List Int) (sp:List Value) (h:d.length=xs.length):(putCells (Value.int .i64) 0 d.toArray (xs.map intV++sp).toArray)=(d.map intV++sp).toArray:=by
  apply Array.ext_getElem?;intro k;unfold putCells;simp only[Array.getElem?_mapIdx,List.getElem?_toArray,Nat.zero_le,true_and,Nat.zero_add,Nat.sub_zero,List.size_toArray];by_cases a:k<d.length
  · rw[List.getElem?_append_left (by simpa [<-h]using a),List.getElem?_append_left (by simpa using a)];simp [a,h▸a,intV]
  · rw[List.getElem?_append_right (by simp;omega),List.getElem?_append_right (by simp;omega)];have b: ¬k<xs.length:=by omega
    simp only[List.length_map,h,b,if_false,Option.map_id']
theorem F9 {P:Program} {f:Nat}
    (c: ∀(blk off cap:Nat) (ss:List Int) (w:World),Holds (Value.int .i64) w blk off ss.toArray->blk<w.heap.size->ss.length<4611686018427387904->Calls P f #[.slice (some ⟨blk,off,none⟩) ss.length cap] w λe w'=>e= .returned (.tuple #[])/\ ∃n os,w'=grow (putRow (Value.int .i64) (Go.Sort.ahead w n) blk off (ss.mergeSort λx y=>decide (x<=y)).toArray) os)
    (d: ∀(p:Option Addr) (cap:Nat) (w:World),Calls P f #[.slice p 0 cap] w λe w'=>e= .returned (.tuple #[])/\w'=w)
    {w:World} {v:Value} {l:List Int} {As:List Th} (C:Sat w (rowT inC v l::As)) (K:l.length<4611686018427387904):Calls P f #[v] w (Ret λu w'=>u= .tuple #[]/\Sat w' (rowT inC v (XU l)::As)):=by
  obtain⟨foot,I,h⟩:=C.own 0 rfl;rcases h with⟨rfl,D,L⟩ | ⟨b,cap,sp,rfl,o,m,r,L⟩
  · have :l=[]:=List.eq_nil_of_length_eq_zero D;subst this;exact(d none 0 w).mono λe w' ⟨E,a⟩=>⟨_,E,rfl,by rw[a];simpa [XU]using C⟩
  · have M:Holds (Value.int .i64) w b 0 l.toArray:= λj N=>by
      have s:j<l.length:=by simpa using N
      rw[RU]at m;refine⟨?_, ?_⟩
      · rw[Nat.zero_add];refine m.cell ?_;rw[List.getElem?_append_left (by simpa using s)];simp [s,intV]
      · exact m.free _ (by simp;omega)
    refine(c b 0 cap l w M m.lt K).mono λe w' ⟨E,n,os,a⟩=>⟨_,E,rfl, ?_⟩;have F:=m.lt
    have i: ∀k,k<w.heap.size->k≠b->w'.heap[k]? =w.heap[k]? := λk t G=>by
      rw[a,heap_grow_old _ _ (by simpa using t)];simp only[putRow,mapBlock,heap_ahead,Array.getElem?_modify];rw[if_neg (λq=>G q.symm)]
    obtain⟨T,lo,hi,O,H⟩:=m
    have z:w'.heap[b]? =some (.cells ((XU l).map intV++sp).toArray T (lo,hi)):=by
      rw[a,heap_grow_old _ _ (by simpa using F)];simp only[putRow,mapBlock,heap_ahead,Array.getElem?_modify,if_pos,O,Option.map_some,onCells,RU];rw[show(l.mergeSort λx y=>decide (x<=y))=XU l from rfl,Cl _ _ _ (Yd l)]
    have Q:Only [b] w w':=by
      refine⟨?_, ?_, ?_, ?_,λk t D=>i k t (by simpa using D)⟩
      · rw[a];rfl
      · rw[a];rfl
      · rw[a];rfl
      · rw[a];simp
    have A:=C.own_set (w':=w') 0 U (v':= .slice (some ⟨b,0,none⟩) l.length cap) (n':=l.length) (size':=1) (xs':=inC.cells (XU l)) (λfoot' g=>by
      obtain⟨_,g⟩:=g;rcases g with⟨B,_⟩ | ⟨b',cap',sp',B,g1,g2,g3,J⟩
      · cases B
      · simp only[Value.slice.injEq,Option.some.injEq,Addr.mk.injEq,and_true,true_and]at B;obtain⟨rfl,rfl⟩:=B;refine⟨[b],⟨?_,.inr ⟨b,cap,sp,U,o,⟨T,lo,hi, ?_, ?_⟩, ?_,U⟩⟩, ?_, ?_⟩
        · rw[inC.cells_len,Yd];rfl
        · rw[RU];exact z
        · rcases H with q | q
          · exact .inl q
          · refine .inr ?_;simp only[List.length_append,inC.cells_len,Yd]at q⊢;exact q
        · simp only[List.length_append,inC.cells_len,Yd]at r⊢;exact r
        · rw[J];exact Q
        · rw[J];intro k t;exact .inl t)
    have e:(XU l).length=l.length:=Yd l;show Sat w' (Jk _ (XU l).length 1 _::As);rw[e];exact A
