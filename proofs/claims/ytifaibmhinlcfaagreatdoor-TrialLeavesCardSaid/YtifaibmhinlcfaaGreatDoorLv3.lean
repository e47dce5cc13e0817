/- leaves: owned -/
import Derived.Test.YtifaibmhinlcfaaGreatDoorTr2
set_option linter.unusedSectionVars false
set_option linter.unusedVariables false
set_option maxRecDepth 100000
set_option maxHeartbeats 80000000000
namespace Go.Proofs.YtifaibmhinlcfaaGreatDoor
open Go.RowKit M Proofs.Tryz
variable [Inhabited SlW]
variable {As:List Th} {L L':LvD} {V V':VS} {b n p:Nat} {e i id j s:Int} {k:KD} {t:TrD} {w:World} {x:LfD}
theorem Lu:HX V j i≠none↔V i≠none:=by
  unfold HX;cases h:V j with
  | none=> exact Iff.rfl
  | some x=>
    dsimp only;by_cases e:i=j
    · subst e;rw[Qv,h];simp
    · rw[Qz e]
theorem Y3:refW V j i≠none↔V i≠none:=by
  unfold refW;split
  · exact Iff.rfl
  · exact Lu
def XP (V:VS) (j:Int):Prop:=j=0\/V j≠none
theorem stT_len {F:Nat} (h:Sat w (ZP p n F V::As)) {x:Int×Bs} (a:V j=some x):x.2.length=64:=by
  obtain⟨S,d,rfl,_,_⟩:=JN h;unfold vw at a;cases b:S.all j with
  | none=> rw[b]at a;cases a
  | some y=>
    rw[b]at a;have c:(y.refs,y.pg)=x:=by simpa using a
    subst c;exact(d.ent b).2.2.2.2.1
theorem NM {F:Nat} (h:Sat w (ZP p n F V::As)) (a:XP V j):(Zm V j).length=64:=by
  unfold Zm;cases b:V j with
  | none=>
    rcases a with rfl | a
    · simp [zer]
    · exact absurd b a
  | some x=> exact stT_len h b
theorem TouR.alive {t':TrD} {x':LfD} (h:TouR L V id t k L' V' t' x') (c:L.tr id=some t) (d:id≠0) (b:XP V (XA L id k)):XP V' x'.own:=by
  rcases h with⟨f,rfl,rfl,rfl⟩ | ⟨_,a,rfl,_,_,rfl⟩
  · have e:XA L' id k=x'.own:=UD d c f
    rwa [e]at b
  · rcases b with e | b
    · exact .inl e
    · exact .inr (Y3.2 (Y3.2 b))
theorem own0_sp {Fr:Nat} {F:Th} (N:Sat w [WB b L,ZP L.sp n Fr V,F]) (W:n<=60000000000) (O: ∀i,HG L.tr ZO i) (u:XP V (L.pres k)):
    Calls prog 97 #[ptrV b 0,intV 0,X7 k] w (Ret λv w'=> ∃L' V' s e,v= .tuple #[intV s,intV e]/\OwnP L V k Fr L' V' s e/\Sat w' [WB b L',ZP L'.sp (n+4) Fr V',F]):=by
 refine Qn func97 U ntmps97 U ?_;refine Qe<|Qa<|XL N U U U ?_;intro kb X C;replace C:=Zr C;refine Qd U U<|Qd U U<|Qf<|Qc<|Qe<|Qa<|Qd U U<|Qf<|Qc<|Qe<|Qe<|Qa<|Qb U U<|Xz U U U<|Qf<|Qc<|Qs U (λM=> ?_) (λM=> ?_)
 ·exact absurd U M
 refine Qt<|Qc<|Qe<|Qa<|Qb U U<|Qb U U ?_;refine XX U Xu Xb (by first | exact C.blk 0 U) (by first | decide | exact Xk U | (simp;done) | omega) U U ?_
 refine Qw HD U (Vk (C.sp [1] U) O 0 k) U ?_;rintro _ Y ⟨rfl,E⟩;replace E:=E.jn U U;rw[show XA L 0 k=L.pres k from UC U];refine Qd U U<|Qf<|Qc<|Qh [0,5,6,7,8,9] U<|Qe<|Qe ?_;have G:=Zo (E.pick [0,1,2,3] U);refine Qa<|Qb U U<|Xz U U U<|Qb U U<|QZ 24 U (λa=> ?_) (λa=> ?_)
 ·have H:L.pres k≠0:=a;refine Qk U U (det a)<|Qb U U<|Qk U U (det a)<|Qj U U<|Qk U U (det a)<|Qg U XC U<|Qk U U (det a)<|Qo U Xr (G.cell 0 U U) U<|Qk U U (det a)<|Qb U U<|Qk U U (det a)<|Qw TO U (NO (G.sp [6] U) (L.pres k)) U ?_;rintro _ Z ⟨rfl,D⟩;replace D:=D.jn U U;refine Qk U U (det a)<|Xg U U U<|QF U (det a) U U<|Qf<|Qc<|Qh [0,5,6,7,8,9,32] U<|Qs U (λI=> ?_) (λI=> ?_)
  ·have J:ZF V (L.pres k)=1:=I;exact Qe (Qa (Qb U U (Qd U U (Qd U U (Qf (Qc (Qu (Qq (Jt (.inr U) U U U (⟨_,rfl,L,V,_,_,rfl,.inl ⟨rfl,rfl,H,J,rfl,rfl⟩,((X3 (m:=n+4) (by omega) (D.pick [0,1,2,3,4,5,7] U)).reorder [1,2,3,4,5,0,6] U |> λq=>Xq q)⟩))))))))))
  have h: ¬(L.pres k≠0/\ZF V (L.pres k)=1):= λq=>I q.2;refine Qt<|Qc<|Qe ?_;have K:=D.drew;refine Q7 [0,1,2,3,4,5,6,7,8,9,10,11,12,13,14,15] [9,10] Z9 (by kernel_rfl) ?_;refine Q3 U U U<|QP U U U<|QG U U U XC<|Q0 U U U (Ql U Xr (K.cell 1 U U))<|Q3 U U U<|QP U U U<|QG U U U XC<|Q0 U U U (Ql U Xr (K.cell 1 U U))<|Q3 U U U<|QO U U U U U U ?_;refine Qw Yh U (U4 (K.sp [0] U) (L.pres k)) U ?_;rintro _ w9 ⟨rfl,x⟩;replace x:=x.jn U U;refine Xh (.skip (by kernel_rfl) (.cons (.inl ⟨rfl,(Ql U Xr (x.cell 1 U U))⟩) .nil)) ?_;refine QO U U U U U U ?_;have f:=NM (x.pick [0,1,2,3,4,5,6,7] U) u;refine XF Bc U (DK (x.sp [0] U) (by omega) f) U ?_;rintro e P ⟨_,rfl,(⟨rfl,j,c⟩ | ⟨fr,rfl,l,o,c⟩)⟩
  ·refine⟨_,U, ?_⟩;replace c:=c.jn U U;refine Xh (Xd (by kernel_rfl)) ?_;refine Q3 U U U<|ZX U U U U<|ZX U U U U<|Zd U U U<|Zd U U U (VC.nil (Qc (Qh [0,5,6,7,8,10,11] U (Qe (Qe (Qa (Qb U U (Xz U U U (Qf (Qc (Qs U (λy=> ?_) (λy=> ?_))))))))))))
   ·exact Qe (Qa (Qb U U (Qd U U (Qd U U (Qf (Qc (Qu (Qq (Jt (.inr U) U U U (⟨_,rfl,L,V,_,_,rfl,.inr (.inl ⟨rfl,rfl,j,rfl,rfl⟩),((X3 (m:=n+4) (by omega) (c.pick [0,1,2,3,4,5,7] U)).reorder [1,2,3,4,5,0,6] U |> λq=>Xq q)⟩))))))))))
   exact absurd (by decide) y
  refine⟨_,U, ?_⟩;replace c:=c.jn U U;refine Xh (Xd (by kernel_rfl)) ?_;refine Q3 U U U<|ZX U U U U<|ZX U U U U<|Zd U U U<|Zd U U U (VC.nil (Qc (Qh [0,5,6,7,8,10,11] U (Qe (Qe (Qa (Qb U U (Xz U U U (Qf (Qc (Qs U (λz=> ?_) (λz=> ?_))))))))))))
  ·exact absurd U z
  refine Qt<|Qc<|Qe<|Qe<|Qa<|Qb U U<|Ya underlying159 U U U<|Qf<|Qc<|Qh [0,5,6,7,8,10,52] U<|Xm U<|Qa<|Qb U U ?_;refine XX U Xu Xb (by first | exact c.blk 1 U | exact c.blk 6 U) (by first | decide | exact Xk U | (simp;done) | omega) U U ?_
  refine Qb U U<|Qw Bb U (qbz (c.sp [1,2,5,0] U) (by omega) k fr) U ?_;rintro _ Q ⟨rfl,p⟩;replace p:=p.jn U U;exact Qf (Qc (Qh [6,7,10] U (Qe (Qa (Qb U U (Qd U U (Qd U U (Qf (Qc (Qu (Jt (.inr U) U U U (⟨_,rfl,{L with pres:=ZS L.pres k fr,sh:=YV (QN V fr (some (1,Zm V (L.pres k)))) L.sh (L.pres k)},_,_,_,rfl,.inr (.inr ⟨rfl,l,o,h,rfl,rfl⟩),((X3 (m:=n+4) (by omega) (p.pick [3,0,1,4,5,2,7] U)).reorder [1,2,3,4,5,0,6] U |> λq=>Xq (L:={L with pres:=ZS L.pres k fr,sh:=YV (QN V fr (some (1,Zm V (L.pres k)))) L.sh (L.pres k)}) q)⟩))))))))))))
 have h: ¬(L.pres k≠0/\ZF V (L.pres k)=1):= λq=>a q.1;refine Qi U U (QH a) U<|Qi U U (QH a) U<|Qi U U (QH a) U<|Qi U U (QH a) U<|Qi U U (QH a) U<|Qi U U (QH a) U<|Qi U U (QH a) U<|Q9 U (QH a) U U<|Qf<|Qc<|Qh [0,5,6,7,8,9,32] U<|QM U<|Qt<|Qc<|Qe ?_;have r:=G.drew;refine Q7 [0,1,2,3,4,5,6,7,8,9,10,11,12,13,14,15] [9,10] Z9 (by kernel_rfl) ?_;refine Q3 U U U<|QP U U U<|QG U U U XC<|Q0 U U U (Ql U Xr (r.cell 0 U U))<|Q3 U U U<|QP U U U<|QG U U U XC<|Q0 U U U (Ql U Xr (r.cell 0 U U))<|Q3 U U U<|QO U U U U U U ?_;refine Qw Yh U (U4 (r.sp [6] U) (L.pres k)) U ?_;rintro _ R ⟨rfl,g⟩;replace g:=g.jn U U;refine Xh (.skip (by kernel_rfl) (.cons (.inl ⟨rfl,(Ql U Xr (g.cell 1 U U))⟩) .nil)) ?_;refine QO U U U U U U ?_;have f:=NM (g.pick [0,1,2,3,4,5,6,7] U) u;refine XF Bc U (DK (g.sp [0] U) (by omega) f) U ?_;rintro e S ⟨_,rfl,(⟨rfl,j,d⟩ | ⟨fr,rfl,l,o,d⟩)⟩
 ·refine⟨_,U, ?_⟩;replace d:=d.jn U U;refine Xh (Xd (by kernel_rfl)) ?_;refine Q3 U U U<|ZX U U U U<|ZX U U U U<|Zd U U U<|Zd U U U (VC.nil (Qc (Qh [0,5,6,7,8,10,11] U (Qe (Qe (Qa (Qb U U (Xz U U U (Qf (Qc (Qs U (λA=> ?_) (λA=> ?_))))))))))))
  ·exact Qe (Qa (Qb U U (Qd U U (Qd U U (Qf (Qc (Qu (Qq (Jt (.inr U) U U U (⟨_,rfl,L,V,_,_,rfl,.inr (.inl ⟨rfl,rfl,j,rfl,rfl⟩),((X3 (m:=n+4) (by omega) (d.pick [0,1,2,3,4,5,7] U)).reorder [1,2,3,4,5,0,6] U |> λq=>Xq q)⟩))))))))))
  exact absurd (by decide) A
 refine⟨_,U, ?_⟩;replace d:=d.jn U U;refine Xh (Xd (by kernel_rfl)) ?_;refine Q3 U U U<|ZX U U U U<|ZX U U U U<|Zd U U U<|Zd U U U (VC.nil (Qc (Qh [0,5,6,7,8,10,11] U (Qe (Qe (Qa (Qb U U (Xz U U U (Qf (Qc (Qs U (λB=> ?_) (λB=> ?_))))))))))))
 ·exact absurd U B
 refine Qt<|Qc<|Qe<|Qe<|Qa<|Qb U U<|Ya underlying159 U U U<|Qf<|Qc<|Qh [0,5,6,7,8,10,52] U<|Xm U<|Qa<|Qb U U ?_;refine XX U Xu Xb (by first | exact d.blk 1 U | exact d.blk 6 U) (by first | decide | exact Xk U | (simp;done) | omega) U U ?_
 refine Qb U U<|Qw Bb U (qbz (d.sp [1,2,5,0] U) (by omega) k fr) U ?_;rintro _ T ⟨rfl,t⟩;replace t:=t.jn U U;exact Qf (Qc (Qh [6,7,10] U (Qe (Qa (Qb U U (Qd U U (Qd U U (Qf (Qc (Qu (Jt (.inr U) U U U (⟨_,rfl,{L with pres:=ZS L.pres k fr,sh:=YV (QN V fr (some (1,Zm V (L.pres k)))) L.sh (L.pres k)},_,_,_,rfl,.inr (.inr ⟨rfl,l,o,h,rfl,rfl⟩),((X3 (m:=n+4) (by omega) (t.pick [3,0,1,4,5,2,7] U)).reorder [1,2,3,4,5,0,6] U |> λq=>Xq (L:={L with pres:=ZS L.pres k fr,sh:=YV (QN V fr (some (1,Zm V (L.pres k)))) L.sh (L.pres k)}) q)⟩))))))))))))
theorem ownT_sp {Fr:Nat} {F:Th} (hS:Sat w [WB b L,ZP L.sp n Fr V,F]) (hn:n<=60000000000) (hE: ∀i,HG L.tr ZO i) (D:L.tr id=some t) (R:id≠0) (S:XP V (XA L id k)):
    Calls prog 97 #[ptrV b 0,intV id,X7 k] w (Ret λv w'=> ∃L1 V1 t1 x1 L' V' s e,v= .tuple #[intV s,intV e]/\TouR L V id t k L1 V1 t1 x1/\OwnT L1 V1 id t1 k x1 Fr L' V' s e/\Sat w' [WB b L',ZP L'.sp (n+4) Fr V',F]):=by
 refine Qn func97 U ntmps97 U ?_;refine Qe<|Qa<|XL hS U U U ?_;intro kb w1 O;replace O:=Zr O;refine Qd U U<|Qd U U<|Qf<|Qc<|Qe<|Qa<|Qd U U<|Qf<|Qc<|Qe<|Qe<|Qa<|Qb U U<|Xz U U U<|Qf<|Qc<|Qs U (λh2=> ?_) (λh2=> ?_)
 ·refine Qa<|Qb U U<|Qb U U ?_;refine XX U Xu Xb (by first | exact O.blk 0 U) (by first | decide | exact Xk U | (simp;done) | omega) U U ?_
  refine Qw Rg U (UA (O.sp [1,2] U) (by omega) hE D (k:=k)) U ?_;rintro _ w3 ⟨L1,V1,t1,x1,rfl,j,P⟩;replace P:=P.jn U U;have l:=j.tr D;have o:=j.lv;have T:=j.ends D hE;have p:=j.alive D R S;refine Qd U U<|Qf<|Qc<|Qh [1,0,5,6,7,8] U<|Qe<|Qa<|Qb U U<|Qb U U ?_;refine XX U Xu Xb (by first | exact P.blk 2 U) (by first | decide | exact Xk U | (simp;done) | omega) U U ?_
  refine Qw HD U (Vk (P.sp [0] U) T id k) U ?_;rintro _ w4 ⟨rfl,W⟩;replace W:=W.jn U U;rw[j.sees D R];refine Qd U U<|Qf<|Qc<|Qh [0,5,6,7,8,9] U<|Qe<|Qe ?_;have X:=Zo (W.pick [0,1,2,3] U);refine Qa<|Qb U U<|Xz U U U<|Qb U U<|QZ 24 U (λa=> ?_) (λa=> ?_)
  ·have Y:x1.own≠0:=a;refine Qk U U (det a)<|Qb U U<|Qk U U (det a)<|Qj U U<|Qk U U (det a)<|Qg U XC U<|Qk U U (det a)<|Qo U Xr (X.cell 0 U U) U<|Qk U U (det a)<|Qb U U<|Qk U U (det a)<|Qw TO U (NO (X.sp [5] U) x1.own) U ?_;rintro _ w7 ⟨rfl,Q⟩;replace Q:=Q.jn U U;refine Qk U U (det a)<|Xg U U U<|QF U (det a) U U<|Qf<|Qc<|Qh [0,5,6,7,8,9,32] U<|Qs U (λZ=> ?_) (λZ=> ?_)
   ·have a0:ZF V1 x1.own=1:=Z;exact Qe (Qa (Qb U U (Qd U U (Qd U U (Qf (Qc (Qu (Qq (Jt (.inr U) U U U (⟨_,rfl,L1,V1,t1,x1,L1,V1,_,_,rfl,j,.inl ⟨rfl,rfl,Y,a0,rfl,rfl⟩,((X3 (m:=n+4) (by omega) (Q.pick [0,1,2,3,4,5,7] U)).reorder [1,2,3,4,5,0,6] U |> λq=>Xq q)⟩))))))))))
   have r: ¬(x1.own≠0/\ZF V1 x1.own=1):= λq=>Z q.2;refine Qt<|Qc<|Qe ?_;have j9:=Q.drew;refine Q7 [0,1,2,3,4,5,6,7,8,9,10,11,12,13,14,15] [9,10] Z9 (by kernel_rfl) ?_;refine Q3 U U U<|QP U U U<|QG U U U XC<|Q0 U U U (Ql U Xr (j9.cell 1 U U))<|Q3 U U U<|QP U U U<|QG U U U XC<|Q0 U U U (Ql U Xr (j9.cell 1 U U))<|Q3 U U U<|QO U U U U U U ?_;refine Qw Yh U (U4 (j9.sp [0] U) x1.own) U ?_;rintro _ a5 ⟨rfl,f⟩;replace f:=f.jn U U;refine Xh (.skip (by kernel_rfl) (.cons (.inl ⟨rfl,(Ql U Xr (f.cell 1 U U))⟩) .nil)) ?_;refine QO U U U U U U ?_;have g:=NM (f.pick [0,1,2,3,4,5,6,7] U) p;refine XF Bc U (DK (f.sp [0] U) (by omega) g) U ?_;rintro e a6 ⟨_,rfl,(⟨rfl,u,c⟩ | ⟨fr,rfl,x,z,c⟩)⟩
   ·refine⟨_,U, ?_⟩;replace c:=c.jn U U;refine Xh (Xd (by kernel_rfl)) ?_;refine Q3 U U U<|ZX U U U U<|ZX U U U U<|Zd U U U<|Zd U U U (VC.nil (Qc (Qh [0,5,6,7,8,10,11] U (Qe (Qe (Qa (Qb U U (Xz U U U (Qf (Qc (Qs U (λE=> ?_) (λE=> ?_))))))))))))
    ·exact Qe (Qa (Qb U U (Qd U U (Qd U U (Qf (Qc (Qu (Qq (Jt (.inr U) U U U (⟨_,rfl,L1,V1,t1,x1,L1,V1,_,_,rfl,j,.inr (.inl ⟨rfl,rfl,u,rfl,rfl⟩),((X3 (m:=n+4) (by omega) (c.pick [0,1,2,3,4,5,7] U)).reorder [1,2,3,4,5,0,6] U |> λq=>Xq q)⟩))))))))))
    exact absurd (by decide) E
   refine⟨_,U, ?_⟩;replace c:=c.jn U U;refine Xh (Xd (by kernel_rfl)) ?_;refine Q3 U U U<|ZX U U U U<|ZX U U U U<|Zd U U U<|Zd U U U (VC.nil (Qc (Qh [0,5,6,7,8,10,11] U (Qe (Qe (Qa (Qb U U (Xz U U U (Qf (Qc (Qs U (λG=> ?_) (λG=> ?_))))))))))))
   ·exact absurd U G
   refine Qt<|Qc<|Qe<|Qe<|Qa<|Qb U U<|XG underlying159 U U U<|Qf<|Qc<|Qh [0,5,6,7,8,10,52] U<|QM U<|Qe ?_;have a1:=Xq (L:=L1) (c.pick [1,2,3,4,5,0,6,7] U);have H:=YL l o (a1.pick [0,1,2,3] U);refine Qa<|Qb U U<|Qb U U<|Qj U U<|Qg U WP U<|Qo U QL (H.cell 0 U U) U<|Qw Vy U (Vh (H.sp [6,9,10] U) (by omega) x1.own) U ?_;rintro _ a7 ⟨rfl,A⟩;replace A:=A.jn U U;refine Qf<|Qc<|Qh [6,7,8,10] U<|Qa<|Qb U U<|Qb U U<|Qj U U<|Qg U WP U<|QK A U U YD U (i:=3) U (Xk U) ?_;intro a8 I;dsimp only[List.set]at I;refine Qf<|Qc<|Qe<|Qa<|Qb U U<|Qd U U<|Qd U U<|Qf<|Qc<|Qu<|Jt (.inr U) U U U ?_;have a2:=Js (L:={L1 with sh:=YV (QN V1 fr (some (1,Zm V1 x1.own))) L1.sh x1.own}) (y:={x1 with own:=fr}) l o U (I.pick [3,4,5,6,7,8,0,9,10,1,2,11,12] U)
   exact⟨_,rfl,L1,V1,t1,x1,ZA ({L1 with sh:=YV (QN V1 fr (some (1,Zm V1 x1.own))) L1.sh x1.own}) id t1 k {x1 with own:=fr},_,_,_,rfl,j,.inr (.inr ⟨rfl,x,z,r,rfl,rfl⟩),(X3 (m:=n+4) (by omega) (a2.pick [1,0,3] U)).reorder [1,0,2] U⟩
  have r: ¬(x1.own≠0/\ZF V1 x1.own=1):= λq=>a q.1;refine Qi U U (QH a) U<|Qi U U (QH a) U<|Qi U U (QH a) U<|Qi U U (QH a) U<|Qi U U (QH a) U<|Qi U U (QH a) U<|Qi U U (QH a) U<|Q9 U (QH a) U U<|Qf<|Qc<|Qh [0,5,6,7,8,9,32] U<|QM U<|Qt<|Qc<|Qe ?_;have B:=X.drew;refine Q7 [0,1,2,3,4,5,6,7,8,9,10,11,12,13,14,15] [9,10] Z9 (by kernel_rfl) ?_;refine Q3 U U U<|QP U U U<|QG U U U XC<|Q0 U U U (Ql U Xr (B.cell 0 U U))<|Q3 U U U<|QP U U U<|QG U U U XC<|Q0 U U U (Ql U Xr (B.cell 0 U U))<|Q3 U U U<|QO U U U U U U ?_;refine Qw Yh U (U4 (B.sp [5] U) x1.own) U ?_;rintro _ a9 ⟨rfl,h⟩;replace h:=h.jn U U;refine Xh (.skip (by kernel_rfl) (.cons (.inl ⟨rfl,(Ql U Xr (h.cell 1 U U))⟩) .nil)) ?_;refine QO U U U U U U ?_;have g:=NM (h.pick [0,1,2,3,4,5,6,7] U) p;refine XF Bc U (DK (h.sp [0] U) (by omega) g) U ?_;rintro e aa ⟨_,rfl,(⟨rfl,u,d⟩ | ⟨fr,rfl,x,z,d⟩)⟩
  ·refine⟨_,U, ?_⟩;replace d:=d.jn U U;refine Xh (Xd (by kernel_rfl)) ?_;refine Q3 U U U<|ZX U U U U<|ZX U U U U<|Zd U U U<|Zd U U U (VC.nil (Qc (Qh [0,5,6,7,8,10,11] U (Qe (Qe (Qa (Qb U U (Xz U U U (Qf (Qc (Qs U (λJ=> ?_) (λJ=> ?_))))))))))))
   ·exact Qe (Qa (Qb U U (Qd U U (Qd U U (Qf (Qc (Qu (Qq (Jt (.inr U) U U U (⟨_,rfl,L1,V1,t1,x1,L1,V1,_,_,rfl,j,.inr (.inl ⟨rfl,rfl,u,rfl,rfl⟩),((X3 (m:=n+4) (by omega) (d.pick [0,1,2,3,4,5,7] U)).reorder [1,2,3,4,5,0,6] U |> λq=>Xq q)⟩))))))))))
   exact absurd (by decide) J
  refine⟨_,U, ?_⟩;replace d:=d.jn U U;refine Xh (Xd (by kernel_rfl)) ?_;refine Q3 U U U<|ZX U U U U<|ZX U U U U<|Zd U U U<|Zd U U U (VC.nil (Qc (Qh [0,5,6,7,8,10,11] U (Qe (Qe (Qa (Qb U U (Xz U U U (Qf (Qc (Qs U (λK=> ?_) (λK=> ?_))))))))))))
  ·exact absurd U K
  refine Qt<|Qc<|Qe<|Qe<|Qa<|Qb U U<|XG underlying159 U U U<|Qf<|Qc<|Qh [0,5,6,7,8,10,52] U<|QM U<|Qe ?_;have a3:=Xq (L:=L1) (d.pick [1,2,3,4,5,0,6,7] U);have M:=YL l o (a3.pick [0,1,2,3] U);refine Qa<|Qb U U<|Qb U U<|Qj U U<|Qg U WP U<|Qo U QL (M.cell 0 U U) U<|Qw Vy U (Vh (M.sp [6,9,10] U) (by omega) x1.own) U ?_;rintro _ ab ⟨rfl,C⟩;replace C:=C.jn U U;refine Qf<|Qc<|Qh [6,7,8,10] U<|Qa<|Qb U U<|Qb U U<|Qj U U<|Qg U WP U<|QK C U U YD U (i:=3) U (Xk U) ?_;intro ac N;dsimp only[List.set]at N;refine Qf<|Qc<|Qe<|Qa<|Qb U U<|Qd U U<|Qd U U<|Qf<|Qc<|Qu<|Jt (.inr U) U U U ?_;have a4:=Js (L:={L1 with sh:=YV (QN V1 fr (some (1,Zm V1 x1.own))) L1.sh x1.own}) (y:={x1 with own:=fr}) l o U (N.pick [3,4,5,6,7,8,0,9,10,1,2,11,12] U)
  exact⟨_,rfl,L1,V1,t1,x1,ZA ({L1 with sh:=YV (QN V1 fr (some (1,Zm V1 x1.own))) L1.sh x1.own}) id t1 k {x1 with own:=fr},_,_,_,rfl,j,.inr (.inr ⟨rfl,x,z,r,rfl,rfl⟩),(X3 (m:=n+4) (by omega) (a4.pick [1,0,3] U)).reorder [1,0,2] U⟩
 exact absurd (Decidable.not_not.1 h2) R
theorem YJ (a:Sat w As) (i:Nat) (hi:As[i]? =some (WB b L)):w.cell? ⟨b,0,none⟩=some (ptrV L.sp 0):=(Zo (a.pull i hi)).cell 0 U U
theorem KQ {ob:Bs} {a:Int} (h:0<=a/\a<16384):BF ob a= .tuple #[X7 (ob,a/ 64),ZC (1#64<<<(a%64).toNat),.bool true]:=by unfold BF;rw[if_pos h]
def bitA (a:Int):BitVec 64:=1#64<<<(a%64).toNat
theorem MF (a:id≠0):XA (ZA L id t k x) id k=x.own:=UD a ME Qv
theorem OwnT.leaf {Fr:Nat} (h:OwnT L V id t k x Fr L' V' s e) (a:L.tr id=some t) (b:t.lv k=some x): ∃t' x',L'.tr id=some t'/\t'.lv k=some x'/\x'.wr=x.wr/\x'.rd=x.rd/\x'.base=x.base/\(e=0->x'.own=s):=by
  rcases h with⟨_,c,_,_,rfl,_⟩ | ⟨d,_,_,rfl,_⟩ | ⟨_,_,_,_,_,rfl⟩
  · exact⟨t,x,a,b,rfl,rfl,rfl,λ_=>c.symm⟩
  · exact⟨t,x,a,b,rfl,rfl,rfl,λq=>by omega⟩
  · exact⟨_,_,ME,Qv,rfl,rfl,rfl,λ_=>rfl⟩
theorem OwnT.sp {Fr:Nat} (h:OwnT L V id t k x Fr L' V' s e):L'.sp=L.sp:=by
  rcases h with⟨_,a,_,_,rfl,_⟩ | ⟨b,_,_,rfl,_⟩ | ⟨_,_,_,_,_,rfl⟩<;>rfl
theorem qfz {Fr:Nat} {F:Th} (o:Sat w [WB b L,ZP L.sp n Fr V,F]) (t:n<=60000000000) (ob:Bs) (a:Int) (p: ∀i,HG L.tr ZO i) (q:0<=a/\a<16384):
    Calls prog 51 #[ptrV b 0,intV 0,strV ob,intV a] w (Ret λv w'=>v=XV (btV V (L.pres (ob,a/ 64)) (a%64))/\Sat w' [WB b L,ZP L.sp n Fr V,F]):=by
 refine Qn func51 U ntmps51 U ?_;refine Qe<|Qa<|Qd U U<|Qf<|Qc<|Qe<|Qa<|Qb U U<|Qb U U<|Qw P6 U (G7 (o.sp [] U) ob a) U ?_;rintro _ u ⟨rfl,g⟩;replace g:=g.jn U U;rw[KQ q];refine Qb U U<|Qr U U U<|Qr U U U<|Qr U U U<|Xc g Wo U U ?_;intro kb w2 r;refine QW r U U Xb U (by rfl) (i:=0) U (by decide) ?_;intro x e;dsimp only[List.set]at e;replace e:=Zr (k:=(ob,a/ 64)) e;refine Qd U U<|Qd U U<|Qf<|Qc<|Qh [3,1,0,8,9,10,11] U<|Qe<|Qe<|Qa<|Qb U U<|QX U U<|Qb U U<|X9 22 U (λc=> ?_) (λc=> ?_)
 ·exact absurd c (by decide)
 refine Qk U U c<|Qb U U<|Qk U U c<|Qb U U<|Qk U U c<|Qw Ge U (HU (e.sp [1] U) 0) U ?_;rintro _ y ⟨rfl,h⟩;replace h:=h.jn U U;refine Qk U U c<|QX U U<|Q9 U c U U<|Qf<|Qc<|Qh [3,1,0,8,9,10,27] U<|QR U (λl=> ?_) (λl=> ?_)
 ·exact absurd l (by simp [J5])
 refine Qt<|Qc<|Qe<|Qe<|Qa<|Qb U U<|Xz U U U<|Qf<|Qc<|Qs U (λm=> ?_) (λm=> ?_)
 ·exact absurd U m
 refine Qt<|Qc<|Qe ?_;have j:=h.drew;refine Q7 [0,1,2,3,4,5,6,8,9,7,10,11] [7,10] Z9 (by kernel_rfl) ?_;refine Q3 U U U<|QP U U U<|QG U U U XC<|Q0 U U U (Ql U Xr (YJ j 0 U))<|Q3 U U U<|Q3 U U U<|Q0 U U U (X5 U Xu Xb (by first | exact j.blk 1 U) (Xk U) U) ?_
 refine Q3 U U U<|Xi U U U (λ_=>(Ts U U (by omega) (by omega))) ?_;refine QO U U U U U U ?_;refine Qw HD U (Vk (j.sp [0] U) p 0 (ob,a/ 64)) U ?_;rintro _ z ⟨rfl,f⟩;replace f:=f.jn U U;rw[show XA L 0 (ob,a/ 64)=L.pres (ob,a/ 64) from UC U];refine Xh (.skip (by kernel_rfl) (.cons (.inl ⟨rfl,(Ql U Xr (YJ f 0 U))⟩) .nil)) ?_;refine QO U U U U U U ?_;refine Qw AY U (qbp (f.sp [2] U) (by omega) (L.pres (ob,a/ 64)) (a%64)) U ?_;rintro _ s ⟨rfl,d⟩;replace d:=d.jn U U;refine Xh (Xd (by kernel_rfl)) ?_;exact Zd U U U (VC.nil (Qc (Qh [8] U (Qu (QJ (.inr U) U U (⟨_,U,U,d.pick [1,0,3] U⟩))))))
theorem qfy {Fr:Nat} {F:Th} (G:Sat w [WB b L,ZP L.sp n Fr V,F]) (O:n<=60000000000) (B: ∀i,HG L.tr ZO i) (m:L.tr id=some t) (C:id≠0) (ob:Bs) (a:Int) (H:0<=a/\a<16384):
    Calls prog 51 #[ptrV b 0,intV id,strV ob,intV a] w (Ret λv w'=> ∃L1 V1 t1 x1,TouR L V id t (ob,a/ 64) L1 V1 t1 x1/\v=XV (btV V1 x1.own (a%64))/\Sat w' [WB b (ZA L1 id t1 (ob,a/ 64) {x1 with rd:=x1.rd ||| (bitA a&&& ~~~x1.wr)}),ZP L1.sp (n+2) Fr V1,F]):=by
 refine Qn func51 U ntmps51 U ?_;refine Qe<|Qa<|Qd U U<|Qf<|Qc<|Qe<|Qa<|Qb U U<|Qb U U<|Qw P6 U (G7 (G.sp [] U) ob a) U ?_;rintro _ P ⟨rfl,r⟩;replace r:=r.jn U U;rw[KQ H];refine Qb U U<|Qr U U U<|Qr U U U<|Qr U U U<|Xc r Wo U U ?_;intro kb w2 I;refine QW I U U Xb U (by rfl) (i:=0) U (by decide) ?_;intro Q o;dsimp only[List.set]at o;replace o:=Zr (k:=(ob,a/ 64)) o;refine Qd U U<|Qd U U<|Qf<|Qc<|Qh [3,1,0,8,9,10,11] U<|Qe<|Qe<|Qa<|Qb U U<|QX U U<|Qb U U<|X9 22 U (λd=> ?_) (λd=> ?_)
 ·exact absurd d (by decide)
 refine Qk U U d<|Qb U U<|Qk U U d<|Qb U U<|Qk U U d<|Qw Ge U (HU (o.sp [1] U) id) U ?_;rintro _ R ⟨rfl,p⟩;replace p:=p.jn U U;refine Qk U U d<|QX U U<|Q9 U d U U<|Qf<|Qc<|Qh [3,1,0,8,9,10,27] U<|QR U (λD=> ?_) (λD=> ?_)
 ·exact absurd D (by simp [J5,m])
 refine Qt<|Qc<|Qe<|Qe<|Qa<|Qb U U<|Xz U U U<|Qf<|Qc<|Qs U (λE=> ?_) (λE=> ?_)
 ·refine Qe<|Qa<|Qb U U<|Qb U U ?_;refine XX U Xu Xb (by first | exact p.blk 1 U) (by first | decide | exact Xk U | (simp;done) | omega) U U ?_
  refine Qw Rg U (UA (p.sp [0,2] U) (by omega) B m (k:=(ob,a/ 64))) U ?_;rintro _ S ⟨L1,V1,t1,x1,rfl,q,s⟩;replace s:=s.jn U U;have e:=q.tr m;have j:=q.lv;have u:=q.ends m B;refine Qd U U<|Qf<|Qc<|Qh [3,1,0,8,9,10,12] U ?_;have J:=YL e j (s.pick [0,1,2,3] U);have f:=J.drew;refine Q7 [0,1,2,3,4,5,6,7,8,9,10,11,12,13] [13] Z9 (by kernel_rfl) ?_;refine Q3 U U U<|QP U U U<|QG U U U Yx<|Q0 U U U (Ql U Ju (f.cell 0 U U))<|Q3 U U U<|Q3 U U U<|QP U U U<|QG U U U Wt<|Q0 U U U (Ql U Ju (f.cell 0 U U))<|Xi U U U (λ_=>(Ks U U)) ?_;refine Xi U U U (λ_=>(GR U U)) ?_;refine QP U U U<|QG U U U Yx<|QO U U U U U U ?_;refine QK f U U Kb U (i:=0) U (Xk U) ?_;intro K l;dsimp only[List.set]at l;refine Zc (Xd (by kernel_rfl)) ?_;refine VC.nil (Qc (Qh [3,1,0,8,9] U (Qe ?_)));have z:=Js (L:=_) (y:={x1 with rd:=x1.rd ||| (bitA a&&& ~~~x1.wr)}) e j U (l.pick [0,1,2,3,4,5,6,7,8,9,10,11,12] U)
  have A:=Ln (k:=(ob,a/ 64)) (x:={x1 with rd:=x1.rd ||| (bitA a&&& ~~~x1.wr)}) e u
  have g:=z.drew;refine Q7 [0,1,2,3,4,5,6,8,9,7,10,11] [7,10] Z9 (by kernel_rfl) ?_;refine Q3 U U U<|QP U U U<|QG U U U XC<|Q0 U U U (Ql U Xr (YJ g 0 U))<|Q3 U U U<|Q3 U U U<|Q0 U U U (X5 U Xu Xb (by first | exact g.blk 2 U) (Xk U) U) ?_
  refine Q3 U U U<|Xi U U U (λ_=>(Ts U U (by omega) (by omega))) ?_;refine QO U U U U U U ?_;refine Qw HD U (Vk (g.sp [0] U) A id (ob,a/ 64)) U ?_;rintro _ M ⟨rfl,c⟩;replace c:=c.jn U U;rw[MF C];refine Xh (.skip (by kernel_rfl) (.cons (.inl ⟨rfl,(Ql U Xr (YJ c 0 U))⟩) .nil)) ?_;refine QO U U U U U U ?_;refine Qw AY U (qbp (c.sp [1] U) (by omega) x1.own (a%64)) U ?_;rintro _ N ⟨rfl,h⟩;replace h:=h.jn U U;refine Xh (Xd (by kernel_rfl)) ?_;exact Zd U U U (VC.nil (Qc (Qh [8] U (Qu (QJ (.inr U) U U (⟨_,U,L1,V1,t1,x1,q,U,h.pick [1,0,3] U⟩))))))
 exact absurd (Decidable.not_not.1 E) C
