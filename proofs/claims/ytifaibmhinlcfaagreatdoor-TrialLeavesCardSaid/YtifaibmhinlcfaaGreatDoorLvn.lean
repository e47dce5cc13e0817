/- leaves: keys in order -/
import Derived.Test.YtifaibmhinlcfaaGreatDoorLvm
import Derived.Test.YtifaibmhinlcfaaGreatDoorLv12
import Derived.Shelf.Spec.TrailingZeros
set_option linter.unusedSectionVars false
set_option linter.unusedVariables false
set_option maxRecDepth 100000
set_option maxHeartbeats 80000000000
namespace Go.Proofs.YtifaibmhinlcfaaGreatDoor
open Go.RowKit M Proofs.Tryz
variable [Inhabited SlW]
variable {It:Th} {L L1:LvD} {P Q:KD→Prop} {V V1:VS} {b c gf i m n:Nat} {caps:List Value} {g:KD→Option Value} {id:Int} {k:KD} {ks l:List KD} {ob:Bs} {p:KD→Int} {t:TrD} {v:Value} {w:World} {x:LfD} {α κ:Type}
theorem F5 (x y:KD):qe5 x y=cfK x y:=rfl
theorem Sy (w:World):Sat w []:=⟨λ_=>False,rfl⟩
theorem sortL0 {F:Th} (b:Sat w [rowT kC v l,F]) (c:l.length<4611686018427387904):Calls prog 198 #[v,.func (.func 146) #[] #[]] w (Ret λu w'=>u= .tuple #[]/\Sat w' [rowT kC v (QV l),F]):=
  Du (λblk off cap ss w d f g=>AnyQ.slices_SortFunc_total Tryz.sortKeys 2 Tryz.isAgg151 Tryz.sizeOf151 kC.enc (λ_=>rfl) (λx v a=>by simp [kC]at a;rcases a with rfl | rfl<;>rfl) cfK swoK 146 #[] blk off cap ss.toArray w (enters_of func146 (by kernel_rfl) rfl)
    (λm os dk _ x y=>by
      rw[Array.append_empty]
      exact(cmpL_sp (Sy _).emp_intro x y).mono λe w' h=>by
        obtain⟨v,rfl,rfl,h⟩:=h;exact⟨by rw[F5],h⟩) d f (by simpa using g) totK)
    (λp cap w=>AnyF.slices_SortFunc_none Tryz.sortKeys p cap _ w) b c
theorem sortP0 {F:Th} (b:Sat w [rowT kC v l,F]) (c:l.length<4611686018427387904):Calls prog 198 #[v,.func (.func 203) #[] #[]] w (Ret λu w'=>u= .tuple #[]/\Sat w' [rowT kC v (QV l),F]):=
  Du (λblk off cap ss w d f g=>AnyQ.slices_SortFunc_total Tryz.sortKeys 2 Tryz.isAgg151 Tryz.sizeOf151 kC.enc (λ_=>rfl) (λx v a=>by simp [kC]at a;rcases a with rfl | rfl<;>rfl) cfK swoK 203 #[] blk off cap ss.toArray w (enters_of func203 (by kernel_rfl) rfl)
    (λm os dk _ x y=>by
      rw[Array.append_empty]
      exact(cmpI_sp (Sy _).emp_intro x y).mono λe w' h=>by
        obtain⟨v,rfl,rfl,h⟩:=h;exact⟨by rw[F5],h⟩) d f (by simpa using g) totK)
    (λp cap w=>AnyF.slices_SortFunc_none Tryz.sortKeys p cap _ w) b c
theorem Lj {F:Th} (h:Sat w [It,F]) (b:Q8 prog gf=true) (e:ItK g gf caps It) (a: ∀ks,Came g ks->ks.length<=100000000000):
    Calls prog 144 #[.func (.func gf) #[] caps.toArray,.func (.func 146) #[] #[]] w (Ret λv w'=> ∃ks,AllC g ks/\Sat w' [rowT kC v (QV ks),It,F]):=by
 refine Qn func144 U ntmps144 U ?_;refine Qe<|Qa<|Qd U U<|Qf<|Qc<|Qe<|Qa<|Qb U U<|Qw AC U (colK (h.sp [0] U) b e a) U ?_;rintro _ k ⟨ks,c,d⟩;replace d:=d.jn U U;have i:=d.own_one 0 U;have j:=a _ (Came.of_all c);refine Qd U U<|Qf<|Qc<|Qe<|Qa<|Qb U U<|Qb U U<|Qw AB U (sortL0 (d.sp [0] U) (by omega)) U ?_;rintro _ w2 ⟨rfl,f⟩;replace f:=f.jn U U;exact Qf (Qc (Qe (Qa (Qb U U (Qd U U (Qf (Qc (Qu (QJ (.inr U) U U (⟨_,U,ks,c,f⟩))))))))))
theorem Li {F:Th} (h:Sat w [It,F]) (b:Q8 prog gf=true) (e:ItK g gf caps It) (a: ∀ks,Came g ks->ks.length<=100000000000):
    Calls prog 144 #[.func (.func gf) #[] caps.toArray,.func (.func 203) #[] #[]] w (Ret λv w'=> ∃ks,AllC g ks/\Sat w' [rowT kC v (QV ks),It,F]):=by
 refine Qn func144 U ntmps144 U ?_;refine Qe<|Qa<|Qd U U<|Qf<|Qc<|Qe<|Qa<|Qb U U<|Qw AC U (colK (h.sp [0] U) b e a) U ?_;rintro _ k ⟨ks,c,d⟩;replace d:=d.jn U U;have i:=d.own_one 0 U;have j:=a _ (Came.of_all c);refine Qd U U<|Qf<|Qc<|Qe<|Qa<|Qb U U<|Qb U U<|Qw AB U (sortP0 (d.sp [0] U) (by omega)) U ?_;rintro _ w2 ⟨rfl,f⟩;replace f:=f.jn U U;exact Qf (Qc (Qe (Qa (Qb U U (Qd U U (Qf (Qc (Qu (QJ (.inr U) U U (⟨_,U,ks,c,f⟩))))))))))
theorem Tf {F:Th} (j:Sat w [Q4 X7 b g,F]) (a: ∀ks,Came g ks->ks.length<=100000000000):
    Calls prog 106 #[.map (some b)] w (Ret λv w'=> ∃ks,AllC g ks/\Sat w' [rowT kC v (QV ks),Q4 X7 b g,F]):=by
 refine Qn func106 U ntmps106 U ?_;refine Qe<|Qa<|Qd U U<|Qf<|Qc<|Qe<|Qa<|Qb U U<|Qw cal_145 U (kl_sp (j.sp [] U) U) U ?_;rintro _ k ⟨ck,rfl,d⟩;replace d:=d.jn U U;have h:=Sat.fold (As:=[Q6 ck [.map (some b)],Q4 X7 b g]) (d.pick [0,1,2] U);have c:=h.sp [0] U;refine Qw AL U (Lj c cal_199 (itkl ck b g) a) U ?_;rintro _ w2 ⟨ks,e,f⟩;replace f:=f.jn U U;clear c;clear h;refine Qd U U<|Qf<|Qc<|Qu<|QJ (.inr U) U U ?_;have i:=(f.pick [1,0,2] U).flat;dsimp only[Dg,Df]at i;exact⟨_,U,ks,e,i.pick [2,1,3] U⟩
theorem Te {F:Th} (j:Sat w [Q4 X7 b g,F]) (a: ∀ks,Came g ks->ks.length<=100000000000):
    Calls prog 151 #[.map (some b)] w (Ret λv w'=> ∃ks,AllC g ks/\Sat w' [rowT kC v (QV ks),Q4 X7 b g,F]):=by
 refine Qn func151 U ntmps151 U ?_;refine Qe<|Qa<|Qd U U<|Qf<|Qc<|Qe<|Qa<|Qb U U<|Qw cal_202 U (kp_sp (j.sp [] U) U) U ?_;rintro _ k ⟨ck,rfl,d⟩;replace d:=d.jn U U;have h:=Sat.fold (As:=[Q6 ck [.map (some b)],Q4 X7 b g]) (d.pick [0,1,2] U);have c:=h.sp [0] U;refine Qw AL U (Li c cal_227 (itkp ck b g) a) U ?_;rintro _ w2 ⟨ks,e,f⟩;replace f:=f.jn U U;clear c;clear h;refine Qd U U<|Qf<|Qc<|Qu<|QJ (.inr U) U U ?_;have i:=(f.pick [1,0,2] U).flat;dsimp only[Dg,Df]at i;exact⟨_,U,ks,e,i.pick [2,1,3] U⟩
open Classical in
noncomputable def WM {κ α:Type} (P:κ->Prop) (z:α) (p:κ->α):κ->α:= λj=> if P j then z else p j
theorem Sb {z:α} {p:κ->α}:WM (λ_=>False) z p=p:=by funext j;simp [WM]
theorem Gk {P Q:κ->Prop} {z:α} {p:κ->α} (h: ∀j,P j↔Q j):WM P z p=WM Q z p:=by
  have :P=Q:=funext λj=>propext (h j);rw[this]
def inD (l:List KD) (ob:Bs):KD->Prop:= λj=>j∈l/\j.1=ob
theorem qdw (c:l[i]? =some k) (h:k.1=ob) (j:KD):inD (l.take (i+1)) ob j↔(j=k\/inD (l.take i) ob j):=by
  unfold inD;rw[List.take_add_one,c];simp only[Option.toList_some,List.mem_append,List.mem_singleton];constructor
  · rintro⟨a | a,b⟩
    · exact .inr ⟨a,b⟩
    · exact .inl a
  · rintro(rfl | ⟨a,b⟩)
    · exact⟨.inr U,h⟩
    · exact⟨.inl a,b⟩
theorem qdx (c:l[i]? =some k) (h:k.1≠ob) (j:KD):inD (l.take (i+1)) ob j↔inD (l.take i) ob j:=by
  unfold inD;rw[List.take_add_one,c];simp only[Option.toList_some,List.mem_append,List.mem_singleton];constructor
  · rintro⟨a | a,b⟩
    · exact⟨a,b⟩
    · subst a;exact absurd b h
  · rintro⟨a,b⟩;exact⟨.inl a,b⟩
theorem KB {P Q:κ->Prop} {z:α} {p:κ->α} {k:κ} (h: ∀j,Q j↔(j=k\/P j)):WM Q z p=VN (WM P z p) k z:=by
  funext j;by_cases e:j=k
  · subst e;rw[XO];unfold WM;rw[if_pos ((h j).2 (.inl U))]
  · rw[Zk e];unfold WM;by_cases q:P j
    · rw[if_pos q,if_pos ((h j).2 (.inr q))]
    · rw[if_neg q,if_neg λa=>((h j).1 a).elim e q]
theorem OL {s:Int}:ZS p k s=VN p k s:=by
  funext j;by_cases e:j=k
  · subst e;rw[XO];simp [ZS]
  · rw[Zk e];simp [ZS,e]
noncomputable def dropP (A:LvA) (ob:Bs):LvA:={A with pres:=WM (λj=>j.1=ob) zer A.pres}
open Classical in
noncomputable def W8 (P:KD->Prop) (f:KD->Option LfA):KD->Option LfA:= λj=> if P j then(f j).map λx=>Cw x zer else f j
noncomputable def UQ (A:LvA) (id:Int) (ob:Bs):LvA:= match A.tr id with | none=>A | some t=>{A with tr:=QN A.tr id (some {t with lv:=W8 (λj=>j.1=ob) t.lv,dr:=Hw t.dr ob})}
theorem LJ {f:KD->Option LfA} :W8 (inD [] ob) f=f:=by funext j;simp [W8,inD]
theorem T6 {f:KD->Option LfA} (h: ∀j,f j≠none->(P j↔Q j)):W8 P f=W8 Q f:=by
  funext j;unfold W8;cases q:f j with
  | none=> simp
  | some x=>
    have :=h j (by rw[q];simp);by_cases e:P j
    · rw[if_pos e,if_pos (this.1 e)]
    · rw[if_neg e,if_neg λa=>e (this.2 a)]
theorem IF {f:KD->Option LfA} {x:LfA} (h: ∀j,Q j↔(j=k\/P j)) (b:W8 P f k=some x):W8 Q f=QN (W8 P f) k (some (Cw x zer)):=by
  funext j;by_cases e:j=k
  · subst e;rw[Qv];unfold W8 at b⊢;rw[if_pos ((h j).2 (.inl U))];split at b
    · cases q:f j with
      | none=> rw[q]at b;cases b
      | some y=> rw[q]at b;simp only[Option.map_some,Option.some.injEq]at b⊢;subst b;rfl
    · rw[b];rfl
  · rw[Qz e];unfold W8;by_cases q:P j
    · rw[if_pos q,if_pos ((h j).2 (.inr q))]
    · rw[if_neg q,if_neg λa=>((h j).1 a).elim e q]
theorem Uc {i:Int}: ∀{l:List KD},l.Nodup->(l.map λk=>(i,k)).Nodup
  | [],_=>List.nodup_nil
  | a::l,h=>by
    rw[List.nodup_cons]at h;rw[List.map_cons,List.nodup_cons];refine⟨λq=> ?_,Uc h.2⟩;obtain⟨b,c,e⟩:=List.mem_map.1 q;cases e;exact h.1 c
theorem SzLe.keysP (h:SzLe L c) (e:Came (ZU L.pres) ks):ks.length<=c:=by
  obtain⟨l,a,b,d⟩:=h
  have :=Wm (Uc (i:=0) e.nodup) (b:=l) λx f=>by
    obtain⟨k,g,rfl⟩:=List.mem_map.1 f;exact b k λq=>e.has k g (by unfold ZU;rw[if_pos q])
  simp at this;omega
theorem SzLe.keysL {i:Int} (h:SzLe L c) (f:L.tr i=some t) (e:Came (XM LfD.ad t.lv) ks):ks.length<=c:=by
  obtain⟨l,a,b,d⟩:=h
  have :=Wm (Uc (i:=i) e.nodup) (b:=l) λx g=>by
    obtain⟨k,j,rfl⟩:=List.mem_map.1 g;have m:=e.has k j;cases q:t.lv k with
    | none=> exact absurd (by unfold XM;rw[q];rfl) m
    | some x=> exact d i t k x f q
  simp at this;omega
theorem SzLe.subP {L':LvD} (h:SzLe L c) (e: ∀k,L'.pres k≠0->L.pres k≠0) (f:L'.tr=L.tr):SzLe L' c:=by
  obtain⟨l,a,b,d⟩:=h;exact⟨l,a,λk g=>b k (e k g),λi t k x j m=>d i t k x (by rwa [f]at j) m⟩
theorem allP (h:AllC (ZU p) ks) (k:KD):k∈QV ks↔p k≠0:=by
  rw[(Hd ks).mem_iff,h.mem];unfold ZU;by_cases e:p k=0
  · simp [e]
  · simp [e]
theorem qgf {f:KD->Option LfD} (h:AllC (XM LfD.ad f) ks) (k:KD):k∈QV ks↔f k≠none:=by
  rw[(Hd ks).mem_iff,h.mem];unfold XM;cases f k<;> simp
theorem Up (h:ks.Nodup):(QV ks).Nodup:=(Hd ks).nodup_iff.2 h
theorem Ec (b:V 0=none) (c: ∀k,k∈l↔L.pres k≠0):WM (inD l ob) zer (QC L V).pres=WM (λj=>j.1=ob) zer (QC L V).pres:=by
  funext j;unfold WM inD;by_cases e:j.1=ob
  · by_cases q:j∈l
    · rw[if_pos ⟨q,e⟩,if_pos e]
    · rw[if_neg λa=>q a.1,if_pos e];have :L.pres j=0:=Classical.byContradiction λa=>q ((c j).2 a);show Zm V (L.pres j)=zer;rw[this,JP b]
  · rw[if_neg λa=>e a.2,if_neg e]
theorem Fq {ex:Int->Int} {Fr:Nat} {F:Th} (B:Sat w [WB b L,ZP L.sp n Fr V,F]) (N:SzLe L c) (X:n+2*c<=60000000000) (O:LvX ex m L V) (R:NN ex) (ob:Bs):
    Calls prog 110 #[ptrV b 0,intV 0,strV ob] w (Ret λv w'=> ∃L' V',StepX ex m L V ex m 0 0 L' V'/\QC L' V'=dropP (QC L V) ob/\OthK L L' 0 (λ_=>False)/\Sat w' [WB b L',ZP L'.sp (n+2*c) Fr V',F]):=by
 replace B:=Zo B;refine Qn func110 U ntmps110 U ?_;refine Qe<|Qe<|Qa<|Qb U U<|Xg U U U<|Qf<|Qc<|Qs U (λP=> ?_) (λP=> ?_)
 ·refine Qe<|Qe<|Qa<|Qb U U<|Qj U U<|Qg U UN U<|Qo U Gh (B.cell 0 U U) U ?_;refine Qw PP U (Te (B.sp [1] U) (λks h=>by have :=N.keysP h;omega)) U ?_;rintro _ w2 ⟨ks,u,C⟩;replace C:=C.jn U U;obtain⟨ar,cr,G,_⟩:=C.own_shape 0 rfl;obtain rfl:=G;refine Xl underlying163 U U<|Qb U U<|Qf<|Qc<|Qh [2,1,0,18,19,20] U<|Qx ?_;have S:=Xq (C.pick [2,1,3,4,5,0,6,7] U);have T:(QV ks).length<=c:=by rw[Jd];exact N.keysP (Came.of_all u)
  refine QU (λK0 E0 W0=> ∃(i:Nat) (L1:LvD) (V1:VS),K0=(QV ks).length -i/\E0=[(0,ptrV b 0),(2,strV ob),(18,.slice ar (QV ks).length cr),(19,intV ((QV ks).length:Int)),(20,intV (i:Int))]/\Sat W0 [WB b L1,ZP L1.sp (n+i) Fr V1,rowT kC (.slice ar (QV ks).length cr) (QV ks),F]/\(i<=(QV ks).length)/\(LvX ex m L1 V1)/\(L1.sp=L.sp)/\(∀c,AliveLe V c->AliveLe V1 c)/\(Pgs V V1)/\(L1.pres=WM (inD ((QV ks).take i) ob) 0 L.pres)/\(L1.tr=L.tr)/\(QC L1 V1={QC L V with pres:=WM (inD ((QV ks).take i) ob) zer (QC L V).pres})) (L0:=[(0,_),(2,_),(18,_),(19,_),(20,_)]) ((QV ks).length) (Vb U U U U U) ⟨0,L,V,by omega,rfl,S.pick [0,2,1,3] U,by omega,O,rfl,λ_ q=>q,.refl,by rw[Gk (Q:= λ_=>False) (by simp [inD]),Sb],rfl,by rw[Gk (Q:= λ_=>False) (by simp [inD]),Sb]⟩ ?_
  rintro _ _ Y ⟨i,L1,V1,rfl,rfl,D,hi,f,o,p,r,x,E,g⟩;refine Qe<|Qa<|Xa U U U<|Qf<|Qc<|Qe<|Qs U (λW=> ?_) (λW=> ?_)
  ·obtain⟨k,t⟩: ∃k,(QV ks)[i]? =some k:=⟨_,XQ (by omega)⟩;refine Qt<|Qc<|Qe<|Qx<|Qe<|Qa<|Xj kC 2 i D U U U (by first | rfl | omega) t Ku U ?_
   intro bx5 capx5 y;refine Wq 2 i D U y U t Xu Xb U U<|Xc D Wo U U ?_;intro kb wk6 z;refine QW z U U Xb U (by rfl) (i:=0) U (by decide) ?_;intro wk7 a;dsimp only[List.set]at a;clear z;replace a:=Zr (k:=k) a;refine Qf<|Qc<|Qe<|Qa<|Qg U YR U<|Qo U XT (a.cell 0 U U) U<|Qb U U<|YB U U U<|Qf<|Qc<|Qh [20,19,18,2,0,7,27] U<|Qs U (λH=> ?_) (λH=> ?_)
   ·have e:k.1=ob:=H;refine Qa<|Qb U U ?_;refine XX U Xu Xb (by first | exact a.blk 0 U) (by first | decide | exact Xk U | (simp;done) | omega) U U ?_
    have A:=a.sp [1,2] U;refine Qw Bb U (NQ A (by omega) k 0) U ?_;rintro _ Z ⟨rfl,I⟩;replace I:=I.jn U U;clear A;clear a;refine Qf<|Qm<|Qc<|Qa<|QE U U (by omega) (by omega) U ?_;refine Qb U U<|Qf ?_;obtain⟨l,J⟩:=KN (s:=0) (k:=k) f R (λq=>absurd rfl q) (YV V1 L1.sh (L1.pres k));have K:=l.inv.ext (ex':=ex) λj d=>by rw[JE d];omega
    exact Q5 (L1:=[(0,_),(2,_),(18,_),(19,_),(20,intV ((i+1:Nat):Int))]) (Vb U U U U U) (k1:=(QV ks).length -(i+1)) (by omega) ⟨i+1,_,_,by omega,rfl,I.pick [0,1,3,4] U,by omega,K,l.sp.trans o,λc q=>l.al c (p c q),r.trans l.pg,by dsimp only;rw[x,OL,KB (qdw t e)],E,by rw[J,g,KB (qdw t e),JP f.zero]⟩
   have e:k.1≠ob:=H;refine Qt<|Qm<|Qc<|Qa<|QE U U (by omega) (by omega) U ?_;exact Qb U U (Qf (Q5 (L1:=[(0,_),(2,_),(18,_),(19,_),(20,intV ((i+1:Nat):Int))]) (Vb U U U U U) (k1:=(QV ks).length -(i+1)) (by omega) ⟨i+1,L1,V1,by omega,rfl,(X3 (m:=n+(i+1)) (by omega) (a.pick [2,1,3,4] U)).reorder [1,0,2,3] U,by omega,f,o,p,r,by rw[x,Gk (qdx t e)],E,by rw[g,Gk (qdx t e)]⟩))
  refine QQ<|Qp<|Qp<|Qy<|Qc<|Qu<|Qq<|Zb (.inr U) U ?_;have M:i=(QV ks).length:=by omega
  rw[M,List.take_length]at x g;exact⟨_,rfl,L1,V1,⟨f,o,λc q=>p c q,λc q=>q.subP (λj d=>by rw[x]at d;unfold WM at d;split at d;exact absurd U d;exact d) E,r⟩,by rw[g,Ec O.zero (allP u)];rfl,LI (λj d=>by rw[x]at d;unfold WM at d;split at d;exact absurd U d;exact d) E,(X3 (m:=n+2*c) (by omega) (D.pick [1,0,3] U)).reorder [1,0,2] U⟩
 exact absurd U P
theorem Hf (a:L.tr id=some t) (b:t.lv k=some x):ZA L id t k x=L:=by
  unfold ZA;rw[Wr b,Wr a]
def DrI (L L1:LvD) (V V1:VS) (id:Int) (t:TrD) (l:List KD) (ob:Bs):Prop:=
  ∃ g:KD->Option LfD,L1.tr=QN L.tr id (some {t with lv:=g})/\L1.pres=L.pres/\(∀k,(g k=none↔t.lv k=none)/\ ∀x,g k=some x-> ∃y,t.lv k=some y/\y.ad=x.ad)/\
    QC L1 V1={QC L V with tr:=QN (QC L V).tr id (some {ZR V t with lv:=W8 (inD l ob) (ZR V t).lv})}
theorem DrI.start (a:L.tr id=some t):DrI L L V V id t [] ob:=by
  refine⟨t.lv,(Wr a).symm,rfl,λk=>⟨Iff.rfl,λx b=>⟨x,b,rfl⟩⟩, ?_⟩;rw[LJ];have :=Wr (f:=(QC L V).tr) (k:=id) (Z1 a);show QC L V={QC L V with tr:=QN (QC L V).tr id (some (ZR V t))}
  rw[this]
theorem DrI.F (h:DrI L L1 V V1 id t (l.take i) ob) (f:l[i]? =some k) (e:k.1≠ob):DrI L L1 V V1 id t (l.take (i+1)) ob:=by
  obtain⟨g,a,b,c,d⟩:=h;refine⟨g,a,b,c, ?_⟩;rw[d,T6 λj _=>(qdx f e j).symm]
theorem DrI.T {V2:VS} {t1:TrD} {y:LfD} {f:Int->Bool} (h:DrI L L1 V V1 id t (l.take i) ob) (B:l[i]? =some k) (o:k.1=ob) (m:L1.tr id=some t1) (p:t1.lv k=some x) (C:y.ad=x.ad)
    (r:QC (ZA {L1 with sh:=f} id t1 k y) V2=Wj (QC L1 V1) id k (Cw (WF V1 x) zer)):DrI L (ZA {L1 with sh:=f} id t1 k y) V V2 id t (l.take (i+1)) ob:=by
  obtain⟨g,a,b,c,d⟩:=h;rw[a,Qv]at m;cases m;dsimp only at p;refine⟨QN g k (some y), ?_,b,λj=> ?_, ?_⟩
  · show QN L1.tr id _=_;rw[a,Hj]
  · by_cases e:j=k
    · subst e;rw[Qv];obtain⟨z,v,s⟩:=(c j).2 x p;refine⟨⟨(λq=>by cases q),(λq=>by rw[v]at q;cases q)⟩,λw D=> ?_⟩;cases D;exact⟨z,v,s.trans C.symm⟩
    · rw[Qz e];exact c j
  · have n:(QC L1 V1).tr id=some {ZR V t with lv:=W8 (inD (l.take i) ob) (ZR V t).lv}:=by rw[d];exact Qv
    have u:({ZR V t with lv:=W8 (inD (l.take i) ob) (ZR V t).lv}:TrA).lv k=some (WF V1 x):=by
      have A:=Z1 (V:=V1) (show L1.tr id=some {t with lv:=g} by rw[a,Qv])
      rw[n]at A;have E:=ZW (V:=V1) (t:={t with lv:=g}) p
      have F:({ZR V t with lv:=W8 (inD (l.take i) ob) (ZR V t).lv}:TrA)=ZR V1 {t with lv:=g}:=by simpa using A
      rw[F];exact E
    rw[r,Wi n,d];simp only[Hj];rw[IF (qdw B o) u]
theorem ID (a: ∀k,k∈l↔t.lv k≠none):W8 (inD l ob) (ZR V t).lv=W8 (λj=>j.1=ob) (ZR V t).lv:=
  T6 λj b=>by
    have :t.lv j≠none:= λq=>b (K9 q);unfold inD;rw[a];simp [this]
theorem IC {ex:Int->Int} {g:KD->Option LfD} (f:LvX ex m L1 V1) (B:L1.sp=L.sp) (C: ∀c,AliveLe V c->AliveLe V1 c) (D:Pgs V V1) (H:DrI L L1 V V1 id t l ob) (G:L.tr id=some t) (I: ∀k,k∈l↔t.lv k≠none)
    (r:L1.tr=QN L.tr id (some {t with lv:=g})) (E:L1.pres=L.pres) (F: ∀k,(g k=none↔t.lv k=none)/\ ∀x,g k=some x-> ∃y,t.lv k=some y/\y.ad=x.ad)
    (s:QC L1 V1={QC L V with tr:=QN (QC L V).tr id (some {ZR V t with lv:=W8 (inD l ob) (ZR V t).lv})}):
    StepX ex m L V ex m 0 0 {L1 with tr:=QN L1.tr id (some {t with lv:=g,dr:=Hw t.dr ob})} V1/\QC {L1 with tr:=QN L1.tr id (some {t with lv:=g,dr:=Hw t.dr ob})} V1=UQ (QC L V) id ob:=by
  have h:L1.tr id=some {t with lv:=g}:=by rw[r,Qv]
  generalize n:({L1 with tr:=QN L1.tr id (some {t with lv:=g,dr:=Hw t.dr ob})}:LvD)=L2
  have z:L2.pres=L1.pres:=by subst n;rfl
  have v:L2.tr=QN L1.tr id (some {t with lv:=g,dr:=Hw t.dr ob}):=by subst n;rfl
  have J: ∀q,Xx L2 q=Xx L1 q:= λq=>by
    cases q with
    | inl j=> simp [Xx,z]
    | inr q=>
      obtain⟨i,j,o⟩:=q;simp only[Xx,v];by_cases e:i=id
      · subst e;rw[Qv,h]
      · rw[Qz e]
  have K:QC L2 V1=UQ (QC L V) id ob:=by
    have M:QC L2 V1={QC L1 V1 with tr:=QN (QC L1 V1).tr id (some (ZR V1 {t with lv:=g,dr:=Hw t.dr ob}))}:=by
      unfold QC;rw[z,v];congr 1;funext i;by_cases e:i=id
      · subst e;rw[Qv,Qv];rfl
      · rw[Qz e,Qz e]
    have N:ZR V1 {t with lv:=g}={ZR V t with lv:=W8 (inD l ob) (ZR V t).lv}:=by
      have A:=Z1 (V:=V1) h;rw[s]at A;dsimp only at A;rw[Qv]at A
      simpa using A.symm
    have O:ZR V1 {t with lv:=g,dr:=Hw t.dr ob}={ZR V t with lv:=W8 (λj=>j.1=ob) (ZR V t).lv,dr:=Hw t.dr ob}:=by
      have P:(ZR V1 {t with lv:=g,dr:=Hw t.dr ob}).lv=(ZR V1 {t with lv:=g}).lv:=rfl
      show(⟨t.parent,(ZR V1 {t with lv:=g,dr:=Hw t.dr ob}).lv,Hw t.dr ob⟩:TrA)=_
      rw[P,N,ID I];rfl
    rw[M,s,O];unfold UQ;rw[Z1 G];dsimp only;rw[Hj];rfl
  refine⟨⟨⟨f.ref.fn J,by rw[v];exact f.rank.same (Jr h U), ?_⟩,by subst n;exact B,C,λc q=> ?_,D⟩,K⟩
  · have Q:QC L2 V1={QC L1 V1 with tr:=QN (QC L1 V1).tr id (some (ZR V1 {t with lv:=g,dr:=Hw t.dr ob}))}:=by
      unfold QC;rw[z,v];congr 1;funext i;by_cases e:i=id
      · subst e;rw[Qv,Qv];rfl
      · rw[Qz e,Qz e]
    rw[Q];intro i u k x hi p;dsimp only at hi;by_cases e:i=id
    · subst e;rw[Qv]at hi;cases hi;exact f.agree i _ k x (Z1 h) p
    · rw[Qz e]at hi;exact f.agree i u k x hi p
  · obtain⟨li,a,b,d⟩:=q;refine⟨li,a,λk p=>b k (by rwa [z,E]at p),λj u k x w p=> ?_⟩;rw[v,r,Hj]at w;by_cases e:j=id
    · subst e;rw[Qv]at w;cases w;obtain⟨y,R,_⟩:=(F k).2 x p;exact d j t k y G R
    · rw[Qz e]at w;exact d j u k x w p
theorem Fp {ex:Int->Int} {Fr:Nat} {F:Th} (N:Sat w [WB b L,ZP L.sp n Fr V,F]) (hc:SzLe L c) (hn:n+2*c<=60000000000) (hI:LvX ex m L V) (hx:NN ex) (o:L.tr id=some t) (ob:Bs):
    Calls prog 110 #[ptrV b 0,intV id,strV ob] w (Ret λv w'=> ∃L' V',StepX ex m L V ex m 0 0 L' V'/\QC L' V'=UQ (QC L V) id ob/\OthK L L' id (λ_=>False)/\L'.pres=L.pres/\Sat w' [WB b L',ZP L'.sp (n+2*c) Fr V',F]):=by
 have h0:id≠0:=hI.rank.none0 o;replace N:=Zo N;refine Qn func110 U ntmps110 U ?_;refine Qe<|Qe<|Qa<|Qb U U<|Xg U U U<|Qf<|Qc<|Qs U (λh1=> ?_) (λh1=> ?_)
 ·exact absurd h1 h0
 refine Qt<|Qc<|Qe<|Qa<|Qb U U<|Qj U U<|Qg U Wv U<|Qo U J9 (N.cell 0 U U) U<|Qb U U<|Xf (k:=id) 2 N keysInt underlying141 U U U YY (u:=ptrV t.ad 0) (XH o) U<|Qd U U<|Qf<|Qc<|Qh [2,0,8] U<|Qe<|Qe<|Qa<|Qb U U<|XG underlying139 U U U<|Qf<|Qc<|QM U<|Qt<|Qc<|Qe<|Qe ?_;have j2:=W3 (N.pick [3,0,1,2,4,5,6] U) o;refine Qa<|Qb U U<|Qj U U<|Qg U Wu U<|Qo U Jv (j2.cell 0 U U) U ?_;refine Qw PR U (Tf (j2.sp [1] U) (λks h=>by have :=hc.keysL o h;omega)) U ?_;rintro _ w3 ⟨ks,D,j3⟩;replace j3:=j3.jn U U;obtain⟨ar,cr,a0,_⟩:=j3.own_shape 0 rfl;obtain rfl:=a0;refine Xl underlying163 U U<|Qb U U<|Qf<|Qc<|Qh [2,0,8,44,45,46] U<|Qx ?_;have j4:=W4 o (j3.pick [2,1,3,4,5,0,6,7,8,9,10,11] U);have hz:=Xq (j4.pick [2,3,4,0,5,1,6,7] U);have a6:(QV ks).length<=c:=by rw[Jd];exact hc.keysL o (Came.of_all D)
 refine QU (λK0 E0 W0=> ∃(i:Nat) (L1:LvD) (V1:VS),K0=(QV ks).length -i/\E0=[(0,ptrV b 0),(2,strV ob),(8,ptrV t.ad 0),(44,.slice ar (QV ks).length cr),(45,intV ((QV ks).length:Int)),(46,intV (i:Int))]/\Sat W0 [WB b L1,ZP L1.sp (n+2*i) Fr V1,rowT kC (.slice ar (QV ks).length cr) (QV ks),F]/\(i<=(QV ks).length)/\(LvX ex m L1 V1)/\(L1.sp=L.sp)/\(∀c,AliveLe V c->AliveLe V1 c)/\(Pgs V V1)/\(DrI L L1 V V1 id t ((QV ks).take i) ob)) (L0:=[(0,_),(2,_),(8,_),(44,_),(45,_),(46,_)]) ((QV ks).length) (R6 U U U U U U) ⟨0,L,V,by omega,rfl,hz.pick [0,2,1,3] U,by omega,hI,rfl,λ_ q=>q,.refl,DrI.start o⟩ ?_;rintro _ _ w5 ⟨i,L1,V1,rfl,rfl,j5,hi,p,E,G,H,e⟩;refine Qe<|Qa<|Xa U U U<|Qf<|Qc<|Qe<|Qs U (λh6=> ?_) (λh6=> ?_)
 ·obtain⟨k,O⟩: ∃k,(QV ks)[i]? =some k:=⟨_,XQ (by omega)⟩;refine Qt<|Qc<|Qe<|Qx<|Qe<|Qa<|Xj kC 2 i j5 U U U (by first | rfl | omega) O Ku U ?_
  intro bx7 capx7 P;refine Wq 2 i j5 U P U O Xu Xb U U<|Xc j5 Wo U U ?_;intro kb wk8 Q;refine QW Q U U Xb U (by rfl) (i:=0) U (by decide) ?_;intro wk9 r;dsimp only[List.set]at r;clear Q;replace r:=Zr (k:=k) r;refine Qf<|Qc<|Qe ?_;obtain⟨g,l,z,A,R⟩:=_root_.id e;have a:L1.tr id=some {t with lv:=g}:=by rw[l,Qv]
  obtain⟨x1,d⟩: ∃x,g k=some x:=Option.ne_none_iff_exists'.1 λq=>absurd ((A k).1.1 q) ((qgf D k).1 (List.mem_of_getElem? O));have a1:=YL a d (r.pick [1,0,2,3,4] U);have j:=a1.drew;refine Q7 [0,1,2,3,4,5,6] [] Z9 (by kernel_rfl) ?_;refine Q3 U U U<|QP U U U<|QG U U U Wu<|Q0 U U U (Ql U Jv (j.cell 2 U U))<|Q0 U U U (X5 U Xu Xb (j.blk 10 U) (Xk U) U)<|Q0 U U U (X4 (k:=k) 3 j keysKey underlying145 U U U Ht (u:=ptrV x1.ad 0) (XH d))<|Zd U U U (VC.nil (Qc (Qh [46,45,44,8,2,0,10,11] U (Qe (Qa (Qg U YR U (Qo U XT (j.cell 10 U U) U (Qb U U (YB U U U (Qf (Qc (Qh [46,45,44,8,2,0,11,59] U (Qs U (λI=> ?_) (λI=> ?_))))))))))))))
  ·have J:k.1=ob:=I;refine Qe<|Qa<|Qb U U<|Qb U U<|Qj U U<|Qg U WP U<|Qw AF U (qd0 (j.sp [6,9,11,0] U) (by omega) 0) U ?_;rintro _ a7 ⟨rfl,K⟩;replace K:=K.jn U U;refine Qf<|Qc<|Qh [46,45,44,8,2,0,11] U<|Qa<|Qb U U<|Qj U U<|Qg U Wt U<|QK (v:=ZC (BitVec.allOnes 64)) K U U Kb U (i:=3) U (Xk U) ?_;intro a8 S;dsimp only[List.set]at S;refine Qf<|Qm<|Qc<|Qa<|QE U U (by omega) (by omega) U ?_;refine Qb U U<|Qf ?_;have a2:=Js (L:={L1 with sh:=YV (refW V1 0) (YW L1.sh 0) x1.own}) (y:={x1 with own:=0,wr:=BitVec.allOnes 64}) a d U (S.pick [3,4,5,6,7,8,0,9,10,1,2,11,12,13] U)
   obtain⟨B,W⟩:=Ns (s:=0) p hx (.inl rfl) a d (YV (refW V1 0) (YW L1.sh 0) x1.own);rw[JP p.zero]at W;have a3:=e.T (y:={x1 with own:=0,wr:=BitVec.allOnes 64}) O J a d U W
   exact Q5 (L1:=[(0,_),(2,_),(8,_),(44,_),(45,_),(46,intV ((i+1:Nat):Int))]) (R6 U U U U U U) (k1:=(QV ks).length -(i+1)) (by omega) ⟨i+1,_,_,by omega,rfl,(X3 (m:=n+2*(i+1)) (by omega) (a2.pick [1,0,3,4] U)).reorder [1,0,2,3] U,by omega,B.inv,B.sp.trans E,λc q=>B.al c (G c q),H.trans B.pg,a3⟩
  have J:k.1≠ob:=I;refine Qt<|Qm<|Qc<|Qa<|QE U U (by omega) (by omega) U ?_;refine Qb U U<|Qf ?_;have X:=Js (L:=L1) (y:=x1) a d U (j.pick [0,1,2,3,4,5,6,7,8,9,10,11,12,13] U);rw[Hf a d]at X;exact Q5 (L1:=[(0,_),(2,_),(8,_),(44,_),(45,_),(46,intV ((i+1:Nat):Int))]) (R6 U U U U U U) (k1:=(QV ks).length -(i+1)) (by omega) ⟨i+1,L1,V1,by omega,rfl,(X3 (m:=n+2*(i+1)) (by omega) (X.pick [2,0,3,4] U)).reorder [1,0,2,3] U,by omega,p,E,G,H,e.F O J⟩
 refine QQ<|Qp<|Qp<|Qy<|Qc ?_;have a4:i=(QV ks).length:=by omega
 rw[a4,List.take_length]at e;obtain⟨g,l,z,A,R⟩:=_root_.id e;have a:L1.tr id=some {t with lv:=g}:=by rw[l,Qv]
 have a5:=Zo (j5.pick [0,1,2,3] U);have Y:=W3 (a5.pick [3,0,1,2,4,5,6,7] U) a;refine Qa<|Qb U U<|Qj U U<|Qg U Ko U<|Qo U Db (Y.cell 0 U U) U<|Qb U U<|QT (k:=ob) (v:= .bool true) 3 Y keysStr underlying146 U U U U ?_;intro a9 M;dsimp only[List.set]at M;rw[PT]at M;refine Qf<|Zb (.inl U) U ?_;have Z:=Gv (t:=({t with lv:=g,dr:=Hw t.dr ob}:TrD)) (M.pick [0,1,2,3,4,5,6,7,8,9,10,11] U)
 rw[<-WK (ad:=TrD.ad) (f:=L1.tr) (k:=id) (y:=({t with lv:=g,dr:=Hw t.dr ob}:TrD)) a U]at Z
 have C:=IC p E G H e o (qgf D) l z A R;exact⟨_,rfl,{L1 with tr:=QN L1.tr id (some ({t with lv:=g,dr:=Hw t.dr ob}:TrD))},V1,C.1,C.2,LG o z (by show QN L1.tr id _=_;rw[l,Hj]) (λk x hx=>by obtain⟨y,hy,_⟩:=(A k).2 x hx;rw[hy];simp),z,(X3 (m:=n+2*c) (by omega) ((Xq (L:={L1 with tr:=QN L1.tr id (some ({t with lv:=g,dr:=Hw t.dr ob}:TrD))}) (Z.pick [1,2,3,0,4,5,7] rfl)).reorder [1,0,2] rfl)).reorder [1,0,2] rfl⟩
theorem HK {L:List α} (c:L.Nodup) {y:α} (d:L[i]? =some y):y∉L.take i:=by
  intro q;obtain⟨j,a⟩:=List.mem_iff_getElem?.1 q;have b:j<i:=by have :=(Za a).1;rw[List.length_take]at this;omega
  rw[List.getElem?_take_of_lt b]at a;have e:=(Za d);have f:=(Za a);obtain⟨p1,p2⟩:=e;obtain⟨h,g⟩:=f;have :=(List.getElem_inj c).1 (g.trans p2.symm);omega
def inZ (id:Int) (l:List KD):Pl->Prop:= λp=> ∃k o,p= .inr (id,k,o)/\k∈l
theorem MM {ad:α->Nat} {f:κ->Option α} {k:κ}:upd (XM ad f) k none=XM ad (QN f k none):=by
  funext j;by_cases h:j=k
  · subst h;rw[XR];unfold XM;rw[Qv];rfl
  · rw[ZG h];unfold XM;rw[Qz h]
structure RemI (ex:Int→Int) (L:LvD) (V V1:VS) (id:Int) (l:List KD):Prop where
  ref:RefI (WM (inZ id l) 0 (Xx L)) V1 ex
  pg:Pgs V V1
  al: ∀c,AliveLe V c→AliveLe V1 c
theorem RemI.start {ex:Int->Int} (h:LvX ex m L V):RemI ex L V V id []:=
  ⟨h.ref.fn λp=>by simp [WM,inZ],.refl,λ_ q=>q⟩
theorem CX {f:κ->Int} {ex:Int->Int} (h:RefI f V ex) (a:NN ex) (p:κ):RefI (VN f p 0) (ZH V (f p)) ex:=
  ((h.put p 0).unr (h.aliveN U (a _))).ext λj b=>by rw[JE (s:=0) b];omega
theorem RemI.step {ex:Int->Int} (h:RemI ex L V V1 id (l.take i)) (f:NN ex) (g:L.tr id=some t) (j:t.lv k=some x) (m:l[i]? =some k) (r:l.Nodup):
    RemI ex L V (ZH (ZH V1 x.base) x.own) id (l.take (i+1)):=by
  have b:k∉l.take i:=HK r m
  have a: ∀o,¬inZ id (l.take i) (.inr (id,k,o)):= λo=>by
    rintro⟨k',o',e,q⟩;simp at e;obtain⟨rfl,rfl⟩:=e;exact b q
  have s:WM (inZ id (l.take i)) 0 (Xx L) (.inr (id,k,false))=x.base:=by unfold WM;rw[if_neg (a _),XB g j];rfl
  have d:=CX h.ref f (.inr (id,k,false));rw[s]at d;have u:VN (WM (inZ id (l.take i)) 0 (Xx L)) (.inr (id,k,false)) 0 (.inr (id,k,true))=x.own:=by rw[Zk (by simp)];unfold WM;rw[if_neg (a _),XB g j];rfl
  have n:=CX d f (.inr (id,k,true));rw[u]at n;refine⟨n.fn λp=> ?_,(h.pg.trans (Pgs.unr h.ref.zero)).trans (Pgs.unr d.zero),λc q=>(h.al c q).unr.unr⟩
  · have v: ∀p,inZ id (l.take (i+1)) p↔(p= .inr (id,k,true)\/(p= .inr (id,k,false)\/inZ id (l.take i) p)):= λp=>by
      unfold inZ;rw[List.take_add_one,m];simp only[Option.toList_some,List.mem_append,List.mem_singleton];constructor
      · rintro⟨k',o,rfl,q | q⟩
        · exact .inr (.inr ⟨k',o,U,q⟩)
        · subst q;cases o
          · exact .inr (.inl U)
          · exact .inl U
      · rintro(rfl | rfl | ⟨k',o,rfl,q⟩)
        · exact⟨k,true,U,.inr U⟩
        · exact⟨k,false,U,.inr U⟩
        · exact⟨k',o,U,.inl q⟩
    rw[KB (P:= λp=>p= .inr (id,k,false)\/inZ id (l.take i) p) v,KB (P:=inZ id (l.take i)) (λ_=>Iff.rfl)]
noncomputable def Kw (A:LvA) (id:Int):LvA:={A with tr:=QN A.tr id none}
theorem RankI.del {T:Int->Option TrD} (h:RankI T m) (d: ∀i u,T i=some u->u.parent≠id):RankI (QN T id none) m:=by
  obtain⟨j,r,a,b⟩:=h
  have f:QN T id none 0=none:=by
    by_cases e:(0:Int)=id
    · rw[<-e,Qv]
    · rw[Qz e];exact j
  refine⟨f,r,a,λi t c=> ?_⟩;by_cases e:i=id
  · subst e;rw[Qv]at c;cases c
  · rw[Qz e]at c;rcases b i t c with g | ⟨g,k⟩
    · exact .inl g
    · exact .inr ⟨by rw[Qz (d i t c)];exact g,k⟩
theorem rem_fin {ex:Int->Int} {f:Int->Bool} (z:LvX ex m L V) (B:NN ex) (h:RemI ex L V V1 id l) (C:L.tr id=some t) (D: ∀k,k∈l↔t.lv k≠none) (w: ∀i u,L.tr i=some u->u.parent≠id):
    StepX ex m L V ex m 0 0 {L with tr:=QN L.tr id none,sh:=f} V1/\QC {L with tr:=QN L.tr id none,sh:=f} V1=Kw (QC L V) id:=by
  generalize n:({L with tr:=QN L.tr id none,sh:=f}:LvD)=L2
  have y:L2.pres=L.pres:=by subst n;rfl
  have r:L2.tr=QN L.tr id none:=by subst n;rfl
  have E: ∀p,Xx L2 p=WM (inZ id l) 0 (Xx L) p:= λp=>by
    unfold WM;cases p with
    | inl j=>
      rw[if_neg (by rintro⟨_,_,e,_⟩;cases e)];simp [Xx,y]
    | inr q=>
      obtain⟨i,k,o⟩:=q;by_cases e:i=id
      · subst e;have v:Xx L2 (.inr (i,k,o))=0:=by simp only[Xx,r,Qv]
        rw[v];split
        · rfl
        · rename_i F;cases g:t.lv k with
          | none=> rw[RV C g]
          | some x=> exact absurd ⟨k,o,rfl,(D k).2 (by rw[g];simp)⟩ F
      · rw[if_neg (by rintro⟨_,_,G,_⟩;cases G;exact e rfl)];simp only[Xx,r];rw[Qz e]
  have A:RefI (Xx L2) V1 ex:=h.ref.fn E;have H: ∀p,Zm V1 (Xx L2 p)=Zm V (Xx L2 p):= λp=>(h.pg _ (A.aliveN U (B _))).2
  have v:QC L2 V1=Kw (QC L V) id:=by
    rw[V9 (V:=V) H];unfold QC Kw;rw[y,r];congr 1;funext i;by_cases e:i=id
    · subst e;rw[Qv,Qv];rfl
    · rw[Qz e,Qz e]
  refine⟨⟨⟨A,by rw[r];exact z.rank.del w, ?_⟩,by subst n;rfl,h.al,λc q=> ?_,h.pg⟩,v⟩
  · rw[v];intro i u k x hi g;dsimp only[Kw]at hi;by_cases e:i=id
    · subst e;rw[Qv]at hi;cases hi
    · rw[Qz e]at hi;exact z.agree i u k x hi g
  · obtain⟨li,a,b,d⟩:=q;refine⟨li,a,λk g=>b k (by rwa [y]at g),λj u k x s g=> ?_⟩;rw[r]at s;by_cases e:j=id
    · subst e;rw[Qv]at s;cases s
    · rw[Qz e]at s;exact d j u k x s g
theorem CW {ex:Int->Int} {Fr:Nat} {F:Th} (r:Sat w [WB b L,ZP L.sp n Fr V,F]) (M:SzLe L c) (Y:n+2*c<=60000000000) (N:LvX ex m L V) (O:NN ex) (q:L.tr id=some t) (E: ∀i u,L.tr i=some u->u.parent≠id):
    Calls prog 91 #[ptrV b 0,intV id] w (Ret λv w'=> ∃L' V',StepX ex m L V ex m 0 0 L' V'/\QC L' V'=Kw (QC L V) id/\L'.pres=L.pres/\L'.tr=QN L.tr id none/\Sat w' [WB b L',ZP L'.sp (n+2*c) Fr V',F]):=by
 replace r:=Zo r;refine Qn func91 U ntmps91 U ?_;refine Qe<|Qa<|Qb U U<|Qj U U<|Qg U Wv U<|Qo U J9 (r.cell 0 U U) U<|Qb U U<|Xf (k:=id) 2 r keysInt underlying141 U U U YY (u:=ptrV t.ad 0) (XH q) U<|Qd U U<|Qf<|Qc<|Qe<|Qe ?_;have P:=W3 (r.pick [3,0,1,2,4,5,6] U) q;refine Qa<|Qb U U<|Qj U U<|Qg U Wu U<|Qo U Jv (P.cell 0 U U) U ?_;refine Qw PR U (Tf (P.sp [1] U) (λks h=>by have :=M.keysL q h;omega)) U ?_;rintro _ w2 ⟨ks,d,C⟩;replace C:=C.jn U U;obtain⟨ar,cr,G,_⟩:=C.own_shape 0 rfl;obtain rfl:=G;refine Xl underlying163 U U<|Qb U U<|Qf<|Qc<|Qh [1,0,4,17,18,19] U<|Qx ?_;have H:=Up d.nodup;have Q:(QV ks).length<=c:=by rw[Jd];exact M.keysL q (Came.of_all d)
 refine QU (λK0 E0 W0=> ∃(i:Nat) (f:Int->Bool) (V1:VS),K0=(QV ks).length -i/\E0=[(0,ptrV b 0),(1,intV id),(4,ptrV t.ad 0),(17,.slice ar (QV ks).length cr),(18,intV ((QV ks).length:Int)),(19,intV (i:Int))]/\Sat W0 [Q6 t.ad [intV t.parent,.map (some t.ml),.map (some t.md)],Q4 X7 t.ml (XM LfD.ad t.lv),Xw Bt t.lv,Q4 Xo t.md (YA t.dr),Xw Gi (QN L.tr id none),Q6 b [ptrV L.sp 0,.map (some L.mp),.map (some L.mt),intV L.cur,.map (some L.ms)],Q4 X7 L.mp (ZU L.pres),Q4 QY L.mt (XM TrD.ad L.tr),Q4 QY L.ms (YA f),ZP L.sp (n+2*i) Fr V1,rowT kC (.slice ar (QV ks).length cr) (QV ks),F]/\(i<=(QV ks).length)/\(RemI ex L V V1 id ((QV ks).take i))) (L0:=[(0,_),(1,_),(4,_),(17,_),(18,_),(19,_)]) ((QV ks).length) (R6 U U U U U U) ⟨0,L.sh,V,by omega,rfl,C.pick [2,1,3,4,5,6,7,8,9,10,0,11] U,by omega,RemI.start N⟩ ?_;rintro _ _ Z ⟨i,f,V1,rfl,rfl,s,hi,j⟩;refine Qe<|Qa<|Xa U U U<|Qf<|Qc<|Qe<|Qs U (λR=> ?_) (λR=> ?_)
 ·obtain⟨k,D⟩: ∃k,(QV ks)[i]? =some k:=⟨_,XQ (by omega)⟩;refine Qt<|Qc<|Qe<|Qx<|Qe<|Qa<|Xj kC 10 i s U U U (by first | rfl | omega) D Ku U ?_
  intro bx5 capx5 y;refine Wq 10 i s U y U D Xu Xb U U<|Xc s Wo U U ?_;intro kb wk6 z;refine QW z U U Xb U (by rfl) (i:=0) U (by decide) ?_;intro wk7 e;dsimp only[List.set]at e;clear z;replace e:=Zr (k:=k) e;refine Qf<|Qc<|Qe ?_;obtain⟨x,A⟩: ∃x,t.lv k=some x:=Option.ne_none_iff_exists'.1 ((qgf d k).1 (List.mem_of_getElem? D));have S:=Ue (e.pick [3,0,1,2,4,5,6,7,8,9,10,11,12] U) A;have B:=S.drew;refine Q7 [0,1,2,3,4,5,6,7,8,9,10] [10] Z9 (by kernel_rfl) ?_;refine Q3 U U U<|Q3 U U U<|QP U U U<|QG U U U Wu<|Q0 U U U (Ql U Jv (B.cell 3 U U))<|Q0 U U U (X5 U Xu Xb (B.blk 2 U) (Xk U) U)<|Q0 U U U (X4 (k:=k) 4 B keysKey underlying145 U U U Ht (u:=ptrV x.ad 0) (XH A))<|QP U U U<|QG U U U GM<|Q0 U U U (Ql U QL (B.cell 0 U U))<|QO U U U U U U ?_;refine Qw Vy U (Vh (B.sp [7,10,11] U) (by omega) x.base) U ?_;rintro _ T ⟨rfl,l⟩;replace l:=l.jn U U;refine Xh (Xd (by kernel_rfl)) ?_;refine VC.nil (Qc (Qh [19,18,17,4,1,0,6] U ?_));have a:=l.drew;refine Q7 [0,1,2,3,4,5,6,7,8,9,10] [10] Z9 (by kernel_rfl) ?_;refine Q3 U U U<|Q3 U U U<|QP U U U<|QG U U U Wu<|Q0 U U U (Ql U Jv (a.cell 6 U U))<|Q0 U U U (X5 U Xu Xb (a.blk 5 U) (Xk U) U)<|Q0 U U U (X4 (k:=k) 7 a keysKey underlying145 U U U Ht (u:=ptrV x.ad 0) (XH A))<|QP U U U<|QG U U U WP<|Q0 U U U (Ql U QL (a.cell 3 U U))<|QO U U U U U U ?_;refine Qw Vy U (Vh (a.sp [0,1,2] U) (by omega) x.own) U ?_;rintro _ W ⟨rfl,o⟩;replace o:=o.jn U U;refine Xh (Xd (by kernel_rfl)) ?_;refine VC.nil (Qm (Qc (Qh [19,18,17,4,1,0] U (Qa (QE U U (by omega) (by omega) U ?_)))));refine Qb U U<|Qf ?_;have I:=W5 A (o.pick [3,4,0,1,2,5,6,7,8,9,10,11,12,13] U);have J:=j.step O q A D H;exact Q5 (L1:=[(0,_),(1,_),(4,_),(17,_),(18,_),(19,intV ((i+1:Nat):Int))]) (R6 U U U U U U) (k1:=(QV ks).length -(i+1)) (by omega) ⟨i+1,_,_,by omega,rfl,I.pick [5,6,0,7,8,1,9,10,2,3,11,12] U,by omega,J⟩
 refine QQ<|Qp<|Qp<|Qy<|Qc<|Qa<|Qb U U<|Qj U U<|Qg U Wv U<|Qo U J9 (s.cell 5 U U) U<|Qb U U<|Wf (k:=id) 7 s keysInt underlying141 U U U U ?_;intro X p;dsimp only[List.set]at p;rw[MM]at p;refine Qf<|Zb (.inl U) U ?_;have K:i=(QV ks).length:=by omega
 rw[K,List.take_length]at j;have g:=rem_fin (f:=f) N O j q (qgf d) E;exact⟨_,rfl,{L with tr:=QN L.tr id none,sh:=f},V1,g.1,g.2,rfl,rfl,(X3 (m:=n+2*c) (by omega) ((Xq (L:={L with tr:=QN L.tr id none,sh:=f}) (p.pick [5,6,7,4,8,9,11] U)).reorder [1,0,2] U)).reorder [1,0,2] U⟩
