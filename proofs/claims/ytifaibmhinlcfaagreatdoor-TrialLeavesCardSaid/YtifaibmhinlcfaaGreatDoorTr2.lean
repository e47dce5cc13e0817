/- trials: lists, plain -/
import Derived.Test.YtifaibmhinlcfaaGreatDoorLv1
set_option linter.unusedSectionVars false
set_option linter.unusedVariables false
set_option maxRecDepth 100000
set_option maxHeartbeats 80000000000
namespace Go.Proofs.YtifaibmhinlcfaaGreatDoor
open Go.RowKit M Proofs.Tryz
variable {As:List Th} {L:LvD} {V:VS} {a b n:Nat} {i id who:Int} {ids:List Int} {k:KD} {t:TrD} {w:World} {x:LfD}
def IdsOf (T:Nodes) (ids:List Int):Prop:=ids.Pairwise (· < ·)/\ ∀i,i∈ids↔i≠0/\T i≠none
theorem Ml: ∀{l m:List Int},l.Pairwise (· < ·)->m.Pairwise (· < ·)->(∀i,i∈l↔i∈m)->l=m
  | [],[],_,_,_=>rfl
  | [],a::m,_,_,h=>absurd ((h a).2 List.mem_cons_self) (by simp)
  | a::l,[],_,_,h=>absurd ((h a).1 List.mem_cons_self) (by simp)
  | a::l,b::m,g,j,h=>by
    obtain⟨d,k⟩:=List.pairwise_cons.1 g;obtain⟨f,n⟩:=List.pairwise_cons.1 j
    have e:a=b:=by
      rcases List.mem_cons.1 ((h a).1 List.mem_cons_self)with e | e
      · exact e
      · rcases List.mem_cons.1 ((h b).2 List.mem_cons_self)with c | c
        · exact c.symm
        · have :=d b c;have :=f a e;omega
    subst e;rw[Ml k n λi=> ?_];constructor
    · intro hi;rcases List.mem_cons.1 ((h i).1 (List.mem_cons_of_mem _ hi))with e | e
      · subst e;have :=d i hi;omega
      · exact e
    · intro hi;rcases List.mem_cons.1 ((h i).2 (List.mem_cons_of_mem _ hi))with e | e
      · subst e;have :=f i hi;omega
      · exact e
theorem IdsOf.uniq {T:Nodes} {l m:List Int} (h:IdsOf T l) (a:IdsOf T m):l=m:=Ml h.1 a.1 λi=>(h.2 i).trans (a.2 i).symm
theorem IdsOf.get {T:Nodes} (h:IdsOf T ids) {k:Nat} (c:ids[k]? =some i):i≠0/\ ∃n,T i=some n:=by
  obtain⟨a,b⟩:=(h.2 i).1 (List.mem_of_getElem? c);exact⟨a,Option.ne_none_iff_exists'.1 b⟩
theorem IdsOf.begin {T:Nodes} {last:Int} {x:NodeD} (b:TrI T last) (h:IdsOf T ids):IdsOf (QN T (last+1) (some x)) (ids++[last+1]):=by
  refine⟨List.pairwise_append.2 ⟨h.1,List.pairwise_singleton _ _,λa d c f=> ?_⟩,λi=> ?_⟩
  · obtain⟨a0,g⟩:=(h.2 a).1 d;obtain⟨n,j⟩:=Option.ne_none_iff_exists'.1 g;have :=b.pos j a0;rw[List.mem_singleton]at f;omega
  · rw[List.mem_append,List.mem_singleton,h.2];have k:=b.last0;by_cases e:i=last+1
    · subst e;rw[Qv];exact⟨λ_=>⟨by omega,by simp⟩,λ_=> .inr U⟩
    · rw[Qz e];exact⟨λq=>q.resolve_right e,.inl⟩
theorem TZ {T:Nodes} (h: ∀j,¬ChildOf T id j):abS T (λj=>j=id)=QN T id none:=by
  rw[<-qgn];congr 1;have e:abS T (ChildOf T id)=abS T (λ_=>False):=qam λj=>⟨λq=>h j q,λq=>q.elim⟩;rw[e,qgo]
def Yl (T:Nodes) (ids:List Int) (who:Int):List Int:=ids.filter λi=> match T i with | none=>false | some n=>decide (n.par=who)
theorem qdp {T:Nodes} (h:IdsOf T ids) (j:Int):j∈Yl T ids who↔ChildOf T who j:=by
  unfold Yl ChildOf;rw[List.mem_filter,h.2];cases q:T j with
  | none=> simp
  | some n=> simp
theorem Td {T:Nodes} (h:IdsOf T ids):Yl T ids who=[]↔ ∀j,¬ChildOf T who j:=by
  rw[List.eq_nil_iff_forall_not_mem];exact forall_congr' λj=>not_congr (qdp h j)
def DepI (T:Nodes):Prop:= ∀i n,T i=some n->0<=n.dep/\n.dep<=8
theorem DepI.abS {T:Nodes} {D:Int->Prop} (h:DepI T):DepI (abS T D):= λi n q=>h i n (KA q).2
variable [Inhabited SlW]
noncomputable def ZA (L:LvD) (id:Int) (t:TrD) (k:KD) (x:LfD):LvD:={L with tr:=QN L.tr id (some {t with lv:=QN t.lv k (some x)})}
theorem YL (a:L.tr id=some t) (c:t.lv k=some x) (h:Sat w (WB b L::As)):
    Sat w (Q6 x.ad [intV x.base,intV x.own,ZC x.rd,ZC x.wr]::Xw Bt (QN t.lv k none)::Q6 t.ad [intV t.parent,.map (some t.ml),.map (some t.md)]::Q4 X7 t.ml (XM LfD.ad t.lv)::Q4 Xo t.md (YA t.dr)::Xw Gi (QN L.tr id none)::Q6 b [ptrV L.sp 0,.map (some L.mp),.map (some L.mt),intV L.cur,.map (some L.ms)]::Q4 X7 L.mp (ZU L.pres)::Q4 QY L.mt (XM TrD.ad L.tr)::Q4 QY L.ms (YA L.sh)::As):=by
  have d:=W3 (i:=id) (t:=t) ((Zo h).perm ((List.Perm.cons _ (List.Perm.cons _ (List.Perm.swap _ _ _))).trans ((List.Perm.cons _ (List.Perm.swap _ _ _)).trans (List.Perm.swap _ _ _)))) a;have e:=Ue (k:=k) (x:=x) (d.perm ((List.Perm.cons _ (List.Perm.swap _ _ _)).trans (List.Perm.swap _ _ _))) c;exact e
theorem Js {y:LfD} (d:L.tr id=some t) (e:t.lv k=some x) (g:y.ad=x.ad)
    (h:Sat w (Q6 y.ad [intV y.base,intV y.own,ZC y.rd,ZC y.wr]::Xw Bt (QN t.lv k none)::Q6 t.ad [intV t.parent,.map (some t.ml),.map (some t.md)]::Q4 X7 t.ml (XM LfD.ad t.lv)::Q4 Xo t.md (YA t.dr)::Xw Gi (QN L.tr id none)::Q6 b [ptrV L.sp 0,.map (some L.mp),.map (some L.mt),intV L.cur,.map (some L.ms)]::Q4 X7 L.mp (ZU L.pres)::Q4 QY L.mt (XM TrD.ad L.tr)::Q4 QY L.ms (YA L.sh)::As)):Sat w (WB b (ZA L id t k y)::As):=by
  have a:=qdo (x:=y) h;rw[<-WK e g]at a;have c:=Gv (t:={t with lv:=QN t.lv k (some y)}) (i:=id) (T:=L.tr) (a.perm ((List.Perm.swap _ _ _).trans (List.Perm.cons _ (List.Perm.swap _ _ _))))
  rw[<-WK (ad:=TrD.ad) (f:=L.tr) (k:=id) (x:=t) (y:={t with lv:=QN t.lv k (some y)}) d U]at c
  exact Xq (L:=ZA L id t k y) (c.perm ((List.Perm.swap _ _ _).trans ((List.Perm.cons _ (List.Perm.swap _ _ _)).trans (List.Perm.cons _ (List.Perm.cons _ (List.Perm.swap _ _ _))))))
theorem ME:(ZA L id t k x).tr id=some {t with lv:=QN t.lv k (some x)}:=Qv
theorem BR {T T':Int->Option TrD} (h: ∀i,(T' i).map TrD.parent=(T i).map TrD.parent): ∀n i,HG T n i->HG T' n i
  | 0,_,q=>q
  | n+1,i,q=>by
    rcases q with q | q
    · exact .inl q
    · refine .inr ?_;have b:=h i;cases a:T i with
      | none=> rw[a]at b;cases c:T' i with
        | none=>trivial
        | some y=> rw[c]at b;cases b
      | some x=>
        rw[a]at b q;cases c:T' i with
        | none=>trivial
        | some y=>
          rw[c]at b;have e:y.parent=x.parent:=by simpa using b
          show HG T' n y.parent;rw[e];exact BR h n _ q
theorem Jr {T:Int->Option TrD} {t':TrD} (a:T i=some t) (b:t'.parent=t.parent): ∀j,((QN T i (some t')) j).map TrD.parent=(T j).map TrD.parent:= λj=>by
  by_cases e:j=i
  · subst e;rw[Qv,a];simp [b]
  · rw[Qz e]
theorem Ln (a:L.tr id=some t) (b: ∀i,HG L.tr ZO i): ∀i,HG (ZA L id t k x).tr ZO i:= λi=>BR (Jr (t':={t with lv:=QN t.lv k (some x)}) a U) _ _ (b i)
def H6 (t:TrD) (k:KD) (s:Int) (a:Nat):LfD:=⟨a,s,s,0#64,if t.dr k.1=true then BitVec.allOnes 64 else 0#64⟩
def TouR (L:LvD) (V:VS) (id:Int) (t:TrD) (k:KD) (L':LvD) (V':VS) (t':TrD) (x':LfD):Prop:=
  (t.lv k=some x'/\L'=L/\V'=V/\t'=t)\/(t.lv k=none/\ ∃a,x'=H6 t k (XA L id k) a/\t'={t with lv:=QN t.lv k (some x')}/\L'={L with tr:=QN L.tr id (some t'),sh:=YW (YW L.sh (XA L id k)) (XA L id k)}/\V'=refW (refW V (XA L id k)) (XA L id k))
section
variable {L L':LvD} {V V':VS} {id:Int} {t t':TrD} {k:KD} {x':LfD}
theorem TouR.tr (h:TouR L V id t k L' V' t' x') (b:L.tr id=some t):L'.tr id=some t':=by
  rcases h with⟨_,rfl,_,rfl⟩ | ⟨_,a,_,_,rfl,_⟩
  · exact b
  · exact Qv
theorem TouR.lv (h:TouR L V id t k L' V' t' x'):t'.lv k=some x':=by
  rcases h with⟨h,rfl,_,rfl⟩ | ⟨_,a,_,rfl,_,_⟩
  · exact h
  · exact Qv
theorem TouR.sp (h:TouR L V id t k L' V' t' x'):L'.sp=L.sp:=by
  rcases h with⟨_,rfl,_,_⟩ | ⟨_,a,_,_,rfl,_⟩<;>rfl
theorem TouR.ends (h:TouR L V id t k L' V' t' x') (c:L.tr id=some t) (b: ∀i,HG L.tr ZO i): ∀i,HG L'.tr ZO i:=by
  rcases h with⟨_,rfl,_,_⟩ | ⟨_,a,_,rfl,rfl,_⟩
  · exact b
  · exact λi=>BR (Jr (t':={t with lv:=QN t.lv k (some x')}) c U) _ _ (b i)
theorem TouR.sees (h:TouR L V id t k L' V' t' x') (a:L.tr id=some t) (b:id≠0):XA L' id k=x'.own:=UD b (h.tr a) h.lv
end
def BF (ob:Bs) (a:Int):Value:= if 0<=a/\a<16384 then .tuple #[X7 (ob,a/ 64),ZC (1#64<<<(a%64).toNat),.bool true]else .tuple #[X7 ([],0),ZC 0#64,.bool false]
def OwnP (L:LvD) (V:VS) (k:KD) (Fr:Nat) (L':LvD) (V':VS) (s e:Int):Prop:=
  (e=0/\s=L.pres k/\s≠0/\ZF V s=1/\L'=L/\V'=V)\/(e=6/\s=0/\AliveGe V Fr/\L'=L/\V'=V)\/
  (e=0/\1<=s/\V s=none/\ ¬(L.pres k≠0/\ZF V (L.pres k)=1)/\V'=ZH (QN V s (some (1,Zm V (L.pres k)))) (L.pres k)/\L'={L with pres:=ZS L.pres k s,sh:=YV (QN V s (some (1,Zm V (L.pres k)))) L.sh (L.pres k)})
def OwnT (L:LvD) (V:VS) (id:Int) (t:TrD) (k:KD) (x:LfD) (Fr:Nat) (L':LvD) (V':VS) (s e:Int):Prop:=
  (e=0/\s=x.own/\s≠0/\ZF V s=1/\L'=L/\V'=V)\/(e=6/\s=0/\AliveGe V Fr/\L'=L/\V'=V)\/
  (e=0/\1<=s/\V s=none/\ ¬(x.own≠0/\ZF V x.own=1)/\V'=ZH (QN V s (some (1,Zm V x.own))) x.own/\L'=ZA {L with sh:=YV (QN V s (some (1,Zm V x.own))) L.sh x.own} id t k {x with own:=s})
theorem Nc {κ α:Type} {ad:α->Nat} {f:κ->Option α} {k:κ} {x:α} (h:ad x=a):upd (XM ad f) k (some (ptrV a 0))=XM ad (QN f k (some x)):=by subst h;exact G6
theorem qas {X:LfD} {b1 o1:Int} {b c:BitVec 64} (d:X=⟨a,b1,o1,b,c⟩) (h:Sat w (Q6 a [intV b1,intV o1,ZC b,ZC c]::As)):Sat w (Q6 X.ad [intV X.base,intV X.own,ZC X.rd,ZC X.wr]::As):=by subst d;exact h
theorem Zr {kb:Nat} (h:Sat w (Q6 kb (X7 k).cells.toList::As)):Sat w (Q6 kb [strV k.1,intV k.2]::As):=h
theorem touch_y {Fr:Nat} {F:Th} (d:Sat w [WB b L,ZP L.sp n Fr V,F]) (j:n<=60000000000) (l: ∀i,HG L.tr ZO i) (e:L.tr id=some t) (f:t.lv k=some x):
    Calls prog 101 #[ptrV b 0,intV id,X7 k] w (Ret λv w'=>v=ptrV x.ad 0/\Sat w' [WB b L,ZP L.sp n Fr V,F]):=by
 replace d:=Zo d;refine Qn func101 U ntmps101 U ?_;refine Qe<|Qa<|XL d U U U ?_;intro kb m a;replace a:=Zr a;refine Qd U U<|Qf<|Qc<|Qe<|Qa<|Qb U U<|Qj U U<|Qg U Wv U<|Qo U J9 (a.cell 1 U U) U<|Qb U U<|Xf (k:=id) 3 a keysInt underlying141 U U U YY (u:=(ptrV t.ad 0)) (XH e) U<|Qd U U<|Qf<|Qc<|Qh [1,0,5,6,7] U<|Qe<|Qe ?_;have g:=W3 (a.pick [4,0,1,2,3,5,6,7] U) e;have c:=g.drew;refine Q7 [0,1,2,3,4,5,6] [] Z9 (by kernel_rfl) ?_;refine Q3 U U U<|QP U U U<|QG U U U Wu<|Q0 U U U (Ql U Jv (c.cell 0 U U))<|Q0 U U U (X5 U Xu Xb (c.blk 5 U) (Xk U) U)<|Q0 U U U (X4 (k:=k) 1 c keysKey underlying145 U U U Ht (u:=(ptrV x.ad 0)) (XH f))<|Zd U U U (VC.nil (Qc (Qh [1,0,5,6,7,8] U (Qe (Qa (Qb U U (Zi underlying159 U U U (Qf (Qc (Xm U (Qe (Qa (Qb U U (Qd U U (Qf (Qc (Qu (Qq (QJ (.inr U) U U ?_)))))))))))))))))));have h:=W4 e (c.pick [0,1,2,3,4,5,6,7,8,9,10,11] U);exact⟨_,U,U,Xq (h.pick [2,3,4,0,5,6,7] U)⟩
theorem touch_n {Fr:Nat} {F:Th} (B:Sat w [WB b L,ZP L.sp n Fr V,F]) (Y:n<=60000000000) (K: ∀i,HG L.tr ZO i) (o:L.tr id=some t) (C:t.lv k=none):
    Calls prog 101 #[ptrV b 0,intV id,X7 k] w (Ret λv w'=> ∃a,v=ptrV a 0/\Sat w' [WB b {L with tr:=QN L.tr id (some {t with lv:=QN t.lv k (some (H6 t k (XA L id k) a))}),sh:=YW (YW L.sh (XA L id k)) (XA L id k)},ZP L.sp (n+2) Fr (refW (refW V (XA L id k)) (XA L id k)),F]):=by
 replace B:=Zo B;refine Qn func101 U ntmps101 U ?_;refine Qe<|Qa<|XL B U U U ?_;intro kb Z p;replace p:=Zr p;refine Qd U U<|Qf<|Qc<|Qe<|Qa<|Qb U U<|Qj U U<|Qg U Wv U<|Qo U J9 (p.cell 1 U U) U<|Qb U U<|Xf (k:=id) 3 p keysInt underlying141 U U U YY (u:=(ptrV t.ad 0)) (XH o) U<|Qd U U<|Qf<|Qc<|Qh [1,0,5,6,7] U<|Qe<|Qe ?_;have M:=W3 (p.pick [4,0,1,2,3,5,6,7] U) o;have A:=M.drew;refine Q7 [0,1,2,3,4,5,6] [] Z9 (by kernel_rfl) ?_;refine Q3 U U U<|QP U U U<|QG U U U Wu<|Q0 U U U (Ql U Jv (A.cell 0 U U))<|Q0 U U U (X5 U Xu Xb (A.blk 5 U) (Xk U) U)<|Q0 U U U (X4 (k:=k) 1 A keysKey underlying145 U U U Ht (u:=(.pointer none)) (Nd C))<|Zd U U U (VC.nil (Qc (Qh [1,0,5,6,7,8] U (Qe (Qa (Qb U U (Z7 underlying159 U U U (Qf (Qc (QM U (Qt (Qc (Qe ?_)))))))))))));have N:=W4 o (A.pick [0,1,2,3,4,5,6,7,8,9,10,11] U);have J:=Xq (L:=L) (N.pick [2,3,4,0,5,1,6,7] U);refine Qa<|Qb U U<|Qb U U ?_;refine XX U Xu Xb (by first | exact J.blk 1 U) (by first | decide | exact Xk U | (simp;done) | omega) U U ?_
 refine Qw HD U (Vk (J.sp [0] U) K id k) U ?_;rintro _ w6 ⟨rfl,D⟩;replace D:=D.jn U U;refine Qd U U<|Qf<|Qc<|Qh [0,5,6,7,9] U<|Qe<|Qa<|Qb U U<|Qb U U<|Bz (vs':=[intV (XA L id k),intV (XA L id k),.int .u64 0,.int .u64 0]) U Lw asz_158 zr_158 U U U<|XL D U U U ?_;intro xa w8 O;refine Qd U U<|Qf<|Qc<|Qe ?_;have P:=Zo (O.pick [1,0,2,3,4] U);refine Qa<|Qb U U<|Qb U U<|Qw Bd U (S7 (P.sp [0,4,7] U) (by omega) (XA L id k)) U ?_;rintro _ Q ⟨rfl,e⟩;replace e:=e.jn U U;refine Qf<|Qc<|Qh [0,5,6,7,9,10] U<|Qe<|Qa<|Qb U U<|Qb U U<|Qw Bd U (S7 (e.sp [0,1,2] U) (by omega) (XA L id k)) U ?_;rintro _ R ⟨rfl,g⟩;replace g:=g.jn U U;refine Qf<|Qc<|Qe<|Qe ?_;have E:=W3 (g.pick [5,0,1,2,3,4,6,7,8] U) o;have c:=E.drew;refine Q7 [0,1,2,3,4,5,6] [] Z9 (by kernel_rfl) ?_;refine Q3 U U U<|QP U U U<|QG U U U Ko<|Q0 U U U (Ql U Db (c.cell 0 U U))<|QG U U U YR<|Q0 U U U (Ql U XT (c.cell 11 U U))<|Q0 U U U (X4 (k:=k.1) 3 c keysStr underlying146 U U U zr_4 (u:= .bool (t.dr k.1)) (PU _ _)) (VC.nil (Qc (Qh [5,6,7,10,46] U (QR U (λh=> ?_) (λh=> ?_)))))
 ·have j:t.dr k.1=true:=h;refine Qa<|Qb U U<|Qj U U<|Qg U Wt U<|QK c U U Kb U (i:=10) U (Xk U) ?_;intro S q;dsimp only[List.set]at q;refine Qf<|Qc<|Qe ?_;have l:=q.drew;refine Q7 [0,1,2,3,4,5,6] [6] Z9 (by kernel_rfl) ?_;refine Q3 U U U<|QP U U U<|QG U U U Wu<|Q0 U U U (Ql U Jv (l.cell 0 U U))<|Q0 U U U (X5 U Xu Xb (l.blk 11 U) (Xk U) U)<|Q3 U U U<|QO U U U U U U ?_;refine QT (k:=k) (v:=ptrV xa 0) 1 l keysKey underlying145 U U U U ?_;intro W r;dsimp only[List.set]at r;refine Zc (Xd (by kernel_rfl)) ?_;refine VC.nil (Qc (Qh [6,10] U (Qe (Qa (Qb U U (Qd U U (Qf (Qc (Qu (QJ (.inr U) U U ?_))))))))));have G:(H6 t k (XA L id k) xa)=⟨xa,XA L id k,XA L id k,0#64,BitVec.allOnes 64⟩:=by unfold H6;rw[if_pos j]
  have H:=qas G (r.pick [10,2,0,1,3,4,5,8,9,6,7,12] U);have I:=EM C H;have d:=I.perm ((List.Perm.swap _ _ _).trans (List.Perm.cons _ (List.Perm.swap _ _ _)));rw[Nc (ad:=LfD.ad) (x:=(H6 t k (XA L id k) xa)) (a:=xa) U]at d;have s:=Gv (t:=({t with lv:=QN t.lv k (some (H6 t k (XA L id k) xa))}:TrD)) (i:=id) (T:=L.tr) d
  rw[<-WK (ad:=TrD.ad) (f:=L.tr) (k:=id) (x:=t) (y:=({t with lv:=QN t.lv k (some (H6 t k (XA L id k) xa))}:TrD)) o U]at s
  exact⟨_,U,xa,U,Xq (L:={L with tr:=QN L.tr id (some ({t with lv:=QN t.lv k (some (H6 t k (XA L id k) xa))}:TrD)),sh:=YW (YW L.sh (XA L id k)) (XA L id k)}) (s.reorder [1,2,3,0,4,5,6] U)⟩
 have j:t.dr k.1=false:=h;refine Qt<|Qc<|Qe ?_;have m:=c.drew;refine Q7 [0,1,2,3,4,5,6] [6] Z9 (by kernel_rfl) ?_;refine Q3 U U U<|QP U U U<|QG U U U Wu<|Q0 U U U (Ql U Jv (m.cell 0 U U))<|Q0 U U U (X5 U Xu Xb (m.blk 11 U) (Xk U) U)<|Q3 U U U<|QO U U U U U U ?_;refine QT (k:=k) (v:=ptrV xa 0) 1 m keysKey underlying145 U U U U ?_;intro X z;dsimp only[List.set]at z;refine Zc (Xd (by kernel_rfl)) ?_;refine VC.nil (Qc (Qh [6,10] U (Qe (Qa (Qb U U (Qd U U (Qf (Qc (Qu (QJ (.inr U) U U ?_))))))))));have G:(H6 t k (XA L id k) xa)=⟨xa,XA L id k,XA L id k,0#64,0#64⟩:=by unfold H6;rw[if_neg (by rw[j];decide)]
 have H:=qas G (z.pick [10,2,0,1,3,4,5,8,9,6,7,12] U);have I:=EM C H;have d:=I.perm ((List.Perm.swap _ _ _).trans (List.Perm.cons _ (List.Perm.swap _ _ _)));rw[Nc (ad:=LfD.ad) (x:=(H6 t k (XA L id k) xa)) (a:=xa) U]at d;have s:=Gv (t:=({t with lv:=QN t.lv k (some (H6 t k (XA L id k) xa))}:TrD)) (i:=id) (T:=L.tr) d
 rw[<-WK (ad:=TrD.ad) (f:=L.tr) (k:=id) (x:=t) (y:=({t with lv:=QN t.lv k (some (H6 t k (XA L id k) xa))}:TrD)) o U]at s
 exact⟨_,U,xa,U,Xq (L:={L with tr:=QN L.tr id (some ({t with lv:=QN t.lv k (some (H6 t k (XA L id k) xa))}:TrD)),sh:=YW (YW L.sh (XA L id k)) (XA L id k)}) (s.reorder [1,2,3,0,4,5,6] U)⟩
theorem UA {Fr:Nat} {F:Th} (d:Sat w [WB b L,ZP L.sp n Fr V,F]) (f:n<=60000000000) (g: ∀i,HG L.tr ZO i) (j:L.tr id=some t) :
    Calls prog 101 #[ptrV b 0,intV id,X7 k] w (Ret λv w'=> ∃L' V' t' x',v=ptrV x'.ad 0/\TouR L V id t k L' V' t' x'/\Sat w' [WB b L',ZP L'.sp (n+2) Fr V',F]):=by
  cases c:t.lv k with
  | some x=>
    refine(touch_y d f g j c).mono λe w h=>h.mono λv w h=> ?_;exact⟨L,V,t,x,h.1,.inl ⟨c,rfl,rfl,rfl⟩,(X3 (by omega) (h.2.reorder [1,0,2] U)).reorder [1,0,2] U⟩
  | none=>
    refine(touch_n d f g j c).mono λe w h=>h.mono λv w h=> ?_;obtain⟨a,l,m⟩:=h;exact⟨_,_,_,H6 t k (XA L id k) a,l,.inr ⟨c,a,U,U,U,U⟩,m⟩
theorem G7 {F:Th} (g:Sat w [F]) (ob:Bs) (a:Int):
    Calls prog 95 #[strV ob,intV a] w (Ret λv w'=>v=BF ob a/\Sat w' [F]):=by
 refine Qn func95 U ntmps95 U ?_;refine Qe<|Qa<|Xc g Wo U U ?_;intro b1 k d;refine Qd U U<|Qd U U<|Qf<|Qc<|Qe<|Qe<|Qa<|Qb U U<|Xa U U U<|Qb U U<|QZ 9 U (λb=> ?_) (λb=> ?_)
 ·refine Qi U U (det b) U<|Qi U U (det b) U<|QF U (det b) U U<|Qf<|Qc<|Qh [1,0,4,5,6,12] U<|Xm U<|Qe<|Qa<|Zj U E9 Vz Wo U U ?_
  first | (refine QW d U U Xb U (by rfl) (i:=0) U (by decide) ?_)
  intro l e;dsimp only[List.set]at e;refine Qd U U<|Qd U U<|Qf<|Qc<|Qu<|Qq ?_;refine qec (.inr U) U (qb9 U Xu Xb (by first | exact e.blk 0 U) (by first | decide | exact Xk U | (simp;done) | omega) U) (Gz U) (Gz U) ?_
  exact⟨_,rfl,by unfold BF;rw[if_neg (by omega)];rfl,e.pick [1] U⟩
 refine Qk U U (QH b)<|Qb U U<|Qk U U (QH b)<|WU U U U<|Q9 U (QH b) U U<|Qf<|Qc<|Qh [1,0,4,5,6,12] U<|Qs U (λh=> ?_) (λh=> ?_)
 ·refine Qe<|Qa<|Zj U E9 Vz Wo U U ?_
  first | (refine QW d U U Xb U (by rfl) (i:=0) U (by decide) ?_)
  intro n f;dsimp only[List.set]at f;refine Qd U U<|Qd U U<|Qf<|Qc<|Qu<|Qq ?_;refine qec (.inr U) U (qb9 U Xu Xb (by first | exact f.blk 0 U) (by first | decide | exact Xk U | (simp;done) | omega) U) (Gz U) (Gz U) ?_
  exact⟨_,rfl,by unfold BF;rw[if_neg (by omega)];rfl,f.pick [1] U⟩
 obtain⟨m,rfl⟩: ∃m:Nat,a=(m:Int):=⟨a.toNat,by omega⟩;refine Qt<|Qc<|Qe ?_;have j:=d.drew;refine Q7 [0,1,2,3,4,5,6,7,8,9] [7] Z9 (by kernel_rfl) ?_;refine Q3 U U U<|Q3 U U U<|Xi U U U (λ_=>(qef U U (by omega) (by omega) (by omega))) ?_;refine Xi U U U (λ_=>(Wy U HY Vz Wo U)) ?_;refine Q3 U U U<|Xi U U U (λ_=>(Ts U U (by omega) (by omega))) ?_;refine Xi U U U (λ_=>(qej (m%64) U U (by omega))) ?_;refine QO U U U U U U ?_
 first | (refine QW j U U Xb U (by rfl) (i:=0) U (by decide) ?_)
 intro o c;dsimp only[List.set]at c;refine Zc .nil<|Zd U U U<|Zd U U U (VC.nil (Qc (Qh [4,5,6] U (Qu (qec (.inr U) U (qb9 U Xu Xb (by first | exact c.blk 0 U) (Xk U) U) (Gz U) (Gz U) ?_)))))
 exact⟨_,rfl,by unfold BF;rw[if_pos (by omega)];rfl,c.pick [1] U⟩
