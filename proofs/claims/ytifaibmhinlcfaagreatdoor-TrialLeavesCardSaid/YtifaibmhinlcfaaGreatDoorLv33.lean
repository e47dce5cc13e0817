/- leaves: Copy in a trial -/
import Derived.Test.YtifaibmhinlcfaaGreatDoorLv27
import Derived.Test.YtifaibmhinlcfaaGreatDoorWa
import Derived.Test.YtifaibmhinlcfaaGreatDoorBit
set_option linter.unusedSectionVars false
set_option linter.unusedVariables false
set_option maxRecDepth 100000
set_option maxHeartbeats 1600000
namespace Go.Proofs.YtifaibmhinlcfaaGreatDoor
open Go.RowKit M Proofs.Tryz
variable [Inhabited SlW]
noncomputable def LQ (id:Int) (ob:Bs) (p0:Int) (A:LvA):Nat->LvA
  | 0=>A
  | q+1=>Ct id ob (LQ id ob p0 A q) (p0+(q:Int))
noncomputable def Gb (id:Int) (A:LvA) (to:Bs) (base:Int) (f:Nat->Bs):Nat->LvA
  | 0=>A
  | q+1=>GV id (Gb id A to base f q) ((to,base+(q:Int)),f q)
theorem Me {id:Int} {ob:Bs} {p0:Int} {A:LvA} (a: ∃t,A.tr id=some t): ∀q,∃t,(LQ id ob p0 A q).tr id=some t
  | 0=>a
  | q+1=>cpRd_tr (Me a q)
theorem CU {id:Int} {ob:Bs} {p0:Int} {A:LvA} (a: ∃t,A.tr id=some t) (j:KD): ∀q,WY (LQ id ob p0 A q) id j=WY A id j
  | 0=>rfl
  | q+1=>by
    obtain⟨t,h⟩:=Me (ob:=ob) (p0:=p0) a q;exact(ON (λ_=>h) j).trans (CU a j q)
section
variable {ex ex':Int→Int} {m e j:Nat} {L L1 L2:LvD} {V V1 V2:VS} {id p0 p s:Int} {t t2:TrD} {ob to:Bs} {l:List Int} {y:LfD} {A0:LvA}
structure CtI (ex:Int→Int) (m:Nat) (L L1:LvD) (V V1:VS) (id:Int) (ob:Bs) (p0:Int) (l:List Int) (j:Nat):Prop where
  inv:LvX ex m L1 V1
  no:NoI ex l
  len:l.length=j
  sp:L1.sp=L.sp
  ab:QC L1 V1=LQ id ob p0 (QC L V) j
  al: ∀c,AliveLe V c→AliveLe V1 c
  sz: ∀c,SzLe L c→SzLe L1 (c+j)
  pg:Pgs V V1
  con: ∀q,q<j→Zm V1 (l.getD q 0)=cpC (QC L V) id ob (p0+(q:Int))
  pr:L1.pres=L.pres
theorem CtI.start (a:LvI m L V):CtI (λ_=>0) m L L V V id ob p0 [] 0:=⟨a,λ_ _=>rfl,rfl,rfl,rfl,λ_ q=>q,λ_ q=>q,.refl,λq h=>by omega,rfl⟩
theorem CtI.get (h:CtI ex m L L1 V V1 id ob p0 l j) (b:L.tr id=some t): ∃u,L1.tr id=some u:=by
  obtain⟨u,a⟩:=Me (ob:=ob) (p0:=p0) ⟨_,Z1 (V:=V) b⟩ j;rw[<-h.ab]at a;obtain⟨u,a,_⟩:=U3 a;exact⟨u,a⟩
theorem CtI.next (h:CtI ex m L L1 V V1 id ob p0 l j) (a:StepX ex m L1 V1 ex m 0 1 L2 V2) (i:XP V2 s) (d:QC L2 V2=Ct id ob (LQ id ob p0 (QC L V) j) (p0+(j:Int))) (f: ∀q,Zm V2 q=Zm V1 q) (k:Zm V2 s=cpC (QC L V) id ob (p0+(j:Int))) (g:L2.pres=L1.pres):
    CtI (λq=>ex q+dl s q) m L L2 V (HX V2 s) id ob p0 (l++[s]) (j+1):=by
  obtain⟨b,n,o⟩:=Vp a.inv h.no i;refine⟨b.inv,n,by rw[List.length_append,h.len];rfl,a.sp.trans h.sp,o.trans d,λc q=>b.al _ (a.al c (h.al c q)),λc q=>by have :=b.sz _ (a.sz _ (h.sz c q));exact this,(h.pg.trans a.pg).trans b.pg,λq p=> ?_,g.trans h.pr⟩;rw[qca a.inv.zero,YF];by_cases e:q=j
  · subst e;rw[show(l++[s]).getD q 0=s by simp [List.getD,<-h.len]];exact k
  · rw[show(l++[s]).getD q 0=l.getD q 0 by simp [List.getD,List.getElem?_append_left (show q<l.length by rw[h.len];omega)],f];exact h.con q (by omega)
theorem CtI.in_ (h:CtI ex m L L1 V V1 id ob p0 l j) (i:L.tr id=some t) (f:id≠0) (a:L1.tr id=some t2) {x1:LfD} {t1:TrD} (d:0<=p0+(j:Int)/\p0+(j:Int)<256) (c:TouR L1 V1 id t2 (ob,p0+(j:Int)) L2 V2 t1 x1):
    CtI (λq=>ex q+dl x1.own q) m L (ZA L2 id t1 (ob,p0+(j:Int)) {x1 with rd:=x1.rd ||| (BitVec.allOnes 64&&& ~~~x1.wr)}) V (HX V2 x1.own) id ob p0 (l++[x1.own]) (j+1):=by
  obtain⟨g,k⟩:=qge c a h.inv h.no.nn;obtain⟨b1,b2,b3,s,n⟩:=c.invX a h.inv h.no.nn;have o:=c.lv
  have e:XP V2 x1.own:=by
    have :=g.inv.aliveX h.no.nn (.inr (id,(ob,p0+(j:Int)),true));rw[XB ME Qv]at this;exact this
  have b: ∃t,(QC L V).tr id=some t:=⟨_,Z1 i⟩;refine h.next g e ?_ c.pg ?_ n
  · rw[k,h.ab];unfold Ct;rw[if_pos ⟨f,d.1,d.2⟩]
  · have p:Zm V2 x1.own=(Z6 (QC L1 V1) id (ob,p0+(j:Int))).own:=by rw[<-b2];rfl
    obtain⟨u,r⟩:=Me (ob:=ob) (p0:=p0) b j;rw[p,h.ab,DF f r,CU b];unfold cpC;rw[if_pos d]
theorem CtI.out (h:CtI ex m L L1 V V1 id ob p0 l j) (a: ¬(0<=p0+(j:Int)/\p0+(j:Int)<256)):CtI (λq=>ex q+dl 0 q) m L L1 V (HX V1 0) id ob p0 (l++[0]) (j+1):=by
  refine h.next (StepX.refl h.inv) (.inl U) ?_ (λ_=>rfl) ?_ U
  · rw[h.ab];unfold Ct;rw[if_neg (λq=>a q.2)]
  · unfold cpC;rw[if_neg a,JP h.inv.zero]
theorem Aq {id:Int} {to:Bs} {base:Int} {A:LvA} {f:Nat->Bs} (a: ∃t,A.tr id=some t): ∀q,∃t,(Gb id A to base f q).tr id=some t
  | 0=>a
  | q+1=>by
    obtain⟨t,h⟩:=Aq (to:=to) (base:=base) (f:=f) a q;show ∃u,(GV id _ _).tr id=some u;unfold GV;split
    · exact⟨t,h⟩
    · exact⟨_,by rw[Wi h];exact Qv⟩
end
theorem TF {id:Int} {A:LvA} {to:Bs} {base:Int} {f g:Nat->Bs}: ∀q,(∀i,i<q->f i=g i)->Gb id A to base f q=Gb id A to base g q
  | 0,_=>rfl
  | q+1,h=>by
    show GV id (Gb id A to base f q) _=GV id (Gb id A to base g q) _;rw[TF q λi hi=>h i (by omega),h q (by omega)]
theorem N3 {A:LvA} {to:Bs} {base:Int} {f:Nat->Bs}: ∀q,IM A to base f q=Gb 0 A to base f q
  | 0=>rfl
  | q+1=>by
    show GV 0 (IM A to base f q) _=GV 0 (Gb 0 A to base f q) _;rw[N3 q]
theorem qex {w:World} {m:Nat} {b n Fr:Nat} {L:LvD} {V:VS} {F:Th} (hS:Sat w [WB b L,ZP L.sp n Fr V,F]) (hn:n+2100<=60000000000) (hI:LvI m L V) (hm:m<ZO) {id:Int} {t:TrD} (ht:L.tr id=some t) (ob to:Bs) (first cnt aa:Int) (hf: -2147483648<=first/\first<=2147483648) (ha: -2147483648<=aa/\aa<=2147483648) (hc: -2147483648<=cnt/\cnt<=300):
    Calls prog 115 #[ptrV b 0,intV id,strV ob,intV first,intV cnt,strV to,intV aa] w (Ret λv w'=> ∃L' V' q,StepI m L V m 0 512 L' V'/\QC L' V'=Gb id (LQ id ob (first+max 0 (-aa)) (QC L V) q) to (aa+max 0 (-aa)) (λi=>cpC (QC L V) id ob (first+max 0 (-aa)+(i:Int))) q/\(max 0 (-aa)+(q:Int)=min cnt (256 -aa)\/(q=0/\min cnt (256 -aa)<=max 0 (-aa)))/\L'.pres=L.pres/\Sat w' [WB b L',ZP L'.sp (n+2100) Fr V',F]):=by
 have h0:id≠0:=hI.rank.none0 ht;refine Qn func115 U ntmps115 U ?_;refine Qe<|Qe<|Qa<|Qb U U<|Qb U U<|Qw Ge U (HU (hS.sp [0] U) id) U ?_;rintro _ w1 ⟨rfl,j1⟩;replace j1:=j1.jn U U;refine QX U U<|Qf<|Qc<|Qh [6,5,4,3,2,1,0,27] U<|QR U (λh2=> ?_) (λh2=> ?_)
 ·exact absurd h2 (by simp [J5,ht])
 refine Qt<|Qc<|Qe<|Qa<|Qb U U (qau U (by omega) (by omega) U ?_);refine Jn U U U<|Qb U U<|Qb U U<|H2 U U (by omega) (by omega) U ?_;refine H3 U U U<|Qd U U<|Qd U U<|Qf<|Qc<|Qh [6,5,3,2,1,0,14,15] U<|Qe<|Qa<|Qd U U<|Qf<|Qc<|Qe<|Qe<|Qa<|Qb U U<|Qd U U<|Qf<|Qc<|Qx ?_;have ac:=j1.row_nil inC;refine QU (λK0 E0 W0=> ∃(j:Nat) (L1:LvD) (V1:VS) (ex:Int->Int) (l:List Int) (nv:Value),K0=((min cnt (256 -aa)) -(max 0 (-aa))).toNat -j/\E0=[(0,ptrV b 0),(1,intV id),(2,strV ob),(3,intV first),(5,strV to),(6,intV aa),(14,intV (max 0 (-aa))),(15,intV (min cnt (256 -aa))),(16,nv),(17,intV ((max 0 (-aa))+(j:Int)))]/\Sat W0 [WB b L1,ZP L1.sp (n+3*j) Fr V1,rowT inC nv l,F]/\(j<=256)/\(j=0\/(max 0 (-aa))+(j:Int)<=(min cnt (256 -aa)))/\(CtI ex m L L1 V V1 id ob (first+(max 0 (-aa))) l j)) (L0:=[(0,_),(1,_),(2,_),(3,_),(5,_),(6,_),(14,_),(15,_),(16,_),(17,_)]) (((min cnt (256 -aa)) -(max 0 (-aa))).toNat) (Cc U U U U U U U U U U) ⟨0,L,V,λ_=>0,[],_,by omega,by simp,ac.pick [1,2,0,3] U,by omega,.inl U,CtI.start hI⟩ ?_
 rintro _ _ w3 ⟨j,L1,V1,ex,l,nv,rfl,rfl,D,av,hj,d⟩;refine Qe<|Qe<|Qa<|Qb U U<|Qb U U<|Xa U U U<|Qf<|Qc<|Qs U (λh4=> ?_) (λh4=> ?_)
 ·refine Qt<|Qc<|Qh [17,16,15,14,6,5,3,2,1,0] U<|Qe<|Qx<|Qe<|Qa<|Qd U U<|Qf<|Qc<|Qe<|Qe<|Qa<|Qb U U<|Qb U U<|QE U U (by omega) (by omega) U ?_;refine Qd U U<|Qf<|Qc<|Qh [17,16,15,14,6,5,3,2,1,0,18,19] U<|Qe<|Qa<|Qb U U<|WU U U U<|Qb U U<|QZ 46 U (λM=> ?_) (λM=> ?_)
  ·refine Qk U U (det M)<|Qb U U<|Qk U U (det M)<|Xa U U U<|QF U (det M) U U<|Qf<|Qc<|Qh [17,16,15,14,6,5,3,2,1,0,18,19,49] U<|Qs U (λh6=> ?_) (λh6=> ?_)
   ·refine Qe<|Qa<|Qb U U<|Qb U U<|Zj U HY Vz Wo U U<|Xc D Wo U U ?_;intro kb wk7 a1;refine QW a1 U U Xb U (by rfl) (i:=0) U (by decide) ?_;intro wk8 e;dsimp only[List.set]at e;clear a1;replace e:=Zr (k:=(ob,first+((max 0 (-aa))+(j:Int)))) e
    dsimp only at e;rw[show first+((max 0 (-aa))+(j:Int))=(first+(max 0 (-aa)))+(j:Int) from(Int.add_assoc _ _ _).symm]at e
    refine Qf<|Qc<|Qh [17,16,15,14,6,5,3,2,1,0,18,20] U<|Qe<|Qe<|Qa<|Qb U U<|Xz U U U<|Qf<|Qc<|Qs U (λh9=> ?_) (λh9=> ?_)
    ·refine Qe ?_;obtain⟨t1,o⟩:=d.get ht;refine Qa<|Qb U U<|Qb U U ?_;refine XX U Xu Xb (by first | exact e.blk 0 U) (by first | decide | exact Xk U | (simp;done) | omega) U U ?_
     have E:=e.sp [1,2] U;refine Qw Rg U (UA E (by omega) (d.inv.rank.ends hm) o (k:=(ob,(first+(max 0 (-aa)))+(j:Int)))) U ?_
     rintro _ aw ⟨L2,V2,t2,x1,rfl,hT,N⟩;replace N:=N.jn U U;clear E;clear e;have z:=hT.tr o;have a2:=hT.lv;refine Qd U U<|Qf<|Qc<|Qh [17,16,15,14,6,5,3,2,1,0,18,20,21] U ?_;have ad:=YL z a2 (N.pick [0,1,2,3,4] U);have O:=ad.drew;refine Q7 [0,1,2,3,4,5,6,7,8,9,10,11,12] [12] Z9 (by kernel_rfl) ?_;refine Q3 U U U<|QP U U U<|QG U U U Yx<|Q0 U U U (Ql U Ju (O.cell 0 U U))<|Q3 U U U<|QP U U U<|QG U U U Wt<|Q0 U U U (Ql U Ju (O.cell 0 U U))<|Xi U U U (λ_=>(Ks (a:=BitVec.allOnes 64) U U)) ?_;refine Xi U U U (λ_=>(GR U U)) ?_;refine QP U U U<|QG U U U Yx<|QO U U U U U U ?_;refine QK O U U Kb U (i:=0) U (Xk U) ?_;intro ax a3;dsimp only[List.set]at a3;refine Zc (Xd (by kernel_rfl)) ?_;refine VC.nil (Qc (Qh [17,16,15,14,6,5,3,2,1,0,18,20] U ?_));have a4:=Js (L:=L2) (y:={x1 with rd:=x1.rd ||| (BitVec.allOnes 64&&& ~~~x1.wr)}) z a2 U (a3.pick [0,1,2,3,4,5,6,7,8,9,10,11,12,13] U)
     have G:=d.in_ ht h0 o (by omega) hT;refine Qa<|Qb U U<|Qb U U ?_;refine XX U Xu Xb (by first | exact a4.blk 2 U) (by first | decide | exact Xk U | (simp;done) | omega) U U ?_
     refine Qw HD U (Vk (a4.sp [0] U) (G.inv.rank.ends hm) id (ob,(first+(max 0 (-aa)))+(j:Int))) U ?_
     rintro _ ay ⟨rfl,A⟩;replace A:=A.jn U U;rw[MF h0];refine Qd U U<|Qf<|Qc<|Qh [17,16,15,14,6,5,3,2,1,0,18] U<|Qe<|Qa<|Qb U U<|Qj U U<|Qg U XC U<|Qo U Xr (YJ A 0 U) U<|Qb U U<|Qw Vx U (M8 (A.sp [1] U) (by omega) (x1.own)) U ?_;rintro _ az ⟨e0,rfl,P⟩;replace P:=P.jn U U;refine Qf<|Qc<|Qh [17,16,15,14,6,5,3,2,1,0,18] U<|Qa<|Qb U U<|Qb U U<|X8 inC [x1.own] P U underlying24 Uf U U U U (by first | rfl | simp [RowC.cells,Jz,X6]) U ?_
     intro b0 b1 a5;refine Zx inC 4 a5 U U U (a5.rd 0 U (by simp)) underlying24 underlying24 (by intro k hk;cases hk) H0 U (by simp only[d.len,List.length_cons,List.length_nil];omega) U (by simp only[d.len,List.length_cons,List.length_nil];omega) ?_;intro ae b2 Q;dsimp only[List.set]at Q;have af:ae.oneCell'=true:=Q.own_one 4 U;refine Qd U U<|Qf<|Qm<|Qc<|Qh [17,15,14,6,5,3,2,1,0,16] U<|Qa<|Qb U U<|QE U U (by omega) (by omega) U ?_;refine Qd U U<|Qf ?_;exact Q5 (L1:=[(0,_),(1,_),(2,_),(3,_),(5,_),(6,_),(14,_),(15,_),(16,_),(17,intV ((max 0 (-aa))+(j:Int)+1))]) (Cc U U U U U U U U U U) (k1:=((min cnt (256 -aa)) -(max 0 (-aa))).toNat -(j+1)) (by omega) ⟨j+1,_,_,_,_,_,rfl,(by rw[show(max 0 (-aa))+((j+1:Nat):Int)=(max 0 (-aa))+(j:Int)+1 by omega]),(X3 (m:=n+3*(j+1)) (by omega) (Q.pick [1,2,4,5] U)).reorder [1,0,2,3] U,by omega,by omega,G⟩
    exact absurd (Decidable.not_not.1 h9) h0
   refine Qt<|Qc<|Qe<|Qa<|Qb U U<|Qj U U<|Qg U XC U<|Qo U Xr (YJ D 0 U) U<|Qb U U<|Qw Vx U (M8 (D.sp [1] U) (by omega) (0)) U ?_;rintro _ b3 ⟨e0,rfl,R⟩;replace R:=R.jn U U;refine Qf<|Qc<|Qh [17,16,15,14,6,5,3,2,1,0,18] U<|Qa<|Qb U U<|Qb U U<|X8 inC [0] R U underlying24 Uf U U U U (by first | rfl | simp [RowC.cells,Jz,X6]) U ?_
   intro b4 b5 a6;refine Zx inC 3 a6 U U U (a6.rd 0 U (by simp)) underlying24 underlying24 (by intro k hk;cases hk) H0 U (by simp only[d.len,List.length_cons,List.length_nil];omega) U (by simp only[d.len,List.length_cons,List.length_nil];omega) ?_;intro ag b6 S;dsimp only[List.set]at S;have ah:ag.oneCell'=true:=S.own_one 3 U;refine Qd U U<|Qf<|Qm<|Qc<|Qh [17,15,14,6,5,3,2,1,0,16] U<|Qa<|Qb U U<|QE U U (by omega) (by omega) U ?_;exact Qd U U (Qf (Q5 (L1:=[(0,_),(1,_),(2,_),(3,_),(5,_),(6,_),(14,_),(15,_),(16,_),(17,intV ((max 0 (-aa))+(j:Int)+1))]) (Cc U U U U U U U U U U) (k1:=((min cnt (256 -aa)) -(max 0 (-aa))).toNat -(j+1)) (by omega) ⟨j+1,_,_,_,_,_,rfl,(by rw[show(max 0 (-aa))+((j+1:Nat):Int)=(max 0 (-aa))+(j:Int)+1 by omega]),(X3 (m:=n+3*(j+1)) (by omega) (S.pick [1,2,3,4] U)).reorder [1,0,2,3] U,by omega,by omega,d.out (by omega)⟩))
  refine Qi U U (QH M) U<|Qi U U (QH M) U<|Q9 U (QH M) U U<|Qf<|Qc<|Qh [17,16,15,14,6,5,3,2,1,0,18,19,49] U<|QM U<|Qt<|Qc<|Qe<|Qa<|Qb U U<|Qj U U<|Qg U XC U<|Qo U Xr (YJ D 0 U) U<|Qb U U<|Qw Vx U (M8 (D.sp [1] U) (by omega) (0)) U ?_;rintro _ b7 ⟨e0,rfl,T⟩;replace T:=T.jn U U;refine Qf<|Qc<|Qh [17,16,15,14,6,5,3,2,1,0,18] U<|Qa<|Qb U U<|Qb U U<|X8 inC [0] T U underlying24 Uf U U U U (by first | rfl | simp [RowC.cells,Jz,X6]) U ?_
  intro b8 b9 a7;refine Zx inC 3 a7 U U U (a7.rd 0 U (by simp)) underlying24 underlying24 (by intro k hk;cases hk) H0 U (by simp only[d.len,List.length_cons,List.length_nil];omega) U (by simp only[d.len,List.length_cons,List.length_nil];omega) ?_;intro ai ba W;dsimp only[List.set]at W;have aj:ai.oneCell'=true:=W.own_one 3 U;refine Qd U U<|Qf<|Qm<|Qc<|Qh [17,15,14,6,5,3,2,1,0,16] U<|Qa<|Qb U U<|QE U U (by omega) (by omega) U ?_;exact Qd U U (Qf (Q5 (L1:=[(0,_),(1,_),(2,_),(3,_),(5,_),(6,_),(14,_),(15,_),(16,_),(17,intV ((max 0 (-aa))+(j:Int)+1))]) (Cc U U U U U U U U U U) (k1:=((min cnt (256 -aa)) -(max 0 (-aa))).toNat -(j+1)) (by omega) ⟨j+1,_,_,_,_,_,rfl,(by rw[show(max 0 (-aa))+((j+1:Nat):Int)=(max 0 (-aa))+(j:Int)+1 by omega]),(X3 (m:=n+3*(j+1)) (by omega) (W.pick [1,2,3,4] U)).reorder [1,0,2,3] U,by omega,by omega,d.out (by omega)⟩))
 refine QQ<|Qp<|Qp<|Qy<|Qc<|Qh [16,14,6,5,1,0] U<|Qe ?_;obtain⟨an,cn,ak,_⟩:=D.own_shape 2 rfl;obtain rfl:=ak;refine Qa<|Qb U U ?_
 first | refine Xl underlying24 U U ?_ | refine Wa 2 D underlying24 U U U ?_
 refine Qb U U<|Qf<|Qc<|Qx ?_;have am:=d.len;refine QU (λK0 E0 W0=> ∃(q:Nat) (L2:LvD) (V2:VS) (ex2:Int->Int),K0=j -q/\E0=[(0,ptrV b 0),(1,intV id),(5,strV to),(6,intV aa),(14,intV (max 0 (-aa))),(85,.slice an l.length cn),(86,intV (l.length:Int)),(87,intV (q:Int))]/\Sat W0 [WB b L2,ZP L2.sp (n+3*j+5*q) Fr V2,rowT inC (.slice an l.length cn) l,F]/\(q<=j)/\(LvX ex2 m L2 V2)/\(NoI ex2 (l.drop q))/\(L2.sp=L.sp)/\(QC L2 V2=Gb id (QC L1 V1) to (aa+(max 0 (-aa))) (λq=>Zm V1 (l.getD q 0)) q)/\(∀c,AliveLe V c->AliveLe V2 c)/\(∀c,SzLe L c->SzLe L2 (c+j+q))/\(Pgs V1 V2)/\(L2.pres=L.pres)) (L0:=[(0,_),(1,_),(5,_),(6,_),(14,_),(85,_),(86,_),(87,_)]) (j) (zb8 U U U U U U U U) ⟨0,L1,V1,ex,rfl,rfl,D.pick [0,1,2,3] U,by omega,d.inv,d.no,d.sp,rfl,d.al,d.sz,.refl,d.pr⟩ ?_;rintro _ _ bb ⟨q,L2,V2,ex2,rfl,rfl,B,hq,X,g,a8,p,H,I,J,K⟩;refine Qe<|Qa<|Xa U U U<|Qf<|Qc<|Qe<|Qs U (λao=> ?_) (λao=> ?_)
 ·obtain⟨s,hs⟩: ∃s,l[q]? =some s:=⟨_,XQ (by have :=d.len;omega)⟩;rw[N2 hs]at g;have a9:=X.held (s:=s) λh0=>g.ge h0;obtain⟨t2,z⟩: ∃u,L2.tr id=some u:=by obtain⟨t1,o⟩:=d.get ht;obtain⟨u,hu⟩:=Aq (to:=to) (base:=(aa+(max 0 (-aa)))) (f:=(λq=>Zm V1 (l.getD q 0))) ⟨_,Z1 (V:=V1) o⟩ q;rw[<-p]at hu;obtain⟨u2,Y,_⟩:=U3 hu;exact⟨u2,Y⟩
  refine Qt<|Qc<|Qe<|Qx<|Qe<|Qa<|Qb U U<|Xj inC 2 q B U U U (by first | rfl | omega) hs WZ U ?_
  intro bx27 capx27 Z;refine Zh 2 q 0 B U Z U U hs QL U U<|Qd U U<|Qd U U<|Qf<|Qc<|Qh [87,86,85,14,6,5,1,0,22,23] U<|Qe<|Qa<|Qb U U<|Qb U U<|Qb U U<|Qb U U<|Qb U U<|QE U U (by omega) (by omega) U ?_;refine Qb U U<|QE U U (by omega) (by omega) U ?_;refine Zj U HY Vz Wo U U<|Qb U U<|Qw AE U (S5 (B.sp [0,1] U) (by omega) X g.nn hm z a9 (to,(aa+(max 0 (-aa)))+(q:Int))) U ?_;rintro _ bc ⟨L3,V3,r,ap,aq,C⟩;replace C:=C.jn U U;refine Qf<|Qc<|Qh [87,86,85,14,6,5,1,0,23] U<|Qa<|Qb U U<|Qj U U<|Qg U XC U<|Qo U Xr (YJ C 0 U) U<|Qb U U<|Qw Ba U (Gx (C.sp [1] U) (by omega) s) U ?_;rintro _ bd ⟨e0,rfl,a0⟩;replace a0:=a0.jn U U;refine Qf<|Qm<|Qc<|Qh [87,86,85,14,6,5,1,0] U<|Qa<|QE U U (by omega) (by omega) U ?_;refine Qb U U<|Qf ?_;obtain⟨x,Y,ar⟩:=Gt r.inv g;exact Q5 (L1:=[(0,_),(1,_),(5,_),(6,_),(14,_),(85,_),(86,_),(87,intV ((q+1:Nat):Int))]) (zb8 U U U U U U U U) (k1:=j -(q+1)) (by omega) ⟨q+1,_,_,_,rfl,rfl,a0.pick [1,0,2,3] U,by omega,x.inv,Y,x.sp.trans (r.sp.trans a8),by rw[ar,ap,p,Gb];unfold GV;rw[if_neg h0];dsimp only;rw[Pn hs,(J s a9).2],λc q2=>x.al _ (r.al _ (H c q2)),λc q2=>by have :=x.sz _ (r.sz _ (I c q2));exact this.mono (by omega),(J.trans r.pg).trans x.pg,aq.trans K⟩
 refine QQ<|Qp<|Qp<|Qy<|Zb (.inl U) U ?_;have am:=d.len;have au:q=j:=by omega
 subst au;have be:q<=256:=by omega
 exact⟨_,rfl,L2,V2,q,⟨X.ext λi hi=>by rw[g i hi,List.drop_eq_nil_of_le (by rw[d.len];omega)];rfl,a8,λc h=>(H c h).mono (by omega),λc h=>(I c h).mono (by omega)⟩,by rw[p,d.ab];exact TF q d.con,by omega,K,(X3 (m:=n+2100) (by omega) (B.pick [1,0,3] U)).reorder [1,0,2] U⟩
end Go.Proofs.YtifaibmhinlcfaaGreatDoor
namespace Go.Proofs.YtifaibmhinlcfaaGreatDoor
open Go.RowKit M Proofs.Tryz
variable {LL:WL} {Lo:List (Bs×Nat)} {O:Bs→Int→Option Bs} {W:WS} {b im m p:Nat} {n s:Bs} {q:Int} {w:World}
section
variable {w:World} {p:Nat} {W:WS} {LL:WL} {Lo:List (Bs×Nat)} {F:Th} {n:Bs} {m im:Nat} {O':Bs→Int→Option Bs}
theorem Vc (a:PagesOk O') (L':List (Bs×Nat)) (b:ObjL L' O') (h:Sat w [Q4 Xo LL.bo (Z2 L'),starL (L'.map (Yc O')),Q6 p (JW LL W.time),Q4 Xo LL.bc (XD W.cells),Q4 Xo LL.bl (XD W.logs),F]):Sat w [Xv p {W with objs:=O'},F]:=by
  have c:=MX L' b h;exact ZY (W:={W with objs:=O'}) LL a (c.reorder [1,2,0,3,4] U)
theorem YZ (a:PagesOk W.objs) (b:ObjL Lo W.objs) (h:Sat w [Q4 Xo LL.bo (Z2 Lo),starL (Lo.map (Yc W.objs)),Q6 p (JW LL W.time),Q4 Xo LL.bc (XD W.cells),Q4 Xo LL.bl (XD W.logs),F]):Sat w [Xv p W,F]:=Vc (W:=W) a Lo b h
theorem Mo (b:PagesOk O') (c:(Lo.map (·.1)).Nodup) (d:ObjL Lo O') (a:Lo[im]? =some (n,m)) (e: ∀k,k≠n->O' k=W.objs k) (h:Sat w [Q4 QY m (WJ (O' n)),starL ((Lo.map (Yc W.objs)).eraseIdx im),Q4 Xo LL.bo (Z2 Lo),Q6 p (JW LL W.time),Q4 Xo LL.bc (XD W.cells),Q4 Xo LL.bl (XD W.logs),F]):Sat w [Xv p {W with objs:=O'},F]:=by
  rw[Sj c a e]at h;have f:=FC (LY (i:=0) h) (If (x:=(n,m)) a (Yc O'));exact Vc b Lo d (f.perm (List.Perm.swap _ _ _))
theorem VR (c:PagesOk W.objs) (b:ObjL Lo W.objs) (a:Lo[im]? =some (n,m)) (h:Sat w [Q4 QY m (WJ (W.objs n)),starL ((Lo.map (Yc W.objs)).eraseIdx im),Q4 Xo LL.bo (Z2 Lo),Q6 p (JW LL W.time),Q4 Xo LL.bc (XD W.cells),Q4 Xo LL.bl (XD W.logs),F]):Sat w [Xv p W,F]:=
  Mo (W:=W) c b.nodup b a (λ_ _=>rfl) h
theorem SF (b:Nat):upd (Z2 Lo) n (some (.map (some b)))=Z2 ((n,b)::Lo):=by
  funext k;unfold Z2;rw[V5];by_cases h:k=n
  · subst h;rw[XR];simp
  · rw[ZG h];simp [h]
theorem L6 (b:(Lo.map (·.1)).Nodup) (a:Lo[im]? =some (n,m)):upd (Z2 Lo) n none=Z2 (Lo.eraseIdx im):=by
  funext k;unfold Z2;rw[K7 b a];by_cases h:k=n
  · subst h;rw[XR];simp
  · rw[ZG h];simp [h]
theorem Dm (h:Yk Lo n=none):upd (Z2 Lo) n none=Z2 Lo:=by
  funext k;by_cases a:k=n
  · subst a;rw[XR];simp [Z2,h]
  · rw[ZG a]
theorem FR (j:PagesOk O') (d:ObjL Lo W.objs) (l:Yk Lo n=none) (m: ∃q,O' n q≠none) (f: ∀k,k≠n->O' k=W.objs k) (h:Sat w [Q4 QY b (WJ (O' n)),Q4 Xo LL.bo (upd (Z2 Lo) n (some (.map (some b)))),starL (Lo.map (Yc W.objs)),Q6 p (JW LL W.time),Q4 Xo LL.bc (XD W.cells),Q4 Xo LL.bl (XD W.logs),F]):Sat w [Xv p {W with objs:=O'},F]:=by
  rw[SF]at h;have a:=Y4.1 l
  have e:Lo.map (Yc W.objs)=Lo.map (Yc O'):=by
    apply List.map_congr_left;intro x o;unfold Yc;rw[f];rintro rfl;exact a (List.mem_map.2 ⟨x,o,rfl⟩)
  rw[e]at h;have g:=h.reorder [0,2,1,3,4,5,6] U;dsimp only[Yu,Ub]at g;have r:Sat w (starL (((n,b)::Lo).map (Yc O'))::_):=LY (i:=0) g;refine Vc j ((n,b)::Lo) ⟨?_,λk=> ?_⟩ (r.perm (List.Perm.swap _ _ _))
  · exact List.nodup_cons.2 ⟨a,d.nodup⟩
  · by_cases c:k=n
    · subst c;simp [m]
    · rw[f k c,<-d.has k];simp [c]
theorem Cx (j:PagesOk O') (c:ObjL Lo W.objs) (b:Lo[im]? =some (n,m)) (l: ∀q,O' n q=none) (i: ∀k,k≠n->O' k=W.objs k) (h:Sat w [starL ((Lo.map (Yc W.objs)).eraseIdx im),Q4 Xo LL.bo (upd (Z2 Lo) n none),Q6 p (JW LL W.time),Q4 Xo LL.bc (XD W.cells),Q4 Xo LL.bl (XD W.logs),F]):Sat w [Xv p {W with objs:=O'},F]:=by
  rw[Sj c.nodup b i,L6 c.nodup b]at h;refine Vc j (Lo.eraseIdx im) ⟨c.nodup.sublist ((List.eraseIdx_sublist Lo im).map _),λk=> ?_⟩ (h.perm (List.Perm.swap _ _ _))
  have d:k∈(Lo.eraseIdx im).map (·.1)↔k∈Lo.map (·.1)/\k≠n:=by
    have f:=K7 c.nodup b k;constructor
    · intro g;have e:Yk (Lo.eraseIdx im) k≠none:= λq=>Y4.1 q g;rw[f]at e;by_cases a:k=n
      · simp [a]at e
      · rw[if_neg a]at e;exact⟨Decidable.not_not.1 λq=>e (Y4.2 q),a⟩
    · rintro⟨g,a⟩;refine Decidable.not_not.1 λq=> ?_;rw[Y4.2 q,if_neg a]at f;exact Y4.1 f.symm g
  rw[d,c.has];by_cases a:k=n
  · subst a;simp [l]
  · rw[i k a];simp [a]
theorem UH (a:ObjL Lo W.objs) (b:Yk Lo n=none) (q:Int):W.objs n q=none:=by
  refine Decidable.not_not.1 λh=>Y4.1 b ((a.has n).2 ⟨q,h⟩)
theorem qcr (b:ObjL Lo W.objs) (a:Lo[im]? =some (n,m)): ∃q,W.objs n q≠none:=(b.has n).1 (List.mem_map.2 ⟨(n,m),List.mem_of_getElem? a,rfl⟩)
end
theorem EB (a:s.length=64) {j:Nat} (b:j<64):((s.map XV).toArray)[j]? =some (XV (s.getD j 0)):=by
  have h:s[j]? =some s[j]:=XQ (by omega);simp [List.getD,h]
def Zy (W:WS) (n:Bs) (q:Int):Bs:=J7 (W.objs n q)
theorem MS (h: ∀q,W.objs n q=none) (q:Int):Zy W n q=Wz:=by simp [Zy,J7,h]
theorem Yq:XE prog 187=some (some (Jl Wz)):=by kernel_rfl
theorem AZ {F:Th} (a:Sat w [Xv p W,F]) (nm:Bs) (i:Int):
    Calls prog 70 #[ptrV p 0,strV nm,intV i] w (Ret λv w'=>v=XV (Hq W nm i)/\Sat w' [Xv p W,F]):=by
 refine Qn func70 U ntmps70 U ?_;refine Qe<|Qa<|Qd U U<|Qf<|Qc<|Qe<|Qe<|Qa<|Qb U U<|Qw AQ U (Sh (a.sp [] U) i) U ?_;rintro _ n ⟨rfl,d⟩;replace d:=d.jn U U;refine QX U U<|Qf<|Qc<|QR U (λf=> ?_) (λf=> ?_)
 ·have l: ¬(0<=i/\i<16384):=by have b:=f;simp at b;omega
  refine Qe<|Qa<|Qd U U<|Qf<|Qc<|Qu<|Qq<|QJ (.inr U) U U ?_;exact⟨_,rfl,by rw[Hq,if_neg (by simp_all)];rfl,d⟩
 have l:0<=i/\i<16384:=by simpa using f
 refine Qt<|Qc<|Qe ?_;have a:=d;obtain⟨LL,e,a⟩:=ZJ a;obtain⟨Lo,g,a⟩:=Ua (a.pull 2 rfl);dsimp only[List.eraseIdx]at a;refine Qa<|Qb U U<|Qj U U<|Qg U Ux U<|Qo U Bm (a.cell 2 U U) U<|Qb U U ?_;rcases b:Yk Lo nm with _ | m
 ·have h:=UH g b;refine Xf (k:=nm) 0 a keysStr underlying62 U U U VO (u:= .map none) (by simp [Z2,b]) U ?_;refine Qb U U<|R7 U U (by omega) (by omega) (by omega) U ?_;refine Vf (k:=(i/ 64)) keysInt underlying188 Yq U U U ?_;rw[<-MS h (i/ 64)];refine Qb U U<|Vd U U (by omega) (by omega) U ?_;refine C9 (i%64).toNat underlying187 VH ag_5 (by omega) (by omega) (cs:=((Zy W nm (i/ 64)).map XV).toArray) (v:=XV ((Zy W nm (i/ 64)).getD (i%64).toNat 0)) (EB (e.len nm (i/ 64)) (by omega)) U U U ?_;refine Qd U U<|Qf<|Qc<|Qh [6] U<|Qu<|QJ (.inr U) U U ?_;exact⟨_,rfl,by rw[Hq,if_pos (by simp_all)];rfl,YZ e g (a.reorder [0,1,2,3,4,5] U)⟩
 obtain⟨im,c⟩:=UX b;refine Xf (k:=nm) 0 a keysStr underlying62 U U U VO (u:= .map (some m)) (by simp [Z2,b]) U ?_;have j:=Ri (i:=im) (A:=Yc W.objs (nm,m)) (a.pull 1 U) (by simp [c]);dsimp only[List.eraseIdx,Yc]at j;refine Qb U U<|R7 U U (by omega) (by omega) (by omega) U ?_;refine Xf (k:=(i/ 64)) 0 j keysInt underlying188 U U U Yq (u:=Jl (Zy W nm (i/ 64))) (RP _ _) U<|Qb U U<|Vd U U (by omega) (by omega) U ?_;refine C9 (i%64).toNat underlying187 VH ag_5 (by omega) (by omega) (cs:=((Zy W nm (i/ 64)).map XV).toArray) (v:=XV ((Zy W nm (i/ 64)).getD (i%64).toNat 0)) (EB (e.len nm (i/ 64)) (by omega)) U U U ?_;refine Qd U U<|Qf<|Qc<|Qh [6] U<|Qu<|QJ (.inr U) U U ?_;exact⟨_,rfl,by rw[Hq,if_pos (by simp_all)];rfl,VR e g c (j.reorder [0,1,2,3,4,5,6] U)⟩
def B8 (W:WS) (n:Bs) (q:Int) (s:Bs):WS:={W with objs:=RG W.objs n q s}
theorem DM: ∀k,k≠n->RG O n q s k=O k:=by
  intro k a;funext j;simp [RG,a]
theorem RO:WJ (RG O n q s n)=upd (WJ (O n)) q (if s=Wz then none else some (Jl s)):=by
  funext j;by_cases a:j=q
  · subst a;rw[XR];by_cases b:s=Wz<;> simp [WJ,RG,b]
  · rw[ZG a];simp [WJ,RG,a]
theorem Ke (h: ∀q,O n q=none):RG O n q Wz=O:=by
  funext k j;unfold RG;split
  · rename_i a;rw[a.1,h];simp
  · rfl
theorem Kg {o:Int->Option Bs} {j:Int}:WJ o j=none↔o j=none:=by unfold WJ;cases o j<;> simp
theorem qb5 {F:Th} (c:PagesOk W.objs) (d:ObjL Lo W.objs) (a:Lo[im]? =some (n,m)) (f:s=Wz) (g:0<=q/\q<256)
    (i:Card (upd (WJ (W.objs n)) q none) 0) (h:Sat w [starL ((Lo.map (Yc W.objs)).eraseIdx im),Q4 Xo LL.bo (upd (Z2 Lo) n none),Q6 p (JW LL W.time),Q4 Xo LL.bc (XD W.cells),Q4 Xo LL.bl (XD W.logs),F]):Sat w [Xv p (B8 W n q s),F]:=by
  subst f;refine Cx (c.set (by rfl) g) d a (λj=> ?_) DM h;have b:=i.zero.1 U j;have e:=RO (O:=W.objs) (n:=n) (q:=q) (s:=Wz);rw[if_pos U]at e;rw[<-e]at b;exact Kg.1 b
theorem CQ {F:Th} {g:Option Value} (f:PagesOk W.objs) (a:ObjL Lo W.objs) (b:Lo[im]? =some (n,m)) (i:s.length=64) (l:0<=q/\q<256) (o:g= if s=Wz then none else some (Jl s))
    (c: ∃j,upd (WJ (W.objs n)) q g j≠none) (h:Sat w [Q4 QY m (upd (WJ (W.objs n)) q g),starL ((Lo.map (Yc W.objs)).eraseIdx im),Q4 Xo LL.bo (Z2 Lo),Q6 p (JW LL W.time),Q4 Xo LL.bc (XD W.cells),Q4 Xo LL.bl (XD W.logs),F]):Sat w [Xv p (B8 W n q s),F]:=by
  subst o;rw[<-RO]at h c;refine Mo (O':=RG W.objs n q s) (f.set i l) a.nodup ⟨a.nodup,λk=> ?_⟩ b DM h;by_cases d:k=n
  · subst d;obtain⟨j,r⟩:=c;have t:=(a.has k).2 (qcr a b);exact⟨λ_=>⟨j,λe=>r (Kg.2 e)⟩,λ_=>t⟩
  · rw[DM k d];exact a.has k
theorem OK {F:Th} (f:PagesOk W.objs) (c:ObjL Lo W.objs) (a:Yk Lo n=none) (g:s.length=64) (i:0<=q/\q<256) (d:s≠Wz)
    (h:Sat w [Q4 QY b (upd (λ_=>none) q (some (Jl s))),Q4 Xo LL.bo (upd (Z2 Lo) n (some (.map (some b)))),starL (Lo.map (Yc W.objs)),Q6 p (JW LL W.time),Q4 Xo LL.bc (XD W.cells),Q4 Xo LL.bl (XD W.logs),F]):Sat w [Xv p (B8 W n q s),F]:=by
  have e:upd (λ_=>none) q (some (Jl s))=WJ (RG W.objs n q s n):=by
    rw[RO,if_neg d];congr 1;funext j;exact(Kg.2 (UH c a j)).symm
  rw[e]at h;refine FR (f.set g i) c a ⟨q, ?_⟩ DM h;simp [RG,d]
theorem N1:prog.eqGuardType prog.depth 187=false:=by kernel_rfl
theorem NP {F:Th} (l:Sat w [Xv p W,F]) (nm:Bs) (q:Int) (s:Bs) (L:nm.length<=281474976710656) (a:s.length=64) (c:0<=q/\q<256):
    Calls prog 118 #[ptrV p 0,strV nm,intV q,Jl s] w (Ret λv w'=>v= .tuple #[]/\Sat w' [Xv p (B8 W nm q s),F]):=by
 obtain⟨LL,n,l⟩:=ZJ l;obtain⟨Lo,g,l⟩:=Ua (l.pull 2 rfl);dsimp only[List.eraseIdx]at l;refine Qn func118 U ntmps118 U ?_;refine Qe<|Qa<|XL l U U U ?_;intro b1 V d;refine Qf<|Qc<|Qe<|Qa<|Qb U U<|Qj U U<|Qg U Ux U<|Qo U Bm (d.cell 3 U U) U<|Qb U U ?_;rcases o:Yk Lo nm with _ | m
 ·have r:=UH g o;refine Xf (k:=nm) 1 d keysStr underlying62 U U U VO (u:= .map none) (by simp [Z2,o]) U ?_;refine Qd U U<|Qf<|Qc<|Qh [2,1,0,7,8] U<|Qe<|Qe<|Qa ?_;refine XX (cs:=(Jl s).cells.toList) U Da Ka (d.blk 0 U) (by simp [Jl,Value.cells,a]) (vs:=s.map XV) (by simp only[Jl,Value.cells,List.drop_zero];exact List.take_of_length_le (by simp [a])) U ?_;refine CC underlying187 VH Yq U<|CA s Wz underlying187 underlying5 VH ag_5 N1 a U U U U<|Qf<|Qc<|Qs U (λD=> ?_) (λD=> ?_)
  ·have e:s=Wz:=D;refine Qe<|Qa<|Qb U U<|Qb U U<|ND (k:=q) keysInt underlying188 U U U<|Qf<|Qc<|Qe<|Qe<|Qa<|Qb U U (qaw underlying188 U U (Xg U U U (Qf (Qc (Qh [2,1,0,7,8,22] U (Qs U (λM=> ?_) (λM=> ?_)))))))
   ·refine Qa<|Qb U U<|Qj U U<|Qg U Ux U<|Qo U Bm (d.cell 3 U U) U<|Qb U U<|Wf (k:=nm) 1 d keysStr underlying62 U U U U ?_;intro X E;dsimp only[List.set]at E;refine Qf<|Qc<|Qh [2,1,0,7,8] U<|Qu<|Qq<|Zb (.inr U) U ?_;rw[show upd (Z2 Lo) nm none=Z2 Lo from Dm o]at E;exact⟨_,rfl,rfl,by rw[show B8 W nm q s=W by rw[B8,e,Ke r]];exact YZ n g (E.pick [1,2,3,4,5,6] U)⟩
   refine Qt<|Qc<|Qu<|Qq<|Zb (.inr U) U ?_;exact⟨_,rfl,rfl,by rw[show B8 W nm q s=W by rw[B8,e,Ke r]];exact YZ n g (d.pick [1,2,3,4,5,6] U)⟩
  have e:s≠Wz:=D;refine Qt<|Qc<|Qe<|Qe<|Qa<|Qb U U<|VB underlying188 U U U<|Qf<|Qc<|Xm U<|Qe<|Qa<|XS QY d U ?_;intro Y Z N;refine Qd U U<|Qf<|Qc<|Qh [2,1,0,7,8] U ?_;have K:=N.drew;refine Q7 [0,1,2,3,4,6,5,7] [5,7] Z9 (by kernel_rfl) ?_;refine Q3 U U U<|QP U U U<|QG U U U Ux<|Q0 U U U (Ql U Bm (K.cell 4 U U))<|Q3 U U U<|Q3 U U U<|QO U U U U U U ?_;refine Qw Gf U (Uj (K.sp [] U) nm L) U ?_;rintro _ w8 ⟨rfl,C⟩;replace C:=C.jn U U;refine Xh (.cons (.inl ⟨U,(Ql U Bm (C.cell 4 U U))⟩) .nil)<|QO U U U U U U ?_;refine QT (k:=nm) 2 C keysStr underlying62 U U U U ?_;intro w9 G;dsimp only[List.set]at G;refine Zc (Xd (by kernel_rfl)) ?_;refine VC.nil (Qc (Qh [2,7,8] U (Qa (Qb U U (Qb U U ?_)))));refine XX (cs:=(Jl s).cells.toList) U Da Ka (G.blk 1 U) (by simp [Jl,Value.cells,a]) (vs:=s.map XV) (by simp only[Jl,Value.cells,List.drop_zero];exact List.take_of_length_le (by simp [a])) U ?_;refine QT (k:=q) 0 G keysInt underlying188 U U U U ?_;intro O t;dsimp only[List.set]at t;exact Qf (Zb (.inl U) U (⟨_,U,U,OK n g o a c e (t.pick [0,2,3,4,5,6,7] U)⟩))
 obtain⟨im,f⟩:=UX o;refine Xf (k:=nm) 1 d keysStr underlying62 U U U VO (u:= .map (some m)) (by simp [Z2,o]) U ?_;have x:=Ri (i:=im) (A:=Yc W.objs (nm,m)) (d.pull 2 U) (by simp [f]);dsimp only[List.eraseIdx,Yc]at x;refine Qd U U<|Qf<|Qc<|Qh [2,1,0,7,8] U<|Qe<|Qe<|Qa ?_;refine XX (cs:=(Jl s).cells.toList) U Da Ka (x.blk 2 U) (by simp [Jl,Value.cells,a]) (vs:=s.map XV) (by simp only[Jl,Value.cells,List.drop_zero];exact List.take_of_length_le (by simp [a])) U ?_;refine CC underlying187 VH Yq U<|CA s Wz underlying187 underlying5 VH ag_5 N1 a U U U U<|Qf<|Qc<|Qs U (λh=> ?_) (λh=> ?_)
 ·have e:s=Wz:=h;refine Qe<|Qa<|Qb U U<|Qb U U<|Wf (k:=q) 0 x keysInt underlying188 U U U U ?_;intro P b;dsimp only[List.set]at b;refine Qf<|Qc<|Qe<|Qe<|Qa<|Qb U U<|Ef 0 b underlying188 keysInt.inj U U U ?_;intro cn y;refine Xg U U U<|Qf<|Qc<|Qh [2,1,0,7,8,22] U<|Qs U (λH=> ?_) (λH=> ?_)
  ·refine Qa<|Qb U U<|Qj U U<|Qg U Ux U<|Qo U Bm (b.cell 4 U U) U<|Qb U U<|Wf (k:=nm) 3 b keysStr underlying62 U U U U ?_;intro Q z;dsimp only[List.set]at z;refine Qf<|Qc<|Qh [2,1,0,7,8] U<|Qu<|Qq<|Zb (.inr U) U ?_;have I:cn=0:=by omega
   subst I;exact⟨_,U,U,qb5 n g f e c y (z.pick [1,3,4,5,6,7] U)⟩
  refine Qt<|Qc<|Qu<|Qq<|Zb (.inr U) U ?_;have J: ∃j,upd (WJ (W.objs nm)) q none j≠none:=Classical.byContradiction λR=>absurd (y.zero.2 λk=>Classical.byContradiction λS=>R ⟨k,S⟩) (by omega);exact⟨_,rfl,rfl,CQ n g f a c (by rw[if_pos e]) J (b.pick [0,1,3,4,5,6,7] U)⟩
 have e:s≠Wz:=h;refine Qt<|Qc<|Qe<|Qe<|Qa<|Qb U U<|Gn underlying188 U U U<|Qf<|Qc<|QM U<|Qt<|Qc<|Qa<|Qb U U<|Qb U U ?_;refine XX (cs:=(Jl s).cells.toList) U Da Ka (x.blk 2 U) (by simp [Jl,Value.cells,a]) (vs:=s.map XV) (by simp only[Jl,Value.cells,List.drop_zero];exact List.take_of_length_le (by simp [a])) U ?_;refine QT (k:=q) 0 x keysInt underlying188 U U U U ?_;intro T B;dsimp only[List.set]at B;refine Qf<|Zb (.inl U) U ?_;exact⟨_,rfl,rfl,CQ n g f a c (by rw[if_neg e];rfl) ⟨q,by rw[XR];simp⟩ (B.pick [0,1,3,4,5,6,7] U)⟩
