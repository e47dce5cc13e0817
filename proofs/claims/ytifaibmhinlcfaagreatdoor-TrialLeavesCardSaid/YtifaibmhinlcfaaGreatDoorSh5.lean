/- sheets: the store; giveUp, packed and what tells -/
import Derived.Test.YtifaibmhinlcfaaGreatDoorCk2
import Derived.Test.YtifaibmhinlcfaaGreatDoorBit
set_option linter.unusedVariables false
set_option maxRecDepth 100000
set_option maxHeartbeats 1600000
namespace Go.Proofs.YtifaibmhinlcfaaGreatDoor
open Go.RowKit M Proofs.Tryz
variable {A:Int→Option ShE} {As:List Th} {E:Int→Prop} {N i p:Nat} {S:SS} {id j k:Int} {l:List Int} {w:World} {x:ShE} {z:Value}
def RY (x:ShE):Bs:= if x.place=2 then fm x.pg else[]
def E3 (x:ShE):Value:= .agg #[intV x.refs,intV x.place,intV x.at_,strV (RY x)]
def aG (A:Int->Option ShE):Int->Option Value:= λk=>(A k).map E3
theorem JH (h:A k=some x):(aG A k).getD z= .agg #[intV x.refs,intV x.place,intV x.at_,strV (RY x)]:=by unfold aG;rw[h];rfl
theorem Hr (h:A k=some x):(aG A k).isSome=true:=by unfold aG;rw[h];rfl
theorem HF (h:A k=none):(aG A k).getD z=z:=by unfold aG;rw[h];rfl
theorem Hs (h:A k=none):(aG A k).isSome=false:=by unfold aG;rw[h];rfl
theorem R4 (A:Int->Option ShE) (k:Int) (x:ShE):upd (aG A) k (some (E3 x))=aG (up A k (some x)):=by
  funext j;by_cases h:j=k
  · subst h;rw[XR];unfold aG;rw[Zf];rfl
  · rw[ZG h];unfold aG;rw[Zq h]
theorem Ed (A:Int->Option ShE) (k:Int):upd (aG A) k none=aG (up A k none):=by
  funext j;by_cases h:j=k
  · subst h;rw[XR];unfold aG;rw[Zf];rfl
  · rw[ZG h];unfold aG;rw[Zq h]
theorem gI_del (g:Int->Option Int) (k:Int):upd (gI g) k none=gI (up g k none):=by
  funext j;by_cases h:j=k
  · subst h;rw[XR];unfold gI;rw[Zf];rfl
  · rw[ZG h];unfold gI;rw[Zq h]
structure ShX where
  ba:Nat
  bi:Nat
  fp:Nat
  sp:Nat
  kp:Nat
  cv:Value
  tv:Value
def He (p:Nat) (S:SS):Th:=Cp λq:ShX=>starL [Q6 p [.map (some q.ba),.map (some q.bi),q.cv,ptrV q.fp 0,ptrV q.sp 0,ptrV q.kp 0,intV S.slots,intV S.budget,intV S.next,q.tv],Q4 QY q.ba (aG S.all),Q4 QY q.bi (gI S.inn),rowT inC q.cv S.cache,GF q.fp S.fr,Bq q.sp S.sl,N4 q.kp S.ck,rowT inC q.tv S.taken]
theorem Zn (h:Sat w (He p S::As)): ∃ba bi fp sp kp ac cc at2 ct,Sat w (Q6 p [.map (some ba),.map (some bi),.slice ac S.cache.length cc,ptrV fp 0,ptrV sp 0,ptrV kp 0,intV S.slots,intV S.budget,intV S.next,.slice at2 S.taken.length ct]::Q4 QY ba (aG S.all)::Q4 QY bi (gI S.inn)::rowT inC (.slice ac S.cache.length cc) S.cache::GF fp S.fr::Bq sp S.sl::N4 kp S.ck::rowT inC (.slice at2 S.taken.length ct) S.taken::As):=by
  obtain⟨⟨ba,bi,fp,sp,kp,cv,tv⟩,h⟩:=h.ex;replace h:=h.flat;obtain⟨ac,cc,a,_⟩:=Sat.own_shape (As:=Q6 p _::Q4 QY ba (aG S.all)::Q4 QY bi (gI S.inn)::rowT inC cv S.cache::GF fp S.fr::Bq sp S.sl::N4 kp S.ck::rowT inC tv S.taken::As) h 3 rfl;obtain rfl:=a;obtain⟨at2,ct,a,_⟩:=Sat.own_shape (As:=Q6 p _::Q4 QY ba (aG S.all)::Q4 QY bi (gI S.inn)::rowT inC _ S.cache::GF fp S.fr::Bq sp S.sl::N4 kp S.ck::rowT inC tv S.taken::As) h 7 rfl;obtain rfl:=a;exact⟨ba,bi,fp,sp,kp,ac,cc,at2,ct,h⟩
theorem Xe {ba bi fp sp kp:Nat} {cv tv:Value} (h:Sat w (Q6 p [.map (some ba),.map (some bi),cv,ptrV fp 0,ptrV sp 0,ptrV kp 0,intV S.slots,intV S.budget,intV S.next,tv]::Q4 QY ba (aG S.all)::Q4 QY bi (gI S.inn)::rowT inC cv S.cache::GF fp S.fr::Bq sp S.sl::N4 kp S.ck::rowT inC tv S.taken::As)):Sat w (He p S::As):=
  Sat.ex_intro (f:= λq:ShX=>starL [Q6 p [.map (some q.ba),.map (some q.bi),q.cv,ptrV q.fp 0,ptrV q.sp 0,ptrV q.kp 0,intV S.slots,intV S.budget,intV S.next,q.tv],Q4 QY q.ba (aG S.all),Q4 QY q.bi (gI S.inn),rowT inC q.cv S.cache,GF q.fp S.fr,Bq q.sp S.sl,N4 q.kp S.ck,rowT inC q.tv S.taken]) ⟨ba,bi,fp,sp,kp,cv,tv⟩
    (Sat.fold (As:=[Q6 p _,Q4 QY ba (aG S.all),Q4 QY bi (gI S.inn),rowT inC cv S.cache,GF fp S.fr,Bq sp S.sl,N4 kp S.ck,rowT inC tv S.taken]) h)
theorem Rd {F:Th} (a:Sat w [F]) {lv:Value} (b:Ent F (RdL inC lv l)) (h:l.length<=100000000000):
    Calls prog 189 #[lv] w (Ret λv w'=>Sat w' [rowT inC v l,F]):=by
 obtain⟨ao,cap,rfl,e⟩:=(b.sat a 0 rfl).shape;refine Qn func189 U ntmps189 U ?_;refine Qe<|Qa<|Qd U U<|Qf<|Qc<|Qe<|Qe<|Qa<|Qb U U<|Sf underlying24 U U U<|Qf<|Qc<|QR U (λi=> ?_) (λi=> ?_)
 ·refine Qe<|Qa<|Qd U U<|Qf<|Qc<|Qu<|Qq<|QJ (.inr U) U U ?_;obtain rfl:=Option.isNone_iff_eq_none.1 (by assumption:ao.isNone=true);have c:l=[]:=(b.sat a 0 U).isNil;exact⟨_,rfl,by rw[c];exact(a.pick [0] U).row_nil inC⟩
 refine Qt<|Qc<|Qe<|Qa<|X8 inC [] a U underlying24 Uf U U U U (by first | rfl | simp [RowC.cells,Jz,X6]) U ?_
 intro b2 w2 f;refine Qb U U ?_;refine Zx inC 0 f U U U (b.sat f 1 U) underlying24 underlying24 (by intro k j;cases j) H0 U (by simp only[List.length_nil];omega) U (by simp only[List.length_nil];omega) ?_;intro v3 m d;dsimp only[List.set]at d;have g:v3.oneCell'=true:=d.own_one 0 U;exact Qd U U (Qf (Qc (Qu (QJ (.inr U) U U (⟨_,U,d.pick [0,1] U⟩)))))
theorem OE {F:Th} (a:Sat w [He p S,F]) (id:Int):
    Calls prog 12 #[ptrV p 0,intV id] w (Ret λv w'=>v=(match S.all id with | none=>intV 0 | some x=>intV x.refs)/\Sat w' [He p S,F]):=by
 obtain⟨ba,bi,fp,sp,kp,ac,cc,at2,ct,a⟩:=Zn a;cases Zl:S.all id with
 | none=>
  refine Qn func12 U ntmps12 U ?_;exact Qe (Qa (Qd U U (Qf (Qc (Qe (Qa (Qb U U (Qj U U (Qg U Zg U (Qo U ZZ (a.cell 0 U U) U (Qb U U (Xf (k:=id) 1 a keysInt underlying74 U U U Zt (u:=(.agg #[intV 0,intV 0,intV 0,strV []])) (HF Zl) U (Mq DT U U U (Qd U U (Qf (Qc (Qu (QJ (.inr U) U U (⟨_,U,U,Xe (a.pick [0,1,2,3,4,5,6,7,8] U)⟩)))))))))))))))))))
 | some x=>
  refine Qn func12 U ntmps12 U ?_;exact Qe (Qa (Qd U U (Qf (Qc (Qe (Qa (Qb U U (Qj U U (Qg U Zg U (Qo U ZZ (a.cell 0 U U) U (Qb U U (Xf (k:=id) 1 a keysInt underlying74 U U U Zt (u:=(.agg #[intV x.refs,intV x.place,intV x.at_,strV (RY x)])) (JH Zl) U (Mq DT U U U (Qd U U (Qf (Qc (Qu (QJ (.inr U) U U (⟨_,U,U,Xe (a.pick [0,1,2,3,4,5,6,7,8] U)⟩)))))))))))))))))))
theorem B7 {F:Th} (b:Sat w [He p S,F]) {f:Int} {b0:Bs} (h:Ws S.fr f=some b0) (n:S.ck.length=S.fr.length) (o:S.taken.length<=90000000000):
    Calls prog 204 #[ptrV p 0,intV f] w (Ret λv w'=>v= .tuple #[]/\Sat w' [He p (offFrame S f),F]):=by
 obtain⟨q,r⟩:=DU h;have e:0<=f/\f<(S.ck.length:Int):=by omega
 obtain⟨ba,bi,fp,sp,kp,ac,cc,at2,ct,b⟩:=Zn b;refine Qn func204 U ntmps204 U ?_;refine Qe<|Qa<|Qb U U<|Qj U U<|Qg U Yg U<|Qo U Va (b.cell 0 U U) U<|Qb U U<|Qw cal_228 U (Iw (b.sp [4] U) f) U ?_;rintro _ t ⟨_,rfl,a⟩;replace a:=a.jn U U;rw[show RX S.fr f=S.fr.set f.toNat none by unfold RX;rw[h]]at a;refine Qf<|Qc<|Qe<|Qa<|Qb U U<|Qj U U<|Qg U DW U<|Qo U Oh (a.cell 1 U U) U<|Qb U U<|Qw PH U (ckgoneT (a.sp [6] U) f e) U ?_;rintro _ w2 ⟨rfl,c⟩;replace c:=c.jn U U;refine Qf<|Qc<|Qh [1,0] U<|Qe<|Qa<|Qb U U<|Qj U U<|Qg U Vs U<|Qo U YX (c.cell 2 U U) U<|Qb U U<|Wf (k:=f) 4 c keysInt underlying77 U U U U ?_;intro u d;dsimp only[List.set]at d;rw[gI_del]at d;refine Qf<|Qc<|Qa<|Qb U U<|Qb U U<|Qj U U<|Qg U Aa U<|Qo U J0 (d.cell 2 U U) U<|Qb U U<|X8 inC [f] d U underlying24 Uf U U U U (by rfl) rfl ?_;intro x y j;refine Zx inC 8 j U U U (j.rd 0 U (by simp)) underlying24 underlying24 (by intro k s;cases s) H0 U (by simp only[List.length_cons,List.length_nil];omega) U (by simp only[List.length_cons,List.length_nil];omega) ?_;intro v5 z g;dsimp only[List.set]at g;have l:v5.oneCell'=true:=g.own_one 8 U;refine Qj U U<|Qg U Aa U ?_
 first | (refine QK g U U Gw (by assumption) (i:=3) U (Xk U) ?_)
 intro A m;dsimp only[List.set]at m;exact Qf (Zb (.inl U) U (⟨_,U,U,Xe (S:=offFrame S f) (m.pick [3,4,5,6,2,7,1,8,9] U)⟩))
theorem OB (a:l[i]? =some j) (b:A j=some x) (c:x.place=2):Jj A (l.take (i+1))=Jj A (l.take i)+(RY x).length:=by
  rw[List.take_add_one,a];unfold Jj;simp only[Option.toList_some,List.map_append,List.map_cons,List.map_nil,List.sum_append,List.sum_cons,List.sum_nil];unfold fmL RY;rw[b,if_pos c];rfl
theorem OC (a:l[i]? =some j) (b:A j=some x) (c:x.place=2):Jj A (l.drop i)=(RY x).length+Jj A (l.drop (i+1)):=by
  obtain⟨hi,d⟩:=Za a;rw[List.drop_eq_getElem_cons hi,d];unfold Jj;rw[List.map_cons,List.sum_cons];unfold fmL RY;rw[b,if_pos c]
theorem fm_le (p:Bs):(fm p).length<=47:=by
  unfold fm;cases h:UG p with
  | none=> simp
  | some f=> exact(MT h).1
theorem DH (A:Int->Option ShE): ∀l:List Int,Jj A l<=47*l.length
  | []=>by simp [Jj]
  | j::l=>by
    have a:=DH A l;unfold Jj at a⊢;rw[List.map_cons,List.sum_cons,List.length_cons]
    have :fmL A j<=47:=by
      unfold fmL;cases A j with
      | none=> simp
      | some x=> exact fm_le x.pg
    omega
theorem Ss {F:Th} (c:Sat w [He p S,F]) (e:ShI E N S) (q:N<=90000000000):
    Calls prog 253 #[ptrV p 0] w (Ret λv w'=>v=intV ((Jj S.all S.cache:Nat):Int)/\Sat w' [He p S,F]):=by
 have h:=e.cln;obtain⟨ba,bi,fp,sp,kp,ac,cc,at2,ct,c⟩:=Zn c;refine Qn func253 U ntmps253 U ?_;refine Qe<|Qa<|Qd U U<|Qf<|Qc<|Qe<|Qa<|Qd U U<|Qf<|Qc<|Qe<|Qe<|Qa<|Qb U U<|Qj U U<|Qg U JD U<|Qo U J0 (c.cell 0 U U) U<|Xl underlying24 U U<|Qb U U<|Qf<|Qc<|Qx ?_;refine QU (λK0 E0 W0=> ∃(i:Nat),K0=S.cache.length -i/\E0=[(0,ptrV p 0),(3,intV ((Jj S.all (S.cache.take i):Nat):Int)),(9,.slice ac S.cache.length cc),(10,intV (S.cache.length:Int)),(11,intV (i:Int))]/\Sat W0 [Q6 p [.map (some ba),.map (some bi),.slice ac S.cache.length cc,ptrV fp 0,ptrV sp 0,ptrV kp 0,intV S.slots,intV S.budget,intV S.next,.slice at2 S.taken.length ct],Q4 QY ba (aG S.all),Q4 QY bi (gI S.inn),rowT inC (.slice ac S.cache.length cc) S.cache,GF fp S.fr,Bq sp S.sl,N4 kp S.ck,rowT inC (.slice at2 S.taken.length ct) S.taken,F]/\(i<=S.cache.length)) (L0:=[(0,_),(3,_),(9,_),(10,_),(11,_)]) (S.cache.length -0) (Vb U U U U U) ⟨0,rfl,rfl,c,by omega⟩ ?_;rintro _ _ r ⟨i,rfl,rfl,a,hi⟩;refine Qe<|Qa<|Xa U U U<|Qf<|Qc<|Qe<|Qs U (λl=> ?_) (λl=> ?_)
 ·obtain⟨j,d⟩: ∃j,S.cache[i]? =some j:=⟨_,XQ (by omega)⟩;obtain⟨_,x,f,g⟩:=e.cch (List.mem_of_getElem? d);have m:=DH S.all (S.cache.take i);have n:=List.length_take_le i S.cache;have o:(RY x).length<=47:=by unfold RY;rw[if_pos g];exact fm_le x.pg
  refine Qt<|Qc<|Qe<|Qx<|Qe<|Qa<|Xj inC 3 i a U U U (by first | rfl | omega) d WZ U ?_
  intro bx3 capx3 b;refine Zh 3 i 0 a U b U U d QL U U<|Qd U U<|Qf<|Qc<|Qa<|Qb U U<|Qb U U<|Qj U U<|Qg U Zg U<|Qo U ZZ (a.cell 0 U U) U<|Qb U U<|Xf (k:=j) 1 a keysInt underlying74 U U U Zt (u:=(.agg #[intV x.refs,intV x.place,intV x.at_,strV (RY x)])) (JH f) U<|Mq EX U U U<|WD underlying9 U U<|QE U U (by omega) (by omega) U ?_;refine Qd U U<|Qf<|Qm<|Qc<|Qh [11,10,9,0,3] U<|Qa<|QE U U (by omega) (by omega) U ?_;refine Qb U U<|Qf ?_;exact Q5 (L1:=[(0,_),(3,intV ((Jj S.all (S.cache.take (i+1)):Nat):Int)),(9,_),(10,_),(11,intV ((i+1:Nat):Int))]) (by rw[OB d f g];exact(Vb U U U U U)) (k1:=S.cache.length -(i+1)) (by omega) ⟨i+1,rfl,rfl,a.pick [0,1,2,3,4,5,6,7,8] U,by omega⟩
 exact QQ (Qp (Qp (Qy (Qc (Qe (Qa (Qb U U (Qd U U (Qf (Qc (Qu (QJ (.inr U) U U (⟨_,rfl,by rw[List.take_of_length_le (by omega)],Xe (a.pick [0,1,2,3,4,5,6,7,8] U)⟩)))))))))))))
structure PkS (E:Int→Prop) (S S1:SS):Prop where
  go:ShG S S1
  inn:S1.inn=S.inn
  fr:S1.fr=S.fr
  ck:S1.ck=S.ck
  tak:S1.taken=S.taken
  one: ∀j x,S.all j=some x→x.place=1∨E j→S1.all j=some x
theorem PkS.refl (E:Int->Prop) (S:SS):PkS E S S:=⟨ShG.refl S,rfl,rfl,rfl,rfl,λ_ _ h _=>h⟩
theorem Ij {T:Nat} {S0:SS} {c:List Int} {k:Nat} (h:ShI E T S) (e:PkS E S0 S) (n:S.cache=j::c) (f:S.all j=some x) (u:S.sl[k]? =some []):
    ShI E T {S with all:=up S.all j (some ⟨x.refs,3,(k:Nat),x.pg⟩),sl:=S.sl.set k x.pg,cache:=c}/\PkS E S0 {S with all:=up S.all j (some ⟨x.refs,3,(k:Nat),x.pg⟩),sl:=S.sl.set k x.pg,cache:=c}:=by
  obtain⟨g,x',l,o⟩:=h.cch (j:=j) (by rw[n];simp);obtain rfl:x=x':=by rw[f]at l;cases l;rfl
  have p:j∉c:=by have :=h.nod;rw[n]at this;exact(List.nodup_cons.1 this).1
  have v:=h.offCache f o (c:=c) (by rw[n];exact List.sublist_cons_self j c) (λi=>by
    rw[n];constructor
    · intro hi;exact⟨List.mem_cons_of_mem _ hi,λq=>p (q▸hi)⟩
    · rintro⟨hi,r⟩;exact(List.mem_cons.1 hi).resolve_left r)
  have w:=ShI.onSlot (S:={S with cache:=c}) (x:=x) v (.inr U) f u
  refine⟨w.congr λi _=>⟨λ⟨a,b⟩=>a.resolve_right b,λa=>⟨.inl a,λq=>g (q▸a)⟩⟩, ?_⟩;refine⟨e.go.trans ⟨λi=> ?_,⟨[],by simp,λi y m s=> .inr ⟨y, ?_,s,rfl⟩⟩,rfl,rfl,rfl,rfl⟩,e.inn,e.fr,e.ck,e.tak,λi y m d=> ?_⟩
  · show((up S.all j _) i).map _=_;by_cases q:i=j
    · subst q;rw[Zf,f];rfl
    · rw[Zq q]
  · show(up S.all j _) i=_;rw[Zq (λq=>by subst q;rw[f]at m;cases m;omega)];exact m
  · show(up S.all j _) i=_;have t:=e.one i y m d
    rw[Zq (λq=>by
      subst q;rcases d with d | d
      · rw[f]at t;cases t;omega
      · exact g d)];exact t
structure EvS (E:Int→Prop) (T:Nat) (f:Int) (S S':SS):Prop where
  inv:ShI E (T+1) S'
  go:ShG S S'
  fr:S'.fr=S.fr.set f.toNat none
  lim: ∀j x,S.all j=some x→E j→S'.all j=some x
theorem LF {T:Nat} {S1:SS} {f:Int} (s:ShI E T S) (h:ShI E T S1) (j:PkS E S S1) (k: ¬E id) (n:S.all id=some x) (d:x.place=1) (e:x.at_=f) (l:UG x.pg≠none) (o:(Jj S1.all S1.cache+(fm x.pg).length:Int)<=S1.budget):
    EvS E T f S (offFrame {S1 with all:=up S1.all id (some ⟨x.refs,2,0,x.pg⟩),cache:=S1.cache++[id]} f):=by
  have c:=j.one id x n (.inl d);have p:=h.offFrame k c d e;have r:=ShI.onCache (S:=offFrame S1 f) (x:=x) p (.inr U) c l o (by have :=h.cln;show S1.cache.length+1<=_;omega) 0;refine⟨r.congr λi _=>⟨λ⟨a,b⟩=>a.resolve_right b,λa=>⟨.inl a,λq=>k (q▸a)⟩⟩,j.go.trans ⟨λi=> ?_,⟨[f],rfl,λi y g m=> ?_⟩,rfl,rfl,by show(S1.fr.set _ _).length=_;rw[List.length_set],rfl⟩,by show S1.fr.set _ _=_;rw[j.fr],λi y g hi=> ?_⟩
  · show(up S1.all id _ i).map _=_;by_cases q:i=id
    · subst q;rw[Zf,c];rfl
    · rw[Zq q]
  · by_cases q:i=id
    · subst q;rw[c]at g;cases g;exact .inl (by rw[e];simp)
    · exact .inr ⟨y,by show up S1.all id _ i=_;rw[Zq q];exact g,m,rfl⟩
  · show up S1.all id _ i=_;rw[Zq (λq=>k (by rw[<-q];exact hi))];exact j.one i y g (.inr hi)
theorem LE {T:Nat} {f:Int} {k:Nat} (h:ShI E T S) (g: ¬E id) (e:S.all id=some x) (j:x.place=1) (c:x.at_=f) (m:S.sl[k]? =some []):
    EvS E T f S (offFrame {S with all:=up S.all id (some ⟨x.refs,3,(k:Nat),x.pg⟩),sl:=S.sl.set k x.pg} f):=by
  have n:=h.offFrame g e j c;have o:=ShI.onSlot (S:=offFrame S f) (x:=x) n (.inr U) e m;refine⟨o.congr λi _=>⟨λ⟨a,b⟩=>a.resolve_right b,λa=>⟨.inl a,λq=>g (q▸a)⟩⟩,⟨λi=> ?_,⟨[f],rfl,λi y d l=> ?_⟩,rfl,rfl,by show(S.fr.set _ _).length=_;rw[List.length_set],rfl⟩,rfl,λi y d hi=> ?_⟩
  · show(up S.all id _ i).map _=_;by_cases q:i=id
    · subst q;rw[Zf,e];rfl
    · rw[Zq q]
  · by_cases q:i=id
    · subst q;rw[e]at d;cases d;exact .inl (by rw[c];simp)
    · exact .inr ⟨y,by show up S.all id _ i=_;rw[Zq q];exact d,l,rfl⟩
  · show up S.all id _ i=_;rw[Zq (λq=>g (by rw[<-q];exact hi))];exact d
theorem Ix {T:Nat} {f:Int} {b:Bs} (h:ShI E T S) (a:Ws S.fr f=some b): ∃id x,S.inn f=some id/\ ¬E id/\S.all id=some x/\x.place=1/\x.at_=f/\x.pg=b:=by
  cases c:S.inn f with
  | none=> exact absurd c (h.fru a)
  | some id=>
    obtain⟨d,x,e,g,i⟩:=(h.frm f id).1 c;have :=h.frc d e g;rw[i,a]at this;exact⟨id,x,rfl,d,e,g,i,by cases this;rfl⟩
theorem gI_some {g:Int->Option Int} (h:g k=some j):(gI g k).getD z=intV j:=by unfold gI;rw[h];rfl
theorem OF {F:Th} (hS:Sat w [He p S,F]) (M:ShI E N S) (hN:N<=90000000000) (hx:S.all id=some x) (ae:x.place=1):
    Calls prog 238 #[ptrV p 0,intV id,strV x.pg] w (Ret λv w'=>(v= .bool false/\Sat w' [He p S,F])\/(∃f S1,v= .bool true/\UG x.pg=some f/\ShI E N S1/\PkS E S S1/\(Jj S1.all S1.cache+f.length:Int)<=S1.budget/\Sat w' [He p {S1 with all:=up S1.all id (some ⟨x.refs,2,0,x.pg⟩),cache:=S1.cache++[id]},F])):=by
 have J:x.pg.length=64:=(M.ent hx).2.2.2.2.1;have b0:=M.cln;have b1:=HR S.sl;have ay:=M.slo;have az:=M.sl2;obtain⟨ba,bi,fp,sp,kp,ac,cc,at2,ct,hS⟩:=Zn hS;cases s:UG x.pg with
 | none=>
  refine Qn func238 U ntmps238 U ?_;refine Qe<|Qa<|Qd U U<|Qf<|Qc<|Qe<|Qa<|Qb U U<|Qw PJ U (Pb (hS.sp [] U) x.pg J) U ?_;rintro _ w1 ⟨rfl,t⟩;replace t:=t.jn U U;rw[s];dsimp only[EC,Option.getD_some,Option.isSome_some,Option.getD_none,Option.isSome_none];refine Qb U U<|Qr U U U<|Qr U U U<|Qd U U<|Qd U U<|Qf<|Qc<|Qh [1,0,6,7,8] U<|Qe<|Qe<|Qa<|Qb U U<|QX U U<|Qb U U<|X9 25 U (λc=> ?_) (λc=> ?_)
  ·exact Qi U U c U (Qi U U c U (Qi U U c U (Qi U U c U (Qi U U c U (Qi U U c U (Qi U U c U (QF U c U U (Qf (Qc (Qh [1,0,6,7,33] U (Xm U (Qe (Qa (Qd U U (Qf (Qc (Qu (Qq (QJ (.inr U) U U (⟨_,U,.inl ⟨U,Xe (t.pick [0,1,2,3,4,5,6,7,8] U)⟩⟩))))))))))))))))))))
  exact absurd c (by simp)
 | some f=>
  have b2:=(MT s).1;have b3:=DH S.all S.cache;refine Qn func238 U ntmps238 U ?_;refine Qe<|Qa<|Qd U U<|Qf<|Qc<|Qe<|Qa<|Qb U U ?_;have h:=hS.sp [] U;refine Qw PJ U (Pb h x.pg J) U ?_;rintro _ w1 ⟨rfl,t⟩;replace t:=t.jn U U;clear h;rw[s];dsimp only[EC,Option.getD_some,Option.isSome_some,Option.getD_none,Option.isSome_none];refine Qb U U<|Qr U U U<|Qr U U U<|Qd U U<|Qd U U<|Qf<|Qc<|Qh [1,0,6,7,8] U<|Qe<|Qe<|Qa<|Qb U U<|QX U U<|Qb U U<|X9 25 U (λc=> ?_) (λc=> ?_)
  ·exact absurd c (by simp)
  refine Qk U U c<|Qb U U<|Qk U U c<|WD underlying9 U U<|Qk U U c<|Qb U U<|Qk U U c<|Qj U U<|Qk U U c<|Qg U Ab U<|Qk U U c<|Qo U QL (t.cell 0 U U) U<|Qk U U c<|JJ U U U<|Q9 U c U U<|Qf<|Qc<|Qh [1,0,6,7,33] U<|Qs U (λh3=> ?_) (λh3=> ?_)
  ·exact Qe (Qa (Qd U U (Qf (Qc (Qu (Qq (QJ (.inr U) U U (⟨_,U,.inl ⟨U,Xe (t.pick [0,1,2,3,4,5,6,7,8] U)⟩⟩))))))))
  refine Qt<|Qc<|Qe<|Qa<|Qb U U ?_;have Y:=Xe (t.pick [0,1,2,3,4,5,6,7,8] U);refine Qw cal_253 U (Ss (Y.sp [0] U) M hN) U ?_;rintro _ w4 ⟨rfl,j4⟩;replace j4:=j4.jn U U;clear Y;obtain⟨ba,bi,fp,sp,kp,ac,cc,at2,ct,K⟩:=Zn (j4.pick [0,1] rfl);obtain⟨_,_,af,L,_⟩:=K.own_shape 3 rfl;cases af;refine Qb U U<|WD underlying9 U U<|QE U U (by omega) (by omega) U ?_;refine Qd U U<|Qd U U<|Qf<|Qc<|Qh [1,0,6,7,9,10] U<|Qe<|Qx ?_;refine QU (λK0 E0 W0=> ∃(k:Nat),K0=S.cache.length -k/\E0=[(0,ptrV p 0),(1,intV id),(7,strV f),(9,intV (k:Int)),(10,intV ((Jj S.all (S.cache.drop k)+f.length:Nat):Int))]/\Sat W0 [Q6 p [.map (some ba),.map (some bi),.slice ac S.cache.length cc,ptrV fp 0,ptrV sp 0,ptrV kp 0,intV S.slots,intV S.budget,intV S.next,.slice at2 S.taken.length ct],Q4 QY ba (aG S.all),Q4 QY bi (gI S.inn),rowT inC (.slice ac S.cache.length cc) S.cache,GF fp S.fr,Bq sp S.sl,N4 kp S.ck,rowT inC (.slice at2 S.taken.length ct) S.taken,F]/\(k<=S.cache.length)) (L0:=[(0,_),(1,_),(7,_),(9,_),(10,_)]) (S.cache.length -0) (Vb U U U U U) ⟨0,rfl,rfl,K,by omega⟩ ?_;rintro _ _ w6 ⟨k,rfl,rfl,j6,hk⟩;refine Qe<|Qe<|Qa<|Qb U U<|Qb U U<|Qj U U<|Qg U Ab U<|Qo U QL (j6.cell 0 U U) U<|JJ U U U<|Qf<|Qc<|Qh [10,9,7,1,0,44] U<|Qs U (λh7=> ?_) (λh7=> ?_)
  ·have Z:k<S.cache.length:=by rcases Nat.lt_or_ge k S.cache.length with q | q;exact q;(exfalso;have hh:=h7;rw[List.drop_of_length_le q]at hh;simp only[Jj,List.map_nil,List.sum_nil]at hh;omega)
   obtain⟨j,X⟩: ∃j,S.cache[k]? =some j:=⟨_,XQ Z⟩;obtain⟨_,y,O,z⟩:=M.cch (List.mem_of_getElem? X);have b4:=OC X O z;have b5:=DH S.all (S.cache.drop k);have b6:(S.cache.drop k).length<=S.cache.length:=by rw[List.length_drop];omega
   refine Qt<|Qc<|Qx<|Qe ?_;obtain⟨ob,oc9,ag,_⟩:=j6.own_at 3 rfl (by omega);cases ag;have j8:=j6.drew;refine Q7 [0,1,2,3,4,5,6,7,8,9,10,11,12,13,14,15,16] [] Z9 (by kernel_rfl) ?_;refine Q3 U U U<|Q3 U U U<|QP U U U<|QG U U U Zg<|Q0 U U U (Ql U ZZ (j8.cell 0 U U))<|Q3 U U U<|QP U U U<|QG U U U JD<|Q0 U U U (Ql U J0 (j8.cell 0 U U))<|Q3 U U U<|Xi U U U (λ_=>(XK k U U (by rfl) (Z) WZ)) ?_;refine Q0 U U U (ZN inC 3 k 0 j8 U X QL U U)<|Q0 U U U (X4 (k:=j) 1 j8 keysInt underlying74 U U U Zt (u:=(.agg #[intV y.refs,intV y.place,intV y.at_,strV (RY y)])) (JH O))<|Xi U U U (λ_=>(GS EX U U)) ?_;refine Xi U U U (λ_=>(Mc underlying9 U)) ?_;refine Xi U U U (λ_=>(Ai U U (by omega) (by omega))) ?_;refine Zd U U U (VC.nil (Qc (Qh [9,7,1,0,10] U (Qa (Qb U U (QE U U (by omega) (by omega) U ?_))))));refine Qd U U<|Qf<|Qm ?_;exact Q5 (L1:=[(0,_),(1,_),(7,_),(9,intV ((k+1:Nat):Int)),(10,intV ((Jj S.all (S.cache.drop (k+1))+f.length:Nat):Int))]) (by rw[show Jj S.all (S.cache.drop (k+1))+f.length=Jj S.all (S.cache.drop k)+f.length -(RY y).length by omega,Int.ofNat_sub (by omega)];exact(Vb U U U U U)) (k1:=S.cache.length -(k+1)) (by omega) ⟨k+1,rfl,rfl,j8.pick [0,1,2,3,4,5,6,7,8] U,by omega⟩
  refine QQ<|Qp<|Qp<|Qy<|Qc<|Qe<|Qe ?_;have j9:=j6.drew;refine Q7 [0,1,2,3,4,5,6,7,10,8,9,11] [8] Z9 (by kernel_rfl) ?_;refine Q3 U U U<|QP U U U<|QG U U U fo_82_6<|Q0 U U U (Ql U QL (j9.cell 0 U U))<|Q3 U U U<|QP U U U<|QG U U U Uu<|Q0 U U U (Ql U Dz (j9.cell 0 U U))<|Q3 U U U<|QO U U U U U U ?_;refine Qw cal_254 U (OA (j9.sp [5] U)) U ?_;rintro _ b7 ⟨rfl,l⟩;replace l:=l.jn U U;refine Xh (.skip (by kernel_rfl) (.cons (.inl ⟨rfl,(Ql U QL (l.cell 1 U U))⟩) .nil)) ?_;refine Xi U U U (λ_=>(Ai U U (by omega) (by omega))) ?_;refine Xi U U U (λ_=>(Tu U U)) ?_;refine VC.nil (Qc (Qh [9,7,1,0,74] U (Qs U (λah=> ?_) (λah=> ?_))))
  ·exact Qe (Qa (Qd U U (Qf (Qc (Qu (Qq (QJ (.inr U) U U (⟨_,U,.inl ⟨U,Xe (l.pick [1,2,3,4,5,0,6,7,8] U)⟩⟩))))))))
  refine Qt<|Qc<|Qe<|Qe ?_;have a0:=l.pick [1,2,3,4,5,0,6,7,8] U;refine Qa<|Qb U U<|Qj U U<|Qg U JD U<|Qo U J0 (a0.cell 0 U U) U<|Qb U U<|DC 0 k underlying24 YD U (qad _) (Bg k _ U U) (by omega) (by omega) U ?_;refine Xl (m:=k) underlying24 U U<|Qb U U<|Qf<|Qc<|Qh [9,7,1,0,80,81,82] U<|Qx ?_;refine QU (λK0 E0 W0=> ∃(S1:SS) (i:Nat),K0=k -i/\E0=[(0,ptrV p 0),(1,intV id),(7,strV f),(9,intV (k:Int)),(80,U9 1 (.slice ac S.cache.length cc) 0 k),(81,intV (k:Int)),(82,intV (i:Int))]/\Sat W0 [Q6 p [.map (some ba),.map (some bi),.slice ac S.cache.length cc,ptrV fp 0,ptrV sp 0,ptrV kp 0,intV S.slots,intV S.budget,intV S.next,.slice at2 S.taken.length ct],Q4 QY ba (aG S1.all),Q4 QY bi (gI S.inn),rowT inC (.slice ac S.cache.length cc) S.cache,GF fp S.fr,Bq sp S1.sl,N4 kp S.ck,rowT inC (.slice at2 S.taken.length ct) S.taken,F]/\(ShI E N S1)/\(PkS E S S1)/\(S1.cache=S.cache.drop i)/\(i<=k)/\(WG S1.sl+(k -i)<=S1.sl.length)) (L0:=[(0,_),(1,_),(7,_),(9,_),(80,_),(81,_),(82,_)]) (k -0) (Cb U U U U U U U) ⟨S,0,rfl,(by unfold U9;rfl),a0,M,PkS.refl E S,rfl,by omega,by omega⟩ ?_;rintro _ _ b8 ⟨S1,i,rfl,rfl,g,n,b,a1,hi,hU⟩;refine Qe<|Qa<|Xa U U U<|Qf<|Qc<|Qe<|Qs U (λai=> ?_) (λai=> ?_)
  ·obtain⟨j,X⟩: ∃j,S.cache[i]? =some j:=⟨_,XQ (by omega)⟩;have h:S1.cache=j::S.cache.drop (i+1):=by rw[a1,List.drop_eq_getElem_cons (by omega)];congr 1;exact(Za X).2
   have b9:S.cache.drop (i+1)=S.cache.drop (i+1):=rfl;obtain⟨aj,y,O,z⟩:=n.cch (j:=j) (by rw[h];simp);obtain⟨_,a2⟩:=n.pck aj O z;obtain⟨fy,a3⟩:=Option.ne_none_iff_exists'.1 a2;have a4:RY y=fy:=by unfold RY fm;rw[if_pos z,a3];rfl
   have d:y.pg.length=64:=(n.ent O).2.2.2.2.1;have a5:y.pg≠[]:= λq=>by rw[q]at d;simp at d
   have ak:Ent (rowT inC (.slice ac S.cache.length cc) S.cache) (RdL inC (U9 1 (.slice ac S.cache.length cc) 0 k) ((S.cache.take k).drop 0)):=Fk (by omega) (by omega) (by omega) L;refine Qt<|Qc<|Qe<|Qx<|Qe<|Qa ?_;have P:=Ent.sat ak g 3 U;obtain⟨va,vc,a6,_⟩:=P.shape;rw[a6]at P;obtain⟨vb,vo,rfl,al⟩:=P.get (i:=i) (a:=j) (by rw[List.drop_zero,List.getElem?_take,if_pos (by omega)];exact X);refine Xt i (congrArg some a6) U U (by rw[List.drop_zero,List.length_take];omega) WZ U ?_;refine Qo U QL (al 0 _ U) U<|Qd U U<|Qf<|Qc<|Qh [82,81,80,9,7,1,0,12] U<|Qe<|Qa<|Qb U U<|Qj U U<|Qg U Zg U<|Qo U ZZ (g.cell 0 U U) U<|Qb U U<|Xf (k:=j) 1 g keysInt underlying74 U U U Zt (u:=(.agg #[intV y.refs,intV y.place,intV y.at_,strV (RY y)])) (JH O) U<|Xc g Zt U U ?_;intro bb bc am
   (refine QW am U U HV U (by rfl) (i:=0) U (by decide) ?_)
   intro bd Q;dsimp only[List.set]at Q;refine Qf<|Qc<|Qh [82,81,80,9,7,1,0,12,13] U<|Qe<|Qa<|Qg U Pq U<|Qo U XT (Q.cell 0 U U) U ?_;refine Qw PM U (B3 (Q.sp [] U) d (by rw[a4];exact a3)) U ?_;rintro _ be ⟨rfl,D⟩;replace D:=D.jn U U;refine Qb U U<|Qr U U U<|Qr U U U<|Qd U U<|Qd U U<|Qf<|Qc<|Qh [82,81,80,9,7,1,0,12,13,14] U<|Qe<|Qa<|Qb U U<|Qj U U<|Qg U Uu U<|Qo U Dz (D.cell 1 U U) U<|Qb U U<|XF Ay U (Sl (D.sp [6] U) y.pg d) U ?_;rintro e bf ⟨_,rfl,(⟨R,rfl,G⟩ | ⟨ks,a7,rfl,G⟩)⟩
   ·exact absurd R (by omega)
   refine⟨_,U, ?_⟩;replace G:=G.jn U U;refine Qb U U<|Qr U U U<|Qr U U U<|Qd U U<|Qd U U<|Qf<|Qc<|Qh [82,81,80,9,7,1,0,12,13,16] U ?_;have T:=G.drew;refine Q7 [0,1,2,3,4,5,6,7,8,9] [9] Z9 (by kernel_rfl) ?_;refine Q3 U U U<|QP U U U<|QG U U U Zg<|Q0 U U U (Ql U ZZ (T.cell 2 U U))<|Q3 U U U<|QG U U U YP<|Q0 U U U (Ql U QL (T.cell 1 U U))<|Q3 U U U<|Xi U U U (λ_=>(Wy U JO K6 Zt U)) ?_;refine QO U U U U U U ?_;refine QT (k:=j) (v:=E3 ⟨y.refs,3,(ks:Nat),y.pg⟩) 3 T keysInt underlying74 U U U U ?_;intro bg o;dsimp only[List.set]at o;have a8:=o;rw[R4]at a8;refine Zc (Xd (by kernel_rfl)) ?_;refine VC.nil (Qm (Qc (Qh [82,81,80,9,7,1,0] U (Qa (QE U U (by omega) (by omega) U ?_)))));refine Qb U U<|Qf ?_;obtain⟨an,ao⟩:=Ij n b h O a7;exact Q5 (L1:=[(0,_),(1,_),(7,_),(9,_),(80,_),(81,_),(82,intV ((i+1:Nat):Int))]) (Cb U U U U U U U) (k1:=k -(i+1)) (by omega) ⟨{S1 with all:=up S1.all j (some ⟨y.refs,3,(ks:Nat),y.pg⟩),sl:=S1.sl.set ks y.pg,cache:=S.cache.drop (i+1)},i+1,rfl,rfl,a8.pick [2,3,4,5,6,0,7,8,9] U,an,ao,rfl,by omega,by dsimp only;rw[List.length_set,B1 a7 a5];omega⟩
  refine QQ<|Qp<|Qp<|Qy<|Qc<|Qe ?_;have ap:S1.all id=some x:=b.one id x hx (.inl ae);refine Qa<|Qb U U<|Qb U U<|Qj U U<|Qg U JD U<|Qo U J0 (g.cell 0 U U) U<|Qb U U<|DC k S.cache.length underlying24 YD U (Bg k _ U U) (qad _) (by omega) (by omega) U ?_;have aq:Ent (rowT inC (.slice ac S.cache.length cc) S.cache) (RdL inC (U9 1 (.slice ac S.cache.length cc) k S.cache.length) (S.cache.drop k)):= λhq=>by have q:=Fk (C:=inC) (A:=k) (B:=S.cache.length) (by omega) (by omega) (by omega) L hq;rwa [List.take_of_length_le (by omega)]at q
  refine Qw Mi U (Rd (g.sp [] U) (Ent.starL aq 3 U) (by rw[List.length_drop];omega)) U ?_;rintro _ bh H;replace H:=H.jn U U;obtain⟨na,nc,ar,_⟩:=H.own_shape 0 rfl;obtain rfl:=ar;refine Qb U U<|X8 inC [id] H U underlying24 Uf U U U U (by rfl) rfl ?_;intro bj bk a9;refine Zx inC 1 a9 U U U (a9.rd 0 U (by simp)) underlying24 underlying24 (by intro k hk;cases hk) H0 U (by simp only[List.length_cons,List.length_nil,List.length_drop];omega) U (by simp only[List.length_cons,List.length_nil,List.length_drop];omega) ?_;intro au bl V;dsimp only[List.set]at V;have av:au.oneCell'=true:=V.own_one 1 U;refine Qj U U<|Qg U JD U ?_
  first | (refine QK V U U Gw (by assumption) (i:=2) U (Xk U) ?_)
  intro bm aa;dsimp only[List.set]at aa;refine Qf<|Qc<|Qh [7,1,0] U<|Qe ?_;have I:=aa.drew;refine Q7 [0,1,2,3,4,5,6,7,8,9,10,11,12,13,14] [14] Z9 (by kernel_rfl) ?_;refine Q3 U U U<|QP U U U<|QG U U U Zg<|Q0 U U U (Ql U ZZ (I.cell 2 U U))<|Q3 U U U<|Q3 U U U<|QP U U U<|QG U U U Zg<|Q0 U U U (Ql U ZZ (I.cell 2 U U))<|Q3 U U U<|Q0 U U U (X4 (k:=id) 3 I keysInt underlying74 U U U Zt (u:=(.agg #[intV x.refs,intV x.place,intV x.at_,strV (RY x)])) (JH ap))<|Xi U U U (λ_=>(GS DT U U)) ?_;refine Q3 U U U<|Xi U U U (λ_=>(Wy U SA K6 Zt U)) ?_;refine QO U U U U U U ?_;have W:Value.agg #[intV x.refs,intV 2,intV 0,strV f]=E3 ⟨x.refs,2,0,x.pg⟩:=by unfold E3 RY fm;simp [s]
  refine QT (k:=id) (v:=Value.agg #[intV x.refs,intV 2,intV 0,strV f]) 3 I keysInt underlying74 U U U U ?_;intro bn r;dsimp only[List.set]at r;have ab:=r;rw[W,R4]at ab;refine Zc (Xd (by kernel_rfl)) ?_;refine VC.nil (Qc (NF (L':=[]) .nil (Qe (Qa (Qd U U (Qf (Qc (Qu (QJ (.inr U) U U ?_)))))))));have ad:S1.cache=S.cache.drop k:=by rw[a1,show i=k by omega]
  have aw:Jj S1.all S1.cache=Jj S.all (S.cache.drop k):=by rw[ad];exact CN λj _=>by have :=b.go.same j;cases hq:S1.all j<;> cases bo:S.all j<;>simp_all
  have ax:({S1 with all:=up S1.all id (some ⟨x.refs,2,0,x.pg⟩),cache:=S1.cache++[id]}:SS)=⟨up S1.all id (some ⟨x.refs,2,0,x.pg⟩),S.inn,S1.cache++[id],S.fr,S1.sl,S.ck,S.slots,S.budget,S.next,S.taken⟩:=by rw[<-b.inn,<-b.fr,<-b.ck,<-b.tak,<-b.go.bud,<-b.go.slo,<-b.go.nxt]
  exact⟨_,rfl,.inr ⟨f,S1,rfl,rfl,n,b,by rw[aw,b.go.bud];omega,by rw[ax,ad];exact Xe (ab.pick [2,3,4,1,6,7,8,9,10] U)⟩⟩
