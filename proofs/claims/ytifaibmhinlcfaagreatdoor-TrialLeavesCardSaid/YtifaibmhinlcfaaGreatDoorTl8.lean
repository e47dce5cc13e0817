/- TrialLeaves: Short, Joined, Decimal -/
import Derived.Test.YtifaibmhinlcfaaGreatDoorTl5
import Derived.Test.YtifaibmhinlcfaaGreatDoorLv1
set_option linter.unusedSectionVars false
set_option linter.unusedVariables false
set_option maxRecDepth 100000
namespace Go.Proofs.YtifaibmhinlcfaaGreatDoor
open Go.RowKit M Proofs.Tryz
variable [Inhabited SlW]
variable {l:List Bs} {w:World}
theorem St {F:Th} (a:Sat w [F]) (s:Bs) (b:s.length<=1000):
    Calls prog 60 #[strV s] w (Ret λv w'=>v=strV (MC s)/\Sat w' [F]):=by
 refine Qn func60 U ntmps60 U ?_;refine Qe<|Qa<|Qd U U<|Qf<|Qc<|Qe<|Qa<|Qb U U<|Qb U U<|WD underlying9 U U<|H2 U U (by omega) (by omega) U ?_;refine Jn U U U<|Bx (s.length -20) _ underlying9 U (Bg (s.length -20) _ U (by omega)) (qad _) (by omega) (by omega) U ?_;refine Qd U U<|Qf<|Qc<|Qu<|QJ (.inr U) U U ?_;exact⟨_,rfl,by rw[List.take_length];rfl,a.pick [0] U⟩
theorem L8 {q:Nat} {k:Bs} (h:l[q]? =some k):Ry (l.take (q+1))=Ry (l.take q)++k++[44]:=by
  unfold Ry;rw[List.take_add_one,h,List.flatMap_append];simp
theorem Np {lv:Value} {F:Th} (e:Sat w [rowT stC lv l,F]) (f: ∀k∈l,k.length<=10) (m:l.length<=100000):
    Calls prog 63 #[lv] w (Ret λv w'=>v=strV (Nq l)/\Sat w' [rowT stC lv l,F]):=by
 obtain⟨ar,cr,d,_⟩:=e.own_shape 0 rfl;obtain rfl:=d;refine Qn func63 U ntmps63 U ?_;refine Qe<|Qa<|Qd U U<|Qf<|Qc<|Qe<|Qa<|Qd U U<|Qf<|Qc<|Qe<|Qe<|Qa<|Qd U U<|Qf<|Qc<|Qx ?_;refine QU (λK0 E0 W0=> ∃(q:Nat),K0=l.length -q/\E0=[(0,.slice ar l.length cr),(3,strV (Ry (l.take q))),(4,intV (q:Int))]/\Sat W0 [rowT stC (.slice ar l.length cr) l,F]/\(q<=l.length)) (L0:=[(0,_),(3,_),(4,_)]) (l.length) (VG U U U) ⟨0,rfl,rfl,e.pick [0,1] U,by omega⟩ ?_;rintro _ _ n ⟨q,rfl,rfl,b,hi⟩;have g:=Ir (l:=l.take q) (λk a=>f k (List.mem_of_mem_take a));have h:(l.take q).length<=l.length:=(List.take_sublist _ _).length_le;refine Qe<|Qe<|Qa<|Qb U U<|Qb U U ?_
 first | refine Xl underlying83 U U ?_ | refine Wa 0 b underlying83 U U U ?_
 refine Xa U U U<|Qf<|Qc<|Qs U (λi=> ?_) (λi=> ?_)
 ·obtain⟨k,a⟩: ∃k,l[q]? =some k:=⟨_,XQ (by omega)⟩;have j:=f k (List.mem_of_getElem? a);refine Qt<|Qc<|Qe<|Qx<|Qa<|Qb U U<|Qb U U<|Qb U U<|Xj stC 0 q b U U U (by first | rfl | omega) a VF U ?_
  intro bx3 capx3 c;refine Zh 0 q 0 b U c U U a XT U U<|KG U U (by omega) U ?_;refine KG U U (by(simp;omega)) U ?_;refine Qd U U<|Qf<|Qm<|Qc<|Qh [4,0,3] U<|Qa<|Qb U U ?_;refine QE U U (by first | omega | (simp;omega)) (by first | omega | (simp;omega)) U ?_
  refine Qd U U<|Qf ?_;exact Q5 (L1:=[(0,_),(3,_),(4,intV ((q+1:Nat):Int))]) (VG U U U) (k1:=l.length -(q+1)) (by omega) ⟨q+1,rfl,by rw[L8 a],b.pick [0,1] U,by omega⟩
 refine QQ<|Qp<|Qp<|Qy<|Qc<|Qe<|Qa<|Qb U U<|Qb U U<|WD underlying9 U U<|H3 U U U<|Bx _ (min 40 (Ry (l.take q)).length) underlying9 U (qad _) (Bg (min 40 (Ry (l.take q)).length) _ U (by omega)) (by omega) (by omega) U ?_;refine Qd U U<|Qf<|Qc<|Qh [2] U<|Qu<|QJ (.inr U) U U ?_;exact⟨_,rfl,by rw[show q=l.length by omega,List.take_length];unfold Nq;congr 1;rw[List.drop_zero];exact List.take_eq_take_iff.2 (by omega),b.pick [0,1] U⟩
theorem Ao {F:Th} (d:Sat w [F]) (m:Nat) (e:m<10):
    Calls prog 66 #[intV (m:Int)] w (Ret λv w'=>v=strV [UInt8.ofNat (48+m)]/\Sat w' [F]):=by
 refine Qn func66 U ntmps66 U ?_;refine Qe<|Qa<|Qd U U<|Qf<|Qc<|Qe<|Qe<|Qa<|Qb U U<|WU U U U<|Qb U U<|QZ 5 U (λa=> ?_) (λa=> ?_)
 ·refine Qk U U (det a)<|Qb U U<|Qk U U (det a)<|Xa U U U<|QF U (det a) U U<|Qf<|Qc<|Qs U (λb=> ?_) (λb=> ?_)
  ·refine Qe<|Qa<|Qb U U<|QE U U (by omega) (by omega) U ?_;refine VT (48+m) underlying3 underlying5 U (by rfl) rfl ?_;refine X8 byC [UInt8.ofNat (48+m)] d U underlying123 ifz_5 U U U U (by rfl) rfl ?_;intro b3 f c;exact Oo 0 c U U underlying123 underlying5 underlying9 U (Qd U U (Qf (Qc (Qh [0,2] U (Qu (Qq (QJ (.inr U) U U (⟨_,U,U,c.pick [1] U⟩))))))))
  exact absurd b (by omega)
 exact absurd a (by omega)
theorem decN_sp {F:Th} (f:Nat) (ih: ∀m:Nat,1<=m->m<10^f->m<=4611686018427387904-> ∀{w:World} {F:Th},Sat w [F]->Calls prog 66 #[intV (m:Int)] w (Ret λv w'=>v=strV (Fw f m)/\Sat w' [F])) (g:Sat w [F]) (m:Nat) (i:m<10^(f+1)) (l:10<=m) (n:f<=18) (o:m<=4611686018427387904):
    Calls prog 66 #[intV (m:Int)] w (Ret λv w'=>v=strV (Fw f (m/ 10)++[UInt8.ofNat (48+m%10)])/\Sat w' [F]):=by
 have j:m/ 10<10^f:=by rw[Nat.pow_succ]at i;omega
 have k:=TD f (m/ 10);refine Qn func66 U ntmps66 U ?_;refine Qe<|Qa<|Qd U U<|Qf<|Qc<|Qe<|Qe<|Qa<|Qb U U<|WU U U U<|Qb U U<|QZ 5 U (λa=> ?_) (λa=> ?_)
 ·refine Qk U U (det a)<|Qb U U<|Qk U U (det a)<|Xa U U U<|QF U (det a) U U<|Qf<|Qc<|Qs U (λd=> ?_) (λd=> ?_)
  ·exact absurd d (by omega)
  refine Qt<|Qc<|Qe<|Qe<|Qa<|Qb U U<|JJ U U U<|Qf<|Qc<|Qs U (λe=> ?_) (λe=> ?_)
  ·refine Qe<|Qa<|Qb U U ?_;refine R7 U U (by first | omega | (simp;omega)) (by first | omega | (simp;omega)) (by first | omega | (simp;omega)) U ?_
   refine Qw PA U ((by have h:=ih (m/ 10) (by omega) (by omega) (by omega) (g.sp [] U);rwa [show((m/ 10:Nat):Int)=(m:Int)/ 10 by omega]at h)) U ?_;rintro _ p ⟨rfl,b⟩;replace b:=b.jn U U;refine Qb U U<|Vd U U (by omega) (by omega) U ?_;refine Qw PA U ((by have h:=Ao (b.sp [] U) (m%10) (by omega);rwa [show((m%10:Nat):Int)=(m:Int)%10 by omega]at h)) U ?_;rintro _ q ⟨rfl,c⟩;replace c:=c.jn U U;refine KG U U (by(simp;omega)) U ?_;exact Qd U U (Qf (Qc (Qh [0,2] U (Qu (Qq (QJ (.inr U) U U (⟨_,U,U,c.pick [0] U⟩)))))))
  exact absurd e (by omega)
 exact absurd a (by omega)
theorem An: ∀f:Nat,f<=19-> ∀m:Nat,1<=m\/1<=f->m<10^f->m<=4611686018427387904-> ∀{w:World} {F:Th},Sat w [F]->Calls prog 66 #[intV (m:Int)] w (Ret λv w'=>v=strV (Fw f m)/\Sat w' [F])
  | 0,_,m,b,a,_=>by have a:m<1:=a;omega
  | f+1,i,m,_,a,d=> λc=>by
    unfold Fw;by_cases h:m<10
    · rw[if_pos h];exact Ao c m h
    · rw[if_neg h];exact decN_sp f (λm b e g=>An f (by omega) m (.inl b) e g) c m a (by omega) (by omega) d
theorem TB {F:Th} (a:Sat w [F]) {n:Int} (b:0<=n) (c:n<=4611686018427387904):Calls prog 66 #[intV n] w (Ret λv w'=>v=strV (qev n)/\Sat w' [F]):=by
  obtain⟨m,rfl⟩:=Int.eq_ofNat_of_zero_le b;exact An 19 (Nat.le_refl _) m (.inr (by decide)) (by have :(10:Nat)^19=10000000000000000000:=(by decide);omega) (by omega) a
theorem fits_sp {F:Th} (l:Sat w [F]) (s:StD):
    Calls prog 27 #[.agg #[intV s.d,strV s.a,strV s.b,intV s.x,intV s.y,intV s.z]] w (Ret λv w'=> ∃b:Bool,v= .bool b/\(b=true↔Y9 s)/\Sat w' [F]):=by
 refine Qn func27 U ntmps27 U ?_;refine Qe<|Qa<|XL l U U U ?_;intro xb m c;replace c:Sat m (Q6 xb (So s)::_):=c;unfold So at c;refine Qd U U<|Qf<|Qc<|Qe<|Qa<|Qg U W7 U<|Qo U XT (c.cell 0 U U) U<|WD underlying9 U U<|By U U U<|Qb U U<|QZ 7 U (λe=> ?_) (λe=> ?_)
 ·refine Qk U U (det e)<|Qg U WO U<|Qk U U (det e)<|Qo U XT (c.cell 0 U U) U<|Qk U U (det e)<|WD underlying9 U U<|Qk U U (det e)<|By U U U<|QF U (det e) U U<|Qb U U<|QZ 13 U (λf=> ?_) (λf=> ?_)
  ·refine Qk U U (det f)<|Qg U Uw U<|Qk U U (det f)<|Qo U QL (c.cell 0 U U) U<|Qk U U (det f)<|WU U U U<|QF U (det f) U U<|Qb U U<|QZ 18 U (λg=> ?_) (λg=> ?_)
   ·refine Qk U U (det g)<|Qg U Uw U<|Qk U U (det g)<|Qo U QL (c.cell 0 U U) U<|Qk U U (det g)<|By U U U<|QF U (det g) U U<|Qb U U<|QZ 23 U (λh=> ?_) (λh=> ?_)
    ·refine Qk U U (det h)<|Qg U KZ U<|Qk U U (det h)<|Qo U QL (c.cell 0 U U) U<|Qk U U (det h)<|WU U U U<|QF U (det h) U U<|Qb U U<|QZ 28 U (λi=> ?_) (λi=> ?_)
     ·refine Qk U U (det i)<|Qg U KZ U<|Qk U U (det i)<|Qo U QL (c.cell 0 U U) U<|Qk U U (det i)<|By U U U<|QF U (det i) U U<|Qb U U<|QZ 33 U (λj=> ?_) (λj=> ?_)
      ·refine Qk U U (det j)<|Qg U KY U<|Qk U U (det j)<|Qo U QL (c.cell 0 U U) U<|Qk U U (det j)<|WU U U U<|QF U (det j) U U<|Qb U U<|QZ 38 U (λk=> ?_) (λk=> ?_)
       ·refine Qk U U (det k)<|Qg U KY U<|Qk U U (det k)<|Qo U QL (c.cell 0 U U) U<|Qk U U (det k)<|By U U U<|QF U (det k) U U<|Qd U U<|Qf<|Qc<|Qh [2] U<|Qu<|QJ (.inr U) U U ?_;exact⟨_,rfl,_,rfl,(by unfold Y9;simp only[decide_eq_true_eq,Bool.false_eq_true,false_iff];omega),c.pick [1] U⟩
       refine Qi U U (QH k) U<|Qi U U (QH k) U<|Qi U U (QH k) U<|Q9 U (QH k) U U<|Qd U U<|Qf<|Qc<|Qh [2] U<|Qu<|QJ (.inr U) U U ?_;exact⟨_,rfl,_,rfl,(by unfold Y9;simp only[decide_eq_true_eq,Bool.false_eq_true,false_iff];omega),c.pick [1] U⟩
      refine Qi U U (QH j) U<|Qi U U (QH j) U<|Qi U U (QH j) U<|Q9 U (QH j) U U<|Qb U U<|Qi U U U U<|Qi U U U U<|Qi U U U U<|Q9 U U U U<|Qd U U<|Qf<|Qc<|Qh [2] U<|Qu<|QJ (.inr U) U U ?_;exact⟨_,rfl,_,rfl,(by unfold Y9;simp only[decide_eq_true_eq,Bool.false_eq_true,false_iff];omega),c.pick [1] U⟩
     refine Qi U U (QH i) U<|Qi U U (QH i) U<|Qi U U (QH i) U<|Q9 U (QH i) U U<|Qb U U<|Qi U U U U<|Qi U U U U<|Qi U U U U<|Q9 U U U U<|Qb U U<|Qi U U U U<|Qi U U U U<|Qi U U U U<|Q9 U U U U<|Qd U U<|Qf<|Qc<|Qh [2] U<|Qu<|QJ (.inr U) U U ?_;exact⟨_,rfl,_,rfl,(by unfold Y9;simp only[decide_eq_true_eq,Bool.false_eq_true,false_iff];omega),c.pick [1] U⟩
    refine Qi U U (QH h) U<|Qi U U (QH h) U<|Qi U U (QH h) U<|Q9 U (QH h) U U<|Qb U U<|Qi U U U U<|Qi U U U U<|Qi U U U U<|Q9 U U U U<|Qb U U<|Qi U U U U<|Qi U U U U<|Qi U U U U<|Q9 U U U U<|Qb U U<|Qi U U U U<|Qi U U U U<|Qi U U U U<|Q9 U U U U<|Qd U U<|Qf<|Qc<|Qh [2] U<|Qu<|QJ (.inr U) U U ?_;exact⟨_,rfl,_,rfl,(by unfold Y9;simp only[decide_eq_true_eq,Bool.false_eq_true,false_iff];omega),c.pick [1] U⟩
   refine Qi U U (QH g) U<|Qi U U (QH g) U<|Qi U U (QH g) U<|Q9 U (QH g) U U<|Qb U U<|Qi U U U U<|Qi U U U U<|Qi U U U U<|Q9 U U U U<|Qb U U<|Qi U U U U<|Qi U U U U<|Qi U U U U<|Q9 U U U U<|Qb U U<|Qi U U U U<|Qi U U U U<|Qi U U U U<|Q9 U U U U<|Qb U U<|Qi U U U U<|Qi U U U U<|Qi U U U U<|Q9 U U U U<|Qd U U<|Qf<|Qc<|Qh [2] U<|Qu<|QJ (.inr U) U U ?_;exact⟨_,rfl,_,rfl,(by unfold Y9;simp only[decide_eq_true_eq,Bool.false_eq_true,false_iff];omega),c.pick [1] U⟩
  refine Qi U U (QH f) U<|Qi U U (QH f) U<|Qi U U (QH f) U<|Q9 U (QH f) U U<|Qb U U<|Qi U U U U<|Qi U U U U<|Qi U U U U<|Q9 U U U U<|Qb U U<|Qi U U U U<|Qi U U U U<|Qi U U U U<|Q9 U U U U<|Qb U U<|Qi U U U U<|Qi U U U U<|Qi U U U U<|Q9 U U U U<|Qb U U<|Qi U U U U<|Qi U U U U<|Qi U U U U<|Q9 U U U U<|Qb U U<|Qi U U U U<|Qi U U U U<|Qi U U U U<|Q9 U U U U<|Qd U U<|Qf<|Qc<|Qh [2] U<|Qu<|QJ (.inr U) U U ?_;exact⟨_,rfl,_,rfl,(by unfold Y9;simp only[decide_eq_true_eq,Bool.false_eq_true,false_iff];omega),c.pick [1] U⟩
 refine Qi U U (QH e) U<|Qi U U (QH e) U<|Qi U U (QH e) U<|Qi U U (QH e) U<|Q9 U (QH e) U U<|Qb U U<|Qi U U U U<|Qi U U U U<|Qi U U U U<|Q9 U U U U<|Qb U U<|Qi U U U U<|Qi U U U U<|Qi U U U U<|Q9 U U U U<|Qb U U<|Qi U U U U<|Qi U U U U<|Qi U U U U<|Q9 U U U U<|Qb U U<|Qi U U U U<|Qi U U U U<|Qi U U U U<|Q9 U U U U<|Qb U U<|Qi U U U U<|Qi U U U U<|Qi U U U U<|Q9 U U U U<|Qb U U<|Qi U U U U<|Qi U U U U<|Qi U U U U<|Q9 U U U U<|Qd U U<|Qf<|Qc<|Qh [2] U<|Qu<|QJ (.inr U) U U ?_;exact⟨_,rfl,_,rfl,(by unfold Y9;simp only[decide_eq_true_eq,Bool.false_eq_true,false_iff];omega),c.pick [1] U⟩
structure TkD where
  v:SlD
  l:List StD
def Ci:RowC TkD:=⟨λt=>[U5 t.v],1,by decide,λ_=>rfl,λ_=>rfl⟩
theorem Le {s:SlD} {ao:Option Addr} {n cap:Nat} (h:U5 s= .slice ao n cap):s=⟨ao,n,cap⟩:=by
  obtain⟨a,b,c⟩:=s;cases h;rfl
structure FewS (ls:List TkD) (ks:List Int):Prop where
  n:ls.length≤4
  k:ls.length≤ks.length
  t: ∀t∈ls,t.l.length≤10∧ ∀s∈t.l,Y9 s
  g: ∀i,i<ls.length→ ∃x,ks[i]? =some x∧0≤x∧x≤1099511627776
theorem Fi {F:Th} (r:Sat w [F]) {lv kv:Value} {ls:List TkD} {ks:List Int} (u:Ent F (RdL Ci lv ls)) (O: ∀t∈ls,Ent F (RdL FM (U5 t.v) t.l)) (M:Ent F (RdL inC kv ks)):
    Calls prog 7 #[lv,kv] w (Ret λv w'=> ∃b,v= .bool b/\(b=true->FewS ls ks)/\Sat w' [F]):=by
 obtain⟨ao,cap,rfl,N⟩:=(u.sat r 0 rfl).shape;obtain⟨aok,capk,rfl,P⟩:=(M.sat r 0 rfl).shape;refine Qn func7 U ntmps7 U ?_;refine Qe<|Qa<|Qd U U<|Qf<|Qc<|Qe<|Qe<|Qa<|Qb U U<|Xl underlying23 U U<|JJ U U U<|Qb U U<|QZ 10 U (λa=> ?_) (λa=> ?_)
 ·exact Qi U U (det a) U (Qi U U (det a) U (Qi U U (det a) U (Qi U U (det a) U (Qi U U (det a) U (QF U (det a) U U (Qf (Qc (Qh [1,0,4,16] U (Xm U (Qe (Qa (Qd U U (Qf (Qc (Qu (Qq (QJ (.inr U) U U (⟨_,rfl,_,rfl,λq=>(by cases q),r.pick [0] U⟩))))))))))))))))))
 refine Qk U U (QH a)<|Qb U U<|Qk U U (QH a)<|Xl underlying24 U U<|Qk U U (QH a)<|Qb U U<|Qk U U (QH a)<|Xl underlying23 U U<|Qk U U (QH a)<|Xa U U U<|Q9 U (QH a) U U<|Qf<|Qc<|Qh [1,0,4,16] U<|Qs U (λQ=> ?_) (λQ=> ?_)
 ·exact Qe (Qa (Qd U U (Qf (Qc (Qu (Qq (QJ (.inr U) U U (⟨_,rfl,_,rfl,λq=>(by cases q),r.pick [0] U⟩))))))))
 refine Qt<|Qc<|Qe<|Qe<|Qa<|Qd U U<|Qf<|Qc<|Qx<|QU (λK0 E0 W0=> ∃(i:Nat),K0=ls.length -i/\E0=[(0,.slice ao ls.length cap),(1,.slice aok ks.length capk),(5,intV (i:Int))]/\Sat W0 [F]/\(i<=ls.length)/\(∀j t,j<i->ls[j]? =some t->(t.l.length<=10/\ ∀s∈t.l,Y9 s)/\ ∃x,ks[j]? =some x/\0<=x/\x<=1099511627776)) (L0:=[(0,_),(1,_),(5,_)]) (ls.length -0) (VG U U U) ⟨0,rfl,rfl,r,by omega,λj t y=>absurd y (by omega)⟩ ?_;rintro _ _ X ⟨i,rfl,rfl,m,hi,o⟩;refine Qe<|Qe<|Qa<|Qb U U<|Qb U U<|Xl underlying23 U U<|Xa U U U<|Qf<|Qc<|Qs U (λR=> ?_) (λR=> ?_)
 ·obtain⟨⟨tv,tl⟩,p⟩: ∃t,ls[i]? =some t:=⟨_,XQ (by omega)⟩;obtain⟨b,off,rfl,_⟩:=(u.sat m 0 rfl).get p;have z:Ent F (RdL FM (U5 tv) tl):=O _ (List.mem_of_getElem? p);obtain⟨ao2,cap2,A,S⟩:=(z.sat m 0 rfl).shape;obtain rfl:=Le A;clear A;obtain⟨g,B⟩: ∃g,ks[i]? =some g:=⟨_,XQ (by omega)⟩;obtain⟨bk,offk,rfl,C⟩:=(M.sat m 0 rfl).get B;refine Qt<|Qc<|Qe<|Qx<|Qe<|Qe<|Qa<|Qb U U<|Qb U U<|Xt i U U (by first | rfl | omega) (by omega) Tw U ?_
  refine Qo U TV ((u.sat m 0 U).at_ p 0 (.slice ao2 tl.length cap2) U) U<|Xl underlying22 U U<|JJ U U U<|Qb U U<|QZ 29 U (λc=> ?_) (λc=> ?_)
  ·exact Qi U U (det c) U (Qi U U (det c) U (Qi U U (det c) U (Qi U U (det c) U (Qi U U (det c) U (QF U (det c) U U (Qb U U (Qi U U U U (Qi U U U U (Qi U U U U (Qi U U U U (Qi U U U U (QF U U U U (Qf (Qc (Qh [5,1,0,42] U (Xm U (Qe (Qa (Qd U U (Qf (Qc (Qu (Qq (Q1 (Qq (Qq (Q1 (Qq (QJ (.inr U) U U (⟨_,rfl,_,rfl,λq=>(by cases q),m.pick [0] U⟩))))))))))))))))))))))))))))))
  refine Qk U U (QH c)<|Qb U U<|Qk U U (QH c)<|Qb U U<|Qk U U (QH c)<|Xt i U U (by rfl) (by omega) WZ U ?_;refine Qk U U (QH c)<|Qo U QL (C 0 _ U) U<|Qk U U (QH c)<|Xa U U U<|Q9 U (QH c) U U<|Qb U U<|QZ 36 U (λd=> ?_) (λd=> ?_)
  ·exact Qi U U (det d) U (Qi U U (det d) U (Qi U U (det d) U (Qi U U (det d) U (Qi U U (det d) U (QF U (det d) U U (Qf (Qc (Qh [5,1,0,42] U (Xm U (Qe (Qa (Qd U U (Qf (Qc (Qu (Qq (Q1 (Qq (Qq (Q1 (Qq (QJ (.inr U) U U (⟨_,rfl,_,rfl,λq=>(by cases q),m.pick [0] U⟩)))))))))))))))))))))))
  refine Qk U U (QH d)<|Qb U U<|Qk U U (QH d)<|Qb U U<|Qk U U (QH d)<|Xt i U U (by rfl) (by omega) WZ U ?_;refine Qk U U (QH d)<|Qo U QL (C 0 _ U) U<|Qk U U (QH d)<|JJ U U U<|Q9 U (QH d) U U<|Qf<|Qc<|Qh [5,1,0,42] U<|Qs U (λT=> ?_) (λT=> ?_)
  ·exact Qe (Qa (Qd U U (Qf (Qc (Qu (Qq (Q1 (Qq (Qq (Q1 (Qq (QJ (.inr U) U U (⟨_,rfl,_,rfl,λq=>(by cases q),m.pick [0] U⟩)))))))))))))
  refine Qt<|Qc<|Qe<|Qa<|Qd U U<|Qf<|Qc<|Qx<|QU (λK0 E0 W0=> ∃(k:Nat),K0=tl.length -k/\E0=[(0,.slice (some ⟨b,off,none⟩) ls.length cap),(1,.slice (some ⟨bk,offk,none⟩) ks.length capk),(5,intV (i:Int)),(6,intV (k:Int))]/\Sat W0 [F]/\(k<=tl.length)/\(∀(j:Nat) s,j<k->tl[j]? =some s->Y9 s)) (L0:=[(0,_),(1,_),(5,_),(6,_)]) (tl.length -0) (Rs U U U U) ⟨0,rfl,rfl,m,by omega,λj t y=>absurd y (by omega)⟩ ?_;rintro _ _ Y ⟨k,rfl,rfl,D,Z,E⟩;refine Qe<|Qe<|Qa<|Qb U U<|Qb U U<|Qb U U<|Xt i U U (by first | rfl | omega) (by omega) Tw U ?_
  refine Qo U TV ((u.sat D 0 U).at_ p 0 (.slice ao2 tl.length cap2) U) U<|Xl underlying22 U U<|Xa U U U<|Qf<|Qc<|Qh [6,5,1,0,49] U<|Qs U (λV=> ?_) (λV=> ?_)
  ·obtain⟨s,I⟩: ∃s,tl[k]? =some s:=⟨_,XQ (by omega)⟩;obtain⟨b2,off2,rfl,J⟩:=(z.sat D 0 rfl).get I;refine Qt<|Qc<|Qe<|Qx<|Qe<|Qa<|Qb U U<|Qb U U<|Xt i U U (by first | rfl | omega) (by omega) Tw U ?_
   refine Qo U TV ((u.sat D 0 U).at_ p 0 (.slice (some ⟨b2,off2,none⟩) tl.length cap2) U) U<|Qb U U<|Xt k U U (by rfl) (by omega) Ak U ?_;refine Ha (vs:=So s) U Oi M6 J U<|Qw cal_27 U (fits_sp (D.sp [] U) s) U ?_;rintro _ W ⟨bf,rfl,G,n⟩;replace n:=n.jn U U;refine QX U U<|Qf<|Qc<|Qh [6,5,1,0,60] U<|QR U (λH=> ?_) (λH=> ?_)
   ·exact Qe (Qa (Qd U U (Qf (Qc (Qu (Q1 (Qq (Qq (Q1 (Q1 (Qq (Qq (Q1 (Qq (QJ (.inr U) U U (⟨_,rfl,_,rfl,λq=>(by cases q),n.pick [0] U⟩))))))))))))))))
   have K:Y9 s:=G.1 (by simpa using H);refine Qt<|Qm<|Qc<|Qa<|Qb U U<|QE U U (by omega) (by omega) U ?_;refine Qd U U<|Qf ?_;exact Q5 (L1:=[(0,_),(1,_),(5,_),(6,intV ((k+1:Nat):Int))]) (Rs U U U U) (k1:=tl.length -(k+1)) (by omega) ⟨k+1,rfl,rfl,n.pick [0] U,by omega,λj t y f=>by by_cases e:j=k;(subst e;rw[I]at f;cases f;exact K);exact E j t (by omega) f⟩
  refine QQ<|Qp<|Qp<|Qy<|Qm<|Qc<|Qa<|Qb U U<|QE U U (by omega) (by omega) U ?_;refine Qd U U<|Qf ?_;exact Q5 (L1:=[(0,_),(1,_),(5,intV ((i+1:Nat):Int))]) (VG rfl rfl rfl) (k1:=ls.length -(i+1)) (by omega) ⟨i+1,rfl,rfl,D.pick [0] rfl,by omega,λj t y L=>by by_cases e:j=i;(subst e;rw[p]at L;cases L;exact⟨⟨by show tl.length<=10;omega,λs I=>by obtain⟨q,f⟩:=List.mem_iff_getElem?.1 I;exact E q s (by have :=(Za f).1;dsimp only at this;omega) f⟩,g,B,by omega,by omega⟩);exact o j t (by omega) L⟩
 refine QQ<|Qp<|Qp<|Qy<|Qc<|Qe<|Qa<|Qd U U<|Qf<|Qc<|Qu<|QJ (.inr U) U U ?_;exact⟨_,rfl,_,rfl,λ_=>⟨by omega,by omega,λt h=>by obtain⟨q,f⟩:=List.mem_iff_getElem?.1 h;exact(o q t (by have :=(Za f).1;omega) f).1,λq f=>(o q _ (by omega) (XQ f)).2⟩,m.pick [0] rfl⟩
