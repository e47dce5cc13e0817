/- sheets: evict, get -/
import Derived.Test.YtifaibmhinlcfaaGreatDoorSh5
import Derived.Test.YtifaibmhinlcfaaGreatDoorOp4
import Derived.Test.YtifaibmhinlcfaaGreatDoorBit
set_option linter.unusedVariables false
set_option maxRecDepth 100000
set_option maxHeartbeats 1600000
namespace Go.Proofs.YtifaibmhinlcfaaGreatDoor
open Go.RowKit M Proofs.Tryz
variable {E:Int→Prop} {N k p:Nat} {S:SS} {w:World}
theorem Ll {F:Th} (o:Sat w [He p S,F]) (c:ShI E N S) (M:N<=80000000000) {f:Int} {b0:Bs} (q:Ws S.fr f=some b0):
    Calls prog 222 #[ptrV p 0,intV f] w (Ret λv w'=>(v= .bool false/\WG S.sl=S.sl.length/\Sat w' [He p S,F])\/(v= .bool true/\ ∃S',EvS E N f S S'/\Sat w' [He p S',F])):=by
 obtain⟨id,x,G,O,r,d,s,H⟩:=Ix c q;subst H;have I:=q;have t:x.pg.length=64:=(c.ent r).2.2.2.2.1;replace M:N<=90000000000:=by omega
 obtain⟨ba,bi,fp,sp,kp,ac,cc,at2,ct,o⟩:=Zn o;refine Qn func222 U ntmps222 U ?_;refine Qe<|Qa<|Qd U U<|Qf<|Qc<|Qe<|Qa<|Qb U U<|Qj U U<|Qg U Vs U<|Qo U YX (o.cell 0 U U) U<|Qb U U<|Xf (k:=f) 2 o keysInt underlying77 U U U Ul (u:=intV id) (gI_some G) U<|Qd U U<|Qf<|Qc<|Qe<|Qa<|Qb U U<|Qj U U<|Qg U Yg U<|Qo U Va (o.cell 0 U U) U<|Qb U U<|Qw PN U (BO (o.sp [4] U) f) U ?_;rintro _ Y ⟨rfl,J⟩;replace J:=J.jn U U;rw[I];dsimp only[Option.getD_some];refine Qd U U<|Qf<|Qc<|Qh [1,0,4,5,6] U<|Qe<|Qe ?_;have T:=Xe (J.pick [1,2,3,4,0,5,6,7,8] U);refine Qa<|Qb U U<|Qb U U<|Qb U U<|XF cal_238 U (OF (T.sp [0] U) c M r d) U ?_;rintro e Z ⟨_,rfl,(⟨rfl,g⟩ | ⟨fx,S1,rfl,y,h,z,A,g⟩)⟩
 ·refine⟨_,U, ?_⟩;replace g:=g.jn U U;refine QX U U<|Qf<|Qc<|QR U (λP=> ?_) (λP=> ?_)
  ·refine Qe ?_;obtain⟨ba,bi,fp,sp,kp,ac,cc,at2,ct,a⟩:=Zn (g.pick [0,1] rfl);refine Qa<|Qb U U<|Qj U U<|Qg U Uu U<|Qo U Dz (a.cell 0 U U) U<|Qb U U<|XF Ay U (Sl (a.sp [5] U) x.pg t) U ?_;rintro e w6 ⟨_,rfl,(⟨i,rfl,j⟩ | ⟨ks,K,rfl,j⟩)⟩
   ·refine⟨_,U, ?_⟩;replace j:=j.jn U U;clear a;refine Qb U U<|Qr U U U<|Qr U U U<|Qd U U<|Qd U U<|Qf<|Qc<|Qh [1,0,4,5,7,8] U<|Qe<|Qe<|Qa<|Qb U U<|QX U U<|Qf<|Qc<|QR U (λQ=> ?_) (λQ=> ?_)
    ·exact Qe (Qa (Qd U U (Qf (Qc (Qu (Qq (Qq (QJ (.inr U) U U (⟨_,U,.inl ⟨U,i,Xe (j.pick [1,2,3,4,5,0,6,7,8] U)⟩⟩)))))))))
    exact absurd Q (by simp)
   refine⟨_,U, ?_⟩;replace j:=j.jn U U;clear a;refine Qb U U<|Qr U U U<|Qr U U U<|Qd U U<|Qd U U<|Qf<|Qc<|Qh [1,0,4,5,7,8] U<|Qe<|Qe<|Qa<|Qb U U<|QX U U<|Qf<|Qc<|QR U (λR=> ?_) (λR=> ?_)
   ·exact absurd R (by simp)
   refine Qt<|Qc ?_;have D:=j.drew;refine Q7 [0,1,2,3,4,5,6,7,8,9,10,11,12,13,14] [14] Z9 (by kernel_rfl) ?_;refine Q3 U U U<|QP U U U<|QG U U U Zg<|Q0 U U U (Ql U ZZ (D.cell 1 U U))<|Q3 U U U<|Q3 U U U<|QP U U U<|QG U U U Zg<|Q0 U U U (Ql U ZZ (D.cell 1 U U))<|Q3 U U U<|Q0 U U U (X4 (k:=id) 2 D keysInt underlying74 U U U Zt (u:=(.agg #[intV x.refs,intV x.place,intV x.at_,strV (RY x)])) (JH r))<|Xi U U U (λ_=>(GS DT U U)) ?_;refine Q3 U U U<|Xi U U U (λ_=>(Wy U JO K6 Zt U)) ?_;refine QO U U U U U U ?_;have l:Value.agg #[intV x.refs,intV 3,intV (ks:Nat),strV []]=E3 ⟨x.refs,3,(ks:Nat),x.pg⟩:=rfl;refine QT (k:=id) (v:=Value.agg #[intV x.refs,intV 3,intV (ks:Nat),strV []]) 2 D keysInt underlying74 U U U U ?_;intro V b;dsimp only[List.set]at b;have B:=b;rw[l,R4]at B;refine Zc (Xd (by kernel_rfl)) ?_;refine VC.nil (Qc (Qh [1,0,4] U (Qe ?_)));have L:=Xe (S:={S with all:=up S.all id (some ⟨x.refs,3,(ks:Nat),x.pg⟩),sl:=S.sl.set ks x.pg}) (B.pick [1,2,3,4,5,0,6,7,8] U)
   refine Qa<|Qb U U<|Qb U U ?_;refine Qw PK U (B7 (L.sp [0] U) (f:=f) (b0:=x.pg) I (by show S.ck.length=S.fr.length;rw[c.ck,List.length_map]) (by show S.taken.length<=90000000000;have :=c.tln;omega)) U ?_;rintro _ W ⟨rfl,m⟩;replace m:=m.jn U U;exact Qf (Qc (Qe (Qa (Qd U U (Qf (Qc (Qu (QJ (.inr U) U U (⟨_,U,.inr ⟨U,_,LE c O r d s K,m.pick [0,1] U⟩⟩)))))))))
  exact absurd P (by simp)
 refine⟨_,U, ?_⟩;replace g:=g.jn U U;refine QX U U<|Qf<|Qc<|QR U (λC=> ?_) (λC=> ?_)
 ·exact absurd C (by simp)
 refine Qt<|Qc<|Qe<|Qa<|Qb U U<|Qb U U ?_;refine Qw PK U (B7 (g.sp [0] U) (f:=f) (b0:=x.pg) (by show Ws S1.fr f=_;rw[z.fr];exact I) (by show S1.ck.length=S1.fr.length;rw[h.ck,List.length_map]) (by show S1.taken.length<=90000000000;have :=h.tln;omega)) U ?_;rintro _ X ⟨rfl,n⟩;replace n:=n.jn U U;refine Qf<|Qc<|Qh [4] U<|Qe<|Qa<|Qd U U<|Qf<|Qc<|Qu<|QJ (.inr U) U U ?_;exact⟨_,rfl,.inr ⟨rfl,_,LF c h z O r d s (by rw[y];simp) (by rw[show fm x.pg=fx by unfold fm;rw[y];rfl];exact A),n.pick [0,1] U⟩⟩
noncomputable def SV (S:SS) (k:Nat):SS:={S with fr:=S.fr.set k (some (PW [])),ck:=S.ck.set k true}
structure GetS (E:Int→Prop) (T:Nat) (k:Nat) (S S':SS):Prop where
  inv:ShI E T S'
  go:ShG S S'
  fr:S'.fr[k]? =some none
  lim: ∀j x,S.all j=some x→E j→S'.all j=some x
theorem get_now {T:Nat} (h:ShI E T S) (a:S.fr[k]? =some none):GetS E (T+1) k S S:=⟨h.mono (by omega),ShG.refl S,a,λ_ _ h _=>h⟩
theorem get_ev {T:Nat} {S':SS} {f:Int} (h:EvS E T f S S') (a:S'.fr[k]? =some none):GetS E (T+1) k S S':=⟨h.inv,h.go,a,h.lim⟩
theorem ck_has {T:Nat} (h:ShI E T S) (a:S.ck[k]? =some true): ∃b,Ws S.fr (k:Nat)=some b:=by
  rw[h.ck,List.getElem?_map]at a;obtain⟨o,c,d⟩:=Option.map_eq_some_iff.1 a;obtain⟨b,rfl⟩:=Option.isSome_iff_exists.1 d;refine⟨b, ?_⟩;unfold Ws;rw[if_pos (by omega)];simp [c]
theorem ck_some {T:Nat} (h:ShI E T S) (a: ∀o∈S.fr,o≠none) (c: ∀x∈S.ck,x=false):False:=by
  have i:=h.fr1;obtain⟨o,d⟩: ∃o,S.fr[0]? =some o:=⟨_,XQ (by omega)⟩;have e:=a o (List.mem_of_getElem? d);have f:S.ck[0]? =some o.isSome:=by rw[h.ck,List.getElem?_map,d];rfl
  have g:=c _ (List.mem_of_getElem? f);cases o with
  | none=> exact e rfl
  | some b=> cases g
theorem Kd {F:Th} (x:Sat w [He p S,F]) (n:ShI E N S) (I:N<=80000000000):
    Calls prog 193 #[ptrV p 0] w (Ret λv w'=>(v= .tuple #[intV 0,.bool false]/\(∀o∈S.fr,o≠none)/\WG S.sl=S.sl.length/\Sat w' [He p S,F])\/(∃k S1,v= .tuple #[intV (k:Nat),.bool true]/\GetS E (N+1) k S S1/\Sat w' [He p (SV S1 k),F])):=by
 obtain⟨ba,bi,fp,sp,kp,ac,cc,at2,ct,x⟩:=Zn x;refine Qn func193 U ntmps193 U ?_;refine Qe<|Qa<|Qd U U<|Qd U U<|Qf<|Qc<|Qe<|Qa<|Qb U U<|Qj U U<|Qg U Yg U<|Qo U Va (x.cell 0 U U) U<|XF A6 U (Ti (x.sp [4] U)) U ?_;rintro e O ⟨_,rfl,(⟨rfl,a,d⟩ | ⟨k,q,rfl,d⟩)⟩
 ·refine⟨_,U, ?_⟩;replace d:=d.jn U U;refine Qb U U<|Qr U U U<|Qr U U U<|Qd U U<|Qd U U<|Qf<|Qc<|Qh [0,2,3,4,5] U<|Qe<|Qe<|Qa<|Qb U U<|QX U U<|Qf<|Qc<|QR U (λD=> ?_) (λD=> ?_)
  ·refine Qe<|Qa<|Qb U U<|Qj U U<|Qg U DW U<|Qo U Oh (d.cell 1 U U) U<|XF cal_221 U (IU (d.sp [6] U)) U ?_;rintro e P ⟨_,rfl,(⟨kv,z,rfl,y⟩ | ⟨A,rfl,y⟩)⟩
   ·refine⟨_,U, ?_⟩;replace y:=y.jn U U;refine Qb U U<|Qr U U U<|Qr U U U<|Qd U U<|Qd U U<|Qf<|Qc<|Qh [0,2,3,4,5,6,7] U<|Qe<|Qe<|Qa<|Qb U U<|QX U U<|Qb U U<|X9 28 U (λf=> ?_) (λf=> ?_)
    ·exact absurd f (by simp)
    refine Qk U U f<|Qb U U<|Qk U U f<|Qb U U<|Qk U U f ?_;have J:=Xe (y.pick [2,3,4,5,1,6,0,7,8] U);obtain⟨bk,r⟩:=ck_has n z;refine XF cal_222 U (Ll (J.sp [0] U) n I r) U ?_;rintro e Q ⟨_,rfl,(⟨rfl,i,j⟩ | ⟨rfl,S2,l,j⟩)⟩
    ·refine⟨_,U, ?_⟩;replace j:=j.jn U U;refine Qk U U f<|QX U U<|Q9 U f U U<|Qf<|Qc<|Qh [0,2,3,4,5,33] U<|QR U (λG=> ?_) (λG=> ?_)
     ·exact Qe (Qa (Qd U U (Qd U U (Qf (Qc (Qu (Qq (Qq (Jt (.inr U) U U U (⟨_,U,.inl ⟨U,a,i,j.pick [0,1] U⟩⟩))))))))))
     exact absurd G (by simp)
    refine⟨_,U, ?_⟩;replace j:=j.jn U U;refine Qk U U f<|QX U U<|Q9 U f U U<|Qf<|Qc<|Qh [0,2,3,4,5,33] U<|QR U (λH=> ?_) (λH=> ?_)
    ·exact absurd H (by simp)
    refine Qt<|Qc ?_;obtain⟨ba,bi,fp,sp,kp,ac,cc,at2,ct,b⟩:=Zn (j.pick [0,1] rfl);refine Qa<|Qb U U<|Qj U U<|Qg U Yg U<|Qo U Va (b.cell 0 U U) U<|XF A6 U (Ti (b.sp [4] U)) U ?_;rintro e K ⟨_,rfl,(⟨rfl,m,c⟩ | ⟨k,q,rfl,c⟩)⟩
    ·exact absurd U (m none (by rw[l.fr];exact List.mem_of_getElem? (List.getElem?_set_self (by have :=(DU r).2;omega))))
    refine⟨_,U, ?_⟩;replace c:=c.jn U U;clear b;refine Qb U U<|Qr U U U<|Qr U U U<|Qd U U<|Qd U U<|Qf<|Qc<|Qh [0,2,3,4,5] U<|Qe<|Qe<|Qa<|Qb U U<|Qf<|Qc<|QR U (λs=> ?_) (λs=> ?_)
    ·refine Qa<|Qb U U<|Qj U U<|Qg U DW U<|Qo U Oh (c.cell 1 U U) U<|Qb U U ?_;have B:k<S2.fr.length:=(Za q).1;have C:S2.ck.length=S2.fr.length:=by rw[(l.inv).ck,List.length_map]
     refine Qw Az U (qe7 (c.sp [6] U) (k:Int) (by omega) 0) U ?_;rintro _ L ⟨rfl,g⟩;replace g:=g.jn U U;simp only[Int.toNat_natCast]at g;exact Qf (Qc (Qh [2,3,4,5] U (Qe (Qa (Qb U U (Qb U U (Qd U U (Qd U U (Qf (Qc (Qu (Jt (.inr U) U U U (⟨_,U,.inr ⟨k,S2,U,get_ev l q,Xe (S:=SV S2 k) (g.pick [2,3,4,5,1,6,0,7,8] U)⟩⟩)))))))))))))
    exact absurd s (by simp)
   exact(ck_some n a A).elim
  exact absurd D (by simp)
 refine⟨_,U, ?_⟩;replace d:=d.jn U U;refine Qb U U<|Qr U U U<|Qr U U U<|Qd U U<|Qd U U<|Qf<|Qc<|Qh [0,2,3,4,5] U<|Qe<|Qe<|Qa<|Qb U U<|QX U U<|Qf<|Qc<|QR U (λt=> ?_) (λt=> ?_)
 ·exact absurd t (by simp)
 refine Qt<|Qc<|Qe<|Qe<|Qa<|Qb U U<|Qf<|Qc<|QR U (λu=> ?_) (λu=> ?_)
 ·refine Qa<|Qb U U<|Qj U U<|Qg U DW U<|Qo U Oh (d.cell 1 U U) U<|Qb U U ?_;have B:k<S.fr.length:=(Za q).1;have C:S.ck.length=S.fr.length:=by rw[(n).ck,List.length_map]
  refine Qw Az U (qe7 (d.sp [6] U) (k:Int) (by omega) 0) U ?_;rintro _ M ⟨rfl,h⟩;replace h:=h.jn U U;simp only[Int.toNat_natCast]at h;exact Qf (Qc (Qh [2,3,4,5] U (Qe (Qa (Qb U U (Qb U U (Qd U U (Qd U U (Qf (Qc (Qu (Jt (.inr U) U U U (⟨_,U,.inr ⟨k,S,U,get_now n q,Xe (S:=SV S k) (h.pick [2,3,4,5,1,6,0,7,8] U)⟩⟩)))))))))))))
 exact absurd u (by simp)
end Go.Proofs.YtifaibmhinlcfaaGreatDoor
namespace Go.Proofs.YtifaibmhinlcfaaGreatDoor.M
open Go.RowKit Proofs.Tryz
variable {b m:Nat} {et kt mt:TypeId} {g:Bool} {u z:Value} {x y:Operand}
section
variable {P:Program} {n:Nat} {ops:Array Oper} {Q:Exit→Act→World→Prop} {rest:List Oper} {L:Env} {w:World} {d:Nat} {ty:TypeId} {pos:String} {aft:Array Edge} {κ:Type} {kv:κ→Value} {As:List Th}
theorem Z3 {f:κ->Option Value} {k:κ} (i:Nat) (s:Sat w As) (K:KeyOk P kt kv) (p:P.underlying mt=some (.map kt et)) (hi:As[i]? =some (Q4 kv b f)) (t:look L x=some (.map (some b))) (v:look L y=some (kv k)) (A:XE P et=some (some z)) (B:(f k).getD z=u) (C:(f k).isSome=g):Ev P L w ⟨some d,.lookup mt x y true,ty,pos,aft,none⟩ (.tuple #[u,.bool g]):= λρ q=>by
  subst B;subst C;obtain⟨es,c,h,r⟩:=s.map i hi;have a:=q _ _ t;have l:=q _ _ v;rcases K.find k es.toList w h.keys with⟨j,e,m,D,n⟩ | ⟨m,n⟩
  · have :(f k)=some e.val:=(r k e.val).2 ⟨e,List.mem_of_getElem? m,D,rfl⟩;simp [execOp,a,l,Instr.lookup,run_underlying p,MapKept.run_getObj_map h.blk,K.check,n,this]
  · have :f k=none:=by
      cases E:f k with
      | none=>rfl
      | some u=> obtain⟨e,F,o,_⟩:=(r k u).1 E;exact absurd o (m e F)
    simp [execOp,a,l,Instr.lookup,run_underlying p,MapKept.run_getObj_map h.blk,K.check,n,this,Jq A]
theorem Xn {f:κ->Option Value} {k:κ} (i:Nat) (a:Sat w As) (K:KeyOk P kt kv) (c:P.underlying mt=some (.map kt et)) (hi:As[i]? =some (Q4 kv b f)) (e:look L x=some (.map (some b))) (h:look L y=some (kv k)) (j:XE P et=some (some z)) (l:(f k).getD z=u) (m:(f k).isSome=g) (hd:Nat.blt d n=true)
    (o:wl P n ops Q rest ((d,.tuple #[u,.bool g])::L) w):wl P n ops Q (⟨some d,.lookup mt x y true,ty,pos,aft,none⟩::rest) L w:=Xp hd (Z3 i a K c hi e h j l m) o
theorem Card.sub {f g:κ->Option Value} (h:Card f m) (i:Card g m) (e: ∀k v,f k=some v->g k=some v):f=g:=by
  obtain⟨ks,j,p,d⟩:=h;obtain⟨js,g1,g2,g3⟩:=i
  have l: ∀x∈ks,x∈js:= λx b=>(g3 x).1 λq=>by
    cases a:f x with
    | none=> exact((d x).2 b) a
    | some v=> rw[e x v a]at q;cases q
  have s2: ∀x∈js,x∈ks:= λx b=>Classical.byContradiction λn=>by
    have :=List.Nodup.length_le_of_subset (l₂:=js) (List.nodup_cons.2 ⟨n,j⟩) (by
      intro y c;rcases List.mem_cons.1 c with rfl | c
      · exact b
      · exact l y c)
    simp at this;omega
  funext k;cases a:f k with
  | some v=> exact(e k v a).symm
  | none=>
    cases o:g k with
    | none=>rfl
    | some v=> exact absurd a ((d k).2 (s2 k ((g3 k).1 (by rw[o];simp))))
theorem Card.uniq {f:κ->Option Value} {q:Nat} (h:Card f m) (a:Card f q):m=q:=h.same a λ_=>Iff.rfl
end
end Go.Proofs.YtifaibmhinlcfaaGreatDoor.M
namespace Go.Proofs.YtifaibmhinlcfaaGreatDoor
open Go.RowKit M Proofs.Tryz
variable {N k p:Nat} {S S' S1:SS} {id j nx r:Int} {w:World} {x:ShE}
def vw (S:SS):Int->Option (Int×Bs):= λj=>(S.all j).map λx=>(x.refs,x.pg)
structure ShF (S S':SS):Prop where
  tk: ∃L,S'.taken=S.taken++L∧ ∀j x,S.all j=some x→x.place=1→x.at_∈L∨ ∃y,S'.all j=some y∧y.place=1∧y.at_=x.at_
  bud:S'.budget=S.budget
  slo:S'.slots=S.slots
  frn:S'.fr.length=S.fr.length
theorem ShF.refl (S:SS):ShF S S:=⟨⟨[],by simp,λj x a b=> .inr ⟨x,a,b,rfl⟩⟩,rfl,rfl,rfl⟩
theorem ShG.f (h:ShG S S'):ShF S S':=⟨h.tk,h.bud,h.slo,h.frn⟩
theorem ShG.vw (h:ShG S S'):vw S'=vw S:=funext h.same
noncomputable def onF (S:SS) (j:Int) (k:Nat) (r:Int) (pg:Bs) (nx:Int):SS:={S with all:=up S.all j (some ⟨r,1,(k:Nat),pg⟩),inn:=up S.inn (k:Nat) (some j),fr:=S.fr.set k (some pg),ck:=S.ck.set k true,next:=nx}
theorem qa0 {A:Int->Option ShE} (a:A=up S.all j (some x)):(λi=>(A i).map λx=>(x.refs,x.pg))=up (vw S) j (some (x.refs,x.pg)):=by
  subst a;funext i;by_cases q:i=j
  · subst q;rw[Zf,Zf];rfl
  · rw[Zq q,Zq q];rfl
theorem vw_onF {pg:Bs} :vw (onF S j k r pg nx)=up (vw S) j (some (r,pg)):=qa0 U
theorem ShF.on {pg:Bs} (h:ShG S S1) (d: ∀x,S.all j=some x->x.place≠1):ShF S (onF S1 j k r pg nx):=by
  obtain⟨L,e,f⟩:=h.tk;refine⟨⟨L,e,λi x b c=> ?_⟩,h.bud,h.slo,by show(S1.fr.set _ _).length=_;rw[List.length_set];exact h.frn⟩;have q:i≠j:= λq=>d x (q▸b) c;rcases f i x b c with a | ⟨y,a,g,l⟩
  · exact .inl a
  · exact .inr ⟨y,by show up S1.all j _ i=_;rw[Zq q];exact a,g,l⟩
structure NewS (T:Nat) (S S':SS) (id:Int) (pg:Bs):Prop where
  inv:ShI Gj (T+1) S'
  f:ShF S S'
  was:S.all id=none
  pos:1≤id
  is:vw S'=up (vw S) id (some (1,pg))
  at_: ∃x,S'.all id=some x∧x.place=1
  nxt:S'.next=max S.next (id+1)
theorem new_of {T:Nat} {pg:Bs} (h:ShI Gj T S) (c:GetS (one id) (T+1) k S S1) (d:S.all id=none) (e:1<=id) (m:id+1<=1099511627777+(T+1)) (g:pg.length=64):NewS T S (onF S1 id k 1 pg (max S1.next (id+1))) id pg:=by
  have l:=c.inv.onFrame (j:=id) (nx:=max S1.next (id+1)) (r:=1) (pg:=pg) U c.fr e (by omega) (by have :=c.inv.nx2;omega) (by omega) (by omega) g;refine⟨l.congr λi _=>⟨λ⟨a,b⟩=>b a,False.elim⟩,ShF.on c.go (λx f=>by rw[d]at f;cases f),d,e, ?_,⟨_,Zf,rfl⟩,by show max S1.next _=_;rw[c.go.nxt]⟩;rw[vw_onF,c.go.vw]
theorem one_of {T:Nat} (h:ShI Gj T S) (a:S.all id=none):ShI (one id) T S:=h.congr λj b=>⟨False.elim,λq=>b (by rw[show j=id from q];exact a)⟩
theorem E6 {T:Nat} (h:ShI Gj T S) (b:S.all id=some x) (d:1<=r/\r<=T+2):ShI Gj (T+1) {S with all:=up S.all id (some {x with refs:=r})}/\ShF S {S with all:=up S.all id (some {x with refs:=r})}/\vw {S with all:=up S.all id (some {x with refs:=r})}=up (vw S) id (some (r,x.pg)):=by
  refine⟨(h.mono (by omega:T<=T+1)).refs b (by omega),⟨⟨[],by simp,λj y a c=> .inr ?_⟩,rfl,rfl,rfl⟩,qa0 U⟩;by_cases q:j=id
  · subst q;rw[b]at a;cases a;exact⟨_,Zf,c,rfl⟩
  · exact⟨y,by show up S.all id _ j=_;rw[Zq q];exact a,c,rfl⟩
theorem Kq {fl:List (Option Bs)} {z pg:Bs} (a:k<fl.length):Km (fl.set k (some z)) (k:Int) pg=fl.set k (some pg):=by
  have h:Ws (fl.set k (some z)) (k:Int)=some z:=by unfold Ws;rw[if_pos (by omega),Int.toNat_natCast,List.getElem?_set_self a]
  rw[Tj h,Int.toNat_natCast,List.set_set]
theorem qbv {F:Th} (C:Sat w [He p S,F]) (u:ShI Gj N S) (D:N<=80000000000) {page:Bs} (Zl:S.all id=none) (G:1<=id) (n:id+1<=1099511627777+(N+1)) (h:page.length=64):
    Calls prog 185 #[ptrV p 0,intV id,strV page] w (Ret λv w'=>(v=intV 6/\(∀o∈S.fr,o≠none)/\WG S.sl=S.sl.length/\Sat w' [He p S,F])\/(v=intV 0/\ ∃S',NewS N S S' id page/\Sat w' [He p S',F])):=by
 refine Qn func185 U ntmps185 U ?_;refine Qe<|Qa<|Qd U U<|Qf<|Qc<|Qe<|Qa<|Qb U U<|XF GZ U (Kd (C.sp [0] U) (E:=one id) (one_of u Zl) D) U ?_;rintro e J ⟨_,rfl,(⟨rfl,j,d,f⟩ | ⟨k,S1,rfl,x,f⟩)⟩
 ·refine⟨_,U, ?_⟩;replace f:=f.jn U U;refine Qb U U<|Qr U U U<|Qr U U U<|Qd U U<|Qd U U<|Qf<|Qc<|Qh [2,1,0,6,7,8] U<|Qe<|Qe<|Qa<|Qb U U<|QX U U<|Qf<|Qc<|QR U (λn=> ?_) (λn=> ?_)
  ·exact Qe (Qa (Qd U U (Qf (Qc (Qu (Qq (QJ (.inr U) U U (⟨_,U,.inl ⟨U,j,d,f.pick [0,1] U⟩⟩))))))))
  exact absurd n (by simp)
 refine⟨_,U, ?_⟩;replace f:=f.jn U U;refine Qb U U<|Qr U U U<|Qr U U U<|Qd U U<|Qd U U<|Qf<|Qc<|Qh [2,1,0,6,7,8] U<|Qe<|Qe<|Qa<|Qb U U<|QX U U<|Qf<|Qc<|QR U (λy=> ?_) (λy=> ?_)
 ·exact absurd y (by simp)
 refine Qt<|Qc<|Qe ?_;obtain⟨ba,bi,fp,sp,kp,ac,cc,at2,ct,a⟩:=Zn (f.pick [0,1] rfl);refine Qa<|Qb U U<|Qj U U<|Qg U Yg U<|Qo U Va (a.cell 0 U U) U<|Qb U U<|Qb U U ?_;have r:k<S1.fr.length:=(Za x.fr).1;have s:Km (SV S1 k).fr (k:Int) (page)=S1.fr.set k (some (page)):=Kq r;refine Qw GY U (UJ (a.sp [4] U) (k:Int) (page) h) U ?_;rintro _ K ⟨_,rfl,q⟩;replace q:=q.jn U U;clear a;rw[s]at q;refine Qf<|Qc<|Qh [1,0,6,7] U<|Qe ?_;have t:=q.drew;refine Q7 [0,1,2,3,4,5,6,7,8,9,10,11,12,13,14,15,16,17,18] [13,15,16,18] Z9 (by kernel_rfl) ?_;refine Q3 U U U<|QP U U U<|QG U U U Zg<|Q0 U U U (Ql U ZZ (t.cell 1 U U))<|Q3 U U U<|Q3 U U U<|QP U U U<|QG U U U Vs<|Q0 U U U (Ql U YX (t.cell 1 U U))<|Q3 U U U<|Q3 U U U<|Xi U U U (λ_=>(Wy U JO K6 Zt U)) ?_;refine Q3 U U U<|QO U U U U U U ?_;refine Wl (k:=id) 2 t keysInt underlying74 U U U Zt U ?_;intro L M O z;dsimp only[List.set]at z;refine Xh (Xd (by kernel_rfl)) ?_;refine ZX U U U U<|QO U U U U U U ?_;have l:Value.agg #[intV 1,intV 1,intV (k:Nat),strV []]=E3 ⟨1,1,(k:Nat),page⟩:=rfl;refine ZE (v:=Value.agg #[intV 1,intV 1,intV (k:Nat),strV []]) 2 z keysInt U U U U ?_;intro P c;dsimp only[List.set]at c;have A:=c;rw[l,R4]at A;refine Zc (Xd (by kernel_rfl)) ?_;refine QO U U U U U U ?_;refine Wl (k:=(k:Int)) 3 A keysInt underlying77 U U U Ul U ?_;intro Q R T B;dsimp only[List.set]at B;refine Xh (Xd (by kernel_rfl)) ?_;refine ZX U U U U<|QO U U U U U U ?_;refine ZE (v:=intV id) 3 B keysInt U U U U ?_;intro H b;dsimp only[List.set]at b;have g:=b;rw[GC]at g;refine Zc (Xd (by kernel_rfl)) ?_;refine VC.nil (Qc (Qh [1,0,6] U (Qe (Qa (Qb U U (Qb U U (Qj U U (Qg U Pp U (Qo U QL (g.cell 1 U U) U (Qb U U (QE U U (by omega) (by omega) U ?_)))))))))));refine Jn U U U<|Qj U U<|Qg U Pp U ?_
 first | (refine QK g U U YD (by rfl) (i:=1) U (Xk U) ?_)
 intro I m;dsimp only[List.set]at m;exact Qf (Qc (Qh [6] U (Qe (Qa (Qd U U (Qf (Qc (Qu (QJ (.inr U) U U (⟨_,U,.inr ⟨U,_,new_of u x Zl G n h,Xe (S:=onF S1 id k 1 page (max S1.next (id+1))) (m.pick [1,2,3,4,0,5,6,7,8] U)⟩⟩))))))))))
theorem MD {F:Th} (l:Sat w [He p S,F]) (g:ShI Gj N S) (m:N<=80000000000) {page:Bs} (d:page.length=64):
    Calls prog 133 #[ptrV p 0,strV page] w (Ret λv w'=>(v= .tuple #[intV 0,intV 6]/\(∀o∈S.fr,o≠none)/\WG S.sl=S.sl.length/\Sat w' [He p S,F])\/(v= .tuple #[intV S.next,intV 0]/\ ∃S',NewS N S S' S.next page/\Sat w' [He p S',F])):=by
 have h:S.all S.next=none:=by cases n:S.all S.next with | none=>rfl | some x=>(have :=(g.ent n).2.1;omega)
 refine Qn func133 U ntmps133 U ?_;refine Qe<|Qa<|Qd U U<|Qd U U<|Qf<|Qc<|Qe<|Qe<|Qa<|Qb U U<|WD underlying9 U U<|Xz U U U<|Qf<|Qc<|Qs U (λi=> ?_) (λi=> ?_)
 ·exact absurd i (by rw[d];decide)
 refine Qt<|Qc<|Qe ?_;obtain⟨ba,bi,fp,sp,kp,ac,cc,at2,ct,a⟩:=Zn (l.pick [0,1] rfl);refine Qa<|Qb U U<|Qj U U<|Qg U Pp U<|Qo U QL (a.cell 0 U U) U<|Qd U U<|Qf ?_;have q:=Xe (a.pick [0,1,2,3,4,5,6,7,8] U);refine Qc<|Qh [1,0,4,5,6] U<|Qe<|Qe<|Qa<|Qb U U<|Qb U U<|Qb U U ?_;refine XF cal_185 U (qbv (q.sp [0] U) g m (id:=S.next) (page:=page) h g.nx1 (by have :=g.nx2;omega) d) U ?_;rintro e s ⟨_,rfl,(⟨rfl,f,b,c⟩ | ⟨rfl,S2,r,c⟩)⟩
 ·refine⟨_,U, ?_⟩;replace c:=c.jn U U;refine Qd U U<|Qf<|Qc<|Qe<|Qa<|Qb U U<|Xz U U U<|Qf<|Qc<|Qh [4,5,6,7,20] U<|Qs U (λj=> ?_) (λj=> ?_)
  ·exact Qe (Qa (Qb U U (Qd U U (Qd U U (Qf (Qc (Qu (Qq (Jt (.inr U) U U U (⟨_,U,.inl ⟨U,f,b,c.pick [0,1] U⟩⟩))))))))))
  exact absurd (by decide) j
 refine⟨_,U, ?_⟩;replace c:=c.jn U U;refine Qd U U<|Qf<|Qc<|Qe<|Qa<|Qb U U<|Xz U U U<|Qf<|Qc<|Qh [4,5,6,7,20] U<|Qs U (λk=> ?_) (λk=> ?_)
 ·exact absurd k (by simp)
 exact Qt (Qc (Qe (Qa (Qb U U (Qd U U (Qd U U (Qf (Qc (Qu (Jt (.inr U) U U U (⟨_,U,.inr ⟨U,_,r,c.pick [0,1] U⟩⟩)))))))))))
def zer:Bs:=[0,0,0,0,0,0,0,0,0,0,0,0,0,0,0,0,0,0,0,0,0,0,0,0,0,0,0,0,0,0,0,0,0,0,0,0,0,0,0,0,0,0,0,0,0,0,0,0,0,0,0,0,0,0,0,0,0,0,0,0,0,0,0,0]
theorem OG {F:Th} (h:Sat w [He p S,F]) (i:ShI Gj N S) (j:N<=80000000000) {page:Bs} (f:page.length=64):
    Calls prog 150 #[ptrV p 0,strV page] w (Ret λv w'=>(page=zer/\v= .tuple #[intV 0,intV 0]/\Sat w' [He p S,F])\/(page≠zer/\((v= .tuple #[intV 0,intV 6]/\(∀o∈S.fr,o≠none)/\WG S.sl=S.sl.length/\Sat w' [He p S,F])\/(v= .tuple #[intV S.next,intV 0]/\ ∃S',NewS N S S' S.next page/\Sat w' [He p S',F])))):=by
 refine Qn func150 U ntmps150 U ?_;refine Qe<|Qa<|Qd U U<|Qd U U<|Qf<|Qc<|Qe<|Qe<|Qa<|Qb U U<|YB U U U<|Qf<|Qc<|Qs U (λg=> ?_) (λg=> ?_)
 ·have d:page=zer:=g;exact Qe (Qa (Qd U U (Qd U U (Qf (Qc (Qu (Qq (Jt (.inr U) U U U (⟨_,U,.inl ⟨d,U,h.pick [0,1] U⟩⟩)))))))))
 have d:page≠zer:=g;refine Qt<|Qc<|Qe<|Qa<|Qb U U<|Qb U U<|XF Bc U (MD (h.sp [0] U) i j f) U ?_;rintro e w2 ⟨_,rfl,(⟨rfl,c,a,b⟩ | ⟨rfl,S2,k,b⟩)⟩
 ·refine⟨_,U, ?_⟩;replace b:=b.jn U U;exact Qr U U U (Qr U U U (Qd U U (Qd U U (Qf (Qc (Qh [4,5] U (Qu (Jt (.inr U) U U U (⟨_,U,.inr ⟨d,.inl ⟨U,c,a,b.pick [0,1] U⟩⟩⟩)))))))))
 refine⟨_,U, ?_⟩;replace b:=b.jn U U;exact Qr U U U (Qr U U U (Qd U U (Qd U U (Qf (Qc (Qh [4,5] U (Qu (Jt (.inr U) U U U (⟨_,U,.inr ⟨d,.inr ⟨U,_,k,b.pick [0,1] U⟩⟩⟩)))))))))
theorem qbt {F:Th} (b:Sat w [He p S,F]) (n:ShI Gj N S) (r:N<=80000000000) (id:Int):
    Calls prog 156 #[ptrV p 0,intV id] w (Ret λv w'=>(match S.all id with | none=>v=(if id=0 then intV 0 else intV 4)/\Sat w' [He p S,F] | some x=>v=intV 0/\Sat w' [He p {S with all:=up S.all id (some {x with refs:=x.refs+1})},F])):=by
 obtain⟨ba,bi,fp,sp,kp,ac,cc,at2,ct,b⟩:=Zn b;cases Zl:S.all id with
 | none=>
  dsimp only;refine Qn func156 U ntmps156 U ?_;refine Qe<|Qa<|Qd U U<|Qf<|Qc<|Qe<|Qa<|Qb U U<|Qj U U<|Qg U Zg U<|Qo U ZZ (b.cell 0 U U) U<|Qb U U<|Xn (k:=id) 1 b keysInt underlying74 U U U Zt (u:=(.agg #[intV 0,intV 0,intV 0,strV []])) (g:=false) (HF Zl) (Hs Zl) U<|Qb U U<|Qr U U U<|Qr U U U<|Xc b Zt U U ?_;intro b1 o f
  (refine QW f U U HV U (by rfl) (i:=0) U (by decide) ?_)
  intro w2 d;dsimp only[List.set]at d;refine Qd U U<|Qf<|Qc<|Qh [1,0,4,5,6] U<|Qe<|Qe<|Qa<|Qb U U<|QX U U<|Qb U U<|X9 18 U (λa=> ?_) (λa=> ?_)
  ·refine Qk U U a<|Qb U U<|Qk U U a<|Xz U U U<|QF U a U U<|Qf<|Qc<|Qh [1,0,4,5,6,21] U<|Qs U (λe=> ?_) (λe=> ?_)
   ·exact Qe (Qa (Qd U U (Qf (Qc (Qu (Qq (QJ (.inr U) U U (⟨_,rfl,by rw[if_neg (by omega)],Xe (d.pick [1,2,3,4,5,6,7,8,9] U)⟩))))))))
   refine Qt<|Qc<|Qe<|Qe<|Qa<|Qb U U<|Qf<|Qc<|QR U (λj=> ?_) (λj=> ?_)
   ·exact absurd j (by simp)
   exact Qt (Qc (Qe (Qa (Qd U U (Qf (Qc (Qu (QJ (.inr U) U U (⟨_,rfl,by rw[if_pos (by omega)],Xe (d.pick [1,2,3,4,5,6,7,8,9] U)⟩)))))))))
  exact absurd a (by simp)
 | some x=>
  have q:=(n.ent Zl).2.2;dsimp only;refine Qn func156 U ntmps156 U ?_;refine Qe<|Qa<|Qd U U<|Qf<|Qc<|Qe<|Qa<|Qb U U<|Qj U U<|Qg U Zg U<|Qo U ZZ (b.cell 0 U U) U<|Qb U U<|Xn (k:=id) 1 b keysInt underlying74 U U U Zt (u:=(.agg #[intV x.refs,intV x.place,intV x.at_,strV (RY x)])) (g:=true) (JH Zl) (Hr Zl) U<|Qb U U<|Qr U U U<|Qr U U U<|Xc b Zt U U ?_;intro b1 o f
  (refine QW f U U HV U (by rfl) (i:=0) U (by decide) ?_)
  intro w2 d;dsimp only[List.set]at d;refine Qd U U<|Qf<|Qc<|Qh [1,0,4,5,6] U<|Qe<|Qe<|Qa<|Qb U U<|QX U U<|Qb U U<|X9 18 U (λa=> ?_) (λa=> ?_)
  ·exact absurd a (by simp)
  refine Qi U U a U<|Qi U U a U<|Q9 U a U U<|Qf<|Qc<|Qh [1,0,4,5,6,21] U<|QM U<|Qt<|Qc<|Qe<|Qe<|Qa<|Qb U U<|Qf<|Qc<|QR U (λe=> ?_) (λe=> ?_)
  ·refine Qe<|Qa<|Qg U YP U<|Qo U QL (d.cell 0 U U) U<|QE U U (by omega) (by omega) U ?_;refine Qg U YP U ?_
   (refine QK d U U YD (by rfl) (i:=0) U (Xk U) ?_)
   intro s l;dsimp only[List.set]at l;refine Qf<|Qc<|Qh [1,0,4,5] U ?_;have h:=l.drew;refine Q7 [0,1,2,3,4,5,6] [6] Z9 (by kernel_rfl) ?_;refine Q3 U U U<|QP U U U<|QG U U U Zg<|Q0 U U U (Ql U ZZ (h.cell 1 U U))<|Q3 U U U<|Q0 U U U (X5 U ag_76 HV (h.blk 0 U) (Xk U) U)<|QO U U U U U U ?_;refine QT (k:=id) (v:=E3 {x with refs:=x.refs+1}) 2 h keysInt underlying74 U U U U ?_
   intro t c;dsimp only[List.set]at c;have m:=c;rw[R4]at m;refine Zc (Xd (by kernel_rfl)) ?_;exact VC.nil (Qc (Qe (Qa (Qd U U (Qf (Qc (Qu (QJ (.inr U) U U (⟨_,U,U,Xe (S:={S with all:=up S.all id (some {x with refs:=x.refs+1})}) (m.pick [1,2,3,4,5,6,7,8,9] U)⟩)))))))))
  exact absurd e (by simp)
end Go.Proofs.YtifaibmhinlcfaaGreatDoor
namespace Go.Proofs.YtifaibmhinlcfaaGreatDoor.M
open Go.RowKit Proofs.Tryz
variable {l:List Int} {w:World}
theorem Sat.row_shrink {α:Type} {C:RowC α} {As:List Th} {b n cap:Nat} {l:List α} (m:Nat) (h:Sat w (rowT C (.slice (some ⟨b,0,none⟩) n cap) l::As)) (c:m<=l.length):Sat w (rowT C (.slice (some ⟨b,0,none⟩) m cap) (l.take m)::As):=by
  obtain⟨F,F1,F2,rfl,dj,⟨foot,d,k,a⟩,f⟩:=h;refine⟨_,F1,F2,U,dj,⟨foot,d, ?_⟩,f⟩;refine⟨by rw[C.cells_len], ?_⟩;rcases a with⟨a,_⟩ | ⟨b',cap',sp,a,o,g,i,j⟩
  · cases a
  · simp only[Value.slice.injEq,Option.some.injEq,Addr.mk.injEq,and_true]at a;obtain⟨rfl,rfl,rfl⟩:=a;have e:C.cells (l.take m)++((C.cells l).drop (m*C.size)++sp)=C.cells l++sp:=by rw[<-C.cells_take,<-List.append_assoc,List.take_append_drop]
    refine .inr ⟨b,cap,(C.cells l).drop (m*C.size)++sp,by rw[List.length_take,Nat.min_eq_left c],by rw[List.length_take,Nat.min_eq_left c];omega,by rw[e];exact g,by rw[e];exact i,j⟩
theorem qet {i:Nat} (hi:i<=l.length):X6 (inC.cells l) (0+i*1) (List.replicate (l.length -i) [intV 0]).flatten=inC.cells (l.take i++List.replicate (l.length -i) 0):=by
  have e:(List.replicate (l.length -i) [intV 0]).flatten=inC.cells (List.replicate (l.length -i) 0):=by
    generalize l.length -i=m
    induction m with
    | zero=>rfl
    | succ m ih=> rw[List.replicate_succ,List.flatten_cons,ih,List.replicate_succ];rfl
  rw[e];unfold X6;rw[show 0+i*1=i*inC.size by show 0+i*1=i*1;omega,inC.cells_take,inC.cells_app,List.drop_of_length_le (by rw[inC.cells_len,inC.cells_len,List.length_replicate];show l.length*1<=i*1+(l.length -i)*1;omega),List.append_nil]
theorem Hp {j:Nat} {v:Int} {id:Int} (h:l[j]? =some v):(l.take (j+1)).filter (λn=> !decide (n=id))=(l.take j).filter (λn=> !decide (n=id))++(if v=id then[]else[v]):=by
  rw[List.take_add_one,h,List.filter_append];congr 1;by_cases q:v=id<;> simp [q]
theorem Do {P:Program} {L:Env} {d:Nat} {ty:TypeId} {pos:String} {aft:Array Edge} {f:Nat} {cap:List Operand} {vs:List Value} (c:Jg L cap=some vs):Ev P L w ⟨some d,.makeFunc (.func f) #[] cap.toArray,ty,pos,aft,none⟩ (.func (.func f) #[] vs.toArray):= λρ e=>by
  have h: ∀(cap:List Operand) (vs:List Value),Jg L cap=some vs->cap.map ρ=vs:=by
    intro cap
    induction cap with
    | nil=> intro vs h;simp [Jg]at h;subst h;rfl
    | cons x xs ih=>
      intro vs h;simp only[Jg]at h;cases a:look L x with
      | none=> simp [a]at h
      | some v=>
        cases b:Jg L xs with
        | none=> simp [a,b]at h
        | some us=> simp [a,b]at h;subst h;simp [e _ _ a,ih us b]
  have a:=h cap vs c;simp [execOp,Instr.makeFunc,a]
