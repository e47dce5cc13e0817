/- sheets: Set -/
import Derived.Test.YtifaibmhinlcfaaGreatDoorSh12
import Derived.Test.YtifaibmhinlcfaaGreatDoorBit
set_option linter.unusedSectionVars false
set_option linter.unusedVariables false
set_option maxRecDepth 100000
set_option maxHeartbeats 3200000
namespace Go.Proofs.YtifaibmhinlcfaaGreatDoor
open Go.RowKit M Proofs.Tryz
variable {S:SS} {id:Int} {y:ShE}
theorem ShF.trans {S S' S'':SS} (h:ShF S S') (b:ShF S' S''):ShF S S'':=by
  refine⟨?_,b.bud.trans h.bud,b.slo.trans h.slo,b.frn.trans h.frn⟩;obtain⟨L,f,g⟩:=h.tk;obtain⟨L',i,k⟩:=b.tk;refine⟨L++L',by rw[i,f,List.append_assoc],λj x l m=> ?_⟩;rcases g j x l m with h | ⟨y,n,c,e⟩
  · exact .inl (List.mem_append_left _ h)
  · rcases k j y n c with h | ⟨z,o,a,d⟩
    · exact .inl (List.mem_append_right _ (by rw[<-e];exact h))
    · exact .inr ⟨z,o,a,d.trans e⟩
noncomputable def setP (S:SS) (id:Int) (y:ShE) (pg:Bs):SS:={S with all:=up S.all id (some {y with pg:=pg}),fr:=S.fr.set y.at_.toNat (some pg)}
theorem Ol {A:Int->Option ShE} {pg:Bs} (h:A id=some y) (a:y.place=1):aG (up A id (some {y with pg:=pg}))=aG A:=by
  funext j;unfold aG;by_cases q:j=id
  · subst q;rw[Zf,h];show some _=some _;unfold E3 RY;simp [a]
  · rw[Zq q]
structure SetS (T:Nat) (S S':SS) (id:Int) (x:ShE) (pg:Bs):Prop where
  inv:ShI Gj (T+1) S'
  f:ShF S S'
  is:vw S'=up (vw S) id (some (x.refs,pg))
theorem qb1 {T:Nat} {S1:SS} {x:ShE} {pg:Bs} (h:ShI Gj (T+1) S1) (e:ShF S S1) (f:vw S1=vw S) (d:S1.all id=some y) (g:y.place=1) (i:y.refs=x.refs) (b:pg.length=64):SetS T S (setP S1 id y pg) id x pg:=by
  refine⟨h.page (λq=>q) d g b,e.trans ⟨⟨[],by simp [setP],λj z c a=> .inr ?_⟩,rfl,rfl,by show(S1.fr.set _ _).length=_;rw[List.length_set]⟩, ?_⟩
  · by_cases q:j=id
    · subst q;rw[d]at c;cases c;exact⟨_,Zf,a,rfl⟩
    · exact⟨z,by show up S1.all id _ j=_;rw[Zq q];exact c,a,rfl⟩
  · rw[<-i,<-f];exact qa0 U
theorem qbs {w:World} {p:Nat} {F:Th} (z:Sat w [He p S,F]) {N:Nat} (G:ShI Gj N S) (R:N<=80000000000) (id at_:Int) (b:UInt8):
    Calls prog 98 #[ptrV p 0,intV id,intV at_,XV b] w (Ret λv w'=>(∃e,v=intV e/\e≠0/\(S.all id=none\/(∃x,S.all id=some x/\1<x.refs)\/at_<0\/64<=at_\/(∀o∈S.fr,o≠none)/\WG S.sl=S.sl.length)/\Sat w' [He p S,F])\/(∃x S',S.all id=some x/\v=intV 0/\(0<=at_/\at_<64)/\SetS N S S' id x (x.pg.set at_.toNat b)/\Sat w' [He p S',F])):=by
 obtain⟨ba,bi,fp,sp,kp,ac,cc,at2,ct,z⟩:=Zn z;cases Zl:S.all id with
 | none=>
  refine Qn func98 U ntmps98 U ?_;refine Qe<|Qa<|Qd U U<|Qf<|Qc<|Qe<|Qa<|Qb U U<|Qj U U<|Qg U Zg U<|Qo U ZZ (z.cell 0 U U) U<|Qb U U<|Xn (k:=id) 1 z keysInt underlying74 U U U Zt (u:=(.agg #[intV 0,intV 0,intV 0,strV []])) (g:=false) (HF Zl) (Hs Zl) U<|Qb U U<|Qr U U U<|Qr U U U<|Xc z Zt U U ?_;intro b1 T O
  (refine QW O U U HV U (by rfl) (i:=0) U (by decide) ?_)
  intro w2 r;dsimp only[List.set]at r;refine Qd U U<|Qf<|Qc<|Qh [3,2,1,0,8,9,10] U<|Qe<|Qx<|Qe<|Qa<|Qb U U<|QX U U<|Qb U U<|X9 25 U (λl=> ?_) (λl=> ?_)
  ·refine Qk U U l<|Qb U U<|Qk U U l<|Xz U U U<|QF U l U U<|Qd U U<|Qf<|Qc<|Qh [3,2,1,0,8,9,22] U<|Qs U (λA=> ?_) (λA=> ?_)
   ·exact Qe (Qa (Qd U U (Qf (Qc (Qu (Q1 (Qq (QJ (.inr U) U U (⟨_,rfl,.inl ⟨_,rfl,by decide,by first | exact .inl U | (exact .inr (.inl ⟨x,rfl,by omega⟩)) | (exact .inr (.inr (.inl (by omega)))) | (exact .inr (.inr (.inr (.inl (by omega))))),Xe (r.pick [1,2,3,4,5,6,7,8,9] U)⟩⟩)))))))))
   refine Qe<|Qa<|Qb U U<|Xg U U U<|Qb U U<|QZ 32 U (λB=> ?_) (λB=> ?_)
   ·exact Qi U U (det B) U (Qi U U (det B) U (Qi U U (det B) U (QF U (det B) U U (Qd U U (Qf (Qc (Qh [3,2,1,0,8,29] U (Xm U (Qe (Qa (Qd U U (Qf (Qc (Qu (Q1 (Qq (QJ (.inr U) U U (⟨_,rfl,.inl ⟨_,rfl,by decide,by first | exact .inl U | (exact .inr (.inl ⟨x,rfl,by omega⟩)) | (exact .inr (.inr (.inl (by omega)))) | (exact .inr (.inr (.inr (.inl (by omega))))),Xe (r.pick [1,2,3,4,5,6,7,8,9] U)⟩⟩))))))))))))))))))
   exact absurd B (by omega)
  exact absurd l (by simp)
 | some x=>
  obtain⟨P,_,V,W,_,Q⟩:=G.ent Zl;refine Qn func98 U ntmps98 U ?_;refine Qe<|Qa<|Qd U U<|Qf<|Qc<|Qe<|Qa<|Qb U U<|Qj U U<|Qg U Zg U<|Qo U ZZ (z.cell 0 U U) U<|Qb U U<|Xn (k:=id) 1 z keysInt underlying74 U U U Zt (u:=(.agg #[intV x.refs,intV x.place,intV x.at_,strV (RY x)])) (g:=true) (JH Zl) (Hr Zl) U<|Qb U U<|Qr U U U<|Qr U U U<|Xc z Zt U U ?_;intro b1 T O
  (refine QW O U U HV U (by rfl) (i:=0) U (by decide) ?_)
  intro w2 r;dsimp only[List.set]at r;refine Qd U U<|Qf<|Qc<|Qh [3,2,1,0,8,9,10] U<|Qe<|Qx<|Qe<|Qa<|Qb U U<|QX U U<|Qb U U<|X9 25 U (λl=> ?_) (λl=> ?_)
  ·exact absurd l (by simp)
  refine Qi U U l U<|Qi U U l U<|Q9 U l U U<|Qd U U<|Qf<|Qc<|Qh [3,2,1,0,8,9,22] U<|QM U<|Qe<|Qa<|Qb U U<|Xg U U U<|Qb U U<|QZ 32 U (λA=> ?_) (λA=> ?_)
  ·exact absurd A (by omega)
  refine Qk U U (QH A)<|Qg U YP U<|Qk U U (QH A)<|Qo U QL (r.cell 0 U U) U<|Qk U U (QH A)<|JJ U U U<|Q9 U (QH A) U U<|Qd U U<|Qf<|Qc<|Qh [3,2,1,0,8,29] U<|Qs U (λB=> ?_) (λB=> ?_)
  ·exact Qe (Qa (Qd U U (Qf (Qc (Qu (Q1 (Qq (QJ (.inr U) U U (⟨_,rfl,.inl ⟨_,rfl,by decide,by first | exact .inl U | (exact .inr (.inl ⟨x,rfl,by omega⟩)) | (exact .inr (.inr (.inl (by omega)))) | (exact .inr (.inr (.inr (.inl (by omega))))),Xe (r.pick [1,2,3,4,5,6,7,8,9] U)⟩⟩)))))))))
  refine Qe<|Qa<|Qb U U<|Xa U U U<|Qb U U<|QZ 40 U (λC=> ?_) (λC=> ?_)
  ·exact Qi U U (det C) U (Qi U U (det C) U (QF U (det C) U U (Qd U U (Qf (Qc (Qh [3,2,1,0,8,37] U (Xm U (Qe (Qa (Qd U U (Qf (Qc (Qu (Q1 (Qq (QJ (.inr U) U U (⟨_,rfl,.inl ⟨_,rfl,by decide,by first | exact .inl U | (exact .inr (.inl ⟨x,rfl,by omega⟩)) | (exact .inr (.inr (.inl (by omega)))) | (exact .inr (.inr (.inr (.inl (by omega))))),Xe (r.pick [1,2,3,4,5,6,7,8,9] U)⟩⟩)))))))))))))))))
  refine Qk U U (QH C)<|Qb U U<|Qk U U (QH C)<|WU U U U<|Q9 U (QH C) U U<|Qd U U<|Qf<|Qc<|Qh [3,2,1,0,8,37] U<|Qs U (λX=> ?_) (λX=> ?_)
  ·exact Qe (Qa (Qd U U (Qf (Qc (Qu (Q1 (Qq (QJ (.inr U) U U (⟨_,rfl,.inl ⟨_,rfl,by decide,by first | exact .inl U | (exact .inr (.inl ⟨x,rfl,by omega⟩)) | (exact .inr (.inr (.inl (by omega)))) | (exact .inr (.inr (.inr (.inl (by omega))))),Xe (r.pick [1,2,3,4,5,6,7,8,9] U)⟩⟩)))))))))
  refine Qt<|Qm<|Qc<|Qe<|Qa<|Qb U U<|Qb U U ?_;have Y:=Xe (r.pick [1,2,3,4,5,6,7,8,9] U);have H:= λ{w F} (Z:Sat w [He p S,F])=>Lm Z G R id;simp only[Zl]at H;refine XF cal_136 U (H (Y.sp [0] U)) U ?_;rintro e a0 ⟨_,rfl,(⟨s,rfl,a⟩ | ⟨k,S2,s,rfl,D,a⟩ | ⟨a1,rfl,I,E,a⟩)⟩
  ·refine⟨_,U, ?_⟩;replace a:=a.jn U U;refine Qb U U<|Qr U U U<|Qr U U U<|Qd U U<|Qd U U<|Qf<|Qc<|Qh [3,2,0,8,11,12] U<|Qe<|Qe<|Qa<|Qb U U<|Xz U U U<|Qf<|Qc<|Qs U (λJ=> ?_) (λJ=> ?_)
   ·exact absurd U J
   refine Qt<|Qc<|Qe ?_;obtain⟨ba,bi,fp,sp,kp,ac,cc,at2,ct,d⟩:=Zn (a.pick [0,1] rfl);refine Qa<|Qb U U<|Qj U U<|Qg U Yg U<|Qo U Va (d.cell 0 U U) U<|Qb U U<|Qb U U<|Qb U U ?_;have j:=G.frc (λq=>q) Zl s;refine XF AN U (SY (d.sp [4] U) x.at_ at_ b) U ?_;rintro e a2 ⟨_,rfl,(⟨c,t⟩ | ⟨rfl,cb,m,n,t⟩)⟩
   ·exfalso;rw[j]at c;simp at c;omega
   refine⟨_,U, ?_⟩;replace t:=t.jn U U;clear d;refine Qd U U<|Qf<|Qc<|Qh [8] U<|Qu<|QJ (.inr U) U U ?_;obtain rfl:x.pg=cb:=by rw[j]at m;cases m;rfl
   have K:=t.pick [1,2,3,4,0,5,6,7,8] U;rw[<-Ol (pg:=x.pg.set at_.toNat b) Zl s]at K;exact⟨_,rfl,.inr ⟨x,_,rfl,rfl,n,qb1 (x:=x) (pg:=x.pg.set at_.toNat b) (G.mono (Nat.le_add_right N 1)) (ShF.refl S) U Zl s U (by rw[List.length_set];exact(G.ent Zl).2.2.2.2.1),Xe (S:=setP S id x (x.pg.set at_.toNat b)) K⟩⟩
  ·refine⟨_,U, ?_⟩;replace a:=a.jn U U;refine Qb U U<|Qr U U U<|Qr U U U<|Qd U U<|Qd U U<|Qf<|Qc<|Qh [3,2,0,8,11,12] U<|Qe<|Qe<|Qa<|Qb U U<|Xz U U U<|Qf<|Qc<|Qs U (λL=> ?_) (λL=> ?_)
   ·exact absurd U L
   refine Qt<|Qc<|Qe ?_;obtain⟨ba,bi,fp,sp,kp,ac,cc,at2,ct,h⟩:=Zn (a.pick [0,1] rfl);refine Qa<|Qb U U<|Qj U U<|Qg U Yg U<|Qo U Va (h.cell 0 U U) U<|Qb U U<|Qb U U<|Qb U U ?_;have j:=D.inv.frc (λq=>q) D.is U;dsimp only at j;refine XF AN U (SY (h.sp [4] U) (k:Int) at_ b) U ?_;rintro e a3 ⟨_,rfl,(⟨c,y⟩ | ⟨rfl,cb,m,n,y⟩)⟩
   ·exfalso;rw[j]at c;simp at c;omega
   refine⟨_,U, ?_⟩;replace y:=y.jn U U;clear h;refine Qd U U<|Qf<|Qc<|Qh [8] U<|Qu<|QJ (.inr U) U U ?_;obtain rfl:x.pg=cb:=by rw[j]at m;cases m;rfl
   have K:=y.pick [1,2,3,4,0,5,6,7,8] U;rw[<-Ol (pg:=x.pg.set at_.toNat b) D.is U]at K;exact⟨_,rfl,.inr ⟨x,_,rfl,rfl,n,qb1 (x:=x) (pg:=x.pg.set at_.toNat b) D.inv D.go.f D.go.vw D.is U U (by rw[List.length_set];exact(G.ent Zl).2.2.2.2.1),Xe (S:=setP S2 id ⟨x.refs,1,(k:Nat),x.pg⟩ (x.pg.set at_.toNat b)) K⟩⟩
  refine⟨_,U, ?_⟩;replace a:=a.jn U U;refine Qb U U<|Qr U U U<|Qr U U U<|Qd U U<|Qd U U<|Qf<|Qc<|Qh [3,2,0,8,11,12] U<|Qe<|Qe<|Qa<|Qb U U<|Xz U U U<|Qf<|Qc<|Qs U (λM=> ?_) (λM=> ?_)
  ·exact Qe (Qa (Qb U U (Qd U U (Qf (Qc (Qu (Qq (QJ (.inr U) U U (⟨_,rfl,.inl ⟨_,rfl,by decide,by(exact .inr (.inr (.inr (.inr ⟨I,E⟩)))),a.pick [0,1] U⟩⟩)))))))))
  exact absurd (by decide) M
end Go.Proofs.YtifaibmhinlcfaaGreatDoor
namespace Go.Proofs.YtifaibmhinlcfaaGreatDoor.M
open Go.RowKit Proofs.Tryz
variable {P:Program} {a b:BitVec 64} {e t:TypeId} {yk:IntKind} {z:Value} {α:Type}
section
variable {κ:Type} {β:Type}
open Classical in
noncomputable def QN (f:κ->Option β) (k:κ) (v:Option β):κ->Option β:= λj=> if j=k then v else f j
theorem Qv {f:κ->Option β} {k:κ} {v:Option β}:QN f k v k=v:=by simp [QN]
theorem Qz {f:κ->Option β} {k j:κ} {v:Option β} (h:j≠k):QN f k v j=f j:=by simp [QN,h]
theorem Hj {f:κ->Option β} {k:κ} {u v:Option β}:QN (QN f k u) k v=QN f k v:=by
  funext j;by_cases h:j=k
  · subst h;rw[Qv,Qv]
  · rw[Qz h,Qz h,Qz h]
theorem Wr {f:κ->Option β} {k:κ} {v:Option β} (h:f k=v):QN f k v=f:=by
  funext j;by_cases e:j=k
  · subst e;rw[Qv,h]
  · rw[Qz e]
def En (o:Option Th):Th:=o.getD IA
def FD (h:κ->Option Th):Th:=Cp λL:List κ=>starL [WH (L.Nodup/\ ∀k,k∈L↔h k≠none),starL (L.map λk=>En (h k))]
section
variable {w:World} {As:List Th} {h:κ→Option Th} {k:κ} {A:Th}
theorem Sat.second {A X Y:Th} {As:List Th} (f: ∀{Bs:List Th},Sat w (X::Bs)->Sat w (Y::Bs)) (a:Sat w (A::X::As)):Sat w (A::Y::As):=
  (f (a.perm (List.Perm.swap _ _ _))).perm (List.Perm.swap _ _ _)
theorem N8 (a:Sat w (FD h::As)): ∃L:List κ,(L.Nodup/\ ∀k,k∈L↔h k≠none)/\Sat w (starL (L.map λk=>En (h k))::As):=by
  obtain⟨L,b⟩:=a.ex;exact⟨L,b.flat.pure_elim⟩
theorem BX {L:List κ} (a:L.Nodup/\ ∀k,k∈L↔h k≠none) (b:Sat w (starL (L.map λk=>En (h k))::As)):Sat w (FD h::As):=
  Sat.ex_intro (f:= λL:List κ=>starL [WH (L.Nodup/\ ∀k,k∈L↔h k≠none),starL (L.map λk=>En (h k))]) L (Sat.fold (As:=[WH (L.Nodup/\ ∀k,k∈L↔h k≠none),starL (L.map λk=>En (h k))]) (Sat.pure_intro a b))
theorem Sat.emp_intro (a:Sat w As):Sat w (starL []::As):=Sat.fold (As:=[]) a
theorem qah (a:Sat w As):Sat w (FD (λ_:κ=>none)::As):=BX (L:=[]) ⟨List.nodup_nil,λk=>by simp⟩ a.emp_intro
theorem qf4 (o:Sat w (FD h::As)) (m:h k=some A):Sat w (A::FD (QN h k none)::As):=by
  obtain⟨L,⟨p,n⟩,r⟩:=N8 o;have d:k∈L:=(n k).2 (by rw[m];simp);obtain⟨L1,L2,rfl⟩:=List.append_of_mem d;have e:(L1++k::L2).Perm (k::(L1++L2)):=List.perm_middle;have f:=e.nodup_iff.1 p;obtain⟨a,l⟩:=List.nodup_cons.1 f;have s:=FC r (e.map _);have b:=Ri (Xs:=(k::(L1++L2)).map λk=>En (h k)) (i:=0) s U;have t:En (h k)=A:=by rw[m];rfl
  replace b:Sat w (En (h k)::starL (((k::(L1++L2)).map λk=>En (h k)).eraseIdx 0)::As):=b;rw[t]at b
  have u:(((k::(L1++L2)).map λk=>En (h k)).eraseIdx 0)=(L1++L2).map λj=>En (QN h k none j):=by
    show(L1++L2).map (λk=>En (h k))=_;refine List.map_congr_left λj c=> ?_;rw[Qz];intro q;subst q;exact a c
  rw[u]at b;refine Sat.second (λ{Bs} g=>BX ⟨l,λj=> ?_⟩ g) b;by_cases c:j=k
  · subst c;rw[Qv];exact⟨λq=>absurd q a,λq=>absurd U q⟩
  · rw[Qz c,<-n j,e.mem_iff,List.mem_cons];exact⟨λq=> .inr q,λq=>q.resolve_left c⟩
theorem Od (d:Sat w (A::FD h::As)) (f:h k=none):Sat w (FD (QN h k (some A))::As):=by
  obtain⟨L,⟨g,c⟩,l⟩:=N8 (d.perm (List.Perm.swap _ _ _));have a:k∉L:= λq=>(c k).1 q f;have m:=LY (i:=0) (l.perm (List.Perm.swap _ _ _));refine BX (L:=k::L) ⟨List.nodup_cons.2 ⟨a,g⟩,λj=> ?_⟩ ?_
  · rw[List.mem_cons];by_cases b:j=k
    · subst b;rw[Qv];simp
    · rw[Qz b,<-c j];exact⟨λq=>q.resolve_left b,λq=> .inr q⟩
  · rw[List.map_cons,Qv]
    have e:(L.map λj=>En (QN h k (some A) j))=L.map λj=>En (h j):=List.map_congr_left λj b=>by
      rw[Qz];intro q;subst q;exact a b
    rw[e];exact m
end
def XM {α:Type} (ad:α->Nat) (f:κ->Option α):κ->Option Value:= λk=>(f k).map λx=>ptrV (ad x) 0
theorem XH {ad:α->Nat} {f:κ->Option α} {k:κ} {x:α} (h:f k=some x):(XM ad f k).getD z=ptrV (ad x) 0:=by unfold XM;rw[h];rfl
theorem Nd {ad:α->Nat} {f:κ->Option α} {k:κ} (h:f k=none):(XM ad f k).getD z=z:=by unfold XM;rw[h];rfl
theorem G6 {ad:α->Nat} {f:κ->Option α} {k:κ} {x:α}:upd (XM ad f) k (some (ptrV (ad x) 0))=XM ad (QN f k (some x)):=by
  funext j;by_cases h:j=k
  · subst h;rw[XR];unfold XM;rw[Qv];rfl
  · rw[ZG h];unfold XM;rw[Qz h]
theorem MM {ad:α->Nat} {f:κ->Option α} {k:κ}:upd (XM ad f) k none=XM ad (QN f k none):=by
  funext j;by_cases h:j=k
  · subst h;rw[XR];unfold XM;rw[Qv];rfl
  · rw[ZG h];unfold XM;rw[Qz h]
theorem WK {ad:α->Nat} {f:κ->Option α} {k:κ} {x y:α} (h:f k=some x) (a:ad y=ad x):XM ad (QN f k (some y))=XM ad f:=by
  funext j;by_cases e:j=k
  · subst e;unfold XM;rw[Qv,h];simp [a]
  · unfold XM;rw[Qz e]
end
def X7 (k:Bs×Int):Value:= .agg #[strV k.1,intV k.2]
theorem MK (a:P.underlying t=some .string) (cs:Array Value) (off:Nat) (v:Value) (b:cs[off]? =some v) (w:World):(part t cs off).run P w= .ok v w:=by
  simp [part,isAgg,run_underlying a,b]
theorem D4 (c:P.underlying t=some .string) (n:Nat) (a b:Bs) (w:World):(Op.equalIn (n+1) t (strV a) (strV b)).run P w= .ok (decide (a=b)) w:=by
  unfold Op.equalIn;simp only[Sem.run_bind,run_underlying c,Result.andThen,strV];simp;rw[Bool.eq_iff_iff];show(a.toArray==b.toArray)=true↔_;simp
theorem qdt {kt t0 t1:TypeId} {f0 f1:Field} (hu:P.underlying kt=some (.struct #[f0,f1])) (hs:P.stoodInHeld kt=false) (hs0:P.underlying t0=some .string) (ht:P.underlying t1=some (.int .i64))
    (h0 : f0.type = t0) (h1 : f1.type = t1) (o0 : f0.offset = 0) (o1 : f1.offset = 1) (n0 : f0.name ≠ "_") (n1 : f1.name ≠ "_") : KeyOk P kt X7 where
  inj:= by rintro⟨a,b⟩ ⟨c,d⟩ h;simpa [X7,strV,intV]using h
  bits:= fun a=> by
    simp [X7,strV,intV,Instr.sameBits]
    show(a.1.toArray==a.1.toArray)=true
    simp
  check:= fun e a w=> by
    unfold Instr.checkKey
    simp only[Sem.run_bind,run_underlying hu,Result.andThen,X7]
    have c: ∀x:Int,(Instr.checkKey e 9999 t1 (intV x)).run P w= .ok () w:= fun x=>MapKept.run_checkKey ht (by simp [MapKept.IsKey,intV]) e 9998
    have c0: ∀x:Bs,(Instr.checkKey e 9999 t0 (strV x)).run P w= .ok () w:= fun x=>MapKept.run_checkKey hs0 (by simp [MapKept.IsKey,strV]) e 9998
    simp [n0,n1,h0,h1,o0,o1,CV ht,MK hs0,c,c0]
  find:= fun a l w h=> by
    have eq: ∀b:Bs×Int,(Op.equal kt (X7 a) (X7 b)).run P w= .ok (decide (a=b)) w:= by
      intro b
      have c: ∀x y:Int,(Op.equalIn 9999 t1 (intV x) (intV y)).run P w= .ok (x==y) w:= fun x y=>VE ht 9998 x y w
      have c0: ∀x y:Bs,(Op.equalIn 9999 t0 (strV x) (strV y)).run P w= .ok (decide (x=y)) w:= fun x y=>D4 hs0 9998 x y w
      unfold Op.equal Op.maxDepth Op.equalIn
      simp only[Sem.run_bind,run_underlying hu,Result.andThen,X7]
      obtain⟨a1,a2⟩:=a
      obtain⟨b1,b2⟩:=b
      by_cases e1:a1=b1<;>by_cases e2:a2=b2<;> simp [hs,n0,n1,h0,h1,o0,o1,CV ht,MK hs0,c,c0,e1,e2]
    have ask: ∀(l:List MapEntry) (i:Nat),(∀x∈l,∃b,x.key=X7 b)→
        (∃j x,l[j]? =some x∧x.key=X7 a∧(Instr.findAsking kt (X7 a) l i).run P w= .ok (some (i+j,x.val)) w)∨((∀x∈l,x.key≠X7 a)∧(Instr.findAsking kt (X7 a) l i).run P w= .ok none w):= by
      intro l
      induction l with
      | nil=> intro i _; exact .inr ⟨by simp, by simp [Instr.findAsking]⟩
      | cons e es ih=>
        intro i hl
        obtain⟨b,hb⟩:=hl e (by simp)
        by_cases hab:a=b
        · refine .inl ⟨0,e,rfl, by rw[hb,hab], ?_⟩
          subst hab
          simp [Instr.findAsking,hb,eq]
        · have hne:e.key≠X7 a:= by
            rw[hb]; intro q; apply hab
            obtain⟨a1,a2⟩:=a
            obtain⟨b1,b2⟩:=b
            simp [X7,strV,intV]at q⊢; exact⟨q.1.symm,q.2.symm⟩
          rcases ih (i+1) (fun x hx=>hl x (by simp [hx]))with⟨j,x,h1,h2,h3⟩ | ⟨h1,h2⟩
          · refine .inl ⟨j+1,x, by simpa using h1,h2, ?_⟩
            simp [Instr.findAsking,hb,eq,hab,h3];omega
          · refine .inr ⟨fun x hx=> ?_, ?_⟩
            · rcases List.mem_cons.1 hx with rfl | hx
              · exact hne
              · exact h1 x hx
            · simp [Instr.findAsking,hb,eq,hab,h2]
    cases l with
    | nil=> exact .inr ⟨by simp, by simp [Instr.findKey,run_underlying hu,Instr.findNow]⟩
    | cons e es=>
      obtain⟨b,hb⟩:=h e (by simp)
      have hn:Instr.findNow (.struct #[f0,f1]) (X7 a) (e::es) 0=none:= by simp [Instr.findNow,Instr.sameNow]
      have hk: ∀r,(Instr.findAsking kt (X7 a) (e::es) 0).run P w= .ok r w→(Instr.findKey kt (X7 a) (e::es)).run P w= .ok r w:= by
        intro r hr
        simp only[Instr.findKey,Sem.run_bind,run_underlying hu,Result.andThen,hn,hr]
      rcases ask (e::es) 0 h with⟨j,x,h1,h2,h3⟩ | ⟨h1,h2⟩
      · rw[Nat.zero_add]at h3
        exact .inl ⟨j,x,h1,h2,hk _ h3⟩
      · exact .inr ⟨h1,hk _ h2⟩
section
variable {P:Program} {n:Nat} {ops:Array Oper} {Q:Exit→Act→World→Prop} {rest:List Oper} {L:Env} {w:World} {d:Nat} {t t2:TypeId} {x y:Operand} {ty:TypeId} {pos:String} {aft:Array Edge}
theorem Pu (b:P.underlying t=some (.pointer e)) (c:look L x=some (.pointer none)) (f:look L y=some (.pointer none)):Ev P L w ⟨some d,.binOp .neq t x y t2,ty,pos,aft,none⟩ (.bool false):= λρ a=>by simp [execOp,a _ _ c,a _ _ f,eqGuard,binOp,DN b]
theorem Z7 (a:P.underlying t=some (.pointer e)) (b:look L x=some (.pointer none)) (c:look L y=some (.pointer none)) (hd:Nat.blt d n=true) (f:wl P n ops Q rest ((d,.bool false)::L) w):wl P n ops Q (⟨some d,.binOp .neq t x y t2,ty,pos,aft,none⟩::rest) L w:=
  Xp hd (Pu a b c) f
def ZC (b:BitVec 64):Value:= .int .u64 (b.toNat:Int)
theorem BJ (b:BitVec 64):BitVec.ofInt 64 (b.toNat:Int)=b:=by
  rw[BitVec.ofInt_natCast];simp
theorem qc0 (b:BitVec 64):(b.toNat:Int)%18446744073709551616=(b.toNat:Int):=by
  have :=b.isLt;omega
theorem GR (e:look L x=some (ZC a)) (f:look L y=some (ZC b)):Ev P L w ⟨some d,.binOp .or t x y t2,ty,pos,aft,none⟩ (ZC (a ||| b)):= λρ c=>by
  simp only[execOp,c _ _ e,c _ _ f,ZC,binOp,Op.intBits,IntKind.bits,eqGuard,BJ];simp [IntKind.wrap,IntKind.signed,IntKind.bits, -BitVec.toNat_or];exact qc0 _
theorem wl_or64 (c:look L x=some (ZC a)) (e:look L y=some (ZC b)) (hd:Nat.blt d n=true) (f:wl P n ops Q rest ((d,ZC (a ||| b))::L) w):wl P n ops Q (⟨some d,.binOp .or t x y t2,ty,pos,aft,none⟩::rest) L w:=Xp hd (GR c e) f
theorem qek (e:look L x=some (ZC a)) (f:look L y=some (ZC b)):Ev P L w ⟨some d,.binOp .and t x y t2,ty,pos,aft,none⟩ (ZC (a&&&b)):= λρ c=>by
  simp only[execOp,c _ _ e,c _ _ f,ZC,binOp,Op.intBits,IntKind.bits,eqGuard,BJ];simp [IntKind.wrap,IntKind.signed,IntKind.bits, -BitVec.toNat_and];exact qc0 _
theorem Ms (c:look L x=some (ZC a)) (e:look L y=some (ZC b)) (hd:Nat.blt d n=true) (f:wl P n ops Q rest ((d,ZC (a&&&b))::L) w):wl P n ops Q (⟨some d,.binOp .and t x y t2,ty,pos,aft,none⟩::rest) L w:=Xp hd (qek c e) f
theorem Ks (e:look L x=some (ZC a)) (f:look L y=some (ZC b)):Ev P L w ⟨some d,.binOp .andNot t x y t2,ty,pos,aft,none⟩ (ZC (a&&& ~~~b)):= λρ c=>by
  simp only[execOp,c _ _ e,c _ _ f,ZC,binOp,Op.intBits,IntKind.bits,eqGuard,BJ];simp [IntKind.wrap,IntKind.signed,IntKind.bits, -BitVec.toNat_and];exact qc0 _
theorem qej (m:Nat) (b:look L x=some (.int .u64 1)) (c:look L y=some (.int yk (m:Int))) (f:m<64):Ev P L w ⟨some d,.binOp .shl t x y t2,ty,pos,aft,none⟩ (ZC (1#64<<<m)):= λρ a=>by
  have g: ¬((m:Int)<0):=by omega
  have e:IntKind.u64.wrap (1*2^(min m 64))=((1#64<<<m).toNat:Int):=by
    rw[Nat.min_eq_left (by omega),Int.one_mul];have h:(2:Int)^m=((2^m:Nat):Int):=by simp
    rw[h];have i:2^m<2^64:=Nat.pow_lt_pow_right (by decide) f;simp [IntKind.wrap,IntKind.signed,IntKind.bits,BitVec.toNat_shiftLeft,Nat.shiftLeft_eq]
  simp only[execOp,a _ _ b,a _ _ c,binOp,Op.shift,IntKind.bits,eqGuard,g,if_false,Int.toNat_natCast,e,ZC];simp
theorem qee (m:Nat) (c:look L x=some (ZC a)) (f:look L y=some (.int yk (m:Int))) (g:m<=64):Ev P L w ⟨some d,.binOp .shr t x y t2,ty,pos,aft,none⟩ (ZC (a>>>m)):= λρ b=>by
  have h: ¬((m:Int)<0):=by omega
  have e:(a.toNat:Int).fdiv (2^(min m 64))=((a>>>m).toNat:Int):=by
    rw[Nat.min_eq_left g,Int.fdiv_eq_ediv_of_nonneg _ (Int.le_of_lt (Int.pow_pos (by decide))),BitVec.toNat_ushiftRight,Nat.shiftRight_eq_div_pow];simp
  simp only[execOp,b _ _ c,b _ _ f,ZC,binOp,Op.shift,IntKind.bits,eqGuard,h,if_false,Int.toNat_natCast,e];simp
theorem Se (m:Nat) (b:look L x=some (ZC a)) (c:look L y=some (.int yk (m:Int))) (e:m<=64) (hd:Nat.blt d n=true) (f:wl P n ops Q rest ((d,ZC (a>>>m))::L) w):wl P n ops Q (⟨some d,.binOp .shr t x y t2,ty,pos,aft,none⟩::rest) L w:=Xp hd (qee m b c e) f
end
section
variable {P:Program} {n:Nat} {ops:Array Oper} {Q:Exit→Act→World→Prop} {rest:List Oper} {L:Env} {w:World} {d:Nat} {ty:TypeId} {pos:String} {aft:Array Edge}
theorem Bz {t:Nat} {parts:List (Nat×Operand)} {vs vs':List Value} {pls:List (Nat×Nat)} {z:List Value} (b:Jg L (parts.map (·.2))=some vs) (c:XZ P t (parts.map (·.1))=some pls) (e:JF P t=true) (f:XE P t=some (some (.agg z.toArray))) (a:Ym z.length pls vs=true) (hd:Nat.blt d n=true) (g:Jz z pls vs=vs') (h:wl P n ops Q rest ((d,.agg vs'.toArray)::L) w):wl P n ops Q (⟨some d,.build t parts.toArray,ty,pos,aft,none⟩::rest) L w:=by
  subst g;exact Zj b c e f a hd h
end
end Go.Proofs.YtifaibmhinlcfaaGreatDoor.M
namespace Go.Proofs.YtifaibmhinlcfaaGreatDoor
open Go.RowKit M Proofs.Tryz
variable {As:List Th} {S:SS} {X:Th} {j:Int} {m n p:Nat} {w:World}
abbrev VS:=Int->Option (Int×Bs)
variable {V:VS}
noncomputable def HX (V:VS) (j:Int):VS:= match V j with | none=>V | some x=>QN V j (some (x.1+1,x.2))
noncomputable def ZH (V:VS) (j:Int):VS:= match V j with | none=>V | some x=> if 1<x.1 then QN V j (some (x.1 -1,x.2))else QN V j none
def ZF (V:VS) (j:Int):Int:= match V j with | none=>0 | some x=>x.1
def Zm (V:VS) (j:Int):Bs:= match V j with | none=> if j=0 then zer else[] | some x=>x.2
def btV (V:VS) (j a:Int):UInt8:= if 0<=a/\a<64 then(Zm V j).getD a.toNat 0 else 0
def AliveGe (V:VS) (n:Nat):Prop:= ∃l:List Int,l.length=n/\l.Nodup/\ ∀j∈l,V j≠none
theorem B2 {β:Type} (A:Int->Option β) (j:Int) (v:Option β):up A j v=QN A j v:=by
  funext i;by_cases h:i=j
  · subst h;rw[Zf,Qv]
  · rw[Zq h,Qz h]
structure SlW where
  v:Nat
  f:Nat
variable [Inhabited SlW]
def FrSl (S:SS) (F:Nat):Prop:=F<=S.fr.length+S.slots.toNat/\S.slots=((default:SlW).v:Int)
def ZP (p n F:Nat) (V:VS):Th:=Cp λS:SS=>starL [WH (ShI Gj n S/\vw S=V/\FrSl S F),He p S]
theorem JN {F:Nat} (h:Sat w (ZP p n F V::As)): ∃S,ShI Gj n S/\vw S=V/\FrSl S F/\Sat w (He p S::As):=by
  obtain⟨S,h⟩:=h.ex;obtain⟨⟨a,b,c⟩,h⟩:=h.flat.pure_elim;exact⟨S,a,b,c,h⟩
theorem ZK {F:Nat} (a:ShI Gj n S) (b:vw S=V) (c:FrSl S F) (h:Sat w (He p S::As)):Sat w (ZP p n F V::As):=
  Sat.ex_intro (f:= λS:SS=>starL [WH (ShI Gj n S/\vw S=V/\FrSl S F),He p S]) S (Sat.fold (As:=[WH (ShI Gj n S/\vw S=V/\FrSl S F),He p S]) (Sat.pure_intro ⟨a,b,c⟩ h))
theorem X3 {F:Nat} (d:n<=m) (h:Sat w (ZP p n F V::As)):Sat w (ZP p m F V::As):=by
  obtain⟨S,a,b,c,h⟩:=JN h;exact ZK (a.mono d) b c h
theorem Uo (h:S.all j=none):vw S j=none:=by unfold vw;rw[h];rfl
theorem H5 {x:ShE} (h:S.all j=some x):vw S j=some (x.refs,x.pg):=by unfold vw;rw[h];rfl
theorem qcj (S:SS) (j:Int):Hn S j=Zm (vw S) j:=by
  unfold Hn Zm;cases h:S.all j with
  | none=> rw[Uo h]
  | some x=> rw[H5 h]
theorem LR {Q:Nat->Int->Prop} (h: ∀i,i<n-> ∃j,Q i j): ∃f:Nat->Int,∀i,i<n->Q i (f i):=by
  classical
  exact⟨λi=> if hi:i<n then Classical.choose (h i hi)else 0,λi hi=>by dsimp only;rw[dif_pos hi];exact Classical.choose_spec (h i hi)⟩
theorem FrSl.same {S':SS} {F:Nat} (b:S'.fr.length=S.fr.length) (a:S'.slots=S.slots) (h:FrSl S F):FrSl S' F:=⟨by rw[b,a];exact h.1,a.trans h.2⟩
theorem AliveGe.down (d:m<=n) (h:AliveGe V n):AliveGe V m:=by
  obtain⟨l,rfl,a,b⟩:=h;exact⟨l.take m,by rw[List.length_take];omega,a.sublist (List.take_sublist _ _),λj c=>b j (List.mem_of_mem_take c)⟩
theorem Kl (m:ShI Gj n S) (z: ∀o∈S.fr,o≠none) (F:WG S.sl=S.sl.length):AliveGe (vw S) (S.fr.length+S.slots.toNat):=by
  have p:S.slots.toNat=S.sl.length:=by rw[m.slo];simp
  rw[p]
  have r: ∀i,i<S.fr.length+S.sl.length-> ∃j:Int,∃x,S.all j=some x/\((i<S.fr.length/\x.place=1/\x.at_=(i:Int))\/(S.fr.length<=i/\x.place=3/\x.at_=(i:Int) -S.fr.length)):=by
    intro i hi;by_cases s:i<S.fr.length
    · obtain⟨b,t⟩: ∃b,S.fr[i]? =some (some b):=by
        have g:=z _ (List.getElem_mem s);cases h:S.fr[i]with
        | none=> exact absurd h g
        | some b=> exact⟨b,by rw[XQ s,h]⟩
      have u:Ws S.fr (i:Nat)=some b:=by unfold Ws;rw[if_pos (by omega),Int.toNat_natCast,t]
      have A:=m.fru u;cases h:S.inn (i:Nat)with
      | none=> exact absurd h A
      | some j=>
        obtain⟨_,x,c,v,k⟩:=(m.frm _ _).1 h;exact⟨j,x,c,.inl ⟨s,v,k⟩⟩
    · have w:i -S.fr.length<S.sl.length:=by omega
      have l:S.sl[i -S.fr.length]≠[]:= λq=>by
        have g:[]∈S.sl:=q▸List.getElem_mem w;have :=Gs.2 g;omega
      obtain⟨j,x,_,c,v,k⟩:=m.slu (XQ w) l;exact⟨j,x,c,.inr ⟨by omega,v,by rw[k];omega⟩⟩
  obtain⟨f,d⟩:=LR r;refine⟨(List.range (S.fr.length+S.sl.length)).map f,by simp, ?_,λj B=> ?_⟩
  · unfold List.Nodup;rw[List.pairwise_map];refine List.Pairwise.imp_of_mem (λ{a b} k t l e=> ?_) (List.nodup_range);obtain⟨x,c,g⟩:=d a (List.mem_range.1 k);obtain⟨y,C,u⟩:=d b (List.mem_range.1 t);rw[e,C]at c;cases c;rcases g with⟨_,p1,D⟩ | ⟨_,p1,D⟩<;> rcases u with⟨_,p2,E⟩ | ⟨_,p2,E⟩<;>omega
  · obtain⟨i,hi,rfl⟩:=List.mem_map.1 B;obtain⟨x,c,_⟩:=d i (List.mem_range.1 hi);rw[H5 c];simp
theorem M8 {F:Nat} (f:Sat w [ZP p n F V,X]) (i:n<=80000000000) (id:Int):
    Calls prog 156 #[ptrV p 0,intV id] w (Ret λv w'=> ∃e,v=intV e/\Sat w' [ZP p (n+1) F (HX V id),X]):=by
  obtain⟨S,d,rfl,g,f⟩:=JN f;refine(qbt f d i id).mono λe w h=>h.mono λv w h=> ?_;cases Zl:S.all id with
  | none=>
    rw[Zl]at h;have e:HX (vw S) id=vw S:=by unfold HX;rw[Uo Zl]
    rw[e];by_cases q:id=0
    · exact⟨0,by rw[h.1,if_pos q],X3 (by omega) (ZK d U g h.2)⟩
    · exact⟨4,by rw[h.1,if_neg q],X3 (by omega) (ZK d U g h.2)⟩
  | some x=>
    rw[Zl]at h;have j:=(d.ent Zl).2.2;obtain⟨a,b,c⟩:=E6 (r:=x.refs+1) d Zl ⟨by omega,by omega⟩;refine⟨0,h.1,ZK a ?_ (FrSl.same b.frn b.slo g) h.2⟩;rw[c,B2];unfold HX;rw[H5 Zl]
theorem Gx {F:Nat} (j:Sat w [ZP p n F V,X]) (m:n<=80000000000) (id:Int):
    Calls prog 152 #[ptrV p 0,intV id] w (Ret λv w'=> ∃e,v=intV e/\Sat w' [ZP p (n+1) F (ZH V id),X]):=by
  obtain⟨S,g,rfl,i,j⟩:=JN j;refine(Lk j g m id).mono λe w h=>h.mono λv w h=> ?_;cases Zl:S.all id with
  | none=>
    rw[Zl]at h;have e:ZH (vw S) id=vw S:=by unfold ZH;rw[Uo Zl]
    rw[e];by_cases q:id=0
    · exact⟨0,by rw[h.1,if_pos q],X3 (by omega) (ZK g U i h.2)⟩
    · exact⟨4,by rw[h.1,if_neg q],X3 (by omega) (ZK g U i h.2)⟩
  | some x=>
    rw[Zl]at h;have s:=(g.ent Zl).2.2;rcases h with⟨k,⟨l,d⟩ | ⟨l,S',d,o⟩⟩
    · obtain⟨a,b,c⟩:=E6 (r:=x.refs -1) g Zl ⟨by omega,by omega⟩;refine⟨0,k,ZK a ?_ (FrSl.same b.frn b.slo i) d⟩;rw[c,B2];unfold ZH;rw[H5 Zl];dsimp only;rw[if_pos l]
    · refine⟨0,k,ZK d.inv ?_ (FrSl.same d.f.frn d.f.slo i) o⟩;rw[d.is,B2];unfold ZH;rw[H5 Zl];dsimp only;rw[if_neg (by omega)]
theorem NO {F:Nat} (a:Sat w [ZP p n F V,X]) (id:Int):
    Calls prog 12 #[ptrV p 0,intV id] w (Ret λv w'=>v=intV (ZF V id)/\Sat w' [ZP p n F V,X]):=by
  obtain⟨S,b,rfl,c,a⟩:=JN a;refine(OE a id).mono λe w h=>h.mono λv w h=> ?_;refine⟨?_,ZK b U c h.2⟩;rw[h.1];unfold ZF;cases Zl:S.all id with
  | none=> rw[Uo Zl]
  | some x=> rw[H5 Zl]
theorem U4 {F:Nat} (a:Sat w [ZP p n F V,X]) (id:Int):
    Calls prog 134 #[ptrV p 0,intV id] w (Ret λv w'=>v=strV (Zm V id)/\Sat w' [ZP p n F V,X]):=by
  obtain⟨S,b,rfl,c,a⟩:=JN a;refine(CP a b id (λq=>q)).mono λe w h=>h.mono λv w h=> ?_;exact⟨by rw[h.1,qcj],ZK b U c h.2⟩
theorem qbp {F:Nat} (b:Sat w [ZP p n F V,X]) (d:n<=80000000000) (id a:Int):
    Calls prog 102 #[ptrV p 0,intV id,intV a] w (Ret λv w'=>v=XV (btV V id a)/\Sat w' [ZP p n F V,X]):=by
  obtain⟨S,c,rfl,f,b⟩:=JN b;refine(OI b c d id a).mono λe w h=>h.mono λv w h=> ?_;exact⟨by rw[h.1];unfold OJ btV;rw[qcj],ZK c U f h.2⟩
theorem DK {F:Nat} (b:Sat w [ZP p n F V,X]) (k:n<=80000000000) {pg:Bs} (c:pg.length=64):
    Calls prog 133 #[ptrV p 0,strV pg] w (Ret λv w'=>(v= .tuple #[intV 0,intV 6]/\AliveGe V F/\Sat w' [ZP p (n+1) F V,X])\/(∃id,v= .tuple #[intV id,intV 0]/\1<=id/\V id=none/\Sat w' [ZP p (n+1) F (QN V id (some (1,pg))),X])):=by
  obtain⟨S,d,rfl,g,b⟩:=JN b;refine(MD b d k c).mono λe w h=>h.mono λv w h=> ?_;rcases h with⟨i,a,j,l⟩ | ⟨i,S',a,j⟩
  · exact .inl ⟨i,AliveGe.down g.1 (Kl d a j),X3 (by omega) (ZK d U g l)⟩
  · exact .inr ⟨_,i,a.pos,Uo a.was,ZK a.inv (by rw[a.is,B2]) (FrSl.same a.f.frn a.f.slo g) j⟩
theorem qbn {F:Nat} (i:Sat w [ZP p n F V,X]) (m:n<=80000000000) {pg:Bs} (j:pg.length=64):
    Calls prog 150 #[ptrV p 0,strV pg] w (Ret λv w'=>(pg=zer/\v= .tuple #[intV 0,intV 0]/\Sat w' [ZP p (n+1) F V,X])\/(pg≠zer/\v= .tuple #[intV 0,intV 6]/\AliveGe V F/\Sat w' [ZP p (n+1) F V,X])\/(∃id,pg≠zer/\v= .tuple #[intV id,intV 0]/\1<=id/\V id=none/\Sat w' [ZP p (n+1) F (QN V id (some (1,pg))),X])):=by
  obtain⟨S,c,rfl,d,i⟩:=JN i;refine(OG i c m j).mono λe w h=>h.mono λv w h=> ?_;rcases h with⟨g,b,k⟩ | ⟨g,⟨b,a,l,k⟩ | ⟨b,S',a,l⟩⟩
  · exact .inl ⟨g,b,X3 (by omega) (ZK c U d k)⟩
  · exact .inr (.inl ⟨g,b,AliveGe.down d.1 (Kl c a l),X3 (by omega) (ZK c U d k)⟩)
  · exact .inr (.inr ⟨_,g,b,a.pos,Uo a.was,ZK a.inv (by rw[a.is,B2]) (FrSl.same a.f.frn a.f.slo d) l⟩)
theorem stSet {F:Nat} (d:Sat w [ZP p n F V,X]) (m:n<=80000000000) (id a:Int) (b:UInt8):
    Calls prog 98 #[ptrV p 0,intV id,intV a,XV b] w (Ret λv w'=>(∃e,v=intV e/\e≠0/\(V id=none\/1<ZF V id\/a<0\/64<=a\/AliveGe V F)/\Sat w' [ZP p (n+1) F V,X])\/(∃r pg,V id=some (r,pg)/\v=intV 0/\(0<=a/\a<64)/\Sat w' [ZP p (n+1) F (QN V id (some (r,pg.set a.toNat b))),X])):=by
  obtain⟨S,g,rfl,i,d⟩:=JN d;refine(qbs d g m id a b).mono λe w h=>h.mono λv w h=> ?_;rcases h with⟨e,j,k,l,c⟩ | ⟨x,S',j,k,l,c,o⟩
  · exact .inl ⟨e,j,k,l.imp Uo (Or.imp (λ⟨x,s,t⟩=>by unfold ZF;rw[H5 s];exact t) (Or.imp (λq=>q) (Or.imp (λq=>q) λq=>AliveGe.down i.1 (Kl g q.1 q.2)))),X3 (by omega) (ZK g U i c)⟩
  · exact .inr ⟨x.refs,x.pg,H5 j,k,l,ZK c.inv (by rw[c.is,B2]) (FrSl.same c.f.frn c.f.slo i) o⟩
theorem stNew (c:Sat w [X]) (count slots budget:Int) (a:((default:SlW).v:Int)=min (max slots 0) 4096) {Fr:Nat} (b:Fr<=(min (max count 1) 256).toNat+(min (max slots 0) 4096).toNat):
    Calls prog 25 #[intV count,intV slots,intV budget] w (Ret λv w'=> ∃p,v=ptrV p 0/\Sat w' [ZP p 0 Fr (λ_=>none),X]):=by
  refine(qbu c count slots budget).mono λe w h=>h.mono λv w h=> ?_;obtain⟨p,d,f⟩:=h;exact⟨p,d,ZK (qcw count slots budget) (by funext j;rfl) ⟨by simpa [Ro]using b,by show(Ro count slots budget).slots=_;rw[a];simp [Ro]⟩ f⟩
