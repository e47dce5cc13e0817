/- sheets: what Bring defers -/
import Derived.Test.YtifaibmhinlcfaaGreatDoorDl
set_option linter.unusedVariables false
set_option maxRecDepth 100000
namespace Go.Proofs.YtifaibmhinlcfaaGreatDoor
open Go.RowKit M Proofs.Tryz
variable {w:World}
structure BrS (T:Nat) (S S':SS) (id:Int) (k:Nat) (x:ShE):Prop where
  inv:ShI Gj (T+1) S'
  go:ShG S S'
  is:S'.all id=some ⟨x.refs,1,(k:Nat),x.pg⟩
theorem Bf {T:Nat} {S SL S1:SS} {id:Int} {k:Nat} {x:ShE} (h:ShI Gj T S) (e:S.all id=some x) (p:x.place≠1) (s:SL.all=S.all/\SL.taken=S.taken/\SL.budget=S.budget/\SL.slots=S.slots/\SL.fr=S.fr/\SL.next=S.next) (d:GetS (one id) (T+1) k SL S1):BrS T S (onF S1 id k x.refs x.pg S1.next) id k x:=by
  obtain⟨l,t,u,v,w,z⟩:=s;obtain⟨A,E,F,G,B,H⟩:=h.ent e;have m:ShG S SL:=⟨λj=>by rw[l],⟨[],by rw[t];simp,λj y f n=> .inr ⟨y,by rw[l];exact f,n,rfl⟩⟩,u,v,by rw[w],z⟩;have c:=m.trans d.go;have o:=d.lim id x (by rw[l];exact e) U;obtain⟨b1,b2,b3,C,I,J⟩:=d.inv.ent o;have D:=d.inv.onFrame (j:=id) (nx:=S1.next) (r:=x.refs) (pg:=x.pg) U d.fr A (by omega) d.inv.nx2 b2 ⟨b3,C⟩ B;have g:=ShF.on (j:=id) (k:=k) (r:=x.refs) (pg:=x.pg) (nx:=S1.next) c (λy f=>by rw[e]at f;cases f;exact p);refine⟨D.congr λi _=>⟨λ⟨a,b⟩=>b a,False.elim⟩,⟨λj=> ?_,g.tk,g.bud,g.slo,g.frn,c.nxt⟩,Zf⟩;show(up S1.all id _ j).map _=_;by_cases q:j=id
  · subst q;rw[Zf,e];rfl
  · rw[Zq q];exact c.same j
theorem HL {eb ob sb p:Nat} {ev:Int} {ov:Value} {a0 b l c d f g h j k:Value} {F:Th} (m:ov.oneCell'=true) (a:Sat w [Q6 eb [intV ev],Q6 ob [ov],Q6 sb [ptrV p 0],Q6 p [a0,b,l,c,d,f,g,h,j,k],F]):
    CallsD prog 192 #[ptrV eb 0,ptrV ob 0,ptrV sb 0] .returning w (λe u' w'=>u'= .returning/\Ret (λv w'=> if ev=0 then Sat w' [Q6 eb [intV ev],Q6 ob [ov],Q6 sb [ptrV p 0],Q6 p [a0,b,l,c,d,f,g,h,j,k],F]else Sat w' [Q6 eb [intV ev],Q6 ob [ov],Q6 sb [ptrV p 0],Q6 p [a0,b,ov,c,d,f,g,h,j,k],F]) e w'):=by
  refine P5 func192 U ntmps192 U ?_;refine Qe<|Qa<|Qo U Bn (a.cell 0 U U) U<|Xz U U U<|Qf<|Qc<|Qs U (λm=> ?_) (λm=> ?_)
  · skip;refine Qa<|Qo U Xr (a.cell 2 U U) U<|Qo U J0 (a.cell 1 U U) U<|Qj U U<|Qg U JD U ?_
    (refine QK a U U Gw (by assumption) (i:=3) U (Xk U) ?_)
    intro w2 n;dsimp only[List.set]at n;refine Qf<|Zb (.inl U) U ?_;exact⟨_,rfl,by dsimp only;rw[if_neg (by omega)];exact n⟩
  refine Qt<|Zb (.inl U) U ?_;exact⟨_,rfl,by dsimp only;rw[if_pos (by omega)];exact a⟩
theorem KO {P:Program} {n:Nat} {L:Env} {fn:Func} {r c:ResultVar} {v v2:Value} (e:fn.results= #[r,c]) (f:Rw P n L w r v) (b:Rw P n L w c v2) (a:Act) (d:Fr n L a):(results fn a.tmps).run P w= .ok (.tuple #[v,v2]) w:=by rw[RM,e];simp [f a d,b a d]
