/- sheets: what Bring defers -/
import Derived.Test.YtkgjmhcdacidoaaGreatDoorDl
set_option linter.unusedVariables false
set_option maxRecDepth 100000
namespace Go.Proofs.YtkgjmhcdacidoaaGreatDoor
open Go.RowKit M Proofs.Tryz
structure BrS (T:Nat) (S S':SS) (id:Int) (k:Nat) (x:ShE):Prop where
  inv:ShI VX (T+1) S'
  go:ShG S S'
  is:S'.all id=some ⟨x.refs,1,(k:Nat),x.pg⟩
theorem KH {T:Nat} {S SL S1:SS} {id:Int} {k:Nat} {x:ShE} (h:ShI VX T S) (hx:S.all id=some x) (hp:x.place≠1) (hL:SL.all=S.all∧SL.taken=S.taken∧SL.budget=S.budget∧SL.slots=S.slots∧SL.fr=S.fr∧SL.next=S.next) (hg:GetS (one id) (T+1) k SL S1):BrS T S (onF S1 id k x.refs x.pg S1.next) id k x:= by
  obtain⟨e1,e2,e3,e4,e5,e6⟩:=hL
  obtain⟨a1,a2,a3,a4,a5,a6⟩:=h.ent hx
  have hgo:ShG S SL:=⟨fun j=> by rw[e1],⟨[], by rw[e2]; simp, fun j y hy hp1=> .inr ⟨y, by rw[e1]; exact hy,hp1,rfl⟩⟩,e3,e4, by rw[e5],e6⟩
  have hgo2:=hgo.trans hg.go
  have hx1:=hg.lim id x (by rw[e1]; exact hx) U
  obtain⟨b1,b2,b3,b4,b5,b6⟩:=hg.inv.ent hx1
  have h3:=hg.inv.onFrame (j:=id) (nx:=S1.next) (r:=x.refs) (pg:=x.pg) U hg.fr a1 (by omega) hg.inv.nx2 b2 ⟨b3,b4⟩ a5
  have hf:=ShF.on (j:=id) (k:=k) (r:=x.refs) (pg:=x.pg) (nx:=S1.next) hgo2 (fun y hy=> by rw[hx]at hy; cases hy; exact hp)
  refine⟨h3.congr fun i _=>⟨fun ⟨a,b⟩=>b a,False.elim⟩,⟨fun j=> ?_,hf.tk,hf.bud,hf.slo,hf.frn,hgo2.nxt⟩,XO⟩
  show(up S1.all id _ j).map _=_
  by_cases q:j=id
  · subst q; rw[XO,hx];rfl
  · rw[XW q]; exact hgo2.same j
theorem YR {w:World} {eb ob sb p:Nat} {ev:Int} {ov:Value} {a0 a1 a2 a3 a4 a5 a6 a7 a8 a9:Value} {F:Th} (h1:ov.oneCell'=true) (hS:Sat w [QE eb [intV ev],QE ob [ov],QE sb [ptrV p 0],QE p [a0,a1,a2,a3,a4,a5,a6,a7,a8,a9],F]):
    CallsD prog 156 #[ptrV eb 0,ptrV ob 0,ptrV sb 0] .returning w (fun e u' w'=>u'= .returning∧Ret (fun v w'=> if ev=0 then Sat w' [QE eb [intV ev],QE ob [ov],QE sb [ptrV p 0],QE p [a0,a1,a2,a3,a4,a5,a6,a7,a8,a9],F]else Sat w' [QE eb [intV ev],QE ob [ov],QE sb [ptrV p 0],QE p [a0,a1,ov,a3,a4,a5,a6,a7,a8,a9],F]) e w'):= by
  refine MA func156 U ntmps156 U ?_
  refine Qe (Qa (Qo U KN (by first | assumption | exact hS.cell 0 U U | exact hS.cell 1 U U | exact hS.cell 2 U U | exact hS.cell 3 U U) U ?_))
  refine Xp U U U (Qf (Qc (Qt U (fun h1=> ?_) (fun h1=> ?_))))
  · skip
    refine Qa (Qo U X5 (by first | assumption | exact hS.cell 0 U U | exact hS.cell 1 U U | exact hS.cell 2 U U | exact hS.cell 3 U U) U ?_)
    refine Qo U Yw (by first | assumption | exact hS.cell 0 U U | exact hS.cell 1 U U | exact hS.cell 2 U U | exact hS.cell 3 U U) U ?_
    refine Qi U U (Qg U WR U ?_)
    first | (refine Qx hS U U ZM (by first | rfl | assumption) (i:=0) U (by first | decide | exact Q7 U | (simp;done) | omega) ?_) | (refine Qx hS U U ZM (by first | rfl | assumption) (i:=1) U (by first | decide | exact Q7 U | (simp;done) | omega) ?_) | (refine Qx hS U U ZM (by first | rfl | assumption) (i:=2) U (by first | decide | exact Q7 U | (simp;done) | omega) ?_) | (refine Qx hS U U ZM (by first | rfl | assumption) (i:=3) U (by first | decide | exact Q7 U | (simp;done) | omega) ?_)
    intro w2 j3; dsimp only[List.set]at j3
    refine Qf (ZP (.inl U) U ?_)
    exact⟨_,rfl, by dsimp only; rw[if_neg (by omega)]; exact j3⟩
  refine Qs (ZP (.inl U) U ?_)
  exact⟨_,rfl, by dsimp only; rw[if_pos (by omega)]; exact hS⟩
theorem UN {P:Program} {n:Nat} {L:Env} {w:World} {fn:Func} {r r2:ResultVar} {v v2:Value} (hf:fn.results= #[r,r2]) (hv:Ul P n L w r v) (hv2:Ul P n L w r2 v2) (a:Act) (ha:Fr n L a):(results fn a.tmps).run P w= .ok (.tuple #[v,v2]) w:= by rw[HW,hf]; simp [hv a ha,hv2 a ha]
