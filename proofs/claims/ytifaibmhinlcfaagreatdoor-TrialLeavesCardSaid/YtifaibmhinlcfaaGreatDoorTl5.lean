/- the calls of views in TrialLeaves: cells, time -/
import Derived.Test.YtifaibmhinlcfaaGreatDoorTr13
import Derived.Test.YtifaibmhinlcfaaGreatDoorLv1
import Derived.Test.YtifaibmhinlcfaaGreatDoorTr12
import Derived.Test.YtifaibmhinlcfaaGreatDoorWc
import Derived.Test.YtifaibmhinlcfaaGreatDoorWa
set_option linter.unusedSectionVars false
set_option linter.unusedVariables false
set_option maxRecDepth 100000
set_option maxHeartbeats 1600000
namespace Go.Proofs.YtifaibmhinlcfaaGreatDoor
open Go.RowKit M Proofs.Tryz
variable [Inhabited SlW]
variable {A A':LvA} {C:CeD} {P:KD→Int} {W W2:WS} {a:TrAd} {g:Option (KD→Int)} {i p vb:Nat} {id last:Int} {ids:List Int} {w:World}
def NI (id:Int) (W W2:WS):WS:= if id=0 then W2 else W
theorem M1:NI 0 W W2=W2:=if_pos U
theorem RA (h:id≠0):NI id W W2=W:=if_neg h
theorem M0:NI id W W=W:=by unfold NI;split<;>rfl
section
variable {i:Nat} {T:Nodes} {last id:Int} {C:CeD} {A:LvA} {ids:List Int} {W W2:WS}
theorem PI.lvG (h:PI i T last C A ids) (b:id≠0) {n:NodeD} (c:T id=some n): ∃t,A.tr id=some t:=by
  obtain⟨t,a,_⟩:=h.lv.get b c;exact⟨t,a⟩
theorem PI.dm (_:PI i T last C A ids) (hi:i+1<=400):i<ZO:=by unfold ZO;omega
theorem PI.od (h:PI i T last C A ids) {x:OneD} (a:C.all id=some x) (hi:i+1<=400):x.order.length<=100000000000:=by have :=(h.ok a).od;omega
theorem SamA.same (h:A'.tr=A.tr): ∀j,(A'.tr j).map TrA.parent=(A.tr j).map TrA.parent:= λj=>by rw[h]
theorem PrS.pres (h:PrS T C A W) (a:VisP A'.pres W2) (b:PagesOk W2.objs) (c:W2.cells=W.cells) (d:W2.logs=W.logs) (e:W2.time=W.time):PrS T C A' W2:=⟨by rw[c,d];exact h.rc,a,b,by rw[e];exact h.tm⟩
end
theorem Ld {F:Th} (r:Sat w [Q6 vb [ptrV a.t 0,intV id],J1 a p i W ids g,F]) (Zl:id=0\/id∈ids) (hi:i+1<=400) (k:Bs):
    Calls prog 22 #[ptrV vb 0,strV k] w (Ret λv w'=> ∃s,v=strV s/\s.length<=40/\(id=0->s=W.cells k)/\Sat w' [Q6 vb [ptrV a.t 0,intV id],J1 a p (i+1) W ids g,F]):=by
  obtain⟨T,last,C,A,b,f,u⟩:=Zu (r.pick [1,0,2] rfl);obtain⟨nd,c⟩:=b.get Zl;obtain⟨x,d⟩:=b.ce.get c;refine(Gr (u.split [3,0,1] [true,true,false,true,false] U) b.ce b.tri d (b.od d hi) k).mono λew w h=>h.mono λv w h=> ?_;obtain⟨x',s,m,rfl,j,h⟩:=h;have y:=h.join U;have n:=b.ask hi d c m
  have o:PrS T (C.up id x') A W/\(id=0->s=W.cells k):=by
    by_cases l:id=0
    · subst l;have e:=m.same (b.root d);subst e;rw[CeD.up_same d]at j⊢;exact⟨f,λ_=>f.sees j⟩
    · exact⟨f.setT l,λq=>absurd q l⟩
  exact⟨s,U,MH n.ok j,o.2,(XY (T:=T) (C:=C.up id x') n o.1 (Z8 (JQ (Nat.le_succ i) (Nat.le_succ i) (y.pick [3,1,2,0,4] U)))).pick [1,0,2] U⟩
theorem tl_get0 {F:Th} (m:Sat w [Q6 vb [ptrV a.t 0,intV 0],J1 a p i W ids g,F]) (hi:i+1<=400) (k:Bs):
    Calls prog 22 #[ptrV vb 0,strV k] w (Ret λv w'=>v=strV (W.cells k)/\Sat w' [Q6 vb [ptrV a.t 0,intV 0],J1 a p i W ids g,F]):=by
  obtain⟨T,last,C,A,b,f,n⟩:=Zu (m.pick [1,0,2] rfl);obtain⟨nd,d⟩:=b.get (.inl rfl);obtain⟨x,c⟩:=b.ce.get d;refine(Gr (n.split [3,0,1] [true,true,false,true,false] U) b.ce b.tri c (b.od c hi) k).mono λew w h=>h.mono λv w h=> ?_;obtain⟨x',s,o,rfl,j,h⟩:=h;have l:=h.join U;have e:=o.same (b.root c);subst e;rw[CeD.up_same c]at j l;exact⟨by rw[f.sees j],(XY b f (l.pick [1,2,3,0,4] U)).pick [1,0,2] U⟩
theorem NK {F:Th} (j:Sat w [Q6 vb [ptrV a.t 0,intV id],J1 a p i W ids g,F]) (Zl:id=0\/id∈ids) (hi:i+1<=400) (k s:Bs) (l:k.length<=10) (m:s.length<=40):
    Calls prog 20 #[ptrV vb 0,strV k,strV s] w (Ret λv w'=>Sat w' [Q6 vb [ptrV a.t 0,intV id],J1 a p (i+1) (NI id W (Rn W k s)) ids g,F]):=by
  obtain⟨T,last,C,A,c,f,n⟩:=Zu (j.pick [1,0,2] rfl);obtain⟨nd,b⟩:=c.get Zl;obtain⟨x,d⟩:=c.ce.get b;refine(NH (n.split [3,0,1] [true,true,false,true,false] U) d k s).mono λew w h=>h.mono λv w h=> ?_;have o:=h.join U
  have q:PrS T (C.up id (Ye x k s)) A (NI id W (Rn W k s)):=by
    by_cases e:id=0
    · subst e;rw[M1];exact f.put d (c.root d)
    · rw[RA e];exact f.setT e
  exact(XY (T:=T) (C:=C.up id (Ye x k s)) (c.put hi d b l m) q (Z8 (JQ (Nat.le_succ i) (Nat.le_succ i) (o.pick [3,1,2,0,4] U)))).pick [1,0,2] U
theorem tl_log {F:Th} (f:Sat w [Q6 vb [ptrV a.t 0,intV id],J1 a p i W ids g,F]) (Zl:id=0\/id∈ids) (hi:i+1<=400) (k s:Bs) (m:s.length<=50):
    Calls prog 64 #[ptrV vb 0,strV k,strV s] w (Ret λv w'=>Sat w' [Q6 vb [ptrV a.t 0,intV id],J1 a p (i+1) (NI id W (Cn W k s)) ids g,F]):=by
  obtain⟨T,last,C,A,d,l,n⟩:=Zu (f.pick [1,0,2] rfl);obtain⟨nd,b⟩:=d.get Zl;obtain⟨x,e⟩:=d.ce.get b;refine(vlogG (ι:=Unit) (Q:= λ_=>True) (Y:= λ_=>Y8 a.c (C.up id (RT x k s))) (n.split [3,0,1] [true,true,false,true,false] U) k s λf=>(qfb f e k s (by have :=(d.ok e).logl (k:=k);omega)).mono λew w h=>h.mono λv w h=>⟨(),trivial,h⟩).mono λew w h=>h.mono λv w h=> ?_;obtain⟨_,_,h⟩:=h;have o:=h.join rfl
  have q:PrS T (C.up id (RT x k s)) A (NI id W (Cn W k s)):=by
    by_cases j:id=0
    · subst j;rw[M1];exact l.log e
    · rw[RA j];exact l.setT j
  exact(XY (T:=T) (C:=C.up id (RT x k s)) (d.log hi e b m) q (Z8 (JQ (Nat.le_succ i) (Nat.le_succ i) (o.pick [3,1,2,0,4] U)))).pick [1,0,2] U
theorem Em {F:Th} (j:Sat w [Q6 vb [ptrV a.t 0,intV id],J1 a p i W ids g,F]) (Zl:id=0\/id∈ids) (hi:i+1<=400) (k:Bs):
    Calls prog 35 #[ptrV vb 0,strV k] w (Ret λv w'=> ∃s l,v=U5 s/\l.length<=100000/\(∀q∈l,q.length<=10)/\(id=0->U1 W.cells k l)/\Sat w' [rowT stC (U5 s) l,Q6 vb [ptrV a.t 0,intV id],J1 a p (i+1) W ids g,F]):=by
  obtain⟨T,last,C,A,b,m,B⟩:=Zu (j.pick [1,0,2] rfl);obtain⟨nd,d⟩:=b.get Zl;obtain⟨x,f⟩:=b.ce.get d;have D:=b.cb.dep d
  refine(vkeysG (ι:=OneD) (Q:= λx' l=>AskL 400 nd x k x'/\(l.length:Int)<=(nd.dep+1)*(400:Nat)/\(x.par=none->U1 (λq=>(x.writes q).getD []) k l)/\ ∀q∈l,q.length<=10) (Y:= λx'=>Y8 a.c (C.up id x')) (B.split [3,0,1] [true,true,false,true,false] U) k λj=>(IY j b.ce b.tri b.cb (by decide) f d (b.od f hi) k).mono λew w h=>h.mono λv w h=>by
    obtain⟨x',s,l,E,G,H,I,J,K⟩:=h;exact⟨x',s,l,G,⟨E,H,I,J⟩,K⟩).mono λew w h=>h.mono λv w h=> ?_
  obtain⟨x',s,l,rfl,⟨o,O,L,M⟩,h⟩:=h;have N:=h.join U
  have r:PrS T (C.up id x') A W/\(id=0->U1 W.cells k l):=by
    by_cases n:id=0
    · subst n;have u:=b.root f;have e:x'=x:=o.elim (λq=>q) λq=>absurd u q.1;subst e;rw[CeD.up_same f];obtain⟨y,b1,b2,_⟩:=m.rc;rw[f]at b1;cases b1;have z:=L u;rw[show(λq=>(x'.writes q).getD [])=W.cells from funext b2]at z;exact⟨m,λ_=>z⟩
    · exact⟨m.setT n,λq=>absurd q n⟩
  exact⟨s,l,rfl,by have :=Int.mul_le_mul_of_nonneg_right (show nd.dep+1<=101 by omega) (show(0:Int)<=(400:Nat)by omega);omega,M,r.2,(XY (T:=T) (C:=C.up id x') (b.askL hi f d o) r.1 (Z8 (JQ (Nat.le_succ i) (Nat.le_succ i) (N.pick [4,2,3,0,1,5] U)))).pick [1,2,0,3] U⟩
theorem O8 {F:Th} (f:Sat w [Q6 vb [ptrV a.t 0,intV id],J1 a p i W ids g,F]) (Zl:id=0\/id∈ids) (hi:i+1<=400) (n:Int) (o:0<=n/\n<=255):
    Calls prog 65 #[ptrV vb 0,intV n] w (Ret λv w'=>Sat w' [Q6 vb [ptrV a.t 0,intV id],J1 a p (i+1) (NI id W {W with time:=W.time+max n 0}) ids g,F]):=by
  obtain⟨T,last,C,A,c,e,j⟩:=Zu (f.pick [1,0,2] rfl);obtain⟨nd,b⟩:=c.get Zl;obtain⟨x,q⟩:=c.ce.get b;have r:=c.tm b;refine(FX (j.split [3,0] [true,false,false,true,false] U) b n (by omega)).mono λew w h=>h.mono λv w h=> ?_;have k:=h.join U;have l:=c.node (n':=elN nd n) b ⟨rfl,rfl,rfl,rfl⟩ (by show 0<=nd.el+max n 0/\nd.el+max n 0<=_;omega)
  have m:PrS (QN T id (some (elN nd n))) C A (NI id W {W with time:=W.time+max n 0}):=by
    by_cases d:id=0
    · subst d;rw[M1];exact e.elapse b n
    · rw[RA d];exact e.nodeT d
  exact(XY (T:=QN T id (some (elN nd n))) l m (Z8 (JQ (Nat.le_succ i) (Nat.le_succ i) (k.pick [3,1,2,0,4] U)))).pick [1,0,2] U
theorem qba {F:Th} (k:Sat w [Q6 vb [ptrV a.t 0,intV id],J1 a p i W ids g,F]) (Zl:id=0\/id∈ids) (hi:i+1<=400):
    Calls prog 67 #[ptrV vb 0] w (Ret λv w'=> ∃n,v=intV n/\0<=n/\n<=4611686018427387904/\(id=0->n=W.time)/\Sat w' [Q6 vb [ptrV a.t 0,intV id],J1 a p (i+1) W ids g,F]):=by
  obtain⟨T,last,C,A,c,f,l⟩:=Zu (k.pick [1,0,2] rfl);obtain⟨nd,b⟩:=c.get Zl;obtain⟨x,o⟩:=c.ce.get b;have q:=c.tm b;refine(O3 (l.split [3,0] [true,false,false,true,false] U) b (by omega)).mono λew w h=>h.mono λv w h=> ?_;obtain⟨rfl,h⟩:=h;have d:=h.join U;refine⟨_,rfl,by omega,by omega, ?_, ?_⟩
  · intro e;subst e;obtain⟨m,b1,b2,b3⟩:=f.tm;rw[b]at b1;cases b1;rw[b2,b3];omega
  · by_cases j:id=0
    · rw[if_pos j]at d;exact(XY (c.mono (Nat.le_succ i)) f (Z8 (JQ (Nat.le_succ i) (Nat.le_succ i) (d.pick [3,1,2,0,4] U)))).pick [1,0,2] U
    · rw[if_neg j]at d;exact(XY (c.node (n':=tmN nd) b ⟨rfl,rfl,rfl,rfl⟩ (by show 0<=nd.el/\nd.el<=_;omega)) (f.nodeT j) (Z8 (JQ (Nat.le_succ i) (Nat.le_succ i) (d.pick [3,1,2,0,4] U)))).pick [1,0,2] U
theorem tl_setb {F:Th} (k:Sat w [Q6 vb [ptrV a.t 0,intV id],J1 a p i W ids g,F]) (Zl:id=0\/id∈ids) (hi:i+1<=400) (ob:Bs) (at_:Int) (bt:UInt8) (r:0<=at_/\at_<16384) (y:id=0->g=none) (l:400<(default:SlW).f):
    Calls prog 21 #[ptrV vb 0,strV ob,intV at_,XV bt] w (Ret λv w'=>Sat w' [Q6 vb [ptrV a.t 0,intV id],J1 a p (i+1) (NI id W (Wb W ob at_ bt)) ids g,F]):=by
  obtain⟨T,last,C,A,j,n,s⟩:=Zu (k.pick [1,0,2] rfl);obtain⟨nd,d⟩:=j.get Zl;obtain⟨x,J⟩:=j.ce.get d;have m:=j.dm hi;by_cases o:id=0
  · subst o;obtain rfl:=y rfl;refine(qa2 (ι:=Unit) (Q:= λ_=>True) (Y:= λ_=>lsI a.b p (i+1) i {A with pres:=FQ A.pres ob at_ bt} λ_=>True) (X:=lsI a.b p i i A λ_=>True) (Sat.split (Z8 (YK (G':= λ_=>True) (λ_ _=>trivial) (Hk s))) [3,0,2] [true,false,true,true,false] U) d ob at_ bt λk=>(qdg k hi m l ob at_ bt r).mono λew w h=>h.mono λv w h=>⟨(),h.1,trivial,h.2⟩).mono λew w h=>h.mono λv w h=> ?_
    obtain⟨_,_,h⟩:=h;have q:=h.join rfl;rw[M1];have z:Sat w [lsI a.b p (i+1) i {A with pres:=FQ A.pres ob at_ bt} λ_=>True,Z5 a T last,Y8 a.c C,Q6 vb [ptrV a.t 0,intV 0],F]:=q.pick [2,1,3,0,4] U
    have B:=JQ (Nat.le_refl (i+1)) (Nat.le_succ i) z;have D:=YK (G':=GQ none) (λ_ _ _ e=>by cases e) B;exact(XY (A:={A with pres:=FQ A.pres ob at_ bt}) (j.setA λ_=>rfl) (n.pres (show VisP _ (Wb W ob at_ bt) from n.vis.wrU) (PagesOk.byte (W:=W) n.pg) (by unfold Wb;split<;>rfl) (by unfold Wb;split<;>rfl) (by unfold Wb;split<;>rfl)) (Z8 D)).pick [1,0,2] U
  · obtain⟨t,E⟩:=j.lvG o d;refine(qa2 (ι:=LvA) (Q:= λA'=>SamA A A') (Y:= λA'=>lsI a.b p (i+1) i A' (GQ g)) (s.split [3,0,2] [true,false,true,true,false] rfl) d ob at_ bt λk=>(qdf k hi m l E ob at_ bt r).mono λew w h=>h.mono λv w h=>by obtain⟨G,A',H,I⟩:=h;exact⟨A',G,H,I⟩).mono λew w h=>h.mono λv w h=> ?_;obtain⟨A',u,h⟩:=h;have q:=h.join U;rw[RA o];exact(XY (A:=A') (j.setA u.2) (n.sam u) (Z8 (JQ (Nat.le_refl _) (Nat.le_succ i) (q.pick [2,1,3,0,4] U)))).pick [1,0,2] U
theorem tl_copy {F:Th} (j:Sat w [Q6 vb [ptrV a.t 0,intV id],J1 a p i W ids g,F]) (Zl:id=0\/id∈ids) (hi:i+1<=400) (ob to:Bs) (fi cn aa:Int) (H:0<=fi/\fi<=3) (I:0<=cn/\cn<=3) (J:0<=aa/\aa<=3) (u:id=0->g=none) (k:400<(default:SlW).f):
    Calls prog 61 #[ptrV vb 0,strV ob,intV fi,intV cn,strV to,intV aa] w (Ret λv w'=>Sat w' [Q6 vb [ptrV a.t 0,intV id],J1 a p (i+1) (NI id W (Kz W ob fi cn to aa)) ids g,F]):=by
  obtain⟨T,last,C,A,d,l,r⟩:=Zu (j.pick [1,0,2] rfl);obtain⟨nd,m⟩:=d.get Zl;obtain⟨x,K⟩:=d.ce.get m;have n:=d.dm hi;by_cases o:id=0
  · subst o;obtain rfl:=u rfl;refine(qa4 (ι:=Unit) (Q:= λ_=>True) (Y:= λ_=>lsI a.b p (i+1) i {A with pres:=Fy A.pres ob fi cn to aa} λ_=>True) (X:=lsI a.b p i i A λ_=>True) (Sat.split (Z8 (YK (G':= λ_=>True) (λ_ _=>trivial) (Hk r))) [3,0,2] [true,false,true,true,false] U) ob to fi cn aa λj=>(qdk j hi n k ob to fi cn aa (by omega) (by omega) (by omega)).mono λew w h=>h.mono λv w h=>⟨(),trivial,h⟩).mono λew w h=>h.mono λv w h=> ?_
    obtain⟨_,_,h⟩:=h;have q:=h.join rfl;rw[M1];have y:Sat w [lsI a.b p (i+1) i {A with pres:=Fy A.pres ob fi cn to aa} λ_=>True,Z5 a T last,Y8 a.c C,Q6 vb [ptrV a.t 0,intV 0],F]:=q.pick [2,1,3,0,4] U
    have z:=JQ (Nat.le_refl (i+1)) (Nat.le_succ i) y;have B:=YK (G':=GQ none) (λ_ _ _ e=>by cases e) z;exact(XY (A:={A with pres:=Fy A.pres ob fi cn to aa}) (d.setA λ_=>rfl) (l.pres (show VisP _ (Kz W ob fi cn to aa) from l.vis.copy l.pg) (PagesOk.copy (W:=W) l.pg) U U U) (Z8 B)).pick [1,0,2] U
  · obtain⟨t,D⟩:=d.lvG o m;refine(qa4 (ι:=LvA) (Q:= λA'=>SamA A A') (Y:= λA'=>lsI a.b p (i+1) i A' (GQ g)) (r.split [3,0,2] [true,false,true,true,false] rfl) ob to fi cn aa λj=>(qdj j hi n k D ob to fi cn aa (by omega) (by omega) (by omega)).mono λew w h=>h.mono λv w h=>by obtain⟨A',E,G⟩:=h;exact⟨A',E,G⟩).mono λew w h=>h.mono λv w h=> ?_;obtain⟨A',s,h⟩:=h;have q:=h.join U;rw[RA o];exact(XY (A:=A') (d.setA s.2) (l.sam s) (Z8 (JQ (Nat.le_refl _) (Nat.le_succ i) (q.pick [2,1,3,0,4] U)))).pick [1,0,2] U
theorem tl_drop {F:Th} (j:Sat w [Q6 vb [ptrV a.t 0,intV id],J1 a p i W ids g,F]) (Zl:id=0\/id∈ids) (hi:i+1<=400) (ob:Bs) (u:id=0->g=none) (k:400<(default:SlW).f):
    Calls prog 62 #[ptrV vb 0,strV ob] w (Ret λv w'=>Sat w' [Q6 vb [ptrV a.t 0,intV id],J1 a p (i+1) (NI id W (UR W ob)) ids g,F]):=by
  obtain⟨T,last,C,A,d,n,r⟩:=Zu (j.pick [1,0,2] rfl);obtain⟨nd,l⟩:=d.get Zl;obtain⟨x,H⟩:=d.ce.get l;have m:=d.dm hi;by_cases o:id=0
  · subst o;obtain rfl:=u rfl;refine(qa3 (ι:=Unit) (Q:= λ_=>True) (Y:= λ_=>lsI a.b p (i+1) i {A with pres:=IG A.pres ob} λ_=>True) (X:=lsI a.b p i i A λ_=>True) (Sat.split (Z8 (YK (G':= λ_=>True) (λ_ _=>trivial) (Hk r))) [3,0,2] [true,false,true,true,false] U) ob λj=>(qdi j hi m k ob).mono λew w h=>h.mono λv w h=>⟨(),trivial,h⟩).mono λew w h=>h.mono λv w h=> ?_
    obtain⟨_,_,h⟩:=h;have q:=h.join rfl;rw[M1];have y:Sat w [lsI a.b p (i+1) i {A with pres:=IG A.pres ob} λ_=>True,Z5 a T last,Y8 a.c C,Q6 vb [ptrV a.t 0,intV 0],F]:=q.pick [2,1,3,0,4] U
    have z:=JQ (Nat.le_refl (i+1)) (Nat.le_succ i) y;have B:=YK (G':=GQ none) (λ_ _ _ e=>by cases e) z;exact(XY (A:={A with pres:=IG A.pres ob}) (d.setA λ_=>rfl) (n.pres (show VisP _ (UR W ob) from n.vis.drp) (n.pg.drop _) U U U) (Z8 B)).pick [1,0,2] U
  · obtain⟨t,D⟩:=d.lvG o l;refine(qa3 (ι:=LvA) (Q:= λA'=>SamA A A') (Y:= λA'=>lsI a.b p (i+1) i A' (GQ g)) (r.split [3,0,2] [true,false,true,true,false] rfl) ob λj=>(qdh j hi m k D ob).mono λew w h=>h.mono λv w h=>by obtain⟨A',E,G⟩:=h;exact⟨A',E,G⟩).mono λew w h=>h.mono λv w h=> ?_;obtain⟨A',s,h⟩:=h;have q:=h.join U;rw[RA o];exact(XY (A:=A') (d.setA s.2) (n.sam s) (Z8 (JQ (Nat.le_refl _) (Nat.le_succ i) (q.pick [2,1,3,0,4] U)))).pick [1,0,2] U
theorem Sg {P:KD->Bs} {ob:Bs} {a:Int} (h:VisP P W) (b:0<=a/\a<16384):btA (P (ob,a/ 64)) (a%64)=Hq W ob a:=by
  have :=qfx (ob:=ob) (a:=a) h
  rwa [if_pos b]at this
theorem tl_byte {F:Th} (d:Sat w [Q6 vb [ptrV a.t 0,intV id],J1 a p i W ids g,F]) (Zl:id=0\/id∈ids) (hi:i+1<=400) (ob:Bs) (at_:Int) (k:0<=at_/\at_<16384) (l:400<(default:SlW).f):
    Calls prog 23 #[ptrV vb 0,strV ob,intV at_] w (Ret λv w'=> ∃x,v=XV x/\(id=0->x=Hq W ob at_)/\Sat w' [Q6 vb [ptrV a.t 0,intV id],J1 a p (i+1) W ids g,F]):=by
  obtain⟨T,last,C,A,c,m,s⟩:=Zu (d.pick [1,0,2] rfl);obtain⟨nd,e⟩:=c.get Zl;obtain⟨x,E⟩:=c.ce.get e;have j:=c.dm hi;by_cases n:id=0
  · subst n;refine(FY (ι:=Unit) (Q:= λ_ x=>x=Hq W ob at_) (Y:= λ_=>lsI a.b p i i A (GQ g)) (s.split [3,0,2] [true,false,true,true,false] U) ob at_ λd=>(Tb d (by omega) j ob at_ k).mono λew w h=>h.mono λv w h=>⟨(),_,h.1,Sg m.vis k,h.2⟩).mono λew w h=>h.mono λv w h=> ?_;obtain⟨_,x1,rfl,o,h⟩:=h;have r:=h.join U;exact⟨x1,rfl,λ_=>o,(XY (c.mono (Nat.le_succ i)) m (Z8 (JQ (Nat.le_succ i) (Nat.le_succ i) (r.pick [2,1,3,0,4] U)))).pick [1,0,2] U⟩
  · obtain⟨t,y⟩:=c.lvG n e;refine(FY (ι:=LvA) (Q:= λA' _=>SamA A A') (Y:= λA'=>lsI a.b p (i+1) i A' (GQ g)) (s.split [3,0,2] [true,false,true,true,false] rfl) ob at_ λd=>(qdl d hi j l y ob at_ k).mono λew w h=>h.mono λv w h=>by obtain⟨x,z,A',B,D⟩:=h;exact⟨A',x,z,B,D⟩).mono λew w h=>h.mono λv w h=> ?_;obtain⟨A',x1,rfl,u,h⟩:=h;have r:=h.join U;exact⟨x1,rfl,λq=>absurd q n,(XY (A:=A') (c.setA u.2) (m.sam u) (Z8 (JQ (Nat.le_refl _) (Nat.le_succ i) (r.pick [2,1,3,0,4] U)))).pick [1,0,2] U⟩
theorem qbe {F:Th} (c:Sat w [Q6 vb [ptrV a.t 0,intV 0],J1 a p i W ids g,F]) (hi:i+1<=400) (ob:Bs) (at_:Int) (f:0<=at_/\at_<16384):
    Calls prog 23 #[ptrV vb 0,strV ob,intV at_] w (Ret λv w'=>v=XV (Hq W ob at_)/\Sat w' [Q6 vb [ptrV a.t 0,intV 0],J1 a p i W ids g,F]):=by
  obtain⟨T,last,C,A,j,k,l⟩:=Zu (c.pick [1,0,2] rfl);have d:=j.dm hi;refine(FY (ι:=Unit) (Q:= λ_ x=>x=Hq W ob at_) (Y:= λ_=>lsI a.b p i i A (GQ g)) (l.split [3,0,2] [true,false,true,true,false] U) ob at_ λc=>(Tb c (by omega) d ob at_ f).mono λew w h=>h.mono λv w h=>⟨(),_,h.1,Sg k.vis f,h.2⟩).mono λew w h=>h.mono λv w h=> ?_;obtain⟨_,x1,rfl,e,h⟩:=h;have m:=h.join U;exact⟨by rw[e],(XY j k (m.pick [1,3,2,0,4] U)).pick [1,0,2] U⟩
theorem qf7 {F:Th} (l:Sat w [J1 a p i W ids g,F]) (hi:i+1<=400) (m:ids.length<=30) {gu:Int} (n:0<=gu/\gu<=1099511627776):
    Calls prog 18 #[ptrV a.t 0,intV 0,intV gu] w (Ret λv w'=> ∃nid,nid≠0/\v= .tuple #[intV nid,intV 0]/\Sat w' [J1 a p (i+1) W (ids++[nid]) g,F]):=by
  obtain⟨T,last,C,A,c,o,s⟩:=Zu l;obtain⟨p0,d⟩:=c.get (.inl rfl);obtain⟨y,e⟩:=c.ce.get d;have u:=c.tri.last0;have z:=c.la
  have B:p0.dep=0:=by
    obtain⟨r,q,_,_,b⟩:=c.tri.root;rw[d]at q;cases q;exact b
  refine(Bp (s.split [0,1,2] [true,true,true,false] U) (by omega) (c.dm hi) c.tri c.ce c.few d e (guess:=gu) (by omega) (by omega) (by omega) (by omega)).mono λew w h=>h.mono λv w h=> ?_;rcases h with⟨G,_⟩ | ⟨_,rfl,x,D,f,j,k,h⟩
  · omega
  have E:=h.join U;exact⟨last+1,by omega,rfl,XY (c.begin hi d e D f j k n m) (o.begin e (by omega)) (Z8 (U6 (by omega) (Nat.le_refl _) (by omega) (by omega) (Hk E)))⟩
theorem EK {F:Th} (d:Sat w [J1 a p i W ids g,F]):
    Calls prog 15 #[ptrV a.t 0] w (Ret λv w'=> ∃l:List NodeD,l.map NodeD.id=ids/\l.length<=40/\Sat w' [rowT O7 v l,J1 a p i W ids g,F]):=by
  obtain⟨T,last,C,A,b,e,f⟩:=Zu d;refine(EJ (f.split [0] [true,false,false,false] U) b.few).mono λew w h=>h.mono λv w h=> ?_;have k:=h.join U;refine⟨Wn T ids, ?_,by unfold Wn;rw[List.length_map];exact b.few.2,(XY b e (k.pick [1,2,3,0,4] U)).pick [1,0,2] U⟩;unfold Wn;rw[List.map_map];refine(List.map_congr_left λj m=> ?_).trans (List.map_id ids);obtain⟨n,c⟩:=b.get (.inr m);show(nd T j).id=j;rw[KU c];exact b.tri.own c
theorem qak {T:Nodes} {m:Nat} {G:(KD->Int)->Prop} {F:Th} (r:Sat w [Z5 a T last,Y8 a.c C,lsI a.b p i m A G,F]) (hi:i+1<=400) (Q:m<ZO) (D:400<(default:SlW).f) (d:PI i T last C A ids) {n0:NodeD} (n:T id=some n0) (L:id≠0) (s: ∀j,¬ChildOf T id j) {x y:OneD} (R:C.all id=some x) (M:C.all n0.par=some y) {tA:TrA} (S:A.tr id=some tA):
    Calls prog 16 #[ptrV a.t 0,intV id] w (Ret λv w'=>v=intV 0/\Sat w' [Z5 a (QN T id none) last,Y8 a.c ⟨C.ma,QN (QN C.all n0.par (some {y with kids:=y.kids -1})) id none⟩,lsI a.b p (i+1) m (Kw A id) G,F]):=by
 have E:Yl T ids id=[]:=(Td d.few.1).2 s;have H:0<=y.kids/\y.kids<=100000000000:=by have :=d.ce.kid40 d.few M;omega
 have I: ∀ks,Came (XM OneD.ad C.all) ks->ks.length<=100000000000:= λks s=>by have :=d.few.came (g:=XM OneD.ad C.all) (λi hi q=>hi (by unfold XM;rw[(d.ce.dom i).2 q];rfl)) s;omega
 have J:=d.lv.kids s;replace r:=XW r;refine Qn func16 U ntmps16 U ?_;refine Qe<|Qa<|Qd U U<|Qf<|Qc<|Qe<|Qe<|Qa<|Qb U U<|Qj U U<|Qg U W6 U<|Qo U JG (r.cell 0 U U) U<|Qb U U<|Xn (k:=id) 1 r keysInt underlying90 U U U Jb (u:= .agg #[intV n0.id,intV n0.par,intV n0.dep,intV n0.gue,intV n0.el,.bool n0.timed,.bool n0.short]) (g:=true) (Jy n) (J3 n) U<|Qb U U<|Qr U U U<|Qr U U U<|Xc r Jb U U ?_;intro nb w1 V;refine QW V U U UB U (by rfl) (i:=0) U (by decide) ?_;intro w2 e;dsimp only[List.set]at e;have W:Sat w2 (Q6 nb [intV n0.id,intV n0.par,intV n0.dep,intV n0.gue,intV n0.el,.bool n0.timed,.bool n0.short]::_):=e;clear e;refine Qd U U<|Qf<|Qc<|Qh [1,0,4,6] U<|Qe<|Qa<|Qb U U<|QX U U<|Qb U U<|X9 20 U (λz=> ?_) (λz=> ?_)
 ·exact absurd z (by decide)
 refine Qk U U z<|Qb U U<|Qk U U z<|Xg U U U<|Q9 U z U U<|Qf<|Qc<|Qs U (λN=> ?_) (λN=> ?_)
 ·exact absurd N L
 refine Qt<|Qc<|Qe<|Qe<|Qa<|Qb U U<|Qb U U ?_;have X:=X1 (T:=T) (last:=last) (W.pick [1,2,0,3,4,5] U);refine Qw qfq U (Ds (X.sp [0] U) d.few d.tri id) U ?_;rintro _ w6 B;replace B:=B.jn U U;obtain⟨ak,ck,K,_⟩:=B.own_shape 0 rfl;obtain rfl:=K;refine Xl underlying24 U U<|Qb U U<|Qf<|Qc<|Qh [1,0,4,26,27,28] U<|Qx<|QU (λK0 E0 W0=> ∃(q:Nat),K0=0/\E0=[(0,ptrV a.t 0),(1,intV id),(26,.slice ak (Yl T ids id).length ck),(27,intV ((Yl T ids id).length:Int)),(28,intV (q:Int))]/\Sat W0 [Z5 a T last,Y8 a.c C,lsI a.b p i m A G,rowT inC (.slice ak (Yl T ids id).length ck) (Yl T ids id),F]) (L0:=[(0,_),(1,_),(26,_),(27,_),(28,_)]) (0) (Vb U U U U U) ⟨0,rfl,rfl,B.pick [1,3,4,0,5] U⟩ ?_;rintro _ _ w7 ⟨q,rfl,rfl,Y⟩;refine Qe<|Qa<|Xa U U U<|Qf<|Qc<|Qe<|Qs U (λO=> ?_) (λO=> ?_)
 ·exact absurd O (by rw[E];simp)
 refine QQ<|Qp<|Qp<|Qy<|Qc<|Qe ?_;have P:=XW (Y.pick [0,1,2,3,4] U);refine Qa<|Qb U U<|Qj U U<|Qg U Hl U<|Qo U R2 (P.cell 0 U U) U<|Qb U U<|Qw cal_44 U (LU (P.sp [2] U) d.ce d.tri R L n M H s I) U ?_;rintro _ Z h;replace h:=h.jn U U;refine Qf<|Qc<|Qh [1,0] U<|Qe<|Qa<|Qb U U<|Qj U U<|Qg U YO U<|Qo U K8 (h.cell 1 U U) U<|Qb U U ?_;refine Qw cal_45 U (qdm (h.sp [3] U) hi Q D S J (λks q1 q2=>by have :=LvP.len d.lv d.few q1 q2;omega)) U ?_;rintro _ a0 l;replace l:=l.jn U U;refine Qf<|Qc<|Qe<|Qa<|Qb U U<|Qj U U<|Qg U W6 U<|Qo U JG (l.cell 2 U U) U<|Qb U U<|Wf (k:=id) 3 l keysInt underlying90 U U U U ?_;intro a1 o;dsimp only[List.set]at o;rw[EH]at o;exact Qf (Qc (NF (L':=[]) .nil (Qe (Qa (Qd U U (Qf (Qc (Qu (QJ (.inr U) U U (⟨_,U,U,X1 (T:=QN T id none) (o.pick [2,3,1,0,5] U)⟩))))))))))
theorem qgm {F:Th} (m:Sat w [J1 a p i W (id::ids) g,F]) (hi:i+1<=400) (j:400<(default:SlW).f):
    Calls prog 16 #[ptrV a.t 0,intV id] w (Ret λv w'=>v=intV 0/\Sat w' [J1 a p (i+1) W ids g,F]):=by
  obtain⟨T,last,C,A,b,o,q⟩:=Zu m;have c:id∈id::ids:=List.mem_cons_self;have d:=((b.few.1.2 id).1 c).1;obtain⟨n,e⟩:=b.get (.inr c);obtain⟨x,l⟩:=b.ce.get e;obtain⟨y,k,_⟩:=b.ce.up d e l;obtain⟨t,r⟩:=b.lvG d e;obtain⟨s,u⟩:=b.del d e k rfl;refine(qak (q.split [0,1,2] [true,true,true,false] U) hi (b.dm hi) j b e d s l k r).mono λew w h=>h.mono λv w h=> ?_;obtain⟨rfl,h⟩:=h;have z:=h.join U;exact⟨U,XY u (o.del d (b.flat e d) k) (Z8 (JQ (Nat.le_refl _) (Nat.le_succ i) (Hk z)))⟩
theorem PI.noT {T:Nodes} (h:PI i T last C A []) (j:Int):A.tr j=none:=by
  by_cases e:j=0
  · rw[e];exact h.lv.zero
  · have a:=h.lv.par j e;have b:T j=none:=Decidable.byContradiction λq=>by have :=(h.few.1.2 j).2 ⟨e,q⟩;cases this
    rw[b]at a;cases q:A.tr j with
    | none=>rfl
    | some u=> rw[q]at a;cases a
theorem El {F:Th} (c:Sat w [J1 a p i W [] (some P),F]) (hi:i+1<=400):
    Calls prog 11 #[ptrV p 0] w (Ret λv w'=> ∃l,LiveP P l/\l.length<=400/\Sat w' [rowT inC v l,J1 a p i W [] (some P),F]):=by
  obtain⟨T,last,C,A,b,d,f⟩:=Zu c;refine(li_live (Sat.split (Z8 (YK (G':= λq=>q=P) (λq h=>h P U) (Hk f))) [2] [false,false,true,false] U) hi b.noT).mono λew w h=>h.mono λv w h=> ?_;obtain⟨l,b1,b2,h⟩:=h;have g:=h.join U;exact⟨l,b1,b2,(XY b d (Z8 (YK (G:= λq=>q=P) (λq h P2 e=>by cases e;exact h) (g.pick [1,2,3,0,4] U)))).pick [1,0,2] U⟩
theorem Ek {F:Th} (c:Sat w [J1 a p i W [] (some P),F]) (hi:i+1<=400) {s:Int} (d:s≠0):
    Calls prog 12 #[ptrV p 0,intV s] w (Ret λv w'=> ∃n:Nat,Cnt P s n/\v=intV (n:Int)/\Sat w' [J1 a p i W [] (some P),F]):=by
  obtain⟨T,last,C,A,b,f,g⟩:=Zu c;refine(li_refs (Sat.split (Z8 (YK (G':= λq=>q=P) (λq h=>h P U) (Hk g))) [2] [false,false,true,false] U) hi b.noT d).mono λew w h=>h.mono λv w h=> ?_;obtain⟨n,b1,b2,h⟩:=h;have j:=h.join U;exact⟨n,b1,b2,XY b f (Z8 (YK (G:= λq=>q=P) (λq h P2 e=>by cases e;exact h) (j.pick [0,1,2,3] U)))⟩
end Go.Proofs.YtifaibmhinlcfaaGreatDoor
namespace Go.Proofs.YtifaibmhinlcfaaGreatDoor
open Go.RowKit M Proofs.Tryz
variable {As:List Th} {W:WS} {c:Bs→Bs} {dn:Bs→Prop} {k pre:Bs} {l:List Bs} {p:Nat} {v:Value} {w:World}
theorem Is (a:Sat w As) (s t:Bs):Calls prog 80 #[strV s,strV t] w (Ret λv w'=>v= .bool (Lib.hasPrefix s t)/\Sat w' As):=
  (Tryz.strings_HasPrefix ⟨s.toArray⟩ ⟨t.toArray⟩ w).mono λe w' ⟨b,c⟩=>⟨_,b,rfl,by rw[c];exact a⟩
theorem sort0 (a:Sat w (rowT stC v l::As)) (b:l.length<4611686018427387904):Calls prog 82 #[v] w (Ret λu w'=>u= .tuple #[]/\Sat w' (rowT stC v (Wk l)::As)):=
  TM Tryz.slices_Sort_string Tryz.slices_Sort_string_none a b
def qgp (c:Bs->Bs) (pre:Bs) (l:List Bs):Prop:= ∃l0,l=Wk l0/\l0.Nodup/\ ∀k,k∈l0↔c k≠[]/\Lib.hasPrefix k pre=true
structure KeysIn (c:Bs→Bs) (n:Nat):Prop where
  few: ∃ks:List Bs,ks.length≤n∧ ∀k,c k≠[]→k∈ks
  short: ∀k,c k≠[]→k.length≤1000
structure KSt (c:Bs→Bs) (pre:Bs) (dn:Bs→Prop) (l:List Bs):Prop where
  nodup:l.Nodup
  mem: ∀k,k∈l↔dn k∧Lib.hasPrefix k pre=true
  dn: ∀k,dn k→c k≠[]
theorem F7 (h:XD c k=some v):c k≠[]:=by
  unfold XD at h;split at h
  · cases h
  · assumption
theorem KSt.len {n:Nat} (h:KSt c pre dn l) (a:KeysIn c n):l.length<=n:=by
  obtain⟨ks,e,b⟩:=a.few;have :=List.Nodup.length_le_of_subset h.nodup (λx d=>b x (h.dn x ((h.mem x).1 d).1));omega
theorem KSt.start (c:Bs->Bs) (pre:Bs):KSt c pre (λ_=>False) []:=⟨List.nodup_nil,by simp,λ_ h=>h.elim⟩
theorem KSt.yes (h:KSt c pre dn l) (f: ¬dn k) (g:c k≠[]) (i:Lib.hasPrefix k pre=true):KSt c pre (λj=>dn j\/j=k) (l++[k]) where
  nodup:=by
    refine List.nodup_append.2 ⟨h.nodup,by simp, ?_⟩;rintro a m b e rfl;simp at e;subst e;exact f ((h.mem _).1 m).1
  mem:= λj=>by
    rw[List.mem_append,h.mem j];simp only[List.mem_singleton];constructor
    · rintro(⟨a,b⟩ | rfl)
      · exact⟨.inl a,b⟩
      · exact⟨.inr U,i⟩
    · rintro⟨a | rfl,b⟩
      · exact .inl ⟨a,b⟩
      · exact .inr U
  dn:= λj d=>by rcases d with d | rfl;exact h.dn j d;exact g
theorem KSt.no (h:KSt c pre dn l) (e:c k≠[]) (f:Lib.hasPrefix k pre=false):KSt c pre (λj=>dn j\/j=k) l where
  nodup:=h.nodup
  mem:= λj=>by
    rw[h.mem j];constructor
    · rintro⟨a,b⟩;exact⟨.inl a,b⟩
    · rintro⟨a | rfl,b⟩
      · exact⟨a,b⟩
      · rw[f]at b;cases b
  dn:= λj d=>by rcases d with d | rfl;exact h.dn j d;exact e
theorem KSt.done (h:KSt c pre dn l) (hd: ∀k v,XD c k=some v->dn k):qgp c pre (Wk l):=by
  refine⟨l,rfl,h.nodup,λk=> ?_⟩;rw[h.mem k];refine and_congr_left λ_=>⟨h.dn k,λa=>hd k (strV (c k)) ?_⟩;simp [XD,a]
theorem qdq {LL:WL} {F X:Th} (a:PagesOk W.objs) (h:Sat w [Q4 Xo LL.bc (XD W.cells),Q6 p (JW LL W.time),GA LL.bo W.objs,Q4 Xo LL.bl (XD W.logs),F,X]):Sat w [X,Xv p W,F]:=by
  have b:=ZY (W:=W) (As:=[F,X]) LL a (h.reorder [1,0,2,3,4,5] U);exact b.reorder [2,0,1] U
theorem EO {F:Th} (i:Sat w [Xv p W,F]) (pre:Bs) (u:KeysIn W.cells 100000000000):
    Calls prog 33 #[ptrV p 0,strV pre] w (Ret λv w'=> ∃l,qgp W.cells pre l/\Sat w' [rowT stC v l,Xv p W,F]):=by
 obtain⟨LL,A,i⟩:=ZJ i;refine Qn func33 U ntmps33 U ?_;refine Qe<|Qa<|Qd U U<|Qf<|Qc<|Qe<|Qa<|Qd U U<|Qf<|Qc<|Qe<|Qe<|Qa<|Qb U U<|Qj U U<|Qg U DY U<|Qo U JX (i.cell 0 U U) U ?_;have m:=i.row_nil stC;refine WN 2 m underlying61 U U U ?_;intro RR left0 wR f;dsimp only[List.set]at f;refine Qf<|Qc<|Qx<|QU (λK0 E0 W0=> ∃(dn:Bs->Prop) (cur:Option Bs) (left:Nat) (ov:Value) (l:List Bs),K0=1*left/\E0=[(1,strV pre),(5,ov),(11,ptrV RR 0)]/\Sat W0 [rowT stC ov l,WI Xo LL.bc RR (XD W.cells) dn cur left,Q6 p (JW LL W.time),GA LL.bo W.objs,Q4 Xo LL.bl (XD W.logs),F]/\(KSt W.cells pre dn l)) (L0:=[(1,_),(5,_),(11,_)]) (1*left0) (VG U U U) ⟨_,_,_,_,_,rfl,rfl,f.reorder [0,2,1,3,4,5] U,KSt.start _ _⟩ ?_;rintro _ _ E ⟨dn,cur,left,ov,l,rfl,rfl,n,a⟩;have B:=a.len u;have x:ov.oneCell'=true:=n.own_one 0 U;refine Qe<|Qa<|JA 1 n keysStr.inj U U U (λb=> ?_) (λk v left2 w2 o g q c=> ?_)
 ·refine Qr U U U<|Qf<|Qc<|Qe<|QM U<|QQ<|Qp<|Qp<|Qy<|Qc<|Qe<|Qa<|Qb U U<|Qw qfi U (sort0 (n.sp [0] U) (by omega)) U ?_;rintro _ w2 ⟨rfl,c⟩;replace c:=c.jn U U;refine Qf<|Qc<|Qe<|Qa<|Qb U U<|Qd U U<|Qf<|Qc<|Qu<|QJ (.inr U) U U ?_;have h:=c.reorder [1,2,3,4,5,0] U;dsimp only[Yu,Ub]at h;exact⟨_,U,_,a.done b,qdq A (Wh h)⟩
 dsimp only[List.set]at c;have d:=F7 g;have C:=u.short k d;refine Qr U U U<|Qf<|Qc<|Qe<|Xm U<|Qt<|Qc<|Qx<|Qe<|Qa<|Jc 1 c U g U U<|Qr U U U<|Qd U U<|Qf<|Qc<|Qe<|Qa<|Qb U U<|Qb U U<|Qw qfj U (Is (c.sp [] U) k pre) U ?_;rintro _ G ⟨rfl,j⟩;replace j:=j.jn U U;refine Qf<|Qc<|Qh [11,5,1,6,18] U<|QR U (λr=> ?_) (λr=> ?_)
 ·have e:Lib.hasPrefix k pre=true:=r;refine Qa<|Qb U U<|Qb U U<|Qw Gf U (Uj (j.sp [] U) k (by omega)) U ?_;rintro _ H ⟨rfl,s⟩;replace s:=s.jn U U;refine X8 stC [k] s U underlying83 ifz_9 U U U U (by rfl) rfl ?_;intro I J y;refine Zx stC 1 y U U U (y.rd 0 U (by simp)) underlying83 underlying83 (by intro k D;cases D) qdy U (by simp;omega) U (by simp;omega) ?_;intro v7 K t;dsimp only[List.set]at t;have z:v7.oneCell'=true:=t.own_one 1 U;exact Qd U U (Qf (Qm (Q5 (L1:=[(1,_),(5,_),(11,_)]) (VG U U U) (k1:=1*left2) (by omega) ⟨_,_,_,_,_,rfl,rfl,t.pick [1,2,3,4,5,6] U,a.yes q d e⟩)))
 have e:Lib.hasPrefix k pre=false:=r;exact Qt (Qm (Q5 (L1:=[(1,_),(5,_),(11,_)]) (VG U U U) (k1:=1*left2) (by omega) ⟨_,_,_,_,_,rfl,rfl,j.pick [0,1,2,3,4,5] U,a.no d e⟩))
variable [Inhabited SlW]
structure StD where
  d:Int
  a:Bs
  b:Bs
  x:Int
  y:Int
  z:Int
def So (s:StD):List Value:=[intV s.d,strV s.a,strV s.b,intV s.x,intV s.y,intV s.z]
def FM:RowC StD:=⟨So,6,by decide,λ_=>rfl,λ_=>rfl⟩
def Y9 (s:StD):Prop:=s.a.length<=10/\s.b.length<=10/\(0<=s.x/\s.x<=255)/\(0<=s.y/\s.y<=255)/\(0<=s.z/\s.z<=255)
def MC (s:Bs):Bs:=s.drop (s.length -20)
theorem RE (s:Bs):(MC s).length<=20:=by unfold MC;rw[List.length_drop];omega
def Ry (l:List Bs):Bs:=l.flatMap λk=>k++[44]
theorem Ir (h: ∀k∈l,k.length<=10):(Ry l).length<=11*l.length:=by
  induction l with
  | nil=> simp [Ry]
  | cons k l ih=>
    have c:=h k List.mem_cons_self;have a:=ih λq b=>h q (List.mem_cons_of_mem _ b);unfold Ry at a⊢;simp only[List.flatMap_cons,List.length_append,List.length_cons,List.length_nil];omega
def Nq (l:List Bs):Bs:=(Ry l).take 40
theorem BM (l:List Bs):(Nq l).length<=40:=by unfold Nq;rw[List.length_take];omega
def Fw:Nat->Nat->Bs
  | 0,_=>[]
  | f+1,n=> if n<10 then[UInt8.ofNat (48+n)]else Fw f (n/ 10)++[UInt8.ofNat (48+n%10)]
theorem TD: ∀f n,(Fw f n).length<=f
  | 0,_=>Nat.le_refl _
  | f+1,n=>by
    unfold Fw;split
    · simp
    · have :=TD f (n/ 10);simp;omega
def qev (n:Int):Bs:=Fw 19 n.toNat
theorem TC (n:Int):(qev n).length<=40:=by have :=TD 19 n.toNat;unfold qev;omega
noncomputable def EP (W:WS) (k:Bs):List Bs:=open Classical in if h: ∃l,U1 W.cells k l then h.choose else[]
theorem SR {m:List Bs} (h:U1 c k l) (d:U1 c k m):l=m:=by
  obtain⟨a,rfl,j,f⟩:=h;obtain⟨b,rfl,n,g⟩:=d;have o:a.Perm b:=(List.perm_ext_iff_of_nodup j n).2 λq=>(f q).trans (g q).symm
  have i: ∀l:List Bs,(Wk l).Pairwise λa b=>a<=b:= λl=>by
    have :=List.pairwise_mergeSort (le:= λx y:Bs=>decide (x<=y)) (λa b c e d=>by simp at e d⊢;exact List.le_trans e d) (λa b=>by simp;exact List.le_total a b) l;exact this.imp λh=>by simpa using h
  exact List.Perm.eq_of_pairwise (λa b _ _ e d=>List.le_antisymm e d) (i a) (i b) (((Y1 a).trans o).trans (Y1 b).symm)
theorem SQ (h:U1 W.cells k l):EP W k=l:=by
  have a: ∃l,U1 W.cells k l:=⟨l,h⟩;unfold EP;rw[dif_pos a];exact SR a.choose_spec h
noncomputable def WA (W:WS) (s:StD):WS:=
  if s.d=0 then Rn W s.b (MC (W.cells s.a++[120]))
  else if s.d=1 then Wb W s.b s.y (Hq W s.a s.x+UInt8.ofNat s.z.toNat)
  else if s.d=2 then Kz W s.a (s.x%4) (s.z%4) s.b (s.y%4)
  else if s.d=3 then UR W s.a
  else if s.d=4 then Rn W s.b (Nq (EP W s.a))
  else if s.d=5 then Cn W s.b (W.cells s.a++[59])
  else if s.d=6 then{W with time:=W.time+max s.x 0}
  else if s.d=7 then Rn W s.b (qev W.time)
  else if s.d=8 then W
  else if s.d=9 then Rn W s.a []
  else W
def VD (W:WS) (s:StD):Bool:=decide (s.d=8/\W.cells s.a=[])
noncomputable def runF:Bool->WS->List StD->WS
  | _,W,[]=>W
  | true,W,_::l=>runF false W l
  | false,W,s::l=>runF (VD W s) (WA W s) l
theorem OR {l:List StD}:runF true W l=runF false W (l.drop 1):=by cases l<;>rfl
theorem E5 {l:List StD} {k:Nat} {s:StD} (h:l[k]? =some s):runF false W (l.drop k)=runF false (WA W s) (l.drop (k+ if VD W s then 2 else 1)):=by
  have e:l.drop k=s::l.drop (k+1):=by
    obtain⟨a,b⟩:=Za h;rw[List.drop_eq_getElem_cons a,b]
  rw[e];show runF (VD W s) (WA W s) (l.drop (k+1))=_;cases VD W s with
  | false=>rfl
  | true=> rw[OR,List.drop_drop];rfl
noncomputable def RK (W:WS) (l:List StD):WS:=runF false W l
structure WOk (i:Nat) (W:WS):Prop where
  ks: ∃ks:List Bs,ks.length≤i∧ ∀k,W.cells k≠[]→k∈ks∧k.length≤10
  vl: ∀k,(W.cells k).length≤40
  lg: ∀k,(W.logs k).length≤50*i
  tm:0≤W.time∧W.time≤300*i
section
variable {i j:Nat} {W:WS} {s:StD} {k v:Bs}
theorem WOk.mono (h:WOk i W) (c:i<=j):WOk j W:=⟨by obtain⟨ks,a,b⟩:=h.ks;exact⟨ks,by omega,b⟩,h.vl,λk=>by have :=h.lg k;omega,by have :=h.tm;omega⟩
theorem WOk.keysIn (h:WOk i W) (hi:i<=1000):KeysIn W.cells 100000000000:=by
  obtain⟨ks,a,b⟩:=h.ks;exact⟨⟨ks,by omega,λk c=>(b k c).1⟩,λk c=>by have :=(b k c).2;omega⟩
theorem WOk.keys (h:WOk i W) (f:U1 W.cells k l):l.length<=i/\ ∀q∈l,q.length<=10:=by
  obtain⟨l0,rfl,a,b⟩:=f;obtain⟨ks,c,d⟩:=h.ks;refine⟨?_,λq e=>(d q ((b q).1 ((Y1 l0).mem_iff.1 e)).1).2⟩;rw[(Y1 l0).length_eq];exact Nat.le_trans (List.Nodup.length_le_of_subset a λq e=>(d q ((b q).1 e).1).1) c
theorem WOk.same (h:WOk i W) {W2:WS} (a:W2.cells=W.cells) (b:W2.logs=W.logs) (c:W2.time=W.time):WOk (i+1) W2:=by
  have :=h.mono (show i<=i+1 by omega);exact⟨by rw[a];exact this.ks,by rw[a];exact this.vl,by rw[b];exact this.lg,by rw[c];exact this.tm⟩
theorem WOk.put (h:WOk i W) (f:k.length<=10) (g:v.length<=40):WOk (i+1) (Rn W k v):=by
  have d:=h.mono (show i<=i+1 by omega);refine⟨?_,λq=> ?_,d.lg,d.tm⟩
  · obtain⟨ks,a,b⟩:=h.ks;refine⟨k::ks,by simp;omega,λq c=> ?_⟩;by_cases e:q=k
    · subst e;exact⟨List.mem_cons_self,f⟩
    · have c:Um W.cells k v q≠[]:=c;unfold Um at c;rw[if_neg e]at c;exact⟨List.mem_cons_of_mem _ (b q c).1,(b q c).2⟩
  · show(Um W.cells k v q).length<=40;unfold Um;split
    · exact g
    · exact h.vl q
theorem WOk.step (h:WOk i W) (e:Y9 s):WOk (i+1) (WA W s):=by
  obtain⟨f,d,g,j,k⟩:=e;have c:=h.mono (show i<=i+1 by omega);unfold WA;split
  · exact h.put d (by have :=RE (W.cells s.a++[120]);omega)
  split
  · refine h.same ?_ ?_ ?_<;>(unfold Wb;split<;>rfl)
  split
  · exact h.same U U U
  split
  · exact h.same U U U
  split
  · exact h.put d (BM _)
  split
  · unfold Cn;split
    · exact c
    · refine⟨c.ks,c.vl,λq=> ?_,c.tm⟩;show(Um W.logs s.b _ q).length<=_;unfold Um;split
      · have :=h.lg s.b;have :=h.vl s.a;simp;omega
      · exact c.lg q
  split
  · refine⟨c.ks,c.vl,c.lg, ?_⟩;show 0<=W.time+max s.x 0/\W.time+max s.x 0<=_;have :=h.tm;omega
  split
  · exact h.put d (TC _)
  split
  · exact c
  split
  · exact h.put f (by simp)
  · exact c
theorem wok_empty:WOk 0 emptyW:=⟨⟨[],Nat.le_refl _,λk a=>absurd U a⟩,λ_=>by simp [emptyW],λ_=>by simp [emptyW],by simp [emptyW]⟩
end
