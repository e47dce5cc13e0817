/- move: two ends and a link, plain -/
import Derived.Test.YtiibgheijbbmaaaGreatDoorMv0
import Derived.Test.YtiibgheijbbmaaaGreatDoorOp4
import Derived.Test.YtiibgheijbbmaaaGreatDoorWire
import Derived.Lib.Builder
import Derived.Lib.UnsafeStr
import Derived.Laws.AppendOwn
import Derived.Laws.Externs
import Derived.LaidEql
import Derived.Test.YtiibgheijbbmaaaGreatDoorWr
set_option linter.unusedVariables false
set_option maxRecDepth 100000
namespace Go.Proofs.YtiibgheijbbmaaaGreatDoor
open Go.RowKit M Proofs.Tryz
def XM (E:EnD) (s:Bs):Int×EnD:=
  if Z5 E=false then(7,E)else if 1048576<s.length then(6,E)else(0,{E with ses:=E.ses.map fun x=>{x with state:=s}})
def GP (n:Int):Int:= if n=9223372036854775807 then -9223372036854775808 else n+1
theorem Oc {n:Int} (h:Xy n):Xy (GP n):= by unfold GP Xy at *;split<;>omega
theorem Ob {n:Int} (h:n<9223372036854775807):GP n=n+1:= by unfold GP; rw[if_neg (by omega)]
def Xx (E:EnD) (id:Int) (d:Bs):Int×EnD:=
  if Z5 E=false then(7,E)else if id<1∨1099511627776<id∨d.length≠64 then(1,E)else match E.ses with
  | none=>(7,E)
  | some s=> if QN s.pages id=none∧8192≤s.pages.length then(6,E)
    else(0,{E with ses:=some {s with count:=GP s.count,pages:=X6 id ⟨d,GP s.count,((QN s.pages id).map PgD.sent).getD 0,false⟩ s.pages}})
def XN (E:EnD) (id:Int):Int×EnD:=
  if Z5 E=false then(7,E)else match E.ses with
  | none=>(7,E)
  | some s=> if QN s.pages id=none then(4,E)else(0,{E with ses:=some {s with pages:=Yt s.pages id}})
structure TwD where
  a:EnD
  b:EnD
  fl:List (Bool×Bs)
  cut:Bool
def Q6 (X:TwD) (i:Bool):EnD:= if i=true then X.b else X.a
def Z2 (X:TwD) (i:Bool) (E:EnD):TwD:= if i=true then{X with b:=E}else{X with a:=E}
def Jb (X:TwD) (i:Bool) (s:Bs):TwD:= if X.cut=true∨500≤X.fl.length then X else{X with fl:=X.fl++[(!i,s)]}
def ZO (X:TwD) (i:Bool) (l:List Bs):TwD:=l.foldl (fun X s=>Jb X i s) X
def ZU (n m:Int):Int:= if m<1 then 0 else n%m
def BU (X:TwD) (n:Int):TwD:={X with fl:=X.fl.eraseIdx (ZU n X.fl.length).toNat}
def XQ (X:TwD) (n:Int):TwD:= match X.fl[(ZU n X.fl.length).toNat]? with
  | none=>X
  | some p=>ZO (Z2 (BU X n) p.1 (X9 (Q6 X p.1) p.2).1) p.1 (X9 (Q6 X p.1) p.2).2
def GC (X:TwD) (n:Int):TwD:= match X.fl[(ZU n X.fl.length).toNat]? with
  | none=>X
  | some p=> if 500≤X.fl.length then X else{X with fl:=X.fl++[p]}
structure OpD where
  dO:Int
  n:Int
  id:Int
  b:UInt8
  s:Bs
  keep:List Int
instance:Inhabited OpD:=⟨⟨0,0,0,0,[],[]⟩⟩
def YX (X:TwD) (i:Bool) (r:Int×EnD):Int×TwD:=(r.1,Z2 X i r.2)
def Wy (X:TwD) (o:OpD):Int×TwD:=
  let k:=o.dO%32
  let i:=decide (o.n%2=1)
  let E:=Q6 X i
  if k=8 then(0,BU X o.n)
  else if k=9 then(0,GC X o.n)
  else if 10≤k∧k≤13 then(0,ZO (Z2 X i (X7 E).1) i (X7 E).2)
  else if k=14 then YX X i (Wi E)
  else if k=15 then YX X i (Zb E)
  else if k=16 then YX X i (HC E)
  else if k=17∨k=18 then YX X i (Xx E o.id (List.replicate 64 o.b))
  else if k=19 then YX X i (XN E o.id)
  else if k=20 then YX X i (XM E o.s)
  else if k=21 then(0,Z2 X i (FH E o.keep))
  else if k=22∨k=23 then YX X i (UW E)
  else if k=24 then(0,Z2 X i {E with D:=armD E.D o.id o.keep})
  else if k=25 then(0,Z2 X i {E with D:={E.D with lost:=o.id%4}})
  else if k=26 then(0,{X with cut:=true,fl:=[]})
  else if k=27 then(0,{X with cut:=false})
  else if k=28 then(if(WD E).1=1 then YX X i (Z3 E ⟨o.s,[]⟩)else(0,X))
  else(0,XQ X o.n)
def Mo (fl:List (Bool×Bs)) (i:Bool):PM→Prop:= fun m=> ∃p∈fl,p.1=i∧m=MX p.2
def IN2 (a b:EnD) (fl:List (Bool×Bs)) (i:Bool) (t:Int):Prop:= ∃S S',EI a S∧EI b S'∧PP (HS a S) (HS b S') (Mo fl (!i)) (Mo fl i)∧(∀x,S x→x.2≤t)∧(∀x,S' x→x.2≤t)
def INV (X:TwD) (t:Int):Prop:=IN2 X.a X.b X.fl false t
theorem IN2.swap {a b:EnD} {fl:List (Bool×Bs)} {i:Bool} {t:Int} (h:IN2 a b fl i t):IN2 b a fl (!i) t:= by
  obtain⟨S,S',h1,h2,h3,h4,h5⟩:=h
  refine⟨S',S,h2,h1, ?_,h5,h4⟩
  rw[Bool.not_not]
  exact h3.swap
theorem INV.at {X:TwD} {t:Int} (h:INV X t) (i:Bool):IN2 (Q6 X (!i)) (Q6 X i) X.fl (!i) t:= by
  cases i with
  | false=> exact h.swap
  | true=> exact h
theorem INV.of {X:TwD} {t:Int} {i:Bool} (h:IN2 (Q6 X (!i)) (Q6 X i) X.fl (!i) t):INV X t:= by
  cases i with
  | false=> exact h.swap
  | true=> exact h
theorem IN2.less {a b:EnD} {fl fl':List (Bool×Bs)} {i:Bool} {t:Int} (h:IN2 a b fl i t) (hf: ∀p∈fl',p∈fl):IN2 a b fl' i t:= by
  obtain⟨S,S',h1,h2,h3,h4,h5⟩:=h
  exact⟨S,S',h1,h2,h3.less (fun m ⟨p,hp,q⟩=>⟨p,hf p hp,q⟩) (fun m ⟨p,hp,q⟩=>⟨p,hf p hp,q⟩),h4,h5⟩
theorem IN2.wide {a b:EnD} {fl:List (Bool×Bs)} {i:Bool} {t t':Int} (h:IN2 a b fl i t) (ht:t≤t'):IN2 a b fl i t':= by
  obtain⟨S,S',h1,h2,h3,h4,h5⟩:=h
  exact⟨S,S',h1,h2,h3, fun x hx=>Int.le_trans (h4 x hx) ht, fun x hx=>Int.le_trans (h5 x hx) ht⟩
theorem Ew {X:TwD} {i:Bool} {s:Bs} {p:Bool×Bs} (h:p∈(Jb X i s).fl):p∈X.fl∨p=(!i,s):= by
  unfold Jb at h
  split at h
  · exact .inl h
  · exact(List.mem_append.1 h).imp id List.mem_singleton.1
theorem Vo {i:Bool} {p:Bool×Bs}: ∀{l:List Bs} {X:TwD},p∈(ZO X i l).fl→p∈X.fl∨ ∃s∈l,p=(!i,s)
  | [],_,h=> .inl h
  | s::l,X,h=> by
    rcases Vo (l:=l) (X:=Jb X i s) h with q | ⟨s',hs,q⟩
    · exact(Ew q).imp id fun r=>⟨s,List.mem_cons_self,r⟩
    · exact .inr ⟨s',List.mem_cons_of_mem _ hs,q⟩
theorem SY {X:TwD} {i:Bool} {s:Bs}:(Jb X i s).a=X.a∧(Jb X i s).b=X.b∧(Jb X i s).cut=X.cut:= by
  unfold Jb;split<;> exact⟨rfl,rfl,rfl⟩
theorem VB {i:Bool}: ∀{l:List Bs} {X:TwD},(ZO X i l).a=X.a∧(ZO X i l).b=X.b∧(ZO X i l).cut=X.cut
  | [],_=>⟨rfl,rfl,rfl⟩
  | s::l,X=> by
    obtain⟨a,b,c⟩:=VB (i:=i) (l:=l) (X:=Jb X i s)
    obtain⟨d,e,f⟩:=SY (X:=X) (i:=i) (s:=s)
    exact⟨a.trans d,b.trans e,c.trans f⟩
theorem WN {i j:Bool} {l:List Bs} {X:TwD}:Q6 (ZO X i l) j=Q6 X j:= by
  obtain⟨a,b,_⟩:=VB (i:=i) (l:=l) (X:=X)
  unfold Q6; rw[a,b]
theorem Jx {X:TwD} {i:Bool} {E:EnD}:Q6 (Z2 X i E) i=E:= by cases i<;>rfl
theorem Yg {X:TwD} {i:Bool} {E:EnD}:Q6 (Z2 X i E) (!i)=Q6 X (!i):= by cases i<;>rfl
theorem WE {X:TwD} {i:Bool} {E:EnD}:(Z2 X i E).fl=X.fl:= by cases i<;>rfl
theorem YS {X:TwD} {i:Bool}:Z2 X i (Q6 X i)=X:= by cases X; cases i<;>rfl
theorem INV.said {X Y:TwD} {t:Int} {i:Bool} (h:INV X t) {E:EnD} {out:List Bs} (hY: ∀p∈Y.fl,p∈X.fl) (hE:Q6 Y (!i)=Q6 X (!i))
    (hs: ∀{S S'},EI (Q6 X (!i)) S→EI (Q6 X i) S'→PP (HS (Q6 X (!i)) S) (HS (Q6 X i) S') (Mo X.fl i) (Mo X.fl (!i))→JG (HS (Q6 X (!i)) S) S' E (Mo X.fl i) (Mo X.fl (!i)) out):INV (ZO (Z2 Y i E) i out) t:= by
  refine INV.of (i:=i) ?_
  rw[WN,WN,Jx,Yg,hE]
  obtain⟨S,S',h1,h2,h3,h4,h5⟩:=h.at i
  rw[Bool.not_not]at h3
  obtain⟨T,k1,k2,k3⟩:=hs h1 h2 h3
  refine⟨S,T,h1,k1, ?_,h4,k3 t h5 h4⟩
  rw[Bool.not_not]
  refine k2.less (fun m ⟨p,hp,q⟩=> ?_) fun m ⟨p,hp,q⟩=> ?_
  · rcases Vo hp with r | ⟨s,_,r⟩
    · exact⟨p,hY p (WE▸r),q⟩
    · have :=q.1; rw[r]at this; cases i<;> cases this
  · rcases Vo hp with r | ⟨s,hs,r⟩
    · exact .inl ⟨p,hY p (WE▸r),q⟩
    · exact .inr ⟨s,hs, by rw[q.2,r]⟩
theorem INV.mute {X:TwD} {t:Int} {i:Bool} (h:INV X t) {E:EnD} (hs: ∀{S S'},EI (Q6 X (!i)) S→EI (Q6 X i) S'→PP (HS (Q6 X (!i)) S) (HS (Q6 X i) S') (Mo X.fl i) (Mo X.fl (!i))→JG (HS (Q6 X (!i)) S) S' E (Mo X.fl i) (Mo X.fl (!i)) []):INV (Z2 X i E) t:=
  h.said (Y:=X) (out:=[]) (fun _ q=>q) Qa hs
theorem INV.less {X Y:TwD} {t:Int} (h:INV X t) (h1:Y.a=X.a) (h2:Y.b=X.b) (hf: ∀p∈Y.fl,p∈X.fl):INV Y t:= by
  unfold INV; rw[h1,h2]
  exact IN2.less h hf
theorem MR {X:TwD} {t n:Int} (h:INV X t):INV (XQ X n) t:= by
  unfold XQ
  cases hp:X.fl[(ZU n X.fl.length).toNat]? with
  | none=> exact h
  | some p=>
    dsimp only
    have hm:p∈X.fl:=List.mem_of_getElem? hp
    exact h.said (Y:=BU X n) (fun q hq=>List.mem_of_mem_eraseIdx hq) Qa fun h1 h2 h3=>Aj h2 h3 ⟨p,hm,rfl,rfl⟩
section
variable {I:PE} {E E':EnD} {S:KM→Prop} {Mi Mj:PM→Prop}
theorem JV (hi:EI E S) (h:PP I (HS E S) Mi Mj):JG I S E Mi Mj []:=⟨S,hi,H0 h,Bnd.same _ _⟩
theorem GX (hi:EI E S) (h:PP I (HS E S) Mi Mj) (h1:E'.D=E.D) (h2:E'.cell=E.cell) (h3:E'.kind=E.kind) (h4:E'.move=E.move) (h5:E'.active=E.active) (h6:E'.frozen=E.frozen):JG I S E' Mi Mj []:=
  YQ hi h h1 h2 h3 h4 h5 h6 fun b hb=> by cases hb
theorem SP {S':KM→Prop} (hi:EI E' S') (h:PP I (HS E S) Mi Mj) (hs: ∀x,S' x→S x) (ha:E'.active=false):JG I S E' Mi Mj []:=
  ⟨S',hi,H0 ((h.swap.quiet (I':=HS E' S') hs hi.ne (fun hu x=>UX hi hu x) (by show ¬E'.active=true; rw[ha]; exact Bool.false_ne_true)).swap), fun t a _ x hx=>a x (hs x hx)⟩
theorem JO (h: ¬Z5 E=false):E.cell≠none∧E.kind=1∧E.frozen=false∧ ∃s,E.ses=some s:= by
  unfold Z5 Hu upE at h
  cases q1:E.cell<;> cases q2:E.ses<;> cases q3:E.frozen<;> simp [q1,q2,q3]at h⊢
  exact h
theorem PT (hi:EI E S) (h:PP I (HS E S) Mi Mj):JG I S (Zb E).2 Mi Mj []:= by
  unfold Zb
  split
  · exact JV hi h
  · exact⟨S,hi.same (E':={E with frozen:=true}) Qa Qa Qa Qa (.inl Qa),H0 ((h.swap.freeze (I':=HS {E with frozen:=true} S) Qa Qa Qa Qa (fun _ _=>rfl)).swap),Bnd.same _ _⟩
theorem Sv (hi:EI E S) (h:PP I (HS E S) Mi Mj):JG I S (HC E).2 Mi Mj []:= by
  unfold HC
  split
  · exact JV hi h
  · exact SP (hi.same (E':={E with active:=false,frozen:=false}) Qa Qa Qa Qa (.inr Qa)) h (fun _ q=>q) Qa
theorem Td (hi:EI E S) (h:PP I (HS E S) Mi Mj) (s:Bs):JG I S (XM E s).2 Mi Mj []:= by
  unfold XM
  split
  · exact JV hi h
  split
  · exact JV hi h
  · exact GX hi h (by rfl) (by rfl) (by rfl) (by rfl) (by rfl) (by rfl)
theorem Cz (hi:EI E S) (h:PP I (HS E S) Mi Mj) (id:Int) (d:Bs):JG I S (Xx E id d).2 Mi Mj []:= by
  unfold Xx
  split
  · exact JV hi h
  split
  · exact JV hi h
  cases E.ses with
  | none=> exact JV hi h
  | some s=>
    dsimp only
    split
    · exact JV hi h
    · exact GX hi h (by rfl) (by rfl) (by rfl) (by rfl) (by rfl) (by rfl)
theorem Tm (hi:EI E S) (h:PP I (HS E S) Mi Mj) (id:Int):JG I S (XN E id).2 Mi Mj []:= by
  unfold XN
  split
  · exact JV hi h
  cases E.ses with
  | none=> exact JV hi h
  | some s=>
    dsimp only
    split
    · exact JV hi h
    · exact GX hi h (by rfl) (by rfl) (by rfl) (by rfl) (by rfl) (by rfl)
theorem Au (hi:EI E S) (h:PP I (HS E S) Mi Mj) (hm:Xy (E.move+1)): ∃S',EI (Wi E).2 S'∧PP I (HS (Wi E).2 S') Mi Mj∧ ∀x,S' x→S x∨(x.2=E.move+1∧S (E.kind,E.move)):= by
  unfold Wi
  split
  · exact⟨S,hi,h, fun _ q=> .inl q⟩
  rename_i hr
  obtain⟨hu,hk,hfr,s,hs⟩:=JO fun q=>hr (.inl q)
  have hS:=UX hi hu
  have hr0:=hi.rg hu
  rcases hi.note hu (k:=1) (m:=E.move+1) (by decide) ⟨by omega,hm⟩with⟨e,hi2,D,C,e2⟩ | ⟨e,hi2,D,e2⟩
  · rw[if_neg (by simpa using e)]
    generalize hE':({(QS E 1 (E.move+1)).2 with active:=true,next:=0,ses:=(QS E 1 (E.move+1)).2.ses.map fun s=>{s with pages:=s.pages.map fun e=>(e.1,{e.2 with sent:=0})}}:EnD)=E'
    have g1:E'.D=D∧E'.cell=some C∧E'.kind=1∧E'.move=E.move+1:= by subst hE'; rw[e2]; exact⟨rfl,rfl,rfl,rfl⟩
    have hi3:EI E' (fun x=>x=(1,E.move+1)):= by
      have hn:(QS E 1 (E.move+1)).2.D=D∧(QS E 1 (E.move+1)).2.cell=some C∧(QS E 1 (E.move+1)).2.kind=1∧(QS E 1 (E.move+1)).2.move=E.move+1:= by rw[e2]; exact⟨rfl,rfl,rfl,rfl⟩
      refine⟨fun C' q=> ?_, fun q=> ?_, fun q=> ?_⟩
      · rw[g1.1,g1.2.2.1,g1.2.2.2]
        have :=hi2.up C' (by rw[hn.2.1,←g1.2.1]; exact q)
        rw[hn.1,hn.2.2.1,hn.2.2.2]at this
        exact this
      · rw[g1.2.1]at q; cases q
      · rw[g1.2.1]at q; cases q
    refine⟨_,hi3, ?_, fun x q=> .inr ⟨by rw[q],(hS _).2 Qa⟩⟩
    refine(h.swap.give (I':=HS E' (fun x=>x=(1,E.move+1))) hu hk (fun x q=> .inr q) ⟨_,rfl⟩ (fun _ x=> ?_) (fun _=>⟨?_, ?_⟩)).swap
    · show x=(1,E.move+1)↔x=(E'.kind,E'.move)
      rw[g1.2.2.1,g1.2.2.2]
    · show E'.cell≠none
      rw[g1.2.1]; exact fun q=> by cases q
    · show(E'.kind,E'.move)=(1,E.move+1)
      rw[g1.2.2.1,g1.2.2.2]
  · rw[if_pos e]
    refine⟨_,hi2, ?_, fun x q=>q.imp id fun r=>⟨by rw[r],(hS _).2 Qa⟩⟩
    refine(h.swap.give (I':=HS (QS E 1 (E.move+1)).2 (fun x=>S x∨x=(1,E.move+1))) hu hk (fun x q=>q.imp (hS x).1 id) ⟨_,.inr Qa⟩ (fun r=> ?_) (fun r=> ?_)).swap
    · rw[e2]at r; exact absurd Qa r
    · rw[e2]at r; cases r
end
theorem I3 {X:TwD} {t:Int} {i:Bool} (h:INV X t) (ht:t<4611686018427387904):INV (Z2 X i (Wi (Q6 X i)).2) (t+1):= by
  refine INV.of (i:=i) ?_
  rw[Jx,Yg,WE]
  obtain⟨S,S',h1,h2,h3,h4,h5⟩:=h.at i
  by_cases hr:Z5 (Q6 X i)=false
  · have e:(Wi (Q6 X i)).2=Q6 X i:= by unfold Wi; rw[if_pos (.inl hr)]
    rw[e]
    exact IN2.wide ⟨S,S',h1,h2,h3,h4,h5⟩ (by omega)
  obtain⟨hu,_⟩:=JO hr
  have hb:=h5 _ ((UX h2 hu _).2 Qa)
  have hb:(Q6 X i).move≤t:=hb
  have hr0:=h2.rg hu
  obtain⟨T,k1,k2,k3⟩:=Au h2 h3 (by unfold Xy;omega)
  refine⟨S,T,h1,k1,k2, fun x hx=>Int.le_trans (h4 x hx) (by omega), fun x hx=> ?_⟩
  rcases k3 x hx with q | ⟨q,_⟩
  · exact Int.le_trans (h5 x q) (by omega)
  · omega
theorem WT {α:Type} {c:Prop} [Decidable c] {x y:α} {P:α→Prop} (h1:c→P x) (h2: ¬c→P y):P (if c then x else y):= by
  by_cases h:c
  · rw[if_pos h]; exact h1 h
  · rw[if_neg h]; exact h2 h
end Go.Proofs.YtiibgheijbbmaaaGreatDoor
namespace Go.Proofs.YtiibgheijbbmaaaGreatDoor.M
open Go.RowKit Proofs.Tryz
section
variable {P:Program} {n:Nat} {ops:Array Oper} {Q:Exit→Act→World→Prop} {rest:List Oper} {L:Env} {w:World} {d:Nat} {t t2:TypeId} {x y:Operand} {ty:TypeId} {pos:String} {aft:Array Edge}
theorem Yp {e:TypeId} (hu:P.underlying t=some (.pointer e)) (hx:look L x=some (.pointer none)) (hy:look L y=some (.pointer none)):Ev P L w ⟨some d,.binOp .neq t x y t2,ty,pos,aft,none⟩ (.bool false):= fun ρ hρ=> by simp [execOp,hρ _ _ hx,hρ _ _ hy,eqGuard,binOp,Dl hu]
theorem YY {e:TypeId} (hu:P.underlying t=some (.pointer e)) (hx:look L x=some (.pointer none)) (hy:look L y=some (.pointer none)) (hd:Nat.blt d n=true) (hk:wl P n ops Q rest ((d,.bool false)::L) w):wl P n ops Q (⟨some d,.binOp .neq t x y t2,ty,pos,aft,none⟩::rest) L w:=
  Xv hd (Yp hu hx hy) hk
end
section
variable {P:Program} {n:Nat} {ops:Array Oper} {Q:Exit→Act→World→Prop} {rest:List Oper} {L:Env} {w:World} {d:Nat} {ty:TypeId} {pos:String} {aft:Array Edge}
theorem JJ {t:Nat} {parts:List (Nat×Operand)} {vs vs':List Value} {pls:List (Nat×Nat)} {z:List Value} (hx:J9 L (parts.map (·.2))=some vs) (hp:Zp P t (parts.map (·.1))=some pls) (ha:Hq P t=true) (hz:Z9 P t=some (some (.agg z.toArray))) (hok:HU z.length pls vs=true) (hd:Nat.blt d n=true) (he:VV z pls vs=vs') (hk:wl P n ops Q rest ((d,.agg vs'.toArray)::L) w):wl P n ops Q (⟨some d,.build t parts.toArray,ty,pos,aft,none⟩::rest) L w:= by
  subst he; exact Zu hx hp ha hz hok hd hk
end
def Un (sz:Nat) (v:Value) (A B:Nat):Value:= match v with
  | .slice a _ cap=> .slice (if cap=A then a else a.map fun p=>p.add (A*sz)) (B -A) (cap -A)
  | v=>v
section
variable {P:Program} {n:Nat} {ops:Array Oper} {Q:Exit→Act→World→Prop} {rest:List Oper} {L:Env} {w:World} {d:Nat} {ty:TypeId} {pos:String} {aft:Array Edge}
theorem Nc {x:Operand} {t e m cap sz:Nat} {a:Option Addr} {lo hi:Option Operand} (A B:Nat) (hu:P.underlying t=some (.slice e)) (hs:Wv P e=some sz) (hx:look L x=some (.slice a m cap)) (hlo:bndL L lo 0 A) (hhi:bndL L hi m B) (h1:A≤B) (h2:B≤cap):
    Ev P L w ⟨some d,.slice t x lo hi none,ty,pos,aft,none⟩ (Un sz (.slice a m cap) A B):= fun ρ hρ=> by
  have hb:=RB (P:=P) true m cap _ _ A B (hlo.val hρ) (hhi.val hρ) h1 h2 w
  simp only[execOp,hρ _ _ hx]
  simp [Instr.sliceAt,Instr.slice,run_underlying hu,hb,ZX hs,Un]
theorem V5 {x:Operand} {t e m cap sz:Nat} {a:Option Addr} {lo hi:Option Operand} (A B:Nat) (hu:P.underlying t=some (.slice e)) (hs:Wv P e=some sz) (hx:look L x=some (.slice a m cap)) (hlo:bndL L lo 0 A) (hhi:bndL L hi m B) (h1:A≤B) (h2:B≤cap) (hd:Nat.blt d n=true)
    (hk:wl P n ops Q rest ((d,Un sz (.slice a m cap) A B)::L) w):wl P n ops Q (⟨some d,.slice t x lo hi none,ty,pos,aft,none⟩::rest) L w:=Xv hd (Nc A B hu hs hx hlo hhi h1 h2) hk
end
theorem KK {sz b o m cap A B:Nat} (h:A<cap):Un sz (.slice (some ⟨b,o,none⟩) m cap) A B= .slice (some ⟨b,o+A*sz,none⟩) (B -A) (cap -A):= by
  unfold Un
  dsimp only
  rw[if_neg (by omega),Option.map_some,Wu]
section
variable {α:Type} {C:RowC α} {l:List α} {w:World}
theorem RdL.view {a:Option Addr} {m cap A B:Nat} (h:RdL C (.slice a m cap) l w) (hc:m≤cap) (h1:A≤B) (h2:B≤l.length):RdL C (Un C.size (.slice a m cap) A B) ((l.take B).drop A) w:= by
  obtain⟨ao,cap',e1,e2,e3⟩:=h
  cases e1
  have hl:((l.take B).drop A).length=B -A:= by rw[List.length_drop,List.length_take];omega
  refine⟨_,_, by rw[hl];rfl, by omega, fun i x hx=> ?_⟩
  have hi:=(Jo hx).1
  rw[List.getElem?_drop,List.getElem?_take,if_pos (by omega)]at hx
  obtain⟨b,off,rfl,hcell⟩:=e3 _ _ hx
  refine⟨b,off+A*C.size, by rw[if_neg (by omega),Option.map_some,Wu], fun j u hu=> ?_⟩
  have :=hcell j u hu
  rw[Nat.add_mul]at this
  rw[show off+A*C.size+i*C.size+j=off+(A*C.size+i*C.size)+j by omega]
  exact this
theorem K9 {a:Option Addr} {cap A B:Nat} (hl:l.length≤9223372036854775807) (h1:A≤B) (h2:B≤l.length) (hc:l.length≤cap):Ent (rowT C (.slice a l.length cap) l) (RdL C (Un C.size (.slice a l.length cap) A B) ((l.take B).drop A)):= fun h=>(VJ hl h).view hc h1 h2
theorem RdL.at_ {b off m cap i:Nat} {a:α} (h:RdL C (.slice (some ⟨b,off,none⟩) m cap) l w) (ha:l[i]? =some a): ∀(j:Nat) (u:Value),(C.enc a)[j]? =some u→w.cell? ⟨b,off+i*C.size+j,none⟩=some u:= by
  obtain⟨b',off',e,h2⟩:=h.get ha
  cases e
  exact h2
end
theorem Sat.row_shrink {α:Type} {C:RowC α} {w:World} {As:List Th} {b n cap:Nat} {l:List α} (m:Nat) (h:Sat w (rowT C (.slice (some ⟨b,0,none⟩) n cap) l::As)) (hm:m≤l.length):Sat w (rowT C (.slice (some ⟨b,0,none⟩) m cap) (l.take m)::As):= by
  obtain⟨F,F1,F2,rfl,dj,⟨foot,e1,hl,h1⟩,h2⟩:=h
  refine⟨_,F1,F2,Qa,dj,⟨foot,e1, ?_⟩,h2⟩
  refine⟨by rw[C.cells_len], ?_⟩
  rcases h1 with⟨h1,_⟩ | ⟨b',cap',sp,h1,h3,h4,h5,h6⟩
  · cases h1
  · simp only[Value.slice.injEq,Option.some.injEq,Addr.mk.injEq,and_true]at h1
    obtain⟨rfl,rfl,rfl⟩:=h1
    have e:C.cells (l.take m)++((C.cells l).drop (m*C.size)++sp)=C.cells l++sp:= by rw[←C.cells_take,←List.append_assoc,List.take_append_drop]
    refine .inr ⟨b,cap,(C.cells l).drop (m*C.size)++sp, by rw[List.length_take,Nat.min_eq_left hm], by rw[List.length_take,Nat.min_eq_left hm];omega, by rw[e]; exact h4, by rw[e]; exact h5,h6⟩
theorem IM {l:List Int} {i:Nat} (hi:i≤l.length):XK (inC.cells l) (0+i*1) (List.replicate (l.length -i) [intV 0]).flatten=inC.cells (l.take i++List.replicate (l.length -i) 0):= by
  have e:(List.replicate (l.length -i) [intV 0]).flatten=inC.cells (List.replicate (l.length -i) 0):= by
    generalize l.length -i=m
    induction m with
    | zero=>rfl
    | succ m ih=> rw[List.replicate_succ,List.flatten_cons,ih,List.replicate_succ];rfl
  rw[e]
  unfold XK
  rw[show 0+i*1=i*inC.size by show 0+i*1=i*1;omega,inC.cells_take,inC.cells_app,List.drop_of_length_le (by rw[inC.cells_len,inC.cells_len,List.length_replicate]; show l.length*1≤i*1+(l.length -i)*1;omega),List.append_nil]
def Yq (T b:Nat) (cs:List Value):Th where
  at_:= fun w F=>(F= fun k=>k=b)∧w.heap[b]? =some (.cells cs.toArray T (0,0))
  fr:= fun a ⟨e,h⟩=>⟨e, by rw[a.blk _ (by rw[e])]; exact h⟩
  lt:= fun {w F} ⟨e,h⟩ k hk=> by
    rw[e]at hk; subst hk
    rcases Nat.lt_or_ge k w.heap.size with g | g
    · exact g
    · rw[Array.getElem?_eq_none g]at h; cases h
def By (e:Nat) (v:Value) (bs:List UInt8):Th where
  at_:= fun w F=>(F= fun k=>v.ownBlock=some k)∧w.ownsRow 0 e 1 v bs.length (byC.cells bs)∧(bs=[]→v= .slice none 0 0)
  fr:= fun {w w' F} a ⟨e1,⟨hl,h⟩,hn⟩=>⟨e1,⟨hl, by
    rcases h with h | ⟨g,cap,cur,h1,h2,h3,h4⟩
    · exact .inl h
    · exact .inr ⟨g,cap,cur,h1,h2, by rw[a.blk _ (by rw[e1,h1];rfl)]; exact h3,h4⟩⟩,hn⟩
  lt:= fun {w F} ⟨e1,h,_⟩ k hk=> by rw[e1]at hk; exact(h.lt k hk).2
theorem Fg {w:World} {e n:Nat} {v:Value} {xs:List Value} (h:w.ownsRow 0 e 1 v n xs): ∃foot,Own w v n 1 xs foot∧ ∀k,k∈foot↔v.ownBlock=some k:= by
  obtain⟨hl,⟨rfl,rfl⟩ | ⟨g,cap,cur,rfl,_,hg,hc,_,hs,ht⟩⟩:=h
  · exact⟨[],⟨hl,.inl ⟨rfl,rfl,rfl⟩⟩, by simp [Value.ownBlock]⟩
  · have he:xs++cur.toList.drop (n*1)=cur.toList:= by rw[←ht]; exact List.take_append_drop _ _
    refine⟨[g],⟨hl,.inr ⟨g,cap,cur.toList.drop (n*1),rfl,hc,⟨e,0,0, ?_,.inl (Nat.le_refl _)⟩, ?_,rfl⟩⟩, by simp [Value.ownBlock,eq_comm]⟩
    · rw[he]; exact hg
    · rw[he];simpa using hs
section
variable {P:Program} {n:Nat} {ops:Array Oper} {Q:Exit→Act→World→Prop} {rest:List Oper} {L:Env} {w:World} {d:Nat} {ty:TypeId} {pos:String} {aft:Array Edge} {As:List Th} {T e b:Nat} {cs:List Value}
theorem Sat.tblk (h:Sat w As) (i:Nat) (hi:As[i]? =some (Yq T b cs)):w.heap[b]? =some (.cells cs.toArray T (0,0)):= by
  obtain⟨F,_,h⟩:=h.get i hi; exact h
theorem Sat.tcell (h:Sat w As) (i:Nat) (hi:As[i]? =some (Yq T b cs)) {o:Nat} {v:Value} (hv:cs[o]? =some v):w.cell? ⟨b,o,none⟩=some v:= by
  rw[Lib.cell_of_heap (h.tblk i hi)];simpa using hv
theorem Sat.tshape (h:Sat w As) (i:Nat) (hi:As[i]? =some (Yq T b cs)):w.shape? b=some (T,cs.length):= by
  simp [World.shape?,h.tblk i hi]
theorem Sat.buf (h:Sat w As) (i:Nat) {v:Value} {bs:List UInt8} (hi:As[i]? =some (By e v bs)):w.ownsRow 0 e 1 v bs.length (byC.cells bs)∧(bs=[]→v= .slice none 0 0):= by
  obtain⟨F,_,h⟩:=h.get i hi; exact h
theorem Sat.bufv (h:Sat w As) (i:Nat) {v:Value} {bs:List UInt8} (hi:As[i]? =some (By e v bs)): ∃ao cap,v= .slice ao bs.length cap∧v.oneCell'=true∧(ao=none∧bs=[]∨ ∃g,ao=some ⟨g,0,none⟩∧cap≠0∧bs≠[]):= by
  obtain⟨⟨_,⟨rfl,h1⟩ | ⟨g,cap,cur,rfl,_,_,h1,_⟩⟩,hn⟩:=h.buf i hi
  · have :bs=[]:=List.eq_nil_of_length_eq_zero h1
    subst this
    exact⟨none,0,Qa,Qa,.inl ⟨Qa,Qa⟩⟩
  · have hb:bs≠[]:= fun e=> by have :=hn e; cases this
    have :0<bs.length:=List.length_pos_iff.2 hb
    exact⟨_,cap,rfl,rfl,.inr ⟨g,rfl, by omega,hb⟩⟩
theorem Tu {t:Nat} {z:Value} (hS:Sat w As) (hz:Z9 P t=some (some z)) (hcs:z.cells.toList=cs) (hd:Nat.blt d n=true) (hk: ∀b w',Sat w' (Yq t b cs::As)→wl P n ops Q rest ((d,ptrV b 0)::L) w'):wl P n ops Q (⟨some d,.alloc t,ty,pos,aft,none⟩::rest) L w:= by
  subst hcs
  refine Zk Qa hd (R:= fun v w'=>v=ptrV w.heap.size 0∧w'=w.alloc (.cells z.cells t)) (fun a ha=>⟨_,_,.inl ?_,rfl,rfl⟩) (fun v w' ⟨e1,e2⟩=> ?_)
  · simp [execOp,Instr.alloc,YJ hz,newVar,newRow]
  · subst e1 e2
    refine hk _ _ (hS.new ((Only.refl _ _).alloc _) (A:=Yq t w.heap.size z.cells.toList) (F':= fun k=>k=w.heap.size) ⟨rfl, ?_⟩ (fun k hk=> by rw[hk]; exact Nat.le_refl _))
    simpa using heap_alloc_new w (.cells z.cells t)
theorem Tr {x y:Operand} {t o i:Nat} {v:Value} (hS:Sat w As) (hx:look L x=some (ptrV b o)) (hy:look L y=some v) (hs:Wv P t=some 1) (h1:v.oneCell'=true) (hi:As[i]? =some (Yq T b cs)) (ho:o<cs.length)
    (hk: ∀w',Sat w' (As.set i (Yq T b (cs.set o v)))→wl P n ops Q rest L w'):wl P n ops Q (⟨none,.store t x y,ty,pos,aft,none⟩::rest) L w:= by
  have hb:=hS.tblk i hi
  have hc:=hS.tcell i hi (o:=o) (WU ho)
  have hf:w.frozen? ⟨b,o,none⟩=false:=Lib.frozen_of_heap hb o
  have hcs:v.cells= #[v]:= by cases v<;>first | rfl | cases h1
  refine Zk Qa Qa (R:= fun _ w'=>w'=w.setCell ⟨b,o,none⟩ v) (fun a ha=>⟨undef,_,.inr ⟨?_,rfl⟩,rfl⟩) (fun _ w' e=> ?_)
  · have hst:(store ⟨b,o,none⟩ v).run P w= .ok () (w.setCell ⟨b,o,none⟩ v):= by
      rw[run_store P w _ v _ h1,hc]; simp [hf]
    have e0:(⟨b,o,none⟩:Addr).add 0=⟨b,o,none⟩:= by simp [Addr.add]
    simp [execOp,ha.eval hx,ha.eval hy,Instr.storeAt,Instr.sureAddr,storeVar,hcs,ZX hs,storeCells,e0,hst]
  · subst e
    refine hk _ (hS.step i hi fun F ⟨e1,_⟩=>⟨F,⟨e1, ?_⟩, fun k hk=> .inl hk,((Only.refl [b] w).setCell (.inl (by simp)) v).agree (fun x hx=> .inl (by simp only[List.mem_singleton]at hx; subst hx; rw[e1]))⟩)
    simp [World.setCell,Array.getElem?_modify,hb]
theorem RP {ao:Option Addr} {m cap:Nat} {ts:Array TypeId} {x:Operand} (hx:look L x=some (.slice ao m cap)) (h0:ao=none∨cap≠0) (hd:Nat.blt d n=true) (hk:wl P n ops Q rest ((d,.pointer ao)::L) w):wl P n ops Q (⟨some d,.call ⟨.builtin .unsafeSliceData, #[x],ts⟩,ty,pos,aft,none⟩::rest) L w:= by
  refine Zk rfl hd (R:= fun v w'=>v= .pointer ao∧w'=w) (fun a ha=>⟨_,_,.inl ?_,rfl,rfl⟩) (by rintro _ _ ⟨rfl,rfl⟩; exact hk)
  have hr:(Builtin.unsafeSliceData_ ts ty #[.slice ao m cap]).run P w= .ok (.pointer ao) w:= by
    cases ao with
    | none=> exact Lib.run_unsafeSliceData_nil w ts ty m cap
    | some q=> exact Lib.run_unsafeSliceData_row w ts ty q m cap (by rcases h0 with h0 | h0; cases h0; exact h0)
  simp [execOp,ha.eval hx,resolve,invoke,builtin,hr]
theorem Dd {ao:Option Addr} {cap pt it:Nat} {bs:List UInt8} {x y:Operand} (i:Nat) (hS:Sat w As) (hi:As[i]? =some (By e (.slice ao bs.length cap) bs)) (hx:look L x=some (.pointer ao)) (hy:look L y=some (.int .i64 (bs.length:Int))) (hp:P.underlying pt=some (.pointer e)) (hc:P.cellsOf e=1) (hlen:bs.length≤9223372036854775807) (hd:Nat.blt d n=true)
    (hk: ∀w',Sat w' (As.eraseIdx i)→wl P n ops Q rest ((d,strV bs)::L) w'):wl P n ops Q (⟨some d,.call ⟨.builtin .unsafeString, #[x,y], #[pt,it]⟩,ty,pos,aft,none⟩::rest) L w:= by
  obtain⟨hown,hnil⟩:=hS.buf i hi
  have hg: ∃w',(Builtin.unsafeString_ #[pt,it] ty #[.pointer ao,.int .i64 bs.length]).run P w= .ok (strV bs) w'∧Sat w' (As.eraseIdx i):= by
    by_cases h0:bs=[]
    · subst h0
      have hv:=hnil Qa
      simp only[Value.slice.injEq,List.length_nil,true_and]at hv
      obtain⟨rfl,_⟩:=hv
      exact⟨w,Lib.run_unsafeString_none w pt it ty none,hS.drop i hi⟩
    · obtain⟨_,⟨hv,h1⟩ | ⟨g,cap',cur,hv,_,hgb,h1,_,h2,h3⟩⟩:=hown
      · exact absurd (List.eq_nil_of_length_eq_zero h1) h0
      · simp only[Value.slice.injEq,true_and]at hv
        obtain⟨rfl,rfl⟩:=hv
        refine⟨w.freeze ⟨g,0,none⟩ bs.length,Lib.run_unsafeString_row w pt it ty e hp hc g cur.size (by simp [World.shape?,hgb]) bs h0 (by omega) hlen ?_, ?_⟩
        · intro j c hj
          rw[Wu]
          simp only[Nat.zero_add]
          rw[Lib.cell_of_heap hgb]
          have hj':=(Jo hj).1
          have :(byC.cells bs)[j]? =some (.int .u8 (c.toNat:Int)):= by
            have :=RowC.cells_at (C:=byC) (l:=bs) (j:=j) hj
            have h3:=congrArg (fun q=>q[0]?) this
            simpa [byC,List.getElem?_take,List.getElem?_drop]using h3
          rw[←h3,List.getElem?_take]at this
          split at this
          · simpa using this
          · cases this
        · have hp1:=hS.pull i hi
          obtain⟨F,F1,F2,rfl,dj,⟨e1,_⟩,h2'⟩:=hp1
          refine⟨F2,(starL _).fr (F:=F2) ?_ h2'⟩
          have hb:=Lib.below_freeze (B:=0) (Below.refl 0 w) (p:=⟨g,0,none⟩) (Nat.zero_le _) bs.length
          refine⟨hb.os,hb.tape,hb.output, fun k hk'=> ?_⟩
          have hne:k≠g:= by
            rintro rfl
            exact dj k (by rw[e1];rfl) hk'
          unfold World.freeze
          split
          · rfl
          · simp only[Array.getElem?_modify]
            rw[if_neg (fun q=>hne q.symm)]
  obtain⟨w',h1,h2⟩:=hg
  refine Zk rfl hd (R:= fun v u=>v=strV bs∧u=w') (fun a ha=>⟨_,_,.inl ?_,rfl,rfl⟩) (by rintro _ _ ⟨rfl,rfl⟩; exact hk _ h2)
  simp [execOp,ha.eval hx,ha.eval hy,resolve,invoke,builtin,h1]
theorem NA {src dst t o:Nat} {x:Operand} {j:TypeInfo} {S:Nat×Nat} (hx:look L x=some (ptrV b o)) (hs:P.underlying src=some (.pointer t)) (hd':P.underlying dst=some .unsafePointer) (ht:P.info? t=some j) (hj:j.size≠0) (hsh:w.shape? b=some S) (ho:o<S.2) (hd:Nat.blt d n=true) (hk:wl P n ops Q rest ((d,ptrV b o)::L) w):wl P n ops Q (⟨some d,.convert src dst x,ty,pos,aft,none⟩::rest) L w:=
  Xv hd (fun ρ hρ=> by
    have :=Lib.run_to_unsafe (P:=P) (w:=w) (e:=S.1) (cells:=S.2) (⟨b,o,none⟩:Addr) hs hd' ht hj hsh ho
    simp [execOp,hρ _ _ hx,ptrV,this]) hk
theorem Ta {src dst u o:Nat} {x:Operand} {j:TypeInfo} {S:Nat×Nat} (hx:look L x=some (ptrV b o)) (hs:P.underlying src=some .unsafePointer) (hd':P.underlying dst=some (.pointer u)) (hu:P.info? u=some j) (hsh:w.shape? b=some S) (hl:liesAt P P.depth S.1 (S.2/ P.cellsOf S.1) o u 1=true) (hd:Nat.blt d n=true) (hk:wl P n ops Q rest ((d,ptrV b o)::L) w):wl P n ops Q (⟨some d,.convert src dst x,ty,pos,aft,none⟩::rest) L w:=
  Xv hd (fun ρ hρ=> by
    have :=Lib.run_from_unsafe (P:=P) (w:=w) (e:=S.1) (cells:=S.2) (⟨b,o,none⟩:Addr) hs hd' hu hsh hl
    simp [execOp,hρ _ _ hx,ptrV,this]) hk
theorem MZ {x y:Operand} {t t2 u:TypeId} {q:Addr} {j:TypeInfo} (hu:P.underlying t=some (.pointer u)) (hj:P.info? u=some j) (hx:look L x=some (.pointer (some q))) (hy:look L y=some (.pointer (some q))) (hd:Nat.blt d n=true) (hk:wl P n ops Q rest ((d,.bool false)::L) w):wl P n ops Q (⟨some d,.binOp .neq t x y t2,ty,pos,aft,none⟩::rest) L w:=
  Xv hd (fun ρ hρ=> by
    have h:(Op.equal t (.pointer (some q)) (.pointer (some q))).run P w= .ok true w:= by
      unfold Op.equal Op.maxDepth Op.equalIn
      simp [run_underlying hu,sizeOf,typeInfo,hj,run_sameAddr_same]
    simp [execOp,hρ _ _ hx,hρ _ _ hy,eqGuard,binOp,h]) hk
theorem SH {f : Nat} {fn : Func} {x : Operand} {ts : Array TypeId} {v : Value} (hf : P.funcs[f]? = some fn) (hname : (fn.name == "runtime.NumGoroutine") = false) (hb : fn.body.isNone = true) (hn : Extern.findNext fn = none) (he : Extern.find fn = some Extern.AbiNoEscape.same)
    (hx:look L x=some v) (hd:Nat.blt d n=true) (hk:wl P n ops Q rest ((d,v)::L) w):wl P n ops Q (⟨some d,.call ⟨.value (.func f), #[x],ts⟩,ty,pos,aft,none⟩::rest) L w:= by
  refine Zk rfl hd (R:= fun u w'=>u=v∧w'=w) (fun a ha=>⟨_,_,.inl ?_,rfl,rfl⟩) (by rintro _ _ ⟨rfl,rfl⟩; exact hk)
  have hr:(Extern.AbiNoEscape.same #[v]).run P w= .ok v w:=rfl
  have hc:=run_callFunc_extern hf hname hb hn he #[v] w
  rw[hr]at hc
  simp only[execOp,resolve,Act.eval,Deferred.ofValue,invoke]
  have hxe:=ha.eval hx
  simp
  rw[hxe,hc];rfl
end
section
variable {κ:Type} {kv:κ→Value} {P:Program} {n:Nat} {ops:Array Oper} {Q:Exit→Act→World→Prop} {rest:List Oper} {L:Env} {w:World} {d:Nat} {ty:TypeId} {pos:String} {aft:Array Edge} {As:List Th}
theorem Sq {es:Array MapEntry} {b clock:Nat} {o:Oper} {a:Act} (mt:TypeId) (x y z:Operand) (ho:o.op= .insert mt x y z) {kt et:TypeId} (K:KeyOk P kt kv) (hm:P.underlying mt=some (.map kt et)) (h:MapAt kv w b es clock)
    (hx:a.eval x= .map (some b)) {k:κ} (hy:a.eval y=kv k) {v:Value} (hz:a.eval z=v):
    does P o a w (fun u w'=>u=undef∧ ∃es' clock',isPut kv es es' clock clock' k v∧MapAt kv w' b es' clock'∧Only [b] w w'∧w'.heap.size=w.heap.size):= by
  rcases K.find k es.toList w h.keys with⟨i,e,h1,h2,h3⟩ | ⟨h1,h2⟩
  · have hp:isPut kv es (es.modify i (fun e=>{e with key:=kv k,val:=v})) clock clock k v:= .inl ⟨rfl,i,e, by simpa using h1,h2,rfl⟩
    refine⟨undef,_,.inr ⟨?_,rfl⟩,rfl,_,_,hp,h.put hp,Only.setObj _ _ _, by simp⟩
    have h1':es[i]? =some e:= by simpa using h1
    simp [execOp,ho,hx,hy,hz,Instr.mapUpdate,run_underlying hm,MapKept.run_getObj_map h.blk,MapKept.run_setObj_map _ h.blk,K.check,h3,h1',h2,Instr.keyThatStays,K.bits]
  · have hp:isPut kv es (es.push {key:=kv k,val:=v,born:=clock}) clock (clock+1) k v:= .inr ⟨rfl,h1,rfl⟩
    refine⟨undef,_,.inr ⟨?_,rfl⟩,rfl,_,_,hp,h.put hp,Only.setObj _ _ _, by simp⟩
    simp [execOp,ho,hx,hy,hz,Instr.mapUpdate,run_underlying hm,MapKept.run_getObj_map h.blk,MapKept.run_setObj_map _ h.blk,K.check,h2]
theorem JH {mt kt et:TypeId} {x y z:Operand} {b:Nat} {f:κ→Option Value} {k:κ} {v:Value} (i:Nat) (hS:Sat w As) (K:KeyOk P kt kv) (hm:P.underlying mt=some (.map kt et)) (hi:As[i]? =some (XI kv b f)) (hx:look L x=some (.map (some b))) (hy:look L y=some (kv k)) (hz:look L z=some v)
    (hk: ∀w',Sat w' (As.set i (XI kv b (upd f k (some v))))→wl P n ops Q rest L w'):wl P n ops Q (⟨none,.insert mt x y z,ty,pos,aft,none⟩::rest) L w:= by
  obtain⟨es,c,h1,h2⟩:=hS.map i hi
  refine Zk Qa Qa (fun a ha=>Sq mt x y z Qa K hm h1 (ha.eval hx) (ha.eval hy) (ha.eval hz)) ?_
  rintro _ w' ⟨rfl,es',c',hp,h3,h4,_⟩
  exact hk w' (hS.map_set i hi h3 (h2.put K h1.stamped hp) h4)
def BlkF (w:World) (b:Nat) (cs:List Value):Prop:=
  ∃T lo hi,w.heap[b]? =some (.cells cs.toArray T (lo,hi))∧(hi≤lo∨cs.length<lo)
theorem BlkF.blk {b:Nat} {cs:List Value} (h:BlkF w b cs):Blk w b cs:= by
  obtain⟨T,lo,hi,h,q⟩:=h
  exact⟨T,lo,hi,h, by omega⟩
theorem BlkF.set {b:Nat} {cs:List Value} (h:BlkF w b cs) (o:Nat) (v:Value):BlkF (w.setCell ⟨b,o,none⟩ v) b (cs.set o v):= by
  obtain⟨T,lo,hi,h,q⟩:=h
  refine⟨T,lo,hi, ?_, by simpa using q⟩
  simp [World.setCell,Array.getElem?_modify,h]
end
end Go.Proofs.YtiibgheijbbmaaaGreatDoor.M
namespace Go.Proofs.YtiibgheijbbmaaaGreatDoor
open Go.RowKit M Proofs.Tryz
def N8 (C:CS):Prop:=C.slot≤2∧C.val.length≤20000000
theorem T6 {D:DS} {C:CS} {s:Bytes} (h:N8 C) (hs:s.length≤65536):N8 (W2 D C s).C:= by
  simp only[W2]
  split
  · exact h
  · split
    · exact h
    · split
      · exact h
      · refine⟨?_, ?_⟩
        · show other C≤2
          unfold other;split<;>omega
        · show s.length≤_
          omega
theorem NV {D:DS} {C:CS} {s:Bytes} (h:N8 C):N8 (ZB D C s).C:= by
  unfold ZB
  split
  · exact h
  · split
    · split
      · exact h
      · exact T6 (C:={C with sure:=true}) h (by omega)
    · exact T6 h (by omega)
theorem Iu {h:Bytes} {s n:Nat} (e:Ya h= .slot s n):s≤2∧n≤65536:= by
  unfold Ya at e
  split at e
  · cases e
  · split at e
    · cases e
    · split at e
      · split at e
        · rename_i q
          cases e
          refine⟨?_,q.2⟩
          rcases q.1 with rfl | rfl<;>decide
        · cases e
      · cases e
theorem TM (D:DS) (f:Int):N8 (Hf D f):= by
  unfold Hf
  split
  · rename_i s n e
    obtain⟨h1,h2⟩:=Iu e
    have h3:=B8 (D:=D) (f:=f) (a:=QI s) (n:=(n:Int))
    exact⟨h1, by show(WC D f (QI s) n).length≤_;omega⟩
  · exact⟨by show 0≤2;omega, by show([]:Bytes).length≤_; simp⟩
def Rr (p:PgD):Value:= .agg #[strV p.data,intV p.ver,intV p.sent,.bool p.miss]
def Yj (l:AL PgD):Int→Option Value:= fun i=>(QN l i).map Rr
def UV (l:AL Bs):Int→Option Value:= fun i=>(QN l i).map strV
def sesT (b:Nat) (s:SeD):Th:=S8 fun m:Nat=>starL [QR b [strV s.state,intV s.count,.map (some m)],XI Za m (Yj s.pages)]
def VY (v:Value):Option SeD→Th
  | none=>Y4 (v= .pointer none)
  | some s=>S8 fun b:Nat=>starL [Y4 (v=ptrV b 0),sesT b s]
def offT (b:Nat) (o:OfD):Th:=S8 fun x:Nat×Nat=>starL [QR b [intV o.move,.map (some x.1),intV o.many,.map (some x.2),strV o.list],XI Za x.1 (UV o.parts),XI Za x.2 (Yj o.pages)]
def Rt (v:Value):Option OfD→Th
  | none=>Y4 (v= .pointer none)
  | some o=>S8 fun b:Nat=>starL [Y4 (v=ptrV b 0),offT b o]
def JR (p:Nat) (v:Value):Option CS→Th
  | none=>Y4 (v= .pointer none)
  | some C=>S8 fun c:Nat=>starL [Y4 (v=ptrV c 0∧N8 C),QR c (Hv p C)]
def U6 (dp:Nat) (cv sv ov:Value) (E:EnD):List Value:=[ptrV dp 0,cv,intV E.kind,intV E.move,sv,.bool E.active,.bool E.frozen,intV E.next,.bool E.told,ov]
def Xs (e:Nat) (E:EnD):Th:=S8 fun x:Nat×Value×Value×Value=>starL [QR e (U6 x.1 x.2.1 x.2.2.1 x.2.2.2 E),dT x.1 E.D,JR x.1 x.2.1 E.cell,VY x.2.2.1 E.ses,Rt x.2.2.2 E.off]
section
variable {w:World} {As:List Th} {e b c dp:Nat} {E:EnD} {v cv sv ov:Value} {C:CS} {s:SeD} {o:OfD}
theorem QW (h:Sat w (Xs e E::As)): ∃dp cv sv ov,Sat w (QR e (U6 dp cv sv ov E)::dT dp E.D::JR dp cv E.cell::VY sv E.ses::Rt ov E.off::As):= by
  obtain⟨x,h⟩:=h.ex
  exact⟨x.1,x.2.1,x.2.2.1,x.2.2.2,h.flat⟩
theorem Qu (h:Sat w (QR e (U6 dp cv sv ov E)::dT dp E.D::JR dp cv E.cell::VY sv E.ses::Rt ov E.off::As)):Sat w (Xs e E::As):=
  Sat.ex_intro (dp,cv,sv,ov) (Sat.fold (As:=[QR e (U6 dp cv sv ov E),dT dp E.D,JR dp cv E.cell,VY sv E.ses,Rt ov E.off]) h)
theorem FI (h:Sat w (JR dp v none::As)):v= .pointer none∧Sat w As:=h.pure_elim
theorem Cd (h:Sat w As):Sat w (JR dp (.pointer none) none::As):=h.pure_intro Qa
theorem MN (h:Sat w (JR dp v (some C)::As)): ∃c,v=ptrV c 0∧N8 C∧Sat w (QR c (Hv dp C)::As):= by
  obtain⟨c,h⟩:=h.ex
  obtain⟨⟨e,hs⟩,h⟩:=h.flat.pure_elim
  exact⟨c,e,hs,h⟩
theorem VP (hs:N8 C) (h:Sat w (QR c (Hv dp C)::As)):Sat w (JR dp (ptrV c 0) (some C)::As):=
  Sat.ex_intro c (Sat.fold (As:=[Y4 (ptrV c 0=ptrV c 0∧N8 C),QR c (Hv dp C)]) (Sat.pure_intro ⟨rfl,hs⟩ h))
theorem WM (h:Sat w (VY v none::As)):v= .pointer none∧Sat w As:=h.pure_elim
theorem ZQ (h:Sat w As):Sat w (VY (.pointer none) none::As):=h.pure_intro Qa
theorem Zn (h:Sat w (VY v (some s)::As)): ∃b m,v=ptrV b 0∧Sat w (QR b [strV s.state,intV s.count,.map (some m)]::XI Za m (Yj s.pages)::As):= by
  obtain⟨b,h⟩:=h.ex
  obtain⟨e,h⟩:=h.flat.pure_elim
  obtain⟨m,h⟩:=Sat.ex h
  exact⟨b,m,e,h.flat⟩
theorem Xg {m:Nat} (h:Sat w (QR b [strV s.state,intV s.count,.map (some m)]::XI Za m (Yj s.pages)::As)):Sat w (VY (ptrV b 0) (some s)::As):=
  Sat.ex_intro b (Sat.fold (As:=[Y4 (ptrV b 0=ptrV b 0),sesT b s]) (Sat.pure_intro Qa (Sat.ex_intro m (Sat.fold (As:=[QR b [strV s.state,intV s.count,.map (some m)],XI Za m (Yj s.pages)]) h))))
theorem Be (h:Sat w (Rt v none::As)):v= .pointer none∧Sat w As:=h.pure_elim
theorem Wh (h:Sat w As):Sat w (Rt (.pointer none) none::As):=h.pure_intro Qa
theorem Bd (h:Sat w (Rt v (some o)::As)): ∃b m n,v=ptrV b 0∧Sat w (QR b [intV o.move,.map (some m),intV o.many,.map (some n),strV o.list]::XI Za m (UV o.parts)::XI Za n (Yj o.pages)::As):= by
  obtain⟨b,h⟩:=h.ex
  obtain⟨e,h⟩:=h.flat.pure_elim
  obtain⟨m,h⟩:=Sat.ex h
  exact⟨b,m.1,m.2,e,h.flat⟩
theorem XX {m n:Nat} (h:Sat w (QR b [intV o.move,.map (some m),intV o.many,.map (some n),strV o.list]::XI Za m (UV o.parts)::XI Za n (Yj o.pages)::As)):Sat w (Rt (ptrV b 0) (some o)::As):=
  Sat.ex_intro b (Sat.fold (As:=[Y4 (ptrV b 0=ptrV b 0),offT b o]) (Sat.pure_intro Qa (Sat.ex_intro (m,n) (Sat.fold (As:=[QR b [intV o.move,.map (some m),intV o.many,.map (some n),strV o.list],XI Za m (UV o.parts),XI Za n (Yj o.pages)]) h))))
end
theorem Ty {w:World} {e:Nat} {E:EnD} {F:Th} (hS:Sat w [Xs e E,F]):
    Calls prog 18 #[ptrV e 0] w (Ret fun v w'=>v= .bool (upE E)∧Sat w' [Xs e E,F]):= by
 obtain⟨dp,cv,sv,ov,hS⟩:=QW hS
 refine Qy func18 Qa ntmps18 Qa ?_
 refine Qg (Qb (Qc Qa Qa (Qh (Qe (Qg (Qb (Qd Qa Qa (Ql Qa Qa (Qi Qa CY Qa (Qp Qa El (hS.cell 0 Qa Qa) Qa ?_))))))))))
 rcases hq_c:E.cell with _ | C
 ·rw[hq_c]at hS
  obtain⟨rfl,hSo1⟩:=FI (dp:=dp) (hS.pick [2,0,1,3,4,5] rfl)
  refine YY underlying77 Qa Qa Qa (Qc Qa Qa (Qh (Qe (Qo (Q7 (.inr Qa) Qa Qa ?_)))))
  exact⟨_,rfl, by unfold upE; rw[hq_c];rfl,Qu (E:=E) (by rw[hq_c]; exact((Cd hSo1).pick [1,2,0,3,4,5] Qa))⟩
 rw[hq_c]at hS
 obtain⟨cp,rfl,hsl,hSo2⟩:=MN (hS.pick [2,0,1,3,4,5] rfl)
 refine Vd underlying77 Qa Qa Qa (Qc Qa Qa (Qh (Qe (Qo (Q7 (.inr Qa) Qa Qa ?_)))))
 exact⟨_,rfl, by unfold upE; rw[hq_c];rfl,Qu (E:=E) (by rw[hq_c]; exact((VP hsl (hSo2.pick [0,1,2,3,4,5] Qa)).pick [1,2,0,3,4,5] Qa))⟩
theorem owns_sp {w:World} {e:Nat} {E:EnD} {F:Th} (hS:Sat w [Xs e E,F]):
    Calls prog 54 #[ptrV e 0] w (Ret fun v w'=>v= .bool (Hu E)∧Sat w' [Xs e E,F]):= by
 refine Qy func54 Qa ntmps54 Qa ?_
 refine Qg (Qb (Qc Qa Qa (Qh (Qe (Qg (Qb (Qd Qa Qa (Q4 Bx Qa (Ty (hS.sp [0] Qa)) Qa ?_))))))))
 rintro _ w1 ⟨rfl,hS1⟩
 replace hS1:=hS1.jn Qa Qa
 obtain⟨dp,cv,sv,ov,hS2⟩:=QW (hS1.pick [0,1] rfl)
 refine Qd Qa Qa (Zz 5 Qa (fun h3=> ?_) (fun h3=> ?_))
 ·refine Qj Qa Qa h3 (Qd Qa Qa (Qj Qa Qa h3 (Ql Qa Qa (Qj Qa Qa h3 (Qi Qa Z0 Qa (Qj Qa Qa h3 (Qp Qa QK (hS2.cell 0 Qa Qa) Qa (Qj Qa Qa h3 (QO Qa Qa Qa (Qx Qa h3 Qa Qa (Qc Qa Qa (Qh (Qe (Qk [2] Qa (Qo (Q7 (.inr Qa) Qa Qa ?_))))))))))))))))
  exact⟨_,rfl, by unfold Hu; cases hq:upE E<;>simp_all,Qu (E:=E) ((hS2.pick [0,1,2,3,4,5] Qa))⟩
 refine Qf Qa Qa h3 Qa (Qf Qa Qa h3 Qa (Qf Qa Qa h3 Qa (Qf Qa Qa h3 Qa (Qf Qa Qa h3 Qa (Qz Qa h3 Qa Qa (Qc Qa Qa (Qh (Qe (Qk [2] Qa (Qo (Q7 (.inr Qa) Qa Qa ?_)))))))))))
 exact⟨_,rfl, by unfold Hu; cases hq:upE E<;>simp_all,Qu (E:=E) ((hS2.pick [0,1,2,3,4,5] Qa))⟩
theorem HA {w:World} {e:Nat} {E:EnD} {F:Th} (hS:Sat w [Xs e E,F]):
    Calls prog 15 #[ptrV e 0] w (Ret fun v w'=>v= .bool (Z5 E)∧Sat w' [Xs e E,F]):= by
 refine Qy func15 Qa ntmps15 Qa ?_
 refine Qg (Qb (Qc Qa Qa (Qh (Qe (Qg (Qb (Qd Qa Qa (Q4 cal_54 Qa (owns_sp (hS.sp [0] Qa)) Qa ?_))))))))
 rintro _ w1 ⟨rfl,hS1⟩
 replace hS1:=hS1.jn Qa Qa
 obtain⟨dp,cv,sv,ov,hS2⟩:=QW (hS1.pick [0,1] rfl)
 refine Qd Qa Qa (Zz 5 Qa (fun h3=> ?_) (fun h3=> ?_))
 ·refine Qj Qa Qa h3 (Qd Qa Qa (Qj Qa Qa h3 (Ql Qa Qa (Qj Qa Qa h3 (Qi Qa Xm Qa (Qj Qa Qa h3 (Qp Qa Z8 (hS2.cell 0 Qa Qa) Qa (Qj Qa Qa h3 ?_))))))))
  rcases hq_s:E.ses with _ | s
  ·rw[hq_s]at hS2
   obtain⟨rfl,hSo4⟩:=WM (hS2.pick [3,0,1,2,4,5] rfl)
   refine YY underlying78 Qa Qa Qa (Qx Qa h3 Qa Qa (Qd Qa Qa (Qf Qa Qa Qa Qa (Qf Qa Qa Qa Qa (Qf Qa Qa Qa Qa (Qf Qa Qa Qa Qa (Qf Qa Qa Qa Qa (Qz Qa Qa Qa Qa (Qc Qa Qa (Qh (Qe (Qk [2] Qa (Qo (Q7 (.inr Qa) Qa Qa ?_))))))))))))))
   exact⟨_,rfl, by unfold Z5; cases hq:Hu E<;>simp_all,Qu (E:=E) (by rw[hq_s]; exact((ZQ hSo4).pick [1,2,3,0,4,5] Qa))⟩
  rw[hq_s]at hS2
  obtain⟨sb,sm,rfl,hSo5⟩:=Zn (hS2.pick [3,0,1,2,4,5] rfl)
  refine Vd underlying78 Qa Qa Qa (Qx Qa h3 Qa Qa (Qd Qa Qa (Qj Qa Qa Qa (Qd Qa Qa (Qj Qa Qa Qa (Ql Qa Qa (Qj Qa Qa Qa (Qi Qa Jf Qa (Qj Qa Qa Qa (Qp Qa JT (hSo5.cell 2 Qa Qa) Qa (Qj Qa Qa Qa (XS Qa Qa (Qx Qa Qa Qa Qa (Qc Qa Qa (Qh (Qe (Qk [2] Qa (Qo (Q7 (.inr Qa) Qa Qa ?_)))))))))))))))))))
  exact⟨_,rfl, by unfold Z5; cases hq:Hu E<;>simp_all,Qu (E:=E) (by rw[hq_s]; exact((Xg (hSo5.pick [0,1,2,3,4,5,6] Qa)).pick [1,2,3,0,4,5] Qa))⟩
 refine Qf Qa Qa h3 Qa (Qf Qa Qa h3 Qa (Qf Qa Qa h3 Qa (Qf Qa Qa h3 Qa (Qf Qa Qa h3 Qa (Qz Qa h3 Qa Qa (Qd Qa Qa (Qf Qa Qa Qa Qa (Qf Qa Qa Qa Qa (Qf Qa Qa Qa Qa (Qf Qa Qa Qa Qa (Qf Qa Qa Qa Qa (Qz Qa Qa Qa Qa (Qc Qa Qa (Qh (Qe (Qk [2] Qa (Qo (Q7 (.inr Qa) Qa Qa ?_))))))))))))))))))
 exact⟨_,rfl, by unfold Z5; cases hq:Hu E<;>simp_all,Qu (E:=E) ((hS2.pick [0,1,2,3,4,5] Qa))⟩
