/- move: rounds, plain -/
import Derived.Test.YtiibgheijbbmaaaGreatDoorMvb5
import Derived.ChangeKeysEq
import Derived.Laws.StructEq
set_option linter.unusedVariables false
set_option maxRecDepth 100000
set_option maxHeartbeats 100000000000
namespace Go.Proofs.YtiibgheijbbmaaaGreatDoor
open Go.RowKit M Proofs.Tryz
def tickT (X:TwD) (i:Bool):TwD:=Wp (JL X i (XX (Xg X i)).1) i (XX (Xg X i)).2
structure SamE (E E':EnD):Prop where
  d:E'.D=E.D
  c:E'.cell=E.cell
  k:E'.kind=E.kind
  m:E'.move=E.move
  a:E'.active=E.active
section
variable {E E':EnD} {m:MsD} {b:Bs}
theorem SamE.refl (E:EnD):SamE E E:=⟨rfl,rfl,rfl,rfl,rfl⟩
theorem QE.samE (h:QE E) (hs:SamE E E'):QE E':=h.same hs.d hs.c hs.k hs.m (.inl hs.a)
theorem tick_samE:SamE E (XX E).1:= by
  unfold XX
  split
  · exact SamE.refl E
  split
  · exact SamE.refl E
  split
  · exact SamE.refl E
  split
  · exact SamE.refl E
  · dsimp only
    split
    · split
      · exact⟨Qa,Qa,Qa,Qa,Qa⟩
      · exact⟨Qa,Qa,Qa,Qa,Qa⟩
    · exact SamE.refl E
theorem Tk:SamE E (X6 E m):= by
  unfold X6
  split
  · split
    · exact SamE.refl E
    · exact⟨Qa,Qa,Qa,Qa,Qa⟩
  · split
    · exact SamE.refl E
    · split
      · exact SamE.refl E
      · split
        · exact SamE.refl E
        · split
          · exact⟨Qa,Qa,Qa,Qa,Qa⟩
          · exact SamE.refl E
theorem Tl:SamE E (ZI E m):= by
  unfold ZI;split
  · exact⟨Qa,Qa,Qa,Qa,Qa⟩
  · exact SamE.refl E
theorem PA:SamE E (Jo E m):= by
  unfold Jo;split
  · exact⟨Qa,Qa,Qa,Qa,Qa⟩
  · exact SamE.refl E
theorem Tm:SamE E (ZJ E m).1:= by
  unfold ZJ;split
  · exact SamE.refl E
  · exact⟨Qa,Qa,Qa,Qa,Qa⟩
def Noted (E E':EnD) (k n:Int):Prop:=QE E'∧E'.kind=k∧E'.move=n∧E'.active=false
theorem Up (h:QE E) (ha:E.active=false) {k n:Int} (hk:0≤k∧k<4) (hn:0≤n∧X5 n) {E0:EnD} (h0:SamE E E0):(QU E0 k n).1=0∧Noted E (QU E0 k n).2 k n:= by
  obtain⟨a1,D,C,a2,a3⟩:=(h.samE h0).note hk hn
  refine⟨a1, ?_⟩
  rw[a2]
  exact⟨a3,rfl,rfl, by show E0.active=false; rw[h0.a]; exact ha⟩
theorem Noted.samE {E0:EnD} {k n:Int} (h:Noted E E0 k n) (hs:SamE E0 E'):Noted E E' k n:=⟨h.1.samE hs, by rw[hs.k]; exact h.2.1, by rw[hs.m]; exact h.2.2.1, by rw[hs.a]; exact h.2.2.2⟩
theorem M5 {n:Int} (h:0≤n∧n≤4611686018427387904):0≤n∧X5 n:=⟨h.1, by unfold X5;omega⟩
theorem Fg (h:QE E) (ha:E.active=false) (hm:MsW m):SamE E (X3 E m).1∨(E.kind≠1∧E.move<m.move∧Noted E (X3 E m).1 2 m.move):= by
  unfold X3
  split
  · exact .inl (SamE.refl E)
  cases hj:ZA E m.move with
  | none=> exact .inl (SamE.refl E)
  | some o=>
    dsimp only
    have hjj: ¬(E.kind=1∨m.move≤E.move):= fun q=> by rw[Ur q]at hj; cases hj
    split
    · exact .inl ⟨Qa,Qa,Qa,Qa,Qa⟩
    split
    · exact .inl ⟨Qa,Qa,Qa,Qa,Qa⟩
    split
    · exact .inl ⟨Qa,Qa,Qa,Qa,Qa⟩
    · refine .inr ⟨by omega, by omega, ?_⟩
      obtain⟨a1,a2⟩:=Up h ha (k:=2) (n:=m.move) (by omega) (M5 hm.mv) (E0:={E with off:=some {Jb (X9 o m.b) m with list:=ZD (Jb (X9 o m.b) m)}}) ⟨rfl,rfl,rfl,rfl,rfl⟩
      rw[Ga a1]
      exact a2.samE ⟨Qa,Qa,Qa,Qa,Qa⟩
theorem CN (ha:E.active=false):SamE E (Xj E m).1:= by
  unfold Xj
  split
  · exact SamE.refl E
  split
  · exact SamE.refl E
  split
  · rename_i q; rw[ha]at q; exact absurd q.2.2.1 (by decide)
  split
  · rename_i q; rw[ha]at q; exact absurd q.2.2 (by decide)
  · exact SamE.refl E
theorem PH (h:QE E) (ha:E.active=false) (hm:MsW m):(¬(E.kind=2∧m.move=E.move)∧SamE E (X7 E m))∨(E.kind=2∧m.move=E.move∧Noted E (X7 E m) 1 m.move):= by
  by_cases q:E.kind≠2∨m.move≠E.move
  · rw[Vq q]; exact .inl ⟨by omega,SamE.refl E⟩
  · obtain⟨a1,a2⟩:=Up h ha (k:=1) (n:=m.move) (by omega) (M5 hm.mv) (SamE.refl E)
    refine .inr ⟨by omega, by omega, ?_⟩
    unfold X7
    rw[if_neg q,if_neg (by omega)]
    split
    · exact a2.samE ⟨Qa,Qa,Qa,Qa,Qa⟩
    · split
      · exact a2.samE ⟨Qa,Qa,Qa,Qa,Qa⟩
      · exact⟨a2.1.same Qa Qa Qa Qa (.inr Qa),a2.2.1,a2.2.2.1,Qa⟩
theorem CM (h:QE E) (ha:E.active=false):SamE E (Zt E b).1∨
    (E.kind≠1∧E.move<(QX b).move∧(QX b).kind=1∧Noted E (Zt E b).1 2 (QX b).move)∨
    (E.kind=2∧(QX b).kind=4∧(QX b).move=E.move∧Noted E (Zt E b).1 1 E.move)∨
    (E.kind=2∧(QX b).kind=5∧(QX b).move=E.move∧Noted E (Zt E b).1 0 E.move):= by
  by_cases hc:upE E=false∨(QX b).kind<0∨9<(QX b).kind∨(QX b).move<0∨4611686018427387904<(QX b).move∨WQ (QX b)≠b
  · rw[HD hc]; exact .inl (SamE.refl E)
  rw[W4 hc]
  obtain⟨d1,d2,d3,d4,_⟩:=KZ b
  have hmv:0≤(QX b).move∧(QX b).move≤4611686018427387904:= by omega
  have hn:=M5 hmv
  unfold XS
  split
  · exact .inl Tk
  split
  · rename_i hk
    by_cases hd:(QX b).data.length≤1000
    · rcases Fg h ha ⟨d1,hmv,d3,d4,hd⟩with q | ⟨q1,q2,q3⟩
      · exact .inl q
      · exact .inr (.inl ⟨q1,q2,hk,q3⟩)
    · -- (the size plays no part)
      unfold X3
      split
      · exact .inl (SamE.refl E)
      cases hj:ZA E (QX b).move with
      | none=> exact .inl (SamE.refl E)
      | some o=>
        dsimp only
        have hjj: ¬(E.kind=1∨(QX b).move≤E.move):= fun q=> by rw[Ur q]at hj; cases hj
        split
        · exact .inl ⟨Qa,Qa,Qa,Qa,Qa⟩
        split
        · exact .inl ⟨Qa,Qa,Qa,Qa,Qa⟩
        split
        · exact .inl ⟨Qa,Qa,Qa,Qa,Qa⟩
        · refine .inr (.inl ⟨by omega, by omega,hk, ?_⟩)
          obtain⟨a1,a2⟩:=Up h ha (k:=2) (n:=(QX b).move) (by omega) hn (E0:={E with off:=some {Jb (X9 o (QX b).b) (QX b)with list:=ZD (Jb (X9 o (QX b).b) (QX b))}}) ⟨rfl,rfl,rfl,rfl,rfl⟩
          rw[Ga a1]
          exact a2.samE ⟨Qa,Qa,Qa,Qa,Qa⟩
  split
  · exact .inl (CN ha)
  split
  · rename_i hk
    by_cases q:E.kind≠2∨(QX b).move≠E.move
    · rw[Vq q]; exact .inl (SamE.refl E)
    · obtain⟨a1,a2⟩:=Up h ha (k:=1) (n:=(QX b).move) (by omega) hn (SamE.refl E)
      have he:(QX b).move=E.move:= by omega
      refine .inr (.inr (.inl ⟨by omega,hk,he, ?_⟩))
      unfold X7
      rw[if_neg q,if_neg (by omega)]
      rw[he]at a2⊢
      split
      · exact a2.samE ⟨Qa,Qa,Qa,Qa,Qa⟩
      · split
        · exact a2.samE ⟨Qa,Qa,Qa,Qa,Qa⟩
        · exact⟨a2.1.same Qa Qa Qa Qa (.inr Qa),a2.2.1,a2.2.2.1,Qa⟩
  split
  · rename_i hk
    unfold WI
    by_cases q:E.kind=2∧(QX b).move=E.move
    · obtain⟨a1,a2⟩:=Up h ha (k:=0) (n:=(QX b).move) (by omega) hn (SamE.refl E)
      rw[if_pos q,if_neg (by omega)]
      rw[q.2]at a2⊢
      exact .inr (.inr (.inr ⟨q.1,hk,Qa,a2.samE ⟨Qa,Qa,Qa,Qa,Qa⟩⟩))
    · rw[if_neg q]; exact .inl (SamE.refl E)
  split
  · exact .inl (SamE.refl E)
  split
  · exact .inl Tl
  split
  · exact .inl Tm
  · exact .inl PA
theorem EN (h:QE E) (ha:E.active=false):QE (Zt E b).1∧(Zt E b).1.active=false:= by
  rcases CM (b:=b) h ha with q | ⟨_,_,_,q⟩ | ⟨_,_,_,q⟩ | ⟨_,_,_,q⟩
  · exact⟨h.samE q, by rw[q.a]; exact ha⟩
  · exact⟨q.1,q.2.2.2⟩
  · exact⟨q.1,q.2.2.2⟩
  · exact⟨q.1,q.2.2.2⟩
end
def wtK (k:Int):Nat:= if k=1 then 3 else if k=2∨k=3∨k=6∨k=8 then 2 else 1
def wt (b:Bs):Nat:=wtK (QX b).kind
def Ch (fl:List (Bool×Bs)):Nat:=(fl.map fun p=>wt p.2).sum
theorem wt_pos (b:Bs):1≤wt b∧wt b≤3:= by unfold wt wtK;split;omega;split<;>omega
theorem wtL_len (fl:List (Bool×Bs)):fl.length≤Ch fl∧Ch fl≤3*fl.length:= by
  induction fl with
  | nil=> exact⟨Nat.le_refl _,Nat.le_refl _⟩
  | cons p l ih=>
    have h:=wt_pos p.2
    have e:Ch (p::l)=wt p.2+Ch l:= by unfold Ch; simp
    rw[e,List.length_cons];omega
theorem wtL_app (l m:List (Bool×Bs)):Ch (l++m)=Ch l+Ch m:= by unfold Ch; simp
theorem AA {k n a b:Int} {d:Bs} (hk:X5 k) (hn:X5 n):wt (WQ ⟨k,n,a,b,d⟩)=wtK k:= by
  have :=CE (a:=a) (b:=b) (d:=d) hk hn
  unfold wt
  have e:(QX (WQ ⟨k,n,a,b,d⟩)).kind=k:=congrArg Prod.fst this
  rw[e]
theorem AV {X:TwD} {i:Bool} {s:Bs}:Ch (Jx X i s).fl≤Ch X.fl+wt s:= by
  unfold Jx
  split
  · omega
  · show Ch (X.fl++[(!i,s)])≤_
    rw[wtL_app];unfold Ch; simp
theorem NV {i:Bool}: ∀{l:List Bs} {X:TwD},Ch (Wp X i l).fl≤Ch X.fl+(l.map wt).sum
  | [],_=> by simp [Wp]
  | s::l,X=> by
    have h1:=NV (i:=i) (l:=l) (X:=Jx X i s)
    have h2:=AV (X:=X) (i:=i) (s:=s)
    show Ch (Wp (Jx X i s) i l).fl≤_
    rw[List.map_cons,List.sum_cons];omega
structure PhQ (X:TwD) (t:Int):Prop where
  inv:INV X t
  w:XW X
  q: ∀i,QE (Xg X i)
  n: ∀i,(Xg X i).active=false
  cut:X.cut=false
  tb:t≤1000
def PoN (X:TwD) (i:Bool):Prop:=(Xg X i).kind=1
def PoT (X:TwD) (i:Bool) (n:Int):Prop:=(Xg X i).kind=2∧(Xg X i).move=n∧(Xg X (!i)).kind=3∧(Xg X (!i)).move=n
def TokP (i:Bool) (n:Int) (p:Bool×Bs):Prop:=(p.1= !i∧(p.2=WQ ⟨2,n,0,0,[]⟩∨p.2=WQ ⟨3,n,0,0,[]⟩))∨(p.1=i∧p.2=WQ ⟨4,n,0,0,[]⟩)
def Tok (X:TwD) (i:Bool) (n:Int):Prop:= ∃p∈X.fl,TokP i n p
section
variable {X Y:TwD} {t n:Int} {i j:Bool} {p:Bool×Bs} {rest:List (Bool×Bs)} {l:List Bs} {E:EnD}
theorem Nf {fl:List (Bool×Bs)}:Xg {X with fl:=fl} i=Xg X i:= by cases i<;>rfl
theorem TA:(Wp X i l).cut=X.cut:=(V5).2.2
theorem Mk:(JL X i E).cut=X.cut:= by cases i<;>rfl
theorem Si {i j:Bool}:Xg (JL X i E) j= if j=i then E else Xg X j:= by cases i<;> cases j<;>rfl
theorem SP {s:Bs} (h:p∈X.fl):p∈(Jx X i s).fl:= by
  unfold Jx;split
  · exact h
  · exact List.mem_append_left _ h
theorem R4: ∀{l:List Bs} {X:TwD},p∈X.fl→p∈(Wp X i l).fl
  | [],_,h=>h
  | s::l,X,h=>R4 (l:=l) (X:=Jx X i s) (SP h)
theorem Kw (h:X.fl=p::rest):Zw X 0=Wp (JL {X with fl:=rest} p.1 (Zt (Xg X p.1) p.2).1) p.1 (Zt (Xg X p.1) p.2).2:= by
  have h0:(Zs 0 X.fl.length).toNat=0:= by
    unfold Zs;split
    · rfl
    · rw[Int.zero_emod];rfl
  unfold Zw Rw
  rw[h0,h];rfl
theorem VI (h:X.fl=p::rest):Xg (Zw X 0) j= if j=p.1 then(Zt (Xg X p.1) p.2).1 else Xg X j:= by
  rw[Kw h,WO,Si]
  split
  · rw[Nf]
  · exact Nf
theorem PhQ.arrive (h:PhQ X t) (hf:X.fl≠[]):PhQ (Zw X 0) t:= by
  obtain⟨p,rest,hl⟩:=List.exists_cons_of_ne_nil hf
  have hq:=EN (b:=p.2) (h.q p.1) (h.n p.1)
  refine⟨MT h.inv,h.w.arrive 0, fun j=> ?_, fun j=> ?_, ?_,h.tb⟩
  · rw[VI hl];split
    · exact hq.1
    · exact h.q j
  · rw[VI hl];split
    · exact hq.2
    · exact h.n j
  · rw[Kw hl,TA,Mk]; exact h.cut
theorem DK:Xg (tickT X i) j= if j=i then(XX (Xg X i)).1 else Xg X j:= by unfold tickT; rw[WO,Si]
theorem PhQ.tick (h:PhQ X t) (i:Bool):PhQ (tickT X i) t:= by
  refine⟨h.inv.said (Y:=X) (fun _ q=>q) Qa fun _ h2 h3=>T3 h2 h3,(h.w.put (h.w.at_ i).tick).send (h.w.at_ i).tick_out, fun j=> ?_, fun j=> ?_, ?_,h.tb⟩
  · rw[DK];split
    · exact(h.q i).samE tick_samE
    · exact h.q j
  · rw[DK];split
    · rw[tick_samE.a]; exact h.n i
    · exact h.n j
  · unfold tickT; rw[TA,Mk]; exact h.cut
theorem PoN.tick (h:PoN X i) (j:Bool):PoN (tickT X j) i:= by
  unfold PoN at *
  rw[DK];split
  · rename_i e; subst e; rw[tick_samE.k]; exact h
  · exact h
theorem PoN.arrive (h:PhQ X t) (hp:PoN X i) (hf:X.fl≠[]):PoN (Zw X 0) i:= by
  obtain⟨p,rest,hl⟩:=List.exists_cons_of_ne_nil hf
  unfold PoN at *
  rw[VI hl];split
  · rename_i e; subst e
    rcases CM (b:=p.2) (h.q p.1) (h.n p.1)with q | ⟨q,_⟩ | ⟨q,_⟩ | ⟨q,_⟩
    · rw[q.k]; exact hp
    · exact absurd hp q
    · omega
    · omega
  · exact hp
theorem Fm (h:QE E) (ha:E.active=false) (hk:E.kind=2) (hm:E.move=n) (hn:0≤n∧n≤4611686018427387904):(Zt E (WQ ⟨4,n,0,0,[]⟩)).1.kind=1:= by
  rw[Us h.upE (by show(0:Int)≤4∧(4:Int)≤9;omega) hn XR XR (by simp),MB Qa]
  rcases PH (m:=⟨4,n,0,0,[]⟩) h ha ⟨XM (by show(0:Int)≤4∧(4:Int)≤9;omega),hn,XR,XR, by simp⟩with⟨q,_⟩ | ⟨_,_,q⟩
  · exact absurd ⟨hk,hm.symm⟩ q
  · exact q.2.1
theorem SF (h:QE E) (hk:E.kind=3) (hm:E.move=n) (hn:0≤n∧n≤4611686018427387904) {b:Bs} (hb:b=WQ ⟨2,n,0,0,[]⟩∨b=WQ ⟨3,n,0,0,[]⟩):(Zt E b).2=[WQ ⟨4,n,0,0,[]⟩]:= by
  rcases hb with e | e<;> subst e
  · rw[Us h.upE (by show(0:Int)≤2∧(2:Int)≤9;omega) hn XR XR (by simp),MC Qa,CP ⟨hk,hm.symm⟩]
    unfold Zk; rw[hm]
  · rw[Us h.upE (by show(0:Int)≤3∧(3:Int)≤9;omega) hn XR XR (by simp),PN Qa,CP ⟨hk,hm.symm⟩]
    unfold Zk; rw[hm]
theorem bool_ne {i j:Bool} (h:j≠i):j= !i:= by cases i<;> cases j<;>simp_all
theorem PoT.arrive (h:PhQ X t) (hp:PoT X i n) (hl:X.fl=p::rest):PoN (Zw X 0) i∨(PoT (Zw X 0) i n∧(Tok X i n→Tok (Zw X 0) i n)):= by
  obtain⟨S,S',e1,e2,e3,_,_⟩:=h.inv.at i
  rw[Bool.not_not]at e3
  obtain⟨k1,k2,k3,k4⟩:=hp
  have sI: ∀x,S x↔x=(3,n):= fun x=> by rw[Uo e1 (h.q (!i)).up,k3,k4]
  have sJ: ∀x,S' x↔x=(2,n):= fun x=> by rw[Uo e2 (h.q i).up,k1,k2]
  have hnn:0≤n∧X5 n:= by have :=(h.q i).rg; rw[k2]at this; exact this.2.2
  have hmem:p∈X.fl:= by rw[hl]; exact List.mem_cons_self
  have hnb:0≤n∧n≤4611686018427387904:= by have a:=h.inv.mv h.w i; have b:=h.tb; rw[k2]at a; exact⟨hnn.1, by omega⟩
  by_cases hi:p.1=i
  · -- the one that is ready hears
    have hin:Mo X.fl i (Ta p.2):=⟨p,hmem,hi,rfl⟩
    have hE:Xg (Zw X 0) i=(Zt (Xg X i) p.2).1:= by rw[VI hl,if_pos hi.symm,hi]
    have hO:Xg (Zw X 0) (!i)=Xg X (!i):= by rw[VI hl,if_neg (by rw[hi]; cases i<;> simp)]
    rcases CM (b:=p.2) (h.q i) (h.n i)with q | ⟨_,q1,q2,_⟩ | ⟨_,_,_,q⟩ | ⟨_,q1,q2,_⟩
    · refine .inr ⟨⟨by rw[hE,q.k]; exact k1, by rw[hE,q.m]; exact k2, by rw[hO]; exact k3, by rw[hO]; exact k4⟩, ?_⟩
      rintro⟨r,hr,ht⟩
      rw[hl]at hr
      rcases List.mem_cons.1 hr with e | e
      · -- the token itself: it is taken
        subst e
        exfalso
        rcases ht with⟨a,_⟩ | ⟨_,b⟩
        · rw[hi]at a; cases i<;> cases a
        · have z:=Fm (h.q i) (h.n i) k1 k2 hnb
          rw[←b,q.k,k1]at z; cases z
      · refine⟨r, ?_,ht⟩
        rw[Kw hl]; exact R4 (by rw[UF]; exact e)
    · have :=e3.i.num _ hin _ ((sI _).2 Qa)
      have :(QX p.2).move≤n:=this
      omega
    · left;unfold PoN; rw[hE]; exact q.2.1
    · have hm:Ta p.2=(5,n):= by unfold Ta; rw[q1,q2,k2]
      rw[hm]at hin
      rcases(e3.i.no n hin).1 _ ((sI _).2 rfl)with z | z
      · have z:n<n:=z
        omega
      · cases z
  · -- the one that has given hears
    have hi2:p.1= !i:=bool_ne hi
    have hin:Mo X.fl (!i) (Ta p.2):=⟨p,hmem,hi2,rfl⟩
    have hE:Xg (Zw X 0) (!i)=(Zt (Xg X (!i)) p.2).1:= by rw[VI hl,if_pos hi2.symm,hi2]
    have hO:Xg (Zw X 0) i=Xg X i:= by rw[VI hl,if_neg (by rw[hi2]; cases i<;> simp)]
    rcases CM (b:=p.2) (h.q (!i)) (h.n (!i))with q | ⟨_,q1,q2,_⟩ | ⟨q,_⟩ | ⟨q,_⟩
    · refine .inr ⟨⟨by rw[hO]; exact k1, by rw[hO]; exact k2, by rw[hE,q.k]; exact k3, by rw[hE,q.m]; exact k4⟩, ?_⟩
      rintro⟨r,hr,ht⟩
      rw[hl]at hr
      rcases List.mem_cons.1 hr with e | e
      · subst e
        rcases ht with⟨_,b⟩ | ⟨a,_⟩
        · have ho:=SF (h.q (!i)) k3 k4 hnb b
          refine⟨(i,WQ ⟨4,n,0,0,[]⟩), ?_,.inr ⟨Qa,Qa⟩⟩
          rw[Kw hl,hi2,ho]
          have hroom: ¬(({X with fl:=rest}:TwD).cut=true∨500≤rest.length):= by
            rintro(z | z)
            · have z:X.cut=true:=z
              rw[h.cut]at z; cases z
            · have :=h.w.ln; rw[hl,List.length_cons]at this;omega
          show _∈(Jx _ _ _).fl
          unfold Jx
          rw[if_neg (by rw[Mk,UF]; exact hroom)]
          show _∈(JL {X with fl:=rest} (!i) _).fl++[(!(!i),_)]
          rw[Bool.not_not]; simp
        · rw[a]at hi2; cases i<;> cases hi2
      · refine⟨r, ?_,ht⟩
        rw[Kw hl]; exact R4 (by rw[UF]; exact e)
    · have :=e3.j.num _ hin _ ((sJ _).2 Qa)
      have :(QX p.2).move≤n:=this
      omega
    · omega
    · omega
theorem T4 (he:XX (Xg X i)=(Xg X i,[])):tickT X i=X:= by
  unfold tickT; rw[he]
  show JL X i (Xg X i)=X
  exact Ub
theorem SE (h:QE E) (hk:E.kind=2) (hm:E.move=n): ∃s,XX E=(E,[s])∧(s=WQ ⟨2,n,0,0,[]⟩∨s=WQ ⟨3,n,0,0,[]⟩):= by
  have e: ∀k:Int,Zk E k 0 0 []=WQ ⟨k,n,0,0,[]⟩:= fun k=> by unfold Zk; rw[hm]
  by_cases q: ∃o,E.off=some o∧o.move=E.move
  · obtain⟨o,q1,q2⟩:=q
    exact⟨_,NH h.upE hk q1 q2,.inl (e 2)⟩
  · exact⟨_,Vd h.upE hk (fun o ho hmo=>q ⟨o,ho,hmo⟩),.inr (e 3)⟩
theorem PoT.one (h:PhQ X t) (hp:PoT X i n): ∃s,tickT X i=Wp X i [s]∧(s=WQ ⟨2,n,0,0,[]⟩∨s=WQ ⟨3,n,0,0,[]⟩):= by
  obtain⟨s,e1,e2⟩:=SE (h.q i) hp.1 hp.2.1
  refine⟨s, ?_,e2⟩
  unfold tickT; rw[e1,Ub]
theorem PoT.ticks (h:PhQ X t) (hp:PoT X i n):PoT (tickT (tickT X false) true) i n∧Ch (tickT (tickT X false) true).fl≤Ch X.fl+2∧(Ch X.fl<500→Tok (tickT (tickT X false) true) i n):= by
  obtain⟨s,hs,hm⟩:=hp.one h
  have hno:XX (Xg X (!i))=(Xg X (!i),[]):=YU (h.q (!i)).upE (by have :=hp.2.2.1;omega) (.inl (by have :=hp.2.2.1;omega))
  have key:tickT (tickT X false) true=Wp X i [s]:= by
    cases i with
    | false=>
      rw[hs]
      exact T4 (by rw[WO]; exact hno)
    | true=>
      rw[T4 (i:=false) hno]; exact hs
  rw[key]
  have hnI:=(h.q i).rg
  rw[hp.2.1]at hnI
  have hw:wt s=2:= by
    rcases hm with e | e
    · rw[e,AA (XM (by omega)) hnI.2.2.2];rfl
    · rw[e,AA (XM (by omega)) hnI.2.2.2];rfl
  refine⟨⟨by rw[WO]; exact hp.1, by rw[WO]; exact hp.2.1, by rw[WO]; exact hp.2.2.1, by rw[WO]; exact hp.2.2.2⟩, ?_, fun hlt=> ?_⟩
  · have :=NV (X:=X) (i:=i) (l:=[s])
    simp [hw]at this;omega
  · have hln:=(wtL_len X.fl).1
    refine⟨(!i,s), ?_,.inl ⟨Qa,hm⟩⟩
    show _∈(Jx X i s).fl
    unfold Jx
    rw[if_neg (by rintro(z | z);(rw[h.cut]at z; cases z);omega)]
    simp
end
section
variable {E:EnD} {S:KM→Prop} {X:TwD} {t:Int} {i:Bool}
theorem INV.lose (h:INV X t) (i:Bool) (n:Int):INV (JL X i {Xg X i with D:={(Xg X i).D with lost:=n}}) t:=h.mute fun _ h2 h3=>TN h2 h3 n
theorem INV.arm (h:INV X t) (i:Bool) (n:Int) (ks:List Int):INV (JL X i {Xg X i with D:=MU (Xg X i).D n ks}) t:=h.mute fun _ h2 h3=>Sy h2 h3 n ks
theorem INV.cancel (h:INV X t) (i:Bool):INV (JL X i (W6 (Xg X i)).2) t:=h.mute fun _ h2 h3=>Dc h2 h3
end
theorem XW.tickT {X:TwD} (h:XW X) (i:Bool):XW (tickT X i):=(h.put (h.at_ i).tick).send (h.at_ i).tick_out
def shP (e:Int×PgD):Int×Bs:=(e.1,e.2.data)
def Js (E:EnD):SsD×Bool:= match E.ses with
  | none=>(⟨[],[]⟩,false)
  | some s=> if YZ s.pages=[]then(⟨s.state,s.pages.map shP⟩,true)else(⟨[],[]⟩,false)
theorem T7 {E:EnD} (h:E.ses=none):Js E=(⟨[],[]⟩,false):= by unfold Js; rw[h]
theorem T8 {E:EnD} (h:QP E≠[]):Js E=(⟨[],[]⟩,false):= by
  unfold Js;unfold QP at h
  cases q:E.ses with
  | none=>rfl
  | some s=> rw[q]at h; dsimp only at h⊢; rw[if_neg h]
theorem T6 {E:EnD} {s:SeD} (h:E.ses=some s) (h2:QP E=[]):Js E=(⟨s.state,s.pages.map shP⟩,true):= by
  unfold Js;unfold QP at h2
  rw[h]at h2⊢
  dsimp only at h2⊢; rw[if_pos h2]
theorem AR {l:AL PgD} {i:Nat} {e:Int×PgD} (h:l[i]? =some e):(l.take (i+1)).map shP=(l.take i).map shP++[shP e]:= by rw[List.take_add_one,h,List.map_append];rfl
theorem Ii {w:World} {e:Nat} {E:EnD} {F:Th} (hS:Sat w [Xu e E,F]) (hw: ∀x,E.ses=some x→SeW x):
    Calls prog 32 #[ptrV e 0] w (Ret fun v w'=> ∃sv,v= .tuple #[.agg #[strV (Js E).1.state,sv],.bool (Js E).2]∧Sat w' [rowT shC sv (Js E).1.sheets,Xu e E,F]):= by
 refine Qx func32 Qa ntmps32 Qa ?_
 refine Qg (Qb (Xl hS VK Qa Qa ?_))
 intro rb w1 hS10
 have hS1:Sat w1 (QR rb [strV [],.slice none 0 0]::_):=hS10
 refine Qc Qa Qa (Qh (Qd (Qg (Qg (Qb (Qe Qa Qa ?_))))))
 obtain⟨dp,cv,sv,ov,hS2⟩:=QQ (hS1.pick [1,0,2] rfl)
 refine Ql Qa Qa (Qi Qa Xo Qa (Qq Qa Z3 (hS2.cell 0 Qa Qa) Qa ?_))
 rcases hq_s:E.ses with _ | s
 ·rw[hq_s]at hS2
  obtain⟨rfl,hSo3⟩:=WN (hS2.pick [3,0,1,2,4,5,6] rfl)
  refine ZM underlying78 Qa Qa Qa (Qe Qa Qa (Qf Qa Qa Qa Qa (Qf Qa Qa Qa Qa (Qf Qa Qa Qa Qa (Qf Qa Qa Qa Qa (Q0 Qa Qa Qa Qa (Qh (Qd (Qk [0,2,3,17] Qa (QO Qa (Qg (Qb (Zi Qa Ok RJ VK Qa Qa ?_)))))))))))))
  (refine QZ hSo3 Qa Qa Wi Qa (by rfl) (i:=4) Qa (by decide) ?_)
  intro w5 hS6; dsimp only[List.set]at hS6
  clear hSo3
  refine Qc Qa Qa (Qh (Qd (Qo (Qm ?_))))
  refine PY (.inr Qa) Qa (RZ Qa J9 Wi (by first | exact hS6.blk 0 Qa | exact hS6.blk 4 Qa) (by first | decide | exact Xd Qa | (simp;done) | omega) Qa) (Oa Qa) ?_
  have hS7:=Qv (E:=E) (by rw[hq_s]; exact((ZQ hS6).pick [1,2,3,0,4,5,6] Qa))
  exact⟨_,rfl,.slice none 0 0, by rw[T7 hq_s];rfl, by rw[T7 hq_s]; exact Sat.row_nil shC (hS7.pick [0,2] Qa)⟩
 rw[hq_s]at hS2
 obtain⟨sb,sm,rfl,hSo4⟩:=Zj (hS2.pick [3,0,1,2,4,5,6] rfl)
 refine ZH underlying78 Qa Qa Qa (Qe Qa Qa (Qj Qa Qa Qa (Qe Qa Qa (Qj Qa Qa Qa ?_))))
 have hS8:=Qv (E:=E) (by rw[hq_s]; exact((Xf (hSo4.pick [0,1,2,3,4,5,6,7] Qa)).pick [1,2,3,0,4,5,6] Qa))
 refine Qz Uy Qa (WR (hS8.sp [0] Qa) hw) Qa ?_
 rintro _ w9 hS9
 replace hS9:=hS9.jn Qa Qa
 have h1v:=hS9.own_one 0 Qa
 refine Qj Qa Qa Qa (Xs 0 hS9 underlying33 Qa Qa Qa (Qj Qa Qa Qa (Wl Qa Qa Qa (Q1 Qa Qa Qa Qa (Qh (Qd (Qk [0,2,3,17] Qa (Qt Qa (fun h10=> ?_) (fun h10=> ?_)))))))))
 ·have hms:QP E≠[]:= by intro q; have q9:=h10; rw[q]at q9; simp at q9
  refine Qg (Qb (Zi Qa Ok RJ VK Qa Qa ?_))
  first | (refine QZ hS9 Qa Qa Wi Qa (by rfl) (i:=2) Qa (by decide) ?_)
  intro w11 hS12; dsimp only[List.set]at hS12
  refine Qc Qa Qa (Qh (Qd (Qo (Qm ?_))))
  refine PY (.inr Qa) Qa (RZ Qa J9 Wi (by first | exact hS12.blk 2 Qa) (by first | decide | exact Xd Qa | (simp;done) | omega) Qa) (Oa Qa) ?_
  exact⟨_,rfl,.slice none 0 0, by rw[T8 hms];rfl, by rw[T8 hms]; exact Sat.row_nil shC (hS12.pick [1,3] Qa)⟩
 have hmn:QP E=[]:=List.eq_nil_of_length_eq_zero (by have q9:=h10;omega)
 refine Qr (Qd (Qg ?_))
 obtain⟨dp,cv,sv,ov,hS13⟩:=QQ (hS9.pick [1,0,2,3] rfl)
 rw[hq_s]at hS13
 obtain⟨sb,sm,rfl,hS14⟩:=Zj (hS13.pick [3,0,1,2,4,5,6,7] rfl)
 refine Qb (Qe Qa Qa (Ql Qa Qa (Qi Qa Xo Qa (Qq Qa Z3 (hS14.cell 2 Qa Qa) Qa (Ql Qa Qa (Qi Qa Gs Qa (Qq Qa Zr (hS14.cell 0 Qa Qa) Qa (Zi Qa Dr RJ VK Qa Qa (Xl hS14 VK Qa Qa ?_)))))))))
 intro cb w15 hS150
 have hS15:Sat w15 (QR cb [strV [],.slice none 0 0]::_):=hS150
 (refine QZ hS15 Qa Qa Wi Qa (by rfl) (i:=0) Qa (by decide) ?_)
 intro w16 hS17; dsimp only[List.set]at hS17
 refine Qh (Qd (Qk [0,2,3,4] Qa (Qg (Qg (Qb (Qe Qa Qa (Ql Qa Qa (Qi Qa Xo Qa (Qq Qa Z3 (hS17.cell 3 Qa Qa) Qa ?_)))))))))
 refine Qz Nq Qa (CL (hS17.sp [1,2] Qa) (hw s hq_s).srt (by have :=(hw s hq_s).num;omega)) Qa ?_
 rintro _ w18 hS18
 replace hS18:=hS18.jn Qa Qa
 have h1v:=hS18.own_one 0 Qa
 have hnm:=(hw s hq_s).num
 obtain⟨ao,cap,hv19,_⟩:=hS18.own_shape 0 rfl
 obtain rfl:=hv19
 refine Xi underlying33 Qa Qa (Qe Qa Qa (Qh (Qd (Qk [0,2,3,4,31,32,33] Qa (QD ?_)))))
 have hS20:=Sat.row_nil shC hS18
 refine X8 (fun K0 E0 W0=> ∃(i:Nat) (sv9:Value),K0=s.pages.length -i∧E0=[(0,ptrV e 0),(2,ptrV rb 0),(4,ptrV cb 0),(31,.slice ao (Zy s.pages).length cap),(32,intV ((Zy s.pages).length:Int)),(33,intV (i:Int))]∧Sat W0 [rowT shC sv9 ((s.pages.take i).map shP),rowT inC (.slice ao (Zy s.pages).length cap) (Zy s.pages),QR cb [strV s.state,sv9],QR rb [strV [],.slice none 0 0],QR sb [strV s.state,intV s.count,.map (some sm)],XE XY sm (Yc s.pages),QR e (U5 dp cv (ptrV sb 0) ov E),dT dp E.D,JK dp cv E.cell,Rl ov E.off,F]∧(i≤s.pages.length)) (L0:=[(0,_),(2,_),(4,_),(31,_),(32,_),(33,_)]) (s.pages.length -0) (RM Qa Qa Qa Qa Qa Qa) ⟨0,_,rfl,rfl,hS20.pick [0,1,4,10,2,3,5,6,7,8,11] Qa, by omega⟩ ?_
 rintro _ _ w21 ⟨i,sv9,rfl,rfl,hS21,hi⟩
 have h1ov:sv9.oneCell'=true:=hS21.own_one 0 Qa
 refine Qg (Qb (X0 Qa Qa Qa (Qh (Qd (Qg (Qt Qa (fun h22=> ?_) (fun h22=> ?_)))))))
 ·rw[KK]at h22
  obtain⟨y,hy⟩: ∃y,s.pages[i]? =some y:=⟨_,WB (by omega)⟩
  have hyi:=Ff hy
  refine Qr (Qd (Qg (QD (Qg (Qb (ZP inC 1 i hS21 Qa Qa Qa (by first | rfl | omega) hyi Uv Qa ?_))))))
  intro bx23 capx23 hvx23
  refine ZT 1 i 0 hS21 Qa hvx23 Qa Qa hyi QF Qa Qa (Qc Qa Qa (Qh (Qd ?_)))
  have hS24:=hS21.drew
  refine QM [0,1,2,3,4,5,6,7,8,9,10,11,12,13,14,15,16,17] [14,15,17] Wv (by kernel_rfl) ?_
  refine QN Qa Qa Qa Zh (Q9 Qa Qa Qa (Qn Qa WF (hS24.cell 2 Qa Qa)) (QK Qa Qa Qa (QK Qa Qa Qa (Xm Qa Qa Qa (QN Qa Qa Qa Xo (Q9 Qa Qa Qa (Qn Qa Z3 (hS24.cell 6 Qa Qa)) (Xm Qa Qa Qa (QN Qa Qa Qa ZF (Q9 Qa Qa Qa (Qn Qa ZX (hS24.cell 4 Qa Qa)) (QK Qa Qa Qa (Q9 Qa Qa Qa (JE (k:=y.1) 5 hS24 keysInt underlying89 Qa Qa Qa Wc (C9 (hw s hq_s).srt hy)) (QC Qa Qa Qa (fun _=>(Ko fv_94_0 Qa Qa)) ?_))))))))))))
  refine QC Qa Qa Qa (fun _=>(ZY Qa KC N4 Rn Qa)) ?_
  refine QS Qa Qa Qa Qa Qa Qa ?_
  refine Xc shC [shP y] hS24 Qa underlying22 Br Qa Qa Qa Qa (by rfl) rfl ?_
  intro b25 w25 hS25
  refine Xe (.skip (by kernel_rfl) (.skip (by kernel_rfl) (.skip (by kernel_rfl) (.cons (.inl ⟨rfl,(Qn Qa WF (hS25.cell 3 Qa Qa))⟩) .nil)))) ?_
  refine QS Qa Qa Qa Qa Qa Qa ?_
  refine XP shC 1 hS25 Qa Qa Qa (hS25.rd 0 Qa (by simp)) underlying22 underlying22 (by intro k hk; cases hk) M6 Qa (by simp only[List.length_map,List.length_take,List.length_cons,List.length_nil];omega) Qa (by simp only[List.length_map,List.length_take,List.length_cons,List.length_nil];omega) ?_
  intro v26 w26 hS26; dsimp only[List.set]at hS26
  have h1v26:v26.oneCell'=true:=hS26.own_one 1 Qa
  refine Xe (Xp (by kernel_rfl)) ?_
  refine QN Qa Qa Qa Zh (QS Qa Qa Qa Qa Qa Qa ?_)
  (refine Q7 hS26 Qa Qa NJ (by assumption) (i:=3) Qa (Xd Qa) ?_)
  intro w27 hS28; dsimp only[List.set]at hS28
  refine Z6 (Xp (by kernel_rfl)) ?_
  refine VC.nil (Qp (Qd (Qk [33,32,31,4,2,0] Qa (Qb (Xx Qa Qa (by omega) (by omega) Qa ?_)))))
  refine Qe Qa Qa (Qh ?_)
  exact Xa (L1:=[(0,_),(2,_),(4,_),(31,_),(32,_),(33,intV ((i+1:Nat):Int))]) (RM Qa Qa Qa Qa Qa Qa) (k1:=s.pages.length -(i+1)) (by omega) ⟨i+1,_,rfl,rfl,(by rw[AR hy]; exact hS28.pick [1,2,3,4,5,6,7,8,9,10,11] Qa), by omega⟩
 rw[KK]at h22
 refine Xq (Q2 (Q2 (QH (Qd (Qg ?_)))))
 have hone:Wt [strV s.state,sv9]=true:= by simp [Wt,Value.oneCell']at h1ov⊢; exact h1ov
 refine Qb (ZK Qa J9 Wi (hS21.blk 2 Qa) (Xd Qa) Qa Qa ?_)
 (refine QZ hS21 Qa Qa Wi Qa (by assumption) (i:=3) Qa (by decide) ?_)
 intro w29 hS30; dsimp only[List.set]at hS30
 refine Qc Qa Qa (Qh (Qd (Qo ?_)))
 refine PY (.inr Qa) Qa (RZ Qa J9 Wi (by first | exact hS30.blk 2 Qa | exact hS30.blk 3 Qa | exact hS30.blk 4 Qa | exact hS30.blk 6 Qa) (by first | decide | exact Xd Qa | (simp;done) | omega) Qa) (Oa Qa) ?_
 have hz:Sat _ _:=hS30.pick [0,4,5,6,7,8,9,10] Qa
 rw[List.take_of_length_le (by omega)]at hz
 exact⟨_,rfl,sv9, by rw[T6 hq_s hmn];rfl, by rw[T6 hq_s hmn]; exact(Qv (E:=E) (As:=[rowT shC sv9 (s.pages.map shP),F]) (by rw[hq_s]; exact(Xf (s:=s) (hz.pick [1,2,3,4,5,6,0,7] Qa)).reorder [1,2,3,0,4,5,6] Qa)).reorder [1,0,2] Qa⟩
section
variable {P:Program} {n:Nat} {ops:Array Oper} {Q:Exit→Act→World→Prop} {rest:List Oper} {L:Env} {w:World} {d:Nat} {ty:TypeId} {pos:String} {aft:Array Edge} {As:List Th}
theorem EZ {t t2:Nat} {x y:Operand} {xs ys:Array Value} {b:Bool} (h: ∀w,(Op.equal t (.agg xs) (.agg ys)).run P w= .ok b w) (hg:P.eqGuardType P.depth t=false) (hx:M.look L x=some (.agg xs)) (hy:M.look L y=some (.agg ys)):Ev P L w ⟨some d,.binOp .neq t x y t2,ty,pos,aft,none⟩ (.bool (!b)):= fun ρ hρ=> by
  have h:=h w
  simp [execOp,hρ _ _ hx,hρ _ _ hy,eqGuard,binOp,program,Sem.run,hg]at h⊢
  rw[h]
  rfl
end
theorem eqSheet (x y:Int×Bs) (w:World):(Op.equal 65 (.agg #[intV x.1,strV x.2]) (.agg #[intV y.1,strV y.2])).run prog w= .ok (decide (x.1=y.1∧x.2=y.2)) w:= by
  have u3:=underlying3
  have a3:Ww prog 3=some false:= by kernel_rfl
  have u9:=underlying9
  have a9:Ww prog 9=some false:= by kernel_rfl
  have hS:prog.underlying 65=some (.struct (prog.fieldsOf 65)):= by kernel_rfl
  have hp:prog.stoodInHeld 65=false:= by kernel_rfl
  unfold Op.equal Op.maxDepth
  generalize hN:(10000:Nat)=N
  obtain⟨m,rfl⟩: ∃m,N=m+1+1:=⟨9998, by omega⟩
  rw[run_equalIn_struct w (m+1) 65 _ _ hS hp]
  have q0:= fun w=>KB (P:=prog) a3 #[intV x.1,strV x.2] 0 _ Qa w
  have q1:= fun w=>KB (P:=prog) a9 #[intV x.1,strV x.2] 1 _ Qa w
  have r0:= fun w=>KB (P:=prog) a3 #[intV y.1,strV y.2] 0 _ Qa w
  have r1:= fun w=>KB (P:=prog) a9 #[intV y.1,strV y.2] 1 _ Qa w
  simp only[Program.fieldsOf,underlying65,Op.eqFields,Sem.run_bind,q0,q1,r0,r1,Result.andThen_ok,run_equalIn_string _ _ _ _ _ u9,Go.run_equalIn_int _ _ _ _ _ _ _ u3,Sem.run_ite,Sem.run_pure]
  by_cases h0:x.1=y.1<;>by_cases h1:x.2=y.2<;> simp [h0,h1,run_equalIn_string _ _ _ _ _ u9,Go.run_equalIn_int _ _ _ _ _ _ _ u3]
def VL (t t2:Bs) (l l2:AL Bs):Bool:=decide (t=t2)&&decide (l=l2)
def Rx (l:AL Bs) (id:Int):Bs:=((l.find? fun e=>decide (e.1=id)).map (·.2)).getD []
theorem Ir (l:AL Bs) (id:Int):Rx l id=(QT l id).getD []:=rfl
theorem find_at {l:AL Bs} {id:Int} {i:Nat} {x:Int×Bs} (hx:l[i]? =some x) (he:x.1=id) (hno: ∀j y,j<i→l[j]? =some y→y.1≠id):Rx l id=x.2:= by
  have :l.find? (fun e=>decide (e.1=id))=some x:= by
    rw[List.find?_eq_some_iff_getElem]
    obtain⟨hi,rfl⟩:=Jh hx
    refine⟨by simpa using he,i,hi,rfl, fun j hj=> ?_⟩
    have :=hno j l[j] hj (WB (by omega))
    simpa using this
  unfold Rx; rw[this];rfl
theorem find_no {l:AL Bs} {id:Int} (hno: ∀j y,j<l.length→l[j]? =some y→y.1≠id):Rx l id=[]:= by
  have :l.find? (fun e=>decide (e.1=id))=none:= by
    rw[List.find?_eq_none]
    intro x hx
    obtain⟨j,hj⟩:=List.mem_iff_getElem?.1 hx
    simpa using hno j x (Jh hj).1 hj
  unfold Rx; rw[this];rfl
theorem Px {w:World} {F:Th} (hS:Sat w [F]) {t:Bs} {sv:Value} {l:AL Bs} (hL:Ent F (RdL shC sv l)) (id:Int):
    Calls prog 29 #[.agg #[strV t,sv],intV id] w (Ret fun v w'=>v=strV (Rx l id)∧Sat w' [F]):= by
 obtain⟨ao,cap,rfl,hmax⟩:=(hL.sat hS 0 rfl).shape
 refine Qx func29 Qa ntmps29 Qa ?_
 refine Qg (Qb (XT hS Qa Qa Qa ?_))
 intro bp w1 hS10
 have hS1:Sat w1 (QR bp [strV t,.slice ao l.length cap]::_):=hS10
 refine Qc Qa Qa (Qh (Qd (Qg (Qg (Qb (Qc Qa Qa (Qh (Qd (QD ?_)))))))))
 refine X8 (fun K0 E0 W0=> ∃(i:Nat),K0=l.length -i∧E0=[(1,intV id),(2,ptrV bp 0),(5,intV (i:Int))]∧Sat W0 [QR bp [strV t,.slice ao l.length cap],F]∧(i≤l.length)∧(∀j y,j<i→l[j]? =some y→y.1≠id)) (L0:=[(1,_),(2,_),(5,_)]) (l.length -0) (BC Qa Qa Qa) ⟨0,rfl,rfl,hS1, by omega, by omega⟩ ?_
 rintro _ _ w2 ⟨i,rfl,rfl,hS2,hi,hno⟩
 refine Qg (Qg (Qb (Qe Qa Qa (Qi Qa Zh Qa (Qq Qa WF (hS2.cell 0 Qa Qa) Qa (Xi underlying22 Qa Qa (X0 Qa Qa Qa (Qh (Qd (Qt Qa (fun h3=> ?_) (fun h3=> ?_)))))))))))
 ·obtain⟨x,hx⟩: ∃x,l[i]? =some x:=⟨_,WB (by omega)⟩
  obtain⟨b,off,rfl,hc⟩:=(hL.sat hS2 1 rfl).get hx
  refine Qr (Qd (Qg (QD (Qg (Qb (Qi Qa Zh Qa (Qq Qa WF (hS2.cell 0 Qa Qa) Qa (Qe Qa Qa (X4 i Qa Qa (by rfl) (by omega) Vy Qa ?_)))))))))
  refine Qi Qa Yh Qa (Qq Qa QF (hc 0 _ Qa) Qa (Qe Qa Qa (QL Qa Qa Qa (Qh (Qd (Qk [5,2,1,20] Qa (Qt Qa (fun h4=> ?_) (fun h4=> ?_))))))))
  ·have heq:x.1=id:=h4
   refine Qg (Qb (Qi Qa Zh Qa (Qq Qa WF (hS2.cell 0 Qa Qa) Qa (Qe Qa Qa (X4 i Qa Qa (by rfl) (by omega) Vy Qa ?_)))))
   refine Qi Qa UM Qa (Qq Qa Zr (hc 1 _ Qa) Qa (Qc Qa Qa (Qh (Qd (Qk [5,2,1,4] Qa (Qo (Qy (Qm (Qm (Qy (Qm (Q5 (.inr Qa) Qa Qa ?_))))))))))))
   exact⟨_,rfl, by rw[find_at hx heq hno],hS2.pick [1] Qa⟩
  have hne:x.1≠id:=h4
  refine Qr (Qp (Qd (Qb (Qe Qa Qa (Xx Qa Qa (by omega) (by omega) Qa ?_)))))
  refine Qc Qa Qa (Qh ?_)
  exact Xa (L1:=[(1,_),(2,_),(5,intV ((i+1:Nat):Int))]) (BC Qa Qa Qa) (k1:=l.length -(i+1)) (by omega) ⟨i+1,rfl,rfl,hS2.pick [0,1] Qa, by omega, fun j y hj hy=> by by_cases e:j=i;(subst e; rw[hx]at hy; cases hy; exact hne); exact hno j y (by omega) hy⟩
 exact Xq (Q2 (Q2 (QH (Qd (Qg (Qb (Qc Qa Qa (Qh (Qd (Qo (Q5 (.inr Qa) Qa Qa (⟨_,rfl, by rw[find_no fun j y hj hy=>hno j y (by omega) hy],hS2.pick [1] Qa⟩))))))))))))
theorem O8 {w:World} {F:Th} (hS:Sat w [F]) {t:Bs} {sv:Value} {l:AL Bs} (hL:Ent F (RdL shC sv l)) {t2:Bs} {sv2:Value} {l2:AL Bs} (hL2:Ent F (RdL shC sv2 l2)):
    Calls prog 33 #[.agg #[strV t,sv],.agg #[strV t2,sv2]] w (Ret fun v w'=>v= .bool (VL t t2 l l2)∧Sat w' [F]):= by
 obtain⟨ao,cap,rfl,hmax⟩:=(hL.sat hS 0 rfl).shape
 obtain⟨ao2,cap2,rfl,hmax2⟩:=(hL2.sat hS 0 rfl).shape
 refine Qx func33 Qa ntmps33 Qa ?_
 refine Qg (Qb (XT hS Qa Qa Qa ?_))
 intro bp w1 hS10
 have hS1:Sat w1 (QR bp [strV t,.slice ao l.length cap]::_):=hS10
 refine XT hS1 Qa Qa Qa ?_
 intro bq w2 hS20
 have hS2:Sat w2 (QR bq [strV t2,.slice ao2 l2.length cap2]::_):=hS20
 refine Qc Qa Qa (Qh (Qd (Qg (Qg (Qb (Qi Qa Hf Qa (Qq Qa Zr (by first | exact hS2.cell 0 Qa Qa | exact hS2.cell 1 Qa Qa) Qa ?_)))))))
 refine Qi Qa Hf Qa (Qq Qa Zr (by first | exact hS2.cell 0 Qa Qa | exact hS2.cell 1 Qa Qa) Qa ?_)
 refine Ky Qa Qa Qa (Qe Qa Qa (Q4 11 Qa (fun h3=> ?_) (fun h3=> ?_)))
 ·refine Qf Qa Qa (Q8 h3) Qa (Qf Qa Qa (Q8 h3) Qa (Qf Qa Qa (Q8 h3) Qa (Qf Qa Qa (Q8 h3) Qa (Qf Qa Qa (Q8 h3) Qa (Qf Qa Qa (Q8 h3) Qa (Qf Qa Qa (Q8 h3) Qa (Q0 Qa (Q8 h3) Qa Qa (Qh (Qd (Qk [2,3,4,19] Qa (QO Qa (Qg (Qb (Qc Qa Qa (Qh (Qd (Qo (Qm (Q5 (.inr Qa) Qa Qa ?_)))))))))))))))))))
  exact⟨_,rfl, by rw[show VL t t2 l l2=false by unfold VL; rw[Bool.eq_false_iff]; intro q; simp only[Bool.and_eq_true,decide_eq_true_eq]at q; obtain⟨q1,q2⟩:=q; subst q2;first | omega | exact absurd q1 (by assumption)],hS2.pick [2] rfl⟩
 have htt:t=t2:=Decidable.not_not.1 h3
 refine Qj Qa Qa (Qw h3) (Qi Qa Zh Qa (Qj Qa Qa (Qw h3) (Qq Qa WF (by first | exact hS2.cell 0 Qa Qa | exact hS2.cell 1 Qa Qa) Qa ?_)))
 refine Qj Qa Qa (Qw h3) (Xi underlying22 Qa Qa (Qj Qa Qa (Qw h3) (Qi Qa Zh Qa (Qj Qa Qa (Qw h3) (Qq Qa WF (by first | exact hS2.cell 0 Qa Qa | exact hS2.cell 1 Qa Qa) Qa ?_)))))
 refine Qj Qa Qa (Qw h3) (Xi underlying22 Qa Qa (Qj Qa Qa (Qw h3) (Xr Qa Qa Qa (Q1 Qa (Qw h3) Qa Qa (Qh (Qd (Qk [2,3,4,19] Qa (Qt Qa (fun h4=> ?_) (fun h4=> ?_)))))))))
 ·refine Qg (Qb (Qc Qa Qa (Qh (Qd (Qo (Qm (Q5 (.inr Qa) Qa Qa ?_)))))))
  exact⟨_,rfl, by rw[show VL t t2 l l2=false by unfold VL; rw[Bool.eq_false_iff]; intro q; simp only[Bool.and_eq_true,decide_eq_true_eq]at q; obtain⟨q1,q2⟩:=q; subst q2;first | omega | exact absurd q1 (by assumption)],hS2.pick [2] rfl⟩
 have hll:l.length=l2.length:= by have q9:=h4;omega
 refine Qr (Qd (Qg (Qg (Qb (Qc Qa Qa (Qh (Qd (QD ?_))))))))
 refine X8 (fun K0 E0 W0=> ∃(i:Nat),K0=l.length -i∧E0=[(2,ptrV bp 0),(3,ptrV bq 0),(5,intV (i:Int))]∧Sat W0 [QR bq [strV t2,.slice ao2 l2.length cap2],QR bp [strV t,.slice ao l.length cap],F]∧(i≤l.length)∧(∀j,j<i→l[j]? =l2[j]?)) (L0:=[(2,_),(3,_),(5,_)]) (l.length -0) (BC Qa Qa Qa) ⟨0,rfl,rfl,hS2, by omega, by omega⟩ ?_
 rintro _ _ w5 ⟨i,rfl,rfl,hS5,hi,hsm⟩
 refine Qg (Qg (Qb (Qe Qa Qa (Qi Qa Zh Qa (Qq Qa WF (hS5.cell 1 Qa Qa) Qa (Xi underlying22 Qa Qa (X0 Qa Qa Qa (Qh (Qd (Qt Qa (fun h6=> ?_) (fun h6=> ?_)))))))))))
 ·obtain⟨x,hx⟩: ∃x,l[i]? =some x:=⟨_,WB (by omega)⟩
  obtain⟨b,off,rfl,hc⟩:=(hL.sat hS5 2 rfl).get hx
  obtain⟨y,hy⟩: ∃y,l2[i]? =some y:=⟨_,WB (by omega)⟩
  obtain⟨b2,off2,rfl,hc2⟩:=(hL2.sat hS5 2 rfl).get hy
  refine Qr (Qd (Qg (QD (Qg ?_))))
  have hS7:=hS5.drew
  refine QM [0,1,2,3,4,5,6,7,8,9,10] [] Wv (by kernel_rfl) ?_
  refine QN Qa Qa Qa Zh (Q9 Qa Qa Qa (Qn Qa WF (by first | exact hS7.cell 0 Qa Qa | exact hS7.cell 1 Qa Qa)) ?_)
  refine QK Qa Qa Qa (QC Qa Qa Qa (fun _=>(Xk i Qa Qa (by rfl) (by omega) Vy)) ?_)
  refine Q9 Qa Qa Qa (Vx Qa GM Uk (vs:=[intV x.1,strV x.2]) hc) (QN Qa Qa Qa Zh (Q9 Qa Qa Qa (Qn Qa WF (by first | exact hS7.cell 0 Qa Qa | exact hS7.cell 1 Qa Qa)) ?_))
  refine QK Qa Qa Qa (QC Qa Qa Qa (fun _=>(Xk i Qa Qa (by rfl) (by omega) Vy)) ?_)
  refine Q9 Qa Qa Qa (Vx Qa GM Uk (vs:=[intV y.1,strV y.2]) hc2) (QC Qa Qa Qa (fun _=>(EZ (eqSheet x y) (by kernel_rfl) Qa Qa)) ?_)
  refine VC.nil (Qd (Qk [5,3,2,37] Qa (Xb Qa (fun h8=> ?_) (fun h8=> ?_))))
  ·have hxy:x≠y:= by rintro rfl; simp at h8
   refine Qg (Qb (Qc Qa Qa (Qh (Qd (Qo (Qy (Qm (Qm (Qy (Qm (Q5 (.inr Qa) Qa Qa ?_)))))))))))
   exact⟨_,rfl, by rw[show VL t t2 l l2=false by unfold VL; rw[Bool.eq_false_iff]; intro q; simp only[Bool.and_eq_true,decide_eq_true_eq]at q; obtain⟨_,q2⟩:=q; subst q2; rw[hx]at hy; cases hy; exact hxy rfl],hS7.pick [2] rfl⟩
  have hxy:x=y:=Prod.ext_iff.2 (by simpa using h8)
  refine Qr (Qp (Qd (Qb (Qe Qa Qa ?_))))
  refine Xx Qa Qa (by first | omega | (simp;omega)) (by first | omega | (simp;omega)) Qa ?_
  refine Qc Qa Qa (Qh ?_)
  exact Xa (L1:=[(2,_),(3,_),(5,intV ((i+1:Nat):Int))]) (BC Qa Qa Qa) (k1:=l.length -(i+1)) (by omega) ⟨i+1,rfl,rfl,hS7.pick [0,1,2] Qa, by omega, fun j hj=> by by_cases e:j=i;(subst e; rw[hx,hy,hxy]); exact hsm j (by omega)⟩
 refine Xq (Q2 (Q2 (QH (Qd (Qg (Qb (Qc Qa Qa (Qh (Qd (Qo (Q5 (.inr Qa) Qa Qa ?_)))))))))))
 exact⟨_,rfl, by rw[show VL t t2 l l2=true by unfold VL; simp only[Bool.and_eq_true,decide_eq_true_eq]; exact⟨htt,List.ext_getElem? fun j=>(if q:j<l.length then hsm j (by omega)else by rw[List.getElem?_eq_none (by omega),List.getElem?_eq_none (by omega)])⟩],hS5.pick [2] Qa⟩
