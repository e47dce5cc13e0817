/- move: rounds, plain -/
import Derived.Test.YtiibgheijbbmaaaGreatDoorMvb4
set_option linter.unusedVariables false
set_option maxRecDepth 100000
set_option maxHeartbeats 100000000000
namespace Go.Proofs.YtiibgheijbbmaaaGreatDoor
open Go.RowKit M Proofs.Tryz
def arrN:Nat→TwD→TwD
  | 0,X=>X
  | k+1,X=> if X.fl=[]then X else arrN k (XQ X 0)
def tickT (X:TwD) (i:Bool):TwD:=ZO (Z2 X i (X7 (Q6 X i)).1) i (X7 (Q6 X i)).2
def Wj (X:TwD):TwD:=arrN 400 (tickT (tickT X false) true)
structure SamE (E E':EnD):Prop where
  d:E'.D=E.D
  c:E'.cell=E.cell
  k:E'.kind=E.kind
  m:E'.move=E.move
  a:E'.active=E.active
section
variable {E E':EnD} {m:MsD} {b:Bs}
theorem SamE.refl (E:EnD):SamE E E:=⟨rfl,rfl,rfl,rfl,rfl⟩
theorem QE.samE (h:QE E) (hs:SamE E E'):QE E':=h.same hs.d hs.c hs.k hs.m (.inl hs.a)
theorem tick_samE:SamE E (X7 E).1:= by
  unfold X7
  split
  · exact SamE.refl E
  split
  · exact SamE.refl E
  split
  · exact SamE.refl E
  split
  · exact SamE.refl E
  · dsimp only
    split
    · split
      · exact⟨Qa,Qa,Qa,Qa,Qa⟩
      · exact⟨Qa,Qa,Qa,Qa,Qa⟩
    · exact SamE.refl E
theorem Ti:SamE E (Xp E m):= by
  unfold Xp
  split
  · split
    · exact SamE.refl E
    · exact⟨Qa,Qa,Qa,Qa,Qa⟩
  · split
    · exact SamE.refl E
    · split
      · exact SamE.refl E
      · split
        · exact SamE.refl E
        · split
          · exact⟨Qa,Qa,Qa,Qa,Qa⟩
          · exact SamE.refl E
theorem Tj:SamE E (ZL E m):= by
  unfold ZL;split
  · exact⟨Qa,Qa,Qa,Qa,Qa⟩
  · exact SamE.refl E
theorem P9:SamE E (Jd E m):= by
  unfold Jd;split
  · exact⟨Qa,Qa,Qa,Qa,Qa⟩
  · exact SamE.refl E
theorem Tk:SamE E (Z6 E m).1:= by
  unfold Z6;split
  · exact SamE.refl E
  · exact⟨Qa,Qa,Qa,Qa,Qa⟩
def Noted (E E':EnD) (k n:Int):Prop:=QE E'∧E'.kind=k∧E'.move=n∧E'.active=false
theorem Uv (h:QE E) (ha:E.active=false) {k n:Int} (hk:0≤k∧k<4) (hn:0≤n∧Xy n) {E0:EnD} (h0:SamE E E0):(QS E0 k n).1=0∧Noted E (QS E0 k n).2 k n:= by
  obtain⟨a1,D,C,a2,a3⟩:=(h.samE h0).note hk hn
  refine⟨a1, ?_⟩
  rw[a2]
  exact⟨a3,rfl,rfl, by show E0.active=false; rw[h0.a]; exact ha⟩
theorem Noted.samE {E0:EnD} {k n:Int} (h:Noted E E0 k n) (hs:SamE E0 E'):Noted E E' k n:=⟨h.1.samE hs, by rw[hs.k]; exact h.2.1, by rw[hs.m]; exact h.2.2.1, by rw[hs.a]; exact h.2.2.2⟩
theorem RI {n:Int} (h:0≤n∧n≤4611686018427387904):0≤n∧Xy n:=⟨h.1, by unfold Xy;omega⟩
theorem Fv (h:QE E) (ha:E.active=false) (hm:MsW m):SamE E (Xo E m).1∨(E.kind≠1∧E.move<m.move∧Noted E (Xo E m).1 2 m.move):= by
  unfold Xo
  split
  · exact .inl (SamE.refl E)
  cases hj:Zr E m.move with
  | none=> exact .inl (SamE.refl E)
  | some o=>
    dsimp only
    have hjj: ¬(E.kind=1∨m.move≤E.move):= fun q=> by rw[Uy q]at hj; cases hj
    split
    · exact .inl ⟨Qa,Qa,Qa,Qa,Qa⟩
    split
    · exact .inl ⟨Qa,Qa,Qa,Qa,Qa⟩
    split
    · exact .inl ⟨Qa,Qa,Qa,Qa,Qa⟩
    · refine .inr ⟨by omega, by omega, ?_⟩
      obtain⟨a1,a2⟩:=Uv h ha (k:=2) (n:=m.move) (by omega) (RI hm.mv) (E0:={E with off:=some {Ww (Xr o m.b) m with list:=ZC (Ww (Xr o m.b) m)}}) ⟨rfl,rfl,rfl,rfl,rfl⟩
      rw[Gd a1]
      exact a2.samE ⟨Qa,Qa,Qa,Qa,Qa⟩
theorem CO (ha:E.active=false):SamE E (Xh E m).1:= by
  unfold Xh
  split
  · exact SamE.refl E
  split
  · exact SamE.refl E
  split
  · rename_i q; rw[ha]at q; exact absurd q.2.2.1 (by decide)
  split
  · rename_i q; rw[ha]at q; exact absurd q.2.2 (by decide)
  · exact SamE.refl E
theorem PG (h:QE E) (ha:E.active=false) (hm:MsW m):(¬(E.kind=2∧m.move=E.move)∧SamE E (XB E m))∨(E.kind=2∧m.move=E.move∧Noted E (XB E m) 1 m.move):= by
  by_cases q:E.kind≠2∨m.move≠E.move
  · rw[Vx q]; exact .inl ⟨by omega,SamE.refl E⟩
  · obtain⟨a1,a2⟩:=Uv h ha (k:=1) (n:=m.move) (by omega) (RI hm.mv) (SamE.refl E)
    refine .inr ⟨by omega, by omega, ?_⟩
    unfold XB
    rw[if_neg q,if_neg (by omega)]
    split
    · exact a2.samE ⟨Qa,Qa,Qa,Qa,Qa⟩
    · split
      · exact a2.samE ⟨Qa,Qa,Qa,Qa,Qa⟩
      · exact⟨a2.1.same Qa Qa Qa Qa (.inr Qa),a2.2.1,a2.2.2.1,Qa⟩
theorem CN (h:QE E) (ha:E.active=false):SamE E (X9 E b).1∨
    (E.kind≠1∧E.move<(QU b).move∧(QU b).kind=1∧Noted E (X9 E b).1 2 (QU b).move)∨
    (E.kind=2∧(QU b).kind=4∧(QU b).move=E.move∧Noted E (X9 E b).1 1 E.move)∨
    (E.kind=2∧(QU b).kind=5∧(QU b).move=E.move∧Noted E (X9 E b).1 0 E.move):= by
  by_cases hc:upE E=false∨(QU b).kind<0∨9<(QU b).kind∨(QU b).move<0∨4611686018427387904<(QU b).move∨Zy (QU b)≠b
  · rw[HI hc]; exact .inl (SamE.refl E)
  rw[W5 hc]
  obtain⟨d1,d2,d3,d4,_⟩:=VO b
  have hmv:0≤(QU b).move∧(QU b).move≤4611686018427387904:= by omega
  have hn:=RI hmv
  unfold X8
  split
  · exact .inl Ti
  split
  · rename_i hk
    by_cases hd:(QU b).data.length≤1000
    · rcases Fv h ha ⟨d1,hmv,d3,d4,hd⟩with q | ⟨q1,q2,q3⟩
      · exact .inl q
      · exact .inr (.inl ⟨q1,q2,hk,q3⟩)
    · -- (the size plays no part)
      unfold Xo
      split
      · exact .inl (SamE.refl E)
      cases hj:Zr E (QU b).move with
      | none=> exact .inl (SamE.refl E)
      | some o=>
        dsimp only
        have hjj: ¬(E.kind=1∨(QU b).move≤E.move):= fun q=> by rw[Uy q]at hj; cases hj
        split
        · exact .inl ⟨Qa,Qa,Qa,Qa,Qa⟩
        split
        · exact .inl ⟨Qa,Qa,Qa,Qa,Qa⟩
        split
        · exact .inl ⟨Qa,Qa,Qa,Qa,Qa⟩
        · refine .inr (.inl ⟨by omega, by omega,hk, ?_⟩)
          obtain⟨a1,a2⟩:=Uv h ha (k:=2) (n:=(QU b).move) (by omega) hn (E0:={E with off:=some {Ww (Xr o (QU b).b) (QU b)with list:=ZC (Ww (Xr o (QU b).b) (QU b))}}) ⟨rfl,rfl,rfl,rfl,rfl⟩
          rw[Gd a1]
          exact a2.samE ⟨Qa,Qa,Qa,Qa,Qa⟩
  split
  · exact .inl (CO ha)
  split
  · rename_i hk
    by_cases q:E.kind≠2∨(QU b).move≠E.move
    · rw[Vx q]; exact .inl (SamE.refl E)
    · obtain⟨a1,a2⟩:=Uv h ha (k:=1) (n:=(QU b).move) (by omega) hn (SamE.refl E)
      have he:(QU b).move=E.move:= by omega
      refine .inr (.inr (.inl ⟨by omega,hk,he, ?_⟩))
      unfold XB
      rw[if_neg q,if_neg (by omega)]
      rw[he]at a2⊢
      split
      · exact a2.samE ⟨Qa,Qa,Qa,Qa,Qa⟩
      · split
        · exact a2.samE ⟨Qa,Qa,Qa,Qa,Qa⟩
        · exact⟨a2.1.same Qa Qa Qa Qa (.inr Qa),a2.2.1,a2.2.2.1,Qa⟩
  split
  · rename_i hk
    unfold WF
    by_cases q:E.kind=2∧(QU b).move=E.move
    · obtain⟨a1,a2⟩:=Uv h ha (k:=0) (n:=(QU b).move) (by omega) hn (SamE.refl E)
      rw[if_pos q,if_neg (by omega)]
      rw[q.2]at a2⊢
      exact .inr (.inr (.inr ⟨q.1,hk,Qa,a2.samE ⟨Qa,Qa,Qa,Qa,Qa⟩⟩))
    · rw[if_neg q]; exact .inl (SamE.refl E)
  split
  · exact .inl (SamE.refl E)
  split
  · exact .inl Tj
  split
  · exact .inl Tk
  · exact .inl P9
theorem Am (h:QE E) (ha:E.active=false):QE (X9 E b).1∧(X9 E b).1.active=false:= by
  rcases CN (b:=b) h ha with q | ⟨_,_,_,q⟩ | ⟨_,_,_,q⟩ | ⟨_,_,_,q⟩
  · exact⟨h.samE q, by rw[q.a]; exact ha⟩
  · exact⟨q.1,q.2.2.2⟩
  · exact⟨q.1,q.2.2.2⟩
  · exact⟨q.1,q.2.2.2⟩
end
def AY (k:Int):Nat:= if k=1 then 3 else if k=2∨k=3∨k=6∨k=8 then 2 else 1
def wt (b:Bs):Nat:=AY (QU b).kind
def Rq (fl:List (Bool×Bs)):Nat:=(fl.map fun p=>wt p.2).sum
theorem AX (b:Bs):1≤wt b∧wt b≤3:= by unfold wt AY;split;omega;split<;>omega
theorem wtL_len (fl:List (Bool×Bs)):fl.length≤Rq fl∧Rq fl≤3*fl.length:= by
  induction fl with
  | nil=> exact⟨Nat.le_refl _,Nat.le_refl _⟩
  | cons p l ih=>
    have h:=AX p.2
    have e:Rq (p::l)=wt p.2+Rq l:= by unfold Rq; simp
    rw[e,List.length_cons];omega
theorem wtL_app (l m:List (Bool×Bs)):Rq (l++m)=Rq l+Rq m:= by unfold Rq; simp
theorem Cl {k n a b:Int} {d:Bs} (hk:Xy k) (hn:Xy n):wt (Zy ⟨k,n,a,b,d⟩)=AY k:= by
  have :=CE (a:=a) (b:=b) (d:=d) hk hn
  unfold wt
  have e:(QU (Zy ⟨k,n,a,b,d⟩)).kind=k:=congrArg Prod.fst this
  rw[e]
theorem O2 {X:TwD} {i:Bool} {s:Bs}:Rq (Jb X i s).fl≤Rq X.fl+wt s:= by
  unfold Jb
  split
  · omega
  · show Rq (X.fl++[(!i,s)])≤_
    rw[wtL_app];unfold Rq; simp
theorem DY {i:Bool}: ∀{l:List Bs} {X:TwD},Rq (ZO X i l).fl≤Rq X.fl+(l.map wt).sum
  | [],_=> by simp [ZO]
  | s::l,X=> by
    have h1:=DY (i:=i) (l:=l) (X:=Jb X i s)
    have h2:=O2 (X:=X) (i:=i) (s:=s)
    show Rq (ZO (Jb X i s) i l).fl≤_
    rw[List.map_cons,List.sum_cons];omega
theorem Bb {E:EnD} {k a b:Int} {d:Bs} (hk:0≤k∧k≤9) (hm:Xy E.move):wt (Ze E k a b d)=AY k:=Cl (XJ hk) hm
theorem hear_wt {E:EnD} (hW:EW E) (b:Bs):((X9 E b).2.map wt).sum+1≤wt b:= by
  have z: ∀{l:List Bs},l=[]→(l.map wt).sum+1≤wt b:= fun e=> by subst e; have :=AX b;simpa using this.1
  have hm:=hW.km.2.2.2
  obtain⟨d1,d2,d3,d4,_⟩:=VO b
  have one: ∀{t:Bs} {k:Int},wt t=AY k→AY k+1≤wt b→(([t]:List Bs).map wt).sum+1≤wt b:= fun e h=> by simp [e];omega
  unfold X9
  split
  · exact z Qa
  rename_i hc
  have hu:E.cell≠none:=RW fun q=>hc (.inl q)
  unfold X8
  split
  · exact z Qa
  split
  · rename_i hk
    have hw:wt b=3:= by unfold wt AY; rw[if_pos hk]
    unfold Xo
    split
    · exact z Qa
    split
    · exact z Qa
    split
    · exact z Qa
    split
    · exact z Qa
    split
    · exact z Qa
    unfold Yx
    split
    · exact z Qa
    · rename_i q
      refine one (k:=2) (Bb (by omega) ?_) (by rw[hw];decide)
      have key: ∀{E0:EnD},E0.cell=E.cell→(QS E0 2 (QU b).move).1=0→Xy (QS E0 2 (QU b).move).2.move:= fun he q=> by rw[H1 (by rw[he]; exact hu) q]; exact d2
      exact key Qa (Decidable.not_not.1 q)
  split
  · rename_i hk
    have hw:wt b=2:= by unfold wt AY; rw[if_neg (by omega),if_pos (by omega)]
    have hno:wt (noB (QU b))=AY 5:=Cl (XJ (by omega)) d2
    unfold Xh
    split
    · exact one (k:=4) (Bb (by omega) hm) (by rw[hw];decide)
    split
    · exact z Qa
    split
    · split
      · exact z Qa
      · rename_i q
        refine one (k:=4) (Bb (by omega) ?_) (by rw[hw];decide)
        rw[H1 hu (by simpa using q)]; exact hm
    split
    · exact one hno (by rw[hw];decide)
    · exact one hno (by rw[hw];decide)
  split
  · exact z Qa
  split
  · exact z Qa
  split
  · rename_i hk
    have hw:wt b=2:= by unfold wt AY; rw[if_neg (by omega),if_pos (by omega)]
    unfold Zv
    split
    · exact z Qa
    split
    · exact one (k:=7) (Bb (by omega) hm) (by rw[hw];decide)
    split
    · exact z Qa
    · exact one (k:=0) (Bb (by omega) hm) (by rw[hw];decide)
  split
  · exact z Qa
  split
  · rename_i hk
    have hw:wt b=2:= by unfold wt AY; rw[if_neg (by omega),if_pos (by omega)]
    unfold Z6
    split
    · exact z Qa
    · exact one (k:=9) (Bb (by omega) hm) (by rw[hw];decide)
  · exact z Qa
structure PhQ (X:TwD) (t:Int):Prop where
  inv:INV X t
  w:XW X
  q: ∀i,QE (Q6 X i)
  n: ∀i,(Q6 X i).active=false
  cut:X.cut=false
  tb:t≤1000
def PoN (X:TwD) (i:Bool):Prop:=(Q6 X i).kind=1
def PoT (X:TwD) (i:Bool) (n:Int):Prop:=(Q6 X i).kind=2∧(Q6 X i).move=n∧(Q6 X (!i)).kind=3∧(Q6 X (!i)).move=n
def TokP (i:Bool) (n:Int) (p:Bool×Bs):Prop:=(p.1= !i∧(p.2=Zy ⟨2,n,0,0,[]⟩∨p.2=Zy ⟨3,n,0,0,[]⟩))∨(p.1=i∧p.2=Zy ⟨4,n,0,0,[]⟩)
def Tok (X:TwD) (i:Bool) (n:Int):Prop:= ∃p∈X.fl,TokP i n p
section
variable {X Y:TwD} {t n:Int} {i j:Bool} {p:Bool×Bs} {rest:List (Bool×Bs)} {l:List Bs} {E:EnD}
theorem D0 {fl:List (Bool×Bs)}:Q6 {X with fl:=fl} i=Q6 X i:= by cases i<;>rfl
theorem TB:(ZO X i l).cut=X.cut:=(VB).2.2
theorem He:(Z2 X i E).cut=X.cut:= by cases i<;>rfl
theorem MH {i j:Bool}:Q6 (Z2 X i E) j= if j=i then E else Q6 X j:= by cases i<;> cases j<;>rfl
theorem SX {s:Bs} (h:p∈X.fl):p∈(Jb X i s).fl:= by
  unfold Jb;split
  · exact h
  · exact List.mem_append_left _ h
theorem RA: ∀{l:List Bs} {X:TwD},p∈X.fl→p∈(ZO X i l).fl
  | [],_,h=>h
  | s::l,X,h=>RA (l:=l) (X:=Jb X i s) (SX h)
theorem HR (h:X.fl=p::rest):XQ X 0=ZO (Z2 {X with fl:=rest} p.1 (X9 (Q6 X p.1) p.2).1) p.1 (X9 (Q6 X p.1) p.2).2:= by
  have h0:(ZU 0 X.fl.length).toNat=0:= by
    unfold ZU;split
    · rfl
    · rw[Int.zero_emod];rfl
  unfold XQ BU
  rw[h0,h];rfl
theorem VR (h:X.fl=p::rest):Q6 (XQ X 0) j= if j=p.1 then(X9 (Q6 X p.1) p.2).1 else Q6 X j:= by
  rw[HR h,WN,MH]
  split
  · rw[D0]
  · exact D0
theorem PhQ.arrive (h:PhQ X t) (hf:X.fl≠[]):PhQ (XQ X 0) t:= by
  obtain⟨p,rest,hl⟩:=List.exists_cons_of_ne_nil hf
  have hq:=Am (b:=p.2) (h.q p.1) (h.n p.1)
  refine⟨MR h.inv,h.w.arrive 0, fun j=> ?_, fun j=> ?_, ?_,h.tb⟩
  · rw[VR hl];split
    · exact hq.1
    · exact h.q j
  · rw[VR hl];split
    · exact hq.2
    · exact h.n j
  · rw[HR hl,TB,He]; exact h.cut
theorem RX:Q6 (tickT X i) j= if j=i then(X7 (Q6 X i)).1 else Q6 X j:= by unfold tickT; rw[WN,MH]
theorem PhQ.tick (h:PhQ X t) (i:Bool):PhQ (tickT X i) t:= by
  refine⟨h.inv.said (Y:=X) (fun _ q=>q) Qa fun _ h2 h3=>T3 h2 h3,(h.w.put (h.w.at_ i).tick).send (h.w.at_ i).tick_out, fun j=> ?_, fun j=> ?_, ?_,h.tb⟩
  · rw[RX];split
    · exact(h.q i).samE tick_samE
    · exact h.q j
  · rw[RX];split
    · rw[tick_samE.a]; exact h.n i
    · exact h.n j
  · unfold tickT; rw[TB,He]; exact h.cut
theorem PoN.tick (h:PoN X i) (j:Bool):PoN (tickT X j) i:= by
  unfold PoN at *
  rw[RX];split
  · rename_i e; subst e; rw[tick_samE.k]; exact h
  · exact h
theorem PoN.arrive (h:PhQ X t) (hp:PoN X i) (hf:X.fl≠[]):PoN (XQ X 0) i:= by
  obtain⟨p,rest,hl⟩:=List.exists_cons_of_ne_nil hf
  unfold PoN at *
  rw[VR hl];split
  · rename_i e; subst e
    rcases CN (b:=p.2) (h.q p.1) (h.n p.1)with q | ⟨q,_⟩ | ⟨q,_⟩ | ⟨q,_⟩
    · rw[q.k]; exact hp
    · exact absurd hp q
    · omega
    · omega
  · exact hp
theorem F3 (h:QE E) (ha:E.active=false) (hk:E.kind=2) (hm:E.move=n) (hn:0≤n∧n≤4611686018427387904):(X9 E (Zy ⟨4,n,0,0,[]⟩)).1.kind=1:= by
  rw[WR h.upE (by show(0:Int)≤4∧(4:Int)≤9;omega) hn XF XF (by simp),M6 Qa]
  rcases PG (m:=⟨4,n,0,0,[]⟩) h ha ⟨XJ (by show(0:Int)≤4∧(4:Int)≤9;omega),hn,XF,XF, by simp⟩with⟨q,_⟩ | ⟨_,_,q⟩
  · exact absurd ⟨hk,hm.symm⟩ q
  · exact q.2.1
theorem SN (h:QE E) (hk:E.kind=3) (hm:E.move=n) (hn:0≤n∧n≤4611686018427387904) {b:Bs} (hb:b=Zy ⟨2,n,0,0,[]⟩∨b=Zy ⟨3,n,0,0,[]⟩):(X9 E b).2=[Zy ⟨4,n,0,0,[]⟩]:= by
  rcases hb with e | e<;> subst e
  · rw[WR h.upE (by show(0:Int)≤2∧(2:Int)≤9;omega) hn XF XF (by simp),M7 Qa,CQ ⟨hk,hm.symm⟩]
    unfold Ze; rw[hm]
  · rw[WR h.upE (by show(0:Int)≤3∧(3:Int)≤9;omega) hn XF XF (by simp),PL Qa,CQ ⟨hk,hm.symm⟩]
    unfold Ze; rw[hm]
theorem bool_ne {i j:Bool} (h:j≠i):j= !i:= by cases i<;> cases j<;>simp_all
theorem PoT.arrive (h:PhQ X t) (hp:PoT X i n) (hl:X.fl=p::rest):PoN (XQ X 0) i∨(PoT (XQ X 0) i n∧(Tok X i n→Tok (XQ X 0) i n)):= by
  obtain⟨S,S',e1,e2,e3,_,_⟩:=h.inv.at i
  rw[Bool.not_not]at e3
  obtain⟨k1,k2,k3,k4⟩:=hp
  have sI: ∀x,S x↔x=(3,n):= fun x=> by rw[UX e1 (h.q (!i)).up,k3,k4]
  have sJ: ∀x,S' x↔x=(2,n):= fun x=> by rw[UX e2 (h.q i).up,k1,k2]
  have hnn:0≤n∧Xy n:= by have :=(h.q i).rg; rw[k2]at this; exact this.2.2
  have hmem:p∈X.fl:= by rw[hl]; exact List.mem_cons_self
  have hnb:0≤n∧n≤4611686018427387904:= by have a:=h.inv.mv h.w i; have b:=h.tb; rw[k2]at a; exact⟨hnn.1, by omega⟩
  by_cases hi:p.1=i
  · -- the one that is ready hears
    have hin:Mo X.fl i (MX p.2):=⟨p,hmem,hi,rfl⟩
    have hE:Q6 (XQ X 0) i=(X9 (Q6 X i) p.2).1:= by rw[VR hl,if_pos hi.symm,hi]
    have hO:Q6 (XQ X 0) (!i)=Q6 X (!i):= by rw[VR hl,if_neg (by rw[hi]; cases i<;> simp)]
    rcases CN (b:=p.2) (h.q i) (h.n i)with q | ⟨_,q1,q2,_⟩ | ⟨_,_,_,q⟩ | ⟨_,q1,q2,_⟩
    · refine .inr ⟨⟨by rw[hE,q.k]; exact k1, by rw[hE,q.m]; exact k2, by rw[hO]; exact k3, by rw[hO]; exact k4⟩, ?_⟩
      rintro⟨r,hr,ht⟩
      rw[hl]at hr
      rcases List.mem_cons.1 hr with e | e
      · -- the token itself: it is taken
        subst e
        exfalso
        rcases ht with⟨a,_⟩ | ⟨_,b⟩
        · rw[hi]at a; cases i<;> cases a
        · have z:=F3 (h.q i) (h.n i) k1 k2 hnb
          rw[←b,q.k,k1]at z; cases z
      · refine⟨r, ?_,ht⟩
        rw[HR hl]; exact RA (by rw[WE]; exact e)
    · have :=e3.i.num _ hin _ ((sI _).2 Qa)
      have :(QU p.2).move≤n:=this
      omega
    · left;unfold PoN; rw[hE]; exact q.2.1
    · have hm:MX p.2=(5,n):= by unfold MX; rw[q1,q2,k2]
      rw[hm]at hin
      rcases(e3.i.no n hin).1 _ ((sI _).2 rfl)with z | z
      · have z:n<n:=z
        omega
      · cases z
  · -- the one that has given hears
    have hi2:p.1= !i:=bool_ne hi
    have hin:Mo X.fl (!i) (MX p.2):=⟨p,hmem,hi2,rfl⟩
    have hE:Q6 (XQ X 0) (!i)=(X9 (Q6 X (!i)) p.2).1:= by rw[VR hl,if_pos hi2.symm,hi2]
    have hO:Q6 (XQ X 0) i=Q6 X i:= by rw[VR hl,if_neg (by rw[hi2]; cases i<;> simp)]
    rcases CN (b:=p.2) (h.q (!i)) (h.n (!i))with q | ⟨_,q1,q2,_⟩ | ⟨q,_⟩ | ⟨q,_⟩
    · refine .inr ⟨⟨by rw[hO]; exact k1, by rw[hO]; exact k2, by rw[hE,q.k]; exact k3, by rw[hE,q.m]; exact k4⟩, ?_⟩
      rintro⟨r,hr,ht⟩
      rw[hl]at hr
      rcases List.mem_cons.1 hr with e | e
      · subst e
        rcases ht with⟨_,b⟩ | ⟨a,_⟩
        · have ho:=SN (h.q (!i)) k3 k4 hnb b
          refine⟨(i,Zy ⟨4,n,0,0,[]⟩), ?_,.inr ⟨Qa,Qa⟩⟩
          rw[HR hl,hi2,ho]
          have hroom: ¬(({X with fl:=rest}:TwD).cut=true∨500≤rest.length):= by
            rintro(z | z)
            · have z:X.cut=true:=z
              rw[h.cut]at z; cases z
            · have :=h.w.ln; rw[hl,List.length_cons]at this;omega
          show _∈(Jb _ _ _).fl
          unfold Jb
          rw[if_neg (by rw[He,WE]; exact hroom)]
          show _∈(Z2 {X with fl:=rest} (!i) _).fl++[(!(!i),_)]
          rw[Bool.not_not]; simp
        · rw[a]at hi2; cases i<;> cases hi2
      · refine⟨r, ?_,ht⟩
        rw[HR hl]; exact RA (by rw[WE]; exact e)
    · have :=e3.j.num _ hin _ ((sJ _).2 Qa)
      have :(QU p.2).move≤n:=this
      omega
    · omega
    · omega
theorem arr_wt (h:PhQ X t) (hl:X.fl=p::rest):Rq (XQ X 0).fl+1≤Rq X.fl:= by
  have h1:=DY (i:=p.1) (l:=(X9 (Q6 X p.1) p.2).2) (X:=Z2 {X with fl:=rest} p.1 (X9 (Q6 X p.1) p.2).1)
  have h2:=hear_wt (h.w.at_ p.1) p.2
  rw[WE]at h1
  have h3:Rq X.fl=wt p.2+Rq rest:= by rw[hl];unfold Rq; simp
  rw[HR hl,h3]
  have h1:Rq (ZO (Z2 {X with fl:=rest} p.1 (X9 (Q6 X p.1) p.2).1) p.1 (X9 (Q6 X p.1) p.2).2).fl≤Rq rest+((X9 (Q6 X p.1) p.2).2.map wt).sum:=h1
  omega
theorem DC: ∀(k:Nat) {X:TwD},PhQ X t→PhQ (arrN k X) t∧((arrN k X).fl=[]∨Rq (arrN k X).fl+k≤Rq X.fl)∧(PoN X i→PoN (arrN k X) i)∧(PoT X i n→PoN (arrN k X) i∨(PoT (arrN k X) i n∧(Tok X i n→Tok (arrN k X) i n)))
  | 0,X,h=>⟨h,.inr (Nat.le_refl _),id, fun q=> .inr ⟨q,id⟩⟩
  | k+1,X,h=> by
    unfold arrN
    by_cases hf:X.fl=[]
    · rw[if_pos hf]; exact⟨h,.inl hf,id, fun q=> .inr ⟨q,id⟩⟩
    · rw[if_neg hf]
      obtain⟨p,rest,hl⟩:=List.exists_cons_of_ne_nil hf
      obtain⟨a,b,c,d⟩:=DC k (h.arrive hf)
      have hw:=arr_wt h hl
      refine⟨a,b.imp id fun q=> by omega, fun q=>c (q.arrive h hf), fun q=> ?_⟩
      rcases q.arrive h hl with r | ⟨r,s⟩
      · exact .inl (c r)
      · exact(d r).imp id fun ⟨u,v⟩=>⟨u, fun w=>v (s w)⟩
theorem PhQ.flow (h:PhQ X t):PhQ (Wj X) t:=(DC (i:=false) (n:=0) 400 ((h.tick false).tick true)).1
theorem PoN.flow (h:PhQ X t) (hp:PoN X i):PoN (Wj X) i:=(DC (i:=i) (n:=0) 400 ((h.tick false).tick true)).2.2.1 ((hp.tick false).tick true)
theorem Vh (he:X7 (Q6 X i)=(Q6 X i,[])):tickT X i=X:= by
  unfold tickT; rw[he]
  show Z2 X i (Q6 X i)=X
  exact YS
theorem SM (h:QE E) (hk:E.kind=2) (hm:E.move=n): ∃s,X7 E=(E,[s])∧(s=Zy ⟨2,n,0,0,[]⟩∨s=Zy ⟨3,n,0,0,[]⟩):= by
  have e: ∀k:Int,Ze E k 0 0 []=Zy ⟨k,n,0,0,[]⟩:= fun k=> by unfold Ze; rw[hm]
  by_cases q: ∃o,E.off=some o∧o.move=E.move
  · obtain⟨o,q1,q2⟩:=q
    exact⟨_,NL h.upE hk q1 q2,.inl (e 2)⟩
  · exact⟨_,Vi h.upE hk (fun o ho hmo=>q ⟨o,ho,hmo⟩),.inr (e 3)⟩
theorem PoT.one (h:PhQ X t) (hp:PoT X i n): ∃s,tickT X i=ZO X i [s]∧(s=Zy ⟨2,n,0,0,[]⟩∨s=Zy ⟨3,n,0,0,[]⟩):= by
  obtain⟨s,e1,e2⟩:=SM (h.q i) hp.1 hp.2.1
  refine⟨s, ?_,e2⟩
  unfold tickT; rw[e1,YS]
theorem PoT.ticks (h:PhQ X t) (hp:PoT X i n):PoT (tickT (tickT X false) true) i n∧Rq (tickT (tickT X false) true).fl≤Rq X.fl+2∧(Rq X.fl<500→Tok (tickT (tickT X false) true) i n):= by
  obtain⟨s,hs,hm⟩:=hp.one h
  have hno:X7 (Q6 X (!i))=(Q6 X (!i),[]):=Hc (h.q (!i)).upE (by have :=hp.2.2.1;omega) (.inl (by have :=hp.2.2.1;omega))
  have key:tickT (tickT X false) true=ZO X i [s]:= by
    cases i with
    | false=>
      rw[hs]
      exact Vh (by rw[WN]; exact hno)
    | true=>
      rw[Vh (i:=false) hno]; exact hs
  rw[key]
  have hnI:=(h.q i).rg
  rw[hp.2.1]at hnI
  have hw:wt s=2:= by
    rcases hm with e | e
    · rw[e,Cl (XJ (by omega)) hnI.2.2.2];rfl
    · rw[e,Cl (XJ (by omega)) hnI.2.2.2];rfl
  refine⟨⟨by rw[WN]; exact hp.1, by rw[WN]; exact hp.2.1, by rw[WN]; exact hp.2.2.1, by rw[WN]; exact hp.2.2.2⟩, ?_, fun hlt=> ?_⟩
  · have :=DY (X:=X) (i:=i) (l:=[s])
    simp [hw]at this;omega
  · have hln:=(wtL_len X.fl).1
    refine⟨(!i,s), ?_,.inl ⟨Qa,hm⟩⟩
    show _∈(Jb X i s).fl
    unfold Jb
    rw[if_neg (by rintro(z | z);(rw[h.cut]at z; cases z);omega)]
    simp
theorem PoT.flow (h:PhQ X t) (hp:PoT X i n):PoN (Wj X) i∨(PoT (Wj X) i n∧398≤Rq X.fl∧(Rq (Wj X).fl+398≤Rq X.fl∨Rq (Wj X).fl=0)):= by
  obtain⟨a1,a2,a3⟩:=hp.ticks h
  obtain⟨b1,b2,_,b4⟩:=DC (i:=i) (n:=n) 400 ((h.tick false).tick true)
  rcases b4 a1 with q | ⟨q,r⟩
  · exact .inl q
  · by_cases hw:398≤Rq X.fl
    · refine .inr ⟨q,hw, ?_⟩
      rcases b2 with z | z
      · right;unfold Wj; rw[z];rfl
      · left;unfold Wj;omega
    · exfalso
      obtain⟨p,hp2,_⟩:=r (a3 (by omega))
      rcases b2 with z | z
      · rw[z]at hp2; cases hp2
      · omega
def flowN:Nat→TwD→TwD
  | 0,X=>X
  | k+1,X=>Wj (flowN k X)
end
section
variable {E:EnD} {S:KM→Prop} {X:TwD} {t:Int} {i:Bool}
theorem INV.cancel (h:INV X t) (i:Bool):INV (Z2 X i (HC (Q6 X i)).2) t:=h.mute fun _ h2 h3=>Sv h2 h3
end
theorem tickT_f (X:TwD):tickT X false=ZO {X with a:=(X7 X.a).1} false (X7 X.a).2:=rfl
theorem tickT_t (X:TwD):tickT X true=ZO {X with b:=(X7 X.b).1} true (X7 X.b).2:=rfl
theorem XW.tickT {X:TwD} (h:XW X) (i:Bool):XW (tickT X i):=(h.put (h.at_ i).tick).send (h.at_ i).tick_out
theorem arrN_go {X:TwD} {k:Nat} (h:X.fl≠[]):arrN (k+1) X=arrN k (XQ X 0):= by rw[arrN,if_neg h]
theorem qav {X:TwD} {k:Nat} (h:X.fl=[]):arrN k X=X:= by cases k with | zero=>rfl | succ k=> rw[arrN,if_pos h]
theorem My {w:World} [tq:Inhabited TwQ] {x:Nat} {X:TwD} {F:Th} (hS:Sat w [Ka x X,F]) (hG:Ent F WireG) (hO:Ent F (Glob 0)) (hW:XW X):
    Calls prog 22 #[ptrV x 0] w (Ret fun v w'=>v= .tuple #[]∧Sat w' [Ka x (Wj X),F]):= by
 obtain⟨eb,ecap,a,b,p,hq0,hS⟩:=JU hS
 refine Qy func22 Qa ntmps22 Qa ?_
 refine Qg (Qb (Qd Qa Qa (Qd Qa Qa (Ql Qa Qa (Qi Qa WI Qa (Qp Qa Hr (hS.cell 0 Qa Qa) Qa (ZP Rz 1 0 hS Qa Qa Qa (by rfl) (show[a,b][0]? =some a from rfl) Hn Qa ?_)))))))
 intro bx1 capx1 hvx1
 refine ZW 1 0 0 hS Qa hvx1 Qa Qa (show[a,b][0]? =some a from rfl) Yv Qa Qa (Q4 Nv Qa (Di (hS.sp [2] Qa) (hG.starL 4 Qa) hW.a) Qa ?_)
 rintro _ w2 hS2
 replace hS2:=hS2.jn Qa Qa
 have h1r:=hS2.own_one 0 Qa
 have hS3:=Zm (X:={X with a:=(X7 X.a).1}) (hS2.pick [2,3,1,4,5,0,6] Qa) (by assumption)
 refine Q4 Va Qa (Y5 (i:=false) (hS3.sp [0,1] Qa) (by have :=NM X.a;omega)) Qa ?_
 rintro _ w4 ⟨rfl,hS4⟩
 replace hS4:=hS4.jn Qa Qa
 refine Qh ?_
 rw[←tickT_f]at hS4
 have hWY:=hW.tickT false
 generalize hY:tickT X false=Y at *
 refine Qe (Qg ?_)
 obtain⟨eb,ecap,a,b,p,hq0,hS5⟩:=JU (hS4.pick [0,1] rfl)
 refine Qb (Qd Qa Qa (Qd Qa Qa (Ql Qa Qa (Qi Qa WI Qa (Qp Qa Hr (hS5.cell 0 Qa Qa) Qa (ZP Rz 1 1 hS5 Qa Qa Qa (by rfl) (show[a,b][1]? =some b from rfl) Hn Qa ?_))))))
 intro bx6 capx6 hvx6
 refine ZW 1 1 0 hS5 Qa hvx6 Qa Qa (show[a,b][1]? =some b from rfl) Yv Qa Qa (Q4 Nv Qa (Di (hS5.sp [3] Qa) (hG.starL 4 Qa) hWY.b) Qa ?_)
 rintro _ w7 hS7
 replace hS7:=hS7.jn Qa Qa
 have h1r:=hS7.own_one 0 Qa
 have hS8:=Zm (X:={Y with b:=(X7 Y.b).1}) (hS7.pick [2,3,4,1,5,0,6] Qa) (by assumption)
 refine Q4 Va Qa (Y5 (i:=true) (hS8.sp [0,1] Qa) (by have :=NM Y.b;omega)) Qa ?_
 rintro _ w9 ⟨rfl,hS9⟩
 replace hS9:=hS9.jn Qa Qa
 refine Qh ?_
 rw[←tickT_t]at hS9
 have hWZ:=hWY.tickT true
 have hZ:Wj X=arrN 400 (tickT Y true):= by unfold Wj; rw[hY]
 generalize tickT Y true=Z at *
 refine Qe (Qk [0] Qa (Qg (Qb (Qc Qa Qa (Qh (Qe (QD ?_)))))))
 refine XD (fun K0 E0 W0=> ∃(n:Nat) (U:TwD),K0=400 -n∧E0=[(0,ptrV x 0),(2,intV (n:Int))]∧Sat W0 [Ka x U,F]∧(n≤400)∧(arrN 400 Z=arrN (400 -n) U)∧(XW U)) (L0:=[(0,_),(2,_)]) (400 -0) (FZ Qa Qa) ⟨0,Z,rfl,rfl,hS9.pick [0,1] Qa, by omega,rfl,hWZ⟩ ?_
 rintro _ _ w10 ⟨n,U,rfl,rfl,hS10,hn,hU,hWU⟩
 refine Qg (Qg (Qb (Qd Qa Qa (Xz Qa Qa Qa (Qd Qa Qa (Q3 23 Qa (fun h11=> ?_) (fun h11=> ?_)))))))
 ·refine Qj Qa Qa (Q8 h11) ?_
  obtain⟨eb,ecap,a,b,p,hq0,hS12⟩:=JU (hS10.pick [0,1] rfl)
  refine Qd Qa Qa (Qj Qa Qa (Q8 h11) (Ql Qa Qa (Qj Qa Qa (Q8 h11) (Qi Qa ZD Qa (Qj Qa Qa (Q8 h11) (Qp Qa XR (hS12.cell 0 Qa Qa) Qa (Qj Qa Qa (Q8 h11) (Q4 H6 Qa (Wm (hS12.sp [4] Qa)) Qa ?_))))))))
  rintro _ w13 ⟨rfl,hS13⟩
  replace hS13:=hS13.jn Qa Qa
  refine Qj Qa Qa (Q8 h11) (We Qa Qa Qa (Qx Qa (Q8 h11) Qa Qa (Qh (Qe (Qk [2,0,30] Qa (Qw Qa (fun h14=> ?_) (fun h14=> ?_)))))))
  ·have hne:U.fl≠[]:= by intro q; have q9:=h14; rw[q]at q9; simp at q9
   have hS15:=Zm (X:=U) (hS13.pick [1,2,3,4,0,5] Qa) (by assumption)
   refine Qr (Qe (Qg (QD (Qb (Qd Qa Qa (Q4 cal_49 Qa (Fm (hS15.sp [0] Qa) (hG.starL 0 Qa) (hO.starL 0 Qa) hWU 0) Qa ?_))))))
   rintro _ w16 ⟨rfl,hS16⟩
   replace hS16:=hS16.jn Qa Qa
   refine Qh (Qq (Qe (Qb (Qd Qa Qa (Xq Qa Qa (by omega) (by omega) Qa ?_)))))
   exact Qc Qa Qa (Qh (QY (L1:=[(0,_),(2,intV ((n+1:Nat):Int))]) (FZ Qa Qa) (k1:=400 -(n+1)) (by omega) ⟨n+1,_,rfl,rfl,hS16.pick [0,1] Qa, by omega,(by rw[hU, show 400 -n=(400 -(n+1))+1 by omega,arrN_go hne]),hWU.arrive 0⟩))
  refine Xu (Q1 (Q1 (QJ (H5 (.inl Qa) Qa ?_))))
  have hS17:=Zm (X:=U) (hS13.pick [1,2,3,4,0,5] Qa) (by assumption)
  have hz:arrN 400 Z=U:= by rw[hU]; exact qav (List.eq_nil_of_length_eq_zero (by omega))
  exact⟨_,rfl,rfl, by rw[hZ,hz]; exact hS17.pick [0,1] Qa⟩
 refine Qf Qa Qa (Qv h11) Qa (Qf Qa Qa (Qv h11) Qa (Qf Qa Qa (Qv h11) Qa (Qf Qa Qa (Qv h11) Qa (Qf Qa Qa (Qv h11) Qa (Qf Qa Qa (Qv h11) Qa (Qz Qa (Qv h11) Qa Qa (Qh (Qe (Qk [2,0,30] Qa (QF Qa (Xu (Q1 (Q1 (QJ (H5 (.inl Qa) Qa ?_)))))))))))))))
 have hz:arrN 400 Z=U:= by rw[hU, show 400 -n=0 by omega];rfl
 exact⟨_,rfl,rfl, by rw[hZ,hz]; exact hS10.pick [0,1] Qa⟩
def shP (e:Int×PgD):Int×Bs:=(e.1,e.2.data)
def WA (E:EnD):SsD×Bool:= match E.ses with
  | none=>(⟨[],[]⟩,false)
  | some s=> if Wd s.pages=[]then(⟨s.state,s.pages.map shP⟩,true)else(⟨[],[]⟩,false)
theorem T8 {E:EnD} (h:E.ses=none):WA E=(⟨[],[]⟩,false):= by unfold WA; rw[h]
theorem T9 {E:EnD} (h:QP E≠[]):WA E=(⟨[],[]⟩,false):= by
  unfold WA;unfold QP at h
  cases q:E.ses with
  | none=>rfl
  | some s=> rw[q]at h; dsimp only at h⊢; rw[if_neg h]
theorem T7 {E:EnD} {s:SeD} (h:E.ses=some s) (h2:QP E=[]):WA E=(⟨s.state,s.pages.map shP⟩,true):= by
  unfold WA;unfold QP at h2
  rw[h]at h2⊢
  dsimp only at h2⊢; rw[if_pos h2]
theorem Oy {l:AL PgD} {i:Nat} {e:Int×PgD} (h:l[i]? =some e):(l.take (i+1)).map shP=(l.take i).map shP++[shP e]:= by rw[List.take_add_one,h,List.map_append];rfl
theorem Si {w:World} {e:Nat} {E:EnD} {F:Th} (hS:Sat w [Xs e E,F]) (hw: ∀x,E.ses=some x→SeW x):
    Calls prog 32 #[ptrV e 0] w (Ret fun v w'=> ∃sv,v= .tuple #[.agg #[strV (WA E).1.state,sv],.bool (WA E).2]∧Sat w' [rowT shC sv (WA E).1.sheets,Xs e E,F]):= by
 refine Qy func32 Qa ntmps32 Qa ?_
 refine Qg (Qb (Xk hS Kb Qa Qa ?_))
 intro rb w1 hS10
 have hS1:Sat w1 (QR rb [strV [],.slice none 0 0]::_):=hS10
 refine Qc Qa Qa (Qh (Qe (Qg (Qg (Qb (Qd Qa Qa ?_))))))
 obtain⟨dp,cv,sv,ov,hS2⟩:=QW (hS1.pick [1,0,2] rfl)
 refine Ql Qa Qa (Qi Qa Xm Qa (Qp Qa Z8 (hS2.cell 0 Qa Qa) Qa ?_))
 rcases hq_s:E.ses with _ | s
 ·rw[hq_s]at hS2
  obtain⟨rfl,hSo3⟩:=WM (hS2.pick [3,0,1,2,4,5,6] rfl)
  refine ZN underlying78 Qa Qa Qa (Qd Qa Qa (Qf Qa Qa Qa Qa (Qf Qa Qa Qa Qa (Qf Qa Qa Qa Qa (Qf Qa Qa Qa Qa (Qx Qa Qa Qa Qa (Qh (Qe (Qk [0,2,3,17] Qa (QL Qa (Qg (Qb (Zu Qa OH MQ Kb Qa Qa ?_)))))))))))))
  (refine QX hSo3 Qa Qa Wc Qa (by rfl) (i:=4) Qa (by decide) ?_)
  intro w5 hS6; dsimp only[List.set]at hS6
  clear hSo3
  refine Qc Qa Qa (Qh (Qe (Qo (Qm ?_))))
  refine PZ (.inr Qa) Qa (Gc Qa JF Wc (by first | exact hS6.blk 0 Qa | exact hS6.blk 4 Qa) (by first | decide | exact Xe Qa | (simp;done) | omega) Qa) (O7 Qa) ?_
  have hS7:=Qu (E:=E) (by rw[hq_s]; exact((ZQ hS6).pick [1,2,3,0,4,5,6] Qa))
  exact⟨_,rfl,.slice none 0 0, by rw[T8 hq_s];rfl, by rw[T8 hq_s]; exact Sat.row_nil shC (hS7.pick [0,2] Qa)⟩
 rw[hq_s]at hS2
 obtain⟨sb,sm,rfl,hSo4⟩:=Zn (hS2.pick [3,0,1,2,4,5,6] rfl)
 refine ZJ underlying78 Qa Qa Qa (Qd Qa Qa (Qj Qa Qa Qa (Qd Qa Qa (Qj Qa Qa Qa ?_))))
 have hS8:=Qu (E:=E) (by rw[hq_s]; exact((Xg (hSo4.pick [0,1,2,3,4,5,6,7] Qa)).pick [1,2,3,0,4,5,6] Qa))
 refine Q4 VQ Qa (J6 (hS8.sp [0] Qa) hw) Qa ?_
 rintro _ w9 hS9
 replace hS9:=hS9.jn Qa Qa
 have h1v:=hS9.own_one 0 Qa
 refine Qj Qa Qa Qa (X3 0 hS9 underlying33 Qa Qa Qa (Qj Qa Qa Qa (We Qa Qa Qa (Qz Qa Qa Qa Qa (Qh (Qe (Qk [0,2,3,17] Qa (Qw Qa (fun h10=> ?_) (fun h10=> ?_)))))))))
 ·have hms:QP E≠[]:= by intro q; have q9:=h10; rw[q]at q9; simp at q9
  refine Qg (Qb (Zu Qa OH MQ Kb Qa Qa ?_))
  first | (refine QX hS9 Qa Qa Wc Qa (by rfl) (i:=2) Qa (by decide) ?_)
  intro w11 hS12; dsimp only[List.set]at hS12
  refine Qc Qa Qa (Qh (Qe (Qo (Qm ?_))))
  refine PZ (.inr Qa) Qa (Gc Qa JF Wc (by first | exact hS12.blk 2 Qa) (by first | decide | exact Xe Qa | (simp;done) | omega) Qa) (O7 Qa) ?_
  exact⟨_,rfl,.slice none 0 0, by rw[T9 hms];rfl, by rw[T9 hms]; exact Sat.row_nil shC (hS12.pick [1,3] Qa)⟩
 have hmn:QP E=[]:=List.eq_nil_of_length_eq_zero (by have q9:=h10;omega)
 refine Qr (Qe (Qg ?_))
 obtain⟨dp,cv,sv,ov,hS13⟩:=QW (hS9.pick [1,0,2,3] rfl)
 rw[hq_s]at hS13
 obtain⟨sb,sm,rfl,hS14⟩:=Zn (hS13.pick [3,0,1,2,4,5,6,7] rfl)
 refine Qb (Qd Qa Qa (Ql Qa Qa (Qi Qa Xm Qa (Qp Qa Z8 (hS14.cell 2 Qa Qa) Qa (Ql Qa Qa (Qi Qa Gw Qa (Qp Qa Zw (hS14.cell 0 Qa Qa) Qa (Zu Qa Lm MQ Kb Qa Qa (Xk hS14 Kb Qa Qa ?_)))))))))
 intro cb w15 hS150
 have hS15:Sat w15 (QR cb [strV [],.slice none 0 0]::_):=hS150
 (refine QX hS15 Qa Qa Wc Qa (by rfl) (i:=0) Qa (by decide) ?_)
 intro w16 hS17; dsimp only[List.set]at hS17
 refine Qh (Qe (Qk [0,2,3,4] Qa (Qg (Qg (Qb (Qd Qa Qa (Ql Qa Qa (Qi Qa Xm Qa (Qp Qa Z8 (hS17.cell 3 Qa Qa) Qa ?_)))))))))
 refine Q4 Nt Qa (CM (hS17.sp [1,2] Qa) (hw s hq_s).srt (by have :=(hw s hq_s).num;omega)) Qa ?_
 rintro _ w18 hS18
 replace hS18:=hS18.jn Qa Qa
 have h1v:=hS18.own_one 0 Qa
 have hnm:=(hw s hq_s).num
 obtain⟨ao,cap,hv19,_⟩:=hS18.own_shape 0 rfl
 obtain rfl:=hv19
 refine Xj underlying33 Qa Qa (Qd Qa Qa (Qh (Qe (Qk [0,2,3,4,31,32,33] Qa (QD ?_)))))
 have hS20:=Sat.row_nil shC hS18
 refine XD (fun K0 E0 W0=> ∃(i:Nat) (sv9:Value),K0=s.pages.length -i∧E0=[(0,ptrV e 0),(2,ptrV rb 0),(4,ptrV cb 0),(31,.slice ao (XY s.pages).length cap),(32,intV ((XY s.pages).length:Int)),(33,intV (i:Int))]∧Sat W0 [rowT shC sv9 ((s.pages.take i).map shP),rowT inC (.slice ao (XY s.pages).length cap) (XY s.pages),QR cb [strV s.state,sv9],QR rb [strV [],.slice none 0 0],QR sb [strV s.state,intV s.count,.map (some sm)],XI Za sm (Yj s.pages),QR e (U6 dp cv (ptrV sb 0) ov E),dT dp E.D,JR dp cv E.cell,Rt ov E.off,F]∧(i≤s.pages.length)) (L0:=[(0,_),(2,_),(4,_),(31,_),(32,_),(33,_)]) (s.pages.length -0) (Dc Qa Qa Qa Qa Qa Qa) ⟨0,_,rfl,rfl,hS20.pick [0,1,4,10,2,3,5,6,7,8,11] Qa, by omega⟩ ?_
 rintro _ _ w21 ⟨i,sv9,rfl,rfl,hS21,hi⟩
 have h1ov:sv9.oneCell'=true:=hS21.own_one 0 Qa
 refine Qg (Qb (Xz Qa Qa Qa (Qh (Qe (Qg (Qw Qa (fun h22=> ?_) (fun h22=> ?_)))))))
 ·rw[Ra]at h22
  obtain⟨y,hy⟩: ∃y,s.pages[i]? =some y:=⟨_,WU (by omega)⟩
  have hyi:=Fq hy
  refine Qr (Qe (Qg (QD (Qg (Qb (ZP inC 1 i hS21 Qa Qa Qa (by first | rfl | omega) hyi K7 Qa ?_))))))
  intro bx23 capx23 hvx23
  refine ZW 1 i 0 hS21 Qa hvx23 Qa Qa hyi QK Qa Qa (Qc Qa Qa (Qh (Qe ?_)))
  have hS24:=hS21.drew
  refine QT [0,1,2,3,4,5,6,7,8,9,10,11,12,13,14,15,16,17] [14,15,17] Jk (by kernel_rfl) ?_
  refine QQ Qa Qa Qa Zt (QH Qa Qa Qa (Qn Qa WV (hS24.cell 2 Qa Qa)) (QM Qa Qa Qa (QM Qa Qa Qa (Xw Qa Qa Qa (QQ Qa Qa Qa Xm (QH Qa Qa Qa (Qn Qa Z8 (hS24.cell 6 Qa Qa)) (Xw Qa Qa Qa (QQ Qa Qa Qa ZH (QH Qa Qa Qa (Qn Qa ZZ (hS24.cell 4 Qa Qa)) (QM Qa Qa Qa (QH Qa Qa Qa (JK (k:=y.1) 5 hS24 keysInt underlying89 Qa Qa Qa Wg (CA (hw s hq_s).srt hy)) (QG Qa Qa Qa (fun _=>(K6 fv_94_0 Qa Qa)) ?_))))))))))))
  refine QG Qa Qa Qa (fun _=>(Wb Qa KU N3 Rv Qa)) ?_
  refine Xb Qa Qa Qa Qa Qa Qa ?_
  refine Xc shC [shP y] hS24 Qa underlying22 Bo Qa Qa Qa Qa (by rfl) rfl ?_
  intro b25 w25 hS25
  refine Xn (.skip (by kernel_rfl) (.skip (by kernel_rfl) (.skip (by kernel_rfl) (.cons (.inl ⟨rfl,(Qn Qa WV (hS25.cell 3 Qa Qa))⟩) .nil)))) ?_
  refine Xb Qa Qa Qa Qa Qa Qa ?_
  refine XV shC 1 hS25 Qa Qa Qa (hS25.rd 0 Qa (by simp)) underlying22 underlying22 (by intro k hk; cases hk) M1 Qa (by simp only[List.length_map,List.length_take,List.length_cons,List.length_nil];omega) Qa (by simp only[List.length_map,List.length_take,List.length_cons,List.length_nil];omega) ?_
  intro v26 w26 hS26; dsimp only[List.set]at hS26
  have h1v26:v26.oneCell'=true:=hS26.own_one 1 Qa
  refine Xn (XC (by kernel_rfl)) ?_
  refine QQ Qa Qa Qa Zt (Xb Qa Qa Qa Qa Qa Qa ?_)
  (refine QC hS26 Qa Qa NP (by assumption) (i:=3) Qa (Xe Qa) ?_)
  intro w27 hS28; dsimp only[List.set]at hS28
  refine ZG (XC (by kernel_rfl)) ?_
  refine VC.nil (Qq (Qe (Qk [33,32,31,4,2,0] Qa (Qb (Xq Qa Qa (by omega) (by omega) Qa ?_)))))
  refine Qd Qa Qa (Qh ?_)
  exact QY (L1:=[(0,_),(2,_),(4,_),(31,_),(32,_),(33,intV ((i+1:Nat):Int))]) (Dc Qa Qa Qa Qa Qa Qa) (k1:=s.pages.length -(i+1)) (by omega) ⟨i+1,_,rfl,rfl,(by rw[Oy hy]; exact hS28.pick [1,2,3,4,5,6,7,8,9,10,11] Qa), by omega⟩
 rw[Ra]at h22
 refine Xu (Q1 (Q1 (QJ (Qe (Qg ?_)))))
 have hone:ZV [strV s.state,sv9]=true:= by simp [ZV,Value.oneCell']at h1ov⊢; exact h1ov
 refine Qb (Zg Qa JF Wc (hS21.blk 2 Qa) (Xe Qa) Qa Qa ?_)
 (refine QX hS21 Qa Qa Wc Qa (by assumption) (i:=3) Qa (by decide) ?_)
 intro w29 hS30; dsimp only[List.set]at hS30
 refine Qc Qa Qa (Qh (Qe (Qo ?_)))
 refine PZ (.inr Qa) Qa (Gc Qa JF Wc (by first | exact hS30.blk 2 Qa | exact hS30.blk 3 Qa | exact hS30.blk 4 Qa | exact hS30.blk 6 Qa) (by first | decide | exact Xe Qa | (simp;done) | omega) Qa) (O7 Qa) ?_
 have hz:Sat _ _:=hS30.pick [0,4,5,6,7,8,9,10] Qa
 rw[List.take_of_length_le (by omega)]at hz
 exact⟨_,rfl,sv9, by rw[T7 hq_s hmn];rfl, by rw[T7 hq_s hmn]; exact(Qu (E:=E) (As:=[rowT shC sv9 (s.pages.map shP),F]) (by rw[hq_s]; exact(Xg (s:=s) (hz.pick [1,2,3,4,5,6,0,7] Qa)).reorder [1,2,3,0,4,5,6] Qa)).reorder [1,0,2] Qa⟩
