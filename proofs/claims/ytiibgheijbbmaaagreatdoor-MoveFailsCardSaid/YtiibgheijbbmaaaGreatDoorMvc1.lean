/- move: rounds, plain -/
import Derived.Test.YtiibgheijbbmaaaGreatDoorMvb5
set_option linter.unusedVariables false
set_option maxRecDepth 100000
set_option maxHeartbeats 100000000000
namespace Go.Proofs.YtiibgheijbbmaaaGreatDoor
open Go.RowKit M Proofs.Tryz
def Of:Nat→TwD→TwD
  | 0,X=>X
  | k+1,X=> if X.fl=[]then X else Of k (Jb X 0)
def tickT (X:TwD) (i:Bool):TwD:=Yh (Vv X i (Z4 (ZX X i)).1) i (Z4 (ZX X i)).2
def Od (X:TwD):TwD:=Of 400 (tickT (tickT X false) true)
structure SamE (E E':EnD):Prop where
  d:E'.D=E.D
  c:E'.cell=E.cell
  k:E'.kind=E.kind
  m:E'.move=E.move
  a:E'.active=E.active
section
variable {E E':EnD} {m:MsD} {b:Bs}
theorem SamE.refl (E:EnD):SamE E E:=⟨rfl,rfl,rfl,rfl,rfl⟩
theorem QE.samE (h:QE E) (hs:SamE E E'):QE E':=h.same hs.d hs.c hs.k hs.m (.inl hs.a)
theorem tick_samE:SamE E (Z4 E).1:= by
  unfold Z4
  split
  · exact SamE.refl E
  split
  · exact SamE.refl E
  split
  · exact SamE.refl E
  split
  · exact SamE.refl E
  · dsimp only
    split
    · split
      · exact⟨Qa,Qa,Qa,Qa,Qa⟩
      · exact⟨Qa,Qa,Qa,Qa,Qa⟩
    · exact SamE.refl E
theorem Ow:SamE E (XY E m):= by
  unfold XY
  split
  · split
    · exact SamE.refl E
    · exact⟨Qa,Qa,Qa,Qa,Qa⟩
  · split
    · exact SamE.refl E
    · split
      · exact SamE.refl E
      · split
        · exact SamE.refl E
        · split
          · exact⟨Qa,Qa,Qa,Qa,Qa⟩
          · exact SamE.refl E
theorem Ox:SamE E (WK E m):= by
  unfold WK;split
  · exact⟨Qa,Qa,Qa,Qa,Qa⟩
  · exact SamE.refl E
theorem O8:SamE E (Hf E m):= by
  unfold Hf;split
  · exact⟨Qa,Qa,Qa,Qa,Qa⟩
  · exact SamE.refl E
theorem Oy:SamE E (WM E m).1:= by
  unfold WM;split
  · exact SamE.refl E
  · exact⟨Qa,Qa,Qa,Qa,Qa⟩
def Noted (E E':EnD) (k n:Int):Prop:=QE E'∧E'.kind=k∧E'.move=n∧E'.active=false
theorem AY (h:QE E) (ha:E.active=false) {k n:Int} (hk:0≤k∧k<4) (hn:0≤n∧X4 n) {E0:EnD} (h0:SamE E E0):(QT E0 k n).1=0∧Noted E (QT E0 k n).2 k n:= by
  obtain⟨a1,D,C,a2,a3⟩:=(h.samE h0).note hk hn
  refine⟨a1, ?_⟩
  rw[a2]
  exact⟨a3,rfl,rfl, by show E0.active=false; rw[h0.a]; exact ha⟩
theorem Noted.samE {E0:EnD} {k n:Int} (h:Noted E E0 k n) (hs:SamE E0 E'):Noted E E' k n:=⟨h.1.samE hs, by rw[hs.k]; exact h.2.1, by rw[hs.m]; exact h.2.2.1, by rw[hs.a]; exact h.2.2.2⟩
theorem OJ {n:Int} (h:0≤n∧n≤4611686018427387904):0≤n∧X4 n:=⟨h.1, by unfold X4;omega⟩
theorem OK (h:QE E) (ha:E.active=false) (hm:MsW m):SamE E (Zj E m).1∨(E.kind≠1∧E.move<m.move∧Noted E (Zj E m).1 2 m.move):= by
  unfold Zj
  split
  · exact .inl (SamE.refl E)
  cases hj:Ww E m.move with
  | none=> exact .inl (SamE.refl E)
  | some o=>
    dsimp only
    have hjj: ¬(E.kind=1∨m.move≤E.move):= fun q=> by rw[V1 q]at hj; cases hj
    split
    · exact .inl ⟨Qa,Qa,Qa,Qa,Qa⟩
    split
    · exact .inl ⟨Qa,Qa,Qa,Qa,Qa⟩
    split
    · exact .inl ⟨Qa,Qa,Qa,Qa,Qa⟩
    · refine .inr ⟨by omega, by omega, ?_⟩
      obtain⟨a1,a2⟩:=AY h ha (k:=2) (n:=m.move) (by omega) (OJ hm.mv) (E0:={E with off:=some {JR (XO o m.b) m with list:=We (JR (XO o m.b) m)}}) ⟨rfl,rfl,rfl,rfl,rfl⟩
      rw[Ce a1]
      exact a2.samE ⟨Qa,Qa,Qa,Qa,Qa⟩
theorem O6 (ha:E.active=false):SamE E (Xx E m).1:= by
  unfold Xx
  split
  · exact SamE.refl E
  split
  · exact SamE.refl E
  split
  · rename_i q; rw[ha]at q; exact absurd q.2.2.1 (by decide)
  split
  · rename_i q; rw[ha]at q; exact absurd q.2.2 (by decide)
  · exact SamE.refl E
theorem O9 (h:QE E) (ha:E.active=false) (hm:MsW m):(¬(E.kind=2∧m.move=E.move)∧SamE E (Zp E m))∨(E.kind=2∧m.move=E.move∧Noted E (Zp E m) 1 m.move):= by
  by_cases q:E.kind≠2∨m.move≠E.move
  · rw[Rm q]; exact .inl ⟨by omega,SamE.refl E⟩
  · obtain⟨a1,a2⟩:=AY h ha (k:=1) (n:=m.move) (by omega) (OJ hm.mv) (SamE.refl E)
    refine .inr ⟨by omega, by omega, ?_⟩
    unfold Zp
    rw[if_neg q,if_neg (by omega)]
    split
    · exact a2.samE ⟨Qa,Qa,Qa,Qa,Qa⟩
    · split
      · exact a2.samE ⟨Qa,Qa,Qa,Qa,Qa⟩
      · exact⟨a2.1.same Qa Qa Qa Qa (.inr Qa),a2.2.1,a2.2.2.1,Qa⟩
theorem O5 (h:QE E) (ha:E.active=false):SamE E (ZK E b).1∨
    (E.kind≠1∧E.move<(Xo b).move∧(Xo b).kind=1∧Noted E (ZK E b).1 2 (Xo b).move)∨
    (E.kind=2∧(Xo b).kind=4∧(Xo b).move=E.move∧Noted E (ZK E b).1 1 E.move)∨
    (E.kind=2∧(Xo b).kind=5∧(Xo b).move=E.move∧Noted E (ZK E b).1 0 E.move):= by
  by_cases hc:upE E=false∨(Xo b).kind<0∨9<(Xo b).kind∨(Xo b).move<0∨4611686018427387904<(Xo b).move∨YT (Xo b)≠b
  · rw[V2 hc]; exact .inl (SamE.refl E)
  rw[Ji hc]
  obtain⟨d1,d2,d3,d4,_⟩:=Tw b
  have hmv:0≤(Xo b).move∧(Xo b).move≤4611686018427387904:= by omega
  have hn:=OJ hmv
  unfold Zv
  split
  · exact .inl Ow
  split
  · rename_i hk
    by_cases hd:(Xo b).data.length≤1000
    · rcases OK h ha ⟨d1,hmv,d3,d4,hd⟩with q | ⟨q1,q2,q3⟩
      · exact .inl q
      · exact .inr (.inl ⟨q1,q2,hk,q3⟩)
    · -- (the size plays no part)
      unfold Zj
      split
      · exact .inl (SamE.refl E)
      cases hj:Ww E (Xo b).move with
      | none=> exact .inl (SamE.refl E)
      | some o=>
        dsimp only
        have hjj: ¬(E.kind=1∨(Xo b).move≤E.move):= fun q=> by rw[V1 q]at hj; cases hj
        split
        · exact .inl ⟨Qa,Qa,Qa,Qa,Qa⟩
        split
        · exact .inl ⟨Qa,Qa,Qa,Qa,Qa⟩
        split
        · exact .inl ⟨Qa,Qa,Qa,Qa,Qa⟩
        · refine .inr (.inl ⟨by omega, by omega,hk, ?_⟩)
          obtain⟨a1,a2⟩:=AY h ha (k:=2) (n:=(Xo b).move) (by omega) hn (E0:={E with off:=some {JR (XO o (Xo b).b) (Xo b)with list:=We (JR (XO o (Xo b).b) (Xo b))}}) ⟨rfl,rfl,rfl,rfl,rfl⟩
          rw[Ce a1]
          exact a2.samE ⟨Qa,Qa,Qa,Qa,Qa⟩
  split
  · exact .inl (O6 ha)
  split
  · rename_i hk
    by_cases q:E.kind≠2∨(Xo b).move≠E.move
    · rw[Rm q]; exact .inl (SamE.refl E)
    · obtain⟨a1,a2⟩:=AY h ha (k:=1) (n:=(Xo b).move) (by omega) hn (SamE.refl E)
      have he:(Xo b).move=E.move:= by omega
      refine .inr (.inr (.inl ⟨by omega,hk,he, ?_⟩))
      unfold Zp
      rw[if_neg q,if_neg (by omega)]
      rw[he]at a2⊢
      split
      · exact a2.samE ⟨Qa,Qa,Qa,Qa,Qa⟩
      · split
        · exact a2.samE ⟨Qa,Qa,Qa,Qa,Qa⟩
        · exact⟨a2.1.same Qa Qa Qa Qa (.inr Qa),a2.2.1,a2.2.2.1,Qa⟩
  split
  · rename_i hk
    unfold J4
    by_cases q:E.kind=2∧(Xo b).move=E.move
    · obtain⟨a1,a2⟩:=AY h ha (k:=0) (n:=(Xo b).move) (by omega) hn (SamE.refl E)
      rw[if_pos q,if_neg (by omega)]
      rw[q.2]at a2⊢
      exact .inr (.inr (.inr ⟨q.1,hk,Qa,a2.samE ⟨Qa,Qa,Qa,Qa,Qa⟩⟩))
    · rw[if_neg q]; exact .inl (SamE.refl E)
  split
  · exact .inl (SamE.refl E)
  split
  · exact .inl Ox
  split
  · exact .inl Oy
  · exact .inl O8
theorem OS (h:QE E) (ha:E.active=false):QE (ZK E b).1∧(ZK E b).1.active=false:= by
  rcases O5 (b:=b) h ha with q | ⟨_,_,_,q⟩ | ⟨_,_,_,q⟩ | ⟨_,_,_,q⟩
  · exact⟨h.samE q, by rw[q.a]; exact ha⟩
  · exact⟨q.1,q.2.2.2⟩
  · exact⟨q.1,q.2.2.2⟩
  · exact⟨q.1,q.2.2.2⟩
end
def OW (k:Int):Nat:= if k=1 then 3 else if k=2∨k=3∨k=6∨k=8 then 2 else 1
def wt (b:Bs):Nat:=OW (Xo b).kind
def Oh (fl:List (Bool×Bs)):Nat:=(fl.map fun p=>wt p.2).sum
theorem OV (b:Bs):1≤wt b∧wt b≤3:= by unfold wt OW;split;omega;split<;>omega
theorem ON (fl:List (Bool×Bs)):fl.length≤Oh fl∧Oh fl≤3*fl.length:= by
  induction fl with
  | nil=> exact⟨Nat.le_refl _,Nat.le_refl _⟩
  | cons p l ih=>
    have h:=OV p.2
    have e:Oh (p::l)=wt p.2+Oh l:= by unfold Oh; simp
    rw[e,List.length_cons];omega
theorem wtL_app (l m:List (Bool×Bs)):Oh (l++m)=Oh l+Oh m:= by unfold Oh; simp
theorem O4 {k n a b:Int} {d:Bs} (hk:X4 k) (hn:X4 n):wt (YT ⟨k,n,a,b,d⟩)=OW k:= by
  have :=So (a:=a) (b:=b) (d:=d) hk hn
  unfold wt
  have e:(Xo (YT ⟨k,n,a,b,d⟩)).kind=k:=congrArg Prod.fst this
  rw[e]
theorem OX {X:TwD} {i:Bool} {s:Bs}:Oh (HO X i s).fl≤Oh X.fl+wt s:= by
  unfold HO
  split
  · omega
  · show Oh (X.fl++[(!i,s)])≤_
    rw[wtL_app];unfold Oh; simp
theorem Oo {i:Bool}: ∀{l:List Bs} {X:TwD},Oh (Yh X i l).fl≤Oh X.fl+(l.map wt).sum
  | [],_=> by simp [Yh]
  | s::l,X=> by
    have h1:=Oo (i:=i) (l:=l) (X:=HO X i s)
    have h2:=OX (X:=X) (i:=i) (s:=s)
    show Oh (Yh (HO X i s) i l).fl≤_
    rw[List.map_cons,List.sum_cons];omega
theorem Ol {E:EnD} {k a b:Int} {d:Bs} (hk:0≤k∧k≤9) (hm:X4 E.move):wt (Z3 E k a b d)=OW k:=O4 (XG hk) hm
theorem hear_wt {E:EnD} (hW:EW E) (b:Bs):((ZK E b).2.map wt).sum+1≤wt b:= by
  have z: ∀{l:List Bs},l=[]→(l.map wt).sum+1≤wt b:= fun e=> by subst e; have :=OV b;simpa using this.1
  have hm:=hW.km.2.2.2
  obtain⟨d1,d2,d3,d4,_⟩:=Tw b
  have one: ∀{t:Bs} {k:Int},wt t=OW k→OW k+1≤wt b→(([t]:List Bs).map wt).sum+1≤wt b:= fun e h=> by simp [e];omega
  unfold ZK
  split
  · exact z Qa
  rename_i hc
  have hu:E.cell≠none:=KT fun q=>hc (.inl q)
  unfold Zv
  split
  · exact z Qa
  split
  · rename_i hk
    have hw:wt b=3:= by unfold wt OW; rw[if_pos hk]
    unfold Zj
    split
    · exact z Qa
    split
    · exact z Qa
    split
    · exact z Qa
    split
    · exact z Qa
    split
    · exact z Qa
    unfold YQ
    split
    · exact z Qa
    · rename_i q
      refine one (k:=2) (Ol (by omega) ?_) (by rw[hw];decide)
      have key: ∀{E0:EnD},E0.cell=E.cell→(QT E0 2 (Xo b).move).1=0→X4 (QT E0 2 (Xo b).move).2.move:= fun he q=> by rw[UE (by rw[he]; exact hu) q]; exact d2
      exact key Qa (Decidable.not_not.1 q)
  split
  · rename_i hk
    have hw:wt b=2:= by unfold wt OW; rw[if_neg (by omega),if_pos (by omega)]
    have hno:wt (noB (Xo b))=OW 5:=O4 (XG (by omega)) d2
    unfold Xx
    split
    · exact one (k:=4) (Ol (by omega) hm) (by rw[hw];decide)
    split
    · exact z Qa
    split
    · split
      · exact z Qa
      · rename_i q
        refine one (k:=4) (Ol (by omega) ?_) (by rw[hw];decide)
        rw[UE hu (by simpa using q)]; exact hm
    split
    · exact one hno (by rw[hw];decide)
    · exact one hno (by rw[hw];decide)
  split
  · exact z Qa
  split
  · exact z Qa
  split
  · rename_i hk
    have hw:wt b=2:= by unfold wt OW; rw[if_neg (by omega),if_pos (by omega)]
    unfold ZW
    split
    · exact z Qa
    split
    · exact one (k:=7) (Ol (by omega) hm) (by rw[hw];decide)
    split
    · exact z Qa
    · exact one (k:=0) (Ol (by omega) hm) (by rw[hw];decide)
  split
  · exact z Qa
  split
  · rename_i hk
    have hw:wt b=2:= by unfold wt OW; rw[if_neg (by omega),if_pos (by omega)]
    unfold WM
    split
    · exact z Qa
    · exact one (k:=9) (Ol (by omega) hm) (by rw[hw];decide)
  · exact z Qa
structure PhQ (X:TwD) (t:Int):Prop where
  inv:INV X t
  w:XW X
  q: ∀i,QE (ZX X i)
  n: ∀i,(ZX X i).active=false
  cut:X.cut=false
  tb:t≤1000
def PoN (X:TwD) (i:Bool):Prop:=(ZX X i).kind=1
def PoT (X:TwD) (i:Bool) (n:Int):Prop:=(ZX X i).kind=2∧(ZX X i).move=n∧(ZX X (!i)).kind=3∧(ZX X (!i)).move=n
def TokP (i:Bool) (n:Int) (p:Bool×Bs):Prop:=(p.1= !i∧(p.2=YT ⟨2,n,0,0,[]⟩∨p.2=YT ⟨3,n,0,0,[]⟩))∨(p.1=i∧p.2=YT ⟨4,n,0,0,[]⟩)
def Tok (X:TwD) (i:Bool) (n:Int):Prop:= ∃p∈X.fl,TokP i n p
section
variable {X Y:TwD} {t n:Int} {i j:Bool} {p:Bool×Bs} {rest:List (Bool×Bs)} {l:List Bs} {E:EnD}
theorem OR {fl:List (Bool×Bs)}:ZX {X with fl:=fl} i=ZX X i:= by cases i<;>rfl
theorem O0:(Yh X i l).cut=X.cut:=(K7).2.2
theorem Ot:(Vv X i E).cut=X.cut:= by cases i<;>rfl
theorem OB {i j:Bool}:ZX (Vv X i E) j= if j=i then E else ZX X j:= by cases i<;> cases j<;>rfl
theorem OH {s:Bs} (h:p∈X.fl):p∈(HO X i s).fl:= by
  unfold HO;split
  · exact h
  · exact List.mem_append_left _ h
theorem Ok: ∀{l:List Bs} {X:TwD},p∈X.fl→p∈(Yh X i l).fl
  | [],_,h=>h
  | s::l,X,h=>Ok (l:=l) (X:=HO X i s) (OH h)
theorem Oe (h:X.fl=p::rest):Jb X 0=Yh (Vv {X with fl:=rest} p.1 (ZK (ZX X p.1) p.2).1) p.1 (ZK (ZX X p.1) p.2).2:= by
  have h0:(Ze 0 X.fl.length).toNat=0:= by
    unfold Ze;split
    · rfl
    · rw[Int.zero_emod];rfl
  unfold Jb Dd
  rw[h0,h];rfl
theorem Og (h:X.fl=p::rest):ZX (Jb X 0) j= if j=p.1 then(ZK (ZX X p.1) p.2).1 else ZX X j:= by
  rw[Oe h,DT,OB]
  split
  · rw[OR]
  · exact OR
theorem PhQ.arrive (h:PhQ X t) (hf:X.fl≠[]):PhQ (Jb X 0) t:= by
  obtain⟨p,rest,hl⟩:=List.exists_cons_of_ne_nil hf
  have hq:=OS (b:=p.2) (h.q p.1) (h.n p.1)
  refine⟨PD h.inv,h.w.arrive 0, fun j=> ?_, fun j=> ?_, ?_,h.tb⟩
  · rw[Og hl];split
    · exact hq.1
    · exact h.q j
  · rw[Og hl];split
    · exact hq.2
    · exact h.n j
  · rw[Oe hl,O0,Ot]; exact h.cut
theorem On:ZX (tickT X i) j= if j=i then(Z4 (ZX X i)).1 else ZX X j:= by unfold tickT; rw[DT,OB]
theorem PhQ.tick (h:PhQ X t) (i:Bool):PhQ (tickT X i) t:= by
  refine⟨h.inv.said (Y:=X) (fun _ q=>q) Qa fun _ h2 h3=>SZ h2 h3,(h.w.put (h.w.at_ i).tick).send (h.w.at_ i).tick_out, fun j=> ?_, fun j=> ?_, ?_,h.tb⟩
  · rw[On];split
    · exact(h.q i).samE tick_samE
    · exact h.q j
  · rw[On];split
    · rw[tick_samE.a]; exact h.n i
    · exact h.n j
  · unfold tickT; rw[O0,Ot]; exact h.cut
theorem PoN.tick (h:PoN X i) (j:Bool):PoN (tickT X j) i:= by
  unfold PoN at *
  rw[On];split
  · rename_i e; subst e; rw[tick_samE.k]; exact h
  · exact h
theorem PoN.arrive (h:PhQ X t) (hp:PoN X i) (hf:X.fl≠[]):PoN (Jb X 0) i:= by
  obtain⟨p,rest,hl⟩:=List.exists_cons_of_ne_nil hf
  unfold PoN at *
  rw[Og hl];split
  · rename_i e; subst e
    rcases O5 (b:=p.2) (h.q p.1) (h.n p.1)with q | ⟨q,_⟩ | ⟨q,_⟩ | ⟨q,_⟩
    · rw[q.k]; exact hp
    · exact absurd hp q
    · omega
    · omega
  · exact hp
theorem OL (h:QE E) (ha:E.active=false) (hk:E.kind=2) (hm:E.move=n) (hn:0≤n∧n≤4611686018427387904):(ZK E (YT ⟨4,n,0,0,[]⟩)).1.kind=1:= by
  rw[Rj h.upE (by show(0:Int)≤4∧(4:Int)≤9;omega) hn ZS ZS (by simp),CT Qa]
  rcases O9 (m:=⟨4,n,0,0,[]⟩) h ha ⟨XG (by show(0:Int)≤4∧(4:Int)≤9;omega),hn,ZS,ZS, by simp⟩with⟨q,_⟩ | ⟨_,_,q⟩
  · exact absurd ⟨hk,hm.symm⟩ q
  · exact q.2.1
theorem OE (h:QE E) (hk:E.kind=3) (hm:E.move=n) (hn:0≤n∧n≤4611686018427387904) {b:Bs} (hb:b=YT ⟨2,n,0,0,[]⟩∨b=YT ⟨3,n,0,0,[]⟩):(ZK E b).2=[YT ⟨4,n,0,0,[]⟩]:= by
  rcases hb with e | e<;> subst e
  · rw[Rj h.upE (by show(0:Int)≤2∧(2:Int)≤9;omega) hn ZS ZS (by simp),CU Qa,O7 ⟨hk,hm.symm⟩]
    unfold Z3; rw[hm]
  · rw[Rj h.upE (by show(0:Int)≤3∧(3:Int)≤9;omega) hn ZS ZS (by simp),EH Qa,O7 ⟨hk,hm.symm⟩]
    unfold Z3; rw[hm]
theorem bool_ne {i j:Bool} (h:j≠i):j= !i:= by cases i<;> cases j<;>simp_all
theorem PoT.arrive (h:PhQ X t) (hp:PoT X i n) (hl:X.fl=p::rest):PoN (Jb X 0) i∨(PoT (Jb X 0) i n∧(Tok X i n→Tok (Jb X 0) i n)):= by
  obtain⟨S,S',e1,e2,e3,_,_⟩:=h.inv.at i
  rw[Bool.not_not]at e3
  obtain⟨k1,k2,k3,k4⟩:=hp
  have sI: ∀x,S x↔x=(3,n):= fun x=> by rw[Uy e1 (h.q (!i)).up,k3,k4]
  have sJ: ∀x,S' x↔x=(2,n):= fun x=> by rw[Uy e2 (h.q i).up,k1,k2]
  have hnn:0≤n∧X4 n:= by have :=(h.q i).rg; rw[k2]at this; exact this.2.2
  have hmem:p∈X.fl:= by rw[hl]; exact List.mem_cons_self
  have hnb:0≤n∧n≤4611686018427387904:= by have a:=h.inv.mv h.w i; have b:=h.tb; rw[k2]at a; exact⟨hnn.1, by omega⟩
  by_cases hi:p.1=i
  · -- the one that is ready hears
    have hin:Mo X.fl i (F7 p.2):=⟨p,hmem,hi,rfl⟩
    have hE:ZX (Jb X 0) i=(ZK (ZX X i) p.2).1:= by rw[Og hl,if_pos hi.symm,hi]
    have hO:ZX (Jb X 0) (!i)=ZX X (!i):= by rw[Og hl,if_neg (by rw[hi]; cases i<;> simp)]
    rcases O5 (b:=p.2) (h.q i) (h.n i)with q | ⟨_,q1,q2,_⟩ | ⟨_,_,_,q⟩ | ⟨_,q1,q2,_⟩
    · refine .inr ⟨⟨by rw[hE,q.k]; exact k1, by rw[hE,q.m]; exact k2, by rw[hO]; exact k3, by rw[hO]; exact k4⟩, ?_⟩
      rintro⟨r,hr,ht⟩
      rw[hl]at hr
      rcases List.mem_cons.1 hr with e | e
      · -- the token itself: it is taken
        subst e
        exfalso
        rcases ht with⟨a,_⟩ | ⟨_,b⟩
        · rw[hi]at a; cases i<;> cases a
        · have z:=OL (h.q i) (h.n i) k1 k2 hnb
          rw[←b,q.k,k1]at z; cases z
      · refine⟨r, ?_,ht⟩
        rw[Oe hl]; exact Ok (by rw[MQ]; exact e)
    · have :=e3.i.num _ hin _ ((sI _).2 Qa)
      have :(Xo p.2).move≤n:=this
      omega
    · left;unfold PoN; rw[hE]; exact q.2.1
    · have hm:F7 p.2=(5,n):= by unfold F7; rw[q1,q2,k2]
      rw[hm]at hin
      rcases(e3.i.no n hin).1 _ ((sI _).2 rfl)with z | z
      · have z:n<n:=z
        omega
      · cases z
  · -- the one that has given hears
    have hi2:p.1= !i:=bool_ne hi
    have hin:Mo X.fl (!i) (F7 p.2):=⟨p,hmem,hi2,rfl⟩
    have hE:ZX (Jb X 0) (!i)=(ZK (ZX X (!i)) p.2).1:= by rw[Og hl,if_pos hi2.symm,hi2]
    have hO:ZX (Jb X 0) i=ZX X i:= by rw[Og hl,if_neg (by rw[hi2]; cases i<;> simp)]
    rcases O5 (b:=p.2) (h.q (!i)) (h.n (!i))with q | ⟨_,q1,q2,_⟩ | ⟨q,_⟩ | ⟨q,_⟩
    · refine .inr ⟨⟨by rw[hO]; exact k1, by rw[hO]; exact k2, by rw[hE,q.k]; exact k3, by rw[hE,q.m]; exact k4⟩, ?_⟩
      rintro⟨r,hr,ht⟩
      rw[hl]at hr
      rcases List.mem_cons.1 hr with e | e
      · subst e
        rcases ht with⟨_,b⟩ | ⟨a,_⟩
        · have ho:=OE (h.q (!i)) k3 k4 hnb b
          refine⟨(i,YT ⟨4,n,0,0,[]⟩), ?_,.inr ⟨Qa,Qa⟩⟩
          rw[Oe hl,hi2,ho]
          have hroom: ¬(({X with fl:=rest}:TwD).cut=true∨500≤rest.length):= by
            rintro(z | z)
            · have z:X.cut=true:=z
              rw[h.cut]at z; cases z
            · have :=h.w.ln; rw[hl,List.length_cons]at this;omega
          show _∈(HO _ _ _).fl
          unfold HO
          rw[if_neg (by rw[Ot,MQ]; exact hroom)]
          show _∈(Vv {X with fl:=rest} (!i) _).fl++[(!(!i),_)]
          rw[Bool.not_not]; simp
        · rw[a]at hi2; cases i<;> cases hi2
      · refine⟨r, ?_,ht⟩
        rw[Oe hl]; exact Ok (by rw[MQ]; exact e)
    · have :=e3.j.num _ hin _ ((sJ _).2 Qa)
      have :(Xo p.2).move≤n:=this
      omega
    · omega
    · omega
theorem arr_wt (h:PhQ X t) (hl:X.fl=p::rest):Oh (Jb X 0).fl+1≤Oh X.fl:= by
  have h1:=Oo (i:=p.1) (l:=(ZK (ZX X p.1) p.2).2) (X:=Vv {X with fl:=rest} p.1 (ZK (ZX X p.1) p.2).1)
  have h2:=hear_wt (h.w.at_ p.1) p.2
  rw[MQ]at h1
  have h3:Oh X.fl=wt p.2+Oh rest:= by rw[hl];unfold Oh; simp
  rw[Oe hl,h3]
  have h1:Oh (Yh (Vv {X with fl:=rest} p.1 (ZK (ZX X p.1) p.2).1) p.1 (ZK (ZX X p.1) p.2).2).fl≤Oh rest+((ZK (ZX X p.1) p.2).2.map wt).sum:=h1
  omega
theorem Om: ∀(k:Nat) {X:TwD},PhQ X t→PhQ (Of k X) t∧((Of k X).fl=[]∨Oh (Of k X).fl+k≤Oh X.fl)∧(PoN X i→PoN (Of k X) i)∧(PoT X i n→PoN (Of k X) i∨(PoT (Of k X) i n∧(Tok X i n→Tok (Of k X) i n)))
  | 0,X,h=>⟨h,.inr (Nat.le_refl _),id, fun q=> .inr ⟨q,id⟩⟩
  | k+1,X,h=> by
    unfold Of
    by_cases hf:X.fl=[]
    · rw[if_pos hf]; exact⟨h,.inl hf,id, fun q=> .inr ⟨q,id⟩⟩
    · rw[if_neg hf]
      obtain⟨p,rest,hl⟩:=List.exists_cons_of_ne_nil hf
      obtain⟨a,b,c,d⟩:=Om k (h.arrive hf)
      have hw:=arr_wt h hl
      refine⟨a,b.imp id fun q=> by omega, fun q=>c (q.arrive h hf), fun q=> ?_⟩
      rcases q.arrive h hl with r | ⟨r,s⟩
      · exact .inl (c r)
      · exact(d r).imp id fun ⟨u,v⟩=>⟨u, fun w=>v (s w)⟩
theorem PhQ.flow (h:PhQ X t):PhQ (Od X) t:=(Om (i:=false) (n:=0) 400 ((h.tick false).tick true)).1
theorem PoN.flow (h:PhQ X t) (hp:PoN X i):PoN (Od X) i:=(Om (i:=i) (n:=0) 400 ((h.tick false).tick true)).2.2.1 ((hp.tick false).tick true)
theorem Oz (he:Z4 (ZX X i)=(ZX X i,[])):tickT X i=X:= by
  unfold tickT; rw[he]
  show Vv X i (ZX X i)=X
  exact O1
theorem OD (h:QE E) (hk:E.kind=2) (hm:E.move=n): ∃s,Z4 E=(E,[s])∧(s=YT ⟨2,n,0,0,[]⟩∨s=YT ⟨3,n,0,0,[]⟩):= by
  have e: ∀k:Int,Z3 E k 0 0 []=YT ⟨k,n,0,0,[]⟩:= fun k=> by unfold Z3; rw[hm]
  by_cases q: ∃o,E.off=some o∧o.move=E.move
  · obtain⟨o,q1,q2⟩:=q
    exact⟨_,LA h.upE hk q1 q2,.inl (e 2)⟩
  · exact⟨_,VL h.upE hk (fun o ho hmo=>q ⟨o,ho,hmo⟩),.inr (e 3)⟩
theorem PoT.one (h:PhQ X t) (hp:PoT X i n): ∃s,tickT X i=Yh X i [s]∧(s=YT ⟨2,n,0,0,[]⟩∨s=YT ⟨3,n,0,0,[]⟩):= by
  obtain⟨s,e1,e2⟩:=OD (h.q i) hp.1 hp.2.1
  refine⟨s, ?_,e2⟩
  unfold tickT; rw[e1,O1]
theorem PoT.ticks (h:PhQ X t) (hp:PoT X i n):PoT (tickT (tickT X false) true) i n∧Oh (tickT (tickT X false) true).fl≤Oh X.fl+2∧(Oh X.fl<500→Tok (tickT (tickT X false) true) i n):= by
  obtain⟨s,hs,hm⟩:=hp.one h
  have hno:Z4 (ZX X (!i))=(ZX X (!i),[]):=Hk (h.q (!i)).upE (by have :=hp.2.2.1;omega) (.inl (by have :=hp.2.2.1;omega))
  have key:tickT (tickT X false) true=Yh X i [s]:= by
    cases i with
    | false=>
      rw[hs]
      exact Oz (by rw[DT]; exact hno)
    | true=>
      rw[Oz (i:=false) hno]; exact hs
  rw[key]
  have hnI:=(h.q i).rg
  rw[hp.2.1]at hnI
  have hw:wt s=2:= by
    rcases hm with e | e
    · rw[e,O4 (XG (by omega)) hnI.2.2.2];rfl
    · rw[e,O4 (XG (by omega)) hnI.2.2.2];rfl
  refine⟨⟨by rw[DT]; exact hp.1, by rw[DT]; exact hp.2.1, by rw[DT]; exact hp.2.2.1, by rw[DT]; exact hp.2.2.2⟩, ?_, fun hlt=> ?_⟩
  · have :=Oo (X:=X) (i:=i) (l:=[s])
    simp [hw]at this;omega
  · have hln:=(ON X.fl).1
    refine⟨(!i,s), ?_,.inl ⟨Qa,hm⟩⟩
    show _∈(HO X i s).fl
    unfold HO
    rw[if_neg (by rintro(z | z);(rw[h.cut]at z; cases z);omega)]
    simp
theorem PoT.flow (h:PhQ X t) (hp:PoT X i n):PoN (Od X) i∨(PoT (Od X) i n∧398≤Oh X.fl∧(Oh (Od X).fl+398≤Oh X.fl∨Oh (Od X).fl=0)):= by
  obtain⟨a1,a2,a3⟩:=hp.ticks h
  obtain⟨b1,b2,_,b4⟩:=Om (i:=i) (n:=n) 400 ((h.tick false).tick true)
  rcases b4 a1 with q | ⟨q,r⟩
  · exact .inl q
  · by_cases hw:398≤Oh X.fl
    · refine .inr ⟨q,hw, ?_⟩
      rcases b2 with z | z
      · right;unfold Od; rw[z];rfl
      · left;unfold Od;omega
    · exfalso
      obtain⟨p,hp2,_⟩:=r (a3 (by omega))
      rcases b2 with z | z
      · rw[z]at hp2; cases hp2
      · omega
def AZ:Nat→TwD→TwD
  | 0,X=>X
  | k+1,X=>Od (AZ k X)
theorem OM (k:Nat):AZ (k+1) X=Od (AZ k X):=rfl
theorem AX (h:PhQ X t): ∀k,PhQ (AZ k X) t
  | 0=>h
  | k+1=>(AX h k).flow
theorem OA (h:PhQ X t) (hp:PoN X i): ∀k,PoN (AZ k X) i
  | 0=>hp
  | k+1=>(OA h hp k).flow (AX h k)
theorem ar398 {u v k:Nat} (h:v+398*k≤1500) (g:u+398≤v):u+398*(k+1)≤1500:= by rw[Nat.mul_succ];omega
theorem Ou (h:PhQ X t) (hp:PoT X i n): ∀k,PoN (AZ k X) i∨(PoT (AZ k X) i n∧Oh (AZ k X).fl+398*k≤1500∨(PoT (AZ k X) i n∧Oh (AZ k X).fl=0))
  | 0=> .inr (.inl ⟨hp, by have :=(ON X.fl).2; have :=h.w.ln; show Oh X.fl+398*0≤1500;omega⟩)
  | k+1=> by
    rw[OM]
    rcases Ou h hp k with q | ⟨q,r⟩ | ⟨q,r⟩
    · exact .inl (q.flow (AX h k))
    · rcases q.flow (AX h k)with u | ⟨u,v,w | w⟩
      · exact .inl u
      · exact .inr (.inl ⟨u,(ar398 r w)⟩)
      · exact .inr (.inr ⟨u,w⟩)
    · rcases q.flow (AX h k)with u | ⟨_,v,_⟩
      · exact .inl u
      · omega
theorem OG (h:PhQ X t) (hp:PoN X i∨ ∃n,PoT X i n):PoN (AZ 6 X) i:= by
  rcases hp with q | ⟨n,q⟩
  · exact OA h q 6
  · rcases Ou h q 6 with u | ⟨_,r⟩ | ⟨v,r⟩
    · exact u
    · omega
    · -- nothing is under way any more: one round before, it had been taken
      exfalso
      rcases Ou h q 5 with u | ⟨u,r5⟩ | ⟨u,r5⟩
      · have :=u.flow (AX h 5)
        have z:PoN (AZ 6 X) i:=this
        unfold PoN at z
        have :=v.1
        omega
      · omega
      · rcases u.flow (AX h 5)with u2 | ⟨_,v2,_⟩
        · have z:PoN (AZ 6 X) i:=u2
          unfold PoN at z
          have :=v.1
          omega
        · omega
end
def AW (E:EnD):EnD:={E with D:=DB {E.D with lost:=max 0 0} 0 []}
def Oi (E:EnD):EnD:=AW (if upE (AW E)=true then AW E else(ZU (AW E)).2)
section
variable {E:EnD} {S:KM→Prop} {X:TwD} {t:Int} {i:Bool}
theorem Ov:Calm (AW E).D:=⟨by show max (0:Int) 0=0;omega, by show max (0:Int) 0≤0;omega⟩
theorem EI.clm (h:EI E S):EI (AW E) S:=(h.lose (max 0 0)).arm 0 []
theorem EW.clm (h:EW E):EW (AW E):=(h.disk {E.D with lost:=max 0 0}).disk (DB {E.D with lost:=max 0 0} 0 [])
theorem EI.single (h:EI E S) (hu:E.cell≠none):EI E (fun x=>x=(E.kind,E.move)):= by
  have :S= fun x=>x=(E.kind,E.move):= by
    funext x
    exact propext (Uy h hu x)
  rw[←this]; exact h
theorem OF (h:EI E S) (hc:Calm E.D) (hu:upE E=false):(ZU E).1=0∧(ZU E).2.cell≠none:= by
  have hcn:E.cell=none:= by unfold upE at hu; cases q:E.cell;rfl; rw[q]at hu; cases hu
  obtain⟨C,hk⟩:=h.dn hcn
  obtain⟨C2,hg⟩: ∃C2,Good (Xv E.D) 0 C2 (AO S):= by
    rcases hk with hg | hd
    · refine⟨C, ?_⟩
      have hd0:E.D.down=false:= by
        cases hq:E.D.down with
        | false=>rfl
        | true=> have :=hg.up; rw[ZM,hq]at this; cases this
      exact hg.congr Qa (fun _ hp _=>hp) hd0.symm
    · obtain⟨_,s,v,_,_,_,b,_⟩:=hd.reopen
      exact⟨_,b⟩
  obtain⟨hs1,hs2⟩:=hg.sync
  have e:Z0 (Xv E.D) 0=0:=(Calm.sync (D:=Xv E.D) (f:=0) ⟨hc.armed,hc.lost⟩ hg.up).1
  obtain⟨g3,f3⟩:=hs2 e false
  obtain⟨o1,o2⟩:=Rd g3.up g3.now
  rw[TW hcn e o1]
  exact⟨rfl, by intro q; cases q⟩
theorem INV.lose (h:INV X t) (i:Bool) (n:Int):INV (Vv X i {ZX X i with D:={(ZX X i).D with lost:=n}}) t:=h.mute fun _ h2 h3=>FD h2 h3 n
theorem INV.arm (h:INV X t) (i:Bool) (n:Int) (ks:List Int):INV (Vv X i {ZX X i with D:=DB (ZX X i).D n ks}) t:=h.mute fun _ h2 h3=>AM h2 h3 n ks
theorem Oq {E E':EnD}:Vv (Vv X i E) i E'=Vv X i E':= by cases i<;>rfl
theorem INV.clm (h:INV X t) (i:Bool):INV (Vv X i (AW (ZX X i))) t:= by
  have h1:=h.lose i (max 0 0)
  have h2:=h1.arm i 0 []
  rw[Oq,Nr]at h2
  exact h2
theorem INV.rvv (h:INV X t) (hX:XW X) (i:Bool):INV (Vv X i (Oi (ZX X i))) t∧XW (Vv X i (Oi (ZX X i)))∧QE (Oi (ZX X i))∧(upE (AW (ZX X i))=false→(ZU (AW (ZX X i))).1=0):= by
  obtain⟨S,S',e1,e2,_,_,_⟩:=h.at i
  have h1:=h.clm i
  have hw1:=(hX.at_ i).clm
  have key: ∀{E0:EnD},INV (Vv X i E0) t→EW E0→E0.cell≠none→INV (Vv X i (AW E0)) t∧XW (Vv X i (AW E0))∧QE (AW E0):= fun {E0} a b c=> by
    have a2:=a.clm i
    rw[Oq,Nr]at a2
    refine⟨a2,hX.put b.clm, ?_⟩
    obtain⟨_,T,_,e4,_,_,_⟩:=a2.at i
    rw[Nr]at e4
    exact⟨e4.single c,c,Ov⟩
  cases hu:upE (AW (ZX X i))with
  | true=>
    have e:Oi (ZX X i)=AW (AW (ZX X i)):= by unfold Oi; rw[if_pos hu]
    rw[e]
    obtain⟨a,b,c⟩:=key h1 hw1 (KT (by rw[hu];decide))
    exact⟨a,b,c, fun q=> by cases q⟩
  | false=>
    have e:Oi (ZX X i)=AW (ZU (AW (ZX X i))).2:= by unfold Oi; rw[if_neg (by rw[hu];decide)]
    obtain⟨s1,s2⟩:=OF e2.clm Ov hu
    have h2:INV (Vv X i (ZU (AW (ZX X i))).2) t:= by
      have h3:=h1.mute (i:=i) (E:=(ZU (AW (ZX X i))).2) fun _ h2 h3=> by rw[Nr]at h2 h3; exact NO h2 h3
      rw[Oq]at h3; exact h3
    rw[e]
    obtain⟨a,b,c⟩:=key h2 hw1.start s2
    exact⟨a,b,c, fun _=>s1⟩
theorem INV.cancel (h:INV X t) (i:Bool):INV (Vv X i (Ja (ZX X i)).2) t:=h.mute fun _ h2 h3=>N0 h2 h3
theorem OC (h:QE E) (hW:EW E):QE (Ja E).2∧(Ja E).2.active=false∧(Ja E).2.kind=E.kind∧(Ja E).2.move=E.move:= by
  unfold Ja
  split
  · rename_i q
    refine⟨h, ?_,Qa,Qa⟩
    rcases q with q | q
    · cases ha:E.active with
      | false=>rfl
      | true=>
        have hk:=(hW.ac ha).1
        unfold Vh at q
        rw[hk]at q
        have :=h.upE
        cases hu:upE E with
        | false=> exact absurd hu this
        | true=> rw[hu]at q; cases q
    · cases ha:E.active
      · rfl
      · rw[ha]at q; cases q
  · exact⟨h.same Qa Qa Qa Qa (.inr Qa),Qa,Qa,Qa⟩
def Ob (X:TwD):TwD:=Vv X false (Oi X.a)
def OI (X:TwD):TwD:=Vv (Ob X) true (Oi (Ob X).b)
def Oc (X:TwD):TwD:={OI X with cut:=false}
def Oj (X:TwD):TwD:=Vv (Oc X) false (Ja (Oc X).a).2
def Oa (X:TwD):TwD:=Vv (Oj X) true (Ja (Oj X).b).2
theorem OQ (h:INV X t) (hX:XW X):INV (Ob X) t∧XW (Ob X)∧QE (Ob X).a∧(upE (AW X.a)=false→(ZU (AW X.a)).1=0):=h.rvv hX false
theorem OP (h:INV X t) (hX:XW X):INV (OI X) t∧XW (OI X)∧QE (OI X).a∧QE (OI X).b∧(upE (AW (Ob X).b)=false→(ZU (AW (Ob X).b)).1=0):= by
  obtain⟨a1,a2,a3,_⟩:=OQ h hX
  obtain⟨b1,b2,b3,b4⟩:=a1.rvv a2 true
  exact⟨b1,b2,a3,b3,b4⟩
theorem OO (h:INV X t) (hX:XW X):INV (Oc X) t∧XW (Oc X)∧QE (Oc X).a∧QE (Oc X).b:= by
  obtain⟨a1,a2,a3,a4,_⟩:=OP h hX
  exact⟨a1.less Qa Qa fun p hp=>hp,⟨a2.a,a2.b,a2.fl,a2.ln⟩,a3,a4⟩
theorem OZ (h:INV X t) (hX:XW X):INV (Oj X) t∧XW (Oj X)∧QE (Oj X).b∧QE (Oj X).a∧(Oj X).a.active=false∧(Oj X).a.kind=(Oc X).a.kind∧(Oj X).a.move=(Oc X).a.move:= by
  obtain⟨a1,a2,a3,a4⟩:=OO h hX
  obtain⟨c1,c2,c3,c4⟩:=OC a3 a2.a
  exact⟨a1.cancel false,a2.put (i:=false) (E:=(Ja (Oc X).a).2) a2.a.cancel,a4,c1,c2,c3,c4⟩
theorem revC_ok (h:INV X t) (hX:XW X) (ht:t≤1000):PhQ (Oa X) t∧ ∃i,Jf (Zg (Oc X).a) (Zg (Oc X).b)=(if i=true then 1 else 0)∧(PoN (Oa X) i∨ ∃n,PoT (Oa X) i n):= by
  obtain⟨a1,a2,a3,a4⟩:=OO h hX
  obtain⟨b1,b2,b3,b4,b5,b6,b7⟩:=OZ h hX
  obtain⟨c1,c2,c3,c4⟩:=OC b3 b2.b
  have hI:INV (Oa X) t:=b1.cancel true
  have hW:XW (Oa X):=b2.put (i:=true) (E:=(Ja (Oj X).b).2) b2.b.cancel
  have ka:(Oa X).a.kind=(Oc X).a.kind∧(Oa X).a.move=(Oc X).a.move:=⟨b6,b7⟩
  have kb:(Oa X).b.kind=(Oc X).b.kind∧(Oa X).b.move=(Oc X).b.move:=⟨c3,c4⟩
  refine⟨⟨hI,hW, fun i=> by cases i; exact b4; exact c1, fun i=> by cases i; exact b5; exact c2,rfl,ht⟩, ?_⟩
  have ho:=a1
  obtain⟨S,S',e1,e2,e3,_,_⟩:=ho
  have hx:=e3.owner e1.stored e2.stored
  rw[a3.stored,a4.stored]at hx⊢
  generalize hA:(Oc X).a=A at *
  generalize hB:(Oc X).b=B at *
  rcases hx with⟨⟨u,v,w⟩ | ⟨u,v,w⟩,_⟩ | ⟨⟨u,v,w⟩ | ⟨u,v,w⟩,_⟩
  · exact⟨false, by unfold Jf; rw[if_pos u];rfl,.inl (by unfold PoN; show(Oa X).a.kind=1; rw[ka.1]; exact u)⟩
  · dsimp only at u v w
    refine⟨false, by unfold Jf; rw[if_neg (by show ¬A.kind=1;omega),if_neg (by show ¬B.kind=1;omega),if_pos ⟨w,u,v⟩];rfl,.inr ⟨A.move, ?_⟩⟩
    exact⟨by show(Oa X).a.kind=2; rw[ka.1]; exact u, by show(Oa X).a.move=_; rw[ka.2], by show(Oa X).b.kind=3; rw[kb.1]; exact v, by show(Oa X).b.move=_; rw[kb.2]; exact w.symm⟩
  · dsimp only at u v w
    exact⟨true, by unfold Jf; rw[if_neg (by show ¬A.kind=1;omega),if_pos u];rfl,.inl (by unfold PoN; show(Oa X).b.kind=1; rw[kb.1]; exact u)⟩
  · dsimp only at u v w
    refine⟨true, by unfold Jf; rw[if_neg (by show ¬A.kind=1;omega),if_neg (by show ¬B.kind=1;omega),if_neg (by show ¬(A.move=B.move∧A.kind=2∧B.kind=3);omega),if_pos ⟨w.symm,u,v⟩];rfl,.inr ⟨B.move, ?_⟩⟩
    exact⟨by show(Oa X).b.kind=2; rw[kb.1]; exact u, by show(Oa X).b.move=_; rw[kb.2], by show(Oa X).a.kind=3; rw[ka.1]; exact v, by show(Oa X).a.move=_; rw[ka.2]; exact w.symm⟩
theorem end_ok (h:PhQ X t) (hp:PoN X i):(Zg (ZX X i)).1=1∧(Zg (ZX X (!i))).1≠1∧Jf (Zg X.a) (Zg X.b)=(if i=true then 1 else 0)∧ZZ (ZX X (!i))=false∧
    ((ZX X i).ses.isSome=true→ZZ (ZX X i)=true)∧ ∀s,Zb s=true→(ZX X i).ses=none→(Zw (ZX X i) s).1=0∧ZZ (Zw (ZX X i) s).2=true:= by
  have s1: ∀j,Zg (ZX X j)=((ZX X j).kind,(ZX X j).move):= fun j=>(h.q j).stored
  have h1:=inv_one h.inv
  have up:upE (ZX X i)=true:= by cases q:upE (ZX X i); exact absurd q (h.q i).upE;rfl
  have p1:(ZX X i).kind=1:=hp
  have c1:(Zg (ZX X i)).1=1:= by rw[s1]; exact hp
  have c2:(Zg (ZX X (!i))).1≠1:= by
    cases i with
    | false=> exact h1.1 c1
    | true=> exact fun q=>h1.1 q c1
  have hr2:ZZ (ZX X (!i))=false:= by
    rw[s1]at c2
    have c2:(ZX X (!i)).kind≠1:=c2
    unfold ZZ Vh
    simp [c2]
  refine⟨c1,c2, ?_,hr2, fun hs=> ?_, fun s hs hn=> ?_⟩
  · cases i with
    | false=>unfold Jf; rw[if_pos (show(Zg X.a).1=1 from c1)];rfl
    | true=>unfold Jf; rw[if_neg (show ¬(Zg X.a).1=1 from c2),if_pos (show(Zg X.b).1=1 from c1)];rfl
  · have hf:(ZX X i).frozen=false:= by
      cases q:(ZX X i).frozen with
      | false=>rfl
      | true=>
        rcases(h.w.at_ i).fz p1 q with z | z
        · rw[h.n i]at z; cases z
        · rw[z]at hs; cases hs
    unfold ZZ Vh
    rw[up,p1,hs,hf];rfl
  · have hnk: ¬((ZX X i).kind=0∧(ZX X i).move=0):= by omega
    have hb:Zw (ZX X i) s=(0,{ZX X i with ses:=some (Y9 s),active:=false,frozen:=false,told:=true}):= by
      unfold Zw
      rw[if_neg (by rw[up];decide),if_neg (by rw[hs];decide),if_neg (by rintro⟨_,q | q⟩; exact q p1; rw[hn]at q; cases q),if_neg hnk]
    rw[hb]
    refine⟨Qa, ?_⟩
    unfold ZZ Vh
    show(upE (ZX X i)&&decide ((ZX X i).kind=1)&&true&& !false)=true
    rw[up,p1];rfl
end
theorem tickT_f (X:TwD):tickT X false=Yh {X with a:=(Z4 X.a).1} false (Z4 X.a).2:=rfl
theorem tickT_t (X:TwD):tickT X true=Yh {X with b:=(Z4 X.b).1} true (Z4 X.b).2:=rfl
theorem XW.tickT {X:TwD} (h:XW X) (i:Bool):XW (tickT X i):=(h.put (h.at_ i).tick).send (h.at_ i).tick_out
theorem arrN_go {X:TwD} {k:Nat} (h:X.fl≠[]):Of (k+1) X=Of k (Jb X 0):= by rw[Of,if_neg h]
theorem Ic {X:TwD} {k:Nat} (h:X.fl=[]):Of k X=X:= by cases k with | zero=>rfl | succ k=> rw[Of,if_pos h]
theorem Ia {w:World} {x:Nat} {X:TwD} {F:Th} (hS:Sat w [Dv x X,F]) (hG:Ent F WireG) (hO:Ent F (Glob 0)) (hW:XW X):
    Calls prog 22 #[ptrV x 0] w (Ret fun v w'=>v= .tuple #[]∧Sat w' [Dv x (Od X),F]):= by
 obtain⟨eb,ecap,a,b,p,hS⟩:=HN hS
 refine Qy func22 Qa ntmps22 Qa ?_
 refine Qf (Qb (Qe Qa Qa (Qe Qa Qa (Ql Qa Qa (Qi Qa Wc Qa (Qr Qa Jx (by first | assumption | exact hS.cell 0 Qa Qa) Qa ?_))))))
 refine Wj RV 1 0 hS Qa Qa Qa (by first | rfl | omega) (show[a,b][0]? =some a from rfl) Ym Qa ?_
 intro bx1 capx1 hvx1
 refine W8 1 0 0 hS Qa hvx1 Qa Qa (show[a,b][0]? =some a from rfl) J5 Qa Qa (Q0 U1 Qa (Hb (hS.sp [2] Qa) (hG.starL 4 Qa) hW.a) Qa ?_)
 rintro _ w2 j2
 replace j2:=j2.jn Qa Qa
 have h1r:=j2.own_one 0 Qa
 have j3:=QW (X:={X with a:=(Z4 X.a).1}) (j2.pick [2,3,1,4,5,0,6] Qa)
 refine Q0 Yc Qa (Wv (i:=false) (j3.sp [0,1] Qa) (by have :=Hl X.a;omega)) Qa ?_
 rintro _ w4 ⟨rfl,j4⟩
 replace j4:=j4.jn Qa Qa
 refine Qh ?_
 rw[←tickT_f]at j4
 have hWY:=hW.tickT false
 generalize hY:tickT X false=Y at *
 refine Qd (Qf ?_)
 obtain⟨eb,ecap,a,b,p,j5⟩:=HN (j4.pick [0,1] rfl)
 refine Qb (Qe Qa Qa (Qe Qa Qa (Ql Qa Qa (Qi Qa Wc Qa (Qr Qa Jx (by first | assumption | exact j5.cell 0 Qa Qa) Qa ?_)))))
 refine Wj RV 1 1 j5 Qa Qa Qa (by first | rfl | omega) (show[a,b][1]? =some b from rfl) Ym Qa ?_
 intro bx6 capx6 hvx6
 refine W8 1 1 0 j5 Qa hvx6 Qa Qa (show[a,b][1]? =some b from rfl) J5 Qa Qa (Q0 U1 Qa (Hb (j5.sp [3] Qa) (hG.starL 4 Qa) hWY.b) Qa ?_)
 rintro _ w7 j7
 replace j7:=j7.jn Qa Qa
 have h1r:=j7.own_one 0 Qa
 have j8:=QW (X:={Y with b:=(Z4 Y.b).1}) (j7.pick [2,3,4,1,5,0,6] Qa)
 refine Q0 Yc Qa (Wv (i:=true) (j8.sp [0,1] Qa) (by have :=Hl Y.b;omega)) Qa ?_
 rintro _ w9 ⟨rfl,j9⟩
 replace j9:=j9.jn Qa Qa
 refine Qh ?_
 rw[←tickT_t]at j9
 have hWZ:=hWY.tickT true
 have hZ:Od X=Of 400 (tickT Y true):= by unfold Od; rw[hY]
 generalize tickT Y true=Z at *
 refine Qd (Qk [0] Qa (Qf (Qb (Qc Qa Qa (Qh (Qd (QK ?_)))))))
 refine XJ (fun K0 E0 W0=> ∃(n:Nat) (U:TwD),K0=400 -n∧E0=[(0,ptrV x 0),(2,intV (n:Int))]∧Sat W0 [Dv x U,F]∧(n≤400)∧(Of 400 Z=Of (400 -n) U)∧(XW U)) (L0:=[(0,_),(2,_)]) (400 -0) (Lr Qa Qa) ⟨0,Z,rfl,rfl,j9.pick [0,1] Qa, by omega,rfl,hWZ⟩ ?_
 rintro _ _ w10 ⟨n,U,rfl,rfl,j10,hn,hU,hWU⟩
 refine Qf (Qf (Qb (Qe Qa Qa (X5 Qa Qa Qa (Qe Qa Qa (Q4 23 Qa (fun h11=> ?_) (fun h11=> ?_)))))))
 ·refine Qj Qa Qa (QD h11) ?_
  obtain⟨eb,ecap,a,b,p,j12⟩:=HN (j10.pick [0,1] rfl)
  refine Qe Qa Qa (Qj Qa Qa (QD h11) (Ql Qa Qa (Qj Qa Qa (QD h11) (Qi Qa XA Qa (Qj Qa Qa (QD h11) (Qr Qa Xp (by first | assumption | exact j12.cell 0 Qa Qa) Qa ?_))))))
  refine Qj Qa Qa (QD h11) (Q0 Yd Qa (Z1 (j12.sp [4] Qa)) Qa ?_)
  rintro _ w13 ⟨rfl,j13⟩
  replace j13:=j13.jn Qa Qa
  refine Qj Qa Qa (QD h11) (Wr Qa Qa Qa (Q1 Qa (QD h11) Qa Qa (Qh (Qd (Qk [2,0,30] Qa (Qv Qa (fun h14=> ?_) (fun h14=> ?_)))))))
  ·have hne:U.fl≠[]:= by intro q; have q9:=h14; rw[q]at q9; simp at q9
   have j15:=QW (X:=U) (j13.pick [1,2,3,4,0,5] Qa)
   refine Qt (Qd (Qf (QK (Qb (Qe Qa Qa (Q0 Ax Qa (BU (j15.sp [0] Qa) (hG.starL 0 Qa) (hO.starL 0 Qa) hWU 0) Qa ?_))))))
   rintro _ w16 ⟨rfl,j16⟩
   replace j16:=j16.jn Qa Qa
   refine Qh (Qq (Qd (Qb (Qe Qa Qa (XC Qa Qa (by omega) (by omega) Qa ?_)))))
   exact Qc Qa Qa (Qh (Xj (L1:=[(0,_),(2,intV ((n+1:Nat):Int))]) (Lr Qa Qa) (k1:=400 -(n+1)) (by omega) ⟨n+1,_,rfl,rfl,j16.pick [0,1] Qa, by omega,(by rw[hU, show 400 -n=(400 -(n+1))+1 by omega,arrN_go hne]),hWU.arrive 0⟩))
  refine X6 (Q6 (Q6 (QR (Yl (.inl Qa) Qa ?_))))
  have j17:=QW (X:=U) (j13.pick [1,2,3,4,0,5] Qa)
  have hz:Of 400 Z=U:= by rw[hU]; exact Ic (List.eq_nil_of_length_eq_zero (by omega))
  exact⟨_,rfl,rfl, by rw[hZ,hz]; exact j17.pick [0,1] Qa⟩
 refine Qg Qa Qa (Qx h11) Qa (Qg Qa Qa (Qx h11) Qa (Qg Qa Qa (Qx h11) Qa (Qg Qa Qa (Qx h11) Qa (Qg Qa Qa (Qx h11) Qa (Qg Qa Qa (Qx h11) Qa (Q3 Qa (Qx h11) Qa Qa (Qh (Qd (Qk [2,0,30] Qa (QJ Qa (X6 (Q6 (Q6 (QR (Yl (.inl Qa) Qa ?_)))))))))))))))
 have hz:Of 400 Z=U:= by rw[hU, show 400 -n=0 by omega];rfl
 exact⟨_,rfl,rfl, by rw[hZ,hz]; exact j10.pick [0,1] Qa⟩
