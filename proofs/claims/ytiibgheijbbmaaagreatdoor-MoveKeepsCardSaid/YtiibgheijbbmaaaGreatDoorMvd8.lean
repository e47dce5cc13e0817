/- move: the other end hears the rest, plain -/
import Derived.Test.YtiibgheijbbmaaaGreatDoorMvd4
set_option linter.unusedVariables false
namespace Go.Proofs.YtiibgheijbbmaaaGreatDoor
open Go.RowKit M
section
variable {P J P' J' E:EnD} {s s':SeD} {g g':SsD} {c c':Int} {MP MJ MP' MJ' M:MsD→Prop} {m x:MsD} {o:OfD} {id:Int} {d:Bs} {l:AL PgD}
theorem KI.jTarget (h:KI P J g c MP MJ) (f:FX P J MP MJ):KI P (Xj J m).1 g c (Ad MP (Xj J m).2) MJ:= by
  unfold Xj
  split
  · have hg:QX (Zk J 4 0 0 [])=⟨4,J.move,0,0,[]⟩:=YA h.r ⟨by decide, by decide⟩ XR XR (by simp)
    exact h.sayJ (by rw[hg]; simp) (by rw[hg]; simp) (by rw[hg]; simp) (by rw[hg]; simp) (by rw[hg]; simp)
  · rw[if_pos (h.jk f)]; exact h.stayJ
theorem KI.jNo (h:KI P J g c MP MJ) (f:FX P J MP MJ) (hm:MJ m) (h5:m.kind=5):KI P (WI J m) g c (Ad MP []) MJ:= by
  refine KI.stayJ ?_
  unfold WI
  split
  · rename_i hc
    obtain⟨c1,c2⟩:=hc
    obtain⟨n1,D,C,n2,n3⟩:=h.r.note (k:=0) (m:=m.move) (by decide) (by rw[c2]; exact⟨h.r.rg.2.2.1,h.r.rg.2.2.2⟩)
    rw[if_neg (by rw[n1];decide),n2]
    dsimp only
    refine⟨h.q,n3.same Qa Qa Qa Qa (.inl Qa),h.op, fun o q=>(by cases q), ?_⟩
    rcases h.ki with⟨a1,s,a2,a3,a4,a5⟩ | ⟨a1,a2,a3,_⟩
    · refine .inl ⟨a1,s,a2,a3,a4.imp id fun q=>absurd q.kj (by omega), fun a=> ?_⟩
      have hs:=a5 a
      have hlt:m.move<P.move:= by
        rcases f.no m hm h5 with q | ⟨_,q⟩
        · exact q
        · have :=f.noa m hm h5 q a1; rw[a]at this; cases this
      refine⟨hs.mj, fun x hx=>⟨(hs.mp x hx).no8, fun r1 r2=> ?_⟩, fun o q=>(by cases q), fun q=> by cases q⟩
      have :=((hs.mp x hx).rd r1 r2).2
      omega
    · rcases f.no m hm h5 with q | ⟨q,_⟩<;>omega
  · exact h
theorem KI.jWant (h:KI P J g c MP MJ) (w:EW J):KI P J g c (Ad MP (Z8 J m)) MJ:= by
  unfold Z8
  split
  · exact h.stayJ
  rename_i hq
  have hk:J.kind=3∧m.move=J.move:= by omega
  rcases h.ki with⟨a1,s,a2,a3,a4,a5⟩ | ⟨a1,a2,_⟩
  · cases hj:J.ses with
    | none=>
      dsimp only
      have hg:QX (Zk J 7 0 0 [])=⟨7,J.move,0,0,[]⟩:=YA h.r ⟨by decide, by decide⟩ XR XR (by simp)
      have hn:Nm s:=a4.resolve_right fun q=> by obtain⟨u,u1,_⟩:=q.ses; rw[hj]at u1; cases u1
      exact⟨h.q,h.r,h.op,h.oj,.inl ⟨a1,s,a2,a3,.inl hn, fun a=>(a5 a).same Qa id Qa Qa Qa (fun x q=>(YG q).imp id fun e=> by rw[e,hg]; exact Vo (by simp) (by simp) (by simp)) fun _ q=> .inl q⟩⟩
    | some u=>
      dsimp only
      cases hp:QT u.pages m.a with
      | none=> exact h.stayJ
      | some p=>
        dsimp only
        obtain⟨k1,k2,k3,k4⟩:=(w.ses u hj).pg _ (Y1 hp)
        have hg:QX (Zk J 0 m.a p.ver p.data)=⟨0,J.move,m.a,p.ver,p.data⟩:=YA h.r ⟨by decide, by decide⟩ k1 k2 (by have :p.data.length≤64:=k4;omega)
        refine⟨h.q,h.r,h.op,h.oj,.inl ⟨a1,s,a2,a3,a4.imp id fun q=> ?_, fun a=>(a5 a).same Qa id Qa Qa Qa (fun x q=>(YG q).imp id fun e=> by rw[e,hg]; exact Vo (by simp) (by simp) (by simp)) fun _ q=> .inl q⟩⟩
        refine⟨q.kj,q.mv,q.ac,q.ses, fun x hx e1 e2 p' hp' e3 e4=> ?_,q.no8, fun x hx e1=> ?_⟩
        · rcases YG hx with hx | hx
          · exact q.pk x hx e1 e2 p' hp' e3 e4
          · rw[hx,hg]at hp' e4⊢
            obtain⟨u',u1,u2⟩:=q.ses
            rw[hj]at u1; cases u1
            obtain⟨p2,p3,_,p4,p5⟩:=u2 m.a p' hp' e3
            rw[hp]at p3; cases p3
            exact p5
        · rcases YG hx with hx | hx
          · exact q.no7 x hx e1
          · rw[hx,hg]at e1; exact absurd e1 (by simp)
  · omega
theorem KI.jDone (h:KI P J g c MP MJ) (f:FX P J MP MJ) (hm:MJ m) (h8:m.kind=8):KI P (ZJ J m).1 g c (Ad MP (ZJ J m).2) MJ:= by
  unfold ZJ
  split
  · exact h.stayJ
  rename_i hq
  have hk:J.kind=3∧m.move=J.move:= by omega
  have hg:QX (Zk J 9 0 0 [])=⟨9,J.move,0,0,[]⟩:=YA h.r ⟨by decide, by decide⟩ XR XR (by simp)
  refine⟨h.q,h.r.same Qa Qa Qa Qa (.inl Qa),h.op,h.oj, ?_⟩
  rcases h.ki with⟨a1,s,a2,a3,a4,a5⟩ | ⟨a1,a2,_⟩
  · have hn:Nm s:=a4.resolve_right fun q=>q.no8 m hm h8 (by rw[hk.2]; exact q.mv)
    exact .inl ⟨a1,s,a2,a3,.inl hn, fun a=>(a5 a).same Qa id Qa Qa Qa (fun x q=>(YG q).imp id fun e=> by rw[e,hg]; exact Vo (by simp) (by simp) (by simp)) fun _ q=> .inl q⟩
  · omega
theorem GJ:QT (Ym l) id=(QT l id).map fun p=>⟨[],p.ver,0,true⟩:= by
  unfold Ym; rw[Ut (f:= fun e:Int×PgD=>(⟨[],e.2.ver,0,true⟩:PgD))]
def CX (o:OfD) (id:Int) (p:PgD):PgD:= match QT o.pages id with
  | none=>p
  | some g=> if g.ver=p.ver∧g.data.length=64 then⟨g.data,p.ver,0,false⟩else p
theorem G6:QT (Uu o l) id=(QT l id).map (CX o id):= by
  have :Uu o l=l.map fun e=>(e.1,CX o e.1 e.2):=rfl
  rw[this,Ut (f:= fun e=>CX o e.1 e.2)]
theorem Ic (h:Srt l):Srt (Uu o (Ym l)):= by
  have :Uu o (Ym l)=(Ym l).map fun e=>(e.1,CX o e.1 e.2):=rfl
  rw[this]
  exact Srt.map (f:= fun e=>CX o e.1 e.2) (show Srt (Ym l) from Srt.map (f:= fun e:Int×PgD=>(⟨[],e.2.ver,0,true⟩:PgD)) h)
theorem MG {p:PgD}:(CX o id p).ver=p.ver:= by
  unfold CX
  split
  · rfl
  · split<;>rfl
theorem CF: ∀{l:AL PgD} {a:Int},a≤l.foldl (fun c e=>max c e.2.ver) a∧(∀e∈l,e.2.ver≤l.foldl (fun c e=>max c e.2.ver) a)
  | [],a=>⟨Int.le_refl _, fun e he=> by cases he⟩
  | f::l,a=> by
    obtain⟨h1,h2⟩:=CF (l:=l) (a:=max a f.2.ver)
    rw[List.foldl_cons]
    refine⟨by omega, fun e he=> ?_⟩
    rcases List.mem_cons.1 he with q | q
    · subst q;omega
    · exact h2 e q
theorem Ll {n:Int}: ∀{l:AL PgD} {a:Int},a≤n→(∀e∈l,e.2.ver≤n)→l.foldl (fun c e=>max c e.2.ver) a≤n
  | [],a,h,_=>h
  | f::l,a,h,hl=> by
    rw[List.foldl_cons]
    exact Ll (by have :=hl f List.mem_cons_self;omega) fun e he=>hl e (List.mem_cons_of_mem _ he)
theorem OwS.born (h:OwS s g c) (hn:Nm s) (ho:OfG P s o):OwS ⟨s.state,Ha (Ym s.pages),Uu o (Ym s.pages)⟩ g c:= by
  have hv: ∀e∈Ym s.pages,1≤e.2.ver∧e.2.ver≤s.count:= fun e he=> by
    obtain⟨f,hf,rfl⟩:=List.mem_map.1 he
    exact(h.pg f.1 f.2 (H1 h.srt hf)).2.2
  have hget: ∀id p,QT (Uu o (Ym s.pages)) id=some p→ ∃p0,QT s.pages id=some p0∧p=CX o id ⟨[],p0.ver,0,true⟩:= fun id p hp=> by
    rw[G6,GJ]at hp
    cases k:QT s.pages id with
    | none=> rw[k]at hp; cases hp
    | some p0=> rw[k]at hp; cases hp; exact⟨p0,rfl,rfl⟩
  refine⟨h.st,h.sl,Ic h.srt,h.gs, fun id=> ?_, fun id p hp hm=> ?_,⟨?_, ?_⟩, fun id p hp=> ?_⟩
  · rw[←h.ids id]
    show QT (Uu o (Ym s.pages)) id=none↔_
    rw[G6,GJ]; cases QT s.pages id<;> simp
  · obtain⟨p0,k,rfl⟩:=hget id p hp
    unfold CX at hm⊢
    cases q:QT o.pages id with
    | none=> rw[q]at hm; cases hm
    | some e=>
      rw[q]at hm
      dsimp only at hm⊢
      split at hm
      · rename_i hc
        rw[if_pos hc]
        rw[h.dat id p0 k (hn id p0 k)]
        exact congrArg some ((ho.pg id e q).2 p0 k hc.1.symm)
      · cases hm
  · exact CF.1
  · exact Int.le_trans (Ll (n:=s.count) h.cnt.1 fun e he=>(hv e he).2) h.cnt.2
  · obtain⟨p0,k,rfl⟩:=hget id p hp
    obtain⟨b1,b2,b3,b4⟩:=h.pg id p0 k
    rw[MG]
    exact⟨b1,b2,b3,CF.2 (id,⟨[],p0.ver,0,true⟩) (List.mem_map.2 ⟨(id,p0),Y1 k,Qa⟩)⟩
theorem OwS.parse (h:OwS s g c) (w:SeW s):WA (Xy s)=(some ⟨s.state,Ha (Ym s.pages),Ym s.pages⟩,true):= by
  refine Mt h.srt (fun e he=>(h.pg e.1 e.2 (H1 h.srt he)).1) (fun e he=> ?_) (by have :=h.sl;omega) (by have :=h.sl;omega) w.num
  obtain⟨b1,b2,b3,b4⟩:=h.pg e.1 e.2 (H1 h.srt he)
  exact⟨b2,b3,(w.pg e he).2.1⟩
theorem KI.jGiven (h:KI P J g c MP MJ) (f:FX P J MP MJ) (w:EW P) (hm:MJ m) (h4:m.kind=4) (hn:0≤m.move∧X5 m.move):KI P (X7 J m) g c MP MJ∨KI (X7 J m) P g c MJ MP:= by
  unfold X7
  split
  · exact .inl h
  rename_i hq
  have hk:J.kind=2∧m.move=J.move:= by omega
  obtain⟨n1,D,C,n2,n3⟩:=h.r.note (k:=1) (m:=m.move) (by decide) hn
  rw[if_neg (by rw[n1];decide)]
  right
  rcases h.ki with⟨a1,_⟩ | ⟨a1,a2,a3,s,a4,a5,a6,a7⟩
  · rcases f.gv m hm h4 with q | q | q<;>omega
  obtain⟨r1,o,r2,r3,r4⟩:=a7.rd hk.1 a3
  have ho:=a7.of o r2 r3
  rw[r2]
  dsimp only
  rw[if_neg (by omega),n2,r4,a5.parse (w.ses s a4)]
  dsimp only[Option.map]
  refine⟨(n3.act false).same Qa Qa Qa Qa (.inl Qa),h.q, fun o q=>(by cases q), fun o' q=> ?_, ?_⟩
  · have :=h.op o' q
    show o'.move≤m.move
    omega
  · refine .inl ⟨rfl,_,rfl,a5.born a6 ho,.inr ⟨a1, ?_,rfl,⟨s,a4, fun id p hp hms=> ?_⟩, fun x hx e1 e2 p hp e3 e4=> ?_, fun x hx e1=> ?_, fun x hx e1=> ?_⟩, fun q=> by cases q⟩
    · show P.move=m.move;omega
    · have hp:QT (Uu o (Ym s.pages)) id=some p:=hp
      rw[G6,GJ]at hp
      cases k:QT s.pages id with
      | none=> rw[k]at hp; cases hp
      | some p0=>
        rw[k]at hp; cases hp
        exact⟨p0,rfl,a6 id p0 k,(by rw[MG]),a5.dat id p0 k (a6 id p0 k)⟩
    · have hp:QT (Uu o (Ym s.pages)) x.a=some p:=hp
      have e2:x.move=m.move:=e2
      rw[G6,GJ]at hp
      cases k:QT s.pages x.a with
      | none=> rw[k]at hp; cases hp
      | some p0=>
        rw[k]at hp; cases hp
        rw[MG]at e4
        have hv:=(a7.mj x hx).pk e1 (by omega)
        rw[a5.dat x.a p0 k (a6 x.a p0 k)]
        exact congrArg some (hv.2 p0 k e4)
    · show x.move≠m.move
      have :=(a7.mp x hx).no8 e1
      omega
    · show x.move≠m.move
      have :=(a7.mj x hx).no7 e1
      omega
theorem KI.hearJ (h:KI P J g c MP MJ) (f:FX P J MP MJ) (w:EW P) (v:EW J) (hm:MJ m) (mw:MsW m) (hk:0≤m.kind∧m.kind≤9):KI P (XS J m).1 g c (Ad MP (XS J m).2) MJ∨KI (XS J m).1 P g c MJ (Ad MP (XS J m).2):= by
  have h1:=h.jk f
  unfold XS
  split
  · exact .inl (h.jPage f v hm mw (by assumption))
  split
  · exact .inl (h.jPart f v hm mw (by assumption))
  split
  · exact .inl (h.jTarget f)
  split
  · rename_i h4
    rcases h.jGiven f w hm h4 (M5 mw.mv)with q | q
    · exact .inl q.stayJ
    · exact .inr (q.less (Int.le_refl _) (fun _ r=>r) fun _ r=>FK r)
  split
  · exact .inl (h.jNo f hm (by assumption))
  split
  · exact .inl (h.jWant v)
  split
  · left
    show KI P (ZI J m) g c _ MJ
    unfold ZI; rw[if_neg (fun q=>h1 q.1)]; exact h.stayJ
  split
  · exact .inl (h.jDone f hm (by assumption))
  · left
    show KI P (Jo J m) g c _ MJ
    unfold Jo; rw[if_neg (fun q=>h1 q.1)]; exact h.stayJ
end
section
variable {P J P' J' E:EnD} {s s':SeD} {g g':SsD} {c c':Int} {MP MJ MP' MJ' M:MsD→Prop} {m x:MsD} {o:OfD} {id:Int} {d b:Bs} {l:AL PgD} {out:List Bs}
theorem Be: ∀(k:Nat) (l:AL PgD) (b:Bs),b∈(pushG E k l).2→ ∃e∈l,b=Zk E 0 e.1 e.2.ver e.2.data
  | k,[],b,h=> by rw[pushG.eq_def]at h; cases h
  | k,e::l,b,h=> by
    rw[pushG.eq_def]at h
    dsimp only at h
    split at h
    · obtain⟨f,h1,h2⟩:=Be k l b h
      exact⟨f,List.mem_cons_of_mem _ h1,h2⟩
    · cases k with
      | zero=> cases h
      | succ k=>
        rcases List.mem_cons.1 h with q | q
        · exact⟨e,List.mem_cons_self,q⟩
        · obtain⟨f,h1,h2⟩:=Be k l b q
          exact⟨f,List.mem_cons_of_mem _ h1,h2⟩
theorem TI (l:Bs) (n:Int): ∀(k:Nat) (nx:Int) (b:Bs),0≤nx∧nx<n→b∈(ZS E l n k nx).2→ ∃a,0≤a∧a<n∧b=Zk E 1 a n (pcS l a)
  | 0,nx,b,_,h=> by cases h
  | k+1,nx,b,hn,h=> by
    unfold ZS at h
    rcases List.mem_cons.1 h with q | q
    · exact⟨nx,hn.1,hn.2,q⟩
    · exact TI l n k _ b ⟨Int.emod_nonneg _ (by omega),Int.emod_lt_of_pos _ (by omega)⟩ q
theorem pcS_len (l:Bs) (a:Int):(pcS l a).length≤200:= by unfold pcS; rw[List.length_take];omega
theorem MsJ.ses (h:MsJ P s m) (hm:Sm s.pages l) (hl:Xy {s with pages:=l}=Xy s):MsJ P {s with pages:=l} m:=⟨fun a b=>(h.pk a b).sm hm, fun a b=> by rw[hl]; exact h.pt a b,h.no7⟩
theorem SRC.ses (h:SRC P J s MP MJ) (hm:Sm s.pages l) (hl:Xy {s with pages:=l}=Xy s):SRC P J {s with pages:=l} MP MJ:=
  ⟨fun m q=>(h.mj m q).ses hm hl,h.mp, fun o q r=>let k:=h.of o q r;⟨fun id p z=>(k.pg id p z).sm hm, fun z=> by rw[hl]; exact k.pt z, fun a d z=> by rw[hl]; exact k.pc a d z⟩, fun a b=> by
    obtain⟨q1,o,q2,q3,q4⟩:=h.rd a b
    exact⟨q1,o,q2,q3, by rw[hl]; exact q4⟩⟩
theorem KI.tickP (h:KI P J g c MP MJ) (w:EW P):KI (XX P).1 J g c MP (Ad MJ (XX P).2):= by
  unfold XX
  rw[if_neg h.q.upE]
  rcases h.ki with⟨a1,s,a2,a3,a4,a5⟩ | ⟨a1,a2,a3,_⟩
  · rw[if_neg (by omega),if_neg (fun q=>q a1),a2]
    dsimp only
    have hW:=w.ses s a2
    have hin: ∀e∈s.pages,X5 e.1∧X5 e.2.ver∧e.2.data.length≤64:= fun e he=>⟨(hW.pg e he).1,(hW.pg e he).2.1,(hW.pg e he).2.2.2⟩
    split
    · rename_i hact
      have hn:Nm s:=a4.resolve_right fun q=> by have :=q.ac; rw[hact]at this; cases this
      have hsim:=WP P s.pages 4
      have hsm:=hsim.sm
      have hl:=YN hsim
      have hsrt:Srt (pushG P 4 s.pages).1:= by unfold Srt; rw[hsim.ids]; exact a3.srt
      have hs:=(a5 hact).ses hsm hl
      have hpush: ∀b∈(pushG P 4 s.pages).2,MsJ P {s with pages:=(pushG P 4 s.pages).1} (QX b):= fun b hb=> by
        obtain⟨e,he,rfl⟩:=Be 4 s.pages b hb
        obtain⟨k1,k2,k3⟩:=hin e he
        rw[YA h.q ⟨by decide, by decide⟩ k1 k2 (by omega)]
        have he2:=H1 a3.srt he
        exact⟨fun _ _=>Vr.sm ⟨(a3.pg e.1 e.2 he2).2.2.2, fun p' hp' _=> by rw[he2]at hp'; cases hp';rfl⟩ hsm, fun q=>absurd q (by simp), fun q=>absurd q (by simp)⟩
      split
      · refine⟨h.q.same Qa Qa Qa Qa (.inl Qa),h.r,h.op,h.oj,.inl ⟨a1,_,rfl,a3.sm hsrt hsm,.inl (hn.sm hsm), fun _=>hs.same Qa id Qa Qa Qa (fun _ q=> .inl q) fun x q=> ?_⟩⟩
        rcases q with q | ⟨b,hb,rfl⟩
        · exact .inl q
        · exact .inr (hpush b hb)
      · rename_i hfr
        have hfr:P.frozen=true:= by simpa using hfr
        obtain⟨x1,x2,_⟩:=w.nx hact s a2
        refine⟨h.q.same Qa Qa Qa Qa (.inl Qa),h.r,h.op,h.oj,.inl ⟨a1,_,rfl,a3.sm hsrt hsm,.inl (hn.sm hsm), fun _=>hs.same Qa id Qa Qa Qa (fun _ q=> .inl q) fun x q=> ?_⟩⟩
        rcases q with q | ⟨b,hb,rfl⟩
        · exact .inl q
        · right
          rcases List.mem_append.1 hb with r | r
          · exact hpush b r
          · rw[hl]at r
            obtain⟨a,e1,e2,rfl⟩:=TI (Xy s) (XZ (Xy s)) _ P.next b ⟨x1,x2⟩ r
            have hnp:XZ (Xy s)≤9000000:= by have :=KH hW;unfold XZ;omega
            rw[YA h.q ⟨by decide, by decide⟩ (by unfold X5;omega) (by unfold X5;omega) (by have :=pcS_len (Xy s) a;omega)]
            exact⟨fun q=>absurd q (by simp), fun _ _=>⟨hfr, by rw[hl], by rw[hl]⟩, fun q=>absurd q (by simp)⟩
    · rename_i hact
      refine⟨h.q,h.r,h.op,h.oj,.inl ⟨a1,s,a2,a3, ?_, fun q=>absurd q hact⟩⟩
      rcases a4 with a4 | a4
      · exact .inl a4
      · by_cases hz:YZ s.pages=[]
        · exact .inl ((Nm.of_miss a3.srt).1 hz)
        · refine .inr (a4.same Qa a4.ac Qa Qa Qa (fun _ q=> .inl q) fun x q=> ?_)
          rcases q with q | ⟨b,hb,rfl⟩
          · exact .inl q
          · right
            rw[if_neg (fun q=>hz q.1),List.append_nil]at hb
            obtain⟨i,hi,rfl⟩:=List.mem_map.1 hb
            have hi:=List.mem_of_mem_take hi
            unfold YZ at hi
            obtain⟨e,he,rfl⟩:=List.mem_map.1 hi
            rw[YA h.q ⟨by decide, by decide⟩ (hin e (List.mem_filter.1 he).1).1 XR (by simp)]
            simp
  · rw[if_neg (by omega),if_pos (by omega)]; exact h.stayP
theorem KI.tickJ (h:KI P J g c MP MJ) (f:FX P J MP MJ):KI P (XX J).1 g c (Ad MP (XX J).2) MJ:= by
  unfold XX
  rw[if_neg h.r.upE]
  split
  · rename_i hk
    generalize hkk:(if(match J.off with | some o=>decide (o.move=J.move) | none=>false)=true then(2:Int)else 3)=kk
    have hkk:kk=2∨kk=3:= by
      have : ∀z:Bool,(if z=true then(2:Int)else 3)=kk→kk=2∨kk=3:= fun z q=> by cases z<;> simp at q<;>omega
      exact this _ hkk
    have hg:QX (Zk J kk 0 0 [])=⟨kk,J.move,0,0,[]⟩:=YA h.r (by omega) XR XR (by simp)
    have hp: ∀m,Ad MP [Zk J kk 0 0 []] m→MP m∨MsP P J m:= fun m q=>(YG q).imp id fun e=> by
      rw[e,hg]
      exact⟨fun q=>absurd q (by show ¬kk=8;omega), fun _ q=>⟨hk,q⟩⟩
    refine⟨h.q,h.r,h.op,h.oj,h.ki.imp ?_ ?_⟩
    · rintro⟨a1,s,a2,a3,a4,a5⟩
      exact⟨a1,s,a2,a3,a4.imp id fun q=>absurd q.kj (by omega), fun a=>(a5 a).same Qa id Qa Qa Qa hp fun _ q=> .inl q⟩
    · rintro⟨a1,a2,a3,s,a4,a5,a6,a7⟩
      exact⟨a1,a2,a3,s,a4,a5,a6,a7.same Qa id Qa Qa Qa hp fun _ q=> .inl q⟩
  · rw[if_pos (h.jk f)]; exact h.stayJ
theorem KI.runs (h:KI P J g c MP MJ) (hr: ¬ZN P=false): ∃s,P.kind=1∧P.frozen=false∧P.ses=some s∧OwS s g c∧(Nm s∨FET P J s g MP MJ)∧(P.active=true→SRC P J s MP MJ):= by
  obtain⟨_,r2,r3,_⟩:=Yb hr
  rcases h.ki with⟨a1,s,a2,a3,a4,a5⟩ | ⟨a1,_⟩
  · exact⟨s,a1,r3,a2,a3,a4,a5⟩
  · omega
theorem KI.give (h:KI P J g c MP MJ) (f:FX P J MP MJ) (hmv:X5 (P.move+1)):KI (J6 P).2 J g c MP MJ:= by
  unfold J6
  split
  · exact h
  rename_i hq
  obtain⟨s,r1,r2,r3,r4,r5,_⟩:=h.runs (fun q=>hq (.inl q))
  obtain⟨n1,D,C,n2,n3⟩:=h.q.note (k:=1) (m:=P.move+1) (by decide) ⟨by have :=h.q.rg.2.2.1;omega,hmv⟩
  rw[if_neg (by rw[n1];decide),n2]
  dsimp only
  rw[r3]
  have hl:=f.leg r1
  have hn:Nm s:=(Nm.of_miss r4.srt).1 (Decidable.byContradiction fun q=>hq (.inr (.inl (by unfold QP; rw[r3]; exact q))))
  have hsm:Sm s.pages (s.pages.map fun e=>(e.1,{e.2 with sent:=0})):=sm_map fun e=>⟨rfl,rfl,rfl⟩
  have hsrt:Srt (s.pages.map fun e=>(e.1,{e.2 with sent:=0})):=Srt.map (f:= fun e:Int×PgD=>{e.2 with sent:=0}) r4.srt
  refine⟨?_,h.r, fun o q=> ?_, fun o q=> ?_,.inl ⟨rfl,_,rfl,r4.sm hsrt hsm,.inl (hn.sm hsm), fun _=>⟨fun m hm=> ?_, fun m hm=> ?_, fun o q hm=> ?_, fun _ q=> ?_⟩⟩⟩
  · have :=(n3.act true).same (E':={P with D:=D,cell:=some C,kind:=1,move:=P.move+1,active:=true,next:=0,ses:=some {s with pages:=s.pages.map fun e=>(e.1,{e.2 with sent:=0})}}) Qa Qa Qa Qa (.inl Qa)
    exact this
  · have :=h.op o q; show o.move≤P.move+1;omega
  · have :=h.oj o q; show o.move≤P.move+1;omega
  · have :=f.nj m hm
    exact⟨fun _ q=>(by have q:m.move=P.move+1:=q;omega), fun _ q=>(by have q:m.move=P.move+1:=q;omega), fun _=> by show m.move≠P.move+1;omega⟩
  · have :=f.np m hm
    exact⟨fun _=>(by show m.move≠P.move+1;omega), fun _ q=> by have q:m.move=P.move+1:=q;omega⟩
  · have :=h.oj o q
    have hm:o.move=P.move+1:=hm
    omega
  · have q:J.move=P.move+1:=q
    omega
theorem KI.freeze (h:KI P J g c MP MJ):KI (Wa P).2 J g c MP MJ:= by
  unfold Wa
  split
  · exact h
  rename_i hq
  obtain⟨s,r1,r2,r3,r4,r5,r6⟩:=h.runs (fun q=>hq (.inl q))
  have ha:P.active=true:= by
    cases k:P.active with
    | true=>rfl
    | false=> exact absurd (.inr k) hq
  have hn:Nm s:=r5.resolve_right fun q=> by have :=q.ac; rw[ha]at this; cases this
  exact⟨h.q.same Qa Qa Qa Qa (.inl Qa),h.r,h.op,h.oj,.inl ⟨r1,s,r3,r4,.inl hn, fun a=>(r6 ha).same Qa (fun _=>rfl) Qa Qa Qa (fun _ q=> .inl q) fun _ q=> .inl q⟩⟩
theorem KI.cancel (h:KI P J g c MP MJ):KI (W6 P).2 J g c MP MJ:= by
  unfold W6
  split
  · exact h
  rename_i hq
  have ha:P.active=true:= by
    cases k:P.active with
    | true=>rfl
    | false=> exact absurd (.inr k) hq
  have hk:P.kind=1:= by
    have : ¬H8 P=false:= fun q=>hq (.inl q)
    unfold H8 at this
    simp at this
    exact this.2
  rcases h.ki with⟨a1,s,a2,a3,a4,a5⟩ | ⟨a1,_⟩
  · have hn:Nm s:=a4.resolve_right fun q=> by have :=q.ac; rw[ha]at this; cases this
    exact⟨h.q.same Qa Qa Qa Qa (.inr Qa),h.r,h.op,h.oj,.inl ⟨a1,s,a2,a3,.inl hn, fun q=> by cases q⟩⟩
  · omega
theorem SRC.edit (h:SRC P J s MP MJ) (hf:P.frozen=false) (hv: ∀id v d,Vr s id v d→Vr s' id v d) (h1:P'.move=P.move):SRC P' J s' MP MJ:= by
  have hx: ¬P.frozen=true:= by rw[hf];decide
  refine⟨fun m q=>⟨fun a b=>hv _ _ _ ((h.mj m q).pk a (by rw[←h1]; exact b)), fun a b=>absurd ((h.mj m q).pt a (by rw[←h1]; exact b)).1 hx, fun a=> by rw[h1]; exact(h.mj m q).no7 a⟩, fun m q=>(h.mp m q).same h1 Qa Qa, fun o q r=> ?_, fun a b=>absurd (h.rd a (by rw[←h1]; exact b)).1 hx⟩
  have k:=h.of o q (by rw[←h1]; exact r)
  have hp:o.parts=[]:=Decidable.byContradiction fun z=>hx (k.pt z).1
  exact⟨fun id p z=>hv _ _ _ (k.pg id p z), fun z=>absurd hp z, fun a d z=> by rw[hp]at z; cases z⟩
theorem FET.edit (h:FET P J s g MP MJ) (h1:P'.move=P.move) (h2:P'.active=P.active) (hm: ∀id p,QT s'.pages id=some p→p.miss=true→QT s.pages id=some p∧QT g'.sheets id=QT g.sheets id):FET P' J s' g' MP MJ:= by
  obtain⟨u,u1,u2⟩:=h.ses
  refine⟨h.kj, by rw[h1]; exact h.mv, by rw[h2]; exact h.ac,⟨u,u1, fun id p hp hms=> ?_⟩, fun m q a b p hp hms hv=> ?_, fun m q a=> by rw[h1]; exact h.no8 m q a, fun m q a=> by rw[h1]; exact h.no7 m q a⟩
  · obtain⟨k1,k2⟩:=hm id p hp hms
    rw[k2]; exact u2 id p k1 hms
  · obtain⟨k1,k2⟩:=hm m.a p hp hms
    rw[k2]; exact h.pk m q a (by rw[←h1]; exact b) p k1 hms hv
theorem KI.setState (h:KI P J g c MP MJ) (hd:d.length≤900):((Zp P d).1=0→KI (Zp P d).2 J {g with state:=d} c MP MJ)∧((Zp P d).1≠0→(Zp P d).2=P):= by
  unfold Zp
  split
  · exact⟨fun q=>(by cases q), fun _=>rfl⟩
  rename_i hr
  split
  · exact⟨fun q=>(by cases q), fun _=>rfl⟩
  refine⟨fun _=> ?_, fun q=>absurd Qa q⟩
  obtain⟨s,r1,r2,r3,r4,r5,r6⟩:=h.runs hr
  dsimp only
  rw[r3]
  refine⟨h.q.same Qa Qa Qa Qa (.inl Qa),h.r,h.op,h.oj,.inl ⟨r1,_,rfl,r4.state hd,r5.imp id fun q=>q.edit Qa Qa fun id p hp _=>⟨hp,rfl⟩, fun a=>(r6 a).edit r2 (fun _ _ _ q=>q) Qa⟩⟩
theorem KI.setPage (h:KI P J g c MP MJ) (hc:c<4611686018427387904):((XA P id d).1=0→KI (XA P id d).2 J {g with sheets:=XO id d g.sheets} (c+1) MP MJ)∧((XA P id d).1≠0→(XA P id d).2=P):= by
  unfold XA
  split
  · exact⟨fun q=>(by cases q), fun _=>rfl⟩
  rename_i hr
  split
  · exact⟨fun q=>(by cases q), fun _=>rfl⟩
  rename_i S2
  obtain⟨s,r1,r2,r3,r4,r5,r6⟩:=h.runs hr
  rw[r3]
  dsimp only
  split
  · exact⟨fun q=>(by cases q), fun _=>rfl⟩
  refine⟨fun _=> ?_, fun q=>absurd Qa q⟩
  have hcc:s.count<9223372036854775807:= by have :=r4.cnt.2;omega
  refine⟨h.q.same Qa Qa Qa Qa (.inl Qa),h.r,h.op,h.oj,.inl ⟨r1,_,rfl,r4.put (by omega) hc, ?_, fun a=>(r6 a).edit r2 (fun _ _ _ q=>q.put (fun j p hp=>(r4.pg j p hp).2.2.2) r4.srt hcc) Qa⟩⟩
  rcases r5 with r5 | r5
  · exact .inl (r5.put r4.srt)
  · refine .inr (r5.edit Qa Qa fun j p hp hms=> ?_)
    have hp:QT (XO id _ s.pages) j=some p:=hp
    rw[We r4.srt]at hp
    by_cases k:j=id
    · rw[if_pos k]at hp; cases hp; cases hms
    · rw[if_neg k]at hp
      exact⟨hp, by show QT (XO id d g.sheets) j=_; rw[We r4.gs,if_neg k]⟩
theorem KI.dropPage (h:KI P J g c MP MJ):((Zq P id).1=0→KI (Zq P id).2 J {g with sheets:=Yl g.sheets id} c MP MJ)∧((Zq P id).1≠0→(Zq P id).2=P):= by
  unfold Zq
  split
  · exact⟨fun q=>(by cases q), fun _=>rfl⟩
  rename_i hr
  obtain⟨s,r1,r2,r3,r4,r5,r6⟩:=h.runs hr
  rw[r3]
  dsimp only
  split
  · exact⟨fun q=>(by cases q), fun _=>rfl⟩
  refine⟨fun _=> ?_, fun q=>absurd Qa q⟩
  refine⟨h.q.same Qa Qa Qa Qa (.inl Qa),h.r,h.op,h.oj,.inl ⟨r1,_,rfl,r4.del, ?_, fun a=>(r6 a).edit r2 (fun _ _ _ q=>q.del) Qa⟩⟩
  rcases r5 with r5 | r5
  · exact .inl r5.del
  · refine .inr (r5.edit Qa Qa fun j p hp hms=> ?_)
    have hp:QT (Yl s.pages id) j=some p:=hp
    rw[Y2]at hp
    by_cases k:j=id
    · rw[if_pos k]at hp; cases hp
    · rw[if_neg k]at hp
      exact⟨hp, by show QT (Yl g.sheets id) j=_; rw[Y2,if_neg k]⟩
end
def R0 (X:TwD) (j:Bool):MsD→Prop:= fun m=> ∃p∈X.fl,p.1=j∧m=QX p.2
def KXi (X:TwD) (g:SsD) (c:Int) (i:Bool):Prop:=KI (Xg X i) (Xg X (!i)) g c (R0 X i) (R0 X (!i))
def KX (X:TwD) (g:SsD) (c:Int):Prop:= ∃i,KXi X g c i
section
variable {X Y:TwD} {P J E:EnD} {s:SeD} {g g':SsD} {c c' t:Int} {i j:Bool} {out:List Bs} {m:MsD} {o:OpD} {MP MJ:MsD→Prop}
theorem fx_of (h:INV X t) (hq:QE (Xg X i)) (hr:QE (Xg X (!i))):FX (Xg X i) (Xg X (!i)) (R0 X i) (R0 X (!i)):= by
  have h0:=h.at (!i)
  rw[Bool.not_not]at h0
  obtain⟨S,S',e1,e2,pp,_,_⟩:=h0
  have uP:(Hk (Xg X i) S).up:=hq.up
  have uJ:(Hk (Xg X (!i)) S').up:=hr.up
  have oP:=pp.i.own uP
  have oJ:=pp.j.own uJ
  refine⟨fun hk=>pp.beside uP hk oJ, fun m hm=> ?_, fun m hm=> ?_, fun m hm hk=> ?_, fun m hm hk hmv hk1=> ?_, fun m hm hk=> ?_⟩
  · obtain⟨p,h1,h2,rfl⟩:=hm
    exact pp.j.num (Ta p.2) ⟨p,h1,h2,Qa⟩ _ oJ
  · obtain⟨p,h1,h2,rfl⟩:=hm
    exact pp.i.num (Ta p.2) ⟨p,h1,h2,Qa⟩ _ oP
  · obtain⟨p,h1,h2,rfl⟩:=hm
    rcases(pp.i.no (QX p.2).move ⟨p,h1,h2, by unfold Ta; rw[hk]⟩).1 _ oP with q | q
    · exact .inl q
    · exact .inr ⟨congrArg Prod.fst q,(congrArg Prod.snd q).symm⟩
  · obtain⟨p,h1,h2,rfl⟩:=hm
    have :=(pp.i.no (QX p.2).move ⟨p,h1,h2, by unfold Ta; rw[hk]⟩).2 uP (by show((Xg X i).kind,(Xg X i).move)=_; rw[hk1,hmv])
    cases k:(Xg X i).active with
    | false=>rfl
    | true=> exact absurd k this
  · obtain⟨p,h1,h2,rfl⟩:=hm
    rcases pp.i.giv (QX p.2).move ⟨p,h1,h2, by unfold Ta; rw[hk]⟩with q | ⟨q,_⟩
    · have :=q _ oP
      exact .inl ⟨congrArg Prod.fst this,congrArg Prod.snd this⟩
    · rcases q _ oJ with q | q
      · exact .inr (.inl q)
      · exact .inr (.inr ⟨congrArg Prod.fst q,congrArg Prod.snd q⟩)
theorem KXi.fx (h:KXi X g c i) (hi:INV X t):FX (Xg X i) (Xg X (!i)) (R0 X i) (R0 X (!i)):=fx_of hi h.q h.r
theorem Dt {Z:TwD} {k:Bool} (hZ: ∀p∈Z.fl,p∈X.fl) (h:R0 (Wp Z j out) k m):R0 X k m∨(k= !j∧ ∃b∈out,m=QX b):= by
  obtain⟨p,h1,h2,h3⟩:=h
  rcases Vh h1 with q | ⟨b,hb,rfl⟩
  · exact .inl ⟨p,hZ p q,h2,h3⟩
  · exact .inr ⟨h2.symm,b,hb,h3⟩
theorem KXi.saidP {Z:TwD} (hZ: ∀p∈Z.fl,p∈X.fl) (he:Xg Z (!i)=Xg X (!i)) (h:KI E (Xg X (!i)) g c (R0 X i) (Ad (R0 X (!i)) out)):KXi (Wp (JL Z i E) i out) g c i:= by
  unfold KXi
  rw[WO,WO,GA,GB,he]
  have hZ': ∀p∈(JL Z i E).fl,p∈X.fl:= fun p hp=>hZ p (by rw[UF]at hp; exact hp)
  refine h.less (Int.le_refl _) (fun m hm=> ?_) fun m hm=> ?_
  · rcases Dt hZ' hm with q | ⟨q,_⟩
    · exact q
    · cases i<;> cases q
  · rcases Dt hZ' hm with q | ⟨_,q⟩
    · exact .inl q
    · exact .inr q
theorem KXi.saidJ {Z:TwD} (hZ: ∀p∈Z.fl,p∈X.fl) (he:Xg Z i=Xg X i) (h:KI (Xg X i) E g c (Ad (R0 X i) out) (R0 X (!i))):KXi (Wp (JL Z (!i) E) (!i) out) g c i:= by
  unfold KXi
  rw[WO,WO,GA]
  have h1:Xg (JL Z (!i) E) i=Xg Z i:= by have :=GB (X:=Z) (i:= !i) (E:=E); rw[Bool.not_not]at this; exact this
  rw[h1,he]
  have hZ': ∀p∈(JL Z (!i) E).fl,p∈X.fl:= fun p hp=>hZ p (by rw[UF]at hp; exact hp)
  refine h.less (Int.le_refl _) (fun m hm=> ?_) fun m hm=> ?_
  · rcases Dt hZ' hm with q | ⟨_,q⟩
    · exact .inl q
    · exact .inr q
  · rcases Dt hZ' hm with q | ⟨q,_⟩
    · exact q
    · cases i<;> cases q
theorem KXi.swapJ {Z:TwD} (hZ: ∀p∈Z.fl,p∈X.fl) (he:Xg Z i=Xg X i) (h:KI E (Xg X i) g c (R0 X (!i)) (Ad (R0 X i) out)):KXi (Wp (JL Z (!i) E) (!i) out) g c (!i):= by
  have h2:Xg Z (!!i)=Xg X (!!i):= by rw[Bool.not_not]; exact he
  refine KXi.saidP hZ h2 ?_
  rw[Bool.not_not]; exact h
theorem KXi.fewer (h:KXi X g c i) (hc:c≤c') (h1:Y.a=X.a) (h2:Y.b=X.b) (hf: ∀p∈Y.fl,p∈X.fl):KXi Y g c' i:= by
  have e: ∀k,Xg Y k=Xg X k:= fun k=> by cases k; exact h1; exact h2
  unfold KXi
  rw[e,e]
  exact KI.less h hc (fun m hm=> by obtain⟨p,a,b,d⟩:=hm; exact⟨p,hf p a,b,d⟩) fun m hm=> by obtain⟨p,a,b,d⟩:=hm; exact⟨p,hf p a,b,d⟩
theorem KXi.arrive (h:KXi X g c i) (hi:INV X t) (hX:XW X) (n:Int):KX (Zw X n) g c:= by
  have f:=h.fx hi
  unfold Zw
  cases hp:X.fl[(Zs n X.fl.length).toNat]? with
  | none=> exact⟨i,h⟩
  | some p=>
    dsimp only
    have hm:p∈X.fl:=List.mem_of_getElem? hp
    have hl:=hX.fl p hm
    have hZ: ∀q∈(Rw X n).fl,q∈X.fl:= fun q hq=>List.mem_of_mem_eraseIdx hq
    have he: ∀k,Xg (Rw X n) k=Xg X k:= fun k=>Nf
    rcases(by cases i<;> cases p.1<;> simp :p.1=i∨p.1= !i)with hpi | hpi
    · rw[hpi]
      refine⟨i,KXi.saidP hZ (he _) ?_⟩
      by_cases hc:upE (Xg X i)=false∨(QX p.2).kind<0∨9<(QX p.2).kind∨(QX p.2).move<0∨4611686018427387904<(QX p.2).move∨WQ (QX p.2)≠p.2
      · rw[HD hc]; exact KI.stayP h
      · rw[W4 hc]
        obtain⟨d1,d2,d3,d4,d5⟩:=KZ p.2
        exact KI.hearP h f (hX.at_ i) ⟨p,hm,hpi,rfl⟩ ⟨by omega,d2⟩ ⟨by omega, by omega⟩
    · rw[hpi]
      by_cases hc:upE (Xg X (!i))=false∨(QX p.2).kind<0∨9<(QX p.2).kind∨(QX p.2).move<0∨4611686018427387904<(QX p.2).move∨WQ (QX p.2)≠p.2
      · rw[HD hc]; exact⟨i,KXi.saidJ hZ (he _) (KI.stayJ h)⟩
      · rw[W4 hc]
        obtain⟨d1,d2,d3,d4,d5⟩:=KZ p.2
        have mw:MsW (QX p.2):=⟨d1,⟨by omega, by omega⟩,d3,d4, by omega⟩
        rcases KI.hearJ h f (hX.at_ i) (hX.at_ (!i)) ⟨p,hm,hpi,rfl⟩ mw ⟨by omega, by omega⟩with q | q
        · exact⟨i,KXi.saidJ hZ (he _) q⟩
        · exact⟨!i,KXi.swapJ hZ (he _) q⟩
theorem KXi.putP (h:KI E (Xg X (!i)) g c (R0 X i) (R0 X (!i))):KXi (JL X i E) g c i:= by
  have :=KXi.saidP (X:=X) (Z:=X) (out:=[]) (fun _ q=>q) Qa (KI.stayP h)
  exact this
theorem KXi.tick (h:KXi X g c i) (hi:INV X t) (hX:XW X) (j:Bool):KXi (Wp (JL X j (XX (Xg X j)).1) j (XX (Xg X j)).2) g c i:= by
  rcases(by cases i<;> cases j<;> simp :j=i∨j= !i)with e | e
  · rw[e]; exact KXi.saidP (fun _ q=>q) Qa (KI.tickP h (hX.at_ i))
  · rw[e]; exact KXi.saidJ (fun _ q=>q) Qa (KI.tickJ h (h.fx hi))
theorem KI.less' (h:KI P J g c MP MJ):KI P J g (c+1) MP MJ:=h.less (by omega) (fun _ q=>q) fun _ q=>q
def Hc (r:Int) (g:SsD) (o:OpD):SsD:= if r=0∧17≤o.dO%32∧o.dO%32≤20 then U6 g o else g
theorem KXi.own (h:KXi X g c i) (hi:INV X t) (hj:Xg X j=E) {r:Int×EnD} (hP: ∀P J,KI P J g c (R0 X i) (R0 X (!i))→E=P→FX P J (R0 X i) (R0 X (!i))→KI r.2 J g' c' (R0 X i) (R0 X (!i))) (hJ:E.kind≠1→r.2=E) (hgc:j=(!i)→g'=g∧c≤c'):KX (JL X j r.2) g' c':= by
  have f:=h.fx hi
  rcases(by cases i<;> cases j<;> simp :j=i∨j= !i)with e | e
  · subst e
    exact⟨j,KXi.putP (hP _ _ h hj.symm f)⟩
  · have hk:E.kind≠1:= by rw[←hj,e]; exact KI.jk h f
    rw[hJ hk,←hj,Ub]
    obtain⟨e1,e2⟩:=hgc e
    rw[e1]
    exact⟨i,h.fewer e2 Qa Qa fun _ q=>q⟩
theorem V6 (h:E.kind≠1):ZN E=false:= by
  unfold ZN H8; rw[Qw h]; simp
theorem owns_no (h:E.kind≠1):H8 E=false:= by
  unfold H8; rw[Qw h]; simp
end
section
variable {X Y:TwD} {P J E:EnD} {s:SeD} {g g':SsD} {c c' t:Int} {i j:Bool} {out:List Bs} {m:MsD} {o:OpD} {MP MJ:MsD→Prop}
theorem Uq {r:Int} (h: ¬(17≤o.dO%32∧o.dO%32≤20)):Hc r g o=g:= by unfold Hc; rw[if_neg (fun q=>h q.2)]
theorem Bp {r:Int} (h:r≠0):Hc r g o=g:= by unfold Hc; rw[if_neg (fun q=>h q.1)]
theorem M4 (h:17≤o.dO%32∧o.dO%32≤20):Hc 0 g o=U6 g o:= by unfold Hc; rw[if_pos ⟨rfl,h⟩]
theorem KI.gs (h:KI P J g c MP MJ):Srt g.sheets:= by
  rcases h.ki with⟨_,s,_,a3,_⟩ | ⟨_,_,_,s,_,a3,_⟩<;> exact a3.gs
theorem KXi.chg (h:KXi X g c i) (hi:INV X t) {r:Int×EnD} (hP:KI (Xg X j) (Xg X (!j)) g c (R0 X j) (R0 X (!j))→(r.1=0→KI r.2 (Xg X (!j)) g' (c+1) (R0 X j) (R0 X (!j)))∧(r.1≠0→r.2=Xg X j)) (hJ:(Xg X j).kind≠1→r=(7,Xg X j)) (hg: ∀q,r.1=q→Hc q g o= if q=0 then g' else g):KX (H6 X j r).2 (Hc (H6 X j r).1 g o) (c+1):= by
  have f:=h.fx hi
  unfold H6
  rw[hg _ Qa]
  rcases(by cases i<;> cases j<;> simp :j=i∨j= !i)with e | e
  · subst e
    obtain⟨p1,p2⟩:=hP h
    by_cases q:r.1=0
    · rw[if_pos q]; exact⟨j,KXi.putP (p1 q)⟩
    · rw[if_neg q,p2 q,Ub]; exact⟨j,h.fewer (by omega) Qa Qa fun _ q=>q⟩
  · have hk:(Xg X j).kind≠1:= by rw[e]; exact KI.jk h f
    rw[hJ hk]
    dsimp only
    rw[if_neg (by decide),Ub]; exact⟨i,h.fewer (by omega) Qa Qa fun _ q=>q⟩
theorem KXi.same (h:KXi X g c i) (hi:INV X t) {r:Int×EnD} (hP:KI (Xg X j) (Xg X (!j)) g c (R0 X j) (R0 X (!j))→FX (Xg X j) (Xg X (!j)) (R0 X j) (R0 X (!j))→KI r.2 (Xg X (!j)) g c (R0 X j) (R0 X (!j))) (hJ:(Xg X j).kind≠1→r=(7,Xg X j)) (hk: ¬(17≤o.dO%32∧o.dO%32≤20)):KX (H6 X j r).2 (Hc (H6 X j r).1 g o) (c+1):= by
  have f:=h.fx hi
  rw[Uq hk]
  unfold H6
  rcases(by cases i<;> cases j<;> simp :j=i∨j= !i)with e | e
  · subst e
    exact⟨j,KXi.putP (KI.less' (hP h f))⟩
  · have hk:(Xg X j).kind≠1:= by rw[e]; exact KI.jk h f
    rw[hJ hk,Ub]; exact⟨i,h.fewer (by omega) Qa Qa fun _ q=>q⟩
theorem KX.step (h:KX X g c) (hi:INV X t) (hX:XW X) (hm: ∀i,X5 ((Xg X i).move+1)) (hk: ¬(21≤o.dO%32∧o.dO%32≤25)) (hk2:o.dO%32≠28) (hs:o.s.length≤900) (hc:c<4611686018427387904):KX (XQ X o).2 (Hc (XQ X o).1 g o) (c+1):= by
  obtain⟨i,h⟩:=h
  by_cases k8:o.dO%32=8
  · rw[NN k8 Qa,Uq (by omega)]
    exact⟨i,h.fewer (by omega) Qa Qa fun p hp=>List.mem_of_mem_eraseIdx hp⟩
  by_cases k9:o.dO%32=9
  · rw[NM k9 Qa,Uq (by omega)]
    refine⟨i, ?_⟩
    dsimp only
    unfold Hi
    cases hp:X.fl[(Zs o.n X.fl.length).toNat]? with
    | none=> exact h.fewer (by omega) rfl rfl fun p hp=>hp
    | some p=>
      dsimp only
      split
      · exact h.fewer (by omega) Qa Qa fun p hp=>hp
      · refine h.fewer (by omega) Qa Qa fun q hq=> ?_
        rcases List.mem_append.1 hq with a | a
        · exact a
        · rw[List.mem_singleton.1 a]; exact List.mem_of_getElem? hp
  by_cases k10:10≤o.dO%32∧o.dO%32≤13
  · rw[Wo k10 Qa,Uq (by omega)]
    exact⟨i,(h.tick hi hX _).fewer (by omega) Qa Qa fun p hp=>hp⟩
  by_cases k14:o.dO%32=14
  · rw[DZ k14 Qa]
    exact h.same hi (fun q f=>q.give f (hm _)) (fun q=> by unfold J6; rw[if_pos (.inl (V6 q))]) (by omega)
  by_cases k15:o.dO%32=15
  · rw[DY k15 Qa]
    exact h.same hi (fun q f=>q.freeze) (fun q=> by unfold Wa; rw[if_pos (.inl (V6 q))]) (by omega)
  by_cases k16:o.dO%32=16
  · rw[DX k16 Qa]
    exact h.same hi (fun q f=>q.cancel) (fun q=> by unfold W6; rw[if_pos (.inl (owns_no q))]) (by omega)
  have hgs:Srt g.sheets:=KI.gs h
  by_cases k17:o.dO%32=17∨o.dO%32=18
  · have e:XQ X o=H6 X (decide (o.n%2=1)) (XA (Xg X (decide (o.n%2=1))) o.id (List.replicate 64 o.b)):= by
      rcases k17 with q | q
      · exact DW q Qa
      · exact DV q Qa
    rw[e]
    refine h.chg hi (fun q=>q.setPage hc) (fun q=> by unfold XA; rw[if_pos (V6 q)]) fun q _=> ?_
    split
    · rename_i z; rw[z,M4 (by omega),chg_put hgs (by omega) (by omega)]
    · rename_i z; exact Bp z
  by_cases k19:o.dO%32=19
  · rw[DU k19 Qa]
    refine h.chg hi (fun q=>⟨fun z=>((q.dropPage (id:=o.id)).1 z).less',(q.dropPage (id:=o.id)).2⟩) (fun q=> by unfold Zq; rw[if_pos (V6 q)]) fun q _=> ?_
    split
    · rename_i z; rw[z,M4 (by omega),chg_del k19]
    · rename_i z; exact Bp z
  by_cases k20:o.dO%32=20
  · rw[DT k20 Qa]
    refine h.chg hi (fun q=>⟨fun z=>((q.setState hs).1 z).less',(q.setState hs).2⟩) (fun q=> by unfold Zp; rw[if_pos (V6 q)]) fun q _=> ?_
    split
    · rename_i z; rw[z,M4 (by omega),By k20]
    · rename_i z; exact Bp z
  by_cases k26:o.dO%32=26
  · rw[DR k26 Qa,Uq (by omega)]
    exact⟨i,h.fewer (by omega) Qa Qa fun p hp=> by cases hp⟩
  by_cases k27:o.dO%32=27
  · rw[DQ k27 Qa,Uq (by omega)]
    exact⟨i,h.fewer (by omega) Qa Qa fun p hp=>hp⟩
  · rw[RY (by omega),Uq (by omega)]
    obtain⟨k,q⟩:=h.arrive hi hX o.n
    exact⟨k,q.fewer (by omega) Qa Qa fun p hp=>hp⟩
theorem Me: ∀{l:AL Bs} {last:Int},Jt last l=true→Srt l∧ ∀e∈l,last<e.1∧e.1≤1099511627776
  | [],last,_=>⟨List.Pairwise.nil, fun e he=> by cases he⟩
  | f::l,last,h=> by
    unfold Jt at h
    simp only[Bool.and_eq_true,decide_eq_true_eq]at h
    obtain⟨⟨⟨h1,h2⟩,h3⟩,h4⟩:=h
    obtain⟨k1,k2⟩:=Me h4
    refine⟨List.pairwise_cons.2 ⟨fun x hx=> ?_,k1⟩, fun e he=> ?_⟩
    · obtain⟨e,he,rfl⟩:=List.mem_map.1 hx
      exact(k2 e he).1
    · rcases List.mem_cons.1 he with q | q
      · subst q; exact⟨h1,h2⟩
      · have :=k2 e q
        exact⟨by omega,this.2⟩
theorem Sx {g:SsD} (hs:Zl g=true) (hl:g.state.length≤900):KX ⟨(Zz YQ g).2,YQ,[],false⟩ g 1:= by
  have hb:Zz YQ g=(0,{(QU YQ 1 1).2 with ses:=some (Yy g),active:=false,frozen:=false,told:=true}):= by
    unfold Zz
    rw[if_neg (by decide),if_neg (by rw[hs];decide),if_neg (by rintro⟨q,_⟩; exact q ⟨rfl,rfl⟩),if_pos ⟨rfl,rfl⟩,if_neg (by rw[My];decide)]
  obtain⟨n1,D,C,n2,n3⟩:=new_q.note (k:=1) (m:=1) (by decide) (by unfold X5;decide)
  rw[hb,n2]
  dsimp only
  unfold Zl at hs
  simp only[Bool.and_eq_true,decide_eq_true_eq]at hs
  obtain⟨k1,k2⟩:=Me hs.1.1
  have hget: ∀id,QT (Yy g).pages id=(QT g.sheets id).map fun d=>⟨d,1,0,false⟩:= fun id=> by
    show QT (g.sheets.map fun e=>(e.1,(⟨e.2,1,0,false⟩:PgD))) id=_
    rw[Ut (f:= fun e:Int×Bs=>(⟨e.2,1,0,false⟩:PgD))]
  refine⟨false, ?_⟩
  refine⟨n3.same Qa Qa Qa Qa (.inr Qa),new_q, fun o q=>(by cases q), fun o q=>(by cases q),.inl ⟨rfl,_,rfl,⟨rfl,hl, ?_,k1, fun id=> ?_, fun id p hp _=> ?_,⟨(by show(0:Int)≤1;decide),(by show(1:Int)≤1;decide)⟩, fun id p hp=> ?_⟩,.inl fun id p hp=> ?_, fun q=> by cases q⟩⟩
  · exact Srt.map (f:= fun e:Int×Bs=>(⟨e.2,1,0,false⟩:PgD)) k1
  · rw[hget]; cases QT g.sheets id<;> simp
  · rw[hget]at hp
    cases k:QT g.sheets id with
    | none=> rw[k]at hp; cases hp
    | some d=> rw[k]at hp; cases hp;rfl
  · rw[hget]at hp
    cases k:QT g.sheets id with
    | none=> rw[k]at hp; cases hp
    | some d=>
      rw[k]at hp; cases hp
      have :=k2 (id,d) (Y1 k)
      exact⟨this.1,this.2,(by show(1:Int)≤1;decide),(by show(1:Int)≤1;decide)⟩
  · rw[hget]at hp
    cases k:QT g.sheets id with
    | none=> rw[k]at hp; cases hp
    | some d=> rw[k]at hp; cases hp;rfl
theorem Mu {p:PgD} {id:Int} (h:E.ses=some s) (k:QT s.pages id=some p):H7 E id= if p.miss=true then([],19)else(p.data,0):= by unfold H7; rw[h]; dsimp only; rw[k]
theorem KI.holds (h:KI P J g c MP MJ) (hr:ZN P=true):YF P g=true∧ ∀id∈QP P,H7 J id=(Rx g.sheets id,0):= by
  obtain⟨s,r1,r2,r3,r4,r5,_⟩:=h.runs (by rw[hr];decide)
  have hmi:QP P=YZ s.pages:= by unfold QP; rw[r3]
  constructor
  · obtain⟨gst,gsh⟩:=g
    have h1:(SK P).2=true:= by unfold SK; rw[r3];rfl
    have h2:(SK P).1=gst:= by unfold SK; rw[r3]; exact r4.st
    rw[Gm h1 h2 (i:=gsh.length) (fun e he=> ?_) Qa]
    · unfold Js
      rw[hmi,r3]
      dsimp only
      by_cases q:YZ s.pages=[]
      · rw[if_pos q,q]
        dsimp only
        have hn:=(Nm.of_miss r4.srt).1 q
        have e:s.pages.map shP=gsh:= by
          refine FG (Srt.map (f:= fun e:Int×PgD=>e.2.data) r4.srt) r4.gs fun id=> ?_
          show QT (s.pages.map fun e=>(e.1,e.2.data)) id=_
          rw[Ut (f:= fun e:Int×PgD=>e.2.data)]
          cases k:QT s.pages id with
          | none=> exact((r4.ids id).1 k).symm
          | some p=> exact(r4.dat id p k (hn id p k)).symm
        rw[e]
        have h2:s.state=gst:=r4.st
        unfold VL
        rw[h2]; simp
      · rw[if_neg q]
        have :((YZ s.pages).length:Int)≠0:= fun z=>q (List.eq_nil_of_length_eq_zero (by omega))
        rw[Qw this];rfl
    · rw[List.take_length]at he
      have hg:=H1 r4.gs he
      cases k:QT s.pages e.1 with
      | none=> have :=(r4.ids e.1).1 k; rw[hg]at this; cases this
      | some p=>
        unfold Ke
        rw[Mu r3 k]
        cases z:p.miss with
        | true=> rw[if_pos rfl]; simp
        | false=>
          rw[if_neg (by decide)]
          have :=r4.dat e.1 p k z
          rw[hg]at this
          simp [Option.some.inj this]
  · intro id S2
    rw[hmi]at S2
    unfold YZ at S2
    obtain⟨e,he,rfl⟩:=List.mem_map.1 S2
    obtain⟨he1,he2⟩:=List.mem_filter.1 he
    have hp:=H1 r4.srt he1
    rcases r5 with r5 | r5
    · have :=r5 e.1 e.2 hp; rw[this]at he2; cases he2
    · obtain⟨u,u1,u2⟩:=r5.ses
      obtain⟨q,q1,q2,_,q3⟩:=u2 e.1 e.2 hp he2
      rw[Mu u1 q1,q2,if_neg (by decide),Ir,q3];rfl
theorem KX.holds (h:KX X g c) (hi:INV X t) (j:Bool) (hr:ZN (Xg X j)=true):YF (Xg X j) g=true∧ZN (Xg X (!j))=false∧ ∀id∈QP (Xg X j),H7 (Xg X (!j)) id=(Rx g.sheets id,0):= by
  obtain⟨i,h⟩:=h
  have f:=h.fx hi
  rcases(by cases i<;> cases j<;> simp :j=i∨j= !i)with e | e
  · subst e
    obtain⟨h1,h2⟩:=KI.holds h hr
    exact⟨h1,V6 (KI.jk h f),h2⟩
  · have hk:(Xg X j).kind≠1:= by rw[e]; exact KI.jk h f
    rw[V6 hk]at hr; cases hr
theorem Ix:(U6 g o).sheets.length≤g.sheets.length+1:= by
  have hf: ∀(l:AL Bs) (a:AL Bs×Bool),(l.foldl (UW (decide (o.dO%32=19)) o.id (List.replicate 64 o.b)) a).1.length+(if(l.foldl (UW (decide (o.dO%32=19)) o.id (List.replicate 64 o.b)) a).2=false then 1 else 0)≤a.1.length+l.length+(if a.2=false then 1 else 0):= fun l=> by
    induction l with
    | nil=> intro a; exact Nat.le_refl _
    | cons y l ih=>
      intro a
      rw[List.foldl_cons]
      refine Nat.le_trans (ih _) ?_
      rw[List.length_cons]
      obtain⟨al,ad⟩:=a
      unfold UW
      cases ad<;>split<;>(try split)<;>simp_all<;>omega
  unfold U6
  split
  · dsimp only;omega
  · have :=hf g.sheets ([],false)
    unfold Sr MO
    rw[List.take_length]
    dsimp only
    generalize g.sheets.foldl _ _=z at this⊢
    obtain⟨zl,zd⟩:=z
    have h3:zl.length+1≤g.sheets.length+1+1:= by cases zd<;> simp at this⊢ <;>omega
    have h4:zd=false→zl.length+1≤g.sheets.length+1:= fun q=> by subst q;simpa using this
    dsimp only
    split
    · rename_i q; rw[List.length_append]; exact h4 q.1
    · omega
end
