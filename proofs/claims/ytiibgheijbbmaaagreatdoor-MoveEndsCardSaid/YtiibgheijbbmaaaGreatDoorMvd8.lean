/- move: the other end hears the rest, plain -/
import Derived.Test.YtiibgheijbbmaaaGreatDoorMvd4
set_option linter.unusedVariables false
namespace Go.Proofs.YtiibgheijbbmaaaGreatDoor
open Go.RowKit M
section
variable {P J P' J' E:EnD} {s s':SeD} {g g':SsD} {c c':Int} {MP MJ MP' MJ' M:MsD→Prop} {m x:MsD} {o:OfD} {id:Int} {d:Bs} {l:AL PgD}
theorem KI.jTarget (h:KI P J g c MP MJ) (f:FX P J MP MJ):KI P (Xh J m).1 g c (Ad MP (Xh J m).2) MJ:= by
  unfold Xh
  split
  · have hg:QU (Ze J 4 0 0 [])=⟨4,J.move,0,0,[]⟩:=YG h.r ⟨by decide, by decide⟩ XF XF (by simp)
    exact h.sayJ (by rw[hg]; simp) (by rw[hg]; simp) (by rw[hg]; simp) (by rw[hg]; simp) (by rw[hg]; simp)
  · rw[if_pos (h.jk f)]; exact h.stayJ
theorem KI.jNo (h:KI P J g c MP MJ) (f:FX P J MP MJ) (hm:MJ m) (h5:m.kind=5):KI P (WF J m) g c (Ad MP []) MJ:= by
  refine KI.stayJ ?_
  unfold WF
  split
  · rename_i hc
    obtain⟨c1,c2⟩:=hc
    obtain⟨n1,D,C,n2,n3⟩:=h.r.note (k:=0) (m:=m.move) (by decide) (by rw[c2]; exact⟨h.r.rg.2.2.1,h.r.rg.2.2.2⟩)
    rw[if_neg (by rw[n1];decide),n2]
    dsimp only
    refine⟨h.q,n3.same Qa Qa Qa Qa (.inl Qa),h.op, fun o q=>(by cases q), ?_⟩
    rcases h.ki with⟨a1,s,a2,a3,a4,a5⟩ | ⟨a1,a2,a3,_⟩
    · refine .inl ⟨a1,s,a2,a3,a4.imp id fun q=>absurd q.kj (by omega), fun a=> ?_⟩
      have hs:=a5 a
      have hlt:m.move<P.move:= by
        rcases f.no m hm h5 with q | ⟨_,q⟩
        · exact q
        · have :=f.noa m hm h5 q a1; rw[a]at this; cases this
      refine⟨hs.mj, fun x hx=>⟨(hs.mp x hx).no8, fun r1 r2=> ?_⟩, fun o q=>(by cases q), fun q=> by cases q⟩
      have :=((hs.mp x hx).rd r1 r2).2
      omega
    · rcases f.no m hm h5 with q | ⟨q,_⟩<;>omega
  · exact h
theorem KI.jWant (h:KI P J g c MP MJ) (w:EW J):KI P J g c (Ad MP (Zv J m)) MJ:= by
  unfold Zv
  split
  · exact h.stayJ
  rename_i hq
  have hk:J.kind=3∧m.move=J.move:= by omega
  rcases h.ki with⟨a1,s,a2,a3,a4,a5⟩ | ⟨a1,a2,_⟩
  · cases hj:J.ses with
    | none=>
      dsimp only
      have hg:QU (Ze J 7 0 0 [])=⟨7,J.move,0,0,[]⟩:=YG h.r ⟨by decide, by decide⟩ XF XF (by simp)
      have hn:Nm s:=a4.resolve_right fun q=> by obtain⟨u,u1,_⟩:=q.ses; rw[hj]at u1; cases u1
      exact⟨h.q,h.r,h.op,h.oj,.inl ⟨a1,s,a2,a3,.inl hn, fun a=>(a5 a).same Qa id Qa Qa Qa (fun x q=>(YN q).imp id fun e=> by rw[e,hg]; exact Vw (by simp) (by simp) (by simp)) fun _ q=> .inl q⟩⟩
    | some u=>
      dsimp only
      cases hp:QN u.pages m.a with
      | none=> exact h.stayJ
      | some p=>
        dsimp only
        obtain⟨k1,k2,k3,k4⟩:=(w.ses u hj).pg _ (JC hp)
        have hg:QU (Ze J 0 m.a p.ver p.data)=⟨0,J.move,m.a,p.ver,p.data⟩:=YG h.r ⟨by decide, by decide⟩ k1 k2 (by have :p.data.length≤64:=k4;omega)
        refine⟨h.q,h.r,h.op,h.oj,.inl ⟨a1,s,a2,a3,a4.imp id fun q=> ?_, fun a=>(a5 a).same Qa id Qa Qa Qa (fun x q=>(YN q).imp id fun e=> by rw[e,hg]; exact Vw (by simp) (by simp) (by simp)) fun _ q=> .inl q⟩⟩
        refine⟨q.kj,q.mv,q.ac,q.ses, fun x hx e1 e2 p' hp' e3 e4=> ?_,q.no8, fun x hx e1=> ?_⟩
        · rcases YN hx with hx | hx
          · exact q.pk x hx e1 e2 p' hp' e3 e4
          · rw[hx,hg]at hp' e4⊢
            obtain⟨u',u1,u2⟩:=q.ses
            rw[hj]at u1; cases u1
            obtain⟨p2,p3,_,p4,p5⟩:=u2 m.a p' hp' e3
            rw[hp]at p3; cases p3
            exact p5
        · rcases YN hx with hx | hx
          · exact q.no7 x hx e1
          · rw[hx,hg]at e1; exact absurd e1 (by simp)
  · omega
theorem KI.jDone (h:KI P J g c MP MJ) (f:FX P J MP MJ) (hm:MJ m) (h8:m.kind=8):KI P (Z6 J m).1 g c (Ad MP (Z6 J m).2) MJ:= by
  unfold Z6
  split
  · exact h.stayJ
  rename_i hq
  have hk:J.kind=3∧m.move=J.move:= by omega
  have hg:QU (Ze J 9 0 0 [])=⟨9,J.move,0,0,[]⟩:=YG h.r ⟨by decide, by decide⟩ XF XF (by simp)
  refine⟨h.q,h.r.same Qa Qa Qa Qa (.inl Qa),h.op,h.oj, ?_⟩
  rcases h.ki with⟨a1,s,a2,a3,a4,a5⟩ | ⟨a1,a2,_⟩
  · have hn:Nm s:=a4.resolve_right fun q=>q.no8 m hm h8 (by rw[hk.2]; exact q.mv)
    exact .inl ⟨a1,s,a2,a3,.inl hn, fun a=>(a5 a).same Qa id Qa Qa Qa (fun x q=>(YN q).imp id fun e=> by rw[e,hg]; exact Vw (by simp) (by simp) (by simp)) fun _ q=> .inl q⟩
  · omega
theorem GH:QN (Yu l) id=(QN l id).map fun p=>⟨[],p.ver,0,true⟩:= by
  unfold Yu; rw[Hl (f:= fun e:Int×PgD=>(⟨[],e.2.ver,0,true⟩:PgD))]
def Nb (o:OfD) (id:Int) (p:PgD):PgD:= match QN o.pages id with
  | none=>p
  | some g=> if g.ver=p.ver∧g.data.length=64 then⟨g.data,p.ver,0,false⟩else p
theorem G8:QN (U0 o l) id=(QN l id).map (Nb o id):= by
  have :U0 o l=l.map fun e=>(e.1,Nb o e.1 e.2):=rfl
  rw[this,Hl (f:= fun e=>Nb o e.1 e.2)]
theorem IA (h:Srt l):Srt (U0 o (Yu l)):= by
  have :U0 o (Yu l)=(Yu l).map fun e=>(e.1,Nb o e.1 e.2):=rfl
  rw[this]
  exact Srt.map (f:= fun e=>Nb o e.1 e.2) (show Srt (Yu l) from Srt.map (f:= fun e:Int×PgD=>(⟨[],e.2.ver,0,true⟩:PgD)) h)
theorem ME {p:PgD}:(Nb o id p).ver=p.ver:= by
  unfold Nb
  split
  · rfl
  · split<;>rfl
theorem CF: ∀{l:AL PgD} {a:Int},a≤l.foldl (fun c e=>max c e.2.ver) a∧(∀e∈l,e.2.ver≤l.foldl (fun c e=>max c e.2.ver) a)
  | [],a=>⟨Int.le_refl _, fun e he=> by cases he⟩
  | f::l,a=> by
    obtain⟨h1,h2⟩:=CF (l:=l) (a:=max a f.2.ver)
    rw[List.foldl_cons]
    refine⟨by omega, fun e he=> ?_⟩
    rcases List.mem_cons.1 he with q | q
    · subst q;omega
    · exact h2 e q
theorem Lw {n:Int}: ∀{l:AL PgD} {a:Int},a≤n→(∀e∈l,e.2.ver≤n)→l.foldl (fun c e=>max c e.2.ver) a≤n
  | [],a,h,_=>h
  | f::l,a,h,hl=> by
    rw[List.foldl_cons]
    exact Lw (by have :=hl f List.mem_cons_self;omega) fun e he=>hl e (List.mem_cons_of_mem _ he)
theorem OwS.born (h:OwS s g c) (hn:Nm s) (ho:OfG P s o):OwS ⟨s.state,Hh (Yu s.pages),U0 o (Yu s.pages)⟩ g c:= by
  have hv: ∀e∈Yu s.pages,1≤e.2.ver∧e.2.ver≤s.count:= fun e he=> by
    obtain⟨f,hf,rfl⟩:=List.mem_map.1 he
    exact(h.pg f.1 f.2 (Hk h.srt hf)).2.2
  have hget: ∀id p,QN (U0 o (Yu s.pages)) id=some p→ ∃p0,QN s.pages id=some p0∧p=Nb o id ⟨[],p0.ver,0,true⟩:= fun id p hp=> by
    rw[G8,GH]at hp
    cases k:QN s.pages id with
    | none=> rw[k]at hp; cases hp
    | some p0=> rw[k]at hp; cases hp; exact⟨p0,rfl,rfl⟩
  refine⟨h.st,h.sl,IA h.srt,h.gs, fun id=> ?_, fun id p hp hm=> ?_,⟨?_, ?_⟩, fun id p hp=> ?_⟩
  · rw[←h.ids id]
    show QN (U0 o (Yu s.pages)) id=none↔_
    rw[G8,GH]; cases QN s.pages id<;> simp
  · obtain⟨p0,k,rfl⟩:=hget id p hp
    unfold Nb at hm⊢
    cases q:QN o.pages id with
    | none=> rw[q]at hm; cases hm
    | some e=>
      rw[q]at hm
      dsimp only at hm⊢
      split at hm
      · rename_i hc
        rw[if_pos hc]
        rw[h.dat id p0 k (hn id p0 k)]
        exact congrArg some ((ho.pg id e q).2 p0 k hc.1.symm)
      · cases hm
  · exact CF.1
  · exact Int.le_trans (Lw (n:=s.count) h.cnt.1 fun e he=>(hv e he).2) h.cnt.2
  · obtain⟨p0,k,rfl⟩:=hget id p hp
    obtain⟨b1,b2,b3,b4⟩:=h.pg id p0 k
    rw[ME]
    exact⟨b1,b2,b3,CF.2 (id,⟨[],p0.ver,0,true⟩) (List.mem_map.2 ⟨(id,p0),JC k,Qa⟩)⟩
theorem OwS.parse (h:OwS s g c) (w:SeW s):Wp (Xf s)=(some ⟨s.state,Hh (Yu s.pages),Yu s.pages⟩,true):= by
  refine Mp h.srt (fun e he=>(h.pg e.1 e.2 (Hk h.srt he)).1) (fun e he=> ?_) (by have :=h.sl;omega) (by have :=h.sl;omega) w.num
  obtain⟨b1,b2,b3,b4⟩:=h.pg e.1 e.2 (Hk h.srt he)
  exact⟨b2,b3,(w.pg e he).2.1⟩
theorem KI.jGiven (h:KI P J g c MP MJ) (f:FX P J MP MJ) (w:EW P) (hm:MJ m) (h4:m.kind=4) (hn:0≤m.move∧Xy m.move):KI P (XB J m) g c MP MJ∨KI (XB J m) P g c MJ MP:= by
  unfold XB
  split
  · exact .inl h
  rename_i hq
  have hk:J.kind=2∧m.move=J.move:= by omega
  obtain⟨n1,D,C,n2,n3⟩:=h.r.note (k:=1) (m:=m.move) (by decide) hn
  rw[if_neg (by rw[n1];decide)]
  right
  rcases h.ki with⟨a1,_⟩ | ⟨a1,a2,a3,s,a4,a5,a6,a7⟩
  · rcases f.gv m hm h4 with q | q | q<;>omega
  obtain⟨r1,o,r2,r3,r4⟩:=a7.rd hk.1 a3
  have ho:=a7.of o r2 r3
  rw[r2]
  dsimp only
  rw[if_neg (by omega),n2,r4,a5.parse (w.ses s a4)]
  dsimp only[Option.map]
  refine⟨(n3.act false).same Qa Qa Qa Qa (.inl Qa),h.q, fun o q=>(by cases q), fun o' q=> ?_, ?_⟩
  · have :=h.op o' q
    show o'.move≤m.move
    omega
  · refine .inl ⟨rfl,_,rfl,a5.born a6 ho,.inr ⟨a1, ?_,rfl,⟨s,a4, fun id p hp hms=> ?_⟩, fun x hx e1 e2 p hp e3 e4=> ?_, fun x hx e1=> ?_, fun x hx e1=> ?_⟩, fun q=> by cases q⟩
    · show P.move=m.move;omega
    · have hp:QN (U0 o (Yu s.pages)) id=some p:=hp
      rw[G8,GH]at hp
      cases k:QN s.pages id with
      | none=> rw[k]at hp; cases hp
      | some p0=>
        rw[k]at hp; cases hp
        exact⟨p0,rfl,a6 id p0 k,(by rw[ME]),a5.dat id p0 k (a6 id p0 k)⟩
    · have hp:QN (U0 o (Yu s.pages)) x.a=some p:=hp
      have e2:x.move=m.move:=e2
      rw[G8,GH]at hp
      cases k:QN s.pages x.a with
      | none=> rw[k]at hp; cases hp
      | some p0=>
        rw[k]at hp; cases hp
        rw[ME]at e4
        have hv:=(a7.mj x hx).pk e1 (by omega)
        rw[a5.dat x.a p0 k (a6 x.a p0 k)]
        exact congrArg some (hv.2 p0 k e4)
    · show x.move≠m.move
      have :=(a7.mp x hx).no8 e1
      omega
    · show x.move≠m.move
      have :=(a7.mj x hx).no7 e1
      omega
theorem KI.hearJ (h:KI P J g c MP MJ) (f:FX P J MP MJ) (w:EW P) (v:EW J) (hm:MJ m) (mw:MsW m) (hk:0≤m.kind∧m.kind≤9):KI P (X8 J m).1 g c (Ad MP (X8 J m).2) MJ∨KI (X8 J m).1 P g c MJ (Ad MP (X8 J m).2):= by
  have h1:=h.jk f
  unfold X8
  split
  · exact .inl (h.jPage f v hm mw (by assumption))
  split
  · exact .inl (h.jPart f v hm mw (by assumption))
  split
  · exact .inl (h.jTarget f)
  split
  · rename_i h4
    rcases h.jGiven f w hm h4 (RI mw.mv)with q | q
    · exact .inl q.stayJ
    · exact .inr (q.less (Int.le_refl _) (fun _ r=>r) fun _ r=>FV r)
  split
  · exact .inl (h.jNo f hm (by assumption))
  split
  · exact .inl (h.jWant v)
  split
  · left
    show KI P (ZL J m) g c _ MJ
    unfold ZL; rw[if_neg (fun q=>h1 q.1)]; exact h.stayJ
  split
  · exact .inl (h.jDone f hm (by assumption))
  · left
    show KI P (Jd J m) g c _ MJ
    unfold Jd; rw[if_neg (fun q=>h1 q.1)]; exact h.stayJ
end
section
variable {P J P' J' E:EnD} {s s':SeD} {g g':SsD} {c c':Int} {MP MJ MP' MJ' M:MsD→Prop} {m x:MsD} {o:OfD} {id:Int} {d b:Bs} {l:AL PgD} {out:List Bs}
theorem KT: ∀(k:Nat) (l:AL PgD) (b:Bs),b∈(pushG E k l).2→ ∃e∈l,b=Ze E 0 e.1 e.2.ver e.2.data
  | k,[],b,h=> by rw[pushG.eq_def]at h; cases h
  | k,e::l,b,h=> by
    rw[pushG.eq_def]at h
    dsimp only at h
    split at h
    · obtain⟨f,h1,h2⟩:=KT k l b h
      exact⟨f,List.mem_cons_of_mem _ h1,h2⟩
    · cases k with
      | zero=> cases h
      | succ k=>
        rcases List.mem_cons.1 h with q | q
        · exact⟨e,List.mem_cons_self,q⟩
        · obtain⟨f,h1,h2⟩:=KT k l b q
          exact⟨f,List.mem_cons_of_mem _ h1,h2⟩
theorem TL (l:Bs) (n:Int): ∀(k:Nat) (nx:Int) (b:Bs),0≤nx∧nx<n→b∈(ZM E l n k nx).2→ ∃a,0≤a∧a<n∧b=Ze E 1 a n (Rs l a)
  | 0,nx,b,_,h=> by cases h
  | k+1,nx,b,hn,h=> by
    unfold ZM at h
    rcases List.mem_cons.1 h with q | q
    · exact⟨nx,hn.1,hn.2,q⟩
    · exact TL l n k _ b ⟨Int.emod_nonneg _ (by omega),Int.emod_lt_of_pos _ (by omega)⟩ q
theorem Lp (l:Bs) (a:Int):(Rs l a).length≤200:= by unfold Rs; rw[List.length_take];omega
theorem MsJ.ses (h:MsJ P s m) (hm:Sm s.pages l) (hl:Xf {s with pages:=l}=Xf s):MsJ P {s with pages:=l} m:=⟨fun a b=>(h.pk a b).sm hm, fun a b=> by rw[hl]; exact h.pt a b,h.no7⟩
theorem SRC.ses (h:SRC P J s MP MJ) (hm:Sm s.pages l) (hl:Xf {s with pages:=l}=Xf s):SRC P J {s with pages:=l} MP MJ:=
  ⟨fun m q=>(h.mj m q).ses hm hl,h.mp, fun o q r=>let k:=h.of o q r;⟨fun id p z=>(k.pg id p z).sm hm, fun z=> by rw[hl]; exact k.pt z, fun a d z=> by rw[hl]; exact k.pc a d z⟩, fun a b=> by
    obtain⟨q1,o,q2,q3,q4⟩:=h.rd a b
    exact⟨q1,o,q2,q3, by rw[hl]; exact q4⟩⟩
theorem KI.tickP (h:KI P J g c MP MJ) (w:EW P):KI (X7 P).1 J g c MP (Ad MJ (X7 P).2):= by
  unfold X7
  rw[if_neg h.q.upE]
  rcases h.ki with⟨a1,s,a2,a3,a4,a5⟩ | ⟨a1,a2,a3,_⟩
  · rw[if_neg (by omega),if_neg (fun q=>q a1),a2]
    dsimp only
    have hW:=w.ses s a2
    have hin: ∀e∈s.pages,Xy e.1∧Xy e.2.ver∧e.2.data.length≤64:= fun e he=>⟨(hW.pg e he).1,(hW.pg e he).2.1,(hW.pg e he).2.2.2⟩
    split
    · rename_i hact
      have hn:Nm s:=a4.resolve_right fun q=> by have :=q.ac; rw[hact]at this; cases this
      have hsim:=W3 P s.pages 4
      have hsm:=hsim.sm
      have hl:=Yn hsim
      have hsrt:Srt (pushG P 4 s.pages).1:= by unfold Srt; rw[hsim.ids]; exact a3.srt
      have hs:=(a5 hact).ses hsm hl
      have hpush: ∀b∈(pushG P 4 s.pages).2,MsJ P {s with pages:=(pushG P 4 s.pages).1} (QU b):= fun b hb=> by
        obtain⟨e,he,rfl⟩:=KT 4 s.pages b hb
        obtain⟨k1,k2,k3⟩:=hin e he
        rw[YG h.q ⟨by decide, by decide⟩ k1 k2 (by omega)]
        have he2:=Hk a3.srt he
        exact⟨fun _ _=>Vr.sm ⟨(a3.pg e.1 e.2 he2).2.2.2, fun p' hp' _=> by rw[he2]at hp'; cases hp';rfl⟩ hsm, fun q=>absurd q (by simp), fun q=>absurd q (by simp)⟩
      split
      · refine⟨h.q.same Qa Qa Qa Qa (.inl Qa),h.r,h.op,h.oj,.inl ⟨a1,_,rfl,a3.sm hsrt hsm,.inl (hn.sm hsm), fun _=>hs.same Qa id Qa Qa Qa (fun _ q=> .inl q) fun x q=> ?_⟩⟩
        rcases q with q | ⟨b,hb,rfl⟩
        · exact .inl q
        · exact .inr (hpush b hb)
      · rename_i hfr
        have hfr:P.frozen=true:= by simpa using hfr
        obtain⟨x1,x2,_⟩:=w.nx hact s a2
        refine⟨h.q.same Qa Qa Qa Qa (.inl Qa),h.r,h.op,h.oj,.inl ⟨a1,_,rfl,a3.sm hsrt hsm,.inl (hn.sm hsm), fun _=>hs.same Qa id Qa Qa Qa (fun _ q=> .inl q) fun x q=> ?_⟩⟩
        rcases q with q | ⟨b,hb,rfl⟩
        · exact .inl q
        · right
          rcases List.mem_append.1 hb with r | r
          · exact hpush b r
          · rw[hl]at r
            obtain⟨a,e1,e2,rfl⟩:=TL (Xf s) (Xa (Xf s)) _ P.next b ⟨x1,x2⟩ r
            have hnp:Xa (Xf s)≤9000000:= by have :=KZ hW;unfold Xa;omega
            rw[YG h.q ⟨by decide, by decide⟩ (by unfold Xy;omega) (by unfold Xy;omega) (by have :=Lp (Xf s) a;omega)]
            exact⟨fun q=>absurd q (by simp), fun _ _=>⟨hfr, by rw[hl], by rw[hl]⟩, fun q=>absurd q (by simp)⟩
    · rename_i hact
      refine⟨h.q,h.r,h.op,h.oj,.inl ⟨a1,s,a2,a3, ?_, fun q=>absurd q hact⟩⟩
      rcases a4 with a4 | a4
      · exact .inl a4
      · by_cases hz:Wd s.pages=[]
        · exact .inl ((Nm.of_miss a3.srt).1 hz)
        · refine .inr (a4.same Qa a4.ac Qa Qa Qa (fun _ q=> .inl q) fun x q=> ?_)
          rcases q with q | ⟨b,hb,rfl⟩
          · exact .inl q
          · right
            rw[if_neg (fun q=>hz q.1),List.append_nil]at hb
            obtain⟨i,hi,rfl⟩:=List.mem_map.1 hb
            have hi:=List.mem_of_mem_take hi
            unfold Wd at hi
            obtain⟨e,he,rfl⟩:=List.mem_map.1 hi
            rw[YG h.q ⟨by decide, by decide⟩ (hin e (List.mem_filter.1 he).1).1 XF (by simp)]
            simp
  · rw[if_neg (by omega),if_pos (by omega)]; exact h.stayP
theorem KI.tickJ (h:KI P J g c MP MJ) (f:FX P J MP MJ):KI P (X7 J).1 g c (Ad MP (X7 J).2) MJ:= by
  unfold X7
  rw[if_neg h.r.upE]
  split
  · rename_i hk
    generalize hkk:(if(match J.off with | some o=>decide (o.move=J.move) | none=>false)=true then(2:Int)else 3)=kk
    have hkk:kk=2∨kk=3:= by
      have : ∀z:Bool,(if z=true then(2:Int)else 3)=kk→kk=2∨kk=3:= fun z q=> by cases z<;> simp at q<;>omega
      exact this _ hkk
    have hg:QU (Ze J kk 0 0 [])=⟨kk,J.move,0,0,[]⟩:=YG h.r (by omega) XF XF (by simp)
    have hp: ∀m,Ad MP [Ze J kk 0 0 []] m→MP m∨MsP P J m:= fun m q=>(YN q).imp id fun e=> by
      rw[e,hg]
      exact⟨fun q=>absurd q (by show ¬kk=8;omega), fun _ q=>⟨hk,q⟩⟩
    refine⟨h.q,h.r,h.op,h.oj,h.ki.imp ?_ ?_⟩
    · rintro⟨a1,s,a2,a3,a4,a5⟩
      exact⟨a1,s,a2,a3,a4.imp id fun q=>absurd q.kj (by omega), fun a=>(a5 a).same Qa id Qa Qa Qa hp fun _ q=> .inl q⟩
    · rintro⟨a1,a2,a3,s,a4,a5,a6,a7⟩
      exact⟨a1,a2,a3,s,a4,a5,a6,a7.same Qa id Qa Qa Qa hp fun _ q=> .inl q⟩
  · rw[if_pos (h.jk f)]; exact h.stayJ
theorem KI.runs (h:KI P J g c MP MJ) (hr: ¬Z5 P=false): ∃s,P.kind=1∧P.frozen=false∧P.ses=some s∧OwS s g c∧(Nm s∨FET P J s g MP MJ)∧(P.active=true→SRC P J s MP MJ):= by
  obtain⟨_,r2,r3,_⟩:=JO hr
  rcases h.ki with⟨a1,s,a2,a3,a4,a5⟩ | ⟨a1,_⟩
  · exact⟨s,a1,r3,a2,a3,a4,a5⟩
  · omega
theorem KI.give (h:KI P J g c MP MJ) (f:FX P J MP MJ) (hmv:Xy (P.move+1)):KI (Wi P).2 J g c MP MJ:= by
  unfold Wi
  split
  · exact h
  rename_i hq
  obtain⟨s,r1,r2,r3,r4,r5,_⟩:=h.runs (fun q=>hq (.inl q))
  obtain⟨n1,D,C,n2,n3⟩:=h.q.note (k:=1) (m:=P.move+1) (by decide) ⟨by have :=h.q.rg.2.2.1;omega,hmv⟩
  rw[if_neg (by rw[n1];decide),n2]
  dsimp only
  rw[r3]
  have hl:=f.leg r1
  have hn:Nm s:=(Nm.of_miss r4.srt).1 (Decidable.byContradiction fun q=>hq (.inr (.inl (by unfold QP; rw[r3]; exact q))))
  have hsm:Sm s.pages (s.pages.map fun e=>(e.1,{e.2 with sent:=0})):=sm_map fun e=>⟨rfl,rfl,rfl⟩
  have hsrt:Srt (s.pages.map fun e=>(e.1,{e.2 with sent:=0})):=Srt.map (f:= fun e:Int×PgD=>{e.2 with sent:=0}) r4.srt
  refine⟨?_,h.r, fun o q=> ?_, fun o q=> ?_,.inl ⟨rfl,_,rfl,r4.sm hsrt hsm,.inl (hn.sm hsm), fun _=>⟨fun m hm=> ?_, fun m hm=> ?_, fun o q hm=> ?_, fun _ q=> ?_⟩⟩⟩
  · have :=(n3.act true).same (E':={P with D:=D,cell:=some C,kind:=1,move:=P.move+1,active:=true,next:=0,ses:=some {s with pages:=s.pages.map fun e=>(e.1,{e.2 with sent:=0})}}) Qa Qa Qa Qa (.inl Qa)
    exact this
  · have :=h.op o q; show o.move≤P.move+1;omega
  · have :=h.oj o q; show o.move≤P.move+1;omega
  · have :=f.nj m hm
    exact⟨fun _ q=>(by have q:m.move=P.move+1:=q;omega), fun _ q=>(by have q:m.move=P.move+1:=q;omega), fun _=> by show m.move≠P.move+1;omega⟩
  · have :=f.np m hm
    exact⟨fun _=>(by show m.move≠P.move+1;omega), fun _ q=> by have q:m.move=P.move+1:=q;omega⟩
  · have :=h.oj o q
    have hm:o.move=P.move+1:=hm
    omega
  · have q:J.move=P.move+1:=q
    omega
theorem KI.freeze (h:KI P J g c MP MJ):KI (Zb P).2 J g c MP MJ:= by
  unfold Zb
  split
  · exact h
  rename_i hq
  obtain⟨s,r1,r2,r3,r4,r5,r6⟩:=h.runs (fun q=>hq (.inl q))
  have ha:P.active=true:= by
    cases k:P.active with
    | true=>rfl
    | false=> exact absurd (.inr k) hq
  have hn:Nm s:=r5.resolve_right fun q=> by have :=q.ac; rw[ha]at this; cases this
  exact⟨h.q.same Qa Qa Qa Qa (.inl Qa),h.r,h.op,h.oj,.inl ⟨r1,s,r3,r4,.inl hn, fun a=>(r6 ha).same Qa (fun _=>rfl) Qa Qa Qa (fun _ q=> .inl q) fun _ q=> .inl q⟩⟩
theorem KI.cancel (h:KI P J g c MP MJ):KI (HC P).2 J g c MP MJ:= by
  unfold HC
  split
  · exact h
  rename_i hq
  have ha:P.active=true:= by
    cases k:P.active with
    | true=>rfl
    | false=> exact absurd (.inr k) hq
  have hk:P.kind=1:= by
    have : ¬Hu P=false:= fun q=>hq (.inl q)
    unfold Hu at this
    simp at this
    exact this.2
  rcases h.ki with⟨a1,s,a2,a3,a4,a5⟩ | ⟨a1,_⟩
  · have hn:Nm s:=a4.resolve_right fun q=> by have :=q.ac; rw[ha]at this; cases this
    exact⟨h.q.same Qa Qa Qa Qa (.inr Qa),h.r,h.op,h.oj,.inl ⟨a1,s,a2,a3,.inl hn, fun q=> by cases q⟩⟩
  · omega
theorem SRC.edit (h:SRC P J s MP MJ) (hf:P.frozen=false) (hv: ∀id v d,Vr s id v d→Vr s' id v d) (h1:P'.move=P.move):SRC P' J s' MP MJ:= by
  have hx: ¬P.frozen=true:= by rw[hf];decide
  refine⟨fun m q=>⟨fun a b=>hv _ _ _ ((h.mj m q).pk a (by rw[←h1]; exact b)), fun a b=>absurd ((h.mj m q).pt a (by rw[←h1]; exact b)).1 hx, fun a=> by rw[h1]; exact(h.mj m q).no7 a⟩, fun m q=>(h.mp m q).same h1 Qa Qa, fun o q r=> ?_, fun a b=>absurd (h.rd a (by rw[←h1]; exact b)).1 hx⟩
  have k:=h.of o q (by rw[←h1]; exact r)
  have hp:o.parts=[]:=Decidable.byContradiction fun z=>hx (k.pt z).1
  exact⟨fun id p z=>hv _ _ _ (k.pg id p z), fun z=>absurd hp z, fun a d z=> by rw[hp]at z; cases z⟩
theorem FET.edit (h:FET P J s g MP MJ) (h1:P'.move=P.move) (h2:P'.active=P.active) (hm: ∀id p,QN s'.pages id=some p→p.miss=true→QN s.pages id=some p∧QN g'.sheets id=QN g.sheets id):FET P' J s' g' MP MJ:= by
  obtain⟨u,u1,u2⟩:=h.ses
  refine⟨h.kj, by rw[h1]; exact h.mv, by rw[h2]; exact h.ac,⟨u,u1, fun id p hp hms=> ?_⟩, fun m q a b p hp hms hv=> ?_, fun m q a=> by rw[h1]; exact h.no8 m q a, fun m q a=> by rw[h1]; exact h.no7 m q a⟩
  · obtain⟨k1,k2⟩:=hm id p hp hms
    rw[k2]; exact u2 id p k1 hms
  · obtain⟨k1,k2⟩:=hm m.a p hp hms
    rw[k2]; exact h.pk m q a (by rw[←h1]; exact b) p k1 hms hv
theorem KI.setState (h:KI P J g c MP MJ) (hd:d.length≤900):((XM P d).1=0→KI (XM P d).2 J {g with state:=d} c MP MJ)∧((XM P d).1≠0→(XM P d).2=P):= by
  unfold XM
  split
  · exact⟨fun q=>(by cases q), fun _=>rfl⟩
  rename_i hr
  split
  · exact⟨fun q=>(by cases q), fun _=>rfl⟩
  refine⟨fun _=> ?_, fun q=>absurd Qa q⟩
  obtain⟨s,r1,r2,r3,r4,r5,r6⟩:=h.runs hr
  dsimp only
  rw[r3]
  refine⟨h.q.same Qa Qa Qa Qa (.inl Qa),h.r,h.op,h.oj,.inl ⟨r1,_,rfl,r4.state hd,r5.imp id fun q=>q.edit Qa Qa fun id p hp _=>⟨hp,rfl⟩, fun a=>(r6 a).edit r2 (fun _ _ _ q=>q) Qa⟩⟩
theorem KI.setPage (h:KI P J g c MP MJ) (hc:c<4611686018427387904):((Xx P id d).1=0→KI (Xx P id d).2 J {g with sheets:=X6 id d g.sheets} (c+1) MP MJ)∧((Xx P id d).1≠0→(Xx P id d).2=P):= by
  unfold Xx
  split
  · exact⟨fun q=>(by cases q), fun _=>rfl⟩
  rename_i hr
  split
  · exact⟨fun q=>(by cases q), fun _=>rfl⟩
  rename_i MY
  obtain⟨s,r1,r2,r3,r4,r5,r6⟩:=h.runs hr
  rw[r3]
  dsimp only
  split
  · exact⟨fun q=>(by cases q), fun _=>rfl⟩
  refine⟨fun _=> ?_, fun q=>absurd Qa q⟩
  have hcc:s.count<9223372036854775807:= by have :=r4.cnt.2;omega
  refine⟨h.q.same Qa Qa Qa Qa (.inl Qa),h.r,h.op,h.oj,.inl ⟨r1,_,rfl,r4.put (by omega) hc, ?_, fun a=>(r6 a).edit r2 (fun _ _ _ q=>q.put (fun j p hp=>(r4.pg j p hp).2.2.2) r4.srt hcc) Qa⟩⟩
  rcases r5 with r5 | r5
  · exact .inl (r5.put r4.srt)
  · refine .inr (r5.edit Qa Qa fun j p hp hms=> ?_)
    have hp:QN (X6 id _ s.pages) j=some p:=hp
    rw[ZR r4.srt]at hp
    by_cases k:j=id
    · rw[if_pos k]at hp; cases hp; cases hms
    · rw[if_neg k]at hp
      exact⟨hp, by show QN (X6 id d g.sheets) j=_; rw[ZR r4.gs,if_neg k]⟩
theorem KI.dropPage (h:KI P J g c MP MJ):((XN P id).1=0→KI (XN P id).2 J {g with sheets:=Yt g.sheets id} c MP MJ)∧((XN P id).1≠0→(XN P id).2=P):= by
  unfold XN
  split
  · exact⟨fun q=>(by cases q), fun _=>rfl⟩
  rename_i hr
  obtain⟨s,r1,r2,r3,r4,r5,r6⟩:=h.runs hr
  rw[r3]
  dsimp only
  split
  · exact⟨fun q=>(by cases q), fun _=>rfl⟩
  refine⟨fun _=> ?_, fun q=>absurd Qa q⟩
  refine⟨h.q.same Qa Qa Qa Qa (.inl Qa),h.r,h.op,h.oj,.inl ⟨r1,_,rfl,r4.del, ?_, fun a=>(r6 a).edit r2 (fun _ _ _ q=>q.del) Qa⟩⟩
  rcases r5 with r5 | r5
  · exact .inl r5.del
  · refine .inr (r5.edit Qa Qa fun j p hp hms=> ?_)
    have hp:QN (Yt s.pages id) j=some p:=hp
    rw[Y7]at hp
    by_cases k:j=id
    · rw[if_pos k]at hp; cases hp
    · rw[if_neg k]at hp
      exact⟨hp, by show QN (Yt g.sheets id) j=_; rw[Y7,if_neg k]⟩
end
def UR (X:TwD) (j:Bool):MsD→Prop:= fun m=> ∃p∈X.fl,p.1=j∧m=QU p.2
def KXi (X:TwD) (g:SsD) (c:Int) (i:Bool):Prop:=KI (Q6 X i) (Q6 X (!i)) g c (UR X i) (UR X (!i))
def KX (X:TwD) (g:SsD) (c:Int):Prop:= ∃i,KXi X g c i
section
variable {X Y:TwD} {P J E:EnD} {s:SeD} {g g':SsD} {c c' t:Int} {i j:Bool} {out:List Bs} {m:MsD} {o:OpD} {MP MJ:MsD→Prop}
theorem fx_of (h:INV X t) (hq:QE (Q6 X i)) (hr:QE (Q6 X (!i))):FX (Q6 X i) (Q6 X (!i)) (UR X i) (UR X (!i)):= by
  have h0:=h.at (!i)
  rw[Bool.not_not]at h0
  obtain⟨S,S',e1,e2,pp,_,_⟩:=h0
  have uP:(HS (Q6 X i) S).up:=hq.up
  have uJ:(HS (Q6 X (!i)) S').up:=hr.up
  have oP:=pp.i.own uP
  have oJ:=pp.j.own uJ
  refine⟨fun hk=>pp.beside uP hk oJ, fun m hm=> ?_, fun m hm=> ?_, fun m hm hk=> ?_, fun m hm hk hmv hk1=> ?_, fun m hm hk=> ?_⟩
  · obtain⟨p,h1,h2,rfl⟩:=hm
    exact pp.j.num (MX p.2) ⟨p,h1,h2,Qa⟩ _ oJ
  · obtain⟨p,h1,h2,rfl⟩:=hm
    exact pp.i.num (MX p.2) ⟨p,h1,h2,Qa⟩ _ oP
  · obtain⟨p,h1,h2,rfl⟩:=hm
    rcases(pp.i.no (QU p.2).move ⟨p,h1,h2, by unfold MX; rw[hk]⟩).1 _ oP with q | q
    · exact .inl q
    · exact .inr ⟨congrArg Prod.fst q,(congrArg Prod.snd q).symm⟩
  · obtain⟨p,h1,h2,rfl⟩:=hm
    have :=(pp.i.no (QU p.2).move ⟨p,h1,h2, by unfold MX; rw[hk]⟩).2 uP (by show((Q6 X i).kind,(Q6 X i).move)=_; rw[hk1,hmv])
    cases k:(Q6 X i).active with
    | false=>rfl
    | true=> exact absurd k this
  · obtain⟨p,h1,h2,rfl⟩:=hm
    rcases pp.i.giv (QU p.2).move ⟨p,h1,h2, by unfold MX; rw[hk]⟩with q | ⟨q,_⟩
    · have :=q _ oP
      exact .inl ⟨congrArg Prod.fst this,congrArg Prod.snd this⟩
    · rcases q _ oJ with q | q
      · exact .inr (.inl q)
      · exact .inr (.inr ⟨congrArg Prod.fst q,congrArg Prod.snd q⟩)
theorem KXi.fx (h:KXi X g c i) (hi:INV X t):FX (Q6 X i) (Q6 X (!i)) (UR X i) (UR X (!i)):=fx_of hi h.q h.r
theorem Dq {Z:TwD} {k:Bool} (hZ: ∀p∈Z.fl,p∈X.fl) (h:UR (ZO Z j out) k m):UR X k m∨(k= !j∧ ∃b∈out,m=QU b):= by
  obtain⟨p,h1,h2,h3⟩:=h
  rcases Vo h1 with q | ⟨b,hb,rfl⟩
  · exact .inl ⟨p,hZ p q,h2,h3⟩
  · exact .inr ⟨h2.symm,b,hb,h3⟩
theorem KXi.saidP {Z:TwD} (hZ: ∀p∈Z.fl,p∈X.fl) (he:Q6 Z (!i)=Q6 X (!i)) (h:KI E (Q6 X (!i)) g c (UR X i) (Ad (UR X (!i)) out)):KXi (ZO (Z2 Z i E) i out) g c i:= by
  unfold KXi
  rw[WN,WN,Jx,Yg,he]
  have hZ': ∀p∈(Z2 Z i E).fl,p∈X.fl:= fun p hp=>hZ p (by rw[WE]at hp; exact hp)
  refine h.less (Int.le_refl _) (fun m hm=> ?_) fun m hm=> ?_
  · rcases Dq hZ' hm with q | ⟨q,_⟩
    · exact q
    · cases i<;> cases q
  · rcases Dq hZ' hm with q | ⟨_,q⟩
    · exact .inl q
    · exact .inr q
theorem KXi.saidJ {Z:TwD} (hZ: ∀p∈Z.fl,p∈X.fl) (he:Q6 Z i=Q6 X i) (h:KI (Q6 X i) E g c (Ad (UR X i) out) (UR X (!i))):KXi (ZO (Z2 Z (!i) E) (!i) out) g c i:= by
  unfold KXi
  rw[WN,WN,Jx]
  have h1:Q6 (Z2 Z (!i) E) i=Q6 Z i:= by have :=Yg (X:=Z) (i:= !i) (E:=E); rw[Bool.not_not]at this; exact this
  rw[h1,he]
  have hZ': ∀p∈(Z2 Z (!i) E).fl,p∈X.fl:= fun p hp=>hZ p (by rw[WE]at hp; exact hp)
  refine h.less (Int.le_refl _) (fun m hm=> ?_) fun m hm=> ?_
  · rcases Dq hZ' hm with q | ⟨_,q⟩
    · exact .inl q
    · exact .inr q
  · rcases Dq hZ' hm with q | ⟨q,_⟩
    · exact q
    · cases i<;> cases q
theorem KXi.swapJ {Z:TwD} (hZ: ∀p∈Z.fl,p∈X.fl) (he:Q6 Z i=Q6 X i) (h:KI E (Q6 X i) g c (UR X (!i)) (Ad (UR X i) out)):KXi (ZO (Z2 Z (!i) E) (!i) out) g c (!i):= by
  have h2:Q6 Z (!!i)=Q6 X (!!i):= by rw[Bool.not_not]; exact he
  refine KXi.saidP hZ h2 ?_
  rw[Bool.not_not]; exact h
theorem KXi.fewer (h:KXi X g c i) (hc:c≤c') (h1:Y.a=X.a) (h2:Y.b=X.b) (hf: ∀p∈Y.fl,p∈X.fl):KXi Y g c' i:= by
  have e: ∀k,Q6 Y k=Q6 X k:= fun k=> by cases k; exact h1; exact h2
  unfold KXi
  rw[e,e]
  exact KI.less h hc (fun m hm=> by obtain⟨p,a,b,d⟩:=hm; exact⟨p,hf p a,b,d⟩) fun m hm=> by obtain⟨p,a,b,d⟩:=hm; exact⟨p,hf p a,b,d⟩
theorem O1:ZO X j []=X:=rfl
theorem KXi.arrive (h:KXi X g c i) (hi:INV X t) (hX:XW X) (n:Int):KX (XQ X n) g c:= by
  have f:=h.fx hi
  unfold XQ
  cases hp:X.fl[(ZU n X.fl.length).toNat]? with
  | none=> exact⟨i,h⟩
  | some p=>
    dsimp only
    have hm:p∈X.fl:=List.mem_of_getElem? hp
    have hl:=hX.fl p hm
    have hZ: ∀q∈(BU X n).fl,q∈X.fl:= fun q hq=>List.mem_of_mem_eraseIdx hq
    have he: ∀k,Q6 (BU X n) k=Q6 X k:= fun k=>D0
    rcases(by cases i<;> cases p.1<;> simp :p.1=i∨p.1= !i)with hpi | hpi
    · rw[hpi]
      refine⟨i,KXi.saidP hZ (he _) ?_⟩
      by_cases hc:upE (Q6 X i)=false∨(QU p.2).kind<0∨9<(QU p.2).kind∨(QU p.2).move<0∨4611686018427387904<(QU p.2).move∨Zy (QU p.2)≠p.2
      · rw[HI hc]; exact KI.stayP h
      · rw[W5 hc]
        obtain⟨d1,d2,d3,d4,d5⟩:=VO p.2
        exact KI.hearP h f (hX.at_ i) ⟨p,hm,hpi,rfl⟩ ⟨by omega,d2⟩ ⟨by omega, by omega⟩
    · rw[hpi]
      by_cases hc:upE (Q6 X (!i))=false∨(QU p.2).kind<0∨9<(QU p.2).kind∨(QU p.2).move<0∨4611686018427387904<(QU p.2).move∨Zy (QU p.2)≠p.2
      · rw[HI hc]; exact⟨i,KXi.saidJ hZ (he _) (KI.stayJ h)⟩
      · rw[W5 hc]
        obtain⟨d1,d2,d3,d4,d5⟩:=VO p.2
        have mw:MsW (QU p.2):=⟨d1,⟨by omega, by omega⟩,d3,d4, by omega⟩
        rcases KI.hearJ h f (hX.at_ i) (hX.at_ (!i)) ⟨p,hm,hpi,rfl⟩ mw ⟨by omega, by omega⟩with q | q
        · exact⟨i,KXi.saidJ hZ (he _) q⟩
        · exact⟨!i,KXi.swapJ hZ (he _) q⟩
theorem KXi.putP (h:KI E (Q6 X (!i)) g c (UR X i) (UR X (!i))):KXi (Z2 X i E) g c i:= by
  have :=KXi.saidP (X:=X) (Z:=X) (out:=[]) (fun _ q=>q) Qa (KI.stayP h)
  exact this
theorem KXi.tick (h:KXi X g c i) (hi:INV X t) (hX:XW X) (j:Bool):KXi (ZO (Z2 X j (X7 (Q6 X j)).1) j (X7 (Q6 X j)).2) g c i:= by
  rcases(by cases i<;> cases j<;> simp :j=i∨j= !i)with e | e
  · rw[e]; exact KXi.saidP (fun _ q=>q) Qa (KI.tickP h (hX.at_ i))
  · rw[e]; exact KXi.saidJ (fun _ q=>q) Qa (KI.tickJ h (h.fx hi))
theorem KI.less' (h:KI P J g c MP MJ):KI P J g (c+1) MP MJ:=h.less (by omega) (fun _ q=>q) fun _ q=>q
def JY (r:Int) (g:SsD) (o:OpD):SsD:= if r=0∧17≤o.dO%32∧o.dO%32≤20 then YM g o else g
theorem KXi.own (h:KXi X g c i) (hi:INV X t) (hj:Q6 X j=E) {r:Int×EnD} (hP: ∀P J,KI P J g c (UR X i) (UR X (!i))→E=P→FX P J (UR X i) (UR X (!i))→KI r.2 J g' c' (UR X i) (UR X (!i))) (hJ:E.kind≠1→r.2=E) (hgc:j=(!i)→g'=g∧c≤c'):KX (Z2 X j r.2) g' c':= by
  have f:=h.fx hi
  rcases(by cases i<;> cases j<;> simp :j=i∨j= !i)with e | e
  · subst e
    exact⟨j,KXi.putP (hP _ _ h hj.symm f)⟩
  · have hk:E.kind≠1:= by rw[←hj,e]; exact KI.jk h f
    rw[hJ hk,←hj,YS]
    obtain⟨e1,e2⟩:=hgc e
    rw[e1]
    exact⟨i,h.fewer e2 Qa Qa fun _ q=>q⟩
theorem JP (h:E.kind≠1):Z5 E=false:= by
  unfold Z5 Hu; rw[Qv h]; simp
theorem owns_no (h:E.kind≠1):Hu E=false:= by
  unfold Hu; rw[Qv h]; simp
end
section
variable {X Y:TwD} {P J E:EnD} {s:SeD} {g g':SsD} {c c' t:Int} {i j:Bool} {out:List Bs} {m:MsD} {o:OpD} {MP MJ:MsD→Prop}
theorem Y6 {r:Int} (h: ¬(17≤o.dO%32∧o.dO%32≤20)):JY r g o=g:= by unfold JY; rw[if_neg (fun q=>h q.2)]
theorem H3 {r:Int} (h:r≠0):JY r g o=g:= by unfold JY; rw[if_neg (fun q=>h q.1)]
theorem Ux (h:17≤o.dO%32∧o.dO%32≤20):JY 0 g o=YM g o:= by unfold JY; rw[if_pos ⟨rfl,h⟩]
theorem KI.gs (h:KI P J g c MP MJ):Srt g.sheets:= by
  rcases h.ki with⟨_,s,_,a3,_⟩ | ⟨_,_,_,s,_,a3,_⟩<;> exact a3.gs
theorem KXi.chg (h:KXi X g c i) (hi:INV X t) {r:Int×EnD} (hP:KI (Q6 X j) (Q6 X (!j)) g c (UR X j) (UR X (!j))→(r.1=0→KI r.2 (Q6 X (!j)) g' (c+1) (UR X j) (UR X (!j)))∧(r.1≠0→r.2=Q6 X j)) (hJ:(Q6 X j).kind≠1→r=(7,Q6 X j)) (hg: ∀q,r.1=q→JY q g o= if q=0 then g' else g):KX (YX X j r).2 (JY (YX X j r).1 g o) (c+1):= by
  have f:=h.fx hi
  unfold YX
  rw[hg _ Qa]
  rcases(by cases i<;> cases j<;> simp :j=i∨j= !i)with e | e
  · subst e
    obtain⟨p1,p2⟩:=hP h
    by_cases q:r.1=0
    · rw[if_pos q]; exact⟨j,KXi.putP (p1 q)⟩
    · rw[if_neg q,p2 q,YS]; exact⟨j,h.fewer (by omega) Qa Qa fun _ q=>q⟩
  · have hk:(Q6 X j).kind≠1:= by rw[e]; exact KI.jk h f
    rw[hJ hk]
    dsimp only
    rw[if_neg (by decide),YS]; exact⟨i,h.fewer (by omega) Qa Qa fun _ q=>q⟩
theorem KXi.same (h:KXi X g c i) (hi:INV X t) {r:Int×EnD} (hP:KI (Q6 X j) (Q6 X (!j)) g c (UR X j) (UR X (!j))→FX (Q6 X j) (Q6 X (!j)) (UR X j) (UR X (!j))→KI r.2 (Q6 X (!j)) g c (UR X j) (UR X (!j))) (hJ:(Q6 X j).kind≠1→r=(7,Q6 X j)) (hk: ¬(17≤o.dO%32∧o.dO%32≤20)):KX (YX X j r).2 (JY (YX X j r).1 g o) (c+1):= by
  have f:=h.fx hi
  rw[Y6 hk]
  unfold YX
  rcases(by cases i<;> cases j<;> simp :j=i∨j= !i)with e | e
  · subst e
    exact⟨j,KXi.putP (KI.less' (hP h f))⟩
  · have hk:(Q6 X j).kind≠1:= by rw[e]; exact KI.jk h f
    rw[hJ hk,YS]; exact⟨i,h.fewer (by omega) Qa Qa fun _ q=>q⟩
theorem KX.step (h:KX X g c) (hi:INV X t) (hX:XW X) (hm: ∀i,Xy ((Q6 X i).move+1)) (hk: ¬(21≤o.dO%32∧o.dO%32≤25)) (hk2:o.dO%32≠28) (hs:o.s.length≤900) (hc:c<4611686018427387904):KX (Wy X o).2 (JY (Wy X o).1 g o) (c+1):= by
  obtain⟨i,h⟩:=h
  by_cases k8:o.dO%32=8
  · rw[stp_8 k8 Qa,Y6 (by omega)]
    exact⟨i,h.fewer (by omega) Qa Qa fun p hp=>List.mem_of_mem_eraseIdx hp⟩
  by_cases k9:o.dO%32=9
  · rw[stp_9 k9 Qa,Y6 (by omega)]
    refine⟨i, ?_⟩
    dsimp only
    unfold GC
    cases hp:X.fl[(ZU o.n X.fl.length).toNat]? with
    | none=> exact h.fewer (by omega) rfl rfl fun p hp=>hp
    | some p=>
      dsimp only
      split
      · exact h.fewer (by omega) Qa Qa fun p hp=>hp
      · refine h.fewer (by omega) Qa Qa fun q hq=> ?_
        rcases List.mem_append.1 hq with a | a
        · exact a
        · rw[List.mem_singleton.1 a]; exact List.mem_of_getElem? hp
  by_cases k10:10≤o.dO%32∧o.dO%32≤13
  · rw[Oq k10 Qa,Y6 (by omega)]
    exact⟨i,(h.tick hi hX _).fewer (by omega) Qa Qa fun p hp=>hp⟩
  by_cases k14:o.dO%32=14
  · rw[stp_14 k14 Qa]
    exact h.same hi (fun q f=>q.give f (hm _)) (fun q=> by unfold Wi; rw[if_pos (.inl (JP q))]) (by omega)
  by_cases k15:o.dO%32=15
  · rw[stp_15 k15 Qa]
    exact h.same hi (fun q f=>q.freeze) (fun q=> by unfold Zb; rw[if_pos (.inl (JP q))]) (by omega)
  by_cases k16:o.dO%32=16
  · rw[stp_16 k16 Qa]
    exact h.same hi (fun q f=>q.cancel) (fun q=> by unfold HC; rw[if_pos (.inl (owns_no q))]) (by omega)
  have hgs:Srt g.sheets:=KI.gs h
  by_cases k17:o.dO%32=17∨o.dO%32=18
  · have e:Wy X o=YX X (decide (o.n%2=1)) (Xx (Q6 X (decide (o.n%2=1))) o.id (List.replicate 64 o.b)):= by
      rcases k17 with q | q
      · exact Ow q Qa
      · exact Ov q Qa
    rw[e]
    refine h.chg hi (fun q=>q.setPage hc) (fun q=> by unfold Xx; rw[if_pos (JP q)]) fun q _=> ?_
    split
    · rename_i z; rw[z,Ux (by omega),Nn hgs (by omega) (by omega)]
    · rename_i z; exact H3 z
  by_cases k19:o.dO%32=19
  · rw[Ou k19 Qa]
    refine h.chg hi (fun q=>⟨fun z=>((q.dropPage (id:=o.id)).1 z).less',(q.dropPage (id:=o.id)).2⟩) (fun q=> by unfold XN; rw[if_pos (JP q)]) fun q _=> ?_
    split
    · rename_i z; rw[z,Ux (by omega),Np k19]
    · rename_i z; exact H3 z
  by_cases k20:o.dO%32=20
  · rw[Ot k20 Qa]
    refine h.chg hi (fun q=>⟨fun z=>((q.setState hs).1 z).less',(q.setState hs).2⟩) (fun q=> by unfold XM; rw[if_pos (JP q)]) fun q _=> ?_
    split
    · rename_i z; rw[z,Ux (by omega),V3 k20]
    · rename_i z; exact H3 z
  by_cases k26:o.dO%32=26
  · rw[stp_26 k26 Qa,Y6 (by omega)]
    exact⟨i,h.fewer (by omega) Qa Qa fun p hp=> by cases hp⟩
  by_cases k27:o.dO%32=27
  · rw[stp_27 k27 Qa,Y6 (by omega)]
    exact⟨i,h.fewer (by omega) Qa Qa fun p hp=>hp⟩
  · rw[stp_arr (by omega),Y6 (by omega)]
    obtain⟨k,q⟩:=h.arrive hi hX o.n
    exact⟨k,q.fewer (by omega) Qa Qa fun p hp=>hp⟩
theorem Mb: ∀{l:AL Bs} {last:Int},Jt last l=true→Srt l∧ ∀e∈l,last<e.1∧e.1≤1099511627776
  | [],last,_=>⟨List.Pairwise.nil, fun e he=> by cases he⟩
  | f::l,last,h=> by
    unfold Jt at h
    simp only[Bool.and_eq_true,decide_eq_true_eq]at h
    obtain⟨⟨⟨h1,h2⟩,h3⟩,h4⟩:=h
    obtain⟨k1,k2⟩:=Mb h4
    refine⟨List.pairwise_cons.2 ⟨fun x hx=> ?_,k1⟩, fun e he=> ?_⟩
    · obtain⟨e,he,rfl⟩:=List.mem_map.1 hx
      exact(k2 e he).1
    · rcases List.mem_cons.1 he with q | q
      · subst q; exact⟨h1,h2⟩
      · have :=k2 e q
        exact⟨by omega,this.2⟩
theorem S1 {g:SsD} (hs:Zi g=true) (hl:g.state.length≤900):KX ⟨(Z3 JS g).2,JS,[],false⟩ g 1:= by
  have hb:Z3 JS g=(0,{(QS JS 1 1).2 with ses:=some (Yr g),active:=false,frozen:=false,told:=true}):= by
    unfold Z3
    rw[if_neg (by decide),if_neg (by rw[hs];decide),if_neg (by rintro⟨q,_⟩; exact q ⟨rfl,rfl⟩),if_pos ⟨rfl,rfl⟩,if_neg (by rw[Gl];decide)]
  obtain⟨n1,D,C,n2,n3⟩:=new_q.note (k:=1) (m:=1) (by decide) (by unfold Xy;decide)
  rw[hb,n2]
  dsimp only
  unfold Zi at hs
  simp only[Bool.and_eq_true,decide_eq_true_eq]at hs
  obtain⟨k1,k2⟩:=Mb hs.1.1
  have hget: ∀id,QN (Yr g).pages id=(QN g.sheets id).map fun d=>⟨d,1,0,false⟩:= fun id=> by
    show QN (g.sheets.map fun e=>(e.1,(⟨e.2,1,0,false⟩:PgD))) id=_
    rw[Hl (f:= fun e:Int×Bs=>(⟨e.2,1,0,false⟩:PgD))]
  refine⟨false, ?_⟩
  refine⟨n3.same Qa Qa Qa Qa (.inr Qa),new_q, fun o q=>(by cases q), fun o q=>(by cases q),.inl ⟨rfl,_,rfl,⟨rfl,hl, ?_,k1, fun id=> ?_, fun id p hp _=> ?_,⟨(by show(0:Int)≤1;decide),(by show(1:Int)≤1;decide)⟩, fun id p hp=> ?_⟩,.inl fun id p hp=> ?_, fun q=> by cases q⟩⟩
  · exact Srt.map (f:= fun e:Int×Bs=>(⟨e.2,1,0,false⟩:PgD)) k1
  · rw[hget]; cases QN g.sheets id<;> simp
  · rw[hget]at hp
    cases k:QN g.sheets id with
    | none=> rw[k]at hp; cases hp
    | some d=> rw[k]at hp; cases hp;rfl
  · rw[hget]at hp
    cases k:QN g.sheets id with
    | none=> rw[k]at hp; cases hp
    | some d=>
      rw[k]at hp; cases hp
      have :=k2 (id,d) (JC k)
      exact⟨this.1,this.2,(by show(1:Int)≤1;decide),(by show(1:Int)≤1;decide)⟩
  · rw[hget]at hp
    cases k:QN g.sheets id with
    | none=> rw[k]at hp; cases hp
    | some d=> rw[k]at hp; cases hp;rfl
theorem Mq {p:PgD} {id:Int} (h:E.ses=some s) (k:QN s.pages id=some p):Uu E id= if p.miss=true then([],19)else(p.data,0):= by unfold Uu; rw[h]; dsimp only; rw[k]
theorem KI.holds (h:KI P J g c MP MJ) (hr:Z5 P=true):Yy P g=true∧ ∀id∈QP P,Uu J id=(IP g.sheets id,0):= by
  obtain⟨s,r1,r2,r3,r4,r5,_⟩:=h.runs (by rw[hr];decide)
  have hmi:QP P=Wd s.pages:= by unfold QP; rw[r3]
  constructor
  · obtain⟨gst,gsh⟩:=g
    have h1:(NT P).2=true:= by unfold NT; rw[r3];rfl
    have h2:(NT P).1=gst:= by unfold NT; rw[r3]; exact r4.st
    rw[Gr h1 h2 (i:=gsh.length) (fun e he=> ?_) Qa]
    · unfold WA
      rw[hmi,r3]
      dsimp only
      by_cases q:Wd s.pages=[]
      · rw[if_pos q,q]
        dsimp only
        have hn:=(Nm.of_miss r4.srt).1 q
        have e:s.pages.map shP=gsh:= by
          refine N6 (Srt.map (f:= fun e:Int×PgD=>e.2.data) r4.srt) r4.gs fun id=> ?_
          show QN (s.pages.map fun e=>(e.1,e.2.data)) id=_
          rw[Hl (f:= fun e:Int×PgD=>e.2.data)]
          cases k:QN s.pages id with
          | none=> exact((r4.ids id).1 k).symm
          | some p=> exact(r4.dat id p k (hn id p k)).symm
        rw[e]
        have h2:s.state=gst:=r4.st
        unfold Vp
        rw[h2]; simp
      · rw[if_neg q]
        have :((Wd s.pages).length:Int)≠0:= fun z=>q (List.eq_nil_of_length_eq_zero (by omega))
        rw[Qv this];rfl
    · rw[List.take_length]at he
      have hg:=Hk r4.gs he
      cases k:QN s.pages e.1 with
      | none=> have :=(r4.ids e.1).1 k; rw[hg]at this; cases this
      | some p=>
        unfold Ks
        rw[Mq r3 k]
        cases z:p.miss with
        | true=> rw[if_pos rfl]; simp
        | false=>
          rw[if_neg (by decide)]
          have :=r4.dat e.1 p k z
          rw[hg]at this
          simp [Option.some.inj this]
  · intro id MY
    rw[hmi]at MY
    unfold Wd at MY
    obtain⟨e,he,rfl⟩:=List.mem_map.1 MY
    obtain⟨he1,he2⟩:=List.mem_filter.1 he
    have hp:=Hk r4.srt he1
    rcases r5 with r5 | r5
    · have :=r5 e.1 e.2 hp; rw[this]at he2; cases he2
    · obtain⟨u,u1,u2⟩:=r5.ses
      obtain⟨q,q1,q2,_,q3⟩:=u2 e.1 e.2 hp he2
      rw[Mq u1 q1,q2,if_neg (by decide),IN,q3];rfl
theorem KX.holds (h:KX X g c) (hi:INV X t) (j:Bool) (hr:Z5 (Q6 X j)=true):Yy (Q6 X j) g=true∧Z5 (Q6 X (!j))=false∧ ∀id∈QP (Q6 X j),Uu (Q6 X (!j)) id=(IP g.sheets id,0):= by
  obtain⟨i,h⟩:=h
  have f:=h.fx hi
  rcases(by cases i<;> cases j<;> simp :j=i∨j= !i)with e | e
  · subst e
    obtain⟨h1,h2⟩:=KI.holds h hr
    exact⟨h1,JP (KI.jk h f),h2⟩
  · have hk:(Q6 X j).kind≠1:= by rw[e]; exact KI.jk h f
    rw[JP hk]at hr; cases hr
theorem St:(YM g o).sheets.length≤g.sheets.length+1:= by
  have hf: ∀(l:AL Bs) (a:AL Bs×Bool),(l.foldl (UZ (decide (o.dO%32=19)) o.id (List.replicate 64 o.b)) a).1.length+(if(l.foldl (UZ (decide (o.dO%32=19)) o.id (List.replicate 64 o.b)) a).2=false then 1 else 0)≤a.1.length+l.length+(if a.2=false then 1 else 0):= fun l=> by
    induction l with
    | nil=> intro a; exact Nat.le_refl _
    | cons y l ih=>
      intro a
      rw[List.foldl_cons]
      refine Nat.le_trans (ih _) ?_
      rw[List.length_cons]
      obtain⟨al,ad⟩:=a
      unfold UZ
      cases ad<;>split<;>(try split)<;>simp_all<;>omega
  unfold YM
  split
  · dsimp only;omega
  · have :=hf g.sheets ([],false)
    unfold Su MM
    rw[List.take_length]
    dsimp only
    generalize g.sheets.foldl _ _=z at this⊢
    obtain⟨zl,zd⟩:=z
    have h3:zl.length+1≤g.sheets.length+1+1:= by cases zd<;> simp at this⊢ <;>omega
    have h4:zd=false→zl.length+1≤g.sheets.length+1:= fun q=> by subst q;simpa using this
    dsimp only
    split
    · rename_i q; rw[List.length_append]; exact h4 q.1
    · omega
end
def HrQ:EnD→List Bs→EnD→Prop
  | E,[],E'=>E'=E
  | E,b::l,E'=> ∃E1,X9 E b=(E1,[])∧HrQ E1 l E'
section
variable {X Y:TwD} {P J E E' E1:EnD} {s:SeD} {g:SsD} {c t n:Int} {i j:Bool} {out l:List Bs} {m:MsD} {o:OpD} {rest:List (Bool×Bs)} {b:Bs}
theorem HrQ.app: ∀{l m:List Bs} {E E1 E2:EnD},HrQ E l E1→HrQ E1 m E2→HrQ E (l++m) E2
  | [],_,_,_,_,h,g=> by cases h; exact g
  | _::_,_,_,_,_,⟨F,h1,h2⟩,g=>⟨F,h1,h2.app g⟩
theorem HrQ.one (h:X9 E b=(E1,[])):HrQ E [b] E1:=⟨E1,h,rfl⟩
theorem put_put {l1 l2:List (Bool×Bs)}:Z2 {Z2 {X with fl:=l1} j E with fl:=l2} j E'=Z2 {X with fl:=l2} j E':= by cases j<;>rfl
theorem Cg {k:Nat} {p:Bool×Bs} (h:X.fl=p::rest):arrN (k+1) X=arrN k (XQ X 0):= by
  show(if X.fl=[]then X else arrN k (XQ X 0))=_
  rw[if_neg (by rw[h]; simp)]
theorem KE: ∀{k:Nat},X.fl=[]→arrN k X=X
  | 0,_=>rfl
  | k+1,h=> by
    show(if X.fl=[]then X else arrN k (XQ X 0))=_
    rw[if_pos h]
theorem B4: ∀{l:List Bs} {X:TwD} {E':EnD} {rest:List (Bool×Bs)} (k:Nat),HrQ (Q6 X j) l E'→X.fl=(l.map fun b=>(j,b))++rest→arrN (l.length+k) X=arrN k (Z2 {X with fl:=rest} j E')
  | [],X,E',rest,k,h,hf=> by
    cases h
    have hf:X.fl=rest:=hf
    rw[List.length_nil,Nat.zero_add,←hf]
    rw[show({X with fl:=X.fl}:TwD)=X from rfl,YS]
  | b::l,X,E',rest,k,⟨E1,h1,h2⟩,hf=> by
    have hf:X.fl=(j,b)::((l.map fun b=>(j,b))++rest):=hf
    rw[List.length_cons, show l.length+1+k=(l.length+k)+1 by omega,Cg hf,HR hf]
    dsimp only
    rw[h1]
    dsimp only
    rw[O1]
    have e:Q6 (Z2 {X with fl:=(l.map fun b=>(j,b))++rest} j E1) j=E1:=Jx
    rw[B4 (rest:=rest) k (by rw[e]; exact h2) (by rw[WE]),put_put]
theorem Ei {k:Nat} (h:X9 (Q6 X j) b=(E',out)) (hf:X.fl=(j,b)::rest):arrN (k+1) X=arrN k (ZO (Z2 {X with fl:=rest} j E') j out):= by
  rw[Cg hf,HR hf]
  dsimp only
  rw[h]
theorem Gb: ∀{l:List Bs} {X:TwD},X.cut=false→X.fl.length+l.length≤500→ZO X i l={X with fl:=X.fl++l.map fun b=>(!i,b)}
  | [],X,_,_=> by show X=_; rw[List.map_nil,List.append_nil]
  | b::l,X,h1,h2=> by
    rw[List.length_cons]at h2
    have e:Jb X i b={X with fl:=X.fl++[(!i,b)]}:= by
      unfold Jb; rw[if_neg (by rw[h1]; rintro(q | q)<;>first | omega | cases q)]
    show ZO (Jb X i b) i l=_
    rw[e,Gb (X:={X with fl:=X.fl++[(!i,b)]}) h1 (by rw[List.length_append]; simp;omega)]
    simp
theorem MA (h:X7 (Q6 X (!i))=(Q6 X (!i),[])):Wj X=arrN 400 (tickT X i):= by
  unfold Wj
  cases i with
  | false=>
    have e:Q6 (tickT X false) true=Q6 X true:= by rw[RX];rfl
    rw[Vh (X:=tickT X false) (i:=true) (by rw[e]; exact h)]
  | true=> rw[Vh (X:=X) (i:=false) h]
theorem DR (h:X7 (Q6 X i)=(E',out)) (hf:X.fl=[]) (hc:X.cut=false) (hl:out.length≤500):tickT X i={Z2 X i E' with fl:=out.map fun b=>(!i,b)}:= by
  unfold tickT
  rw[h]
  dsimp only
  rw[Gb (by rw[He]; exact hc) (by rw[WE,hf];simpa using hl),WE,hf,List.nil_append]
theorem F4 (h1:X7 (Q6 X (!i))=(Q6 X (!i),[])) (h2:X7 (Q6 X i)=(E,out)) (hf:X.fl=[]) (hc:X.cut=false) (hl:out.length≤400) (hq:HrQ (Q6 X (!i)) out E'):Wj X=Z2 (Z2 X i E) (!i) E':= by
  rw[MA h1,DR h2 hf hc (by omega)]
  have e0:Q6 ({Z2 X i E with fl:=out.map fun b=>(!i,b)}:TwD) (!i)=Q6 X (!i):= by rw[D0,Yg]
  have :=B4 (X:={Z2 X i E with fl:=out.map fun b=>(!i,b)}) (j:= !i) (l:=out) (E':=E') (rest:=[]) (400 -out.length) (by rw[e0]; exact hq) (by simp)
  rw[show out.length+(400 -out.length)=400 by omega]at this
  rw[this,KE]
  · have :(Z2 X i E).fl=[]:= by rw[WE]; exact hf
    cases i<;> simp [Z2,←hf]<;>rfl
  · rw[WE]
structure OffE (E E':EnD):Prop where
  e:E'={E with off:=E'.off}
theorem OffE.refl (E:EnD):OffE E E:=⟨rfl⟩
theorem OffE.trans {E2:EnD} (h:OffE E E1) (k:OffE E1 E2):OffE E E2:=⟨by rw[k.e,h.e]⟩
def NoP (E:EnD) (n:Int):Prop:= ∀o,E.off=some o→o.move≤n∧(o.move=n→o.parts=[])
theorem OP (hk:E.kind≠1) (hn:NoP E m.move):OffE E (Xp E m)∧NoP (Xp E m) m.move:= by
  unfold Xp
  rw[if_pos hk]
  cases hj:Zr E m.move with
  | none=> exact⟨⟨rfl⟩,hn⟩
  | some o=>
    obtain⟨_,_,h3,h4⟩:=CL hj
    have hp:o.parts=[]:= by
      rcases h4 with h4 | h4
      · exact(hn o h4).2 h3
      · exact h4.1
    refine⟨⟨rfl⟩, fun o' q=> ?_⟩
    have q:some _=some o':=q
    cases q
    cases QN o.pages m.a with
    | none=> exact⟨by show o.move≤_;omega, fun _=>hp⟩
    | some p=> dsimp only;split<;> exact⟨by show o.move≤_;omega, fun _=>hp⟩
theorem Kt (hn:0≤n∧n≤4611686018427387904): ∀{l:List Bs} {E:EnD},E.cell≠none→E.kind≠1→NoP E n→(∀b∈l,∃a v d,b=Zy ⟨0,n,a,v,d⟩∧Xy a∧Xy v∧d.length≤64)→ ∃E',HrQ E l E'∧OffE E E'∧NoP E' n
  | [],E,_,_,h3,_=>⟨E,rfl,OffE.refl E,h3⟩
  | b::l,E,h1,h2,h3,h4=> by
    obtain⟨a,v,d,rfl,k1,k2,k3⟩:=h4 b List.mem_cons_self
    have hu: ¬upE E=false:= by
      obtain⟨C,hC⟩:=Option.ne_none_iff_exists'.1 h1
      unfold upE; rw[hC]; simp
    have hh:X9 E (Zy ⟨0,n,a,v,d⟩)=(Xp E ⟨0,n,a,v,d⟩,[]):= by
      rw[WR hu (by simp) hn k1 k2 (by show d.length≤100000000000;omega)]
      unfold X8; rw[if_pos Qa]
    obtain⟨p1,p2⟩:=OP (m:=⟨0,n,a,v,d⟩) h2 h3
    have e:=p1.e
    obtain⟨E',q1,q2,q3⟩:=Kt hn (l:=l) (E:=Xp E ⟨0,n,a,v,d⟩) (by rw[e]; exact h1) (by rw[e]; exact h2) p2 fun b hb=>h4 b (List.mem_cons_of_mem _ hb)
    exact⟨E',⟨_,hh,q1⟩,p1.trans q2,q3⟩
end
