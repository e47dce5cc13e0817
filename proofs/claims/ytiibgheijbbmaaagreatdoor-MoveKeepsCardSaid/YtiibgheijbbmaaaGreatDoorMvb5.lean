/- move: a step keeps the sizes, plain -/
import Derived.Test.YtiibgheijbbmaaaGreatDoorMvb4
import Derived.Test.YtiibgheijbbmaaaGreatDoorMvt
set_option linter.unusedVariables false
set_option maxRecDepth 100000
set_option maxHeartbeats 2000000
namespace Go.Proofs.YtiibgheijbbmaaaGreatDoor
open Go.RowKit M Proofs.Tryz
theorem Sn {m:MsD} (h1:X4 m.kind) (h2:X4 m.move) (h3:X4 m.a) (h4:X4 m.b) (h5:m.data.length≤500):(YT m).length≤1000:= by
  have a1:=WR h1
  have a2:=WR h2
  have a3:=WR h3
  have a4:=WR h4
  have a5:=Ke (s:=m.data) (by omega)
  unfold YT
  simp only[List.length_append];omega
theorem Yo {E:EnD} {k a b:Int} {d:Bs} (h1:X4 k) (h2:X4 E.move) (h3:X4 a) (h4:X4 b) (h5:d.length≤500):(Z3 E k a b d).length≤1000:=Sn h1 h2 h3 h4 h5
theorem Yw {k:Int} (h:0≤k∧k≤10000):X4 k:= by unfold X4;omega
theorem RU {E:EnD} (hm:X4 E.move): ∀(l:AL PgD) (k:Nat),(∀e∈l,X4 e.1∧X4 e.2.ver∧X4 e.2.sent∧e.2.data.length≤64)→ ∀s∈(pushG E k l).2,s.length≤1000
  | [],k,_,s,hs=> by rw[pushG.eq_def]at hs; cases hs
  | e::l,k,h,s,hs=> by
    have he:=h e List.mem_cons_self
    have hl: ∀f∈l,_:= fun f hf=>h f (List.mem_cons_of_mem _ hf)
    rw[pushG.eq_def]at hs
    dsimp only at hs
    split at hs
    · exact RU hm l k hl s hs
    · cases k with
      | zero=> cases hs
      | succ k=>
        rcases List.mem_cons.1 hs with q | q
        · rw[q]; exact Yo (Yw (by omega)) hm he.1 he.2.1 (by omega)
        · exact RU hm l k hl s q
theorem DZ {E:EnD} (hm:X4 E.move) (l:Bs) {n:Int} (hn:1≤n∧n≤10000): ∀(k:Nat) (nx:Int),0≤nx∧nx<n→ ∀s∈(ZJ E l n k nx).2,s.length≤1000
  | 0,nx,_,s,hs=> by rw[ZJ]at hs; cases hs
  | k+1,nx,h,s,hs=> by
    rw[ZJ]at hs
    rcases List.mem_cons.1 hs with q | q
    · rw[q]; exact Yo (Yw (by omega)) hm (Yw (by omega)) (Yw (by omega)) (by rw[List.length_take];omega)
    · exact DZ hm l hn k _ ⟨Int.emod_nonneg _ (by omega),Int.emod_lt_of_pos _ (by omega)⟩ s q
theorem He {s t:Bs} (h:t.length≤1000) (hs:s∈[t]):s.length≤1000:= by rw[List.mem_singleton.1 hs]; exact h
theorem EW.tick_out {E:EnD} (h:EW E): ∀s∈(Z4 E).2,s.length≤1000:= by
  have hm:=h.km.2.2.2
  intro t ht
  unfold Z4 at ht
  split at ht
  · cases ht
  split at ht
  · refine He ?_ ht
    split
    · exact Yo (Yw (by omega)) hm ZS ZS (by simp)
    · exact Yo (Yw (by omega)) hm ZS ZS (by simp)
  split at ht
  · cases ht
  cases hs:E.ses with
  | none=> rw[hs]at ht; cases ht
  | some s=>
    rw[hs]at ht
    dsimp only at ht
    have hw:=h.ses s hs
    have hp:=RU hm s.pages 4 hw.pg
    split at ht
    · rename_i hac
      split at ht
      · exact hp t ht
      · rcases List.mem_append.1 ht with q | q
        · exact hp t q
        · rw[YV (WJ E s.pages 4)]at q
          have hnx:=h.nx hac s hs
          have h1:=UW (UH (s:=s))
          have h2:=BQ (Gg hw)
          exact DZ hm _ ⟨h1, by omega⟩ _ _ ⟨hnx.1,hnx.2.1⟩ t q
    · rcases List.mem_append.1 ht with q | q
      · obtain⟨i,hi,rfl⟩:=List.mem_map.1 q
        have hi1:=List.mem_of_mem_take hi
        obtain⟨e,he,rfl⟩:=List.mem_map.1 hi1
        exact Yo (Yw (by omega)) hm (hw.pg e (List.mem_filter.1 he).1).1 ZS (by simp)
      · split at q
        · exact He (Yo (Yw (by omega)) hm ZS ZS (by simp)) q
        · cases q
theorem EW.hear_out {E:EnD} (h:EW E) {b:Bs} (hb:b.length≤1000): ∀s∈(ZK E b).2,s.length≤1000:= by
  have hm:=h.km.2.2.2
  have z: ∀{t:Bs},t∈([]:List Bs)→t.length≤1000:= fun q=> by cases q
  obtain⟨d1,d2,d3,d4,d5⟩:=Tw b
  intro t ht
  unfold ZK at ht
  split at ht
  · exact z ht
  rename_i hc
  have hu:E.cell≠none:=KT fun q=>hc (.inl q)
  have key: ∀{E0:EnD},E0.cell=E.cell→(QT E0 2 (Xo b).move).1=0→X4 (QT E0 2 (Xo b).move).2.move:= fun he q=> by rw[UE (by rw[he]; exact hu) q]; exact d2
  unfold Zv at ht
  split at ht
  · exact z ht
  split at ht
  · unfold Zj at ht
    split at ht
    · exact z ht
    split at ht
    · exact z ht
    split at ht
    · exact z ht
    split at ht
    · exact z ht
    split at ht
    · exact z ht
    unfold YQ at ht
    split at ht
    · exact z ht
    · rename_i q
      refine He (Yo (Yw (by omega)) ?_ ZS ZS (by simp)) ht
      exact key Qa (Decidable.not_not.1 q)
  split at ht
  · unfold Xx at ht
    have hno:(noB (Xo b)).length≤1000:=Sn (Yw (by show(0:Int)≤5∧(5:Int)≤10000;omega)) d2 ZS ZS (by show([]:Bs).length≤_; simp)
    split at ht
    · exact He (Yo (Yw (by omega)) hm ZS ZS (by simp)) ht
    split at ht
    · exact z ht
    split at ht
    · split at ht
      · exact z ht
      · rename_i q
        refine He (Yo (Yw (by omega)) ?_ ZS ZS (by simp)) ht
        rw[UE hu (by simpa using q)]; exact hm
    split at ht
    · exact He hno ht
    · exact He hno ht
  split at ht
  · exact z ht
  split at ht
  · exact z ht
  split at ht
  · unfold ZW at ht
    split at ht
    · exact z ht
    cases hs:E.ses with
    | none=> rw[hs]at ht; exact He (Yo (Yw (by omega)) hm ZS ZS (by simp)) ht
    | some s=>
      rw[hs]at ht
      dsimp only at ht
      cases hp:Xg s.pages (Xo b).a with
      | none=> rw[hp]at ht; exact z ht
      | some p=>
        rw[hp]at ht
        have :=(h.ses s hs).pg _ (V3 hp)
        exact He (Yo (Yw (by omega)) hm d3 this.2.1 (by have :=this.2.2.2; dsimp only at this;omega)) ht
  split at ht
  · exact z ht
  split at ht
  · unfold WM at ht
    split at ht
    · exact z ht
    · exact He (Yo (Yw (by omega)) hm ZS ZS (by simp)) ht
  · exact z ht
section
variable {X:TwD} {E:EnD} {i:Bool} {l:List Bs} {o:OpD}
theorem XW.put (h:XW X) (hE:EW E):XW (Vv X i E):= by
  cases i with
  | false=> exact⟨hE,h.b,h.fl,h.ln⟩
  | true=> exact⟨h.a,hE,h.fl,h.ln⟩
theorem XW.send (h:XW X) (hl: ∀s∈l,s.length≤1000):XW (Yh X i l):= by
  obtain⟨a,b,_⟩:=K7 (i:=i) (l:=l) (X:=X)
  refine⟨by rw[a]; exact h.a, by rw[b]; exact h.b, fun p hp=> ?_,DR h.ln⟩
  rcases VQ hp with q | ⟨s,hs,q⟩
  · exact h.fl p q
  · rw[q]; exact hl s hs
theorem XW.at_ (h:XW X) (i:Bool):EW (ZX X i):= by cases i; exact h.a; exact h.b
theorem XW.drop (h:XW X) (n:Int):XW (Dd X n):=⟨h.a,h.b, fun p hp=>h.fl p (List.mem_of_mem_eraseIdx hp),Nat.le_trans (List.length_eraseIdx_le _ _) h.ln⟩
theorem XW.arrive (h:XW X) (n:Int):XW (Jb X n):= by
  unfold Jb
  cases hp:X.fl[(Ze n X.fl.length).toNat]? with
  | none=> exact h
  | some p=>
    dsimp only
    have hl:=h.fl p (List.mem_of_getElem? hp)
    exact((h.drop n).put ((h.at_ p.1).hear hl)).send ((h.at_ p.1).hear_out hl)
theorem XW.double (h:XW X) (n:Int):XW (Hh X n):= by
  unfold Hh
  cases hp:X.fl[(Ze n X.fl.length).toNat]? with
  | none=> exact h
  | some p=>
    dsimp only
    split
    · exact h
    · refine⟨h.a,h.b, fun q hq=> ?_, by show(X.fl++[p]).length≤500; rw[List.length_append]; simp;omega⟩
      rcases List.mem_append.1 hq with r | r
      · exact h.fl q r
      · rw[List.mem_singleton.1 r]; exact h.fl p (List.mem_of_getElem? hp)
theorem XW.step (h:XW X) (hm: ∀i,X4 ((ZX X i).move+1)) (o:OpD):XW (Zc X o).2:= by
  unfold Zc
  generalize o.dO%32=k
  generalize decide (o.n%2=1)=i
  dsimp only
  have hE:=h.at_ i
  have P: ∀{r:Int×EnD},EW r.2→XW (UU X i r).2:= fun q=>h.put q
  refine XK (P:= fun r:Int×TwD=>XW r.2) (fun _=>h.drop _) fun _=> ?_
  refine XK (P:= fun r:Int×TwD=>XW r.2) (fun _=>h.double _) fun _=> ?_
  refine XK (P:= fun r:Int×TwD=>XW r.2) (fun _=>(h.put hE.tick).send hE.tick_out) fun _=> ?_
  refine XK (P:= fun r:Int×TwD=>XW r.2) (fun _=>P (hE.give (hm i))) fun _=> ?_
  refine XK (P:= fun r:Int×TwD=>XW r.2) (fun _=>P hE.freeze) fun _=> ?_
  refine XK (P:= fun r:Int×TwD=>XW r.2) (fun _=>P hE.cancel) fun _=> ?_
  refine XK (P:= fun r:Int×TwD=>XW r.2) (fun _=>P (hE.setPage _ _)) fun _=> ?_
  refine XK (P:= fun r:Int×TwD=>XW r.2) (fun _=>P (hE.dropPage _)) fun _=> ?_
  refine XK (P:= fun r:Int×TwD=>XW r.2) (fun _=>P (hE.setState _)) fun _=> ?_
  refine XK (P:= fun r:Int×TwD=>XW r.2) (fun _=>h.put (EW.crash _)) fun _=> ?_
  refine XK (P:= fun r:Int×TwD=>XW r.2) (fun _=>P hE.start) fun _=> ?_
  refine XK (P:= fun r:Int×TwD=>XW r.2) (fun _=>h.put (hE.disk _)) fun _=> ?_
  refine XK (P:= fun r:Int×TwD=>XW r.2) (fun _=>h.put (hE.disk _)) fun _=> ?_
  refine XK (P:= fun r:Int×TwD=>XW r.2) (fun _=>⟨h.a,h.b, fun p q=>(by cases q), by simp⟩) fun _=> ?_
  refine XK (P:= fun r:Int×TwD=>XW r.2) (fun _=>⟨h.a,h.b,h.fl,h.ln⟩) fun _=> ?_
  refine XK (P:= fun r:Int×TwD=>XW r.2) (fun _=> ?_) fun _=> ?_
  · split
    · exact P hE.begin
    · exact h
  · exact h.arrive _
theorem INV.mv {t:Int} (h:INV X t) (hX:XW X) (i:Bool):(ZX X i).move≤max t 0:= by
  obtain⟨S,S',h1,h2,_,h4,h5⟩:=h.at i
  cases q:(ZX X i).cell with
  | none=> have :=congrArg EnD.move ((hX.at_ i).dn q); rw[this]; show(0:Int)≤_;omega
  | some C=>
    have :=h5 _ ((Uy h2 (by rw[q]; exact fun z=> by cases z) _).2 Qa)
    have :(ZX X i).move≤t:=this
    show(ZX X i).move≤_
    omega
end
structure QE (E:EnD):Prop where
  ei:EI E (fun x=>x=(E.kind,E.move))
  up:E.cell≠none
  calm:Calm E.D
theorem Ak {D:DS} {C:CS} {P:Nat→Bytes→Prop} {s:Bytes} (hg:Good D 0 C P) (hc:Calm D) (hl:s.length≤65536):(Zq D C s).e=0∧Calm (Zq D C s).D:= by
  have hcf:=hg.cf
  by_cases q:C.sure=false∧0<C.slot
  · obtain⟨a1,a2,a3⟩:=hc.sync (f:=0) hg.up
    have hm:ZM (X1 D 0) 0=0:= by rw[a2]; have :=hg.up;simpa [ZM,Wl]using this
    rw[RQ (by omega) q.1 q.2 (by rw[hcf]; exact a1),hcf]
    have hc2:Calm (X1 D 0):= by rw[a2]; exact a3
    obtain⟨b1,b2,_⟩:=hc2.set (f:=0) (C:={C with sure:=true}) (s:=s) hm hcf (by simp) hl
    rw[VP (by omega) (by simp),hcf]at b1 b2
    exact⟨b1,b2⟩
  · obtain⟨b1,b2,_⟩:=hc.set (f:=0) (C:=C) (s:=s) hg.up hcf q hl
    exact⟨b1,b2⟩
section
variable {E E':EnD} {k m:Int}
theorem QE.note (h:QE E) (hk:0≤k∧k<4) (hm:0≤m∧X4 m):(QT E k m).1=0∧ ∃D C,(QT E k m).2={E with D:=D,cell:=some C,kind:=k,move:=m}∧QE {E with D:=D,cell:=some C,kind:=k,move:=m}:= by
  obtain⟨C,hC⟩:=Option.ne_none_iff_exists'.1 h.up
  have hl:(Xf k++Xf m).length≤65536:= by
    have h1:=WR (n:=k) (by unfold X4;omega)
    have h2:=WR hm.2
    rw[List.length_append];omega
  obtain⟨a1,a2⟩:=Ak (h.ei.up C hC).1 h.calm hl
  have e0:(QT E k m).1=0:= by rw[Vz hC a1]
  rcases h.ei.note h.up hk hm with⟨_,b2,D,C2,b3⟩ | ⟨b1,_⟩
  · refine⟨e0,D,C2,b3,⟨?_,(by intro q; cases q), ?_⟩⟩
    · rw[b3]at b2; exact b2
    · have e:(QT E k m).2.D=(Zq E.D C (Xf k++Xf m)).D:= by rw[Vz hC a1]
      rw[b3]at e
      show Calm D
      rw[show D=(Zq E.D C (Xf k++Xf m)).D from e]; exact a2
  · exact absurd e0 b1
theorem QE.same (h:QE E) (h1:E'.D=E.D) (h2:E'.cell=E.cell) (h3:E'.kind=E.kind) (h4:E'.move=E.move) (h5:E'.active=E.active∨E'.active=false):QE E':=
  ⟨by rw[h3,h4]; exact h.ei.same h1 h2 h3 h4 h5, by rw[h2]; exact h.up, by rw[h1]; exact h.calm⟩
theorem QE.act (h:QE E) (b:Bool):QE {E with active:=b}:= by
  refine⟨⟨fun C q=>h.ei.up C q, fun q=>absurd q h.up, fun q=>absurd q h.up⟩,h.up,h.calm⟩
theorem QE.stored (h:QE E):Zg E=(E.kind,E.move):=h.ei.stored
theorem new_q:QE Ho:=⟨new_ei,(by intro q; cases q),calm_new⟩
theorem QE.rg (h:QE E):0≤E.kind∧E.kind<4∧0≤E.move∧X4 E.move:=h.ei.rg h.up
theorem QE.upE (h:QE E): ¬upE E=false:= by
  obtain⟨C,hC⟩:=Option.ne_none_iff_exists'.1 h.up
  unfold Go.Proofs.YtiibgheijbbmaaaGreatDoor.upE; rw[hC]; simp
end
theorem Af {m:MsD} (h1:X4 m.kind) (h2:X4 m.move) (h3:X4 m.a) (h4:X4 m.b) (h5:m.data.length≤100000000000):Xo (YT m)=m:= by
  have e:YT m=Xf m.kind++(Xf m.move++(Xf m.a++(Xf m.b++(Hw m.data++[])))):= by unfold YT; simp
  obtain⟨a1,a2⟩:=YC (m:=m.kind) (rest:=Xf m.move++(Xf m.a++(Xf m.b++(Hw m.data++[])))) (least:=(-9223372036854775808:Int)) h1 (by unfold X4 at h1;omega)
  obtain⟨b1,b2⟩:=YC (m:=m.move) (rest:=Xf m.a++(Xf m.b++(Hw m.data++[]))) (least:=(-9223372036854775808:Int)) h2 (by unfold X4 at h2;omega)
  obtain⟨c1,c2⟩:=YC (m:=m.a) (rest:=Xf m.b++(Hw m.data++[])) (least:=(-9223372036854775808:Int)) h3 (by unfold X4 at h3;omega)
  obtain⟨d1,d2⟩:=YC (m:=m.b) (rest:=Hw m.data++[]) (least:=(-9223372036854775808:Int)) h4 (by unfold X4 at h4;omega)
  obtain⟨t1,t2⟩:=TP (s:=m.data) (rest:=[]) h5
  unfold Xo
  dsimp only
  rw[e,a1,a2,b1,b2,c1,c2,d1,d2,t1]
theorem Rj {E:EnD} {m:MsD} (hu: ¬upE E=false) (h1:0≤m.kind∧m.kind≤9) (h2:0≤m.move∧m.move≤4611686018427387904) (h3:X4 m.a) (h4:X4 m.b) (h5:m.data.length≤100000000000):ZK E (YT m)=Zv E m:= by
  have hd:=Af (m:=m) (by unfold X4;omega) (by unfold X4;omega) h3 h4 h5
  rw[Ji (by rw[hd]; rintro(q | q | q | q | q | q); exact hu q;omega;omega;omega;omega; exact q rfl),hd]
abbrev pg7:Bs:=List.replicate 64 7
abbrev ss7:SsD:=⟨[115],[(3,pg7)]⟩
abbrev sd7 (sent:Int):SeD:=⟨[115],1,[(3,⟨pg7,1,sent,false⟩)]⟩
abbrev ls7:Bs:=X8 (sd7 0)
theorem Mh {k:Int} (h:0≤k∧k≤9):X4 k:=XG h
theorem BS {k:Int} (h:0≤k∧k≤9):0≤k∧X4 k:=⟨h.1,XG h⟩
theorem MW:ls7.length≤150∧1≤ls7.length:= by
  have h1:=WR (n:=1) (Mh (by omega))
  have h3:=WR (n:=3) (Mh (by omega))
  have h4:=Ke (s:=[115]) (by simp)
  have h5:=UH (s:=sd7 0)
  refine⟨?_,h5⟩
  show(Hw [115]++Xf ((1:Nat):Int)++([(3,(⟨pg7,1,0,false⟩:PgD))]:AL PgD).flatMap fun e=>Xf e.1++Xf e.2.ver).length≤150
  simp only[List.flatMap_cons,List.flatMap_nil,List.length_append,List.length_nil,List.append_nil,List.length_cons]at *
  have :(((1:Nat):Int))=1:=rfl
  rw[this];omega
theorem FB:Zt ls7=1:= by
  have :=MW
  unfold Zt;omega
theorem Mc:Wy ls7=(some ⟨[115],1,[(3,⟨[],1,0,true⟩)]⟩,true):= by
  have h:=Pd (s:=sd7 0) (List.pairwise_singleton _ _) (fun e he=> by rcases List.mem_singleton.1 he with rfl;decide) (fun e he=> by rcases List.mem_singleton.1 he with rfl; exact⟨by decide, by decide,Ss⟩) (by simp) (by simp) (by simp)
  exact h
theorem Ca: ∃A1 A2 A3 A4 A5 A6 B1 B2 B3 m1 m2 n1 o1,(Zw Ho ss7).2=A1∧JU A1=(0,A2)∧Z4 A2=(A3,[m1])∧Wz A3=(0,A4)∧Z4 A4=(A5,[m2])∧(ZK Ho m1).1=B1∧ZK B1 m2=(B2,[n1])∧ZK A5 n1=(A6,[o1])∧(ZK B2 o1).1=B3∧A1.move=1∧
    GJ B3 3=(pg7,0)∧ZZ B3=true∧ZZ A6=false∧QY B3=[]∧Jf (Zg A6) (Zg B3)=1:= by
  have c0:(0:Int)≤1∧(1:Int)<4:= by omega
  -- the first end begins
  obtain⟨n1,D1,C1,e1,q1⟩:=new_q.note (k:=1) (m:=1) (by omega) (BS (by omega))
  have hr:Zb ss7=true:= by decide
  have b1:(Zw Ho ss7).2={Ho with D:=D1,cell:=some C1,kind:=1,move:=1,ses:=some (sd7 0),active:=false,frozen:=false,told:=true}:= by
    unfold Zw
    rw[if_neg (by decide),if_neg (by rw[hr];decide),if_neg (by rintro⟨q,_⟩; exact q ⟨rfl,rfl⟩),if_pos ⟨rfl,rfl⟩,if_neg (by rw[n1];decide),e1]
    rfl
  generalize hA1:({Ho with D:=D1,cell:=some C1,kind:=1,move:=1,ses:=some (sd7 0),active:=false,frozen:=false,told:=true}:EnD)=A1 at b1
  have qA1:QE A1:= by subst hA1; exact q1.same Qa Qa Qa Qa (.inr Qa)
  -- it gives
  have hmv1:A1.move+1=2:= by subst hA1;rfl
  obtain⟨n2,D2,C2,e2,q2⟩:=qA1.note (k:=1) (m:=A1.move+1) (by omega) (by rw[hmv1]; exact BS (by omega))
  have b2:JU A1=(0,{A1 with D:=D2,cell:=some C2,kind:=1,move:=2,active:=true,next:=0}):= by
    have h0: ¬(ZZ A1=false∨QY A1≠[]∨A1.active=true):= by
      subst hA1
      rintro(q | q | q)
      · exact Bool.noConfusion (show true=false from q)
      · exact q Qa
      · exact Bool.noConfusion (show false=true from q)
    rw[Tg h0 n2 e2,hmv1]
    subst hA1;rfl
  generalize hA2:({A1 with D:=D2,cell:=some C2,kind:=1,move:=2,active:=true,next:=0}:EnD)=A2 at b2
  have qA2:QE A2:= by subst hA2; rw[hmv1]at q2; exact(q2.act true).same Qa Qa Qa Qa (.inl Qa)
  have s2:A2.ses=some (sd7 0)∧A2.kind=1∧A2.active=true∧A2.frozen=false∧A2.move=2∧A2.next=0:= by subst hA2; subst hA1; exact⟨rfl,rfl,rfl,rfl,rfl,rfl⟩
  -- it ticks, is frozen, and ticks
  have b3:Z4 A2=({A2 with ses:=some (sd7 1)},[Z3 A2 0 3 1 pg7]):= by
    rw[U8 qA2.upE s2.2.1 s2.1 s2.2.2.1,if_pos s2.2.2.2.1,if_pos s2.2.2.2.1,List.append_nil];rfl
  have b4:Wz {A2 with ses:=some (sd7 1)}=(0,{A2 with ses:=some (sd7 1),frozen:=true}):= by
    have hrun:ZZ {A2 with ses:=some (sd7 1)}=true:= by
      unfold ZZ Vh upE
      show(A2.cell.isSome&&decide (A2.kind=1)&&true&& !A2.frozen)=true
      rw[s2.2.1,s2.2.2.2.1]
      cases h:A2.cell
      · exact absurd h qA2.up
      · rfl
    unfold Wz
    rw[if_neg (by rintro(q | q);(rw[hrun]at q; cases q);(rw[show({A2 with ses:=some (sd7 1)}:EnD).active=A2.active from rfl,s2.2.2.1]at q; cases q))]
  generalize hA4:({A2 with ses:=some (sd7 1),frozen:=true}:EnD)=A4 at b4
  have qA4:QE A4:= by subst hA4; exact qA2.same Qa Qa Qa Qa (.inl Qa)
  have s4:A4.ses=some (sd7 1)∧A4.kind=1∧A4.active=true∧A4.frozen=true∧A4.move=2∧A4.next=0:= by subst hA4; exact⟨rfl,s2.2.1,s2.2.2.1,rfl,s2.2.2.2.2.1,s2.2.2.2.2.2⟩
  have hpg:pushG A4 4 (sd7 1).pages=((sd7 1).pages,[]):=rfl
  have hls:X8 {sd7 1 with pages:=(pushG A4 4 (sd7 1).pages).1}=ls7:=rfl
  have b5:Z4 A4=(A4,[Z3 A4 1 0 1 ls7]):= by
    rw[U8 qA4.upE s4.2.1 s4.1 s4.2.2.1,if_neg (by rw[s4.2.2.2.1];decide),if_neg (by rw[s4.2.2.2.1];decide),hls,FB,s4.2.2.2.2.2]
    have hp:ZJ A4 ls7 1 (min (1:Int) 32).toNat 0=(0,[Z3 A4 1 0 1 ls7]):= by
      show ZJ A4 ls7 1 1 0=_
      rw[ZJ,ZJ]
      have h200:List.take 200 (List.drop (200*(0:Int)).toNat ls7)=ls7:=List.take_of_length_le (by show ls7.length≤200; have :=MW;omega)
      rw[h200];rfl
    rw[hp,hpg]
    have :({A4 with ses:=some {sd7 1 with pages:=(sd7 1).pages},next:=0}:EnD)=A4:= by
      cases A4; dsimp only at s4⊢; rw[s4.1,s4.2.2.2.2.2]
    rw[this];rfl
  -- the other end hears a page
  have qN:=new_q
  have e1m:Z3 A2 0 3 1 pg7=YT ⟨0,2,3,1,pg7⟩:= by unfold Z3; rw[s2.2.2.2.2.1]
  have h1:ZK Ho (Z3 A2 0 3 1 pg7)=({Ho with off:=some ⟨2,[],0,[(3,⟨pg7,1,0,false⟩)],[]⟩},[]):= by
    rw[e1m,Rj qN.upE (by decide) (by decide) (Mh (by decide)) (Mh (by decide)) (by simp)];rfl
  generalize hB1:({Ho with off:=some ⟨2,[],0,[(3,⟨pg7,1,0,false⟩)],[]⟩}:EnD)=B1 at h1
  have qB1:QE B1:= by subst hB1; exact new_q.same Qa Qa Qa Qa (.inl Qa)
  -- the part
  have e2m:Z3 A4 1 0 1 ls7=YT ⟨1,2,0,1,ls7⟩:= by unfold Z3; rw[s4.2.2.2.2.1]
  have hpB:We ⟨2,[(0,ls7)],1,[(3,⟨pg7,1,0,false⟩)],[]⟩=ls7:= by
    show(List.range 1).flatMap _=_
    simp [Xg,List.range_succ]
  have qB1':QE {B1 with off:=some ⟨2,[(0,ls7)],1,[(3,⟨pg7,1,0,false⟩)],ls7⟩}:=qB1.same Qa Qa Qa Qa (.inl Qa)
  obtain⟨n3,D3,C3,e3,q3⟩:=qB1'.note (k:=2) (m:=2) (by omega) (BS (by omega))
  have h2:ZK B1 (Z3 A4 1 0 1 ls7)=({B1 with D:=D3,cell:=some C3,kind:=2,move:=2,ses:=none,off:=some ⟨2,[(0,ls7)],1,[(3,⟨pg7,1,0,false⟩)],ls7⟩},[YT ⟨2,2,0,0,[]⟩]):= by
    rw[e2m,Rj qB1.upE (by show(0:Int)≤1∧(1:Int)≤9;omega) (by show(0:Int)≤2∧(2:Int)≤_;omega) (Mh (by show(0:Int)≤0∧(0:Int)≤9;omega)) (Mh (by show(0:Int)≤1∧(1:Int)≤9;omega)) (by have :=MW; show ls7.length≤_;omega),CV Qa]
    have hj:Ww B1 2=some ⟨2,[],0,[(3,⟨pg7,1,0,false⟩)],[]⟩:= by subst hB1;rfl
    have hpr:(JR (XO ⟨2,[],0,[(3,⟨pg7,1,0,false⟩)],[]⟩ 1) ⟨1,2,0,1,ls7⟩)=⟨2,[(0,ls7)],1,[(3,⟨pg7,1,0,false⟩)],[]⟩:=rfl
    rw[BV (o:=⟨2,[],0,[(3,⟨pg7,1,0,false⟩)],[]⟩) (by dsimp only;omega) hj (by decide) (by rw[hpr];decide) (by rw[hpr,hpB,Mc];decide)]
    dsimp only
    rw[hpr,hpB,Ce n3,e3];rfl
  generalize hB2:({B1 with D:=D3,cell:=some C3,kind:=2,move:=2,ses:=none,off:=some ⟨2,[(0,ls7)],1,[(3,⟨pg7,1,0,false⟩)],ls7⟩}:EnD)=B2 at h2
  have qB2:QE B2:= by subst hB2; exact q3.same Qa Qa Qa Qa (.inl Qa)
  -- given
  obtain⟨n4,D4,C4,e4,q4⟩:=qA4.note (k:=3) (m:=A4.move) (by omega) (by rw[s4.2.2.2.2.1]; exact BS (by omega))
  have h3:ZK A4 (YT ⟨2,2,0,0,[]⟩)=({A4 with D:=D4,cell:=some C4,kind:=3,move:=A4.move,active:=false},[YT ⟨4,2,0,0,[]⟩]):= by
    rw[Rj qA4.upE (by decide) (by decide) ZS ZS (by simp),CU Qa,Tc s4.2.1 ⟨rfl,s4.2.2.2.2.1.symm,s4.2.2.1,s4.2.2.2.1⟩ n4,e4]
    unfold Z3; dsimp only; rw[s4.2.2.2.2.1]
  generalize hA6:({A4 with D:=D4,cell:=some C4,kind:=3,move:=A4.move,active:=false}:EnD)=A6 at h3
  have qA6:QE A6:= by subst hA6; exact q4.same Qa Qa Qa Qa (.inr Qa)
  -- taken
  obtain⟨n5,D5,C5,e5,q5⟩:=qB2.note (k:=1) (m:=2) (by omega) (BS (by omega))
  have sB2:B2.kind=2∧B2.move=2∧B2.off=some ⟨2,[(0,ls7)],1,[(3,⟨pg7,1,0,false⟩)],ls7⟩:= by subst hB2; exact⟨rfl,rfl,rfl⟩
  have h4:ZK B2 (YT ⟨4,2,0,0,[]⟩)=({B2 with D:=D5,cell:=some C5,kind:=1,move:=2,off:=none,ses:=some (sd7 0),told:=false,active:=false,frozen:=false},[]):= by
    rw[Rj qB2.upE (by decide) (by decide) ZS ZS (by simp),CT Qa,CM (m:=⟨4,2,0,0,[]⟩) (by rw[sB2.1,sB2.2.1];decide) n5 e5 sB2.2.2 Qa Mc];rfl
  generalize hB3:({B2 with D:=D5,cell:=some C5,kind:=1,move:=2,off:=none,ses:=some (sd7 0),told:=false,active:=false,frozen:=false}:EnD)=B3 at h4
  have qB3:QE B3:= by subst hB3; exact q5.same Qa Qa Qa Qa (.inr Qa)
  have t6:A6.kind=3∧A6.move=2:= by subst hA6; exact⟨rfl,s4.2.2.2.2.1⟩
  have t3:B3.kind=1∧B3.move=2∧B3.ses=some (sd7 0)∧B3.frozen=false:= by subst hB3; exact⟨rfl,rfl,rfl,rfl⟩
  refine⟨A1,A2,_,A4,A4,A6,B1,B2,B3,_,_,_,_,b1,b2,b3,b4,b5, by rw[h1],h2,h3, by rw[h4], by omega, ?_, ?_, ?_, ?_, ?_⟩
  · unfold GJ; rw[t3.2.2.1];rfl
  · unfold ZZ Vh; rw[t3.1,t3.2.2.1,t3.2.2.2, show upE B3=true by cases h:upE B3; exact absurd h qB3.upE;rfl];rfl
  · unfold ZZ Vh; rw[t6.1]; simp
  · unfold QY; rw[t3.2.2.1];rfl
  · rw[qA6.stored,qB3.stored,t6.1,t6.2,t3.1,t3.2.1];rfl
theorem FI {w:World} {F:Th} (hS:Sat w [F]) (hG:Ent F WireG) (hO:Ent F (Glob 0)) {t:Bs} {sv:Value} {l:AL Bs} (hL:Ent F (RdL shC sv l)):
    Calls prog 10 #[.agg #[strV t,sv]] w (Ret fun v w'=> ∃x,v=ptrV x 0∧Sat w' [Dv x ⟨(Zw Ho ⟨t,l⟩).2,Ho,[],false⟩,F]):= by
 refine Qy func10 Qa ntmps10 Qa ?_
 refine Qf (Qb (Za hS Qa Qa Qa ?_))
 intro bp w1 hS10
 have hS1:Sat w1 [Xb bp [strV t,sv],F]:=hS10
 refine Qc Qa Qa (Qh (Qd (Qf (Qb (Q0 T5 Qa (Br (hS1.sp [] Qa) (hO.starL 1 Qa)) Qa ?_)))))
 rintro _ w2 ⟨a,rfl,hS2⟩
 replace hS2:=hS2.jn Qa Qa
 refine Q0 T5 Qa (Br (hS2.sp [] Qa) (hO.starL 2 Qa)) Qa ?_
 rintro _ w3 ⟨b,rfl,hS3⟩
 replace hS3:=hS3.jn Qa Qa
 refine Xe RV [a,b] hS3 Qa underlying38 ifz_37 Qa Qa Qa Qa (by first | rfl | simp [RowC.cells,Z2,Xc]) Qa ?_
 intro b4 w4 hS4
 refine Q0 cal_39 Qa (Er (hS4.sp [] Qa)) Qa ?_
 rintro _ w5 ⟨lp,rfl,hS5⟩
 replace hS5:=hS5.jn Qa Qa
 refine Zs Qa Fx asz_41 zr_41 Qa Qa (Za hS5 Qa Qa Qa ?_)
 intro b6 w6 hS6
 refine Qc Qa Qa (Qh (Qd (Qf (Qf (Qb (Qe Qa Qa (Ql Qa Qa (Qi Qa Wc Qa (Qr Qa Jx (by first | assumption | exact hS6.cell 0 Qa Qa | exact hS6.cell 5 Qa Qa) Qa ?_)))))))))
 refine Wj RV 2 0 hS6 Qa Qa Qa (by first | rfl | omega) (show[a,b][0]? =some a from rfl) Ym Qa ?_
 intro bx7 capx7 hvx7
 refine W8 2 0 0 hS6 Qa hvx7 Qa Qa (show[a,b][0]? =some a from rfl) J5 Qa Qa (ZG underlying37 Qa Qa Qa (Qe Qa Qa (Qj Qa Qa Qa (Qe Qa Qa (Qj Qa Qa Qa (Ql Qa Qa (Qj Qa Qa Qa (Qi Qa Wc Qa (Qj Qa Qa Qa (Qr Qa Jx (by first | assumption | exact hS6.cell 0 Qa Qa | exact hS6.cell 5 Qa Qa) Qa ?_))))))))))
 refine Qj Qa Qa Qa (Wj RV 2 1 hS6 Qa Qa Qa (by first | rfl | omega) (show[a,b][1]? =some b from rfl) Ym Qa ?_)
 intro bx8 capx8 hvx8
 refine Qj Qa Qa Qa (W8 2 1 0 hS6 Qa hvx8 Qa Qa (show[a,b][1]? =some b from rfl) J5 Qa Qa (Qj Qa Qa Qa (ZG underlying37 Qa Qa Qa (Q3 Qa Qa Qa Qa (Qe Qa Qa (Qj Qa Qa Qa (Qe Qa Qa (Qj Qa Qa Qa (Ql Qa Qa (Qj Qa Qa Qa (Qi Qa XA Qa (Qj Qa Qa Qa (Qr Qa Xp (by first | assumption | exact hS6.cell 0 Qa Qa | exact hS6.cell 5 Qa Qa) Qa ?_)))))))))))))
 refine Qj Qa Qa Qa (ZG underlying39 Qa Qa Qa (Q3 Qa Qa Qa Qa (Qh (Qd (Qk [1,2,3,32] Qa (QJ Qa (Qt (Qd (Qf ?_)))))))))
 have hS9:=hS6.drew
 refine QN [0,1,2,3,4,5,6,7] [7] W5 (by kernel_rfl) ?_
 refine QI Qa Qa Qa (Xn Qa Qa Qa (QO Qa Qa Qa Wc (QF Qa Qa Qa (Qn Qa Jx (by first | assumption | exact hS9.cell 0 Qa Qa | exact hS9.cell 5 Qa Qa)) ?_)))
 refine Q9 Qa Qa Qa (fun _=>(X0 0 Qa Qa (by first | rfl | omega) (by first | omega | exact(ZD (show[a,b][0]? =some a from rfl)).1) Ym)) ?_
 refine QF Qa Qa Qa (XV RV 2 0 0 hS9 Qa (show[a,b][0]? =some a from rfl) J5 Qa Qa) ?_
 refine QF Qa Qa Qa (Jw Qa Mw DP (by first | exact hS9.blk 0 Qa | exact hS9.blk 5 Qa) (by first | decide | exact QC Qa | (simp;done) | omega) Qa) ?_
 refine QV Qa Qa Qa Qa Qa Qa ?_
 refine Q0 T6 Qa (R9 (hS9.sp [4] Qa) (hG.starL 5 Qa) (hO.starL 5 Qa) (t:=t) (l:=l) (hL.starL 5 Qa)) Qa ?_
 rintro _ w10 ⟨rfl,hS10⟩
 replace hS10:=hS10.jn Qa Qa
 refine Xd (Xq (by kernel_rfl)) ?_
 exact VC.nil (Qd (Qk [2,3] Qa (Qf (Qb (Qe Qa Qa (Qc Qa Qa (Qh (Qd (Qo (Q5 (.inr Qa) Qa Qa (⟨_,Qa,_,Qa,QW (X:=⟨(Zw Ho ⟨t,l⟩).2,Ho,[],false⟩) (hS10.pick [1,3,0,4,2,6] Qa)⟩)))))))))))
theorem FA {w:World} {F:Th} (hS:Sat w [F]) (hG:Ent F WireG) (hO:Ent F (Glob 0)):
    Calls prog 7 #[] w (Ret fun v w'=>v= .bool true∧Sat w' [F]):= by
 refine Qy func7 Qa ntmps7 Qa ?_
 obtain⟨A1,A2,A3,A4,A5,A6,B1,B2,B3,m1,m2,n1,o1,hb,hg,ht,hf,ht2,hh1,hh2,hh3,hh4,hmv,hpg,hrb,hra,hms,how⟩:=Ca
 have hWA1:EW A1:=hb▸new_W.begin
 have hmv2:X4 (A1.move+1):= by rw[hmv]; exact XG (by decide)
 have hWA2:EW A2:= by have q:=hWA1.give hmv2; rw[hg]at q; exact q
 have hWA3:EW A3:= by have q:=hWA2.tick; rw[ht]at q; exact q
 have hm1:m1.length≤1000:=hWA2.tick_out m1 (by rw[ht]; simp)
 have hWA4:EW A4:= by have q:=hWA3.freeze; rw[hf]at q; exact q
 have hWA5:EW A5:= by have q:=hWA4.tick; rw[ht2]at q; exact q
 have hm2:m2.length≤1000:=hWA4.tick_out m2 (by rw[ht2]; simp)
 have hWB1:EW B1:=hh1▸new_W.hear hm1
 have hWB2:EW B2:= by have q:=hWB1.hear hm2; rw[hh2]at q; exact q
 have hn1:n1.length≤1000:=hWB1.hear_out hm2 n1 (by rw[hh2]; simp)
 have ho1:o1.length≤1000:=hWA5.hear_out hn1 o1 (by rw[hh3]; simp)
 have hWB3:EW B3:=hh4▸hWB2.hear ho1
 refine Qf (Qb (Qc Qa Qa (Qh (Qd (Qf (Qb (Q0 T5 Qa (Br (hS.sp [] Qa) (hO.starL 0 Qa)) Qa ?_)))))))
 rintro _ w1 ⟨a,rfl,hS1⟩
 replace hS1:=hS1.jn Qa Qa
 refine Qc Qa Qa (Qh (Qd (Qf (Qb (Q0 T5 Qa (Br (hS1.sp [] Qa) (hO.starL 1 Qa)) Qa ?_)))))
 rintro _ w2 ⟨b,rfl,hS2⟩
 replace hS2:=hS2.jn Qa Qa
 refine Qc Qa Qa (Qh (Qd (Qf (Qf (Qb (Qe Qa Qa (ZG underlying37 Qa Qa Qa (Qe Qa Qa (Qj Qa Qa Qa (Qe Qa Qa (Qj Qa Qa Qa (ZG underlying37 Qa Qa Qa (Q3 Qa Qa Qa Qa (Qh (Qd (Qk [0,1,2,18] Qa (QJ Qa (Qt (Qd (Qf (Qb (Qe Qa Qa (Q0 Gs Qa (UG (hS2.sp [] Qa) 7) Qa ?_)))))))))))))))))))))))
 rintro _ w3 ⟨rfl,hS3⟩
 replace hS3:=hS3.jn Qa Qa
 refine Zs Qa Fw IY DC Qa Qa (Xe shC [((3:Int),pg7)] hS3 Qa underlying22 Iq Qa Qa Qa Qa (by first | rfl | simp [RowC.cells,Z2,Xc]) Qa ?_)
 intro b4 w4 hS4
 refine Zs Qa Fy PC Lt Qa Qa (Q0 T6 Qa (R9 (hS4.sp [2] Qa) (hG.starL 2 Qa) (hO.starL 2 Qa) (t:=[115]) (l:=[(3,pg7)]) (Ent.starL (Tt (C:=shC) (l:=[(3,pg7)]) (by simp)) 0 Qa)) Qa ?_)
 rintro _ w5 ⟨rfl,hS5⟩
 replace hS5:=hS5.jn Qa Qa
 try rw[hb]at hS5
 try rw[hb]
 try dsimp only at hS5
 try dsimp only
 refine Qh (Qd (Qf (Qb (Qe Qa Qa (Q0 P8 Qa (Tf (hS5.sp [0] Qa) (hG.starL 2 Qa) (hO.starL 2 Qa) hWA1.ses hmv2) Qa ?_)))))
 rintro _ w6 ⟨rfl,hS6⟩
 replace hS6:=hS6.jn Qa Qa
 try rw[hg]at hS6
 try rw[hg]
 try dsimp only at hS6
 try dsimp only
 refine Qc Qa Qa (Qh (Qd (Qk [0,1,2,3] Qa (Qf (Qb (Qe Qa Qa (Q0 U1 Qa (Hb (hS6.sp [0] Qa) (hG.starL 2 Qa) hWA2) Qa ?_)))))))
 rintro _ w7 hS7
 replace hS7:=hS7.jn Qa Qa
 try rw[ht]at hS7
 try rw[ht]
 try dsimp only at hS7
 try dsimp only
 have h1l:=hS7.own_one 0 Qa
 refine Qc Qa Qa (Qh (Qd (Qf (Qb (Qe Qa Qa (Q0 P7 Qa (Gj (hS7.sp [1] Qa)) Qa ?_))))))
 rintro _ w8 ⟨rfl,hS8⟩
 replace hS8:=hS8.jn Qa Qa
 try rw[hf]at hS8
 try rw[hf]
 try dsimp only at hS8
 try dsimp only
 refine Qc Qa Qa (Qh (Qd (Qf (Qb (Qe Qa Qa (Q0 U1 Qa (Hb (hS8.sp [0] Qa) (hG.starL 3 Qa) hWA4) Qa ?_))))))
 rintro _ w9 hS9
 replace hS9:=hS9.jn Qa Qa
 try rw[ht2]at hS9
 try rw[ht2]
 try dsimp only at hS9
 try dsimp only
 have h1m:=hS9.own_one 0 Qa
 refine Qc Qa Qa (Qh (Qd (Qk [0,1,2,3,4,5,6] Qa (Qf (Qf (Qb (Qe Qa Qa ?_)))))))
 first | refine Xm underlying66 Qa Qa ?_ | refine Xa 0 hS9 underlying66 Qa Qa Qa ?_ | refine Xa 2 hS9 underlying66 Qa Qa Qa ?_ | refine Xa 3 hS9 underlying66 Qa Qa Qa ?_
 refine Xu Qa Qa Qa (Qe Qa Qa (Q4 36 Qa (fun h10=> ?_) (fun h10=> ?_)))
 ·(exfalso; have q9:=h10; simp at q9)
 refine Qj Qa Qa (Qx h10) (Qe Qa Qa (Qj Qa Qa (Qx h10) ?_))
 first | refine Xm underlying66 Qa Qa ?_ | refine Xa 0 hS9 underlying66 Qa Qa Qa ?_ | refine Xa 2 hS9 underlying66 Qa Qa Qa ?_ | refine Xa 3 hS9 underlying66 Qa Qa Qa ?_
 refine Qj Qa Qa (Qx h10) (Xu Qa Qa Qa (Q3 Qa (Qx h10) Qa Qa (Qh (Qd (Qk [0,1,2,3,4,5,6,40] Qa (Qv Qa (fun h11=> ?_) (fun h11=> ?_)))))))
 ·(exfalso; have q9:=h11; simp at q9)
 refine Qt (Qd (Qf (Qb (Qe Qa Qa (Qe Qa Qa (Wj Zn 2 0 hS9 Qa Qa Qa (by first | rfl | omega) (show[m1][0]? =some m1 from rfl) Np Qa ?_))))))
 intro bx12 capx12 hvx12
 refine W8 2 0 0 hS9 Qa hvx12 Qa Qa (show[m1][0]? =some m1 from rfl) Zx Qa Qa (Q0 H3 Qa (Yq (hS9.sp [4] Qa) (hG.starL 4 Qa) (hO.starL 4 Qa) new_W m1 hm1) Qa ?_)
 rintro _ w13 hS13
 replace hS13:=hS13.jn Qa Qa
 try rw[hh1]at hS13
 try rw[hh1]
 try dsimp only at hS13
 try dsimp only
 have h1x:=hS13.own_one 0 Qa
 refine Qh (Qd (Qk [0,1,2,3,5,6] Qa (Qf (Qb (Qe Qa Qa (Qe Qa Qa (Wj Zn 2 0 hS13 Qa Qa Qa (by first | rfl | omega) (show[m2][0]? =some m2 from rfl) Np Qa ?_)))))))
 intro bx14 capx14 hvx14
 refine W8 2 0 0 hS13 Qa hvx14 Qa Qa (show[m2][0]? =some m2 from rfl) Zx Qa Qa (Q0 H3 Qa (Yq (hS13.sp [1] Qa) (hG.starL 5 Qa) (hO.starL 5 Qa) hWB1 m2 hm2) Qa ?_)
 rintro _ w15 hS15
 replace hS15:=hS15.jn Qa Qa
 try rw[hh2]at hS15
 try rw[hh2]
 try dsimp only at hS15
 try dsimp only
 have h1n:=hS15.own_one 0 Qa
 refine Qc Qa Qa (Qh (Qd (Qk [0,1,2,3,5,7] Qa (Qf (Qf (Qb (Qe Qa Qa ?_)))))))
 first | refine Xm underlying66 Qa Qa ?_ | refine Xa 0 hS15 underlying66 Qa Qa Qa ?_ | refine Xa 2 hS15 underlying66 Qa Qa Qa ?_ | refine Xa 3 hS15 underlying66 Qa Qa Qa ?_ | refine Xa 5 hS15 underlying66 Qa Qa Qa ?_ | refine Xa 6 hS15 underlying66 Qa Qa Qa ?_
 refine Xu Qa Qa Qa (Qh (Qd (Qv Qa (fun h16=> ?_) (fun h16=> ?_))))
 ·(exfalso; have q9:=h16; simp at q9)
 refine Qt (Qd (Qf (Qb (Qe Qa Qa (Qe Qa Qa (Wj Zn 0 0 hS15 Qa Qa Qa (by first | rfl | omega) (show[n1][0]? =some n1 from rfl) Np Qa ?_))))))
 intro bx17 capx17 hvx17
 refine W8 0 0 0 hS15 Qa hvx17 Qa Qa (show[n1][0]? =some n1 from rfl) Zx Qa Qa (Q0 H3 Qa (Yq (hS15.sp [4] Qa) (hG.starL 6 Qa) (hO.starL 6 Qa) hWA5 n1 hn1) Qa ?_)
 rintro _ w18 hS18
 replace hS18:=hS18.jn Qa Qa
 try rw[hh3]at hS18
 try rw[hh3]
 try dsimp only at hS18
 try dsimp only
 have h1o:=hS18.own_one 0 Qa
 refine Qc Qa Qa (Qh (Qd (Qk [0,1,2,3,5,8] Qa (Qf (Qf (Qb (Qe Qa Qa ?_)))))))
 first | refine Xm underlying66 Qa Qa ?_ | refine Xa 0 hS18 underlying66 Qa Qa Qa ?_ | refine Xa 2 hS18 underlying66 Qa Qa Qa ?_ | refine Xa 4 hS18 underlying66 Qa Qa Qa ?_ | refine Xa 5 hS18 underlying66 Qa Qa Qa ?_ | refine Xa 6 hS18 underlying66 Qa Qa Qa ?_ | refine Xa 7 hS18 underlying66 Qa Qa Qa ?_
 refine Xu Qa Qa Qa (Qh (Qd (Qv Qa (fun h19=> ?_) (fun h19=> ?_))))
 ·(exfalso; have q9:=h19; simp at q9)
 refine Qt (Qd (Qf (Qb (Qe Qa Qa (Qe Qa Qa (Wj Zn 0 0 hS18 Qa Qa Qa (by first | rfl | omega) (show[o1][0]? =some o1 from rfl) Np Qa ?_))))))
 intro bx20 capx20 hvx20
 refine W8 0 0 0 hS18 Qa hvx20 Qa Qa (show[o1][0]? =some o1 from rfl) Zx Qa Qa (Q0 H3 Qa (Yq (hS18.sp [3] Qa) (hG.starL 7 Qa) (hO.starL 7 Qa) hWB2 o1 ho1) Qa ?_)
 rintro _ w21 hS21
 replace hS21:=hS21.jn Qa Qa
 try rw[hh4]at hS21
 try rw[hh4]
 try dsimp only at hS21
 try dsimp only
 have h1y:=hS21.own_one 0 Qa
 refine Qh (Qd (Qk [0,1,2,3,5] Qa (Qf (Qb (Qe Qa Qa (Q0 IF Qa (EY (hS21.sp [1] Qa) 3) Qa ?_))))))
 rintro _ w22 ⟨rfl,hS22⟩
 replace hS22:=hS22.jn Qa Qa
 try rw[hpg]at hS22
 try rw[hpg]
 try dsimp only at hS22
 try dsimp only
 refine Qe Qa Qa (Q7 Qa Qa Qa (Q7 Qa Qa Qa (Qc Qa Qa (Qc Qa Qa (Qh (Qd (Qk [0,1,2,3,5,9,10] Qa (Qf (Qb (Qe Qa Qa (QL Qa Qa Qa (Qe Qa Qa (Q4 74 Qa (fun h23=> ?_) (fun h23=> ?_))))))))))))))
 ·refine Qj Qa Qa (QD h23) (Qe Qa Qa (Qj Qa Qa (QD h23) (QL Qa Qa Qa (Q1 Qa (QD h23) Qa Qa (Qe Qa Qa (Q4 78 Qa (fun h24=> ?_) (fun h24=> ?_)))))))
  ·refine Qj Qa Qa (QD h24) (Qe Qa Qa (Qj Qa Qa (QD h24) (Q0 HW Qa (YA (hS22.sp [0] Qa)) Qa ?_)))
   rintro _ w25 ⟨rfl,hS25⟩
   replace hS25:=hS25.jn Qa Qa
   try rw[hrb]at hS25
   try rw[hrb]
   try dsimp only at hS25
   try dsimp only
   refine Q1 Qa (QD h24) Qa Qa (Qe Qa Qa (ZO 82 Qa (fun h26=> ?_) (fun h26=> ?_)))
   ·refine Qj Qa Qa h26 (Qe Qa Qa (Qj Qa Qa h26 (Q0 HW Qa (YA (hS25.sp [3] Qa)) Qa ?_)))
    rintro _ w27 ⟨rfl,hS27⟩
    replace hS27:=hS27.jn Qa Qa
    try rw[hra]at hS27
    try rw[hra]
    try dsimp only at hS27
    try dsimp only
    refine Qj Qa Qa h26 (XN Qa Qa (Q1 Qa h26 Qa Qa (Qe Qa Qa (ZO 87 Qa (fun h28=> ?_) (fun h28=> ?_)))))
    ·refine Qj Qa Qa h28 (Qe Qa Qa (Qj Qa Qa h28 (Q0 KJ Qa (Yv (hS27.sp [1] Qa) hWB3.ses) Qa ?_)))
     rintro _ w29 hS29
     replace hS29:=hS29.jn Qa Qa
     rw[hms]at hS29
     refine Qj Qa Qa h28 ?_
     first | refine Xm underlying33 Qa Qa ?_ | refine Xa 0 hS29 underlying33 Qa Qa Qa ?_ | refine Xa 3 hS29 underlying33 Qa Qa Qa ?_ | refine Xa 4 hS29 underlying33 Qa Qa Qa ?_ | refine Xa 5 hS29 underlying33 Qa Qa Qa ?_ | refine Xa 6 hS29 underlying33 Qa Qa Qa ?_ | refine Xa 7 hS29 underlying33 Qa Qa Qa ?_ | refine Xa 8 hS29 underlying33 Qa Qa Qa ?_ | refine Xa 9 hS29 underlying33 Qa Qa Qa ?_
     refine Qj Qa Qa h28 (QL Qa Qa Qa (Q1 Qa h28 Qa Qa (Qe Qa Qa (Q4 93 Qa (fun h30=> ?_) (fun h30=> ?_)))))
     ·refine Qj Qa Qa (QD h30) (Qe Qa Qa (Qj Qa Qa (QD h30) (QL Qa Qa Qa (Q1 Qa (QD h30) Qa Qa (Qe Qa Qa (Q4 97 Qa (fun h31=> ?_) (fun h31=> ?_)))))))
      ·refine Qj Qa Qa (QD h31) (Qe Qa Qa (Qj Qa Qa (QD h31) (Q0 Gs Qa (UG (hS29.sp [] Qa) 7) Qa ?_)))
       rintro _ w32 ⟨rfl,hS32⟩
       replace hS32:=hS32.jn Qa Qa
       refine Qj Qa Qa (QD h31) (VH Qa Qa Qa (Q1 Qa (QD h31) Qa Qa (Qe Qa Qa (Q4 102 Qa (fun h33=> ?_) (fun h33=> ?_)))))
       ·refine Qj Qa Qa (QD h33) (Qe Qa Qa (Qj Qa Qa (QD h33) (Qe Qa Qa (Qj Qa Qa (QD h33) (Q0 AE Qa (Co (hS32.sp [2,1] Qa) (hG.starL 8 Qa) (hO.starL 8 Qa)) Qa ?_)))))
        rintro _ w34 ⟨rfl,hS34⟩
        replace hS34:=hS34.jn Qa Qa
        rw[how]
        refine Qj Qa Qa (QD h33) (QL Qa Qa Qa (Q1 Qa (QD h33) Qa Qa (Qc Qa Qa (Qh (Qd (Qk [0] Qa (Qo (Q5 (.inr Qa) Qa Qa ?_))))))))
        exact⟨_,rfl, by first | rfl | simp,hS34.pick [10] Qa⟩
       exact absurd Qa h33
      (exfalso; have q9:=h31; simp at q9)
     (exfalso; have q9:=h30; simp at q9)
    (exfalso; have q9:=h28; simp at q9)
   (exfalso; have q9:=h26; simp at q9)
  (exfalso; have q9:=h24; simp at q9)
 (exfalso; have q9:=h23; simp at q9)
