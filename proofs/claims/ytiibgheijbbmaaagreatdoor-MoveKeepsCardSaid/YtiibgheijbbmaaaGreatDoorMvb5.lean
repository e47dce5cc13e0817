/- move: a step keeps the sizes, plain -/
import Derived.Test.YtiibgheijbbmaaaGreatDoorMvb4
import Derived.Test.YtiibgheijbbmaaaGreatDoorMvt
set_option linter.unusedVariables false
set_option maxRecDepth 100000
set_option maxHeartbeats 2000000
namespace Go.Proofs.YtiibgheijbbmaaaGreatDoor
open Go.RowKit M Proofs.Tryz
theorem Lk {m:MsD} (h1:X5 m.kind) (h2:X5 m.move) (h3:X5 m.a) (h4:X5 m.b) (h5:m.data.length≤500):(WQ m).length≤1000:= by
  have a1:=Jj h1
  have a2:=Jj h2
  have a3:=Jj h3
  have a4:=Jj h4
  have a5:=KV (s:=m.data) (by omega)
  unfold WQ
  simp only[List.length_append];omega
theorem Y6 {E:EnD} {k a b:Int} {d:Bs} (h1:X5 k) (h2:X5 E.move) (h3:X5 a) (h4:X5 b) (h5:d.length≤500):(Zk E k a b d).length≤1000:=Lk h1 h2 h3 h4 h5
theorem YE {k:Int} (h:0≤k∧k≤10000):X5 k:= by unfold X5;omega
theorem Bd {E:EnD} (hm:X5 E.move): ∀(l:AL PgD) (k:Nat),(∀e∈l,X5 e.1∧X5 e.2.ver∧X5 e.2.sent∧e.2.data.length≤64)→ ∀s∈(pushG E k l).2,s.length≤1000
  | [],k,_,s,hs=> by rw[pushG.eq_def]at hs; cases hs
  | e::l,k,h,s,hs=> by
    have he:=h e List.mem_cons_self
    have hl: ∀f∈l,_:= fun f hf=>h f (List.mem_cons_of_mem _ hf)
    rw[pushG.eq_def]at hs
    dsimp only at hs
    split at hs
    · exact Bd hm l k hl s hs
    · cases k with
      | zero=> cases hs
      | succ k=>
        rcases List.mem_cons.1 hs with q | q
        · rw[q]; exact Y6 (YE (by omega)) hm he.1 he.2.1 (by omega)
        · exact Bd hm l k hl s q
theorem TH {E:EnD} (hm:X5 E.move) (l:Bs) {n:Int} (hn:1≤n∧n≤10000): ∀(k:Nat) (nx:Int),0≤nx∧nx<n→ ∀s∈(ZS E l n k nx).2,s.length≤1000
  | 0,nx,_,s,hs=> by rw[ZS]at hs; cases hs
  | k+1,nx,h,s,hs=> by
    rw[ZS]at hs
    rcases List.mem_cons.1 hs with q | q
    · rw[q]; exact Y6 (YE (by omega)) hm (YE (by omega)) (YE (by omega)) (by rw[List.length_take];omega)
    · exact TH hm l hn k _ ⟨Int.emod_nonneg _ (by omega),Int.emod_lt_of_pos _ (by omega)⟩ s q
theorem H0 {s t:Bs} (h:t.length≤1000) (hs:s∈[t]):s.length≤1000:= by rw[List.mem_singleton.1 hs]; exact h
theorem EW.tick_out {E:EnD} (h:EW E): ∀s∈(XX E).2,s.length≤1000:= by
  have hm:=h.km.2.2.2
  intro t ht
  unfold XX at ht
  split at ht
  · cases ht
  split at ht
  · refine H0 ?_ ht
    split
    · exact Y6 (YE (by omega)) hm XR XR (by simp)
    · exact Y6 (YE (by omega)) hm XR XR (by simp)
  split at ht
  · cases ht
  cases hs:E.ses with
  | none=> rw[hs]at ht; cases ht
  | some s=>
    rw[hs]at ht
    dsimp only at ht
    have hw:=h.ses s hs
    have hp:=Bd hm s.pages 4 hw.pg
    split at ht
    · rename_i hac
      split at ht
      · exact hp t ht
      · rcases List.mem_append.1 ht with q | q
        · exact hp t q
        · rw[YN (WP E s.pages 4)]at q
          have hnx:=h.nx hac s hs
          have h1:=V8 (Vp (s:=s))
          have h2:=Mz (KH hw)
          exact TH hm _ ⟨h1, by omega⟩ _ _ ⟨hnx.1,hnx.2.1⟩ t q
    · rcases List.mem_append.1 ht with q | q
      · obtain⟨i,hi,rfl⟩:=List.mem_map.1 q
        have hi1:=List.mem_of_mem_take hi
        obtain⟨e,he,rfl⟩:=List.mem_map.1 hi1
        exact Y6 (YE (by omega)) hm (hw.pg e (List.mem_filter.1 he).1).1 XR (by simp)
      · split at q
        · exact H0 (Y6 (YE (by omega)) hm XR XR (by simp)) q
        · cases q
theorem EW.hear_out {E:EnD} (h:EW E) {b:Bs} (hb:b.length≤1000): ∀s∈(Zt E b).2,s.length≤1000:= by
  have hm:=h.km.2.2.2
  have z: ∀{t:Bs},t∈([]:List Bs)→t.length≤1000:= fun q=> by cases q
  obtain⟨d1,d2,d3,d4,d5⟩:=KZ b
  intro t ht
  unfold Zt at ht
  split at ht
  · exact z ht
  rename_i hc
  have hu:E.cell≠none:=RV fun q=>hc (.inl q)
  have key: ∀{E0:EnD},E0.cell=E.cell→(QU E0 2 (QX b).move).1=0→X5 (QU E0 2 (QX b).move).2.move:= fun he q=> by rw[Vm (by rw[he]; exact hu) q]; exact d2
  unfold XS at ht
  split at ht
  · exact z ht
  split at ht
  · unfold X3 at ht
    split at ht
    · exact z ht
    split at ht
    · exact z ht
    split at ht
    · exact z ht
    split at ht
    · exact z ht
    split at ht
    · exact z ht
    unfold YX at ht
    split at ht
    · exact z ht
    · rename_i q
      refine H0 (Y6 (YE (by omega)) ?_ XR XR (by simp)) ht
      exact key Qa (Decidable.not_not.1 q)
  split at ht
  · unfold Xj at ht
    have hno:(noB (QX b)).length≤1000:=Lk (YE (by show(0:Int)≤5∧(5:Int)≤10000;omega)) d2 XR XR (by show([]:Bs).length≤_; simp)
    split at ht
    · exact H0 (Y6 (YE (by omega)) hm XR XR (by simp)) ht
    split at ht
    · exact z ht
    split at ht
    · split at ht
      · exact z ht
      · rename_i q
        refine H0 (Y6 (YE (by omega)) ?_ XR XR (by simp)) ht
        rw[Vm hu (by simpa using q)]; exact hm
    split at ht
    · exact H0 hno ht
    · exact H0 hno ht
  split at ht
  · exact z ht
  split at ht
  · exact z ht
  split at ht
  · unfold Z8 at ht
    split at ht
    · exact z ht
    cases hs:E.ses with
    | none=> rw[hs]at ht; exact H0 (Y6 (YE (by omega)) hm XR XR (by simp)) ht
    | some s=>
      rw[hs]at ht
      dsimp only at ht
      cases hp:QT s.pages (QX b).a with
      | none=> rw[hp]at ht; exact z ht
      | some p=>
        rw[hp]at ht
        have :=(h.ses s hs).pg _ (Y1 hp)
        exact H0 (Y6 (YE (by omega)) hm d3 this.2.1 (by have :=this.2.2.2; dsimp only at this;omega)) ht
  split at ht
  · exact z ht
  split at ht
  · unfold ZJ at ht
    split at ht
    · exact z ht
    · exact H0 (Y6 (YE (by omega)) hm XR XR (by simp)) ht
  · exact z ht
section
variable {X:TwD} {E:EnD} {i:Bool} {l:List Bs} {o:OpD}
theorem XW.put (h:XW X) (hE:EW E):XW (JL X i E):= by
  cases i with
  | false=> exact⟨hE,h.b,h.fl,h.ln⟩
  | true=> exact⟨h.a,hE,h.fl,h.ln⟩
theorem XW.send (h:XW X) (hl: ∀s∈l,s.length≤1000):XW (Wp X i l):= by
  obtain⟨a,b,_⟩:=V5 (i:=i) (l:=l) (X:=X)
  refine⟨by rw[a]; exact h.a, by rw[b]; exact h.b, fun p hp=> ?_,T9 h.ln⟩
  rcases Vh hp with q | ⟨s,hs,q⟩
  · exact h.fl p q
  · rw[q]; exact hl s hs
theorem XW.at_ (h:XW X) (i:Bool):EW (Xg X i):= by cases i; exact h.a; exact h.b
theorem XW.drop (h:XW X) (n:Int):XW (Rw X n):=⟨h.a,h.b, fun p hp=>h.fl p (List.mem_of_mem_eraseIdx hp),Nat.le_trans (List.length_eraseIdx_le _ _) h.ln⟩
theorem XW.arrive (h:XW X) (n:Int):XW (Zw X n):= by
  unfold Zw
  cases hp:X.fl[(Zs n X.fl.length).toNat]? with
  | none=> exact h
  | some p=>
    dsimp only
    have hl:=h.fl p (List.mem_of_getElem? hp)
    exact((h.drop n).put ((h.at_ p.1).hear hl)).send ((h.at_ p.1).hear_out hl)
theorem XW.double (h:XW X) (n:Int):XW (Hi X n):= by
  unfold Hi
  cases hp:X.fl[(Zs n X.fl.length).toNat]? with
  | none=> exact h
  | some p=>
    dsimp only
    split
    · exact h
    · refine⟨h.a,h.b, fun q hq=> ?_, by show(X.fl++[p]).length≤500; rw[List.length_append]; simp;omega⟩
      rcases List.mem_append.1 hq with r | r
      · exact h.fl q r
      · rw[List.mem_singleton.1 r]; exact h.fl p (List.mem_of_getElem? hp)
theorem XW.step (h:XW X) (hm: ∀i,X5 ((Xg X i).move+1)) (o:OpD):XW (XQ X o).2:= by
  unfold XQ
  generalize o.dO%32=k
  generalize decide (o.n%2=1)=i
  dsimp only
  have hE:=h.at_ i
  have P: ∀{r:Int×EnD},EW r.2→XW (H6 X i r).2:= fun q=>h.put q
  refine Zb (P:= fun r:Int×TwD=>XW r.2) (fun _=>h.drop _) fun _=> ?_
  refine Zb (P:= fun r:Int×TwD=>XW r.2) (fun _=>h.double _) fun _=> ?_
  refine Zb (P:= fun r:Int×TwD=>XW r.2) (fun _=>(h.put hE.tick).send hE.tick_out) fun _=> ?_
  refine Zb (P:= fun r:Int×TwD=>XW r.2) (fun _=>P (hE.give (hm i))) fun _=> ?_
  refine Zb (P:= fun r:Int×TwD=>XW r.2) (fun _=>P hE.freeze) fun _=> ?_
  refine Zb (P:= fun r:Int×TwD=>XW r.2) (fun _=>P hE.cancel) fun _=> ?_
  refine Zb (P:= fun r:Int×TwD=>XW r.2) (fun _=>P (hE.setPage _ _)) fun _=> ?_
  refine Zb (P:= fun r:Int×TwD=>XW r.2) (fun _=>P (hE.dropPage _)) fun _=> ?_
  refine Zb (P:= fun r:Int×TwD=>XW r.2) (fun _=>P (hE.setState _)) fun _=> ?_
  refine Zb (P:= fun r:Int×TwD=>XW r.2) (fun _=>h.put (EW.crash _)) fun _=> ?_
  refine Zb (P:= fun r:Int×TwD=>XW r.2) (fun _=>P hE.start) fun _=> ?_
  refine Zb (P:= fun r:Int×TwD=>XW r.2) (fun _=>h.put (hE.disk _)) fun _=> ?_
  refine Zb (P:= fun r:Int×TwD=>XW r.2) (fun _=>h.put (hE.disk _)) fun _=> ?_
  refine Zb (P:= fun r:Int×TwD=>XW r.2) (fun _=>⟨h.a,h.b, fun p q=>(by cases q), by simp⟩) fun _=> ?_
  refine Zb (P:= fun r:Int×TwD=>XW r.2) (fun _=>⟨h.a,h.b,h.fl,h.ln⟩) fun _=> ?_
  refine Zb (P:= fun r:Int×TwD=>XW r.2) (fun _=> ?_) fun _=> ?_
  · split
    · exact P hE.begin
    · exact h
  · exact h.arrive _
theorem INV.mv {t:Int} (h:INV X t) (hX:XW X) (i:Bool):(Xg X i).move≤max t 0:= by
  obtain⟨S,S',h1,h2,_,h4,h5⟩:=h.at i
  cases q:(Xg X i).cell with
  | none=> have :=congrArg EnD.move ((hX.at_ i).dn q); rw[this]; show(0:Int)≤_;omega
  | some C=>
    have :=h5 _ ((Uo h2 (by rw[q]; exact fun z=> by cases z) _).2 Qa)
    have :(Xg X i).move≤t:=this
    show(Xg X i).move≤_
    omega
end
structure QE (E:EnD):Prop where
  ei:EI E (fun x=>x=(E.kind,E.move))
  up:E.cell≠none
  calm:Calm E.D
theorem Iy {D:DS} {C:CS} {P:Nat→Bytes→Prop} {s:Bytes} (hg:Good D 0 C P) (hc:Calm D) (hl:s.length≤65536):(Z5 D C s).e=0∧Calm (Z5 D C s).D:= by
  have hcf:=hg.cf
  by_cases q:C.sure=false∧0<C.slot
  · obtain⟨a1,a2,a3⟩:=hc.sync (f:=0) hg.up
    have hm:ZZ (XD D 0) 0=0:= by rw[a2]; have :=hg.up;simpa [ZZ,Wy]using this
    rw[Bb (by omega) q.1 q.2 (by rw[hcf]; exact a1),hcf]
    have hc2:Calm (XD D 0):= by rw[a2]; exact a3
    obtain⟨b1,b2,_⟩:=hc2.set (f:=0) (C:={C with sure:=true}) (s:=s) hm hcf (by simp) hl
    rw[K9 (by omega) (by simp),hcf]at b1 b2
    exact⟨b1,b2⟩
  · obtain⟨b1,b2,_⟩:=hc.set (f:=0) (C:=C) (s:=s) hg.up hcf q hl
    exact⟨b1,b2⟩
section
variable {E E':EnD} {k m:Int}
theorem QE.note (h:QE E) (hk:0≤k∧k<4) (hm:0≤m∧X5 m):(QU E k m).1=0∧ ∃D C,(QU E k m).2={E with D:=D,cell:=some C,kind:=k,move:=m}∧QE {E with D:=D,cell:=some C,kind:=k,move:=m}:= by
  obtain⟨C,hC⟩:=Option.ne_none_iff_exists'.1 h.up
  have hl:(Xh k++Xh m).length≤65536:= by
    have h1:=Jj (n:=k) (by unfold X5;omega)
    have h2:=Jj hm.2
    rw[List.length_append];omega
  obtain⟨a1,a2⟩:=Iy (h.ei.up C hC).1 h.calm hl
  have e0:(QU E k m).1=0:= by rw[Kf hC a1]
  rcases h.ei.note h.up hk hm with⟨_,b2,D,C2,b3⟩ | ⟨b1,_⟩
  · refine⟨e0,D,C2,b3,⟨?_,(by intro q; cases q), ?_⟩⟩
    · rw[b3]at b2; exact b2
    · have e:(QU E k m).2.D=(Z5 E.D C (Xh k++Xh m)).D:= by rw[Kf hC a1]
      rw[b3]at e
      show Calm D
      rw[show D=(Z5 E.D C (Xh k++Xh m)).D from e]; exact a2
  · exact absurd e0 b1
theorem QE.same (h:QE E) (h1:E'.D=E.D) (h2:E'.cell=E.cell) (h3:E'.kind=E.kind) (h4:E'.move=E.move) (h5:E'.active=E.active∨E'.active=false):QE E':=
  ⟨by rw[h3,h4]; exact h.ei.same h1 h2 h3 h4 h5, by rw[h2]; exact h.up, by rw[h1]; exact h.calm⟩
theorem QE.act (h:QE E) (b:Bool):QE {E with active:=b}:= by
  refine⟨⟨fun C q=>h.ei.up C q, fun q=>absurd q h.up, fun q=>absurd q h.up⟩,h.up,h.calm⟩
theorem QE.stored (h:QE E):Wk E=(E.kind,E.move):=h.ei.stored
theorem new_q:QE YQ:=⟨new_ei,(by intro q; cases q),calm_new⟩
theorem QE.rg (h:QE E):0≤E.kind∧E.kind<4∧0≤E.move∧X5 E.move:=h.ei.rg h.up
theorem QE.upE (h:QE E): ¬upE E=false:= by
  obtain⟨C,hC⟩:=Option.ne_none_iff_exists'.1 h.up
  unfold Go.Proofs.YtiibgheijbbmaaaGreatDoor.upE; rw[hC]; simp
end
theorem MM {m:MsD} (h1:X5 m.kind) (h2:X5 m.move) (h3:X5 m.a) (h4:X5 m.b) (h5:m.data.length≤100000000000):QX (WQ m)=m:= by
  have e:WQ m=Xh m.kind++(Xh m.move++(Xh m.a++(Xh m.b++(HK m.data++[])))):= by unfold WQ; simp
  obtain⟨a1,a2⟩:=YY (m:=m.kind) (rest:=Xh m.move++(Xh m.a++(Xh m.b++(HK m.data++[])))) (least:=(-9223372036854775808:Int)) h1 (by unfold X5 at h1;omega)
  obtain⟨b1,b2⟩:=YY (m:=m.move) (rest:=Xh m.a++(Xh m.b++(HK m.data++[]))) (least:=(-9223372036854775808:Int)) h2 (by unfold X5 at h2;omega)
  obtain⟨c1,c2⟩:=YY (m:=m.a) (rest:=Xh m.b++(HK m.data++[])) (least:=(-9223372036854775808:Int)) h3 (by unfold X5 at h3;omega)
  obtain⟨d1,d2⟩:=YY (m:=m.b) (rest:=HK m.data++[]) (least:=(-9223372036854775808:Int)) h4 (by unfold X5 at h4;omega)
  obtain⟨t1,t2⟩:=NE (s:=m.data) (rest:=[]) h5
  unfold QX
  dsimp only
  rw[e,a1,a2,b1,b2,c1,c2,d1,d2,t1]
theorem Us {E:EnD} {m:MsD} (hu: ¬upE E=false) (h1:0≤m.kind∧m.kind≤9) (h2:0≤m.move∧m.move≤4611686018427387904) (h3:X5 m.a) (h4:X5 m.b) (h5:m.data.length≤100000000000):Zt E (WQ m)=XS E m:= by
  have hd:=MM (m:=m) (by unfold X5;omega) (by unfold X5;omega) h3 h4 h5
  rw[W4 (by rw[hd]; rintro(q | q | q | q | q | q); exact hu q;omega;omega;omega;omega; exact q rfl),hd]
abbrev pg7:Bs:=List.replicate 64 7
abbrev ss7:SsD:=⟨[115],[(3,pg7)]⟩
abbrev sd7 (sent:Int):SeD:=⟨[115],1,[(3,⟨pg7,1,sent,false⟩)]⟩
abbrev ls7:Bs:=Xy (sd7 0)
theorem BR {k:Int} (h:0≤k∧k≤9):X5 k:=XM h
theorem M1 {k:Int} (h:0≤k∧k≤9):0≤k∧X5 k:=⟨h.1,XM h⟩
theorem CG:ls7.length≤150∧1≤ls7.length:= by
  have h1:=Jj (n:=1) (BR (by omega))
  have h3:=Jj (n:=3) (BR (by omega))
  have h4:=KV (s:=[115]) (by simp)
  have h5:=Vp (s:=sd7 0)
  refine⟨?_,h5⟩
  show(HK [115]++Xh ((1:Nat):Int)++([(3,(⟨pg7,1,0,false⟩:PgD))]:AL PgD).flatMap fun e=>Xh e.1++Xh e.2.ver).length≤150
  simp only[List.flatMap_cons,List.flatMap_nil,List.length_append,List.length_nil,List.append_nil,List.length_cons]at *
  have :(((1:Nat):Int))=1:=rfl
  rw[this];omega
theorem E7:XZ ls7=1:= by
  have :=CG
  unfold XZ;omega
theorem TM:WA ls7=(some ⟨[115],1,[(3,⟨[],1,0,true⟩)]⟩,true):= by
  have h:=Mt (s:=sd7 0) (List.pairwise_singleton _ _) (fun e he=> by rcases List.mem_singleton.1 he with rfl;decide) (fun e he=> by rcases List.mem_singleton.1 he with rfl; exact⟨by decide, by decide,Lp⟩) (by simp) (by simp) (by simp)
  exact h
theorem NT: ∃A1 A2 A3 A4 A5 A6 B1 B2 B3 m1 m2 n1 o1,(Zz YQ ss7).2=A1∧J6 A1=(0,A2)∧XX A2=(A3,[m1])∧Wa A3=(0,A4)∧XX A4=(A5,[m2])∧(Zt YQ m1).1=B1∧Zt B1 m2=(B2,[n1])∧Zt A5 n1=(A6,[o1])∧(Zt B2 o1).1=B3∧A1.move=1∧
    H7 B3 3=(pg7,0)∧ZN B3=true∧ZN A6=false∧QP B3=[]∧JO (Wk A6) (Wk B3)=1:= by
  have c0:(0:Int)≤1∧(1:Int)<4:= by omega
  -- the first end begins
  obtain⟨n1,D1,C1,e1,q1⟩:=new_q.note (k:=1) (m:=1) (by omega) (M1 (by omega))
  have hr:Zl ss7=true:= by decide
  have b1:(Zz YQ ss7).2={YQ with D:=D1,cell:=some C1,kind:=1,move:=1,ses:=some (sd7 0),active:=false,frozen:=false,told:=true}:= by
    unfold Zz
    rw[if_neg (by decide),if_neg (by rw[hr];decide),if_neg (by rintro⟨q,_⟩; exact q ⟨rfl,rfl⟩),if_pos ⟨rfl,rfl⟩,if_neg (by rw[n1];decide),e1]
    rfl
  generalize hA1:({YQ with D:=D1,cell:=some C1,kind:=1,move:=1,ses:=some (sd7 0),active:=false,frozen:=false,told:=true}:EnD)=A1 at b1
  have qA1:QE A1:= by subst hA1; exact q1.same Qa Qa Qa Qa (.inr Qa)
  -- it gives
  have hmv1:A1.move+1=2:= by subst hA1;rfl
  obtain⟨n2,D2,C2,e2,q2⟩:=qA1.note (k:=1) (m:=A1.move+1) (by omega) (by rw[hmv1]; exact M1 (by omega))
  have b2:J6 A1=(0,{A1 with D:=D2,cell:=some C2,kind:=1,move:=2,active:=true,next:=0}):= by
    have h0: ¬(ZN A1=false∨QP A1≠[]∨A1.active=true):= by
      subst hA1
      rintro(q | q | q)
      · exact Bool.noConfusion (show true=false from q)
      · exact q Qa
      · exact Bool.noConfusion (show false=true from q)
    rw[CU h0 n2 e2,hmv1]
    subst hA1;rfl
  generalize hA2:({A1 with D:=D2,cell:=some C2,kind:=1,move:=2,active:=true,next:=0}:EnD)=A2 at b2
  have qA2:QE A2:= by subst hA2; rw[hmv1]at q2; exact(q2.act true).same Qa Qa Qa Qa (.inl Qa)
  have s2:A2.ses=some (sd7 0)∧A2.kind=1∧A2.active=true∧A2.frozen=false∧A2.move=2∧A2.next=0:= by subst hA2; subst hA1; exact⟨rfl,rfl,rfl,rfl,rfl,rfl⟩
  -- it ticks, is frozen, and ticks
  have b3:XX A2=({A2 with ses:=some (sd7 1)},[Zk A2 0 3 1 pg7]):= by
    rw[Ve qA2.upE s2.2.1 s2.1 s2.2.2.1,if_pos s2.2.2.2.1,if_pos s2.2.2.2.1,List.append_nil];rfl
  have b4:Wa {A2 with ses:=some (sd7 1)}=(0,{A2 with ses:=some (sd7 1),frozen:=true}):= by
    have hrun:ZN {A2 with ses:=some (sd7 1)}=true:= by
      unfold ZN H8 upE
      show(A2.cell.isSome&&decide (A2.kind=1)&&true&& !A2.frozen)=true
      rw[s2.2.1,s2.2.2.2.1]
      cases h:A2.cell
      · exact absurd h qA2.up
      · rfl
    unfold Wa
    rw[if_neg (by rintro(q | q);(rw[hrun]at q; cases q);(rw[show({A2 with ses:=some (sd7 1)}:EnD).active=A2.active from rfl,s2.2.2.1]at q; cases q))]
  generalize hA4:({A2 with ses:=some (sd7 1),frozen:=true}:EnD)=A4 at b4
  have qA4:QE A4:= by subst hA4; exact qA2.same Qa Qa Qa Qa (.inl Qa)
  have s4:A4.ses=some (sd7 1)∧A4.kind=1∧A4.active=true∧A4.frozen=true∧A4.move=2∧A4.next=0:= by subst hA4; exact⟨rfl,s2.2.1,s2.2.2.1,rfl,s2.2.2.2.2.1,s2.2.2.2.2.2⟩
  have hpg:pushG A4 4 (sd7 1).pages=((sd7 1).pages,[]):=rfl
  have hls:Xy {sd7 1 with pages:=(pushG A4 4 (sd7 1).pages).1}=ls7:=rfl
  have b5:XX A4=(A4,[Zk A4 1 0 1 ls7]):= by
    rw[Ve qA4.upE s4.2.1 s4.1 s4.2.2.1,if_neg (by rw[s4.2.2.2.1];decide),if_neg (by rw[s4.2.2.2.1];decide),hls,E7,s4.2.2.2.2.2]
    have hp:ZS A4 ls7 1 (min (1:Int) 32).toNat 0=(0,[Zk A4 1 0 1 ls7]):= by
      show ZS A4 ls7 1 1 0=_
      rw[ZS,ZS]
      have h200:List.take 200 (List.drop (200*(0:Int)).toNat ls7)=ls7:=List.take_of_length_le (by show ls7.length≤200; have :=CG;omega)
      rw[h200];rfl
    rw[hp,hpg]
    have :({A4 with ses:=some {sd7 1 with pages:=(sd7 1).pages},next:=0}:EnD)=A4:= by
      cases A4; dsimp only at s4⊢; rw[s4.1,s4.2.2.2.2.2]
    rw[this];rfl
  -- the other end hears a page
  have qN:=new_q
  have e1m:Zk A2 0 3 1 pg7=WQ ⟨0,2,3,1,pg7⟩:= by unfold Zk; rw[s2.2.2.2.2.1]
  have h1:Zt YQ (Zk A2 0 3 1 pg7)=({YQ with off:=some ⟨2,[],0,[(3,⟨pg7,1,0,false⟩)],[]⟩},[]):= by
    rw[e1m,Us qN.upE (by decide) (by decide) (BR (by decide)) (BR (by decide)) (by simp)];rfl
  generalize hB1:({YQ with off:=some ⟨2,[],0,[(3,⟨pg7,1,0,false⟩)],[]⟩}:EnD)=B1 at h1
  have qB1:QE B1:= by subst hB1; exact new_q.same Qa Qa Qa Qa (.inl Qa)
  -- the part
  have e2m:Zk A4 1 0 1 ls7=WQ ⟨1,2,0,1,ls7⟩:= by unfold Zk; rw[s4.2.2.2.2.1]
  have hpB:ZD ⟨2,[(0,ls7)],1,[(3,⟨pg7,1,0,false⟩)],[]⟩=ls7:= by
    show(List.range 1).flatMap _=_
    simp [QT,List.range_succ]
  have qB1':QE {B1 with off:=some ⟨2,[(0,ls7)],1,[(3,⟨pg7,1,0,false⟩)],ls7⟩}:=qB1.same Qa Qa Qa Qa (.inl Qa)
  obtain⟨n3,D3,C3,e3,q3⟩:=qB1'.note (k:=2) (m:=2) (by omega) (M1 (by omega))
  have h2:Zt B1 (Zk A4 1 0 1 ls7)=({B1 with D:=D3,cell:=some C3,kind:=2,move:=2,ses:=none,off:=some ⟨2,[(0,ls7)],1,[(3,⟨pg7,1,0,false⟩)],ls7⟩},[WQ ⟨2,2,0,0,[]⟩]):= by
    rw[e2m,Us qB1.upE (by show(0:Int)≤1∧(1:Int)≤9;omega) (by show(0:Int)≤2∧(2:Int)≤_;omega) (BR (by show(0:Int)≤0∧(0:Int)≤9;omega)) (BR (by show(0:Int)≤1∧(1:Int)≤9;omega)) (by have :=CG; show ls7.length≤_;omega),PO Qa]
    have hj:ZA B1 2=some ⟨2,[],0,[(3,⟨pg7,1,0,false⟩)],[]⟩:= by subst hB1;rfl
    have hpr:(Jb (X9 ⟨2,[],0,[(3,⟨pg7,1,0,false⟩)],[]⟩ 1) ⟨1,2,0,1,ls7⟩)=⟨2,[(0,ls7)],1,[(3,⟨pg7,1,0,false⟩)],[]⟩:=rfl
    rw[M7 (o:=⟨2,[],0,[(3,⟨pg7,1,0,false⟩)],[]⟩) (by dsimp only;omega) hj (by decide) (by rw[hpr];decide) (by rw[hpr,hpB,TM];decide)]
    dsimp only
    rw[hpr,hpB,Ga n3,e3];rfl
  generalize hB2:({B1 with D:=D3,cell:=some C3,kind:=2,move:=2,ses:=none,off:=some ⟨2,[(0,ls7)],1,[(3,⟨pg7,1,0,false⟩)],ls7⟩}:EnD)=B2 at h2
  have qB2:QE B2:= by subst hB2; exact q3.same Qa Qa Qa Qa (.inl Qa)
  -- given
  obtain⟨n4,D4,C4,e4,q4⟩:=qA4.note (k:=3) (m:=A4.move) (by omega) (by rw[s4.2.2.2.2.1]; exact M1 (by omega))
  have h3:Zt A4 (WQ ⟨2,2,0,0,[]⟩)=({A4 with D:=D4,cell:=some C4,kind:=3,move:=A4.move,active:=false},[WQ ⟨4,2,0,0,[]⟩]):= by
    rw[Us qA4.upE (by decide) (by decide) XR XR (by simp),MC Qa,CO s4.2.1 ⟨rfl,s4.2.2.2.2.1.symm,s4.2.2.1,s4.2.2.2.1⟩ n4,e4]
    unfold Zk; dsimp only; rw[s4.2.2.2.2.1]
  generalize hA6:({A4 with D:=D4,cell:=some C4,kind:=3,move:=A4.move,active:=false}:EnD)=A6 at h3
  have qA6:QE A6:= by subst hA6; exact q4.same Qa Qa Qa Qa (.inr Qa)
  -- taken
  obtain⟨n5,D5,C5,e5,q5⟩:=qB2.note (k:=1) (m:=2) (by omega) (M1 (by omega))
  have sB2:B2.kind=2∧B2.move=2∧B2.off=some ⟨2,[(0,ls7)],1,[(3,⟨pg7,1,0,false⟩)],ls7⟩:= by subst hB2; exact⟨rfl,rfl,rfl⟩
  have h4:Zt B2 (WQ ⟨4,2,0,0,[]⟩)=({B2 with D:=D5,cell:=some C5,kind:=1,move:=2,off:=none,ses:=some (sd7 0),told:=false,active:=false,frozen:=false},[]):= by
    rw[Us qB2.upE (by decide) (by decide) XR XR (by simp),MB Qa,PD (m:=⟨4,2,0,0,[]⟩) (by rw[sB2.1,sB2.2.1];decide) n5 e5 sB2.2.2 Qa TM];rfl
  generalize hB3:({B2 with D:=D5,cell:=some C5,kind:=1,move:=2,off:=none,ses:=some (sd7 0),told:=false,active:=false,frozen:=false}:EnD)=B3 at h4
  have qB3:QE B3:= by subst hB3; exact q5.same Qa Qa Qa Qa (.inr Qa)
  have t6:A6.kind=3∧A6.move=2:= by subst hA6; exact⟨rfl,s4.2.2.2.2.1⟩
  have t3:B3.kind=1∧B3.move=2∧B3.ses=some (sd7 0)∧B3.frozen=false:= by subst hB3; exact⟨rfl,rfl,rfl,rfl⟩
  refine⟨A1,A2,_,A4,A4,A6,B1,B2,B3,_,_,_,_,b1,b2,b3,b4,b5, by rw[h1],h2,h3, by rw[h4], by omega, ?_, ?_, ?_, ?_, ?_⟩
  · unfold H7; rw[t3.2.2.1];rfl
  · unfold ZN H8; rw[t3.1,t3.2.2.1,t3.2.2.2, show upE B3=true by cases h:upE B3; exact absurd h qB3.upE;rfl];rfl
  · unfold ZN H8; rw[t6.1]; simp
  · unfold QP; rw[t3.2.2.1];rfl
  · rw[qA6.stored,qB3.stored,t6.1,t6.2,t3.1,t3.2.1];rfl
theorem ED {w:World} {F:Th} (hS:Sat w [F]) (hG:Ent F WireG) (hO:Ent F (Glob 0)) {t:Bs} {sv:Value} {l:AL Bs} (hL:Ent F (RdL shC sv l)):
    Calls prog 10 #[.agg #[strV t,sv]] w (Ret fun v w'=> ∃x,∃tq:Inhabited TwQ,v=ptrV x 0∧Sat w' [GW x ⟨(Zz YQ ⟨t,l⟩).2,YQ,[],false⟩,F]):= by
 refine Qx func10 Qa ntmps10 Qa ?_
 refine Qg (Qb (XT hS Qa Qa Qa ?_))
 intro bp w1 hS10
 have hS1:Sat w1 [QR bp [strV t,sv],F]:=hS10
 refine Qc Qa Qa (Qh (Qd (Qg (Qb (Qz Nt Qa (D0 (hS1.sp [] Qa) (hO.starL 1 Qa)) Qa ?_)))))
 rintro _ w2 ⟨a,rfl,hS2⟩
 replace hS2:=hS2.jn Qa Qa
 refine Qz Nt Qa (D0 (hS2.sp [] Qa) (hO.starL 2 Qa)) Qa ?_
 rintro _ w3 ⟨b,rfl,hS3⟩
 replace hS3:=hS3.jn Qa Qa
 refine Xc R8 [a,b] hS3 Qa underlying38 ifz_37 Qa Qa Qa Qa (by rfl) rfl ?_
 intro b4 w4 hS4
 refine Qz cal_39 Qa (O9 (hS4.sp [] Qa)) Qa ?_
 rintro _ w5 ⟨lp,rfl,hS5⟩
 replace hS5:=hS5.jn Qa Qa
 refine Zi Qa Er asz_41 zr_41 Qa Qa (XT hS5 Qa Qa Qa ?_)
 intro b6 w6 hS6
 refine Qc Qa Qa (Qh (Qd (Qg (Qg (Qb (Qe Qa Qa (Ql Qa Qa (Qi Qa ZV Qa (Qq Qa JX (hS6.cell 0 Qa Qa) Qa (ZP R8 2 0 hS6 Qa Qa Qa (by rfl) (show[a,b][0]? =some a from rfl) JU Qa ?_))))))))))
 intro bx7 capx7 hvx7
 refine ZT 2 0 0 hS6 Qa hvx7 Qa Qa (show[a,b][0]? =some a from rfl) Jy Qa Qa (ZH underlying37 Qa Qa Qa (Qe Qa Qa (Qj Qa Qa Qa (Qe Qa Qa (Qj Qa Qa Qa (Ql Qa Qa (Qj Qa Qa Qa (Qi Qa ZV Qa (Qj Qa Qa Qa (Qq Qa JX (hS6.cell 0 Qa Qa) Qa (Qj Qa Qa Qa (ZP R8 2 1 hS6 Qa Qa Qa (by rfl) (show[a,b][1]? =some b from rfl) JU Qa ?_))))))))))))
 intro bx8 capx8 hvx8
 refine Qj Qa Qa Qa (ZT 2 1 0 hS6 Qa hvx8 Qa Qa (show[a,b][1]? =some b from rfl) Jy Qa Qa (Qj Qa Qa Qa (ZH underlying37 Qa Qa Qa (Q1 Qa Qa Qa Qa (Qe Qa Qa (Qj Qa Qa Qa (Qe Qa Qa (Qj Qa Qa Qa (Ql Qa Qa (Qj Qa Qa Qa (Qi Qa XN Qa (Qj Qa Qa Qa (Qq Qa Xv (hS6.cell 0 Qa Qa) Qa (Qj Qa Qa Qa (ZH underlying39 Qa Qa Qa (Q1 Qa Qa Qa Qa (Qh (Qd (Qk [1,2,3,32] Qa (QI Qa (Qr (Qd (Qg ?_)))))))))))))))))))))))
 have hS9:=hS6.drew
 refine QM [0,1,2,3,4,5,6,7] [7] Wv (by kernel_rfl) ?_
 refine QK Qa Qa Qa (Xm Qa Qa Qa (QN Qa Qa Qa ZV (Q9 Qa Qa Qa (Qn Qa JX (hS9.cell 0 Qa Qa)) (QC Qa Qa Qa (fun _=>(Xk 0 Qa Qa (by rfl) (by omega) JU)) ?_))))
 refine Q9 Qa Qa Qa (XK R8 2 0 0 hS9 Qa (show[a,b][0]? =some a from rfl) Jy Qa Qa) (Q9 Qa Qa Qa (Ws Qa J9 Wi (hS9.blk 5 Qa) (Xd Qa) Qa) (QS Qa Qa Qa Qa Qa Qa ?_))
 refine Qz Nv Qa (GI (hS9.sp [4] Qa) (hG.starL 5 Qa) (hO.starL 5 Qa) (t:=t) (l:=l) (hL.starL 5 Qa)) Qa ?_
 rintro _ w10 ⟨rfl,hS10⟩
 replace hS10:=hS10.jn Qa Qa
 refine Xe (Xp (by kernel_rfl)) ?_
 exact VC.nil (Qd (Qk [2,3] Qa (Qg (Qb (Qe Qa Qa (Qc Qa Qa (Qh (Qd (Qo (Q5 (.inr Qa) Qa Qa (⟨_,Qa,_,⟨⟨_,a,b,lp⟩⟩,Qa,QY (tq:=⟨⟨_,a,b,lp⟩⟩) (X:=⟨(Zz YQ ⟨t,l⟩).2,YQ,[],false⟩) (hS10.pick [1,3,0,4,2,6] Qa) Qa⟩)))))))))))
theorem E6 {w:World} {F:Th} (hS:Sat w [F]) (hG:Ent F WireG) (hO:Ent F (Glob 0)):
    Calls prog 7 #[] w (Ret fun v w'=>v= .bool true∧Sat w' [F]):= by
 refine Qx func7 Qa ntmps7 Qa ?_
 obtain⟨A1,A2,A3,A4,A5,A6,B1,B2,B3,m1,m2,n1,o1,hb,hg,ht,hf,ht2,hh1,hh2,hh3,hh4,hmv,hpg,hrb,hra,hms,how⟩:=NT
 have hWA1:EW A1:=hb▸new_W.begin
 have hmv2:X5 (A1.move+1):= by rw[hmv]; exact XM (by decide)
 have hWA2:EW A2:= by have q:=hWA1.give hmv2; rw[hg]at q; exact q
 have hWA3:EW A3:= by have q:=hWA2.tick; rw[ht]at q; exact q
 have hm1:m1.length≤1000:=hWA2.tick_out m1 (by rw[ht]; simp)
 have hWA4:EW A4:= by have q:=hWA3.freeze; rw[hf]at q; exact q
 have hWA5:EW A5:= by have q:=hWA4.tick; rw[ht2]at q; exact q
 have hm2:m2.length≤1000:=hWA4.tick_out m2 (by rw[ht2]; simp)
 have hWB1:EW B1:=hh1▸new_W.hear hm1
 have hWB2:EW B2:= by have q:=hWB1.hear hm2; rw[hh2]at q; exact q
 have hn1:n1.length≤1000:=hWB1.hear_out hm2 n1 (by rw[hh2]; simp)
 have ho1:o1.length≤1000:=hWA5.hear_out hn1 o1 (by rw[hh3]; simp)
 have hWB3:EW B3:=hh4▸hWB2.hear ho1
 refine Qg (Qb (Qc Qa Qa (Qh (Qd (Qg (Qb (Qz Nt Qa (D0 (hS.sp [] Qa) (hO.starL 0 Qa)) Qa ?_)))))))
 rintro _ w1 ⟨a,rfl,hS1⟩
 replace hS1:=hS1.jn Qa Qa
 refine Qc Qa Qa (Qh (Qd (Qg (Qb (Qz Nt Qa (D0 (hS1.sp [] Qa) (hO.starL 1 Qa)) Qa ?_)))))
 rintro _ w2 ⟨b,rfl,hS2⟩
 replace hS2:=hS2.jn Qa Qa
 refine Qc Qa Qa (Qh (Qd (Qg (Qg (Qb (Qe Qa Qa (ZH underlying37 Qa Qa Qa (Qe Qa Qa (Qj Qa Qa Qa (Qe Qa Qa (Qj Qa Qa Qa (ZH underlying37 Qa Qa Qa (Q1 Qa Qa Qa Qa (Qh (Qd (Qk [0,1,2,18] Qa (QI Qa (Qr (Qd (Qg (Qb (Qe Qa Qa (Qz Kv Qa (HB (hS2.sp [] Qa) 7) Qa ?_)))))))))))))))))))))))
 rintro _ w3 ⟨rfl,hS3⟩
 replace hS3:=hS3.jn Qa Qa
 refine Zi Qa KC N4 Rn Qa Qa (Xc shC [((3:Int),pg7)] hS3 Qa underlying22 Br Qa Qa Qa Qa (by rfl) rfl ?_)
 intro b4 w4 hS4
 refine Zi Qa Es RJ VK Qa Qa (Qz Nv Qa (GI (hS4.sp [2] Qa) (hG.starL 2 Qa) (hO.starL 2 Qa) (t:=[115]) (l:=[(3,pg7)]) (Ent.starL (G9 (C:=shC) (l:=[(3,pg7)]) (by simp)) 0 Qa)) Qa ?_)
 rintro _ w5 ⟨rfl,hS5⟩
 replace hS5:=hS5.jn Qa Qa
 try rw[hb]at hS5
 try rw[hb]
 try dsimp only at hS5
 try dsimp only
 refine Qh (Qd (Qg (Qb (Qe Qa Qa (Qz FB Qa (CT (hS5.sp [0] Qa) (hG.starL 2 Qa) (hO.starL 2 Qa) hWA1.ses hmv2) Qa ?_)))))
 rintro _ w6 ⟨rfl,hS6⟩
 replace hS6:=hS6.jn Qa Qa
 try rw[hg]at hS6
 try rw[hg]
 try dsimp only at hS6
 try dsimp only
 refine Qc Qa Qa (Qh (Qd (Qk [0,1,2,3] Qa (Qg (Qb (Qe Qa Qa (Qz UX Qa (Hy (hS6.sp [0] Qa) (hG.starL 2 Qa) hWA2) Qa ?_)))))))
 rintro _ w7 hS7
 replace hS7:=hS7.jn Qa Qa
 try rw[ht]at hS7
 try rw[ht]
 try dsimp only at hS7
 try dsimp only
 have h1l:=hS7.own_one 0 Qa
 refine Qc Qa Qa (Qh (Qd (Qg (Qb (Qe Qa Qa (Qz FA Qa (Bu (hS7.sp [1] Qa)) Qa ?_))))))
 rintro _ w8 ⟨rfl,hS8⟩
 replace hS8:=hS8.jn Qa Qa
 try rw[hf]at hS8
 try rw[hf]
 try dsimp only at hS8
 try dsimp only
 refine Qc Qa Qa (Qh (Qd (Qg (Qb (Qe Qa Qa (Qz UX Qa (Hy (hS8.sp [0] Qa) (hG.starL 3 Qa) hWA4) Qa ?_))))))
 rintro _ w9 hS9
 replace hS9:=hS9.jn Qa Qa
 try rw[ht2]at hS9
 try rw[ht2]
 try dsimp only at hS9
 try dsimp only
 have h1m:=hS9.own_one 0 Qa
 refine Qc Qa Qa (Qh (Qd (Qk [0,1,2,3,4,5,6] Qa (Qg (Qg (Qb (Qe Qa Qa ?_)))))))
 first | refine Xi underlying66 Qa Qa ?_ | refine Xs 0 hS9 underlying66 Qa Qa Qa ?_ | refine Xs 2 hS9 underlying66 Qa Qa Qa ?_ | refine Xs 3 hS9 underlying66 Qa Qa Qa ?_
 refine Xr Qa Qa Qa (Qe Qa Qa (Q4 36 Qa (fun h10=> ?_) (fun h10=> ?_)))
 ·(exfalso; have q9:=h10; simp at q9)
 refine Qj Qa Qa (Qw h10) (Qe Qa Qa (Qj Qa Qa (Qw h10) (Xs 0 hS9 underlying66 Qa Qa Qa (Qj Qa Qa (Qw h10) (Xr Qa Qa Qa (Q1 Qa (Qw h10) Qa Qa (Qh (Qd (Qk [0,1,2,3,4,5,6,40] Qa (Qt Qa (fun h11=> ?_) (fun h11=> ?_)))))))))))
 ·(exfalso; have q9:=h11; simp at q9)
 refine Qr (Qd (Qg (Qb (Qe Qa Qa (Qe Qa Qa (ZP Z2 2 0 hS9 Qa Qa Qa (by first | rfl | omega) (show[m1][0]? =some m1 from rfl) Sg Qa ?_))))))
 intro bx12 capx12 hvx12
 refine ZT 2 0 0 hS9 Qa hvx12 Qa Qa (show[m1][0]? =some m1 from rfl) Zr Qa Qa (Qz HQ Qa (Y8 (hS9.sp [4] Qa) (hG.starL 4 Qa) (hO.starL 4 Qa) new_W m1 hm1) Qa ?_)
 rintro _ w13 hS13
 replace hS13:=hS13.jn Qa Qa
 try rw[hh1]at hS13
 try rw[hh1]
 try dsimp only at hS13
 try dsimp only
 have h1x:=hS13.own_one 0 Qa
 refine Qh (Qd (Qk [0,1,2,3,5,6] Qa (Qg (Qb (Qe Qa Qa (Qe Qa Qa (ZP Z2 2 0 hS13 Qa Qa Qa (by first | rfl | omega) (show[m2][0]? =some m2 from rfl) Sg Qa ?_)))))))
 intro bx14 capx14 hvx14
 refine ZT 2 0 0 hS13 Qa hvx14 Qa Qa (show[m2][0]? =some m2 from rfl) Zr Qa Qa (Qz HQ Qa (Y8 (hS13.sp [1] Qa) (hG.starL 5 Qa) (hO.starL 5 Qa) hWB1 m2 hm2) Qa ?_)
 rintro _ w15 hS15
 replace hS15:=hS15.jn Qa Qa
 try rw[hh2]at hS15
 try rw[hh2]
 try dsimp only at hS15
 try dsimp only
 have h1n:=hS15.own_one 0 Qa
 refine Qc Qa Qa (Qh (Qd (Qk [0,1,2,3,5,7] Qa (Qg (Qg (Qb (Qe Qa Qa ?_)))))))
 first | refine Xi underlying66 Qa Qa ?_ | refine Xs 0 hS15 underlying66 Qa Qa Qa ?_ | refine Xs 2 hS15 underlying66 Qa Qa Qa ?_ | refine Xs 3 hS15 underlying66 Qa Qa Qa ?_ | refine Xs 5 hS15 underlying66 Qa Qa Qa ?_ | refine Xs 6 hS15 underlying66 Qa Qa Qa ?_
 refine Xr Qa Qa Qa (Qh (Qd (Qt Qa (fun h16=> ?_) (fun h16=> ?_))))
 ·(exfalso; have q9:=h16; simp at q9)
 refine Qr (Qd (Qg (Qb (Qe Qa Qa (Qe Qa Qa (ZP Z2 0 0 hS15 Qa Qa Qa (by first | rfl | omega) (show[n1][0]? =some n1 from rfl) Sg Qa ?_))))))
 intro bx17 capx17 hvx17
 refine ZT 0 0 0 hS15 Qa hvx17 Qa Qa (show[n1][0]? =some n1 from rfl) Zr Qa Qa (Qz HQ Qa (Y8 (hS15.sp [4] Qa) (hG.starL 6 Qa) (hO.starL 6 Qa) hWA5 n1 hn1) Qa ?_)
 rintro _ w18 hS18
 replace hS18:=hS18.jn Qa Qa
 try rw[hh3]at hS18
 try rw[hh3]
 try dsimp only at hS18
 try dsimp only
 have h1o:=hS18.own_one 0 Qa
 refine Qc Qa Qa (Qh (Qd (Qk [0,1,2,3,5,8] Qa (Qg (Qg (Qb (Qe Qa Qa ?_)))))))
 first | refine Xi underlying66 Qa Qa ?_ | refine Xs 0 hS18 underlying66 Qa Qa Qa ?_ | refine Xs 2 hS18 underlying66 Qa Qa Qa ?_ | refine Xs 4 hS18 underlying66 Qa Qa Qa ?_ | refine Xs 5 hS18 underlying66 Qa Qa Qa ?_ | refine Xs 6 hS18 underlying66 Qa Qa Qa ?_ | refine Xs 7 hS18 underlying66 Qa Qa Qa ?_
 refine Xr Qa Qa Qa (Qh (Qd (Qt Qa (fun h19=> ?_) (fun h19=> ?_))))
 ·(exfalso; have q9:=h19; simp at q9)
 refine Qr (Qd (Qg (Qb (Qe Qa Qa (Qe Qa Qa (ZP Z2 0 0 hS18 Qa Qa Qa (by first | rfl | omega) (show[o1][0]? =some o1 from rfl) Sg Qa ?_))))))
 intro bx20 capx20 hvx20
 refine ZT 0 0 0 hS18 Qa hvx20 Qa Qa (show[o1][0]? =some o1 from rfl) Zr Qa Qa (Qz HQ Qa (Y8 (hS18.sp [3] Qa) (hG.starL 7 Qa) (hO.starL 7 Qa) hWB2 o1 ho1) Qa ?_)
 rintro _ w21 hS21
 replace hS21:=hS21.jn Qa Qa
 try rw[hh4]at hS21
 try rw[hh4]
 try dsimp only at hS21
 try dsimp only
 have h1y:=hS21.own_one 0 Qa
 refine Qh (Qd (Qk [0,1,2,3,5] Qa (Qg (Qb (Qe Qa Qa (Qz Nu Qa (G8 (hS21.sp [1] Qa) 3) Qa ?_))))))
 rintro _ w22 ⟨rfl,hS22⟩
 replace hS22:=hS22.jn Qa Qa
 try rw[hpg]at hS22
 try rw[hpg]
 try dsimp only at hS22
 try dsimp only
 refine Qe Qa Qa (Q6 Qa Qa Qa (Q6 Qa Qa Qa (Qc Qa Qa (Qc Qa Qa (Qh (Qd (Qk [0,1,2,3,5,9,10] Qa (Qg (Qb (Qe Qa Qa (QL Qa Qa Qa (Qe Qa Qa (Q4 74 Qa (fun h23=> ?_) (fun h23=> ?_))))))))))))))
 ·refine Qj Qa Qa (Q8 h23) (Qe Qa Qa (Qj Qa Qa (Q8 h23) (QL Qa Qa Qa (Q0 Qa (Q8 h23) Qa Qa (Qe Qa Qa (Q4 78 Qa (fun h24=> ?_) (fun h24=> ?_)))))))
  ·refine Qj Qa Qa (Q8 h24) (Qe Qa Qa (Qj Qa Qa (Q8 h24) (Qz Uz Qa (YW (hS22.sp [0] Qa)) Qa ?_)))
   rintro _ w25 ⟨rfl,hS25⟩
   replace hS25:=hS25.jn Qa Qa
   try rw[hrb]at hS25
   try rw[hrb]
   try dsimp only at hS25
   try dsimp only
   refine Q0 Qa (Q8 h24) Qa Qa (Qe Qa Qa (Z4 82 Qa (fun h26=> ?_) (fun h26=> ?_)))
   ·refine Qj Qa Qa h26 (Qe Qa Qa (Qj Qa Qa h26 (Qz Uz Qa (YW (hS25.sp [3] Qa)) Qa ?_)))
    rintro _ w27 ⟨rfl,hS27⟩
    replace hS27:=hS27.jn Qa Qa
    try rw[hra]at hS27
    try rw[hra]
    try dsimp only at hS27
    try dsimp only
    refine Qj Qa Qa h26 (XL Qa Qa (Q0 Qa h26 Qa Qa (Qe Qa Qa (Z4 87 Qa (fun h28=> ?_) (fun h28=> ?_)))))
    ·refine Qj Qa Qa h28 (Qe Qa Qa (Qj Qa Qa h28 (Qz Uy Qa (WR (hS27.sp [1] Qa) hWB3.ses) Qa ?_)))
     rintro _ w29 hS29
     replace hS29:=hS29.jn Qa Qa
     rw[hms]at hS29
     refine Qj Qa Qa h28 (Xs 0 hS29 underlying33 Qa Qa Qa (Qj Qa Qa h28 (QL Qa Qa Qa (Q0 Qa h28 Qa Qa (Qe Qa Qa (Q4 93 Qa (fun h30=> ?_) (fun h30=> ?_)))))))
     ·refine Qj Qa Qa (Q8 h30) (Qe Qa Qa (Qj Qa Qa (Q8 h30) (QL Qa Qa Qa (Q0 Qa (Q8 h30) Qa Qa (Qe Qa Qa (Q4 97 Qa (fun h31=> ?_) (fun h31=> ?_)))))))
      ·refine Qj Qa Qa (Q8 h31) (Qe Qa Qa (Qj Qa Qa (Q8 h31) (Qz Kv Qa (HB (hS29.sp [] Qa) 7) Qa ?_)))
       rintro _ w32 ⟨rfl,hS32⟩
       replace hS32:=hS32.jn Qa Qa
       refine Qj Qa Qa (Q8 h31) (Kz Qa Qa Qa (Q0 Qa (Q8 h31) Qa Qa (Qe Qa Qa (Q4 102 Qa (fun h33=> ?_) (fun h33=> ?_)))))
       ·refine Qj Qa Qa (Q8 h33) (Qe Qa Qa (Qj Qa Qa (Q8 h33) (Qe Qa Qa (Qj Qa Qa (Q8 h33) (Qz cal_13 Qa (Ow (hS32.sp [2,1] Qa) (hG.starL 8 Qa) (hO.starL 8 Qa)) Qa ?_)))))
        rintro _ w34 ⟨rfl,hS34⟩
        replace hS34:=hS34.jn Qa Qa
        rw[how]
        refine Qj Qa Qa (Q8 h33) (QL Qa Qa Qa (Q0 Qa (Q8 h33) Qa Qa (Qc Qa Qa (Qh (Qd (Qk [0] Qa (Qo (Q5 (.inr Qa) Qa Qa ?_))))))))
        exact⟨_,rfl, by rfl,hS34.pick [10] Qa⟩
       exact absurd Qa h33
      (exfalso; have q9:=h31; simp at q9)
     (exfalso; have q9:=h30; simp at q9)
    (exfalso; have q9:=h28; simp at q9)
   (exfalso; have q9:=h26; simp at q9)
  (exfalso; have q9:=h24; simp at q9)
 (exfalso; have q9:=h23; simp at q9)
