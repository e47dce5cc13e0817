/- the law: a step -/
import Derived.Test.YtiibgheijbbmaaaGreatDoorMvb3
import Derived.Test.YtiibgheijbbmaaaGreatDoorMvt
set_option linter.unusedVariables false
set_option maxRecDepth 100000
set_option maxHeartbeats 2000000
namespace Go.Proofs.YtiibgheijbbmaaaGreatDoor
open Go.RowKit M Proofs.Tryz
theorem LJ {P:Program} {L:Env} {w:World} {d:Nat} {ty:TypeId} {pos:String} {aft:Array Edge} {x y:Operand} {t t2:TypeId} {a b:Int} (m:Nat) (hx:M.look L x=some (.int .i64 a)) (hy:M.look L y=some (.int .i64 b)) (hb:b=((2^m -1:Nat):Int)) (hm:Nat.blt m 64=true) {q:Int} (hq:((2^m:Nat):Int)=q):Ev P L w ⟨some d,.binOp .and t x y t2,ty,pos,aft,none⟩ (.int .i64 (a%q)):= by
  subst hq
  intro ρ hρ
  subst hb
  have :=S3 a m (by simpa [Nat.blt_eq]using hm)
  simp only[execOp,hρ _ _ hx,hρ _ _ hy,binOp,Op.intBits]
  simp only[IntKind.bits,eqGuard]
  simp only[BitVec.ofInt_natCast]at this⊢
  simp [-BitVec.toNat_and]at this⊢
  exact this
section
variable {X:TwD} {o:OpD} {i:Bool}
theorem stp_8 (hk:o.dO%32=8) (hi:decide (o.n%2=1)=i):Wy X o=(0,BU X o.n):= by subst hi; simp [Wy,hk]
theorem stp_9 (hk:o.dO%32=9) (hi:decide (o.n%2=1)=i):Wy X o=(0,GC X o.n):= by subst hi; simp [Wy,hk]
theorem stp_14 (hk:o.dO%32=14) (hi:decide (o.n%2=1)=i):Wy X o=YX X i (Wi (Q6 X i)):= by subst hi; simp [Wy,hk]
theorem stp_15 (hk:o.dO%32=15) (hi:decide (o.n%2=1)=i):Wy X o=YX X i (Zb (Q6 X i)):= by subst hi; simp [Wy,hk]
theorem stp_16 (hk:o.dO%32=16) (hi:decide (o.n%2=1)=i):Wy X o=YX X i (HC (Q6 X i)):= by subst hi; simp [Wy,hk]
theorem Ow (hk:o.dO%32=17) (hi:decide (o.n%2=1)=i):Wy X o=YX X i (Xx (Q6 X i) o.id (List.replicate 64 o.b)):= by subst hi; simp [Wy,hk]
theorem Ov (hk:o.dO%32=18) (hi:decide (o.n%2=1)=i):Wy X o=YX X i (Xx (Q6 X i) o.id (List.replicate 64 o.b)):= by subst hi; simp [Wy,hk]
theorem Ou (hk:o.dO%32=19) (hi:decide (o.n%2=1)=i):Wy X o=YX X i (XN (Q6 X i) o.id):= by subst hi; simp [Wy,hk]
theorem Ot (hk:o.dO%32=20) (hi:decide (o.n%2=1)=i):Wy X o=YX X i (XM (Q6 X i) o.s):= by subst hi; simp [Wy,hk]
theorem stp_26 (hk:o.dO%32=26) (hi:decide (o.n%2=1)=i):Wy X o=(0,{X with cut:=true,fl:=[]}):= by subst hi; simp [Wy,hk]
theorem stp_27 (hk:o.dO%32=27) (hi:decide (o.n%2=1)=i):Wy X o=(0,{X with cut:=false}):= by subst hi; simp [Wy,hk]
theorem Oq (hk:10≤o.dO%32∧o.dO%32≤13) (hi:decide (o.n%2=1)=i):Wy X o=(0,ZO (Z2 X i (X7 (Q6 X i)).1) i (X7 (Q6 X i)).2):= by
  subst hi
  unfold Wy
  rw[if_neg (by omega),if_neg (by omega),if_pos hk]
theorem stp_arr (hk: ¬(8≤o.dO%32∧o.dO%32≤28)):Wy X o=(0,XQ X o.n):= by
  unfold Wy
  simp only[show o.dO%32≠8 by omega, show o.dO%32≠9 by omega, show ¬(10≤o.dO%32∧o.dO%32≤13) by omega, show o.dO%32≠14 by omega, show o.dO%32≠15 by omega, show o.dO%32≠16 by omega, show ¬(o.dO%32=17∨o.dO%32=18) by omega, show o.dO%32≠19 by omega, show o.dO%32≠20 by omega, show o.dO%32≠21 by omega, show ¬(o.dO%32=22∨o.dO%32=23) by omega, show o.dO%32≠24 by omega, show o.dO%32≠25 by omega, show o.dO%32≠26 by omega, show o.dO%32≠27 by omega, show o.dO%32≠28 by omega,if_false]
theorem NM (E:EnD):(X7 E).2.length≤100:= by
  have h1:= fun s:SeD=>YT E s.pages 4
  unfold X7
  split
  · simp
  split
  · simp
  split
  · simp
  split
  · simp
  · rename_i s hs
    have h1:=YT E s.pages 4
    dsimp only
    split
    · split
      · dsimp only;omega
      · dsimp only; rw[List.length_append,W4];omega
    · dsimp only; rw[List.length_append,List.length_map,List.length_take];split<;> simp <;>omega
end
theorem Lv {m:MsD} (h1:Xy m.kind) (h2:Xy m.move) (h3:Xy m.a) (h4:Xy m.b) (h5:m.data.length≤500):(Zy m).length≤1000:= by
  have a1:=Wt h1
  have a2:=Wt h2
  have a3:=Wt h3
  have a4:=Wt h4
  have a5:=V2 (s:=m.data) (by omega)
  unfold Zy
  simp only[List.length_append];omega
theorem YA {E:EnD} {k a b:Int} {d:Bs} (h1:Xy k) (h2:Xy E.move) (h3:Xy a) (h4:Xy b) (h5:d.length≤500):(Ze E k a b d).length≤1000:=Lv h1 h2 h3 h4 h5
theorem YL {k:Int} (h:0≤k∧k≤10000):Xy k:= by unfold Xy;omega
theorem Bc {E:EnD} (hm:Xy E.move): ∀(l:AL PgD) (k:Nat),(∀e∈l,Xy e.1∧Xy e.2.ver∧Xy e.2.sent∧e.2.data.length≤64)→ ∀s∈(pushG E k l).2,s.length≤1000
  | [],k,_,s,hs=> by rw[pushG.eq_def]at hs; cases hs
  | e::l,k,h,s,hs=> by
    have he:=h e List.mem_cons_self
    have hl: ∀f∈l,_:= fun f hf=>h f (List.mem_cons_of_mem _ hf)
    rw[pushG.eq_def]at hs
    dsimp only at hs
    split at hs
    · exact Bc hm l k hl s hs
    · cases k with
      | zero=> cases hs
      | succ k=>
        rcases List.mem_cons.1 hs with q | q
        · rw[q]; exact YA (YL (by omega)) hm he.1 he.2.1 (by omega)
        · exact Bc hm l k hl s q
theorem TK {E:EnD} (hm:Xy E.move) (l:Bs) {n:Int} (hn:1≤n∧n≤10000): ∀(k:Nat) (nx:Int),0≤nx∧nx<n→ ∀s∈(ZM E l n k nx).2,s.length≤1000
  | 0,nx,_,s,hs=> by rw[ZM]at hs; cases hs
  | k+1,nx,h,s,hs=> by
    rw[ZM]at hs
    rcases List.mem_cons.1 hs with q | q
    · rw[q]; exact YA (YL (by omega)) hm (YL (by omega)) (YL (by omega)) (by rw[List.length_take];omega)
    · exact TK hm l hn k _ ⟨Int.emod_nonneg _ (by omega),Int.emod_lt_of_pos _ (by omega)⟩ s q
theorem HB {s t:Bs} (h:t.length≤1000) (hs:s∈[t]):s.length≤1000:= by rw[List.mem_singleton.1 hs]; exact h
theorem EW.tick_out {E:EnD} (h:EW E): ∀s∈(X7 E).2,s.length≤1000:= by
  have hm:=h.km.2.2.2
  intro t ht
  unfold X7 at ht
  split at ht
  · cases ht
  split at ht
  · refine HB ?_ ht
    split
    · exact YA (YL (by omega)) hm XF XF (by simp)
    · exact YA (YL (by omega)) hm XF XF (by simp)
  split at ht
  · cases ht
  cases hs:E.ses with
  | none=> rw[hs]at ht; cases ht
  | some s=>
    rw[hs]at ht
    dsimp only at ht
    have hw:=h.ses s hs
    have hp:=Bc hm s.pages 4 hw.pg
    split at ht
    · rename_i hac
      split at ht
      · exact hp t ht
      · rcases List.mem_append.1 ht with q | q
        · exact hp t q
        · rw[Yn (W3 E s.pages 4)]at q
          have hnx:=h.nx hac s hs
          have h1:=Uw (Ui (s:=s))
          have h2:=Mu (KZ hw)
          exact TK hm _ ⟨h1, by omega⟩ _ _ ⟨hnx.1,hnx.2.1⟩ t q
    · rcases List.mem_append.1 ht with q | q
      · obtain⟨i,hi,rfl⟩:=List.mem_map.1 q
        have hi1:=List.mem_of_mem_take hi
        obtain⟨e,he,rfl⟩:=List.mem_map.1 hi1
        exact YA (YL (by omega)) hm (hw.pg e (List.mem_filter.1 he).1).1 XF (by simp)
      · split at q
        · exact HB (YA (YL (by omega)) hm XF XF (by simp)) q
        · cases q
theorem EW.hear_out {E:EnD} (h:EW E) {b:Bs} (hb:b.length≤1000): ∀s∈(X9 E b).2,s.length≤1000:= by
  have hm:=h.km.2.2.2
  have z: ∀{t:Bs},t∈([]:List Bs)→t.length≤1000:= fun q=> by cases q
  obtain⟨d1,d2,d3,d4,d5⟩:=VO b
  intro t ht
  unfold X9 at ht
  split at ht
  · exact z ht
  rename_i hc
  have hu:E.cell≠none:=RW fun q=>hc (.inl q)
  have key: ∀{E0:EnD},E0.cell=E.cell→(QS E0 2 (QU b).move).1=0→Xy (QS E0 2 (QU b).move).2.move:= fun he q=> by rw[H1 (by rw[he]; exact hu) q]; exact d2
  unfold X8 at ht
  split at ht
  · exact z ht
  split at ht
  · unfold Xo at ht
    split at ht
    · exact z ht
    split at ht
    · exact z ht
    split at ht
    · exact z ht
    split at ht
    · exact z ht
    split at ht
    · exact z ht
    unfold Yx at ht
    split at ht
    · exact z ht
    · rename_i q
      refine HB (YA (YL (by omega)) ?_ XF XF (by simp)) ht
      exact key Qa (Decidable.not_not.1 q)
  split at ht
  · unfold Xh at ht
    have hno:(noB (QU b)).length≤1000:=Lv (YL (by show(0:Int)≤5∧(5:Int)≤10000;omega)) d2 XF XF (by show([]:Bs).length≤_; simp)
    split at ht
    · exact HB (YA (YL (by omega)) hm XF XF (by simp)) ht
    split at ht
    · exact z ht
    split at ht
    · split at ht
      · exact z ht
      · rename_i q
        refine HB (YA (YL (by omega)) ?_ XF XF (by simp)) ht
        rw[H1 hu (by simpa using q)]; exact hm
    split at ht
    · exact HB hno ht
    · exact HB hno ht
  split at ht
  · exact z ht
  split at ht
  · exact z ht
  split at ht
  · unfold Zv at ht
    split at ht
    · exact z ht
    cases hs:E.ses with
    | none=> rw[hs]at ht; exact HB (YA (YL (by omega)) hm XF XF (by simp)) ht
    | some s=>
      rw[hs]at ht
      dsimp only at ht
      cases hp:QN s.pages (QU b).a with
      | none=> rw[hp]at ht; exact z ht
      | some p=>
        rw[hp]at ht
        have :=(h.ses s hs).pg _ (JC hp)
        exact HB (YA (YL (by omega)) hm d3 this.2.1 (by have :=this.2.2.2; dsimp only at this;omega)) ht
  split at ht
  · exact z ht
  split at ht
  · unfold Z6 at ht
    split at ht
    · exact z ht
    · exact HB (YA (YL (by omega)) hm XF XF (by simp)) ht
  · exact z ht
section
variable {X:TwD} {E:EnD} {i:Bool} {l:List Bs} {o:OpD}
theorem XW.put (h:XW X) (hE:EW E):XW (Z2 X i E):= by
  cases i with
  | false=> exact⟨hE,h.b,h.fl,h.ln⟩
  | true=> exact⟨h.a,hE,h.fl,h.ln⟩
theorem XW.send (h:XW X) (hl: ∀s∈l,s.length≤1000):XW (ZO X i l):= by
  obtain⟨a,b,_⟩:=VB (i:=i) (l:=l) (X:=X)
  refine⟨by rw[a]; exact h.a, by rw[b]; exact h.b, fun p hp=> ?_,TA h.ln⟩
  rcases Vo hp with q | ⟨s,hs,q⟩
  · exact h.fl p q
  · rw[q]; exact hl s hs
theorem XW.at_ (h:XW X) (i:Bool):EW (Q6 X i):= by cases i; exact h.a; exact h.b
theorem XW.drop (h:XW X) (n:Int):XW (BU X n):=⟨h.a,h.b, fun p hp=>h.fl p (List.mem_of_mem_eraseIdx hp),Nat.le_trans (List.length_eraseIdx_le _ _) h.ln⟩
theorem XW.arrive (h:XW X) (n:Int):XW (XQ X n):= by
  unfold XQ
  cases hp:X.fl[(ZU n X.fl.length).toNat]? with
  | none=> exact h
  | some p=>
    dsimp only
    have hl:=h.fl p (List.mem_of_getElem? hp)
    exact((h.drop n).put ((h.at_ p.1).hear hl)).send ((h.at_ p.1).hear_out hl)
theorem XW.double (h:XW X) (n:Int):XW (GC X n):= by
  unfold GC
  cases hp:X.fl[(ZU n X.fl.length).toNat]? with
  | none=> exact h
  | some p=>
    dsimp only
    split
    · exact h
    · refine⟨h.a,h.b, fun q hq=> ?_, by show(X.fl++[p]).length≤500; rw[List.length_append]; simp;omega⟩
      rcases List.mem_append.1 hq with r | r
      · exact h.fl q r
      · rw[List.mem_singleton.1 r]; exact h.fl p (List.mem_of_getElem? hp)
theorem XW.step (h:XW X) (hm: ∀i,Xy ((Q6 X i).move+1)) (o:OpD):XW (Wy X o).2:= by
  unfold Wy
  generalize o.dO%32=k
  generalize decide (o.n%2=1)=i
  dsimp only
  have hE:=h.at_ i
  have P: ∀{r:Int×EnD},EW r.2→XW (YX X i r).2:= fun q=>h.put q
  refine WT (P:= fun r:Int×TwD=>XW r.2) (fun _=>h.drop _) fun _=> ?_
  refine WT (P:= fun r:Int×TwD=>XW r.2) (fun _=>h.double _) fun _=> ?_
  refine WT (P:= fun r:Int×TwD=>XW r.2) (fun _=>(h.put hE.tick).send hE.tick_out) fun _=> ?_
  refine WT (P:= fun r:Int×TwD=>XW r.2) (fun _=>P (hE.give (hm i))) fun _=> ?_
  refine WT (P:= fun r:Int×TwD=>XW r.2) (fun _=>P hE.freeze) fun _=> ?_
  refine WT (P:= fun r:Int×TwD=>XW r.2) (fun _=>P hE.cancel) fun _=> ?_
  refine WT (P:= fun r:Int×TwD=>XW r.2) (fun _=>P (hE.setPage _ _)) fun _=> ?_
  refine WT (P:= fun r:Int×TwD=>XW r.2) (fun _=>P (hE.dropPage _)) fun _=> ?_
  refine WT (P:= fun r:Int×TwD=>XW r.2) (fun _=>P (hE.setState _)) fun _=> ?_
  refine WT (P:= fun r:Int×TwD=>XW r.2) (fun _=>h.put (EW.crash _)) fun _=> ?_
  refine WT (P:= fun r:Int×TwD=>XW r.2) (fun _=>P hE.start) fun _=> ?_
  refine WT (P:= fun r:Int×TwD=>XW r.2) (fun _=>h.put (hE.disk _)) fun _=> ?_
  refine WT (P:= fun r:Int×TwD=>XW r.2) (fun _=>h.put (hE.disk _)) fun _=> ?_
  refine WT (P:= fun r:Int×TwD=>XW r.2) (fun _=>⟨h.a,h.b, fun p q=>(by cases q), by simp⟩) fun _=> ?_
  refine WT (P:= fun r:Int×TwD=>XW r.2) (fun _=>⟨h.a,h.b,h.fl,h.ln⟩) fun _=> ?_
  refine WT (P:= fun r:Int×TwD=>XW r.2) (fun _=> ?_) fun _=> ?_
  · split
    · exact P hE.begin
    · exact h
  · exact h.arrive _
theorem INV.mv {t:Int} (h:INV X t) (hX:XW X) (i:Bool):(Q6 X i).move≤max t 0:= by
  obtain⟨S,S',h1,h2,_,h4,h5⟩:=h.at i
  cases q:(Q6 X i).cell with
  | none=> have :=congrArg EnD.move ((hX.at_ i).dn q); rw[this]; show(0:Int)≤_;omega
  | some C=>
    have :=h5 _ ((UX h2 (by rw[q]; exact fun z=> by cases z) _).2 Qa)
    have :(Q6 X i).move≤t:=this
    show(Q6 X i).move≤_
    omega
end
structure QE (E:EnD):Prop where
  ei:EI E (fun x=>x=(E.kind,E.move))
  up:E.cell≠none
  calm:Calm E.D
theorem IU {D:DS} {C:CS} {P:Nat→Bytes→Prop} {s:Bytes} (hg:Good D 0 C P) (hc:Calm D) (hl:s.length≤65536):(ZB D C s).e=0∧Calm (ZB D C s).D:= by
  have hcf:=hg.cf
  by_cases q:C.sure=false∧0<C.slot
  · obtain⟨a1,a2,a3⟩:=hc.sync (f:=0) hg.up
    have hm:Wf (Zq D 0) 0=0:= by rw[a2]; have :=hg.up;simpa [Wf,Wz]using this
    rw[GZ (by omega) q.1 q.2 (by rw[hcf]; exact a1),hcf]
    have hc2:Calm (Zq D 0):= by rw[a2]; exact a3
    obtain⟨b1,b2,_⟩:=hc2.set (f:=0) (C:={C with sure:=true}) (s:=s) hm hcf (by simp) hl
    rw[KQ (by omega) (by simp),hcf]at b1 b2
    exact⟨b1,b2⟩
  · obtain⟨b1,b2,_⟩:=hc.set (f:=0) (C:=C) (s:=s) hg.up hcf q hl
    exact⟨b1,b2⟩
section
variable {E E':EnD} {k m:Int}
theorem QE.note (h:QE E) (hk:0≤k∧k<4) (hm:0≤m∧Xy m):(QS E k m).1=0∧ ∃D C,(QS E k m).2={E with D:=D,cell:=some C,kind:=k,move:=m}∧QE {E with D:=D,cell:=some C,kind:=k,move:=m}:= by
  obtain⟨C,hC⟩:=Option.ne_none_iff_exists'.1 h.up
  have hl:(Xi k++Xi m).length≤65536:= by
    have h1:=Wt (n:=k) (by unfold Xy;omega)
    have h2:=Wt hm.2
    rw[List.length_append];omega
  obtain⟨a1,a2⟩:=IU (h.ei.up C hC).1 h.calm hl
  have e0:(QS E k m).1=0:= by rw[Ku hC a1]
  rcases h.ei.note h.up hk hm with⟨_,b2,D,C2,b3⟩ | ⟨b1,_⟩
  · refine⟨e0,D,C2,b3,⟨?_,(by intro q; cases q), ?_⟩⟩
    · rw[b3]at b2; exact b2
    · have e:(QS E k m).2.D=(ZB E.D C (Xi k++Xi m)).D:= by rw[Ku hC a1]
      rw[b3]at e
      show Calm D
      rw[show D=(ZB E.D C (Xi k++Xi m)).D from e]; exact a2
  · exact absurd e0 b1
theorem QE.same (h:QE E) (h1:E'.D=E.D) (h2:E'.cell=E.cell) (h3:E'.kind=E.kind) (h4:E'.move=E.move) (h5:E'.active=E.active∨E'.active=false):QE E':=
  ⟨by rw[h3,h4]; exact h.ei.same h1 h2 h3 h4 h5, by rw[h2]; exact h.up, by rw[h1]; exact h.calm⟩
theorem QE.act (h:QE E) (b:Bool):QE {E with active:=b}:= by
  refine⟨⟨fun C q=>h.ei.up C q, fun q=>absurd q h.up, fun q=>absurd q h.up⟩,h.up,h.calm⟩
theorem QE.stored (h:QE E):WD E=(E.kind,E.move):=h.ei.stored
theorem new_q:QE JS:=⟨new_ei,(by intro q; cases q),calm_new⟩
theorem QE.rg (h:QE E):0≤E.kind∧E.kind<4∧0≤E.move∧Xy E.move:=h.ei.rg h.up
theorem QE.upE (h:QE E): ¬upE E=false:= by
  obtain⟨C,hC⟩:=Option.ne_none_iff_exists'.1 h.up
  unfold Go.Proofs.YtiibgheijbbmaaaGreatDoor.upE; rw[hC]; simp
end
theorem ML {m:MsD} (h1:Xy m.kind) (h2:Xy m.move) (h3:Xy m.a) (h4:Xy m.b) (h5:m.data.length≤100000000000):QU (Zy m)=m:= by
  have e:Zy m=Xi m.kind++(Xi m.move++(Xi m.a++(Xi m.b++(HO m.data++[])))):= by unfold Zy; simp
  obtain⟨a1,a2⟩:=Hg (m:=m.kind) (rest:=Xi m.move++(Xi m.a++(Xi m.b++(HO m.data++[])))) (least:=(-9223372036854775808:Int)) h1 (by unfold Xy at h1;omega)
  obtain⟨b1,b2⟩:=Hg (m:=m.move) (rest:=Xi m.a++(Xi m.b++(HO m.data++[]))) (least:=(-9223372036854775808:Int)) h2 (by unfold Xy at h2;omega)
  obtain⟨c1,c2⟩:=Hg (m:=m.a) (rest:=Xi m.b++(HO m.data++[])) (least:=(-9223372036854775808:Int)) h3 (by unfold Xy at h3;omega)
  obtain⟨d1,d2⟩:=Hg (m:=m.b) (rest:=HO m.data++[]) (least:=(-9223372036854775808:Int)) h4 (by unfold Xy at h4;omega)
  obtain⟨t1,t2⟩:=NG (s:=m.data) (rest:=[]) h5
  unfold QU
  dsimp only
  rw[e,a1,a2,b1,b2,c1,c2,d1,d2,t1]
theorem WR {E:EnD} {m:MsD} (hu: ¬upE E=false) (h1:0≤m.kind∧m.kind≤9) (h2:0≤m.move∧m.move≤4611686018427387904) (h3:Xy m.a) (h4:Xy m.b) (h5:m.data.length≤100000000000):X9 E (Zy m)=X8 E m:= by
  have hd:=ML (m:=m) (by unfold Xy;omega) (by unfold Xy;omega) h3 h4 h5
  rw[W5 (by rw[hd]; rintro(q | q | q | q | q | q); exact hu q;omega;omega;omega;omega; exact q rfl),hd]
abbrev pg7:Bs:=List.replicate 64 7
abbrev ss7:SsD:=⟨[115],[(3,pg7)]⟩
abbrev sd7 (sent:Int):SeD:=⟨[115],1,[(3,⟨pg7,1,sent,false⟩)]⟩
abbrev ls7:Bs:=Xf (sd7 0)
theorem BO {k:Int} (h:0≤k∧k≤9):Xy k:=XJ h
theorem Mx {k:Int} (h:0≤k∧k≤9):0≤k∧Xy k:=⟨h.1,XJ h⟩
theorem CG:ls7.length≤150∧1≤ls7.length:= by
  have h1:=Wt (n:=1) (BO (by omega))
  have h3:=Wt (n:=3) (BO (by omega))
  have h4:=V2 (s:=[115]) (by simp)
  have h5:=Ui (s:=sd7 0)
  refine⟨?_,h5⟩
  show(HO [115]++Xi ((1:Nat):Int)++([(3,(⟨pg7,1,0,false⟩:PgD))]:AL PgD).flatMap fun e=>Xi e.1++Xi e.2.ver).length≤150
  simp only[List.flatMap_cons,List.flatMap_nil,List.length_append,List.length_nil,List.append_nil,List.length_cons]at *
  have :(((1:Nat):Int))=1:=rfl
  rw[this];omega
theorem ES:Xa ls7=1:= by
  have :=CG
  unfold Xa;omega
theorem TP:Wp ls7=(some ⟨[115],1,[(3,⟨[],1,0,true⟩)]⟩,true):= by
  have h:=Mp (s:=sd7 0) (List.pairwise_singleton _ _) (fun e he=> by rcases List.mem_singleton.1 he with rfl;decide) (fun e he=> by rcases List.mem_singleton.1 he with rfl; exact⟨by decide, by decide,L6⟩) (by simp) (by simp) (by simp)
  exact h
theorem NU: ∃A1 A2 A3 A4 A5 A6 B1 B2 B3 m1 m2 n1 o1,(Z3 JS ss7).2=A1∧Wi A1=(0,A2)∧X7 A2=(A3,[m1])∧Zb A3=(0,A4)∧X7 A4=(A5,[m2])∧(X9 JS m1).1=B1∧X9 B1 m2=(B2,[n1])∧X9 A5 n1=(A6,[o1])∧(X9 B2 o1).1=B3∧A1.move=1∧
    Uu B3 3=(pg7,0)∧Z5 B3=true∧Z5 A6=false∧QP B3=[]∧J5 (WD A6) (WD B3)=1:= by
  have c0:(0:Int)≤1∧(1:Int)<4:= by omega
  -- the first end begins
  obtain⟨n1,D1,C1,e1,q1⟩:=new_q.note (k:=1) (m:=1) (by omega) (Mx (by omega))
  have hr:Zi ss7=true:= by decide
  have b1:(Z3 JS ss7).2={JS with D:=D1,cell:=some C1,kind:=1,move:=1,ses:=some (sd7 0),active:=false,frozen:=false,told:=true}:= by
    unfold Z3
    rw[if_neg (by decide),if_neg (by rw[hr];decide),if_neg (by rintro⟨q,_⟩; exact q ⟨rfl,rfl⟩),if_pos ⟨rfl,rfl⟩,if_neg (by rw[n1];decide),e1]
    rfl
  generalize hA1:({JS with D:=D1,cell:=some C1,kind:=1,move:=1,ses:=some (sd7 0),active:=false,frozen:=false,told:=true}:EnD)=A1 at b1
  have qA1:QE A1:= by subst hA1; exact q1.same Qa Qa Qa Qa (.inr Qa)
  -- it gives
  have hmv1:A1.move+1=2:= by subst hA1;rfl
  obtain⟨n2,D2,C2,e2,q2⟩:=qA1.note (k:=1) (m:=A1.move+1) (by omega) (by rw[hmv1]; exact Mx (by omega))
  have b2:Wi A1=(0,{A1 with D:=D2,cell:=some C2,kind:=1,move:=2,active:=true,next:=0}):= by
    have h0: ¬(Z5 A1=false∨QP A1≠[]∨A1.active=true):= by
      subst hA1
      rintro(q | q | q)
      · exact Bool.noConfusion (show true=false from q)
      · exact q Qa
      · exact Bool.noConfusion (show false=true from q)
    rw[CU h0 n2 e2,hmv1]
    subst hA1;rfl
  generalize hA2:({A1 with D:=D2,cell:=some C2,kind:=1,move:=2,active:=true,next:=0}:EnD)=A2 at b2
  have qA2:QE A2:= by subst hA2; rw[hmv1]at q2; exact(q2.act true).same Qa Qa Qa Qa (.inl Qa)
  have s2:A2.ses=some (sd7 0)∧A2.kind=1∧A2.active=true∧A2.frozen=false∧A2.move=2∧A2.next=0:= by subst hA2; subst hA1; exact⟨rfl,rfl,rfl,rfl,rfl,rfl⟩
  -- it ticks, is frozen, and ticks
  have b3:X7 A2=({A2 with ses:=some (sd7 1)},[Ze A2 0 3 1 pg7]):= by
    rw[Vk qA2.upE s2.2.1 s2.1 s2.2.2.1,if_pos s2.2.2.2.1,if_pos s2.2.2.2.1,List.append_nil];rfl
  have b4:Zb {A2 with ses:=some (sd7 1)}=(0,{A2 with ses:=some (sd7 1),frozen:=true}):= by
    have hrun:Z5 {A2 with ses:=some (sd7 1)}=true:= by
      unfold Z5 Hu upE
      show(A2.cell.isSome&&decide (A2.kind=1)&&true&& !A2.frozen)=true
      rw[s2.2.1,s2.2.2.2.1]
      cases h:A2.cell
      · exact absurd h qA2.up
      · rfl
    unfold Zb
    rw[if_neg (by rintro(q | q);(rw[hrun]at q; cases q);(rw[show({A2 with ses:=some (sd7 1)}:EnD).active=A2.active from rfl,s2.2.2.1]at q; cases q))]
  generalize hA4:({A2 with ses:=some (sd7 1),frozen:=true}:EnD)=A4 at b4
  have qA4:QE A4:= by subst hA4; exact qA2.same Qa Qa Qa Qa (.inl Qa)
  have s4:A4.ses=some (sd7 1)∧A4.kind=1∧A4.active=true∧A4.frozen=true∧A4.move=2∧A4.next=0:= by subst hA4; exact⟨rfl,s2.2.1,s2.2.2.1,rfl,s2.2.2.2.2.1,s2.2.2.2.2.2⟩
  have hpg:pushG A4 4 (sd7 1).pages=((sd7 1).pages,[]):=rfl
  have hls:Xf {sd7 1 with pages:=(pushG A4 4 (sd7 1).pages).1}=ls7:=rfl
  have b5:X7 A4=(A4,[Ze A4 1 0 1 ls7]):= by
    rw[Vk qA4.upE s4.2.1 s4.1 s4.2.2.1,if_neg (by rw[s4.2.2.2.1];decide),if_neg (by rw[s4.2.2.2.1];decide),hls,ES,s4.2.2.2.2.2]
    have hp:ZM A4 ls7 1 (min (1:Int) 32).toNat 0=(0,[Ze A4 1 0 1 ls7]):= by
      show ZM A4 ls7 1 1 0=_
      rw[ZM,ZM]
      have h200:List.take 200 (List.drop (200*(0:Int)).toNat ls7)=ls7:=List.take_of_length_le (by show ls7.length≤200; have :=CG;omega)
      rw[h200];rfl
    rw[hp,hpg]
    have :({A4 with ses:=some {sd7 1 with pages:=(sd7 1).pages},next:=0}:EnD)=A4:= by
      cases A4; dsimp only at s4⊢; rw[s4.1,s4.2.2.2.2.2]
    rw[this];rfl
  -- the other end hears a page
  have qN:=new_q
  have e1m:Ze A2 0 3 1 pg7=Zy ⟨0,2,3,1,pg7⟩:= by unfold Ze; rw[s2.2.2.2.2.1]
  have h1:X9 JS (Ze A2 0 3 1 pg7)=({JS with off:=some ⟨2,[],0,[(3,⟨pg7,1,0,false⟩)],[]⟩},[]):= by
    rw[e1m,WR qN.upE (by decide) (by decide) (BO (by decide)) (BO (by decide)) (by simp)];rfl
  generalize hB1:({JS with off:=some ⟨2,[],0,[(3,⟨pg7,1,0,false⟩)],[]⟩}:EnD)=B1 at h1
  have qB1:QE B1:= by subst hB1; exact new_q.same Qa Qa Qa Qa (.inl Qa)
  -- the part
  have e2m:Ze A4 1 0 1 ls7=Zy ⟨1,2,0,1,ls7⟩:= by unfold Ze; rw[s4.2.2.2.2.1]
  have hpB:ZC ⟨2,[(0,ls7)],1,[(3,⟨pg7,1,0,false⟩)],[]⟩=ls7:= by
    show(List.range 1).flatMap _=_
    simp [QN,List.range_succ]
  have qB1':QE {B1 with off:=some ⟨2,[(0,ls7)],1,[(3,⟨pg7,1,0,false⟩)],ls7⟩}:=qB1.same Qa Qa Qa Qa (.inl Qa)
  obtain⟨n3,D3,C3,e3,q3⟩:=qB1'.note (k:=2) (m:=2) (by omega) (Mx (by omega))
  have h2:X9 B1 (Ze A4 1 0 1 ls7)=({B1 with D:=D3,cell:=some C3,kind:=2,move:=2,ses:=none,off:=some ⟨2,[(0,ls7)],1,[(3,⟨pg7,1,0,false⟩)],ls7⟩},[Zy ⟨2,2,0,0,[]⟩]):= by
    rw[e2m,WR qB1.upE (by show(0:Int)≤1∧(1:Int)≤9;omega) (by show(0:Int)≤2∧(2:Int)≤_;omega) (BO (by show(0:Int)≤0∧(0:Int)≤9;omega)) (BO (by show(0:Int)≤1∧(1:Int)≤9;omega)) (by have :=CG; show ls7.length≤_;omega),PN Qa]
    have hj:Zr B1 2=some ⟨2,[],0,[(3,⟨pg7,1,0,false⟩)],[]⟩:= by subst hB1;rfl
    have hpr:(Ww (Xr ⟨2,[],0,[(3,⟨pg7,1,0,false⟩)],[]⟩ 1) ⟨1,2,0,1,ls7⟩)=⟨2,[(0,ls7)],1,[(3,⟨pg7,1,0,false⟩)],[]⟩:=rfl
    rw[M2 (o:=⟨2,[],0,[(3,⟨pg7,1,0,false⟩)],[]⟩) (by dsimp only;omega) hj (by decide) (by rw[hpr];decide) (by rw[hpr,hpB,TP];decide)]
    dsimp only
    rw[hpr,hpB,Gd n3,e3];rfl
  generalize hB2:({B1 with D:=D3,cell:=some C3,kind:=2,move:=2,ses:=none,off:=some ⟨2,[(0,ls7)],1,[(3,⟨pg7,1,0,false⟩)],ls7⟩}:EnD)=B2 at h2
  have qB2:QE B2:= by subst hB2; exact q3.same Qa Qa Qa Qa (.inl Qa)
  -- given
  obtain⟨n4,D4,C4,e4,q4⟩:=qA4.note (k:=3) (m:=A4.move) (by omega) (by rw[s4.2.2.2.2.1]; exact Mx (by omega))
  have h3:X9 A4 (Zy ⟨2,2,0,0,[]⟩)=({A4 with D:=D4,cell:=some C4,kind:=3,move:=A4.move,active:=false},[Zy ⟨4,2,0,0,[]⟩]):= by
    rw[WR qA4.upE (by decide) (by decide) XF XF (by simp),M7 Qa,CP s4.2.1 ⟨rfl,s4.2.2.2.2.1.symm,s4.2.2.1,s4.2.2.2.1⟩ n4,e4]
    unfold Ze; dsimp only; rw[s4.2.2.2.2.1]
  generalize hA6:({A4 with D:=D4,cell:=some C4,kind:=3,move:=A4.move,active:=false}:EnD)=A6 at h3
  have qA6:QE A6:= by subst hA6; exact q4.same Qa Qa Qa Qa (.inr Qa)
  -- taken
  obtain⟨n5,D5,C5,e5,q5⟩:=qB2.note (k:=1) (m:=2) (by omega) (Mx (by omega))
  have sB2:B2.kind=2∧B2.move=2∧B2.off=some ⟨2,[(0,ls7)],1,[(3,⟨pg7,1,0,false⟩)],ls7⟩:= by subst hB2; exact⟨rfl,rfl,rfl⟩
  have h4:X9 B2 (Zy ⟨4,2,0,0,[]⟩)=({B2 with D:=D5,cell:=some C5,kind:=1,move:=2,off:=none,ses:=some (sd7 0),told:=false,active:=false,frozen:=false},[]):= by
    rw[WR qB2.upE (by decide) (by decide) XF XF (by simp),M6 Qa,PC (m:=⟨4,2,0,0,[]⟩) (by rw[sB2.1,sB2.2.1];decide) n5 e5 sB2.2.2 Qa TP];rfl
  generalize hB3:({B2 with D:=D5,cell:=some C5,kind:=1,move:=2,off:=none,ses:=some (sd7 0),told:=false,active:=false,frozen:=false}:EnD)=B3 at h4
  have qB3:QE B3:= by subst hB3; exact q5.same Qa Qa Qa Qa (.inr Qa)
  have t6:A6.kind=3∧A6.move=2:= by subst hA6; exact⟨rfl,s4.2.2.2.2.1⟩
  have t3:B3.kind=1∧B3.move=2∧B3.ses=some (sd7 0)∧B3.frozen=false:= by subst hB3; exact⟨rfl,rfl,rfl,rfl⟩
  refine⟨A1,A2,_,A4,A4,A6,B1,B2,B3,_,_,_,_,b1,b2,b3,b4,b5, by rw[h1],h2,h3, by rw[h4], by omega, ?_, ?_, ?_, ?_, ?_⟩
  · unfold Uu; rw[t3.2.2.1];rfl
  · unfold Z5 Hu; rw[t3.1,t3.2.2.1,t3.2.2.2, show upE B3=true by cases h:upE B3; exact absurd h qB3.upE;rfl];rfl
  · unfold Z5 Hu; rw[t6.1]; simp
  · unfold QP; rw[t3.2.2.1];rfl
  · rw[qA6.stored,qB3.stored,t6.1,t6.2,t3.1,t3.2.1];rfl
theorem Ab {w:World} {F:Th} (hS:Sat w [F]) (hG:Ent F WireG) (hO:Ent F (Glob 0)) {t:Bs} {sv:Value} {l:AL Bs} (hL:Ent F (RdL shC sv l)):
    Calls prog 10 #[.agg #[strV t,sv]] w (Ret fun v w'=> ∃x,∃tq:Inhabited TwQ,v=ptrV x 0∧Sat w' [Ka x ⟨(Z3 JS ⟨t,l⟩).2,JS,[],false⟩,F]):= by
 refine Qy func10 Qa ntmps10 Qa ?_
 refine Qg (Qb (XZ hS Qa Qa Qa ?_))
 intro bp w1 hS10
 have hS1:Sat w1 [QR bp [strV t,sv],F]:=hS10
 refine Qc Qa Qa (Qh (Qe (Qg (Qb (Q4 Nw Qa (Dy (hS1.sp [] Qa) (hO.starL 1 Qa)) Qa ?_)))))
 rintro _ w2 ⟨a,rfl,hS2⟩
 replace hS2:=hS2.jn Qa Qa
 refine Q4 Nw Qa (Dy (hS2.sp [] Qa) (hO.starL 2 Qa)) Qa ?_
 rintro _ w3 ⟨b,rfl,hS3⟩
 replace hS3:=hS3.jn Qa Qa
 refine Xc Rz [a,b] hS3 Qa underlying38 ifz_37 Qa Qa Qa Qa (by rfl) rfl ?_
 intro b4 w4 hS4
 refine Q4 cal_39 Qa (If (hS4.sp [] Qa)) Qa ?_
 rintro _ w5 ⟨lp,rfl,hS5⟩
 replace hS5:=hS5.jn Qa Qa
 refine Zu Qa EE asz_41 zr_41 Qa Qa (XZ hS5 Qa Qa Qa ?_)
 intro b6 w6 hS6
 refine Qc Qa Qa (Qh (Qe (Qg (Qg (Qb (Qd Qa Qa (Ql Qa Qa (Qi Qa WI Qa (Qp Qa Hr (hS6.cell 0 Qa Qa) Qa (ZP Rz 2 0 hS6 Qa Qa Qa (by rfl) (show[a,b][0]? =some a from rfl) Hn Qa ?_))))))))))
 intro bx7 capx7 hvx7
 refine ZW 2 0 0 hS6 Qa hvx7 Qa Qa (show[a,b][0]? =some a from rfl) Yv Qa Qa (ZJ underlying37 Qa Qa Qa (Qd Qa Qa (Qj Qa Qa Qa (Qd Qa Qa (Qj Qa Qa Qa (Ql Qa Qa (Qj Qa Qa Qa (Qi Qa WI Qa (Qj Qa Qa Qa (Qp Qa Hr (hS6.cell 0 Qa Qa) Qa (Qj Qa Qa Qa (ZP Rz 2 1 hS6 Qa Qa Qa (by rfl) (show[a,b][1]? =some b from rfl) Hn Qa ?_))))))))))))
 intro bx8 capx8 hvx8
 refine Qj Qa Qa Qa (ZW 2 1 0 hS6 Qa hvx8 Qa Qa (show[a,b][1]? =some b from rfl) Yv Qa Qa (Qj Qa Qa Qa (ZJ underlying37 Qa Qa Qa (Qz Qa Qa Qa Qa (Qd Qa Qa (Qj Qa Qa Qa (Qd Qa Qa (Qj Qa Qa Qa (Ql Qa Qa (Qj Qa Qa Qa (Qi Qa ZD Qa (Qj Qa Qa Qa (Qp Qa XR (hS6.cell 0 Qa Qa) Qa (Qj Qa Qa Qa (ZJ underlying39 Qa Qa Qa (Qz Qa Qa Qa Qa (Qh (Qe (Qk [1,2,3,32] Qa (QF Qa (Qr (Qe (Qg ?_)))))))))))))))))))))))
 have hS9:=hS6.drew
 refine QT [0,1,2,3,4,5,6,7] [7] Jk (by kernel_rfl) ?_
 refine QM Qa Qa Qa (Xw Qa Qa Qa (QQ Qa Qa Qa WI (QH Qa Qa Qa (Qn Qa Hr (hS9.cell 0 Qa Qa)) (QG Qa Qa Qa (fun _=>(Zc 0 Qa Qa (by rfl) (by omega) Hn)) ?_))))
 refine QH Qa Qa Qa (ZS Rz 2 0 0 hS9 Qa (show[a,b][0]? =some a from rfl) Yv Qa Qa) (QH Qa Qa Qa (Jh Qa JF Wc (hS9.blk 5 Qa) (Xe Qa) Qa) (Xb Qa Qa Qa Qa Qa Qa ?_))
 refine Q4 qak Qa (S2 (hS9.sp [4] Qa) (hG.starL 5 Qa) (hO.starL 5 Qa) (t:=t) (l:=l) (hL.starL 5 Qa)) Qa ?_
 rintro _ w10 ⟨rfl,hS10⟩
 replace hS10:=hS10.jn Qa Qa
 refine Xn (XC (by kernel_rfl)) ?_
 exact VC.nil (Qe (Qk [2,3] Qa (Qg (Qb (Qd Qa Qa (Qc Qa Qa (Qh (Qe (Qo (Q7 (.inr Qa) Qa Qa (⟨_,Qa,_,⟨⟨_,a,b,lp⟩⟩,Qa,Zm (tq:=⟨⟨_,a,b,lp⟩⟩) (X:=⟨(Z3 JS ⟨t,l⟩).2,JS,[],false⟩) (hS10.pick [1,3,0,4,2,6] Qa) Qa⟩)))))))))))
theorem ER {w:World} {F:Th} (hS:Sat w [F]) (hG:Ent F WireG) (hO:Ent F (Glob 0)):
    Calls prog 7 #[] w (Ret fun v w'=>v= .bool true∧Sat w' [F]):= by
 refine Qy func7 Qa ntmps7 Qa ?_
 obtain⟨A1,A2,A3,A4,A5,A6,B1,B2,B3,m1,m2,n1,o1,hb,hg,ht,hf,ht2,hh1,hh2,hh3,hh4,hmv,hpg,hrb,hra,hms,how⟩:=NU
 have hWA1:EW A1:=hb▸new_W.begin
 have hmv2:Xy (A1.move+1):= by rw[hmv]; exact XJ (by decide)
 have hWA2:EW A2:= by have q:=hWA1.give hmv2; rw[hg]at q; exact q
 have hWA3:EW A3:= by have q:=hWA2.tick; rw[ht]at q; exact q
 have hm1:m1.length≤1000:=hWA2.tick_out m1 (by rw[ht]; simp)
 have hWA4:EW A4:= by have q:=hWA3.freeze; rw[hf]at q; exact q
 have hWA5:EW A5:= by have q:=hWA4.tick; rw[ht2]at q; exact q
 have hm2:m2.length≤1000:=hWA4.tick_out m2 (by rw[ht2]; simp)
 have hWB1:EW B1:=hh1▸new_W.hear hm1
 have hWB2:EW B2:= by have q:=hWB1.hear hm2; rw[hh2]at q; exact q
 have hn1:n1.length≤1000:=hWB1.hear_out hm2 n1 (by rw[hh2]; simp)
 have ho1:o1.length≤1000:=hWA5.hear_out hn1 o1 (by rw[hh3]; simp)
 have hWB3:EW B3:=hh4▸hWB2.hear ho1
 refine Qg (Qb (Qc Qa Qa (Qh (Qe (Qg (Qb (Q4 Nw Qa (Dy (hS.sp [] Qa) (hO.starL 0 Qa)) Qa ?_)))))))
 rintro _ w1 ⟨a,rfl,hS1⟩
 replace hS1:=hS1.jn Qa Qa
 refine Qc Qa Qa (Qh (Qe (Qg (Qb (Q4 Nw Qa (Dy (hS1.sp [] Qa) (hO.starL 1 Qa)) Qa ?_)))))
 rintro _ w2 ⟨b,rfl,hS2⟩
 replace hS2:=hS2.jn Qa Qa
 refine Qc Qa Qa (Qh (Qe (Qg (Qg (Qb (Qd Qa Qa (ZJ underlying37 Qa Qa Qa (Qd Qa Qa (Qj Qa Qa Qa (Qd Qa Qa (Qj Qa Qa Qa (ZJ underlying37 Qa Qa Qa (Qz Qa Qa Qa Qa (Qh (Qe (Qk [0,1,2,18] Qa (QF Qa (Qr (Qe (Qg (Qb (Qd Qa Qa (Q4 KD Qa (HH (hS2.sp [] Qa) 7) Qa ?_)))))))))))))))))))))))
 rintro _ w3 ⟨rfl,hS3⟩
 replace hS3:=hS3.jn Qa Qa
 refine Zu Qa KU N3 Rv Qa Qa (Xc shC [((3:Int),pg7)] hS3 Qa underlying22 Bo Qa Qa Qa Qa (by rfl) rfl ?_)
 intro b4 w4 hS4
 refine Zu Qa EF MQ Kb Qa Qa (Q4 qak Qa (S2 (hS4.sp [2] Qa) (hG.starL 2 Qa) (hO.starL 2 Qa) (t:=[115]) (l:=[(3,pg7)]) (Ent.starL (VJ (C:=shC) (l:=[(3,pg7)]) (by simp)) 0 Qa)) Qa ?_)
 rintro _ w5 ⟨rfl,hS5⟩
 replace hS5:=hS5.jn Qa Qa
 try rw[hb]at hS5
 try rw[hb]
 try dsimp only at hS5
 try dsimp only
 refine Qh (Qe (Qg (Qb (Qd Qa Qa (Q4 qah Qa (LE (hS5.sp [0] Qa) (hG.starL 2 Qa) (hO.starL 2 Qa) hWA1.ses hmv2) Qa ?_)))))
 rintro _ w6 ⟨rfl,hS6⟩
 replace hS6:=hS6.jn Qa Qa
 try rw[hg]at hS6
 try rw[hg]
 try dsimp only at hS6
 try dsimp only
 refine Qc Qa Qa (Qh (Qe (Qk [0,1,2,3] Qa (Qg (Qb (Qd Qa Qa (Q4 Nv Qa (Di (hS6.sp [0] Qa) (hG.starL 2 Qa) hWA2) Qa ?_)))))))
 rintro _ w7 hS7
 replace hS7:=hS7.jn Qa Qa
 try rw[ht]at hS7
 try rw[ht]
 try dsimp only at hS7
 try dsimp only
 have h1l:=hS7.own_one 0 Qa
 refine Qc Qa Qa (Qh (Qe (Qg (Qb (Qd Qa Qa (Q4 qag Qa (TY (hS7.sp [1] Qa)) Qa ?_))))))
 rintro _ w8 ⟨rfl,hS8⟩
 replace hS8:=hS8.jn Qa Qa
 try rw[hf]at hS8
 try rw[hf]
 try dsimp only at hS8
 try dsimp only
 refine Qc Qa Qa (Qh (Qe (Qg (Qb (Qd Qa Qa (Q4 Nv Qa (Di (hS8.sp [0] Qa) (hG.starL 3 Qa) hWA4) Qa ?_))))))
 rintro _ w9 hS9
 replace hS9:=hS9.jn Qa Qa
 try rw[ht2]at hS9
 try rw[ht2]
 try dsimp only at hS9
 try dsimp only
 have h1m:=hS9.own_one 0 Qa
 refine Qc Qa Qa (Qh (Qe (Qk [0,1,2,3,4,5,6] Qa (Qg (Qg (Qb (Qd Qa Qa ?_)))))))
 first | refine Xj underlying66 Qa Qa ?_ | refine X3 0 hS9 underlying66 Qa Qa Qa ?_ | refine X3 2 hS9 underlying66 Qa Qa Qa ?_ | refine X3 3 hS9 underlying66 Qa Qa Qa ?_
 refine Xt Qa Qa Qa (Qd Qa Qa (Q3 36 Qa (fun h10=> ?_) (fun h10=> ?_)))
 ·(exfalso; have q9:=h10; simp at q9)
 refine Qj Qa Qa (Qv h10) (Qd Qa Qa (Qj Qa Qa (Qv h10) (X3 0 hS9 underlying66 Qa Qa Qa (Qj Qa Qa (Qv h10) (Xt Qa Qa Qa (Qz Qa (Qv h10) Qa Qa (Qh (Qe (Qk [0,1,2,3,4,5,6,40] Qa (Qw Qa (fun h11=> ?_) (fun h11=> ?_)))))))))))
 ·(exfalso; have q9:=h11; simp at q9)
 refine Qr (Qe (Qg (Qb (Qd Qa Qa (Qd Qa Qa (ZP Z4 2 0 hS9 Qa Qa Qa (by first | rfl | omega) (show[m1][0]? =some m1 from rfl) Sj Qa ?_))))))
 intro bx12 capx12 hvx12
 refine ZW 2 0 0 hS9 Qa hvx12 Qa Qa (show[m1][0]? =some m1 from rfl) Zw Qa Qa (Q4 HY Qa (YC (hS9.sp [4] Qa) (hG.starL 4 Qa) (hO.starL 4 Qa) new_W m1 hm1) Qa ?_)
 rintro _ w13 hS13
 replace hS13:=hS13.jn Qa Qa
 try rw[hh1]at hS13
 try rw[hh1]
 try dsimp only at hS13
 try dsimp only
 have h1x:=hS13.own_one 0 Qa
 refine Qh (Qe (Qk [0,1,2,3,5,6] Qa (Qg (Qb (Qd Qa Qa (Qd Qa Qa (ZP Z4 2 0 hS13 Qa Qa Qa (by first | rfl | omega) (show[m2][0]? =some m2 from rfl) Sj Qa ?_)))))))
 intro bx14 capx14 hvx14
 refine ZW 2 0 0 hS13 Qa hvx14 Qa Qa (show[m2][0]? =some m2 from rfl) Zw Qa Qa (Q4 HY Qa (YC (hS13.sp [1] Qa) (hG.starL 5 Qa) (hO.starL 5 Qa) hWB1 m2 hm2) Qa ?_)
 rintro _ w15 hS15
 replace hS15:=hS15.jn Qa Qa
 try rw[hh2]at hS15
 try rw[hh2]
 try dsimp only at hS15
 try dsimp only
 have h1n:=hS15.own_one 0 Qa
 refine Qc Qa Qa (Qh (Qe (Qk [0,1,2,3,5,7] Qa (Qg (Qg (Qb (Qd Qa Qa ?_)))))))
 first | refine Xj underlying66 Qa Qa ?_ | refine X3 0 hS15 underlying66 Qa Qa Qa ?_ | refine X3 2 hS15 underlying66 Qa Qa Qa ?_ | refine X3 3 hS15 underlying66 Qa Qa Qa ?_ | refine X3 5 hS15 underlying66 Qa Qa Qa ?_ | refine X3 6 hS15 underlying66 Qa Qa Qa ?_
 refine Xt Qa Qa Qa (Qh (Qe (Qw Qa (fun h16=> ?_) (fun h16=> ?_))))
 ·(exfalso; have q9:=h16; simp at q9)
 refine Qr (Qe (Qg (Qb (Qd Qa Qa (Qd Qa Qa (ZP Z4 0 0 hS15 Qa Qa Qa (by first | rfl | omega) (show[n1][0]? =some n1 from rfl) Sj Qa ?_))))))
 intro bx17 capx17 hvx17
 refine ZW 0 0 0 hS15 Qa hvx17 Qa Qa (show[n1][0]? =some n1 from rfl) Zw Qa Qa (Q4 HY Qa (YC (hS15.sp [4] Qa) (hG.starL 6 Qa) (hO.starL 6 Qa) hWA5 n1 hn1) Qa ?_)
 rintro _ w18 hS18
 replace hS18:=hS18.jn Qa Qa
 try rw[hh3]at hS18
 try rw[hh3]
 try dsimp only at hS18
 try dsimp only
 have h1o:=hS18.own_one 0 Qa
 refine Qc Qa Qa (Qh (Qe (Qk [0,1,2,3,5,8] Qa (Qg (Qg (Qb (Qd Qa Qa ?_)))))))
 first | refine Xj underlying66 Qa Qa ?_ | refine X3 0 hS18 underlying66 Qa Qa Qa ?_ | refine X3 2 hS18 underlying66 Qa Qa Qa ?_ | refine X3 4 hS18 underlying66 Qa Qa Qa ?_ | refine X3 5 hS18 underlying66 Qa Qa Qa ?_ | refine X3 6 hS18 underlying66 Qa Qa Qa ?_ | refine X3 7 hS18 underlying66 Qa Qa Qa ?_
 refine Xt Qa Qa Qa (Qh (Qe (Qw Qa (fun h19=> ?_) (fun h19=> ?_))))
 ·(exfalso; have q9:=h19; simp at q9)
 refine Qr (Qe (Qg (Qb (Qd Qa Qa (Qd Qa Qa (ZP Z4 0 0 hS18 Qa Qa Qa (by first | rfl | omega) (show[o1][0]? =some o1 from rfl) Sj Qa ?_))))))
 intro bx20 capx20 hvx20
 refine ZW 0 0 0 hS18 Qa hvx20 Qa Qa (show[o1][0]? =some o1 from rfl) Zw Qa Qa (Q4 HY Qa (YC (hS18.sp [3] Qa) (hG.starL 7 Qa) (hO.starL 7 Qa) hWB2 o1 ho1) Qa ?_)
 rintro _ w21 hS21
 replace hS21:=hS21.jn Qa Qa
 try rw[hh4]at hS21
 try rw[hh4]
 try dsimp only at hS21
 try dsimp only
 have h1y:=hS21.own_one 0 Qa
 refine Qh (Qe (Qk [0,1,2,3,5] Qa (Qg (Qb (Qd Qa Qa (Q4 qai Qa (Sk (hS21.sp [1] Qa) 3) Qa ?_))))))
 rintro _ w22 ⟨rfl,hS22⟩
 replace hS22:=hS22.jn Qa Qa
 try rw[hpg]at hS22
 try rw[hpg]
 try dsimp only at hS22
 try dsimp only
 refine Qd Qa Qa (Q9 Qa Qa Qa (Q9 Qa Qa Qa (Qc Qa Qa (Qc Qa Qa (Qh (Qe (Qk [0,1,2,3,5,9,10] Qa (Qg (Qb (Qd Qa Qa (QO Qa Qa Qa (Qd Qa Qa (Q3 74 Qa (fun h23=> ?_) (fun h23=> ?_))))))))))))))
 ·refine Qj Qa Qa (Q8 h23) (Qd Qa Qa (Qj Qa Qa (Q8 h23) (QO Qa Qa Qa (Qx Qa (Q8 h23) Qa Qa (Qd Qa Qa (Q3 78 Qa (fun h24=> ?_) (fun h24=> ?_)))))))
  ·refine Qj Qa Qa (Q8 h24) (Qd Qa Qa (Qj Qa Qa (Q8 h24) (Q4 Vb Qa (HA (hS22.sp [0] Qa)) Qa ?_)))
   rintro _ w25 ⟨rfl,hS25⟩
   replace hS25:=hS25.jn Qa Qa
   try rw[hrb]at hS25
   try rw[hrb]
   try dsimp only at hS25
   try dsimp only
   refine Qx Qa (Q8 h24) Qa Qa (Qd Qa Qa (Zz 82 Qa (fun h26=> ?_) (fun h26=> ?_)))
   ·refine Qj Qa Qa h26 (Qd Qa Qa (Qj Qa Qa h26 (Q4 Vb Qa (HA (hS25.sp [3] Qa)) Qa ?_)))
    rintro _ w27 ⟨rfl,hS27⟩
    replace hS27:=hS27.jn Qa Qa
    try rw[hra]at hS27
    try rw[hra]
    try dsimp only at hS27
    try dsimp only
    refine Qj Qa Qa h26 (XS Qa Qa (Qx Qa h26 Qa Qa (Qd Qa Qa (Zz 87 Qa (fun h28=> ?_) (fun h28=> ?_)))))
    ·refine Qj Qa Qa h28 (Qd Qa Qa (Qj Qa Qa h28 (Q4 VQ Qa (J6 (hS27.sp [1] Qa) hWB3.ses) Qa ?_)))
     rintro _ w29 hS29
     replace hS29:=hS29.jn Qa Qa
     rw[hms]at hS29
     refine Qj Qa Qa h28 (X3 0 hS29 underlying33 Qa Qa Qa (Qj Qa Qa h28 (QO Qa Qa Qa (Qx Qa h28 Qa Qa (Qd Qa Qa (Q3 93 Qa (fun h30=> ?_) (fun h30=> ?_)))))))
     ·refine Qj Qa Qa (Q8 h30) (Qd Qa Qa (Qj Qa Qa (Q8 h30) (QO Qa Qa Qa (Qx Qa (Q8 h30) Qa Qa (Qd Qa Qa (Q3 97 Qa (fun h31=> ?_) (fun h31=> ?_)))))))
      ·refine Qj Qa Qa (Q8 h31) (Qd Qa Qa (Qj Qa Qa (Q8 h31) (Q4 KD Qa (HH (hS29.sp [] Qa) 7) Qa ?_)))
       rintro _ w32 ⟨rfl,hS32⟩
       replace hS32:=hS32.jn Qa Qa
       refine Qj Qa Qa (Q8 h31) (KH Qa Qa Qa (Qx Qa (Q8 h31) Qa Qa (Qd Qa Qa (Q3 102 Qa (fun h33=> ?_) (fun h33=> ?_)))))
       ·refine Qj Qa Qa (Q8 h33) (Qd Qa Qa (Qj Qa Qa (Q8 h33) (Qd Qa Qa (Qj Qa Qa (Q8 h33) (Q4 qam Qa (Pm (hS32.sp [2,1] Qa) (hG.starL 8 Qa) (hO.starL 8 Qa)) Qa ?_)))))
        rintro _ w34 ⟨rfl,hS34⟩
        replace hS34:=hS34.jn Qa Qa
        rw[how]
        refine Qj Qa Qa (Q8 h33) (QO Qa Qa Qa (Qx Qa (Q8 h33) Qa Qa (Qc Qa Qa (Qh (Qe (Qk [0] Qa (Qo (Q7 (.inr Qa) Qa Qa ?_))))))))
        exact⟨_,rfl, by rfl,hS34.pick [10] Qa⟩
       exact absurd Qa h33
      (exfalso; have q9:=h31; simp at q9)
     (exfalso; have q9:=h30; simp at q9)
    (exfalso; have q9:=h28; simp at q9)
   (exfalso; have q9:=h26; simp at q9)
  (exfalso; have q9:=h24; simp at q9)
 (exfalso; have q9:=h23; simp at q9)
