/- leaves: reads, plain -/
import Derived.Test.YtkcjfoaejijdoaaGreatDoorLv20
import Derived.Shelf.Spec.TrailingZeros
set_option linter.unusedSectionVars false
set_option linter.unusedVariables false
namespace Go.Proofs.YtkcjfoaejijdoaaGreatDoor
open Go.RowKit M Proofs.Tryz
variable [Inhabited SlW]
section
variable {ex:Int→Int} {L L1 L':LvD} {V V1 V':VS} {id:Int} {t t1 t':TrD} {k:KD} {x y x1:LfD} {m:Nat}
theorem LE (hI:LvX ex m L V) (ht:L.tr id=some t) (hx:t.lv k=some x) (hb:y.base=x.base) (ho:y.own=x.own) (hg:Pe (Wu V y)):
    LvX ex m (ZD L id t k y) V∧Q1 (ZD L id t k y) V=ZJ (Q1 L V) id k (Wu V y):= by
  generalize hL':ZD L id t k y=L'
  have hP:L'.pres=L.pres:= by subst hL';rfl
  have hT:L'.tr=Xu L.tr id (some {t with lv:=Xu t.lv k (some y)}):= by subst hL';rfl
  have hf: ∀q,QP L' q=QP L q:= fun q=> by
    rw[YK (x:=y) hP hT ht U,hb,ho]
    rw[Yw (f:=QP L) (v:=x.base) (by rw[Xt ht hx];rfl),Yw (by rw[Xt ht hx];rfl)]
  have e1:Q1 L' V=ZJ (Q1 L V) id k (Wu V y):=Yl hP hT ht U fun _ _ _=>rfl
  exact⟨⟨hI.ref.fn hf, by rw[hT]; exact hI.rank.same (WO ht U), by rw[e1]; exact hI.agree.put hg⟩,e1⟩
theorem M5 (hT:TouR L V id t k L1 V1 t1 x1) (ht:L.tr id=some t) (hI:LvX ex m L V) (hx:NN ex) {rd wr:BitVec 64} (hw: ∀j,j<64→wr.getLsbD j=false→x1.wr.getLsbD j=false):
    StepX ex m L V ex m 0 1 (ZD L1 id t1 k {x1 with rd:=rd,wr:=wr}) V1∧Q1 (ZD L1 id t1 k {x1 with rd:=rd,wr:=wr}) V1=ZJ (Q1 L V) id k {Z0 (Q1 L V) id k with rd:=rd,wr:=wr}:= by
  obtain⟨h1,h2,h3,h4,h5⟩:=hT.invX ht hI hx
  obtain⟨a1,a2⟩:=LE (y:={x1 with rd:=rd,wr:=wr}) h1 (hT.tr ht) hT.lv rfl rfl (fun j hj h=>(h1.agree id _ k _ (Zh (hT.tr ht)) (ZR hT.lv)) j hj (hw j hj h))
  refine⟨⟨a1,hT.sp, fun c q=>(h4 c q).mono (by omega), fun c q=>(hT.sz ht q).putOld (hT.tr ht) hT.lv U U,hT.pgs⟩, ?_⟩
  rw[a2,h3,Uq]
  congr 1
  rw[←h2];rfl
theorem qam (hT:TouR L V id t k L1 V1 t1 x1) (ht:L.tr id=some t) (hI:LvX ex m L V) (hx:NN ex):
    StepX ex m L V ex m 0 1 (ZD L1 id t1 k {x1 with rd:=x1.rd ||| (BitVec.allOnes 64&&& ~~~x1.wr)}) V1∧Q1 (ZD L1 id t1 k {x1 with rd:=x1.rd ||| (BitVec.allOnes 64&&& ~~~x1.wr)}) V1=ZJ (Q1 L V) id k (allR (Z0 (Q1 L V) id k)):= by
  obtain⟨h1,h2,h3,h4,h5⟩:=hT.invX ht hI hx
  obtain⟨a1,a2⟩:=M5 hT ht hI hx (rd:=x1.rd ||| (BitVec.allOnes 64&&& ~~~x1.wr)) (wr:=x1.wr) fun _ _ h=>h
  have e:x1.wr=(Z0 (Q1 L V) id k).wr:= by rw[←h2];rfl
  have e2:x1.rd=(Z0 (Q1 L V) id k).rd:= by rw[←h2];rfl
  refine⟨a1, ?_⟩
  rw[a2,e,e2];rfl
theorem orR_fin (hT:TouR L V id t k L1 V1 t1 x1) (ht:L.tr id=some t) (hI:LvX ex m L V) (hx:NN ex) (r:BitVec 64):
    StepX ex m L V ex m 0 1 (ZD L1 id t1 k {x1 with rd:=x1.rd ||| (r&&& ~~~x1.wr)}) V1∧Q1 (ZD L1 id t1 k {x1 with rd:=x1.rd ||| (r&&& ~~~x1.wr)}) V1=ZJ (Q1 L V) id k (orR (Z0 (Q1 L V) id k) r):= by
  obtain⟨h1,h2,h3,h4,h5⟩:=hT.invX ht hI hx
  obtain⟨a1,a2⟩:=M5 hT ht hI hx (rd:=x1.rd ||| (r&&& ~~~x1.wr)) (wr:=x1.wr) fun _ _ h=>h
  have e:x1.wr=(Z0 (Q1 L V) id k).wr:= by rw[←h2];rfl
  have e2:x1.rd=(Z0 (Q1 L V) id k).rd:= by rw[←h2];rfl
  refine⟨a1, ?_⟩
  rw[a2,e,e2];rfl
end
theorem KF {L:LvD} {V:VS} {i:Int} {a:TrA} (h:(Q1 L V).tr i=some a): ∃t,L.tr i=some t∧ZG V t=a:= by
  unfold Q1 at h
  dsimp only at h
  cases q:L.tr i with
  | none=> rw[q]at h; cases h
  | some t=> rw[q]at h; exact⟨t,rfl, by simpa using h⟩
theorem SeI.reads {A0:LvA} {id p:Int} {t:TrA} (hne:id≠p) (h0:p≠0): ∀(l:List KD) {A:LvA},SeI A0 A id p t [] []→SeI A0 (l.foldl (rdS p t) A) id p t [] []
  | [],_,h=>h
  | k::l,_,h=>SeI.reads hne h0 l (h.read hne h0 k)
theorem SeI.drops {A0:LvA} {id p:Int} {t:TrA} (hne:id≠p): ∀(l:List Bs) {A:LvA} {obs:List Bs},SeI A0 A id p t obs []→SeI A0 (l.foldl (Js p) A) id p t (obs++l) []
  | [],_,_,h=> by rw[List.append_nil]; exact h
  | ob::l,_,_,h=> by
    have :=SeI.drops hne l (h.drop (ob:=ob) hne)
    rw[List.append_assoc]at this
    exact this
theorem SeI.gives {A0:LvA} {id p:Int} {t:TrA} {obs:List Bs} (hne:id≠p): ∀(l:List KD) {A:LvA} {gv:List KD},SeI A0 A id p t obs gv→SeI A0 (l.foldl (gvS A0 p t) A) id p t obs (gv++l)
  | [],_,_,h=> by rw[List.append_nil]; exact h
  | k::l,_,_,h=> by
    have :=SeI.gives hne l (h.give hne k)
    rw[List.append_assoc]at this
    exact this
structure CmI (ex:Int→Int) (m:Nat) (L L1:LvD) (V V1:VS) (id:Int) (t:TrD) (A:LvA):Prop where
  inv:LvX ex m L1 V1
  sp:L1.sp=L.sp
  tr:L1.tr id=some t
  ab:Q1 L1 V1=A
  al: ∀c,AliveLe V c→AliveLe V1 c
  ok:OthK L L1 t.parent (fun q=>t.lv q≠none)
  pg:Pgs V V1
noncomputable def gvR (A:LvA) (p:Int) (k:KD) (c:Bs) (wr:BitVec 64):LvA:= if p=0 then{A with pres:=UV A.pres k c}else ZJ A p k (gvX (Z0 A p k) c wr)
theorem Np {A A0:LvA} {p:Int} {t:TrA} {k:KD} {x:LfA} (hx:t.lv k=some x) (h0:x.wr≠0#64):gvS A0 p t A k=gvR A p k (Bv A0 p k x) x.wr:= by
  unfold gvS gvR
  rw[hx]
  dsimp only
  rw[if_neg h0]
theorem OT {A A0:LvA} {p:Int} {t:TrA} {k:KD} {x:LfA} (hx:t.lv k=some x) (h0:x.wr=0#64):gvS A0 p t A k=A:= by
  unfold gvS
  rw[hx]
  dsimp only
  rw[if_pos h0]
theorem AO {A:LvA} {p:Int} {t:TrA} {k:KD} {x:LfA} (hx:t.lv k=some x) (h0:x.rd=0#64):rdS p t A k=A:= by
  unfold rdS
  rw[hx]
  dsimp only
  rw[if_pos h0]
section
variable {ex ex' ex0:Int→Int} {m e i:Nat} {L L1 L2:LvD} {V0 V V1 V2:VS} {id:Int} {t tp t2:TrD} {A A0 A' Ad:LvA} {k:KD} {x y:LfD} {P:KD→Prop} {s:Int} {order:List KD} {made:KD→Option Int} {obs:List Bs}
theorem CmI.start (hI:LvX ex m L V) (ht:L.tr id=some t):CmI ex m L L V V id t (Q1 L V):=⟨hI,rfl,ht,rfl, fun _ q=>q,.refl,.refl⟩
theorem CmI.step (h:CmI ex m L L1 V V1 id t A) (hs:StepX ex m L1 V1 ex' m 0 e L2 V2) (ho:OthK L1 L2 t.parent P) (hP: ∀q,P q→t.lv q≠none) (hne:id≠t.parent) (hab:Q1 L2 V2=A'):CmI ex' m L L2 V V2 id t A':=
  ⟨hs.inv,hs.sp.trans h.sp,(ho.1 id hne).trans h.tr,hab, fun c q=>hs.al c (h.al c q),h.ok.trans ho (fun _ q=>q) hP,h.pg.trans hs.pg⟩
theorem CmI.ref (h:CmI ex m L L1 V V1 id t A) (ha:X5 V1 s) (f:Int→Bool):CmI (fun j=>ex j+dl s j) m L {L1 with sh:=f} V (refW V1 s) id t A:= by
  obtain⟨a,b⟩:=h.inv.refW ha
  obtain⟨c,d⟩:=a.same (L':={L1 with sh:=f}) rfl rfl
  exact⟨c,h.sp,h.tr,(d.trans b).trans h.ab, fun c q=>(h.al c q).refW,⟨h.ok.1, fun j q hk=>h.ok.2 j q hk⟩,h.pg.trans .ref⟩
theorem SU (ht:L.tr id=some t) (q:KD) (hq:t.lv q≠none):Cv L id q:= by
  cases r:t.lv q with
  | none=> exact absurd r hq
  | some x=> exact .inr ⟨t,x,ht,r⟩
theorem CmI.sz2 {c:Nat} (h:CmI ex m L L1 V V1 id t A) (ht:L.tr id=some t) (hc:SzLe L c):SzLe L1 (2*c):=h.ok.sz2 (SU ht) hc
theorem CmI.par {tA:TrA} {gv:List KD} (h:CmI ex m L L1 V V1 id t A) (hse:SeI A0 A id t.parent tA obs gv):t.parent=0∨ ∃tp,L1.tr t.parent=some tp:= by
  by_cases h0:t.parent=0
  · exact .inl h0
  · obtain⟨tp,htp⟩:=hse.par h0
    rw[←h.ab]at htp
    obtain⟨u,hu,_⟩:=KF htp
    exact .inr ⟨u,hu⟩
theorem CmI.read (h:CmI ex m L L1 V V1 id t A) (hx0:NN ex) (hx:t.lv k=some x) (h0:x.rd≠0#64) (hne:id≠t.parent) (htp:L1.tr t.parent=some tp) (hT:TouR L1 V1 t.parent tp k L2 V2 t2 y):
    CmI ex m L (ZD L2 t.parent t2 k {y with rd:=y.rd ||| (x.rd&&& ~~~y.wr)}) V V2 id t (rdS t.parent (ZG V0 t) A k):= by
  obtain⟨h1,h2⟩:=orR_fin hT htp h.inv hx0 x.rd
  refine h.step h1 (hT.othK htp U U) (fun q e=> by subst e; rw[hx]; simp) hne ?_
  rw[h2,h.ab]
  unfold rdS
  rw[ZR hx]
  dsimp only
  rw[if_neg (show ¬(Wu V0 x).rd=0#64 from h0)]
  rfl
structure GvI (ex:Int→Int) (m:Nat) (L L1:LvD) (V0 V V1:VS) (id:Int) (t:TrD) (made:KD→Option Int) (A0 Ad:LvA) (order:List KD) (i:Nat):Prop where
  cm:CmI ex m L L1 V V1 id t ((order.take i).foldl (gvS A0 t.parent (ZG V0 t)) Ad)
  mx: ∀j,j≠0→ ∃n:Nat,Pd (WE (fun k=>k∈order.take i) 0 (HY made)) j n∧ex j=n
theorem GvI.start (h:CmI ex m L L1 V V1 id t Ad) (hm: ∀j,j≠0→ ∃n:Nat,Pd (HY made) j n∧ex j=n):GvI ex m L L1 V0 V V1 id t made A0 Ad order 0:=
  ⟨h, fun j hj=> by
    obtain⟨n,a,e⟩:=hm j hj
    have e2:WE (fun k=>k∈order.take 0) 0 (HY made)=HY made:= by funext k; simp [WE]
    exact⟨n, by rw[e2]; exact a,e⟩⟩
theorem GvI.nn (h:GvI ex m L L1 V0 V V1 id t made A0 Ad order i):NN ex:= fun j hj=> by
  obtain⟨n,_,e⟩:=h.mx j hj
  rw[e];omega
theorem GvI.next (h:GvI ex m L L1 V0 V V1 id t made A0 Ad order i) (hk:order[i]? =some k) (hd:order.Nodup) (hc:CmI ex' m L L2 V V2 id t (gvS A0 t.parent (ZG V0 t) ((order.take i).foldl (gvS A0 t.parent (ZG V0 t)) Ad) k)) (he: ∀j,j≠0→ex' j=ex j -dl (HY made k) j):
    GvI ex' m L L2 V0 V V2 id t made A0 Ad order (i+1):= by
  refine⟨by rw[HZ hk]; exact hc, fun j hj=> ?_⟩
  have hni:=H7 hd hk
  have hz:WE (fun k=>k∈order.take i) 0 (HY made) k=HY made k:= by unfold WE; rw[if_neg hni]
  obtain⟨n,a,e⟩:=h.mx j hj
  rw[V9 (P:= fun k=>k∈order.take i) (k:=k) (fun p=>(VX hk).trans Or.comm),he j hj]
  by_cases q:HY made k=j
  · obtain⟨n',rfl,b⟩:=TR (v:=0) (hz.trans q) (by omega) a
    exact⟨n',b, by rw[q,W7,e];omega⟩
  · refine⟨n,U3 (fun p=> ?_) a, by rw[J4 (fun a=>q a.symm),e];omega⟩
    by_cases e2:p=k
    · subst e2; rw[XF,hz]; exact⟨fun a=>absurd a.symm hj, fun a=>absurd a q⟩
    · rw[XQ e2]
theorem GvI.ge (h:GvI ex m L L1 V0 V V1 id t made A0 Ad order i) (hk:order[i]? =some k) (hd:order.Nodup) (hm:made k=some s) (h0:s≠0):1≤ex s:= by
  obtain⟨n,a,e⟩:=h.mx s h0
  have hz:WE (fun k=>k∈order.take i) 0 (HY made) k=s:= by unfold WE HY; rw[if_neg (H7 hd hk),hm];rfl
  have :=BI a (p:=k) hz
  rw[e];omega
theorem SM (hI0:LvI m L V0):Bv (Q1 L V0) t.parent k (Wu V0 x)=R7 (XH V0 (Xo L t.parent k)) (XH V0 x.own) x.wr:= by
  unfold Bv
  rw[←hI0.sees];rfl
theorem GvI.con_made (h:GvI ex m L L1 V0 V V1 id t made (Q1 L V0) Ad order i) (hmd:MdI m L V0 V t ex0 made order) (hI0:LvI m L V0) (hk:order[i]? =some k) (hd:order.Nodup) (hx:t.lv k=some x) (hm:made k=some s):XH V1 s=Bv (Q1 L V0) t.parent k (Wu V0 x):= by
  rw[SM hI0,←hmd.con k s x hm hx]
  exact(h.cm.pg s (h.cm.inv.held fun h0=>h.ge hk hd hm h0)).2
theorem GvI.own_alive (h:GvI ex m L L1 V0 V V1 id t made A0 Ad order i) (hx:t.lv k=some x):X5 V1 x.own:= by
  have :=h.cm.inv.aliveX h.nn (.inr (id,k,true))
  rw[Xt h.cm.tr hx]at this
  exact this
theorem GvI.con_own (h:GvI ex m L L1 V0 V V1 id t made (Q1 L V0) Ad order i) (hmd:MdI m L V0 V t ex0 made order) (hI0:LvI m L V0) (ht:L.tr id=some t) (hk:order[i]? =some k) (hx:t.lv k=some x) (hw:x.wr≠0#64) (hm:made k=none):XH V1 x.own=Bv (Q1 L V0) t.parent k (Wu V0 x):= by
  have hao:X5 V0 x.own:= by
    have ha:=hI0.alive (.inr (id,k,true))
    rw[Xt ht hx]at ha
    exact ha
  rw[(h.cm.pg _ (h.own_alive hx)).2,hmd.pg _ hao,SM hI0]
  have hnn: ¬Ky L t k x:= fun q=>(hmd.dom k).2 ⟨List.mem_of_getElem? hk,x,hx,q⟩ hm
  have hl:=hI0.len (hI0.aliveS t.parent k)
  by_cases e1:x.wr=BitVec.allOnes 64
  · rw[e1,BA (hI0.len hao) hl]
  · have e2:Xo L t.parent k=x.base:=Classical.byContradiction fun q=>hnn ⟨hw,e1,q⟩
    rw[D4 (hI0.len hao) hl]
    intro j hj hb
    rw[e2]
    exact hI0.agree id _ k _ (Zh ht) (ZR hx) j hj hb
theorem GvI.ag (h:GvI ex m L L1 V0 V V1 id t made (Q1 L V0) Ad order i) (hI0:LvI m L V0) (hse:SeI (Q1 L V0) Ad id t.parent (ZG V0 t) obs []) (hne:id≠t.parent) (hk:order[i]? =some k) (hd:order.Nodup) (hdr:k.1∈obs→x.wr=BitVec.allOnes 64) {L':LvD} {V':VS} (hab:Q1 L' V'=Q1 L1 V1) {c:Bs} (hc:c=Bv (Q1 L V0) t.parent k (Wu V0 x)) (h0:t.parent≠0):Pe (gvX (Z0 (Q1 L' V') t.parent k) c x.wr):= by
  have h1:=hse.gives hne (order.take i)
  rw[←h.cm.ab]at h1
  have hl:(Wq (Q1 L V0) t.parent k).length=64:= by rw[←hI0.sees]; exact hI0.len (hI0.aliveS t.parent k)
  rw[hab,hc]
  exact h1.ag (x:=Wu V0 x) h0 h.cm.inv.agree (by rw[List.nil_append]; exact H7 hd hk) hl hdr
theorem GvI.made_next (h:GvI ex m L L1 V0 V V1 id t made (Q1 L V0) Ad order i) (hmd:MdI m L V0 V t ex0 made order) (hI0:LvI m L V0) (hne:id≠t.parent) (hk:order[i]? =some k) (hd:order.Nodup) (hx:t.lv k=some x) (hw:x.wr≠0#64) (hm:made k=some s)
    (hs:StepX ex m L1 V1 (fun j=>ex j -dl s j) m 0 e L2 V2) (hab:Q1 L2 V2=gvR (Q1 L1 V1) t.parent k (XH V1 s) x.wr) (ho:OthK L1 L2 t.parent (fun q=>q=k)):GvI (fun j=>ex j -dl s j) m L L2 V0 V V2 id t made (Q1 L V0) Ad order (i+1):= by
  refine h.next hk hd (h.cm.step hs ho (fun q e=> by subst e; rw[hx]; simp) hne ?_) fun j _=> by unfold HY; rw[hm];rfl
  rw[hab,h.cm.ab,Np (ZR hx) hw,h.con_made hmd hI0 hk hd hx hm]
  rfl
theorem GvI.own_next (h:GvI ex m L L1 V0 V V1 id t made (Q1 L V0) Ad order i) (hmd:MdI m L V0 V t ex0 made order) (hI0:LvI m L V0) (hne:id≠t.parent) (ht:L.tr id=some t) (hk:order[i]? =some k) (hd:order.Nodup) (hx:t.lv k=some x) (hw:x.wr≠0#64) (hm:made k=none) {f:Int→Bool}
    (hs:StepX (fun j=>ex j+dl x.own j) m {L1 with sh:=f} (refW V1 x.own) (fun j=>ex j+dl x.own j -dl x.own j) m 0 e L2 V2) (hab:Q1 L2 V2=gvR (Q1 {L1 with sh:=f} (refW V1 x.own)) t.parent k (XH (refW V1 x.own) x.own) x.wr) (ho:OthK {L1 with sh:=f} L2 t.parent (fun q=>q=k)):GvI (fun j=>ex j+dl x.own j -dl x.own j) m L L2 V0 V V2 id t made (Q1 L V0) Ad order (i+1):= by
  have hr:=h.cm.ref (h.own_alive hx) f
  refine h.next hk hd (hr.step hs ho (fun q e=> by subst e; rw[hx]; simp) hne ?_) fun j hj=> by
    have e0:HY made k=0:= by unfold HY; rw[hm];rfl
    rw[e0,J4 hj];omega
  rw[hab,hr.ab,Yg,Np (ZR hx) hw,h.con_own hmd hI0 ht hk hx hw hm]
  rfl
theorem GvI.skip (h:GvI ex m L L1 V0 V V1 id t made A0 Ad order i) (hmd:MdI m L V0 V t ex0 made order) (hk:order[i]? =some k) (hd:order.Nodup) (hx:t.lv k=some x) (hw:x.wr=0#64):GvI ex m L L1 V0 V V1 id t made A0 Ad order (i+1):= by
  have hm:made k=none:=Classical.byContradiction fun q=> by
    obtain⟨_,y,hy,h1,_⟩:=(hmd.dom k).1 q
    rw[hx]at hy; cases hy; exact h1 hw
  refine h.next hk hd ?_ fun j hj=> by
    have e0:HY made k=0:= by unfold HY; rw[hm];rfl
    rw[e0,J4 hj];omega
  rw[OT (ZR hx) hw]
  exact h.cm
theorem GvI.fin (h:GvI ex m L L1 V0 V V1 id t made A0 Ad order order.length) (hd: ∀k,made k≠none→k∈order):LvI m L1 V1:= by
  refine h.cm.inv.ext fun j hj=> ?_
  obtain⟨n,a,e⟩:=h.mx j hj
  rw[List.take_length]at a
  have e1:WE (fun k=>k∈order) 0 (HY made)= fun _=>0:= by
    funext k
    unfold WE
    split
    · rfl
    · rename_i q
      unfold HY
      cases r:made k with
      | none=>rfl
      | some s=> exact absurd (hd k (by rw[r]; simp)) q
  rw[e1]at a
  rw[e,Fo a (BJ hj)];rfl
theorem CmI.noch (h:CmI ex m L L1 V V1 id t A) (hch: ∀i u,L.tr i=some u→u.parent≠id): ∀i u,L1.tr i=some u→u.parent≠id:= fun j u hu e=> by
  by_cases q:j=t.parent
  · subst q
    obtain⟨h0,r,_,h2⟩:=h.inv.rank
    have hid:id≠0:= fun q=> by subst q; have :=h.tr; rw[h0]at this; cases this
    have hp0:t.parent≠0:= fun q=> by rw[q,h0]at hu; cases hu
    have a:=(h2 _ _ h.tr).resolve_left hp0
    have b:=(h2 _ _ hu).resolve_left (by rw[e]; exact hid)
    rw[e]at b
    omega
  · exact hch j u ((h.ok.1 j q).symm.trans hu) e
end
theorem Nr {w:World} {ex:Int→Int} {m:Nat} {b n Fr:Nat} {L:LvD} {V:VS} {F:Th} (hS:Sat w [XX b L,XD L.sp n Fr V,F]) (hn:n≤60000000000) (hI:LvX ex m L V) (hx:NN ex) (hm:m<Zg) {p:Int} (hp:p=0∨ ∃tp,L.tr p=some tp) {s:Int} (hs:s≠0→1≤ex s) (k:KD) (wr:BitVec 64) (hg:p≠0→Pe (gvX (Z0 (Q1 L V) p k) (XH V s) wr)):
    Calls prog 54 #[ptrV b 0,intV p,Xr k,intV s,Z5 wr] w (Ret fun v w'=> ∃L' V',StepX ex m L V (fun j=>ex j -dl s j) m 0 1 L' V'∧Q1 L' V'=gvR (Q1 L V) p k (XH V s) wr∧OthK L L' p (fun q=>q=k)∧Sat w' [XX b L',XD L'.sp (n+4) Fr V',F]):= by
  rcases hp with rfl | ⟨tp,htp⟩
  · refine(OV hS hn hI hx hs k wr).mono fun e w h=>h.mono fun v w h=> ?_
    obtain⟨L',V',a,b,c,d⟩:=h
    exact⟨L',V',a, by rw[b];unfold gvR; rw[if_pos U],c,d⟩
  · have h0:=hI.rank.none0 htp
    refine(OU hS hn hI hx hm htp hs k wr (hg h0)).mono fun e w h=>h.mono fun v w h=> ?_
    obtain⟨L',V',a,b,c,d⟩:=h
    exact⟨L',V',a, by rw[b];unfold gvR; rw[if_neg h0];rfl,c,d⟩
theorem Iu {w:World} {ex:Int→Int} {m:Nat} {b n Fr:Nat} {L:LvD} {V:VS} {F:Th} (hS:Sat w [XX b L,XD L.sp n Fr V,F]) {c:Nat} (hc:SzLe L c) (hn:n+2*c≤60000000000) (hI:LvX ex m L V) (hx:NN ex) {p:Int} (hp:p=0∨ ∃tp,L.tr p=some tp) (ob:Bs):
    Calls prog 27 #[ptrV b 0,intV p,strV ob] w (Ret fun v w'=> ∃L' V',StepX ex m L V ex m 0 0 L' V'∧Q1 L' V'=Js p (Q1 L V) ob∧OthK L L' p (fun _=>False)∧Sat w' [XX b L',XD L'.sp (n+2*c) Fr V',F]):= by
  rcases hp with rfl | ⟨tp,htp⟩
  · refine(N9 hS hc hn hI hx ob).mono fun e w h=>h.mono fun v w h=> ?_
    obtain⟨L',V',a,b,c,d⟩:=h
    exact⟨L',V',a, by rw[b];unfold Js; rw[if_pos U],c,d⟩
  · have h0:=hI.rank.none0 htp
    refine(N8 hS hc hn hI hx htp ob).mono fun e w h=>h.mono fun v w h=> ?_
    obtain⟨L',V',a,b,c,d⟩:=h
    exact⟨L',V',a, by rw[b];unfold Js; rw[if_neg h0],c,d⟩
theorem PB {w:World} {m:Nat} {b n Fr:Nat} {L:LvD} {V:VS} {F:Th} {ar:Option Addr} {cr:Nat} {order:List KD} (hS:Sat w [XX b L,XD L.sp n Fr V,rowT kC (.slice ar order.length cr) order,F]) {c:Nat} (hn:n+2*c≤60000000000) (hI:LvI m L V) (hm:m<Zg) {id:Int} {t:TrD} (ht:L.tr id=some t) (hord: ∀k,k∈order↔t.lv k≠none) (hnd:order.Nodup) (hoc:order.length≤c):
    Calls prog 50 #[ptrV b 0,ptrV t.ad 0,.slice ar order.length cr] w (Ret fun v w'=>(∃V' mm made ex,v= .tuple #[.map (some mm),intV 0]∧MdI m L V V' t ex made order∧Sat w' [XX b L,XD L.sp (n+2*c) Fr V',rowT kC (.slice ar order.length cr) order,Q5 Xr mm (Gm made),F])∨(∃V',v= .tuple #[.map none,intV 6]∧LvI m L V'∧Q1 L V'=Q1 L V∧(∀c,AliveLe V c→Fr≤c+Y0 t order)∧(∀c,AliveLe V c→AliveLe V' (c+Y0 t order))∧Sat w' [XX b L,XD L.sp (n+2*c) Fr V',rowT kC (.slice ar order.length cr) order,F])):= by
  refine(LR hS hn hI hm ht hord hnd hoc).mono fun e w h=>h.mono fun v w h=> ?_
  obtain⟨V',h⟩:=h
  rcases h with⟨mm,made,ex,h⟩ | h
  · exact .inl ⟨V',mm,made,ex,h⟩
  · exact .inr ⟨V',h⟩
