/- leaves: references held elsewhere, plain -/
import Derived.Test.YtkgjmhcdacidoaaGreatDoorLv10
import Derived.Test.YtkgjmhcdacidoaaGreatDoorTr2
import Derived.Test.YtkgjmhcdacidoaaGreatDoorShelf
import Derived.Test.YtkgjmhcdacidoaaGreatDoorLv1
set_option linter.unusedSectionVars false
set_option linter.unusedVariables false
set_option maxRecDepth 100000
set_option maxHeartbeats 80000000000
namespace Go.Proofs.YtkgjmhcdacidoaaGreatDoor
open Go.RowKit M Proofs.Tryz
variable [Inhabited SlW]
def Pgs (V V':VS):Prop:= ∀j,XZ V' j→XZ V j∧Zf V' j=Zf V j
theorem CQ {V:VS} {s j:Int} (h:XZ (Z7 V s) j):XZ V j:= by
  rcases h with h | h
  · exact .inl h
  · exact .inr (Dh h)
theorem Pgs.refl {V:VS}:Pgs V V:= fun _ h=>⟨h,rfl⟩
theorem Pgs.trans {V V1 V2:VS} (h:Pgs V V1) (h':Pgs V1 V2):Pgs V V2:= fun j q=>⟨(h j (h' j q).1).1,(h' j q).2.trans (h j (h' j q).1).2⟩
theorem Pgs.ref {V:VS} {s:Int}:Pgs V (refW V s):= fun j q=>⟨q.imp_right Hb.1,YA⟩
theorem Pgs.unr {V:VS} {s:Int} (h0:V 0=none):Pgs V (Z7 V s):= fun j q=>⟨CQ q,Bc h0 q⟩
section
variable {ex:Int→Int} {L L1 L':LvD} {V V1 V':VS} {id:Int} {t t1 t':TrD} {k:KD} {x y x1:LfD} {m Fr:Nat} {s a:Int}
theorem Nj (hx:NN ex) (hs:s≠0→1≤ex s):NN (fun j=>ex j -dl s j):= fun j hj=> by
  show 0≤ex j -dl s j
  have :=hx j hj
  by_cases e:j=s
  · subst e; have :=hs hj; rw[Wx];omega
  · rw[Jb e];omega
theorem setX (hI:LvX ex m L V) (hx:NN ex) (hs:s≠0→1≤ex s) (hp:L'.pres=Wm L.pres k s) (hT:L'.tr=L.tr):
    LvX (fun j=>ex j -dl s j) m L' (Z7 V (L.pres k))∧QG L' (Z7 V (L.pres k))={QG L V with pres:=KQ (QG L V).pres k (Zf V s)}:= by
  have hf:=DA hp hT
  have hh:Xy L (.inl k)=L.pres k:=rfl
  have a1:=(((hI.ref.put (.inl k) s).fn hf).unr (hI.aliveX hx (.inl k)))
  rw[hh]at a1
  have a2:RefI (Xy L') (Z7 V (L.pres k)) (fun j=>ex j -dl s j):=a1.ext fun j hj=> by omega
  have nn:NN (fun j=>ex j -dl s j):=Nj hx hs
  have hc: ∀p,Zf (Z7 V (L.pres k)) (Xy L' p)=Zf V (Xy L' p):= fun p=>Bc hI.zero (a2.aliveN U (nn _))
  have e1:QG L' (Z7 V (L.pres k))={QG L V with pres:=KQ (QG L V).pres k (Zf V s)}:= by
    rw[DV (V:=V) (V':=Z7 V (L.pres k)) hp hT fun p hp=> by have :=hc p;rwa [hf,XT hp]at this]
    have :=hc (.inl k)
    rw[hf,XK]at this
    rw[this]
  exact⟨⟨a2, by rw[hT]; exact hI.rank, by rw[e1]; exact hI.agree⟩,e1⟩
theorem ownX (hI:LvX ex m L V) (hx:NN ex) (hs:s≠0→1≤ex s) (ht:L.tr id=some t) (hl:t.lv k=some x) (hp:L'.pres=L.pres) (hT:L'.tr=QO L.tr id (some {t with lv:=QO t.lv k (some y)})) (hb:y.base=x.base) (ho:y.own=s)
    (hg:An {Ws V x with own:=Zf V s,rd:=y.rd,wr:=y.wr}):
    LvX (fun j=>ex j -dl s j) m L' (Z7 V x.own)∧QG L' (Z7 V x.own)=Ww (QG L V) id k {Ws V x with own:=Zf V s,rd:=y.rd,wr:=y.wr}:= by
  have hf: ∀q,Xy L' q=KQ (Xy L) (.inr (id,k,true)) s q:= fun q=> by
    rw[H6 (x:=y) hp hT ht U,hb,ho,Us (f:=Xy L) (v:=x.base) (by rw[XF ht hl];rfl)]
  have hh:Xy L (.inr (id,k,true))=x.own:= by rw[XF ht hl];rfl
  have a1:=(((hI.ref.put (.inr (id,k,true)) s).fn hf).unr (hI.aliveX hx (.inr (id,k,true))))
  rw[hh]at a1
  have a2:RefI (Xy L') (Z7 V x.own) (fun j=>ex j -dl s j):=a1.ext fun j hj=> by omega
  have nn:NN (fun j=>ex j -dl s j):=Nj hx hs
  have hc: ∀p,Zf (Z7 V x.own) (Xy L' p)=Zf V (Xy L' p):= fun p=>Bc hI.zero (a2.aliveN U (nn _))
  have e1:QG L' (Z7 V x.own)=Ww (QG L V) id k {Ws V x with own:=Zf V s,rd:=y.rd,wr:=y.wr}:= by
    rw[Hl (V:=V) (V':=Z7 V x.own) (x:=y) hp hT ht U fun p h1 h2=> by have :=hc p;rwa [hf,XT h2]at this]
    congr 1
    have h1:=hc (.inr (id,k,true))
    have h2:=hc (.inr (id,k,false))
    rw[hf,XK]at h1
    rw[hf,XT (by simp),XF ht hl]at h2
    simp at h2
    simp [Ws,hb,ho,h1,h2]
  exact⟨⟨a2, by rw[hT]; exact hI.rank.same (JA ht U), by rw[e1]; exact hI.agree.put hg⟩,e1⟩
theorem LvX.refW (hI:LvX ex m L V) (ha:XZ V s):LvX (fun j=>ex j+dl s j) m L (refW V s)∧QG L (refW V s)=QG L V:= by
  have e:QG L (Go.Proofs.YtkgjmhcdacidoaaGreatDoor.refW V s)=QG L V:=Uj fun p=>YA
  exact⟨⟨hI.ref.ref ha,hI.rank, by rw[e]; exact hI.agree⟩,e⟩
theorem LvX.unr (hI:LvX ex m L V) (hx:NN ex) (hs:s≠0→1≤ex s):LvX (fun j=>ex j -dl s j) m L (Z7 V s)∧QG L (Z7 V s)=QG L V:= by
  have ha:XZ V s:= by
    by_cases h0:s=0
    · exact .inl h0
    · obtain⟨n,a,b⟩:=hI.ref.1 s h0
      have :=hs h0
      exact .inr (hI.ref.alive_of (by omega))
  have nn:NN (fun j=>ex j -dl s j):=Nj hx hs
  have a2:=hI.ref.unr ha
  have e:QG L (Z7 V s)=QG L V:=Uj fun p=>Bc hI.zero (a2.aliveN U (nn _))
  exact⟨⟨a2,hI.rank, by rw[e]; exact hI.agree⟩,e⟩
theorem LvX.ext {ex':Int→Int} (hI:LvX ex m L V) (h: ∀j,j≠0→ex' j=ex j):LvX ex' m L V:=⟨hI.ref.ext h,hI.rank,hI.agree⟩
theorem LvX.same (hI:LvX ex m L V) (hp:L'.pres=L.pres) (hT:L'.tr=L.tr):LvX ex m L' V∧QG L' V=QG L V:= by
  have e:QG L' V=QG L V:= by unfold QG; rw[hp,hT]
  have hf:Xy L'=Xy L:= by funext p; cases p<;> simp [Xy,hp,hT]
  exact⟨⟨by rw[hf]; exact hI.ref, by rw[hT]; exact hI.rank, by rw[e]; exact hI.agree⟩,e⟩
end
structure StepX (ex:Int→Int) (m:Nat) (L:LvD) (V:VS) (ex':Int→Int) (m' d e:Nat) (L':LvD) (V':VS):Prop where
  inv:LvX ex' m' L' V'
  sp:L'.sp=L.sp
  al: ∀c,AliveLe V c→AliveLe V' (c+d)
  sz: ∀c,SzLe L c→SzLe L' (c+e)
  pg:Pgs V V'
theorem StepX.refl {ex:Int→Int} {m d e:Nat} {L:LvD} {V:VS} (h:LvX ex m L V):StepX ex m L V ex m d e L V:=⟨h,rfl, fun _ q=>q.mono (by omega), fun _ q=>q.mono (by omega),.refl⟩
theorem StepX.trans {ex ex1 ex2:Int→Int} {m m1 m2:Nat} {L L1 L2:LvD} {V V1 V2:VS} {d d1 e e1:Nat} (h:StepX ex m L V ex1 m1 d e L1 V1) (h':StepX ex1 m1 L1 V1 ex2 m2 d1 e1 L2 V2):StepX ex m L V ex2 m2 (d+d1) (e+e1) L2 V2:=
  ⟨h'.inv,h'.sp.trans h.sp, fun c q=>(h'.al _ (h.al c q)).mono (by omega), fun c q=>(h'.sz _ (h.sz c q)).mono (by omega),h.pg.trans h'.pg⟩
theorem StepX.up {ex ex1:Int→Int} {m m1:Nat} {L L1:LvD} {V V1:VS} {d d1 e e1:Nat} (h:StepX ex m L V ex1 m1 d e L1 V1) (h1:d≤d1) (h2:e≤e1):StepX ex m L V ex1 m1 d1 e1 L1 V1:=
  ⟨h.inv,h.sp, fun c q=>(h.al c q).mono (by omega), fun c q=>(h.sz c q).mono (by omega),h.pg⟩
theorem StepX.plain {m m1:Nat} {L L1:LvD} {V V1:VS} {d e:Nat} (h:StepX (fun _=>0) m L V (fun _=>0) m1 d e L1 V1):StepI m L V m1 d e L1 V1:=⟨h.inv,h.sp,h.al,h.sz⟩
def CF (L:LvD) (j:Int) (q:KD):Prop:=(j=0∧L.pres q≠0)∨ ∃t x,L.tr j=some t∧t.lv q=some x
def OthK (L L':LvD) (p:Int) (P:KD→Prop):Prop:=(∀i,i≠p→L'.tr i=L.tr i)∧ ∀j q,CF L' j q→CF L j q∨(j=p∧P q)
theorem OthK.refl {L:LvD} {p:Int} {P:KD→Prop}:OthK L L p P:=⟨fun _ _=>rfl, fun _ _ h=> .inl h⟩
theorem OthK.trans {L L1 L2:LvD} {p:Int} {P Q R:KD→Prop} (h:OthK L L1 p P) (h':OthK L1 L2 p Q) (hP: ∀q,P q→R q) (hQ: ∀q,Q q→R q):OthK L L2 p R:=
  ⟨fun i hi=>(h'.1 i hi).trans (h.1 i hi), fun j q hk=> by
    rcases h'.2 j q hk with a | ⟨a,b⟩
    · rcases h.2 j q a with c | ⟨c,d⟩
      · exact .inl c
      · exact .inr ⟨c,hP q d⟩
    · exact .inr ⟨a,hQ q b⟩⟩
theorem SzLe.keys {L:LvD} {c:Nat} (h:SzLe L c): ∃l:List (Int×KD),l.length≤c∧ ∀j q,CF L j q→(j,q)∈l:= by
  obtain⟨l,a,b,d⟩:=h
  refine⟨l,a, fun j q hk=> ?_⟩
  rcases hk with⟨rfl,e⟩ | ⟨t,x,e,f⟩
  · exact b q e
  · exact d j t q x e f
theorem SzLe.of_keys {L:LvD} {c:Nat} {l:List (Int×KD)} (h:l.length≤c) (hk: ∀j q,CF L j q→(j,q)∈l):SzLe L c:=⟨l,h, fun k e=>hk 0 k (.inl ⟨rfl,e⟩), fun i t k x e f=>hk i k (.inr ⟨t,x,e,f⟩)⟩
theorem OthK.sz2 {L L':LvD} {p id:Int} {P:KD→Prop} {c:Nat} (h:OthK L L' p P) (hP: ∀q,P q→CF L id q) (hc:SzLe L c):SzLe L' (2*c):= by
  obtain⟨l,a,b⟩:=hc.keys
  refine SzLe.of_keys (l:=l++l.map fun e=>(p,e.2)) (by simp;omega) fun j q hk=> ?_
  rcases h.2 j q hk with e | ⟨rfl,e⟩
  · exact List.mem_append_left _ (b j q e)
  · exact List.mem_append_right _ (List.mem_map.2 ⟨(id,q),b id q (hP q e),U⟩)
theorem OthK.szRem {L L1 L':LvD} {p id:Int} {P:KD→Prop} {c:Nat} (h:OthK L L1 p P) (hP: ∀q,P q→CF L id q) (h0:id≠0) (hr:L'.pres=L1.pres) (ht:L'.tr=QO L1.tr id none) (hc:SzLe L c):SzLe L' c:= by
  obtain⟨l,a,b⟩:=hc.keys
  refine SzLe.of_keys (l:=l.map fun e=> if e.1=id then(p,e.2)else e) (by simpa using a) fun j q hk=> ?_
  have hj:j≠id∧CF L1 j q:= by
    rcases hk with⟨rfl,e⟩ | ⟨t,x,e,f⟩
    · exact⟨fun a=>h0 a.symm,.inl ⟨rfl, by rwa [hr]at e⟩⟩
    · rw[ht]at e
      by_cases g:j=id
      · subst g; rw[Qu]at e; cases e
      · rw[Qz g]at e; exact⟨g,.inr ⟨t,x,e,f⟩⟩
  rcases h.2 j q hj.2 with e | ⟨rfl,e⟩
  · exact List.mem_map.2 ⟨(j,q),b j q e, by rw[if_neg hj.1]⟩
  · exact List.mem_map.2 ⟨(id,q),b id q (hP q e), by rw[if_pos U]⟩
theorem TouR.oth {L L1:LvD} {V V1:VS} {id i:Int} {t t1:TrD} {k:KD} {x1:LfD} (hT:TouR L V id t k L1 V1 t1 x1) (hi:i≠id):L1.tr i=L.tr i:= by
  rcases hT with⟨_,rfl,_,_⟩ | ⟨_,a,_,_,rfl,_⟩
  · rfl
  · exact Qz hi
theorem TouR.othK {L L1 L':LvD} {V V1:VS} {id:Int} {t t1:TrD} {k:KD} {x1 y:LfD} (hT:TouR L V id t k L1 V1 t1 x1) (ht:L.tr id=some t) (hp:L'.pres=L1.pres) (hT':L'.tr=QO L1.tr id (some {t1 with lv:=QO t1.lv k (some y)})):OthK L L' id (fun q=>q=k):= by
  refine⟨fun i hi=> by rw[hT',Qz hi,hT.oth hi], fun j q hk=> ?_⟩
  have hpr:L1.pres=L.pres:= by
    rcases hT with⟨_,rfl,_,_⟩ | ⟨_,a,_,_,rfl,_⟩
    · rfl
    · rfl
  have hlv: ∀q,q≠k→t1.lv q=t.lv q:= fun q hq=> by
    rcases hT with⟨_,_,_,rfl⟩ | ⟨_,a,_,rfl,_,_⟩
    · rfl
    · exact Qz hq
  by_cases e:j=id
  · subst e
    by_cases e2:q=k
    · exact .inr ⟨U,e2⟩
    · left
      rcases hk with⟨e3,e4⟩ | ⟨u,x,e3,e4⟩
      · exact .inl ⟨e3, by rwa [hp,hpr]at e4⟩
      · rw[hT',Qu]at e3
        cases e3
        dsimp only at e4
        rw[Qz e2,hlv q e2]at e4
        exact .inr ⟨t,x,ht,e4⟩
  · left
    rcases hk with⟨e3,e4⟩ | ⟨u,x,e3,e4⟩
    · exact .inl ⟨e3, by rwa [hp,hpr]at e4⟩
    · rw[hT',Qz e,hT.oth e]at e3
      exact .inr ⟨u,x,e3,e4⟩
theorem Ld {L:LvD} {k:KD} {s:Int} {f:Int→Bool}:OthK L {L with pres:=Wm L.pres k s,sh:=f} 0 (fun q=>q=k):= by
  refine⟨fun _ _=>rfl, fun j q hk=> ?_⟩
  rcases hk with⟨e,h⟩ | h
  · by_cases e2:q=k
    · exact .inr ⟨e,e2⟩
    · simp only[Wm,if_neg e2]at h
      exact .inl (.inl ⟨e,h⟩)
  · exact .inl (.inr h)
theorem Nw {L L':LvD} {p:Int} {P:KD→Prop} (hp: ∀q,L'.pres q≠0→L.pres q≠0) (hT:L'.tr=L.tr):OthK L L' p P:=
  ⟨fun i _=> by rw[hT], fun j q hk=> .inl (hk.imp (fun a=>⟨a.1,hp q a.2⟩) (fun ⟨t,x,a,b⟩=>⟨t,x, by rwa [hT]at a,b⟩))⟩
theorem Nv {L L':LvD} {id:Int} {t t':TrD} {P:KD→Prop} (ht:L.tr id=some t) (hp:L'.pres=L.pres) (hT:L'.tr=QO L.tr id (some t')) (hg: ∀k x,t'.lv k=some x→t.lv k≠none):OthK L L' id P:= by
  refine⟨fun i hi=> by rw[hT,Qz hi], fun j q hk=> .inl ?_⟩
  rcases hk with⟨e,h⟩ | ⟨u,x,e,h⟩
  · exact .inl ⟨e, by rwa [hp]at h⟩
  · rw[hT]at e
    by_cases e2:j=id
    · subst e2
      rw[Qu]at e
      cases e
      cases q2:t.lv q with
      | none=> exact absurd q2 (hg q x h)
      | some y=> exact .inr ⟨t,y,ht,q2⟩
    · rw[Qz e2]at e; exact .inr ⟨u,x,e,h⟩
section
variable {ex:Int→Int} {L L1 L':LvD} {V V1 V':VS} {id:Int} {t t1 t':TrD} {k:KD} {x y x1:LfD} {m Fr:Nat} {s a:Int}
theorem TouR.pg (hT:TouR L V id t k L1 V1 t1 x1) (j:Int):Zf V1 j=Zf V j:= by
  rcases hT with⟨_,_,rfl,_⟩ | ⟨_,a,_,_,_,rfl⟩
  · rfl
  · rw[YA,YA]
theorem TouR.pgs (hT:TouR L V id t k L1 V1 t1 x1):Pgs V V1:= by
  rcases hT with⟨_,_,rfl,_⟩ | ⟨_,a,_,_,_,rfl⟩
  · exact .refl
  · exact Pgs.ref.trans .ref
theorem Rh (hI:LvX ex m L V) (hx:NN ex) (hs:s≠0→1≤ex s) (f:Int→Bool):
    StepX ex m L V (fun j=>ex j -dl s j) m 0 1 {L with pres:=Wm L.pres k s,sh:=f} (Z7 V (L.pres k))∧QG {L with pres:=Wm L.pres k s,sh:=f} (Z7 V (L.pres k))={QG L V with pres:=KQ (QG L V).pres k (Zf V s)}:= by
  obtain⟨h1,h2⟩:=setX (L':={L with pres:=Wm L.pres k s,sh:=f}) hI hx hs rfl rfl
  refine⟨⟨h1,rfl, fun c q=>q.unr.mono (by omega), fun c q=>q.add 0 k (fun j hj=> ?_) fun j u q y hj hq=> .inl ⟨u,y,hj,hq⟩,Pgs.unr hI.zero⟩,h2⟩
  by_cases e:j=k
  · right; rw[e]
  · simp only[Wm,if_neg e]at hj; exact .inl hj
theorem DC (hT:TouR L V id t k L1 V1 t1 x1) (ht:L.tr id=some t) (hI:LvX ex m L V) (hx:NN ex) (hs:s≠0→1≤ex s) {wr:BitVec 64} (f:Int→Bool)
    (hg:An {ZN (QG L V) id k with own:=Zf V s,wr:=(ZN (QG L V) id k).wr ||| wr}):
    StepX ex m L V (fun j=>ex j -dl s j) m 0 1 (We {L1 with sh:=f} id t1 k {x1 with own:=s,wr:=x1.wr ||| wr}) (Z7 V1 x1.own)∧
    QG (We {L1 with sh:=f} id t1 k {x1 with own:=s,wr:=x1.wr ||| wr}) (Z7 V1 x1.own)=Ww (QG L V) id k {ZN (QG L V) id k with own:=Zf V s,wr:=(ZN (QG L V) id k).wr ||| wr}:= by
  obtain⟨h1,h2,h3,h4,h5⟩:=hT.invX ht hI hx
  obtain⟨h6,h7⟩:=h1.same (L':={L1 with sh:=f}) rfl rfl
  have e:{Ws V1 x1 with own:=Zf V1 s,rd:=x1.rd,wr:=x1.wr ||| wr}={ZN (QG L V) id k with own:=Zf V s,wr:=(ZN (QG L V) id k).wr ||| wr}:= by
    rw[hT.pg,←h2];rfl
  obtain⟨h8,h9⟩:=ownX (L':=We {L1 with sh:=f} id t1 k {x1 with own:=s,wr:=x1.wr ||| wr}) (y:={x1 with own:=s,wr:=x1.wr ||| wr}) h6 hx hs (hT.tr ht) hT.lv rfl rfl rfl rfl (by rw[e]; exact hg)
  refine⟨⟨h8,hT.sp, fun c q=>(h4 c q).unr.mono (by omega), fun c q=>(hT.sz ht q).putOld (hT.tr ht) hT.lv U U,hT.pgs.trans (Pgs.unr h1.zero)⟩, ?_⟩
  rw[h9,h7,h3,Rl,e]
def NK (x:LfA) (c:Bs):LfA:={x with own:=c,wr:=BitVec.allOnes 64}
theorem allX_ag {x:LfA} {c:Bs}:An (NK x c):= fun j hj h=> by
  rw[show(NK x c).wr=BitVec.allOnes 64 from rfl,BitVec.getLsbD_allOnes]at h
  simp [hj]at h
theorem SF (hI:LvX ex m L V) (hx:NN ex) (ha:XZ V s) (ht:L.tr id=some t) (hl:t.lv k=some x) (f:Int→Bool):
    StepX ex m L V ex m 0 0 (We {L with sh:=f} id t k {x with own:=s,wr:=BitVec.allOnes 64}) (Z7 (refW V s) x.own)∧
    QG (We {L with sh:=f} id t k {x with own:=s,wr:=BitVec.allOnes 64}) (Z7 (refW V s) x.own)=Ww (QG L V) id k (NK (Ws V x) (Zf V s)):= by
  obtain⟨h1,h2⟩:=hI.refW ha
  obtain⟨h6,h7⟩:=h1.same (L':={L with sh:=f}) rfl rfl
  have nn:NN (fun j=>ex j+dl s j):= fun j hj=> by
    show 0≤ex j+dl s j
    have :=hx j hj
    by_cases e:j=s
    · subst e; rw[Wx];omega
    · rw[Jb e];omega
  have e:({Ws (refW V s) x with own:=Zf (refW V s) s,rd:=x.rd,wr:=BitVec.allOnes 64}:LfA)=NK (Ws V x) (Zf V s):= by
    simp only[Ws,YA];rfl
  obtain⟨h8,h9⟩:=ownX (L':=We {L with sh:=f} id t k {x with own:=s,wr:=BitVec.allOnes 64}) (y:={x with own:=s,wr:=BitVec.allOnes 64}) h6 nn (fun h0=> by show 1≤ex s+dl s s; rw[Wx]; have :=hx s h0;omega) ht hl rfl rfl rfl rfl (by rw[e]; exact allX_ag)
  refine⟨⟨h8.ext fun j _=>(by show ex j=ex j+dl s j -dl s j;omega),rfl, fun c q=>q.refW.unr.mono (by omega), fun c q=>q.putOld ht hl U U,Pgs.ref.trans (Pgs.unr h1.zero)⟩, ?_⟩
  rw[h9,h7,h2,e]
end
theorem NY {w:World} {b n Fr:Nat} {L:LvD} {V:VS} {F:Th} (hS:Sat w [WU b L,ZT L.sp n Fr V,F]) (hn:n≤65000000000) (k:KD) (s:Int):Calls prog 101 #[ptrV b 0,X0 k,intV s] w (Ret fun v w'=>v= .tuple #[]∧Sat w' [WU b {L with pres:=Wm L.pres k s,sh:=YX V L.sh (L.pres k)},ZT L.sp (n+1) Fr (Z7 V (L.pres k)),F]):= by
  have h1:=Zb hS
  refine(set_p (h1.split [0,1,4,5] [true,true,false,false,true,true,false] U) (by omega) k s).mono fun e w h=>h.mono fun v w h=> ?_
  obtain⟨rfl,h⟩:=h
  have h2:=h.join U
  exact⟨U,Xx (L:={L with pres:=Wm L.pres k s,sh:=YX V L.sh (L.pres k)}) (h2.reorder [0,1,4,5,2,3,6] U)⟩
theorem LV {w:World} {ex:Int→Int} {m:Nat} {b n Fr:Nat} {L:LvD} {V:VS} {F:Th} (hS:Sat w [WU b L,ZT L.sp n Fr V,F]) (hn:n≤60000000000) (hI:LvX ex m L V) (hx:NN ex) {s:Int} (hs:s≠0→1≤ex s) (k:KD) (wr:BitVec 64):
    Calls prog 64 #[ptrV b 0,intV 0,X0 k,intV s,Zr wr] w (Ret fun v w'=> ∃L' V',StepX ex m L V (fun j=>ex j -dl s j) m 0 1 L' V'∧QG L' V'={QG L V with pres:=KQ (QG L V).pres k (Zf V s)}∧OthK L L' 0 (fun q=>q=k)∧Sat w' [WU b L',ZT L'.sp (n+4) Fr V',F]):= by
 refine Qn func64 U ntmps64 U ?_
 refine Qe (Qa (XV hS U U U ?_))
 intro kb w1 j1
 replace j1:=Z4 j1
 refine Qf (Qc (Qe (Qe (Qa (Qb U U (Xc U U U (Qf (Qc (Qt U (fun h2=> ?_) (fun h2=> ?_))))))))))
 ·refine Qe (Qa (Qb U U ?_))
  refine Wi U X2 Xf (by first | exact j1.blk 0 U) (by first | decide | exact Q7 U | (simp;done) | omega) U U ?_
  refine Qb U U (Q0 PL U (NY (j1.sp [1,2] U) (by omega) k s) U ?_)
  rintro _ w3 ⟨rfl,j3⟩
  replace j3:=j3.jn U U
  exact Qf (Qc (Qh [4,3,1,0,7] U (Qv (Qr (ZP (.inr U) U (⟨_,rfl,_,_,(Rh hI hx hs (YX V L.sh (L.pres k))).1,(Rh hI hx hs (YX V L.sh (L.pres k))).2,Ld,(XM (m:=n+4) (by omega) (j3.pick [1,0,3] U)).reorder [1,0,2] U⟩))))))
 exact absurd U h2
theorem LU {w:World} {ex:Int→Int} {m:Nat} {b n Fr:Nat} {L:LvD} {V:VS} {F:Th} (hS:Sat w [WU b L,ZT L.sp n Fr V,F]) (hn:n≤60000000000) (hI:LvX ex m L V) (hx:NN ex) (hm:m<Wd) {id:Int} {t:TrD} (ht:L.tr id=some t) {s:Int} (hs:s≠0→1≤ex s) (k:KD) (wr:BitVec 64) (hg:An {ZN (QG L V) id k with own:=Zf V s,wr:=(ZN (QG L V) id k).wr ||| wr}):
    Calls prog 64 #[ptrV b 0,intV id,X0 k,intV s,Zr wr] w (Ret fun v w'=> ∃L' V',StepX ex m L V (fun j=>ex j -dl s j) m 0 1 L' V'∧QG L' V'=Ww (QG L V) id k {ZN (QG L V) id k with own:=Zf V s,wr:=(ZN (QG L V) id k).wr ||| wr}∧OthK L L' id (fun q=>q=k)∧Sat w' [WU b L',ZT L'.sp (n+4) Fr V',F]):= by
 have h0:id≠0:=hI.rank.none0 ht
 refine Qn func64 U ntmps64 U ?_
 refine Qe (Qa (XV hS U U U ?_))
 intro kb w1 j1
 replace j1:=Z4 j1
 refine Qf (Qc (Qe (Qe (Qa (Qb U U (Xc U U U (Qf (Qc (Qt U (fun h2=> ?_) (fun h2=> ?_))))))))))
 ·exact absurd h2 h0
 refine Qs (Qc (Qe (Qa (Qb U U (Qb U U ?_)))))
 refine Wi U X2 Xf (by first | exact j1.blk 0 U) (by first | decide | exact Q7 U | (simp;done) | omega) U U ?_
 refine Q0 ND U (GK (j1.sp [1,2] U) (by omega) (hI.rank.ends hm) ht (k:=k)) U ?_
 rintro _ w3 ⟨L1,V1,t1,x1,rfl,hT,j3⟩
 replace j3:=j3.jn U U
 have ht1:=hT.tr ht
 have hx1:=hT.lv
 refine Qd U U (Qf (Qc (Qh [4,3,0,10] U (Qe ?_))))
 have j4:=Ht ht1 hx1 (j3.pick [0,1,2,3] U)
 refine Qa (Qb U U (Qb U U (Qi U U (Qg U W4 U (Qo U QM (by first | assumption | exact j4.cell 0 U U | exact j4.cell 2 U U | exact j4.cell 6 U U | exact j4.cell 11 U U) U ?_)))))
 refine Q0 Uf U (HS (j4.sp [6,9,10] U) (by omega) x1.own) U ?_
 rintro _ w5 ⟨rfl,j5⟩
 replace j5:=j5.jn U U
 refine Qf (Qc (Qe (Qa (Qb U U (Qb U U (Qi U U (Qg U W4 U ?_)))))))
 refine Qx j5 U U Js U (i:=3) U (by first | decide | exact Q7 U | (simp;done)) ?_
 intro w6 j6; dsimp only[List.set]at j6
 refine Qf (Qc (Qh [4,10] U (Qa (Qb U U (Qi U U (Qg U Wo U (Qo U JB (by first | assumption | exact j6.cell 0 U U | exact j6.cell 3 U U | exact j6.cell 5 U U | exact j6.cell 11 U U) U ?_)))))))
 refine Qb U U (wl_or64 U U U (Qi U U (Qg U Wo U ?_)))
 refine Qx j6 U U GO U (i:=3) U (by first | decide | exact Q7 U | (simp;done)) ?_
 intro w7 j7; dsimp only[List.set]at j7
 refine Qf (ZP (.inl U) U ?_)
 have j8:=J4 (L:={L1 with sh:=YX V1 L1.sh x1.own}) (y:={x1 with own:=s,wr:=x1.wr ||| wr}) ht1 hx1 U (j7.pick [3,4,5,6,7,8,0,9,10,1,2,11,12] U)
 exact⟨_,rfl,_,_,(DC hT ht hI hx hs (YX V1 L1.sh x1.own) hg).1,(DC hT ht hI hx hs (YX V1 L1.sh x1.own) hg).2,hT.othK ht U U,(XM (m:=n+4) (by omega) (j8.pick [1,0,3] U)).reorder [1,0,2] U⟩
theorem kl_it {w:World} {l c b:Nat} {g:KD→Option Value} {J:List KD→Th} {F:Th} (hS:Sat w [J [],QE c [.map (some b)],Q6 X0 b g,F]) (hY:YJ prog l X0 (okC g) J):
    Calls prog 129 #[.func (.yield l) #[] #[],ptrV c 0] w (Ret fun v w'=> ∃ks,AllC g ks∧Sat w' [J ks,QE c [.map (some b)],Q6 X0 b g,F]):= by
 refine Qn func129 U ntmps129 U ?_
 refine Qe (Qa (Qo U WF (by first | assumption | exact hS.cell 1 U U) U ?_))
 refine Jw 2 hS underlying110 U U U ?_
 intro RR left0 wR hSR; dsimp only[List.set]at hSR
 refine Qf (Qc (Qw (Xe (fun K0 E0 W0=> ∃(dn:KD→Prop) (cur:Option KD) (left:Nat) (ks:List KD),K0=1*left∧E0=[(0,.func (.yield l) #[] #[]),(5,ptrV RR 0)]∧Sat W0 [J ks,Jt X0 b RR g dn cur left,QE c [.map (some b)],F]∧(CSt g dn ks)) (L0:=[(0,_),(5,_)]) (1*left0) (G5 U U) ⟨_,_,_,_,rfl,rfl,hSR.reorder [0,2,1,3] U,CSt.start g⟩ ?_)))
 rintro _ _ w1 ⟨dn,cur,left,ks,rfl,rfl,j1,hcs⟩
 refine Qe (Qa (Yk 1 j1 keysKey.inj U U U (fun hdone=> ?_) (fun k v left2 w2 hleft hgk hnd j2=> ?_)))
 ·refine Qp U U U (Qf (Qc (Qe (QL U (QT (Qq (Qq (Qy (ZP (.inl U) U ?_)))))))))
  exact⟨_,rfl,ks,hcs.all hdone, by have hSz:=W2 (j1.reorder [1,0,2,3] U); exact hSz.reorder [1,2,0,3] U⟩
 dsimp only[List.set]at j2
 refine Qp U U U (Qf (Qc (Qe (XD U (Qs (Qc (Qw (Qe (Qa (JG 1 j2 U hgk U U (Qp U U U (Xa j2 WK U U ?_))))))))))))
 intro bk wq1 hq1
 refine Q9 hq1 U U Xf U (by first | rfl | (simp [QV,Value.oneCell'];done)) (i:=0) U (by first | decide | exact Q7 U) ?_
 intro wq2 hq2; dsimp only[List.set]at hq2
 replace hq2:=Z4 (k:=k) hq2
 refine Qf (Qc (Qe (WB (Xu U (Xk U) (Xu U (X3 U X2 Xf (hq2.blk 0 U) (by first | decide | exact Q7 U) U) ?_)))))
 have hSy:=hq2.sp [1] U
 refine YM U U U (hY _ _ _ _ (hcs.ok hnd hgk) hSy) ?_
 intro w5 j5; replace j5:=j5.jn U U
 refine Xu U (Hi U) (Y5 (Qc (Qh [5,0,13] U (QL U (Qs (Ql ?_))))))
 have hSz:=j5.pick [0,2,3,4] U; dsimp only[Hc,U1]at hSz
 exact Q5 (L1:=[(0,_),(5,_)]) (G5 U U) (k1:=1*left2) (by omega) ⟨_,_,_,_,rfl,rfl,hSz,hcs.step hnd hgk⟩
theorem kl_sp {w:World} {v0:Value} {F:Th} (hS:Sat w [F]) (h0:v0.oneCell'=true):
    Calls prog 90 #[v0] w (Ret fun v w'=> ∃c,v= .func (.func 129) #[] #[ptrV c 0]∧Sat w' [QE c v0.cells.toList,F]):= by
 refine Qn func90 U ntmps90 U ?_
 refine Qe (Qa (XV hS U U U ?_))
 intro b1 w1 j1
 exact Qd U U (Qf (Qc (Qe (Qa (Zv U U (Qd U U (Qf (Qc (Qv (QR (.inr U) U U (⟨_,U,_,U,j1⟩)))))))))))
theorem kp_it {w:World} {l c b:Nat} {g:KD→Option Value} {J:List KD→Th} {F:Th} (hS:Sat w [J [],QE c [.map (some b)],Q6 X0 b g,F]) (hY:YJ prog l X0 (okC g) J):
    Calls prog 165 #[.func (.yield l) #[] #[],ptrV c 0] w (Ret fun v w'=> ∃ks,AllC g ks∧Sat w' [J ks,QE c [.map (some b)],Q6 X0 b g,F]):= by
 refine Qn func165 U ntmps165 U ?_
 refine Qe (Qa (Qo U VV (by first | assumption | exact hS.cell 1 U U) U ?_))
 refine Jw 2 hS underlying105 U U U ?_
 intro RR left0 wR hSR; dsimp only[List.set]at hSR
 refine Qf (Qc (Qw (Xe (fun K0 E0 W0=> ∃(dn:KD→Prop) (cur:Option KD) (left:Nat) (ks:List KD),K0=1*left∧E0=[(0,.func (.yield l) #[] #[]),(5,ptrV RR 0)]∧Sat W0 [J ks,Jt X0 b RR g dn cur left,QE c [.map (some b)],F]∧(CSt g dn ks)) (L0:=[(0,_),(5,_)]) (1*left0) (G5 U U) ⟨_,_,_,_,rfl,rfl,hSR.reorder [0,2,1,3] U,CSt.start g⟩ ?_)))
 rintro _ _ w1 ⟨dn,cur,left,ks,rfl,rfl,j1,hcs⟩
 refine Qe (Qa (Yk 1 j1 keysKey.inj U U U (fun hdone=> ?_) (fun k v left2 w2 hleft hgk hnd j2=> ?_)))
 ·refine Qp U U U (Qf (Qc (Qe (QL U (QT (Qq (Qq (Qy (ZP (.inl U) U ?_)))))))))
  exact⟨_,rfl,ks,hcs.all hdone, by have hSz:=W2 (j1.reorder [1,0,2,3] U); exact hSz.reorder [1,2,0,3] U⟩
 dsimp only[List.set]at j2
 refine Qp U U U (Qf (Qc (Qe (XD U (Qs (Qc (Qw (Qe (Qa (JG 1 j2 U hgk U U (Qp U U U (Xa j2 WK U U ?_))))))))))))
 intro bk wq1 hq1
 refine Q9 hq1 U U Xf U (by first | rfl | (simp [QV,Value.oneCell'];done)) (i:=0) U (by first | decide | exact Q7 U) ?_
 intro wq2 hq2; dsimp only[List.set]at hq2
 replace hq2:=Z4 (k:=k) hq2
 refine Qf (Qc (Qe (WB (Xu U (Xk U) (Xu U (X3 U X2 Xf (hq2.blk 0 U) (by first | decide | exact Q7 U) U) ?_)))))
 have hSy:=hq2.sp [1] U
 refine YM U U U (hY _ _ _ _ (hcs.ok hnd hgk) hSy) ?_
 intro w5 j5; replace j5:=j5.jn U U
 refine Xu U (Hi U) (Y5 (Qc (Qh [5,0,13] U (QL U (Qs (Ql ?_))))))
 have hSz:=j5.pick [0,2,3,4] U; dsimp only[Hc,U1]at hSz
 exact Q5 (L1:=[(0,_),(5,_)]) (G5 U U) (k1:=1*left2) (by omega) ⟨_,_,_,_,rfl,rfl,hSz,hcs.step hnd hgk⟩
theorem kp_sp {w:World} {v0:Value} {F:Th} (hS:Sat w [F]) (h0:v0.oneCell'=true):
    Calls prog 132 #[v0] w (Ret fun v w'=> ∃c,v= .func (.func 165) #[] #[ptrV c 0]∧Sat w' [QE c v0.cells.toList,F]):= by
 refine Qn func132 U ntmps132 U ?_
 refine Qe (Qa (XV hS U U U ?_))
 intro b1 w1 j1
 exact Qd U U (Qf (Qc (Qe (Qa (Zv U U (Qd U U (Qf (Qc (Qv (QR (.inr U) U U (⟨_,U,_,U,j1⟩)))))))))))
theorem kt_it {w:World} {l c b:Nat} {g:Int→Option Value} {J:List Int→Th} {F:Th} (hS:Sat w [J [],QE c [.map (some b)],Q6 QX b g,F]) (hY:YJ prog l QX (okC g) J):
    Calls prog 153 #[.func (.yield l) #[] #[],ptrV c 0] w (Ret fun v w'=> ∃ks,AllC g ks∧Sat w' [J ks,QE c [.map (some b)],Q6 QX b g,F]):= by
 refine Qn func153 U ntmps153 U ?_
 refine Qe (Qa (Qo U WN (by first | assumption | exact hS.cell 1 U U) U ?_))
 refine Jw 2 hS underlying106 U U U ?_
 intro RR left0 wR hSR; dsimp only[List.set]at hSR
 refine Qf (Qc (Qw (Xe (fun K0 E0 W0=> ∃(dn:Int→Prop) (cur:Option Int) (left:Nat) (ks:List Int),K0=1*left∧E0=[(0,.func (.yield l) #[] #[]),(5,ptrV RR 0)]∧Sat W0 [J ks,Jt QX b RR g dn cur left,QE c [.map (some b)],F]∧(CSt g dn ks)) (L0:=[(0,_),(5,_)]) (1*left0) (G5 U U) ⟨_,_,_,_,rfl,rfl,hSR.reorder [0,2,1,3] U,CSt.start g⟩ ?_)))
 rintro _ _ w1 ⟨dn,cur,left,ks,rfl,rfl,j1,hcs⟩
 refine Qe (Qa (Yk 1 j1 keysInt.inj U U U (fun hdone=> ?_) (fun k v left2 w2 hleft hgk hnd j2=> ?_)))
 ·refine Qp U U U (Qf (Qc (Qe (QL U (QT (Qq (Qq (Qy (ZP (.inl U) U ?_)))))))))
  exact⟨_,rfl,ks,hcs.all hdone, by have hSz:=W2 (j1.reorder [1,0,2,3] U); exact hSz.reorder [1,2,0,3] U⟩
 dsimp only[List.set]at j2
 refine Qp U U U (Qf (Qc (Qe (XD U (Qs (Qc (Qw (Qe (Qa (JG 1 j2 U hgk U U (Qp U U U (Qd U U (Qf (Qc (Qe (WB (Xu U (Xk U) (Xu U (Xk U) (YM U U U (hY _ _ _ _ (hcs.ok hnd hgk) (j2.sp [0] U)) ?_)))))))))))))))))))
 intro w5 j5; replace j5:=j5.jn U U
 refine Xu U (Hi U) (Y5 (Qc (Qh [5,0,13] U (QL U (Qs (Ql ?_))))))
 have hSz:=j5.reorder [0,1,2,3] U; dsimp only[Hc,U1]at hSz
 exact Q5 (L1:=[(0,_),(5,_)]) (G5 U U) (k1:=1*left2) (by omega) ⟨_,_,_,_,rfl,rfl,hSz,hcs.step hnd hgk⟩
theorem kt_sp {w:World} {v0:Value} {F:Th} (hS:Sat w [F]) (h0:v0.oneCell'=true):
    Calls prog 113 #[v0] w (Ret fun v w'=> ∃c,v= .func (.func 153) #[] #[ptrV c 0]∧Sat w' [QE c v0.cells.toList,F]):= by
 refine Qn func113 U ntmps113 U ?_
 refine Qe (Qa (XV hS U U U ?_))
 intro b1 w1 j1
 exact Qd U U (Qf (Qc (Qe (Qa (Zv U U (Qd U U (Qf (Qc (Qv (QR (.inr U) U U (⟨_,U,_,U,j1⟩)))))))))))
theorem kd_it {w:World} {l c b:Nat} {g:Bs→Option Value} {J:List Bs→Th} {F:Th} (hS:Sat w [J [],QE c [.map (some b)],Q6 Zl b g,F]) (hY:YJ prog l Zl (okC g) J):
    Calls prog 100 #[.func (.yield l) #[] #[],ptrV c 0] w (Ret fun v w'=> ∃ks,AllC g ks∧Sat w' [J ks,QE c [.map (some b)],Q6 Zl b g,F]):= by
 refine Qn func100 U ntmps100 U ?_
 refine Qe (Qa (Qo U R1 (by first | assumption | exact hS.cell 1 U U) U ?_))
 refine Jw 2 hS underlying111 U U U ?_
 intro RR left0 wR hSR; dsimp only[List.set]at hSR
 refine Qf (Qc (Qw (Xe (fun K0 E0 W0=> ∃(dn:Bs→Prop) (cur:Option Bs) (left:Nat) (ks:List Bs),K0=1*left∧E0=[(0,.func (.yield l) #[] #[]),(5,ptrV RR 0)]∧Sat W0 [J ks,Jt Zl b RR g dn cur left,QE c [.map (some b)],F]∧(CSt g dn ks)) (L0:=[(0,_),(5,_)]) (1*left0) (G5 U U) ⟨_,_,_,_,rfl,rfl,hSR.reorder [0,2,1,3] U,CSt.start g⟩ ?_)))
 rintro _ _ w1 ⟨dn,cur,left,ks,rfl,rfl,j1,hcs⟩
 refine Qe (Qa (Yk 1 j1 keysStr.inj U U U (fun hdone=> ?_) (fun k v left2 w2 hleft hgk hnd j2=> ?_)))
 ·refine Qp U U U (Qf (Qc (Qe (QL U (QT (Qq (Qq (Qy (ZP (.inl U) U ?_)))))))))
  exact⟨_,rfl,ks,hcs.all hdone, by have hSz:=W2 (j1.reorder [1,0,2,3] U); exact hSz.reorder [1,2,0,3] U⟩
 dsimp only[List.set]at j2
 refine Qp U U U (Qf (Qc (Qe (XD U (Qs (Qc (Qw (Qe (Qa (JG 1 j2 U hgk U U (Qp U U U (Qd U U (Qf (Qc (Qe (WB (Xu U (Xk U) (Xu U (Xk U) (YM U U U (hY _ _ _ _ (hcs.ok hnd hgk) (j2.sp [0] U)) ?_)))))))))))))))))))
 intro w5 j5; replace j5:=j5.jn U U
 refine Xu U (Hi U) (Y5 (Qc (Qh [5,0,13] U (QL U (Qs (Ql ?_))))))
 have hSz:=j5.reorder [0,1,2,3] U; dsimp only[Hc,U1]at hSz
 exact Q5 (L1:=[(0,_),(5,_)]) (G5 U U) (k1:=1*left2) (by omega) ⟨_,_,_,_,rfl,rfl,hSz,hcs.step hnd hgk⟩
theorem kd_sp {w:World} {v0:Value} {F:Th} (hS:Sat w [F]) (h0:v0.oneCell'=true):
    Calls prog 61 #[v0] w (Ret fun v w'=> ∃c,v= .func (.func 100) #[] #[ptrV c 0]∧Sat w' [QE c v0.cells.toList,F]):= by
 refine Qn func61 U ntmps61 U ?_
 refine Qe (Qa (XV hS U U U ?_))
 intro b1 w1 j1
 exact Qd U U (Qf (Qc (Qe (Qa (Zv U U (Qd U U (Qf (Qc (Qv (QR (.inr U) U U (⟨_,U,_,U,j1⟩)))))))))))
def ItK (g:KD→Option Value) (gf:Nat) (caps:List Value) (It:Th):Prop:= ∀(l:Nat) (J:List KD→Th) (X:Th) (w:World),Sat w [J [],It,X]→YJ prog l X0 (okC g) J→Calls prog gf (.func (.yield l) #[] #[]::caps).toArray w (Ret fun _ w'=> ∃ks,AllC g ks∧Sat w' [J ks,It,X])
def JK (l D b:Nat) (rec:Loop) (ks:List KD):Th:=CH fun v:Value=>starL [WQ l rec,Wa D,QE b [v],rowT kC v ks]
theorem appK {w:World} {g:KD→Option Value} {It F:Th} {gf:Nat} {caps:List Value} (hS:Sat w [It,F]) (hcal:Q8 prog gf=true) (hIt:ItK g gf caps It) (hlen: ∀ks,Came g ks→ks.length≤100000000000):
    Calls prog 162 [.slice none 0 0,.func (.func gf) #[] caps.toArray].toArray w (Ret fun v w'=> ∃ks,AllC g ks∧Sat w' [rowT kC v ks,It,F]):= by
 refine YE func162 U ntmps162 U ?_
 refine Qe (Qa (XV hS U U U ?_))
 intro b1 w1 j1
 refine Qd U U (Qf (Qc (Qe (Qe (Qa (Qb U U (Qf (Qc (Qw (Y6 (caps:=caps) U hcal ?_))))))))))
 intro rec hr1 hr2 hr3 hr4 hr5 htn htf
 have hE:=((j1.enter_loop rec).row_nil kC)
 have hE2:=hE.sp [1,2,3,0] U
 have hJ0:=Sat.ex_intro (f:= fun v:Value=>starL [WQ _ _,Wa _,QE _ [v],rowT kC v []]) _ (Sat.fold (As:=[WQ _ _,Wa _,QE _ [_],rowT kC _ []]) hE2)
 refine(hIt _ (JK _ _ _ _) _ _ (hJ0.join U) ?_).mono ?_
 ·intro ks k R w2 hok hw2
  obtain⟨v,hw3⟩:=hw2.ex
  have hw4:=hw3.flat; dsimp only[RX,RW]at hw4
  have hl1:=hlen _ hok
  simp only[List.length_append,List.length_cons,List.length_nil]at hl1
  refine G6 (hw4.loop 0 rfl) hr1 hr2 hr3 hr4 hr5 htn htf rfl (by intro o ho c; simp at ho; rcases ho with rfl | rfl<;> simp) (by intro o ho c; simp at ho; rcases ho with rfl | rfl | rfl | rfl | rfl<;> simp) ?_
  intro QA hA
  refine Xa hw4 WK U U ?_
  intro bk wk1 hq1
  refine Q9 hq1 U U Xf U (by first | rfl | (simp [QV,Value.oneCell'];done)) (i:=0) U (by first | decide | exact Q7 U) ?_
  intro wk2 hq2; dsimp only[List.set]at hq2
  replace hq2:=Z4 (k:=k) hq2
  refine Qf (hA _ _ (hq2.loop 1 U) ?_)
  intro QB hB
  have h1v:v.oneCell'=true:=hq2.own_one 4 U
  have hw5:=hq2.loop_put 1 U (rec':={rec with state:= .busy}); dsimp only[List.set]at hw5
  refine Qo U Ah (hw5.cell 3 U U) U ?_
  refine Wi U X2 Xf (hw5.blk 0 U) (by first | decide | exact Q7 U | (simp;done)) U U ?_
  refine ZV kC [k] hw5 U underlying123 ifz_115 U U U U (by first | rfl | simp [RowC.cells,Wu,Xz]) U ?_
  intro b3 w3 hw6
  refine Jf kC 5 hw6 U U U (hw6.rd 0 U (by simp)) underlying123 underlying123 (by intro k hk; cases hk) ifo_115 U (by simp;omega) U (by simp;omega) ?_
  intro v4 w4 hw7; dsimp only[List.set]at hw7
  have h1v4:v4.oneCell'=true:=hw7.own_one 5 U
  refine Qx hw7 U U sz_123 h1v4 (i:=4) U (by simp) ?_
  intro w5 hw8; dsimp only[List.set]at hw8
  refine Qf (hB _ _ (hw8.loop 2 U) ?_)
  have hw9:=hw8.loop_put 2 U (rec':=rec); dsimp only[List.set]at hw9
  exact(Sat.ex_intro (f:= fun v:Value=>starL [WQ _ _,Wa _,QE _ [v],rowT kC v (ks++[k])]) v4 (Sat.fold (As:=[WQ _ _,Wa _,QE _ [_],rowT kC _ _]) (hw9.pick [2,3,4,5,6] U)))
 ·rintro e w3 ⟨v0,rfl,ks,hall,hw3⟩
  obtain⟨v,hw4⟩:=hw3.ex
  have hw5:=hw4.flat; dsimp only[RX,RW]at hw5
  refine⟨⟨v0,rfl⟩,rec,hw5.loop 0 U, by rw[hr1]; simp,hr2, ?_⟩
  intro a ha1 ha2
  have hw6:=hw5.loop_put 0 U (rec':={rec with state:= .exhausted}); dsimp only[List.set]at hw6
  obtain⟨hD,hw7⟩:=hw6.defer_put (o:= .deferred none) 1 rfl
  dsimp only[List.eraseIdx]at hw7
  refine GN (n:=13) (by rw[ha1]; exact htn) (by rw[ha1]; exact htf) ha2 U Ah (hw6.cell 2 U U) hD U U U ?_
  exact⟨_,U,ks,hall,hw7.pick [2,3,4] U⟩
def keysTkl (c b:Nat) (g:KD→Option Value):Th:=starL [QE c [.map (some b)],Q6 X0 b g]
theorem itkl (c b:Nat) (g:KD→Option Value):ItK g 129 [ptrV c 0] (keysTkl c b g):= fun l J X w hS hY=> by
  have h1:=(hS.perm (List.Perm.swap _ _ _)).flat; dsimp only[RX,RW]at h1
  refine(kl_it (h1.reorder [2,0,1,3] U) hY).mono fun e w' h=>h.mono fun v w' ⟨ks,h2,h3⟩=>⟨ks,h2, ?_⟩
  exact(Sat.fold (As:=[QE c [.map (some b)],Q6 X0 b g]) (h3.reorder [1,2,0,3] U)).perm (List.Perm.swap _ _ _)
def keysTkp (c b:Nat) (g:KD→Option Value):Th:=starL [QE c [.map (some b)],Q6 X0 b g]
theorem itkp (c b:Nat) (g:KD→Option Value):ItK g 165 [ptrV c 0] (keysTkp c b g):= fun l J X w hS hY=> by
  have h1:=(hS.perm (List.Perm.swap _ _ _)).flat; dsimp only[RX,RW]at h1
  refine(kp_it (h1.reorder [2,0,1,3] U) hY).mono fun e w' h=>h.mono fun v w' ⟨ks,h2,h3⟩=>⟨ks,h2, ?_⟩
  exact(Sat.fold (As:=[QE c [.map (some b)],Q6 X0 b g]) (h3.reorder [1,2,0,3] U)).perm (List.Perm.swap _ _ _)
theorem colK {w:World} {g:KD→Option Value} {It F:Th} {gf:Nat} {caps:List Value} (hS:Sat w [It,F]) (hcal:Q8 prog gf=true) (hIt:ItK g gf caps It) (hlen: ∀ks,Came g ks→ks.length≤100000000000):
    Calls prog 127 #[.func (.func gf) #[] caps.toArray] w (Ret fun v w'=> ∃ks,AllC g ks∧Sat w' [rowT kC v ks,It,F]):= by
 refine Qn func127 U ntmps127 U ?_
 refine Qe (Qa (Qd U U (Qf (Qc (Qe (Qa (Qb U U (Q0 cal_162 U (appK (hS.sp [0] U) hcal hIt hlen) U ?_))))))))
 rintro _ w1 ⟨ks,hks,j1⟩
 replace j1:=j1.jn U U
 have h1v:=j1.own_one 0 U
 exact Qd U U (Qf (Qc (Qv (QR (.inr U) U U (⟨_,U,ks,hks,j1⟩)))))
def orI (a b:Int):Int:= if a≠0 then a else b
theorem or_step {l:List Int} {i:Nat} {x:Int} (hz: ∀q,q<i→l[q]? =some 0) (hx:l[i]? =some x) (h0:x=0): ∀q,q<i+1→l[q]? =some 0:= fun q hq=> by
  rcases Nat.lt_or_ge q i with h | h
  · exact hz q h
  · have :q=i:= by omega
    subst this; rw[hx,h0]
theorem or_sp {w:World} {c:Nat} {a b:Int} {F:Th} (hS:Sat w [rowT inC (.slice (some ⟨c,0,none⟩) 2 2) [a,b],F]):
    Calls prog 92 #[.slice (some ⟨c,0,none⟩) 2 2] w (Ret fun v w'=>v=intV (orI a b)∧w'=w):= by
 refine Qn func92 U ntmps92 U ?_
 refine Qe (Qa (Qd U U (Qf (Qc (Qe (Qa (Qd U U (Qf (Qc (Qe (Qe (Qa (Qb U U ?_)))))))))))))
 first | refine XB underlying22 U U ?_ | refine Xo 0 hS underlying22 U U U ?_
 refine Qb U U (Qf (Qc (Qw (Xe (fun K0 E0 W0=> ∃(i:Nat),K0=2 -i∧E0=[(3,intV 0),(6,.slice (some ⟨c,0,none⟩) 2 2),(7,intV 2),(8,intV (i:Int))]∧Sat W0 [rowT inC (.slice (some ⟨c,0,none⟩) 2 2) [a,b],F]∧(W0=w)∧(i≤2)∧(∀q,q<i→[a,b][q]? =some 0)) (L0:=[(3,_),(6,_),(7,_),(8,_)]) (2) (Vj U U U U) ⟨0, by omega,rfl,hS,rfl, by omega, fun q hq=>absurd hq (by omega)⟩ ?_))))
 rintro _ _ w1 ⟨i,rfl,rfl,j1,hw0,hi,hz⟩
 refine Qe (Qa (Xn U U U (Qf (Qc (Qe (Qt U (fun h2=> ?_) (fun h2=> ?_)))))))
 ·obtain⟨xi,hxi⟩: ∃xi,[a,b][i]? =some xi:=⟨_,Zd (by simp;omega)⟩
  refine Qs (Qc (Qe (Qw (Qe (Qa (Xg inC 0 i j1 U U U (by first | rfl | omega) hxi Un U ?_))))))
  intro bx3 capx3 hvx3
  refine XY 0 i 0 j1 U hvx3 U U hxi QM U U (Qd U U (Qf (Qc (Qe (Qa (Qb U U (Qb U U (Xp U U U (Qf (Qc (Qh [8,7,6,3,5,14] U (Qt U (fun h4=> ?_) (fun h4=> ?_)))))))))))))
  ·have hx0:xi≠0:=h4
   refine Qe (Qa (Qb U U (Qd U U (Qf (Qc (Qv (Q1 (Qr (Qr (Q1 (Qr (QR (.inr U) U U (⟨_,U, ?_,hw0⟩)))))))))))))
   have h2:i=0∨i=1:= by omega
   rcases h2 with rfl | rfl
   ·have e:a=xi:=(by simpa using hxi); subst e;unfold orI; rw[if_pos hx0]
   ·have e:b=xi:=(by simpa using hxi); have e0:a=0:=(by simpa using hz 0 (by omega)); subst e;unfold orI; rw[if_neg (by omega)]
  have hx0:xi=0:=Decidable.not_not.1 h4
  refine Qs (Ql (Qc (Qa (QK U U (by omega) (by omega) U ?_))))
  refine Qb U U (Qf ?_)
  exact Q5 (L1:=[(3,intV 0),(6,_),(7,intV 2),(8,intV ((i+1:Nat):Int))]) (Vj U U U U) (k1:=2 -(i+1)) (by omega) ⟨i+1, by omega,rfl,j1.pick [0,1] U,hw0, by omega,or_step hz hxi hx0⟩
 refine QT (Qq (Qq (Qy (Qc (Qe (Qa (Qb U U (Qd U U (Qf (Qc (Qv (QR (.inr U) U U ?_))))))))))))
 have h2:i=2:= by omega
 subst h2; have e0:a=0:= by simpa using hz 0 (by omega)
 have e1:b=0:= by simpa using hz 1 (by omega)
 exact⟨_,rfl, by unfold orI; rw[if_neg (by omega),e1],hw0⟩
def E1 (x y:KD):Int:=orI (Lib.compareBytes x.1 y.1) (Lib.compareInt x.2 y.2)
theorem NV (a b:Bs) (w:World):Calls prog 93 #[strV a,strV b] w (Ret fun v w'=>v=intV (Lib.compareBytes a b)∧w'=w):=
  (Tryz.strings_Compare ⟨a.toArray⟩ ⟨b.toArray⟩ w).mono fun e w' ⟨h1,h2⟩=>⟨_,h1,rfl,h2⟩
theorem Pu (a b:Int) (w:World):Calls prog 94 #[intV a,intV b] w (Ret fun v w'=>v=intV (Lib.compareInt a b)∧w'=w):=
  (Tryz.cmp_Compare_int a b w).mono fun e w' ⟨h1,h2⟩=>⟨_,h1,rfl,h2⟩
theorem cmpL_sp {w:World} {F:Th} (hS:Sat w [F]) (x y:KD):
    Calls prog 91 #[X0 x,X0 y] w (Ret fun v w'=>v=intV (E1 x y)∧GrW w w'):= by
 refine Qn func91 U ntmps91 U ?_
 refine Qe (Qa (RZ hS U U U ?_))
 intro ka w1 hG1 j1
 replace j1:=Z4 (k:=x) j1
 refine RZ j1 U U U ?_
 intro kb w2 hG2 j2
 replace j2:=Z4 (k:=y) j2
 refine Qd U U (Qf (Qc (Qe ?_)))
 have j3:=j2.drew
 refine QH [0,1,2,3,5,6,7,8,4,9,10,11,12] [4,9,10,11] ZW (by kernel_rfl) ?_
 refine QP U U U JZ (Q3 U U U (Qm U Yd (by first | assumption | exact j3.cell 0 U U | exact j3.cell 1 U U)) ?_)
 refine QP U U U JZ (Q3 U U U (Qm U Yd (by first | assumption | exact j3.cell 0 U U | exact j3.cell 1 U U)) ?_)
 refine QP U U U K8 (Q3 U U U (Qm U QM (by first | assumption | exact j3.cell 0 U U | exact j3.cell 1 U U)) ?_)
 refine QP U U U K8 (Q3 U U U (Qm U QM (by first | assumption | exact j3.cell 0 U U | exact j3.cell 1 U U)) ?_)
 refine Xl U U U U U U ?_
 refine Q0 EA U (NV x.1 y.1 _) U ?_
 rintro _ _ ⟨rfl,rfl⟩
 refine XH (.cons (.inl ⟨rfl,(Qm U QM (by first | assumption | exact j3.cell 0 U U | exact j3.cell 1 U U))⟩) (.cons (.inl ⟨rfl,(Qm U QM (by first | assumption | exact j3.cell 0 U U | exact j3.cell 1 U U))⟩) (Xq (by kernel_rfl)))) ?_
 refine Xl U U U U U U ?_
 refine Q0 E9 U (Pu x.2 y.2 _) U ?_
 rintro _ _ ⟨rfl,rfl⟩
 refine XH (Xq (by kernel_rfl)) ?_
 refine Xl U U U U U U ?_
 refine Kc inC [Lib.compareBytes x.1 y.1,Lib.compareInt x.2 y.2] j3 U underlying22 Bl U U U U (by first | rfl | simp [RowC.cells,Wu,Xz]) U ?_
 intro cc w4 hG4 j4
 refine XH (Xq (by kernel_rfl)) ?_
 refine Xl U U U U U U ?_
 refine Q0 EB U (or_sp (j4.split [0] [true,false,false,false] U)) U ?_
 rintro _ _ ⟨rfl,rfl⟩
 refine XH (Xq (by kernel_rfl)) ?_
 exact Zo U U U (VC.nil (Qc (Qh [4] U (Qv (QR (.inr U) U U (⟨_,U,U,(hG1.trans hG2).trans (GrW.drew.trans hG4)⟩))))))
theorem cmpI_sp {w:World} {F:Th} (hS:Sat w [F]) (x y:KD):
    Calls prog 133 #[X0 x,X0 y] w (Ret fun v w'=>v=intV (E1 x y)∧GrW w w'):= by
 refine Qn func133 U ntmps133 U ?_
 refine Qe (Qa (RZ hS U U U ?_))
 intro ka w1 hG1 j1
 replace j1:=Z4 (k:=x) j1
 refine RZ j1 U U U ?_
 intro kb w2 hG2 j2
 replace j2:=Z4 (k:=y) j2
 refine Qd U U (Qf (Qc (Qe ?_)))
 have j3:=j2.drew
 refine QH [0,1,2,3,5,6,7,8,4,9,10,11,12] [4,9,10,11] ZW (by kernel_rfl) ?_
 refine QP U U U JZ (Q3 U U U (Qm U Yd (by first | assumption | exact j3.cell 0 U U | exact j3.cell 1 U U)) ?_)
 refine QP U U U JZ (Q3 U U U (Qm U Yd (by first | assumption | exact j3.cell 0 U U | exact j3.cell 1 U U)) ?_)
 refine QP U U U K8 (Q3 U U U (Qm U QM (by first | assumption | exact j3.cell 0 U U | exact j3.cell 1 U U)) ?_)
 refine QP U U U K8 (Q3 U U U (Qm U QM (by first | assumption | exact j3.cell 0 U U | exact j3.cell 1 U U)) ?_)
 refine Xl U U U U U U ?_
 refine Q0 EA U (NV x.1 y.1 _) U ?_
 rintro _ _ ⟨rfl,rfl⟩
 refine XH (.cons (.inl ⟨rfl,(Qm U QM (by first | assumption | exact j3.cell 0 U U | exact j3.cell 1 U U))⟩) (.cons (.inl ⟨rfl,(Qm U QM (by first | assumption | exact j3.cell 0 U U | exact j3.cell 1 U U))⟩) (Xq (by kernel_rfl)))) ?_
 refine Xl U U U U U U ?_
 refine Q0 E9 U (Pu x.2 y.2 _) U ?_
 rintro _ _ ⟨rfl,rfl⟩
 refine XH (Xq (by kernel_rfl)) ?_
 refine Xl U U U U U U ?_
 refine Kc inC [Lib.compareBytes x.1 y.1,Lib.compareInt x.2 y.2] j3 U underlying22 Bl U U U U (by first | rfl | simp [RowC.cells,Wu,Xz]) U ?_
 intro cc w4 hG4 j4
 refine XH (Xq (by kernel_rfl)) ?_
 refine Xl U U U U U U ?_
 refine Q0 EB U (or_sp (j4.split [0] [true,false,false,false] U)) U ?_
 rintro _ _ ⟨rfl,rfl⟩
 refine XH (Xq (by kernel_rfl)) ?_
 exact Zo U U U (VC.nil (Qc (Qh [4] U (Qv (QR (.inr U) U U (⟨_,U,U,(hG1.trans hG2).trans (GrW.drew.trans hG4)⟩))))))
