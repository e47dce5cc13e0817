/- leaves: references held elsewhere, plain -/
import Derived.Test.YtkgjmhcdacidoaaGreatDoorLv10
import Derived.Test.YtkgjmhcdacidoaaGreatDoorLv2
import Derived.Test.YtkgjmhcdacidoaaGreatDoorShelf
import Derived.Test.YtkgjmhcdacidoaaGreatDoorLv1
set_option linter.unusedSectionVars false
set_option linter.unusedVariables false
set_option maxRecDepth 100000
set_option maxHeartbeats 80000000000
namespace Go.Proofs.YtkgjmhcdacidoaaGreatDoor
open Go.RowKit M Proofs.Tryz
variable [Inhabited SlW]
def Pgs (V V':VS):Prop:= ∀j,XT V' j→XT V j∧XY V' j=XY V j
theorem Cs {V:VS} {s j:Int} (h:XT (Zz V s) j):XT V j:= by
  rcases h with h | h
  · exact .inl h
  · exact .inr (BM h)
theorem Pgs.refl {V:VS}:Pgs V V:= fun _ h=>⟨h,rfl⟩
theorem Pgs.trans {V V1 V2:VS} (h:Pgs V V1) (h':Pgs V1 V2):Pgs V V2:= fun j q=>⟨(h j (h' j q).1).1,(h' j q).2.trans (h j (h' j q).1).2⟩
theorem Pgs.ref {V:VS} {s:Int}:Pgs V (refW V s):= fun j q=>⟨q.imp_right YG.1,Yr⟩
theorem Pgs.unr {V:VS} {s:Int} (h0:V 0=none):Pgs V (Zz V s):= fun j q=>⟨Cs q,GK h0 q⟩
section
variable {ex:Int→Int} {L L1 L':LvD} {V V1 V':VS} {id:Int} {t t1 t':TrD} {k:KD} {x y x1:LfD} {m Fr:Nat} {s a:Int}
theorem CG (hx:NN ex) (hs:s≠0→1≤ex s):NN (fun j=>ex j -dl s j):= fun j hj=> by
  show 0≤ex j -dl s j
  have :=hx j hj
  by_cases e:j=s
  · subst e; have :=hs hj; rw[Wp];omega
  · rw[WQ e];omega
theorem setX (hI:LvX ex m L V) (hx:NN ex) (hs:s≠0→1≤ex s) (hp:L'.pres=We L.pres k s) (hT:L'.tr=L.tr):
    LvX (fun j=>ex j -dl s j) m L' (Zz V (L.pres k))∧QE L' (Zz V (L.pres k))={QE L V with pres:=KE (QE L V).pres k (XY V s)}:= by
  have hf:=Dl hp hT
  have hh:Xm L (.inl k)=L.pres k:=rfl
  have a1:=(((hI.ref.put (.inl k) s).fn hf).unr (hI.aliveX hx (.inl k)))
  rw[hh]at a1
  have a2:RefI (Xm L') (Zz V (L.pres k)) (fun j=>ex j -dl s j):=a1.ext fun j hj=> by omega
  have nn:NN (fun j=>ex j -dl s j):=CG hx hs
  have hc: ∀p,XY (Zz V (L.pres k)) (Xm L' p)=XY V (Xm L' p):= fun p=>GK hI.zero (a2.aliveN U (nn _))
  have e1:QE L' (Zz V (L.pres k))={QE L V with pres:=KE (QE L V).pres k (XY V s)}:= by
    rw[D4 (V:=V) (V':=Zz V (L.pres k)) hp hT fun p hp=> by have :=hc p;rwa [hf,XL hp]at this]
    have :=hc (.inl k)
    rw[hf,XB]at this
    rw[this]
  exact⟨⟨a2, by rw[hT]; exact hI.rank, by rw[e1]; exact hI.agree⟩,e1⟩
theorem ownX (hI:LvX ex m L V) (hx:NN ex) (hs:s≠0→1≤ex s) (ht:L.tr id=some t) (hl:t.lv k=some x) (hp:L'.pres=L.pres) (hT:L'.tr=QK L.tr id (some {t with lv:=QK t.lv k (some y)})) (hb:y.base=x.base) (ho:y.own=s)
    (hg:Ez {Wk V x with own:=XY V s,rd:=y.rd,wr:=y.wr}):
    LvX (fun j=>ex j -dl s j) m L' (Zz V x.own)∧QE L' (Zz V x.own)=Wo (QE L V) id k {Wk V x with own:=XY V s,rd:=y.rd,wr:=y.wr}:= by
  have hf: ∀q,Xm L' q=KE (Xm L) (.inr (id,k,true)) s q:= fun q=> by
    rw[Hr (x:=y) hp hT ht U,hb,ho,Ue (f:=Xm L) (v:=x.base) (by rw[X6 ht hl];rfl)]
  have hh:Xm L (.inr (id,k,true))=x.own:= by rw[X6 ht hl];rfl
  have a1:=(((hI.ref.put (.inr (id,k,true)) s).fn hf).unr (hI.aliveX hx (.inr (id,k,true))))
  rw[hh]at a1
  have a2:RefI (Xm L') (Zz V x.own) (fun j=>ex j -dl s j):=a1.ext fun j hj=> by omega
  have nn:NN (fun j=>ex j -dl s j):=CG hx hs
  have hc: ∀p,XY (Zz V x.own) (Xm L' p)=XY V (Xm L' p):= fun p=>GK hI.zero (a2.aliveN U (nn _))
  have e1:QE L' (Zz V x.own)=Wo (QE L V) id k {Wk V x with own:=XY V s,rd:=y.rd,wr:=y.wr}:= by
    rw[YQ (V:=V) (V':=Zz V x.own) (x:=y) hp hT ht U fun p h1 h2=> by have :=hc p;rwa [hf,XL h2]at this]
    congr 1
    have h1:=hc (.inr (id,k,true))
    have h2:=hc (.inr (id,k,false))
    rw[hf,XB]at h1
    rw[hf,XL (by simp),X6 ht hl]at h2
    simp at h2
    simp [Wk,hb,ho,h1,h2]
  exact⟨⟨a2, by rw[hT]; exact hI.rank.same (Jw ht U), by rw[e1]; exact hI.agree.put hg⟩,e1⟩
theorem LvX.refW (hI:LvX ex m L V) (ha:XT V s):LvX (fun j=>ex j+dl s j) m L (refW V s)∧QE L (refW V s)=QE L V:= by
  have e:QE L (Go.Proofs.YtkgjmhcdacidoaaGreatDoor.refW V s)=QE L V:=HV fun p=>Yr
  exact⟨⟨hI.ref.ref ha,hI.rank, by rw[e]; exact hI.agree⟩,e⟩
theorem LvX.unr (hI:LvX ex m L V) (hx:NN ex) (hs:s≠0→1≤ex s):LvX (fun j=>ex j -dl s j) m L (Zz V s)∧QE L (Zz V s)=QE L V:= by
  have ha:XT V s:= by
    by_cases h0:s=0
    · exact .inl h0
    · obtain⟨n,a,b⟩:=hI.ref.1 s h0
      have :=hs h0
      exact .inr (hI.ref.alive_of (by omega))
  have nn:NN (fun j=>ex j -dl s j):=CG hx hs
  have a2:=hI.ref.unr ha
  have e:QE L (Zz V s)=QE L V:=HV fun p=>GK hI.zero (a2.aliveN U (nn _))
  exact⟨⟨a2,hI.rank, by rw[e]; exact hI.agree⟩,e⟩
theorem LvX.ext {ex':Int→Int} (hI:LvX ex m L V) (h: ∀j,j≠0→ex' j=ex j):LvX ex' m L V:=⟨hI.ref.ext h,hI.rank,hI.agree⟩
theorem LvX.same (hI:LvX ex m L V) (hp:L'.pres=L.pres) (hT:L'.tr=L.tr):LvX ex m L' V∧QE L' V=QE L V:= by
  have e:QE L' V=QE L V:= by unfold QE; rw[hp,hT]
  have hf:Xm L'=Xm L:= by funext p; cases p<;> simp [Xm,hp,hT]
  exact⟨⟨by rw[hf]; exact hI.ref, by rw[hT]; exact hI.rank, by rw[e]; exact hI.agree⟩,e⟩
end
structure StepX (ex:Int→Int) (m:Nat) (L:LvD) (V:VS) (ex':Int→Int) (m' d e:Nat) (L':LvD) (V':VS):Prop where
  inv:LvX ex' m' L' V'
  sp:L'.sp=L.sp
  al: ∀c,AliveLe V c→AliveLe V' (c+d)
  sz: ∀c,SzLe L c→SzLe L' (c+e)
  pg:Pgs V V'
theorem StepX.refl {ex:Int→Int} {m d e:Nat} {L:LvD} {V:VS} (h:LvX ex m L V):StepX ex m L V ex m d e L V:=⟨h,rfl, fun _ q=>q.mono (by omega), fun _ q=>q.mono (by omega),.refl⟩
theorem StepX.trans {ex ex1 ex2:Int→Int} {m m1 m2:Nat} {L L1 L2:LvD} {V V1 V2:VS} {d d1 e e1:Nat} (h:StepX ex m L V ex1 m1 d e L1 V1) (h':StepX ex1 m1 L1 V1 ex2 m2 d1 e1 L2 V2):StepX ex m L V ex2 m2 (d+d1) (e+e1) L2 V2:=
  ⟨h'.inv,h'.sp.trans h.sp, fun c q=>(h'.al _ (h.al c q)).mono (by omega), fun c q=>(h'.sz _ (h.sz c q)).mono (by omega),h.pg.trans h'.pg⟩
theorem StepX.up {ex ex1:Int→Int} {m m1:Nat} {L L1:LvD} {V V1:VS} {d d1 e e1:Nat} (h:StepX ex m L V ex1 m1 d e L1 V1) (h1:d≤d1) (h2:e≤e1):StepX ex m L V ex1 m1 d1 e1 L1 V1:=
  ⟨h.inv,h.sp, fun c q=>(h.al c q).mono (by omega), fun c q=>(h.sz c q).mono (by omega),h.pg⟩
theorem StepX.plain {m m1:Nat} {L L1:LvD} {V V1:VS} {d e:Nat} (h:StepX (fun _=>0) m L V (fun _=>0) m1 d e L1 V1):StepI m L V m1 d e L1 V1:=⟨h.inv,h.sp,h.al,h.sz⟩
def Ce (L:LvD) (j:Int) (q:KD):Prop:=(j=0∧L.pres q≠0)∨ ∃t x,L.tr j=some t∧t.lv q=some x
def OthK (L L':LvD) (p:Int) (P:KD→Prop):Prop:=(∀i,i≠p→L'.tr i=L.tr i)∧ ∀j q,Ce L' j q→Ce L j q∨(j=p∧P q)
theorem OthK.refl {L:LvD} {p:Int} {P:KD→Prop}:OthK L L p P:=⟨fun _ _=>rfl, fun _ _ h=> .inl h⟩
theorem OthK.trans {L L1 L2:LvD} {p:Int} {P Q R:KD→Prop} (h:OthK L L1 p P) (h':OthK L1 L2 p Q) (hP: ∀q,P q→R q) (hQ: ∀q,Q q→R q):OthK L L2 p R:=
  ⟨fun i hi=>(h'.1 i hi).trans (h.1 i hi), fun j q hk=> by
    rcases h'.2 j q hk with a | ⟨a,b⟩
    · rcases h.2 j q a with c | ⟨c,d⟩
      · exact .inl c
      · exact .inr ⟨c,hP q d⟩
    · exact .inr ⟨a,hQ q b⟩⟩
theorem SzLe.keys {L:LvD} {c:Nat} (h:SzLe L c): ∃l:List (Int×KD),l.length≤c∧ ∀j q,Ce L j q→(j,q)∈l:= by
  obtain⟨l,a,b,d⟩:=h
  refine⟨l,a, fun j q hk=> ?_⟩
  rcases hk with⟨rfl,e⟩ | ⟨t,x,e,f⟩
  · exact b q e
  · exact d j t q x e f
theorem SzLe.of_keys {L:LvD} {c:Nat} {l:List (Int×KD)} (h:l.length≤c) (hk: ∀j q,Ce L j q→(j,q)∈l):SzLe L c:=⟨l,h, fun k e=>hk 0 k (.inl ⟨rfl,e⟩), fun i t k x e f=>hk i k (.inr ⟨t,x,e,f⟩)⟩
theorem OthK.sz2 {L L':LvD} {p id:Int} {P:KD→Prop} {c:Nat} (h:OthK L L' p P) (hP: ∀q,P q→Ce L id q) (hc:SzLe L c):SzLe L' (2*c):= by
  obtain⟨l,a,b⟩:=hc.keys
  refine SzLe.of_keys (l:=l++l.map fun e=>(p,e.2)) (by simp;omega) fun j q hk=> ?_
  rcases h.2 j q hk with e | ⟨rfl,e⟩
  · exact List.mem_append_left _ (b j q e)
  · exact List.mem_append_right _ (List.mem_map.2 ⟨(id,q),b id q (hP q e),U⟩)
theorem OthK.szRem {L L1 L':LvD} {p id:Int} {P:KD→Prop} {c:Nat} (h:OthK L L1 p P) (hP: ∀q,P q→Ce L id q) (h0:id≠0) (hr:L'.pres=L1.pres) (ht:L'.tr=QK L1.tr id none) (hc:SzLe L c):SzLe L' c:= by
  obtain⟨l,a,b⟩:=hc.keys
  refine SzLe.of_keys (l:=l.map fun e=> if e.1=id then(p,e.2)else e) (by simpa using a) fun j q hk=> ?_
  have hj:j≠id∧Ce L1 j q:= by
    rcases hk with⟨rfl,e⟩ | ⟨t,x,e,f⟩
    · exact⟨fun a=>h0 a.symm,.inl ⟨rfl, by rwa [hr]at e⟩⟩
    · rw[ht]at e
      by_cases g:j=id
      · subst g; rw[Qr]at e; cases e
      · rw[Qw g]at e; exact⟨g,.inr ⟨t,x,e,f⟩⟩
  rcases h.2 j q hj.2 with e | ⟨rfl,e⟩
  · exact List.mem_map.2 ⟨(j,q),b j q e, by rw[if_neg hj.1]⟩
  · exact List.mem_map.2 ⟨(id,q),b id q (hP q e), by rw[if_pos U]⟩
theorem TouR.oth {L L1:LvD} {V V1:VS} {id i:Int} {t t1:TrD} {k:KD} {x1:LfD} (hT:TouR L V id t k L1 V1 t1 x1) (hi:i≠id):L1.tr i=L.tr i:= by
  rcases hT with⟨_,rfl,_,_⟩ | ⟨_,a,_,_,rfl,_⟩
  · rfl
  · exact Qw hi
theorem TouR.othK {L L1 L':LvD} {V V1:VS} {id:Int} {t t1:TrD} {k:KD} {x1 y:LfD} (hT:TouR L V id t k L1 V1 t1 x1) (ht:L.tr id=some t) (hp:L'.pres=L1.pres) (hT':L'.tr=QK L1.tr id (some {t1 with lv:=QK t1.lv k (some y)})):OthK L L' id (fun q=>q=k):= by
  refine⟨fun i hi=> by rw[hT',Qw hi,hT.oth hi], fun j q hk=> ?_⟩
  have hpr:L1.pres=L.pres:= by
    rcases hT with⟨_,rfl,_,_⟩ | ⟨_,a,_,_,rfl,_⟩
    · rfl
    · rfl
  have hlv: ∀q,q≠k→t1.lv q=t.lv q:= fun q hq=> by
    rcases hT with⟨_,_,_,rfl⟩ | ⟨_,a,_,rfl,_,_⟩
    · rfl
    · exact Qw hq
  by_cases e:j=id
  · subst e
    by_cases e2:q=k
    · exact .inr ⟨U,e2⟩
    · left
      rcases hk with⟨e3,e4⟩ | ⟨u,x,e3,e4⟩
      · exact .inl ⟨e3, by rwa [hp,hpr]at e4⟩
      · rw[hT',Qr]at e3
        cases e3
        dsimp only at e4
        rw[Qw e2,hlv q e2]at e4
        exact .inr ⟨t,x,ht,e4⟩
  · left
    rcases hk with⟨e3,e4⟩ | ⟨u,x,e3,e4⟩
    · exact .inl ⟨e3, by rwa [hp,hpr]at e4⟩
    · rw[hT',Qw e,hT.oth e]at e3
      exact .inr ⟨u,x,e3,e4⟩
theorem Fm {L:LvD} {k:KD} {s:Int} {f:Int→Bool}:OthK L {L with pres:=We L.pres k s,sh:=f} 0 (fun q=>q=k):= by
  refine⟨fun _ _=>rfl, fun j q hk=> ?_⟩
  rcases hk with⟨e,h⟩ | h
  · by_cases e2:q=k
    · exact .inr ⟨e,e2⟩
    · simp only[We,if_neg e2]at h
      exact .inl (.inl ⟨e,h⟩)
  · exact .inl (.inr h)
theorem CQ {L L':LvD} {p:Int} {P:KD→Prop} (hp: ∀q,L'.pres q≠0→L.pres q≠0) (hT:L'.tr=L.tr):OthK L L' p P:=
  ⟨fun i _=> by rw[hT], fun j q hk=> .inl (hk.imp (fun a=>⟨a.1,hp q a.2⟩) (fun ⟨t,x,a,b⟩=>⟨t,x, by rwa [hT]at a,b⟩))⟩
theorem CP {L L':LvD} {id:Int} {t t':TrD} {P:KD→Prop} (ht:L.tr id=some t) (hp:L'.pres=L.pres) (hT:L'.tr=QK L.tr id (some t')) (hg: ∀k x,t'.lv k=some x→t.lv k≠none):OthK L L' id P:= by
  refine⟨fun i hi=> by rw[hT,Qw hi], fun j q hk=> .inl ?_⟩
  rcases hk with⟨e,h⟩ | ⟨u,x,e,h⟩
  · exact .inl ⟨e, by rwa [hp]at h⟩
  · rw[hT]at e
    by_cases e2:j=id
    · subst e2
      rw[Qr]at e
      cases e
      cases q2:t.lv q with
      | none=> exact absurd q2 (hg q x h)
      | some y=> exact .inr ⟨t,y,ht,q2⟩
    · rw[Qw e2]at e; exact .inr ⟨u,x,e,h⟩
section
variable {ex:Int→Int} {L L1 L':LvD} {V V1 V':VS} {id:Int} {t t1 t':TrD} {k:KD} {x y x1:LfD} {m Fr:Nat} {s a:Int}
theorem TouR.pg (hT:TouR L V id t k L1 V1 t1 x1) (j:Int):XY V1 j=XY V j:= by
  rcases hT with⟨_,_,rfl,_⟩ | ⟨_,a,_,_,_,rfl⟩
  · rfl
  · rw[Yr,Yr]
theorem TouR.pgs (hT:TouR L V id t k L1 V1 t1 x1):Pgs V V1:= by
  rcases hT with⟨_,_,rfl,_⟩ | ⟨_,a,_,_,_,rfl⟩
  · exact .refl
  · exact Pgs.ref.trans .ref
theorem KW (hI:LvX ex m L V) (hx:NN ex) (hs:s≠0→1≤ex s) (f:Int→Bool):
    StepX ex m L V (fun j=>ex j -dl s j) m 0 1 {L with pres:=We L.pres k s,sh:=f} (Zz V (L.pres k))∧QE {L with pres:=We L.pres k s,sh:=f} (Zz V (L.pres k))={QE L V with pres:=KE (QE L V).pres k (XY V s)}:= by
  obtain⟨h1,h2⟩:=setX (L':={L with pres:=We L.pres k s,sh:=f}) hI hx hs rfl rfl
  refine⟨⟨h1,rfl, fun c q=>q.unr.mono (by omega), fun c q=>q.add 0 k (fun j hj=> ?_) fun j u q y hj hq=> .inl ⟨u,y,hj,hq⟩,Pgs.unr hI.zero⟩,h2⟩
  by_cases e:j=k
  · right; rw[e]
  · simp only[We,if_neg e]at hj; exact .inl hj
theorem Dn (hT:TouR L V id t k L1 V1 t1 x1) (ht:L.tr id=some t) (hI:LvX ex m L V) (hx:NN ex) (hs:s≠0→1≤ex s) {wr:BitVec 64} (f:Int→Bool)
    (hg:Ez {ZH (QE L V) id k with own:=XY V s,wr:=(ZH (QE L V) id k).wr ||| wr}):
    StepX ex m L V (fun j=>ex j -dl s j) m 0 1 (ZX {L1 with sh:=f} id t1 k {x1 with own:=s,wr:=x1.wr ||| wr}) (Zz V1 x1.own)∧
    QE (ZX {L1 with sh:=f} id t1 k {x1 with own:=s,wr:=x1.wr ||| wr}) (Zz V1 x1.own)=Wo (QE L V) id k {ZH (QE L V) id k with own:=XY V s,wr:=(ZH (QE L V) id k).wr ||| wr}:= by
  obtain⟨h1,h2,h3,h4,h5⟩:=hT.invX ht hI hx
  obtain⟨h6,h7⟩:=h1.same (L':={L1 with sh:=f}) rfl rfl
  have e:{Wk V1 x1 with own:=XY V1 s,rd:=x1.rd,wr:=x1.wr ||| wr}={ZH (QE L V) id k with own:=XY V s,wr:=(ZH (QE L V) id k).wr ||| wr}:= by
    rw[hT.pg,←h2];rfl
  obtain⟨h8,h9⟩:=ownX (L':=ZX {L1 with sh:=f} id t1 k {x1 with own:=s,wr:=x1.wr ||| wr}) (y:={x1 with own:=s,wr:=x1.wr ||| wr}) h6 hx hs (hT.tr ht) hT.lv rfl rfl rfl rfl (by rw[e]; exact hg)
  refine⟨⟨h8,hT.sp, fun c q=>(h4 c q).unr.mono (by omega), fun c q=>(hT.sz ht q).putOld (hT.tr ht) hT.lv U U,hT.pgs.trans (Pgs.unr h1.zero)⟩, ?_⟩
  rw[h9,h7,h3,Ra,e]
def Nl (x:LfA) (c:Bs):LfA:={x with own:=c,wr:=BitVec.allOnes 64}
theorem allX_ag {x:LfA} {c:Bs}:Ez (Nl x c):= fun j hj h=> by
  rw[show(Nl x c).wr=BitVec.allOnes 64 from rfl,BitVec.getLsbD_allOnes]at h
  simp [hj]at h
theorem Sd (hI:LvX ex m L V) (hx:NN ex) (ha:XT V s) (ht:L.tr id=some t) (hl:t.lv k=some x) (f:Int→Bool):
    StepX ex m L V ex m 0 0 (ZX {L with sh:=f} id t k {x with own:=s,wr:=BitVec.allOnes 64}) (Zz (refW V s) x.own)∧
    QE (ZX {L with sh:=f} id t k {x with own:=s,wr:=BitVec.allOnes 64}) (Zz (refW V s) x.own)=Wo (QE L V) id k (Nl (Wk V x) (XY V s)):= by
  obtain⟨h1,h2⟩:=hI.refW ha
  obtain⟨h6,h7⟩:=h1.same (L':={L with sh:=f}) rfl rfl
  have nn:NN (fun j=>ex j+dl s j):= fun j hj=> by
    show 0≤ex j+dl s j
    have :=hx j hj
    by_cases e:j=s
    · subst e; rw[Wp];omega
    · rw[WQ e];omega
  have e:({Wk (refW V s) x with own:=XY (refW V s) s,rd:=x.rd,wr:=BitVec.allOnes 64}:LfA)=Nl (Wk V x) (XY V s):= by
    simp only[Wk,Yr];rfl
  obtain⟨h8,h9⟩:=ownX (L':=ZX {L with sh:=f} id t k {x with own:=s,wr:=BitVec.allOnes 64}) (y:={x with own:=s,wr:=BitVec.allOnes 64}) h6 nn (fun h0=> by show 1≤ex s+dl s s; rw[Wp]; have :=hx s h0;omega) ht hl rfl rfl rfl rfl (by rw[e]; exact allX_ag)
  refine⟨⟨h8.ext fun j _=>(by show ex j=ex j+dl s j -dl s j;omega),rfl, fun c q=>q.refW.unr.mono (by omega), fun c q=>q.putOld ht hl U U,Pgs.ref.trans (Pgs.unr h1.zero)⟩, ?_⟩
  rw[h9,h7,h2,e]
end
theorem Ny {w:World} {b n Fr:Nat} {L:LvD} {V:VS} {F:Th} (hS:Sat w [Je b L,ZR L.sp n Fr V,F]) (hn:n≤65000000000) (k:KD) (s:Int):Calls prog 101 #[ptrV b 0,Xr k,intV s] w (Ret fun v w'=>v= .tuple #[]∧Sat w' [Je b {L with pres:=We L.pres k s,sh:=YD V L.sh (L.pres k)},ZR L.sp (n+1) Fr (Zz V (L.pres k)),F]):= by
  have h1:=Zi hS
  refine(set_p (h1.split [0,1,4,5] [true,true,false,false,true,true,false] U) (by omega) k s).mono fun e w h=>h.mono fun v w h=> ?_
  obtain⟨rfl,h⟩:=h
  have h2:=h.join U
  exact⟨U,Xw (L:={L with pres:=We L.pres k s,sh:=YD V L.sh (L.pres k)}) (h2.reorder [0,1,4,5,2,3,6] U)⟩
theorem Lh {w:World} {ex:Int→Int} {m:Nat} {b n Fr:Nat} {L:LvD} {V:VS} {F:Th} (hS:Sat w [Je b L,ZR L.sp n Fr V,F]) (hn:n≤60000000000) (hI:LvX ex m L V) (hx:NN ex) {s:Int} (hs:s≠0→1≤ex s) (k:KD) (wr:BitVec 64):
    Calls prog 64 #[ptrV b 0,intV 0,Xr k,intV s,Zh wr] w (Ret fun v w'=> ∃L' V',StepX ex m L V (fun j=>ex j -dl s j) m 0 1 L' V'∧QE L' V'={QE L V with pres:=KE (QE L V).pres k (XY V s)}∧OthK L L' 0 (fun q=>q=k)∧Sat w' [Je b L',ZR L'.sp (n+4) Fr V',F]):= by
 refine Qm func64 U ntmps64 U ?_
 refine Qe (Qa (XV hS U U U ?_))
 intro kb w1 j1
 replace j1:=Zw j1
 refine Qf (Qc (Qe (Qe (Qa (Qb U U (Xl U U U (Qf (Qc (Qu U (fun h2=> ?_) (fun h2=> ?_))))))))))
 ·refine Qe (Qa (Qb U U ?_))
  refine Wq U Xt QZ (by first | exact j1.blk 0 U) (by first | decide | exact Q5 U | (simp;done) | omega) U U ?_
  refine Qb U U (Qy Pn U (Ny (j1.sp [1,2] U) (by omega) k s) U ?_)
  rintro _ w3 ⟨rfl,j3⟩
  replace j3:=j3.jn U U
  exact Qf (Qc (Qh [4,3,1,0,7] U (Qv (Qq (ZT (.inr U) U (⟨_,rfl,_,_,(KW hI hx hs (YD V L.sh (L.pres k))).1,(KW hI hx hs (YD V L.sh (L.pres k))).2,Fm,(XC (m:=n+4) (by omega) (j3.pick [1,0,3] U)).reorder [1,0,2] U⟩))))))
 exact absurd U h2
theorem Lg {w:World} {ex:Int→Int} {m:Nat} {b n Fr:Nat} {L:LvD} {V:VS} {F:Th} (hS:Sat w [Je b L,ZR L.sp n Fr V,F]) (hn:n≤60000000000) (hI:LvX ex m L V) (hx:NN ex) (hm:m<Wx) {id:Int} {t:TrD} (ht:L.tr id=some t) {s:Int} (hs:s≠0→1≤ex s) (k:KD) (wr:BitVec 64) (hg:Ez {ZH (QE L V) id k with own:=XY V s,wr:=(ZH (QE L V) id k).wr ||| wr}):
    Calls prog 64 #[ptrV b 0,intV id,Xr k,intV s,Zh wr] w (Ret fun v w'=> ∃L' V',StepX ex m L V (fun j=>ex j -dl s j) m 0 1 L' V'∧QE L' V'=Wo (QE L V) id k {ZH (QE L V) id k with own:=XY V s,wr:=(ZH (QE L V) id k).wr ||| wr}∧OthK L L' id (fun q=>q=k)∧Sat w' [Je b L',ZR L'.sp (n+4) Fr V',F]):= by
 have h0:id≠0:=hI.rank.none0 ht
 refine Qm func64 U ntmps64 U ?_
 refine Qe (Qa (XV hS U U U ?_))
 intro kb w1 j1
 replace j1:=Zw j1
 refine Qf (Qc (Qe (Qe (Qa (Qb U U (Xl U U U (Qf (Qc (Qu U (fun h2=> ?_) (fun h2=> ?_))))))))))
 ·exact absurd h2 h0
 refine Qt (Qc (Qe (Qa (Qb U U (Qb U U ?_)))))
 refine Wq U Xt QZ (by first | exact j1.blk 0 U) (by first | decide | exact Q5 U | (simp;done) | omega) U U ?_
 refine Qy Ng U (G0 (j1.sp [1,2] U) (by omega) (hI.rank.ends hm) ht (k:=k)) U ?_
 rintro _ w3 ⟨L1,V1,t1,x1,rfl,hT,j3⟩
 replace j3:=j3.jn U U
 have ht1:=hT.tr ht
 have hx1:=hT.lv
 refine Qd U U (Qf (Qc (Qh [4,3,0,10] U (Qe ?_))))
 have j4:=YX ht1 hx1 (j3.pick [0,1,2,3] U)
 refine Qa (Qb U U (Qb U U (Qi U U (Qg U Wu U (Qn U QO (by first | assumption | exact j4.cell 0 U U | exact j4.cell 2 U U | exact j4.cell 6 U U | exact j4.cell 11 U U) U ?_)))))
 refine Qy HS U (HF (j4.sp [6,9,10] U) (by omega) x1.own) U ?_
 rintro _ w5 ⟨rfl,j5⟩
 replace j5:=j5.jn U U
 refine Qf (Qc (Qe (Qa (Qb U U (Qb U U (Qi U U (Qg U Wu U ?_)))))))
 refine Qx j5 U U WI U (i:=3) U (by first | decide | exact Q5 U | (simp;done)) ?_
 intro w6 j6; dsimp only[List.set]at j6
 refine Qf (Qc (Qh [4,10] U (Qa (Qb U U (Qi U U (Qg U Wg U (Qn U Jx (by first | assumption | exact j6.cell 0 U U | exact j6.cell 3 U U | exact j6.cell 5 U U | exact j6.cell 11 U U) U ?_)))))))
 refine Qb U U (wl_or64 U U U (Qi U U (Qg U Wg U ?_)))
 refine Qx j6 U U G6 U (i:=3) U (by first | decide | exact Q5 U | (simp;done)) ?_
 intro w7 j7; dsimp only[List.set]at j7
 refine Qf (ZT (.inl U) U ?_)
 have j8:=Jq (L:={L1 with sh:=YD V1 L1.sh x1.own}) (y:={x1 with own:=s,wr:=x1.wr ||| wr}) ht1 hx1 U (j7.pick [3,4,5,6,7,8,0,9,10,1,2,11,12] U)
 exact⟨_,rfl,_,_,(Dn hT ht hI hx hs (YD V1 L1.sh x1.own) hg).1,(Dn hT ht hI hx hs (YD V1 L1.sh x1.own) hg).2,hT.othK ht U U,(XC (m:=n+4) (by omega) (j8.pick [1,0,3] U)).reorder [1,0,2] U⟩
theorem kl_it {w:World} {l c b:Nat} {g:KD→Option Value} {J:List KD→Th} {F:Th} (hS:Sat w [J [],QC c [.map (some b)],Q4 Xr b g,F]) (hY:HW prog l Xr (okC g) J):
    Calls prog 129 #[.func (.yield l) #[] #[],ptrV c 0] w (Ret fun v w'=> ∃ks,AllC g ks∧Sat w' [J ks,QC c [.map (some b)],Q4 Xr b g,F]):= by
 refine Qm func129 U ntmps129 U ?_
 refine Qe (Qa (Qn U W6 (by first | assumption | exact hS.cell 1 U U) U ?_))
 refine JU 2 hS underlying110 U U U ?_
 intro RR left0 wR hSR; dsimp only[List.set]at hSR
 refine Qf (Qc (Qz (Xh (fun K0 E0 W0=> ∃(dn:KD→Prop) (cur:Option KD) (left:Nat) (ks:List KD),K0=1*left∧E0=[(0,.func (.yield l) #[] #[]),(5,ptrV RR 0)]∧Sat W0 [J ks,J7 Xr b RR g dn cur left,QC c [.map (some b)],F]∧(CSt g dn ks)) (L0:=[(0,_),(5,_)]) (1*left0) (D5 U U) ⟨_,_,_,_,rfl,rfl,hSR.reorder [0,2,1,3] U,CSt.start g⟩ ?_)))
 rintro _ _ w1 ⟨dn,cur,left,ks,rfl,rfl,j1,hcs⟩
 refine Qe (Qa (YS 1 j1 keysKey.inj U U U (fun hdone=> ?_) (fun k v left2 w2 hleft hgk hnd j2=> ?_)))
 ·refine Qp U U U (Qf (Qc (Qe (QW U (Xc (Qs (Qs (Q3 (ZT (.inl U) U ?_)))))))))
  exact⟨_,rfl,ks,hcs.all hdone, by have hSz:=WX (j1.reorder [1,0,2,3] U); exact hSz.reorder [1,2,0,3] U⟩
 dsimp only[List.set]at j2
 refine Qp U U U (Qf (Qc (Qe (X3 U (Qt (Qc (Qz (Qe (Qa (YA 1 j2 U hgk U U (Qp U U U (Xb j2 WA U U ?_))))))))))))
 intro bk wq1 hq1
 refine QF hq1 U U QZ U (by first | rfl | (simp [QU,Value.oneCell'];done)) (i:=0) U (by first | decide | exact Q5 U) ?_
 intro wq2 hq2; dsimp only[List.set]at hq2
 replace hq2:=Zw (k:=k) hq2
 refine Qf (Qc (Qe (Js (X1 U (XH U) (X1 U (Xp U Xt QZ (hq2.blk 0 U) (by first | decide | exact Q5 U) U) ?_)))))
 have hSy:=hq2.sp [1] U
 refine U5 U U U (hY _ _ _ _ (hcs.ok hnd hgk) hSy) ?_
 intro w5 j5; replace j5:=j5.jn U U
 refine X1 U (HQ U) (HA (Qc (Qh [5,0,13] U (QW U (Qt (Qo ?_))))))
 have hSz:=j5.pick [0,2,3,4] U; dsimp only[Ho,Vu]at hSz
 exact Q8 (L1:=[(0,_),(5,_)]) (D5 U U) (k1:=1*left2) (by omega) ⟨_,_,_,_,rfl,rfl,hSz,hcs.step hnd hgk⟩
theorem kl_sp {w:World} {v0:Value} {F:Th} (hS:Sat w [F]) (h0:v0.oneCell'=true):
    Calls prog 90 #[v0] w (Ret fun v w'=> ∃c,v= .func (.func 129) #[] #[ptrV c 0]∧Sat w' [QC c v0.cells.toList,F]):= by
 refine Qm func90 U ntmps90 U ?_
 refine Qe (Qa (XV hS U U U ?_))
 intro b1 w1 j1
 exact Qd U U (Qf (Qc (Qe (Qa (ZA U U (Qd U U (Qf (Qc (Qv (QM (.inr U) U U (⟨_,U,_,U,j1⟩)))))))))))
theorem kp_it {w:World} {l c b:Nat} {g:KD→Option Value} {J:List KD→Th} {F:Th} (hS:Sat w [J [],QC c [.map (some b)],Q4 Xr b g,F]) (hY:HW prog l Xr (okC g) J):
    Calls prog 165 #[.func (.yield l) #[] #[],ptrV c 0] w (Ret fun v w'=> ∃ks,AllC g ks∧Sat w' [J ks,QC c [.map (some b)],Q4 Xr b g,F]):= by
 refine Qm func165 U ntmps165 U ?_
 refine Qe (Qa (Qn U VE (by first | assumption | exact hS.cell 1 U U) U ?_))
 refine JU 2 hS underlying105 U U U ?_
 intro RR left0 wR hSR; dsimp only[List.set]at hSR
 refine Qf (Qc (Qz (Xh (fun K0 E0 W0=> ∃(dn:KD→Prop) (cur:Option KD) (left:Nat) (ks:List KD),K0=1*left∧E0=[(0,.func (.yield l) #[] #[]),(5,ptrV RR 0)]∧Sat W0 [J ks,J7 Xr b RR g dn cur left,QC c [.map (some b)],F]∧(CSt g dn ks)) (L0:=[(0,_),(5,_)]) (1*left0) (D5 U U) ⟨_,_,_,_,rfl,rfl,hSR.reorder [0,2,1,3] U,CSt.start g⟩ ?_)))
 rintro _ _ w1 ⟨dn,cur,left,ks,rfl,rfl,j1,hcs⟩
 refine Qe (Qa (YS 1 j1 keysKey.inj U U U (fun hdone=> ?_) (fun k v left2 w2 hleft hgk hnd j2=> ?_)))
 ·refine Qp U U U (Qf (Qc (Qe (QW U (Xc (Qs (Qs (Q3 (ZT (.inl U) U ?_)))))))))
  exact⟨_,rfl,ks,hcs.all hdone, by have hSz:=WX (j1.reorder [1,0,2,3] U); exact hSz.reorder [1,2,0,3] U⟩
 dsimp only[List.set]at j2
 refine Qp U U U (Qf (Qc (Qe (X3 U (Qt (Qc (Qz (Qe (Qa (YA 1 j2 U hgk U U (Qp U U U (Xb j2 WA U U ?_))))))))))))
 intro bk wq1 hq1
 refine QF hq1 U U QZ U (by first | rfl | (simp [QU,Value.oneCell'];done)) (i:=0) U (by first | decide | exact Q5 U) ?_
 intro wq2 hq2; dsimp only[List.set]at hq2
 replace hq2:=Zw (k:=k) hq2
 refine Qf (Qc (Qe (Js (X1 U (XH U) (X1 U (Xp U Xt QZ (hq2.blk 0 U) (by first | decide | exact Q5 U) U) ?_)))))
 have hSy:=hq2.sp [1] U
 refine U5 U U U (hY _ _ _ _ (hcs.ok hnd hgk) hSy) ?_
 intro w5 j5; replace j5:=j5.jn U U
 refine X1 U (HQ U) (HA (Qc (Qh [5,0,13] U (QW U (Qt (Qo ?_))))))
 have hSz:=j5.pick [0,2,3,4] U; dsimp only[Ho,Vu]at hSz
 exact Q8 (L1:=[(0,_),(5,_)]) (D5 U U) (k1:=1*left2) (by omega) ⟨_,_,_,_,rfl,rfl,hSz,hcs.step hnd hgk⟩
theorem kp_sp {w:World} {v0:Value} {F:Th} (hS:Sat w [F]) (h0:v0.oneCell'=true):
    Calls prog 132 #[v0] w (Ret fun v w'=> ∃c,v= .func (.func 165) #[] #[ptrV c 0]∧Sat w' [QC c v0.cells.toList,F]):= by
 refine Qm func132 U ntmps132 U ?_
 refine Qe (Qa (XV hS U U U ?_))
 intro b1 w1 j1
 exact Qd U U (Qf (Qc (Qe (Qa (ZA U U (Qd U U (Qf (Qc (Qv (QM (.inr U) U U (⟨_,U,_,U,j1⟩)))))))))))
theorem kd_it {w:World} {l c b:Nat} {g:Bs→Option Value} {J:List Bs→Th} {F:Th} (hS:Sat w [J [],QC c [.map (some b)],Q4 Zd b g,F]) (hY:HW prog l Zd (okC g) J):
    Calls prog 100 #[.func (.yield l) #[] #[],ptrV c 0] w (Ret fun v w'=> ∃ks,AllC g ks∧Sat w' [J ks,QC c [.map (some b)],Q4 Zd b g,F]):= by
 refine Qm func100 U ntmps100 U ?_
 refine Qe (Qa (Qn U Rq (by first | assumption | exact hS.cell 1 U U) U ?_))
 refine JU 2 hS underlying111 U U U ?_
 intro RR left0 wR hSR; dsimp only[List.set]at hSR
 refine Qf (Qc (Qz (Xh (fun K0 E0 W0=> ∃(dn:Bs→Prop) (cur:Option Bs) (left:Nat) (ks:List Bs),K0=1*left∧E0=[(0,.func (.yield l) #[] #[]),(5,ptrV RR 0)]∧Sat W0 [J ks,J7 Zd b RR g dn cur left,QC c [.map (some b)],F]∧(CSt g dn ks)) (L0:=[(0,_),(5,_)]) (1*left0) (D5 U U) ⟨_,_,_,_,rfl,rfl,hSR.reorder [0,2,1,3] U,CSt.start g⟩ ?_)))
 rintro _ _ w1 ⟨dn,cur,left,ks,rfl,rfl,j1,hcs⟩
 refine Qe (Qa (YS 1 j1 keysStr.inj U U U (fun hdone=> ?_) (fun k v left2 w2 hleft hgk hnd j2=> ?_)))
 ·refine Qp U U U (Qf (Qc (Qe (QW U (Xc (Qs (Qs (Q3 (ZT (.inl U) U ?_)))))))))
  exact⟨_,rfl,ks,hcs.all hdone, by have hSz:=WX (j1.reorder [1,0,2,3] U); exact hSz.reorder [1,2,0,3] U⟩
 dsimp only[List.set]at j2
 refine Qp U U U (Qf (Qc (Qe (X3 U (Qt (Qc (Qz (Qe (Qa (YA 1 j2 U hgk U U (Qp U U U (Qd U U (Qf (Qc (Qe (Js (X1 U (XH U) (X1 U (XH U) (U5 U U U (hY _ _ _ _ (hcs.ok hnd hgk) (j2.sp [0] U)) ?_)))))))))))))))))))
 intro w5 j5; replace j5:=j5.jn U U
 refine X1 U (HQ U) (HA (Qc (Qh [5,0,13] U (QW U (Qt (Qo ?_))))))
 have hSz:=j5.reorder [0,1,2,3] U; dsimp only[Ho,Vu]at hSz
 exact Q8 (L1:=[(0,_),(5,_)]) (D5 U U) (k1:=1*left2) (by omega) ⟨_,_,_,_,rfl,rfl,hSz,hcs.step hnd hgk⟩
theorem kd_sp {w:World} {v0:Value} {F:Th} (hS:Sat w [F]) (h0:v0.oneCell'=true):
    Calls prog 61 #[v0] w (Ret fun v w'=> ∃c,v= .func (.func 100) #[] #[ptrV c 0]∧Sat w' [QC c v0.cells.toList,F]):= by
 refine Qm func61 U ntmps61 U ?_
 refine Qe (Qa (XV hS U U U ?_))
 intro b1 w1 j1
 exact Qd U U (Qf (Qc (Qe (Qa (ZA U U (Qd U U (Qf (Qc (Qv (QM (.inr U) U U (⟨_,U,_,U,j1⟩)))))))))))
def ItK (g:KD→Option Value) (gf:Nat) (caps:List Value) (It:Th):Prop:= ∀(l:Nat) (J:List KD→Th) (X:Th) (w:World),Sat w [J [],It,X]→HW prog l Xr (okC g) J→Calls prog gf (.func (.yield l) #[] #[]::caps).toArray w (Ret fun _ w'=> ∃ks,AllC g ks∧Sat w' [J ks,It,X])
def JK (l D b:Nat) (rec:Loop) (ks:List KD):Th:=Ch fun v:Value=>starL [WF l rec,ZU D,QC b [v],rowT kC v ks]
theorem appK {w:World} {g:KD→Option Value} {It F:Th} {gf:Nat} {caps:List Value} (hS:Sat w [It,F]) (hcal:Q7 prog gf=true) (hIt:ItK g gf caps It) (hlen: ∀ks,Came g ks→ks.length≤100000000000):
    Calls prog 162 [.slice none 0 0,.func (.func gf) #[] caps.toArray].toArray w (Ret fun v w'=> ∃ks,AllC g ks∧Sat w' [rowT kC v ks,It,F]):= by
 refine Yv func162 U ntmps162 U ?_
 refine Qe (Qa (XV hS U U U ?_))
 intro b1 w1 j1
 refine Qd U U (Qf (Qc (Qe (Qe (Qa (Qb U U (Qf (Qc (Qz (Yn (caps:=caps) U hcal ?_))))))))))
 intro rec hr1 hr2 hr3 hr4 hr5 htn htf
 have hE:=((j1.enter_loop rec).row_nil kC)
 have hE2:=hE.sp [1,2,3,0] U
 have hJ0:=Sat.ex_intro (f:= fun v:Value=>starL [WF _ _,ZU _,QC _ [v],rowT kC v []]) _ (Sat.fold (As:=[WF _ _,ZU _,QC _ [_],rowT kC _ []]) hE2)
 refine(hIt _ (JK _ _ _ _) _ _ (hJ0.join U) ?_).mono ?_
 ·intro ks k R w2 hok hw2
  obtain⟨v,hw3⟩:=hw2.ex
  have hw4:=hw3.flat; dsimp only[M8,M7]at hw4
  have hl1:=hlen _ hok
  simp only[List.length_append,List.length_cons,List.length_nil]at hl1
  refine Gq (hw4.loop 0 rfl) hr1 hr2 hr3 hr4 hr5 htn htf rfl (by intro o ho c; simp at ho; rcases ho with rfl | rfl<;> simp) (by intro o ho c; simp at ho; rcases ho with rfl | rfl | rfl | rfl | rfl<;> simp) ?_
  intro QA hA
  refine Xb hw4 WA U U ?_
  intro bk wk1 hq1
  refine QF hq1 U U QZ U (by first | rfl | (simp [QU,Value.oneCell'];done)) (i:=0) U (by first | decide | exact Q5 U) ?_
  intro wk2 hq2; dsimp only[List.set]at hq2
  replace hq2:=Zw (k:=k) hq2
  refine Qf (hA _ _ (hq2.loop 1 U) ?_)
  intro QB hB
  have h1v:v.oneCell'=true:=hq2.own_one 4 U
  have hw5:=hq2.loop_put 1 U (rec':={rec with state:= .busy}); dsimp only[List.set]at hw5
  refine Qn U Ep (hw5.cell 3 U U) U ?_
  refine Wq U Xt QZ (hw5.blk 0 U) (by first | decide | exact Q5 U | (simp;done)) U U ?_
  refine ZN kC [k] hw5 U underlying123 ifz_115 U U U U (by first | rfl | simp [RowC.cells,Wm,Xo]) U ?_
  intro b3 w3 hw6
  refine WV kC 5 hw6 U U U (hw6.rd 0 U (by simp)) underlying123 underlying123 (by intro k hk; cases hk) ifo_115 U (by simp;omega) U (by simp;omega) ?_
  intro v4 w4 hw7; dsimp only[List.set]at hw7
  have h1v4:v4.oneCell'=true:=hw7.own_one 5 U
  refine Qx hw7 U U sz_123 h1v4 (i:=4) U (by simp) ?_
  intro w5 hw8; dsimp only[List.set]at hw8
  refine Qf (hB _ _ (hw8.loop 2 U) ?_)
  have hw9:=hw8.loop_put 2 U (rec':=rec); dsimp only[List.set]at hw9
  exact(Sat.ex_intro (f:= fun v:Value=>starL [WF _ _,ZU _,QC _ [v],rowT kC v (ks++[k])]) v4 (Sat.fold (As:=[WF _ _,ZU _,QC _ [_],rowT kC _ _]) (hw9.pick [2,3,4,5,6] U)))
 ·rintro e w3 ⟨v0,rfl,ks,hall,hw3⟩
  obtain⟨v,hw4⟩:=hw3.ex
  have hw5:=hw4.flat; dsimp only[M8,M7]at hw5
  refine⟨⟨v0,rfl⟩,rec,hw5.loop 0 U, by rw[hr1]; simp,hr2, ?_⟩
  intro a ha1 ha2
  have hw6:=hw5.loop_put 0 U (rec':={rec with state:= .exhausted}); dsimp only[List.set]at hw6
  obtain⟨hD,hw7⟩:=hw6.defer_put (o:= .deferred none) 1 rfl
  dsimp only[List.eraseIdx]at hw7
  refine G5 (n:=13) (by rw[ha1]; exact htn) (by rw[ha1]; exact htf) ha2 U Ep (hw6.cell 2 U U) hD U U U ?_
  exact⟨_,U,ks,hall,hw7.pick [2,3,4] U⟩
def keysTkl (c b:Nat) (g:KD→Option Value):Th:=starL [QC c [.map (some b)],Q4 Xr b g]
theorem itkl (c b:Nat) (g:KD→Option Value):ItK g 129 [ptrV c 0] (keysTkl c b g):= fun l J X w hS hY=> by
  have h1:=(hS.perm (List.Perm.swap _ _ _)).flat; dsimp only[M8,M7]at h1
  refine(kl_it (h1.reorder [2,0,1,3] U) hY).mono fun e w' h=>h.mono fun v w' ⟨ks,h2,h3⟩=>⟨ks,h2, ?_⟩
  exact(Sat.fold (As:=[QC c [.map (some b)],Q4 Xr b g]) (h3.reorder [1,2,0,3] U)).perm (List.Perm.swap _ _ _)
def keysTkp (c b:Nat) (g:KD→Option Value):Th:=starL [QC c [.map (some b)],Q4 Xr b g]
theorem itkp (c b:Nat) (g:KD→Option Value):ItK g 165 [ptrV c 0] (keysTkp c b g):= fun l J X w hS hY=> by
  have h1:=(hS.perm (List.Perm.swap _ _ _)).flat; dsimp only[M8,M7]at h1
  refine(kp_it (h1.reorder [2,0,1,3] U) hY).mono fun e w' h=>h.mono fun v w' ⟨ks,h2,h3⟩=>⟨ks,h2, ?_⟩
  exact(Sat.fold (As:=[QC c [.map (some b)],Q4 Xr b g]) (h3.reorder [1,2,0,3] U)).perm (List.Perm.swap _ _ _)
theorem colK {w:World} {g:KD→Option Value} {It F:Th} {gf:Nat} {caps:List Value} (hS:Sat w [It,F]) (hcal:Q7 prog gf=true) (hIt:ItK g gf caps It) (hlen: ∀ks,Came g ks→ks.length≤100000000000):
    Calls prog 127 #[.func (.func gf) #[] caps.toArray] w (Ret fun v w'=> ∃ks,AllC g ks∧Sat w' [rowT kC v ks,It,F]):= by
 refine Qm func127 U ntmps127 U ?_
 refine Qe (Qa (Qd U U (Qf (Qc (Qe (Qa (Qb U U (Qy cal_162 U (appK (hS.sp [0] U) hcal hIt hlen) U ?_))))))))
 rintro _ w1 ⟨ks,hks,j1⟩
 replace j1:=j1.jn U U
 have h1v:=j1.own_one 0 U
 exact Qd U U (Qf (Qc (Qv (QM (.inr U) U U (⟨_,U,ks,hks,j1⟩)))))
def orI (a b:Int):Int:= if a≠0 then a else b
theorem or_step {l:List Int} {i:Nat} {x:Int} (hz: ∀q,q<i→l[q]? =some 0) (hx:l[i]? =some x) (h0:x=0): ∀q,q<i+1→l[q]? =some 0:= fun q hq=> by
  rcases Nat.lt_or_ge q i with h | h
  · exact hz q h
  · have :q=i:= by omega
    subst this; rw[hx,h0]
theorem or_sp {w:World} {c:Nat} {a b:Int} {F:Th} (hS:Sat w [rowT inC (.slice (some ⟨c,0,none⟩) 2 2) [a,b],F]):
    Calls prog 92 #[.slice (some ⟨c,0,none⟩) 2 2] w (Ret fun v w'=>v=intV (orI a b)∧w'=w):= by
 refine Qm func92 U ntmps92 U ?_
 refine Qe (Qa (Qd U U (Qf (Qc (Qe (Qa (Qd U U (Qf (Qc (Qe (Qe (Qa (Qb U U ?_)))))))))))))
 first | refine XK underlying22 U U ?_ | refine XG 0 hS underlying22 U U U ?_
 refine Qb U U (Qf (Qc (Qz (Xh (fun K0 E0 W0=> ∃(i:Nat),K0=2 -i∧E0=[(3,intV 0),(6,.slice (some ⟨c,0,none⟩) 2 2),(7,intV 2),(8,intV (i:Int))]∧Sat W0 [rowT inC (.slice (some ⟨c,0,none⟩) 2 2) [a,b],F]∧(W0=w)∧(i≤2)∧(∀q,q<i→[a,b][q]? =some 0)) (L0:=[(3,_),(6,_),(7,_),(8,_)]) (2) (VF U U U U) ⟨0, by omega,rfl,hS,rfl, by omega, fun q hq=>absurd hq (by omega)⟩ ?_))))
 rintro _ _ w1 ⟨i,rfl,rfl,j1,hw0,hi,hz⟩
 refine Qe (Qa (Xk U U U (Qf (Qc (Qe (Qu U (fun h2=> ?_) (fun h2=> ?_)))))))
 ·obtain⟨xi,hxi⟩: ∃xi,[a,b][i]? =some xi:=⟨_,Zk (by simp;omega)⟩
  refine Qt (Qc (Qe (Qz (Qe (Qa (Xg inC 0 i j1 U U U (by first | rfl | omega) hxi Ku U ?_))))))
  intro bx3 capx3 hvx3
  refine ZG 0 i 0 j1 U hvx3 U U hxi QO U U (Qd U U (Qf (Qc (Qe (Qa (Qb U U (Qb U U (Xn U U U (Qf (Qc (Qh [8,7,6,3,5,14] U (Qu U (fun h4=> ?_) (fun h4=> ?_)))))))))))))
  ·have hx0:xi≠0:=h4
   refine Qe (Qa (Qb U U (Qd U U (Qf (Qc (Qv (Q0 (Qq (Qq (Q0 (Qq (QM (.inr U) U U (⟨_,U, ?_,hw0⟩)))))))))))))
   have h2:i=0∨i=1:= by omega
   rcases h2 with rfl | rfl
   ·have e:a=xi:=(by simpa using hxi); subst e;unfold orI; rw[if_pos hx0]
   ·have e:b=xi:=(by simpa using hxi); have e0:a=0:=(by simpa using hz 0 (by omega)); subst e;unfold orI; rw[if_neg (by omega)]
  have hx0:xi=0:=Decidable.not_not.1 h4
  refine Qt (Qo (Qc (Qa (QN U U (by omega) (by omega) U ?_))))
  refine Qb U U (Qf ?_)
  exact Q8 (L1:=[(3,intV 0),(6,_),(7,intV 2),(8,intV ((i+1:Nat):Int))]) (VF U U U U) (k1:=2 -(i+1)) (by omega) ⟨i+1, by omega,rfl,j1.pick [0,1] U,hw0, by omega,or_step hz hxi hx0⟩
 refine Xc (Qs (Qs (Q3 (Qc (Qe (Qa (Qb U U (Qd U U (Qf (Qc (Qv (QM (.inr U) U U ?_))))))))))))
 have h2:i=2:= by omega
 subst h2; have e0:a=0:= by simpa using hz 0 (by omega)
 have e1:b=0:= by simpa using hz 1 (by omega)
 exact⟨_,rfl, by unfold orI; rw[if_neg (by omega),e1],hw0⟩
def LE (x y:KD):Int:=orI (Lib.compareBytes x.1 y.1) (Lib.compareInt x.2 y.2)
theorem Nv (a b:Bs) (w:World):Calls prog 93 #[strV a,strV b] w (Ret fun v w'=>v=intV (Lib.compareBytes a b)∧w'=w):=
  (Tryz.strings_Compare ⟨a.toArray⟩ ⟨b.toArray⟩ w).mono fun e w' ⟨h1,h2⟩=>⟨_,h1,rfl,h2⟩
theorem NG (a b:Int) (w:World):Calls prog 94 #[intV a,intV b] w (Ret fun v w'=>v=intV (Lib.compareInt a b)∧w'=w):=
  (Tryz.cmp_Compare_int a b w).mono fun e w' ⟨h1,h2⟩=>⟨_,h1,rfl,h2⟩
theorem cmpL_sp {w:World} {F:Th} (hS:Sat w [F]) (x y:KD):
    Calls prog 91 #[Xr x,Xr y] w (Ret fun v w'=>v=intV (LE x y)∧GrW w w'):= by
 refine Qm func91 U ntmps91 U ?_
 refine Qe (Qa (RN hS U U U ?_))
 intro ka w1 hG1 j1
 replace j1:=Zw (k:=x) j1
 refine RN j1 U U U ?_
 intro kb w2 hG2 j2
 replace j2:=Zw (k:=y) j2
 refine Qd U U (Qf (Qc (Qe ?_)))
 have j3:=j2.drew
 refine Q6 [0,1,2,3,5,6,7,8,4,9,10,11,12] [4,9,10,11] ZF (by kernel_rfl) ?_
 refine QI U U U JJ (Q1 U U U (Ql U JN (by first | assumption | exact j3.cell 0 U U | exact j3.cell 1 U U)) ?_)
 refine QI U U U JJ (Q1 U U U (Ql U JN (by first | assumption | exact j3.cell 0 U U | exact j3.cell 1 U U)) ?_)
 refine QI U U U Ks (Q1 U U U (Ql U QO (by first | assumption | exact j3.cell 0 U U | exact j3.cell 1 U U)) ?_)
 refine QI U U U Ks (Q1 U U U (Ql U QO (by first | assumption | exact j3.cell 0 U U | exact j3.cell 1 U U)) ?_)
 refine Xa U U U U U U ?_
 refine Qy LN U (Nv x.1 y.1 _) U ?_
 rintro _ _ ⟨rfl,rfl⟩
 refine X5 (.cons (.inl ⟨rfl,(Ql U QO (by first | assumption | exact j3.cell 0 U U | exact j3.cell 1 U U))⟩) (.cons (.inl ⟨rfl,(Ql U QO (by first | assumption | exact j3.cell 0 U U | exact j3.cell 1 U U))⟩) (Xf (by kernel_rfl)))) ?_
 refine Xa U U U U U U ?_
 refine Qy LM U (NG x.2 y.2 _) U ?_
 rintro _ _ ⟨rfl,rfl⟩
 refine X5 (Xf (by kernel_rfl)) ?_
 refine Xa U U U U U U ?_
 refine VM inC [Lib.compareBytes x.1 y.1,Lib.compareInt x.2 y.2] j3 U underlying22 GS U U U U (by first | rfl | simp [RowC.cells,Wm,Xo]) U ?_
 intro cc w4 hG4 j4
 refine X5 (Xf (by kernel_rfl)) ?_
 refine Xa U U U U U U ?_
 refine Qy LO U (or_sp (j4.split [0] [true,false,false,false] U)) U ?_
 rintro _ _ ⟨rfl,rfl⟩
 refine X5 (Xf (by kernel_rfl)) ?_
 exact Za U U U (VC.nil (Qc (Qh [4] U (Qv (QM (.inr U) U U (⟨_,U,U,(hG1.trans hG2).trans (GrW.drew.trans hG4)⟩))))))
theorem cmpI_sp {w:World} {F:Th} (hS:Sat w [F]) (x y:KD):
    Calls prog 133 #[Xr x,Xr y] w (Ret fun v w'=>v=intV (LE x y)∧GrW w w'):= by
 refine Qm func133 U ntmps133 U ?_
 refine Qe (Qa (RN hS U U U ?_))
 intro ka w1 hG1 j1
 replace j1:=Zw (k:=x) j1
 refine RN j1 U U U ?_
 intro kb w2 hG2 j2
 replace j2:=Zw (k:=y) j2
 refine Qd U U (Qf (Qc (Qe ?_)))
 have j3:=j2.drew
 refine Q6 [0,1,2,3,5,6,7,8,4,9,10,11,12] [4,9,10,11] ZF (by kernel_rfl) ?_
 refine QI U U U JJ (Q1 U U U (Ql U JN (by first | assumption | exact j3.cell 0 U U | exact j3.cell 1 U U)) ?_)
 refine QI U U U JJ (Q1 U U U (Ql U JN (by first | assumption | exact j3.cell 0 U U | exact j3.cell 1 U U)) ?_)
 refine QI U U U Ks (Q1 U U U (Ql U QO (by first | assumption | exact j3.cell 0 U U | exact j3.cell 1 U U)) ?_)
 refine QI U U U Ks (Q1 U U U (Ql U QO (by first | assumption | exact j3.cell 0 U U | exact j3.cell 1 U U)) ?_)
 refine Xa U U U U U U ?_
 refine Qy LN U (Nv x.1 y.1 _) U ?_
 rintro _ _ ⟨rfl,rfl⟩
 refine X5 (.cons (.inl ⟨rfl,(Ql U QO (by first | assumption | exact j3.cell 0 U U | exact j3.cell 1 U U))⟩) (.cons (.inl ⟨rfl,(Ql U QO (by first | assumption | exact j3.cell 0 U U | exact j3.cell 1 U U))⟩) (Xf (by kernel_rfl)))) ?_
 refine Xa U U U U U U ?_
 refine Qy LM U (NG x.2 y.2 _) U ?_
 rintro _ _ ⟨rfl,rfl⟩
 refine X5 (Xf (by kernel_rfl)) ?_
 refine Xa U U U U U U ?_
 refine VM inC [Lib.compareBytes x.1 y.1,Lib.compareInt x.2 y.2] j3 U underlying22 GS U U U U (by first | rfl | simp [RowC.cells,Wm,Xo]) U ?_
 intro cc w4 hG4 j4
 refine X5 (Xf (by kernel_rfl)) ?_
 refine Xa U U U U U U ?_
 refine Qy LO U (or_sp (j4.split [0] [true,false,false,false] U)) U ?_
 rintro _ _ ⟨rfl,rfl⟩
 refine X5 (Xf (by kernel_rfl)) ?_
 exact Za U U U (VC.nil (Qc (Qh [4] U (Qv (QM (.inr U) U U (⟨_,U,U,(hG1.trans hG2).trans (GrW.drew.trans hG4)⟩))))))
