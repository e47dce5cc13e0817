/- leaves: references, plain -/
import Derived.Test.YtkcjfoaejijdoaaGreatDoorLv3
set_option linter.unusedSectionVars false
set_option linter.unusedVariables false
namespace Go.Proofs.YtkcjfoaejijdoaaGreatDoor
open Go.RowKit M
variable [Inhabited SlW]
open Classical in
noncomputable def UA {κ α:Type} (f:κ→α) (k:κ) (v:α):κ→α:= fun j=> if j=k then v else f j
theorem X4 {κ α:Type} {f:κ→α} {k:κ} {v:α}:UA f k v k=v:= by unfold UA; rw[if_pos U]
theorem XM {κ α:Type} {f:κ→α} {k j:κ} {v:α} (h:j≠k):UA f k v j=f j:= by unfold UA; rw[if_neg h]
def TZ {κ:Type} (f:κ→Int) (s:Int) (n:Nat):Prop:= ∃l:List κ,l.Nodup∧(∀p,p∈l↔f p=s)∧l.length=n
section
variable {κ:Type} {f g:κ→Int} {s v:Int} {n m:Nat} {p:κ}
theorem Uk (h: ∀p,g p=s↔f p=s) (hc:TZ f s n):TZ g s n:= by
  obtain⟨l,a,b,c⟩:=hc
  exact⟨l,a, fun p=>(b p).trans (h p).symm,c⟩
theorem T9 (h:TZ f s n) (h':TZ f s m):n=m:= by
  obtain⟨l,a,b,rfl⟩:=h
  obtain⟨l',a',b',rfl⟩:=h'
  exact((List.perm_ext_iff_of_nodup a a').2 fun k=>(b k).trans (b' k).symm).length_eq
theorem O5 (hp:f p≠s) (h:TZ f s n):TZ (UA f p s) s (n+1):= by
  obtain⟨l,a,b,c⟩:=h
  refine⟨p::l,List.nodup_cons.2 ⟨fun q=>hp ((b p).1 q),a⟩, fun q=> ?_, by simp [c]⟩
  by_cases e:q=p
  · subst e; rw[X4]; simp
  · rw[XM e,List.mem_cons,b q]; simp [e]
theorem T8 (hp:f p=s) (hv:v≠s) (h:TZ f s n): ∃m,n=m+1∧TZ (UA f p v) s m:= by
  obtain⟨l,a,b,c⟩:=h
  obtain⟨x,y,rfl⟩:=List.append_of_mem ((b p).2 hp)
  have ha:(x++y).Nodup∧p∉x++y:= by
    have :=(List.perm_middle (l₁:=x) (a:=p) (l₂:=y)).nodup_iff.1 a
    rw[List.nodup_cons]at this
    exact⟨this.2,this.1⟩
  refine⟨(x++y).length, by rw[←c]; simp;omega,x++y,ha.1, fun q=> ?_,rfl⟩
  by_cases e:q=p
  · subst e; rw[X4]; exact⟨fun h=>absurd h ha.2, fun h=>absurd h hv⟩
  · rw[XM e,←b q]; simp [e]
theorem Bg (h:TZ f s n) (hp:f p=s):1≤n:= by
  obtain⟨l,a,b,rfl⟩:=h
  exact List.length_pos_of_mem ((b p).2 hp)
theorem cnt_one (h:TZ f s 1) (hp:f p=s): ∀q,f q=s→q=p:= by
  obtain⟨l,a,b,c⟩:=h
  obtain⟨x,rfl⟩:=List.length_eq_one_iff.1 c
  intro q hq
  have h1:=(b p).2 hp
  have h2:=(b q).2 hq
  simp at h1 h2
  rw[h1,h2]
end
def dl (s:Int):Int→Int:= fun j=> if j=s then 1 else 0
theorem Wt {s:Int}:dl s s=1:= by unfold dl; rw[if_pos U]
theorem Ja {s j:Int} (h:j≠s):dl s j=0:= by unfold dl; rw[if_neg h]
def RefI {κ:Type} (f:κ→Int) (V:VS) (ex:Int→Int):Prop:=(∀s,s≠0→ ∃n:Nat,TZ f s n∧Zc V s=n+ex s)∧ ∀s x,V s=some x→1≤x.1∧1≤s∧x.2.length=64
section
variable {κ:Type} {f g:κ→Int} {V:VS} {ex ex':Int→Int} {s:Int} {p:κ}
theorem RefI.zero (h:RefI f V ex):V 0=none:= by
  cases q:V 0 with
  | none=>rfl
  | some x=> have :=(h.2 0 x q).2.1;omega
theorem RefI.ext (h:RefI f V ex) (he: ∀j,j≠0→ex' j=ex j):RefI f V ex':=⟨fun s hs=> by obtain⟨n,a,b⟩:=h.1 s hs; exact⟨n,a, by rw[he s hs]; exact b⟩,h.2⟩
theorem RefI.fn (h:RefI f V ex) (he: ∀p,g p=f p):RefI g V ex:= by
  have :g=f:=funext he
  rw[this]; exact h
theorem Yz (h:V s=none):Zc V s=0:= by unfold Zc; rw[h]
theorem Z8 {x:Int×Bs} (h:V s=some x):Zc V s=x.1:= by unfold Zc; rw[h]
theorem RefI.alive_of (h:RefI f V ex) (hr:1≤Zc V s):V s≠none:= fun q=> by rw[Yz q]at hr;omega
theorem RefI.aliveN (h:RefI f V ex) (hp:f p=s) (he:s≠0→0≤ex s):Xq V s:= by
  by_cases h0:s=0
  · exact .inl h0
  · obtain⟨n,a,b⟩:=h.1 s h0
    have :=Bg a hp
    have :=he h0
    exact .inr (h.alive_of (by omega))
theorem RefI.alive (h:RefI f V ex) (hp:f p=s) (he:0≤ex s):Xq V s:=h.aliveN hp fun _=>he
theorem RefI.ref (h:RefI f V ex) (ha:Xq V s):RefI f (refW V s) (fun j=>ex j+dl s j):= by
  by_cases h0:s=0
  · have e:refW V s=V:= by unfold refW; rw[if_pos h0]
    rw[e]
    exact h.ext fun j hj=> by rw[Ja (by omega)];omega
  have e:refW V s=Ha V s:= by unfold refW; rw[if_neg h0]
  rw[e]
  cases q:V s with
  | none => rcases ha with ha | ha
            · exact absurd ha h0
            · exact absurd q ha
  | some x=>
    have e2:Ha V s=Xi V s (some (x.1+1,x.2)):= by unfold Ha; rw[q]
    rw[e2]
    refine⟨fun j hj=> ?_, fun j y hy=> ?_⟩
    · obtain⟨n,a,b⟩:=h.1 j hj
      refine⟨n,a, ?_⟩; dsimp only
      by_cases e3:j=s
      · subst e3
        rw[Z8 Qy,Wt]
        rw[Z8 q]at b
        dsimp only;omega
      · have :Zc (Xi V s (some (x.1+1,x.2))) j=Zc V j:= by unfold Zc; rw[Q7 e3]
        rw[this,Ja e3];omega
    · by_cases e3:j=s
      · subst e3
        rw[Qy]at hy
        cases hy
        obtain⟨a,b,c⟩:=h.2 j x q
        exact⟨by dsimp only;omega,b,c⟩
      · rw[Q7 e3]at hy; exact h.2 j y hy
theorem Vm (h:V s=none):Zb V s=V:= by unfold Zb; rw[h]
theorem Yw {x:Int×Bs} (h:V s=some x):Zb V s= if 1<x.1 then Xi V s (some (x.1 -1,x.2))else Xi V s none:= by unfold Zb; rw[h]
theorem RefI.unr (h:RefI f V ex) (ha:Xq V s):RefI f (Zb V s) (fun j=>ex j -dl s j):= by
  cases q:V s with
  | none=>
    rcases ha with ha | ha
    · rw[Vm q]
      exact h.ext fun j hj=> by rw[Ja (by omega)];omega
    · exact absurd q ha
  | some x=>
    have hx:=h.2 s x q
    refine⟨fun j hj=> ?_, fun j y hy=> ?_⟩
    · obtain⟨n,a,b⟩:=h.1 j hj
      refine⟨n,a, ?_⟩; dsimp only
      rw[Yw q]
      by_cases e3:j=s
      · subst e3
        rw[Wt]
        rw[Z8 q]at b
        split
        · rw[Z8 Qy]; dsimp only;omega
        · rw[Yz Qy];omega
      · rw[Ja e3]
        have : ∀o,Zc (Xi V s o) j=Zc V j:= fun o=> by unfold Zc; rw[Q7 e3]
        split<;>(rw[this];omega)
    · rw[Yw q]at hy
      by_cases e3:j=s
      · subst e3
        split at hy
        · rw[Qy]at hy
          cases hy
          exact⟨by dsimp only;omega,hx.2⟩
        · rw[Qy]at hy; cases hy
      · split at hy<;>(rw[Q7 e3]at hy; exact h.2 j y hy)
theorem RefI.put (h:RefI f V ex) (p:κ) (v:Int):RefI (UA f p v) V (fun j=>ex j+dl (f p) j -dl v j):= by
  refine⟨fun j hj=> ?_,h.2⟩
  obtain⟨n,a,b⟩:=h.1 j hj
  by_cases e1:f p=j
  · by_cases e2:v=j
    · refine⟨n,Uk (fun q=> ?_) a, ?_⟩
      · by_cases e:q=p
        · subst e; rw[X4,e1,e2]
        · rw[XM e]
      · dsimp only; rw[e1,e2,Wt];omega
    · obtain⟨m,rfl,c⟩:=T8 e1 e2 a
      refine⟨m,c, ?_⟩; dsimp only
      rw[e1,Wt,Ja (fun q=>e2 q.symm)];omega
  · by_cases e2:v=j
    · subst e2
      refine⟨n+1,O5 e1 a, ?_⟩; dsimp only
      rw[Wt,Ja (fun q=>e1 q.symm)];omega
    · refine⟨n,Uk (fun q=> ?_) a, ?_⟩
      · by_cases e:q=p
        · subst e; rw[X4]; exact⟨fun q=>absurd q e2, fun q=>absurd q e1⟩
        · rw[XM e]
      · dsimp only; rw[Ja (fun q=>e1 q.symm),Ja (fun q=>e2 q.symm)];omega
theorem RefI.fresh (h:RefI f V ex) {pg:Bs} (hn:V s=none) (h1:1≤s) (hl:pg.length=64):RefI f (Xi V s (some (1,pg))) (fun j=>ex j+dl s j):= by
  refine⟨fun j hj=> ?_, fun j y hy=> ?_⟩
  · obtain⟨n,a,b⟩:=h.1 j hj
    refine⟨n,a, ?_⟩; dsimp only
    by_cases e:j=s
    · subst e
      rw[Z8 Qy,Wt]
      rw[Yz hn]at b
      dsimp only;omega
    · have :Zc (Xi V s (some (1,pg))) j=Zc V j:= by unfold Zc; rw[Q7 e]
      rw[this,Ja e];omega
  · by_cases e:j=s
    · subst e
      rw[Qy]at hy
      cases hy
      exact⟨by dsimp only;omega,h1,hl⟩
    · rw[Q7 e]at hy; exact h.2 j y hy
theorem RefI.setc (h:RefI f V ex) {pg pg':Bs} {r:Int} (hn:V s=some (r,pg)) (hl:pg'.length=64):RefI f (Xi V s (some (r,pg'))) ex:= by
  refine⟨fun j hj=> ?_, fun j y hy=> ?_⟩
  · obtain⟨n,a,b⟩:=h.1 j hj
    refine⟨n,a, ?_⟩
    by_cases e:j=s
    · subst e
      rw[Z8 Qy]
      rw[Z8 hn]at b
      exact b
    · have :Zc (Xi V s (some (r,pg'))) j=Zc V j:= by unfold Zc; rw[Q7 e]
      rw[this]; exact b
  · by_cases e:j=s
    · subst e
      rw[Qy]at hy
      cases hy
      have :=h.2 j _ hn
      exact⟨this.1,this.2.1,hl⟩
    · rw[Q7 e]at hy; exact h.2 j y hy
theorem RefI.none_held (h:RefI f V ex) (hn:V s=none) (h0:s≠0) (he:0≤ex s):f p≠s:= fun q=> by
  rcases h.alive q he with h1 | h1
  · exact h0 h1
  · exact h1 hn
theorem RefI.excl (h:RefI f V ex) (hr:Zc V s=1) (he:ex s=0) (h0:s≠0) (hp:f p=s): ∀q,f q=s→q=p:= by
  obtain⟨n,a,b⟩:=h.1 s h0
  have :n=1:= by omega
  subst this
  exact cnt_one a hp
end
section
variable {V:VS} {s j:Int}
theorem JN {x:Int×Bs} (h:V j=some x):XH V j=x.2:= by unfold XH; rw[h]
theorem WG (h:V 0=none):XH V 0=zer:= by unfold XH; rw[h];rfl
theorem EY {V':VS} (h:V' j=V j):XH V' j=XH V j:= by unfold XH; rw[h]
theorem Vx {o:Option (Int×Bs)} (h:j≠s):XH (Xi V s o) j=XH V j:=EY (Q7 h)
theorem pg_refV:XH (Ha V s) j=XH V j:= by
  unfold Ha
  cases q:V s with
  | none=>rfl
  | some x=>
    dsimp only
    by_cases e:j=s
    · subst e; rw[JN Qy,JN q]
    · exact Vx e
theorem JR:XH (refW V s) j=XH V j:= by unfold refW;split;rfl; exact pg_refV
theorem RV (h0:V 0=none) (h:Xq (Zb V s) j):XH (Zb V s) j=XH V j:= by
  cases q:V s with
  | none=> rw[Vm q]
  | some x=>
    by_cases e:j=s
    · subst e
      rw[Yw q]at h⊢
      split
      · rw[JN Qy,JN q]
      · rename_i hx
        rw[if_neg hx]at h
        rcases h with h | h
        · subst h; rw[h0]at q; cases q
        · exact absurd Qy h
    · rw[Yw q];split<;> exact Vx e
theorem DZ (h:Zb V s j≠none):V j≠none:= by
  cases q:V s with
  | none=>rwa [Vm q]at h
  | some x=>
    by_cases e:j=s
    · subst e; rw[q]; simp
    · rw[Yw q]at h
      split at h<;>rwa [Q7 e]at h
def AliveLe (V:VS) (n:Nat):Prop:= ∃l:List Int,l.length≤n∧ ∀j,V j≠none→j∈l
theorem AliveLe.sub {V':VS} {n:Nat} (h:AliveLe V n) (hs: ∀j,V' j≠none→V j≠none):AliveLe V' n:= by
  obtain⟨l,a,b⟩:=h
  exact⟨l,a, fun j hj=>b j (hs j hj)⟩
theorem AliveLe.mono {n m:Nat} (h:AliveLe V n) (hm:n≤m):AliveLe V m:= by
  obtain⟨l,a,b⟩:=h
  exact⟨l, by omega,b⟩
theorem AliveLe.refW {n:Nat} (h:AliveLe V n):AliveLe (refW V s) n:=h.sub fun j=>Jv.1
theorem AliveLe.unr {n:Nat} (h:AliveLe V n):AliveLe (Zb V s) n:=h.sub fun j=>DZ
theorem AliveLe.put {n:Nat} {o:Option (Int×Bs)} (h:AliveLe V n):AliveLe (Xi V s o) (n+1):= by
  obtain⟨l,a,b⟩:=h
  refine⟨s::l, by simp;omega, fun j hj=> ?_⟩
  by_cases e:j=s
  · simp [e]
  · rw[Q7 e]at hj; exact List.mem_cons_of_mem _ (b j hj)
theorem Zr {α:Type}: ∀{a b:List α},a.Nodup→(∀x∈a,x∈b)→a.length≤b.length
  | [],_,_,_=> by simp
  | x::a,b,h,hs=> by
    rw[List.nodup_cons]at h
    obtain⟨u,v,rfl⟩:=List.append_of_mem (hs x (by simp))
    have :=Zr (a:=a) (b:=u++v) h.2 fun y hy=> by
      have h1:=hs y (List.mem_cons_of_mem _ hy)
      have h2:y≠x:= fun q=>h.1 (q▸hy)
      simpa [h2]using h1
    simp at this⊢;omega
theorem HH {n m:Nat} (h:AliveLe V n) (h':Hi V m):m≤n:= by
  obtain⟨l,a,b⟩:=h
  obtain⟨l',rfl,c,d⟩:=h'
  have :=Zr c fun j hj=>b j (d j hj)
  omega
end
abbrev Pl:=KD⊕(Int×KD×Bool)
def QJ (L:LvD):Pl→Int
  | .inl k=>L.pres k
  | .inr (i,k,o)=> match L.tr i with | none=>0 | some t=> match t.lv k with | none=>0 | some x=> if o=true then x.own else x.base
theorem Gb {L L':LvD} {k:KD} {s:Int} (hp:L'.pres=Zv L.pres k s) (ht:L'.tr=L.tr): ∀p,QJ L' p=UA (QJ L) (.inl k) s p:= fun p=> by
  cases p with
  | inl j=>
    by_cases e:j=k
    · subst e; rw[X4]; simp [QJ,hp,Zv]
    · rw[XM (by simpa using e)]; simp [QJ,hp,Zv,e]
  | inr q=> rw[XM (by simp)]; simp [QJ,ht]
theorem Y0 {L L':LvD} {i:Int} {t t':TrD} {k:KD} {x:LfD} (hp:L'.pres=L.pres) (hT:L'.tr=Xi L.tr i (some t')) (ht:L.tr i=some t) (hl:t'.lv=Xi t.lv k (some x)):
    ∀p,QJ L' p=UA (UA (QJ L) (.inr (i,k,false)) x.base) (.inr (i,k,true)) x.own p:= fun p=> by
  cases p with
  | inl j=> rw[XM (by simp),XM (by simp)]; simp [QJ,hp]
  | inr q=>
    obtain⟨i2,k2,o⟩:=q
    by_cases e:i2=i
    · subst e
      by_cases e2:k2=k
      · subst e2
        cases o with
        | true=> rw[X4]; simp [QJ,hT,Qy,hl]
        | false=> rw[XM (by simp),X4]; simp [QJ,hT,Qy,hl]
      · rw[XM (by simp [e2]),XM (by simp [e2])]
        simp only[QJ,hT,Qy,ht,hl]
        rw[Q7 e2]
    · rw[XM (by simp [e]),XM (by simp [e])]
      simp only[QJ,hT]
      rw[Q7 e]
theorem Xj {L:LvD} {i:Int} {t:TrD} {k:KD} {x:LfD} {o:Bool} (ht:L.tr i=some t) (hx:t.lv k=some x):QJ L (.inr (i,k,o))= if o=true then x.own else x.base:= by simp only[QJ,ht,hx]
theorem Ks {L:LvD} {i:Int} {t:TrD} {k:KD} {o:Bool} (ht:L.tr i=some t) (hx:t.lv k=none):QJ L (.inr (i,k,o))=0:= by simp only[QJ,ht,hx]
end Go.Proofs.YtkcjfoaejijdoaaGreatDoor
namespace Go.Proofs.YtkcjfoaejijdoaaGreatDoor
open Go.RowKit M
variable [Inhabited SlW]
structure LfA where
  base:Bs
  own:Bs
  rd:BitVec 64
  wr:BitVec 64
structure TrA where
  parent:Int
  lv:KD→Option LfA
  dr:Bs→Bool
structure LvA where
  pres:KD→Bs
  tr:Int→Option TrA
def Wl (V:VS) (x:LfD):LfA:=⟨XH V x.base,XH V x.own,x.rd,x.wr⟩
def ZF (V:VS) (t:TrD):TrA:=⟨t.parent, fun k=>(t.lv k).map (Wl V),t.dr⟩
def Q1 (L:LvD) (V:VS):LvA:=⟨fun k=>XH V (L.pres k), fun i=>(L.tr i).map (ZF V)⟩
def Yh (A:LvA):Nat→Int→KD→Bs
  | 0,_,_=>zer
  | n+1,id,k=> if id=0 then A.pres k else match A.tr id with | none=>zer | some t=> match t.lv k with | some x=>x.own | none=> if t.dr k.1=true then zer else Yh A n t.parent k
def Wp (A:LvA) (id:Int) (k:KD):Bs:=Yh A (Zs+1) id k
noncomputable def Z6 (A:LvA) (id:Int) (k:KD) (x:LfA):LvA:= match A.tr id with | none=>A | some t=>{A with tr:=Xi A.tr id (some {t with lv:=Xi t.lv k (some x)})}
def Zo (A:LvA) (id:Int) (k:KD):LfA:= match A.tr id with | none=>⟨zer,zer,0#64,0#64⟩ | some t=> match t.lv k with | some x=>x | none=>⟨Wp A id k,Wp A id k,0#64, if t.dr k.1=true then BitVec.allOnes 64 else 0#64⟩
theorem Zk {L:LvD} {V:VS} {i:Int} {t:TrD} (h:L.tr i=some t):(Q1 L V).tr i=some (ZF V t):= by simp [Q1,h]
theorem ZC {V:VS} {t:TrD} {k:KD} {x:LfD} (h:t.lv k=some x):(ZF V t).lv k=some (Wl V x):= by simp [ZF,h]
theorem Vf {V:VS} {t:TrD} {k:KD} (h:t.lv k=none):(ZF V t).lv k=none:= by simp [ZF,h]
theorem Cv {L:LvD} {V:VS} (h0:V 0=none): ∀n id k,XH V (JL L n id k)=Yh (Q1 L V) n id k
  | 0,_,_=>WG h0
  | n+1,id,k=> by
    unfold JL Yh
    split
    · rfl
    · cases ht:L.tr id with
      | none=> rw[show(Q1 L V).tr id=none by simp [Q1,ht]]; exact WG h0
      | some t=>
        rw[Zk ht]; dsimp only
        cases hx:t.lv k with
        | some x=> rw[ZC hx];rfl
        | none=>
          rw[Vf hx]; dsimp only
          show XH V (if t.dr k.1=true then 0 else _)= if t.dr k.1=true then zer else _
          split
          · exact WG h0
          · exact Cv h0 n t.parent k
theorem Mk (L:LvD): ∀n id k,JL L n id k=0∨ ∃p,QJ L p=JL L n id k
  | 0,_,_=> .inl rfl
  | n+1,id,k=> by
    unfold JL
    split
    · exact .inr ⟨.inl k,rfl⟩
    · cases ht:L.tr id with
      | none=> exact .inl rfl
      | some t=>
        dsimp only
        cases hx:t.lv k with
        | some x=> exact .inr ⟨.inr (id,k,true), by rw[Xj ht hx];rfl⟩
        | none=>
          dsimp only
          split
          · exact .inl U
          · exact Mk L n t.parent k
theorem TY {V V':VS} {t:TrD} (h: ∀k x,t.lv k=some x→XH V' x.base=XH V x.base∧XH V' x.own=XH V x.own):ZF V' t=ZF V t:= by
  unfold ZF
  congr 1
  funext k
  cases q:t.lv k with
  | none=>rfl
  | some x=> obtain⟨a,b⟩:=h k x q; simp [Wl,a,b]
theorem U9 {L:LvD} {V V':VS} (h: ∀p,XH V' (QJ L p)=XH V (QJ L p)):Q1 L V'=Q1 L V:= by
  unfold Q1
  congr 1
  · funext k; exact h (.inl k)
  · funext i
    cases q:L.tr i with
    | none=>rfl
    | some t=>
      refine congrArg some (TY fun k x hx=> ?_)
      have h1:=h (.inr (i,k,false))
      have h2:=h (.inr (i,k,true))
      rw[Xj q hx]at h1 h2
      exact⟨h1,h2⟩
theorem ZR {A:LvA} {id:Int} {k:KD} {x:LfA} {t:TrA} (h:A.tr id=some t):Z6 A id k x={A with tr:=Xi A.tr id (some {t with lv:=Xi t.lv k (some x)})}:= by unfold Z6; rw[h]
theorem RT {A:LvA} {id:Int} {k:KD} {x:LfA} {t:TrA} (h:A.tr id=some t) (hx:t.lv k=some x):Z6 A id k x=A:= by
  rw[ZR h,WE hx,WE h]
theorem HV {A:LvA} {id:Int} {k:KD} {x:LfA} {t:TrA} (h:A.tr id=some t) (hx:t.lv k=some x):Zo A id k=x:= by unfold Zo; rw[h]; dsimp only; rw[hx]
theorem RJ {A:LvA} {id:Int} {k:KD} {t:TrA} (h:A.tr id=some t) (hx:t.lv k=none):Zo A id k=⟨Wp A id k,Wp A id k,0#64, if t.dr k.1=true then BitVec.allOnes 64 else 0#64⟩:= by unfold Zo; rw[h]; dsimp only; rw[hx]
theorem Yb {L L':LvD} {V V':VS} {i:Int} {t t':TrD} {k:KD} {x:LfD} (hp:L'.pres=L.pres) (hT:L'.tr=Xi L.tr i (some t')) (ht:L.tr i=some t) (hl:t'={t with lv:=Xi t.lv k (some x)})
    (h: ∀p,p≠ .inr (i,k,false)→p≠ .inr (i,k,true)→XH V' (QJ L p)=XH V (QJ L p)):Q1 L' V'=Z6 (Q1 L V) i k (Wl V' x):= by
  rw[ZR (Zk ht)]
  unfold Q1
  rw[hp,hT]
  congr 1
  · funext j; exact h (.inl j) (by simp) (by simp)
  · funext j
    by_cases e:j=i
    · subst e
      rw[Qy,Qy]
      subst hl
      simp only[Option.map_some]
      congr 1
      unfold ZF
      congr 1
      funext q
      by_cases e2:q=k
      · subst e2; rw[Qy]; show Option.map (Wl V') (Xi t.lv q (some x) q)=_; rw[Qy];rfl
      · rw[Q7 e2]
        show Option.map (Wl V') (Xi t.lv k (some x) q)=Option.map (Wl V) (t.lv q)
        rw[Q7 e2]
        cases hq:t.lv q with
        | none=>rfl
        | some y=>
          have h1:=h (.inr (j,q,false)) (by simp [e2]) (by simp)
          have h2:=h (.inr (j,q,true)) (by simp) (by simp [e2])
          rw[Xj ht hq]at h1 h2
          simp at h1 h2
          simp [Wl,h1,h2]
    · rw[Q7 e,Q7 e]
      show Option.map (ZF V') (L.tr j)=Option.map (ZF V) (L.tr j)
      cases q:L.tr j with
      | none=>rfl
      | some u=>
        refine congrArg some (TY fun k2 y hy=> ?_)
        have h1:=h (.inr (j,k2,false)) (by simp [e]) (by simp)
        have h2:=h (.inr (j,k2,true)) (by simp) (by simp [e])
        rw[Xj q hy]at h1 h2
        exact⟨h1,h2⟩
theorem VM {L L':LvD} {V V':VS} {k:KD} {s:Int} (hp:L'.pres=Zv L.pres k s) (hT:L'.tr=L.tr)
    (h: ∀p,p≠ .inl k→XH V' (QJ L p)=XH V (QJ L p)):Q1 L' V'={Q1 L V with pres:=UA (Q1 L V).pres k (XH V' s)}:= by
  unfold Q1
  rw[hp,hT]
  congr 1
  · funext j
    by_cases e:j=k
    · subst e; rw[X4]; simp [Zv]
    · rw[XM e]
      have :=h (.inl j) (by simpa using e)
      simp only[Zv,if_neg e]
      exact this
  · funext j
    show Option.map (ZF V') (L.tr j)=Option.map (ZF V) (L.tr j)
    cases q:L.tr j with
    | none=>rfl
    | some u=>
      refine congrArg some (TY fun k2 y hy=> ?_)
      have h1:=h (.inr (j,k2,false)) (by simp)
      have h2:=h (.inr (j,k2,true)) (by simp)
      rw[Xj q hy]at h1 h2
      exact⟨h1,h2⟩
def RankI (T:Int→Option TrD) (m:Nat):Prop:=T 0=none∧ ∃r:Int→Nat,(∀i,r i≤m)∧ ∀i t,T i=some t→t.parent=0∨(T t.parent≠none∧r t.parent<r i)
theorem Mr {T:Int→Option TrD} {r:Int→Nat} (h: ∀i t,T i=some t→t.parent=0∨(T t.parent≠none∧r t.parent<r i)): ∀n i,r i<n→YS T n i
  | 0,i,h0=> by omega
  | n+1,i,h0=> by
    refine .inr ?_
    cases ht:T i with
    | none=>trivial
    | some t=>
      show YS T n t.parent
      rcases h i t ht with e | ⟨_,e⟩
      · rw[e]
        cases n with
        | zero=>rfl
        | succ n=> exact .inl rfl
      · exact Mr h n _ (by omega)
theorem RankI.ends {T:Int→Option TrD} {m:Nat} (h:RankI T m) (hm:m<Zs): ∀i,YS T Zs i:= by
  obtain⟨_,r,a,b⟩:=h
  exact fun i=>Mr b _ _ (by have :=a i;omega)
theorem RankI.same {T T':Int→Option TrD} {m:Nat} (h:RankI T m) (hs: ∀i,(T' i).map TrD.parent=(T i).map TrD.parent):RankI T' m:= by
  obtain⟨h0,r,a,b⟩:=h
  have hN: ∀i,T' i=none↔T i=none:= fun i=> by
    have :=hs i
    cases q:T i<;> cases q':T' i<;>simp_all
  refine⟨(hN 0).2 h0,r,a, fun i t ht=> ?_⟩
  have h1:=hs i
  rw[ht]at h1
  cases q:T i with
  | none=> rw[q]at h1; simp at h1
  | some u=>
    rw[q]at h1
    have e:t.parent=u.parent:= by simpa using h1
    rcases b i u q with h2 | ⟨h2,h3⟩
    · exact .inl (e.trans h2)
    · exact .inr ⟨fun q=>h2 ((hN _).1 (e▸q)),e▸h3⟩
theorem RankI.none0 {T:Int→Option TrD} {m:Nat} (h:RankI T m) {i:Int} {t:TrD} (ht:T i=some t):i≠0:= fun e=> by subst e; rw[h.1]at ht; cases ht
def NH (x:LfA):Prop:= ∀j,j<64→x.wr.getLsbD j=false→x.base[j]? =x.own[j]?
def AgL (A:LvA):Prop:= ∀i t k x,A.tr i=some t→t.lv k=some x→NH x
theorem AgL.put {A:LvA} (h:AgL A) {i:Int} {k:KD} {x:LfA} (hx:NH x):AgL (Z6 A i k x):= by
  unfold Z6
  cases ht:A.tr i with
  | none=> exact h
  | some t=>
    intro j u q y hj hq
    dsimp only at hj
    by_cases e:j=i
    · subst e
      rw[Qy]at hj
      cases hj
      dsimp only at hq
      by_cases e2:q=k
      · subst e2; rw[Qy]at hq; cases hq; exact hx
      · rw[Q7 e2]at hq; exact h j t q y ht hq
    · rw[Q7 e]at hj; exact h j u q y hj hq
theorem AgL.pres {A:LvA} (h:AgL A) {p:KD→Bs}:AgL {A with pres:=p}:=h
theorem AgL.tou {A:LvA} (h:AgL A) {i:Int} {k:KD}:NH (Zo A i k):= by
  unfold Zo
  cases ht:A.tr i with
  | none=> exact fun _ _ _=>rfl
  | some t=>
    dsimp only
    cases hx:t.lv k with
    | none=> exact fun _ _ _=>rfl
    | some x=> exact h i t k x ht hx
def NN (ex:Int→Int):Prop:= ∀j,j≠0→0≤ex j
structure LvX (ex:Int→Int) (m:Nat) (L:LvD) (V:VS):Prop where
  ref:RefI (QJ L) V ex
  rank:RankI L.tr m
  agree:AgL (Q1 L V)
abbrev LvI (m:Nat) (L:LvD) (V:VS):Prop:=LvX (fun _=>0) m L V
section
variable {ex:Int→Int} {L L1 L':LvD} {V V1 V':VS} {id:Int} {t t1:TrD} {k:KD} {x1:LfD} {m:Nat}
theorem LvX.zero (h:LvX ex m L V):V 0=none:=h.ref.zero
theorem LvX.sees (h:LvX ex m L V) (id:Int) (k:KD):XH V (X2 L id k)=Wp (Q1 L V) id k:=Cv h.zero _ _ _
theorem LvX.aliveX (h:LvX ex m L V) (hx:NN ex) (p:Pl):Xq V (QJ L p):=h.ref.aliveN U (hx _)
theorem LvX.aliveSX (h:LvX ex m L V) (hx:NN ex) (id:Int) (k:KD):Xq V (X2 L id k):= by
  rcases Mk L (Zs+1) id k with e | ⟨p,e⟩
  · exact .inl e
  · show Xq V (JL L (Zs+1) id k); rw[←e]; exact h.aliveX hx p
theorem LvX.len (h:LvX ex m L V) {s:Int} (hs:Xq V s):(XH V s).length=64:= by
  cases q:V s with
  | none=>
    rcases hs with rfl | hs
    · rw[WG h.zero]; simp [zer]
    · exact absurd q hs
  | some x=> rw[JN q]; exact(h.ref.2 s x q).2.2
theorem LvX.alive (h:LvI m L V) (p:Pl):Xq V (QJ L p):=h.aliveX (fun _ _=>Int.le_refl _) p
theorem LvX.aliveS (h:LvI m L V) (id:Int) (k:KD):Xq V (X2 L id k):=h.aliveSX (fun _ _=>Int.le_refl _) id k
theorem TouR.invX (hT:TouR L V id t k L1 V1 t1 x1) (ht:L.tr id=some t) (h:LvX ex m L V) (hx:NN ex):
    LvX ex m L1 V1∧Wl V1 x1=Zo (Q1 L V) id k∧Q1 L1 V1=Z6 (Q1 L V) id k (Zo (Q1 L V) id k)∧(∀c,AliveLe V c→AliveLe V1 c)∧L1.pres=L.pres:= by
  have hal:=h.aliveSX hx id k
  have hse:=h.sees id k
  rcases hT with⟨hx',rfl,rfl,rfl⟩ | ⟨hx',a,rfl,rfl,rfl,rfl⟩
  · refine⟨h, ?_, ?_, fun _ q=>q,rfl⟩
    · rw[HV (Zk ht) (ZC hx')]
    · rw[HV (Zk ht) (ZC hx'),RT (Zk ht) (ZC hx')]
  · generalize hs:X2 L id k=s at *
    have hpg: ∀j,XH (refW (refW V s) s) j=XH V j:= fun j=> by rw[JR,JR]
    have e1:Wl (refW (refW V s) s) (YZ t k s a)=Zo (Q1 L V) id k:= by
      rw[RJ (Zk ht) (Vf hx')]
      unfold Wl YZ
      simp only[hpg,hse]
      rfl
    have e2:Q1 {L with tr:=Xi L.tr id (some {t with lv:=Xi t.lv k (some (YZ t k s a))}),sh:=J1 (J1 L.sh s) s} (refW (refW V s) s)=Z6 (Q1 L V) id k (Zo (Q1 L V) id k):= by
      rw[Yb (L:=L) (V:=V) (k:=k) (x:=YZ t k s a) (L':={L with tr:=Xi L.tr id (some {t with lv:=Xi t.lv k (some (YZ t k s a))}),sh:=J1 (J1 L.sh s) s}) U U ht U fun p _ _=>hpg _,e1]
    refine⟨⟨?_,h.rank.same (WA ht U), ?_⟩,e1,e2, fun c q=>q.refW.refW,rfl⟩
    · have h1:=(h.ref.ref hal).ref (s:=s) (by
        rcases hal with q | q
        · exact .inl q
        · exact .inr (Jv.2 q))
      have h2:=(h1.put (.inr (id,k,false)) s).put (.inr (id,k,true)) s
      have h3:=h2.fn (g:=QJ {L with tr:=Xi L.tr id (some {t with lv:=Xi t.lv k (some (YZ t k s a))}),sh:=J1 (J1 L.sh s) s}) (Y0 (L':={L with tr:=Xi L.tr id (some {t with lv:=Xi t.lv k (some (YZ t k s a))}),sh:=J1 (J1 L.sh s) s}) (t':={t with lv:=Xi t.lv k (some (YZ t k s a))}) (x:=YZ t k s a) U U ht U)
      refine h3.ext fun j hj=> ?_
      rw[XM (by simp),Ks ht hx',Ks ht hx',Ja (s:=0) hj];omega
    · rw[e2]; exact h.agree.put h.agree.tou
theorem TouR.inv (hT:TouR L V id t k L1 V1 t1 x1) (ht:L.tr id=some t) (h:LvI m L V):
    LvI m L1 V1∧Wl V1 x1=Zo (Q1 L V) id k∧Q1 L1 V1=Z6 (Q1 L V) id k (Zo (Q1 L V) id k)∧(∀c,AliveLe V c→AliveLe V1 c)∧L1.pres=L.pres:=hT.invX ht h fun _ _=>Int.le_refl _
end
end Go.Proofs.YtkcjfoaejijdoaaGreatDoor
namespace Go.Proofs.YtkcjfoaejijdoaaGreatDoor
open Go.RowKit M
variable [Inhabited SlW]
section
variable {L L1 L':LvD} {V V1 V':VS} {id:Int} {t t1:TrD} {k:KD} {x x1:LfD} {m Fr:Nat} {s e:Int}
def OwnI (L:LvD) (V:VS) (p:Pl) (m Fr:Nat) (L':LvD) (V':VS) (s e:Int):Prop:=
  LvI m L' V'∧Q1 L' V'=Q1 L V∧(∀c,AliveLe V c→AliveLe V' (c+1))∧(∀c,AliveLe V c→AliveLe V' c∨AliveLe V' (c+1))∧
  ((e=6∧s=0∧Hi V Fr)∨(e=0∧s≠0∧Zc V' s=1∧QJ L' p=s))
theorem M5 {f f':Pl→Int} {p:Pl} (h:RefI f V (fun _=>0)) (h1:1≤s) (hn:V s=none) (ho:Xq V (f p)) (hf: ∀q,f' q=UA f p s q):
    RefI f' (Zb (Xi V s (some (1,XH V (f p)))) (f p)) (fun _=>0)∧(∀q,XH (Zb (Xi V s (some (1,XH V (f p)))) (f p)) (f' q)=XH V (f q))∧Zb (Xi V s (some (1,XH V (f p)))) (f p) s=some (1,XH V (f p)):= by
  have hl:(XH V (f p)).length=64:= by
    cases q:V (f p)with
    | none=>
      rcases ho with e | e
      · rw[e,WG h.zero]; simp [zer]
      · exact absurd q e
    | some x=> rw[JN q]; exact(h.2 _ x q).2.2
  generalize ho':f p=o at *
  have hso:o≠s:= fun e=> by
    subst e
    rcases ho with e | e
    · omega
    · exact absurd hn e
  have hoa:Xq (Xi V s (some (1,XH V o))) o:= by
    rcases ho with e | e
    · exact .inl e
    · refine .inr ?_; rw[Q7 hso]; exact e
  have a1:=(((h.fresh hn h1 hl).put p s).fn hf).unr hoa
  rw[ho']at a1
  have a2:RefI f' (Zb (Xi V s (some (1,XH V o))) o) (fun _=>0):=a1.ext fun j hj=> by omega
  have a3:Zb (Xi V s (some (1,XH V o))) o s=some (1,XH V o):= by
    cases q:V o with
    | none=> rw[Vm (by rw[Q7 hso]; exact q),Qy]
    | some x=>
      rw[Yw (x:=x) (by rw[Q7 hso]; exact q)]
      split<;> rw[Q7 (fun e=>hso e.symm),Qy]
  refine⟨a2, fun q=> ?_,a3⟩
  by_cases e:q=p
  · subst e
    rw[hf,X4,JN a3,ho']
  · have e1:f' q=f q:= by rw[hf,XM e]
    have e2:f q≠s:=h.none_held hn (by omega) (by omega)
    have h0:Xi V s (some (1,XH V o)) 0=none:= by rw[Q7 (by omega)]; exact h.zero
    rw[RV h0 (a2.alive U (by omega)),e1,Vx e2]
theorem OwnP.inv (h:OwnP L V k Fr L' V' s e) (hI:LvI m L V):OwnI L V (.inl k) m Fr L' V' s e∧L'.tr=L.tr:= by
  rcases h with⟨rfl,h2,h3,h4,rfl,rfl⟩ | ⟨rfl,rfl,h3,rfl,rfl⟩ | ⟨rfl,h2,h3,h4,rfl,rfl⟩
  · exact⟨⟨hI,rfl, fun c q=>q.mono (by omega), fun c q=> .inl q,.inr ⟨rfl,h3,h4,h2.symm⟩⟩,rfl⟩
  · exact⟨⟨hI,rfl, fun c q=>q.mono (by omega), fun c q=> .inl q,.inl ⟨rfl,rfl,h3⟩⟩,rfl⟩
  · generalize hL':({L with pres:=Zv L.pres k s,sh:=Jq (Xi V s (some (1,XH V (L.pres k)))) L.sh (L.pres k)}:LvD)=L'
    have hp:L'.pres=Zv L.pres k s:= by subst hL';rfl
    have hT:L'.tr=L.tr:= by subst hL';rfl
    have hf:=Gb hp hT
    obtain⟨a,b,c⟩:=M5 (p:= .inl k) hI.ref h2 h3 (hI.alive _) hf
    have hh:QJ L (.inl k)=L.pres k:=rfl
    rw[hh]at a b c
    have e1:Q1 L' (Zb (Xi V s (some (1,XH V (L.pres k)))) (L.pres k))=Q1 L V:= by
      rw[VM (V:=V) hp hT fun p hp=> ?_]
      · have h5:=b (.inl k)
        rw[hf,X4,hh]at h5
        have e2:UA (Q1 L V).pres k (XH (Zb (Xi V s (some (1,XH V (L.pres k)))) (L.pres k)) s)=(Q1 L V).pres:= by
          funext j
          by_cases e:j=k
          · subst e; rw[X4]; exact h5
          · rw[XM e]
        rw[e2]
      · have h5:=b p
        rw[hf,XM hp]at h5
        exact h5
    refine⟨⟨⟨a, by rw[hT]; exact hI.rank, by rw[e1]; exact hI.agree⟩,e1, fun c q=>q.put.unr, fun c q=> .inr q.put.unr,.inr ⟨rfl, by omega,Z8 c, ?_⟩⟩,hT⟩
    rw[hf,X4]
theorem OwnT.inv (h:OwnT L V id t k x Fr L' V' s e) (ht:L.tr id=some t) (hx:t.lv k=some x) (hI:LvI m L V):OwnI L V (.inr (id,k,true)) m Fr L' V' s e∧L'.pres=L.pres:= by
  have hh:QJ L (.inr (id,k,true))=x.own:= by rw[Xj ht hx];rfl
  rcases h with⟨rfl,h2,h3,h4,rfl,rfl⟩ | ⟨rfl,rfl,h3,rfl,rfl⟩ | ⟨rfl,h2,h3,h4,rfl,rfl⟩
  · exact⟨⟨hI,rfl, fun c q=>q.mono (by omega), fun c q=> .inl q,.inr ⟨rfl,h3,h4, by rw[hh,h2]⟩⟩,rfl⟩
  · exact⟨⟨hI,rfl, fun c q=>q.mono (by omega), fun c q=> .inl q,.inl ⟨rfl,rfl,h3⟩⟩,rfl⟩
  · generalize hL':Z1 {L with sh:=Jq (Xi V s (some (1,XH V x.own))) L.sh x.own} id t k {x with own:=s}=L'
    have hp:L'.pres=L.pres:= by subst hL';rfl
    have hT:L'.tr=Xi L.tr id (some {t with lv:=Xi t.lv k (some {x with own:=s})}):= by subst hL';rfl
    have hf: ∀q,QJ L' q=UA (QJ L) (.inr (id,k,true)) s q:= fun q=> by
      rw[Y0 (x:={x with own:=s}) hp hT ht U]
      by_cases e:q= .inr (id,k,true)
      · subst e; rw[X4,X4]
      · rw[XM e,XM e]
        by_cases e2:q= .inr (id,k,false)
        · subst e2; rw[X4,Xj ht hx];rfl
        · rw[XM e2]
    obtain⟨a,b,c⟩:=M5 (p:= .inr (id,k,true)) hI.ref h2 h3 (hI.alive _) hf
    rw[hh]at a b c
    have e1:Q1 L' (Zb (Xi V s (some (1,XH V x.own))) x.own)=Q1 L V:= by
      rw[Yb (x:={x with own:=s}) hp hT ht U fun p hp1 hp2=> ?_]
      · have e2:Wl (Zb (Xi V s (some (1,XH V x.own))) x.own) {x with own:=s}=Wl V x:= by
          have h5:=b (.inr (id,k,true))
          have h6:=b (.inr (id,k,false))
          rw[hf,X4,hh]at h5
          rw[hf,XM (by simp),Xj ht hx]at h6
          simp at h6
          simp [Wl,h5,h6]
        rw[e2,RT (Zk ht) (ZC hx)]
      · have h5:=b p
        rw[hf,XM hp2]at h5
        exact h5
    refine⟨⟨⟨a, ?_, by rw[e1]; exact hI.agree⟩,e1, fun c q=>q.put.unr, fun c q=> .inr q.put.unr,.inr ⟨rfl, by omega,Z8 c, ?_⟩⟩,hp⟩
    · rw[hT]; exact hI.rank.same (WA ht U)
    · rw[hf,X4]
theorem Ct {f:Pl→Int} {p:Pl} {r a:Int} {pg:Bs} {b:UInt8} (h:RefI f V (fun _=>0)) (hs:V s=some (r,pg)) (hr:Zc V s=1) (hp:f p=s):
    RefI f (Xi V s (some (r,pg.set a.toNat b))) (fun _=>0)∧(∀q,q≠p→XH (Xi V s (some (r,pg.set a.toNat b))) (f q)=XH V (f q))∧XH (Xi V s (some (r,pg.set a.toNat b))) (f p)=(XH V (f p)).set a.toNat b:= by
  have h3:=h.2 s _ hs
  refine⟨h.setc hs (by rw[List.length_set]; exact h3.2.2), fun q hq=> ?_, ?_⟩
  · refine Vx fun e=>hq (h.excl hr U (by omega) hp q e)
  · rw[hp,JN Qy,JN hs]
end
end Go.Proofs.YtkcjfoaejijdoaaGreatDoor
namespace Go.Proofs.YtkcjfoaejijdoaaGreatDoor
open Go.RowKit M
variable [Inhabited SlW]
theorem Yf {κ α:Type} {f:κ→α} {k:κ} {v:α} (h:f k=v):UA f k v=f:= by
  funext j
  by_cases e:j=k
  · subst e; rw[X4,h]
  · rw[XM e]
def SzLe (L:LvD) (c:Nat):Prop:= ∃l:List (Int×KD),l.length≤c∧(∀k,L.pres k≠0→(0,k)∈l)∧ ∀i t k x,L.tr i=some t→t.lv k=some x→(i,k)∈l
theorem SzLe.mono {L:LvD} {c d:Nat} (h:SzLe L c) (hd:c≤d):SzLe L d:= by
  obtain⟨l,a,b⟩:=h
  exact⟨l, by omega,b⟩
theorem SzLe.add {L L':LvD} {c:Nat} (h:SzLe L c) (i:Int) (k:KD) (hp: ∀q,L'.pres q≠0→L.pres q≠0∨(0,q)=(i,k)) (ht: ∀j u q x,L'.tr j=some u→u.lv q=some x→(∃u' x',L.tr j=some u'∧u'.lv q=some x')∨(j,q)=(i,k)):SzLe L' (c+1):= by
  obtain⟨l,a,b,d⟩:=h
  refine⟨(i,k)::l, by simp;omega, fun q hq=> ?_, fun j u q x hj hq=> ?_⟩
  · rcases hp q hq with e | e
    · exact List.mem_cons_of_mem _ (b q e)
    · rw[e]; exact List.mem_cons_self
  · rcases ht j u q x hj hq with⟨u',x',e1,e2⟩ | e
    · exact List.mem_cons_of_mem _ (d j u' q x' e1 e2)
    · rw[e]; exact List.mem_cons_self
theorem SzLe.put {L L':LvD} {c:Nat} {i:Int} {k:KD} {t:TrD} {x:LfD} (h:SzLe L c) (ht:L.tr i=some t) (hp:L'.pres=L.pres) (hT:L'.tr=Xi L.tr i (some {t with lv:=Xi t.lv k (some x)})):SzLe L' (c+1):= by
  refine h.add i k (fun q hq=> .inl (by rwa [hp]at hq)) fun j u q y hj hq=> ?_
  rw[hT]at hj
  by_cases e:j=i
  · subst e
    rw[Qy]at hj
    cases hj
    dsimp only at hq
    by_cases e2:q=k
    · right; rw[e2]
    · rw[Q7 e2]at hq; exact .inl ⟨t,y,ht,hq⟩
  · rw[Q7 e]at hj; exact .inl ⟨u,y,hj,hq⟩
theorem SzLe.putOld {L L':LvD} {c:Nat} {i:Int} {k:KD} {t:TrD} {x y:LfD} (h:SzLe L c) (ht:L.tr i=some t) (hx:t.lv k=some y) (hp:L'.pres=L.pres) (hT:L'.tr=Xi L.tr i (some {t with lv:=Xi t.lv k (some x)})):SzLe L' c:= by
  obtain⟨l,a,b,d⟩:=h
  refine⟨l,a, fun q hq=>b q (by rwa [hp]at hq), fun j u q z hj hq=> ?_⟩
  rw[hT]at hj
  by_cases e:j=i
  · subst e
    rw[Qy]at hj
    cases hj
    dsimp only at hq
    by_cases e2:q=k
    · subst e2; exact d j t q y ht hx
    · rw[Q7 e2]at hq; exact d j t q z ht hq
  · rw[Q7 e]at hj; exact d j u q z hj hq
theorem TouR.sz {L L1:LvD} {V V1:VS} {id:Int} {t t1:TrD} {k:KD} {x1:LfD} {c:Nat} (hT:TouR L V id t k L1 V1 t1 x1) (ht:L.tr id=some t) (h:SzLe L c):SzLe L1 (c+1):= by
  rcases hT with⟨_,rfl,_,_⟩ | ⟨_,a,_,rfl,rfl,_⟩
  · exact h.mono (by omega)
  · exact h.put (x:=x1) ht U U
structure StepI (m:Nat) (L:LvD) (V:VS) (m' d e:Nat) (L':LvD) (V':VS):Prop where
  inv:LvI m' L' V'
  sp:L'.sp=L.sp
  al: ∀c,AliveLe V c→AliveLe V' (c+d)
  sz: ∀c,SzLe L c→SzLe L' (c+e)
theorem StepI.refl {m:Nat} {L:LvD} {V:VS} {d e:Nat} (h:LvI m L V):StepI m L V m d e L V:=⟨h,rfl, fun _ q=>q.mono (by omega), fun _ q=>q.mono (by omega)⟩
theorem StepI.trans {m m1 m2:Nat} {L L1 L2:LvD} {V V1 V2:VS} {d d1 e e1:Nat} (h:StepI m L V m1 d e L1 V1) (h':StepI m1 L1 V1 m2 d1 e1 L2 V2):StepI m L V m2 (d+d1) (e+e1) L2 V2:=
  ⟨h'.inv,h'.sp.trans h.sp, fun c q=>(h'.al _ (h.al c q)).mono (by omega), fun c q=>(h'.sz _ (h.sz c q)).mono (by omega)⟩
theorem StepI.up {m m1:Nat} {L L1:LvD} {V V1:VS} {d d1 e e1:Nat} (h:StepI m L V m1 d e L1 V1) (h1:d≤d1) (h2:e≤e1):StepI m L V m1 d1 e1 L1 V1:=
  ⟨h.inv,h.sp, fun c q=>(h.al c q).mono (by omega), fun c q=>(h.sz c q).mono (by omega)⟩
def MS (V:VS) (Fr:Nat):Prop:= ∀c,AliveLe V c→Fr≤c+1
section
variable {L L1 L':LvD} {V V1 V':VS} {id:Int} {t t1 t':TrD} {k:KD} {x x1 x':LfD} {m Fr:Nat} {s e a r:Int} {pg:Bs} {b:UInt8}
theorem OwnP.sz {c:Nat} (h:OwnP L V k Fr L' V' s e) (hc:SzLe L c):SzLe L' (c+1):= by
  rcases h with⟨_,_,_,_,rfl,_⟩ | ⟨_,_,_,rfl,_⟩ | ⟨_,h2,_,_,_,rfl⟩
  · exact hc.mono (by omega)
  · exact hc.mono (by omega)
  · refine hc.add 0 k (fun q hq=> ?_) fun j u q y hj hq=> .inl ⟨u,y,hj,hq⟩
    by_cases e:q=k
    · right; rw[e]
    · simp only[Zv,if_neg e]at hq; exact .inl hq
theorem OwnT.sz {c:Nat} (h:OwnT L V id t k x Fr L' V' s e) (ht:L.tr id=some t) (hx:t.lv k=some x) (hc:SzLe L c):SzLe L' c:= by
  rcases h with⟨_,_,_,_,rfl,_⟩ | ⟨_,_,_,rfl,_⟩ | ⟨_,h2,_,_,_,rfl⟩
  · exact hc
  · exact hc
  · exact hc.putOld (x:={x with own:=s}) ht hx U U
theorem Ix (he:Q1 L' V'=Q1 L V) (ht:L.tr id=some t) (hx:t.lv k=some x) (ht':L'.tr id=some t') (hx':t'.lv k=some x'):Wl V' x'=Wl V x:= by
  have h1:=Zk (V:=V') ht'
  rw[he,Zk ht]at h1
  have h2:ZF V t=ZF V' t':= by simpa using h1
  have h3:=ZC (V:=V') hx'
  rw[←h2,ZC hx]at h3
  simpa using h3.symm
theorem EA (hI:LvI m L V) (h0:Zc V s=1) (hs:V s=some (r,pg)) (hp:QJ L (.inl k)=s) (ha:0≤a∧a<64):
    LvI m L (Xi V s (some (r,pg.set a.toNat b)))∧Q1 L (Xi V s (some (r,pg.set a.toNat b)))={Q1 L V with pres:=UA (Q1 L V).pres k (((Q1 L V).pres k).set a.toNat b)}:= by
  obtain⟨a1,a2,a3⟩:=Ct (a:=a) (b:=b) hI.ref hs h0 hp
  have e1:Q1 L (Xi V s (some (r,pg.set a.toNat b)))={Q1 L V with pres:=UA (Q1 L V).pres k (((Q1 L V).pres k).set a.toNat b)}:= by
    have hk:L.pres=Zv L.pres k (L.pres k):= by
      funext j;unfold Zv;split
      · rename_i e; rw[e]
      · rfl
    rw[VM (V:=V) (k:=k) (s:=L.pres k) hk U fun p hp=>a2 p hp]
    have h5:XH (Xi V s (some (r,pg.set a.toNat b))) (L.pres k)=((Q1 L V).pres k).set a.toNat b:=a3
    rw[h5]
  exact⟨⟨a1,hI.rank, by rw[e1]; exact hI.agree⟩,e1⟩
theorem E9 (hI:LvI m L V) (h0:Zc V s=1) (hs:V s=some (r,pg)) (hp:QJ L (.inr (id,k,true))=s) (ht:L.tr id=some t) (hx:t.lv k=some x) (ha:0≤a∧a<64):
    LvI m (Z1 L id t k {x with wr:=x.wr ||| (1#64<<<a.toNat)}) (Xi V s (some (r,pg.set a.toNat b)))∧
    Q1 (Z1 L id t k {x with wr:=x.wr ||| (1#64<<<a.toNat)}) (Xi V s (some (r,pg.set a.toNat b)))=Z6 (Q1 L V) id k {Wl V x with own:=(Wl V x).own.set a.toNat b,wr:=x.wr ||| (1#64<<<a.toNat)}:= by
  obtain⟨a1,a2,a3⟩:=Ct (a:=a) (b:=b) hI.ref hs h0 hp
  generalize hL':Z1 L id t k {x with wr:=x.wr ||| (1#64<<<a.toNat)}=L'
  have hP:L'.pres=L.pres:= by subst hL';rfl
  have hT:L'.tr=Xi L.tr id (some {t with lv:=Xi t.lv k (some {x with wr:=x.wr ||| (1#64<<<a.toNat)})}):= by subst hL';rfl
  have hf: ∀q,QJ L' q=QJ L q:= fun q=> by
    rw[Y0 (x:={x with wr:=x.wr ||| (1#64<<<a.toNat)}) hP hT ht U]
    dsimp only
    rw[Yf (f:=QJ L) (v:=x.base) (by rw[Xj ht hx];rfl),Yf (by rw[Xj ht hx];rfl)]
  have e1:Q1 L' (Xi V s (some (r,pg.set a.toNat b)))=Z6 (Q1 L V) id k {Wl V x with own:=(Wl V x).own.set a.toNat b,wr:=x.wr ||| (1#64<<<a.toNat)}:= by
    rw[Yb (x:={x with wr:=x.wr ||| (1#64<<<a.toNat)}) hP hT ht U fun p _ h2=>a2 p h2]
    congr 1
    have h3:=a2 (.inr (id,k,false)) (by simp)
    rw[Xj ht hx]at h3 a3
    simp at h3 a3
    simp only[Wl,h3,a3]
  refine⟨⟨a1.fn hf, by rw[hT]; exact hI.rank.same (WA ht U), ?_⟩,e1⟩
  rw[e1]
  refine hI.agree.put fun j hj hw=> ?_
  have h4:=hI.agree id _ k _ (Zk ht) (ZC hx) j hj
  dsimp only at hw⊢
  rw[BitVec.getLsbD_or,Bool.or_eq_false_iff]at hw
  rw[h4 hw.1]
  have h5:a.toNat≠j:= fun q=> by
    have :=hw.2
    rw[q,BitVec.getLsbD_shiftLeft]at this
    simp [hj]at this
  rw[List.getElem?_set_ne h5]
end
end Go.Proofs.YtkcjfoaejijdoaaGreatDoor
