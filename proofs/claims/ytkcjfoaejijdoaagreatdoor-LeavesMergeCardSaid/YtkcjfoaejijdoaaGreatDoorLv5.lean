/- leaves: references, plain -/
import Derived.Test.YtkcjfoaejijdoaaGreatDoorLv3
set_option linter.unusedSectionVars false
set_option linter.unusedVariables false
namespace Go.Proofs.YtkcjfoaejijdoaaGreatDoor
open Go.RowKit M
variable [Inhabited SlW]
open Classical in
noncomputable def UV {κ α:Type} (f:κ→α) (k:κ) (v:α):κ→α:= fun j=> if j=k then v else f j
theorem XF {κ α:Type} {f:κ→α} {k:κ} {v:α}:UV f k v k=v:= by unfold UV; rw[if_pos U]
theorem XQ {κ α:Type} {f:κ→α} {k j:κ} {v:α} (h:j≠k):UV f k v j=f j:= by unfold UV; rw[if_neg h]
def Pd {κ:Type} (f:κ→Int) (s:Int) (n:Nat):Prop:= ∃l:List κ,l.Nodup∧(∀p,p∈l↔f p=s)∧l.length=n
section
variable {κ:Type} {f g:κ→Int} {s v:Int} {n m:Nat} {p:κ}
theorem U3 (h: ∀p,g p=s↔f p=s) (hc:Pd f s n):Pd g s n:= by
  obtain⟨l,a,b,c⟩:=hc
  exact⟨l,a, fun p=>(b p).trans (h p).symm,c⟩
theorem Fo (h:Pd f s n) (h':Pd f s m):n=m:= by
  obtain⟨l,a,b,rfl⟩:=h
  obtain⟨l',a',b',rfl⟩:=h'
  exact((List.perm_ext_iff_of_nodup a a').2 fun k=>(b k).trans (b' k).symm).length_eq
theorem I2 (hp:f p≠s) (h:Pd f s n):Pd (UV f p s) s (n+1):= by
  obtain⟨l,a,b,c⟩:=h
  refine⟨p::l,List.nodup_cons.2 ⟨fun q=>hp ((b p).1 q),a⟩, fun q=> ?_, by simp [c]⟩
  by_cases e:q=p
  · subst e; rw[XF]; simp
  · rw[XQ e,List.mem_cons,b q]; simp [e]
theorem TR (hp:f p=s) (hv:v≠s) (h:Pd f s n): ∃m,n=m+1∧Pd (UV f p v) s m:= by
  obtain⟨l,a,b,c⟩:=h
  obtain⟨x,y,rfl⟩:=List.append_of_mem ((b p).2 hp)
  have ha:(x++y).Nodup∧p∉x++y:= by
    have :=(List.perm_middle (l₁:=x) (a:=p) (l₂:=y)).nodup_iff.1 a
    rw[List.nodup_cons]at this
    exact⟨this.2,this.1⟩
  refine⟨(x++y).length, by rw[←c]; simp;omega,x++y,ha.1, fun q=> ?_,rfl⟩
  by_cases e:q=p
  · subst e; rw[XF]; exact⟨fun h=>absurd h ha.2, fun h=>absurd h hv⟩
  · rw[XQ e,←b q]; simp [e]
theorem BI (h:Pd f s n) (hp:f p=s):1≤n:= by
  obtain⟨l,a,b,rfl⟩:=h
  exact List.length_pos_of_mem ((b p).2 hp)
theorem cnt_one (h:Pd f s 1) (hp:f p=s): ∀q,f q=s→q=p:= by
  obtain⟨l,a,b,c⟩:=h
  obtain⟨x,rfl⟩:=List.length_eq_one_iff.1 c
  intro q hq
  have h1:=(b p).2 hp
  have h2:=(b q).2 hq
  simp at h1 h2
  rw[h1,h2]
end
def dl (s:Int):Int→Int:= fun j=> if j=s then 1 else 0
theorem W7 {s:Int}:dl s s=1:= by unfold dl; rw[if_pos U]
theorem J4 {s j:Int} (h:j≠s):dl s j=0:= by unfold dl; rw[if_neg h]
def RefI {κ:Type} (f:κ→Int) (V:VS) (ex:Int→Int):Prop:=(∀s,s≠0→ ∃n:Nat,Pd f s n∧Zm V s=n+ex s)∧ ∀s x,V s=some x→1≤x.1∧1≤s∧x.2.length=64
section
variable {κ:Type} {f g:κ→Int} {V:VS} {ex ex':Int→Int} {s:Int} {p:κ}
theorem RefI.zero (h:RefI f V ex):V 0=none:= by
  cases q:V 0 with
  | none=>rfl
  | some x=> have :=(h.2 0 x q).2.1;omega
theorem RefI.ext (h:RefI f V ex) (he: ∀j,j≠0→ex' j=ex j):RefI f V ex':=⟨fun s hs=> by obtain⟨n,a,b⟩:=h.1 s hs; exact⟨n,a, by rw[he s hs]; exact b⟩,h.2⟩
theorem RefI.fn (h:RefI f V ex) (he: ∀p,g p=f p):RefI g V ex:= by
  have :g=f:=funext he
  rw[this]; exact h
theorem YJ (h:V s=none):Zm V s=0:= by unfold Zm; rw[h]
theorem Wf {x:Int×Bs} (h:V s=some x):Zm V s=x.1:= by unfold Zm; rw[h]
theorem RefI.alive_of (h:RefI f V ex) (hr:1≤Zm V s):V s≠none:= fun q=> by rw[YJ q]at hr;omega
theorem RefI.aliveN (h:RefI f V ex) (hp:f p=s) (he:s≠0→0≤ex s):X5 V s:= by
  by_cases h0:s=0
  · exact .inl h0
  · obtain⟨n,a,b⟩:=h.1 s h0
    have :=BI a hp
    have :=he h0
    exact .inr (h.alive_of (by omega))
theorem RefI.alive (h:RefI f V ex) (hp:f p=s) (he:0≤ex s):X5 V s:=h.aliveN hp fun _=>he
theorem RefI.ref (h:RefI f V ex) (ha:X5 V s):RefI f (refW V s) (fun j=>ex j+dl s j):= by
  by_cases h0:s=0
  · have e:refW V s=V:= by unfold refW; rw[if_pos h0]
    rw[e]
    exact h.ext fun j hj=> by rw[J4 (by omega)];omega
  have e:refW V s=Hv V s:= by unfold refW; rw[if_neg h0]
  rw[e]
  cases q:V s with
  | none => rcases ha with ha | ha
            · exact absurd ha h0
            · exact absurd q ha
  | some x=>
    have e2:Hv V s=Xu V s (some (x.1+1,x.2)):= by unfold Hv; rw[q]
    rw[e2]
    refine⟨fun j hj=> ?_, fun j y hy=> ?_⟩
    · obtain⟨n,a,b⟩:=h.1 j hj
      refine⟨n,a, ?_⟩; dsimp only
      by_cases e3:j=s
      · subst e3
        rw[Wf Qy,W7]
        rw[Wf q]at b
        dsimp only;omega
      · have :Zm (Xu V s (some (x.1+1,x.2))) j=Zm V j:= by unfold Zm; rw[QF e3]
        rw[this,J4 e3];omega
    · by_cases e3:j=s
      · subst e3
        rw[Qy]at hy
        cases hy
        obtain⟨a,b,c⟩:=h.2 j x q
        exact⟨by dsimp only;omega,b,c⟩
      · rw[QF e3]at hy; exact h.2 j y hy
theorem VJ (h:V s=none):Zj V s=V:= by unfold Zj; rw[h]
theorem YH {x:Int×Bs} (h:V s=some x):Zj V s= if 1<x.1 then Xu V s (some (x.1 -1,x.2))else Xu V s none:= by unfold Zj; rw[h]
theorem RefI.unr (h:RefI f V ex) (ha:X5 V s):RefI f (Zj V s) (fun j=>ex j -dl s j):= by
  cases q:V s with
  | none=>
    rcases ha with ha | ha
    · rw[VJ q]
      exact h.ext fun j hj=> by rw[J4 (by omega)];omega
    · exact absurd q ha
  | some x=>
    have hx:=h.2 s x q
    refine⟨fun j hj=> ?_, fun j y hy=> ?_⟩
    · obtain⟨n,a,b⟩:=h.1 j hj
      refine⟨n,a, ?_⟩; dsimp only
      rw[YH q]
      by_cases e3:j=s
      · subst e3
        rw[W7]
        rw[Wf q]at b
        split
        · rw[Wf Qy]; dsimp only;omega
        · rw[YJ Qy];omega
      · rw[J4 e3]
        have : ∀o,Zm (Xu V s o) j=Zm V j:= fun o=> by unfold Zm; rw[QF e3]
        split<;>(rw[this];omega)
    · rw[YH q]at hy
      by_cases e3:j=s
      · subst e3
        split at hy
        · rw[Qy]at hy
          cases hy
          exact⟨by dsimp only;omega,hx.2⟩
        · rw[Qy]at hy; cases hy
      · split at hy<;>(rw[QF e3]at hy; exact h.2 j y hy)
theorem RefI.put (h:RefI f V ex) (p:κ) (v:Int):RefI (UV f p v) V (fun j=>ex j+dl (f p) j -dl v j):= by
  refine⟨fun j hj=> ?_,h.2⟩
  obtain⟨n,a,b⟩:=h.1 j hj
  by_cases e1:f p=j
  · by_cases e2:v=j
    · refine⟨n,U3 (fun q=> ?_) a, ?_⟩
      · by_cases e:q=p
        · subst e; rw[XF,e1,e2]
        · rw[XQ e]
      · dsimp only; rw[e1,e2,W7];omega
    · obtain⟨m,rfl,c⟩:=TR e1 e2 a
      refine⟨m,c, ?_⟩; dsimp only
      rw[e1,W7,J4 (fun q=>e2 q.symm)];omega
  · by_cases e2:v=j
    · subst e2
      refine⟨n+1,I2 e1 a, ?_⟩; dsimp only
      rw[W7,J4 (fun q=>e1 q.symm)];omega
    · refine⟨n,U3 (fun q=> ?_) a, ?_⟩
      · by_cases e:q=p
        · subst e; rw[XF]; exact⟨fun q=>absurd q e2, fun q=>absurd q e1⟩
        · rw[XQ e]
      · dsimp only; rw[J4 (fun q=>e1 q.symm),J4 (fun q=>e2 q.symm)];omega
theorem RefI.fresh (h:RefI f V ex) {pg:Bs} (hn:V s=none) (h1:1≤s) (hl:pg.length=64):RefI f (Xu V s (some (1,pg))) (fun j=>ex j+dl s j):= by
  refine⟨fun j hj=> ?_, fun j y hy=> ?_⟩
  · obtain⟨n,a,b⟩:=h.1 j hj
    refine⟨n,a, ?_⟩; dsimp only
    by_cases e:j=s
    · subst e
      rw[Wf Qy,W7]
      rw[YJ hn]at b
      dsimp only;omega
    · have :Zm (Xu V s (some (1,pg))) j=Zm V j:= by unfold Zm; rw[QF e]
      rw[this,J4 e];omega
  · by_cases e:j=s
    · subst e
      rw[Qy]at hy
      cases hy
      exact⟨by dsimp only;omega,h1,hl⟩
    · rw[QF e]at hy; exact h.2 j y hy
theorem RefI.setc (h:RefI f V ex) {pg pg':Bs} {r:Int} (hn:V s=some (r,pg)) (hl:pg'.length=64):RefI f (Xu V s (some (r,pg'))) ex:= by
  refine⟨fun j hj=> ?_, fun j y hy=> ?_⟩
  · obtain⟨n,a,b⟩:=h.1 j hj
    refine⟨n,a, ?_⟩
    by_cases e:j=s
    · subst e
      rw[Wf Qy]
      rw[Wf hn]at b
      exact b
    · have :Zm (Xu V s (some (r,pg'))) j=Zm V j:= by unfold Zm; rw[QF e]
      rw[this]; exact b
  · by_cases e:j=s
    · subst e
      rw[Qy]at hy
      cases hy
      have :=h.2 j _ hn
      exact⟨this.1,this.2.1,hl⟩
    · rw[QF e]at hy; exact h.2 j y hy
theorem RefI.none_held (h:RefI f V ex) (hn:V s=none) (h0:s≠0) (he:0≤ex s):f p≠s:= fun q=> by
  rcases h.alive q he with h1 | h1
  · exact h0 h1
  · exact h1 hn
theorem RefI.excl (h:RefI f V ex) (hr:Zm V s=1) (he:ex s=0) (h0:s≠0) (hp:f p=s): ∀q,f q=s→q=p:= by
  obtain⟨n,a,b⟩:=h.1 s h0
  have :n=1:= by omega
  subst this
  exact cnt_one a hp
end
section
variable {V:VS} {s j:Int}
theorem Yd {x:Int×Bs} (h:V j=some x):XH V j=x.2:= by unfold XH; rw[h]
theorem Wk (h:V 0=none):XH V 0=zer:= by unfold XH; rw[h];rfl
theorem Oc {V':VS} (h:V' j=V j):XH V' j=XH V j:= by unfold XH; rw[h]
theorem VV {o:Option (Int×Bs)} (h:j≠s):XH (Xu V s o) j=XH V j:=Oc (QF h)
theorem pg_refV:XH (Hv V s) j=XH V j:= by
  unfold Hv
  cases q:V s with
  | none=>rfl
  | some x=>
    dsimp only
    by_cases e:j=s
    · subst e; rw[Yd Qy,Yd q]
    · exact VV e
theorem Yg:XH (refW V s) j=XH V j:= by unfold refW;split;rfl; exact pg_refV
theorem G9 (h0:V 0=none) (h:X5 (Zj V s) j):XH (Zj V s) j=XH V j:= by
  cases q:V s with
  | none=> rw[VJ q]
  | some x=>
    by_cases e:j=s
    · subst e
      rw[YH q]at h⊢
      split
      · rw[Yd Qy,Yd q]
      · rename_i hx
        rw[if_neg hx]at h
        rcases h with h | h
        · subst h; rw[h0]at q; cases q
        · exact absurd Qy h
    · rw[YH q];split<;> exact VV e
theorem M4 (h:Zj V s j≠none):V j≠none:= by
  cases q:V s with
  | none=>rwa [VJ q]at h
  | some x=>
    by_cases e:j=s
    · subst e; rw[q]; simp
    · rw[YH q]at h
      split at h<;>rwa [QF e]at h
def AliveLe (V:VS) (n:Nat):Prop:= ∃l:List Int,l.length≤n∧ ∀j,V j≠none→j∈l
theorem AliveLe.sub {V':VS} {n:Nat} (h:AliveLe V n) (hs: ∀j,V' j≠none→V j≠none):AliveLe V' n:= by
  obtain⟨l,a,b⟩:=h
  exact⟨l,a, fun j hj=>b j (hs j hj)⟩
theorem AliveLe.mono {n m:Nat} (h:AliveLe V n) (hm:n≤m):AliveLe V m:= by
  obtain⟨l,a,b⟩:=h
  exact⟨l, by omega,b⟩
theorem AliveLe.refW {n:Nat} (h:AliveLe V n):AliveLe (refW V s) n:=h.sub fun j=>JB.1
theorem AliveLe.unr {n:Nat} (h:AliveLe V n):AliveLe (Zj V s) n:=h.sub fun j=>M4
theorem AliveLe.put {n:Nat} {o:Option (Int×Bs)} (h:AliveLe V n):AliveLe (Xu V s o) (n+1):= by
  obtain⟨l,a,b⟩:=h
  refine⟨s::l, by simp;omega, fun j hj=> ?_⟩
  by_cases e:j=s
  · simp [e]
  · rw[QF e]at hj; exact List.mem_cons_of_mem _ (b j hj)
theorem Zp {α:Type}: ∀{a b:List α},a.Nodup→(∀x∈a,x∈b)→a.length≤b.length
  | [],_,_,_=> by simp
  | x::a,b,h,hs=> by
    rw[List.nodup_cons]at h
    obtain⟨u,v,rfl⟩:=List.append_of_mem (hs x (by simp))
    have :=Zp (a:=a) (b:=u++v) h.2 fun y hy=> by
      have h1:=hs y (List.mem_cons_of_mem _ hy)
      have h2:y≠x:= fun q=>h.1 (q▸hy)
      simpa [h2]using h1
    simp at this⊢;omega
theorem Ue {n m:Nat} (h:AliveLe V n) (h':H3 V m):m≤n:= by
  obtain⟨l,a,b⟩:=h
  obtain⟨l',rfl,c,d⟩:=h'
  have :=Zp c fun j hj=>b j (d j hj)
  omega
end
abbrev Pl:=KD⊕(Int×KD×Bool)
def QP (L:LvD):Pl→Int
  | .inl k=>L.pres k
  | .inr (i,k,o)=> match L.tr i with | none=>0 | some t=> match t.lv k with | none=>0 | some x=> if o=true then x.own else x.base
theorem GF {L L':LvD} {k:KD} {s:Int} (hp:L'.pres=Z6 L.pres k s) (ht:L'.tr=L.tr): ∀p,QP L' p=UV (QP L) (.inl k) s p:= fun p=> by
  cases p with
  | inl j=>
    by_cases e:j=k
    · subst e; rw[XF]; simp [QP,hp,Z6]
    · rw[XQ (by simpa using e)]; simp [QP,hp,Z6,e]
  | inr q=> rw[XQ (by simp)]; simp [QP,ht]
theorem YK {L L':LvD} {i:Int} {t t':TrD} {k:KD} {x:LfD} (hp:L'.pres=L.pres) (hT:L'.tr=Xu L.tr i (some t')) (ht:L.tr i=some t) (hl:t'.lv=Xu t.lv k (some x)):
    ∀p,QP L' p=UV (UV (QP L) (.inr (i,k,false)) x.base) (.inr (i,k,true)) x.own p:= fun p=> by
  cases p with
  | inl j=> rw[XQ (by simp),XQ (by simp)]; simp [QP,hp]
  | inr q=>
    obtain⟨i2,k2,o⟩:=q
    by_cases e:i2=i
    · subst e
      by_cases e2:k2=k
      · subst e2
        cases o with
        | true=> rw[XF]; simp [QP,hT,Qy,hl]
        | false=> rw[XQ (by simp),XF]; simp [QP,hT,Qy,hl]
      · rw[XQ (by simp [e2]),XQ (by simp [e2])]
        simp only[QP,hT,Qy,ht,hl]
        rw[QF e2]
    · rw[XQ (by simp [e]),XQ (by simp [e])]
      simp only[QP,hT]
      rw[QF e]
theorem Xt {L:LvD} {i:Int} {t:TrD} {k:KD} {x:LfD} {o:Bool} (ht:L.tr i=some t) (hx:t.lv k=some x):QP L (.inr (i,k,o))= if o=true then x.own else x.base:= by simp only[QP,ht,hx]
theorem KS {L:LvD} {i:Int} {t:TrD} {k:KD} {o:Bool} (ht:L.tr i=some t) (hx:t.lv k=none):QP L (.inr (i,k,o))=0:= by simp only[QP,ht,hx]
structure LfA where
  base:Bs
  own:Bs
  rd:BitVec 64
  wr:BitVec 64
structure TrA where
  parent:Int
  lv:KD→Option LfA
  dr:Bs→Bool
structure LvA where
  pres:KD→Bs
  tr:Int→Option TrA
def Wu (V:VS) (x:LfD):LfA:=⟨XH V x.base,XH V x.own,x.rd,x.wr⟩
def ZG (V:VS) (t:TrD):TrA:=⟨t.parent, fun k=>(t.lv k).map (Wu V),t.dr⟩
def Q1 (L:LvD) (V:VS):LvA:=⟨fun k=>XH V (L.pres k), fun i=>(L.tr i).map (ZG V)⟩
def Yz (A:LvA):Nat→Int→KD→Bs
  | 0,_,_=>zer
  | n+1,id,k=> if id=0 then A.pres k else match A.tr id with | none=>zer | some t=> match t.lv k with | some x=>x.own | none=> if t.dr k.1=true then zer else Yz A n t.parent k
def Wq (A:LvA) (id:Int) (k:KD):Bs:=Yz A (Zg+1) id k
noncomputable def ZJ (A:LvA) (id:Int) (k:KD) (x:LfA):LvA:= match A.tr id with | none=>A | some t=>{A with tr:=Xu A.tr id (some {t with lv:=Xu t.lv k (some x)})}
def Z0 (A:LvA) (id:Int) (k:KD):LfA:= match A.tr id with | none=>⟨zer,zer,0#64,0#64⟩ | some t=> match t.lv k with | some x=>x | none=>⟨Wq A id k,Wq A id k,0#64, if t.dr k.1=true then BitVec.allOnes 64 else 0#64⟩
theorem Zh {L:LvD} {V:VS} {i:Int} {t:TrD} (h:L.tr i=some t):(Q1 L V).tr i=some (ZG V t):= by simp [Q1,h]
theorem ZR {V:VS} {t:TrD} {k:KD} {x:LfD} (h:t.lv k=some x):(ZG V t).lv k=some (Wu V x):= by simp [ZG,h]
theorem V8 {V:VS} {t:TrD} {k:KD} (h:t.lv k=none):(ZG V t).lv k=none:= by simp [ZG,h]
theorem CK {L:LvD} {V:VS} (h0:V 0=none): ∀n id k,XH V (J1 L n id k)=Yz (Q1 L V) n id k
  | 0,_,_=>Wk h0
  | n+1,id,k=> by
    unfold J1 Yz
    split
    · rfl
    · cases ht:L.tr id with
      | none=> rw[show(Q1 L V).tr id=none by simp [Q1,ht]]; exact Wk h0
      | some t=>
        rw[Zh ht]; dsimp only
        cases hx:t.lv k with
        | some x=> rw[ZR hx];rfl
        | none=>
          rw[V8 hx]; dsimp only
          show XH V (if t.dr k.1=true then 0 else _)= if t.dr k.1=true then zer else _
          split
          · exact Wk h0
          · exact CK h0 n t.parent k
theorem MC (L:LvD): ∀n id k,J1 L n id k=0∨ ∃p,QP L p=J1 L n id k
  | 0,_,_=> .inl rfl
  | n+1,id,k=> by
    unfold J1
    split
    · exact .inr ⟨.inl k,U⟩
    · cases ht:L.tr id with
      | none=> exact .inl rfl
      | some t=>
        dsimp only
        cases hx:t.lv k with
        | some x=> exact .inr ⟨.inr (id,k,true), by rw[Xt ht hx];rfl⟩
        | none=>
          dsimp only
          split
          · exact .inl U
          · exact MC L n t.parent k
theorem Cu {V V':VS} {t:TrD} (h: ∀k x,t.lv k=some x→XH V' x.base=XH V x.base∧XH V' x.own=XH V x.own):ZG V' t=ZG V t:= by
  unfold ZG
  congr 1
  funext k
  cases q:t.lv k with
  | none=>rfl
  | some x=> obtain⟨a,b⟩:=h k x q; simp [Wu,a,b]
theorem UU {L:LvD} {V V':VS} (h: ∀p,XH V' (QP L p)=XH V (QP L p)):Q1 L V'=Q1 L V:= by
  unfold Q1
  congr 1
  · funext k; exact h (.inl k)
  · funext i
    cases q:L.tr i with
    | none=>rfl
    | some t=>
      refine congrArg some (Cu fun k x hx=> ?_)
      have h1:=h (.inr (i,k,false))
      have h2:=h (.inr (i,k,true))
      rw[Xt q hx]at h1 h2
      exact⟨h1,h2⟩
theorem Wg {A:LvA} {id:Int} {k:KD} {x:LfA} {t:TrA} (h:A.tr id=some t):ZJ A id k x={A with tr:=Xu A.tr id (some {t with lv:=Xu t.lv k (some x)})}:= by unfold ZJ; rw[h]
theorem G6 {A:LvA} {id:Int} {k:KD} {x:LfA} {t:TrA} (h:A.tr id=some t) (hx:t.lv k=some x):ZJ A id k x=A:= by
  rw[Wg h,WU hx,WU h]
theorem Um {A:LvA} {id:Int} {k:KD} {x:LfA} {t:TrA} (h:A.tr id=some t) (hx:t.lv k=some x):Z0 A id k=x:= by unfold Z0; rw[h]; dsimp only; rw[hx]
theorem Gu {A:LvA} {id:Int} {k:KD} {t:TrA} (h:A.tr id=some t) (hx:t.lv k=none):Z0 A id k=⟨Wq A id k,Wq A id k,0#64, if t.dr k.1=true then BitVec.allOnes 64 else 0#64⟩:= by unfold Z0; rw[h]; dsimp only; rw[hx]
theorem Yl {L L':LvD} {V V':VS} {i:Int} {t t':TrD} {k:KD} {x:LfD} (hp:L'.pres=L.pres) (hT:L'.tr=Xu L.tr i (some t')) (ht:L.tr i=some t) (hl:t'={t with lv:=Xu t.lv k (some x)})
    (h: ∀p,p≠ .inr (i,k,false)→p≠ .inr (i,k,true)→XH V' (QP L p)=XH V (QP L p)):Q1 L' V'=ZJ (Q1 L V) i k (Wu V' x):= by
  rw[Wg (Zh ht)]
  unfold Q1
  rw[hp,hT]
  congr 1
  · funext j; exact h (.inl j) (by simp) (by simp)
  · funext j
    by_cases e:j=i
    · subst e
      rw[Qy,Qy]
      subst hl
      simp only[Option.map_some]
      congr 1
      unfold ZG
      congr 1
      funext q
      by_cases e2:q=k
      · subst e2; rw[Qy]; show Option.map (Wu V') (Xu t.lv q (some x) q)=_; rw[Qy];rfl
      · rw[QF e2]
        show Option.map (Wu V') (Xu t.lv k (some x) q)=Option.map (Wu V) (t.lv q)
        rw[QF e2]
        cases hq:t.lv q with
        | none=>rfl
        | some y=>
          have h1:=h (.inr (j,q,false)) (by simp [e2]) (by simp)
          have h2:=h (.inr (j,q,true)) (by simp) (by simp [e2])
          rw[Xt ht hq]at h1 h2
          simp at h1 h2
          simp [Wu,h1,h2]
    · rw[QF e,QF e]
      show Option.map (ZG V') (L.tr j)=Option.map (ZG V) (L.tr j)
      cases q:L.tr j with
      | none=>rfl
      | some u=>
        refine congrArg some (Cu fun k2 y hy=> ?_)
        have h1:=h (.inr (j,k2,false)) (by simp [e]) (by simp)
        have h2:=h (.inr (j,k2,true)) (by simp) (by simp [e])
        rw[Xt q hy]at h1 h2
        exact⟨h1,h2⟩
theorem Kn {L L':LvD} {V V':VS} {k:KD} {s:Int} (hp:L'.pres=Z6 L.pres k s) (hT:L'.tr=L.tr)
    (h: ∀p,p≠ .inl k→XH V' (QP L p)=XH V (QP L p)):Q1 L' V'={Q1 L V with pres:=UV (Q1 L V).pres k (XH V' s)}:= by
  unfold Q1
  rw[hp,hT]
  congr 1
  · funext j
    by_cases e:j=k
    · subst e; rw[XF]; simp [Z6]
    · rw[XQ e]
      have :=h (.inl j) (by simpa using e)
      simp only[Z6,if_neg e]
      exact this
  · funext j
    show Option.map (ZG V') (L.tr j)=Option.map (ZG V) (L.tr j)
    cases q:L.tr j with
    | none=>rfl
    | some u=>
      refine congrArg some (Cu fun k2 y hy=> ?_)
      have h1:=h (.inr (j,k2,false)) (by simp)
      have h2:=h (.inr (j,k2,true)) (by simp)
      rw[Xt q hy]at h1 h2
      exact⟨h1,h2⟩
def RankI (T:Int→Option TrD) (m:Nat):Prop:=T 0=none∧ ∃r:Int→Nat,(∀i,r i≤m)∧ ∀i t,T i=some t→t.parent=0∨(T t.parent≠none∧r t.parent<r i)
theorem MI {T:Int→Option TrD} {r:Int→Nat} (h: ∀i t,T i=some t→t.parent=0∨(T t.parent≠none∧r t.parent<r i)): ∀n i,r i<n→YE T n i
  | 0,i,h0=> by omega
  | n+1,i,h0=> by
    refine .inr ?_
    cases ht:T i with
    | none=>trivial
    | some t=>
      show YE T n t.parent
      rcases h i t ht with e | ⟨_,e⟩
      · rw[e]
        cases n with
        | zero=>rfl
        | succ n=> exact .inl rfl
      · exact MI h n _ (by omega)
theorem RankI.ends {T:Int→Option TrD} {m:Nat} (h:RankI T m) (hm:m<Zg): ∀i,YE T Zg i:= by
  obtain⟨_,r,a,b⟩:=h
  exact fun i=>MI b _ _ (by have :=a i;omega)
theorem RankI.same {T T':Int→Option TrD} {m:Nat} (h:RankI T m) (hs: ∀i,(T' i).map TrD.parent=(T i).map TrD.parent):RankI T' m:= by
  obtain⟨h0,r,a,b⟩:=h
  have hN: ∀i,T' i=none↔T i=none:= fun i=> by
    have :=hs i
    cases q:T i<;> cases q':T' i<;>simp_all
  refine⟨(hN 0).2 h0,r,a, fun i t ht=> ?_⟩
  have h1:=hs i
  rw[ht]at h1
  cases q:T i with
  | none=> rw[q]at h1; simp at h1
  | some u=>
    rw[q]at h1
    have e:t.parent=u.parent:= by simpa using h1
    rcases b i u q with h2 | ⟨h2,h3⟩
    · exact .inl (e.trans h2)
    · exact .inr ⟨fun q=>h2 ((hN _).1 (e▸q)),e▸h3⟩
theorem RankI.none0 {T:Int→Option TrD} {m:Nat} (h:RankI T m) {i:Int} {t:TrD} (ht:T i=some t):i≠0:= fun e=> by subst e; rw[h.1]at ht; cases ht
def Pe (x:LfA):Prop:= ∀j,j<64→x.wr.getLsbD j=false→x.base[j]? =x.own[j]?
def AgL (A:LvA):Prop:= ∀i t k x,A.tr i=some t→t.lv k=some x→Pe x
theorem AgL.put {A:LvA} (h:AgL A) {i:Int} {k:KD} {x:LfA} (hx:Pe x):AgL (ZJ A i k x):= by
  unfold ZJ
  cases ht:A.tr i with
  | none=> exact h
  | some t=>
    intro j u q y hj hq
    dsimp only at hj
    by_cases e:j=i
    · subst e
      rw[Qy]at hj
      cases hj
      dsimp only at hq
      by_cases e2:q=k
      · subst e2; rw[Qy]at hq; cases hq; exact hx
      · rw[QF e2]at hq; exact h j t q y ht hq
    · rw[QF e]at hj; exact h j u q y hj hq
theorem AgL.pres {A:LvA} (h:AgL A) {p:KD→Bs}:AgL {A with pres:=p}:=h
theorem AgL.tou {A:LvA} (h:AgL A) {i:Int} {k:KD}:Pe (Z0 A i k):= by
  unfold Z0
  cases ht:A.tr i with
  | none=> exact fun _ _ _=>rfl
  | some t=>
    dsimp only
    cases hx:t.lv k with
    | none=> exact fun _ _ _=>rfl
    | some x=> exact h i t k x ht hx
def NN (ex:Int→Int):Prop:= ∀j,j≠0→0≤ex j
structure LvX (ex:Int→Int) (m:Nat) (L:LvD) (V:VS):Prop where
  ref:RefI (QP L) V ex
  rank:RankI L.tr m
  agree:AgL (Q1 L V)
abbrev LvI (m:Nat) (L:LvD) (V:VS):Prop:=LvX (fun _=>0) m L V
section
variable {ex:Int→Int} {L L1 L':LvD} {V V1 V':VS} {id:Int} {t t1:TrD} {k:KD} {x1:LfD} {m:Nat}
theorem LvX.zero (h:LvX ex m L V):V 0=none:=h.ref.zero
theorem LvX.sees (h:LvX ex m L V) (id:Int) (k:KD):XH V (Xo L id k)=Wq (Q1 L V) id k:=CK h.zero _ _ _
theorem LvX.aliveX (h:LvX ex m L V) (hx:NN ex) (p:Pl):X5 V (QP L p):=h.ref.aliveN U (hx _)
theorem LvX.aliveSX (h:LvX ex m L V) (hx:NN ex) (id:Int) (k:KD):X5 V (Xo L id k):= by
  rcases MC L (Zg+1) id k with e | ⟨p,e⟩
  · exact .inl e
  · show X5 V (J1 L (Zg+1) id k); rw[←e]; exact h.aliveX hx p
theorem LvX.len (h:LvX ex m L V) {s:Int} (hs:X5 V s):(XH V s).length=64:= by
  cases q:V s with
  | none=>
    rcases hs with rfl | hs
    · rw[Wk h.zero]; simp [zer]
    · exact absurd q hs
  | some x=> rw[Yd q]; exact(h.ref.2 s x q).2.2
theorem LvX.alive (h:LvI m L V) (p:Pl):X5 V (QP L p):=h.aliveX (fun _ _=>Int.le_refl _) p
theorem LvX.aliveS (h:LvI m L V) (id:Int) (k:KD):X5 V (Xo L id k):=h.aliveSX (fun _ _=>Int.le_refl _) id k
theorem TouR.invX (hT:TouR L V id t k L1 V1 t1 x1) (ht:L.tr id=some t) (h:LvX ex m L V) (hx:NN ex):
    LvX ex m L1 V1∧Wu V1 x1=Z0 (Q1 L V) id k∧Q1 L1 V1=ZJ (Q1 L V) id k (Z0 (Q1 L V) id k)∧(∀c,AliveLe V c→AliveLe V1 c)∧L1.pres=L.pres:= by
  have hal:=h.aliveSX hx id k
  have hse:=h.sees id k
  rcases hT with⟨hx',rfl,rfl,rfl⟩ | ⟨hx',a,rfl,rfl,rfl,rfl⟩
  · refine⟨h, ?_, ?_, fun _ q=>q,rfl⟩
    · rw[Um (Zh ht) (ZR hx')]
    · rw[Um (Zh ht) (ZR hx'),G6 (Zh ht) (ZR hx')]
  · generalize hs:Xo L id k=s at *
    have hpg: ∀j,XH (refW (refW V s) s) j=XH V j:= fun j=> by rw[Yg,Yg]
    have e1:Wu (refW (refW V s) s) (Hu t k s a)=Z0 (Q1 L V) id k:= by
      rw[Gu (Zh ht) (V8 hx')]
      unfold Wu Hu
      simp only[hpg,hse]
      rfl
    have e2:Q1 {L with tr:=Xu L.tr id (some {t with lv:=Xu t.lv k (some (Hu t k s a))}),sh:=JM (JM L.sh s) s} (refW (refW V s) s)=ZJ (Q1 L V) id k (Z0 (Q1 L V) id k):= by
      rw[Yl (L:=L) (V:=V) (k:=k) (x:=Hu t k s a) (L':={L with tr:=Xu L.tr id (some {t with lv:=Xu t.lv k (some (Hu t k s a))}),sh:=JM (JM L.sh s) s}) U U ht U fun p _ _=>hpg _,e1]
    refine⟨⟨?_,h.rank.same (WO ht U), ?_⟩,e1,e2, fun c q=>q.refW.refW,rfl⟩
    · have h1:=(h.ref.ref hal).ref (s:=s) (by
        rcases hal with q | q
        · exact .inl q
        · exact .inr (JB.2 q))
      have h2:=(h1.put (.inr (id,k,false)) s).put (.inr (id,k,true)) s
      have h3:=h2.fn (g:=QP {L with tr:=Xu L.tr id (some {t with lv:=Xu t.lv k (some (Hu t k s a))}),sh:=JM (JM L.sh s) s}) (YK (L':={L with tr:=Xu L.tr id (some {t with lv:=Xu t.lv k (some (Hu t k s a))}),sh:=JM (JM L.sh s) s}) (t':={t with lv:=Xu t.lv k (some (Hu t k s a))}) (x:=Hu t k s a) U U ht U)
      refine h3.ext fun j hj=> ?_
      rw[XQ (by simp),KS ht hx',KS ht hx',J4 (s:=0) hj];omega
    · rw[e2]; exact h.agree.put h.agree.tou
theorem TouR.inv (hT:TouR L V id t k L1 V1 t1 x1) (ht:L.tr id=some t) (h:LvI m L V):
    LvI m L1 V1∧Wu V1 x1=Z0 (Q1 L V) id k∧Q1 L1 V1=ZJ (Q1 L V) id k (Z0 (Q1 L V) id k)∧(∀c,AliveLe V c→AliveLe V1 c)∧L1.pres=L.pres:=hT.invX ht h fun _ _=>Int.le_refl _
end
section
variable {L L1 L':LvD} {V V1 V':VS} {id:Int} {t t1:TrD} {k:KD} {x x1:LfD} {m Fr:Nat} {s e:Int}
def OwnI (L:LvD) (V:VS) (p:Pl) (m Fr:Nat) (L':LvD) (V':VS) (s e:Int):Prop:=
  LvI m L' V'∧Q1 L' V'=Q1 L V∧(∀c,AliveLe V c→AliveLe V' (c+1))∧(∀c,AliveLe V c→AliveLe V' c∨AliveLe V' (c+1))∧
  ((e=6∧s=0∧H3 V Fr)∨(e=0∧s≠0∧Zm V' s=1∧QP L' p=s))
theorem MU {f f':Pl→Int} {p:Pl} (h:RefI f V (fun _=>0)) (h1:1≤s) (hn:V s=none) (ho:X5 V (f p)) (hf: ∀q,f' q=UV f p s q):
    RefI f' (Zj (Xu V s (some (1,XH V (f p)))) (f p)) (fun _=>0)∧(∀q,XH (Zj (Xu V s (some (1,XH V (f p)))) (f p)) (f' q)=XH V (f q))∧Zj (Xu V s (some (1,XH V (f p)))) (f p) s=some (1,XH V (f p)):= by
  have hl:(XH V (f p)).length=64:= by
    cases q:V (f p)with
    | none=>
      rcases ho with e | e
      · rw[e,Wk h.zero]; simp [zer]
      · exact absurd q e
    | some x=> rw[Yd q]; exact(h.2 _ x q).2.2
  generalize ho':f p=o at *
  have hso:o≠s:= fun e=> by
    subst e
    rcases ho with e | e
    · omega
    · exact absurd hn e
  have hoa:X5 (Xu V s (some (1,XH V o))) o:= by
    rcases ho with e | e
    · exact .inl e
    · refine .inr ?_; rw[QF hso]; exact e
  have a1:=(((h.fresh hn h1 hl).put p s).fn hf).unr hoa
  rw[ho']at a1
  have a2:RefI f' (Zj (Xu V s (some (1,XH V o))) o) (fun _=>0):=a1.ext fun j hj=> by omega
  have a3:Zj (Xu V s (some (1,XH V o))) o s=some (1,XH V o):= by
    cases q:V o with
    | none=> rw[VJ (by rw[QF hso]; exact q),Qy]
    | some x=>
      rw[YH (x:=x) (by rw[QF hso]; exact q)]
      split<;> rw[QF (fun e=>hso e.symm),Qy]
  refine⟨a2, fun q=> ?_,a3⟩
  by_cases e:q=p
  · subst e
    rw[hf,XF,Yd a3,ho']
  · have e1:f' q=f q:= by rw[hf,XQ e]
    have e2:f q≠s:=h.none_held hn (by omega) (by omega)
    have h0:Xu V s (some (1,XH V o)) 0=none:= by rw[QF (by omega)]; exact h.zero
    rw[G9 h0 (a2.alive U (by omega)),e1,VV e2]
theorem OwnP.inv (h:OwnP L V k Fr L' V' s e) (hI:LvI m L V):OwnI L V (.inl k) m Fr L' V' s e∧L'.tr=L.tr:= by
  rcases h with⟨rfl,h2,h3,h4,rfl,rfl⟩ | ⟨rfl,rfl,h3,rfl,rfl⟩ | ⟨rfl,h2,h3,h4,rfl,rfl⟩
  · exact⟨⟨hI,rfl, fun c q=>q.mono (by omega), fun c q=> .inl q,.inr ⟨rfl,h3,h4,h2.symm⟩⟩,rfl⟩
  · exact⟨⟨hI,rfl, fun c q=>q.mono (by omega), fun c q=> .inl q,.inl ⟨rfl,rfl,h3⟩⟩,rfl⟩
  · generalize hL':({L with pres:=Z6 L.pres k s,sh:=JJ (Xu V s (some (1,XH V (L.pres k)))) L.sh (L.pres k)}:LvD)=L'
    have hp:L'.pres=Z6 L.pres k s:= by subst hL';rfl
    have hT:L'.tr=L.tr:= by subst hL';rfl
    have hf:=GF hp hT
    obtain⟨a,b,c⟩:=MU (p:= .inl k) hI.ref h2 h3 (hI.alive _) hf
    have hh:QP L (.inl k)=L.pres k:=rfl
    rw[hh]at a b c
    have e1:Q1 L' (Zj (Xu V s (some (1,XH V (L.pres k)))) (L.pres k))=Q1 L V:= by
      rw[Kn (V:=V) hp hT fun p hp=> ?_]
      · have h5:=b (.inl k)
        rw[hf,XF,hh]at h5
        have e2:UV (Q1 L V).pres k (XH (Zj (Xu V s (some (1,XH V (L.pres k)))) (L.pres k)) s)=(Q1 L V).pres:= by
          funext j
          by_cases e:j=k
          · subst e; rw[XF]; exact h5
          · rw[XQ e]
        rw[e2]
      · have h5:=b p
        rw[hf,XQ hp]at h5
        exact h5
    refine⟨⟨⟨a, by rw[hT]; exact hI.rank, by rw[e1]; exact hI.agree⟩,e1, fun c q=>q.put.unr, fun c q=> .inr q.put.unr,.inr ⟨rfl, by omega,Wf c, ?_⟩⟩,hT⟩
    rw[hf,XF]
theorem OwnT.inv (h:OwnT L V id t k x Fr L' V' s e) (ht:L.tr id=some t) (hx:t.lv k=some x) (hI:LvI m L V):OwnI L V (.inr (id,k,true)) m Fr L' V' s e∧L'.pres=L.pres:= by
  have hh:QP L (.inr (id,k,true))=x.own:= by rw[Xt ht hx];rfl
  rcases h with⟨rfl,h2,h3,h4,rfl,rfl⟩ | ⟨rfl,rfl,h3,rfl,rfl⟩ | ⟨rfl,h2,h3,h4,rfl,rfl⟩
  · exact⟨⟨hI,rfl, fun c q=>q.mono (by omega), fun c q=> .inl q,.inr ⟨rfl,h3,h4, by rw[hh,h2]⟩⟩,rfl⟩
  · exact⟨⟨hI,rfl, fun c q=>q.mono (by omega), fun c q=> .inl q,.inl ⟨rfl,rfl,h3⟩⟩,rfl⟩
  · generalize hL':ZD {L with sh:=JJ (Xu V s (some (1,XH V x.own))) L.sh x.own} id t k {x with own:=s}=L'
    have hp:L'.pres=L.pres:= by subst hL';rfl
    have hT:L'.tr=Xu L.tr id (some {t with lv:=Xu t.lv k (some {x with own:=s})}):= by subst hL';rfl
    have hf: ∀q,QP L' q=UV (QP L) (.inr (id,k,true)) s q:= fun q=> by
      rw[YK (x:={x with own:=s}) hp hT ht U]
      by_cases e:q= .inr (id,k,true)
      · subst e; rw[XF,XF]
      · rw[XQ e,XQ e]
        by_cases e2:q= .inr (id,k,false)
        · subst e2; rw[XF,Xt ht hx];rfl
        · rw[XQ e2]
    obtain⟨a,b,c⟩:=MU (p:= .inr (id,k,true)) hI.ref h2 h3 (hI.alive _) hf
    rw[hh]at a b c
    have e1:Q1 L' (Zj (Xu V s (some (1,XH V x.own))) x.own)=Q1 L V:= by
      rw[Yl (x:={x with own:=s}) hp hT ht U fun p hp1 hp2=> ?_]
      · have e2:Wu (Zj (Xu V s (some (1,XH V x.own))) x.own) {x with own:=s}=Wu V x:= by
          have h5:=b (.inr (id,k,true))
          have h6:=b (.inr (id,k,false))
          rw[hf,XF,hh]at h5
          rw[hf,XQ (by simp),Xt ht hx]at h6
          simp at h6
          simp [Wu,h5,h6]
        rw[e2,G6 (Zh ht) (ZR hx)]
      · have h5:=b p
        rw[hf,XQ hp2]at h5
        exact h5
    refine⟨⟨⟨a, ?_, by rw[e1]; exact hI.agree⟩,e1, fun c q=>q.put.unr, fun c q=> .inr q.put.unr,.inr ⟨rfl, by omega,Wf c, ?_⟩⟩,hp⟩
    · rw[hT]; exact hI.rank.same (WO ht U)
    · rw[hf,XF]
theorem CI {f:Pl→Int} {p:Pl} {r a:Int} {pg:Bs} {b:UInt8} (h:RefI f V (fun _=>0)) (hs:V s=some (r,pg)) (hr:Zm V s=1) (hp:f p=s):
    RefI f (Xu V s (some (r,pg.set a.toNat b))) (fun _=>0)∧(∀q,q≠p→XH (Xu V s (some (r,pg.set a.toNat b))) (f q)=XH V (f q))∧XH (Xu V s (some (r,pg.set a.toNat b))) (f p)=(XH V (f p)).set a.toNat b:= by
  have h3:=h.2 s _ hs
  refine⟨h.setc hs (by rw[List.length_set]; exact h3.2.2), fun q hq=> ?_, ?_⟩
  · refine VV fun e=>hq (h.excl hr U (by omega) hp q e)
  · rw[hp,Yd Qy,Yd hs]
end
theorem Yw {κ α:Type} {f:κ→α} {k:κ} {v:α} (h:f k=v):UV f k v=f:= by
  funext j
  by_cases e:j=k
  · subst e; rw[XF,h]
  · rw[XQ e]
def SzLe (L:LvD) (c:Nat):Prop:= ∃l:List (Int×KD),l.length≤c∧(∀k,L.pres k≠0→(0,k)∈l)∧ ∀i t k x,L.tr i=some t→t.lv k=some x→(i,k)∈l
theorem SzLe.mono {L:LvD} {c d:Nat} (h:SzLe L c) (hd:c≤d):SzLe L d:= by
  obtain⟨l,a,b⟩:=h
  exact⟨l, by omega,b⟩
theorem SzLe.add {L L':LvD} {c:Nat} (h:SzLe L c) (i:Int) (k:KD) (hp: ∀q,L'.pres q≠0→L.pres q≠0∨(0,q)=(i,k)) (ht: ∀j u q x,L'.tr j=some u→u.lv q=some x→(∃u' x',L.tr j=some u'∧u'.lv q=some x')∨(j,q)=(i,k)):SzLe L' (c+1):= by
  obtain⟨l,a,b,d⟩:=h
  refine⟨(i,k)::l, by simp;omega, fun q hq=> ?_, fun j u q x hj hq=> ?_⟩
  · rcases hp q hq with e | e
    · exact List.mem_cons_of_mem _ (b q e)
    · rw[e]; exact List.mem_cons_self
  · rcases ht j u q x hj hq with⟨u',x',e1,e2⟩ | e
    · exact List.mem_cons_of_mem _ (d j u' q x' e1 e2)
    · rw[e]; exact List.mem_cons_self
theorem SzLe.put {L L':LvD} {c:Nat} {i:Int} {k:KD} {t:TrD} {x:LfD} (h:SzLe L c) (ht:L.tr i=some t) (hp:L'.pres=L.pres) (hT:L'.tr=Xu L.tr i (some {t with lv:=Xu t.lv k (some x)})):SzLe L' (c+1):= by
  refine h.add i k (fun q hq=> .inl (by rwa [hp]at hq)) fun j u q y hj hq=> ?_
  rw[hT]at hj
  by_cases e:j=i
  · subst e
    rw[Qy]at hj
    cases hj
    dsimp only at hq
    by_cases e2:q=k
    · right; rw[e2]
    · rw[QF e2]at hq; exact .inl ⟨t,y,ht,hq⟩
  · rw[QF e]at hj; exact .inl ⟨u,y,hj,hq⟩
theorem SzLe.putOld {L L':LvD} {c:Nat} {i:Int} {k:KD} {t:TrD} {x y:LfD} (h:SzLe L c) (ht:L.tr i=some t) (hx:t.lv k=some y) (hp:L'.pres=L.pres) (hT:L'.tr=Xu L.tr i (some {t with lv:=Xu t.lv k (some x)})):SzLe L' c:= by
  obtain⟨l,a,b,d⟩:=h
  refine⟨l,a, fun q hq=>b q (by rwa [hp]at hq), fun j u q z hj hq=> ?_⟩
  rw[hT]at hj
  by_cases e:j=i
  · subst e
    rw[Qy]at hj
    cases hj
    dsimp only at hq
    by_cases e2:q=k
    · subst e2; exact d j t q y ht hx
    · rw[QF e2]at hq; exact d j t q z ht hq
  · rw[QF e]at hj; exact d j u q z hj hq
theorem TouR.sz {L L1:LvD} {V V1:VS} {id:Int} {t t1:TrD} {k:KD} {x1:LfD} {c:Nat} (hT:TouR L V id t k L1 V1 t1 x1) (ht:L.tr id=some t) (h:SzLe L c):SzLe L1 (c+1):= by
  rcases hT with⟨_,rfl,_,_⟩ | ⟨_,a,_,rfl,rfl,_⟩
  · exact h.mono (by omega)
  · exact h.put (x:=x1) ht U U
structure StepI (m:Nat) (L:LvD) (V:VS) (m' d e:Nat) (L':LvD) (V':VS):Prop where
  inv:LvI m' L' V'
  sp:L'.sp=L.sp
  al: ∀c,AliveLe V c→AliveLe V' (c+d)
  sz: ∀c,SzLe L c→SzLe L' (c+e)
theorem StepI.refl {m:Nat} {L:LvD} {V:VS} {d e:Nat} (h:LvI m L V):StepI m L V m d e L V:=⟨h,rfl, fun _ q=>q.mono (by omega), fun _ q=>q.mono (by omega)⟩
theorem StepI.trans {m m1 m2:Nat} {L L1 L2:LvD} {V V1 V2:VS} {d d1 e e1:Nat} (h:StepI m L V m1 d e L1 V1) (h':StepI m1 L1 V1 m2 d1 e1 L2 V2):StepI m L V m2 (d+d1) (e+e1) L2 V2:=
  ⟨h'.inv,h'.sp.trans h.sp, fun c q=>(h'.al _ (h.al c q)).mono (by omega), fun c q=>(h'.sz _ (h.sz c q)).mono (by omega)⟩
theorem StepI.up {m m1:Nat} {L L1:LvD} {V V1:VS} {d d1 e e1:Nat} (h:StepI m L V m1 d e L1 V1) (h1:d≤d1) (h2:e≤e1):StepI m L V m1 d1 e1 L1 V1:=
  ⟨h.inv,h.sp, fun c q=>(h.al c q).mono (by omega), fun c q=>(h.sz c q).mono (by omega)⟩
def Tq (V:VS) (Fr:Nat):Prop:= ∀c,AliveLe V c→Fr≤c+1
section
variable {L L1 L':LvD} {V V1 V':VS} {id:Int} {t t1 t':TrD} {k:KD} {x x1 x':LfD} {m Fr:Nat} {s e a r:Int} {pg:Bs} {b:UInt8}
theorem OwnP.sz {c:Nat} (h:OwnP L V k Fr L' V' s e) (hc:SzLe L c):SzLe L' (c+1):= by
  rcases h with⟨_,_,_,_,rfl,_⟩ | ⟨_,_,_,rfl,_⟩ | ⟨_,h2,_,_,_,rfl⟩
  · exact hc.mono (by omega)
  · exact hc.mono (by omega)
  · refine hc.add 0 k (fun q hq=> ?_) fun j u q y hj hq=> .inl ⟨u,y,hj,hq⟩
    by_cases e:q=k
    · right; rw[e]
    · simp only[Z6,if_neg e]at hq; exact .inl hq
theorem OwnT.sz {c:Nat} (h:OwnT L V id t k x Fr L' V' s e) (ht:L.tr id=some t) (hx:t.lv k=some x) (hc:SzLe L c):SzLe L' c:= by
  rcases h with⟨_,_,_,_,rfl,_⟩ | ⟨_,_,_,rfl,_⟩ | ⟨_,h2,_,_,_,rfl⟩
  · exact hc
  · exact hc
  · exact hc.putOld (x:={x with own:=s}) ht hx U U
theorem qap (he:Q1 L' V'=Q1 L V) (ht:L.tr id=some t) (hx:t.lv k=some x) (ht':L'.tr id=some t') (hx':t'.lv k=some x'):Wu V' x'=Wu V x:= by
  have h1:=Zh (V:=V') ht'
  rw[he,Zh ht]at h1
  have h2:ZG V t=ZG V' t':= by simpa using h1
  have h3:=ZR (V:=V') hx'
  rw[←h2,ZR hx]at h3
  simpa using h3.symm
theorem AD (hI:LvI m L V) (h0:Zm V s=1) (hs:V s=some (r,pg)) (hp:QP L (.inl k)=s) (ha:0≤a∧a<64):
    LvI m L (Xu V s (some (r,pg.set a.toNat b)))∧Q1 L (Xu V s (some (r,pg.set a.toNat b)))={Q1 L V with pres:=UV (Q1 L V).pres k (((Q1 L V).pres k).set a.toNat b)}:= by
  obtain⟨a1,a2,a3⟩:=CI (a:=a) (b:=b) hI.ref hs h0 hp
  have e1:Q1 L (Xu V s (some (r,pg.set a.toNat b)))={Q1 L V with pres:=UV (Q1 L V).pres k (((Q1 L V).pres k).set a.toNat b)}:= by
    have hk:L.pres=Z6 L.pres k (L.pres k):= by
      funext j;unfold Z6;split
      · rename_i e; rw[e]
      · rfl
    rw[Kn (V:=V) (k:=k) (s:=L.pres k) hk U fun p hp=>a2 p hp]
    have h5:XH (Xu V s (some (r,pg.set a.toNat b))) (L.pres k)=((Q1 L V).pres k).set a.toNat b:=a3
    rw[h5]
  exact⟨⟨a1,hI.rank, by rw[e1]; exact hI.agree⟩,e1⟩
theorem AC (hI:LvI m L V) (h0:Zm V s=1) (hs:V s=some (r,pg)) (hp:QP L (.inr (id,k,true))=s) (ht:L.tr id=some t) (hx:t.lv k=some x) (ha:0≤a∧a<64):
    LvI m (ZD L id t k {x with wr:=x.wr ||| (1#64<<<a.toNat)}) (Xu V s (some (r,pg.set a.toNat b)))∧
    Q1 (ZD L id t k {x with wr:=x.wr ||| (1#64<<<a.toNat)}) (Xu V s (some (r,pg.set a.toNat b)))=ZJ (Q1 L V) id k {Wu V x with own:=(Wu V x).own.set a.toNat b,wr:=x.wr ||| (1#64<<<a.toNat)}:= by
  obtain⟨a1,a2,a3⟩:=CI (a:=a) (b:=b) hI.ref hs h0 hp
  generalize hL':ZD L id t k {x with wr:=x.wr ||| (1#64<<<a.toNat)}=L'
  have hP:L'.pres=L.pres:= by subst hL';rfl
  have hT:L'.tr=Xu L.tr id (some {t with lv:=Xu t.lv k (some {x with wr:=x.wr ||| (1#64<<<a.toNat)})}):= by subst hL';rfl
  have hf: ∀q,QP L' q=QP L q:= fun q=> by
    rw[YK (x:={x with wr:=x.wr ||| (1#64<<<a.toNat)}) hP hT ht U]
    dsimp only
    rw[Yw (f:=QP L) (v:=x.base) (by rw[Xt ht hx];rfl),Yw (by rw[Xt ht hx];rfl)]
  have e1:Q1 L' (Xu V s (some (r,pg.set a.toNat b)))=ZJ (Q1 L V) id k {Wu V x with own:=(Wu V x).own.set a.toNat b,wr:=x.wr ||| (1#64<<<a.toNat)}:= by
    rw[Yl (x:={x with wr:=x.wr ||| (1#64<<<a.toNat)}) hP hT ht U fun p _ h2=>a2 p h2]
    congr 1
    have h3:=a2 (.inr (id,k,false)) (by simp)
    rw[Xt ht hx]at h3 a3
    simp at h3 a3
    simp only[Wu,h3,a3]
  refine⟨⟨a1.fn hf, by rw[hT]; exact hI.rank.same (WO ht U), ?_⟩,e1⟩
  rw[e1]
  refine hI.agree.put fun j hj hw=> ?_
  have h4:=hI.agree id _ k _ (Zh ht) (ZR hx) j hj
  dsimp only at hw⊢
  rw[BitVec.getLsbD_or,Bool.or_eq_false_iff]at hw
  rw[h4 hw.1]
  have h5:a.toNat≠j:= fun q=> by
    have :=hw.2
    rw[q,BitVec.getLsbD_shiftLeft]at this
    simp [hj]at this
  rw[List.getElem?_set_ne h5]
end
