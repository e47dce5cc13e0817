/- leaves: references, plain -/
import Derived.Test.YtkcjfoaejijdoaaGreatDoorLv3
set_option linter.unusedVariables false
namespace Go.Proofs.YtkcjfoaejijdoaaGreatDoor
open Go.RowKit M
set_option linter.unusedSectionVars false
variable [Inhabited SlW]
open Classical in
noncomputable def Vq {κ α:Type} (f:κ→α) (k:κ) (v:α):κ→α:= fun j=> if j=k then v else f j
theorem XG {κ α:Type} {f:κ→α} {k:κ} {v:α}:Vq f k v k=v:= by unfold Vq; rw[if_pos rfl]
theorem Zb {κ α:Type} {f:κ→α} {k j:κ} {v:α} (h:j≠k):Vq f k v j=f j:= by unfold Vq; rw[if_neg h]
def Sq {κ:Type} (f:κ→Int) (s:Int) (n:Nat):Prop:= ∃l:List κ,l.Nodup∧(∀p,p∈l↔f p=s)∧l.length=n
section
variable {κ:Type} {f g:κ→Int} {s v:Int} {n m:Nat} {p:κ}
theorem U7 (h: ∀p,g p=s↔f p=s) (hc:Sq f s n):Sq g s n:= by
  obtain⟨l,a,b,c⟩:=hc
  exact⟨l,a, fun p=>(b p).trans (h p).symm,c⟩
theorem Ls (h:Sq f s n) (h':Sq f s m):n=m:= by
  obtain⟨l,a,b,rfl⟩:=h
  obtain⟨l',a',b',rfl⟩:=h'
  exact((List.perm_ext_iff_of_nodup a a').2 fun k=>(b k).trans (b' k).symm).length_eq
theorem qar (hp:f p≠s) (h:Sq f s n):Sq (Vq f p s) s (n+1):= by
  obtain⟨l,a,b,c⟩:=h
  refine⟨p::l,List.nodup_cons.2 ⟨fun q=>hp ((b p).1 q),a⟩, fun q=> ?_, by simp [c]⟩
  by_cases e:q=p
  · subst e; rw[XG]; simp
  · rw[Zb e,List.mem_cons,b q]; simp [e]
theorem CR (hp:f p=s) (hv:v≠s) (h:Sq f s n): ∃m,n=m+1∧Sq (Vq f p v) s m:= by
  obtain⟨l,a,b,c⟩:=h
  obtain⟨x,y,rfl⟩:=List.append_of_mem ((b p).2 hp)
  have ha:(x++y).Nodup∧p∉x++y:= by
    have :=(List.perm_middle (l₁:=x) (a:=p) (l₂:=y)).nodup_iff.1 a
    rw[List.nodup_cons]at this
    exact⟨this.2,this.1⟩
  refine⟨(x++y).length, by rw[←c]; simp;omega,x++y,ha.1, fun q=> ?_,rfl⟩
  by_cases e:q=p
  · subst e; rw[XG]; exact⟨fun h=>absurd h ha.2, fun h=>absurd h hv⟩
  · rw[Zb e,←b q]; simp [e]
theorem Dm (h:Sq f s n) (hp:f p=s):1≤n:= by
  obtain⟨l,a,b,rfl⟩:=h
  exact List.length_pos_of_mem ((b p).2 hp)
theorem cnt_one (h:Sq f s 1) (hp:f p=s): ∀q,f q=s→q=p:= by
  obtain⟨l,a,b,c⟩:=h
  obtain⟨x,rfl⟩:=List.length_eq_one_iff.1 c
  intro q hq
  have h1:=(b p).2 hp
  have h2:=(b q).2 hq
  simp at h1 h2
  rw[h1,h2]
end
def dl (s:Int):Int→Int:= fun j=> if j=s then 1 else 0
theorem Ww {s:Int}:dl s s=1:= by unfold dl; rw[if_pos rfl]
theorem J0 {s j:Int} (h:j≠s):dl s j=0:= by unfold dl; rw[if_neg h]
def RefI {κ:Type} (f:κ→Int) (V:VS) (ex:Int→Int):Prop:=(∀s,s≠0→ ∃n:Nat,Sq f s n∧Z2 V s=n+ex s)∧ ∀s x,V s=some x→1≤x.1∧1≤s∧x.2.length=64
section
variable {κ:Type} {f g:κ→Int} {V:VS} {ex ex':Int→Int} {s:Int} {p:κ}
theorem RefI.zero (h:RefI f V ex):V 0=none:= by
  cases q:V 0 with
  | none=>rfl
  | some x=> have :=(h.2 0 x q).2.1;omega
theorem RefI.ext (h:RefI f V ex) (he: ∀j,j≠0→ex' j=ex j):RefI f V ex':=⟨fun s hs=> by obtain⟨n,a,b⟩:=h.1 s hs; exact⟨n,a, by rw[he s hs]; exact b⟩,h.2⟩
theorem RefI.fn (h:RefI f V ex) (he: ∀p,g p=f p):RefI g V ex:= by
  have :g=f:=funext he
  rw[this]; exact h
theorem UO (h:V s=none):Z2 V s=0:= by unfold Z2; rw[h]
theorem Jc {x:Int×Bs} (h:V s=some x):Z2 V s=x.1:= by unfold Z2; rw[h]
theorem RefI.alive_of (h:RefI f V ex) (hr:1≤Z2 V s):V s≠none:= fun q=> by rw[UO q]at hr;omega
theorem RefI.aliveN (h:RefI f V ex) (hp:f p=s) (he:s≠0→0≤ex s):XO V s:= by
  by_cases h0:s=0
  · exact .inl h0
  · obtain⟨n,a,b⟩:=h.1 s h0
    have :=Dm a hp
    have :=he h0
    exact .inr (h.alive_of (by omega))
theorem RefI.alive (h:RefI f V ex) (hp:f p=s) (he:0≤ex s):XO V s:=h.aliveN hp fun _=>he
theorem RefI.ref (h:RefI f V ex) (ha:XO V s):RefI f (refW V s) (fun j=>ex j+dl s j):= by
  by_cases h0:s=0
  · have e:refW V s=V:= by unfold refW; rw[if_pos h0]
    rw[e]
    exact h.ext fun j hj=> by rw[J0 (by omega)];omega
  have e:refW V s=HI V s:= by unfold refW; rw[if_neg h0]
  rw[e]
  cases q:V s with
  | none => rcases ha with ha | ha
            · exact absurd ha h0
            · exact absurd q ha
  | some x=>
    have e2:HI V s=X1 V s (some (x.1+1,x.2)):= by unfold HI; rw[q]
    rw[e2]
    refine⟨fun j hj=> ?_, fun j y hy=> ?_⟩
    · obtain⟨n,a,b⟩:=h.1 j hj
      refine⟨n,a, ?_⟩; dsimp only
      by_cases e3:j=s
      · subst e3
        rw[Jc Qz,Ww]
        rw[Jc q]at b
        dsimp only;omega
      · have :Z2 (X1 V s (some (x.1+1,x.2))) j=Z2 V j:= by unfold Z2; rw[QF e3]
        rw[this,J0 e3];omega
    · by_cases e3:j=s
      · subst e3
        rw[Qz]at hy
        cases hy
        obtain⟨a,b,c⟩:=h.2 j x q
        exact⟨by dsimp only;omega,b,c⟩
      · rw[QF e3]at hy; exact h.2 j y hy
theorem Kf (h:V s=none):Z4 V s=V:= by unfold Z4; rw[h]
theorem H1 {x:Int×Bs} (h:V s=some x):Z4 V s= if 1<x.1 then X1 V s (some (x.1 -1,x.2))else X1 V s none:= by unfold Z4; rw[h]
theorem RefI.unr (h:RefI f V ex) (ha:XO V s):RefI f (Z4 V s) (fun j=>ex j -dl s j):= by
  cases q:V s with
  | none=>
    rcases ha with ha | ha
    · rw[Kf q]
      exact h.ext fun j hj=> by rw[J0 (by omega)];omega
    · exact absurd q ha
  | some x=>
    have hx:=h.2 s x q
    refine⟨fun j hj=> ?_, fun j y hy=> ?_⟩
    · obtain⟨n,a,b⟩:=h.1 j hj
      refine⟨n,a, ?_⟩; dsimp only
      rw[H1 q]
      by_cases e3:j=s
      · subst e3
        rw[Ww]
        rw[Jc q]at b
        split
        · rw[Jc Qz]; dsimp only;omega
        · rw[UO Qz];omega
      · rw[J0 e3]
        have : ∀o,Z2 (X1 V s o) j=Z2 V j:= fun o=> by unfold Z2; rw[QF e3]
        split<;>(rw[this];omega)
    · rw[H1 q]at hy
      by_cases e3:j=s
      · subst e3
        split at hy
        · rw[Qz]at hy
          cases hy
          exact⟨by dsimp only;omega,hx.2⟩
        · rw[Qz]at hy; cases hy
      · split at hy<;>(rw[QF e3]at hy; exact h.2 j y hy)
theorem RefI.put (h:RefI f V ex) (p:κ) (v:Int):RefI (Vq f p v) V (fun j=>ex j+dl (f p) j -dl v j):= by
  refine⟨fun j hj=> ?_,h.2⟩
  obtain⟨n,a,b⟩:=h.1 j hj
  by_cases e1:f p=j
  · by_cases e2:v=j
    · refine⟨n,U7 (fun q=> ?_) a, ?_⟩
      · by_cases e:q=p
        · subst e; rw[XG,e1,e2]
        · rw[Zb e]
      · dsimp only; rw[e1,e2,Ww];omega
    · obtain⟨m,rfl,c⟩:=CR e1 e2 a
      refine⟨m,c, ?_⟩; dsimp only
      rw[e1,Ww,J0 (fun q=>e2 q.symm)];omega
  · by_cases e2:v=j
    · subst e2
      refine⟨n+1,qar e1 a, ?_⟩; dsimp only
      rw[Ww,J0 (fun q=>e1 q.symm)];omega
    · refine⟨n,U7 (fun q=> ?_) a, ?_⟩
      · by_cases e:q=p
        · subst e; rw[XG]; exact⟨fun q=>absurd q e2, fun q=>absurd q e1⟩
        · rw[Zb e]
      · dsimp only; rw[J0 (fun q=>e1 q.symm),J0 (fun q=>e2 q.symm)];omega
theorem RefI.fresh (h:RefI f V ex) {pg:Bs} (hn:V s=none) (h1:1≤s) (hl:pg.length=64):RefI f (X1 V s (some (1,pg))) (fun j=>ex j+dl s j):= by
  refine⟨fun j hj=> ?_, fun j y hy=> ?_⟩
  · obtain⟨n,a,b⟩:=h.1 j hj
    refine⟨n,a, ?_⟩; dsimp only
    by_cases e:j=s
    · subst e
      rw[Jc Qz,Ww]
      rw[UO hn]at b
      dsimp only;omega
    · have :Z2 (X1 V s (some (1,pg))) j=Z2 V j:= by unfold Z2; rw[QF e]
      rw[this,J0 e];omega
  · by_cases e:j=s
    · subst e
      rw[Qz]at hy
      cases hy
      exact⟨by dsimp only;omega,h1,hl⟩
    · rw[QF e]at hy; exact h.2 j y hy
theorem RefI.setc (h:RefI f V ex) {pg pg':Bs} {r:Int} (hn:V s=some (r,pg)) (hl:pg'.length=64):RefI f (X1 V s (some (r,pg'))) ex:= by
  refine⟨fun j hj=> ?_, fun j y hy=> ?_⟩
  · obtain⟨n,a,b⟩:=h.1 j hj
    refine⟨n,a, ?_⟩
    by_cases e:j=s
    · subst e
      rw[Jc Qz]
      rw[Jc hn]at b
      exact b
    · have :Z2 (X1 V s (some (r,pg'))) j=Z2 V j:= by unfold Z2; rw[QF e]
      rw[this]; exact b
  · by_cases e:j=s
    · subst e
      rw[Qz]at hy
      cases hy
      have :=h.2 j _ hn
      exact⟨this.1,this.2.1,hl⟩
    · rw[QF e]at hy; exact h.2 j y hy
theorem RefI.none_held (h:RefI f V ex) (hn:V s=none) (h0:s≠0) (he:0≤ex s):f p≠s:= fun q=> by
  rcases h.alive q he with h1 | h1
  · exact h0 h1
  · exact h1 hn
theorem RefI.excl (h:RefI f V ex) (hr:Z2 V s=1) (he:ex s=0) (h0:s≠0) (hp:f p=s): ∀q,f q=s→q=p:= by
  obtain⟨n,a,b⟩:=h.1 s h0
  have :n=1:= by omega
  subst this
  exact cnt_one a hp
end
section
variable {V:VS} {s j:Int}
theorem JZ {x:Int×Bs} (h:V j=some x):XR V j=x.2:= by unfold XR; rw[h]
theorem Wr (h:V 0=none):XR V 0=zer:= by unfold XR; rw[h];rfl
theorem ON {V':VS} (h:V' j=V j):XR V' j=XR V j:= by unfold XR; rw[h]
theorem Ko {o:Option (Int×Bs)} (h:j≠s):XR (X1 V s o) j=XR V j:=ON (QF h)
theorem pg_refV:XR (HI V s) j=XR V j:= by
  unfold HI
  cases q:V s with
  | none=>rfl
  | some x=>
    dsimp only
    by_cases e:j=s
    · subst e; rw[JZ Qz,JZ q]
    · exact Ko e
theorem Yt:XR (refW V s) j=XR V j:= by unfold refW;split;rfl; exact pg_refV
theorem Mb (h0:V 0=none) (h:XO (Z4 V s) j):XR (Z4 V s) j=XR V j:= by
  cases q:V s with
  | none=> rw[Kf q]
  | some x=>
    by_cases e:j=s
    · subst e
      rw[H1 q]at h⊢
      split
      · rw[JZ Qz,JZ q]
      · rename_i hx
        rw[if_neg hx]at h
        rcases h with h | h
        · subst h; rw[h0]at q; cases q
        · exact absurd Qz h
    · rw[H1 q];split<;> exact Ko e
theorem Tv (h:Z4 V s j≠none):V j≠none:= by
  cases q:V s with
  | none=>rwa [Kf q]at h
  | some x=>
    by_cases e:j=s
    · subst e; rw[q]; simp
    · rw[H1 q]at h
      split at h<;>rwa [QF e]at h
def AliveLe (V:VS) (n:Nat):Prop:= ∃l:List Int,l.length≤n∧ ∀j,V j≠none→j∈l
theorem AliveLe.sub {V':VS} {n:Nat} (h:AliveLe V n) (hs: ∀j,V' j≠none→V j≠none):AliveLe V' n:= by
  obtain⟨l,a,b⟩:=h
  exact⟨l,a, fun j hj=>b j (hs j hj)⟩
theorem AliveLe.mono {n m:Nat} (h:AliveLe V n) (hm:n≤m):AliveLe V m:= by
  obtain⟨l,a,b⟩:=h
  exact⟨l, by omega,b⟩
theorem AliveLe.refW {n:Nat} (h:AliveLe V n):AliveLe (refW V s) n:=h.sub fun j=>Ye.1
theorem AliveLe.unr {n:Nat} (h:AliveLe V n):AliveLe (Z4 V s) n:=h.sub fun j=>Tv
theorem AliveLe.put {n:Nat} {o:Option (Int×Bs)} (h:AliveLe V n):AliveLe (X1 V s o) (n+1):= by
  obtain⟨l,a,b⟩:=h
  refine⟨s::l, by simp;omega, fun j hj=> ?_⟩
  by_cases e:j=s
  · simp [e]
  · rw[QF e]at hj; exact List.mem_cons_of_mem _ (b j hj)
theorem W7 {α:Type}: ∀{a b:List α},a.Nodup→(∀x∈a,x∈b)→a.length≤b.length
  | [],_,_,_=> by simp
  | x::a,b,h,hs=> by
    rw[List.nodup_cons]at h
    obtain⟨u,v,rfl⟩:=List.append_of_mem (hs x (by simp))
    have :=W7 (a:=a) (b:=u++v) h.2 fun y hy=> by
      have h1:=hs y (List.mem_cons_of_mem _ hy)
      have h2:y≠x:= fun q=>h.1 (q▸hy)
      simpa [h2]using h1
    simp at this⊢;omega
theorem Ui {n m:Nat} (h:AliveLe V n) (h':Hy V m):m≤n:= by
  obtain⟨l,a,b⟩:=h
  obtain⟨l',rfl,c,d⟩:=h'
  have :=W7 c fun j hj=>b j (d j hj)
  omega
end
abbrev Pl:=KD⊕(Int×KD×Bool)
def Xv (L:LvD):Pl→Int
  | .inl k=>L.pres k
  | .inr (i,k,o)=> match L.tr i with | none=>0 | some t=> match t.lv k with | none=>0 | some x=> if o=true then x.own else x.base
theorem TR {L L':LvD} {k:KD} {s:Int} (hp:L'.pres=Z1 L.pres k s) (ht:L'.tr=L.tr): ∀p,Xv L' p=Vq (Xv L) (.inl k) s p:= fun p=> by
  cases p with
  | inl j=>
    by_cases e:j=k
    · subst e; rw[XG]; simp [Xv,hp,Z1]
    · rw[Zb (by simpa using e)]; simp [Xv,hp,Z1,e]
  | inr q=> rw[Zb (by simp)]; simp [Xv,ht]
theorem H6 {L L':LvD} {i:Int} {t t':TrD} {k:KD} {x:LfD} (hp:L'.pres=L.pres) (hT:L'.tr=X1 L.tr i (some t')) (ht:L.tr i=some t) (hl:t'.lv=X1 t.lv k (some x)):
    ∀p,Xv L' p=Vq (Vq (Xv L) (.inr (i,k,false)) x.base) (.inr (i,k,true)) x.own p:= fun p=> by
  cases p with
  | inl j=> rw[Zb (by simp),Zb (by simp)]; simp [Xv,hp]
  | inr q=>
    obtain⟨i2,k2,o⟩:=q
    by_cases e:i2=i
    · subst e
      by_cases e2:k2=k
      · subst e2
        cases o with
        | true=> rw[XG]; simp [Xv,hT,Qz,hl]
        | false=> rw[Zb (by simp),XG]; simp [Xv,hT,Qz,hl]
      · rw[Zb (by simp [e2]),Zb (by simp [e2])]
        simp only[Xv,hT,Qz,ht,hl]
        rw[QF e2]
    · rw[Zb (by simp [e]),Zb (by simp [e])]
      simp only[Xv,hT]
      rw[QF e]
theorem XB {L:LvD} {i:Int} {t:TrD} {k:KD} {x:LfD} {o:Bool} (ht:L.tr i=some t) (hx:t.lv k=some x):Xv L (.inr (i,k,o))= if o=true then x.own else x.base:= by simp only[Xv,ht,hx]
theorem Rh {L:LvD} {i:Int} {t:TrD} {k:KD} {o:Bool} (ht:L.tr i=some t) (hx:t.lv k=none):Xv L (.inr (i,k,o))=0:= by simp only[Xv,ht,hx]
end Go.Proofs.YtkcjfoaejijdoaaGreatDoor
namespace Go.Proofs.YtkcjfoaejijdoaaGreatDoor
open Go.RowKit M
set_option linter.unusedSectionVars false
variable [Inhabited SlW]
structure LfA where
  base:Bs
  own:Bs
  rd:BitVec 64
  wr:BitVec 64
structure TrA where
  parent:Int
  lv:KD→Option LfA
  dr:Bs→Bool
structure LvA where
  pres:KD→Bs
  tr:Int→Option TrA
def Wy (V:VS) (x:LfD):LfA:=⟨XR V x.base,XR V x.own,x.rd,x.wr⟩
def ZH (V:VS) (t:TrD):TrA:=⟨t.parent, fun k=>(t.lv k).map (Wy V),t.dr⟩
def Q5 (L:LvD) (V:VS):LvA:=⟨fun k=>XR V (L.pres k), fun i=>(L.tr i).map (ZH V)⟩
def Jq (A:LvA):Nat→Int→KD→Bs
  | 0,_,_=>zer
  | n+1,id,k=> if id=0 then A.pres k else match A.tr id with | none=>zer | some t=> match t.lv k with | some x=>x.own | none=> if t.dr k.1=true then zer else Jq A n t.parent k
def Zr (A:LvA) (id:Int) (k:KD):Bs:=Jq A (Zl+1) id k
noncomputable def ZG (A:LvA) (id:Int) (k:KD) (x:LfA):LvA:= match A.tr id with | none=>A | some t=>{A with tr:=X1 A.tr id (some {t with lv:=X1 t.lv k (some x)})}
def Zk (A:LvA) (id:Int) (k:KD):LfA:= match A.tr id with | none=>⟨zer,zer,0#64,0#64⟩ | some t=> match t.lv k with | some x=>x | none=>⟨Zr A id k,Zr A id k,0#64, if t.dr k.1=true then BitVec.allOnes 64 else 0#64⟩
theorem Zp {L:LvD} {V:VS} {i:Int} {t:TrD} (h:L.tr i=some t):(Q5 L V).tr i=some (ZH V t):= by simp [Q5,h]
theorem ZE {V:VS} {t:TrD} {k:KD} {x:LfD} (h:t.lv k=some x):(ZH V t).lv k=some (Wy V x):= by simp [ZH,h]
theorem UA {V:VS} {t:TrD} {k:KD} (h:t.lv k=none):(ZH V t).lv k=none:= by simp [ZH,h]
theorem NM {L:LvD} {V:VS} (h0:V 0=none): ∀n id k,XR V (Jv L n id k)=Jq (Q5 L V) n id k
  | 0,_,_=>Wr h0
  | n+1,id,k=> by
    unfold Jv Jq
    split
    · rfl
    · cases ht:L.tr id with
      | none=> rw[show(Q5 L V).tr id=none by simp [Q5,ht]]; exact Wr h0
      | some t=>
        rw[Zp ht]; dsimp only
        cases hx:t.lv k with
        | some x=> rw[ZE hx];rfl
        | none=>
          rw[UA hx]; dsimp only
          show XR V (if t.dr k.1=true then 0 else _)= if t.dr k.1=true then zer else _
          split
          · exact Wr h0
          · exact NM h0 n t.parent k
theorem T7 (L:LvD): ∀n id k,Jv L n id k=0∨ ∃p,Xv L p=Jv L n id k
  | 0,_,_=> .inl rfl
  | n+1,id,k=> by
    unfold Jv
    split
    · exact .inr ⟨.inl k,rfl⟩
    · cases ht:L.tr id with
      | none=> exact .inl rfl
      | some t=>
        dsimp only
        cases hx:t.lv k with
        | some x=> exact .inr ⟨.inr (id,k,true), by rw[XB ht hx];rfl⟩
        | none=>
          dsimp only
          split
          · exact .inl rfl
          · exact T7 L n t.parent k
theorem Nv {V V':VS} {t:TrD} (h: ∀k x,t.lv k=some x→XR V' x.base=XR V x.base∧XR V' x.own=XR V x.own):ZH V' t=ZH V t:= by
  unfold ZH
  congr 1
  funext k
  cases q:t.lv k with
  | none=>rfl
  | some x=> obtain⟨a,b⟩:=h k x q; simp [Wy,a,b]
theorem Vf {L:LvD} {V V':VS} (h: ∀p,XR V' (Xv L p)=XR V (Xv L p)):Q5 L V'=Q5 L V:= by
  unfold Q5
  congr 1
  · funext k; exact h (.inl k)
  · funext i
    cases q:L.tr i with
    | none=>rfl
    | some t=>
      refine congrArg some (Nv fun k x hx=> ?_)
      have h1:=h (.inr (i,k,false))
      have h2:=h (.inr (i,k,true))
      rw[XB q hx]at h1 h2
      exact⟨h1,h2⟩
theorem ZS {A:LvA} {id:Int} {k:KD} {x:LfA} {t:TrA} (h:A.tr id=some t):ZG A id k x={A with tr:=X1 A.tr id (some {t with lv:=X1 t.lv k (some x)})}:= by unfold ZG; rw[h]
theorem TE {A:LvA} {id:Int} {k:KD} {x:LfA} {t:TrA} (h:A.tr id=some t) (hx:t.lv k=some x):ZG A id k x=A:= by
  rw[ZS h,YT hx,YT h]
theorem Kg {A:LvA} {id:Int} {k:KD} {x:LfA} {t:TrA} (h:A.tr id=some t) (hx:t.lv k=some x):Zk A id k=x:= by unfold Zk; rw[h]; dsimp only; rw[hx]
theorem Tx {A:LvA} {id:Int} {k:KD} {t:TrA} (h:A.tr id=some t) (hx:t.lv k=none):Zk A id k=⟨Zr A id k,Zr A id k,0#64, if t.dr k.1=true then BitVec.allOnes 64 else 0#64⟩:= by unfold Zk; rw[h]; dsimp only; rw[hx]
theorem YN {L L':LvD} {V V':VS} {i:Int} {t t':TrD} {k:KD} {x:LfD} (hp:L'.pres=L.pres) (hT:L'.tr=X1 L.tr i (some t')) (ht:L.tr i=some t) (hl:t'={t with lv:=X1 t.lv k (some x)})
    (h: ∀p,p≠ .inr (i,k,false)→p≠ .inr (i,k,true)→XR V' (Xv L p)=XR V (Xv L p)):Q5 L' V'=ZG (Q5 L V) i k (Wy V' x):= by
  rw[ZS (Zp ht)]
  unfold Q5
  rw[hp,hT]
  congr 1
  · funext j; exact h (.inl j) (by simp) (by simp)
  · funext j
    by_cases e:j=i
    · subst e
      rw[Qz,Qz]
      subst hl
      simp only[Option.map_some]
      congr 1
      unfold ZH
      congr 1
      funext q
      by_cases e2:q=k
      · subst e2; rw[Qz]; show Option.map (Wy V') (X1 t.lv q (some x) q)=_; rw[Qz];rfl
      · rw[QF e2]
        show Option.map (Wy V') (X1 t.lv k (some x) q)=Option.map (Wy V) (t.lv q)
        rw[QF e2]
        cases hq:t.lv q with
        | none=>rfl
        | some y=>
          have h1:=h (.inr (j,q,false)) (by simp [e2]) (by simp)
          have h2:=h (.inr (j,q,true)) (by simp) (by simp [e2])
          rw[XB ht hq]at h1 h2
          simp at h1 h2
          simp [Wy,h1,h2]
    · rw[QF e,QF e]
      show Option.map (ZH V') (L.tr j)=Option.map (ZH V) (L.tr j)
      cases q:L.tr j with
      | none=>rfl
      | some u=>
        refine congrArg some (Nv fun k2 y hy=> ?_)
        have h1:=h (.inr (j,k2,false)) (by simp [e]) (by simp)
        have h2:=h (.inr (j,k2,true)) (by simp) (by simp [e])
        rw[XB q hy]at h1 h2
        exact⟨h1,h2⟩
theorem Bn {L L':LvD} {V V':VS} {k:KD} {s:Int} (hp:L'.pres=Z1 L.pres k s) (hT:L'.tr=L.tr)
    (h: ∀p,p≠ .inl k→XR V' (Xv L p)=XR V (Xv L p)):Q5 L' V'={Q5 L V with pres:=Vq (Q5 L V).pres k (XR V' s)}:= by
  unfold Q5
  rw[hp,hT]
  congr 1
  · funext j
    by_cases e:j=k
    · subst e; rw[XG]; simp [Z1]
    · rw[Zb e]
      have :=h (.inl j) (by simpa using e)
      simp only[Z1,if_neg e]
      exact this
  · funext j
    show Option.map (ZH V') (L.tr j)=Option.map (ZH V) (L.tr j)
    cases q:L.tr j with
    | none=>rfl
    | some u=>
      refine congrArg some (Nv fun k2 y hy=> ?_)
      have h1:=h (.inr (j,k2,false)) (by simp)
      have h2:=h (.inr (j,k2,true)) (by simp)
      rw[XB q hy]at h1 h2
      exact⟨h1,h2⟩
def RankI (T:Int→Option TrD) (m:Nat):Prop:=T 0=none∧ ∃r:Int→Nat,(∀i,r i≤m)∧ ∀i t,T i=some t→t.parent=0∨(T t.parent≠none∧r t.parent<r i)
theorem TD {T:Int→Option TrD} {r:Int→Nat} (h: ∀i t,T i=some t→t.parent=0∨(T t.parent≠none∧r t.parent<r i)): ∀n i,r i<n→Y5 T n i
  | 0,i,h0=> by omega
  | n+1,i,h0=> by
    refine .inr ?_
    cases ht:T i with
    | none=>trivial
    | some t=>
      show Y5 T n t.parent
      rcases h i t ht with e | ⟨_,e⟩
      · rw[e]
        cases n with
        | zero=>rfl
        | succ n=> exact .inl rfl
      · exact TD h n _ (by omega)
theorem RankI.ends {T:Int→Option TrD} {m:Nat} (h:RankI T m) (hm:m<Zl): ∀i,Y5 T Zl i:= by
  obtain⟨_,r,a,b⟩:=h
  exact fun i=>TD b _ _ (by have :=a i;omega)
theorem RankI.same {T T':Int→Option TrD} {m:Nat} (h:RankI T m) (hs: ∀i,(T' i).map TrD.parent=(T i).map TrD.parent):RankI T' m:= by
  obtain⟨h0,r,a,b⟩:=h
  have hN: ∀i,T' i=none↔T i=none:= fun i=> by
    have :=hs i
    cases q:T i<;> cases q':T' i<;>simp_all
  refine⟨(hN 0).2 h0,r,a, fun i t ht=> ?_⟩
  have h1:=hs i
  rw[ht]at h1
  cases q:T i with
  | none=> rw[q]at h1; simp at h1
  | some u=>
    rw[q]at h1
    have e:t.parent=u.parent:= by simpa using h1
    rcases b i u q with h2 | ⟨h2,h3⟩
    · exact .inl (e.trans h2)
    · exact .inr ⟨fun q=>h2 ((hN _).1 (e▸q)),e▸h3⟩
theorem RankI.none0 {T:Int→Option TrD} {m:Nat} (h:RankI T m) {i:Int} {t:TrD} (ht:T i=some t):i≠0:= fun e=> by subst e; rw[h.1]at ht; cases ht
def So (x:LfA):Prop:= ∀j,j<64→x.wr.getLsbD j=false→x.base[j]? =x.own[j]?
def AgL (A:LvA):Prop:= ∀i t k x,A.tr i=some t→t.lv k=some x→So x
theorem AgL.put {A:LvA} (h:AgL A) {i:Int} {k:KD} {x:LfA} (hx:So x):AgL (ZG A i k x):= by
  unfold ZG
  cases ht:A.tr i with
  | none=> exact h
  | some t=>
    intro j u q y hj hq
    dsimp only at hj
    by_cases e:j=i
    · subst e
      rw[Qz]at hj
      cases hj
      dsimp only at hq
      by_cases e2:q=k
      · subst e2; rw[Qz]at hq; cases hq; exact hx
      · rw[QF e2]at hq; exact h j t q y ht hq
    · rw[QF e]at hj; exact h j u q y hj hq
theorem AgL.pres {A:LvA} (h:AgL A) {p:KD→Bs}:AgL {A with pres:=p}:=h
theorem AgL.tou {A:LvA} (h:AgL A) {i:Int} {k:KD}:So (Zk A i k):= by
  unfold Zk
  cases ht:A.tr i with
  | none=> exact fun _ _ _=>rfl
  | some t=>
    dsimp only
    cases hx:t.lv k with
    | none=> exact fun _ _ _=>rfl
    | some x=> exact h i t k x ht hx
def NN (ex:Int→Int):Prop:= ∀j,j≠0→0≤ex j
structure LvX (ex:Int→Int) (m:Nat) (L:LvD) (V:VS):Prop where
  ref:RefI (Xv L) V ex
  rank:RankI L.tr m
  agree:AgL (Q5 L V)
abbrev LvI (m:Nat) (L:LvD) (V:VS):Prop:=LvX (fun _=>0) m L V
section
variable {ex:Int→Int} {L L1 L':LvD} {V V1 V':VS} {id:Int} {t t1:TrD} {k:KD} {x1:LfD} {m:Nat}
theorem LvX.zero (h:LvX ex m L V):V 0=none:=h.ref.zero
theorem LvX.sees (h:LvX ex m L V) (id:Int) (k:KD):XR V (Xb L id k)=Zr (Q5 L V) id k:=NM h.zero _ _ _
theorem LvX.aliveX (h:LvX ex m L V) (hx:NN ex) (p:Pl):XO V (Xv L p):=h.ref.aliveN rfl (hx _)
theorem LvX.aliveSX (h:LvX ex m L V) (hx:NN ex) (id:Int) (k:KD):XO V (Xb L id k):= by
  rcases T7 L (Zl+1) id k with e | ⟨p,e⟩
  · exact .inl e
  · show XO V (Jv L (Zl+1) id k); rw[←e]; exact h.aliveX hx p
theorem LvX.len (h:LvX ex m L V) {s:Int} (hs:XO V s):(XR V s).length=64:= by
  cases q:V s with
  | none=>
    rcases hs with rfl | hs
    · rw[Wr h.zero]; simp [zer]
    · exact absurd q hs
  | some x=> rw[JZ q]; exact(h.ref.2 s x q).2.2
theorem LvX.alive (h:LvI m L V) (p:Pl):XO V (Xv L p):=h.aliveX (fun _ _=>Int.le_refl _) p
theorem LvX.aliveS (h:LvI m L V) (id:Int) (k:KD):XO V (Xb L id k):=h.aliveSX (fun _ _=>Int.le_refl _) id k
theorem TouR.invX (hT:TouR L V id t k L1 V1 t1 x1) (ht:L.tr id=some t) (h:LvX ex m L V) (hx:NN ex):
    LvX ex m L1 V1∧Wy V1 x1=Zk (Q5 L V) id k∧Q5 L1 V1=ZG (Q5 L V) id k (Zk (Q5 L V) id k)∧(∀c,AliveLe V c→AliveLe V1 c)∧L1.pres=L.pres:= by
  have hal:=h.aliveSX hx id k
  have hse:=h.sees id k
  rcases hT with⟨hx',rfl,rfl,rfl⟩ | ⟨hx',a,rfl,rfl,rfl,rfl⟩
  · refine⟨h, ?_, ?_, fun _ q=>q,rfl⟩
    · rw[Kg (Zp ht) (ZE hx')]
    · rw[Kg (Zp ht) (ZE hx'),TE (Zp ht) (ZE hx')]
  · generalize hs:Xb L id k=s at *
    have hpg: ∀j,XR (refW (refW V s) s) j=XR V j:= fun j=> by rw[Yt,Yt]
    have e1:Wy (refW (refW V s) s) (Hl t k s a)=Zk (Q5 L V) id k:= by
      rw[Tx (Zp ht) (UA hx')]
      unfold Wy Hl
      simp only[hpg,hse]
      rfl
    have e2:Q5 {L with tr:=X1 L.tr id (some {t with lv:=X1 t.lv k (some (Hl t k s a))}),sh:=Y4 (Y4 L.sh s) s} (refW (refW V s) s)=ZG (Q5 L V) id k (Zk (Q5 L V) id k):= by
      rw[YN (L:=L) (V:=V) (k:=k) (x:=Hl t k s a) (L':={L with tr:=X1 L.tr id (some {t with lv:=X1 t.lv k (some (Hl t k s a))}),sh:=Y4 (Y4 L.sh s) s}) rfl rfl ht rfl fun p _ _=>hpg _,e1]
    refine⟨⟨?_,h.rank.same (Jf ht rfl), ?_⟩,e1,e2, fun c q=>q.refW.refW,rfl⟩
    · have h1:=(h.ref.ref hal).ref (s:=s) (by
        rcases hal with q | q
        · exact .inl q
        · exact .inr (Ye.2 q))
      have h2:=(h1.put (.inr (id,k,false)) s).put (.inr (id,k,true)) s
      have h3:=h2.fn (g:=Xv {L with tr:=X1 L.tr id (some {t with lv:=X1 t.lv k (some (Hl t k s a))}),sh:=Y4 (Y4 L.sh s) s}) (H6 (L':={L with tr:=X1 L.tr id (some {t with lv:=X1 t.lv k (some (Hl t k s a))}),sh:=Y4 (Y4 L.sh s) s}) (t':={t with lv:=X1 t.lv k (some (Hl t k s a))}) (x:=Hl t k s a) rfl rfl ht rfl)
      refine h3.ext fun j hj=> ?_
      rw[Zb (by simp),Rh ht hx',Rh ht hx',J0 (s:=0) hj];omega
    · rw[e2]; exact h.agree.put h.agree.tou
theorem TouR.inv (hT:TouR L V id t k L1 V1 t1 x1) (ht:L.tr id=some t) (h:LvI m L V):
    LvI m L1 V1∧Wy V1 x1=Zk (Q5 L V) id k∧Q5 L1 V1=ZG (Q5 L V) id k (Zk (Q5 L V) id k)∧(∀c,AliveLe V c→AliveLe V1 c)∧L1.pres=L.pres:=hT.invX ht h fun _ _=>Int.le_refl _
end
end Go.Proofs.YtkcjfoaejijdoaaGreatDoor
namespace Go.Proofs.YtkcjfoaejijdoaaGreatDoor
open Go.RowKit M
set_option linter.unusedSectionVars false
variable [Inhabited SlW]
section
variable {L L1 L':LvD} {V V1 V':VS} {id:Int} {t t1:TrD} {k:KD} {x x1:LfD} {m Fr:Nat} {s e:Int}
def OwnI (L:LvD) (V:VS) (p:Pl) (m Fr:Nat) (L':LvD) (V':VS) (s e:Int):Prop:=
  LvI m L' V'∧Q5 L' V'=Q5 L V∧(∀c,AliveLe V c→AliveLe V' (c+1))∧(∀c,AliveLe V c→AliveLe V' c∨AliveLe V' (c+1))∧
  ((e=6∧s=0∧Hy V Fr)∨(e=0∧s≠0∧Z2 V' s=1∧Xv L' p=s))
theorem TV {f f':Pl→Int} {p:Pl} (h:RefI f V (fun _=>0)) (h1:1≤s) (hn:V s=none) (ho:XO V (f p)) (hf: ∀q,f' q=Vq f p s q):
    RefI f' (Z4 (X1 V s (some (1,XR V (f p)))) (f p)) (fun _=>0)∧(∀q,XR (Z4 (X1 V s (some (1,XR V (f p)))) (f p)) (f' q)=XR V (f q))∧Z4 (X1 V s (some (1,XR V (f p)))) (f p) s=some (1,XR V (f p)):= by
  have hl:(XR V (f p)).length=64:= by
    cases q:V (f p)with
    | none=>
      rcases ho with e | e
      · rw[e,Wr h.zero]; simp [zer]
      · exact absurd q e
    | some x=> rw[JZ q]; exact(h.2 _ x q).2.2
  generalize ho':f p=o at *
  have hso:o≠s:= fun e=> by
    subst e
    rcases ho with e | e
    · omega
    · exact absurd hn e
  have hoa:XO (X1 V s (some (1,XR V o))) o:= by
    rcases ho with e | e
    · exact .inl e
    · refine .inr ?_; rw[QF hso]; exact e
  have a1:=(((h.fresh hn h1 hl).put p s).fn hf).unr hoa
  rw[ho']at a1
  have a2:RefI f' (Z4 (X1 V s (some (1,XR V o))) o) (fun _=>0):=a1.ext fun j hj=> by omega
  have a3:Z4 (X1 V s (some (1,XR V o))) o s=some (1,XR V o):= by
    cases q:V o with
    | none=> rw[Kf (by rw[QF hso]; exact q),Qz]
    | some x=>
      rw[H1 (x:=x) (by rw[QF hso]; exact q)]
      split<;> rw[QF (fun e=>hso e.symm),Qz]
  refine⟨a2, fun q=> ?_,a3⟩
  by_cases e:q=p
  · subst e
    rw[hf,XG,JZ a3,ho']
  · have e1:f' q=f q:= by rw[hf,Zb e]
    have e2:f q≠s:=h.none_held hn (by omega) (by omega)
    have h0:X1 V s (some (1,XR V o)) 0=none:= by rw[QF (by omega)]; exact h.zero
    rw[Mb h0 (a2.alive rfl (by omega)),e1,Ko e2]
theorem OwnP.inv (h:OwnP L V k Fr L' V' s e) (hI:LvI m L V):OwnI L V (.inl k) m Fr L' V' s e∧L'.tr=L.tr:= by
  rcases h with⟨rfl,h2,h3,h4,rfl,rfl⟩ | ⟨rfl,rfl,h3,rfl,rfl⟩ | ⟨rfl,h2,h3,h4,rfl,rfl⟩
  · exact⟨⟨hI,rfl, fun c q=>q.mono (by omega), fun c q=> .inl q,.inr ⟨rfl,h3,h4,h2.symm⟩⟩,rfl⟩
  · exact⟨⟨hI,rfl, fun c q=>q.mono (by omega), fun c q=> .inl q,.inl ⟨rfl,rfl,h3⟩⟩,rfl⟩
  · generalize hL':({L with pres:=Z1 L.pres k s,sh:=Y3 (X1 V s (some (1,XR V (L.pres k)))) L.sh (L.pres k)}:LvD)=L'
    have hp:L'.pres=Z1 L.pres k s:= by subst hL';rfl
    have hT:L'.tr=L.tr:= by subst hL';rfl
    have hf:=TR hp hT
    obtain⟨a,b,c⟩:=TV (p:= .inl k) hI.ref h2 h3 (hI.alive _) hf
    have hh:Xv L (.inl k)=L.pres k:=rfl
    rw[hh]at a b c
    have e1:Q5 L' (Z4 (X1 V s (some (1,XR V (L.pres k)))) (L.pres k))=Q5 L V:= by
      rw[Bn (V:=V) hp hT fun p hp=> ?_]
      · have h5:=b (.inl k)
        rw[hf,XG,hh]at h5
        have e2:Vq (Q5 L V).pres k (XR (Z4 (X1 V s (some (1,XR V (L.pres k)))) (L.pres k)) s)=(Q5 L V).pres:= by
          funext j
          by_cases e:j=k
          · subst e; rw[XG]; exact h5
          · rw[Zb e]
        rw[e2]
      · have h5:=b p
        rw[hf,Zb hp]at h5
        exact h5
    refine⟨⟨⟨a, by rw[hT]; exact hI.rank, by rw[e1]; exact hI.agree⟩,e1, fun c q=>q.put.unr, fun c q=> .inr q.put.unr,.inr ⟨rfl, by omega,Jc c, ?_⟩⟩,hT⟩
    rw[hf,XG]
theorem OwnT.inv (h:OwnT L V id t k x Fr L' V' s e) (ht:L.tr id=some t) (hx:t.lv k=some x) (hI:LvI m L V):OwnI L V (.inr (id,k,true)) m Fr L' V' s e∧L'.pres=L.pres:= by
  have hh:Xv L (.inr (id,k,true))=x.own:= by rw[XB ht hx];rfl
  rcases h with⟨rfl,h2,h3,h4,rfl,rfl⟩ | ⟨rfl,rfl,h3,rfl,rfl⟩ | ⟨rfl,h2,h3,h4,rfl,rfl⟩
  · exact⟨⟨hI,rfl, fun c q=>q.mono (by omega), fun c q=> .inl q,.inr ⟨rfl,h3,h4, by rw[hh,h2]⟩⟩,rfl⟩
  · exact⟨⟨hI,rfl, fun c q=>q.mono (by omega), fun c q=> .inl q,.inl ⟨rfl,rfl,h3⟩⟩,rfl⟩
  · generalize hL':Zv {L with sh:=Y3 (X1 V s (some (1,XR V x.own))) L.sh x.own} id t k {x with own:=s}=L'
    have hp:L'.pres=L.pres:= by subst hL';rfl
    have hT:L'.tr=X1 L.tr id (some {t with lv:=X1 t.lv k (some {x with own:=s})}):= by subst hL';rfl
    have hf: ∀q,Xv L' q=Vq (Xv L) (.inr (id,k,true)) s q:= fun q=> by
      rw[H6 (x:={x with own:=s}) hp hT ht rfl]
      by_cases e:q= .inr (id,k,true)
      · subst e; rw[XG,XG]
      · rw[Zb e,Zb e]
        by_cases e2:q= .inr (id,k,false)
        · subst e2; rw[XG,XB ht hx];rfl
        · rw[Zb e2]
    obtain⟨a,b,c⟩:=TV (p:= .inr (id,k,true)) hI.ref h2 h3 (hI.alive _) hf
    rw[hh]at a b c
    have e1:Q5 L' (Z4 (X1 V s (some (1,XR V x.own))) x.own)=Q5 L V:= by
      rw[YN (x:={x with own:=s}) hp hT ht rfl fun p hp1 hp2=> ?_]
      · have e2:Wy (Z4 (X1 V s (some (1,XR V x.own))) x.own) {x with own:=s}=Wy V x:= by
          have h5:=b (.inr (id,k,true))
          have h6:=b (.inr (id,k,false))
          rw[hf,XG,hh]at h5
          rw[hf,Zb (by simp),XB ht hx]at h6
          simp at h6
          simp [Wy,h5,h6]
        rw[e2,TE (Zp ht) (ZE hx)]
      · have h5:=b p
        rw[hf,Zb hp2]at h5
        exact h5
    refine⟨⟨⟨a, ?_, by rw[e1]; exact hI.agree⟩,e1, fun c q=>q.put.unr, fun c q=> .inr q.put.unr,.inr ⟨rfl, by omega,Jc c, ?_⟩⟩,hp⟩
    · rw[hT]; exact hI.rank.same (Jf ht rfl)
    · rw[hf,XG]
theorem NJ {f:Pl→Int} {p:Pl} {r a:Int} {pg:Bs} {b:UInt8} (h:RefI f V (fun _=>0)) (hs:V s=some (r,pg)) (hr:Z2 V s=1) (hp:f p=s):
    RefI f (X1 V s (some (r,pg.set a.toNat b))) (fun _=>0)∧(∀q,q≠p→XR (X1 V s (some (r,pg.set a.toNat b))) (f q)=XR V (f q))∧XR (X1 V s (some (r,pg.set a.toNat b))) (f p)=(XR V (f p)).set a.toNat b:= by
  have h3:=h.2 s _ hs
  refine⟨h.setc hs (by rw[List.length_set]; exact h3.2.2), fun q hq=> ?_, ?_⟩
  · refine Ko fun e=>hq (h.excl hr rfl (by omega) hp q e)
  · rw[hp,JZ Qz,JZ hs]
end
end Go.Proofs.YtkcjfoaejijdoaaGreatDoor
namespace Go.Proofs.YtkcjfoaejijdoaaGreatDoor
open Go.RowKit M
set_option linter.unusedSectionVars false
variable [Inhabited SlW]
theorem HB {κ α:Type} {f:κ→α} {k:κ} {v:α} (h:f k=v):Vq f k v=f:= by
  funext j
  by_cases e:j=k
  · subst e; rw[XG,h]
  · rw[Zb e]
def SzLe (L:LvD) (c:Nat):Prop:= ∃l:List (Int×KD),l.length≤c∧(∀k,L.pres k≠0→(0,k)∈l)∧ ∀i t k x,L.tr i=some t→t.lv k=some x→(i,k)∈l
theorem SzLe.mono {L:LvD} {c d:Nat} (h:SzLe L c) (hd:c≤d):SzLe L d:= by
  obtain⟨l,a,b⟩:=h
  exact⟨l, by omega,b⟩
theorem SzLe.add {L L':LvD} {c:Nat} (h:SzLe L c) (i:Int) (k:KD) (hp: ∀q,L'.pres q≠0→L.pres q≠0∨(0,q)=(i,k)) (ht: ∀j u q x,L'.tr j=some u→u.lv q=some x→(∃u' x',L.tr j=some u'∧u'.lv q=some x')∨(j,q)=(i,k)):SzLe L' (c+1):= by
  obtain⟨l,a,b,d⟩:=h
  refine⟨(i,k)::l, by simp;omega, fun q hq=> ?_, fun j u q x hj hq=> ?_⟩
  · rcases hp q hq with e | e
    · exact List.mem_cons_of_mem _ (b q e)
    · rw[e]; exact List.mem_cons_self
  · rcases ht j u q x hj hq with⟨u',x',e1,e2⟩ | e
    · exact List.mem_cons_of_mem _ (d j u' q x' e1 e2)
    · rw[e]; exact List.mem_cons_self
theorem SzLe.put {L L':LvD} {c:Nat} {i:Int} {k:KD} {t:TrD} {x:LfD} (h:SzLe L c) (ht:L.tr i=some t) (hp:L'.pres=L.pres) (hT:L'.tr=X1 L.tr i (some {t with lv:=X1 t.lv k (some x)})):SzLe L' (c+1):= by
  refine h.add i k (fun q hq=> .inl (by rwa [hp]at hq)) fun j u q y hj hq=> ?_
  rw[hT]at hj
  by_cases e:j=i
  · subst e
    rw[Qz]at hj
    cases hj
    dsimp only at hq
    by_cases e2:q=k
    · right; rw[e2]
    · rw[QF e2]at hq; exact .inl ⟨t,y,ht,hq⟩
  · rw[QF e]at hj; exact .inl ⟨u,y,hj,hq⟩
theorem SzLe.putOld {L L':LvD} {c:Nat} {i:Int} {k:KD} {t:TrD} {x y:LfD} (h:SzLe L c) (ht:L.tr i=some t) (hx:t.lv k=some y) (hp:L'.pres=L.pres) (hT:L'.tr=X1 L.tr i (some {t with lv:=X1 t.lv k (some x)})):SzLe L' c:= by
  obtain⟨l,a,b,d⟩:=h
  refine⟨l,a, fun q hq=>b q (by rwa [hp]at hq), fun j u q z hj hq=> ?_⟩
  rw[hT]at hj
  by_cases e:j=i
  · subst e
    rw[Qz]at hj
    cases hj
    dsimp only at hq
    by_cases e2:q=k
    · subst e2; exact d j t q y ht hx
    · rw[QF e2]at hq; exact d j t q z ht hq
  · rw[QF e]at hj; exact d j u q z hj hq
theorem TouR.sz {L L1:LvD} {V V1:VS} {id:Int} {t t1:TrD} {k:KD} {x1:LfD} {c:Nat} (hT:TouR L V id t k L1 V1 t1 x1) (ht:L.tr id=some t) (h:SzLe L c):SzLe L1 (c+1):= by
  rcases hT with⟨_,rfl,_,_⟩ | ⟨_,a,_,rfl,rfl,_⟩
  · exact h.mono (by omega)
  · exact h.put (x:=x1) ht rfl rfl
structure StepI (m:Nat) (L:LvD) (V:VS) (m' d e:Nat) (L':LvD) (V':VS):Prop where
  inv:LvI m' L' V'
  sp:L'.sp=L.sp
  al: ∀c,AliveLe V c→AliveLe V' (c+d)
  sz: ∀c,SzLe L c→SzLe L' (c+e)
theorem StepI.refl {m:Nat} {L:LvD} {V:VS} {d e:Nat} (h:LvI m L V):StepI m L V m d e L V:=⟨h,rfl, fun _ q=>q.mono (by omega), fun _ q=>q.mono (by omega)⟩
theorem StepI.trans {m m1 m2:Nat} {L L1 L2:LvD} {V V1 V2:VS} {d d1 e e1:Nat} (h:StepI m L V m1 d e L1 V1) (h':StepI m1 L1 V1 m2 d1 e1 L2 V2):StepI m L V m2 (d+d1) (e+e1) L2 V2:=
  ⟨h'.inv,h'.sp.trans h.sp, fun c q=>(h'.al _ (h.al c q)).mono (by omega), fun c q=>(h'.sz _ (h.sz c q)).mono (by omega)⟩
theorem StepI.up {m m1:Nat} {L L1:LvD} {V V1:VS} {d d1 e e1:Nat} (h:StepI m L V m1 d e L1 V1) (h1:d≤d1) (h2:e≤e1):StepI m L V m1 d1 e1 L1 V1:=
  ⟨h.inv,h.sp, fun c q=>(h.al c q).mono (by omega), fun c q=>(h.sz c q).mono (by omega)⟩
def Co (V:VS) (Fr:Nat):Prop:= ∀c,AliveLe V c→Fr≤c+1
section
variable {L L1 L':LvD} {V V1 V':VS} {id:Int} {t t1 t':TrD} {k:KD} {x x1 x':LfD} {m Fr:Nat} {s e a r:Int} {pg:Bs} {b:UInt8}
theorem OwnP.sz {c:Nat} (h:OwnP L V k Fr L' V' s e) (hc:SzLe L c):SzLe L' (c+1):= by
  rcases h with⟨_,_,_,_,rfl,_⟩ | ⟨_,_,_,rfl,_⟩ | ⟨_,h2,_,_,_,rfl⟩
  · exact hc.mono (by omega)
  · exact hc.mono (by omega)
  · refine hc.add 0 k (fun q hq=> ?_) fun j u q y hj hq=> .inl ⟨u,y,hj,hq⟩
    by_cases e:q=k
    · right; rw[e]
    · simp only[Z1,if_neg e]at hq; exact .inl hq
theorem OwnT.sz {c:Nat} (h:OwnT L V id t k x Fr L' V' s e) (ht:L.tr id=some t) (hx:t.lv k=some x) (hc:SzLe L c):SzLe L' c:= by
  rcases h with⟨_,_,_,_,rfl,_⟩ | ⟨_,_,_,rfl,_⟩ | ⟨_,h2,_,_,_,rfl⟩
  · exact hc
  · exact hc
  · exact hc.putOld (x:={x with own:=s}) ht hx rfl rfl
theorem qbu (he:Q5 L' V'=Q5 L V) (ht:L.tr id=some t) (hx:t.lv k=some x) (ht':L'.tr id=some t') (hx':t'.lv k=some x'):Wy V' x'=Wy V x:= by
  have h1:=Zp (V:=V') ht'
  rw[he,Zp ht]at h1
  have h2:ZH V t=ZH V' t':= by simpa using h1
  have h3:=ZE (V:=V') hx'
  rw[←h2,ZE hx]at h3
  simpa using h3.symm
theorem Oz (hI:LvI m L V) (h0:Z2 V s=1) (hs:V s=some (r,pg)) (hp:Xv L (.inl k)=s) (ha:0≤a∧a<64):
    LvI m L (X1 V s (some (r,pg.set a.toNat b)))∧Q5 L (X1 V s (some (r,pg.set a.toNat b)))={Q5 L V with pres:=Vq (Q5 L V).pres k (((Q5 L V).pres k).set a.toNat b)}:= by
  obtain⟨a1,a2,a3⟩:=NJ (a:=a) (b:=b) hI.ref hs h0 hp
  have e1:Q5 L (X1 V s (some (r,pg.set a.toNat b)))={Q5 L V with pres:=Vq (Q5 L V).pres k (((Q5 L V).pres k).set a.toNat b)}:= by
    have hk:L.pres=Z1 L.pres k (L.pres k):= by
      funext j;unfold Z1;split
      · rename_i e; rw[e]
      · rfl
    rw[Bn (V:=V) (k:=k) (s:=L.pres k) hk rfl fun p hp=>a2 p hp]
    have h5:XR (X1 V s (some (r,pg.set a.toNat b))) (L.pres k)=((Q5 L V).pres k).set a.toNat b:=a3
    rw[h5]
  exact⟨⟨a1,hI.rank, by rw[e1]; exact hI.agree⟩,e1⟩
theorem Oy (hI:LvI m L V) (h0:Z2 V s=1) (hs:V s=some (r,pg)) (hp:Xv L (.inr (id,k,true))=s) (ht:L.tr id=some t) (hx:t.lv k=some x) (ha:0≤a∧a<64):
    LvI m (Zv L id t k {x with wr:=x.wr ||| (1#64<<<a.toNat)}) (X1 V s (some (r,pg.set a.toNat b)))∧
    Q5 (Zv L id t k {x with wr:=x.wr ||| (1#64<<<a.toNat)}) (X1 V s (some (r,pg.set a.toNat b)))=ZG (Q5 L V) id k {Wy V x with own:=(Wy V x).own.set a.toNat b,wr:=x.wr ||| (1#64<<<a.toNat)}:= by
  obtain⟨a1,a2,a3⟩:=NJ (a:=a) (b:=b) hI.ref hs h0 hp
  generalize hL':Zv L id t k {x with wr:=x.wr ||| (1#64<<<a.toNat)}=L'
  have hP:L'.pres=L.pres:= by subst hL';rfl
  have hT:L'.tr=X1 L.tr id (some {t with lv:=X1 t.lv k (some {x with wr:=x.wr ||| (1#64<<<a.toNat)})}):= by subst hL';rfl
  have hf: ∀q,Xv L' q=Xv L q:= fun q=> by
    rw[H6 (x:={x with wr:=x.wr ||| (1#64<<<a.toNat)}) hP hT ht rfl]
    dsimp only
    rw[HB (f:=Xv L) (v:=x.base) (by rw[XB ht hx];rfl),HB (by rw[XB ht hx];rfl)]
  have e1:Q5 L' (X1 V s (some (r,pg.set a.toNat b)))=ZG (Q5 L V) id k {Wy V x with own:=(Wy V x).own.set a.toNat b,wr:=x.wr ||| (1#64<<<a.toNat)}:= by
    rw[YN (x:={x with wr:=x.wr ||| (1#64<<<a.toNat)}) hP hT ht rfl fun p _ h2=>a2 p h2]
    congr 1
    have h3:=a2 (.inr (id,k,false)) (by simp)
    rw[XB ht hx]at h3 a3
    simp at h3 a3
    simp only[Wy,h3,a3]
  refine⟨⟨a1.fn hf, by rw[hT]; exact hI.rank.same (Jf ht rfl), ?_⟩,e1⟩
  rw[e1]
  refine hI.agree.put fun j hj hw=> ?_
  have h4:=hI.agree id _ k _ (Zp ht) (ZE hx) j hj
  dsimp only at hw⊢
  rw[BitVec.getLsbD_or,Bool.or_eq_false_iff]at hw
  rw[h4 hw.1]
  have h5:a.toNat≠j:= fun q=> by
    have :=hw.2
    rw[q,BitVec.getLsbD_shiftLeft]at this
    simp [hj]at this
  rw[List.getElem?_set_ne h5]
end
end Go.Proofs.YtkcjfoaejijdoaaGreatDoor
