/- leaves: references, plain -/
import Derived.Test.YtkgjmhcdacidoaaGreatDoorTr2
set_option linter.unusedSectionVars false
set_option linter.unusedVariables false
set_option maxRecDepth 100000
set_option maxHeartbeats 80000000000
namespace Go.Proofs.YtkgjmhcdacidoaaGreatDoor
open Go.RowKit M Proofs.Tryz
variable [Inhabited SlW]
open Classical in
noncomputable def KQ {κ α:Type} (f:κ→α) (k:κ) (v:α):κ→α:= fun j=> if j=k then v else f j
theorem XK {κ α:Type} {f:κ→α} {k:κ} {v:α}:KQ f k v k=v:= by unfold KQ; rw[if_pos U]
theorem XT {κ α:Type} {f:κ→α} {k j:κ} {v:α} (h:j≠k):KQ f k v j=f j:= by unfold KQ; rw[if_neg h]
def CI {κ:Type} (f:κ→Int) (s:Int) (n:Nat):Prop:= ∃l:List κ,l.Nodup∧(∀p,p∈l↔f p=s)∧l.length=n
section
variable {κ:Type} {f g:κ→Int} {s v:Int} {n m:Nat} {p:κ}
theorem HF (h: ∀p,g p=s↔f p=s) (hc:CI f s n):CI g s n:= by
  obtain⟨l,a,b,c⟩:=hc
  exact⟨l,a, fun p=>(b p).trans (h p).symm,c⟩
theorem P6 (h:CI f s n) (h':CI f s m):n=m:= by
  obtain⟨l,a,b,rfl⟩:=h
  obtain⟨l',a',b',rfl⟩:=h'
  exact((List.perm_ext_iff_of_nodup a a').2 fun k=>(b k).trans (b' k).symm).length_eq
theorem Ey (hp:f p≠s) (h:CI f s n):CI (KQ f p s) s (n+1):= by
  obtain⟨l,a,b,c⟩:=h
  refine⟨p::l,List.nodup_cons.2 ⟨fun q=>hp ((b p).1 q),a⟩, fun q=> ?_, by simp [c]⟩
  by_cases e:q=p
  · subst e; rw[XK]; simp
  · rw[XT e,List.mem_cons,b q]; simp [e]
theorem M8 (hp:f p=s) (hv:v≠s) (h:CI f s n): ∃m,n=m+1∧CI (KQ f p v) s m:= by
  obtain⟨l,a,b,c⟩:=h
  obtain⟨x,y,rfl⟩:=List.append_of_mem ((b p).2 hp)
  have ha:(x++y).Nodup∧p∉x++y:= by
    have :=(List.perm_middle (l₁:=x) (a:=p) (l₂:=y)).nodup_iff.1 a
    rw[List.nodup_cons]at this
    exact⟨this.2,this.1⟩
  refine⟨(x++y).length, by rw[←c]; simp;omega,x++y,ha.1, fun q=> ?_,rfl⟩
  by_cases e:q=p
  · subst e; rw[XK]; exact⟨fun h=>absurd h ha.2, fun h=>absurd h hv⟩
  · rw[XT e,←b q]; simp [e]
theorem Gu (h:CI f s n) (hp:f p=s):1≤n:= by
  obtain⟨l,a,b,rfl⟩:=h
  exact List.length_pos_of_mem ((b p).2 hp)
theorem cnt_one (h:CI f s 1) (hp:f p=s): ∀q,f q=s→q=p:= by
  obtain⟨l,a,b,c⟩:=h
  obtain⟨x,rfl⟩:=List.length_eq_one_iff.1 c
  intro q hq
  have h1:=(b p).2 hp
  have h2:=(b q).2 hq
  simp at h1 h2
  rw[h1,h2]
end
def dl (s:Int):Int→Int:= fun j=> if j=s then 1 else 0
theorem Wx {s:Int}:dl s s=1:= by unfold dl; rw[if_pos U]
theorem Jb {s j:Int} (h:j≠s):dl s j=0:= by unfold dl; rw[if_neg h]
def RefI {κ:Type} (f:κ→Int) (V:VS) (ex:Int→Int):Prop:=(∀s,s≠0→ ∃n:Nat,CI f s n∧Z9 V s=n+ex s)∧ ∀s x,V s=some x→1≤x.1∧1≤s∧x.2.length=64
section
variable {κ:Type} {f g:κ→Int} {V:VS} {ex ex':Int→Int} {s:Int} {p:κ}
theorem RefI.zero (h:RefI f V ex):V 0=none:= by
  cases q:V 0 with
  | none=>rfl
  | some x=> have :=(h.2 0 x q).2.1;omega
theorem RefI.ext (h:RefI f V ex) (he: ∀j,j≠0→ex' j=ex j):RefI f V ex':=⟨fun s hs=> by obtain⟨n,a,b⟩:=h.1 s hs; exact⟨n,a, by rw[he s hs]; exact b⟩,h.2⟩
theorem RefI.fn (h:RefI f V ex) (he: ∀p,g p=f p):RefI g V ex:= by
  have :g=f:=funext he
  rw[this]; exact h
theorem HX (h:V s=none):Z9 V s=0:= by unfold Z9; rw[h]
theorem WD {x:Int×Bs} (h:V s=some x):Z9 V s=x.1:= by unfold Z9; rw[h]
theorem RefI.alive_of (h:RefI f V ex) (hr:1≤Z9 V s):V s≠none:= fun q=> by rw[HX q]at hr;omega
theorem RefI.aliveN (h:RefI f V ex) (hp:f p=s) (he:s≠0→0≤ex s):XZ V s:= by
  by_cases h0:s=0
  · exact .inl h0
  · obtain⟨n,a,b⟩:=h.1 s h0
    have :=Gu a hp
    have :=he h0
    exact .inr (h.alive_of (by omega))
theorem RefI.alive (h:RefI f V ex) (hp:f p=s) (he:0≤ex s):XZ V s:=h.aliveN hp fun _=>he
theorem RefI.ref (h:RefI f V ex) (ha:XZ V s):RefI f (refW V s) (fun j=>ex j+dl s j):= by
  by_cases h0:s=0
  · have e:refW V s=V:= by unfold refW; rw[if_pos h0]
    rw[e]
    exact h.ext fun j hj=> by rw[Jb (by omega)];omega
  have e:refW V s=RM V s:= by unfold refW; rw[if_neg h0]
  rw[e]
  cases q:V s with
  | none => rcases ha with ha | ha
            · exact absurd ha h0
            · exact absurd q ha
  | some x=>
    have e2:RM V s=QO V s (some (x.1+1,x.2)):= by unfold RM; rw[q]
    rw[e2]
    refine⟨fun j hj=> ?_, fun j y hy=> ?_⟩
    · obtain⟨n,a,b⟩:=h.1 j hj
      refine⟨n,a, ?_⟩; dsimp only
      by_cases e3:j=s
      · subst e3
        rw[WD Qu,Wx]
        rw[WD q]at b
        dsimp only;omega
      · have :Z9 (QO V s (some (x.1+1,x.2))) j=Z9 V j:= by unfold Z9; rw[Qz e3]
        rw[this,Jb e3];omega
    · by_cases e3:j=s
      · subst e3
        rw[Qu]at hy
        cases hy
        obtain⟨a,b,c⟩:=h.2 j x q
        exact⟨by dsimp only;omega,b,c⟩
      · rw[Qz e3]at hy; exact h.2 j y hy
theorem UJ (h:V s=none):Z7 V s=V:= by unfold Z7; rw[h]
theorem YO {x:Int×Bs} (h:V s=some x):Z7 V s= if 1<x.1 then QO V s (some (x.1 -1,x.2))else QO V s none:= by unfold Z7; rw[h]
theorem RefI.unr (h:RefI f V ex) (ha:XZ V s):RefI f (Z7 V s) (fun j=>ex j -dl s j):= by
  cases q:V s with
  | none=>
    rcases ha with ha | ha
    · rw[UJ q]
      exact h.ext fun j hj=> by rw[Jb (by omega)];omega
    · exact absurd q ha
  | some x=>
    have hx:=h.2 s x q
    refine⟨fun j hj=> ?_, fun j y hy=> ?_⟩
    · obtain⟨n,a,b⟩:=h.1 j hj
      refine⟨n,a, ?_⟩; dsimp only
      rw[YO q]
      by_cases e3:j=s
      · subst e3
        rw[Wx]
        rw[WD q]at b
        split
        · rw[WD Qu]; dsimp only;omega
        · rw[HX Qu];omega
      · rw[Jb e3]
        have : ∀o,Z9 (QO V s o) j=Z9 V j:= fun o=> by unfold Z9; rw[Qz e3]
        split<;>(rw[this];omega)
    · rw[YO q]at hy
      by_cases e3:j=s
      · subst e3
        split at hy
        · rw[Qu]at hy
          cases hy
          exact⟨by dsimp only;omega,hx.2⟩
        · rw[Qu]at hy; cases hy
      · split at hy<;>(rw[Qz e3]at hy; exact h.2 j y hy)
theorem RefI.put (h:RefI f V ex) (p:κ) (v:Int):RefI (KQ f p v) V (fun j=>ex j+dl (f p) j -dl v j):= by
  refine⟨fun j hj=> ?_,h.2⟩
  obtain⟨n,a,b⟩:=h.1 j hj
  by_cases e1:f p=j
  · by_cases e2:v=j
    · refine⟨n,HF (fun q=> ?_) a, ?_⟩
      · by_cases e:q=p
        · subst e; rw[XK,e1,e2]
        · rw[XT e]
      · dsimp only; rw[e1,e2,Wx];omega
    · obtain⟨m,rfl,c⟩:=M8 e1 e2 a
      refine⟨m,c, ?_⟩; dsimp only
      rw[e1,Wx,Jb (fun q=>e2 q.symm)];omega
  · by_cases e2:v=j
    · subst e2
      refine⟨n+1,Ey e1 a, ?_⟩; dsimp only
      rw[Wx,Jb (fun q=>e1 q.symm)];omega
    · refine⟨n,HF (fun q=> ?_) a, ?_⟩
      · by_cases e:q=p
        · subst e; rw[XK]; exact⟨fun q=>absurd q e2, fun q=>absurd q e1⟩
        · rw[XT e]
      · dsimp only; rw[Jb (fun q=>e1 q.symm),Jb (fun q=>e2 q.symm)];omega
theorem RefI.fresh (h:RefI f V ex) {pg:Bs} (hn:V s=none) (h1:1≤s) (hl:pg.length=64):RefI f (QO V s (some (1,pg))) (fun j=>ex j+dl s j):= by
  refine⟨fun j hj=> ?_, fun j y hy=> ?_⟩
  · obtain⟨n,a,b⟩:=h.1 j hj
    refine⟨n,a, ?_⟩; dsimp only
    by_cases e:j=s
    · subst e
      rw[WD Qu,Wx]
      rw[HX hn]at b
      dsimp only;omega
    · have :Z9 (QO V s (some (1,pg))) j=Z9 V j:= by unfold Z9; rw[Qz e]
      rw[this,Jb e];omega
  · by_cases e:j=s
    · subst e
      rw[Qu]at hy
      cases hy
      exact⟨by dsimp only;omega,h1,hl⟩
    · rw[Qz e]at hy; exact h.2 j y hy
theorem RefI.setc (h:RefI f V ex) {pg pg':Bs} {r:Int} (hn:V s=some (r,pg)) (hl:pg'.length=64):RefI f (QO V s (some (r,pg'))) ex:= by
  refine⟨fun j hj=> ?_, fun j y hy=> ?_⟩
  · obtain⟨n,a,b⟩:=h.1 j hj
    refine⟨n,a, ?_⟩
    by_cases e:j=s
    · subst e
      rw[WD Qu]
      rw[WD hn]at b
      exact b
    · have :Z9 (QO V s (some (r,pg'))) j=Z9 V j:= by unfold Z9; rw[Qz e]
      rw[this]; exact b
  · by_cases e:j=s
    · subst e
      rw[Qu]at hy
      cases hy
      have :=h.2 j _ hn
      exact⟨this.1,this.2.1,hl⟩
    · rw[Qz e]at hy; exact h.2 j y hy
theorem RefI.none_held (h:RefI f V ex) (hn:V s=none) (h0:s≠0) (he:0≤ex s):f p≠s:= fun q=> by
  rcases h.alive q he with h1 | h1
  · exact h0 h1
  · exact h1 hn
theorem RefI.excl (h:RefI f V ex) (hr:Z9 V s=1) (he:ex s=0) (h0:s≠0) (hp:f p=s): ∀q,f q=s→q=p:= by
  obtain⟨n,a,b⟩:=h.1 s h0
  have :n=1:= by omega
  subst this
  exact cnt_one a hp
end
section
variable {V:VS} {s j:Int}
theorem J0 {x:Int×Bs} (h:V j=some x):Zf V j=x.2:= by unfold Zf; rw[h]
theorem JO (h:V 0=none):Zf V 0=zer:= by unfold Zf; rw[h];rfl
theorem Ls {V':VS} (h:V' j=V j):Zf V' j=Zf V j:= by unfold Zf; rw[h]
theorem UP {o:Option (Int×Bs)} (h:j≠s):Zf (QO V s o) j=Zf V j:=Ls (Qz h)
theorem pg_refV:Zf (RM V s) j=Zf V j:= by
  unfold RM
  cases q:V s with
  | none=>rfl
  | some x=>
    dsimp only
    by_cases e:j=s
    · subst e; rw[J0 Qu,J0 q]
    · exact UP e
theorem YA:Zf (refW V s) j=Zf V j:= by unfold refW;split;rfl; exact pg_refV
theorem Bc (h0:V 0=none) (h:XZ (Z7 V s) j):Zf (Z7 V s) j=Zf V j:= by
  cases q:V s with
  | none=> rw[UJ q]
  | some x=>
    by_cases e:j=s
    · subst e
      rw[YO q]at h⊢
      split
      · rw[J0 Qu,J0 q]
      · rename_i hx
        rw[if_neg hx]at h
        rcases h with h | h
        · subst h; rw[h0]at q; cases q
        · exact absurd Qu h
    · rw[YO q];split<;> exact UP e
theorem Dh (h:Z7 V s j≠none):V j≠none:= by
  cases q:V s with
  | none=>rwa [UJ q]at h
  | some x=>
    by_cases e:j=s
    · subst e; rw[q]; simp
    · rw[YO q]at h
      split at h<;>rwa [Qz e]at h
def AliveLe (V:VS) (n:Nat):Prop:= ∃l:List Int,l.length≤n∧ ∀j,V j≠none→j∈l
theorem AliveLe.sub {V':VS} {n:Nat} (h:AliveLe V n) (hs: ∀j,V' j≠none→V j≠none):AliveLe V' n:= by
  obtain⟨l,a,b⟩:=h
  exact⟨l,a, fun j hj=>b j (hs j hj)⟩
theorem AliveLe.mono {n m:Nat} (h:AliveLe V n) (hm:n≤m):AliveLe V m:= by
  obtain⟨l,a,b⟩:=h
  exact⟨l, by omega,b⟩
theorem AliveLe.refW {n:Nat} (h:AliveLe V n):AliveLe (refW V s) n:=h.sub fun j=>Hb.1
theorem AliveLe.unr {n:Nat} (h:AliveLe V n):AliveLe (Z7 V s) n:=h.sub fun j=>Dh
theorem AliveLe.put {n:Nat} {o:Option (Int×Bs)} (h:AliveLe V n):AliveLe (QO V s o) (n+1):= by
  obtain⟨l,a,b⟩:=h
  refine⟨s::l, by simp;omega, fun j hj=> ?_⟩
  by_cases e:j=s
  · simp [e]
  · rw[Qz e]at hj; exact List.mem_cons_of_mem _ (b j hj)
theorem Wn {α:Type}: ∀{a b:List α},a.Nodup→(∀x∈a,x∈b)→a.length≤b.length
  | [],_,_,_=> by simp
  | x::a,b,h,hs=> by
    rw[List.nodup_cons]at h
    obtain⟨u,v,rfl⟩:=List.append_of_mem (hs x (by simp))
    have :=Wn (a:=a) (b:=u++v) h.2 fun y hy=> by
      have h1:=hs y (List.mem_cons_of_mem _ hy)
      have h2:y≠x:= fun q=>h.1 (q▸hy)
      simpa [h2]using h1
    simp at this⊢;omega
theorem Hy {n m:Nat} (h:AliveLe V n) (h':YK V m):m≤n:= by
  obtain⟨l,a,b⟩:=h
  obtain⟨l',rfl,c,d⟩:=h'
  have :=Wn c fun j hj=>b j (d j hj)
  omega
end
abbrev Pl:=KD⊕(Int×KD×Bool)
def Xy (L:LvD):Pl→Int
  | .inl k=>L.pres k
  | .inr (i,k,o)=> match L.tr i with | none=>0 | some t=> match t.lv k with | none=>0 | some x=> if o=true then x.own else x.base
theorem DA {L L':LvD} {k:KD} {s:Int} (hp:L'.pres=Wm L.pres k s) (ht:L'.tr=L.tr): ∀p,Xy L' p=KQ (Xy L) (.inl k) s p:= fun p=> by
  cases p with
  | inl j=>
    by_cases e:j=k
    · subst e; rw[XK]; simp [Xy,hp,Wm]
    · rw[XT (by simpa using e)]; simp [Xy,hp,Wm,e]
  | inr q=> rw[XT (by simp)]; simp [Xy,ht]
theorem H6 {L L':LvD} {i:Int} {t t':TrD} {k:KD} {x:LfD} (hp:L'.pres=L.pres) (hT:L'.tr=QO L.tr i (some t')) (ht:L.tr i=some t) (hl:t'.lv=QO t.lv k (some x)):
    ∀p,Xy L' p=KQ (KQ (Xy L) (.inr (i,k,false)) x.base) (.inr (i,k,true)) x.own p:= fun p=> by
  cases p with
  | inl j=> rw[XT (by simp),XT (by simp)]; simp [Xy,hp]
  | inr q=>
    obtain⟨i2,k2,o⟩:=q
    by_cases e:i2=i
    · subst e
      by_cases e2:k2=k
      · subst e2
        cases o with
        | true=> rw[XK]; simp [Xy,hT,Qu,hl]
        | false=> rw[XT (by simp),XK]; simp [Xy,hT,Qu,hl]
      · rw[XT (by simp [e2]),XT (by simp [e2])]
        simp only[Xy,hT,Qu,ht,hl]
        rw[Qz e2]
    · rw[XT (by simp [e]),XT (by simp [e])]
      simp only[Xy,hT]
      rw[Qz e]
theorem XF {L:LvD} {i:Int} {t:TrD} {k:KD} {x:LfD} {o:Bool} (ht:L.tr i=some t) (hx:t.lv k=some x):Xy L (.inr (i,k,o))= if o=true then x.own else x.base:= by simp only[Xy,ht,hx]
theorem VH {L:LvD} {i:Int} {t:TrD} {k:KD} {o:Bool} (ht:L.tr i=some t) (hx:t.lv k=none):Xy L (.inr (i,k,o))=0:= by simp only[Xy,ht,hx]
structure LfA where
  base:Bs
  own:Bs
  rd:BitVec 64
  wr:BitVec 64
structure TrA where
  parent:Int
  lv:KD→Option LfA
  dr:Bs→Bool
structure LvA where
  pres:KD→Bs
  tr:Int→Option TrA
def Ws (V:VS) (x:LfD):LfA:=⟨Zf V x.base,Zf V x.own,x.rd,x.wr⟩
def Zy (V:VS) (t:TrD):TrA:=⟨t.parent, fun k=>(t.lv k).map (Ws V),t.dr⟩
def QG (L:LvD) (V:VS):LvA:=⟨fun k=>Zf V (L.pres k), fun i=>(L.tr i).map (Zy V)⟩
def JM (A:LvA):Nat→Int→KD→Bs
  | 0,_,_=>zer
  | n+1,id,k=> if id=0 then A.pres k else match A.tr id with | none=>zer | some t=> match t.lv k with | some x=>x.own | none=> if t.dr k.1=true then zer else JM A n t.parent k
def WX (A:LvA) (id:Int) (k:KD):Bs:=JM A (Wd+1) id k
noncomputable def Ww (A:LvA) (id:Int) (k:KD) (x:LfA):LvA:= match A.tr id with | none=>A | some t=>{A with tr:=QO A.tr id (some {t with lv:=QO t.lv k (some x)})}
def ZN (A:LvA) (id:Int) (k:KD):LfA:= match A.tr id with | none=>⟨zer,zer,0#64,0#64⟩ | some t=> match t.lv k with | some x=>x | none=>⟨WX A id k,WX A id k,0#64, if t.dr k.1=true then BitVec.allOnes 64 else 0#64⟩
theorem Z6 {L:LvD} {V:VS} {i:Int} {t:TrD} (h:L.tr i=some t):(QG L V).tr i=some (Zy V t):= by simp [QG,h]
theorem Z8 {V:VS} {t:TrD} {k:KD} {x:LfD} (h:t.lv k=some x):(Zy V t).lv k=some (Ws V x):= by simp [Zy,h]
theorem UF {V:VS} {t:TrD} {k:KD} (h:t.lv k=none):(Zy V t).lv k=none:= by simp [Zy,h]
theorem Tm {L:LvD} {V:VS} (h0:V 0=none): ∀n id k,Zf V (Jz L n id k)=JM (QG L V) n id k
  | 0,_,_=>JO h0
  | n+1,id,k=> by
    unfold Jz JM
    split
    · rfl
    · cases ht:L.tr id with
      | none=> rw[show(QG L V).tr id=none by simp [QG,ht]]; exact JO h0
      | some t=>
        rw[Z6 ht]; dsimp only
        cases hx:t.lv k with
        | some x=> rw[Z8 hx];rfl
        | none=>
          rw[UF hx]; dsimp only
          show Zf V (if t.dr k.1=true then 0 else _)= if t.dr k.1=true then zer else _
          split
          · exact JO h0
          · exact Tm h0 n t.parent k
theorem Dp (L:LvD): ∀n id k,Jz L n id k=0∨ ∃p,Xy L p=Jz L n id k
  | 0,_,_=> .inl rfl
  | n+1,id,k=> by
    unfold Jz
    split
    · exact .inr ⟨.inl k,U⟩
    · cases ht:L.tr id with
      | none=> exact .inl rfl
      | some t=>
        dsimp only
        cases hx:t.lv k with
        | some x=> exact .inr ⟨.inr (id,k,true), by rw[XF ht hx];rfl⟩
        | none=>
          dsimp only
          split
          · exact .inl U
          · exact Dp L n t.parent k
theorem MS {V V':VS} {t:TrD} (h: ∀k x,t.lv k=some x→Zf V' x.base=Zf V x.base∧Zf V' x.own=Zf V x.own):Zy V' t=Zy V t:= by
  unfold Zy
  congr 1
  funext k
  cases q:t.lv k with
  | none=>rfl
  | some x=> obtain⟨a,b⟩:=h k x q; simp [Ws,a,b]
theorem Uj {L:LvD} {V V':VS} (h: ∀p,Zf V' (Xy L p)=Zf V (Xy L p)):QG L V'=QG L V:= by
  unfold QG
  congr 1
  · funext k; exact h (.inl k)
  · funext i
    cases q:L.tr i with
    | none=>rfl
    | some t=>
      refine congrArg some (MS fun k x hx=> ?_)
      have h1:=h (.inr (i,k,false))
      have h2:=h (.inr (i,k,true))
      rw[XF q hx]at h1 h2
      exact⟨h1,h2⟩
theorem ZX {A:LvA} {id:Int} {k:KD} {x:LfA} {t:TrA} (h:A.tr id=some t):Ww A id k x={A with tr:=QO A.tr id (some {t with lv:=QO t.lv k (some x)})}:= by unfold Ww; rw[h]
theorem Dv {A:LvA} {id:Int} {k:KD} {x:LfA} {t:TrA} (h:A.tr id=some t) (hx:t.lv k=some x):Ww A id k x=A:= by
  rw[ZX h,Wk hx,Wk h]
theorem Di {A:LvA} {id:Int} {k:KD} {x:LfA} {t:TrA} (h:A.tr id=some t) (hx:t.lv k=some x):ZN A id k=x:= by unfold ZN; rw[h]; dsimp only; rw[hx]
theorem Dj {A:LvA} {id:Int} {k:KD} {t:TrA} (h:A.tr id=some t) (hx:t.lv k=none):ZN A id k=⟨WX A id k,WX A id k,0#64, if t.dr k.1=true then BitVec.allOnes 64 else 0#64⟩:= by unfold ZN; rw[h]; dsimp only; rw[hx]
theorem Hl {L L':LvD} {V V':VS} {i:Int} {t t':TrD} {k:KD} {x:LfD} (hp:L'.pres=L.pres) (hT:L'.tr=QO L.tr i (some t')) (ht:L.tr i=some t) (hl:t'={t with lv:=QO t.lv k (some x)})
    (h: ∀p,p≠ .inr (i,k,false)→p≠ .inr (i,k,true)→Zf V' (Xy L p)=Zf V (Xy L p)):QG L' V'=Ww (QG L V) i k (Ws V' x):= by
  rw[ZX (Z6 ht)]
  unfold QG
  rw[hp,hT]
  congr 1
  · funext j; exact h (.inl j) (by simp) (by simp)
  · funext j
    by_cases e:j=i
    · subst e
      rw[Qu,Qu]
      subst hl
      simp only[Option.map_some]
      congr 1
      unfold Zy
      congr 1
      funext q
      by_cases e2:q=k
      · subst e2; rw[Qu]; show Option.map (Ws V') (QO t.lv q (some x) q)=_; rw[Qu];rfl
      · rw[Qz e2]
        show Option.map (Ws V') (QO t.lv k (some x) q)=Option.map (Ws V) (t.lv q)
        rw[Qz e2]
        cases hq:t.lv q with
        | none=>rfl
        | some y=>
          have h1:=h (.inr (j,q,false)) (by simp [e2]) (by simp)
          have h2:=h (.inr (j,q,true)) (by simp) (by simp [e2])
          rw[XF ht hq]at h1 h2
          simp at h1 h2
          simp [Ws,h1,h2]
    · rw[Qz e,Qz e]
      show Option.map (Zy V') (L.tr j)=Option.map (Zy V) (L.tr j)
      cases q:L.tr j with
      | none=>rfl
      | some u=>
        refine congrArg some (MS fun k2 y hy=> ?_)
        have h1:=h (.inr (j,k2,false)) (by simp [e]) (by simp)
        have h2:=h (.inr (j,k2,true)) (by simp) (by simp [e])
        rw[XF q hy]at h1 h2
        exact⟨h1,h2⟩
theorem DV {L L':LvD} {V V':VS} {k:KD} {s:Int} (hp:L'.pres=Wm L.pres k s) (hT:L'.tr=L.tr)
    (h: ∀p,p≠ .inl k→Zf V' (Xy L p)=Zf V (Xy L p)):QG L' V'={QG L V with pres:=KQ (QG L V).pres k (Zf V' s)}:= by
  unfold QG
  rw[hp,hT]
  congr 1
  · funext j
    by_cases e:j=k
    · subst e; rw[XK]; simp [Wm]
    · rw[XT e]
      have :=h (.inl j) (by simpa using e)
      simp only[Wm,if_neg e]
      exact this
  · funext j
    show Option.map (Zy V') (L.tr j)=Option.map (Zy V) (L.tr j)
    cases q:L.tr j with
    | none=>rfl
    | some u=>
      refine congrArg some (MS fun k2 y hy=> ?_)
      have h1:=h (.inr (j,k2,false)) (by simp)
      have h2:=h (.inr (j,k2,true)) (by simp)
      rw[XF q hy]at h1 h2
      exact⟨h1,h2⟩
def RankI (T:Int→Option TrD) (m:Nat):Prop:=T 0=none∧ ∃r:Int→Nat,(∀i,r i≤m)∧ ∀i t,T i=some t→t.parent=0∨(T t.parent≠none∧r t.parent<r i)
theorem Du {T:Int→Option TrD} {r:Int→Nat} (h: ∀i t,T i=some t→t.parent=0∨(T t.parent≠none∧r t.parent<r i)): ∀n i,r i<n→HN T n i
  | 0,i,h0=> by omega
  | n+1,i,h0=> by
    refine .inr ?_
    cases ht:T i with
    | none=>trivial
    | some t=>
      show HN T n t.parent
      rcases h i t ht with e | ⟨_,e⟩
      · rw[e]
        cases n with
        | zero=>rfl
        | succ n=> exact .inl rfl
      · exact Du h n _ (by omega)
theorem RankI.ends {T:Int→Option TrD} {m:Nat} (h:RankI T m) (hm:m<Wd): ∀i,HN T Wd i:= by
  obtain⟨_,r,a,b⟩:=h
  exact fun i=>Du b _ _ (by have :=a i;omega)
theorem RankI.same {T T':Int→Option TrD} {m:Nat} (h:RankI T m) (hs: ∀i,(T' i).map TrD.parent=(T i).map TrD.parent):RankI T' m:= by
  obtain⟨h0,r,a,b⟩:=h
  have hN: ∀i,T' i=none↔T i=none:= fun i=> by
    have :=hs i
    cases q:T i<;> cases q':T' i<;>simp_all
  refine⟨(hN 0).2 h0,r,a, fun i t ht=> ?_⟩
  have h1:=hs i
  rw[ht]at h1
  cases q:T i with
  | none=> rw[q]at h1; simp at h1
  | some u=>
    rw[q]at h1
    have e:t.parent=u.parent:= by simpa using h1
    rcases b i u q with h2 | ⟨h2,h3⟩
    · exact .inl (e.trans h2)
    · exact .inr ⟨fun q=>h2 ((hN _).1 (e▸q)),e▸h3⟩
theorem RankI.none0 {T:Int→Option TrD} {m:Nat} (h:RankI T m) {i:Int} {t:TrD} (ht:T i=some t):i≠0:= fun e=> by subst e; rw[h.1]at ht; cases ht
def An (x:LfA):Prop:= ∀j,j<64→x.wr.getLsbD j=false→x.base[j]? =x.own[j]?
def AgL (A:LvA):Prop:= ∀i t k x,A.tr i=some t→t.lv k=some x→An x
theorem AgL.put {A:LvA} (h:AgL A) {i:Int} {k:KD} {x:LfA} (hx:An x):AgL (Ww A i k x):= by
  unfold Ww
  cases ht:A.tr i with
  | none=> exact h
  | some t=>
    intro j u q y hj hq
    dsimp only at hj
    by_cases e:j=i
    · subst e
      rw[Qu]at hj
      cases hj
      dsimp only at hq
      by_cases e2:q=k
      · subst e2; rw[Qu]at hq; cases hq; exact hx
      · rw[Qz e2]at hq; exact h j t q y ht hq
    · rw[Qz e]at hj; exact h j u q y hj hq
theorem AgL.pres {A:LvA} (h:AgL A) {p:KD→Bs}:AgL {A with pres:=p}:=h
theorem AgL.tou {A:LvA} (h:AgL A) {i:Int} {k:KD}:An (ZN A i k):= by
  unfold ZN
  cases ht:A.tr i with
  | none=> exact fun _ _ _=>rfl
  | some t=>
    dsimp only
    cases hx:t.lv k with
    | none=> exact fun _ _ _=>rfl
    | some x=> exact h i t k x ht hx
def NN (ex:Int→Int):Prop:= ∀j,j≠0→0≤ex j
structure LvX (ex:Int→Int) (m:Nat) (L:LvD) (V:VS):Prop where
  ref:RefI (Xy L) V ex
  rank:RankI L.tr m
  agree:AgL (QG L V)
abbrev LvI (m:Nat) (L:LvD) (V:VS):Prop:=LvX (fun _=>0) m L V
section
variable {ex:Int→Int} {L L1 L':LvD} {V V1 V':VS} {id:Int} {t t1:TrD} {k:KD} {x1:LfD} {m:Nat}
theorem LvX.zero (h:LvX ex m L V):V 0=none:=h.ref.zero
theorem LvX.sees (h:LvX ex m L V) (id:Int) (k:KD):Zf V (X4 L id k)=WX (QG L V) id k:=Tm h.zero _ _ _
theorem LvX.aliveX (h:LvX ex m L V) (hx:NN ex) (p:Pl):XZ V (Xy L p):=h.ref.aliveN U (hx _)
theorem LvX.aliveSX (h:LvX ex m L V) (hx:NN ex) (id:Int) (k:KD):XZ V (X4 L id k):= by
  rcases Dp L (Wd+1) id k with e | ⟨p,e⟩
  · exact .inl e
  · show XZ V (Jz L (Wd+1) id k); rw[←e]; exact h.aliveX hx p
theorem LvX.len (h:LvX ex m L V) {s:Int} (hs:XZ V s):(Zf V s).length=64:= by
  cases q:V s with
  | none=>
    rcases hs with rfl | hs
    · rw[JO h.zero]; simp [zer]
    · exact absurd q hs
  | some x=> rw[J0 q]; exact(h.ref.2 s x q).2.2
theorem LvX.alive (h:LvI m L V) (p:Pl):XZ V (Xy L p):=h.aliveX (fun _ _=>Int.le_refl _) p
theorem LvX.aliveS (h:LvI m L V) (id:Int) (k:KD):XZ V (X4 L id k):=h.aliveSX (fun _ _=>Int.le_refl _) id k
theorem TouR.invX (hT:TouR L V id t k L1 V1 t1 x1) (ht:L.tr id=some t) (h:LvX ex m L V) (hx:NN ex):
    LvX ex m L1 V1∧Ws V1 x1=ZN (QG L V) id k∧QG L1 V1=Ww (QG L V) id k (ZN (QG L V) id k)∧(∀c,AliveLe V c→AliveLe V1 c)∧L1.pres=L.pres:= by
  have hal:=h.aliveSX hx id k
  have hse:=h.sees id k
  rcases hT with⟨hx',rfl,rfl,rfl⟩ | ⟨hx',a,rfl,rfl,rfl,rfl⟩
  · refine⟨h, ?_, ?_, fun _ q=>q,rfl⟩
    · rw[Di (Z6 ht) (Z8 hx')]
    · rw[Di (Z6 ht) (Z8 hx'),Dv (Z6 ht) (Z8 hx')]
  · generalize hs:X4 L id k=s at *
    have hpg: ∀j,Zf (refW (refW V s) s) j=Zf V j:= fun j=> by rw[YA,YA]
    have e1:Ws (refW (refW V s) s) (Y8 t k s a)=ZN (QG L V) id k:= by
      rw[Dj (Z6 ht) (UF hx')]
      unfold Ws Y8
      simp only[hpg,hse]
      rfl
    have e2:QG {L with tr:=QO L.tr id (some {t with lv:=QO t.lv k (some (Y8 t k s a))}),sh:=Y1 (Y1 L.sh s) s} (refW (refW V s) s)=Ww (QG L V) id k (ZN (QG L V) id k):= by
      rw[Hl (L:=L) (V:=V) (k:=k) (x:=Y8 t k s a) (L':={L with tr:=QO L.tr id (some {t with lv:=QO t.lv k (some (Y8 t k s a))}),sh:=Y1 (Y1 L.sh s) s}) U U ht U fun p _ _=>hpg _,e1]
    refine⟨⟨?_,h.rank.same (JA ht U), ?_⟩,e1,e2, fun c q=>q.refW.refW,rfl⟩
    · have h1:=(h.ref.ref hal).ref (s:=s) (by
        rcases hal with q | q
        · exact .inl q
        · exact .inr (Hb.2 q))
      have h2:=(h1.put (.inr (id,k,false)) s).put (.inr (id,k,true)) s
      have h3:=h2.fn (g:=Xy {L with tr:=QO L.tr id (some {t with lv:=QO t.lv k (some (Y8 t k s a))}),sh:=Y1 (Y1 L.sh s) s}) (H6 (L':={L with tr:=QO L.tr id (some {t with lv:=QO t.lv k (some (Y8 t k s a))}),sh:=Y1 (Y1 L.sh s) s}) (t':={t with lv:=QO t.lv k (some (Y8 t k s a))}) (x:=Y8 t k s a) U U ht U)
      refine h3.ext fun j hj=> ?_
      rw[XT (by simp),VH ht hx',VH ht hx',Jb (s:=0) hj];omega
    · rw[e2]; exact h.agree.put h.agree.tou
theorem TouR.inv (hT:TouR L V id t k L1 V1 t1 x1) (ht:L.tr id=some t) (h:LvI m L V):
    LvI m L1 V1∧Ws V1 x1=ZN (QG L V) id k∧QG L1 V1=Ww (QG L V) id k (ZN (QG L V) id k)∧(∀c,AliveLe V c→AliveLe V1 c)∧L1.pres=L.pres:=hT.invX ht h fun _ _=>Int.le_refl _
end
section
variable {L L1 L':LvD} {V V1 V':VS} {id:Int} {t t1:TrD} {k:KD} {x x1:LfD} {m Fr:Nat} {s e:Int}
def OwnI (L:LvD) (V:VS) (p:Pl) (m Fr:Nat) (L':LvD) (V':VS) (s e:Int):Prop:=
  LvI m L' V'∧QG L' V'=QG L V∧(∀c,AliveLe V c→AliveLe V' (c+1))∧(∀c,AliveLe V c→AliveLe V' c∨AliveLe V' (c+1))∧
  ((e=6∧s=0∧YK V Fr)∨(e=0∧s≠0∧Z9 V' s=1∧Xy L' p=s))
theorem DD {f f':Pl→Int} {p:Pl} (h:RefI f V (fun _=>0)) (h1:1≤s) (hn:V s=none) (ho:XZ V (f p)) (hf: ∀q,f' q=KQ f p s q):
    RefI f' (Z7 (QO V s (some (1,Zf V (f p)))) (f p)) (fun _=>0)∧(∀q,Zf (Z7 (QO V s (some (1,Zf V (f p)))) (f p)) (f' q)=Zf V (f q))∧Z7 (QO V s (some (1,Zf V (f p)))) (f p) s=some (1,Zf V (f p)):= by
  have hl:(Zf V (f p)).length=64:= by
    cases q:V (f p)with
    | none=>
      rcases ho with e | e
      · rw[e,JO h.zero]; simp [zer]
      · exact absurd q e
    | some x=> rw[J0 q]; exact(h.2 _ x q).2.2
  generalize ho':f p=o at *
  have hso:o≠s:= fun e=> by
    subst e
    rcases ho with e | e
    · omega
    · exact absurd hn e
  have hoa:XZ (QO V s (some (1,Zf V o))) o:= by
    rcases ho with e | e
    · exact .inl e
    · refine .inr ?_; rw[Qz hso]; exact e
  have a1:=(((h.fresh hn h1 hl).put p s).fn hf).unr hoa
  rw[ho']at a1
  have a2:RefI f' (Z7 (QO V s (some (1,Zf V o))) o) (fun _=>0):=a1.ext fun j hj=> by omega
  have a3:Z7 (QO V s (some (1,Zf V o))) o s=some (1,Zf V o):= by
    cases q:V o with
    | none=> rw[UJ (by rw[Qz hso]; exact q),Qu]
    | some x=>
      rw[YO (x:=x) (by rw[Qz hso]; exact q)]
      split<;> rw[Qz (fun e=>hso e.symm),Qu]
  refine⟨a2, fun q=> ?_,a3⟩
  by_cases e:q=p
  · subst e
    rw[hf,XK,J0 a3,ho']
  · have e1:f' q=f q:= by rw[hf,XT e]
    have e2:f q≠s:=h.none_held hn (by omega) (by omega)
    have h0:QO V s (some (1,Zf V o)) 0=none:= by rw[Qz (by omega)]; exact h.zero
    rw[Bc h0 (a2.alive U (by omega)),e1,UP e2]
theorem OwnP.inv (h:OwnP L V k Fr L' V' s e) (hI:LvI m L V):OwnI L V (.inl k) m Fr L' V' s e∧L'.tr=L.tr:= by
  rcases h with⟨rfl,h2,h3,h4,rfl,rfl⟩ | ⟨rfl,rfl,h3,rfl,rfl⟩ | ⟨rfl,h2,h3,h4,rfl,rfl⟩
  · exact⟨⟨hI,rfl, fun c q=>q.mono (by omega), fun c q=> .inl q,.inr ⟨rfl,h3,h4,h2.symm⟩⟩,rfl⟩
  · exact⟨⟨hI,rfl, fun c q=>q.mono (by omega), fun c q=> .inl q,.inl ⟨rfl,rfl,h3⟩⟩,rfl⟩
  · generalize hL':({L with pres:=Wm L.pres k s,sh:=YX (QO V s (some (1,Zf V (L.pres k)))) L.sh (L.pres k)}:LvD)=L'
    have hp:L'.pres=Wm L.pres k s:= by subst hL';rfl
    have hT:L'.tr=L.tr:= by subst hL';rfl
    have hf:=DA hp hT
    obtain⟨a,b,c⟩:=DD (p:= .inl k) hI.ref h2 h3 (hI.alive _) hf
    have hh:Xy L (.inl k)=L.pres k:=rfl
    rw[hh]at a b c
    have e1:QG L' (Z7 (QO V s (some (1,Zf V (L.pres k)))) (L.pres k))=QG L V:= by
      rw[DV (V:=V) hp hT fun p hp=> ?_]
      · have h5:=b (.inl k)
        rw[hf,XK,hh]at h5
        have e2:KQ (QG L V).pres k (Zf (Z7 (QO V s (some (1,Zf V (L.pres k)))) (L.pres k)) s)=(QG L V).pres:= by
          funext j
          by_cases e:j=k
          · subst e; rw[XK]; exact h5
          · rw[XT e]
        rw[e2]
      · have h5:=b p
        rw[hf,XT hp]at h5
        exact h5
    refine⟨⟨⟨a, by rw[hT]; exact hI.rank, by rw[e1]; exact hI.agree⟩,e1, fun c q=>q.put.unr, fun c q=> .inr q.put.unr,.inr ⟨rfl, by omega,WD c, ?_⟩⟩,hT⟩
    rw[hf,XK]
theorem OwnT.inv (h:OwnT L V id t k x Fr L' V' s e) (ht:L.tr id=some t) (hx:t.lv k=some x) (hI:LvI m L V):OwnI L V (.inr (id,k,true)) m Fr L' V' s e∧L'.pres=L.pres:= by
  have hh:Xy L (.inr (id,k,true))=x.own:= by rw[XF ht hx];rfl
  rcases h with⟨rfl,h2,h3,h4,rfl,rfl⟩ | ⟨rfl,rfl,h3,rfl,rfl⟩ | ⟨rfl,h2,h3,h4,rfl,rfl⟩
  · exact⟨⟨hI,rfl, fun c q=>q.mono (by omega), fun c q=> .inl q,.inr ⟨rfl,h3,h4, by rw[hh,h2]⟩⟩,rfl⟩
  · exact⟨⟨hI,rfl, fun c q=>q.mono (by omega), fun c q=> .inl q,.inl ⟨rfl,rfl,h3⟩⟩,rfl⟩
  · generalize hL':We {L with sh:=YX (QO V s (some (1,Zf V x.own))) L.sh x.own} id t k {x with own:=s}=L'
    have hp:L'.pres=L.pres:= by subst hL';rfl
    have hT:L'.tr=QO L.tr id (some {t with lv:=QO t.lv k (some {x with own:=s})}):= by subst hL';rfl
    have hf: ∀q,Xy L' q=KQ (Xy L) (.inr (id,k,true)) s q:= fun q=> by
      rw[H6 (x:={x with own:=s}) hp hT ht U]
      by_cases e:q= .inr (id,k,true)
      · subst e; rw[XK,XK]
      · rw[XT e,XT e]
        by_cases e2:q= .inr (id,k,false)
        · subst e2; rw[XK,XF ht hx];rfl
        · rw[XT e2]
    obtain⟨a,b,c⟩:=DD (p:= .inr (id,k,true)) hI.ref h2 h3 (hI.alive _) hf
    rw[hh]at a b c
    have e1:QG L' (Z7 (QO V s (some (1,Zf V x.own))) x.own)=QG L V:= by
      rw[Hl (x:={x with own:=s}) hp hT ht U fun p hp1 hp2=> ?_]
      · have e2:Ws (Z7 (QO V s (some (1,Zf V x.own))) x.own) {x with own:=s}=Ws V x:= by
          have h5:=b (.inr (id,k,true))
          have h6:=b (.inr (id,k,false))
          rw[hf,XK,hh]at h5
          rw[hf,XT (by simp),XF ht hx]at h6
          simp at h6
          simp [Ws,h5,h6]
        rw[e2,Dv (Z6 ht) (Z8 hx)]
      · have h5:=b p
        rw[hf,XT hp2]at h5
        exact h5
    refine⟨⟨⟨a, ?_, by rw[e1]; exact hI.agree⟩,e1, fun c q=>q.put.unr, fun c q=> .inr q.put.unr,.inr ⟨rfl, by omega,WD c, ?_⟩⟩,hp⟩
    · rw[hT]; exact hI.rank.same (JA ht U)
    · rw[hf,XK]
theorem Lg {f:Pl→Int} {p:Pl} {r a:Int} {pg:Bs} {b:UInt8} (h:RefI f V (fun _=>0)) (hs:V s=some (r,pg)) (hr:Z9 V s=1) (hp:f p=s):
    RefI f (QO V s (some (r,pg.set a.toNat b))) (fun _=>0)∧(∀q,q≠p→Zf (QO V s (some (r,pg.set a.toNat b))) (f q)=Zf V (f q))∧Zf (QO V s (some (r,pg.set a.toNat b))) (f p)=(Zf V (f p)).set a.toNat b:= by
  have h3:=h.2 s _ hs
  refine⟨h.setc hs (by rw[List.length_set]; exact h3.2.2), fun q hq=> ?_, ?_⟩
  · refine UP fun e=>hq (h.excl hr U (by omega) hp q e)
  · rw[hp,J0 Qu,J0 hs]
end
theorem Us {κ α:Type} {f:κ→α} {k:κ} {v:α} (h:f k=v):KQ f k v=f:= by
  funext j
  by_cases e:j=k
  · subst e; rw[XK,h]
  · rw[XT e]
def SzLe (L:LvD) (c:Nat):Prop:= ∃l:List (Int×KD),l.length≤c∧(∀k,L.pres k≠0→(0,k)∈l)∧ ∀i t k x,L.tr i=some t→t.lv k=some x→(i,k)∈l
theorem SzLe.mono {L:LvD} {c d:Nat} (h:SzLe L c) (hd:c≤d):SzLe L d:= by
  obtain⟨l,a,b⟩:=h
  exact⟨l, by omega,b⟩
theorem SzLe.add {L L':LvD} {c:Nat} (h:SzLe L c) (i:Int) (k:KD) (hp: ∀q,L'.pres q≠0→L.pres q≠0∨(0,q)=(i,k)) (ht: ∀j u q x,L'.tr j=some u→u.lv q=some x→(∃u' x',L.tr j=some u'∧u'.lv q=some x')∨(j,q)=(i,k)):SzLe L' (c+1):= by
  obtain⟨l,a,b,d⟩:=h
  refine⟨(i,k)::l, by simp;omega, fun q hq=> ?_, fun j u q x hj hq=> ?_⟩
  · rcases hp q hq with e | e
    · exact List.mem_cons_of_mem _ (b q e)
    · rw[e]; exact List.mem_cons_self
  · rcases ht j u q x hj hq with⟨u',x',e1,e2⟩ | e
    · exact List.mem_cons_of_mem _ (d j u' q x' e1 e2)
    · rw[e]; exact List.mem_cons_self
theorem SzLe.put {L L':LvD} {c:Nat} {i:Int} {k:KD} {t:TrD} {x:LfD} (h:SzLe L c) (ht:L.tr i=some t) (hp:L'.pres=L.pres) (hT:L'.tr=QO L.tr i (some {t with lv:=QO t.lv k (some x)})):SzLe L' (c+1):= by
  refine h.add i k (fun q hq=> .inl (by rwa [hp]at hq)) fun j u q y hj hq=> ?_
  rw[hT]at hj
  by_cases e:j=i
  · subst e
    rw[Qu]at hj
    cases hj
    dsimp only at hq
    by_cases e2:q=k
    · right; rw[e2]
    · rw[Qz e2]at hq; exact .inl ⟨t,y,ht,hq⟩
  · rw[Qz e]at hj; exact .inl ⟨u,y,hj,hq⟩
theorem SzLe.putOld {L L':LvD} {c:Nat} {i:Int} {k:KD} {t:TrD} {x y:LfD} (h:SzLe L c) (ht:L.tr i=some t) (hx:t.lv k=some y) (hp:L'.pres=L.pres) (hT:L'.tr=QO L.tr i (some {t with lv:=QO t.lv k (some x)})):SzLe L' c:= by
  obtain⟨l,a,b,d⟩:=h
  refine⟨l,a, fun q hq=>b q (by rwa [hp]at hq), fun j u q z hj hq=> ?_⟩
  rw[hT]at hj
  by_cases e:j=i
  · subst e
    rw[Qu]at hj
    cases hj
    dsimp only at hq
    by_cases e2:q=k
    · subst e2; exact d j t q y ht hx
    · rw[Qz e2]at hq; exact d j t q z ht hq
  · rw[Qz e]at hj; exact d j u q z hj hq
theorem TouR.sz {L L1:LvD} {V V1:VS} {id:Int} {t t1:TrD} {k:KD} {x1:LfD} {c:Nat} (hT:TouR L V id t k L1 V1 t1 x1) (ht:L.tr id=some t) (h:SzLe L c):SzLe L1 (c+1):= by
  rcases hT with⟨_,rfl,_,_⟩ | ⟨_,a,_,rfl,rfl,_⟩
  · exact h.mono (by omega)
  · exact h.put (x:=x1) ht U U
structure StepI (m:Nat) (L:LvD) (V:VS) (m' d e:Nat) (L':LvD) (V':VS):Prop where
  inv:LvI m' L' V'
  sp:L'.sp=L.sp
  al: ∀c,AliveLe V c→AliveLe V' (c+d)
  sz: ∀c,SzLe L c→SzLe L' (c+e)
theorem StepI.refl {m:Nat} {L:LvD} {V:VS} {d e:Nat} (h:LvI m L V):StepI m L V m d e L V:=⟨h,rfl, fun _ q=>q.mono (by omega), fun _ q=>q.mono (by omega)⟩
theorem StepI.trans {m m1 m2:Nat} {L L1 L2:LvD} {V V1 V2:VS} {d d1 e e1:Nat} (h:StepI m L V m1 d e L1 V1) (h':StepI m1 L1 V1 m2 d1 e1 L2 V2):StepI m L V m2 (d+d1) (e+e1) L2 V2:=
  ⟨h'.inv,h'.sp.trans h.sp, fun c q=>(h'.al _ (h.al c q)).mono (by omega), fun c q=>(h'.sz _ (h.sz c q)).mono (by omega)⟩
theorem StepI.up {m m1:Nat} {L L1:LvD} {V V1:VS} {d d1 e e1:Nat} (h:StepI m L V m1 d e L1 V1) (h1:d≤d1) (h2:e≤e1):StepI m L V m1 d1 e1 L1 V1:=
  ⟨h.inv,h.sp, fun c q=>(h.al c q).mono (by omega), fun c q=>(h.sz c q).mono (by omega)⟩
def CE (V:VS) (Fr:Nat):Prop:= ∀c,AliveLe V c→Fr≤c+1
section
variable {L L1 L':LvD} {V V1 V':VS} {id:Int} {t t1 t':TrD} {k:KD} {x x1 x':LfD} {m Fr:Nat} {s e a r:Int} {pg:Bs} {b:UInt8}
theorem OwnP.sz {c:Nat} (h:OwnP L V k Fr L' V' s e) (hc:SzLe L c):SzLe L' (c+1):= by
  rcases h with⟨_,_,_,_,rfl,_⟩ | ⟨_,_,_,rfl,_⟩ | ⟨_,h2,_,_,_,rfl⟩
  · exact hc.mono (by omega)
  · exact hc.mono (by omega)
  · refine hc.add 0 k (fun q hq=> ?_) fun j u q y hj hq=> .inl ⟨u,y,hj,hq⟩
    by_cases e:q=k
    · right; rw[e]
    · simp only[Wm,if_neg e]at hq; exact .inl hq
theorem OwnT.sz {c:Nat} (h:OwnT L V id t k x Fr L' V' s e) (ht:L.tr id=some t) (hx:t.lv k=some x) (hc:SzLe L c):SzLe L' c:= by
  rcases h with⟨_,_,_,_,rfl,_⟩ | ⟨_,_,_,rfl,_⟩ | ⟨_,h2,_,_,_,rfl⟩
  · exact hc
  · exact hc
  · exact hc.putOld (x:={x with own:=s}) ht hx U U
theorem Aj (he:QG L' V'=QG L V) (ht:L.tr id=some t) (hx:t.lv k=some x) (ht':L'.tr id=some t') (hx':t'.lv k=some x'):Ws V' x'=Ws V x:= by
  have h1:=Z6 (V:=V') ht'
  rw[he,Z6 ht]at h1
  have h2:Zy V t=Zy V' t':= by simpa using h1
  have h3:=Z8 (V:=V') hx'
  rw[←h2,Z8 hx]at h3
  simpa using h3.symm
theorem Lf (hI:LvI m L V) (h0:Z9 V s=1) (hs:V s=some (r,pg)) (hp:Xy L (.inr (id,k,true))=s) (ht:L.tr id=some t) (hx:t.lv k=some x) (ha:0≤a∧a<64):
    LvI m (We L id t k {x with wr:=x.wr ||| (1#64<<<a.toNat)}) (QO V s (some (r,pg.set a.toNat b)))∧
    QG (We L id t k {x with wr:=x.wr ||| (1#64<<<a.toNat)}) (QO V s (some (r,pg.set a.toNat b)))=Ww (QG L V) id k {Ws V x with own:=(Ws V x).own.set a.toNat b,wr:=x.wr ||| (1#64<<<a.toNat)}:= by
  obtain⟨a1,a2,a3⟩:=Lg (a:=a) (b:=b) hI.ref hs h0 hp
  generalize hL':We L id t k {x with wr:=x.wr ||| (1#64<<<a.toNat)}=L'
  have hP:L'.pres=L.pres:= by subst hL';rfl
  have hT:L'.tr=QO L.tr id (some {t with lv:=QO t.lv k (some {x with wr:=x.wr ||| (1#64<<<a.toNat)})}):= by subst hL';rfl
  have hf: ∀q,Xy L' q=Xy L q:= fun q=> by
    rw[H6 (x:={x with wr:=x.wr ||| (1#64<<<a.toNat)}) hP hT ht U]
    dsimp only
    rw[Us (f:=Xy L) (v:=x.base) (by rw[XF ht hx];rfl),Us (by rw[XF ht hx];rfl)]
  have e1:QG L' (QO V s (some (r,pg.set a.toNat b)))=Ww (QG L V) id k {Ws V x with own:=(Ws V x).own.set a.toNat b,wr:=x.wr ||| (1#64<<<a.toNat)}:= by
    rw[Hl (x:={x with wr:=x.wr ||| (1#64<<<a.toNat)}) hP hT ht U fun p _ h2=>a2 p h2]
    congr 1
    have h3:=a2 (.inr (id,k,false)) (by simp)
    rw[XF ht hx]at h3 a3
    simp at h3 a3
    simp only[Ws,h3,a3]
  refine⟨⟨a1.fn hf, by rw[hT]; exact hI.rank.same (JA ht U), ?_⟩,e1⟩
  rw[e1]
  refine hI.agree.put fun j hj hw=> ?_
  have h4:=hI.agree id _ k _ (Z6 ht) (Z8 hx) j hj
  dsimp only at hw⊢
  rw[BitVec.getLsbD_or,Bool.or_eq_false_iff]at hw
  rw[h4 hw.1]
  have h5:a.toNat≠j:= fun q=> by
    have :=hw.2
    rw[q,BitVec.getLsbD_shiftLeft]at this
    simp [hj]at this
  rw[List.getElem?_set_ne h5]
end
def GM (A:LvA) (id:Int):Bool:=decide (id=0) || (A.tr id).isSome
theorem Sj {L:LvD} {V:VS} {id:Int}:GM (QG L V) id=JL L id:= by simp [GM,JL,QG]
theorem Rl {A:LvA} {id:Int} {k:KD} {x y:LfA}:Ww (Ww A id k x) id k y=Ww A id k y:= by
  cases h:A.tr id with
  | none=>unfold Ww; simp [h]
  | some t=>
    rw[ZX h,ZX (t:={t with lv:=QO t.lv k (some x)}) Qu,ZX h]
    simp only[Yl]
section
variable {L L1 L2 L':LvD} {V V1 V2 V':VS} {id:Int} {t t1 t2:TrD} {k:KD} {x1 x2:LfD} {m Fr:Nat} {s e a r:Int} {pg:Bs} {b:UInt8} {p:Pl}
theorem OwnI.tight_own (h:OwnI L V p m Fr L' V' s e) (he:e≠0):CE V Fr:= by
  rcases h.2.2.2.2 with⟨_,_,hg⟩ | ⟨h0,_⟩
  · exact fun c q=> by have :=Hy q hg;omega
  · exact absurd h0 he
theorem OwnI.tight_set (h:OwnI L V p m Fr L' V' s e) (he:e=0) (ha:0≤a∧a<64) (hb:V' s=none∨1<Z9 V' s∨a<0∨64≤a∨YK V' Fr):CE V Fr:= by
  rcases h.2.2.2.2 with⟨h1,_,hg⟩ | ⟨h0,h1,h2,h3⟩
  · omega
  · rcases hb with hb | hb | hb | hb | hb
    · rw[HX hb]at h2;omega
    · omega
    · omega
    · omega
    · exact fun c q=> by have :=Hy (h.2.2.1 c q) hb;omega
theorem OwnP.step (hO:OwnP L V k Fr L' V' s e) (hI:LvI m L V):StepI m L V m 1 1 L' V':= by
  refine⟨(hO.inv hI).1.1, ?_,(hO.inv hI).1.2.2.1, fun c q=>hO.sz q⟩
  rcases hO with⟨_,_,_,_,rfl,_⟩ | ⟨_,_,_,rfl,_⟩ | ⟨_,_,_,_,_,rfl⟩<;>rfl
theorem Tk (hT:TouR L V id t k L1 V1 t1 x1) (ht:L.tr id=some t) (hI:LvI m L V) (hO:OwnT L1 V1 id t1 k x1 Fr L2 V2 s e):
    StepI m L V m 1 1 L2 V2∧OwnI L1 V1 (.inr (id,k,true)) m Fr L2 V2 s e∧QG L2 V2=Ww (QG L V) id k (ZN (QG L V) id k)∧(CE V1 Fr→CE V Fr):= by
  obtain⟨h1,h2,h3,h4,h5⟩:=hT.inv ht hI
  have h6:=(hO.inv (hT.tr ht) hT.lv h1).1
  exact⟨⟨h6.1,hO.sp.trans hT.sp, fun c q=>h6.2.2.1 c (h4 c q), fun c q=>hO.sz (hT.tr ht) hT.lv (hT.sz ht q)⟩,h6,h6.2.1.trans h3, fun q c hc=>q c (h4 c hc)⟩
def wrX (x:LfA) (a:Int) (b:UInt8):LfA:={x with own:=x.own.set a.toNat b,wr:=x.wr ||| (1#64<<<a.toNat)}
theorem Lh (hT:TouR L V id t k L1 V1 t1 x1) (ht:L.tr id=some t) (hI:LvI m L V) (hO:OwnT L1 V1 id t1 k x1 Fr L2 V2 s 0) (ht2:L2.tr id=some t2) (hx2:t2.lv k=some x2) (hs:V2 s=some (r,pg)) (ha:0≤a∧a<64):
    StepI m L V m 1 1 (We L2 id t2 k {x2 with wr:=x2.wr ||| (1#64<<<a.toNat)}) (QO V2 s (some (r,pg.set a.toNat b)))∧
    QG (We L2 id t2 k {x2 with wr:=x2.wr ||| (1#64<<<a.toNat)}) (QO V2 s (some (r,pg.set a.toNat b)))=Ww (QG L V) id k (wrX (ZN (QG L V) id k) a b):= by
  obtain⟨h1,h2,h3,h4⟩:=Tk hT ht hI hO
  obtain⟨g1,g2,g3,g4,g5⟩:=hT.inv ht hI
  obtain⟨c1,c2,c3⟩:s≠0∧Z9 V2 s=1∧Xy L2 (.inr (id,k,true))=s:= by
    rcases h2.2.2.2.2 with⟨q,_⟩ | ⟨_,q⟩
    · omega
    · exact q
  obtain⟨d1,d2⟩:=Lf (b:=b) h2.1 c2 hs c3 ht2 hx2 ha
  have d3:Ws V2 x2=ZN (QG L V) id k:=(Aj h2.2.1 (hT.tr ht) hT.lv ht2 hx2).trans g2
  have d4:x2.wr=(ZN (QG L V) id k).wr:= by rw[←d3];rfl
  refine⟨⟨d1,h1.sp, fun c q=>(h1.al c q).sub fun j hj=> ?_, fun c q=>(h1.sz c q).putOld ht2 hx2 U U⟩, ?_⟩
  · by_cases e:j=s
    · subst e; rw[hs]; simp
    · rwa [Qz e]at hj
  · rw[d2,h3,Rl,d3,d4];rfl
end
theorem Lb {w:World} {m:Nat} {b n Fr:Nat} {L:LvD} {V:VS} {F:Th} (hS:Sat w [WU b L,ZT L.sp n Fr V,F]) (hn:n≤60000000000) (ob:Bs) (a:Int) (bt:UInt8) (hI:LvI m L V) (hm:m<Wd) {id:Int} {t:TrD} (ht:L.tr id=some t) (hr:0≤a∧a<16384):
    Calls prog 39 #[ptrV b 0,intV id,strV ob,intV a,Y3 bt] w (Ret fun v w'=> ∃L' V' e,v=intV e∧StepI m L V m 1 1 L' V'∧((e=0∧QG L' V'=Ww (QG L V) id (ob,a/ 64) (wrX (ZN (QG L V) id (ob,a/ 64)) (a%64) bt))∨(e≠0∧QG L' V'=Ww (QG L V) id (ob,a/ 64) (ZN (QG L V) id (ob,a/ 64))∧CE V Fr))∧Sat w' [WU b L',ZT L'.sp (n+5) Fr V',F]):= by
 have h0:id≠0:=hI.rank.none0 ht
 refine Qn func39 U ntmps39 U ?_
 refine Qe (Qa (Qd U U (Qf (Qc (Qe (Qa (Qb U U (Qb U U (Q0 EG U (Tu (hS.sp [] U) ob a) U ?_)))))))))
 rintro _ w1 ⟨rfl,j1⟩
 replace j1:=j1.jn U U
 rw[Dz hr]
 refine Qb U U (Qp U U U (Qp U U U (Qp U U U (Xa j1 WK U U ?_))))
 intro kb w2 j2
 refine Q9 j2 U U Xf U (by first | rfl | (simp [QV,Value.oneCell'];done)) (i:=0) U (by first | decide | exact Q7 U) ?_
 intro w3 j3; dsimp only[List.set]at j3
 replace j3:=Z4 (k:=(ob,a/ 64)) j3
 refine Qd U U (Qd U U (Qf (Qc (Qh [4,3,1,0,10,11,12,13] U (Qe (Qw (Qe (Qa (Qb U U (Qb U U (Q0 NC U (GL (j3.sp [1] U) id) U ?_)))))))))))
 rintro _ w4 ⟨rfl,j4⟩
 replace j4:=j4.jn U U
 refine QU U U (Qd U U (Qf (Qc (Qh [4,3,1,0,10,11,12,13,24] U (QS U (fun h5=> ?_) (fun h5=> ?_))))))
 ·exact absurd h5 (by simp [JL,ht])
 refine Qe (Qa (Qb U U (QU U U (Qd U U (Qf (Qc (Qh [4,3,1,0,10,11,12,29] U (QS U (fun h6=> ?_) (fun h6=> ?_)))))))))
 ·exact absurd h6 (by decide)
 refine Qs (Ql (Qc (Qe (Qa (Qb U U (Qb U U ?_))))))
 refine Wi U X2 Xf (by first | exact j4.blk 1 U) (by first | decide | exact Q7 U | (simp;done) | omega) U U ?_
 refine Q0 cal_77 U (ownT_sp (j4.sp [0,2] U) (by omega) (hI.rank.ends hm) ht (k:=(ob,a/ 64)) h0 (hI.aliveS id (ob,a/ 64))) U ?_
 rintro _ w7 ⟨L1,V1,t1,x1,L2,V2,s,e,rfl,hT,hO,j7⟩
 replace j7:=j7.jn U U
 have hW:=Tk hT ht hI hO
 refine Qb U U (Qp U U U (Qp U U U (Qd U U (Qd U U (Qf (Qc (Qh [4,3,1,0,10,11,12,14,15] U (Qe (Qe (Qa (Qb U U (Xp U U U (Qf (Qc (Qt U (fun h8=> ?_) (fun h8=> ?_))))))))))))))))
 ·have he:e≠0:=h8
  exact Qe (Qa (Qb U U (Qd U U (Qf (Qc (Qh [4,3,1,0,11,12,14,10] U (Qv (Qr (QR (.inr U) U U (⟨_,rfl,L2,V2,e,rfl,hW.1,.inr ⟨he,hW.2.2.1,hW.2.2.2 (hW.2.1.tight_own he)⟩,(XM (m:=n+5) (by omega) (j7.pick [1,0,3] U)).reorder [1,0,2] U⟩))))))))))
 have he:e=0:=Decidable.not_not.1 h8
 refine Qs (Qc (Qh [4,3,1,0,10,11,12,14] U (Qe (Qe (Qa (Qb U U (Qi U U (Qg U Zx U (Qo U X5 (Nm j7 0 U) U (Qb U U (Qb U U (DY U U (by omega) (by omega) U ?_))))))))))))
 refine Qb U U (Xr cal_78 U (stSet (j7.sp [1] U) (by omega) s (a%64) bt) U ?_)
 rintro e w9 ⟨_,rfl,(⟨e2,rfl,he2,hbad,j9⟩ | ⟨r,pg,hs,rfl,ha,j9⟩)⟩
 ·refine⟨_,U, ?_⟩
  replace j9:=j9.jn U U
  refine Qd U U (Qf (Qc (Qh [1,0,10,11,12,16] U (Qe (Qa (Qb U U (Xp U U U (Qf (Qc (Qt U (fun h10=> ?_) (fun h10=> ?_)))))))))))
  ·exact Qe (Qa (Qb U U (Qd U U (Qf (Qc (Qv (Qr (QR (.inr U) U U (⟨_,rfl,L2,V2,e2,rfl,hW.1,.inr ⟨he2,hW.2.2.1,hW.2.2.2 (hW.2.1.tight_set he (by omega) hbad)⟩,(XM (m:=n+5) (by omega) (j9.pick [0,1,3] U)).reorder [1,0,2] U⟩)))))))))
  exact absurd (Decidable.not_not.1 h10) he2
 refine⟨_,U, ?_⟩
 replace j9:=j9.jn U U
 refine Qd U U (Qf (Qc (Qh [1,0,10,11,12,16] U (Qe (Qa (Qb U U (Xp U U U (Qf (Qc (Qt U (fun h11=> ?_) (fun h11=> ?_)))))))))))
 ·exact absurd U h11
 refine Qs (Qc (Qe (Qe (Qa (Qb U U (Xp U U U (Qf (Qc (Qt U (fun h12=> ?_) (fun h12=> ?_))))))))))
 ·obtain⟨t2,x2,ht2,hx2,_⟩:=hO.leaf (hT.tr ht) hT.lv
  have j13:=Ht ht2 hx2 (j9.pick [1,0,2,3] U)
  have j14:=j13.drew
  refine QH [0,1,2,3,4,5,6,7,8,9,10,11,12,13,14,15,16,17,18] [18] ZW (by kernel_rfl) ?_
  refine QJ U U U (Xd U U U (QP U U U ZJ (Q3 U U U (Qm U WN (by first | assumption | exact j14.cell 0 U U | exact j14.cell 2 U U | exact j14.cell 6 U U | exact j14.cell 11 U U)) ?_)))
  refine QJ U U U (Q3 U U U (Xt (k:=id) 8 j14 keysInt underlying106 U U U Yf (u:=ptrV t2.ad 0) (XJ ht2)) (Xd U U U (QP U U U ZI (Q3 U U U (Qm U WF (by first | assumption | exact j14.cell 0 U U | exact j14.cell 2 U U | exact j14.cell 6 U U | exact j14.cell 11 U U)) ?_))))
  refine Q3 U U U (X3 U X2 Xf (by first | exact j14.blk 0 U | exact j14.blk 2 U | exact j14.blk 6 U | exact j14.blk 11 U) (by first | decide | exact Q7 U | (simp;done) | omega) U) ?_
  refine Q3 U U U (Xt (k:=(ob,a/ 64)) 3 j14 keysKey underlying110 U U U Yz (u:=ptrV x2.ad 0) (XJ hx2)) (Xd U U U (QP U U U Wo (Q3 U U U (Qm U JB (by first | assumption | exact j14.cell 0 U U | exact j14.cell 2 U U | exact j14.cell 6 U U | exact j14.cell 11 U U)) ?_)))
  refine QJ U U U (Xh U U U (fun _=>(M0 U U)) ?_)
  refine Xd U U U (QP U U U Wo (Xl U U U U U U ?_))
  refine Qx j14 U U GO U (i:=0) U (by first | decide | exact Q7 U | (simp;done)) ?_
  intro w15 j15; dsimp only[List.set]at j15
  refine Zj (Xq (by kernel_rfl)) ?_
  refine VC.nil (Qc (Qh [10] U (Qe (Qa (Qd U U (Qf (Qc (Qv (QR (.inr U) U U ?_)))))))))
  have j16:=J4 (L:=_) (y:={x2 with wr:=x2.wr ||| (1#64<<<(a%64).toNat)}) ht2 hx2 U (j15.pick [0,1,2,3,4,5,6,7,8,9,10,11,12] U)
  subst he
  have hfin:=Lh (b:=bt) hT ht hI hO ht2 hx2 hs (by omega:0≤a%64∧a%64<64)
  exact⟨_,rfl,_,_,0,rfl,hfin.1,.inl ⟨rfl,hfin.2⟩,(XM (m:=n+5) (by omega) (j16.pick [1,0,3] U)).reorder [1,0,2] U⟩
 exact absurd (Decidable.not_not.1 h12) h0
