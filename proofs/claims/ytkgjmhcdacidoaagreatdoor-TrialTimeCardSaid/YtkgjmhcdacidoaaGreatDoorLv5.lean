/- leaves: references, plain -/
import Derived.Test.YtkgjmhcdacidoaaGreatDoorLv2
set_option linter.unusedSectionVars false
set_option linter.unusedVariables false
set_option maxRecDepth 100000
set_option maxHeartbeats 80000000000
namespace Go.Proofs.YtkgjmhcdacidoaaGreatDoor
open Go.RowKit M Proofs.Tryz
variable [Inhabited SlW]
open Classical in
noncomputable def KE {κ α:Type} (f:κ→α) (k:κ) (v:α):κ→α:= fun j=> if j=k then v else f j
theorem XB {κ α:Type} {f:κ→α} {k:κ} {v:α}:KE f k v k=v:= by unfold KE; rw[if_pos U]
theorem XL {κ α:Type} {f:κ→α} {k j:κ} {v:α} (h:j≠k):KE f k v j=f j:= by unfold KE; rw[if_neg h]
def Ci {κ:Type} (f:κ→Int) (s:Int) (n:Nat):Prop:= ∃l:List κ,l.Nodup∧(∀p,p∈l↔f p=s)∧l.length=n
section
variable {κ:Type} {f g:κ→Int} {s v:Int} {n m:Nat} {p:κ}
theorem H1 (h: ∀p,g p=s↔f p=s) (hc:Ci f s n):Ci g s n:= by
  obtain⟨l,a,b,c⟩:=hc
  exact⟨l,a, fun p=>(b p).trans (h p).symm,c⟩
theorem NX (h:Ci f s n) (h':Ci f s m):n=m:= by
  obtain⟨l,a,b,rfl⟩:=h
  obtain⟨l',a',b',rfl⟩:=h'
  exact((List.perm_ext_iff_of_nodup a a').2 fun k=>(b k).trans (b' k).symm).length_eq
theorem LC (hp:f p≠s) (h:Ci f s n):Ci (KE f p s) s (n+1):= by
  obtain⟨l,a,b,c⟩:=h
  refine⟨p::l,List.nodup_cons.2 ⟨fun q=>hp ((b p).1 q),a⟩, fun q=> ?_, by simp [c]⟩
  by_cases e:q=p
  · subst e; rw[XB]; simp
  · rw[XL e,List.mem_cons,b q]; simp [e]
theorem Mk (hp:f p=s) (hv:v≠s) (h:Ci f s n): ∃m,n=m+1∧Ci (KE f p v) s m:= by
  obtain⟨l,a,b,c⟩:=h
  obtain⟨x,y,rfl⟩:=List.append_of_mem ((b p).2 hp)
  have ha:(x++y).Nodup∧p∉x++y:= by
    have :=(List.perm_middle (l₁:=x) (a:=p) (l₂:=y)).nodup_iff.1 a
    rw[List.nodup_cons]at this
    exact⟨this.2,this.1⟩
  refine⟨(x++y).length, by rw[←c]; simp;omega,x++y,ha.1, fun q=> ?_,rfl⟩
  by_cases e:q=p
  · subst e; rw[XB]; exact⟨fun h=>absurd h ha.2, fun h=>absurd h hv⟩
  · rw[XL e,←b q]; simp [e]
theorem Gh (h:Ci f s n) (hp:f p=s):1≤n:= by
  obtain⟨l,a,b,rfl⟩:=h
  exact List.length_pos_of_mem ((b p).2 hp)
theorem cnt_one (h:Ci f s 1) (hp:f p=s): ∀q,f q=s→q=p:= by
  obtain⟨l,a,b,c⟩:=h
  obtain⟨x,rfl⟩:=List.length_eq_one_iff.1 c
  intro q hq
  have h1:=(b p).2 hp
  have h2:=(b q).2 hq
  simp at h1 h2
  rw[h1,h2]
end
def dl (s:Int):Int→Int:= fun j=> if j=s then 1 else 0
theorem Wp {s:Int}:dl s s=1:= by unfold dl; rw[if_pos U]
theorem WQ {s j:Int} (h:j≠s):dl s j=0:= by unfold dl; rw[if_neg h]
def RefI {κ:Type} (f:κ→Int) (V:VS) (ex:Int→Int):Prop:=(∀s,s≠0→ ∃n:Nat,Ci f s n∧Z2 V s=n+ex s)∧ ∀s x,V s=some x→1≤x.1∧1≤s∧x.2.length=64
section
variable {κ:Type} {f g:κ→Int} {V:VS} {ex ex':Int→Int} {s:Int} {p:κ}
theorem RefI.zero (h:RefI f V ex):V 0=none:= by
  cases q:V 0 with
  | none=>rfl
  | some x=> have :=(h.2 0 x q).2.1;omega
theorem RefI.ext (h:RefI f V ex) (he: ∀j,j≠0→ex' j=ex j):RefI f V ex':=⟨fun s hs=> by obtain⟨n,a,b⟩:=h.1 s hs; exact⟨n,a, by rw[he s hs]; exact b⟩,h.2⟩
theorem RefI.fn (h:RefI f V ex) (he: ∀p,g p=f p):RefI g V ex:= by
  have :g=f:=funext he
  rw[this]; exact h
theorem HJ (h:V s=none):Z2 V s=0:= by unfold Z2; rw[h]
theorem W4 {x:Int×Bs} (h:V s=some x):Z2 V s=x.1:= by unfold Z2; rw[h]
theorem RefI.alive_of (h:RefI f V ex) (hr:1≤Z2 V s):V s≠none:= fun q=> by rw[HJ q]at hr;omega
theorem RefI.aliveN (h:RefI f V ex) (hp:f p=s) (he:s≠0→0≤ex s):XT V s:= by
  by_cases h0:s=0
  · exact .inl h0
  · obtain⟨n,a,b⟩:=h.1 s h0
    have :=Gh a hp
    have :=he h0
    exact .inr (h.alive_of (by omega))
theorem RefI.alive (h:RefI f V ex) (hp:f p=s) (he:0≤ex s):XT V s:=h.aliveN hp fun _=>he
theorem RefI.ref (h:RefI f V ex) (ha:XT V s):RefI f (refW V s) (fun j=>ex j+dl s j):= by
  by_cases h0:s=0
  · have e:refW V s=V:= by unfold refW; rw[if_pos h0]
    rw[e]
    exact h.ext fun j hj=> by rw[WQ (by omega)];omega
  have e:refW V s=RC V s:= by unfold refW; rw[if_neg h0]
  rw[e]
  cases q:V s with
  | none => rcases ha with ha | ha
            · exact absurd ha h0
            · exact absurd q ha
  | some x=>
    have e2:RC V s=QK V s (some (x.1+1,x.2)):= by unfold RC; rw[q]
    rw[e2]
    refine⟨fun j hj=> ?_, fun j y hy=> ?_⟩
    · obtain⟨n,a,b⟩:=h.1 j hj
      refine⟨n,a, ?_⟩; dsimp only
      by_cases e3:j=s
      · subst e3
        rw[W4 Qr,Wp]
        rw[W4 q]at b
        dsimp only;omega
      · have :Z2 (QK V s (some (x.1+1,x.2))) j=Z2 V j:= by unfold Z2; rw[Qw e3]
        rw[this,WQ e3];omega
    · by_cases e3:j=s
      · subst e3
        rw[Qr]at hy
        cases hy
        obtain⟨a,b,c⟩:=h.2 j x q
        exact⟨by dsimp only;omega,b,c⟩
      · rw[Qw e3]at hy; exact h.2 j y hy
theorem U8 (h:V s=none):Zz V s=V:= by unfold Zz; rw[h]
theorem Y2 {x:Int×Bs} (h:V s=some x):Zz V s= if 1<x.1 then QK V s (some (x.1 -1,x.2))else QK V s none:= by unfold Zz; rw[h]
theorem RefI.unr (h:RefI f V ex) (ha:XT V s):RefI f (Zz V s) (fun j=>ex j -dl s j):= by
  cases q:V s with
  | none=>
    rcases ha with ha | ha
    · rw[U8 q]
      exact h.ext fun j hj=> by rw[WQ (by omega)];omega
    · exact absurd q ha
  | some x=>
    have hx:=h.2 s x q
    refine⟨fun j hj=> ?_, fun j y hy=> ?_⟩
    · obtain⟨n,a,b⟩:=h.1 j hj
      refine⟨n,a, ?_⟩; dsimp only
      rw[Y2 q]
      by_cases e3:j=s
      · subst e3
        rw[Wp]
        rw[W4 q]at b
        split
        · rw[W4 Qr]; dsimp only;omega
        · rw[HJ Qr];omega
      · rw[WQ e3]
        have : ∀o,Z2 (QK V s o) j=Z2 V j:= fun o=> by unfold Z2; rw[Qw e3]
        split<;>(rw[this];omega)
    · rw[Y2 q]at hy
      by_cases e3:j=s
      · subst e3
        split at hy
        · rw[Qr]at hy
          cases hy
          exact⟨by dsimp only;omega,hx.2⟩
        · rw[Qr]at hy; cases hy
      · split at hy<;>(rw[Qw e3]at hy; exact h.2 j y hy)
theorem RefI.put (h:RefI f V ex) (p:κ) (v:Int):RefI (KE f p v) V (fun j=>ex j+dl (f p) j -dl v j):= by
  refine⟨fun j hj=> ?_,h.2⟩
  obtain⟨n,a,b⟩:=h.1 j hj
  by_cases e1:f p=j
  · by_cases e2:v=j
    · refine⟨n,H1 (fun q=> ?_) a, ?_⟩
      · by_cases e:q=p
        · subst e; rw[XB,e1,e2]
        · rw[XL e]
      · dsimp only; rw[e1,e2,Wp];omega
    · obtain⟨m,rfl,c⟩:=Mk e1 e2 a
      refine⟨m,c, ?_⟩; dsimp only
      rw[e1,Wp,WQ (fun q=>e2 q.symm)];omega
  · by_cases e2:v=j
    · subst e2
      refine⟨n+1,LC e1 a, ?_⟩; dsimp only
      rw[Wp,WQ (fun q=>e1 q.symm)];omega
    · refine⟨n,H1 (fun q=> ?_) a, ?_⟩
      · by_cases e:q=p
        · subst e; rw[XB]; exact⟨fun q=>absurd q e2, fun q=>absurd q e1⟩
        · rw[XL e]
      · dsimp only; rw[WQ (fun q=>e1 q.symm),WQ (fun q=>e2 q.symm)];omega
theorem RefI.fresh (h:RefI f V ex) {pg:Bs} (hn:V s=none) (h1:1≤s) (hl:pg.length=64):RefI f (QK V s (some (1,pg))) (fun j=>ex j+dl s j):= by
  refine⟨fun j hj=> ?_, fun j y hy=> ?_⟩
  · obtain⟨n,a,b⟩:=h.1 j hj
    refine⟨n,a, ?_⟩; dsimp only
    by_cases e:j=s
    · subst e
      rw[W4 Qr,Wp]
      rw[HJ hn]at b
      dsimp only;omega
    · have :Z2 (QK V s (some (1,pg))) j=Z2 V j:= by unfold Z2; rw[Qw e]
      rw[this,WQ e];omega
  · by_cases e:j=s
    · subst e
      rw[Qr]at hy
      cases hy
      exact⟨by dsimp only;omega,h1,hl⟩
    · rw[Qw e]at hy; exact h.2 j y hy
theorem RefI.setc (h:RefI f V ex) {pg pg':Bs} {r:Int} (hn:V s=some (r,pg)) (hl:pg'.length=64):RefI f (QK V s (some (r,pg'))) ex:= by
  refine⟨fun j hj=> ?_, fun j y hy=> ?_⟩
  · obtain⟨n,a,b⟩:=h.1 j hj
    refine⟨n,a, ?_⟩
    by_cases e:j=s
    · subst e
      rw[W4 Qr]
      rw[W4 hn]at b
      exact b
    · have :Z2 (QK V s (some (r,pg'))) j=Z2 V j:= by unfold Z2; rw[Qw e]
      rw[this]; exact b
  · by_cases e:j=s
    · subst e
      rw[Qr]at hy
      cases hy
      have :=h.2 j _ hn
      exact⟨this.1,this.2.1,hl⟩
    · rw[Qw e]at hy; exact h.2 j y hy
theorem RefI.none_held (h:RefI f V ex) (hn:V s=none) (h0:s≠0) (he:0≤ex s):f p≠s:= fun q=> by
  rcases h.alive q he with h1 | h1
  · exact h0 h1
  · exact h1 hn
theorem RefI.excl (h:RefI f V ex) (hr:Z2 V s=1) (he:ex s=0) (h0:s≠0) (hp:f p=s): ∀q,f q=s→q=p:= by
  obtain⟨n,a,b⟩:=h.1 s h0
  have :n=1:= by omega
  subst this
  exact cnt_one a hp
end
section
variable {V:VS} {s j:Int}
theorem Jm {x:Int×Bs} (h:V j=some x):XY V j=x.2:= by unfold XY; rw[h]
theorem J9 (h:V 0=none):XY V 0=zer:= by unfold XY; rw[h];rfl
theorem FA {V':VS} (h:V' j=V j):XY V' j=XY V j:= by unfold XY; rw[h]
theorem UF {o:Option (Int×Bs)} (h:j≠s):XY (QK V s o) j=XY V j:=FA (Qw h)
theorem pg_refV:XY (RC V s) j=XY V j:= by
  unfold RC
  cases q:V s with
  | none=>rfl
  | some x=>
    dsimp only
    by_cases e:j=s
    · subst e; rw[Jm Qr,Jm q]
    · exact UF e
theorem Yr:XY (refW V s) j=XY V j:= by unfold refW;split;rfl; exact pg_refV
theorem GK (h0:V 0=none) (h:XT (Zz V s) j):XY (Zz V s) j=XY V j:= by
  cases q:V s with
  | none=> rw[U8 q]
  | some x=>
    by_cases e:j=s
    · subst e
      rw[Y2 q]at h⊢
      split
      · rw[Jm Qr,Jm q]
      · rename_i hx
        rw[if_neg hx]at h
        rcases h with h | h
        · subst h; rw[h0]at q; cases q
        · exact absurd Qr h
    · rw[Y2 q];split<;> exact UF e
theorem BM (h:Zz V s j≠none):V j≠none:= by
  cases q:V s with
  | none=>rwa [U8 q]at h
  | some x=>
    by_cases e:j=s
    · subst e; rw[q]; simp
    · rw[Y2 q]at h
      split at h<;>rwa [Qw e]at h
def AliveLe (V:VS) (n:Nat):Prop:= ∃l:List Int,l.length≤n∧ ∀j,V j≠none→j∈l
theorem AliveLe.sub {V':VS} {n:Nat} (h:AliveLe V n) (hs: ∀j,V' j≠none→V j≠none):AliveLe V' n:= by
  obtain⟨l,a,b⟩:=h
  exact⟨l,a, fun j hj=>b j (hs j hj)⟩
theorem AliveLe.mono {n m:Nat} (h:AliveLe V n) (hm:n≤m):AliveLe V m:= by
  obtain⟨l,a,b⟩:=h
  exact⟨l, by omega,b⟩
theorem AliveLe.refW {n:Nat} (h:AliveLe V n):AliveLe (refW V s) n:=h.sub fun j=>YG.1
theorem AliveLe.unr {n:Nat} (h:AliveLe V n):AliveLe (Zz V s) n:=h.sub fun j=>BM
theorem AliveLe.put {n:Nat} {o:Option (Int×Bs)} (h:AliveLe V n):AliveLe (QK V s o) (n+1):= by
  obtain⟨l,a,b⟩:=h
  refine⟨s::l, by simp;omega, fun j hj=> ?_⟩
  by_cases e:j=s
  · simp [e]
  · rw[Qw e]at hj; exact List.mem_cons_of_mem _ (b j hj)
theorem Wf {α:Type}: ∀{a b:List α},a.Nodup→(∀x∈a,x∈b)→a.length≤b.length
  | [],_,_,_=> by simp
  | x::a,b,h,hs=> by
    rw[List.nodup_cons]at h
    obtain⟨u,v,rfl⟩:=List.append_of_mem (hs x (by simp))
    have :=Wf (a:=a) (b:=u++v) h.2 fun y hy=> by
      have h1:=hs y (List.mem_cons_of_mem _ hy)
      have h2:y≠x:= fun q=>h.1 (q▸hy)
      simpa [h2]using h1
    simp at this⊢;omega
theorem Hf {n m:Nat} (h:AliveLe V n) (h':Yz V m):m≤n:= by
  obtain⟨l,a,b⟩:=h
  obtain⟨l',rfl,c,d⟩:=h'
  have :=Wf c fun j hj=>b j (d j hj)
  omega
end
abbrev Pl:=KD⊕(Int×KD×Bool)
def Xm (L:LvD):Pl→Int
  | .inl k=>L.pres k
  | .inr (i,k,o)=> match L.tr i with | none=>0 | some t=> match t.lv k with | none=>0 | some x=> if o=true then x.own else x.base
theorem Dl {L L':LvD} {k:KD} {s:Int} (hp:L'.pres=We L.pres k s) (ht:L'.tr=L.tr): ∀p,Xm L' p=KE (Xm L) (.inl k) s p:= fun p=> by
  cases p with
  | inl j=>
    by_cases e:j=k
    · subst e; rw[XB]; simp [Xm,hp,We]
    · rw[XL (by simpa using e)]; simp [Xm,hp,We,e]
  | inr q=> rw[XL (by simp)]; simp [Xm,ht]
theorem Hr {L L':LvD} {i:Int} {t t':TrD} {k:KD} {x:LfD} (hp:L'.pres=L.pres) (hT:L'.tr=QK L.tr i (some t')) (ht:L.tr i=some t) (hl:t'.lv=QK t.lv k (some x)):
    ∀p,Xm L' p=KE (KE (Xm L) (.inr (i,k,false)) x.base) (.inr (i,k,true)) x.own p:= fun p=> by
  cases p with
  | inl j=> rw[XL (by simp),XL (by simp)]; simp [Xm,hp]
  | inr q=>
    obtain⟨i2,k2,o⟩:=q
    by_cases e:i2=i
    · subst e
      by_cases e2:k2=k
      · subst e2
        cases o with
        | true=> rw[XB]; simp [Xm,hT,Qr,hl]
        | false=> rw[XL (by simp),XB]; simp [Xm,hT,Qr,hl]
      · rw[XL (by simp [e2]),XL (by simp [e2])]
        simp only[Xm,hT,Qr,ht,hl]
        rw[Qw e2]
    · rw[XL (by simp [e]),XL (by simp [e])]
      simp only[Xm,hT]
      rw[Qw e]
theorem X6 {L:LvD} {i:Int} {t:TrD} {k:KD} {x:LfD} {o:Bool} (ht:L.tr i=some t) (hx:t.lv k=some x):Xm L (.inr (i,k,o))= if o=true then x.own else x.base:= by simp only[Xm,ht,hx]
theorem Vw {L:LvD} {i:Int} {t:TrD} {k:KD} {o:Bool} (ht:L.tr i=some t) (hx:t.lv k=none):Xm L (.inr (i,k,o))=0:= by simp only[Xm,ht,hx]
structure LfA where
  base:Bs
  own:Bs
  rd:BitVec 64
  wr:BitVec 64
structure TrA where
  parent:Int
  lv:KD→Option LfA
  dr:Bs→Bool
structure LvA where
  pres:KD→Bs
  tr:Int→Option TrA
def Wk (V:VS) (x:LfD):LfA:=⟨XY V x.base,XY V x.own,x.rd,x.wr⟩
def Zq (V:VS) (t:TrD):TrA:=⟨t.parent, fun k=>(t.lv k).map (Wk V),t.dr⟩
def QE (L:LvD) (V:VS):LvA:=⟨fun k=>XY V (L.pres k), fun i=>(L.tr i).map (Zq V)⟩
def J6 (A:LvA):Nat→Int→KD→Bs
  | 0,_,_=>zer
  | n+1,id,k=> if id=0 then A.pres k else match A.tr id with | none=>zer | some t=> match t.lv k with | some x=>x.own | none=> if t.dr k.1=true then zer else J6 A n t.parent k
def WM (A:LvA) (id:Int) (k:KD):Bs:=J6 A (Wx+1) id k
noncomputable def Wo (A:LvA) (id:Int) (k:KD) (x:LfA):LvA:= match A.tr id with | none=>A | some t=>{A with tr:=QK A.tr id (some {t with lv:=QK t.lv k (some x)})}
def ZH (A:LvA) (id:Int) (k:KD):LfA:= match A.tr id with | none=>⟨zer,zer,0#64,0#64⟩ | some t=> match t.lv k with | some x=>x | none=>⟨WM A id k,WM A id k,0#64, if t.dr k.1=true then BitVec.allOnes 64 else 0#64⟩
theorem Z1 {L:LvD} {V:VS} {i:Int} {t:TrD} (h:L.tr i=some t):(QE L V).tr i=some (Zq V t):= by simp [QE,h]
theorem Z0 {V:VS} {t:TrD} {k:KD} {x:LfD} (h:t.lv k=some x):(Zq V t).lv k=some (Wk V x):= by simp [Zq,h]
theorem U1 {V:VS} {t:TrD} {k:KD} (h:t.lv k=none):(Zq V t).lv k=none:= by simp [Zq,h]
theorem MP {L:LvD} {V:VS} (h0:V 0=none): ∀n id k,XY V (Jl L n id k)=J6 (QE L V) n id k
  | 0,_,_=>J9 h0
  | n+1,id,k=> by
    unfold Jl J6
    split
    · rfl
    · cases ht:L.tr id with
      | none=> rw[show(QE L V).tr id=none by simp [QE,ht]]; exact J9 h0
      | some t=>
        rw[Z1 ht]; dsimp only
        cases hx:t.lv k with
        | some x=> rw[Z0 hx];rfl
        | none=>
          rw[U1 hx]; dsimp only
          show XY V (if t.dr k.1=true then 0 else _)= if t.dr k.1=true then zer else _
          split
          · exact J9 h0
          · exact MP h0 n t.parent k
theorem BU (L:LvD): ∀n id k,Jl L n id k=0∨ ∃p,Xm L p=Jl L n id k
  | 0,_,_=> .inl rfl
  | n+1,id,k=> by
    unfold Jl
    split
    · exact .inr ⟨.inl k,U⟩
    · cases ht:L.tr id with
      | none=> exact .inl rfl
      | some t=>
        dsimp only
        cases hx:t.lv k with
        | some x=> exact .inr ⟨.inr (id,k,true), by rw[X6 ht hx];rfl⟩
        | none=>
          dsimp only
          split
          · exact .inl U
          · exact BU L n t.parent k
theorem M5 {V V':VS} {t:TrD} (h: ∀k x,t.lv k=some x→XY V' x.base=XY V x.base∧XY V' x.own=XY V x.own):Zq V' t=Zq V t:= by
  unfold Zq
  congr 1
  funext k
  cases q:t.lv k with
  | none=>rfl
  | some x=> obtain⟨a,b⟩:=h k x q; simp [Wk,a,b]
theorem HV {L:LvD} {V V':VS} (h: ∀p,XY V' (Xm L p)=XY V (Xm L p)):QE L V'=QE L V:= by
  unfold QE
  congr 1
  · funext k; exact h (.inl k)
  · funext i
    cases q:L.tr i with
    | none=>rfl
    | some t=>
      refine congrArg some (M5 fun k x hx=> ?_)
      have h1:=h (.inr (i,k,false))
      have h2:=h (.inr (i,k,true))
      rw[X6 q hx]at h1 h2
      exact⟨h1,h2⟩
theorem ZS {A:LvA} {id:Int} {k:KD} {x:LfA} {t:TrA} (h:A.tr id=some t):Wo A id k x={A with tr:=QK A.tr id (some {t with lv:=QK t.lv k (some x)})}:= by unfold Wo; rw[h]
theorem BZ {A:LvA} {id:Int} {k:KD} {x:LfA} {t:TrA} (h:A.tr id=some t) (hx:t.lv k=some x):Wo A id k x=A:= by
  rw[ZS h,Wr hx,Wr h]
theorem BN {A:LvA} {id:Int} {k:KD} {x:LfA} {t:TrA} (h:A.tr id=some t) (hx:t.lv k=some x):ZH A id k=x:= by unfold ZH; rw[h]; dsimp only; rw[hx]
theorem BO {A:LvA} {id:Int} {k:KD} {t:TrA} (h:A.tr id=some t) (hx:t.lv k=none):ZH A id k=⟨WM A id k,WM A id k,0#64, if t.dr k.1=true then BitVec.allOnes 64 else 0#64⟩:= by unfold ZH; rw[h]; dsimp only; rw[hx]
theorem YQ {L L':LvD} {V V':VS} {i:Int} {t t':TrD} {k:KD} {x:LfD} (hp:L'.pres=L.pres) (hT:L'.tr=QK L.tr i (some t')) (ht:L.tr i=some t) (hl:t'={t with lv:=QK t.lv k (some x)})
    (h: ∀p,p≠ .inr (i,k,false)→p≠ .inr (i,k,true)→XY V' (Xm L p)=XY V (Xm L p)):QE L' V'=Wo (QE L V) i k (Wk V' x):= by
  rw[ZS (Z1 ht)]
  unfold QE
  rw[hp,hT]
  congr 1
  · funext j; exact h (.inl j) (by simp) (by simp)
  · funext j
    by_cases e:j=i
    · subst e
      rw[Qr,Qr]
      subst hl
      simp only[Option.map_some]
      congr 1
      unfold Zq
      congr 1
      funext q
      by_cases e2:q=k
      · subst e2; rw[Qr]; show Option.map (Wk V') (QK t.lv q (some x) q)=_; rw[Qr];rfl
      · rw[Qw e2]
        show Option.map (Wk V') (QK t.lv k (some x) q)=Option.map (Wk V) (t.lv q)
        rw[Qw e2]
        cases hq:t.lv q with
        | none=>rfl
        | some y=>
          have h1:=h (.inr (j,q,false)) (by simp [e2]) (by simp)
          have h2:=h (.inr (j,q,true)) (by simp) (by simp [e2])
          rw[X6 ht hq]at h1 h2
          simp at h1 h2
          simp [Wk,h1,h2]
    · rw[Qw e,Qw e]
      show Option.map (Zq V') (L.tr j)=Option.map (Zq V) (L.tr j)
      cases q:L.tr j with
      | none=>rfl
      | some u=>
        refine congrArg some (M5 fun k2 y hy=> ?_)
        have h1:=h (.inr (j,k2,false)) (by simp [e]) (by simp)
        have h2:=h (.inr (j,k2,true)) (by simp) (by simp [e])
        rw[X6 q hy]at h1 h2
        exact⟨h1,h2⟩
theorem D4 {L L':LvD} {V V':VS} {k:KD} {s:Int} (hp:L'.pres=We L.pres k s) (hT:L'.tr=L.tr)
    (h: ∀p,p≠ .inl k→XY V' (Xm L p)=XY V (Xm L p)):QE L' V'={QE L V with pres:=KE (QE L V).pres k (XY V' s)}:= by
  unfold QE
  rw[hp,hT]
  congr 1
  · funext j
    by_cases e:j=k
    · subst e; rw[XB]; simp [We]
    · rw[XL e]
      have :=h (.inl j) (by simpa using e)
      simp only[We,if_neg e]
      exact this
  · funext j
    show Option.map (Zq V') (L.tr j)=Option.map (Zq V) (L.tr j)
    cases q:L.tr j with
    | none=>rfl
    | some u=>
      refine congrArg some (M5 fun k2 y hy=> ?_)
      have h1:=h (.inr (j,k2,false)) (by simp)
      have h2:=h (.inr (j,k2,true)) (by simp)
      rw[X6 q hy]at h1 h2
      exact⟨h1,h2⟩
def RankI (T:Int→Option TrD) (m:Nat):Prop:=T 0=none∧ ∃r:Int→Nat,(∀i,r i≤m)∧ ∀i t,T i=some t→t.parent=0∨(T t.parent≠none∧r t.parent<r i)
theorem BY {T:Int→Option TrD} {r:Int→Nat} (h: ∀i t,T i=some t→t.parent=0∨(T t.parent≠none∧r t.parent<r i)): ∀n i,r i<n→H9 T n i
  | 0,i,h0=> by omega
  | n+1,i,h0=> by
    refine .inr ?_
    cases ht:T i with
    | none=>trivial
    | some t=>
      show H9 T n t.parent
      rcases h i t ht with e | ⟨_,e⟩
      · rw[e]
        cases n with
        | zero=>rfl
        | succ n=> exact .inl rfl
      · exact BY h n _ (by omega)
theorem RankI.ends {T:Int→Option TrD} {m:Nat} (h:RankI T m) (hm:m<Wx): ∀i,H9 T Wx i:= by
  obtain⟨_,r,a,b⟩:=h
  exact fun i=>BY b _ _ (by have :=a i;omega)
theorem RankI.same {T T':Int→Option TrD} {m:Nat} (h:RankI T m) (hs: ∀i,(T' i).map TrD.parent=(T i).map TrD.parent):RankI T' m:= by
  obtain⟨h0,r,a,b⟩:=h
  have hN: ∀i,T' i=none↔T i=none:= fun i=> by
    have :=hs i
    cases q:T i<;> cases q':T' i<;>simp_all
  refine⟨(hN 0).2 h0,r,a, fun i t ht=> ?_⟩
  have h1:=hs i
  rw[ht]at h1
  cases q:T i with
  | none=> rw[q]at h1; simp at h1
  | some u=>
    rw[q]at h1
    have e:t.parent=u.parent:= by simpa using h1
    rcases b i u q with h2 | ⟨h2,h3⟩
    · exact .inl (e.trans h2)
    · exact .inr ⟨fun q=>h2 ((hN _).1 (e▸q)),e▸h3⟩
theorem RankI.none0 {T:Int→Option TrD} {m:Nat} (h:RankI T m) {i:Int} {t:TrD} (ht:T i=some t):i≠0:= fun e=> by subst e; rw[h.1]at ht; cases ht
def Ez (x:LfA):Prop:= ∀j,j<64→x.wr.getLsbD j=false→x.base[j]? =x.own[j]?
def AgL (A:LvA):Prop:= ∀i t k x,A.tr i=some t→t.lv k=some x→Ez x
theorem AgL.put {A:LvA} (h:AgL A) {i:Int} {k:KD} {x:LfA} (hx:Ez x):AgL (Wo A i k x):= by
  unfold Wo
  cases ht:A.tr i with
  | none=> exact h
  | some t=>
    intro j u q y hj hq
    dsimp only at hj
    by_cases e:j=i
    · subst e
      rw[Qr]at hj
      cases hj
      dsimp only at hq
      by_cases e2:q=k
      · subst e2; rw[Qr]at hq; cases hq; exact hx
      · rw[Qw e2]at hq; exact h j t q y ht hq
    · rw[Qw e]at hj; exact h j u q y hj hq
theorem AgL.pres {A:LvA} (h:AgL A) {p:KD→Bs}:AgL {A with pres:=p}:=h
theorem AgL.tou {A:LvA} (h:AgL A) {i:Int} {k:KD}:Ez (ZH A i k):= by
  unfold ZH
  cases ht:A.tr i with
  | none=> exact fun _ _ _=>rfl
  | some t=>
    dsimp only
    cases hx:t.lv k with
    | none=> exact fun _ _ _=>rfl
    | some x=> exact h i t k x ht hx
def NN (ex:Int→Int):Prop:= ∀j,j≠0→0≤ex j
structure LvX (ex:Int→Int) (m:Nat) (L:LvD) (V:VS):Prop where
  ref:RefI (Xm L) V ex
  rank:RankI L.tr m
  agree:AgL (QE L V)
abbrev LvI (m:Nat) (L:LvD) (V:VS):Prop:=LvX (fun _=>0) m L V
section
variable {ex:Int→Int} {L L1 L':LvD} {V V1 V':VS} {id:Int} {t t1:TrD} {k:KD} {x1:LfD} {m:Nat}
theorem LvX.zero (h:LvX ex m L V):V 0=none:=h.ref.zero
theorem LvX.sees (h:LvX ex m L V) (id:Int) (k:KD):XY V (Xx L id k)=WM (QE L V) id k:=MP h.zero _ _ _
theorem LvX.aliveX (h:LvX ex m L V) (hx:NN ex) (p:Pl):XT V (Xm L p):=h.ref.aliveN U (hx _)
theorem LvX.aliveSX (h:LvX ex m L V) (hx:NN ex) (id:Int) (k:KD):XT V (Xx L id k):= by
  rcases BU L (Wx+1) id k with e | ⟨p,e⟩
  · exact .inl e
  · show XT V (Jl L (Wx+1) id k); rw[←e]; exact h.aliveX hx p
theorem LvX.len (h:LvX ex m L V) {s:Int} (hs:XT V s):(XY V s).length=64:= by
  cases q:V s with
  | none=>
    rcases hs with rfl | hs
    · rw[J9 h.zero]; simp [zer]
    · exact absurd q hs
  | some x=> rw[Jm q]; exact(h.ref.2 s x q).2.2
theorem LvX.alive (h:LvI m L V) (p:Pl):XT V (Xm L p):=h.aliveX (fun _ _=>Int.le_refl _) p
theorem LvX.aliveS (h:LvI m L V) (id:Int) (k:KD):XT V (Xx L id k):=h.aliveSX (fun _ _=>Int.le_refl _) id k
theorem TouR.invX (hT:TouR L V id t k L1 V1 t1 x1) (ht:L.tr id=some t) (h:LvX ex m L V) (hx:NN ex):
    LvX ex m L1 V1∧Wk V1 x1=ZH (QE L V) id k∧QE L1 V1=Wo (QE L V) id k (ZH (QE L V) id k)∧(∀c,AliveLe V c→AliveLe V1 c)∧L1.pres=L.pres:= by
  have hal:=h.aliveSX hx id k
  have hse:=h.sees id k
  rcases hT with⟨hx',rfl,rfl,rfl⟩ | ⟨hx',a,rfl,rfl,rfl,rfl⟩
  · refine⟨h, ?_, ?_, fun _ q=>q,rfl⟩
    · rw[BN (Z1 ht) (Z0 hx')]
    · rw[BN (Z1 ht) (Z0 hx'),BZ (Z1 ht) (Z0 hx')]
  · generalize hs:Xx L id k=s at *
    have hpg: ∀j,XY (refW (refW V s) s) j=XY V j:= fun j=> by rw[Yr,Yr]
    have e1:Wk (refW (refW V s) s) (Yo t k s a)=ZH (QE L V) id k:= by
      rw[BO (Z1 ht) (U1 hx')]
      unfold Wk Yo
      simp only[hpg,hse]
      rfl
    have e2:QE {L with tr:=QK L.tr id (some {t with lv:=QK t.lv k (some (Yo t k s a))}),sh:=Yi (Yi L.sh s) s} (refW (refW V s) s)=Wo (QE L V) id k (ZH (QE L V) id k):= by
      rw[YQ (L:=L) (V:=V) (k:=k) (x:=Yo t k s a) (L':={L with tr:=QK L.tr id (some {t with lv:=QK t.lv k (some (Yo t k s a))}),sh:=Yi (Yi L.sh s) s}) U U ht U fun p _ _=>hpg _,e1]
    refine⟨⟨?_,h.rank.same (Jw ht U), ?_⟩,e1,e2, fun c q=>q.refW.refW,rfl⟩
    · have h1:=(h.ref.ref hal).ref (s:=s) (by
        rcases hal with q | q
        · exact .inl q
        · exact .inr (YG.2 q))
      have h2:=(h1.put (.inr (id,k,false)) s).put (.inr (id,k,true)) s
      have h3:=h2.fn (g:=Xm {L with tr:=QK L.tr id (some {t with lv:=QK t.lv k (some (Yo t k s a))}),sh:=Yi (Yi L.sh s) s}) (Hr (L':={L with tr:=QK L.tr id (some {t with lv:=QK t.lv k (some (Yo t k s a))}),sh:=Yi (Yi L.sh s) s}) (t':={t with lv:=QK t.lv k (some (Yo t k s a))}) (x:=Yo t k s a) U U ht U)
      refine h3.ext fun j hj=> ?_
      rw[XL (by simp),Vw ht hx',Vw ht hx',WQ (s:=0) hj];omega
    · rw[e2]; exact h.agree.put h.agree.tou
theorem TouR.inv (hT:TouR L V id t k L1 V1 t1 x1) (ht:L.tr id=some t) (h:LvI m L V):
    LvI m L1 V1∧Wk V1 x1=ZH (QE L V) id k∧QE L1 V1=Wo (QE L V) id k (ZH (QE L V) id k)∧(∀c,AliveLe V c→AliveLe V1 c)∧L1.pres=L.pres:=hT.invX ht h fun _ _=>Int.le_refl _
end
section
variable {L L1 L':LvD} {V V1 V':VS} {id:Int} {t t1:TrD} {k:KD} {x x1:LfD} {m Fr:Nat} {s e:Int}
def OwnI (L:LvD) (V:VS) (p:Pl) (m Fr:Nat) (L':LvD) (V':VS) (s e:Int):Prop:=
  LvI m L' V'∧QE L' V'=QE L V∧(∀c,AliveLe V c→AliveLe V' (c+1))∧(∀c,AliveLe V c→AliveLe V' c∨AliveLe V' (c+1))∧
  ((e=6∧s=0∧Yz V Fr)∨(e=0∧s≠0∧Z2 V' s=1∧Xm L' p=s))
theorem Do {f f':Pl→Int} {p:Pl} (h:RefI f V (fun _=>0)) (h1:1≤s) (hn:V s=none) (ho:XT V (f p)) (hf: ∀q,f' q=KE f p s q):
    RefI f' (Zz (QK V s (some (1,XY V (f p)))) (f p)) (fun _=>0)∧(∀q,XY (Zz (QK V s (some (1,XY V (f p)))) (f p)) (f' q)=XY V (f q))∧Zz (QK V s (some (1,XY V (f p)))) (f p) s=some (1,XY V (f p)):= by
  have hl:(XY V (f p)).length=64:= by
    cases q:V (f p)with
    | none=>
      rcases ho with e | e
      · rw[e,J9 h.zero]; simp [zer]
      · exact absurd q e
    | some x=> rw[Jm q]; exact(h.2 _ x q).2.2
  generalize ho':f p=o at *
  have hso:o≠s:= fun e=> by
    subst e
    rcases ho with e | e
    · omega
    · exact absurd hn e
  have hoa:XT (QK V s (some (1,XY V o))) o:= by
    rcases ho with e | e
    · exact .inl e
    · refine .inr ?_; rw[Qw hso]; exact e
  have a1:=(((h.fresh hn h1 hl).put p s).fn hf).unr hoa
  rw[ho']at a1
  have a2:RefI f' (Zz (QK V s (some (1,XY V o))) o) (fun _=>0):=a1.ext fun j hj=> by omega
  have a3:Zz (QK V s (some (1,XY V o))) o s=some (1,XY V o):= by
    cases q:V o with
    | none=> rw[U8 (by rw[Qw hso]; exact q),Qr]
    | some x=>
      rw[Y2 (x:=x) (by rw[Qw hso]; exact q)]
      split<;> rw[Qw (fun e=>hso e.symm),Qr]
  refine⟨a2, fun q=> ?_,a3⟩
  by_cases e:q=p
  · subst e
    rw[hf,XB,Jm a3,ho']
  · have e1:f' q=f q:= by rw[hf,XL e]
    have e2:f q≠s:=h.none_held hn (by omega) (by omega)
    have h0:QK V s (some (1,XY V o)) 0=none:= by rw[Qw (by omega)]; exact h.zero
    rw[GK h0 (a2.alive U (by omega)),e1,UF e2]
theorem OwnP.inv (h:OwnP L V k Fr L' V' s e) (hI:LvI m L V):OwnI L V (.inl k) m Fr L' V' s e∧L'.tr=L.tr:= by
  rcases h with⟨rfl,h2,h3,h4,rfl,rfl⟩ | ⟨rfl,rfl,h3,rfl,rfl⟩ | ⟨rfl,h2,h3,h4,rfl,rfl⟩
  · exact⟨⟨hI,rfl, fun c q=>q.mono (by omega), fun c q=> .inl q,.inr ⟨rfl,h3,h4,h2.symm⟩⟩,rfl⟩
  · exact⟨⟨hI,rfl, fun c q=>q.mono (by omega), fun c q=> .inl q,.inl ⟨rfl,rfl,h3⟩⟩,rfl⟩
  · generalize hL':({L with pres:=We L.pres k s,sh:=YD (QK V s (some (1,XY V (L.pres k)))) L.sh (L.pres k)}:LvD)=L'
    have hp:L'.pres=We L.pres k s:= by subst hL';rfl
    have hT:L'.tr=L.tr:= by subst hL';rfl
    have hf:=Dl hp hT
    obtain⟨a,b,c⟩:=Do (p:= .inl k) hI.ref h2 h3 (hI.alive _) hf
    have hh:Xm L (.inl k)=L.pres k:=rfl
    rw[hh]at a b c
    have e1:QE L' (Zz (QK V s (some (1,XY V (L.pres k)))) (L.pres k))=QE L V:= by
      rw[D4 (V:=V) hp hT fun p hp=> ?_]
      · have h5:=b (.inl k)
        rw[hf,XB,hh]at h5
        have e2:KE (QE L V).pres k (XY (Zz (QK V s (some (1,XY V (L.pres k)))) (L.pres k)) s)=(QE L V).pres:= by
          funext j
          by_cases e:j=k
          · subst e; rw[XB]; exact h5
          · rw[XL e]
        rw[e2]
      · have h5:=b p
        rw[hf,XL hp]at h5
        exact h5
    refine⟨⟨⟨a, by rw[hT]; exact hI.rank, by rw[e1]; exact hI.agree⟩,e1, fun c q=>q.put.unr, fun c q=> .inr q.put.unr,.inr ⟨rfl, by omega,W4 c, ?_⟩⟩,hT⟩
    rw[hf,XB]
theorem OwnT.inv (h:OwnT L V id t k x Fr L' V' s e) (ht:L.tr id=some t) (hx:t.lv k=some x) (hI:LvI m L V):OwnI L V (.inr (id,k,true)) m Fr L' V' s e∧L'.pres=L.pres:= by
  have hh:Xm L (.inr (id,k,true))=x.own:= by rw[X6 ht hx];rfl
  rcases h with⟨rfl,h2,h3,h4,rfl,rfl⟩ | ⟨rfl,rfl,h3,rfl,rfl⟩ | ⟨rfl,h2,h3,h4,rfl,rfl⟩
  · exact⟨⟨hI,rfl, fun c q=>q.mono (by omega), fun c q=> .inl q,.inr ⟨rfl,h3,h4, by rw[hh,h2]⟩⟩,rfl⟩
  · exact⟨⟨hI,rfl, fun c q=>q.mono (by omega), fun c q=> .inl q,.inl ⟨rfl,rfl,h3⟩⟩,rfl⟩
  · generalize hL':ZX {L with sh:=YD (QK V s (some (1,XY V x.own))) L.sh x.own} id t k {x with own:=s}=L'
    have hp:L'.pres=L.pres:= by subst hL';rfl
    have hT:L'.tr=QK L.tr id (some {t with lv:=QK t.lv k (some {x with own:=s})}):= by subst hL';rfl
    have hf: ∀q,Xm L' q=KE (Xm L) (.inr (id,k,true)) s q:= fun q=> by
      rw[Hr (x:={x with own:=s}) hp hT ht U]
      by_cases e:q= .inr (id,k,true)
      · subst e; rw[XB,XB]
      · rw[XL e,XL e]
        by_cases e2:q= .inr (id,k,false)
        · subst e2; rw[XB,X6 ht hx];rfl
        · rw[XL e2]
    obtain⟨a,b,c⟩:=Do (p:= .inr (id,k,true)) hI.ref h2 h3 (hI.alive _) hf
    rw[hh]at a b c
    have e1:QE L' (Zz (QK V s (some (1,XY V x.own))) x.own)=QE L V:= by
      rw[YQ (x:={x with own:=s}) hp hT ht U fun p hp1 hp2=> ?_]
      · have e2:Wk (Zz (QK V s (some (1,XY V x.own))) x.own) {x with own:=s}=Wk V x:= by
          have h5:=b (.inr (id,k,true))
          have h6:=b (.inr (id,k,false))
          rw[hf,XB,hh]at h5
          rw[hf,XL (by simp),X6 ht hx]at h6
          simp at h6
          simp [Wk,h5,h6]
        rw[e2,BZ (Z1 ht) (Z0 hx)]
      · have h5:=b p
        rw[hf,XL hp2]at h5
        exact h5
    refine⟨⟨⟨a, ?_, by rw[e1]; exact hI.agree⟩,e1, fun c q=>q.put.unr, fun c q=> .inr q.put.unr,.inr ⟨rfl, by omega,W4 c, ?_⟩⟩,hp⟩
    · rw[hT]; exact hI.rank.same (Jw ht U)
    · rw[hf,XB]
theorem Fq {f:Pl→Int} {p:Pl} {r a:Int} {pg:Bs} {b:UInt8} (h:RefI f V (fun _=>0)) (hs:V s=some (r,pg)) (hr:Z2 V s=1) (hp:f p=s):
    RefI f (QK V s (some (r,pg.set a.toNat b))) (fun _=>0)∧(∀q,q≠p→XY (QK V s (some (r,pg.set a.toNat b))) (f q)=XY V (f q))∧XY (QK V s (some (r,pg.set a.toNat b))) (f p)=(XY V (f p)).set a.toNat b:= by
  have h3:=h.2 s _ hs
  refine⟨h.setc hs (by rw[List.length_set]; exact h3.2.2), fun q hq=> ?_, ?_⟩
  · refine UF fun e=>hq (h.excl hr U (by omega) hp q e)
  · rw[hp,Jm Qr,Jm hs]
end
theorem Ue {κ α:Type} {f:κ→α} {k:κ} {v:α} (h:f k=v):KE f k v=f:= by
  funext j
  by_cases e:j=k
  · subst e; rw[XB,h]
  · rw[XL e]
def SzLe (L:LvD) (c:Nat):Prop:= ∃l:List (Int×KD),l.length≤c∧(∀k,L.pres k≠0→(0,k)∈l)∧ ∀i t k x,L.tr i=some t→t.lv k=some x→(i,k)∈l
theorem SzLe.mono {L:LvD} {c d:Nat} (h:SzLe L c) (hd:c≤d):SzLe L d:= by
  obtain⟨l,a,b⟩:=h
  exact⟨l, by omega,b⟩
theorem SzLe.add {L L':LvD} {c:Nat} (h:SzLe L c) (i:Int) (k:KD) (hp: ∀q,L'.pres q≠0→L.pres q≠0∨(0,q)=(i,k)) (ht: ∀j u q x,L'.tr j=some u→u.lv q=some x→(∃u' x',L.tr j=some u'∧u'.lv q=some x')∨(j,q)=(i,k)):SzLe L' (c+1):= by
  obtain⟨l,a,b,d⟩:=h
  refine⟨(i,k)::l, by simp;omega, fun q hq=> ?_, fun j u q x hj hq=> ?_⟩
  · rcases hp q hq with e | e
    · exact List.mem_cons_of_mem _ (b q e)
    · rw[e]; exact List.mem_cons_self
  · rcases ht j u q x hj hq with⟨u',x',e1,e2⟩ | e
    · exact List.mem_cons_of_mem _ (d j u' q x' e1 e2)
    · rw[e]; exact List.mem_cons_self
theorem SzLe.put {L L':LvD} {c:Nat} {i:Int} {k:KD} {t:TrD} {x:LfD} (h:SzLe L c) (ht:L.tr i=some t) (hp:L'.pres=L.pres) (hT:L'.tr=QK L.tr i (some {t with lv:=QK t.lv k (some x)})):SzLe L' (c+1):= by
  refine h.add i k (fun q hq=> .inl (by rwa [hp]at hq)) fun j u q y hj hq=> ?_
  rw[hT]at hj
  by_cases e:j=i
  · subst e
    rw[Qr]at hj
    cases hj
    dsimp only at hq
    by_cases e2:q=k
    · right; rw[e2]
    · rw[Qw e2]at hq; exact .inl ⟨t,y,ht,hq⟩
  · rw[Qw e]at hj; exact .inl ⟨u,y,hj,hq⟩
theorem SzLe.putOld {L L':LvD} {c:Nat} {i:Int} {k:KD} {t:TrD} {x y:LfD} (h:SzLe L c) (ht:L.tr i=some t) (hx:t.lv k=some y) (hp:L'.pres=L.pres) (hT:L'.tr=QK L.tr i (some {t with lv:=QK t.lv k (some x)})):SzLe L' c:= by
  obtain⟨l,a,b,d⟩:=h
  refine⟨l,a, fun q hq=>b q (by rwa [hp]at hq), fun j u q z hj hq=> ?_⟩
  rw[hT]at hj
  by_cases e:j=i
  · subst e
    rw[Qr]at hj
    cases hj
    dsimp only at hq
    by_cases e2:q=k
    · subst e2; exact d j t q y ht hx
    · rw[Qw e2]at hq; exact d j t q z ht hq
  · rw[Qw e]at hj; exact d j u q z hj hq
theorem TouR.sz {L L1:LvD} {V V1:VS} {id:Int} {t t1:TrD} {k:KD} {x1:LfD} {c:Nat} (hT:TouR L V id t k L1 V1 t1 x1) (ht:L.tr id=some t) (h:SzLe L c):SzLe L1 (c+1):= by
  rcases hT with⟨_,rfl,_,_⟩ | ⟨_,a,_,rfl,rfl,_⟩
  · exact h.mono (by omega)
  · exact h.put (x:=x1) ht U U
structure StepI (m:Nat) (L:LvD) (V:VS) (m' d e:Nat) (L':LvD) (V':VS):Prop where
  inv:LvI m' L' V'
  sp:L'.sp=L.sp
  al: ∀c,AliveLe V c→AliveLe V' (c+d)
  sz: ∀c,SzLe L c→SzLe L' (c+e)
theorem StepI.refl {m:Nat} {L:LvD} {V:VS} {d e:Nat} (h:LvI m L V):StepI m L V m d e L V:=⟨h,rfl, fun _ q=>q.mono (by omega), fun _ q=>q.mono (by omega)⟩
theorem StepI.trans {m m1 m2:Nat} {L L1 L2:LvD} {V V1 V2:VS} {d d1 e e1:Nat} (h:StepI m L V m1 d e L1 V1) (h':StepI m1 L1 V1 m2 d1 e1 L2 V2):StepI m L V m2 (d+d1) (e+e1) L2 V2:=
  ⟨h'.inv,h'.sp.trans h.sp, fun c q=>(h'.al _ (h.al c q)).mono (by omega), fun c q=>(h'.sz _ (h.sz c q)).mono (by omega)⟩
theorem StepI.up {m m1:Nat} {L L1:LvD} {V V1:VS} {d d1 e e1:Nat} (h:StepI m L V m1 d e L1 V1) (h1:d≤d1) (h2:e≤e1):StepI m L V m1 d1 e1 L1 V1:=
  ⟨h.inv,h.sp, fun c q=>(h.al c q).mono (by omega), fun c q=>(h.sz c q).mono (by omega)⟩
def Cd (V:VS) (Fr:Nat):Prop:= ∀c,AliveLe V c→Fr≤c+1
section
variable {L L1 L':LvD} {V V1 V':VS} {id:Int} {t t1 t':TrD} {k:KD} {x x1 x':LfD} {m Fr:Nat} {s e a r:Int} {pg:Bs} {b:UInt8}
theorem OwnP.sz {c:Nat} (h:OwnP L V k Fr L' V' s e) (hc:SzLe L c):SzLe L' (c+1):= by
  rcases h with⟨_,_,_,_,rfl,_⟩ | ⟨_,_,_,rfl,_⟩ | ⟨_,h2,_,_,_,rfl⟩
  · exact hc.mono (by omega)
  · exact hc.mono (by omega)
  · refine hc.add 0 k (fun q hq=> ?_) fun j u q y hj hq=> .inl ⟨u,y,hj,hq⟩
    by_cases e:q=k
    · right; rw[e]
    · simp only[We,if_neg e]at hq; exact .inl hq
theorem OwnT.sz {c:Nat} (h:OwnT L V id t k x Fr L' V' s e) (ht:L.tr id=some t) (hx:t.lv k=some x) (hc:SzLe L c):SzLe L' c:= by
  rcases h with⟨_,_,_,_,rfl,_⟩ | ⟨_,_,_,rfl,_⟩ | ⟨_,h2,_,_,_,rfl⟩
  · exact hc
  · exact hc
  · exact hc.putOld (x:={x with own:=s}) ht hx U U
theorem Es (he:QE L' V'=QE L V) (ht:L.tr id=some t) (hx:t.lv k=some x) (ht':L'.tr id=some t') (hx':t'.lv k=some x'):Wk V' x'=Wk V x:= by
  have h1:=Z1 (V:=V') ht'
  rw[he,Z1 ht]at h1
  have h2:Zq V t=Zq V' t':= by simpa using h1
  have h3:=Z0 (V:=V') hx'
  rw[←h2,Z0 hx]at h3
  simpa using h3.symm
theorem Fp (hI:LvI m L V) (h0:Z2 V s=1) (hs:V s=some (r,pg)) (hp:Xm L (.inr (id,k,true))=s) (ht:L.tr id=some t) (hx:t.lv k=some x) (ha:0≤a∧a<64):
    LvI m (ZX L id t k {x with wr:=x.wr ||| (1#64<<<a.toNat)}) (QK V s (some (r,pg.set a.toNat b)))∧
    QE (ZX L id t k {x with wr:=x.wr ||| (1#64<<<a.toNat)}) (QK V s (some (r,pg.set a.toNat b)))=Wo (QE L V) id k {Wk V x with own:=(Wk V x).own.set a.toNat b,wr:=x.wr ||| (1#64<<<a.toNat)}:= by
  obtain⟨a1,a2,a3⟩:=Fq (a:=a) (b:=b) hI.ref hs h0 hp
  generalize hL':ZX L id t k {x with wr:=x.wr ||| (1#64<<<a.toNat)}=L'
  have hP:L'.pres=L.pres:= by subst hL';rfl
  have hT:L'.tr=QK L.tr id (some {t with lv:=QK t.lv k (some {x with wr:=x.wr ||| (1#64<<<a.toNat)})}):= by subst hL';rfl
  have hf: ∀q,Xm L' q=Xm L q:= fun q=> by
    rw[Hr (x:={x with wr:=x.wr ||| (1#64<<<a.toNat)}) hP hT ht U]
    dsimp only
    rw[Ue (f:=Xm L) (v:=x.base) (by rw[X6 ht hx];rfl),Ue (by rw[X6 ht hx];rfl)]
  have e1:QE L' (QK V s (some (r,pg.set a.toNat b)))=Wo (QE L V) id k {Wk V x with own:=(Wk V x).own.set a.toNat b,wr:=x.wr ||| (1#64<<<a.toNat)}:= by
    rw[YQ (x:={x with wr:=x.wr ||| (1#64<<<a.toNat)}) hP hT ht U fun p _ h2=>a2 p h2]
    congr 1
    have h3:=a2 (.inr (id,k,false)) (by simp)
    rw[X6 ht hx]at h3 a3
    simp at h3 a3
    simp only[Wk,h3,a3]
  refine⟨⟨a1.fn hf, by rw[hT]; exact hI.rank.same (Jw ht U), ?_⟩,e1⟩
  rw[e1]
  refine hI.agree.put fun j hj hw=> ?_
  have h4:=hI.agree id _ k _ (Z1 ht) (Z0 hx) j hj
  dsimp only at hw⊢
  rw[BitVec.getLsbD_or,Bool.or_eq_false_iff]at hw
  rw[h4 hw.1]
  have h5:a.toNat≠j:= fun q=> by
    have :=hw.2
    rw[q,BitVec.getLsbD_shiftLeft]at this
    simp [hj]at this
  rw[List.getElem?_set_ne h5]
end
def G4 (A:LvA) (id:Int):Bool:=decide (id=0) || (A.tr id).isSome
theorem P9 {L:LvD} {V:VS} {id:Int}:G4 (QE L V) id=J5 L id:= by simp [G4,J5,QE]
theorem Ra {A:LvA} {id:Int} {k:KD} {x y:LfA}:Wo (Wo A id k x) id k y=Wo A id k y:= by
  cases h:A.tr id with
  | none=>unfold Wo; simp [h]
  | some t=>
    rw[ZS h,ZS (t:={t with lv:=QK t.lv k (some x)}) Qr,ZS h]
    simp only[J3]
section
variable {L L1 L2 L':LvD} {V V1 V2 V':VS} {id:Int} {t t1 t2:TrD} {k:KD} {x1 x2:LfD} {m Fr:Nat} {s e a r:Int} {pg:Bs} {b:UInt8} {p:Pl}
theorem OwnI.tight_own (h:OwnI L V p m Fr L' V' s e) (he:e≠0):Cd V Fr:= by
  rcases h.2.2.2.2 with⟨_,_,hg⟩ | ⟨h0,_⟩
  · exact fun c q=> by have :=Hf q hg;omega
  · exact absurd h0 he
theorem OwnI.tight_set (h:OwnI L V p m Fr L' V' s e) (he:e=0) (ha:0≤a∧a<64) (hb:V' s=none∨1<Z2 V' s∨a<0∨64≤a∨Yz V' Fr):Cd V Fr:= by
  rcases h.2.2.2.2 with⟨h1,_,hg⟩ | ⟨h0,h1,h2,h3⟩
  · omega
  · rcases hb with hb | hb | hb | hb | hb
    · rw[HJ hb]at h2;omega
    · omega
    · omega
    · omega
    · exact fun c q=> by have :=Hf (h.2.2.1 c q) hb;omega
theorem OwnP.step (hO:OwnP L V k Fr L' V' s e) (hI:LvI m L V):StepI m L V m 1 1 L' V':= by
  refine⟨(hO.inv hI).1.1, ?_,(hO.inv hI).1.2.2.1, fun c q=>hO.sz q⟩
  rcases hO with⟨_,_,_,_,rfl,_⟩ | ⟨_,_,_,rfl,_⟩ | ⟨_,_,_,_,_,rfl⟩<;>rfl
theorem MN (hT:TouR L V id t k L1 V1 t1 x1) (ht:L.tr id=some t) (hI:LvI m L V) (hO:OwnT L1 V1 id t1 k x1 Fr L2 V2 s e):
    StepI m L V m 1 1 L2 V2∧OwnI L1 V1 (.inr (id,k,true)) m Fr L2 V2 s e∧QE L2 V2=Wo (QE L V) id k (ZH (QE L V) id k)∧(Cd V1 Fr→Cd V Fr):= by
  obtain⟨h1,h2,h3,h4,h5⟩:=hT.inv ht hI
  have h6:=(hO.inv (hT.tr ht) hT.lv h1).1
  exact⟨⟨h6.1,hO.sp.trans hT.sp, fun c q=>h6.2.2.1 c (h4 c q), fun c q=>hO.sz (hT.tr ht) hT.lv (hT.sz ht q)⟩,h6,h6.2.1.trans h3, fun q c hc=>q c (h4 c hc)⟩
def wrX (x:LfA) (a:Int) (b:UInt8):LfA:={x with own:=x.own.set a.toNat b,wr:=x.wr ||| (1#64<<<a.toNat)}
theorem Ft (hT:TouR L V id t k L1 V1 t1 x1) (ht:L.tr id=some t) (hI:LvI m L V) (hO:OwnT L1 V1 id t1 k x1 Fr L2 V2 s 0) (ht2:L2.tr id=some t2) (hx2:t2.lv k=some x2) (hs:V2 s=some (r,pg)) (ha:0≤a∧a<64):
    StepI m L V m 1 1 (ZX L2 id t2 k {x2 with wr:=x2.wr ||| (1#64<<<a.toNat)}) (QK V2 s (some (r,pg.set a.toNat b)))∧
    QE (ZX L2 id t2 k {x2 with wr:=x2.wr ||| (1#64<<<a.toNat)}) (QK V2 s (some (r,pg.set a.toNat b)))=Wo (QE L V) id k (wrX (ZH (QE L V) id k) a b):= by
  obtain⟨h1,h2,h3,h4⟩:=MN hT ht hI hO
  obtain⟨g1,g2,g3,g4,g5⟩:=hT.inv ht hI
  obtain⟨c1,c2,c3⟩:s≠0∧Z2 V2 s=1∧Xm L2 (.inr (id,k,true))=s:= by
    rcases h2.2.2.2.2 with⟨q,_⟩ | ⟨_,q⟩
    · omega
    · exact q
  obtain⟨d1,d2⟩:=Fp (b:=b) h2.1 c2 hs c3 ht2 hx2 ha
  have d3:Wk V2 x2=ZH (QE L V) id k:=(Es h2.2.1 (hT.tr ht) hT.lv ht2 hx2).trans g2
  have d4:x2.wr=(ZH (QE L V) id k).wr:= by rw[←d3];rfl
  refine⟨⟨d1,h1.sp, fun c q=>(h1.al c q).sub fun j hj=> ?_, fun c q=>(h1.sz c q).putOld ht2 hx2 U U⟩, ?_⟩
  · by_cases e:j=s
    · subst e; rw[hs]; simp
    · rwa [Qw e]at hj
  · rw[d2,h3,Ra,d3,d4];rfl
end
theorem Fj {w:World} {m:Nat} {b n Fr:Nat} {L:LvD} {V:VS} {F:Th} (hS:Sat w [Je b L,ZR L.sp n Fr V,F]) (hn:n≤60000000000) (ob:Bs) (a:Int) (bt:UInt8) (hI:LvI m L V) (hm:m<Wx) {id:Int} {t:TrD} (ht:L.tr id=some t) (hr:0≤a∧a<16384):
    Calls prog 39 #[ptrV b 0,intV id,strV ob,intV a,Yk bt] w (Ret fun v w'=> ∃L' V' e,v=intV e∧StepI m L V m 1 1 L' V'∧((e=0∧QE L' V'=Wo (QE L V) id (ob,a/ 64) (wrX (ZH (QE L V) id (ob,a/ 64)) (a%64) bt))∨(e≠0∧QE L' V'=Wo (QE L V) id (ob,a/ 64) (ZH (QE L V) id (ob,a/ 64))∧Cd V Fr))∧Sat w' [Je b L',ZR L'.sp (n+5) Fr V',F]):= by
 have h0:id≠0:=hI.rank.none0 ht
 refine Qm func39 U ntmps39 U ?_
 refine Qe (Qa (Qd U U (Qf (Qc (Qe (Qa (Qb U U (Qb U U (Qy LT U (MV (hS.sp [] U) ob a) U ?_)))))))))
 rintro _ w1 ⟨rfl,j1⟩
 replace j1:=j1.jn U U
 rw[Dd hr]
 refine Qb U U (Qp U U U (Qp U U U (Qp U U U (Xb j1 WA U U ?_))))
 intro kb w2 j2
 refine QF j2 U U QZ U (by first | rfl | (simp [QU,Value.oneCell'];done)) (i:=0) U (by first | decide | exact Q5 U) ?_
 intro w3 j3; dsimp only[List.set]at j3
 replace j3:=Zw (k:=(ob,a/ 64)) j3
 refine Qd U U (Qd U U (Qf (Qc (Qh [4,3,1,0,10,11,12,13] U (Qe (Qz (Qe (Qa (Qb U U (Qb U U (Qy Nf U (G3 (j3.sp [1] U) id) U ?_)))))))))))
 rintro _ w4 ⟨rfl,j4⟩
 replace j4:=j4.jn U U
 refine QV U U (Qd U U (Qf (Qc (Qh [4,3,1,0,10,11,12,13,24] U (QP U (fun h5=> ?_) (fun h5=> ?_))))))
 ·exact absurd h5 (by simp [J5,ht])
 refine Qe (Qa (Qb U U (QV U U (Qd U U (Qf (Qc (Qh [4,3,1,0,10,11,12,29] U (QP U (fun h6=> ?_) (fun h6=> ?_)))))))))
 ·exact absurd h6 (by decide)
 refine Qt (Qo (Qc (Qe (Qa (Qb U U (Qb U U ?_))))))
 refine Wq U Xt QZ (by first | exact j4.blk 1 U) (by first | decide | exact Q5 U | (simp;done) | omega) U U ?_
 refine Qy cal_77 U (ownT_sp (j4.sp [0,2] U) (by omega) (hI.rank.ends hm) ht (k:=(ob,a/ 64)) h0 (hI.aliveS id (ob,a/ 64))) U ?_
 rintro _ w7 ⟨L1,V1,t1,x1,L2,V2,s,e,rfl,hT,hO,j7⟩
 replace j7:=j7.jn U U
 have hW:=MN hT ht hI hO
 refine Qb U U (Qp U U U (Qp U U U (Qd U U (Qd U U (Qf (Qc (Qh [4,3,1,0,10,11,12,14,15] U (Qe (Qe (Qa (Qb U U (Xn U U U (Qf (Qc (Qu U (fun h8=> ?_) (fun h8=> ?_))))))))))))))))
 ·have he:e≠0:=h8
  exact Qe (Qa (Qb U U (Qd U U (Qf (Qc (Qh [4,3,1,0,11,12,14,10] U (Qv (Qq (QM (.inr U) U U (⟨_,rfl,L2,V2,e,rfl,hW.1,.inr ⟨he,hW.2.2.1,hW.2.2.2 (hW.2.1.tight_own he)⟩,(XC (m:=n+5) (by omega) (j7.pick [1,0,3] U)).reorder [1,0,2] U⟩))))))))))
 have he:e=0:=Decidable.not_not.1 h8
 refine Qt (Qc (Qh [4,3,1,0,10,11,12,14] U (Qe (Qe (Qa (Qb U U (Qi U U (Qg U Zo U (Qn U Xy (CI j7 0 U) U (Qb U U (Qb U U (wl_rem U U (by omega) (by omega) U ?_))))))))))))
 refine Qb U U (Xv cal_78 U (stSet (j7.sp [1] U) (by omega) s (a%64) bt) U ?_)
 rintro e w9 ⟨_,rfl,(⟨e2,rfl,he2,hbad,j9⟩ | ⟨r,pg,hs,rfl,ha,j9⟩)⟩
 ·refine⟨_,U, ?_⟩
  replace j9:=j9.jn U U
  refine Qd U U (Qf (Qc (Qh [1,0,10,11,12,16] U (Qe (Qa (Qb U U (Xn U U U (Qf (Qc (Qu U (fun h10=> ?_) (fun h10=> ?_)))))))))))
  ·exact Qe (Qa (Qb U U (Qd U U (Qf (Qc (Qv (Qq (QM (.inr U) U U (⟨_,rfl,L2,V2,e2,rfl,hW.1,.inr ⟨he2,hW.2.2.1,hW.2.2.2 (hW.2.1.tight_set he (by omega) hbad)⟩,(XC (m:=n+5) (by omega) (j9.pick [0,1,3] U)).reorder [1,0,2] U⟩)))))))))
  exact absurd (Decidable.not_not.1 h10) he2
 refine⟨_,U, ?_⟩
 replace j9:=j9.jn U U
 refine Qd U U (Qf (Qc (Qh [1,0,10,11,12,16] U (Qe (Qa (Qb U U (Xn U U U (Qf (Qc (Qu U (fun h11=> ?_) (fun h11=> ?_)))))))))))
 ·exact absurd U h11
 refine Qt (Qc (Qe (Qe (Qa (Qb U U (Xn U U U (Qf (Qc (Qu U (fun h12=> ?_) (fun h12=> ?_))))))))))
 ·obtain⟨t2,x2,ht2,hx2,_⟩:=hO.leaf (hT.tr ht) hT.lv
  have j13:=YX ht2 hx2 (j9.pick [1,0,2,3] U)
  have j14:=j13.drew
  refine Q6 [0,1,2,3,4,5,6,7,8,9,10,11,12,13,14,15,16,17,18] [18] ZF (by kernel_rfl) ?_
  refine Q9 U U U (QQ U U U (QI U U U Wh (Q1 U U U (Ql U JM (by first | assumption | exact j14.cell 0 U U | exact j14.cell 2 U U | exact j14.cell 6 U U | exact j14.cell 11 U U)) ?_)))
  refine Q9 U U U (Q1 U U U (Xj (k:=id) 8 j14 keysInt underlying106 U U U Y9 (u:=ptrV t2.ad 0) (XR ht2)) (QQ U U U (QI U U U ZC (Q1 U U U (Ql U W6 (by first | assumption | exact j14.cell 0 U U | exact j14.cell 2 U U | exact j14.cell 6 U U | exact j14.cell 11 U U)) ?_))))
  refine Q1 U U U (Xp U Xt QZ (by first | exact j14.blk 0 U | exact j14.blk 2 U | exact j14.blk 6 U | exact j14.blk 11 U) (by first | decide | exact Q5 U | (simp;done) | omega) U) ?_
  refine Q1 U U U (Xj (k:=(ob,a/ 64)) 3 j14 keysKey underlying110 U U U Yf (u:=ptrV x2.ad 0) (XR hx2)) (QQ U U U (QI U U U Wg (Q1 U U U (Ql U Jx (by first | assumption | exact j14.cell 0 U U | exact j14.cell 2 U U | exact j14.cell 6 U U | exact j14.cell 11 U U)) ?_)))
  refine Q9 U U U (X9 U U U (fun _=>(Mb U U)) ?_)
  refine QQ U U U (QI U U U Wg (Xa U U U U U U ?_))
  refine Qx j14 U U G6 U (i:=0) U (by first | decide | exact Q5 U | (simp;done)) ?_
  intro w15 j15; dsimp only[List.set]at j15
  refine XS (Xf (by kernel_rfl)) ?_
  refine VC.nil (Qc (Qh [10] U (Qe (Qa (Qd U U (Qf (Qc (Qv (QM (.inr U) U U ?_)))))))))
  have j16:=Jq (L:=_) (y:={x2 with wr:=x2.wr ||| (1#64<<<(a%64).toNat)}) ht2 hx2 U (j15.pick [0,1,2,3,4,5,6,7,8,9,10,11,12] U)
  subst he
  have hfin:=Ft (b:=bt) hT ht hI hO ht2 hx2 hs (by omega:0≤a%64∧a%64<64)
  exact⟨_,rfl,_,_,0,rfl,hfin.1,.inl ⟨rfl,hfin.2⟩,(XC (m:=n+5) (by omega) (j16.pick [1,0,3] U)).reorder [1,0,2] U⟩
 exact absurd (Decidable.not_not.1 h12) h0
