/- leaves: references, plain -/
import Derived.Test.YtkcjfoaejijdoaaGreatDoorLv3
set_option linter.unusedVariables false
namespace Go.Proofs.YtkcjfoaejijdoaaGreatDoor
open Go.RowKit M
set_option linter.unusedSectionVars false
variable [Inhabited SlW]
open Classical in
noncomputable def Vn {κ α:Type} (f:κ→α) (k:κ) (v:α):κ→α:= fun j=> if j=k then v else f j
theorem XG {κ α:Type} {f:κ→α} {k:κ} {v:α}:Vn f k v k=v:= by unfold Vn; rw[if_pos rfl]
theorem Zb {κ α:Type} {f:κ→α} {k j:κ} {v:α} (h:j≠k):Vn f k v j=f j:= by unfold Vn; rw[if_neg h]
def Sm {κ:Type} (f:κ→Int) (s:Int) (n:Nat):Prop:= ∃l:List κ,l.Nodup∧(∀p,p∈l↔f p=s)∧l.length=n
section
variable {κ:Type} {f g:κ→Int} {s v:Int} {n m:Nat} {p:κ}
theorem U5 (h: ∀p,g p=s↔f p=s) (hc:Sm f s n):Sm g s n:= by
  obtain⟨l,a,b,c⟩:=hc
  exact⟨l,a, fun p=>(b p).trans (h p).symm,c⟩
theorem Ll (h:Sm f s n) (h':Sm f s m):n=m:= by
  obtain⟨l,a,b,rfl⟩:=h
  obtain⟨l',a',b',rfl⟩:=h'
  exact((List.perm_ext_iff_of_nodup a a').2 fun k=>(b k).trans (b' k).symm).length_eq
theorem qal (hp:f p≠s) (h:Sm f s n):Sm (Vn f p s) s (n+1):= by
  obtain⟨l,a,b,c⟩:=h
  refine⟨p::l,List.nodup_cons.2 ⟨fun q=>hp ((b p).1 q),a⟩, fun q=> ?_, by simp [c]⟩
  by_cases e:q=p
  · subst e; rw[XG]; simp
  · rw[Zb e,List.mem_cons,b q]; simp [e]
theorem CR (hp:f p=s) (hv:v≠s) (h:Sm f s n): ∃m,n=m+1∧Sm (Vn f p v) s m:= by
  obtain⟨l,a,b,c⟩:=h
  obtain⟨x,y,rfl⟩:=List.append_of_mem ((b p).2 hp)
  have ha:(x++y).Nodup∧p∉x++y:= by
    have :=(List.perm_middle (l₁:=x) (a:=p) (l₂:=y)).nodup_iff.1 a
    rw[List.nodup_cons]at this
    exact⟨this.2,this.1⟩
  refine⟨(x++y).length, by rw[←c]; simp;omega,x++y,ha.1, fun q=> ?_,rfl⟩
  by_cases e:q=p
  · subst e; rw[XG]; exact⟨fun h=>absurd h ha.2, fun h=>absurd h hv⟩
  · rw[Zb e,←b q]; simp [e]
theorem Dj (h:Sm f s n) (hp:f p=s):1≤n:= by
  obtain⟨l,a,b,rfl⟩:=h
  exact List.length_pos_of_mem ((b p).2 hp)
theorem cnt_one (h:Sm f s 1) (hp:f p=s): ∀q,f q=s→q=p:= by
  obtain⟨l,a,b,c⟩:=h
  obtain⟨x,rfl⟩:=List.length_eq_one_iff.1 c
  intro q hq
  have h1:=(b p).2 hp
  have h2:=(b q).2 hq
  simp at h1 h2
  rw[h1,h2]
end
def dl (s:Int):Int→Int:= fun j=> if j=s then 1 else 0
theorem Ww {s:Int}:dl s s=1:= by unfold dl; rw[if_pos rfl]
theorem Ju {s j:Int} (h:j≠s):dl s j=0:= by unfold dl; rw[if_neg h]
def RefI {κ:Type} (f:κ→Int) (V:VS) (ex:Int→Int):Prop:=(∀s,s≠0→ ∃n:Nat,Sm f s n∧Zz V s=n+ex s)∧ ∀s x,V s=some x→1≤x.1∧1≤s∧x.2.length=64
section
variable {κ:Type} {f g:κ→Int} {V:VS} {ex ex':Int→Int} {s:Int} {p:κ}
theorem RefI.zero (h:RefI f V ex):V 0=none:= by
  cases q:V 0 with
  | none=>rfl
  | some x=> have :=(h.2 0 x q).2.1;omega
theorem RefI.ext (h:RefI f V ex) (he: ∀j,j≠0→ex' j=ex j):RefI f V ex':=⟨fun s hs=> by obtain⟨n,a,b⟩:=h.1 s hs; exact⟨n,a, by rw[he s hs]; exact b⟩,h.2⟩
theorem RefI.fn (h:RefI f V ex) (he: ∀p,g p=f p):RefI g V ex:= by
  have :g=f:=funext he
  rw[this]; exact h
theorem UM (h:V s=none):Zz V s=0:= by unfold Zz; rw[h]
theorem WX {x:Int×Bs} (h:V s=some x):Zz V s=x.1:= by unfold Zz; rw[h]
theorem RefI.alive_of (h:RefI f V ex) (hr:1≤Zz V s):V s≠none:= fun q=> by rw[UM q]at hr;omega
theorem RefI.aliveN (h:RefI f V ex) (hp:f p=s) (he:s≠0→0≤ex s):XP V s:= by
  by_cases h0:s=0
  · exact .inl h0
  · obtain⟨n,a,b⟩:=h.1 s h0
    have :=Dj a hp
    have :=he h0
    exact .inr (h.alive_of (by omega))
theorem RefI.alive (h:RefI f V ex) (hp:f p=s) (he:0≤ex s):XP V s:=h.aliveN hp fun _=>he
theorem RefI.ref (h:RefI f V ex) (ha:XP V s):RefI f (refW V s) (fun j=>ex j+dl s j):= by
  by_cases h0:s=0
  · have e:refW V s=V:= by unfold refW; rw[if_pos h0]
    rw[e]
    exact h.ext fun j hj=> by rw[Ju (by omega)];omega
  have e:refW V s=H3 V s:= by unfold refW; rw[if_neg h0]
  rw[e]
  cases q:V s with
  | none => rcases ha with ha | ha
            · exact absurd ha h0
            · exact absurd q ha
  | some x=>
    have e2:H3 V s=Xz V s (some (x.1+1,x.2)):= by unfold H3; rw[q]
    rw[e2]
    refine⟨fun j hj=> ?_, fun j y hy=> ?_⟩
    · obtain⟨n,a,b⟩:=h.1 j hj
      refine⟨n,a, ?_⟩; dsimp only
      by_cases e3:j=s
      · subst e3
        rw[WX Q1,Ww]
        rw[WX q]at b
        dsimp only;omega
      · have :Zz (Xz V s (some (x.1+1,x.2))) j=Zz V j:= by unfold Zz; rw[QI e3]
        rw[this,Ju e3];omega
    · by_cases e3:j=s
      · subst e3
        rw[Q1]at hy
        cases hy
        obtain⟨a,b,c⟩:=h.2 j x q
        exact⟨by dsimp only;omega,b,c⟩
      · rw[QI e3]at hy; exact h.2 j y hy
theorem Kb (h:V s=none):Z2 V s=V:= by unfold Z2; rw[h]
theorem Hp {x:Int×Bs} (h:V s=some x):Z2 V s= if 1<x.1 then Xz V s (some (x.1 -1,x.2))else Xz V s none:= by unfold Z2; rw[h]
theorem RefI.unr (h:RefI f V ex) (ha:XP V s):RefI f (Z2 V s) (fun j=>ex j -dl s j):= by
  cases q:V s with
  | none=>
    rcases ha with ha | ha
    · rw[Kb q]
      exact h.ext fun j hj=> by rw[Ju (by omega)];omega
    · exact absurd q ha
  | some x=>
    have hx:=h.2 s x q
    refine⟨fun j hj=> ?_, fun j y hy=> ?_⟩
    · obtain⟨n,a,b⟩:=h.1 j hj
      refine⟨n,a, ?_⟩; dsimp only
      rw[Hp q]
      by_cases e3:j=s
      · subst e3
        rw[Ww]
        rw[WX q]at b
        split
        · rw[WX Q1]; dsimp only;omega
        · rw[UM Q1];omega
      · rw[Ju e3]
        have : ∀o,Zz (Xz V s o) j=Zz V j:= fun o=> by unfold Zz; rw[QI e3]
        split<;>(rw[this];omega)
    · rw[Hp q]at hy
      by_cases e3:j=s
      · subst e3
        split at hy
        · rw[Q1]at hy
          cases hy
          exact⟨by dsimp only;omega,hx.2⟩
        · rw[Q1]at hy; cases hy
      · split at hy<;>(rw[QI e3]at hy; exact h.2 j y hy)
theorem RefI.put (h:RefI f V ex) (p:κ) (v:Int):RefI (Vn f p v) V (fun j=>ex j+dl (f p) j -dl v j):= by
  refine⟨fun j hj=> ?_,h.2⟩
  obtain⟨n,a,b⟩:=h.1 j hj
  by_cases e1:f p=j
  · by_cases e2:v=j
    · refine⟨n,U5 (fun q=> ?_) a, ?_⟩
      · by_cases e:q=p
        · subst e; rw[XG,e1,e2]
        · rw[Zb e]
      · dsimp only; rw[e1,e2,Ww];omega
    · obtain⟨m,rfl,c⟩:=CR e1 e2 a
      refine⟨m,c, ?_⟩; dsimp only
      rw[e1,Ww,Ju (fun q=>e2 q.symm)];omega
  · by_cases e2:v=j
    · subst e2
      refine⟨n+1,qal e1 a, ?_⟩; dsimp only
      rw[Ww,Ju (fun q=>e1 q.symm)];omega
    · refine⟨n,U5 (fun q=> ?_) a, ?_⟩
      · by_cases e:q=p
        · subst e; rw[XG]; exact⟨fun q=>absurd q e2, fun q=>absurd q e1⟩
        · rw[Zb e]
      · dsimp only; rw[Ju (fun q=>e1 q.symm),Ju (fun q=>e2 q.symm)];omega
theorem RefI.fresh (h:RefI f V ex) {pg:Bs} (hn:V s=none) (h1:1≤s) (hl:pg.length=64):RefI f (Xz V s (some (1,pg))) (fun j=>ex j+dl s j):= by
  refine⟨fun j hj=> ?_, fun j y hy=> ?_⟩
  · obtain⟨n,a,b⟩:=h.1 j hj
    refine⟨n,a, ?_⟩; dsimp only
    by_cases e:j=s
    · subst e
      rw[WX Q1,Ww]
      rw[UM hn]at b
      dsimp only;omega
    · have :Zz (Xz V s (some (1,pg))) j=Zz V j:= by unfold Zz; rw[QI e]
      rw[this,Ju e];omega
  · by_cases e:j=s
    · subst e
      rw[Q1]at hy
      cases hy
      exact⟨by dsimp only;omega,h1,hl⟩
    · rw[QI e]at hy; exact h.2 j y hy
theorem RefI.setc (h:RefI f V ex) {pg pg':Bs} {r:Int} (hn:V s=some (r,pg)) (hl:pg'.length=64):RefI f (Xz V s (some (r,pg'))) ex:= by
  refine⟨fun j hj=> ?_, fun j y hy=> ?_⟩
  · obtain⟨n,a,b⟩:=h.1 j hj
    refine⟨n,a, ?_⟩
    by_cases e:j=s
    · subst e
      rw[WX Q1]
      rw[WX hn]at b
      exact b
    · have :Zz (Xz V s (some (r,pg'))) j=Zz V j:= by unfold Zz; rw[QI e]
      rw[this]; exact b
  · by_cases e:j=s
    · subst e
      rw[Q1]at hy
      cases hy
      have :=h.2 j _ hn
      exact⟨this.1,this.2.1,hl⟩
    · rw[QI e]at hy; exact h.2 j y hy
theorem RefI.none_held (h:RefI f V ex) (hn:V s=none) (h0:s≠0) (he:0≤ex s):f p≠s:= fun q=> by
  rcases h.alive q he with h1 | h1
  · exact h0 h1
  · exact h1 hn
theorem RefI.excl (h:RefI f V ex) (hr:Zz V s=1) (he:ex s=0) (h0:s≠0) (hp:f p=s): ∀q,f q=s→q=p:= by
  obtain⟨n,a,b⟩:=h.1 s h0
  have :n=1:= by omega
  subst this
  exact cnt_one a hp
end
section
variable {V:VS} {s j:Int}
theorem JV {x:Int×Bs} (h:V j=some x):XT V j=x.2:= by unfold XT; rw[h]
theorem Wr (h:V 0=none):XT V 0=zer:= by unfold XT; rw[h];rfl
theorem OK {V':VS} (h:V' j=V j):XT V' j=XT V j:= by unfold XT; rw[h]
theorem Km {o:Option (Int×Bs)} (h:j≠s):XT (Xz V s o) j=XT V j:=OK (QI h)
theorem pg_refV:XT (H3 V s) j=XT V j:= by
  unfold H3
  cases q:V s with
  | none=>rfl
  | some x=>
    dsimp only
    by_cases e:j=s
    · subst e; rw[JV Q1,JV q]
    · exact Km e
theorem Yq:XT (refW V s) j=XT V j:= by unfold refW;split;rfl; exact pg_refV
theorem Md (h0:V 0=none) (h:XP (Z2 V s) j):XT (Z2 V s) j=XT V j:= by
  cases q:V s with
  | none=> rw[Kb q]
  | some x=>
    by_cases e:j=s
    · subst e
      rw[Hp q]at h⊢
      split
      · rw[JV Q1,JV q]
      · rename_i hx
        rw[if_neg hx]at h
        rcases h with h | h
        · subst h; rw[h0]at q; cases q
        · exact absurd Q1 h
    · rw[Hp q];split<;> exact Km e
theorem Tw (h:Z2 V s j≠none):V j≠none:= by
  cases q:V s with
  | none=>rwa [Kb q]at h
  | some x=>
    by_cases e:j=s
    · subst e; rw[q]; simp
    · rw[Hp q]at h
      split at h<;>rwa [QI e]at h
def AliveLe (V:VS) (n:Nat):Prop:= ∃l:List Int,l.length≤n∧ ∀j,V j≠none→j∈l
theorem AliveLe.sub {V':VS} {n:Nat} (h:AliveLe V n) (hs: ∀j,V' j≠none→V j≠none):AliveLe V' n:= by
  obtain⟨l,a,b⟩:=h
  exact⟨l,a, fun j hj=>b j (hs j hj)⟩
theorem AliveLe.mono {n m:Nat} (h:AliveLe V n) (hm:n≤m):AliveLe V m:= by
  obtain⟨l,a,b⟩:=h
  exact⟨l, by omega,b⟩
theorem AliveLe.refW {n:Nat} (h:AliveLe V n):AliveLe (refW V s) n:=h.sub fun j=>Ya.1
theorem AliveLe.unr {n:Nat} (h:AliveLe V n):AliveLe (Z2 V s) n:=h.sub fun j=>Tw
theorem AliveLe.put {n:Nat} {o:Option (Int×Bs)} (h:AliveLe V n):AliveLe (Xz V s o) (n+1):= by
  obtain⟨l,a,b⟩:=h
  refine⟨s::l, by simp;omega, fun j hj=> ?_⟩
  by_cases e:j=s
  · simp [e]
  · rw[QI e]at hj; exact List.mem_cons_of_mem _ (b j hj)
theorem W7 {α:Type}: ∀{a b:List α},a.Nodup→(∀x∈a,x∈b)→a.length≤b.length
  | [],_,_,_=> by simp
  | x::a,b,h,hs=> by
    rw[List.nodup_cons]at h
    obtain⟨u,v,rfl⟩:=List.append_of_mem (hs x (by simp))
    have :=W7 (a:=a) (b:=u++v) h.2 fun y hy=> by
      have h1:=hs y (List.mem_cons_of_mem _ hy)
      have h2:y≠x:= fun q=>h.1 (q▸hy)
      simpa [h2]using h1
    simp at this⊢;omega
theorem HY {n m:Nat} (h:AliveLe V n) (h':Ho V m):m≤n:= by
  obtain⟨l,a,b⟩:=h
  obtain⟨l',rfl,c,d⟩:=h'
  have :=W7 c fun j hj=>b j (d j hj)
  omega
end
abbrev Pl:=KD⊕(Int×KD×Bool)
def Xw (L:LvD):Pl→Int
  | .inl k=>L.pres k
  | .inr (i,k,o)=> match L.tr i with | none=>0 | some t=> match t.lv k with | none=>0 | some x=> if o=true then x.own else x.base
theorem TP {L L':LvD} {k:KD} {s:Int} (hp:L'.pres=Zy L.pres k s) (ht:L'.tr=L.tr): ∀p,Xw L' p=Vn (Xw L) (.inl k) s p:= fun p=> by
  cases p with
  | inl j=>
    by_cases e:j=k
    · subst e; rw[XG]; simp [Xw,hp,Zy]
    · rw[Zb (by simpa using e)]; simp [Xw,hp,Zy,e]
  | inr q=> rw[Zb (by simp)]; simp [Xw,ht]
theorem Hs {L L':LvD} {i:Int} {t t':TrD} {k:KD} {x:LfD} (hp:L'.pres=L.pres) (hT:L'.tr=Xz L.tr i (some t')) (ht:L.tr i=some t) (hl:t'.lv=Xz t.lv k (some x)):
    ∀p,Xw L' p=Vn (Vn (Xw L) (.inr (i,k,false)) x.base) (.inr (i,k,true)) x.own p:= fun p=> by
  cases p with
  | inl j=> rw[Zb (by simp),Zb (by simp)]; simp [Xw,hp]
  | inr q=>
    obtain⟨i2,k2,o⟩:=q
    by_cases e:i2=i
    · subst e
      by_cases e2:k2=k
      · subst e2
        cases o with
        | true=> rw[XG]; simp [Xw,hT,Q1,hl]
        | false=> rw[Zb (by simp),XG]; simp [Xw,hT,Q1,hl]
      · rw[Zb (by simp [e2]),Zb (by simp [e2])]
        simp only[Xw,hT,Q1,ht,hl]
        rw[QI e2]
    · rw[Zb (by simp [e]),Zb (by simp [e])]
      simp only[Xw,hT]
      rw[QI e]
theorem XB {L:LvD} {i:Int} {t:TrD} {k:KD} {x:LfD} {o:Bool} (ht:L.tr i=some t) (hx:t.lv k=some x):Xw L (.inr (i,k,o))= if o=true then x.own else x.base:= by simp only[Xw,ht,hx]
theorem Ra {L:LvD} {i:Int} {t:TrD} {k:KD} {o:Bool} (ht:L.tr i=some t) (hx:t.lv k=none):Xw L (.inr (i,k,o))=0:= by simp only[Xw,ht,hx]
end Go.Proofs.YtkcjfoaejijdoaaGreatDoor
namespace Go.Proofs.YtkcjfoaejijdoaaGreatDoor
open Go.RowKit M
set_option linter.unusedSectionVars false
variable [Inhabited SlW]
structure LfA where
  base:Bs
  own:Bs
  rd:BitVec 64
  wr:BitVec 64
structure TrA where
  parent:Int
  lv:KD→Option LfA
  dr:Bs→Bool
structure LvA where
  pres:KD→Bs
  tr:Int→Option TrA
def Wy (V:VS) (x:LfD):LfA:=⟨XT V x.base,XT V x.own,x.rd,x.wr⟩
def ZD (V:VS) (t:TrD):TrA:=⟨t.parent, fun k=>(t.lv k).map (Wy V),t.dr⟩
def Q8 (L:LvD) (V:VS):LvA:=⟨fun k=>XT V (L.pres k), fun i=>(L.tr i).map (ZD V)⟩
def J1 (A:LvA):Nat→Int→KD→Bs
  | 0,_,_=>zer
  | n+1,id,k=> if id=0 then A.pres k else match A.tr id with | none=>zer | some t=> match t.lv k with | some x=>x.own | none=> if t.dr k.1=true then zer else J1 A n t.parent k
def ZN (A:LvA) (id:Int) (k:KD):Bs:=J1 A (Zp+1) id k
noncomputable def ZA (A:LvA) (id:Int) (k:KD) (x:LfA):LvA:= match A.tr id with | none=>A | some t=>{A with tr:=Xz A.tr id (some {t with lv:=Xz t.lv k (some x)})}
def Zi (A:LvA) (id:Int) (k:KD):LfA:= match A.tr id with | none=>⟨zer,zer,0#64,0#64⟩ | some t=> match t.lv k with | some x=>x | none=>⟨ZN A id k,ZN A id k,0#64, if t.dr k.1=true then BitVec.allOnes 64 else 0#64⟩
theorem Zv {L:LvD} {V:VS} {i:Int} {t:TrD} (h:L.tr i=some t):(Q8 L V).tr i=some (ZD V t):= by simp [Q8,h]
theorem ZI {V:VS} {t:TrD} {k:KD} {x:LfD} (h:t.lv k=some x):(ZD V t).lv k=some (Wy V x):= by simp [ZD,h]
theorem VV {V:VS} {t:TrD} {k:KD} (h:t.lv k=none):(ZD V t).lv k=none:= by simp [ZD,h]
theorem NT {L:LvD} {V:VS} (h0:V 0=none): ∀n id k,XT V (Jq L n id k)=J1 (Q8 L V) n id k
  | 0,_,_=>Wr h0
  | n+1,id,k=> by
    unfold Jq J1
    split
    · rfl
    · cases ht:L.tr id with
      | none=> rw[show(Q8 L V).tr id=none by simp [Q8,ht]]; exact Wr h0
      | some t=>
        rw[Zv ht]; dsimp only
        cases hx:t.lv k with
        | some x=> rw[ZI hx];rfl
        | none=>
          rw[VV hx]; dsimp only
          show XT V (if t.dr k.1=true then 0 else _)= if t.dr k.1=true then zer else _
          split
          · exact Wr h0
          · exact NT h0 n t.parent k
theorem T7 (L:LvD): ∀n id k,Jq L n id k=0∨ ∃p,Xw L p=Jq L n id k
  | 0,_,_=> .inl rfl
  | n+1,id,k=> by
    unfold Jq
    split
    · exact .inr ⟨.inl k,rfl⟩
    · cases ht:L.tr id with
      | none=> exact .inl rfl
      | some t=>
        dsimp only
        cases hx:t.lv k with
        | some x=> exact .inr ⟨.inr (id,k,true), by rw[XB ht hx];rfl⟩
        | none=>
          dsimp only
          split
          · exact .inl rfl
          · exact T7 L n t.parent k
theorem N1 {V V':VS} {t:TrD} (h: ∀k x,t.lv k=some x→XT V' x.base=XT V x.base∧XT V' x.own=XT V x.own):ZD V' t=ZD V t:= by
  unfold ZD
  congr 1
  funext k
  cases q:t.lv k with
  | none=>rfl
  | some x=> obtain⟨a,b⟩:=h k x q; simp [Wy,a,b]
theorem Vf {L:LvD} {V V':VS} (h: ∀p,XT V' (Xw L p)=XT V (Xw L p)):Q8 L V'=Q8 L V:= by
  unfold Q8
  congr 1
  · funext k; exact h (.inl k)
  · funext i
    cases q:L.tr i with
    | none=>rfl
    | some t=>
      refine congrArg some (N1 fun k x hx=> ?_)
      have h1:=h (.inr (i,k,false))
      have h2:=h (.inr (i,k,true))
      rw[XB q hx]at h1 h2
      exact⟨h1,h2⟩
theorem ZS {A:LvA} {id:Int} {k:KD} {x:LfA} {t:TrA} (h:A.tr id=some t):ZA A id k x={A with tr:=Xz A.tr id (some {t with lv:=Xz t.lv k (some x)})}:= by unfold ZA; rw[h]
theorem TC {A:LvA} {id:Int} {k:KD} {x:LfA} {t:TrA} (h:A.tr id=some t) (hx:t.lv k=some x):ZA A id k x=A:= by
  rw[ZS h,YP hx,YP h]
theorem Kc {A:LvA} {id:Int} {k:KD} {x:LfA} {t:TrA} (h:A.tr id=some t) (hx:t.lv k=some x):Zi A id k=x:= by unfold Zi; rw[h]; dsimp only; rw[hx]
theorem Ty {A:LvA} {id:Int} {k:KD} {t:TrA} (h:A.tr id=some t) (hx:t.lv k=none):Zi A id k=⟨ZN A id k,ZN A id k,0#64, if t.dr k.1=true then BitVec.allOnes 64 else 0#64⟩:= by unfold Zi; rw[h]; dsimp only; rw[hx]
theorem YJ {L L':LvD} {V V':VS} {i:Int} {t t':TrD} {k:KD} {x:LfD} (hp:L'.pres=L.pres) (hT:L'.tr=Xz L.tr i (some t')) (ht:L.tr i=some t) (hl:t'={t with lv:=Xz t.lv k (some x)})
    (h: ∀p,p≠ .inr (i,k,false)→p≠ .inr (i,k,true)→XT V' (Xw L p)=XT V (Xw L p)):Q8 L' V'=ZA (Q8 L V) i k (Wy V' x):= by
  rw[ZS (Zv ht)]
  unfold Q8
  rw[hp,hT]
  congr 1
  · funext j; exact h (.inl j) (by simp) (by simp)
  · funext j
    by_cases e:j=i
    · subst e
      rw[Q1,Q1]
      subst hl
      simp only[Option.map_some]
      congr 1
      unfold ZD
      congr 1
      funext q
      by_cases e2:q=k
      · subst e2; rw[Q1]; show Option.map (Wy V') (Xz t.lv q (some x) q)=_; rw[Q1];rfl
      · rw[QI e2]
        show Option.map (Wy V') (Xz t.lv k (some x) q)=Option.map (Wy V) (t.lv q)
        rw[QI e2]
        cases hq:t.lv q with
        | none=>rfl
        | some y=>
          have h1:=h (.inr (j,q,false)) (by simp [e2]) (by simp)
          have h2:=h (.inr (j,q,true)) (by simp) (by simp [e2])
          rw[XB ht hq]at h1 h2
          simp at h1 h2
          simp [Wy,h1,h2]
    · rw[QI e,QI e]
      show Option.map (ZD V') (L.tr j)=Option.map (ZD V) (L.tr j)
      cases q:L.tr j with
      | none=>rfl
      | some u=>
        refine congrArg some (N1 fun k2 y hy=> ?_)
        have h1:=h (.inr (j,k2,false)) (by simp [e]) (by simp)
        have h2:=h (.inr (j,k2,true)) (by simp) (by simp [e])
        rw[XB q hy]at h1 h2
        exact⟨h1,h2⟩
theorem Bm {L L':LvD} {V V':VS} {k:KD} {s:Int} (hp:L'.pres=Zy L.pres k s) (hT:L'.tr=L.tr)
    (h: ∀p,p≠ .inl k→XT V' (Xw L p)=XT V (Xw L p)):Q8 L' V'={Q8 L V with pres:=Vn (Q8 L V).pres k (XT V' s)}:= by
  unfold Q8
  rw[hp,hT]
  congr 1
  · funext j
    by_cases e:j=k
    · subst e; rw[XG]; simp [Zy]
    · rw[Zb e]
      have :=h (.inl j) (by simpa using e)
      simp only[Zy,if_neg e]
      exact this
  · funext j
    show Option.map (ZD V') (L.tr j)=Option.map (ZD V) (L.tr j)
    cases q:L.tr j with
    | none=>rfl
    | some u=>
      refine congrArg some (N1 fun k2 y hy=> ?_)
      have h1:=h (.inr (j,k2,false)) (by simp)
      have h2:=h (.inr (j,k2,true)) (by simp)
      rw[XB q hy]at h1 h2
      exact⟨h1,h2⟩
def RankI (T:Int→Option TrD) (m:Nat):Prop:=T 0=none∧ ∃r:Int→Nat,(∀i,r i≤m)∧ ∀i t,T i=some t→t.parent=0∨(T t.parent≠none∧r t.parent<r i)
theorem TB {T:Int→Option TrD} {r:Int→Nat} (h: ∀i t,T i=some t→t.parent=0∨(T t.parent≠none∧r t.parent<r i)): ∀n i,r i<n→Y3 T n i
  | 0,i,h0=> by omega
  | n+1,i,h0=> by
    refine .inr ?_
    cases ht:T i with
    | none=>trivial
    | some t=>
      show Y3 T n t.parent
      rcases h i t ht with e | ⟨_,e⟩
      · rw[e]
        cases n with
        | zero=>rfl
        | succ n=> exact .inl rfl
      · exact TB h n _ (by omega)
theorem RankI.ends {T:Int→Option TrD} {m:Nat} (h:RankI T m) (hm:m<Zp): ∀i,Y3 T Zp i:= by
  obtain⟨_,r,a,b⟩:=h
  exact fun i=>TB b _ _ (by have :=a i;omega)
theorem RankI.same {T T':Int→Option TrD} {m:Nat} (h:RankI T m) (hs: ∀i,(T' i).map TrD.parent=(T i).map TrD.parent):RankI T' m:= by
  obtain⟨h0,r,a,b⟩:=h
  have hN: ∀i,T' i=none↔T i=none:= fun i=> by
    have :=hs i
    cases q:T i<;> cases q':T' i<;>simp_all
  refine⟨(hN 0).2 h0,r,a, fun i t ht=> ?_⟩
  have h1:=hs i
  rw[ht]at h1
  cases q:T i with
  | none=> rw[q]at h1; simp at h1
  | some u=>
    rw[q]at h1
    have e:t.parent=u.parent:= by simpa using h1
    rcases b i u q with h2 | ⟨h2,h3⟩
    · exact .inl (e.trans h2)
    · exact .inr ⟨fun q=>h2 ((hN _).1 (e▸q)),e▸h3⟩
theorem RankI.none0 {T:Int→Option TrD} {m:Nat} (h:RankI T m) {i:Int} {t:TrD} (ht:T i=some t):i≠0:= fun e=> by subst e; rw[h.1]at ht; cases ht
def Sl (x:LfA):Prop:= ∀j,j<64→x.wr.getLsbD j=false→x.base[j]? =x.own[j]?
def AgL (A:LvA):Prop:= ∀i t k x,A.tr i=some t→t.lv k=some x→Sl x
theorem AgL.put {A:LvA} (h:AgL A) {i:Int} {k:KD} {x:LfA} (hx:Sl x):AgL (ZA A i k x):= by
  unfold ZA
  cases ht:A.tr i with
  | none=> exact h
  | some t=>
    intro j u q y hj hq
    dsimp only at hj
    by_cases e:j=i
    · subst e
      rw[Q1]at hj
      cases hj
      dsimp only at hq
      by_cases e2:q=k
      · subst e2; rw[Q1]at hq; cases hq; exact hx
      · rw[QI e2]at hq; exact h j t q y ht hq
    · rw[QI e]at hj; exact h j u q y hj hq
theorem AgL.pres {A:LvA} (h:AgL A) {p:KD→Bs}:AgL {A with pres:=p}:=h
theorem AgL.tou {A:LvA} (h:AgL A) {i:Int} {k:KD}:Sl (Zi A i k):= by
  unfold Zi
  cases ht:A.tr i with
  | none=> exact fun _ _ _=>rfl
  | some t=>
    dsimp only
    cases hx:t.lv k with
    | none=> exact fun _ _ _=>rfl
    | some x=> exact h i t k x ht hx
def NN (ex:Int→Int):Prop:= ∀j,j≠0→0≤ex j
structure LvX (ex:Int→Int) (m:Nat) (L:LvD) (V:VS):Prop where
  ref:RefI (Xw L) V ex
  rank:RankI L.tr m
  agree:AgL (Q8 L V)
abbrev LvI (m:Nat) (L:LvD) (V:VS):Prop:=LvX (fun _=>0) m L V
section
variable {ex:Int→Int} {L L1 L':LvD} {V V1 V':VS} {id:Int} {t t1:TrD} {k:KD} {x1:LfD} {m:Nat}
theorem LvX.zero (h:LvX ex m L V):V 0=none:=h.ref.zero
theorem LvX.sees (h:LvX ex m L V) (id:Int) (k:KD):XT V (Xc L id k)=ZN (Q8 L V) id k:=NT h.zero _ _ _
theorem LvX.aliveX (h:LvX ex m L V) (hx:NN ex) (p:Pl):XP V (Xw L p):=h.ref.aliveN rfl (hx _)
theorem LvX.aliveSX (h:LvX ex m L V) (hx:NN ex) (id:Int) (k:KD):XP V (Xc L id k):= by
  rcases T7 L (Zp+1) id k with e | ⟨p,e⟩
  · exact .inl e
  · show XP V (Jq L (Zp+1) id k); rw[←e]; exact h.aliveX hx p
theorem LvX.len (h:LvX ex m L V) {s:Int} (hs:XP V s):(XT V s).length=64:= by
  cases q:V s with
  | none=>
    rcases hs with rfl | hs
    · rw[Wr h.zero]; simp [zer]
    · exact absurd q hs
  | some x=> rw[JV q]; exact(h.ref.2 s x q).2.2
theorem LvX.alive (h:LvI m L V) (p:Pl):XP V (Xw L p):=h.aliveX (fun _ _=>Int.le_refl _) p
theorem LvX.aliveS (h:LvI m L V) (id:Int) (k:KD):XP V (Xc L id k):=h.aliveSX (fun _ _=>Int.le_refl _) id k
theorem TouR.invX (hT:TouR L V id t k L1 V1 t1 x1) (ht:L.tr id=some t) (h:LvX ex m L V) (hx:NN ex):
    LvX ex m L1 V1∧Wy V1 x1=Zi (Q8 L V) id k∧Q8 L1 V1=ZA (Q8 L V) id k (Zi (Q8 L V) id k)∧(∀c,AliveLe V c→AliveLe V1 c)∧L1.pres=L.pres:= by
  have hal:=h.aliveSX hx id k
  have hse:=h.sees id k
  rcases hT with⟨hx',rfl,rfl,rfl⟩ | ⟨hx',a,rfl,rfl,rfl,rfl⟩
  · refine⟨h, ?_, ?_, fun _ q=>q,rfl⟩
    · rw[Kc (Zv ht) (ZI hx')]
    · rw[Kc (Zv ht) (ZI hx'),TC (Zv ht) (ZI hx')]
  · generalize hs:Xc L id k=s at *
    have hpg: ∀j,XT (refW (refW V s) s) j=XT V j:= fun j=> by rw[Yq,Yq]
    have e1:Wy (refW (refW V s) s) (Hh t k s a)=Zi (Q8 L V) id k:= by
      rw[Ty (Zv ht) (VV hx')]
      unfold Wy Hh
      simp only[hpg,hse]
      rfl
    have e2:Q8 {L with tr:=Xz L.tr id (some {t with lv:=Xz t.lv k (some (Hh t k s a))}),sh:=Y2 (Y2 L.sh s) s} (refW (refW V s) s)=ZA (Q8 L V) id k (Zi (Q8 L V) id k):= by
      rw[YJ (L:=L) (V:=V) (k:=k) (x:=Hh t k s a) (L':={L with tr:=Xz L.tr id (some {t with lv:=Xz t.lv k (some (Hh t k s a))}),sh:=Y2 (Y2 L.sh s) s}) rfl rfl ht rfl fun p _ _=>hpg _,e1]
    refine⟨⟨?_,h.rank.same (WZ ht rfl), ?_⟩,e1,e2, fun c q=>q.refW.refW,rfl⟩
    · have h1:=(h.ref.ref hal).ref (s:=s) (by
        rcases hal with q | q
        · exact .inl q
        · exact .inr (Ya.2 q))
      have h2:=(h1.put (.inr (id,k,false)) s).put (.inr (id,k,true)) s
      have h3:=h2.fn (g:=Xw {L with tr:=Xz L.tr id (some {t with lv:=Xz t.lv k (some (Hh t k s a))}),sh:=Y2 (Y2 L.sh s) s}) (Hs (L':={L with tr:=Xz L.tr id (some {t with lv:=Xz t.lv k (some (Hh t k s a))}),sh:=Y2 (Y2 L.sh s) s}) (t':={t with lv:=Xz t.lv k (some (Hh t k s a))}) (x:=Hh t k s a) rfl rfl ht rfl)
      refine h3.ext fun j hj=> ?_
      rw[Zb (by simp),Ra ht hx',Ra ht hx',Ju (s:=0) hj];omega
    · rw[e2]; exact h.agree.put h.agree.tou
theorem TouR.inv (hT:TouR L V id t k L1 V1 t1 x1) (ht:L.tr id=some t) (h:LvI m L V):
    LvI m L1 V1∧Wy V1 x1=Zi (Q8 L V) id k∧Q8 L1 V1=ZA (Q8 L V) id k (Zi (Q8 L V) id k)∧(∀c,AliveLe V c→AliveLe V1 c)∧L1.pres=L.pres:=hT.invX ht h fun _ _=>Int.le_refl _
end
end Go.Proofs.YtkcjfoaejijdoaaGreatDoor
namespace Go.Proofs.YtkcjfoaejijdoaaGreatDoor
open Go.RowKit M
set_option linter.unusedSectionVars false
variable [Inhabited SlW]
section
variable {L L1 L':LvD} {V V1 V':VS} {id:Int} {t t1:TrD} {k:KD} {x x1:LfD} {m Fr:Nat} {s e:Int}
def OwnI (L:LvD) (V:VS) (p:Pl) (m Fr:Nat) (L':LvD) (V':VS) (s e:Int):Prop:=
  LvI m L' V'∧Q8 L' V'=Q8 L V∧(∀c,AliveLe V c→AliveLe V' (c+1))∧(∀c,AliveLe V c→AliveLe V' c∨AliveLe V' (c+1))∧
  ((e=6∧s=0∧Ho V Fr)∨(e=0∧s≠0∧Zz V' s=1∧Xw L' p=s))
theorem TT {f f':Pl→Int} {p:Pl} (h:RefI f V (fun _=>0)) (h1:1≤s) (hn:V s=none) (ho:XP V (f p)) (hf: ∀q,f' q=Vn f p s q):
    RefI f' (Z2 (Xz V s (some (1,XT V (f p)))) (f p)) (fun _=>0)∧(∀q,XT (Z2 (Xz V s (some (1,XT V (f p)))) (f p)) (f' q)=XT V (f q))∧Z2 (Xz V s (some (1,XT V (f p)))) (f p) s=some (1,XT V (f p)):= by
  have hl:(XT V (f p)).length=64:= by
    cases q:V (f p)with
    | none=>
      rcases ho with e | e
      · rw[e,Wr h.zero]; simp [zer]
      · exact absurd q e
    | some x=> rw[JV q]; exact(h.2 _ x q).2.2
  generalize ho':f p=o at *
  have hso:o≠s:= fun e=> by
    subst e
    rcases ho with e | e
    · omega
    · exact absurd hn e
  have hoa:XP (Xz V s (some (1,XT V o))) o:= by
    rcases ho with e | e
    · exact .inl e
    · refine .inr ?_; rw[QI hso]; exact e
  have a1:=(((h.fresh hn h1 hl).put p s).fn hf).unr hoa
  rw[ho']at a1
  have a2:RefI f' (Z2 (Xz V s (some (1,XT V o))) o) (fun _=>0):=a1.ext fun j hj=> by omega
  have a3:Z2 (Xz V s (some (1,XT V o))) o s=some (1,XT V o):= by
    cases q:V o with
    | none=> rw[Kb (by rw[QI hso]; exact q),Q1]
    | some x=>
      rw[Hp (x:=x) (by rw[QI hso]; exact q)]
      split<;> rw[QI (fun e=>hso e.symm),Q1]
  refine⟨a2, fun q=> ?_,a3⟩
  by_cases e:q=p
  · subst e
    rw[hf,XG,JV a3,ho']
  · have e1:f' q=f q:= by rw[hf,Zb e]
    have e2:f q≠s:=h.none_held hn (by omega) (by omega)
    have h0:Xz V s (some (1,XT V o)) 0=none:= by rw[QI (by omega)]; exact h.zero
    rw[Md h0 (a2.alive rfl (by omega)),e1,Km e2]
theorem OwnP.inv (h:OwnP L V k Fr L' V' s e) (hI:LvI m L V):OwnI L V (.inl k) m Fr L' V' s e∧L'.tr=L.tr:= by
  rcases h with⟨rfl,h2,h3,h4,rfl,rfl⟩ | ⟨rfl,rfl,h3,rfl,rfl⟩ | ⟨rfl,h2,h3,h4,rfl,rfl⟩
  · exact⟨⟨hI,rfl, fun c q=>q.mono (by omega), fun c q=> .inl q,.inr ⟨rfl,h3,h4,h2.symm⟩⟩,rfl⟩
  · exact⟨⟨hI,rfl, fun c q=>q.mono (by omega), fun c q=> .inl q,.inl ⟨rfl,rfl,h3⟩⟩,rfl⟩
  · generalize hL':({L with pres:=Zy L.pres k s,sh:=Y1 (Xz V s (some (1,XT V (L.pres k)))) L.sh (L.pres k)}:LvD)=L'
    have hp:L'.pres=Zy L.pres k s:= by subst hL';rfl
    have hT:L'.tr=L.tr:= by subst hL';rfl
    have hf:=TP hp hT
    obtain⟨a,b,c⟩:=TT (p:= .inl k) hI.ref h2 h3 (hI.alive _) hf
    have hh:Xw L (.inl k)=L.pres k:=rfl
    rw[hh]at a b c
    have e1:Q8 L' (Z2 (Xz V s (some (1,XT V (L.pres k)))) (L.pres k))=Q8 L V:= by
      rw[Bm (V:=V) hp hT fun p hp=> ?_]
      · have h5:=b (.inl k)
        rw[hf,XG,hh]at h5
        have e2:Vn (Q8 L V).pres k (XT (Z2 (Xz V s (some (1,XT V (L.pres k)))) (L.pres k)) s)=(Q8 L V).pres:= by
          funext j
          by_cases e:j=k
          · subst e; rw[XG]; exact h5
          · rw[Zb e]
        rw[e2]
      · have h5:=b p
        rw[hf,Zb hp]at h5
        exact h5
    refine⟨⟨⟨a, by rw[hT]; exact hI.rank, by rw[e1]; exact hI.agree⟩,e1, fun c q=>q.put.unr, fun c q=> .inr q.put.unr,.inr ⟨rfl, by omega,WX c, ?_⟩⟩,hT⟩
    rw[hf,XG]
theorem OwnT.inv (h:OwnT L V id t k x Fr L' V' s e) (ht:L.tr id=some t) (hx:t.lv k=some x) (hI:LvI m L V):OwnI L V (.inr (id,k,true)) m Fr L' V' s e∧L'.pres=L.pres:= by
  have hh:Xw L (.inr (id,k,true))=x.own:= by rw[XB ht hx];rfl
  rcases h with⟨rfl,h2,h3,h4,rfl,rfl⟩ | ⟨rfl,rfl,h3,rfl,rfl⟩ | ⟨rfl,h2,h3,h4,rfl,rfl⟩
  · exact⟨⟨hI,rfl, fun c q=>q.mono (by omega), fun c q=> .inl q,.inr ⟨rfl,h3,h4, by rw[hh,h2]⟩⟩,rfl⟩
  · exact⟨⟨hI,rfl, fun c q=>q.mono (by omega), fun c q=> .inl q,.inl ⟨rfl,rfl,h3⟩⟩,rfl⟩
  · generalize hL':Zs {L with sh:=Y1 (Xz V s (some (1,XT V x.own))) L.sh x.own} id t k {x with own:=s}=L'
    have hp:L'.pres=L.pres:= by subst hL';rfl
    have hT:L'.tr=Xz L.tr id (some {t with lv:=Xz t.lv k (some {x with own:=s})}):= by subst hL';rfl
    have hf: ∀q,Xw L' q=Vn (Xw L) (.inr (id,k,true)) s q:= fun q=> by
      rw[Hs (x:={x with own:=s}) hp hT ht rfl]
      by_cases e:q= .inr (id,k,true)
      · subst e; rw[XG,XG]
      · rw[Zb e,Zb e]
        by_cases e2:q= .inr (id,k,false)
        · subst e2; rw[XG,XB ht hx];rfl
        · rw[Zb e2]
    obtain⟨a,b,c⟩:=TT (p:= .inr (id,k,true)) hI.ref h2 h3 (hI.alive _) hf
    rw[hh]at a b c
    have e1:Q8 L' (Z2 (Xz V s (some (1,XT V x.own))) x.own)=Q8 L V:= by
      rw[YJ (x:={x with own:=s}) hp hT ht rfl fun p hp1 hp2=> ?_]
      · have e2:Wy (Z2 (Xz V s (some (1,XT V x.own))) x.own) {x with own:=s}=Wy V x:= by
          have h5:=b (.inr (id,k,true))
          have h6:=b (.inr (id,k,false))
          rw[hf,XG,hh]at h5
          rw[hf,Zb (by simp),XB ht hx]at h6
          simp at h6
          simp [Wy,h5,h6]
        rw[e2,TC (Zv ht) (ZI hx)]
      · have h5:=b p
        rw[hf,Zb hp2]at h5
        exact h5
    refine⟨⟨⟨a, ?_, by rw[e1]; exact hI.agree⟩,e1, fun c q=>q.put.unr, fun c q=> .inr q.put.unr,.inr ⟨rfl, by omega,WX c, ?_⟩⟩,hp⟩
    · rw[hT]; exact hI.rank.same (WZ ht rfl)
    · rw[hf,XG]
theorem NQ {f:Pl→Int} {p:Pl} {r a:Int} {pg:Bs} {b:UInt8} (h:RefI f V (fun _=>0)) (hs:V s=some (r,pg)) (hr:Zz V s=1) (hp:f p=s):
    RefI f (Xz V s (some (r,pg.set a.toNat b))) (fun _=>0)∧(∀q,q≠p→XT (Xz V s (some (r,pg.set a.toNat b))) (f q)=XT V (f q))∧XT (Xz V s (some (r,pg.set a.toNat b))) (f p)=(XT V (f p)).set a.toNat b:= by
  have h3:=h.2 s _ hs
  refine⟨h.setc hs (by rw[List.length_set]; exact h3.2.2), fun q hq=> ?_, ?_⟩
  · refine Km fun e=>hq (h.excl hr rfl (by omega) hp q e)
  · rw[hp,JV Q1,JV hs]
end
end Go.Proofs.YtkcjfoaejijdoaaGreatDoor
namespace Go.Proofs.YtkcjfoaejijdoaaGreatDoor
open Go.RowKit M
set_option linter.unusedSectionVars false
variable [Inhabited SlW]
theorem Hy {κ α:Type} {f:κ→α} {k:κ} {v:α} (h:f k=v):Vn f k v=f:= by
  funext j
  by_cases e:j=k
  · subst e; rw[XG,h]
  · rw[Zb e]
def SzLe (L:LvD) (c:Nat):Prop:= ∃l:List (Int×KD),l.length≤c∧(∀k,L.pres k≠0→(0,k)∈l)∧ ∀i t k x,L.tr i=some t→t.lv k=some x→(i,k)∈l
theorem SzLe.mono {L:LvD} {c d:Nat} (h:SzLe L c) (hd:c≤d):SzLe L d:= by
  obtain⟨l,a,b⟩:=h
  exact⟨l, by omega,b⟩
theorem SzLe.add {L L':LvD} {c:Nat} (h:SzLe L c) (i:Int) (k:KD) (hp: ∀q,L'.pres q≠0→L.pres q≠0∨(0,q)=(i,k)) (ht: ∀j u q x,L'.tr j=some u→u.lv q=some x→(∃u' x',L.tr j=some u'∧u'.lv q=some x')∨(j,q)=(i,k)):SzLe L' (c+1):= by
  obtain⟨l,a,b,d⟩:=h
  refine⟨(i,k)::l, by simp;omega, fun q hq=> ?_, fun j u q x hj hq=> ?_⟩
  · rcases hp q hq with e | e
    · exact List.mem_cons_of_mem _ (b q e)
    · rw[e]; exact List.mem_cons_self
  · rcases ht j u q x hj hq with⟨u',x',e1,e2⟩ | e
    · exact List.mem_cons_of_mem _ (d j u' q x' e1 e2)
    · rw[e]; exact List.mem_cons_self
theorem SzLe.put {L L':LvD} {c:Nat} {i:Int} {k:KD} {t:TrD} {x:LfD} (h:SzLe L c) (ht:L.tr i=some t) (hp:L'.pres=L.pres) (hT:L'.tr=Xz L.tr i (some {t with lv:=Xz t.lv k (some x)})):SzLe L' (c+1):= by
  refine h.add i k (fun q hq=> .inl (by rwa [hp]at hq)) fun j u q y hj hq=> ?_
  rw[hT]at hj
  by_cases e:j=i
  · subst e
    rw[Q1]at hj
    cases hj
    dsimp only at hq
    by_cases e2:q=k
    · right; rw[e2]
    · rw[QI e2]at hq; exact .inl ⟨t,y,ht,hq⟩
  · rw[QI e]at hj; exact .inl ⟨u,y,hj,hq⟩
theorem SzLe.putOld {L L':LvD} {c:Nat} {i:Int} {k:KD} {t:TrD} {x y:LfD} (h:SzLe L c) (ht:L.tr i=some t) (hx:t.lv k=some y) (hp:L'.pres=L.pres) (hT:L'.tr=Xz L.tr i (some {t with lv:=Xz t.lv k (some x)})):SzLe L' c:= by
  obtain⟨l,a,b,d⟩:=h
  refine⟨l,a, fun q hq=>b q (by rwa [hp]at hq), fun j u q z hj hq=> ?_⟩
  rw[hT]at hj
  by_cases e:j=i
  · subst e
    rw[Q1]at hj
    cases hj
    dsimp only at hq
    by_cases e2:q=k
    · subst e2; exact d j t q y ht hx
    · rw[QI e2]at hq; exact d j t q z ht hq
  · rw[QI e]at hj; exact d j u q z hj hq
theorem TouR.sz {L L1:LvD} {V V1:VS} {id:Int} {t t1:TrD} {k:KD} {x1:LfD} {c:Nat} (hT:TouR L V id t k L1 V1 t1 x1) (ht:L.tr id=some t) (h:SzLe L c):SzLe L1 (c+1):= by
  rcases hT with⟨_,rfl,_,_⟩ | ⟨_,a,_,rfl,rfl,_⟩
  · exact h.mono (by omega)
  · exact h.put (x:=x1) ht rfl rfl
structure StepI (m:Nat) (L:LvD) (V:VS) (m' d e:Nat) (L':LvD) (V':VS):Prop where
  inv:LvI m' L' V'
  sp:L'.sp=L.sp
  al: ∀c,AliveLe V c→AliveLe V' (c+d)
  sz: ∀c,SzLe L c→SzLe L' (c+e)
theorem StepI.refl {m:Nat} {L:LvD} {V:VS} {d e:Nat} (h:LvI m L V):StepI m L V m d e L V:=⟨h,rfl, fun _ q=>q.mono (by omega), fun _ q=>q.mono (by omega)⟩
theorem StepI.trans {m m1 m2:Nat} {L L1 L2:LvD} {V V1 V2:VS} {d d1 e e1:Nat} (h:StepI m L V m1 d e L1 V1) (h':StepI m1 L1 V1 m2 d1 e1 L2 V2):StepI m L V m2 (d+d1) (e+e1) L2 V2:=
  ⟨h'.inv,h'.sp.trans h.sp, fun c q=>(h'.al _ (h.al c q)).mono (by omega), fun c q=>(h'.sz _ (h.sz c q)).mono (by omega)⟩
theorem StepI.up {m m1:Nat} {L L1:LvD} {V V1:VS} {d d1 e e1:Nat} (h:StepI m L V m1 d e L1 V1) (h1:d≤d1) (h2:e≤e1):StepI m L V m1 d1 e1 L1 V1:=
  ⟨h.inv,h.sp, fun c q=>(h.al c q).mono (by omega), fun c q=>(h.sz c q).mono (by omega)⟩
def Cl (V:VS) (Fr:Nat):Prop:= ∀c,AliveLe V c→Fr≤c+1
section
variable {L L1 L':LvD} {V V1 V':VS} {id:Int} {t t1 t':TrD} {k:KD} {x x1 x':LfD} {m Fr:Nat} {s e a r:Int} {pg:Bs} {b:UInt8}
theorem OwnP.sz {c:Nat} (h:OwnP L V k Fr L' V' s e) (hc:SzLe L c):SzLe L' (c+1):= by
  rcases h with⟨_,_,_,_,rfl,_⟩ | ⟨_,_,_,rfl,_⟩ | ⟨_,h2,_,_,_,rfl⟩
  · exact hc.mono (by omega)
  · exact hc.mono (by omega)
  · refine hc.add 0 k (fun q hq=> ?_) fun j u q y hj hq=> .inl ⟨u,y,hj,hq⟩
    by_cases e:q=k
    · right; rw[e]
    · simp only[Zy,if_neg e]at hq; exact .inl hq
theorem OwnT.sz {c:Nat} (h:OwnT L V id t k x Fr L' V' s e) (ht:L.tr id=some t) (hx:t.lv k=some x) (hc:SzLe L c):SzLe L' c:= by
  rcases h with⟨_,_,_,_,rfl,_⟩ | ⟨_,_,_,rfl,_⟩ | ⟨_,h2,_,_,_,rfl⟩
  · exact hc
  · exact hc
  · exact hc.putOld (x:={x with own:=s}) ht hx rfl rfl
theorem qbf (he:Q8 L' V'=Q8 L V) (ht:L.tr id=some t) (hx:t.lv k=some x) (ht':L'.tr id=some t') (hx':t'.lv k=some x'):Wy V' x'=Wy V x:= by
  have h1:=Zv (V:=V') ht'
  rw[he,Zv ht]at h1
  have h2:ZD V t=ZD V' t':= by simpa using h1
  have h3:=ZI (V:=V') hx'
  rw[←h2,ZI hx]at h3
  simpa using h3.symm
theorem Ov (hI:LvI m L V) (h0:Zz V s=1) (hs:V s=some (r,pg)) (hp:Xw L (.inl k)=s) (ha:0≤a∧a<64):
    LvI m L (Xz V s (some (r,pg.set a.toNat b)))∧Q8 L (Xz V s (some (r,pg.set a.toNat b)))={Q8 L V with pres:=Vn (Q8 L V).pres k (((Q8 L V).pres k).set a.toNat b)}:= by
  obtain⟨a1,a2,a3⟩:=NQ (a:=a) (b:=b) hI.ref hs h0 hp
  have e1:Q8 L (Xz V s (some (r,pg.set a.toNat b)))={Q8 L V with pres:=Vn (Q8 L V).pres k (((Q8 L V).pres k).set a.toNat b)}:= by
    have hk:L.pres=Zy L.pres k (L.pres k):= by
      funext j;unfold Zy;split
      · rename_i e; rw[e]
      · rfl
    rw[Bm (V:=V) (k:=k) (s:=L.pres k) hk rfl fun p hp=>a2 p hp]
    have h5:XT (Xz V s (some (r,pg.set a.toNat b))) (L.pres k)=((Q8 L V).pres k).set a.toNat b:=a3
    rw[h5]
  exact⟨⟨a1,hI.rank, by rw[e1]; exact hI.agree⟩,e1⟩
theorem Ou (hI:LvI m L V) (h0:Zz V s=1) (hs:V s=some (r,pg)) (hp:Xw L (.inr (id,k,true))=s) (ht:L.tr id=some t) (hx:t.lv k=some x) (ha:0≤a∧a<64):
    LvI m (Zs L id t k {x with wr:=x.wr ||| (1#64<<<a.toNat)}) (Xz V s (some (r,pg.set a.toNat b)))∧
    Q8 (Zs L id t k {x with wr:=x.wr ||| (1#64<<<a.toNat)}) (Xz V s (some (r,pg.set a.toNat b)))=ZA (Q8 L V) id k {Wy V x with own:=(Wy V x).own.set a.toNat b,wr:=x.wr ||| (1#64<<<a.toNat)}:= by
  obtain⟨a1,a2,a3⟩:=NQ (a:=a) (b:=b) hI.ref hs h0 hp
  generalize hL':Zs L id t k {x with wr:=x.wr ||| (1#64<<<a.toNat)}=L'
  have hP:L'.pres=L.pres:= by subst hL';rfl
  have hT:L'.tr=Xz L.tr id (some {t with lv:=Xz t.lv k (some {x with wr:=x.wr ||| (1#64<<<a.toNat)})}):= by subst hL';rfl
  have hf: ∀q,Xw L' q=Xw L q:= fun q=> by
    rw[Hs (x:={x with wr:=x.wr ||| (1#64<<<a.toNat)}) hP hT ht rfl]
    dsimp only
    rw[Hy (f:=Xw L) (v:=x.base) (by rw[XB ht hx];rfl),Hy (by rw[XB ht hx];rfl)]
  have e1:Q8 L' (Xz V s (some (r,pg.set a.toNat b)))=ZA (Q8 L V) id k {Wy V x with own:=(Wy V x).own.set a.toNat b,wr:=x.wr ||| (1#64<<<a.toNat)}:= by
    rw[YJ (x:={x with wr:=x.wr ||| (1#64<<<a.toNat)}) hP hT ht rfl fun p _ h2=>a2 p h2]
    congr 1
    have h3:=a2 (.inr (id,k,false)) (by simp)
    rw[XB ht hx]at h3 a3
    simp at h3 a3
    simp only[Wy,h3,a3]
  refine⟨⟨a1.fn hf, by rw[hT]; exact hI.rank.same (WZ ht rfl), ?_⟩,e1⟩
  rw[e1]
  refine hI.agree.put fun j hj hw=> ?_
  have h4:=hI.agree id _ k _ (Zv ht) (ZI hx) j hj
  dsimp only at hw⊢
  rw[BitVec.getLsbD_or,Bool.or_eq_false_iff]at hw
  rw[h4 hw.1]
  have h5:a.toNat≠j:= fun q=> by
    have :=hw.2
    rw[q,BitVec.getLsbD_shiftLeft]at this
    simp [hj]at this
  rw[List.getElem?_set_ne h5]
end
end Go.Proofs.YtkcjfoaejijdoaaGreatDoor
