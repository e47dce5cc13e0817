/- move: plain -/
import Derived.Test.YtiibgheijbbmaaaGreatDoorWr
import Derived.Test.YtiibgheijbbmaaaGreatDoorCellP
set_option linter.unusedVariables false
namespace Go.Proofs.YtiibgheijbbmaaaGreatDoor
open Go.RowKit M
def Xi (n:Int):Bs:=Lib.itoa n++[59]
theorem Hg {m:Int} {rest:Bs} {least:Int} (hm:Xy m) (hl:least≤m):Zl 59 least (Xi m++rest,false)=m∧Zh 59 least (Xi m++rest,false)=(rest,false):= by
  have e:Xi m++rest=Lib.itoa m++59::rest:= by simp [Xi]
  rw[e]; exact Pq (by decide) hm hl
abbrev KM:=Int×Int
def LO (x y:KM):Prop:=(x.1=1∧y.1≠1∧y.2≤x.2)∨(x.1=2∧y.1=3∧x.2=y.2)
def Leg (x y:KM):Prop:=LO x y∨LO y x
theorem Leg.symm {x y:KM} (h:Leg x y):Leg y x:=Or.symm h
structure PE where
  S:KM→Prop
  up:Prop
  km:KM
  act:Prop
  fro:Prop
abbrev PM:=Int×Int
structure PI (I J:PE) (Mi Mj:PM→Prop):Prop where
  ne: ∃x,I.S x
  one:I.up→ ∀x,I.S x↔x=I.km
  ao:I.act→I.up∧I.km.1=1
  num: ∀m,Mi m→ ∀x,I.S x→m.2≤x.2
  act:I.act→ ∀y,J.S y→y.2<I.km.2∨y=(2,I.km.2)
  no: ∀n,Mi (5,n)→(∀x,I.S x→n<x.2∨x=(1,n))∧(I.up→I.km=(1,n)→ ¬I.act)
  giv: ∀n,Mi (4,n)→(∀x,I.S x→x=(3,n))∨((∀y,J.S y→n<y.2∨y=(1,n))∧(J.up→J.km=(1,n)→ ¬J.act))
  pt:I.act→Mi (1,I.km.2)→I.fro
  ry:I.act→J.S (2,I.km.2)→I.fro
  fz:I.act→Mj (2,I.km.2)→I.fro
structure PP (I J:PE) (Mi Mj:PM→Prop):Prop where
  i:PI I J Mi Mj
  j:PI J I Mj Mi
  leg: ∀x y,I.S x→J.S y→Leg x y
section
variable {I J I':PE} {Mi Mj Mi' Mj':PM→Prop}
theorem PP.swap (h:PP I J Mi Mj):PP J I Mj Mi:=⟨h.j,h.i, fun x y a b=>(h.leg y x b a).symm⟩
theorem PP.less (h:PP I J Mi Mj) (h1: ∀m,Mi' m→Mi m) (h2: ∀m,Mj' m→Mj m):PP I J Mi' Mj':=
  ⟨⟨h.i.ne,h.i.one,h.i.ao, fun m q=>h.i.num m (h1 _ q),h.i.act, fun n q=>h.i.no n (h1 _ q), fun n q=>h.i.giv n (h1 _ q), fun a q=>h.i.pt a (h1 _ q),h.i.ry, fun a q=>h.i.fz a (h2 _ q)⟩,
   ⟨h.j.ne,h.j.one,h.j.ao, fun m q=>h.j.num m (h2 _ q),h.j.act, fun n q=>h.j.no n (h2 _ q), fun n q=>h.j.giv n (h2 _ q), fun a q=>h.j.pt a (h2 _ q),h.j.ry, fun a q=>h.j.fz a (h1 _ q)⟩,h.leg⟩
theorem PI.own (h:PI I J Mi Mj) (hu:I.up):I.S I.km:=(h.one hu _).2 Qa
theorem PP.quiet (h:PP I J Mi Mj) (hs: ∀x,I'.S x→I.S x) (hn: ∃x,I'.S x) (hu:I'.up→ ∀x,I'.S x↔x=I'.km) (ha: ¬I'.act):PP I' J Mi Mj where
  i:=⟨hn,hu, fun q=>absurd q ha, fun m q x hx=>h.i.num m q x (hs x hx), fun q=>absurd q ha, fun n q=>⟨fun x hx=>(h.i.no n q).1 x (hs x hx), fun _ _=>ha⟩, fun n q=>(h.i.giv n q).imp (fun a x hx=>a x (hs x hx)) id, fun q=>absurd q ha, fun q=>absurd q ha, fun q=>absurd q ha⟩
  j:=⟨h.j.ne,h.j.one,h.j.ao,h.j.num, fun q x hx=>h.j.act q x (hs x hx),h.j.no, fun n q=>(h.j.giv n q).imp id fun ⟨a,_⟩=>⟨fun x hx=>a x (hs x hx), fun _ _=>ha⟩,h.j.pt, fun q hx=>h.j.ry q (hs _ hx),h.j.fz⟩
  leg:= fun x y a b=>h.leg x y (hs x a) b
theorem PP.freeze (h:PP I J Mi Mj) (h1:I'.S=I.S) (h2:I'.up=I.up) (h3:I'.km=I.km) (h4:I'.act=I.act) (h5:I.act→I.fro→I'.fro):PP I' J Mi Mj:= by
  obtain⟨S,u,k,a,f⟩:=I
  obtain⟨S',u',k',a',f'⟩:=I'
  dsimp only at h1 h2 h3 h4 h5
  subst h1; subst h2; subst h3; subst h4
  exact⟨⟨h.i.ne,h.i.one,h.i.ao,h.i.num,h.i.act,h.i.no,h.i.giv, fun q r=>h5 q (h.i.pt q r), fun q r=>h5 q (h.i.ry q r), fun q r=>h5 q (h.i.fz q r)⟩,
    ⟨h.j.ne,h.j.one,h.j.ao,h.j.num,h.j.act,h.j.no,h.j.giv,h.j.pt,h.j.ry,h.j.fz⟩,h.leg⟩
theorem PP.beside (h:PP I J Mi Mj) (hu:I.up) (hk:I.km.1=1) {y:KM} (hy:J.S y):y.1≠1∧y.2≤I.km.2:= by
  rcases h.leg _ _ (h.i.own hu) hy with(⟨_,a,b⟩ | ⟨a,_⟩) | (⟨_,a,_⟩ | ⟨_,a,_⟩)
  · exact⟨a,b⟩
  · omega
  · exact absurd hk a
  · omega
theorem PP.give (h:PP I J Mi Mj) (hu:I.up) (hk:I.km.1=1) (hs: ∀x,I'.S x→x=I.km∨x=(1,I.km.2+1)) (hn: ∃x,I'.S x) (hu':I'.up→ ∀x,I'.S x↔x=I'.km) (ha:I'.act→I'.up∧I'.km=(1,I.km.2+1)):PP I' J Mi Mj:= by
  have hb:= fun y hy=>h.beside hu hk (y:=y) hy
  have hown:=h.i.own hu
  have hmi: ∀m,Mi m→m.2≤I.km.2:= fun m q=>h.i.num m q _ hown
  have hge: ∀x,I'.S x→I.km.2≤x.2∧x.1=1:= fun x hx=> by
    rcases hs x hx with e | e<;> subst e
    · exact⟨Int.le_refl _,hk⟩
    · exact⟨by show I.km.2≤I.km.2+1;omega,rfl⟩
  refine⟨⟨hn,hu', fun q=>⟨(ha q).1, by rw[(ha q).2]⟩, fun m q x hx=>Int.le_trans (hmi m q) (hge x hx).1, fun q y hy=> .inl ?_, fun n q=>⟨fun x hx=> ?_, fun _ e r=> ?_⟩, fun n q=> .inr ?_, fun q r=> ?_, fun q r=> ?_, fun q r=> ?_⟩,
    ⟨h.j.ne,h.j.one,h.j.ao,h.j.num, fun q=> ?_,h.j.no, fun n q=> ?_,h.j.pt, fun q=> ?_,h.j.fz⟩, fun x y hx hy=> .inl (.inl ⟨(hge x hx).2,(hb y hy).1,Int.le_trans (hb y hy).2 (hge x hx).1⟩)⟩
  · rw[(ha q).2]; have :=(hb y hy).2; show y.2<I.km.2+1;omega
  · have h1:=hmi _ q
    rcases hs x hx with e | e
    · subst e; exact(h.i.no n q).1 _ hown
    · subst e;left; show n<I.km.2+1; have h1:n≤I.km.2:=h1;omega
  · have h1:n≤I.km.2:=hmi _ q
    rw[(ha r).2]at e
    have :=congrArg Prod.snd e
    have :I.km.2+1=n:=this
    omega
  · rcases h.i.giv n q with a | a
    · have :=congrArg Prod.fst (a _ hown); rw[hk]at this; cases this
    · exact a
  · have h1:=hmi _ r
    rw[(ha q).2]at h1
    have h1:I.km.2+1≤I.km.2:=h1
    omega
  · have h1:=(hb _ r).2
    rw[(ha q).2]at h1
    have h1:I.km.2+1≤I.km.2:=h1
    omega
  · obtain⟨y,hy⟩:=h.j.ne
    have h1:=h.j.num _ r _ hy
    have h2:=(hb _ hy).2
    rw[(ha q).2]at h1
    have h1:I.km.2+1≤y.2:=h1
    omega
  · exact absurd (h.j.ao q).2 (hb _ (h.j.own (h.j.ao q).1)).1
  · refine(h.j.giv n q).imp id fun ⟨a,b⟩=>⟨fun x hx=> ?_, fun r e z=> ?_⟩
    · rcases hs x hx with e | e
      · subst e; exact a _ hown
      · subst e
        left
        show n<I.km.2+1
        rcases a _ hown with c | c
        · omega
        · rw[c]; show n<n+1;omega
    · rw[(ha z).2]at e
      have e:I.km.2+1=n:=congrArg Prod.snd e
      rcases a _ hown with c | c
      · omega
      · have :=congrArg Prod.snd c
        have :I.km.2=n:=this
        omega
  · exact absurd (h.j.ao q).2 (hb _ (h.j.own (h.j.ao q).1)).1
theorem PP.gave (h:PP I J Mi Mj) {n:Int} (hk:I.km=(1,n)) (hact:I.act) (hm:Mj (2,n)) (hs: ∀x,I'.S x→x=(1,n)∨x=(3,n)) (hn: ∃x,I'.S x) (hu':I'.up→ ∀x,I'.S x↔x=(3,n)) (hk':I'.up→I'.km=(3,n)) (ha: ¬I'.act) (hM: ∀m,Mi' m→Mi m∨(m=(4,n)∧ ∀x,I'.S x→x=(3,n))):PP I' J Mi' Mj:= by
  obtain⟨hu,hk1⟩:=h.i.ao hact
  have hown:=h.i.own hu
  rw[hk]at hown
  have hJ: ∀y,J.S y→y=(2,n):= fun y hy=> by
    have h1:=h.j.num _ hm y hy
    have h2:=h.i.act hact y hy
    rw[hk]at h2
    rcases h2 with q | q
    · have h1:n≤y.2:=h1
      have q:y.2<n:=q
      omega
    · exact q
  have hJ2: ¬J.act:= fun q=> by
    have h1:=(h.j.ao q).2
    have h2:=hJ _ (h.j.own (h.j.ao q).1)
    rw[h2]at h1; cases h1
  have h2: ∀x,I'.S x→x.2=n:= fun x hx=> by rcases hs x hx with e | e<;> subst e<;>rfl
  have hlt: ∀k,Mi (5,k)→k<n:= fun k q=> by
    have h3:=(h.i.no k q)
    rcases h3.1 _ hown with c | c
    · exact c
    · have e:n=k:=congrArg Prod.snd c
      subst e
      exact absurd hact (h3.2 hu hk)
  refine⟨⟨hn, fun q x=> by rw[hk' q]; exact hu' q x, fun q=>absurd q ha, fun m q x hx=> ?_, fun q=>absurd q ha, fun k q=>⟨fun x hx=> .inl ?_, fun _ _=>ha⟩, fun k q=> ?_, fun q=>absurd q ha, fun q=>absurd q ha, fun q=>absurd q ha⟩,
    ⟨h.j.ne,h.j.one,h.j.ao,h.j.num, fun q=>absurd q hJ2,h.j.no, fun k q=> ?_, fun q=>absurd q hJ2, fun q=>absurd q hJ2, fun q=>absurd q hJ2⟩, fun x y hx hy=> ?_⟩
  · rw[h2 x hx]
    rcases hM m q with e | ⟨e,_⟩
    · exact h.i.num m e _ hown
    · rw[e]; exact Int.le_refl _
  · rw[h2 x hx]
    rcases hM _ q with e | ⟨e,_⟩
    · exact hlt k e
    · cases e
  · rcases hM _ q with e | ⟨e,e2⟩
    · refine .inr ?_
      rcases h.i.giv k e with a | a
      · have :=a _ hown; cases this
      · exact a
    · cases e; exact .inl e2
  · rcases h.j.giv k q with a | ⟨a,b⟩
    · obtain⟨y,hy⟩:=h.j.ne
      have e1:=a _ hy
      rw[hJ _ hy]at e1; cases e1
    · refine .inr ⟨fun x hx=> ?_, fun _ _=>ha⟩
      rw[h2 x hx]
      left
      rcases a _ hown with c | c
      · exact c
      · have e:n=k:=congrArg Prod.snd c
        subst e
        exact absurd hact (b hu hk)
  · rw[hJ y hy]
    rcases hs x hx with e | e<;> subst e
    · exact .inl (.inl ⟨rfl, by show(2:Int)≠1;decide,Int.le_refl _⟩)
    · exact .inr (.inr ⟨Qa,Qa,Qa⟩)
theorem PP.hearNo (h:PP I J Mi Mj) {n:Int} (hu:J.up) (hk:J.km=(2,n)) (hm:Mi (5,n)) {J':PE} (hs: ∀y,J'.S y→y=(2,n)∨y=(0,n)) (hn: ∃y,J'.S y) (hu':J'.up→ ∀y,J'.S y↔y=J'.km) (ha: ¬J'.act):PP I J' Mi Mj:= by
  have hown:=h.j.own hu
  rw[hk]at hown
  obtain⟨no1,no2⟩:=h.i.no n hm
  have hI: ∀x,I.S x→x.1=1∧n≤x.2:= fun x hx=> by
    rcases h.leg _ _ hx hown with(⟨a,_,b⟩ | ⟨_,b,_⟩) | (⟨a,_⟩ | ⟨_,a,b⟩)
    · exact⟨a,b⟩
    · cases b
    · cases a
    · rcases no1 x hx with c | c
      · have b:n=x.2:=b
        omega
      · rw[c]at a; cases a
  have h2: ∀y,J'.S y→y.2=n∧y.1≠1:= fun y hy=> by rcases hs y hy with e | e<;> subst e; exact⟨rfl, by show(2:Int)≠1;decide⟩; exact⟨rfl, by show(0:Int)≠1;decide⟩
  have hlt:I.act→n<I.km.2:= fun q=> by
    have h3:=no1 _ (h.i.own (h.i.ao q).1)
    rcases h3 with c | c
    · exact c
    · exact absurd q (no2 (h.i.ao q).1 c)
  refine⟨⟨h.i.ne,h.i.one,h.i.ao,h.i.num, fun q y hy=> .inl (by rw[(h2 y hy).1]; exact hlt q),h.i.no, fun k q=> ?_,h.i.pt, fun q r=> ?_,h.i.fz⟩,
    ⟨hn,hu', fun q=>absurd q ha, fun m q y hy=> by rw[(h2 y hy).1]; exact h.j.num m q _ hown, fun q=>absurd q ha, fun k q=>⟨fun y hy=> .inl ?_, fun _ _=>ha⟩, fun k q=> .inr ?_, fun q=>absurd q ha, fun q=>absurd q ha, fun q=>absurd q ha⟩, fun x y hx hy=> .inl (.inl ⟨(hI x hx).1,(h2 y hy).2, by rw[(h2 y hy).1]; exact(hI x hx).2⟩)⟩
  · rcases h.i.giv k q with a | ⟨a,_⟩
    · exact .inl a
    · refine .inr ⟨fun y hy=> .inl ?_, fun _ _=>ha⟩
      rw[(h2 y hy).1]
      rcases a _ hown with c | c
      · exact c
      · cases c
  · have :=(h2 _ r).1
    have e:I.km.2=n:=this
    have :=hlt q
    omega
  · rw[(h2 y hy).1]
    rcases(h.j.no k q).1 _ hown with c | c
    · exact c
    · cases c
  · rcases h.j.giv k q with a | a
    · have :=a _ hown; cases this
    · exact a
theorem PP.hearGiven (h:PP I J Mi Mj) {n:Int} (hu:J.up) (hk:J.km=(2,n)) (hm:Mi (4,n)) {J':PE} (hs: ∀y,J'.S y→y=(2,n)∨y=(1,n)) (hn: ∃y,J'.S y) (hu':J'.up→ ∀y,J'.S y↔y=J'.km) (ha: ¬J'.act):PP I J' Mi Mj:= by
  have hown:=h.j.own hu
  rw[hk]at hown
  have hI: ∀x,I.S x→x=(3,n):= by
    rcases h.i.giv n hm with a | ⟨a,_⟩
    · exact a
    · rcases a _ hown with c | c
      · have c:n<n:=c
        omega
      · cases c
  have h2: ∀y,J'.S y→y.2=n:= fun y hy=> by rcases hs y hy with e | e<;> subst e<;>rfl
  have hIa: ¬I.act:= fun q=> by
    have h3:=hI _ (h.i.own (h.i.ao q).1)
    have :=(h.i.ao q).2
    rw[h3]at this; cases this
  refine⟨⟨h.i.ne,h.i.one,h.i.ao,h.i.num, fun q=>absurd q hIa,h.i.no, fun k q=> ?_,h.i.pt, fun q=>absurd q hIa,h.i.fz⟩,
    ⟨hn,hu', fun q=>absurd q ha, fun m q y hy=> by rw[h2 y hy]; exact h.j.num m q _ hown, fun q=>absurd q ha, fun k q=>⟨fun y hy=> .inl ?_, fun _ _=>ha⟩, fun k q=> .inr ?_, fun q=>absurd q ha, fun q=>absurd q ha, fun q=>absurd q ha⟩, fun x y hx hy=> ?_⟩
  · rcases h.i.giv k q with a | ⟨a,_⟩
    · exact .inl a
    · refine .inr ⟨fun y hy=> .inl ?_, fun _ _=>ha⟩
      rw[h2 y hy]
      rcases a _ hown with c | c
      · exact c
      · cases c
  · rw[h2 y hy]
    rcases(h.j.no k q).1 _ hown with c | c
    · exact c
    · cases c
  · rcases h.j.giv k q with a | a
    · have :=a _ hown; cases this
    · exact a
  · rw[hI x hx]
    rcases hs y hy with e | e<;> subst e
    · exact .inr (.inr ⟨Qa,Qa,Qa⟩)
    · exact .inr (.inl ⟨rfl, by show(3:Int)≠1;decide,Int.le_refl _⟩)
theorem PP.ready (h:PP I J Mi Mj) {n:Int} (hu:J.up) (hk:J.km.1≠1) (hlt:J.km.2<n) (hm:Mi (1,n)) {J':PE} (hs: ∀y,J'.S y→y=J.km∨y=(2,n)) (hn: ∃y,J'.S y) (hu':J'.up→ ∀y,J'.S y↔y=(2,n)) (hk':J'.up→J'.km=(2,n)) (ha: ¬J'.act) (hM: ∀m,Mj' m→Mj m∨(m=(2,n)∧ ∀y,J'.S y→y=(2,n))):PP I J' Mi Mj':= by
  have hown:=h.j.own hu
  have hI: ∀x,I.S x→x.1=1∧n≤x.2:= fun x hx=> by
    have h1:n≤x.2:=h.i.num _ hm x hx
    refine⟨?_,h1⟩
    rcases h.leg _ _ hx hown with(⟨a,_,b⟩ | ⟨_,_,b⟩) | (⟨a,_⟩ | ⟨_,a,b⟩)
    · exact a
    · omega
    · exact absurd a hk
    · omega
  have h2: ∀y,J'.S y→J.km.2≤y.2∧y.2≤n∧y.1≠1:= fun y hy=> by
    rcases hs y hy with e | e<;> subst e
    · exact⟨Int.le_refl _, by omega,hk⟩
    · exact⟨by show J.km.2≤n;omega,Int.le_refl _, by show(2:Int)≠1;decide⟩
  have hlo: ∀k,Mj (5,k)→k<J.km.2:= fun k q=> by
    rcases(h.j.no k q).1 _ hown with c | c
    · exact c
    · rw[c]at hk; exact absurd Qa hk
  refine⟨⟨h.i.ne,h.i.one,h.i.ao,h.i.num, fun q y hy=> ?_,h.i.no, fun k q=> ?_,h.i.pt, fun q r=> ?_, fun q r=> ?_⟩,
    ⟨hn, fun q y=> by rw[hk' q]; exact hu' q y, fun q=>absurd q ha, fun m q y hy=> ?_, fun q=>absurd q ha, fun k q=>⟨fun y hy=> .inl ?_, fun _ _=>ha⟩, fun k q=> .inr ?_, fun q=>absurd q ha, fun q=>absurd q ha, fun q=>absurd q ha⟩, fun x y hx hy=> .inl (.inl ⟨(hI x hx).1,(h2 y hy).2.2,Int.le_trans (h2 y hy).2.1 (hI x hx).2⟩)⟩
  · have h3:=(hI _ (h.i.own (h.i.ao q).1)).2
    rcases hs y hy with e | e
    · subst e;left;omega
    · subst e
      by_cases e2:n=I.km.2
      · right; rw[e2]
      · left; show n<I.km.2;omega
  · rcases h.i.giv k q with a | ⟨a,_⟩
    · obtain⟨x,hx⟩:=h.i.ne
      have h3:=(hI x hx).1
      rw[a x hx]at h3; cases h3
    · refine .inr ⟨fun y hy=> .inl ?_, fun _ _=>ha⟩
      have h3:=(h2 y hy).1
      rcases a _ hown with c | c
      · omega
      · rw[c]at hk; exact absurd Qa hk
  · rcases hs _ r with e | e
    · exact h.i.ry q (by rw[e]; exact hown)
    · have e2:I.km.2=n:=congrArg Prod.snd e
      exact h.i.pt q (by rw[e2]; exact hm)
  · rcases hM _ r with e | ⟨e,_⟩
    · exact h.i.fz q e
    · have e2:I.km.2=n:=congrArg Prod.snd e
      exact h.i.pt q (by rw[e2]; exact hm)
  · rcases hM m q with e | ⟨e,e2⟩
    · exact Int.le_trans (h.j.num m e _ hown) (h2 y hy).1
    · rw[e2 y hy,e]; exact Int.le_refl _
  · rcases hM _ q with e | ⟨e,_⟩
    · have :=hlo k e; have :=(h2 y hy).1;omega
    · cases e
  · refine⟨fun x hx=> ?_, fun p e r=> ?_⟩
    · have h3:=(hI x hx).2
      left
      have hk2:k≤J.km.2:= by
        rcases hM _ q with e | ⟨e,_⟩
        · exact h.j.num _ e _ hown
        · cases e
      omega
    · have h3:=(hI _ (h.i.own p)).2
      rw[e]at h3
      have h3:n≤k:=h3
      have hk2:k≤J.km.2:= by
        rcases hM _ q with e | ⟨e,_⟩
        · exact h.j.num _ e _ hown
        · cases e
      omega
def qa4 (I:PE) (m:PM):Prop:=I.up∧m.2=I.km.2∧(m.1=4→I.km.1=3)∧(m.1=5→False)∧(m.1=1→I.act→I.fro)∧(m.1=2→I.km.1=2)
theorem PP.says (h:PP I J Mi Mj) (hM: ∀m,Mi' m→Mi m∨qa4 I m):PP I J Mi' Mj:= by
  refine⟨⟨h.i.ne,h.i.one,h.i.ao, fun m q x hx=> ?_,h.i.act, fun n q=> ?_, fun n q=> ?_, fun q r=> ?_,h.i.ry,h.i.fz⟩,
    ⟨h.j.ne,h.j.one,h.j.ao,h.j.num,h.j.act,h.j.no,h.j.giv,h.j.pt,h.j.ry, fun q r=> ?_⟩,h.leg⟩
  · rcases hM m q with e | ⟨u,e,_⟩
    · exact h.i.num m e x hx
    · rw[e,(h.i.one u x).1 hx]; exact Int.le_refl _
  · rcases hM _ q with e | ⟨_,_,_,e,_⟩
    · exact h.i.no n e
    · exact(e Qa).elim
  · rcases hM _ q with e | ⟨u,e,e2,_⟩
    · exact h.i.giv n e
    · refine .inl fun x hx=> ?_
      rw[(h.i.one u x).1 hx]
      have e:n=I.km.2:=e
      rw[e,←e2 Qa]
  · rcases hM _ r with e | ⟨_,_,_,_,e,_⟩
    · exact h.i.pt q e
    · exact e Qa q
  · rcases hM _ r with e | ⟨u,e,_,_,_,e2⟩
    · exact h.j.fz q e
    · refine h.j.ry q ?_
      have e:J.km.2=I.km.2:=e
      have e3:=e2 Qa
      have :=h.i.own u
      rw[e,←e3]
      exact this
theorem PP.saysNo (h:PP I J Mi Mj) {k n:Int} (hk:k=2∨k=3) (hu:I.up) (h1:I.km.1=1) (hm:Mj (k,n)) (hx:I.act→I.km.2=n→k=2∧ ¬I.fro) (hM: ∀m,Mi' m→Mi m∨m=(5,n)):PP I J Mi' Mj:= by
  have hle:n≤I.km.2:= by
    obtain⟨y,hy⟩:=h.j.ne
    exact Int.le_trans (h.j.num _ hm y hy) (h.beside hu h1 hy).2
  refine⟨⟨h.i.ne,h.i.one,h.i.ao, fun m q x hx=> ?_,h.i.act, fun j q=> ?_, fun j q=> ?_, fun q r=> ?_,h.i.ry,h.i.fz⟩,
    ⟨h.j.ne,h.j.one,h.j.ao,h.j.num,h.j.act,h.j.no,h.j.giv,h.j.pt,h.j.ry, fun q r=> ?_⟩,h.leg⟩
  · rcases hM m q with e | e
    · exact h.i.num m e x hx
    · rw[e,(h.i.one hu x).1 hx]; exact hle
  · rcases hM _ q with e | e
    · exact h.i.no j e
    · cases e
      refine⟨fun x hx'=> ?_, fun _ e a=> ?_⟩
      · rw[(h.i.one hu x).1 hx']
        by_cases e:n=I.km.2
        · right; rw[e,←h1]
        · left;omega
      · have e2:I.km.2=n:=congrArg Prod.snd e
        obtain⟨a1,a2⟩:=hx a e2
        subst a1
        exact a2 (h.i.fz a (by rw[e2]; exact hm))
  · rcases hM _ q with e | e
    · exact h.i.giv j e
    · cases e
  · rcases hM _ r with e | e
    · exact h.i.pt q e
    · cases e
  · rcases hM _ r with e | e
    · exact h.j.fz q e
    · cases e
theorem PP.owner (h:PP I J Mi Mj) {x y:KM} (hx:I.S x) (hy:J.S y):(LO x y∧ ¬LO y x)∨(LO y x∧ ¬LO x y):= by
  rcases h.leg x y hx hy with q | q
  · refine .inl ⟨q, fun r=> ?_⟩
    rcases q with⟨a,b,_⟩ | ⟨a,b,_⟩<;> rcases r with⟨c,d,_⟩ | ⟨c,d,_⟩<;>omega
  · refine .inr ⟨q, fun r=> ?_⟩
    rcases q with⟨a,b,_⟩ | ⟨a,b,_⟩<;> rcases r with⟨c,d,_⟩ | ⟨c,d,_⟩<;>omega
end
abbrev AL (α:Type):=List (Int×α)
def QN {α:Type} (l:AL α) (i:Int):Option α:=(l.find? fun e=>decide (e.1=i)).map (·.2)
def X6 {α:Type} (i:Int) (x:α):AL α→AL α
  | []=>[(i,x)]
  | e::l=> if e.1<i then e::X6 i x l else if e.1=i then(i,x)::l else(i,x)::e::l
def Yt {α:Type} (l:AL α) (i:Int):AL α:=l.filter fun e=> !decide (e.1=i)
def XY {α:Type} (l:AL α):List Int:=l.map (·.1)
def Srt {α:Type} (l:AL α):Prop:=(XY l).Pairwise (· < ·)
section
variable {α:Type} {l:AL α} {i j:Int} {x:α} {e:Int×α}
theorem Gu:QN ([]:AL α) i=none:=rfl
theorem XE:QN (e::l) i= if e.1=i then some e.2 else QN l i:= by
  unfold QN
  rw[List.find?_cons]
  by_cases h:e.1=i<;> simp [h]
theorem JC (h:QN l i=some x):(i,x)∈l:= by
  induction l with
  | nil=> cases h
  | cons e l ih=>
    rw[XE]at h
    by_cases q:e.1=i
    · rw[if_pos q]at h; cases h; subst q; exact List.mem_cons_self
    · rw[if_neg q]at h; exact List.mem_cons_of_mem _ (ih h)
theorem H4:QN l i=none↔i∉XY l:= by
  induction l with
  | nil=> simp [Gu,XY]
  | cons e l ih=>
    rw[XE]
    by_cases q:e.1=i
    · simp [q,XY]
    · rw[if_neg q,ih]; simp [XY,Ne.symm q]
theorem Jv:(∃x,QN l i=some x)↔i∈XY l:= by
  rw[←Decidable.not_not (p:=i∈XY l),←H4,←Option.ne_none_iff_exists']
theorem Srt.tail (h:Srt (e::l)):Srt l:=(List.pairwise_cons.1 h).2
theorem Srt.head (h:Srt (e::l)): ∀k∈XY l,e.1<k:=(List.pairwise_cons.1 h).1
theorem Hk (h:Srt l) (hm:(i,x)∈l):QN l i=some x:= by
  induction l with
  | nil=> cases hm
  | cons e l ih=>
    rw[XE]
    rcases List.mem_cons.1 hm with q | q
    · subst q; rw[if_pos Qa]
    · have :=h.head i (List.mem_map.2 ⟨_,q,rfl⟩)
      rw[if_neg (by omega)]; exact ih h.tail q
theorem Ip {k:Int}:k∈XY (X6 i x l)↔k=i∨k∈XY l:= by
  induction l with
  | nil=> simp [X6,XY]
  | cons e l ih=>
    unfold X6
    by_cases h1:e.1<i
    · rw[if_pos h1]
      show k∈e.1::XY _↔_
      rw[List.mem_cons,ih]
      show _↔k=i∨k∈e.1::XY l
      rw[List.mem_cons]
      constructor
      · rintro(a | a | a)
        · exact .inr (.inl a)
        · exact .inl a
        · exact .inr (.inr a)
      · rintro(a | a | a)
        · exact .inr (.inl a)
        · exact .inl a
        · exact .inr (.inr a)
    · rw[if_neg h1]
      by_cases h2:e.1=i
      · rw[if_pos h2]; subst h2
        show k∈e.1::XY l↔k=e.1∨k∈e.1::XY l
        simp
      · rw[if_neg h2]
        show k∈i::e.1::XY l↔k=i∨k∈e.1::XY l
        simp
theorem Srt.put (h:Srt l):Srt (X6 i x l):= by
  induction l with
  | nil=> exact List.pairwise_singleton _ _
  | cons e l ih=>
    unfold X6
    by_cases h1:e.1<i
    · rw[if_pos h1]
      refine List.pairwise_cons.2 ⟨fun k hk=> ?_,ih h.tail⟩
      rcases Ip.1 hk with q | q
      · subst q; exact h1
      · exact h.head k q
    · rw[if_neg h1]
      by_cases h2:e.1=i
      · rw[if_pos h2]; subst h2; exact h
      · rw[if_neg h2]
        refine List.pairwise_cons.2 ⟨fun k hk=> ?_,h⟩
        rcases List.mem_cons.1 hk with q | q
        · subst q; show i<e.1;omega
        · have :=h.head k q; show i<k;omega
theorem ZR (h:Srt l):QN (X6 i x l) j= if j=i then some x else QN l j:= by
  induction l with
  | nil=>
    show QN [(i,x)] j=_
    rw[XE]
    by_cases q:j=i
    · rw[if_pos q,if_pos q.symm]
    · rw[if_neg q,if_neg (fun r=>q r.symm)]
  | cons e l ih=>
    unfold X6
    by_cases h1:e.1<i
    · rw[if_pos h1,XE,XE,ih h.tail]
      by_cases q:e.1=j
      · rw[if_pos q,if_pos q,if_neg (by omega)]
      · rw[if_neg q,if_neg q]
    · rw[if_neg h1]
      by_cases h2:e.1=i
      · rw[if_pos h2,XE,XE]
        by_cases q:j=i
        · rw[if_pos q,if_pos q.symm]
        · rw[if_neg q,if_neg (fun r=>q r.symm),if_neg (by omega)]
      · rw[if_neg h2,XE]
        by_cases q:j=i
        · rw[if_pos q,if_pos q.symm]
        · rw[if_neg q,if_neg (fun r=>q r.symm)]
theorem Srt.del (h:Srt l):Srt (Yt l i):= by
  unfold Srt XY Yt at *
  exact h.sublist (List.Sublist.map _ List.filter_sublist)
theorem Y7:QN (Yt l i) j= if j=i then none else QN l j:= by
  induction l with
  | nil=> simp [Yt,Gu]
  | cons e l ih=>
    unfold Yt at ih⊢
    rw[List.filter_cons]
    by_cases h1:e.1=i
    · rw[if_neg (by simp [h1]),ih,XE]
      by_cases q:j=i
      · rw[if_pos q,if_pos q]
      · rw[if_neg q,if_neg q,if_neg (by omega)]
    · rw[if_pos (by simp [h1]),XE,XE,ih]
      by_cases q:e.1=j
      · rw[if_pos q,if_pos q,if_neg (by omega)]
      · rw[if_neg q,if_neg q]
theorem Pd (h:Srt l):(X6 i x l).length= if(QN l i).isSome=true then l.length else l.length+1:= by
  induction l with
  | nil=>rfl
  | cons e l ih=>
    unfold X6
    by_cases h1:e.1<i
    · rw[if_pos h1,List.length_cons,ih h.tail,XE,if_neg (show ¬e.1=i by omega),List.length_cons]
      split<;>rfl
    · rw[if_neg h1]
      by_cases h2:e.1=i
      · rw[if_pos h2,XE,if_pos h2];rfl
      · rw[if_neg h2]
        have hn:QN (e::l) i=none:=H4.2 fun hm=> by
          rcases List.mem_cons.1 hm with q | q
          · exact h2 q.symm
          · have :=h.head i q;omega
        rw[hn];rfl
theorem N6: ∀{l m:AL α},Srt l→Srt m→(∀i,QN l i=QN m i)→l=m
  | [],[],_,_,_=>rfl
  | [],e::m,_,_,h=> by
    have :=h e.1
    rw[XE,if_pos Qa,Gu]at this; cases this
  | e::l,[],_,_,h=> by
    have :=h e.1
    rw[XE,if_pos Qa,Gu]at this; cases this
  | e::l,f::m,hl,hm,h=> by
    have h1:e.1=f.1:= by
      have a:=h e.1
      have b:=h f.1
      rw[XE,if_pos Qa]at a
      rw[XE (e:=f),if_pos Qa]at b
      have a1:=(Jv (l:=f::m) (i:=e.1)).1 ⟨_,a.symm⟩
      have b1:=(Jv (l:=e::l) (i:=f.1)).1 ⟨_,b⟩
      rcases List.mem_cons.1 a1 with q | q
      · exact q
      · rcases List.mem_cons.1 b1 with r | r
        · exact r.symm
        · have :=hm.head _ q; have :=hl.head _ r;omega
    have h2:e.2=f.2:= by
      have a:=h e.1
      rw[XE,if_pos Qa,XE,if_pos h1.symm]at a
      exact Option.some.inj a
    have h3:e=f:=Prod.ext h1 h2
    subst h3
    rw[N6 hl.tail hm.tail fun i=> ?_]
    have a:=h i
    rw[XE,XE]at a
    by_cases q:e.1=i
    · subst q
      rw[H4.2 fun r=> by have :=hl.head _ r;omega,H4.2 fun r=> by have :=hm.head _ r;omega]
    · rw[if_neg q,if_neg q]at a; exact a
theorem Hl {β:Type} {f:Int×α→β}:QN (l.map fun e=>(e.1,f e)) i=(QN l i).map fun x=>f (i,x):= by
  induction l with
  | nil=>rfl
  | cons e l ih=>
    rw[List.map_cons,XE,XE,ih]
    by_cases q:e.1=i
    · subst q; simp
    · rw[if_neg q,if_neg q]
theorem Srt.map {β:Type} {f:Int×α→β} (h:Srt l):Srt (l.map fun e=>(e.1,f e)):= by
  unfold Srt XY at *
  rw[List.map_map]
  exact h
end
structure PgD where
  data:Bs
  ver:Int
  sent:Int
  miss:Bool
structure SeD where
  state:Bs
  count:Int
  pages:AL PgD
structure OfD where
  move:Int
  parts:AL Bs
  many:Int
  pages:AL PgD
  list:Bs
structure EnD where
  D:DS
  cell:Option CS
  kind:Int
  move:Int
  ses:Option SeD
  active:Bool
  frozen:Bool
  next:Int
  told:Bool
  off:Option OfD
structure MsD where
  kind:Int
  move:Int
  a:Int
  b:Int
  data:Bs
def Zy (m:MsD):Bs:=Xi m.kind++Xi m.move++Xi m.a++Xi m.b++HO m.data
def Ze (E:EnD) (kind a b:Int) (d:Bs):Bs:=Zy ⟨kind,E.move,a,b,d⟩
def Ur (s:Bs):Int×Int:=
  if Xi (Zl 59 (-9223372036854775808:Int) (s,false))++Xi (Zl 59 (-9223372036854775808:Int) (Zh 59 (-9223372036854775808:Int) (s,false)))≠s∨Zl 59 (-9223372036854775808:Int) (s,false)<0∨4≤Zl 59 (-9223372036854775808:Int) (s,false)∨Zl 59 (-9223372036854775808:Int) (Zh 59 (-9223372036854775808:Int) (s,false))<0 then(0,0)else(Zl 59 (-9223372036854775808:Int) (s,false),Zl 59 (-9223372036854775808:Int) (Zh 59 (-9223372036854775808:Int) (s,false)))
def JS:EnD:=⟨newD,some (RG 0),0,0,none,false,false,0,false,none⟩
def BH (E:EnD):EnD:=⟨E.D,none,0,0,none,false,false,0,false,none⟩
def QS (E:EnD) (k m:Int):Int×EnD:= match E.cell with
  | none=>(0,E)
  | some C=> if(ZB E.D C (Xi k++Xi m)).e≠0 then((ZB E.D C (Xi k++Xi m)).e,BH {E with D:=(ZB E.D C (Xi k++Xi m)).D})else(0,{E with D:=(ZB E.D C (Xi k++Xi m)).D,cell:=some (ZB E.D C (Xi k++Xi m)).C,kind:=k,move:=m})
def upE (E:EnD):Bool:=E.cell.isSome
def Hu (E:EnD):Bool:=upE E&&decide (E.kind=1)
def Z5 (E:EnD):Bool:=Hu E&&E.ses.isSome&& !E.frozen
structure SsD where
  state:Bs
  sheets:AL Bs
def Jt:Int→AL Bs→Bool
  | _,[]=>true
  | last,e::l=>decide (last<e.1)&&decide (e.1≤1099511627776)&&decide (e.2.length=64)&&Jt e.1 l
def Zi (s:SsD):Bool:=Jt 0 s.sheets&&decide (s.state.length≤1048576)&&decide (s.sheets.length≤8192)
def Yr (s:SsD):SeD:=⟨s.state,1,s.sheets.map fun e=>(e.1,⟨e.2,1,0,false⟩)⟩
def Z3 (E:EnD) (s:SsD):Int×EnD:=
  if upE E=false then(9,E)else if Zi s=false then(2,E)
  else if ¬(E.kind=0∧E.move=0)∧(E.kind≠1∨E.ses.isSome=true)then(7,E)
  else if E.kind=0∧E.move=0 then
    if(QS E 1 1).1≠0 then QS E 1 1 else(0,{(QS E 1 1).2 with ses:=some (Yr s),active:=false,frozen:=false,told:=true})
  else(0,{E with ses:=some (Yr s),active:=false,frozen:=false,told:=true})
def Wd (l:AL PgD):List Int:=(l.filter fun e=>e.2.miss).map (·.1)
def QP (E:EnD):List Int:= match E.ses with | none=>[] | some s=>Wd s.pages
def Xf (s:SeD):Bs:=HO s.state++Xi (s.pages.length:Int)++s.pages.flatMap fun e=>Xi e.1++Xi e.2.ver
def Wi (E:EnD):Int×EnD:=
  if Z5 E=false∨QP E≠[]∨E.active=true then(7,E)
  else if(QS E 1 (E.move+1)).1≠0 then QS E 1 (E.move+1)
  else(0,{(QS E 1 (E.move+1)).2 with active:=true,next:=0,ses:=(QS E 1 (E.move+1)).2.ses.map fun s=>{s with pages:=s.pages.map fun e=>(e.1,{e.2 with sent:=0})}})
def Zb (E:EnD):Int×EnD:= if Z5 E=false∨E.active=false then(7,E)else(0,{E with frozen:=true})
def HC (E:EnD):Int×EnD:= if Hu E=false∨E.active=false then(7,E)else(0,{E with active:=false,frozen:=false})
def Zr (E:EnD) (n:Int):Option OfD:=
  if E.kind=1∨n≤E.move then none else match E.off with
  | none=>some ⟨n,[],0,[],[]⟩
  | some o=> if n<o.move then none else if o.move<n then some ⟨n,[],0,[],[]⟩else some o
def pushG (E:EnD):Nat→AL PgD→AL PgD×List Bs
  | _,[]=>([],[])
  | k,e::l=> if e.2.ver=e.2.sent then(e::(pushG E k l).1,(pushG E k l).2)else match k with
    | 0=>(e::l,[])
    | k+1=>((e.1,{e.2 with sent:=e.2.ver})::(pushG E k l).1,Ze E 0 e.1 e.2.ver e.2.data::(pushG E k l).2)
def ZM (E:EnD) (l:Bs) (n:Int):Nat→Int→Int×List Bs
  | 0,nx=>(nx,[])
  | k+1,nx=>((ZM E l n k ((nx+1)%n)).1,Ze E 1 nx n ((l.drop (200*nx).toNat).take 200)::(ZM E l n k ((nx+1)%n)).2)
def Xa (l:Bs):Int:=((l.length:Int)+199)/ 200
def X7 (E:EnD):EnD×List Bs:=
  if upE E=false then(E,[])
  else if E.kind=2 then(E,[Ze E (if(match E.off with | some o=>decide (o.move=E.move) | none=>false)=true then 2 else 3) 0 0 []])
  else if E.kind≠1 then(E,[])else match E.ses with
  | none=>(E,[])
  | some s=> if E.active=true then
      let q:=pushG E 4 s.pages
      let E1:={E with ses:=some {s with pages:=q.1}}
      if E.frozen=false then(E1,q.2)else
        let l:=Xf {s with pages:=q.1}
        let r:=ZM E l (Xa l) (min (Xa l) 32).toNat E.next
        ({E1 with next:=r.1},q.2++r.2)
    else(E,((Wd s.pages).take 4).map (fun i=>Ze E 6 i 0 [])++(if Wd s.pages=[]∧E.told=false then[Ze E 8 0 0 []]else[]))
def Xp (E:EnD) (m:MsD):EnD:=
  if E.kind≠1 then match Zr E m.move with
    | none=>E
    | some o=>{E with off:=some (if(match QN o.pages m.a with | none=>true | some p=>decide (p.ver<m.b))=true then{o with pages:=X6 m.a ⟨m.data,m.b,0,false⟩ o.pages}else o)}
  else match E.ses with
    | none=>E
    | some s=> if m.move≠E.move∨m.data.length≠64 then E else match QN s.pages m.a with
      | none=>E
      | some p=> if p.miss=true∧p.ver=m.b then{E with ses:=some {s with pages:=X6 m.a {p with miss:=false,data:=m.data} s.pages}}else E
def ZC (o:OfD):Bs:=(List.range o.many.toNat).flatMap fun (i:Nat)=>(QN o.parts (i:Int)).getD []
def Ut:Nat→Bs×Bool→Int→Option (AL PgD)
  | 0,_,_=>some []
  | n+1,z,last=>
    if Zl 59 (-9223372036854775808:Int) z≤last∨1099511627776<Zl 59 (-9223372036854775808:Int) z∨Zl 59 (-9223372036854775808:Int) (Zh 59 (-9223372036854775808:Int) z)<1 then none
    else(Ut n (Zh 59 (-9223372036854775808:Int) (Zh 59 (-9223372036854775808:Int) z)) (Zl 59 (-9223372036854775808:Int) z)).map fun l=>(Zl 59 (-9223372036854775808:Int) z,⟨[],Zl 59 (-9223372036854775808:Int) (Zh 59 (-9223372036854775808:Int) z),0,true⟩)::l
def Hh (l:AL PgD):Int:=l.foldl (fun c e=>max c e.2.ver) 0
def Wp (l:Bs):Option SeD×Bool:=
  match Ut (min (Zl 59 0 (Uo (l,false))) 8193).toNat (Zh 59 0 (Uo (l,false))) 0 with
  | none=>(none,false)
  | some pg=>(some ⟨V8 (l,false),Hh pg,pg⟩,decide ((V8 (l,false)).length≤1048576)&&decide (pg.length≤8192)&&decide (Xf ⟨V8 (l,false),Hh pg,pg⟩=l))
def Xr (o:OfD) (b:Int):OfD:= if o.parts=[]then{o with many:=b}else o
def Ww (o:OfD) (m:MsD):OfD:= if(QN o.parts m.a).isSome=true then o else{o with parts:=X6 m.a m.data o.parts}
def Yx (E:EnD) (n:Int):EnD×List Bs:= if(QS E 2 n).1≠0 then((QS E 2 n).2,[])else({(QS E 2 n).2 with ses:=none},[Ze (QS E 2 n).2 2 0 0 []])
def Xo (E:EnD) (m:MsD):EnD×List Bs:=
  if m.b<1∨8000<m.b∨m.a<0∨m.b≤m.a then(E,[])else match Zr E m.move with
  | none=>(E,[])
  | some o=>
    if(Xr o m.b).many≠m.b then({E with off:=some (Xr o m.b)},[])else
    if((Ww (Xr o m.b) m).parts.length:Int)<(Ww (Xr o m.b) m).many then({E with off:=some (Ww (Xr o m.b) m)},[])else
    if(Wp (ZC (Ww (Xr o m.b) m))).2=false then({E with off:=some (Ww (Xr o m.b) m)},[])else
    Yx {E with off:=some {Ww (Xr o m.b) m with list:=ZC (Ww (Xr o m.b) m)}} m.move
def Xh (E:EnD) (m:MsD):EnD×List Bs:=
  if E.kind=3∧m.move=E.move then(E,[Ze E 4 0 0 []])
  else if E.kind≠1 then(E,[])
  else if m.kind=2∧m.move=E.move∧E.active=true∧E.frozen=true then
    if(QS E 3 E.move).1≠0 then((QS E 3 E.move).2,[])else({(QS E 3 E.move).2 with active:=false},[Ze (QS E 3 E.move).2 4 0 0 []])
  else if m.kind=3∧m.move=E.move∧E.active=true then({E with active:=false,frozen:=false},[Zy ⟨5,m.move,0,0,[]⟩])
  else(E,[Zy ⟨5,m.move,0,0,[]⟩])
def U0 (o:OfD) (l:AL PgD):AL PgD:=l.map fun e=>(e.1, match QN o.pages e.1 with
  | none=>e.2
  | some g=> if g.ver=e.2.ver∧g.data.length=64 then⟨g.data,e.2.ver,0,false⟩else e.2)
def XB (E:EnD) (m:MsD):EnD:=
  if E.kind≠2∨m.move≠E.move then E
  else if(QS E 1 m.move).1≠0 then(QS E 1 m.move).2
  else match E.off with
    | none=>{(QS E 1 m.move).2 with off:=none}
    | some o=> if o.move≠m.move then{(QS E 1 m.move).2 with off:=none}
      else{(QS E 1 m.move).2 with off:=none,ses:=(Wp o.list).1.map fun s=>{s with pages:=U0 o s.pages},told:=false,active:=false,frozen:=false}
def WF (E:EnD) (m:MsD):EnD:=
  if E.kind=2∧m.move=E.move then(if(QS E 0 m.move).1≠0 then(QS E 0 m.move).2 else{(QS E 0 m.move).2 with off:=none})else E
def Zv (E:EnD) (m:MsD):List Bs:=
  if E.kind≠3∨m.move≠E.move then[]else match E.ses with
  | none=>[Ze E 7 0 0 []]
  | some s=> match QN s.pages m.a with
    | none=>[]
    | some p=>[Ze E 0 m.a p.ver p.data]
def ZL (E:EnD) (m:MsD):EnD:= if E.kind=1∧m.move=E.move∧E.active=false∧QP E≠[]then{E with ses:=none}else E
def Z6 (E:EnD) (m:MsD):EnD×List Bs:= if E.kind≠3∨m.move≠E.move then(E,[])else({E with ses:=none},[Ze E 9 0 0 []])
def Jd (E:EnD) (m:MsD):EnD:= if E.kind=1∧m.move=E.move then{E with told:=true}else E
def QU (s:Bs):MsD:=
  let z0:=(s,false);let z1:=Zh 59 (-9223372036854775808:Int) z0;let z2:=Zh 59 (-9223372036854775808:Int) z1;let z3:=Zh 59 (-9223372036854775808:Int) z2;let z4:=Zh 59 (-9223372036854775808:Int) z3
  ⟨Zl 59 (-9223372036854775808:Int) z0,Zl 59 (-9223372036854775808:Int) z1,Zl 59 (-9223372036854775808:Int) z2,Zl 59 (-9223372036854775808:Int) z3,V8 z4⟩
def X8 (E:EnD) (m:MsD):EnD×List Bs:=
  if m.kind=0 then(Xp E m,[])
  else if m.kind=1 then Xo E m
  else if m.kind=2∨m.kind=3 then Xh E m
  else if m.kind=4 then(XB E m,[])
  else if m.kind=5 then(WF E m,[])
  else if m.kind=6 then(E,Zv E m)
  else if m.kind=7 then(ZL E m,[])
  else if m.kind=8 then Z6 E m
  else(Jd E m,[])
def X9 (E:EnD) (s:Bs):EnD×List Bs:=
  if upE E=false∨(QU s).kind<0∨9<(QU s).kind∨(QU s).move<0∨4611686018427387904<(QU s).move∨Zy (QU s)≠s then(E,[])else X8 E (QU s)
def WD (E:EnD):Int×Int:= if WP (ZA E.D) 0=0 then Ur (Hf (ZA E.D) 0).val else(0,0)
def FH (E:EnD) (ks:List Int):EnD:=BH {E with D:=ZY E.D ks}
def UW (E:EnD):Int×EnD:=
  if upE E=true then(7,E)
  else if Wa (ZA E.D) 0≠0 then(Wa (ZA E.D) 0,{E with D:=Zq (ZA E.D) 0})
  else if WP (Zq (ZA E.D) 0) 0≠0 then(WP (Zq (ZA E.D) 0) 0,{E with D:=Zq (ZA E.D) 0})
  else(0,{E with D:=Zq (ZA E.D) 0,cell:=some (Hf (Zq (ZA E.D) 0) 0),kind:=(Ur (Hf (Zq (ZA E.D) 0) 0).val).1,move:=(Ur (Hf (Zq (ZA E.D) 0) 0).val).2})
def J5 (x y:Int×Int):Int:=
  if x.1=1 then 0 else if y.1=1 then 1 else if x.2=y.2∧x.1=2∧y.1=3 then 0 else if x.2=y.2∧y.1=2∧x.1=3 then 1 else -1
def alw (S:KM→Prop):Nat→Bytes→Prop:= fun _ v=>S (Ur v)
structure EI (E:EnD) (S:KM→Prop):Prop where
  up: ∀C,E.cell=some C→Good E.D 0 C (alw S)∧Uh E.D 0 C∧Ur C.val=(E.kind,E.move)∧ ∀x,S x↔x=(E.kind,E.move)
  dn:E.cell=none→ ∃C,OkSt E.D 0 C (alw S)
  off:E.cell=none→E.active=false
theorem Ar {D:DS} {C:CS} {P:Nat→Bytes→Prop} (h:Good D 0 C P):WP (ZA D) 0=0∧Hf (ZA D) 0=⟨0,C.slot,C.val,false⟩:= by
  have hd0:D.down=false:= by
    cases hq:D.down with
    | false=>rfl
    | true=> have :=h.up; rw[Wf,hq]at this; cases this
  have e:ZA D=D:= by cases D; simp [ZA]at hd0⊢; exact hd0
  rw[e]
  exact Gk h.up h.now
theorem EI.stored {E:EnD} {S:KM→Prop} (h:EI E S):S (WD E):= by
  have key: ∀{C:CS},OkSt E.D 0 C (alw S)→S (WD E):= fun {C} hc=> by
    rcases hc with hg | hd
    · obtain⟨a,b⟩:=Ar hg
      unfold WD
      rw[if_pos a,b]
      exact hg.pc
    · obtain⟨a,s,v,b,_,c,_⟩:=hd.reopen
      unfold WD
      rw[if_pos a,b]
      exact c
  cases q:E.cell with
  | none=> obtain⟨C,hc⟩:=h.dn q; exact key hc
  | some C=> exact key (.inl (h.up C q).1)
theorem EI.ne {E:EnD} {S:KM→Prop} (h:EI E S): ∃x,S x:=⟨_,h.stored⟩
theorem O9 {k m:Int} (hk:0≤k∧k<4) (hm:0≤m∧Xy m):Ur (Xi k++Xi m)=(k,m):= by
  obtain⟨a1,a2⟩:=Hg (m:=k) (rest:=Xi m) (least:=(-9223372036854775808:Int)) (by unfold Xy;omega) (by omega)
  obtain⟨b1,b2⟩:=Hg (m:=m) (rest:=[]) (least:=(-9223372036854775808:Int)) hm.2 (by omega)
  rw[List.append_nil]at b1 b2
  unfold Ur
  rw[a1,a2,b1,if_neg]
  rintro(q | q | q | q)
  · exact q Qa
  · omega
  · omega
  · omega
theorem EI.note {E:EnD} {S:KM→Prop} (h:EI E S) (hu:E.cell≠none) {k m:Int} (hk:0≤k∧k<4) (hm:0≤m∧Xy m):
    ((QS E k m).1=0∧EI (QS E k m).2 (fun x=>x=(k,m))∧ ∃D C,(QS E k m).2={E with D:=D,cell:=some C,kind:=k,move:=m})∨
    ((QS E k m).1≠0∧EI (QS E k m).2 (fun x=>S x∨x=(k,m))∧ ∃D,(QS E k m).2=BH {E with D:=D}):= by
  obtain⟨C,hC⟩:=Option.ne_none_iff_exists'.1 hu
  obtain⟨hg,hf,hv,hS⟩:=h.up C hC
  have hr:=O9 hk hm
  have hs:=(hg.widen (P':=alw fun x=>S x∨x=(k,m)) fun s v q=> .inl q).set (Xi k++Xi m) (fun sl _=> .inr hr)
  unfold QS
  rw[hC]
  dsimp only
  by_cases e:(ZB E.D C (Xi k++Xi m)).e=0
  · rw[if_neg (by simpa using e)]
    obtain⟨g2,f2,_,v2,_,_⟩:=hs.2 e
    refine .inl ⟨rfl,⟨fun C' q=> ?_, fun q=>(by cases q), fun q=>(by cases q)⟩,_,_,rfl⟩
    cases q
    exact⟨g2.narrow f2 (by show Ur _=_; rw[v2]; exact hr),f2, by show Ur _=_; rw[v2]; exact hr, fun x=>Iff.rfl⟩
  · rw[if_pos (by simpa using e)]
    exact .inr ⟨e,⟨fun C' q=>(by cases q), fun _=>⟨_,hs.1⟩, fun _=>rfl⟩,_,rfl⟩
theorem EI.crash {E:EnD} {S:KM→Prop} (h:EI E S) (ks:List Int):EI (FH E ks) S:= by
  refine⟨fun C q=>(by cases q), fun _=> ?_, fun _=>rfl⟩
  cases q:E.cell with
  | none=> obtain⟨C,hc⟩:=h.dn q; exact⟨C,.inr (hc.crash ks)⟩
  | some C=> exact⟨C,.inr ((h.up C q).1.crash ks)⟩
theorem EI.disk {E:EnD} {S:KM→Prop} (h:EI E S) {D:DS} (h1: ∀C,OkSt E.D 0 C (alw S)→OkSt D 0 C (alw S)) (h2: ∀C,Good E.D 0 C (alw S)→Uh E.D 0 C→Good D 0 C (alw S)∧Uh D 0 C):EI {E with D:=D} S:=
  ⟨fun C q=> by obtain⟨a,b,c,d⟩:=h.up C q; exact⟨(h2 C a b).1,(h2 C a b).2,c,d⟩, fun q=> by obtain⟨C,hc⟩:=h.dn q; exact⟨C,h1 C hc⟩,h.off⟩
theorem EI.start {E:EnD} {S:KM→Prop} (h:EI E S):
    (∃x D C,S x∧(UW E).1=0∧(UW E).2={E with D:=D,cell:=some C,kind:=x.1,move:=x.2}∧E.cell=none∧EI (UW E).2 (fun y=>y=x))∨((UW E).1≠0∧EI (UW E).2 S∧ ∃D,(UW E).2={E with D:=D}):= by
  unfold UW
  cases q:E.cell with
  | some C0=>
    refine .inr ?_
    have hu:upE E=true:= by unfold upE; rw[q];rfl
    rw[if_pos hu]
    exact⟨by show(7:Int)≠0;decide,h,E.D, by cases E; dsimp only at q; subst q;rfl⟩
  | none=>
    have hu: ¬upE E=true:= by unfold upE; rw[q]; simp
    rw[if_neg hu]
    obtain⟨C,hc⟩:=h.dn q
    obtain⟨C2,hg⟩: ∃C2,Good (ZA E.D) 0 C2 (alw S):= by
      rcases hc with hg | hd
      · refine⟨C, ?_⟩
        have hd0:E.D.down=false:= by
          cases hq:E.D.down with
          | false=>rfl
          | true=> have :=hg.up; rw[Wf,hq]at this; cases this
        exact hg.congr Qa (fun _ hp _=>hp) hd0.symm
      · obtain⟨_,s,v,_,_,_,b,_⟩:=hd.reopen
        exact⟨_,b⟩
    obtain⟨hs1,hs2⟩:=hg.sync
    by_cases e:Wa (ZA E.D) 0=0
    · rw[if_neg (by simpa using e)]
      obtain⟨g3,f3⟩:=hs2 e false
      obtain⟨o1,o2⟩:=Gk g3.up g3.now
      rw[if_neg (by rw[o1]; simp),o2]
      dsimp only
      refine .inl ⟨Ur C2.val,_,_,hg.pc,rfl,rfl,rfl, fun C' q'=> ?_, fun q'=>(by cases q'), fun q'=>(by cases q')⟩
      cases q'
      obtain⟨g4,f4⟩:=hs2 e false
      have g5:Good (Zq (ZA E.D) 0) 0 ⟨0,C2.slot,C2.val,false⟩ (alw S):= by
        have :=hg.cf
        cases C2; dsimp only at this; subst this; exact g4
      exact⟨g5.narrow (by cases C2; exact f4) Qa, by cases C2; exact f4,rfl, fun x=>Iff.rfl⟩
    · rw[if_pos (by simpa using e)]
      exact .inr ⟨by simpa using e,⟨fun C' q'=>(by cases q'), fun _=>⟨C2,hs1 e⟩, fun _=>h.off q⟩,_,rfl⟩
def HS (E:EnD) (S:KM→Prop):PE:=⟨S,E.cell≠none,(E.kind,E.move),E.active=true,E.frozen=true⟩
theorem Li (s:Bs):0≤(Ur s).1∧(Ur s).1<4∧0≤(Ur s).2∧Xy (Ur s).2:= by
  unfold Ur
  split
  · exact⟨by decide, by decide, by decide, by unfold Xy;decide⟩
  · rename_i h
    have h2: ¬Zl 59 (-9223372036854775808:Int) (s,false)<0:= fun q=>h (.inr (.inl q))
    have h3: ¬4≤Zl 59 (-9223372036854775808:Int) (s,false):= fun q=>h (.inr (.inr (.inl q)))
    have h4: ¬Zl 59 (-9223372036854775808:Int) (Zh 59 (-9223372036854775808:Int) (s,false))<0:= fun q=>h (.inr (.inr (.inr q)))
    exact⟨by dsimp only;omega, by dsimp only;omega, by dsimp only;omega,Yl _ _ _⟩
theorem EI.rg {E:EnD} {S:KM→Prop} (h:EI E S) (hu:E.cell≠none):0≤E.kind∧E.kind<4∧0≤E.move∧Xy E.move:= by
  obtain⟨C,hC⟩:=Option.ne_none_iff_exists'.1 hu
  have :=Li C.val
  rw[(h.up C hC).2.2.1]at this
  exact this
theorem EI.same {E E':EnD} {S:KM→Prop} (h:EI E S) (h1:E'.D=E.D) (h2:E'.cell=E.cell) (h3:E'.kind=E.kind) (h4:E'.move=E.move) (h5:E'.active=E.active∨E'.active=false):EI E' S:= by
  refine⟨fun C q=> ?_, fun q=> ?_, fun q=> ?_⟩
  · rw[h1,h3,h4]; exact h.up C (h2▸q)
  · rw[h1]; exact h.dn (h2▸q)
  · rcases h5 with e | e
    · rw[e]; exact h.off (h2▸q)
    · exact e
theorem ON {E E':EnD} {S:KM→Prop} (h2:E'.cell=E.cell) (h3:E'.kind=E.kind) (h4:E'.move=E.move) (h5:E'.active=E.active) (h6:E'.frozen=E.frozen):HS E' S=HS E S:= by
  unfold HS; rw[h2,h3,h4,h5,h6]
def MX (b:Bs):PM:=((QU b).kind,(QU b).move)
theorem CE {k n a b:Int} {d:Bs} (hk:Xy k) (hn:Xy n):MX (Zy ⟨k,n,a,b,d⟩)=(k,n):= by
  have e:Zy ⟨k,n,a,b,d⟩=Xi k++(Xi n++(Xi a++Xi b++HO d)):= by unfold Zy; simp only[List.append_assoc]
  unfold MX QU
  dsimp only
  rw[e]
  obtain⟨a1,a2⟩:=Hg (m:=k) (rest:=Xi n++(Xi a++Xi b++HO d)) (least:=(-9223372036854775808:Int)) hk (by unfold Xy at hk;omega)
  obtain⟨b1,b2⟩:=Hg (m:=n) (rest:=Xi a++Xi b++HO d) (least:=(-9223372036854775808:Int)) hn (by unfold Xy at hn;omega)
  rw[a1,a2,b1]
theorem Io {k:Int} (h:0≤k∧k≤9):Xy k:= by unfold Xy;omega
theorem CD {E:EnD} {S:KM→Prop} (h:EI E S) (hu:E.cell≠none) {k a b:Int} {d:Bs} (hk:0≤k∧k≤9):MX (Ze E k a b d)=(k,E.move):=CE (Io hk) (h.rg hu).2.2.2
def Bnd (I:PE) (S S':KM→Prop):Prop:= ∀t:Int,(∀x,S x→x.2≤t)→(∀x,I.S x→x.2≤t)→ ∀x,S' x→x.2≤t
theorem Bnd.same (I:PE) (S:KM→Prop):Bnd I S S:= fun _ a _=>a
theorem Bnd.of {I:PE} {S S':KM→Prop} {n:Int} (h: ∀x,S' x→S x∨x.2=n) (hn:(∃y,S y∧n≤y.2)∨ ∃y,I.S y∧n≤y.2):Bnd I S S':= fun t a b x hx=> by
  rcases h x hx with q | q
  · exact a x q
  · rw[q]
    rcases hn with⟨y,hy,e⟩ | ⟨y,hy,e⟩
    · exact Int.le_trans e (a y hy)
    · exact Int.le_trans e (b y hy)
def JG (I:PE) (S:KM→Prop) (E':EnD) (Mi Mj:PM→Prop) (out:List Bs):Prop:= ∃S',EI E' S'∧PP I (HS E' S') Mi (fun m=>Mj m∨ ∃b∈out,m=MX b)∧Bnd I S S'
section
variable {I:PE} {E E':EnD} {S:KM→Prop} {Mi Mj:PM→Prop}
theorem H0 (h:PP I (HS E S) Mi Mj):PP I (HS E S) Mi (fun m=>Mj m∨ ∃b∈([]:List Bs),m=MX b):=
  h.less (fun _ q=>q) fun m q=>q.elim id fun ⟨b,hb,_⟩=> by cases hb
theorem YQ (hi:EI E S) (h:PP I (HS E S) Mi Mj) (h1:E'.D=E.D) (h2:E'.cell=E.cell) (h3:E'.kind=E.kind) (h4:E'.move=E.move) (h5:E'.active=E.active) (h6:E'.frozen=E.frozen) {out:List Bs}
    (ho: ∀b∈out,qa4 (HS E S) (MX b)):JG I S E' Mi Mj out:= by
  refine⟨S,hi.same h1 h2 h3 h4 (.inl h5), ?_,Bnd.same _ _⟩
  rw[ON h2 h3 h4 h5 h6]
  refine(h.swap.says fun m q=> ?_).swap
  rcases q with q | ⟨b,hb,e⟩
  · exact .inl q
  · rw[e]; exact .inr (ho b hb)
theorem H9 (hi:EI E S) (hu:E.cell≠none) {k a b:Int} {d:Bs} (hk:0≤k∧k≤9) (h4:k=4→E.kind=3) (h5:k≠5) (h1:k=1→E.active=true→E.frozen=true) (h2:k=2→E.kind=2):qa4 (HS E S) (MX (Ze E k a b d)):= by
  rw[CD hi hu hk]
  exact⟨hu,rfl,h4, fun q=>h5 q,h1,h2⟩
theorem RC: ∀(k:Nat) (l:AL PgD) (b:Bs),b∈(pushG E k l).2→ ∃a v d,b=Ze E 0 a v d
  | _,[],b,hb=> by unfold pushG at hb; cases hb
  | k,e::l,b,hb=> by
    unfold pushG at hb
    split at hb
    · exact RC k l b hb
    · cases k with
      | zero=> cases hb
      | succ k=>
        rcases List.mem_cons.1 hb with q | q
        · exact⟨_,_,_,q⟩
        · exact RC k l b q
theorem Mm (l:Bs) (n:Int): ∀(k:Nat) (nx:Int) (b:Bs),b∈(ZM E l n k nx).2→ ∃a v d,b=Ze E 1 a v d
  | 0,_,b,hb=> by unfold ZM at hb; cases hb
  | k+1,nx,b,hb=> by
    unfold ZM at hb
    rcases List.mem_cons.1 hb with q | q
    · exact⟨_,_,_,q⟩
    · exact Mm l n k _ b q
theorem RW (h: ¬upE E=false):E.cell≠none:= fun q=>h (by unfold upE; rw[q];rfl)
theorem T3 (hi:EI E S) (h:PP I (HS E S) Mi Mj):JG I S (X7 E).1 Mi Mj (X7 E).2:= by
  have non:JG I S E Mi Mj []:=⟨S,hi,(H0 h),Bnd.same _ _⟩
  unfold X7
  split
  · exact non
  rename_i hu
  have hu:=RW hu
  split
  · rename_i hk
    refine YQ hi h (by rfl) (by rfl) (by rfl) (by rfl) (by rfl) (by rfl) fun b hb=> ?_
    have hb:=List.mem_singleton.1 hb
    rw[hb]
    generalize (match E.off with | some o=>decide (o.move=E.move) | none=>false)=c
    cases c with
    | true=> exact H9 hi hu (by decide) (fun q=>absurd q (by decide)) (by decide) (fun q=>absurd q (by decide)) (fun _=>hk)
    | false=> exact H9 hi hu (by decide) (fun q=>absurd q (by decide)) (by decide) (fun q=>absurd q (by decide)) (fun q=>absurd q (by decide))
  split
  · exact non
  rename_i hk
  cases E.ses with
  | none=> exact non
  | some s=>
    dsimp only
    have hpg: ∀b∈(pushG E 4 s.pages).2,qa4 (HS E S) (MX b):= fun b hb=> by
      obtain⟨a,v,d,e⟩:=RC _ _ _ hb
      rw[e]
      exact H9 hi hu (by decide) (fun q=>absurd q (by decide)) (by decide) (fun q=>absurd q (by decide)) (fun q=>absurd q (by decide))
    split
    · split
      · exact YQ hi h (by rfl) (by rfl) (by rfl) (by rfl) (by rfl) (by rfl) hpg
      · rename_i ha hf
        have hf:E.frozen=true:= by cases q:E.frozen with | false=> exact absurd q hf | true=>rfl
        refine YQ hi h (by rfl) (by rfl) (by rfl) (by rfl) (by rfl) (by rfl) fun b hb=> ?_
        rcases List.mem_append.1 hb with q | q
        · exact hpg b q
        · obtain⟨a,v,d,e⟩:=Mm _ _ _ _ _ q
          rw[e]
          exact H9 hi hu (by decide) (fun q=>absurd q (by decide)) (by decide) (fun _ _=>hf) (fun q=>absurd q (by decide))
    · refine YQ hi h (by rfl) (by rfl) (by rfl) (by rfl) (by rfl) (by rfl) fun b hb=> ?_
      rcases List.mem_append.1 hb with q | q
      · obtain⟨i,_,e⟩:=List.mem_map.1 q
        rw[←e]
        exact H9 hi hu (by decide) (fun q=>absurd q (by decide)) (by decide) (fun q=>absurd q (by decide)) (fun q=>absurd q (by decide))
      · split at q
        · rw[List.mem_singleton.1 q]
          exact H9 hi hu (by decide) (fun q=>absurd q (by decide)) (by decide) (fun q=>absurd q (by decide)) (fun q=>absurd q (by decide))
        · cases q
theorem one_of {C:CS} (hi:EI E S) (hC:E.cell=some C) (x:KM):S x↔x=(E.kind,E.move):=(hi.up C hC).2.2.2 x
theorem UX (hi:EI E S) (hu:E.cell≠none) (x:KM):S x↔x=(E.kind,E.move):= by
  obtain⟨C,hC⟩:=Option.ne_none_iff_exists'.1 hu
  exact one_of hi hC x
theorem Fa {E0:EnD} (hi:EI E0 S) (h:PP I (HS E0 S) Mi Mj) (hu:E0.cell≠none) {n:Int} (hm:Mi (1,n)) (hn:0≤n∧Xy n) (hk:E0.kind≠1) (hlt:E0.move<n):JG I S (Yx E0 n).1 Mi Mj (Yx E0 n).2:= by
  have hS:=UX hi hu
  have hact:E0.active=false:= by
    cases q:E0.active with
    | false=>rfl
    | true=> exact absurd (h.j.ao q).2 hk
  have hle:(∃y,S y∧n≤y.2)∨ ∃y,I.S y∧n≤y.2:= by
    obtain⟨y,hy⟩:=h.i.ne
    exact .inr ⟨y,hy,h.i.num _ hm y hy⟩
  unfold Yx
  rcases hi.note hu (k:=2) (m:=n) (by decide) hn with⟨e,hi2,D,C,e2⟩ | ⟨e,hi2,D,e2⟩
  · rw[if_neg (by simpa using e)]
    have hi3:EI ({(QS E0 2 n).2 with ses:=none}:EnD) (fun x=>x=(2,n)):=hi2.same Qa Qa Qa Qa (.inl Qa)
    refine⟨_,hi3, ?_,.of (n:=n) (fun x hx=> .inr (by rw[hx])) hle⟩
    refine h.ready (n:=n) hu hk hlt hm (fun y hy=> .inr hy) ⟨_,rfl⟩ (fun _ y=>Iff.rfl) (fun _=> ?_) ?_ fun m q=> ?_
    · rw[e2];rfl
    · rw[e2]; show ¬E0.active=true; rw[hact]; exact Bool.false_ne_true
    · rcases q with q | ⟨b,hb,q⟩
      · exact .inl q
      · rw[List.mem_singleton.1 hb,CD hi2 (by rw[e2]; exact fun r=> by cases r) (by decide)]at q
        refine .inr ⟨?_, fun y hy=>hy⟩
        rw[q,e2]
  · rw[if_pos e]
    refine⟨_,hi2, ?_,.of (n:=n) (fun x hx=>hx.imp id fun r=> by rw[r]) hle⟩
    refine h.ready (n:=n) hu hk hlt hm (fun y hy=>hy.imp (fun r=>(hS y).1 r) id) ⟨_,.inr Qa⟩ (fun r=> ?_) (fun r=> ?_) ?_ fun m q=> ?_
    · rw[e2]at r; exact absurd Qa r
    · rw[e2]at r; exact absurd Qa r
    · rw[e2]; exact Bool.false_ne_true
    · rcases q with q | ⟨b,hb,q⟩
      · exact .inl q
      · cases hb
theorem Tg (hi:EI E S) (h:PP I (HS E S) Mi Mj) (hu:E.cell≠none) {m:MsD} (hm:Mi (1,m.move)) (hn:0≤m.move∧Xy m.move):JG I S (Xo E m).1 Mi Mj (Xo E m).2:= by
  have non:JG I S E Mi Mj []:=⟨S,hi,(H0 h),Bnd.same _ _⟩
  have nof: ∀o,JG I S {E with off:=o} Mi Mj []:= fun o=>YQ hi h (by rfl) (by rfl) (by rfl) (by rfl) (by rfl) (by rfl) fun b hb=> by cases hb
  unfold Xo
  split
  · exact non
  cases hj:Zr E m.move with
  | none=> exact non
  | some o=>
    dsimp only
    have hk:E.kind≠1∧E.move<m.move:= by
      unfold Zr at hj
      split at hj
      · cases hj
      · rename_i q
        exact⟨fun r=>q (.inl r), by have : ¬m.move≤E.move:= fun r=>q (.inr r);omega⟩
    split
    · exact nof _
    split
    · exact nof _
    split
    · exact nof _
    generalize hE:({E with off:=some {Ww (Xr o m.b) m with list:=ZC (Ww (Xr o m.b) m)}}:EnD)=E3
    have hi3:EI E3 S:= by subst hE; exact hi.same Qa Qa Qa Qa (.inl Qa)
    have h3:PP I (HS E3 S) Mi Mj:= by subst hE; exact h
    exact Fa hi3 h3 (by subst hE; exact hu) hm hn (by subst hE; exact hk.1) (by subst hE; exact hk.2)
theorem Df (hi:EI E S) (h:PP I (HS E S) Mi Mj) (hu:E.cell≠none) {m:MsD} (hkm:m.kind=2∨m.kind=3) (hm:Mi (m.kind,m.move)) (hn:0≤m.move∧Xy m.move):JG I S (Xh E m).1 Mi Mj (Xh E m).2:= by
  have non:JG I S E Mi Mj []:=⟨S,hi,(H0 h),Bnd.same _ _⟩
  have hS:=UX hi hu
  have hle:(∃y,S y∧E.move≤y.2)∨ ∃y,I.S y∧E.move≤y.2:= .inl ⟨_,(hS _).2 Qa,Int.le_refl _⟩
  unfold Xh
  split
  · rename_i q
    refine YQ hi h (by rfl) (by rfl) (by rfl) (by rfl) (by rfl) (by rfl) fun b hb=> ?_
    rw[List.mem_singleton.1 hb]
    exact H9 hi hu (by decide) (fun _=>q.1) (by decide) (fun q=>absurd q (by decide)) (fun q=>absurd q (by decide))
  split
  · exact non
  rename_i hk
  have hk1:E.kind=1:=Decidable.not_not.1 hk
  split
  · rename_i q
    obtain⟨q1,q2,q3,q4⟩:=q
    rw[q1,q2]at hm
    rcases hi.note hu (k:=3) (m:=E.move) (by decide) (hi.rg hu).2.2 with⟨e,hi2,D,C,e2⟩ | ⟨e,hi2,D,e2⟩
    · rw[if_neg (by simpa using e)]
      have hi3:EI ({(QS E 3 E.move).2 with active:=false}:EnD) (fun x=>x=(3,E.move)):=hi2.same Qa Qa Qa Qa (.inr Qa)
      refine⟨_,hi3,(h.swap.gave (n:=E.move) (Prod.ext hk1 Qa) q3 hm (fun x hx=> .inr hx) ⟨_,rfl⟩ (fun _ y=>Iff.rfl) (fun _=> ?_) Bool.false_ne_true fun m q=> ?_).swap,.of (n:=E.move) (fun x hx=> .inr (by rw[hx])) hle⟩
      · rw[e2];rfl
      · rcases q with q | ⟨b,hb,q⟩
        · exact .inl q
        · rw[List.mem_singleton.1 hb,CD hi2 (by rw[e2]; exact fun r=> by cases r) (by decide)]at q
          refine .inr ⟨?_, fun y hy=>hy⟩
          rw[q,e2]
    · rw[if_pos e]
      refine⟨_,hi2,PP.swap ?_,.of (n:=E.move) (fun x hx=>hx.imp id fun r=> by rw[r]) hle⟩
      refine h.swap.gave (I':=HS (QS E 3 E.move).2 (fun x=>S x∨x=(3,E.move))) (n:=E.move) (Prod.ext hk1 Qa) q3 hm (fun x hx=>hx.imp (fun r=>((hS x).1 r).trans (by rw[hk1])) id) ⟨_,.inr Qa⟩ (fun r=> ?_) (fun r=> ?_) ?_ fun m q=> ?_
      · rw[e2]at r; exact absurd Qa r
      · rw[e2]at r; exact absurd Qa r
      · rw[e2]; exact Bool.false_ne_true
      · rcases q with q | ⟨b,hb,q⟩
        · exact .inl q
        · cases hb
  rename_i hng
  have hno: ∀m',(Mj m'∨ ∃b∈[Zy ⟨5,m.move,0,0,[]⟩],m'=MX b)→Mj m'∨m'=(5,m.move):= fun m' q=>q.imp id fun ⟨b,hb,e⟩=> by rw[e,List.mem_singleton.1 hb]; exact CE (by unfold Xy;omega) hn.2
  split
  · rename_i q
    obtain⟨q1,q2,q3⟩:=q
    have hi3:EI ({E with active:=false,frozen:=false}:EnD) S:=hi.same Qa Qa Qa Qa (.inr Qa)
    have h3:PP I (HS {E with active:=false,frozen:=false} S) Mi Mj:=(h.swap.quiet (I':=HS {E with active:=false,frozen:=false} S) (fun x hx=>hx) hi.ne (fun _=>hS) Bool.false_ne_true).swap
    exact⟨S,hi3,(h3.swap.saysNo hkm hu hk1 hm (fun r=>absurd r Bool.false_ne_true) hno).swap,Bnd.same _ _⟩
  · rename_i hnl
    refine⟨S,hi,(h.swap.saysNo hkm hu hk1 hm (fun r e=> ?_) hno).swap,Bnd.same _ _⟩
    have e:E.move=m.move:=e
    have r:E.active=true:=r
    rcases hkm with c | c
    · exact⟨c, fun f=>hng ⟨c,e.symm,r,f⟩⟩
    · exact absurd ⟨c,e.symm,r⟩ hnl
theorem M4 (hi:EI E S) (h:PP I (HS E S) Mi Mj) (hu:E.cell≠none) {m:MsD} (hm:Mi (4,m.move)) (hn:0≤m.move∧Xy m.move):JG I S (XB E m) Mi Mj []:= by
  have hS:=UX hi hu
  unfold XB
  split
  · exact⟨S,hi,(H0 h),Bnd.same _ _⟩
  rename_i hk
  have hk2:E.kind=2:=Decidable.not_not.1 fun q=>hk (.inl q)
  have hk3:m.move=E.move:=Decidable.not_not.1 fun q=>hk (.inr q)
  have hact:E.active=false:= by
    cases q:E.active with
    | false=>rfl
    | true=> have :=(h.j.ao q).2; have :E.kind=1:=this;omega
  have hkm:(HS E S).km=(2,m.move):=Prod.ext hk2 hk3.symm
  have hle:(∃y,S y∧m.move≤y.2)∨ ∃y,I.S y∧m.move≤y.2:= .inl ⟨_,(hS _).2 Qa, by rw[hk3]; exact Int.le_refl _⟩
  rcases hi.note hu (k:=1) (m:=m.move) (by decide) hn with⟨e,hi2,D,C,e2⟩ | ⟨e,hi2,D,e2⟩
  · rw[if_neg (by simpa using e)]
    have fin: ∀E',E'.D=(QS E 1 m.move).2.D→E'.cell=(QS E 1 m.move).2.cell→E'.kind=(QS E 1 m.move).2.kind→E'.move=(QS E 1 m.move).2.move→E'.active=false→JG I S E' Mi Mj []:= fun E' a1 a2 a3 a4 a5=> by
      refine⟨_,hi2.same a1 a2 a3 a4 (.inr a5),H0 ?_,.of (n:=m.move) (fun x hx=> .inr (by rw[hx])) hle⟩
      refine h.hearGiven (J':=HS E' (fun x=>x=(1,m.move))) hu hkm hm (fun y hy=> .inr hy) ⟨_,rfl⟩ (fun _ y=> ?_) (by show ¬E'.active=true; rw[a5]; exact Bool.false_ne_true)
      show y=(1,m.move)↔y=(E'.kind,E'.move)
      rw[a3,a4,e2]
    have ha:(QS E 1 m.move).2.active=false:= by rw[e2]; exact hact
    split
    · exact fin _ Qa Qa Qa Qa ha
    · split
      · exact fin _ Qa Qa Qa Qa ha
      · exact fin _ Qa Qa Qa Qa Qa
  · rw[if_pos e]
    refine⟨_,hi2,H0 ?_,.of (n:=m.move) (fun x hx=>hx.imp id fun r=> by rw[r]) hle⟩
    refine h.hearGiven (J':=HS (QS E 1 m.move).2 (fun x=>S x∨x=(1,m.move))) hu hkm hm (fun y hy=>hy.imp (fun r=>((hS y).1 r).trans hkm) id) ⟨_,.inr Qa⟩ (fun r=> ?_) ?_
    · rw[e2]at r; exact absurd Qa r
    · rw[e2]; exact Bool.false_ne_true
theorem PA (hi:EI E S) (h:PP I (HS E S) Mi Mj) (hu:E.cell≠none) {m:MsD} (hm:Mi (5,m.move)) (hn:0≤m.move∧Xy m.move):JG I S (WF E m) Mi Mj []:= by
  have hS:=UX hi hu
  unfold WF
  split
  rotate_left
  · exact⟨S,hi,(H0 h),Bnd.same _ _⟩
  rename_i hk
  obtain⟨hk2,hk3⟩:=hk
  have hact:E.active=false:= by
    cases q:E.active with
    | false=>rfl
    | true=> have :=(h.j.ao q).2; have :E.kind=1:=this;omega
  have hkm:(HS E S).km=(2,m.move):=Prod.ext hk2 hk3.symm
  have hle:(∃y,S y∧m.move≤y.2)∨ ∃y,I.S y∧m.move≤y.2:= .inl ⟨_,(hS _).2 Qa, by rw[hk3]; exact Int.le_refl _⟩
  rcases hi.note hu (k:=0) (m:=m.move) (by decide) hn with⟨e,hi2,D,C,e2⟩ | ⟨e,hi2,D,e2⟩
  · rw[if_neg (by simpa using e)]
    refine⟨_,hi2.same (E':={(QS E 0 m.move).2 with off:=none}) Qa Qa Qa Qa (.inl Qa),H0 ?_,.of (n:=m.move) (fun x hx=> .inr (by rw[hx])) hle⟩
    refine h.hearNo (J':=HS {(QS E 0 m.move).2 with off:=none} (fun x=>x=(0,m.move))) hu hkm hm (fun y hy=> .inr hy) ⟨_,rfl⟩ (fun _ y=> ?_) ?_
    · show y=(0,m.move)↔y=((QS E 0 m.move).2.kind,(QS E 0 m.move).2.move)
      rw[e2]
    · show ¬(QS E 0 m.move).2.active=true
      rw[e2]; show ¬E.active=true; rw[hact]; exact Bool.false_ne_true
  · rw[if_pos e]
    refine⟨_,hi2,H0 ?_,.of (n:=m.move) (fun x hx=>hx.imp id fun r=> by rw[r]) hle⟩
    refine h.hearNo (J':=HS (QS E 0 m.move).2 (fun x=>S x∨x=(0,m.move))) hu hkm hm (fun y hy=>hy.imp (fun r=>((hS y).1 r).trans hkm) id) ⟨_,.inr Qa⟩ (fun r=> ?_) ?_
    · rw[e2]at r; exact absurd Qa r
    · rw[e2]; exact Bool.false_ne_true
theorem Aj (hi:EI E S) (h:PP I (HS E S) Mi Mj) {s:Bs} (hm:Mi (MX s)):JG I S (X9 E s).1 Mi Mj (X9 E s).2:= by
  have non:JG I S E Mi Mj []:=⟨S,hi,(H0 h),Bnd.same _ _⟩
  unfold X9
  split
  · exact non
  rename_i hq
  have hu:=RW fun q=>hq (.inl q)
  have hn:0≤(QU s).move∧Xy (QU s).move:= by
    have h1: ¬(QU s).move<0:= fun q=>hq (.inr (.inr (.inr (.inl q))))
    have h2: ¬4611686018427387904<(QU s).move:= fun q=>hq (.inr (.inr (.inr (.inr (.inl q)))))
    unfold Xy;omega
  have quiet: ∀E' out,E'.D=E.D→E'.cell=E.cell→E'.kind=E.kind→E'.move=E.move→E'.active=E.active→E'.frozen=E.frozen→(∀b∈out,qa4 (HS E S) (MX b))→JG I S E' Mi Mj out:= fun E' out a b c d e f g=>YQ hi h a b c d e f g
  unfold MX at hm
  generalize QU s=m at hm hn
  unfold X8
  split
  · unfold Xp
    split
    · cases Zr E m.move with
      | none=> exact non
      | some o=> exact quiet _ _ rfl rfl rfl rfl rfl rfl fun b hb=> by cases hb
    · cases E.ses with
      | none=> exact non
      | some s=>
        dsimp only
        split
        · exact non
        · cases QN s.pages m.a with
          | none=> exact non
          | some p=>
            dsimp only
            split
            · exact quiet _ _ Qa Qa Qa Qa Qa Qa fun b hb=> by cases hb
            · exact non
  split
  · rename_i e; rw[e]at hm; exact Tg hi h hu hm hn
  split
  · rename_i e; exact Df hi h hu e hm hn
  split
  · rename_i e; rw[e]at hm; exact M4 hi h hu hm hn
  split
  · rename_i e; rw[e]at hm; exact PA hi h hu hm hn
  split
  · refine quiet _ _ Qa Qa Qa Qa Qa Qa fun b hb=> ?_
    unfold Zv at hb
    split at hb
    · cases hb
    · cases hs:E.ses with
      | none=>
        rw[hs]at hb
        rw[List.mem_singleton.1 hb]
        exact H9 hi hu (by decide) (fun q=>absurd q (by decide)) (by decide) (fun q=>absurd q (by decide)) (fun q=>absurd q (by decide))
      | some s=>
        rw[hs]at hb
        dsimp only at hb
        cases hg:QN s.pages m.a with
        | none=> rw[hg]at hb; cases hb
        | some p=>
          rw[hg]at hb
          rw[List.mem_singleton.1 hb]
          exact H9 hi hu (by decide) (fun q=>absurd q (by decide)) (by decide) (fun q=>absurd q (by decide)) (fun q=>absurd q (by decide))
  split
  · unfold ZL
    split
    · exact quiet _ _ Qa Qa Qa Qa Qa Qa fun b hb=> by cases hb
    · exact non
  split
  · unfold Z6
    split
    · exact non
    · refine quiet _ _ Qa Qa Qa Qa Qa Qa fun b hb=> ?_
      rw[List.mem_singleton.1 hb]
      exact H9 hi hu (by decide) (fun q=>absurd q (by decide)) (by decide) (fun q=>absurd q (by decide)) (fun q=>absurd q (by decide))
  · unfold Jd
    split
    · exact quiet _ _ Qa Qa Qa Qa Qa Qa fun b hb=> by cases hb
    · exact non
end
