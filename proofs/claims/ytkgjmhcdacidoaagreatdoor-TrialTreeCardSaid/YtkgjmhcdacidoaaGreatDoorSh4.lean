/- sheets: plain data -/
import Derived.Test.YtkgjmhcdacidoaaGreatDoorFrm
import Derived.Test.YtkgjmhcdacidoaaGreatDoorCm1
import Derived.Test.YtkgjmhcdacidoaaGreatDoorRow
set_option linter.unusedVariables false
namespace Go.Proofs.YtkgjmhcdacidoaaGreatDoor
open Go.RowKit M
structure ShE where
  refs:Int
  place:Int
  at_:Int
  pg:Bs
structure SS where
  all:Int→Option ShE
  inn:Int→Option Int
  cache:List Int
  fr:List (Option Bs)
  sl:List Bs
  ck:List Bool
  slots:Int
  budget:Int
  next:Int
  taken:List Int
def fm (p:Bs):Bs:=(H4 p).getD []
def fmL (A:Int→Option ShE) (j:Int):Nat:= match A j with | some x=>(fm x.pg).length | none=>0
def W5 (A:Int→Option ShE) (l:List Int):Nat:=(l.map (fmL A)).sum
open Classical in
noncomputable def up {β:Type} (A:Int→Option β) (j:Int) (v:Option β):Int→Option β:= fun i=> if i=j then v else A i
theorem XO {β:Type} {A:Int→Option β} {j:Int} {v:Option β}:up A j v j=v:= by simp [up]
theorem XW {β:Type} {A:Int→Option β} {j i:Int} {v:Option β} (h:i≠j):up A j v i=A i:= by simp [up,h]
theorem UL {A:Int→Option ShE} {j:Int} {v:Option ShE}: ∀{l:List Int},j∉l→W5 (up A j v) l=W5 A l
  | [],_=>rfl
  | i::l,h=> by
    have h1:i≠j:= fun q=>h (by simp [q])
    have h2:=UL (A:=A) (v:=v) (l:=l) (fun q=>h (List.mem_cons_of_mem _ q))
    unfold W5 at h2⊢
    rw[List.map_cons,List.map_cons,List.sum_cons,List.sum_cons,h2]
    unfold fmL; rw[XW h1]
theorem Dm {A B:Int→Option ShE} {l:List Int} (h: ∀j∈l,(A j).map ShE.pg=(B j).map ShE.pg):W5 A l=W5 B l:= by
  unfold W5
  congr 1
  refine List.map_congr_left fun j hj=> ?_
  have :=h j hj
  unfold fmL
  cases ha:A j<;> cases hb:B j<;>simp_all
theorem Mf: ∀{a b:List Nat},a.Sublist b→a.sum≤b.sum
  | _,_,.slnil=>Nat.le_refl _
  | _,_,.cons x h=> by have :=Mf h; rw[List.sum_cons];omega
  | _,_,.cons_cons x h=> by have :=Mf h; rw[List.sum_cons,List.sum_cons];omega
theorem Gh {fl:List (Option Bs)} {f:Int} {b:Bs} (h:ZH fl f=some b):0≤f∧f.toNat<fl.length:= by
  obtain⟨h0,h1⟩:=Yi h
  exact⟨h0,(XL h1).1⟩
theorem JE {fl:List (Option Bs)} {f g:Int} {o:Option Bs} (h0:0≤f) (h:g≠f):ZH (fl.set f.toNat o) g=ZH fl g:= by
  unfold ZH
  split
  · rw[List.getElem?_set_ne (by omega)]
  · rfl
theorem Vw {fl:List (Option Bs)} {f:Int} {b:Bs} (h0:0≤f) (h:f.toNat<fl.length):ZH (fl.set f.toNat (some b)) f=some b:= by
  unfold ZH; rw[if_pos h0,List.getElem?_set_self h]
theorem BS {fl:List (Option Bs)} {f:Int}:ZH (fl.set f.toNat none) f=none:= by
  unfold ZH
  split
  · by_cases h:f.toNat<fl.length
    · rw[List.getElem?_set_self h]
    · rw[List.getElem?_eq_none (by rw[List.length_set];omega)]
  · rfl
structure ShI (E:Int→Prop) (T:Nat) (S:SS):Prop where
  ck:S.ck=S.fr.map Option.isSome
  fr1:1≤S.fr.length
  fr2:S.fr.length≤256
  slo:S.slots=S.sl.length
  sl2:S.sl.length≤4096
  bud:0≤S.budget
  nx1:1≤S.next
  nx2:S.next≤1099511627777+T
  ent: ∀{j x},S.all j=some x→1≤j∧j<S.next∧1≤x.refs∧x.refs≤T+1∧x.pg.length=64∧(x.place=1∨x.place=2∨x.place=3)
  frm: ∀f j,S.inn f=some j↔ ¬E j∧ ∃x,S.all j=some x∧x.place=1∧x.at_=f
  frc: ∀{j x},¬E j→S.all j=some x→x.place=1→ZH S.fr x.at_=some x.pg
  fru: ∀{f b},ZH S.fr f=some b→S.inn f≠none
  pck: ∀{j x},¬E j→S.all j=some x→x.place=2→j∈S.cache∧H4 x.pg≠none
  cch: ∀{j},j∈S.cache→ ¬E j∧ ∃x,S.all j=some x∧x.place=2
  nod:S.cache.Nodup
  sum:(W5 S.all S.cache:Int)≤S.budget
  slt: ∀{j x},¬E j→S.all j=some x→x.place=3→0≤x.at_∧S.sl[x.at_.toNat]? =some x.pg
  slu: ∀{k p},S.sl[k]? =some p→p≠[]→ ∃j x,¬E j∧S.all j=some x∧x.place=3∧x.at_=(k:Nat)
  sli: ∀{i j x y},¬E i→ ¬E j→S.all i=some x→S.all j=some y→x.place=3→y.place=3→x.at_=y.at_→i=j
  cln:S.cache.length≤T
  tln:S.taken.length≤T
theorem ShI.mono {E:Int→Prop} {T T':Nat} {S:SS} (h:ShI E T S) (hT:T≤T'):ShI E T' S:=
  {h with nx2:= by have :=h.nx2;omega,ent:= fun q=> by obtain⟨a,b,c,d,e⟩:=h.ent q; exact⟨a,b,c, by omega,e⟩,cln:= by have :=h.cln;omega,tln:= by have :=h.tln;omega}
theorem ShI.congr {E E':Int→Prop} {T:Nat} {S:SS} (h:ShI E T S) (he: ∀j,S.all j≠none→(E j↔E' j)):ShI E' T S:= by
  have k: ∀{j x},S.all j=some x→(E j↔E' j):= fun h1=>he _ (by rw[h1]; simp)
  refine{h with frm:= ?_,frc:= ?_,pck:= ?_,cch:= ?_,slt:= ?_,slu:= ?_,sli:= ?_}
  · intro f j
    rw[h.frm]
    constructor
    · rintro⟨h1,x,h2,h3⟩; exact⟨fun q=>h1 ((k h2).2 q),x,h2,h3⟩
    · rintro⟨h1,x,h2,h3⟩; exact⟨fun q=>h1 ((k h2).1 q),x,h2,h3⟩
  · exact fun h1 h2=>h.frc (fun q=>h1 ((k h2).1 q)) h2
  · exact fun h1 h2=>h.pck (fun q=>h1 ((k h2).1 q)) h2
  · intro j h1; obtain⟨h2,x,h3,h4⟩:=h.cch h1; exact⟨fun q=>h2 ((k h3).2 q),x,h3,h4⟩
  · exact fun h1 h2=>h.slt (fun q=>h1 ((k h2).1 q)) h2
  · intro m p h1 h2; obtain⟨j,x,h3,h4,h5⟩:=h.slu h1 h2; exact⟨j,x, fun q=>h3 ((k h4).2 q),h4,h5⟩
  · exact fun h1 h2 h3 h4=>h.sli (fun q=>h1 ((k h3).1 q)) (fun q=>h2 ((k h4).1 q)) h3 h4
def VX:Int→Prop:= fun _=>False
def one (j:Int):Int→Prop:= fun i=>i=j
theorem no64 {p:Bs} (h:p.length=64) (h2:some ([]:Bs)=some p):False:= by cases h2; simp at h
noncomputable def offFrame (S:SS) (f:Int):SS:={S with fr:=S.fr.set f.toNat none,ck:=S.ck.set f.toNat false,inn:=up S.inn f none,taken:=S.taken++[f]}
theorem ShI.offFrame {E:Int→Prop} {T:Nat} {S:SS} {j f:Int} {x:ShE} (h:ShI E T S) (hj: ¬E j) (hx:S.all j=some x) (hp:x.place=1) (hf:x.at_=f):ShI (fun i=>E i∨i=j) (T+1) (offFrame S f):= by
  subst hf
  obtain⟨hf0,hfl⟩:=Gh (h.frc hj hx hp)
  have hone: ∀{i y},¬E i→S.all i=some y→y.place=1→y.at_=x.at_→i=j:= by
    intro i y h1 h2 h3 h4
    have a:=(h.frm x.at_ i).2 ⟨h1,y,h2,h3,h4⟩
    have b:=(h.frm x.at_ j).2 ⟨hj,x,hx,hp,rfl⟩
    rw[a]at b; cases b;rfl
  have k:=h.mono (Nat.le_add_right T 1)
  refine{ck:= ?_,fr1:= ?_,fr2:= ?_,slo:=h.slo,sl2:=h.sl2,bud:=h.bud,nx1:=h.nx1,nx2:=k.nx2,ent:=k.ent,frm:= ?_,frc:= ?_,fru:= ?_,pck:= ?_,cch:= ?_,nod:=h.nod,sum:=h.sum,slt:= ?_,slu:= ?_,sli:= ?_,cln:=k.cln,tln:= ?_}
  · show S.ck.set _ false=(S.fr.set _ none).map _
    rw[List.map_set,h.ck];rfl
  · show 1≤(S.fr.set _ _).length; rw[List.length_set]; exact h.fr1
  · show(S.fr.set _ _).length≤_; rw[List.length_set]; exact h.fr2
  · intro g i
    show up S.inn x.at_ none g=some i↔_
    by_cases hg:g=x.at_
    · subst hg
      rw[XO]
      constructor
      · intro q; cases q
      · rintro⟨h1,y,h2,h3,h4⟩; exact absurd (.inr (hone (fun q=>h1 (.inl q)) h2 h3 h4)) h1
    · rw[XW hg,h.frm]
      constructor
      · rintro⟨h1,y,h2,h3,h4⟩
        refine⟨?_,y,h2,h3,h4⟩
        rintro(q | q)
        · exact h1 q
        · subst q; rw[hx]at h2; cases h2; exact hg h4.symm
      · rintro⟨h1,h2⟩; exact⟨fun q=>h1 (.inl q),h2⟩
  · intro i y h1 h2 h3
    show ZH (S.fr.set _ none) _=_
    have h1': ¬E i:= fun q=>h1 (.inl q)
    rw[JE hf0 (fun q=>h1 (.inr (hone h1' h2 h3 q)))]
    exact h.frc h1' h2 h3
  · intro g b hg
    show up S.inn x.at_ none g≠none
    have hg':ZH (S.fr.set x.at_.toNat none) g=some b:=hg
    by_cases q:g=x.at_
    · subst q; rw[BS]at hg'; cases hg'
    · rw[XW q]; rw[JE hf0 q]at hg'; exact h.fru hg'
  · exact fun h1=>h.pck (fun q=>h1 (.inl q))
  · intro i hi
    obtain⟨h1,y,h2,h3⟩:=h.cch hi
    refine⟨?_,y,h2,h3⟩
    rintro(q | q)
    · exact h1 q
    · subst q; rw[hx]at h2; cases h2;omega
  · exact fun h1=>h.slt (fun q=>h1 (.inl q))
  · intro m p h1 h2
    obtain⟨i,y,h3,h4,h5,h6⟩:=h.slu h1 h2
    refine⟨i,y, ?_,h4,h5,h6⟩
    rintro(q | q)
    · exact h3 q
    · subst q; rw[hx]at h4; cases h4;omega
  · exact fun h1 h2=>h.sli (fun q=>h1 (.inl q)) (fun q=>h2 (.inl q))
  · show(S.taken++[_]).length≤_; have :=h.tln; simp; exact this
theorem ShI.offCache {E:Int→Prop} {T:Nat} {S:SS} {j:Int} {x:ShE} {c:List Int} (h:ShI E T S) (hx:S.all j=some x) (hp:x.place=2) (hc:c.Sublist S.cache) (hm: ∀i,i∈c↔i∈S.cache∧i≠j):ShI (fun i=>E i∨i=j) T {S with cache:=c}:= by
  refine{h with frm:= ?_,frc:= ?_,pck:= ?_,cch:= ?_,nod:= ?_,sum:= ?_,slt:= ?_,slu:= ?_,sli:= ?_,cln:= ?_}
  · intro g i
    show S.inn g=some i↔_
    rw[h.frm]
    constructor
    · rintro⟨h1,y,h2,h3,h4⟩
      refine⟨?_,y,h2,h3,h4⟩
      rintro(q | q)
      · exact h1 q
      · subst q; rw[hx]at h2; cases h2;omega
    · rintro⟨h1,h2⟩; exact⟨fun q=>h1 (.inl q),h2⟩
  · exact fun h1=>h.frc (fun q=>h1 (.inl q))
  · intro i y h1 h2 h3
    obtain⟨h4,h5⟩:=h.pck (fun q=>h1 (.inl q)) h2 h3
    exact⟨(hm i).2 ⟨h4, fun q=>h1 (.inr q)⟩,h5⟩
  · intro i hi
    obtain⟨h0,hne⟩:=(hm i).1 hi
    obtain⟨h1,h2⟩:=h.cch h0
    refine⟨?_,h2⟩
    rintro(q | q)
    · exact h1 q
    · exact hne q
  · exact h.nod.sublist hc
  · have h1:W5 S.all c≤W5 S.all S.cache:= by
      unfold W5
      exact Mf (hc.map (fmL S.all))
    have :=h.sum
    show(W5 S.all c:Int)≤S.budget
    omega
  · exact fun h1=>h.slt (fun q=>h1 (.inl q))
  · intro m p h1 h2
    obtain⟨i,y,h3,h4,h5,h6⟩:=h.slu h1 h2
    refine⟨i,y, ?_,h4,h5,h6⟩
    rintro(q | q)
    · exact h3 q
    · subst q; rw[hx]at h4; cases h4;omega
  · exact fun h1 h2=>h.sli (fun q=>h1 (.inl q)) (fun q=>h2 (.inl q))
  · have :=h.cln; have :=hc.length_le; show c.length≤T;omega
theorem ShI.offSlot {E:Int→Prop} {T:Nat} {S:SS} {j:Int} {x:ShE} (h:ShI E T S) (hj: ¬E j) (hx:S.all j=some x) (hp:x.place=3):ShI (fun i=>E i∨i=j) T {S with sl:=S.sl.set x.at_.toNat []}:= by
  obtain⟨ha,hs⟩:=h.slt hj hx hp
  have hlt:=(XL hs).1
  refine{h with slo:= ?_,sl2:= ?_,frm:= ?_,frc:= ?_,pck:= ?_,cch:= ?_,slt:= ?_,slu:= ?_,sli:= ?_}
  · show S.slots=((S.sl.set _ _).length:Int); rw[List.length_set]; exact h.slo
  · show(S.sl.set _ _).length≤_; rw[List.length_set]; exact h.sl2
  · intro g i
    show S.inn g=some i↔_
    rw[h.frm]
    constructor
    · rintro⟨h1,y,h2,h3,h4⟩
      refine⟨?_,y,h2,h3,h4⟩
      rintro(q | q)
      · exact h1 q
      · subst q; rw[hx]at h2; cases h2;omega
    · rintro⟨h1,h2⟩; exact⟨fun q=>h1 (.inl q),h2⟩
  · exact fun h1=>h.frc (fun q=>h1 (.inl q))
  · exact fun h1=>h.pck (fun q=>h1 (.inl q))
  · intro i hi
    obtain⟨h1,y,h2,h3⟩:=h.cch hi
    refine⟨?_,y,h2,h3⟩
    rintro(q | q)
    · exact h1 q
    · subst q; rw[hx]at h2; cases h2;omega
  · intro i y h1 h2 h3
    have h1': ¬E i:= fun q=>h1 (.inl q)
    obtain⟨h4,h5⟩:=h.slt h1' h2 h3
    refine⟨h4, ?_⟩
    show(S.sl.set _ _)[_]? =_
    rw[List.getElem?_set_ne]
    · exact h5
    · intro q; exact h1 (.inr (h.sli h1' hj h2 hx h3 hp (by omega)))
  · intro m p h1 h2
    have h1':(S.sl.set x.at_.toNat [])[m]? =some p:=h1
    by_cases q:m=x.at_.toNat
    · subst q; rw[List.getElem?_set_self hlt]at h1'; cases h1'; exact absurd U h2
    · rw[List.getElem?_set_ne (fun e=>q e.symm)]at h1'
      obtain⟨i,y,h3,h4,h5,h6⟩:=h.slu h1' h2
      refine⟨i,y, ?_,h4,h5,h6⟩
      rintro(e | e)
      · exact h3 e
      · subst e; rw[hx]at h4; cases h4;omega
  · exact fun h1 h2=>h.sli (fun q=>h1 (.inl q)) (fun q=>h2 (.inl q))
theorem ShI.onCache {E:Int→Prop} {T:Nat} {S:SS} {j:Int} {x:ShE} (h:ShI E T S) (hj:E j) (hx:S.all j=some x) (hp:H4 x.pg≠none) (hs:(W5 S.all S.cache+(fm x.pg).length:Int)≤S.budget) (hl:S.cache.length+1≤T) (ea:Int):
    ShI (fun i=>E i∧i≠j) T {S with all:=up S.all j (some ⟨x.refs,2,ea,x.pg⟩),cache:=S.cache++[j]}:= by
  have hjc:j∉S.cache:= fun q=>(h.cch q).1 hj
  obtain⟨e1,e2,e3,e4,e5,_⟩:=h.ent hx
  have key: ∀{i y},up S.all j (some ⟨x.refs,2,ea,x.pg⟩) i=some y→(i=j∧y=⟨x.refs,2,ea,x.pg⟩)∨(i≠j∧S.all i=some y):= fun {i y} hy=> by
    by_cases q:i=j
    · subst q; rw[XO]at hy; cases hy; exact .inl ⟨rfl,rfl⟩
    · rw[XW q]at hy; exact .inr ⟨q,hy⟩
  have nE: ∀{i},¬(E i∧i≠j)→i≠j→ ¬E i:= fun h1 h2 h3=>h1 ⟨h3,h2⟩
  have yE: ∀{i},¬E i→ ¬(E i∧i≠j):= fun h1 h2=>h1 h2.1
  have ne: ∀{i},¬E i→i≠j:= fun h1 h2=>h1 (h2▸hj)
  refine{h with ent:= ?_,frm:= ?_,frc:= ?_,pck:= ?_,cch:= ?_,nod:= ?_,sum:= ?_,slt:= ?_,slu:= ?_,sli:= ?_,cln:= ?_}
  · intro i y hy
    rcases key hy with⟨rfl,rfl⟩ | ⟨_,hy⟩
    · exact⟨e1,e2,e3,e4,e5,.inr (.inl U)⟩
    · exact h.ent hy
  · intro g i
    show S.inn g=some i↔_∧ ∃y,up S.all j _ i=some y∧_
    rw[h.frm]
    constructor
    · rintro⟨h1,y,h2,h3⟩; exact⟨yE h1,y, by rw[XW (ne h1)]; exact h2,h3⟩
    · rintro⟨h1,y,h2,h3,h4⟩
      rcases key h2 with⟨rfl,rfl⟩ | ⟨q,h2⟩
      · cases h3
      · exact⟨nE h1 q,y,h2,h3,h4⟩
  · intro i y h1 h2 h3
    rcases key h2 with⟨rfl,rfl⟩ | ⟨q,h2⟩
    · cases h3
    · exact h.frc (nE h1 q) h2 h3
  · intro i y h1 h2 h3
    rcases key h2 with⟨rfl,rfl⟩ | ⟨q,h2⟩
    · exact⟨by simp,hp⟩
    · obtain⟨h4,h5⟩:=h.pck (nE h1 q) h2 h3; exact⟨List.mem_append_left _ h4,h5⟩
  · intro i hi
    show _∧ ∃y,up S.all j _ i=some y∧_
    rcases List.mem_append.1 hi with hi | hi
    · obtain⟨h1,y,h2,h3⟩:=h.cch hi; exact⟨yE h1,y, by rw[XW (ne h1)]; exact h2,h3⟩
    · simp at hi; subst hi; exact⟨fun q=>q.2 U,_,XO,rfl⟩
  · refine List.nodup_append.2 ⟨h.nod, by simp, ?_⟩
    rintro a ha b hb rfl
    simp at hb; subst hb; exact hjc ha
  · show(W5 (up S.all j _) (S.cache++[j]):Int)≤S.budget
    have h1:=UL (A:=S.all) (v:=some ⟨x.refs,2,ea,x.pg⟩) hjc
    unfold W5 at h1 hs⊢
    rw[List.map_append,List.sum_append,h1]
    have h2:fmL (up S.all j (some ⟨x.refs,2,ea,x.pg⟩)) j=(fm x.pg).length:= by unfold fmL; rw[XO]
    simp only[List.map_cons,List.map_nil,List.sum_cons,List.sum_nil,h2]
    omega
  · intro i y h1 h2 h3
    rcases key h2 with⟨rfl,rfl⟩ | ⟨q,h2⟩
    · cases h3
    · exact h.slt (nE h1 q) h2 h3
  · intro m p h1 h2
    obtain⟨i,y,h3,h4,h5⟩:=h.slu h1 h2
    exact⟨i,y,yE h3, by show up S.all j _ i=_; rw[XW (ne h3)]; exact h4,h5⟩
  · intro a b y z h1 h2 h3 h4 h5 h6
    rcases key h3 with⟨rfl,rfl⟩ | ⟨q,h3⟩
    · cases h5
    · rcases key h4 with⟨rfl,rfl⟩ | ⟨q',h4⟩
      · cases h6
      · exact h.sli (nE h1 q) (nE h2 q') h3 h4 h5 h6
  · show(S.cache++[j]).length≤T; simp; exact hl
theorem ShI.onSlot {E:Int→Prop} {T:Nat} {S:SS} {j:Int} {x:ShE} {k:Nat} (h:ShI E T S) (hj:E j) (hx:S.all j=some x) (hk:S.sl[k]? =some []):
    ShI (fun i=>E i∧i≠j) T {S with all:=up S.all j (some ⟨x.refs,3,(k:Nat),x.pg⟩),sl:=S.sl.set k x.pg}:= by
  have hjc:j∉S.cache:= fun q=>(h.cch q).1 hj
  have hkl:k<S.sl.length:=(XL hk).1
  obtain⟨e1,e2,e3,e4,e5,_⟩:=h.ent hx
  have key: ∀{i y},up S.all j (some ⟨x.refs,3,(k:Nat),x.pg⟩) i=some y→(i=j∧y=⟨x.refs,3,(k:Nat),x.pg⟩)∨(i≠j∧S.all i=some y):= fun {i y} hy=> by
    by_cases q:i=j
    · subst q; rw[XO]at hy; cases hy; exact .inl ⟨rfl,rfl⟩
    · rw[XW q]at hy; exact .inr ⟨q,hy⟩
  have nE: ∀{i},¬(E i∧i≠j)→i≠j→ ¬E i:= fun h1 h2 h3=>h1 ⟨h3,h2⟩
  have yE: ∀{i},¬E i→ ¬(E i∧i≠j):= fun h1 h2=>h1 h2.1
  have ne: ∀{i},¬E i→i≠j:= fun h1 h2=>h1 (h2▸hj)
  refine{h with slo:= ?_,sl2:= ?_,ent:= ?_,frm:= ?_,frc:= ?_,pck:= ?_,cch:= ?_,sum:= ?_,slt:= ?_,slu:= ?_,sli:= ?_}
  · show S.slots=((S.sl.set _ _).length:Int); rw[List.length_set]; exact h.slo
  · show(S.sl.set _ _).length≤_; rw[List.length_set]; exact h.sl2
  · intro i y hy
    rcases key hy with⟨rfl,rfl⟩ | ⟨_,hy⟩
    · exact⟨e1,e2,e3,e4,e5,.inr (.inr U)⟩
    · exact h.ent hy
  · intro g i
    show S.inn g=some i↔_∧ ∃y,up S.all j _ i=some y∧_
    rw[h.frm]
    constructor
    · rintro⟨h1,y,h2,h3⟩; exact⟨yE h1,y, by rw[XW (ne h1)]; exact h2,h3⟩
    · rintro⟨h1,y,h2,h3,h4⟩
      rcases key h2 with⟨rfl,rfl⟩ | ⟨q,h2⟩
      · cases h3
      · exact⟨nE h1 q,y,h2,h3,h4⟩
  · intro i y h1 h2 h3
    rcases key h2 with⟨rfl,rfl⟩ | ⟨q,h2⟩
    · cases h3
    · exact h.frc (nE h1 q) h2 h3
  · intro i y h1 h2 h3
    rcases key h2 with⟨rfl,rfl⟩ | ⟨q,h2⟩
    · cases h3
    · exact h.pck (nE h1 q) h2 h3
  · intro i hi
    show _∧ ∃y,up S.all j _ i=some y∧_
    obtain⟨h1,y,h2,h3⟩:=h.cch hi; exact⟨yE h1,y, by rw[XW (ne h1)]; exact h2,h3⟩
  · show(W5 (up S.all j _) S.cache:Int)≤S.budget
    rw[UL hjc]; exact h.sum
  · intro i y h1 h2 h3
    show _∧(S.sl.set k x.pg)[_]? =_
    rcases key h2 with⟨rfl,rfl⟩ | ⟨q,h2⟩
    · refine⟨by simp, ?_⟩
      simp [hkl]
    · obtain⟨h4,h5⟩:=h.slt (nE h1 q) h2 h3
      refine⟨h4, ?_⟩
      rw[List.getElem?_set_ne]
      · exact h5
      · intro q2; rw[←q2,hk]at h5; exact no64 (h.ent h2).2.2.2.2.1 h5
  · intro m p h1 h2
    have h1':(S.sl.set k x.pg)[m]? =some p:=h1
    show ∃i y,_∧up S.all j _ i=some y∧_
    by_cases q:m=k
    · subst q; exact⟨j,_, fun q=>q.2 U,XO,rfl,rfl⟩
    · rw[List.getElem?_set_ne (fun e=>q e.symm)]at h1'
      obtain⟨i,y,h3,h4,h5⟩:=h.slu h1' h2
      exact⟨i,y,yE h3, by rw[XW (ne h3)]; exact h4,h5⟩
  · intro a b y z h1 h2 h30 h40 h5 h6 he
    rcases key h30 with⟨rfl,rfl⟩ | ⟨q,h3⟩
    · rcases key h40 with⟨rfl,rfl⟩ | ⟨q',h4⟩
      · rfl
      · exfalso
        obtain⟨_,h8⟩:=h.slt (nE h2 q') h4 h6
        rw[←he]at h8
        simp only[Int.toNat_natCast]at h8
        rw[hk]at h8; exact no64 (h.ent h4).2.2.2.2.1 h8
    · rcases key h40 with⟨rfl,rfl⟩ | ⟨q',h4⟩
      · exfalso
        obtain⟨_,h8⟩:=h.slt (nE h1 q) h3 h5
        rw[he]at h8
        simp only[Int.toNat_natCast]at h8
        rw[hk]at h8; exact no64 (h.ent h3).2.2.2.2.1 h8
      · exact h.sli (nE h1 q) (nE h2 q') h3 h4 h5 h6 he
theorem ShI.onFrame {E:Int→Prop} {T:Nat} {S:SS} {j nx r:Int} {pg:Bs} {f:Nat} (h:ShI E T S) (hj:E j) (hf:S.fr[f]? =some none) (h1:1≤j) (hn1:S.next≤nx) (hn2:nx≤1099511627777+T) (hjn:j<nx) (hr:1≤r∧r≤T+1) (hpg:pg.length=64):
    ShI (fun i=>E i∧i≠j) T {S with all:=up S.all j (some ⟨r,1,(f:Nat),pg⟩),inn:=up S.inn (f:Nat) (some j),fr:=S.fr.set f (some pg),ck:=S.ck.set f true,next:=nx}:= by
  have hjc:j∉S.cache:= fun q=>(h.cch q).1 hj
  have hfl:f<S.fr.length:=(XL hf).1
  have hfn:ZH S.fr (f:Nat)=none:= by unfold ZH; rw[if_pos (by omega)]; simp [hf]
  have key: ∀{i y},up S.all j (some ⟨r,1,(f:Nat),pg⟩) i=some y→(i=j∧y=⟨r,1,(f:Nat),pg⟩)∨(i≠j∧S.all i=some y):= fun {i y} hy=> by
    by_cases q:i=j
    · subst q; rw[XO]at hy; cases hy; exact .inl ⟨rfl,rfl⟩
    · rw[XW q]at hy; exact .inr ⟨q,hy⟩
  have nE: ∀{i},¬(E i∧i≠j)→i≠j→ ¬E i:= fun h1 h2 h3=>h1 ⟨h3,h2⟩
  have yE: ∀{i},¬E i→ ¬(E i∧i≠j):= fun h1 h2=>h1 h2.1
  have ne: ∀{i},¬E i→i≠j:= fun h1 h2=>h1 (h2▸hj)
  have nf: ∀{i y},¬E i→S.all i=some y→y.place=1→y.at_≠(f:Nat):= fun a b c q=> by have :=h.frc a b c; rw[q,hfn]at this; cases this
  have hnat:(Int.toNat (f:Int))=f:=Int.toNat_natCast f
  refine{h with ck:= ?_,fr1:= ?_,fr2:= ?_,nx1:= ?_,nx2:= ?_,ent:= ?_,frm:= ?_,frc:= ?_,fru:= ?_,pck:= ?_,cch:= ?_,sum:= ?_,slt:= ?_,slu:= ?_,sli:= ?_}
  · show S.ck.set _ true=(S.fr.set _ (some pg)).map _
    rw[List.map_set,h.ck];rfl
  · show 1≤(S.fr.set _ _).length; rw[List.length_set]; exact h.fr1
  · show(S.fr.set _ _).length≤_; rw[List.length_set]; exact h.fr2
  · have :=h.nx1; show 1≤nx;omega
  · exact hn2
  · intro i y hy
    rcases key hy with⟨rfl,rfl⟩ | ⟨_,hy⟩
    · exact⟨h1,hjn,hr.1,hr.2,hpg,.inl U⟩
    · obtain⟨a,b,c⟩:=h.ent hy; exact⟨a, by show i<nx;omega,c⟩
  · intro g i
    show up S.inn _ _ g=some i↔_∧ ∃y,up S.all j _ i=some y∧_
    by_cases hg:g=(f:Nat)
    · subst hg
      rw[XO]
      constructor
      · intro q; cases q; exact⟨fun q=>q.2 U,_,XO,rfl,rfl⟩
      · rintro⟨h2,y,h3,h4,h5⟩
        rcases key h3 with⟨rfl,rfl⟩ | ⟨q,h3⟩
        · rfl
        · exact absurd h5 (nf (nE h2 q) h3 h4)
    · rw[XW hg,h.frm]
      constructor
      · rintro⟨h2,y,h3,h4⟩; exact⟨yE h2,y, by rw[XW (ne h2)]; exact h3,h4⟩
      · rintro⟨h2,y,h3,h4,h5⟩
        rcases key h3 with⟨rfl,rfl⟩ | ⟨q,h3⟩
        · exact absurd h5.symm hg
        · exact⟨nE h2 q,y,h3,h4,h5⟩
  · intro i y h2 h3 h4
    show ZH (S.fr.set f (some pg)) _=_
    rcases key h3 with⟨rfl,rfl⟩ | ⟨q,h3⟩
    · have :=Vw (fl:=S.fr) (f:=(f:Nat)) (b:=pg) (by omega) (by rw[hnat]; exact hfl); rw[hnat]at this; exact this
    · have :=JE (fl:=S.fr) (f:=(f:Nat)) (g:=y.at_) (o:=some pg) (by omega) (nf (nE h2 q) h3 h4); rw[hnat]at this; rw[this]
      exact h.frc (nE h2 q) h3 h4
  · intro g b hg
    show up S.inn _ _ g≠none
    by_cases q:g=(f:Nat)
    · rw[q,XO]; simp
    · rw[XW q]
      have :=JE (fl:=S.fr) (f:=(f:Nat)) (g:=g) (o:=some pg) (by omega) q
      rw[hnat]at this
      have hg':ZH (S.fr.set f (some pg)) g=some b:=hg
      rw[this]at hg'; exact h.fru hg'
  · intro i y h2 h3 h4
    rcases key h3 with⟨rfl,rfl⟩ | ⟨q,h3⟩
    · cases h4
    · exact h.pck (nE h2 q) h3 h4
  · intro i hi
    show _∧ ∃y,up S.all j _ i=some y∧_
    obtain⟨h1,y,h2,h3⟩:=h.cch hi; exact⟨yE h1,y, by rw[XW (ne h1)]; exact h2,h3⟩
  · show(W5 (up S.all j _) S.cache:Int)≤S.budget
    rw[UL hjc]; exact h.sum
  · intro i y h2 h3 h4
    rcases key h3 with⟨rfl,rfl⟩ | ⟨q,h3⟩
    · cases h4
    · exact h.slt (nE h2 q) h3 h4
  · intro m p h2 h3
    show ∃i y,_∧up S.all j _ i=some y∧_
    obtain⟨i,y,h4,h5,h6⟩:=h.slu h2 h3
    exact⟨i,y,yE h4, by rw[XW (ne h4)]; exact h5,h6⟩
  · intro a b y z h2 h3 h4 h5 h6 h7
    rcases key h4 with⟨rfl,rfl⟩ | ⟨q,h4⟩
    · cases h6
    · rcases key h5 with⟨rfl,rfl⟩ | ⟨q',h5⟩
      · cases h7
      · exact h.sli (nE h2 q) (nE h3 q') h4 h5 h6 h7
theorem ShI.gone {E:Int→Prop} {T:Nat} {S:SS} {j:Int} (h:ShI E T S) (hj:E j):ShI (fun i=>E i∧i≠j) T {S with all:=up S.all j none}:= by
  have hjc:j∉S.cache:= fun q=>(h.cch q).1 hj
  have key: ∀{i y},up S.all j none i=some y→i≠j∧S.all i=some y:= fun {i y} hy=> by
    by_cases q:i=j
    · subst q; rw[XO]at hy; cases hy
    · rw[XW q]at hy; exact⟨q,hy⟩
  have nE: ∀{i},¬(E i∧i≠j)→i≠j→ ¬E i:= fun h1 h2 h3=>h1 ⟨h3,h2⟩
  have yE: ∀{i},¬E i→ ¬(E i∧i≠j):= fun h1 h2=>h1 h2.1
  have ne: ∀{i},¬E i→i≠j:= fun h1 h2=>h1 (h2▸hj)
  refine{h with ent:= ?_,frm:= ?_,frc:= ?_,pck:= ?_,cch:= ?_,sum:= ?_,slt:= ?_,slu:= ?_,sli:= ?_}
  · exact fun hy=>h.ent (key hy).2
  · intro g i
    show S.inn g=some i↔_∧ ∃y,up S.all j _ i=some y∧_
    rw[h.frm]
    constructor
    · rintro⟨h1,y,h2,h3⟩; exact⟨yE h1,y, by rw[XW (ne h1)]; exact h2,h3⟩
    · rintro⟨h1,y,h2,h3⟩; exact⟨nE h1 (key h2).1,y,(key h2).2,h3⟩
  · exact fun h1 h2=>h.frc (nE h1 (key h2).1) (key h2).2
  · exact fun h1 h2=>h.pck (nE h1 (key h2).1) (key h2).2
  · intro i hi
    show _∧ ∃y,up S.all j _ i=some y∧_
    obtain⟨h1,y,h2,h3⟩:=h.cch hi; exact⟨yE h1,y, by rw[XW (ne h1)]; exact h2,h3⟩
  · show(W5 (up S.all j _) S.cache:Int)≤S.budget
    rw[UL hjc]; exact h.sum
  · exact fun h1 h2=>h.slt (nE h1 (key h2).1) (key h2).2
  · intro m p h2 h3
    show ∃i y,_∧up S.all j _ i=some y∧_
    obtain⟨i,y,h4,h5,h6⟩:=h.slu h2 h3
    exact⟨i,y,yE h4, by rw[XW (ne h4)]; exact h5,h6⟩
  · exact fun h1 h2 h3 h4=>h.sli (nE h1 (key h3).1) (nE h2 (key h4).1) (key h3).2 (key h4).2
theorem ShI.refs {E:Int→Prop} {T:Nat} {S:SS} {j r:Int} {x:ShE} (h:ShI E T S) (hx:S.all j=some x) (hr:1≤r∧r≤T+1):ShI E T {S with all:=up S.all j (some {x with refs:=r})}:= by
  have key: ∀{i y},up S.all j (some {x with refs:=r}) i=some y→ ∃y',S.all i=some y'∧y.place=y'.place∧y.at_=y'.at_∧y.pg=y'.pg∧(y.refs=y'.refs∨y.refs=r):= fun {i y} hy=> by
    by_cases q:i=j
    · subst q; rw[XO]at hy; cases hy; exact⟨x,hx,rfl,rfl,rfl,.inr U⟩
    · rw[XW q]at hy; exact⟨y,hy,rfl,rfl,rfl,.inl U⟩
  have back: ∀{i y},S.all i=some y→ ∃y',up S.all j (some {x with refs:=r}) i=some y'∧y'.place=y.place∧y'.at_=y.at_∧y'.pg=y.pg:= fun {i y} hy=> by
    by_cases q:i=j
    · subst q; rw[hx]at hy; cases hy; exact⟨_,XO,rfl,rfl,rfl⟩
    · exact⟨y, by rw[XW q]; exact hy,rfl,rfl,rfl⟩
  refine{h with ent:= ?_,frm:= ?_,frc:= ?_,pck:= ?_,cch:= ?_,sum:= ?_,slt:= ?_,slu:= ?_,sli:= ?_}
  · intro i y hy
    obtain⟨y',h1,h2,h3,h4,h5⟩:=key hy
    obtain⟨a,b,c,d,e,f⟩:=h.ent h1
    rw[h2,h4]
    refine⟨a,b, ?_, ?_,e,f⟩<;>omega
  · intro g i
    show S.inn g=some i↔_∧ ∃y,up S.all j _ i=some y∧_
    rw[h.frm]
    constructor
    · rintro⟨h1,y,h2,h3,h4⟩
      obtain⟨y',a,b,c,_⟩:=back h2
      exact⟨h1,y',a, by omega, by omega⟩
    · rintro⟨h1,y,h2,h3,h4⟩
      obtain⟨y',a,b,c,_⟩:=key h2
      exact⟨h1,y',a, by omega, by omega⟩
  · intro i y h1 h2 h3
    obtain⟨y',a,b,c,d,_⟩:=key h2
    rw[c,d]; exact h.frc h1 a (by omega)
  · intro i y h1 h2 h3
    obtain⟨y',a,b,c,d,_⟩:=key h2
    rw[d]; exact h.pck h1 a (by omega)
  · intro i hi
    obtain⟨h1,y,h2,h3⟩:=h.cch hi
    obtain⟨y',a,b,_⟩:=back h2
    exact⟨h1,y',a, by omega⟩
  · show(W5 (up S.all j _) S.cache:Int)≤S.budget
    rw[Dm (B:=S.all)]
    · exact h.sum
    · intro i _
      by_cases q:i=j
      · subst q; rw[XO,hx];rfl
      · rw[XW q]
  · intro i y h1 h2 h3
    obtain⟨y',a,b,c,d,_⟩:=key h2
    rw[c,d]; exact h.slt h1 a (by omega)
  · intro m p h2 h3
    obtain⟨i,y,h4,h5,h6,h7⟩:=h.slu h2 h3
    obtain⟨y',a,b,c,_⟩:=back h5
    exact⟨i,y',h4,a, by omega, by omega⟩
  · intro a b y z h1 h2 h3 h4 h5 h6 h7
    obtain⟨y',a1,b1,c1,_⟩:=key h3
    obtain⟨z',a2,b2,c2,_⟩:=key h4
    exact h.sli h1 h2 a1 a2 (by omega) (by omega) (by omega)
theorem ShI.page {E:Int→Prop} {T:Nat} {S:SS} {j:Int} {x:ShE} {pg:Bs} (h:ShI E T S) (hj: ¬E j) (hx:S.all j=some x) (hp:x.place=1) (hpg:pg.length=64):ShI E T {S with all:=up S.all j (some {x with pg:=pg}),fr:=S.fr.set x.at_.toNat (some pg)}:= by
  obtain⟨hf0,hfl⟩:=Gh (h.frc hj hx hp)
  have hone: ∀{i y},¬E i→S.all i=some y→y.place=1→y.at_=x.at_→i=j:= by
    intro i y h1 h2 h3 h4
    have a:=(h.frm x.at_ i).2 ⟨h1,y,h2,h3,h4⟩
    have b:=(h.frm x.at_ j).2 ⟨hj,x,hx,hp,rfl⟩
    rw[a]at b; cases b;rfl
  have hjc:j∉S.cache:= fun q=> by obtain⟨_,y,h1,h2⟩:=h.cch q; rw[hx]at h1; cases h1;omega
  have key: ∀{i y},up S.all j (some {x with pg:=pg}) i=some y→(i=j∧y={x with pg:=pg})∨(i≠j∧S.all i=some y):= fun {i y} hy=> by
    by_cases q:i=j
    · subst q; rw[XO]at hy; cases hy; exact .inl ⟨rfl,rfl⟩
    · rw[XW q]at hy; exact .inr ⟨q,hy⟩
  have back: ∀{i y},S.all i=some y→ ∃y',up S.all j (some {x with pg:=pg}) i=some y'∧y'.place=y.place∧y'.at_=y.at_:= fun {i y} hy=> by
    by_cases q:i=j
    · subst q; rw[hx]at hy; cases hy; exact⟨_,XO,rfl,rfl⟩
    · exact⟨y, by rw[XW q]; exact hy,rfl,rfl⟩
  refine{h with ck:= ?_,fr1:= ?_,fr2:= ?_,ent:= ?_,frm:= ?_,frc:= ?_,fru:= ?_,pck:= ?_,cch:= ?_,sum:= ?_,slt:= ?_,slu:= ?_,sli:= ?_}
  · show S.ck=(S.fr.set _ (some pg)).map _
    rw[List.map_set,h.ck]
    apply List.ext_getElem?
    intro i
    by_cases q:i=x.at_.toNat
    · subst q
      rw[List.getElem?_set_self (by rw[List.length_map]; exact hfl),List.getElem?_map,(Yi (h.frc hj hx hp)).2];rfl
    · rw[List.getElem?_set_ne (fun e=>q e.symm)]
  · show 1≤(S.fr.set _ _).length; rw[List.length_set]; exact h.fr1
  · show(S.fr.set _ _).length≤_; rw[List.length_set]; exact h.fr2
  · intro i y hy
    rcases key hy with⟨rfl,rfl⟩ | ⟨_,hy⟩
    · obtain⟨a,b,c,d,e,f⟩:=h.ent hx; exact⟨a,b,c,d,hpg,f⟩
    · exact h.ent hy
  · intro g i
    show S.inn g=some i↔_∧ ∃y,up S.all j _ i=some y∧_
    rw[h.frm]
    constructor
    · rintro⟨h1,y,h2,h3,h4⟩
      obtain⟨y',a,b,c⟩:=back h2
      exact⟨h1,y',a, by omega, by omega⟩
    · rintro⟨h1,y,h2,h3,h4⟩
      rcases key h2 with⟨rfl,rfl⟩ | ⟨_,hy⟩
      · exact⟨h1,x,hx,h3,h4⟩
      · exact⟨h1,y,hy,h3,h4⟩
  · intro i y h1 h2 h3
    show ZH (S.fr.set _ (some pg)) _=_
    rcases key h2 with⟨rfl,rfl⟩ | ⟨q,h2⟩
    · exact Vw hf0 hfl
    · rw[JE hf0 (fun e=>q (hone h1 h2 h3 e))]; exact h.frc h1 h2 h3
  · intro g b hg
    show S.inn g≠none
    have hg':ZH (S.fr.set x.at_.toNat (some pg)) g=some b:=hg
    by_cases q:g=x.at_
    · subst q; exact h.fru (h.frc hj hx hp)
    · rw[JE hf0 q]at hg'; exact h.fru hg'
  · intro i y h1 h2 h3
    rcases key h2 with⟨rfl,rfl⟩ | ⟨q,h2⟩
    · have :x.place=2:=h3;omega
    · exact h.pck h1 h2 h3
  · intro i hi
    obtain⟨h1,y,h2,h3⟩:=h.cch hi
    obtain⟨y',a,b,_⟩:=back h2
    exact⟨h1,y',a, by omega⟩
  · show(W5 (up S.all j _) S.cache:Int)≤S.budget
    rw[UL hjc]; exact h.sum
  · intro i y h1 h2 h3
    rcases key h2 with⟨rfl,rfl⟩ | ⟨q,h2⟩
    · have :x.place=3:=h3;omega
    · exact h.slt h1 h2 h3
  · intro m p h2 h3
    obtain⟨i,y,h4,h5,h6,h7⟩:=h.slu h2 h3
    obtain⟨y',a,b,c⟩:=back h5
    exact⟨i,y',h4,a, by omega, by omega⟩
  · intro a b y z h1 h2 h3 h4 h5 h6 h7
    rcases key h3 with⟨rfl,rfl⟩ | ⟨q,h3⟩
    · have :x.place=3:=h5;omega
    · rcases key h4 with⟨rfl,rfl⟩ | ⟨q,h4⟩
      · have :x.place=3:=h6;omega
      · exact h.sli h1 h2 h3 h4 h5 h6 h7
structure ShG (S S':SS):Prop where
  same: ∀j,(S'.all j).map (fun x=>(x.refs,x.pg))=(S.all j).map (fun x=>(x.refs,x.pg))
  tk: ∃L,S'.taken=S.taken++L∧ ∀j x,S.all j=some x→x.place=1→x.at_∈L∨ ∃y,S'.all j=some y∧y.place=1∧y.at_=x.at_
  bud:S'.budget=S.budget
  slo:S'.slots=S.slots
  frn:S'.fr.length=S.fr.length
  nxt:S'.next=S.next
theorem ShG.refl (S:SS):ShG S S:=⟨fun _=>rfl,⟨[], by simp, fun j x h1 h2=> .inr ⟨x,h1,h2,rfl⟩⟩,rfl,rfl,rfl,rfl⟩
theorem ShG.trans {S S' S'':SS} (h:ShG S S') (h':ShG S' S''):ShG S S'':= by
  refine⟨fun j=>(h'.same j).trans (h.same j), ?_,h'.bud.trans h.bud,h'.slo.trans h.slo,h'.frn.trans h.frn,h'.nxt.trans h.nxt⟩
  obtain⟨L,h1,h2⟩:=h.tk
  obtain⟨L',h3,h4⟩:=h'.tk
  refine⟨L++L', by rw[h3,h1,List.append_assoc], fun j x hx hp=> ?_⟩
  rcases h2 j x hx hp with h | ⟨y,hy,hp',ha⟩
  · exact .inl (List.mem_append_left _ h)
  · rcases h4 j y hy hp' with h | ⟨z,hz,hp'',ha'⟩
    · exact .inl (List.mem_append_right _ (by rw[←ha]; exact h))
    · exact .inr ⟨z,hz,hp'',ha'.trans ha⟩
theorem ShG.get {S S':SS} (h:ShG S S') {j:Int} {x:ShE} (hx:S.all j=some x): ∃y,S'.all j=some y∧y.refs=x.refs∧y.pg=x.pg:= by
  have :=h.same j
  rw[hx]at this
  cases hy:S'.all j with
  | none=> rw[hy]at this; cases this
  | some y=> rw[hy]at this; simp at this; exact⟨y,rfl,this.1,this.2⟩
theorem ShG.back {S S':SS} (h:ShG S S') {j:Int} {y:ShE} (hy:S'.all j=some y): ∃x,S.all j=some x∧y.refs=x.refs∧y.pg=x.pg:= by
  have :=h.same j
  rw[hy]at this
  cases hx:S.all j with
  | none=> rw[hx]at this; cases this
  | some x=> rw[hx]at this; simp at this; exact⟨x,rfl,this.1,this.2⟩
theorem ShG.none {S S':SS} (h:ShG S S') {j:Int}:S'.all j=none↔S.all j=none:= by
  have :=h.same j
  cases hx:S.all j<;> cases hy:S'.all j<;>simp_all
end Go.Proofs.YtkgjmhcdacidoaaGreatDoor
namespace Go.Proofs.YtkgjmhcdacidoaaGreatDoor.M
open Go.RowKit
section
variable {κ:Type} {kv:κ→Value} {w:World} {b:Nat} {es:Array MapEntry} {clock:Nat}
theorem BU {P:Program} {o:Oper} {a:Act} (mt:TypeId) (x y:Operand) (ho:o.op= .mapEntry mt x y) {kt et:TypeId} (K:KeyOk P kt kv) (hm:P.underlying mt=some (.map kt et)) (h:MapAt kv w b es clock)
    (hx:a.eval x= .map (some b)) {k:κ} (hy:a.eval y=kv k) {z:Value} (hz:(zeroValue et).run P w= .ok z w):
    does P o a w (fun u w'=> ∃(u0:Value) (c:Nat) (es':Array MapEntry) (clock':Nat) (v:Value),u= .tuple #[u0,.int .i64 (c:Int)]∧isPut kv es es' clock clock' k v∧(∃e∈es'.toList,e.key=kv k∧e.born=c)∧MapAt kv w' b es' clock'∧Only [b] w w'):= by
  rcases K.find k es.toList w h.keys with⟨i,e,h1,h2,h3⟩ | ⟨h1,h2⟩
  · have h1':es[i]? =some e:= by simpa using h1
    have hp:isPut kv es (es.modify i (fun e=>{e with key:=kv k,val:=e.val})) clock clock k e.val:= by
      refine .inl ⟨U,i,e,h1',h2, ?_⟩
      apply Array.ext_getElem?
      intro j
      rw[Array.getElem?_modify,Array.getElem?_modify]
      by_cases hij:i=j
      · subst hij; simp [h1']
      · simp [hij]
    refine⟨_,_,.inl ?_,e.val,e.born,_,_,_,U,hp,⟨{e with key:=kv k}, ?_,U,U⟩,h.put hp,Only.setObj _ _ _⟩
    · simp [execOp,ho,hx,hy,Instr.mapEntry,run_underlying hm,MapKept.run_getObj_map h.blk,MapKept.run_setObj_map _ h.blk,K.check,h3,h1',h2,Instr.keyThatStays,K.bits,goInt]
    · refine List.mem_of_getElem? (i:=i) ?_
      rw[Array.getElem?_toList,Array.getElem?_modify,if_pos U,h1'];rfl
  · have hp:isPut kv es (es.push {key:=kv k,val:=z,born:=clock}) clock (clock+1) k z:= .inr ⟨rfl,h1,rfl⟩
    refine⟨_,_,.inl ?_,z,clock,_,_,_,rfl,hp,⟨{key:=kv k,val:=z,born:=clock}, by simp,rfl,rfl⟩,h.put hp,Only.setObj _ _ _⟩
    simp [execOp,ho,hx,hy,Instr.mapEntry,run_underlying hm,MapKept.run_getObj_map h.blk,MapKept.run_setObj_map _ h.blk,K.check,h2,hz,goInt]
theorem Sn {l:List MapEntry} (h:MapKept.Stamped l.toArray clock) {i j:Nat} {x y:MapEntry} (hi:l[i]? =some x) (hj:l[j]? =some y) (e:x.born=y.born):i=j:= by
  have h2:List.Pairwise (fun x y:MapEntry=>x.born≠y.born) l:=List.pairwise_map.1 (by simpa [List.Nodup]using h.2.1)
  rcases Nat.lt_trichotomy i j with q | q | q
  · obtain⟨a,ha⟩:=XL hi
    obtain⟨b,hb⟩:=XL hj
    have :=(List.pairwise_iff_getElem.1 h2) i j a b q
    rw[ha,hb]at this; exact absurd e this
  · exact q
  · obtain⟨a,ha⟩:=XL hi
    obtain⟨b,hb⟩:=XL hj
    have :=(List.pairwise_iff_getElem.1 h2) j i b a q
    rw[ha,hb]at this; exact absurd e.symm this
def mapE2 (kv:κ→Value) (b:Nat) (f:κ→Option Value) (k:κ) (c:Nat):Th where
  at_:= fun w F=>(F= fun k=>k=b)∧ ∃es clock,MapAt kv w b es clock∧(∃e∈es.toList,e.key=kv k∧e.born=c)∧ ∃v,Reads kv es (upd f k (some v))
  fr:= fun {w1 w2 F} a h=> by
    obtain⟨e,es,z,h,r⟩:=h
    have h':=h.congr (w':=w2) (a.blk _ (by rw[e]))
    exact⟨e,es,z,h',r⟩
  lt:= fun h k hk=> by
    obtain⟨e,es,z,h,_⟩:=h
    rw[e]at hk; subst hk; exact h.lt
theorem upd_upd {f:κ→Option Value} {k:κ} {u v:Option Value}:upd (upd f k u) k v=upd f k v:= by
  funext j
  by_cases h:j=k
  · subst h; rw[Z0,Z0]
  · rw[Wp h,Wp h,Wp h]
section
variable {P:Program} {n:Nat} {ops:Array Oper} {Q:Exit→Act→World→Prop} {rest:List Oper} {L:Env} {d:Nat} {ty:TypeId} {pos:String} {aft:Array Edge} {As:List Th}
theorem ZE {mt kt et:TypeId} {x y:Operand} {f:κ→Option Value} {k:κ} {z:Value} (i:Nat) (hS:Sat w As) (K:KeyOk P kt kv) (hm:P.underlying mt=some (.map kt et)) (hi:As[i]? =some (Q6 kv b f)) (hx:look L x=some (.map (some b))) (hy:look L y=some (kv k)) (hz:XQ P et=some (some z)) (hd:Nat.blt d n=true)
    (hk: ∀u c w',Sat w' (As.set i (mapE2 kv b f k c))→wl P n ops Q rest ((d,.tuple #[u,.int .i64 (c:Int)])::L) w'):wl P n ops Q (⟨some d,.mapEntry mt x y,ty,pos,aft,none⟩::rest) L w:= by
  obtain⟨es,c,h1,h2⟩:=hS.map i hi
  refine XG U hd (fun a ha=>BU mt x y U K hm h1 (ha.eval hx) (ha.eval hy) (J9 hz w)) ?_
  rintro _ w' ⟨u0,c0,es',clock',v,rfl,hp,he,hM,ho⟩
  refine hk u0 c0 w' (hS.step i hi fun F ⟨e,_⟩=>⟨F,⟨e,es',clock',hM,he,v,h2.put K h1.stamped hp⟩, fun k hk=> .inl hk,ho.agree (fun x hx=> .inl (by simp only[List.mem_singleton]at hx; subst hx; rw[e]))⟩)
theorem Zq {mt:TypeId} {x y z:Operand} {c:Nat} {f:κ→Option Value} {k:κ} {v:Value} {kt:TypeId} (i:Nat) (hS:Sat w As) (K:KeyOk P kt kv) (hi:As[i]? =some (mapE2 kv b f k c)) (hx:look L x=some (.map (some b))) (hy:look L y=some (.int .i64 (c:Int))) (hz:look L z=some v)
    (hk: ∀w',Sat w' (As.set i (Q6 kv b (upd f k (some v))))→wl P n ops Q rest L w'):wl P n ops Q (⟨none,.entryStore mt x y z,ty,pos,aft,none⟩::rest) L w:= by
  obtain⟨F,_,es,clock,h1,⟨e,he,hek,hec⟩,u,hr⟩:=hS.get i hi
  obtain⟨j,hj⟩:=List.mem_iff_getElem?.1 he
  have hja:es[j]? =some e:= by simpa using hj
  have hjl:j<es.size:= by
    rcases Nat.lt_or_ge j es.size with g | g
    · exact g
    · rw[Array.getElem?_eq_none g]at hja; cases hja
  have hje:es[j]=e:= by rw[Array.getElem?_eq_getElem hjl]at hja; exact Option.some.inj hja
  have hfi:es.findIdx? (fun e=>((e.born:Nat):Int)==(c:Int))=some j:= by
    rw[Array.findIdx?_eq_some_iff_getElem]
    refine⟨hjl, by rw[hje,hec]; simp, fun m hm=> ?_⟩
    simp only[Bool.not_eq_true,beq_eq_false_iff_ne,ne_eq]
    intro q
    have hm2:es.toList[m]? =some es[m]:= by simp
    have :=Sn (l:=es.toList) (by simpa using h1.stamped) hm2 hj (by omega)
    omega
  have hp:isPut kv es (es.modify j (fun e=>{e with val:=v})) clock clock k v:= by
    refine .inl ⟨U,j,e,hja,hek, ?_⟩
    apply Array.ext_getElem?
    intro m
    rw[Array.getElem?_modify,Array.getElem?_modify]
    by_cases hij:j=m
    · subst hij; simp [hja,←hek]
    · simp [hij]
  refine XG U U (R:= fun t w'=>t=undef∧MapAt kv w' b (es.modify j (fun e=>{e with val:=v})) clock∧Only [b] w w') (fun a ha=>⟨undef,_,.inr ⟨?_,rfl⟩,rfl,h1.put hp,Only.setObj _ _ _⟩) ?_
  · simp [execOp,ha.eval hx,ha.eval hy,ha.eval hz,Instr.entryStore,MapKept.run_getObj_map h1.blk,MapKept.run_setObj_map _ h1.blk,asInt,asIntOf,hfi]
  · rintro _ w' ⟨rfl,h5,h6⟩
    refine hk w' (hS.step i hi fun F ⟨e,_⟩=>⟨F,⟨e,_,_,h5, by have :=hr.put K h1.stamped hp;rwa [upd_upd]at this⟩, fun k hk=> .inl hk,h6.agree (fun x hx=> .inl (by simp only[List.mem_singleton]at hx; subst hx; rw[e]))⟩)
theorem Sa {mt kt et:TypeId} {x:Operand} {f:κ→Option Value} (i:Nat) (hS:Sat w As) (hm:P.underlying mt=some (.map kt et)) (hi:As[i]? =some (Q6 kv b f)) (hx:look L x=some (.map (some b))) {dst:Option Nat} (hd:dOk n dst=true)
    (hk: ∀w',Sat w' (As.set i (Q6 kv b (fun _=>none)))→wl P n ops Q rest (pd dst (.tuple #[]) L) w'):wl P n ops Q (⟨dst,.call ⟨.builtin .clear, #[x], #[mt]⟩,ty,pos,aft,none⟩::rest) L w:= by
  obtain⟨es,c,h1,h2⟩:=hS.map i hi
  refine XG U hd (R:= fun t w'=>t= .tuple #[]∧MapAt kv w' b #[] c∧Only [b] w w') (fun a ha=>⟨.tuple #[],{w with heap:=w.heap.setIfInBounds b (.map #[] c)},.inl ?_,rfl,⟨(MapKept.heap_set h1.blk).1, by simp [MapKept.Stamped], by simp⟩,Only.setObj _ _ _⟩) ?_
  · simp [execOp,ha.eval hx,resolve,invoke,builtin,Builtin.clear_,run_underlying hm,MapKept.run_getObj_map h1.blk,MapKept.run_setObj_map _ h1.blk]
  · rintro _ w' ⟨rfl,h5,h6⟩
    refine hk w' (hS.map_set i hi h5 (fun k v=> by simp) h6)
end
end
