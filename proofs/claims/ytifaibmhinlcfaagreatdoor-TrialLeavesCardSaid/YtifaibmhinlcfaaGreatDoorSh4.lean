/- sheets: plain data -/
import Derived.Test.YtifaibmhinlcfaaGreatDoorSh3
import Derived.Test.YtifaibmhinlcfaaGreatDoorCm1
import Derived.Test.YtifaibmhinlcfaaGreatDoorOp4
set_option linter.unusedVariables false
namespace Go.Proofs.YtifaibmhinlcfaaGreatDoor
open Go.RowKit M
variable {E:Int→Prop} {b:Bs} {fl:List (Option Bs)} {j:Int} {β:Type}
structure ShE where
  refs:Int
  place:Int
  at_:Int
  pg:Bs
variable {x:ShE}
structure SS where
  all:Int→Option ShE
  inn:Int→Option Int
  cache:List Int
  fr:List (Option Bs)
  sl:List Bs
  ck:List Bool
  slots:Int
  budget:Int
  next:Int
  taken:List Int
variable {S S':SS}
def fm (p:Bs):Bs:=(UG p).getD []
def fmL (A:Int->Option ShE) (j:Int):Nat:= match A j with | some x=>(fm x.pg).length | none=>0
def Jj (A:Int->Option ShE) (l:List Int):Nat:=(l.map (fmL A)).sum
open Classical in
noncomputable def up {β:Type} (A:Int->Option β) (j:Int) (v:Option β):Int->Option β:= λi=> if i=j then v else A i
theorem Zf {A:Int->Option β} {v:Option β}:up A j v j=v:=by simp [up]
theorem Zq {A:Int->Option β} {i:Int} {v:Option β} (h:i≠j):up A j v i=A i:=by simp [up,h]
theorem KL {A:Int->Option ShE} {j:Int} {v:Option ShE}: ∀{l:List Int},j∉l->Jj (up A j v) l=Jj A l
  | [],_=>rfl
  | i::l,h=>by
    have b:i≠j:= λq=>h (by simp [q]);have a:=KL (A:=A) (v:=v) (l:=l) (λq=>h (List.mem_cons_of_mem _ q));unfold Jj at a⊢;rw[List.map_cons,List.map_cons,List.sum_cons,List.sum_cons,a];unfold fmL;rw[Zq b]
theorem CN {A B:Int->Option ShE} {l:List Int} (h: ∀j∈l,(A j).map ShE.pg=(B j).map ShE.pg):Jj A l=Jj B l:=by
  unfold Jj;congr 1;refine List.map_congr_left λj a=> ?_;have :=h j a;unfold fmL;cases b:A j<;> cases c:B j<;>simp_all
theorem NL: ∀{a b:List Nat},a.Sublist b->a.sum<=b.sum
  | _,_,.slnil=>Nat.le_refl _
  | _,_,.cons x h=>by have :=NL h;rw[List.sum_cons];omega
  | _,_,.cons_cons x h=>by have :=NL h;rw[List.sum_cons,List.sum_cons];omega
theorem DU {f:Int} (h:Ws fl f=some b):0<=f/\f.toNat<fl.length:=by
  obtain⟨a,c⟩:=Hg h;exact⟨a,(Za c).1⟩
theorem Y7 {f g:Int} {o:Option Bs} (a:0<=f) (h:g≠f):Ws (fl.set f.toNat o) g=Ws fl g:=by
  unfold Ws;split
  · rw[List.getElem?_set_ne (by omega)]
  · rfl
theorem Rz {f:Int} (a:0<=f) (h:f.toNat<fl.length):Ws (fl.set f.toNat (some b)) f=some b:=by
  unfold Ws;rw[if_pos a,List.getElem?_set_self h]
theorem Co {f:Int}:Ws (fl.set f.toNat none) f=none:=by
  unfold Ws;split
  · by_cases h:f.toNat<fl.length
    · rw[List.getElem?_set_self h]
    · rw[List.getElem?_eq_none (by rw[List.length_set];omega)]
  · rfl
structure ShI (E:Int→Prop) (T:Nat) (S:SS):Prop where
  ck:S.ck=S.fr.map Option.isSome
  fr1:1≤S.fr.length
  fr2:S.fr.length≤256
  slo:S.slots=S.sl.length
  sl2:S.sl.length≤4096
  bud:0≤S.budget
  nx1:1≤S.next
  nx2:S.next≤1099511627777+T
  ent: ∀{j x},S.all j=some x→1≤j∧j<S.next∧1≤x.refs∧x.refs≤T+1∧x.pg.length=64∧(x.place=1∨x.place=2∨x.place=3)
  frm: ∀f j,S.inn f=some j↔ ¬E j∧ ∃x,S.all j=some x∧x.place=1∧x.at_=f
  frc: ∀{j x},¬E j→S.all j=some x→x.place=1→Ws S.fr x.at_=some x.pg
  fru: ∀{f b},Ws S.fr f=some b→S.inn f≠none
  pck: ∀{j x},¬E j→S.all j=some x→x.place=2→j∈S.cache∧UG x.pg≠none
  cch: ∀{j},j∈S.cache→ ¬E j∧ ∃x,S.all j=some x∧x.place=2
  nod:S.cache.Nodup
  sum:(Jj S.all S.cache:Int)≤S.budget
  slt: ∀{j x},¬E j→S.all j=some x→x.place=3→0≤x.at_∧S.sl[x.at_.toNat]? =some x.pg
  slu: ∀{k p},S.sl[k]? =some p→p≠[]→ ∃j x,¬E j∧S.all j=some x∧x.place=3∧x.at_=(k:Nat)
  sli: ∀{i j x y},¬E i→ ¬E j→S.all i=some x→S.all j=some y→x.place=3→y.place=3→x.at_=y.at_→i=j
  cln:S.cache.length≤T
  tln:S.taken.length≤T
theorem ShI.mono {T T':Nat} (h:ShI E T S) (f:T<=T'):ShI E T' S:=
  {h with nx2:=by have :=h.nx2;omega,ent:= λq=>by obtain⟨a,b,c,d,e⟩:=h.ent q;exact⟨a,b,c,by omega,e⟩,cln:=by have :=h.cln;omega,tln:=by have :=h.tln;omega}
theorem ShI.congr {E':Int->Prop} {T:Nat} (h:ShI E T S) (e: ∀j,S.all j≠none->(E j↔E' j)):ShI E' T S:=by
  have k: ∀{j x},S.all j=some x->(E j↔E' j):= λb=>e _ (by rw[b];simp);refine{h with frm:= ?_,frc:= ?_,pck:= ?_,cch:= ?_,slt:= ?_,slu:= ?_,sli:= ?_}
  · intro f j;rw[h.frm];constructor
    · rintro⟨b,x,a,c⟩;exact⟨λq=>b ((k a).2 q),x,a,c⟩
    · rintro⟨b,x,a,c⟩;exact⟨λq=>b ((k a).1 q),x,a,c⟩
  · exact λb a=>h.frc (λq=>b ((k a).1 q)) a
  · exact λb a=>h.pck (λq=>b ((k a).1 q)) a
  · intro j b;obtain⟨a,x,c,d⟩:=h.cch b;exact⟨λq=>a ((k c).2 q),x,c,d⟩
  · exact λb a=>h.slt (λq=>b ((k a).1 q)) a
  · intro m p b a;obtain⟨j,x,c,d,g⟩:=h.slu b a;exact⟨j,x,λq=>c ((k d).2 q),d,g⟩
  · exact λb a c d=>h.sli (λq=>b ((k c).1 q)) (λq=>a ((k d).1 q)) c d
def Gj:Int->Prop:= λ_=>False
def one (j:Int):Int->Prop:= λi=>i=j
theorem no64 {p:Bs} (h:p.length=64) (a:some ([]:Bs)=some p):False:=by cases a;simp at h
noncomputable def offFrame (S:SS) (f:Int):SS:={S with fr:=S.fr.set f.toNat none,ck:=S.ck.set f.toNat false,inn:=up S.inn f none,taken:=S.taken++[f]}
theorem ShI.offFrame {T:Nat} {f:Int} (h:ShI E T S) (v: ¬E j) (r:S.all j=some x) (w:x.place=1) (z:x.at_=f):ShI (λi=>E i\/i=j) (T+1) (offFrame S f):=by
  subst z;obtain⟨s,A⟩:=DU (h.frc v r w)
  have o: ∀{i y},¬E i->S.all i=some y->y.place=1->y.at_=x.at_->i=j:=by
    intro i y c d e l;have a:=(h.frm x.at_ i).2 ⟨c,y,d,e,l⟩;have b:=(h.frm x.at_ j).2 ⟨v,x,r,w,rfl⟩;rw[a]at b;cases b;rfl
  have k:=h.mono (Nat.le_add_right T 1);refine{ck:= ?_,fr1:= ?_,fr2:= ?_,slo:=h.slo,sl2:=h.sl2,bud:=h.bud,nx1:=h.nx1,nx2:=k.nx2,ent:=k.ent,frm:= ?_,frc:= ?_,fru:= ?_,pck:= ?_,cch:= ?_,nod:=h.nod,sum:=h.sum,slt:= ?_,slu:= ?_,sli:= ?_,cln:=k.cln,tln:= ?_}
  · show S.ck.set _ false=(S.fr.set _ none).map _;rw[List.map_set,h.ck];rfl
  · show 1<=(S.fr.set _ _).length;rw[List.length_set];exact h.fr1
  · show(S.fr.set _ _).length<=_;rw[List.length_set];exact h.fr2
  · intro g i;show up S.inn x.at_ none g=some i↔_;by_cases t:g=x.at_
    · subst t;rw[Zf];constructor
      · intro q;cases q
      · rintro⟨c,y,d,e,l⟩;exact absurd (.inr (o (λq=>c (.inl q)) d e l)) c
    · rw[Zq t,h.frm];constructor
      · rintro⟨c,y,d,e,l⟩;refine⟨?_,y,d,e,l⟩;rintro(q | q)
        · exact c q
        · subst q;rw[r]at d;cases d;exact t l.symm
      · rintro⟨c,d⟩;exact⟨λq=>c (.inl q),d⟩
  · intro i y c d e;show Ws (S.fr.set _ none) _=_;have u: ¬E i:= λq=>c (.inl q);rw[Y7 s (λq=>c (.inr (o u d e q)))];exact h.frc u d e
  · intro g b t;show up S.inn x.at_ none g≠none;have n:Ws (S.fr.set x.at_.toNat none) g=some b:=t;by_cases q:g=x.at_
    · subst q;rw[Co]at n;cases n
    · rw[Zq q];rw[Y7 s q]at n;exact h.fru n
  · exact λc=>h.pck (λq=>c (.inl q))
  · intro i hi;obtain⟨c,y,d,e⟩:=h.cch hi;refine⟨?_,y,d,e⟩;rintro(q | q)
    · exact c q
    · subst q;rw[r]at d;cases d;omega
  · exact λc=>h.slt (λq=>c (.inl q))
  · intro m p c d;obtain⟨i,y,e,l,B,C⟩:=h.slu c d;refine⟨i,y, ?_,l,B,C⟩;rintro(q | q)
    · exact e q
    · subst q;rw[r]at l;cases l;omega
  · exact λc d=>h.sli (λq=>c (.inl q)) (λq=>d (.inl q))
  · show(S.taken++[_]).length<=_;have :=h.tln;simp;exact this
theorem ShI.offCache {T:Nat} {c:List Int} (h:ShI E T S) (n:S.all j=some x) (t:x.place=2) (f:c.Sublist S.cache) (o: ∀i,i∈c↔i∈S.cache/\i≠j):ShI (λi=>E i\/i=j) T {S with cache:=c}:=by
  refine{h with frm:= ?_,frc:= ?_,pck:= ?_,cch:= ?_,nod:= ?_,sum:= ?_,slt:= ?_,slu:= ?_,sli:= ?_,cln:= ?_}
  · intro g i;show S.inn g=some i↔_;rw[h.frm];constructor
    · rintro⟨a,y,b,e,d⟩;refine⟨?_,y,b,e,d⟩;rintro(q | q)
      · exact a q
      · subst q;rw[n]at b;cases b;omega
    · rintro⟨a,b⟩;exact⟨λq=>a (.inl q),b⟩
  · exact λa=>h.frc (λq=>a (.inl q))
  · intro i y a b e;obtain⟨d,k⟩:=h.pck (λq=>a (.inl q)) b e;exact⟨(o i).2 ⟨d,λq=>a (.inr q)⟩,k⟩
  · intro i hi;obtain⟨r,l⟩:=(o i).1 hi;obtain⟨a,b⟩:=h.cch r;refine⟨?_,b⟩;rintro(q | q)
    · exact a q
    · exact l q
  · exact h.nod.sublist f
  · have a:Jj S.all c<=Jj S.all S.cache:=by
      unfold Jj;exact NL (f.map (fmL S.all))
    have :=h.sum;show(Jj S.all c:Int)<=S.budget;omega
  · exact λa=>h.slt (λq=>a (.inl q))
  · intro m p a b;obtain⟨i,y,e,d,k,s⟩:=h.slu a b;refine⟨i,y, ?_,d,k,s⟩;rintro(q | q)
    · exact e q
    · subst q;rw[n]at d;cases d;omega
  · exact λa b=>h.sli (λq=>a (.inl q)) (λq=>b (.inl q))
  · have :=h.cln;have :=f.length_le;show c.length<=T;omega
theorem ShI.offSlot {T:Nat} (h:ShI E T S) (o: ¬E j) (k:S.all j=some x) (r:x.place=3):ShI (λi=>E i\/i=j) T {S with sl:=S.sl.set x.at_.toNat []}:=by
  obtain⟨u,s⟩:=h.slt o k r;have l:=(Za s).1;refine{h with slo:= ?_,sl2:= ?_,frm:= ?_,frc:= ?_,pck:= ?_,cch:= ?_,slt:= ?_,slu:= ?_,sli:= ?_}
  · show S.slots=((S.sl.set _ _).length:Int);rw[List.length_set];exact h.slo
  · show(S.sl.set _ _).length<=_;rw[List.length_set];exact h.sl2
  · intro g i;show S.inn g=some i↔_;rw[h.frm];constructor
    · rintro⟨b,y,a,d,f⟩;refine⟨?_,y,a,d,f⟩;rintro(q | q)
      · exact b q
      · subst q;rw[k]at a;cases a;omega
    · rintro⟨b,a⟩;exact⟨λq=>b (.inl q),a⟩
  · exact λb=>h.frc (λq=>b (.inl q))
  · exact λb=>h.pck (λq=>b (.inl q))
  · intro i hi;obtain⟨b,y,a,d⟩:=h.cch hi;refine⟨?_,y,a,d⟩;rintro(q | q)
    · exact b q
    · subst q;rw[k]at a;cases a;omega
  · intro i y b a d;have c: ¬E i:= λq=>b (.inl q);obtain⟨f,n⟩:=h.slt c a d;refine⟨f, ?_⟩;show(S.sl.set _ _)[_]? =_;rw[List.getElem?_set_ne]
    · exact n
    · intro q;exact b (.inr (h.sli c o a k d r (by omega)))
  · intro m p b a;have c:(S.sl.set x.at_.toNat [])[m]? =some p:=b;by_cases q:m=x.at_.toNat
    · subst q;rw[List.getElem?_set_self l]at c;cases c;exact absurd U a
    · rw[List.getElem?_set_ne (λe=>q e.symm)]at c;obtain⟨i,y,d,f,n,t⟩:=h.slu c a;refine⟨i,y, ?_,f,n,t⟩;rintro(e | e)
      · exact d e
      · subst e;rw[k]at f;cases f;omega
  · exact λb a=>h.sli (λq=>b (.inl q)) (λq=>a (.inl q))
theorem ShI.onCache {T:Nat} (h:ShI E T S) (o:E j) (t:S.all j=some x) (u:UG x.pg≠none) (w:(Jj S.all S.cache+(fm x.pg).length:Int)<=S.budget) (B:S.cache.length+1<=T) (ea:Int):
    ShI (λi=>E i/\i≠j) T {S with all:=up S.all j (some ⟨x.refs,2,ea,x.pg⟩),cache:=S.cache++[j]}:=by
  have n:j∉S.cache:= λq=>(h.cch q).1 o;obtain⟨C,D,F,G,H,_⟩:=h.ent t
  have key: ∀{i y},up S.all j (some ⟨x.refs,2,ea,x.pg⟩) i=some y->(i=j/\y=⟨x.refs,2,ea,x.pg⟩)\/(i≠j/\S.all i=some y):= λ{i y} k=>by
    by_cases q:i=j
    · subst q;rw[Zf]at k;cases k;exact .inl ⟨rfl,rfl⟩
    · rw[Zq q]at k;exact .inr ⟨q,k⟩
  have nE: ∀{i},¬(E i/\i≠j)->i≠j-> ¬E i:= λd c e=>d ⟨e,c⟩;have yE: ∀{i},¬E i-> ¬(E i/\i≠j):= λd c=>d c.1;have ne: ∀{i},¬E i->i≠j:= λd c=>d (c▸o);refine{h with ent:= ?_,frm:= ?_,frc:= ?_,pck:= ?_,cch:= ?_,nod:= ?_,sum:= ?_,slt:= ?_,slu:= ?_,sli:= ?_,cln:= ?_}
  · intro i y k;rcases key k with⟨rfl,rfl⟩ | ⟨_,k⟩
    · exact⟨C,D,F,G,H,.inr (.inl U)⟩
    · exact h.ent k
  · intro g i;show S.inn g=some i↔_/\ ∃y,up S.all j _ i=some y/\_;rw[h.frm];constructor
    · rintro⟨d,y,c,e⟩;exact⟨yE d,y,by rw[Zq (ne d)];exact c,e⟩
    · rintro⟨d,y,c,e,f⟩;rcases key c with⟨rfl,rfl⟩ | ⟨q,c⟩
      · cases e
      · exact⟨nE d q,y,c,e,f⟩
  · intro i y d c e;rcases key c with⟨rfl,rfl⟩ | ⟨q,c⟩
    · cases e
    · exact h.frc (nE d q) c e
  · intro i y d c e;rcases key c with⟨rfl,rfl⟩ | ⟨q,c⟩
    · exact⟨by simp,u⟩
    · obtain⟨f,l⟩:=h.pck (nE d q) c e;exact⟨List.mem_append_left _ f,l⟩
  · intro i hi;show _/\ ∃y,up S.all j _ i=some y/\_;rcases List.mem_append.1 hi with hi | hi
    · obtain⟨d,y,c,e⟩:=h.cch hi;exact⟨yE d,y,by rw[Zq (ne d)];exact c,e⟩
    · simp at hi;subst hi;exact⟨λq=>q.2 U,_,Zf,rfl⟩
  · refine List.nodup_append.2 ⟨h.nod,by simp, ?_⟩;rintro a I b r rfl;simp at r;subst r;exact n I
  · show(Jj (up S.all j _) (S.cache++[j]):Int)<=S.budget;have d:=KL (A:=S.all) (v:=some ⟨x.refs,2,ea,x.pg⟩) n;unfold Jj at d w⊢;rw[List.map_append,List.sum_append,d];have c:fmL (up S.all j (some ⟨x.refs,2,ea,x.pg⟩)) j=(fm x.pg).length:=by unfold fmL;rw[Zf]
    simp only[List.map_cons,List.map_nil,List.sum_cons,List.sum_nil,c];omega
  · intro i y d c e;rcases key c with⟨rfl,rfl⟩ | ⟨q,c⟩
    · cases e
    · exact h.slt (nE d q) c e
  · intro m p d c;obtain⟨i,y,e,f,l⟩:=h.slu d c;exact⟨i,y,yE e,by show up S.all j _ i=_;rw[Zq (ne e)];exact f,l⟩
  · intro a b y z d c e f l s;rcases key e with⟨rfl,rfl⟩ | ⟨q,e⟩
    · cases l
    · rcases key f with⟨rfl,rfl⟩ | ⟨q',f⟩
      · cases s
      · exact h.sli (nE d q) (nE c q') e f l s
  · show(S.cache++[j]).length<=T;simp;exact B
theorem ShI.onSlot {T:Nat} {k:Nat} (h:ShI E T S) (C:E j) (F:S.all j=some x) (u:S.sl[k]? =some []):
    ShI (λi=>E i/\i≠j) T {S with all:=up S.all j (some ⟨x.refs,3,(k:Nat),x.pg⟩),sl:=S.sl.set k x.pg}:=by
  have v:j∉S.cache:= λq=>(h.cch q).1 C;have w:k<S.sl.length:=(Za u).1;obtain⟨G,H,I,J,K,_⟩:=h.ent F
  have key: ∀{i y},up S.all j (some ⟨x.refs,3,(k:Nat),x.pg⟩) i=some y->(i=j/\y=⟨x.refs,3,(k:Nat),x.pg⟩)\/(i≠j/\S.all i=some y):= λ{i y} o=>by
    by_cases q:i=j
    · subst q;rw[Zf]at o;cases o;exact .inl ⟨rfl,rfl⟩
    · rw[Zq q]at o;exact .inr ⟨q,o⟩
  have nE: ∀{i},¬(E i/\i≠j)->i≠j-> ¬E i:= λd c f=>d ⟨f,c⟩;have yE: ∀{i},¬E i-> ¬(E i/\i≠j):= λd c=>d c.1;have ne: ∀{i},¬E i->i≠j:= λd c=>d (c▸C);refine{h with slo:= ?_,sl2:= ?_,ent:= ?_,frm:= ?_,frc:= ?_,pck:= ?_,cch:= ?_,sum:= ?_,slt:= ?_,slu:= ?_,sli:= ?_}
  · show S.slots=((S.sl.set _ _).length:Int);rw[List.length_set];exact h.slo
  · show(S.sl.set _ _).length<=_;rw[List.length_set];exact h.sl2
  · intro i y o;rcases key o with⟨rfl,rfl⟩ | ⟨_,o⟩
    · exact⟨G,H,I,J,K,.inr (.inr U)⟩
    · exact h.ent o
  · intro g i;show S.inn g=some i↔_/\ ∃y,up S.all j _ i=some y/\_;rw[h.frm];constructor
    · rintro⟨d,y,c,f⟩;exact⟨yE d,y,by rw[Zq (ne d)];exact c,f⟩
    · rintro⟨d,y,c,f,l⟩;rcases key c with⟨rfl,rfl⟩ | ⟨q,c⟩
      · cases f
      · exact⟨nE d q,y,c,f,l⟩
  · intro i y d c f;rcases key c with⟨rfl,rfl⟩ | ⟨q,c⟩
    · cases f
    · exact h.frc (nE d q) c f
  · intro i y d c f;rcases key c with⟨rfl,rfl⟩ | ⟨q,c⟩
    · cases f
    · exact h.pck (nE d q) c f
  · intro i hi;show _/\ ∃y,up S.all j _ i=some y/\_;obtain⟨d,y,c,f⟩:=h.cch hi;exact⟨yE d,y,by rw[Zq (ne d)];exact c,f⟩
  · show(Jj (up S.all j _) S.cache:Int)<=S.budget;rw[KL v];exact h.sum
  · intro i y d c f;show _/\(S.sl.set k x.pg)[_]? =_;rcases key c with⟨rfl,rfl⟩ | ⟨q,c⟩
    · refine⟨by simp, ?_⟩;simp [w]
    · obtain⟨l,r⟩:=h.slt (nE d q) c f;refine⟨l, ?_⟩;rw[List.getElem?_set_ne]
      · exact r
      · intro L;rw[<-L,u]at r;exact no64 (h.ent c).2.2.2.2.1 r
  · intro m p d c;have s:(S.sl.set k x.pg)[m]? =some p:=d;show ∃i y,_/\up S.all j _ i=some y/\_;by_cases q:m=k
    · subst q;exact⟨j,_,λq=>q.2 U,Zf,rfl,rfl⟩
    · rw[List.getElem?_set_ne (λe=>q e.symm)]at s;obtain⟨i,y,f,l,r⟩:=h.slu s c;exact⟨i,y,yE f,by rw[Zq (ne f)];exact l,r⟩
  · intro a b y z d c A t r D B;rcases key A with⟨rfl,rfl⟩ | ⟨q,f⟩
    · rcases key t with⟨rfl,rfl⟩ | ⟨q',l⟩
      · rfl
      · exfalso;obtain⟨_,n⟩:=h.slt (nE c q') l D;rw[<-B]at n;simp only[Int.toNat_natCast]at n;rw[u]at n;exact no64 (h.ent l).2.2.2.2.1 n
    · rcases key t with⟨rfl,rfl⟩ | ⟨q',l⟩
      · exfalso;obtain⟨_,n⟩:=h.slt (nE d q) f r;rw[B]at n;simp only[Int.toNat_natCast]at n;rw[u]at n;exact no64 (h.ent f).2.2.2.2.1 n
      · exact h.sli (nE d q) (nE c q') f l r D B
theorem ShI.onFrame {T:Nat} {nx r:Int} {pg:Bs} {f:Nat} (h:ShI E T S) (G:E j) (H:S.fr[f]? =some none) (n:1<=j) (K:S.next<=nx) (x:nx<=1099511627777+T) (A:j<nx) (I:1<=r/\r<=T+1) (B:pg.length=64):
    ShI (λi=>E i/\i≠j) T {S with all:=up S.all j (some ⟨r,1,(f:Nat),pg⟩),inn:=up S.inn (f:Nat) (some j),fr:=S.fr.set f (some pg),ck:=S.ck.set f true,next:=nx}:=by
  have C:j∉S.cache:= λq=>(h.cch q).1 G;have D:f<S.fr.length:=(Za H).1;have F:Ws S.fr (f:Nat)=none:=by unfold Ws;rw[if_pos (by omega)];simp [H]
  have key: ∀{i y},up S.all j (some ⟨r,1,(f:Nat),pg⟩) i=some y->(i=j/\y=⟨r,1,(f:Nat),pg⟩)\/(i≠j/\S.all i=some y):= λ{i y} t=>by
    by_cases q:i=j
    · subst q;rw[Zf]at t;cases t;exact .inl ⟨rfl,rfl⟩
    · rw[Zq q]at t;exact .inr ⟨q,t⟩
  have nE: ∀{i},¬(E i/\i≠j)->i≠j-> ¬E i:= λn e d=>n ⟨d,e⟩;have yE: ∀{i},¬E i-> ¬(E i/\i≠j):= λn e=>n e.1;have ne: ∀{i},¬E i->i≠j:= λn e=>n (e▸G);have nf: ∀{i y},¬E i->S.all i=some y->y.place=1->y.at_≠(f:Nat):= λa b c q=>by have :=h.frc a b c;rw[q,F]at this;cases this
  have l:(Int.toNat (f:Int))=f:=Int.toNat_natCast f;refine{h with ck:= ?_,fr1:= ?_,fr2:= ?_,nx1:= ?_,nx2:= ?_,ent:= ?_,frm:= ?_,frc:= ?_,fru:= ?_,pck:= ?_,cch:= ?_,sum:= ?_,slt:= ?_,slu:= ?_,sli:= ?_}
  · show S.ck.set _ true=(S.fr.set _ (some pg)).map _;rw[List.map_set,h.ck];rfl
  · show 1<=(S.fr.set _ _).length;rw[List.length_set];exact h.fr1
  · show(S.fr.set _ _).length<=_;rw[List.length_set];exact h.fr2
  · have :=h.nx1;show 1<=nx;omega
  · exact x
  · intro i y t;rcases key t with⟨rfl,rfl⟩ | ⟨_,t⟩
    · exact⟨n,A,I.1,I.2,B,.inl U⟩
    · obtain⟨a,b,c⟩:=h.ent t;exact⟨a,by show i<nx;omega,c⟩
  · intro g i;show up S.inn _ _ g=some i↔_/\ ∃y,up S.all j _ i=some y/\_;by_cases u:g=(f:Nat)
    · subst u;rw[Zf];constructor
      · intro q;cases q;exact⟨λq=>q.2 U,_,Zf,rfl,rfl⟩
      · rintro⟨e,y,d,k,s⟩;rcases key d with⟨rfl,rfl⟩ | ⟨q,d⟩
        · rfl
        · exact absurd s (nf (nE e q) d k)
    · rw[Zq u,h.frm];constructor
      · rintro⟨e,y,d,k⟩;exact⟨yE e,y,by rw[Zq (ne e)];exact d,k⟩
      · rintro⟨e,y,d,k,s⟩;rcases key d with⟨rfl,rfl⟩ | ⟨q,d⟩
        · exact absurd s.symm u
        · exact⟨nE e q,y,d,k,s⟩
  · intro i y e d k;show Ws (S.fr.set f (some pg)) _=_;rcases key d with⟨rfl,rfl⟩ | ⟨q,d⟩
    · have :=Rz (fl:=S.fr) (f:=(f:Nat)) (b:=pg) (by omega) (by rw[l];exact D);rw[l]at this;exact this
    · have :=Y7 (fl:=S.fr) (f:=(f:Nat)) (g:=y.at_) (o:=some pg) (by omega) (nf (nE e q) d k);rw[l]at this;rw[this];exact h.frc (nE e q) d k
  · intro g b u;show up S.inn _ _ g≠none;by_cases q:g=(f:Nat)
    · rw[q,Zf];simp
    · rw[Zq q];have :=Y7 (fl:=S.fr) (f:=(f:Nat)) (g:=g) (o:=some pg) (by omega) q;rw[l]at this;have v:Ws (S.fr.set f (some pg)) g=some b:=u;rw[this]at v;exact h.fru v
  · intro i y e d k;rcases key d with⟨rfl,rfl⟩ | ⟨q,d⟩
    · cases k
    · exact h.pck (nE e q) d k
  · intro i hi;show _/\ ∃y,up S.all j _ i=some y/\_;obtain⟨n,y,e,d⟩:=h.cch hi;exact⟨yE n,y,by rw[Zq (ne n)];exact e,d⟩
  · show(Jj (up S.all j _) S.cache:Int)<=S.budget;rw[KL C];exact h.sum
  · intro i y e d k;rcases key d with⟨rfl,rfl⟩ | ⟨q,d⟩
    · cases k
    · exact h.slt (nE e q) d k
  · intro m p e d;show ∃i y,_/\up S.all j _ i=some y/\_;obtain⟨i,y,k,s,w⟩:=h.slu e d;exact⟨i,y,yE k,by rw[Zq (ne k)];exact s,w⟩
  · intro a b y z e d k s w J;rcases key k with⟨rfl,rfl⟩ | ⟨q,k⟩
    · cases w
    · rcases key s with⟨rfl,rfl⟩ | ⟨q',s⟩
      · cases J
      · exact h.sli (nE e q) (nE d q') k s w J
theorem ShI.gone {T:Nat} (h:ShI E T S) (k:E j):ShI (λi=>E i/\i≠j) T {S with all:=up S.all j none}:=by
  have f:j∉S.cache:= λq=>(h.cch q).1 k
  have key: ∀{i y},up S.all j none i=some y->i≠j/\S.all i=some y:= λ{i y} d=>by
    by_cases q:i=j
    · subst q;rw[Zf]at d;cases d
    · rw[Zq q]at d;exact⟨q,d⟩
  have nE: ∀{i},¬(E i/\i≠j)->i≠j-> ¬E i:= λb a c=>b ⟨c,a⟩;have yE: ∀{i},¬E i-> ¬(E i/\i≠j):= λb a=>b a.1;have ne: ∀{i},¬E i->i≠j:= λb a=>b (a▸k);refine{h with ent:= ?_,frm:= ?_,frc:= ?_,pck:= ?_,cch:= ?_,sum:= ?_,slt:= ?_,slu:= ?_,sli:= ?_}
  · exact λd=>h.ent (key d).2
  · intro g i;show S.inn g=some i↔_/\ ∃y,up S.all j _ i=some y/\_;rw[h.frm];constructor
    · rintro⟨b,y,a,c⟩;exact⟨yE b,y,by rw[Zq (ne b)];exact a,c⟩
    · rintro⟨b,y,a,c⟩;exact⟨nE b (key a).1,y,(key a).2,c⟩
  · exact λb a=>h.frc (nE b (key a).1) (key a).2
  · exact λb a=>h.pck (nE b (key a).1) (key a).2
  · intro i hi;show _/\ ∃y,up S.all j _ i=some y/\_;obtain⟨b,y,a,c⟩:=h.cch hi;exact⟨yE b,y,by rw[Zq (ne b)];exact a,c⟩
  · show(Jj (up S.all j _) S.cache:Int)<=S.budget;rw[KL f];exact h.sum
  · exact λb a=>h.slt (nE b (key a).1) (key a).2
  · intro m p a c;show ∃i y,_/\up S.all j _ i=some y/\_;obtain⟨i,y,e,l,n⟩:=h.slu a c;exact⟨i,y,yE e,by rw[Zq (ne e)];exact l,n⟩
  · exact λb a c e=>h.sli (nE b (key c).1) (nE a (key e).1) (key c).2 (key e).2
theorem ShI.refs {E:Int->Prop} {T:Nat} {S:SS} {j r:Int} {x:ShE} (h:ShI E T S) (t:S.all j=some x) (D:1<=r/\r<=T+1):ShI E T {S with all:=up S.all j (some {x with refs:=r})}:=by
  have key: ∀{i y},up S.all j (some {x with refs:=r}) i=some y-> ∃y',S.all i=some y'/\y.place=y'.place/\y.at_=y'.at_/\y.pg=y'.pg/\(y.refs=y'.refs\/y.refs=r):= λ{i y} n=>by
    by_cases q:i=j
    · subst q;rw[Zf]at n;cases n;exact⟨x,t,rfl,rfl,rfl,.inr U⟩
    · rw[Zq q]at n;exact⟨y,n,rfl,rfl,rfl,.inl U⟩
  have back: ∀{i y},S.all i=some y-> ∃y',up S.all j (some {x with refs:=r}) i=some y'/\y'.place=y.place/\y'.at_=y.at_/\y'.pg=y.pg:= λ{i y} n=>by
    by_cases q:i=j
    · subst q;rw[t]at n;cases n;exact⟨_,Zf,rfl,rfl,rfl⟩
    · exact⟨y,by rw[Zq q];exact n,rfl,rfl,rfl⟩
  refine{h with ent:= ?_,frm:= ?_,frc:= ?_,pck:= ?_,cch:= ?_,sum:= ?_,slt:= ?_,slu:= ?_,sli:= ?_}
  · intro i y n;obtain⟨y',l,k,o,s,u⟩:=key n;obtain⟨a,b,c,d,e,f⟩:=h.ent l;rw[k,s];refine⟨a,b, ?_, ?_,e,f⟩<;>omega
  · intro g i;show S.inn g=some i↔_/\ ∃y,up S.all j _ i=some y/\_;rw[h.frm];constructor
    · rintro⟨l,y,k,o,s⟩;obtain⟨y',a,b,c,_⟩:=back k;exact⟨l,y',a,by omega,by omega⟩
    · rintro⟨l,y,k,o,s⟩;obtain⟨y',a,b,c,_⟩:=key k;exact⟨l,y',a,by omega,by omega⟩
  · intro i y l k o;obtain⟨y',a,b,c,d,_⟩:=key k;rw[c,d];exact h.frc l a (by omega)
  · intro i y l k o;obtain⟨y',a,b,c,d,_⟩:=key k;rw[d];exact h.pck l a (by omega)
  · intro i hi;obtain⟨l,y,k,o⟩:=h.cch hi;obtain⟨y',a,b,_⟩:=back k;exact⟨l,y',a,by omega⟩
  · show(Jj (up S.all j _) S.cache:Int)<=S.budget;rw[CN (B:=S.all)]
    · exact h.sum
    · intro i _;by_cases q:i=j
      · subst q;rw[Zf,t];rfl
      · rw[Zq q]
  · intro i y l k o;obtain⟨y',a,b,c,d,_⟩:=key k;rw[c,d];exact h.slt l a (by omega)
  · intro m p k o;obtain⟨i,y,s,u,v,w⟩:=h.slu k o;obtain⟨y',a,b,c,_⟩:=back u;exact⟨i,y',s,a,by omega,by omega⟩
  · intro a b y z l k o s u v w;obtain⟨y',A,b1,c1,_⟩:=key o;obtain⟨z',C,b2,F,_⟩:=key s;exact h.sli l k A C (by omega) (by omega) (by omega)
theorem ShI.page {T:Nat} {pg:Bs} (h:ShI E T S) (A: ¬E j) (s:S.all j=some x) (B:x.place=1) (D:pg.length=64):ShI E T {S with all:=up S.all j (some {x with pg:=pg}),fr:=S.fr.set x.at_.toNat (some pg)}:=by
  obtain⟨t,u⟩:=DU (h.frc A s B)
  have v: ∀{i y},¬E i->S.all i=some y->y.place=1->y.at_=x.at_->i=j:=by
    intro i y n k l r;have a:=(h.frm x.at_ i).2 ⟨n,y,k,l,r⟩;have b:=(h.frm x.at_ j).2 ⟨A,x,s,B,rfl⟩;rw[a]at b;cases b;rfl
  have F:j∉S.cache:= λq=>by obtain⟨_,y,n,k⟩:=h.cch q;rw[s]at n;cases n;omega
  have key: ∀{i y},up S.all j (some {x with pg:=pg}) i=some y->(i=j/\y={x with pg:=pg})\/(i≠j/\S.all i=some y):= λ{i y} o=>by
    by_cases q:i=j
    · subst q;rw[Zf]at o;cases o;exact .inl ⟨rfl,rfl⟩
    · rw[Zq q]at o;exact .inr ⟨q,o⟩
  have back: ∀{i y},S.all i=some y-> ∃y',up S.all j (some {x with pg:=pg}) i=some y'/\y'.place=y.place/\y'.at_=y.at_:= λ{i y} o=>by
    by_cases q:i=j
    · subst q;rw[s]at o;cases o;exact⟨_,Zf,rfl,rfl⟩
    · exact⟨y,by rw[Zq q];exact o,rfl,rfl⟩
  refine{h with ck:= ?_,fr1:= ?_,fr2:= ?_,ent:= ?_,frm:= ?_,frc:= ?_,fru:= ?_,pck:= ?_,cch:= ?_,sum:= ?_,slt:= ?_,slu:= ?_,sli:= ?_}
  · show S.ck=(S.fr.set _ (some pg)).map _;rw[List.map_set,h.ck];apply List.ext_getElem?;intro i;by_cases q:i=x.at_.toNat
    · subst q;rw[List.getElem?_set_self (by rw[List.length_map];exact u),List.getElem?_map,(Hg (h.frc A s B)).2];rfl
    · rw[List.getElem?_set_ne (λe=>q e.symm)]
  · show 1<=(S.fr.set _ _).length;rw[List.length_set];exact h.fr1
  · show(S.fr.set _ _).length<=_;rw[List.length_set];exact h.fr2
  · intro i y o;rcases key o with⟨rfl,rfl⟩ | ⟨_,o⟩
    · obtain⟨a,b,c,d,e,f⟩:=h.ent s;exact⟨a,b,c,d,D,f⟩
    · exact h.ent o
  · intro g i;show S.inn g=some i↔_/\ ∃y,up S.all j _ i=some y/\_;rw[h.frm];constructor
    · rintro⟨n,y,k,l,r⟩;obtain⟨y',a,b,c⟩:=back k;exact⟨n,y',a,by omega,by omega⟩
    · rintro⟨n,y,k,l,r⟩;rcases key k with⟨rfl,rfl⟩ | ⟨_,o⟩
      · exact⟨n,x,s,l,r⟩
      · exact⟨n,y,o,l,r⟩
  · intro i y n k l;show Ws (S.fr.set _ (some pg)) _=_;rcases key k with⟨rfl,rfl⟩ | ⟨q,k⟩
    · exact Rz t u
    · rw[Y7 t (λe=>q (v n k l e))];exact h.frc n k l
  · intro g b I;show S.inn g≠none;have w:Ws (S.fr.set x.at_.toNat (some pg)) g=some b:=I;by_cases q:g=x.at_
    · subst q;exact h.fru (h.frc A s B)
    · rw[Y7 t q]at w;exact h.fru w
  · intro i y n k l;rcases key k with⟨rfl,rfl⟩ | ⟨q,k⟩
    · have :x.place=2:=l;omega
    · exact h.pck n k l
  · intro i hi;obtain⟨n,y,k,l⟩:=h.cch hi;obtain⟨y',a,b,_⟩:=back k;exact⟨n,y',a,by omega⟩
  · show(Jj (up S.all j _) S.cache:Int)<=S.budget;rw[KL F];exact h.sum
  · intro i y n k l;rcases key k with⟨rfl,rfl⟩ | ⟨q,k⟩
    · have :x.place=3:=l;omega
    · exact h.slt n k l
  · intro m p k l;obtain⟨i,y,r,C,G,H⟩:=h.slu k l;obtain⟨y',a,b,c⟩:=back C;exact⟨i,y',r,a,by omega,by omega⟩
  · intro a b y z n k l r C G H;rcases key l with⟨rfl,rfl⟩ | ⟨q,l⟩
    · have :x.place=3:=C;omega
    · rcases key r with⟨rfl,rfl⟩ | ⟨q,r⟩
      · have :x.place=3:=G;omega
      · exact h.sli n k l r C G H
structure ShG (S S':SS):Prop where
  same: ∀j,(S'.all j).map (fun x=>(x.refs,x.pg))=(S.all j).map (fun x=>(x.refs,x.pg))
  tk: ∃L,S'.taken=S.taken++L∧ ∀j x,S.all j=some x→x.place=1→x.at_∈L∨ ∃y,S'.all j=some y∧y.place=1∧y.at_=x.at_
  bud:S'.budget=S.budget
  slo:S'.slots=S.slots
  frn:S'.fr.length=S.fr.length
  nxt:S'.next=S.next
theorem ShG.refl (S:SS):ShG S S:=⟨λ_=>rfl,⟨[],by simp,λj x a b=> .inr ⟨x,a,b,rfl⟩⟩,rfl,rfl,rfl,rfl⟩
theorem ShG.trans {S S' S'':SS} (h:ShG S S') (a:ShG S' S''):ShG S S'':=by
  refine⟨λj=>(a.same j).trans (h.same j), ?_,a.bud.trans h.bud,a.slo.trans h.slo,a.frn.trans h.frn,a.nxt.trans h.nxt⟩;obtain⟨L,f,g⟩:=h.tk;obtain⟨L',i,k⟩:=a.tk;refine⟨L++L',by rw[i,f,List.append_assoc],λj x l m=> ?_⟩;rcases g j x l m with h | ⟨y,n,c,e⟩
  · exact .inl (List.mem_append_left _ h)
  · rcases k j y n c with h | ⟨z,o,b,d⟩
    · exact .inl (List.mem_append_right _ (by rw[<-e];exact h))
    · exact .inr ⟨z,o,b,d.trans e⟩
theorem ShG.get (h:ShG S S') (b:S.all j=some x): ∃y,S'.all j=some y/\y.refs=x.refs/\y.pg=x.pg:=by
  have :=h.same j;rw[b]at this;cases a:S'.all j with
  | none=> rw[a]at this;cases this
  | some y=> rw[a]at this;simp at this;exact⟨y,rfl,this.1,this.2⟩
theorem ShG.back (h:ShG S S') {y:ShE} (b:S'.all j=some y): ∃x,S.all j=some x/\y.refs=x.refs/\y.pg=x.pg:=by
  have :=h.same j;rw[b]at this;cases a:S.all j with
  | none=> rw[a]at this;cases this
  | some x=> rw[a]at this;simp at this;exact⟨x,rfl,this.1,this.2⟩
theorem ShG.none (h:ShG S S') :S'.all j=none↔S.all j=none:=by
  have :=h.same j;cases a:S.all j<;> cases b:S'.all j<;>simp_all
end Go.Proofs.YtifaibmhinlcfaaGreatDoor
namespace Go.Proofs.YtifaibmhinlcfaaGreatDoor.M
open Go.RowKit
variable {et kt mt:TypeId} {x y:Operand} {z:Value}
section
variable {κ:Type} {kv:κ→Value} {w:World} {b:Nat} {es:Array MapEntry} {clock:Nat}
theorem Cr {P:Program} {o:Oper} {a:Act} (mt:TypeId) (x y:Operand) (n:o.op= .mapEntry mt x y) (K:KeyOk P kt kv) (p:P.underlying mt=some (.map kt et)) (h:MapAt kv w b es clock)
    (q:a.eval x= .map (some b)) {k:κ} (r:a.eval y=kv k) (s:(zeroValue et).run P w= .ok z w):
    does P o a w (λu w'=> ∃(t:Value) (c:Nat) (es':Array MapEntry) (clock':Nat) (v:Value),u= .tuple #[t,.int .i64 (c:Int)]/\isPut kv es es' clock clock' k v/\(∃e∈es'.toList,e.key=kv k/\e.born=c)/\MapAt kv w' b es' clock'/\Only [b] w w'):=by
  rcases K.find k es.toList w h.keys with⟨i,e,m,l,A⟩ | ⟨m,l⟩
  · have d:es[i]? =some e:=by simpa using m
    have f:isPut kv es (es.modify i (λe=>{e with key:=kv k,val:=e.val})) clock clock k e.val:=by
      refine .inl ⟨U,i,e,d,l, ?_⟩;apply Array.ext_getElem?;intro j;rw[Array.getElem?_modify,Array.getElem?_modify];by_cases g:i=j
      · subst g;simp [d]
      · simp [g]
    refine⟨_,_,.inl ?_,e.val,e.born,_,_,_,U,f,⟨{e with key:=kv k}, ?_,U,U⟩,h.put f,Only.setObj _ _ _⟩
    · simp [execOp,n,q,r,Instr.mapEntry,run_underlying p,MapKept.run_getObj_map h.blk,MapKept.run_setObj_map _ h.blk,K.check,A,d,l,Instr.keyThatStays,K.bits,goInt]
    · refine List.mem_of_getElem? (i:=i) ?_;rw[Array.getElem?_toList,Array.getElem?_modify,if_pos U,d];rfl
  · have f:isPut kv es (es.push {key:=kv k,val:=z,born:=clock}) clock (clock+1) k z:= .inr ⟨rfl,m,rfl⟩;refine⟨_,_,.inl ?_,z,clock,_,_,_,rfl,f,⟨{key:=kv k,val:=z,born:=clock},by simp,rfl,rfl⟩,h.put f,Only.setObj _ _ _⟩;simp [execOp,n,q,r,Instr.mapEntry,run_underlying p,MapKept.run_getObj_map h.blk,MapKept.run_setObj_map _ h.blk,K.check,l,s,goInt]
theorem OD {l:List MapEntry} (h:MapKept.Stamped l.toArray clock) {i j:Nat} {x y:MapEntry} (hi:l[i]? =some x) (f:l[j]? =some y) (e:x.born=y.born):i=j:=by
  have g:List.Pairwise (λx y:MapEntry=>x.born≠y.born) l:=List.pairwise_map.1 (by simpa [List.Nodup]using h.2.1);rcases Nat.lt_trichotomy i j with q | q | q
  · obtain⟨a,c⟩:=Za hi;obtain⟨b,d⟩:=Za f;have :=(List.pairwise_iff_getElem.1 g) i j a b q;rw[c,d]at this;exact absurd e this
  · exact q
  · obtain⟨a,c⟩:=Za hi;obtain⟨b,d⟩:=Za f;have :=(List.pairwise_iff_getElem.1 g) j i b a q;rw[c,d]at this;exact absurd e.symm this
def mapE2 (kv:κ->Value) (b:Nat) (f:κ->Option Value) (k:κ) (c:Nat):Th where
  at_:= λw F=>(F= λk=>k=b)/\ ∃es clock,MapAt kv w b es clock/\(∃e∈es.toList,e.key=kv k/\e.born=c)/\ ∃v,Reads kv es (upd f k (some v))
  fr:= λ{i w2 F} a h=>by
    obtain⟨e,es,z,h,r⟩:=h;have g:=h.congr (w':=w2) (a.blk _ (by rw[e]));exact⟨e,es,z,g,r⟩
  lt:= λh k d=>by
    obtain⟨e,es,z,h,_⟩:=h;rw[e]at d;subst d;exact h.lt
theorem upd_upd {f:κ->Option Value} {k:κ} {u v:Option Value}:upd (upd f k u) k v=upd f k v:=by
  funext j;by_cases h:j=k
  · subst h;rw[XR,XR]
  · rw[ZG h,ZG h,ZG h]
section
variable {P:Program} {n:Nat} {ops:Array Oper} {Q:Exit→Act→World→Prop} {rest:List Oper} {L:Env} {d:Nat} {ty:TypeId} {pos:String} {aft:Array Edge} {As:List Th}
theorem Wl {f:κ->Option Value} {k:κ} (i:Nat) (j:Sat w As) (K:KeyOk P kt kv) (o:P.underlying mt=some (.map kt et)) (hi:As[i]? =some (Q4 kv b f)) (g:look L x=some (.map (some b))) (p:look L y=some (kv k)) (q:XE P et=some (some z)) (hd:Nat.blt d n=true)
    (h: ∀u c w',Sat w' (As.set i (mapE2 kv b f k c))->wl P n ops Q rest ((d,.tuple #[u,.int .i64 (c:Int)])::L) w'):wl P n ops Q (⟨some d,.mapEntry mt x y,ty,pos,aft,none⟩::rest) L w:=by
  obtain⟨es,c,l,r⟩:=j.map i hi;refine XI U hd (λa m=>Cr mt x y U K o l (m.eval g) (m.eval p) (Jq q w)) ?_;rintro _ w' ⟨s,t,es',clock',v,rfl,A,B,C,D⟩;refine h s t w' (j.step i hi λF ⟨e,_⟩=>⟨F,⟨e,es',clock',C,B,v,r.put K l.stamped A⟩,λk h=> .inl h,D.agree (λx g=> .inl (by simp only[List.mem_singleton]at g;subst g;rw[e]))⟩)
theorem ZE {z:Operand} {c:Nat} {f:κ->Option Value} {k:κ} {v:Value} (i:Nat) (H:Sat w As) (K:KeyOk P kt kv) (hi:As[i]? =some (mapE2 kv b f k c)) (s:look L x=some (.map (some b))) (M:look L y=some (.int .i64 (c:Int))) (N:look L z=some v)
    (A: ∀w',Sat w' (As.set i (Q4 kv b (upd f k (some v))))->wl P n ops Q rest L w'):wl P n ops Q (⟨none,.entryStore mt x y z,ty,pos,aft,none⟩::rest) L w:=by
  obtain⟨F,_,es,clock,h,⟨e,O,o,B⟩,u,S⟩:=H.get i hi;obtain⟨j,I⟩:=List.mem_iff_getElem?.1 O;have d:es[j]? =some e:=by simpa using I
  have p:j<es.size:=by
    rcases Nat.lt_or_ge j es.size with g | g
    · exact g
    · rw[Array.getElem?_eq_none g]at d;cases d
  have C:es[j]=e:=by rw[Array.getElem?_eq_getElem p]at d;exact Option.some.inj d
  have D:es.findIdx? (λe=>((e.born:Nat):Int)==(c:Int))=some j:=by
    rw[Array.findIdx?_eq_some_iff_getElem];refine⟨p,by rw[C,B];simp,λm W=> ?_⟩;simp only[Bool.not_eq_true,beq_eq_false_iff_ne,ne_eq];intro q;have E:es.toList[m]? =some es[m]:=by simp
    have :=OD (l:=es.toList) (by simpa using h.stamped) E I (by omega);omega
  have J:isPut kv es (es.modify j (λe=>{e with val:=v})) clock clock k v:=by
    refine .inl ⟨U,j,e,d,o, ?_⟩;apply Array.ext_getElem?;intro m;rw[Array.getElem?_modify,Array.getElem?_modify];by_cases r:j=m
    · subst r;simp [d,<-o]
    · simp [r]
  refine XI U U (R:= λt w'=>t=undef/\MapAt kv w' b (es.modify j (λe=>{e with val:=v})) clock/\Only [b] w w') (λa G=>⟨undef,_,.inr ⟨?_,rfl⟩,rfl,h.put J,Only.setObj _ _ _⟩) ?_
  · simp [execOp,G.eval s,G.eval M,G.eval N,Instr.entryStore,MapKept.run_getObj_map h.blk,MapKept.run_setObj_map _ h.blk,asInt,asIntOf,D]
  · rintro _ w' ⟨rfl,T,V⟩;refine A w' (H.step i hi λF ⟨e,_⟩=>⟨F,⟨e,_,_,T,by have :=S.put K h.stamped J;rwa [upd_upd]at this⟩,λk A=> .inl A,V.agree (λx s=> .inl (by simp only[List.mem_singleton]at s;subst s;rw[e]))⟩)
theorem Ox {f:κ->Option Value} (i:Nat) (e:Sat w As) (g:P.underlying mt=some (.map kt et)) (hi:As[i]? =some (Q4 kv b f)) (h:look L x=some (.map (some b))) {dst:Option Nat} (hd:dOk n dst=true)
    (j: ∀w',Sat w' (As.set i (Q4 kv b (λ_=>none)))->wl P n ops Q rest (pd dst (.tuple #[]) L) w'):wl P n ops Q (⟨dst,.call ⟨.builtin .clear, #[x], #[mt]⟩,ty,pos,aft,none⟩::rest) L w:=by
  obtain⟨es,c,d,p⟩:=e.map i hi;refine XI U hd (R:= λt w'=>t= .tuple #[]/\MapAt kv w' b #[] c/\Only [b] w w') (λa l=>⟨.tuple #[],{w with heap:=w.heap.setIfInBounds b (.map #[] c)},.inl ?_,rfl,⟨(MapKept.heap_set d.blk).1,by simp [MapKept.Stamped],by simp⟩,Only.setObj _ _ _⟩) ?_
  · simp [execOp,l.eval h,resolve,invoke,builtin,Builtin.clear_,run_underlying g,MapKept.run_getObj_map d.blk,MapKept.run_setObj_map _ d.blk]
  · rintro _ w' ⟨rfl,m,o⟩;refine j w' (e.map_set i hi m (λk v=>by simp) o)
end
end
