/- leaves: merged, plain -/
import Derived.Test.YtifaibmhinlcfaaGreatDoorLvn
set_option linter.unusedSectionVars false
set_option linter.unusedVariables false
namespace Go.Proofs.YtifaibmhinlcfaaGreatDoor
open Go.RowKit M
variable [Inhabited SlW]
variable {L:LvD} {V V1:VS} {i m:Nat} {k:KD} {l:List KD} {made:KD→Option Int} {now r:Bs} {s:Int} {t:TrD} {wr:BitVec 64} {x:LfD}
def Ca (now own:Bs) (wr:BitVec 64):Bs:=(List.range 64).map λj=> if wr.getLsbD j=true then own.getD j 0 else now.getD j 0
def MgI (now own r:Bs) (wr:BitVec 64) (i:Nat):Prop:=r.length=64/\ ∀j,j<64->r[j]? = if j<i/\wr.getLsbD j=true then own[j]? else now[j]?
theorem MgI.start {own:Bs} (h:now.length=64):MgI now own now wr 0:=⟨h,λj _=>by rw[if_neg (by omega)]⟩
theorem MgI.T {own:Bs} {c:UInt8} (h:MgI now own r wr i) (hi:i<64) (b:wr.getLsbD i=true) (d:own[i]? =some c):MgI now own (r.set i c) wr (i+1):=by
  refine⟨by rw[List.length_set];exact h.1,λj f=> ?_⟩;by_cases e:j=i
  · subst e;rw[List.getElem?_set_self (by rw[h.1];omega),if_pos ⟨by omega,b⟩,d]
  · rw[List.getElem?_set_ne (λq=>e q.symm),h.2 j f];by_cases q:j<i/\wr.getLsbD j=true
    · rw[if_pos q,if_pos ⟨by omega,q.2⟩]
    · rw[if_neg q,if_neg λa=>q ⟨by omega,a.2⟩]
theorem MgI.F {own:Bs} (h:MgI now own r wr i) (b:wr.getLsbD i=false):MgI now own r wr (i+1):=by
  refine⟨h.1,λj c=> ?_⟩;rw[h.2 j c];by_cases q:j<i/\wr.getLsbD j=true
  · rw[if_pos q,if_pos ⟨by omega,q.2⟩]
  · rw[if_neg q,if_neg λa=>q ⟨by
      have :j≠i:= λe=>by subst e;rw[b]at a;simp at a
      omega,a.2⟩]
theorem getD_some {l:Bs} {j:Nat} (h:j<l.length):l[j]? =some (l.getD j 0):=by simp [List.getD,h]
theorem MgI.fin {own:Bs} (h:MgI now own r wr 64) (c:now.length=64) (d:own.length=64):r=Ca now own wr:=by
  apply List.ext_getElem?;intro j;by_cases b:j<64
  · rw[h.2 j b];unfold Ca;rw[List.getElem?_map,List.getElem?_range b];simp only[Option.map_some];split
    · rename_i q;rw[if_pos q.2,getD_some (by omega)]
    · rename_i q;rw[if_neg λa=>q ⟨b,a⟩,getD_some (by omega)]
  · rw[List.getElem?_eq_none (by rw[h.1];omega),List.getElem?_eq_none (by simp [Ca];omega)]
theorem Pd {own:Bs} :(Ca now own wr).length=64:=by simp [Ca]
def Rx (L:LvD) (t:TrD) (k:KD) (x:LfD):Prop:=x.wr≠0#64/\x.wr≠BitVec.allOnes 64/\XA L t.parent k≠x.base
open Classical in
noncomputable def YG (t:TrD) (l:List KD):Nat:=(l.filter λk=>decide (∃x,t.lv k=some x/\x.wr≠0#64/\x.wr≠BitVec.allOnes 64)).length
def Ur (made:KD->Option Int):KD->Int:= λk=>(made k).getD 0
structure MdI (m:Nat) (L:LvD) (V V1:VS) (t:TrD) (ex:Int→Int) (made:KD→Option Int) (l:List KD):Prop where
  inv:LvX ex m L V1
  ab:QC L V1=QC L V
  pg: ∀s,XP V s→Zm V1 s=Zm V s
  av: ∀s,XP V s→XP V1 s
  mx: ∀j,j≠0→ ∃n:Nat,Cnt (Ur made) j n∧ex j=n
  dom: ∀k,made k≠none↔k∈l∧ ∃x,t.lv k=some x∧Rx L t k x
  con: ∀k s x,made k=some s→t.lv k=some x→Zm V1 s=Ca (Zm V (XA L t.parent k)) (Zm V x.own) x.wr
  al: ∀c,AliveLe V c→AliveLe V1 (c+YG t l)
theorem Mg {κ:Type} {j:Int} (h:j≠0):Cnt (λ_:κ=>0) j 0:=⟨[],List.nodup_nil,λp=>by simp;omega,rfl⟩
theorem MdI.start (h:LvI m L V):MdI m L V V t (λ_=>0) (λ_=>none) []:=
  ⟨h,rfl,λ_ _=>rfl,λ_ q=>q,λj a=>⟨0,Mg a,rfl⟩,λk=>by simp,(λk s x q=>by cases q),λc q=>q⟩
theorem MdI.nn {ex:Int->Int} (h:MdI m L V V1 t ex made l):NN ex:= λj a=>by
  obtain⟨n,_,e⟩:=h.mx j a;rw[e];omega
theorem MdI.ge {ex:Int->Int} (h:MdI m L V V1 t ex made l) (b:made k=some s) (c:s≠0):1<=ex s:=by
  obtain⟨n,a,e⟩:=h.mx s c;have :=Mf a (p:=k) (by unfold Ur;rw[b];rfl);rw[e];omega
theorem MdI.alive {ex:Int->Int} (h:MdI m L V V1 t ex made l) (d:made k=some s):XP V1 s:=by
  by_cases c:s=0
  · exact .inl c
  · obtain⟨n,a,b⟩:=h.inv.ref.1 s c;have :=h.ge d c;exact .inr (h.inv.ref.alive_of (by omega))
theorem qcm (a:l[i]? =some k):YG t (l.take i)<=YG t (l.take (i+1)):=by
  unfold YG;rw[List.take_add_one,a,List.filter_append,List.length_append];omega
theorem Ig (a:l[i]? =some k) (b:t.lv k=some x) (c:x.wr≠0#64) (d:x.wr≠BitVec.allOnes 64):YG t (l.take (i+1))=YG t (l.take i)+1:=by
  unfold YG;rw[List.take_add_one,a,List.filter_append,List.length_append];simp only[Option.toList_some];rw[List.filter_cons_of_pos (by simp;exact⟨x,b,c,d⟩)];rfl
theorem KV {j:KD} (a:l[i]? =some k):j∈l.take (i+1)↔j∈l.take i\/j=k:=by
  rw[List.take_add_one,a];simp
theorem MdI.skip {ex:Int->Int} (h:MdI m L V V1 t ex made (l.take i)) (e:l[i]? =some k) (f:t.lv k=some x) (g: ¬Rx L t k x):MdI m L V V1 t ex made (l.take (i+1)):=
  ⟨h.inv,h.ab,h.pg,h.av,h.mx,λj=>by
    rw[h.dom,KV e];constructor
    · rintro⟨a,b⟩;exact⟨.inl a,b⟩
    · rintro⟨a | rfl,y,d,b⟩
      · exact⟨a,y,d,b⟩
      · rw[f]at d;cases d;exact absurd b g,h.con,λc q=>(h.al c q).mono (by have :=qcm (t:=t) e;omega)⟩
theorem mdF_up:Ur (QN made k (some s))=VN (Ur made) k s:=by
  funext j;by_cases e:j=k
  · subst e;rw[XO];unfold Ur;rw[Qv];rfl
  · rw[Zk e];unfold Ur;rw[Qz e]
theorem MdI.put {V2:VS} {ex ex2:Int->Int} (h:MdI m L V V1 t ex made (l.take i)) (o:l[i]? =some k) (hd:l.Nodup) (r:t.lv k=some x) (v:Rx L t k x)
    (E:LvX ex2 m L V2) (F:QC L V2=QC L V) (w: ∀j,XP V1 j->Zm V2 j=Zm V1 j/\XP V2 j) (C: ∀j,j≠0->ex2 j=ex j+dl s j) (G:Zm V2 s=Ca (Zm V (XA L t.parent k)) (Zm V x.own) x.wr) (H: ∀c,AliveLe V1 c->AliveLe V2 (c+1)):
    MdI m L V V2 t ex2 (QN made k (some s)) (l.take (i+1)):=by
  have z:=HK hd o;have A:made k=none:=Classical.byContradiction λq=>z ((h.dom k).1 q).1;refine⟨E,F,λj d=>((w j (h.av j d)).1).trans (h.pg j d),λj d=>(w j (h.av j d)).2,λj d=> ?_,λj=> ?_,λj u y f B=> ?_,λc q=>(H _ (h.al c q)).mono (by rw[Ig o r v.1 v.2.1];omega)⟩
  · obtain⟨n,a,e⟩:=h.mx j d;rw[mdF_up];have g:Ur made k=0:=by unfold Ur;rw[A];rfl
    by_cases q:j=s
    · subst q;exact⟨n+1,qe3 (by rw[g];omega) a,by rw[C j d,WE,e];omega⟩
    · refine⟨n,UT (λp=> ?_) a,by rw[C j d,JE q,e];omega⟩;by_cases D:p=k
      · subst D;rw[XO,g];exact⟨λa=>absurd a.symm q,λa=>absurd a.symm d⟩
      · rw[Zk D]
  · rw[KV o];by_cases e:j=k
    · subst e;rw[Qv];simp;exact⟨x,r,v⟩
    · rw[Qz e,h.dom];constructor
      · rintro⟨a,b⟩;exact⟨.inl a,b⟩
      · rintro⟨a | a,b⟩
        · exact⟨a,b⟩
        · exact absurd a e
  · by_cases e:j=k
    · subst e;rw[Qv]at f;rw[r]at B;cases f;cases B;exact G
    · rw[Qz e]at f;rw[(w u (h.alive f)).1];exact h.con j u y f B
theorem MdI.zero {m:Nat} {L:LvD} {V V1:VS} {t:TrD} {ex:Int->Int} {made:KD->Option Int} {l:List KD} {i:Nat} {k:KD} {x:LfD} {pg:Bs} (h:MdI m L V V1 t ex made (l.take i)) (b:l[i]? =some k) (hd:l.Nodup) (d:t.lv k=some x) (e:Rx L t k x)
    (f:pg=zer) (g:pg=Ca (Zm V (XA L t.parent k)) (Zm V x.own) x.wr):MdI m L V V1 t ex (QN made k (some 0)) (l.take (i+1)):=
  h.put b hd d e h.inv h.ab (λj a=>⟨rfl,a⟩) (λj a=>by rw[JE a];omega) (by rw[JP h.inv.zero,<-f,g]) (λc q=>q.mono (by omega))
theorem MdI.fresh {m:Nat} {L:LvD} {V V1:VS} {t:TrD} {ex:Int->Int} {made:KD->Option Int} {l:List KD} {i:Nat} {k:KD} {x:LfD} {pg:Bs} {s:Int} (h:MdI m L V V1 t ex made (l.take i)) (n:l[i]? =some k) (hd:l.Nodup) (o:t.lv k=some x) (r:Rx L t k x)
    (u:1<=s) (d:V1 s=none) (f:pg=Ca (Zm V (XA L t.parent k)) (Zm V x.own) x.wr):MdI m L V (QN V1 s (some (1,pg))) t (λj=>ex j+dl s j) (QN made k (some s)) (l.take (i+1)):=by
  have v:pg.length=64:=by rw[f];exact Pd
  have a: ∀j,XP V1 j->j≠s:= λj b e=>by
    subst e;rcases b with e | e
    · omega
    · exact e d
  have g:QC L (QN V1 s (some (1,pg)))=QC L V1:=V9 λp=>KR (a _ (h.inv.aliveX h.nn p));refine h.put n hd o r ⟨h.inv.ref.fresh d u v,h.inv.rank,by rw[g];exact h.inv.agree⟩ (g.trans h.ab) (λj b=>⟨KR (a j b), ?_⟩) (λ_ _=>rfl) (by rw[Yv Qv];exact f) (λc q=>q.put);rcases b with e | e
  · exact .inl e
  · refine .inr ?_;rw[Qz (a j (.inr e))];exact e
structure UnI (m:Nat) (L:LvD) (V V1:VS) (made:KD→Option Int) (l:List KD) (ex:Int→Int):Prop where
  inv:LvX ex m L V1
  ab:QC L V1=QC L V
  mx: ∀j,j≠0→ ∃n:Nat,Cnt (WM (fun k=>k∈l) 0 (Ur made)) j n∧ex j=n
  al: ∀c,AliveLe V c→AliveLe V1 c
theorem UnI.nn {ex:Int->Int} (h:UnI m L V V1 made l ex):NN ex:= λj a=>by
  obtain⟨n,_,e⟩:=h.mx j a;rw[e];omega
theorem UnI.step {ex:Int->Int} (h:UnI m L V V1 made (l.take i) ex) (g:l[i]? =some k) (hd:l.Nodup):
    UnI m L V (ZH V1 (Ur made k)) made (l.take (i+1)) (λj=>ex j -dl (Ur made k) j):=by
  have d:=HK hd g;have f:WM (λk=>k∈l.take i) 0 (Ur made) k=Ur made k:=by unfold WM;rw[if_neg d]
  obtain⟨t,u⟩:=h.inv.unr (s:=Ur made k) h.nn λw=>by
    obtain⟨n,a,e⟩:=h.mx _ w;have :=Mf a (p:=k) f;rw[e];omega
  refine⟨t,u.trans h.ab,λj o=> ?_,λc q=>(h.al c q).unr⟩;obtain⟨n,a,e⟩:=h.mx j o;rw[KB (P:= λk=>k∈l.take i) (k:=k) (λp=>(KV g).trans Or.comm)];by_cases q:Ur made k=j
  · obtain⟨n',rfl,b⟩:=P1 (v:=0) (f.trans q) (by omega) a;exact⟨n',b,by show ex j -dl (Ur made k) j=_;rw[q,WE,e];omega⟩
  · refine⟨n,UT (λp=> ?_) a,by show ex j -dl (Ur made k) j=_;rw[JE (λa=>q a.symm),e];omega⟩;by_cases r:p=k
    · subst r;rw[XO,f];exact⟨λa=>absurd a.symm o,λa=>absurd a q⟩
    · rw[Zk r]
theorem UnI.fin {ex:Int->Int} (h:UnI m L V V1 made l ex) (c: ∀k,made k≠none->k∈l):LvI m L V1:=by
  refine h.inv.ext λj b=> ?_;obtain⟨n,a,e⟩:=h.mx j b
  have d:WM (λk=>k∈l) 0 (Ur made)= λ_=>0:=by
    funext k;unfold WM;split
    · rfl
    · rename_i q;unfold Ur;cases r:made k with
      | none=>rfl
      | some s=> exact absurd (c k (by rw[r];simp)) q
  rw[d]at a;rw[e,Au a (Mg b)];rfl
def Br (made:KD->Option Int):KD->Option Value:= λk=>(made k).map intV
theorem qc2:Br (λ_=>none)= λ_=>none:=rfl
theorem Pe:upd (Br made) k (some (intV s))=Br (QN made k (some s)):=by
  funext j;by_cases e:j=k
  · subst e;rw[XR];unfold Br;rw[Qv];rfl
  · rw[ZG e];unfold Br;rw[Qz e]
theorem EI:(Br made k).getD (intV 0)=intV (Ur made k):=by unfold Br Ur;cases made k<;>rfl
theorem MdI.un {ex:Int->Int} (h:MdI m L V V1 t ex made l):UnI m L V1 V1 made [] ex:=by
  refine⟨h.inv,rfl,λj b=> ?_,λ_ q=>q⟩;obtain⟨n,a,e⟩:=h.mx j b;exact⟨n,by have c:WM (λk=>k∈([]:List KD)) 0 (Ur made)=Ur made:=(by funext k;simp [WM]);rw[c];exact a,e⟩
