/- leaves: references, plain -/
import Derived.Test.YtifaibmhinlcfaaGreatDoorLv3
set_option linter.unusedSectionVars false
set_option linter.unusedVariables false
namespace Go.Proofs.YtifaibmhinlcfaaGreatDoor
open Go.RowKit M
variable [Inhabited SlW]
variable {L L':LvD} {V V':VS} {c d m n:Nat} {i id r s:Int} {k:KD} {o:Option (Int×Bs)} {t t':TrD} {x:LfD} {α κ:Type}
open Classical in
noncomputable def VN {κ α:Type} (f:κ->α) (k:κ) (v:α):κ->α:= λj=> if j=k then v else f j
theorem XO {f:κ->α} {k:κ} {v:α}:VN f k v k=v:=by unfold VN;rw[if_pos U]
theorem Zk {f:κ->α} {k j:κ} {v:α} (h:j≠k):VN f k v j=f j:=by unfold VN;rw[if_neg h]
def Cnt {κ:Type} (f:κ->Int) (s:Int) (n:Nat):Prop:= ∃l:List κ,l.Nodup/\(∀p,p∈l↔f p=s)/\l.length=n
section
variable {κ:Type} {f g:κ→Int} {s v:Int} {n m:Nat} {p:κ}
theorem UT (h: ∀p,g p=s↔f p=s) (d:Cnt f s n):Cnt g s n:=by
  obtain⟨l,a,b,c⟩:=d;exact⟨l,a,λp=>(b p).trans (h p).symm,c⟩
theorem Au (h:Cnt f s n) (c:Cnt f s m):n=m:=by
  obtain⟨l,a,b,rfl⟩:=h;obtain⟨l',a',b',rfl⟩:=c;exact((List.perm_ext_iff_of_nodup a a').2 λk=>(b k).trans (b' k).symm).length_eq
theorem qe3 (d:f p≠s) (h:Cnt f s n):Cnt (VN f p s) s (n+1):=by
  obtain⟨l,a,b,c⟩:=h;refine⟨p::l,List.nodup_cons.2 ⟨λq=>d ((b p).1 q),a⟩,λq=> ?_,by simp [c]⟩;by_cases e:q=p
  · subst e;rw[XO];simp
  · rw[Zk e,List.mem_cons,b q];simp [e]
theorem P1 (g:f p=s) (i:v≠s) (h:Cnt f s n): ∃m,n=m+1/\Cnt (VN f p v) s m:=by
  obtain⟨l,a,b,c⟩:=h;obtain⟨x,y,rfl⟩:=List.append_of_mem ((b p).2 g)
  have d:(x++y).Nodup/\p∉x++y:=by
    have :=(List.perm_middle (l₁:=x) (a:=p) (l₂:=y)).nodup_iff.1 a;rw[List.nodup_cons]at this;exact⟨this.2,this.1⟩
  refine⟨(x++y).length,by rw[<-c];simp;omega,x++y,d.1,λq=> ?_,rfl⟩;by_cases e:q=p
  · subst e;rw[XO];exact⟨λh=>absurd h d.2,λh=>absurd h i⟩
  · rw[Zk e,<-b q];simp [e]
theorem Mf (h:Cnt f s n) (c:f p=s):1<=n:=by
  obtain⟨l,a,b,rfl⟩:=h;exact List.length_pos_of_mem ((b p).2 c)
theorem cnt_one (h:Cnt f s 1) (g:f p=s): ∀q,f q=s->q=p:=by
  obtain⟨l,a,b,c⟩:=h;obtain⟨x,rfl⟩:=List.length_eq_one_iff.1 c;intro q i;have d:=(b p).2 g;have e:=(b q).2 i;simp at d e;rw[d,e]
end
def dl (s:Int):Int->Int:= λj=> if j=s then 1 else 0
theorem WE:dl s s=1:=by unfold dl;rw[if_pos U]
theorem JE {j:Int} (h:j≠s):dl s j=0:=by unfold dl;rw[if_neg h]
def RefI {κ:Type} (f:κ->Int) (V:VS) (ex:Int->Int):Prop:=(∀s,s≠0-> ∃n:Nat,Cnt f s n/\ZF V s=n+ex s)/\ ∀s x,V s=some x->1<=x.1/\1<=s/\x.2.length=64
section
variable {κ:Type} {f g:κ→Int} {V:VS} {ex ex':Int→Int} {s:Int} {p:κ}
theorem RefI.zero (h:RefI f V ex):V 0=none:=by
  cases q:V 0 with
  | none=>rfl
  | some x=> have :=(h.2 0 x q).2.1;omega
theorem RefI.ext (h:RefI f V ex) (d: ∀j,j≠0->ex' j=ex j):RefI f V ex':=⟨λs c=>by obtain⟨n,a,b⟩:=h.1 s c;exact⟨n,a,by rw[d s c];exact b⟩,h.2⟩
theorem RefI.fn (h:RefI f V ex) (a: ∀p,g p=f p):RefI g V ex:=by
  have :g=f:=funext a;rw[this];exact h
theorem Vl (h:V s=none):ZF V s=0:=by unfold ZF;rw[h]
theorem WW {x:Int×Bs} (h:V s=some x):ZF V s=x.1:=by unfold ZF;rw[h]
theorem RefI.alive_of (h:RefI f V ex) (a:1<=ZF V s):V s≠none:= λq=>by rw[Vl q]at a;omega
theorem RefI.aliveN (h:RefI f V ex) (d:f p=s) (e:s≠0->0<=ex s):XP V s:=by
  by_cases c:s=0
  · exact .inl c
  · obtain⟨n,a,b⟩:=h.1 s c;have :=Mf a d;have :=e c;exact .inr (h.alive_of (by omega))
theorem RefI.alive (h:RefI f V ex) (a:f p=s) (b:0<=ex s):XP V s:=h.aliveN a λ_=>b
theorem RefI.ref (h:RefI f V ex) (g:XP V s):RefI f (refW V s) (λj=>ex j+dl s j):=by
  by_cases k:s=0
  · have e:refW V s=V:=by unfold refW;rw[if_pos k]
    rw[e];exact h.ext λj l=>by rw[JE (by omega)];omega
  have e:refW V s=HX V s:=by unfold refW;rw[if_neg k]
  rw[e];cases q:V s with
  | none => rcases g with g | g
            · exact absurd g k
            · exact absurd q g
  | some x=>
    have m:HX V s=QN V s (some (x.1+1,x.2)):=by unfold HX;rw[q]
    rw[m];refine⟨λj l=> ?_,λj y i=> ?_⟩
    · obtain⟨n,a,b⟩:=h.1 j l;refine⟨n,a, ?_⟩;dsimp only;by_cases d:j=s
      · subst d;rw[WW Qv,WE];rw[WW q]at b;dsimp only;omega
      · have :ZF (QN V s (some (x.1+1,x.2))) j=ZF V j:=by unfold ZF;rw[Qz d]
        rw[this,JE d];omega
    · by_cases d:j=s
      · subst d;rw[Qv]at i;cases i;obtain⟨a,b,c⟩:=h.2 j x q;exact⟨by dsimp only;omega,b,c⟩
      · rw[Qz d]at i;exact h.2 j y i
theorem KJ (h:V s=none):ZH V s=V:=by unfold ZH;rw[h]
theorem HJ {x:Int×Bs} (h:V s=some x):ZH V s= if 1<x.1 then QN V s (some (x.1 -1,x.2))else QN V s none:=by unfold ZH;rw[h]
theorem RefI.unr (h:RefI f V ex) (e:XP V s):RefI f (ZH V s) (λj=>ex j -dl s j):=by
  cases q:V s with
  | none=>
    rcases e with e | e
    · rw[KJ q];exact h.ext λj g=>by rw[JE (by omega)];omega
    · exact absurd q e
  | some x=>
    have i:=h.2 s x q;refine⟨λj g=> ?_,λj y c=> ?_⟩
    · obtain⟨n,a,b⟩:=h.1 j g;refine⟨n,a, ?_⟩;dsimp only;rw[HJ q];by_cases d:j=s
      · subst d;rw[WE];rw[WW q]at b;split
        · rw[WW Qv];dsimp only;omega
        · rw[Vl Qv];omega
      · rw[JE d];have : ∀o,ZF (QN V s o) j=ZF V j:= λo=>by unfold ZF;rw[Qz d]
        split<;>(rw[this];omega)
    · rw[HJ q]at c;by_cases d:j=s
      · subst d;split at c
        · rw[Qv]at c;cases c;exact⟨by dsimp only;omega,i.2⟩
        · rw[Qv]at c;cases c
      · split at c<;>(rw[Qz d]at c;exact h.2 j y c)
theorem RefI.put (h:RefI f V ex) (p:κ) (v:Int):RefI (VN f p v) V (λj=>ex j+dl (f p) j -dl v j):=by
  refine⟨λj i=> ?_,h.2⟩;obtain⟨n,a,b⟩:=h.1 j i;by_cases d:f p=j
  · by_cases g:v=j
    · refine⟨n,UT (λq=> ?_) a, ?_⟩
      · by_cases e:q=p
        · subst e;rw[XO,d,g]
        · rw[Zk e]
      · dsimp only;rw[d,g,WE];omega
    · obtain⟨m,rfl,c⟩:=P1 d g a;refine⟨m,c, ?_⟩;dsimp only;rw[d,WE,JE (λq=>g q.symm)];omega
  · by_cases g:v=j
    · subst g;refine⟨n+1,qe3 d a, ?_⟩;dsimp only;rw[WE,JE (λq=>d q.symm)];omega
    · refine⟨n,UT (λq=> ?_) a, ?_⟩
      · by_cases e:q=p
        · subst e;rw[XO];exact⟨λq=>absurd q g,λq=>absurd q d⟩
        · rw[Zk e]
      · dsimp only;rw[JE (λq=>d q.symm),JE (λq=>g q.symm)];omega
theorem RefI.fresh (h:RefI f V ex) {pg:Bs} (d:V s=none) (g:1<=s) (i:pg.length=64):RefI f (QN V s (some (1,pg))) (λj=>ex j+dl s j):=by
  refine⟨λj k=> ?_,λj y c=> ?_⟩
  · obtain⟨n,a,b⟩:=h.1 j k;refine⟨n,a, ?_⟩;dsimp only;by_cases e:j=s
    · subst e;rw[WW Qv,WE];rw[Vl d]at b;dsimp only;omega
    · have :ZF (QN V s (some (1,pg))) j=ZF V j:=by unfold ZF;rw[Qz e]
      rw[this,JE e];omega
  · by_cases e:j=s
    · subst e;rw[Qv]at c;cases c;exact⟨by dsimp only;omega,g,i⟩
    · rw[Qz e]at c;exact h.2 j y c
theorem RefI.setc (h:RefI f V ex) {pg pg':Bs} (d:V s=some (r,pg)) (g:pg'.length=64):RefI f (QN V s (some (r,pg'))) ex:=by
  refine⟨λj i=> ?_,λj y c=> ?_⟩
  · obtain⟨n,a,b⟩:=h.1 j i;refine⟨n,a, ?_⟩;by_cases e:j=s
    · subst e;rw[WW Qv];rw[WW d]at b;exact b
    · have :ZF (QN V s (some (r,pg'))) j=ZF V j:=by unfold ZF;rw[Qz e]
      rw[this];exact b
  · by_cases e:j=s
    · subst e;rw[Qv]at c;cases c;have :=h.2 j _ d;exact⟨this.1,this.2.1,g⟩
    · rw[Qz e]at c;exact h.2 j y c
theorem RefI.none_held (h:RefI f V ex) (b:V s=none) (c:s≠0) (d:0<=ex s):f p≠s:= λq=>by
  rcases h.alive q d with a | a
  · exact c a
  · exact a b
theorem RefI.excl (h:RefI f V ex) (e:ZF V s=1) (g:ex s=0) (c:s≠0) (d:f p=s): ∀q,f q=s->q=p:=by
  obtain⟨n,a,b⟩:=h.1 s c;have :n=1:=by omega
  subst this;exact cnt_one a d
end
section
variable {V:VS} {s j:Int}
theorem Yv {x:Int×Bs} (h:V j=some x):Zm V j=x.2:=by unfold Zm;rw[h]
theorem JP (h:V 0=none):Zm V 0=zer:=by unfold Zm;rw[h];rfl
theorem qck (h:V' j=V j):Zm V' j=Zm V j:=by unfold Zm;rw[h]
theorem KR (h:j≠s):Zm (QN V s o) j=Zm V j:=qck (Qz h)
theorem pg_refV:Zm (HX V s) j=Zm V j:=by
  unfold HX;cases q:V s with
  | none=>rfl
  | some x=>
    dsimp only;by_cases e:j=s
    · subst e;rw[Yv Qv,Yv q]
    · exact KR e
theorem YF:Zm (refW V s) j=Zm V j:=by unfold refW;split;rfl;exact pg_refV
theorem MR (a:V 0=none) (h:XP (ZH V s) j):Zm (ZH V s) j=Zm V j:=by
  cases q:V s with
  | none=> rw[KJ q]
  | some x=>
    by_cases e:j=s
    · subst e;rw[HJ q]at h⊢;split
      · rw[Yv Qv,Yv q]
      · rename_i b;rw[if_neg b]at h;rcases h with h | h
        · subst h;rw[a]at q;cases q
        · exact absurd Qv h
    · rw[HJ q];split<;> exact KR e
theorem CH (h:ZH V s j≠none):V j≠none:=by
  cases q:V s with
  | none=>rwa [KJ q]at h
  | some x=>
    by_cases e:j=s
    · subst e;rw[q];simp
    · rw[HJ q]at h;split at h<;>rwa [Qz e]at h
def AliveLe (V:VS) (n:Nat):Prop:= ∃l:List Int,l.length<=n/\ ∀j,V j≠none->j∈l
theorem AliveLe.sub (h:AliveLe V n) (c: ∀j,V' j≠none->V j≠none):AliveLe V' n:=by
  obtain⟨l,a,b⟩:=h;exact⟨l,a,λj d=>b j (c j d)⟩
theorem AliveLe.mono (h:AliveLe V n) (c:n<=m):AliveLe V m:=by
  obtain⟨l,a,b⟩:=h;exact⟨l,by omega,b⟩
theorem AliveLe.refW (h:AliveLe V n):AliveLe (refW V s) n:=h.sub λj=>Y3.1
theorem AliveLe.unr (h:AliveLe V n):AliveLe (ZH V s) n:=h.sub λj=>CH
theorem AliveLe.put (h:AliveLe V n):AliveLe (QN V s o) (n+1):=by
  obtain⟨l,a,b⟩:=h;refine⟨s::l,by simp;omega,λj c=> ?_⟩;by_cases e:j=s
  · simp [e]
  · rw[Qz e]at c;exact List.mem_cons_of_mem _ (b j c)
theorem Wm {α:Type}: ∀{a b:List α},a.Nodup->(∀x∈a,x∈b)->a.length<=b.length
  | [],_,_,_=>by simp
  | x::a,b,h,c=>by
    rw[List.nodup_cons]at h;obtain⟨u,v,rfl⟩:=List.append_of_mem (c x (by simp))
    have :=Wm (a:=a) (b:=u++v) h.2 λy d=>by
      have e:=c y (List.mem_cons_of_mem _ d);have f:y≠x:= λq=>h.1 (q▸d)
      simpa [f]using e
    simp at this⊢;omega
theorem Uz (h:AliveLe V n) (e:AliveGe V m):m<=n:=by
  obtain⟨l,a,b⟩:=h;obtain⟨l',rfl,c,d⟩:=e;have :=Wm c λj f=>b j (d j f);omega
end
abbrev Pl:=KD⊕(Int×KD×Bool)
variable {p:Pl}
def Xx (L:LvD):Pl->Int
  | .inl k=>L.pres k
  | .inr (i,k,o)=> match L.tr i with | none=>0 | some t=> match t.lv k with | none=>0 | some x=> if o=true then x.own else x.base
theorem Nr (a:L'.pres=ZS L.pres k s) (b:L'.tr=L.tr): ∀p,Xx L' p=VN (Xx L) (.inl k) s p:= λp=>by
  cases p with
  | inl j=>
    by_cases e:j=k
    · subst e;rw[XO];simp [Xx,a,ZS]
    · rw[Zk (by simpa using e)];simp [Xx,a,ZS,e]
  | inr q=> rw[Zk (by simp)];simp [Xx,b]
theorem HM (d:L'.pres=L.pres) (a:L'.tr=QN L.tr i (some t')) (f:L.tr i=some t) (c:t'.lv=QN t.lv k (some x)):
    ∀p,Xx L' p=VN (VN (Xx L) (.inr (i,k,false)) x.base) (.inr (i,k,true)) x.own p:= λp=>by
  cases p with
  | inl j=> rw[Zk (by simp),Zk (by simp)];simp [Xx,d]
  | inr q=>
    obtain⟨g,h,o⟩:=q;by_cases e:g=i
    · subst e;by_cases b:h=k
      · subst b;cases o with
        | true=> rw[XO];simp [Xx,a,Qv,c]
        | false=> rw[Zk (by simp),XO];simp [Xx,a,Qv,c]
      · rw[Zk (by simp [b]),Zk (by simp [b])];simp only[Xx,a,Qv,f,c];rw[Qz b]
    · rw[Zk (by simp [e]),Zk (by simp [e])];simp only[Xx,a];rw[Qz e]
theorem XB {o:Bool} (a:L.tr i=some t) (b:t.lv k=some x):Xx L (.inr (i,k,o))= if o=true then x.own else x.base:=by simp only[Xx,a,b]
theorem RV {o:Bool} (a:L.tr i=some t) (b:t.lv k=none):Xx L (.inr (i,k,o))=0:=by simp only[Xx,a,b]
structure LfA where
  base:Bs
  own:Bs
  rd:BitVec 64
  wr:BitVec 64
structure TrA where
  parent:Int
  lv:KD→Option LfA
  dr:Bs→Bool
structure LvA where
  pres:KD→Bs
  tr:Int→Option TrA
variable {A:LvA}
def WF (V:VS) (x:LfD):LfA:=⟨Zm V x.base,Zm V x.own,x.rd,x.wr⟩
def ZR (V:VS) (t:TrD):TrA:=⟨t.parent,λk=>(t.lv k).map (WF V),t.dr⟩
def QC (L:LvD) (V:VS):LvA:=⟨λk=>Zm V (L.pres k),λi=>(L.tr i).map (ZR V)⟩
def YE (A:LvA):Nat->Int->KD->Bs
  | 0,_,_=>zer
  | n+1,id,k=> if id=0 then A.pres k else match A.tr id with | none=>zer | some t=> match t.lv k with | some x=>x.own | none=> if t.dr k.1=true then zer else YE A n t.parent k
def WY (A:LvA) (id:Int) (k:KD):Bs:=YE A (ZO+1) id k
noncomputable def Wj (A:LvA) (id:Int) (k:KD) (x:LfA):LvA:= match A.tr id with | none=>A | some t=>{A with tr:=QN A.tr id (some {t with lv:=QN t.lv k (some x)})}
def Z6 (A:LvA) (id:Int) (k:KD):LfA:= match A.tr id with | none=>⟨zer,zer,0#64,0#64⟩ | some t=> match t.lv k with | some x=>x | none=>⟨WY A id k,WY A id k,0#64,if t.dr k.1=true then BitVec.allOnes 64 else 0#64⟩
theorem Z1 (h:L.tr i=some t):(QC L V).tr i=some (ZR V t):=by simp [QC,h]
theorem ZW (h:t.lv k=some x):(ZR V t).lv k=some (WF V x):=by simp [ZR,h]
theorem K9 (h:t.lv k=none):(ZR V t).lv k=none:=by simp [ZR,h]
theorem Sw {L:LvD} {V:VS} (a:V 0=none): ∀n id k,Zm V (Yt L n id k)=YE (QC L V) n id k
  | 0,_,_=>JP a
  | n+1,id,k=>by
    unfold Yt YE;split
    · rfl
    · cases b:L.tr id with
      | none=> rw[show(QC L V).tr id=none by simp [QC,b]];exact JP a
      | some t=>
        rw[Z1 b];dsimp only;cases c:t.lv k with
        | some x=> rw[ZW c];rfl
        | none=>
          rw[K9 c];dsimp only;show Zm V (if t.dr k.1=true then 0 else _)= if t.dr k.1=true then zer else _;split
          · exact JP a
          · exact Sw a n t.parent k
theorem CS (L:LvD): ∀n id k,Yt L n id k=0\/ ∃p,Xx L p=Yt L n id k
  | 0,_,_=> .inl rfl
  | n+1,id,k=>by
    unfold Yt;split
    · exact .inr ⟨.inl k,U⟩
    · cases a:L.tr id with
      | none=> exact .inl rfl
      | some t=>
        dsimp only;cases b:t.lv k with
        | some x=> exact .inr ⟨.inr (id,k,true),by rw[XB a b];rfl⟩
        | none=>
          dsimp only;split
          · exact .inl U
          · exact CS L n t.parent k
theorem PZ (h: ∀k x,t.lv k=some x->Zm V' x.base=Zm V x.base/\Zm V' x.own=Zm V x.own):ZR V' t=ZR V t:=by
  unfold ZR;congr 1;funext k;cases q:t.lv k with
  | none=>rfl
  | some x=> obtain⟨a,b⟩:=h k x q;simp [WF,a,b]
theorem V9 (h: ∀p,Zm V' (Xx L p)=Zm V (Xx L p)):QC L V'=QC L V:=by
  unfold QC;congr 1
  · funext k;exact h (.inl k)
  · funext i;cases q:L.tr i with
    | none=>rfl
    | some t=>
      refine congrArg some (PZ λk x c=> ?_);have a:=h (.inr (i,k,false));have b:=h (.inr (i,k,true));rw[XB q c]at a b;exact⟨a,b⟩
theorem Wi {x:LfA} {t:TrA} (h:A.tr id=some t):Wj A id k x={A with tr:=QN A.tr id (some {t with lv:=QN t.lv k (some x)})}:=by unfold Wj;rw[h]
theorem Nb {x:LfA} {t:TrA} (h:A.tr id=some t) (a:t.lv k=some x):Wj A id k x=A:=by
  rw[Wi h,Wr a,Wr h]
theorem CJ {x:LfA} {t:TrA} (h:A.tr id=some t) (a:t.lv k=some x):Z6 A id k=x:=by unfold Z6;rw[h];dsimp only;rw[a]
theorem CK {t:TrA} (h:A.tr id=some t) (a:t.lv k=none):Z6 A id k=⟨WY A id k,WY A id k,0#64,if t.dr k.1=true then BitVec.allOnes 64 else 0#64⟩:=by unfold Z6;rw[h];dsimp only;rw[a]
theorem Hh (g:L'.pres=L.pres) (l:L'.tr=QN L.tr i (some t')) (d:L.tr i=some t) (m:t'={t with lv:=QN t.lv k (some x)})
    (h: ∀p,p≠ .inr (i,k,false)->p≠ .inr (i,k,true)->Zm V' (Xx L p)=Zm V (Xx L p)):QC L' V'=Wj (QC L V) i k (WF V' x):=by
  rw[Wi (Z1 d)];unfold QC;rw[g,l];congr 1
  · funext j;exact h (.inl j) (by simp) (by simp)
  · funext j;by_cases e:j=i
    · subst e;rw[Qv,Qv];subst m;simp only[Option.map_some];congr 1;unfold ZR;congr 1;funext q;by_cases c:q=k
      · subst c;rw[Qv];show Option.map (WF V') (QN t.lv q (some x) q)=_;rw[Qv];rfl
      · rw[Qz c];show Option.map (WF V') (QN t.lv k (some x) q)=Option.map (WF V) (t.lv q);rw[Qz c];cases n:t.lv q with
        | none=>rfl
        | some y=>
          have a:=h (.inr (j,q,false)) (by simp [c]) (by simp);have b:=h (.inr (j,q,true)) (by simp) (by simp [c]);rw[XB d n]at a b;simp at a b;simp [WF,a,b]
    · rw[Qz e,Qz e];show Option.map (ZR V') (L.tr j)=Option.map (ZR V) (L.tr j);cases q:L.tr j with
      | none=>rfl
      | some u=>
        refine congrArg some (PZ λf y o=> ?_);have a:=h (.inr (j,f,false)) (by simp [e]) (by simp);have b:=h (.inr (j,f,true)) (by simp) (by simp [e]);rw[XB q o]at a b;exact⟨a,b⟩
theorem Dd (d:L'.pres=ZS L.pres k s) (f:L'.tr=L.tr)
    (h: ∀p,p≠ .inl k->Zm V' (Xx L p)=Zm V (Xx L p)):QC L' V'={QC L V with pres:=VN (QC L V).pres k (Zm V' s)}:=by
  unfold QC;rw[d,f];congr 1
  · funext j;by_cases e:j=k
    · subst e;rw[XO];simp [ZS]
    · rw[Zk e];have :=h (.inl j) (by simpa using e);simp only[ZS,if_neg e];exact this
  · funext j;show Option.map (ZR V') (L.tr j)=Option.map (ZR V) (L.tr j);cases q:L.tr j with
    | none=>rfl
    | some u=>
      refine congrArg some (PZ λa y g=> ?_);have b:=h (.inr (j,a,false)) (by simp);have c:=h (.inr (j,a,true)) (by simp);rw[XB q g]at b c;exact⟨b,c⟩
def RankI (T:Int->Option TrD) (m:Nat):Prop:=T 0=none/\ ∃r:Int->Nat,(∀i,r i<=m)/\ ∀i t,T i=some t->t.parent=0\/(T t.parent≠none/\r t.parent<r i)
theorem Na {T:Int->Option TrD} {r:Int->Nat} (h: ∀i t,T i=some t->t.parent=0\/(T t.parent≠none/\r t.parent<r i)): ∀n i,r i<n->HG T n i
  | 0,i,a=>by omega
  | n+1,i,a=>by
    refine .inr ?_;cases b:T i with
    | none=>trivial
    | some t=>
      show HG T n t.parent;rcases h i t b with e | ⟨_,e⟩
      · rw[e];cases n with
        | zero=>rfl
        | succ n=> exact .inl rfl
      · exact Na h n _ (by omega)
theorem RankI.ends {T:Int->Option TrD} (h:RankI T m) (c:m<ZO): ∀i,HG T ZO i:=by
  obtain⟨_,r,a,b⟩:=h;exact λi=>Na b _ _ (by have :=a i;omega)
theorem RankI.same {T T':Int->Option TrD} (h:RankI T m) (f: ∀i,(T' i).map TrD.parent=(T i).map TrD.parent):RankI T' m:=by
  obtain⟨j,r,a,b⟩:=h
  have g: ∀i,T' i=none↔T i=none:= λi=>by
    have :=f i;cases q:T i<;> cases q':T' i<;>simp_all
  refine⟨(g 0).2 j,r,a,λi t k=> ?_⟩;have c:=f i;rw[k]at c;cases q:T i with
  | none=> rw[q]at c;simp at c
  | some u=>
    rw[q]at c;have e:t.parent=u.parent:=by simpa using c
    rcases b i u q with d | ⟨d,l⟩
    · exact .inl (e.trans d)
    · exact .inr ⟨λq=>d ((g _).1 (e▸q)),e▸l⟩
theorem RankI.none0 {T:Int->Option TrD} (h:RankI T m) (a:T i=some t):i≠0:= λe=>by subst e;rw[h.1]at a;cases a
def AgA (x:LfA):Prop:= ∀j,j<64->x.wr.getLsbD j=false->x.base[j]? =x.own[j]?
def AgL (A:LvA):Prop:= ∀i t k x,A.tr i=some t->t.lv k=some x->AgA x
theorem AgL.put (h:AgL A) {x:LfA} (d:AgA x):AgL (Wj A i k x):=by
  unfold Wj;cases f:A.tr i with
  | none=> exact h
  | some t=>
    intro j u q y b a;dsimp only at b;by_cases e:j=i
    · subst e;rw[Qv]at b;cases b;dsimp only at a;by_cases c:q=k
      · subst c;rw[Qv]at a;cases a;exact d
      · rw[Qz c]at a;exact h j t q y f a
    · rw[Qz e]at b;exact h j u q y b a
theorem AgL.pres (h:AgL A) {p:KD->Bs}:AgL {A with pres:=p}:=h
theorem AgL.tou (h:AgL A) :AgA (Z6 A i k):=by
  unfold Z6;cases a:A.tr i with
  | none=> exact λ_ _ _=>rfl
  | some t=>
    dsimp only;cases b:t.lv k with
    | none=> exact λ_ _ _=>rfl
    | some x=> exact h i t k x a b
def NN (ex:Int->Int):Prop:= ∀j,j≠0->0<=ex j
structure LvX (ex:Int→Int) (m:Nat) (L:LvD) (V:VS):Prop where
  ref:RefI (Xx L) V ex
  rank:RankI L.tr m
  agree:AgL (QC L V)
abbrev LvI (m:Nat) (L:LvD) (V:VS):Prop:=LvX (λ_=>0) m L V
section
variable {ex:Int→Int} {L L1 L':LvD} {V V1 V':VS} {id:Int} {t t1:TrD} {k:KD} {x1:LfD} {m:Nat}
theorem LvX.zero (h:LvX ex m L V):V 0=none:=h.ref.zero
theorem LvX.sees (h:LvX ex m L V) (id:Int) (k:KD):Zm V (XA L id k)=WY (QC L V) id k:=Sw h.zero _ _ _
theorem LvX.aliveX (h:LvX ex m L V) (a:NN ex) (p:Pl):XP V (Xx L p):=h.ref.aliveN U (a _)
theorem LvX.aliveSX (h:LvX ex m L V) (a:NN ex) (id:Int) (k:KD):XP V (XA L id k):=by
  rcases CS L (ZO+1) id k with e | ⟨p,e⟩
  · exact .inl e
  · show XP V (Yt L (ZO+1) id k);rw[<-e];exact h.aliveX a p
theorem LvX.len (h:LvX ex m L V) (a:XP V s):(Zm V s).length=64:=by
  cases q:V s with
  | none=>
    rcases a with rfl | a
    · rw[JP h.zero];simp [zer]
    · exact absurd q a
  | some x=> rw[Yv q];exact(h.ref.2 s x q).2.2
theorem LvX.alive (h:LvI m L V) (p:Pl):XP V (Xx L p):=h.aliveX (λ_ _=>Int.le_refl _) p
theorem LvX.aliveS (h:LvI m L V) (id:Int) (k:KD):XP V (XA L id k):=h.aliveSX (λ_ _=>Int.le_refl _) id k
theorem TouR.invX (o:TouR L V id t k L1 V1 t1 x1) (d:L.tr id=some t) (h:LvX ex m L V) (r:NN ex):
    LvX ex m L1 V1/\WF V1 x1=Z6 (QC L V) id k/\QC L1 V1=Wj (QC L V) id k (Z6 (QC L V) id k)/\(∀c,AliveLe V c->AliveLe V1 c)/\L1.pres=L.pres:=by
  have e:=h.aliveSX r id k;have i:=h.sees id k;rcases o with⟨b,rfl,rfl,rfl⟩ | ⟨b,a,rfl,rfl,rfl,rfl⟩
  · refine⟨h, ?_, ?_,λ_ q=>q,rfl⟩
    · rw[CJ (Z1 d) (ZW b)]
    · rw[CJ (Z1 d) (ZW b),Nb (Z1 d) (ZW b)]
  · generalize z:XA L id k=s at *;have f: ∀j,Zm (refW (refW V s) s) j=Zm V j:= λj=>by rw[YF,YF]
    have l:WF (refW (refW V s) s) (H6 t k s a)=Z6 (QC L V) id k:=by
      rw[CK (Z1 d) (K9 b)];unfold WF H6;simp only[f,i];rfl
    have n:QC {L with tr:=QN L.tr id (some {t with lv:=QN t.lv k (some (H6 t k s a))}),sh:=YW (YW L.sh s) s} (refW (refW V s) s)=Wj (QC L V) id k (Z6 (QC L V) id k):=by
      rw[Hh (L:=L) (V:=V) (k:=k) (x:=H6 t k s a) (L':={L with tr:=QN L.tr id (some {t with lv:=QN t.lv k (some (H6 t k s a))}),sh:=YW (YW L.sh s) s}) U U d U λp _ _=>f _,l]
    refine⟨⟨?_,h.rank.same (Jr d U), ?_⟩,l,n,λc q=>q.refW.refW,rfl⟩
    · have u:=(h.ref.ref e).ref (s:=s) (by
        rcases e with q | q
        · exact .inl q
        · exact .inr (Y3.2 q))
      have v:=(u.put (.inr (id,k,false)) s).put (.inr (id,k,true)) s;have w:=v.fn (g:=Xx {L with tr:=QN L.tr id (some {t with lv:=QN t.lv k (some (H6 t k s a))}),sh:=YW (YW L.sh s) s}) (HM (L':={L with tr:=QN L.tr id (some {t with lv:=QN t.lv k (some (H6 t k s a))}),sh:=YW (YW L.sh s) s}) (t':={t with lv:=QN t.lv k (some (H6 t k s a))}) (x:=H6 t k s a) U U d U)
      refine w.ext λj y=> ?_;rw[Zk (by simp),RV d b,RV d b,JE (s:=0) y];omega
    · rw[n];exact h.agree.put h.agree.tou
theorem TouR.inv (a:TouR L V id t k L1 V1 t1 x1) (b:L.tr id=some t) (h:LvI m L V):
    LvI m L1 V1/\WF V1 x1=Z6 (QC L V) id k/\QC L1 V1=Wj (QC L V) id k (Z6 (QC L V) id k)/\(∀c,AliveLe V c->AliveLe V1 c)/\L1.pres=L.pres:=a.invX b h λ_ _=>Int.le_refl _
end
section
variable {L L1 L':LvD} {V V1 V':VS} {id:Int} {t t1:TrD} {k:KD} {x x1:LfD} {m Fr:Nat} {s e:Int}
def OwnI (L:LvD) (V:VS) (p:Pl) (m Fr:Nat) (L':LvD) (V':VS) (s e:Int):Prop:=
  LvI m L' V'/\QC L' V'=QC L V/\(∀c,AliveLe V c->AliveLe V' (c+1))/\(∀c,AliveLe V c->AliveLe V' c\/AliveLe V' (c+1))/\
  ((e=6/\s=0/\AliveGe V Fr)\/(e=0/\s≠0/\ZF V' s=1/\Xx L' p=s))
theorem Nv {f f':Pl->Int} (h:RefI f V (λ_=>0)) (n:1<=s) (c:V s=none) (d:XP V (f p)) (g: ∀q,f' q=VN f p s q):
    RefI f' (ZH (QN V s (some (1,Zm V (f p)))) (f p)) (λ_=>0)/\(∀q,Zm (ZH (QN V s (some (1,Zm V (f p)))) (f p)) (f' q)=Zm V (f q))/\ZH (QN V s (some (1,Zm V (f p)))) (f p) s=some (1,Zm V (f p)):=by
  have r:(Zm V (f p)).length=64:=by
    cases q:V (f p)with
    | none=>
      rcases d with e | e
      · rw[e,JP h.zero];simp [zer]
      · exact absurd q e
    | some x=> rw[Yv q];exact(h.2 _ x q).2.2
  generalize b:f p=o at *
  have a:o≠s:= λe=>by
    subst e;rcases d with e | e
    · omega
    · exact absurd c e
  have i:XP (QN V s (some (1,Zm V o))) o:=by
    rcases d with e | e
    · exact .inl e
    · refine .inr ?_;rw[Qz a];exact e
  have k:=(((h.fresh c n r).put p s).fn g).unr i;rw[b]at k;have l:RefI f' (ZH (QN V s (some (1,Zm V o))) o) (λ_=>0):=k.ext λj w=>by omega
  have m:ZH (QN V s (some (1,Zm V o))) o s=some (1,Zm V o):=by
    cases q:V o with
    | none=> rw[KJ (by rw[Qz a];exact q),Qv]
    | some x=>
      rw[HJ (x:=x) (by rw[Qz a];exact q)];split<;> rw[Qz (λe=>a e.symm),Qv]
  refine⟨l,λq=> ?_,m⟩;by_cases e:q=p
  · subst e;rw[g,XO,Yv m,b]
  · have t:f' q=f q:=by rw[g,Zk e]
    have u:f q≠s:=h.none_held c (by omega) (by omega);have v:QN V s (some (1,Zm V o)) 0=none:=by rw[Qz (by omega)];exact h.zero
    rw[MR v (l.alive U (by omega)),t,KR u]
theorem OwnP.inv (h:OwnP L V k Fr L' V' s e) (d:LvI m L V):OwnI L V (.inl k) m Fr L' V' s e/\L'.tr=L.tr:=by
  rcases h with⟨rfl,r,f,t,rfl,rfl⟩ | ⟨rfl,rfl,f,rfl,rfl⟩ | ⟨rfl,r,f,t,rfl,rfl⟩
  · exact⟨⟨d,rfl,λc q=>q.mono (by omega),λc q=> .inl q,.inr ⟨rfl,f,t,r.symm⟩⟩,rfl⟩
  · exact⟨⟨d,rfl,λc q=>q.mono (by omega),λc q=> .inl q,.inl ⟨rfl,rfl,f⟩⟩,rfl⟩
  · generalize g:({L with pres:=ZS L.pres k s,sh:=YV (QN V s (some (1,Zm V (L.pres k)))) L.sh (L.pres k)}:LvD)=L'
    have l:L'.pres=ZS L.pres k s:=by subst g;rfl
    have n:L'.tr=L.tr:=by subst g;rfl
    have o:=Nr l n;obtain⟨a,b,c⟩:=Nv (p:= .inl k) d.ref r f (d.alive _) o;have u:Xx L (.inl k)=L.pres k:=rfl;rw[u]at a b c
    have v:QC L' (ZH (QN V s (some (1,Zm V (L.pres k)))) (L.pres k))=QC L V:=by
      rw[Dd (V:=V) l n λp l=> ?_]
      · have i:=b (.inl k);rw[o,XO,u]at i
        have w:VN (QC L V).pres k (Zm (ZH (QN V s (some (1,Zm V (L.pres k)))) (L.pres k)) s)=(QC L V).pres:=by
          funext j;by_cases e:j=k
          · subst e;rw[XO];exact i
          · rw[Zk e]
        rw[w]
      · have i:=b p;rw[o,Zk l]at i;exact i
    refine⟨⟨⟨a,by rw[n];exact d.rank,by rw[v];exact d.agree⟩,v,λc q=>q.put.unr,λc q=> .inr q.put.unr,.inr ⟨rfl,by omega,WW c, ?_⟩⟩,n⟩;rw[o,XO]
theorem OwnT.inv (h:OwnT L V id t k x Fr L' V' s e) (d:L.tr id=some t) (n:t.lv k=some x) (f:LvI m L V):OwnI L V (.inr (id,k,true)) m Fr L' V' s e/\L'.pres=L.pres:=by
  have r:Xx L (.inr (id,k,true))=x.own:=by rw[XB d n];rfl
  rcases h with⟨rfl,u,g,A,rfl,rfl⟩ | ⟨rfl,rfl,g,rfl,rfl⟩ | ⟨rfl,u,g,A,rfl,rfl⟩
  · exact⟨⟨f,rfl,λc q=>q.mono (by omega),λc q=> .inl q,.inr ⟨rfl,g,A,by rw[r,u]⟩⟩,rfl⟩
  · exact⟨⟨f,rfl,λc q=>q.mono (by omega),λc q=> .inl q,.inl ⟨rfl,rfl,g⟩⟩,rfl⟩
  · generalize i:ZA {L with sh:=YV (QN V s (some (1,Zm V x.own))) L.sh x.own} id t k {x with own:=s}=L'
    have v:L'.pres=L.pres:=by subst i;rfl
    have w:L'.tr=QN L.tr id (some {t with lv:=QN t.lv k (some {x with own:=s})}):=by subst i;rfl
    have j: ∀q,Xx L' q=VN (Xx L) (.inr (id,k,true)) s q:= λq=>by
      rw[HM (x:={x with own:=s}) v w d U]
      by_cases e:q= .inr (id,k,true)
      · subst e;rw[XO,XO]
      · rw[Zk e,Zk e];by_cases o:q= .inr (id,k,false)
        · subst o;rw[XO,XB d n];rfl
        · rw[Zk o]
    obtain⟨a,b,c⟩:=Nv (p:= .inr (id,k,true)) f.ref u g (f.alive _) j;rw[r]at a b c
    have B:QC L' (ZH (QN V s (some (1,Zm V x.own))) x.own)=QC L V:=by
      rw[Hh (x:={x with own:=s}) v w d U λp C y=> ?_]
      · have o:WF (ZH (QN V s (some (1,Zm V x.own))) x.own) {x with own:=s}=WF V x:=by
          have l:=b (.inr (id,k,true));have z:=b (.inr (id,k,false));rw[j,XO,r]at l;rw[j,Zk (by simp),XB d n]at z;simp at z;simp [WF,l,z]
        rw[o,Nb (Z1 d) (ZW n)]
      · have l:=b p;rw[j,Zk y]at l;exact l
    refine⟨⟨⟨a, ?_,by rw[B];exact f.agree⟩,B,λc q=>q.put.unr,λc q=> .inr q.put.unr,.inr ⟨rfl,by omega,WW c, ?_⟩⟩,v⟩
    · rw[w];exact f.rank.same (Jr d U)
    · rw[j,XO]
theorem Su {f:Pl->Int} {a:Int} {pg:Bs} {b:UInt8} (h:RefI f V (λ_=>0)) (c:V s=some (r,pg)) (g:ZF V s=1) (d:f p=s):
    RefI f (QN V s (some (r,pg.set a.toNat b))) (λ_=>0)/\(∀q,q≠p->Zm (QN V s (some (r,pg.set a.toNat b))) (f q)=Zm V (f q))/\Zm (QN V s (some (r,pg.set a.toNat b))) (f p)=(Zm V (f p)).set a.toNat b:=by
  have i:=h.2 s _ c;refine⟨h.setc c (by rw[List.length_set];exact i.2.2),λq j=> ?_, ?_⟩
  · refine KR λe=>j (h.excl g U (by omega) d q e)
  · rw[d,Yv Qv,Yv c]
end
theorem HS {f:κ->α} {k:κ} {v:α} (h:f k=v):VN f k v=f:=by
  funext j;by_cases e:j=k
  · subst e;rw[XO,h]
  · rw[Zk e]
def SzLe (L:LvD) (c:Nat):Prop:= ∃l:List (Int×KD),l.length<=c/\(∀k,L.pres k≠0->(0,k)∈l)/\ ∀i t k x,L.tr i=some t->t.lv k=some x->(i,k)∈l
theorem SzLe.mono (h:SzLe L c) (hd:c<=d):SzLe L d:=by
  obtain⟨l,a,b⟩:=h;exact⟨l,by omega,b⟩
theorem SzLe.add (h:SzLe L c) (i:Int) (k:KD) (g: ∀q,L'.pres q≠0->L.pres q≠0\/(0,q)=(i,k)) (m: ∀j u q x,L'.tr j=some u->u.lv q=some x->(∃u' x',L.tr j=some u'/\u'.lv q=some x')\/(j,q)=(i,k)):SzLe L' (c+1):=by
  obtain⟨l,a,b,d⟩:=h;refine⟨(i,k)::l,by simp;omega,λq f=> ?_,λj u q x n f=> ?_⟩
  · rcases g q f with e | e
    · exact List.mem_cons_of_mem _ (b q e)
    · rw[e];exact List.mem_cons_self
  · rcases m j u q x n f with⟨u',x',o,p⟩ | e
    · exact List.mem_cons_of_mem _ (d j u' q x' o p)
    · rw[e];exact List.mem_cons_self
theorem SzLe.put (h:SzLe L c) (f:L.tr i=some t) (g:L'.pres=L.pres) (l:L'.tr=QN L.tr i (some {t with lv:=QN t.lv k (some x)})):SzLe L' (c+1):=by
  refine h.add i k (λq a=> .inl (by rwa [g]at a)) λj u q y b a=> ?_;rw[l]at b;by_cases e:j=i
  · subst e;rw[Qv]at b;cases b;dsimp only at a;by_cases d:q=k
    · right;rw[d]
    · rw[Qz d]at a;exact .inl ⟨t,y,f,a⟩
  · rw[Qz e]at b;exact .inl ⟨u,y,b,a⟩
theorem SzLe.putOld {y:LfD} (h:SzLe L c) (m:L.tr i=some t) (o:t.lv k=some y) (p:L'.pres=L.pres) (r:L'.tr=QN L.tr i (some {t with lv:=QN t.lv k (some x)})):SzLe L' c:=by
  obtain⟨l,a,b,d⟩:=h;refine⟨l,a,λq f=>b q (by rwa [p]at f),λj u q z g f=> ?_⟩;rw[r]at g;by_cases e:j=i
  · subst e;rw[Qv]at g;cases g;dsimp only at f;by_cases n:q=k
    · subst n;exact d j t q y m o
    · rw[Qz n]at f;exact d j t q z m f
  · rw[Qz e]at g;exact d j u q z g f
theorem TouR.sz {L L1:LvD} {V V1:VS} {id:Int} {t t1:TrD} {k:KD} {x1:LfD} {c:Nat} (b:TouR L V id t k L1 V1 t1 x1) (d:L.tr id=some t) (h:SzLe L c):SzLe L1 (c+1):=by
  rcases b with⟨_,rfl,_,_⟩ | ⟨_,a,_,rfl,rfl,_⟩
  · exact h.mono (by omega)
  · exact h.put (x:=x1) d U U
structure StepI (m:Nat) (L:LvD) (V:VS) (m' d e:Nat) (L':LvD) (V':VS):Prop where
  inv:LvI m' L' V'
  sp:L'.sp=L.sp
  al: ∀c,AliveLe V c→AliveLe V' (c+d)
  sz: ∀c,SzLe L c→SzLe L' (c+e)
theorem StepI.refl {e:Nat} (h:LvI m L V):StepI m L V m d e L V:=⟨h,rfl,λ_ q=>q.mono (by omega),λ_ q=>q.mono (by omega)⟩
theorem StepI.trans {m b f:Nat} {L L1 L2:LvD} {V V1 V2:VS} {d g e i:Nat} (h:StepI m L V b d e L1 V1) (a:StepI b L1 V1 f g i L2 V2):StepI m L V f (d+g) (e+i) L2 V2:=
  ⟨a.inv,a.sp.trans h.sp,λc q=>(a.al _ (h.al c q)).mono (by omega),λc q=>(a.sz _ (h.sz c q)).mono (by omega)⟩
theorem StepI.up {m a:Nat} {L L1:LvD} {V V1:VS} {d b e f:Nat} (h:StepI m L V a d e L1 V1) (g:d<=b) (i:e<=f):StepI m L V a b f L1 V1:=
  ⟨h.inv,h.sp,λc q=>(h.al c q).mono (by omega),λc q=>(h.sz c q).mono (by omega)⟩
def NA (V:VS) (Fr:Nat):Prop:= ∀c,AliveLe V c->Fr<=c+1
section
variable {L L1 L':LvD} {V V1 V':VS} {id:Int} {t t1 t':TrD} {k:KD} {x x1 x':LfD} {m Fr:Nat} {s e a r:Int} {pg:Bs} {b:UInt8}
theorem OwnP.sz (h:OwnP L V k Fr L' V' s e) (b:SzLe L c):SzLe L' (c+1):=by
  rcases h with⟨_,_,_,_,rfl,_⟩ | ⟨_,_,_,rfl,_⟩ | ⟨_,f,_,_,_,rfl⟩
  · exact b.mono (by omega)
  · exact b.mono (by omega)
  · refine b.add 0 k (λq a=> ?_) λj u q y d a=> .inl ⟨u,y,d,a⟩;by_cases e:q=k
    · right;rw[e]
    · simp only[ZS,if_neg e]at a;exact .inl a
theorem OwnT.sz (h:OwnT L V id t k x Fr L' V' s e) (b:L.tr id=some t) (d:t.lv k=some x) (a:SzLe L c):SzLe L' c:=by
  rcases h with⟨_,_,_,_,rfl,_⟩ | ⟨_,_,_,rfl,_⟩ | ⟨_,f,_,_,_,rfl⟩
  · exact a
  · exact a
  · exact a.putOld (x:={x with own:=s}) b d U U
theorem qgl (e:QC L' V'=QC L V) (f:L.tr id=some t) (g:t.lv k=some x) (a:L'.tr id=some t') (b:t'.lv k=some x'):WF V' x'=WF V x:=by
  have c:=Z1 (V:=V') a;rw[e,Z1 f]at c;have h:ZR V t=ZR V' t':=by simpa using c
  have d:=ZW (V:=V') b;rw[<-h,ZW g]at d
  simpa using d.symm
theorem qb3 (c:LvI m L V) (g:ZF V s=1) (h:V s=some (r,pg)) (d:Xx L (.inl k)=s) (t:0<=a/\a<64):
    LvI m L (QN V s (some (r,pg.set a.toNat b)))/\QC L (QN V s (some (r,pg.set a.toNat b)))={QC L V with pres:=VN (QC L V).pres k (((QC L V).pres k).set a.toNat b)}:=by
  obtain⟨i,l,n⟩:=Su (a:=a) (b:=b) c.ref h g d
  have f:QC L (QN V s (some (r,pg.set a.toNat b)))={QC L V with pres:=VN (QC L V).pres k (((QC L V).pres k).set a.toNat b)}:=by
    have o:L.pres=ZS L.pres k (L.pres k):=by
      funext j;unfold ZS;split
      · rename_i e;rw[e]
      · rfl
    rw[Dd (V:=V) (k:=k) (s:=L.pres k) o U λp d=>l p d];have q:Zm (QN V s (some (r,pg.set a.toNat b))) (L.pres k)=((QC L V).pres k).set a.toNat b:=n;rw[q]
  exact⟨⟨i,c.rank,by rw[f];exact c.agree⟩,f⟩
theorem qb2 (e:LvI m L V) (z:ZF V s=1) (A:V s=some (r,pg)) (B:Xx L (.inr (id,k,true))=s) (c:L.tr id=some t) (g:t.lv k=some x) (H:0<=a/\a<64):
    LvI m (ZA L id t k {x with wr:=x.wr ||| (1#64<<<a.toNat)}) (QN V s (some (r,pg.set a.toNat b)))/\
    QC (ZA L id t k {x with wr:=x.wr ||| (1#64<<<a.toNat)}) (QN V s (some (r,pg.set a.toNat b)))=Wj (QC L V) id k {WF V x with own:=(WF V x).own.set a.toNat b,wr:=x.wr ||| (1#64<<<a.toNat)}:=by
  obtain⟨C,o,i⟩:=Su (a:=a) (b:=b) e.ref A z B;generalize d:ZA L id t k {x with wr:=x.wr ||| (1#64<<<a.toNat)}=L'
  have u:L'.pres=L.pres:=by subst d;rfl
  have l:L'.tr=QN L.tr id (some {t with lv:=QN t.lv k (some {x with wr:=x.wr ||| (1#64<<<a.toNat)})}):=by subst d;rfl
  have D: ∀q,Xx L' q=Xx L q:= λq=>by
    rw[HM (x:={x with wr:=x.wr ||| (1#64<<<a.toNat)}) u l c U]
    dsimp only;rw[HS (f:=Xx L) (v:=x.base) (by rw[XB c g];rfl),HS (by rw[XB c g];rfl)]
  have w:QC L' (QN V s (some (r,pg.set a.toNat b)))=Wj (QC L V) id k {WF V x with own:=(WF V x).own.set a.toNat b,wr:=x.wr ||| (1#64<<<a.toNat)}:=by
    rw[Hh (x:={x with wr:=x.wr ||| (1#64<<<a.toNat)}) u l c U λp _ E=>o p E]
    congr 1;have n:=o (.inr (id,k,false)) (by simp);rw[XB c g]at n i;simp at n i;simp only[WF,n,i]
  refine⟨⟨C.fn D,by rw[l];exact e.rank.same (Jr c U), ?_⟩,w⟩;rw[w];refine e.agree.put λj y h=> ?_;have F:=e.agree id _ k _ (Z1 c) (ZW g) j y;dsimp only at h⊢;rw[BitVec.getLsbD_or,Bool.or_eq_false_iff]at h;rw[F h.1]
  have G:a.toNat≠j:= λq=>by
    have :=h.2;rw[q,BitVec.getLsbD_shiftLeft]at this;simp [y]at this
  rw[List.getElem?_set_ne G]
end
