/- LeavesNested: plain -/
import Derived.Test.YtkcjfoaejijdoaaGreatDoorLv40
set_option linter.unusedVariables false
namespace Go.Proofs.YtkcjfoaejijdoaaGreatDoor
open Go.RowKit M
set_option linter.unusedSectionVars false
variable [Inhabited SlW]
noncomputable def TC (P:KD→Bs) (t u:TrA) (k:KD):TrA:= match t.lv k with
  | none=>u
  | some x=> if x.rd=0#64 then u else JR u k (orR (Z5 P u k) x.rd)
noncomputable def MT (P S:KD→Bs) (t u:TrA) (k:KD):TrA:= match t.lv k with
  | none=>u
  | some x=> if x.wr=0#64 then u else JR u k (gvX (Z5 P u k) (Rf (S k) x.own x.wr) x.wr)
noncomputable def cmU (P S:KD→Bs) (t u:TrA) (l:List KD) (obs:List Bs):TrA:=l.foldl (MT P S t) (obs.foldl Yk (l.foldl (TC P t) u))
section
variable {A:LvA} {id p:Int} {P S b:KD→Bs} {t u u':TrA} {k j:KD} {l:List KD} {obs:List Bs} {y:LfA} {q d q' d':Nat} {W:WS} {M:List KD}
theorem rdV_par:(TC P t u k).parent=u.parent:= by
  unfold TC
  cases t.lv k with
  | none=>rfl
  | some x=> dsimp only;split<;>rfl
theorem gvV_par:(MT P S t u k).parent=u.parent:= by
  unfold MT
  cases t.lv k with
  | none=>rfl
  | some x=> dsimp only;split<;>rfl
theorem rdV_set (h:BgI A p 0 P) (hu:u.parent=0):SH p t (Y2 A p u) k=Y2 A p (TC P t u k):= by
  unfold SH TC
  cases t.lv k with
  | none=>rfl
  | some x=>
    dsimp only
    split
    · rfl
    · rw[Vx h hu,VD]
theorem Pb (h:BgI A p 0 P): ∀(l:List KD) {u:TrA},u.parent=0→l.foldl (SH p t) (Y2 A p u)=Y2 A p (l.foldl (TC P t) u)∧(l.foldl (TC P t) u).parent=0
  | [],u,hu=>⟨rfl,hu⟩
  | k::l,u,hu=> by
    show l.foldl (SH p t) (SH p t (Y2 A p u) k)=_∧_
    rw[rdV_set h hu]
    exact Pb h l (rdV_par.trans hu)
theorem PJ (hp0:p≠0): ∀(obs:List Bs) {u:TrA},obs.foldl (WG p) (Y2 A p u)=Y2 A p (obs.foldl Yk u)∧(obs.foldl Yk u).parent=u.parent
  | [],u=>⟨rfl,rfl⟩
  | ob::obs,u=> by
    show obs.foldl (WG p) (WG p (Y2 A p u) ob)=_∧_
    have e:WG p (Y2 A p u) ob=Y2 A p (Yk u ob):= by unfold WG; rw[if_neg hp0,Cd]
    rw[e]
    exact PJ hp0 obs
theorem gvV_set {A0:LvA} (h:BgI A p 0 P) (hp0:p≠0) (hu:u.parent=0):RM A0 p t (Y2 A p u) k=Y2 A p (MT P (Zr A0 p) t u k):= by
  unfold RM MT
  cases t.lv k with
  | none=>rfl
  | some x=>
    dsimp only
    split
    · rfl
    · rw[Vx h hu,VD];rfl
theorem Py {A0:LvA} (h:BgI A p 0 P) (hp0:p≠0): ∀(l:List KD) {u:TrA},u.parent=0→l.foldl (RM A0 p t) (Y2 A p u)=Y2 A p (l.foldl (MT P (Zr A0 p) t) u)∧(l.foldl (MT P (Zr A0 p) t) u).parent=0
  | [],u,hu=>⟨rfl,hu⟩
  | k::l,u,hu=> by
    show l.foldl (RM A0 p t) (RM A0 p t (Y2 A p u) k)=_∧_
    rw[gvV_set h hp0 hu]
    exact Py h hp0 l (gvV_par.trans hu)
theorem qaq (h:BgI A p 0 P) (hp0:p≠0) (hA:A.tr p=some u) (hu:u.parent=0) (ht:t.parent=p):PU A id t l obs=BJ (Y2 A p (cmU P (Zr A p) t u l obs)) id∧(cmU P (Zr A p) t u l obs).parent=0:= by
  obtain⟨a1,a2⟩:=Pb (t:=t) h l hu
  obtain⟨b1,b2⟩:=PJ (A:=A) hp0 obs (u:=l.foldl (TC P t) u)
  obtain⟨c1,c2⟩:=Py (A0:=A) (t:=t) h hp0 l (b2.trans a2)
  rw[Yq hA]at a1
  unfold PU cmU
  rw[ht,if_neg hp0,a1,b1,c1]
  exact⟨rfl,c2⟩
theorem GoX.orR {o:LfA} {r:BitVec 64}:GoX o (Go.Proofs.YtkcjfoaejijdoaaGreatDoor.orR o r):=⟨rfl,⟨r,rfl⟩,0#64,or_zer.symm⟩
theorem GoX.gvX {o:LfA} {c:Bs} {r:BitVec 64}:GoX o (Go.Proofs.YtkcjfoaejijdoaaGreatDoor.gvX o c r):=⟨rfl,⟨0#64, by
  show o.rd=o.rd ||| (0#64&&& ~~~o.wr)
  apply BitVec.eq_of_getLsbD_eq
  intro i hi
  simp⟩,_,rfl⟩
def TrE (P:KD→Bs) (u:TrA):Prop:= ∃q d,TrK P u q d
theorem TrE.put (h:TrE P u) (hg:GoX (Z5 P u k) y):TrE P (JR u k y):= by
  obtain⟨q,d,h⟩:=h
  exact⟨q+1,d,h.putG hg h.pt.put1⟩
theorem TrE.rd (h:TrE P u):TrE P (TC P t u k):= by
  unfold TC
  cases t.lv k with
  | none=> exact h
  | some x=>
    dsimp only
    split
    · exact h
    · exact h.put GoX.orR
theorem TrE.gv (h:TrE P u):TrE P (MT P S t u k):= by
  unfold MT
  cases t.lv k with
  | none=> exact h
  | some x=>
    dsimp only
    split
    · exact h
    · exact h.put GoX.gvX
theorem TrE.drp (h:TrE P u) {ob:Bs}:TrE P (Yk u ob):= by
  obtain⟨q,d,h⟩:=h
  exact⟨q,d+1,h.drp⟩
theorem TrE.rds (h:TrE P u): ∀(l:List KD),TrE P (l.foldl (TC P t) u):= fun l=> by
  induction l generalizing u with
  | nil=> exact h
  | cons k l ih=> exact ih h.rd
theorem TrE.gvs (h:TrE P u): ∀(l:List KD),TrE P (l.foldl (MT P S t) u):= fun l=> by
  induction l generalizing u with
  | nil=> exact h
  | cons k l ih=> exact ih h.gv
theorem TrE.drs (h:TrE P u): ∀(l:List Bs),TrE P (l.foldl Yk u):= fun l=> by
  induction l generalizing u with
  | nil=> exact h
  | cons k l ih=> exact ih h.drp
theorem TrE.cm (h:TrE P u):TrE P (cmU P S t u l obs):=((h.rds l).drs obs).gvs l
def PaI (u:TrA) (M:List KD):Prop:= ∀k x,u.lv k=some x→x.wr≠0#64→x.wr≠BitVec.allOnes 64→k∈M
theorem PaI.put (h:PaI u M) (hy:y.wr≠0#64→y.wr≠BitVec.allOnes 64→k∈M):PaI (JR u k y) M:= fun j x hx h1 h2=> by
  have hx':X1 u.lv k (some y) j=some x:=hx
  by_cases e:j=k
  · subst e
    rw[Qz]at hx'
    cases hx'
    exact hy h1 h2
  · rw[QF e]at hx'
    exact h j x hx' h1 h2
theorem PaI.tou (h:PaI u M) (h1:(Z5 P u k).wr≠0#64) (h2:(Z5 P u k).wr≠BitVec.allOnes 64):k∈M:= by
  unfold Z5 at h1 h2
  cases hx:u.lv k with
  | some x=> rw[hx]at h1 h2; exact h k x hx h1 h2
  | none=>
    rw[hx]at h1 h2
    dsimp only at h1 h2
    split at h1
    · rename_i e; rw[if_pos e]at h2; exact absurd rfl h2
    · exact absurd rfl h1
theorem PaI.drp (h:PaI u M) {ob:Bs}:PaI (Yk u ob) M:= fun j x hx h1 h2=> by
  have hx':Zj (fun j=>j.1=ob) u.lv j=some x:=hx
  unfold Zj at hx'
  by_cases e:j.1=ob
  · rw[if_pos e]at hx'
    obtain⟨z,hz,rfl⟩:=Option.map_eq_some_iff.1 hx'
    exact absurd rfl h2
  · rw[if_neg e]at hx'
    exact h j x hx' h1 h2
theorem PaI.rd (h:PaI u M):PaI (TC P t u k) M:= by
  unfold TC
  cases t.lv k with
  | none=> exact h
  | some x=>
    dsimp only
    split
    · exact h
    · exact h.put fun h1 h2=>h.tou (P:=P) h1 h2
theorem PaI.gv (h:PaI u M) (ht:PaI t M):PaI (MT P S t u k) M:= by
  unfold MT
  cases hx:t.lv k with
  | none=> exact h
  | some x=>
    dsimp only
    split
    · exact h
    · rename_i h0
      refine h.put fun _ h2=>ht k x hx h0 fun e=>h2 ?_
      show(Z5 P u k).wr ||| x.wr=_
      rw[e,BitVec.or_comm]
      exact F8
theorem PaI.cm (h:PaI u M) (ht:PaI t M):PaI (cmU P S t u l obs) M:= by
  have a1: ∀(l:List KD) {u:TrA},PaI u M→PaI (l.foldl (TC P t) u) M:= fun l=> by
    induction l with
    | nil=> exact fun h=>h
    | cons k l ih=> exact fun h=>ih h.rd
  have a2: ∀(l:List Bs) {u:TrA},PaI u M→PaI (l.foldl Yk u) M:= fun l=> by
    induction l with
    | nil=> exact fun h=>h
    | cons k l ih=> exact fun h=>ih h.drp
  have a3: ∀(l:List KD) {u:TrA},PaI u M→PaI (l.foldl (MT P S t) u) M:= fun l=> by
    induction l with
    | nil=> exact fun h=>h
    | cons k l ih=> exact fun h=>ih (h.gv ht)
  exact a3 _ (a2 _ (a1 _ h))
theorem rdV_dr:(TC P t u k).dr=u.dr:= by
  unfold TC
  cases t.lv k with
  | none=>rfl
  | some x=> dsimp only;split<;>rfl
theorem gvV_dr:(MT P S t u k).dr=u.dr:= by
  unfold MT
  cases t.lv k with
  | none=>rfl
  | some x=> dsimp only;split<;>rfl
theorem O9: ∀(l:List KD) {u:TrA},(l.foldl (TC P t) u).dr=u.dr
  | [],_=>rfl
  | k::l,_=>(O9 l).trans rdV_dr
theorem IA: ∀(l:List KD) {u:TrA},(l.foldl (MT P S t) u).dr=u.dr
  | [],_=>rfl
  | k::l,_=>(IA l).trans gvV_dr
theorem qad: ∀(obs:List Bs) {u:TrA} {ob:Bs},(obs.foldl Yk u).dr ob=true↔u.dr ob=true∨ob∈obs
  | [],u,ob=> by simp
  | o::obs,u,ob=> by
    show(obs.foldl Yk (Yk u o)).dr ob=true↔_
    rw[qad obs, show(Yk u o).dr ob=J6 u.dr o ob from rfl,Ju,List.mem_cons]
    constructor
    · rintro((a | a) | a)
      · exact .inl a
      · exact .inr (.inl a)
      · exact .inr (.inr a)
    · rintro(a | a | a)
      · exact .inl (.inl a)
      · exact .inl (.inr a)
      · exact .inr a
theorem cmU_trk (h:TrK P u q d) (ht:TrK b t q' d') (hob: ∀ob,ob∈obs↔t.dr ob=true):TrK P (cmU P S t u l obs) (q+q') (d+d'):= by
  obtain⟨l1,a1,a2⟩:=h.pt
  obtain⟨l2,b1,b2⟩:=ht.pt
  obtain⟨o1,c1,c2⟩:=h.dl
  obtain⟨o2,d1,d2⟩:=ht.dl
  obtain⟨_,_,hE⟩:=TrE.cm (S:=S) (t:=t) (l:=l) (obs:=obs) ⟨q,d,h⟩
  have hP:PaI (cmU P S t u l obs) (l1++l2):=PaI.cm (fun k x e f g=>List.mem_append_left _ (a2 k x e f g)) (fun k x e f g=>List.mem_append_right _ (b2 k x e f g))
  refine⟨hE.rd,hE.dr,⟨l1++l2, by rw[List.length_append];omega,hP⟩,o1++o2, by rw[List.length_append];omega, fun ob ho=> ?_⟩
  unfold cmU at ho
  rw[IA,qad,O9,hob]at ho
  rcases ho with e | e
  · exact List.mem_append_left _ (c2 ob e)
  · exact List.mem_append_right _ (d2 ob e)
theorem O4:ZW (TC P t u k) (P j) j=ZW u (P j) j:= by
  unfold TC
  cases t.lv k with
  | none=>rfl
  | some x=>
    dsimp only
    split
    · rfl
    · rw[HF]
      by_cases e:j=k
      · rw[if_pos e, show(orR (Z5 P u k) x.rd).own=(Z5 P u k).own from rfl,YU,e]
      · rw[if_neg e]
theorem NQ: ∀(l:List KD) {u:TrA},ZW (l.foldl (TC P t) u) (P j) j=ZW u (P j) j
  | [],_=>rfl
  | k::l,_=>(NQ l).trans O4
theorem NS {c:Bs}: ∀(obs:List Bs) {u:TrA},ZW (obs.foldl Yk u) c j= if j.1∈obs then zer else ZW u c j
  | [],_=> by simp
  | o::obs,u=> by
    show ZW (obs.foldl Yk (Yk u o)) c j=_
    rw[NS obs,NT]
    by_cases e:j.1∈obs
    · rw[if_pos e,if_pos (List.mem_cons_of_mem _ e)]
    · rw[if_neg e]
      by_cases e2:j.1=o
      · rw[if_pos e2,if_pos (by simp [e2])]
      · rw[if_neg e2,if_neg (by simp [e,e2])]
theorem NR: ∀(l:List KD) {u:TrA},l.Nodup→ZW (l.foldl (MT P S t) u) (P j) j= if j∈l then(match t.lv j with | none=>ZW u (P j) j | some x=> if x.wr=0#64 then ZW u (P j) j else Rf (S j) x.own x.wr)else ZW u (P j) j
  | [],_,_=> by simp
  | k::l,u,hn=> by
    obtain⟨hk,hn⟩:=List.nodup_cons.1 hn
    show ZW (l.foldl (MT P S t) (MT P S t u k)) (P j) j=_
    rw[NR l hn]
    by_cases e:j=k
    · subst e
      rw[if_neg hk,if_pos List.mem_cons_self]
      unfold MT
      cases t.lv j with
      | none=>rfl
      | some x=>
        dsimp only
        by_cases q:x.wr=0#64
        · rw[if_pos q,if_pos q]
        · rw[if_neg q,if_neg q,HF,if_pos rfl];rfl
    · have e2:ZW (MT P S t u k) (P j) j=ZW u (P j) j:= by
        unfold MT
        cases t.lv k with
        | none=>rfl
        | some x=>
          dsimp only
          split
          · rfl
          · rw[HF,if_neg e]
      rw[e2]
      by_cases q:j∈l
      · rw[if_pos q,if_pos (List.mem_cons_of_mem _ q)]
      · rw[if_neg q,if_neg (by simp [e,q])]
theorem see_cmU (ht:TrK b t q d) (hal:AL t) (hb:K9 b) (hS: ∀k,S k=b k) (hsu: ∀k,ZW u (P k) k=b k) (hn:l.Nodup) (ho: ∀k,k∈l↔t.lv k≠none) (hob: ∀ob,ob∈obs↔t.dr ob=true):ZW (cmU P S t u l obs) (P j) j=ZW t (b j) j:= by
  unfold cmU
  rw[NR l hn,NS,NQ,hsu,←Lt ht hal hb]
  unfold Ro
  cases hx:t.lv j with
  | none=>
    rw[if_neg (by rw[ho,hx]; simp)]
    by_cases e:t.dr j.1=true
    · rw[if_pos ((hob _).2 e),if_pos e]
    · rw[if_neg (fun h=>e ((hob _).1 h)),if_neg e]
  | some x=>
    rw[if_pos ((ho j).2 (by rw[hx]; simp))]
    dsimp only
    by_cases e:x.wr=0#64
    · rw[if_pos e,e,VF (hb j)]
      by_cases h2:t.dr j.1=true
      · have :=ht.dr j x h2 hx
        rw[e]at this
        exact absurd this (by decide)
      · rw[if_neg (fun h=>h2 ((hob _).1 h))]
    · rw[if_neg e,hS]
end
structure Ne1 (A:LvA) (P:KD→Bs) (u:TrA):Prop where
  pres:A.pres=P
  t1:A.tr 1=some u
  oth: ∀j,j≠1→A.tr j=none
  par:u.parent=0
structure Ne2 (A:LvA) (P:KD→Bs) (u t:TrA):Prop where
  pres:A.pres=P
  t1:A.tr 1=some u
  t7:A.tr 7=some t
  oth: ∀j,j≠1→j≠7→A.tr j=none
  par:u.parent=0
  par7:t.parent=1
def t01:TrA:=⟨1, fun _=>none, fun _=>false⟩
def Sp (P:KD→Bs) (u:TrA) (k:KD):Bs:=ZW u (P k) k
section
variable {A:LvA} {P b:KD→Bs} {u t v:TrA} {q d q' d':Nat} {W:WS} {l:List KD} {obs:List Bs}
theorem t01_trk:TrK b t01 0 0:=⟨(fun k x h=> by cases h),(fun k x _ h=> by cases h),⟨[],Nat.le_refl _, fun k x h=> by cases h⟩,⟨[],Nat.le_refl _, fun ob h=> by cases h⟩⟩
theorem FI {P:KD→Bs} (h:VisP P W):VisT P t01 W:= fun nm q=>h nm q
theorem bgU_vis (h:VisT P u W):VisP (Sp P u) W:= fun nm q=>h nm q
theorem bgU_len (h:AL u) (hb:K9 P):K9 (Sp P u):= fun _=>DU h hb
theorem Ne1.start (hA: ∀j,A.tr j=none):Gq A 1 0=0∧Ne1 (BL A 1 0) A.pres t00:= by
  obtain⟨e0,e1⟩:=Ds (A:=A) (i:=1) (by omega) (hA 1)
  refine⟨e0, ?_⟩
  rw[e1]
  exact⟨rfl,Qz, fun j hj=>(QF hj).trans (hA j),rfl⟩
theorem Ne1.bg (h:Ne1 A P u):BgI A 1 0 P:=h.pres▸qbl (by decide)
theorem Ne1.st (h:Ne1 A P u) (hv:v.parent=0):Ne1 (Y2 A 1 v) P v:=⟨h.pres,Un, fun j hj=>(Hp hj).trans (h.oth j hj),hv⟩
theorem Ne1.two (h:Ne1 A P u):Gq A 7 1=0∧Ne2 (BL A 7 1) P u t01:= by
  have h7:=h.oth 7 (by decide)
  have e0:Gq A 7 1=0:= by
    unfold Gq GB
    rw[if_neg (by decide),h7,h.t1]
    rfl
  refine⟨e0, ?_⟩
  unfold BL
  rw[if_pos e0]
  exact⟨h.pres,(QF (by decide)).trans h.t1,Qz, fun j h1 h2=>(QF h2).trans (h.oth j h1),h.par,rfl⟩
theorem Ne2.bg (h:Ne2 A P u t):BgI A 7 1 (Sp P u):= by
  have :=bg_two (A:=A) (id:=7) (p:=1) (by decide) (by decide) (by decide) h.t1 h.par
  rw[h.pres]at this
  exact this
theorem Ne2.st (h:Ne2 A P u t) (hv:v.parent=1):Ne2 (Y2 A 7 v) P u v:=⟨h.pres,(Hp (by decide)).trans h.t1,Un, fun j h1 h2=>(Hp h2).trans (h.oth j h1 h2),h.par,hv⟩
theorem Ne2.sees (h:Ne2 A P u t) (k:KD):Zr A 1 k=Sp P u k:= by
  have :=(h.bg.2.2 t h.par7 k).1
  rw[Yq h.t7]at this
  exact this
theorem Ne1.sees (h:Ne1 A P u) (k:KD):Zr A 1 k=ZW u (P k) k:= by
  have :=(h.bg.2.2 u h.par k).2
  rw[Yq h.t1]at this
  exact this
theorem Ne2.val (h:Ne2 A P u t) (ht:TrK (Sp P u) t q d):VA A t:= fun k x hx j hj hr=> by
  rw[h.par7,h.sees]
  rcases ht.rd k x hx with e | ⟨e,_⟩
  · rw[e]
  · rw[e]at hr; simp at hr
theorem Ne2.key (h:Ne2 A P u t) {i:Int} {v:TrA} (hv:A.tr i=some v):(i=1∧v=u)∨(i=7∧v=t):= by
  by_cases e1:i=1
  · subst e1; rw[h.t1]at hv; exact .inl ⟨rfl,(Option.some.inj hv).symm⟩
  · by_cases e2:i=7
    · subst e2; rw[h.t7]at hv; exact .inr ⟨rfl,(Option.some.inj hv).symm⟩
    · rw[h.oth i e1 e2]at hv; cases hv
theorem Ne1.key (h:Ne1 A P u) {i:Int} {v:TrA} (hv:A.tr i=some v):i=1∧v=u:= by
  by_cases e1:i=1
  · subst e1; rw[h.t1]at hv; exact⟨rfl,(Option.some.inj hv).symm⟩
  · rw[h.oth i e1]at hv; cases hv
theorem Ne2.rdy (h:Ne2 A P u t) (k1:TrK P u q d) (k2:TrK (Sp P u) t q' d'):(∀i v,A.tr i=some v→v.parent≠7)∧DrA A:= by
  refine⟨fun i v hv=> ?_, fun i v k x hv hd hx=> ?_⟩
  · rcases h.key hv with⟨_,rfl⟩ | ⟨_,rfl⟩
    · rw[h.par];decide
    · rw[h.par7];decide
  · rcases h.key hv with⟨_,rfl⟩ | ⟨_,rfl⟩
    · exact k1.dr k x hd hx
    · exact k2.dr k x hd hx
theorem Ne1.rdy (h:Ne1 A P u) (k1:TrK P u q d):(∀i v,A.tr i=some v→v.parent≠1)∧DrA A:= by
  refine⟨fun i v hv=> ?_, fun i v k x hv hd hx=> ?_⟩
  · rw[(h.key hv).2,h.par];decide
  · rw[(h.key hv).2]at hd hx
    exact k1.dr k x hd hx
theorem Ne2.com (h:Ne2 A P u t) (k1:TrK P u q d) (k2:TrK (Sp P u) t q' d') (hal:AL t) (hb:K9 (Sp P u)) (hn:l.Nodup) (ho: ∀k,k∈l↔t.lv k≠none) (hob: ∀ob,ob∈obs↔t.dr ob=true) (hv:VisT (Sp P u) t W): ∃v,Ne1 (PU A 7 t l obs) P v∧TrK P v (q+q') (d+d')∧VisT P v W:= by
  have hB:BgI A 1 0 P:=h.pres▸qbl (by decide)
  obtain⟨e1,e2⟩:=qaq (id:=7) (l:=l) (obs:=obs) hB (by decide) h.t1 h.par h.par7
  refine⟨cmU P (Zr A 1) t u l obs, ?_,cmU_trk k1 k2 hob, fun nm q=> ?_⟩
  · rw[e1]
    refine⟨h.pres,(QF (by decide)).trans Un, fun j hj=> ?_,e2⟩
    by_cases e:j=7
    · subst e; exact Qz
    · exact(QF e).trans ((Hp hj).trans (h.oth j hj e))
  · rw[see_cmU k2 hal hb (fun k=>h.sees k) (fun k=>rfl) hn ho hob]
    exact hv nm q
theorem Ne2.abo (h:Ne2 A P u t):Ne1 (BJ A 7) P u:= by
  refine⟨h.pres,(QF (by decide)).trans h.t1, fun j hj=> ?_,h.par⟩
  by_cases e:j=7
  · subst e; exact Qz
  · exact(QF e).trans (h.oth j hj e)
end
theorem SR {w:World} {b p n m c e:Nat} {A:LvA} {As:List Th} (h:Sat w (JX b p n m c e A::As)) {i:Int} {t:TrA} (ht:A.tr i=some t):AL t:= by
  obtain⟨L,V,⟨h1,h2,h3,h4,h5⟩,_⟩:=Zw h
  subst h3
  intro k x hx
  refine⟨h2.agree i t k x ht hx, ?_⟩
  obtain⟨u,hu,rfl⟩:=Yp ht
  cases q:u.lv k with
  | none=> rw[UA q]at hx; cases hx
  | some z=>
    rw[ZE q]at hx
    cases hx
    have e:Xv L (.inr (i,k,true))=z.own:= by unfold Xv; simp only[hu,q];rfl
    have :=h2.len (h2.alive (.inr (i,k,true)))
    rw[e]at this
    exact this
end Go.Proofs.YtkcjfoaejijdoaaGreatDoor
namespace Go.Proofs.YtkcjfoaejijdoaaGreatDoor
open Go.RowKit M
set_option linter.unusedSectionVars false
variable [Inhabited SlW]
theorem ls_busy {w:World} {b p n m c e:Nat} {A:LvA} {F:Th} (hS:Sat w [JX b p n m c e A,F]) (hn:n≤60000000000) (hm:m<Zl) {id j:Int} {tA uA:TrA} (ht:A.tr id=some tA) (hu:A.tr j=some uA) (hp:uA.parent=id):
    Calls Tryz.prog 13 #[ptrV b 0,intV id] w (Ret fun v w'=>v=intV 8∧Sat w' [JX b p n m c e A,F]):= by
  obtain⟨L,V,⟨h1,h2,rfl,h4,h5⟩,hS1⟩:=Zw hS
  obtain⟨t,ht1,rfl⟩:=Yp ht
  obtain⟨u,hu1,rfl⟩:=Yp hu
  refine(Fn hS1 hn ht1 ⟨j,u,hu1,hp⟩).mono fun ew w h=>h.mono fun v w h=> ?_
  exact⟨h.1,ZC ⟨h1,h2,rfl,h4,h5⟩ h.2⟩
theorem Ir {w:World} {b p n m c e:Nat} {A:LvA} {F:Th} (hS:Sat w [JX b p n m c e A,F]) (hn:n≤60000000000) (hm:m<Zl) (hn2:n+2*e≤60000000000) {id:Int} {tA:TrA} (ht:A.tr id=some tA) (hch: ∀i u,A.tr i=some u→u.parent≠id) {ids:List Int} (hids: ∀i u,A.tr i=some u→i∈ids) (hil:ids.length≤1000):
    Calls Tryz.prog 25 #[ptrV b 0,intV id] w (Ret fun v w'=>Sat w' [JX b p (n+2*e) m c e (BJ A id),F]):= by
  obtain⟨L,V,⟨h1,h2,rfl,h4,h5⟩,hS1⟩:=Zw hS
  obtain⟨t,ht1,rfl⟩:=Yp ht
  have hlen: ∀ks,Came (XY TrD.ad L.tr) ks→ks.length≤100000000000:= fun ks hk=>Nat.le_trans (Pj hk.nodup fun i hi=> by
    have h6:=hk.has i hi
    cases q:L.tr i with
    | none=> exact absurd (by unfold XY; rw[q];rfl) h6
    | some u=> exact hids i _ (Zp q)) (by omega)
  refine(AJ hS1 h5 hn2 h2 (fun _ _=>Int.le_refl _) ht1 (fun i u hu=>hch i _ (Zp hu)) hlen).mono fun ew w h=>h.mono fun v w h=> ?_
  obtain⟨L',V',hs,hab,_,_,hS⟩:=h
  exact ZC ⟨hs.sp.trans h1,hs.inv,hab,hs.al _ h4,hs.sz _ h5⟩ hS
end Go.Proofs.YtkcjfoaejijdoaaGreatDoor
