/- leaves: Commit by contents -/
import Derived.Test.YtkcjfoaejijdoaaGreatDoorLv27
import Derived.Test.YtkcjfoaejijdoaaGreatDoorWa
import Derived.Test.YtkcjfoaejijdoaaGreatDoorFw
set_option linter.unusedVariables false
set_option maxRecDepth 100000
set_option maxHeartbeats 1600000
namespace Go.Proofs.YtkcjfoaejijdoaaGreatDoor
open Go.RowKit M
def PartLe (t:TrA) (q:Nat):Prop:= ∃l:List KD,l.length≤q∧ ∀k x,t.lv k=some x→x.wr≠0#64→x.wr≠BitVec.allOnes 64→k∈l
def DrLe (t:TrA) (d:Nat):Prop:= ∃l:List Bs,l.length≤d∧ ∀ob,t.dr ob=true→ob∈l
theorem PartLe.part {V:VS} {t:TrD} {q:Nat} {order:List KD} (h:PartLe (ZJ V t) q) (hn:order.Nodup):Yu t order≤q:= by
  obtain⟨l,h1,h2⟩:=h
  refine Nat.le_trans ?_ h1
  unfold Yu
  refine WC (hn.filter _) fun k hk=> ?_
  obtain⟨_,hk⟩:=List.mem_filter.1 hk
  simp only[decide_eq_true_eq]at hk
  obtain⟨x,hx,a,b⟩:=hk
  exact h2 k _ (ZO hx) a b
theorem DrLe.came {t:TrD} {V:VS} {d:Nat} (h:DrLe (ZJ V t) d) {ks:List Bs} (hc:Came (Jl t.dr) ks):ks.length≤d:= by
  obtain⟨l,h1,h2⟩:=h
  refine Nat.le_trans (WC hc.nodup fun k hk=> ?_) h1
  have h3:=hc.has k hk
  refine h2 k ?_
  show t.dr k=true
  cases q:t.dr k with
  | true=>rfl
  | false=> exact absurd (by unfold Jl; rw[q];rfl) h3
theorem absL_ch {L:LvD} {V:VS} {id:Int} (h: ∀i u,(QG L V).tr i=some u→u.parent≠id): ∀i u,L.tr i=some u→u.parent≠id:= fun i u hu=>h i _ (Z1 hu)
theorem ls_com {w:World} {b p n m c e:Nat} {A:LvA} {F:Th} (hS:Sat w [Yd b p n m c e A,F]) (hn:n≤600000000) (hm:m<Zv) {d q:Nat} (hn2:n+(16*e+4*e*d)≤600000000) (hdm:d≤900000000) {id:Int} {tA:TrA} (ht:A.tr id=some tA) (hch: ∀i u,A.tr i=some u→u.parent≠id) (hdr:DrA A) (hd:DrLe tA d) (hq:PartLe tA q) (hcq:c+q<256):
    Calls Tryz.prog 13 #[ptrV b 0,intV id] w (Ret fun v w'=> ∃order obs,v=intV 0∧((∀k,k∈order↔tA.lv k≠none)∧order.Nodup∧(∀ob,ob∈obs↔tA.dr ob=true))∧Sat w' [Yd b p (n+(16*e+4*e*d)) m (c+q) e (qai A id tA order obs),F]):= by
  obtain⟨L,V,⟨h1,h2,rfl,h4,h5⟩,hS1⟩:=ZN hS
  obtain⟨t,ht1,rfl⟩:=Uh ht
  refine(Ak hS1 hn2 h2 hm h5 ht1 (absL_ch hch) hdr (fun ks h=>hd.came h) hdm).mono fun ew w h=>h.mono fun v w h=> ?_
  obtain⟨L',V',h,hS⟩:=h
  rcases h with⟨rfl,order,obs,a1,a2,a3,a4,a5,a6,a7,a8⟩ | ⟨_,_,order,a1,a2,a3,a4,a5,a6⟩
  · refine⟨order,obs,rfl,⟨fun k=>(a1 k).trans ?_,a2,a3⟩,ZU ⟨a5.trans h1,a4,a6,(a8 _ h4).mono (Nat.add_le_add_left (hq.part a2) c),a7 _ h5⟩ hS⟩
    cases r:t.lv k with
    | none=> rw[VW r]; simp
    | some x=> rw[ZO r]; simp
  · have x1:=a5 _ h4
    have x2:=hq.part a2
    omega
theorem BY {w:World} {b p n m c e:Nat} {A:LvA} {F:Th} (hS:Sat w [Yd b p n m c e A,F]) (hn:n≤600000000) (hm:m<Zv) {d q:Nat} (hn2:n+(16*e+4*e*d)≤600000000) (hdm:d≤900000000) {id:Int} {tA:TrA} (ht:A.tr id=some tA) (hp:tA.parent=0) (hch: ∀i u,A.tr i=some u→u.parent≠id) (hdr:DrA A) (hd:DrLe tA d) (hq:PartLe tA q) (hcq:c+q<256):
    Calls Tryz.prog 13 #[ptrV b 0,intV id] w (Ret fun v w'=>v=intV 0∧Sat w' [Yd b p (n+(16*e+4*e*d)) m (c+q) e ⟨ME A tA,X5 A.tr id none⟩,F]):= by
  refine(ls_com hS hn hm hn2 hdm ht hch hdr hd hq hcq).mono fun ew w h=>h.mono fun v w h=> ?_
  obtain⟨order,obs,rfl,⟨a,b,c⟩,hS⟩:=h
  rw[Al hp b a c]at hS
  exact⟨rfl,hS⟩
def kO:KD:=([111],0)
theorem sees_nzero {A:LvA} {k:KD} {n:Nat}:J6 A (n+1) 0 k=A.pres k:= by rw[J6,if_pos rfl]
def Lf1 (A:LvA) (i:Int) (page own:Bs) (r w:BitVec 64):Prop:= ∃lv,A.tr i=some ⟨0,lv, fun _=>false⟩∧(∀k,k≠kO→lv k=none)∧((lv kO=none∧r=0#64∧w=0#64∧own=page)∨lv kO=some ⟨page,own,r,w⟩)
section
variable {A:LvA} {i j:Int} {page own own' o1 o2:Bs} {r w r' w' r1 w1 r2 w2 x y:BitVec 64} {k:KD} {q:Nat}
theorem Lf1.tou (h:Lf1 A i page own r w) (hp:A.pres kO=page) (h0:i≠0):Zo A i kO=⟨page,own,r,w⟩:= by
  obtain⟨lv,ht,hk,hl⟩:=h
  rcases hl with⟨a,rfl,rfl,rfl⟩ | a
  · rw[Ty ht a]
    have h1:ZT A i kO=own:= by
      unfold ZT
      rw[J6,if_neg h0,ht]
      dsimp only
      rw[a]
      dsimp only
      rw[if_neg (by simp)]
      exact(show J6 A (99999+1) 0 kO=own from sees_nzero.trans hp)
    rw[h1]
    rfl
  · exact Kd ht a
theorem Lf1.put (h:Lf1 A i page own r w):Lf1 (ZG A i kO ⟨page,own',r',w'⟩) i page own' r' w':= by
  obtain⟨lv,ht,hk,_⟩:=h
  exact⟨X5 lv kO (some ⟨page,own',r',w'⟩), by rw[ZY ht]; exact Q7, fun k e=> by rw[QN e]; exact hk k e,.inr Q7⟩
theorem Lf1.oth {y:LfA} (h:Lf1 A j page own r w) (hne:j≠i):Lf1 (ZG A i k y) j page own r w:= by
  obtain⟨lv,ht,hk,hl⟩:=h
  exact⟨lv, by rw[HS hne]; exact ht,hk,hl⟩
def SB (A:LvA) (page o1:Bs) (r1 w1:BitVec 64) (o2:Bs) (r2 w2:BitVec 64):Prop:=A.pres kO=page∧Lf1 A 1 page o1 r1 w1∧Lf1 A 2 page o2 r2 w2∧ ∀i,i≠1→i≠2→A.tr i=none
theorem E2 {y:LfA} (h:A.tr j=none):(ZG A i k y).tr j=none:= by
  by_cases e:j=i
  · subst e;unfold ZG; rw[h]; exact h
  · rw[HS e]; exact h
theorem SB.put1 (h:SB A page o1 r1 w1 o2 r2 w2):SB (ZG A 1 kO ⟨page,own',r',w'⟩) page own' r' w' o2 r2 w2:=
  ⟨by rw[GO]; exact h.1,h.2.1.put,h.2.2.1.oth (by decide), fun j a b=>E2 (h.2.2.2 j a b)⟩
def MW (x w:BitVec 64) (i:Nat):Prop:= ∀j,j<64→w.getLsbD j=(x.getLsbD j&&decide (j<i))
theorem MW.zero:MW x 0#64 0:= fun j _=> by simp
theorem C7 {i j:Nat} (hj:j<64):(w ||| (1#64<<<i)).getLsbD j=(w.getLsbD j || decide (j=i)):= by
  rw[BitVec.getLsbD_or,BitVec.getLsbD_shiftLeft,BitVec.getLsbD_one]
  congr 1
  by_cases h:j=i
  · subst h; simp [hj]
  · by_cases h2:j<i
    · simp [h2,h]
    · have :j -i≠0:= by omega
      simp [h2,h,this]
theorem MW.T (h:MW x w q) (hb:x.getLsbD q=true):MW x (w ||| (1#64<<<q)) (q+1):= fun j hj=> by
  rw[C7 hj,h j hj]
  by_cases e:j=q
  · subst e; simp [hb]
  · have h1:decide (j<q+1)=decide (j<q):= by
      by_cases f:j<q
      · rw[Xc f,Xc (by omega)]
      · rw[Q6 f,Q6 (by omega)]
    rw[h1]; simp [e]
theorem MW.F (h:MW x w q) (hb:x.getLsbD q=false):MW x w (q+1):= fun j hj=> by
  rw[h j hj]
  by_cases e:j=q
  · subst e; simp [hb]
  · have h1:decide (j<q+1)=decide (j<q):= by
      by_cases f:j<q
      · rw[Xc f,Xc (by omega)]
      · rw[Q6 f,Q6 (by omega)]
    rw[h1]
theorem MW.fin (h:MW x w 64):w=x:=BitVec.eq_of_getLsbD_eq fun j hj=> by rw[h j hj]; simp [hj]
theorem BW {now own:Bs} {j:Nat} (hj:j<64):(RI now own w)[j]? =some (if w.getLsbD j=true then own.getD j 0 else now.getD j 0):= by
  unfold RI
  rw[List.getElem?_map,List.getElem?_range hj]
  rfl
theorem P4 {l:Bs} {j:Nat} {v:UInt8} (h:l[j]? =some v):l.getD j 0=v:= by simp [List.getD,h]
theorem RE {now own:Bs} (hl:now.length=64):RI now own 0#64=now:= by
  apply List.ext_getElem?
  intro j
  by_cases hj:j<64
  · rw[BW hj,getD_some (by omega)]; simp
  · rw[List.getElem?_eq_none (by rw[UT];omega),List.getElem?_eq_none (by omega)]
theorem Lf1.com {t:TrA} (h:Lf1 A i page own r w) (ht:A.tr i=some t) (hl:(A.pres kO).length=64):ME A t kO=RI (A.pres kO) own w:= by
  obtain⟨lv,h1,hk,h2⟩:=h
  rw[h1]at ht
  cases ht
  unfold ME
  rcases h2 with⟨a,rfl,rfl,rfl⟩ | a
  · dsimp only; rw[a]; dsimp only; rw[if_neg (by simp),RE hl]
  · dsimp only; rw[a]; dsimp only
    by_cases e:w=0#64
    · subst e; rw[if_pos rfl,if_neg (by simp),RE hl]
    · rw[if_neg e]
theorem Lf1.parent (h:Lf1 A i page own r w) {t:TrA} (ht:A.tr i=some t):t.parent=0∧ ∀ob,t.dr ob=false:= by
  obtain⟨lv,h1,_⟩:=h
  rw[h1]at ht
  cases ht
  exact⟨rfl, fun _=>rfl⟩
theorem Lf1.get (h:Lf1 A i page own r w): ∃t,A.tr i=some t:= by obtain⟨lv,h1,_⟩:=h; exact⟨_,h1⟩
theorem Lf1.part (h:Lf1 A i page own r w) {t:TrA} (ht:A.tr i=some t): ∀k x,t.lv k=some x→k=kO:= fun k x hx=> by
  obtain⟨lv,h1,hk,_⟩:=h
  rw[h1]at ht
  cases ht
  exact Classical.byContradiction fun e=> by
    have h3:lv k=some x:=hx
    rw[hk k e]at h3; cases h3
theorem Lf1.rest (h:Lf1 A j page own r w) (hne:j≠i) {P:KD→Bs}:Lf1 ⟨P,X5 A.tr i none⟩ j page own r w:= by
  obtain⟨lv,h1,hk⟩:=h
  exact⟨lv, by show X5 A.tr i none j=_; rw[QN hne]; exact h1,hk⟩
theorem Lf1.valid (h:Lf1 A i page own r w) {t:TrA} (ht:A.tr i=some t):VA A t↔ ∀j,j<64→r.getLsbD j=true→page[j]? =(A.pres kO)[j]? := by
  obtain⟨lv,h1,hk,h2⟩:=h
  rw[h1]at ht
  cases ht
  constructor
  · intro hv q hq hr
    rcases h2 with⟨_,rfl,_⟩ | a
    · simp at hr
    · have :=hv kO _ a q hq hr
      rw[Wk]at this
      exact this
  · intro hv k z hz q hq hr
    have e:k=kO:=Classical.byContradiction fun e=> by
      have :lv k=some z:=hz
      rw[hk k e]at this; cases this
    subst e
    show z.base[q]? =(ZT A 0 kO)[q]?
    rw[Wk]
    rcases h2 with⟨a,_⟩ | a
    · have :lv kO=some z:=hz
      rw[a]at this; cases this
    · have :lv kO=some z:=hz
      rw[a]at this; cases this
      exact hv q hq hr
end
def p7:Bs:=zer.set 5 7
def kP:KD:=([112],3)
structure SmI (A:LvA) (P own:Bs) (r w:BitVec 64):Prop where
  pr:A.pres kO=P
  tr: ∃lv,A.tr 1=some ⟨0,lv, fun _=>false⟩∧lv kO=some ⟨p7,own,r,w⟩∧ ∀k,k≠kO→lv k=none
  ot: ∀i,i≠1→A.tr i=none
section
variable {A:LvA} {P own own':Bs} {r w r' w':BitVec 64}
theorem SmI.tou (h:SmI A P own r w):Zo A 1 kO=⟨p7,own,r,w⟩:= by
  obtain⟨lv,a,b,_⟩:=h.tr
  exact Kd a b
theorem SmI.lf (h:SmI A P own r w):Lf1 A 1 p7 own r w:= by
  obtain⟨lv,a,b,c⟩:=h.tr
  exact⟨lv,a,c,.inr b⟩
theorem SmI.wr (h:SmI A P own r w) (a:Int) (b:UInt8):SmI (wrP A kO a b) (P.set a.toNat b) own r w:=
  ⟨by unfold wrP; dsimp only; rw[XN,h.pr],h.tr,h.ot⟩
theorem Of (h:Lf1 A 1 p7 own r w) (hp:A.pres kO=P) (ho: ∀i,i≠1→A.tr i=none):SmI (ZG A 1 kO ⟨p7,own',r',w'⟩) P own' r' w':= by
  obtain⟨lv,a,c,_⟩:=h
  refine⟨by rw[GO]; exact hp,⟨X5 lv kO (some ⟨p7,own',r',w'⟩), by rw[ZY a]; exact Q7,Q7, fun k e=> by rw[QN e]; exact c k e⟩, fun i hi=> by rw[HS hi]; exact ho i hi⟩
theorem SmI.put (h:SmI A P own r w):SmI (ZG A 1 kO ⟨p7,own',r',w'⟩) P own' r' w':=Of h.lf h.pr h.ot
theorem SmI.get (h:SmI A P own r w): ∃t,A.tr 1=some t:=h.lf.get
end
theorem dr_none {A:LvA} (h: ∀i t,A.tr i=some t→ ∀ob,t.dr ob=false):DrA A:= fun i t k x ht hd _=> by rw[h i t ht k.1]at hd; cases hd
theorem Ae {t:TrA} (h: ∀ob,t.dr ob=false):DrLe t 0:=⟨[],Nat.le_refl _, fun ob hd=> by rw[h ob]at hd; cases hd⟩
theorem OL {t:TrA} (h: ∀k x,t.lv k=some x→k=kO):PartLe t 1:=⟨[kO],Nat.le_refl _, fun k x hx _ _=> by rw[h k x hx]; simp⟩
theorem Nt {A:LvA} {i:Int} (hi:1≤i) (h:A.tr i=none):Tk A i 0=0∧Nu A i 0={A with tr:=X5 A.tr i (some ⟨0, fun _=>none, fun _=>false⟩)}:= by
  have e:Tk A i 0=0:= by
    unfold Tk
    rw[if_neg (by omega),h,if_neg (by simp),if_neg (by simp [DD])]
  exact⟨e, by unfold Nu; rw[if_pos e]⟩
theorem S4 {m:Nat} {L L':LvD} {V V':VS} {q:Nat} {x0 x3:Int} (hI:LvI m L V) (hI':LvI m L' V') (hx0:x0=0) (hx3:x3=3) (hp:L'.pres=qab L.pres [112] (3+max 0 (-3)) (G0 L [111] (0+max 0 (-3)) q) q) (hq:max 0 (-3)+(q:Int)=min 1 (256 -3)∨(q=0∧min (1:Int) (256 -3)≤max 0 (-3))) (hne:Za V (L.pres kO)≠zer):
    (Xi L' 0 ([111],x0)=L.pres kO∧Vn L' V' 0 ([111],x0)=false)∧(Xi L' 0 ([112],x3)=L.pres kO∧Vn L' V' 0 ([112],x3)=false)∧L.pres kO≠0:= by
  subst hx0; subst hx3
  have hq1:q=1:= by omega
  subst hq1
  have h0:L.pres kO≠0:= fun e=>hne (by rw[e]; exact Ww hI.zero)
  have e1:G0 L [111] (0+max 0 (-3)) 1=[L.pres kO]:= by
    have e0:max (0:Int) (-3)=0:= by decide
    unfold G0 PR
    rw[e0]
    simp [kO]
  have e2:L'.pres=Z4 L.pres kP (L.pres kO):= by
    rw[hp,e1]
    show Z4 L.pres ([112],3+max 0 (-3)+((0:Nat):Int)) (([L.pres kO]:List Int).getD 0 0)=_
    rfl
  have a1:L'.pres kO=L.pres kO:= by rw[e2];unfold Z4; rw[if_neg (by decide)]
  have a2:L'.pres kP=L.pres kO:= by rw[e2];unfold Z4; rw[if_pos rfl]
  have s1:Xi L' 0 kO=L.pres kO:=(Yg rfl).trans a1
  have s2:Xi L' 0 kP=L.pres kO:=(Yg rfl).trans a2
  have hr:Z5 V' (L.pres kO)≠1:= fun e=> by
    have :=hI'.ref.excl e rfl h0 (show X2 L' (.inl kO)=L.pres kO from a1) (.inl kP) a2
    exact absurd this (by decide)
  refine⟨⟨s1, ?_⟩,⟨s2, ?_⟩,h0⟩
  · show Vn L' V' 0 kO=false
    unfold Vn; rw[s1]; simp [hr]
  · show Vn L' V' 0 kP=false
    unfold Vn; rw[s2]; simp [hr]
theorem Pu {w:World} {b p n m c e:Nat} {A:LvA} {F:Th} (hS:Sat w [Yd b p n m c e A,F]) (hn:n≤600000000) (hm:m<Zv) (a:Int) (hr:0≤a∧a<64):
    Calls Tryz.prog 12 #[ptrV b 0,intV 0,strV [111],intV a] w (Ret fun v w'=>v=XZ (N4 (A.pres kO) a)∧Sat w' [Yd b p n m c e A,F]):= by
  refine(Pr hS hn hm [111] a (by omega)).mono fun ew w h=>h.mono fun v w h=> ?_
  have e1:a/ 64=0:= by omega
  have e2:a%64=a:= by omega
  rw[e1,e2]at h
  exact h
theorem Pt {w:World} {b p n m c e:Nat} {A:LvA} {F:Th} (hS:Sat w [Yd b p n m c e A,F]) (hn:n≤600000000) (hm:m<Zv) {id:Int} {tA:TrA} (ht:A.tr id=some tA) (a:Int) (hr:0≤a∧a<64):
    Calls Tryz.prog 12 #[ptrV b 0,intV id,strV [111],intV a] w (Ret fun v w'=>v=XZ (N4 (Zo A id kO).own a)∧ ∃A',A'=ZG A id kO (rdX (Zo A id kO) a)∧Sat w' [Yd b p (n+2) m c (e+1) A',F]):= by
  refine(Pq hS hn hm ht [111] a (by omega)).mono fun ew w h=>h.mono fun v w h=> ?_
  have e1:a/ 64=0:= by omega
  have e2:a%64=a:= by omega
  rw[e1,e2]at h
  exact⟨h.1,_,rfl,h.2⟩
theorem Mp {w:World} {b p n m c e:Nat} {A:LvA} {F:Th} (hS:Sat w [Yd b p n m c e A,F]) (hn:n≤600000000) (hm:m<Zv) (hc:c+1<256) (a:Int) (hr:0≤a∧a<64) (bt:UInt8):
    Calls Tryz.prog 10 #[ptrV b 0,intV 0,strV [111],intV a,XZ bt] w (Ret fun v w'=>v=intV 0∧ ∃A',A'=wrP A kO a bt∧Sat w' [Yd b p (n+5) m (c+1) (e+1) A',F]):= by
  refine(Pp hS hn hm hc [111] a bt (by omega)).mono fun ew w h=>h.mono fun v w h=> ?_
  have e1:a/ 64=0:= by omega
  have e2:a%64=a:= by omega
  rw[e1,e2]at h
  exact⟨h.1,_,rfl,h.2⟩
theorem Il {w:World} {b p n m c e:Nat} {A:LvA} {F:Th} (hS:Sat w [Yd b p n m c e A,F]) (hn:n≤600000000) (hm:m<Zv) (hc:c+1<256) {id:Int} {tA:TrA} (ht:A.tr id=some tA) (a:Int) (hr:0≤a∧a<64) (bt:UInt8):
    Calls Tryz.prog 10 #[ptrV b 0,intV id,strV [111],intV a,XZ bt] w (Ret fun v w'=>v=intV 0∧ ∃A',A'=ZG A id kO (wrX (Zo A id kO) a bt)∧Sat w' [Yd b p (n+5) m (c+1) (e+1) A',F]):= by
  refine(Po hS hn hm ht hc [111] a bt (by omega)).mono fun ew w h=>h.mono fun v w h=> ?_
  have e1:a/ 64=0:= by omega
  have e2:a%64=a:= by omega
  rw[e1,e2]at h
  exact⟨h.1,_,rfl,h.2⟩
theorem Oe {w:World} {F:Th} (hS:Sat w [F]) (hG:Ent F GT):
    Calls Tryz.prog 8 #[] w (Ret fun v w'=>v= .bool true∧Sat w' [F]):= by
 refine Qr Tryz.func8 rfl Tryz.ntmps8 rfl ?_
 refine Qd (Qa (Qe rfl rfl (Qf (Qc (Qd (Qa (qac cal_9 rfl (NY (hS.sp [] rfl)) rfl ?_)))))))
 rintro _ w1 ⟨b,p,mp,mt,ms,rfl,hS1⟩
 replace hS1:=hS1.jn rfl rfl
 have hz0:=NZ (hS1.pick [0,1,2] rfl)
 refine Qb rfl rfl (Qu rfl rfl rfl (Qu rfl rfl rfl (Qe rfl rfl (Qe rfl rfl (Qf (Qc (Qd (Qd (Qa (Qb rfl rfl (ZP Tryz.underlying24 rfl rfl rfl (Qf (Qc (Xb rfl (Qs (Qc (Qd (Qa (Qb rfl rfl ?_)))))))))))))))))))
 have hC2:=hz0.sp [0] rfl
 refine qac Bi rfl (Mp hC2 (by omega) (by decide) (by omega) 5 (by omega) 7) rfl ?_
 rintro _ w2 ⟨rfl,A1,hA1,hS2⟩
 replace hS2:=hS2.jn rfl rfl; clear hC2
 clear hz0
 have q1:A1.pres kO=p7:= by rw[hA1];unfold wrP; dsimp only; rw[XN];rfl
 have q2: ∀i,A1.tr i=none:= fun i=> by rw[hA1];rfl
 obtain⟨be1,be2⟩:=Nt (i:=1) (by omega) (q2 1)
 refine Qf (Qc (Qi [0,1] rfl (Qd (Qa (Qb rfl rfl (qac F4 rfl (Mo (hS2.sp [0] rfl) (by omega) (by decide) 1 0) rfl ?_))))))
 rintro _ w3 ⟨rfl,hS3⟩
 replace hS3:=hS3.jn rfl rfl
 clear hS2
 rw[be1]
 rw[be2]at hS3
 obtain⟨A2,hA2⟩: ∃A,A=({A1 with tr:=X5 A1.tr 1 (some ⟨0, fun _=>none, fun _=>false⟩)}:LvA):=⟨_,rfl⟩
 rw[←hA2]at hS3
 have f2:Lf1 A2 1 p7 p7 0#64 0#64:=⟨fun _=>none, by rw[hA2]; exact Q7, fun _ _=>rfl,.inl ⟨rfl,rfl,rfl,rfl⟩⟩
 have p2:A2.pres kO=p7:= by rw[hA2]; exact q1
 have o2: ∀i,i≠1→A2.tr i=none:= fun i hi=> by rw[hA2]; exact(QN hi).trans (q2 i)
 obtain⟨t2,ht2⟩:=f2.get
 have to2:=f2.tou p2 (by decide)
 refine Qe rfl rfl (Qf (Qc (Qd (Qa (Qb rfl rfl (qac Bi rfl (Il (hS3.sp [0] rfl) (by omega) (by decide) (by omega) ht2 6 (by omega) 8) rfl ?_))))))
 rintro _ w4 ⟨rfl,A3,hA3,hS4⟩
 replace hS4:=hS4.jn rfl rfl
 clear hS3
 rw[to2]at hA3
 have k3:SmI A3 p7 (p7.set 6 8) 0#64 (1#64<<<6):= by rw[hA3]; exact Of f2 p2 o2
 refine Qf (Qc (Qd (Qa (Qb rfl rfl (qac Bh rfl (Pu (hS4.sp [0] rfl) (by omega) (by decide) 6 (by omega)) rfl ?_)))))
 rintro _ w5 ⟨rfl,hS5⟩
 replace hS5:=hS5.jn rfl rfl
 clear hS4
 rw[k3.pr]
 obtain⟨t3,ht3⟩:=k3.get
 refine Qe rfl rfl (Qf (Qc (Qd (Qa (Qb rfl rfl (qac Bh rfl (Pt (hS5.sp [0] rfl) (by omega) (by decide) ht3 5 (by omega)) rfl ?_))))))
 rintro _ w6 ⟨rfl,A4,hA4,hS6⟩
 replace hS6:=hS6.jn rfl rfl
 clear hS5
 rw[k3.tou]at hA4⊢
 have k4:SmI A4 p7 (p7.set 6 8) (1#64<<<5) (1#64<<<6):= by rw[hA4]; exact k3.put
 refine Qe rfl rfl (Qf (Qc (Qi [0,1,3,4,5] rfl (Qd (Qa (Qb rfl rfl (qac Bi rfl (Mp (hS6.sp [0] rfl) (by omega) (by decide) (by omega) 5 (by omega) 9) rfl ?_)))))))
 rintro _ w7 ⟨rfl,A5,hA5,hS7⟩
 replace hS7:=hS7.jn rfl rfl
 clear hS6
 have k5:=k4.wr 5 9
 rw[←hA5]at k5
 obtain⟨t5,ht5⟩:=k5.get
 refine Qf (Qc (Qd (Qa (Qb rfl rfl (qac Bh rfl (Pt (hS7.sp [0] rfl) (by omega) (by decide) ht5 5 (by omega)) rfl ?_)))))
 rintro _ w8 ⟨rfl,A6,hA6,hS8⟩
 replace hS8:=hS8.jn rfl rfl
 clear hS7
 rw[k5.tou]at hA6⊢
 have k6:SmI A6 (p7.set 5 9) (p7.set 6 8) (1#64<<<5) (1#64<<<6):= by rw[hA6]; exact k5.put
 obtain⟨t6,ht6⟩:=k6.get
 refine Qe rfl rfl (Qf (Qc (Qd (Qa (Qb rfl rfl (qac Nn rfl (RK (hS8.sp [0] rfl) (by omega) (by decide) (hG.starL 0 rfl) ht6) rfl ?_))))))
 rintro _ w9 ⟨r6,rfl,hr6,hS9⟩
 replace hS9:=hS9.jn rfl rfl
 clear hS8
 have hr6f:r6=false:= by cases r6 with | false=>rfl | true=> exact absurd ((k6.lf.valid ht6).1 (hr6.1 rfl) 5 (by decide) (by decide)) (by rw[k6.pr];decide)
 subst hr6f
 refine Qe rfl rfl (Qf (Qc (Qi [0,1,3,4,5,6,7] rfl (Qd (Qa (Qb rfl rfl (qac Bi rfl (Mp (hS9.sp [0] rfl) (by omega) (by decide) (by omega) 5 (by omega) 7) rfl ?_)))))))
 rintro _ w10 ⟨rfl,A7,hA7,hS10⟩
 replace hS10:=hS10.jn rfl rfl
 clear hS9
 have k7:=k6.wr 5 7
 rw[←hA7]at k7
 rw[show((p7.set 5 9).set (5:Int).toNat 7)=p7 by decide]at k7
 obtain⟨t7,ht7⟩:=k7.get
 refine Qf (Qc (Qd (Qa (Qb rfl rfl (qac Nn rfl (RK (hS10.sp [0] rfl) (by omega) (by decide) (hG.starL 0 rfl) ht7) rfl ?_)))))
 rintro _ w11 ⟨r7,rfl,hr7,hS11⟩
 replace hS11:=hS11.jn rfl rfl
 clear hS10
 have hr7t:r7=true:=hr7.2 ((k7.lf.valid ht7).2 fun j _ _=> by rw[k7.pr])
 subst hr7t
 have pa7:=k7.lf.parent ht7
 have un7: ∀i u,A7.tr i=some u→i=1:= fun i u hu=>Classical.byContradiction fun q=> by rw[k7.ot i q]at hu; cases hu
 refine Qe rfl rfl (Qf (Qc (Qi [0,1,3,4,5,6,7,8] rfl (Qd (Qa (Qb rfl rfl ?_))))))
 refine qac Np rfl (BY (d:=0) (q:=1) (hS11.sp [0] rfl) (by omega) (by decide) (by omega) (by omega) ht7 pa7.1 (fun i u hu=> by have e:=un7 i u hu; subst e; rw[ht7]at hu; cases hu; rw[pa7.1];decide) (dr_none fun i t ht=> by have e:=un7 i t ht; subst e; exact(k7.lf.parent ht).2) (Ae pa7.2) (OL (k7.lf.part ht7)) (by omega)) rfl ?_
 rintro _ w12 ⟨rfl,hS12⟩
 replace hS12:=hS12.jn rfl rfl
 clear hS11
 have k8:=k7.lf.com ht7 (by rw[k7.pr];decide)
 rw[k7.pr]at k8
 obtain⟨A8,hA8⟩: ∃A,A=(⟨ME A7 t7,X5 A7.tr 1 none⟩:LvA):=⟨_,rfl⟩
 rw[←hA8]at hS12
 have k9:A8.pres kO=RI p7 (p7.set 6 8) (1#64<<<6):= by rw[hA8]; exact k8
 refine Qe rfl rfl (Qf (Qc (Qd (Qa (Qb rfl rfl (qac Bh rfl (Pu (hS12.sp [0] rfl) (by omega) (by decide) 6 (by omega)) rfl ?_))))))
 rintro _ w13 ⟨rfl,hS13⟩
 replace hS13:=hS13.jn rfl rfl
 clear hS12
 rw[k9]
 refine Qe rfl rfl (Qf (Qc (Qi [0,1,3,4,5,6,7,8,9,10] rfl (Qd ?_))))
 obtain⟨L,V,⟨g1,g2,g3,g4,g5⟩,hz1⟩:=ZN (hS13.pick [0,1] rfl)
 refine Qa (Qb rfl rfl ?_)
 have hC14:=hz1.sp [0,1] rfl
 refine qac Fv rfl (PT hC14 (by omega) g2 (by decide) [111] [112] 0 1 3 (by omega) (by omega) (by omega)) rfl ?_
 rintro _ w14 ⟨L2,V2,q,hq1,hq2,hq3,hq4,hS14⟩
 replace hS14:=hS14.jn rfl rfl; clear hC14
 clear hz1
 have hne:Za V (L.pres kO)≠zer:= by intro hh; have h8:=k9; rw[←g3]at h8; have h9:Za V (L.pres kO)=RI p7 (p7.set 6 8) (1#64<<<6):=h8; rw[hh]at h9; exact absurd h9 (by decide)
 obtain⟨⟨y1,y2⟩,⟨y3,y4⟩,y5⟩:=S4 (x0:=0) (x3:=3) g2 hq1.inv rfl rfl hq2 hq4 hne
 refine Qf (Qc (Qd (Qa (Qb rfl rfl (qac Fy rfl (GI (hS14.sp [0,1] rfl) (hq1.inv.rank.ends (by decide)) [111] 0 (by simp [WZ,ZE])) rfl ?_)))))
 rintro _ w15 ⟨rfl,hS15⟩
 replace hS15:=hS15.jn rfl rfl
 clear hS14
 rw[y1,y2]
 refine Qb rfl rfl (Qu rfl rfl rfl (Qu rfl rfl rfl (Qe rfl rfl (Qe rfl rfl (Qf (Qc (Qi [0,1,3,4,5,6,7,8,9,10,11,12] rfl (Qd (Qa (Qb rfl rfl (qac Fy rfl (GI (hS15.sp [0,1] rfl) (hq1.inv.rank.ends (by decide)) [112] 3 (by simp [WZ,ZE])) rfl ?_)))))))))))
 rintro _ w16 ⟨rfl,hS16⟩
 replace hS16:=hS16.jn rfl rfl
 clear hS15
 rw[y3,y4]
 refine Qb rfl rfl (Qu rfl rfl rfl (Qu rfl rfl rfl (Qe rfl rfl (Qe rfl rfl (Qf (Qc (Qi [0,3,4,5,6,7,8,9,10,11,12,13,14] rfl (Qd (Qa (Qb rfl rfl (Xd rfl rfl rfl (Qb rfl rfl (QR 59 rfl (fun h17=> ?_) (fun h17=> ?_))))))))))))))
 ·refine Qj rfl rfl (Xc h17) (Qb rfl rfl (Qj rfl rfl (Xc h17) (Xd rfl rfl rfl (QI rfl (Xc h17) rfl rfl (Qb rfl rfl (QR 63 rfl (fun h18=> ?_) (fun h18=> ?_)))))))
  ·refine Qj rfl rfl (Xc h18) (Qb rfl rfl (Qj rfl rfl (Xc h18) (Xd rfl rfl rfl (QI rfl (Xc h18) rfl rfl (Qb rfl rfl (QR 67 rfl (fun h19=> ?_) (fun h19=> ?_)))))))
   ·refine Qj rfl rfl (Xc h19) (Qb rfl rfl (Qj rfl rfl (Xc h19) (Xd rfl rfl rfl (QI rfl (Xc h19) rfl rfl (Qb rfl rfl (QR 71 rfl (fun h20=> ?_) (fun h20=> ?_)))))))
    ·refine Qj rfl rfl (Xc h20) (Qb rfl rfl (Qj rfl rfl (Xc h20) (QX rfl rfl (QI rfl (Xc h20) rfl rfl (Qb rfl rfl (Zn 75 rfl (fun h21=> ?_) (fun h21=> ?_)))))))
     ·refine Qj rfl rfl h21 (Qb rfl rfl (QI rfl h21 rfl rfl (Qb rfl rfl (Zn 78 rfl (fun h22=> ?_) (fun h22=> ?_)))))
      ·refine Qj rfl rfl h22 (Qb rfl rfl (Qj rfl rfl h22 (Xd rfl rfl rfl (QI rfl h22 rfl rfl (Qb rfl rfl (QR 82 rfl (fun h23=> ?_) (fun h23=> ?_)))))))
       ·refine Qj rfl rfl (Xc h23) (Qb rfl rfl (Qj rfl rfl (Xc h23) (Xd rfl rfl rfl (QI rfl (Xc h23) rfl rfl (Qb rfl rfl (QR 86 rfl (fun h24=> ?_) (fun h24=> ?_)))))))
        ·refine Qj rfl rfl (Xc h24) (Qb rfl rfl (Qj rfl rfl (Xc h24) (Qb rfl rfl (Qj rfl rfl (Xc h24) (Xd rfl rfl rfl (QI rfl (Xc h24) rfl rfl (Qb rfl rfl (QR 91 rfl (fun h25=> ?_) (fun h25=> ?_)))))))))
         ·refine Qj rfl rfl (Xc h25) (Qb rfl rfl (Qj rfl rfl (Xc h25) (X6 rfl rfl rfl (QI rfl (Xc h25) rfl rfl (Qb rfl rfl (QR 95 rfl (fun h26=> ?_) (fun h26=> ?_)))))))
          ·refine Qj rfl rfl (Xc h26) (Qb rfl rfl (Qj rfl rfl (Xc h26) (QX rfl rfl (QI rfl (Xc h26) rfl rfl (Qb rfl rfl (Zn 99 rfl (fun h27=> ?_) (fun h27=> ?_)))))))
           ·refine Qj rfl rfl h27 (Qb rfl rfl (Qj rfl rfl h27 (QX rfl rfl (QI rfl h27 rfl rfl (Qe rfl rfl (Qf (Qc (Qi [0] rfl (Qw (QW (.inr rfl) rfl rfl ?_))))))))))
            exact⟨_,rfl, by rfl,hS16.pick [2] rfl⟩
           exact absurd h27 (by decide)
          exact absurd y5 h26
         exact absurd rfl h25
        exact absurd (by decide) h24
       exact absurd (by decide) h23
      exact absurd h22 (by decide)
     exact absurd h21 (by decide)
    exact absurd (by decide) h20
   exact absurd (by decide) h19
  exact absurd (by decide) h18
 exact absurd (by decide) h17
section
variable {w:World} {p:Nat} {W:WS} {LL:WL} {Lo:List (Bs×Nat)} {F:Th} {n:Bs} {m im:Nat} {O':Bs→Int→Option Bs}
theorem UC (hI:PagesOk O') (L':List (Bs×Nat)) (hO:ObjL L' O') (h:Sat w [Q8 Xw LL.bo (X9 L'),starL (L'.map (Wt O')),QK p (Wl LL W.time),Q8 Xw LL.bc (XC W.cells),Q8 Xw LL.bl (XC W.logs),F]):Sat w [Xo p {W with objs:=O'},F]:= by
  have h1:=Mj L' hO h
  exact Bp (W:={W with objs:=O'}) LL hI (h1.reorder [1,2,0,3,4] rfl)
theorem WW (hI:PagesOk W.objs) (hO:ObjL Lo W.objs) (h:Sat w [Q8 Xw LL.bo (X9 Lo),starL (Lo.map (Wt W.objs)),QK p (Wl LL W.time),Q8 Xw LL.bc (XC W.cells),Q8 Xw LL.bl (XC W.logs),F]):Sat w [Xo p W,F]:=UC (W:=W) hI Lo hO h
theorem Dy (hI:PagesOk O') (hN:(Lo.map (·.1)).Nodup) (hO:ObjL Lo O') (him:Lo[im]? =some (n,m)) (ho: ∀k,k≠n→O' k=W.objs k) (h:Sat w [Q8 Xl m (ZZ (O' n)),starL ((Lo.map (Wt W.objs)).eraseIdx im),Q8 Xw LL.bo (X9 Lo),QK p (Wl LL W.time),Q8 Xw LL.bc (XC W.cells),Q8 Xw LL.bl (XC W.logs),F]):Sat w [Xo p {W with objs:=O'},F]:= by
  rw[NG hN him ho]at h
  have h1:=MO (MP (i:=0) h) (TG (x:=(n,m)) him (Wt O'))
  exact UC hI Lo hO (h1.perm (List.Perm.swap _ _ _))
theorem HL (hI:PagesOk W.objs) (hO:ObjL Lo W.objs) (him:Lo[im]? =some (n,m)) (h:Sat w [Q8 Xl m (ZZ (W.objs n)),starL ((Lo.map (Wt W.objs)).eraseIdx im),Q8 Xw LL.bo (X9 Lo),QK p (Wl LL W.time),Q8 Xw LL.bc (XC W.cells),Q8 Xw LL.bl (XC W.logs),F]):Sat w [Xo p W,F]:=
  Dy (W:=W) hI hO.nodup hO him (fun _ _=>rfl) h
theorem B0 (b:Nat):upd (X9 Lo) n (some (.map (some b)))=X9 ((n,b)::Lo):= by
  funext k
  unfold X9
  rw[Vc]
  by_cases h:k=n
  · subst h; rw[ZB]; simp
  · rw[WH h]; simp [h]
theorem SG (hN:(Lo.map (·.1)).Nodup) (him:Lo[im]? =some (n,m)):upd (X9 Lo) n none=X9 (Lo.eraseIdx im):= by
  funext k
  unfold X9
  rw[VT hN him]
  by_cases h:k=n
  · subst h; rw[ZB]; simp
  · rw[WH h]; simp [h]
theorem Bz (h:J0 Lo n=none):upd (X9 Lo) n none=X9 Lo:= by
  funext k
  by_cases hk:k=n
  · subst hk; rw[ZB]; simp [X9,h]
  · rw[WH hk]
theorem So {b:Nat} (hI:PagesOk O') (hO:ObjL Lo W.objs) (hq:J0 Lo n=none) (hn: ∃q,O' n q≠none) (ho: ∀k,k≠n→O' k=W.objs k) (h:Sat w [Q8 Xl b (ZZ (O' n)),Q8 Xw LL.bo (upd (X9 Lo) n (some (.map (some b)))),starL (Lo.map (Wt W.objs)),QK p (Wl LL W.time),Q8 Xw LL.bc (XC W.cells),Q8 Xw LL.bl (XC W.logs),F]):Sat w [Xo p {W with objs:=O'},F]:= by
  rw[B0]at h
  have hnm:=Wy.1 hq
  have e:Lo.map (Wt W.objs)=Lo.map (Wt O'):= by
    apply List.map_congr_left
    intro x hx
    unfold Wt; rw[ho]
    rintro rfl; exact hnm (List.mem_map.2 ⟨x,hx,rfl⟩)
  rw[e]at h
  have h1:=h.reorder [0,2,1,3,4,5,6] rfl; dsimp only[Qv,Q1]at h1
  have h2:Sat w (starL (((n,b)::Lo).map (Wt O'))::_):=MP (i:=0) h1
  refine UC hI ((n,b)::Lo) ⟨?_, fun k=> ?_⟩ (h2.perm (List.Perm.swap _ _ _))
  · exact List.nodup_cons.2 ⟨hnm,hO.nodup⟩
  · by_cases hk:k=n
    · subst hk; simp [hn]
    · rw[ho k hk,←hO.has k]; simp [hk]
theorem Tl (hI:PagesOk O') (hO:ObjL Lo W.objs) (him:Lo[im]? =some (n,m)) (hn: ∀q,O' n q=none) (ho: ∀k,k≠n→O' k=W.objs k) (h:Sat w [starL ((Lo.map (Wt W.objs)).eraseIdx im),Q8 Xw LL.bo (upd (X9 Lo) n none),QK p (Wl LL W.time),Q8 Xw LL.bc (XC W.cells),Q8 Xw LL.bl (XC W.logs),F]):Sat w [Xo p {W with objs:=O'},F]:= by
  rw[NG hO.nodup him ho,SG hO.nodup him]at h
  refine UC hI (Lo.eraseIdx im) ⟨hO.nodup.sublist ((List.eraseIdx_sublist Lo im).map _), fun k=> ?_⟩ (h.perm (List.Perm.swap _ _ _))
  have hmem:k∈(Lo.eraseIdx im).map (·.1)↔k∈Lo.map (·.1)∧k≠n:= by
    have h1:=VT hO.nodup him k
    constructor
    · intro hk
      have h2:J0 (Lo.eraseIdx im) k≠none:= fun q=>Wy.1 q hk
      rw[h1]at h2
      by_cases hkn:k=n
      · simp [hkn]at h2
      · rw[if_neg hkn]at h2
        exact⟨Decidable.not_not.1 fun q=>h2 (Wy.2 q),hkn⟩
    · rintro⟨hk,hkn⟩
      refine Decidable.not_not.1 fun q=> ?_
      rw[Wy.2 q,if_neg hkn]at h1
      exact Wy.1 h1.symm hk
  rw[hmem,hO.has]
  by_cases hkn:k=n
  · subst hkn; simp [hn]
  · rw[ho k hkn]; simp [hkn]
theorem H9 (hO:ObjL Lo W.objs) (hq:J0 Lo n=none) (q:Int):W.objs n q=none:= by
  refine Decidable.not_not.1 fun h=>Wy.1 hq ((hO.has n).2 ⟨q,h⟩)
theorem RB (hO:ObjL Lo W.objs) (him:Lo[im]? =some (n,m)): ∃q,W.objs n q≠none:=(hO.has n).1 (List.mem_map.2 ⟨(n,m),List.mem_of_getElem? him,rfl⟩)
end
theorem FP {s:Bs} (hs:s.length=64) {j:Nat} (hj:j<64):((s.map XZ).toArray)[j]? =some (XZ (s.getD j 0)):= by
  have h:s[j]? =some s[j]:=Zj (by omega)
  simp [List.getD,h]
def XI (W:WS) (n:Bs) (q:Int):Bs:=W7 (W.objs n q)
theorem Mf {W:WS} {n:Bs} (h: ∀q,W.objs n q=none) (q:Int):XI W n q=ZW:= by simp [XI,W7,h]
theorem Jg:Zf Tryz.prog 167=some (some (WN ZW)):= by kernel_rfl
theorem Nq {w:World} {p:Nat} {W:WS} {F:Th} (hS:Sat w [Xo p W,F]) (nm:Bs) (i:Int):
    Calls Tryz.prog 94 #[ptrV p 0,strV nm,intV i] w (Ret fun v w'=>v=XZ (HI W nm i)∧Sat w' [Xo p W,F]):= by
 refine Qr Tryz.func94 rfl Tryz.ntmps94 rfl ?_
 refine Qd (Qa (Qe rfl rfl (Qf (Qc (Qd (Qd (Qa (Qb rfl rfl (qac Lv rfl (ND (hS.sp [] rfl) i) rfl ?_)))))))))
 rintro _ w1 ⟨rfl,hS1⟩
 replace hS1:=hS1.jn rfl rfl
 refine QX rfl rfl (Qf (Qc (QQ rfl (fun h2=> ?_) (fun h2=> ?_))))
 ·have hv: ¬(0≤i∧i<16384):= by have hq:=h2; simp at hq;omega
  refine Qd (Qa (Qe rfl rfl (Qf (Qc (Qw (Qo (QW (.inr rfl) rfl rfl ?_)))))))
  exact⟨_,rfl, by rw[HI,if_neg (by simp_all)];rfl,hS1⟩
 have hv:0≤i∧i<16384:= by simpa using h2
 refine Qs (Qc (Qd ?_))
 have hS:=hS1
 obtain⟨LL,hI,hS⟩:=WA hS
 obtain⟨Lo,hO,hS⟩:=J8 (hS.pull 2 rfl); dsimp only[List.eraseIdx]at hS
 refine Qa (Qb rfl rfl (Qk rfl rfl (Qg rfl Jj rfl (Qp rfl Ye (hS.cell 2 rfl rfl) rfl (Qb rfl rfl ?_)))))
 rcases hq:J0 Lo nm with _ | m
 ·have hno:=H9 hO hq
  refine X8 (k:=nm) 0 hS keysStr Tryz.underlying156 rfl rfl rfl Ue (u:= .map none) (by simp [X9,hq]) rfl ?_
  refine Qb rfl rfl (G6 rfl rfl (by omega) (by omega) (by omega) rfl ?_)
  refine UD (k:=(i/ 64)) keysInt Tryz.underlying164 Jg rfl rfl rfl ?_
  rw[←Mf hno (i/ 64)]
  refine Qb rfl rfl (G5 rfl rfl (by omega) (by omega) rfl ?_)
  refine To (i%64).toNat Tryz.underlying167 UJ ag_5 (by omega) (by omega) (cs:=((XI W nm (i/ 64)).map XZ).toArray) (v:=XZ ((XI W nm (i/ 64)).getD (i%64).toNat 0)) (FP (hI.len nm (i/ 64)) (by omega)) rfl rfl rfl ?_
  refine Qe rfl rfl (Qf (Qc (Qi [6] rfl (Qw (QW (.inr rfl) rfl rfl ?_)))))
  exact⟨_,rfl, by rw[HI,if_pos (by simp_all)];rfl,WW hI hO (hS.reorder [0,1,2,3,4,5] rfl)⟩
 obtain⟨im,him⟩:=YI hq
 refine X8 (k:=nm) 0 hS keysStr Tryz.underlying156 rfl rfl rfl Ue (u:= .map (some m)) (by simp [X9,hq]) rfl ?_
 have hS3:=HY (i:=im) (A:=Wt W.objs (nm,m)) (hS.pull 1 rfl) (by simp [him]); dsimp only[List.eraseIdx,Wt]at hS3
 refine Qb rfl rfl (G6 rfl rfl (by omega) (by omega) (by omega) rfl ?_)
 refine X8 (k:=(i/ 64)) 0 hS3 keysInt Tryz.underlying164 rfl rfl rfl Jg (u:=WN (XI W nm (i/ 64))) (UQ _ _) rfl (Qb rfl rfl (G5 rfl rfl (by omega) (by omega) rfl ?_))
 refine To (i%64).toNat Tryz.underlying167 UJ ag_5 (by omega) (by omega) (cs:=((XI W nm (i/ 64)).map XZ).toArray) (v:=XZ ((XI W nm (i/ 64)).getD (i%64).toNat 0)) (FP (hI.len nm (i/ 64)) (by omega)) rfl rfl rfl ?_
 refine Qe rfl rfl (Qf (Qc (Qi [6] rfl (Qw (QW (.inr rfl) rfl rfl ?_)))))
 exact⟨_,rfl, by rw[HI,if_pos (by simp_all)];rfl,HL hI hO him (hS3.reorder [0,1,2,3,4,5,6] rfl)⟩
def GJ (W:WS) (n:Bs) (q:Int) (s:Bs):WS:={W with objs:=KP W.objs n q s}
theorem BQ {O:Bs→Int→Option Bs} {n:Bs} {q:Int} {s:Bs}: ∀k,k≠n→KP O n q s k=O k:= by
  intro k hk;funext j; simp [KP,hk]
theorem KV {O:Bs→Int→Option Bs} {n:Bs} {q:Int} {s:Bs}:ZZ (KP O n q s n)=upd (ZZ (O n)) q (if s=ZW then none else some (WN s)):= by
  funext j
  by_cases hj:j=q
  · subst hj; rw[ZB];by_cases hs:s=ZW<;> simp [ZZ,KP,hs]
  · rw[WH hj]; simp [ZZ,KP,hj]
theorem Vz {O:Bs→Int→Option Bs} {n:Bs} {q:Int} (h: ∀q,O n q=none):KP O n q ZW=O:= by
  funext k j
  unfold KP
  split
  · rename_i hc; rw[hc.1,h]; simp
  · rfl
theorem WU {o:Int→Option Bs} {j:Int}:ZZ o j=none↔o j=none:= by unfold ZZ; cases o j<;> simp
theorem Ow {w:World} {p:Nat} {W:WS} {LL:WL} {Lo:List (Bs×Nat)} {F:Th} {n:Bs} {m im:Nat} {q:Int} {s:Bs} (hI:PagesOk W.objs) (hO:ObjL Lo W.objs) (him:Lo[im]? =some (n,m)) (hs:s=ZW) (hq:0≤q∧q<256)
    (hc:Card (upd (ZZ (W.objs n)) q none) 0) (h:Sat w [starL ((Lo.map (Wt W.objs)).eraseIdx im),Q8 Xw LL.bo (upd (X9 Lo) n none),QK p (Wl LL W.time),Q8 Xw LL.bc (XC W.cells),Q8 Xw LL.bl (XC W.logs),F]):Sat w [Xo p (GJ W n q s),F]:= by
  subst hs
  refine Tl (hI.set (by rfl) hq) hO him (fun j=> ?_) BQ h
  have h1:=hc.zero.1 rfl j
  have e:=KV (O:=W.objs) (n:=n) (q:=q) (s:=ZW)
  rw[if_pos rfl]at e
  rw[←e]at h1
  exact WU.1 h1
theorem T5 {w:World} {p:Nat} {W:WS} {LL:WL} {Lo:List (Bs×Nat)} {F:Th} {n:Bs} {m im:Nat} {q:Int} {s:Bs} {g:Option Value} (hI:PagesOk W.objs) (hO:ObjL Lo W.objs) (him:Lo[im]? =some (n,m)) (hl:s.length=64) (hq:0≤q∧q<256) (hg:g= if s=ZW then none else some (WN s))
    (hne: ∃j,upd (ZZ (W.objs n)) q g j≠none) (h:Sat w [Q8 Xl m (upd (ZZ (W.objs n)) q g),starL ((Lo.map (Wt W.objs)).eraseIdx im),Q8 Xw LL.bo (X9 Lo),QK p (Wl LL W.time),Q8 Xw LL.bc (XC W.cells),Q8 Xw LL.bl (XC W.logs),F]):Sat w [Xo p (GJ W n q s),F]:= by
  subst hg
  rw[←KV]at h hne
  refine Dy (O':=KP W.objs n q s) (hI.set hl hq) hO.nodup ⟨hO.nodup, fun k=> ?_⟩ him BQ h
  by_cases hk:k=n
  · subst hk
    obtain⟨j,hj⟩:=hne
    have h1:=(hO.has k).2 (RB hO him)
    exact⟨fun _=>⟨j, fun e=>hj (WU.2 e)⟩, fun _=>h1⟩
  · rw[BQ k hk]; exact hO.has k
theorem Ek {w:World} {p:Nat} {W:WS} {LL:WL} {Lo:List (Bs×Nat)} {F:Th} {n:Bs} {b:Nat} {q:Int} {s:Bs} (hI:PagesOk W.objs) (hO:ObjL Lo W.objs) (hno:J0 Lo n=none) (hl:s.length=64) (hq:0≤q∧q<256) (hz:s≠ZW)
    (h:Sat w [Q8 Xl b (upd (fun _=>none) q (some (WN s))),Q8 Xw LL.bo (upd (X9 Lo) n (some (.map (some b)))),starL (Lo.map (Wt W.objs)),QK p (Wl LL W.time),Q8 Xw LL.bc (XC W.cells),Q8 Xw LL.bl (XC W.logs),F]):Sat w [Xo p (GJ W n q s),F]:= by
  have e:upd (fun _=>none) q (some (WN s))=ZZ (KP W.objs n q s n):= by
    rw[KV,if_neg hz]
    congr 1
    funext j; exact(WU.2 (H9 hO hno j)).symm
  rw[e]at h
  refine So (hI.set hl hq) hO hno ⟨q, ?_⟩ BQ h
  simp [KP,hz]
theorem TY:Tryz.prog.eqGuardType Tryz.prog.depth 167=false:= by kernel_rfl
theorem Ct {w:World} {p:Nat} {W:WS} {F:Th} (hS:Sat w [Xo p W,F]) (nm:Bs) (q:Int) (s:Bs) (hk:nm.length≤281474976710656) (hl:s.length=64) (hqb:0≤q∧q<256):
    Calls Tryz.prog 146 #[ptrV p 0,strV nm,intV q,WN s] w (Ret fun v w'=>v= .tuple #[]∧Sat w' [Xo p (GJ W nm q s),F]):= by
 obtain⟨LL,hI,hS⟩:=WA hS
 obtain⟨Lo,hO,hS⟩:=J8 (hS.pull 2 rfl); dsimp only[List.eraseIdx]at hS
 refine Qr Tryz.func146 rfl Tryz.ntmps146 rfl ?_
 refine Qd (Qa (Zb hS rfl rfl rfl ?_))
 intro b1 w1 hS1
 refine Qf (Qc (Qd (Qa (Qb rfl rfl (Qk rfl rfl (Qg rfl Jj rfl (Qp rfl Ye (hS1.cell 3 rfl rfl) rfl (Qb rfl rfl ?_))))))))
 rcases hq:J0 Lo nm with _ | m
 ·have hno:=H9 hO hq
  refine X8 (k:=nm) 1 hS1 keysStr Tryz.underlying156 rfl rfl rfl Ue (u:= .map none) (by simp [X9,hq]) rfl ?_
  refine Qe rfl rfl (Qf (Qc (Qi [2,1,0,7,8] rfl (Qd (Qd (Qa ?_))))))
  refine XF (cs:=(WN s).cells.toList) rfl Bm UK (hS1.blk 0 rfl) (by simp [WN,Value.cells,hl]) (vs:=s.map XZ) (by simp only[WN,Value.cells,List.drop_zero]; exact List.take_of_length_le (by simp [hl])) rfl ?_
  refine Tr Tryz.underlying167 UJ Jg rfl (Tp s ZW Tryz.underlying167 Tryz.underlying5 UJ ag_5 TY hl rfl rfl rfl rfl (Qf (Qc (Qt rfl (fun h3=> ?_) (fun h3=> ?_)))))
  ·have hz:s=ZW:=h3
   refine Qd (Qa (Qb rfl rfl (Qb rfl rfl (Co (k:=q) keysInt Tryz.underlying164 rfl rfl rfl (Qf (Qc (Qd (Qd (Qa (Qb rfl rfl (NB Tryz.underlying164 rfl rfl (Xd rfl rfl rfl (Qf (Qc (Qi [2,1,0,7,8,22] rfl (Qt rfl (fun h4=> ?_) (fun h4=> ?_)))))))))))))))))
   ·refine Qa (Qb rfl rfl (Qk rfl rfl (Qg rfl Jj rfl (Qp rfl Ye (hS1.cell 3 rfl rfl) rfl (Qb rfl rfl (Jn (k:=nm) 1 hS1 keysStr Tryz.underlying156 rfl rfl rfl rfl ?_))))))
    intro w5 hS5; dsimp only[List.set]at hS5
    clear hS1
    refine Qf (Qc (Qi [2,1,0,7,8] rfl (Qw (Qo (ZH (.inr rfl) rfl ?_)))))
    rw[show upd (X9 Lo) nm none=X9 Lo from Bz hq]at hS5
    exact⟨_,rfl,rfl, by rw[show GJ W nm q s=W by rw[GJ,hz,Vz hno]]; exact WW hI hO (hS5.pick [1,2,3,4,5,6] rfl)⟩
   refine Qs (Qc (Qw (Qo (ZH (.inr rfl) rfl ?_))))
   exact⟨_,rfl,rfl, by rw[show GJ W nm q s=W by rw[GJ,hz,Vz hno]]; exact WW hI hO (hS1.pick [1,2,3,4,5,6] rfl)⟩
  have hz:s≠ZW:=h3
  refine Qs (Qc (Qd (Qd (Qa (Qb rfl rfl (Vh Tryz.underlying164 rfl rfl rfl (Qf (Qc (Xy rfl (Qd (Qa (Zg Xl hS1 rfl ?_))))))))))))
  intro b6 w6 hS6
  clear hS1
  refine Qe rfl rfl (Qf (Qc (Qi [2,1,0,7,8] rfl ?_)))
  have hS7:=hS6.drew
  refine QO [0,1,2,3,4,6,5,7] [5,7] Wu (by kernel_rfl) ?_
  refine QJ rfl rfl rfl (Xr rfl rfl rfl (QZ rfl rfl rfl Jj (QH rfl rfl rfl (Qn rfl Ye (hS7.cell 4 rfl rfl)) (QJ rfl rfl rfl (QJ rfl rfl rfl (Xp rfl rfl rfl rfl rfl rfl (qac Fp rfl (MF (hS7.sp [] rfl) nm hk) rfl ?_)))))))
  rintro _ w8 ⟨rfl,hS8⟩
  replace hS8:=hS8.jn rfl rfl
  clear hS7
  refine XB (.cons (.inl ⟨rfl,(Qn rfl Ye (hS8.cell 4 rfl rfl))⟩) .nil) (Xp rfl rfl rfl rfl rfl rfl (Xq (k:=nm) 2 hS8 keysStr Tryz.underlying156 rfl rfl rfl rfl ?_))
  intro w9 hS9; dsimp only[List.set]at hS9
  clear hS8
  refine Z3 (Xx (by kernel_rfl)) ?_
  refine VC.nil (Qc (Qi [2,7,8] rfl (Qa (Qb rfl rfl (Qb rfl rfl ?_)))))
  refine XF (cs:=(WN s).cells.toList) rfl Bm UK (hS9.blk 1 rfl) (by simp [WN,Value.cells,hl]) (vs:=s.map XZ) (by simp only[WN,Value.cells,List.drop_zero]; exact List.take_of_length_le (by simp [hl])) rfl ?_
  refine Xq (k:=q) 0 hS9 keysInt Tryz.underlying164 rfl rfl rfl rfl ?_
  intro w10 hS10; dsimp only[List.set]at hS10
  clear hS9
  exact Qf (ZH (.inl rfl) rfl (⟨_,rfl,rfl,Ek hI hO hq hl hqb hz (hS10.pick [0,2,3,4,5,6,7] rfl)⟩))
 obtain⟨im,him⟩:=YI hq
 refine X8 (k:=nm) 1 hS1 keysStr Tryz.underlying156 rfl rfl rfl Ue (u:= .map (some m)) (by simp [X9,hq]) rfl ?_
 have hS2:=HY (i:=im) (A:=Wt W.objs (nm,m)) (hS1.pull 2 rfl) (by simp [him]); dsimp only[List.eraseIdx,Wt]at hS2
 clear hS1
 refine Qe rfl rfl (Qf (Qc (Qi [2,1,0,7,8] rfl (Qd (Qd (Qa ?_))))))
 refine XF (cs:=(WN s).cells.toList) rfl Bm UK (hS2.blk 2 rfl) (by simp [WN,Value.cells,hl]) (vs:=s.map XZ) (by simp only[WN,Value.cells,List.drop_zero]; exact List.take_of_length_le (by simp [hl])) rfl ?_
 refine Tr Tryz.underlying167 UJ Jg rfl (Tp s ZW Tryz.underlying167 Tryz.underlying5 UJ ag_5 TY hl rfl rfl rfl rfl (Qf (Qc (Qt rfl (fun h11=> ?_) (fun h11=> ?_)))))
 ·have hz:s=ZW:=h11
  refine Qd (Qa (Qb rfl rfl (Qb rfl rfl (Jn (k:=q) 0 hS2 keysInt Tryz.underlying164 rfl rfl rfl rfl ?_))))
  intro w12 hS12; dsimp only[List.set]at hS12
  clear hS2
  refine Qf (Qc (Qd (Qd (Qa (Qb rfl rfl (FE 0 hS12 Tryz.underlying164 keysInt.inj rfl rfl rfl ?_))))))
  intro cn hcn
  refine Xd rfl rfl rfl (Qf (Qc (Qi [2,1,0,7,8,22] rfl (Qt rfl (fun h13=> ?_) (fun h13=> ?_)))))
  ·refine Qa (Qb rfl rfl (Qk rfl rfl (Qg rfl Jj rfl (Qp rfl Ye (hS12.cell 4 rfl rfl) rfl (Qb rfl rfl (Jn (k:=nm) 3 hS12 keysStr Tryz.underlying156 rfl rfl rfl rfl ?_))))))
   intro w14 hS14; dsimp only[List.set]at hS14
   clear hS12
   refine Qf (Qc (Qi [2,1,0,7,8] rfl (Qw (Qo (ZH (.inr rfl) rfl ?_)))))
   have hc0:cn=0:= by omega
   subst hc0
   exact⟨_,rfl,rfl,Ow hI hO him hz hqb hcn (hS14.pick [1,3,4,5,6,7] rfl)⟩
  refine Qs (Qc (Qw (Qo (ZH (.inr rfl) rfl ?_))))
  have hex: ∃j,upd (ZZ (W.objs nm)) q none j≠none:=Classical.byContradiction fun hh=>absurd (hcn.zero.2 fun k=>Classical.byContradiction fun q1=>hh ⟨k,q1⟩) (by omega)
  exact⟨_,rfl,rfl,T5 hI hO him hl hqb (by rw[if_pos hz]) hex (hS12.pick [0,1,3,4,5,6,7] rfl)⟩
 have hz:s≠ZW:=h11
 refine Qs (Qc (Qd (Qd (Qa (Qb rfl rfl (UE Tryz.underlying164 rfl rfl rfl (Qf (Qc (Xb rfl (Qs (Qc (Qa (Qb rfl rfl (Qb rfl rfl ?_))))))))))))))
 refine XF (cs:=(WN s).cells.toList) rfl Bm UK (hS2.blk 2 rfl) (by simp [WN,Value.cells,hl]) (vs:=s.map XZ) (by simp only[WN,Value.cells,List.drop_zero]; exact List.take_of_length_le (by simp [hl])) rfl ?_
 refine Xq (k:=q) 0 hS2 keysInt Tryz.underlying164 rfl rfl rfl rfl ?_
 intro w15 hS15; dsimp only[List.set]at hS15
 clear hS2
 refine Qf (ZH (.inl rfl) rfl ?_)
 exact⟨_,rfl,rfl,T5 hI hO him hl hqb (by rw[if_neg hz];rfl) ⟨q, by rw[ZB]; simp⟩ (hS15.pick [0,1,3,4,5,6,7] rfl)⟩
end Go.Proofs.YtkcjfoaejijdoaaGreatDoor
