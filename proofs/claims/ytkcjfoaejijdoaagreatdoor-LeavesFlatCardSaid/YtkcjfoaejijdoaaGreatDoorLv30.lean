/- laws of leaves: small -/
import Derived.Test.YtkcjfoaejijdoaaGreatDoorLv35
import Derived.Test.YtkcjfoaejijdoaaGreatDoorWa
import Derived.Test.YtkcjfoaejijdoaaGreatDoorFw
set_option linter.unusedVariables false
set_option maxRecDepth 100000
set_option maxHeartbeats 1600000
namespace Go.Proofs.YtkcjfoaejijdoaaGreatDoor
open Go.RowKit M
set_option linter.unusedSectionVars false
variable [Inhabited SlW]
def kO:KD:=([111],0)
theorem sees_nzero {A:LvA} {k:KD} {n:Nat}:J1 A (n+1) 0 k=A.pres k:= by rw[J1,if_pos rfl]
def Lf1 (A:LvA) (i:Int) (page own:Bs) (r w:BitVec 64):Prop:= ∃lv,A.tr i=some ⟨0,lv, fun _=>false⟩∧(∀k,k≠kO→lv k=none)∧((lv kO=none∧r=0#64∧w=0#64∧own=page)∨lv kO=some ⟨page,own,r,w⟩)
section
variable {A:LvA} {i j:Int} {page own own' o1 o2:Bs} {r w r' w' r1 w1 r2 w2 x y:BitVec 64} {k:KD} {q:Nat}
theorem Lf1.tou (h:Lf1 A i page own r w) (hp:A.pres kO=page) (h0:i≠0):Zi A i kO=⟨page,own,r,w⟩:= by
  obtain⟨lv,ht,hk,hl⟩:=h
  rcases hl with⟨a,rfl,rfl,rfl⟩ | a
  · rw[Ty ht a]
    have h1:ZN A i kO=own:= by
      unfold ZN
      rw[J1,if_neg h0,ht]
      dsimp only
      rw[a]
      dsimp only
      rw[if_neg (by simp)]
      exact(show J1 A (99999+1) 0 kO=own from sees_nzero.trans hp)
    rw[h1]
    rfl
  · exact Kc ht a
theorem Lf1.put (h:Lf1 A i page own r w):Lf1 (ZA A i kO ⟨page,own',r',w'⟩) i page own' r' w':= by
  obtain⟨lv,ht,hk,_⟩:=h
  exact⟨Xz lv kO (some ⟨page,own',r',w'⟩), by rw[ZS ht]; exact Q1, fun k e=> by rw[QI e]; exact hk k e,.inr Q1⟩
theorem Lf1.oth {y:LfA} (h:Lf1 A j page own r w) (hne:j≠i):Lf1 (ZA A i k y) j page own r w:= by
  obtain⟨lv,ht,hk,hl⟩:=h
  exact⟨lv, by rw[HQ hne]; exact ht,hk,hl⟩
def SB (A:LvA) (page o1:Bs) (r1 w1:BitVec 64) (o2:Bs) (r2 w2:BitVec 64):Prop:=A.pres kO=page∧Lf1 A 1 page o1 r1 w1∧Lf1 A 2 page o2 r2 w2∧ ∀i,i≠1→i≠2→A.tr i=none
theorem E3 {y:LfA} (h:A.tr j=none):(ZA A i k y).tr j=none:= by
  by_cases e:j=i
  · subst e;unfold ZA; rw[h]; exact h
  · rw[HQ e]; exact h
theorem SB.put1 (h:SB A page o1 r1 w1 o2 r2 w2):SB (ZA A 1 kO ⟨page,own',r',w'⟩) page own' r' w' o2 r2 w2:=
  ⟨by rw[GN]; exact h.1,h.2.1.put,h.2.2.1.oth (by decide), fun j a b=>E3 (h.2.2.2 j a b)⟩
def MW (x w:BitVec 64) (i:Nat):Prop:= ∀j,j<64→w.getLsbD j=(x.getLsbD j&&decide (j<i))
theorem MW.zero:MW x 0#64 0:= fun j _=> by simp
theorem C7 {i j:Nat} (hj:j<64):(w ||| (1#64<<<i)).getLsbD j=(w.getLsbD j || decide (j=i)):= by
  rw[BitVec.getLsbD_or,BitVec.getLsbD_shiftLeft,BitVec.getLsbD_one]
  congr 1
  by_cases h:j=i
  · subst h; simp [hj]
  · by_cases h2:j<i
    · simp [h2,h]
    · have :j -i≠0:= by omega
      simp [h2,h,this]
theorem MW.T (h:MW x w q) (hb:x.getLsbD q=true):MW x (w ||| (1#64<<<q)) (q+1):= fun j hj=> by
  rw[C7 hj,h j hj]
  by_cases e:j=q
  · subst e; simp [hb]
  · have h1:decide (j<q+1)=decide (j<q):= by
      by_cases f:j<q
      · rw[QW f,QW (by omega)]
      · rw[Q0 f,Q0 (by omega)]
    rw[h1]; simp [e]
theorem MW.F (h:MW x w q) (hb:x.getLsbD q=false):MW x w (q+1):= fun j hj=> by
  rw[h j hj]
  by_cases e:j=q
  · subst e; simp [hb]
  · have h1:decide (j<q+1)=decide (j<q):= by
      by_cases f:j<q
      · rw[QW f,QW (by omega)]
      · rw[Q0 f,Q0 (by omega)]
    rw[h1]
theorem MW.fin (h:MW x w 64):w=x:=BitVec.eq_of_getLsbD_eq fun j hj=> by rw[h j hj]; simp [hj]
theorem BU {now own:Bs} {j:Nat} (hj:j<64):(RH now own w)[j]? =some (if w.getLsbD j=true then own.getD j 0 else now.getD j 0):= by
  unfold RH
  rw[List.getElem?_map,List.getElem?_range hj]
  rfl
theorem P4 {l:Bs} {j:Nat} {v:UInt8} (h:l[j]? =some v):l.getD j 0=v:= by simp [List.getD,h]
theorem RD {now own:Bs} (hl:now.length=64):RH now own 0#64=now:= by
  apply List.ext_getElem?
  intro j
  by_cases hj:j<64
  · rw[BU hj,getD_some (by omega)]; simp
  · rw[List.getElem?_eq_none (by rw[US];omega),List.getElem?_eq_none (by omega)]
theorem Lf1.com {t:TrA} (h:Lf1 A i page own r w) (ht:A.tr i=some t) (hl:(A.pres kO).length=64):ME A t kO=RH (A.pres kO) own w:= by
  obtain⟨lv,h1,hk,h2⟩:=h
  rw[h1]at ht
  cases ht
  unfold ME
  rcases h2 with⟨a,rfl,rfl,rfl⟩ | a
  · dsimp only; rw[a]; dsimp only; rw[if_neg (by simp),RD hl]
  · dsimp only; rw[a]; dsimp only
    by_cases e:w=0#64
    · subst e; rw[if_pos rfl,if_neg (by simp),RD hl]
    · rw[if_neg e]
theorem Lf1.parent (h:Lf1 A i page own r w) {t:TrA} (ht:A.tr i=some t):t.parent=0∧ ∀ob,t.dr ob=false:= by
  obtain⟨lv,h1,_⟩:=h
  rw[h1]at ht
  cases ht
  exact⟨rfl, fun _=>rfl⟩
theorem Lf1.get (h:Lf1 A i page own r w): ∃t,A.tr i=some t:= by obtain⟨lv,h1,_⟩:=h; exact⟨_,h1⟩
theorem Lf1.part (h:Lf1 A i page own r w) {t:TrA} (ht:A.tr i=some t): ∀k x,t.lv k=some x→k=kO:= fun k x hx=> by
  obtain⟨lv,h1,hk,_⟩:=h
  rw[h1]at ht
  cases ht
  exact Classical.byContradiction fun e=> by
    have h3:lv k=some x:=hx
    rw[hk k e]at h3; cases h3
theorem Lf1.rest (h:Lf1 A j page own r w) (hne:j≠i) {P:KD→Bs}:Lf1 ⟨P,Xz A.tr i none⟩ j page own r w:= by
  obtain⟨lv,h1,hk⟩:=h
  exact⟨lv, by show Xz A.tr i none j=_; rw[QI hne]; exact h1,hk⟩
theorem Lf1.valid (h:Lf1 A i page own r w) {t:TrA} (ht:A.tr i=some t):VA A t↔ ∀j,j<64→r.getLsbD j=true→page[j]? =(A.pres kO)[j]? := by
  obtain⟨lv,h1,hk,h2⟩:=h
  rw[h1]at ht
  cases ht
  constructor
  · intro hv q hq hr
    rcases h2 with⟨_,rfl,_⟩ | a
    · simp at hr
    · have :=hv kO _ a q hq hr
      rw[We]at this
      exact this
  · intro hv k z hz q hq hr
    have e:k=kO:=Classical.byContradiction fun e=> by
      have :lv k=some z:=hz
      rw[hk k e]at this; cases this
    subst e
    show z.base[q]? =(ZN A 0 kO)[q]?
    rw[We]
    rcases h2 with⟨a,_⟩ | a
    · have :lv kO=some z:=hz
      rw[a]at this; cases this
    · have :lv kO=some z:=hz
      rw[a]at this; cases this
      exact hv q hq hr
end
def p7:Bs:=zer.set 5 7
def kP:KD:=([112],3)
structure SmI (A:LvA) (P own:Bs) (r w:BitVec 64):Prop where
  pr:A.pres kO=P
  tr: ∃lv,A.tr 1=some ⟨0,lv, fun _=>false⟩∧lv kO=some ⟨p7,own,r,w⟩∧ ∀k,k≠kO→lv k=none
  ot: ∀i,i≠1→A.tr i=none
section
variable {A:LvA} {P own own':Bs} {r w r' w':BitVec 64}
theorem SmI.tou (h:SmI A P own r w):Zi A 1 kO=⟨p7,own,r,w⟩:= by
  obtain⟨lv,a,b,_⟩:=h.tr
  exact Kc a b
theorem SmI.lf (h:SmI A P own r w):Lf1 A 1 p7 own r w:= by
  obtain⟨lv,a,b,c⟩:=h.tr
  exact⟨lv,a,c,.inr b⟩
theorem SmI.wr (h:SmI A P own r w) (a:Int) (b:UInt8):SmI (wrP A kO a b) (P.set a.toNat b) own r w:=
  ⟨by unfold wrP; dsimp only; rw[XG,h.pr],h.tr,h.ot⟩
theorem Og (h:Lf1 A 1 p7 own r w) (hp:A.pres kO=P) (ho: ∀i,i≠1→A.tr i=none):SmI (ZA A 1 kO ⟨p7,own',r',w'⟩) P own' r' w':= by
  obtain⟨lv,a,c,_⟩:=h
  refine⟨by rw[GN]; exact hp,⟨Xz lv kO (some ⟨p7,own',r',w'⟩), by rw[ZS a]; exact Q1,Q1, fun k e=> by rw[QI e]; exact c k e⟩, fun i hi=> by rw[HQ hi]; exact ho i hi⟩
theorem SmI.put (h:SmI A P own r w):SmI (ZA A 1 kO ⟨p7,own',r',w'⟩) P own' r' w':=Og h.lf h.pr h.ot
theorem SmI.get (h:SmI A P own r w): ∃t,A.tr 1=some t:=h.lf.get
end
theorem dr_none {A:LvA} (h: ∀i t,A.tr i=some t→ ∀ob,t.dr ob=false):DrA A:= fun i t k x ht hd _=> by rw[h i t ht k.1]at hd; cases hd
theorem Af {t:TrA} (h: ∀ob,t.dr ob=false):DrLe t 0:=⟨[],Nat.le_refl _, fun ob hd=> by rw[h ob]at hd; cases hd⟩
theorem OM {t:TrA} (h: ∀k x,t.lv k=some x→k=kO):PartLe t 1:=⟨[kO],Nat.le_refl _, fun k x hx _ _=> by rw[h k x hx]; simp⟩
theorem Nt {A:LvA} {i:Int} (hi:1≤i) (h:A.tr i=none):Tk A i 0=0∧Nu A i 0={A with tr:=Xz A.tr i (some ⟨0, fun _=>none, fun _=>false⟩)}:= by
  have e:Tk A i 0=0:= by
    unfold Tk
    rw[if_neg (by omega),h,if_neg (by simp),if_neg (by simp [DD])]
  exact⟨e, by unfold Nu; rw[if_pos e]⟩
theorem S4 {m:Nat} {L L':LvD} {V V':VS} {q:Nat} {x0 x3:Int} (hI:LvI m L V) (hI':LvI m L' V') (hx0:x0=0) (hx3:x3=3) (hp:L'.pres=qad L.pres [112] (3+max 0 (-3)) (Gz L [111] (0+max 0 (-3)) q) q) (hq:max 0 (-3)+(q:Int)=min 1 (256 -3)∨(q=0∧min (1:Int) (256 -3)≤max 0 (-3))) (hne:XT V (L.pres kO)≠zer):
    (Xc L' 0 ([111],x0)=L.pres kO∧Vm L' V' 0 ([111],x0)=false)∧(Xc L' 0 ([112],x3)=L.pres kO∧Vm L' V' 0 ([112],x3)=false)∧L.pres kO≠0:= by
  subst hx0; subst hx3
  have hq1:q=1:= by omega
  subst hq1
  have h0:L.pres kO≠0:= fun e=>hne (by rw[e]; exact Wr hI.zero)
  have e1:Gz L [111] (0+max 0 (-3)) 1=[L.pres kO]:= by
    have e0:max (0:Int) (-3)=0:= by decide
    unfold Gz PR
    rw[e0]
    simp [kO]
  have e2:L'.pres=Zy L.pres kP (L.pres kO):= by
    rw[hp,e1]
    show Zy L.pres ([112],3+max 0 (-3)+((0:Nat):Int)) (([L.pres kO]:List Int).getD 0 0)=_
    rfl
  have a1:L'.pres kO=L.pres kO:= by rw[e2];unfold Zy; rw[if_neg (by decide)]
  have a2:L'.pres kP=L.pres kO:= by rw[e2];unfold Zy; rw[if_pos rfl]
  have s1:Xc L' 0 kO=L.pres kO:=(Ye rfl).trans a1
  have s2:Xc L' 0 kP=L.pres kO:=(Ye rfl).trans a2
  have hr:Zz V' (L.pres kO)≠1:= fun e=> by
    have :=hI'.ref.excl e rfl h0 (show Xw L' (.inl kO)=L.pres kO from a1) (.inl kP) a2
    exact absurd this (by decide)
  refine⟨⟨s1, ?_⟩,⟨s2, ?_⟩,h0⟩
  · show Vm L' V' 0 kO=false
    unfold Vm; rw[s1]; simp [hr]
  · show Vm L' V' 0 kP=false
    unfold Vm; rw[s2]; simp [hr]
theorem Pu {w:World} {b p n m c e:Nat} {A:LvA} {F:Th} (hS:Sat w [Yb b p n m c e A,F]) (hn:n≤60000000000) (hm:m<Zp) (a:Int) (hr:0≤a∧a<64):
    Calls Tryz.prog 12 #[ptrV b 0,intV 0,strV [111],intV a] w (Ret fun v w'=>v=XS (N4 (A.pres kO) a)∧Sat w' [Yb b p n m c e A,F]):= by
  refine(Pr hS hn hm [111] a (by omega)).mono fun ew w h=>h.mono fun v w h=> ?_
  have e1:a/ 64=0:= by omega
  have e2:a%64=a:= by omega
  rw[e1,e2]at h
  exact h
theorem Pt {w:World} {b p n m c e:Nat} {A:LvA} {F:Th} (hS:Sat w [Yb b p n m c e A,F]) (hn:n≤60000000000) (hm:m<Zp) {id:Int} {tA:TrA} (ht:A.tr id=some tA) (a:Int) (hr:0≤a∧a<64):
    Calls Tryz.prog 12 #[ptrV b 0,intV id,strV [111],intV a] w (Ret fun v w'=>v=XS (N4 (Zi A id kO).own a)∧ ∃A',A'=ZA A id kO (rdX (Zi A id kO) a)∧Sat w' [Yb b p (n+2) m c (e+1) A',F]):= by
  refine(Pq hS hn hm ht [111] a (by omega)).mono fun ew w h=>h.mono fun v w h=> ?_
  have e1:a/ 64=0:= by omega
  have e2:a%64=a:= by omega
  rw[e1,e2]at h
  exact⟨h.1,_,rfl,h.2⟩
theorem Mp {w:World} {b p n m c e:Nat} {A:LvA} {F:Th} (hS:Sat w [Yb b p n m c e A,F]) (hn:n≤60000000000) (hm:m<Zp) (hc:c+1<256) (a:Int) (hr:0≤a∧a<64) (bt:UInt8):
    Calls Tryz.prog 10 #[ptrV b 0,intV 0,strV [111],intV a,XS bt] w (Ret fun v w'=>v=intV 0∧ ∃A',A'=wrP A kO a bt∧Sat w' [Yb b p (n+5) m (c+1) (e+1) A',F]):= by
  refine(Pp hS hn hm hc [111] a bt (by omega)).mono fun ew w h=>h.mono fun v w h=> ?_
  have e1:a/ 64=0:= by omega
  have e2:a%64=a:= by omega
  rw[e1,e2]at h
  exact⟨h.1,_,rfl,h.2⟩
theorem Im {w:World} {b p n m c e:Nat} {A:LvA} {F:Th} (hS:Sat w [Yb b p n m c e A,F]) (hn:n≤60000000000) (hm:m<Zp) (hc:c+1<256) {id:Int} {tA:TrA} (ht:A.tr id=some tA) (a:Int) (hr:0≤a∧a<64) (bt:UInt8):
    Calls Tryz.prog 10 #[ptrV b 0,intV id,strV [111],intV a,XS bt] w (Ret fun v w'=>v=intV 0∧ ∃A',A'=ZA A id kO (wrX (Zi A id kO) a bt)∧Sat w' [Yb b p (n+5) m (c+1) (e+1) A',F]):= by
  refine(Po hS hn hm ht hc [111] a bt (by omega)).mono fun ew w h=>h.mono fun v w h=> ?_
  have e1:a/ 64=0:= by omega
  have e2:a%64=a:= by omega
  rw[e1,e2]at h
  exact⟨h.1,_,rfl,h.2⟩
theorem Of {w:World} {F:Th} (hS:Sat w [F]) (hG:Ent F GT):
    Calls Tryz.prog 8 #[] w (Ret fun v w'=>v= .bool true∧Sat w' [F]):= by
 letI:Inhabited SlW:=⟨⟨4096⟩⟩
 refine Qq Tryz.func8 rfl Tryz.ntmps8 rfl ?_
 refine Qd (Qa (Qe rfl rfl (Qf (Qc (Qd (Qa (Qv cal_9 rfl (NY (hS.sp [] rfl) rfl) rfl ?_)))))))
 rintro _ w1 ⟨b,p,mp,mt,ms,rfl,hS1⟩
 replace hS1:=hS1.jn rfl rfl
 have hz0:=NZ (hS1.pick [0,1,2] rfl)
 refine Qb rfl rfl (Qt rfl rfl rfl (Qt rfl rfl rfl (Qe rfl rfl (Qe rfl rfl (Qf (Qc (Qd (Qd (Qa (Qb rfl rfl (ZJ Tryz.underlying24 rfl rfl rfl (Qf (Qc (QV rfl (Qr (Qc (Qd (Qa (Qb rfl rfl ?_)))))))))))))))))))
 have hC2:=hz0.sp [0] rfl
 refine Qv Bh rfl (Mp hC2 (by omega) (by decide) (by omega) 5 (by omega) 7) rfl ?_
 rintro _ w2 ⟨rfl,A1,hA1,hS2⟩
 replace hS2:=hS2.jn rfl rfl; clear hC2
 clear hz0
 have q1:A1.pres kO=p7:= by rw[hA1];unfold wrP; dsimp only; rw[XG];rfl
 have q2: ∀i,A1.tr i=none:= fun i=> by rw[hA1];rfl
 obtain⟨be1,be2⟩:=Nt (i:=1) (by omega) (q2 1)
 refine Qf (Qc (Qi [0,1] rfl (Qd (Qa (Qb rfl rfl (Qv F4 rfl (Mo (hS2.sp [0] rfl) (by omega) (by decide) 1 0) rfl ?_))))))
 rintro _ w3 ⟨rfl,hS3⟩
 replace hS3:=hS3.jn rfl rfl
 clear hS2
 rw[be1]
 rw[be2]at hS3
 obtain⟨A2,hA2⟩: ∃A,A=({A1 with tr:=Xz A1.tr 1 (some ⟨0, fun _=>none, fun _=>false⟩)}:LvA):=⟨_,rfl⟩
 rw[←hA2]at hS3
 have f2:Lf1 A2 1 p7 p7 0#64 0#64:=⟨fun _=>none, by rw[hA2]; exact Q1, fun _ _=>rfl,.inl ⟨rfl,rfl,rfl,rfl⟩⟩
 have p2:A2.pres kO=p7:= by rw[hA2]; exact q1
 have o2: ∀i,i≠1→A2.tr i=none:= fun i hi=> by rw[hA2]; exact(QI hi).trans (q2 i)
 obtain⟨t2,ht2⟩:=f2.get
 have to2:=f2.tou p2 (by decide)
 refine Qe rfl rfl (Qf (Qc (Qd (Qa (Qb rfl rfl (Qv Bh rfl (Im (hS3.sp [0] rfl) (by omega) (by decide) (by omega) ht2 6 (by omega) 8) rfl ?_))))))
 rintro _ w4 ⟨rfl,A3,hA3,hS4⟩
 replace hS4:=hS4.jn rfl rfl
 clear hS3
 rw[to2]at hA3
 have k3:SmI A3 p7 (p7.set 6 8) 0#64 (1#64<<<6):= by rw[hA3]; exact Og f2 p2 o2
 refine Qf (Qc (Qd (Qa (Qb rfl rfl (Qv Bg rfl (Pu (hS4.sp [0] rfl) (by omega) (by decide) 6 (by omega)) rfl ?_)))))
 rintro _ w5 ⟨rfl,hS5⟩
 replace hS5:=hS5.jn rfl rfl
 clear hS4
 rw[k3.pr]
 obtain⟨t3,ht3⟩:=k3.get
 refine Qe rfl rfl (Qf (Qc (Qd (Qa (Qb rfl rfl (Qv Bg rfl (Pt (hS5.sp [0] rfl) (by omega) (by decide) ht3 5 (by omega)) rfl ?_))))))
 rintro _ w6 ⟨rfl,A4,hA4,hS6⟩
 replace hS6:=hS6.jn rfl rfl
 clear hS5
 rw[k3.tou]at hA4⊢
 have k4:SmI A4 p7 (p7.set 6 8) (1#64<<<5) (1#64<<<6):= by rw[hA4]; exact k3.put
 refine Qe rfl rfl (Qf (Qc (Qi [0,1,3,4,5] rfl (Qd (Qa (Qb rfl rfl (Qv Bh rfl (Mp (hS6.sp [0] rfl) (by omega) (by decide) (by omega) 5 (by omega) 9) rfl ?_)))))))
 rintro _ w7 ⟨rfl,A5,hA5,hS7⟩
 replace hS7:=hS7.jn rfl rfl
 clear hS6
 have k5:=k4.wr 5 9
 rw[←hA5]at k5
 obtain⟨t5,ht5⟩:=k5.get
 refine Qf (Qc (Qd (Qa (Qb rfl rfl (Qv Bg rfl (Pt (hS7.sp [0] rfl) (by omega) (by decide) ht5 5 (by omega)) rfl ?_)))))
 rintro _ w8 ⟨rfl,A6,hA6,hS8⟩
 replace hS8:=hS8.jn rfl rfl
 clear hS7
 rw[k5.tou]at hA6⊢
 have k6:SmI A6 (p7.set 5 9) (p7.set 6 8) (1#64<<<5) (1#64<<<6):= by rw[hA6]; exact k5.put
 obtain⟨t6,ht6⟩:=k6.get
 refine Qe rfl rfl (Qf (Qc (Qd (Qa (Qb rfl rfl (Qv Nn rfl (RJ (hS8.sp [0] rfl) (by omega) (by decide) (hG.starL 0 rfl) ht6) rfl ?_))))))
 rintro _ w9 ⟨r6,rfl,hr6,hS9⟩
 replace hS9:=hS9.jn rfl rfl
 clear hS8
 have hr6f:r6=false:= by cases r6 with | false=>rfl | true=> exact absurd ((k6.lf.valid ht6).1 (hr6.1 rfl) 5 (by decide) (by decide)) (by rw[k6.pr];decide)
 subst hr6f
 refine Qe rfl rfl (Qf (Qc (Qi [0,1,3,4,5,6,7] rfl (Qd (Qa (Qb rfl rfl (Qv Bh rfl (Mp (hS9.sp [0] rfl) (by omega) (by decide) (by omega) 5 (by omega) 7) rfl ?_)))))))
 rintro _ w10 ⟨rfl,A7,hA7,hS10⟩
 replace hS10:=hS10.jn rfl rfl
 clear hS9
 have k7:=k6.wr 5 7
 rw[←hA7]at k7
 rw[show((p7.set 5 9).set (5:Int).toNat 7)=p7 by decide]at k7
 obtain⟨t7,ht7⟩:=k7.get
 refine Qf (Qc (Qd (Qa (Qb rfl rfl (Qv Nn rfl (RJ (hS10.sp [0] rfl) (by omega) (by decide) (hG.starL 0 rfl) ht7) rfl ?_)))))
 rintro _ w11 ⟨r7,rfl,hr7,hS11⟩
 replace hS11:=hS11.jn rfl rfl
 clear hS10
 have hr7t:r7=true:=hr7.2 ((k7.lf.valid ht7).2 fun j _ _=> by rw[k7.pr])
 subst hr7t
 have pa7:=k7.lf.parent ht7
 have un7: ∀i u,A7.tr i=some u→i=1:= fun i u hu=>Classical.byContradiction fun q=> by rw[k7.ot i q]at hu; cases hu
 refine Qe rfl rfl (Qf (Qc (Qi [0,1,3,4,5,6,7,8] rfl (Qd (Qa (Qb rfl rfl ?_))))))
 refine Qv Np rfl (BW (d:=0) (q:=1) (hS11.sp [0] rfl) (by omega) (by decide) (by omega) (by omega) ht7 pa7.1 (fun i u hu=> by have e:=un7 i u hu; subst e; rw[ht7]at hu; cases hu; rw[pa7.1];decide) (dr_none fun i t ht=> by have e:=un7 i t ht; subst e; exact(k7.lf.parent ht).2) (Af pa7.2) (OM (k7.lf.part ht7)) (by omega)) rfl ?_
 rintro _ w12 ⟨rfl,hS12⟩
 replace hS12:=hS12.jn rfl rfl
 clear hS11
 have k8:=k7.lf.com ht7 (by rw[k7.pr];decide)
 rw[k7.pr]at k8
 obtain⟨A8,hA8⟩: ∃A,A=(⟨ME A7 t7,Xz A7.tr 1 none⟩:LvA):=⟨_,rfl⟩
 rw[←hA8]at hS12
 have k9:A8.pres kO=RH p7 (p7.set 6 8) (1#64<<<6):= by rw[hA8]; exact k8
 refine Qe rfl rfl (Qf (Qc (Qd (Qa (Qb rfl rfl (Qv Bg rfl (Pu (hS12.sp [0] rfl) (by omega) (by decide) 6 (by omega)) rfl ?_))))))
 rintro _ w13 ⟨rfl,hS13⟩
 replace hS13:=hS13.jn rfl rfl
 clear hS12
 rw[k9]
 refine Qe rfl rfl (Qf (Qc (Qi [0,1,3,4,5,6,7,8,9,10] rfl (Qd ?_))))
 obtain⟨L,V,⟨g1,g2,g3,g4,g5⟩,hz1⟩:=ZH (hS13.pick [0,1] rfl)
 refine Qa (Qb rfl rfl ?_)
 have hC14:=hz1.sp [0,1] rfl
 refine Qv Fv rfl (PT hC14 (by omega) g2 (by decide) [111] [112] 0 1 3 (by omega) (by omega) (by omega)) rfl ?_
 rintro _ w14 ⟨L2,V2,q,hq1,hq2,hq3,hq4,hS14⟩
 replace hS14:=hS14.jn rfl rfl; clear hC14
 clear hz1
 have hne:XT V (L.pres kO)≠zer:= by intro hh; have h8:=k9; rw[←g3]at h8; have h9:XT V (L.pres kO)=RH p7 (p7.set 6 8) (1#64<<<6):=h8; rw[hh]at h9; exact absurd h9 (by decide)
 obtain⟨⟨y1,y2⟩,⟨y3,y4⟩,y5⟩:=S4 (x0:=0) (x3:=3) g2 hq1.inv rfl rfl hq2 hq4 hne
 refine Qf (Qc (Qd (Qa (Qb rfl rfl (Qv Fy rfl (GH (hS14.sp [0,1] rfl) (hq1.inv.rank.ends (by decide)) [111] 0 (by simp [WV,Z8])) rfl ?_)))))
 rintro _ w15 ⟨rfl,hS15⟩
 replace hS15:=hS15.jn rfl rfl
 clear hS14
 rw[y1,y2]
 refine Qb rfl rfl (Qt rfl rfl rfl (Qt rfl rfl rfl (Qe rfl rfl (Qe rfl rfl (Qf (Qc (Qi [0,1,3,4,5,6,7,8,9,10,11,12] rfl (Qd (Qa (Qb rfl rfl (Qv Fy rfl (GH (hS15.sp [0,1] rfl) (hq1.inv.rank.ends (by decide)) [112] 3 (by simp [WV,Z8])) rfl ?_)))))))))))
 rintro _ w16 ⟨rfl,hS16⟩
 replace hS16:=hS16.jn rfl rfl
 clear hS15
 rw[y3,y4]
 refine Qb rfl rfl (Qt rfl rfl rfl (Qt rfl rfl rfl (Qe rfl rfl (Qe rfl rfl (Qf (Qc (Qi [0,3,4,5,6,7,8,9,10,11,12,13,14] rfl (Qd (Qa (Qb rfl rfl (QX rfl rfl rfl (Qb rfl rfl (QN 59 rfl (fun h17=> ?_) (fun h17=> ?_))))))))))))))
 ·refine Qj rfl rfl (QW h17) (Qb rfl rfl (Qj rfl rfl (QW h17) (QX rfl rfl rfl (QC rfl (QW h17) rfl rfl (Qb rfl rfl (QN 63 rfl (fun h18=> ?_) (fun h18=> ?_)))))))
  ·refine Qj rfl rfl (QW h18) (Qb rfl rfl (Qj rfl rfl (QW h18) (QX rfl rfl rfl (QC rfl (QW h18) rfl rfl (Qb rfl rfl (QN 67 rfl (fun h19=> ?_) (fun h19=> ?_)))))))
   ·refine Qj rfl rfl (QW h19) (Qb rfl rfl (Qj rfl rfl (QW h19) (QX rfl rfl rfl (QC rfl (QW h19) rfl rfl (Qb rfl rfl (QN 71 rfl (fun h20=> ?_) (fun h20=> ?_)))))))
    ·refine Qj rfl rfl (QW h20) (Qb rfl rfl (Qj rfl rfl (QW h20) (QR rfl rfl (QC rfl (QW h20) rfl rfl (Qb rfl rfl (Zh 75 rfl (fun h21=> ?_) (fun h21=> ?_)))))))
     ·refine Qj rfl rfl h21 (Qb rfl rfl (QC rfl h21 rfl rfl (Qb rfl rfl (Zh 78 rfl (fun h22=> ?_) (fun h22=> ?_)))))
      ·refine Qj rfl rfl h22 (Qb rfl rfl (Qj rfl rfl h22 (QX rfl rfl rfl (QC rfl h22 rfl rfl (Qb rfl rfl (QN 82 rfl (fun h23=> ?_) (fun h23=> ?_)))))))
       ·refine Qj rfl rfl (QW h23) (Qb rfl rfl (Qj rfl rfl (QW h23) (QX rfl rfl rfl (QC rfl (QW h23) rfl rfl (Qb rfl rfl (QN 86 rfl (fun h24=> ?_) (fun h24=> ?_)))))))
        ·refine Qj rfl rfl (QW h24) (Qb rfl rfl (Qj rfl rfl (QW h24) (Qb rfl rfl (Qj rfl rfl (QW h24) (QX rfl rfl rfl (QC rfl (QW h24) rfl rfl (Qb rfl rfl (QN 91 rfl (fun h25=> ?_) (fun h25=> ?_)))))))))
         ·refine Qj rfl rfl (QW h25) (Qb rfl rfl (Qj rfl rfl (QW h25) (X0 rfl rfl rfl (QC rfl (QW h25) rfl rfl (Qb rfl rfl (QN 95 rfl (fun h26=> ?_) (fun h26=> ?_)))))))
          ·refine Qj rfl rfl (QW h26) (Qb rfl rfl (Qj rfl rfl (QW h26) (QR rfl rfl (QC rfl (QW h26) rfl rfl (Qb rfl rfl (Zh 99 rfl (fun h27=> ?_) (fun h27=> ?_)))))))
           ·refine Qj rfl rfl h27 (Qb rfl rfl (Qj rfl rfl h27 (QR rfl rfl (QC rfl h27 rfl rfl (Qe rfl rfl (Qf (Qc (Qi [0] rfl (Qu (QQ (.inr rfl) rfl rfl ?_))))))))))
            exact⟨_,rfl, by rfl,hS16.pick [2] rfl⟩
           first | exact absurd (by decide) h27 | exact absurd h27 (by decide) | exact absurd rfl h27 | exact absurd y5 h27
          first | exact absurd (by decide) h26 | exact absurd h26 (by decide) | exact absurd rfl h26 | exact absurd y5 h26
         first | exact absurd (by decide) h25 | exact absurd h25 (by decide) | exact absurd rfl h25 | exact absurd y5 h25
        first | exact absurd (by decide) h24 | exact absurd h24 (by decide) | exact absurd rfl h24 | exact absurd y5 h24
       first | exact absurd (by decide) h23 | exact absurd h23 (by decide) | exact absurd rfl h23 | exact absurd y5 h23
      first | exact absurd (by decide) h22 | exact absurd h22 (by decide) | exact absurd rfl h22 | exact absurd y5 h22
     first | exact absurd (by decide) h21 | exact absurd h21 (by decide) | exact absurd rfl h21 | exact absurd y5 h21
    first | exact absurd (by decide) h20 | exact absurd h20 (by decide) | exact absurd rfl h20 | exact absurd y5 h20
   first | exact absurd (by decide) h19 | exact absurd h19 (by decide) | exact absurd rfl h19 | exact absurd y5 h19
  first | exact absurd (by decide) h18 | exact absurd h18 (by decide) | exact absurd rfl h18 | exact absurd y5 h18
 first | exact absurd (by decide) h17 | exact absurd h17 (by decide) | exact absurd rfl h17 | exact absurd y5 h17
end Go.Proofs.YtkcjfoaejijdoaaGreatDoor
namespace Go.Proofs.YtkcjfoaejijdoaaGreatDoor
open Go.RowKit M
section
variable {w:World} {p:Nat} {W:WS} {LL:WL} {Lo:List (Bs×Nat)} {F:Th} {n:Bs} {m im:Nat} {O':Bs→Int→Option Bs}
theorem UA (hI:PagesOk O') (L':List (Bs×Nat)) (hO:ObjL L' O') (h:Sat w [Q3 Xp LL.bo (X4 L'),starL (L'.map (Wo O')),QF p (Wf LL W.time),Q3 Xp LL.bc (X7 W.cells),Q3 Xp LL.bl (X7 W.logs),F]):Sat w [Xi p {W with objs:=O'},F]:= by
  have h1:=Mj L' hO h
  exact Bo (W:={W with objs:=O'}) LL hI (h1.reorder [1,2,0,3,4] rfl)
theorem WR (hI:PagesOk W.objs) (hO:ObjL Lo W.objs) (h:Sat w [Q3 Xp LL.bo (X4 Lo),starL (Lo.map (Wo W.objs)),QF p (Wf LL W.time),Q3 Xp LL.bc (X7 W.cells),Q3 Xp LL.bl (X7 W.logs),F]):Sat w [Xi p W,F]:=UA (W:=W) hI Lo hO h
theorem Dy (hI:PagesOk O') (hN:(Lo.map (·.1)).Nodup) (hO:ObjL Lo O') (him:Lo[im]? =some (n,m)) (ho: ∀k,k≠n→O' k=W.objs k) (h:Sat w [Q3 Xf m (ZT (O' n)),starL ((Lo.map (Wo W.objs)).eraseIdx im),Q3 Xp LL.bo (X4 Lo),QF p (Wf LL W.time),Q3 Xp LL.bc (X7 W.cells),Q3 Xp LL.bl (X7 W.logs),F]):Sat w [Xi p {W with objs:=O'},F]:= by
  rw[NG hN him ho]at h
  have h1:=MO (MP (i:=0) h) (TG (x:=(n,m)) him (Wo O'))
  exact UA hI Lo hO (h1.perm (List.Perm.swap _ _ _))
theorem HJ (hI:PagesOk W.objs) (hO:ObjL Lo W.objs) (him:Lo[im]? =some (n,m)) (h:Sat w [Q3 Xf m (ZT (W.objs n)),starL ((Lo.map (Wo W.objs)).eraseIdx im),Q3 Xp LL.bo (X4 Lo),QF p (Wf LL W.time),Q3 Xp LL.bc (X7 W.cells),Q3 Xp LL.bl (X7 W.logs),F]):Sat w [Xi p W,F]:=
  Dy (W:=W) hI hO.nodup hO him (fun _ _=>rfl) h
theorem By (b:Nat):upd (X4 Lo) n (some (.map (some b)))=X4 ((n,b)::Lo):= by
  funext k
  unfold X4
  rw[Vb]
  by_cases h:k=n
  · subst h; rw[Z5]; simp
  · rw[WC h]; simp [h]
theorem SG (hN:(Lo.map (·.1)).Nodup) (him:Lo[im]? =some (n,m)):upd (X4 Lo) n none=X4 (Lo.eraseIdx im):= by
  funext k
  unfold X4
  rw[VR hN him]
  by_cases h:k=n
  · subst h; rw[Z5]; simp
  · rw[WC h]; simp [h]
theorem Bx (h:Jv Lo n=none):upd (X4 Lo) n none=X4 Lo:= by
  funext k
  by_cases hk:k=n
  · subst hk; rw[Z5]; simp [X4,h]
  · rw[WC hk]
theorem So {b:Nat} (hI:PagesOk O') (hO:ObjL Lo W.objs) (hq:Jv Lo n=none) (hn: ∃q,O' n q≠none) (ho: ∀k,k≠n→O' k=W.objs k) (h:Sat w [Q3 Xf b (ZT (O' n)),Q3 Xp LL.bo (upd (X4 Lo) n (some (.map (some b)))),starL (Lo.map (Wo W.objs)),QF p (Wf LL W.time),Q3 Xp LL.bc (X7 W.cells),Q3 Xp LL.bl (X7 W.logs),F]):Sat w [Xi p {W with objs:=O'},F]:= by
  rw[By]at h
  have hnm:=Wt.1 hq
  have e:Lo.map (Wo W.objs)=Lo.map (Wo O'):= by
    apply List.map_congr_left
    intro x hx
    unfold Wo; rw[ho]
    rintro rfl; exact hnm (List.mem_map.2 ⟨x,hx,rfl⟩)
  rw[e]at h
  have h1:=h.reorder [0,2,1,3,4,5,6] rfl; dsimp only[JU,H6]at h1
  have h2:Sat w (starL (((n,b)::Lo).map (Wo O'))::_):=MP (i:=0) h1
  refine UA hI ((n,b)::Lo) ⟨?_, fun k=> ?_⟩ (h2.perm (List.Perm.swap _ _ _))
  · exact List.nodup_cons.2 ⟨hnm,hO.nodup⟩
  · by_cases hk:k=n
    · subst hk; simp [hn]
    · rw[ho k hk,←hO.has k]; simp [hk]
theorem Tl (hI:PagesOk O') (hO:ObjL Lo W.objs) (him:Lo[im]? =some (n,m)) (hn: ∀q,O' n q=none) (ho: ∀k,k≠n→O' k=W.objs k) (h:Sat w [starL ((Lo.map (Wo W.objs)).eraseIdx im),Q3 Xp LL.bo (upd (X4 Lo) n none),QF p (Wf LL W.time),Q3 Xp LL.bc (X7 W.cells),Q3 Xp LL.bl (X7 W.logs),F]):Sat w [Xi p {W with objs:=O'},F]:= by
  rw[NG hO.nodup him ho,SG hO.nodup him]at h
  refine UA hI (Lo.eraseIdx im) ⟨hO.nodup.sublist ((List.eraseIdx_sublist Lo im).map _), fun k=> ?_⟩ (h.perm (List.Perm.swap _ _ _))
  have hmem:k∈(Lo.eraseIdx im).map (·.1)↔k∈Lo.map (·.1)∧k≠n:= by
    have h1:=VR hO.nodup him k
    constructor
    · intro hk
      have h2:Jv (Lo.eraseIdx im) k≠none:= fun q=>Wt.1 q hk
      rw[h1]at h2
      by_cases hkn:k=n
      · simp [hkn]at h2
      · rw[if_neg hkn]at h2
        exact⟨Decidable.not_not.1 fun q=>h2 (Wt.2 q),hkn⟩
    · rintro⟨hk,hkn⟩
      refine Decidable.not_not.1 fun q=> ?_
      rw[Wt.2 q,if_neg hkn]at h1
      exact Wt.1 h1.symm hk
  rw[hmem,hO.has]
  by_cases hkn:k=n
  · subst hkn; simp [hn]
  · rw[ho k hkn]; simp [hkn]
theorem H5 (hO:ObjL Lo W.objs) (hq:Jv Lo n=none) (q:Int):W.objs n q=none:= by
  refine Decidable.not_not.1 fun h=>Wt.1 hq ((hO.has n).2 ⟨q,h⟩)
theorem RB (hO:ObjL Lo W.objs) (him:Lo[im]? =some (n,m)): ∃q,W.objs n q≠none:=(hO.has n).1 (List.mem_map.2 ⟨(n,m),List.mem_of_getElem? him,rfl⟩)
end
theorem FP {s:Bs} (hs:s.length=64) {j:Nat} (hj:j<64):((s.map XS).toArray)[j]? =some (XS (s.getD j 0)):= by
  have h:s[j]? =some s[j]:=Zd (by omega)
  simp [List.getD,h]
def XD (W:WS) (n:Bs) (q:Int):Bs:=W2 (W.objs n q)
theorem Mf {W:WS} {n:Bs} (h: ∀q,W.objs n q=none) (q:Int):XD W n q=ZQ:= by simp [XD,W2,h]
theorem Jc:XZ Tryz.prog 167=some (some (WH ZQ)):= by kernel_rfl
theorem Nq {w:World} {p:Nat} {W:WS} {F:Th} (hS:Sat w [Xi p W,F]) (nm:Bs) (i:Int):
    Calls Tryz.prog 94 #[ptrV p 0,strV nm,intV i] w (Ret fun v w'=>v=XS (HF W nm i)∧Sat w' [Xi p W,F]):= by
 refine Qq Tryz.func94 rfl Tryz.ntmps94 rfl ?_
 refine Qd (Qa (Qe rfl rfl (Qf (Qc (Qd (Qd (Qa (Qb rfl rfl (Qv Lw rfl (ND (hS.sp [] rfl) i) rfl ?_)))))))))
 rintro _ w1 ⟨rfl,hS1⟩
 replace hS1:=hS1.jn rfl rfl
 refine QR rfl rfl (Qf (Qc (QM rfl (fun h2=> ?_) (fun h2=> ?_))))
 ·have hv: ¬(0≤i∧i<16384):= by have hq:=h2; simp at hq;omega
  refine Qd (Qa (Qe rfl rfl (Qf (Qc (Qu (Qn (QQ (.inr rfl) rfl rfl ?_)))))))
  exact⟨_,rfl, by rw[HF,if_neg (by simp_all)];rfl,hS1⟩
 have hv:0≤i∧i<16384:= by simpa using h2
 refine Qr (Qc (Qd ?_))
 have hS:=hS1
 obtain⟨LL,hI,hS⟩:=W5 hS
 obtain⟨Lo,hO,hS⟩:=J3 (hS.pull 2 rfl); dsimp only[List.eraseIdx]at hS
 refine Qa (Qb rfl rfl (Qk rfl rfl (Qg rfl Je rfl (Qo rfl Yc (hS.cell 2 rfl rfl) rfl (Qb rfl rfl ?_)))))
 rcases hq:Jv Lo nm with _ | m
 ·have hno:=H5 hO hq
  refine X2 (k:=nm) 0 hS keysStr Tryz.underlying156 rfl rfl rfl Uc (u:= .map none) (by simp [X4,hq]) rfl ?_
  refine Qb rfl rfl (G5 rfl rfl (by omega) (by omega) (by omega) rfl ?_)
  refine UB (k:=(i/ 64)) keysInt Tryz.underlying164 Jc rfl rfl rfl ?_
  rw[←Mf hno (i/ 64)]
  refine Qb rfl rfl (G4 rfl rfl (by omega) (by omega) rfl ?_)
  refine To (i%64).toNat Tryz.underlying167 UH ag_5 (by omega) (by omega) (cs:=((XD W nm (i/ 64)).map XS).toArray) (v:=XS ((XD W nm (i/ 64)).getD (i%64).toNat 0)) (FP (hI.len nm (i/ 64)) (by omega)) rfl rfl rfl ?_
  refine Qe rfl rfl (Qf (Qc (Qi [6] rfl (Qu (QQ (.inr rfl) rfl rfl ?_)))))
  exact⟨_,rfl, by rw[HF,if_pos (by simp_all)];rfl,WR hI hO (hS.reorder [0,1,2,3,4,5] rfl)⟩
 obtain⟨im,him⟩:=YG hq
 refine X2 (k:=nm) 0 hS keysStr Tryz.underlying156 rfl rfl rfl Uc (u:= .map (some m)) (by simp [X4,hq]) rfl ?_
 have hS3:=HW (i:=im) (A:=Wo W.objs (nm,m)) (hS.pull 1 rfl) (by simp [him]); dsimp only[List.eraseIdx,Wo]at hS3
 refine Qb rfl rfl (G5 rfl rfl (by omega) (by omega) (by omega) rfl ?_)
 refine X2 (k:=(i/ 64)) 0 hS3 keysInt Tryz.underlying164 rfl rfl rfl Jc (u:=WH (XD W nm (i/ 64))) (UP _ _) rfl (Qb rfl rfl (G4 rfl rfl (by omega) (by omega) rfl ?_))
 refine To (i%64).toNat Tryz.underlying167 UH ag_5 (by omega) (by omega) (cs:=((XD W nm (i/ 64)).map XS).toArray) (v:=XS ((XD W nm (i/ 64)).getD (i%64).toNat 0)) (FP (hI.len nm (i/ 64)) (by omega)) rfl rfl rfl ?_
 refine Qe rfl rfl (Qf (Qc (Qi [6] rfl (Qu (QQ (.inr rfl) rfl rfl ?_)))))
 exact⟨_,rfl, by rw[HF,if_pos (by simp_all)];rfl,HJ hI hO him (hS3.reorder [0,1,2,3,4,5,6] rfl)⟩
def GI (W:WS) (n:Bs) (q:Int) (s:Bs):WS:={W with objs:=KP W.objs n q s}
theorem BO {O:Bs→Int→Option Bs} {n:Bs} {q:Int} {s:Bs}: ∀k,k≠n→KP O n q s k=O k:= by
  intro k hk;funext j; simp [KP,hk]
theorem KV {O:Bs→Int→Option Bs} {n:Bs} {q:Int} {s:Bs}:ZT (KP O n q s n)=upd (ZT (O n)) q (if s=ZQ then none else some (WH s)):= by
  funext j
  by_cases hj:j=q
  · subst hj; rw[Z5];by_cases hs:s=ZQ<;> simp [ZT,KP,hs]
  · rw[WC hj]; simp [ZT,KP,hj]
theorem Vy {O:Bs→Int→Option Bs} {n:Bs} {q:Int} (h: ∀q,O n q=none):KP O n q ZQ=O:= by
  funext k j
  unfold KP
  split
  · rename_i hc; rw[hc.1,h]; simp
  · rfl
theorem WO {o:Int→Option Bs} {j:Int}:ZT o j=none↔o j=none:= by unfold ZT; cases o j<;> simp
theorem Ox {w:World} {p:Nat} {W:WS} {LL:WL} {Lo:List (Bs×Nat)} {F:Th} {n:Bs} {m im:Nat} {q:Int} {s:Bs} (hI:PagesOk W.objs) (hO:ObjL Lo W.objs) (him:Lo[im]? =some (n,m)) (hs:s=ZQ) (hq:0≤q∧q<256)
    (hc:Card (upd (ZT (W.objs n)) q none) 0) (h:Sat w [starL ((Lo.map (Wo W.objs)).eraseIdx im),Q3 Xp LL.bo (upd (X4 Lo) n none),QF p (Wf LL W.time),Q3 Xp LL.bc (X7 W.cells),Q3 Xp LL.bl (X7 W.logs),F]):Sat w [Xi p (GI W n q s),F]:= by
  subst hs
  refine Tl (hI.set (by rfl) hq) hO him (fun j=> ?_) BO h
  have h1:=hc.zero.1 rfl j
  have e:=KV (O:=W.objs) (n:=n) (q:=q) (s:=ZQ)
  rw[if_pos rfl]at e
  rw[←e]at h1
  exact WO.1 h1
theorem T5 {w:World} {p:Nat} {W:WS} {LL:WL} {Lo:List (Bs×Nat)} {F:Th} {n:Bs} {m im:Nat} {q:Int} {s:Bs} {g:Option Value} (hI:PagesOk W.objs) (hO:ObjL Lo W.objs) (him:Lo[im]? =some (n,m)) (hl:s.length=64) (hq:0≤q∧q<256) (hg:g= if s=ZQ then none else some (WH s))
    (hne: ∃j,upd (ZT (W.objs n)) q g j≠none) (h:Sat w [Q3 Xf m (upd (ZT (W.objs n)) q g),starL ((Lo.map (Wo W.objs)).eraseIdx im),Q3 Xp LL.bo (X4 Lo),QF p (Wf LL W.time),Q3 Xp LL.bc (X7 W.cells),Q3 Xp LL.bl (X7 W.logs),F]):Sat w [Xi p (GI W n q s),F]:= by
  subst hg
  rw[←KV]at h hne
  refine Dy (O':=KP W.objs n q s) (hI.set hl hq) hO.nodup ⟨hO.nodup, fun k=> ?_⟩ him BO h
  by_cases hk:k=n
  · subst hk
    obtain⟨j,hj⟩:=hne
    have h1:=(hO.has k).2 (RB hO him)
    exact⟨fun _=>⟨j, fun e=>hj (WO.2 e)⟩, fun _=>h1⟩
  · rw[BO k hk]; exact hO.has k
theorem El {w:World} {p:Nat} {W:WS} {LL:WL} {Lo:List (Bs×Nat)} {F:Th} {n:Bs} {b:Nat} {q:Int} {s:Bs} (hI:PagesOk W.objs) (hO:ObjL Lo W.objs) (hno:Jv Lo n=none) (hl:s.length=64) (hq:0≤q∧q<256) (hz:s≠ZQ)
    (h:Sat w [Q3 Xf b (upd (fun _=>none) q (some (WH s))),Q3 Xp LL.bo (upd (X4 Lo) n (some (.map (some b)))),starL (Lo.map (Wo W.objs)),QF p (Wf LL W.time),Q3 Xp LL.bc (X7 W.cells),Q3 Xp LL.bl (X7 W.logs),F]):Sat w [Xi p (GI W n q s),F]:= by
  have e:upd (fun _=>none) q (some (WH s))=ZT (KP W.objs n q s n):= by
    rw[KV,if_neg hz]
    congr 1
    funext j; exact(WO.2 (H5 hO hno j)).symm
  rw[e]at h
  refine So (hI.set hl hq) hO hno ⟨q, ?_⟩ BO h
  simp [KP,hz]
theorem TY:Tryz.prog.eqGuardType Tryz.prog.depth 167=false:= by kernel_rfl
theorem Ct {w:World} {p:Nat} {W:WS} {F:Th} (hS:Sat w [Xi p W,F]) (nm:Bs) (q:Int) (s:Bs) (hk:nm.length≤281474976710656) (hl:s.length=64) (hqb:0≤q∧q<256):
    Calls Tryz.prog 146 #[ptrV p 0,strV nm,intV q,WH s] w (Ret fun v w'=>v= .tuple #[]∧Sat w' [Xi p (GI W nm q s),F]):= by
 obtain⟨LL,hI,hS⟩:=W5 hS
 obtain⟨Lo,hO,hS⟩:=J3 (hS.pull 2 rfl); dsimp only[List.eraseIdx]at hS
 refine Qq Tryz.func146 rfl Tryz.ntmps146 rfl ?_
 refine Qd (Qa (XU hS rfl rfl rfl ?_))
 intro b1 w1 hS1
 refine Qf (Qc (Qd (Qa (Qb rfl rfl (Qk rfl rfl (Qg rfl Je rfl (Qo rfl Yc (hS1.cell 3 rfl rfl) rfl (Qb rfl rfl ?_))))))))
 rcases hq:Jv Lo nm with _ | m
 ·have hno:=H5 hO hq
  refine X2 (k:=nm) 1 hS1 keysStr Tryz.underlying156 rfl rfl rfl Uc (u:= .map none) (by simp [X4,hq]) rfl ?_
  refine Qe rfl rfl (Qf (Qc (Qi [2,1,0,7,8] rfl (Qd (Qd (Qa ?_))))))
  refine XA (cs:=(WH s).cells.toList) rfl Bl UI (hS1.blk 0 rfl) (by simp [WH,Value.cells,hl]) (vs:=s.map XS) (by simp only[WH,Value.cells,List.drop_zero]; exact List.take_of_length_le (by simp [hl])) rfl ?_
  refine Tr Tryz.underlying167 UH Jc rfl (Tp s ZQ Tryz.underlying167 Tryz.underlying5 UH ag_5 TY hl rfl rfl rfl rfl (Qf (Qc (Qs rfl (fun h3=> ?_) (fun h3=> ?_)))))
  ·have hz:s=ZQ:=h3
   refine Qd (Qa (Qb rfl rfl (Qb rfl rfl (Co (k:=q) keysInt Tryz.underlying164 rfl rfl rfl (Qf (Qc (Qd (Qd (Qa (Qb rfl rfl (NB Tryz.underlying164 rfl rfl (QX rfl rfl rfl (Qf (Qc (Qi [2,1,0,7,8,22] rfl (Qs rfl (fun h4=> ?_) (fun h4=> ?_)))))))))))))))))
   ·refine Qa (Qb rfl rfl (Qk rfl rfl (Qg rfl Je rfl (Qo rfl Yc (hS1.cell 3 rfl rfl) rfl (Qb rfl rfl (Ji (k:=nm) 1 hS1 keysStr Tryz.underlying156 rfl rfl rfl rfl ?_))))))
    intro w5 hS5; dsimp only[List.set]at hS5
    clear hS1
    refine Qf (Qc (Qi [2,1,0,7,8] rfl (Qu (Qn (ZB (.inr rfl) rfl ?_)))))
    rw[show upd (X4 Lo) nm none=X4 Lo from Bx hq]at hS5
    exact⟨_,rfl,rfl, by rw[show GI W nm q s=W by rw[GI,hz,Vy hno]]; exact WR hI hO (hS5.pick [1,2,3,4,5,6] rfl)⟩
   refine Qr (Qc (Qu (Qn (ZB (.inr rfl) rfl ?_))))
   exact⟨_,rfl,rfl, by rw[show GI W nm q s=W by rw[GI,hz,Vy hno]]; exact WR hI hO (hS1.pick [1,2,3,4,5,6] rfl)⟩
  have hz:s≠ZQ:=h3
  refine Qr (Qc (Qd (Qd (Qa (Qb rfl rfl (Vg Tryz.underlying164 rfl rfl rfl (Qf (Qc (Xr rfl (Qd (Qa (Za Xf hS1 rfl ?_))))))))))))
  intro b6 w6 hS6
  clear hS1
  refine Qe rfl rfl (Qf (Qc (Qi [2,1,0,7,8] rfl ?_)))
  have hS7:=hS6.drew
  refine QJ [0,1,2,3,4,6,5,7] [5,7] Wp (by kernel_rfl) ?_
  refine QE rfl rfl rfl (Xl rfl rfl rfl (QT rfl rfl rfl Je (Q9 rfl rfl rfl (Qm rfl Yc (hS7.cell 4 rfl rfl)) (QE rfl rfl rfl (QE rfl rfl rfl (Xj rfl rfl rfl rfl rfl rfl ?_))))))
  refine Qv Fp rfl (MF (hS7.sp [] rfl) nm hk) rfl ?_
  rintro _ w8 ⟨rfl,hS8⟩
  replace hS8:=hS8.jn rfl rfl
  clear hS7
  refine X6 (.cons (.inl ⟨rfl,(Qm rfl Yc (hS8.cell 4 rfl rfl))⟩) .nil) (Xj rfl rfl rfl rfl rfl rfl ?_)
  refine Xk (k:=nm) 2 hS8 keysStr Tryz.underlying156 rfl rfl rfl rfl ?_
  intro w9 hS9; dsimp only[List.set]at hS9
  clear hS8
  refine Zx (Xq (by kernel_rfl)) ?_
  refine VC.nil (Qc (Qi [2,7,8] rfl (Qa (Qb rfl rfl (Qb rfl rfl ?_)))))
  refine XA (cs:=(WH s).cells.toList) rfl Bl UI (hS9.blk 1 rfl) (by simp [WH,Value.cells,hl]) (vs:=s.map XS) (by simp only[WH,Value.cells,List.drop_zero]; exact List.take_of_length_le (by simp [hl])) rfl ?_
  refine Xk (k:=q) 0 hS9 keysInt Tryz.underlying164 rfl rfl rfl rfl ?_
  intro w10 hS10; dsimp only[List.set]at hS10
  clear hS9
  exact Qf (ZB (.inl rfl) rfl (⟨_,rfl,rfl,El hI hO hq hl hqb hz (hS10.pick [0,2,3,4,5,6,7] rfl)⟩))
 obtain⟨im,him⟩:=YG hq
 refine X2 (k:=nm) 1 hS1 keysStr Tryz.underlying156 rfl rfl rfl Uc (u:= .map (some m)) (by simp [X4,hq]) rfl ?_
 have hS2:=HW (i:=im) (A:=Wo W.objs (nm,m)) (hS1.pull 2 rfl) (by simp [him]); dsimp only[List.eraseIdx,Wo]at hS2
 clear hS1
 refine Qe rfl rfl (Qf (Qc (Qi [2,1,0,7,8] rfl (Qd (Qd (Qa ?_))))))
 refine XA (cs:=(WH s).cells.toList) rfl Bl UI (hS2.blk 2 rfl) (by simp [WH,Value.cells,hl]) (vs:=s.map XS) (by simp only[WH,Value.cells,List.drop_zero]; exact List.take_of_length_le (by simp [hl])) rfl ?_
 refine Tr Tryz.underlying167 UH Jc rfl (Tp s ZQ Tryz.underlying167 Tryz.underlying5 UH ag_5 TY hl rfl rfl rfl rfl (Qf (Qc (Qs rfl (fun h11=> ?_) (fun h11=> ?_)))))
 ·have hz:s=ZQ:=h11
  refine Qd (Qa (Qb rfl rfl (Qb rfl rfl (Ji (k:=q) 0 hS2 keysInt Tryz.underlying164 rfl rfl rfl rfl ?_))))
  intro w12 hS12; dsimp only[List.set]at hS12
  clear hS2
  refine Qf (Qc (Qd (Qd (Qa (Qb rfl rfl (FE 0 hS12 Tryz.underlying164 keysInt.inj rfl rfl rfl ?_))))))
  intro cn hcn
  refine QX rfl rfl rfl (Qf (Qc (Qi [2,1,0,7,8,22] rfl (Qs rfl (fun h13=> ?_) (fun h13=> ?_)))))
  ·refine Qa (Qb rfl rfl (Qk rfl rfl (Qg rfl Je rfl (Qo rfl Yc (hS12.cell 4 rfl rfl) rfl (Qb rfl rfl (Ji (k:=nm) 3 hS12 keysStr Tryz.underlying156 rfl rfl rfl rfl ?_))))))
   intro w14 hS14; dsimp only[List.set]at hS14
   clear hS12
   refine Qf (Qc (Qi [2,1,0,7,8] rfl (Qu (Qn (ZB (.inr rfl) rfl ?_)))))
   have hc0:cn=0:= by omega
   subst hc0
   exact⟨_,rfl,rfl,Ox hI hO him hz hqb hcn (hS14.pick [1,3,4,5,6,7] rfl)⟩
  refine Qr (Qc (Qu (Qn (ZB (.inr rfl) rfl ?_))))
  have hex: ∃j,upd (ZT (W.objs nm)) q none j≠none:=Classical.byContradiction fun hh=>absurd (hcn.zero.2 fun k=>Classical.byContradiction fun q1=>hh ⟨k,q1⟩) (by omega)
  exact⟨_,rfl,rfl,T5 hI hO him hl hqb (by rw[if_pos hz]) hex (hS12.pick [0,1,3,4,5,6,7] rfl)⟩
 have hz:s≠ZQ:=h11
 refine Qr (Qc (Qd (Qd (Qa (Qb rfl rfl (UC Tryz.underlying164 rfl rfl rfl (Qf (Qc (QV rfl (Qr (Qc (Qa (Qb rfl rfl (Qb rfl rfl ?_))))))))))))))
 refine XA (cs:=(WH s).cells.toList) rfl Bl UI (hS2.blk 2 rfl) (by simp [WH,Value.cells,hl]) (vs:=s.map XS) (by simp only[WH,Value.cells,List.drop_zero]; exact List.take_of_length_le (by simp [hl])) rfl ?_
 refine Xk (k:=q) 0 hS2 keysInt Tryz.underlying164 rfl rfl rfl rfl ?_
 intro w15 hS15; dsimp only[List.set]at hS15
 clear hS2
 refine Qf (ZB (.inl rfl) rfl ?_)
 exact⟨_,rfl,rfl,T5 hI hO him hl hqb (by rw[if_neg hz];rfl) ⟨q, by rw[Z5]; simp⟩ (hS15.pick [0,1,3,4,5,6,7] rfl)⟩
end Go.Proofs.YtkcjfoaejijdoaaGreatDoor
