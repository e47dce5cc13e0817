/- laws of leaves: small -/
import Derived.Test.YtkcjfoaejijdoaaGreatDoorLv33
import Derived.Test.YtkcjfoaejijdoaaGreatDoorShelf
import Derived.Test.YtkcjfoaejijdoaaGreatDoorFw
import Derived.Test.YtkcjfoaejijdoaaGreatDoorLv20
import Derived.Test.YtkcjfoaejijdoaaGreatDoorDrs
import Derived.Test.YtkcjfoaejijdoaaGreatDoorSh7
import Derived.Test.YtkcjfoaejijdoaaGreatDoorLv51
set_option linter.unusedSectionVars false
set_option linter.unusedVariables false
set_option maxRecDepth 100000
set_option maxHeartbeats 1600000
namespace Go.Proofs.YtkcjfoaejijdoaaGreatDoor
open Go.RowKit M Proofs.Tryz
variable [Inhabited SlW]
def kO:KD:=([111],0)
theorem sees_nzero {A:LvA} {k:KD} {n:Nat}:Yz A (n+1) 0 k=A.pres k:= by rw[Yz,if_pos U]
def Lf1 (A:LvA) (i:Int) (page own:Bs) (r w:BitVec 64):Prop:= ∃lv,A.tr i=some ⟨0,lv, fun _=>false⟩∧(∀k,k≠kO→lv k=none)∧((lv kO=none∧r=0#64∧w=0#64∧own=page)∨lv kO=some ⟨page,own,r,w⟩)
section
variable {A:LvA} {i j:Int} {page own own' o1 o2:Bs} {r w r' w' r1 w1 r2 w2 x y:BitVec 64} {k:KD} {q:Nat}
theorem Lf1.tou (h:Lf1 A i page own r w) (hp:A.pres kO=page) (h0:i≠0):Z0 A i kO=⟨page,own,r,w⟩:= by
  obtain⟨lv,ht,hk,hl⟩:=h
  rcases hl with⟨a,rfl,rfl,rfl⟩ | a
  · rw[Gu ht a]
    have h1:Wq A i kO=own:= by
      unfold Wq
      rw[Yz,if_neg h0,ht]
      dsimp only
      rw[a]
      dsimp only
      rw[if_neg (by simp)]
      exact(show Yz A (99999+1) 0 kO=own from sees_nzero.trans hp)
    rw[h1]
    rfl
  · exact Um ht a
theorem Lf1.put (h:Lf1 A i page own r w):Lf1 (ZJ A i kO ⟨page,own',r',w'⟩) i page own' r' w':= by
  obtain⟨lv,ht,hk,_⟩:=h
  exact⟨Xu lv kO (some ⟨page,own',r',w'⟩), by rw[Wg ht]; exact Qy, fun k e=> by rw[QF e]; exact hk k e,.inr Qy⟩
theorem Lf1.oth {y:LfA} (h:Lf1 A j page own r w) (hne:j≠i):Lf1 (ZJ A i k y) j page own r w:= by
  obtain⟨lv,ht,hk,hl⟩:=h
  exact⟨lv, by rw[HX hne]; exact ht,hk,hl⟩
def SB (A:LvA) (page o1:Bs) (r1 w1:BitVec 64) (o2:Bs) (r2 w2:BitVec 64):Prop:=A.pres kO=page∧Lf1 A 1 page o1 r1 w1∧Lf1 A 2 page o2 r2 w2∧ ∀i,i≠1→i≠2→A.tr i=none
theorem LF {y:LfA} (h:A.tr j=none):(ZJ A i k y).tr j=none:= by
  by_cases e:j=i
  · subst e;unfold ZJ; rw[h]; exact h
  · rw[HX e]; exact h
theorem SB.put1 (h:SB A page o1 r1 w1 o2 r2 w2):SB (ZJ A 1 kO ⟨page,own',r',w'⟩) page own' r' w' o2 r2 w2:=
  ⟨by rw[G7]; exact h.1,h.2.1.put,h.2.2.1.oth (by decide), fun j a b=>LF (h.2.2.2 j a b)⟩
def MW (x w:BitVec 64) (i:Nat):Prop:= ∀j,j<64→w.getLsbD j=(x.getLsbD j&&decide (j<i))
theorem MW.zero:MW x 0#64 0:= fun j _=> by simp
theorem T9 {i j:Nat} (hj:j<64):(w ||| (1#64<<<i)).getLsbD j=(w.getLsbD j || decide (j=i)):= by
  rw[BitVec.getLsbD_or,BitVec.getLsbD_shiftLeft,BitVec.getLsbD_one]
  congr 1
  by_cases h:j=i
  · subst h; simp [hj]
  · by_cases h2:j<i
    · simp [h2,h]
    · have :j -i≠0:= by omega
      simp [h2,h,this]
theorem MW.T (h:MW x w q) (hb:x.getLsbD q=true):MW x (w ||| (1#64<<<q)) (q+1):= fun j hj=> by
  rw[T9 hj,h j hj]
  by_cases e:j=q
  · subst e; simp [hb]
  · have h1:decide (j<q+1)=decide (j<q):= by
      by_cases f:j<q
      · rw[Xm f,Xm (by omega)]
      · rw[Q7 f,Q7 (by omega)]
    rw[h1]; simp [e]
theorem MW.F (h:MW x w q) (hb:x.getLsbD q=false):MW x w (q+1):= fun j hj=> by
  rw[h j hj]
  by_cases e:j=q
  · subst e; simp [hb]
  · have h1:decide (j<q+1)=decide (j<q):= by
      by_cases f:j<q
      · rw[Xm f,Xm (by omega)]
      · rw[Q7 f,Q7 (by omega)]
    rw[h1]
theorem MW.fin (h:MW x w 64):w=x:=BitVec.eq_of_getLsbD_eq fun j hj=> by rw[h j hj]; simp [hj]
theorem B9 {now own:Bs} {j:Nat} (hj:j<64):(R7 now own w)[j]? =some (if w.getLsbD j=true then own.getD j 0 else now.getD j 0):= by
  unfold R7
  rw[List.getElem?_map,List.getElem?_range hj]
  rfl
theorem Nt {l:Bs} {j:Nat} {v:UInt8} (h:l[j]? =some v):l.getD j 0=v:= by simp [List.getD,h]
theorem D3 {now own:Bs} (hl:now.length=64):R7 now own 0#64=now:= by
  apply List.ext_getElem?
  intro j
  by_cases hj:j<64
  · rw[B9 hj,getD_some (by omega)]; simp
  · rw[List.getElem?_eq_none (by rw[UK];omega),List.getElem?_eq_none (by omega)]
theorem Lf1.com {t:TrA} (h:Lf1 A i page own r w) (ht:A.tr i=some t) (hl:(A.pres kO).length=64):PY A t kO=R7 (A.pres kO) own w:= by
  obtain⟨lv,h1,hk,h2⟩:=h
  rw[h1]at ht
  cases ht
  unfold PY
  rcases h2 with⟨a,rfl,rfl,rfl⟩ | a
  · dsimp only; rw[a]; dsimp only; rw[if_neg (by simp),D3 hl]
  · dsimp only; rw[a]; dsimp only
    by_cases e:w=0#64
    · subst e; rw[if_pos U,if_neg (by simp),D3 hl]
    · rw[if_neg e]
theorem Lf1.parent (h:Lf1 A i page own r w) {t:TrA} (ht:A.tr i=some t):t.parent=0∧ ∀ob,t.dr ob=false:= by
  obtain⟨lv,h1,_⟩:=h
  rw[h1]at ht
  cases ht
  exact⟨rfl, fun _=>rfl⟩
theorem Lf1.get (h:Lf1 A i page own r w): ∃t,A.tr i=some t:= by obtain⟨lv,h1,_⟩:=h; exact⟨_,h1⟩
theorem Lf1.part (h:Lf1 A i page own r w) {t:TrA} (ht:A.tr i=some t): ∀k x,t.lv k=some x→k=kO:= fun k x hx=> by
  obtain⟨lv,h1,hk,_⟩:=h
  rw[h1]at ht
  cases ht
  exact Classical.byContradiction fun e=> by
    have h3:lv k=some x:=hx
    rw[hk k e]at h3; cases h3
theorem Lf1.rest (h:Lf1 A j page own r w) (hne:j≠i) {P:KD→Bs}:Lf1 ⟨P,Xu A.tr i none⟩ j page own r w:= by
  obtain⟨lv,h1,hk⟩:=h
  exact⟨lv, by show Xu A.tr i none j=_; rw[QF hne]; exact h1,hk⟩
theorem Lf1.valid (h:Lf1 A i page own r w) {t:TrA} (ht:A.tr i=some t):VA A t↔ ∀j,j<64→r.getLsbD j=true→page[j]? =(A.pres kO)[j]? := by
  obtain⟨lv,h1,hk,h2⟩:=h
  rw[h1]at ht
  cases ht
  constructor
  · intro hv q hq hr
    rcases h2 with⟨_,rfl,_⟩ | a
    · simp at hr
    · have :=hv kO _ a q hq hr
      rw[KJ]at this
      exact this
  · intro hv k z hz q hq hr
    have e:k=kO:=Classical.byContradiction fun e=> by
      have :lv k=some z:=hz
      rw[hk k e]at this; cases this
    subst e
    show z.base[q]? =(Wq A 0 kO)[q]?
    rw[KJ]
    rcases h2 with⟨a,_⟩ | a
    · have :lv kO=some z:=hz
      rw[a]at this; cases this
    · have :lv kO=some z:=hz
      rw[a]at this; cases this
      exact hv q hq hr
end
def p7:Bs:=zer.set 5 7
def kP:KD:=([112],3)
structure SmI (A:LvA) (P own:Bs) (r w:BitVec 64):Prop where
  pr:A.pres kO=P
  tr: ∃lv,A.tr 1=some ⟨0,lv, fun _=>false⟩∧lv kO=some ⟨p7,own,r,w⟩∧ ∀k,k≠kO→lv k=none
  ot: ∀i,i≠1→A.tr i=none
section
variable {A:LvA} {P own own':Bs} {r w r' w':BitVec 64}
theorem SmI.tou (h:SmI A P own r w):Z0 A 1 kO=⟨p7,own,r,w⟩:= by
  obtain⟨lv,a,b,_⟩:=h.tr
  exact Um a b
theorem SmI.lf (h:SmI A P own r w):Lf1 A 1 p7 own r w:= by
  obtain⟨lv,a,b,c⟩:=h.tr
  exact⟨lv,a,c,.inr b⟩
theorem SmI.wr (h:SmI A P own r w) (a:Int) (b:UInt8):SmI (wrP A kO a b) (P.set a.toNat b) own r w:=
  ⟨by unfold wrP; dsimp only; rw[XF,h.pr],h.tr,h.ot⟩
theorem Aq (h:Lf1 A 1 p7 own r w) (hp:A.pres kO=P) (ho: ∀i,i≠1→A.tr i=none):SmI (ZJ A 1 kO ⟨p7,own',r',w'⟩) P own' r' w':= by
  obtain⟨lv,a,c,_⟩:=h
  refine⟨by rw[G7]; exact hp,⟨Xu lv kO (some ⟨p7,own',r',w'⟩), by rw[Wg a]; exact Qy,Qy, fun k e=> by rw[QF e]; exact c k e⟩, fun i hi=> by rw[HX hi]; exact ho i hi⟩
theorem SmI.put (h:SmI A P own r w):SmI (ZJ A 1 kO ⟨p7,own',r',w'⟩) P own' r' w':=Aq h.lf h.pr h.ot
theorem SmI.get (h:SmI A P own r w): ∃t,A.tr 1=some t:=h.lf.get
end
theorem dr_none {A:LvA} (h: ∀i t,A.tr i=some t→ ∀ob,t.dr ob=false):DrA A:= fun i t k x ht hd _=> by rw[h i t ht k.1]at hd; cases hd
theorem Eo {t:TrA} (h: ∀ob,t.dr ob=false):DrLe t 0:=⟨[],Nat.le_refl _, fun ob hd=> by rw[h ob]at hd; cases hd⟩
theorem Oe {t:TrA} (h: ∀k x,t.lv k=some x→k=kO):PartLe t 1:=⟨[kO],Nat.le_refl _, fun k x hx _ _=> by rw[h k x hx]; simp⟩
theorem Cp {A:LvA} {i:Int} (hi:1≤i) (h:A.tr i=none):Mw A i 0=0∧Bx A i 0={A with tr:=Xu A.tr i (some ⟨0, fun _=>none, fun _=>false⟩)}:= by
  have e:Mw A i 0=0:= by
    unfold Mw
    rw[if_neg (by omega),h,if_neg (by simp),if_neg (by simp [Tu])]
  exact⟨e, by unfold Bx; rw[if_pos e]⟩
theorem Py {m:Nat} {L L':LvD} {V V':VS} {q:Nat} {x0 x3:Int} (hI:LvI m L V) (hI':LvI m L' V') (hx0:x0=0) (hx3:x3=3) (hp:L'.pres=Iy L.pres [112] (3+max 0 (-3)) (Bi L [111] (0+max 0 (-3)) q) q) (hq:max 0 (-3)+(q:Int)=min 1 (256 -3)∨(q=0∧min (1:Int) (256 -3)≤max 0 (-3))) (hne:XH V (L.pres kO)≠zer):
    (Xo L' 0 ([111],x0)=L.pres kO∧Vp L' V' 0 ([111],x0)=false)∧(Xo L' 0 ([112],x3)=L.pres kO∧Vp L' V' 0 ([112],x3)=false)∧L.pres kO≠0:= by
  subst hx0; subst hx3
  have hq1:q=1:= by omega
  subst hq1
  have h0:L.pres kO≠0:= fun e=>hne (by rw[e]; exact Wk hI.zero)
  have e1:Bi L [111] (0+max 0 (-3)) 1=[L.pres kO]:= by
    have e0:max (0:Int) (-3)=0:= by decide
    unfold Bi PV
    rw[e0]
    simp [kO]
  have e2:L'.pres=Z6 L.pres kP (L.pres kO):= by
    rw[hp,e1]
    show Z6 L.pres ([112],3+max 0 (-3)+((0:Nat):Int)) (([L.pres kO]:List Int).getD 0 0)=_
    rfl
  have a1:L'.pres kO=L.pres kO:= by rw[e2];unfold Z6; rw[if_neg (by decide)]
  have a2:L'.pres kP=L.pres kO:= by rw[e2];unfold Z6; rw[if_pos U]
  have s1:Xo L' 0 kO=L.pres kO:=(Yo U).trans a1
  have s2:Xo L' 0 kP=L.pres kO:=(Yo U).trans a2
  have hr:Zm V' (L.pres kO)≠1:= fun e=> by
    have :=hI'.ref.excl e U h0 (show QP L' (.inl kO)=L.pres kO from a1) (.inl kP) a2
    exact absurd this (by decide)
  refine⟨⟨s1, ?_⟩,⟨s2, ?_⟩,h0⟩
  · show Vp L' V' 0 kO=false
    unfold Vp; rw[s1]; simp [hr]
  · show Vp L' V' 0 kP=false
    unfold Vp; rw[s2]; simp [hr]
theorem Ng {w:World} {b p n m c e:Nat} {A:LvA} {F:Th} (hS:Sat w [GE b p n m c e A,F]) (hn:n≤60000000000) (hm:m<Zg) (a:Int) (hr:0≤a∧a<64):
    Calls prog 12 #[ptrV b 0,intV 0,strV [111],intV a] w (Ret fun v w'=>v=WA (Ph (A.pres kO) a)∧Sat w' [GE b p n m c e A,F]):= by
  refine(O8 hS hn hm [111] a (by omega)).mono fun ew w h=>h.mono fun v w h=> ?_
  have e1:a/ 64=0:= by omega
  have e2:a%64=a:= by omega
  rw[e1,e2]at h
  exact h
theorem Nf {w:World} {b p n m c e:Nat} {A:LvA} {F:Th} (hS:Sat w [GE b p n m c e A,F]) (hn:n≤60000000000) (hm:m<Zg) {id:Int} {tA:TrA} (ht:A.tr id=some tA) (a:Int) (hr:0≤a∧a<64):
    Calls prog 12 #[ptrV b 0,intV id,strV [111],intV a] w (Ret fun v w'=>v=WA (Ph (Z0 A id kO).own a)∧ ∃A',A'=ZJ A id kO (rdX (Z0 A id kO) a)∧Sat w' [GE b p (n+2) m c (e+1) A',F]):= by
  refine(O7 hS hn hm ht [111] a (by omega)).mono fun ew w h=>h.mono fun v w h=> ?_
  have e1:a/ 64=0:= by omega
  have e2:a%64=a:= by omega
  rw[e1,e2]at h
  exact⟨h.1,_,U,h.2⟩
theorem D6 {w:World} {b p n m c e:Nat} {A:LvA} {F:Th} (hS:Sat w [GE b p n m c e A,F]) (hn:n≤60000000000) (hm:m<Zg) (hc:c+1<256) (a:Int) (hr:0≤a∧a<64) (bt:UInt8):
    Calls prog 10 #[ptrV b 0,intV 0,strV [111],intV a,WA bt] w (Ret fun v w'=>v=intV 0∧ ∃A',A'=wrP A kO a bt∧Sat w' [GE b p (n+5) m (c+1) (e+1) A',F]):= by
  refine(O6 hS hn hm hc [111] a bt (by omega)).mono fun ew w h=>h.mono fun v w h=> ?_
  have e1:a/ 64=0:= by omega
  have e2:a%64=a:= by omega
  rw[e1,e2]at h
  exact⟨h.1,_,U,h.2⟩
theorem OA {w:World} {b p n m c e:Nat} {A:LvA} {F:Th} (hS:Sat w [GE b p n m c e A,F]) (hn:n≤60000000000) (hm:m<Zg) (hc:c+1<256) {id:Int} {tA:TrA} (ht:A.tr id=some tA) (a:Int) (hr:0≤a∧a<64) (bt:UInt8):
    Calls prog 10 #[ptrV b 0,intV id,strV [111],intV a,WA bt] w (Ret fun v w'=>v=intV 0∧ ∃A',A'=ZJ A id kO (wrX (Z0 A id kO) a bt)∧Sat w' [GE b p (n+5) m (c+1) (e+1) A',F]):= by
  refine(O5 hS hn hm ht hc [111] a bt (by omega)).mono fun ew w h=>h.mono fun v w h=> ?_
  have e1:a/ 64=0:= by omega
  have e2:a%64=a:= by omega
  rw[e1,e2]at h
  exact⟨h.1,_,U,h.2⟩
theorem Ap {w:World} {F:Th} (hS:Sat w [F]) (hG:Ent F GT):
    Calls prog 8 #[] w (Ret fun v w'=>v= .bool true∧Sat w' [F]):= by
 letI:Inhabited SlW:=⟨⟨4096⟩⟩
 refine Qm func8 U ntmps8 U ?_
 refine Qd (Qa (Qe U U (Qf (Qc (Qd (Qa (Qv cal_9 U (CQ (hS.sp [] U) U) U ?_)))))))
 rintro _ w1 ⟨b,p,mp,mt,ms,rfl,j1⟩
 replace j1:=j1.jn U U
 have hz0:=AM (j1.pick [0,1,2] U)
 refine Qb U U (Qn U U U (Qn U U U (Qe U U (Qe U U (Qf (Qc (Qd (Qd (Qa (Qb U U (ZO underlying24 U U U (Qf (Qc (QR U (Qs (Qc (Qd (Qa (Qb U U ?_)))))))))))))))))))
 have hC2:=hz0.sp [0] U
 refine Qv GR U (D6 hC2 (by omega) (by decide) (by omega) 5 (by omega) 7) U ?_
 rintro _ w2 ⟨rfl,A1,hA1,j2⟩
 replace j2:=j2.jn U U; clear hC2
 clear hz0
 have q1:A1.pres kO=p7:= by rw[hA1];unfold wrP; dsimp only; rw[XF];rfl
 have q2: ∀i,A1.tr i=none:= fun i=> by rw[hA1];rfl
 obtain⟨be1,be2⟩:=Cp (i:=1) (by omega) (q2 1)
 refine Qf (Qc (Qh [0,1] U (Qd (Qa (Qb U U (Qv IU U (O9 (j2.sp [0] U) (by omega) (by decide) 1 0) U ?_))))))
 rintro _ w3 ⟨rfl,j3⟩
 replace j3:=j3.jn U U
 rw[be1]
 rw[be2]at j3
 obtain⟨A2,hA2⟩: ∃A,A=({A1 with tr:=Xu A1.tr 1 (some ⟨0, fun _=>none, fun _=>false⟩)}:LvA):=⟨_,rfl⟩
 rw[←hA2]at j3
 have f2:Lf1 A2 1 p7 p7 0#64 0#64:=⟨fun _=>none, by rw[hA2]; exact Qy, fun _ _=>rfl,.inl ⟨rfl,rfl,rfl,rfl⟩⟩
 have p2:A2.pres kO=p7:= by rw[hA2]; exact q1
 have o2: ∀i,i≠1→A2.tr i=none:= fun i hi=> by rw[hA2]; exact(QF hi).trans (q2 i)
 obtain⟨t2,ht2⟩:=f2.get
 have to2:=f2.tou p2 (by decide)
 refine Qe U U (Qf (Qc (Qd (Qa (Qb U U (Qv GR U (OA (j3.sp [0] U) (by omega) (by decide) (by omega) ht2 6 (by omega) 8) U ?_))))))
 rintro _ w4 ⟨rfl,A3,hA3,j4⟩
 replace j4:=j4.jn U U
 rw[to2]at hA3
 have k3:SmI A3 p7 (p7.set 6 8) 0#64 (1#64<<<6):= by rw[hA3]; exact Aq f2 p2 o2
 refine Qf (Qc (Qd (Qa (Qb U U (Qv GQ U (Ng (j4.sp [0] U) (by omega) (by decide) 6 (by omega)) U ?_)))))
 rintro _ w5 ⟨rfl,j5⟩
 replace j5:=j5.jn U U
 rw[k3.pr]
 obtain⟨t3,ht3⟩:=k3.get
 refine Qe U U (Qf (Qc (Qd (Qa (Qb U U (Qv GQ U (Nf (j5.sp [0] U) (by omega) (by decide) ht3 5 (by omega)) U ?_))))))
 rintro _ w6 ⟨rfl,A4,hA4,j6⟩
 replace j6:=j6.jn U U
 rw[k3.tou]at hA4⊢
 have k4:SmI A4 p7 (p7.set 6 8) (1#64<<<5) (1#64<<<6):= by rw[hA4]; exact k3.put
 refine Qe U U (Qf (Qc (Qh [0,1,3,4,5] U (Qd (Qa (Qb U U (Qv GR U (D6 (j6.sp [0] U) (by omega) (by decide) (by omega) 5 (by omega) 9) U ?_)))))))
 rintro _ w7 ⟨rfl,A5,hA5,j7⟩
 replace j7:=j7.jn U U
 have k5:=k4.wr 5 9
 rw[←hA5]at k5
 obtain⟨t5,ht5⟩:=k5.get
 refine Qf (Qc (Qd (Qa (Qb U U (Qv GQ U (Nf (j7.sp [0] U) (by omega) (by decide) ht5 5 (by omega)) U ?_)))))
 rintro _ w8 ⟨rfl,A6,hA6,j8⟩
 replace j8:=j8.jn U U
 rw[k5.tou]at hA6⊢
 have k6:SmI A6 (p7.set 5 9) (p7.set 6 8) (1#64<<<5) (1#64<<<6):= by rw[hA6]; exact k5.put
 obtain⟨t6,ht6⟩:=k6.get
 refine Qe U U (Qf (Qc (Qd (Qa (Qb U U (Qv Cm U (Nd (j8.sp [0] U) (by omega) (by decide) (hG.starL 0 U) ht6) U ?_))))))
 rintro _ w9 ⟨r6,rfl,hr6,j9⟩
 replace j9:=j9.jn U U
 have hr6f:r6=false:= by cases r6 with | false=>rfl | true=> exact absurd ((k6.lf.valid ht6).1 (hr6.1 U) 5 (by decide) (by decide)) (by rw[k6.pr];decide)
 subst hr6f
 refine Qe U U (Qf (Qc (Qh [0,1,3,4,5,6,7] U (Qd (Qa (Qb U U (Qv GR U (D6 (j9.sp [0] U) (by omega) (by decide) (by omega) 5 (by omega) 7) U ?_)))))))
 rintro _ w10 ⟨rfl,A7,hA7,j10⟩
 replace j10:=j10.jn U U
 have k7:=k6.wr 5 7
 rw[←hA7]at k7
 rw[show((p7.set 5 9).set (5:Int).toNat 7)=p7 by decide]at k7
 obtain⟨t7,ht7⟩:=k7.get
 refine Qf (Qc (Qd (Qa (Qb U U (Qv Cm U (Nd (j10.sp [0] U) (by omega) (by decide) (hG.starL 0 U) ht7) U ?_)))))
 rintro _ w11 ⟨r7,rfl,hr7,j11⟩
 replace j11:=j11.jn U U
 have hr7t:r7=true:=hr7.2 ((k7.lf.valid ht7).2 fun j _ _=> by rw[k7.pr])
 subst hr7t
 have pa7:=k7.lf.parent ht7
 have un7: ∀i u,A7.tr i=some u→i=1:= fun i u hu=>Classical.byContradiction fun q=> by rw[k7.ot i q]at hu; cases hu
 refine Qe U U (Qf (Qc (Qh [0,1,3,4,5,6,7,8] U (Qd (Qa (Qb U U ?_))))))
 refine Qv IT U (ls_com0 (d:=0) (q:=1) (j11.sp [0] U) (by omega) (by decide) (by omega) (by omega) ht7 pa7.1 (fun i u hu=> by have e:=un7 i u hu; subst e; rw[ht7]at hu; cases hu; rw[pa7.1];decide) (dr_none fun i t ht=> by have e:=un7 i t ht; subst e; exact(k7.lf.parent ht).2) (Eo pa7.2) (Oe (k7.lf.part ht7)) (by omega)) U ?_
 rintro _ w12 ⟨rfl,j12⟩
 replace j12:=j12.jn U U
 have k8:=k7.lf.com ht7 (by rw[k7.pr];decide)
 rw[k7.pr]at k8
 obtain⟨A8,hA8⟩: ∃A,A=(⟨PY A7 t7,Xu A7.tr 1 none⟩:LvA):=⟨_,rfl⟩
 rw[←hA8]at j12
 have k9:A8.pres kO=R7 p7 (p7.set 6 8) (1#64<<<6):= by rw[hA8]; exact k8
 refine Qe U U (Qf (Qc (Qd (Qa (Qb U U (Qv GQ U (Ng (j12.sp [0] U) (by omega) (by decide) 6 (by omega)) U ?_))))))
 rintro _ w13 ⟨rfl,j13⟩
 replace j13:=j13.jn U U
 rw[k9]
 refine Qe U U (Qf (Qc (Qh [0,1,3,4,5,6,7,8,9,10] U (Qd ?_))))
 obtain⟨L,V,⟨g1,g2,g3,g4,g5⟩,hz1⟩:=Hb (j13.pick [0,1] rfl)
 refine Qa (Qb U U ?_)
 have hC14:=hz1.sp [0,1] U
 refine Qv IL U (NI hC14 (by omega) g2 (by decide) [111] [112] 0 1 3 (by omega) (by omega) (by omega)) U ?_
 rintro _ w14 ⟨L2,V2,q,hq1,hq2,hq3,hq4,j14⟩
 replace j14:=j14.jn U U; clear hC14
 clear hz1
 have hne:XH V (L.pres kO)≠zer:= by intro hh; have h8:=k9; rw[←g3]at h8; have h9:XH V (L.pres kO)=R7 p7 (p7.set 6 8) (1#64<<<6):=h8; rw[hh]at h9; exact absurd h9 (by decide)
 obtain⟨⟨y1,y2⟩,⟨y3,y4⟩,y5⟩:=Py (x0:=0) (x3:=3) g2 hq1.inv rfl rfl hq2 hq4 hne
 refine Qf (Qc (Qd (Qa (Qb U U (Qv Cc U (G0 (j14.sp [0,1] U) (hq1.inv.rank.ends (by decide)) [111] 0 (by simp [W6,Zk])) U ?_)))))
 rintro _ w15 ⟨rfl,j15⟩
 replace j15:=j15.jn U U
 rw[y1,y2]
 refine Qb U U (Qn U U U (Qn U U U (Qe U U (Qe U U (Qf (Qc (Qh [0,1,3,4,5,6,7,8,9,10,11,12] U (Qd (Qa (Qb U U (Qv Cc U (G0 (j15.sp [0,1] U) (hq1.inv.rank.ends (by decide)) [112] 3 (by simp [W6,Zk])) U ?_)))))))))))
 rintro _ w16 ⟨rfl,j16⟩
 replace j16:=j16.jn U U
 rw[y3,y4]
 refine Qb U U (Qn U U U (Qn U U U (Qe U U (Qe U U (Qf (Qc (Qh [0,3,4,5,6,7,8,9,10,11,12,13,14] U (Qd (Qa (Qb U U (Xq U U U (Qb U U (Xc 59 U (fun h17=> ?_) (fun h17=> ?_))))))))))))))
 ·refine Qo U U (Xm h17) (Qb U U (Qo U U (Xm h17) (Xq U U U (QK U (Xm h17) U U (Qb U U (Xc 63 U (fun h18=> ?_) (fun h18=> ?_)))))))
  ·refine Qo U U (Xm h18) (Qb U U (Qo U U (Xm h18) (Xq U U U (QK U (Xm h18) U U (Qb U U (Xc 67 U (fun h19=> ?_) (fun h19=> ?_)))))))
   ·refine Qo U U (Xm h19) (Qb U U (Qo U U (Xm h19) (Xq U U U (QK U (Xm h19) U U (Qb U U (Xc 71 U (fun h20=> ?_) (fun h20=> ?_)))))))
    ·refine Qo U U (Xm h20) (Qb U U (Qo U U (Xm h20) (Xb U U (QK U (Xm h20) U U (Qb U U (Zl 75 U (fun h21=> ?_) (fun h21=> ?_)))))))
     ·refine Qo U U h21 (Qb U U (QK U h21 U U (Qb U U (Zl 78 U (fun h22=> ?_) (fun h22=> ?_)))))
      ·refine Qo U U h22 (Qb U U (Qo U U h22 (Xq U U U (QK U h22 U U (Qb U U (Xc 82 U (fun h23=> ?_) (fun h23=> ?_)))))))
       ·refine Qo U U (Xm h23) (Qb U U (Qo U U (Xm h23) (Xq U U U (QK U (Xm h23) U U (Qb U U (Xc 86 U (fun h24=> ?_) (fun h24=> ?_)))))))
        ·refine Qo U U (Xm h24) (Qb U U (Qo U U (Xm h24) (Qb U U (Qo U U (Xm h24) (Xq U U U (QK U (Xm h24) U U (Qb U U (Xc 91 U (fun h25=> ?_) (fun h25=> ?_)))))))))
         ·refine Qo U U (Xm h25) (Qb U U (Qo U U (Xm h25) (XC U U U (QK U (Xm h25) U U (Qb U U (Xc 95 U (fun h26=> ?_) (fun h26=> ?_)))))))
          ·refine Qo U U (Xm h26) (Qb U U (Qo U U (Xm h26) (Xb U U (QK U (Xm h26) U U (Qb U U (Zl 99 U (fun h27=> ?_) (fun h27=> ?_)))))))
           ·refine Qo U U h27 (Qb U U (Qo U U h27 (Xb U U (QK U h27 U U (Qe U U (Qf (Qc (Qh [0] U (Qu (QY (.inr U) U U ?_))))))))))
            exact⟨_,rfl, by rfl,j16.pick [2] U⟩
           exact absurd h27 (by decide)
          exact absurd y5 h26
         exact absurd U h25
        exact absurd (by decide) h24
       exact absurd (by decide) h23
      exact absurd h22 (by decide)
     exact absurd h21 (by decide)
    exact absurd (by decide) h20
   exact absurd (by decide) h19
  exact absurd (by decide) h18
 exact absurd (by decide) h17
end Go.Proofs.YtkcjfoaejijdoaaGreatDoor
namespace Go.Proofs.YtkcjfoaejijdoaaGreatDoor
open Go.RowKit M Proofs.Tryz
def Y1 (W:WS) (n:Bs) (q:Int):Bs:=Vo (W.objs n q)
def setS (W:WS) (n:Bs) (q:Int) (s:Bs):WS:={W with objs:=setO W.objs n q s}
def Yb (W:WS) (n:Bs) (i:Int) (c:UInt8):WS:= if 0≤i∧i<16384 then setS W n (i/ 64) ((Y1 W n (i/ 64)).set (i%64).toNat c)else W
def Bg (W:WS) (n:Bs):WS:={W with objs:= fun m q=> if m=n then none else W.objs m q}
theorem PagesOk.drop {W:WS} (h:PagesOk W.objs) (n:Bs):PagesOk (Bg W n).objs:=⟨fun m q s hs=> by
  simp only[Bg]at hs
  split at hs
  · cases hs
  · exact h.ok m q s hs⟩
def copyTo (W:WS) (frm:Bs) (first:Int) (to:Bs) (at_ hi:Int):WS:={W with objs:= fun m q=> if m=to∧max at_ 0≤q∧q<hi then W.objs frm (first+q -at_)else W.objs m q}
def Td (W:WS) (frm:Bs) (first n:Int) (to:Bs) (at_:Int):WS:=copyTo W frm first to at_ (min (at_+n) 256)
variable [Inhabited SlW]
theorem AK {l1 l2:List Bs} {i:Nat} (h: ∀j,j<i→l1[j]? =l2[j]?) (h1:i=l1.length) (h2:l1.length=l2.length):l1=l2:= by
  apply List.ext_getElem?
  intro j
  by_cases hj:j<i
  · exact h j hj
  · rw[List.getElem?_eq_none (by omega),List.getElem?_eq_none (by omega)]
theorem same_sp {w:World} {F:Th} (hS:Sat w [F]) {v1 v2:Value} {l1 l2:List Bs} (hA:Ent F (RdL stC v1 l1)) (hB:Ent F (RdL stC v2 l2)):
    Calls prog 31 #[v1,v2] w (Ret fun v w'=>v= .bool (decide (l1=l2))∧Sat w' [F]):= by
 obtain⟨ao1,cap1,rfl,hm1⟩:=(hA.sat hS 0 rfl).shape
 obtain⟨ao2,cap2,rfl,hm2⟩:=(hB.sat hS 0 rfl).shape
 refine Qm func31 U ntmps31 U ?_
 refine Qd (Qa (Qe U U (Qf (Qc (Qd (Qd (Qa (Qb U U (X7 underlying61 U U (Qb U U (X7 underlying61 U U (XC U U U (Qf (Qc (Qt U (fun h1=> ?_) (fun h1=> ?_))))))))))))))))
 ·refine Qd (Qa (Qe U U (Qf (Qc (Qu (Qp (QY (.inr U) U U ?_)))))))
  exact⟨_,rfl, by rw[Q7 (by rintro rfl;omega)],hS⟩
 refine Qs (Qc (Qd (Qd (Qa (Qe U U (Qf (Qc (Qw ?_))))))))
 refine Xg (fun K0 E0 W0=> ∃(i:Nat),K0=l1.length -i∧E0=[(0,.slice ao1 l1.length cap1),(1,.slice ao2 l2.length cap2),(5,intV (i:Int))]∧Sat W0 [F]∧(i≤l1.length)∧(∀j,j<i→l1[j]? =l2[j]?)) (L0:=[(0,_),(1,_),(5,_)]) (l1.length -0) (Rg U U U) ⟨0,rfl,rfl,hS, by omega, by omega⟩ ?_
 rintro _ _ w2 ⟨i,rfl,rfl,j2,hi,hok⟩
 refine Qd (Qd (Qa (Qb U U (Qb U U (X7 underlying61 U U (Xk U U U (Qf (Qc (Qt U (fun h3=> ?_) (fun h3=> ?_))))))))))
 ·obtain⟨s1,ha⟩: ∃s,l1[i]? =some s:=⟨_,Zq (by omega)⟩
  obtain⟨s2,hb⟩: ∃s,l2[i]? =some s:=⟨_,Zq (by omega)⟩
  obtain⟨b1,off1,rfl,hc1⟩:=(hA.sat j2 0 rfl).get ha
  obtain⟨b2,off2,rfl,hc2⟩:=(hB.sat j2 0 rfl).get hb
  refine Qs (Qc (Qd (Qw (Qd ?_))))
  have j4:=j2.drew
  refine QE [0,1,2,3,4,5,6,7,8] [] Wa (by kernel_rfl) ?_
  refine Q9 U U U (Q9 U U U (QZ U U U (fun _=>(XM i U U (by rfl) ((Zb ha).1) Bf)) ?_))
  refine Q4 U U U (Ql U W9 (by have h:=hc1 0 _ U; exact h)) ?_
  refine Q9 U U U (Q9 U U U (QZ U U U (fun _=>(XM i U U (by rfl) ((Zb hb).1) Bf)) ?_))
  refine Q4 U U U (Ql U W9 (by have h:=hc2 0 _ U; exact h)) ?_
  refine QZ U U U (fun _=>(RQ U U)) ?_
  refine VC.nil (Qc (Qh [5,1,0,25] U (Qt U (fun h5=> ?_) (fun h5=> ?_))))
  ·have hne:s1≠s2:=h5
   refine Qd (Qa (Qe U U (Qf (Qc (Qu (Qz (Qp (Qp (Qz (Qp (QY (.inr U) U U ?_)))))))))))
   exact⟨_,rfl, by rw[Q7 (by rintro rfl; rw[ha]at hb; cases hb; exact hne rfl)],j4⟩
  have heq:s1=s2:=Decidable.not_not.1 h5
  refine Qs (Qk (Qc (Qa (Qb U U (QO U U (by omega) (by omega) U ?_)))))
  refine Qe U U (Qf ?_)
  exact Q3 (L1:=[(0,_),(1,_),(5,intV ((i+1:Nat):Int))]) (Rg U U U) (k1:=l1.length -(i+1)) (by omega) ⟨i+1,rfl,rfl,j4, by omega, fun j hj=> by by_cases e:j=i;(subst e; rw[ha,hb,heq]); exact hok j (by omega)⟩
 exact QU (Qq (Qq (Qx (Qc (Qd (Qa (Qe U U (Qf (Qc (Qu (QY (.inr U) U U (⟨_,rfl, by rw[Xm (AK hok (by omega) (by omega))],j2⟩))))))))))))
end Go.Proofs.YtkcjfoaejijdoaaGreatDoor
namespace Go.Proofs.YtkcjfoaejijdoaaGreatDoor
open Go.RowKit M Proofs.Tryz
variable [Inhabited SlW]
theorem N3 {P:Program} {L:Env} {w:World} {d:Nat} {ty:TypeId} {pos:String} {aft:Array Edge} {x:Operand} {t e N sz b o:Nat} (hu:P.underlying t=some (.array N e)) (hs:Wb P e=some sz) (hx:M.look L x=some (ptrV b o)):Ev P L w ⟨some d,.slice t x none none none,ty,pos,aft,none⟩ (.slice (some ⟨b,o,none⟩) N N):= fun ρ hρ=> by
  simp [execOp,hρ _ _ hx,Instr.sliceAt,run_underlying hu,Instr.sureAddr,Instr.sliceBounds,M.run_sizeOf hs,Addr.add]
theorem UZ {P:Program} {n:Nat} {ops:Array Oper} {Q:Exit→Act→World→Prop} {rest:List Oper} {L:Env} {w:World} {d:Nat} {ty:TypeId} {pos:String} {aft:Array Edge} {x:Operand} {t e N sz b o:Nat} (hu:P.underlying t=some (.array N e)) (hs:Wb P e=some sz) (hx:M.look L x=some (ptrV b o)) (hd:Nat.blt d n=true) (hk:wl P n ops Q rest ((d,.slice (some ⟨b,o,none⟩) N N)::L) w):wl P n ops Q (⟨some d,.slice t x none none none,ty,pos,aft,none⟩::rest) L w:=X8 hd (N3 hu hs hx) hk
structure CloSt (Lo Ln:List (Bs×Nat)) (dn:Bs→Prop):Prop where
  nodup:(Ln.map (·.1)).Nodup
  mem: ∀n,n∈Ln.map (·.1)↔dn n
  sub: ∀n,dn n→n∈Lo.map (·.1)
theorem CloSt.start (Lo:List (Bs×Nat)):CloSt Lo [] (fun _=>False):=⟨by simp, by simp, fun _ h=>h.elim⟩
theorem CloSt.step {Lo Ln:List (Bs×Nat)} {dn:Bs→Prop} {k:Bs} {m im nb:Nat} (h:CloSt Lo Ln dn) (hn: ¬dn k) (him:Lo[im]? =some (k,m)):CloSt Lo ((k,nb)::Ln) (fun j=>dn j∨j=k) where
  nodup:=List.nodup_cons.2 ⟨fun hm=>hn ((h.mem k).1 hm),h.nodup⟩
  mem:= fun n=> by
    rw[List.map_cons,List.mem_cons,h.mem n]
    exact or_comm
  sub:= fun n hd=> by
    rcases hd with hd | rfl
    · exact h.sub n hd
    · exact List.mem_map.2 ⟨(n,m),List.mem_of_getElem? him,U⟩
theorem CloSt.done {W:WS} {Lo Ln:List (Bs×Nat)} {dn:Bs→Prop} (hO:ObjL Lo W.objs) (h:CloSt Lo Ln dn) (hd: ∀k v,Ou Lo k=some v→dn k):ObjL Ln W.objs:= by
  refine⟨h.nodup, fun n=> ?_⟩
  rw[h.mem,←hO.has]
  refine⟨h.sub n, fun hm=> ?_⟩
  cases ha:FO Lo n with
  | none=> exact absurd hm (Sn.1 ha)
  | some m=> exact hd n (.map (some m)) (by simp [Ou,ha])
def YD (t:TrA) (c:Bs) (k:KD):Bs:= match t.lv k with
  | some x=>x.own
  | none=> if t.dr k.1=true then zer else c
def Wr (b:KD→Bs) (t:TrA) (k:KD):LfA:= match t.lv k with
  | some x=>x
  | none=>⟨YD t (b k) k,YD t (b k) k,0#64, if t.dr k.1=true then BitVec.allOnes 64 else 0#64⟩
noncomputable def Hk (t:TrA) (k:KD) (y:LfA):TrA:={t with lv:=Xu t.lv k (some y)}
noncomputable def DN (t:TrA) (ob:Bs):TrA:={t with lv:=Z1 (fun j=>j.1=ob) t.lv,dr:=WC t.dr ob}
noncomputable def Ao (A:LvA) (id:Int) (t:TrA):LvA:={A with tr:=Xu A.tr id (some t)}
theorem stA_set {A:LvA} {id:Int} {t u:TrA}:Ao (Ao A id t) id u=Ao A id u:= by unfold Ao; simp only[J0]
theorem An {A:LvA} {id:Int} {t:TrA}:(Ao A id t).tr id=some t:=Qy
theorem B5 {A:LvA} {id j:Int} {t:TrA} (h:j≠id):(Ao A id t).tr j=A.tr j:=QF h
def BgI (A:LvA) (id p:Int) (b:KD→Bs):Prop:=id≠0∧id≠p∧ ∀t,t.parent=p→ ∀k,Wq (Ao A id t) p k=b k∧Wq (Ao A id t) id k=YD t (b k) k
theorem BgI.set {A:LvA} {id p:Int} {b:KD→Bs} {u:TrA} (h:BgI A id p b):BgI (Ao A id u) id p b:=⟨h.1,h.2.1, fun t ht k=> by rw[stA_set]; exact h.2.2 t ht k⟩
section
variable {A:LvA} {id p i:Int} {b:KD→Bs} {t u:TrA} {k j:KD} {y:LfA} {ob nm:Bs} {W W':WS} {c:Bs}
theorem Ul:(Wr b t k).own=YD t (b k) k:= by
  unfold Wr YD
  cases t.lv k<;>rfl
theorem Rs:YD (Hk t k y) c j= if j=k then y.own else YD t c j:= by
  unfold YD Hk
  dsimp only
  by_cases e:j=k
  · subst e; rw[Qy,if_pos U]
  · rw[QF e,if_neg e]
theorem AI:YD (DN t ob) c j= if j.1=ob then zer else YD t c j:= by
  unfold YD DN Z1
  dsimp only
  by_cases e:j.1=ob
  · rw[if_pos e,if_pos e]
    cases t.lv j with
    | some x=>rfl
    | none=>
      dsimp only[Option.map_none]
      rw[if_pos (JL.2 (.inr e))]
  · rw[if_neg e,if_neg e]
    have e2:WC t.dr ob j.1=t.dr j.1:= by unfold WC; rw[if_neg e]
    simp only[e2]
def VisT (b:KD→Bs) (t:TrA) (W:WS):Prop:= ∀nm q,YD t (b (nm,q)) (nm,q)=Y1 W nm q
def VisP (P:KD→Bs) (W:WS):Prop:= ∀nm q,P (nm,q)=Y1 W nm q
theorem LN {n m:Bs} {q q':Int} {s:Bs}:Y1 (setS W n q s) m q'= if m=n∧q'=q then s else Y1 W m q':= by
  unfold Y1 setS setO Vo
  dsimp only
  by_cases e:m=n∧q'=q
  · rw[if_pos e,if_pos e]
    by_cases z:s=Tr
    · rw[if_pos z,z];rfl
    · rw[if_neg z];rfl
  · rw[if_neg e,if_neg e]
theorem KO (m:Bs) (q:Int) (a:Int) (v:UInt8) (h:0≤a∧a<16384):Y1 (Yb W nm a v) m q= if m=nm∧q=a/ 64 then(Y1 W nm (a/ 64)).set (a%64).toNat v else Y1 W m q:= by
  unfold Yb
  rw[if_pos h,LN]
theorem KP (m:Bs) (q:Int):Y1 (Bg W nm) m q= if m=nm then zer else Y1 W m q:= by
  unfold Y1 Bg Vo
  dsimp only
  by_cases e:m=nm
  · rw[if_pos e,if_pos e];rfl
  · rw[if_neg e,if_neg e]
theorem LO (hI:PagesOk W.objs) {m:Bs} {q:Int} (h: ¬(0≤q∧q<256)):Y1 W m q=zer:= by
  unfold Y1 Vo
  cases e:W.objs m q with
  | none=>rfl
  | some s=> exact absurd (hI.ok m q s e).2.2 h
def NG (n at_:Int):Nat:=(min n (256 -at_) -max 0 (-at_)).toNat
theorem KQ (hI:PagesOk W.objs) {frm to:Bs} {fi n at_:Int} (m:Bs) (q:Int):Y1 (Td W frm fi n to at_) m q= if m=to∧at_+max 0 (-at_)≤q∧q<at_+max 0 (-at_)+(NG n at_:Int)then(if 0≤fi+q -at_∧fi+q -at_<256 then Y1 W frm (fi+q -at_)else zer)else Y1 W m q:= by
  have e0:Y1 (Td W frm fi n to at_) m q=Vo (if m=to∧max at_ 0≤q∧q<min (at_+n) 256 then W.objs frm (fi+q -at_)else W.objs m q):=rfl
  rw[e0]
  unfold NG
  by_cases e:m=to∧max at_ 0≤q∧q<min (at_+n) 256
  · rw[if_pos e,if_pos ⟨e.1, by omega, by omega⟩]
    by_cases r:0≤fi+q -at_∧fi+q -at_<256
    · rw[if_pos r];rfl
    · rw[if_neg r]; exact LO hI r
  · rw[if_neg e,if_neg fun a=>e ⟨a.1, by omega, by omega⟩]
    rfl
end
noncomputable def Ry (b:KD→Bs) (ob:Bs) (t:TrA) (p:Int):TrA:= if 0≤p∧p<256 then Hk t (ob,p) (allR (Wr b t (ob,p)))else t
noncomputable def Rx (b:KD→Bs) (ob:Bs) (p0:Int) (t:TrA):Nat→TrA
  | 0=>t
  | q+1=>Ry b ob (Rx b ob p0 t q) (p0+(q:Int))
noncomputable def Mh (b:KD→Bs) (t:TrA) (to:Bs) (base:Int) (f:Nat→Bs):Nat→TrA
  | 0=>t
  | q+1=>Hk (Mh b t to base f q) (to,base+(q:Int)) (allX (Wr b (Mh b t to base f q) (to,base+(q:Int))) (f q))
def Iz (b:KD→Bs) (t:TrA) (ob:Bs) (p:Int):Bs:= if 0≤p∧p<256 then YD t (b (ob,p)) (ob,p)else zer
noncomputable def KY (b:KD→Bs) (t:TrA) (ob:Bs) (fi n:Int) (to:Bs) (at_:Int):TrA:=
  Mh b (Rx b ob (fi+max 0 (-at_)) t (NG n at_)) to (at_+max 0 (-at_)) (fun i=>Iz b t ob (fi+max 0 (-at_)+(i:Int))) (NG n at_)
section
variable {A:LvA} {id p:Int} {b:KD→Bs} {t:TrA} {ob to:Bs} {p0 base:Int} {f:Nat→Bs} {W:WS}
theorem AH {q:Int} {j:KD}:YD (Ry b ob t q) (b j) j=YD t (b j) j:= by
  unfold Ry
  split
  · rw[Rs]
    by_cases e:j=(ob,q)
    · rw[if_pos e, show(allR (Wr b t (ob,q))).own=(Wr b t (ob,q)).own from rfl,Ul,e]
    · rw[if_neg e]
  · rfl
theorem Do {j:KD}: ∀q,YD (Rx b ob p0 t q) (b j) j=YD t (b j) j
  | 0=>rfl
  | q+1=>(AH (b:=b)).trans (Do q)
theorem CM {m:Bs} {r:Int}: ∀q:Nat,YD (Mh b t to base f q) (b (m,r)) (m,r)= if m=to∧base≤r∧r<base+(q:Int)then f (r -base).toNat else YD t (b (m,r)) (m,r)
  | 0=> by rw[if_neg (by omega)];rfl
  | q+1=> by
    show YD (Hk (Mh b t to base f q) (to,base+(q:Int)) _) (b (m,r)) (m,r)=_
    rw[Rs]
    by_cases e:(m,r)=(to,base+(q:Int))
    · obtain⟨e1,e2⟩:=Prod.mk.inj e
      rw[if_pos e,if_pos ⟨e1, by omega, by omega⟩]
      have :(r -base).toNat=q:= by omega
      rw[this]
      rfl
    · rw[if_neg e,CM q]
      by_cases e2:m=to∧base≤r∧r<base+(q:Int)
      · rw[if_pos e2,if_pos ⟨e2.1,e2.2.1, by omega⟩]
      · rw[if_neg e2,if_neg fun a=>e2 ⟨a.1,a.2.1,Classical.byContradiction fun z=>e (by rw[a.1, show r=base+(q:Int) by omega])⟩]
theorem VisT.copy (h:VisT b t W) (hI:PagesOk W.objs) {frm:Bs} {fi n at_:Int}:VisT b (KY b t frm fi n to at_) (Td W frm fi n to at_):= fun nm q=> by
  unfold KY
  rw[CM,KQ hI,Do,h nm q]
  by_cases e:nm=to∧at_+max 0 (-at_)≤q∧q<at_+max 0 (-at_)+(NG n at_:Int)
  · rw[if_pos e,if_pos e]
    unfold Iz
    have e1:fi+max 0 (-at_)+(((q -(at_+max 0 (-at_))).toNat:Nat):Int)=fi+q -at_:= by omega
    rw[e1]
    by_cases r:0≤fi+q -at_∧fi+q -at_<256
    · rw[if_pos r,if_pos r]; exact h frm _
    · rw[if_neg r,if_neg r]
  · rw[if_neg e,if_neg e]
theorem VisT.rd (h:VisT b t W) {k:KD} {a:Int}:VisT b (Hk t k (rdX (Wr b t k) a)) W:= fun nm q=> by
  rw[Rs]
  by_cases e:(nm,q)=k
  · rw[if_pos e, show(rdX (Wr b t k) a).own=(Wr b t k).own from rfl,Ul,←e]; exact h nm q
  · rw[if_neg e]; exact h nm q
theorem VisT.wr (h:VisT b t W) {nm:Bs} {a:Int} {v:UInt8} (ha:0≤a∧a<16384):VisT b (Hk t (nm,a/ 64) (wrX (Wr b t (nm,a/ 64)) (a%64) v)) (Yb W nm a v):= fun m q=> by
  rw[Rs,KO m q a v ha]
  by_cases e:(m,q)=(nm,a/ 64)
  · obtain⟨e1,e2⟩:=Prod.mk.inj e
    rw[if_pos e,if_pos ⟨e1,e2⟩, show(wrX (Wr b t (nm,a/ 64)) (a%64) v).own=(Wr b t (nm,a/ 64)).own.set (a%64).toNat v from rfl,Ul,h nm (a/ 64)]
  · rw[if_neg e,if_neg fun z=>e (by rw[z.1,z.2])]; exact h m q
theorem VisT.drp (h:VisT b t W) {nm:Bs}:VisT b (DN t nm) (Bg W nm):= fun m q=> by
  rw[AI,KP]
  by_cases e:m=nm
  · rw[if_pos e,if_pos e]
  · rw[if_neg e,if_neg e]; exact h m q
end
structure TrK (b:KD→Bs) (t:TrA) (q d:Nat):Prop where
  rd: ∀k x,t.lv k=some x→x.base=b k∨(x.rd=0#64∧x.wr=BitVec.allOnes 64)
  dr: ∀k x,t.dr k.1=true→t.lv k=some x→x.wr=BitVec.allOnes 64
  pt:PartLe t q
  dl:DrLe t d
def GoX (o y:LfA):Prop:=y.base=o.base∧(∃r,y.rd=o.rd ||| (r&&& ~~~o.wr))∧ ∃w,y.wr=o.wr ||| w
theorem qal {w:BitVec 64}:BitVec.allOnes 64 ||| w=BitVec.allOnes 64:= by
  apply BitVec.eq_of_getLsbD_eq
  intro i hi
  rw[BitVec.getLsbD_or,BitVec.getLsbD_allOnes]
  simp [hi]
theorem qai {r:BitVec 64}:0#64 ||| (r&&& ~~~(BitVec.allOnes 64))=0#64:= by
  apply BitVec.eq_of_getLsbD_eq
  intro i hi
  simp [hi]
theorem or_zer {w:BitVec 64}:w ||| 0#64=w:= by
  apply BitVec.eq_of_getLsbD_eq
  intro i hi
  simp
section
variable {A:LvA} {id p:Int} {b:KD→Bs} {t:TrA} {k:KD} {y o:LfA} {q d:Nat} {ob to:Bs} {p0 base:Int} {f:Nat→Bs} {W:WS}
theorem GoX.rdX {a:Int}:GoX o (rdX o a):=⟨rfl,⟨_,rfl⟩,0#64,or_zer.symm⟩
theorem GoX.allR:GoX o (allR o):=⟨rfl,⟨_,rfl⟩,0#64,or_zer.symm⟩
theorem GoX.wrX {a:Int} {v:UInt8}:GoX o (wrX o a v):=⟨rfl,⟨0#64, by
  show o.rd=o.rd ||| (0#64&&& ~~~o.wr)
  apply BitVec.eq_of_getLsbD_eq
  intro i hi
  simp⟩,_,rfl⟩
theorem GoX.allX {c:Bs}:GoX o (allX o c):=⟨rfl,⟨0#64, by
  show o.rd=o.rd ||| (0#64&&& ~~~o.wr)
  apply BitVec.eq_of_getLsbD_eq
  intro i hi
  simp⟩,BitVec.allOnes 64, by
  show BitVec.allOnes 64=o.wr ||| BitVec.allOnes 64
  apply BitVec.eq_of_getLsbD_eq
  intro i hi
  rw[BitVec.getLsbD_or,BitVec.getLsbD_allOnes]
  simp [hi]⟩
theorem Ld (h:TrK b t q d):(Wr b t k).base=b k∨((Wr b t k).rd=0#64∧(Wr b t k).wr=BitVec.allOnes 64):= by
  unfold Wr
  cases hx:t.lv k with
  | some x=> exact h.rd k x hx
  | none=>
    dsimp only
    unfold YD
    rw[hx]
    dsimp only
    cases hd:t.dr k.1 with
    | true=> exact .inr ⟨rfl, by simp⟩
    | false=> exact .inl (by simp)
theorem touT_dr (h:TrK b t q d) (hd:t.dr k.1=true):(Wr b t k).wr=BitVec.allOnes 64:= by
  unfold Wr
  cases hx:t.lv k with
  | some x=> exact h.dr k x hd hx
  | none=> dsimp only; rw[if_pos hd]
theorem TrK.putG (h:TrK b t q d) (hg:GoX (Wr b t k) y) {q':Nat} (hq:PartLe (Hk t k y) q'):TrK b (Hk t k y) q' d:= by
  obtain⟨g1,⟨r,g2⟩,w,g3⟩:=hg
  refine⟨fun j x hx=> ?_, fun j x hd hx=> ?_,hq,h.dl⟩
  · have hx':Xu t.lv k (some y) j=some x:=hx
    by_cases e:j=k
    · subst e
      rw[Qy]at hx'
      cases hx'
      rcases Ld (k:=j) h with e1 | ⟨e1,e2⟩
      · exact .inl (g1.trans e1)
      · exact .inr ⟨by rw[g2,e1,e2,qai], by rw[g3,e2,qal]⟩
    · rw[QF e]at hx'; exact h.rd j x hx'
  · have hx':Xu t.lv k (some y) j=some x:=hx
    by_cases e:j=k
    · subst e
      rw[Qy]at hx'
      cases hx'
      rw[g3,touT_dr h hd,qal]
    · rw[QF e]at hx'; exact h.dr j x hd hx'
theorem PartLe.put1 (h:PartLe t q):PartLe (Hk t k y) (q+1):= by
  obtain⟨l,a,c⟩:=h
  refine⟨k::l, by simp;omega, fun j x hx h1 h2=> ?_⟩
  have hx':Xu t.lv k (some y) j=some x:=hx
  by_cases e:j=k
  · rw[e]; exact List.mem_cons_self
  · rw[QF e]at hx'; exact List.mem_cons_of_mem _ (c j x hx' h1 h2)
theorem PartLe.put0 (h:PartLe t q) (hy:y.wr=(Wr b t k).wr∨y.wr=BitVec.allOnes 64):PartLe (Hk t k y) q:= by
  obtain⟨l,a,c⟩:=h
  refine⟨l,a, fun j x hx h1 h2=> ?_⟩
  have hx':Xu t.lv k (some y) j=some x:=hx
  by_cases e:j=k
  · subst e
    rw[Qy]at hx'
    cases hx'
    rcases hy with hy | hy
    · unfold Wr at hy
      cases hz:t.lv j with
      | some z=> rw[hz]at hy; dsimp only at hy; exact c j z hz (by rw[←hy]; exact h1) (by rw[←hy]; exact h2)
      | none=>
        rw[hz]at hy
        dsimp only at hy
        split at hy
        · exact absurd hy h2
        · exact absurd hy h1
    · exact absurd hy h2
  · rw[QF e]at hx'; exact c j x hx' h1 h2
theorem TrK.rdX (h:TrK b t q d) {a:Int}:TrK b (Hk t k (Go.Proofs.YtkcjfoaejijdoaaGreatDoor.rdX (Wr b t k) a)) q d:=h.putG GoX.rdX (h.pt.put0 (b:=b) (.inl U))
theorem TrK.wrX (h:TrK b t q d) {a:Int} {v:UInt8}:TrK b (Hk t k (Go.Proofs.YtkcjfoaejijdoaaGreatDoor.wrX (Wr b t k) a v)) (q+1) d:=h.putG GoX.wrX h.pt.put1
theorem TrK.drp (h:TrK b t q d):TrK b (DN t ob) q (d+1):= by
  have key: ∀j x,(DN t ob).lv j=some x→ ∃z,t.lv j=some z∧((j.1=ob∧x=allX z zer)∨(j.1≠ob∧x=z)):= fun j x hx=> by
    have hx':Z1 (fun j=>j.1=ob) t.lv j=some x:=hx
    unfold Z1 at hx'
    by_cases e:j.1=ob
    · rw[if_pos e]at hx'
      obtain⟨z,hz,rfl⟩:=Option.map_eq_some_iff.1 hx'
      exact⟨z,hz,.inl ⟨e,U⟩⟩
    · rw[if_neg e]at hx'
      exact⟨x,hx',.inr ⟨e,U⟩⟩
  refine⟨fun j x hx=> ?_, fun j x hd hx=> ?_, ?_, ?_⟩
  · obtain⟨z,hz,⟨_,rfl⟩ | ⟨_,rfl⟩⟩:=key j x hx
    · rcases h.rd j z hz with e | ⟨e1,e2⟩
      · exact .inl e
      · exact .inr ⟨e1,U⟩
    · exact h.rd j _ hz
  · obtain⟨z,hz,⟨_,rfl⟩ | ⟨e,rfl⟩⟩:=key j x hx
    · rfl
    · have hd':WC t.dr ob j.1=true:=hd
      rcases JL.1 hd' with q | q
      · exact h.dr j _ q hz
      · exact absurd q e
  · obtain⟨l,a,c⟩:=h.pt
    refine⟨l,a, fun j x hx h1 h2=> ?_⟩
    obtain⟨z,hz,⟨_,rfl⟩ | ⟨_,rfl⟩⟩:=key j x hx
    · exact absurd U h2
    · exact c j _ hz h1 h2
  · obtain⟨l,a,c⟩:=h.dl
    refine⟨ob::l, by simp;omega, fun o ho=> ?_⟩
    have ho':WC t.dr ob o=true:=ho
    rcases JL.1 ho' with q | q
    · exact List.mem_cons_of_mem _ (c o q)
    · rw[q]; exact List.mem_cons_self
theorem TrK.rdf (h:TrK b t q d): ∀n,TrK b (Rx b ob p0 t n) q d
  | 0=>h
  | n+1=> by
    show TrK b (Ry b ob (Rx b ob p0 t n) _) q d
    unfold Ry
    split
    · exact(TrK.rdf h n).putG GoX.allR ((TrK.rdf h n).pt.put0 (b:=b) (.inl U))
    · exact TrK.rdf h n
theorem TrK.wrf (h:TrK b t q d): ∀n,TrK b (Mh b t to base f n) q d
  | 0=>h
  | n+1=>(TrK.wrf h n).putG GoX.allX ((TrK.wrf h n).pt.put0 (b:=b) (.inr rfl))
theorem TrK.copy (h:TrK b t q d) {frm:Bs} {fi n at_:Int}:TrK b (KY b t frm fi n to at_) q d:=(h.rdf _).wrf _
end
