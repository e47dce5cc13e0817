/- leaves: what a clone is -/
import Derived.Test.YtkcjfoaejijdoaaGreatDoorLv63
import Derived.Test.YtkcjfoaejijdoaaGreatDoorDk1
import Derived.Test.YtkcjfoaejijdoaaGreatDoorLv37
import Derived.Test.YtkcjfoaejijdoaaGreatDoorLv27
import Derived.Test.YtkcjfoaejijdoaaGreatDoorSh10
import Derived.Test.YtkcjfoaejijdoaaGreatDoorLv30
import Derived.Test.YtkcjfoaejijdoaaGreatDoorLv33
set_option linter.unusedSectionVars false
set_option linter.unusedVariables false
set_option maxRecDepth 100000
set_option maxHeartbeats 6400000
namespace Go.Proofs.YtkcjfoaejijdoaaGreatDoor
open Go.RowKit M Proofs.Tryz
variable [Inhabited SlW]
section
variable {L L2:LvD} {V:VS} {m c:Nat}
theorem C9 {t t2:TrD} (h:WW t2=WW t) (k:KD):(t2.lv k).map WB=(t.lv k).map WB:=congrFun (congrArg TrD.lv h) k
theorem SimT.none {T2 T:Int→Option TrD} (h:SimT T2 T) {i:Int} (hi:T2 i=none):T i=none:= by
  have :=h i
  rw[hi]at this
  cases q:T i with
  | none=>rfl
  | some t=> rw[q]at this; cases this
theorem SimT.some {T2 T:Int→Option TrD} (h:SimT T2 T) {i:Int} {t2:TrD} (hi:T2 i=some t2): ∃t,T i=some t∧WW t2=WW t:= by
  have :=h i
  rw[hi]at this
  cases q:T i with
  | none=> rw[q]at this; cases this
  | some t=> rw[q]at this; exact⟨t,rfl,Option.some.inj this⟩
theorem Ea (hp:L2.pres=L.pres) (hs:SimT L2.tr L.tr) (p:Pl):QP L2 p=QP L p:= by
  cases p with
  | inl k=> exact congrFun hp k
  | inr q=>
    obtain⟨i,k,o⟩:=q
    cases h2:L2.tr i with
    | none=> simp [QP,h2,hs.none h2]
    | some t2=>
      obtain⟨t,h1,e⟩:=hs.some h2
      have hl:=C9 e k
      cases q2:t2.lv k with
      | none=>
        rw[q2]at hl
        cases q1:t.lv k with
        | none=> simp [QP,h2,h1,q2,q1]
        | some x=> rw[q1]at hl; cases hl
      | some x2=>
        rw[q2]at hl
        cases q1:t.lv k with
        | none=> rw[q1]at hl; cases hl
        | some x=>
          rw[q1]at hl
          have h3:WB x2=WB x:=Option.some.inj hl
          have h4:(WB x2).own=(WB x).own:= by rw[h3]
          have h5:(WB x2).base=(WB x).base:= by rw[h3]
          rw[Xt h2 q2,Xt h1 q1, show x2.own=x.own from h4, show x2.base=x.base from h5]
theorem Mg (t:TrD):ZG V t=ZG V (WW t):= by
  show(⟨t.parent, fun k=>(t.lv k).map (Wu V),t.dr⟩:TrA)=⟨t.parent, fun k=>((t.lv k).map WB).map (Wu V),t.dr⟩
  congr 1
  funext k
  cases t.lv k<;>rfl
theorem Pb (hp:L2.pres=L.pres) (hs:SimT L2.tr L.tr):Q1 L2 V=Q1 L V:= by
  unfold Q1
  rw[hp]
  congr 1
  funext i
  cases h2:L2.tr i with
  | none=> rw[hs.none h2]
  | some t2=>
    obtain⟨t,h1,e⟩:=hs.some h2
    rw[h1]
    show some (ZG V t2)=some (ZG V t)
    rw[Mg t2,Mg t,e]
theorem LvI.sim (h:LvI m L V) (hp:L2.pres=L.pres) (hs:SimT L2.tr L.tr):LvI m L2 V:= by
  refine⟨h.ref.fn (Ea hp hs),h.rank.same fun i=> ?_, by rw[Pb hp hs]; exact h.agree⟩
  cases h2:L2.tr i with
  | none=> rw[hs.none h2]
  | some t2=>
    obtain⟨t,h1,e⟩:=hs.some h2
    rw[h1]
    have e2:(WW t2).parent=(WW t).parent:= by rw[e]
    exact congrArg some e2
theorem SzLe.sim (h:SzLe L c) (hp:L2.pres=L.pres) (hs:SimT L2.tr L.tr):SzLe L2 c:= by
  obtain⟨l,h1,h2,h3⟩:=h
  refine⟨l,h1, fun k hk=>h2 k (by rw[←hp]; exact hk), fun i t2 k x2 ht hx=> ?_⟩
  obtain⟨t,h4,e⟩:=hs.some ht
  have hl:=C9 e k
  rw[hx]at hl
  cases q1:t.lv k with
  | none=> rw[q1]at hl; cases hl
  | some x=> exact h3 i t k x h4 q1
end
theorem stCopy {w:World} {p n F:Nat} {V:VS} {X:Th} (hS:Sat w [XD p n F V,X]) (hn:n≤80000000000):Calls prog 28 #[ptrV p 0] w (Ret fun v w'=> ∃p2,v=ptrV p2 0∧Sat w' [XD p2 n F V,XD p n F V,X]):= by
  obtain⟨S,hI,rfl,hF,hS⟩:=WH hS
  refine(Lw hS hI hn).mono fun ew w h=>h.mono fun v w h=> ?_
  obtain⟨p2,rfl,h⟩:=h
  exact⟨p2,U,Z9 hI U hF ((Z9 hI U hF (h.reorder [1,0,2] U)).reorder [1,0,2] U)⟩
def VaI (A:LvA) (id:Int):Prop:=id=0∨ ∃t,A.tr id=some t∧VA A t
def shA (A:LvA) (id:Int) (ob:Bs) (page:Int):Bs:= if 0≤page∧page<256 then Wq A id (ob,page)else zer
section
variable {w:World} {b p n Fr m:Nat} {L:LvD} {V:VS} {F:Th}
theorem PC {c:Nat} (hS:Sat w [XX b L,XD p n Fr V,F]) (hp:L.sp=p) (hI:LvI m L V) (hc:SzLe L c) (hcc:c≤100000) (nn:Int) (hnn:nn≤4611686018427387904) (hn:n+nn.toNat*(6*c)≤60000000000):
    Calls prog 30 #[ptrV b 0,intV nn] w (Ret fun v w'=> ∃L' V' l,L'.sp=p∧MrP m c L L' V V' nn∧Sat w' [rowT inC v l,XX b L',XD p (n+nn.toNat*(6*c)) Fr V',F]):= by
  subst hp
  refine(Nb hS hI hc hcc nn hnn hn).mono fun ew w h=>h.mono fun v w h=> ?_
  obtain⟨L',V',l,h1,_,h2⟩:=h
  rw[h1.sp]at h2
  exact⟨L',V',l,h1.sp,h1,h2⟩
theorem EY (hS:Sat w [XX b L,XD p n Fr V,F]) (hp:L.sp=p) (hn:n≤60000000000) (hI:LvI m L V) (hm:m<Zg) (hG:Ent F GT) (id:Int) (hid:id=0∨L.tr id≠none):
    Calls prog 14 #[ptrV b 0,intV id] w (Ret fun v w'=> ∃r:Bool,v= .bool r∧(r=true↔VaI (Q1 L V) id)∧Sat w' [XX b L,XD p n Fr V,F]):= by
  subst hp
  by_cases e:id=0
  · subst e
    refine(Lc hS hn).mono fun ew w h=>h.mono fun v w h=> ?_
    exact⟨true,h.1,⟨fun _=> .inl U, fun _=>rfl⟩,h.2⟩
  · obtain⟨t,ht⟩:=Option.ne_none_iff_exists'.1 (hid.resolve_left e)
    refine(M2 hS hn hI hm hG ht).mono fun ew w h=>h.mono fun v w h=> ?_
    obtain⟨r,h1,h2,h3⟩:=h
    refine⟨r,h1,h2.trans ((qar hI).trans ⟨fun q=> .inr ⟨_,Zh ht,q⟩, fun q=> ?_⟩),h3⟩
    rcases q with q | ⟨t2,q1,q2⟩
    · exact absurd q e
    · rw[Zh ht]at q1; cases q1; exact q2
theorem Na {c:Nat} (hS:Sat w [XX b L,XD p n Fr V,F]) (hp:L.sp=p) (hn:n≤60000000000) (hI:LvI m L V) (hm:m<Zg) (hc:SzLe L c) (hcm:c≤90000000000) (id:Int) (hid:id=0∨L.tr id≠none):
    Calls prog 32 #[ptrV b 0,intV id] w (Ret fun v w'=> ∃ns,NmI (Q1 L V) id ns∧ns.length≤c∧Sat w' [rowT stC v (ZK ns),XX b L,XD p n Fr V,F]):= by
  subst hp
  refine P8 hS hn hI hm hc hcm id ?_ (hid.imp_right fun h=>Option.ne_none_iff_exists'.1 h)
  rcases hid with h | h
  · simp [Zk,h]
  · obtain⟨t,ht⟩:=Option.ne_none_iff_exists'.1 h; simp [Zk,ht]
theorem Ay (hS:Sat w [XX b L,XD p n Fr V,F]) (hp:L.sp=p) (hI:LvI m L V) (hm:m<Zg) (id:Int) (hid:id=0∨L.tr id≠none) (ob:Bs) (page:Int):
    Calls prog 33 #[ptrV b 0,intV id,strV ob,intV page] w (Ret fun v w'=> ∃(s:Int) (r:Bool),v= .tuple #[intV s,.bool r]∧XH V s=shA (Q1 L V) id ob page∧Sat w' [XX b L,XD p n Fr V,F]):= by
  subst hp
  have hE:=hI.rank.ends hm
  by_cases hk:0≤page∧page<256
  · have e:shA (Q1 L V) id ob page=Wq (Q1 L V) id (ob,page):= by unfold shA; rw[if_pos hk]
    by_cases h0:id=0
    · subst h0
      refine(G0 hS hE ob page (by simp [W6,Zk,hk.1,hk.2])).mono fun ew w h=>h.mono fun v w h=> ?_
      exact⟨_,_,h.1,(hI.sees _ _).trans e.symm,h.2⟩
    · obtain⟨t,ht⟩:=Option.ne_none_iff_exists'.1 (hid.resolve_left h0)
      refine(Lu hS hE ht h0 ob page (by simp [W6,Zk,hk.1,hk.2,ht])).mono fun ew w h=>h.mono fun v w h=> ?_
      exact⟨_,_,h.1,(hI.sees _ _).trans e.symm,h.2⟩
  · refine(Lv hS hE id ob page (by unfold W6; rw[Q7 hk];rfl)).mono fun ew w h=>h.mono fun v w h=> ?_
    exact⟨_,_,h.1, by unfold shA; rw[if_neg hk]; exact Wk hI.zero,h.2⟩
end
theorem nm_same {A:LvA} {id:Int} {a c:List Bs} (h1:NmI A id a) (h2:NmI A id c):ZK a=ZK c:=CD (perm_of h1.1 h2.1 fun x=> by rw[h1.2,h2.2])
theorem Eb {m:Nat} {L:LvD} {V:VS} {ls hs:List Int} (hI:LvI m L V) (h1:ls.Pairwise (· < ·)) (h2: ∀j,j∈ls↔V j≠none) (hh:HeldL L hs):ls.length=hs.length:=
  ((List.perm_ext_iff_of_nodup (U7 h1) (U7 hh.2)).2 fun x=> by rw[h2,hh.1,ZW hI]).length_eq
theorem Ov {m c:Nat} {L L':LvD} {V V':VS} {ls:List Int} {N:Int} (h:MrP m c L L' V V' N) (hI:LvI m L V) (h1:ls.Pairwise (· < ·)) (h2: ∀j,j∈ls↔V j≠none) (hN:N=(ls.length:Int)+1):L'.cur=0∧(L.cur=0→ ∃hs,HeldL L' hs∧Dist V' hs):= by
  obtain⟨hs0,hs,g1,g2,g3⟩:=h.fin
  have :=Eb hI h1 h2 g1
  rcases g3 with g3 | ⟨g3,g4⟩
  · omega
  · exact⟨g3, fun q=>⟨hs,g2,g4 q⟩⟩
theorem Aa {L L2:LvD} {V V2:VS} (h:Q1 L2 V2=Q1 L V) (i:Int):L2.tr i≠none↔L.tr i≠none:= by
  have h3:(L2.tr i).map (ZG V2)=(L.tr i).map (ZG V):=congrFun (congrArg LvA.tr h) i
  cases h1:L.tr i with
  | none=> rw[h1]at h3; cases h2:L2.tr i with
    | none=> simp
    | some t=> rw[h2]at h3; cases h3
  | some u=> rw[h1]at h3; cases h2:L2.tr i with
    | none=> rw[h2]at h3; cases h3
    | some t=> simp
end Go.Proofs.YtkcjfoaejijdoaaGreatDoor
namespace Go.Proofs.YtkcjfoaejijdoaaGreatDoor
open Go.RowKit M Proofs.Tryz
theorem TrN.abs {L L':LvD} {V V':VS} {K:Nat} (h:TrN L.tr K) (ha:Q1 L' V'=Q1 L V):TrN L'.tr K:= by
  letI:Inhabited SlW:=⟨⟨0⟩⟩
  obtain⟨ids,h1,h2⟩:=h
  exact⟨ids,h1, fun j hj=>h2 j ((Aa ha j).1 hj)⟩
theorem LT {w:World} {F:Th} (hS:Sat w [F]) (hG:Ent F GT) {fv:Value} {l:List AcL} (hF:Ent F (RdL acLC fv l)) (n:Int):
    Calls prog 5 #[fv,intV n] w (Ret fun v w'=>v= .bool true∧Sat w' [F]):= by
 letI:Inhabited SlW:=⟨⟨4096⟩⟩
 obtain⟨ao,cap,rfl,hm1⟩:=(hF.sat hS 0 rfl).shape
 refine Qm func5 U ntmps5 U ?_
 refine Qd (Qa (Qe U U (Qf (Qc (Qd (Qa (Qv cal_8 U (Ap (hS.sp [] U) (hG.starL 0 U)) U ?_)))))))
 rintro _ w1 ⟨rfl,j1⟩
 replace j1:=j1.jn U U
 refine Qe U U (Qf (Qc (Qd (Qa (Qv cal_9 U (CQ (j1.sp [] U) U) U ?_)))))
 rintro _ w2 ⟨b,p,mp,mt,ms,rfl,j2⟩
 replace j2:=j2.jn U U
 refine Qb U U (Qn U U U (Qn U U U (Qe U U (Qe U U (Qf (Qc (Qh [1,0,4,5,6,7] U (Qd (Qd (Qa (Qb U U (ZO underlying24 U U U (Qb U U (Qo U U U (Qb U U (Qo U U U (ZO underlying25 U U U (QW U U U U (Qf (Qc (Qh [1,0,4,5,6,7,32] U (QR U (Qs (Qc (Qd (Qd (Qa (Qb U U (Qv cal_17 U (few_sp (j2.sp [] U) (hF.starL 2 U) 40) U ?_)))))))))))))))))))))))))))))
 rintro _ w3 ⟨rfl,j3⟩
 replace j3:=j3.jn U U
 refine Xb U U (Qb U U (Zl 36 U (fun h4=> ?_) (fun h4=> ?_)))
 ·exact Qi U U h4 U (Qi U U h4 U (QK U h4 U U (Qb U U (Qi U U U U (Qi U U U U (QK U U U U (Qf (Qc (Qh [1,0,4,5,6,7,43] U (Xd U (Qd (Qa (Qb U U (Qe U U (Qf (Qc (Qu (Qp (QY (.inr U) U U (⟨_,rfl, by rfl,(j3).pick [2] U⟩))))))))))))))))))))
 refine Qo U U h4 (Qb U U (Qo U U h4 (Xk U U U (QW U h4 U U (Qb U U (Xc 40 U (fun h5=> ?_) (fun h5=> ?_)))))))
 ·exact Qi U U (Xm h5) U (Qi U U (Xm h5) U (QK U (Xm h5) U U (Qf (Qc (Qh [1,0,4,5,6,7,43] U (Xd U (Qd (Qa (Qb U U (Qe U U (Qf (Qc (Qu (Qp (QY (.inr U) U U (⟨_,rfl, by rfl,(j3).pick [2] U⟩))))))))))))))))
 refine Qo U U (Q7 h5) (Qb U U (Qo U U (Q7 h5) (YF U U U (QW U (Q7 h5) U U (Qf (Qc (Qh [1,0,4,5,6,7,43] U (Qt U (fun h6=> ?_) (fun h6=> ?_)))))))))
 ·exact Qd (Qa (Qb U U (Qe U U (Qf (Qc (Qu (Qp (QY (.inr U) U U (⟨_,rfl, by rfl,(j3).pick [2] U⟩)))))))))
 have q1:N2 l 40=true:= by(simpa using h4;done)
 have g1:=fewL_is q1
 refine Qs (Qc (Qd (Qd (Qa (Qe U U (Qf (Qc (Qw ?_))))))))
 have hz0:=Zn (i:=0) (p:=p) (A:=PA) ⟨rfl,R6.1,R6.2.1,R6.2.2.2.1.mono (by omega),XA.new⟩ (j3.pick [0,1,2] U)
 refine Xg (fun K0 E0 W0=> ∃(i:Nat) (A:LvA),K0=l.length -i∧E0=[(0,.slice ao l.length cap),(1,intV n),(5,.bool true),(6,ptrV b 0),(7,ptrV p 0),(8,intV (i:Int))]∧Sat W0 [Kz b p 256 (100000000*i) i A,F]∧(i≤l.length)) (L0:=[(0,_),(1,_),(5,_),(6,_),(7,_),(8,_)]) (l.length -0) (Mx U U U U U U) ⟨0,PA,rfl,rfl,hz0.pick [0,1] U, by omega⟩ ?_
 rintro _ _ w7 ⟨i,A,rfl,rfl,j7,hi⟩
 refine Qd (Qd (Qa (Qb U U (Qb U U (X7 underlying36 U U (Xk U U U (Qf (Qc (Qt U (fun h8=> ?_) (fun h8=> ?_))))))))))
 ·obtain⟨x1,ha1⟩: ∃y,l[i]? =some y:=⟨_,Zq (by omega)⟩
  obtain⟨bqx1,offx1,rfl,hcx1⟩:=(hF.sat j7 1 rfl).get ha1
  have hilx1:=(Zb ha1).1
  clear hcx1
  refine Qs (Qc (Qd (Qw (Qd (Qa (Qb U U (Qb U U (Z2 i U U (by rfl) (by omega) Im U ?_))))))))
  refine Qg U Ff U (Qr U QL (((hF.sat j7 1 U).at_ ha1) 0 _ U) U (Qv IS U (SA (j7.sp [] U) x1.dk 14 (by omega)) U ?_))
  rintro _ w9 ⟨rfl,j9⟩
  replace j9:=j9.jn U U
  refine XC U U U (Qf (Qc (Qh [8,7,6,5,1,0,57] U (Qt U (fun h10=> ?_) (fun h10=> ?_)))))
  ·have h13:x1.dk%14≠13:=h10
   refine Qa (Qb U U (Qb U U (Qb U U (Qb U U (Z2 i U U (by rfl) (by omega) Im U ?_)))))
   refine VE U ag_43 Ab (vs:=ED x1) ((hF.sat j9 1 U).at_ ha1) U (Qv cal_20 U (do_sp (j9.sp [0] U) (by omega) (by omega) (g1.2 i x1 ha1) h13) U ?_)
   rintro _ w11 ⟨A2,j11⟩
   replace j11:=j11.jn U U
   refine Qf (Qk (Qc (Qh [8,7,6,5,1,0] U (Qa (Qb U U (QO U U (by omega) (by omega) U ?_))))))
   refine Qe U U (Qf ?_)
   exact Q3 (L1:=[(0,_),(1,_),(5,_),(6,_),(7,_),(8,intV ((i+1:Nat):Int))]) (Mx U U U U U U) (k1:=l.length -(i+1)) (by omega) ⟨i+1,A2,rfl,rfl,Wv (by omega) (j11.pick [0,1] U), by omega⟩
  refine Qs (Qk (Qc (Qa (Qb U U (QO U U (by omega) (by omega) U ?_)))))
  refine Qe U U (Qf ?_)
  exact Q3 (L1:=[(0,_),(1,_),(5,_),(6,_),(7,_),(8,intV ((i+1:Nat):Int))]) (Mx U U U U U U) (k1:=l.length -(i+1)) (by omega) ⟨i+1,A,rfl,rfl,Jj (by omega) (j9.pick [0,1] U), by omega⟩
 refine QU (Qq (Qq (Qx (Qc (Qd ?_)))))
 obtain⟨L,V,⟨h1,h2,h3,h4,h5⟩,hz1⟩:=WI (j7.pick [0,1] rfl)
 have hi40:i≤40:= by omega
 subst h1
 have hc:SzLe L 20480:=h4.mono (by omega)
 have hm:i<Zg:= by unfold Zg;omega
 have hz12:=Xn (m:=4000000000) (by omega) (hz1.pick [1,0,2] U)
 have hal:=Kl h2 hc
 obtain⟨ids0,obs0,g5,g6,g7⟩:=_root_.id h5
 have hK:TrN L.tr 40:=⟨ids0, by omega, fun j hj=>g7.ids j (by obtain⟨u,hu⟩:=Option.ne_none_iff_exists'.1 hj; rw[←h3,Zh hu]; simp)⟩
 refine Qa (Qb U U ?_)
 have hC13:=hz12.sp [0] U
 refine Qv cal_28 U (stCopy hC13 (by omega)) U ?_
 rintro _ w13 ⟨p2,rfl,j13⟩
 replace j13:=j13.jn U U; clear hC13
 clear hz12
 refine Qe U U (Qf (Qc (Qh [7,6,5,1,9] U (Qd (Qd (Qa (Qb U U (ZO underlying25 U U U (Qf (Qc (QR U (Qs (Qc (Qd (Qa (Qb U U (Qb U U (Qv cal_29 U (LV (s:=p2) (j13.sp [2] U)) U ?_))))))))))))))))))
 rintro _ w14 ⟨q,L2,rfl,e1,e2,e3,e4,e5,j14⟩
 replace j14:=j14.jn U U
 have hI2:=LvI.sim h2 e2 e5
 have hab2:=Pb (V:=V) e2 e5
 have hc2:=SzLe.sim hc e2 e5
 refine Qe U U (Qf (Qc (Qh [7,6,5,1,9,10] U (Qd (Qd (Qa (Qb U U (ZO underlying24 U U U (Qf (Qc (QR U (Qs (Qc (Qd (Qa (Qb U U (Qb U U (Qv Cd U (PC (j14.sp [1,3] U) U h2 hc (by omega) n (by omega) (by omega)) U ?_))))))))))))))))))
 rintro _ w15 ⟨L3,V3,l3,hp3,hM3,j15⟩
 replace j15:=j15.jn U U
 have hz16:=Xn (m:=5000000000) (by omega) (j15.pick [2,0,1,3,4,5] U)
 have hy17:=(hz16.pick [1,0,2,3,4,5] U).tail
 refine Qf (Qc (Qh [7,6,5,9,10] U (Qd (Qa (Qb U U (Qb U U ?_))))))
 have hal3:=Kl hM3.inv hM3.sz
 have hC18:=hy17.sp [0] U
 refine Qv Sk U (Pv hC18 hal3 (by omega)) U ?_
 rintro _ w18 ⟨ls3,hla3,hlb3,hlc3,j18⟩
 replace j18:=j18.jn U U; clear hC18
 clear hy17
 obtain⟨aa3,ca3,hva3,_⟩:=j18.own_shape 0 rfl; obtain rfl:=hva3
 refine X7 underlying47 U U (QO U U (by omega) (by omega) U ?_)
 refine Qv Cd U (PC (j18.sp [2,1] U) hp3 hM3.inv hM3.sz (by omega) ((ls3.length:Int)+1) (by omega) (by omega)) U ?_
 rintro _ w19 ⟨L4,V4,l4,hp4,hM4,j19⟩
 replace j19:=j19.jn U U
 have hz20:=Xn (m:=13000000000) (by omega) (j19.pick [2,0,1,3,4,5,6] U)
 have hy21:=(hz20.pick [1,0,2,3,4,5,6] U).tail
 refine Qf (Qc (Qh [7,6,5,9,10] U (Qd ?_)))
 have hy22:=(hy21.pick [2,0,1,3,4,5] U).tail
 refine Qa (Qb U U (Qb U U ?_))
 have hal4:=Kl hM4.inv hM4.sz
 have hC23:=hy22.sp [0] U
 refine Qv Sk U (Pv hC23 hal4 (by omega)) U ?_
 rintro _ w23 ⟨ls4,hla4,hlb4,hlc4,j23⟩
 replace j23:=j23.jn U U; clear hC23
 clear hy22
 obtain⟨aa4,ca4,hva4,_⟩:=j23.own_shape 0 rfl; obtain rfl:=hva4
 refine X7 underlying47 U U (QO U U (by omega) (by omega) U ?_)
 refine Qv Cd U (PC (j23.sp [2,1] U) hp4 hM4.inv hM4.sz (by omega) ((ls4.length:Int)+1) (by omega) (by omega)) U ?_
 rintro _ w24 ⟨L5,V5,l5,hp5,hM5,j24⟩
 replace j24:=j24.jn U U
 have hz25:=Xn (m:=22000000000) (by omega) (j24.pick [2,0,1,3,4,5,6] U)
 have hy26:=(hz25.pick [1,0,2,3,4,5,6] U).tail
 refine Qf (Qc (Qh [7,6,5,9,10] U (Qd ?_)))
 have hy27:=(hy26.pick [2,0,1,3,4,5] U).tail
 have hcur:=(Ov hM4 hM3.inv hla3 hlb3 U).1
 obtain⟨hd,hhd,hdis⟩:=(Ov hM5 hM4.inv hla4 hlb4 rfl).2 hcur
 have habs5:Q1 L5 V5=Q1 L V:=hM5.ab.trans (hM4.ab.trans hM3.ab)
 refine Qa (XU inC [0] hy27 U underlying47 Uu U U U U (by rfl) rfl ?_)
 intro bz w28 j28
 clear hy27
 refine Qb U U ?_
 have hK5: ∀ks,Came (X0 TrD.ad L5.tr) ks→ks.length≤40:= fun ks h=>TrN.came ((hK.abs habs5)) h
 refine Qv IR U (SQ (j28.sp [2] U) (fun ks h=>Nat.le_trans (hK5 ks h) (by omega))) U ?_
 rintro _ w29 ⟨ks,hks,j29⟩
 replace j29:=j29.jn U U
 refine ZH inC 2 j29 U U U (j29.rd 0 U (by rw[WD]; have :=hK5 _ (Came.of_all hks);omega)) underlying47 underlying47 (by intro k hk; cases hk) UX U (by simp [WD]; have :=hK5 _ (Came.of_all hks);omega) U (by simp [WD]; have :=hK5 _ (Came.of_all hks);omega) ?_
 intro v30 w30 j30; dsimp only[List.set]at j30
 have hp30:=(j30.pick [0,1,2,3,4,5,6] U).tail
 refine Qe U U (Qf (Qc (Qd (Qd ?_))))
 obtain⟨hidn,hidm⟩:=LZ hM5.inv.rank.1 hks
 obtain⟨ids,hids⟩: ∃ids,ids=0::ZL ks:=⟨_,rfl⟩
 rw[←hids]at hidn hidm
 rw[show([0]++ZL ks:List Int)=ids from hids.symm]at hp30
 have hidl:ids.length≤41:= by rw[hids,List.length_cons,WD]; have :=hK5 _ (Came.of_all hks);omega
 obtain⟨ib,ci,hvi,_⟩:=hp30.own_at 1 rfl (by rw[hids,List.length_cons];omega); obtain rfl:=hvi
 refine Qa (Qe U U (Qf (Qc (Qh [7,6,5,9,10,11,12] U (Qw ?_)))))
 refine Xg (fun K0 E0 W0=> ∃(k:Nat),K0=ids.length -k∧E0=[(5,.bool true),(6,ptrV b 0),(7,ptrV L.sp 0),(9,ptrV p2 0),(10,ptrV q 0),(11,.slice (some ⟨ib,0,none⟩) ids.length ci),(12,intV (k:Int))]∧Sat W0 [rowT inC (.slice (some ⟨ib,0,none⟩) ids.length ci) ids,XX b L5,XD L.sp 22000000000 256 V5,XX q L2,XD p2 4000000000 256 V,F]∧(k≤ids.length)) (L0:=[(5,_),(6,_),(7,_),(9,_),(10,_),(11,_),(12,_)]) (ids.length -0) (Pf U U U U U U U) ⟨0,rfl,rfl,hp30.pick [1,0,2,3,4,5] U, by omega⟩ ?_
 rintro _ _ w31 ⟨k,rfl,rfl,j31,hk⟩
 refine Qd (Qd (Qa (Qb U U (Qb U U (X7 underlying47 U U (Xk U U U (Qf (Qc (Qh [12,11,10,9,7,6,5,96] U (Qt U (fun h32=> ?_) (fun h32=> ?_)))))))))))
 ·obtain⟨id,hid⟩: ∃s,ids[k]? =some s:=⟨_,Zq (by omega)⟩
  have hidq:=(hidm id).1 (List.mem_of_getElem? hid)
  have hidq2:id=0∨L2.tr id≠none:=hidq.imp_right fun h=>(Aa (habs5.trans hab2.symm) id).1 h
  refine Qs (Qc (Qd (Qw (Qd (Qd ?_)))))
  have j33:=j31.drew
  refine QE [0,1,2,3,4,6,7,8,9,10,5,11,12,13,14,15,16,17,18,20,21,22,23,24,19,25,26,27,28] [5,11,19,25,26] Wa (by kernel_rfl) ?_
  refine Q9 U U U (Q9 U U U (Q9 U U U (QZ U U U (fun _=>(XM k U U (by rfl) (by omega) Jr)) ?_)))
  refine Q4 U U U (Za inC 0 k 0 j33 U hid QL U U) (Q9 U U U (Q9 U U U (Q9 U U U (QZ U U U (fun _=>(XM k U U (by rfl) (by omega) Jr)) ?_))))
  refine Q4 U U U (Za inC 0 k 0 j33 U hid QL U U) (Xe U U U U U U ?_)
  refine Qv Cm U (EY (j33.sp [1,2] U) hp5 (by omega) hM5.inv hm (hG.starL 3 U) id hidq) U ?_
  rintro _ w34 ⟨r1,rfl,hr1,j34⟩
  replace j34:=j34.jn U U
  refine Xz (.cons (.inl ⟨rfl,(Za inC 2 k 0 j34 U hid QL U U)⟩) (Xj (by kernel_rfl))) ?_
  refine Xe U U U U U U ?_
  refine Qv Cm U (EY (j34.sp [3,4] U) e1 (by omega) hI2 hm (hG.starL 3 U) id hidq2) U ?_
  rintro _ w35 ⟨r2,rfl,hr2,j35⟩
  replace j35:=j35.jn U U
  have hrr:r1=r2:=Bool.eq_iff_iff.2 (hr1.trans ((by rw[habs5,hab2]):_↔VaI (Q1 L2 V) id) |>.trans hr2.symm)
  subst hrr
  refine Xz (Xj (by kernel_rfl)) ?_
  refine QZ U U U (fun _=>(ev_neqB underlying4 U U)) ?_
  refine Q9 U U U (EX 112 U (fun h36=> ?_) (fun h36=> ?_))
  ·exact absurd h36 (by simp)
  refine QZ U U (Q0 U U h36) (fun _=>(Ev.gd (Xl U))) ?_
  refine QZ U U (Q0 U U h36) (fun _=>(Ev.gd (Xl U))) ?_
  refine QZ U U (Q0 U U h36) (fun _=>(Ev.gd (Xl U))) ?_
  refine QZ U U (Q0 U U h36) (fun _=>(Ev.gd (XM k U U (by rfl) (by omega) Jr))) ?_
  refine Q4 U U (Q0 U U h36) (Ev.gd (Za inC 4 k 0 j35 U hid QL U U)) (QZ U U (Q0 U U h36) (fun _=>(Ev.gd (Xl U))) ?_)
  refine QZ U U (Q0 U U h36) (fun _=>(Ev.gd (Xl U))) ?_
  refine QZ U U (Q0 U U h36) (fun _=>(Ev.gd (Xl U))) ?_
  refine QZ U U (Q0 U U h36) (fun _=>(Ev.gd (XM k U U (by rfl) (by omega) Jr))) ?_
  refine Q4 U U (Q0 U U h36) (Ev.gd (Za inC 4 k 0 j35 U hid QL U U)) (Xe U U (Q0 U U h36) U U U ?_)
  refine Qv IM U (Na (j35.sp [2,3] U) hp5 (by omega) hM5.inv hm hM5.sz (by omega) id hidq) U ?_
  rintro _ w37 ⟨n1,hn1,hnc1,j37⟩
  replace j37:=j37.jn U U
  obtain⟨an,cn,hvn,_⟩:=j37.own_shape 0 rfl; obtain rfl:=hvn
  refine Xz (.cons (.inl ⟨(Q0 U U h36),(Ev.gd (Za inC 5 k 0 j37 U hid QL U U))⟩) (Xj (by kernel_rfl))) ?_
  refine Xe U U (Q0 U U h36) U U U ?_
  refine Qv IM U (Na (j37.sp [3,4] U) e1 (by omega) hI2 hm hc2 (by omega) id hidq2) U ?_
  rintro _ w38 ⟨n2,hn2,hnc2,j38⟩
  replace j38:=j38.jn U U
  have hnq:ZK n1=ZK n2:=nm_same (A:=Q1 L V) (by rw[←habs5]; exact hn1) (by rw[←hab2]; exact hn2)
  have hl1:(ZK n1).length≤90000000000:= by rw[Yn];omega
  have hl2:(ZK n2).length≤90000000000:= by rw[Yn];omega
  refine Xz (Xj (by kernel_rfl)) ?_
  refine Xe U U (Q0 U U h36) U U U ?_
  refine Qv cal_31 U (same_sp (j38.sp [] U) (Ent.starL (Jn (C:=stC) (l:=ZK n1) (by omega)) 3 U) (Ent.starL (Jn (C:=stC) (l:=ZK n2) (by omega)) 0 U)) U ?_
  rintro _ w39 ⟨rfl,j39⟩
  replace j39:=j39.jn U U
  rw[Xm hnq]
  refine Xz (Xj (by kernel_rfl)) ?_
  refine QZ U U (Q0 U U h36) (fun _=>(Ev.gd (HO U))) ?_
  refine QZ U U U (fun _=>(Wm U h36 U)) ?_
  refine VC.nil (Qc (Qh [12,11,10,9,7,6,5,127] U (QT U (fun h40=> ?_) (fun h40=> ?_))))
  ·exact absurd h40 (by simp)
  refine Qs (Qc (Qd (Qa (Qb U U (Qb U U (Qb U U (Xx inC 6 k j39 U U U (by rfl) hid Jr U ?_)))))))
  intro bx41 capx41 hvx41
  refine Zz 6 k 0 j39 U hvx41 U U hid QL U U ?_
  have hy42:=j39.pick [6,4,5,1,2,7] U
  have hC43:=hy42.sp [1] U
  refine Qv cal_26 U (PE hC43 hM5.sz (by omega) hM5.inv.rank.1 hidq) U ?_
  rintro _ w43 ⟨kl,hkn,hkl,hkc,j43⟩
  replace j43:=j43.jn U U; clear hC43
  clear hy42
  obtain⟨ar,cr,hvr,_⟩:=j43.own_shape 0 rfl; obtain rfl:=hvr
  have hlm:(kl.map (Bt L5 id)).length=kl.length:= by simp
  refine Qe U U (Qf (Qc (Qh [12,11,10,9,7,6,5,13] U (Qd (Qa (Qe U U (Qf (Qc (Qw ?_)))))))))
  refine Xg (fun K0 E0 W0=> ∃(j:Nat),K0=(kl.map (Bt L5 id)).length -j∧E0=[(5,.bool true),(6,ptrV b 0),(7,ptrV L.sp 0),(9,ptrV p2 0),(10,ptrV q 0),(11,.slice (some ⟨ib,0,none⟩) ids.length ci),(12,intV (k:Int)),(13,.slice ar (kl.map (Bt L5 id)).length cr),(14,intV (j:Int))]∧Sat W0 [rowT Pg (.slice ar (kl.map (Bt L5 id)).length cr) (kl.map (Bt L5 id)),rowT inC (.slice (some ⟨ib,0,none⟩) ids.length ci) ids,XX b L5,XD L.sp 22000000000 256 V5,XX q L2,XD p2 4000000000 256 V,F]∧(j≤(kl.map (Bt L5 id)).length)) (L0:=[(5,_),(6,_),(7,_),(9,_),(10,_),(11,_),(12,_),(13,_),(14,_)]) ((kl.map (Bt L5 id)).length -0) (zb9 U U U U U U U U U) ⟨0,rfl,rfl,j43.pick [0,2,1,3,4,5,6] U, by omega⟩ ?_
  rintro _ _ w44 ⟨j,rfl,rfl,j44,hj⟩
  refine Qd (Qd (Qa (Qb U U (Qb U U (X7 underlying52 U U (Xk U U U (Qf (Qc (Qh [14,13,12,11,10,9,7,6,5,137] U (Qt U (fun h45=> ?_) (fun h45=> ?_)))))))))))
  ·obtain⟨x,hx⟩: ∃y,(kl.map (Bt L5 id))[j]? =some y:=⟨_,Zq (by omega)⟩
   obtain⟨zrb,zrc,zrh,_⟩:=j44.own_at 0 rfl (by omega); cases zrh
   refine Qs (Qc (Qd (Qw (Qd ?_))))
   have j46:=j44.drew
   refine QE [0,1,2,3,4,5,6,7,8,9,10,11,12,13,14,15,16,17,18,19,20] [15] Wa (by kernel_rfl) ?_
   refine Q9 U U U (Q9 U U U (Q9 U U U (QZ U U U (fun _=>(XM k U U (by rfl) (by omega) Jr)) ?_)))
   refine Q4 U U U (Za inC 1 k 0 j46 U hid QL U U) (Q9 U U U (Q9 U U U (QZ U U U (fun _=>(XM j U U (by rfl) (by omega) Fi)) ?_)))
   refine QQ U U U Fc (Q4 U U U (Za Pg 0 j 0 j46 U hx W9 U U) (Q9 U U U (Q9 U U U (QZ U U U (fun _=>(XM j U U (by rfl) (by omega) Fi)) ?_))))
   refine QQ U U U Fb (Q4 U U U (Za Pg 0 j 1 j46 U hx QL U U) (Xe U U U U U U ?_))
   refine Qv Cc U (Ay (j46.sp [2,3] U) hp5 hM5.inv hm id hidq x.k.1 x.k.2) U ?_
   rintro _ w47 ⟨s1,b1,rfl,hs1,j47⟩
   replace j47:=j47.jn U U
   refine Xz (Xj (by kernel_rfl)) ?_
   refine Q9 U U U (Wi U U U U (Wi U U U U (XK U U U (XK U U U (VC.nil (Qc (Qh [14,13,12,11,10,9,7,6,5,15] U (Qd ?_))))))))
   have j48:=j47.drew
   refine QE [0,1,2,3,4,5,6,7,8,9,10,11,12,13,14,15,16,17,18,19,20] [15] Wa (by kernel_rfl) ?_
   refine Q9 U U U (Q9 U U U (Q9 U U U (QZ U U U (fun _=>(XM k U U (by rfl) (by omega) Jr)) ?_)))
   refine Q4 U U U (Za inC 3 k 0 j48 U hid QL U U) (Q9 U U U (Q9 U U U (QZ U U U (fun _=>(XM j U U (by rfl) (by omega) Fi)) ?_)))
   refine QQ U U U Fc (Q4 U U U (Za Pg 2 j 0 j48 U hx W9 U U) (Q9 U U U (Q9 U U U (QZ U U U (fun _=>(XM j U U (by rfl) (by omega) Fi)) ?_))))
   refine QQ U U U Fb (Q4 U U U (Za Pg 2 j 1 j48 U hx QL U U) (Xe U U U U U U ?_))
   refine Qv Cc U (Ay (j48.sp [4,5] U) e1 hI2 hm id hidq2 x.k.1 x.k.2) U ?_
   rintro _ w49 ⟨s2,b2,rfl,hs2,j49⟩
   replace j49:=j49.jn U U
   refine Xz (Xj (by kernel_rfl)) ?_
   refine Q9 U U U (Wi U U U U (Wi U U U U (XK U U U (XK U U U (VC.nil (Qc (Qh [14,13,12,11,10,9,7,6,5,15,17] U (Qd (Qa (Qb U U (Qb U U (Qv W5 U (WX (j49.sp [3] U) (s1)) U ?_))))))))))))
   rintro _ w50 ⟨rfl,j50⟩
   replace j50:=j50.jn U U
   refine Qb U U (Qb U U (Qv W5 U (WX (j50.sp [2] U) (s2)) U ?_))
   rintro _ w51 ⟨rfl,j51⟩
   replace j51:=j51.jn U U
   refine By U U U (Qf (Qc (Qh [14,13,12,11,10,9,7,6,5,184] U (Qt U (fun h52=> ?_) (fun h52=> ?_)))))
   ·exact absurd (hs1.trans ((by rw[habs5,hab2]:shA (Q1 L5 V5) id x.k.1 x.k.2=shA (Q1 L2 V) id x.k.1 x.k.2).trans hs2.symm)) h52
   refine Qs (Qk (Qc (Qa (Qb U U (QO U U (by omega) (by omega) U ?_)))))
   refine Qe U U (Qf ?_)
   exact Q3 (L1:=[(5,_),(6,_),(7,_),(9,_),(10,_),(11,_),(12,_),(13,_),(14,intV ((j+1:Nat):Int))]) (zb9 U U U U U U U U U) (k1:=(kl.map (Bt L5 id)).length -(j+1)) (by omega) ⟨j+1,rfl,rfl,j51.pick [4,5,3,1,2,0,6] U, by omega⟩
  refine QU (Qq (Qq (Qx (Qk (Qc (Qa (Qb U U (QO U U (by omega) (by omega) U ?_))))))))
  refine Qe U U (Qf ?_)
  exact Q3 (L1:=[(5,_),(6,_),(7,_),(9,_),(10,_),(11,_),(12,intV ((k+1:Nat):Int))]) (Pf U U U U U U U) (k1:=ids.length -(k+1)) (by omega) ⟨k+1,rfl,rfl,j44.pick [1,2,3,4,5,6] U, by omega⟩
 refine QU (Qq (Qq (Qx (Qc (Qd (Qa (Qb U U ?_)))))))
 have hal7:=Kl hM5.inv hM5.sz
 refine Qv Sk U (Pv (j31.sp [2] U) hal7 (by omega)) U ?_
 rintro _ w53 ⟨ls7,hla7,hlb7,hlc7,j53⟩
 replace j53:=j53.jn U U
 obtain⟨aa7,ca7,hva7,_⟩:=j53.own_shape 0 rfl; obtain rfl:=hva7
 refine Qe U U (Qf (Qc (Qh [7,5,19] U (Qd (Qd (Qa (Qe U U (Qf (Qc (Qw ?_))))))))))
 have hy54:=(j53).pick [0,1,6] U
 refine Xg (fun K0 E0 W0=> ∃(k:Nat),K0=ls7.length -k∧E0=[(5,.bool true),(7,ptrV L.sp 0),(19,.slice aa7 ls7.length ca7),(20,intV (k:Int))]∧Sat W0 [rowT inC (.slice aa7 ls7.length ca7) ls7,XD L.sp 22000000000 256 V5,F]∧(k≤ls7.length)) (L0:=[(5,_),(7,_),(19,_),(20,_)]) (ls7.length -0) (HR U U U U) ⟨0,rfl,rfl,hy54.pick [0,1,2] U, by omega⟩ ?_
 rintro _ _ w55 ⟨k,rfl,rfl,j55,hk⟩
 refine Qd (Qd (Qa (Qb U U (Qb U U (X7 underlying47 U U (Xk U U U (Qf (Qc (Qt U (fun h56=> ?_) (fun h56=> ?_))))))))))
 ·obtain⟨s,hs⟩: ∃s,ls7[k]? =some s:=⟨_,Zq (by omega)⟩
  have hsm:=(hhd.1 s).2 ((ZW hM5.inv s).1 ((hlb7 s).1 (List.mem_of_getElem? hs)))
  refine Qs (Qc (Qd (Qw (Qd (Qd (Qa (Qb U U (Qb U U (Qb U U (Xx inC 0 k j55 U U U (by rfl) hs Jr U ?_))))))))))
  intro bx57 capx57 hvx57
  refine Zz 0 k 0 j55 U hvx57 U U hs QL U U (Qv W5 U (WX (j55.sp [1] U) (s)) U ?_)
  rintro _ w58 ⟨rfl,j58⟩
  replace j58:=j58.jn U U
  refine Qb U U (Qv W5 U (WX (j58.sp [0] U) (0)) U ?_)
  rintro _ w59 ⟨rfl,j59⟩
  replace j59:=j59.jn U U
  refine Rk U U U (Qf (Qc (Qh [20,19,7,5,201] U (Qt U (fun h60=> ?_) (fun h60=> ?_)))))
  ·exact absurd (h60.trans (Wk hM5.inv.zero)) (hdis s s hsm hsm).1
  refine Qs (Qc (Qd (Qa (Qe U U (Qf (Qc (Qw ?_)))))))
  refine Xg (fun K0 E0 W0=> ∃(j:Nat),K0=k -j∧E0=[(5,.bool true),(7,ptrV L.sp 0),(19,.slice aa7 ls7.length ca7),(20,intV (k:Int)),(21,intV (j:Int))]∧Sat W0 [rowT inC (.slice aa7 ls7.length ca7) ls7,XD L.sp 22000000000 256 V5,F]∧(j≤k)) (L0:=[(5,_),(7,_),(19,_),(20,_),(21,_)]) (k -0) (Hi U U U U U) ⟨0,rfl,rfl,j59.pick [1,0,2] U, by omega⟩ ?_
  rintro _ _ w61 ⟨j,rfl,rfl,j61,hj⟩
  refine Qd (Qd (Qa (Qb U U (Qb U U (Xk U U U (Qf (Qc (Qt U (fun h62=> ?_) (fun h62=> ?_)))))))))
  ·obtain⟨u,hu⟩: ∃s,ls7[j]? =some s:=⟨_,Zq (by omega)⟩
   have hum:=(hhd.1 u).2 ((ZW hM5.inv u).1 ((hlb7 u).1 (List.mem_of_getElem? hu)))
   have hus:=(UR hla7 hu hs).1 (by omega)
   obtain⟨zlb,zlc,zlh,_⟩:=j61.own_at 0 rfl (by omega); cases zlh
   refine Qs (Qc (Qd (Qw (Qd ?_))))
   have j63:=j61.drew
   refine QE [0,1,2,3,4,6,7,8,9,10,5,11,12] [5,11] Wa (by kernel_rfl) ?_
   refine Q9 U U U (Q9 U U U (Q9 U U U (QZ U U U (fun _=>(XM k U U (by rfl) (by omega) Jr)) ?_)))
   refine Q4 U U U (Za inC 0 k 0 j63 U hs QL U U) (Q9 U U U (Q9 U U U (Q9 U U U (QZ U U U (fun _=>(XM j U U (by rfl) (by omega) Jr)) ?_))))
   refine Q4 U U U (Za inC 0 j 0 j63 U hu QL U U) (Xe U U U U U U ?_)
   refine Qv W5 U (WX (j63.sp [1] U) (s)) U ?_
   rintro _ w64 ⟨rfl,j64⟩
   replace j64:=j64.jn U U
   refine Xz (.cons (.inl ⟨rfl,(Za inC 1 j 0 j64 U hu QL U U)⟩) (Xj (by kernel_rfl))) ?_
   refine Xe U U U U U U ?_
   refine Qv W5 U (WX (j64.sp [0] U) (u)) U ?_
   rintro _ w65 ⟨rfl,j65⟩
   replace j65:=j65.jn U U
   refine Xz (Xj (by kernel_rfl)) ?_
   refine QZ U U U (fun _=>(TK U U)) ?_
   refine VC.nil (Qc (Qh [21,20,19,7,5,219] U (Qt U (fun h66=> ?_) (fun h66=> ?_))))
   ·exact absurd h66.symm ((hdis s u hsm hum).2 hus)
   refine Qs (Qk (Qc (Qa (Qb U U (QO U U (by omega) (by omega) U ?_)))))
   refine Qe U U (Qf ?_)
   exact Q3 (L1:=[(5,_),(7,_),(19,_),(20,_),(21,intV ((j+1:Nat):Int))]) (Hi U U U U U) (k1:=k -(j+1)) (by omega) ⟨j+1,rfl,rfl,j65.pick [1,0,2] U, by omega⟩
  refine QU (Qq (Qq (Qx (Qk (Qc (Qa (Qb U U (QO U U (by omega) (by omega) U ?_))))))))
  refine Qe U U (Qf ?_)
  exact Q3 (L1:=[(5,_),(7,_),(19,_),(20,intV ((k+1:Nat):Int))]) (HR U U U U) (k1:=ls7.length -(k+1)) (by omega) ⟨k+1,rfl,rfl,j61.pick [0,1,2] U, by omega⟩
 exact QU (Qq (Qq (Qx (Qc (Qd (Qa (Qb U U (Qe U U (Qf (Qc (Qu (QY (.inr U) U U (⟨_,rfl, by rfl,(j55).pick [2] U⟩)))))))))))))
