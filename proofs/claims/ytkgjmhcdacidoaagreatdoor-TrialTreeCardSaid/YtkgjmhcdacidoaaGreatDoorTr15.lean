/- laws of trials: below -/
import Derived.Test.YtkgjmhcdacidoaaGreatDoorTr12
import Derived.Test.YtkgjmhcdacidoaaGreatDoorLv1
set_option linter.unusedSectionVars false
set_option linter.unusedVariables false
set_option maxRecDepth 100000
set_option maxHeartbeats 80000000000
namespace Go.Proofs.YtkgjmhcdacidoaaGreatDoor
open Go.RowKit M Proofs.Tryz
variable [Inhabited SlW]
theorem W7 {T:Nodes} {ids:List Int}:(QI T ids).length=ids.length:= by unfold QI; rw[List.length_map]
theorem JD {T:Nodes} {last:Int} {ids:List Int} (hI:TrI T last) (h:IdsOf T ids) {k:Nat} {m:NodeD} (hk:(QI T ids)[k]? =some m):ids[k]? =some m.id∧T m.id=some m∧m.id≠0:= by
  unfold QI at hk
  rw[List.getElem?_map]at hk
  obtain⟨c,h1,h2⟩:=Option.map_eq_some_iff.1 hk
  obtain⟨h3,n,h4⟩:=h.get h1
  rw[UR h4]at h2
  subst h2
  rw[hI.own h4]
  exact⟨h1,h4,h3⟩
theorem Ni {T:Nodes} {last:Int} {ids:List Int} (hI:TrI T last) (h:IdsOf T ids) {j:Int} {n:NodeD} (hj:T j=some n) (h0:j≠0): ∃k:Nat,(QI T ids)[k]? =some n:= by
  obtain⟨k,hk⟩:=List.mem_iff_getElem?.1 ((h.2 j).2 ⟨h0, by rw[hj]; simp⟩)
  exact⟨k, by unfold QI; rw[List.getElem?_map,hk]; show some (nd T j)=some n; rw[UR hj]⟩
theorem Sh {T:Nodes} {last cur:Int} {ids:List Int} (hI:TrI T last) (h:IdsOf T ids) {k:Nat} {m:NodeD} (hk:(QI T ids)[k]? =some m) (e:m.id=cur):NQ T cur=m.par:= by
  obtain⟨_,h1,h2⟩:=JD hI h hk
  subst e
  exact GG h1 h2
theorem FJ {T:Nodes} {last cur:Int} {ids:List Int} (hI:TrI T last) (h:IdsOf T ids) (hn: ∀(q:Nat) (m:NodeD),(QI T ids)[q]? =some m→m.id≠cur):NQ T cur=cur:= by
  unfold NQ
  by_cases e:cur=0
  · rw[if_pos e,e]
  · rw[if_neg e]
    cases q:T cur with
    | none=>rfl
    | some n=>
      obtain⟨k,hk⟩:=Ni hI h q e
      exact absurd (hI.own q) (hn k n hk)
theorem D6 {T:Nodes} {last:Int} {ids:List Int} (hI:TrI T last) (h:IdsOf T ids) {k:Nat} {m n:NodeD} (h1:(QI T ids)[k]? =some m) (h2:(QI T ids)[k+1]? =some n):m.id<n.id:= by
  have a:=(JD hI h h1).1
  have b:=(JD hI h h2).1
  obtain⟨a1,a2⟩:=XL a
  obtain⟨b1,b2⟩:=XL b
  have :=List.pairwise_iff_getElem.1 h.1 k (k+1) a1 b1 (by omega)
  rw[a2,b2]at this
  exact this
structure TS (i:Nat) (T:Nodes) (last:Int) (C:CeD) (A:LvA) (ids:List Int) (m:Nat):Prop where
  q:TQ T last C A ids
  pl:PlainN T
  dep:DepI T
  len:ids.length≤32
  la:last≤i
  mm:m≤i
  gu: ∀j n,T j=some n→0≤n.gue∧n.gue≤1023
theorem TS.up {i j m:Nat} {T:Nodes} {last:Int} {C:CeD} {A:LvA} {ids:List Int} (h:TS i T last C A ids m) (hj:i≤j):TS j T last C A ids m:=⟨h.q,h.pl,h.dep,h.len, by have :=h.la;omega, by have :=h.mm;omega,h.gu⟩
theorem TS.start {C:CeD} (h:TQ Up 0 C Bg []):TS 0 Up 0 C Bg [] 0:= by
  have hT: ∀{i n},Up i=some n→n=zN:= fun {i n} q=> by
    unfold Up at q
    by_cases e:i=0
    · subst e; rw[Qu]at q; cases q;rfl
    · rw[Qz e]at q; cases q
  exact⟨h, fun i n q=> by rw[hT q]; exact⟨rfl,rfl,rfl⟩, fun i n q=> by rw[hT q]; exact⟨Int.le_refl _, by decide⟩, by simp,Int.le_refl _,Nat.le_refl _, fun i n q=> by rw[hT q]; exact⟨Int.le_refl _, by decide⟩⟩
theorem TS.com {i m:Nat} {T:Nodes} {last id:Int} {C:CeD} {A:LvA} {ids:List Int} (h:TS i T last C A ids m) {n p:NodeD} {x y:OneD} (h0:id≠0) (hn:T id=some n) (hp:T n.par=some p) (hk: ∀j,¬ChildOf T id j) (hx:C.all id=some x) (hy:C.all n.par=some y):
    ∃ids',TS (i+1) (Vx T id n p) last (Vy C id n.par x y) (VP A id) ids' m:= by
  obtain⟨e1,e2,_⟩:=h.pl id n hn
  have ec:RQ p n=p:= by
    unfold RQ
    rw[e1,e2,Bool.false_and,Bool.or_false,Int.add_zero]
  have e3:Vx T id n p=QO T id none:= by unfold Vx; rw[ec,Wk hp]
  have ew:Hn x y=y.writes:= by
    funext k
    unfold Hn
    rw[(h.q.ce.quiet hx).1]
  have e4:Vy C id n.par x y=⟨C.ma,QO (QO C.all n.par (some {y with kids:=y.kids -1})) id none⟩:= by unfold Vy; rw[ew]
  obtain⟨ids',h1,h2⟩:=h.q.del h0 hn hk hy
  rw[e3,e4]
  have hs:=(BJ hk).symm
  exact⟨ids',⟨h1, by rw[hs]; exact h.pl.abS, by rw[hs]; exact h.dep.abS,Nat.le_trans h2 h.len, by have :=h.la;omega, by have :=h.mm;omega, fun j n q=>h.gu j n (by rw[hs]at q; exact(Yc q).2)⟩⟩
theorem TS.beg {i m:Nat} {T:Nodes} {last:Int} {C:CeD} {A:LvA} {ids:List Int} (h:TS i T last C A ids m) {who n:Int} {p:NodeD} (hf: ¬(8≤p.dep∨32≤ids.length)) (hp:T who=some p) {y x:OneD} (hy:C.all who=some y) (hn: ∀j z,C.all j=some z→z.ad≠x.ad) (hxp:x.par=some y.ad) (hxk:x.kids=0) (hxq:F7 x) (hg:0≤n∧n≤1023):
    TS (i+1) (QO T (last+1) (some ⟨last+1,who,p.dep+1,n,0,false,false⟩)) (last+1) ⟨C.ma,QO (QO C.all who (some {y with kids:=y.kids+1})) (last+1) (some x)⟩ (UD A (last+1) who) (ids++[last+1]) (m+1):=
  ⟨h.q.begin (by have :=h.len;omega) hp hy hn hxp hxk hxq,h.pl.begin,h.dep.begin hp (by omega), by rw[List.length_append]; simp;omega, by have :=h.la;omega, by have :=h.mm;omega, fun j q hq=> by
    by_cases e:j=last+1
    · subst e; rw[Qu]at hq; cases hq; exact hg
    · rw[Qz e]at hq; exact h.gu j q hq⟩
theorem TS.abo {i m:Nat} {T:Nodes} {last who:Int} {C C':CeD} {A A':LvA} {ids ids':List Int} (h:TS i T last C A ids m) (hq:TQ (abS T (fun j=>j=who)) last C' A' ids') (hl:ids'.length≤ids.length):TS (i+1) (abS T (fun j=>j=who)) last C' A' ids' m:=
  ⟨hq,h.pl.abS,h.dep.abS,Nat.le_trans hl h.len, by have :=h.la;omega, by have :=h.mm;omega, fun j n q=>h.gu j n (Yc q).2⟩
theorem EW {w:World} {F:Th} {T:Nodes} {last:Int} {ids:List Int} (hS:Sat w [F]) (hI:TrI T last) (Zt:IdsOf T ids) (hln:ids.length≤40) {lv:Value} (hL:Ent F (RdL RI lv (QI T ids))) (j who:Int):
    Calls prog 21 #[lv,intV j,intV who] w (Ret fun v w'=> ∃b:Bool,v= .bool b∧(b=true↔ ∃k,k≤ids.length∧Dg T k j=who)∧Sat w' [F]):= by
 have hnl:=W7 (T:=T) (ids:=ids)
 obtain⟨ao,cap,rfl,hmax⟩:=(hL.sat hS 0 rfl).shape
 refine Qn func21 U ntmps21 U ?_
 refine Qe (Qa (Qd U U (Qf (Qc (Qe (Qe (Qa (Qd U U (Qf (Qc (Qw (Xe (fun K0 E0 W0=> ∃(i:Nat),K0=(QI T ids).length+1 -i∧E0=[(0,.slice ao (QI T ids).length cap),(2,intV who),(7,intV (i:Int)),(1,intV (Dg T i j))]∧Sat W0 [F]∧(i≤(QI T ids).length+1)∧(∀q,q<i→Dg T q j≠who)) (L0:=[(0,_),(2,_),(7,_),(1,_)]) ((QI T ids).length+1) (Vj U U U U) ⟨0,rfl,rfl,hS.pick [0] U, by omega, fun q hq=>absurd hq (by omega)⟩ ?_))))))))))))
 rintro _ _ w1 ⟨i,rfl,rfl,j1,hi,hno⟩
 refine Qe (Qe (Qa (Qb U U (Qb U U (XB underlying40 U U (FC U U U (Qf (Qc (Qt U (fun h2=> ?_) (fun h2=> ?_))))))))))
 ·have hil:i≤(QI T ids).length:= by omega
  refine Qs (Qc (Qe (Qw (Qe (Qe (Qa (Qb U U (Qb U U (Xc U U U (Qf (Qc (Qh [1,7,2,0,17] U (Qt U (fun h3=> ?_) (fun h3=> ?_))))))))))))))
  ·have hw:(Dg T i j)=who:=h3
   refine Qe (Qa (Qd U U (Qf (Qc (Qv (Qr (Q1 (Qr (Qr (Q1 (Qr (QR (.inr U) U U ?_))))))))))))
   exact⟨_,rfl,true,rfl,⟨fun _=>⟨i, by rw[W7]at hi;omega,hw⟩, fun _=>rfl⟩,j1.pick [0] U⟩
  have hnw:(Dg T i j)≠who:=h3
  refine Qs (Qc (Qe (Qa (Qd U U (Qf (Qc (Qw (Xe (fun K0 E0 W0=> ∃(k:Nat),K0=(QI T ids).length -k∧E0=[(0,.slice ao (QI T ids).length cap),(2,intV who),(7,intV (i:Int)),(1,intV (Dg T i j)),(8,intV (k:Int))]∧Sat W0 [F]∧(k≤(QI T ids).length)∧(∀(q:Nat) (m:NodeD),q<k→(QI T ids)[q]? =some m→m.id≠(Dg T i j))) (L0:=[(0,_),(2,_),(7,_),(1,_),(8,_)]) ((QI T ids).length) (Ym U U U U U) ⟨0,rfl,rfl,j1.pick [0] U, by omega, fun q m hq=>absurd hq (by omega)⟩ ?_))))))))
  rintro _ _ w4 ⟨k,rfl,rfl,j4,hkl,hnk⟩
  refine Qe (Qe (Qa (Qb U U (Qb U U (XB underlying40 U U (Xn U U U (Qf (Qc (Qt U (fun h5=> ?_) (fun h5=> ?_))))))))))
  ·obtain⟨m,hk⟩: ∃m,(QI T ids)[k]? =some m:=⟨_,Zd (by omega)⟩
   obtain⟨b9,off9,rfl,hc9⟩:=(hL.sat j4 0 rfl).get hk
   refine Qs (Qc (Qe (Qw (Qe (Qa (Qb U U (Qb U U (Za k U U (by first | rfl | omega) ((XL hk).1) Um U ?_))))))))
   refine Qg U J5 U (Qo U QM (hc9 0 _ U) U (Qb U U (Xc U U U (Qf (Qc (Qh [8,1,7,2,0,30] U (Qt U (fun h6=> ?_) (fun h6=> ?_))))))))
   ·have hne:m.id=(Dg T i j):=h6
    refine Qe (Qa (Qb U U (Qb U U (Za k U U (by first | rfl | omega) ((XL hk).1) Um U ?_))))
    refine Qg U JV U (Qo U QM (hc9 1 _ U) U (Qd U U (Qf (Qc (Qh [8,7,2,0,1] U (QT (Vu U (Qq (Qq (Qy (Ql (Qc (Qa (Qb U U (QK U U (by omega) (by omega) U ?_)))))))))))))))
    refine Qd U U (Qf ?_)
    have hup:Dg T (i+1) j=m.par:= by rw[GH,Sh hI Zt hk hne]
    exact Q5 (L1:=[(0,_),(2,_),(7,intV ((i+1:Nat):Int)),(1,_)]) (Vj U U U U) (k1:=(QI T ids).length+1 -(i+1)) (by omega) ⟨i+1,rfl, by rw[hup],j4.pick [0] U, by omega, fun q hq=> by by_cases e:q=i;(subst e; exact hnw); exact hno q (by omega)⟩
   have hne:m.id≠(Dg T i j):=h6
   refine Qs (Ql (Qc (Qa (Qb U U (QK U U (by omega) (by omega) U ?_)))))
   refine Qd U U (Qf ?_)
   exact Q5 (L1:=[(0,_),(2,_),(7,_),(1,_),(8,intV ((k+1:Nat):Int))]) (Ym U U U U U) (k1:=(QI T ids).length -(k+1)) (by omega) ⟨k+1,rfl,rfl,j4.pick [0] U, by omega, fun q m9 hq hm=> by by_cases e:q=k;(subst e; rw[hk]at hm; cases hm; exact hne); exact hnk q m9 (by omega) hm⟩
  refine QT (Qq (Qq (Qy (Ql (Qc (Qa (Qb U U (QK U U (by omega) (by omega) U ?_))))))))
  refine Qd U U (Qf ?_)
  have hup:Dg T (i+1) j=(Dg T i j):= by rw[GH,FJ hI Zt (fun q m9 hq=>hnk q m9 (by have :=(XL hq).1;omega) hq)]
  exact Q5 (L1:=[(0,_),(2,_),(7,intV ((i+1:Nat):Int)),(1,_)]) (Vj U U U U) (k1:=(QI T ids).length+1 -(i+1)) (by omega) ⟨i+1,rfl, by rw[hup],j4.pick [0] U, by omega, fun q hq=> by by_cases e:q=i;(subst e; exact hnw); exact hno q (by omega)⟩
 refine QT (Qq (Qq (Qy (Qc (Qe (Qa (Qd U U (Qf (Qc (Qv (QR (.inr U) U U ?_)))))))))))
 exact⟨_,rfl,false,rfl,⟨fun q=>(by cases q), fun ⟨q,h1,h2⟩=>absurd h2 (hno q (by rw[W7]at hi; have :=W7 (T:=T) (ids:=ids);omega))⟩,j1.pick [0] U⟩
theorem Ew {w:World} {a:TrAd} {T:Nodes} {last who:Int} {C:CeD} {p m i:Nat} {A:LvA} {ids:List Int} {F:Th} (hS:Sat w [Zp a T last,Yb a.c C,Yr a.b p 0 m 0 0 A,F]) (hG:Ent F GT) (hT:TS i T last C A ids m) (hmd:m<Wd) (hf:0<(default:SlW).f) {nw:NodeD} (hnw:T who=some nw):
    Calls prog 16 #[ptrV a.t 0,intV who] w (Ret fun v w'=>(who=0∧v=intV 4∧Sat w' [Zp a T last,Yb a.c C,Yr a.b p 0 m 0 0 A,F])∨(who≠0∧Zh T ids who≠[]∧v=intV 8∧Sat w' [Zp a T last,Yb a.c C,Yr a.b p 0 m 0 0 A,F])∨(who≠0∧Zh T ids who=[]∧v=intV 0∧ ∃T' C' A' ids',TS (i+1) T' last C' A' ids' m∧Sat w' [Zp a T' last,Yb a.c C',Yr a.b p 0 m 0 0 A',F])):= by
  by_cases hw0:who=0
  · subst hw0
    refine(N3 (hS.sp [0] U)).mono fun e w h=>h.mono fun v w h=> ?_
    exact .inl ⟨rfl,h.1, by have h2:=h.2.join U; dsimp only[zqa,zqb,RX,RW]at h2; exact h2⟩
  · obtain⟨x1,hx1⟩:=hT.q.ce.get hnw
    obtain⟨_,_,p0,hp0,_⟩:=hT.q.tri.par hnw hw0
    obtain⟨y1,hy1⟩:=hT.q.ce.get hp0
    have hqx:=hT.q.ce.quiet hx1
    have hta:=hT.q.qu.get hw0 hnw
    obtain⟨hpe,hpt,hps⟩:=hT.pl _ _ hnw
    obtain⟨hre,hrt,hrs⟩:=hT.pl _ _ hp0
    have hgb:=hT.gu _ _ hp0
    have hkn:=Bi (who:=who) hT.q.few.1
    refine(Va (d:=0) (q:=0) hS hG hT.q.tri hT.q.ce.toCeW hT.q.few hT.q.qu.toLvP (by omega) hmd hnw hw0 hp0 hps hx1 hy1 (by rw[hqx.2.2.2];decide) hta (fun _=>⟨hqx.2.2.2,hqx.2.1⟩) hT.q.qu.dr ⟨[],Nat.le_refl _, fun _ q=> by cases q⟩ (by decide) ⟨[],Nat.le_refl _, fun _ _ q=> by cases q⟩ (by omega) (by rw[hre,hpe];omega)).mono fun e w h=>h.mono fun v w h=> ?_
    rcases h with⟨hk8,rfl,h⟩ | ⟨_,hnv,_⟩ | ⟨hno,_,rfl,order,obs,hoo,h⟩
    · exact .inr (.inl ⟨hw0, fun q=>hk8 (hkn.1 q),rfl,h⟩)
    · exact absurd ⟨fun q=>absurd q (by rw[hpt];decide), fun z hz=>(by rw[hqx.2.2.2]at hz; cases hz),hT.q.qu.va hta⟩ hnv
    · rw[hT.q.qu.com hta hoo.1 hoo.2.2]at h
      obtain⟨ids2,hT3⟩:=hT.com hw0 hnw hp0 hno hx1 hy1
      exact .inr (.inr ⟨hw0,hkn.2 hno,U,_,_,_,ids2,hT3,h⟩)
theorem abortTS {w:World} {a:TrAd} {T:Nodes} {last who:Int} {C:CeD} {p m i:Nat} {A:LvA} {ids:List Int} {F:Th} (hS:Sat w [Zp a T last,Yb a.c C,Yr a.b p 0 m 0 0 A,F]) (hT:TS i T last C A ids m) (hmd:m<Wd) {nw:NodeD} (hnw:T who=some nw):
    Calls prog 20 #[ptrV a.t 0,intV who] w (Ret fun v w'=>(who=0∧v=intV 4∧Sat w' [Zp a T last,Yb a.c C,Yr a.b p 0 m 0 0 A,F])∨(who≠0∧v=intV 0∧ ∃T' C' A' ids',T'=abS T (fun j=>j=who)∧TS (i+1) T' last C' A' ids' m∧Sat w' [Zp a T' last,Yb a.c C',Yr a.b p 0 m 0 0 A',F])):= by
  by_cases hw0:who=0
  · subst hw0
    refine(F5 (hS.sp [0] U)).mono fun e w h=>h.mono fun v w h=> ?_
    exact .inl ⟨rfl,h.1, by have h2:=h.2.join U; dsimp only[zqa,zqb,RX,RW]at h2; exact h2⟩
  · refine(Ak _ hS hmd hT.q hnw hw0 (Nat.le_refl _)).mono fun e w h=>h.mono fun v w h=> ?_
    obtain⟨rfl,C',A',ids',h1,h2,h3⟩:=h
    exact .inr ⟨hw0,U,_,C',A',ids',U,hT.abo h1 h2,h3⟩
