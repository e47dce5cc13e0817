/- trials: views; laws: fresh -/
import Derived.Test.YtkgjmhcdacidoaaGreatDoorTr10
import Derived.Test.YtkgjmhcdacidoaaGreatDoorLv1
set_option linter.unusedSectionVars false
set_option linter.unusedVariables false
set_option maxRecDepth 100000
set_option maxHeartbeats 3200000
namespace Go.Proofs.YtkgjmhcdacidoaaGreatDoor
open Go.RowKit M Proofs.Tryz
variable [Inhabited SlW]
theorem Me {w:World} {vb:Nat} {id:Int} {a:TrAd} {T:Nodes} {last:Int} {C:CeD} {F:Th} (hS:Sat w [QE vb [ptrV a.t 0,intV id],Zp a T last,Yb a.c C,F]) (hW:CeW C T) (hI:TrI T last) {x:OneD} (hx:C.all id=some x) (hol:x.order.length≤100000000000) (k:Bs):
    Calls prog 24 #[ptrV vb 0,strV k] w (Ret fun v w'=> ∃x' s,AskR C T id x k x'∧v=strV s∧SeesR (C.up id x') T k id s∧Sat w' [QE vb [ptrV a.t 0,intV id],Zp a T last,Yb a.c (C.up id x'),F]):= by
 refine Qn func24 U ntmps24 U ?_
 refine Qe (Qa (Qd U U (Qf (Qc (Qe ?_)))))
 have j1:=Zk (hS.pick [1,0,2,3] U)
 have j2:=j1.drew
 refine QH [0,1,2,3,4,5,6,7,8,9,10,11,12,13] [12] ZW (by kernel_rfl) ?_
 refine QJ U U U (Xd U U U (QP U U U Kz (Q3 U U U (Qm U DU (by first | assumption | exact j2.cell 0 U U | exact j2.cell 2 U U)) ?_)))
 refine Xd U U U (QP U U U Uc (Q3 U U U (Qm U BF (by first | assumption | exact j2.cell 0 U U | exact j2.cell 2 U U)) ?_))
 refine QJ U U U (Xd U U U (QP U U U Ky (Q3 U U U (Qm U QM (by first | assumption | exact j2.cell 0 U U | exact j2.cell 2 U U)) ?_)))
 refine QJ U U U (Xl U U U U U U ?_)
 refine Q0 cal_40 U (E7 (j2.sp [3] U) hW hI hx hol k) U ?_
 rintro _ w3 ⟨x',s,ha,rfl,hs,j3⟩
 replace j3:=j3.jn U U
 refine XH (Xq (by kernel_rfl)) ?_
 refine Zo U U U (VC.nil (Qc (Qh [4] U (Qv (QR (.inr U) U U ?_)))))
 have j4:=X1 (T:=T) (last:=last) (j3.pick [1,2,0,3,4] U)
 exact⟨_,U,x',s,ha,U,hs,j4.pick [2,0,1,3] U⟩
theorem NP {w:World} {vb:Nat} {id:Int} {a:TrAd} {T:Nodes} {last:Int} {C:CeD} {F:Th} (hS:Sat w [QE vb [ptrV a.t 0,intV id],Zp a T last,Yb a.c C,F]) {x:OneD} (hx:C.all id=some x) (k s:Bs):
    Calls prog 22 #[ptrV vb 0,strV k,strV s] w (Ret fun v w'=>Sat w' [QE vb [ptrV a.t 0,intV id],Zp a T last,Yb a.c (C.up id (Yp x k s)),F]):= by
 refine Qn func22 U ntmps22 U ?_
 have j1:=Zk (hS.pick [1,0,2,3] U)
 have j2:=j1.drew
 refine QH [0,1,2,3,4,5,6,7,8,9,10,11,12,13] [13] ZW (by kernel_rfl) ?_
 refine QJ U U U (Xd U U U (QP U U U Kz (Q3 U U U (Qm U DU (by first | assumption | exact j2.cell 0 U U | exact j2.cell 2 U U)) ?_)))
 refine Xd U U U (QP U U U Uc (Q3 U U U (Qm U BF (by first | assumption | exact j2.cell 0 U U | exact j2.cell 2 U U)) ?_))
 refine QJ U U U (Xd U U U (QP U U U Ky (Q3 U U U (Qm U QM (by first | assumption | exact j2.cell 0 U U | exact j2.cell 2 U U)) ?_)))
 refine QJ U U U (QJ U U U (Xl U U U U U U ?_))
 refine Q0 cal_37 U (E5 (j2.sp [3] U) hx k s) U ?_
 rintro _ w3 j3
 replace j3:=j3.jn U U
 refine XH (Xq (by kernel_rfl)) ?_
 refine VC.nil (ZP (.inl U) U ?_)
 have j4:=X1 (T:=T) (last:=last) (j3.pick [1,2,0,3,4] U)
 exact⟨_,U,j4.pick [2,0,1,3] U⟩
theorem Dd {w:World} {vb:Nat} {a:TrAd} {T:Nodes} {last:Int} {p n m cc e:Nat} {A:LvA} {F:Th} (hS:Sat w [QE vb [ptrV a.t 0,intV 0],Zp a T last,Yr a.b p n m cc e A,F]) (hn:n≤60000000000) (hm:m<Wd) (ob:Bs) (at_:Int) (hr:0≤at_∧at_<16384):
    Calls prog 25 #[ptrV vb 0,strV ob,intV at_] w (Ret fun v w'=>v=Y3 (btA (A.pres (ob,at_/ 64)) (at_%64))∧Sat w' [QE vb [ptrV a.t 0,intV 0],Zp a T last,Yr a.b p n m cc e A,F]):= by
 refine Qn func25 U ntmps25 U ?_
 refine Qe (Qa (Qd U U (Qf (Qc (Qe ?_)))))
 have j1:=Zk (hS.pick [1,0,2,3] U)
 have j2:=j1.drew
 refine QH [0,1,2,3,4,5,6,7,8,9,10,11,12,13,14] [13] ZW (by kernel_rfl) ?_
 refine QJ U U U (Xd U U U (QP U U U Kz (Q3 U U U (Qm U DU (by first | assumption | exact j2.cell 0 U U | exact j2.cell 2 U U)) ?_)))
 refine Xd U U U (QP U U U Ub (Q3 U U U (Qm U BE (by first | assumption | exact j2.cell 0 U U | exact j2.cell 2 U U)) ?_))
 refine QJ U U U (Xd U U U (QP U U U Ky (Q3 U U U (Qm U QM (by first | assumption | exact j2.cell 0 U U | exact j2.cell 2 U U)) ?_)))
 refine QJ U U U (QJ U U U (Xl U U U U U U ?_))
 refine Q0 cal_41 U (LE (j2.sp [3] U) hn hm ob at_ hr) U ?_
 rintro _ w3 ⟨rfl,j3⟩
 replace j3:=j3.jn U U
 refine XH (Xq (by kernel_rfl)) ?_
 refine Zo U U U (VC.nil (Qc (Qh [6] U (Qv (QR (.inr U) U U ?_)))))
 have j4:=X1 (T:=T) (last:=last) (j3.pick [1,2,0,3,4] U)
 exact⟨_,U,U,j4.pick [2,0,1,3] U⟩
theorem FG {w:World} {vb:Nat} {id:Int} {a:TrAd} {T:Nodes} {last:Int} {p n m cc e:Nat} {A:LvA} {F:Th} (hS:Sat w [QE vb [ptrV a.t 0,intV id],Zp a T last,Yr a.b p n m cc e A,F]) (hn:n≤60000000000) (hm:m<Wd) {n0:NodeD} (hn0:T id=some n0) {tA:TrA} (ht:A.tr id=some tA) (hc:cc+1<(default:SlW).f) (ob:Bs) (at_:Int) (bt:UInt8) (hr:0≤at_∧at_<16384):
    Calls prog 23 #[ptrV vb 0,strV ob,intV at_,Y3 bt] w (Ret fun v w'=>Sat w' [QE vb [ptrV a.t 0,intV id],Zp a T last,Yr a.b p (n+5) m (cc+1) (e+1) (Ww A id (ob,at_/ 64) (wrX (ZN A id (ob,at_/ 64)) (at_%64) bt)),F]):= by
 refine Qn func23 U ntmps23 U ?_
 have j1:=Zk (hS.pick [1,0,2,3] U)
 have j2:=j1.drew
 refine QH [0,1,2,3,4,5,6,7,8,9,10,11,12,13,14,15,16] [15,16] ZW (by kernel_rfl) ?_
 refine QJ U U U (QJ U U U (Xd U U U (QP U U U Kz (Q3 U U U (Qm U DU (by first | assumption | exact j2.cell 0 U U | exact j2.cell 2 U U)) ?_))))
 refine Xd U U U (QP U U U Ub (Q3 U U U (Qm U BE (by first | assumption | exact j2.cell 0 U U | exact j2.cell 2 U U)) ?_))
 refine QJ U U U (Xd U U U (QP U U U Ky (Q3 U U U (Qm U QM (by first | assumption | exact j2.cell 0 U U | exact j2.cell 2 U U)) ?_)))
 refine QJ U U U (QJ U U U (QJ U U U (Xl U U U U U U ?_)))
 refine Q0 cal_39 U (LD (j2.sp [3] U) hn hm ht hc ob at_ bt hr) U ?_
 rintro _ w3 ⟨rfl,j3⟩
 replace j3:=j3.jn U U
 refine XH (Xq (by kernel_rfl)) ?_
 refine Xl U U U U U U ?_
 have j4:=X1 (T:=T) (last:=last) (j3.pick [1,2,0,3,4] U)
 refine Q0 cal_38 U (Sf (j4.sp [2,0] U) hn0) U ?_
 rintro _ w5 j5
 replace j5:=j5.jn U U
 refine XH (Xq (by kernel_rfl)) ?_
 exact VC.nil (ZP (.inl U) U (⟨_,U,j5.pick [0,1,2,3] U⟩))
theorem roomy2 {w:World} {b p mp mt ms:Nat} {As:List Th} (h:Sat w (WU b (YB p mp mt ms)::ZT p 0 (default:SlW).f (fun _=>none)::As)):Sat w (Yr b p 0 0 0 0 Bg::As):= by
  obtain⟨h1,h2,h3,h4,_⟩:=L6 (sp:=p) (mp:=mp) (mt:=mt) (ms:=ms)
  exact Hf (L:=YB p mp mt ms) (V:= fun _=>none) ⟨rfl,h1,h2,h3,h4⟩ h
theorem newQ {ma:Nat} {x:OneD} (h1:x.par=none) (h2:x.kids=0) (h3:F7 x):TQ Up 0 (D7 ma x) Bg []:= by
  have hT: ∀{i n},Up i=some n→i=0∧n=zN:= fun {i n} h=> by
    unfold Up at h
    by_cases e:i=0
    · subst e; rw[Qu]at h; cases h; exact⟨rfl,rfl⟩
    · rw[Qz e]at h; cases h
  have hC: ∀{i z},(D7 ma x).all i=some z→i=0∧z=x:= fun {i z} h=> by
    have h:QO (fun _=>none) 0 (some x) i=some z:=h
    by_cases e:i=0
    · subst e; rw[Qu]at h; cases h; exact⟨rfl,rfl⟩
    · rw[Qz e]at h; cases h
  refine⟨⟨⟨zN,Qu,rfl,rfl,rfl⟩, fun h=>(by obtain⟨a,b⟩:=hT h; subst a; subst b;rfl), fun h q=>absurd (hT h).1 q, fun h q=>absurd (hT h).1 q,Int.le_refl _⟩,
    ⟨⟨fun i=> ?_, fun h=>(by rw[(hC h).2]; exact h1), fun q h _=>absurd (hT h).1 q, fun a b _=>(hC a).1.trans (hC b).1.symm, fun {i z} h=> ?_⟩, fun h=>(by rw[(hC h).2]; exact h3)⟩,
    ⟨⟨rfl, fun i hi=> ?_⟩, fun h=> by cases h⟩,⟨⟨List.Pairwise.nil, fun i=>⟨fun h=>(by cases h), fun h=> ?_⟩⟩, by simp⟩⟩
  · by_cases e:i=0
    · subst e
      show QO (fun _=>none) 0 (some x) 0=none↔QO (fun _=>none) 0 (some zN) 0=none
      rw[Qu,Qu]; simp
    · show QO (fun _=>none) 0 (some x) i=none↔QO (fun _=>none) 0 (some zN) i=none
      rw[Qz e,Qz e]; simp
  · obtain⟨a,b⟩:=hC h
    subst a; subst b
    exact⟨0,h2,[],List.nodup_nil, fun j=>⟨fun q=>(by cases q), fun ⟨n,q1,q2,_⟩=>absurd (hT q1).1 q2⟩,rfl⟩
  · show(QO (fun _=>none) 0 (some zN) i).map NodeD.par=_
    rw[Qz hi];rfl
  · exact absurd (show Up i=none from by unfold Up; rw[Qz h.1]) h.2
theorem Pv {w:World} {F:Th} (hS:Sat w [F]) (count:Int) (hsl:(default:SlW).v=4096) (hfr:(min (max count 1) 256).toNat=(default:SlW).f):
    Calls prog 6 #[intV count] w (Ret fun v w'=> ∃a p C,v= .tuple #[ptrV a.t 0,ptrV p 0]∧TQ Up 0 C Bg []∧Sat w' [Zp a Up 0,Yb a.c C,Yr a.b p 0 0 0 0 Bg,F]):= by
 refine Qn func6 U ntmps6 U ?_
 refine Qe (Qa (Qd U U (Qd U U (Qf (Qc (Qe (Qa (Qb U U ?_))))))))
 refine Q0 cal_26 U (stNew (hS.sp [] U) count 4096 200 (by rw[hsl];rfl)) U ?_
 rintro _ w1 ⟨p,rfl,j1⟩
 replace j1:=j1.jn U U
 refine Qd U U (Qf (Qc (Qe (Qe (Qa (Qb U U (XI underlying25 U U U (Qf (Qc (QL U (Qs (Qc (Qe (Qa (Qb U U (Q0 cal_27 U (FL (j1.sp [] U)) U ?_))))))))))))))))
 rintro _ w2 ⟨a,ma,x,mp,mt,ms,rfl,hxp,hxk,hxq,j2⟩
 replace j2:=j2.jn U U
 refine Qb U U (Qd U U (Qd U U (Qf (Qc (Qh [2,3] U (Qv (Jm (.inr U) U U U ?_)))))))
 have hzz:=j2.pick [2,3,0,1,4] U; rw[hfr]at hzz
 exact⟨_,U,a,p,D7 ma x,U,newQ hxp hxk hxq,(roomy2 hzz).reorder [1,2,0,3] U⟩
theorem Kg {w:World} {a:TrAd} {T T':Nodes} {l l2:Int} {c b p n m cc e:Nat} {C C':CeD} {A A':LvA} {As:List Th} (h:Sat w (Zp a T l::Yb c C::Yr b p n m cc e A::As)) (hT:T'=T) (hC:C'=C) (hA:A'=A) (hl:l2=l):Sat w (Zp a T' l2::Yb c C'::Yr b p n m cc e A'::As):= by
  subst hT; subst hC; subst hA; subst hl; exact h
theorem sees_nz {A:LvA} {k:KD} {n:Nat}:JM A (n+1) 0 k=A.pres k:= by rw[JM,if_pos U]
structure OneB (A:LvA) (T:Nodes) (id:Int) (k:KD) (own:Bs) (wr:BitVec 64):Prop extends LvP A T where
  pr: ∀j,A.pres j=zer
  tr: ∃t,A.tr id=some t∧t.parent=0∧t.lv=QO (fun _=>none) k (some ⟨zer,own,0#64,wr⟩)∧ ∀ob,t.dr ob=false
  ot: ∀i t,A.tr i=some t→ ∀ob,t.dr ob=false
  qt: ∀i t,i≠id→A.tr i=some t→t.lv=(fun _=>none)∧t.dr= fun _=>false
section
variable {A:LvA} {T:Nodes} {id last:Int} {k:KD} {own:Bs} {wr:BitVec 64}
theorem QuA.oneB (h:QuA A T) (h0:id≠0) {n:NodeD} (hn:T id=some n) (hp:n.par=0) (hz: ∀j,A.pres j=zer) {a:Int} {b:UInt8}:
    OneB (Ww A id k (wrX (ZN A id k) a b)) T id k (zer.set a.toNat b) (1#64<<<a.toNat):= by
  have ht:=h.get h0 hn
  rw[hp]at ht
  have hs:WX A id k=zer:= by
    unfold WX
    rw[JM,if_neg h0,ht]
    dsimp only
    rw[if_neg (by simp)]
    exact(show JM A (99999+1) 0 k=zer from sees_nz.trans (hz k))
  have h1:ZN A id k=⟨zer,zer,0#64,0#64⟩:= by rw[Dj ht U,hs];rfl
  have h2:wrX (ZN A id k) a b=⟨zer,zer.set a.toNat b,0#64,1#64<<<a.toNat⟩:= by rw[h1];unfold wrX; simp
  rw[h2]
  have h3: ∀i t,(Ww A id k ⟨zer,zer.set a.toNat b,0#64,1#64<<<a.toNat⟩).tr i=some t→ ∃u,A.tr i=some u∧t.parent=u.parent∧t.dr=u.dr:= fun i t hi=> by
    by_cases e:i=id
    · subst e
      rw[ZX ht]at hi
      have hi:QO A.tr i _ i=some t:=hi
      rw[Qu]at hi; cases hi
      exact⟨_,ht,U,U⟩
    · rw[Y9 e]at hi; exact⟨t,hi,rfl,rfl⟩
  refine⟨⟨by rw[Y9 (fun e=>h0 e.symm)]; exact h.zero, fun i hi=> ?_⟩, fun j=> by rw[Dw]; exact hz j,⟨_, by rw[ZX ht]; exact Qu,rfl,rfl, fun _=>rfl⟩, fun i t hi ob=> ?_, fun i t e hi=>h.none (by rw[Y9 e]at hi; exact hi)⟩
  · by_cases e:i=id
    · subst e
      rw[hn,ZX ht]
      show _=(QO A.tr i _ i).map TrA.parent
      rw[Qu,←hp];rfl
    · rw[Y9 e]; exact h.par i hi
  · obtain⟨u,hu,_,e⟩:=h3 i t hi
    rw[e,(h.none hu).2]
theorem OneB.dr (h:OneB A T id k own wr):DrA A:= fun i t j x ht hd _=> by rw[h.ot i t ht j.1]at hd; cases hd
theorem OneB.drle (h:OneB A T id k own wr) {t:TrA} (ht:A.tr id=some t):DrLe t 0:=⟨[],Nat.le_refl _, fun ob hd=> by rw[h.ot id t ht ob]at hd; cases hd⟩
theorem OneB.lv (h:OneB A T id k own wr) {t:TrA} (ht:A.tr id=some t):t.parent=0∧t.lv=QO (fun _=>none) k (some ⟨zer,own,0#64,wr⟩):= by
  obtain⟨u,hu,a,b,_⟩:=h.tr
  rw[hu]at ht; cases ht
  exact⟨a,b⟩
theorem OneB.part (h:OneB A T id k own wr) {t:TrA} (ht:A.tr id=some t):PartLe t 1:=⟨[k],Nat.le_refl _, fun j x hx _ _=> by
  rw[(h.lv ht).2]at hx
  by_cases e:j=k
  · simp [e]
  · rw[Qz e]at hx; cases hx⟩
theorem OneB.va (h:OneB A T id k own wr) {t:TrA} (ht:A.tr id=some t):VA A t:= fun j x hx i hi hr=> by
  rw[(h.lv ht).2]at hx
  by_cases e:j=k
  · subst e; rw[Qu]at hx; cases hx; simp at hr
  · rw[Qz e]at hx; cases hx
theorem OneB.com (h:OneB A T id k own wr) (h0:id≠0) {t:TrA} (ht:A.tr id=some t) {order:List KD} {obs:List Bs} (ho:(∀j,j∈order↔t.lv j≠none)∧order.Nodup∧(∀ob,ob∈obs↔t.dr ob=true)) (hw:wr≠0#64):
    QuA (RT A id t order obs) (QO T id none)∧(RT A id t order obs).pres k=BK zer own wr:= by
  have hp:=h.lv ht
  rw[Fc hp.1 ho.2.1 ho.1 ho.2.2]
  refine⟨⟨h.toLvP.del h0 U, fun {i u} hu=> ?_⟩, ?_⟩
  · have hu:QO A.tr id none i=some u:=hu
    by_cases e:i=id
    · subst e; rw[Qu]at hu; cases hu
    · rw[Qz e]at hu; exact h.qt i u e hu
  show Ex A t k=_
  unfold Ex
  rw[hp.2,Qu]
  dsimp only
  rw[if_neg hw,h.pr]
theorem LvP.oth (h:LvP A T) {i:Int} {p1 p2:NodeD} (hp:T i=some p1) (he:p2.par=p1.par):LvP A (QO T i (some p2)):=h.same fun j hj=> by
  by_cases e:j=i
  · subst e; rw[Qu,hp]; show some p2.par=some p1.par; rw[he]
  · rw[Qz e]
end
structure SmS (C:CeD) (T:Nodes) (last:Int) (ids:List Int) (f:Bs→Option Bs):Prop where
  tri:TrI T last
  w:CeW C T
  few:FewT T ids
  z:T 0=some zN
  pz: ∀{i n},T i=some n→n.par=0
  root: ∃y,C.all 0=some y∧y.par=none∧y.writes=f∧y.order=[]∧y.vals= fun _=>none
section
variable {C:CeD} {T:Nodes} {id last:Int} {ids:List Int} {f:Bs→Option Bs}
theorem TQ.sm {A:LvA} (h:TQ T last C A []) (hz:T 0=some zN) (hp: ∀{i n},T i=some n→n.par=0):SmS C T last [] (fun _=>none):= by
  obtain⟨y,hy⟩:=h.ce.get hz
  exact⟨h.tri,h.ce.toCeW,h.few,hz,hp,y,hy,h.ce.root hy,(h.ce.quiet hy).1,(h.ce.quiet hy).2.2.2,(h.ce.quiet hy).2.2.1⟩
def Ly (id gue:Int):NodeD:=⟨id,0,1,gue,0,false,false⟩
theorem SmS.begin (h:SmS C T last ids f) (hl:ids.length≤30) {g:Int} {y x:OneD} (hy:C.all 0=some y) (hn: ∀j z,C.all j=some z→z.ad≠x.ad) (hxp:x.par=some y.ad) (hxk:x.kids=0):
    SmS ⟨C.ma,QO (QO C.all 0 (some {y with kids:=y.kids+1})) (last+1) (some x)⟩ (QO T (last+1) (some (Ly (last+1) g))) (last+1) (ids++[last+1]) f:= by
  have hl0:=h.tri.last0
  obtain⟨y0,a,b,c,o,d⟩:=h.root
  rw[hy]at a; cases a
  have h1:=h.tri.begin (n:=g) h.z
  refine⟨h1,h.w.begin h.tri h.z hy hn hxp hxk,⟨h.few.1.begin h.tri, by rw[List.length_append]; simp;omega⟩, by rw[Qz (by omega)]; exact h.z, fun {i n} q=> ?_,{y with kids:=y.kids+1}, ?_,b,c,o,d⟩
  · by_cases e:i=last+1
    · subst e; rw[Qu]at q; cases q;rfl
    · rw[Qz e]at q; exact h.pz q
  · show QO (QO C.all 0 _) (last+1) _ 0=_
    rw[Qz (by omega),Qu]
theorem BC {y x:OneD}:(⟨C.ma,QO (QO C.all 0 (some y)) id (some x)⟩:CeD).all id=some x:=Qu
theorem Fw {y x:OneD} {j:Int} (h0:j≠0) (hj:j≠id):(⟨C.ma,QO (QO C.all 0 (some y)) id (some x)⟩:CeD).all j=C.all j:= by
  show QO (QO C.all 0 _) id _ j=_
  rw[Qz hj,Qz h0]
theorem SmS.set (h:SmS C T last ids f) {x x':OneD} (h0:id≠0) (hx:C.all id=some x) (h1:x'.ad=x.ad) (h2:x'.par=x.par) (h3:x'.kids=x.kids):SmS (C.up id x') T last ids f:= by
  obtain⟨y,a,b⟩:=h.root
  exact⟨h.tri,h.w.set hx h1 h2 h3,h.few,h.z,h.pz,y, by show QO C.all id _ 0=_; rw[Qz (fun e=>h0 e.symm)]; exact a,b⟩
theorem SmS.sees (h:SmS C T last ids f) (k:Bs):SeesR C T k 0 ((f k).getD []):= by
  obtain⟨y,a,b,c,o,d⟩:=h.root
  cases q:f k with
  | none=> exact .root a (by rw[c]; exact q) (by rw[d])
  | some v=> exact .wr a (by rw[c]; exact q)
theorem SmS.com (h:SmS C T last ids f) {n:NodeD} {x y:OneD} (h0:id≠0) (hn:T id=some n) (hp:n.par=0) (hx:C.all id=some x) (hy:C.all 0=some y) (hk: ∀j,¬ChildOf T id j) (he:n.el=0) (ht:n.timed=false):
    ∃ids',SmS (Vy C id n.par x y) (Vx T id n zN) last ids' (Hn x y)∧ids'.length≤ids.length:= by
  obtain⟨y0,a,b,c,o,d⟩:=h.root
  rw[hy]at a; cases a
  have ez:RQ zN n=zN:= by
    unfold RQ; rw[he,ht];rfl
  have e1:Vx T id n zN=QO T id none:= by
    unfold Vx; rw[ez,hp,Wk h.z]
  have hw:=(h.w.set (id:=0) (x':={y with writes:=Hn x y}) hy U U U).del h.tri h0 hn hk (y:={y with writes:=Hn x y}) (by rw[hp]; exact Qu)
  have e2:=BJ hk
  obtain⟨ids',h1,h2⟩:=h.few.abs (D:= fun j=>j=id)
  have h3:=h.tri.abS (D:= fun j=>j=id) (fun q=>h0 q.symm)
  rw[e2]at h1 h3
  rw[e1]
  refine⟨ids',⟨h3, ?_,h1, by rw[Qz (fun e=>h0 e.symm)]; exact h.z, fun {i m} q=> ?_,{y with writes:=Hn x y,kids:=y.kids -1}, ?_,b,rfl,o,d⟩,h2⟩
  · unfold Vy
    rw[hp]at hw⊢
    dsimp only at hw
    rw[Yl]at hw
    exact hw
  · by_cases e:i=id
    · subst e; rw[Qu]at q; cases q
    · rw[Qz e]at q; exact h.pz q
  · show QO (QO C.all n.par _) id _ 0=_
    rw[Qz (fun e=>h0 e.symm),hp,Qu]
theorem SmS.nokid (h:SmS C T last ids f) (h0:id≠0): ∀j,¬ChildOf T id j:= fun j ⟨n,a,_,b⟩=>h0 (b.symm.trans (h.pz a))
theorem Lm {x:OneD} {k v:Bs} (hv:v≠[]):(Yp x k v).writes k=some v:= by
  show QO x.writes k _ k=_
  rw[Qu,if_neg (fun q=>hv q.2)]
theorem P5 {x y:OneD} {k v:Bs} (hv:v≠[]) (hx:x.writes k=some v):Hn x y k=some v:= by
  unfold Hn; rw[hx]; dsimp only; rw[if_neg (fun q=>hv q.2)]
theorem BD {A:LvA} {i j:Int}:(UD A i j).pres=A.pres:= by unfold UD;split<;>rfl
theorem L5 {i:Int} {n:NodeD} (h:Up i=some n):n.par=0:= by
  unfold Up at h
  by_cases e:i=0
  · subst e; rw[Qu]at h; cases h;rfl
  · rw[Qz e]at h; cases h
theorem Cl {n:NodeD} (hz:T 0=some zN) (hp:n.par=0) (he:n.el=0) (ht:n.timed=false):Vx T id n zN=QO T id none:= by
  have ez:RQ zN n=zN:= by unfold RQ; rw[he,ht];rfl
  unfold Vx; rw[ez,hp,Wk hz]
theorem com_oth {x y:OneD} {p j:Int} (h0:j≠p) (hj:j≠id):(Vy C id p x y).all j=C.all j:= by
  show QO (QO C.all p _) id _ j=_
  rw[Qz hj,Qz h0]
theorem AskR.root {i:Int} {x x':OneD} {k:Bs} (h:AskR C T i x k x') (hp:x.par=none):x'=x:= by
  rcases h with⟨_,e⟩ | ⟨e,_⟩
  · exact e
  · rw[Tz hp]at e; cases e
theorem AskR.new {x x':OneD} {n:NodeD} {k s:Bs} (h:AskR C T id x k x') (hp:x.par≠none) (hq:F7 x) (hn:T id=some n) (hs:SeesR C T k n.par s): ∃ov,x'={x with ov:=ov,order:=[(k,s)],vals:=QO (fun _=>none) k (some s)}:= by
  rcases h with⟨e,_⟩ | ⟨_,m,t,ov,_,h1,h2,h3⟩
  · unfold CG at e
    rw[hq.1,hq.2.2.1]at e
    cases q:x.par with
    | none=> exact absurd q hp
    | some a=> rw[q]at e; cases e
  · rw[hn]at h1; cases h1
    rw[h2.det hs,hq.2.2.2,hq.2.2.1]at h3
    exact⟨ov,h3⟩
end
theorem small18 {w:World} {F:Th} (hS:Sat w [F]) (hG:Ent F GT):
    Calls prog 5 #[] w (Ret fun v w'=>v= .bool true∧Sat w' [F]):= by
 letI:Inhabited SlW:=⟨⟨4096,4⟩⟩
 refine Qn func5 U ntmps5 U ?_
 refine Qe (Qa (Qd U U (Qf (Qc (Qe (Qa ?_))))))
 have hC1:=hS.sp [] U
 refine Q0 cal_6 U (Pv hC1 4 U U) U ?_
 rintro _ w1 ⟨a,p,C0,rfl,hQ0,j1⟩
 replace j1:=j1.jn U U; clear hC1
 have hz0:Up 0=some zN:=Qu
 have s0:=hQ0.sm hz0 L5
 obtain⟨y0,hy0, -⟩:=s0.root
 refine Qb U U (Qp U U U (Qp U U U (Qd U U (Qd U U (Qf (Qc (Qe (Qe (Qa (Qb U U (XI underlying24 U U U (Qf (Qc (QL U (Qs (Qc (Qe (Qa (Qb U U ?_)))))))))))))))))))
 have hC2:=j1.sp [0,1,2] U
 refine Xr P8 U (KP hC2 (by omega) (by decide) s0.tri s0.w s0.few (parent:=0) (guess:=5) s0.z hy0 (by omega) (by decide) (by decide) (by decide)) U ?_
 rintro e w2 ⟨_,rfl,(⟨hful,_,j2⟩ | ⟨_,rfl,x1,hn1,hxp1,hxk1,hxq1,j2⟩)⟩
 ·exact absurd hful (by rintro(q | q); exact absurd q (by decide); exact absurd q (by decide))
 refine⟨_,U, ?_⟩
 replace j2:=j2.jn U U; clear hC2
 refine Qb U U (Qp U U U (Qp U U U (Qd U U (Qd U U (Qf ?_)))))
 have s1:=s0.begin (by decide) (g:=5) hy0 hn1 hxp1 hxk1
 have q1:=hQ0.qu.begin hQ0.tri (n:=5) (d:=1) hz0
 obtain⟨T1,hT1⟩: ∃q,q=(QO Up 1 (some (Ly 1 5)):Nodes):=⟨_,rfl⟩
 obtain⟨C1,hC1⟩: ∃q,q=(⟨C0.ma,QO (QO C0.all 0 (some {y0 with kids:=y0.kids+1})) 1 (some x1)⟩:CeD):=⟨_,rfl⟩
 obtain⟨A1,hA1⟩: ∃q,q=(UD Bg 1 0:LvA):=⟨_,rfl⟩
 have c1:C1.all 1=some x1:= by rw[hC1]; exact BC
 have t1:T1 1=some (Ly 1 5):= by rw[hT1]; exact Qu
 replace s1:SmS C1 T1 1 [1] (fun _=>none):= by rw[hC1,hT1]; exact s1
 replace q1:QuA A1 T1:= by rw[hA1,hT1]; exact q1
 have z1: ∀j,A1.pres j=zer:= fun j=> by rw[hA1,BD];rfl
 have j3:=Kg (l2:=1) (j2.pick [0,1,2,3] U) hT1 hC1 hA1 (by decide)
 refine Qc (Qh [0,1,3,4] U (Qe (Qa (Qb U U (Qb U U ?_)))))
 have hC4:=j3.sp [0] U
 refine Xr Ug U (Y7 hC4 1) U ?_
 rintro e w4 ⟨_,rfl,(⟨hq,_,j4⟩ | ⟨_,vb,rfl,j4⟩)⟩
 ·exact absurd hq (by rw[t1]; simp)
 refine⟨_,U, ?_⟩
 replace j4:=j4.jn U U; clear hC4
 refine Qd U U (Qf (Qc (Qe (Qa (Qb U U ?_)))))
 have hC5:=j4.sp [1] U
 refine Q0 cal_7 U (Nf hC5 (by rw[s1.z]; simp)) U ?_
 rintro _ w5 ⟨pb,rfl,j5⟩
 replace j5:=j5.jn U U; clear hC5
 refine Qd U U (Qf (Qc (Qh [0,1,3,4,5,6] U (Qe (Qe (Qa (Qb U U (XI underlying28 U U U (Qb U U (Qj U U U (Qb U U (Qj U U U (XI underlying28 U U U (QC U U U U (Qf (Qc (Qh [0,1,3,4,5,6,39] U (QL U (Qs (Qc (Qe (Qa (Qb U U ?_)))))))))))))))))))))))
 have hC6:=j5.sp [2,1,3] U
 refine Q0 EO U (NP hC6 c1 [97] [120]) U ?_
 rintro _ w6 j6
 replace j6:=j6.jn U U; clear hC6
 obtain⟨C2,hC2⟩: ∃q,q=(C1.up 1 (Yp x1 [97] [120]):CeD):=⟨_,rfl⟩
 have s2:=s1.set (by decide) c1 (x':=(Yp x1 [97] [120])) U U U
 have c2:(C1.up 1 (Yp x1 [97] [120])).all 1=some (Yp x1 [97] [120]):=Qu
 rw[←hC2]at s2 c2 j6
 obtain⟨y2,hy2,hyp2,hyw2,hyo2,hyv2⟩:=s2.root
 refine Qf (Qc (Qe (Qa (Qb U U ?_))))
 have hC7:=j6.sp [0,1,4] U
 refine Q0 cal_23 U (FG hC7 (by omega) (by decide) t1 (q1.get (by decide) t1) (by decide) [111] 70 9 (by decide)) U ?_
 rintro _ w7 j7
 replace j7:=j7.jn U U; clear hC7
 have o2:=q1.oneB (k:=(([111],70/ 64):KD)) (a:=70%64) (b:=9) (by decide) t1 U z1
 obtain⟨A2,hA2⟩: ∃q,q=(Ww A1 1 (([111],70/ 64):KD) (wrX (ZN A1 1 (([111],70/ 64):KD)) (70%64) 9):LvA):=⟨_,rfl⟩
 rw[←hA2]at o2 j7
 obtain⟨t2,ht2, -⟩:=o2.tr
 refine Qf (Qc (Qh [0,1,3,4,6] U (Qe (Qa (Qb U U ?_)))))
 have hC8:=j7.sp [4,1,3] U
 refine Q0 NH U (Me hC8 s2.w s2.tri hy2 (by rw[hyo2];decide) [97]) U ?_
 rintro _ w8 ⟨y',v2,ha2,rfl,hs2,j8⟩
 replace j8:=j8.jn U U; clear hC8
 have ey:=(ha2.root hyp2).symm; subst ey
 rw[show C2.up 0 y2=C2 by unfold CeD.up; rw[Wk hy2]]at hs2 j8
 have ev:=hs2.det (s2.sees [97]); subst ev
 refine Hp U U U (Qb U U (QZ 47 U (fun h9=> ?_) (fun h9=> ?_)))
 ·refine Qj U U (det h9) (Qb U U (Qj U U (det h9) (Q0 EN U (Dd (j8.sp [0,1,4] U) (by omega) (by decide) [111] 70 (by decide)) U ?_)))
  rintro _ w10 ⟨rfl,j10⟩
  replace j10:=j10.jn U U
  rw[o2.pr]
  refine Qj U U (det h9) (Xc U U U (QN U (det h9) U U (Qd U U (Qf (Qc (Qh [0,1,3,4,6,7] U (Qe (Qa (Qb U U (Qb U U ?_))))))))))
  refine Xr MG U (Va (d:=0) (q:=1) (j10.sp [1,3,2] U) (hG.starL 2 U) s2.tri s2.w s2.few o2.toLvP (by omega) (by decide) t1 (by decide) s2.z U c2 hy2 (by show x1.order.length≤_; rw[hxq1.2.2.2];decide) ht2 (fun _=>⟨hxq1.2.2.2,hxq1.2.1⟩) o2.dr (o2.drle ht2) (by decide) (o2.part ht2) (by decide) (by decide)) U ?_
  rintro e w11 ⟨_,rfl,(⟨hk,_,j11⟩ | ⟨_,hnv,_,j11⟩ | ⟨_,_,rfl,order,obs,hoo,j11⟩)⟩
  ·exact absurd (s2.nokid (by decide)) hk
  ·exact absurd ⟨fun q=>(by cases q), fun z hz=>(by rw[show(Yp x1 [97] [120]).order=[] from hxq1.2.2.2]at hz; cases hz),o2.va ht2⟩ hnv
  refine⟨_,U, ?_⟩
  replace j11:=j11.jn U U
  refine Qd U U (Qf ?_)
  obtain⟨ids3,s3,hl3⟩:=s2.com (by decide) t1 rfl c2 hy2 (s2.nokid (by decide)) rfl rfl
  obtain⟨q3,p3⟩:=o2.com (by decide) ht2 hoo (by decide)
  have e3:=Cl (id:=1) (n:=Ly 1 5) s2.z U U U
  obtain⟨T3,hT3⟩: ∃q,q=(QO T1 1 none:Nodes):=⟨_,rfl⟩
  obtain⟨C3,hC3⟩: ∃q,q=(Vy C2 1 0 (Yp x1 [97] [120]) y2:CeD):=⟨_,rfl⟩
  obtain⟨A3,hA3⟩: ∃q,q=(RT A2 1 t2 order obs:LvA):=⟨_,rfl⟩
  obtain⟨f3,hf3⟩: ∃q,q=(Hn (Yp x1 [97] [120]) y2:Bs→Option Bs):=⟨_,rfl⟩
  have hv3:f3 [97]=some [120]:= by rw[hf3]; exact P5 (by decide) (Lm (by decide))
  replace s3:SmS C3 T3 1 ids3 f3:= by rw[hC3,hT3,hf3,←e3]; exact s3
  rw[←hA3]at q3 p3; rw[←hT3]at q3
  obtain⟨y3,hy3,hyp3, -⟩:=s3.root
  have j12:=Kg (l2:=1) (j11.pick [0,1,2,3,4,5] U) (hT3.trans e3.symm) hC3 hA3 (by decide)
  refine Qc (Qe (Qa (Qb U U (Xr P8 U (KP (j12.sp [0,1,2] U) (by omega) (by decide) s3.tri s3.w s3.few (parent:=0) (guess:=5) s3.z hy3 (by omega) (by decide) (by decide) (by decide)) U ?_))))
  rintro e w13 ⟨_,rfl,(⟨hful,_,j13⟩ | ⟨_,rfl,x4,hn4,hxp4,hxk4,hxq4,j13⟩)⟩
  ·exact absurd hful (by rintro(q | q); exact absurd q (by decide); simp at hl3;omega)
  refine⟨_,U, ?_⟩
  replace j13:=j13.jn U U
  refine Qb U U (Qp U U U (Qp U U U (Qd U U (Qd U U (Qf ?_)))))
  have s4:=s3.begin (by simp at hl3;omega) (g:=5) hy3 hn4 hxp4 hxk4
  have q4:=q3.begin s3.tri (n:=5) (d:=1) s3.z
  obtain⟨T4,hT4⟩: ∃q,q=(QO T3 2 (some (Ly 2 5)):Nodes):=⟨_,rfl⟩
  obtain⟨C4,hC4⟩: ∃q,q=(⟨C3.ma,QO (QO C3.all 0 (some {y3 with kids:=y3.kids+1})) 2 (some x4)⟩:CeD):=⟨_,rfl⟩
  obtain⟨A4,hA4⟩: ∃q,q=(UD A3 2 0:LvA):=⟨_,rfl⟩
  obtain⟨ids4,hids4⟩: ∃q,q=(ids3++[2]:List Int):=⟨_,rfl⟩
  have c4:C4.all 2=some x4:= by rw[hC4]; exact BC
  have t4:T4 2=some (Ly 2 5):= by rw[hT4]; exact Qu
  replace s4:SmS C4 T4 2 ids4 f3:= by rw[hC4,hT4,hids4]; exact s4
  replace q4:QuA A4 T4:= by rw[hA4,hT4]; exact q4
  have p4:A4.pres (([111],70/ 64):KD)=BK zer (zer.set (70%64:Int).toNat 9) (1#64<<<(70%64:Int).toNat):= by rw[hA4,BD]; exact p3
  have hl4:ids4.length≤2:= by rw[hids4]; simp at hl3⊢;omega
  obtain⟨y4,hy4,hyp4, -⟩:=s4.root
  have j14:=Kg (l2:=2) (j13.pick [0,1,2,3,4,5] U) hT4 hC4 hA4 (by decide)
  refine Qc (Qh [0,1,3,4,6,7,8,9] U (Qe (Qa (Qb U U (Xr P8 U (KP (j14.sp [0,1,2] U) (by omega) (by decide) s4.tri s4.w s4.few (parent:=0) (guess:=5) s4.z hy4 (by omega) (by decide) (by decide) (by decide)) U ?_)))))
  rintro e w15 ⟨_,rfl,(⟨hful,_,j15⟩ | ⟨_,rfl,x5,hn5,hxp5,hxk5,hxq5,j15⟩)⟩
  ·exact absurd hful (by rintro(q | q); exact absurd q (by decide);omega)
  refine⟨_,U, ?_⟩
  replace j15:=j15.jn U U
  refine Qb U U (Qp U U U (Qp U U U (Qd U U (Qd U U (Qf ?_)))))
  have s5:=s4.begin (by omega) (g:=5) hy4 hn5 hxp5 hxk5
  have q5:=q4.begin s4.tri (n:=5) (d:=1) s4.z
  obtain⟨T5,hT5⟩: ∃q,q=(QO T4 3 (some (Ly 3 5)):Nodes):=⟨_,rfl⟩
  obtain⟨C5,hC5⟩: ∃q,q=(⟨C4.ma,QO (QO C4.all 0 (some {y4 with kids:=y4.kids+1})) 3 (some x5)⟩:CeD):=⟨_,rfl⟩
  obtain⟨A5,hA5⟩: ∃q,q=(UD A4 3 0:LvA):=⟨_,rfl⟩
  obtain⟨ids5,hids5⟩: ∃q,q=(ids4++[3]:List Int):=⟨_,rfl⟩
  have c5:C5.all 3=some x5:= by rw[hC5]; exact BC
  have c52:C5.all 2=some x4:= by rw[hC5,Fw (by decide) (by decide)]; exact c4
  have t5:T5 3=some (Ly 3 5):= by rw[hT5]; exact Qu
  have t52:T5 2=some (Ly 2 5):= by rw[hT5,Qz (by decide)]; exact t4
  replace s5:SmS C5 T5 3 ids5 f3:= by rw[hC5,hT5,hids5]; exact s5
  replace q5:QuA A5 T5:= by rw[hA5,hT5]; exact q5
  have p5:A5.pres (([111],70/ 64):KD)=BK zer (zer.set (70%64:Int).toNat 9) (1#64<<<(70%64:Int).toNat):= by rw[hA5,BD]; exact p4
  have j16:=Kg (l2:=3) (j15.pick [0,1,2,3,4,5] U) hT5 hC5 hA5 (by decide)
  refine Qc (Qh [0,1,3,4,6,7,8,9,11] U (Qe (Qa (Qb U U (Qb U U (Xr Ug U (Y7 (j16.sp [0] U) 2) U ?_))))))
  rintro e w17 ⟨_,rfl,(⟨hq,_,j17⟩ | ⟨_,vx,rfl,j17⟩)⟩
  ·exact absurd hq (by rw[t52]; simp)
  refine⟨_,U, ?_⟩
  replace j17:=j17.jn U U
  refine Qd U U (Qf (Qc (Qh [0,1,3,4,6,7,8,9,11,13] U (Qe (Qa (Qb U U (Qb U U (Xr Ug U (Y7 (j17.sp [1] U) 3) U ?_))))))))
  rintro e w18 ⟨_,rfl,(⟨hq,_,j18⟩ | ⟨_,vy,rfl,j18⟩)⟩
  ·exact absurd hq (by rw[t5]; simp)
  refine⟨_,U, ?_⟩
  replace j18:=j18.jn U U
  refine Qd U U (Qf (Qc (Qh [0,1,3,4,6,7,8,9,11,13,14] U (Qe (Qe (Qa (Qb U U (XI underlying28 U U U (Qb U U (Qj U U U (Qb U U (Qj U U U (XI underlying28 U U U (QC U U U U (Qf (Qc (Qh [0,1,3,4,6,7,8,9,11,13,14,76] U (QL U (Qs (Qc (Qe (Qa (Qb U U ?_)))))))))))))))))))))))
  refine Q0 NH U (Me (j18.sp [0,1,3] U) s5.w s5.tri c5 (by rw[hxq5.2.2.2];decide) [97]) U ?_
  rintro _ w19 ⟨x6,v6,ha6,rfl,hs6,j19⟩
  replace j19:=j19.jn U U
  have hse:=s5.sees [97]; rw[hv3]at hse
  obtain⟨ov6,hx6⟩:=ha6.new (by rw[hxp5]; simp) hxq5 t5 hse
  obtain⟨C6,hC6⟩: ∃q,q=(C5.up 3 x6:CeD):=⟨_,rfl⟩
  have s6:=s5.set (by decide) c5 (x':=x6) ha6.ad.1 ha6.ad.2.1 ha6.ad.2.2
  have c6:(C5.up 3 x6).all 3=some x6:=Qu
  have c62:(C5.up 3 x6).all 2=some x4:=(Qz (by decide)).trans c52
  rw[←hC6]at s6 c6 c62 hs6 j19
  have ev6:=hs6.det (.rd c6 (by rw[hx6]; exact congrFun hxq5.1 _) (show x6.vals [97]=some [120] by rw[hx6]; exact(Qu (f:= fun _=>none) (k:=[97]) (v:=some [120])))); subst ev6
  refine Qd U U (Qf (Qc (Qh [0,1,3,4,6,7,8,9,11,13,15] U (Qe (Qa (Qb U U (Q0 EO U (NP (j19.sp [3,1,2] U) c62 [97] [121]) U ?_)))))))
  rintro _ w20 j20
  replace j20:=j20.jn U U
  obtain⟨C7,hC7⟩: ∃q,q=(C6.up 2 (Yp x4 [97] [121]):CeD):=⟨_,rfl⟩
  have s7:=s6.set (by decide) c62 (x':=(Yp x4 [97] [121])) U U U
  have c72:(C6.up 2 (Yp x4 [97] [121])).all 2=some (Yp x4 [97] [121]):=Qu
  have c7:(C6.up 2 (Yp x4 [97] [121])).all 3=some x6:=(Qz (by decide)).trans c6
  rw[←hC7]at s7 c7 c72 j20
  obtain⟨y7,hy7,hyp7, -⟩:=s7.root
  refine Qf (Qc (Qh [0,1,3,4,6,7,8,9,11,15] U (Qe (Qa (Qb U U (Qb U U ?_))))))
  refine Xr MG U (Va (d:=0) (q:=0) (j20.sp [1,2,4] U) (hG.starL 4 U) s7.tri s7.w s7.few q5.toLvP (by omega) (by decide) t52 (by decide) s7.z U c72 hy7 (by show x4.order.length≤_; rw[hxq4.2.2.2];decide) (q5.get (by decide) t52) (fun _=>⟨hxq4.2.2.2,hxq4.2.1⟩) q5.dr ⟨[],Nat.le_refl _, fun _ q=> by cases q⟩ (by decide) ⟨[],Nat.le_refl _, fun _ _ q=> by cases q⟩ (by decide) (by decide)) U ?_
  rintro e w21 ⟨_,rfl,(⟨hk,_,j21⟩ | ⟨_,hnv,_,j21⟩ | ⟨_,_,rfl,order2,obs2,hoo2,j21⟩)⟩
  ·exact absurd (s7.nokid (by decide)) hk
  ·exact absurd ⟨fun q=>(by cases q), fun z hz=>(by rw[show(Yp x4 [97] [121]).order=[] from hxq4.2.2.2]at hz; cases hz),q5.va (q5.get (by decide) t52)⟩ hnv
  refine⟨_,U, ?_⟩
  replace j21:=j21.jn U U
  refine Qd U U (Qf ?_)
  obtain⟨ids8,s8,hl8⟩:=s7.com (by decide) t52 rfl c72 hy7 (s7.nokid (by decide)) rfl rfl
  have ec8:=q5.com (q5.get (by decide) t52) hoo2.1 hoo2.2.2
  have q8:=q5.del (id:=2) (by decide)
  have e8:=Cl (id:=2) (n:=Ly 2 5) s7.z U U U
  obtain⟨T8,hT8⟩: ∃q,q=(QO T5 2 none:Nodes):=⟨_,rfl⟩
  obtain⟨C8,hC8⟩: ∃q,q=(Vy C7 2 0 (Yp x4 [97] [121]) y7:CeD):=⟨_,rfl⟩
  obtain⟨A8,hA8⟩: ∃q,q=(VP A5 2:LvA):=⟨_,rfl⟩
  obtain⟨f8,hf8⟩: ∃q,q=(Hn (Yp x4 [97] [121]) y7:Bs→Option Bs):=⟨_,rfl⟩
  have hv8:f8 [97]=some [121]:= by rw[hf8]; exact P5 (by decide) (Lm (by decide))
  replace s8:SmS C8 T8 3 ids8 f8:= by rw[hC8,hT8,hf8,←e8]; exact s8
  rw[←hA8,←hT8]at q8
  have p8:A8.pres (([111],70/ 64):KD)=BK zer (zer.set (70%64:Int).toNat 9) (1#64<<<(70%64:Int).toNat):= by rw[hA8]; exact p5
  have c8:C8.all 3=some x6:= by rw[hC8,com_oth (by decide) (by decide)]; exact c7
  have t8:T8 3=some (Ly 3 5):= by rw[hT8,Qz (by decide)]; exact t5
  obtain⟨y8,hy8,hyp8,hyw8,hyo8, -⟩:=s8.root
  have j22:=Kg (l2:=3) (j21.pick [0,1,2,3,4,5,6,7] U) (hT8.trans e8.symm) hC8 (hA8.trans ec8.symm) (by decide)
  refine Qc (Qh [0,1,3,4,6,7,8,11,15,16] U (Qe (Qa (Qb U U (Qb U U ?_)))))
  refine Xr MG U (Va (d:=0) (q:=0) (j22.sp [0,1,2] U) (hG.starL 4 U) s8.tri s8.w s8.few q8.toLvP (by omega) (by decide) t8 (by decide) s8.z U c8 hy8 (by rw[hx6]; simp) (q8.get (by decide) t8) (fun hv=>absurd ((hv.2.1 ([97],[120]) (by rw[hx6]; simp)).det (s8.sees [97])) (by rw[hv8];decide)) q8.dr ⟨[],Nat.le_refl _, fun _ q=> by cases q⟩ (by decide) ⟨[],Nat.le_refl _, fun _ _ q=> by cases q⟩ (by decide) (by decide)) U ?_
  rintro e w23 ⟨_,rfl,(⟨hk,_,j23⟩ | ⟨_,_,rfl,j23⟩ | ⟨_,hv,_,j23⟩)⟩
  ·exact absurd (s8.nokid (by decide)) hk
  ·refine⟨_,U, ?_⟩
   replace j23:=j23.jn U U
   refine Qd U U (Qf (Qc (Qh [0,3,4,6,7,8,15,16,17] U (Qe (Qa (Qb U U (Xc U U U (Qb U U (QZ 89 U (fun h24=> ?_) (fun h24=> ?_))))))))))
   ·refine Qj U U (det h24) (Qb U U (Qj U U (det h24) (Xc U U U (QN U (det h24) U U (Qb U U (QZ 93 U (fun h25=> ?_) (fun h25=> ?_)))))))
    ·refine Qj U U (det h25) (Qb U U (QN U (det h25) U U (Qb U U (QZ 96 U (fun h26=> ?_) (fun h26=> ?_)))))
     ·refine Qj U U (det h26) (Qb U U (Qj U U (det h26) (Xc U U U (QN U (det h26) U U (Qb U U (QZ 100 U (fun h27=> ?_) (fun h27=> ?_)))))))
      ·refine Qj U U (det h27) (Qb U U (Qj U U (det h27) (Q0 EN U (Dd (j23.sp [5,0,2] U) (by omega) (by decide) [111] 70 (by decide)) U ?_)))
       rintro _ w28 ⟨rfl,j28⟩
       replace j28:=j28.jn U U
       rw[p8]
       refine Qj U U (det h27) (Xc U U U (QN U (det h27) U U (Qb U U (QZ 105 U (fun h29=> ?_) (fun h29=> ?_)))))
       ·refine Qj U U (det h29) (Qb U U (Qj U U (det h29) (Hp U U U (QN U (det h29) U U (Qb U U (QZ 109 U (fun h30=> ?_) (fun h30=> ?_)))))))
        ·refine Qj U U (det h30) (Qb U U (Qj U U (det h30) (Xc U U U (QN U (det h30) U U (Qb U U (QZ 113 U (fun h31=> ?_) (fun h31=> ?_)))))))
         ·refine Qj U U (det h31) (Qb U U (Qj U U (det h31) (Xc U U U (QN U (det h31) U U (Qb U U (QZ 117 U (fun h32=> ?_) (fun h32=> ?_)))))))
          ·refine Qj U U (det h32) (Qb U U (Qj U U (det h32) ?_))
           refine Q0 NH U (Me (j28.sp [0,1,3] U) s8.w s8.tri hy8 (by rw[hyo8];decide) [97]) U ?_
           rintro _ w33 ⟨y',v9,ha9,rfl,hs9,j33⟩
           replace j33:=j33.jn U U
           have ey9:=(ha9.root hyp8).symm; subst ey9
           rw[show C8.up 0 y8=C8 by unfold CeD.up; rw[Wk hy8]]at hs9
           have ev9:=hs9.det (s8.sees [97]); rw[hv8]at ev9; subst ev9
           refine Qj U U (det h32) (Hp U U U (QN U (det h32) U U (Qd U U (Qf (Qc (Qh [0] U (Qv (QR (.inr U) U U ?_))))))))
           exact⟨_,rfl, by first | rfl | (congr 1;decide) | decide,j33.pick [7] U⟩
          first | exact absurd (by decide) h32 | exact absurd U h32 | exact absurd h32 (by decide)
         first | exact absurd (by decide) h31 | exact absurd U h31 | exact absurd h31 (by decide)
        first | exact absurd (by decide) h30 | exact absurd U h30 | exact absurd h30 (by decide)
       first | exact absurd (by decide) h29 | exact absurd U h29 | exact absurd h29 (by decide)
      first | exact absurd (by decide) h27 | exact absurd U h27 | exact absurd h27 (by decide)
     first | exact absurd (by decide) h26 | exact absurd U h26 | exact absurd h26 (by decide)
    first | exact absurd (by decide) h25 | exact absurd U h25 | exact absurd h25 (by decide)
   first | exact absurd (by decide) h24 | exact absurd U h24 | exact absurd h24 (by decide)
  exact absurd ((hv.2.1 ([97],[120]) (by rw[hx6]; simp)).det (s8.sees [97])) (by rw[hv8];decide)
 first | exact absurd (by decide) h9 | exact absurd U h9 | exact absurd h9 (by decide)
theorem TQ.begin {T:Nodes} {last:Int} {C:CeD} {A:LvA} {ids:List Int} (h:TQ T last C A ids) (hl:ids.length≤39) {who n:Int} {p:NodeD} (hp:T who=some p) {y x:OneD} (hy:C.all who=some y) (hn: ∀j z,C.all j=some z→z.ad≠x.ad) (hxp:x.par=some y.ad) (hxk:x.kids=0) (hxq:F7 x):
    TQ (QO T (last+1) (some ⟨last+1,who,p.dep+1,n,0,false,false⟩)) (last+1) ⟨C.ma,QO (QO C.all who (some {y with kids:=y.kids+1})) (last+1) (some x)⟩ (UD A (last+1) who) (ids++[last+1]):=
  ⟨h.tri.begin hp,h.ce.begin h.tri hp hy hn hxp hxk hxq,h.qu.begin h.tri hp,⟨h.few.1.begin h.tri, by rw[List.length_append]; simp;omega⟩⟩
