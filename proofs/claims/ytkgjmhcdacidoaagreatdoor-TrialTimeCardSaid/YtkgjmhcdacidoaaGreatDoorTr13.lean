/- laws of trials: small -/
import Derived.Test.YtkgjmhcdacidoaaGreatDoorTr10
import Derived.Test.YtkgjmhcdacidoaaGreatDoorLv1
set_option linter.unusedSectionVars false
set_option linter.unusedVariables false
set_option maxRecDepth 100000
set_option maxHeartbeats 3200000
namespace Go.Proofs.YtkgjmhcdacidoaaGreatDoor
open Go.RowKit M Proofs.Tryz
variable [Inhabited SlW]
theorem U9 {w:World} {a:TrAd} {T T':Nodes} {l l2:Int} {c b p n m cc e:Nat} {C C':CeD} {A A':LvA} {As:List Th} (h:Sat w (ZQ a T l::Ua c C::UI b p n m cc e A::As)) (hT:T'=T) (hC:C'=C) (hA:A'=A) (hl:l2=l):Sat w (ZQ a T' l2::Ua c C'::UI b p n m cc e A'::As):= by
  subst hT; subst hC; subst hA; subst hl; exact h
theorem sees_nz {A:LvA} {k:KD} {n:Nat}:J6 A (n+1) 0 k=A.pres k:= by rw[J6,if_pos U]
structure OneB (A:LvA) (T:Nodes) (id:Int) (k:KD) (own:Bs) (wr:BitVec 64):Prop extends LvP A T where
  pr: ∀j,A.pres j=zer
  tr: ∃t,A.tr id=some t∧t.parent=0∧t.lv=QK (fun _=>none) k (some ⟨zer,own,0#64,wr⟩)∧ ∀ob,t.dr ob=false
  ot: ∀i t,A.tr i=some t→ ∀ob,t.dr ob=false
  qt: ∀i t,i≠id→A.tr i=some t→t.lv=(fun _=>none)∧t.dr= fun _=>false
section
variable {A:LvA} {T:Nodes} {id last:Int} {k:KD} {own:Bs} {wr:BitVec 64}
theorem QuA.oneB (h:QuA A T) (h0:id≠0) {n:NodeD} (hn:T id=some n) (hp:n.par=0) (hz: ∀j,A.pres j=zer) {a:Int} {b:UInt8}:
    OneB (Wo A id k (wrX (ZH A id k) a b)) T id k (zer.set a.toNat b) (1#64<<<a.toNat):= by
  have ht:=h.get h0 hn
  rw[hp]at ht
  have hs:WM A id k=zer:= by
    unfold WM
    rw[J6,if_neg h0,ht]
    dsimp only
    rw[if_neg (by simp)]
    exact(show J6 A (99999+1) 0 k=zer from sees_nz.trans (hz k))
  have h1:ZH A id k=⟨zer,zer,0#64,0#64⟩:= by rw[BO ht U,hs];rfl
  have h2:wrX (ZH A id k) a b=⟨zer,zer.set a.toNat b,0#64,1#64<<<a.toNat⟩:= by rw[h1];unfold wrX; simp
  rw[h2]
  have h3: ∀i t,(Wo A id k ⟨zer,zer.set a.toNat b,0#64,1#64<<<a.toNat⟩).tr i=some t→ ∃u,A.tr i=some u∧t.parent=u.parent∧t.dr=u.dr:= fun i t hi=> by
    by_cases e:i=id
    · subst e
      rw[ZS ht]at hi
      have hi:QK A.tr i _ i=some t:=hi
      rw[Qr]at hi; cases hi
      exact⟨_,ht,U,U⟩
    · rw[Yq e]at hi; exact⟨t,hi,rfl,rfl⟩
  refine⟨⟨by rw[Yq (fun e=>h0 e.symm)]; exact h.zero, fun i hi=> ?_⟩, fun j=> by rw[Da]; exact hz j,⟨_, by rw[ZS ht]; exact Qr,rfl,rfl, fun _=>rfl⟩, fun i t hi ob=> ?_, fun i t e hi=>h.none (by rw[Yq e]at hi; exact hi)⟩
  · by_cases e:i=id
    · subst e
      rw[hn,ZS ht]
      show _=(QK A.tr i _ i).map TrA.parent
      rw[Qr,←hp];rfl
    · rw[Yq e]; exact h.par i hi
  · obtain⟨u,hu,_,e⟩:=h3 i t hi
    rw[e,(h.none hu).2]
theorem OneB.dr (h:OneB A T id k own wr):DrA A:= fun i t j x ht hd _=> by rw[h.ot i t ht j.1]at hd; cases hd
theorem OneB.drle (h:OneB A T id k own wr) {t:TrA} (ht:A.tr id=some t):DrLe t 0:=⟨[],Nat.le_refl _, fun ob hd=> by rw[h.ot id t ht ob]at hd; cases hd⟩
theorem OneB.lv (h:OneB A T id k own wr) {t:TrA} (ht:A.tr id=some t):t.parent=0∧t.lv=QK (fun _=>none) k (some ⟨zer,own,0#64,wr⟩):= by
  obtain⟨u,hu,a,b,_⟩:=h.tr
  rw[hu]at ht; cases ht
  exact⟨a,b⟩
theorem OneB.part (h:OneB A T id k own wr) {t:TrA} (ht:A.tr id=some t):PartLe t 1:=⟨[k],Nat.le_refl _, fun j x hx _ _=> by
  rw[(h.lv ht).2]at hx
  by_cases e:j=k
  · simp [e]
  · rw[Qw e]at hx; cases hx⟩
theorem OneB.va (h:OneB A T id k own wr) {t:TrA} (ht:A.tr id=some t):VA A t:= fun j x hx i hi hr=> by
  rw[(h.lv ht).2]at hx
  by_cases e:j=k
  · subst e; rw[Qr]at hx; cases hx; simp at hr
  · rw[Qw e]at hx; cases hx
theorem OneB.com (h:OneB A T id k own wr) (h0:id≠0) {t:TrA} (ht:A.tr id=some t) {order:List KD} {obs:List Bs} (ho:(∀j,j∈order↔t.lv j≠none)∧order.Nodup∧(∀ob,ob∈obs↔t.dr ob=true)) (hw:wr≠0#64):
    QuA (RI A id t order obs) (QK T id none)∧(RI A id t order obs).pres k=Bz zer own wr:= by
  have hp:=h.lv ht
  rw[Sy hp.1 ho.2.1 ho.1 ho.2.2]
  refine⟨⟨h.toLvP.del h0 U, fun {i u} hu=> ?_⟩, ?_⟩
  · have hu:QK A.tr id none i=some u:=hu
    by_cases e:i=id
    · subst e; rw[Qr]at hu; cases hu
    · rw[Qw e]at hu; exact h.qt i u e hu
  show LB A t k=_
  unfold LB
  rw[hp.2,Qr]
  dsimp only
  rw[if_neg hw,h.pr]
theorem LvP.oth (h:LvP A T) {i:Int} {p1 p2:NodeD} (hp:T i=some p1) (he:p2.par=p1.par):LvP A (QK T i (some p2)):=h.same fun j hj=> by
  by_cases e:j=i
  · subst e; rw[Qr,hp]; show some p2.par=some p1.par; rw[he]
  · rw[Qw e]
end
structure SmS (C:CeD) (T:Nodes) (last:Int) (ids:List Int) (f:Bs→Option Bs):Prop where
  tri:TrI T last
  w:CeW C T
  few:FewT T ids
  z:T 0=some zN
  pz: ∀{i n},T i=some n→n.par=0
  root: ∃y,C.all 0=some y∧y.par=none∧y.writes=f∧y.order=[]∧y.vals= fun _=>none
section
variable {C:CeD} {T:Nodes} {id last:Int} {ids:List Int} {f:Bs→Option Bs}
theorem TQ.sm {A:LvA} (h:TQ T last C A []) (hz:T 0=some zN) (hp: ∀{i n},T i=some n→n.par=0):SmS C T last [] (fun _=>none):= by
  obtain⟨y,hy⟩:=h.ce.get hz
  exact⟨h.tri,h.ce.toCeW,h.few,hz,hp,y,hy,h.ce.root hy,(h.ce.quiet hy).1,(h.ce.quiet hy).2.2.2,(h.ce.quiet hy).2.2.1⟩
def FF (id gue:Int):NodeD:=⟨id,0,1,gue,0,false,false⟩
theorem SmS.begin (h:SmS C T last ids f) (hl:ids.length≤30) {g:Int} {y x:OneD} (hy:C.all 0=some y) (hn: ∀j z,C.all j=some z→z.ad≠x.ad) (hxp:x.par=some y.ad) (hxk:x.kids=0):
    SmS ⟨C.ma,QK (QK C.all 0 (some {y with kids:=y.kids+1})) (last+1) (some x)⟩ (QK T (last+1) (some (FF (last+1) g))) (last+1) (ids++[last+1]) f:= by
  have hl0:=h.tri.last0
  obtain⟨y0,a,b,c,o,d⟩:=h.root
  rw[hy]at a; cases a
  have h1:=h.tri.begin (n:=g) h.z
  refine⟨h1,h.w.begin h.tri h.z hy hn hxp hxk,⟨h.few.1.begin h.tri, by rw[List.length_append]; simp;omega⟩, by rw[Qw (by omega)]; exact h.z, fun {i n} q=> ?_,{y with kids:=y.kids+1}, ?_,b,c,o,d⟩
  · by_cases e:i=last+1
    · subst e; rw[Qr]at q; cases q;rfl
    · rw[Qw e]at q; exact h.pz q
  · show QK (QK C.all 0 _) (last+1) _ 0=_
    rw[Qw (by omega),Qr]
theorem K4 {y x:OneD}:(⟨C.ma,QK (QK C.all 0 (some y)) id (some x)⟩:CeD).all id=some x:=Qr
theorem SD {y x:OneD} {j:Int} (h0:j≠0) (hj:j≠id):(⟨C.ma,QK (QK C.all 0 (some y)) id (some x)⟩:CeD).all j=C.all j:= by
  show QK (QK C.all 0 _) id _ j=_
  rw[Qw hj,Qw h0]
theorem SmS.set (h:SmS C T last ids f) {x x':OneD} (h0:id≠0) (hx:C.all id=some x) (h1:x'.ad=x.ad) (h2:x'.par=x.par) (h3:x'.kids=x.kids):SmS (C.up id x') T last ids f:= by
  obtain⟨y,a,b⟩:=h.root
  exact⟨h.tri,h.w.set hx h1 h2 h3,h.few,h.z,h.pz,y, by show QK C.all id _ 0=_; rw[Qw (fun e=>h0 e.symm)]; exact a,b⟩
theorem SmS.sees (h:SmS C T last ids f) (k:Bs):SeesR C T k 0 ((f k).getD []):= by
  obtain⟨y,a,b,c,o,d⟩:=h.root
  cases q:f k with
  | none=> exact .root a (by rw[c]; exact q) (by rw[d])
  | some v=> exact .wr a (by rw[c]; exact q)
theorem SmS.com (h:SmS C T last ids f) {n:NodeD} {x y:OneD} (h0:id≠0) (hn:T id=some n) (hp:n.par=0) (hx:C.all id=some x) (hy:C.all 0=some y) (hk: ∀j,¬ChildOf T id j) (he:n.el=0) (ht:n.timed=false):
    ∃ids',SmS (Bl C id n.par x y) (Vi T id n zN) last ids' (Hz x y)∧ids'.length≤ids.length:= by
  obtain⟨y0,a,b,c,o,d⟩:=h.root
  rw[hy]at a; cases a
  have ez:H0 zN n=zN:= by
    unfold H0; rw[he,ht];rfl
  have e1:Vi T id n zN=QK T id none:= by
    unfold Vi; rw[ez,hp,Wr h.z]
  have hw:=(h.w.set (id:=0) (x':={y with writes:=Hz x y}) hy U U U).del h.tri h0 hn hk (y:={y with writes:=Hz x y}) (by rw[hp]; exact Qr)
  have e2:=Cc hk
  obtain⟨ids',h1,h2⟩:=h.few.abs (D:= fun j=>j=id)
  have h3:=h.tri.abS (D:= fun j=>j=id) (fun q=>h0 q.symm)
  rw[e2]at h1 h3
  rw[e1]
  refine⟨ids',⟨h3, ?_,h1, by rw[Qw (fun e=>h0 e.symm)]; exact h.z, fun {i m} q=> ?_,{y with writes:=Hz x y,kids:=y.kids -1}, ?_,b,rfl,o,d⟩,h2⟩
  · unfold Bl
    rw[hp]at hw⊢
    dsimp only at hw
    rw[J3]at hw
    exact hw
  · by_cases e:i=id
    · subst e; rw[Qr]at q; cases q
    · rw[Qw e]at q; exact h.pz q
  · show QK (QK C.all n.par _) id _ 0=_
    rw[Qw (fun e=>h0 e.symm),hp,Qr]
theorem SmS.nokid (h:SmS C T last ids f) (h0:id≠0): ∀j,¬ChildOf T id j:= fun j ⟨n,a,_,b⟩=>h0 (b.symm.trans (h.pz a))
theorem Fz {x:OneD} {k v:Bs} (hv:v≠[]):(JX x k v).writes k=some v:= by
  show QK x.writes k _ k=_
  rw[Qr,if_neg (fun q=>hv q.2)]
theorem NW {x y:OneD} {k v:Bs} (hv:v≠[]) (hx:x.writes k=some v):Hz x y k=some v:= by
  unfold Hz; rw[hx]; dsimp only; rw[if_neg (fun q=>hv q.2)]
theorem Bv {A:LvA} {i j:Int}:(Uz A i j).pres=A.pres:= by unfold Uz;split<;>rfl
theorem FH {i:Int} {n:NodeD} (h:Hi i=some n):n.par=0:= by
  unfold Hi at h
  by_cases e:i=0
  · subst e; rw[Qr]at h; cases h;rfl
  · rw[Qw e]at h; cases h
theorem TJ {n:NodeD} (hz:T 0=some zN) (hp:n.par=0) (he:n.el=0) (ht:n.timed=false):Vi T id n zN=QK T id none:= by
  have ez:H0 zN n=zN:= by unfold H0; rw[he,ht];rfl
  unfold Vi; rw[ez,hp,Wr hz]
theorem com_oth {x y:OneD} {p j:Int} (h0:j≠p) (hj:j≠id):(Bl C id p x y).all j=C.all j:= by
  show QK (QK C.all p _) id _ j=_
  rw[Qw hj,Qw h0]
theorem AskR.root {i:Int} {x x':OneD} {k:Bs} (h:AskR C T i x k x') (hp:x.par=none):x'=x:= by
  rcases h with⟨_,e⟩ | ⟨e,_⟩
  · exact e
  · rw[Ta hp]at e; cases e
theorem AskR.new {x x':OneD} {n:NodeD} {k s:Bs} (h:AskR C T id x k x') (hp:x.par≠none) (hq:Ex x) (hn:T id=some n) (hs:SeesR C T k n.par s): ∃ov,x'={x with ov:=ov,order:=[(k,s)],vals:=QK (fun _=>none) k (some s)}:= by
  rcases h with⟨e,_⟩ | ⟨_,m,t,ov,_,h1,h2,h3⟩
  · unfold Cg at e
    rw[hq.1,hq.2.2.1]at e
    cases q:x.par with
    | none=> exact absurd q hp
    | some a=> rw[q]at e; cases e
  · rw[hn]at h1; cases h1
    rw[h2.det hs,hq.2.2.2,hq.2.2.1]at h3
    exact⟨ov,h3⟩
end
theorem small18 {w:World} {F:Th} (hS:Sat w [F]) (hG:Ent F GT):
    Calls prog 5 #[] w (Ret fun v w'=>v= .bool true∧Sat w' [F]):= by
 letI:Inhabited SlW:=⟨⟨4096,4⟩⟩
 refine Qm func5 U ntmps5 U ?_
 refine Qe (Qa (Qd U U (Qf (Qc (Qe (Qa ?_))))))
 have hC1:=hS.sp [] U
 refine Qy cal_6 U (NH hC1 4 U U) U ?_
 rintro _ w1 ⟨a,p,C0,rfl,hQ0,j1⟩
 replace j1:=j1.jn U U; clear hC1
 have hz0:Hi 0=some zN:=Qr
 have s0:=hQ0.sm hz0 FH
 obtain⟨y0,hy0, -⟩:=s0.root
 refine Qb U U (Qp U U U (Qp U U U (Qd U U (Qd U U (Qf (Qc (Qe (Qe (Qa (Qb U U (XQ underlying24 U U U (Qf (Qc (QW U (Qt (Qc (Qe (Qa (Qb U U ?_)))))))))))))))))))
 have hC2:=j1.sp [0,1,2] U
 refine Xv NZ U (KC hC2 (by omega) (by decide) s0.tri s0.w s0.few (parent:=0) (guess:=5) s0.z hy0 (by omega) (by decide) (by decide) (by decide)) U ?_
 rintro e w2 ⟨_,rfl,(⟨hful,_,j2⟩ | ⟨_,rfl,x1,hn1,hxp1,hxk1,hxq1,j2⟩)⟩
 ·exact absurd hful (by rintro(q | q); exact absurd q (by decide); exact absurd q (by decide))
 refine⟨_,U, ?_⟩
 replace j2:=j2.jn U U; clear hC2
 refine Qb U U (Qp U U U (Qp U U U (Qd U U (Qd U U (Qf ?_)))))
 have s1:=s0.begin (by decide) (g:=5) hy0 hn1 hxp1 hxk1
 have q1:=hQ0.qu.begin hQ0.tri (n:=5) (d:=1) hz0
 obtain⟨T1,hT1⟩: ∃q,q=(QK Hi 1 (some (FF 1 5)):Nodes):=⟨_,rfl⟩
 obtain⟨C1,hC1⟩: ∃q,q=(⟨C0.ma,QK (QK C0.all 0 (some {y0 with kids:=y0.kids+1})) 1 (some x1)⟩:CeD):=⟨_,rfl⟩
 obtain⟨A1,hA1⟩: ∃q,q=(Uz DR 1 0:LvA):=⟨_,rfl⟩
 have c1:C1.all 1=some x1:= by rw[hC1]; exact K4
 have t1:T1 1=some (FF 1 5):= by rw[hT1]; exact Qr
 replace s1:SmS C1 T1 1 [1] (fun _=>none):= by rw[hC1,hT1]; exact s1
 replace q1:QuA A1 T1:= by rw[hA1,hT1]; exact q1
 have z1: ∀j,A1.pres j=zer:= fun j=> by rw[hA1,Bv];rfl
 have j3:=U9 (l2:=1) (j2.pick [0,1,2,3] U) hT1 hC1 hA1 (by decide)
 refine Qc (Qh [0,1,3,4] U (Qe (Qa (Qb U U (Qb U U ?_)))))
 have hC4:=j3.sp [0] U
 refine Xv Bp U (VR hC4 1) U ?_
 rintro e w4 ⟨_,rfl,(⟨hq,_,j4⟩ | ⟨_,vb,rfl,j4⟩)⟩
 ·exact absurd hq (by rw[t1]; simp)
 refine⟨_,U, ?_⟩
 replace j4:=j4.jn U U; clear hC4
 refine Qd U U (Qf (Qc (Qe (Qa (Qb U U ?_)))))
 have hC5:=j4.sp [1] U
 refine Qy cal_7 U (GG hC5 (by rw[s1.z]; simp)) U ?_
 rintro _ w5 ⟨pb,rfl,j5⟩
 replace j5:=j5.jn U U; clear hC5
 refine Qd U U (Qf (Qc (Qh [0,1,3,4,5,6] U (Qe (Qe (Qa (Qb U U (XQ underlying28 U U U (Qb U U (Qj U U U (Qb U U (Qj U U U (XQ underlying28 U U U (QG U U U U (Qf (Qc (Qh [0,1,3,4,5,6,39] U (QW U (Qt (Qc (Qe (Qa (Qb U U ?_)))))))))))))))))))))))
 have hC6:=j5.sp [2,1,3] U
 refine Qy LZ U (Nq hC6 c1 [97] [120]) U ?_
 rintro _ w6 j6
 replace j6:=j6.jn U U; clear hC6
 obtain⟨C2,hC2⟩: ∃q,q=(C1.up 1 (JX x1 [97] [120]):CeD):=⟨_,rfl⟩
 have s2:=s1.set (by decide) c1 (x':=(JX x1 [97] [120])) U U U
 have c2:(C1.up 1 (JX x1 [97] [120])).all 1=some (JX x1 [97] [120]):=Qr
 rw[←hC2]at s2 c2 j6
 obtain⟨y2,hy2,hyp2,hyw2,hyo2,hyv2⟩:=s2.root
 refine Qf (Qc (Qe (Qa (Qb U U ?_))))
 have hC7:=j6.sp [0,1,4] U
 refine Qy cal_23 U (SO hC7 (by omega) (by decide) t1 (q1.get (by decide) t1) (by decide) [111] 70 9 (by decide)) U ?_
 rintro _ w7 j7
 replace j7:=j7.jn U U; clear hC7
 have o2:=q1.oneB (k:=(([111],70/ 64):KD)) (a:=70%64) (b:=9) (by decide) t1 U z1
 obtain⟨A2,hA2⟩: ∃q,q=(Wo A1 1 (([111],70/ 64):KD) (wrX (ZH A1 1 (([111],70/ 64):KD)) (70%64) 9):LvA):=⟨_,rfl⟩
 rw[←hA2]at o2 j7
 obtain⟨t2,ht2, -⟩:=o2.tr
 refine Qf (Qc (Qh [0,1,3,4,6] U (Qe (Qa (Qb U U ?_)))))
 have hC8:=j7.sp [4,1,3] U
 refine Qy Nj U (DB hC8 s2.w s2.tri hy2 (by rw[hyo2];decide) [97]) U ?_
 rintro _ w8 ⟨y',v2,ha2,rfl,hs2,j8⟩
 replace j8:=j8.jn U U; clear hC8
 have ey:=(ha2.root hyp2).symm; subst ey
 rw[show C2.up 0 y2=C2 by unfold CeD.up; rw[Wr hy2]]at hs2 j8
 have ev:=hs2.det (s2.sees [97]); subst ev
 refine YT U U U (Qb U U (QS 47 U (fun h9=> ?_) (fun h9=> ?_)))
 ·refine Qj U U (det h9) (Qb U U (Qj U U (det h9) (Qy LY U (BK (j8.sp [0,1,4] U) (by omega) (by decide) [111] 70 (by decide)) U ?_)))
  rintro _ w10 ⟨rfl,j10⟩
  replace j10:=j10.jn U U
  rw[o2.pr]
  refine Qj U U (det h9) (Xl U U U (QH U (det h9) U U (Qd U U (Qf (Qc (Qh [0,1,3,4,6,7] U (Qe (Qa (Qb U U (Qb U U ?_))))))))))
  refine Xv Mr U (UP (d:=0) (q:=1) (j10.sp [1,3,2] U) (hG.starL 2 U) s2.tri s2.w s2.few o2.toLvP (by omega) (by decide) t1 (by decide) s2.z U c2 hy2 (by show x1.order.length≤_; rw[hxq1.2.2.2];decide) ht2 (fun _=>⟨hxq1.2.2.2,hxq1.2.1⟩) o2.dr (o2.drle ht2) (by decide) (o2.part ht2) (by decide) (by decide)) U ?_
  rintro e w11 ⟨_,rfl,(⟨hk,_,j11⟩ | ⟨_,hnv,_,j11⟩ | ⟨_,_,rfl,order,obs,hoo,j11⟩)⟩
  ·exact absurd (s2.nokid (by decide)) hk
  ·exact absurd ⟨fun q=>(by cases q), fun z hz=>(by rw[show(JX x1 [97] [120]).order=[] from hxq1.2.2.2]at hz; cases hz),o2.va ht2⟩ hnv
  refine⟨_,U, ?_⟩
  replace j11:=j11.jn U U
  refine Qd U U (Qf ?_)
  obtain⟨ids3,s3,hl3⟩:=s2.com (by decide) t1 rfl c2 hy2 (s2.nokid (by decide)) rfl rfl
  obtain⟨q3,p3⟩:=o2.com (by decide) ht2 hoo (by decide)
  have e3:=TJ (id:=1) (n:=FF 1 5) s2.z U U U
  obtain⟨T3,hT3⟩: ∃q,q=(QK T1 1 none:Nodes):=⟨_,rfl⟩
  obtain⟨C3,hC3⟩: ∃q,q=(Bl C2 1 0 (JX x1 [97] [120]) y2:CeD):=⟨_,rfl⟩
  obtain⟨A3,hA3⟩: ∃q,q=(RI A2 1 t2 order obs:LvA):=⟨_,rfl⟩
  obtain⟨f3,hf3⟩: ∃q,q=(Hz (JX x1 [97] [120]) y2:Bs→Option Bs):=⟨_,rfl⟩
  have hv3:f3 [97]=some [120]:= by rw[hf3]; exact NW (by decide) (Fz (by decide))
  replace s3:SmS C3 T3 1 ids3 f3:= by rw[hC3,hT3,hf3,←e3]; exact s3
  rw[←hA3]at q3 p3; rw[←hT3]at q3
  obtain⟨y3,hy3,hyp3, -⟩:=s3.root
  have j12:=U9 (l2:=1) (j11.pick [0,1,2,3,4,5] U) (hT3.trans e3.symm) hC3 hA3 (by decide)
  refine Qc (Qe (Qa (Qb U U (Xv NZ U (KC (j12.sp [0,1,2] U) (by omega) (by decide) s3.tri s3.w s3.few (parent:=0) (guess:=5) s3.z hy3 (by omega) (by decide) (by decide) (by decide)) U ?_))))
  rintro e w13 ⟨_,rfl,(⟨hful,_,j13⟩ | ⟨_,rfl,x4,hn4,hxp4,hxk4,hxq4,j13⟩)⟩
  ·exact absurd hful (by rintro(q | q); exact absurd q (by decide); simp at hl3;omega)
  refine⟨_,U, ?_⟩
  replace j13:=j13.jn U U
  refine Qb U U (Qp U U U (Qp U U U (Qd U U (Qd U U (Qf ?_)))))
  have s4:=s3.begin (by simp at hl3;omega) (g:=5) hy3 hn4 hxp4 hxk4
  have q4:=q3.begin s3.tri (n:=5) (d:=1) s3.z
  obtain⟨T4,hT4⟩: ∃q,q=(QK T3 2 (some (FF 2 5)):Nodes):=⟨_,rfl⟩
  obtain⟨C4,hC4⟩: ∃q,q=(⟨C3.ma,QK (QK C3.all 0 (some {y3 with kids:=y3.kids+1})) 2 (some x4)⟩:CeD):=⟨_,rfl⟩
  obtain⟨A4,hA4⟩: ∃q,q=(Uz A3 2 0:LvA):=⟨_,rfl⟩
  obtain⟨ids4,hids4⟩: ∃q,q=(ids3++[2]:List Int):=⟨_,rfl⟩
  have c4:C4.all 2=some x4:= by rw[hC4]; exact K4
  have t4:T4 2=some (FF 2 5):= by rw[hT4]; exact Qr
  replace s4:SmS C4 T4 2 ids4 f3:= by rw[hC4,hT4,hids4]; exact s4
  replace q4:QuA A4 T4:= by rw[hA4,hT4]; exact q4
  have p4:A4.pres (([111],70/ 64):KD)=Bz zer (zer.set (70%64:Int).toNat 9) (1#64<<<(70%64:Int).toNat):= by rw[hA4,Bv]; exact p3
  have hl4:ids4.length≤2:= by rw[hids4]; simp at hl3⊢;omega
  obtain⟨y4,hy4,hyp4, -⟩:=s4.root
  have j14:=U9 (l2:=2) (j13.pick [0,1,2,3,4,5] U) hT4 hC4 hA4 (by decide)
  refine Qc (Qh [0,1,3,4,6,7,8,9] U (Qe (Qa (Qb U U (Xv NZ U (KC (j14.sp [0,1,2] U) (by omega) (by decide) s4.tri s4.w s4.few (parent:=0) (guess:=5) s4.z hy4 (by omega) (by decide) (by decide) (by decide)) U ?_)))))
  rintro e w15 ⟨_,rfl,(⟨hful,_,j15⟩ | ⟨_,rfl,x5,hn5,hxp5,hxk5,hxq5,j15⟩)⟩
  ·exact absurd hful (by rintro(q | q); exact absurd q (by decide);omega)
  refine⟨_,U, ?_⟩
  replace j15:=j15.jn U U
  refine Qb U U (Qp U U U (Qp U U U (Qd U U (Qd U U (Qf ?_)))))
  have s5:=s4.begin (by omega) (g:=5) hy4 hn5 hxp5 hxk5
  have q5:=q4.begin s4.tri (n:=5) (d:=1) s4.z
  obtain⟨T5,hT5⟩: ∃q,q=(QK T4 3 (some (FF 3 5)):Nodes):=⟨_,rfl⟩
  obtain⟨C5,hC5⟩: ∃q,q=(⟨C4.ma,QK (QK C4.all 0 (some {y4 with kids:=y4.kids+1})) 3 (some x5)⟩:CeD):=⟨_,rfl⟩
  obtain⟨A5,hA5⟩: ∃q,q=(Uz A4 3 0:LvA):=⟨_,rfl⟩
  obtain⟨ids5,hids5⟩: ∃q,q=(ids4++[3]:List Int):=⟨_,rfl⟩
  have c5:C5.all 3=some x5:= by rw[hC5]; exact K4
  have c52:C5.all 2=some x4:= by rw[hC5,SD (by decide) (by decide)]; exact c4
  have t5:T5 3=some (FF 3 5):= by rw[hT5]; exact Qr
  have t52:T5 2=some (FF 2 5):= by rw[hT5,Qw (by decide)]; exact t4
  replace s5:SmS C5 T5 3 ids5 f3:= by rw[hC5,hT5,hids5]; exact s5
  replace q5:QuA A5 T5:= by rw[hA5,hT5]; exact q5
  have p5:A5.pres (([111],70/ 64):KD)=Bz zer (zer.set (70%64:Int).toNat 9) (1#64<<<(70%64:Int).toNat):= by rw[hA5,Bv]; exact p4
  have j16:=U9 (l2:=3) (j15.pick [0,1,2,3,4,5] U) hT5 hC5 hA5 (by decide)
  refine Qc (Qh [0,1,3,4,6,7,8,9,11] U (Qe (Qa (Qb U U (Qb U U (Xv Bp U (VR (j16.sp [0] U) 2) U ?_))))))
  rintro e w17 ⟨_,rfl,(⟨hq,_,j17⟩ | ⟨_,vx,rfl,j17⟩)⟩
  ·exact absurd hq (by rw[t52]; simp)
  refine⟨_,U, ?_⟩
  replace j17:=j17.jn U U
  refine Qd U U (Qf (Qc (Qh [0,1,3,4,6,7,8,9,11,13] U (Qe (Qa (Qb U U (Qb U U (Xv Bp U (VR (j17.sp [1] U) 3) U ?_))))))))
  rintro e w18 ⟨_,rfl,(⟨hq,_,j18⟩ | ⟨_,vy,rfl,j18⟩)⟩
  ·exact absurd hq (by rw[t5]; simp)
  refine⟨_,U, ?_⟩
  replace j18:=j18.jn U U
  refine Qd U U (Qf (Qc (Qh [0,1,3,4,6,7,8,9,11,13,14] U (Qe (Qe (Qa (Qb U U (XQ underlying28 U U U (Qb U U (Qj U U U (Qb U U (Qj U U U (XQ underlying28 U U U (QG U U U U (Qf (Qc (Qh [0,1,3,4,6,7,8,9,11,13,14,76] U (QW U (Qt (Qc (Qe (Qa (Qb U U ?_)))))))))))))))))))))))
  refine Qy Nj U (DB (j18.sp [0,1,3] U) s5.w s5.tri c5 (by rw[hxq5.2.2.2];decide) [97]) U ?_
  rintro _ w19 ⟨x6,v6,ha6,rfl,hs6,j19⟩
  replace j19:=j19.jn U U
  have hse:=s5.sees [97]; rw[hv3]at hse
  obtain⟨ov6,hx6⟩:=ha6.new (by rw[hxp5]; simp) hxq5 t5 hse
  obtain⟨C6,hC6⟩: ∃q,q=(C5.up 3 x6:CeD):=⟨_,rfl⟩
  have s6:=s5.set (by decide) c5 (x':=x6) ha6.ad.1 ha6.ad.2.1 ha6.ad.2.2
  have c6:(C5.up 3 x6).all 3=some x6:=Qr
  have c62:(C5.up 3 x6).all 2=some x4:=(Qw (by decide)).trans c52
  rw[←hC6]at s6 c6 c62 hs6 j19
  have ev6:=hs6.det (.rd c6 (by rw[hx6]; exact congrFun hxq5.1 _) (show x6.vals [97]=some [120] by rw[hx6]; exact(Qr (f:= fun _=>none) (k:=[97]) (v:=some [120])))); subst ev6
  refine Qd U U (Qf (Qc (Qh [0,1,3,4,6,7,8,9,11,13,15] U (Qe (Qa (Qb U U (Qy LZ U (Nq (j19.sp [3,1,2] U) c62 [97] [121]) U ?_)))))))
  rintro _ w20 j20
  replace j20:=j20.jn U U
  obtain⟨C7,hC7⟩: ∃q,q=(C6.up 2 (JX x4 [97] [121]):CeD):=⟨_,rfl⟩
  have s7:=s6.set (by decide) c62 (x':=(JX x4 [97] [121])) U U U
  have c72:(C6.up 2 (JX x4 [97] [121])).all 2=some (JX x4 [97] [121]):=Qr
  have c7:(C6.up 2 (JX x4 [97] [121])).all 3=some x6:=(Qw (by decide)).trans c6
  rw[←hC7]at s7 c7 c72 j20
  obtain⟨y7,hy7,hyp7, -⟩:=s7.root
  refine Qf (Qc (Qh [0,1,3,4,6,7,8,9,11,15] U (Qe (Qa (Qb U U (Qb U U ?_))))))
  refine Xv Mr U (UP (d:=0) (q:=0) (j20.sp [1,2,4] U) (hG.starL 4 U) s7.tri s7.w s7.few q5.toLvP (by omega) (by decide) t52 (by decide) s7.z U c72 hy7 (by show x4.order.length≤_; rw[hxq4.2.2.2];decide) (q5.get (by decide) t52) (fun _=>⟨hxq4.2.2.2,hxq4.2.1⟩) q5.dr ⟨[],Nat.le_refl _, fun _ q=> by cases q⟩ (by decide) ⟨[],Nat.le_refl _, fun _ _ q=> by cases q⟩ (by decide) (by decide)) U ?_
  rintro e w21 ⟨_,rfl,(⟨hk,_,j21⟩ | ⟨_,hnv,_,j21⟩ | ⟨_,_,rfl,order2,obs2,hoo2,j21⟩)⟩
  ·exact absurd (s7.nokid (by decide)) hk
  ·exact absurd ⟨fun q=>(by cases q), fun z hz=>(by rw[show(JX x4 [97] [121]).order=[] from hxq4.2.2.2]at hz; cases hz),q5.va (q5.get (by decide) t52)⟩ hnv
  refine⟨_,U, ?_⟩
  replace j21:=j21.jn U U
  refine Qd U U (Qf ?_)
  obtain⟨ids8,s8,hl8⟩:=s7.com (by decide) t52 rfl c72 hy7 (s7.nokid (by decide)) rfl rfl
  have ec8:=q5.com (q5.get (by decide) t52) hoo2.1 hoo2.2.2
  have q8:=q5.del (id:=2) (by decide)
  have e8:=TJ (id:=2) (n:=FF 2 5) s7.z U U U
  obtain⟨T8,hT8⟩: ∃q,q=(QK T5 2 none:Nodes):=⟨_,rfl⟩
  obtain⟨C8,hC8⟩: ∃q,q=(Bl C7 2 0 (JX x4 [97] [121]) y7:CeD):=⟨_,rfl⟩
  obtain⟨A8,hA8⟩: ∃q,q=(RH A5 2:LvA):=⟨_,rfl⟩
  obtain⟨f8,hf8⟩: ∃q,q=(Hz (JX x4 [97] [121]) y7:Bs→Option Bs):=⟨_,rfl⟩
  have hv8:f8 [97]=some [121]:= by rw[hf8]; exact NW (by decide) (Fz (by decide))
  replace s8:SmS C8 T8 3 ids8 f8:= by rw[hC8,hT8,hf8,←e8]; exact s8
  rw[←hA8,←hT8]at q8
  have p8:A8.pres (([111],70/ 64):KD)=Bz zer (zer.set (70%64:Int).toNat 9) (1#64<<<(70%64:Int).toNat):= by rw[hA8]; exact p5
  have c8:C8.all 3=some x6:= by rw[hC8,com_oth (by decide) (by decide)]; exact c7
  have t8:T8 3=some (FF 3 5):= by rw[hT8,Qw (by decide)]; exact t5
  obtain⟨y8,hy8,hyp8,hyw8,hyo8, -⟩:=s8.root
  have j22:=U9 (l2:=3) (j21.pick [0,1,2,3,4,5,6,7] U) (hT8.trans e8.symm) hC8 (hA8.trans ec8.symm) (by decide)
  refine Qc (Qh [0,1,3,4,6,7,8,11,15,16] U (Qe (Qa (Qb U U (Qb U U ?_)))))
  refine Xv Mr U (UP (d:=0) (q:=0) (j22.sp [0,1,2] U) (hG.starL 4 U) s8.tri s8.w s8.few q8.toLvP (by omega) (by decide) t8 (by decide) s8.z U c8 hy8 (by rw[hx6]; simp) (q8.get (by decide) t8) (fun hv=>absurd ((hv.2.1 ([97],[120]) (by rw[hx6]; simp)).det (s8.sees [97])) (by rw[hv8];decide)) q8.dr ⟨[],Nat.le_refl _, fun _ q=> by cases q⟩ (by decide) ⟨[],Nat.le_refl _, fun _ _ q=> by cases q⟩ (by decide) (by decide)) U ?_
  rintro e w23 ⟨_,rfl,(⟨hk,_,j23⟩ | ⟨_,_,rfl,j23⟩ | ⟨_,hv,_,j23⟩)⟩
  ·exact absurd (s8.nokid (by decide)) hk
  ·refine⟨_,U, ?_⟩
   replace j23:=j23.jn U U
   refine Qd U U (Qf (Qc (Qh [0,3,4,6,7,8,15,16,17] U (Qe (Qa (Qb U U (Xl U U U (Qb U U (QS 89 U (fun h24=> ?_) (fun h24=> ?_))))))))))
   ·refine Qj U U (det h24) (Qb U U (Qj U U (det h24) (Xl U U U (QH U (det h24) U U (Qb U U (QS 93 U (fun h25=> ?_) (fun h25=> ?_)))))))
    ·refine Qj U U (det h25) (Qb U U (QH U (det h25) U U (Qb U U (QS 96 U (fun h26=> ?_) (fun h26=> ?_)))))
     ·refine Qj U U (det h26) (Qb U U (Qj U U (det h26) (Xl U U U (QH U (det h26) U U (Qb U U (QS 100 U (fun h27=> ?_) (fun h27=> ?_)))))))
      ·refine Qj U U (det h27) (Qb U U (Qj U U (det h27) (Qy LY U (BK (j23.sp [5,0,2] U) (by omega) (by decide) [111] 70 (by decide)) U ?_)))
       rintro _ w28 ⟨rfl,j28⟩
       replace j28:=j28.jn U U
       rw[p8]
       refine Qj U U (det h27) (Xl U U U (QH U (det h27) U U (Qb U U (QS 105 U (fun h29=> ?_) (fun h29=> ?_)))))
       ·refine Qj U U (det h29) (Qb U U (Qj U U (det h29) (YT U U U (QH U (det h29) U U (Qb U U (QS 109 U (fun h30=> ?_) (fun h30=> ?_)))))))
        ·refine Qj U U (det h30) (Qb U U (Qj U U (det h30) (Xl U U U (QH U (det h30) U U (Qb U U (QS 113 U (fun h31=> ?_) (fun h31=> ?_)))))))
         ·refine Qj U U (det h31) (Qb U U (Qj U U (det h31) (Xl U U U (QH U (det h31) U U (Qb U U (QS 117 U (fun h32=> ?_) (fun h32=> ?_)))))))
          ·refine Qj U U (det h32) (Qb U U (Qj U U (det h32) ?_))
           refine Qy Nj U (DB (j28.sp [0,1,3] U) s8.w s8.tri hy8 (by rw[hyo8];decide) [97]) U ?_
           rintro _ w33 ⟨y',v9,ha9,rfl,hs9,j33⟩
           replace j33:=j33.jn U U
           have ey9:=(ha9.root hyp8).symm; subst ey9
           rw[show C8.up 0 y8=C8 by unfold CeD.up; rw[Wr hy8]]at hs9
           have ev9:=hs9.det (s8.sees [97]); rw[hv8]at ev9; subst ev9
           refine Qj U U (det h32) (YT U U U (QH U (det h32) U U (Qd U U (Qf (Qc (Qh [0] U (Qv (QM (.inr U) U U ?_))))))))
           exact⟨_,rfl, by first | rfl | (congr 1;decide) | decide,j33.pick [7] U⟩
          first | exact absurd (by decide) h32 | exact absurd U h32 | exact absurd h32 (by decide)
         first | exact absurd (by decide) h31 | exact absurd U h31 | exact absurd h31 (by decide)
        first | exact absurd (by decide) h30 | exact absurd U h30 | exact absurd h30 (by decide)
       first | exact absurd (by decide) h29 | exact absurd U h29 | exact absurd h29 (by decide)
      first | exact absurd (by decide) h27 | exact absurd U h27 | exact absurd h27 (by decide)
     first | exact absurd (by decide) h26 | exact absurd U h26 | exact absurd h26 (by decide)
    first | exact absurd (by decide) h25 | exact absurd U h25 | exact absurd h25 (by decide)
   first | exact absurd (by decide) h24 | exact absurd U h24 | exact absurd h24 (by decide)
  exact absurd ((hv.2.1 ([97],[120]) (by rw[hx6]; simp)).det (s8.sees [97])) (by rw[hv8];decide)
 first | exact absurd (by decide) h9 | exact absurd U h9 | exact absurd h9 (by decide)
theorem TQ.mod {T:Nodes} {last:Int} {C:CeD} {A:LvA} {ids:List Int} {i:Int} {n n':NodeD} (h:TQ T last C A ids) (hn:T i=some n) (h1:n'.id=n.id) (h2:n'.par=n.par) (h3:n'.dep=n.dep):TQ (QK T i (some n')) last C A ids:= by
  have hat: ∀{j m},QK T i (some n') j=some m→ ∃m0,T j=some m0∧m.id=m0.id∧m.par=m0.par∧m.dep=m0.dep:= by
    intro j m q
    by_cases e:j=i
    · subst e; rw[Qr]at q; cases q; exact⟨n,hn,h1,h2,h3⟩
    · rw[Qw e]at q; exact⟨m,q,rfl,rfl,rfl⟩
  have hto: ∀{j m0},T j=some m0→ ∃m,QK T i (some n') j=some m∧m.id=m0.id∧m.par=m0.par∧m.dep=m0.dep:= by
    intro j m0 q
    by_cases e:j=i
    · subst e; rw[hn]at q; cases q; exact⟨n',Qr,h1,h2,h3⟩
    · exact⟨m0, by rw[Qw e]; exact q,rfl,rfl,rfl⟩
  have hno: ∀j,QK T i (some n') j=none↔T j=none:= fun j=> by
    by_cases e:j=i
    · subst e; rw[Qr,hn]; simp
    · rw[Qw e]
  have hch: ∀p j,ChildOf (QK T i (some n')) p j↔ChildOf T p j:= fun p j=> by
    constructor
    · rintro⟨m,a,b,c⟩
      obtain⟨m0,a0,_,e,_⟩:=hat a
      exact⟨m0,a0,b,e.symm.trans c⟩
    · rintro⟨m,a,b,c⟩
      obtain⟨m0,a0,_,e,_⟩:=hto a
      exact⟨m0,a0,b,e.trans c⟩
  refine⟨⟨?_, fun {j m} q=> ?_, fun {j m} q hj=> ?_, fun {j m} q hj=> ?_,h.tri.last0⟩,⟨⟨fun j=>(h.ce.dom j).trans (hno j).symm, fun q=>h.ce.root q, fun {j m z} hj q hz=> ?_, fun a b c=>h.ce.inj a b c, fun {j z} hz=> ?_⟩, fun q=>h.ce.quiet q⟩,⟨h.qu.toLvP.same fun j hj=> ?_, fun q=>h.qu.none q⟩,⟨⟨h.few.1.1, fun j=>(h.few.1.2 j).trans (by rw[ne_eq,ne_eq,ne_eq,hno])⟩,h.few.2⟩⟩
  · obtain⟨r,a,b,c,d⟩:=h.tri.root
    obtain⟨m,a0,e1,e2,e3⟩:=hto a
    exact⟨m,a0,e1.trans b,e2.trans c,e3.trans d⟩
  · obtain⟨m0,a,e1,_⟩:=hat q
    exact e1.trans (h.tri.own a)
  · obtain⟨m0,a,_⟩:=hat q
    exact h.tri.pos a hj
  · obtain⟨m0,a,_,e2,e3⟩:=hat q
    obtain⟨b1,b2,p,b3,b4⟩:=h.tri.par a hj
    obtain⟨p',c1,_,_,c4⟩:=hto b3
    exact⟨by rw[e2]; exact b1, by rw[e2]; exact b2,p', by rw[e2]; exact c1, by rw[e3,b4,c4]⟩
  · obtain⟨m0,a,_,e2,_⟩:=hat q
    rw[e2]
    exact h.ce.up hj a hz
  · obtain⟨k,h4,l,l1,l2,l3⟩:=h.ce.kids hz
    exact⟨k,h4,l,l1, fun q=>(l2 q).trans (hch j q).symm,l3⟩
  · by_cases e:j=i
    · subst e; rw[Qr,hn]; show some n'.par=some n.par; rw[h2]
    · rw[Qw e]
theorem TQ.begin {T:Nodes} {last:Int} {C:CeD} {A:LvA} {ids:List Int} (h:TQ T last C A ids) (hl:ids.length≤39) {who n:Int} {p:NodeD} (hp:T who=some p) {y x:OneD} (hy:C.all who=some y) (hn: ∀j z,C.all j=some z→z.ad≠x.ad) (hxp:x.par=some y.ad) (hxk:x.kids=0) (hxq:Ex x):
    TQ (QK T (last+1) (some ⟨last+1,who,p.dep+1,n,0,false,false⟩)) (last+1) ⟨C.ma,QK (QK C.all who (some {y with kids:=y.kids+1})) (last+1) (some x)⟩ (Uz A (last+1) who) (ids++[last+1]):=
  ⟨h.tri.begin hp,h.ce.begin h.tri hp hy hn hxp hxk hxq,h.qu.begin h.tri hp,⟨h.few.1.begin h.tri, by rw[List.length_append]; simp;omega⟩⟩
def rN (first:Int):NodeD:=⟨0,0,0,0,first,false,false⟩
def oN (guess s:Int) (lk:Bool):NodeD:=⟨1,0,1,guess,s,lk,false⟩
noncomputable def TT (first guess s:Int) (lk:Bool):Nodes:=QK (QK Hi 0 (some (rN first))) 1 (some (oN guess s lk))
section
variable {first guess s:Int} {lk:Bool}
theorem Rs:TT first guess s lk 0=some (rN first):= by unfold TT; rw[Qw (by decide),Qr]
theorem HX:TT first guess s lk 1=some (oN guess s lk):=Qr
theorem Ew {s':Int} {lk':Bool}:QK (TT first guess s lk) 1 (some (oN guess s' lk'))=TT first guess s' lk':=J3
theorem elN_o {k:Int}:elN (oN guess s lk) k=oN guess (s+max k 0) lk:=rfl
theorem tmN_o:tmN (oN guess s lk)=oN guess s true:=rfl
theorem elN_z (h:0≤first):elN zN first=rN first:= by
  unfold elN zN rN
  congr 1
  simp only[Int.zero_add];omega
end
