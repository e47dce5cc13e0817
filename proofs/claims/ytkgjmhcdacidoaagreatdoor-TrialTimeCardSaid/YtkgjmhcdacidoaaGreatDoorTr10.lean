/- trials: Commit -/
import Derived.Test.YtkgjmhcdacidoaaGreatDoorTr7
import Derived.Test.YtkgjmhcdacidoaaGreatDoorLv1
import Derived.Test.YtkgjmhcdacidoaaGreatDoorLv27
import Derived.Test.YtkgjmhcdacidoaaGreatDoorSk
set_option linter.unusedSectionVars false
set_option linter.unusedVariables false
set_option maxRecDepth 100000
set_option maxHeartbeats 3200000
namespace Go.Proofs.YtkgjmhcdacidoaaGreatDoor
open Go.RowKit M Proofs.Tryz
variable [Inhabited SlW]
def H0 (p n:NodeD):NodeD:={p with el:=p.el+n.el,timed:=p.timed || (n.timed&&decide (n.par≠0))}
noncomputable def Vi (T:Nodes) (id:Int) (n p:NodeD):Nodes:=QK (QK T n.par (some (H0 p n))) id none
noncomputable def Bl (C:CeD) (id p:Int) (x y:OneD):CeD:=⟨C.ma,QK (QK C.all p (some {y with writes:=Hz x y,kids:=y.kids -1})) id none⟩
theorem KidN.none {T:Nodes} {i:Int} {n:Nat} (h:KidN T i n) (hk: ∀j,¬ChildOf T i j):n=0:= by
  obtain⟨l,_,h2,h3⟩:=h
  cases l with
  | nil=> exact h3.symm
  | cons j l=> exact absurd ((h2 j).1 List.mem_cons_self) (hk j)
theorem CeW.kid0 {C:CeD} {T:Nodes} {i:Int} {x:OneD} (h:CeW C T) (hx:C.all i=some x) (hk: ∀j,¬ChildOf T i j):x.kids=0:= by
  obtain⟨n,h1,h2⟩:=h.kids hx
  rw[h1,h2.none hk];rfl
theorem UP {w:World} {a:TrAd} {T:Nodes} {last:Int} {C:CeD} {p n m cc e:Nat} {A:LvA} {F:Th} (hS:Sat w [ZQ a T last,Ua a.c C,UI a.b p n m cc e A,F]) (hG:Ent F GT) (hI:TrI T last) (hW:CeW C T) {ids:List Int} (hF:FewT T ids) (hP:LvP A T) {d q:Nat} (hn2:n+(16*e+4*e*d)≤60000000000) (hm:m<Wx) {id:Int} {n0 p0:NodeD} {x y:OneD} {tA:TrA} (hn0:T id=some n0) (h0:id≠0) (hp0:T n0.par=some p0) (hsh:n0.short=false) (hx:C.all id=some x) (hy:C.all n0.par=some y) (hol:x.order.length≤100000000000) (ht:A.tr id=some tA) (hqx:VaP T C A n0 x tA→x.order=[]∧x.logs= fun _=>none) (hdr:DrA A) (hd:DrLe tA d) (hdm:d≤90000000000) (hq:PartLe tA q) (hcq:cc+q<(default:SlW).f) (hb:0≤p0.gue∧p0.gue≤4000000000000000000∧0≤p0.el∧p0.el≤4000000000000000000∧0≤n0.el∧p0.el+n0.el≤4000000000000000000):
    Calls prog 16 #[ptrV a.t 0,intV id] w (Ret fun v w'=>((¬ ∀j,¬ChildOf T id j)∧v=intV 8∧Sat w' [ZQ a T last,Ua a.c C,UI a.b p n m cc e A,F])∨((∀j,¬ChildOf T id j)∧ ¬VaP T C A n0 x tA∧v=intV 26∧Sat w' [ZQ a T last,Ua a.c C,UI a.b p n m cc e A,F])∨((∀j,¬ChildOf T id j)∧VaP T C A n0 x tA∧v=intV 0∧ ∃order obs,((∀k,k∈order↔tA.lv k≠none)∧order.Nodup∧(∀ob,ob∈obs↔tA.dr ob=true))∧Sat w' [ZQ a (Vi T id n0 p0) last,Ua a.c (Bl C id n0.par x y),UI a.b p (n+(16*e+4*e*d)) m (cc+q) e (RI A id tA order obs),F])):= by
 have hky:0≤y.kids∧y.kids≤100000000000:= by have :=hW.kid40 hF hy;omega
 have hpb:0≤(nd T n0.par).gue∧(nd T n0.par).gue≤4000000000000000000∧0≤(nd T n0.par).el∧(nd T n0.par).el≤4000000000000000000:= by rw[XU hp0];omega
 replace hS:=Zn hS
 refine Qm func16 U ntmps16 U ?_
 refine Qe (Qa (Qd U U (Qf (Qc (Qe (Qa (Qb U U (Qi U U (Qg U ZW U (Qn U WT (by first | assumption | exact hS.cell 0 U U) U ?_))))))))))
 refine Qb U U (Xi (k:=id) 1 hS keysInt underlying58 U U U Wy (u:= .agg #[intV n0.id,intV n0.par,intV n0.dep,intV n0.gue,intV n0.el,.bool n0.timed,.bool n0.short]) (g:=true) (WN hn0) (WY hn0) U (Qb U U (Qp U U U (Qp U U U (Xb hS Wy U U ?_)))))
 intro nb w1 j1
 refine QF j1 U U HY U (by first | rfl | (simp [QU,Value.oneCell'];done)) (i:=0) U (by first | decide | exact Q5 U) ?_
 intro w2 hS2a; dsimp only[List.set]at hS2a
 have j2:Sat w2 (QC nb [intV n0.id,intV n0.par,intV n0.dep,intV n0.gue,intV n0.el,.bool n0.timed,.bool n0.short]::_):=hS2a; clear hS2a
 refine Qd U U (Qf (Qc (Qh [1,0,4,5,6] U (Qe (Qz (Qe (Qa (Qb U U (QV U U (Qb U U (Xu 20 U (fun h3=> ?_) (fun h3=> ?_))))))))))))
 ·exact absurd h3 (by decide)
 refine Qj U U h3 (Qb U U (Qj U U h3 (Xl U U U (QG U h3 U U (Qd U U (Qf (Qc (Qh [1,0,4,5,17] U (Qu U (fun h4=> ?_) (fun h4=> ?_))))))))))
 ·exact absurd h4 h0
 refine Qe (Qa (Qb U U (Qb U U ?_)))
 have j5:=X7 (T:=T) (last:=last) (j2.pick [1,2,0,3,4,5] U)
 refine Qy cal_19 U (TN (j5.sp [0] U) hF hI id) U ?_
 rintro _ w6 j6
 replace j6:=j6.jn U U
 have hkl:(YK T ids id).length≤40:=Nat.le_trans kids_le hF.2
 refine XG 0 j6 underlying22 U U U (J1 U U U (Qd U U (Qf (Qc (Qh [1,0,4,5,24] U (Qu U (fun h7=> ?_) (fun h7=> ?_)))))))
 ·have hkp:0<(YK T ids id).length:= by omega
  refine Qe (Qa (Qd U U (Qf (Qc (Qv (Q0 (Qq (QM (.inr U) U U ?_))))))))
  exact⟨_,rfl,.inl ⟨fun q=>(by have :=(Ti hF.1).2 q; rw[this]at hkp; exact absurd hkp (by decide)),rfl,j6.pick [1,3,4,5] U⟩⟩
 have hkz:(YK T ids id).length=0:= by omega
 refine Qe ?_
 have hkn:(YK T ids id)=[]:=List.length_eq_zero_iff.1 (by omega)
 have hkid:=(Ti hF.1).1 hkn
 refine Qa (Qb U U (Qb U U (Qy Ea U (ME (j6.sp [1,3,4] U) (by omega) hm (hG.starL 2 U) hI hW hn0 h0 hsh hx hol ht hpb) U ?_)))
 rintro _ w8 ⟨r,rfl,hr,j8⟩
 replace j8:=j8.jn U U
 refine QV U U (Qd U U (Qf (Qc (QP U (fun h9=> ?_) (fun h9=> ?_)))))
 ·have hrf:r=false:= by simpa using h9
  refine Qe (Qa (Qd U U (Qf (Qc (Qv (Q0 (Qq (QM (.inr U) U U ?_))))))))
  exact⟨_,rfl,.inr (.inl ⟨hkid, fun q=>(by rw[hr.2 q]at hrf; cases hrf),rfl,j8.pick [0,1,2,5] U⟩)⟩
 have hrt:r=true:= by simpa using h9
 have hva:=hr.1 hrt
 refine Qe ?_
 obtain⟨hor,hlg⟩:=hqx (hr.1 hrt)
 have j10:=Zn (j8.pick [0,1,2,3,4,5] U)
 refine Qa (Qb U U (Qi U U (Qg U UK U (Qn U D0 (by first | assumption | exact j10.cell 0 U U | exact j10.cell 5 U U) U ?_))))
 refine Qb U U (Qy cal_31 U (ls_com (d:=d) (q:=q) (j10.sp [3] U) (by omega) hm hn2 hdm ht (hP.kids hkid) hdr hd hq hcq) U ?_)
 rintro _ w11 ⟨order,obs,rfl,hoo,j11⟩
 replace j11:=j11.jn U U
 refine Xn U U U (Qd U U (Qf (Qc (Qh [1,0,4,5,35] U (Qu U (fun h12=> ?_) (fun h12=> ?_))))))
 ·exact absurd U h12
 refine Qt (Qo (Qc (Qe (Qa (Qb U U (Qi U U (Qg U UL U (Qn U D3 (by first | assumption | exact j11.cell 1 U U | exact j11.cell 5 U U) U ?_))))))))
 refine Qb U U (Qy cal_32 U (TO (j11.sp [3] U) hW hI hx h0 hn0 hy hky (hW.kid0 hx hkid) hor hlg) U ?_)
 rintro _ w13 ⟨rfl,j13⟩
 replace j13:=j13.jn U U
 refine Qf (Qc (Qh [1,0,4,5] U (Qe ?_)))
 have j14:=j13.drew
 refine Q6 [0,1,2,3,4,5,6,7,8,9] [8,9] ZF (by kernel_rfl) ?_
 refine Q9 U U U (QQ U U U (QI U U U ZW (Q1 U U U (Ql U WT (by first | assumption | exact j14.cell 2 U U | exact j14.cell 5 U U)) ?_)))
 refine QI U U U Hb (QI U U U HO (Q1 U U U (Ql U QO (by first | assumption | exact j14.cell 2 U U | exact j14.cell 5 U U)) ?_))
 refine Q1 U U U (Xj (k:=n0.par) 3 j14 keysInt underlying58 U U U Wy (u:= .agg #[intV p0.id,intV p0.par,intV p0.dep,intV p0.gue,intV p0.el,.bool p0.timed,.bool p0.short]) (WN hp0)) (Xa U U U U U U ?_)
 refine Xb j14 Wy U U ?_
 intro pb w15 j15
 refine X5 (.cons (.inl ⟨rfl,(Xj (k:=n0.par) 4 j15 keysInt underlying58 U U U Wy (u:= .agg #[intV p0.id,intV p0.par,intV p0.dep,intV p0.gue,intV p0.el,.bool p0.timed,.bool p0.short]) (WN hp0))⟩) (.cons (.inl ⟨rfl,(Ql U QO (by first | assumption | exact j15.cell 0 U U | exact j15.cell 3 U U | exact j15.cell 6 U U))⟩) (.cons (.inl ⟨rfl,(Ql U WT (by first | assumption | exact j15.cell 0 U U | exact j15.cell 3 U U | exact j15.cell 6 U U))⟩) .nil))) ?_
 refine Xa U U U U U U ?_
 refine QF j15 U U HY U (by first | rfl | (simp [QU,Value.oneCell'];done)) (i:=0) U (by first | decide | exact Q5 U) ?_
 intro w16 hS16a; dsimp only[List.set]at hS16a
 have j16:Sat w16 (QC pb [intV p0.id,intV p0.par,intV p0.dep,intV p0.gue,intV p0.el,.bool p0.timed,.bool p0.short]::_):=hS16a; clear hS16a
 refine XS (Xf (by kernel_rfl)) ?_
 refine VC.nil (Qc (Qh [1,0,4,5,7] U (Qe (Qa (Qg U UM U (Qn U QO (by first | assumption | exact j16.cell 0 U U | exact j16.cell 3 U U | exact j16.cell 6 U U) U ?_))))))
 refine Qg U UM U (Qn U QO (by first | assumption | exact j16.cell 0 U U | exact j16.cell 3 U U | exact j16.cell 6 U U) U ?_)
 refine QN U U (by omega) (by omega) U ?_
 refine Qg U UM U ?_
 first | (refine Qx j16 U U WI (by first | rfl | assumption | exact j16.own_one 5 U) (i:=0) U (by first | decide | exact Q5 U | (simp;done) | omega) ?_) | (refine Qx j16 U U WI (by first | rfl | assumption | exact j16.own_one 5 U) (i:=3) U (by first | decide | exact Q5 U | (simp;done) | omega) ?_) | (refine Qx j16 U U WI (by first | rfl | assumption | exact j16.own_one 5 U) (i:=6) U (by first | decide | exact Q5 U | (simp;done) | omega) ?_)
 intro w17 j18; dsimp only[List.set]at j18
 refine Qf (Qc (Qh [1,0,4,5,7] U (Co (fun E0 W0=>E0=[(0,ptrV a.t 0),(1,intV id),(5,ptrV nb 0),(7,ptrV pb 0)]∧Sat W0 [QC pb [intV p0.id,intV p0.par,intV p0.dep,intV p0.gue,intV (p0.el+n0.el),.bool (H0 p0 n0).timed,.bool p0.short],QC nb [intV n0.id,intV n0.par,intV n0.dep,intV n0.gue,intV n0.el,.bool n0.timed,.bool n0.short],QC a.t [.map (some a.mt),ptrV a.c 0,ptrV a.b 0,intV last],Q4 QX a.mt (UZ T),Ua a.c (Bl C id n0.par x y),UI a.b p (n+(16*e+4*e*d)) m (cc+q) e (RI A id tA order obs),F]) ?_ ?_)))
 ·refine Qa (Qg U HN U (Qn U VD (by first | assumption | exact j18.cell 0 U U | exact j18.cell 3 U U | exact j18.cell 6 U U) U ?_))
  refine Qb U U (Xu 65 U (fun h20=> ?_) (fun h20=> ?_))
  ·have hpt:p0.timed=true:=h20
   refine Qk U U h20 U (Qk U U h20 U (Qk U U h20 U (Yl U U U (Yl U U U (Yl U U U (Yl U U U (Qk U U h20 U (QH U h20 U U (Qg U HN U ?_)))))))))
   first | (refine Qx j18 U U Uh (by first | rfl | assumption | exact j18.own_one 5 U) (i:=0) U (by first | decide | exact Q5 U | (simp;done) | omega) ?_) | (refine Qx j18 U U Uh (by first | rfl | assumption | exact j18.own_one 5 U) (i:=3) U (by first | decide | exact Q5 U | (simp;done) | omega) ?_) | (refine Qx j18 U U Uh (by first | rfl | assumption | exact j18.own_one 5 U) (i:=6) U (by first | decide | exact Q5 U | (simp;done) | omega) ?_)
   intro w21 j22; dsimp only[List.set]at j22
   refine Qf ?_
   have hzz:=j22.pick [0,6,3,4,1,2,7] U
   exact Vr (VF U U U U) ⟨rfl,Sat.blk_as hzz (congrArg (fun z=>[intV p0.id,intV p0.par,intV p0.dep,intV p0.gue,intV (p0.el+n0.el),.bool z,.bool p0.short]) (by unfold H0; dsimp only; rw[hpt];rfl))⟩
  have hpt:p0.timed=false:=h20
  refine Qj U U h20 (Qg U HN U (Qj U U h20 (Qn U VD (by first | assumption | exact j18.cell 0 U U | exact j18.cell 3 U U | exact j18.cell 6 U U) U ?_)))
  refine Qj U U h20 (Qb U U (Xu 68 U (fun h23=> ?_) (fun h23=> ?_)))
  ·have hnt:n0.timed=true:=h23
   refine Qj U U h23 (Qg U Hb U (Qj U U h23 (Qg U HO U (Qj U U h23 (Qn U QO (by first | assumption | exact j18.cell 0 U U | exact j18.cell 3 U U | exact j18.cell 6 U U) U ?_)))))
   refine Qj U U h23 (Xn U U U (Qj U U h20 (QH U h23 U U (QG U h20 U U (Qg U HN U ?_)))))
   first | (refine Qx j18 U U Uh (by first | rfl | assumption | exact j18.own_one 5 U) (i:=0) U (by first | decide | exact Q5 U | (simp;done) | omega) ?_) | (refine Qx j18 U U Uh (by first | rfl | assumption | exact j18.own_one 5 U) (i:=3) U (by first | decide | exact Q5 U | (simp;done) | omega) ?_) | (refine Qx j18 U U Uh (by first | rfl | assumption | exact j18.own_one 5 U) (i:=6) U (by first | decide | exact Q5 U | (simp;done) | omega) ?_)
   intro w24 j25; dsimp only[List.set]at j25
   refine Qf ?_
   have hzz:=j25.pick [0,6,3,4,1,2,7] U
   exact Vr (VF U U U U) ⟨rfl,Sat.blk_as hzz (congrArg (fun z=>[intV p0.id,intV p0.par,intV p0.dep,intV p0.gue,intV (p0.el+n0.el),.bool z,.bool p0.short]) (by unfold H0; dsimp only; rw[hpt,hnt];rfl))⟩
  have hnt:n0.timed=false:=h23
  refine Qk U U h23 U (Qk U U h23 U (Qk U U h23 U (Qk U U h23 U (Qj U U h20 (QG U h23 U U (QG U h20 U U (Qg U HN U ?_)))))))
  first | (refine Qx j18 U U Uh (by first | rfl | assumption | exact j18.own_one 5 U) (i:=0) U (by first | decide | exact Q5 U | (simp;done) | omega) ?_) | (refine Qx j18 U U Uh (by first | rfl | assumption | exact j18.own_one 5 U) (i:=3) U (by first | decide | exact Q5 U | (simp;done) | omega) ?_) | (refine Qx j18 U U Uh (by first | rfl | assumption | exact j18.own_one 5 U) (i:=6) U (by first | decide | exact Q5 U | (simp;done) | omega) ?_)
  intro w26 j27; dsimp only[List.set]at j27
  refine Qf ?_
  have hzz:=j27.pick [0,6,3,4,1,2,7] U
  exact Vr (VF U U U U) ⟨rfl,Sat.blk_as hzz (congrArg (fun z=>[intV p0.id,intV p0.par,intV p0.dep,intV p0.gue,intV (p0.el+n0.el),.bool z,.bool p0.short]) (by unfold H0; dsimp only; rw[hpt,hnt];rfl))⟩
 rintro _ w19 ⟨rfl,j19⟩
 refine Qe ?_
 have j28:=j19.drew
 refine Q6 [0,1,2,3,4,5,6,7,8] [8] ZF (by kernel_rfl) ?_
 refine Q9 U U U (QQ U U U (QI U U U ZW (Q1 U U U (Ql U WT (by first | assumption | exact j28.cell 0 U U | exact j28.cell 1 U U | exact j28.cell 2 U U)) ?_)))
 refine QI U U U Hb (QI U U U HO (Q1 U U U (Ql U QO (by first | assumption | exact j28.cell 0 U U | exact j28.cell 1 U U | exact j28.cell 2 U U)) ?_))
 refine Q1 U U U (Xp U Em HY (by first | exact j28.blk 0 U | exact j28.blk 1 U | exact j28.blk 2 U) (by first | decide | exact Q5 U | (simp;done) | omega) U) ?_
 refine Xa U U U U U U ?_
 refine QY (k:=n0.par) (v:=ndA (H0 p0 n0)) 3 j28 keysInt underlying58 U U U U ?_
 intro w29 j29; dsimp only[List.set]at j29; rw[GO]at j29
 refine XS (Xf (by kernel_rfl)) ?_
 refine VC.nil (Qc (Qh [1,0] U (Qe (Qa (Qb U U (Qi U U (Qg U ZW U (Qn U WT (by first | assumption | exact j29.cell 0 U U | exact j29.cell 1 U U | exact j29.cell 2 U U) U ?_))))))))
 refine Qb U U (WW (k:=id) 3 j29 keysInt underlying58 U U U U ?_)
 intro w30 j30; dsimp only[List.set]at j30; rw[ndG_del]at j30
 exact Qf (Qc (Qe (Qa (Qd U U (Qf (Qc (Qv (QM (.inr U) U U (⟨_,U,.inr (.inr ⟨hkid,hva,U,order,obs,hoo,X7 (T:=Vi T id n0 p0) (j30.pick [2,3,4,5,6] U)⟩)⟩)))))))))
structure TQ (T:Nodes) (last:Int) (C:CeD) (A:LvA) (ids:List Int):Prop where
  tri:TrI T last
  ce:CeQ C T
  qu:QuA A T
  few:FewT T ids
theorem IdsOf.abs {T:Nodes} {ids:List Int} {D:Int→Prop} (h:IdsOf T ids): ∃ids',IdsOf (abS T D) ids':= by
  classical
  refine⟨ids.filter fun i=>decide (abS T D i≠none),h.1.sublist List.filter_sublist, fun i=> ?_⟩
  rw[List.mem_filter,h.2,decide_eq_true_eq]
  refine⟨fun q=>⟨q.1.1,q.2⟩, fun q=>⟨⟨q.1, fun z=>q.2 ?_⟩,q.2⟩⟩
  unfold abS;split
  · rfl
  · exact z
theorem FewT.abs {T:Nodes} {ids:List Int} {D:Int→Prop} (h:FewT T ids): ∃ids',FewT (abS T D) ids'∧ids'.length≤ids.length:= by
  obtain⟨ids',h1⟩:=h.1.abs (D:=D)
  have h2:=h.1.len_abS h1
  exact⟨ids',⟨h1,Nat.le_trans h2 h.2⟩,h2⟩
theorem TQ.del {T:Nodes} {last:Int} {C:CeD} {A:LvA} {ids:List Int} {id:Int} {n:NodeD} {y:OneD} (h:TQ T last C A ids) (h0:id≠0) (hn:T id=some n) (hk: ∀j,¬ChildOf T id j) (hy:C.all n.par=some y):
    ∃ids',TQ (QK T id none) last ⟨C.ma,QK (QK C.all n.par (some {y with kids:=y.kids -1})) id none⟩ (RH A id) ids'∧ids'.length≤ids.length:= by
  have e:=Cc hk
  obtain⟨ids',h1,h2⟩:=h.few.abs (D:= fun j=>j=id)
  rw[e]at h1
  have h3:=h.tri.abS (D:= fun j=>j=id) (fun q=>h0 q.symm)
  rw[e]at h3
  exact⟨ids',⟨h3,h.ce.del h.tri h0 hn hk hy,h.qu.del h0,h1⟩,h2⟩
theorem LvP.len {A:LvA} {T:Nodes} {ids:List Int} (h:LvP A T) (hf:FewT T ids) {ks:List Int} (hn:ks.Nodup) (hk: ∀i∈ks,A.tr i≠none):ks.length≤40:= by
  refine Nat.le_trans (Kd hn fun i hi=> ?_) hf.2
  have h1:=hk i hi
  have h0:i≠0:= fun e=>h1 (by rw[e]; exact h.zero)
  exact(hf.1.2 i).2 ⟨h0, fun q=>h1 ((h.miss h0).2 q)⟩
theorem DB {w:World} {vb:Nat} {id:Int} {a:TrAd} {T:Nodes} {last:Int} {C:CeD} {F:Th} (hS:Sat w [QC vb [ptrV a.t 0,intV id],ZQ a T last,Ua a.c C,F]) (hW:CeW C T) (hI:TrI T last) {x:OneD} (hx:C.all id=some x) (hol:x.order.length≤100000000000) (k:Bs):
    Calls prog 24 #[ptrV vb 0,strV k] w (Ret fun v w'=> ∃x' s,AskR C T id x k x'∧v=strV s∧SeesR (C.up id x') T k id s∧Sat w' [QC vb [ptrV a.t 0,intV id],ZQ a T last,Ua a.c (C.up id x'),F]):= by
 refine Qm func24 U ntmps24 U ?_
 refine Qe (Qa (Qd U U (Qf (Qc (Qe ?_)))))
 have j1:=Zn (hS.pick [1,0,2,3] U)
 have j2:=j1.drew
 refine Q6 [0,1,2,3,4,5,6,7,8,9,10,11,12,13] [12] ZF (by kernel_rfl) ?_
 refine Q9 U U U (QQ U U U (QI U U U Jr (Q1 U U U (Ql U YP (by first | assumption | exact j2.cell 0 U U | exact j2.cell 2 U U)) ?_)))
 refine QQ U U U (QI U U U UL (Q1 U U U (Ql U D3 (by first | assumption | exact j2.cell 0 U U | exact j2.cell 2 U U)) ?_))
 refine Q9 U U U (QQ U U U (QI U U U Jb (Q1 U U U (Ql U QO (by first | assumption | exact j2.cell 0 U U | exact j2.cell 2 U U)) ?_)))
 refine Q9 U U U (Xa U U U U U U ?_)
 refine Qy cal_40 U (LK (j2.sp [3] U) hW hI hx hol k) U ?_
 rintro _ w3 ⟨x',s,ha,rfl,hs,j3⟩
 replace j3:=j3.jn U U
 refine X5 (Xf (by kernel_rfl)) ?_
 refine Za U U U (VC.nil (Qc (Qh [4] U (Qv (QM (.inr U) U U ?_)))))
 have j4:=X7 (T:=T) (last:=last) (j3.pick [1,2,0,3,4] U)
 exact⟨_,U,x',s,ha,U,hs,j4.pick [2,0,1,3] U⟩
theorem Nq {w:World} {vb:Nat} {id:Int} {a:TrAd} {T:Nodes} {last:Int} {C:CeD} {F:Th} (hS:Sat w [QC vb [ptrV a.t 0,intV id],ZQ a T last,Ua a.c C,F]) {x:OneD} (hx:C.all id=some x) (k s:Bs):
    Calls prog 22 #[ptrV vb 0,strV k,strV s] w (Ret fun v w'=>Sat w' [QC vb [ptrV a.t 0,intV id],ZQ a T last,Ua a.c (C.up id (JX x k s)),F]):= by
 refine Qm func22 U ntmps22 U ?_
 have j1:=Zn (hS.pick [1,0,2,3] U)
 have j2:=j1.drew
 refine Q6 [0,1,2,3,4,5,6,7,8,9,10,11,12,13] [13] ZF (by kernel_rfl) ?_
 refine Q9 U U U (QQ U U U (QI U U U Jr (Q1 U U U (Ql U YP (by first | assumption | exact j2.cell 0 U U | exact j2.cell 2 U U)) ?_)))
 refine QQ U U U (QI U U U UL (Q1 U U U (Ql U D3 (by first | assumption | exact j2.cell 0 U U | exact j2.cell 2 U U)) ?_))
 refine Q9 U U U (QQ U U U (QI U U U Jb (Q1 U U U (Ql U QO (by first | assumption | exact j2.cell 0 U U | exact j2.cell 2 U U)) ?_)))
 refine Q9 U U U (Q9 U U U (Xa U U U U U U ?_))
 refine Qy cal_37 U (LI (j2.sp [3] U) hx k s) U ?_
 rintro _ w3 j3
 replace j3:=j3.jn U U
 refine X5 (Xf (by kernel_rfl)) ?_
 refine VC.nil (ZT (.inl U) U ?_)
 have j4:=X7 (T:=T) (last:=last) (j3.pick [1,2,0,3,4] U)
 exact⟨_,U,j4.pick [2,0,1,3] U⟩
theorem BK {w:World} {vb:Nat} {a:TrAd} {T:Nodes} {last:Int} {p n m cc e:Nat} {A:LvA} {F:Th} (hS:Sat w [QC vb [ptrV a.t 0,intV 0],ZQ a T last,UI a.b p n m cc e A,F]) (hn:n≤60000000000) (hm:m<Wx) (ob:Bs) (at_:Int) (hr:0≤at_∧at_<16384):
    Calls prog 25 #[ptrV vb 0,strV ob,intV at_] w (Ret fun v w'=>v=Yk (btA (A.pres (ob,at_/ 64)) (at_%64))∧Sat w' [QC vb [ptrV a.t 0,intV 0],ZQ a T last,UI a.b p n m cc e A,F]):= by
 refine Qm func25 U ntmps25 U ?_
 refine Qe (Qa (Qd U U (Qf (Qc (Qe ?_)))))
 have j1:=Zn (hS.pick [1,0,2,3] U)
 have j2:=j1.drew
 refine Q6 [0,1,2,3,4,5,6,7,8,9,10,11,12,13,14] [13] ZF (by kernel_rfl) ?_
 refine Q9 U U U (QQ U U U (QI U U U Jr (Q1 U U U (Ql U YP (by first | assumption | exact j2.cell 0 U U | exact j2.cell 2 U U)) ?_)))
 refine QQ U U U (QI U U U UK (Q1 U U U (Ql U D0 (by first | assumption | exact j2.cell 0 U U | exact j2.cell 2 U U)) ?_))
 refine Q9 U U U (QQ U U U (QI U U U Jb (Q1 U U U (Ql U QO (by first | assumption | exact j2.cell 0 U U | exact j2.cell 2 U U)) ?_)))
 refine Q9 U U U (Q9 U U U (Xa U U U U U U ?_))
 refine Qy cal_41 U (FQ (j2.sp [3] U) hn hm ob at_ hr) U ?_
 rintro _ w3 ⟨rfl,j3⟩
 replace j3:=j3.jn U U
 refine X5 (Xf (by kernel_rfl)) ?_
 refine Za U U U (VC.nil (Qc (Qh [6] U (Qv (QM (.inr U) U U ?_)))))
 have j4:=X7 (T:=T) (last:=last) (j3.pick [1,2,0,3,4] U)
 exact⟨_,U,U,j4.pick [2,0,1,3] U⟩
theorem SO {w:World} {vb:Nat} {id:Int} {a:TrAd} {T:Nodes} {last:Int} {p n m cc e:Nat} {A:LvA} {F:Th} (hS:Sat w [QC vb [ptrV a.t 0,intV id],ZQ a T last,UI a.b p n m cc e A,F]) (hn:n≤60000000000) (hm:m<Wx) {n0:NodeD} (hn0:T id=some n0) {tA:TrA} (ht:A.tr id=some tA) (hc:cc+1<(default:SlW).f) (ob:Bs) (at_:Int) (bt:UInt8) (hr:0≤at_∧at_<16384):
    Calls prog 23 #[ptrV vb 0,strV ob,intV at_,Yk bt] w (Ret fun v w'=>Sat w' [QC vb [ptrV a.t 0,intV id],ZQ a T last,UI a.b p (n+5) m (cc+1) (e+1) (Wo A id (ob,at_/ 64) (wrX (ZH A id (ob,at_/ 64)) (at_%64) bt)),F]):= by
 refine Qm func23 U ntmps23 U ?_
 have j1:=Zn (hS.pick [1,0,2,3] U)
 have j2:=j1.drew
 refine Q6 [0,1,2,3,4,5,6,7,8,9,10,11,12,13,14,15,16] [15,16] ZF (by kernel_rfl) ?_
 refine Q9 U U U (Q9 U U U (QQ U U U (QI U U U Jr (Q1 U U U (Ql U YP (by first | assumption | exact j2.cell 0 U U | exact j2.cell 2 U U)) ?_))))
 refine QQ U U U (QI U U U UK (Q1 U U U (Ql U D0 (by first | assumption | exact j2.cell 0 U U | exact j2.cell 2 U U)) ?_))
 refine Q9 U U U (QQ U U U (QI U U U Jb (Q1 U U U (Ql U QO (by first | assumption | exact j2.cell 0 U U | exact j2.cell 2 U U)) ?_)))
 refine Q9 U U U (Q9 U U U (Q9 U U U (Xa U U U U U U ?_)))
 refine Qy cal_39 U (FP (j2.sp [3] U) hn hm ht hc ob at_ bt hr) U ?_
 rintro _ w3 ⟨rfl,j3⟩
 replace j3:=j3.jn U U
 refine X5 (Xf (by kernel_rfl)) ?_
 refine Xa U U U U U U ?_
 have j4:=X7 (T:=T) (last:=last) (j3.pick [1,2,0,3,4] U)
 refine Qy cal_38 U (P6 (j4.sp [2,0] U) hn0) U ?_
 rintro _ w5 j5
 replace j5:=j5.jn U U
 refine X5 (Xf (by kernel_rfl)) ?_
 exact VC.nil (ZT (.inl U) U (⟨_,U,j5.pick [0,1,2,3] U⟩))
theorem roomy2 {w:World} {b p mp mt ms:Nat} {As:List Th} (h:Sat w (Je b (Yt p mp mt ms)::ZR p 0 (default:SlW).f (fun _=>none)::As)):Sat w (UI b p 0 0 0 0 DR::As):= by
  obtain⟨h1,h2,h3,h4,_⟩:=FI (sp:=p) (mp:=mp) (mt:=mt) (ms:=ms)
  exact Hq (L:=Yt p mp mt ms) (V:= fun _=>none) ⟨rfl,h1,h2,h3,h4⟩ h
theorem newQ {ma:Nat} {x:OneD} (h1:x.par=none) (h2:x.kids=0) (h3:Ex x):TQ Hi 0 (Di ma x) DR []:= by
  have hT: ∀{i n},Hi i=some n→i=0∧n=zN:= fun {i n} h=> by
    unfold Hi at h
    by_cases e:i=0
    · subst e; rw[Qr]at h; cases h; exact⟨rfl,rfl⟩
    · rw[Qw e]at h; cases h
  have hC: ∀{i z},(Di ma x).all i=some z→i=0∧z=x:= fun {i z} h=> by
    have h:QK (fun _=>none) 0 (some x) i=some z:=h
    by_cases e:i=0
    · subst e; rw[Qr]at h; cases h; exact⟨rfl,rfl⟩
    · rw[Qw e]at h; cases h
  refine⟨⟨⟨zN,Qr,rfl,rfl,rfl⟩, fun h=>(by obtain⟨a,b⟩:=hT h; subst a; subst b;rfl), fun h q=>absurd (hT h).1 q, fun h q=>absurd (hT h).1 q,Int.le_refl _⟩,
    ⟨⟨fun i=> ?_, fun h=>(by rw[(hC h).2]; exact h1), fun q h _=>absurd (hT h).1 q, fun a b _=>(hC a).1.trans (hC b).1.symm, fun {i z} h=> ?_⟩, fun h=>(by rw[(hC h).2]; exact h3)⟩,
    ⟨⟨rfl, fun i hi=> ?_⟩, fun h=> by cases h⟩,⟨⟨List.Pairwise.nil, fun i=>⟨fun h=>(by cases h), fun h=> ?_⟩⟩, by simp⟩⟩
  · by_cases e:i=0
    · subst e
      show QK (fun _=>none) 0 (some x) 0=none↔QK (fun _=>none) 0 (some zN) 0=none
      rw[Qr,Qr]; simp
    · show QK (fun _=>none) 0 (some x) i=none↔QK (fun _=>none) 0 (some zN) i=none
      rw[Qw e,Qw e]; simp
  · obtain⟨a,b⟩:=hC h
    subst a; subst b
    exact⟨0,h2,[],List.nodup_nil, fun j=>⟨fun q=>(by cases q), fun ⟨n,q1,q2,_⟩=>absurd (hT q1).1 q2⟩,rfl⟩
  · show(QK (fun _=>none) 0 (some zN) i).map NodeD.par=_
    rw[Qw hi];rfl
  · exact absurd (show Hi i=none from by unfold Hi; rw[Qw h.1]) h.2
theorem NH {w:World} {F:Th} (hS:Sat w [F]) (count:Int) (hsl:(default:SlW).v=4096) (hfr:(min (max count 1) 256).toNat=(default:SlW).f):
    Calls prog 6 #[intV count] w (Ret fun v w'=> ∃a p C,v= .tuple #[ptrV a.t 0,ptrV p 0]∧TQ Hi 0 C DR []∧Sat w' [ZQ a Hi 0,Ua a.c C,UI a.b p 0 0 0 0 DR,F]):= by
 refine Qm func6 U ntmps6 U ?_
 refine Qe (Qa (Qd U U (Qd U U (Qf (Qc (Qe (Qa (Qb U U ?_))))))))
 refine Qy cal_26 U (stNew (hS.sp [] U) count 4096 200 (by rw[hsl];rfl)) U ?_
 rintro _ w1 ⟨p,rfl,j1⟩
 replace j1:=j1.jn U U
 refine Qd U U (Qf (Qc (Qe (Qe (Qa (Qb U U (XQ underlying25 U U U (Qf (Qc (QW U (Qt (Qc (Qe (Qa (Qb U U (Qy cal_27 U (SR (j1.sp [] U)) U ?_))))))))))))))))
 rintro _ w2 ⟨a,ma,x,mp,mt,ms,rfl,hxp,hxk,hxq,j2⟩
 replace j2:=j2.jn U U
 refine Qb U U (Qd U U (Qd U U (Qf (Qc (Qh [2,3] U (Qv (Jc (.inr U) U U U ?_)))))))
 have hzz:=j2.pick [2,3,0,1,4] U; rw[hfr]at hzz
 exact⟨_,U,a,p,Di ma x,U,newQ hxp hxk hxq,(roomy2 hzz).reorder [1,2,0,3] U⟩
