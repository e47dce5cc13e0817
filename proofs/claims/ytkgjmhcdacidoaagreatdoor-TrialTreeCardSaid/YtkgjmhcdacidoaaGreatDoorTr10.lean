/- trials: Commit -/
import Derived.Test.YtkgjmhcdacidoaaGreatDoorTr7
import Derived.Test.YtkgjmhcdacidoaaGreatDoorLv1
import Derived.Test.YtkgjmhcdacidoaaGreatDoorLv27
import Derived.Test.YtkgjmhcdacidoaaGreatDoorSk
set_option linter.unusedSectionVars false
set_option linter.unusedVariables false
set_option maxRecDepth 100000
set_option maxHeartbeats 3200000
namespace Go.Proofs.YtkgjmhcdacidoaaGreatDoor
open Go.RowKit M Proofs.Tryz
variable [Inhabited SlW]
def RQ (p n:NodeD):NodeD:={p with el:=p.el+n.el,timed:=p.timed || (n.timed&&decide (n.par≠0))}
noncomputable def Vx (T:Nodes) (id:Int) (n p:NodeD):Nodes:=QO (QO T n.par (some (RQ p n))) id none
noncomputable def Vy (C:CeD) (id p:Int) (x y:OneD):CeD:=⟨C.ma,QO (QO C.all p (some {y with writes:=Hn x y,kids:=y.kids -1})) id none⟩
theorem KidN.none {T:Nodes} {i:Int} {n:Nat} (h:KidN T i n) (hk: ∀j,¬ChildOf T i j):n=0:= by
  obtain⟨l,_,h2,h3⟩:=h
  cases l with
  | nil=> exact h3.symm
  | cons j l=> exact absurd ((h2 j).1 List.mem_cons_self) (hk j)
theorem CeW.kid0 {C:CeD} {T:Nodes} {i:Int} {x:OneD} (h:CeW C T) (hx:C.all i=some x) (hk: ∀j,¬ChildOf T i j):x.kids=0:= by
  obtain⟨n,h1,h2⟩:=h.kids hx
  rw[h1,h2.none hk];rfl
theorem Va {w:World} {a:TrAd} {T:Nodes} {last:Int} {C:CeD} {p n m cc e:Nat} {A:LvA} {F:Th} (hS:Sat w [Zp a T last,Yb a.c C,Yr a.b p n m cc e A,F]) (hG:Ent F GT) (hI:TrI T last) (hW:CeW C T) {ids:List Int} (hF:FewT T ids) (hP:LvP A T) {d q:Nat} (hn2:n+(16*e+4*e*d)≤60000000000) (hm:m<Wd) {id:Int} {n0 p0:NodeD} {x y:OneD} {tA:TrA} (hn0:T id=some n0) (h0:id≠0) (hp0:T n0.par=some p0) (hsh:n0.short=false) (hx:C.all id=some x) (hy:C.all n0.par=some y) (hol:x.order.length≤100000000000) (ht:A.tr id=some tA) (hqx:VaP T C A n0 x tA→x.order=[]∧x.logs= fun _=>none) (hdr:DrA A) (hd:DrLe tA d) (hdm:d≤90000000000) (hq:PartLe tA q) (hcq:cc+q<(default:SlW).f) (hb:0≤p0.gue∧p0.gue≤4000000000000000000∧0≤p0.el∧p0.el≤4000000000000000000∧0≤n0.el∧p0.el+n0.el≤4000000000000000000):
    Calls prog 16 #[ptrV a.t 0,intV id] w (Ret fun v w'=>((¬ ∀j,¬ChildOf T id j)∧v=intV 8∧Sat w' [Zp a T last,Yb a.c C,Yr a.b p n m cc e A,F])∨((∀j,¬ChildOf T id j)∧ ¬VaP T C A n0 x tA∧v=intV 26∧Sat w' [Zp a T last,Yb a.c C,Yr a.b p n m cc e A,F])∨((∀j,¬ChildOf T id j)∧VaP T C A n0 x tA∧v=intV 0∧ ∃order obs,((∀k,k∈order↔tA.lv k≠none)∧order.Nodup∧(∀ob,ob∈obs↔tA.dr ob=true))∧Sat w' [Zp a (Vx T id n0 p0) last,Yb a.c (Vy C id n0.par x y),Yr a.b p (n+(16*e+4*e*d)) m (cc+q) e (RT A id tA order obs),F])):= by
 have hky:0≤y.kids∧y.kids≤100000000000:= by have :=hW.kid40 hF hy;omega
 have hpb:0≤(nd T n0.par).gue∧(nd T n0.par).gue≤4000000000000000000∧0≤(nd T n0.par).el∧(nd T n0.par).el≤4000000000000000000:= by rw[UR hp0];omega
 replace hS:=Zk hS
 refine Qn func16 U ntmps16 U ?_
 refine Qe (Qa (Qd U U (Qf (Qc (Qe (Qa (Qb U U (Qi U U (Qg U Wb U (Qo U J3 (by first | assumption | exact hS.cell 0 U U) U ?_))))))))))
 refine Qb U U (Xj (k:=id) 1 hS keysInt underlying58 U U U Wy (u:= .agg #[intV n0.id,intV n0.par,intV n0.dep,intV n0.gue,intV n0.el,.bool n0.timed,.bool n0.short]) (g:=true) (Yq hn0) (YT hn0) U (Qb U U (Qp U U U (Qp U U U (Xa hS Wy U U ?_)))))
 intro nb w1 j1
 refine Q9 j1 U U Uk U (by first | rfl | (simp [QV,Value.oneCell'];done)) (i:=0) U (by first | decide | exact Q7 U) ?_
 intro w2 hS2a; dsimp only[List.set]at hS2a
 have j2:Sat w2 (QE nb [intV n0.id,intV n0.par,intV n0.dep,intV n0.gue,intV n0.el,.bool n0.timed,.bool n0.short]::_):=hS2a; clear hS2a
 refine Qd U U (Qf (Qc (Qh [1,0,4,5,6] U (Qe (Qw (Qe (Qa (Qb U U (QU U U (Qb U U (Xw 20 U (fun h3=> ?_) (fun h3=> ?_))))))))))))
 ·exact absurd h3 (by decide)
 refine Qj U U h3 (Qb U U (Qj U U h3 (Xc U U U (QC U h3 U U (Qd U U (Qf (Qc (Qh [1,0,4,5,17] U (Qt U (fun h4=> ?_) (fun h4=> ?_))))))))))
 ·exact absurd h4 h0
 refine Qe (Qa (Qb U U (Qb U U ?_)))
 have j5:=X1 (T:=T) (last:=last) (j2.pick [1,2,0,3,4,5] U)
 refine Q0 NI U (UB (j5.sp [0] U) hF hI id) U ?_
 rintro _ w6 j6
 replace j6:=j6.jn U U
 have hkl:(Zh T ids id).length≤40:=Nat.le_trans Pq hF.2
 refine Xo 0 j6 underlying22 U U U (J6 U U U (Qd U U (Qf (Qc (Qh [1,0,4,5,24] U (Qt U (fun h7=> ?_) (fun h7=> ?_)))))))
 ·have hkp:0<(Zh T ids id).length:= by omega
  refine Qe (Qa (Qd U U (Qf (Qc (Qv (Q1 (Qr (QR (.inr U) U U ?_))))))))
  exact⟨_,rfl,.inl ⟨fun q=>(by have :=(Bi hF.1).2 q; rw[this]at hkp; exact absurd hkp (by decide)),rfl,j6.pick [1,3,4,5] U⟩⟩
 have hkz:(Zh T ids id).length=0:= by omega
 refine Qe ?_
 have hkn:(Zh T ids id)=[]:=List.length_eq_zero_iff.1 (by omega)
 have hkid:=(Bi hF.1).1 hkn
 refine Qa (Qb U U (Qb U U (Q0 cal_15 U (FH (j6.sp [1,3,4] U) (by omega) hm (hG.starL 2 U) hI hW hn0 h0 hsh hx hol ht hpb) U ?_)))
 rintro _ w8 ⟨r,rfl,hr,j8⟩
 replace j8:=j8.jn U U
 refine QU U U (Qd U U (Qf (Qc (QS U (fun h9=> ?_) (fun h9=> ?_)))))
 ·have hrf:r=false:= by simpa using h9
  refine Qe (Qa (Qd U U (Qf (Qc (Qv (Q1 (Qr (QR (.inr U) U U ?_))))))))
  exact⟨_,rfl,.inr (.inl ⟨hkid, fun q=>(by rw[hr.2 q]at hrf; cases hrf),rfl,j8.pick [0,1,2,5] U⟩)⟩
 have hrt:r=true:= by simpa using h9
 have hva:=hr.1 hrt
 refine Qe ?_
 obtain⟨hor,hlg⟩:=hqx (hr.1 hrt)
 have j10:=Zk (j8.pick [0,1,2,3,4,5] U)
 refine Qa (Qb U U (Qi U U (Qg U Ub U (Qo U BE (by first | assumption | exact j10.cell 0 U U | exact j10.cell 5 U U) U ?_))))
 refine Qb U U (Q0 cal_31 U (ls_com (d:=d) (q:=q) (j10.sp [3] U) (by omega) hm hn2 hdm ht (hP.kids hkid) hdr hd hq hcq) U ?_)
 rintro _ w11 ⟨order,obs,rfl,hoo,j11⟩
 replace j11:=j11.jn U U
 refine Xp U U U (Qd U U (Qf (Qc (Qh [1,0,4,5,35] U (Qt U (fun h12=> ?_) (fun h12=> ?_))))))
 ·exact absurd U h12
 refine Qs (Ql (Qc (Qe (Qa (Qb U U (Qi U U (Qg U Uc U (Qo U BF (by first | assumption | exact j11.cell 1 U U | exact j11.cell 5 U U) U ?_))))))))
 refine Qb U U (Q0 cal_32 U (Cp (j11.sp [3] U) hW hI hx h0 hn0 hy hky (hW.kid0 hx hkid) hor hlg) U ?_)
 rintro _ w13 ⟨rfl,j13⟩
 replace j13:=j13.jn U U
 refine Qf (Qc (Qh [1,0,4,5] U (Qe ?_)))
 have j14:=j13.drew
 refine QH [0,1,2,3,4,5,6,7,8,9] [8,9] ZW (by kernel_rfl) ?_
 refine QJ U U U (Xd U U U (QP U U U Wb (Q3 U U U (Qm U J3 (by first | assumption | exact j14.cell 2 U U | exact j14.cell 5 U U)) ?_)))
 refine QP U U U YC (QP U U U JV (Q3 U U U (Qm U QM (by first | assumption | exact j14.cell 2 U U | exact j14.cell 5 U U)) ?_))
 refine Q3 U U U (Xt (k:=n0.par) 3 j14 keysInt underlying58 U U U Wy (u:= .agg #[intV p0.id,intV p0.par,intV p0.dep,intV p0.gue,intV p0.el,.bool p0.timed,.bool p0.short]) (Yq hp0)) (Xl U U U U U U ?_)
 refine Xa j14 Wy U U ?_
 intro pb w15 j15
 refine XH (.cons (.inl ⟨rfl,(Xt (k:=n0.par) 4 j15 keysInt underlying58 U U U Wy (u:= .agg #[intV p0.id,intV p0.par,intV p0.dep,intV p0.gue,intV p0.el,.bool p0.timed,.bool p0.short]) (Yq hp0))⟩) (.cons (.inl ⟨rfl,(Qm U QM (by first | assumption | exact j15.cell 0 U U | exact j15.cell 3 U U | exact j15.cell 6 U U))⟩) (.cons (.inl ⟨rfl,(Qm U J3 (by first | assumption | exact j15.cell 0 U U | exact j15.cell 3 U U | exact j15.cell 6 U U))⟩) .nil))) ?_
 refine Xl U U U U U U ?_
 refine Q9 j15 U U Uk U (by first | rfl | (simp [QV,Value.oneCell'];done)) (i:=0) U (by first | decide | exact Q7 U) ?_
 intro w16 hS16a; dsimp only[List.set]at hS16a
 have j16:Sat w16 (QE pb [intV p0.id,intV p0.par,intV p0.dep,intV p0.gue,intV p0.el,.bool p0.timed,.bool p0.short]::_):=hS16a; clear hS16a
 refine Zj (Xq (by kernel_rfl)) ?_
 refine VC.nil (Qc (Qh [1,0,4,5,7] U (Qe (Qa (Qg U Gm U (Qo U QM (by first | assumption | exact j16.cell 0 U U | exact j16.cell 3 U U | exact j16.cell 6 U U) U ?_))))))
 refine Qg U Gm U (Qo U QM (by first | assumption | exact j16.cell 0 U U | exact j16.cell 3 U U | exact j16.cell 6 U U) U ?_)
 refine QK U U (by omega) (by omega) U ?_
 refine Qg U Gm U ?_
 first | (refine Qx j16 U U Js (by first | rfl | assumption | exact j16.own_one 5 U) (i:=0) U (by first | decide | exact Q7 U | (simp;done) | omega) ?_) | (refine Qx j16 U U Js (by first | rfl | assumption | exact j16.own_one 5 U) (i:=3) U (by first | decide | exact Q7 U | (simp;done) | omega) ?_) | (refine Qx j16 U U Js (by first | rfl | assumption | exact j16.own_one 5 U) (i:=6) U (by first | decide | exact Q7 U | (simp;done) | omega) ?_)
 intro w17 j18; dsimp only[List.set]at j18
 refine Qf (Qc (Qh [1,0,4,5,7] U (GB (fun E0 W0=>E0=[(0,ptrV a.t 0),(1,intV id),(5,ptrV nb 0),(7,ptrV pb 0)]∧Sat W0 [QE pb [intV p0.id,intV p0.par,intV p0.dep,intV p0.gue,intV (p0.el+n0.el),.bool (RQ p0 n0).timed,.bool p0.short],QE nb [intV n0.id,intV n0.par,intV n0.dep,intV n0.gue,intV n0.el,.bool n0.timed,.bool n0.short],QE a.t [.map (some a.mt),ptrV a.c 0,ptrV a.b 0,intV last],Q6 QX a.mt (Vn T),Yb a.c (Vy C id n0.par x y),Yr a.b p (n+(16*e+4*e*d)) m (cc+q) e (RT A id tA order obs),F]) ?_ ?_)))
 ·refine Qa (Qg U UW U (Qo U VU (by first | assumption | exact j18.cell 0 U U | exact j18.cell 3 U U | exact j18.cell 6 U U) U ?_))
  refine Qb U U (Xw 65 U (fun h20=> ?_) (fun h20=> ?_))
  ·have hpt:p0.timed=true:=h20
   refine Qk U U h20 U (Qk U U h20 U (Qk U U h20 U (Zs U U U (Zs U U U (Zs U U U (Zs U U U (Qk U U h20 U (QN U h20 U U (Qg U UW U ?_)))))))))
   first | (refine Qx j18 U U Ki (by first | rfl | assumption | exact j18.own_one 5 U) (i:=0) U (by first | decide | exact Q7 U | (simp;done) | omega) ?_) | (refine Qx j18 U U Ki (by first | rfl | assumption | exact j18.own_one 5 U) (i:=3) U (by first | decide | exact Q7 U | (simp;done) | omega) ?_) | (refine Qx j18 U U Ki (by first | rfl | assumption | exact j18.own_one 5 U) (i:=6) U (by first | decide | exact Q7 U | (simp;done) | omega) ?_)
   intro w21 j22; dsimp only[List.set]at j22
   refine Qf ?_
   have hzz:=j22.pick [0,6,3,4,1,2,7] U
   exact Wq (Vj U U U U) ⟨rfl,Sat.blk_as hzz (congrArg (fun z=>[intV p0.id,intV p0.par,intV p0.dep,intV p0.gue,intV (p0.el+n0.el),.bool z,.bool p0.short]) (by unfold RQ; dsimp only; rw[hpt];rfl))⟩
  have hpt:p0.timed=false:=h20
  refine Qj U U h20 (Qg U UW U (Qj U U h20 (Qo U VU (by first | assumption | exact j18.cell 0 U U | exact j18.cell 3 U U | exact j18.cell 6 U U) U ?_)))
  refine Qj U U h20 (Qb U U (Xw 68 U (fun h23=> ?_) (fun h23=> ?_)))
  ·have hnt:n0.timed=true:=h23
   refine Qj U U h23 (Qg U YC U (Qj U U h23 (Qg U JV U (Qj U U h23 (Qo U QM (by first | assumption | exact j18.cell 0 U U | exact j18.cell 3 U U | exact j18.cell 6 U U) U ?_)))))
   refine Qj U U h23 (Xp U U U (Qj U U h20 (QN U h23 U U (QC U h20 U U (Qg U UW U ?_)))))
   first | (refine Qx j18 U U Ki (by first | rfl | assumption | exact j18.own_one 5 U) (i:=0) U (by first | decide | exact Q7 U | (simp;done) | omega) ?_) | (refine Qx j18 U U Ki (by first | rfl | assumption | exact j18.own_one 5 U) (i:=3) U (by first | decide | exact Q7 U | (simp;done) | omega) ?_) | (refine Qx j18 U U Ki (by first | rfl | assumption | exact j18.own_one 5 U) (i:=6) U (by first | decide | exact Q7 U | (simp;done) | omega) ?_)
   intro w24 j25; dsimp only[List.set]at j25
   refine Qf ?_
   have hzz:=j25.pick [0,6,3,4,1,2,7] U
   exact Wq (Vj U U U U) ⟨rfl,Sat.blk_as hzz (congrArg (fun z=>[intV p0.id,intV p0.par,intV p0.dep,intV p0.gue,intV (p0.el+n0.el),.bool z,.bool p0.short]) (by unfold RQ; dsimp only; rw[hpt,hnt];rfl))⟩
  have hnt:n0.timed=false:=h23
  refine Qk U U h23 U (Qk U U h23 U (Qk U U h23 U (Qk U U h23 U (Qj U U h20 (QC U h23 U U (QC U h20 U U (Qg U UW U ?_)))))))
  first | (refine Qx j18 U U Ki (by first | rfl | assumption | exact j18.own_one 5 U) (i:=0) U (by first | decide | exact Q7 U | (simp;done) | omega) ?_) | (refine Qx j18 U U Ki (by first | rfl | assumption | exact j18.own_one 5 U) (i:=3) U (by first | decide | exact Q7 U | (simp;done) | omega) ?_) | (refine Qx j18 U U Ki (by first | rfl | assumption | exact j18.own_one 5 U) (i:=6) U (by first | decide | exact Q7 U | (simp;done) | omega) ?_)
  intro w26 j27; dsimp only[List.set]at j27
  refine Qf ?_
  have hzz:=j27.pick [0,6,3,4,1,2,7] U
  exact Wq (Vj U U U U) ⟨rfl,Sat.blk_as hzz (congrArg (fun z=>[intV p0.id,intV p0.par,intV p0.dep,intV p0.gue,intV (p0.el+n0.el),.bool z,.bool p0.short]) (by unfold RQ; dsimp only; rw[hpt,hnt];rfl))⟩
 rintro _ w19 ⟨rfl,j19⟩
 refine Qe ?_
 have j28:=j19.drew
 refine QH [0,1,2,3,4,5,6,7,8] [8] ZW (by kernel_rfl) ?_
 refine QJ U U U (Xd U U U (QP U U U Wb (Q3 U U U (Qm U J3 (by first | assumption | exact j28.cell 0 U U | exact j28.cell 1 U U | exact j28.cell 2 U U)) ?_)))
 refine QP U U U YC (QP U U U JV (Q3 U U U (Qm U QM (by first | assumption | exact j28.cell 0 U U | exact j28.cell 1 U U | exact j28.cell 2 U U)) ?_))
 refine Q3 U U U (X3 U ag_56 Uk (by first | exact j28.blk 0 U | exact j28.blk 1 U | exact j28.blk 2 U) (by first | decide | exact Q7 U | (simp;done) | omega) U) ?_
 refine Xl U U U U U U ?_
 refine Xi (k:=n0.par) (v:=ndA (RQ p0 n0)) 3 j28 keysInt underlying58 U U U U ?_
 intro w29 j29; dsimp only[List.set]at j29; rw[Nk]at j29
 refine Zj (Xq (by kernel_rfl)) ?_
 refine VC.nil (Qc (Qh [1,0] U (Qe (Qa (Qb U U (Qi U U (Qg U Wb U (Qo U J3 (by first | assumption | exact j29.cell 0 U U | exact j29.cell 1 U U | exact j29.cell 2 U U) U ?_))))))))
 refine Qb U U (WG (k:=id) 3 j29 keysInt underlying58 U U U U ?_)
 intro w30 j30; dsimp only[List.set]at j30; rw[Pk]at j30
 exact Qf (Qc (Qe (Qa (Qd U U (Qf (Qc (Qv (QR (.inr U) U U (⟨_,U,.inr (.inr ⟨hkid,hva,U,order,obs,hoo,X1 (T:=Vx T id n0 p0) (j30.pick [2,3,4,5,6] U)⟩)⟩)))))))))
theorem itKT (c b:Nat) (g:Int→Option Value):ItI g 153 [ptrV c 0] (Rt c b g):= fun l J X w hS hY=> by
  have h1:=(hS.perm (List.Perm.swap _ _ _)).flat; dsimp only[RX,RW]at h1
  refine(kt_it (h1.reorder [2,0,1,3] U) hY).mono fun e w' h=>h.mono fun v w' ⟨ks,h2,h3⟩=>⟨ks,h2, ?_⟩
  exact(Sat.fold (As:=[QE c [.map (some b)],Q6 QX b g]) (h3.reorder [1,2,0,3] U)).perm (List.Perm.swap _ _ _)
theorem live_sp {w:World} {b:Nat} {L:LvD} {F:Th} (hS:Sat w [WU b L,F]) (hlen: ∀ks,Came (XC TrD.ad L.tr) ks→ks.length≤100000000000):
    Calls prog 74 #[ptrV b 0] w (Ret fun v w'=> ∃ks,AllC (XC TrD.ad L.tr) ks∧Sat w' [rowT inC v (XP ks),WU b L,F]):= by
 replace hS:=Zb hS
 refine Qn func74 U ntmps74 U ?_
 refine Qe (Qa (Qd U U (Qf (Qc (Qe (Qa (Qb U U (Qi U U (Qg U ZJ U (Qo U WN (by first | assumption | exact hS.cell 0 U U) U ?_))))))))))
 refine Q0 cal_113 U (kt_sp (hS.sp [] U) U) U ?_
 rintro _ w1 ⟨ck,rfl,j1⟩
 replace j1:=j1.jn U U
 have hK:=Sat.fold (As:=[QE ck [.map (some L.mt)],Q6 QX L.mt (XC TrD.ad L.tr)]) (j1.pick [0,3,1,2,4,5,6] U)
 have hC2:=hK.sp [0] U
 refine Q0 NG U (V9 hC2 cal_153 (itKT ck L.mt (XC TrD.ad L.tr)) hlen) U ?_
 rintro _ w2 ⟨ks,hks,j2⟩
 replace j2:=j2.jn U U; clear hC2
 clear hK
 refine Qd U U (Qf (Qc (Qv (QR (.inr U) U U ?_))))
 have hz:=(j2.pick [1,0,2,3,4,5,6] U).flat; dsimp only[Rt,RX,RW]at hz
 exact⟨_,U,ks,hks,(Xx (hz.pick [3,4,1,5,6,2,7] U)).perm (List.Perm.swap _ _ _)⟩
theorem Ac {L:LvD} {ks:List Int} {k:Int} (h:AllC (XC TrD.ad L.tr) ks) (hk:k∈XP ks): ∃u,L.tr k=some u:= by
  have h1:=(h.mem k).1 ((Ha ks).mem_iff.1 hk)
  cases q:L.tr k with
  | some u=> exact⟨u,rfl⟩
  | none=> exact absurd (by unfold XC; rw[q];rfl) h1
theorem Fz {w:World} {ex:Int→Int} {m:Nat} {b n Fr:Nat} {L:LvD} {V:VS} {F:Th} (hS:Sat w [WU b L,ZT L.sp n Fr V,F]) {c:Nat} (hc:SzLe L c) (hn:n+2*c≤60000000000) (hI:LvX ex m L V) (hx:NN ex) {id:Int} {t:TrD} (ht:L.tr id=some t) (hch: ∀i u,L.tr i=some u→u.parent≠id) (hlen: ∀ks,Came (XC TrD.ad L.tr) ks→ks.length≤100000000000):
    Calls prog 36 #[ptrV b 0,intV id] w (Ret fun v w'=> ∃L' V',StepX ex m L V ex m 0 0 L' V'∧QG L' V'=VP (QG L V) id∧L'.pres=L.pres∧L'.tr=QO L.tr id none∧Sat w' [WU b L',ZT L'.sp (n+2*c) Fr V',F]):= by
 replace hS:=Zb hS
 refine Qn func36 U ntmps36 U ?_
 refine Qe (Qe (Qa (Qb U U (Qi U U (Qg U ZJ U (Qo U WN (by first | assumption | exact hS.cell 0 U U) U ?_))))))
 refine Qb U U (X8 (k:=id) 2 hS keysInt underlying106 U U U Yf (u:=ptrV t.ad 0) (XJ ht) U (XI underlying104 U U U (Qf (Qc (QL U (Qs (Qc (Qe (Qe ?_)))))))))
 have j1:=Xx (L:=L) (hS.pick [0,1,2,3,4,5,6] U)
 refine Qa (Qb U U (Q0 cal_74 U (live_sp (j1.sp [0] U) hlen) U ?_))
 rintro _ w2 ⟨ks,hks,j2⟩
 replace j2:=j2.jn U U
 obtain⟨ar,cr,hvr,_⟩:=j2.own_shape 0 rfl; obtain rfl:=hvr
 have hkl:(XP ks).length≤100000000000:= by rw[Ji]; exact hlen _ (Came.of_all hks)
 first | refine XB underlying22 U U ?_ | refine Xo 0 j2 underlying22 U U U ?_
 refine Qb U U (Qf (Qc (Qh [1,0,15,16,17] U (Qw ?_))))
 refine Xe (fun K0 E0 W0=> ∃(i:Nat),K0=(XP ks).length -i∧E0=[(0,ptrV b 0),(1,intV id),(15,.slice ar (XP ks).length cr),(16,intV ((XP ks).length:Int)),(17,intV (i:Int))]∧Sat W0 [WU b L,rowT inC (.slice ar (XP ks).length cr) (XP ks),ZT L.sp n Fr V,F]∧(i≤(XP ks).length)) (L0:=[(0,_),(1,_),(15,_),(16,_),(17,_)]) ((XP ks).length) (Ym U U U U U) ⟨0,rfl,rfl,j2.pick [1,0,2,3] U, by omega⟩ ?_
 rintro _ _ w3 ⟨i,rfl,rfl,j3,hi⟩
 refine Qe (Qa (Xn U U U (Qf (Qc (Qe (Qt U (fun h4=> ?_) (fun h4=> ?_)))))))
 ·obtain⟨k,hk⟩: ∃k,(XP ks)[i]? =some k:=⟨_,Zd (by omega)⟩
  obtain⟨u,hu⟩: ∃u,L.tr k=some u:=Ac hks (List.mem_of_getElem? hk)
  refine Qs (Qc (Qe (Qw (Qe (Qa (Xg inC 1 i j3 U U U (by first | rfl | omega) hk Un U ?_))))))
  intro bx5 capx5 hvx5
  refine XY 1 i 0 j3 U hvx5 U U hk QM U U (Qd U U (Qf (Qc (Qe ?_))))
  have j6:=Zb (j3.pick [0,1,2,3] U)
  refine Qa (Qb U U (Qi U U (Qg U ZJ U (Qo U WN (by first | assumption | exact j6.cell 0 U U) U ?_))))
  refine Qb U U (X8 (k:=k) 2 j6 keysInt underlying106 U U U Yf (u:=ptrV u.ad 0) (XJ hu) U (Qd U U (Qf (Qc (Qh [17,16,15,1,0,5,6] U (Qe ?_))))))
  have j7:=Xx (L:=L) (j6.pick [0,1,2,3,4,5,6,7] U)
  refine Qa (Qb U U (ZB underlying104 U U U (Qb U U (Qj U U U (Qb U U (Qj U U U (Qi U U (Qj U U U (Qg U WZ U (Qj U U U (Qo U QM (UU j7 0 U hu 0 U) U (Qj U U U (Qb U U (Qj U U U (Xc U U U (QN U U U U (Qf (Qc (Qh [17,16,15,1,0,5,36] U (Qt U (fun h8=> ?_) (fun h8=> ?_)))))))))))))))))))))
  ·exact absurd (by simpa using h8) (hch _ _ hu)
  refine Qs (Ql (Qc (Qa (QK U U (by omega) (by omega) U ?_))))
  refine Qb U U (Qf ?_)
  exact Q5 (L1:=[(0,_),(1,_),(15,_),(16,_),(17,intV ((i+1:Nat):Int))]) (Ym U U U U U) (k1:=(XP ks).length -(i+1)) (by omega) ⟨i+1,rfl,rfl,j7.pick [0,1,2,3] U, by omega⟩
 refine QT (Qq (Qq (Qy (Qc (Qa (Qb U U (Qb U U (Q0 EJ U (Ds (c:=c) (j3.sp [0,2] U) hc hn hI hx ht hch) U ?_))))))))
 rintro _ w9 ⟨L',V',h1,h2,h3,h4,j9⟩
 replace j9:=j9.jn U U
 exact Qf (ZP (.inl U) U (⟨_,U,L',V',h1,h2,h3,h4,j9.pick [0,1,3] U⟩))
theorem LG {w:World} {b p n m c e:Nat} {A:LvA} {F:Th} (hS:Sat w [Yr b p n m c e A,F]) (hn:n≤60000000000) (hm:m<Wd) (hn3:n+2*e≤60000000000) {id:Int} {tA:TrA} (ht:A.tr id=some tA) (hch: ∀i u,A.tr i=some u→u.parent≠id) (hlen: ∀ks:List Int,ks.Nodup→(∀i∈ks,A.tr i≠none)→ks.length≤100000000000):
    Calls prog 36 #[ptrV b 0,intV id] w (Ret fun v w'=>Sat w' [Yr b p (n+2*e) m c e (VP A id),F]):= by
  obtain⟨L,V,⟨h1,h2,rfl,h4,h5⟩,j1⟩:=H5 hS
  obtain⟨t,ht1,rfl⟩:=GI ht
  have hll: ∀ks,Came (XC TrD.ad L.tr) ks→ks.length≤100000000000:= fun ks hk=>hlen ks hk.nodup fun i hi q=> by
    cases z:L.tr i with
    | none=> exact hk.has i hi (by unfold XC; rw[z];rfl)
    | some u=> rw[Z6 z]at q; cases q
  refine(Fz (ex:= fun _=>0) j1 h5 hn3 h2 (fun _ _=>Int.le_refl _) ht1 (PT hch) hll).mono fun ew w h=>h.mono fun v w h=> ?_
  obtain⟨L',V',hs,hab,_,_,hS⟩:=h
  exact Hf ⟨hs.sp.trans h1,hs.inv,hab,hs.al _ h4,hs.sz _ h5⟩ hS
structure TQ (T:Nodes) (last:Int) (C:CeD) (A:LvA) (ids:List Int):Prop where
  tri:TrI T last
  ce:CeQ C T
  qu:QuA A T
  few:FewT T ids
theorem IdsOf.abs {T:Nodes} {ids:List Int} {D:Int→Prop} (h:IdsOf T ids): ∃ids',IdsOf (abS T D) ids':= by
  classical
  refine⟨ids.filter fun i=>decide (abS T D i≠none),h.1.sublist List.filter_sublist, fun i=> ?_⟩
  rw[List.mem_filter,h.2,decide_eq_true_eq]
  refine⟨fun q=>⟨q.1.1,q.2⟩, fun q=>⟨⟨q.1, fun z=>q.2 ?_⟩,q.2⟩⟩
  unfold abS;split
  · rfl
  · exact z
theorem FewT.abs {T:Nodes} {ids:List Int} {D:Int→Prop} (h:FewT T ids): ∃ids',FewT (abS T D) ids'∧ids'.length≤ids.length:= by
  obtain⟨ids',h1⟩:=h.1.abs (D:=D)
  have h2:=h.1.len_abS h1
  exact⟨ids',⟨h1,Nat.le_trans h2 h.2⟩,h2⟩
theorem TQ.del {T:Nodes} {last:Int} {C:CeD} {A:LvA} {ids:List Int} {id:Int} {n:NodeD} {y:OneD} (h:TQ T last C A ids) (h0:id≠0) (hn:T id=some n) (hk: ∀j,¬ChildOf T id j) (hy:C.all n.par=some y):
    ∃ids',TQ (QO T id none) last ⟨C.ma,QO (QO C.all n.par (some {y with kids:=y.kids -1})) id none⟩ (VP A id) ids'∧ids'.length≤ids.length:= by
  have e:=BJ hk
  obtain⟨ids',h1,h2⟩:=h.few.abs (D:= fun j=>j=id)
  rw[e]at h1
  have h3:=h.tri.abS (D:= fun j=>j=id) (fun q=>h0 q.symm)
  rw[e]at h3
  exact⟨ids',⟨h3,h.ce.del h.tri h0 hn hk hy,h.qu.del h0,h1⟩,h2⟩
theorem LvP.len {A:LvA} {T:Nodes} {ids:List Int} (h:LvP A T) (hf:FewT T ids) {ks:List Int} (hn:ks.Nodup) (hk: ∀i∈ks,A.tr i≠none):ks.length≤40:= by
  refine Nat.le_trans (Kr hn fun i hi=> ?_) hf.2
  have h1:=hk i hi
  have h0:i≠0:= fun e=>h1 (by rw[e]; exact h.zero)
  exact(hf.1.2 i).2 ⟨h0, fun q=>h1 ((h.miss h0).2 q)⟩
def AbT (kk:Nat):Prop:= ∀{w:World} {a:TrAd} {T:Nodes} {last:Int} {C:CeD} {p m:Nat} {A:LvA} {ids:List Int} {F:Th},Sat w [Zp a T last,Yb a.c C,Yr a.b p 0 m 0 0 A,F]→m<Wd→TQ T last C A ids→ ∀{id:Int} {n:NodeD},T id=some n→id≠0→(last -id).toNat≤kk→
    Calls prog 20 #[ptrV a.t 0,intV id] w (Ret fun v w'=>v=intV 0∧ ∃C' A' ids',TQ (abS T (fun j=>j=id)) last C' A' ids'∧ids'.length≤ids.length∧Sat w' [Zp a (abS T (fun j=>j=id)) last,Yb a.c C',Yr a.b p 0 m 0 0 A',F])
theorem Fy {kk:Nat} (ih: ∀j,j<kk→AbT j) {w:World} {a:TrAd} {T:Nodes} {last:Int} {C:CeD} {p m:Nat} {A:LvA} {ids:List Int} {F:Th} (hS:Sat w [Zp a T last,Yb a.c C,Yr a.b p 0 m 0 0 A,F]) (hm:m<Wd) (hQ:TQ T last C A ids) {id:Int} {n0:NodeD} (hn0:T id=some n0) (h0:id≠0) (hkk:(last -id).toNat≤kk):
    Calls prog 20 #[ptrV a.t 0,intV id] w (Ret fun v w'=>v=intV 0∧ ∃C' A' ids',TQ (abS T (fun j=>j=id)) last C' A' ids'∧ids'.length≤ids.length∧Sat w' [Zp a (abS T (fun j=>j=id)) last,Yb a.c C',Yr a.b p 0 m 0 0 A',F]):= by
 replace hS:=Zk hS
 refine Qn func20 U ntmps20 U ?_
 refine Qe (Qa (Qd U U (Qf (Qc (Qe (Qe (Qa (Qb U U (Qi U U (Qg U Wb U (Qo U J3 (by first | assumption | exact hS.cell 0 U U) U ?_)))))))))))
 refine Qb U U (Xj (k:=id) 1 hS keysInt underlying58 U U U Wy (u:= .agg #[intV n0.id,intV n0.par,intV n0.dep,intV n0.gue,intV n0.el,.bool n0.timed,.bool n0.short]) (g:=true) (Yq hn0) (YT hn0) U (Qb U U (Qp U U U (Qp U U U (Xa hS Wy U U ?_)))))
 intro nb w1 j1
 refine Q9 j1 U U Uk U (by first | rfl | (simp [QV,Value.oneCell'];done)) (i:=0) U (by first | decide | exact Q7 U) ?_
 intro w2 hS2a; dsimp only[List.set]at hS2a
 have j2:Sat w2 (QE nb [intV n0.id,intV n0.par,intV n0.dep,intV n0.gue,intV n0.el,.bool n0.timed,.bool n0.short]::_):=hS2a; clear hS2a
 refine Qd U U (Qf (Qc (Qh [1,0,4,6] U (Qe (Qa (Qb U U (QU U U (Qb U U (Xw 20 U (fun h3=> ?_) (fun h3=> ?_))))))))))
 ·exact absurd h3 (by decide)
 refine Qj U U h3 (Qb U U (Qj U U h3 (Xc U U U (QC U h3 U U (Qf (Qc (Qt U (fun h4=> ?_) (fun h4=> ?_))))))))
 ·exact absurd h4 h0
 refine Qs (Qc (Qe (Qe (Qa (Qb U U (Qb U U ?_))))))
 have j5:=X1 (T:=T) (last:=last) (j2.pick [1,2,0,3,4,5] U)
 refine Q0 NI U (UB (j5.sp [0] U) hQ.few hQ.tri id) U ?_
 rintro _ w6 j6
 replace j6:=j6.jn U U
 have hkl:(Zh T ids id).length≤40:=Nat.le_trans Pq hQ.few.2
 obtain⟨ak,ck,hvr,_⟩:=j6.own_shape 0 rfl; obtain rfl:=hvr
 have hka:=LO (who:=id) hQ.few.1; have hki:=TE (who:=id) hQ.few.1
 first | refine XB underlying22 U U ?_ | refine Xo 0 j6 underlying22 U U U ?_
 refine Qb U U (Qf (Qc (Qh [1,0,4,26,27,28] U (Qw ?_))))
 have hz0:=j6.pick [1,3,4,0,5] U
 have e0:T=abS T (fun j=>j∈(Zh T ids id).take 0):= by rw[List.take_zero]; exact(CD (T:=T)).symm.trans (Vi fun j=> by simp)
 have hQ0:=hQ; rw[e0]at hQ0
 rw[show Zp a T last=Zp a (abS T (fun j=>j∈(Zh T ids id).take 0)) last from congrArg (fun t=>Zp a t last) e0]at hz0
 refine Xe (fun K0 E0 W0=> ∃(q:Nat) (C1:CeD) (A1:LvA) (ids1:List Int),K0=(Zh T ids id).length -q∧E0=[(0,ptrV a.t 0),(1,intV id),(26,.slice ak (Zh T ids id).length ck),(27,intV ((Zh T ids id).length:Int)),(28,intV (q:Int))]∧Sat W0 [Zp a (abS T (fun j=>j∈(Zh T ids id).take q)) last,Yb a.c C1,Yr a.b p 0 m 0 0 A1,rowT inC (.slice ak (Zh T ids id).length ck) (Zh T ids id),F]∧(q≤(Zh T ids id).length)∧(TQ (abS T (fun j=>j∈(Zh T ids id).take q)) last C1 A1 ids1)∧(ids1.length≤ids.length)) (L0:=[(0,_),(1,_),(26,_),(27,_),(28,_)]) ((Zh T ids id).length) (Ym U U U U U) ⟨0,C,A,ids,rfl,rfl,hz0, by omega,hQ0,Nat.le_refl _⟩ ?_
 rintro _ _ w7 ⟨q,C1,A1,ids1,rfl,rfl,j7,hi,hQ1,hl1⟩
 refine Qe (Qa (Xn U U U (Qf (Qc (Qe (Qt U (fun h8=> ?_) (fun h8=> ?_)))))))
 ·obtain⟨k,hk⟩: ∃k,(Zh T ids id)[q]? =some k:=⟨_,Zd (by omega)⟩
  have hkc:=(hki k).1 (List.mem_of_getElem? hk)
  have hTk:=CR hQ.tri hka hki hk
  obtain⟨nk,hnk,hk0,_⟩:=hkc
  have hkg:=hQ.tri.child_gt ((hki k).1 (List.mem_of_getElem? hk))
  have hkp:=hQ.tri.pos hnk hk0
  refine Qs (Qc (Qe (Qw (Qe (Qa (Xg inC 3 q j7 U U U (by first | rfl | omega) hk Un U ?_))))))
  intro bx9 capx9 hvx9
  refine XY 3 q 0 j7 U hvx9 U U hk QM U U (Qd U U (Qf (Qc (Qa (Qb U U (Qb U U ?_))))))
  refine Q0 EP U (ih (last -k).toNat (by omega) (j7.sp [0,1,2] U) hm hQ1 (by rw[hTk]; exact hnk) hk0 (Nat.le_refl _)) U ?_
  rintro _ w10 ⟨rfl,C2,A2,ids2,hQ2,hl2,j10⟩
  replace j10:=j10.jn U U
  rw[Al hk]at hQ2 j10
  refine Qf (Ql (Qc (Qh [28,27,26,1,0] U (Qa (QK U U (by omega) (by omega) U ?_)))))
  refine Qb U U (Qf ?_)
  exact Q5 (L1:=[(0,_),(1,_),(26,_),(27,_),(28,intV ((q+1:Nat):Int))]) (Ym U U U U U) (k1:=(Zh T ids id).length -(q+1)) (by omega) ⟨q+1,C2,A2,ids2,rfl,rfl,j10.pick [0,1,2,3,4] U, by omega,hQ2,Nat.le_trans hl2 hl1⟩
 refine QT (Qq (Qq (Qy (Qc (Qe ?_)))))
 have hqe:q=(Zh T ids id).length:= by omega
 have e1:(abS T (fun j=>j∈(Zh T ids id).take q))=(abS T (ChildOf T id)):=Vi fun j=> by rw[hqe,List.take_length]; exact hki j
 rw[e1]at hQ1 j7
 have hno: ∀j,¬ChildOf (abS T (ChildOf T id)) id j:=Lz fun j h=>h
 have hTi:(abS T (ChildOf T id)) id=some n0:=(Ta hQ.tri fun j h=>h).trans hn0
 obtain⟨x,hx⟩:=hQ1.ce.get hTi; obtain⟨y,hy,hxp⟩:=hQ1.ce.up h0 hTi hx
 have hky:0≤y.kids∧y.kids≤100000000000:= by have :=hQ1.ce.kid40 hQ1.few hy;omega
 have htA:=hQ1.qu.get h0 hTi
 obtain⟨ids2,hQ2,hl2⟩:=hQ1.del h0 hTi hno hy
 have hlo: ∀ks,Came (XC OneD.ad C1.all) ks→ks.length≤100000000000:= fun ks hk=> by have :=hQ1.few.came (g:=XC OneD.ad C1.all) (fun i hi q=>hi (by unfold XC; rw[(hQ1.ce.dom i).2 q];rfl)) hk;omega
 have j11:=Zk (j7.pick [0,1,2,3,4] U)
 refine Qa (Qb U U (Qi U U (Qg U Uc U (Qo U BF (by first | assumption | exact j11.cell 0 U U) U ?_))))
 refine Qb U U (Q0 cal_35 U (N6 (j11.sp [2] U) hQ1.ce.toCeW hQ1.tri hx h0 hTi hy hky hno hlo) U ?_)
 rintro _ w12 j12
 replace j12:=j12.jn U U
 refine Qf (Qc (Qh [1,0] U (Qe (Qa (Qb U U (Qi U U (Qg U Ub U (Qo U BE (by first | assumption | exact j12.cell 1 U U) U ?_))))))))
 refine Qb U U ?_
 refine Q0 cal_36 U (LG (j12.sp [3] U) (by omega) hm (by omega) htA (hQ1.qu.kids hno) (fun ks h1 h2=> by have :=LvP.len hQ1.qu.toLvP hQ1.few h1 h2;omega)) U ?_
 rintro _ w13 j13
 replace j13:=j13.jn U U
 refine Qf (Qc (Qe (Qa (Qb U U (Qi U U (Qg U Wb U (Qo U J3 (by first | assumption | exact j13.cell 2 U U) U ?_)))))))
 refine Qb U U (WG (k:=id) 3 j13 keysInt underlying58 U U U U ?_)
 intro w14 j14; dsimp only[List.set]at j14; rw[Pk]at j14
 refine Qf (Qc (Mc (L':=[]) .nil (Qe (Qa (Qd U U (Qf (Qc (Qv (QR (.inr U) U U ?_)))))))))
 have hzz:=X1 (T:=QO (abS T (ChildOf T id)) id none) (j14.pick [2,3,1,0,5] U)
 rw[CC]at hQ2 hzz
 exact⟨_,U,U,_,_,ids2,hQ2,Nat.le_trans hl2 hl1,hzz⟩
theorem Ak: ∀kk,AbT kk:= fun kk=> by
  induction kk using Nat.strongRecOn with
  | _ kk ih=> exact fun hS hm hQ id n hn h0 hk=>Fy ih hS hm hQ hn h0 hk
theorem F5 {w:World} {a:TrAd} {T:Nodes} {last:Int} {F:Th} (hS:Sat w [Zp a T last,F]):
    Calls prog 20 #[ptrV a.t 0,intV 0] w (Ret fun v w'=>v=intV 4∧Sat w' [Zp a T last,F]):= by
 replace hS:=Zk hS
 refine Qn func20 U ntmps20 U ?_
 refine Qe (Qa (Qd U U (Qf (Qc (Qe (Qe (Qa (Qb U U (Qi U U (Qg U Wb U (Qo U J3 (by first | assumption | exact hS.cell 0 U U) U ?_)))))))))))
 refine Qb U U (Xj (k:=0) 1 hS keysInt underlying58 U U U Wy (u:= .agg #[intV (nd T 0).id,intV (nd T 0).par,intV (nd T 0).dep,intV (nd T 0).gue,intV (nd T 0).el,.bool (nd T 0).timed,.bool (nd T 0).short]) (g:=(T 0).isSome) (US _) (Mr _) U (Qb U U (Qp U U U (Qp U U U (Xa hS Wy U U ?_)))))
 intro nb w1 j1
 refine Q9 j1 U U Uk U (by first | rfl | (simp [QV,Value.oneCell'];done)) (i:=0) U (by first | decide | exact Q7 U) ?_
 intro w2 hS2a; dsimp only[List.set]at hS2a
 have j2:Sat w2 (QE nb [intV (nd T 0).id,intV (nd T 0).par,intV (nd T 0).dep,intV (nd T 0).gue,intV (nd T 0).el,.bool (nd T 0).timed,.bool (nd T 0).short]::_):=hS2a; clear hS2a
 refine Qd U U (Qf (Qc (Qh [1,0,4,6] U (Qe (Qa (Qb U U (QU U U (Qb U U (Xw 20 U (fun h3=> ?_) (fun h3=> ?_))))))))))
 ·exact Qk U U h3 U (Qk U U h3 U (QN U h3 U U (Qf (Qc (XD U (Qe (Qa (Qd U U (Qf (Qc (Qv (Qr (QR (.inr U) U U (⟨_,U,U,X1 (j2.pick [1,2,3] U)⟩))))))))))))))
 refine Qj U U h3 (Qb U U (Qj U U h3 (Xc U U U (QC U h3 U U (Qf (Qc (Qt U (fun h4=> ?_) (fun h4=> ?_))))))))
 ·exact Qe (Qa (Qd U U (Qf (Qc (Qv (Qr (QR (.inr U) U U (⟨_,U,U,X1 (j2.pick [1,2,3] U)⟩))))))))
 exact absurd U h4
theorem N3 {w:World} {a:TrAd} {T:Nodes} {last:Int} {F:Th} (hS:Sat w [Zp a T last,F]):
    Calls prog 16 #[ptrV a.t 0,intV 0] w (Ret fun v w'=>v=intV 4∧Sat w' [Zp a T last,F]):= by
 replace hS:=Zk hS
 refine Qn func16 U ntmps16 U ?_
 refine Qe (Qa (Qd U U (Qf (Qc (Qe (Qa (Qb U U (Qi U U (Qg U Wb U (Qo U J3 (by first | assumption | exact hS.cell 0 U U) U ?_))))))))))
 refine Qb U U (Xj (k:=0) 1 hS keysInt underlying58 U U U Wy (u:= .agg #[intV (nd T 0).id,intV (nd T 0).par,intV (nd T 0).dep,intV (nd T 0).gue,intV (nd T 0).el,.bool (nd T 0).timed,.bool (nd T 0).short]) (g:=(T 0).isSome) (US _) (Mr _) U (Qb U U (Qp U U U (Qp U U U (Xa hS Wy U U ?_)))))
 intro nb w1 j1
 refine Q9 j1 U U Uk U (by first | rfl | (simp [QV,Value.oneCell'];done)) (i:=0) U (by first | decide | exact Q7 U) ?_
 intro w2 hS2a; dsimp only[List.set]at hS2a
 have j2:Sat w2 (QE nb [intV (nd T 0).id,intV (nd T 0).par,intV (nd T 0).dep,intV (nd T 0).gue,intV (nd T 0).el,.bool (nd T 0).timed,.bool (nd T 0).short]::_):=hS2a; clear hS2a
 refine Qd U U (Qf (Qc (Qh [1,0,4,5,6] U (Qe (Qw (Qe (Qa (Qb U U (QU U U (Qb U U (Xw 20 U (fun h3=> ?_) (fun h3=> ?_))))))))))))
 ·exact Qk U U h3 U (Qk U U h3 U (QN U h3 U U (Qd U U (Qf (Qc (Qh [1,0,4,5,17] U (XD U (Qe (Qa (Qd U U (Qf (Qc (Qv (Q1 (Qr (QR (.inr U) U U (⟨_,U,U,X1 (j2.pick [1,2,3] U)⟩)))))))))))))))))
 refine Qj U U h3 (Qb U U (Qj U U h3 (Xc U U U (QC U h3 U U (Qd U U (Qf (Qc (Qh [1,0,4,5,17] U (Qt U (fun h4=> ?_) (fun h4=> ?_))))))))))
 ·exact Qe (Qa (Qd U U (Qf (Qc (Qv (Q1 (Qr (QR (.inr U) U U (⟨_,U,U,X1 (j2.pick [1,2,3] U)⟩)))))))))
 exact absurd U h4
