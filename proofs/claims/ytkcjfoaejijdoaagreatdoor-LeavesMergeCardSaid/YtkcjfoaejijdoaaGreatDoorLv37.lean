/- laws of leaves: calls, plain -/
import Derived.Test.YtkcjfoaejijdoaaGreatDoorLv30
import Derived.Test.YtkcjfoaejijdoaaGreatDoorFw
import Derived.Test.YtkcjfoaejijdoaaGreatDoorSk
set_option linter.unusedSectionVars false
set_option linter.unusedVariables false
set_option maxRecDepth 100000
set_option maxHeartbeats 80000000000
namespace Go.Proofs.YtkcjfoaejijdoaaGreatDoor
open Go.RowKit M Proofs.Tryz
variable [Inhabited SlW]
structure AcL where
  dk:Int
  idn:Int
  ob:Bs
  to:Bs
  first:Int
  n:Int
  at_:Int
  bb:Int
def ED (x:AcL):List Value:=[intV x.dk,intV x.idn,strV x.ob,strV x.to,intV x.first,intV x.n,intV x.at_,intV x.bb]
def acLC:RowC AcL:=⟨ED,8, by decide, fun _=>rfl, fun _=>rfl⟩
def b8 (a:Int):UInt8:=UInt8.ofNat (a%256).toNat
theorem BM (a:Int):IntKind.u8.wrap a=((b8 a).toNat:Int):= by
  rw[wrapU8]
  unfold b8
  simp
  omega
def FewL (x:AcL):Prop:=x.ob.length≤20∧x.to.length≤20∧x.n≤300∧ -2147483648≤x.first∧x.first≤2147483648∧ -2147483648≤x.at_∧x.at_≤2147483648∧ -2147483648≤x.n
noncomputable def rdU (b:KD→Bs) (t:TrA) (ob:Bs) (a:Int):TrA:= if 0≤a∧a<16384 then Hk t (ob,a/ 64) (rdX (Wr b t (ob,a/ 64)) (a%64))else t
noncomputable def wrU (b:KD→Bs) (t:TrA) (ob:Bs) (a:Int) (v:UInt8):TrA:= if 0≤a∧a<16384 then Hk t (ob,a/ 64) (wrX (Wr b t (ob,a/ 64)) (a%64) v)else t
noncomputable def wrPU (P:KD→Bs) (ob:Bs) (a:Int) (v:UInt8):KD→Bs:= if 0≤a∧a<16384 then UV P (ob,a/ 64) ((P (ob,a/ 64)).set (a%64).toNat v)else P
noncomputable def cpPU (P:KD→Bs) (ob:Bs) (fi n:Int) (to:Bs) (at_:Int):KD→Bs:= fun k=> if k.1=to∧at_+max 0 (-at_)≤k.2∧k.2<at_+max 0 (-at_)+(NG n at_:Int)then(if 0≤fi+k.2 -at_∧fi+k.2 -at_<256 then P (ob,fi+k.2 -at_)else zer)else P k
noncomputable def drPU (P:KD→Bs) (ob:Bs):KD→Bs:=WE (fun j=>j.1=ob) zer P
section
variable {A:LvA} {id p:Int} {b:KD→Bs} {t:TrA} {ob nm to:Bs} {W:WS} {P:KD→Bs} {k:KD} {a:Int} {v:UInt8} {q d:Nat}
theorem VisT.rdU (h:VisT b t W):VisT b (rdU b t ob a) W:= by
  unfold Go.Proofs.YtkcjfoaejijdoaaGreatDoor.rdU
  split
  · exact h.rd
  · exact h
theorem VisT.wrU (h:VisT b t W):VisT b (wrU b t nm a v) (Yb W nm a v):= by
  unfold Go.Proofs.YtkcjfoaejijdoaaGreatDoor.wrU
  by_cases e:0≤a∧a<16384
  · rw[if_pos e]; exact h.wr e
  · rw[if_neg e]
    unfold Yb
    rw[if_neg e]
    exact h
theorem TrK.rdU (h:TrK b t q d):TrK b (Go.Proofs.YtkcjfoaejijdoaaGreatDoor.rdU b t ob a) q d:= by
  unfold Go.Proofs.YtkcjfoaejijdoaaGreatDoor.rdU
  split
  · exact h.rdX
  · exact h
theorem PartLe.up {q':Nat} (h:PartLe t q) (hq:q≤q'):PartLe t q':= by
  obtain⟨l,a,c⟩:=h
  exact⟨l, by omega,c⟩
theorem DrLe.up {d':Nat} (h:DrLe t d) (hq:d≤d'):DrLe t d':= by
  obtain⟨l,a,c⟩:=h
  exact⟨l, by omega,c⟩
theorem TrK.up {q' d':Nat} (h:TrK b t q d) (hq:q≤q') (hd:d≤d'):TrK b t q' d':=⟨h.rd,h.dr,h.pt.up hq,h.dl.up hd⟩
theorem TrK.wrU (h:TrK b t q d):TrK b (Go.Proofs.YtkcjfoaejijdoaaGreatDoor.wrU b t ob a v) (q+1) d:= by
  unfold Go.Proofs.YtkcjfoaejijdoaaGreatDoor.wrU
  split
  · exact h.wrX
  · exact h.up (by omega) (by omega)
theorem VisP.wrU (h:VisP P W):VisP (wrPU P nm a v) (Yb W nm a v):= fun m q=> by
  unfold wrPU
  by_cases e:0≤a∧a<16384
  · rw[if_pos e,KO m q a v e]
    by_cases e2:(m,q)=(nm,a/ 64)
    · obtain⟨e3,e4⟩:=Prod.mk.inj e2
      rw[e2,XF,if_pos ⟨e3,e4⟩,h nm (a/ 64)]
    · rw[XQ e2,if_neg fun z=>e2 (by rw[z.1,z.2])]
      exact h m q
  · rw[if_neg e]
    unfold Yb
    rw[if_neg e]
    exact h m q
theorem VisP.copy (h:VisP P W) (hI:PagesOk W.objs) {fi n at_:Int}:VisP (cpPU P ob fi n to at_) (Td W ob fi n to at_):= fun m q=> by
  unfold cpPU
  rw[KQ hI]
  dsimp only
  by_cases e:m=to∧at_+max 0 (-at_)≤q∧q<at_+max 0 (-at_)+(NG n at_:Int)
  · rw[if_pos e,if_pos e]
    by_cases r:0≤fi+q -at_∧fi+q -at_<256
    · rw[if_pos r,if_pos r]; exact h ob _
    · rw[if_neg r,if_neg r]
  · rw[if_neg e,if_neg e]; exact h m q
theorem VisP.drp (h:VisP P W):VisP (drPU P nm) (Bg W nm):= fun m q=> by
  unfold drPU WE
  rw[KP]
  dsimp only
  by_cases e:m=nm
  · rw[if_pos e,if_pos e]
  · rw[if_neg e,if_neg e]; exact h m q
theorem IV (h:VisT b t W):(if 0≤a∧a<16384 then Ph (YD t (b (ob,a/ 64)) (ob,a/ 64)) (a%64)else 0)=Ti W ob a:= by
  unfold Ti Ph
  rw[h ob (a/ 64)]
  rfl
theorem IW (h:VisP P W):(if 0≤a∧a<16384 then Ph (P (ob,a/ 64)) (a%64)else 0)=Ti W ob a:= by
  unfold Ti Ph
  rw[h ob (a/ 64)]
  rfl
end
def J8 (x:AcL):Int:=x.dk%14
noncomputable def YY (b:KD→Bs) (t:TrA) (x:AcL):TrA:= if J8 x=0∨J8 x=1∨J8 x=2∨J8 x=7∨J8 x=8 then rdU b t x.ob x.at_ else if J8 x=5∨J8 x=11 then KY b t x.ob x.first x.n x.to x.at_ else if J8 x=6 then DN t x.ob else wrU b t x.ob x.at_ (b8 x.bb)
noncomputable def Rp (P:KD→Bs) (x:AcL):KD→Bs:= if J8 x=0∨J8 x=1∨J8 x=2∨J8 x=7∨J8 x=8 then P else if J8 x=5∨J8 x=11 then cpPU P x.ob x.first x.n x.to x.at_ else if J8 x=6 then drPU P x.ob else wrPU P x.ob x.at_ (b8 x.bb)
def Vg (W:WS) (x:AcL):WS:= if J8 x=0∨J8 x=1∨J8 x=2∨J8 x=7∨J8 x=8 then W else if J8 x=5∨J8 x=11 then Td W x.ob x.first x.n x.to x.at_ else if J8 x=6 then Bg W x.ob else Yb W x.ob x.at_ (b8 x.bb)
section
variable {b:KD→Bs} {t:TrA} {W:WS} {P:KD→Bs} {x:AcL} {q d:Nat}
theorem UA (h:J8 x=0∨J8 x=1∨J8 x=2∨J8 x=7∨J8 x=8):YY b t x=rdU b t x.ob x.at_∧Rp P x=P∧Vg W x=W:= by unfold YY Rp Vg; rw[if_pos h,if_pos h,if_pos h]; exact⟨rfl,rfl,rfl⟩
theorem VP (h:J8 x=5∨J8 x=11):YY b t x=KY b t x.ob x.first x.n x.to x.at_∧Rp P x=cpPU P x.ob x.first x.n x.to x.at_∧Vg W x=Td W x.ob x.first x.n x.to x.at_:= by
  have h1: ¬(J8 x=0∨J8 x=1∨J8 x=2∨J8 x=7∨J8 x=8):= by omega
  unfold YY Rp Vg; rw[if_neg h1,if_neg h1,if_neg h1,if_pos h,if_pos h,if_pos h]; exact⟨rfl,rfl,rfl⟩
theorem VO (h:J8 x=6):YY b t x=DN t x.ob∧Rp P x=drPU P x.ob∧Vg W x=Bg W x.ob:= by
  have h1: ¬(J8 x=0∨J8 x=1∨J8 x=2∨J8 x=7∨J8 x=8):= by omega
  have h2: ¬(J8 x=5∨J8 x=11):= by omega
  unfold YY Rp Vg; rw[if_neg h1,if_neg h1,if_neg h1,if_neg h2,if_neg h2,if_neg h2,if_pos h,if_pos h,if_pos h]; exact⟨rfl,rfl,rfl⟩
theorem VN (h1: ¬(J8 x=0∨J8 x=1∨J8 x=2∨J8 x=7∨J8 x=8)) (h2: ¬(J8 x=5∨J8 x=11)) (h3: ¬J8 x=6):YY b t x=wrU b t x.ob x.at_ (b8 x.bb)∧Rp P x=wrPU P x.ob x.at_ (b8 x.bb)∧Vg W x=Yb W x.ob x.at_ (b8 x.bb):= by
  unfold YY Rp Vg; rw[if_neg h1,if_neg h1,if_neg h1,if_neg h2,if_neg h2,if_neg h2,if_neg h3,if_neg h3,if_neg h3]; exact⟨rfl,rfl,rfl⟩
theorem Ro (x:AcL):(J8 x=0∨J8 x=1∨J8 x=2∨J8 x=7∨J8 x=8)∨(J8 x=5∨J8 x=11)∨J8 x=6∨(¬(J8 x=0∨J8 x=1∨J8 x=2∨J8 x=7∨J8 x=8)∧ ¬(J8 x=5∨J8 x=11)∧ ¬J8 x=6):= by omega
theorem VisT.step (h:VisT b t W) (hI:PagesOk W.objs):VisT b (YY b t x) (Vg W x):= by
  rcases Ro x with e | e | e | ⟨e1,e2,e3⟩
  · rw[(UA (b:=b) (t:=t) (P:=b) (W:=W) e).1,(UA (b:=b) (t:=t) (P:=b) (W:=W) e).2.2]; exact h.rdU
  · rw[(VP (b:=b) (t:=t) (P:=b) (W:=W) e).1,(VP (b:=b) (t:=t) (P:=b) (W:=W) e).2.2]; exact h.copy hI
  · rw[(VO (b:=b) (t:=t) (P:=b) (W:=W) e).1,(VO (b:=b) (t:=t) (P:=b) (W:=W) e).2.2]; exact h.drp
  · rw[(VN (b:=b) (t:=t) (P:=b) (W:=W) e1 e2 e3).1,(VN (b:=b) (t:=t) (P:=b) (W:=W) e1 e2 e3).2.2]; exact h.wrU
theorem VisP.step (h:VisP P W) (hI:PagesOk W.objs):VisP (Rp P x) (Vg W x):= by
  rcases Ro x with e | e | e | ⟨e1,e2,e3⟩
  · rw[(UA (b:=P) (t:=⟨0, fun _=>none, fun _=>false⟩) (P:=P) (W:=W) e).2.1,(UA (b:=P) (t:=⟨0, fun _=>none, fun _=>false⟩) (P:=P) (W:=W) e).2.2]; exact h
  · rw[(VP (b:=P) (t:=⟨0, fun _=>none, fun _=>false⟩) (P:=P) (W:=W) e).2.1,(VP (b:=P) (t:=⟨0, fun _=>none, fun _=>false⟩) (P:=P) (W:=W) e).2.2]; exact h.copy hI
  · rw[(VO (b:=P) (t:=⟨0, fun _=>none, fun _=>false⟩) (P:=P) (W:=W) e).2.1,(VO (b:=P) (t:=⟨0, fun _=>none, fun _=>false⟩) (P:=P) (W:=W) e).2.2]; exact h.drp
  · rw[(VN (b:=P) (t:=⟨0, fun _=>none, fun _=>false⟩) (P:=P) (W:=W) e1 e2 e3).2.1,(VN (b:=P) (t:=⟨0, fun _=>none, fun _=>false⟩) (P:=P) (W:=W) e1 e2 e3).2.2]; exact h.wrU
theorem TrK.step (h:TrK b t q d):TrK b (YY b t x) (q+1) (d+1):= by
  rcases Ro x with e | e | e | ⟨e1,e2,e3⟩
  · rw[(UA (b:=b) (t:=t) (P:=b) (W:=TN) e).1]; exact h.rdU.up (by omega) (by omega)
  · rw[(VP (b:=b) (t:=t) (P:=b) (W:=TN) e).1]; exact h.copy.up (by omega) (by omega)
  · rw[(VO (b:=b) (t:=t) (P:=b) (W:=TN) e).1]; exact h.drp.up (by omega) (by omega)
  · rw[(VN (b:=b) (t:=t) (P:=b) (W:=TN) e1 e2 e3).1]; exact h.wrU.up (by omega) (by omega)
end
section
variable {P:Program} {n:Nat} {ops:Array Oper} {Q:Exit→Act→World→Prop} {rest:List Oper} {L:Env} {w:World} {d:Nat} {ty:TypeId} {pos:String} {aft:Array Edge} {x y:Operand} {t t2:TypeId}
theorem wl_remT {a b:Int} (hx:M.look L x=some (.int .i64 a)) (hy:M.look L y=some (.int .i64 b)) (hb:0<b∧b≤1000) (hd:Nat.blt d n=true) (hk:wl P n ops Q rest ((d,.int .i64 (a.tmod b))::L) w):wl P n ops Q (⟨some d,.binOp .rem t x y t2,ty,pos,aft,none⟩::rest) L w:=
  X8 hd (fun ρ hρ=> by
    have hb':b≠0:= by omega
    have h1:=Int.tmod_lt_of_pos a hb.1
    have h2:=Int.lt_tmod_of_pos a hb.1
    have e:IntKind.i64.wrap (a.tmod b)=a.tmod b:=wrap64 (by omega) (by omega)
    simp [execOp,hρ _ _ hx,hρ _ _ hy,eqGuard,binOp,Op.intDiv,hb',e]) hk
end
theorem SC {n m:Int} (hm:0<m):n%m= if n.tmod m<0 then n.tmod m+m else n.tmod m:= by
  rw[Int.tmod_eq_emod]
  have h1:=Int.emod_nonneg n (by omega:m≠0)
  have h2:=Int.emod_lt_of_pos n hm
  split
  · rw[if_neg (by omega)];omega
  · rename_i h
    rw[Int.natAbs_of_nonneg (by omega)]
    by_cases h3:n%m -m<0
    · rw[if_pos h3];omega
    · omega
theorem SA {w:World} {F:Th} (hS:Sat w [F]) (n m:Int) (hm:0<m∧m≤1000):
    Calls prog 19 #[intV n,intV m] w (Ret fun v w'=>v=intV (n%m)∧Sat w' [F]):= by
 refine Qm func19 U ntmps19 U ?_
 have hm1:=Int.tmod_lt_of_pos n hm.1
 have hm2:=Int.lt_tmod_of_pos n hm.1
 refine Qd (Qa (Qe U U (Qf (Qc (Qd (Qa (Qb U U (Qb U U (wl_remT U U hm U (Qe U U (Qf (Qc (Ts (fun E0 W0=>E0=[(0,intV (n%m))]∧Sat W0 [F]) ?_ ?_)))))))))))))
 ·refine Qd (Qa (Qb U U (Xk U U U (Qf (Qc (Qt U (fun h2=> ?_) (fun h2=> ?_)))))))
  ·refine Qa (Qb U U (Qb U U (QO U U (by omega) (by omega) U ?_)))
   exact Qe U U (Qf (UD (L':=[(0,_)]) (zb1 U) ⟨by rw[SC (n:=n) hm.1,if_pos (by assumption)],hS⟩))
  exact Qs (UD (L':=[(0,_)]) (zb1 U) ⟨by rw[SC (n:=n) hm.1,if_neg (by assumption)],hS⟩)
 rintro _ w1 ⟨rfl,j1⟩
 exact Qd (Qa (Qb U U (Qe U U (Qf (Qc (Qu (QY (.inr U) U U (⟨_,U,U,j1⟩))))))))
def Bc (x:AcL):Bool:=decide (x.ob.length≤20)&&decide (x.to.length≤20)&&decide (x.n≤300)&&decide (-2147483648≤x.first)&&decide (x.first≤2147483648)&&decide (-2147483648≤x.at_)&&decide (x.at_≤2147483648)&&decide (-2147483648≤x.n)
def N2 (l:List AcL) (n:Int):Bool:=l.all Bc&&decide ((l.length:Int)≤n)
theorem Hd {l:List AcL} {n:Int} {i:Nat} {x:AcL} (ha:l[i]? =some x) (h:Bc x=false):Value.bool false= .bool (N2 l n):= by
  have :l.all Bc=false:= by
    rw[List.all_eq_false]; exact⟨x,List.mem_of_getElem? ha, by rw[h]; simp⟩
  simp [N2,this]
theorem If {l:List AcL} {n:Int} {i:Nat} (hok: ∀j a,j<i→l[j]? =some a→Bc a=true) (hi:i≤l.length) (he: ¬i<l.length):Value.bool (decide ((l.length:Int)≤n))= .bool (N2 l n):= by
  have :l.all Bc=true:= by
    rw[List.all_eq_true]; intro a ha
    obtain⟨j,hj⟩:=List.mem_iff_getElem?.1 ha
    exact hok j a (by have :=(Zb hj).1;omega) hj
  simp only[N2,this,Bool.true_and]
theorem okL_is {x:AcL} (h:Bc x=true):FewL x:= by
  simp only[Bc,Bool.and_eq_true,decide_eq_true_eq]at h
  unfold FewL
  omega
theorem fewL_is {l:List AcL} {n:Int} (h:N2 l n=true):(l.length:Int)≤n∧ ∀(i:Nat) (x:AcL),l[i]? =some x→FewL x:= by
  simp only[N2,Bool.and_eq_true,List.all_eq_true,decide_eq_true_eq]at h
  exact⟨h.2, fun i x hx=>okL_is (h.1 x (List.mem_of_getElem? hx))⟩
theorem xb_norm {w:World} {xb:Nat} {x:AcL} {As:List Th} (h:Sat w (Q8 xb (Value.agg (ED x).toArray).cells.toList::As)):Sat w (Q8 xb [intV x.dk,intV x.idn,strV x.ob,strV x.to,intV x.first,intV x.n,intV x.at_,intV x.bb]::As):=h
theorem few_sp {w:World} {F:Th} (hS:Sat w [F]) {lv:Value} {l:List AcL} (hL:Ent F (RdL acLC lv l)) (n:Int):
    Calls prog 17 #[lv,intV n] w (Ret fun v w'=>v= .bool (N2 l n)∧Sat w' [F]):= by
 obtain⟨ao,cap,rfl,hmax⟩:=(hL.sat hS 0 rfl).shape
 refine Qm func17 U ntmps17 U ?_
 refine Qd (Qa (Qe U U (Qf (Qc (Qd (Qd (Qa (Qe U U (Qf (Qc (Qw ?_)))))))))))
 refine Xg (fun K0 E0 W0=> ∃(i:Nat),K0=l.length -i∧E0=[(0,.slice ao l.length cap),(1,intV n),(5,intV (i:Int))]∧Sat W0 [F]∧(i≤l.length)∧(∀j a,j<i→l[j]? =some a→Bc a=true)) (L0:=[(0,_),(1,_),(5,_)]) (l.length -0) (Rg U U U) ⟨0,rfl,rfl,hS, by omega, by omega⟩ ?_
 rintro _ _ w1 ⟨i,rfl,rfl,j1,hi,hok⟩
 refine Qd (Qd (Qa (Qb U U (Qb U U (X7 underlying36 U U (Xk U U U (Qf (Qc (Qt U (fun h2=> ?_) (fun h2=> ?_))))))))))
 ·obtain⟨x,ha⟩: ∃x,l[i]? =some x:=⟨_,Zq (by omega)⟩
  obtain⟨bq,off,rfl,_⟩:=(hL.sat j1 0 rfl).get ha
  have hil:=(Zb ha).1
  refine Qs (Qc (Qd (Qw (Qd (Qa (Qb U U (Qb U U (Z2 i U U (by rfl) (by omega) Im U ?_))))))))
  refine VE U ag_43 Ab (vs:=ED x) ((hL.sat j1 0 U).at_ ha) U (Xa j1 zr_43 U U ?_)
  intro xb wk3 hk3
  refine QG hk3 U U Ab U (by rfl) (i:=0) U (by decide) ?_
  intro wk4 hk4; dsimp only[List.set]at hk4
  clear hk3
  replace hk4:=xb_norm (x:=x) hk4
  refine Qf (Qc (Qh [5,1,0,6] U (Qd (Qa (Qg U Hx U (Qr U W9 (hk4.cell 0 U U) U (WT underlying9 U U (YF U U U (Qb U U (Xc 21 U (fun h5=> ?_) (fun h5=> ?_)))))))))))
  ·have hoo:Bc x=false:= by unfold Bc; simp;omega
   exact Qi U U (Xm h5) U (Qi U U (Xm h5) U (Qi U U (Xm h5) U (Qi U U (Xm h5) U (QK U (Xm h5) U U (Qb U U (Qi U U U U (Qi U U U U (Qi U U U U (QK U U U U (Qb U U (Qi U U U U (Qi U U U U (Qi U U U U (QK U U U U (Qb U U (Qi U U U U (Qi U U U U (Qi U U U U (QK U U U U (Qb U U (Qi U U U U (Qi U U U U (Qi U U U U (QK U U U U (Qb U U (Qi U U U U (Qi U U U U (Qi U U U U (QK U U U U (Qb U U (Qi U U U U (Qi U U U U (Qi U U U U (QK U U U U (Qf (Qc (Qh [5,1,0,56] U (Xd U (Qd (Qa (Qe U U (Qf (Qc (Qu (Qz (Qp (Qp (Qz (Qp (QY (.inr U) U U (⟨_,U,Hd ha hoo,hk4.pick [1] U⟩)))))))))))))))))))))))))))))))))))))))))))))))))))
  refine Qo U U (Q7 h5) (Qg U Fe U (Qo U U (Q7 h5) (Qr U W9 (hk4.cell 0 U U) U (Qo U U (Q7 h5) (WT underlying9 U U (Qo U U (Q7 h5) (YF U U U (QW U (Q7 h5) U U (Qb U U (Xc 27 U (fun h6=> ?_) (fun h6=> ?_)))))))))))
  ·have hoo:Bc x=false:= by unfold Bc; simp;omega
   exact Qi U U (Xm h6) U (Qi U U (Xm h6) U (Qi U U (Xm h6) U (QK U (Xm h6) U U (Qb U U (Qi U U U U (Qi U U U U (Qi U U U U (QK U U U U (Qb U U (Qi U U U U (Qi U U U U (Qi U U U U (QK U U U U (Qb U U (Qi U U U U (Qi U U U U (Qi U U U U (QK U U U U (Qb U U (Qi U U U U (Qi U U U U (Qi U U U U (QK U U U U (Qb U U (Qi U U U U (Qi U U U U (Qi U U U U (QK U U U U (Qf (Qc (Qh [5,1,0,56] U (Xd U (Qd (Qa (Qe U U (Qf (Qc (Qu (Qz (Qp (Qp (Qz (Qp (QY (.inr U) U U (⟨_,U,Hd ha hoo,hk4.pick [1] U⟩)))))))))))))))))))))))))))))))))))))))))))))
  refine Qo U U (Q7 h6) (Qg U RI U (Qo U U (Q7 h6) (Qr U QL (hk4.cell 0 U U) U (Qo U U (Q7 h6) (YF U U U (QW U (Q7 h6) U U (Qb U U (Xc 32 U (fun h7=> ?_) (fun h7=> ?_)))))))))
  ·have hoo:Bc x=false:= by unfold Bc; simp;omega
   exact Qi U U (Xm h7) U (Qi U U (Xm h7) U (Qi U U (Xm h7) U (QK U (Xm h7) U U (Qb U U (Qi U U U U (Qi U U U U (Qi U U U U (QK U U U U (Qb U U (Qi U U U U (Qi U U U U (Qi U U U U (QK U U U U (Qb U U (Qi U U U U (Qi U U U U (Qi U U U U (QK U U U U (Qb U U (Qi U U U U (Qi U U U U (Qi U U U U (QK U U U U (Qf (Qc (Qh [5,1,0,56] U (Xd U (Qd (Qa (Qe U U (Qf (Qc (Qu (Qz (Qp (Qp (Qz (Qp (QY (.inr U) U U (⟨_,U,Hd ha hoo,hk4.pick [1] U⟩))))))))))))))))))))))))))))))))))))))))
  refine Qo U U (Q7 h7) (Qg U BD U (Qo U U (Q7 h7) (Qr U QL (hk4.cell 0 U U) U (Qo U U (Q7 h7) (Xk U U U (QW U (Q7 h7) U U (Qb U U (Xc 37 U (fun h8=> ?_) (fun h8=> ?_)))))))))
  ·have hoo:Bc x=false:= by unfold Bc; simp;omega
   exact Qi U U (Xm h8) U (Qi U U (Xm h8) U (Qi U U (Xm h8) U (QK U (Xm h8) U U (Qb U U (Qi U U U U (Qi U U U U (Qi U U U U (QK U U U U (Qb U U (Qi U U U U (Qi U U U U (Qi U U U U (QK U U U U (Qb U U (Qi U U U U (Qi U U U U (Qi U U U U (QK U U U U (Qf (Qc (Qh [5,1,0,56] U (Xd U (Qd (Qa (Qe U U (Qf (Qc (Qu (Qz (Qp (Qp (Qz (Qp (QY (.inr U) U U (⟨_,U,Hd ha hoo,hk4.pick [1] U⟩)))))))))))))))))))))))))))))))))))
  refine Qo U U (Q7 h8) (Qg U BD U (Qo U U (Q7 h8) (Qr U QL (hk4.cell 0 U U) U (Qo U U (Q7 h8) (YF U U U (QW U (Q7 h8) U U (Qb U U (Xc 42 U (fun h9=> ?_) (fun h9=> ?_)))))))))
  ·have hoo:Bc x=false:= by unfold Bc; simp;omega
   exact Qi U U (Xm h9) U (Qi U U (Xm h9) U (Qi U U (Xm h9) U (QK U (Xm h9) U U (Qb U U (Qi U U U U (Qi U U U U (Qi U U U U (QK U U U U (Qb U U (Qi U U U U (Qi U U U U (Qi U U U U (QK U U U U (Qf (Qc (Qh [5,1,0,56] U (Xd U (Qd (Qa (Qe U U (Qf (Qc (Qu (Qz (Qp (Qp (Qz (Qp (QY (.inr U) U U (⟨_,U,Hd ha hoo,hk4.pick [1] U⟩))))))))))))))))))))))))))))))
  refine Qo U U (Q7 h9) (Qg U Ua U (Qo U U (Q7 h9) (Qr U QL (hk4.cell 0 U U) U (Qo U U (Q7 h9) (Xk U U U (QW U (Q7 h9) U U (Qb U U (Xc 47 U (fun h10=> ?_) (fun h10=> ?_)))))))))
  ·have hoo:Bc x=false:= by unfold Bc; simp;omega
   exact Qi U U (Xm h10) U (Qi U U (Xm h10) U (Qi U U (Xm h10) U (QK U (Xm h10) U U (Qb U U (Qi U U U U (Qi U U U U (Qi U U U U (QK U U U U (Qf (Qc (Qh [5,1,0,56] U (Xd U (Qd (Qa (Qe U U (Qf (Qc (Qu (Qz (Qp (Qp (Qz (Qp (QY (.inr U) U U (⟨_,U,Hd ha hoo,hk4.pick [1] U⟩)))))))))))))))))))))))))
  refine Qo U U (Q7 h10) (Qg U Ua U (Qo U U (Q7 h10) (Qr U QL (hk4.cell 0 U U) U (Qo U U (Q7 h10) (YF U U U (QW U (Q7 h10) U U (Qb U U (Xc 52 U (fun h11=> ?_) (fun h11=> ?_)))))))))
  ·have hoo:Bc x=false:= by unfold Bc; simp;omega
   exact Qi U U (Xm h11) U (Qi U U (Xm h11) U (Qi U U (Xm h11) U (QK U (Xm h11) U U (Qf (Qc (Qh [5,1,0,56] U (Xd U (Qd (Qa (Qe U U (Qf (Qc (Qu (Qz (Qp (Qp (Qz (Qp (QY (.inr U) U U (⟨_,U,Hd ha hoo,hk4.pick [1] U⟩))))))))))))))))))))
  refine Qo U U (Q7 h11) (Qg U RI U (Qo U U (Q7 h11) (Qr U QL (hk4.cell 0 U U) U (Qo U U (Q7 h11) (Xk U U U (QW U (Q7 h11) U U (Qf (Qc (Qh [5,1,0,56] U (Qt U (fun h12=> ?_) (fun h12=> ?_)))))))))))
  ·have hoo:Bc x=false:= by(unfold Bc; simp;omega)
   exact Qd (Qa (Qe U U (Qf (Qc (Qu (Qz (Qp (Qp (Qz (Qp (QY (.inr U) U U (⟨_,U,Hd ha hoo,hk4.pick [1] U⟩))))))))))))
  have hoo:Bc x=true:= by unfold Bc; simp;omega
  refine Qs (Qk (Qc (Qa (Qb U U (QO U U (by omega) (by omega) U ?_)))))
  refine Qe U U (Qf ?_)
  exact Q3 (L1:=[(0,_),(1,_),(5,intV ((i+1:Nat):Int))]) (Rg U U U) (k1:=l.length -(i+1)) (by omega) ⟨i+1,rfl,rfl,hk4.pick [1] U, by omega, fun j b hj hb=> by by_cases e:j=i;(subst e; rw[ha]at hb; cases hb; exact hoo); exact hok j b (by omega) hb⟩
 exact QU (Qq (Qq (Qx (Qc (Qd (Qa (Qb U U (X7 underlying36 U U (Qb U U (ET U U U (Qe U U (Qf (Qc (Qh [4] U (Qu (QY (.inr U) U U (⟨_,rfl,If hok hi (by omega),j1.pick [0] U⟩)))))))))))))))))
theorem CD {l m:List Bs} (h:l.Perm m):ZK l=ZK m:= by
  have hs: ∀x:List Bs,(ZK x).Pairwise (fun a b=>a≤b):= fun x=> by
    have :=List.pairwise_mergeSort (le:= fun a b:Bs=>decide (a≤b)) (fun a b c h1 h2=> by
      simp only[decide_eq_true_eq]at *
      exact List.le_trans h1 h2) (fun a b=> by
      simp only[Bool.or_eq_true,decide_eq_true_eq]
      exact List.le_total a b) x
    exact this.imp fun h=> by simpa using h
  exact List.Perm.eq_of_pairwise (le:= fun a b=>a≤b) (fun a b _ _ h1 h2=>List.le_antisymm h1 h2) (hs l) (hs m) (((HH l).trans h).trans (HH m).symm)
theorem perm_of {l m:List Bs} (hl:l.Nodup) (hm:m.Nodup) (h: ∀x,x∈l↔x∈m):l.Perm m:=(List.perm_ext_iff_of_nodup hl hm).2 h
def Bj (c:KD→Bs) (t:TrA) (k:KD):Bs:= match t.lv k with
  | some x=>R7 (c k) x.own x.wr
  | none=> if t.dr k.1=true then zer else c k
def AL (t:TrA):Prop:= ∀k x,t.lv k=some x→Pe x∧x.own.length=64
def ValT (c:KD→Bs) (t:TrA):Prop:= ∀k x,t.lv k=some x→ ∀j,j<64→x.rd.getLsbD j=true→x.base[j]? =(c k)[j]?
def Bn (c:KD→Bs):Prop:= ∀k,(c k).length=64
theorem St:zer.length=64:=rfl
section
variable {b c:KD→Bs} {t:TrA} {k:KD} {y o:LfA} {ob nm to:Bs} {p0 base a:Int} {f:Nat→Bs} {W:WS} {v:UInt8} {x:AcL}
theorem CN (h:AL t) (hb:Bn b):(YD t (b k) k).length=64:= by
  unfold YD
  cases hx:t.lv k with
  | some x=> exact(h k x hx).2
  | none=>
    dsimp only
    split
    · rfl
    · exact hb k
theorem AL.tou (h:AL t) (hb:Bn b):Pe (Wr b t k)∧(Wr b t k).own.length=64:= by
  refine⟨?_, by rw[Ul]; exact CN h hb⟩
  unfold Wr
  cases hx:t.lv k with
  | some x=> exact(h k x hx).1
  | none=> exact fun j hj hw=>rfl
theorem AL.put (h:AL t) (hy:Pe y∧y.own.length=64):AL (Hk t k y):= fun j x hx=> by
  have hx':Xu t.lv k (some y) j=some x:=hx
  by_cases e:j=k
  · subst e
    rw[Qy]at hx'
    cases hx'
    exact hy
  · rw[QF e]at hx'
    exact h j x hx'
theorem AL.drp (h:AL t):AL (DN t ob):= fun j x hx=> by
  have hx':Z1 (fun j=>j.1=ob) t.lv j=some x:=hx
  unfold Z1 at hx'
  by_cases e:j.1=ob
  · rw[if_pos e]at hx'
    obtain⟨z,hz,rfl⟩:=Option.map_eq_some_iff.1 hx'
    exact⟨Ct,U⟩
  · rw[if_neg e]at hx'
    exact h j x hx'
theorem wrX_ag (h:Pe o):Pe (wrX o a v):= fun j hj hw=> by
  have hw':(o.wr ||| (1#64<<<a.toNat)).getLsbD j=false:=hw
  rw[T9 hj,Bool.or_eq_false_iff]at hw'
  have hne: ¬j=a.toNat:= by simpa using hw'.2
  show o.base[j]? =(o.own.set a.toNat v)[j]?
  rw[List.getElem?_set_ne (fun e=>hne e.symm)]
  exact h j hj hw'.1
theorem AL.rdU (h:AL t) (hb:Bn b):AL (rdU b t ob a):= by
  unfold Go.Proofs.YtkcjfoaejijdoaaGreatDoor.rdU
  split
  · exact h.put ⟨(h.tou hb).1,(h.tou hb).2⟩
  · exact h
theorem AL.wrU (h:AL t) (hb:Bn b):AL (wrU b t ob a v):= by
  unfold Go.Proofs.YtkcjfoaejijdoaaGreatDoor.wrU
  split
  · refine h.put ⟨wrX_ag (h.tou hb).1, ?_⟩
    show((Wr b t (ob,a/ 64)).own.set _ _).length=64
    rw[List.length_set]
    exact(h.tou hb).2
  · exact h
theorem AL.rdf (h:AL t) (hb:Bn b): ∀n,AL (Rx b ob p0 t n)
  | 0=>h
  | n+1=> by
    show AL (Ry b ob (Rx b ob p0 t n) _)
    unfold Ry
    split
    · exact(AL.rdf h hb n).put ⟨((AL.rdf h hb n).tou hb).1,((AL.rdf h hb n).tou hb).2⟩
    · exact AL.rdf h hb n
theorem AL.wrf (h:AL t) (hf: ∀i,(f i).length=64): ∀n,AL (Mh b t to base f n)
  | 0=>h
  | n+1=>(AL.wrf h hf n).put ⟨Ct,hf n⟩
theorem NH (h:AL t) (hb:Bn b) {q:Int}:(Iz b t ob q).length=64:= by
  unfold Iz
  split
  · exact CN h hb
  · rfl
theorem AL.copy (h:AL t) (hb:Bn b) {fi n at_:Int}:AL (KY b t ob fi n to at_):=(h.rdf hb _).wrf (fun _=>NH h hb) _
theorem AL.step (h:AL t) (hb:Bn b):AL (YY b t x):= by
  unfold YY
  split
  · exact h.rdU hb
  · split
    · exact h.copy hb
    · split
      · exact h.drp
      · exact h.wrU hb
theorem ValT.put (h:ValT c (Hk t k y)) (hg:GoX (Wr b t k) y):ValT c t:= fun j x hx i hi hr=> by
  by_cases e:j=k
  · subst e
    have e2:Wr b t j=x:= by unfold Wr; rw[hx]
    obtain⟨g1,⟨r,g2⟩,_⟩:=hg
    rw[e2]at g1 g2
    rw[←g1]
    refine h j y Qy i hi ?_
    rw[g2,BitVec.getLsbD_or,hr,Bool.true_or]
  · exact h j x (show Xu t.lv k (some y) j=some x by rw[QF e]; exact hx) i hi hr
theorem ValT.drp (h:ValT c (DN t ob)):ValT c t:= fun j x hx i hi hr=> by
  by_cases e:j.1=ob
  · exact h j (allX x zer) (show Z1 (fun j=>j.1=ob) t.lv j=some (allX x zer) by unfold Z1; rw[if_pos e,hx];rfl) i hi hr
  · exact h j x (show Z1 (fun j=>j.1=ob) t.lv j=some x by unfold Z1; rw[if_neg e]; exact hx) i hi hr
theorem ValT.rdf: ∀n,ValT c (Rx b ob p0 t n)→ValT c t
  | 0,h=>h
  | n+1,h=> by
    have h':ValT c (Ry b ob (Rx b ob p0 t n) (p0+(n:Int))):=h
    unfold Ry at h'
    split at h'
    · exact ValT.rdf n (h'.put (b:=b) GoX.allR)
    · exact ValT.rdf n h'
theorem ValT.wrf: ∀n,ValT c (Mh b t to base f n)→ValT c t
  | 0,h=>h
  | n+1,h=>ValT.wrf n (ValT.put (b:=b) h GoX.allX)
theorem ValT.step (h:ValT c (YY b t x)):ValT c t:= by
  unfold YY at h
  split at h
  · unfold Go.Proofs.YtkcjfoaejijdoaaGreatDoor.rdU at h
    split at h
    · exact h.put (b:=b) GoX.rdX
    · exact h
  · split at h
    · exact ValT.rdf _ (ValT.wrf _ h)
    · split at h
      · exact h.drp
      · unfold Go.Proofs.YtkcjfoaejijdoaaGreatDoor.wrU at h
        split at h
        · exact h.put (b:=b) GoX.wrX
        · exact h
theorem Sa {j:KD}:Bj c (Hk t k y) j= if j=k then R7 (c j) y.own y.wr else Bj c t j:= by
  unfold Bj Hk
  dsimp only
  by_cases e:j=k
  · subst e; rw[Qy,if_pos U]
  · rw[QF e,if_neg e]
theorem TS (hc:Bn c):R7 (c k) (Wr b t k).own (Wr b t k).wr=Bj c t k:= by
  unfold Bj
  cases hx:t.lv k with
  | some x=>
    have e:Wr b t k=x:= by unfold Wr; rw[hx]
    rw[e]
  | none=>
    unfold Wr YD
    rw[hx]
    dsimp only
    cases hd:t.dr k.1 with
    | true=> simp only[if_true]; exact BA St (hc k)
    | false=> simp only[Bool.false_eq_true,if_false]; exact D3 (hc k)
theorem Fp (hc:Bn c) (h1:y.own=(Wr b t k).own) (h2:y.wr=(Wr b t k).wr) (j:KD):Bj c (Hk t k y) j=Bj c t j:= by
  rw[Sa]
  by_cases e:j=k
  · subst e
    rw[if_pos U,h1,h2]
    exact TS hc
  · rw[if_neg e]
theorem mgB_set {n w:Bs} {r:BitVec 64} {i:Nat} (hi:i<64) (hw:w.length=64):R7 n (w.set i v) (r ||| (1#64<<<i))=(R7 n w r).set i v:= by
  apply List.ext_getElem?
  intro j
  by_cases hj:j<64
  · rw[B9 hj,T9 hj]
    by_cases e:j=i
    · subst e
      rw[List.getElem?_set_self (by rw[UK];omega)]
      simp [List.getD,hw,hj]
    · rw[List.getElem?_set_ne (fun q=>e q.symm),B9 hj]
      have e2:(w.set i v).getD j 0=w.getD j 0:= by simp [List.getD,List.getElem?_set_ne (fun q=>e q.symm)]
      rw[e2]
      simp [e]
  · rw[List.getElem?_eq_none (by rw[UK];omega),List.getElem?_eq_none (by rw[List.length_set,UK];omega)]
theorem cm_wr (h:AL t) (hb:Bn b) (hc:Bn c) (ha:0≤a∧a<64) (j:KD):Bj c (Hk t k (wrX (Wr b t k) a v)) j= if j=k then(Bj c t k).set a.toNat v else Bj c t j:= by
  rw[Sa]
  by_cases e:j=k
  · subst e
    rw[if_pos U,if_pos U,←TS (b:=b) hc]
    exact mgB_set (by omega) (h.tou hb).2
  · rw[if_neg e,if_neg e]
theorem cm_all (hc:Bn c) {g:Bs} (hg:g.length=64) (j:KD):Bj c (Hk t k (allX o g)) j= if j=k then g else Bj c t j:= by
  rw[Sa]
  by_cases e:j=k
  · subst e
    rw[if_pos U,if_pos U]
    exact BA hg (hc j)
  · rw[if_neg e,if_neg e]
theorem cm_drp (hc:Bn c) (j:KD):Bj c (DN t ob) j= if j.1=ob then zer else Bj c t j:= by
  unfold Bj DN Z1
  dsimp only
  by_cases e:j.1=ob
  · rw[if_pos e,if_pos e]
    cases t.lv j with
    | some x=> exact BA St (hc j)
    | none=>
      dsimp only[Option.map_none]
      rw[if_pos (JL.2 (.inr e))]
  · rw[if_neg e,if_neg e]
    have e2:WC t.dr ob j.1=t.dr j.1:= by unfold WC; rw[if_neg e]
    simp only[e2]
theorem cm_full (h:AL t) (hb:Bn b) (hc:Bn c) (hv:ValT c (Hk t k (allR (Wr b t k)))):Bj c t k=YD t (b k) k:= by
  rw[←TS (b:=b) hc,←Ul (b:=b)]
  refine D4 (h.tou hb).2 (hc k) fun j hj hw=> ?_
  rw[←(h.tou hb).1 j hj hw]
  refine(hv k _ Qy j hj ?_).symm
  show((Wr b t k).rd ||| (BitVec.allOnes 64&&& ~~~(Wr b t k).wr)).getLsbD j=true
  rw[BitVec.getLsbD_or,BitVec.getLsbD_and,BitVec.getLsbD_allOnes,BitVec.getLsbD_not,hw]
  simp [hj]
theorem cm_byte (h:AL t) (hb:Bn b) (hc:Bn c) (ha:0≤a∧a<64) (hv:ValT c (Hk t k (rdX (Wr b t k) a))):Ph (Bj c t k) a=Ph (YD t (b k) k) a:= by
  rw[←TS (b:=b) hc,←Ul (b:=b)]
  unfold Ph
  have hj:a.toNat<64:= by omega
  rw[Nt (B9 hj)]
  by_cases hw:(Wr b t k).wr.getLsbD a.toNat=true
  · rw[if_pos hw]
  · rw[if_neg hw]
    have hw':(Wr b t k).wr.getLsbD a.toNat=false:= by simpa using hw
    have h1:=(h.tou hb).1 a.toNat hj hw'
    have h2:=hv k _ Qy a.toNat hj (by
      show((Wr b t k).rd ||| ((1#64<<<a.toNat)&&& ~~~(Wr b t k).wr)).getLsbD a.toNat=true
      have h3:=T9 (w:=0#64) (i:=a.toNat) hj
      rw[BitVec.zero_or]at h3
      rw[BitVec.getLsbD_or,BitVec.getLsbD_and,BitVec.getLsbD_not,hw',h3]
      simp [hj])
    have h4:(c k)[a.toNat]? =(Wr b t k).own[a.toNat]? :=h2.symm.trans h1
    simp only[List.getD,h4]
theorem TT (hc:Bn c) (j:KD): ∀n,Bj c (Rx b ob p0 t n) j=Bj c t j
  | 0=>rfl
  | n+1=> by
    show Bj c (Ry b ob (Rx b ob p0 t n) _) j=_
    unfold Ry
    split
    · exact(Fp (b:=b) (y:=allR (Wr b (Rx b ob p0 t n) (ob,p0+(n:Int)))) hc U U j).trans (TT hc j n)
    · exact TT hc j n
theorem I5 (h:AL t) (hb:Bn b) (hc:Bn c): ∀n,ValT c (Rx b ob p0 t n)→ ∀i,i<n→0≤p0+(i:Int)∧p0+(i:Int)<256→Bj c t (ob,p0+(i:Int))=YD t (b (ob,p0+(i:Int))) (ob,p0+(i:Int))
  | 0,_,i,hi,_=> by omega
  | n+1,hv,i,hi,hp=> by
    have h':ValT c (Ry b ob (Rx b ob p0 t n) (p0+(n:Int))):=hv
    by_cases e:i=n
    · subst e
      unfold Ry at h'
      rw[if_pos hp]at h'
      have :=cm_full (h.rdf hb i) hb hc h'
      rw[TT hc,Do]at this
      exact this
    · refine I5 h hb hc n ?_ i (by omega) hp
      unfold Ry at h'
      split at h'
      · exact h'.put (b:=b) GoX.allR
      · exact h'
theorem I4 (hc:Bn c) (hf: ∀i,(f i).length=64) {m:Bs} {r:Int}: ∀q:Nat,Bj c (Mh b t to base f q) (m,r)= if m=to∧base≤r∧r<base+(q:Int)then f (r -base).toNat else Bj c t (m,r)
  | 0=> by rw[if_neg (by omega)];rfl
  | q+1=> by
    show Bj c (Hk (Mh b t to base f q) (to,base+(q:Int)) _) (m,r)=_
    rw[cm_all hc (hf q)]
    by_cases e:(m,r)=(to,base+(q:Int))
    · obtain⟨e1,e2⟩:=Prod.mk.inj e
      rw[if_pos e,if_pos ⟨e1, by omega, by omega⟩]
      have :(r -base).toNat=q:= by omega
      rw[this]
    · rw[if_neg e,I4 hc hf q]
      by_cases e2:m=to∧base≤r∧r<base+(q:Int)
      · rw[if_pos e2,if_pos ⟨e2.1,e2.2.1, by omega⟩]
      · rw[if_neg e2,if_neg fun a=>e2 ⟨a.1,a.2.1,Classical.byContradiction fun z=>e (by rw[a.1, show r=base+(q:Int) by omega])⟩]
def VisC (c:KD→Bs) (t:TrA) (W:WS):Prop:= ∀nm q,Bj c t (nm,q)=Y1 W nm q
theorem VisC.step (h:VisC c t W) (hal:AL t) (hb:Bn b) (hc:Bn c) (hI:PagesOk W.objs) (hv:ValT c (YY b t x)):VisC c (YY b t x) (Vg W x):= by
  rcases Ro x with e | e | e | ⟨e1,e2,e3⟩
  · obtain⟨s1,_,s3⟩:=UA (b:=b) (t:=t) (P:=b) (W:=W) e
    rw[s1,s3]
    unfold Go.Proofs.YtkcjfoaejijdoaaGreatDoor.rdU
    split
    · exact fun nm q=>(Fp (b:=b) (y:=Go.Proofs.YtkcjfoaejijdoaaGreatDoor.rdX (Wr b t (x.ob,x.at_/ 64)) (x.at_%64)) hc U U _).trans (h nm q)
    · exact h
  · obtain⟨s1,_,s3⟩:=VP (b:=b) (t:=t) (P:=b) (W:=W) e
    rw[s1]at hv⊢
    rw[s3]
    intro nm q
    unfold KY at hv⊢
    have hv1:=ValT.wrf _ hv
    rw[I4 hc (fun _=>NH hal hb),TT hc,KQ hI,h nm q]
    by_cases e1:nm=x.to∧x.at_+max 0 (-x.at_)≤q∧q<x.at_+max 0 (-x.at_)+(NG x.n x.at_:Int)
    · rw[if_pos e1,if_pos e1]
      unfold Iz
      have e2:x.first+max 0 (-x.at_)+(((q -(x.at_+max 0 (-x.at_))).toNat:Nat):Int)=x.first+q -x.at_:= by omega
      by_cases r:0≤x.first+q -x.at_∧x.first+q -x.at_<256
      · have hs:=I5 hal hb hc _ hv1 ((q -(x.at_+max 0 (-x.at_))).toNat) (by omega) (by omega)
        rw[e2]at hs⊢
        rw[if_pos r,if_pos r,←hs]
        exact h _ _
      · rw[e2,if_neg r,if_neg r]
    · rw[if_neg e1,if_neg e1]
  · obtain⟨s1,_,s3⟩:=VO (b:=b) (t:=t) (P:=b) (W:=W) e
    rw[s1,s3]
    intro m q
    rw[cm_drp hc,KP,h m q]
  · obtain⟨s1,_,s3⟩:=VN (b:=b) (t:=t) (P:=b) (W:=W) e1 e2 e3
    rw[s1,s3]
    intro m q
    unfold Go.Proofs.YtkcjfoaejijdoaaGreatDoor.wrU
    by_cases ha:0≤x.at_∧x.at_<16384
    · rw[if_pos ha,cm_wr hal hb hc (by omega),KO m q _ _ ha,h x.ob (x.at_/ 64),h m q]
      by_cases e:(m,q)=(x.ob,x.at_/ 64)
      · obtain⟨e4,e5⟩:=Prod.mk.inj e
        rw[if_pos e,if_pos ⟨e4,e5⟩]
      · rw[if_neg e,if_neg fun z=>e (by rw[z.1,z.2])]
    · rw[if_neg ha]
      unfold Yb
      rw[if_neg ha]
      exact h m q
theorem VisC.byte {W':WS} (h:VisT b t W) (h':VisC c t W') (hal:AL t) (hb:Bn b) (hc:Bn c) (he:J8 x=0∨J8 x=1∨J8 x=2∨J8 x=7∨J8 x=8) (hv:ValT c (YY b t x)):Ti W x.ob x.at_=Ti W' x.ob x.at_:= by
  have e1:=IV (ob:=x.ob) (a:=x.at_) h
  have e2:=IW (P:=Bj c t) (ob:=x.ob) (a:=x.at_) h'
  rw[←e1,←e2]
  by_cases ha:0≤x.at_∧x.at_<16384
  · rw[if_pos ha,if_pos ha]
    rw[(UA (b:=b) (t:=t) (P:=b) (W:=W) he).1]at hv
    unfold Go.Proofs.YtkcjfoaejijdoaaGreatDoor.rdU at hv
    rw[if_pos ha]at hv
    exact(cm_byte hal hb hc (by omega) hv).symm
  · rw[if_neg ha,if_neg ha]
end
def t00:TrA:=⟨0, fun _=>none, fun _=>false⟩
section
variable {A:LvA} {b c P:KD→Bs} {t t1 t2:TrA} {W:WS} {q d q1 d1 q2 d2:Nat} {x:AcL}
structure FlI (A:LvA) (P:KD→Bs) (t1 t2:TrA):Prop where
  pres:A.pres=P
  t1:A.tr 1=some t1
  t2:A.tr 2=some t2
  oth: ∀j,j≠1→j≠2→A.tr j=none
theorem FlI.start (hA: ∀j,A.tr j=none):Mw A 1 0=0∧Mw (Bx A 1 0) 2 0=0∧FlI (Bx (Bx A 1 0) 2 0) A.pres t00 t00:= by
  obtain⟨e0,e1⟩:=Cp (A:=A) (i:=1) (by omega) (hA 1)
  refine⟨e0, ?_⟩
  rw[e1]
  obtain⟨e2,e3⟩:=Cp (A:=({A with tr:=Xu A.tr 1 (some ⟨0, fun _=>none, fun _=>false⟩)}:LvA)) (i:=2) (by omega) ((QF (by decide)).trans (hA 2))
  refine⟨e2, ?_⟩
  rw[e3]
  exact⟨rfl,(QF (by decide)).trans Qy,Qy, fun j h1 h2=>(QF h2).trans ((QF h1).trans (hA j))⟩
theorem FlI.sa (h:FlI A P t1 t2) {t:TrA}:FlI (Ao A 1 t) P t t2:=⟨h.pres,An,(B5 (by decide)).trans h.t2, fun j a c=>(B5 a).trans (h.oth j a c)⟩
theorem FlI.sb (h:FlI A P t1 t2) {t:TrA}:FlI (Ao A 2 t) P t1 t:=⟨h.pres,(B5 (by decide)).trans h.t1,An, fun j a c=>(B5 c).trans (h.oth j a c)⟩
structure Fl1 (A:LvA) (t2:TrA):Prop where
  t2:A.tr 2=some t2
  oth: ∀j,j≠2→A.tr j=none
theorem FlI.com (h:FlI A P t1 t2) {Q:KD→Bs}:Fl1 ⟨Q,Xu A.tr 1 none⟩ t2:= by
  refine⟨(QF (by decide)).trans h.t2, fun j hj=> ?_⟩
  by_cases e:j=1
  · subst e; exact Qy
  · exact(QF e).trans (h.oth j e hj)
end
def capOk (v:Value):Prop:= ∀ao m cap,v= .slice ao m cap→m≤cap
theorem itKT (c b:Nat) (g:Int→Option Value):ItI g 124 [ptrV c 0] (TD c b g):= fun l J X w hS hY=> by
  have h1:=(hS.perm (List.Perm.swap _ _ _)).flat; dsimp only[Gl,Gk]at h1
  refine(kt_it (h1.reorder [2,0,1,3] U) hY).mono fun e w' h=>h.mono fun v w' ⟨ks,h2,h3⟩=>⟨ks,h2, ?_⟩
  exact(Sat.fold (As:=[Q8 c [.map (some b)],Q5 QN b g]) (h3.reorder [1,2,0,3] U)).perm (List.Perm.swap _ _ _)
theorem SQ {w:World} {b:Nat} {L:LvD} {F:Th} (hS:Sat w [XX b L,F]) (hlen: ∀ks,Came (X0 TrD.ad L.tr) ks→ks.length≤100000000000):
    Calls prog 24 #[ptrV b 0] w (Ret fun v w'=> ∃ks,AllC (X0 TrD.ad L.tr) ks∧Sat w' [rowT inC v (ZL ks),XX b L,F]):= by
 replace hS:=X1 hS
 refine Qm func24 U ntmps24 U ?_
 refine Qd (Qa (Qe U U (Qf (Qc (Qd (Qa (Qb U U (Qj U U (Qg U Zr U (Qr U Wx (hS.cell 0 U U) U (Qv cal_70 U (kt_sp (hS.sp [] U) U) U ?_)))))))))))
 rintro _ w1 ⟨ck,rfl,j1⟩
 replace j1:=j1.jn U U
 have hK:=Sat.fold (As:=[Q8 ck [.map (some L.mt)],Q5 QN L.mt (X0 TrD.ad L.tr)]) (j1.pick [0,3,1,2,4,5,6] U)
 have hC2:=hK.sp [0] U
 refine Qv DX U (HG hC2 cal_124 (itKT ck L.mt (X0 TrD.ad L.tr)) hlen) U ?_
 rintro _ w2 ⟨ks,hks,j2⟩
 replace j2:=j2.jn U U; clear hC2
 clear hK
 refine Qe U U (Qf (Qc (Qu (QY (.inr U) U U ?_))))
 have hz:=(j2.pick [1,0,2,3,4,5,6] U).flat; dsimp only[TD,Gl,Gk]at hz
 exact⟨_,U,ks,hks,(QX (hz.pick [3,4,1,5,6,2,7] U)).perm (List.Perm.swap _ _ _)⟩
