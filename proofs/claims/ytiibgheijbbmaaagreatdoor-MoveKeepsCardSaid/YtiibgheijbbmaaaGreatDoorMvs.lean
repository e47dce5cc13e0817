/- link: Deliver, Drop -/
import Derived.Test.YtiibgheijbbmaaaGreatDoorMvl
import Derived.Test.YtiibgheijbbmaaaGreatDoorMvy7
set_option linter.unusedVariables false
set_option maxRecDepth 100000
namespace Go.Proofs.YtiibgheijbbmaaaGreatDoor
open Go.RowKit M Proofs.Tryz
def Gp (fl:List (Bool×Bs)) (n:Int):List (Bool×Bs):= if 0≤n∧n<(fl.length:Int)then fl.eraseIdx n.toNat else fl
def Px (fl:List (Bool×Bs)) (n:Int):Int×Bs:= if 0≤n∧n<(fl.length:Int)then(if(fl.getD n.toNat (false,[])).1=true then 1 else 0,(fl.getD n.toNat (false,[])).2)else(0,[])
def Py (fl:List (Bool×Bs)) (n:Int):Int:= if 0≤n∧n<(fl.length:Int)then 0 else 4
section
variable {fl:List (Bool×Bs)} {n:Int} {k:Nat} {x:Bool×Bs}
theorem De (h: ¬(0≤n∧n<(fl.length:Int))):Gp fl n=fl∧Px fl n=(0,[])∧Py fl n=4:= by
  unfold Gp Px Py; rw[if_neg h,if_neg h,if_neg h]; exact⟨rfl,rfl,rfl⟩
theorem Kg (hx:fl[k]? =some x):Gp fl (k:Int)=fl.eraseIdx k∧Px fl (k:Int)=(if x.1=true then 1 else 0,x.2)∧Py fl (k:Int)=0:= by
  have h:0≤(k:Int)∧(k:Int)<(fl.length:Int):= by have :=(ZD hx).1;omega
  unfold Gp Px Py
  rw[if_pos h,if_pos h,if_pos h,Int.toNat_natCast,List.getD_eq_getElem?_getD,hx]
  exact⟨Qa,Qa,Qa⟩
end
theorem Jh {w:World} {p:Nat} {fl:List (Bool×Bs)} {cut:Bool} {F:Th} (hS:Sat w [Gf p fl cut,F]) (n:Int) (hf:fl.length≤500):
    Calls prog 80 #[ptrV p 0,intV n] w (Ret fun v w'=>v= .tuple #[.agg #[intV (Px fl n).1,strV (Px fl n).2],intV (Py fl n)]∧Sat w' [Gf p (Gp fl n) cut,F]):= by
 refine Qy func80 Qa ntmps80 Qa ?_
 refine Qf (Qb (Xs hS WT Qa Qa ?_))
 intro b1 w1 hS1
 refine Qc Qa Qa (Qh (Qd (Qf (Qf (Qb (Qe Qa Qa (Qe Qa Qa (Q0 Ao Qa (C7 (hS1.sp [1] Qa) n) Qa ?_))))))))
 rintro _ w2 ⟨rfl,hS2⟩
 replace hS2:=hS2.jn Qa Qa
 refine XN Qa Qa (Qh (Qd (QZ Qa (fun h3=> ?_) (fun h3=> ?_))))
 ·have hno: ¬(0≤n∧n<(fl.length:Int)):= by have q9:=h3; simp at q9;omega
  refine Qf (Qb (Zs Qa pl_113_ RA WT Qa Qa ?_))
  first | (refine Q8 hS2 Qa Qa XS Qa (by rfl) (i:=1) Qa (by decide) ?_)
  intro w4 hS5; dsimp only[List.set]at hS5
  refine Qc Qa Qa (Qh (Qd (Qo (Qm (qac (.inr Qa) Qa (I3 Qa Dm XS (by first | exact hS5.blk 1 Qa) (by decide) Qa) (qaz Qa) ?_)))))
  exact⟨_,rfl, by rw[(De hno).2.1,(De hno).2.2];rfl, by rw[(De hno).1]; exact hS5.pick [0,2] Qa⟩
 have hyes:0≤n∧n<(fl.length:Int):= by simpa using h3
 obtain⟨k,rfl⟩: ∃k:Nat,n=(k:Int):=⟨n.toNat, by omega⟩
 obtain⟨x,hx⟩: ∃x,fl[k]? =some x:=⟨_,WY (by omega)⟩
 refine Qt (Qd (Qf ?_))
 obtain⟨lv,hS6⟩:=Hp (hS2.pick [0,1,2] rfl)
 obtain⟨fa,fcap,hlv,hfm⟩:=hS6.own_shape 1 rfl
 obtain rfl:=hlv
 refine Qb (Qe Qa Qa (Ql Qa Qa (Qi Qa ZN Qa (Qr Qa H5 (hS6.cell 0 Qa Qa) Qa (Qe Qa Qa (Wj pkC 1 k hS6 Qa Qa Qa (by rfl) hx es_86 Qa ?_))))))
 intro bx8 capx8 hvx8
 refine TK 1 k hS6 Qa hvx8 Qa hx Dm XS Qa Qa (Xs hS6 WT Qa Qa ?_)
 intro b9 w9 hS9
 (refine Q8 hS9 Qa Qa XS Qa (by rfl) (i:=0) Qa (by decide) ?_)
 intro w10 hS11; dsimp only[List.set]at hS11
 refine Qh (Qd (Qk [1,0,4,5,6] Qa (Qf (Qb (Qe Qa Qa (Qe Qa Qa (Ql Qa Qa (Qi Qa ZN Qa (Qr Qa H5 (hS11.cell 1 Qa Qa) Qa (Qe Qa Qa (Qe Qa Qa (XC Qa Qa (by omega) (by omega) Qa ?_))))))))))))
 refine Q0 cal_109 Qa (delP_sp (hS11.sp [2] Qa) (i:=k) (by omega) (by omega)) Qa ?_
 rintro _ w12 hS12
 replace hS12:=hS12.jn Qa Qa
 refine Ql Qa Qa (Qi Qa ZN Qa ?_)
 (refine Qw hS12 Qa Qa KU (hS12.own_one 0 Qa) (i:=2) Qa (QC Qa) ?_)
 intro w13 hS14; dsimp only[List.set]at hS14
 refine Qh (Qd (Qk [4,5,6] Qa (Qf (Qb (Jd Qa Dm XS (hS14.blk 1 Qa) (QC Qa) Qa Qa ?_)))))
 (refine Q8 hS14 Qa Qa XS Qa (by rfl) (i:=3) Qa (by decide) ?_)
 intro w15 hS16; dsimp only[List.set]at hS16
 refine Qc Qa Qa (Qh (Qd (Qo (qac (.inr Qa) Qa (I3 Qa Dm XS (hS16.blk 3 Qa) (QC Qa) Qa) (qaz Qa) ?_))))
 exact⟨_,rfl, by rw[(Kg hx).2.1,(Kg hx).2.2];rfl, by rw[(Kg hx).1]; exact Z5 (hS16.pick [2,0,4] Qa)⟩
theorem Me {w:World} {p:Nat} {fl:List (Bool×Bs)} {cut:Bool} {F:Th} (hS:Sat w [Gf p fl cut,F]) (n:Int) (hf:fl.length≤500):
    Calls prog 40 #[ptrV p 0,intV n] w (Ret fun v w'=>(∃r:Int,v=intV r)∧Sat w' [Gf p (Gp fl n) cut,F]):= by
 refine Qy func40 Qa ntmps40 Qa ?_
 refine Qf (Qb (Qc Qa Qa (Qh (Qd (Qf (Qb (Qe Qa Qa (Qe Qa Qa (Q0 YW Qa (Jh (hS.sp [0] Qa) n hf) Qa ?_)))))))))
 rintro _ w1 ⟨rfl,hS1⟩
 replace hS1:=hS1.jn Qa Qa
 refine Qe Qa Qa (Q7 Qa Qa Qa (Q7 Qa Qa Qa (Xs hS1 WT Qa Qa ?_)))
 intro b2 w2 hS2
 first | (refine Q8 hS2 Qa Qa XS Qa (by rfl) (i:=0) Qa (by decide) ?_)
 intro w3 hS4; dsimp only[List.set]at hS4
 exact Qc Qa Qa (Qh (Qd (Qk [4,6] Qa (Qf (Qb (Qe Qa Qa (Qc Qa Qa (Qh (Qd (Qo (Q5 (.inr Qa) Qa Qa (⟨_,Qa,⟨_,Qa⟩,hS4.pick [1,2] Qa⟩))))))))))))
def RV:RowC Nat:=⟨fun a=>[ptrV a 0],1, by decide, fun _=>rfl, fun _=>rfl⟩
def Dv (x:Nat) (X:TwD):Th:=Nk fun q:Value×Nat×Nat×Nat=>starL [Xb x [q.1,ptrV q.2.2.2 0],rowT RV q.1 [q.2.1,q.2.2.1],Xw q.2.1 X.a,Xw q.2.2.1 X.b,Gf q.2.2.2 X.fl X.cut]
structure XW (X:TwD):Prop where
  a:EW X.a
  b:EW X.b
  fl: ∀p∈X.fl,p.2.length≤1000
  ln:X.fl.length≤500
section
variable {w:World} {As:List Th} {x a b p eb cap:Nat} {X:TwD} {i:Bool} {s:Bs} {fl:List (Bool×Bs)}
theorem HN (h:Sat w (Dv x X::As)): ∃eb cap a b p,Sat w (Xb x [.slice (some ⟨eb,0,none⟩) 2 cap,ptrV p 0]::rowT RV (.slice (some ⟨eb,0,none⟩) 2 cap) [a,b]::Xw a X.a::Xw b X.b::Gf p X.fl X.cut::As):= by
  obtain⟨q,h⟩:=h.ex
  have h1:=h.flat
  obtain⟨eb,cap,hq,_⟩:=h1.own_at 1 rfl (by show 0<2;omega)
  obtain⟨sv,a,b,p⟩:=q
  dsimp only at hq h1
  subst hq
  exact⟨eb,cap,a,b,p,h1⟩
theorem QW {sv:Value} (h:Sat w (Xb x [sv,ptrV p 0]::rowT RV sv [a,b]::Xw a X.a::Xw b X.b::Gf p X.fl X.cut::As)):Sat w (Dv x X::As):=
  Sat.ex_intro (sv,a,b,p) (Sat.fold (As:=[Xb x [sv,ptrV p 0],rowT RV sv [a,b],Xw a X.a,Xw b X.b,Gf p X.fl X.cut]) h)
theorem LI:HO X i s={X with fl:=YJ X.fl X.cut i s}:= by
  unfold HO YJ
  split<;>rfl
theorem NU {l:List Bs} {k:Nat} (h:l[k]? =some s):Yh X i (l.take (k+1))=HO (Yh X i (l.take k)) i s:= by
  unfold Yh
  rw[List.take_add_one,h,List.foldl_append];rfl
theorem Fe (h:X.fl.length≤500):(HO X i s).fl.length≤500:= by
  unfold HO
  split
  · exact h
  · rename_i q; show(X.fl++_).length≤500; rw[List.length_append]; simp;omega
theorem DR: ∀{l:List Bs} {X:TwD},X.fl.length≤500→(Yh X i l).fl.length≤500
  | [],_,h=>h
  | s::l,X,h=>DR (l:=l) (X:=HO X i s) (Fe h)
def Ag (fl:List (Bool×Bs)) (n:Int):List (Bool×Bs):= match fl[n.toNat]? with
  | none=>fl
  | some p=> if 500≤fl.length then fl else fl++[p]
theorem MU {n:Int} {m:Nat} (h:0<m):0≤Ze n m∧Ze n m<(m:Int):= by
  unfold Ze
  rw[if_neg (by omega)]
  exact⟨Int.emod_nonneg _ (by omega),Int.emod_lt_of_pos _ (by omega)⟩
theorem dlv_mod {n:Int}:Gp fl (Ze n fl.length)=fl.eraseIdx (Ze n fl.length).toNat:= by
  unfold Gp
  split
  · rfl
  · rename_i h
    cases fl with
    | nil=>rfl
    | cons p l=> exact absurd (MU (n:=n) (m:=(p::l).length) (by simp)) h
end
def Tx (fl:List (Bool×Bs)) (n:Int):List (Bool×Bs):= if 0≤n∧n<(fl.length:Int)then Ag fl n else fl
theorem dbl_mod {fl:List (Bool×Bs)} {n:Int}:Tx fl (Ze n fl.length)=Ag fl (Ze n fl.length):= by
  unfold Tx
  split
  · rfl
  · rename_i h
    cases fl with
    | nil=>rfl
    | cons p l=> exact absurd (MU (n:=n) (m:=(p::l).length) (by simp)) h
theorem C8 {w:World} {p:Nat} {fl:List (Bool×Bs)} {cut:Bool} {F:Th} (hS:Sat w [Gf p fl cut,F]) (n:Int) (hf:fl.length≤500):
    Calls prog 42 #[ptrV p 0,intV n] w (Ret fun v w'=>(∃r:Int,v=intV r)∧Sat w' [Gf p (Tx fl n) cut,F]):= by
 refine Qy func42 Qa ntmps42 Qa ?_
 refine Qf (Qb (Qc Qa Qa (Qh (Qd (Qf (QK (Qf (Qb (Qe Qa Qa (Qe Qa Qa (Q0 Ao Qa (C7 (hS.sp [0] Qa) n) Qa ?_)))))))))))
 rintro _ w1 ⟨rfl,hS1⟩
 replace hS1:=hS1.jn Qa Qa
 refine XN Qa Qa (Qc Qa Qa (Qh (Qd (QZ Qa (fun h2=> ?_) (fun h2=> ?_)))))
 ·have hno: ¬(0≤n∧n<(fl.length:Int)):= by have q9:=h2; simp at q9;omega
  refine Qf (Qb (Qc Qa Qa (Qh (Qd (Qo (Qz (Qm (Q5 (.inr Qa) Qa Qa ?_))))))))
  exact⟨_,rfl,⟨_,rfl⟩, by unfold Tx; rw[if_neg hno]; exact hS1.pick [0,1] Qa⟩
 have hyes:0≤n∧n<(fl.length:Int):= by simpa using h2
 obtain⟨k,rfl⟩: ∃k:Nat,n=(k:Int):=⟨n.toNat, by omega⟩
 obtain⟨x,hx⟩: ∃x,fl[k]? =some x:=⟨_,WY (by omega)⟩
 refine Qf ?_
 obtain⟨lv,hS3⟩:=Hp (hS1.pick [0,1] rfl)
 obtain⟨fb,fcap,hlv,hfm⟩:=hS3.own_at 1 rfl (by omega)
 obtain rfl:=hlv
 refine Qb (Qe Qa Qa (Ql Qa Qa (Qi Qa ZN Qa (Qr Qa H5 (hS3.cell 0 Qa Qa) Qa (Xm underlying86 Qa Qa (Jm Qa Qa Qa (Qc Qa Qa (Qh (Qd (Qk [1,0,4,10] Qa (Qv Qa (fun h5=> ?_) (fun h5=> ?_))))))))))))
 ·refine Qf (Qb (Qc Qa Qa (Qh (Qd (Qo (Qz (Qm (Q5 (.inr Qa) Qa Qa ?_))))))))
  exact⟨_,rfl,⟨_,rfl⟩, by unfold Tx Ag; rw[if_pos hyes,Int.toNat_natCast,hx]; dsimp only; rw[if_pos (by omega)]; exact Z5 (hS3.pick [0,1,2] Qa)⟩
 refine Qt (Qq (Qd (Qf ?_)))
 have hS6:=hS3.drew
 refine QN [0,1,2,3,4,5,6,7,8,9,10,11,12,13,14,15,16] [12,13,16] W5 (by kernel_rfl) ?_
 refine QI Qa Qa Qa (QI Qa Qa Qa (Xn Qa Qa Qa (QO Qa Qa Qa ZN (QF Qa Qa Qa (Qn Qa H5 (hS6.cell 0 Qa Qa)) (QI Qa Qa Qa (Xn Qa Qa Qa (QO Qa Qa Qa ZN (QF Qa Qa Qa (Qn Qa H5 (hS6.cell 0 Qa Qa)) (QI Qa Qa Qa (Q9 Qa Qa Qa (fun _=>(X0 k Qa Qa (by rfl) (by omega) es_86)) ?_))))))))))
 refine QF Qa Qa Qa (To pkC 1 k hS6 Qa hx Dm XS Qa Qa) (QV Qa Qa Qa Qa Qa Qa ?_)
 refine Xe pkC [x] hS6 Qa underlying86 Ri Qa Qa Qa Qa (by rfl) rfl ?_
 intro b7 w7 hS7
 refine Xd (.skip (by kernel_rfl) (.skip (by kernel_rfl) (.cons (.inl ⟨rfl,(Qn Qa H5 (hS7.cell 1 Qa Qa))⟩) .nil))) ?_
 refine QV Qa Qa Qa Qa Qa Qa ?_
 refine Zi pkC 2 hS7 Qa Qa Qa (hS7.rd 0 Qa (by simp)) underlying86 underlying86 (by intro k hk; cases hk) VW Qa (by simp only[List.length_cons,List.length_nil];omega) Qa (by simp only[List.length_cons,List.length_nil];omega) ?_
 intro v8 w8 hS8; dsimp only[List.set]at hS8
 have h1v8:v8.oneCell'=true:=hS8.own_one 2 Qa
 refine Xd (Xq (by kernel_rfl)) ?_
 refine Xn Qa Qa Qa (QO Qa Qa Qa ZN (QV Qa Qa Qa Qa Qa Qa ?_))
 first | (refine Qw hS8 Qa Qa KU (by assumption) (i:=1) Qa (QC Qa) ?_)
 intro w9 hS10; dsimp only[List.set]at hS10
 refine Z9 (Xq (by kernel_rfl)) ?_
 refine VC.nil (Qd (Qk [4] Qa (Qf (Qb (Qc Qa Qa (Qh (Qd (Qo (Q5 (.inr Qa) Qa Qa ?_)))))))))
 exact⟨_,rfl,⟨_,rfl⟩, by unfold Tx Ag; rw[if_pos hyes,Int.toNat_natCast,hx]; dsimp only; rw[if_neg (by omega)]; exact Z5 (hS10.pick [1,2,3] Qa)⟩
theorem Wv {w:World} {x:Nat} {X:TwD} {F:Th} {lv:Value} {l:List Bs} (hS:Sat w [Dv x X,rowT Zn lv l,F]) (i:Bool) (hl:l.length≤100000000000):
    Calls prog 43 #[ptrV x 0,intV (if i=true then 1 else 0),lv] w (Ret fun v w'=>v= .tuple #[]∧Sat w' [Dv x (Yh X i l),F]):= by
 obtain⟨ao,cap,hlv,hcap,_⟩:=hS.own_shape 1 rfl
 obtain rfl:=hlv
 refine Qy func43 Qa ntmps43 Qa ?_
 refine Qf (Qb (Qc Qa Qa (Qh (Qd (QK ?_)))))
 refine XJ (fun K0 E0 W0=> ∃(k:Nat),K0=l.length -k∧E0=[(0,ptrV x 0),(1,intV (if i=true then 1 else 0)),(2,.slice ao l.length cap),(6,intV (k:Int))]∧Sat W0 [Dv x (Yh X i (l.take k)),rowT Zn (.slice ao l.length cap) l,F]∧(k≤l.length)) (L0:=[(0,_),(1,_),(2,_),(6,_)]) (l.length -0) (By Qa Qa Qa Qa) ⟨0,rfl,rfl,hS.pick [0,1,2] Qa, by omega⟩ ?_
 rintro _ _ w1 ⟨k,rfl,rfl,hS1,hi⟩
 refine Qf (Qf (Qb (Qe Qa Qa (Qe Qa Qa (Xm underlying66 Qa Qa (X5 Qa Qa Qa (Qh (Qd (Qv Qa (fun h2=> ?_) (fun h2=> ?_))))))))))
 ·obtain⟨y,hy⟩: ∃y,l[k]? =some y:=⟨_,WY (by omega)⟩
  obtain⟨lb,lo,rfl,hc⟩:=(hS1.rd 1 rfl (by omega)).get hy
  refine Qt (Qd (Qf (QK ?_)))
  obtain⟨eb,ecap,a,b,p,hS3⟩:=HN (hS1.pick [0,1,2] rfl)
  have hS4:=hS3.drew
  have hc:=(hS4.rd 5 Qa (by omega)).at_ hy
  refine QN [0,1,2,3,4,5,6,7,8,9] [9] W5 (by kernel_rfl) ?_
  refine QI Qa Qa Qa (Xn Qa Qa Qa (QO Qa Qa Qa XA (QF Qa Qa Qa (Qn Qa Xp (hS4.cell 0 Qa Qa)) (QI Qa Qa Qa (QI Qa Qa Qa (QI Qa Qa Qa (Q9 Qa Qa Qa (fun _=>(X0 k Qa Qa (by rfl) (by omega) Np)) ?_)))))))
  refine QF Qa Qa Qa (Qn Qa Zx (hc 0 _ Qa)) (QV Qa Qa Qa Qa Qa Qa ?_)
  refine Q0 cal_82 Qa (FE (hS4.sp [4] Qa) i y) Qa ?_
  rintro _ w5 ⟨⟨_,rfl⟩,hS5⟩
  replace hS5:=hS5.jn Qa Qa
  refine Xd (Xq (by kernel_rfl)) ?_
  refine VC.nil (Qq (Qd (Qk [6,2,1,0] Qa (Qb (Qe Qa Qa (XC Qa Qa (by omega) (by omega) Qa ?_))))))
  refine Qc Qa Qa (Qh ?_)
  exact Xj (L1:=[(0,_),(1,_),(2,_),(6,intV ((k+1:Nat):Int))]) (By Qa Qa Qa Qa) (k1:=l.length -(k+1)) (by omega) ⟨k+1,rfl,rfl,(by rw[NU hy,LI]; exact QW (X:={Yh X i (l.take k)with fl:=YJ (Yh X i (l.take k)).fl (Yh X i (l.take k)).cut i y}) (hS5.pick [1,2,3,4,0,5,6] Qa)), by omega⟩
 refine X6 (Q6 (Q6 (QR (Yl (.inl Qa) Qa ?_))))
 exact⟨_,rfl,rfl, by rw[show l=l.take k by rw[List.take_of_length_le (by omega)]]; exact hS1.pick [0,2] Qa⟩
