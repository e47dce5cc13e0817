/- link: Deliver, Drop -/
import Derived.Test.YtiibgheijbbmaaaGreatDoorMvl
import Derived.Test.YtiibgheijbbmaaaGreatDoorMvy7
set_option linter.unusedVariables false
set_option maxRecDepth 100000
namespace Go.Proofs.YtiibgheijbbmaaaGreatDoor
open Go.RowKit M Proofs.Tryz
def Bx (fl:List (Bool×Bs)) (n:Int):List (Bool×Bs):= if 0≤n∧n<(fl.length:Int)then fl.eraseIdx n.toNat else fl
def Fy (fl:List (Bool×Bs)) (n:Int):Int×Bs:= if 0≤n∧n<(fl.length:Int)then(if(fl.getD n.toNat (false,[])).1=true then 1 else 0,(fl.getD n.toNat (false,[])).2)else(0,[])
def Fz (fl:List (Bool×Bs)) (n:Int):Int:= if 0≤n∧n<(fl.length:Int)then 0 else 4
section
variable {fl:List (Bool×Bs)} {n:Int} {k:Nat} {x:Bool×Bs}
theorem MK (h: ¬(0≤n∧n<(fl.length:Int))):Bx fl n=fl∧Fy fl n=(0,[])∧Fz fl n=4:= by
  unfold Bx Fy Fz; rw[if_neg h,if_neg h,if_neg h]; exact⟨rfl,rfl,rfl⟩
theorem KY (hx:fl[k]? =some x):Bx fl (k:Int)=fl.eraseIdx k∧Fy fl (k:Int)=(if x.1=true then 1 else 0,x.2)∧Fz fl (k:Int)=0:= by
  have h:0≤(k:Int)∧(k:Int)<(fl.length:Int):= by have :=(Jh hx).1;omega
  unfold Bx Fy Fz
  rw[if_pos h,if_pos h,if_pos h,Int.toNat_natCast,List.getD_eq_getElem?_getD,hx]
  exact⟨Qa,Qa,Qa⟩
end
theorem Ju {w:World} {p:Nat} {fl:List (Bool×Bs)} {cut:Bool} {F:Th} (hS:Sat w [Gi p fl cut,F]) (n:Int) (hf:fl.length≤500):
    Calls prog 80 #[ptrV p 0,intV n] w (Ret fun v w'=>v= .tuple #[.agg #[intV (Fy fl n).1,strV (Fy fl n).2],intV (Fz fl n)]∧Sat w' [Gi p (Bx fl n) cut,F]):= by
 refine Qx func80 Qa ntmps80 Qa ?_
 refine Qg (Qb (Xl hS Jk Qa Qa ?_))
 intro b1 w1 hS1
 refine Qc Qa Qa (Qh (Qd (Qg (Qg (Qb (Qe Qa Qa (Qe Qa Qa (Qz I2 Qa (Pu (hS1.sp [1] Qa) n) Qa ?_))))))))
 rintro _ w2 ⟨rfl,hS2⟩
 replace hS2:=hS2.jn Qa Qa
 refine XL Qa Qa (Qh (Qd (Xb Qa (fun h3=> ?_) (fun h3=> ?_))))
 ·have hno: ¬(0≤n∧n<(fl.length:Int)):= by have q9:=h3; simp at q9;omega
  refine Qg (Qb (Zi Qa pl_113_ GK Jk Qa Qa ?_))
  first | (refine QZ hS2 Qa Qa W9 Qa (by rfl) (i:=1) Qa (by decide) ?_)
  intro w4 hS5; dsimp only[List.set]at hS5
  refine Qc Qa Qa (Qh (Qd (Qo (Qm ?_))))
  refine PY (.inr Qa) Qa (RZ Qa MW W9 (by first | exact hS5.blk 1 Qa) (by first | decide | exact Xd Qa | (simp;done) | omega) Qa) (Oa Qa) ?_
  exact⟨_,rfl, by rw[(MK hno).2.1,(MK hno).2.2];rfl, by rw[(MK hno).1]; exact hS5.pick [0,2] Qa⟩
 have hyes:0≤n∧n<(fl.length:Int):= by simpa using h3
 obtain⟨k,rfl⟩: ∃k:Nat,n=(k:Int):=⟨n.toNat, by omega⟩
 obtain⟨x,hx⟩: ∃x,fl[k]? =some x:=⟨_,WB (by omega)⟩
 refine Qr (Qd (Qg ?_))
 obtain⟨lv,hS6⟩:=HC (hS2.pick [0,1,2] rfl)
 obtain⟨fa,fcap,hlv,hfm⟩:=hS6.own_shape 1 rfl
 obtain rfl:=hlv
 refine Qb (Qe Qa Qa (Ql Qa Qa (Qi Qa Wb Qa (Qq Qa HS (hS6.cell 0 Qa Qa) Qa (Qe Qa Qa (ZP pkC 1 k hS6 Qa Qa Qa (by rfl) hx es_86 Qa ?_))))))
 intro bx8 capx8 hvx8
 refine NA 1 k hS6 Qa hvx8 Qa hx MW W9 Qa Qa (Xl hS6 Jk Qa Qa ?_)
 intro b9 w9 hS9
 (refine QZ hS9 Qa Qa W9 Qa (by rfl) (i:=0) Qa (by decide) ?_)
 intro w10 hS11; dsimp only[List.set]at hS11
 refine Qh (Qd (Qk [1,0,4,5,6] Qa (Qg (Qb (Qe Qa Qa (Qe Qa Qa (Ql Qa Qa (Qi Qa Wb Qa (Qq Qa HS (hS11.cell 1 Qa Qa) Qa (Qe Qa Qa (Qe Qa Qa (Xx Qa Qa (by omega) (by omega) Qa ?_))))))))))))
 refine Qz cal_109 Qa (delP_sp (hS11.sp [2] Qa) (i:=k) (by omega) (by omega)) Qa ?_
 rintro _ w12 hS12
 replace hS12:=hS12.jn Qa Qa
 refine Ql Qa Qa (Qi Qa Wb Qa ?_)
 (refine Q7 hS12 Qa Qa DM (hS12.own_one 0 Qa) (i:=2) Qa (Xd Qa) ?_)
 intro w13 hS14; dsimp only[List.set]at hS14
 refine Qh (Qd (Qk [4,5,6] Qa (Qg (Qb ?_))))
 refine ZK Qa MW W9 (by first | exact hS14.blk 1 Qa | exact hS14.blk 2 Qa | exact hS14.blk 3 Qa) (by first | decide | exact Xd Qa | (simp;done) | omega) Qa Qa ?_
 (refine QZ hS14 Qa Qa W9 Qa (by rfl) (i:=3) Qa (by decide) ?_)
 intro w15 hS16; dsimp only[List.set]at hS16
 refine Qc Qa Qa (Qh (Qd (Qo ?_)))
 refine PY (.inr Qa) Qa (RZ Qa MW W9 (by first | exact hS16.blk 1 Qa | exact hS16.blk 2 Qa | exact hS16.blk 3 Qa) (by first | decide | exact Xd Qa | (simp;done) | omega) Qa) (Oa Qa) ?_
 exact⟨_,rfl, by rw[(KY hx).2.1,(KY hx).2.2];rfl, by rw[(KY hx).1]; exact ZL (hS16.pick [2,0,4] Qa)⟩
theorem TP {w:World} {p:Nat} {fl:List (Bool×Bs)} {cut:Bool} {F:Th} (hS:Sat w [Gi p fl cut,F]) (n:Int) (hf:fl.length≤500):
    Calls prog 40 #[ptrV p 0,intV n] w (Ret fun v w'=>(∃r:Int,v=intV r)∧Sat w' [Gi p (Bx fl n) cut,F]):= by
 refine Qx func40 Qa ntmps40 Qa ?_
 refine Qg (Qb (Qc Qa Qa (Qh (Qd (Qg (Qb (Qe Qa Qa (Qe Qa Qa (Qz Ht Qa (Ju (hS.sp [0] Qa) n hf) Qa ?_)))))))))
 rintro _ w1 ⟨rfl,hS1⟩
 replace hS1:=hS1.jn Qa Qa
 refine Qe Qa Qa (Q6 Qa Qa Qa (Q6 Qa Qa Qa (Xl hS1 Jk Qa Qa ?_)))
 intro b2 w2 hS2
 first | (refine QZ hS2 Qa Qa W9 Qa (by rfl) (i:=0) Qa (by decide) ?_)
 intro w3 hS4; dsimp only[List.set]at hS4
 exact Qc Qa Qa (Qh (Qd (Qk [4,6] Qa (Qg (Qb (Qe Qa Qa (Qc Qa Qa (Qh (Qd (Qo (Q5 (.inr Qa) Qa Qa (⟨_,Qa,⟨_,Qa⟩,hS4.pick [1,2] Qa⟩))))))))))))
def R8:RowC Nat:=⟨fun a=>[ptrV a 0],1, by decide, fun _=>rfl, fun _=>rfl⟩
structure TwQ where
  sv:Value
  a:Nat
  b:Nat
  p:Nat
def GW [tq:Inhabited TwQ] (x:Nat) (X:TwD):Th:=starL [QR x [(default:TwQ).sv,ptrV (default:TwQ).p 0],rowT R8 (default:TwQ).sv [(default:TwQ).a,(default:TwQ).b],Xu (default:TwQ).a X.a,Xu (default:TwQ).b X.b,Gi (default:TwQ).p X.fl X.cut]
structure XW (X:TwD):Prop where
  a:EW X.a
  b:EW X.b
  fl: ∀p∈X.fl,p.2.length≤1000
  ln:X.fl.length≤500
section
variable {w:World} {As:List Th} {x a b p eb cap:Nat} {X:TwD} {i:Bool} {s:Bs} {fl:List (Bool×Bs)}
theorem H4 [tq:Inhabited TwQ] (h:Sat w (GW x X::As)): ∃eb cap a b p,(default:TwQ)=⟨.slice (some ⟨eb,0,none⟩) 2 cap,a,b,p⟩∧Sat w (QR x [.slice (some ⟨eb,0,none⟩) 2 cap,ptrV p 0]::rowT R8 (.slice (some ⟨eb,0,none⟩) 2 cap) [a,b]::Xu a X.a::Xu b X.b::Gi p X.fl X.cut::As):= by
  unfold GW at h
  have h1:=h.flat
  obtain⟨eb,cap,hq,_⟩:=h1.own_at 1 rfl (by show 0<2;omega)
  generalize (default:TwQ)=q at hq h1⊢
  obtain⟨sv,a,b,p⟩:=q
  dsimp only at hq h1
  subst hq
  exact⟨eb,cap,a,b,p,Qa,h1⟩
theorem QY [tq:Inhabited TwQ] {sv:Value} (h:Sat w (QR x [sv,ptrV p 0]::rowT R8 sv [a,b]::Xu a X.a::Xu b X.b::Gi p X.fl X.cut::As)) (hq:(default:TwQ)=⟨sv,a,b,p⟩):Sat w (GW x X::As):= by
  unfold GW
  rw[hq]
  exact Sat.fold (As:=[QR x [sv,ptrV p 0],rowT R8 sv [a,b],Xu a X.a,Xu b X.b,Gi p X.fl X.cut]) h
theorem AW:Jx X i s={X with fl:=Hl X.fl X.cut i s}:= by
  unfold Jx Hl
  split<;>rfl
theorem SO {l:List Bs} {k:Nat} (h:l[k]? =some s):Wp X i (l.take (k+1))=Jx (Wp X i (l.take k)) i s:= by
  unfold Wp
  rw[List.take_add_one,h,List.foldl_append];rfl
theorem Ed (h:X.fl.length≤500):(Jx X i s).fl.length≤500:= by
  unfold Jx
  split
  · exact h
  · rename_i q; show(X.fl++_).length≤500; rw[List.length_append]; simp;omega
theorem T9: ∀{l:List Bs} {X:TwD},X.fl.length≤500→(Wp X i l).fl.length≤500
  | [],_,h=>h
  | s::l,X,h=>T9 (l:=l) (X:=Jx X i s) (Ed h)
def Iq (fl:List (Bool×Bs)) (n:Int):List (Bool×Bs):= match fl[n.toNat]? with
  | none=>fl
  | some p=> if 500≤fl.length then fl else fl++[p]
theorem CC {n:Int} {m:Nat} (h:0<m):0≤Zs n m∧Zs n m<(m:Int):= by
  unfold Zs
  rw[if_neg (by omega)]
  exact⟨Int.emod_nonneg _ (by omega),Int.emod_lt_of_pos _ (by omega)⟩
theorem dlv_mod {n:Int}:Bx fl (Zs n fl.length)=fl.eraseIdx (Zs n fl.length).toNat:= by
  unfold Bx
  split
  · rfl
  · rename_i h
    cases fl with
    | nil=>rfl
    | cons p l=> exact absurd (CC (n:=n) (m:=(p::l).length) (by simp)) h
end
def Ni (fl:List (Bool×Bs)) (n:Int):List (Bool×Bs):= if 0≤n∧n<(fl.length:Int)then Iq fl n else fl
theorem dbl_mod {fl:List (Bool×Bs)} {n:Int}:Ni fl (Zs n fl.length)=Iq fl (Zs n fl.length):= by
  unfold Ni
  split
  · rfl
  · rename_i h
    cases fl with
    | nil=>rfl
    | cons p l=> exact absurd (CC (n:=n) (m:=(p::l).length) (by simp)) h
theorem Pv {w:World} {p:Nat} {fl:List (Bool×Bs)} {cut:Bool} {F:Th} (hS:Sat w [Gi p fl cut,F]) (n:Int) (hf:fl.length≤500):
    Calls prog 42 #[ptrV p 0,intV n] w (Ret fun v w'=>(∃r:Int,v=intV r)∧Sat w' [Gi p (Ni fl n) cut,F]):= by
 refine Qx func42 Qa ntmps42 Qa ?_
 refine Qg (Qb (Qc Qa Qa (Qh (Qd (Qg (QD (Qg (Qb (Qe Qa Qa (Qe Qa Qa (Qz I2 Qa (Pu (hS.sp [0] Qa) n) Qa ?_)))))))))))
 rintro _ w1 ⟨rfl,hS1⟩
 replace hS1:=hS1.jn Qa Qa
 refine XL Qa Qa (Qc Qa Qa (Qh (Qd (Xb Qa (fun h2=> ?_) (fun h2=> ?_)))))
 ·have hno: ¬(0≤n∧n<(fl.length:Int)):= by have q9:=h2; simp at q9;omega
  refine Qg (Qb (Qc Qa Qa (Qh (Qd (Qo (Qy (Qm (Q5 (.inr Qa) Qa Qa ?_))))))))
  exact⟨_,rfl,⟨_,rfl⟩, by unfold Ni; rw[if_neg hno]; exact hS1.pick [0,1] Qa⟩
 have hyes:0≤n∧n<(fl.length:Int):= by simpa using h2
 obtain⟨k,rfl⟩: ∃k:Nat,n=(k:Int):=⟨n.toNat, by omega⟩
 obtain⟨x,hx⟩: ∃x,fl[k]? =some x:=⟨_,WB (by omega)⟩
 refine Qg ?_
 obtain⟨lv,hS3⟩:=HC (hS1.pick [0,1] rfl)
 obtain⟨fb,fcap,hlv,hfm⟩:=hS3.own_at 1 rfl (by omega)
 obtain rfl:=hlv
 refine Qb (Qe Qa Qa (Ql Qa Qa (Qi Qa Wb Qa (Qq Qa HS (hS3.cell 0 Qa Qa) Qa (Xi underlying86 Qa Qa (WX Qa Qa Qa (Qc Qa Qa (Qh (Qd (Qk [1,0,4,10] Qa (Qt Qa (fun h5=> ?_) (fun h5=> ?_))))))))))))
 ·refine Qg (Qb (Qc Qa Qa (Qh (Qd (Qo (Qy (Qm (Q5 (.inr Qa) Qa Qa ?_))))))))
  exact⟨_,rfl,⟨_,rfl⟩, by unfold Ni Iq; rw[if_pos hyes,Int.toNat_natCast,hx]; dsimp only; rw[if_pos (by omega)]; exact ZL (hS3.pick [0,1,2] Qa)⟩
 refine Qr (Qp (Qd (Qg ?_)))
 have hS6:=hS3.drew
 refine QM [0,1,2,3,4,5,6,7,8,9,10,11,12,13,14,15,16] [12,13,16] Wv (by kernel_rfl) ?_
 refine QK Qa Qa Qa (QK Qa Qa Qa (Xm Qa Qa Qa (QN Qa Qa Qa Wb (Q9 Qa Qa Qa (Qn Qa HS (hS6.cell 0 Qa Qa)) (QK Qa Qa Qa (Xm Qa Qa Qa (QN Qa Qa Qa Wb (Q9 Qa Qa Qa (Qn Qa HS (hS6.cell 0 Qa Qa)) (QK Qa Qa Qa (QC Qa Qa Qa (fun _=>(Xk k Qa Qa (by rfl) (by omega) es_86)) ?_))))))))))
 refine Q9 Qa Qa Qa (CZ pkC 1 k hS6 Qa hx MW W9 Qa Qa) (QS Qa Qa Qa Qa Qa Qa ?_)
 refine Xc pkC [x] hS6 Qa underlying86 Gl Qa Qa Qa Qa (by rfl) rfl ?_
 intro b7 w7 hS7
 refine Xe (.skip (by kernel_rfl) (.skip (by kernel_rfl) (.cons (.inl ⟨rfl,(Qn Qa HS (hS7.cell 1 Qa Qa))⟩) .nil))) ?_
 refine QS Qa Qa Qa Qa Qa Qa ?_
 refine XP pkC 2 hS7 Qa Qa Qa (hS7.rd 0 Qa (by simp)) underlying86 underlying86 (by intro k hk; cases hk) KJ Qa (by simp only[List.length_cons,List.length_nil];omega) Qa (by simp only[List.length_cons,List.length_nil];omega) ?_
 intro v8 w8 hS8; dsimp only[List.set]at hS8
 have h1v8:v8.oneCell'=true:=hS8.own_one 2 Qa
 refine Xe (Xp (by kernel_rfl)) ?_
 refine Xm Qa Qa Qa (QN Qa Qa Qa Wb (QS Qa Qa Qa Qa Qa Qa ?_))
 first | (refine Q7 hS8 Qa Qa DM (by assumption) (i:=1) Qa (Xd Qa) ?_)
 intro w9 hS10; dsimp only[List.set]at hS10
 refine Z6 (Xp (by kernel_rfl)) ?_
 refine VC.nil (Qd (Qk [4] Qa (Qg (Qb (Qc Qa Qa (Qh (Qd (Qo (Q5 (.inr Qa) Qa Qa ?_)))))))))
 exact⟨_,rfl,⟨_,rfl⟩, by unfold Ni Iq; rw[if_pos hyes,Int.toNat_natCast,hx]; dsimp only; rw[if_neg (by omega)]; exact ZL (hS10.pick [1,2,3] Qa)⟩
theorem WE {w:World} [tq:Inhabited TwQ] {x:Nat} {X:TwD} {F:Th} {lv:Value} {l:List Bs} (hS:Sat w [GW x X,rowT Z2 lv l,F]) (i:Bool) (hl:l.length≤100000000000):
    Calls prog 43 #[ptrV x 0,intV (if i=true then 1 else 0),lv] w (Ret fun v w'=>v= .tuple #[]∧Sat w' [GW x (Wp X i l),F]):= by
 obtain⟨ao,cap,hlv,hcap,_⟩:=hS.own_shape 1 rfl
 obtain rfl:=hlv
 refine Qx func43 Qa ntmps43 Qa ?_
 refine Qg (Qb (Qc Qa Qa (Qh (Qd (QD ?_)))))
 refine X8 (fun K0 E0 W0=> ∃(k:Nat),K0=l.length -k∧E0=[(0,ptrV x 0),(1,intV (if i=true then 1 else 0)),(2,.slice ao l.length cap),(6,intV (k:Int))]∧Sat W0 [GW x (Wp X i (l.take k)),rowT Z2 (.slice ao l.length cap) l,F]∧(k≤l.length)) (L0:=[(0,_),(1,_),(2,_),(6,_)]) (l.length -0) (DB Qa Qa Qa Qa) ⟨0,rfl,rfl,hS.pick [0,1,2] Qa, by omega⟩ ?_
 rintro _ _ w1 ⟨k,rfl,rfl,hS1,hi⟩
 refine Qg (Qg (Qb (Qe Qa Qa (Qe Qa Qa ?_))))
 first | refine Xi underlying66 Qa Qa ?_ | refine Xs 1 hS1 underlying66 Qa Qa Qa ?_
 refine X0 Qa Qa Qa (Qh (Qd (Qt Qa (fun h2=> ?_) (fun h2=> ?_))))
 ·obtain⟨y,hy⟩: ∃y,l[k]? =some y:=⟨_,WB (by omega)⟩
  obtain⟨lb,lo,rfl,hc⟩:=(hS1.rd 1 rfl (by omega)).get hy
  refine Qr (Qd (Qg (QD ?_)))
  obtain⟨eb,ecap,a,b,p,hq0,hS3⟩:=H4 (hS1.pick [0,1,2] rfl)
  have hS4:=hS3.drew
  have hc:=(hS4.rd 5 Qa (by omega)).at_ hy
  refine QM [0,1,2,3,4,5,6,7,8,9] [9] Wv (by kernel_rfl) ?_
  refine QK Qa Qa Qa (Xm Qa Qa Qa (QN Qa Qa Qa XN (Q9 Qa Qa Qa (Qn Qa Xv (hS4.cell 0 Qa Qa)) (QK Qa Qa Qa (QK Qa Qa Qa (QK Qa Qa Qa (QC Qa Qa Qa (fun _=>(Xk k Qa Qa (by rfl) (by omega) Sg)) ?_)))))))
  refine Q9 Qa Qa Qa (Qn Qa Zr (hc 0 _ Qa)) (QS Qa Qa Qa Qa Qa Qa ?_)
  refine Qz cal_82 Qa (E9 (hS4.sp [4] Qa) i y) Qa ?_
  rintro _ w5 ⟨⟨_,rfl⟩,hS5⟩
  replace hS5:=hS5.jn Qa Qa
  refine Xe (Xp (by kernel_rfl)) ?_
  refine VC.nil (Qp (Qd (Qk [6,2,1,0] Qa (Qb (Qe Qa Qa (Xx Qa Qa (by omega) (by omega) Qa ?_))))))
  refine Qc Qa Qa (Qh ?_)
  exact Xa (L1:=[(0,_),(1,_),(2,_),(6,intV ((k+1:Nat):Int))]) (DB Qa Qa Qa Qa) (k1:=l.length -(k+1)) (by omega) ⟨k+1,rfl,rfl,(by rw[SO hy,AW]; exact QY (X:={Wp X i (l.take k)with fl:=Hl (Wp X i (l.take k)).fl (Wp X i (l.take k)).cut i y}) (hS5.pick [1,2,3,4,0,5,6] Qa) (by assumption)), by omega⟩
 refine Xq (Q2 (Q2 (QH (Y4 (.inl Qa) Qa ?_))))
 exact⟨_,rfl,rfl, by rw[show l=l.take k by rw[List.take_of_length_le (by omega)]]; exact hS1.pick [0,2] Qa⟩
