/- link: Deliver, Drop -/
import Derived.Test.YtiibgheijbbmaaaGreatDoorMvl
import Derived.Test.YtiibgheijbbmaaaGreatDoorMvy7
set_option linter.unusedVariables false
set_option maxRecDepth 100000
namespace Go.Proofs.YtiibgheijbbmaaaGreatDoor
open Go.RowKit M Proofs.Tryz
def FE (fl:List (Bool×Bs)) (n:Int):List (Bool×Bs):= if 0≤n∧n<(fl.length:Int)then fl.eraseIdx n.toNat else fl
def FD (fl:List (Bool×Bs)) (n:Int):Int×Bs:= if 0≤n∧n<(fl.length:Int)then(if(fl.getD n.toNat (false,[])).1=true then 1 else 0,(fl.getD n.toNat (false,[])).2)else(0,[])
def FF (fl:List (Bool×Bs)) (n:Int):Int:= if 0≤n∧n<(fl.length:Int)then 0 else 4
section
variable {fl:List (Bool×Bs)} {n:Int} {k:Nat} {x:Bool×Bs}
theorem MI (h: ¬(0≤n∧n<(fl.length:Int))):FE fl n=fl∧FD fl n=(0,[])∧FF fl n=4:= by
  unfold FE FD FF; rw[if_neg h,if_neg h,if_neg h]; exact⟨rfl,rfl,rfl⟩
theorem Ri (hx:fl[k]? =some x):FE fl (k:Int)=fl.eraseIdx k∧FD fl (k:Int)=(if x.1=true then 1 else 0,x.2)∧FF fl (k:Int)=0:= by
  have h:0≤(k:Int)∧(k:Int)<(fl.length:Int):= by have :=(Jo hx).1;omega
  unfold FE FD FF
  rw[if_pos h,if_pos h,if_pos h,Int.toNat_natCast,List.getD_eq_getElem?_getD,hx]
  exact⟨Qa,Qa,Qa⟩
end
theorem JA {w:World} {p:Nat} {fl:List (Bool×Bs)} {cut:Bool} {F:Th} (hS:Sat w [Ds p fl cut,F]) (n:Int) (hf:fl.length≤500):
    Calls prog 80 #[ptrV p 0,intV n] w (Ret fun v w'=>v= .tuple #[.agg #[intV (FD fl n).1,strV (FD fl n).2],intV (FF fl n)]∧Sat w' [Ds p (FE fl n) cut,F]):= by
 refine Qy func80 Qa ntmps80 Qa ?_
 refine Qg (Qb (Xk hS Jq Qa Qa ?_))
 intro b1 w1 hS1
 refine Qc Qa Qa (Qh (Qe (Qg (Qg (Qb (Qd Qa Qa (Qd Qa Qa (Q4 cal_81 Qa (Ig (hS1.sp [1] Qa) n) Qa ?_))))))))
 rintro _ w2 ⟨rfl,hS2⟩
 replace hS2:=hS2.jn Qa Qa
 refine XS Qa Qa (Qh (Qe (Xd Qa (fun h3=> ?_) (fun h3=> ?_))))
 ·have hno: ¬(0≤n∧n<(fl.length:Int)):= by have q9:=h3; simp at q9;omega
  refine Qg (Qb (Zu Qa pl_113_ GI Jq Qa Qa ?_))
  first | (refine QX hS2 Qa Qa WO Qa (by rfl) (i:=1) Qa (by decide) ?_)
  intro w4 hS5; dsimp only[List.set]at hS5
  refine Qc Qa Qa (Qh (Qe (Qo (Qm ?_))))
  refine PZ (.inr Qa) Qa (Gc Qa N7 WO (by first | exact hS5.blk 1 Qa) (by first | decide | exact Xe Qa | (simp;done) | omega) Qa) (O7 Qa) ?_
  exact⟨_,rfl, by rw[(MI hno).2.1,(MI hno).2.2];rfl, by rw[(MI hno).1]; exact hS5.pick [0,2] Qa⟩
 have hyes:0≤n∧n<(fl.length:Int):= by simpa using h3
 obtain⟨k,rfl⟩: ∃k:Nat,n=(k:Int):=⟨n.toNat, by omega⟩
 obtain⟨x,hx⟩: ∃x,fl[k]? =some x:=⟨_,WU (by omega)⟩
 refine Qr (Qe (Qg ?_))
 obtain⟨lv,hS6⟩:=Kv (hS2.pick [0,1,2] rfl)
 obtain⟨fa,fcap,hlv,hfm⟩:=hS6.own_shape 1 rfl
 obtain rfl:=hlv
 refine Qb (Qd Qa Qa (Ql Qa Qa (Qi Qa Je Qa (Qp Qa VX (hS6.cell 0 Qa Qa) Qa (Qd Qa Qa (ZP pkC 1 k hS6 Qa Qa Qa (by rfl) hx es_86 Qa ?_))))))
 intro bx8 capx8 hvx8
 refine NB 1 k hS6 Qa hvx8 Qa hx N7 WO Qa Qa (Xk hS6 Jq Qa Qa ?_)
 intro b9 w9 hS9
 (refine QX hS9 Qa Qa WO Qa (by rfl) (i:=0) Qa (by decide) ?_)
 intro w10 hS11; dsimp only[List.set]at hS11
 refine Qh (Qe (Qk [1,0,4,5,6] Qa (Qg (Qb (Qd Qa Qa (Qd Qa Qa (Ql Qa Qa (Qi Qa Je Qa (Qp Qa VX (hS11.cell 1 Qa Qa) Qa (Qd Qa Qa (Qd Qa Qa (Xq Qa Qa (by omega) (by omega) Qa ?_))))))))))))
 refine Q4 cal_109 Qa (delP_sp (hS11.sp [2] Qa) (i:=k) (by omega) (by omega)) Qa ?_
 rintro _ w12 hS12
 replace hS12:=hS12.jn Qa Qa
 refine Ql Qa Qa (Qi Qa Je Qa ?_)
 (refine QC hS12 Qa Qa NN (hS12.own_one 0 Qa) (i:=2) Qa (Xe Qa) ?_)
 intro w13 hS14; dsimp only[List.set]at hS14
 refine Qh (Qe (Qk [4,5,6] Qa (Qg (Qb ?_))))
 refine Zg Qa N7 WO (by first | exact hS14.blk 1 Qa | exact hS14.blk 2 Qa | exact hS14.blk 3 Qa) (by first | decide | exact Xe Qa | (simp;done) | omega) Qa Qa ?_
 (refine QX hS14 Qa Qa WO Qa (by rfl) (i:=3) Qa (by decide) ?_)
 intro w15 hS16; dsimp only[List.set]at hS16
 refine Qc Qa Qa (Qh (Qe (Qo ?_)))
 refine PZ (.inr Qa) Qa (Gc Qa N7 WO (by first | exact hS16.blk 1 Qa | exact hS16.blk 2 Qa | exact hS16.blk 3 Qa) (by first | decide | exact Xe Qa | (simp;done) | omega) Qa) (O7 Qa) ?_
 exact⟨_,rfl, by rw[(Ri hx).2.1,(Ri hx).2.2];rfl, by rw[(Ri hx).1]; exact Wr (hS16.pick [2,0,4] Qa)⟩
def Rz:RowC Nat:=⟨fun a=>[ptrV a 0],1, by decide, fun _=>rfl, fun _=>rfl⟩
structure TwQ where
  sv:Value
  a:Nat
  b:Nat
  p:Nat
def Ka [tq:Inhabited TwQ] (x:Nat) (X:TwD):Th:=starL [QR x [(default:TwQ).sv,ptrV (default:TwQ).p 0],rowT Rz (default:TwQ).sv [(default:TwQ).a,(default:TwQ).b],Xs (default:TwQ).a X.a,Xs (default:TwQ).b X.b,Ds (default:TwQ).p X.fl X.cut]
structure XW (X:TwD):Prop where
  a:EW X.a
  b:EW X.b
  fl: ∀p∈X.fl,p.2.length≤1000
  ln:X.fl.length≤500
section
variable {w:World} {As:List Th} {x a b p eb cap:Nat} {X:TwD} {i:Bool} {s:Bs} {fl:List (Bool×Bs)}
theorem JU [tq:Inhabited TwQ] (h:Sat w (Ka x X::As)): ∃eb cap a b p,(default:TwQ)=⟨.slice (some ⟨eb,0,none⟩) 2 cap,a,b,p⟩∧Sat w (QR x [.slice (some ⟨eb,0,none⟩) 2 cap,ptrV p 0]::rowT Rz (.slice (some ⟨eb,0,none⟩) 2 cap) [a,b]::Xs a X.a::Xs b X.b::Ds p X.fl X.cut::As):= by
  unfold Ka at h
  have h1:=h.flat
  obtain⟨eb,cap,hq,_⟩:=h1.own_at 1 rfl (by show 0<2;omega)
  generalize (default:TwQ)=q at hq h1⊢
  obtain⟨sv,a,b,p⟩:=q
  dsimp only at hq h1
  subst hq
  exact⟨eb,cap,a,b,p,Qa,h1⟩
theorem Zm [tq:Inhabited TwQ] {sv:Value} (h:Sat w (QR x [sv,ptrV p 0]::rowT Rz sv [a,b]::Xs a X.a::Xs b X.b::Ds p X.fl X.cut::As)) (hq:(default:TwQ)=⟨sv,a,b,p⟩):Sat w (Ka x X::As):= by
  unfold Ka
  rw[hq]
  exact Sat.fold (As:=[QR x [sv,ptrV p 0],rowT Rz sv [a,b],Xs a X.a,Xs b X.b,Ds p X.fl X.cut]) h
theorem O3:Jb X i s={X with fl:=Ht X.fl X.cut i s}:= by
  unfold Jb Ht
  split<;>rfl
theorem SW {l:List Bs} {k:Nat} (h:l[k]? =some s):ZO X i (l.take (k+1))=Jb (ZO X i (l.take k)) i s:= by
  unfold ZO
  rw[List.take_add_one,h,List.foldl_append];rfl
theorem Ex (h:X.fl.length≤500):(Jb X i s).fl.length≤500:= by
  unfold Jb
  split
  · exact h
  · rename_i q; show(X.fl++_).length≤500; rw[List.length_append]; simp;omega
theorem TA: ∀{l:List Bs} {X:TwD},X.fl.length≤500→(ZO X i l).fl.length≤500
  | [],_,h=>h
  | s::l,X,h=>TA (l:=l) (X:=Jb X i s) (Ex h)
theorem modN_rg {n:Int} {m:Nat} (h:0<m):0≤ZU n m∧ZU n m<(m:Int):= by
  unfold ZU
  rw[if_neg (by omega)]
  exact⟨Int.emod_nonneg _ (by omega),Int.emod_lt_of_pos _ (by omega)⟩
end
theorem Y5 {w:World} [tq:Inhabited TwQ] {x:Nat} {X:TwD} {F:Th} {lv:Value} {l:List Bs} (hS:Sat w [Ka x X,rowT Z4 lv l,F]) (i:Bool) (hl:l.length≤100000000000):
    Calls prog 43 #[ptrV x 0,intV (if i=true then 1 else 0),lv] w (Ret fun v w'=>v= .tuple #[]∧Sat w' [Ka x (ZO X i l),F]):= by
 obtain⟨ao,cap,hlv,hcap,_⟩:=hS.own_shape 1 rfl
 obtain rfl:=hlv
 refine Qy func43 Qa ntmps43 Qa ?_
 refine Qg (Qb (Qc Qa Qa (Qh (Qe (QD ?_)))))
 refine XD (fun K0 E0 W0=> ∃(k:Nat),K0=l.length -k∧E0=[(0,ptrV x 0),(1,intV (if i=true then 1 else 0)),(2,.slice ao l.length cap),(6,intV (k:Int))]∧Sat W0 [Ka x (ZO X i (l.take k)),rowT Z4 (.slice ao l.length cap) l,F]∧(k≤l.length)) (L0:=[(0,_),(1,_),(2,_),(6,_)]) (l.length -0) (DF Qa Qa Qa Qa) ⟨0,rfl,rfl,hS.pick [0,1,2] Qa, by omega⟩ ?_
 rintro _ _ w1 ⟨k,rfl,rfl,hS1,hi⟩
 refine Qg (Qg (Qb (Qd Qa Qa (Qd Qa Qa ?_))))
 first | refine Xj underlying66 Qa Qa ?_ | refine X3 1 hS1 underlying66 Qa Qa Qa ?_
 refine Xz Qa Qa Qa (Qh (Qe (Qw Qa (fun h2=> ?_) (fun h2=> ?_))))
 ·obtain⟨y,hy⟩: ∃y,l[k]? =some y:=⟨_,WU (by omega)⟩
  obtain⟨lb,lo,rfl,hc⟩:=(hS1.rd 1 rfl (by omega)).get hy
  refine Qr (Qe (Qg (QD ?_)))
  obtain⟨eb,ecap,a,b,p,hq0,hS3⟩:=JU (hS1.pick [0,1,2] rfl)
  have hS4:=hS3.drew
  have hc:=(hS4.rd 5 Qa (by omega)).at_ hy
  refine QT [0,1,2,3,4,5,6,7,8,9] [9] Jk (by kernel_rfl) ?_
  refine QM Qa Qa Qa (Xw Qa Qa Qa (QQ Qa Qa Qa ZD (QH Qa Qa Qa (Qn Qa XR (hS4.cell 0 Qa Qa)) (QM Qa Qa Qa (QM Qa Qa Qa (QM Qa Qa Qa (QG Qa Qa Qa (fun _=>(Zc k Qa Qa (by rfl) (by omega) Sj)) ?_)))))))
  refine QH Qa Qa Qa (Qn Qa Zw (hc 0 _ Qa)) (Xb Qa Qa Qa Qa Qa Qa ?_)
  refine Q4 cal_82 Qa (EU (hS4.sp [4] Qa) i y) Qa ?_
  rintro _ w5 ⟨⟨_,rfl⟩,hS5⟩
  replace hS5:=hS5.jn Qa Qa
  refine Xn (XC (by kernel_rfl)) ?_
  refine VC.nil (Qq (Qe (Qk [6,2,1,0] Qa (Qb (Qd Qa Qa (Xq Qa Qa (by omega) (by omega) Qa ?_))))))
  refine Qc Qa Qa (Qh ?_)
  exact QY (L1:=[(0,_),(1,_),(2,_),(6,intV ((k+1:Nat):Int))]) (DF Qa Qa Qa Qa) (k1:=l.length -(k+1)) (by omega) ⟨k+1,rfl,rfl,(by rw[SW hy,O3]; exact Zm (X:={ZO X i (l.take k)with fl:=Ht (ZO X i (l.take k)).fl (ZO X i (l.take k)).cut i y}) (hS5.pick [1,2,3,4,0,5,6] Qa) (by assumption)), by omega⟩
 refine Xu (Q1 (Q1 (QJ (H5 (.inl Qa) Qa ?_))))
 exact⟨_,rfl,rfl, by rw[show l=l.take k by rw[List.take_of_length_le (by omega)]]; exact hS1.pick [0,2] Qa⟩
