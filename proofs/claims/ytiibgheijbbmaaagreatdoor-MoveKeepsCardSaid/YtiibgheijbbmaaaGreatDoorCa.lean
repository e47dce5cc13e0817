/- cell: Open -/
import Derived.Test.YtiibgheijbbmaaaGreatDoorSrt
import Derived.Test.YtiibgheijbbmaaaGreatDoorOp4
import Derived.Test.YtiibgheijbbmaaaGreatDoorDf
import Derived.Test.YtiibgheijbbmaaaGreatDoorWire
set_option linter.unusedVariables false
set_option maxRecDepth 100000
namespace Go.Proofs.YtiibgheijbbmaaaGreatDoor
open Go.RowKit M Proofs.Tryz
def acc (b1 b2 b3 b4:UInt8):Nat→Nat
  | 0=>((b4.toNat*256+b3.toNat)*256+b2.toNat)*256+b1.toNat
  | 1=>(b4.toNat*256+b3.toNat)*256+b2.toNat
  | 2=>b4.toNat*256+b3.toNat
  | 3=>b4.toNat
  | _=>0
theorem GP {b0 b1 b2 b3 b4 c:UInt8} {i:Nat} (h0:0<i) (h4:i≤4) (hc:[b0,b1,b2,b3,b4][i]? =some c):acc b1 b2 b3 b4 (i -1)=acc b1 b2 b3 b4 i*256+c.toNat:= by
  obtain rfl | rfl | rfl | rfl:i=1∨i=2∨i=3∨i=4:= by omega
  all_goals (simp at hc; subst hc; simp [acc])
theorem DA {b1 b2 b3 b4:UInt8} {i:Nat} (h:0<i):acc b1 b2 b3 b4 i<16777216:= by
  have :=BJ b1; have :=BJ b2; have :=BJ b3; have :=BJ b4
  unfold acc;split<;>omega
theorem Jq (b1 b2 b3 b4:UInt8):acc b1 b2 b3 b4 0=UV b1 b2 b3 b4:= by simp only[acc,UV];omega
theorem Tz {b:UInt8} {k:Nat} (hk:k<256) (h: ¬((b.toNat:Int)=(k:Int))):b≠UInt8.ofNat k:= by
  intro e; subst e; apply h; simp;omega
theorem T0 {b:UInt8} {k:Nat} (hk:k<256) (h:(b.toNat:Int)=(k:Int)):b=UInt8.ofNat k:= by
  apply UInt8.toNat_inj.1; simp;omega
theorem five {h:Bytes} (h1:h.length=5) {b0:UInt8} {r:Bytes} (hb:h=b0::r): ∃b1 b2 b3 b4,r=[b1,b2,b3,b4]:= by
  subst hb
  match r,h1 with
  | [b1,b2,b3,b4],_=> exact⟨_,_,_,_,rfl⟩
theorem J5 {h:Bytes} (hh:h=[]∨ ∃r,h=0::r):JQ h= .none:= by
  rcases hh with rfl | ⟨r,rfl⟩
  · rfl
  · simp [JQ]
theorem Uc {b0:UInt8} {r:Bytes} (h0:b0≠0) (hl:r.length≠4):JQ (b0::r)= .bad:= by
  unfold JQ
  simp only[h0,if_false]
  split
  · simp at hl
  · rfl
theorem Y9 {b0 b1 b2 b3 b4:UInt8} (h0:b0≠0) (hb: ¬((b0=1∨b0=2)∧UV b1 b2 b3 b4≤65536)):JQ [b0,b1,b2,b3,b4]= .bad:= by
  simp only[JQ,h0,if_false,if_neg hb]
theorem MA {b0 b1 b2 b3 b4:UInt8} (hb:b0=1∨b0=2) (hn:UV b1 b2 b3 b4≤65536):JQ [b0,b1,b2,b3,b4]= .slot b0.toNat (UV b1 b2 b3 b4):= by
  have h0:b0≠0:= by rcases hb with rfl | rfl<;>decide
  simp only[JQ,h0,if_false,if_pos (And.intro hb hn)]
theorem Yd {D:DS} {f:Int} (h1:Wf D f 0 5=0) (h2:JQ (WG D f 0 5)= .none):W3 D f=0∧J3 D f=RB f:= by
  rw[W3,J3,if_neg (by omega),h2]; exact⟨rfl,rfl⟩
theorem Gg {D:DS} {f:Int} (h1:Wf D f 0 5≠0):W3 D f≠0∧W3 D f=Wf D f 0 5:= by
  have :W3 D f=Wf D f 0 5:= by rw[W3,if_pos h1]
  exact⟨by rw[this]; exact h1,this⟩
theorem WD {D:DS} {f:Int} (h1:Wf D f 0 5=0) (h2:JQ (WG D f 0 5)= .bad):W3 D f≠0∧W3 D f=2:= by
  have :W3 D f=2:= by rw[W3,if_neg (by omega),h2]
  exact⟨by rw[this];decide,this⟩
theorem H9 {D:DS} {f:Int} {s n:Nat} (h1:Wf D f 0 5=0) (h2:JQ (WG D f 0 5)= .slot s n) (h3:(WG D f (QJ s) n).length<n):W3 D f≠0∧W3 D f=2:= by
  have :W3 D f=2:= by rw[W3,if_neg (by omega),h2]; simp only; rw[if_pos h3]
  exact⟨by rw[this];decide,this⟩
theorem Jg {D:DS} {f:Int} {s n:Nat} (h1:Wf D f 0 5=0) (h2:JQ (WG D f 0 5)= .slot s n) (h3: ¬(WG D f (QJ s) n).length<n):W3 D f=0∧J3 D f=⟨f,s,WG D f (QJ s) n,false⟩:= by
  refine⟨?_, ?_⟩
  · rw[W3,if_neg (by omega),h2]; simp only; rw[if_neg h3]
  · rw[J3,h2]
theorem Le {w:World} {p:Nat} {D:DS} {F:Th} (hS:Sat w [dT p D,F]) (hG:Ent F (Glob 0)) (f:Int):
    Calls prog 52 #[ptrV p 0,intV f] w (Ret fun v w'=>(W3 D f=0∧ ∃c,v= .tuple #[ptrV c 0,intV 0]∧Sat w' [QR c (Hm p (J3 D f)),dT p D,F])∨(W3 D f≠0∧v= .tuple #[.pointer none,intV (W3 D f)]∧Sat w' [dT p D,F])):= by
 refine Qx func52 Qa ntmps52 Qa ?_
 refine Qg (Qb (Qc Qa Qa (Qc Qa Qa (Qh (Qd (Qg (Qb (Qe Qa Qa (Qe Qa Qa (Zi Qa Mm LK A0 Qa Qa (XT hS Qa Qa Qa ?_)))))))))))
 intro b1 w1 hS1
 refine Qc Qa Qa (Qh (Qd (Qg (Qb (Qe Qa Qa (Qe Qa Qa (Qz B0 Qa (Ft (hS1.sp [1] Qa) f 0 5) Qa ?_)))))))
 rintro _ w2 ⟨rfl,hS2⟩
 replace hS2:=hS2.jn Qa Qa
 refine Qe Qa Qa (Q6 Qa Qa Qa (Q6 Qa Qa Qa (Qc Qa Qa (Qc Qa Qa (Qh ?_)))))
 obtain⟨h,hH⟩: ∃h,h=WG D f 0 5:=⟨_,rfl⟩
 rw[←hH]
 have hh5:(h.length:Int)≤5:= by have :=BB (D:=D) (f:=f) (a:=0) (n:=5); rw[←hH]at this;omega
 refine Qd (Qk [1,0,4,5,6,7,8] Qa (Qg (Qg (Qb (Qe Qa Qa (Xr Qa Qa Qa (Qh (Qd (Qt Qa (fun h3=> ?_) (fun h3=> ?_))))))))))
 ·have hE:Wf D f 0 5≠0:=h3
  exact Qg (Qb (Qe Qa Qa (Qc Qa Qa (Qc Qa Qa (Qh (Qd (Qo (Qm (ZG (.inr Qa) Qa Qa Qa (⟨_,rfl,.inr ⟨(Gg hE).1, by rw[(Gg hE).2],hS2.pick [0,2] Qa⟩⟩))))))))))
 have hE:Wf D f 0 5=0:=Decidable.not_not.1 h3
 refine Qr (Qd (Qg (Qg (Qb (Qe Qa Qa (Kz Qa Qa Qa (Qe Qa Qa (Q4 26 Qa (fun h4=> ?_) (fun h4=> ?_)))))))))
 ·have hh0:h=[]:=h4
  refine Qf Qa Qa (Q8 h4) Qa (Qf Qa Qa (Q8 h4) Qa (Qf Qa Qa (Q8 h4) Qa (Q0 Qa (Q8 h4) Qa Qa (Qh (Qd (Qk [1,0,4,5,6,7,8,30] Qa (QO Qa (Qg (Qb (Qe Qa Qa (Qc Qa Qa (Qc Qa Qa (Qh (Qd (Qo (Qm (ZG (.inr Qa) Qa Qa Qa ?_)))))))))))))))))
  subst hh0
  exact⟨_,rfl,.inl ⟨(Yd hE (by rw[←hH]; exact J5 (.inl Qa))).1,_,rfl, by rw[(Yd hE (by rw[←hH]; exact J5 (.inl Qa))).2]; exact hS2.pick [1,0,2] Qa⟩⟩
 obtain⟨b0,r,rfl⟩:=List.exists_cons_of_ne_nil h4
 refine Qj Qa Qa (Qw h4) (Qe Qa Qa (Qj Qa Qa (Qw h4) (Wx _ underlying9 Qa Qa (by rfl) (by rfl) rfl ?_)))
 refine Qj Qa Qa (Qw h4) (QL Qa Qa Qa (Q1 Qa (Qw h4) Qa Qa (Qh (Qd (Qk [1,0,4,5,6,7,8,30] Qa (Qt Qa (fun h5=> ?_) (fun h5=> ?_)))))))
 ·have hb00:b0=0:=T0 (k:=0) (by omega) h5
  refine Qg (Qb (Qe Qa Qa (Qc Qa Qa (Qc Qa Qa (Qh (Qd (Qo (Qm (ZG (.inr Qa) Qa Qa Qa ?_)))))))))
  exact⟨_,rfl,.inl ⟨(Yd hE (by rw[←hH]; exact J5 (.inr ⟨r, by rw[hb00]⟩))).1,_,rfl, by rw[(Yd hE (by rw[←hH]; exact J5 (.inr ⟨r, by rw[hb00]⟩))).2]; exact hS2.pick [1,0,2] Qa⟩⟩
 have hb0:b0≠0:=Tz (k:=0) (by omega) h5
 refine Qr (Qd (Qg (Qg (Qb (Qe Qa Qa (Zu underlying9 Qa Qa (X0 Qa Qa Qa (Qe Qa Qa (Q4 35 Qa (fun h6=> ?_) (fun h6=> ?_))))))))))
 ·have hlen5:=h6
  refine Qf Qa Qa (Q8 h6) Qa (Qf Qa Qa (Q8 h6) Qa (Qf Qa Qa (Q8 h6) Qa (Qf Qa Qa (Q8 h6) Qa (QG Qa Qa Qa (QG Qa Qa Qa (QG Qa Qa Qa (Qf Qa Qa (Q8 h6) Qa (Q0 Qa (Q8 h6) Qa Qa (Qh (Qd (Qk [1,0,4,5,6,7,8,44] Qa (QO Qa (Qg (Qb (Qc Qa Qa (Qc Qa Qa (Qh (Qd (Qo (Qm (ZG (.inr Qa) Qa Qa Qa ?_)))))))))))))))))))))
  exact⟨_,rfl,.inr ⟨(WD hE (by rw[←hH]; exact Uc hb0 (by simp at hlen5;omega))).1, by rw[(WD hE (by rw[←hH]; exact Uc hb0 (by simp at hlen5;omega))).2],hS2.pick [0,2] Qa⟩⟩
 have hlen5:r.length=4:= by simp at hh5; have :=h6; simp at this;omega
 obtain⟨b1_,b2,b3,b4,rfl⟩: ∃b1 b2 b3 b4,r=[b1,b2,b3,b4]:= by match r,hlen5 with | [b1,b2,b3,b4],_=> exact⟨_,_,_,_,rfl⟩
 refine Qj Qa Qa (Qw h6) (Qe Qa Qa (Qj Qa Qa (Qw h6) (Wx _ underlying9 Qa Qa (by rfl) (by rfl) rfl ?_)))
 refine Qj Qa Qa (Qw h6) (Xr Qa Qa Qa (Qj Qa Qa (Qw h6) (Qe Qa Qa (Q4 39 Qa (fun h7=> ?_) (fun h7=> ?_)))))
 ·have hn1:=Tz (k:=1) (by omega) h7
  refine Qj Qa Qa (Q8 h7) (Qe Qa Qa (Qj Qa Qa (Q8 h7) (Wx _ underlying9 Qa Qa (by rfl) (by rfl) rfl ?_)))
  refine Qj Qa Qa (Q8 h7) (Xr Qa Qa Qa (Qj Qa Qa (Qw h6) (Q0 Qa (Q8 h7) Qa Qa (Q1 Qa (Qw h6) Qa Qa (Qh (Qd (Qk [1,0,4,5,6,7,8,44] Qa (Qt Qa (fun h8=> ?_) (fun h8=> ?_)))))))))
  ·have hn2:=Tz (k:=2) (by omega) h8
   refine Qg (Qb (Qc Qa Qa (Qc Qa Qa (Qh (Qd (Qo (Qm (ZG (.inr Qa) Qa Qa Qa ?_))))))))
   exact⟨_,rfl,.inr ⟨(WD hE (by rw[←hH]; exact Y9 hb0 (by rintro⟨h12,_⟩; rcases h12 with rfl | rfl<;>simp_all))).1, by rw[(WD hE (by rw[←hH]; exact Y9 hb0 (by rintro⟨h12,_⟩; rcases h12 with rfl | rfl<;>simp_all))).2],hS2.pick [0,2] rfl⟩⟩
  have h12:b0=1∨b0=2:= .inr (T0 (k:=2) (by omega) (Decidable.not_not.1 h8))
  refine Qr (Qd (Qg (Qb (Qc Qa Qa (Qh (Qd (Qg (Qg (Qb (Qc Qa Qa (Qh (Qd (QD ?_)))))))))))))
  refine X8 (fun K0 E0 W0=> ∃(i:Nat),K0=1*i∧E0=[(0,ptrV p 0),(1,intV f),(6,ptrV b1 0),(7,strV [b0,b1_,b2,b3,b4]),(9,intV (acc b1_ b2 b3 b4 i:Nat)),(10,intV (i:Int))]∧Sat W0 [QR b1 (Hm p (RB f)),dT p D,F]∧(i≤4)) (L0:=[(0,_),(1,_),(6,_),(7,_),(9,_),(10,_)]) (4) (RM Qa Qa Qa Qa Qa Qa) ⟨4,rfl,rfl,hS2.reorder [1,0,2] Qa, by omega⟩ ?_
  rintro _ _ w9 ⟨i,rfl,rfl,hS9,hi⟩
  refine Qg (Qg (Qb (Qe Qa Qa (Wl Qa Qa Qa (Qh (Qd (Qt Qa (fun h10=> ?_) (fun h10=> ?_))))))))
  ·obtain⟨c,hc⟩: ∃c,[b0,b1_,b2,b3,b4][i]? =some c:=⟨_,WB (by simp;omega)⟩
   have hacc:=GP (by omega) hi hc
   have hal:=DA (b1:=b1_) (b2:=b2) (b3:=b3) (b4:=b4) (show 0<i by omega)
   have hcl:=BJ c
   have hi1:((i -1:Nat):Int)=(i:Int) -1:= by omega
   refine Qr (Qd (Qg (QD (Qb (Qe Qa Qa (Ci 8 Qa Qa Qa Qa (q:=256) Qa (by omega) (by omega) Qa ?_))))))
   refine Qe Qa Qa (Qe Qa Qa (Wx _ underlying9 Qa Qa (by first | rfl | omega) (by first | assumption | rfl) Qa ?_))
   refine YI underlying5 underlying3 Qa Qa ?_
   refine FN 8 (acc b1_ b2 b3 b4 i) Qa Qa (by rfl) (by constructor<;>omega) (by omega) Qa ?_
   refine Qc Qa Qa (Qh (Qp (Qd (Qk [10,7,6,1,0,9] Qa (Qb (Qe Qa Qa (JZ Qa Qa (by omega) (by omega) Qa ?_)))))))
   refine Qc Qa Qa (Qh ?_)
   exact Xa (L1:=[(0,_),(1,_),(6,_),(7,_),(9,intV ((acc b1_ b2 b3 b4 (i -1):Nat):Int)),(10,intV ((i -1:Nat):Int))]) (.cons Qa (.cons Qa (.cons Qa (.cons Qa (.cons (by rw[hacc];rfl) (.cons (by rw[hi1];rfl) .nil)))))) (k1:=1*(i -1)) (by omega) ⟨i -1,rfl,rfl,hS9, by omega⟩
  obtain rfl:i=0:= by omega
  refine Xq (Q2 (Q2 (QH (Qd (Qg (Qg (Qb (Qe Qa Qa (Wl Qa Qa Qa (Qh (Qd (Qt Qa (fun h11=> ?_) (fun h11=> ?_)))))))))))))
  ·refine Qg (Qb (Qc Qa Qa (Qc Qa Qa (Qh (Qd (Qk [9,7,6,1,0,4,5] Qa (Qo (Qm (ZG (.inr Qa) Qa Qa Qa ?_)))))))))
   exact⟨_,rfl,.inr ⟨(WD hE (by rw[←hH]; exact Y9 hb0 (by rw[←Jq];omega))).1, by rw[(WD hE (by rw[←hH]; exact Y9 hb0 (by rw[←Jq];omega))).2],hS9.pick [1,2] Qa⟩⟩
  have hn:UV b1_ b2 b3 b4≤65536:= by rw[←Jq];omega
  have hSl:JQ (WG D f 0 5)= .slot b0.toNat (UV b1_ b2 b3 b4):= by rw[←hH]; exact MA h12 hn
  rw[Jq]
  obtain⟨n,hN⟩: ∃n,n=UV b1_ b2 b3 b4:=⟨_,rfl⟩
  rw[←hN]at hSl hn⊢
  have h12n:b0.toNat=1∨b0.toNat=2:= by rcases h12 with rfl | rfl<;> simp
  refine Qr (Qd (Qg (Qb (Qe Qa Qa (Qe Qa Qa (Wx _ underlying9 Qa Qa (by first | rfl | omega) (by first | assumption | rfl) Qa ?_))))))
  refine YI underlying5 underlying3 Qa Qa (Ql Qa Qa (Qi Qa J7 Qa ?_))
  first | (refine Q7 hS9 Qa Qa Ya (by rfl) (i:=0) Qa (Xd Qa) ?_)
  intro w12 hS13; dsimp only[List.set]at hS13
  refine Qh (Qd (Qk [9,6,1,0] Qa (Qg (Qb (Qe Qa Qa (Qe Qa Qa (Qe Qa Qa (Qe Qa Qa (Ql Qa Qa (Qi Qa J7 Qa (Qq Qa QF (hS13.cell 0 Qa Qa) Qa (Hv _ underlying132 Qa Qa (by rfl) (by omega) Ya Qa ?_))))))))))))
  have hg:=(hG.sat hS13 2 Qa).off h12n
  refine Qq Qa QF (by assumption) Qa ?_
  refine Qe Qa Qa (Qz B0 Qa (Ft (hS13.sp [1] Qa) f (QJ b0.toNat) n) Qa ?_)
  rintro _ w14 ⟨rfl,hS14⟩
  replace hS14:=hS14.jn Qa Qa
  have hE2:Wf D f (QJ b0.toNat) n=0:=JY hE (Jf _) (by omega)
  rw[hE2]
  refine Qe Qa Qa (Q6 Qa Qa Qa (Q6 Qa Qa Qa (Ql Qa Qa (Qi Qa Y3 Qa ?_))))
  first | (refine Q7 hS14 Qa Qa R2 (by rfl) (i:=1) Qa (Xd Qa) ?_)
  intro w15 hS16; dsimp only[List.set]at hS16
  refine Qc Qa Qa (Qh ?_)
  have hE2:Wf D f (QJ b0.toNat) n=0:=JY hE (Jf _) (by omega)
  refine Qd (Qk [9,6,8] Qa (Qg (Qg (Qb (Qe Qa Qa (QL Qa Qa Qa (Qe Qa Qa (Q4 82 Qa (fun h17=> ?_) (fun h17=> ?_)))))))))
  ·refine Qj Qa Qa (Q8 h17) (Qe Qa Qa (Qj Qa Qa (Q8 h17) (Ql Qa Qa (Qj Qa Qa (Q8 h17) (Qi Qa Y3 Qa (Qj Qa Qa (Q8 h17) (Qq Qa Zr (hS16.cell 1 Qa Qa) Qa (Qj Qa Qa (Q8 h17) (Zu underlying9 Qa Qa (Qj Qa Qa (Q8 h17) (Qe Qa Qa (Qj Qa Qa (Q8 h17) (X0 Qa Qa Qa (Q0 Qa (Q8 h17) Qa Qa (Qh (Qd (Qk [6,8,90] Qa (Qt Qa (fun h18=> ?_) (fun h18=> ?_)))))))))))))))))))
   ·refine Qb (Qc Qa Qa (Qh (Qd (Qg (Qg (Qb (Qe Qa Qa (Xr Qa Qa Qa (Qh (Qd (Qt Qa (fun h19=> ?_) (fun h19=> ?_))))))))))))
    ·exact Qg (Qb (Qe Qa Qa (Qc Qa Qa (Qc Qa Qa (Qh (Qd (Qo (Qm (ZG (.inr Qa) Qa Qa Qa (⟨_,rfl,.inr ⟨(H9 hE hSl (by omega)).1, by rw[(H9 hE hSl (by omega)).2],hS16.pick [0,2] Qa⟩⟩))))))))))
    exact Qr (Qd (Qg (Qb (Qe Qa Qa (Qc Qa Qa (Qc Qa Qa (Qh (Qd (Qo (ZG (.inr Qa) Qa Qa Qa (absurd (by decide) h19)))))))))))
   refine Qr (Qd (Qg (Qg (Qb (Qe Qa Qa (Xr Qa Qa Qa (Qh (Qd (Qt Qa (fun h20=> ?_) (fun h20=> ?_))))))))))
   ·exact Qg (Qb (Qe Qa Qa (Qc Qa Qa (Qc Qa Qa (Qh (Qd (Qo (Qm (ZG (.inr Qa) Qa Qa Qa (absurd Qa h20))))))))))
   refine Qr (Qd (Qg (Qb (Qe Qa Qa (Qc Qa Qa (Qc Qa Qa (Qh (Qd (Qo (ZG (.inr Qa) Qa Qa Qa ?_))))))))))
   exact⟨_,rfl,.inl ⟨(Jg hE hSl (by omega)).1,_,rfl, by rw[(Jg hE hSl (by omega)).2]; exact hS16.pick [1,0,2] Qa⟩⟩
  refine Qf Qa Qa (Qw h17) Qa (Qf Qa Qa (Qw h17) Qa (Qf Qa Qa (Qw h17) Qa (Qf Qa Qa (Qw h17) Qa (Qf Qa Qa (Qw h17) Qa (Qf Qa Qa (Qw h17) Qa (Qf Qa Qa (Qw h17) Qa (Q1 Qa (Qw h17) Qa Qa (Qh (Qd (Qk [6,8,90] Qa (QI Qa (Qr (Qd (Qg (Qg (Qb (Qe Qa Qa (Xr Qa Qa Qa (Qh (Qd (Qt Qa (fun h21=> ?_) (fun h21=> ?_))))))))))))))))))))))
  ·exact Qg (Qb (Qe Qa Qa (Qc Qa Qa (Qc Qa Qa (Qh (Qd (Qo (Qm (ZG (.inr Qa) Qa Qa Qa (absurd Qa h21))))))))))
  refine Qr (Qd (Qg (Qb (Qe Qa Qa (Qc Qa Qa (Qc Qa Qa (Qh (Qd (Qo (ZG (.inr Qa) Qa Qa Qa ?_))))))))))
  exact⟨_,rfl,.inl ⟨(Jg hE hSl (by omega)).1,_,rfl, by rw[(Jg hE hSl (by omega)).2]; exact hS16.pick [1,0,2] Qa⟩⟩
 have h12:b0=1∨b0=2:= .inl (T0 (k:=1) (by omega) (Decidable.not_not.1 h7))
 refine Qf Qa Qa (Qw h7) Qa (Qf Qa Qa (Qw h7) Qa (Qf Qa Qa (Qw h7) Qa (Qj Qa Qa (Qw h6) (Q1 Qa (Qw h7) Qa Qa (Q1 Qa (Qw h6) Qa Qa (Qh (Qd (Qk [1,0,4,5,6,7,8,44] Qa (QI Qa (Qr (Qd (Qg (Qb (Qc Qa Qa (Qh (Qd (Qg (Qg (Qb (Qc Qa Qa (Qh (Qd (QD ?_)))))))))))))))))))))))
 refine X8 (fun K0 E0 W0=> ∃(i:Nat),K0=1*i∧E0=[(0,ptrV p 0),(1,intV f),(6,ptrV b1 0),(7,strV [b0,b1_,b2,b3,b4]),(9,intV (acc b1_ b2 b3 b4 i:Nat)),(10,intV (i:Int))]∧Sat W0 [QR b1 (Hm p (RB f)),dT p D,F]∧(i≤4)) (L0:=[(0,_),(1,_),(6,_),(7,_),(9,_),(10,_)]) (4) (RM Qa Qa Qa Qa Qa Qa) ⟨4,rfl,rfl,hS2.reorder [1,0,2] Qa, by omega⟩ ?_
 rintro _ _ w22 ⟨i,rfl,rfl,hS22,hi⟩
 refine Qg (Qg (Qb (Qe Qa Qa (Wl Qa Qa Qa (Qh (Qd (Qt Qa (fun h23=> ?_) (fun h23=> ?_))))))))
 ·obtain⟨c,hc⟩: ∃c,[b0,b1_,b2,b3,b4][i]? =some c:=⟨_,WB (by simp;omega)⟩
  have hacc:=GP (by omega) hi hc
  have hal:=DA (b1:=b1_) (b2:=b2) (b3:=b3) (b4:=b4) (show 0<i by omega)
  have hcl:=BJ c
  have hi1:((i -1:Nat):Int)=(i:Int) -1:= by omega
  refine Qr (Qd (Qg (QD (Qb (Qe Qa Qa (Ci 8 Qa Qa Qa Qa (q:=256) Qa (by omega) (by omega) Qa ?_))))))
  refine Qe Qa Qa (Qe Qa Qa (Wx _ underlying9 Qa Qa (by first | rfl | omega) (by first | assumption | rfl) Qa ?_))
  refine YI underlying5 underlying3 Qa Qa ?_
  refine FN 8 (acc b1_ b2 b3 b4 i) Qa Qa (by rfl) (by constructor<;>omega) (by omega) Qa ?_
  refine Qc Qa Qa (Qh (Qp (Qd (Qk [10,7,6,1,0,9] Qa (Qb (Qe Qa Qa (JZ Qa Qa (by omega) (by omega) Qa ?_)))))))
  refine Qc Qa Qa (Qh ?_)
  exact Xa (L1:=[(0,_),(1,_),(6,_),(7,_),(9,intV ((acc b1_ b2 b3 b4 (i -1):Nat):Int)),(10,intV ((i -1:Nat):Int))]) (.cons Qa (.cons Qa (.cons Qa (.cons Qa (.cons (by rw[hacc];rfl) (.cons (by rw[hi1];rfl) .nil)))))) (k1:=1*(i -1)) (by omega) ⟨i -1,rfl,rfl,hS22, by omega⟩
 obtain rfl:i=0:= by omega
 refine Xq (Q2 (Q2 (QH (Qd (Qg (Qg (Qb (Qe Qa Qa (Wl Qa Qa Qa (Qh (Qd (Qt Qa (fun h24=> ?_) (fun h24=> ?_)))))))))))))
 ·refine Qg (Qb (Qc Qa Qa (Qc Qa Qa (Qh (Qd (Qk [9,7,6,1,0,4,5] Qa (Qo (Qm (ZG (.inr Qa) Qa Qa Qa ?_)))))))))
  exact⟨_,rfl,.inr ⟨(WD hE (by rw[←hH]; exact Y9 hb0 (by rw[←Jq];omega))).1, by rw[(WD hE (by rw[←hH]; exact Y9 hb0 (by rw[←Jq];omega))).2],hS22.pick [1,2] Qa⟩⟩
 have hn:UV b1_ b2 b3 b4≤65536:= by rw[←Jq];omega
 have hSl:JQ (WG D f 0 5)= .slot b0.toNat (UV b1_ b2 b3 b4):= by rw[←hH]; exact MA h12 hn
 rw[Jq]
 obtain⟨n,hN⟩: ∃n,n=UV b1_ b2 b3 b4:=⟨_,rfl⟩
 rw[←hN]at hSl hn⊢
 have h12n:b0.toNat=1∨b0.toNat=2:= by rcases h12 with rfl | rfl<;> simp
 refine Qr (Qd (Qg (Qb (Qe Qa Qa (Qe Qa Qa (Wx _ underlying9 Qa Qa (by first | rfl | omega) (by first | assumption | rfl) Qa ?_))))))
 refine YI underlying5 underlying3 Qa Qa (Ql Qa Qa (Qi Qa J7 Qa ?_))
 first | (refine Q7 hS22 Qa Qa Ya (by rfl) (i:=0) Qa (Xd Qa) ?_)
 intro w25 hS26; dsimp only[List.set]at hS26
 refine Qh (Qd (Qk [9,6,1,0] Qa (Qg (Qb (Qe Qa Qa (Qe Qa Qa (Qe Qa Qa (Qe Qa Qa (Ql Qa Qa (Qi Qa J7 Qa (Qq Qa QF (hS26.cell 0 Qa Qa) Qa (Hv _ underlying132 Qa Qa (by rfl) (by omega) Ya Qa ?_))))))))))))
 have hg:=(hG.sat hS26 2 Qa).off h12n
 refine Qq Qa QF (by assumption) Qa ?_
 refine Qe Qa Qa (Qz B0 Qa (Ft (hS26.sp [1] Qa) f (QJ b0.toNat) n) Qa ?_)
 rintro _ w27 ⟨rfl,hS27⟩
 replace hS27:=hS27.jn Qa Qa
 have hE2:Wf D f (QJ b0.toNat) n=0:=JY hE (Jf _) (by omega)
 rw[hE2]
 refine Qe Qa Qa (Q6 Qa Qa Qa (Q6 Qa Qa Qa (Ql Qa Qa (Qi Qa Y3 Qa ?_))))
 first | (refine Q7 hS27 Qa Qa R2 (by rfl) (i:=1) Qa (Xd Qa) ?_)
 intro w28 hS29; dsimp only[List.set]at hS29
 refine Qc Qa Qa (Qh ?_)
 have hE2:Wf D f (QJ b0.toNat) n=0:=JY hE (Jf _) (by omega)
 refine Qd (Qk [9,6,8] Qa (Qg (Qg (Qb (Qe Qa Qa (QL Qa Qa Qa (Qe Qa Qa (Q4 82 Qa (fun h30=> ?_) (fun h30=> ?_)))))))))
 ·refine Qj Qa Qa (Q8 h30) (Qe Qa Qa (Qj Qa Qa (Q8 h30) (Ql Qa Qa (Qj Qa Qa (Q8 h30) (Qi Qa Y3 Qa (Qj Qa Qa (Q8 h30) (Qq Qa Zr (hS29.cell 1 Qa Qa) Qa (Qj Qa Qa (Q8 h30) (Zu underlying9 Qa Qa (Qj Qa Qa (Q8 h30) (Qe Qa Qa (Qj Qa Qa (Q8 h30) (X0 Qa Qa Qa (Q0 Qa (Q8 h30) Qa Qa (Qh (Qd (Qk [6,8,90] Qa (Qt Qa (fun h31=> ?_) (fun h31=> ?_)))))))))))))))))))
  ·refine Qb (Qc Qa Qa (Qh (Qd (Qg (Qg (Qb (Qe Qa Qa (Xr Qa Qa Qa (Qh (Qd (Qt Qa (fun h32=> ?_) (fun h32=> ?_))))))))))))
   ·exact Qg (Qb (Qe Qa Qa (Qc Qa Qa (Qc Qa Qa (Qh (Qd (Qo (Qm (ZG (.inr Qa) Qa Qa Qa (⟨_,rfl,.inr ⟨(H9 hE hSl (by omega)).1, by rw[(H9 hE hSl (by omega)).2],hS29.pick [0,2] Qa⟩⟩))))))))))
   exact Qr (Qd (Qg (Qb (Qe Qa Qa (Qc Qa Qa (Qc Qa Qa (Qh (Qd (Qo (ZG (.inr Qa) Qa Qa Qa (absurd (by decide) h32)))))))))))
  refine Qr (Qd (Qg (Qg (Qb (Qe Qa Qa (Xr Qa Qa Qa (Qh (Qd (Qt Qa (fun h33=> ?_) (fun h33=> ?_))))))))))
  ·exact Qg (Qb (Qe Qa Qa (Qc Qa Qa (Qc Qa Qa (Qh (Qd (Qo (Qm (ZG (.inr Qa) Qa Qa Qa (absurd Qa h33))))))))))
  refine Qr (Qd (Qg (Qb (Qe Qa Qa (Qc Qa Qa (Qc Qa Qa (Qh (Qd (Qo (ZG (.inr Qa) Qa Qa Qa ?_))))))))))
  exact⟨_,rfl,.inl ⟨(Jg hE hSl (by omega)).1,_,rfl, by rw[(Jg hE hSl (by omega)).2]; exact hS29.pick [1,0,2] Qa⟩⟩
 refine Qf Qa Qa (Qw h30) Qa (Qf Qa Qa (Qw h30) Qa (Qf Qa Qa (Qw h30) Qa (Qf Qa Qa (Qw h30) Qa (Qf Qa Qa (Qw h30) Qa (Qf Qa Qa (Qw h30) Qa (Qf Qa Qa (Qw h30) Qa (Q1 Qa (Qw h30) Qa Qa (Qh (Qd (Qk [6,8,90] Qa (QI Qa (Qr (Qd (Qg (Qg (Qb (Qe Qa Qa (Xr Qa Qa Qa (Qh (Qd (Qt Qa (fun h34=> ?_) (fun h34=> ?_))))))))))))))))))))))
 ·exact Qg (Qb (Qe Qa Qa (Qc Qa Qa (Qc Qa Qa (Qh (Qd (Qo (Qm (ZG (.inr Qa) Qa Qa Qa (absurd Qa h34))))))))))
 refine Qr (Qd (Qg (Qb (Qe Qa Qa (Qc Qa Qa (Qc Qa Qa (Qh (Qd (Qo (ZG (.inr Qa) Qa Qa Qa ?_))))))))))
 exact⟨_,rfl,.inl ⟨(Jg hE hSl (by omega)).1,_,rfl, by rw[(Jg hE hSl (by omega)).2]; exact hS29.pick [1,0,2] Qa⟩⟩
def getV (C:CS):Value:= .tuple #[strV C.val,.bool (decide (0<C.slot))]
theorem get_sp {w:World} {p c:Nat} {C:CS} {F:Th} (hS:Sat w [QR c (Hm p C),F]):
    Calls prog 89 #[ptrV c 0] w (Ret fun v w'=>v=getV C∧Sat w' [QR c (Hm p C),F]):= by
 refine Qx func89 Qa ntmps89 Qa ?_
 refine Qg (Qb (Qc Qa Qa (Qc Qa Qa (Qh (Qd (Qg ?_))))))
 have hS1:=hS.drew
 refine QM [0,1,2,3,4,5,6,7,8,9,10] [] Wv (by kernel_rfl) ?_
 refine QK Qa Qa Qa (Xm Qa Qa Qa (QN Qa Qa Qa Y3 (Q9 Qa Qa Qa (Qn Qa Zr (hS1.cell 0 Qa Qa)) (QK Qa Qa Qa (Xm Qa Qa Qa (QN Qa Qa Qa J7 (Q9 Qa Qa Qa (Qn Qa QF (hS1.cell 0 Qa Qa)) (QC Qa Qa Qa (fun _=>(Fq Qa Qa)) ?_))))))))
 exact WY Qa Qa Qa (WY Qa Qa Qa (VC.nil (Qd (Qk [2,3] Qa (Qo (ZG (.inr Qa) Qa Qa Qa (⟨_,rfl,congrArg (fun b=>Value.tuple #[strV C.val,.bool b]) (decide_eq_decide.2 (by omega)),hS1⟩)))))))
def hb (slot n:Nat) (j:Nat):Bytes:=UInt8.ofNat slot::(List.range j).map fun i=>UInt8.ofNat (n/ 256^i)
theorem hb_step (slot n j:Nat):hb slot n (j+1)=hb slot n j++[UInt8.ofNat (n/ 256^j)]:= by simp [hb,List.range_succ]
theorem hb_len (slot n j:Nat):(hb slot n j).length=j+1:= by simp [hb]
theorem hb_end (slot n:Nat) (h:n≤65536):hb slot n 4=HE slot n:= by
  have h1:n/ 16777216=0:= by omega
  simp [hb,HE,List.range_succ,h1]
theorem Oj (n j:Nat):n/ 256^j/ 256=n/ 256^(j+1):= by rw[Nat.div_div_eq_div_mul,Nat.pow_succ]
theorem ER {w:World} {F:Th} (hS:Sat w [F]) (slot:Nat) (s:Bytes) (hn:s.length≤65536):
    Calls prog 118 #[intV (slot:Int),strV s] w (Ret fun v w'=>v=strV (HE slot s.length)∧Sat w' [F]):= by
 refine Qx func118 Qa ntmps118 Qa ?_
 refine Qg (Qb (Qc Qa Qa (Qh (Qd (Qg (Qb (Qe Qa Qa (BH slot underlying3 underlying5 Qa (by first | rfl | omega) Qa ?_))))))))
 refine Xc byC [UInt8.ofNat slot] hS Qa underlying98 ifz_5 Qa Qa Qa Qa (by rfl) rfl ?_
 intro b1 w1 hS1
 refine Qc Qa Qa (Qh (Qd (Qg (Qg (Qb (Qe Qa Qa (Zu underlying9 Qa Qa (Qc Qa Qa (Qh (Qd (QD ?_)))))))))))
 refine X8 (fun K0 E0 W0=> ∃(j:Nat) (v:Value),K0=4 -j∧E0=[(1,strV s),(5,v),(6,intV (s.length/ 256^j:Nat))]∧Sat W0 [rowT byC v (hb slot s.length j),F]∧(j≤4)) (L0:=[(1,_),(5,_),(6,_)]) (4) (BC Qa Qa Qa) ⟨0,_,rfl, by simp,hS1, by omega⟩ ?_
 rintro _ _ w2 ⟨j,v,rfl,rfl,hS2,hj⟩
 have hbl:=hb_len slot s.length j
 refine Qg (Qg (Qb (Qe Qa Qa ?_)))
 first | refine Xi underlying98 Qa Qa ?_ | refine Xs 0 hS2 underlying98 Qa Qa Qa ?_
 refine X0 Qa Qa Qa (Qh (Qd (Qt Qa (fun h3=> ?_) (fun h3=> ?_))))
 ·refine Qr (Qd (Qg (QD (Qb (Qe Qa Qa (Qe Qa Qa (BH (s.length/ 256^j) underlying3 underlying5 Qa (by first | rfl | omega) Qa ?_)))))))
  refine Xc byC [UInt8.ofNat (s.length/ 256^j)] hS2 Qa underlying98 ifz_5 Qa Qa Qa Qa (by rfl) rfl ?_
  intro b4 w4 hS4
  refine XP byC 1 hS4 Qa Qa Qa (hS4.rd 0 Qa (by simp)) underlying98 underlying98 (by intro k hk; cases hk) Lr Qa (by simp only[List.length_cons,List.length_nil,hbl];omega) Qa (by simp only[List.length_cons,List.length_nil,hbl];omega) ?_
  intro v5 w5 hS5; dsimp only[List.set]at hS5
  have h1v5:v5.oneCell'=true:=hS5.own_one 1 Qa
  refine Qc Qa Qa (Qh (Qp (Qd (Qk [6,1,5] Qa (Qb (Qe Qa Qa (wl_shr 8 Qa Qa Qa Qa (q:=256) Qa Qa (Qc Qa Qa (Qh ?_)))))))))
  exact Xa (L1:=[(1,_),(5,_),(6,intV ((s.length/ 256^(j+1):Nat):Int))]) (.cons Qa (.cons Qa (.cons (by rw[←Oj];rfl) .nil))) (k1:=4 -(j+1)) (by omega) ⟨j+1,_,rfl,rfl, by rw[hb_step]; exact hS5.tail, by omega⟩
 refine Xq (Q2 (Q2 (QH (Qd (Qg (Qb (Qe Qa Qa (Tv 0 hS2 Qa Qa underlying98 underlying5 underlying9 Qa (Qc Qa Qa (Qh (Qd (Qo (Q5 (.inr Qa) Qa Qa ?_)))))))))))))
 exact⟨_,rfl, by rw[show j=4 by omega,hb_end slot s.length hn],hS2.tail⟩
theorem K7 {D:DS} {C:CS} {s:Bytes} (h:65536<s.length):Z5 D C s=⟨6,D,C⟩:= by rw[Z5,if_pos h]
theorem K8 {D:DS} {C:CS} {s:Bytes} (h: ¬65536<s.length) (h1:C.sure=false) (h2:0<C.slot) (h3:ZC D C.f≠0):Z5 D C s=⟨ZC D C.f,XD D C.f,C⟩:= by rw[Z5,if_neg h,if_pos ⟨h1,h2⟩,if_pos h3]
theorem Bb {D:DS} {C:CS} {s:Bytes} (h: ¬65536<s.length) (h1:C.sure=false) (h2:0<C.slot) (h3:ZC D C.f=0):Z5 D C s=Wz (XD D C.f) {C with sure:=true} s:= by rw[Z5,if_neg h,if_pos ⟨h1,h2⟩,if_neg (by omega)]
theorem K9 {D:DS} {C:CS} {s:Bytes} (h: ¬65536<s.length) (h1: ¬(C.sure=false∧0<C.slot)):Z5 D C s=Wz D C s:= by rw[Z5,if_neg h,if_neg h1]
theorem Dn {D:DS} {C:CS} {s:Bytes} (h:WK D C.f (QJ (other C)) s≠0):Wz D C s=⟨WK D C.f (QJ (other C)) s,XU D C.f (QJ (other C)) s,C⟩:= by simp only[Wz]; rw[if_pos h]
theorem Cw {D:DS} {C:CS} {s:Bytes} (h:WK D C.f (QJ (other C)) s=0) (h1:ZC (XU D C.f (QJ (other C)) s) C.f≠0):Wz D C s=⟨ZC (XU D C.f (QJ (other C)) s) C.f,XD (XU D C.f (QJ (other C)) s) C.f,C⟩:= by simp only[Wz]; rw[if_neg (by omega),if_pos h1]
theorem Cv {D:DS} {C:CS} {s:Bytes} (h:WK D C.f (QJ (other C)) s=0) (h1:ZC (XU D C.f (QJ (other C)) s) C.f=0) (h2:WK (XD (XU D C.f (QJ (other C)) s) C.f) C.f 0 (HE (other C) s.length)≠0):Wz D C s=⟨WK (XD (XU D C.f (QJ (other C)) s) C.f) C.f 0 (HE (other C) s.length),XU (XD (XU D C.f (QJ (other C)) s) C.f) C.f 0 (HE (other C) s.length),C⟩:= by simp only[Wz]; rw[if_neg (by omega),if_neg (by omega),if_pos h2]
theorem Dm {D:DS} {C:CS} {s:Bytes} (h:WK D C.f (QJ (other C)) s=0) (h1:ZC (XU D C.f (QJ (other C)) s) C.f=0) (h2:WK (XD (XU D C.f (QJ (other C)) s) C.f) C.f 0 (HE (other C) s.length)=0):Wz D C s=⟨ZC (XU (XD (XU D C.f (QJ (other C)) s) C.f) C.f 0 (HE (other C) s.length)) C.f,XD (XU (XD (XU D C.f (QJ (other C)) s) C.f) C.f 0 (HE (other C) s.length)) C.f,⟨C.f,other C,s,decide (ZC (XU (XD (XU D C.f (QJ (other C)) s) C.f) C.f 0 (HE (other C) s.length)) C.f=0)⟩⟩:= by simp only[Wz]; rw[if_neg (by omega),if_neg (by omega),if_neg (by omega)]
theorem set_sp {w:World} {p c:Nat} {D:DS} {C:CS} {F:Th} (hS:Sat w [QR c (Hm p C),dT p D,F]) (hG:Ent F (Glob 0)) (hsl:C.slot≤2) (s:Bytes):
    Calls prog 95 #[ptrV c 0,strV s] w (Ret fun v w'=>v=intV (Z5 D C s).e∧Sat w' [QR c (Hm p (Z5 D C s).C),dT p (Z5 D C s).D,F]):= by
 refine Qx func95 Qa ntmps95 Qa ?_
 refine Qg (Qb (Qc Qa Qa (Qh (Qd (Qg (Qg (Qb (Qe Qa Qa (Zu underlying9 Qa Qa (Wl Qa Qa Qa (Qh (Qd (Qt Qa (fun h1=> ?_) (fun h1=> ?_))))))))))))))
 ·have hlong:65536<s.length:= by omega
  refine Qg (Qb (Qc Qa Qa (Qh (Qd (Qo (Qm (Q5 (.inr Qa) Qa Qa ?_)))))))
  exact⟨_,rfl, by rw[K7 hlong], by rw[K7 hlong]; exact hS.pick [0,1,2] Qa⟩
 have hlong: ¬65536<s.length:= by omega
 refine Qr (Qd (Uh (fun E0 W0=> ∃(D1:DS) (C1:CS),E0=[(0,ptrV c 0),(1,strV s)]∧Sat W0 [QR c (Hm p C1),dT p D1,F]∧(Z5 D C s=Wz D1 C1 s)∧(C1.slot≤2)) ?_ ?_))
 ·refine Qg (Qb (Qe Qa Qa (Ql Qa Qa (Qi Qa Gv Qa (Qq Qa JG (hS.cell 0 Qa Qa) Qa (XL Qa Qa (Qe Qa Qa (Z4 19 Qa (fun h3=> ?_) (fun h3=> ?_)))))))))
  ·refine Qj Qa Qa h3 (Qe Qa Qa (Qj Qa Qa h3 (Ql Qa Qa (Qj Qa Qa h3 (Qi Qa J7 Qa (Qj Qa Qa h3 (Qq Qa QF (hS.cell 0 Qa Qa) Qa (Qj Qa Qa h3 (Wl Qa Qa Qa (Q0 Qa h3 Qa Qa (Qh (Qd (Qk [1,0,4,25] Qa (Qt Qa (fun h4=> ?_) (fun h4=> ?_)))))))))))))))
   ·have hsu:C.sure=false:= by simp_all
    have hsl0:0<C.slot:= by omega
    refine Qg (Qg ?_)
    have hS5:=hS.drew
    refine QM [0,1,2,3,4,5,6,7,8,9] [8] Wv (by kernel_rfl) ?_
    refine QK Qa Qa Qa (Xm Qa Qa Qa (QN Qa Qa Qa Ki (Q9 Qa Qa Qa (Qn Qa U2 (hS5.cell 0 Qa Qa)) (QK Qa Qa Qa (Xm Qa Qa Qa (QN Qa Qa Qa Kh (Q9 Qa Qa Qa (Qn Qa QF (hS5.cell 0 Qa Qa)) (QS Qa Qa Qa Qa Qa Qa ?_))))))))
    refine Qz Nr Qa (FT (hS5.sp [1] Qa) C.f) Qa ?_
    rintro _ w6 ⟨rfl,hS6⟩
    replace hS6:=hS6.jn Qa Qa
    refine Xe (Xp (by kernel_rfl)) ?_
    refine WY Qa Qa Qa (VC.nil (Qd (Qk [1,0,4,5] Qa (Qg (Qb (Qe Qa Qa (Xr Qa Qa Qa (Qh (Qd (Qt Qa (fun h7=> ?_) (fun h7=> ?_)))))))))))
    ·have h2:=h7
     refine Qg (Qb (Qe Qa Qa (Qc Qa Qa (Qh (Qd (Qo (Qm (Qm (Q5 (.inr Qa) Qa Qa ?_)))))))))
     exact⟨_,rfl, by rw[K8 hlong hsu hsl0 h2], by rw[K8 hlong hsu hsl0 h2]; exact hS6.pick [1,0,2] Qa⟩
    have h2:ZC D C.f=0:=Decidable.not_not.1 h7
    refine Qr (Qd (Qb (Qe Qa Qa (Ql Qa Qa (Qi Qa Gv Qa ?_)))))
    first | (refine Q7 hS6 Qa Qa Jd (by rfl) (i:=1) Qa (Xd Qa) ?_)
    intro w8 hS9; dsimp only[List.set]at hS9
    exact Qh (WH (Ax Qa Qa) ⟨_,{C with sure:=true},Qa,hS9.reorder [1,0,2] Qa,Bb hlong hsu hsl0 h2,hsl⟩)
   refine Qr ?_
   exact WH (Ax rfl rfl) ⟨_,C,rfl,hS.reorder [0,1,2] rfl,K9 hlong (by rintro⟨q1,q2⟩;simp_all),hsl⟩
  refine Qf Qa Qa h3 Qa (Qf Qa Qa h3 Qa (Qf Qa Qa h3 Qa (Qf Qa Qa h3 Qa (Qf Qa Qa h3 Qa (Q1 Qa h3 Qa Qa (Qh (Qd (Qk [1,0,4,25] Qa (QI Qa (Qr ?_))))))))))
  exact WH (Ax rfl rfl) ⟨_,C,rfl,hS.reorder [0,1,2] rfl,K9 hlong (by rintro⟨q1,q2⟩;simp_all),hsl⟩
 rintro _ w2 ⟨D1,C1,rfl,hS2,hj,hsl1⟩
 refine Qg (Qb (Qc Qa Qa (Qh (Qd (Uh (fun E0 W0=> ∃(sl:Nat),E0=[(0,ptrV c 0),(1,strV s),(6,intV (sl:Int))]∧Sat W0 [QR c (Hm p C1),dT p D1,F]∧(sl=other C1)) ?_ ?_)))))
 ·refine Qg (Qb (Qe Qa Qa (Ql Qa Qa (Qi Qa J7 Qa (Qq Qa QF (hS2.cell 0 Qa Qa) Qa (QL Qa Qa Qa (Qh (Qd (Qt Qa (fun h11=> ?_) (fun h11=> ?_))))))))))
  ·have hs1:C1.slot=1:= by omega
   refine Qb (Qc Qa Qa (Qh ?_))
   exact WH (BC Qa Qa Qa) ⟨2,rfl,hS2, by simp [other,hs1]⟩
  have hs1: ¬C1.slot=1:= by omega
  refine Qr ?_
  exact WH (BC Qa Qa Qa) ⟨1,rfl,hS2, by simp [other,hs1]⟩
 rintro _ w10 ⟨sl,rfl,hS10,hso⟩
 have hs12:sl=1∨sl=2:= by rw[hso];unfold other;split<;> simp
 refine Qg (Qg ?_)
 subst hso
 have hS12:=hS10.drew
 refine QM [0,1,2,3,4,5,6,7,8,9,10,11,12,13] [12] Wv (by kernel_rfl) ?_
 refine QK Qa Qa Qa (Xm Qa Qa Qa (QN Qa Qa Qa Ki (Q9 Qa Qa Qa (Qn Qa U2 (hS12.cell 0 Qa Qa)) (QK Qa Qa Qa (Xm Qa Qa Qa (QN Qa Qa Qa Kh (Q9 Qa Qa Qa (Qn Qa QF (hS12.cell 0 Qa Qa)) (QK Qa Qa Qa (QC Qa Qa Qa (fun _=>(Rv _ underlying132 Qa Qa (by rfl) (by omega) Ya)) ?_)))))))))
 refine Q9 Qa Qa Qa (Qn Qa QF ((hG.sat hS12 2 Qa).off hs12)) (QK Qa Qa Qa (QS Qa Qa Qa Qa Qa Qa ?_))
 refine Qz L8 Qa (AC (hS12.sp [1] Qa) C1.f (QJ (other C1)) s) Qa ?_
 rintro _ w13 ⟨rfl,hS13⟩
 replace hS13:=hS13.jn Qa Qa
 refine Xe (Xp (by kernel_rfl)) ?_
 refine WY Qa Qa Qa (VC.nil (Qd (Qk [6,1,0,7] Qa (Qg (Qb (Qe Qa Qa (Xr Qa Qa Qa (Qh (Qd (Qt Qa (fun h14=> ?_) (fun h14=> ?_)))))))))))
 ·have h4:=h14
  refine Qg (Qb (Qe Qa Qa (Qc Qa Qa (Qh (Qd (Qo (Qm (Q5 (.inr Qa) Qa Qa ?_))))))))
  exact⟨_,rfl, by rw[hj,Dn h4], by rw[hj,Dn h4]; exact hS13.pick [1,0,2] Qa⟩
 have h4:=Decidable.not_not.1 h14
 refine Qr (Qd (Qg (Qg ?_)))
 have hS15:=hS13.drew
 refine QM [0,1,2,3,4,5,6,7,8,9] [8] Wv (by kernel_rfl) ?_
 refine QK Qa Qa Qa (Xm Qa Qa Qa (QN Qa Qa Qa Ki (Q9 Qa Qa Qa (Qn Qa U2 (hS15.cell 1 Qa Qa)) (QK Qa Qa Qa (Xm Qa Qa Qa (QN Qa Qa Qa Kh (Q9 Qa Qa Qa (Qn Qa QF (hS15.cell 1 Qa Qa)) (QS Qa Qa Qa Qa Qa Qa ?_))))))))
 refine Qz Nr Qa (FT (hS15.sp [0] Qa) C1.f) Qa ?_
 rintro _ w16 ⟨rfl,hS16⟩
 replace hS16:=hS16.jn Qa Qa
 refine Xe (Xp (by kernel_rfl)) ?_
 refine WY Qa Qa Qa (VC.nil (Qd (Qk [6,1,0,8] Qa (Qg (Qb (Qe Qa Qa (Xr Qa Qa Qa (Qh (Qd (Qt Qa (fun h17=> ?_) (fun h17=> ?_)))))))))))
 ·have h5:=h17
  refine Qg (Qb (Qe Qa Qa (Qc Qa Qa (Qh (Qd (Qo (Qm (Q5 (.inr Qa) Qa Qa ?_))))))))
  exact⟨_,rfl, by rw[hj,Cw h4 h5], by rw[hj,Cw h4 h5]; exact hS16.pick [1,0,2] Qa⟩
 have h5:=Decidable.not_not.1 h17
 refine Qr (Qd (Qg (Qg ?_)))
 have hS18:=hS16.drew
 refine QM [0,1,2,3,4,5,6,7,8,9,10,11,12] [10,11] Wv (by kernel_rfl) ?_
 refine QK Qa Qa Qa (Xm Qa Qa Qa (QN Qa Qa Qa Ki (Q9 Qa Qa Qa (Qn Qa U2 (hS18.cell 1 Qa Qa)) (QK Qa Qa Qa (Xm Qa Qa Qa (QN Qa Qa Qa Kh (Q9 Qa Qa Qa (Qn Qa QF (hS18.cell 1 Qa Qa)) (QK Qa Qa Qa (QK Qa Qa Qa (QS Qa Qa Qa Qa Qa Qa ?_))))))))))
 refine Qz cal_118 Qa (ER (hS18.sp [] Qa) (other C1) s (by omega)) Qa ?_
 rintro _ w19 ⟨rfl,hS19⟩
 replace hS19:=hS19.jn Qa Qa
 refine Xe (.cons (.inl ⟨Qa,(Qn Qa QF (hS19.cell 1 Qa Qa))⟩) (.cons (.inl ⟨Qa,(Qn Qa U2 (hS19.cell 1 Qa Qa))⟩) .nil)) (QS Qa Qa Qa Qa Qa Qa ?_)
 refine Qz L8 Qa (AC (hS19.sp [0] Qa) C1.f 0 (HE (other C1) s.length)) Qa ?_
 rintro _ w20 ⟨rfl,hS20⟩
 replace hS20:=hS20.jn Qa Qa
 refine Xe (Xp (by kernel_rfl)) ?_
 refine WY Qa Qa Qa (VC.nil (Qd (Qk [6,1,0,9] Qa (Qg (Qb (Qe Qa Qa (Xr Qa Qa Qa (Qh (Qd (Qt Qa (fun h21=> ?_) (fun h21=> ?_)))))))))))
 ·have h6:=h21
  refine Qg (Qb (Qe Qa Qa (Qc Qa Qa (Qh (Qd (Qo (Qm (Q5 (.inr Qa) Qa Qa ?_))))))))
  exact⟨_,rfl, by rw[hj,Cv h4 h5 h6], by rw[hj,Cv h4 h5 h6]; exact hS20.pick [1,0,2] Qa⟩
 have h6:=Decidable.not_not.1 h21
 refine Qr (Qd (Qg (Qb (Qe Qa Qa (Qe Qa Qa (Qe Qa Qa (Qe Qa Qa (Qe Qa Qa (Ql Qa Qa (Qi Qa J7 Qa ?_))))))))))
 first | (refine Q7 hS20 Qa Qa Ya (by rfl) (i:=1) Qa (Xd Qa) ?_)
 intro w22 hS23; dsimp only[List.set]at hS23
 refine Ql Qa Qa (Qi Qa Y3 Qa ?_)
 first | (refine Q7 hS23 Qa Qa R2 (by rfl) (i:=1) Qa (Xd Qa) ?_)
 intro w24 hS25; dsimp only[List.set]at hS25
 refine Ql Qa Qa (Qi Qa Gv Qa ?_)
 first | (refine Q7 hS25 Qa Qa Jd (by rfl) (i:=1) Qa (Xd Qa) ?_)
 intro w26 hS27; dsimp only[List.set]at hS27
 refine Qh (Qd (Qk [0] Qa (Qg ?_)))
 have hS28:=hS27.drew
 refine QM [0,1,2,3,4,5,6,7,8,9] [8] Wv (by kernel_rfl) ?_
 refine QK Qa Qa Qa (Xm Qa Qa Qa (QN Qa Qa Qa Ki (Q9 Qa Qa Qa (Qn Qa U2 (hS28.cell 1 Qa Qa)) (QK Qa Qa Qa (Xm Qa Qa Qa (QN Qa Qa Qa Kh (Q9 Qa Qa Qa (Qn Qa QF (hS28.cell 1 Qa Qa)) (QS Qa Qa Qa Qa Qa Qa ?_))))))))
 refine Qz Nr Qa (FT (hS28.sp [0] Qa) C1.f) Qa ?_
 rintro _ w29 ⟨rfl,hS29⟩
 replace hS29:=hS29.jn Qa Qa
 refine Xe (Xp (by kernel_rfl)) ?_
 refine WY Qa Qa Qa (VC.nil (Qd (Qk [0,10] Qa (Qg (Qb (Qe Qa Qa (Qe Qa Qa (QL Qa Qa Qa (Ql Qa Qa (Qi Qa Gv Qa ?_))))))))))
 first | (refine Q7 hS29 Qa Qa Jd (by rfl) (i:=1) Qa (Xd Qa) ?_)
 intro w30 hS31; dsimp only[List.set]at hS31
 refine Qh (Qd (Qg (Qb (Qe Qa Qa (Qc Qa Qa (Qh (Qd (Qo (Q5 (.inr Qa) Qa Qa ?_)))))))))
 exact⟨_,rfl, by rw[hj,Dm h4 h5 h6], by rw[hj,Dm h4 h5 h6]; exact hS31.pick [1,0,2] Qa⟩
