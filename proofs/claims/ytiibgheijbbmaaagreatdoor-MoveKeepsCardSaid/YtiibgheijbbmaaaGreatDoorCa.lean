/- cell: Open -/
import Derived.Test.YtiibgheijbbmaaaGreatDoorSrt
import Derived.Test.YtiibgheijbbmaaaGreatDoorOp4
import Derived.Test.YtiibgheijbbmaaaGreatDoorDf
import Derived.Test.YtiibgheijbbmaaaGreatDoorWire
set_option linter.unusedVariables false
set_option maxRecDepth 100000
namespace Go.Proofs.YtiibgheijbbmaaaGreatDoor
open Go.RowKit M Proofs.Tryz
def acc (b1 b2 b3 b4:UInt8):Nat→Nat
  | 0=>((b4.toNat*256+b3.toNat)*256+b2.toNat)*256+b1.toNat
  | 1=>(b4.toNat*256+b3.toNat)*256+b2.toNat
  | 2=>b4.toNat*256+b3.toNat
  | 3=>b4.toNat
  | _=>0
theorem RG {b0 b1 b2 b3 b4 c:UInt8} {i:Nat} (h0:0<i) (h4:i≤4) (hc:[b0,b1,b2,b3,b4][i]? =some c):acc b1 b2 b3 b4 (i -1)=acc b1 b2 b3 b4 i*256+c.toNat:= by
  obtain rfl | rfl | rfl | rfl:i=1∨i=2∨i=3∨i=4:= by omega
  all_goals (simp at hc; subst hc; simp [acc])
theorem Bx {b1 b2 b3 b4:UInt8} {i:Nat} (h:0<i):acc b1 b2 b3 b4 i<16777216:= by
  have :=GA b1; have :=GA b2; have :=GA b3; have :=GA b4
  unfold acc;split<;>omega
theorem Jc (b1 b2 b3 b4:UInt8):acc b1 b2 b3 b4 0=Uz b1 b2 b3 b4:= by simp only[acc,Uz];omega
theorem DK {b:UInt8} {k:Nat} (hk:k<256) (h: ¬((b.toNat:Int)=(k:Int))):b≠UInt8.ofNat k:= by
  intro e; subst e; apply h; simp;omega
theorem DM {b:UInt8} {k:Nat} (hk:k<256) (h:(b.toNat:Int)=(k:Int)):b=UInt8.ofNat k:= by
  apply UInt8.toNat_inj.1; simp;omega
theorem five {h:Bytes} (h1:h.length=5) {b0:UInt8} {r:Bytes} (hb:h=b0::r): ∃b1 b2 b3 b4,r=[b1,b2,b3,b4]:= by
  subst hb
  match r,h1 with
  | [b1,b2,b3,b4],_=> exact⟨_,_,_,_,rfl⟩
theorem Jt {h:Bytes} (hh:h=[]∨ ∃r,h=0::r):J9 h= .none:= by
  rcases hh with rfl | ⟨r,rfl⟩
  · rfl
  · simp [J9]
theorem HG {b0:UInt8} {r:Bytes} (h0:b0≠0) (hl:r.length≠4):J9 (b0::r)= .bad:= by
  unfold J9
  simp only[h0,if_false]
  split
  · simp at hl
  · rfl
theorem Yr {b0 b1 b2 b3 b4:UInt8} (h0:b0≠0) (hb: ¬((b0=1∨b0=2)∧Uz b1 b2 b3 b4≤65536)):J9 [b0,b1,b2,b3,b4]= .bad:= by
  simp only[J9,h0,if_false,if_neg hb]
theorem BY {b0 b1 b2 b3 b4:UInt8} (hb:b0=1∨b0=2) (hn:Uz b1 b2 b3 b4≤65536):J9 [b0,b1,b2,b3,b4]= .slot b0.toNat (Uz b1 b2 b3 b4):= by
  have h0:b0≠0:= by rcases hb with rfl | rfl<;>decide
  simp only[J9,h0,if_false,if_pos (And.intro hb hn)]
theorem JK {D:DS} {f:Int} (h1:ZT D f 0 5=0) (h2:J9 (Wx D f 0 5)= .none):Wo D f=0∧Jr D f=KD f:= by
  rw[Wo,Jr,if_neg (by omega),h2]; exact⟨rfl,rfl⟩
theorem Rb {D:DS} {f:Int} (h1:ZT D f 0 5≠0):Wo D f≠0∧Wo D f=ZT D f 0 5:= by
  have :Wo D f=ZT D f 0 5:= by rw[Wo,if_pos h1]
  exact⟨by rw[this]; exact h1,this⟩
theorem Wu {D:DS} {f:Int} (h1:ZT D f 0 5=0) (h2:J9 (Wx D f 0 5)= .bad):Wo D f≠0∧Wo D f=2:= by
  have :Wo D f=2:= by rw[Wo,if_neg (by omega),h2]
  exact⟨by rw[this];decide,this⟩
theorem Hm {D:DS} {f:Int} {s n:Nat} (h1:ZT D f 0 5=0) (h2:J9 (Wx D f 0 5)= .slot s n) (h3:(Wx D f (QG s) n).length<n):Wo D f≠0∧Wo D f=2:= by
  have :Wo D f=2:= by rw[Wo,if_neg (by omega),h2]; simp only; rw[if_pos h3]
  exact⟨by rw[this];decide,this⟩
theorem WP {D:DS} {f:Int} {s n:Nat} (h1:ZT D f 0 5=0) (h2:J9 (Wx D f 0 5)= .slot s n) (h3: ¬(Wx D f (QG s) n).length<n):Wo D f=0∧Jr D f=⟨f,s,Wx D f (QG s) n,false⟩:= by
  refine⟨?_, ?_⟩
  · rw[Wo,if_neg (by omega),h2]; simp only; rw[if_neg h3]
  · rw[Jr,h2]
theorem Sh {w:World} {p:Nat} {D:DS} {F:Th} (hS:Sat w [dT p D,F]) (hG:Ent F (Glob 0)) (f:Int):
    Calls prog 52 #[ptrV p 0,intV f] w (Ret fun v w'=>(Wo D f=0∧ ∃c,v= .tuple #[ptrV c 0,intV 0]∧Sat w' [Xb c (YK p (Jr D f)),dT p D,F])∨(Wo D f≠0∧v= .tuple #[.pointer none,intV (Wo D f)]∧Sat w' [dT p D,F])):= by
 refine Qy func52 Qa ntmps52 Qa ?_
 refine Qf (Qb (Qc Qa Qa (Qc Qa Qa (Qh (Qd (Qf (Qb (Qe Qa Qa (Qe Qa Qa (Zs Qa BH SK Lv Qa Qa (Za hS Qa Qa Qa ?_)))))))))))
 intro b1 w1 hS1
 refine Qc Qa Qa (Qh (Qd (Qf (Qb (Qe Qa Qa (Qe Qa Qa (Q0 Gr Qa (Ps (hS1.sp [1] Qa) f 0 5) Qa ?_)))))))
 rintro _ w2 ⟨rfl,hS2⟩
 replace hS2:=hS2.jn Qa Qa
 refine Qe Qa Qa (Q7 Qa Qa Qa (Q7 Qa Qa Qa (Qc Qa Qa (Qc Qa Qa (Qh ?_)))))
 obtain⟨h,hH⟩: ∃h,h=Wx D f 0 5:=⟨_,rfl⟩
 rw[←hH]
 have hh5:(h.length:Int)≤5:= by have :=G3 (D:=D) (f:=f) (a:=0) (n:=5); rw[←hH]at this;omega
 refine Qd (Qk [1,0,4,5,6,7,8] Qa (Qf (Qf (Qb (Qe Qa Qa (Xu Qa Qa Qa (Qh (Qd (Qv Qa (fun h3=> ?_) (fun h3=> ?_))))))))))
 ·have hE:ZT D f 0 5≠0:=h3
  exact Qf (Qb (Qe Qa Qa (Qc Qa Qa (Qc Qa Qa (Qh (Qd (Qo (Qm (Z8 (.inr Qa) Qa Qa Qa (⟨_,rfl,.inr ⟨(Rb hE).1, by rw[(Rb hE).2],hS2.pick [0,2] Qa⟩⟩))))))))))
 have hE:ZT D f 0 5=0:=Decidable.not_not.1 h3
 refine Qt (Qd (Qf (Qf (Qb (Qe Qa Qa (VH Qa Qa Qa (Qe Qa Qa (Q4 26 Qa (fun h4=> ?_) (fun h4=> ?_)))))))))
 ·have hh0:h=[]:=h4
  refine Qg Qa Qa (QD h4) Qa (Qg Qa Qa (QD h4) Qa (Qg Qa Qa (QD h4) Qa (Q1 Qa (QD h4) Qa Qa (Qh (Qd (Qk [1,0,4,5,6,7,8,30] Qa (QP Qa (Qf (Qb (Qe Qa Qa (Qc Qa Qa (Qc Qa Qa (Qh (Qd (Qo (Qm (Z8 (.inr Qa) Qa Qa Qa ?_)))))))))))))))))
  subst hh0
  exact⟨_,rfl,.inl ⟨(JK hE (by rw[←hH]; exact Jt (.inl Qa))).1,_,rfl, by rw[(JK hE (by rw[←hH]; exact Jt (.inl Qa))).2]; exact hS2.pick [1,0,2] Qa⟩⟩
 obtain⟨b0,r,rfl⟩:=List.exists_cons_of_ne_nil h4
 refine Qj Qa Qa (Qx h4) (Qe Qa Qa (Qj Qa Qa (Qx h4) (Wk _ underlying9 Qa Qa (by rfl) (by rfl) rfl ?_)))
 refine Qj Qa Qa (Qx h4) (QL Qa Qa Qa (Q3 Qa (Qx h4) Qa Qa (Qh (Qd (Qk [1,0,4,5,6,7,8,30] Qa (Qv Qa (fun h5=> ?_) (fun h5=> ?_)))))))
 ·have hb00:b0=0:=DM (k:=0) (by omega) h5
  refine Qf (Qb (Qe Qa Qa (Qc Qa Qa (Qc Qa Qa (Qh (Qd (Qo (Qm (Z8 (.inr Qa) Qa Qa Qa ?_)))))))))
  exact⟨_,rfl,.inl ⟨(JK hE (by rw[←hH]; exact Jt (.inr ⟨r, by rw[hb00]⟩))).1,_,rfl, by rw[(JK hE (by rw[←hH]; exact Jt (.inr ⟨r, by rw[hb00]⟩))).2]; exact hS2.pick [1,0,2] Qa⟩⟩
 have hb0:b0≠0:=DK (k:=0) (by omega) h5
 refine Qt (Qd (Qf (Qf (Qb (Qe Qa Qa (Zf underlying9 Qa Qa (X5 Qa Qa Qa (Qe Qa Qa (Q4 35 Qa (fun h6=> ?_) (fun h6=> ?_))))))))))
 ·have hlen5:=h6
  refine Qg Qa Qa (QD h6) Qa (Qg Qa Qa (QD h6) Qa (Qg Qa Qa (QD h6) Qa (Qg Qa Qa (QD h6) Qa (QM Qa Qa Qa (QM Qa Qa Qa (QM Qa Qa Qa (Qg Qa Qa (QD h6) Qa (Q1 Qa (QD h6) Qa Qa (Qh (Qd (Qk [1,0,4,5,6,7,8,44] Qa (QP Qa (Qf (Qb (Qc Qa Qa (Qc Qa Qa (Qh (Qd (Qo (Qm (Z8 (.inr Qa) Qa Qa Qa ?_)))))))))))))))))))))
  exact⟨_,rfl,.inr ⟨(Wu hE (by rw[←hH]; exact HG hb0 (by simp at hlen5;omega))).1, by rw[(Wu hE (by rw[←hH]; exact HG hb0 (by simp at hlen5;omega))).2],hS2.pick [0,2] Qa⟩⟩
 have hlen5:r.length=4:= by simp at hh5; have :=h6; simp at this;omega
 obtain⟨b1_,b2,b3,b4,rfl⟩: ∃b1 b2 b3 b4,r=[b1,b2,b3,b4]:= by match r,hlen5 with | [b1,b2,b3,b4],_=> exact⟨_,_,_,_,rfl⟩
 refine Qj Qa Qa (Qx h6) (Qe Qa Qa (Qj Qa Qa (Qx h6) (Wk _ underlying9 Qa Qa (by rfl) (by rfl) rfl ?_)))
 refine Qj Qa Qa (Qx h6) (Xu Qa Qa Qa (Qj Qa Qa (Qx h6) (Qe Qa Qa (Q4 39 Qa (fun h7=> ?_) (fun h7=> ?_)))))
 ·have hn1:=DK (k:=1) (by omega) h7
  refine Qj Qa Qa (QD h7) (Qe Qa Qa (Qj Qa Qa (QD h7) (Wk _ underlying9 Qa Qa (by rfl) (by rfl) rfl ?_)))
  refine Qj Qa Qa (QD h7) (Xu Qa Qa Qa (Qj Qa Qa (Qx h6) (Q1 Qa (QD h7) Qa Qa (Q3 Qa (Qx h6) Qa Qa (Qh (Qd (Qk [1,0,4,5,6,7,8,44] Qa (Qv Qa (fun h8=> ?_) (fun h8=> ?_)))))))))
  ·have hn2:=DK (k:=2) (by omega) h8
   refine Qf (Qb (Qc Qa Qa (Qc Qa Qa (Qh (Qd (Qo (Qm (Z8 (.inr Qa) Qa Qa Qa ?_))))))))
   exact⟨_,rfl,.inr ⟨(Wu hE (by rw[←hH]; exact Yr hb0 (by rintro⟨h12,_⟩; rcases h12 with rfl | rfl<;>simp_all))).1, by rw[(Wu hE (by rw[←hH]; exact Yr hb0 (by rintro⟨h12,_⟩; rcases h12 with rfl | rfl<;>simp_all))).2],hS2.pick [0,2] rfl⟩⟩
  have h12:b0=1∨b0=2:= .inr (DM (k:=2) (by omega) (Decidable.not_not.1 h8))
  refine Qt (Qd (Qf (Qb (Qc Qa Qa (Qh (Qd (Qf (Qf (Qb (Qc Qa Qa (Qh (Qd (QK ?_)))))))))))))
  refine XJ (fun K0 E0 W0=> ∃(i:Nat),K0=1*i∧E0=[(0,ptrV p 0),(1,intV f),(6,ptrV b1 0),(7,strV [b0,b1_,b2,b3,b4]),(9,intV (acc b1_ b2 b3 b4 i:Nat)),(10,intV (i:Int))]∧Sat W0 [Xb b1 (YK p (KD f)),dT p D,F]∧(i≤4)) (L0:=[(0,_),(1,_),(6,_),(7,_),(9,_),(10,_)]) (4) (TH Qa Qa Qa Qa Qa Qa) ⟨4,rfl,rfl,hS2.reorder [1,0,2] Qa, by omega⟩ ?_
  rintro _ _ w9 ⟨i,rfl,rfl,hS9,hi⟩
  refine Qf (Qf (Qb (Qe Qa Qa (Wr Qa Qa Qa (Qh (Qd (Qv Qa (fun h10=> ?_) (fun h10=> ?_))))))))
  ·obtain⟨c,hc⟩: ∃c,[b0,b1_,b2,b3,b4][i]? =some c:=⟨_,WY (by simp;omega)⟩
   have hacc:=RG (by omega) hi hc
   have hal:=Bx (b1:=b1_) (b2:=b2) (b3:=b3) (b4:=b4) (show 0<i by omega)
   have hcl:=GA c
   have hi1:((i -1:Nat):Int)=(i:Int) -1:= by omega
   refine Qt (Qd (Qf (QK (Qb (Qe Qa Qa (Mz 8 Qa Qa Qa Qa (q:=256) Qa (by omega) (by omega) Qa ?_))))))
   refine Qe Qa Qa (Qe Qa Qa (Wk _ underlying9 Qa Qa (by rfl) (by first | assumption | rfl) Qa ?_))
   refine Yx underlying5 underlying3 Qa Qa ?_
   refine PL 8 (acc b1_ b2 b3 b4 i) Qa Qa (by rfl) (by constructor<;>omega) (by omega) Qa ?_
   refine Qc Qa Qa (Qh (Qq (Qd (Qk [10,7,6,1,0,9] Qa (Qb (Qe Qa Qa (JH Qa Qa (by omega) (by omega) Qa ?_)))))))
   refine Qc Qa Qa (Qh ?_)
   exact Xj (L1:=[(0,_),(1,_),(6,_),(7,_),(9,intV ((acc b1_ b2 b3 b4 (i -1):Nat):Int)),(10,intV ((i -1:Nat):Int))]) (.cons Qa (.cons Qa (.cons Qa (.cons Qa (.cons (by rw[hacc];rfl) (.cons (by rw[hi1];rfl) .nil)))))) (k1:=1*(i -1)) (by omega) ⟨i -1,rfl,rfl,hS9, by omega⟩
  obtain rfl:i=0:= by omega
  refine X6 (Q6 (Q6 (QR (Qd (Qf (Qf (Qb (Qe Qa Qa (Wr Qa Qa Qa (Qh (Qd (Qv Qa (fun h11=> ?_) (fun h11=> ?_)))))))))))))
  ·refine Qf (Qb (Qc Qa Qa (Qc Qa Qa (Qh (Qd (Qk [9,7,6,1,0,4,5] Qa (Qo (Qm (Z8 (.inr Qa) Qa Qa Qa ?_)))))))))
   exact⟨_,rfl,.inr ⟨(Wu hE (by rw[←hH]; exact Yr hb0 (by rw[←Jc];omega))).1, by rw[(Wu hE (by rw[←hH]; exact Yr hb0 (by rw[←Jc];omega))).2],hS9.pick [1,2] Qa⟩⟩
  have hn:Uz b1_ b2 b3 b4≤65536:= by rw[←Jc];omega
  have hSl:J9 (Wx D f 0 5)= .slot b0.toNat (Uz b1_ b2 b3 b4):= by rw[←hH]; exact BY h12 hn
  rw[Jc]
  obtain⟨n,hN⟩: ∃n,n=Uz b1_ b2 b3 b4:=⟨_,rfl⟩
  rw[←hN]at hSl hn⊢
  have h12n:b0.toNat=1∨b0.toNat=2:= by rcases h12 with rfl | rfl<;> simp
  refine Qt (Qd (Qf (Qb (Qe Qa Qa (Qe Qa Qa (Wk _ underlying9 Qa Qa (by rfl) (by first | assumption | rfl) Qa ?_))))))
  refine Yx underlying5 underlying3 Qa Qa (Ql Qa Qa (Qi Qa Ju Qa ?_))
  first | (refine Qw hS9 Qa Qa WA (by rfl) (i:=0) Qa (QC Qa) ?_)
  intro w12 hS13; dsimp only[List.set]at hS13
  refine Qh (Qd (Qk [9,6,1,0] Qa (Qf (Qb (Qe Qa Qa (Qe Qa Qa (Qe Qa Qa (Qe Qa Qa (Ql Qa Qa (Qi Qa Ju Qa (Qr Qa QH (hS13.cell 0 Qa Qa) Qa (YY _ underlying132 Qa Qa (by rfl) (by omega) WA Qa ?_))))))))))))
  have hg:=(hG.sat hS13 2 Qa).off h12n
  refine Qr Qa QH (by assumption) Qa ?_
  refine Qe Qa Qa (Q0 Gr Qa (Ps (hS13.sp [1] Qa) f (QG b0.toNat) n) Qa ?_)
  rintro _ w14 ⟨rfl,hS14⟩
  replace hS14:=hS14.jn Qa Qa
  have hE2:ZT D f (QG b0.toNat) n=0:=JG hE (WO _) (by omega)
  rw[hE2]
  refine Qe Qa Qa (Q7 Qa Qa Qa (Q7 Qa Qa Qa (Ql Qa Qa (Qi Qa Yk Qa ?_))))
  first | (refine Qw hS14 Qa Qa Hz (by rfl) (i:=1) Qa (QC Qa) ?_)
  intro w15 hS16; dsimp only[List.set]at hS16
  refine Qc Qa Qa (Qh ?_)
  have hE2:ZT D f (QG b0.toNat) n=0:=JG hE (WO _) (by omega)
  refine Qd (Qk [9,6,8] Qa (Qf (Qf (Qb (Qe Qa Qa (QL Qa Qa Qa (Qe Qa Qa (Q4 82 Qa (fun h17=> ?_) (fun h17=> ?_)))))))))
  ·refine Qj Qa Qa (QD h17) (Qe Qa Qa (Qj Qa Qa (QD h17) (Ql Qa Qa (Qj Qa Qa (QD h17) (Qi Qa Yk Qa (Qj Qa Qa (QD h17) (Qr Qa Zx (hS16.cell 1 Qa Qa) Qa (Qj Qa Qa (QD h17) (Zf underlying9 Qa Qa (Qj Qa Qa (QD h17) (Qe Qa Qa (Qj Qa Qa (QD h17) (X5 Qa Qa Qa (Q1 Qa (QD h17) Qa Qa (Qh (Qd (Qk [6,8,90] Qa (Qv Qa (fun h18=> ?_) (fun h18=> ?_)))))))))))))))))))
   ·refine Qb (Qc Qa Qa (Qh (Qd (Qf (Qf (Qb (Qe Qa Qa (Xu Qa Qa Qa (Qh (Qd (Qv Qa (fun h19=> ?_) (fun h19=> ?_))))))))))))
    ·exact Qf (Qb (Qe Qa Qa (Qc Qa Qa (Qc Qa Qa (Qh (Qd (Qo (Qm (Z8 (.inr Qa) Qa Qa Qa (⟨_,rfl,.inr ⟨(Hm hE hSl (by omega)).1, by rw[(Hm hE hSl (by omega)).2],hS16.pick [0,2] Qa⟩⟩))))))))))
    exact Qt (Qd (Qf (Qb (Qe Qa Qa (Qc Qa Qa (Qc Qa Qa (Qh (Qd (Qo (Z8 (.inr Qa) Qa Qa Qa (absurd (by decide) h19)))))))))))
   refine Qt (Qd (Qf (Qf (Qb (Qe Qa Qa (Xu Qa Qa Qa (Qh (Qd (Qv Qa (fun h20=> ?_) (fun h20=> ?_))))))))))
   ·exact Qf (Qb (Qe Qa Qa (Qc Qa Qa (Qc Qa Qa (Qh (Qd (Qo (Qm (Z8 (.inr Qa) Qa Qa Qa (absurd Qa h20))))))))))
   refine Qt (Qd (Qf (Qb (Qe Qa Qa (Qc Qa Qa (Qc Qa Qa (Qh (Qd (Qo (Z8 (.inr Qa) Qa Qa Qa ?_))))))))))
   exact⟨_,rfl,.inl ⟨(WP hE hSl (by omega)).1,_,rfl, by rw[(WP hE hSl (by omega)).2]; exact hS16.pick [1,0,2] Qa⟩⟩
  refine Qg Qa Qa (Qx h17) Qa (Qg Qa Qa (Qx h17) Qa (Qg Qa Qa (Qx h17) Qa (Qg Qa Qa (Qx h17) Qa (Qg Qa Qa (Qx h17) Qa (Qg Qa Qa (Qx h17) Qa (Qg Qa Qa (Qx h17) Qa (Q3 Qa (Qx h17) Qa Qa (Qh (Qd (Qk [6,8,90] Qa (QJ Qa (Qt (Qd (Qf (Qf (Qb (Qe Qa Qa (Xu Qa Qa Qa (Qh (Qd (Qv Qa (fun h21=> ?_) (fun h21=> ?_))))))))))))))))))))))
  ·exact Qf (Qb (Qe Qa Qa (Qc Qa Qa (Qc Qa Qa (Qh (Qd (Qo (Qm (Z8 (.inr Qa) Qa Qa Qa (absurd Qa h21))))))))))
  refine Qt (Qd (Qf (Qb (Qe Qa Qa (Qc Qa Qa (Qc Qa Qa (Qh (Qd (Qo (Z8 (.inr Qa) Qa Qa Qa ?_))))))))))
  exact⟨_,rfl,.inl ⟨(WP hE hSl (by omega)).1,_,rfl, by rw[(WP hE hSl (by omega)).2]; exact hS16.pick [1,0,2] Qa⟩⟩
 have h12:b0=1∨b0=2:= .inl (DM (k:=1) (by omega) (Decidable.not_not.1 h7))
 refine Qg Qa Qa (Qx h7) Qa (Qg Qa Qa (Qx h7) Qa (Qg Qa Qa (Qx h7) Qa (Qj Qa Qa (Qx h6) (Q3 Qa (Qx h7) Qa Qa (Q3 Qa (Qx h6) Qa Qa (Qh (Qd (Qk [1,0,4,5,6,7,8,44] Qa (QJ Qa (Qt (Qd (Qf (Qb (Qc Qa Qa (Qh (Qd (Qf (Qf (Qb (Qc Qa Qa (Qh (Qd (QK ?_)))))))))))))))))))))))
 refine XJ (fun K0 E0 W0=> ∃(i:Nat),K0=1*i∧E0=[(0,ptrV p 0),(1,intV f),(6,ptrV b1 0),(7,strV [b0,b1_,b2,b3,b4]),(9,intV (acc b1_ b2 b3 b4 i:Nat)),(10,intV (i:Int))]∧Sat W0 [Xb b1 (YK p (KD f)),dT p D,F]∧(i≤4)) (L0:=[(0,_),(1,_),(6,_),(7,_),(9,_),(10,_)]) (4) (TH Qa Qa Qa Qa Qa Qa) ⟨4,rfl,rfl,hS2.reorder [1,0,2] Qa, by omega⟩ ?_
 rintro _ _ w22 ⟨i,rfl,rfl,hS22,hi⟩
 refine Qf (Qf (Qb (Qe Qa Qa (Wr Qa Qa Qa (Qh (Qd (Qv Qa (fun h23=> ?_) (fun h23=> ?_))))))))
 ·obtain⟨c,hc⟩: ∃c,[b0,b1_,b2,b3,b4][i]? =some c:=⟨_,WY (by simp;omega)⟩
  have hacc:=RG (by omega) hi hc
  have hal:=Bx (b1:=b1_) (b2:=b2) (b3:=b3) (b4:=b4) (show 0<i by omega)
  have hcl:=GA c
  have hi1:((i -1:Nat):Int)=(i:Int) -1:= by omega
  refine Qt (Qd (Qf (QK (Qb (Qe Qa Qa (Mz 8 Qa Qa Qa Qa (q:=256) Qa (by omega) (by omega) Qa ?_))))))
  refine Qe Qa Qa (Qe Qa Qa (Wk _ underlying9 Qa Qa (by rfl) (by first | assumption | rfl) Qa ?_))
  refine Yx underlying5 underlying3 Qa Qa ?_
  refine PL 8 (acc b1_ b2 b3 b4 i) Qa Qa (by rfl) (by constructor<;>omega) (by omega) Qa ?_
  refine Qc Qa Qa (Qh (Qq (Qd (Qk [10,7,6,1,0,9] Qa (Qb (Qe Qa Qa (JH Qa Qa (by omega) (by omega) Qa ?_)))))))
  refine Qc Qa Qa (Qh ?_)
  exact Xj (L1:=[(0,_),(1,_),(6,_),(7,_),(9,intV ((acc b1_ b2 b3 b4 (i -1):Nat):Int)),(10,intV ((i -1:Nat):Int))]) (.cons Qa (.cons Qa (.cons Qa (.cons Qa (.cons (by rw[hacc];rfl) (.cons (by rw[hi1];rfl) .nil)))))) (k1:=1*(i -1)) (by omega) ⟨i -1,rfl,rfl,hS22, by omega⟩
 obtain rfl:i=0:= by omega
 refine X6 (Q6 (Q6 (QR (Qd (Qf (Qf (Qb (Qe Qa Qa (Wr Qa Qa Qa (Qh (Qd (Qv Qa (fun h24=> ?_) (fun h24=> ?_)))))))))))))
 ·refine Qf (Qb (Qc Qa Qa (Qc Qa Qa (Qh (Qd (Qk [9,7,6,1,0,4,5] Qa (Qo (Qm (Z8 (.inr Qa) Qa Qa Qa ?_)))))))))
  exact⟨_,rfl,.inr ⟨(Wu hE (by rw[←hH]; exact Yr hb0 (by rw[←Jc];omega))).1, by rw[(Wu hE (by rw[←hH]; exact Yr hb0 (by rw[←Jc];omega))).2],hS22.pick [1,2] Qa⟩⟩
 have hn:Uz b1_ b2 b3 b4≤65536:= by rw[←Jc];omega
 have hSl:J9 (Wx D f 0 5)= .slot b0.toNat (Uz b1_ b2 b3 b4):= by rw[←hH]; exact BY h12 hn
 rw[Jc]
 obtain⟨n,hN⟩: ∃n,n=Uz b1_ b2 b3 b4:=⟨_,rfl⟩
 rw[←hN]at hSl hn⊢
 have h12n:b0.toNat=1∨b0.toNat=2:= by rcases h12 with rfl | rfl<;> simp
 refine Qt (Qd (Qf (Qb (Qe Qa Qa (Qe Qa Qa (Wk _ underlying9 Qa Qa (by rfl) (by first | assumption | rfl) Qa ?_))))))
 refine Yx underlying5 underlying3 Qa Qa (Ql Qa Qa (Qi Qa Ju Qa ?_))
 first | (refine Qw hS22 Qa Qa WA (by rfl) (i:=0) Qa (QC Qa) ?_)
 intro w25 hS26; dsimp only[List.set]at hS26
 refine Qh (Qd (Qk [9,6,1,0] Qa (Qf (Qb (Qe Qa Qa (Qe Qa Qa (Qe Qa Qa (Qe Qa Qa (Ql Qa Qa (Qi Qa Ju Qa (Qr Qa QH (hS26.cell 0 Qa Qa) Qa (YY _ underlying132 Qa Qa (by rfl) (by omega) WA Qa ?_))))))))))))
 have hg:=(hG.sat hS26 2 Qa).off h12n
 refine Qr Qa QH (by assumption) Qa ?_
 refine Qe Qa Qa (Q0 Gr Qa (Ps (hS26.sp [1] Qa) f (QG b0.toNat) n) Qa ?_)
 rintro _ w27 ⟨rfl,hS27⟩
 replace hS27:=hS27.jn Qa Qa
 have hE2:ZT D f (QG b0.toNat) n=0:=JG hE (WO _) (by omega)
 rw[hE2]
 refine Qe Qa Qa (Q7 Qa Qa Qa (Q7 Qa Qa Qa (Ql Qa Qa (Qi Qa Yk Qa ?_))))
 first | (refine Qw hS27 Qa Qa Hz (by rfl) (i:=1) Qa (QC Qa) ?_)
 intro w28 hS29; dsimp only[List.set]at hS29
 refine Qc Qa Qa (Qh ?_)
 have hE2:ZT D f (QG b0.toNat) n=0:=JG hE (WO _) (by omega)
 refine Qd (Qk [9,6,8] Qa (Qf (Qf (Qb (Qe Qa Qa (QL Qa Qa Qa (Qe Qa Qa (Q4 82 Qa (fun h30=> ?_) (fun h30=> ?_)))))))))
 ·refine Qj Qa Qa (QD h30) (Qe Qa Qa (Qj Qa Qa (QD h30) (Ql Qa Qa (Qj Qa Qa (QD h30) (Qi Qa Yk Qa (Qj Qa Qa (QD h30) (Qr Qa Zx (hS29.cell 1 Qa Qa) Qa (Qj Qa Qa (QD h30) (Zf underlying9 Qa Qa (Qj Qa Qa (QD h30) (Qe Qa Qa (Qj Qa Qa (QD h30) (X5 Qa Qa Qa (Q1 Qa (QD h30) Qa Qa (Qh (Qd (Qk [6,8,90] Qa (Qv Qa (fun h31=> ?_) (fun h31=> ?_)))))))))))))))))))
  ·refine Qb (Qc Qa Qa (Qh (Qd (Qf (Qf (Qb (Qe Qa Qa (Xu Qa Qa Qa (Qh (Qd (Qv Qa (fun h32=> ?_) (fun h32=> ?_))))))))))))
   ·exact Qf (Qb (Qe Qa Qa (Qc Qa Qa (Qc Qa Qa (Qh (Qd (Qo (Qm (Z8 (.inr Qa) Qa Qa Qa (⟨_,rfl,.inr ⟨(Hm hE hSl (by omega)).1, by rw[(Hm hE hSl (by omega)).2],hS29.pick [0,2] Qa⟩⟩))))))))))
   exact Qt (Qd (Qf (Qb (Qe Qa Qa (Qc Qa Qa (Qc Qa Qa (Qh (Qd (Qo (Z8 (.inr Qa) Qa Qa Qa (absurd (by decide) h32)))))))))))
  refine Qt (Qd (Qf (Qf (Qb (Qe Qa Qa (Xu Qa Qa Qa (Qh (Qd (Qv Qa (fun h33=> ?_) (fun h33=> ?_))))))))))
  ·exact Qf (Qb (Qe Qa Qa (Qc Qa Qa (Qc Qa Qa (Qh (Qd (Qo (Qm (Z8 (.inr Qa) Qa Qa Qa (absurd Qa h33))))))))))
  refine Qt (Qd (Qf (Qb (Qe Qa Qa (Qc Qa Qa (Qc Qa Qa (Qh (Qd (Qo (Z8 (.inr Qa) Qa Qa Qa ?_))))))))))
  exact⟨_,rfl,.inl ⟨(WP hE hSl (by omega)).1,_,rfl, by rw[(WP hE hSl (by omega)).2]; exact hS29.pick [1,0,2] Qa⟩⟩
 refine Qg Qa Qa (Qx h30) Qa (Qg Qa Qa (Qx h30) Qa (Qg Qa Qa (Qx h30) Qa (Qg Qa Qa (Qx h30) Qa (Qg Qa Qa (Qx h30) Qa (Qg Qa Qa (Qx h30) Qa (Qg Qa Qa (Qx h30) Qa (Q3 Qa (Qx h30) Qa Qa (Qh (Qd (Qk [6,8,90] Qa (QJ Qa (Qt (Qd (Qf (Qf (Qb (Qe Qa Qa (Xu Qa Qa Qa (Qh (Qd (Qv Qa (fun h34=> ?_) (fun h34=> ?_))))))))))))))))))))))
 ·exact Qf (Qb (Qe Qa Qa (Qc Qa Qa (Qc Qa Qa (Qh (Qd (Qo (Qm (Z8 (.inr Qa) Qa Qa Qa (absurd Qa h34))))))))))
 refine Qt (Qd (Qf (Qb (Qe Qa Qa (Qc Qa Qa (Qc Qa Qa (Qh (Qd (Qo (Z8 (.inr Qa) Qa Qa Qa ?_))))))))))
 exact⟨_,rfl,.inl ⟨(WP hE hSl (by omega)).1,_,rfl, by rw[(WP hE hSl (by omega)).2]; exact hS29.pick [1,0,2] Qa⟩⟩
def getV (C:CS):Value:= .tuple #[strV C.val,.bool (decide (0<C.slot))]
theorem get_sp {w:World} {p c:Nat} {C:CS} {F:Th} (hS:Sat w [Xb c (YK p C),F]):
    Calls prog 89 #[ptrV c 0] w (Ret fun v w'=>v=getV C∧Sat w' [Xb c (YK p C),F]):= by
 refine Qy func89 Qa ntmps89 Qa ?_
 refine Qf (Qb (Qc Qa Qa (Qc Qa Qa (Qh (Qd (Qf ?_))))))
 have hS1:=hS.drew
 refine QN [0,1,2,3,4,5,6,7,8,9,10] [] W5 (by kernel_rfl) ?_
 refine QI Qa Qa Qa (Xn Qa Qa Qa (QO Qa Qa Qa Yk (QF Qa Qa Qa (Qn Qa Zx (hS1.cell 0 Qa Qa)) (QI Qa Qa Qa (Xn Qa Qa Qa (QO Qa Qa Qa Ju (QF Qa Qa Qa (Qn Qa QH (hS1.cell 0 Qa Qa)) (Q9 Qa Qa Qa (fun _=>(Db Qa Qa)) ?_))))))))
 exact WV Qa Qa Qa (WV Qa Qa Qa (VC.nil (Qd (Qk [2,3] Qa (Qo (Z8 (.inr Qa) Qa Qa Qa (⟨_,rfl,congrArg (fun b=>Value.tuple #[strV C.val,.bool b]) (decide_eq_decide.2 (by omega)),hS1⟩)))))))
def hb (slot n:Nat) (j:Nat):Bytes:=UInt8.ofNat slot::(List.range j).map fun i=>UInt8.ofNat (n/ 256^i)
theorem hb_step (slot n j:Nat):hb slot n (j+1)=hb slot n j++[UInt8.ofNat (n/ 256^j)]:= by simp [hb,List.range_succ]
theorem hb_len (slot n j:Nat):(hb slot n j).length=j+1:= by simp [hb]
theorem hb_end (slot n:Nat) (h:n≤65536):hb slot n 4=Hq slot n:= by
  have h1:n/ 16777216=0:= by omega
  simp [hb,Hq,List.range_succ,h1]
theorem LV (n j:Nat):n/ 256^j/ 256=n/ 256^(j+1):= by rw[Nat.div_div_eq_div_mul,Nat.pow_succ]
theorem FT {w:World} {F:Th} (hS:Sat w [F]) (slot:Nat) (s:Bytes) (hn:s.length≤65536):
    Calls prog 118 #[intV (slot:Int),strV s] w (Ret fun v w'=>v=strV (Hq slot s.length)∧Sat w' [F]):= by
 refine Qy func118 Qa ntmps118 Qa ?_
 refine Qf (Qb (Qc Qa Qa (Qh (Qd (Qf (Qb (Qe Qa Qa (G8 slot underlying3 underlying5 Qa (by rfl) rfl ?_))))))))
 refine Xe byC [UInt8.ofNat slot] hS Qa underlying98 ifz_5 Qa Qa Qa Qa (by rfl) rfl ?_
 intro b1 w1 hS1
 refine Qc Qa Qa (Qh (Qd (Qf (Qf (Qb (Qe Qa Qa (Zf underlying9 Qa Qa (Qc Qa Qa (Qh (Qd (QK ?_)))))))))))
 refine XJ (fun K0 E0 W0=> ∃(j:Nat) (v:Value),K0=4 -j∧E0=[(1,strV s),(5,v),(6,intV (s.length/ 256^j:Nat))]∧Sat W0 [rowT byC v (hb slot s.length j),F]∧(j≤4)) (L0:=[(1,_),(5,_),(6,_)]) (4) (Dq Qa Qa Qa) ⟨0,_,rfl, by simp,hS1, by omega⟩ ?_
 rintro _ _ w2 ⟨j,v,rfl,rfl,hS2,hj⟩
 have hbl:=hb_len slot s.length j
 refine Qf (Qf (Qb (Qe Qa Qa ?_)))
 first | refine Xm underlying98 Qa Qa ?_ | refine Xa 0 hS2 underlying98 Qa Qa Qa ?_
 refine X5 Qa Qa Qa (Qh (Qd (Qv Qa (fun h3=> ?_) (fun h3=> ?_))))
 ·refine Qt (Qd (Qf (QK (Qb (Qe Qa Qa (Qe Qa Qa (G8 (s.length/ 256^j) underlying3 underlying5 Qa (by rfl) rfl ?_)))))))
  refine Xe byC [UInt8.ofNat (s.length/ 256^j)] hS2 Qa underlying98 ifz_5 Qa Qa Qa Qa (by rfl) rfl ?_
  intro b4 w4 hS4
  refine Zi byC 1 hS4 Qa Qa Qa (hS4.rd 0 Qa (by simp)) underlying98 underlying98 (by intro k hk; cases hk) Su Qa (by simp only[List.length_cons,List.length_nil,hbl];omega) Qa (by simp only[List.length_cons,List.length_nil,hbl];omega) ?_
  intro v5 w5 hS5; dsimp only[List.set]at hS5
  have h1v5:v5.oneCell'=true:=hS5.own_one 1 Qa
  refine Qc Qa Qa (Qh (Qq (Qd (Qk [6,1,5] Qa (Qb (Qe Qa Qa (wl_shr 8 Qa Qa Qa Qa (q:=256) Qa Qa (Qc Qa Qa (Qh ?_)))))))))
  exact Xj (L1:=[(1,_),(5,_),(6,intV ((s.length/ 256^(j+1):Nat):Int))]) (.cons Qa (.cons Qa (.cons (by rw[←LV];rfl) .nil))) (k1:=4 -(j+1)) (by omega) ⟨j+1,_,rfl,rfl, by rw[hb_step]; exact hS5.tail, by omega⟩
 refine X6 (Q6 (Q6 (QR (Qd (Qf (Qb (Qe Qa Qa (DG 0 hS2 Qa Qa underlying98 underlying5 underlying9 Qa (Qc Qa Qa (Qh (Qd (Qo (Q5 (.inr Qa) Qa Qa ?_)))))))))))))
 exact⟨_,rfl, by rw[show j=4 by omega,hb_end slot s.length hn],hS2.tail⟩
theorem VN {D:DS} {C:CS} {s:Bytes} (h:65536<s.length):Zq D C s=⟨6,D,C⟩:= by rw[Zq,if_pos h]
theorem VO {D:DS} {C:CS} {s:Bytes} (h: ¬65536<s.length) (h1:C.sure=false) (h2:0<C.slot) (h3:Z0 D C.f≠0):Zq D C s=⟨Z0 D C.f,X1 D C.f,C⟩:= by rw[Zq,if_neg h,if_pos ⟨h1,h2⟩,if_pos h3]
theorem RQ {D:DS} {C:CS} {s:Bytes} (h: ¬65536<s.length) (h1:C.sure=false) (h2:0<C.slot) (h3:Z0 D C.f=0):Zq D C s=Wm (X1 D C.f) {C with sure:=true} s:= by rw[Zq,if_neg h,if_pos ⟨h1,h2⟩,if_neg (by omega)]
theorem VP {D:DS} {C:CS} {s:Bytes} (h: ¬65536<s.length) (h1: ¬(C.sure=false∧0<C.slot)):Zq D C s=Wm D C s:= by rw[Zq,if_neg h,if_neg h1]
theorem Bf {D:DS} {C:CS} {s:Bytes} (h:W4 D C.f (QG (other C)) s≠0):Wm D C s=⟨W4 D C.f (QG (other C)) s,XD D C.f (QG (other C)) s,C⟩:= by simp only[Wm]; rw[if_pos h]
theorem MK {D:DS} {C:CS} {s:Bytes} (h:W4 D C.f (QG (other C)) s=0) (h1:Z0 (XD D C.f (QG (other C)) s) C.f≠0):Wm D C s=⟨Z0 (XD D C.f (QG (other C)) s) C.f,X1 (XD D C.f (QG (other C)) s) C.f,C⟩:= by simp only[Wm]; rw[if_neg (by omega),if_pos h1]
theorem MJ {D:DS} {C:CS} {s:Bytes} (h:W4 D C.f (QG (other C)) s=0) (h1:Z0 (XD D C.f (QG (other C)) s) C.f=0) (h2:W4 (X1 (XD D C.f (QG (other C)) s) C.f) C.f 0 (Hq (other C) s.length)≠0):Wm D C s=⟨W4 (X1 (XD D C.f (QG (other C)) s) C.f) C.f 0 (Hq (other C) s.length),XD (X1 (XD D C.f (QG (other C)) s) C.f) C.f 0 (Hq (other C) s.length),C⟩:= by simp only[Wm]; rw[if_neg (by omega),if_neg (by omega),if_pos h2]
theorem Be {D:DS} {C:CS} {s:Bytes} (h:W4 D C.f (QG (other C)) s=0) (h1:Z0 (XD D C.f (QG (other C)) s) C.f=0) (h2:W4 (X1 (XD D C.f (QG (other C)) s) C.f) C.f 0 (Hq (other C) s.length)=0):Wm D C s=⟨Z0 (XD (X1 (XD D C.f (QG (other C)) s) C.f) C.f 0 (Hq (other C) s.length)) C.f,X1 (XD (X1 (XD D C.f (QG (other C)) s) C.f) C.f 0 (Hq (other C) s.length)) C.f,⟨C.f,other C,s,decide (Z0 (XD (X1 (XD D C.f (QG (other C)) s) C.f) C.f 0 (Hq (other C) s.length)) C.f=0)⟩⟩:= by simp only[Wm]; rw[if_neg (by omega),if_neg (by omega),if_neg (by omega)]
theorem set_sp {w:World} {p c:Nat} {D:DS} {C:CS} {F:Th} (hS:Sat w [Xb c (YK p C),dT p D,F]) (hG:Ent F (Glob 0)) (hsl:C.slot≤2) (s:Bytes):
    Calls prog 95 #[ptrV c 0,strV s] w (Ret fun v w'=>v=intV (Zq D C s).e∧Sat w' [Xb c (YK p (Zq D C s).C),dT p (Zq D C s).D,F]):= by
 refine Qy func95 Qa ntmps95 Qa ?_
 refine Qf (Qb (Qc Qa Qa (Qh (Qd (Qf (Qf (Qb (Qe Qa Qa (Zf underlying9 Qa Qa (Wr Qa Qa Qa (Qh (Qd (Qv Qa (fun h1=> ?_) (fun h1=> ?_))))))))))))))
 ·have hlong:65536<s.length:= by omega
  refine Qf (Qb (Qc Qa Qa (Qh (Qd (Qo (Qm (Q5 (.inr Qa) Qa Qa ?_)))))))
  exact⟨_,rfl, by rw[VN hlong], by rw[VN hlong]; exact hS.pick [0,1,2] Qa⟩
 have hlong: ¬65536<s.length:= by omega
 refine Qt (Qd (Vq (fun E0 W0=> ∃(D1:DS) (C1:CS),E0=[(0,ptrV c 0),(1,strV s)]∧Sat W0 [Xb c (YK p C1),dT p D1,F]∧(Zq D C s=Wm D1 C1 s)∧(C1.slot≤2)) ?_ ?_))
 ·refine Qf (Qb (Qe Qa Qa (Ql Qa Qa (Qi Qa Rt Qa (Qr Qa J2 (hS.cell 0 Qa Qa) Qa (XN Qa Qa (Qe Qa Qa (ZO 19 Qa (fun h3=> ?_) (fun h3=> ?_)))))))))
  ·refine Qj Qa Qa h3 (Qe Qa Qa (Qj Qa Qa h3 (Ql Qa Qa (Qj Qa Qa h3 (Qi Qa Ju Qa (Qj Qa Qa h3 (Qr Qa QH (hS.cell 0 Qa Qa) Qa (Qj Qa Qa h3 (Wr Qa Qa Qa (Q1 Qa h3 Qa Qa (Qh (Qd (Qk [1,0,4,25] Qa (Qv Qa (fun h4=> ?_) (fun h4=> ?_)))))))))))))))
   ·have hsu:C.sure=false:= by simp_all
    have hsl0:0<C.slot:= by omega
    refine Qf (Qf ?_)
    have hS5:=hS.drew
    refine QN [0,1,2,3,4,5,6,7,8,9] [8] W5 (by kernel_rfl) ?_
    refine QI Qa Qa Qa (Xn Qa Qa Qa (QO Qa Qa Qa V5 (QF Qa Qa Qa (Qn Qa HZ (hS5.cell 0 Qa Qa)) (QI Qa Qa Qa (Xn Qa Qa Qa (QO Qa Qa Qa V4 (QF Qa Qa Qa (Qn Qa QH (hS5.cell 0 Qa Qa)) (QV Qa Qa Qa Qa Qa Qa ?_))))))))
    refine Q0 T3 Qa (PS (hS5.sp [1] Qa) C.f) Qa ?_
    rintro _ w6 ⟨rfl,hS6⟩
    replace hS6:=hS6.jn Qa Qa
    refine Xd (Xq (by kernel_rfl)) ?_
    refine WV Qa Qa Qa (VC.nil (Qd (Qk [1,0,4,5] Qa (Qf (Qb (Qe Qa Qa (Xu Qa Qa Qa (Qh (Qd (Qv Qa (fun h7=> ?_) (fun h7=> ?_)))))))))))
    ·have h2:=h7
     refine Qf (Qb (Qe Qa Qa (Qc Qa Qa (Qh (Qd (Qo (Qm (Qm (Q5 (.inr Qa) Qa Qa ?_)))))))))
     exact⟨_,rfl, by rw[VO hlong hsu hsl0 h2], by rw[VO hlong hsu hsl0 h2]; exact hS6.pick [1,0,2] Qa⟩
    have h2:Z0 D C.f=0:=Decidable.not_not.1 h7
    refine Qt (Qd (Qb (Qe Qa Qa (Ql Qa Qa (Qi Qa Rt Qa ?_)))))
    first | (refine Qw hS6 Qa Qa XU (by rfl) (i:=1) Qa (QC Qa) ?_)
    intro w8 hS9; dsimp only[List.set]at hS9
    exact Qh (YB (Lr Qa Qa) ⟨_,{C with sure:=true},Qa,hS9.reorder [1,0,2] Qa,RQ hlong hsu hsl0 h2,hsl⟩)
   refine Qt ?_
   exact YB (Lr rfl rfl) ⟨_,C,rfl,hS.reorder [0,1,2] rfl,VP hlong (by rintro⟨q1,q2⟩;simp_all),hsl⟩
  refine Qg Qa Qa h3 Qa (Qg Qa Qa h3 Qa (Qg Qa Qa h3 Qa (Qg Qa Qa h3 Qa (Qg Qa Qa h3 Qa (Q3 Qa h3 Qa Qa (Qh (Qd (Qk [1,0,4,25] Qa (QJ Qa (Qt ?_))))))))))
  exact YB (Lr rfl rfl) ⟨_,C,rfl,hS.reorder [0,1,2] rfl,VP hlong (by rintro⟨q1,q2⟩;simp_all),hsl⟩
 rintro _ w2 ⟨D1,C1,rfl,hS2,hj,hsl1⟩
 refine Qf (Qb (Qc Qa Qa (Qh (Qd (Vq (fun E0 W0=> ∃(sl:Nat),E0=[(0,ptrV c 0),(1,strV s),(6,intV (sl:Int))]∧Sat W0 [Xb c (YK p C1),dT p D1,F]∧(sl=other C1)) ?_ ?_)))))
 ·refine Qf (Qb (Qe Qa Qa (Ql Qa Qa (Qi Qa Ju Qa (Qr Qa QH (hS2.cell 0 Qa Qa) Qa (QL Qa Qa Qa (Qh (Qd (Qv Qa (fun h11=> ?_) (fun h11=> ?_))))))))))
  ·have hs1:C1.slot=1:= by omega
   refine Qb (Qc Qa Qa (Qh ?_))
   exact YB (Dq Qa Qa Qa) ⟨2,rfl,hS2, by simp [other,hs1]⟩
  have hs1: ¬C1.slot=1:= by omega
  refine Qt ?_
  exact YB (Dq Qa Qa Qa) ⟨1,rfl,hS2, by simp [other,hs1]⟩
 rintro _ w10 ⟨sl,rfl,hS10,hso⟩
 have hs12:sl=1∨sl=2:= by rw[hso];unfold other;split<;> simp
 refine Qf (Qf ?_)
 subst hso
 have hS12:=hS10.drew
 refine QN [0,1,2,3,4,5,6,7,8,9,10,11,12,13] [12] W5 (by kernel_rfl) ?_
 refine QI Qa Qa Qa (Xn Qa Qa Qa (QO Qa Qa Qa V5 (QF Qa Qa Qa (Qn Qa HZ (hS12.cell 0 Qa Qa)) (QI Qa Qa Qa (Xn Qa Qa Qa (QO Qa Qa Qa V4 (QF Qa Qa Qa (Qn Qa QH (hS12.cell 0 Qa Qa)) (QI Qa Qa Qa (Q9 Qa Qa Qa (fun _=>(Ky _ underlying132 Qa Qa (by rfl) (by omega) WA)) ?_)))))))))
 refine QF Qa Qa Qa (Qn Qa QH ((hG.sat hS12 2 Qa).off hs12)) (QI Qa Qa Qa (QV Qa Qa Qa Qa Qa Qa ?_))
 refine Q0 S8 Qa (L3 (hS12.sp [1] Qa) C1.f (QG (other C1)) s) Qa ?_
 rintro _ w13 ⟨rfl,hS13⟩
 replace hS13:=hS13.jn Qa Qa
 refine Xd (Xq (by kernel_rfl)) ?_
 refine WV Qa Qa Qa (VC.nil (Qd (Qk [6,1,0,7] Qa (Qf (Qb (Qe Qa Qa (Xu Qa Qa Qa (Qh (Qd (Qv Qa (fun h14=> ?_) (fun h14=> ?_)))))))))))
 ·have h4:=h14
  refine Qf (Qb (Qe Qa Qa (Qc Qa Qa (Qh (Qd (Qo (Qm (Q5 (.inr Qa) Qa Qa ?_))))))))
  exact⟨_,rfl, by rw[hj,Bf h4], by rw[hj,Bf h4]; exact hS13.pick [1,0,2] Qa⟩
 have h4:=Decidable.not_not.1 h14
 refine Qt (Qd (Qf (Qf ?_)))
 have hS15:=hS13.drew
 refine QN [0,1,2,3,4,5,6,7,8,9] [8] W5 (by kernel_rfl) ?_
 refine QI Qa Qa Qa (Xn Qa Qa Qa (QO Qa Qa Qa V5 (QF Qa Qa Qa (Qn Qa HZ (hS15.cell 1 Qa Qa)) (QI Qa Qa Qa (Xn Qa Qa Qa (QO Qa Qa Qa V4 (QF Qa Qa Qa (Qn Qa QH (hS15.cell 1 Qa Qa)) (QV Qa Qa Qa Qa Qa Qa ?_))))))))
 refine Q0 T3 Qa (PS (hS15.sp [0] Qa) C1.f) Qa ?_
 rintro _ w16 ⟨rfl,hS16⟩
 replace hS16:=hS16.jn Qa Qa
 refine Xd (Xq (by kernel_rfl)) ?_
 refine WV Qa Qa Qa (VC.nil (Qd (Qk [6,1,0,8] Qa (Qf (Qb (Qe Qa Qa (Xu Qa Qa Qa (Qh (Qd (Qv Qa (fun h17=> ?_) (fun h17=> ?_)))))))))))
 ·have h5:=h17
  refine Qf (Qb (Qe Qa Qa (Qc Qa Qa (Qh (Qd (Qo (Qm (Q5 (.inr Qa) Qa Qa ?_))))))))
  exact⟨_,rfl, by rw[hj,MK h4 h5], by rw[hj,MK h4 h5]; exact hS16.pick [1,0,2] Qa⟩
 have h5:=Decidable.not_not.1 h17
 refine Qt (Qd (Qf (Qf ?_)))
 have hS18:=hS16.drew
 refine QN [0,1,2,3,4,5,6,7,8,9,10,11,12] [10,11] W5 (by kernel_rfl) ?_
 refine QI Qa Qa Qa (Xn Qa Qa Qa (QO Qa Qa Qa V5 (QF Qa Qa Qa (Qn Qa HZ (hS18.cell 1 Qa Qa)) (QI Qa Qa Qa (Xn Qa Qa Qa (QO Qa Qa Qa V4 (QF Qa Qa Qa (Qn Qa QH (hS18.cell 1 Qa Qa)) (QI Qa Qa Qa (QI Qa Qa Qa (QV Qa Qa Qa Qa Qa Qa ?_))))))))))
 refine Q0 cal_118 Qa (FT (hS18.sp [] Qa) (other C1) s (by omega)) Qa ?_
 rintro _ w19 ⟨rfl,hS19⟩
 replace hS19:=hS19.jn Qa Qa
 refine Xd (.cons (.inl ⟨Qa,(Qn Qa QH (hS19.cell 1 Qa Qa))⟩) (.cons (.inl ⟨Qa,(Qn Qa HZ (hS19.cell 1 Qa Qa))⟩) .nil)) (QV Qa Qa Qa Qa Qa Qa ?_)
 refine Q0 S8 Qa (L3 (hS19.sp [0] Qa) C1.f 0 (Hq (other C1) s.length)) Qa ?_
 rintro _ w20 ⟨rfl,hS20⟩
 replace hS20:=hS20.jn Qa Qa
 refine Xd (Xq (by kernel_rfl)) ?_
 refine WV Qa Qa Qa (VC.nil (Qd (Qk [6,1,0,9] Qa (Qf (Qb (Qe Qa Qa (Xu Qa Qa Qa (Qh (Qd (Qv Qa (fun h21=> ?_) (fun h21=> ?_)))))))))))
 ·have h6:=h21
  refine Qf (Qb (Qe Qa Qa (Qc Qa Qa (Qh (Qd (Qo (Qm (Q5 (.inr Qa) Qa Qa ?_))))))))
  exact⟨_,rfl, by rw[hj,MJ h4 h5 h6], by rw[hj,MJ h4 h5 h6]; exact hS20.pick [1,0,2] Qa⟩
 have h6:=Decidable.not_not.1 h21
 refine Qt (Qd (Qf (Qb (Qe Qa Qa (Qe Qa Qa (Qe Qa Qa (Qe Qa Qa (Qe Qa Qa (Ql Qa Qa (Qi Qa Ju Qa ?_))))))))))
 first | (refine Qw hS20 Qa Qa WA (by rfl) (i:=1) Qa (QC Qa) ?_)
 intro w22 hS23; dsimp only[List.set]at hS23
 refine Ql Qa Qa (Qi Qa Yk Qa ?_)
 first | (refine Qw hS23 Qa Qa Hz (by rfl) (i:=1) Qa (QC Qa) ?_)
 intro w24 hS25; dsimp only[List.set]at hS25
 refine Ql Qa Qa (Qi Qa Rt Qa ?_)
 first | (refine Qw hS25 Qa Qa XU (by rfl) (i:=1) Qa (QC Qa) ?_)
 intro w26 hS27; dsimp only[List.set]at hS27
 refine Qh (Qd (Qk [0] Qa (Qf ?_)))
 have hS28:=hS27.drew
 refine QN [0,1,2,3,4,5,6,7,8,9] [8] W5 (by kernel_rfl) ?_
 refine QI Qa Qa Qa (Xn Qa Qa Qa (QO Qa Qa Qa V5 (QF Qa Qa Qa (Qn Qa HZ (hS28.cell 1 Qa Qa)) (QI Qa Qa Qa (Xn Qa Qa Qa (QO Qa Qa Qa V4 (QF Qa Qa Qa (Qn Qa QH (hS28.cell 1 Qa Qa)) (QV Qa Qa Qa Qa Qa Qa ?_))))))))
 refine Q0 T3 Qa (PS (hS28.sp [0] Qa) C1.f) Qa ?_
 rintro _ w29 ⟨rfl,hS29⟩
 replace hS29:=hS29.jn Qa Qa
 refine Xd (Xq (by kernel_rfl)) ?_
 refine WV Qa Qa Qa (VC.nil (Qd (Qk [0,10] Qa (Qf (Qb (Qe Qa Qa (Qe Qa Qa (QL Qa Qa Qa (Ql Qa Qa (Qi Qa Rt Qa ?_))))))))))
 first | (refine Qw hS29 Qa Qa XU (by rfl) (i:=1) Qa (QC Qa) ?_)
 intro w30 hS31; dsimp only[List.set]at hS31
 refine Qh (Qd (Qf (Qb (Qe Qa Qa (Qc Qa Qa (Qh (Qd (Qo (Q5 (.inr Qa) Qa Qa ?_)))))))))
 exact⟨_,rfl, by rw[hj,Be h4 h5 h6], by rw[hj,Be h4 h5 h6]; exact hS31.pick [1,0,2] Qa⟩
