/- cell: Open -/
import Derived.Test.YtiibgheijbbmaaaGreatDoorCell
import Derived.Test.YtiibgheijbbmaaaGreatDoorOp4
import Derived.Test.YtiibgheijbbmaaaGreatDoorDf
import Derived.Test.YtiibgheijbbmaaaGreatDoorWire
set_option linter.unusedVariables false
set_option maxRecDepth 100000
namespace Go.Proofs.YtiibgheijbbmaaaGreatDoor
open Go.RowKit M Proofs.Tryz
def acc (b1 b2 b3 b4:UInt8):Nat→Nat
  | 0=>((b4.toNat*256+b3.toNat)*256+b2.toNat)*256+b1.toNat
  | 1=>(b4.toNat*256+b3.toNat)*256+b2.toNat
  | 2=>b4.toNat*256+b3.toNat
  | 3=>b4.toNat
  | _=>0
theorem GN {b0 b1 b2 b3 b4 c:UInt8} {i:Nat} (h0:0<i) (h4:i≤4) (hc:[b0,b1,b2,b3,b4][i]? =some c):acc b1 b2 b3 b4 (i -1)=acc b1 b2 b3 b4 i*256+c.toNat:= by
  obtain rfl | rfl | rfl | rfl:i=1∨i=2∨i=3∨i=4:= by omega
  all_goals (simp at hc; subst hc; simp [acc])
theorem DE {b1 b2 b3 b4:UInt8} {i:Nat} (h:0<i):acc b1 b2 b3 b4 i<16777216:= by
  have :=BE b1; have :=BE b2; have :=BE b3; have :=BE b4
  unfold acc;split<;>omega
theorem Jp (b1 b2 b3 b4:UInt8):acc b1 b2 b3 b4 0=UY b1 b2 b3 b4:= by simp only[acc,UY];omega
theorem Tz {b:UInt8} {k:Nat} (hk:k<256) (h: ¬((b.toNat:Int)=(k:Int))):b≠UInt8.ofNat k:= by
  intro e; subst e; apply h; simp;omega
theorem T0 {b:UInt8} {k:Nat} (hk:k<256) (h:(b.toNat:Int)=(k:Int)):b=UInt8.ofNat k:= by
  apply UInt8.toNat_inj.1; simp;omega
theorem five {h:Bytes} (h1:h.length=5) {b0:UInt8} {r:Bytes} (hb:h=b0::r): ∃b1 b2 b3 b4,r=[b1,b2,b3,b4]:= by
  subst hb
  match r,h1 with
  | [b1,b2,b3,b4],_=> exact⟨_,_,_,_,rfl⟩
theorem JB {h:Bytes} (hh:h=[]∨ ∃r,h=0::r):Ya h= .none:= by
  rcases hh with rfl | ⟨r,rfl⟩
  · rfl
  · simp [Ya]
theorem Uj {b0:UInt8} {r:Bytes} (h0:b0≠0) (hl:r.length≠4):Ya (b0::r)= .bad:= by
  unfold Ya
  simp only[h0,if_false]
  split
  · simp at hl
  · rfl
theorem YD {b0 b1 b2 b3 b4:UInt8} (h0:b0≠0) (hb: ¬((b0=1∨b0=2)∧UY b1 b2 b3 b4≤65536)):Ya [b0,b1,b2,b3,b4]= .bad:= by
  simp only[Ya,h0,if_false,if_neg hb]
theorem M5 {b0 b1 b2 b3 b4:UInt8} (hb:b0=1∨b0=2) (hn:UY b1 b2 b3 b4≤65536):Ya [b0,b1,b2,b3,b4]= .slot b0.toNat (UY b1 b2 b3 b4):= by
  have h0:b0≠0:= by rcases hb with rfl | rfl<;>decide
  simp only[Ya,h0,if_false,if_pos (And.intro hb hn)]
theorem Yk {D:DS} {f:Int} (h1:Wk D f 0 5=0) (h2:Ya (WC D f 0 5)= .none):WP D f=0∧Hf D f=RG f:= by
  rw[WP,Hf,if_neg (by omega),h2]; exact⟨rfl,rfl⟩
theorem Gj {D:DS} {f:Int} (h1:Wk D f 0 5≠0):WP D f≠0∧WP D f=Wk D f 0 5:= by
  have :WP D f=Wk D f 0 5:= by rw[WP,if_pos h1]
  exact⟨by rw[this]; exact h1,this⟩
theorem WB {D:DS} {f:Int} (h1:Wk D f 0 5=0) (h2:Ya (WC D f 0 5)= .bad):WP D f≠0∧WP D f=2:= by
  have :WP D f=2:= by rw[WP,if_neg (by omega),h2]
  exact⟨by rw[this];decide,this⟩
theorem HF {D:DS} {f:Int} {s n:Nat} (h1:Wk D f 0 5=0) (h2:Ya (WC D f 0 5)= .slot s n) (h3:(WC D f (QI s) n).length<n):WP D f≠0∧WP D f=2:= by
  have :WP D f=2:= by rw[WP,if_neg (by omega),h2]; simp only; rw[if_pos h3]
  exact⟨by rw[this];decide,this⟩
theorem Jc {D:DS} {f:Int} {s n:Nat} (h1:Wk D f 0 5=0) (h2:Ya (WC D f 0 5)= .slot s n) (h3: ¬(WC D f (QI s) n).length<n):WP D f=0∧Hf D f=⟨f,s,WC D f (QI s) n,false⟩:= by
  refine⟨?_, ?_⟩
  · rw[WP,if_neg (by omega),h2]; simp only; rw[if_neg h3]
  · rw[Hf,h2]
theorem open_sp {w:World} {p:Nat} {D:DS} {F:Th} (hS:Sat w [dT p D,F]) (hG:Ent F (Glob 0)) (f:Int):
    Calls prog 52 #[ptrV p 0,intV f] w (Ret fun v w'=>(WP D f=0∧ ∃c,v= .tuple #[ptrV c 0,intV 0]∧Sat w' [QR c (Hv p (Hf D f)),dT p D,F])∨(WP D f≠0∧v= .tuple #[.pointer none,intV (WP D f)]∧Sat w' [dT p D,F])):= by
 refine Qy func52 Qa ntmps52 Qa ?_
 refine Qg (Qb (Qc Qa Qa (Qc Qa Qa (Qh (Qe (Qg (Qb (Qd Qa Qa (Qd Qa Qa (Zu Qa Mg Ee AT Qa Qa (XZ hS Qa Qa Qa ?_)))))))))))
 intro b1 w1 hS1
 refine Qc Qa Qa (Qh (Qe (Qg (Qb (Qd Qa Qa (Qd Qa Qa (Q4 Bw Qa (F8 (hS1.sp [1] Qa) f 0 5) Qa ?_)))))))
 rintro _ w2 ⟨rfl,hS2⟩
 replace hS2:=hS2.jn Qa Qa
 refine Qd Qa Qa (Q9 Qa Qa Qa (Q9 Qa Qa Qa (Qc Qa Qa (Qc Qa Qa (Qh ?_)))))
 obtain⟨h,hH⟩: ∃h,h=WC D f 0 5:=⟨_,rfl⟩
 rw[←hH]
 have hh5:(h.length:Int)≤5:= by have :=B8 (D:=D) (f:=f) (a:=0) (n:=5); rw[←hH]at this;omega
 refine Qe (Qk [1,0,4,5,6,7,8] Qa (Qg (Qg (Qb (Qd Qa Qa (Xt Qa Qa Qa (Qh (Qe (Qw Qa (fun h3=> ?_) (fun h3=> ?_))))))))))
 ·have hE:Wk D f 0 5≠0:=h3
  exact Qg (Qb (Qd Qa Qa (Qc Qa Qa (Qc Qa Qa (Qh (Qe (Qo (Qm (ZI (.inr Qa) Qa Qa Qa (⟨_,rfl,.inr ⟨(Gj hE).1, by rw[(Gj hE).2],hS2.pick [0,2] Qa⟩⟩))))))))))
 have hE:Wk D f 0 5=0:=Decidable.not_not.1 h3
 refine Qr (Qe (Qg (Qg (Qb (Qd Qa Qa (KH Qa Qa Qa (Qd Qa Qa (Q3 26 Qa (fun h4=> ?_) (fun h4=> ?_)))))))))
 ·have hh0:h=[]:=h4
  refine Qf Qa Qa (Q8 h4) Qa (Qf Qa Qa (Q8 h4) Qa (Qf Qa Qa (Q8 h4) Qa (Qx Qa (Q8 h4) Qa Qa (Qh (Qe (Qk [1,0,4,5,6,7,8,30] Qa (QL Qa (Qg (Qb (Qd Qa Qa (Qc Qa Qa (Qc Qa Qa (Qh (Qe (Qo (Qm (ZI (.inr Qa) Qa Qa Qa ?_)))))))))))))))))
  subst hh0
  exact⟨_,rfl,.inl ⟨(Yk hE (by rw[←hH]; exact JB (.inl Qa))).1,_,rfl, by rw[(Yk hE (by rw[←hH]; exact JB (.inl Qa))).2]; exact hS2.pick [1,0,2] Qa⟩⟩
 obtain⟨b0,r,rfl⟩:=List.exists_cons_of_ne_nil h4
 refine Qj Qa Qa (Qv h4) (Qd Qa Qa (Qj Qa Qa (Qv h4) (Wx _ underlying9 Qa Qa (by rfl) (by rfl) rfl ?_)))
 refine Qj Qa Qa (Qv h4) (QO Qa Qa Qa (Qz Qa (Qv h4) Qa Qa (Qh (Qe (Qk [1,0,4,5,6,7,8,30] Qa (Qw Qa (fun h5=> ?_) (fun h5=> ?_)))))))
 ·have hb00:b0=0:=T0 (k:=0) (by omega) h5
  refine Qg (Qb (Qd Qa Qa (Qc Qa Qa (Qc Qa Qa (Qh (Qe (Qo (Qm (ZI (.inr Qa) Qa Qa Qa ?_)))))))))
  exact⟨_,rfl,.inl ⟨(Yk hE (by rw[←hH]; exact JB (.inr ⟨r, by rw[hb00]⟩))).1,_,rfl, by rw[(Yk hE (by rw[←hH]; exact JB (.inr ⟨r, by rw[hb00]⟩))).2]; exact hS2.pick [1,0,2] Qa⟩⟩
 have hb0:b0≠0:=Tz (k:=0) (by omega) h5
 refine Qr (Qe (Qg (Qg (Qb (Qd Qa Qa (Zs underlying9 Qa Qa (Xz Qa Qa Qa (Qd Qa Qa (Q3 35 Qa (fun h6=> ?_) (fun h6=> ?_))))))))))
 ·have hlen5:=h6
  refine Qf Qa Qa (Q8 h6) Qa (Qf Qa Qa (Q8 h6) Qa (Qf Qa Qa (Q8 h6) Qa (Qf Qa Qa (Q8 h6) Qa (Q5 Qa Qa Qa (Q5 Qa Qa Qa (Q5 Qa Qa Qa (Qf Qa Qa (Q8 h6) Qa (Qx Qa (Q8 h6) Qa Qa (Qh (Qe (Qk [1,0,4,5,6,7,8,44] Qa (QL Qa (Qg (Qb (Qc Qa Qa (Qc Qa Qa (Qh (Qe (Qo (Qm (ZI (.inr Qa) Qa Qa Qa ?_)))))))))))))))))))))
  exact⟨_,rfl,.inr ⟨(WB hE (by rw[←hH]; exact Uj hb0 (by simp at hlen5;omega))).1, by rw[(WB hE (by rw[←hH]; exact Uj hb0 (by simp at hlen5;omega))).2],hS2.pick [0,2] Qa⟩⟩
 have hlen5:r.length=4:= by simp at hh5; have :=h6; simp at this;omega
 obtain⟨b1_,b2,b3,b4,rfl⟩: ∃b1 b2 b3 b4,r=[b1,b2,b3,b4]:= by match r,hlen5 with | [b1,b2,b3,b4],_=> exact⟨_,_,_,_,rfl⟩
 refine Qj Qa Qa (Qv h6) (Qd Qa Qa (Qj Qa Qa (Qv h6) (Wx _ underlying9 Qa Qa (by rfl) (by rfl) rfl ?_)))
 refine Qj Qa Qa (Qv h6) (Xt Qa Qa Qa (Qj Qa Qa (Qv h6) (Qd Qa Qa (Q3 39 Qa (fun h7=> ?_) (fun h7=> ?_)))))
 ·have hn1:=Tz (k:=1) (by omega) h7
  refine Qj Qa Qa (Q8 h7) (Qd Qa Qa (Qj Qa Qa (Q8 h7) (Wx _ underlying9 Qa Qa (by rfl) (by rfl) rfl ?_)))
  refine Qj Qa Qa (Q8 h7) (Xt Qa Qa Qa (Qj Qa Qa (Qv h6) (Qx Qa (Q8 h7) Qa Qa (Qz Qa (Qv h6) Qa Qa (Qh (Qe (Qk [1,0,4,5,6,7,8,44] Qa (Qw Qa (fun h8=> ?_) (fun h8=> ?_)))))))))
  ·have hn2:=Tz (k:=2) (by omega) h8
   refine Qg (Qb (Qc Qa Qa (Qc Qa Qa (Qh (Qe (Qo (Qm (ZI (.inr Qa) Qa Qa Qa ?_))))))))
   exact⟨_,rfl,.inr ⟨(WB hE (by rw[←hH]; exact YD hb0 (by rintro⟨h12,_⟩; rcases h12 with rfl | rfl<;>simp_all))).1, by rw[(WB hE (by rw[←hH]; exact YD hb0 (by rintro⟨h12,_⟩; rcases h12 with rfl | rfl<;>simp_all))).2],hS2.pick [0,2] rfl⟩⟩
  have h12:b0=1∨b0=2:= .inr (T0 (k:=2) (by omega) (Decidable.not_not.1 h8))
  refine Qr (Qe (Qg (Qb (Qc Qa Qa (Qh (Qe (Qg (Qg (Qb (Qc Qa Qa (Qh (Qe (QD ?_)))))))))))))
  refine XD (fun K0 E0 W0=> ∃(i:Nat),K0=1*i∧E0=[(0,ptrV p 0),(1,intV f),(6,ptrV b1 0),(7,strV [b0,b1_,b2,b3,b4]),(9,intV (acc b1_ b2 b3 b4 i:Nat)),(10,intV (i:Int))]∧Sat W0 [QR b1 (Hv p (RG f)),dT p D,F]∧(i≤4)) (L0:=[(0,_),(1,_),(6,_),(7,_),(9,_),(10,_)]) (4) (Dc Qa Qa Qa Qa Qa Qa) ⟨4,rfl,rfl,hS2.reorder [1,0,2] Qa, by omega⟩ ?_
  rintro _ _ w9 ⟨i,rfl,rfl,hS9,hi⟩
  refine Qg (Qg (Qb (Qd Qa Qa (We Qa Qa Qa (Qh (Qe (Qw Qa (fun h10=> ?_) (fun h10=> ?_))))))))
  ·obtain⟨c,hc⟩: ∃c,[b0,b1_,b2,b3,b4][i]? =some c:=⟨_,WU (by simp;omega)⟩
   have hacc:=GN (by omega) hi hc
   have hal:=DE (b1:=b1_) (b2:=b2) (b3:=b3) (b4:=b4) (show 0<i by omega)
   have hcl:=BE c
   have hi1:((i -1:Nat):Int)=(i:Int) -1:= by omega
   refine Qr (Qe (Qg (QD (Qb (Qd Qa Qa (Cm 8 Qa Qa Qa Qa (q:=256) Qa (by omega) (by omega) Qa ?_))))))
   refine Qd Qa Qa (Qd Qa Qa (Wx _ underlying9 Qa Qa (by first | rfl | omega) (by first | assumption | rfl) Qa ?_))
   refine YP underlying5 underlying3 Qa Qa ?_
   refine La 8 (acc b1_ b2 b3 b4 i) Qa Qa (by rfl) (by constructor<;>omega) (by omega) Qa ?_
   refine Qc Qa Qa (Qh (Qq (Qe (Qk [10,7,6,1,0,9] Qa (Qb (Qd Qa Qa (JN Qa Qa (by omega) (by omega) Qa ?_)))))))
   refine Qc Qa Qa (Qh ?_)
   exact QY (L1:=[(0,_),(1,_),(6,_),(7,_),(9,intV ((acc b1_ b2 b3 b4 (i -1):Nat):Int)),(10,intV ((i -1:Nat):Int))]) (.cons Qa (.cons Qa (.cons Qa (.cons Qa (.cons (by rw[hacc];rfl) (.cons (by rw[hi1];rfl) .nil)))))) (k1:=1*(i -1)) (by omega) ⟨i -1,rfl,rfl,hS9, by omega⟩
  obtain rfl:i=0:= by omega
  refine Xu (Q1 (Q1 (QJ (Qe (Qg (Qg (Qb (Qd Qa Qa (We Qa Qa Qa (Qh (Qe (Qw Qa (fun h11=> ?_) (fun h11=> ?_)))))))))))))
  ·refine Qg (Qb (Qc Qa Qa (Qc Qa Qa (Qh (Qe (Qk [9,7,6,1,0,4,5] Qa (Qo (Qm (ZI (.inr Qa) Qa Qa Qa ?_)))))))))
   exact⟨_,rfl,.inr ⟨(WB hE (by rw[←hH]; exact YD hb0 (by rw[←Jp];omega))).1, by rw[(WB hE (by rw[←hH]; exact YD hb0 (by rw[←Jp];omega))).2],hS9.pick [1,2] Qa⟩⟩
  have hn:UY b1_ b2 b3 b4≤65536:= by rw[←Jp];omega
  have hSl:Ya (WC D f 0 5)= .slot b0.toNat (UY b1_ b2 b3 b4):= by rw[←hH]; exact M5 h12 hn
  rw[Jp]
  obtain⟨n,hN⟩: ∃n,n=UY b1_ b2 b3 b4:=⟨_,rfl⟩
  rw[←hN]at hSl hn⊢
  have h12n:b0.toNat=1∨b0.toNat=2:= by rcases h12 with rfl | rfl<;> simp
  refine Qr (Qe (Qg (Qb (Qd Qa Qa (Qd Qa Qa (Wx _ underlying9 Qa Qa (by first | rfl | omega) (by first | assumption | rfl) Qa ?_))))))
  refine YP underlying5 underlying3 Qa Qa (Ql Qa Qa (Qi Qa JD Qa ?_))
  first | (refine QC hS9 Qa Qa YH (by rfl) (i:=0) Qa (Xe Qa) ?_)
  intro w12 hS13; dsimp only[List.set]at hS13
  refine Qh (Qe (Qk [9,6,1,0] Qa (Qg (Qb (Qd Qa Qa (Qd Qa Qa (Qd Qa Qa (Qd Qa Qa (Ql Qa Qa (Qi Qa JD Qa (Qp Qa QK (hS13.cell 0 Qa Qa) Qa (H8 _ underlying132 Qa Qa (by rfl) (by omega) YH Qa ?_))))))))))))
  have hg:=(hG.sat hS13 2 Qa).off h12n
  refine Qp Qa QK (by assumption) Qa ?_
  refine Qd Qa Qa (Q4 Bw Qa (F8 (hS13.sp [1] Qa) f (QI b0.toNat) n) Qa ?_)
  rintro _ w14 ⟨rfl,hS14⟩
  replace hS14:=hS14.jn Qa Qa
  have hE2:Wk D f (QI b0.toNat) n=0:=Yi hE (Ja _) (by omega)
  rw[hE2]
  refine Qd Qa Qa (Q9 Qa Qa Qa (Q9 Qa Qa Qa (Ql Qa Qa (Qi Qa Y8 Qa ?_))))
  first | (refine QC hS14 Qa Qa R8 (by rfl) (i:=1) Qa (Xe Qa) ?_)
  intro w15 hS16; dsimp only[List.set]at hS16
  refine Qc Qa Qa (Qh ?_)
  have hE2:Wk D f (QI b0.toNat) n=0:=Yi hE (Ja _) (by omega)
  refine Qe (Qk [9,6,8] Qa (Qg (Qg (Qb (Qd Qa Qa (QO Qa Qa Qa (Qd Qa Qa (Q3 82 Qa (fun h17=> ?_) (fun h17=> ?_)))))))))
  ·refine Qj Qa Qa (Q8 h17) (Qd Qa Qa (Qj Qa Qa (Q8 h17) (Ql Qa Qa (Qj Qa Qa (Q8 h17) (Qi Qa Y8 Qa (Qj Qa Qa (Q8 h17) (Qp Qa Zw (hS16.cell 1 Qa Qa) Qa (Qj Qa Qa (Q8 h17) (Zs underlying9 Qa Qa (Qj Qa Qa (Q8 h17) (Qd Qa Qa (Qj Qa Qa (Q8 h17) (Xz Qa Qa Qa (Qx Qa (Q8 h17) Qa Qa (Qh (Qe (Qk [6,8,90] Qa (Qw Qa (fun h18=> ?_) (fun h18=> ?_)))))))))))))))))))
   ·refine Qb (Qc Qa Qa (Qh (Qe (Qg (Qg (Qb (Qd Qa Qa (Xt Qa Qa Qa (Qh (Qe (Qw Qa (fun h19=> ?_) (fun h19=> ?_))))))))))))
    ·exact Qg (Qb (Qd Qa Qa (Qc Qa Qa (Qc Qa Qa (Qh (Qe (Qo (Qm (ZI (.inr Qa) Qa Qa Qa (⟨_,rfl,.inr ⟨(HF hE hSl (by omega)).1, by rw[(HF hE hSl (by omega)).2],hS16.pick [0,2] Qa⟩⟩))))))))))
    exact Qr (Qe (Qg (Qb (Qd Qa Qa (Qc Qa Qa (Qc Qa Qa (Qh (Qe (Qo (ZI (.inr Qa) Qa Qa Qa (absurd (by decide) h19)))))))))))
   refine Qr (Qe (Qg (Qg (Qb (Qd Qa Qa (Xt Qa Qa Qa (Qh (Qe (Qw Qa (fun h20=> ?_) (fun h20=> ?_))))))))))
   ·exact Qg (Qb (Qd Qa Qa (Qc Qa Qa (Qc Qa Qa (Qh (Qe (Qo (Qm (ZI (.inr Qa) Qa Qa Qa (absurd Qa h20))))))))))
   refine Qr (Qe (Qg (Qb (Qd Qa Qa (Qc Qa Qa (Qc Qa Qa (Qh (Qe (Qo (ZI (.inr Qa) Qa Qa Qa ?_))))))))))
   exact⟨_,rfl,.inl ⟨(Jc hE hSl (by omega)).1,_,rfl, by rw[(Jc hE hSl (by omega)).2]; exact hS16.pick [1,0,2] Qa⟩⟩
  refine Qf Qa Qa (Qv h17) Qa (Qf Qa Qa (Qv h17) Qa (Qf Qa Qa (Qv h17) Qa (Qf Qa Qa (Qv h17) Qa (Qf Qa Qa (Qv h17) Qa (Qf Qa Qa (Qv h17) Qa (Qf Qa Qa (Qv h17) Qa (Qz Qa (Qv h17) Qa Qa (Qh (Qe (Qk [6,8,90] Qa (QF Qa (Qr (Qe (Qg (Qg (Qb (Qd Qa Qa (Xt Qa Qa Qa (Qh (Qe (Qw Qa (fun h21=> ?_) (fun h21=> ?_))))))))))))))))))))))
  ·exact Qg (Qb (Qd Qa Qa (Qc Qa Qa (Qc Qa Qa (Qh (Qe (Qo (Qm (ZI (.inr Qa) Qa Qa Qa (absurd Qa h21))))))))))
  refine Qr (Qe (Qg (Qb (Qd Qa Qa (Qc Qa Qa (Qc Qa Qa (Qh (Qe (Qo (ZI (.inr Qa) Qa Qa Qa ?_))))))))))
  exact⟨_,rfl,.inl ⟨(Jc hE hSl (by omega)).1,_,rfl, by rw[(Jc hE hSl (by omega)).2]; exact hS16.pick [1,0,2] Qa⟩⟩
 have h12:b0=1∨b0=2:= .inl (T0 (k:=1) (by omega) (Decidable.not_not.1 h7))
 refine Qf Qa Qa (Qv h7) Qa (Qf Qa Qa (Qv h7) Qa (Qf Qa Qa (Qv h7) Qa (Qj Qa Qa (Qv h6) (Qz Qa (Qv h7) Qa Qa (Qz Qa (Qv h6) Qa Qa (Qh (Qe (Qk [1,0,4,5,6,7,8,44] Qa (QF Qa (Qr (Qe (Qg (Qb (Qc Qa Qa (Qh (Qe (Qg (Qg (Qb (Qc Qa Qa (Qh (Qe (QD ?_)))))))))))))))))))))))
 refine XD (fun K0 E0 W0=> ∃(i:Nat),K0=1*i∧E0=[(0,ptrV p 0),(1,intV f),(6,ptrV b1 0),(7,strV [b0,b1_,b2,b3,b4]),(9,intV (acc b1_ b2 b3 b4 i:Nat)),(10,intV (i:Int))]∧Sat W0 [QR b1 (Hv p (RG f)),dT p D,F]∧(i≤4)) (L0:=[(0,_),(1,_),(6,_),(7,_),(9,_),(10,_)]) (4) (Dc Qa Qa Qa Qa Qa Qa) ⟨4,rfl,rfl,hS2.reorder [1,0,2] Qa, by omega⟩ ?_
 rintro _ _ w22 ⟨i,rfl,rfl,hS22,hi⟩
 refine Qg (Qg (Qb (Qd Qa Qa (We Qa Qa Qa (Qh (Qe (Qw Qa (fun h23=> ?_) (fun h23=> ?_))))))))
 ·obtain⟨c,hc⟩: ∃c,[b0,b1_,b2,b3,b4][i]? =some c:=⟨_,WU (by simp;omega)⟩
  have hacc:=GN (by omega) hi hc
  have hal:=DE (b1:=b1_) (b2:=b2) (b3:=b3) (b4:=b4) (show 0<i by omega)
  have hcl:=BE c
  have hi1:((i -1:Nat):Int)=(i:Int) -1:= by omega
  refine Qr (Qe (Qg (QD (Qb (Qd Qa Qa (Cm 8 Qa Qa Qa Qa (q:=256) Qa (by omega) (by omega) Qa ?_))))))
  refine Qd Qa Qa (Qd Qa Qa (Wx _ underlying9 Qa Qa (by first | rfl | omega) (by first | assumption | rfl) Qa ?_))
  refine YP underlying5 underlying3 Qa Qa ?_
  refine La 8 (acc b1_ b2 b3 b4 i) Qa Qa (by rfl) (by constructor<;>omega) (by omega) Qa ?_
  refine Qc Qa Qa (Qh (Qq (Qe (Qk [10,7,6,1,0,9] Qa (Qb (Qd Qa Qa (JN Qa Qa (by omega) (by omega) Qa ?_)))))))
  refine Qc Qa Qa (Qh ?_)
  exact QY (L1:=[(0,_),(1,_),(6,_),(7,_),(9,intV ((acc b1_ b2 b3 b4 (i -1):Nat):Int)),(10,intV ((i -1:Nat):Int))]) (.cons Qa (.cons Qa (.cons Qa (.cons Qa (.cons (by rw[hacc];rfl) (.cons (by rw[hi1];rfl) .nil)))))) (k1:=1*(i -1)) (by omega) ⟨i -1,rfl,rfl,hS22, by omega⟩
 obtain rfl:i=0:= by omega
 refine Xu (Q1 (Q1 (QJ (Qe (Qg (Qg (Qb (Qd Qa Qa (We Qa Qa Qa (Qh (Qe (Qw Qa (fun h24=> ?_) (fun h24=> ?_)))))))))))))
 ·refine Qg (Qb (Qc Qa Qa (Qc Qa Qa (Qh (Qe (Qk [9,7,6,1,0,4,5] Qa (Qo (Qm (ZI (.inr Qa) Qa Qa Qa ?_)))))))))
  exact⟨_,rfl,.inr ⟨(WB hE (by rw[←hH]; exact YD hb0 (by rw[←Jp];omega))).1, by rw[(WB hE (by rw[←hH]; exact YD hb0 (by rw[←Jp];omega))).2],hS22.pick [1,2] Qa⟩⟩
 have hn:UY b1_ b2 b3 b4≤65536:= by rw[←Jp];omega
 have hSl:Ya (WC D f 0 5)= .slot b0.toNat (UY b1_ b2 b3 b4):= by rw[←hH]; exact M5 h12 hn
 rw[Jp]
 obtain⟨n,hN⟩: ∃n,n=UY b1_ b2 b3 b4:=⟨_,rfl⟩
 rw[←hN]at hSl hn⊢
 have h12n:b0.toNat=1∨b0.toNat=2:= by rcases h12 with rfl | rfl<;> simp
 refine Qr (Qe (Qg (Qb (Qd Qa Qa (Qd Qa Qa (Wx _ underlying9 Qa Qa (by first | rfl | omega) (by first | assumption | rfl) Qa ?_))))))
 refine YP underlying5 underlying3 Qa Qa (Ql Qa Qa (Qi Qa JD Qa ?_))
 first | (refine QC hS22 Qa Qa YH (by rfl) (i:=0) Qa (Xe Qa) ?_)
 intro w25 hS26; dsimp only[List.set]at hS26
 refine Qh (Qe (Qk [9,6,1,0] Qa (Qg (Qb (Qd Qa Qa (Qd Qa Qa (Qd Qa Qa (Qd Qa Qa (Ql Qa Qa (Qi Qa JD Qa (Qp Qa QK (hS26.cell 0 Qa Qa) Qa (H8 _ underlying132 Qa Qa (by rfl) (by omega) YH Qa ?_))))))))))))
 have hg:=(hG.sat hS26 2 Qa).off h12n
 refine Qp Qa QK (by assumption) Qa ?_
 refine Qd Qa Qa (Q4 Bw Qa (F8 (hS26.sp [1] Qa) f (QI b0.toNat) n) Qa ?_)
 rintro _ w27 ⟨rfl,hS27⟩
 replace hS27:=hS27.jn Qa Qa
 have hE2:Wk D f (QI b0.toNat) n=0:=Yi hE (Ja _) (by omega)
 rw[hE2]
 refine Qd Qa Qa (Q9 Qa Qa Qa (Q9 Qa Qa Qa (Ql Qa Qa (Qi Qa Y8 Qa ?_))))
 first | (refine QC hS27 Qa Qa R8 (by rfl) (i:=1) Qa (Xe Qa) ?_)
 intro w28 hS29; dsimp only[List.set]at hS29
 refine Qc Qa Qa (Qh ?_)
 have hE2:Wk D f (QI b0.toNat) n=0:=Yi hE (Ja _) (by omega)
 refine Qe (Qk [9,6,8] Qa (Qg (Qg (Qb (Qd Qa Qa (QO Qa Qa Qa (Qd Qa Qa (Q3 82 Qa (fun h30=> ?_) (fun h30=> ?_)))))))))
 ·refine Qj Qa Qa (Q8 h30) (Qd Qa Qa (Qj Qa Qa (Q8 h30) (Ql Qa Qa (Qj Qa Qa (Q8 h30) (Qi Qa Y8 Qa (Qj Qa Qa (Q8 h30) (Qp Qa Zw (hS29.cell 1 Qa Qa) Qa (Qj Qa Qa (Q8 h30) (Zs underlying9 Qa Qa (Qj Qa Qa (Q8 h30) (Qd Qa Qa (Qj Qa Qa (Q8 h30) (Xz Qa Qa Qa (Qx Qa (Q8 h30) Qa Qa (Qh (Qe (Qk [6,8,90] Qa (Qw Qa (fun h31=> ?_) (fun h31=> ?_)))))))))))))))))))
  ·refine Qb (Qc Qa Qa (Qh (Qe (Qg (Qg (Qb (Qd Qa Qa (Xt Qa Qa Qa (Qh (Qe (Qw Qa (fun h32=> ?_) (fun h32=> ?_))))))))))))
   ·exact Qg (Qb (Qd Qa Qa (Qc Qa Qa (Qc Qa Qa (Qh (Qe (Qo (Qm (ZI (.inr Qa) Qa Qa Qa (⟨_,rfl,.inr ⟨(HF hE hSl (by omega)).1, by rw[(HF hE hSl (by omega)).2],hS29.pick [0,2] Qa⟩⟩))))))))))
   exact Qr (Qe (Qg (Qb (Qd Qa Qa (Qc Qa Qa (Qc Qa Qa (Qh (Qe (Qo (ZI (.inr Qa) Qa Qa Qa (absurd (by decide) h32)))))))))))
  refine Qr (Qe (Qg (Qg (Qb (Qd Qa Qa (Xt Qa Qa Qa (Qh (Qe (Qw Qa (fun h33=> ?_) (fun h33=> ?_))))))))))
  ·exact Qg (Qb (Qd Qa Qa (Qc Qa Qa (Qc Qa Qa (Qh (Qe (Qo (Qm (ZI (.inr Qa) Qa Qa Qa (absurd Qa h33))))))))))
  refine Qr (Qe (Qg (Qb (Qd Qa Qa (Qc Qa Qa (Qc Qa Qa (Qh (Qe (Qo (ZI (.inr Qa) Qa Qa Qa ?_))))))))))
  exact⟨_,rfl,.inl ⟨(Jc hE hSl (by omega)).1,_,rfl, by rw[(Jc hE hSl (by omega)).2]; exact hS29.pick [1,0,2] Qa⟩⟩
 refine Qf Qa Qa (Qv h30) Qa (Qf Qa Qa (Qv h30) Qa (Qf Qa Qa (Qv h30) Qa (Qf Qa Qa (Qv h30) Qa (Qf Qa Qa (Qv h30) Qa (Qf Qa Qa (Qv h30) Qa (Qf Qa Qa (Qv h30) Qa (Qz Qa (Qv h30) Qa Qa (Qh (Qe (Qk [6,8,90] Qa (QF Qa (Qr (Qe (Qg (Qg (Qb (Qd Qa Qa (Xt Qa Qa Qa (Qh (Qe (Qw Qa (fun h34=> ?_) (fun h34=> ?_))))))))))))))))))))))
 ·exact Qg (Qb (Qd Qa Qa (Qc Qa Qa (Qc Qa Qa (Qh (Qe (Qo (Qm (ZI (.inr Qa) Qa Qa Qa (absurd Qa h34))))))))))
 refine Qr (Qe (Qg (Qb (Qd Qa Qa (Qc Qa Qa (Qc Qa Qa (Qh (Qe (Qo (ZI (.inr Qa) Qa Qa Qa ?_))))))))))
 exact⟨_,rfl,.inl ⟨(Jc hE hSl (by omega)).1,_,rfl, by rw[(Jc hE hSl (by omega)).2]; exact hS29.pick [1,0,2] Qa⟩⟩
def getV (C:CS):Value:= .tuple #[strV C.val,.bool (decide (0<C.slot))]
theorem get_sp {w:World} {p c:Nat} {C:CS} {F:Th} (hS:Sat w [QR c (Hv p C),F]):
    Calls prog 89 #[ptrV c 0] w (Ret fun v w'=>v=getV C∧Sat w' [QR c (Hv p C),F]):= by
 refine Qy func89 Qa ntmps89 Qa ?_
 refine Qg (Qb (Qc Qa Qa (Qc Qa Qa (Qh (Qe (Qg ?_))))))
 have hS1:=hS.drew
 refine QT [0,1,2,3,4,5,6,7,8,9,10] [] Jk (by kernel_rfl) ?_
 refine QM Qa Qa Qa (Xw Qa Qa Qa (QQ Qa Qa Qa Y8 (QH Qa Qa Qa (Qn Qa Zw (hS1.cell 0 Qa Qa)) (QM Qa Qa Qa (Xw Qa Qa Qa (QQ Qa Qa Qa JD (QH Qa Qa Qa (Qn Qa QK (hS1.cell 0 Qa Qa)) (QG Qa Qa Qa (fun _=>(F7 Qa Qa)) ?_))))))))
 exact Jr Qa Qa Qa (Jr Qa Qa Qa (VC.nil (Qe (Qk [2,3] Qa (Qo (ZI (.inr Qa) Qa Qa Qa (⟨_,rfl,congrArg (fun b=>Value.tuple #[strV C.val,.bool b]) (decide_eq_decide.2 (by omega)),hS1⟩)))))))
def hb (slot n:Nat) (j:Nat):Bytes:=UInt8.ofNat slot::(List.range j).map fun i=>UInt8.ofNat (n/ 256^i)
theorem hb_step (slot n j:Nat):hb slot n (j+1)=hb slot n j++[UInt8.ofNat (n/ 256^j)]:= by simp [hb,List.range_succ]
theorem hb_len (slot n j:Nat):(hb slot n j).length=j+1:= by simp [hb]
theorem hb_end (slot n:Nat) (h:n≤65536):hb slot n 4=HJ slot n:= by
  have h1:n/ 16777216=0:= by omega
  simp [hb,HJ,List.range_succ,h1]
theorem OG (n j:Nat):n/ 256^j/ 256=n/ 256^(j+1):= by rw[Nat.div_div_eq_div_mul,Nat.pow_succ]
theorem Aq {w:World} {F:Th} (hS:Sat w [F]) (slot:Nat) (s:Bytes) (hn:s.length≤65536):
    Calls prog 118 #[intV (slot:Int),strV s] w (Ret fun v w'=>v=strV (HJ slot s.length)∧Sat w' [F]):= by
 refine Qy func118 Qa ntmps118 Qa ?_
 refine Qg (Qb (Qc Qa Qa (Qh (Qe (Qg (Qb (Qd Qa Qa (BC slot underlying3 underlying5 Qa (by first | rfl | omega) Qa ?_))))))))
 refine Xc byC [UInt8.ofNat slot] hS Qa underlying98 ifz_5 Qa Qa Qa Qa (by rfl) rfl ?_
 intro b1 w1 hS1
 refine Qc Qa Qa (Qh (Qe (Qg (Qg (Qb (Qd Qa Qa (Zs underlying9 Qa Qa (Qc Qa Qa (Qh (Qe (QD ?_)))))))))))
 refine XD (fun K0 E0 W0=> ∃(j:Nat) (v:Value),K0=4 -j∧E0=[(1,strV s),(5,v),(6,intV (s.length/ 256^j:Nat))]∧Sat W0 [rowT byC v (hb slot s.length j),F]∧(j≤4)) (L0:=[(1,_),(5,_),(6,_)]) (4) (Dh Qa Qa Qa) ⟨0,_,rfl, by simp,hS1, by omega⟩ ?_
 rintro _ _ w2 ⟨j,v,rfl,rfl,hS2,hj⟩
 have hbl:=hb_len slot s.length j
 refine Qg (Qg (Qb (Qd Qa Qa ?_)))
 first | refine Xj underlying98 Qa Qa ?_ | refine X3 0 hS2 underlying98 Qa Qa Qa ?_
 refine Xz Qa Qa Qa (Qh (Qe (Qw Qa (fun h3=> ?_) (fun h3=> ?_))))
 ·refine Qr (Qe (Qg (QD (Qb (Qd Qa Qa (Qd Qa Qa (BC (s.length/ 256^j) underlying3 underlying5 Qa (by first | rfl | omega) Qa ?_)))))))
  refine Xc byC [UInt8.ofNat (s.length/ 256^j)] hS2 Qa underlying98 ifz_5 Qa Qa Qa Qa (by rfl) rfl ?_
  intro b4 w4 hS4
  refine XV byC 1 hS4 Qa Qa Qa (hS4.rd 0 Qa (by simp)) underlying98 underlying98 (by intro k hk; cases hk) L8 Qa (by simp only[List.length_cons,List.length_nil,hbl];omega) Qa (by simp only[List.length_cons,List.length_nil,hbl];omega) ?_
  intro v5 w5 hS5; dsimp only[List.set]at hS5
  have h1v5:v5.oneCell'=true:=hS5.own_one 1 Qa
  refine Qc Qa Qa (Qh (Qq (Qe (Qk [6,1,5] Qa (Qb (Qd Qa Qa (wl_shr 8 Qa Qa Qa Qa (q:=256) Qa Qa (Qc Qa Qa (Qh ?_)))))))))
  exact QY (L1:=[(1,_),(5,_),(6,intV ((s.length/ 256^(j+1):Nat):Int))]) (.cons Qa (.cons Qa (.cons (by rw[←OG];rfl) .nil))) (k1:=4 -(j+1)) (by omega) ⟨j+1,_,rfl,rfl, by rw[hb_step]; exact hS5.tail, by omega⟩
 refine Xu (Q1 (Q1 (QJ (Qe (Qg (Qb (Qd Qa Qa (Tt 0 hS2 Qa Qa underlying98 underlying5 underlying9 Qa (Qc Qa Qa (Qh (Qe (Qo (Q7 (.inr Qa) Qa Qa ?_)))))))))))))
 exact⟨_,rfl, by rw[show j=4 by omega,hb_end slot s.length hn],hS2.tail⟩
theorem KO {D:DS} {C:CS} {s:Bytes} (h:65536<s.length):ZB D C s=⟨6,D,C⟩:= by rw[ZB,if_pos h]
theorem KP {D:DS} {C:CS} {s:Bytes} (h: ¬65536<s.length) (h1:C.sure=false) (h2:0<C.slot) (h3:Wa D C.f≠0):ZB D C s=⟨Wa D C.f,Zq D C.f,C⟩:= by rw[ZB,if_neg h,if_pos ⟨h1,h2⟩,if_pos h3]
theorem GZ {D:DS} {C:CS} {s:Bytes} (h: ¬65536<s.length) (h1:C.sure=false) (h2:0<C.slot) (h3:Wa D C.f=0):ZB D C s=W2 (Zq D C.f) {C with sure:=true} s:= by rw[ZB,if_neg h,if_pos ⟨h1,h2⟩,if_neg (by omega)]
theorem KQ {D:DS} {C:CS} {s:Bytes} (h: ¬65536<s.length) (h1: ¬(C.sure=false∧0<C.slot)):ZB D C s=W2 D C s:= by rw[ZB,if_neg h,if_neg h1]
theorem Dk {D:DS} {C:CS} {s:Bytes} (h:WJ D C.f (QI (other C)) s≠0):W2 D C s=⟨WJ D C.f (QI (other C)) s,XU D C.f (QI (other C)) s,C⟩:= by simp only[W2]; rw[if_pos h]
theorem Cy {D:DS} {C:CS} {s:Bytes} (h:WJ D C.f (QI (other C)) s=0) (h1:Wa (XU D C.f (QI (other C)) s) C.f≠0):W2 D C s=⟨Wa (XU D C.f (QI (other C)) s) C.f,Zq (XU D C.f (QI (other C)) s) C.f,C⟩:= by simp only[W2]; rw[if_neg (by omega),if_pos h1]
theorem Cx {D:DS} {C:CS} {s:Bytes} (h:WJ D C.f (QI (other C)) s=0) (h1:Wa (XU D C.f (QI (other C)) s) C.f=0) (h2:WJ (Zq (XU D C.f (QI (other C)) s) C.f) C.f 0 (HJ (other C) s.length)≠0):W2 D C s=⟨WJ (Zq (XU D C.f (QI (other C)) s) C.f) C.f 0 (HJ (other C) s.length),XU (Zq (XU D C.f (QI (other C)) s) C.f) C.f 0 (HJ (other C) s.length),C⟩:= by simp only[W2]; rw[if_neg (by omega),if_neg (by omega),if_pos h2]
theorem Dj {D:DS} {C:CS} {s:Bytes} (h:WJ D C.f (QI (other C)) s=0) (h1:Wa (XU D C.f (QI (other C)) s) C.f=0) (h2:WJ (Zq (XU D C.f (QI (other C)) s) C.f) C.f 0 (HJ (other C) s.length)=0):W2 D C s=⟨Wa (XU (Zq (XU D C.f (QI (other C)) s) C.f) C.f 0 (HJ (other C) s.length)) C.f,Zq (XU (Zq (XU D C.f (QI (other C)) s) C.f) C.f 0 (HJ (other C) s.length)) C.f,⟨C.f,other C,s,decide (Wa (XU (Zq (XU D C.f (QI (other C)) s) C.f) C.f 0 (HJ (other C) s.length)) C.f=0)⟩⟩:= by simp only[W2]; rw[if_neg (by omega),if_neg (by omega),if_neg (by omega)]
theorem set_sp {w:World} {p c:Nat} {D:DS} {C:CS} {F:Th} (hS:Sat w [QR c (Hv p C),dT p D,F]) (hG:Ent F (Glob 0)) (hsl:C.slot≤2) (s:Bytes):
    Calls prog 95 #[ptrV c 0,strV s] w (Ret fun v w'=>v=intV (ZB D C s).e∧Sat w' [QR c (Hv p (ZB D C s).C),dT p (ZB D C s).D,F]):= by
 refine Qy func95 Qa ntmps95 Qa ?_
 refine Qg (Qb (Qc Qa Qa (Qh (Qe (Qg (Qg (Qb (Qd Qa Qa (Zs underlying9 Qa Qa (We Qa Qa Qa (Qh (Qe (Qw Qa (fun h1=> ?_) (fun h1=> ?_))))))))))))))
 ·have hlong:65536<s.length:= by omega
  refine Qg (Qb (Qc Qa Qa (Qh (Qe (Qo (Qm (Q7 (.inr Qa) Qa Qa ?_)))))))
  exact⟨_,rfl, by rw[KO hlong], by rw[KO hlong]; exact hS.pick [0,1,2] Qa⟩
 have hlong: ¬65536<s.length:= by omega
 refine Qr (Qe (V7 (fun E0 W0=> ∃(D1:DS) (C1:CS),E0=[(0,ptrV c 0),(1,strV s)]∧Sat W0 [QR c (Hv p C1),dT p D1,F]∧(ZB D C s=W2 D1 C1 s)∧(C1.slot≤2)) ?_ ?_))
 ·refine Qg (Qb (Qd Qa Qa (Ql Qa Qa (Qi Qa Gy Qa (Qp Qa JT (hS.cell 0 Qa Qa) Qa (XS Qa Qa (Qd Qa Qa (Zz 19 Qa (fun h3=> ?_) (fun h3=> ?_)))))))))
  ·refine Qj Qa Qa h3 (Qd Qa Qa (Qj Qa Qa h3 (Ql Qa Qa (Qj Qa Qa h3 (Qi Qa JD Qa (Qj Qa Qa h3 (Qp Qa QK (hS.cell 0 Qa Qa) Qa (Qj Qa Qa h3 (We Qa Qa Qa (Qx Qa h3 Qa Qa (Qh (Qe (Qk [1,0,4,25] Qa (Qw Qa (fun h4=> ?_) (fun h4=> ?_)))))))))))))))
   ·have hsu:C.sure=false:= by simp_all
    have hsl0:0<C.slot:= by omega
    refine Qg (Qg ?_)
    have hS5:=hS.drew
    refine QT [0,1,2,3,4,5,6,7,8,9] [8] Jk (by kernel_rfl) ?_
    refine QM Qa Qa Qa (Xw Qa Qa Qa (QQ Qa Qa Qa Ky (QH Qa Qa Qa (Qn Qa GK (hS5.cell 0 Qa Qa)) (QM Qa Qa Qa (Xw Qa Qa Qa (QQ Qa Qa Qa Kx (QH Qa Qa Qa (Qn Qa QK (hS5.cell 0 Qa Qa)) (Xb Qa Qa Qa Qa Qa Qa ?_))))))))
    refine Q4 FM Qa (Om (hS5.sp [1] Qa) C.f) Qa ?_
    rintro _ w6 ⟨rfl,hS6⟩
    replace hS6:=hS6.jn Qa Qa
    refine Xn (XC (by kernel_rfl)) ?_
    refine Jr Qa Qa Qa (VC.nil (Qe (Qk [1,0,4,5] Qa (Qg (Qb (Qd Qa Qa (Xt Qa Qa Qa (Qh (Qe (Qw Qa (fun h7=> ?_) (fun h7=> ?_)))))))))))
    ·have h2:=h7
     refine Qg (Qb (Qd Qa Qa (Qc Qa Qa (Qh (Qe (Qo (Qm (Qm (Q7 (.inr Qa) Qa Qa ?_)))))))))
     exact⟨_,rfl, by rw[KP hlong hsu hsl0 h2], by rw[KP hlong hsu hsl0 h2]; exact hS6.pick [1,0,2] Qa⟩
    have h2:Wa D C.f=0:=Decidable.not_not.1 h7
    refine Qr (Qe (Qb (Qd Qa Qa (Ql Qa Qa (Qi Qa Gy Qa ?_)))))
    first | (refine QC hS6 Qa Qa Jy (by rfl) (i:=1) Qa (Xe Qa) ?_)
    intro w8 hS9; dsimp only[List.set]at hS9
    exact Qh (JL (FZ Qa Qa) ⟨_,{C with sure:=true},Qa,hS9.reorder [1,0,2] Qa,GZ hlong hsu hsl0 h2,hsl⟩)
   refine Qr ?_
   exact JL (FZ rfl rfl) ⟨_,C,rfl,hS.reorder [0,1,2] rfl,KQ hlong (by rintro⟨q1,q2⟩;simp_all),hsl⟩
  refine Qf Qa Qa h3 Qa (Qf Qa Qa h3 Qa (Qf Qa Qa h3 Qa (Qf Qa Qa h3 Qa (Qf Qa Qa h3 Qa (Qz Qa h3 Qa Qa (Qh (Qe (Qk [1,0,4,25] Qa (QF Qa (Qr ?_))))))))))
  exact JL (FZ rfl rfl) ⟨_,C,rfl,hS.reorder [0,1,2] rfl,KQ hlong (by rintro⟨q1,q2⟩;simp_all),hsl⟩
 rintro _ w2 ⟨D1,C1,rfl,hS2,hj,hsl1⟩
 refine Qg (Qb (Qc Qa Qa (Qh (Qe (V7 (fun E0 W0=> ∃(sl:Nat),E0=[(0,ptrV c 0),(1,strV s),(6,intV (sl:Int))]∧Sat W0 [QR c (Hv p C1),dT p D1,F]∧(sl=other C1)) ?_ ?_)))))
 ·refine Qg (Qb (Qd Qa Qa (Ql Qa Qa (Qi Qa JD Qa (Qp Qa QK (hS2.cell 0 Qa Qa) Qa (QO Qa Qa Qa (Qh (Qe (Qw Qa (fun h11=> ?_) (fun h11=> ?_))))))))))
  ·have hs1:C1.slot=1:= by omega
   refine Qb (Qc Qa Qa (Qh ?_))
   exact JL (Dh Qa Qa Qa) ⟨2,rfl,hS2, by simp [other,hs1]⟩
  have hs1: ¬C1.slot=1:= by omega
  refine Qr ?_
  exact JL (Dh Qa Qa Qa) ⟨1,rfl,hS2, by simp [other,hs1]⟩
 rintro _ w10 ⟨sl,rfl,hS10,hso⟩
 have hs12:sl=1∨sl=2:= by rw[hso];unfold other;split<;> simp
 refine Qg (Qg ?_)
 subst hso
 have hS12:=hS10.drew
 refine QT [0,1,2,3,4,5,6,7,8,9,10,11,12,13] [12] Jk (by kernel_rfl) ?_
 refine QM Qa Qa Qa (Xw Qa Qa Qa (QQ Qa Qa Qa Ky (QH Qa Qa Qa (Qn Qa GK (hS12.cell 0 Qa Qa)) (QM Qa Qa Qa (Xw Qa Qa Qa (QQ Qa Qa Qa Kx (QH Qa Qa Qa (Qn Qa QK (hS12.cell 0 Qa Qa)) (QM Qa Qa Qa (QG Qa Qa Qa (fun _=>(R4 _ underlying132 Qa Qa (by rfl) (by omega) YH)) ?_)))))))))
 refine QH Qa Qa Qa (Qn Qa QK ((hG.sat hS12 2 Qa).off hs12)) (QM Qa Qa Qa (Xb Qa Qa Qa Qa Qa Qa ?_))
 refine Q4 LR Qa (Oa (hS12.sp [1] Qa) C1.f (QI (other C1)) s) Qa ?_
 rintro _ w13 ⟨rfl,hS13⟩
 replace hS13:=hS13.jn Qa Qa
 refine Xn (XC (by kernel_rfl)) ?_
 refine Jr Qa Qa Qa (VC.nil (Qe (Qk [6,1,0,7] Qa (Qg (Qb (Qd Qa Qa (Xt Qa Qa Qa (Qh (Qe (Qw Qa (fun h14=> ?_) (fun h14=> ?_)))))))))))
 ·have h4:=h14
  refine Qg (Qb (Qd Qa Qa (Qc Qa Qa (Qh (Qe (Qo (Qm (Q7 (.inr Qa) Qa Qa ?_))))))))
  exact⟨_,rfl, by rw[hj,Dk h4], by rw[hj,Dk h4]; exact hS13.pick [1,0,2] Qa⟩
 have h4:=Decidable.not_not.1 h14
 refine Qr (Qe (Qg (Qg ?_)))
 have hS15:=hS13.drew
 refine QT [0,1,2,3,4,5,6,7,8,9] [8] Jk (by kernel_rfl) ?_
 refine QM Qa Qa Qa (Xw Qa Qa Qa (QQ Qa Qa Qa Ky (QH Qa Qa Qa (Qn Qa GK (hS15.cell 1 Qa Qa)) (QM Qa Qa Qa (Xw Qa Qa Qa (QQ Qa Qa Qa Kx (QH Qa Qa Qa (Qn Qa QK (hS15.cell 1 Qa Qa)) (Xb Qa Qa Qa Qa Qa Qa ?_))))))))
 refine Q4 FM Qa (Om (hS15.sp [0] Qa) C1.f) Qa ?_
 rintro _ w16 ⟨rfl,hS16⟩
 replace hS16:=hS16.jn Qa Qa
 refine Xn (XC (by kernel_rfl)) ?_
 refine Jr Qa Qa Qa (VC.nil (Qe (Qk [6,1,0,8] Qa (Qg (Qb (Qd Qa Qa (Xt Qa Qa Qa (Qh (Qe (Qw Qa (fun h17=> ?_) (fun h17=> ?_)))))))))))
 ·have h5:=h17
  refine Qg (Qb (Qd Qa Qa (Qc Qa Qa (Qh (Qe (Qo (Qm (Q7 (.inr Qa) Qa Qa ?_))))))))
  exact⟨_,rfl, by rw[hj,Cy h4 h5], by rw[hj,Cy h4 h5]; exact hS16.pick [1,0,2] Qa⟩
 have h5:=Decidable.not_not.1 h17
 refine Qr (Qe (Qg (Qg ?_)))
 have hS18:=hS16.drew
 refine QT [0,1,2,3,4,5,6,7,8,9,10,11,12] [10,11] Jk (by kernel_rfl) ?_
 refine QM Qa Qa Qa (Xw Qa Qa Qa (QQ Qa Qa Qa Ky (QH Qa Qa Qa (Qn Qa GK (hS18.cell 1 Qa Qa)) (QM Qa Qa Qa (Xw Qa Qa Qa (QQ Qa Qa Qa Kx (QH Qa Qa Qa (Qn Qa QK (hS18.cell 1 Qa Qa)) (QM Qa Qa Qa (QM Qa Qa Qa (Xb Qa Qa Qa Qa Qa Qa ?_))))))))))
 refine Q4 cal_118 Qa (Aq (hS18.sp [] Qa) (other C1) s (by omega)) Qa ?_
 rintro _ w19 ⟨rfl,hS19⟩
 replace hS19:=hS19.jn Qa Qa
 refine Xn (.cons (.inl ⟨Qa,(Qn Qa QK (hS19.cell 1 Qa Qa))⟩) (.cons (.inl ⟨Qa,(Qn Qa GK (hS19.cell 1 Qa Qa))⟩) .nil)) (Xb Qa Qa Qa Qa Qa Qa ?_)
 refine Q4 LR Qa (Oa (hS19.sp [0] Qa) C1.f 0 (HJ (other C1) s.length)) Qa ?_
 rintro _ w20 ⟨rfl,hS20⟩
 replace hS20:=hS20.jn Qa Qa
 refine Xn (XC (by kernel_rfl)) ?_
 refine Jr Qa Qa Qa (VC.nil (Qe (Qk [6,1,0,9] Qa (Qg (Qb (Qd Qa Qa (Xt Qa Qa Qa (Qh (Qe (Qw Qa (fun h21=> ?_) (fun h21=> ?_)))))))))))
 ·have h6:=h21
  refine Qg (Qb (Qd Qa Qa (Qc Qa Qa (Qh (Qe (Qo (Qm (Q7 (.inr Qa) Qa Qa ?_))))))))
  exact⟨_,rfl, by rw[hj,Cx h4 h5 h6], by rw[hj,Cx h4 h5 h6]; exact hS20.pick [1,0,2] Qa⟩
 have h6:=Decidable.not_not.1 h21
 refine Qr (Qe (Qg (Qb (Qd Qa Qa (Qd Qa Qa (Qd Qa Qa (Qd Qa Qa (Qd Qa Qa (Ql Qa Qa (Qi Qa JD Qa ?_))))))))))
 first | (refine QC hS20 Qa Qa YH (by rfl) (i:=1) Qa (Xe Qa) ?_)
 intro w22 hS23; dsimp only[List.set]at hS23
 refine Ql Qa Qa (Qi Qa Y8 Qa ?_)
 first | (refine QC hS23 Qa Qa R8 (by rfl) (i:=1) Qa (Xe Qa) ?_)
 intro w24 hS25; dsimp only[List.set]at hS25
 refine Ql Qa Qa (Qi Qa Gy Qa ?_)
 first | (refine QC hS25 Qa Qa Jy (by rfl) (i:=1) Qa (Xe Qa) ?_)
 intro w26 hS27; dsimp only[List.set]at hS27
 refine Qh (Qe (Qk [0] Qa (Qg ?_)))
 have hS28:=hS27.drew
 refine QT [0,1,2,3,4,5,6,7,8,9] [8] Jk (by kernel_rfl) ?_
 refine QM Qa Qa Qa (Xw Qa Qa Qa (QQ Qa Qa Qa Ky (QH Qa Qa Qa (Qn Qa GK (hS28.cell 1 Qa Qa)) (QM Qa Qa Qa (Xw Qa Qa Qa (QQ Qa Qa Qa Kx (QH Qa Qa Qa (Qn Qa QK (hS28.cell 1 Qa Qa)) (Xb Qa Qa Qa Qa Qa Qa ?_))))))))
 refine Q4 FM Qa (Om (hS28.sp [0] Qa) C1.f) Qa ?_
 rintro _ w29 ⟨rfl,hS29⟩
 replace hS29:=hS29.jn Qa Qa
 refine Xn (XC (by kernel_rfl)) ?_
 refine Jr Qa Qa Qa (VC.nil (Qe (Qk [0,10] Qa (Qg (Qb (Qd Qa Qa (Qd Qa Qa (QO Qa Qa Qa (Ql Qa Qa (Qi Qa Gy Qa ?_))))))))))
 first | (refine QC hS29 Qa Qa Jy (by rfl) (i:=1) Qa (Xe Qa) ?_)
 intro w30 hS31; dsimp only[List.set]at hS31
 refine Qh (Qe (Qg (Qb (Qd Qa Qa (Qc Qa Qa (Qh (Qe (Qo (Q7 (.inr Qa) Qa Qa ?_)))))))))
 exact⟨_,rfl, by rw[hj,Dj h4 h5 h6], by rw[hj,Dj h4 h5 h6]; exact hS31.pick [1,0,2] Qa⟩
