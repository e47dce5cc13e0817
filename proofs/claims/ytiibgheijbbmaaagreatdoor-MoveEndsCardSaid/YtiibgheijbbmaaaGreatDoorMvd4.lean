/- the law: holds -/
import Derived.Test.YtiibgheijbbmaaaGreatDoorMvd2
set_option linter.unusedVariables false
set_option maxRecDepth 100000
set_option maxHeartbeats 100000000000
namespace Go.Proofs.YtiibgheijbbmaaaGreatDoor
open Go.RowKit M Proofs.Tryz
def NT (E:EnD):Bs×Bool:=(match E.ses with | some s=>s.state | none=>[],E.ses.isSome)
def Ks (E:EnD) (y:Int×Bs):Bool:=decide ((Uu E y.1).2=0∧(Uu E y.1).1=y.2) || decide ((Uu E y.1).2=19)
def Yy (E:EnD) (s:SsD):Bool:=(NT E).2&&decide ((NT E).1=s.state)&&s.sheets.all (Ks E)&&(((WA E).2==decide (((QP E).length:Int)=0))&&(!(WA E).2 || Vp (WA E).1.state s.state (WA E).1.sheets s.sheets))
section
variable {E:EnD} {t:Bs} {l:AL Bs} {i:Nat} {y:Int×Bs}
theorem TU (h:(NT E).2=false):Yy E ⟨t,l⟩=false:= by unfold Yy; rw[h];rfl
theorem TT (h:(NT E).1≠t):Yy E ⟨t,l⟩=false:= by unfold Yy; rw[Qv h]; simp
theorem Bp (hy:l[i]? =some y) (h:Ks E y=false):Yy E ⟨t,l⟩=false:= by
  unfold Yy
  rw[show l.all (Ks E)=false by rw[Bool.eq_false_iff]; intro q; rw[List.all_eq_true.1 q y (List.mem_of_getElem? hy)]at h; cases h]
  simp
theorem Gr (h1:(NT E).2=true) (h2:(NT E).1=t) (h3: ∀e∈l.take i,Ks E e=true) (hi:i=l.length):Yy E ⟨t,l⟩=(((WA E).2==decide (((QP E).length:Int)=0))&&(!(WA E).2 || Vp (WA E).1.state t (WA E).1.sheets l)):= by
  subst hi
  rw[List.take_length]at h3
  unfold Yy
  rw[h1,Q8 h2,List.all_eq_true.2 h3];rfl
theorem NW (hw: ∀x,E.ses=some x→SeW x):(WA E).1.sheets.length≤9223372036854775807:= by
  unfold WA
  cases q:E.ses with
  | none=> exact Nat.zero_le _
  | some s=> dsimp only;split<;>first | exact Nat.zero_le _ | (have :=(hw s q).num; simp only[List.length_map];omega)
theorem RY {p:Int×Bs→Prop} (h: ∀e∈l.take i,p e) (hy:l[i]? =some y) (hp:p y): ∀e∈l.take (i+1),p e:= by
  intro e he
  rw[List.take_add_one,hy,List.mem_append]at he
  rcases he with a | a
  · exact h e a
  · have q:e=y:= by simpa using a
    rw[q]; exact hp
end
theorem LL {w:World} {e:Nat} {E:EnD} {F:Th} (hS:Sat w [Xs e E,F]):
    Calls prog 23 #[ptrV e 0] w (Ret fun v w'=>v= .tuple #[strV (NT E).1,.bool (NT E).2]∧Sat w' [Xs e E,F]):= by
  exact A8 hS
theorem Aa {w:World} {e:Nat} {E:EnD} {F:Th} (hS:Sat w [Xs e E,F]) (hw: ∀x,E.ses=some x→SeW x) {t:Bs} {sv:Value} {l:AL Bs} (hL:Ent F (RdL shC sv l)):
    Calls prog 26 #[ptrV e 0,.agg #[strV t,sv]] w (Ret fun v w'=>v= .bool (Yy E ⟨t,l⟩)∧Sat w' [Xs e E,F]):= by
 obtain⟨ao,cap,rfl,hmax⟩:=(hL.sat hS 1 rfl).shape
 refine Qy func26 Qa ntmps26 Qa ?_
 refine Qg (Qb (XZ hS Qa Qa Qa ?_))
 intro bp w1 hS10
 have hS1:Sat w1 (QR bp [strV t,.slice ao l.length cap]::_):=hS10
 refine Qc Qa Qa (Qh (Qe (Qg (Qb (Qd Qa Qa (Q4 qal Qa (LL (hS1.sp [1] Qa)) Qa ?_))))))
 rintro _ w2 ⟨rfl,hS2⟩
 replace hS2:=hS2.jn Qa Qa
 refine Qd Qa Qa (Q9 Qa Qa Qa (Q9 Qa Qa Qa (Qc Qa Qa (Qc Qa Qa (Qh (Qe (Qk [0,3,4,5,6] Qa (Qg (Qg (Qb (Qd Qa Qa (XS Qa Qa (Qd Qa Qa (Zz 20 Qa (fun h3=> ?_) (fun h3=> ?_)))))))))))))))
 ·have hok:(NT E).2=false:= by simpa using h3
  exact Qf Qa Qa h3 Qa (Qf Qa Qa h3 Qa (Qf Qa Qa h3 Qa (Qf Qa Qa h3 Qa (Qx Qa h3 Qa Qa (Qh (Qe (Qk [0,3,4,25] Qa (QL Qa (Qg (Qb (Qc Qa Qa (Qh (Qe (Qo (Qm (Q7 (.inr Qa) Qa Qa (⟨_,rfl, by rw[show Yy E ⟨t,l⟩=false by first | exact TU hok | exact TT (by assumption)],hS2.pick [0,2] Qa⟩)))))))))))))))))
 have hok:(NT E).2=true:= by simpa using h3
 refine Qj Qa Qa h3 (Qd Qa Qa (Qj Qa Qa h3 (Qi Qa Hm Qa (Qj Qa Qa h3 (Qp Qa Zw (hS2.cell 1 Qa Qa) Qa (Qj Qa Qa h3 (KG Qa Qa Qa (Qz Qa h3 Qa Qa (Qh (Qe (Qk [0,3,4,25] Qa (Qw Qa (fun h4=> ?_) (fun h4=> ?_)))))))))))))
 ·exact Qg (Qb (Qc Qa Qa (Qh (Qe (Qo (Qm (Q7 (.inr Qa) Qa Qa (⟨_,rfl, by rw[show Yy E ⟨t,l⟩=false by first | exact TU hok | exact TT (by assumption)],hS2.pick [0,2] Qa⟩))))))))
 have hst:(NT E).1=t:=Decidable.not_not.1 h4
 refine Qr (Qe (Qg (Qb (Qd Qa Qa (Q4 VQ Qa (J6 (hS2.sp [0] Qa) hw) Qa ?_)))))
 rintro _ w5 hS5
 replace hS5:=hS5.jn Qa Qa
 refine Qc Qa Qa (Qh (Qe (Qg (Qg (Qb (Qc Qa Qa (Qh (Qe (QD ?_)))))))))
 obtain⟨ao9,cap9,hv6,_⟩:=hS5.own_shape 0 rfl
 obtain rfl:=hv6
 refine XD (fun K0 E0 W0=> ∃(i:Nat),K0=l.length -i∧E0=[(0,ptrV e 0),(3,ptrV bp 0),(7,.slice ao9 (QP E).length cap9),(8,intV (i:Int))]∧Sat W0 [Xs e E,rowT inC (.slice ao9 (QP E).length cap9) (QP E),QR bp [strV t,.slice ao l.length cap],F]∧(i≤l.length)∧(∀e∈l.take i,Ks E e=true)) (L0:=[(0,_),(3,_),(7,_),(8,_)]) (l.length -0) (DF Qa Qa Qa Qa) ⟨0,rfl,rfl,hS5.pick [1,0,2,3] Qa, by omega,(fun e he=> by simp at he)⟩ ?_
 rintro _ _ w7 ⟨i,rfl,rfl,hS7,hi,hall⟩
 refine Qg (Qg (Qb (Qd Qa Qa (Qi Qa Zt Qa (Qp Qa WV (hS7.cell 2 Qa Qa) Qa (Xj underlying22 Qa Qa (Xz Qa Qa Qa (Qh (Qe (Qw Qa (fun h8=> ?_) (fun h8=> ?_)))))))))))
 ·obtain⟨y,hy⟩: ∃y,l[i]? =some y:=⟨_,WU (by omega)⟩
  obtain⟨b9,off9,rfl,hc9⟩:=(hL.sat hS7 3 rfl).get hy
  refine Qr (Qe (Qg (QD (Qg (Qb (Qd Qa Qa (Qi Qa Zt Qa (Qp Qa WV (hS7.cell 2 Qa Qa) Qa (Qd Qa Qa (XG i Qa Qa (by rfl) (by omega) K8 Qa ?_))))))))))
  refine Qi Qa YE Qa (Qp Qa QK (hc9 0 _ Qa) Qa (Q4 qai Qa (Sk (hS7.sp [0] Qa) y.1) Qa ?_))
  rintro _ w9 ⟨rfl,hS9⟩
  replace hS9:=hS9.jn Qa Qa
  refine Qd Qa Qa (Q9 Qa Qa Qa (Q9 Qa Qa Qa (Qc Qa Qa (Qc Qa Qa (Qh (Qe (Qk [8,7,3,0,9,10] Qa (Qg ?_))))))))
  obtain⟨b8,off8,he8,hc8⟩:=(hL.sat hS9 3 rfl).get hy
  cases he8
  refine Qb (Qd Qa Qa (Xt Qa Qa Qa (Qd Qa Qa (Q3 48 Qa (fun h10=> ?_) (fun h10=> ?_)))))
  ·refine Qj Qa Qa (Q8 h10) (Qd Qa Qa (Qj Qa Qa (Q8 h10) (Xt Qa Qa Qa (Qx Qa (Q8 h10) Qa Qa (Qd Qa Qa (Q3 52 Qa (fun h11=> ?_) (fun h11=> ?_)))))))
   ·refine Qf Qa Qa (Q8 h11) Qa (Qf Qa Qa (Q8 h11) Qa (Qf Qa Qa (Q8 h11) Qa (Q5 Qa Qa Qa (Q5 Qa Qa Qa (Q5 Qa Qa Qa (Q5 Qa Qa Qa (Q5 Qa Qa Qa (Q5 Qa Qa Qa (Q5 Qa Qa Qa (Q5 Qa Qa Qa (Qf Qa Qa (Q8 h11) Qa (Qx Qa (Q8 h11) Qa Qa (Qh (Qe (Qk [8,7,3,0,65] Qa (QL Qa (Qg (Qb (Qc Qa Qa (Qh (Qe (Qo (Q0 (Qm (Qm (Q0 (Qm (Q7 (.inr Qa) Qa Qa ?_))))))))))))))))))))))))))))
    exact⟨_,rfl, by rw[Bp hy (by unfold Ks; simp only[Bool.or_eq_false_iff,decide_eq_false_iff_not]; refine⟨fun q=> ?_, fun q=> ?_⟩<;>first | omega | (obtain⟨q1,q2⟩:=q; exact absurd q2 (by assumption)))],hS9.pick [0,3] rfl⟩
   refine Qj Qa Qa (Qv h11) (Qd Qa Qa (Qj Qa Qa (Qv h11) (QO Qa Qa Qa (Qj Qa Qa (Qv h11) (Qd Qa Qa (Q3 55 Qa (fun h12=> ?_) (fun h12=> ?_)))))))
   ·refine Qj Qa Qa (Q8 h12) (Qd Qa Qa (Qj Qa Qa (Q8 h12) (Qi Qa Zt Qa (Qj Qa Qa (Q8 h12) (Qp Qa WV (hS9.cell 2 Qa Qa) Qa (Qj Qa Qa (Q8 h12) (Qd Qa Qa (Qj Qa Qa (Q8 h12) (XG i Qa Qa (by rfl) (by omega) K8 Qa ?_)))))))))
    refine Qj Qa Qa (Q8 h12) (Qi Qa VG Qa (Qj Qa Qa (Q8 h12) (Qp Qa Zw (hc8 1 _ Qa) Qa (Qj Qa Qa (Q8 h12) (KG Qa Qa Qa (Qj Qa Qa (Qv h11) (Qx Qa (Q8 h12) Qa Qa (Qz Qa (Qv h11) Qa Qa (Qh (Qe (Qk [8,7,3,0,65] Qa (Qw Qa (fun h13=> ?_) (fun h13=> ?_)))))))))))))
    ·refine Qg (Qb (Qc Qa Qa (Qh (Qe (Qo (Q0 (Qm (Qm (Q0 (Qm (Q7 (.inr Qa) Qa Qa ?_)))))))))))
     exact⟨_,rfl, by rw[Bp hy (by unfold Ks; simp only[Bool.or_eq_false_iff,decide_eq_false_iff_not]; refine⟨fun q=> ?_, fun q=> ?_⟩<;>first | omega | (obtain⟨q1,q2⟩:=q; exact absurd q2 (by assumption)))],hS9.pick [0,3] rfl⟩
    refine Qr (Qq (Qe (Qb (Qd Qa Qa (Xq Qa Qa (by omega) (by omega) Qa ?_)))))
    refine Qc Qa Qa (Qh ?_)
    exact QY (L1:=[(0,_),(3,_),(7,_),(8,intV ((i+1:Nat):Int))]) (DF Qa Qa Qa Qa) (k1:=l.length -(i+1)) (by omega) ⟨i+1,rfl,rfl,hS9.pick [0,1,2,3] Qa, by omega,RY (p:= fun e=>Ks E e=true) hall hy (by unfold Ks; simp only[Bool.or_eq_true,decide_eq_true_eq];first | exact .inr (by omega) | exact .inl ⟨by omega,Decidable.not_not.1 (by assumption)⟩)⟩
   refine Qf Qa Qa (Qv h12) Qa (Qf Qa Qa (Qv h12) Qa (Qf Qa Qa (Qv h12) Qa (Qf Qa Qa (Qv h12) Qa (Qf Qa Qa (Qv h12) Qa (Qf Qa Qa (Qv h12) Qa (Qf Qa Qa (Qv h12) Qa (Qf Qa Qa (Qv h12) Qa (Qj Qa Qa (Qv h11) (Qz Qa (Qv h12) Qa Qa (Qz Qa (Qv h11) Qa Qa (Qh (Qe (Qk [8,7,3,0,65] Qa (QF Qa (Qr (Qq (Qe (Qb (Qd Qa Qa (Xq Qa Qa (by omega) (by omega) Qa ?_))))))))))))))))))))
   refine Qc Qa Qa (Qh ?_)
   exact QY (L1:=[(0,_),(3,_),(7,_),(8,intV ((i+1:Nat):Int))]) (DF Qa Qa Qa Qa) (k1:=l.length -(i+1)) (by omega) ⟨i+1,rfl,rfl,hS9.pick [0,1,2,3] Qa, by omega,RY (p:= fun e=>Ks E e=true) hall hy (by unfold Ks; simp only[Bool.or_eq_true,decide_eq_true_eq];first | exact .inr (by omega) | exact .inl ⟨by omega,Decidable.not_not.1 (by assumption)⟩)⟩
  refine Qf Qa Qa (Qv h10) Qa (Qf Qa Qa (Qv h10) Qa (Qz Qa (Qv h10) Qa Qa (Qd Qa Qa (Qj Qa Qa Qa (Qd Qa Qa (Qj Qa Qa Qa (QO Qa Qa Qa (Qj Qa Qa Qa (Qd Qa Qa (Q3 55 Qa (fun h14=> ?_) (fun h14=> ?_)))))))))))
  ·refine Qj Qa Qa (Q8 h14) (Qd Qa Qa (Qj Qa Qa (Q8 h14) (Qi Qa Zt Qa (Qj Qa Qa (Q8 h14) (Qp Qa WV (hS9.cell 2 Qa Qa) Qa (Qj Qa Qa (Q8 h14) (Qd Qa Qa (Qj Qa Qa (Q8 h14) (XG i Qa Qa (by rfl) (by omega) K8 Qa ?_)))))))))
   refine Qj Qa Qa (Q8 h14) (Qi Qa VG Qa (Qj Qa Qa (Q8 h14) (Qp Qa Zw (hc8 1 _ Qa) Qa (Qj Qa Qa (Q8 h14) (KG Qa Qa Qa (Qj Qa Qa Qa (Qx Qa (Q8 h14) Qa Qa (Qz Qa Qa Qa Qa (Qh (Qe (Qk [8,7,3,0,65] Qa (Qw Qa (fun h15=> ?_) (fun h15=> ?_)))))))))))))
   ·refine Qg (Qb (Qc Qa Qa (Qh (Qe (Qo (Q0 (Qm (Qm (Q0 (Qm (Q7 (.inr Qa) Qa Qa ?_)))))))))))
    exact⟨_,rfl, by rw[Bp hy (by unfold Ks; simp only[Bool.or_eq_false_iff,decide_eq_false_iff_not]; refine⟨fun q=> ?_, fun q=> ?_⟩<;>first | omega | (obtain⟨q1,q2⟩:=q; exact absurd q2 (by assumption)))],hS9.pick [0,3] rfl⟩
   refine Qr (Qq (Qe (Qb (Qd Qa Qa (Xq Qa Qa (by omega) (by omega) Qa ?_)))))
   refine Qc Qa Qa (Qh ?_)
   exact QY (L1:=[(0,_),(3,_),(7,_),(8,intV ((i+1:Nat):Int))]) (DF Qa Qa Qa Qa) (k1:=l.length -(i+1)) (by omega) ⟨i+1,rfl,rfl,hS9.pick [0,1,2,3] Qa, by omega,RY (p:= fun e=>Ks E e=true) hall hy (by unfold Ks; simp only[Bool.or_eq_true,decide_eq_true_eq];first | exact .inr (by omega) | exact .inl ⟨by omega,Decidable.not_not.1 (by assumption)⟩)⟩
  refine Qf Qa Qa (Qv h14) Qa (Qf Qa Qa (Qv h14) Qa (Qf Qa Qa (Qv h14) Qa (Qf Qa Qa (Qv h14) Qa (Qf Qa Qa (Qv h14) Qa (Qf Qa Qa (Qv h14) Qa (Qf Qa Qa (Qv h14) Qa (Qf Qa Qa (Qv h14) Qa (Qj Qa Qa Qa (Qz Qa (Qv h14) Qa Qa (Qz Qa Qa Qa Qa (Qh (Qe (Qk [8,7,3,0,65] Qa (QF Qa (Qr (Qq (Qe (Qb (Qd Qa Qa (Xq Qa Qa (by omega) (by omega) Qa ?_))))))))))))))))))))
  refine Qc Qa Qa (Qh ?_)
  exact QY (L1:=[(0,_),(3,_),(7,_),(8,intV ((i+1:Nat):Int))]) (DF Qa Qa Qa Qa) (k1:=l.length -(i+1)) (by omega) ⟨i+1,rfl,rfl,hS9.pick [0,1,2,3] Qa, by omega,RY (p:= fun e=>Ks E e=true) hall hy (by unfold Ks; simp only[Bool.or_eq_true,decide_eq_true_eq];first | exact .inr (by omega) | exact .inl ⟨by omega,Decidable.not_not.1 (by assumption)⟩)⟩
 refine Xu (Q1 (Q1 (QJ (Qe (Qg (Qb (Qd Qa Qa (Q4 qaf Qa (Si (hS7.sp [0] Qa) hw) Qa ?_))))))))
 rintro _ w16 ⟨sv8,rfl,hS16⟩
 replace hS16:=hS16.jn Qa Qa
 refine Qd Qa Qa (Q9 Qa Qa Qa (Q9 Qa Qa Qa (Xk hS16 Kb Qa Qa ?_)))
 intro tb w17 hS170
 have hS17:Sat w17 (QR tb [strV [],.slice none 0 0]::_):=hS170
 have h4:=hS17.own_one 1 Qa
 have hones: ∀v:Value,v.oneCell'=true→ZV [strV (WA E).1.state,v]=true:= by intro v q1; simp [ZV,Value.oneCell']at q1⊢; exact q1
 have hone2:=hones _ h4
 (refine QX hS17 Qa Qa Wc Qa (by assumption) (i:=0) Qa (by decide) ?_)
 intro w18 hS19; dsimp only[List.set]at hS19
 refine Qc Qa Qa (Qh (Qe (Qk [7,3,11,12] Qa (Qg ?_))))
 have hS20:Sat _ (QR tb [strV (WA E).1.state,sv8]::_):=hS19.pick [0,1,2,3,4,5] Qa
 refine Qb (Qd Qa Qa (Qd Qa Qa ?_))
 first | refine Xj underlying33 Qa Qa ?_ | refine X3 1 hS20 underlying33 Qa Qa Qa ?_ | refine X3 3 hS20 underlying33 Qa Qa Qa ?_
 refine QO Qa Qa Qa (wl_eqlB underlying4 Qa Qa Qa (Qd Qa Qa (Zz 76 Qa (fun h21=> ?_) (fun h21=> ?_))))
 ·have hq1:((WA E).2==decide (((QP E).length:Int)=0))=true:=h21
  refine Qj Qa Qa h21 (Qd Qa Qa (Qj Qa Qa h21 (XS Qa Qa (Qj Qa Qa h21 (Qd Qa Qa (Zz 79 Qa (fun h22=> ?_) (fun h22=> ?_)))))))
  ·have hq2:(WA E).2=false:= by simpa using h22
   refine Qf Qa Qa h22 Qa (Qf Qa Qa h22 Qa (Qf Qa Qa h22 Qa (Qj Qa Qa h21 (Qx Qa h22 Qa Qa (Qx Qa h21 Qa Qa (Qc Qa Qa (Qh (Qe (Qk [4] Qa (Qo (Q7 (.inr Qa) Qa Qa ?_)))))))))))
   exact⟨_,rfl, by rw[Gr hok hst hall (by omega)];first | (rw[hq1,hq2];rfl) | (rw[hq1];rfl),hS20.pick [2,5] Qa⟩
  have hq2:(WA E).2=true:= by simpa using h22
  refine Qj Qa Qa h22 (Zg Qa JF Wc (by first | exact hS20.blk 0 Qa | exact hS20.blk 4 Qa) (Xe Qa) Qa Qa ?_)
  refine Qj Qa Qa h22 (Zg Qa JF Wc (by first | exact hS20.blk 0 Qa | exact hS20.blk 4 Qa) (Xe Qa) Qa Qa ?_)
  refine Qj Qa Qa h22 (Q4 qae Qa (Pv (hS20.sp [] Qa) (Ent.starL (VJ (C:=shC) (l:=(WA E).1.sheets) (NW hw)) 1 Qa) (hL.starL 5 Qa)) Qa ?_)
  rintro _ w23 ⟨rfl,hS23⟩
  replace hS23:=hS23.jn Qa Qa
  refine Qj Qa Qa h21 (Qz Qa h22 Qa Qa (Qx Qa h21 Qa Qa (Qc Qa Qa (Qh (Qe (Qk [4] Qa (Qo (Q7 (.inr Qa) Qa Qa ?_))))))))
  exact⟨_,rfl, by rw[Gr hok hst hall (by omega)];(rw[hq1,hq2];rfl),hS23.pick [2,5] Qa⟩
 have hq1:((WA E).2==decide (((QP E).length:Int)=0))=false:= by simpa using h21
 refine Qf Qa Qa h21 Qa (Qf Qa Qa h21 Qa (Qf Qa Qa h21 Qa (Q5 Qa Qa Qa (Q5 Qa Qa Qa (Q5 Qa Qa Qa (Qf Qa Qa h21 Qa (Qz Qa h21 Qa Qa (Qc Qa Qa (Qh (Qe (Qk [4] Qa (Qo (Q7 (.inr Qa) Qa Qa ?_)))))))))))))
 exact⟨_,rfl, by rw[Gr hok hst hall (by omega)];first | (rw[hq1,hq2];rfl) | (rw[hq1];rfl),hS20.pick [2,5] Qa⟩
def Vr (s:SeD) (id v:Int) (d:Bs):Prop:=v≤s.count∧ ∀p,QN s.pages id=some p→p.ver=v→p.data=d
def Rs (l:Bs) (a:Int):Bs:=(l.drop (200*a).toNat).take 200
def Nm (s:SeD):Prop:= ∀id p,QN s.pages id=some p→p.miss=false
structure OwS (s:SeD) (g:SsD) (c:Int):Prop where
  st:s.state=g.state
  sl:s.state.length≤900
  srt:Srt s.pages
  gs:Srt g.sheets
  ids: ∀id,QN s.pages id=none↔QN g.sheets id=none
  dat: ∀id p,QN s.pages id=some p→p.miss=false→QN g.sheets id=some p.data
  cnt:0≤s.count∧s.count≤c
  pg: ∀id p,QN s.pages id=some p→0<id∧id≤1099511627776∧1≤p.ver∧p.ver≤s.count
structure MsJ (P:EnD) (s:SeD) (m:MsD):Prop where
  pk:m.kind=0→m.move=P.move→Vr s m.a m.b m.data
  pt:m.kind=1→m.move=P.move→P.frozen=true∧m.b=Xa (Xf s)∧m.data=Rs (Xf s) m.a
  no7:m.kind=7→m.move≠P.move
structure MsP (P J:EnD) (m:MsD):Prop where
  no8:m.kind=8→m.move≠P.move
  rd:m.kind=2∨m.kind=3→m.move=P.move→J.kind=2∧J.move=P.move
structure OfG (P:EnD) (s:SeD) (o:OfD):Prop where
  pg: ∀id q,QN o.pages id=some q→Vr s id q.ver q.data
  pt:o.parts≠[]→P.frozen=true∧o.many=Xa (Xf s)
  pc: ∀a d,QN o.parts a=some d→d=Rs (Xf s) a
structure SRC (P J:EnD) (s:SeD) (MP MJ:MsD→Prop):Prop where
  mj: ∀m,MJ m→MsJ P s m
  mp: ∀m,MP m→MsP P J m
  of: ∀o,J.off=some o→o.move=P.move→OfG P s o
  rd:J.kind=2→J.move=P.move→P.frozen=true∧ ∃o,J.off=some o∧o.move=P.move∧o.list=Xf s
structure FET (P J:EnD) (s:SeD) (g:SsD) (MP MJ:MsD→Prop):Prop where
  kj:J.kind=3
  mv:J.move=P.move
  ac:P.active=false
  ses: ∃u,J.ses=some u∧ ∀id p,QN s.pages id=some p→p.miss=true→ ∃q,QN u.pages id=some q∧q.miss=false∧q.ver=p.ver∧QN g.sheets id=some q.data
  pk: ∀m,MP m→m.kind=0→m.move=P.move→ ∀p,QN s.pages m.a=some p→p.miss=true→p.ver=m.b→QN g.sheets m.a=some m.data
  no8: ∀m,MJ m→m.kind=8→m.move≠P.move
  no7: ∀m,MP m→m.kind=7→m.move≠P.move
def OW (P J:EnD) (g:SsD) (c:Int) (MP MJ:MsD→Prop):Prop:=P.kind=1∧ ∃s,P.ses=some s∧OwS s g c∧(Nm s∨FET P J s g MP MJ)∧(P.active=true→SRC P J s MP MJ)
def TRn (P J:EnD) (g:SsD) (c:Int) (MP MJ:MsD→Prop):Prop:=P.kind=3∧J.kind=2∧J.move=P.move∧ ∃s,P.ses=some s∧OwS s g c∧Nm s∧SRC P J s MP MJ
structure KI (P J:EnD) (g:SsD) (c:Int) (MP MJ:MsD→Prop):Prop where
  q:QE P
  r:QE J
  op: ∀o,P.off=some o→o.move≤P.move
  oj: ∀o,J.off=some o→o.move≤P.move
  ki:OW P J g c MP MJ∨TRn P J g c MP MJ
structure FX (P J:EnD) (MP MJ:MsD→Prop):Prop where
  leg:P.kind=1→J.kind≠1∧J.move≤P.move
  np: ∀m,MP m→m.move≤J.move
  nj: ∀m,MJ m→m.move≤P.move
  no: ∀m,MJ m→m.kind=5→m.move<P.move∨(P.kind=1∧m.move=P.move)
  noa: ∀m,MJ m→m.kind=5→m.move=P.move→P.kind=1→P.active=false
  gv: ∀m,MJ m→m.kind=4→(P.kind=3∧P.move=m.move)∨m.move<J.move∨(J.kind=1∧J.move=m.move)
structure Sm (l m:AL PgD):Prop where
  none: ∀id,QN m id=none↔QN l id=none
  some: ∀id q,QN m id=some q→ ∃p,QN l id=some p∧q.ver=p.ver∧q.data=p.data∧q.miss=p.miss
section
variable {P J P' J':EnD} {s s':SeD} {g g':SsD} {c c':Int} {MP MJ MP' MJ':MsD→Prop} {m:MsD} {o:OfD} {id:Int} {d:Bs} {l:AL PgD}
theorem SimP.sm: ∀{l m:AL PgD},SimP l m→Sm l m
  | [],[],_=>⟨fun _=>Iff.rfl, fun id q h=> by cases h⟩
  | e::l,f::m,h=> by
    have ih:=SimP.sm h.2
    obtain⟨h1,h2,h3,h4,_⟩:=h.1
    refine⟨fun id=> ?_, fun id q hq=> ?_⟩
    · rw[XE,XE,h1]
      by_cases k:e.1=id
      · rw[if_pos k,if_pos k]; simp
      · rw[if_neg k,if_neg k]; exact ih.none id
    · rw[XE,h1]at hq
      rw[XE]
      by_cases k:e.1=id
      · rw[if_pos k]at hq⊢; cases hq; exact⟨_,rfl,h2,h3,h4⟩
      · rw[if_neg k]at hq⊢; exact ih.some id q hq
theorem sm_map {f:Int×PgD→PgD} (hf: ∀e,(f e).ver=e.2.ver∧(f e).data=e.2.data∧(f e).miss=e.2.miss):Sm l (l.map fun e=>(e.1,f e)):= by
  refine⟨fun id=> ?_, fun id q hq=> ?_⟩
  · rw[Hl]; cases QN l id<;> simp
  · rw[Hl]at hq
    cases k:QN l id with
    | none=> rw[k]at hq; cases hq
    | some p=> rw[k]at hq; cases hq; exact⟨p,rfl,hf (id,p)⟩
theorem Nm.of_miss (hs:Srt s.pages):Wd s.pages=[]↔Nm s:= by
  unfold Wd Nm
  rw[List.map_eq_nil_iff,List.filter_eq_nil_iff]
  constructor
  · intro h id p hp
    have :=h (id,p) (JC hp)
    simpa using this
  · intro h e he
    rw[h e.1 e.2 (Hk hs he)]; simp
theorem Nm.sm (h:Nm s) (hm:Sm s.pages l):Nm {s with pages:=l}:= fun id q hq=> by
  obtain⟨p,hp,_,_,h4⟩:=hm.some id q hq
  rw[h4]; exact h id p hp
theorem Vr.sm {v:Int} (h:Vr s id v d) (hm:Sm s.pages l):Vr {s with pages:=l} id v d:=⟨h.1, fun q hq hv=> by
  obtain⟨p,hp,h2,h3,_⟩:=hm.some id q hq
  rw[h3]; exact h.2 p hp (by rw[←h2]; exact hv)⟩
theorem OwS.sm (h:OwS s g c) (hs:Srt l) (hm:Sm s.pages l):OwS {s with pages:=l} g c:= by
  refine⟨h.st,h.sl,hs,h.gs, fun id=>(hm.none id).trans (h.ids id), fun id q hq hd=> ?_,h.cnt, fun id q hq=> ?_⟩
  · obtain⟨p,hp,_,h3,h4⟩:=hm.some id q hq
    rw[h3]; exact h.dat id p hp (by rw[←h4]; exact hd)
  · obtain⟨p,hp,h2,_⟩:=hm.some id q hq
    rw[h2]; exact h.pg id p hp
theorem OwS.wide (h:OwS s g c) (hc:c≤c'):OwS s g c':=⟨h.st,h.sl,h.srt,h.gs,h.ids,h.dat,⟨h.cnt.1,Int.le_trans h.cnt.2 hc⟩,h.pg⟩
theorem OwS.state (h:OwS s g c) {x:Bs} (hx:x.length≤900):OwS {s with state:=x} {g with state:=x} c:=⟨rfl,hx,h.srt,h.gs,h.ids,h.dat,h.cnt,h.pg⟩
theorem OwS.put (h:OwS s g c) (hi:1≤id∧id≤1099511627776) (hc:c<4611686018427387904) {x:Int}:OwS {s with count:=GP s.count,pages:=X6 id ⟨d,GP s.count,x,false⟩ s.pages} {g with sheets:=X6 id d g.sheets} (c+1):= by
  have hw:GP s.count=s.count+1:=Ob (by have :=h.cnt.2;omega)
  rw[hw]
  refine⟨h.st,h.sl,h.srt.put,h.gs.put, fun j=> ?_, fun j p hp hm=> ?_,⟨by have :=h.cnt.1; show 0≤s.count+1;omega, by have :=h.cnt.2; show s.count+1≤c+1;omega⟩, fun j p hp=> ?_⟩
  · rw[ZR h.srt,ZR h.gs]
    by_cases k:j=id
    · rw[if_pos k,if_pos k]; simp
    · rw[if_neg k,if_neg k]; exact h.ids j
  · rw[ZR h.srt]at hp
    rw[ZR h.gs]
    by_cases k:j=id
    · rw[if_pos k]at hp⊢; cases hp;rfl
    · rw[if_neg k]at hp⊢; exact h.dat j p hp hm
  · rw[ZR h.srt]at hp
    have hc0:=h.cnt.1
    by_cases k:j=id
    · rw[if_pos k]at hp; cases hp; subst k; exact⟨by omega,hi.2,(by show 1≤s.count+1;omega),Int.le_refl _⟩
    · rw[if_neg k]at hp
      obtain⟨a1,a2,a3,a4⟩:=h.pg j p hp
      exact⟨a1,a2,a3, by show p.ver≤s.count+1;omega⟩
theorem OwS.del (h:OwS s g c):OwS {s with pages:=Yt s.pages id} {g with sheets:=Yt g.sheets id} c:= by
  refine⟨h.st,h.sl,h.srt.del,h.gs.del, fun j=> ?_, fun j p hp hm=> ?_,h.cnt, fun j p hp=> ?_⟩
  · rw[Y7,Y7]
    by_cases k:j=id
    · rw[if_pos k,if_pos k]; simp
    · rw[if_neg k,if_neg k]; exact h.ids j
  · rw[Y7]at hp
    rw[Y7]
    by_cases k:j=id
    · rw[if_pos k]at hp; cases hp
    · rw[if_neg k]at hp⊢; exact h.dat j p hp hm
  · rw[Y7]at hp
    by_cases k:j=id
    · rw[if_pos k]at hp; cases hp
    · rw[if_neg k]at hp; exact h.pg j p hp
theorem OwS.fill (h:OwS s g c) {p:PgD} (hp:QN s.pages id=some p) (hd:QN g.sheets id=some d):OwS {s with pages:=X6 id {p with miss:=false,data:=d} s.pages} g c:= by
  refine⟨h.st,h.sl,h.srt.put,h.gs, fun j=> ?_, fun j q hq hm=> ?_,h.cnt, fun j q hq=> ?_⟩
  · rw[ZR h.srt]
    by_cases k:j=id
    · rw[if_pos k]; subst k; rw[hd]; simp
    · rw[if_neg k]; exact h.ids j
  · rw[ZR h.srt]at hq
    by_cases k:j=id
    · rw[if_pos k]at hq; cases hq; subst k; exact hd
    · rw[if_neg k]at hq; exact h.dat j q hq hm
  · rw[ZR h.srt]at hq
    by_cases k:j=id
    · rw[if_pos k]at hq; cases hq; subst k; exact h.pg j p hp
    · rw[if_neg k]at hq; exact h.pg j q hq
theorem Vr.put {v x:Int} (h:Vr s id v d) (h0: ∀j p,QN s.pages j=some p→p.ver≤s.count) (hs:Srt s.pages) (hc:s.count<9223372036854775807) {j:Int} {e:Bs}:Vr {s with count:=GP s.count,pages:=X6 j ⟨e,GP s.count,x,false⟩ s.pages} id v d:= by
  rw[Ob hc]
  refine⟨by have :=h.1; show v≤s.count+1;omega, fun p hp hv=> ?_⟩
  rw[ZR hs]at hp
  by_cases k:id=j
  · rw[if_pos k]at hp; cases hp
    have :=h.1
    have hv:s.count+1=v:=hv
    omega
  · rw[if_neg k]at hp; exact h.2 p hp hv
theorem Vr.del {v:Int} (h:Vr s id v d) {j:Int}:Vr {s with pages:=Yt s.pages j} id v d:= by
  refine⟨h.1, fun p hp hv=> ?_⟩
  rw[Y7]at hp
  by_cases k:id=j
  · rw[if_pos k]at hp; cases hp
  · rw[if_neg k]at hp; exact h.2 p hp hv
theorem Nm.put (h:Nm s) (hs:Srt s.pages) {n x y:Int} {e:Bs}:Nm {s with count:=n,pages:=X6 id ⟨e,x,y,false⟩ s.pages}:= fun j p hp=> by
  rw[ZR hs]at hp
  by_cases k:j=id
  · rw[if_pos k]at hp; cases hp;rfl
  · rw[if_neg k]at hp; exact h j p hp
theorem Nm.del (h:Nm s):Nm {s with pages:=Yt s.pages id}:= fun j p hp=> by
  rw[Y7]at hp
  by_cases k:j=id
  · rw[if_pos k]at hp; cases hp
  · rw[if_neg k]at hp; exact h j p hp
theorem MsJ.same (h:MsJ P s m) (h1:P'.move=P.move) (h2:P.frozen=true→P'.frozen=true):MsJ P' s m:=⟨fun a b=>h.pk a (by rw[←h1]; exact b), fun a b=>let q:=h.pt a (by rw[←h1]; exact b);⟨h2 q.1,q.2⟩, fun a=> by rw[h1]; exact h.no7 a⟩
theorem MsP.same (h:MsP P J m) (h1:P'.move=P.move) (h2:J'.kind=J.kind) (h3:J'.move=J.move):MsP P' J' m:=⟨fun a=> by rw[h1]; exact h.no8 a, fun a b=> by rw[h2,h3,h1]; exact h.rd a (by rw[←h1]; exact b)⟩
theorem OfG.same (h:OfG P s o) (h2:P.frozen=true→P'.frozen=true):OfG P' s o:=⟨h.pg, fun a=>⟨h2 (h.pt a).1,(h.pt a).2⟩,h.pc⟩
theorem SRC.same (h:SRC P J s MP MJ) (h1:P'.move=P.move) (h2:P.frozen=true→P'.frozen=true) (h3:J'.kind=J.kind) (h4:J'.move=J.move) (h5:J'.off=J.off) (hp: ∀m,MP' m→MP m∨MsP P J m) (hj: ∀m,MJ' m→MJ m∨MsJ P s m):SRC P' J' s MP' MJ':= by
  refine⟨fun m hm=>((hj m hm).elim (h.mj m) id).same h1 h2, fun m hm=>((hp m hm).elim (h.mp m) id).same h1 h3 h4, fun o ho hm=>(h.of o (by rw[←h5]; exact ho) (by rw[←h1]; exact hm)).same h2, fun a b=> ?_⟩
  obtain⟨q1,o,q2,q3,q4⟩:=h.rd (by rw[←h3]; exact a) (by rw[←h4,b,h1])
  exact⟨h2 q1,o, by rw[h5]; exact q2, by rw[h1]; exact q3,q4⟩
theorem FET.same (h:FET P J s g MP MJ) (h1:P'.move=P.move) (h2:P'.active=false) (h3:J'.kind=J.kind) (h4:J'.move=J.move) (h5:J'.ses=J.ses) (hp: ∀m,MP' m→MP m∨(m.kind≠0∧m.kind≠7)) (hj: ∀m,MJ' m→MJ m∨m.kind≠8):FET P' J' s g MP' MJ':=
  ⟨by rw[h3]; exact h.kj, by rw[h4,h1]; exact h.mv,h2, by rw[h5]; exact h.ses, fun m hm a b=>(hp m hm).elim (fun q=>h.pk m q a (by rw[←h1]; exact b)) fun q=>absurd a q.1, fun m hm a=>(hj m hm).elim (fun q=> by rw[h1]; exact h.no8 m q a) fun q=>absurd a q, fun m hm a=>(hp m hm).elim (fun q=> by rw[h1]; exact h.no7 m q a) fun q=>absurd a q.2⟩
theorem KI.less (h:KI P J g c MP MJ) (hc:c≤c') (hp: ∀m,MP' m→MP m) (hj: ∀m,MJ' m→MJ m):KI P J g c' MP' MJ':= by
  refine⟨h.q,h.r,h.op,h.oj,h.ki.imp ?_ ?_⟩
  · rintro⟨h1,s,h2,h3,h4,h5⟩
    exact⟨h1,s,h2,h3.wide hc,h4.imp id fun f=>f.same Qa f.ac Qa Qa Qa (fun m q=> .inl (hp m q)) fun m q=> .inl (hj m q), fun a=>(h5 a).same Qa id Qa Qa Qa (fun m q=> .inl (hp m q)) fun m q=> .inl (hj m q)⟩
  · rintro⟨h1,h2,h3,s,h4,h5,h6,h7⟩
    exact⟨h1,h2,h3,s,h4,h5.wide hc,h6,h7.same Qa id Qa Qa Qa (fun m q=> .inl (hp m q)) fun m q=> .inl (hj m q)⟩
end
def Ad (M:MsD→Prop) (out:List Bs):MsD→Prop:= fun m=>M m∨ ∃b∈out,m=QU b
section
variable {P J P' J' E:EnD} {s s':SeD} {g g':SsD} {c c':Int} {MP MJ MP' MJ' M:MsD→Prop} {m x:MsD} {o:OfD} {id:Int} {d:Bs} {l:AL PgD}
theorem FV (h:Ad M [] x):M x:= by
  rcases h with h | ⟨b,hb,_⟩
  · exact h
  · cases hb
theorem YN {b:Bs} (h:Ad M [b] x):M x∨x=QU b:= by
  rcases h with h | ⟨e,he,hx⟩
  · exact .inl h
  · rw[List.mem_singleton.1 he]at hx; exact .inr hx
theorem YG (h:QE E) {k a b:Int} (hk:0≤k∧k≤9) (ha:Xy a) (hb:Xy b) (hd:d.length≤100000000000):QU (Ze E k a b d)=⟨k,E.move,a,b,d⟩:=ML (BO hk) h.rg.2.2.2 ha hb hd
theorem KI.stayP (h:KI P J g c MP MJ):KI P J g c MP (Ad MJ []):=h.less (Int.le_refl _) (fun _ q=>q) fun _ q=>FV q
theorem KI.stayJ (h:KI P J g c MP MJ):KI P J g c (Ad MP []) MJ:=h.less (Int.le_refl _) (fun _ q=>FV q) fun _ q=>q
theorem jo_no (h:E.kind=1∨m.move≤E.move):Zr E m.move=none:= by unfold Zr; rw[if_pos h]
theorem CL (h:Zr E m.move=some o):E.kind≠1∧E.move<m.move∧o.move=m.move∧(E.off=some o∨(o.parts=[]∧o.pages=[])):= by
  unfold Zr at h
  split at h
  · cases h
  · rename_i q
    have q1:E.kind≠1:= fun r=>q (.inl r)
    have q2:E.move<m.move:= by
      rcases(by omega:E.move<m.move∨m.move≤E.move)with r | r
      · exact r
      · exact absurd (.inr r) q
    cases k:E.off with
    | none=> rw[k]at h; cases h; exact⟨q1,q2,rfl,.inr ⟨rfl,rfl⟩⟩
    | some o1=>
      rw[k]at h
      dsimp only at h
      split at h
      · cases h
      split at h
      · cases h; exact⟨q1,q2,rfl,.inr ⟨rfl,rfl⟩⟩
      · cases h; exact⟨q1,q2, by omega,.inl Qa⟩
theorem BP (h:Zr E m.move=none):Xo E m=(E,[]):= by
  unfold Xo
  rw[h]
  split<;>rfl
theorem BQ (hk:E.kind≠1) (h:Zr E m.move=none):Xp E m=E:= by
  unfold Xp
  rw[if_pos hk,h]
theorem Bk (h0:m.kind≠0) (h1:m.kind≠1) (h7:m.kind≠7):MsJ P s m:=⟨fun q=>absurd q h0, fun q=>absurd q h1, fun q=>absurd q h7⟩
theorem Vw (h2:m.kind≠2) (h3:m.kind≠3) (h8:m.kind≠8):MsP P J m:=⟨fun q=>absurd q h8, fun q=>q.elim (fun a=>absurd a h2) fun a=>absurd a h3⟩
theorem KI.sayP (h:KI P J g c MP MJ) {b:Bs} (h0:(QU b).kind≠0) (h1:(QU b).kind≠1) (h7:(QU b).kind≠7) (h8:(QU b).kind≠8):KI P J g c MP (Ad MJ [b]):= by
  refine⟨h.q,h.r,h.op,h.oj,h.ki.imp ?_ ?_⟩
  · rintro⟨a1,s,a2,a3,a4,a5⟩
    refine⟨a1,s,a2,a3,a4.imp id fun f=>f.same Qa f.ac Qa Qa Qa (fun _ q=> .inl q) fun x q=>(YN q).imp id fun e=> by rw[e]; exact h8, fun a=>(a5 a).same Qa id Qa Qa Qa (fun _ q=> .inl q) fun x q=>(YN q).imp id fun e=> by rw[e]; exact Bk h0 h1 h7⟩
  · rintro⟨a1,a2,a3,s,a4,a5,a6,a7⟩
    exact⟨a1,a2,a3,s,a4,a5,a6,a7.same Qa id Qa Qa Qa (fun _ q=> .inl q) fun x q=>(YN q).imp id fun e=> by rw[e]; exact Bk h0 h1 h7⟩
theorem KI.sayJ (h:KI P J g c MP MJ) {b:Bs} (h0:(QU b).kind≠0) (h2:(QU b).kind≠2) (h3:(QU b).kind≠3) (h7:(QU b).kind≠7) (h8:(QU b).kind≠8):KI P J g c (Ad MP [b]) MJ:= by
  refine⟨h.q,h.r,h.op,h.oj,h.ki.imp ?_ ?_⟩
  · rintro⟨a1,s,a2,a3,a4,a5⟩
    refine⟨a1,s,a2,a3,a4.imp id fun f=>f.same Qa f.ac Qa Qa Qa (fun x q=>(YN q).imp id fun e=> by rw[e]; exact⟨h0,h7⟩) (fun _ q=> .inl q), fun a=>(a5 a).same Qa id Qa Qa Qa (fun x q=>(YN q).imp id fun e=> by rw[e]; exact Vw h2 h3 h8) fun _ q=> .inl q⟩
  · rintro⟨a1,a2,a3,s,a4,a5,a6,a7⟩
    exact⟨a1,a2,a3,s,a4,a5,a6,a7.same Qa id Qa Qa Qa (fun x q=>(YN q).imp id fun e=> by rw[e]; exact Vw h2 h3 h8) fun _ q=> .inl q⟩
theorem KI.pPage (h:KI P J g c MP MJ) (f:FX P J MP MJ) (hm:MP m) (h0:m.kind=0):KI (Xp P m) J g c MP (Ad MJ []):= by
  refine KI.stayP ?_
  rcases h.ki with⟨a1,s,a2,a3,a4,a5⟩ | ⟨a1,a2,a3,_⟩
  · unfold Xp
    rw[if_neg (fun q=>q a1),a2]
    dsimp only
    split
    · exact h
    rename_i hq
    cases hp:QN s.pages m.a with
    | none=> exact h
    | some p=>
      dsimp only
      split
      · rename_i hpm
        rcases a4 with a4 | a4
        · exact absurd (a4 _ _ hp) (by rw[hpm.1];decide)
        · have hmv:m.move=P.move:=Decidable.byContradiction fun r=>hq (.inl r)
          have hd:=a4.pk m hm h0 hmv p hp hpm.1 hpm.2
          refine⟨h.q.same Qa Qa Qa Qa (.inl Qa),h.r,h.op,h.oj,.inl ⟨a1,_,rfl,a3.fill hp hd, ?_, fun a=>absurd a (by show ¬P.active=true; rw[a4.ac];decide)⟩⟩
          refine .inr ⟨a4.kj,a4.mv,a4.ac, ?_, fun x hx e1 e2 p' hp' e3 e4=> ?_,a4.no8,a4.no7⟩
          · obtain⟨u,u1,u2⟩:=a4.ses
            refine⟨u,u1, fun id p' hp' hms=> ?_⟩
            rw[ZR a3.srt]at hp'
            by_cases k:id=m.a
            · rw[if_pos k]at hp'; cases hp'; cases hms
            · rw[if_neg k]at hp'; exact u2 id p' hp' hms
          · rw[ZR a3.srt]at hp'
            by_cases k:x.a=m.a
            · rw[if_pos k]at hp'; cases hp'; cases e3
            · rw[if_neg k]at hp'; exact a4.pk x hx e1 e2 p' hp' e3 e4
      · exact h
  · rw[BQ (by omega) (jo_no (.inr (by have :=f.np m hm;omega)))]; exact h
theorem KI.pPart (h:KI P J g c MP MJ) (f:FX P J MP MJ) (hm:MP m):KI (Xo P m).1 J g c MP (Ad MJ (Xo P m).2):= by
  have :Zr P m.move=none:=jo_no (by
    rcases h.ki with⟨a1,_⟩ | ⟨a1,a2,a3,_⟩
    · exact .inl a1
    · exact .inr (by have :=f.np m hm;omega))
  rw[BP this]; exact h.stayP
theorem KI.pTarget (h:KI P J g c MP MJ) (hm:MP m) (hk:m.kind=2∨m.kind=3) (hn:0≤m.move∧Xy m.move):KI (Xh P m).1 J g c MP (Ad MJ (Xh P m).2):= by
  have hno:QU (Zy ⟨5,m.move,0,0,[]⟩)=⟨5,m.move,0,0,[]⟩:=ML (show Xy (5:Int) from BO (by decide)) hn.2 XF XF (by simp)
  have hno5:KI P J g c MP (Ad MJ [Zy ⟨5,m.move,0,0,[]⟩]):=h.sayP (by rw[hno]; simp) (by rw[hno]; simp) (by rw[hno]; simp) (by rw[hno]; simp)
  unfold Xh
  rcases h.ki with⟨a1,s,a2,a3,a4,a5⟩ | ⟨a1,a2,a3,s,a4,a5,a6,a7⟩
  · rw[if_neg (by rintro⟨q,_⟩;omega),if_neg (fun q=>q a1)]
    split
    · rename_i hc
      obtain⟨c1,c2,c3,c4⟩:=hc
      obtain⟨n1,D,C,n2,n3⟩:=h.q.note (k:=3) (m:=P.move) (by decide) ⟨h.q.rg.2.2.1,h.q.rg.2.2.2⟩
      rw[if_neg (by rw[n1];decide),n2]
      dsimp only
      have hs:=a5 c3
      obtain⟨j1,j2⟩:=(hs.mp m hm).rd hk c2
      have hnm:Nm s:=a4.resolve_right fun q=> by have :=q.ac; rw[c3]at this; cases this
      have hg:QU (Ze {P with D:=D,cell:=some C,kind:=3,move:=P.move} 4 0 0 [])=⟨4,P.move,0,0,[]⟩:=YG n3 ⟨by decide, by decide⟩ XF XF (by simp)
      exact⟨(n3.act false),h.r,h.op,h.oj,.inr ⟨rfl,j1,j2,s,a2,a3,hnm,hs.same Qa id Qa Qa Qa (fun _ q=> .inl q) fun x q=>(YN q).imp id fun e=> by rw[e,hg]; exact Bk (by simp) (by simp) (by simp)⟩⟩
    · split
      · rename_i hc
        obtain⟨c1,c2,c3⟩:=hc
        have hnm:Nm s:=a4.resolve_right fun q=> by have :=q.ac; rw[c3]at this; cases this
        exact⟨h.q.same Qa Qa Qa Qa (.inr Qa),h.r,h.op,h.oj,.inl ⟨a1,s,a2,a3,.inl hnm, fun q=> by cases q⟩⟩
      · exact hno5
  · split
    · have hg:QU (Ze P 4 0 0 [])=⟨4,P.move,0,0,[]⟩:=YG h.q ⟨by decide, by decide⟩ XF XF (by simp)
      exact h.sayP (by rw[hg]; simp) (by rw[hg]; simp) (by rw[hg]; simp) (by rw[hg]; simp)
    · rw[if_pos (by omega)]; exact h.stayP
theorem KI.pWant (h:KI P J g c MP MJ) (w:EW P):KI P J g c MP (Ad MJ (Zv P m)):= by
  unfold Zv
  split
  · exact h.stayP
  rename_i hq
  rcases h.ki with⟨a1,_⟩ | ⟨a1,a2,a3,s,a4,a5,a6,a7⟩
  · exact absurd (.inl (by omega)) hq
  rw[a4]
  dsimp only
  cases hp:QN s.pages m.a with
  | none=> exact h.stayP
  | some p=>
    dsimp only
    obtain⟨k1,k2,k3,k4⟩:=(w.ses s a4).pg _ (JC hp)
    have hg:QU (Ze P 0 m.a p.ver p.data)=⟨0,P.move,m.a,p.ver,p.data⟩:=YG h.q ⟨by decide, by decide⟩ k1 k2 (by have :p.data.length≤64:=k4;omega)
    refine⟨h.q,h.r,h.op,h.oj,.inr ⟨a1,a2,a3,s,a4,a5,a6,a7.same Qa id Qa Qa Qa (fun _ q=> .inl q) fun x q=>(YN q).imp id fun e=> ?_⟩⟩
    rw[e,hg]
    exact⟨fun _ _=>⟨(a5.pg _ _ hp).2.2.2, fun p' hp' _=> by rw[hp]at hp'; cases hp';rfl⟩, fun q=>absurd q (by simp), fun q=>absurd q (by simp)⟩
theorem KI.hearP (h:KI P J g c MP MJ) (f:FX P J MP MJ) (w:EW P) (hm:MP m) (hn:0≤m.move∧Xy m.move) (hk:0≤m.kind∧m.kind≤9):KI (X8 P m).1 J g c MP (Ad MJ (X8 P m).2):= by
  have hk2:P.kind≠2:= by rcases h.ki with⟨a1,_⟩ | ⟨a1,_⟩<;>omega
  unfold X8
  split
  · exact h.pPage f hm (by assumption)
  split
  · exact h.pPart f hm
  split
  · exact h.pTarget hm (by assumption) hn
  split
  · show KI (XB P m) J g c MP _
    unfold XB; rw[if_pos (.inl hk2)]; exact h.stayP
  split
  · show KI (WF P m) J g c MP _
    unfold WF; rw[if_neg (fun q=>hk2 q.1)]; exact h.stayP
  split
  · exact h.pWant w
  split
  · rename_i h7
    show KI (ZL P m) J g c MP _
    refine KI.stayP ?_
    unfold ZL
    split
    · rename_i hc
      obtain⟨c1,c2,c3,c4⟩:=hc
      exfalso
      rcases h.ki with⟨a1,s,a2,a3,a4,a5⟩ | ⟨a1,_⟩
      · rcases a4 with a4 | a4
        · exact c4 (by unfold QP; rw[a2]; exact(Nm.of_miss a3.srt).2 a4)
        · exact a4.no7 m hm h7 c2
      · omega
    · exact h
  split
  · rename_i h8
    unfold Z6
    split
    · exact h.stayP
    · rename_i hc
      exfalso
      rcases h.ki with⟨a1,_⟩ | ⟨a1,a2,a3,s,a4,a5,a6,a7⟩
      · exact hc (.inl (by omega))
      · exact hc (.inr ((a7.mp m hm).no8 h8))
  · show KI (Jd P m) J g c MP _
    refine KI.stayP ?_
    unfold Jd
    split
    · refine⟨h.q.same Qa Qa Qa Qa (.inl Qa),h.r,h.op,h.oj,h.ki.imp ?_ ?_⟩
      · rintro⟨a1,s,a2,a3,a4,a5⟩
        exact⟨a1,s,a2,a3,a4.imp id fun q=>q.same Qa q.ac Qa Qa Qa (fun _ r=> .inl r) fun _ r=> .inl r, fun a=>(a5 a).same Qa id Qa Qa Qa (fun _ r=> .inl r) fun _ r=> .inl r⟩
      · rintro⟨a1,a2,a3,s,a4,a5,a6,a7⟩
        exact⟨a1,a2,a3,s,a4,a5,a6,a7.same Qa id Qa Qa Qa (fun _ r=> .inl r) fun _ r=> .inl r⟩
    · exact h
end
section
theorem M0: ∀{ks:List Int} {a n:Int},ks.Pairwise (· < ·)→(∀k∈ks,a≤k∧k<n)→a≤n→(ks.length:Int)≤n -a
  | [],a,n,_,_,h=> by simp;omega
  | k::ks,a,n,hp,hk,_=> by
    obtain⟨h1,h2⟩:=List.pairwise_cons.1 hp
    have h3:=hk k List.mem_cons_self
    have :=M0 h2 (a:=k+1) (n:=n) (fun j hj=>⟨by have :=h1 j hj;omega,(hk j (List.mem_cons_of_mem _ hj)).2⟩) (by omega)
    rw[List.length_cons];omega
theorem Py: ∀{ks:List Int} {a n:Int},ks.Pairwise (· < ·)→(∀k∈ks,a≤k∧k<n)→n -a≤(ks.length:Int)→ ∀i,a≤i→i<n→i∈ks
  | [],a,n,_,_,h=> fun i h1 h2=> by simp at h;omega
  | k::ks,a,n,hp,hk,hl=> fun i h1 h2=> by
    obtain⟨g1,g2⟩:=List.pairwise_cons.1 hp
    have h3:=hk k List.mem_cons_self
    have hk2: ∀j∈ks,k+1≤j∧j<n:= fun j hj=>⟨by have :=g1 j hj;omega,(hk j (List.mem_cons_of_mem _ hj)).2⟩
    have hb:=M0 g2 hk2 (by omega)
    rw[List.length_cons]at hl
    by_cases q:i=k
    · subst q; exact List.mem_cons_self
    · exact List.mem_cons_of_mem _ (Py g2 hk2 (by omega) i (by omega) h2)
theorem G6 {α:Type} {f h:Nat→List α}: ∀{l:List Nat},(∀i∈l,f i=h i)→l.flatMap f=l.flatMap h
  | [],_=>rfl
  | i::l,q=> by rw[List.flatMap_cons,List.flatMap_cons,q i List.mem_cons_self,G6 fun j hj=>q j (List.mem_cons_of_mem _ hj)]
theorem Pi (l:Bs): ∀n:Nat,((List.range n).flatMap fun (i:Nat)=>Rs l (i:Int))=l.take (200*n)
  | 0=> by simp
  | n+1=> by
    rw[List.range_succ,List.flatMap_append,Pi l n]
    have e:(200*(n:Int)).toNat=200*n:= by omega
    simp only[List.flatMap_cons,List.flatMap_nil,List.append_nil]
    unfold Rs
    rw[e,Nat.mul_succ,List.take_add]
theorem TJ {o:OfD} {l:Bs} (hs:Srt o.parts) (hk: ∀e∈o.parts,0≤e.1∧e.1<o.many) (hn:o.many=Xa l) (hl:o.many≤(o.parts.length:Int)) (hp: ∀a d,QN o.parts a=some d→d=Rs l a):ZC o=l:= by
  have h0:0≤o.many:= by rw[hn];unfold Xa;omega
  have e:ZC o=(List.range o.many.toNat).flatMap fun (i:Nat)=>Rs l (i:Int):= by
    unfold ZC
    refine G6 fun i hi=> ?_
    have hi:=List.mem_range.1 hi
    have hm:(i:Int)∈XY o.parts:=Py (a:=0) (n:=o.many) hs (fun k q=> by obtain⟨e,he,rfl⟩:=List.mem_map.1 q; exact hk e he) (by unfold XY; rw[List.length_map];omega) i (by omega) (by omega)
    obtain⟨d,hd⟩:=Jv.2 hm
    rw[hd,hp _ _ hd];rfl
  rw[e,Pi,hn,List.take_of_length_le]
  unfold Xa;omega
variable {P J P' J' E:EnD} {s s':SeD} {g g':SsD} {c c':Int} {MP MJ MP' MJ' M:MsD→Prop} {m x:MsD} {o:OfD} {id:Int} {d:Bs} {l:AL PgD}
theorem KI.jk (h:KI P J g c MP MJ) (f:FX P J MP MJ):J.kind≠1:= by
  rcases h.ki with⟨a1,_⟩ | ⟨_,a2,_⟩
  · exact(f.leg a1).1
  · omega
theorem SRC.jo (h:SRC P J s MP MJ) (hj:Zr J m.move=some o) (hm:m.move=P.move):OfG P s o:= by
  obtain⟨_,_,h3,h4⟩:=CL hj
  rcases h4 with h4 | ⟨h4,h5⟩
  · exact h.of o h4 (by rw[h3]; exact hm)
  · exact⟨fun id q hq=>(by rw[h5]at hq; cases hq), fun q=>absurd h4 q, fun a d hd=>(by rw[h4]at hd; cases hd)⟩
theorem KI.jOff (h:KI P J g c MP MJ) (f:FX P J MP MJ) (hm:MJ m) (hlt:J.move<m.move) (ho:o.move=m.move) (hg: ∀s,SRC P J s MP MJ→m.move=P.move→OfG P s o):KI P {J with off:=some o} g c MP MJ:= by
  have hle:=f.nj m hm
  refine⟨h.q,h.r.same Qa Qa Qa Qa (.inl Qa),h.op, fun o' q=>(by cases q;omega), ?_⟩
  rcases h.ki with⟨a1,s,a2,a3,a4,a5⟩ | ⟨a1,a2,a3,_⟩
  · refine .inl ⟨a1,s,a2,a3,a4.imp id fun q=>absurd q.mv (by omega), fun a=>⟨(a5 a).mj, fun x hx=>((a5 a).mp x hx).same Qa Qa Qa, fun o' q hq=> ?_, fun _ q=> by have q:J.move=P.move:=q;omega⟩⟩
    cases q
    exact hg s (a5 a) (by omega)
  · omega
theorem OfG.page (h:OfG P s o) (hs:Srt o.pages) {a b:Int} (hv:Vr s a b d):OfG P s {o with pages:=X6 a ⟨d,b,0,false⟩ o.pages}:= by
  refine⟨fun id q hq=> ?_,h.pt,h.pc⟩
  rw[ZR hs]at hq
  by_cases k:id=a
  · rw[if_pos k]at hq; cases hq; rw[k]; exact hv
  · rw[if_neg k]at hq; exact h.pg id q hq
theorem KI.jPage (h:KI P J g c MP MJ) (f:FX P J MP MJ) (w:EW J) (hm:MJ m) (mw:MsW m) (h0:m.kind=0):KI P (Xp J m) g c (Ad MP []) MJ:= by
  refine KI.stayJ ?_
  cases hj:Zr J m.move with
  | none=> rw[BQ (h.jk f) hj]; exact h
  | some o=>
    obtain⟨w1,w2,w3,w4⟩:=VF w mw.mv hj
    unfold Xp
    rw[if_pos (h.jk f),hj]
    dsimp only
    refine h.jOff f hm w4 ?_ fun s hs hmv=> ?_
    · cases QN o.pages m.a with
      | none=> exact w2
      | some p=> dsimp only;split<;> exact w2
    · have hg:=hs.jo hj hmv
      have hp:=hg.page w1.gs ((hs.mj m hm).pk h0 hmv)
      cases QN o.pages m.a with
      | none=> exact hp
      | some p=>
        dsimp only
        split
        · exact hp
        · exact hg
theorem OfG.start (h:OfG P s o) {b:Int}:OfG P s (Xr o b):= by
  unfold Xr
  split
  · rename_i q; exact⟨h.pg, fun r=>absurd q r,h.pc⟩
  · exact h
theorem OfG.add (h:OfG P s o) (hs:Srt o.parts) (hf:P.frozen=true) (hn:o.many=Xa (Xf s)) (hd:m.data=Rs (Xf s) m.a):OfG P s (Ww o m):= by
  unfold Ww
  split
  · exact h
  · refine⟨h.pg, fun _=>⟨hf,hn⟩, fun a d hq=> ?_⟩
    rw[ZR hs]at hq
    by_cases k:a=m.a
    · rw[if_pos k]at hq; cases hq; rw[k]; exact hd
    · rw[if_neg k]at hq; exact h.pc a d hq
theorem KI.jPart (h:KI P J g c MP MJ) (f:FX P J MP MJ) (w:EW J) (hm:MJ m) (mw:MsW m) (h1:m.kind=1):KI P (Xo J m).1 g c (Ad MP (Xo J m).2) MJ:= by
  cases hj:Zr J m.move with
  | none=> rw[BP hj]; exact h.stayJ
  | some o=>
    obtain⟨w1,w2,w3,w4⟩:=VF w mw.mv hj
    unfold Xo
    rw[hj]
    split
    · exact h.stayJ
    rename_i hb
    have hb:1≤m.b∧m.b≤8000∧0≤m.a∧m.a<m.b:= by omega
    dsimp only
    have ws:=DW w1 (b:=m.b) ⟨hb.1,hb.2.1⟩
    split
    · exact(h.jOff f hm w4 (by rw[Vm]; exact w2) fun s hs hmv=>(hs.jo hj hmv).start).stayJ
    rename_i hmany
    have hmany:(Xr o m.b).many=m.b:=Decidable.not_not.1 hmany
    have wa:=FU ws mw ⟨hb.2.2.1, by rw[hmany]; exact hb.2.2.2⟩
    have hadd: ∀s,SRC P J s MP MJ→m.move=P.move→OfG P s (Ww (Xr o m.b) m):= fun s hs hmv=> by
      obtain⟨p1,p2,p3⟩:=(hs.mj m hm).pt h1 hmv
      exact(hs.jo hj hmv).start.add ws.ps p1 (by rw[hmany]; exact p2) p3
    have hmv2:(Ww (Xr o m.b) m).move=m.move:= by rw[DD,Vm]; exact w2
    split
    · exact(h.jOff f hm w4 hmv2 hadd).stayJ
    rename_i hfull
    split
    · exact(h.jOff f hm w4 hmv2 hadd).stayJ
    -- the list is whole: ready
    generalize ho2:Ww (Xr o m.b) m=o2 at *
    have hle:=f.nj m hm
    have hq0:QE {J with off:=some {o2 with list:=ZC o2}}:=h.r.same Qa Qa Qa Qa (.inl Qa)
    obtain⟨n1,D,C,n2,n3⟩:=hq0.note (k:=2) (m:=m.move) (by decide) (RI mw.mv)
    unfold Yx
    rw[if_neg (by rw[n1];decide),n2]
    dsimp only
    have hg:QU (Ze {J with D:=D,cell:=some C,kind:=2,move:=m.move,off:=some {o2 with list:=ZC o2}} 2 0 0 [])=⟨2,m.move,0,0,[]⟩:=YG n3 ⟨by decide, by decide⟩ XF XF (by simp)
    refine⟨h.q,n3.same Qa Qa Qa Qa (.inl Qa),h.op, fun o' q=>(by cases q; show o2.move≤P.move;omega), ?_⟩
    rcases h.ki with⟨a1,s,a2,a3,a4,a5⟩ | ⟨a1,a2,a3,_⟩
    · refine .inl ⟨a1,s,a2,a3,a4.imp id fun q=>absurd q.mv (by omega), fun a=> ?_⟩
      have hs:=a5 a
      refine⟨hs.mj, fun x hx=> ?_, fun o' q hq=> ?_, fun _ q=> ?_⟩
      · rcases YN hx with hx | hx
        · refine⟨(hs.mp x hx).no8, fun r1 r2=> ?_⟩
          have :=((hs.mp x hx).rd r1 r2).2
          omega
        · rw[hx,hg]
          exact⟨fun r=>absurd r (by simp), fun _ r=>⟨rfl,r⟩⟩
      · cases q
        have :=hadd s hs (by have hq:o2.move=P.move:=hq;omega)
        exact⟨this.pg,this.pt,this.pc⟩
      · have q:m.move=P.move:=q
        obtain⟨p1,p2,p3⟩:=(hs.mj m hm).pt h1 q
        have hgo:=hadd s hs q
        refine⟨p1,_,rfl,(by show o2.move=P.move;omega), ?_⟩
        have hma:o2.many=m.b:= by rw[←ho2,AQ]; exact hmany
        exact TJ wa.ps (fun e he=>⟨(wa.pl e he).1,(wa.pl e he).2.1⟩) (by rw[hma]; exact p2) (by omega) hgo.pc
    · omega
end
