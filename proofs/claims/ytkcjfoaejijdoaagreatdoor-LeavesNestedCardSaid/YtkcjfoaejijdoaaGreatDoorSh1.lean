/- swap -/
import Derived.Test.YtkcjfoaejijdoaaGreatDoorFw
set_option linter.unusedVariables false
set_option maxRecDepth 100000
namespace Go.Proofs.YtkcjfoaejijdoaaGreatDoor
open Go.RowKit M
def WF (sl:List Bs):Nat:=(sl.filter fun p=> !decide (p=[])).length
def GS (sl:List Bs) (slot:Int):Bool:=decide (0≤slot)&&(match sl[slot.toNat]? with | some p=> !decide (p=[]) | none=>false)
theorem HA (sl:List Bs):WF sl≤sl.length:=List.length_filter_le _ _
theorem G7: ∀{sl:List Bs} {k:Nat} {p:Bs},sl[k]? =some []→p≠[]→WF (sl.set k p)=WF sl+1
  | [],_,_,h,_=> by simp at h
  | a::sl,0,p,h,hp=> by
    simp at h; subst h
    unfold WF; simp [hp]
  | a::sl,k+1,p,h,hp=> by
    have :=G7 (sl:=sl) (k:=k) (by simpa using h) hp
    unfold WF at this⊢
    rw[List.set_cons_succ,List.filter_cons,List.filter_cons]
    split
    · rw[List.length_cons,List.length_cons,this]
    · exact this
theorem DA: ∀{sl:List Bs} {k:Nat} {p:Bs},sl[k]? =some p→p≠[]→WF (sl.set k [])+1=WF sl
  | [],_,_,h,_=> by simp at h
  | a::sl,0,p,h,hp=> by
    simp at h; subst h
    unfold WF; simp [hp]
  | a::sl,k+1,p,h,hp=> by
    have :=DA (sl:=sl) (k:=k) (by simpa using h) hp
    unfold WF at this⊢
    rw[List.set_cons_succ,List.filter_cons,List.filter_cons]
    split
    · rw[List.length_cons,List.length_cons,←this]
    · exact this
theorem D9 {sl:List Bs}:WF sl<sl.length↔[]∈sl:= by
  unfold WF
  induction sl with
  | nil=> simp
  | cons a sl ih=>
    have hle:=HA sl
    unfold WF at hle
    by_cases ha:a=[]
    · subst ha
      rw[List.filter_cons,if_neg (by simp),List.length_cons]
      exact⟨fun _=>List.mem_cons_self, fun _=> by omega⟩
    · rw[List.filter_cons,if_pos (by simp [ha]),List.length_cons,List.length_cons,List.mem_cons]
      constructor
      · intro h; exact .inr (ih.1 (by omega))
      · rintro(h | h)
        · exact absurd h.symm ha
        · have :=ih.2 h;omega
theorem Sx (m:Nat):WF (List.replicate m [])=0:= by unfold WF; simp
def Gx (p:Nat) (sl:List Bs):Th:=CI fun q:Value×Int×Int=>starL [WR (sl.length≤4096),QG p [q.1,intV (WF sl:Nat),intV q.2.1,intV q.2.2],rowT stC q.1 sl]
theorem HD {w:World} {p:Nat} {sl:List Bs} {As:List Th} (h:Sat w (Gx p sl::As)): ∃ao cap du re,sl.length≤4096∧Sat w (QG p [.slice ao sl.length cap,intV (WF sl:Nat),intV du,intV re]::rowT stC (.slice ao sl.length cap) sl::As):= by
  obtain⟨⟨v,du,re⟩,h⟩:=h.ex
  obtain⟨h1,h2⟩:=h.flat.pure_elim
  obtain⟨ao,cap,hv,_⟩:=Sat.own_shape (As:=QG p _::rowT stC v sl::As) h2 1 rfl
  obtain rfl:=hv
  exact⟨ao,cap,du,re,h1,h2⟩
theorem J4 {w:World} {p:Nat} {sl:List Bs} {As:List Th} {v:Value} {du re:Int} (hl:sl.length≤4096) (h:Sat w (QG p [v,intV (WF sl:Nat),intV du,intV re]::rowT stC v sl::As)):Sat w (Gx p sl::As):=
  Sat.ex_intro (v,du,re) (Sat.fold (As:=[WR (sl.length≤4096),QG p _,rowT stC v sl]) (Sat.pure_intro hl h))
theorem NA {w:World} {p:Nat} {sl:List Bs} {F:Th} (hS:Sat w [Gx p sl,F]):
    Calls Tryz.prog 144 #[ptrV p 0] w (Ret fun v w'=>v= .tuple #[]∧Sat w' [Gx p sl,F]):= by
 obtain⟨sa,sc,du,re,hsl,hS⟩:=HD hS
 refine Qo Tryz.func144 rfl Tryz.ntmps144 rfl ?_
 refine Qd ?_
 have hS1:=hS.drew
 refine QI [0,1,2,3,4,5,6,7,8,9,10,11] [11] Wq (by kernel_rfl) ?_
 refine QE rfl rfl rfl (Xj rfl rfl rfl (QS rfl rfl rfl P8 (Q8 rfl rfl rfl (Qm rfl QN (hS1.cell 0 rfl rfl)) (QE rfl rfl rfl (Xj rfl rfl rfl (QS rfl rfl rfl P9 (Q8 rfl rfl rfl (Qm rfl QN (hS1.cell 0 rfl rfl)) (QZ rfl rfl rfl (fun _=>(Dk rfl rfl rfl)) ?_))))))))
 refine Xj rfl rfl rfl (QS rfl rfl rfl P8 (Xi rfl rfl rfl rfl rfl rfl ?_))
 first | (refine QJ hS1 rfl rfl Um (by rfl) (i:=0) rfl (Xn rfl) ?_)
 intro w2 hS3; dsimp only[List.set]at hS3
 clear hS1
 refine Z0 (Xu (by kernel_rfl)) ?_
 refine VC.nil (Qc (Qh [0] rfl (Qa (Qb rfl rfl (Qj rfl rfl (Qg rfl P9 rfl ?_))))))
 first | (refine QJ hS3 rfl rfl Um (by rfl) (i:=0) rfl (Xn rfl) ?_)
 intro w4 hS5; dsimp only[List.set]at hS5
 clear hS3
 exact Qf (ZY (.inl rfl) rfl (⟨_,rfl,rfl,J4 hsl (hS5.pick [0,1,2] rfl)⟩))
theorem NC {w:World} {p:Nat} {sl:List Bs} {F:Th} (hS:Sat w [Gx p sl,F]) (slot:Int):
    Calls Tryz.prog 143 #[ptrV p 0,intV slot] w (Ret fun v w'=>v= .bool (GS sl slot)∧Sat w' [Gx p sl,F]):= by
 obtain⟨sa,sc,du,re,hsl,hS⟩:=HD hS
 refine Qo Tryz.func143 rfl Tryz.ntmps143 rfl ?_
 refine Qd (Qa (Qe rfl rfl (Qf (Qc (Qd (Qa (Qb rfl rfl (JQ rfl rfl rfl (Qb rfl rfl (QW 7 rfl (fun h1=> ?_) (fun h1=> ?_)))))))))))
 ·refine Qk rfl rfl (Xf h1) (Qb rfl rfl (Qk rfl rfl (Xf h1) (Qb rfl rfl (Qk rfl rfl (Xf h1) (Qj rfl rfl (Qk rfl rfl (Xf h1) (Qg rfl HO rfl (Qk rfl rfl (Xf h1) (Qp rfl Gu (hS.cell 0 rfl rfl) rfl (Qk rfl rfl (Xf h1) (XE Tryz.underlying61 rfl rfl (Qk rfl rfl (Xf h1) (Xg rfl rfl rfl (QC rfl (Xf h1) rfl rfl (Qb rfl rfl (QW 16 rfl (fun h2=> ?_) (fun h2=> ?_)))))))))))))))))
  ·obtain⟨pg,hp⟩: ∃p,sl[slot.toNat]? =some p:=⟨_,Zi (by omega)⟩
   refine Qk rfl rfl (Xf h2) (Qb rfl rfl (Qk rfl rfl (Xf h2) (Qj rfl rfl (Qk rfl rfl (Xf h2) (Qg rfl HO rfl (Qk rfl rfl (Xf h2) (Qp rfl Gu (hS.cell 0 rfl rfl) rfl (Qk rfl rfl (Xf h2) (Qb rfl rfl (Qk rfl rfl (Xf h2) (Xr stC 1 slot.toNat hS rfl rfl rfl (by omega) hp KK rfl ?_)))))))))))
   intro bx3 capx3 hvx3
   refine Qk rfl rfl (Xf h2) (Zx 1 slot.toNat 0 hS rfl hvx3 rfl rfl hp ZZ rfl rfl (Qk rfl rfl (Xf h2) (Rv rfl rfl rfl (QC rfl (Xf h2) rfl rfl (Qe rfl rfl (Qf (Qc (Qh [4] rfl (Qu (QP (.inr rfl) rfl rfl ?_))))))))))
   exact⟨_,rfl, by unfold GS; rw[hp,Xf (show 0≤slot by omega),Bool.true_and]; simp,J4 hsl (hS.pick [0,1,2] rfl)⟩
  refine Qi rfl rfl (Q6 h2) rfl (Qi rfl rfl (Q6 h2) rfl (Qi rfl rfl (Q6 h2) rfl (Qi rfl rfl (Q6 h2) rfl (Qi rfl rfl (Q6 h2) rfl (Qi rfl rfl (Q6 h2) rfl (Qi rfl rfl (Q6 h2) rfl (Qi rfl rfl (Q6 h2) rfl (QO rfl (Q6 h2) rfl rfl (Qe rfl rfl (Qf (Qc (Qh [4] rfl (Qu (QP (.inr rfl) rfl rfl ?_))))))))))))))
  exact⟨_,rfl, by unfold GS; rw[List.getElem?_eq_none (by omega),Bool.and_false],J4 hsl (hS.pick [0,1,2] rfl)⟩
 refine Qi rfl rfl (Q6 h1) rfl (Qi rfl rfl (Q6 h1) rfl (Qi rfl rfl (Q6 h1) rfl (Qi rfl rfl (Q6 h1) rfl (Qi rfl rfl (Q6 h1) rfl (Qi rfl rfl (Q6 h1) rfl (Qi rfl rfl (Q6 h1) rfl (QO rfl (Q6 h1) rfl rfl (Qb rfl rfl (Qi rfl rfl rfl rfl (Qi rfl rfl rfl rfl (Qi rfl rfl rfl rfl (Qi rfl rfl rfl rfl (Qi rfl rfl rfl rfl (Qi rfl rfl rfl rfl (Qi rfl rfl rfl rfl (Qi rfl rfl rfl rfl (QO rfl rfl rfl rfl (Qe rfl rfl (Qf (Qc (Qh [4] rfl (Qu (QP (.inr rfl) rfl rfl ?_)))))))))))))))))))))))
 exact⟨_,rfl, by unfold GS; rw[Q6 (show ¬0≤slot by omega),Bool.false_and],J4 hsl (hS.pick [0,1,2] rfl)⟩
theorem Px {sl:List Bs} {slot:Int} (h:GS sl slot=true):0≤slot∧ ∃p,sl[slot.toNat]? =some p∧p≠[]:= by
  unfold GS at h
  rw[Bool.and_eq_true,decide_eq_true_eq]at h
  refine⟨h.1, ?_⟩
  cases hq:sl[slot.toNat]? with
  | none=> rw[hq]at h; exact absurd h.2 (by simp)
  | some p=> rw[hq]at h; exact⟨p,rfl, by simpa using h.2⟩
def DF (sl:List Bs) (slot:Int):Bs:= if GS sl slot=true then(sl[slot.toNat]?).getD []else[]
def KS (sl:List Bs) (slot:Int):List Bs:= if GS sl slot=true then sl.set slot.toNat []else sl
theorem six_sp {w:World} {F:Th} (hS:Sat w [F]) {lv:Value} {l:List Bs} (hL:Ent F (RdL stC lv l)) (e:Bs):
    Calls Tryz.prog 205 #[lv,strV e] w (Ret fun v w'=>(v=intV (-1)∧e∉l∧Sat w' [F])∨(∃k:Nat,v=intV (k:Int)∧l[k]? =some e∧Sat w' [F])):= by
 obtain⟨ao,cap,rfl,hmax⟩:=(hL.sat hS 0 rfl).shape
 refine Qo Tryz.func205 rfl Tryz.ntmps205 rfl ?_
 refine Qd (Qa (Qe rfl rfl (Qf (Qc (Qd (Qd (Qa (Qb rfl rfl (XE Tryz.underlying61 rfl rfl (Qb rfl rfl (Qf (Qc (Qw ?_)))))))))))))
 refine Xa (fun K0 E0 W0=> ∃(i:Nat),K0=l.length -i∧E0=[(0,.slice ao l.length cap),(1,strV e),(7,intV (l.length:Int)),(8,intV (i:Int))]∧Sat W0 [F]∧(i≤l.length)∧(∀j y,j<i→l[j]? =some y→y≠e)) (L0:=[(0,_),(1,_),(7,_),(8,_)]) (l.length -0) (Vl rfl rfl rfl rfl) ⟨0,rfl,rfl,hS, by omega, by omega⟩ ?_
 rintro _ _ w1 ⟨i,rfl,rfl,hS1,hi,hno⟩
 refine Qd (Qa (Xg rfl rfl rfl (Qf (Qc (Qd (Qt rfl (fun h2=> ?_) (fun h2=> ?_)))))))
 ·obtain⟨x,hx⟩: ∃x,l[i]? =some x:=⟨_,Zi (by omega)⟩
  obtain⟨b,off,rfl,_⟩:=(hL.sat hS1 0 rfl).get hx
  refine Qr (Qc (Qd (Qw (Qd (Qa (Qb rfl rfl (Qe rfl rfl (Qf (Qc (Qd (Qa (Qb rfl rfl (Qb rfl rfl (Qb rfl rfl (Ze i rfl rfl (by first | rfl | omega) ((XW hx).1) KK rfl ?_)))))))))))))))
  refine Qp rfl ZZ (((hL.sat hS1 0 rfl).at_ hx) 0 _ rfl) rfl (BN rfl rfl rfl (Qf (Qc (Qh [8,7,1,0,5,16] rfl (Qt rfl (fun h3=> ?_) (fun h3=> ?_))))))
  ·have heq:e=x:=h3
   refine Qd (Qa (Qb rfl rfl (Qe rfl rfl (Qf (Qc (Qu (Qx (Qn (Qn (Qx (Qn (QP (.inr rfl) rfl rfl ?_))))))))))))
   exact⟨_,rfl,.inr ⟨i,rfl, by rw[hx,heq],hS1.pick [0] rfl⟩⟩
  have hne: ¬e=x:=h3
  refine Qr (Ql (Qc (Qa (QK rfl rfl (by omega) (by omega) rfl ?_))))
  refine Qb rfl rfl (Qf ?_)
  exact Q4 (L1:=[(0,_),(1,_),(7,_),(8,intV ((i+1:Nat):Int))]) (Vl rfl rfl rfl rfl) (k1:=l.length -(i+1)) (by omega) ⟨i+1,rfl,rfl,hS1.pick [0] rfl, by omega, fun j y hj hq=> by by_cases e:j=i;(subst e; rw[hx]at hq; cases hq; exact fun q=>hne q.symm); exact hno j y (by omega) hq⟩
 refine QR (Qq (Qq (Qy (Qc (Qd (Qa (Qe rfl rfl (Qf (Qc (Qu (QP (.inr rfl) rfl rfl ?_)))))))))))
 exact⟨_,rfl,.inl ⟨rfl, fun hm=> by obtain⟨j,hj⟩:=List.mem_iff_getElem?.1 hm; exact hno j e (by have :=(XW hj).1;omega) hj rfl,hS1.pick [0] rfl⟩⟩
theorem NB {w:World} {p:Nat} {sl:List Bs} {F:Th} (hS:Sat w [Gx p sl,F]) (page:Bs) (hpl:page.length=64):
    Calls Tryz.prog 172 #[ptrV p 0,strV page] w (Ret fun v w'=>(WF sl=sl.length∧v= .tuple #[intV (-1),.bool false]∧Sat w' [Gx p sl,F])∨(∃k:Nat,sl[k]? =some []∧v= .tuple #[intV (k:Int),.bool true]∧Sat w' [Gx p (sl.set k page),F])):= by
 refine Qo Tryz.func172 rfl Tryz.ntmps172 rfl ?_
 refine Qd (Qa (Qe rfl rfl (Qe rfl rfl (Qf (Qc (Qd (Qd ?_)))))))
 have hul:=HA sl
 obtain⟨sa,sc,du,re,hsl,hSo⟩:=HD (hS.pick [0,1] rfl)
 have hS1:=hSo.drew
 refine QI [0,1,2,3,4,5,6,7,8,9,10,11,12,13,14] [] Wq (by kernel_rfl) ?_
 refine QE rfl rfl rfl (QZ rfl rfl rfl (fun _=>(Dj Tryz.underlying9 rfl)) ?_)
 refine QZ rfl rfl rfl (fun _=>(VM rfl rfl)) ?_
 refine QE rfl rfl rfl (Wm 10 rfl (fun h2=> ?_) (fun h2=> ?_))
 ·exact absurd h2 (by omega)
 refine QZ rfl rfl (Q1 rfl rfl (Q6 h2)) (fun _=>(Ev.gd (Xm rfl))) ?_
 refine QZ rfl rfl (Q1 rfl rfl (Q6 h2)) (fun _=>(Ev.gd (ZD rfl))) ?_
 refine QZ rfl rfl (Q1 rfl rfl (Q6 h2)) (fun _=>(Ev.gd (Zu rfl U3))) ?_
 refine Q8 rfl rfl (Q1 rfl rfl (Q6 h2)) (Ev.gd (Qm rfl QN (hS1.cell 0 rfl rfl))) (QZ rfl rfl (Q1 rfl rfl (Q6 h2)) (fun _=>(Ev.gd (Xm rfl))) ?_)
 refine QZ rfl rfl (Q1 rfl rfl (Q6 h2)) (fun _=>(Ev.gd (ZD rfl))) ?_
 refine QZ rfl rfl (Q1 rfl rfl (Q6 h2)) (fun _=>(Ev.gd (Zu rfl HO))) ?_
 refine Q8 rfl rfl (Q1 rfl rfl (Q6 h2)) (Ev.gd (Qm rfl Gu (hS1.cell 0 rfl rfl))) (QZ rfl rfl (Q1 rfl rfl (Q6 h2)) (fun _=>(Ev.gd (Kv Tryz.underlying61 rfl))) ?_)
 refine QZ rfl rfl (Q1 rfl rfl (Q6 h2)) (fun _=>(Ev.gd (HQ rfl rfl))) ?_
 refine QZ rfl rfl rfl (fun _=>(Wh rfl (Q6 h2) rfl)) ?_
 refine VC.nil (Qc (Qh [1,0,4,5,21] rfl (Qt rfl (fun h3=> ?_) (fun h3=> ?_))))
 ·exact Qd (Qa (Qe rfl rfl (Qe rfl rfl (Qf (Qc (Qu (Qn (Wx (.inr rfl) rfl rfl rfl (⟨_,rfl,.inl ⟨by omega,rfl,J4 hsl (hS1.pick [0,1,2] rfl)⟩⟩)))))))))
 refine Qr (Qc (Qd ?_))
 have hSz:=J4 hsl (hS1.pick [0,1,2] rfl)
 refine Qa (Qb rfl rfl (Qv L8 rfl (NA (hSz.sp [0] rfl)) rfl ?_))
 rintro _ w4 ⟨rfl,hS4⟩
 replace hS4:=hS4.jn rfl rfl
 clear hSz
 refine Qf (Qc (Qd ?_))
 have hul:=HA sl
 obtain⟨sa,sc,du,re,hsl,hSo⟩:=HD (hS4.pick [0,1] rfl)
 refine Qa (Qb rfl rfl (Qj rfl rfl (Qg rfl HO rfl (Qp rfl Gu (hSo.cell 0 rfl rfl) rfl (Zf cal_205 rfl (six_sp (hSo.sp [] rfl) (Ent.starL (Hs (C:=stC) (l:=sl) (by omega)) 1 rfl) []) rfl ?_)))))
 rintro e w5 ⟨_,rfl,(⟨rfl,hno,hS5⟩ | ⟨k,rfl,hk,hS5⟩)⟩
 ·exact absurd (D9.1 (by have :=HA sl;omega)) hno
 refine⟨_,rfl, ?_⟩
 replace hS5:=hS5.jn rfl rfl
 clear hSo
 refine Qe rfl rfl (Qf (Qc (Qh [1,0,4,5,6] rfl (Qd (Qa (Qb rfl rfl (Qj rfl rfl (Qg rfl HO rfl (Qp rfl Gu (hS5.cell 0 rfl rfl) rfl (Qb rfl rfl (Qb rfl rfl (Xr stC 1 k hS5 rfl rfl rfl (by first | rfl | omega) hk KK rfl ?_))))))))))))
 intro bx6 capx6 hvx6
 refine W6 1 k page hS5 rfl hvx6 rfl rfl sz_9 (by rfl) ((XW hk).1) ?_
 intro w7 hS8; dsimp only[List.set]at hS8
 clear hS5
 refine Qf (Qc (Qh [0,4,5,6] rfl (Qd (Qa (Qb rfl rfl (Qj rfl rfl (Qg rfl U3 rfl (Qp rfl QN (hS8.cell 0 rfl rfl) rfl (QK rfl rfl (by omega) (by omega) rfl ?_)))))))))
 refine Qj rfl rfl (Qg rfl U3 rfl ?_)
 first | (refine QJ hS8 rfl rfl Um (by rfl) (i:=0) rfl (Xn rfl) ?_)
 intro w9 hS10; dsimp only[List.set]at hS10
 clear hS8
 refine Qf (Qc (Qh [4,5,6] rfl (Qd (Qa (Qb rfl rfl (Qe rfl rfl (Qe rfl rfl (Qf (Qc (Qu (Wx (.inr rfl) rfl rfl rfl ?_)))))))))))
 have hpn:page≠[]:= fun q=> by subst q; simp at hpl
 exact⟨_,rfl,.inr ⟨k,hk,rfl,J4 (by rw[List.length_set]; exact hsl) (by rw[G7 hk hpn,Int.natCast_add]; exact hS10.pick [0,1,2] rfl)⟩⟩
theorem ND {w:World} {p:Nat} {sl:List Bs} {F:Th} (hS:Sat w [Gx p sl,F]) (slot:Int):
    Calls Tryz.prog 93 #[ptrV p 0,intV slot] w (Ret fun v w'=> ∃e,v= .tuple #[strV (DF sl slot),intV e]∧Sat w' [Gx p sl,F]):= by
 refine Qo Tryz.func93 rfl Tryz.ntmps93 rfl ?_
 refine Qd (Qa (Qe rfl rfl (Qe rfl rfl (Qf (Qc (Qd (Qd (Qa (Qb rfl rfl (Qb rfl rfl (Qv L9 rfl (NC (hS.sp [0] rfl) slot) rfl ?_)))))))))))
 rintro _ w1 ⟨rfl,hS1⟩
 replace hS1:=hS1.jn rfl rfl
 refine QQ rfl rfl (Qf (Qc (QL rfl (fun h2=> ?_) (fun h2=> ?_))))
 ·refine Qd (Qa (Qe rfl rfl (Qe rfl rfl (Qf (Qc (Qu (Qn (Wx (.inr rfl) rfl rfl rfl ?_))))))))
  exact⟨_,rfl,_, by rw[show DF sl slot=[] by unfold DF; rw[if_neg (by simp_all)]],hS1.pick [0,1] rfl⟩
 have hh:GS sl slot=true:= by simpa using h2
 obtain⟨h0,pg,hp,hpn⟩:=Px hh
 refine Qr (Qc (Qd (Qa (Qb rfl rfl (Qv L8 rfl (NA (hS1.sp [0] rfl)) rfl ?_)))))
 rintro _ w3 ⟨rfl,hS3⟩
 replace hS3:=hS3.jn rfl rfl
 clear hS1
 refine Qf (Qc (Qd ?_))
 have hul:=HA sl
 obtain⟨sa,sc,du,re,hsl,hSo⟩:=HD (hS3.pick [0,1] rfl)
 refine Qa (Qb rfl rfl (Qj rfl rfl (Qg rfl HO rfl (Qp rfl Gu (hSo.cell 0 rfl rfl) rfl (Qb rfl rfl (Xr stC 1 slot.toNat hSo rfl rfl rfl (by omega) hp KK rfl ?_))))))
 intro bx4 capx4 hvx4
 refine Zx 1 slot.toNat 0 hSo rfl hvx4 rfl rfl hp ZZ rfl rfl (Qe rfl rfl (Qe rfl rfl (Qf (Qc (Qh [4,5] rfl (Qu (Wx (.inr rfl) rfl rfl rfl ?_)))))))
 exact⟨_,rfl,_, by rw[show DF sl slot=pg by unfold DF; rw[if_pos hh,hp];rfl],J4 hsl (hSo.pick [0,1,2] rfl)⟩
theorem GC {w:World} {p:Nat} {sl:List Bs} {F:Th} (hS:Sat w [Gx p sl,F]) (slot:Int):
    Calls Tryz.prog 155 #[ptrV p 0,intV slot] w (Ret fun v w'=>v= .tuple #[]∧Sat w' [Gx p (KS sl slot),F]):= by
 refine Qo Tryz.func155 rfl Tryz.ntmps155 rfl ?_
 refine Qd (Qa (Qb rfl rfl (Qb rfl rfl (Qv L9 rfl (NC (hS.sp [0] rfl) slot) rfl ?_))))
 rintro _ w1 ⟨rfl,hS1⟩
 replace hS1:=hS1.jn rfl rfl
 refine Qf (Qc (QL rfl (fun h2=> ?_) (fun h2=> ?_)))
 ·have hh:GS sl slot=true:= by simpa using h2
  obtain⟨h0,pg,hp,hpn⟩:=Px hh
  refine Qd ?_
  have hul:=HA sl
  obtain⟨sa,sc,du,re,hsl,hSo⟩:=HD (hS1.pick [0,1] rfl)
  refine Qa (Qb rfl rfl (Qj rfl rfl (Qg rfl HO rfl (Qp rfl Gu (hSo.cell 0 rfl rfl) rfl (Qb rfl rfl (Xr stC 1 slot.toNat hSo rfl rfl rfl (by omega) hp KK rfl ?_))))))
  intro bx3 capx3 hvx3
  refine W6 1 slot.toNat [] hSo rfl hvx3 rfl rfl sz_9 (by rfl) ((XW hp).1) ?_
  intro w4 hS5; dsimp only[List.set]at hS5
  clear hSo
  refine Qf (Qc (Qh [0] rfl (Qa (Qb rfl rfl (Qj rfl rfl (Qg rfl U3 rfl (Qp rfl QN (hS5.cell 0 rfl rfl) rfl (Hi rfl rfl (by omega) (by omega) rfl ?_))))))))
  refine Qj rfl rfl (Qg rfl U3 rfl ?_)
  first | (refine QJ hS5 rfl rfl Um (by rfl) (i:=0) rfl (Xn rfl) ?_)
  intro w6 hS7; dsimp only[List.set]at hS7
  clear hS5
  refine Qf (ZY (.inl rfl) rfl ?_)
  exact⟨_,rfl,rfl, by rw[show KS sl slot=sl.set slot.toNat [] by unfold KS; rw[if_pos hh]]; exact J4 (by rw[List.length_set]; exact hsl) (by rw[show((WF (sl.set slot.toNat []):Nat):Int)=(WF sl:Nat) -1 by have :=DA hp hpn;omega]; exact hS7.pick [0,1,2] rfl)⟩
 refine Qr (ZY (.inl rfl) rfl ?_)
 exact⟨_,rfl,rfl, by rw[show KS sl slot=sl by unfold KS; rw[if_neg (by simp_all)]]; exact hS1.pick [0,1] rfl⟩
theorem Ei {w:World} {p:Nat} {sl:List Bs} {F:Th} (hS:Sat w [Gx p sl,F]):
    Calls Tryz.prog 62 #[ptrV p 0] w (Ret fun v w'=>v=intV (WF sl:Nat)∧Sat w' [Gx p sl,F]):= by
 obtain⟨sa,sc,du,re,hsl,hS⟩:=HD hS
 refine Qo Tryz.func62 rfl Tryz.ntmps62 rfl ?_
 exact Qd (Qa (Qe rfl rfl (Qf (Qc (Qd (Qa (Qb rfl rfl (Qj rfl rfl (Qg rfl U3 rfl (Qp rfl QN (hS.cell 0 rfl rfl) rfl (Qe rfl rfl (Qf (Qc (Qu (QP (.inr rfl) rfl rfl (⟨_,rfl,rfl,J4 hsl (hS.pick [0,1,2] rfl)⟩))))))))))))))))
theorem srow (m:Nat):(List.replicate m [strV []]).flatten=stC.cells (List.replicate m []):= by
  induction m with
  | zero=>rfl
  | succ m ih=> rw[List.replicate_succ,List.flatten_cons,ih,List.replicate_succ];rfl
theorem Od {w:World} {F:Th} (hS:Sat w [F]) (n:Int):
    Calls Tryz.prog 58 #[intV n] w (Ret fun v w'=> ∃p,v=ptrV p 0∧Sat w' [Gx p (List.replicate (max 0 (min n 4096)).toNat []),F]):= by
 refine Qo Tryz.func58 rfl Tryz.ntmps58 rfl ?_
 refine Qd (Qa (Qe rfl rfl (Qf (Qc (Qd (Qa (Qb rfl rfl (HZ rfl rfl rfl (Ym rfl rfl rfl (Ry hS (max 0 (min n 4096)).toNat rfl rfl (by omega) Tryz.underlying61 ifo_9 rfl (by omega) (by omega) rfl ?_))))))))))
 intro db w1 hS1a; have hS1:=hS1a.row_cast (l:=List.replicate (max 0 (min n 4096)).toNat []) (C:=stC) (by simp) rfl (srow _)
 refine Zn rfl OJ asz_185 zr_185 rfl rfl (XX hS1 rfl rfl rfl ?_)
 intro bp wbp hSbp
 clear hS1
 refine Qe rfl rfl (Qf (Qc (Qu (QP (.inr rfl) rfl rfl ?_))))
 exact⟨_,rfl,_,rfl,J4 (du:=0) (re:=0) (by rw[List.length_replicate];omega) (by rw[Sx]; exact hSbp.pick [0,1,2] rfl)⟩
end Go.Proofs.YtkcjfoaejijdoaaGreatDoor
namespace Go.Proofs.YtkcjfoaejijdoaaGreatDoor.M
open Go.RowKit
section
variable {P:Program} {n:Nat} {ops:Array Oper} {Q:Exit→Act→World→Prop} {rest:List Oper} {L:Env} {w:World} {d:Nat} {ty:TypeId} {pos:String} {aft:Array Edge}
theorem AR {As:List Th} (i:Nat) (hS:Sat w As) {x y:Operand} {dT sT e b o off m m' cap size dl dc:Nat} {v:Value} {s:List UInt8} {xs xs':List Value} (hi:As[i]? =some (WQ v m size xs)) (hv:v= .slice (some ⟨b,o,none⟩) m' cap) (hx:look L x=some (.slice (some ⟨b,off,none⟩) dl dc)) (hy:look L y=some (strV s)) (hu:P.underlying dT=some (.slice e)) (hs:ZV P e=some 1) (hfit:off+min s.length dl≤xs.length)
    (hxs:X3 xs off (X7 (s.take dl))=xs') (hd:Nat.blt d n=true) (hk: ∀w',Sat w' (As.set i (WQ v m size xs'))→wl P n ops Q rest ((d,.int .i64 ((min s.length dl:Nat):Int))::L) w'):wl P n ops Q (⟨some d,.call ⟨.builtin .copy, #[x,y], #[dT,sT]⟩,ty,pos,aft,none⟩::rest) L w:= by
  subst hxs
  obtain⟨sp,hb,hback⟩:=hS.own_row i hi hv
  refine XQ rfl hd (fun a ha=>Te dT sT x y rfl (ha.eval hx) (ha.eval hy) hb hu hs (by rw[Kj]; simp;omega)) ?_
  rintro u w' ⟨rfl,h1,h2,_⟩
  rw[Kj]
  have hl:off+(X7 (s.take dl)).length≤xs.length:= by simp [X7];omega
  refine hk w' (hback w' _ (Jn hl) ?_ h2)
  rw[←Yd hl]
  exact h1
theorem ev_strR {As:List Th} (i:Nat) (hS:Sat w As) {x:Operand} {sT dT e b o off m m' cap size dl dc:Nat} {v:Value} (l:List UInt8) {xs:List Value} (hi:As[i]? =some (WQ v m size xs)) (hv:v= .slice (some ⟨b,o,none⟩) m' cap) (hx:look L x=some (.slice (some ⟨b,off,none⟩) dl dc)) (hs:P.underlying sT=some (.slice e)) (he:P.underlying e=some (.int .u8)) (hd:P.underlying dT=some .string) (hl:(xs.drop off).take dl=X7 l) (hn:l.length=dl):Ev P L w ⟨some d,.convert sT dT x,ty,pos,aft,none⟩ (strV l):= fun ρ hρ=> by
  obtain⟨sp,hb,_⟩:=hS.own_row i hi hv
  subst hn
  have hr:=run_convert_bytes_back (P:=P) w sT dT e ⟨b,off,none⟩ dc l hs he hd (fun j hj=> by
    rw[Wa]
    refine hb.cell ?_
    have h1:=congrArg (fun q=>q[j]?) hl
    simp only[List.getElem?_take,hj,if_true,List.getElem?_drop,MJ]at h1
    have hlt:off+j<xs.length:= by
      rcases Nat.lt_or_ge (off+j) xs.length with g | g
      · exact g
      · rw[List.getElem?_eq_none g,Zi hj]at h1; cases h1
    rw[List.getElem?_append_left hlt,h1,Zi hj];rfl)
  simp [execOp,hρ _ _ hx,hr]
theorem D3 {x y:Operand} {t e N b o sz:Nat} {k:IntKind} {i:Int} (hu:P.underlying t=some (.array N e)) (hN:Nat.blt 0 N=true) (hx:look L x=some (ptrV b o)) (hy:look L y=some (.int k i)) (hi:i=(N:Int)) (hs:ZV P e=some sz) (hd:Nat.blt d n=true) (hk:wl P n ops Q rest ((d,.slice (some ⟨b,o,none⟩) 0 0)::L) w):wl P n ops Q (⟨some d,.slice t x (some y) none none,ty,pos,aft,none⟩::rest) L w:=
  Xo hd (fun ρ hρ=> by
    have h3: ∀w,(sizeOf e).run P w= .ok sz w:= fun w=>run_sizeOf hs w
    have hn: ¬N=0:= by simp at hN;omega
    have hb:= fun w=>KW (P:=P) false N N (some (.int k i)) none N N ⟨k, by rw[hi]⟩ rfl (Nat.le_refl _) (Nat.le_refl _) w
    simp [execOp,hρ _ _ hx,hρ _ _ hy,Instr.sliceAt,run_underlying hu,Instr.sureAddr,hb,h3,hn]) hk
end
end Go.Proofs.YtkcjfoaejijdoaaGreatDoor.M
namespace Go.Proofs.YtkcjfoaejijdoaaGreatDoor
open Go.RowKit M
structure FrD where
  u:Bool
  b:Bs
def Nq (b:Bs):List UInt8:=(List.range 64).map fun i=>(b[i]?).getD 0
theorem Gs (b:Bs):(Nq b).length=64:= by simp [Nq]
theorem Gr {b:Bs} (h:b.length=64):Nq b=b:= by
  apply List.ext_getElem?
  intro i
  by_cases hi:i<64
  · unfold Nq; rw[List.getElem?_map,List.getElem?_range hi,Option.map_some,Zi (by omega)];rfl
  · rw[List.getElem?_eq_none (by rw[Gs];omega),List.getElem?_eq_none (by omega)]
def P6 (x:FrD):List Value:= .bool x.u::X7 (Nq x.b)
theorem MI (l:List UInt8):(X7 l).length=l.length:= by simp [X7]
theorem Lh (x:FrD):(P6 x).length=65:= by unfold P6; rw[List.length_cons,MI,Gs]
theorem frE_one (x:FrD):HU (P6 x)=true:= by
  refine Bk fun v hv=> ?_
  unfold P6 at hv
  rcases List.mem_cons.1 hv with rfl | hv
  · rfl
  · unfold X7 at hv
    obtain⟨b,_,rfl⟩:=List.mem_map.1 hv
    rfl
def frC:RowC FrD:=⟨P6,65, by decide,Lh,frE_one⟩
def Mt (x:FrD):Option Bs:= if x.u=true then some (Nq x.b)else none
def Yg (fl:List (Option Bs)):Nat:=(fl.filter Option.isSome).length
def RS (p:Nat) (fl:List (Option Bs)):Th:=CI fun q:Value×List FrD=>starL [WR (fl=q.2.map Mt∧fl.length≤4096),QG p [q.1,intV (Yg fl:Nat)],rowT frC q.1 q.2]
theorem U1 {w:World} {p:Nat} {fl:List (Option Bs)} {As:List Th} (h:Sat w (RS p fl::As)): ∃ao cap cl,fl=cl.map Mt∧cl.length≤4096∧Sat w (QG p [.slice ao cl.length cap,intV (Yg fl:Nat)]::rowT frC (.slice ao cl.length cap) cl::As):= by
  obtain⟨⟨v,cl⟩,h⟩:=h.ex
  obtain⟨⟨h1,h3⟩,h2⟩:=h.flat.pure_elim
  obtain⟨ao,cap,hv,_⟩:=Sat.own_shape (As:=QG p _::rowT frC v cl::As) h2 1 rfl
  obtain rfl:=hv
  exact⟨ao,cap,cl,h1, by rw[h1,List.length_map]at h3; exact h3,h2⟩
theorem Ya {w:World} {p:Nat} {fl:List (Option Bs)} {As:List Th} {v:Value} {cl:List FrD} (h1:fl=cl.map Mt) (hl:cl.length≤4096) (h:Sat w (QG p [v,intV (Yg fl:Nat)]::rowT frC v cl::As)):Sat w (RS p fl::As):=
  Sat.ex_intro (v,cl) (Sat.fold (As:=[WR _,QG p _,rowT frC v cl]) (Sat.pure_intro ⟨h1, by rw[h1,List.length_map]; exact hl⟩ h))
theorem Vu (fl:List (Option Bs)):Yg fl≤fl.length:=List.length_filter_le _ _
theorem Tu: ∀{fl:List (Option Bs)} {k:Nat} {b:Bs},fl[k]? =some none→Yg (fl.set k (some b))=Yg fl+1
  | [],_,_,h=> by simp at h
  | a::fl,0,b,h=> by
    simp at h; subst h
    unfold Yg; simp
  | a::fl,k+1,b,h=> by
    have :=Tu (fl:=fl) (k:=k) (b:=b) (by simpa using h)
    unfold Yg at this⊢
    rw[List.set_cons_succ,List.filter_cons,List.filter_cons]
    split
    · rw[List.length_cons,List.length_cons,this]
    · exact this
theorem DB: ∀{fl:List (Option Bs)} {k:Nat} {b:Bs},fl[k]? =some (some b)→Yg (fl.set k none)+1=Yg fl
  | [],_,_,h=> by simp at h
  | a::fl,0,b,h=> by
    simp at h; subst h
    unfold Yg; simp
  | a::fl,k+1,b,h=> by
    have :=DB (fl:=fl) (k:=k) (b:=b) (by simpa using h)
    unfold Yg at this⊢
    rw[List.set_cons_succ,List.filter_cons,List.filter_cons]
    split
    · rw[List.length_cons,List.length_cons,←this]
    · exact this
theorem KQ: ∀{fl:List (Option Bs)} {k:Nat} {b c:Bs},fl[k]? =some (some b)→Yg (fl.set k (some c))=Yg fl
  | [],_,_,_,h=> by simp at h
  | a::fl,0,b,c,h=> by
    simp at h; subst h
    unfold Yg; simp
  | a::fl,k+1,b,c,h=> by
    have :=KQ (fl:=fl) (k:=k) (b:=b) (c:=c) (by simpa using h)
    unfold Yg at this⊢
    rw[List.set_cons_succ,List.filter_cons,List.filter_cons]
    split
    · rw[List.length_cons,List.length_cons,this]
    · exact this
def ZX (fl:List (Option Bs)) (f:Int):Option Bs:= if 0≤f then(match fl[f.toNat]? with | some (some b)=>some b | _=>none)else none
theorem YF {fl:List (Option Bs)} {f:Int} {b:Bs} (h:ZX fl f=some b):0≤f∧fl[f.toNat]? =some (some b):= by
  unfold ZX at h
  split at h
  · rename_i h0
    refine⟨h0, ?_⟩
    split at h
    · rename_i b' hb; cases h; exact hb
    · cases h
  · cases h
theorem II {cl:List FrD} {f:Int} {x:FrD} (h0:0≤f) (hx:cl[f.toNat]? =some x):ZX (cl.map Mt) f=Mt x:= by
  unfold ZX
  rw[if_pos h0,List.getElem?_map,hx,Option.map_some]
  unfold Mt
  cases x.u<;>rfl
theorem TW {cl:List FrD} {f:Int} (h:f<0∨(cl.length:Int)≤f):ZX (cl.map Mt) f=none:= by
  unfold ZX
  split
  · rw[List.getElem?_eq_none (by rw[List.length_map];omega)]
  · rfl
theorem RQ {w:World} {p:Nat} {fl:List (Option Bs)} {F:Th} (hS:Sat w [RS p fl,F]) (f:Int):
    Calls Tryz.prog 138 #[ptrV p 0,intV f] w (Ret fun v w'=>v= .bool (ZX fl f).isSome∧Sat w' [RS p fl,F]):= by
 obtain⟨fa,fc,cl,hfl,hcl,hS⟩:=U1 hS
 refine Qo Tryz.func138 rfl Tryz.ntmps138 rfl ?_
 refine Qd (Qa (Qe rfl rfl (Qf (Qc (Qd (Qa (Qb rfl rfl (JQ rfl rfl rfl (Qb rfl rfl (QW 7 rfl (fun h1=> ?_) (fun h1=> ?_)))))))))))
 ·refine Qk rfl rfl (Xf h1) (Qb rfl rfl (Qk rfl rfl (Xf h1) (Qb rfl rfl (Qk rfl rfl (Xf h1) (Qj rfl rfl (Qk rfl rfl (Xf h1) (Qg rfl Yz rfl (Qk rfl rfl (Xf h1) (Qp rfl Ve (hS.cell 0 rfl rfl) rfl (Qk rfl rfl (Xf h1) (XE Tryz.underlying181 rfl rfl (Qk rfl rfl (Xf h1) (Xg rfl rfl rfl (QC rfl (Xf h1) rfl rfl (Qb rfl rfl (QW 16 rfl (fun h2=> ?_) (fun h2=> ?_)))))))))))))))))
  ·obtain⟨x,hx⟩: ∃x,cl[f.toNat]? =some x:=⟨_,Zi (by omega)⟩
   refine Qk rfl rfl (Xf h2) (Qb rfl rfl (Qk rfl rfl (Xf h2) (Qj rfl rfl (Qk rfl rfl (Xf h2) (Qg rfl Yz rfl (Qk rfl rfl (Xf h2) (Qp rfl Ve (hS.cell 0 rfl rfl) rfl (Qk rfl rfl (Xf h2) (Qb rfl rfl (Qk rfl rfl (Xf h2) (Xr frC 1 f.toNat hS rfl rfl rfl (by omega) hx VO rfl ?_)))))))))))
   intro bx3 capx3 hvx3
   refine Qk rfl rfl (Xf h2) (Qg rfl Mv rfl (Qk rfl rfl (Xf h2) (Zx 1 f.toNat 0 hS rfl hvx3 rfl rfl hx MP rfl rfl (QC rfl (Xf h2) rfl rfl (Qe rfl rfl (Qf (Qc (Qh [4] rfl (Qu (QP (.inr rfl) rfl rfl ?_))))))))))
   exact⟨_,rfl, by rw[hfl,II (by omega) hx];unfold Mt; cases x.u<;>rfl,Ya hfl hcl (hS.pick [0,1,2] rfl)⟩
  refine Qi rfl rfl (Q6 h2) rfl (Qi rfl rfl (Q6 h2) rfl (Qi rfl rfl (Q6 h2) rfl (Qi rfl rfl (Q6 h2) rfl (Qi rfl rfl (Q6 h2) rfl (Qi rfl rfl (Q6 h2) rfl (Qi rfl rfl (Q6 h2) rfl (Qi rfl rfl (Q6 h2) rfl (QO rfl (Q6 h2) rfl rfl (Qe rfl rfl (Qf (Qc (Qh [4] rfl (Qu (QP (.inr rfl) rfl rfl ?_))))))))))))))
  exact⟨_,rfl, by rw[hfl,TW (by omega)];rfl,Ya hfl hcl (hS.pick [0,1,2] rfl)⟩
 refine Qi rfl rfl (Q6 h1) rfl (Qi rfl rfl (Q6 h1) rfl (Qi rfl rfl (Q6 h1) rfl (Qi rfl rfl (Q6 h1) rfl (Qi rfl rfl (Q6 h1) rfl (Qi rfl rfl (Q6 h1) rfl (Qi rfl rfl (Q6 h1) rfl (QO rfl (Q6 h1) rfl rfl (Qb rfl rfl (Qi rfl rfl rfl rfl (Qi rfl rfl rfl rfl (Qi rfl rfl rfl rfl (Qi rfl rfl rfl rfl (Qi rfl rfl rfl rfl (Qi rfl rfl rfl rfl (Qi rfl rfl rfl rfl (Qi rfl rfl rfl rfl (QO rfl rfl rfl rfl (Qe rfl rfl (Qf (Qc (Qh [4] rfl (Qu (QP (.inr rfl) rfl rfl ?_)))))))))))))))))))))))
 exact⟨_,rfl, by rw[hfl,TW (by omega)];rfl,Ya hfl hcl (hS.pick [0,1,2] rfl)⟩
end Go.Proofs.YtkcjfoaejijdoaaGreatDoor
