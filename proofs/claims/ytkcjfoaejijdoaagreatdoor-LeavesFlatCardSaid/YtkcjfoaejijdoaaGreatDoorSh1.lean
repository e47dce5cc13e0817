/- swap -/
import Derived.Test.YtkcjfoaejijdoaaGreatDoorFw
set_option linter.unusedVariables false
set_option maxRecDepth 100000
namespace Go.Proofs.YtkcjfoaejijdoaaGreatDoor
open Go.RowKit M
def WE (sl:List Bs):Nat:=(sl.filter fun p=> !decide (p=[])).length
def GU (sl:List Bs) (slot:Int):Bool:=decide (0≤slot)&&(match sl[slot.toNat]? with | some p=> !decide (p=[]) | none=>false)
theorem Hx (sl:List Bs):WE sl≤sl.length:=List.length_filter_le _ _
theorem G7: ∀{sl:List Bs} {k:Nat} {p:Bs},sl[k]? =some []→p≠[]→WE (sl.set k p)=WE sl+1
  | [],_,_,h,_=> by simp at h
  | a::sl,0,p,h,hp=> by
    simp at h; subst h
    unfold WE; simp [hp]
  | a::sl,k+1,p,h,hp=> by
    have :=G7 (sl:=sl) (k:=k) (by simpa using h) hp
    unfold WE at this⊢
    rw[List.set_cons_succ,List.filter_cons,List.filter_cons]
    split
    · rw[List.length_cons,List.length_cons,this]
    · exact this
theorem D8: ∀{sl:List Bs} {k:Nat} {p:Bs},sl[k]? =some p→p≠[]→WE (sl.set k [])+1=WE sl
  | [],_,_,h,_=> by simp at h
  | a::sl,0,p,h,hp=> by
    simp at h; subst h
    unfold WE; simp [hp]
  | a::sl,k+1,p,h,hp=> by
    have :=D8 (sl:=sl) (k:=k) (by simpa using h) hp
    unfold WE at this⊢
    rw[List.set_cons_succ,List.filter_cons,List.filter_cons]
    split
    · rw[List.length_cons,List.length_cons,←this]
    · exact this
theorem D7 {sl:List Bs}:WE sl<sl.length↔[]∈sl:= by
  unfold WE
  induction sl with
  | nil=> simp
  | cons a sl ih=>
    have hle:=Hx sl
    unfold WE at hle
    by_cases ha:a=[]
    · subst ha
      rw[List.filter_cons,if_neg (by simp),List.length_cons]
      exact⟨fun _=>List.mem_cons_self, fun _=> by omega⟩
    · rw[List.filter_cons,if_pos (by simp [ha]),List.length_cons,List.length_cons,List.mem_cons]
      constructor
      · intro h; exact .inr (ih.1 (by omega))
      · rintro(h | h)
        · exact absurd h.symm ha
        · have :=ih.2 h;omega
theorem St (m:Nat):WE (List.replicate m [])=0:= by unfold WE; simp
def Gx (p:Nat) (sl:List Bs):Th:=CG fun q:Value×Int×Int=>starL [WN (sl.length≤4096),QF p [q.1,intV (WE sl:Nat),intV q.2.1,intV q.2.2],rowT stC q.1 sl]
theorem H1 {w:World} {p:Nat} {sl:List Bs} {As:List Th} (h:Sat w (Gx p sl::As)): ∃ao cap du re,sl.length≤4096∧Sat w (QF p [.slice ao sl.length cap,intV (WE sl:Nat),intV du,intV re]::rowT stC (.slice ao sl.length cap) sl::As):= by
  obtain⟨⟨v,du,re⟩,h⟩:=h.ex
  obtain⟨h1,h2⟩:=h.flat.pure_elim
  obtain⟨ao,cap,hv,_⟩:=Sat.own_shape (As:=QF p _::rowT stC v sl::As) h2 1 rfl
  obtain rfl:=hv
  exact⟨ao,cap,du,re,h1,h2⟩
theorem J0 {w:World} {p:Nat} {sl:List Bs} {As:List Th} {v:Value} {du re:Int} (hl:sl.length≤4096) (h:Sat w (QF p [v,intV (WE sl:Nat),intV du,intV re]::rowT stC v sl::As)):Sat w (Gx p sl::As):=
  Sat.ex_intro (v,du,re) (Sat.fold (As:=[WN (sl.length≤4096),QF p _,rowT stC v sl]) (Sat.pure_intro hl h))
theorem NH {w:World} {p:Nat} {sl:List Bs} {F:Th} (hS:Sat w [Gx p sl,F]):
    Calls Tryz.prog 144 #[ptrV p 0] w (Ret fun v w'=>v= .tuple #[]∧Sat w' [Gx p sl,F]):= by
 obtain⟨sa,sc,du,re,hsl,hS⟩:=H1 hS
 refine Qq Tryz.func144 rfl Tryz.ntmps144 rfl ?_
 refine Qd ?_
 have hS1:=hS.drew
 refine QJ [0,1,2,3,4,5,6,7,8,9,10,11] [11] Wp (by kernel_rfl) ?_
 refine QE rfl rfl rfl (Xl rfl rfl rfl (QT rfl rfl rfl P9 (Q9 rfl rfl rfl (Qm rfl QO (hS1.cell 0 rfl rfl)) (QE rfl rfl rfl (Xl rfl rfl rfl (QT rfl rfl rfl PA (Q9 rfl rfl rfl (Qm rfl QO (hS1.cell 0 rfl rfl)) (QU rfl rfl rfl (fun _=>(Dg rfl rfl rfl)) ?_))))))))
 refine Xl rfl rfl rfl (QT rfl rfl rfl P9 (Xj rfl rfl rfl rfl rfl rfl ?_))
 first | (refine QL hS1 rfl rfl Ug (by rfl) (i:=0) rfl (Xn rfl) ?_)
 intro w2 hS3; dsimp only[List.set]at hS3
 clear hS1
 refine Zx (Xq (by kernel_rfl)) ?_
 refine VC.nil (Qc (Qi [0] rfl (Qa (Qb rfl rfl (Qk rfl rfl (Qg rfl PA rfl ?_))))))
 first | (refine QL hS3 rfl rfl Ug (by rfl) (i:=0) rfl (Xn rfl) ?_)
 intro w4 hS5; dsimp only[List.set]at hS5
 clear hS3
 exact Qf (ZB (.inl rfl) rfl (⟨_,rfl,rfl,J0 hsl (hS5.pick [0,1,2] rfl)⟩))
theorem NJ {w:World} {p:Nat} {sl:List Bs} {F:Th} (hS:Sat w [Gx p sl,F]) (slot:Int):
    Calls Tryz.prog 143 #[ptrV p 0,intV slot] w (Ret fun v w'=>v= .bool (GU sl slot)∧Sat w' [Gx p sl,F]):= by
 obtain⟨sa,sc,du,re,hsl,hS⟩:=H1 hS
 refine Qq Tryz.func143 rfl Tryz.ntmps143 rfl ?_
 refine Qd (Qa (Qe rfl rfl (Qf (Qc (Qd (Qa (Qb rfl rfl (JJ rfl rfl rfl (Qb rfl rfl (QN 7 rfl (fun h1=> ?_) (fun h1=> ?_)))))))))))
 ·refine Qj rfl rfl (QW h1) (Qb rfl rfl (Qj rfl rfl (QW h1) (Qb rfl rfl (Qj rfl rfl (QW h1) (Qk rfl rfl (Qj rfl rfl (QW h1) (Qg rfl HA rfl (Qj rfl rfl (QW h1) (Qo rfl Gu (hS.cell 0 rfl rfl) rfl (Qj rfl rfl (QW h1) (X5 Tryz.underlying61 rfl rfl (Qj rfl rfl (QW h1) (Xb rfl rfl rfl (QC rfl (QW h1) rfl rfl (Qb rfl rfl (QN 16 rfl (fun h2=> ?_) (fun h2=> ?_)))))))))))))))))
  ·obtain⟨pg,hp⟩: ∃p,sl[slot.toNat]? =some p:=⟨_,Zd (by omega)⟩
   refine Qj rfl rfl (QW h2) (Qb rfl rfl (Qj rfl rfl (QW h2) (Qk rfl rfl (Qj rfl rfl (QW h2) (Qg rfl HA rfl (Qj rfl rfl (QW h2) (Qo rfl Gu (hS.cell 0 rfl rfl) rfl (Qj rfl rfl (QW h2) (Qb rfl rfl (Qj rfl rfl (QW h2) (Xu stC 1 slot.toNat hS rfl rfl rfl (by omega) hp KG rfl ?_)))))))))))
   intro bx3 capx3 hvx3
   refine Qj rfl rfl (QW h2) (Z1 1 slot.toNat 0 hS rfl hvx3 rfl rfl hp ZC rfl rfl (Qj rfl rfl (QW h2) (Rq rfl rfl rfl (QC rfl (QW h2) rfl rfl (Qe rfl rfl (Qf (Qc (Qi [4] rfl (Qu (QQ (.inr rfl) rfl rfl ?_))))))))))
   exact⟨_,rfl, by unfold GU; rw[hp,QW (show 0≤slot by omega),Bool.true_and]; simp,J0 hsl (hS.pick [0,1,2] rfl)⟩
  refine Qh rfl rfl (Q0 h2) rfl (Qh rfl rfl (Q0 h2) rfl (Qh rfl rfl (Q0 h2) rfl (Qh rfl rfl (Q0 h2) rfl (Qh rfl rfl (Q0 h2) rfl (Qh rfl rfl (Q0 h2) rfl (Qh rfl rfl (Q0 h2) rfl (Qh rfl rfl (Q0 h2) rfl (QG rfl (Q0 h2) rfl rfl (Qe rfl rfl (Qf (Qc (Qi [4] rfl (Qu (QQ (.inr rfl) rfl rfl ?_))))))))))))))
  exact⟨_,rfl, by unfold GU; rw[List.getElem?_eq_none (by omega),Bool.and_false],J0 hsl (hS.pick [0,1,2] rfl)⟩
 refine Qh rfl rfl (Q0 h1) rfl (Qh rfl rfl (Q0 h1) rfl (Qh rfl rfl (Q0 h1) rfl (Qh rfl rfl (Q0 h1) rfl (Qh rfl rfl (Q0 h1) rfl (Qh rfl rfl (Q0 h1) rfl (Qh rfl rfl (Q0 h1) rfl (QG rfl (Q0 h1) rfl rfl (Qb rfl rfl (Qh rfl rfl rfl rfl (Qh rfl rfl rfl rfl (Qh rfl rfl rfl rfl (Qh rfl rfl rfl rfl (Qh rfl rfl rfl rfl (Qh rfl rfl rfl rfl (Qh rfl rfl rfl rfl (Qh rfl rfl rfl rfl (QG rfl rfl rfl rfl (Qe rfl rfl (Qf (Qc (Qi [4] rfl (Qu (QQ (.inr rfl) rfl rfl ?_)))))))))))))))))))))))
 exact⟨_,rfl, by unfold GU; rw[Q0 (show ¬0≤slot by omega),Bool.false_and],J0 hsl (hS.pick [0,1,2] rfl)⟩
theorem Pz {sl:List Bs} {slot:Int} (h:GU sl slot=true):0≤slot∧ ∃p,sl[slot.toNat]? =some p∧p≠[]:= by
  unfold GU at h
  rw[Bool.and_eq_true,decide_eq_true_eq]at h
  refine⟨h.1, ?_⟩
  cases hq:sl[slot.toNat]? with
  | none=> rw[hq]at h; exact absurd h.2 (by simp)
  | some p=> rw[hq]at h; exact⟨p,rfl, by simpa using h.2⟩
def DI (sl:List Bs) (slot:Int):Bs:= if GU sl slot=true then(sl[slot.toNat]?).getD []else[]
def KN (sl:List Bs) (slot:Int):List Bs:= if GU sl slot=true then sl.set slot.toNat []else sl
theorem six_sp {w:World} {F:Th} (hS:Sat w [F]) {lv:Value} {l:List Bs} (hL:Ent F (RdL stC lv l)) (e:Bs):
    Calls Tryz.prog 205 #[lv,strV e] w (Ret fun v w'=>(v=intV (-1)∧e∉l∧Sat w' [F])∨(∃k:Nat,v=intV (k:Int)∧l[k]? =some e∧Sat w' [F])):= by
 obtain⟨ao,cap,rfl,hmax⟩:=(hL.sat hS 0 rfl).shape
 refine Qq Tryz.func205 rfl Tryz.ntmps205 rfl ?_
 refine Qd (Qa (Qe rfl rfl (Qf (Qc (Qd (Qd (Qa (Qb rfl rfl (X5 Tryz.underlying61 rfl rfl (Qb rfl rfl (Qf (Qc (Qw ?_)))))))))))))
 refine Xe (fun K0 E0 W0=> ∃(i:Nat),K0=l.length -i∧E0=[(0,.slice ao l.length cap),(1,strV e),(7,intV (l.length:Int)),(8,intV (i:Int))]∧Sat W0 [F]∧(i≤l.length)∧(∀j y,j<i→l[j]? =some y→y≠e)) (L0:=[(0,_),(1,_),(7,_),(8,_)]) (l.length -0) (Vk rfl rfl rfl rfl) ⟨0,rfl,rfl,hS, by omega, by omega⟩ ?_
 rintro _ _ w1 ⟨i,rfl,rfl,hS1,hi,hno⟩
 refine Qd (Qa (Xb rfl rfl rfl (Qf (Qc (Qd (Qs rfl (fun h2=> ?_) (fun h2=> ?_)))))))
 ·obtain⟨x,hx⟩: ∃x,l[i]? =some x:=⟨_,Zd (by omega)⟩
  obtain⟨b,off,rfl,_⟩:=(hL.sat hS1 0 rfl).get hx
  refine Qr (Qc (Qd (Qw (Qd (Qa (Qb rfl rfl (Qe rfl rfl (Qf (Qc (Qd (Qa (Qb rfl rfl (Qb rfl rfl (Qb rfl rfl (XI i rfl rfl (by first | rfl | omega) ((XQ hx).1) KG rfl ?_)))))))))))))))
  refine Qo rfl ZC (((hL.sat hS1 0 rfl).at_ hx) 0 _ rfl) rfl (BH rfl rfl rfl (Qf (Qc (Qi [8,7,1,0,5,16] rfl (Qs rfl (fun h3=> ?_) (fun h3=> ?_))))))
  ·have heq:e=x:=h3
   refine Qd (Qa (Qb rfl rfl (Qe rfl rfl (Qf (Qc (Qu (Qx (Qn (Qn (Qx (Qn (QQ (.inr rfl) rfl rfl ?_))))))))))))
   exact⟨_,rfl,.inr ⟨i,rfl, by rw[hx,heq],hS1.pick [0] rfl⟩⟩
  have hne: ¬e=x:=h3
  refine Qr (Ql (Qc (Qa (QK rfl rfl (by omega) (by omega) rfl ?_))))
  refine Qb rfl rfl (Qf ?_)
  exact Q6 (L1:=[(0,_),(1,_),(7,_),(8,intV ((i+1:Nat):Int))]) (Vk rfl rfl rfl rfl) (k1:=l.length -(i+1)) (by omega) ⟨i+1,rfl,rfl,hS1.pick [0] rfl, by omega, fun j y hj hq=> by by_cases e:j=i;(subst e; rw[hx]at hq; cases hq; exact fun q=>hne q.symm); exact hno j y (by omega) hq⟩
 refine QS (Qp (Qp (Qz (Qc (Qd (Qa (Qe rfl rfl (Qf (Qc (Qu (QQ (.inr rfl) rfl rfl ?_)))))))))))
 exact⟨_,rfl,.inl ⟨rfl, fun hm=> by obtain⟨j,hj⟩:=List.mem_iff_getElem?.1 hm; exact hno j e (by have :=(XQ hj).1;omega) hj rfl,hS1.pick [0] rfl⟩⟩
theorem NI {w:World} {p:Nat} {sl:List Bs} {F:Th} (hS:Sat w [Gx p sl,F]) (page:Bs) (hpl:page.length=64):
    Calls Tryz.prog 172 #[ptrV p 0,strV page] w (Ret fun v w'=>(WE sl=sl.length∧v= .tuple #[intV (-1),.bool false]∧Sat w' [Gx p sl,F])∨(∃k:Nat,sl[k]? =some []∧v= .tuple #[intV (k:Int),.bool true]∧Sat w' [Gx p (sl.set k page),F])):= by
 refine Qq Tryz.func172 rfl Tryz.ntmps172 rfl ?_
 refine Qd (Qa (Qe rfl rfl (Qe rfl rfl (Qf (Qc (Qd (Qd ?_)))))))
 have hul:=Hx sl
 obtain⟨sa,sc,du,re,hsl,hSo⟩:=H1 (hS.pick [0,1] rfl)
 have hS1:=hSo.drew
 refine QJ [0,1,2,3,4,5,6,7,8,9,10,11,12,13,14] [] Wp (by kernel_rfl) ?_
 refine QE rfl rfl rfl (QU rfl rfl rfl (fun _=>(Df Tryz.underlying9 rfl)) ?_)
 refine QU rfl rfl rfl (fun _=>(VE rfl rfl)) ?_
 refine QE rfl rfl rfl (Wn 10 rfl (fun h2=> ?_) (fun h2=> ?_))
 ·exact absurd h2 (by omega)
 refine QU rfl rfl (Qy rfl rfl (Q0 h2)) (fun _=>(Ev.gd (Xa rfl))) ?_
 refine QU rfl rfl (Qy rfl rfl (Q0 h2)) (fun _=>(Ev.gd (Z7 rfl))) ?_
 refine QU rfl rfl (Qy rfl rfl (Q0 h2)) (fun _=>(Ev.gd (Zr rfl U1))) ?_
 refine Q9 rfl rfl (Qy rfl rfl (Q0 h2)) (Ev.gd (Qm rfl QO (hS1.cell 0 rfl rfl))) (QU rfl rfl (Qy rfl rfl (Q0 h2)) (fun _=>(Ev.gd (Xa rfl))) ?_)
 refine QU rfl rfl (Qy rfl rfl (Q0 h2)) (fun _=>(Ev.gd (Z7 rfl))) ?_
 refine QU rfl rfl (Qy rfl rfl (Q0 h2)) (fun _=>(Ev.gd (Zr rfl HA))) ?_
 refine Q9 rfl rfl (Qy rfl rfl (Q0 h2)) (Ev.gd (Qm rfl Gu (hS1.cell 0 rfl rfl))) (QU rfl rfl (Qy rfl rfl (Q0 h2)) (fun _=>(Ev.gd (Kr Tryz.underlying61 rfl))) ?_)
 refine QU rfl rfl (Qy rfl rfl (Q0 h2)) (fun _=>(Ev.gd (Hb rfl rfl))) ?_
 refine QU rfl rfl rfl (fun _=>(Wa rfl (Q0 h2) rfl)) ?_
 refine VC.nil (Qc (Qi [1,0,4,5,21] rfl (Qs rfl (fun h3=> ?_) (fun h3=> ?_))))
 ·exact Qd (Qa (Qe rfl rfl (Qe rfl rfl (Qf (Qc (Qu (Qn (Wx (.inr rfl) rfl rfl rfl (⟨_,rfl,.inl ⟨by omega,rfl,J0 hsl (hS1.pick [0,1,2] rfl)⟩⟩)))))))))
 refine Qr (Qc (Qd ?_))
 have hSz:=J0 hsl (hS1.pick [0,1,2] rfl)
 refine Qa (Qb rfl rfl (Qv Lx rfl (NH (hSz.sp [0] rfl)) rfl ?_))
 rintro _ w4 ⟨rfl,hS4⟩
 replace hS4:=hS4.jn rfl rfl
 clear hSz
 refine Qf (Qc (Qd ?_))
 have hul:=Hx sl
 obtain⟨sa,sc,du,re,hsl,hSo⟩:=H1 (hS4.pick [0,1] rfl)
 refine Qa (Qb rfl rfl (Qk rfl rfl (Qg rfl HA rfl (Qo rfl Gu (hSo.cell 0 rfl rfl) rfl (XY cal_205 rfl (six_sp (hSo.sp [] rfl) (Ent.starL (Hj (C:=stC) (l:=sl) (by omega)) 1 rfl) []) rfl ?_)))))
 rintro e w5 ⟨_,rfl,(⟨rfl,hno,hS5⟩ | ⟨k,rfl,hk,hS5⟩)⟩
 ·exact absurd (D7.1 (by have :=Hx sl;omega)) hno
 refine⟨_,rfl, ?_⟩
 replace hS5:=hS5.jn rfl rfl
 clear hSo
 refine Qe rfl rfl (Qf (Qc (Qi [1,0,4,5,6] rfl (Qd (Qa (Qb rfl rfl (Qk rfl rfl (Qg rfl HA rfl (Qo rfl Gu (hS5.cell 0 rfl rfl) rfl (Qb rfl rfl (Qb rfl rfl (Xu stC 1 k hS5 rfl rfl rfl (by first | rfl | omega) hk KG rfl ?_))))))))))))
 intro bx6 capx6 hvx6
 refine W6 1 k page hS5 rfl hvx6 rfl rfl sz_9 (by rfl) ((XQ hk).1) ?_
 intro w7 hS8; dsimp only[List.set]at hS8
 clear hS5
 refine Qf (Qc (Qi [0,4,5,6] rfl (Qd (Qa (Qb rfl rfl (Qk rfl rfl (Qg rfl U1 rfl (Qo rfl QO (hS8.cell 0 rfl rfl) rfl (QK rfl rfl (by omega) (by omega) rfl ?_)))))))))
 refine Qk rfl rfl (Qg rfl U1 rfl ?_)
 first | (refine QL hS8 rfl rfl Ug (by rfl) (i:=0) rfl (Xn rfl) ?_)
 intro w9 hS10; dsimp only[List.set]at hS10
 clear hS8
 refine Qf (Qc (Qi [4,5,6] rfl (Qd (Qa (Qb rfl rfl (Qe rfl rfl (Qe rfl rfl (Qf (Qc (Qu (Wx (.inr rfl) rfl rfl rfl ?_)))))))))))
 have hpn:page≠[]:= fun q=> by subst q; simp at hpl
 exact⟨_,rfl,.inr ⟨k,hk,rfl,J0 (by rw[List.length_set]; exact hsl) (by rw[G7 hk hpn,Int.natCast_add]; exact hS10.pick [0,1,2] rfl)⟩⟩
theorem NK {w:World} {p:Nat} {sl:List Bs} {F:Th} (hS:Sat w [Gx p sl,F]) (slot:Int):
    Calls Tryz.prog 93 #[ptrV p 0,intV slot] w (Ret fun v w'=> ∃e,v= .tuple #[strV (DI sl slot),intV e]∧Sat w' [Gx p sl,F]):= by
 refine Qq Tryz.func93 rfl Tryz.ntmps93 rfl ?_
 refine Qd (Qa (Qe rfl rfl (Qe rfl rfl (Qf (Qc (Qd (Qd (Qa (Qb rfl rfl (Qb rfl rfl (Qv Ly rfl (NJ (hS.sp [0] rfl) slot) rfl ?_)))))))))))
 rintro _ w1 ⟨rfl,hS1⟩
 replace hS1:=hS1.jn rfl rfl
 refine QR rfl rfl (Qf (Qc (QM rfl (fun h2=> ?_) (fun h2=> ?_))))
 ·refine Qd (Qa (Qe rfl rfl (Qe rfl rfl (Qf (Qc (Qu (Qn (Wx (.inr rfl) rfl rfl rfl ?_))))))))
  exact⟨_,rfl,_, by rw[show DI sl slot=[] by unfold DI; rw[if_neg (by simp_all)]],hS1.pick [0,1] rfl⟩
 have hh:GU sl slot=true:= by simpa using h2
 obtain⟨h0,pg,hp,hpn⟩:=Pz hh
 refine Qr (Qc (Qd (Qa (Qb rfl rfl (Qv Lx rfl (NH (hS1.sp [0] rfl)) rfl ?_)))))
 rintro _ w3 ⟨rfl,hS3⟩
 replace hS3:=hS3.jn rfl rfl
 clear hS1
 refine Qf (Qc (Qd ?_))
 have hul:=Hx sl
 obtain⟨sa,sc,du,re,hsl,hSo⟩:=H1 (hS3.pick [0,1] rfl)
 refine Qa (Qb rfl rfl (Qk rfl rfl (Qg rfl HA rfl (Qo rfl Gu (hSo.cell 0 rfl rfl) rfl (Qb rfl rfl (Xu stC 1 slot.toNat hSo rfl rfl rfl (by omega) hp KG rfl ?_))))))
 intro bx4 capx4 hvx4
 refine Z1 1 slot.toNat 0 hSo rfl hvx4 rfl rfl hp ZC rfl rfl (Qe rfl rfl (Qe rfl rfl (Qf (Qc (Qi [4,5] rfl (Qu (Wx (.inr rfl) rfl rfl rfl ?_)))))))
 exact⟨_,rfl,_, by rw[show DI sl slot=pg by unfold DI; rw[if_pos hh,hp];rfl],J0 hsl (hSo.pick [0,1,2] rfl)⟩
theorem GC {w:World} {p:Nat} {sl:List Bs} {F:Th} (hS:Sat w [Gx p sl,F]) (slot:Int):
    Calls Tryz.prog 155 #[ptrV p 0,intV slot] w (Ret fun v w'=>v= .tuple #[]∧Sat w' [Gx p (KN sl slot),F]):= by
 refine Qq Tryz.func155 rfl Tryz.ntmps155 rfl ?_
 refine Qd (Qa (Qb rfl rfl (Qb rfl rfl (Qv Ly rfl (NJ (hS.sp [0] rfl) slot) rfl ?_))))
 rintro _ w1 ⟨rfl,hS1⟩
 replace hS1:=hS1.jn rfl rfl
 refine Qf (Qc (QM rfl (fun h2=> ?_) (fun h2=> ?_)))
 ·have hh:GU sl slot=true:= by simpa using h2
  obtain⟨h0,pg,hp,hpn⟩:=Pz hh
  refine Qd ?_
  have hul:=Hx sl
  obtain⟨sa,sc,du,re,hsl,hSo⟩:=H1 (hS1.pick [0,1] rfl)
  refine Qa (Qb rfl rfl (Qk rfl rfl (Qg rfl HA rfl (Qo rfl Gu (hSo.cell 0 rfl rfl) rfl (Qb rfl rfl (Xu stC 1 slot.toNat hSo rfl rfl rfl (by omega) hp KG rfl ?_))))))
  intro bx3 capx3 hvx3
  refine W6 1 slot.toNat [] hSo rfl hvx3 rfl rfl sz_9 (by rfl) ((XQ hp).1) ?_
  intro w4 hS5; dsimp only[List.set]at hS5
  clear hSo
  refine Qf (Qc (Qi [0] rfl (Qa (Qb rfl rfl (Qk rfl rfl (Qg rfl U1 rfl (Qo rfl QO (hS5.cell 0 rfl rfl) rfl (Hf rfl rfl (by omega) (by omega) rfl ?_))))))))
  refine Qk rfl rfl (Qg rfl U1 rfl ?_)
  first | (refine QL hS5 rfl rfl Ug (by rfl) (i:=0) rfl (Xn rfl) ?_)
  intro w6 hS7; dsimp only[List.set]at hS7
  clear hS5
  refine Qf (ZB (.inl rfl) rfl ?_)
  exact⟨_,rfl,rfl, by rw[show KN sl slot=sl.set slot.toNat [] by unfold KN; rw[if_pos hh]]; exact J0 (by rw[List.length_set]; exact hsl) (by rw[show((WE (sl.set slot.toNat []):Nat):Int)=(WE sl:Nat) -1 by have :=D8 hp hpn;omega]; exact hS7.pick [0,1,2] rfl)⟩
 refine Qr (ZB (.inl rfl) rfl ?_)
 exact⟨_,rfl,rfl, by rw[show KN sl slot=sl by unfold KN; rw[if_neg (by simp_all)]]; exact hS1.pick [0,1] rfl⟩
theorem Ea {w:World} {p:Nat} {sl:List Bs} {F:Th} (hS:Sat w [Gx p sl,F]):
    Calls Tryz.prog 62 #[ptrV p 0] w (Ret fun v w'=>v=intV (WE sl:Nat)∧Sat w' [Gx p sl,F]):= by
 obtain⟨sa,sc,du,re,hsl,hS⟩:=H1 hS
 refine Qq Tryz.func62 rfl Tryz.ntmps62 rfl ?_
 exact Qd (Qa (Qe rfl rfl (Qf (Qc (Qd (Qa (Qb rfl rfl (Qk rfl rfl (Qg rfl U1 rfl (Qo rfl QO (hS.cell 0 rfl rfl) rfl (Qe rfl rfl (Qf (Qc (Qu (QQ (.inr rfl) rfl rfl (⟨_,rfl,rfl,J0 hsl (hS.pick [0,1,2] rfl)⟩))))))))))))))))
theorem srow (m:Nat):(List.replicate m [strV []]).flatten=stC.cells (List.replicate m []):= by
  induction m with
  | zero=>rfl
  | succ m ih=> rw[List.replicate_succ,List.flatten_cons,ih,List.replicate_succ];rfl
theorem AZ {w:World} {F:Th} (hS:Sat w [F]) (n:Int):
    Calls Tryz.prog 58 #[intV n] w (Ret fun v w'=> ∃p,v=ptrV p 0∧Sat w' [Gx p (List.replicate (max 0 (min n 4096)).toNat []),F]):= by
 refine Qq Tryz.func58 rfl Tryz.ntmps58 rfl ?_
 refine Qd (Qa (Qe rfl rfl (Qf (Qc (Qd (Qa (Qb rfl rfl (HL rfl rfl rfl (Yj rfl rfl rfl (Rt hS (max 0 (min n 4096)).toNat rfl rfl (by omega) Tryz.underlying61 ifo_9 rfl (by omega) (by omega) rfl ?_))))))))))
 intro db w1 hS1a; have hS1:=hS1a.row_cast (l:=List.replicate (max 0 (min n 4096)).toNat []) (C:=stC) (by simp) rfl (srow _)
 refine Zl rfl OG asz_185 zr_185 rfl rfl (XU hS1 rfl rfl rfl ?_)
 intro bp wbp hSbp
 clear hS1
 refine Qe rfl rfl (Qf (Qc (Qu (QQ (.inr rfl) rfl rfl ?_))))
 exact⟨_,rfl,_,rfl,J0 (du:=0) (re:=0) (by rw[List.length_replicate];omega) (by rw[St]; exact hSbp.pick [0,1,2] rfl)⟩
end Go.Proofs.YtkcjfoaejijdoaaGreatDoor
namespace Go.Proofs.YtkcjfoaejijdoaaGreatDoor.M
open Go.RowKit
section
variable {P:Program} {n:Nat} {ops:Array Oper} {Q:Exit→Act→World→Prop} {rest:List Oper} {L:Env} {w:World} {d:Nat} {ty:TypeId} {pos:String} {aft:Array Edge}
theorem AK {As:List Th} (i:Nat) (hS:Sat w As) {x y:Operand} {dT sT e b o off m m' cap size dl dc:Nat} {v:Value} {s:List UInt8} {xs xs':List Value} (hi:As[i]? =some (Ja v m size xs)) (hv:v= .slice (some ⟨b,o,none⟩) m' cap) (hx:look L x=some (.slice (some ⟨b,off,none⟩) dl dc)) (hy:look L y=some (strV s)) (hu:P.underlying dT=some (.slice e)) (hs:ZW P e=some 1) (hfit:off+min s.length dl≤xs.length)
    (hxs:X3 xs off (X8 (s.take dl))=xs') (hd:Nat.blt d n=true) (hk: ∀w',Sat w' (As.set i (Ja v m size xs'))→wl P n ops Q rest ((d,.int .i64 ((min s.length dl:Nat):Int))::L) w'):wl P n ops Q (⟨some d,.call ⟨.builtin .copy, #[x,y], #[dT,sT]⟩,ty,pos,aft,none⟩::rest) L w:= by
  subst hxs
  obtain⟨sp,hb,hback⟩:=hS.own_row i hi hv
  refine XR rfl hd (fun a ha=>Te dT sT x y rfl (ha.eval hx) (ha.eval hy) hb hu hs (by rw[Kf]; simp;omega)) ?_
  rintro u w' ⟨rfl,h1,h2,_⟩
  rw[Kf]
  have hl:off+(X8 (s.take dl)).length≤xs.length:= by simp [X8];omega
  refine hk w' (hback w' _ (Jj hl) ?_ h2)
  rw[←JZ hl]
  exact h1
theorem ev_strR {As:List Th} (i:Nat) (hS:Sat w As) {x:Operand} {sT dT e b o off m m' cap size dl dc:Nat} {v:Value} (l:List UInt8) {xs:List Value} (hi:As[i]? =some (Ja v m size xs)) (hv:v= .slice (some ⟨b,o,none⟩) m' cap) (hx:look L x=some (.slice (some ⟨b,off,none⟩) dl dc)) (hs:P.underlying sT=some (.slice e)) (he:P.underlying e=some (.int .u8)) (hd:P.underlying dT=some .string) (hl:(xs.drop off).take dl=X8 l) (hn:l.length=dl):Ev P L w ⟨some d,.convert sT dT x,ty,pos,aft,none⟩ (strV l):= fun ρ hρ=> by
  obtain⟨sp,hb,_⟩:=hS.own_row i hi hv
  subst hn
  have hr:=run_convert_bytes_back (P:=P) w sT dT e ⟨b,off,none⟩ dc l hs he hd (fun j hj=> by
    rw[Wb]
    refine hb.cell ?_
    have h1:=congrArg (fun q=>q[j]?) hl
    simp only[List.getElem?_take,hj,if_true,List.getElem?_drop,MK]at h1
    have hlt:off+j<xs.length:= by
      rcases Nat.lt_or_ge (off+j) xs.length with g | g
      · exact g
      · rw[List.getElem?_eq_none g,Zd hj]at h1; cases h1
    rw[List.getElem?_append_left hlt,h1,Zd hj];rfl)
  simp [execOp,hρ _ _ hx,hr]
theorem Dz {x y:Operand} {t e N b o sz:Nat} {k:IntKind} {i:Int} (hu:P.underlying t=some (.array N e)) (hN:Nat.blt 0 N=true) (hx:look L x=some (ptrV b o)) (hy:look L y=some (.int k i)) (hi:i=(N:Int)) (hs:ZW P e=some sz) (hd:Nat.blt d n=true) (hk:wl P n ops Q rest ((d,.slice (some ⟨b,o,none⟩) 0 0)::L) w):wl P n ops Q (⟨some d,.slice t x (some y) none none,ty,pos,aft,none⟩::rest) L w:=
  Xo hd (fun ρ hρ=> by
    have h3: ∀w,(sizeOf e).run P w= .ok sz w:= fun w=>run_sizeOf hs w
    have hn: ¬N=0:= by simp at hN;omega
    have hb:= fun w=>KS (P:=P) false N N (some (.int k i)) none N N ⟨k, by rw[hi]⟩ rfl (Nat.le_refl _) (Nat.le_refl _) w
    simp [execOp,hρ _ _ hx,hρ _ _ hy,Instr.sliceAt,run_underlying hu,Instr.sureAddr,hb,h3,hn]) hk
end
end Go.Proofs.YtkcjfoaejijdoaaGreatDoor.M
namespace Go.Proofs.YtkcjfoaejijdoaaGreatDoor
open Go.RowKit M
structure FrD where
  u:Bool
  b:Bs
def Nv (b:Bs):List UInt8:=(List.range 64).map fun i=>(b[i]?).getD 0
theorem Gs (b:Bs):(Nv b).length=64:= by simp [Nv]
theorem Gr {b:Bs} (h:b.length=64):Nv b=b:= by
  apply List.ext_getElem?
  intro i
  by_cases hi:i<64
  · unfold Nv; rw[List.getElem?_map,List.getElem?_range hi,Option.map_some,Zd (by omega)];rfl
  · rw[List.getElem?_eq_none (by rw[Gs];omega),List.getElem?_eq_none (by omega)]
def P7 (x:FrD):List Value:= .bool x.u::X8 (Nv x.b)
theorem MJ (l:List UInt8):(X8 l).length=l.length:= by simp [X8]
theorem Lf (x:FrD):(P7 x).length=65:= by unfold P7; rw[List.length_cons,MJ,Gs]
theorem frE_one (x:FrD):HG (P7 x)=true:= by
  refine Bk fun v hv=> ?_
  unfold P7 at hv
  rcases List.mem_cons.1 hv with rfl | hv
  · rfl
  · unfold X8 at hv
    obtain⟨b,_,rfl⟩:=List.mem_map.1 hv
    rfl
def frC:RowC FrD:=⟨P7,65, by decide,Lf,frE_one⟩
def Mv (x:FrD):Option Bs:= if x.u=true then some (Nv x.b)else none
def Yd (fl:List (Option Bs)):Nat:=(fl.filter Option.isSome).length
def RQ (p:Nat) (fl:List (Option Bs)):Th:=CG fun q:Value×List FrD=>starL [WN (fl=q.2.map Mv∧fl.length≤4096),QF p [q.1,intV (Yd fl:Nat)],rowT frC q.1 q.2]
theorem Uz {w:World} {p:Nat} {fl:List (Option Bs)} {As:List Th} (h:Sat w (RQ p fl::As)): ∃ao cap cl,fl=cl.map Mv∧cl.length≤4096∧Sat w (QF p [.slice ao cl.length cap,intV (Yd fl:Nat)]::rowT frC (.slice ao cl.length cap) cl::As):= by
  obtain⟨⟨v,cl⟩,h⟩:=h.ex
  obtain⟨⟨h1,h3⟩,h2⟩:=h.flat.pure_elim
  obtain⟨ao,cap,hv,_⟩:=Sat.own_shape (As:=QF p _::rowT frC v cl::As) h2 1 rfl
  obtain rfl:=hv
  exact⟨ao,cap,cl,h1, by rw[h1,List.length_map]at h3; exact h3,h2⟩
theorem JW {w:World} {p:Nat} {fl:List (Option Bs)} {As:List Th} {v:Value} {cl:List FrD} (h1:fl=cl.map Mv) (hl:cl.length≤4096) (h:Sat w (QF p [v,intV (Yd fl:Nat)]::rowT frC v cl::As)):Sat w (RQ p fl::As):=
  Sat.ex_intro (v,cl) (Sat.fold (As:=[WN _,QF p _,rowT frC v cl]) (Sat.pure_intro ⟨h1, by rw[h1,List.length_map]; exact hl⟩ h))
theorem Vr (fl:List (Option Bs)):Yd fl≤fl.length:=List.length_filter_le _ _
theorem Tv: ∀{fl:List (Option Bs)} {k:Nat} {b:Bs},fl[k]? =some none→Yd (fl.set k (some b))=Yd fl+1
  | [],_,_,h=> by simp at h
  | a::fl,0,b,h=> by
    simp at h; subst h
    unfold Yd; simp
  | a::fl,k+1,b,h=> by
    have :=Tv (fl:=fl) (k:=k) (b:=b) (by simpa using h)
    unfold Yd at this⊢
    rw[List.set_cons_succ,List.filter_cons,List.filter_cons]
    split
    · rw[List.length_cons,List.length_cons,this]
    · exact this
theorem D9: ∀{fl:List (Option Bs)} {k:Nat} {b:Bs},fl[k]? =some (some b)→Yd (fl.set k none)+1=Yd fl
  | [],_,_,h=> by simp at h
  | a::fl,0,b,h=> by
    simp at h; subst h
    unfold Yd; simp
  | a::fl,k+1,b,h=> by
    have :=D9 (fl:=fl) (k:=k) (b:=b) (by simpa using h)
    unfold Yd at this⊢
    rw[List.set_cons_succ,List.filter_cons,List.filter_cons]
    split
    · rw[List.length_cons,List.length_cons,←this]
    · exact this
theorem KL: ∀{fl:List (Option Bs)} {k:Nat} {b c:Bs},fl[k]? =some (some b)→Yd (fl.set k (some c))=Yd fl
  | [],_,_,_,h=> by simp at h
  | a::fl,0,b,c,h=> by
    simp at h; subst h
    unfold Yd; simp
  | a::fl,k+1,b,c,h=> by
    have :=KL (fl:=fl) (k:=k) (b:=b) (c:=c) (by simpa using h)
    unfold Yd at this⊢
    rw[List.set_cons_succ,List.filter_cons,List.filter_cons]
    split
    · rw[List.length_cons,List.length_cons,this]
    · exact this
def ZZ (fl:List (Option Bs)) (f:Int):Option Bs:= if 0≤f then(match fl[f.toNat]? with | some (some b)=>some b | _=>none)else none
theorem YB {fl:List (Option Bs)} {f:Int} {b:Bs} (h:ZZ fl f=some b):0≤f∧fl[f.toNat]? =some (some b):= by
  unfold ZZ at h
  split at h
  · rename_i h0
    refine⟨h0, ?_⟩
    split at h
    · rename_i b' hb; cases h; exact hb
    · cases h
  · cases h
theorem IB {cl:List FrD} {f:Int} {x:FrD} (h0:0≤f) (hx:cl[f.toNat]? =some x):ZZ (cl.map Mv) f=Mv x:= by
  unfold ZZ
  rw[if_pos h0,List.getElem?_map,hx,Option.map_some]
  unfold Mv
  cases x.u<;>rfl
theorem TU {cl:List FrD} {f:Int} (h:f<0∨(cl.length:Int)≤f):ZZ (cl.map Mv) f=none:= by
  unfold ZZ
  split
  · rw[List.getElem?_eq_none (by rw[List.length_map];omega)]
  · rfl
theorem RP {w:World} {p:Nat} {fl:List (Option Bs)} {F:Th} (hS:Sat w [RQ p fl,F]) (f:Int):
    Calls Tryz.prog 138 #[ptrV p 0,intV f] w (Ret fun v w'=>v= .bool (ZZ fl f).isSome∧Sat w' [RQ p fl,F]):= by
 obtain⟨fa,fc,cl,hfl,hcl,hS⟩:=Uz hS
 refine Qq Tryz.func138 rfl Tryz.ntmps138 rfl ?_
 refine Qd (Qa (Qe rfl rfl (Qf (Qc (Qd (Qa (Qb rfl rfl (JJ rfl rfl rfl (Qb rfl rfl (QN 7 rfl (fun h1=> ?_) (fun h1=> ?_)))))))))))
 ·refine Qj rfl rfl (QW h1) (Qb rfl rfl (Qj rfl rfl (QW h1) (Qb rfl rfl (Qj rfl rfl (QW h1) (Qk rfl rfl (Qj rfl rfl (QW h1) (Qg rfl Yy rfl (Qj rfl rfl (QW h1) (Qo rfl Ve (hS.cell 0 rfl rfl) rfl (Qj rfl rfl (QW h1) (X5 Tryz.underlying181 rfl rfl (Qj rfl rfl (QW h1) (Xb rfl rfl rfl (QC rfl (QW h1) rfl rfl (Qb rfl rfl (QN 16 rfl (fun h2=> ?_) (fun h2=> ?_)))))))))))))))))
  ·obtain⟨x,hx⟩: ∃x,cl[f.toNat]? =some x:=⟨_,Zd (by omega)⟩
   refine Qj rfl rfl (QW h2) (Qb rfl rfl (Qj rfl rfl (QW h2) (Qk rfl rfl (Qj rfl rfl (QW h2) (Qg rfl Yy rfl (Qj rfl rfl (QW h2) (Qo rfl Ve (hS.cell 0 rfl rfl) rfl (Qj rfl rfl (QW h2) (Qb rfl rfl (Qj rfl rfl (QW h2) (Xu frC 1 f.toNat hS rfl rfl rfl (by omega) hx VH rfl ?_)))))))))))
   intro bx3 capx3 hvx3
   refine Qj rfl rfl (QW h2) (Qg rfl Mx rfl (Qj rfl rfl (QW h2) (Z1 1 f.toNat 0 hS rfl hvx3 rfl rfl hx MQ rfl rfl (QC rfl (QW h2) rfl rfl (Qe rfl rfl (Qf (Qc (Qi [4] rfl (Qu (QQ (.inr rfl) rfl rfl ?_))))))))))
   exact⟨_,rfl, by rw[hfl,IB (by omega) hx];unfold Mv; cases x.u<;>rfl,JW hfl hcl (hS.pick [0,1,2] rfl)⟩
  refine Qh rfl rfl (Q0 h2) rfl (Qh rfl rfl (Q0 h2) rfl (Qh rfl rfl (Q0 h2) rfl (Qh rfl rfl (Q0 h2) rfl (Qh rfl rfl (Q0 h2) rfl (Qh rfl rfl (Q0 h2) rfl (Qh rfl rfl (Q0 h2) rfl (Qh rfl rfl (Q0 h2) rfl (QG rfl (Q0 h2) rfl rfl (Qe rfl rfl (Qf (Qc (Qi [4] rfl (Qu (QQ (.inr rfl) rfl rfl ?_))))))))))))))
  exact⟨_,rfl, by rw[hfl,TU (by omega)];rfl,JW hfl hcl (hS.pick [0,1,2] rfl)⟩
 refine Qh rfl rfl (Q0 h1) rfl (Qh rfl rfl (Q0 h1) rfl (Qh rfl rfl (Q0 h1) rfl (Qh rfl rfl (Q0 h1) rfl (Qh rfl rfl (Q0 h1) rfl (Qh rfl rfl (Q0 h1) rfl (Qh rfl rfl (Q0 h1) rfl (QG rfl (Q0 h1) rfl rfl (Qb rfl rfl (Qh rfl rfl rfl rfl (Qh rfl rfl rfl rfl (Qh rfl rfl rfl rfl (Qh rfl rfl rfl rfl (Qh rfl rfl rfl rfl (Qh rfl rfl rfl rfl (Qh rfl rfl rfl rfl (Qh rfl rfl rfl rfl (QG rfl rfl rfl rfl (Qe rfl rfl (Qf (Qc (Qi [4] rfl (Qu (QQ (.inr rfl) rfl rfl ?_)))))))))))))))))))))))
 exact⟨_,rfl, by rw[hfl,TU (by omega)];rfl,JW hfl hcl (hS.pick [0,1,2] rfl)⟩
end Go.Proofs.YtkcjfoaejijdoaaGreatDoor
