/- swap -/
import Derived.Test.YtkcjfoaejijdoaaGreatDoorFw
set_option linter.unusedVariables false
set_option maxRecDepth 100000
namespace Go.Proofs.YtkcjfoaejijdoaaGreatDoor
open Go.RowKit M Proofs.Tryz
def WQ (sl:List Bs):Nat:=(sl.filter fun p=> !decide (p=[])).length
def GG (sl:List Bs) (slot:Int):Bool:=decide (0≤slot)&&(match sl[slot.toNat]? with | some p=> !decide (p=[]) | none=>false)
theorem HD (sl:List Bs):WQ sl≤sl.length:=List.length_filter_le _ _
theorem Gr: ∀{sl:List Bs} {k:Nat} {p:Bs},sl[k]? =some []→p≠[]→WQ (sl.set k p)=WQ sl+1
  | [],_,_,h,_=> by simp at h
  | a::sl,0,p,h,hp=> by
    simp at h; subst h
    unfold WQ; simp [hp]
  | a::sl,k+1,p,h,hp=> by
    have :=Gr (sl:=sl) (k:=k) (by simpa using h) hp
    unfold WQ at this⊢
    rw[List.set_cons_succ,List.filter_cons,List.filter_cons]
    split
    · rw[List.length_cons,List.length_cons,this]
    · exact this
theorem BW: ∀{sl:List Bs} {k:Nat} {p:Bs},sl[k]? =some p→p≠[]→WQ (sl.set k [])+1=WQ sl
  | [],_,_,h,_=> by simp at h
  | a::sl,0,p,h,hp=> by
    simp at h; subst h
    unfold WQ; simp [hp]
  | a::sl,k+1,p,h,hp=> by
    have :=BW (sl:=sl) (k:=k) (by simpa using h) hp
    unfold WQ at this⊢
    rw[List.set_cons_succ,List.filter_cons,List.filter_cons]
    split
    · rw[List.length_cons,List.length_cons,←this]
    · exact this
theorem BV {sl:List Bs}:WQ sl<sl.length↔[]∈sl:= by
  unfold WQ
  induction sl with
  | nil=> simp
  | cons a sl ih=>
    have hle:=HD sl
    unfold WQ at hle
    by_cases ha:a=[]
    · subst ha
      rw[List.filter_cons,if_neg (by simp),List.length_cons]
      exact⟨fun _=>List.mem_cons_self, fun _=> by omega⟩
    · rw[List.filter_cons,if_pos (by simp [ha]),List.length_cons,List.length_cons,List.mem_cons]
      constructor
      · intro h; exact .inr (ih.1 (by omega))
      · rintro(h | h)
        · exact absurd h.symm ha
        · have :=ih.2 h;omega
theorem Pn (m:Nat):WQ (List.replicate m [])=0:= by unfold WQ; simp
def KH (p:Nat) (sl:List Bs):Th:=Cw fun q:Value×Int×Int=>starL [Yc (sl.length≤4096),Q8 p [q.1,intV (WQ sl:Nat),intV q.2.1,intV q.2.2],rowT stC q.1 sl]
theorem YX {w:World} {p:Nat} {sl:List Bs} {As:List Th} (h:Sat w (KH p sl::As)): ∃ao cap du re,sl.length≤4096∧Sat w (Q8 p [.slice ao sl.length cap,intV (WQ sl:Nat),intV du,intV re]::rowT stC (.slice ao sl.length cap) sl::As):= by
  obtain⟨⟨v,du,re⟩,h⟩:=h.ex
  obtain⟨h1,h2⟩:=h.flat.pure_elim
  obtain⟨ao,cap,hv,_⟩:=Sat.own_shape (As:=Q8 p _::rowT stC v sl::As) h2 1 rfl
  obtain rfl:=hv
  exact⟨ao,cap,du,re,h1,h2⟩
theorem WV {w:World} {p:Nat} {sl:List Bs} {As:List Th} {v:Value} {du re:Int} (hl:sl.length≤4096) (h:Sat w (Q8 p [v,intV (WQ sl:Nat),intV du,intV re]::rowT stC v sl::As)):Sat w (KH p sl::As):=
  Sat.ex_intro (v,du,re) (Sat.fold (As:=[Yc (sl.length≤4096),Q8 p _,rowT stC v sl]) (Sat.pure_intro hl h))
theorem C4 {w:World} {p:Nat} {sl:List Bs} {F:Th} (hS:Sat w [KH p sl,F]):
    Calls prog 144 #[ptrV p 0] w (Ret fun v w'=>v= .tuple #[]∧Sat w' [KH p sl,F]):= by
 obtain⟨sa,sc,du,re,hsl,hS⟩:=YX hS
 refine Qm func144 U ntmps144 U ?_
 refine Qd ?_
 have j1:=hS.drew
 refine QE [0,1,2,3,4,5,6,7,8,9,10,11] [11] Wa (by kernel_rfl) ?_
 refine Q9 U U U (Xi U U U (QQ U U U Ny (Q4 U U U (Ql U QL (j1.cell 0 U U)) (Q9 U U U (Xi U U U (QQ U U U Nz (Q4 U U U (Ql U QL (j1.cell 0 U U)) (QZ U U U (fun _=>(BG U U U)) ?_))))))))
 refine Xi U U U (QQ U U U Ny (Xe U U U U U U ?_))
 first | (refine QV j1 U U Yq (by rfl) (i:=0) U (Xv U) ?_)
 intro w2 j3; dsimp only[List.set]at j3
 refine Zu (Xj (by kernel_rfl)) ?_
 refine VC.nil (Qc (Qh [0] U (Qa (Qb U U (Qj U U (Qg U Nz U ?_))))))
 first | (refine QV j3 U U Yq (by rfl) (i:=0) U (Xv U) ?_)
 intro w4 j5; dsimp only[List.set]at j5
 exact Qf (ZU (.inl U) U (⟨_,U,U,WV hsl (j5.pick [0,1,2] U)⟩))
theorem C6 {w:World} {p:Nat} {sl:List Bs} {F:Th} (hS:Sat w [KH p sl,F]) (slot:Int):
    Calls prog 143 #[ptrV p 0,intV slot] w (Ret fun v w'=>v= .bool (GG sl slot)∧Sat w' [KH p sl,F]):= by
 obtain⟨sa,sc,du,re,hsl,hS⟩:=YX hS
 refine Qm func143 U ntmps143 U ?_
 refine Qd (Qa (Qe U U (Qf (Qc (Qd (Qa (Qb U U (Jf U U U (Qb U U (Xc 7 U (fun h1=> ?_) (fun h1=> ?_)))))))))))
 ·refine Qo U U (Xm h1) (Qb U U (Qo U U (Xm h1) (Qb U U (Qo U U (Xm h1) (Qj U U (Qo U U (Xm h1) (Qg U Y8 U (Qo U U (Xm h1) (Qr U K8 (hS.cell 0 U U) U (Qo U U (Xm h1) (X7 underlying61 U U (Qo U U (Xm h1) (Xk U U U (QK U (Xm h1) U U (Qb U U (Xc 16 U (fun h2=> ?_) (fun h2=> ?_)))))))))))))))))
  ·obtain⟨pg,hp⟩: ∃p,sl[slot.toNat]? =some p:=⟨_,Zq (by omega)⟩
   refine Qo U U (Xm h2) (Qb U U (Qo U U (Xm h2) (Qj U U (Qo U U (Xm h2) (Qg U Y8 U (Qo U U (Xm h2) (Qr U K8 (hS.cell 0 U U) U (Qo U U (Xm h2) (Qb U U (Qo U U (Xm h2) (Xx stC 1 slot.toNat hS U U U (by omega) hp Bf U ?_)))))))))))
   intro bx3 capx3 hvx3
   refine Qo U U (Xm h2) (Zz 1 slot.toNat 0 hS U hvx3 U U hp W9 U U (Qo U U (Xm h2) (By U U U (QK U (Xm h2) U U (Qe U U (Qf (Qc (Qh [4] U (Qu (QY (.inr U) U U ?_))))))))))
   exact⟨_,rfl, by unfold GG; rw[hp,Xm (show 0≤slot by omega),Bool.true_and]; simp,WV hsl (hS.pick [0,1,2] U)⟩
  refine Qi U U (Q7 h2) U (Qi U U (Q7 h2) U (Qi U U (Q7 h2) U (Qi U U (Q7 h2) U (Qi U U (Q7 h2) U (Qi U U (Q7 h2) U (Qi U U (Q7 h2) U (Qi U U (Q7 h2) U (QW U (Q7 h2) U U (Qe U U (Qf (Qc (Qh [4] U (Qu (QY (.inr U) U U ?_))))))))))))))
  exact⟨_,rfl, by unfold GG; rw[List.getElem?_eq_none (by omega),Bool.and_false],WV hsl (hS.pick [0,1,2] U)⟩
 refine Qi U U (Q7 h1) U (Qi U U (Q7 h1) U (Qi U U (Q7 h1) U (Qi U U (Q7 h1) U (Qi U U (Q7 h1) U (Qi U U (Q7 h1) U (Qi U U (Q7 h1) U (QW U (Q7 h1) U U (Qb U U (Qi U U U U (Qi U U U U (Qi U U U U (Qi U U U U (Qi U U U U (Qi U U U U (Qi U U U U (Qi U U U U (QW U U U U (Qe U U (Qf (Qc (Qh [4] U (Qu (QY (.inr U) U U ?_)))))))))))))))))))))))
 exact⟨_,rfl, by unfold GG; rw[Q7 (show ¬0≤slot by omega),Bool.false_and],WV hsl (hS.pick [0,1,2] U)⟩
theorem Nn {sl:List Bs} {slot:Int} (h:GG sl slot=true):0≤slot∧ ∃p,sl[slot.toNat]? =some p∧p≠[]:= by
  unfold GG at h
  rw[Bool.and_eq_true,decide_eq_true_eq]at h
  refine⟨h.1, ?_⟩
  cases hq:sl[slot.toNat]? with
  | none=> rw[hq]at h; exact absurd h.2 (by simp)
  | some p=> rw[hq]at h; exact⟨p,rfl, by simpa using h.2⟩
def Dd (sl:List Bs) (slot:Int):Bs:= if GG sl slot=true then(sl[slot.toNat]?).getD []else[]
def KI (sl:List Bs) (slot:Int):List Bs:= if GG sl slot=true then sl.set slot.toNat []else sl
theorem six_sp {w:World} {F:Th} (hS:Sat w [F]) {lv:Value} {l:List Bs} (hL:Ent F (RdL stC lv l)) (e:Bs):
    Calls prog 205 #[lv,strV e] w (Ret fun v w'=>(v=intV (-1)∧e∉l∧Sat w' [F])∨(∃k:Nat,v=intV (k:Int)∧l[k]? =some e∧Sat w' [F])):= by
 obtain⟨ao,cap,rfl,hmax⟩:=(hL.sat hS 0 rfl).shape
 refine Qm func205 U ntmps205 U ?_
 refine Qd (Qa (Qe U U (Qf (Qc (Qd (Qd (Qa (Qb U U (X7 underlying61 U U (Qb U U (Qf (Qc (Qw ?_)))))))))))))
 refine Xg (fun K0 E0 W0=> ∃(i:Nat),K0=l.length -i∧E0=[(0,.slice ao l.length cap),(1,strV e),(7,intV (l.length:Int)),(8,intV (i:Int))]∧Sat W0 [F]∧(i≤l.length)∧(∀j y,j<i→l[j]? =some y→y≠e)) (L0:=[(0,_),(1,_),(7,_),(8,_)]) (l.length -0) (HR U U U U) ⟨0,rfl,rfl,hS, by omega, by omega⟩ ?_
 rintro _ _ w1 ⟨i,rfl,rfl,j1,hi,hno⟩
 refine Qd (Qa (Xk U U U (Qf (Qc (Qd (Qt U (fun h2=> ?_) (fun h2=> ?_)))))))
 ·obtain⟨x,hx⟩: ∃x,l[i]? =some x:=⟨_,Zq (by omega)⟩
  obtain⟨b,off,rfl,_⟩:=(hL.sat j1 0 rfl).get hx
  refine Qs (Qc (Qd (Qw (Qd (Qa (Qb U U (Qe U U (Qf (Qc (Qd (Qa (Qb U U (Qb U U (Qb U U (Z2 i U U (by rfl) ((Zb hx).1) Bf U ?_)))))))))))))))
  refine Qr U W9 (((hL.sat j1 0 U).at_ hx) 0 _ U) U (Rk U U U (Qf (Qc (Qh [8,7,1,0,5,16] U (Qt U (fun h3=> ?_) (fun h3=> ?_))))))
  ·have heq:e=x:=h3
   refine Qd (Qa (Qb U U (Qe U U (Qf (Qc (Qu (Qz (Qp (Qp (Qz (Qp (QY (.inr U) U U ?_))))))))))))
   exact⟨_,rfl,.inr ⟨i,rfl, by rw[hx,heq],j1.pick [0] U⟩⟩
  have hne: ¬e=x:=h3
  refine Qs (Qk (Qc (Qa (QO U U (by omega) (by omega) U ?_))))
  refine Qb U U (Qf ?_)
  exact Q3 (L1:=[(0,_),(1,_),(7,_),(8,intV ((i+1:Nat):Int))]) (HR U U U U) (k1:=l.length -(i+1)) (by omega) ⟨i+1,rfl,rfl,j1.pick [0] U, by omega, fun j y hj hq=> by by_cases e:j=i;(subst e; rw[hx]at hq; cases hq; exact fun q=>hne q.symm); exact hno j y (by omega) hq⟩
 refine QU (Qq (Qq (Qx (Qc (Qd (Qa (Qe U U (Qf (Qc (Qu (QY (.inr U) U U ?_)))))))))))
 exact⟨_,rfl,.inl ⟨rfl, fun hm=> by obtain⟨j,hj⟩:=List.mem_iff_getElem?.1 hm; exact hno j e (by have :=(Zb hj).1;omega) hj rfl,j1.pick [0] rfl⟩⟩
theorem C5 {w:World} {p:Nat} {sl:List Bs} {F:Th} (hS:Sat w [KH p sl,F]) (page:Bs) (hpl:page.length=64):
    Calls prog 172 #[ptrV p 0,strV page] w (Ret fun v w'=>(WQ sl=sl.length∧v= .tuple #[intV (-1),.bool false]∧Sat w' [KH p sl,F])∨(∃k:Nat,sl[k]? =some []∧v= .tuple #[intV (k:Int),.bool true]∧Sat w' [KH p (sl.set k page),F])):= by
 refine Qm func172 U ntmps172 U ?_
 refine Qd (Qa (Qe U U (Qe U U (Qf (Qc (Qd (Qd ?_)))))))
 have hul:=HD sl
 obtain⟨sa,sc,du,re,hsl,hSo⟩:=YX (hS.pick [0,1] rfl)
 have j1:=hSo.drew
 refine QE [0,1,2,3,4,5,6,7,8,9,10,11,12,13,14] [] Wa (by kernel_rfl) ?_
 refine Q9 U U U (QZ U U U (fun _=>(BF underlying9 U)) ?_)
 refine QZ U U U (fun _=>(Vx U U)) ?_
 refine Q9 U U U (Wy 10 U (fun h2=> ?_) (fun h2=> ?_))
 ·exact absurd h2 (by omega)
 refine QZ U U (Q0 U U (Q7 h2)) (fun _=>(Ev.gd (Xl U))) ?_
 refine QZ U U (Q0 U U (Q7 h2)) (fun _=>(Ev.gd (ZQ U))) ?_
 refine QZ U U (Q0 U U (Q7 h2)) (fun _=>(Ev.gd (ZB U Uy))) ?_
 refine Q4 U U (Q0 U U (Q7 h2)) (Ev.gd (Ql U QL (j1.cell 0 U U))) (QZ U U (Q0 U U (Q7 h2)) (fun _=>(Ev.gd (Xl U))) ?_)
 refine QZ U U (Q0 U U (Q7 h2)) (fun _=>(Ev.gd (ZQ U))) ?_
 refine QZ U U (Q0 U U (Q7 h2)) (fun _=>(Ev.gd (ZB U Y8))) ?_
 refine Q4 U U (Q0 U U (Q7 h2)) (Ev.gd (Ql U K8 (j1.cell 0 U U))) (QZ U U (Q0 U U (Q7 h2)) (fun _=>(Ev.gd (Ke underlying61 U))) ?_)
 refine QZ U U (Q0 U U (Q7 h2)) (fun _=>(Ev.gd (YM U U))) ?_
 refine QZ U U U (fun _=>(Wm U (Q7 h2) U)) ?_
 refine VC.nil (Qc (Qh [1,0,4,5,21] U (Qt U (fun h3=> ?_) (fun h3=> ?_))))
 ·exact Qd (Qa (Qe U U (Qe U U (Qf (Qc (Qu (Qp (Wz (.inr U) U U U (⟨_,rfl,.inl ⟨by omega,rfl,WV hsl (j1.pick [0,1,2] U)⟩⟩)))))))))
 refine Qs (Qc (Qd ?_))
 have hSz:=WV hsl (j1.pick [0,1,2] U)
 refine Qa (Qb U U (Qv F3 U (C4 (hSz.sp [0] U)) U ?_))
 rintro _ w4 ⟨rfl,j4⟩
 replace j4:=j4.jn U U
 clear hSz
 refine Qf (Qc (Qd ?_))
 have hul:=HD sl
 obtain⟨sa,sc,du,re,hsl,hSo⟩:=YX (j4.pick [0,1] rfl)
 refine Qa (Qb U U (Qj U U (Qg U Y8 U (Qr U K8 (hSo.cell 0 U U) U (Zc cal_205 U (six_sp (hSo.sp [] U) (Ent.starL (Jn (C:=stC) (l:=sl) (by omega)) 1 U) []) U ?_)))))
 rintro e w5 ⟨_,rfl,(⟨rfl,hno,j5⟩ | ⟨k,rfl,hk,j5⟩)⟩
 ·exact absurd (BV.1 (by have :=HD sl;omega)) hno
 refine⟨_,U, ?_⟩
 replace j5:=j5.jn U U
 clear hSo
 refine Qe U U (Qf (Qc (Qh [1,0,4,5,6] U (Qd (Qa (Qb U U (Qj U U (Qg U Y8 U (Qr U K8 (j5.cell 0 U U) U (Qb U U (Qb U U (Xx stC 1 k j5 U U U (by rfl) hk Bf U ?_))))))))))))
 intro bx6 capx6 hvx6
 refine WF 1 k page j5 U hvx6 U U sz_9 (by rfl) ((Zb hk).1) ?_
 intro w7 j8; dsimp only[List.set]at j8
 refine Qf (Qc (Qh [0,4,5,6] U (Qd (Qa (Qb U U (Qj U U (Qg U Uy U (Qr U QL (j8.cell 0 U U) U (QO U U (by omega) (by omega) U ?_)))))))))
 refine Qj U U (Qg U Uy U ?_)
 first | (refine QV j8 U U Yq (by rfl) (i:=0) U (Xv U) ?_)
 intro w9 j10; dsimp only[List.set]at j10
 refine Qf (Qc (Qh [4,5,6] U (Qd (Qa (Qb U U (Qe U U (Qe U U (Qf (Qc (Qu (Wz (.inr U) U U U ?_)))))))))))
 have hpn:page≠[]:= fun q=> by subst q; simp at hpl
 exact⟨_,rfl,.inr ⟨k,hk,rfl,WV (by rw[List.length_set]; exact hsl) (by rw[Gr hk hpn,Int.natCast_add]; exact j10.pick [0,1,2] U)⟩⟩
theorem C7 {w:World} {p:Nat} {sl:List Bs} {F:Th} (hS:Sat w [KH p sl,F]) (slot:Int):
    Calls prog 93 #[ptrV p 0,intV slot] w (Ret fun v w'=> ∃e,v= .tuple #[strV (Dd sl slot),intV e]∧Sat w' [KH p sl,F]):= by
 refine Qm func93 U ntmps93 U ?_
 refine Qd (Qa (Qe U U (Qe U U (Qf (Qc (Qd (Qd (Qa (Qb U U (Qb U U (Qv F4 U (C6 (hS.sp [0] U) slot) U ?_)))))))))))
 rintro _ w1 ⟨rfl,j1⟩
 replace j1:=j1.jn U U
 refine Xb U U (Qf (Qc (QT U (fun h2=> ?_) (fun h2=> ?_))))
 ·refine Qd (Qa (Qe U U (Qe U U (Qf (Qc (Qu (Qp (Wz (.inr U) U U U ?_))))))))
  exact⟨_,rfl,_, by rw[show Dd sl slot=[] by unfold Dd; rw[if_neg (by simp_all)]],j1.pick [0,1] U⟩
 have hh:GG sl slot=true:= by simpa using h2
 obtain⟨h0,pg,hp,hpn⟩:=Nn hh
 refine Qs (Qc (Qd (Qa (Qb U U (Qv F3 U (C4 (j1.sp [0] U)) U ?_)))))
 rintro _ w3 ⟨rfl,j3⟩
 replace j3:=j3.jn U U
 refine Qf (Qc (Qd ?_))
 have hul:=HD sl
 obtain⟨sa,sc,du,re,hsl,hSo⟩:=YX (j3.pick [0,1] rfl)
 refine Qa (Qb U U (Qj U U (Qg U Y8 U (Qr U K8 (hSo.cell 0 U U) U (Qb U U (Xx stC 1 slot.toNat hSo U U U (by omega) hp Bf U ?_))))))
 intro bx4 capx4 hvx4
 refine Zz 1 slot.toNat 0 hSo U hvx4 U U hp W9 U U (Qe U U (Qe U U (Qf (Qc (Qh [4,5] U (Qu (Wz (.inr U) U U U ?_)))))))
 exact⟨_,rfl,_, by rw[show Dd sl slot=pg by unfold Dd; rw[if_pos hh,hp];rfl],WV hsl (hSo.pick [0,1,2] U)⟩
theorem Gw {w:World} {p:Nat} {sl:List Bs} {F:Th} (hS:Sat w [KH p sl,F]) (slot:Int):
    Calls prog 155 #[ptrV p 0,intV slot] w (Ret fun v w'=>v= .tuple #[]∧Sat w' [KH p (KI sl slot),F]):= by
 refine Qm func155 U ntmps155 U ?_
 refine Qd (Qa (Qb U U (Qb U U (Qv F4 U (C6 (hS.sp [0] U) slot) U ?_))))
 rintro _ w1 ⟨rfl,j1⟩
 replace j1:=j1.jn U U
 refine Qf (Qc (QT U (fun h2=> ?_) (fun h2=> ?_)))
 ·have hh:GG sl slot=true:= by simpa using h2
  obtain⟨h0,pg,hp,hpn⟩:=Nn hh
  refine Qd ?_
  have hul:=HD sl
  obtain⟨sa,sc,du,re,hsl,hSo⟩:=YX (j1.pick [0,1] rfl)
  refine Qa (Qb U U (Qj U U (Qg U Y8 U (Qr U K8 (hSo.cell 0 U U) U (Qb U U (Xx stC 1 slot.toNat hSo U U U (by omega) hp Bf U ?_))))))
  intro bx3 capx3 hvx3
  refine WF 1 slot.toNat [] hSo U hvx3 U U sz_9 (by rfl) ((Zb hp).1) ?_
  intro w4 j5; dsimp only[List.set]at j5
  clear hSo
  refine Qf (Qc (Qh [0] U (Qa (Qb U U (Qj U U (Qg U Uy U (Qr U QL (j5.cell 0 U U) U (VB U U (by omega) (by omega) U ?_))))))))
  refine Qj U U (Qg U Uy U ?_)
  first | (refine QV j5 U U Yq (by rfl) (i:=0) U (Xv U) ?_)
  intro w6 j7; dsimp only[List.set]at j7
  refine Qf (ZU (.inl U) U ?_)
  exact⟨_,rfl,rfl, by rw[show KI sl slot=sl.set slot.toNat [] by unfold KI; rw[if_pos hh]]; exact WV (by rw[List.length_set]; exact hsl) (by rw[show((WQ (sl.set slot.toNat []):Nat):Int)=(WQ sl:Nat) -1 by have :=BW hp hpn;omega]; exact j7.pick [0,1,2] U)⟩
 refine Qs (ZU (.inl U) U ?_)
 exact⟨_,rfl,rfl, by rw[show KI sl slot=sl by unfold KI; rw[if_neg (by simp_all)]]; exact j1.pick [0,1] U⟩
theorem Lf {w:World} {p:Nat} {sl:List Bs} {F:Th} (hS:Sat w [KH p sl,F]):
    Calls prog 62 #[ptrV p 0] w (Ret fun v w'=>v=intV (WQ sl:Nat)∧Sat w' [KH p sl,F]):= by
 obtain⟨sa,sc,du,re,hsl,hS⟩:=YX hS
 refine Qm func62 U ntmps62 U ?_
 exact Qd (Qa (Qe U U (Qf (Qc (Qd (Qa (Qb U U (Qj U U (Qg U Uy U (Qr U QL (hS.cell 0 U U) U (Qe U U (Qf (Qc (Qu (QY (.inr U) U U (⟨_,U,U,WV hsl (hS.pick [0,1,2] U)⟩))))))))))))))))
theorem srow (m:Nat):(List.replicate m [strV []]).flatten=stC.cells (List.replicate m []):= by
  induction m with
  | zero=>rfl
  | succ m ih=> rw[List.replicate_succ,List.flatten_cons,ih,List.replicate_succ];rfl
theorem Ai {w:World} {F:Th} (hS:Sat w [F]) (n:Int):
    Calls prog 58 #[intV n] w (Ret fun v w'=> ∃p,v=ptrV p 0∧Sat w' [KH p (List.replicate (max 0 (min n 4096)).toNat []),F]):= by
 refine Qm func58 U ntmps58 U ?_
 refine Qd (Qa (Qe U U (Qf (Qc (Qd (Qa (Qb U U (U9 U U U (YP U U U (VD hS (max 0 (min n 4096)).toNat U U (by omega) underlying61 OO U (by omega) (by omega) U ?_))))))))))
 intro db w1 hS1a; have j1:=hS1a.row_cast (l:=List.replicate (max 0 (min n 4096)).toNat []) (C:=stC) (by simp) U (srow _)
 refine Zo U AW asz_185 EK U U (XR j1 U U U ?_)
 intro bp wbp hSbp
 refine Qe U U (Qf (Qc (Qu (QY (.inr U) U U ?_))))
 exact⟨_,rfl,_,rfl,WV (du:=0) (re:=0) (by rw[List.length_replicate];omega) (by rw[Pn]; exact hSbp.pick [0,1,2] U)⟩
end Go.Proofs.YtkcjfoaejijdoaaGreatDoor
namespace Go.Proofs.YtkcjfoaejijdoaaGreatDoor.M
open Go.RowKit Proofs.Tryz
section
variable {P:Program} {n:Nat} {ops:Array Oper} {Q:Exit→Act→World→Prop} {rest:List Oper} {L:Env} {w:World} {d:Nat} {ty:TypeId} {pos:String} {aft:Array Edge}
theorem EU {As:List Th} (i:Nat) (hS:Sat w As) {x y:Operand} {dT sT e b o off m m' cap size dl dc:Nat} {v:Value} {s:List UInt8} {xs xs':List Value} (hi:As[i]? =some (Jc v m size xs)) (hv:v= .slice (some ⟨b,o,none⟩) m' cap) (hx:look L x=some (.slice (some ⟨b,off,none⟩) dl dc)) (hy:look L y=some (strV s)) (hu:P.underlying dT=some (.slice e)) (hs:Wb P e=some 1) (hfit:off+min s.length dl≤xs.length)
    (hxs:XT xs off (XG (s.take dl))=xs') (hd:Nat.blt d n=true) (hk: ∀w',Sat w' (As.set i (Jc v m size xs'))→wl P n ops Q rest ((d,.int .i64 ((min s.length dl:Nat):Int))::L) w'):wl P n ops Q (⟨some d,.call ⟨.builtin .copy, #[x,y], #[dT,sT]⟩,ty,pos,aft,none⟩::rest) L w:= by
  subst hxs
  obtain⟨sp,hb,hback⟩:=hS.own_row i hi hv
  refine XZ U hd (fun a ha=>Ms dT sT x y U (ha.eval hx) (ha.eval hy) hb hu hs (by rw[VQ]; simp;omega)) ?_
  rintro u w' ⟨rfl,h1,h2,_⟩
  rw[VQ]
  have hl:off+(XG (s.take dl)).length≤xs.length:= by simp [XG];omega
  refine hk w' (hback w' _ (Jv hl) ?_ h2)
  rw[←Yj hl]
  exact h1
theorem ev_strR {As:List Th} (i:Nat) (hS:Sat w As) {x:Operand} {sT dT e b o off m m' cap size dl dc:Nat} {v:Value} (l:List UInt8) {xs:List Value} (hi:As[i]? =some (Jc v m size xs)) (hv:v= .slice (some ⟨b,o,none⟩) m' cap) (hx:look L x=some (.slice (some ⟨b,off,none⟩) dl dc)) (hs:P.underlying sT=some (.slice e)) (he:P.underlying e=some (.int .u8)) (hd:P.underlying dT=some .string) (hl:(xs.drop off).take dl=XG l) (hn:l.length=dl):Ev P L w ⟨some d,.convert sT dT x,ty,pos,aft,none⟩ (strV l):= fun ρ hρ=> by
  obtain⟨sp,hb,_⟩:=hS.own_row i hi hv
  subst hn
  have hr:=run_convert_bytes_back (P:=P) w sT dT e ⟨b,off,none⟩ dc l hs he hd (fun j hj=> by
    rw[Wn]
    refine hb.cell ?_
    have h1:=congrArg (fun q=>q[j]?) hl
    simp only[List.getElem?_take,hj,if_true,List.getElem?_drop,DZ]at h1
    have hlt:off+j<xs.length:= by
      rcases Nat.lt_or_ge (off+j) xs.length with g | g
      · exact g
      · rw[List.getElem?_eq_none g,Zq hj]at h1; cases h1
    rw[List.getElem?_append_left hlt,h1,Zq hj];rfl)
  simp [execOp,hρ _ _ hx,hr]
theorem BQ {x y:Operand} {t e N b o sz:Nat} {k:IntKind} {i:Int} (hu:P.underlying t=some (.array N e)) (hN:Nat.blt 0 N=true) (hx:look L x=some (ptrV b o)) (hy:look L y=some (.int k i)) (hi:i=(N:Int)) (hs:Wb P e=some sz) (hd:Nat.blt d n=true) (hk:wl P n ops Q rest ((d,.slice (some ⟨b,o,none⟩) 0 0)::L) w):wl P n ops Q (⟨some d,.slice t x (some y) none none,ty,pos,aft,none⟩::rest) L w:=
  X8 hd (fun ρ hρ=> by
    have h3: ∀w,(sizeOf e).run P w= .ok sz w:= fun w=>run_sizeOf hs w
    have hn: ¬N=0:= by simp at hN;omega
    have hb:= fun w=>KL (P:=P) false N N (some (.int k i)) none N N ⟨k, by rw[hi]⟩ U (Nat.le_refl _) (Nat.le_refl _) w
    simp [execOp,hρ _ _ hx,hρ _ _ hy,Instr.sliceAt,run_underlying hu,Instr.sureAddr,hb,h3,hn]) hk
end
end Go.Proofs.YtkcjfoaejijdoaaGreatDoor.M
namespace Go.Proofs.YtkcjfoaejijdoaaGreatDoor
open Go.RowKit M Proofs.Tryz
theorem Ey {w:World} {F:Th} (hS:Sat w [F]) {lv:Value} {l:List Bs} (hL:Ent F (RdL stC lv l)) (hln:l.length≤100000000000):
    Calls prog 129 #[lv] w (Ret fun v w'=>Sat w' [rowT stC v l,F]):= by
 obtain⟨ao,cap,rfl,hmax⟩:=(hL.sat hS 0 rfl).shape
 refine Qm func129 U ntmps129 U ?_
 refine Qd (Qa (Qe U U (Qf (Qc (Qd (Qd (Qa (Qb U U (HS underlying61 U U U (Qf (Qc (QT U (fun h1=> ?_) (fun h1=> ?_)))))))))))))
 ·refine Qd (Qa (Qe U U (Qf (Qc (Qu (Qp (QY (.inr U) U U ?_)))))))
  obtain rfl:=Option.isNone_iff_eq_none.1 (by assumption:ao.isNone=true)
  have hnl:l=[]:=(hL.sat hS 0 U).isNil
  exact⟨_,rfl, by rw[hnl]; exact(hS.pick [0] U).row_nil stC⟩
 refine Qs (Qc (Qd (Qa (XU stC [] hS U underlying61 ifz_9 U U U U (by rfl) rfl ?_))))
 intro b2 w2 j2
 refine Qb U U ?_
 refine ZH stC 0 j2 U U U (hL.sat j2 1 U) underlying61 underlying61 (by intro k hk; cases hk) OO U (by simp only[List.length_nil];omega) U (by simp only[List.length_nil];omega) ?_
 intro v3 w3 j3; dsimp only[List.set]at j3
 have h1v3:v3.oneCell'=true:=j3.own_one 0 U
 exact Qe U U (Qf (Qc (Qu (QY (.inr U) U U (⟨_,U,j3.pick [0,1] U⟩)))))
theorem Lg {w:World} {p:Nat} {sl:List Bs} {F:Th} (hS:Sat w [KH p sl,F]):
    Calls prog 78 #[ptrV p 0] w (Ret fun v w'=> ∃p2,v=ptrV p2 0∧Sat w' [KH p2 sl,KH p sl,F]):= by
 obtain⟨sa,sc,du,re,hsl,hS⟩:=YX hS
 refine Qm func78 U ntmps78 U ?_
 refine Qd (Qa (Qe U U (Qf (Qc (Qd (Qa (Qb U U (Qj U U (Xw U ag_185 Af (by first | exact hS.blk 0 U) (Xv U) U U ?_)))))))))
 refine Xa hS EK U U ?_
 intro tp w1 j1
 (refine QG j1 U U Af U (by rfl) (i:=0) U (by decide) ?_)
 intro w2 j3; dsimp only[List.set]at j3
 refine Qf (Qc (Qd (Qa (Qb U U (Qj U U (Qg U Y8 U (Qr U K8 (j3.cell 1 U U) U (Qv cal_129 U (Ey (j3.sp [] U) (Ent.starL (Jn (C:=stC) (by omega)) 2 U) (by omega)) U ?_))))))))
 rintro _ w4 j4
 replace j4:=j4.jn U U
 obtain⟨ca,cc,hcv,_⟩:=j4.own_shape 0 rfl
 obtain rfl:=hcv
 refine Qg U Y8 U ?_
 (refine QV j4 U U sz_61 (by rfl) (i:=1) U (Xv U) ?_)
 intro w5 j6; dsimp only[List.set]at j6
 refine Qf (Qc (Qh [2,3] U (Qd (Qa (Qe U U (Qf (Qc (Qu (QY (.inr U) U U ?_)))))))))
 have hq:=WV hsl (j6.pick [1,0,2,3,4] U)
 exact⟨_,U,_,U,(WV hsl (hq.reorder [1,2,0,3] U)).reorder [1,0,2] U⟩
structure FrD where
  u:Bool
  b:Bs
def Cq (b:Bs):List UInt8:=(List.range 64).map fun i=>(b[i]?).getD 0
theorem Gg (b:Bs):(Cq b).length=64:= by simp [Cq]
theorem Gf {b:Bs} (h:b.length=64):Cq b=b:= by
  apply List.ext_getElem?
  intro i
  by_cases hi:i<64
  · unfold Cq; rw[List.getElem?_map,List.getElem?_range hi,Option.map_some,Zq (by omega)];rfl
  · rw[List.getElem?_eq_none (by rw[Gg];omega),List.getElem?_eq_none (by omega)]
def Nw (x:FrD):List Value:= .bool x.u::XG (Cq x.b)
theorem DY (l:List UInt8):(XG l).length=l.length:= by simp [XG]
theorem Fa (x:FrD):(Nw x).length=65:= by unfold Nw; rw[List.length_cons,DY,Gg]
theorem frE_one (x:FrD):Uh (Nw x)=true:= by
  refine Tp fun v hv=> ?_
  unfold Nw at hv
  rcases List.mem_cons.1 hv with rfl | hv
  · rfl
  · unfold XG at hv
    obtain⟨b,_,rfl⟩:=List.mem_map.1 hv
    rfl
def frC:RowC FrD:=⟨Nw,65, by decide,Fa,frE_one⟩
def DA (x:FrD):Option Bs:= if x.u=true then some (Cq x.b)else none
def Ym (fl:List (Option Bs)):Nat:=(fl.filter Option.isSome).length
def K4 (p:Nat) (fl:List (Option Bs)):Th:=Cw fun q:Value×List FrD=>starL [Yc (fl=q.2.map DA∧fl.length≤4096),Q8 p [q.1,intV (Ym fl:Nat)],rowT frC q.1 q.2]
theorem HM {w:World} {p:Nat} {fl:List (Option Bs)} {As:List Th} (h:Sat w (K4 p fl::As)): ∃ao cap cl,fl=cl.map DA∧cl.length≤4096∧Sat w (Q8 p [.slice ao cl.length cap,intV (Ym fl:Nat)]::rowT frC (.slice ao cl.length cap) cl::As):= by
  obtain⟨⟨v,cl⟩,h⟩:=h.ex
  obtain⟨⟨h1,h3⟩,h2⟩:=h.flat.pure_elim
  obtain⟨ao,cap,hv,_⟩:=Sat.own_shape (As:=Q8 p _::rowT frC v cl::As) h2 1 rfl
  obtain rfl:=hv
  exact⟨ao,cap,cl,h1, by rw[h1,List.length_map]at h3; exact h3,h2⟩
theorem Jq {w:World} {p:Nat} {fl:List (Option Bs)} {As:List Th} {v:Value} {cl:List FrD} (h1:fl=cl.map DA) (hl:cl.length≤4096) (h:Sat w (Q8 p [v,intV (Ym fl:Nat)]::rowT frC v cl::As)):Sat w (K4 p fl::As):=
  Sat.ex_intro (v,cl) (Sat.fold (As:=[Yc _,Q8 p _,rowT frC v cl]) (Sat.pure_intro ⟨h1, by rw[h1,List.length_map]; exact hl⟩ h))
theorem Vc (fl:List (Option Bs)):Ym fl≤fl.length:=List.length_filter_le _ _
theorem M3: ∀{fl:List (Option Bs)} {k:Nat} {b:Bs},fl[k]? =some none→Ym (fl.set k (some b))=Ym fl+1
  | [],_,_,h=> by simp at h
  | a::fl,0,b,h=> by
    simp at h; subst h
    unfold Ym; simp
  | a::fl,k+1,b,h=> by
    have :=M3 (fl:=fl) (k:=k) (b:=b) (by simpa using h)
    unfold Ym at this⊢
    rw[List.set_cons_succ,List.filter_cons,List.filter_cons]
    split
    · rw[List.length_cons,List.length_cons,this]
    · exact this
theorem BX: ∀{fl:List (Option Bs)} {k:Nat} {b:Bs},fl[k]? =some (some b)→Ym (fl.set k none)+1=Ym fl
  | [],_,_,h=> by simp at h
  | a::fl,0,b,h=> by
    simp at h; subst h
    unfold Ym; simp
  | a::fl,k+1,b,h=> by
    have :=BX (fl:=fl) (k:=k) (b:=b) (by simpa using h)
    unfold Ym at this⊢
    rw[List.set_cons_succ,List.filter_cons,List.filter_cons]
    split
    · rw[List.length_cons,List.length_cons,←this]
    · exact this
theorem KE: ∀{fl:List (Option Bs)} {k:Nat} {b c:Bs},fl[k]? =some (some b)→Ym (fl.set k (some c))=Ym fl
  | [],_,_,_,h=> by simp at h
  | a::fl,0,b,c,h=> by
    simp at h; subst h
    unfold Ym; simp
  | a::fl,k+1,b,c,h=> by
    have :=KE (fl:=fl) (k:=k) (b:=b) (c:=c) (by simpa using h)
    unfold Ym at this⊢
    rw[List.set_cons_succ,List.filter_cons,List.filter_cons]
    split
    · rw[List.length_cons,List.length_cons,this]
    · exact this
def Wl (fl:List (Option Bs)) (f:Int):Option Bs:= if 0≤f then(match fl[f.toNat]? with | some (some b)=>some b | _=>none)else none
theorem YL {fl:List (Option Bs)} {f:Int} {b:Bs} (h:Wl fl f=some b):0≤f∧fl[f.toNat]? =some (some b):= by
  unfold Wl at h
  split at h
  · rename_i h0
    refine⟨h0, ?_⟩
    split at h
    · rename_i b' hb; cases h; exact hb
    · cases h
  · cases h
theorem Ia {cl:List FrD} {f:Int} {x:FrD} (h0:0≤f) (hx:cl[f.toNat]? =some x):Wl (cl.map DA) f=DA x:= by
  unfold Wl
  rw[if_pos h0,List.getElem?_map,hx,Option.map_some]
  unfold DA
  cases x.u<;>rfl
theorem MV {cl:List FrD} {f:Int} (h:f<0∨(cl.length:Int)≤f):Wl (cl.map DA) f=none:= by
  unfold Wl
  split
  · rw[List.getElem?_eq_none (by rw[List.length_map];omega)]
  · rfl
theorem RE {w:World} {p:Nat} {fl:List (Option Bs)} {F:Th} (hS:Sat w [K4 p fl,F]) (f:Int):
    Calls prog 138 #[ptrV p 0,intV f] w (Ret fun v w'=>v= .bool (Wl fl f).isSome∧Sat w' [K4 p fl,F]):= by
 obtain⟨fa,fc,cl,hfl,hcl,hS⟩:=HM hS
 refine Qm func138 U ntmps138 U ?_
 refine Qd (Qa (Qe U U (Qf (Qc (Qd (Qa (Qb U U (Jf U U U (Qb U U (Xc 7 U (fun h1=> ?_) (fun h1=> ?_)))))))))))
 ·refine Qo U U (Xm h1) (Qb U U (Qo U U (Xm h1) (Qb U U (Qo U U (Xm h1) (Qj U U (Qo U U (Xm h1) (Qg U Ye U (Qo U U (Xm h1) (Qr U Ui (hS.cell 0 U U) U (Qo U U (Xm h1) (X7 underlying181 U U (Qo U U (Xm h1) (Xk U U U (QK U (Xm h1) U U (Qb U U (Xc 16 U (fun h2=> ?_) (fun h2=> ?_)))))))))))))))))
  ·obtain⟨x,hx⟩: ∃x,cl[f.toNat]? =some x:=⟨_,Zq (by omega)⟩
   refine Qo U U (Xm h2) (Qb U U (Qo U U (Xm h2) (Qj U U (Qo U U (Xm h2) (Qg U Ye U (Qo U U (Xm h2) (Qr U Ui (hS.cell 0 U U) U (Qo U U (Xm h2) (Qb U U (Qo U U (Xm h2) (Xx frC 1 f.toNat hS U U U (by omega) hx Vy U ?_)))))))))))
   intro bx3 capx3 hvx3
   refine Qo U U (Xm h2) (Qg U DC U (Qo U U (Xm h2) (Zz 1 f.toNat 0 hS U hvx3 U U hx Mc U U (QK U (Xm h2) U U (Qe U U (Qf (Qc (Qh [4] U (Qu (QY (.inr U) U U ?_))))))))))
   exact⟨_,rfl, by rw[hfl,Ia (by omega) hx];unfold DA; cases x.u<;>rfl,Jq hfl hcl (hS.pick [0,1,2] U)⟩
  refine Qi U U (Q7 h2) U (Qi U U (Q7 h2) U (Qi U U (Q7 h2) U (Qi U U (Q7 h2) U (Qi U U (Q7 h2) U (Qi U U (Q7 h2) U (Qi U U (Q7 h2) U (Qi U U (Q7 h2) U (QW U (Q7 h2) U U (Qe U U (Qf (Qc (Qh [4] U (Qu (QY (.inr U) U U ?_))))))))))))))
  exact⟨_,rfl, by rw[hfl,MV (by omega)];rfl,Jq hfl hcl (hS.pick [0,1,2] U)⟩
 refine Qi U U (Q7 h1) U (Qi U U (Q7 h1) U (Qi U U (Q7 h1) U (Qi U U (Q7 h1) U (Qi U U (Q7 h1) U (Qi U U (Q7 h1) U (Qi U U (Q7 h1) U (QW U (Q7 h1) U U (Qb U U (Qi U U U U (Qi U U U U (Qi U U U U (Qi U U U U (Qi U U U U (Qi U U U U (Qi U U U U (Qi U U U U (QW U U U U (Qe U U (Qf (Qc (Qh [4] U (Qu (QY (.inr U) U U ?_)))))))))))))))))))))))
 exact⟨_,rfl, by rw[hfl,MV (by omega)];rfl,Jq hfl hcl (hS.pick [0,1,2] U)⟩
