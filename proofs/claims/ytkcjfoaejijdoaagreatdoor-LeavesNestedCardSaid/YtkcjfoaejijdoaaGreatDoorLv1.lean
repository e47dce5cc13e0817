/- leaves: in plain data; there, Begin, sees, ref, unref, hold, set -/
import Derived.Test.YtkcjfoaejijdoaaGreatDoorSh13
set_option linter.unusedVariables false
set_option maxRecDepth 100000
set_option maxHeartbeats 80000000000
namespace Go.Proofs.YtkcjfoaejijdoaaGreatDoor
open Go.RowKit M
set_option linter.unusedSectionVars false
variable [Inhabited SlW]
abbrev KD:=Bs×Int
structure LfD where
  ad:Nat
  base:Int
  own:Int
  rd:BitVec 64
  wr:BitVec 64
structure TrD where
  ad:Nat
  ml:Nat
  md:Nat
  parent:Int
  lv:KD→Option LfD
  dr:Bs→Bool
structure LvD where
  sp:Nat
  mp:Nat
  mt:Nat
  ms:Nat
  pres:KD→Int
  tr:Int→Option TrD
  cur:Int
  sh:Int→Bool
def lfV (x:LfD):List Value:=[intV x.base,intV x.own,Zy x.rd,Zy x.wr]
def RK (x:LfD):Th:=QG x.ad (lfV x)
def Jh {κ:Type} (f:κ→Bool):κ→Option Value:= fun s=> if f s=true then some (.bool true)else none
open Classical in
noncomputable def J6 {κ:Type} (f:κ→Bool) (k:κ):κ→Bool:= fun j=> if j=k then true else f j
theorem Np {κ:Type} (f:κ→Bool) (k:κ):(Jh f k).getD (.bool false)= .bool (f k):= by
  unfold Jh;split
  · rename_i h; rw[h];rfl
  · rename_i h; simp at h; rw[h];rfl
theorem UZ {κ:Type} (f:κ→Bool) (k:κ):upd (Jh f) k (some (.bool true))=Jh (J6 f k):= by
  funext j
  by_cases h:j=k
  · subst h; rw[Z9];unfold Jh J6; simp
  · rw[WC h];unfold Jh J6; simp [h]
theorem Nn {κ:Type}:Jh (fun _:κ=>false)= fun _=>none:= by funext k; simp [Jh]
def Zt (p:KD→Int):KD→Option Value:= fun k=> if p k=0 then none else some (intV (p k))
theorem GN (p:KD→Int) (k:KD):(Zt p k).getD (intV 0)=intV (p k):= by
  unfold Zt;split
  · rename_i h; rw[h];rfl
  · rfl
theorem EA:Zt (fun _=>0)= fun _=>none:= by funext k; simp [Zt]
open Classical in
noncomputable def Z1 (p:KD→Int) (k:KD) (s:Int):KD→Int:= fun j=> if j=k then s else p j
theorem E9 {p:KD→Int} {k:KD} {s:Int} (h:s≠0):upd (Zt p) k (some (intV s))=Zt (Z1 p k s):= by
  funext j
  by_cases e:j=k
  · subst e; rw[Z9];unfold Zt Z1; simp [h]
  · rw[WC e];unfold Zt Z1; simp [e]
theorem EB {p:KD→Int} {k:KD} {v:Option Value}:upd (upd (Zt p) k v) k none=Zt (Z1 p k 0):= by
  funext j
  by_cases e:j=k
  · subst e; rw[Z9];unfold Zt Z1; simp
  · rw[WC e,WC e];unfold Zt Z1; simp [e]
def ptO {α:Type} (ad:α→Nat) (o:Option α):Value:= match o with | none=> .pointer none | some x=>ptrV (ad x) 0
theorem Km {κ α:Type} {ad:α→Nat} {f:κ→Option α} (k:κ):(XY ad f k).getD (.pointer none)=ptO ad (f k):= by
  unfold XY ptO; cases f k<;>rfl
def Z3 {κ α:Type} (th:α→Th) (f:κ→Option α):Th:=Sf fun k=>(f k).map th
theorem Sg {κ α:Type} {th:α→Th} {f:κ→Option α} {k:κ} {x:α}:X1 (fun k=>(f k).map th) k (some (th x))= fun j=>((X1 f k (some x)) j).map th:= by
  funext j
  by_cases h:j=k
  · subst h; rw[Qz,Qz];rfl
  · rw[QF h,QF h]
theorem qbk {κ α:Type} {th:α→Th} {f:κ→Option α} {k:κ}:X1 (fun k=>(f k).map th) k none= fun j=>((X1 f k none) j).map th:= by
  funext j
  by_cases h:j=k
  · subst h; rw[Qz,Qz];rfl
  · rw[QF h,QF h]
section
variable {w:World} {As:List Th}
theorem Ck {κ α:Type} {th:α→Th} {f:κ→Option α} {k:κ} {x:α} (h:Sat w (Z3 th f::As)) (hk:f k=some x):Sat w (th x::Z3 th (X1 f k none)::As):= by
  have h1:=qbj (k:=k) (A:=th x) h (by show(f k).map th=_; rw[hk];rfl)
  rw[qbk]at h1
  exact h1
theorem Bj {κ α:Type} {th:α→Th} {f:κ→Option α} {k:κ} {x:α} (h:Sat w (th x::Z3 th (X1 f k none)::As)):Sat w (Z3 th (X1 f k (some x))::As):= by
  have h1:=LP (h:= fun j=>((X1 f k none) j).map th) (k:=k) h (by show((X1 f k none) k).map th=none; rw[Qz];rfl)
  rw[Sg,YO]at h1
  exact h1
theorem Cl {κ α:Type} {th:α→Th} {f:κ→Option α} {k:κ} {x:α} (h:Sat w (th x::Z3 th (X1 f k none)::As)) (hk:f k=some x):Sat w (Z3 th f::As):= by
  have h1:=Bj h
  rwa [YT hk]at h1
theorem Si {κ α:Type} {th:α→Th} {f:κ→Option α} {k:κ} {x:α} (h:Sat w (th x::Z3 th f::As)) (hk:f k=none):Sat w (Z3 th (X1 f k (some x))::As):= by
  have h1:=LP (h:= fun j=>(f j).map th) (k:=k) h (by show(f k).map th=none; rw[hk];rfl)
  rw[Sg]at h1
  exact h1
theorem Sh {κ α:Type} (th:α→Th) (h:Sat w As):Sat w (Z3 th (fun _:κ=>none)::As):=AG h
end
def trV (t:TrD):List Value:=[intV t.parent,.map (some t.ml),.map (some t.md)]
def K4 (t:TrD):Th:=starL [QG t.ad (trV t),Q0 Xy t.ml (XY LfD.ad t.lv),Z3 RK t.lv,Q0 Xq t.md (Jh t.dr)]
def lvV (L:LvD):List Value:=[ptrV L.sp 0,.map (some L.mp),.map (some L.mt),intV L.cur,.map (some L.ms)]
def ZN (b:Nat) (L:LvD):Th:=starL [QG b (lvV L),Q0 Xy L.mp (Zt L.pres),Q0 QX L.mt (XY TrD.ad L.tr),Z3 K4 L.tr,Q0 QX L.ms (Jh L.sh)]
section
variable {w:World} {As:List Th}
theorem XK {b:Nat} {L:LvD} (h:Sat w (ZN b L::As)):Sat w (QG b [ptrV L.sp 0,.map (some L.mp),.map (some L.mt),intV L.cur,.map (some L.ms)]::Q0 Xy L.mp (Zt L.pres)::Q0 QX L.mt (XY TrD.ad L.tr)::Z3 K4 L.tr::Q0 QX L.ms (Jh L.sh)::As):=h.flat
theorem QV {b:Nat} {L:LvD} (h:Sat w (QG b [ptrV L.sp 0,.map (some L.mp),.map (some L.mt),intV L.cur,.map (some L.ms)]::Q0 Xy L.mp (Zt L.pres)::Q0 QX L.mt (XY TrD.ad L.tr)::Z3 K4 L.tr::Q0 QX L.ms (Jh L.sh)::As)):Sat w (ZN b L::As):=Sat.fold (As:=[QG b (lvV L),Q0 Xy L.mp (Zt L.pres),Q0 QX L.mt (XY TrD.ad L.tr),Z3 K4 L.tr,Q0 QX L.ms (Jh L.sh)]) h
theorem ZA {T:Int→Option TrD} {i:Int} {t:TrD} (h:Sat w (Z3 K4 T::As)) (hk:T i=some t):Sat w (QG t.ad [intV t.parent,.map (some t.ml),.map (some t.md)]::Q0 Xy t.ml (XY LfD.ad t.lv)::Z3 RK t.lv::Q0 Xq t.md (Jh t.dr)::Z3 K4 (X1 T i none)::As):=(Ck h hk).flat
theorem DD {t:TrD} (h:Sat w (QG t.ad [intV t.parent,.map (some t.ml),.map (some t.md)]::Q0 Xy t.ml (XY LfD.ad t.lv)::Z3 RK t.lv::Q0 Xq t.md (Jh t.dr)::As)):Sat w (K4 t::As):=Sat.fold (As:=[QG t.ad (trV t),Q0 Xy t.ml (XY LfD.ad t.lv),Z3 RK t.lv,Q0 Xq t.md (Jh t.dr)]) h
theorem Zq {T:Int→Option TrD} {i:Int} {t:TrD} (hk:T i=some t) (h:Sat w (QG t.ad [intV t.parent,.map (some t.ml),.map (some t.md)]::Q0 Xy t.ml (XY LfD.ad t.lv)::Z3 RK t.lv::Q0 Xq t.md (Jh t.dr)::Z3 K4 (X1 T i none)::As)):Sat w (Z3 K4 T::As):=Cl (DD h) hk
theorem R3 {T:Int→Option TrD} {i:Int} {t:TrD} (h:Sat w (QG t.ad [intV t.parent,.map (some t.ml),.map (some t.md)]::Q0 Xy t.ml (XY LfD.ad t.lv)::Z3 RK t.lv::Q0 Xq t.md (Jh t.dr)::Z3 K4 (X1 T i none)::As)):Sat w (Z3 K4 (X1 T i (some t))::As):=Bj (DD h)
theorem HN {f:KD→Option LfD} {k:KD} {x:LfD} (h:Sat w (Z3 RK f::As)) (hk:f k=some x):Sat w (QG x.ad [intV x.base,intV x.own,Zy x.rd,Zy x.wr]::Z3 RK (X1 f k none)::As):=Ck h hk
theorem Wg {f:KD→Option LfD} {k:KD} {x:LfD} (hk:f k=some x) (h:Sat w (QG x.ad [intV x.base,intV x.own,Zy x.rd,Zy x.wr]::Z3 RK (X1 f k none)::As)):Sat w (Z3 RK f::As):=Cl (th:=RK) h hk
theorem Iy {f:KD→Option LfD} {k:KD} {x:LfD} (h:Sat w (QG x.ad [intV x.base,intV x.own,Zy x.rd,Zy x.wr]::Z3 RK (X1 f k none)::As)):Sat w (Z3 RK (X1 f k (some x))::As):=Bj (th:=RK) h
theorem Lb {f:KD→Option LfD} {k:KD} {x:LfD} (hk:f k=none) (h:Sat w (QG x.ad [intV x.base,intV x.own,Zy x.rd,Zy x.wr]::Z3 RK f::As)):Sat w (Z3 RK (X1 f k (some x))::As):=Si (th:=RK) h hk
end
def Jv (L:LvD):Nat→Int→KD→Int
  | 0,_,_=>0
  | n+1,id,k=> if id=0 then L.pres k else match L.tr id with | none=>0 | some t=> match t.lv k with | some x=>x.own | none=> if t.dr k.1=true then 0 else Jv L n t.parent k
def Y5 (T:Int→Option TrD):Nat→Int→Prop
  | 0,id=>id=0
  | n+1,id=>id=0∨ match T id with | none=>True | some t=>Y5 T n t.parent
def Zl:Nat:=100000
def Xb (L:LvD) (id:Int) (k:KD):Int:=Jv L (Zl+1) id k
def ZF (L:LvD) (id:Int):Bool:=decide (id=0) || (L.tr id).isSome
noncomputable def refW (V:VS) (s:Int):VS:= if s=0 then V else HI V s
noncomputable def Y4 (f:Int→Bool) (s:Int):Int→Bool:= if s=0 then f else J6 f s
noncomputable def Y3 (V:VS) (f:Int→Bool) (s:Int):Int→Bool:= if 0<Z2 (Z4 V s) s then J6 f s else f
theorem keysKey:KeyOk Tryz.prog 76 Xy:=I5 Tryz.underlying76 (by kernel_rfl) Tryz.underlying9 Tryz.underlying3 rfl rfl rfl rfl (by decide) (by decide)
theorem Jj {w:World} {b:Nat} {L:LvD} {F:Th} (hS:Sat w [ZN b L,F]) (id:Int):
    Calls Tryz.prog 43 #[ptrV b 0,intV id] w (Ret fun v w'=>v= .bool (ZF L id)∧Sat w' [ZN b L,F]):= by
 replace hS:=XK hS
 refine Qo Tryz.func43 rfl Tryz.ntmps43 rfl ?_
 refine Qd (Qa (Qe rfl rfl (Qf (Qc (Qd (Qa (Qb rfl rfl (Xe rfl rfl rfl (Qb rfl rfl (QW 7 rfl (fun h1=> ?_) (fun h1=> ?_)))))))))))
 ·exact Qi rfl rfl (Xf h1) rfl (Qi rfl rfl (Xf h1) rfl (Qi rfl rfl (Xf h1) rfl (Qi rfl rfl (Xf h1) rfl (Qi rfl rfl (Xf h1) rfl (Qi rfl rfl (Xf h1) rfl (Qi rfl rfl (Xf h1) rfl (QC rfl (Xf h1) rfl rfl (Qe rfl rfl (Qf (Qc (Qh [4] rfl (Qu (QP (.inr rfl) rfl rfl (⟨_,rfl, by simp [ZF, *],QV (hS.pick [0,1,2,3,4,5] rfl)⟩))))))))))))))
 refine Qk rfl rfl (Q6 h1) (Qb rfl rfl (Qk rfl rfl (Q6 h1) (Qj rfl rfl (Qk rfl rfl (Q6 h1) (Qg rfl ZK rfl (Qk rfl rfl (Q6 h1) (Qp rfl J2 (hS.cell 0 rfl rfl) rfl (Qk rfl rfl (Q6 h1) (Qb rfl rfl (Qk rfl rfl (Q6 h1) (Xt (k:=id) 2 hS keysInt Tryz.underlying82 rfl rfl rfl Y6 (u:=(ptO TrD.ad (L.tr id))) (Km _) rfl (Qk rfl rfl (Q6 h1) ?_))))))))))))
 rcases hq_T:L.tr id with _ | t
 ·exact Yl Tryz.underlying94 rfl rfl rfl (QO rfl (Q6 h1) rfl rfl (Qe rfl rfl (Qf (Qc (Qh [4] rfl (Qu (QP (.inr rfl) rfl rfl (⟨_,rfl, by simp [ZF, *],QV (hS.pick [0,1,2,3,4,5] rfl)⟩))))))))
 exact Hz Tryz.underlying94 rfl rfl rfl (QO rfl (Q6 h1) rfl rfl (Qe rfl rfl (Qf (Qc (Qh [4] rfl (Qu (QP (.inr rfl) rfl rfl (⟨_,rfl, by simp [ZF, *],QV (hS.pick [0,1,2,3,4,5] rfl)⟩))))))))
def JW (L:LvD) (id parent:Int):Int:= if id<1 then 1 else if(L.tr id).isSome=true then 5 else if ZF L parent=false then 4 else 0
noncomputable def Sj (L:LvD) (id parent:Int) (a ml md:Nat):LvD:= if JW L id parent=0 then{L with tr:=X1 L.tr id (some ⟨a,ml,md,parent, fun _=>none, fun _=>false⟩)}else L
theorem qbm {w:World} {b:Nat} {L:LvD} {F:Th} (hS:Sat w [ZN b L,F]) (id parent:Int):
    Calls Tryz.prog 11 #[ptrV b 0,intV id,intV parent] w (Ret fun v w'=>v=intV (JW L id parent)∧ ∃a ml md,Sat w' [ZN b (Sj L id parent a ml md),F]):= by
 replace hS:=XK hS
 refine Qo Tryz.func11 rfl Tryz.ntmps11 rfl ?_
 refine Qd (Qa (Qe rfl rfl (Qf (Qc (Qd (Qw (Qd (Qa (Qb rfl rfl (Xg rfl rfl rfl (Qe rfl rfl (Qf (Qc (Qt rfl (fun h1=> ?_) (fun h1=> ?_)))))))))))))))
 ·refine Qd (Qa (Qe rfl rfl (Qf (Qc (Qu (Qx (Qn (QP (.inr rfl) rfl rfl ?_))))))))
  have hE:JW L id parent=1:= by unfold JW; rw[if_pos (by assumption)]
  exact⟨_,rfl, by rw[hE],0,0,0, by unfold Sj; rw[if_neg (by rw[hE];decide)]; exact QV (hS.pick [0,1,2,3,4,5] rfl)⟩
 refine Qd (Qa (Qb rfl rfl (Qj rfl rfl (Qg rfl ZK rfl (Qp rfl J2 (hS.cell 0 rfl rfl) rfl (Qb rfl rfl (Xt (k:=id) 2 hS keysInt Tryz.underlying82 rfl rfl rfl Y6 (u:=(ptO TrD.ad (L.tr id))) (Km _) rfl ?_)))))))
 rcases hq_T:L.tr id with _ | t
 ·refine Yl Tryz.underlying94 rfl rfl rfl (Qe rfl rfl (Qf (Qc (Qh [2,1,0,6,10] rfl (QT rfl (Qd ?_))))))
  have hS2:=QV (L:=L) (hS.pick [0,1,2,3,4,5] rfl)
  refine Qa (Qb rfl rfl (Qb rfl rfl (Qv Hg rfl (Jj (hS2.sp [0] rfl) parent) rfl ?_)))
  rintro _ w3 ⟨rfl,hS3⟩
  replace hS3:=hS3.jn rfl rfl
  clear hS2
  refine QQ rfl rfl (Qe rfl rfl (Qf (Qc (QL rfl (fun h4=> ?_) (fun h4=> ?_)))))
  ·have hth:ZF L parent=false:= by simpa using h4
   refine Qd (Qa (Qe rfl rfl (Qf (Qc (Qu (Qx (Qn (QP (.inr rfl) rfl rfl ?_))))))))
   have hE:JW L id parent=4:= by unfold JW; rw[if_neg (by assumption),if_neg (by rw[hq_T];decide),if_pos hth]
   exact⟨_,rfl, by rw[hE],0,0,0, by unfold Sj; rw[if_neg (by rw[hE];decide)]; exact hS3.pick [0,1] rfl⟩
  have hth:ZF L parent=true:= by simpa using h4
  refine Qr (Ql (Qc (Qd ?_)))
  have hS5:=XK (hS3.pick [0,1] rfl)
  refine Qa (Qb rfl rfl (Qj rfl rfl (Qg rfl ZK rfl (Qp rfl J2 (hS5.cell 0 rfl rfl) rfl (Qb rfl rfl (Qb rfl rfl (Za Xy hS5 rfl ?_)))))))
  intro nl w6 hS6
  clear hS5
  refine Za Xq hS6 rfl ?_
  intro nd w7 hS7
  clear hS6
  refine Zn rfl Pg asz_93 zr_93 rfl rfl (XX hS7 rfl rfl rfl ?_)
  intro ta w8 hS8
  clear hS7
  refine Xh (k:=id) (v:=ptrV ta 0) 5 hS8 keysInt Tryz.underlying82 rfl rfl rfl rfl ?_
  intro w9 hS9; dsimp only[List.set]at hS9
  clear hS8
  refine Qf (Qc (Qh [6] rfl (Qd (Qa (Qe rfl rfl (Qf (Qc (Qu (QP (.inr rfl) rfl rfl ?_)))))))))
  have hE:JW L id parent=0:= by unfold JW; rw[if_neg (by assumption),if_neg (by rw[hq_T];decide),if_neg (by rw[hth];decide)]
  have hA:=Sh (κ:=KD) RK (hS9.pick [0,2,1,6,3,4,5,7,8] rfl)
  have hB:=Si (DD (t:=(⟨ta,nl,nd,parent, fun _=>none, fun _=>false⟩:TrD)) (hA.reorder [1,2,0,3,4,5,6,7,8,9] rfl)) hq_T
  have hC:=hB.reorder [1,2,3,0,4,5] rfl
  rw[Pe (x:=(⟨ta,nl,nd,parent, fun _=>none, fun _=>false⟩:TrD))]at hC
  exact⟨_,rfl, by rw[hE],ta,nl,nd, by unfold Sj; rw[if_pos hE]; exact QV (L:={L with tr:=X1 L.tr id (some (⟨ta,nl,nd,parent, fun _=>none, fun _=>false⟩:TrD))}) hC⟩
 refine Hz Tryz.underlying94 rfl rfl rfl (Qe rfl rfl (Qf (Qc (Qh [2,1,0,6,10] rfl (Xl rfl (Qd (Qa (Qe rfl rfl (Qf (Qc (Qu (Qx (Qn (QP (.inr rfl) rfl rfl ?_))))))))))))))
 have hE:JW L id parent=5:= by unfold JW; rw[if_neg (by assumption),if_pos (by rw[hq_T];rfl)]
 exact⟨_,rfl, by rw[hE],0,0,0, by unfold Sj; rw[if_neg (by rw[hE];decide)]; exact QV (hS.pick [0,1,2,3,4,5] rfl)⟩
theorem Yh {L:LvD} {n:Nat} {id:Int} {k:KD} (h:id=0):Jv L (n+1) id k=L.pres k:= by unfold Jv; rw[if_pos h]
theorem T6 {L:LvD} {n:Nat} {id:Int} {k:KD} (h:id≠0) (ht:L.tr id=none):Jv L (n+1) id k=0:= by unfold Jv; rw[if_neg h,ht]
theorem Ut {L:LvD} {n:Nat} {id:Int} {k:KD} {t:TrD} {x:LfD} (h:id≠0) (ht:L.tr id=some t) (hx:t.lv k=some x):Jv L (n+1) id k=x.own:= by unfold Jv; rw[if_neg h,ht]; dsimp only; rw[hx]
theorem GI {L:LvD} {n:Nat} {id:Int} {k:KD} {t:TrD} (h:id≠0) (ht:L.tr id=some t) (hx:t.lv k=none) (hd:t.dr k.1=true):Jv L (n+1) id k=0:= by unfold Jv; rw[if_neg h,ht]; dsimp only; rw[hx]; dsimp only; rw[if_pos hd]
theorem C0 {L:LvD} {n:Nat} {id:Int} {k:KD} {t:TrD} (h:id≠0) (ht:L.tr id=some t) (hx:t.lv k=none) (hd:t.dr k.1=false):Jv L (n+1) id k=Jv L n t.parent k:= by rw[Jv,if_neg h,ht]; dsimp only; rw[hx]; dsimp only; rw[if_neg (by rw[hd];decide)]
theorem CM {T:Int→Option TrD} {n:Nat} {id:Int} {t:TrD} (h:Y5 T n id) (h0:id≠0) (ht:T id=some t): ∃m,n=m+1∧Y5 T m t.parent:= by
  cases n with
  | zero=> exact absurd h h0
  | succ n=>
    rcases h with h | h
    · exact absurd h h0
    · rw[ht]at h; exact⟨n,rfl,h⟩
theorem Yr {w:World} {b:Nat} {L:LvD} {F:Th} (hS:Sat w [ZN b L,F]) (hE: ∀i,Y5 L.tr Zl i) (id:Int) (k:KD):
    Calls Tryz.prog 48 #[ptrV b 0,intV id,Xy k] w (Ret fun v w'=>v=intV (Xb L id k)∧Sat w' [ZN b L,F]):= by
 replace hS:=XK hS
 refine Qo Tryz.func48 rfl Tryz.ntmps48 rfl ?_
 refine Qd (Qa (XX hS rfl rfl rfl ?_))
 intro kb w1 hS1
 change Sat w1 [QG kb [strV k.1,intV k.2],_,_,_,_,_,_]at hS1
 refine Qe rfl rfl (Qf (Qc (Qd (Qw (Xa (fun K0 E0 W0=> ∃(m:Nat) (i:Int),K0=m+1∧E0=[(0,ptrV b 0),(1,intV i),(5,ptrV kb 0)]∧Sat W0 [QG kb [strV k.1,intV k.2],QG b [ptrV L.sp 0,.map (some L.mp),.map (some L.mt),intV L.cur,.map (some L.ms)],Q0 Xy L.mp (Zt L.pres),Q0 QX L.mt (XY TrD.ad L.tr),Z3 K4 L.tr,Q0 QX L.ms (Jh L.sh),F]∧(Xb L id k=Jv L (m+1) i k)∧(Y5 L.tr m i)∧(m≤Zl)) (L0:=[(0,_),(1,_),(5,_)]) (Zl+1) (Cr rfl rfl rfl) ⟨Zl,id,rfl,rfl,hS1,rfl,hE id,Nat.le_refl _⟩ ?_)))))
 rintro _ _ w2 ⟨m,i,rfl,rfl,hS2,hse,hen,hm⟩
 refine Qd (Qd (Qa (Qb rfl rfl (X0 rfl rfl rfl (Qf (Qc (Qt rfl (fun h3=> ?_) (fun h3=> ?_))))))))
 ·have hid0:i≠0:=h3
  refine Qr (Qc (Qw (Qd (Qa (Qb rfl rfl (Qj rfl rfl (Qg rfl ZK rfl (Qp rfl J2 (hS2.cell 1 rfl rfl) rfl (Qb rfl rfl (Xt (k:=i) 3 hS2 keysInt Tryz.underlying82 rfl rfl rfl Y6 (u:=(ptO TrD.ad (L.tr i))) (Km _) rfl (Qe rfl rfl (Qf (Qc (Qh [5,1,0,7] rfl (Qd (Qd (Qa (Qb rfl rfl ?_))))))))))))))))))
  rcases hq_T:L.tr i with _ | t
  ·exact Yn Tryz.underlying94 rfl rfl rfl (Qf (Qc (Xl rfl (Qd (Qa (Qe rfl rfl (Qf (Qc (Qu (Qn (Qx (Qn (Qx (Qn (QP (.inr rfl) rfl rfl (⟨_,rfl, by rw[hse,T6 hid0 hq_T],QV (hS2.pick [1,2,3,4,5,6] rfl)⟩))))))))))))))))
  refine Z8 Tryz.underlying94 rfl rfl rfl ?_
  have hS4:=ZA (hS2.pick [4,0,1,2,3,5,6] rfl) hq_T
  refine Qf (Qc (QT rfl (Qr (Qc (Qd (Qd ?_))))))
  have hS5:=hS4.drew
  refine QI [0,1,2,3,4,5,6] [] Wq (by kernel_rfl) ?_
  refine QE rfl rfl rfl (Xj rfl rfl rfl (QS rfl rfl rfl Wb (Q8 rfl rfl rfl (Qm rfl JP (hS5.cell 0 rfl rfl)) (Q8 rfl rfl rfl (XD rfl X8 Xd (hS5.blk 5 rfl) (Xn rfl) rfl) (Q8 rfl rfl rfl (Xz (k:=k) 1 hS5 keysKey Tryz.underlying90 rfl rfl rfl HW (u:=(ptO LfD.ad (t.lv k))) (Km _)) (XP rfl rfl rfl (VC.nil (Qc (Qh [5,1,0,7,8] rfl (Qd (Qa (Qb rfl rfl ?_))))))))))))
  rcases hq_X:t.lv k with _ | x
  ·refine Yl Tryz.underlying89 rfl rfl rfl (Qf (Qc (QT rfl (Qr (Qc (Qd (Qd ?_)))))))
   have hS7:=hS5.drew
   refine QI [0,1,2,3,4,5,6] [] Wq (by kernel_rfl) ?_
   refine QE rfl rfl rfl (Xj rfl rfl rfl (QS rfl rfl rfl RT (Q8 rfl rfl rfl (Qm rfl Cn (hS7.cell 0 rfl rfl)) (QS rfl rfl rfl Yy (Q8 rfl rfl rfl (Qm rfl ZZ (hS7.cell 5 rfl rfl)) (Q8 rfl rfl rfl (Xz (k:=k.1) 3 hS7 keysStr Tryz.underlying91 rfl rfl rfl zr_4 (u:= .bool (t.dr k.1)) (Np _ _)) (VC.nil (Qc (Qh [5,1,0,7,37] rfl (QL rfl (fun h8=> ?_) (fun h8=> ?_)))))))))))
   ·have hdr:t.dr k.1=true:=h8
    refine Qd (Qa (Qe rfl rfl (Qf (Qc (Qu (Qn (Qx (Qn (Qx (Qn (QP (.inr rfl) rfl rfl ?_)))))))))))
    have hS9:=Zq hq_T (hS7.pick [0,1,2,3,4,5,6,7,8,9,10] rfl)
    exact⟨_,rfl, by rw[hse,GI hid0 hq_T hq_X hdr],QV (hS9.pick [2,3,4,0,5,6] rfl)⟩
   have hdr:t.dr k.1=false:=h8
   refine Qr (Qc (Qa (Qb rfl rfl (Qj rfl rfl (Qg rfl JJ rfl (Qp rfl QN (hS7.cell 0 rfl rfl) rfl (Qe rfl rfl (Qf (Ql ?_)))))))))
   have hS10:=Zq hq_T (hS7.pick [0,1,2,3,4,5,6,7,8,9,10] rfl)
   obtain⟨m2,hm2,hen2⟩:=CM hen hid0 hq_T
   exact Q4 (L1:=[(0,_),(1,intV t.parent),(5,_)]) (Cr rfl rfl rfl) (k1:=m2+1) (by omega) ⟨m2,t.parent,rfl,rfl,hS10.pick [1,2,3,4,0,5,6] rfl, by rw[hse,hm2,C0 hid0 hq_T hq_X hdr],hen2, by omega⟩
  refine Hz Tryz.underlying89 rfl rfl rfl ?_
  have hS6:=HN (hS5.pick [2,0,1,3,4,5,6,7,8,9,10] rfl) hq_X
  refine Qf (Qc (Xl rfl (Qd (Qa (Qb rfl rfl (Qj rfl rfl (Qg rfl Jy rfl (Qp rfl QN (hS6.cell 0 rfl rfl) rfl (Qe rfl rfl (Qf (Qc (Qh [5,1,0,7,6] rfl (Qu (Qn (Qx (Qn (Qx (Qn (QP (.inr rfl) rfl rfl ?_)))))))))))))))))))
  have hS11:=Wg hq_X (hS6.pick [0,1,2,3,4,5,6,7,8,9,10,11] rfl)
  have hS12:=Zq hq_T (hS11.pick [1,2,0,3,4,5,6,7,8,9,10] rfl)
  exact⟨_,rfl, by rw[hse,Ut hid0 hq_T hq_X],QV (hS12.pick [2,3,4,0,5,6] rfl)⟩
 have hid0:i=0:=Decidable.not_not.1 h3
 refine QR (Qq (Qq (Qy (Qc (Qd ?_)))))
 have hS13:=hS2.drew
 refine QI [0,1,2,3,4,5,6] [] Wq (by kernel_rfl) ?_
 exact QE rfl rfl rfl (Xj rfl rfl rfl (QS rfl rfl rfl UV (Q8 rfl rfl rfl (Qm rfl BA (hS13.cell 1 rfl rfl)) (Q8 rfl rfl rfl (XD rfl X8 Xd (hS13.blk 0 rfl) (Xn rfl) rfl) (Q8 rfl rfl rfl (Xz (k:=k) 2 hS13 keysKey Tryz.underlying81 rfl rfl rfl HV (u:=intV (L.pres k)) (GN _ _)) (XP rfl rfl rfl (VC.nil (Qc (Qh [6] rfl (Qu (QP (.inr rfl) rfl rfl (⟨_,rfl, by rw[hse,Yh hid0],QV (hS13.pick [1,2,3,4,5,6] rfl)⟩))))))))))))
theorem Pa {w:World} {b sp mp mt ms n Fr:Nat} {cu:Int} {f:Int→Bool} {V:VS} {F:Th} (hS:Sat w [QG b [ptrV sp 0,.map (some mp),.map (some mt),intV cu,.map (some ms)],Q0 QX ms (Jh f),Zo sp n Fr V,F]) (hn:n≤80000000000) (s:Int):
    Calls Tryz.prog 53 #[ptrV b 0,intV s] w (Ret fun v w'=>v= .tuple #[]∧Sat w' [QG b [ptrV sp 0,.map (some mp),.map (some mt),intV cu,.map (some ms)],Q0 QX ms (Jh (Y4 f s)),Zo sp (n+1) Fr (refW V s),F]):= by
 refine Qo Tryz.func53 rfl Tryz.ntmps53 rfl ?_
 refine Qd (Qa (Qb rfl rfl (X0 rfl rfl rfl (Qf (Qc (Qt rfl (fun h1=> ?_) (fun h1=> ?_)))))))
 ·refine Qd (Qa (Qb rfl rfl (Qj rfl rfl (Qg rfl XF rfl (Qp rfl Xk (hS.cell 0 rfl rfl) rfl (Qb rfl rfl (Qv UY rfl (DH (hS.sp [2] rfl) (by omega) s) rfl ?_)))))))
  rintro _ w2 ⟨e0,rfl,hS2⟩
  replace hS2:=hS2.jn rfl rfl
  refine Qf (Qc (Qa (Qb rfl rfl (Qj rfl rfl (Qg rfl Li rfl (Qp rfl ag_83 (hS2.cell 1 rfl rfl) rfl (Qb rfl rfl (Xh (k:=s) (v:= .bool true) 2 hS2 keysInt Tryz.underlying83 rfl rfl rfl rfl ?_))))))))
  intro w3 hS3; dsimp only[List.set]at hS3; rw[UZ]at hS3
  clear hS2
  refine Qf (ZY (.inl rfl) rfl ?_)
  exact⟨_,rfl,rfl, by unfold Y4 refW; rw[if_neg (by assumption),if_neg (by assumption)]; exact hS3.pick [1,2,0,3] rfl⟩
 refine Qr (ZY (.inl rfl) rfl ?_)
 exact⟨_,rfl,rfl, by unfold Y4 refW; rw[if_pos (Decidable.not_not.1 (by assumption)),if_pos (Decidable.not_not.1 (by assumption))]; exact((X2 (m:=n+1) (by omega) (hS.pick [2,0,1,3] rfl)).reorder [1,2,0,3] rfl)⟩
theorem UH {w:World} {b sp mp mt ms n Fr:Nat} {cu:Int} {f:Int→Bool} {V:VS} {F:Th} (hS:Sat w [QG b [ptrV sp 0,.map (some mp),.map (some mt),intV cu,.map (some ms)],Q0 QX ms (Jh f),Zo sp n Fr V,F]) (hn:n≤80000000000) (s:Int):
    Calls Tryz.prog 106 #[ptrV b 0,intV s] w (Ret fun v w'=>v= .tuple #[]∧Sat w' [QG b [ptrV sp 0,.map (some mp),.map (some mt),intV cu,.map (some ms)],Q0 QX ms (Jh (Y3 V f s)),Zo sp (n+1) Fr (Z4 V s),F]):= by
 refine Qo Tryz.func106 rfl Tryz.ntmps106 rfl ?_
 refine Qd (Qa (Qb rfl rfl (Qj rfl rfl (Qg rfl XF rfl (Qp rfl Xk (hS.cell 0 rfl rfl) rfl (Qb rfl rfl (Qv Gm rfl (R5 (hS.sp [2] rfl) (by omega) s) rfl ?_)))))))
 rintro _ w1 ⟨e0,rfl,hS1⟩
 replace hS1:=hS1.jn rfl rfl
 refine Qf (Qc (Qd (Qa (Qb rfl rfl (Qj rfl rfl (Qg rfl XF rfl (Qp rfl Xk (hS1.cell 1 rfl rfl) rfl (Qb rfl rfl (Qv Be rfl (GD (hS1.sp [0] rfl) s) rfl ?_)))))))))
 rintro _ w2 ⟨rfl,hS2⟩
 replace hS2:=hS2.jn rfl rfl
 clear hS1
 refine YA rfl rfl rfl (Qf (Qc (Qh [1,0,16] rfl (Qt rfl (fun h3=> ?_) (fun h3=> ?_)))))
 ·refine Qa (Qb rfl rfl (Qj rfl rfl (Qg rfl Li rfl (Qp rfl ag_83 (hS2.cell 1 rfl rfl) rfl (Qb rfl rfl (Xh (k:=s) (v:= .bool true) 2 hS2 keysInt Tryz.underlying83 rfl rfl rfl rfl ?_))))))
  intro w4 hS4; dsimp only[List.set]at hS4; rw[UZ]at hS4
  clear hS2
  refine Qf (ZY (.inl rfl) rfl ?_)
  exact⟨_,rfl,rfl, by unfold Y3; rw[if_pos (by omega)]; exact hS4.pick [1,2,0,3] rfl⟩
 refine Qr (ZY (.inl rfl) rfl ?_)
 exact⟨_,rfl,rfl, by unfold Y3; rw[if_neg (by omega)]; exact hS2.pick [1,2,0,3] rfl⟩
theorem I9 {w:World} {b sp mp mt ms n Fr:Nat} {a:Nat} {v0 v2 v3:Value} {cu old:Int} {f:Int→Bool} {V:VS} {F:Th} (hS:Sat w [QG b [ptrV sp 0,.map (some mp),.map (some mt),intV cu,.map (some ms)],Q0 QX ms (Jh f),Zo sp n Fr V,QG a [v0,intV old,v2,v3],F]) (hn:n≤70000000000) (s:Int):
    Calls Tryz.prog 73 #[ptrV b 0,ptrV a 1,intV s] w (Ret fun v w'=>v= .tuple #[]∧Sat w' [QG b [ptrV sp 0,.map (some mp),.map (some mt),intV cu,.map (some ms)],Q0 QX ms (Jh (Y3 (refW V s) (Y4 f s) old)),Zo sp (n+2) Fr (Z4 (refW V s) old),QG a [v0,intV s,v2,v3],F]):= by
 refine Qo Tryz.func73 rfl Tryz.ntmps73 rfl ?_
 refine Qd (Qa (Qb rfl rfl (Qb rfl rfl (Qv MH rfl (Pa (hS.sp [0,1,2] rfl) (by omega) s) rfl ?_))))
 rintro _ w1 ⟨rfl,hS1⟩
 replace hS1:=hS1.jn rfl rfl
 refine Qf (Qc (Qd (Qa (Qb rfl rfl (Qb rfl rfl (Qj rfl rfl (Qp rfl QN (by first | assumption | exact hS1.cell 0 rfl rfl | exact hS1.cell 3 rfl rfl) rfl ?_)))))))
 refine Qv UX rfl (UH (hS1.sp [0,1,2] rfl) (by omega) old) rfl ?_
 rintro _ w2 ⟨rfl,hS2⟩
 replace hS2:=hS2.jn rfl rfl
 clear hS1
 refine Qf (Qc (Qh [2,1] rfl (Qa (Qb rfl rfl (Qb rfl rfl (Qj rfl rfl ?_))))))
 first | (refine QJ hS2 rfl rfl Um (by first | rfl | assumption) (i:=0) rfl (by first | decide | exact Xn rfl | (simp;done) | omega) ?_) | (refine QJ hS2 rfl rfl Um (by first | rfl | assumption) (i:=3) rfl (by first | decide | exact Xn rfl | (simp;done) | omega) ?_)
 intro w3 hS4; dsimp only[List.set]at hS4
 clear hS2
 exact Qf (ZY (.inl rfl) rfl (⟨_,rfl,rfl,hS4.pick [0,1,2,3,4] rfl⟩))
theorem Ov {w:World} {b sp mp mt ms n Fr:Nat} {cu:Int} {pr:KD→Int} {f:Int→Bool} {V:VS} {F:Th} (hS:Sat w [QG b [ptrV sp 0,.map (some mp),.map (some mt),intV cu,.map (some ms)],Q0 Xy mp (Zt pr),Q0 QX ms (Jh f),Zo sp n Fr V,F]) (hn:n≤70000000000) (k:KD) (s:Int):
    Calls Tryz.prog 72 #[ptrV b 0,Xy k,intV s] w (Ret fun v w'=>v= .tuple #[]∧Sat w' [QG b [ptrV sp 0,.map (some mp),.map (some mt),intV cu,.map (some ms)],Q0 Xy mp (Zt (Z1 pr k s)),Q0 QX ms (Jh (Y3 V f (pr k))),Zo sp (n+1) Fr (Z4 V (pr k)),F]):= by
 refine Qo Tryz.func72 rfl Tryz.ntmps72 rfl ?_
 refine Qd (Qa (XX hS rfl rfl rfl ?_))
 intro kb w1 hS1
 refine Qf (Qc (Qd ?_))
 have hS2:=hS1.drew
 refine QI [0,1,2,3,4,5,6,7] [7] Wq (by kernel_rfl) ?_
 refine QE rfl rfl rfl (QE rfl rfl rfl (Xj rfl rfl rfl (QS rfl rfl rfl UV (Q8 rfl rfl rfl (Qm rfl BA (hS2.cell 1 rfl rfl)) (Q8 rfl rfl rfl (XD rfl X8 Xd (hS2.blk 0 rfl) (Xn rfl) rfl) (Q8 rfl rfl rfl (Xz (k:=k) 2 hS2 keysKey Tryz.underlying81 rfl rfl rfl HV (u:=intV (pr k)) (GN _ _)) (Xi rfl rfl rfl rfl rfl rfl ?_)))))))
 refine Qv UX rfl (UH (hS2.sp [1,3,4] rfl) (by omega) (pr k)) rfl ?_
 rintro _ w3 ⟨rfl,hS3⟩
 replace hS3:=hS3.jn rfl rfl
 clear hS2
 refine X9 (Xu (by kernel_rfl)) ?_
 refine VC.nil (Qc (Qh [2,0,4] rfl (Qd ?_)))
 have hS4:=hS3.drew
 refine QI [0,1,2,3,4,5,6] [6] Wq (by kernel_rfl) ?_
 refine QE rfl rfl rfl (Xj rfl rfl rfl (QS rfl rfl rfl UV (Q8 rfl rfl rfl (Qm rfl BA (hS4.cell 0 rfl rfl)) (Q8 rfl rfl rfl (XD rfl X8 Xd (hS4.blk 3 rfl) (Xn rfl) rfl) (QE rfl rfl rfl (Xi rfl rfl rfl rfl rfl rfl ?_))))))
 refine Xh (k:=k) (v:=intV s) 4 hS4 keysKey Tryz.underlying81 rfl rfl rfl rfl ?_
 intro w5 hS5; dsimp only[List.set]at hS5
 clear hS4
 refine Z0 (Xu (by kernel_rfl)) ?_
 refine VC.nil (Qc (Qd (Qa (Qb rfl rfl (Xe rfl rfl rfl (Qf (Qc (Qh [0,4,21] rfl (Qt rfl (fun h6=> ?_) (fun h6=> ?_))))))))))
 ·have hS7:=hS5.drew
  refine QI [0,1,2,3,4,5] [5] Wq (by kernel_rfl) ?_
  refine QE rfl rfl rfl (Xj rfl rfl rfl (QS rfl rfl rfl UV (Q8 rfl rfl rfl (Qm rfl BA (hS7.cell 0 rfl rfl)) (Q8 rfl rfl rfl (XD rfl X8 Xd (hS7.blk 3 rfl) (Xn rfl) rfl) (Xi rfl rfl rfl rfl rfl rfl ?_)))))
  refine Jm (k:=k) 4 hS7 keysKey Tryz.underlying81 rfl rfl rfl rfl ?_
  intro w8 hS8; dsimp only[List.set]at hS8
  clear hS7
  refine Z0 (Xu (by kernel_rfl)) ?_
  refine VC.nil (ZY (.inl rfl) rfl ?_)
  have hz:=hS8.pick [0,4,1,2,5] rfl
  rw[EB]at hz
  exact⟨_,rfl,rfl, by rw[show s=0 from(by assumption)]; exact hz⟩
 refine Qr (ZY (.inl rfl) rfl ?_)
 have hz:=hS5.pick [0,4,1,2,5] rfl
 rw[E9 (by assumption)]at hz
 exact⟨_,rfl,rfl,hz⟩
end Go.Proofs.YtkcjfoaejijdoaaGreatDoor
