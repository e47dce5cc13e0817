/- leaves: in plain data; there, Begin, sees, ref, unref, hold, set -/
import Derived.Test.YtkcjfoaejijdoaaGreatDoorSh13
set_option linter.unusedVariables false
set_option maxRecDepth 100000
set_option maxHeartbeats 800000000
namespace Go.Proofs.YtkcjfoaejijdoaaGreatDoor
open Go.RowKit M
abbrev KD:=Bs×Int
structure LfD where
  ad:Nat
  base:Int
  own:Int
  rd:BitVec 64
  wr:BitVec 64
structure TrD where
  ad:Nat
  ml:Nat
  md:Nat
  parent:Int
  lv:KD→Option LfD
  dr:Bs→Bool
structure LvD where
  sp:Nat
  mp:Nat
  mt:Nat
  ms:Nat
  pres:KD→Int
  tr:Int→Option TrD
  cur:Int
  sh:Int→Bool
def lfV (x:LfD):List Value:=[intV x.base,intV x.own,Z0 x.rd,Z0 x.wr]
def RM (x:LfD):Th:=QK x.ad (lfV x)
def Jl {κ:Type} (f:κ→Bool):κ→Option Value:= fun s=> if f s=true then some (.bool true)else none
open Classical in
noncomputable def JG {κ:Type} (f:κ→Bool) (k:κ):κ→Bool:= fun j=> if j=k then true else f j
theorem Ns {κ:Type} (f:κ→Bool) (k:κ):(Jl f k).getD (.bool false)= .bool (f k):= by
  unfold Jl;split
  · rename_i h; rw[h];rfl
  · rename_i h; simp at h; rw[h];rfl
theorem Va {κ:Type} (f:κ→Bool) (k:κ):upd (Jl f) k (some (.bool true))=Jl (JG f k):= by
  funext j
  by_cases h:j=k
  · subst h; rw[ZB];unfold Jl JG; simp
  · rw[WH h];unfold Jl JG; simp [h]
theorem Nr {κ:Type}:Jl (fun _:κ=>false)= fun _=>none:= by funext k; simp [Jl]
def Zz (p:KD→Int):KD→Option Value:= fun k=> if p k=0 then none else some (intV (p k))
theorem GP (p:KD→Int) (k:KD):(Zz p k).getD (intV 0)=intV (p k):= by
  unfold Zz;split
  · rename_i h; rw[h];rfl
  · rfl
theorem E4:Zz (fun _=>0)= fun _=>none:= by funext k; simp [Zz]
open Classical in
noncomputable def Z4 (p:KD→Int) (k:KD) (s:Int):KD→Int:= fun j=> if j=k then s else p j
theorem E3 {p:KD→Int} {k:KD} {s:Int} (h:s≠0):upd (Zz p) k (some (intV s))=Zz (Z4 p k s):= by
  funext j
  by_cases e:j=k
  · subst e; rw[ZB];unfold Zz Z4; simp [h]
  · rw[WH e];unfold Zz Z4; simp [e]
theorem E5 {p:KD→Int} {k:KD} {v:Option Value}:upd (upd (Zz p) k v) k none=Zz (Z4 p k 0):= by
  funext j
  by_cases e:j=k
  · subst e; rw[ZB];unfold Zz Z4; simp
  · rw[WH e,WH e];unfold Zz Z4; simp [e]
def ptO {α:Type} (ad:α→Nat) (o:Option α):Value:= match o with | none=> .pointer none | some x=>ptrV (ad x) 0
theorem Kl {κ α:Type} {ad:α→Nat} {f:κ→Option α} (k:κ):(Zp ad f k).getD (.pointer none)=ptO ad (f k):= by
  unfold Zp ptO; cases f k<;>rfl
def Z6 {κ α:Type} (th:α→Th) (f:κ→Option α):Th:=Sd fun k=>(f k).map th
theorem Se {κ α:Type} {th:α→Th} {f:κ→Option α} {k:κ} {x:α}:X5 (fun k=>(f k).map th) k (some (th x))= fun j=>((X5 f k (some x)) j).map th:= by
  funext j
  by_cases h:j=k
  · subst h; rw[Q7,Q7];rfl
  · rw[QN h,QN h]
theorem qa4 {κ α:Type} {th:α→Th} {f:κ→Option α} {k:κ}:X5 (fun k=>(f k).map th) k none= fun j=>((X5 f k none) j).map th:= by
  funext j
  by_cases h:j=k
  · subst h; rw[Q7,Q7];rfl
  · rw[QN h,QN h]
section
variable {w:World} {As:List Th}
theorem Ch {κ α:Type} {th:α→Th} {f:κ→Option α} {k:κ} {x:α} (h:Sat w (Z6 th f::As)) (hk:f k=some x):Sat w (th x::Z6 th (X5 f k none)::As):= by
  have h1:=qa3 (k:=k) (A:=th x) h (by show(f k).map th=_; rw[hk];rfl)
  rw[qa4]at h1
  exact h1
theorem Bk {κ α:Type} {th:α→Th} {f:κ→Option α} {k:κ} {x:α} (h:Sat w (th x::Z6 th (X5 f k none)::As)):Sat w (Z6 th (X5 f k (some x))::As):= by
  have h1:=LD (h:= fun j=>((X5 f k none) j).map th) (k:=k) h (by show((X5 f k none) k).map th=none; rw[Q7];rfl)
  rw[Se,YM]at h1
  exact h1
theorem Ci {κ α:Type} {th:α→Th} {f:κ→Option α} {k:κ} {x:α} (h:Sat w (th x::Z6 th (X5 f k none)::As)) (hk:f k=some x):Sat w (Z6 th f::As):= by
  have h1:=Bk h
  rwa [YR hk]at h1
theorem Sg {κ α:Type} {th:α→Th} {f:κ→Option α} {k:κ} {x:α} (h:Sat w (th x::Z6 th f::As)) (hk:f k=none):Sat w (Z6 th (X5 f k (some x))::As):= by
  have h1:=LD (h:= fun j=>(f j).map th) (k:=k) h (by show(f k).map th=none; rw[hk];rfl)
  rw[Se]at h1
  exact h1
theorem Sf {κ α:Type} (th:α→Th) (h:Sat w As):Sat w (Z6 th (fun _:κ=>none)::As):=AA h
end
def trV (t:TrD):List Value:=[intV t.parent,.map (some t.ml),.map (some t.md)]
def K7 (t:TrD):Th:=starL [QK t.ad (trV t),Q8 X4 t.ml (Zp LfD.ad t.lv),Z6 RM t.lv,Q8 Xw t.md (Jl t.dr)]
def lvV (L:LvD):List Value:=[ptrV L.sp 0,.map (some L.mp),.map (some L.mt),intV L.cur,.map (some L.ms)]
def We (b:Nat) (L:LvD):Th:=starL [QK b (lvV L),Q8 X4 L.mp (Zz L.pres),Q8 Xl L.mt (Zp TrD.ad L.tr),Z6 K7 L.tr,Q8 Xl L.ms (Jl L.sh)]
section
variable {w:World} {As:List Th}
theorem Ze {b:Nat} {L:LvD} (h:Sat w (We b L::As)):Sat w (QK b [ptrV L.sp 0,.map (some L.mp),.map (some L.mt),intV L.cur,.map (some L.ms)]::Q8 X4 L.mp (Zz L.pres)::Q8 Xl L.mt (Zp TrD.ad L.tr)::Z6 K7 L.tr::Q8 Xl L.ms (Jl L.sh)::As):=h.flat
theorem Xj {b:Nat} {L:LvD} (h:Sat w (QK b [ptrV L.sp 0,.map (some L.mp),.map (some L.mt),intV L.cur,.map (some L.ms)]::Q8 X4 L.mp (Zz L.pres)::Q8 Xl L.mt (Zp TrD.ad L.tr)::Z6 K7 L.tr::Q8 Xl L.ms (Jl L.sh)::As)):Sat w (We b L::As):=Sat.fold (As:=[QK b (lvV L),Q8 X4 L.mp (Zz L.pres),Q8 Xl L.mt (Zp TrD.ad L.tr),Z6 K7 L.tr,Q8 Xl L.ms (Jl L.sh)]) h
theorem ZK {T:Int→Option TrD} {i:Int} {t:TrD} (h:Sat w (Z6 K7 T::As)) (hk:T i=some t):Sat w (QK t.ad [intV t.parent,.map (some t.ml),.map (some t.md)]::Q8 X4 t.ml (Zp LfD.ad t.lv)::Z6 RM t.lv::Q8 Xw t.md (Jl t.dr)::Z6 K7 (X5 T i none)::As):=(Ch h hk).flat
theorem DB {t:TrD} (h:Sat w (QK t.ad [intV t.parent,.map (some t.ml),.map (some t.md)]::Q8 X4 t.ml (Zp LfD.ad t.lv)::Z6 RM t.lv::Q8 Xw t.md (Jl t.dr)::As)):Sat w (K7 t::As):=Sat.fold (As:=[QK t.ad (trV t),Q8 X4 t.ml (Zp LfD.ad t.lv),Z6 RM t.lv,Q8 Xw t.md (Jl t.dr)]) h
theorem Zs {T:Int→Option TrD} {i:Int} {t:TrD} (hk:T i=some t) (h:Sat w (QK t.ad [intV t.parent,.map (some t.ml),.map (some t.md)]::Q8 X4 t.ml (Zp LfD.ad t.lv)::Z6 RM t.lv::Q8 Xw t.md (Jl t.dr)::Z6 K7 (X5 T i none)::As)):Sat w (Z6 K7 T::As):=Ci (DB h) hk
theorem Rx {T:Int→Option TrD} {i:Int} {t:TrD} (h:Sat w (QK t.ad [intV t.parent,.map (some t.ml),.map (some t.md)]::Q8 X4 t.ml (Zp LfD.ad t.lv)::Z6 RM t.lv::Q8 Xw t.md (Jl t.dr)::Z6 K7 (X5 T i none)::As)):Sat w (Z6 K7 (X5 T i (some t))::As):=Bk (DB h)
theorem HC {f:KD→Option LfD} {k:KD} {x:LfD} (h:Sat w (Z6 RM f::As)) (hk:f k=some x):Sat w (QK x.ad [intV x.base,intV x.own,Z0 x.rd,Z0 x.wr]::Z6 RM (X5 f k none)::As):=Ch h hk
theorem Wo {f:KD→Option LfD} {k:KD} {x:LfD} (hk:f k=some x) (h:Sat w (QK x.ad [intV x.base,intV x.own,Z0 x.rd,Z0 x.wr]::Z6 RM (X5 f k none)::As)):Sat w (Z6 RM f::As):=Ci (th:=RM) h hk
theorem Ir {f:KD→Option LfD} {k:KD} {x:LfD} (h:Sat w (QK x.ad [intV x.base,intV x.own,Z0 x.rd,Z0 x.wr]::Z6 RM (X5 f k none)::As)):Sat w (Z6 RM (X5 f k (some x))::As):=Bk (th:=RM) h
theorem FY {f:KD→Option LfD} {k:KD} {x:LfD} (hk:f k=none) (h:Sat w (QK x.ad [intV x.base,intV x.own,Z0 x.rd,Z0 x.wr]::Z6 RM f::As)):Sat w (Z6 RM (X5 f k (some x))::As):=Sg (th:=RM) h hk
end
def Jv (L:LvD):Nat→Int→KD→Int
  | 0,_,_=>0
  | n+1,id,k=> if id=0 then L.pres k else match L.tr id with | none=>0 | some t=> match t.lv k with | some x=>x.own | none=> if t.dr k.1=true then 0 else Jv L n t.parent k
def Y5 (T:Int→Option TrD):Nat→Int→Prop
  | 0,id=>id=0
  | n+1,id=>id=0∨ match T id with | none=>True | some t=>Y5 T n t.parent
def Zv:Nat:=100000
def Xi (L:LvD) (id:Int) (k:KD):Int:=Jv L (Zv+1) id k
def ZE (L:LvD) (id:Int):Bool:=decide (id=0) || (L.tr id).isSome
noncomputable def refW (V:VS) (s:Int):VS:= if s=0 then V else H7 V s
noncomputable def Y4 (f:Int→Bool) (s:Int):Int→Bool:= if s=0 then f else JG f s
noncomputable def Y3 (V:VS) (f:Int→Bool) (s:Int):Int→Bool:= if 0<Z5 (Z8 V s) s then JG f s else f
theorem keysKey:KeyOk Tryz.prog 76 X4:=Iy Tryz.underlying76 (by kernel_rfl) Tryz.underlying9 Tryz.underlying3 rfl rfl rfl rfl (by decide) (by decide)
theorem Jh {w:World} {b:Nat} {L:LvD} {F:Th} (hS:Sat w [We b L,F]) (id:Int):
    Calls Tryz.prog 43 #[ptrV b 0,intV id] w (Ret fun v w'=>v= .bool (ZE L id)∧Sat w' [We b L,F]):= by
 replace hS:=Ze hS
 refine Qr Tryz.func43 rfl Tryz.ntmps43 rfl ?_
 refine Qd (Qa (Qe rfl rfl (Qf (Qc (Qd (Qa (Qb rfl rfl (Xd rfl rfl rfl (Qb rfl rfl (QR 7 rfl (fun h1=> ?_) (fun h1=> ?_)))))))))))
 ·exact Qh rfl rfl (Xc h1) rfl (Qh rfl rfl (Xc h1) rfl (Qh rfl rfl (Xc h1) rfl (Qh rfl rfl (Xc h1) rfl (Qh rfl rfl (Xc h1) rfl (Qh rfl rfl (Xc h1) rfl (Qh rfl rfl (Xc h1) rfl (QI rfl (Xc h1) rfl rfl (Qe rfl rfl (Qf (Qc (Qi [4] rfl (Qw (QW (.inr rfl) rfl rfl (⟨_,rfl, by simp [ZE, *],Xj (hS.pick [0,1,2,3,4,5] rfl)⟩))))))))))))))
 refine Qj rfl rfl (Q6 h1) (Qb rfl rfl (Qj rfl rfl (Q6 h1) (Qk rfl rfl (Qj rfl rfl (Q6 h1) (Qg rfl W2 rfl (Qj rfl rfl (Q6 h1) (Qp rfl Y6 (hS.cell 0 rfl rfl) rfl (Qj rfl rfl (Q6 h1) (Qb rfl rfl (Qj rfl rfl (Q6 h1) (X8 (k:=id) 2 hS keysInt Tryz.underlying82 rfl rfl rfl Hz (u:=(ptO TrD.ad (L.tr id))) (Kl _) rfl (Qj rfl rfl (Q6 h1) ?_))))))))))))
 rcases hq_T:L.tr id with _ | t
 ·exact Yk Tryz.underlying94 rfl rfl rfl (QL rfl (Q6 h1) rfl rfl (Qe rfl rfl (Qf (Qc (Qi [4] rfl (Qw (QW (.inr rfl) rfl rfl (⟨_,rfl, by simp [ZE, *],Xj (hS.pick [0,1,2,3,4,5] rfl)⟩))))))))
 exact Uk Tryz.underlying94 rfl rfl rfl (QL rfl (Q6 h1) rfl rfl (Qe rfl rfl (Qf (Qc (Qi [4] rfl (Qw (QW (.inr rfl) rfl rfl (⟨_,rfl, by simp [ZE, *],Xj (hS.pick [0,1,2,3,4,5] rfl)⟩))))))))
def JV (L:LvD) (id parent:Int):Int:= if id<1 then 1 else if(L.tr id).isSome=true then 5 else if ZE L parent=false then 4 else 0
noncomputable def Sh (L:LvD) (id parent:Int) (a ml md:Nat):LvD:= if JV L id parent=0 then{L with tr:=X5 L.tr id (some ⟨a,ml,md,parent, fun _=>none, fun _=>false⟩)}else L
theorem qa5 {w:World} {b:Nat} {L:LvD} {F:Th} (hS:Sat w [We b L,F]) (id parent:Int):
    Calls Tryz.prog 11 #[ptrV b 0,intV id,intV parent] w (Ret fun v w'=>v=intV (JV L id parent)∧ ∃a ml md,Sat w' [We b (Sh L id parent a ml md),F]):= by
 replace hS:=Ze hS
 refine Qr Tryz.func11 rfl Tryz.ntmps11 rfl ?_
 refine Qd (Qa (Qe rfl rfl (Qf (Qc (Qd (Qx (Qd (Qa (Qb rfl rfl (Xh rfl rfl rfl (Qe rfl rfl (Qf (Qc (Qt rfl (fun h1=> ?_) (fun h1=> ?_)))))))))))))))
 ·refine Qd (Qa (Qe rfl rfl (Qf (Qc (Qw (Qy (Qo (QW (.inr rfl) rfl rfl ?_))))))))
  have hE:JV L id parent=1:= by unfold JV; rw[if_pos (by assumption)]
  exact⟨_,rfl, by rw[hE],0,0,0, by unfold Sh; rw[if_neg (by rw[hE];decide)]; exact Xj (hS.pick [0,1,2,3,4,5] rfl)⟩
 refine Qd (Qa (Qb rfl rfl (Qk rfl rfl (Qg rfl W2 rfl (Qp rfl Y6 (hS.cell 0 rfl rfl) rfl (Qb rfl rfl (X8 (k:=id) 2 hS keysInt Tryz.underlying82 rfl rfl rfl Hz (u:=(ptO TrD.ad (L.tr id))) (Kl _) rfl ?_)))))))
 rcases hq_T:L.tr id with _ | t
 ·refine Yk Tryz.underlying94 rfl rfl rfl (Qe rfl rfl (Qf (Qc (Qi [2,1,0,6,10] rfl (Xb rfl (Qd ?_))))))
  have hS2:=Xj (L:=L) (hS.pick [0,1,2,3,4,5] rfl)
  refine Qa (Qb rfl rfl (Qb rfl rfl (qac Hf rfl (Jh (hS2.sp [0] rfl) parent) rfl ?_)))
  rintro _ w3 ⟨rfl,hS3⟩
  replace hS3:=hS3.jn rfl rfl
  clear hS2
  refine QX rfl rfl (Qe rfl rfl (Qf (Qc (QQ rfl (fun h4=> ?_) (fun h4=> ?_)))))
  ·have hth:ZE L parent=false:= by simpa using h4
   refine Qd (Qa (Qe rfl rfl (Qf (Qc (Qw (Qy (Qo (QW (.inr rfl) rfl rfl ?_))))))))
   have hE:JV L id parent=4:= by unfold JV; rw[if_neg (by assumption),if_neg (by rw[hq_T];decide),if_pos hth]
   exact⟨_,rfl, by rw[hE],0,0,0, by unfold Sh; rw[if_neg (by rw[hE];decide)]; exact hS3.pick [0,1] rfl⟩
  have hth:ZE L parent=true:= by simpa using h4
  refine Qs (Qm (Qc (Qd ?_)))
  have hS5:=Ze (hS3.pick [0,1] rfl)
  refine Qa (Qb rfl rfl (Qk rfl rfl (Qg rfl W2 rfl (Qp rfl Y6 (hS5.cell 0 rfl rfl) rfl (Qb rfl rfl (Qb rfl rfl (Zg X4 hS5 rfl ?_)))))))
  intro nl w6 hS6
  clear hS5
  refine Zg Xw hS6 rfl ?_
  intro nd w7 hS7
  clear hS6
  refine Zr rfl Pi asz_93 zr_93 rfl rfl (Zb hS7 rfl rfl rfl ?_)
  intro ta w8 hS8
  clear hS7
  refine Xq (k:=id) (v:=ptrV ta 0) 5 hS8 keysInt Tryz.underlying82 rfl rfl rfl rfl ?_
  intro w9 hS9; dsimp only[List.set]at hS9
  clear hS8
  refine Qf (Qc (Qi [6] rfl (Qd (Qa (Qe rfl rfl (Qf (Qc (Qw (QW (.inr rfl) rfl rfl ?_)))))))))
  have hE:JV L id parent=0:= by unfold JV; rw[if_neg (by assumption),if_neg (by rw[hq_T];decide),if_neg (by rw[hth];decide)]
  have hA:=Sf (κ:=KD) RM (hS9.pick [0,2,1,6,3,4,5,7,8] rfl)
  have hB:=Sg (DB (t:=(⟨ta,nl,nd,parent, fun _=>none, fun _=>false⟩:TrD)) (hA.reorder [1,2,0,3,4,5,6,7,8,9] rfl)) hq_T
  have hC:=hB.reorder [1,2,3,0,4,5] rfl
  rw[Pg (x:=(⟨ta,nl,nd,parent, fun _=>none, fun _=>false⟩:TrD))]at hC
  exact⟨_,rfl, by rw[hE],ta,nl,nd, by unfold Sh; rw[if_pos hE]; exact Xj (L:={L with tr:=X5 L.tr id (some (⟨ta,nl,nd,parent, fun _=>none, fun _=>false⟩:TrD))}) hC⟩
 refine Uk Tryz.underlying94 rfl rfl rfl (Qe rfl rfl (Qf (Qc (Qi [2,1,0,6,10] rfl (Xy rfl (Qd (Qa (Qe rfl rfl (Qf (Qc (Qw (Qy (Qo (QW (.inr rfl) rfl rfl ?_))))))))))))))
 have hE:JV L id parent=5:= by unfold JV; rw[if_neg (by assumption),if_pos (by rw[hq_T];rfl)]
 exact⟨_,rfl, by rw[hE],0,0,0, by unfold Sh; rw[if_neg (by rw[hE];decide)]; exact Xj (hS.pick [0,1,2,3,4,5] rfl)⟩
theorem Yg {L:LvD} {n:Nat} {id:Int} {k:KD} (h:id=0):Jv L (n+1) id k=L.pres k:= by unfold Jv; rw[if_pos h]
theorem T6 {L:LvD} {n:Nat} {id:Int} {k:KD} (h:id≠0) (ht:L.tr id=none):Jv L (n+1) id k=0:= by unfold Jv; rw[if_neg h,ht]
theorem Us {L:LvD} {n:Nat} {id:Int} {k:KD} {t:TrD} {x:LfD} (h:id≠0) (ht:L.tr id=some t) (hx:t.lv k=some x):Jv L (n+1) id k=x.own:= by unfold Jv; rw[if_neg h,ht]; dsimp only; rw[hx]
theorem GK {L:LvD} {n:Nat} {id:Int} {k:KD} {t:TrD} (h:id≠0) (ht:L.tr id=some t) (hx:t.lv k=none) (hd:t.dr k.1=true):Jv L (n+1) id k=0:= by unfold Jv; rw[if_neg h,ht]; dsimp only; rw[hx]; dsimp only; rw[if_pos hd]
theorem Cw {L:LvD} {n:Nat} {id:Int} {k:KD} {t:TrD} (h:id≠0) (ht:L.tr id=some t) (hx:t.lv k=none) (hd:t.dr k.1=false):Jv L (n+1) id k=Jv L n t.parent k:= by rw[Jv,if_neg h,ht]; dsimp only; rw[hx]; dsimp only; rw[if_neg (by rw[hd];decide)]
theorem CL {T:Int→Option TrD} {n:Nat} {id:Int} {t:TrD} (h:Y5 T n id) (h0:id≠0) (ht:T id=some t): ∃m,n=m+1∧Y5 T m t.parent:= by
  cases n with
  | zero=> exact absurd h h0
  | succ n=>
    rcases h with h | h
    · exact absurd h h0
    · rw[ht]at h; exact⟨n,rfl,h⟩
theorem Yq {w:World} {b:Nat} {L:LvD} {F:Th} (hS:Sat w [We b L,F]) (hE: ∀i,Y5 L.tr Zv i) (id:Int) (k:KD):
    Calls Tryz.prog 48 #[ptrV b 0,intV id,X4 k] w (Ret fun v w'=>v=intV (Xi L id k)∧Sat w' [We b L,F]):= by
 replace hS:=Ze hS
 refine Qr Tryz.func48 rfl Tryz.ntmps48 rfl ?_
 refine Qd (Qa (Zb hS rfl rfl rfl ?_))
 intro kb w1 hS1
 change Sat w1 [QK kb [strV k.1,intV k.2],_,_,_,_,_,_]at hS1
 refine Qe rfl rfl (Qf (Qc (Qd (Qx (Xk (fun K0 E0 W0=> ∃(m:Nat) (i:Int),K0=m+1∧E0=[(0,ptrV b 0),(1,intV i),(5,ptrV kb 0)]∧Sat W0 [QK kb [strV k.1,intV k.2],QK b [ptrV L.sp 0,.map (some L.mp),.map (some L.mt),intV L.cur,.map (some L.ms)],Q8 X4 L.mp (Zz L.pres),Q8 Xl L.mt (Zp TrD.ad L.tr),Z6 K7 L.tr,Q8 Xl L.ms (Jl L.sh),F]∧(Xi L id k=Jv L (m+1) i k)∧(Y5 L.tr m i)∧(m≤Zv)) (L0:=[(0,_),(1,_),(5,_)]) (Zv+1) (Cn rfl rfl rfl) ⟨Zv,id,rfl,rfl,hS1,rfl,hE id,Nat.le_refl _⟩ ?_)))))
 rintro _ _ w2 ⟨m,i,rfl,rfl,hS2,hse,hen,hm⟩
 refine Qd (Qd (Qa (Qb rfl rfl (X6 rfl rfl rfl (Qf (Qc (Qt rfl (fun h3=> ?_) (fun h3=> ?_))))))))
 ·have hid0:i≠0:=h3
  refine Qs (Qc (Qx (Qd (Qa (Qb rfl rfl (Qk rfl rfl (Qg rfl W2 rfl (Qp rfl Y6 (hS2.cell 1 rfl rfl) rfl (Qb rfl rfl (X8 (k:=i) 3 hS2 keysInt Tryz.underlying82 rfl rfl rfl Hz (u:=(ptO TrD.ad (L.tr i))) (Kl _) rfl (Qe rfl rfl (Qf (Qc (Qi [5,1,0,7] rfl (Qd (Qd (Qa (Qb rfl rfl ?_))))))))))))))))))
  rcases hq_T:L.tr i with _ | t
  ·exact Ym Tryz.underlying94 rfl rfl rfl (Qf (Qc (Xy rfl (Qd (Qa (Qe rfl rfl (Qf (Qc (Qw (Qo (Qy (Qo (Qy (Qo (QW (.inr rfl) rfl rfl (⟨_,rfl, by rw[hse,T6 hid0 hq_T],Xj (hS2.pick [1,2,3,4,5,6] rfl)⟩))))))))))))))))
  refine ZP Tryz.underlying94 rfl rfl rfl ?_
  have hS4:=ZK (hS2.pick [4,0,1,2,3,5,6] rfl) hq_T
  refine Qf (Qc (Xb rfl (Qs (Qc (Qd (Qd ?_))))))
  have hS5:=hS4.drew
  refine QO [0,1,2,3,4,5,6] [] Wu (by kernel_rfl) ?_
  refine QJ rfl rfl rfl (Xr rfl rfl rfl (QZ rfl rfl rfl Wj (QH rfl rfl rfl (Qn rfl JM (hS5.cell 0 rfl rfl)) (QH rfl rfl rfl (XK rfl XE Xn (hS5.blk 5 rfl) (XJ rfl) rfl) (QH rfl rfl rfl (X3 (k:=k) 1 hS5 keysKey Tryz.underlying90 rfl rfl rfl HK (u:=(ptO LfD.ad (t.lv k))) (Kl _)) (XU rfl rfl rfl (VC.nil (Qc (Qi [5,1,0,7,8] rfl (Qd (Qa (Qb rfl rfl ?_))))))))))))
  rcases hq_X:t.lv k with _ | x
  ·refine Yk Tryz.underlying89 rfl rfl rfl (Qf (Qc (Xb rfl (Qs (Qc (Qd (Qd ?_)))))))
   have hS7:=hS5.drew
   refine QO [0,1,2,3,4,5,6] [] Wu (by kernel_rfl) ?_
   refine QJ rfl rfl rfl (Xr rfl rfl rfl (QZ rfl rfl rfl RT (QH rfl rfl rfl (Qn rfl Ck (hS7.cell 0 rfl rfl)) (QZ rfl rfl rfl Yz (QH rfl rfl rfl (Qn rfl ZI (hS7.cell 5 rfl rfl)) (QH rfl rfl rfl (X3 (k:=k.1) 3 hS7 keysStr Tryz.underlying91 rfl rfl rfl zr_4 (u:= .bool (t.dr k.1)) (Ns _ _)) (VC.nil (Qc (Qi [5,1,0,7,37] rfl (QQ rfl (fun h8=> ?_) (fun h8=> ?_)))))))))))
   ·have hdr:t.dr k.1=true:=h8
    refine Qd (Qa (Qe rfl rfl (Qf (Qc (Qw (Qo (Qy (Qo (Qy (Qo (QW (.inr rfl) rfl rfl ?_)))))))))))
    have hS9:=Zs hq_T (hS7.pick [0,1,2,3,4,5,6,7,8,9,10] rfl)
    exact⟨_,rfl, by rw[hse,GK hid0 hq_T hq_X hdr],Xj (hS9.pick [2,3,4,0,5,6] rfl)⟩
   have hdr:t.dr k.1=false:=h8
   refine Qs (Qc (Qa (Qb rfl rfl (Qk rfl rfl (Qg rfl Yy rfl (Qp rfl QS (hS7.cell 0 rfl rfl) rfl (Qe rfl rfl (Qf (Qm ?_)))))))))
   have hS10:=Zs hq_T (hS7.pick [0,1,2,3,4,5,6,7,8,9,10] rfl)
   obtain⟨m2,hm2,hen2⟩:=CL hen hid0 hq_T
   exact QE (L1:=[(0,_),(1,intV t.parent),(5,_)]) (Cn rfl rfl rfl) (k1:=m2+1) (by omega) ⟨m2,t.parent,rfl,rfl,hS10.pick [1,2,3,4,0,5,6] rfl, by rw[hse,hm2,Cw hid0 hq_T hq_X hdr],hen2, by omega⟩
  refine Uk Tryz.underlying89 rfl rfl rfl ?_
  have hS6:=HC (hS5.pick [2,0,1,3,4,5,6,7,8,9,10] rfl) hq_X
  refine Qf (Qc (Xy rfl (Qd (Qa (Qb rfl rfl (Qk rfl rfl (Qg rfl Jy rfl (Qp rfl QS (hS6.cell 0 rfl rfl) rfl (Qe rfl rfl (Qf (Qc (Qi [5,1,0,7,6] rfl (Qw (Qo (Qy (Qo (Qy (Qo (QW (.inr rfl) rfl rfl ?_)))))))))))))))))))
  have hS11:=Wo hq_X (hS6.pick [0,1,2,3,4,5,6,7,8,9,10,11] rfl)
  have hS12:=Zs hq_T (hS11.pick [1,2,0,3,4,5,6,7,8,9,10] rfl)
  exact⟨_,rfl, by rw[hse,Us hid0 hq_T hq_X],Xj (hS12.pick [2,3,4,0,5,6] rfl)⟩
 have hid0:i=0:=Decidable.not_not.1 h3
 refine QY (Qq (Qq (Q0 (Qc (Qd ?_)))))
 have hS13:=hS2.drew
 refine QO [0,1,2,3,4,5,6] [] Wu (by kernel_rfl) ?_
 exact QJ rfl rfl rfl (Xr rfl rfl rfl (QZ rfl rfl rfl UU (QH rfl rfl rfl (Qn rfl BB (hS13.cell 1 rfl rfl)) (QH rfl rfl rfl (XK rfl XE Xn (hS13.blk 0 rfl) (XJ rfl) rfl) (QH rfl rfl rfl (X3 (k:=k) 2 hS13 keysKey Tryz.underlying81 rfl rfl rfl HJ (u:=intV (L.pres k)) (GP _ _)) (XU rfl rfl rfl (VC.nil (Qc (Qi [6] rfl (Qw (QW (.inr rfl) rfl rfl (⟨_,rfl, by rw[hse,Yg hid0],Xj (hS13.pick [1,2,3,4,5,6] rfl)⟩))))))))))))
theorem Pd {w:World} {b sp mp mt ms n Fr:Nat} {cu:Int} {f:Int→Bool} {V:VS} {F:Th} (hS:Sat w [QK b [ptrV sp 0,.map (some mp),.map (some mt),intV cu,.map (some ms)],Q8 Xl ms (Jl f),Zw sp n Fr V,F]) (hn:n≤800000000) (s:Int):
    Calls Tryz.prog 53 #[ptrV b 0,intV s] w (Ret fun v w'=>v= .tuple #[]∧Sat w' [QK b [ptrV sp 0,.map (some mp),.map (some mt),intV cu,.map (some ms)],Q8 Xl ms (Jl (Y4 f s)),Zw sp (n+1) Fr (refW V s),F]):= by
 refine Qr Tryz.func53 rfl Tryz.ntmps53 rfl ?_
 refine Qd (Qa (Qb rfl rfl (X6 rfl rfl rfl (Qf (Qc (Qt rfl (fun h1=> ?_) (fun h1=> ?_)))))))
 ·refine Qd (Qa (Qb rfl rfl (Qk rfl rfl (Qg rfl XM rfl (Qp rfl Xu (hS.cell 0 rfl rfl) rfl (Qb rfl rfl (qac UZ rfl (DM (hS.sp [2] rfl) (by omega) s) rfl ?_)))))))
  rintro _ w2 ⟨e0,rfl,hS2⟩
  replace hS2:=hS2.jn rfl rfl
  refine Qf (Qc (Qa (Qb rfl rfl (Qk rfl rfl (Qg rfl Lf rfl (Qp rfl ag_83 (hS2.cell 1 rfl rfl) rfl (Qb rfl rfl (Xq (k:=s) (v:= .bool true) 2 hS2 keysInt Tryz.underlying83 rfl rfl rfl rfl ?_))))))))
  intro w3 hS3; dsimp only[List.set]at hS3; rw[Va]at hS3
  clear hS2
  refine Qf (ZH (.inl rfl) rfl ?_)
  exact⟨_,rfl,rfl, by unfold Y4 refW; rw[if_neg (by assumption),if_neg (by assumption)]; exact hS3.pick [1,2,0,3] rfl⟩
 refine Qs (ZH (.inl rfl) rfl ?_)
 exact⟨_,rfl,rfl, by unfold Y4 refW; rw[if_pos (Decidable.not_not.1 (by assumption)),if_pos (Decidable.not_not.1 (by assumption))]; exact((X7 (m:=n+1) (by omega) (hS.pick [2,0,1,3] rfl)).reorder [1,2,0,3] rfl)⟩
theorem UH {w:World} {b sp mp mt ms n Fr:Nat} {cu:Int} {f:Int→Bool} {V:VS} {F:Th} (hS:Sat w [QK b [ptrV sp 0,.map (some mp),.map (some mt),intV cu,.map (some ms)],Q8 Xl ms (Jl f),Zw sp n Fr V,F]) (hn:n≤800000000) (s:Int):
    Calls Tryz.prog 106 #[ptrV b 0,intV s] w (Ret fun v w'=>v= .tuple #[]∧Sat w' [QK b [ptrV sp 0,.map (some mp),.map (some mt),intV cu,.map (some ms)],Q8 Xl ms (Jl (Y3 V f s)),Zw sp (n+1) Fr (Z8 V s),F]):= by
 refine Qr Tryz.func106 rfl Tryz.ntmps106 rfl ?_
 refine Qd (Qa (Qb rfl rfl (Qk rfl rfl (Qg rfl XM rfl (Qp rfl Xu (hS.cell 0 rfl rfl) rfl (Qb rfl rfl (qac Gn rfl (R1 (hS.sp [2] rfl) (by omega) s) rfl ?_)))))))
 rintro _ w1 ⟨e0,rfl,hS1⟩
 replace hS1:=hS1.jn rfl rfl
 refine Qf (Qc (Qd (Qa (Qb rfl rfl (Qk rfl rfl (Qg rfl XM rfl (Qp rfl Xu (hS1.cell 1 rfl rfl) rfl (Qb rfl rfl (qac Bg rfl (GE (hS1.sp [0] rfl) s) rfl ?_)))))))))
 rintro _ w2 ⟨rfl,hS2⟩
 replace hS2:=hS2.jn rfl rfl
 clear hS1
 refine Y8 rfl rfl rfl (Qf (Qc (Qi [1,0,16] rfl (Qt rfl (fun h3=> ?_) (fun h3=> ?_)))))
 ·refine Qa (Qb rfl rfl (Qk rfl rfl (Qg rfl Lf rfl (Qp rfl ag_83 (hS2.cell 1 rfl rfl) rfl (Qb rfl rfl (Xq (k:=s) (v:= .bool true) 2 hS2 keysInt Tryz.underlying83 rfl rfl rfl rfl ?_))))))
  intro w4 hS4; dsimp only[List.set]at hS4; rw[Va]at hS4
  clear hS2
  refine Qf (ZH (.inl rfl) rfl ?_)
  exact⟨_,rfl,rfl, by unfold Y3; rw[if_pos (by omega)]; exact hS4.pick [1,2,0,3] rfl⟩
 refine Qs (ZH (.inl rfl) rfl ?_)
 exact⟨_,rfl,rfl, by unfold Y3; rw[if_neg (by omega)]; exact hS2.pick [1,2,0,3] rfl⟩
theorem I2 {w:World} {b sp mp mt ms n Fr:Nat} {a:Nat} {v0 v2 v3:Value} {cu old:Int} {f:Int→Bool} {V:VS} {F:Th} (hS:Sat w [QK b [ptrV sp 0,.map (some mp),.map (some mt),intV cu,.map (some ms)],Q8 Xl ms (Jl f),Zw sp n Fr V,QK a [v0,intV old,v2,v3],F]) (hn:n≤700000000) (s:Int):
    Calls Tryz.prog 73 #[ptrV b 0,ptrV a 1,intV s] w (Ret fun v w'=>v= .tuple #[]∧Sat w' [QK b [ptrV sp 0,.map (some mp),.map (some mt),intV cu,.map (some ms)],Q8 Xl ms (Jl (Y3 (refW V s) (Y4 f s) old)),Zw sp (n+2) Fr (Z8 (refW V s) old),QK a [v0,intV s,v2,v3],F]):= by
 refine Qr Tryz.func73 rfl Tryz.ntmps73 rfl ?_
 refine Qd (Qa (Qb rfl rfl (Qb rfl rfl (qac MI rfl (Pd (hS.sp [0,1,2] rfl) (by omega) s) rfl ?_))))
 rintro _ w1 ⟨rfl,hS1⟩
 replace hS1:=hS1.jn rfl rfl
 refine Qf (Qc (Qd (Qa (Qb rfl rfl (Qb rfl rfl (Qk rfl rfl (Qp rfl QS (hS1.cell 3 rfl rfl) rfl (qac UY rfl (UH (hS1.sp [0,1,2] rfl) (by omega) old) rfl ?_))))))))
 rintro _ w2 ⟨rfl,hS2⟩
 replace hS2:=hS2.jn rfl rfl
 clear hS1
 refine Qf (Qc (Qi [2,1] rfl (Qa (Qb rfl rfl (Qb rfl rfl (Qk rfl rfl ?_))))))
 (refine Xt hS2 rfl rfl Uq (by rfl) (i:=3) rfl (XJ rfl) ?_)
 intro w3 hS4; dsimp only[List.set]at hS4
 clear hS2
 exact Qf (ZH (.inl rfl) rfl (⟨_,rfl,rfl,hS4.pick [0,1,2,3,4] rfl⟩))
theorem On {w:World} {b sp mp mt ms n Fr:Nat} {cu:Int} {pr:KD→Int} {f:Int→Bool} {V:VS} {F:Th} (hS:Sat w [QK b [ptrV sp 0,.map (some mp),.map (some mt),intV cu,.map (some ms)],Q8 X4 mp (Zz pr),Q8 Xl ms (Jl f),Zw sp n Fr V,F]) (hn:n≤700000000) (k:KD) (s:Int):
    Calls Tryz.prog 72 #[ptrV b 0,X4 k,intV s] w (Ret fun v w'=>v= .tuple #[]∧Sat w' [QK b [ptrV sp 0,.map (some mp),.map (some mt),intV cu,.map (some ms)],Q8 X4 mp (Zz (Z4 pr k s)),Q8 Xl ms (Jl (Y3 V f (pr k))),Zw sp (n+1) Fr (Z8 V (pr k)),F]):= by
 refine Qr Tryz.func72 rfl Tryz.ntmps72 rfl ?_
 refine Qd (Qa (Zb hS rfl rfl rfl ?_))
 intro kb w1 hS1
 refine Qf (Qc (Qd ?_))
 have hS2:=hS1.drew
 refine QO [0,1,2,3,4,5,6,7] [7] Wu (by kernel_rfl) ?_
 refine QJ rfl rfl rfl (QJ rfl rfl rfl (Xr rfl rfl rfl (QZ rfl rfl rfl UU (QH rfl rfl rfl (Qn rfl BB (hS2.cell 1 rfl rfl)) (QH rfl rfl rfl (XK rfl XE Xn (hS2.blk 0 rfl) (XJ rfl) rfl) (QH rfl rfl rfl (X3 (k:=k) 2 hS2 keysKey Tryz.underlying81 rfl rfl rfl HJ (u:=intV (pr k)) (GP _ _)) (Xp rfl rfl rfl rfl rfl rfl (qac UY rfl (UH (hS2.sp [1,3,4] rfl) (by omega) (pr k)) rfl ?_))))))))
 rintro _ w3 ⟨rfl,hS3⟩
 replace hS3:=hS3.jn rfl rfl
 clear hS2
 refine XB (Xx (by kernel_rfl)) ?_
 refine VC.nil (Qc (Qi [2,0,4] rfl (Qd ?_)))
 have hS4:=hS3.drew
 refine QO [0,1,2,3,4,5,6] [6] Wu (by kernel_rfl) ?_
 refine QJ rfl rfl rfl (Xr rfl rfl rfl (QZ rfl rfl rfl UU (QH rfl rfl rfl (Qn rfl BB (hS4.cell 0 rfl rfl)) (QH rfl rfl rfl (XK rfl XE Xn (hS4.blk 3 rfl) (XJ rfl) rfl) (QJ rfl rfl rfl (Xp rfl rfl rfl rfl rfl rfl (Xq (k:=k) (v:=intV s) 4 hS4 keysKey Tryz.underlying81 rfl rfl rfl rfl ?_)))))))
 intro w5 hS5; dsimp only[List.set]at hS5
 clear hS4
 refine Z3 (Xx (by kernel_rfl)) ?_
 refine VC.nil (Qc (Qd (Qa (Qb rfl rfl (Xd rfl rfl rfl (Qf (Qc (Qi [0,4,21] rfl (Qt rfl (fun h6=> ?_) (fun h6=> ?_))))))))))
 ·have hS7:=hS5.drew
  refine QO [0,1,2,3,4,5] [5] Wu (by kernel_rfl) ?_
  refine QJ rfl rfl rfl (Xr rfl rfl rfl (QZ rfl rfl rfl UU (QH rfl rfl rfl (Qn rfl BB (hS7.cell 0 rfl rfl)) (QH rfl rfl rfl (XK rfl XE Xn (hS7.blk 3 rfl) (XJ rfl) rfl) (Xp rfl rfl rfl rfl rfl rfl (Jn (k:=k) 4 hS7 keysKey Tryz.underlying81 rfl rfl rfl rfl ?_))))))
  intro w8 hS8; dsimp only[List.set]at hS8
  clear hS7
  refine Z3 (Xx (by kernel_rfl)) ?_
  refine VC.nil (ZH (.inl rfl) rfl ?_)
  have hz:=hS8.pick [0,4,1,2,5] rfl
  rw[E5]at hz
  exact⟨_,rfl,rfl, by rw[show s=0 from(by assumption)]; exact hz⟩
 refine Qs (ZH (.inl rfl) rfl ?_)
 have hz:=hS5.pick [0,4,1,2,5] rfl
 rw[E3 (by assumption)]at hz
 exact⟨_,rfl,rfl,hz⟩
end Go.Proofs.YtkcjfoaejijdoaaGreatDoor
