/- leaves: in plain data; there, Begin, sees, ref, unref, hold, set -/
import Derived.Test.YtkcjfoaejijdoaaGreatDoorSh13
set_option linter.unusedVariables false
set_option maxRecDepth 100000
set_option maxHeartbeats 80000000000
namespace Go.Proofs.YtkcjfoaejijdoaaGreatDoor
open Go.RowKit M
set_option linter.unusedSectionVars false
variable [Inhabited SlW]
abbrev KD:=Bs×Int
structure LfD where
  ad:Nat
  base:Int
  own:Int
  rd:BitVec 64
  wr:BitVec 64
structure TrD where
  ad:Nat
  ml:Nat
  md:Nat
  parent:Int
  lv:KD→Option LfD
  dr:Bs→Bool
structure LvD where
  sp:Nat
  mp:Nat
  mt:Nat
  ms:Nat
  pres:KD→Int
  tr:Int→Option TrD
  cur:Int
  sh:Int→Bool
def lfV (x:LfD):List Value:=[intV x.base,intV x.own,Zu x.rd,Zu x.wr]
def RK (x:LfD):Th:=QF x.ad (lfV x)
def Jg {κ:Type} (f:κ→Bool):κ→Option Value:= fun s=> if f s=true then some (.bool true)else none
open Classical in
noncomputable def JD {κ:Type} (f:κ→Bool) (k:κ):κ→Bool:= fun j=> if j=k then true else f j
theorem Ns {κ:Type} (f:κ→Bool) (k:κ):(Jg f k).getD (.bool false)= .bool (f k):= by
  unfold Jg;split
  · rename_i h; rw[h];rfl
  · rename_i h; simp at h; rw[h];rfl
theorem UZ {κ:Type} (f:κ→Bool) (k:κ):upd (Jg f) k (some (.bool true))=Jg (JD f k):= by
  funext j
  by_cases h:j=k
  · subst h; rw[Z5];unfold Jg JD; simp
  · rw[WC h];unfold Jg JD; simp [h]
theorem Nr {κ:Type}:Jg (fun _:κ=>false)= fun _=>none:= by funext k; simp [Jg]
def Zt (p:KD→Int):KD→Option Value:= fun k=> if p k=0 then none else some (intV (p k))
theorem GO (p:KD→Int) (k:KD):(Zt p k).getD (intV 0)=intV (p k):= by
  unfold Zt;split
  · rename_i h; rw[h];rfl
  · rfl
theorem E5:Zt (fun _=>0)= fun _=>none:= by funext k; simp [Zt]
open Classical in
noncomputable def Zy (p:KD→Int) (k:KD) (s:Int):KD→Int:= fun j=> if j=k then s else p j
theorem E4 {p:KD→Int} {k:KD} {s:Int} (h:s≠0):upd (Zt p) k (some (intV s))=Zt (Zy p k s):= by
  funext j
  by_cases e:j=k
  · subst e; rw[Z5];unfold Zt Zy; simp [h]
  · rw[WC e];unfold Zt Zy; simp [e]
theorem E6 {p:KD→Int} {k:KD} {v:Option Value}:upd (upd (Zt p) k v) k none=Zt (Zy p k 0):= by
  funext j
  by_cases e:j=k
  · subst e; rw[Z5];unfold Zt Zy; simp
  · rw[WC e,WC e];unfold Zt Zy; simp [e]
def ptO {α:Type} (ad:α→Nat) (o:Option α):Value:= match o with | none=> .pointer none | some x=>ptrV (ad x) 0
theorem Kk {κ α:Type} {ad:α→Nat} {f:κ→Option α} (k:κ):(Zj ad f k).getD (.pointer none)=ptO ad (f k):= by
  unfold Zj ptO; cases f k<;>rfl
def Z0 {κ α:Type} (th:α→Th) (f:κ→Option α):Th:=Sd fun k=>(f k).map th
theorem Se {κ α:Type} {th:α→Th} {f:κ→Option α} {k:κ} {x:α}:Xz (fun k=>(f k).map th) k (some (th x))= fun j=>((Xz f k (some x)) j).map th:= by
  funext j
  by_cases h:j=k
  · subst h; rw[Q1,Q1];rfl
  · rw[QI h,QI h]
theorem qa6 {κ α:Type} {th:α→Th} {f:κ→Option α} {k:κ}:Xz (fun k=>(f k).map th) k none= fun j=>((Xz f k none) j).map th:= by
  funext j
  by_cases h:j=k
  · subst h; rw[Q1,Q1];rfl
  · rw[QI h,QI h]
section
variable {w:World} {As:List Th}
theorem Ch {κ α:Type} {th:α→Th} {f:κ→Option α} {k:κ} {x:α} (h:Sat w (Z0 th f::As)) (hk:f k=some x):Sat w (th x::Z0 th (Xz f k none)::As):= by
  have h1:=qa5 (k:=k) (A:=th x) h (by show(f k).map th=_; rw[hk];rfl)
  rw[qa6]at h1
  exact h1
theorem Bj {κ α:Type} {th:α→Th} {f:κ→Option α} {k:κ} {x:α} (h:Sat w (th x::Z0 th (Xz f k none)::As)):Sat w (Z0 th (Xz f k (some x))::As):= by
  have h1:=LE (h:= fun j=>((Xz f k none) j).map th) (k:=k) h (by show((Xz f k none) k).map th=none; rw[Q1];rfl)
  rw[Se,YK]at h1
  exact h1
theorem Ci {κ α:Type} {th:α→Th} {f:κ→Option α} {k:κ} {x:α} (h:Sat w (th x::Z0 th (Xz f k none)::As)) (hk:f k=some x):Sat w (Z0 th f::As):= by
  have h1:=Bj h
  rwa [YP hk]at h1
theorem Sg {κ α:Type} {th:α→Th} {f:κ→Option α} {k:κ} {x:α} (h:Sat w (th x::Z0 th f::As)) (hk:f k=none):Sat w (Z0 th (Xz f k (some x))::As):= by
  have h1:=LE (h:= fun j=>(f j).map th) (k:=k) h (by show(f k).map th=none; rw[hk];rfl)
  rw[Se]at h1
  exact h1
theorem Sf {κ α:Type} (th:α→Th) (h:Sat w As):Sat w (Z0 th (fun _:κ=>none)::As):=AB h
end
def trV (t:TrD):List Value:=[intV t.parent,.map (some t.ml),.map (some t.md)]
def K7 (t:TrD):Th:=starL [QF t.ad (trV t),Q3 Xy t.ml (Zj LfD.ad t.lv),Z0 RK t.lv,Q3 Xp t.md (Jg t.dr)]
def lvV (L:LvD):List Value:=[ptrV L.sp 0,.map (some L.mp),.map (some L.mt),intV L.cur,.map (some L.ms)]
def ZY (b:Nat) (L:LvD):Th:=starL [QF b (lvV L),Q3 Xy L.mp (Zt L.pres),Q3 Xf L.mt (Zj TrD.ad L.tr),Z0 K7 L.tr,Q3 Xf L.ms (Jg L.sh)]
section
variable {w:World} {As:List Th}
theorem XX {b:Nat} {L:LvD} (h:Sat w (ZY b L::As)):Sat w (QF b [ptrV L.sp 0,.map (some L.mp),.map (some L.mt),intV L.cur,.map (some L.ms)]::Q3 Xy L.mp (Zt L.pres)::Q3 Xf L.mt (Zj TrD.ad L.tr)::Z0 K7 L.tr::Q3 Xf L.ms (Jg L.sh)::As):=h.flat
theorem Xd {b:Nat} {L:LvD} (h:Sat w (QF b [ptrV L.sp 0,.map (some L.mp),.map (some L.mt),intV L.cur,.map (some L.ms)]::Q3 Xy L.mp (Zt L.pres)::Q3 Xf L.mt (Zj TrD.ad L.tr)::Z0 K7 L.tr::Q3 Xf L.ms (Jg L.sh)::As)):Sat w (ZY b L::As):=Sat.fold (As:=[QF b (lvV L),Q3 Xy L.mp (Zt L.pres),Q3 Xf L.mt (Zj TrD.ad L.tr),Z0 K7 L.tr,Q3 Xf L.ms (Jg L.sh)]) h
theorem ZE {T:Int→Option TrD} {i:Int} {t:TrD} (h:Sat w (Z0 K7 T::As)) (hk:T i=some t):Sat w (QF t.ad [intV t.parent,.map (some t.ml),.map (some t.md)]::Q3 Xy t.ml (Zj LfD.ad t.lv)::Z0 RK t.lv::Q3 Xp t.md (Jg t.dr)::Z0 K7 (Xz T i none)::As):=(Ch h hk).flat
theorem DB {t:TrD} (h:Sat w (QF t.ad [intV t.parent,.map (some t.ml),.map (some t.md)]::Q3 Xy t.ml (Zj LfD.ad t.lv)::Z0 RK t.lv::Q3 Xp t.md (Jg t.dr)::As)):Sat w (K7 t::As):=Sat.fold (As:=[QF t.ad (trV t),Q3 Xy t.ml (Zj LfD.ad t.lv),Z0 RK t.lv,Q3 Xp t.md (Jg t.dr)]) h
theorem Zm {T:Int→Option TrD} {i:Int} {t:TrD} (hk:T i=some t) (h:Sat w (QF t.ad [intV t.parent,.map (some t.ml),.map (some t.md)]::Q3 Xy t.ml (Zj LfD.ad t.lv)::Z0 RK t.lv::Q3 Xp t.md (Jg t.dr)::Z0 K7 (Xz T i none)::As)):Sat w (Z0 K7 T::As):=Ci (DB h) hk
theorem Rx {T:Int→Option TrD} {i:Int} {t:TrD} (h:Sat w (QF t.ad [intV t.parent,.map (some t.ml),.map (some t.md)]::Q3 Xy t.ml (Zj LfD.ad t.lv)::Z0 RK t.lv::Q3 Xp t.md (Jg t.dr)::Z0 K7 (Xz T i none)::As)):Sat w (Z0 K7 (Xz T i (some t))::As):=Bj (DB h)
theorem H9 {f:KD→Option LfD} {k:KD} {x:LfD} (h:Sat w (Z0 RK f::As)) (hk:f k=some x):Sat w (QF x.ad [intV x.base,intV x.own,Zu x.rd,Zu x.wr]::Z0 RK (Xz f k none)::As):=Ch h hk
theorem Wi {f:KD→Option LfD} {k:KD} {x:LfD} (hk:f k=some x) (h:Sat w (QF x.ad [intV x.base,intV x.own,Zu x.rd,Zu x.wr]::Z0 RK (Xz f k none)::As)):Sat w (Z0 RK f::As):=Ci (th:=RK) h hk
theorem Is {f:KD→Option LfD} {k:KD} {x:LfD} (h:Sat w (QF x.ad [intV x.base,intV x.own,Zu x.rd,Zu x.wr]::Z0 RK (Xz f k none)::As)):Sat w (Z0 RK (Xz f k (some x))::As):=Bj (th:=RK) h
theorem FZ {f:KD→Option LfD} {k:KD} {x:LfD} (hk:f k=none) (h:Sat w (QF x.ad [intV x.base,intV x.own,Zu x.rd,Zu x.wr]::Z0 RK f::As)):Sat w (Z0 RK (Xz f k (some x))::As):=Sg (th:=RK) h hk
end
def Jq (L:LvD):Nat→Int→KD→Int
  | 0,_,_=>0
  | n+1,id,k=> if id=0 then L.pres k else match L.tr id with | none=>0 | some t=> match t.lv k with | some x=>x.own | none=> if t.dr k.1=true then 0 else Jq L n t.parent k
def Y3 (T:Int→Option TrD):Nat→Int→Prop
  | 0,id=>id=0
  | n+1,id=>id=0∨ match T id with | none=>True | some t=>Y3 T n t.parent
def Zp:Nat:=100000
def Xc (L:LvD) (id:Int) (k:KD):Int:=Jq L (Zp+1) id k
def Z8 (L:LvD) (id:Int):Bool:=decide (id=0) || (L.tr id).isSome
noncomputable def refW (V:VS) (s:Int):VS:= if s=0 then V else H3 V s
noncomputable def Y2 (f:Int→Bool) (s:Int):Int→Bool:= if s=0 then f else JD f s
noncomputable def Y1 (V:VS) (f:Int→Bool) (s:Int):Int→Bool:= if 0<Zz (Z2 V s) s then JD f s else f
theorem keysKey:KeyOk Tryz.prog 76 Xy:=Iz Tryz.underlying76 (by kernel_rfl) Tryz.underlying9 Tryz.underlying3 rfl rfl rfl rfl (by decide) (by decide)
theorem Jd {w:World} {b:Nat} {L:LvD} {F:Th} (hS:Sat w [ZY b L,F]) (id:Int):
    Calls Tryz.prog 43 #[ptrV b 0,intV id] w (Ret fun v w'=>v= .bool (Z8 L id)∧Sat w' [ZY b L,F]):= by
 replace hS:=XX hS
 refine Qq Tryz.func43 rfl Tryz.ntmps43 rfl ?_
 refine Qd (Qa (Qe rfl rfl (Qf (Qc (Qd (Qa (Qb rfl rfl (QX rfl rfl rfl (Qb rfl rfl (QN 7 rfl (fun h1=> ?_) (fun h1=> ?_)))))))))))
 ·exact Qh rfl rfl (QW h1) rfl (Qh rfl rfl (QW h1) rfl (Qh rfl rfl (QW h1) rfl (Qh rfl rfl (QW h1) rfl (Qh rfl rfl (QW h1) rfl (Qh rfl rfl (QW h1) rfl (Qh rfl rfl (QW h1) rfl (QC rfl (QW h1) rfl rfl (Qe rfl rfl (Qf (Qc (Qi [4] rfl (Qu (QQ (.inr rfl) rfl rfl (⟨_,rfl, by simp [Z8, *],Xd (hS.pick [0,1,2,3,4,5] rfl)⟩))))))))))))))
 refine Qj rfl rfl (Q0 h1) (Qb rfl rfl (Qj rfl rfl (Q0 h1) (Qk rfl rfl (Qj rfl rfl (Q0 h1) (Qg rfl Wu rfl (Qj rfl rfl (Q0 h1) (Qo rfl Y4 (hS.cell 0 rfl rfl) rfl (Qj rfl rfl (Q0 h1) (Qb rfl rfl (Qj rfl rfl (Q0 h1) (X2 (k:=id) 2 hS keysInt Tryz.underlying82 rfl rfl rfl Hv (u:=(ptO TrD.ad (L.tr id))) (Kk _) rfl (Qj rfl rfl (Q0 h1) ?_))))))))))))
 rcases hq_T:L.tr id with _ | t
 ·exact Yi Tryz.underlying94 rfl rfl rfl (QG rfl (Q0 h1) rfl rfl (Qe rfl rfl (Qf (Qc (Qi [4] rfl (Qu (QQ (.inr rfl) rfl rfl (⟨_,rfl, by simp [Z8, *],Xd (hS.pick [0,1,2,3,4,5] rfl)⟩))))))))
 exact Uj Tryz.underlying94 rfl rfl rfl (QG rfl (Q0 h1) rfl rfl (Qe rfl rfl (Qf (Qc (Qi [4] rfl (Qu (QQ (.inr rfl) rfl rfl (⟨_,rfl, by simp [Z8, *],Xd (hS.pick [0,1,2,3,4,5] rfl)⟩))))))))
def JR (L:LvD) (id parent:Int):Int:= if id<1 then 1 else if(L.tr id).isSome=true then 5 else if Z8 L parent=false then 4 else 0
noncomputable def Sh (L:LvD) (id parent:Int) (a ml md:Nat):LvD:= if JR L id parent=0 then{L with tr:=Xz L.tr id (some ⟨a,ml,md,parent, fun _=>none, fun _=>false⟩)}else L
theorem qa7 {w:World} {b:Nat} {L:LvD} {F:Th} (hS:Sat w [ZY b L,F]) (id parent:Int):
    Calls Tryz.prog 11 #[ptrV b 0,intV id,intV parent] w (Ret fun v w'=>v=intV (JR L id parent)∧ ∃a ml md,Sat w' [ZY b (Sh L id parent a ml md),F]):= by
 replace hS:=XX hS
 refine Qq Tryz.func11 rfl Tryz.ntmps11 rfl ?_
 refine Qd (Qa (Qe rfl rfl (Qf (Qc (Qd (Qw (Qd (Qa (Qb rfl rfl (Xb rfl rfl rfl (Qe rfl rfl (Qf (Qc (Qs rfl (fun h1=> ?_) (fun h1=> ?_)))))))))))))))
 ·refine Qd (Qa (Qe rfl rfl (Qf (Qc (Qu (Qx (Qn (QQ (.inr rfl) rfl rfl ?_))))))))
  have hE:JR L id parent=1:= by unfold JR; rw[if_pos (by assumption)]
  exact⟨_,rfl, by rw[hE],0,0,0, by unfold Sh; rw[if_neg (by rw[hE];decide)]; exact Xd (hS.pick [0,1,2,3,4,5] rfl)⟩
 refine Qd (Qa (Qb rfl rfl (Qk rfl rfl (Qg rfl Wu rfl (Qo rfl Y4 (hS.cell 0 rfl rfl) rfl (Qb rfl rfl (X2 (k:=id) 2 hS keysInt Tryz.underlying82 rfl rfl rfl Hv (u:=(ptO TrD.ad (L.tr id))) (Kk _) rfl ?_)))))))
 rcases hq_T:L.tr id with _ | t
 ·refine Yi Tryz.underlying94 rfl rfl rfl (Qe rfl rfl (Qf (Qc (Qi [2,1,0,6,10] rfl (QV rfl (Qd ?_))))))
  have hS2:=Xd (L:=L) (hS.pick [0,1,2,3,4,5] rfl)
  refine Qa (Qb rfl rfl (Qb rfl rfl (Qv Hd rfl (Jd (hS2.sp [0] rfl) parent) rfl ?_)))
  rintro _ w3 ⟨rfl,hS3⟩
  replace hS3:=hS3.jn rfl rfl
  clear hS2
  refine QR rfl rfl (Qe rfl rfl (Qf (Qc (QM rfl (fun h4=> ?_) (fun h4=> ?_)))))
  ·have hth:Z8 L parent=false:= by simpa using h4
   refine Qd (Qa (Qe rfl rfl (Qf (Qc (Qu (Qx (Qn (QQ (.inr rfl) rfl rfl ?_))))))))
   have hE:JR L id parent=4:= by unfold JR; rw[if_neg (by assumption),if_neg (by rw[hq_T];decide),if_pos hth]
   exact⟨_,rfl, by rw[hE],0,0,0, by unfold Sh; rw[if_neg (by rw[hE];decide)]; exact hS3.pick [0,1] rfl⟩
  have hth:Z8 L parent=true:= by simpa using h4
  refine Qr (Ql (Qc (Qd ?_)))
  have hS5:=XX (hS3.pick [0,1] rfl)
  refine Qa (Qb rfl rfl (Qk rfl rfl (Qg rfl Wu rfl (Qo rfl Y4 (hS5.cell 0 rfl rfl) rfl (Qb rfl rfl (Qb rfl rfl (Za Xy hS5 rfl ?_)))))))
  intro nl w6 hS6
  clear hS5
  refine Za Xp hS6 rfl ?_
  intro nd w7 hS7
  clear hS6
  refine Zl rfl Pi asz_93 zr_93 rfl rfl (XU hS7 rfl rfl rfl ?_)
  intro ta w8 hS8
  clear hS7
  refine Xk (k:=id) (v:=ptrV ta 0) 5 hS8 keysInt Tryz.underlying82 rfl rfl rfl rfl ?_
  intro w9 hS9; dsimp only[List.set]at hS9
  clear hS8
  refine Qf (Qc (Qi [6] rfl (Qd (Qa (Qe rfl rfl (Qf (Qc (Qu (QQ (.inr rfl) rfl rfl ?_)))))))))
  have hE:JR L id parent=0:= by unfold JR; rw[if_neg (by assumption),if_neg (by rw[hq_T];decide),if_neg (by rw[hth];decide)]
  have hA:=Sf (κ:=KD) RK (hS9.pick [0,2,1,6,3,4,5,7,8] rfl)
  have hB:=Sg (DB (t:=(⟨ta,nl,nd,parent, fun _=>none, fun _=>false⟩:TrD)) (hA.reorder [1,2,0,3,4,5,6,7,8,9] rfl)) hq_T
  have hC:=hB.reorder [1,2,3,0,4,5] rfl
  rw[Pg (x:=(⟨ta,nl,nd,parent, fun _=>none, fun _=>false⟩:TrD))]at hC
  exact⟨_,rfl, by rw[hE],ta,nl,nd, by unfold Sh; rw[if_pos hE]; exact Xd (L:={L with tr:=Xz L.tr id (some (⟨ta,nl,nd,parent, fun _=>none, fun _=>false⟩:TrD))}) hC⟩
 refine Uj Tryz.underlying94 rfl rfl rfl (Qe rfl rfl (Qf (Qc (Qi [2,1,0,6,10] rfl (Xr rfl (Qd (Qa (Qe rfl rfl (Qf (Qc (Qu (Qx (Qn (QQ (.inr rfl) rfl rfl ?_))))))))))))))
 have hE:JR L id parent=5:= by unfold JR; rw[if_neg (by assumption),if_pos (by rw[hq_T];rfl)]
 exact⟨_,rfl, by rw[hE],0,0,0, by unfold Sh; rw[if_neg (by rw[hE];decide)]; exact Xd (hS.pick [0,1,2,3,4,5] rfl)⟩
theorem Ye {L:LvD} {n:Nat} {id:Int} {k:KD} (h:id=0):Jq L (n+1) id k=L.pres k:= by unfold Jq; rw[if_pos h]
theorem T6 {L:LvD} {n:Nat} {id:Int} {k:KD} (h:id≠0) (ht:L.tr id=none):Jq L (n+1) id k=0:= by unfold Jq; rw[if_neg h,ht]
theorem Uq {L:LvD} {n:Nat} {id:Int} {k:KD} {t:TrD} {x:LfD} (h:id≠0) (ht:L.tr id=some t) (hx:t.lv k=some x):Jq L (n+1) id k=x.own:= by unfold Jq; rw[if_neg h,ht]; dsimp only; rw[hx]
theorem GJ {L:LvD} {n:Nat} {id:Int} {k:KD} {t:TrD} (h:id≠0) (ht:L.tr id=some t) (hx:t.lv k=none) (hd:t.dr k.1=true):Jq L (n+1) id k=0:= by unfold Jq; rw[if_neg h,ht]; dsimp only; rw[hx]; dsimp only; rw[if_pos hd]
theorem Cw {L:LvD} {n:Nat} {id:Int} {k:KD} {t:TrD} (h:id≠0) (ht:L.tr id=some t) (hx:t.lv k=none) (hd:t.dr k.1=false):Jq L (n+1) id k=Jq L n t.parent k:= by rw[Jq,if_neg h,ht]; dsimp only; rw[hx]; dsimp only; rw[if_neg (by rw[hd];decide)]
theorem CL {T:Int→Option TrD} {n:Nat} {id:Int} {t:TrD} (h:Y3 T n id) (h0:id≠0) (ht:T id=some t): ∃m,n=m+1∧Y3 T m t.parent:= by
  cases n with
  | zero=> exact absurd h h0
  | succ n=>
    rcases h with h | h
    · exact absurd h h0
    · rw[ht]at h; exact⟨n,rfl,h⟩
theorem Yo {w:World} {b:Nat} {L:LvD} {F:Th} (hS:Sat w [ZY b L,F]) (hE: ∀i,Y3 L.tr Zp i) (id:Int) (k:KD):
    Calls Tryz.prog 48 #[ptrV b 0,intV id,Xy k] w (Ret fun v w'=>v=intV (Xc L id k)∧Sat w' [ZY b L,F]):= by
 replace hS:=XX hS
 refine Qq Tryz.func48 rfl Tryz.ntmps48 rfl ?_
 refine Qd (Qa (XU hS rfl rfl rfl ?_))
 intro kb w1 hS1
 change Sat w1 [QF kb [strV k.1,intV k.2],_,_,_,_,_,_]at hS1
 refine Qe rfl rfl (Qf (Qc (Qd (Qw (Xe (fun K0 E0 W0=> ∃(m:Nat) (i:Int),K0=m+1∧E0=[(0,ptrV b 0),(1,intV i),(5,ptrV kb 0)]∧Sat W0 [QF kb [strV k.1,intV k.2],QF b [ptrV L.sp 0,.map (some L.mp),.map (some L.mt),intV L.cur,.map (some L.ms)],Q3 Xy L.mp (Zt L.pres),Q3 Xf L.mt (Zj TrD.ad L.tr),Z0 K7 L.tr,Q3 Xf L.ms (Jg L.sh),F]∧(Xc L id k=Jq L (m+1) i k)∧(Y3 L.tr m i)∧(m≤Zp)) (L0:=[(0,_),(1,_),(5,_)]) (Zp+1) (Cn rfl rfl rfl) ⟨Zp,id,rfl,rfl,hS1,rfl,hE id,Nat.le_refl _⟩ ?_)))))
 rintro _ _ w2 ⟨m,i,rfl,rfl,hS2,hse,hen,hm⟩
 refine Qd (Qd (Qa (Qb rfl rfl (X0 rfl rfl rfl (Qf (Qc (Qs rfl (fun h3=> ?_) (fun h3=> ?_))))))))
 ·have hid0:i≠0:=h3
  refine Qr (Qc (Qw (Qd (Qa (Qb rfl rfl (Qk rfl rfl (Qg rfl Wu rfl (Qo rfl Y4 (hS2.cell 1 rfl rfl) rfl (Qb rfl rfl (X2 (k:=i) 3 hS2 keysInt Tryz.underlying82 rfl rfl rfl Hv (u:=(ptO TrD.ad (L.tr i))) (Kk _) rfl (Qe rfl rfl (Qf (Qc (Qi [5,1,0,7] rfl (Qd (Qd (Qa (Qb rfl rfl ?_))))))))))))))))))
  rcases hq_T:L.tr i with _ | t
  ·exact Yk Tryz.underlying94 rfl rfl rfl (Qf (Qc (Xr rfl (Qd (Qa (Qe rfl rfl (Qf (Qc (Qu (Qn (Qx (Qn (Qx (Qn (QQ (.inr rfl) rfl rfl (⟨_,rfl, by rw[hse,T6 hid0 hq_T],Xd (hS2.pick [1,2,3,4,5,6] rfl)⟩))))))))))))))))
  refine ZJ Tryz.underlying94 rfl rfl rfl ?_
  have hS4:=ZE (hS2.pick [4,0,1,2,3,5,6] rfl) hq_T
  refine Qf (Qc (QV rfl (Qr (Qc (Qd (Qd ?_))))))
  have hS5:=hS4.drew
  refine QJ [0,1,2,3,4,5,6] [] Wp (by kernel_rfl) ?_
  refine QE rfl rfl rfl (Xl rfl rfl rfl (QT rfl rfl rfl Wd (Q9 rfl rfl rfl (Qm rfl JH (hS5.cell 0 rfl rfl)) (Q9 rfl rfl rfl (XE rfl X9 Xh (hS5.blk 5 rfl) (Xn rfl) rfl) (Q9 rfl rfl rfl (Xx (k:=k) 1 hS5 keysKey Tryz.underlying90 rfl rfl rfl HI (u:=(ptO LfD.ad (t.lv k))) (Kk _)) (XN rfl rfl rfl (VC.nil (Qc (Qi [5,1,0,7,8] rfl (Qd (Qa (Qb rfl rfl ?_))))))))))))
  rcases hq_X:t.lv k with _ | x
  ·refine Yi Tryz.underlying89 rfl rfl rfl (Qf (Qc (QV rfl (Qr (Qc (Qd (Qd ?_)))))))
   have hS7:=hS5.drew
   refine QJ [0,1,2,3,4,5,6] [] Wp (by kernel_rfl) ?_
   refine QE rfl rfl rfl (Xl rfl rfl rfl (QT rfl rfl rfl RS (Q9 rfl rfl rfl (Qm rfl Ck (hS7.cell 0 rfl rfl)) (QT rfl rfl rfl Yx (Q9 rfl rfl rfl (Qm rfl ZC (hS7.cell 5 rfl rfl)) (Q9 rfl rfl rfl (Xx (k:=k.1) 3 hS7 keysStr Tryz.underlying91 rfl rfl rfl zr_4 (u:= .bool (t.dr k.1)) (Ns _ _)) (VC.nil (Qc (Qi [5,1,0,7,37] rfl (QM rfl (fun h8=> ?_) (fun h8=> ?_)))))))))))
   ·have hdr:t.dr k.1=true:=h8
    refine Qd (Qa (Qe rfl rfl (Qf (Qc (Qu (Qn (Qx (Qn (Qx (Qn (QQ (.inr rfl) rfl rfl ?_)))))))))))
    have hS9:=Zm hq_T (hS7.pick [0,1,2,3,4,5,6,7,8,9,10] rfl)
    exact⟨_,rfl, by rw[hse,GJ hid0 hq_T hq_X hdr],Xd (hS9.pick [2,3,4,0,5,6] rfl)⟩
   have hdr:t.dr k.1=false:=h8
   refine Qr (Qc (Qa (Qb rfl rfl (Qk rfl rfl (Qg rfl Yw rfl (Qo rfl QO (hS7.cell 0 rfl rfl) rfl (Qe rfl rfl (Qf (Ql ?_)))))))))
   have hS10:=Zm hq_T (hS7.pick [0,1,2,3,4,5,6,7,8,9,10] rfl)
   obtain⟨m2,hm2,hen2⟩:=CL hen hid0 hq_T
   exact Q6 (L1:=[(0,_),(1,intV t.parent),(5,_)]) (Cn rfl rfl rfl) (k1:=m2+1) (by omega) ⟨m2,t.parent,rfl,rfl,hS10.pick [1,2,3,4,0,5,6] rfl, by rw[hse,hm2,Cw hid0 hq_T hq_X hdr],hen2, by omega⟩
  refine Uj Tryz.underlying89 rfl rfl rfl ?_
  have hS6:=H9 (hS5.pick [2,0,1,3,4,5,6,7,8,9,10] rfl) hq_X
  refine Qf (Qc (Xr rfl (Qd (Qa (Qb rfl rfl (Qk rfl rfl (Qg rfl Jt rfl (Qo rfl QO (hS6.cell 0 rfl rfl) rfl (Qe rfl rfl (Qf (Qc (Qi [5,1,0,7,6] rfl (Qu (Qn (Qx (Qn (Qx (Qn (QQ (.inr rfl) rfl rfl ?_)))))))))))))))))))
  have hS11:=Wi hq_X (hS6.pick [0,1,2,3,4,5,6,7,8,9,10,11] rfl)
  have hS12:=Zm hq_T (hS11.pick [1,2,0,3,4,5,6,7,8,9,10] rfl)
  exact⟨_,rfl, by rw[hse,Uq hid0 hq_T hq_X],Xd (hS12.pick [2,3,4,0,5,6] rfl)⟩
 have hid0:i=0:=Decidable.not_not.1 h3
 refine QS (Qp (Qp (Qz (Qc (Qd ?_)))))
 have hS13:=hS2.drew
 refine QJ [0,1,2,3,4,5,6] [] Wp (by kernel_rfl) ?_
 exact QE rfl rfl rfl (Xl rfl rfl rfl (QT rfl rfl rfl UT (Q9 rfl rfl rfl (Qm rfl B9 (hS13.cell 1 rfl rfl)) (Q9 rfl rfl rfl (XE rfl X9 Xh (hS13.blk 0 rfl) (Xn rfl) rfl) (Q9 rfl rfl rfl (Xx (k:=k) 2 hS13 keysKey Tryz.underlying81 rfl rfl rfl HH (u:=intV (L.pres k)) (GO _ _)) (XN rfl rfl rfl (VC.nil (Qc (Qi [6] rfl (Qu (QQ (.inr rfl) rfl rfl (⟨_,rfl, by rw[hse,Ye hid0],Xd (hS13.pick [1,2,3,4,5,6] rfl)⟩))))))))))))
theorem Pd {w:World} {b sp mp mt ms n Fr:Nat} {cu:Int} {f:Int→Bool} {V:VS} {F:Th} (hS:Sat w [QF b [ptrV sp 0,.map (some mp),.map (some mt),intV cu,.map (some ms)],Q3 Xf ms (Jg f),Zq sp n Fr V,F]) (hn:n≤80000000000) (s:Int):
    Calls Tryz.prog 53 #[ptrV b 0,intV s] w (Ret fun v w'=>v= .tuple #[]∧Sat w' [QF b [ptrV sp 0,.map (some mp),.map (some mt),intV cu,.map (some ms)],Q3 Xf ms (Jg (Y2 f s)),Zq sp (n+1) Fr (refW V s),F]):= by
 refine Qq Tryz.func53 rfl Tryz.ntmps53 rfl ?_
 refine Qd (Qa (Qb rfl rfl (X0 rfl rfl rfl (Qf (Qc (Qs rfl (fun h1=> ?_) (fun h1=> ?_)))))))
 ·refine Qd (Qa (Qb rfl rfl (Qk rfl rfl (Qg rfl XF rfl (Qo rfl Xm (hS.cell 0 rfl rfl) rfl (Qb rfl rfl (Qv UY rfl (DM (hS.sp [2] rfl) (by omega) s) rfl ?_)))))))
  rintro _ w2 ⟨e0,rfl,hS2⟩
  replace hS2:=hS2.jn rfl rfl
  refine Qf (Qc (Qa (Qb rfl rfl (Qk rfl rfl (Qg rfl Lg rfl (Qo rfl ag_83 (hS2.cell 1 rfl rfl) rfl (Qb rfl rfl (Xk (k:=s) (v:= .bool true) 2 hS2 keysInt Tryz.underlying83 rfl rfl rfl rfl ?_))))))))
  intro w3 hS3; dsimp only[List.set]at hS3; rw[UZ]at hS3
  clear hS2
  refine Qf (ZB (.inl rfl) rfl ?_)
  exact⟨_,rfl,rfl, by unfold Y2 refW; rw[if_neg (by assumption),if_neg (by assumption)]; exact hS3.pick [1,2,0,3] rfl⟩
 refine Qr (ZB (.inl rfl) rfl ?_)
 exact⟨_,rfl,rfl, by unfold Y2 refW; rw[if_pos (Decidable.not_not.1 (by assumption)),if_pos (Decidable.not_not.1 (by assumption))]; exact((X1 (m:=n+1) (by omega) (hS.pick [2,0,1,3] rfl)).reorder [1,2,0,3] rfl)⟩
theorem UF {w:World} {b sp mp mt ms n Fr:Nat} {cu:Int} {f:Int→Bool} {V:VS} {F:Th} (hS:Sat w [QF b [ptrV sp 0,.map (some mp),.map (some mt),intV cu,.map (some ms)],Q3 Xf ms (Jg f),Zq sp n Fr V,F]) (hn:n≤80000000000) (s:Int):
    Calls Tryz.prog 106 #[ptrV b 0,intV s] w (Ret fun v w'=>v= .tuple #[]∧Sat w' [QF b [ptrV sp 0,.map (some mp),.map (some mt),intV cu,.map (some ms)],Q3 Xf ms (Jg (Y1 V f s)),Zq sp (n+1) Fr (Z2 V s),F]):= by
 refine Qq Tryz.func106 rfl Tryz.ntmps106 rfl ?_
 refine Qd (Qa (Qb rfl rfl (Qk rfl rfl (Qg rfl XF rfl (Qo rfl Xm (hS.cell 0 rfl rfl) rfl (Qb rfl rfl (Qv Gm rfl (R1 (hS.sp [2] rfl) (by omega) s) rfl ?_)))))))
 rintro _ w1 ⟨e0,rfl,hS1⟩
 replace hS1:=hS1.jn rfl rfl
 refine Qf (Qc (Qd (Qa (Qb rfl rfl (Qk rfl rfl (Qg rfl XF rfl (Qo rfl Xm (hS1.cell 1 rfl rfl) rfl (Qb rfl rfl (Qv Bf rfl (GD (hS1.sp [0] rfl) s) rfl ?_)))))))))
 rintro _ w2 ⟨rfl,hS2⟩
 replace hS2:=hS2.jn rfl rfl
 clear hS1
 refine Y6 rfl rfl rfl (Qf (Qc (Qi [1,0,16] rfl (Qs rfl (fun h3=> ?_) (fun h3=> ?_)))))
 ·refine Qa (Qb rfl rfl (Qk rfl rfl (Qg rfl Lg rfl (Qo rfl ag_83 (hS2.cell 1 rfl rfl) rfl (Qb rfl rfl (Xk (k:=s) (v:= .bool true) 2 hS2 keysInt Tryz.underlying83 rfl rfl rfl rfl ?_))))))
  intro w4 hS4; dsimp only[List.set]at hS4; rw[UZ]at hS4
  clear hS2
  refine Qf (ZB (.inl rfl) rfl ?_)
  exact⟨_,rfl,rfl, by unfold Y1; rw[if_pos (by omega)]; exact hS4.pick [1,2,0,3] rfl⟩
 refine Qr (ZB (.inl rfl) rfl ?_)
 exact⟨_,rfl,rfl, by unfold Y1; rw[if_neg (by omega)]; exact hS2.pick [1,2,0,3] rfl⟩
theorem I3 {w:World} {b sp mp mt ms n Fr:Nat} {a:Nat} {v0 v2 v3:Value} {cu old:Int} {f:Int→Bool} {V:VS} {F:Th} (hS:Sat w [QF b [ptrV sp 0,.map (some mp),.map (some mt),intV cu,.map (some ms)],Q3 Xf ms (Jg f),Zq sp n Fr V,QF a [v0,intV old,v2,v3],F]) (hn:n≤70000000000) (s:Int):
    Calls Tryz.prog 73 #[ptrV b 0,ptrV a 1,intV s] w (Ret fun v w'=>v= .tuple #[]∧Sat w' [QF b [ptrV sp 0,.map (some mp),.map (some mt),intV cu,.map (some ms)],Q3 Xf ms (Jg (Y1 (refW V s) (Y2 f s) old)),Zq sp (n+2) Fr (Z2 (refW V s) old),QF a [v0,intV s,v2,v3],F]):= by
 refine Qq Tryz.func73 rfl Tryz.ntmps73 rfl ?_
 refine Qd (Qa (Qb rfl rfl (Qb rfl rfl (Qv MI rfl (Pd (hS.sp [0,1,2] rfl) (by omega) s) rfl ?_))))
 rintro _ w1 ⟨rfl,hS1⟩
 replace hS1:=hS1.jn rfl rfl
 refine Qf (Qc (Qd (Qa (Qb rfl rfl (Qb rfl rfl (Qk rfl rfl (Qo rfl QO (by first | assumption | exact hS1.cell 0 rfl rfl | exact hS1.cell 3 rfl rfl) rfl ?_)))))))
 refine Qv UX rfl (UF (hS1.sp [0,1,2] rfl) (by omega) old) rfl ?_
 rintro _ w2 ⟨rfl,hS2⟩
 replace hS2:=hS2.jn rfl rfl
 clear hS1
 refine Qf (Qc (Qi [2,1] rfl (Qa (Qb rfl rfl (Qb rfl rfl (Qk rfl rfl ?_))))))
 first | (refine QL hS2 rfl rfl Ug (by first | rfl | assumption) (i:=0) rfl (by first | decide | exact Xn rfl | (simp;done) | omega) ?_) | (refine QL hS2 rfl rfl Ug (by first | rfl | assumption) (i:=3) rfl (by first | decide | exact Xn rfl | (simp;done) | omega) ?_)
 intro w3 hS4; dsimp only[List.set]at hS4
 clear hS2
 exact Qf (ZB (.inl rfl) rfl (⟨_,rfl,rfl,hS4.pick [0,1,2,3,4] rfl⟩))
theorem Oo {w:World} {b sp mp mt ms n Fr:Nat} {cu:Int} {pr:KD→Int} {f:Int→Bool} {V:VS} {F:Th} (hS:Sat w [QF b [ptrV sp 0,.map (some mp),.map (some mt),intV cu,.map (some ms)],Q3 Xy mp (Zt pr),Q3 Xf ms (Jg f),Zq sp n Fr V,F]) (hn:n≤70000000000) (k:KD) (s:Int):
    Calls Tryz.prog 72 #[ptrV b 0,Xy k,intV s] w (Ret fun v w'=>v= .tuple #[]∧Sat w' [QF b [ptrV sp 0,.map (some mp),.map (some mt),intV cu,.map (some ms)],Q3 Xy mp (Zt (Zy pr k s)),Q3 Xf ms (Jg (Y1 V f (pr k))),Zq sp (n+1) Fr (Z2 V (pr k)),F]):= by
 refine Qq Tryz.func72 rfl Tryz.ntmps72 rfl ?_
 refine Qd (Qa (XU hS rfl rfl rfl ?_))
 intro kb w1 hS1
 refine Qf (Qc (Qd ?_))
 have hS2:=hS1.drew
 refine QJ [0,1,2,3,4,5,6,7] [7] Wp (by kernel_rfl) ?_
 refine QE rfl rfl rfl (QE rfl rfl rfl (Xl rfl rfl rfl (QT rfl rfl rfl UT (Q9 rfl rfl rfl (Qm rfl B9 (hS2.cell 1 rfl rfl)) (Q9 rfl rfl rfl (XE rfl X9 Xh (hS2.blk 0 rfl) (Xn rfl) rfl) (Q9 rfl rfl rfl (Xx (k:=k) 2 hS2 keysKey Tryz.underlying81 rfl rfl rfl HH (u:=intV (pr k)) (GO _ _)) (Xj rfl rfl rfl rfl rfl rfl ?_)))))))
 refine Qv UX rfl (UF (hS2.sp [1,3,4] rfl) (by omega) (pr k)) rfl ?_
 rintro _ w3 ⟨rfl,hS3⟩
 replace hS3:=hS3.jn rfl rfl
 clear hS2
 refine X6 (Xq (by kernel_rfl)) ?_
 refine VC.nil (Qc (Qi [2,0,4] rfl (Qd ?_)))
 have hS4:=hS3.drew
 refine QJ [0,1,2,3,4,5,6] [6] Wp (by kernel_rfl) ?_
 refine QE rfl rfl rfl (Xl rfl rfl rfl (QT rfl rfl rfl UT (Q9 rfl rfl rfl (Qm rfl B9 (hS4.cell 0 rfl rfl)) (Q9 rfl rfl rfl (XE rfl X9 Xh (hS4.blk 3 rfl) (Xn rfl) rfl) (QE rfl rfl rfl (Xj rfl rfl rfl rfl rfl rfl ?_))))))
 refine Xk (k:=k) (v:=intV s) 4 hS4 keysKey Tryz.underlying81 rfl rfl rfl rfl ?_
 intro w5 hS5; dsimp only[List.set]at hS5
 clear hS4
 refine Zx (Xq (by kernel_rfl)) ?_
 refine VC.nil (Qc (Qd (Qa (Qb rfl rfl (QX rfl rfl rfl (Qf (Qc (Qi [0,4,21] rfl (Qs rfl (fun h6=> ?_) (fun h6=> ?_))))))))))
 ·have hS7:=hS5.drew
  refine QJ [0,1,2,3,4,5] [5] Wp (by kernel_rfl) ?_
  refine QE rfl rfl rfl (Xl rfl rfl rfl (QT rfl rfl rfl UT (Q9 rfl rfl rfl (Qm rfl B9 (hS7.cell 0 rfl rfl)) (Q9 rfl rfl rfl (XE rfl X9 Xh (hS7.blk 3 rfl) (Xn rfl) rfl) (Xj rfl rfl rfl rfl rfl rfl ?_)))))
  refine Ji (k:=k) 4 hS7 keysKey Tryz.underlying81 rfl rfl rfl rfl ?_
  intro w8 hS8; dsimp only[List.set]at hS8
  clear hS7
  refine Zx (Xq (by kernel_rfl)) ?_
  refine VC.nil (ZB (.inl rfl) rfl ?_)
  have hz:=hS8.pick [0,4,1,2,5] rfl
  rw[E6]at hz
  exact⟨_,rfl,rfl, by rw[show s=0 from(by assumption)]; exact hz⟩
 refine Qr (ZB (.inl rfl) rfl ?_)
 have hz:=hS5.pick [0,4,1,2,5] rfl
 rw[E4 (by assumption)]at hz
 exact⟨_,rfl,rfl,hz⟩
end Go.Proofs.YtkcjfoaejijdoaaGreatDoor
