/- leaves: in plain data; there, Begin, sees, ref, unref, hold, set -/
import Derived.Test.YtkcjfoaejijdoaaGreatDoorSh13
set_option linter.unusedSectionVars false
set_option linter.unusedVariables false
set_option maxRecDepth 100000
set_option maxHeartbeats 80000000000
namespace Go.Proofs.YtkcjfoaejijdoaaGreatDoor
open Go.RowKit M
variable [Inhabited SlW]
abbrev KD:=Bs×Int
structure LfD where
  ad:Nat
  base:Int
  own:Int
  rd:BitVec 64
  wr:BitVec 64
structure TrD where
  ad:Nat
  ml:Nat
  md:Nat
  parent:Int
  lv:KD→Option LfD
  dr:Bs→Bool
structure LvD where
  sp:Nat
  mp:Nat
  mt:Nat
  ms:Nat
  pres:KD→Int
  tr:Int→Option TrD
  cur:Int
  sh:Int→Bool
def lfV (x:LfD):List Value:=[intV x.base,intV x.own,Zz x.rd,Zz x.wr]
def VQ (x:LfD):Th:=Q3 x.ad (lfV x)
def ZZ {κ:Type} (f:κ→Bool):κ→Option Value:= fun s=> if f s=true then some (.bool true)else none
open Classical in
noncomputable def Wv {κ:Type} (f:κ→Bool) (k:κ):κ→Bool:= fun j=> if j=k then true else f j
theorem TT {κ:Type} (f:κ→Bool) (k:κ):(ZZ f k).getD (.bool false)= .bool (f k):= by
  unfold ZZ;split
  · rename_i h; rw[h];rfl
  · rename_i h; simp at h; rw[h];rfl
theorem VI {κ:Type} (f:κ→Bool) (k:κ):upd (ZZ f) k (some (.bool true))=ZZ (Wv f k):= by
  funext j
  by_cases h:j=k
  · subst h; rw[Wd];unfold ZZ Wv; simp
  · rw[Jd h];unfold ZZ Wv; simp [h]
theorem TS {κ:Type}:ZZ (fun _:κ=>false)= fun _=>none:= by funext k; simp [ZZ]
def Zg (p:KD→Int):KD→Option Value:= fun k=> if p k=0 then none else some (intV (p k))
theorem Ua (p:KD→Int) (k:KD):(Zg p k).getD (intV 0)=intV (p k):= by
  unfold Zg;split
  · rename_i h; rw[h];rfl
  · rfl
theorem FV:Zg (fun _=>0)= fun _=>none:= by funext k; simp [Zg]
open Classical in
noncomputable def Zv (p:KD→Int) (k:KD) (s:Int):KD→Int:= fun j=> if j=k then s else p j
theorem FU {p:KD→Int} {k:KD} {s:Int} (h:s≠0):upd (Zg p) k (some (intV s))=Zg (Zv p k s):= by
  funext j
  by_cases e:j=k
  · subst e; rw[Wd];unfold Zg Zv; simp [h]
  · rw[Jd e];unfold Zg Zv; simp [e]
theorem FW {p:KD→Int} {k:KD} {v:Option Value}:upd (upd (Zg p) k v) k none=Zg (Zv p k 0):= by
  funext j
  by_cases e:j=k
  · subst e; rw[Wd];unfold Zg Zv; simp
  · rw[Jd e,Jd e];unfold Zg Zv; simp [e]
def ptO {α:Type} (ad:α→Nat) (o:Option α):Value:= match o with | none=> .pointer none | some x=>ptrV (ad x) 0
theorem Uw {κ α:Type} {ad:α→Nat} {f:κ→Option α} (k:κ):(Xv ad f k).getD (.pointer none)=ptO ad (f k):= by
  unfold Xv ptO; cases f k<;>rfl
def Zj {κ α:Type} (th:α→Th) (f:κ→Option α):Th:=N9 fun k=>(f k).map th
theorem NA {κ α:Type} {th:α→Th} {f:κ→Option α} {k:κ} {x:α}:Xi (fun k=>(f k).map th) k (some (th x))= fun j=>((Xi f k (some x)) j).map th:= by
  funext j
  by_cases h:j=k
  · subst h; rw[Qy,Qy];rfl
  · rw[Q7 h,Q7 h]
theorem Ik {κ α:Type} {th:α→Th} {f:κ→Option α} {k:κ}:Xi (fun k=>(f k).map th) k none= fun j=>((Xi f k none) j).map th:= by
  funext j
  by_cases h:j=k
  · subst h; rw[Qy,Qy];rfl
  · rw[Q7 h,Q7 h]
section
variable {w:World} {As:List Th}
theorem MM {κ α:Type} {th:α→Th} {f:κ→Option α} {k:κ} {x:α} (h:Sat w (Zj th f::As)) (hk:f k=some x):Sat w (th x::Zj th (Xi f k none)::As):= by
  have h1:=Ij (k:=k) (A:=th x) h (by show(f k).map th=_; rw[hk];rfl)
  rw[Ik]at h1
  exact h1
theorem Gl {κ α:Type} {th:α→Th} {f:κ→Option α} {k:κ} {x:α} (h:Sat w (th x::Zj th (Xi f k none)::As)):Sat w (Zj th (Xi f k (some x))::As):= by
  have h1:=Fe (h:= fun j=>((Xi f k none) j).map th) (k:=k) h (by show((Xi f k none) k).map th=none; rw[Qy];rfl)
  rw[NA,Ji]at h1
  exact h1
theorem MN {κ α:Type} {th:α→Th} {f:κ→Option α} {k:κ} {x:α} (h:Sat w (th x::Zj th (Xi f k none)::As)) (hk:f k=some x):Sat w (Zj th f::As):= by
  have h1:=Gl h
  rwa [WE hk]at h1
theorem NC {κ α:Type} {th:α→Th} {f:κ→Option α} {k:κ} {x:α} (h:Sat w (th x::Zj th f::As)) (hk:f k=none):Sat w (Zj th (Xi f k (some x))::As):= by
  have h1:=Fe (h:= fun j=>(f j).map th) (k:=k) h (by show(f k).map th=none; rw[hk];rfl)
  rw[NA]at h1
  exact h1
theorem NB {κ α:Type} (th:α→Th) (h:Sat w As):Sat w (Zj th (fun _:κ=>none)::As):=LO h
end
def trV (t:TrD):List Value:=[intV t.parent,.map (some t.ml),.map (some t.md)]
def HK (t:TrD):Th:=starL [Q3 t.ad (trV t),Q5 Xo t.ml (Xv LfD.ad t.lv),Zj VQ t.lv,Q5 Js t.md (ZZ t.dr)]
def lvV (L:LvD):List Value:=[ptrV L.sp 0,.map (some L.mp),.map (some L.mt),intV L.cur,.map (some L.ms)]
def XY (b:Nat) (L:LvD):Th:=starL [Q3 b (lvV L),Q5 Xo L.mp (Zg L.pres),Q5 QO L.mt (Xv TrD.ad L.tr),Zj HK L.tr,Q5 QO L.ms (ZZ L.sh)]
section
variable {w:World} {As:List Th}
theorem Xy {b:Nat} {L:LvD} (h:Sat w (XY b L::As)):Sat w (Q3 b [ptrV L.sp 0,.map (some L.mp),.map (some L.mt),intV L.cur,.map (some L.ms)]::Q5 Xo L.mp (Zg L.pres)::Q5 QO L.mt (Xv TrD.ad L.tr)::Zj HK L.tr::Q5 QO L.ms (ZZ L.sh)::As):=h.flat
theorem QZ {b:Nat} {L:LvD} (h:Sat w (Q3 b [ptrV L.sp 0,.map (some L.mp),.map (some L.mt),intV L.cur,.map (some L.ms)]::Q5 Xo L.mp (Zg L.pres)::Q5 QO L.mt (Xv TrD.ad L.tr)::Zj HK L.tr::Q5 QO L.ms (ZZ L.sh)::As)):Sat w (XY b L::As):=Sat.fold (As:=[Q3 b (lvV L),Q5 Xo L.mp (Zg L.pres),Q5 QO L.mt (Xv TrD.ad L.tr),Zj HK L.tr,Q5 QO L.ms (ZZ L.sh)]) h
theorem ZB {T:Int→Option TrD} {i:Int} {t:TrD} (h:Sat w (Zj HK T::As)) (hk:T i=some t):Sat w (Q3 t.ad [intV t.parent,.map (some t.ml),.map (some t.md)]::Q5 Xo t.ml (Xv LfD.ad t.lv)::Zj VQ t.lv::Q5 Js t.md (ZZ t.dr)::Zj HK (Xi T i none)::As):=(MM h hk).flat
theorem By {t:TrD} (h:Sat w (Q3 t.ad [intV t.parent,.map (some t.ml),.map (some t.md)]::Q5 Xo t.ml (Xv LfD.ad t.lv)::Zj VQ t.lv::Q5 Js t.md (ZZ t.dr)::As)):Sat w (HK t::As):=Sat.fold (As:=[Q3 t.ad (trV t),Q5 Xo t.ml (Xv LfD.ad t.lv),Zj VQ t.lv,Q5 Js t.md (ZZ t.dr)]) h
theorem ZW {T:Int→Option TrD} {i:Int} {t:TrD} (hk:T i=some t) (h:Sat w (Q3 t.ad [intV t.parent,.map (some t.ml),.map (some t.md)]::Q5 Xo t.ml (Xv LfD.ad t.lv)::Zj VQ t.lv::Q5 Js t.md (ZZ t.dr)::Zj HK (Xi T i none)::As)):Sat w (Zj HK T::As):=MN (By h) hk
theorem HT {T:Int→Option TrD} {i:Int} {t:TrD} (h:Sat w (Q3 t.ad [intV t.parent,.map (some t.ml),.map (some t.md)]::Q5 Xo t.ml (Xv LfD.ad t.lv)::Zj VQ t.lv::Q5 Js t.md (ZZ t.dr)::Zj HK (Xi T i none)::As)):Sat w (Zj HK (Xi T i (some t))::As):=Gl (By h)
theorem JO {f:KD→Option LfD} {k:KD} {x:LfD} (h:Sat w (Zj VQ f::As)) (hk:f k=some x):Sat w (Q3 x.ad [intV x.base,intV x.own,Zz x.rd,Zz x.wr]::Zj VQ (Xi f k none)::As):=MM h hk
theorem ZX {f:KD→Option LfD} {k:KD} {x:LfD} (hk:f k=some x) (h:Sat w (Q3 x.ad [intV x.base,intV x.own,Zz x.rd,Zz x.wr]::Zj VQ (Xi f k none)::As)):Sat w (Zj VQ f::As):=MN (th:=VQ) h hk
theorem CH {f:KD→Option LfD} {k:KD} {x:LfD} (h:Sat w (Q3 x.ad [intV x.base,intV x.own,Zz x.rd,Zz x.wr]::Zj VQ (Xi f k none)::As)):Sat w (Zj VQ (Xi f k (some x))::As):=Gl (th:=VQ) h
theorem Sp {f:KD→Option LfD} {k:KD} {x:LfD} (hk:f k=none) (h:Sat w (Q3 x.ad [intV x.base,intV x.own,Zz x.rd,Zz x.wr]::Zj VQ f::As)):Sat w (Zj VQ (Xi f k (some x))::As):=NC (th:=VQ) h hk
end
def JL (L:LvD):Nat→Int→KD→Int
  | 0,_,_=>0
  | n+1,id,k=> if id=0 then L.pres k else match L.tr id with | none=>0 | some t=> match t.lv k with | some x=>x.own | none=> if t.dr k.1=true then 0 else JL L n t.parent k
def YS (T:Int→Option TrD):Nat→Int→Prop
  | 0,id=>id=0
  | n+1,id=>id=0∨ match T id with | none=>True | some t=>YS T n t.parent
def Zs:Nat:=100000
def X2 (L:LvD) (id:Int) (k:KD):Int:=JL L (Zs+1) id k
def Zt (L:LvD) (id:Int):Bool:=decide (id=0) || (L.tr id).isSome
noncomputable def refW (V:VS) (s:Int):VS:= if s=0 then V else Ha V s
noncomputable def J1 (f:Int→Bool) (s:Int):Int→Bool:= if s=0 then f else Wv f s
noncomputable def Jq (V:VS) (f:Int→Bool) (s:Int):Int→Bool:= if 0<Zc (Zb V s) s then Wv f s else f
theorem keysKey:KeyOk Tryz.prog 76 Xo:=AK Tryz.underlying76 (by kernel_rfl) Tryz.underlying9 Tryz.underlying3 U U U U (by decide) (by decide)
theorem ZH {w:World} {b:Nat} {L:LvD} {F:Th} (hS:Sat w [XY b L,F]) (id:Int):
    Calls Tryz.prog 43 #[ptrV b 0,intV id] w (Ret fun v w'=>v= .bool (Zt L id)∧Sat w' [XY b L,F]):= by
 replace hS:=Xy hS
 refine Qm Tryz.func43 U Tryz.ntmps43 U ?_
 refine Qd (Qa (Qe U U (Qf (Qc (Qd (Qa (Qb U U (Xd U U U (Qb U U (QU 7 U (fun h1=> ?_) (fun h1=> ?_)))))))))))
 ·exact Qi U U (Xl h1) U (Qi U U (Xl h1) U (Qi U U (Xl h1) U (Qi U U (Xl h1) U (Qi U U (Xl h1) U (Qi U U (Xl h1) U (Qi U U (Xl h1) U (Q9 U (Xl h1) U U (Qe U U (Qf (Qc (Qh [4] U (Qu (QR (.inr U) U U (⟨_,rfl, by simp [Zt, *],QZ (hS.pick [0,1,2,3,4,5] U)⟩))))))))))))))
 refine Ql U U (QC h1) (Qb U U (Ql U U (QC h1) (Qj U U (Ql U U (QC h1) (Qg U Z7 U (Ql U U (QC h1) (Qn U WN (hS.cell 0 U U) U (Ql U U (QC h1) (Qb U U (Ql U U (QC h1) (XT (k:=id) 2 hS keysInt Tryz.underlying82 U U U Yu (u:=(ptO TrD.ad (L.tr id))) (Uw _) U (Ql U U (QC h1) ?_))))))))))))
 rcases hq_T:L.tr id with _ | t
 ·exact J0 Tryz.underlying94 U U U (QP U (QC h1) U U (Qe U U (Qf (Qc (Qh [4] U (Qu (QR (.inr U) U U (⟨_,rfl, by simp [Zt, *],QZ (hS.pick [0,1,2,3,4,5] U)⟩))))))))
 exact Hj Tryz.underlying94 U U U (QP U (QC h1) U U (Qe U U (Qf (Qc (Qh [4] U (Qu (QR (.inr U) U U (⟨_,rfl, by simp [Zt, *],QZ (hS.pick [0,1,2,3,4,5] U)⟩))))))))
def JE (L:LvD) (id parent:Int):Int:= if id<1 then 1 else if(L.tr id).isSome=true then 5 else if Zt L parent=false then 4 else 0
noncomputable def ND (L:LvD) (id parent:Int) (a ml md:Nat):LvD:= if JE L id parent=0 then{L with tr:=Xi L.tr id (some ⟨a,ml,md,parent, fun _=>none, fun _=>false⟩)}else L
theorem Il {w:World} {b:Nat} {L:LvD} {F:Th} (hS:Sat w [XY b L,F]) (id parent:Int):
    Calls Tryz.prog 11 #[ptrV b 0,intV id,intV parent] w (Ret fun v w'=>v=intV (JE L id parent)∧ ∃a ml md,Sat w' [XY b (ND L id parent a ml md),F]):= by
 replace hS:=Xy hS
 refine Qm Tryz.func11 U Tryz.ntmps11 U ?_
 refine Qd (Qa (Qe U U (Qf (Qc (Qd (Qv (Qd (Qa (Qb U U (Xg U U U (Qe U U (Qf (Qc (Qs U (fun h1=> ?_) (fun h1=> ?_)))))))))))))))
 ·refine Qd (Qa (Qe U U (Qf (Qc (Qu (Qz (Qp (QR (.inr U) U U ?_))))))))
  have hE:JE L id parent=1:= by unfold JE; rw[if_pos (by assumption)]
  exact⟨_,rfl, by rw[hE],0,0,0, by unfold ND; rw[if_neg (by rw[hE];decide)]; exact QZ (hS.pick [0,1,2,3,4,5] U)⟩
 refine Qd (Qa (Qb U U (Qj U U (Qg U Z7 U (Qn U WN (hS.cell 0 U U) U (Qb U U (XT (k:=id) 2 hS keysInt Tryz.underlying82 U U U Yu (u:=(ptO TrD.ad (L.tr id))) (Uw _) U ?_)))))))
 rcases hq_T:L.tr id with _ | t
 ·refine J0 Tryz.underlying94 U U U (Qe U U (Qf (Qc (Qh [2,1,0,6,10] U (QT U (Qd ?_))))))
  have hS2:=QZ (L:=L) (hS.pick [0,1,2,3,4,5] U)
  refine Qa (Qb U U (Qb U U (Qw WX U (ZH (hS2.sp [0] U) parent) U ?_)))
  rintro _ w3 ⟨rfl,hS3⟩
  replace hS3:=hS3.jn U U
  clear hS2
  refine QQ U U (Qe U U (Qf (Qc (QN U (fun h4=> ?_) (fun h4=> ?_)))))
  ·have hth:Zt L parent=false:= by simpa using h4
   refine Qd (Qa (Qe U U (Qf (Qc (Qu (Qz (Qp (QR (.inr U) U U ?_))))))))
   have hE:JE L id parent=4:= by unfold JE; rw[if_neg (by assumption),if_neg (by rw[hq_T];decide),if_pos hth]
   exact⟨_,rfl, by rw[hE],0,0,0, by unfold ND; rw[if_neg (by rw[hE];decide)]; exact hS3.pick [0,1] U⟩
  have hth:Zt L parent=true:= by simpa using h4
  refine Qt (Qk (Qc (Qd ?_)))
  have hS5:=Xy (hS3.pick [0,1] U)
  refine Qa (Qb U U (Qj U U (Qg U Z7 U (Qn U WN (hS5.cell 0 U U) U (Qb U U (Qb U U (ZN Xo hS5 U ?_)))))))
  intro nl w6 hS6
  clear hS5
  refine ZN Js hS6 U ?_
  intro nd w7 hS7
  clear hS6
  refine Zu U C8 asz_93 zr_93 U U (Zd hS7 U U U ?_)
  intro ta w8 hS8
  clear hS7
  refine Xw (k:=id) (v:=ptrV ta 0) 5 hS8 keysInt Tryz.underlying82 U U U U ?_
  intro w9 hS9; dsimp only[List.set]at hS9
  clear hS8
  refine Qf (Qc (Qh [6] U (Qd (Qa (Qe U U (Qf (Qc (Qu (QR (.inr U) U U ?_)))))))))
  have hE:JE L id parent=0:= by unfold JE; rw[if_neg (by assumption),if_neg (by rw[hq_T];decide),if_neg (by rw[hth];decide)]
  have hA:=NB (κ:=KD) VQ (hS9.pick [0,2,1,6,3,4,5,7,8] U)
  have hB:=NC (By (t:=(⟨ta,nl,nd,parent, fun _=>none, fun _=>false⟩:TrD)) (hA.reorder [1,2,0,3,4,5,6,7,8,9] U)) hq_T
  have hC:=hB.reorder [1,2,3,0,4,5] U
  rw[C6 (x:=(⟨ta,nl,nd,parent, fun _=>none, fun _=>false⟩:TrD))]at hC
  exact⟨_,rfl, by rw[hE],ta,nl,nd, by unfold ND; rw[if_pos hE]; exact QZ (L:={L with tr:=Xi L.tr id (some (⟨ta,nl,nd,parent, fun _=>none, fun _=>false⟩:TrD))}) hC⟩
 refine Hj Tryz.underlying94 U U U (Qe U U (Qf (Qc (Qh [2,1,0,6,10] U (Xf U (Qd (Qa (Qe U U (Qf (Qc (Qu (Qz (Qp (QR (.inr U) U U ?_))))))))))))))
 have hE:JE L id parent=5:= by unfold JE; rw[if_neg (by assumption),if_pos (by rw[hq_T];rfl)]
 exact⟨_,rfl, by rw[hE],0,0,0, by unfold ND; rw[if_neg (by rw[hE];decide)]; exact QZ (hS.pick [0,1,2,3,4,5] U)⟩
theorem Yy {L:LvD} {n:Nat} {id:Int} {k:KD} (h:id=0):JL L (n+1) id k=L.pres k:= by unfold JL; rw[if_pos h]
theorem Mj {L:LvD} {n:Nat} {id:Int} {k:KD} (h:id≠0) (ht:L.tr id=none):JL L (n+1) id k=0:= by unfold JL; rw[if_neg h,ht]
theorem HX {L:LvD} {n:Nat} {id:Int} {k:KD} {t:TrD} {x:LfD} (h:id≠0) (ht:L.tr id=some t) (hx:t.lv k=some x):JL L (n+1) id k=x.own:= by unfold JL; rw[if_neg h,ht]; dsimp only; rw[hx]
theorem Ml {L:LvD} {n:Nat} {id:Int} {k:KD} {t:TrD} (h:id≠0) (ht:L.tr id=some t) (hx:t.lv k=none) (hd:t.dr k.1=true):JL L (n+1) id k=0:= by unfold JL; rw[if_neg h,ht]; dsimp only; rw[hx]; dsimp only; rw[if_pos hd]
theorem PY {L:LvD} {n:Nat} {id:Int} {k:KD} {t:TrD} (h:id≠0) (ht:L.tr id=some t) (hx:t.lv k=none) (hd:t.dr k.1=false):JL L (n+1) id k=JL L n t.parent k:= by rw[JL,if_neg h,ht]; dsimp only; rw[hx]; dsimp only; rw[if_neg (by rw[hd];decide)]
theorem S9 {T:Int→Option TrD} {n:Nat} {id:Int} {t:TrD} (h:YS T n id) (h0:id≠0) (ht:T id=some t): ∃m,n=m+1∧YS T m t.parent:= by
  cases n with
  | zero=> exact absurd h h0
  | succ n=>
    rcases h with h | h
    · exact absurd h h0
    · rw[ht]at h; exact⟨n,rfl,h⟩
theorem H7 {w:World} {b:Nat} {L:LvD} {F:Th} (hS:Sat w [XY b L,F]) (hE: ∀i,YS L.tr Zs i) (id:Int) (k:KD):
    Calls Tryz.prog 48 #[ptrV b 0,intV id,Xo k] w (Ret fun v w'=>v=intV (X2 L id k)∧Sat w' [XY b L,F]):= by
 replace hS:=Xy hS
 refine Qm Tryz.func48 U Tryz.ntmps48 U ?_
 refine Qd (Qa (Zd hS U U U ?_))
 intro kb w1 hS1
 change Sat w1 [Q3 kb [strV k.1,intV k.2],_,_,_,_,_,_]at hS1
 refine Qe U U (Qf (Qc (Qd (Qv (Xb (fun K0 E0 W0=> ∃(m:Nat) (i:Int),K0=m+1∧E0=[(0,ptrV b 0),(1,intV i),(5,ptrV kb 0)]∧Sat W0 [Q3 kb [strV k.1,intV k.2],Q3 b [ptrV L.sp 0,.map (some L.mp),.map (some L.mt),intV L.cur,.map (some L.ms)],Q5 Xo L.mp (Zg L.pres),Q5 QO L.mt (Xv TrD.ad L.tr),Zj HK L.tr,Q5 QO L.ms (ZZ L.sh),F]∧(X2 L id k=JL L (m+1) i k)∧(YS L.tr m i)∧(m≤Zs)) (L0:=[(0,_),(1,_),(5,_)]) (Zs+1) (RB U U U) ⟨Zs,id,rfl,rfl,hS1,rfl,hE id,Nat.le_refl _⟩ ?_)))))
 rintro _ _ w2 ⟨m,i,rfl,rfl,hS2,hse,hen,hm⟩
 refine Qd (Qd (Qa (Qb U U (X0 U U U (Qf (Qc (Qs U (fun h3=> ?_) (fun h3=> ?_))))))))
 ·have hid0:i≠0:=h3
  refine Qt (Qc (Qv (Qd (Qa (Qb U U (Qj U U (Qg U Z7 U (Qn U WN (hS2.cell 1 U U) U (Qb U U (XT (k:=i) 3 hS2 keysInt Tryz.underlying82 U U U Yu (u:=(ptO TrD.ad (L.tr i))) (Uw _) U (Qe U U (Qf (Qc (Qh [5,1,0,7] U (Qd (Qd (Qa (Qb U U ?_))))))))))))))))))
  rcases hq_T:L.tr i with _ | t
  ·exact Wy Tryz.underlying94 U U U (Qf (Qc (Xf U (Qd (Qa (Qe U U (Qf (Qc (Qu (Qp (Qz (Qp (Qz (Qp (QR (.inr U) U U (⟨_,rfl, by rw[hse,Mj hid0 hq_T],QZ (hS2.pick [1,2,3,4,5,6] U)⟩))))))))))))))))
  refine ZO Tryz.underlying94 U U U ?_
  have hS4:=ZB (hS2.pick [4,0,1,2,3,5,6] U) hq_T
  refine Qf (Qc (QT U (Qt (Qc (Qd (Qd ?_))))))
  have hS5:=hS4.drew
  refine QF [0,1,2,3,4,5,6] [] We (by kernel_rfl) ?_
  refine QG U U U (Xh U U U (QV U U U ZU (Q4 U U U (Qr U Jy (hS5.cell 0 U U)) (Q4 U U U (XF U X7 Xc (hS5.blk 5 U) (Xa U) U) (Q4 U U U (Xz (k:=k) 1 hS5 keysKey Tryz.underlying90 U U U HQ (u:=(ptO LfD.ad (t.lv k))) (Uw _)) (Za U U U (VC.nil (Qc (Qh [5,1,0,7,8] U (Qd (Qa (Qb U U ?_))))))))))))
  rcases hq_X:t.lv k with _ | x
  ·refine J0 Tryz.underlying89 U U U (Qf (Qc (QT U (Qt (Qc (Qd (Qd ?_)))))))
   have hS7:=hS5.drew
   refine QF [0,1,2,3,4,5,6] [] We (by kernel_rfl) ?_
   refine QG U U U (Xh U U U (QV U U U Rh (Q4 U U U (Qr U MQ (hS7.cell 0 U U)) (QV U U U JV (Q4 U U U (Qr U WC (hS7.cell 5 U U)) (Q4 U U U (Xz (k:=k.1) 3 hS7 keysStr Tryz.underlying91 U U U zr_4 (u:= .bool (t.dr k.1)) (TT _ _)) (VC.nil (Qc (Qh [5,1,0,7,37] U (QN U (fun h8=> ?_) (fun h8=> ?_)))))))))))
   ·have hdr:t.dr k.1=true:=h8
    refine Qd (Qa (Qe U U (Qf (Qc (Qu (Qp (Qz (Qp (Qz (Qp (QR (.inr U) U U ?_)))))))))))
    have hS9:=ZW hq_T (hS7.pick [0,1,2,3,4,5,6,7,8,9,10] U)
    exact⟨_,rfl, by rw[hse,Ml hid0 hq_T hq_X hdr],QZ (hS9.pick [2,3,4,0,5,6] U)⟩
   have hdr:t.dr k.1=false:=h8
   refine Qt (Qc (Qa (Qb U U (Qj U U (Qg U JT U (Qn U QL (hS7.cell 0 U U) U (Qe U U (Qf (Qk ?_)))))))))
   have hS10:=ZW hq_T (hS7.pick [0,1,2,3,4,5,6,7,8,9,10] U)
   obtain⟨m2,hm2,hen2⟩:=S9 hen hid0 hq_T
   exact Q0 (L1:=[(0,_),(1,intV t.parent),(5,_)]) (RB U U U) (k1:=m2+1) (by omega) ⟨m2,t.parent,rfl,rfl,hS10.pick [1,2,3,4,0,5,6] U, by rw[hse,hm2,PY hid0 hq_T hq_X hdr],hen2, by omega⟩
  refine Hj Tryz.underlying89 U U U ?_
  have hS6:=JO (hS5.pick [2,0,1,3,4,5,6,7,8,9,10] U) hq_X
  refine Qf (Qc (Xf U (Qd (Qa (Qb U U (Qj U U (Qg U W5 U (Qn U QL (hS6.cell 0 U U) U (Qe U U (Qf (Qc (Qh [5,1,0,7,6] U (Qu (Qp (Qz (Qp (Qz (Qp (QR (.inr U) U U ?_)))))))))))))))))))
  have hS11:=ZX hq_X (hS6.pick [0,1,2,3,4,5,6,7,8,9,10,11] U)
  have hS12:=ZW hq_T (hS11.pick [1,2,0,3,4,5,6,7,8,9,10] U)
  exact⟨_,rfl, by rw[hse,HX hid0 hq_T hq_X],QZ (hS12.pick [2,3,4,0,5,6] U)⟩
 have hid0:i=0:=Decidable.not_not.1 h3
 refine QM (Qo (Qo (Qx (Qc (Qd ?_)))))
 have hS13:=hS2.drew
 refine QF [0,1,2,3,4,5,6] [] We (by kernel_rfl) ?_
 exact QG U U U (Xh U U U (QV U U U JU (Q4 U U U (Qr U Up (hS13.cell 1 U U)) (Q4 U U U (XF U X7 Xc (hS13.blk 0 U) (Xa U) U) (Q4 U U U (Xz (k:=k) 2 hS13 keysKey Tryz.underlying81 U U U YN (u:=intV (L.pres k)) (Ua _ _)) (Za U U U (VC.nil (Qc (Qh [6] U (Qu (QR (.inr U) U U (⟨_,rfl, by rw[hse,Yy hid0],QZ (hS13.pick [1,2,3,4,5,6] U)⟩))))))))))))
theorem BJ {w:World} {b sp mp mt ms n Fr:Nat} {cu:Int} {f:Int→Bool} {V:VS} {F:Th} (hS:Sat w [Q3 b [ptrV sp 0,.map (some mp),.map (some mt),intV cu,.map (some ms)],Q5 QO ms (ZZ f),XG sp n Fr V,F]) (hn:n≤80000000000) (s:Int):
    Calls Tryz.prog 53 #[ptrV b 0,intV s] w (Ret fun v w'=>v= .tuple #[]∧Sat w' [Q3 b [ptrV sp 0,.map (some mp),.map (some mt),intV cu,.map (some ms)],Q5 QO ms (ZZ (J1 f s)),XG sp (n+1) Fr (refW V s),F]):= by
 refine Qm Tryz.func53 U Tryz.ntmps53 U ?_
 refine Qd (Qa (Qb U U (X0 U U U (Qf (Qc (Qs U (fun h1=> ?_) (fun h1=> ?_)))))))
 ·refine Qd (Qa (Qb U U (Qj U U (Qg U XN U (Qn U Xk (hS.cell 0 U U) U (Qb U U (Qw U6 U (B5 (hS.sp [2] U) (by omega) s) U ?_)))))))
  rintro _ w2 ⟨e0,rfl,hS2⟩
  replace hS2:=hS2.jn U U
  refine Qf (Qc (Qa (Qb U U (Qj U U (Qg U Sx U (Qn U D0 (hS2.cell 1 U U) U (Qb U U (Xw (k:=s) (v:= .bool true) 2 hS2 keysInt Tryz.underlying83 U U U U ?_))))))))
  intro w3 hS3; dsimp only[List.set]at hS3; rw[VI]at hS3
  clear hS2
  refine Qf (ZD (.inl U) U ?_)
  exact⟨_,rfl,rfl, by unfold J1 refW; rw[if_neg (by assumption),if_neg (by assumption)]; exact hS3.pick [1,2,0,3] U⟩
 refine Qt (ZD (.inl U) U ?_)
 exact⟨_,rfl,rfl, by unfold J1 refW; rw[if_pos (Decidable.not_not.1 (by assumption)),if_pos (Decidable.not_not.1 (by assumption))]; exact((Xe (m:=n+1) (by omega) (hS.pick [2,0,1,3] U)).reorder [1,2,0,3] U)⟩
theorem H5 {w:World} {b sp mp mt ms n Fr:Nat} {cu:Int} {f:Int→Bool} {V:VS} {F:Th} (hS:Sat w [Q3 b [ptrV sp 0,.map (some mp),.map (some mt),intV cu,.map (some ms)],Q5 QO ms (ZZ f),XG sp n Fr V,F]) (hn:n≤80000000000) (s:Int):
    Calls Tryz.prog 106 #[ptrV b 0,intV s] w (Ret fun v w'=>v= .tuple #[]∧Sat w' [Q3 b [ptrV sp 0,.map (some mp),.map (some mt),intV cu,.map (some ms)],Q5 QO ms (ZZ (Jq V f s)),XG sp (n+1) Fr (Zb V s),F]):= by
 refine Qm Tryz.func106 U Tryz.ntmps106 U ?_
 refine Qd (Qa (Qb U U (Qj U U (Qg U XN U (Qn U Xk (hS.cell 0 U U) U (Qb U U (Qw Rw U (KK (hS.sp [2] U) (by omega) s) U ?_)))))))
 rintro _ w1 ⟨e0,rfl,hS1⟩
 replace hS1:=hS1.jn U U
 refine Qf (Qc (Qd (Qa (Qb U U (Qj U U (Qg U XN U (Qn U Xk (hS1.cell 1 U U) U (Qb U U (Qw Dw U (B4 (hS1.sp [0] U) s) U ?_)))))))))
 rintro _ w2 ⟨rfl,hS2⟩
 replace hS2:=hS2.jn U U
 clear hS1
 refine YO U U U (Qf (Qc (Qh [1,0,16] U (Qs U (fun h3=> ?_) (fun h3=> ?_)))))
 ·refine Qa (Qb U U (Qj U U (Qg U Sx U (Qn U D0 (hS2.cell 1 U U) U (Qb U U (Xw (k:=s) (v:= .bool true) 2 hS2 keysInt Tryz.underlying83 U U U U ?_))))))
  intro w4 hS4; dsimp only[List.set]at hS4; rw[VI]at hS4
  clear hS2
  refine Qf (ZD (.inl U) U ?_)
  exact⟨_,rfl,rfl, by unfold Jq; rw[if_pos (by omega)]; exact hS4.pick [1,2,0,3] U⟩
 refine Qt (ZD (.inl U) U ?_)
 exact⟨_,rfl,rfl, by unfold Jq; rw[if_neg (by omega)]; exact hS2.pick [1,2,0,3] U⟩
theorem Po {w:World} {b sp mp mt ms n Fr:Nat} {a:Nat} {v0 v2 v3:Value} {cu old:Int} {f:Int→Bool} {V:VS} {F:Th} (hS:Sat w [Q3 b [ptrV sp 0,.map (some mp),.map (some mt),intV cu,.map (some ms)],Q5 QO ms (ZZ f),XG sp n Fr V,Q3 a [v0,intV old,v2,v3],F]) (hn:n≤70000000000) (s:Int):
    Calls Tryz.prog 73 #[ptrV b 0,ptrV a 1,intV s] w (Ret fun v w'=>v= .tuple #[]∧Sat w' [Q3 b [ptrV sp 0,.map (some mp),.map (some mt),intV cu,.map (some ms)],Q5 QO ms (ZZ (Jq (refW V s) (J1 f s) old)),XG sp (n+2) Fr (Zb (refW V s) old),Q3 a [v0,intV s,v2,v3],F]):= by
 refine Qm Tryz.func73 U Tryz.ntmps73 U ?_
 refine Qd (Qa (Qb U U (Qb U U (Qw K5 U (BJ (hS.sp [0,1,2] U) (by omega) s) U ?_))))
 rintro _ w1 ⟨rfl,hS1⟩
 replace hS1:=hS1.jn U U
 refine Qf (Qc (Qd (Qa (Qb U U (Qb U U (Qj U U (Qn U QL (by first | assumption | exact hS1.cell 0 U U | exact hS1.cell 3 U U) U ?_)))))))
 refine Qw HF U (H5 (hS1.sp [0,1,2] U) (by omega) old) U ?_
 rintro _ w2 ⟨rfl,hS2⟩
 replace hS2:=hS2.jn U U
 clear hS1
 refine Qf (Qc (Qh [2,1] U (Qa (Qb U U (Qb U U (Qj U U ?_))))))
 first | (refine Q6 hS2 U U JG (by first | rfl | assumption) (i:=0) U (by first | decide | exact Xa U | (simp;done) | omega) ?_) | (refine Q6 hS2 U U JG (by first | rfl | assumption) (i:=3) U (by first | decide | exact Xa U | (simp;done) | omega) ?_)
 intro w3 hS4; dsimp only[List.set]at hS4
 clear hS2
 exact Qf (ZD (.inl U) U (⟨_,rfl,rfl,hS4.pick [0,1,2,3,4] U⟩))
theorem PX {w:World} {b sp mp mt ms n Fr:Nat} {cu:Int} {pr:KD→Int} {f:Int→Bool} {V:VS} {F:Th} (hS:Sat w [Q3 b [ptrV sp 0,.map (some mp),.map (some mt),intV cu,.map (some ms)],Q5 Xo mp (Zg pr),Q5 QO ms (ZZ f),XG sp n Fr V,F]) (hn:n≤70000000000) (k:KD) (s:Int):
    Calls Tryz.prog 72 #[ptrV b 0,Xo k,intV s] w (Ret fun v w'=>v= .tuple #[]∧Sat w' [Q3 b [ptrV sp 0,.map (some mp),.map (some mt),intV cu,.map (some ms)],Q5 Xo mp (Zg (Zv pr k s)),Q5 QO ms (ZZ (Jq V f (pr k))),XG sp (n+1) Fr (Zb V (pr k)),F]):= by
 refine Qm Tryz.func72 U Tryz.ntmps72 U ?_
 refine Qd (Qa (Zd hS U U U ?_))
 intro kb w1 hS1
 refine Qf (Qc (Qd ?_))
 have hS2:=hS1.drew
 refine QF [0,1,2,3,4,5,6,7] [7] We (by kernel_rfl) ?_
 refine QG U U U (QG U U U (Xh U U U (QV U U U JU (Q4 U U U (Qr U Up (hS2.cell 1 U U)) (Q4 U U U (XF U X7 Xc (hS2.blk 0 U) (Xa U) U) (Q4 U U U (Xz (k:=k) 2 hS2 keysKey Tryz.underlying81 U U U YN (u:=intV (pr k)) (Ua _ _)) (Xn U U U U U U ?_)))))))
 refine Qw HF U (H5 (hS2.sp [1,3,4] U) (by omega) (pr k)) U ?_
 rintro _ w3 ⟨rfl,hS3⟩
 replace hS3:=hS3.jn U U
 clear hS2
 refine XQ (X1 (by kernel_rfl)) ?_
 refine VC.nil (Qc (Qh [2,0,4] U (Qd ?_)))
 have hS4:=hS3.drew
 refine QF [0,1,2,3,4,5,6] [6] We (by kernel_rfl) ?_
 refine QG U U U (Xh U U U (QV U U U JU (Q4 U U U (Qr U Up (hS4.cell 0 U U)) (Q4 U U U (XF U X7 Xc (hS4.blk 3 U) (Xa U) U) (QG U U U (Xn U U U U U U ?_))))))
 refine Xw (k:=k) (v:=intV s) 4 hS4 keysKey Tryz.underlying81 U U U U ?_
 intro w5 hS5; dsimp only[List.set]at hS5
 clear hS4
 refine Z4 (X1 (by kernel_rfl)) ?_
 refine VC.nil (Qc (Qd (Qa (Qb U U (Xd U U U (Qf (Qc (Qh [0,4,21] U (Qs U (fun h6=> ?_) (fun h6=> ?_))))))))))
 ·have hS7:=hS5.drew
  refine QF [0,1,2,3,4,5] [5] We (by kernel_rfl) ?_
  refine QG U U U (Xh U U U (QV U U U JU (Q4 U U U (Qr U Up (hS7.cell 0 U U)) (Q4 U U U (XF U X7 Xc (hS7.blk 3 U) (Xa U) U) (Xn U U U U U U ?_)))))
  refine Yv (k:=k) 4 hS7 keysKey Tryz.underlying81 U U U U ?_
  intro w8 hS8; dsimp only[List.set]at hS8
  clear hS7
  refine Z4 (X1 (by kernel_rfl)) ?_
  refine VC.nil (ZD (.inl U) U ?_)
  have hz:=hS8.pick [0,4,1,2,5] U
  rw[FW]at hz
  exact⟨_,rfl,rfl, by rw[show s=0 from(by assumption)]; exact hz⟩
 refine Qt (ZD (.inl U) U ?_)
 have hz:=hS5.pick [0,4,1,2,5] U
 rw[FU (by assumption)]at hz
 exact⟨_,rfl,rfl,hz⟩
end Go.Proofs.YtkcjfoaejijdoaaGreatDoor
