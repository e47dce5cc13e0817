/- leaves: in plain data; there, Begin, sees, ref, unref, hold, set -/
import Derived.Test.YtkgjmhcdacidoaaGreatDoorSh13
import Derived.Test.YtkgjmhcdacidoaaGreatDoorFw
set_option linter.unusedSectionVars false
set_option linter.unusedVariables false
set_option maxRecDepth 100000
set_option maxHeartbeats 80000000000
namespace Go.Proofs.YtkgjmhcdacidoaaGreatDoor
open Go.RowKit M Proofs.Tryz
variable [Inhabited SlW]
abbrev KD:=Bs×Int
structure LfD where
  ad:Nat
  base:Int
  own:Int
  rd:BitVec 64
  wr:BitVec 64
structure TrD where
  ad:Nat
  ml:Nat
  md:Nat
  parent:Int
  lv:KD→Option LfD
  dr:Bs→Bool
structure LvD where
  sp:Nat
  mp:Nat
  mt:Nat
  ms:Nat
  pres:KD→Int
  tr:Int→Option TrD
  cur:Int
  sh:Int→Bool
def lfV (x:LfD):List Value:=[intV x.base,intV x.own,Zr x.rd,Zr x.wr]
def KT (x:LfD):Th:=QE x.ad (lfV x)
def JF {κ:Type} (f:κ→Bool):κ→Option Value:= fun s=> if f s=true then some (.bool true)else none
open Classical in
noncomputable def Y0 {κ:Type} (f:κ→Bool) (k:κ):κ→Bool:= fun j=> if j=k then true else f j
theorem MN {κ:Type} (f:κ→Bool) (k:κ):(JF f k).getD (.bool false)= .bool (f k):= by
  unfold JF;split
  · rename_i h; rw[h];rfl
  · rename_i h; simp at h; rw[h];rfl
theorem MM {κ:Type} (f:κ→Bool) (k:κ):upd (JF f) k (some (.bool true))=JF (Y0 f k):= by
  funext j
  by_cases h:j=k
  · subst h; rw[Z0];unfold JF Y0; simp
  · rw[Wp h];unfold JF Y0; simp [h]
theorem boG_nil {κ:Type}:JF (fun _:κ=>false)= fun _=>none:= by funext k; simp [JF]
def Z3 (p:KD→Int):KD→Option Value:= fun k=> if p k=0 then none else some (intV (p k))
theorem Rm (p:KD→Int) (k:KD):(Z3 p k).getD (intV 0)=intV (p k):= by
  unfold Z3;split
  · rename_i h; rw[h];rfl
  · rfl
theorem S3:Z3 (fun _=>0)= fun _=>none:= by funext k; simp [Z3]
open Classical in
noncomputable def Wm (p:KD→Int) (k:KD) (s:Int):KD→Int:= fun j=> if j=k then s else p j
theorem Sz {p:KD→Int} {k:KD} {s:Int} (h:s≠0):upd (Z3 p) k (some (intV s))=Z3 (Wm p k s):= by
  funext j
  by_cases e:j=k
  · subst e; rw[Z0];unfold Z3 Wm; simp [h]
  · rw[Wp e];unfold Z3 Wm; simp [e]
theorem S4 {p:KD→Int} {k:KD} {v:Option Value}:upd (upd (Z3 p) k v) k none=Z3 (Wm p k 0):= by
  funext j
  by_cases e:j=k
  · subst e; rw[Z0];unfold Z3 Wm; simp
  · rw[Wp e,Wp e];unfold Z3 Wm; simp [e]
def ptO {α:Type} (ad:α→Nat) (o:Option α):Value:= match o with | none=> .pointer none | some x=>ptrV (ad x) 0
theorem UO {κ α:Type} {ad:α→Nat} {f:κ→Option α} (k:κ):(XC ad f k).getD (.pointer none)=ptO ad (f k):= by
  unfold XC ptO; cases f k<;>rfl
def X6 {κ α:Type} (th:α→Th) (f:κ→Option α):Th:=Cu fun k=>(f k).map th
theorem Cv {κ α:Type} {th:α→Th} {f:κ→Option α} {k:κ} {x:α}:QO (fun k=>(f k).map th) k (some (th x))= fun j=>((QO f k (some x)) j).map th:= by
  funext j
  by_cases h:j=k
  · subst h; rw[Qu,Qu];rfl
  · rw[Qz h,Qz h]
theorem EV {κ α:Type} {th:α→Th} {f:κ→Option α} {k:κ}:QO (fun k=>(f k).map th) k none= fun j=>((QO f k none) j).map th:= by
  funext j
  by_cases h:j=k
  · subst h; rw[Qu,Qu];rfl
  · rw[Qz h,Qz h]
section
variable {w:World} {As:List Th}
theorem Ry {κ α:Type} {th:α→Th} {f:κ→Option α} {k:κ} {x:α} (h:Sat w (X6 th f::As)) (hk:f k=some x):Sat w (th x::X6 th (QO f k none)::As):= by
  have h1:=EU (k:=k) (A:=th x) h (by show(f k).map th=_; rw[hk];rfl)
  rw[EV]at h1
  exact h1
theorem Vg {κ α:Type} {th:α→Th} {f:κ→Option α} {k:κ} {x:α} (h:Sat w (th x::X6 th (QO f k none)::As)):Sat w (X6 th (QO f k (some x))::As):= by
  have h1:=PO (h:= fun j=>((QO f k none) j).map th) (k:=k) h (by show((QO f k none) k).map th=none; rw[Qu];rfl)
  rw[Cv,Yl]at h1
  exact h1
theorem Rz {κ α:Type} {th:α→Th} {f:κ→Option α} {k:κ} {x:α} (h:Sat w (th x::X6 th (QO f k none)::As)) (hk:f k=some x):Sat w (X6 th f::As):= by
  have h1:=Vg h
  rwa [Wk hk]at h1
theorem KI {κ α:Type} {th:α→Th} {f:κ→Option α} {k:κ} {x:α} (h:Sat w (th x::X6 th f::As)) (hk:f k=none):Sat w (X6 th (QO f k (some x))::As):= by
  have h1:=PO (h:= fun j=>(f j).map th) (k:=k) h (by show(f k).map th=none; rw[hk];rfl)
  rw[Cv]at h1
  exact h1
theorem BB {κ α:Type} (th:α→Th) (h:Sat w As):Sat w (X6 th (fun _:κ=>none)::As):=Fq h
end
def trV (t:TrD):List Value:=[intV t.parent,.map (some t.ml),.map (some t.md)]
def VW (t:TrD):Th:=starL [QE t.ad (trV t),Q6 X0 t.ml (XC LfD.ad t.lv),X6 KT t.lv,Q6 Zl t.md (JF t.dr)]
def lvV (L:LvD):List Value:=[ptrV L.sp 0,.map (some L.mp),.map (some L.mt),intV L.cur,.map (some L.ms)]
def WU (b:Nat) (L:LvD):Th:=starL [QE b (lvV L),Q6 X0 L.mp (Z3 L.pres),Q6 QX L.mt (XC TrD.ad L.tr),X6 VW L.tr,Q6 QX L.ms (JF L.sh)]
section
variable {w:World} {As:List Th}
theorem Zb {b:Nat} {L:LvD} (h:Sat w (WU b L::As)):Sat w (QE b [ptrV L.sp 0,.map (some L.mp),.map (some L.mt),intV L.cur,.map (some L.ms)]::Q6 X0 L.mp (Z3 L.pres)::Q6 QX L.mt (XC TrD.ad L.tr)::X6 VW L.tr::Q6 QX L.ms (JF L.sh)::As):=h.flat
theorem Xx {b:Nat} {L:LvD} (h:Sat w (QE b [ptrV L.sp 0,.map (some L.mp),.map (some L.mt),intV L.cur,.map (some L.ms)]::Q6 X0 L.mp (Z3 L.pres)::Q6 QX L.mt (XC TrD.ad L.tr)::X6 VW L.tr::Q6 QX L.ms (JF L.sh)::As)):Sat w (WU b L::As):=Sat.fold (As:=[QE b (lvV L),Q6 X0 L.mp (Z3 L.pres),Q6 QX L.mt (XC TrD.ad L.tr),X6 VW L.tr,Q6 QX L.ms (JF L.sh)]) h
theorem ZQ {T:Int→Option TrD} {i:Int} {t:TrD} (h:Sat w (X6 VW T::As)) (hk:T i=some t):Sat w (QE t.ad [intV t.parent,.map (some t.ml),.map (some t.md)]::Q6 X0 t.ml (XC LfD.ad t.lv)::X6 KT t.lv::Q6 Zl t.md (JF t.dr)::X6 VW (QO T i none)::As):=(Ry h hk).flat
theorem GJ {t:TrD} (h:Sat w (QE t.ad [intV t.parent,.map (some t.ml),.map (some t.md)]::Q6 X0 t.ml (XC LfD.ad t.lv)::X6 KT t.lv::Q6 Zl t.md (JF t.dr)::As)):Sat w (VW t::As):=Sat.fold (As:=[QE t.ad (trV t),Q6 X0 t.ml (XC LfD.ad t.lv),X6 KT t.lv,Q6 Zl t.md (JF t.dr)]) h
theorem ZR {T:Int→Option TrD} {i:Int} {t:TrD} (hk:T i=some t) (h:Sat w (QE t.ad [intV t.parent,.map (some t.ml),.map (some t.md)]::Q6 X0 t.ml (XC LfD.ad t.lv)::X6 KT t.lv::Q6 Zl t.md (JF t.dr)::X6 VW (QO T i none)::As)):Sat w (X6 VW T::As):=Rz (GJ h) hk
theorem Kh {T:Int→Option TrD} {i:Int} {t:TrD} (h:Sat w (QE t.ad [intV t.parent,.map (some t.ml),.map (some t.md)]::Q6 X0 t.ml (XC LfD.ad t.lv)::X6 KT t.lv::Q6 Zl t.md (JF t.dr)::X6 VW (QO T i none)::As)):Sat w (X6 VW (QO T i (some t))::As):=Vg (GJ h)
theorem Hg {f:KD→Option LfD} {k:KD} {x:LfD} (h:Sat w (X6 KT f::As)) (hk:f k=some x):Sat w (QE x.ad [intV x.base,intV x.own,Zr x.rd,Zr x.wr]::X6 KT (QO f k none)::As):=Ry h hk
theorem ZS {f:KD→Option LfD} {k:KD} {x:LfD} (hk:f k=some x) (h:Sat w (QE x.ad [intV x.base,intV x.own,Zr x.rd,Zr x.wr]::X6 KT (QO f k none)::As)):Sat w (X6 KT f::As):=Rz (th:=KT) h hk
theorem LN {f:KD→Option LfD} {k:KD} {x:LfD} (h:Sat w (QE x.ad [intV x.base,intV x.own,Zr x.rd,Zr x.wr]::X6 KT (QO f k none)::As)):Sat w (X6 KT (QO f k (some x))::As):=Vg (th:=KT) h
theorem Po {f:KD→Option LfD} {k:KD} {x:LfD} (hk:f k=none) (h:Sat w (QE x.ad [intV x.base,intV x.own,Zr x.rd,Zr x.wr]::X6 KT f::As)):Sat w (X6 KT (QO f k (some x))::As):=KI (th:=KT) h hk
end
def Jz (L:LvD):Nat→Int→KD→Int
  | 0,_,_=>0
  | n+1,id,k=> if id=0 then L.pres k else match L.tr id with | none=>0 | some t=> match t.lv k with | some x=>x.own | none=> if t.dr k.1=true then 0 else Jz L n t.parent k
def HN (T:Int→Option TrD):Nat→Int→Prop
  | 0,id=>id=0
  | n+1,id=>id=0∨ match T id with | none=>True | some t=>HN T n t.parent
def Wd:Nat:=100000
def X4 (L:LvD) (id:Int) (k:KD):Int:=Jz L (Wd+1) id k
def JL (L:LvD) (id:Int):Bool:=decide (id=0) || (L.tr id).isSome
noncomputable def refW (V:VS) (s:Int):VS:= if s=0 then V else RM V s
noncomputable def Y1 (f:Int→Bool) (s:Int):Int→Bool:= if s=0 then f else Y0 f s
noncomputable def YX (V:VS) (f:Int→Bool) (s:Int):Int→Bool:= if 0<Z9 (Z7 V s) s then Y0 f s else f
theorem keysKey:KeyOk prog 115 X0:=LP underlying115 (by kernel_rfl) underlying9 underlying3 U U U U (by decide) (by decide)
theorem GL {w:World} {b:Nat} {L:LvD} {F:Th} (hS:Sat w [WU b L,F]) (id:Int):
    Calls prog 76 #[ptrV b 0,intV id] w (Ret fun v w'=>v= .bool (JL L id)∧Sat w' [WU b L,F]):= by
 replace hS:=Zb hS
 refine Qn func76 U ntmps76 U ?_
 refine Qe (Qa (Qd U U (Qf (Qc (Qe (Qa (Qb U U (Xc U U U (Qb U U (QZ 7 U (fun h1=> ?_) (fun h1=> ?_)))))))))))
 ·exact Qk U U (det h1) U (Qk U U (det h1) U (Qk U U (det h1) U (Qk U U (det h1) U (Qk U U (det h1) U (Qk U U (det h1) U (Qk U U (det h1) U (QN U (det h1) U U (Qd U U (Qf (Qc (Qh [4] U (Qv (QR (.inr U) U U (⟨_,rfl, by simp [JL, *],Xx (hS.pick [0,1,2,3,4,5] U)⟩))))))))))))))
 refine Qj U U (QF h1) (Qb U U (Qj U U (QF h1) (Qi U U (Qj U U (QF h1) (Qg U ZJ U (Qj U U (QF h1) (Qo U WN (by first | assumption | exact hS.cell 0 U U) U ?_)))))))
 refine Qj U U (QF h1) (Qb U U (Qj U U (QF h1) (X8 (k:=id) 2 hS keysInt underlying106 U U U Yf (u:=(ptO TrD.ad (L.tr id))) (UO _) U (Qj U U (QF h1) ?_))))
 rcases hq_T:L.tr id with _ | t
 ·exact Zz underlying104 U U U (QC U (QF h1) U U (Qd U U (Qf (Qc (Qh [4] U (Qv (QR (.inr U) U U (⟨_,rfl, by simp [JL, *],Xx (hS.pick [0,1,2,3,4,5] U)⟩))))))))
 exact ZB underlying104 U U U (QC U (QF h1) U U (Qd U U (Qf (Qc (Qh [4] U (Qv (QR (.inr U) U U (⟨_,rfl, by simp [JL, *],Xx (hS.pick [0,1,2,3,4,5] U)⟩))))))))
def Jv (L:LvD) (id parent:Int):Int:= if id<1 then 1 else if(L.tr id).isSome=true then 5 else if JL L parent=false then 4 else 0
noncomputable def Cx (L:LvD) (id parent:Int) (a ml md:Nat):LvD:= if Jv L id parent=0 then{L with tr:=QO L.tr id (some ⟨a,ml,md,parent, fun _=>none, fun _=>false⟩)}else L
theorem EY {w:World} {b:Nat} {L:LvD} {F:Th} (hS:Sat w [WU b L,F]) (id parent:Int):
    Calls prog 48 #[ptrV b 0,intV id,intV parent] w (Ret fun v w'=>v=intV (Jv L id parent)∧ ∃a ml md,Sat w' [WU b (Cx L id parent a ml md),F]):= by
 replace hS:=Zb hS
 refine Qn func48 U ntmps48 U ?_
 refine Qe (Qa (Qd U U (Qf (Qc (Qe (Qw (Qe (Qa (Qb U U (Xn U U U (Qd U U (Qf (Qc (Qt U (fun h1=> ?_) (fun h1=> ?_)))))))))))))))
 ·refine Qe (Qa (Qd U U (Qf (Qc (Qv (Q1 (Qr (QR (.inr U) U U ?_))))))))
  have hE:Jv L id parent=1:= by unfold Jv; rw[if_pos (by assumption)]
  exact⟨_,rfl, by rw[hE],0,0,0, by unfold Cx; rw[if_neg (by rw[hE];decide)]; exact Xx (hS.pick [0,1,2,3,4,5] U)⟩
 refine Qe (Qa (Qb U U (Qi U U (Qg U ZJ U (Qo U WN (by first | assumption | exact hS.cell 0 U U) U ?_)))))
 refine Qb U U (X8 (k:=id) 2 hS keysInt underlying106 U U U Yf (u:=(ptO TrD.ad (L.tr id))) (UO _) U ?_)
 rcases hq_T:L.tr id with _ | t
 ·refine Zz underlying104 U U U (Qd U U (Qf (Qc (Qh [2,1,0,6,10] U (QL U (Qe ?_))))))
  have j2:=Xx (L:=L) (hS.pick [0,1,2,3,4,5] U)
  refine Qa (Qb U U (Qb U U (Q0 NC U (GL (j2.sp [0] U) parent) U ?_)))
  rintro _ w3 ⟨rfl,j3⟩
  replace j3:=j3.jn U U
  refine QU U U (Qd U U (Qf (Qc (QS U (fun h4=> ?_) (fun h4=> ?_)))))
  ·have hth:JL L parent=false:= by simpa using h4
   refine Qe (Qa (Qd U U (Qf (Qc (Qv (Q1 (Qr (QR (.inr U) U U ?_))))))))
   have hE:Jv L id parent=4:= by unfold Jv; rw[if_neg (by assumption),if_neg (by rw[hq_T];decide),if_pos hth]
   exact⟨_,rfl, by rw[hE],0,0,0, by unfold Cx; rw[if_neg (by rw[hE];decide)]; exact j3.pick [0,1] U⟩
  have hth:JL L parent=true:= by simpa using h4
  refine Qs (Ql (Qc (Qe ?_)))
  have j5:=Zb (j3.pick [0,1] U)
  refine Qa (Qb U U (Qi U U (Qg U ZJ U (Qo U WN (by first | assumption | exact j5.cell 0 U U) U ?_))))
  refine Qb U U (Qb U U (Zg X0 j5 U ?_))
  intro nl w6 j6
  refine Zg Zl j6 U ?_
  intro nd w7 j7
  refine Zw U Mo asz_113 zr_113 U U (XV j7 U U U ?_)
  intro ta w8 j8
  refine Xi (k:=id) (v:=ptrV ta 0) 5 j8 keysInt underlying106 U U U U ?_
  intro w9 j9; dsimp only[List.set]at j9
  refine Qf (Qc (Qh [6] U (Qe (Qa (Qd U U (Qf (Qc (Qv (QR (.inr U) U U ?_)))))))))
  have hE:Jv L id parent=0:= by unfold Jv; rw[if_neg (by assumption),if_neg (by rw[hq_T];decide),if_neg (by rw[hth];decide)]
  have hA:=BB (κ:=KD) KT (j9.pick [0,2,1,6,3,4,5,7,8] U)
  have hB:=KI (GJ (t:=(⟨ta,nl,nd,parent, fun _=>none, fun _=>false⟩:TrD)) (hA.reorder [1,2,0,3,4,5,6,7,8,9] U)) hq_T
  have hC:=hB.reorder [1,2,3,0,4,5] U
  rw[Km (x:=(⟨ta,nl,nd,parent, fun _=>none, fun _=>false⟩:TrD))]at hC
  exact⟨_,rfl, by rw[hE],ta,nl,nd, by unfold Cx; rw[if_pos hE]; exact Xx (L:={L with tr:=QO L.tr id (some (⟨ta,nl,nd,parent, fun _=>none, fun _=>false⟩:TrD))}) hC⟩
 refine ZB underlying104 U U U (Qd U U (Qf (Qc (Qh [2,1,0,6,10] U (XD U (Qe (Qa (Qd U U (Qf (Qc (Qv (Q1 (Qr (QR (.inr U) U U ?_))))))))))))))
 have hE:Jv L id parent=5:= by unfold Jv; rw[if_neg (by assumption),if_pos (by rw[hq_T];rfl)]
 exact⟨_,rfl, by rw[hE],0,0,0, by unfold Cx; rw[if_neg (by rw[hE];decide)]; exact Xx (hS.pick [0,1,2,3,4,5] U)⟩
theorem Ri {L:LvD} {n:Nat} {id:Int} {k:KD} (h:id=0):Jz L (n+1) id k=L.pres k:= by unfold Jz; rw[if_pos h]
theorem Do {L:LvD} {n:Nat} {id:Int} {k:KD} (h:id≠0) (ht:L.tr id=none):Jz L (n+1) id k=0:= by unfold Jz; rw[if_neg h,ht]
theorem UM {L:LvD} {n:Nat} {id:Int} {k:KD} {t:TrD} {x:LfD} (h:id≠0) (ht:L.tr id=some t) (hx:t.lv k=some x):Jz L (n+1) id k=x.own:= by unfold Jz; rw[if_neg h,ht]; dsimp only; rw[hx]
theorem Dq {L:LvD} {n:Nat} {id:Int} {k:KD} {t:TrD} (h:id≠0) (ht:L.tr id=some t) (hx:t.lv k=none) (hd:t.dr k.1=true):Jz L (n+1) id k=0:= by unfold Jz; rw[if_neg h,ht]; dsimp only; rw[hx]; dsimp only; rw[if_pos hd]
theorem NZ {L:LvD} {n:Nat} {id:Int} {k:KD} {t:TrD} (h:id≠0) (ht:L.tr id=some t) (hx:t.lv k=none) (hd:t.dr k.1=false):Jz L (n+1) id k=Jz L n t.parent k:= by rw[Jz,if_neg h,ht]; dsimp only; rw[hx]; dsimp only; rw[if_neg (by rw[hd];decide)]
theorem P4 {T:Int→Option TrD} {n:Nat} {id:Int} {t:TrD} (h:HN T n id) (h0:id≠0) (ht:T id=some t): ∃m,n=m+1∧HN T m t.parent:= by
  cases n with
  | zero=> exact absurd h h0
  | succ n=>
    rcases h with h | h
    · exact absurd h h0
    · rw[ht]at h; exact⟨n,rfl,h⟩
theorem Mj {w:World} {b:Nat} {L:LvD} {F:Th} (hS:Sat w [WU b L,F]) (hE: ∀i,HN L.tr Wd i) (id:Int) (k:KD):
    Calls prog 54 #[ptrV b 0,intV id,X0 k] w (Ret fun v w'=>v=intV (X4 L id k)∧Sat w' [WU b L,F]):= by
 replace hS:=Zb hS
 refine Qn func54 U ntmps54 U ?_
 refine Qe (Qa (XV hS U U U ?_))
 intro kb w1 j1
 change Sat w1 [QE kb [strV k.1,intV k.2],_,_,_,_,_,_]at j1
 refine Qd U U (Qf (Qc (Qe (Qw (Xe (fun K0 E0 W0=> ∃(m:Nat) (i:Int),K0=m+1∧E0=[(0,ptrV b 0),(1,intV i),(5,ptrV kb 0)]∧Sat W0 [QE kb [strV k.1,intV k.2],QE b [ptrV L.sp 0,.map (some L.mp),.map (some L.mt),intV L.cur,.map (some L.ms)],Q6 X0 L.mp (Z3 L.pres),Q6 QX L.mt (XC TrD.ad L.tr),X6 VW L.tr,Q6 QX L.ms (JF L.sh),F]∧(X4 L id k=Jz L (m+1) i k)∧(HN L.tr m i)∧(m≤Wd)) (L0:=[(0,_),(1,_),(5,_)]) (Wd+1) (CK U U U) ⟨Wd,id,rfl,rfl,j1,rfl,hE id,Nat.le_refl _⟩ ?_)))))
 rintro _ _ w2 ⟨m,i,rfl,rfl,j2,hse,hen,hm⟩
 refine Qe (Qe (Qa (Qb U U (Xp U U U (Qf (Qc (Qt U (fun h3=> ?_) (fun h3=> ?_))))))))
 ·have hid0:i≠0:=h3
  refine Qs (Qc (Qw (Qe (Qa (Qb U U (Qi U U (Qg U ZJ U (Qo U WN (by first | assumption | exact j2.cell 0 U U | exact j2.cell 1 U U) U ?_))))))))
  refine Qb U U (X8 (k:=i) 3 j2 keysInt underlying106 U U U Yf (u:=(ptO TrD.ad (L.tr i))) (UO _) U (Qd U U (Qf (Qc (Qh [5,1,0,7] U (Qe (Qe (Qa (Qb U U ?_)))))))))
  rcases hq_T:L.tr i with _ | t
  ·exact Jh underlying104 U U U (Qf (Qc (XD U (Qe (Qa (Qd U U (Qf (Qc (Qv (Qr (Q1 (Qr (Q1 (Qr (QR (.inr U) U U (⟨_,rfl, by rw[hse,Do hid0 hq_T],Xx (j2.pick [1,2,3,4,5,6] U)⟩))))))))))))))))
  refine XI underlying104 U U U ?_
  have j4:=ZQ (j2.pick [4,0,1,2,3,5,6] U) hq_T
  refine Qf (Qc (QL U (Qs (Qc (Qe (Qe ?_))))))
  have j5:=j4.drew
  refine QH [0,1,2,3,4,5,6] [] ZW (by kernel_rfl) ?_
  refine QJ U U U (Xd U U U (QP U U U ZI (Q3 U U U (Qm U WF (by first | assumption | exact j5.cell 0 U U | exact j5.cell 5 U U | exact j5.cell 6 U U)) ?_)))
  refine Q3 U U U (X3 U X2 Xf (by first | exact j5.blk 0 U | exact j5.blk 5 U | exact j5.blk 6 U) (by first | decide | exact Q7 U | (simp;done) | omega) U) ?_
  refine Q3 U U U (Xt (k:=k) 1 j5 keysKey underlying110 U U U Yz (u:=(ptO LfD.ad (t.lv k))) (UO _)) (Zo U U U (VC.nil (Qc (Qh [5,1,0,7,8] U (Qe (Qa (Qb U U ?_)))))))
  rcases hq_X:t.lv k with _ | x
  ·refine Zz underlying116 U U U (Qf (Qc (QL U (Qs (Qc (Qe (Qe ?_)))))))
   have j7:=j5.drew
   refine QH [0,1,2,3,4,5,6] [] ZW (by kernel_rfl) ?_
   refine QJ U U U (Xd U U U (QP U U U U5 (Q3 U U U (Qm U R1 (by first | assumption | exact j7.cell 0 U U | exact j7.cell 5 U U | exact j7.cell 6 U U)) ?_)))
   refine QP U U U JZ (Q3 U U U (Qm U Yd (by first | assumption | exact j7.cell 0 U U | exact j7.cell 5 U U | exact j7.cell 6 U U)) ?_)
   refine Q3 U U U (Xt (k:=k.1) 3 j7 keysStr underlying111 U U U zr_4 (u:= .bool (t.dr k.1)) (MN _ _)) (VC.nil (Qc (Qh [5,1,0,7,37] U (QS U (fun h8=> ?_) (fun h8=> ?_)))))
   ·have hdr:t.dr k.1=true:=h8
    refine Qe (Qa (Qd U U (Qf (Qc (Qv (Qr (Q1 (Qr (Q1 (Qr (QR (.inr U) U U ?_)))))))))))
    have j9:=ZR hq_T (j7.pick [0,1,2,3,4,5,6,7,8,9,10] U)
    exact⟨_,rfl, by rw[hse,Dq hid0 hq_T hq_X hdr],Xx (j9.pick [2,3,4,0,5,6] U)⟩
   have hdr:t.dr k.1=false:=h8
   refine Qs (Qc (Qa (Qb U U (Qi U U (Qg U WZ U (Qo U QM (by first | assumption | exact j7.cell 0 U U | exact j7.cell 5 U U | exact j7.cell 6 U U) U ?_))))))
   refine Qd U U (Qf (Ql ?_))
   have j10:=ZR hq_T (j7.pick [0,1,2,3,4,5,6,7,8,9,10] U)
   obtain⟨m2,hm2,hen2⟩:=P4 hen hid0 hq_T
   exact Q5 (L1:=[(0,_),(1,intV t.parent),(5,_)]) (CK U U U) (k1:=m2+1) (by omega) ⟨m2,t.parent,rfl,rfl,j10.pick [1,2,3,4,0,5,6] U, by rw[hse,hm2,NZ hid0 hq_T hq_X hdr],hen2, by omega⟩
  refine ZB underlying116 U U U ?_
  have j6:=Hg (j5.pick [2,0,1,3,4,5,6,7,8,9,10] U) hq_X
  refine Qf (Qc (XD U (Qe (Qa (Qb U U (Qi U U (Qg U W4 U (Qo U QM (by first | assumption | exact j6.cell 0 U U | exact j6.cell 2 U U | exact j6.cell 6 U U | exact j6.cell 7 U U) U ?_))))))))
  refine Qd U U (Qf (Qc (Qh [5,1,0,7,6] U (Qv (Qr (Q1 (Qr (Q1 (Qr (QR (.inr U) U U ?_))))))))))
  have j11:=ZS hq_X (j6.pick [0,1,2,3,4,5,6,7,8,9,10,11] U)
  have j12:=ZR hq_T (j11.pick [1,2,0,3,4,5,6,7,8,9,10] U)
  exact⟨_,rfl, by rw[hse,UM hid0 hq_T hq_X],Xx (j12.pick [2,3,4,0,5,6] U)⟩
 have hid0:i=0:=Decidable.not_not.1 h3
 refine QT (Qq (Qq (Qy (Qc (Qe ?_)))))
 have j13:=j2.drew
 refine QH [0,1,2,3,4,5,6] [] ZW (by kernel_rfl) ?_
 refine QJ U U U (Xd U U U (QP U U U HC (Q3 U U U (Qm U VV (by first | assumption | exact j13.cell 0 U U | exact j13.cell 1 U U)) ?_)))
 refine Q3 U U U (X3 U X2 Xf (by first | exact j13.blk 0 U | exact j13.blk 1 U) (by first | decide | exact Q7 U | (simp;done) | omega) U) ?_
 exact Q3 U U U (Xt (k:=k) 2 j13 keysKey underlying105 U U U Hm (u:=intV (L.pres k)) (Rm _ _)) (Zo U U U (VC.nil (Qc (Qh [6] U (Qv (QR (.inr U) U U (⟨_,rfl, by rw[hse,Ri hid0],Xx (j13.pick [1,2,3,4,5,6] U)⟩)))))))
theorem Pb {w:World} {b sp mp mt ms n Fr:Nat} {cu:Int} {f:Int→Bool} {V:VS} {F:Th} (hS:Sat w [QE b [ptrV sp 0,.map (some mp),.map (some mt),intV cu,.map (some ms)],Q6 QX ms (JF f),ZT sp n Fr V,F]) (hn:n≤80000000000) (s:Int):
    Calls prog 63 #[ptrV b 0,intV s] w (Ret fun v w'=>v= .tuple #[]∧Sat w' [QE b [ptrV sp 0,.map (some mp),.map (some mt),intV cu,.map (some ms)],Q6 QX ms (JF (Y1 f s)),ZT sp (n+1) Fr (refW V s),F]):= by
 refine Qn func63 U ntmps63 U ?_
 refine Qe (Qa (Qb U U (Xp U U U (Qf (Qc (Qt U (fun h1=> ?_) (fun h1=> ?_)))))))
 ·refine Qe (Qa (Qb U U (Qi U U (Qg U Zx U (Qo U X5 (by first | assumption | exact hS.cell 0 U U) U ?_)))))
  refine Qb U U (Q0 cal_103 U (stRef (hS.sp [2] U) (by omega) s) U ?_)
  rintro _ w2 ⟨e0,rfl,j2⟩
  replace j2:=j2.jn U U
  refine Qf (Qc (Qa (Qb U U (Qi U U (Qg U TX U (Qo U Ai (by first | assumption | exact j2.cell 1 U U) U ?_))))))
  refine Qb U U (Xi (k:=s) (v:= .bool true) 2 j2 keysInt underlying107 U U U U ?_)
  intro w3 j3; dsimp only[List.set]at j3; rw[MM]at j3
  refine Qf (ZP (.inl U) U ?_)
  exact⟨_,rfl,rfl, by unfold Y1 refW; rw[if_neg (by assumption),if_neg (by assumption)]; exact j3.pick [1,2,0,3] U⟩
 refine Qs (ZP (.inl U) U ?_)
 exact⟨_,rfl,rfl, by unfold Y1 refW; rw[if_pos (Decidable.not_not.1 (by assumption)),if_pos (Decidable.not_not.1 (by assumption))]; exact((XM (m:=n+1) (by omega) (hS.pick [2,0,1,3] U)).reorder [1,2,0,3] U)⟩
theorem HS {w:World} {b sp mp mt ms n Fr:Nat} {cu:Int} {f:Int→Bool} {V:VS} {F:Th} (hS:Sat w [QE b [ptrV sp 0,.map (some mp),.map (some mt),intV cu,.map (some ms)],Q6 QX ms (JF f),ZT sp n Fr V,F]) (hn:n≤80000000000) (s:Int):
    Calls prog 104 #[ptrV b 0,intV s] w (Ret fun v w'=>v= .tuple #[]∧Sat w' [QE b [ptrV sp 0,.map (some mp),.map (some mt),intV cu,.map (some ms)],Q6 QX ms (JF (YX V f s)),ZT sp (n+1) Fr (Z7 V s),F]):= by
 refine Qn func104 U ntmps104 U ?_
 refine Qe (Qa (Qb U U (Qi U U (Qg U Zx U (Qo U X5 (by first | assumption | exact hS.cell 0 U U) U ?_)))))
 refine Qb U U (Q0 N8 U (Mg (hS.sp [2] U) (by omega) s) U ?_)
 rintro _ w1 ⟨e0,rfl,j1⟩
 replace j1:=j1.jn U U
 refine Qf (Qc (Qe (Qa (Qb U U (Qi U U (Qg U Zx U (Qo U X5 (by first | assumption | exact j1.cell 1 U U) U ?_)))))))
 refine Qb U U (Q0 PK U (FU (j1.sp [0] U) s) U ?_)
 rintro _ w2 ⟨rfl,j2⟩
 replace j2:=j2.jn U U
 refine J6 U U U (Qf (Qc (Qh [1,0,16] U (Qt U (fun h3=> ?_) (fun h3=> ?_)))))
 ·refine Qa (Qb U U (Qi U U (Qg U TX U (Qo U Ai (by first | assumption | exact j2.cell 1 U U) U ?_))))
  refine Qb U U (Xi (k:=s) (v:= .bool true) 2 j2 keysInt underlying107 U U U U ?_)
  intro w4 j4; dsimp only[List.set]at j4; rw[MM]at j4
  refine Qf (ZP (.inl U) U ?_)
  exact⟨_,rfl,rfl, by unfold YX; rw[if_pos (by omega)]; exact j4.pick [1,2,0,3] U⟩
 refine Qs (ZP (.inl U) U ?_)
 exact⟨_,rfl,rfl, by unfold YX; rw[if_neg (by omega)]; exact j2.pick [1,2,0,3] U⟩
theorem hold_p {w:World} {b sp mp mt ms n Fr:Nat} {a:Nat} {v0 v2 v3:Value} {cu old:Int} {f:Int→Bool} {V:VS} {F:Th} (hS:Sat w [QE b [ptrV sp 0,.map (some mp),.map (some mt),intV cu,.map (some ms)],Q6 QX ms (JF f),ZT sp n Fr V,QE a [v0,intV old,v2,v3],F]) (hn:n≤70000000000) (s:Int):
    Calls prog 102 #[ptrV b 0,ptrV a 1,intV s] w (Ret fun v w'=>v= .tuple #[]∧Sat w' [QE b [ptrV sp 0,.map (some mp),.map (some mt),intV cu,.map (some ms)],Q6 QX ms (JF (YX (refW V s) (Y1 f s) old)),ZT sp (n+2) Fr (Z7 (refW V s) old),QE a [v0,intV s,v2,v3],F]):= by
 refine Qn func102 U ntmps102 U ?_
 refine Qe (Qa (Qb U U (Qb U U (Q0 MB U (Pb (hS.sp [0,1,2] U) (by omega) s) U ?_))))
 rintro _ w1 ⟨rfl,j1⟩
 replace j1:=j1.jn U U
 refine Qf (Qc (Qe (Qa (Qb U U (Qb U U (Qi U U (Qo U QM (by first | assumption | exact j1.cell 0 U U | exact j1.cell 3 U U) U ?_)))))))
 refine Q0 Uf U (HS (j1.sp [0,1,2] U) (by omega) old) U ?_
 rintro _ w2 ⟨rfl,j2⟩
 replace j2:=j2.jn U U
 refine Qf (Qc (Qh [2,1] U (Qa (Qb U U (Qb U U (Qi U U ?_))))))
 first | (refine Qx j2 U U Js (by first | rfl | assumption) (i:=0) U (by first | decide | exact Q7 U | (simp;done) | omega) ?_) | (refine Qx j2 U U Js (by first | rfl | assumption) (i:=3) U (by first | decide | exact Q7 U | (simp;done) | omega) ?_)
 intro w3 j4; dsimp only[List.set]at j4
 exact Qf (ZP (.inl U) U (⟨_,U,U,j4.pick [0,1,2,3,4] U⟩))
theorem set_p {w:World} {b sp mp mt ms n Fr:Nat} {cu:Int} {pr:KD→Int} {f:Int→Bool} {V:VS} {F:Th} (hS:Sat w [QE b [ptrV sp 0,.map (some mp),.map (some mt),intV cu,.map (some ms)],Q6 X0 mp (Z3 pr),Q6 QX ms (JF f),ZT sp n Fr V,F]) (hn:n≤70000000000) (k:KD) (s:Int):
    Calls prog 101 #[ptrV b 0,X0 k,intV s] w (Ret fun v w'=>v= .tuple #[]∧Sat w' [QE b [ptrV sp 0,.map (some mp),.map (some mt),intV cu,.map (some ms)],Q6 X0 mp (Z3 (Wm pr k s)),Q6 QX ms (JF (YX V f (pr k))),ZT sp (n+1) Fr (Z7 V (pr k)),F]):= by
 refine Qn func101 U ntmps101 U ?_
 refine Qe (Qa (XV hS U U U ?_))
 intro kb w1 j1
 refine Qf (Qc (Qe ?_))
 have j2:=j1.drew
 refine QH [0,1,2,3,4,5,6,7] [7] ZW (by kernel_rfl) ?_
 refine QJ U U U (QJ U U U (Xd U U U (QP U U U HC (Q3 U U U (Qm U VV (by first | assumption | exact j2.cell 0 U U | exact j2.cell 1 U U)) ?_))))
 refine Q3 U U U (X3 U X2 Xf (by first | exact j2.blk 0 U | exact j2.blk 1 U) (by first | decide | exact Q7 U | (simp;done) | omega) U) ?_
 refine Q3 U U U (Xt (k:=k) 2 j2 keysKey underlying105 U U U Hm (u:=intV (pr k)) (Rm _ _)) (Xl U U U U U U ?_)
 refine Q0 Uf U (HS (j2.sp [1,3,4] U) (by omega) (pr k)) U ?_
 rintro _ w3 ⟨rfl,j3⟩
 replace j3:=j3.jn U U
 refine XH (Xq (by kernel_rfl)) ?_
 refine VC.nil (Qc (Qh [2,0,4] U (Qe ?_)))
 have j4:=j3.drew
 refine QH [0,1,2,3,4,5,6] [6] ZW (by kernel_rfl) ?_
 refine QJ U U U (Xd U U U (QP U U U HC (Q3 U U U (Qm U VV (by first | assumption | exact j4.cell 0 U U | exact j4.cell 3 U U)) ?_)))
 refine Q3 U U U (X3 U X2 Xf (by first | exact j4.blk 0 U | exact j4.blk 3 U) (by first | decide | exact Q7 U | (simp;done) | omega) U) ?_
 refine QJ U U U (Xl U U U U U U ?_)
 refine Xi (k:=k) (v:=intV s) 4 j4 keysKey underlying105 U U U U ?_
 intro w5 j5; dsimp only[List.set]at j5
 refine Zj (Xq (by kernel_rfl)) ?_
 refine VC.nil (Qc (Qe (Qa (Qb U U (Xc U U U (Qf (Qc (Qh [0,4,21] U (Qt U (fun h6=> ?_) (fun h6=> ?_))))))))))
 ·have j7:=j5.drew
  refine QH [0,1,2,3,4,5] [5] ZW (by kernel_rfl) ?_
  refine QJ U U U (Xd U U U (QP U U U HC (Q3 U U U (Qm U VV (by first | assumption | exact j7.cell 0 U U | exact j7.cell 3 U U)) ?_)))
  refine Q3 U U U (X3 U X2 Xf (by first | exact j7.blk 0 U | exact j7.blk 3 U) (by first | decide | exact Q7 U | (simp;done) | omega) U) ?_
  refine Xl U U U U U U ?_
  refine WG (k:=k) 4 j7 keysKey underlying105 U U U U ?_
  intro w8 j8; dsimp only[List.set]at j8
  refine Zj (Xq (by kernel_rfl)) ?_
  refine VC.nil (ZP (.inl U) U ?_)
  have hz:=j8.pick [0,4,1,2,5] U
  rw[S4]at hz
  exact⟨_,rfl,rfl, by rw[show s=0 from(by assumption)]; exact hz⟩
 refine Qs (ZP (.inl U) U ?_)
 have hz:=j5.pick [0,4,1,2,5] U
 rw[Sz (by assumption)]at hz
 exact⟨_,U,U,hz⟩
end Go.Proofs.YtkgjmhcdacidoaaGreatDoor
namespace Go.Proofs.YtkgjmhcdacidoaaGreatDoor
open Go.RowKit M Proofs.Tryz
theorem DU:Z5 prog 24=some false:= by kernel_rfl
theorem CB:Z5 prog 43=some true:= by kernel_rfl
theorem ag_56:Z5 prog 56=some true:= by kernel_rfl
theorem J3:Z5 prog 58=some false:= by kernel_rfl
theorem BF:Z5 prog 59=some false:= by kernel_rfl
theorem BE:Z5 prog 60=some false:= by kernel_rfl
theorem Y4:Z5 prog 88=some false:= by kernel_rfl
theorem HL:Z5 prog 89=some false:= by kernel_rfl
theorem ag_94:Z5 prog 94=some true:= by kernel_rfl
theorem UE:Z5 prog 95=some false:= by kernel_rfl
theorem PR:Z5 prog 96=some false:= by kernel_rfl
theorem asz_43:Jq prog 43=true:= by kernel_rfl
theorem EZ:Jq prog 56=true:= by kernel_rfl
theorem asz_62:Jq prog 62=true:= by kernel_rfl
theorem asz_64:Jq prog 64=true:= by kernel_rfl
theorem asz_91:Jq prog 91=true:= by kernel_rfl
theorem asz_94:Jq prog 94=true:= by kernel_rfl
theorem asz_99:Jq prog 99=true:= by kernel_rfl
theorem cal_5:Q8 prog 5=true:= by kernel_rfl
theorem cal_6:Q8 prog 6=true:= by kernel_rfl
theorem cal_7:Q8 prog 7=true:= by kernel_rfl
theorem P8:Q8 prog 9=true:= by kernel_rfl
theorem Ug:Q8 prog 10=true:= by kernel_rfl
theorem cal_12:Q8 prog 12=true:= by kernel_rfl
theorem cal_15:Q8 prog 15=true:= by kernel_rfl
theorem MG:Q8 prog 16=true:= by kernel_rfl
theorem ME:Q8 prog 17=true:= by kernel_rfl
theorem EQ:Q8 prog 18=true:= by kernel_rfl
theorem NI:Q8 prog 19=true:= by kernel_rfl
theorem EP:Q8 prog 20=true:= by kernel_rfl
theorem cal_21:Q8 prog 21=true:= by kernel_rfl
theorem EO:Q8 prog 22=true:= by kernel_rfl
theorem cal_23:Q8 prog 23=true:= by kernel_rfl
theorem NH:Q8 prog 24=true:= by kernel_rfl
theorem EN:Q8 prog 25=true:= by kernel_rfl
theorem cal_26:Q8 prog 26=true:= by kernel_rfl
theorem cal_27:Q8 prog 27=true:= by kernel_rfl
theorem cal_28:Q8 prog 28=true:= by kernel_rfl
theorem EM:Q8 prog 29=true:= by kernel_rfl
theorem EL:Q8 prog 30=true:= by kernel_rfl
theorem cal_31:Q8 prog 31=true:= by kernel_rfl
theorem cal_32:Q8 prog 32=true:= by kernel_rfl
theorem cal_34:Q8 prog 34=true:= by kernel_rfl
theorem cal_35:Q8 prog 35=true:= by kernel_rfl
theorem cal_36:Q8 prog 36=true:= by kernel_rfl
theorem cal_37:Q8 prog 37=true:= by kernel_rfl
theorem cal_38:Q8 prog 38=true:= by kernel_rfl
theorem cal_39:Q8 prog 39=true:= by kernel_rfl
theorem cal_40:Q8 prog 40=true:= by kernel_rfl
theorem cal_41:Q8 prog 41=true:= by kernel_rfl
theorem cal_45:Q8 prog 45=true:= by kernel_rfl
theorem cal_46:Q8 prog 46=true:= by kernel_rfl
theorem cal_47:Q8 prog 47=true:= by kernel_rfl
theorem cal_48:Q8 prog 48=true:= by kernel_rfl
theorem cal_49:Q8 prog 49=true:= by kernel_rfl
theorem NF:Q8 prog 50=true:= by kernel_rfl
theorem cal_53:Q8 prog 53=true:= by kernel_rfl
theorem cal_66:Q8 prog 66=true:= by kernel_rfl
theorem EI:Q8 prog 68=true:= by kernel_rfl
theorem EH:Q8 prog 69=true:= by kernel_rfl
theorem cal_72:Q8 prog 72=true:= by kernel_rfl
theorem cal_73:Q8 prog 73=true:= by kernel_rfl
theorem EF:Q8 prog 80=true:= by kernel_rfl
theorem cal_84:Q8 prog 84=true:= by kernel_rfl
theorem cal_105:Q8 prog 105=true:= by kernel_rfl
theorem cal_106:Q8 prog 106=true:= by kernel_rfl
theorem cal_111:Q8 prog 111=true:= by kernel_rfl
theorem cal_112:Q8 prog 112=true:= by kernel_rfl
theorem cal_152:Q8 prog 152=true:= by kernel_rfl
theorem Um:Ya prog 40=some 4:= by kernel_rfl
theorem es_96:Ya prog 96=some 4:= by kernel_rfl
theorem J5:Xb prog 43 0=some 0:= by kernel_rfl
theorem JV:Xb prog 43 1=some 1:= by kernel_rfl
theorem UX:Xb prog 43 2=some 2:= by kernel_rfl
theorem My:Xb prog 43 3=some 3:= by kernel_rfl
theorem YC:Xb prog 56 0=some 0:= by kernel_rfl
theorem Gm:Xb prog 56 1=some 4:= by kernel_rfl
theorem UW:Xb prog 56 2=some 5:= by kernel_rfl
theorem fo_56_3:Xb prog 56 3=some 6:= by kernel_rfl
theorem Wb:Xb prog 62 0=some 0:= by kernel_rfl
theorem Uc:Xb prog 62 1=some 1:= by kernel_rfl
theorem Ub:Xb prog 62 2=some 2:= by kernel_rfl
theorem Gl:Xb prog 62 3=some 3:= by kernel_rfl
theorem Kz:Xb prog 64 0=some 0:= by kernel_rfl
theorem Ky:Xb prog 64 1=some 1:= by kernel_rfl
theorem JU:Xb prog 91 0=some 0:= by kernel_rfl
theorem Pz:Xb prog 94 0=some 0:= by kernel_rfl
theorem Py:Xb prog 94 1=some 1:= by kernel_rfl
theorem Px:Xb prog 94 2=some 2:= by kernel_rfl
theorem Jk:Xb prog 99 0=some 0:= by kernel_rfl
theorem Kx:Xb prog 99 1=some 1:= by kernel_rfl
theorem UV:Xb prog 99 2=some 2:= by kernel_rfl
theorem fo_99_3:Xb prog 99 3=some 3:= by kernel_rfl
theorem Gj:Xb prog 99 4=some 4:= by kernel_rfl
theorem Gi:Xb prog 99 5=some 5:= by kernel_rfl
theorem fv_56_0:Ud prog 56 0=some (0,some 4):= by kernel_rfl
theorem ifo_43:(prog.info? 43).map (fun i=>(i.zero,i.size,i.bytes))=some (some (.agg #[(.int .i64 0),(.int .i64 0),(.int .i64 0),(.int .i64 0)]),4,32):= by kernel_rfl
theorem ifo_94:(prog.info? 94).map (fun i=>(i.zero,i.size,i.bytes))=some (some (.agg #[(.int .i64 0),(.string ⟨#[]⟩),(.string ⟨#[]⟩),(.slice none 0 0)]),4,64):= by kernel_rfl
theorem ifz_43:(prog.info? 43).map (fun i=>(i.zero,i.size))=some (some (.agg #[(.int .i64 0),(.int .i64 0),(.int .i64 0),(.int .i64 0)]),4):= by kernel_rfl
theorem ifz_94:(prog.info? 94).map (fun i=>(i.zero,i.size))=some (some (.agg #[(.int .i64 0),(.string ⟨#[]⟩),(.string ⟨#[]⟩),(.slice none 0 0)]),4):= by kernel_rfl
theorem BR:XS prog 43 [0,1,2,3]=some [(0,1),(1,1),(2,1),(3,1)]:= by kernel_rfl
theorem pl_56_:XS prog 56 []=some []:= by kernel_rfl
theorem pl_56_0:XS prog 56 [0]=some [(0,4)]:= by kernel_rfl
theorem Tw:XS prog 62 [0,1,2]=some [(0,1),(1,1),(2,1)]:= by kernel_rfl
theorem S5:XS prog 64 [0,1]=some [(0,1),(1,1)]:= by kernel_rfl
theorem pl_91_0:XS prog 91 [0]=some [(0,1)]:= by kernel_rfl
theorem Tv:XS prog 94 [0,1,2]=some [(0,1),(1,1),(2,1)]:= by kernel_rfl
theorem RN:XS prog 99 [0,2,3,5,6]=some [(0,1),(2,1),(3,1),(5,1),(6,1)]:= by kernel_rfl
theorem Vt:ZO prog 43=some 4:= by kernel_rfl
theorem Uk:ZO prog 56=some 7:= by kernel_rfl
theorem sz_88:ZO prog 88=some 1:= by kernel_rfl
theorem sz_94:ZO prog 94=some 4:= by kernel_rfl
theorem sz_96:ZO prog 96=some 1:= by kernel_rfl
theorem sz_99:ZO prog 99=some 7:= by kernel_rfl
theorem BL:XQ prog 9=some (some (.string ⟨#[]⟩)):= by kernel_rfl
theorem MT:XQ prog 43=some (some (.agg #[(.int .i64 0),(.int .i64 0),(.int .i64 0),(.int .i64 0)])):= by kernel_rfl
theorem Wy:XQ prog 56=some (some (.agg #[(.int .i64 0),(.int .i64 0),(.int .i64 0),(.int .i64 0),(.int .i64 0),(.bool false),(.bool false)])):= by kernel_rfl
theorem zr_62:XQ prog 62=some (some (.agg #[(.map none),(.pointer none),(.pointer none),(.int .i64 0)])):= by kernel_rfl
theorem zr_64:XQ prog 64=some (some (.agg #[(.pointer none),(.int .i64 0)])):= by kernel_rfl
theorem VY:XQ prog 88=some (some (.pointer none)):= by kernel_rfl
theorem zr_91:XQ prog 91=some (some (.agg #[(.map none)])):= by kernel_rfl
theorem zr_94:XQ prog 94=some (some (.agg #[(.int .i64 0),(.string ⟨#[]⟩),(.string ⟨#[]⟩),(.slice none 0 0)])):= by kernel_rfl
theorem zr_99:XQ prog 99=some (some (.agg #[(.pointer none),(.int .i64 0),(.map none),(.map none),(.slice none 0 0),(.map none),(.map none)])):= by kernel_rfl
structure NodeD where
  id:Int
  par:Int
  dep:Int
  gue:Int
  el:Int
  timed:Bool
  short:Bool
abbrev Nodes:=Int→Option NodeD
structure TrI (T:Nodes) (last:Int):Prop where
  root: ∃n,T 0=some n∧n.id=0∧n.par=0∧n.dep=0
  own: ∀{i n},T i=some n→n.id=i
  pos: ∀{i n},T i=some n→i≠0→1≤i∧i≤last
  par: ∀{i n},T i=some n→i≠0→n.par<i∧0≤n.par∧ ∃p,T n.par=some p∧n.dep=p.dep+1
  last0:0≤last
inductive Blw (T:Nodes) (who:Int):Int→Prop
  | self:Blw T who who
  | up {j:Int} {n:NodeD}:T j=some n→j≠0→Blw T who n.par→Blw T who j
open Classical in
noncomputable def abS (T:Nodes) (D:Int→Prop):Nodes:= fun j=> if ∃d,D d∧Blw T d j then none else T j
theorem YH {T:Nodes} {D:Int→Prop} {j:Int} (h: ∃d,D d∧Blw T d j):abS T D j=none:=if_pos h
theorem Yj {T:Nodes} {D:Int→Prop} {j:Int} (h: ¬ ∃d,D d∧Blw T d j):abS T D j=T j:=if_neg h
theorem Yc {T:Nodes} {D:Int→Prop} {j:Int} {n:NodeD} (h:abS T D j=some n):(¬ ∃d,D d∧Blw T d j)∧T j=some n:= by
  unfold abS at h
  split at h
  · cases h
  · exact⟨by assumption,h⟩
theorem CD {T:Nodes}:abS T (fun _=>False)=T:= by
  funext j
  exact Yj fun ⟨_,h,_⟩=>h
theorem Blw.sub {T T':Nodes} {who j:Int} (hs: ∀i n,T' i=some n→T i=some n) (h:Blw T' who j):Blw T who j:= by
  induction h with
  | self=> exact .self
  | up a b _ ih=> exact .up (hs _ _ a) b ih
theorem Blw.keep {T:Nodes} {D:Int→Prop} {who j:Int} (h:Blw T who j) (hj: ¬ ∃d,D d∧Blw T d j):Blw (abS T D) who j:= by
  induction h with
  | self=> exact .self
  | up a b _ ih=> exact .up (by rw[Yj hj]; exact a) b (ih fun ⟨d,h1,h2⟩=>hj ⟨d,h1,.up a b h2⟩)
theorem DQ {T:Nodes} {D:Int→Prop} {who j:Int} (hj: ¬ ∃d,D d∧Blw T d j):Blw (abS T D) who j↔Blw T who j:=
  ⟨fun h=>h.sub fun _ _ q=>(Yc q).2, fun h=>h.keep hj⟩
theorem abS_abS {T:Nodes} {D:Int→Prop} {c:Int}:abS (abS T D) (fun j=>j=c)=abS T (fun j=>D j∨j=c):= by
  funext j
  by_cases hj: ∃d,D d∧Blw T d j
  · rw[YH (T:=T) (D:= fun j=>D j∨j=c) (by obtain⟨d,a,b⟩:=hj; exact⟨d,.inl a,b⟩)]
    by_cases h: ∃d,d=c∧Blw (abS T D) d j
    · rw[YH h]
    · rw[Yj h,YH hj]
  · by_cases h:Blw T c j
    · rw[YH (D:= fun j=>j=c) ⟨c,rfl,(DQ hj).2 h⟩,YH (D:= fun j=>D j∨j=c) ⟨c,.inr U,h⟩]
    · rw[Yj (fun ⟨d,a,b⟩=> by subst a; exact h ((DQ hj).1 b)),Yj hj,Yj]
      rintro⟨d,a | a,b⟩
      · exact hj ⟨d,a,b⟩
      · subst a; exact h b
theorem TrI.abS {T:Nodes} {last:Int} {D:Int→Prop} (h:TrI T last) (hD: ¬D 0):TrI (abS T D) last where
  root:= by
    obtain⟨n,a,b⟩:=h.root
    refine⟨n,(Yj ?_).trans a,b⟩
    rintro⟨d,hd,q⟩
    cases q with
    | self=> exact hD hd
    | up _ e _=> exact e rfl
  own:= fun q=>h.own (Yc q).2
  pos:= fun q=>h.pos (Yc q).2
  par:= fun {i n} q hi=> by
    obtain⟨q1,q2⟩:=Yc q
    obtain⟨a,b,p,c,d⟩:=h.par q2 hi
    exact⟨a,b,p,(Yj fun ⟨e,e1,e2⟩=>q1 ⟨e,e1,.up q2 hi e2⟩).trans c,d⟩
  last0:=h.last0
theorem Blw.trans {T:Nodes} {a c j:Int} (h:Blw T c j) (h2:Blw T a c):Blw T a j:= by
  induction h with
  | self=> exact h2
  | up x y _ ih=> exact .up x y ih
def ChildOf (T:Nodes) (id j:Int):Prop:= ∃n,T j=some n∧j≠0∧n.par=id
theorem Cw {T:Nodes} {id j:Int} (h:Blw T id j):j=id∨ ∃c,ChildOf T id c∧Blw T c j:= by
  induction h with
  | self=> exact .inl rfl
  | @up j n x y _ ih=>
    rcases ih with e | ⟨c,a,b⟩
    · exact .inr ⟨j,⟨n,x,y,e⟩,.self⟩
    · exact .inr ⟨c,a,.up x y b⟩
theorem ChildOf.below {T:Nodes} {id j:Int} (h:ChildOf T id j):Blw T id j:= by
  obtain⟨n,a,b,c⟩:=h
  exact .up a b (by rw[c]; exact .self)
theorem CC {T:Nodes} {id:Int}:QO (abS T (ChildOf T id)) id none=abS T (fun j=>j=id):= by
  funext j
  by_cases e:j=id
  · subst e; rw[Qu,YH (D:= fun x=>x=j) ⟨j,rfl,.self⟩]
  · rw[Qz e]
    by_cases h:Blw T id j
    · rw[YH (D:= fun j=>j=id) ⟨id,rfl,h⟩,YH]
      rcases Cw h with q | ⟨c,a,b⟩
      · exact absurd q e
      · exact⟨c,a,b⟩
    · rw[Yj (D:= fun j=>j=id) (fun ⟨d,a,b⟩=> by subst a; exact h b),Yj]
      rintro⟨c,a,b⟩
      exact h (b.trans a.below)
theorem Vi {T:Nodes} {D D':Int→Prop} (h: ∀j,D j↔D' j):abS T D=abS T D':= by
  rw[show D=D' from funext fun j=>propext (h j)]
theorem TrI.begin {T:Nodes} {last who n:Int} {p:NodeD} (h:TrI T last) (hp:T who=some p):TrI (QO T (last+1) (some ⟨last+1,who,p.dep+1,n,0,false,false⟩)) (last+1) where
  root:= by
    obtain⟨r,a,b⟩:=h.root
    exact⟨r, by rw[Qz (by have :=h.last0;omega)]; exact a,b⟩
  own:= fun {i x} q=> by
    by_cases e:i=last+1
    · subst e; rw[Qu]at q; cases q;rfl
    · rw[Qz e]at q; exact h.own q
  pos:= fun {i x} q hi=> by
    by_cases e:i=last+1
    · have :=h.last0;omega
    · rw[Qz e]at q; have :=h.pos q hi;omega
  par:= fun {i x} q hi=> by
    by_cases e:i=last+1
    · subst e; rw[Qu]at q; cases q
      by_cases e0:who=0
      · subst e0
        exact⟨by have :=h.last0; show(0:Int)<_;omega,Int.le_refl _,p, by show QO T (last+1) _ (0:Int)=_; rw[Qz (by have :=h.last0;omega)]; exact hp,rfl⟩
      · have :=h.pos hp e0
        exact⟨by show who<_;omega, by show 0≤who;omega,p, by show QO T (last+1) _ who=_; rw[Qz (by omega)]; exact hp,rfl⟩
    · rw[Qz e]at q
      obtain⟨a,b,r,c,d⟩:=h.par q hi
      have :=h.pos q hi
      exact⟨a,b,r, by rw[Qz (by omega)]; exact c,d⟩
  last0:= by have :=h.last0;omega
def NQ (T:Nodes) (j:Int):Int:= if j=0 then 0 else match T j with | none=>j | some n=>n.par
def Dg (T:Nodes):Nat→Int→Int
  | 0,j=>j
  | k+1,j=>Dg T k (NQ T j)
theorem GG {T:Nodes} {j:Int} {n:NodeD} (h:T j=some n) (h0:j≠0):NQ T j=n.par:= by unfold NQ; rw[if_neg h0,h]
theorem Df {T:Nodes} {who:Int}: ∀{k:Nat} {j:Int},Dg T k j=who→Blw T who j
  | 0,j,h=> by
    have e:j=who:=h
    rw[e]; exact .self
  | k+1,j,h=> by
    have h1:=Df (k:=k) (j:=NQ T j) h
    by_cases h0:j=0
    · have e:NQ T j=j:= by unfold NQ; rw[if_pos h0,h0]
      rw[e]at h1; exact h1
    · cases q:T j with
      | none=>
        have e:NQ T j=j:= by unfold NQ; rw[if_neg h0,q]
        rw[e]at h1; exact h1
      | some n=>
        rw[GG q h0]at h1
        exact .up q h0 h1
theorem cnt_lt {ids:List Int} {p j:Int} (hp:p∈ids) (hj:p<j):ids.countP (fun x=>decide (x<p))+1≤ids.countP (fun x=>decide (x<j)):= by
  induction ids with
  | nil=> cases hp
  | cons a l ih=>
    rw[List.countP_cons,List.countP_cons]
    have hm:l.countP (fun x=>decide (x<p))≤l.countP (fun x=>decide (x<j)):=List.countP_mono_left fun x _ h=> by
      simp only[decide_eq_true_eq]at *;omega
    rcases List.mem_cons.1 hp with e | e
    · subst e
      rw[if_neg (by simp),if_pos (by simpa using hj)]
      omega
    · have :=ih e
      by_cases h1:a<p
      · rw[if_pos (by simpa using h1),if_pos (by simp;omega)];omega
      · rw[if_neg (by simpa using h1)]
        split<;>omega
theorem Ft {T:Nodes} {last who j:Int} {ids:List Int} (hI:TrI T last) (hw:who≠0) (hids: ∀i n,T i=some n→i≠0→i∈ids) (h:Blw T who j): ∃k,Dg T k j=who∧k≤ids.countP (fun x=>decide (x<j)):= by
  induction h with
  | self=> exact⟨0,rfl,Nat.zero_le _⟩
  | @up j n x y hb ih=>
    obtain⟨k,a,b⟩:=ih
    have hp0:n.par≠0:= fun e=> by
      rw[e]at hb
      cases hb with
      | self=> exact hw rfl
      | up _ e2 _=> exact e2 rfl
    obtain⟨h1,_,p,h3,_⟩:=hI.par x y
    have :=cnt_lt (hids _ _ h3 hp0) h1
    exact⟨k+1, by show Dg T k (NQ T j)=who; rw[GG x y]; exact a, by omega⟩
theorem Fv {T:Nodes} {last who j:Int} {ids:List Int} (hI:TrI T last) (hw:who≠0) (hids: ∀i n,T i=some n→i≠0→i∈ids):Blw T who j↔ ∃k,k≤ids.length∧Dg T k j=who:=
  ⟨fun h=> by
    obtain⟨k,a,b⟩:=Ft hI hw hids h
    exact⟨k,Nat.le_trans b List.countP_le_length,a⟩, fun ⟨_,_,h⟩=>Df h⟩
