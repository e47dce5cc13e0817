/- leaves: in plain data; there, Begin, sees, ref, unref, hold, set -/
import Derived.Test.YtkgjmhcdacidoaaGreatDoorSh13
import Derived.Test.YtkgjmhcdacidoaaGreatDoorFw
set_option linter.unusedSectionVars false
set_option linter.unusedVariables false
set_option maxRecDepth 100000
set_option maxHeartbeats 80000000000
namespace Go.Proofs.YtkgjmhcdacidoaaGreatDoor
open Go.RowKit M Proofs.Tryz
variable [Inhabited SlW]
abbrev KD:=Bs×Int
structure LfD where
  ad:Nat
  base:Int
  own:Int
  rd:BitVec 64
  wr:BitVec 64
structure TrD where
  ad:Nat
  ml:Nat
  md:Nat
  parent:Int
  lv:KD→Option LfD
  dr:Bs→Bool
structure LvD where
  sp:Nat
  mp:Nat
  mt:Nat
  ms:Nat
  pres:KD→Int
  tr:Int→Option TrD
  cur:Int
  sh:Int→Bool
def lfV (x:LfD):List Value:=[intV x.base,intV x.own,Zh x.rd,Zh x.wr]
def KH (x:LfD):Th:=QC x.ad (lfV x)
def J0 {κ:Type} (f:κ→Bool):κ→Option Value:= fun s=> if f s=true then some (.bool true)else none
open Classical in
noncomputable def Yh {κ:Type} (f:κ→Bool) (k:κ):κ→Bool:= fun j=> if j=k then true else f j
theorem M0 {κ:Type} (f:κ→Bool) (k:κ):(J0 f k).getD (.bool false)= .bool (f k):= by
  unfold J0;split
  · rename_i h; rw[h];rfl
  · rename_i h; simp at h; rw[h];rfl
theorem Mz {κ:Type} (f:κ→Bool) (k:κ):upd (J0 f) k (some (.bool true))=J0 (Yh f k):= by
  funext j
  by_cases h:j=k
  · subst h; rw[Zs];unfold J0 Yh; simp
  · rw[Wi h];unfold J0 Yh; simp [h]
theorem boG_nil {κ:Type}:J0 (fun _:κ=>false)= fun _=>none:= by funext k; simp [J0]
def Zv (p:KD→Int):KD→Option Value:= fun k=> if p k=0 then none else some (intV (p k))
theorem Rb (p:KD→Int) (k:KD):(Zv p k).getD (intV 0)=intV (p k):= by
  unfold Zv;split
  · rename_i h; rw[h];rfl
  · rfl
theorem PR:Zv (fun _=>0)= fun _=>none:= by funext k; simp [Zv]
open Classical in
noncomputable def We (p:KD→Int) (k:KD) (s:Int):KD→Int:= fun j=> if j=k then s else p j
theorem PQ {p:KD→Int} {k:KD} {s:Int} (h:s≠0):upd (Zv p) k (some (intV s))=Zv (We p k s):= by
  funext j
  by_cases e:j=k
  · subst e; rw[Zs];unfold Zv We; simp [h]
  · rw[Wi e];unfold Zv We; simp [e]
theorem PS {p:KD→Int} {k:KD} {v:Option Value}:upd (upd (Zv p) k v) k none=Zv (We p k 0):= by
  funext j
  by_cases e:j=k
  · subst e; rw[Zs];unfold Zv We; simp
  · rw[Wi e,Wi e];unfold Zv We; simp [e]
def ptO {α:Type} (ad:α→Nat) (o:Option α):Value:= match o with | none=> .pointer none | some x=>ptrV (ad x) 0
theorem UE {κ α:Type} {ad:α→Nat} {f:κ→Option α} (k:κ):(XO ad f k).getD (.pointer none)=ptO ad (f k):= by
  unfold XO ptO; cases f k<;>rfl
def Xz {κ α:Type} (th:α→Th) (f:κ→Option α):Th:=TV fun k=>(f k).map th
theorem TW {κ α:Type} {th:α→Th} {f:κ→Option α} {k:κ} {x:α}:QK (fun k=>(f k).map th) k (some (th x))= fun j=>((QK f k (some x)) j).map th:= by
  funext j
  by_cases h:j=k
  · subst h; rw[Qr,Qr];rfl
  · rw[Qw h,Qw h]
theorem Eg {κ α:Type} {th:α→Th} {f:κ→Option α} {k:κ}:QK (fun k=>(f k).map th) k none= fun j=>((QK f k none) j).map th:= by
  funext j
  by_cases h:j=k
  · subst h; rw[Qr,Qr];rfl
  · rw[Qw h,Qw h]
section
variable {w:World} {As:List Th}
theorem Ro {κ α:Type} {th:α→Th} {f:κ→Option α} {k:κ} {x:α} (h:Sat w (Xz th f::As)) (hk:f k=some x):Sat w (th x::Xz th (QK f k none)::As):= by
  have h1:=Ef (k:=k) (A:=th x) h (by show(f k).map th=_; rw[hk];rfl)
  rw[Eg]at h1
  exact h1
theorem UV {κ α:Type} {th:α→Th} {f:κ→Option α} {k:κ} {x:α} (h:Sat w (th x::Xz th (QK f k none)::As)):Sat w (Xz th (QK f k (some x))::As):= by
  have h1:=Pq (h:= fun j=>((QK f k none) j).map th) (k:=k) h (by show((QK f k none) k).map th=none; rw[Qr];rfl)
  rw[TW,J3]at h1
  exact h1
theorem Rp {κ α:Type} {th:α→Th} {f:κ→Option α} {k:κ} {x:α} (h:Sat w (th x::Xz th (QK f k none)::As)) (hk:f k=some x):Sat w (Xz th f::As):= by
  have h1:=UV h
  rwa [Wr hk]at h1
theorem K3 {κ α:Type} {th:α→Th} {f:κ→Option α} {k:κ} {x:α} (h:Sat w (th x::Xz th f::As)) (hk:f k=none):Sat w (Xz th (QK f k (some x))::As):= by
  have h1:=Pq (h:= fun j=>(f j).map th) (k:=k) h (by show(f k).map th=none; rw[hk];rfl)
  rw[TW]at h1
  exact h1
theorem Bu {κ α:Type} (th:α→Th) (h:Sat w As):Sat w (Xz th (fun _:κ=>none)::As):=SC h
end
def trV (t:TrD):List Value:=[intV t.parent,.map (some t.ml),.map (some t.md)]
def VG (t:TrD):Th:=starL [QC t.ad (trV t),Q4 Xr t.ml (XO LfD.ad t.lv),Xz KH t.lv,Q4 Zd t.md (J0 t.dr)]
def lvV (L:LvD):List Value:=[ptrV L.sp 0,.map (some L.mp),.map (some L.mt),intV L.cur,.map (some L.ms)]
def Je (b:Nat) (L:LvD):Th:=starL [QC b (lvV L),Q4 Xr L.mp (Zv L.pres),Q4 QX L.mt (XO TrD.ad L.tr),Xz VG L.tr,Q4 QX L.ms (J0 L.sh)]
section
variable {w:World} {As:List Th}
theorem Zi {b:Nat} {L:LvD} (h:Sat w (Je b L::As)):Sat w (QC b [ptrV L.sp 0,.map (some L.mp),.map (some L.mt),intV L.cur,.map (some L.ms)]::Q4 Xr L.mp (Zv L.pres)::Q4 QX L.mt (XO TrD.ad L.tr)::Xz VG L.tr::Q4 QX L.ms (J0 L.sh)::As):=h.flat
theorem Xw {b:Nat} {L:LvD} (h:Sat w (QC b [ptrV L.sp 0,.map (some L.mp),.map (some L.mt),intV L.cur,.map (some L.ms)]::Q4 Xr L.mp (Zv L.pres)::Q4 QX L.mt (XO TrD.ad L.tr)::Xz VG L.tr::Q4 QX L.ms (J0 L.sh)::As)):Sat w (Je b L::As):=Sat.fold (As:=[QC b (lvV L),Q4 Xr L.mp (Zv L.pres),Q4 QX L.mt (XO TrD.ad L.tr),Xz VG L.tr,Q4 QX L.ms (J0 L.sh)]) h
theorem ZI {T:Int→Option TrD} {i:Int} {t:TrD} (h:Sat w (Xz VG T::As)) (hk:T i=some t):Sat w (QC t.ad [intV t.parent,.map (some t.ml),.map (some t.md)]::Q4 Xr t.ml (XO LfD.ad t.lv)::Xz KH t.lv::Q4 Zd t.md (J0 t.dr)::Xz VG (QK T i none)::As):=(Ro h hk).flat
theorem Gz {t:TrD} (h:Sat w (QC t.ad [intV t.parent,.map (some t.ml),.map (some t.md)]::Q4 Xr t.ml (XO LfD.ad t.lv)::Xz KH t.lv::Q4 Zd t.md (J0 t.dr)::As)):Sat w (VG t::As):=Sat.fold (As:=[QC t.ad (trV t),Q4 Xr t.ml (XO LfD.ad t.lv),Xz KH t.lv,Q4 Zd t.md (J0 t.dr)]) h
theorem ZJ {T:Int→Option TrD} {i:Int} {t:TrD} (hk:T i=some t) (h:Sat w (QC t.ad [intV t.parent,.map (some t.ml),.map (some t.md)]::Q4 Xr t.ml (XO LfD.ad t.lv)::Xz KH t.lv::Q4 Zd t.md (J0 t.dr)::Xz VG (QK T i none)::As)):Sat w (Xz VG T::As):=Rp (Gz h) hk
theorem VT {T:Int→Option TrD} {i:Int} {t:TrD} (h:Sat w (QC t.ad [intV t.parent,.map (some t.ml),.map (some t.md)]::Q4 Xr t.ml (XO LfD.ad t.lv)::Xz KH t.lv::Q4 Zd t.md (J0 t.dr)::Xz VG (QK T i none)::As)):Sat w (Xz VG (QK T i (some t))::As):=UV (Gz h)
theorem YJ {f:KD→Option LfD} {k:KD} {x:LfD} (h:Sat w (Xz KH f::As)) (hk:f k=some x):Sat w (QC x.ad [intV x.base,intV x.own,Zh x.rd,Zh x.wr]::Xz KH (QK f k none)::As):=Ro h hk
theorem ZK {f:KD→Option LfD} {k:KD} {x:LfD} (hk:f k=some x) (h:Sat w (QC x.ad [intV x.base,intV x.own,Zh x.rd,Zh x.wr]::Xz KH (QK f k none)::As)):Sat w (Xz KH f::As):=Rp (th:=KH) h hk
theorem FY {f:KD→Option LfD} {k:KD} {x:LfD} (h:Sat w (QC x.ad [intV x.base,intV x.own,Zh x.rd,Zh x.wr]::Xz KH (QK f k none)::As)):Sat w (Xz KH (QK f k (some x))::As):=UV (th:=KH) h
theorem NB {f:KD→Option LfD} {k:KD} {x:LfD} (hk:f k=none) (h:Sat w (QC x.ad [intV x.base,intV x.own,Zh x.rd,Zh x.wr]::Xz KH f::As)):Sat w (Xz KH (QK f k (some x))::As):=K3 (th:=KH) h hk
end
def Jl (L:LvD):Nat→Int→KD→Int
  | 0,_,_=>0
  | n+1,id,k=> if id=0 then L.pres k else match L.tr id with | none=>0 | some t=> match t.lv k with | some x=>x.own | none=> if t.dr k.1=true then 0 else Jl L n t.parent k
def H9 (T:Int→Option TrD):Nat→Int→Prop
  | 0,id=>id=0
  | n+1,id=>id=0∨ match T id with | none=>True | some t=>H9 T n t.parent
def Wx:Nat:=100000
def Xx (L:LvD) (id:Int) (k:KD):Int:=Jl L (Wx+1) id k
def J5 (L:LvD) (id:Int):Bool:=decide (id=0) || (L.tr id).isSome
noncomputable def refW (V:VS) (s:Int):VS:= if s=0 then V else RC V s
noncomputable def Yi (f:Int→Bool) (s:Int):Int→Bool:= if s=0 then f else Yh f s
noncomputable def YD (V:VS) (f:Int→Bool) (s:Int):Int→Bool:= if 0<Z2 (Zz V s) s then Yh f s else f
theorem keysKey:KeyOk prog 115 Xr:=Lb underlying115 (by kernel_rfl) underlying9 underlying3 U U U U (by decide) (by decide)
theorem G3 {w:World} {b:Nat} {L:LvD} {F:Th} (hS:Sat w [Je b L,F]) (id:Int):
    Calls prog 76 #[ptrV b 0,intV id] w (Ret fun v w'=>v= .bool (J5 L id)∧Sat w' [Je b L,F]):= by
 replace hS:=Zi hS
 refine Qm func76 U ntmps76 U ?_
 refine Qe (Qa (Qd U U (Qf (Qc (Qe (Qa (Qb U U (Xl U U U (Qb U U (QS 7 U (fun h1=> ?_) (fun h1=> ?_)))))))))))
 ·exact Qk U U (det h1) U (Qk U U (det h1) U (Qk U U (det h1) U (Qk U U (det h1) U (Qk U U (det h1) U (Qk U U (det h1) U (Qk U U (det h1) U (QH U (det h1) U U (Qd U U (Qf (Qc (Qh [4] U (Qv (QM (.inr U) U U (⟨_,rfl, by simp [J5, *],Xw (hS.pick [0,1,2,3,4,5] U)⟩))))))))))))))
 refine Qj U U (QJ h1) (Qb U U (Qj U U (QJ h1) (Qi U U (Qj U U (QJ h1) (Qg U Wh U (Qj U U (QJ h1) (Qn U JM (by first | assumption | exact hS.cell 0 U U) U ?_)))))))
 refine Qj U U (QJ h1) (Qb U U (Qj U U (QJ h1) (XA (k:=id) 2 hS keysInt underlying106 U U U Y9 (u:=(ptO TrD.ad (L.tr id))) (UE _) U (Qj U U (QJ h1) ?_))))
 rcases hq_T:L.tr id with _ | t
 ·exact Zr underlying104 U U U (QG U (QJ h1) U U (Qd U U (Qf (Qc (Qh [4] U (Qv (QM (.inr U) U U (⟨_,rfl, by simp [J5, *],Xw (hS.pick [0,1,2,3,4,5] U)⟩))))))))
 exact Zy underlying104 U U U (QG U (QJ h1) U U (Qd U U (Qf (Qc (Qh [4] U (Qv (QM (.inr U) U U (⟨_,rfl, by simp [J5, *],Xw (hS.pick [0,1,2,3,4,5] U)⟩))))))))
def Ji (L:LvD) (id parent:Int):Int:= if id<1 then 1 else if(L.tr id).isSome=true then 5 else if J5 L parent=false then 4 else 0
noncomputable def TY (L:LvD) (id parent:Int) (a ml md:Nat):LvD:= if Ji L id parent=0 then{L with tr:=QK L.tr id (some ⟨a,ml,md,parent, fun _=>none, fun _=>false⟩)}else L
theorem Ei {w:World} {b:Nat} {L:LvD} {F:Th} (hS:Sat w [Je b L,F]) (id parent:Int):
    Calls prog 48 #[ptrV b 0,intV id,intV parent] w (Ret fun v w'=>v=intV (Ji L id parent)∧ ∃a ml md,Sat w' [Je b (TY L id parent a ml md),F]):= by
 replace hS:=Zi hS
 refine Qm func48 U ntmps48 U ?_
 refine Qe (Qa (Qd U U (Qf (Qc (Qe (Qz (Qe (Qa (Qb U U (Xk U U U (Qd U U (Qf (Qc (Qu U (fun h1=> ?_) (fun h1=> ?_)))))))))))))))
 ·refine Qe (Qa (Qd U U (Qf (Qc (Qv (Q0 (Qq (QM (.inr U) U U ?_))))))))
  have hE:Ji L id parent=1:= by unfold Ji; rw[if_pos (by assumption)]
  exact⟨_,rfl, by rw[hE],0,0,0, by unfold TY; rw[if_neg (by rw[hE];decide)]; exact Xw (hS.pick [0,1,2,3,4,5] U)⟩
 refine Qe (Qa (Qb U U (Qi U U (Qg U Wh U (Qn U JM (by first | assumption | exact hS.cell 0 U U) U ?_)))))
 refine Qb U U (XA (k:=id) 2 hS keysInt underlying106 U U U Y9 (u:=(ptO TrD.ad (L.tr id))) (UE _) U ?_)
 rcases hq_T:L.tr id with _ | t
 ·refine Zr underlying104 U U U (Qd U U (Qf (Qc (Qh [2,1,0,6,10] U (QW U (Qe ?_))))))
  have j2:=Xw (L:=L) (hS.pick [0,1,2,3,4,5] U)
  refine Qa (Qb U U (Qb U U (Qy Nf U (G3 (j2.sp [0] U) parent) U ?_)))
  rintro _ w3 ⟨rfl,j3⟩
  replace j3:=j3.jn U U
  refine QV U U (Qd U U (Qf (Qc (QP U (fun h4=> ?_) (fun h4=> ?_)))))
  ·have hth:J5 L parent=false:= by simpa using h4
   refine Qe (Qa (Qd U U (Qf (Qc (Qv (Q0 (Qq (QM (.inr U) U U ?_))))))))
   have hE:Ji L id parent=4:= by unfold Ji; rw[if_neg (by assumption),if_neg (by rw[hq_T];decide),if_pos hth]
   exact⟨_,rfl, by rw[hE],0,0,0, by unfold TY; rw[if_neg (by rw[hE];decide)]; exact j3.pick [0,1] U⟩
  have hth:J5 L parent=true:= by simpa using h4
  refine Qt (Qo (Qc (Qe ?_)))
  have j5:=Zi (j3.pick [0,1] U)
  refine Qa (Qb U U (Qi U U (Qg U Wh U (Qn U JM (by first | assumption | exact j5.cell 0 U U) U ?_))))
  refine Qb U U (Qb U U (XZ Xr j5 U ?_))
  intro nl w6 j6
  refine XZ Zd j6 U ?_
  intro nd w7 j7
  refine Zm U DN asz_113 zr_113 U U (XV j7 U U U ?_)
  intro ta w8 j8
  refine QY (k:=id) (v:=ptrV ta 0) 5 j8 keysInt underlying106 U U U U ?_
  intro w9 j9; dsimp only[List.set]at j9
  refine Qf (Qc (Qh [6] U (Qe (Qa (Qd U U (Qf (Qc (Qv (QM (.inr U) U U ?_)))))))))
  have hE:Ji L id parent=0:= by unfold Ji; rw[if_neg (by assumption),if_neg (by rw[hq_T];decide),if_neg (by rw[hth];decide)]
  have hA:=Bu (κ:=KD) KH (j9.pick [0,2,1,6,3,4,5,7,8] U)
  have hB:=K3 (Gz (t:=(⟨ta,nl,nd,parent, fun _=>none, fun _=>false⟩:TrD)) (hA.reorder [1,2,0,3,4,5,6,7,8,9] U)) hq_T
  have hC:=hB.reorder [1,2,3,0,4,5] U
  rw[VZ (x:=(⟨ta,nl,nd,parent, fun _=>none, fun _=>false⟩:TrD))]at hC
  exact⟨_,rfl, by rw[hE],ta,nl,nd, by unfold TY; rw[if_pos hE]; exact Xw (L:={L with tr:=QK L.tr id (some (⟨ta,nl,nd,parent, fun _=>none, fun _=>false⟩:TrD))}) hC⟩
 refine Zy underlying104 U U U (Qd U U (Qf (Qc (Qh [2,1,0,6,10] U (X3 U (Qe (Qa (Qd U U (Qf (Qc (Qv (Q0 (Qq (QM (.inr U) U U ?_))))))))))))))
 have hE:Ji L id parent=5:= by unfold Ji; rw[if_neg (by assumption),if_pos (by rw[hq_T];rfl)]
 exact⟨_,rfl, by rw[hE],0,0,0, by unfold TY; rw[if_neg (by rw[hE];decide)]; exact Xw (hS.pick [0,1,2,3,4,5] U)⟩
theorem KX {L:LvD} {n:Nat} {id:Int} {k:KD} (h:id=0):Jl L (n+1) id k=L.pres k:= by unfold Jl; rw[if_pos h]
theorem BT {L:LvD} {n:Nat} {id:Int} {k:KD} (h:id≠0) (ht:L.tr id=none):Jl L (n+1) id k=0:= by unfold Jl; rw[if_neg h,ht]
theorem UC {L:LvD} {n:Nat} {id:Int} {k:KD} {t:TrD} {x:LfD} (h:id≠0) (ht:L.tr id=some t) (hx:t.lv k=some x):Jl L (n+1) id k=x.own:= by unfold Jl; rw[if_neg h,ht]; dsimp only; rw[hx]
theorem BV {L:LvD} {n:Nat} {id:Int} {k:KD} {t:TrD} (h:id≠0) (ht:L.tr id=some t) (hx:t.lv k=none) (hd:t.dr k.1=true):Jl L (n+1) id k=0:= by unfold Jl; rw[if_neg h,ht]; dsimp only; rw[hx]; dsimp only; rw[if_pos hd]
theorem Nz {L:LvD} {n:Nat} {id:Int} {k:KD} {t:TrD} (h:id≠0) (ht:L.tr id=some t) (hx:t.lv k=none) (hd:t.dr k.1=false):Jl L (n+1) id k=Jl L n t.parent k:= by rw[Jl,if_neg h,ht]; dsimp only; rw[hx]; dsimp only; rw[if_neg (by rw[hd];decide)]
theorem NV {T:Int→Option TrD} {n:Nat} {id:Int} {t:TrD} (h:H9 T n id) (h0:id≠0) (ht:T id=some t): ∃m,n=m+1∧H9 T m t.parent:= by
  cases n with
  | zero=> exact absurd h h0
  | succ n=>
    rcases h with h | h
    · exact absurd h h0
    · rw[ht]at h; exact⟨n,rfl,h⟩
theorem DH {w:World} {b:Nat} {L:LvD} {F:Th} (hS:Sat w [Je b L,F]) (hE: ∀i,H9 L.tr Wx i) (id:Int) (k:KD):
    Calls prog 54 #[ptrV b 0,intV id,Xr k] w (Ret fun v w'=>v=intV (Xx L id k)∧Sat w' [Je b L,F]):= by
 replace hS:=Zi hS
 refine Qm func54 U ntmps54 U ?_
 refine Qe (Qa (XV hS U U U ?_))
 intro kb w1 j1
 change Sat w1 [QC kb [strV k.1,intV k.2],_,_,_,_,_,_]at j1
 refine Qd U U (Qf (Qc (Qe (Qz (Xh (fun K0 E0 W0=> ∃(m:Nat) (i:Int),K0=m+1∧E0=[(0,ptrV b 0),(1,intV i),(5,ptrV kb 0)]∧Sat W0 [QC kb [strV k.1,intV k.2],QC b [ptrV L.sp 0,.map (some L.mp),.map (some L.mt),intV L.cur,.map (some L.ms)],Q4 Xr L.mp (Zv L.pres),Q4 QX L.mt (XO TrD.ad L.tr),Xz VG L.tr,Q4 QX L.ms (J0 L.sh),F]∧(Xx L id k=Jl L (m+1) i k)∧(H9 L.tr m i)∧(m≤Wx)) (L0:=[(0,_),(1,_),(5,_)]) (Wx+1) (Ck U U U) ⟨Wx,id,rfl,rfl,j1,rfl,hE id,Nat.le_refl _⟩ ?_)))))
 rintro _ _ w2 ⟨m,i,rfl,rfl,j2,hse,hen,hm⟩
 refine Qe (Qe (Qa (Qb U U (Xn U U U (Qf (Qc (Qu U (fun h3=> ?_) (fun h3=> ?_))))))))
 ·have hid0:i≠0:=h3
  refine Qt (Qc (Qz (Qe (Qa (Qb U U (Qi U U (Qg U Wh U (Qn U JM (by first | assumption | exact j2.cell 0 U U | exact j2.cell 1 U U) U ?_))))))))
  refine Qb U U (XA (k:=i) 3 j2 keysInt underlying106 U U U Y9 (u:=(ptO TrD.ad (L.tr i))) (UE _) U (Qd U U (Qf (Qc (Qh [5,1,0,7] U (Qe (Qe (Qa (Qb U U ?_)))))))))
  rcases hq_T:L.tr i with _ | t
  ·exact Ym underlying104 U U U (Qf (Qc (X3 U (Qe (Qa (Qd U U (Qf (Qc (Qv (Qq (Q0 (Qq (Q0 (Qq (QM (.inr U) U U (⟨_,rfl, by rw[hse,BT hid0 hq_T],Xw (j2.pick [1,2,3,4,5,6] U)⟩))))))))))))))))
  refine XQ underlying104 U U U ?_
  have j4:=ZI (j2.pick [4,0,1,2,3,5,6] U) hq_T
  refine Qf (Qc (QW U (Qt (Qc (Qe (Qe ?_))))))
  have j5:=j4.drew
  refine Q6 [0,1,2,3,4,5,6] [] ZF (by kernel_rfl) ?_
  refine Q9 U U U (QQ U U U (QI U U U ZC (Q1 U U U (Ql U W6 (by first | assumption | exact j5.cell 0 U U | exact j5.cell 5 U U | exact j5.cell 6 U U)) ?_)))
  refine Q1 U U U (Xp U Xt QZ (by first | exact j5.blk 0 U | exact j5.blk 5 U | exact j5.blk 6 U) (by first | decide | exact Q5 U | (simp;done) | omega) U) ?_
  refine Q1 U U U (Xj (k:=k) 1 j5 keysKey underlying110 U U U Yf (u:=(ptO LfD.ad (t.lv k))) (UE _)) (Za U U U (VC.nil (Qc (Qh [5,1,0,7,8] U (Qe (Qa (Qb U U ?_)))))))
  rcases hq_X:t.lv k with _ | x
  ·refine Zr underlying116 U U U (Qf (Qc (QW U (Qt (Qc (Qe (Qe ?_)))))))
   have j7:=j5.drew
   refine Q6 [0,1,2,3,4,5,6] [] ZF (by kernel_rfl) ?_
   refine Q9 U U U (QQ U U U (QI U U U Us (Q1 U U U (Ql U Rq (by first | assumption | exact j7.cell 0 U U | exact j7.cell 5 U U | exact j7.cell 6 U U)) ?_)))
   refine QI U U U JJ (Q1 U U U (Ql U JN (by first | assumption | exact j7.cell 0 U U | exact j7.cell 5 U U | exact j7.cell 6 U U)) ?_)
   refine Q1 U U U (Xj (k:=k.1) 3 j7 keysStr underlying111 U U U zr_4 (u:= .bool (t.dr k.1)) (M0 _ _)) (VC.nil (Qc (Qh [5,1,0,7,37] U (QP U (fun h8=> ?_) (fun h8=> ?_)))))
   ·have hdr:t.dr k.1=true:=h8
    refine Qe (Qa (Qd U U (Qf (Qc (Qv (Qq (Q0 (Qq (Q0 (Qq (QM (.inr U) U U ?_)))))))))))
    have j9:=ZJ hq_T (j7.pick [0,1,2,3,4,5,6,7,8,9,10] U)
    exact⟨_,rfl, by rw[hse,BV hid0 hq_T hq_X hdr],Xw (j9.pick [2,3,4,0,5,6] U)⟩
   have hdr:t.dr k.1=false:=h8
   refine Qt (Qc (Qa (Qb U U (Qi U U (Qg U Jo U (Qn U QO (by first | assumption | exact j7.cell 0 U U | exact j7.cell 5 U U | exact j7.cell 6 U U) U ?_))))))
   refine Qd U U (Qf (Qo ?_))
   have j10:=ZJ hq_T (j7.pick [0,1,2,3,4,5,6,7,8,9,10] U)
   obtain⟨m2,hm2,hen2⟩:=NV hen hid0 hq_T
   exact Q8 (L1:=[(0,_),(1,intV t.parent),(5,_)]) (Ck U U U) (k1:=m2+1) (by omega) ⟨m2,t.parent,rfl,rfl,j10.pick [1,2,3,4,0,5,6] U, by rw[hse,hm2,Nz hid0 hq_T hq_X hdr],hen2, by omega⟩
  refine Zy underlying116 U U U ?_
  have j6:=YJ (j5.pick [2,0,1,3,4,5,6,7,8,9,10] U) hq_X
  refine Qf (Qc (X3 U (Qe (Qa (Qb U U (Qi U U (Qg U Wu U (Qn U QO (by first | assumption | exact j6.cell 0 U U | exact j6.cell 2 U U | exact j6.cell 6 U U | exact j6.cell 7 U U) U ?_))))))))
  refine Qd U U (Qf (Qc (Qh [5,1,0,7,6] U (Qv (Qq (Q0 (Qq (Q0 (Qq (QM (.inr U) U U ?_))))))))))
  have j11:=ZK hq_X (j6.pick [0,1,2,3,4,5,6,7,8,9,10,11] U)
  have j12:=ZJ hq_T (j11.pick [1,2,0,3,4,5,6,7,8,9,10] U)
  exact⟨_,rfl, by rw[hse,UC hid0 hq_T hq_X],Xw (j12.pick [2,3,4,0,5,6] U)⟩
 have hid0:i=0:=Decidable.not_not.1 h3
 refine Xc (Qs (Qs (Q3 (Qc (Qe ?_)))))
 have j13:=j2.drew
 refine Q6 [0,1,2,3,4,5,6] [] ZF (by kernel_rfl) ?_
 refine Q9 U U U (QQ U U U (QI U U U Hx (Q1 U U U (Ql U VE (by first | assumption | exact j13.cell 0 U U | exact j13.cell 1 U U)) ?_)))
 refine Q1 U U U (Xp U Xt QZ (by first | exact j13.blk 0 U | exact j13.blk 1 U) (by first | decide | exact Q5 U | (simp;done) | omega) U) ?_
 exact Q1 U U U (Xj (k:=k) 2 j13 keysKey underlying105 U U U YR (u:=intV (L.pres k)) (Rb _ _)) (Za U U U (VC.nil (Qc (Qh [6] U (Qv (QM (.inr U) U U (⟨_,rfl, by rw[hse,KX hid0],Xw (j13.pick [1,2,3,4,5,6] U)⟩)))))))
theorem N1 {w:World} {b sp mp mt ms n Fr:Nat} {cu:Int} {f:Int→Bool} {V:VS} {F:Th} (hS:Sat w [QC b [ptrV sp 0,.map (some mp),.map (some mt),intV cu,.map (some ms)],Q4 QX ms (J0 f),ZR sp n Fr V,F]) (hn:n≤80000000000) (s:Int):
    Calls prog 63 #[ptrV b 0,intV s] w (Ret fun v w'=>v= .tuple #[]∧Sat w' [QC b [ptrV sp 0,.map (some mp),.map (some mt),intV cu,.map (some ms)],Q4 QX ms (J0 (Yi f s)),ZR sp (n+1) Fr (refW V s),F]):= by
 refine Qm func63 U ntmps63 U ?_
 refine Qe (Qa (Qb U U (Xn U U U (Qf (Qc (Qu U (fun h1=> ?_) (fun h1=> ?_)))))))
 ·refine Qe (Qa (Qb U U (Qi U U (Qg U Zo U (Qn U Xy (by first | assumption | exact hS.cell 0 U U) U ?_)))))
  refine Qb U U (Qy cal_103 U (stRef (hS.sp [2] U) (by omega) s) U ?_)
  rintro _ w2 ⟨e0,rfl,j2⟩
  replace j2:=j2.jn U U
  refine Qf (Qc (Qa (Qb U U (Qi U U (Qg U Ty U (Qn U Er (by first | assumption | exact j2.cell 1 U U) U ?_))))))
  refine Qb U U (QY (k:=s) (v:= .bool true) 2 j2 keysInt underlying107 U U U U ?_)
  intro w3 j3; dsimp only[List.set]at j3; rw[Mz]at j3
  refine Qf (ZT (.inl U) U ?_)
  exact⟨_,rfl,rfl, by unfold Yi refW; rw[if_neg (by assumption),if_neg (by assumption)]; exact j3.pick [1,2,0,3] U⟩
 refine Qt (ZT (.inl U) U ?_)
 exact⟨_,rfl,rfl, by unfold Yi refW; rw[if_pos (Decidable.not_not.1 (by assumption)),if_pos (Decidable.not_not.1 (by assumption))]; exact((XC (m:=n+1) (by omega) (hS.pick [2,0,1,3] U)).reorder [1,2,0,3] U)⟩
theorem HF {w:World} {b sp mp mt ms n Fr:Nat} {cu:Int} {f:Int→Bool} {V:VS} {F:Th} (hS:Sat w [QC b [ptrV sp 0,.map (some mp),.map (some mt),intV cu,.map (some ms)],Q4 QX ms (J0 f),ZR sp n Fr V,F]) (hn:n≤80000000000) (s:Int):
    Calls prog 104 #[ptrV b 0,intV s] w (Ret fun v w'=>v= .tuple #[]∧Sat w' [QC b [ptrV sp 0,.map (some mp),.map (some mt),intV cu,.map (some ms)],Q4 QX ms (J0 (YD V f s)),ZR sp (n+1) Fr (Zz V s),F]):= by
 refine Qm func104 U ntmps104 U ?_
 refine Qe (Qa (Qb U U (Qi U U (Qg U Zo U (Qn U Xy (by first | assumption | exact hS.cell 0 U U) U ?_)))))
 refine Qb U U (Qy Na U (DE (hS.sp [2] U) (by omega) s) U ?_)
 rintro _ w1 ⟨e0,rfl,j1⟩
 replace j1:=j1.jn U U
 refine Qf (Qc (Qe (Qa (Qb U U (Qi U U (Qg U Zo U (Qn U Xy (by first | assumption | exact j1.cell 1 U U) U ?_)))))))
 refine Qb U U (Qy Pm U (Fb (j1.sp [0] U) s) U ?_)
 rintro _ w2 ⟨rfl,j2⟩
 replace j2:=j2.jn U U
 refine J1 U U U (Qf (Qc (Qh [1,0,16] U (Qu U (fun h3=> ?_) (fun h3=> ?_)))))
 ·refine Qa (Qb U U (Qi U U (Qg U Ty U (Qn U Er (by first | assumption | exact j2.cell 1 U U) U ?_))))
  refine Qb U U (QY (k:=s) (v:= .bool true) 2 j2 keysInt underlying107 U U U U ?_)
  intro w4 j4; dsimp only[List.set]at j4; rw[Mz]at j4
  refine Qf (ZT (.inl U) U ?_)
  exact⟨_,rfl,rfl, by unfold YD; rw[if_pos (by omega)]; exact j4.pick [1,2,0,3] U⟩
 refine Qt (ZT (.inl U) U ?_)
 exact⟨_,rfl,rfl, by unfold YD; rw[if_neg (by omega)]; exact j2.pick [1,2,0,3] U⟩
theorem hold_p {w:World} {b sp mp mt ms n Fr:Nat} {a:Nat} {v0 v2 v3:Value} {cu old:Int} {f:Int→Bool} {V:VS} {F:Th} (hS:Sat w [QC b [ptrV sp 0,.map (some mp),.map (some mt),intV cu,.map (some ms)],Q4 QX ms (J0 f),ZR sp n Fr V,QC a [v0,intV old,v2,v3],F]) (hn:n≤70000000000) (s:Int):
    Calls prog 102 #[ptrV b 0,ptrV a 1,intV s] w (Ret fun v w'=>v= .tuple #[]∧Sat w' [QC b [ptrV sp 0,.map (some mp),.map (some mt),intV cu,.map (some ms)],Q4 QX ms (J0 (YD (refW V s) (Yi f s) old)),ZR sp (n+2) Fr (Zz (refW V s) old),QC a [v0,intV s,v2,v3],F]):= by
 refine Qm func102 U ntmps102 U ?_
 refine Qe (Qa (Qb U U (Qb U U (Qy Mn U (N1 (hS.sp [0,1,2] U) (by omega) s) U ?_))))
 rintro _ w1 ⟨rfl,j1⟩
 replace j1:=j1.jn U U
 refine Qf (Qc (Qe (Qa (Qb U U (Qb U U (Qi U U (Qn U QO (by first | assumption | exact j1.cell 0 U U | exact j1.cell 3 U U) U ?_)))))))
 refine Qy HS U (HF (j1.sp [0,1,2] U) (by omega) old) U ?_
 rintro _ w2 ⟨rfl,j2⟩
 replace j2:=j2.jn U U
 refine Qf (Qc (Qh [2,1] U (Qa (Qb U U (Qb U U (Qi U U ?_))))))
 first | (refine Qx j2 U U WI (by first | rfl | assumption) (i:=0) U (by first | decide | exact Q5 U | (simp;done) | omega) ?_) | (refine Qx j2 U U WI (by first | rfl | assumption) (i:=3) U (by first | decide | exact Q5 U | (simp;done) | omega) ?_)
 intro w3 j4; dsimp only[List.set]at j4
 exact Qf (ZT (.inl U) U (⟨_,U,U,j4.pick [0,1,2,3,4] U⟩))
theorem set_p {w:World} {b sp mp mt ms n Fr:Nat} {cu:Int} {pr:KD→Int} {f:Int→Bool} {V:VS} {F:Th} (hS:Sat w [QC b [ptrV sp 0,.map (some mp),.map (some mt),intV cu,.map (some ms)],Q4 Xr mp (Zv pr),Q4 QX ms (J0 f),ZR sp n Fr V,F]) (hn:n≤70000000000) (k:KD) (s:Int):
    Calls prog 101 #[ptrV b 0,Xr k,intV s] w (Ret fun v w'=>v= .tuple #[]∧Sat w' [QC b [ptrV sp 0,.map (some mp),.map (some mt),intV cu,.map (some ms)],Q4 Xr mp (Zv (We pr k s)),Q4 QX ms (J0 (YD V f (pr k))),ZR sp (n+1) Fr (Zz V (pr k)),F]):= by
 refine Qm func101 U ntmps101 U ?_
 refine Qe (Qa (XV hS U U U ?_))
 intro kb w1 j1
 refine Qf (Qc (Qe ?_))
 have j2:=j1.drew
 refine Q6 [0,1,2,3,4,5,6,7] [7] ZF (by kernel_rfl) ?_
 refine Q9 U U U (Q9 U U U (QQ U U U (QI U U U Hx (Q1 U U U (Ql U VE (by first | assumption | exact j2.cell 0 U U | exact j2.cell 1 U U)) ?_))))
 refine Q1 U U U (Xp U Xt QZ (by first | exact j2.blk 0 U | exact j2.blk 1 U) (by first | decide | exact Q5 U | (simp;done) | omega) U) ?_
 refine Q1 U U U (Xj (k:=k) 2 j2 keysKey underlying105 U U U YR (u:=intV (pr k)) (Rb _ _)) (Xa U U U U U U ?_)
 refine Qy HS U (HF (j2.sp [1,3,4] U) (by omega) (pr k)) U ?_
 rintro _ w3 ⟨rfl,j3⟩
 replace j3:=j3.jn U U
 refine X5 (Xf (by kernel_rfl)) ?_
 refine VC.nil (Qc (Qh [2,0,4] U (Qe ?_)))
 have j4:=j3.drew
 refine Q6 [0,1,2,3,4,5,6] [6] ZF (by kernel_rfl) ?_
 refine Q9 U U U (QQ U U U (QI U U U Hx (Q1 U U U (Ql U VE (by first | assumption | exact j4.cell 0 U U | exact j4.cell 3 U U)) ?_)))
 refine Q1 U U U (Xp U Xt QZ (by first | exact j4.blk 0 U | exact j4.blk 3 U) (by first | decide | exact Q5 U | (simp;done) | omega) U) ?_
 refine Q9 U U U (Xa U U U U U U ?_)
 refine QY (k:=k) (v:=intV s) 4 j4 keysKey underlying105 U U U U ?_
 intro w5 j5; dsimp only[List.set]at j5
 refine XS (Xf (by kernel_rfl)) ?_
 refine VC.nil (Qc (Qe (Qa (Qb U U (Xl U U U (Qf (Qc (Qh [0,4,21] U (Qu U (fun h6=> ?_) (fun h6=> ?_))))))))))
 ·have j7:=j5.drew
  refine Q6 [0,1,2,3,4,5] [5] ZF (by kernel_rfl) ?_
  refine Q9 U U U (QQ U U U (QI U U U Hx (Q1 U U U (Ql U VE (by first | assumption | exact j7.cell 0 U U | exact j7.cell 3 U U)) ?_)))
  refine Q1 U U U (Xp U Xt QZ (by first | exact j7.blk 0 U | exact j7.blk 3 U) (by first | decide | exact Q5 U | (simp;done) | omega) U) ?_
  refine Xa U U U U U U ?_
  refine WW (k:=k) 4 j7 keysKey underlying105 U U U U ?_
  intro w8 j8; dsimp only[List.set]at j8
  refine XS (Xf (by kernel_rfl)) ?_
  refine VC.nil (ZT (.inl U) U ?_)
  have hz:=j8.pick [0,4,1,2,5] U
  rw[PS]at hz
  exact⟨_,rfl,rfl, by rw[show s=0 from(by assumption)]; exact hz⟩
 refine Qt (ZT (.inl U) U ?_)
 have hz:=j5.pick [0,4,1,2,5] U
 rw[PQ (by assumption)]at hz
 exact⟨_,U,U,hz⟩
end Go.Proofs.YtkgjmhcdacidoaaGreatDoor
namespace Go.Proofs.YtkgjmhcdacidoaaGreatDoor
open Go.RowKit M Proofs.Tryz
theorem YP:Zx prog 24=some false:= by kernel_rfl
theorem ag_43:Zx prog 43=some true:= by kernel_rfl
theorem Em:Zx prog 56=some true:= by kernel_rfl
theorem WT:Zx prog 58=some false:= by kernel_rfl
theorem D3:Zx prog 59=some false:= by kernel_rfl
theorem D0:Zx prog 60=some false:= by kernel_rfl
theorem Hg:Zx prog 88=some false:= by kernel_rfl
theorem K9:Zx prog 89=some false:= by kernel_rfl
theorem ag_94:Zx prog 94=some true:= by kernel_rfl
theorem U0:Zx prog 95=some false:= by kernel_rfl
theorem Pt:Zx prog 96=some false:= by kernel_rfl
theorem asz_43:Jg prog 43=true:= by kernel_rfl
theorem Ej:Jg prog 56=true:= by kernel_rfl
theorem asz_62:Jg prog 62=true:= by kernel_rfl
theorem asz_64:Jg prog 64=true:= by kernel_rfl
theorem asz_91:Jg prog 91=true:= by kernel_rfl
theorem asz_94:Jg prog 94=true:= by kernel_rfl
theorem asz_99:Jg prog 99=true:= by kernel_rfl
theorem cal_5:Q7 prog 5=true:= by kernel_rfl
theorem cal_6:Q7 prog 6=true:= by kernel_rfl
theorem cal_7:Q7 prog 7=true:= by kernel_rfl
theorem cal_8:Q7 prog 8=true:= by kernel_rfl
theorem NZ:Q7 prog 9=true:= by kernel_rfl
theorem Bp:Q7 prog 10=true:= by kernel_rfl
theorem Eb:Q7 prog 11=true:= by kernel_rfl
theorem HR:Q7 prog 12=true:= by kernel_rfl
theorem Rm:Q7 prog 13=true:= by kernel_rfl
theorem Ms:Q7 prog 14=true:= by kernel_rfl
theorem Ea:Q7 prog 15=true:= by kernel_rfl
theorem Mr:Q7 prog 16=true:= by kernel_rfl
theorem cal_17:Q7 prog 17=true:= by kernel_rfl
theorem cal_19:Q7 prog 19=true:= by kernel_rfl
theorem LZ:Q7 prog 22=true:= by kernel_rfl
theorem cal_23:Q7 prog 23=true:= by kernel_rfl
theorem Nj:Q7 prog 24=true:= by kernel_rfl
theorem LY:Q7 prog 25=true:= by kernel_rfl
theorem cal_26:Q7 prog 26=true:= by kernel_rfl
theorem cal_27:Q7 prog 27=true:= by kernel_rfl
theorem cal_28:Q7 prog 28=true:= by kernel_rfl
theorem LX:Q7 prog 29=true:= by kernel_rfl
theorem LW:Q7 prog 30=true:= by kernel_rfl
theorem cal_31:Q7 prog 31=true:= by kernel_rfl
theorem cal_32:Q7 prog 32=true:= by kernel_rfl
theorem cal_34:Q7 prog 34=true:= by kernel_rfl
theorem cal_37:Q7 prog 37=true:= by kernel_rfl
theorem cal_38:Q7 prog 38=true:= by kernel_rfl
theorem cal_39:Q7 prog 39=true:= by kernel_rfl
theorem cal_40:Q7 prog 40=true:= by kernel_rfl
theorem cal_41:Q7 prog 41=true:= by kernel_rfl
theorem cal_45:Q7 prog 45=true:= by kernel_rfl
theorem cal_46:Q7 prog 46=true:= by kernel_rfl
theorem cal_47:Q7 prog 47=true:= by kernel_rfl
theorem cal_48:Q7 prog 48=true:= by kernel_rfl
theorem cal_49:Q7 prog 49=true:= by kernel_rfl
theorem Ni:Q7 prog 50=true:= by kernel_rfl
theorem cal_53:Q7 prog 53=true:= by kernel_rfl
theorem cal_66:Q7 prog 66=true:= by kernel_rfl
theorem LU:Q7 prog 68=true:= by kernel_rfl
theorem cal_69:Q7 prog 69=true:= by kernel_rfl
theorem cal_72:Q7 prog 72=true:= by kernel_rfl
theorem LS:Q7 prog 80=true:= by kernel_rfl
theorem cal_84:Q7 prog 84=true:= by kernel_rfl
theorem cal_105:Q7 prog 105=true:= by kernel_rfl
theorem cal_106:Q7 prog 106=true:= by kernel_rfl
theorem es_40:JL prog 40=some 4:= by kernel_rfl
theorem es_96:JL prog 96=some 4:= by kernel_rfl
theorem Gd:QT prog 43 0=some 0:= by kernel_rfl
theorem HO:QT prog 43 1=some 1:= by kernel_rfl
theorem NQ:QT prog 43 2=some 2:= by kernel_rfl
theorem NP:QT prog 43 3=some 3:= by kernel_rfl
theorem Hb:QT prog 56 0=some 0:= by kernel_rfl
theorem UM:QT prog 56 1=some 4:= by kernel_rfl
theorem HN:QT prog 56 2=some 5:= by kernel_rfl
theorem fo_56_3:QT prog 56 3=some 6:= by kernel_rfl
theorem ZW:QT prog 62 0=some 0:= by kernel_rfl
theorem UL:QT prog 62 1=some 1:= by kernel_rfl
theorem UK:QT prog 62 2=some 2:= by kernel_rfl
theorem Gc:QT prog 62 3=some 3:= by kernel_rfl
theorem Jr:QT prog 64 0=some 0:= by kernel_rfl
theorem Jb:QT prog 64 1=some 1:= by kernel_rfl
theorem YZ:QT prog 91 0=some 0:= by kernel_rfl
theorem NL:QT prog 94 0=some 0:= by kernel_rfl
theorem NK:QT prog 94 1=some 1:= by kernel_rfl
theorem NJ:QT prog 94 2=some 2:= by kernel_rfl
theorem JE:QT prog 99 0=some 0:= by kernel_rfl
theorem Kk:QT prog 99 1=some 1:= by kernel_rfl
theorem UJ:QT prog 99 2=some 2:= by kernel_rfl
theorem fo_99_3:QT prog 99 3=some 3:= by kernel_rfl
theorem Ga:QT prog 99 4=some 4:= by kernel_rfl
theorem RZ:QT prog 99 5=some 5:= by kernel_rfl
theorem fv_56_0:Hj prog 56 0=some (0,some 4):= by kernel_rfl
theorem fv_56_2:Hj prog 56 2=some (5,none):= by kernel_rfl
theorem ifo_43:(prog.info? 43).map (fun i=>(i.zero,i.size,i.bytes))=some (some (.agg #[(.int .i64 0),(.int .i64 0),(.int .i64 0),(.int .i64 0)]),4,32):= by kernel_rfl
theorem ifo_94:(prog.info? 94).map (fun i=>(i.zero,i.size,i.bytes))=some (some (.agg #[(.int .i64 0),(.string ⟨#[]⟩),(.string ⟨#[]⟩),(.slice none 0 0)]),4,64):= by kernel_rfl
theorem ifz_43:(prog.info? 43).map (fun i=>(i.zero,i.size))=some (some (.agg #[(.int .i64 0),(.int .i64 0),(.int .i64 0),(.int .i64 0)]),4):= by kernel_rfl
theorem ifz_94:(prog.info? 94).map (fun i=>(i.zero,i.size))=some (some (.agg #[(.int .i64 0),(.string ⟨#[]⟩),(.string ⟨#[]⟩),(.slice none 0 0)]),4):= by kernel_rfl
theorem B8:XJ prog 43 [0,1,2,3]=some [(0,1),(1,1),(2,1),(3,1)]:= by kernel_rfl
theorem pl_56_:XJ prog 56 []=some []:= by kernel_rfl
theorem pl_56_0:XJ prog 56 [0]=some [(0,4)]:= by kernel_rfl
theorem MX:XJ prog 62 [0,1,2]=some [(0,1),(1,1),(2,1)]:= by kernel_rfl
theorem PT:XJ prog 64 [0,1]=some [(0,1),(1,1)]:= by kernel_rfl
theorem pl_91_0:XJ prog 91 [0]=some [(0,1)]:= by kernel_rfl
theorem MW:XJ prog 94 [0,1,2]=some [(0,1),(1,1),(2,1)]:= by kernel_rfl
theorem RD:XJ prog 99 [0,2,3,5,6]=some [(0,1),(2,1),(3,1),(5,1),(6,1)]:= by kernel_rfl
theorem SV:ZL prog 43=some 4:= by kernel_rfl
theorem HY:ZL prog 56=some 7:= by kernel_rfl
theorem sz_88:ZL prog 88=some 1:= by kernel_rfl
theorem sz_94:ZL prog 94=some 4:= by kernel_rfl
theorem sz_96:ZL prog 96=some 1:= by kernel_rfl
theorem B0:XF prog 9=some (some (.string ⟨#[]⟩)):= by kernel_rfl
theorem zr_43:XF prog 43=some (some (.agg #[(.int .i64 0),(.int .i64 0),(.int .i64 0),(.int .i64 0)])):= by kernel_rfl
theorem Wy:XF prog 56=some (some (.agg #[(.int .i64 0),(.int .i64 0),(.int .i64 0),(.int .i64 0),(.int .i64 0),(.bool false),(.bool false)])):= by kernel_rfl
theorem zr_62:XF prog 62=some (some (.agg #[(.map none),(.pointer none),(.pointer none),(.int .i64 0)])):= by kernel_rfl
theorem zr_64:XF prog 64=some (some (.agg #[(.pointer none),(.int .i64 0)])):= by kernel_rfl
theorem Gn:XF prog 88=some (some (.pointer none)):= by kernel_rfl
theorem zr_91:XF prog 91=some (some (.agg #[(.map none)])):= by kernel_rfl
theorem zr_94:XF prog 94=some (some (.agg #[(.int .i64 0),(.string ⟨#[]⟩),(.string ⟨#[]⟩),(.slice none 0 0)])):= by kernel_rfl
theorem zr_99:XF prog 99=some (some (.agg #[(.pointer none),(.int .i64 0),(.map none),(.map none),(.slice none 0 0),(.map none),(.map none)])):= by kernel_rfl
structure NodeD where
  id:Int
  par:Int
  dep:Int
  gue:Int
  el:Int
  timed:Bool
  short:Bool
abbrev Nodes:=Int→Option NodeD
structure TrI (T:Nodes) (last:Int):Prop where
  root: ∃n,T 0=some n∧n.id=0∧n.par=0∧n.dep=0
  own: ∀{i n},T i=some n→n.id=i
  pos: ∀{i n},T i=some n→i≠0→1≤i∧i≤last
  par: ∀{i n},T i=some n→i≠0→n.par<i∧0≤n.par∧ ∃p,T n.par=some p∧n.dep=p.dep+1
  last0:0≤last
inductive Blw (T:Nodes) (who:Int):Int→Prop
  | self:Blw T who who
  | up {j:Int} {n:NodeD}:T j=some n→j≠0→Blw T who n.par→Blw T who j
open Classical in
noncomputable def abS (T:Nodes) (D:Int→Prop):Nodes:= fun j=> if ∃d,D d∧Blw T d j then none else T j
theorem M6 {T:Nodes} {D:Int→Prop} {j:Int} (h: ∃d,D d∧Blw T d j):abS T D j=none:=if_pos h
theorem Rr {T:Nodes} {D:Int→Prop} {j:Int} (h: ¬ ∃d,D d∧Blw T d j):abS T D j=T j:=if_neg h
theorem U2 {T:Nodes} {D:Int→Prop} {j:Int} {n:NodeD} (h:abS T D j=some n):(¬ ∃d,D d∧Blw T d j)∧T j=some n:= by
  unfold abS at h
  split at h
  · cases h
  · exact⟨by assumption,h⟩
theorem Eu {T:Nodes}:abS T (fun _=>False)=T:= by
  funext j
  exact Rr fun ⟨_,h,_⟩=>h
theorem Blw.sub {T T':Nodes} {who j:Int} (hs: ∀i n,T' i=some n→T i=some n) (h:Blw T' who j):Blw T who j:= by
  induction h with
  | self=> exact .self
  | up a b _ ih=> exact .up (hs _ _ a) b ih
theorem Blw.keep {T:Nodes} {D:Int→Prop} {who j:Int} (h:Blw T who j) (hj: ¬ ∃d,D d∧Blw T d j):Blw (abS T D) who j:= by
  induction h with
  | self=> exact .self
  | up a b _ ih=> exact .up (by rw[Rr hj]; exact a) b (ih fun ⟨d,h1,h2⟩=>hj ⟨d,h1,.up a b h2⟩)
theorem TrI.abS {T:Nodes} {last:Int} {D:Int→Prop} (h:TrI T last) (hD: ¬D 0):TrI (abS T D) last where
  root:= by
    obtain⟨n,a,b⟩:=h.root
    refine⟨n,(Rr ?_).trans a,b⟩
    rintro⟨d,hd,q⟩
    cases q with
    | self=> exact hD hd
    | up _ e _=> exact e rfl
  own:= fun q=>h.own (U2 q).2
  pos:= fun q=>h.pos (U2 q).2
  par:= fun {i n} q hi=> by
    obtain⟨q1,q2⟩:=U2 q
    obtain⟨a,b,p,c,d⟩:=h.par q2 hi
    exact⟨a,b,p,(Rr fun ⟨e,e1,e2⟩=>q1 ⟨e,e1,.up q2 hi e2⟩).trans c,d⟩
  last0:=h.last0
theorem Blw.trans {T:Nodes} {a c j:Int} (h:Blw T c j) (h2:Blw T a c):Blw T a j:= by
  induction h with
  | self=> exact h2
  | up x y _ ih=> exact .up x y ih
def ChildOf (T:Nodes) (id j:Int):Prop:= ∃n,T j=some n∧j≠0∧n.par=id
theorem TX {T:Nodes} {id j:Int} (h:Blw T id j):j=id∨ ∃c,ChildOf T id c∧Blw T c j:= by
  induction h with
  | self=> exact .inl rfl
  | @up j n x y _ ih=>
    rcases ih with e | ⟨c,a,b⟩
    · exact .inr ⟨j,⟨n,x,y,e⟩,.self⟩
    · exact .inr ⟨c,a,.up x y b⟩
theorem ChildOf.below {T:Nodes} {id j:Int} (h:ChildOf T id j):Blw T id j:= by
  obtain⟨n,a,b,c⟩:=h
  exact .up a b (by rw[c]; exact .self)
theorem Et {T:Nodes} {id:Int}:QK (abS T (ChildOf T id)) id none=abS T (fun j=>j=id):= by
  funext j
  by_cases e:j=id
  · subst e; rw[Qr,M6 (D:= fun x=>x=j) ⟨j,rfl,.self⟩]
  · rw[Qw e]
    by_cases h:Blw T id j
    · rw[M6 (D:= fun j=>j=id) ⟨id,rfl,h⟩,M6]
      rcases TX h with q | ⟨c,a,b⟩
      · exact absurd q e
      · exact⟨c,a,b⟩
    · rw[Rr (D:= fun j=>j=id) (fun ⟨d,a,b⟩=> by subst a; exact h b),Rr]
      rintro⟨c,a,b⟩
      exact h (b.trans a.below)
theorem SF {T:Nodes} {D D':Int→Prop} (h: ∀j,D j↔D' j):abS T D=abS T D':= by
  rw[show D=D' from funext fun j=>propext (h j)]
theorem TrI.begin {T:Nodes} {last who n:Int} {p:NodeD} (h:TrI T last) (hp:T who=some p):TrI (QK T (last+1) (some ⟨last+1,who,p.dep+1,n,0,false,false⟩)) (last+1) where
  root:= by
    obtain⟨r,a,b⟩:=h.root
    exact⟨r, by rw[Qw (by have :=h.last0;omega)]; exact a,b⟩
  own:= fun {i x} q=> by
    by_cases e:i=last+1
    · subst e; rw[Qr]at q; cases q;rfl
    · rw[Qw e]at q; exact h.own q
  pos:= fun {i x} q hi=> by
    by_cases e:i=last+1
    · have :=h.last0;omega
    · rw[Qw e]at q; have :=h.pos q hi;omega
  par:= fun {i x} q hi=> by
    by_cases e:i=last+1
    · subst e; rw[Qr]at q; cases q
      by_cases e0:who=0
      · subst e0
        exact⟨by have :=h.last0; show(0:Int)<_;omega,Int.le_refl _,p, by show QK T (last+1) _ (0:Int)=_; rw[Qw (by have :=h.last0;omega)]; exact hp,rfl⟩
      · have :=h.pos hp e0
        exact⟨by show who<_;omega, by show 0≤who;omega,p, by show QK T (last+1) _ who=_; rw[Qw (by omega)]; exact hp,rfl⟩
    · rw[Qw e]at q
      obtain⟨a,b,r,c,d⟩:=h.par q hi
      have :=h.pos q hi
      exact⟨a,b,r, by rw[Qw (by omega)]; exact c,d⟩
  last0:= by have :=h.last0;omega
def IdsOf (T:Nodes) (ids:List Int):Prop:=ids.Pairwise (· < ·)∧ ∀i,i∈ids↔i≠0∧T i≠none
theorem M4: ∀{l m:List Int},l.Pairwise (· < ·)→m.Pairwise (· < ·)→(∀i,i∈l↔i∈m)→l=m
  | [],[],_,_,_=>rfl
  | [],a::m,_,_,h=>absurd ((h a).2 List.mem_cons_self) (by simp)
  | a::l,[],_,_,h=>absurd ((h a).1 List.mem_cons_self) (by simp)
  | a::l,b::m,hl,hm,h=> by
    obtain⟨h1,h2⟩:=List.pairwise_cons.1 hl
    obtain⟨h3,h4⟩:=List.pairwise_cons.1 hm
    have e:a=b:= by
      rcases List.mem_cons.1 ((h a).1 List.mem_cons_self)with e | e
      · exact e
      · rcases List.mem_cons.1 ((h b).2 List.mem_cons_self)with e2 | e2
        · exact e2.symm
        · have :=h1 b e2; have :=h3 a e;omega
    subst e
    rw[M4 h2 h4 fun i=> ?_]
    constructor
    · intro hi
      rcases List.mem_cons.1 ((h i).1 (List.mem_cons_of_mem _ hi))with e | e
      · subst e; have :=h1 i hi;omega
      · exact e
    · intro hi
      rcases List.mem_cons.1 ((h i).2 (List.mem_cons_of_mem _ hi))with e | e
      · subst e; have :=h3 i hi;omega
      · exact e
theorem IdsOf.uniq {T:Nodes} {l m:List Int} (h:IdsOf T l) (h2:IdsOf T m):l=m:=M4 h.1 h2.1 fun i=>(h.2 i).trans (h2.2 i).symm
theorem IdsOf.get {T:Nodes} {ids:List Int} (h:IdsOf T ids) {k:Nat} {i:Int} (hk:ids[k]? =some i):i≠0∧ ∃n,T i=some n:= by
  obtain⟨a,b⟩:=(h.2 i).1 (List.mem_of_getElem? hk)
  exact⟨a,Option.ne_none_iff_exists'.1 b⟩
theorem IdsOf.begin {T:Nodes} {ids:List Int} {last:Int} {x:NodeD} (hI:TrI T last) (h:IdsOf T ids):IdsOf (QK T (last+1) (some x)) (ids++[last+1]):= by
  refine⟨List.pairwise_append.2 ⟨h.1,List.pairwise_singleton _ _, fun a ha c hc=> ?_⟩, fun i=> ?_⟩
  · obtain⟨a0,a1⟩:=(h.2 a).1 ha
    obtain⟨n,hn⟩:=Option.ne_none_iff_exists'.1 a1
    have :=hI.pos hn a0
    rw[List.mem_singleton]at hc
    omega
  · rw[List.mem_append,List.mem_singleton,h.2]
    have h0:=hI.last0
    by_cases e:i=last+1
    · subst e
      rw[Qr]
      exact⟨fun _=>⟨by omega, by simp⟩, fun _=> .inr U⟩
    · rw[Qw e]
      exact⟨fun q=>q.resolve_right e,.inl⟩
theorem Cc {T:Nodes} {id:Int} (h: ∀j,¬ChildOf T id j):abS T (fun j=>j=id)=QK T id none:= by
  rw[←Et]
  congr 1
  have e:abS T (ChildOf T id)=abS T (fun _=>False):=SF fun j=>⟨fun q=>h j q, fun q=>q.elim⟩
  rw[e,Eu]
def YK (T:Nodes) (ids:List Int) (who:Int):List Int:=ids.filter fun i=> match T i with | none=>false | some n=>decide (n.par=who)
theorem FZ {T:Nodes} {ids:List Int} {who:Int} (h:IdsOf T ids) (j:Int):j∈YK T ids who↔ChildOf T who j:= by
  unfold YK ChildOf
  rw[List.mem_filter,h.2]
  cases q:T j with
  | none=> simp
  | some n=> simp
theorem Ti {T:Nodes} {ids:List Int} {who:Int} (h:IdsOf T ids):YK T ids who=[]↔ ∀j,¬ChildOf T who j:= by
  rw[List.eq_nil_iff_forall_not_mem]
  exact forall_congr' fun j=>not_congr (FZ h j)
def DepI (T:Nodes):Prop:= ∀i n,T i=some n→0≤n.dep∧n.dep≤8
theorem DepI.abS {T:Nodes} {D:Int→Prop} (h:DepI T):DepI (abS T D):= fun i n q=>h i n (U2 q).2
