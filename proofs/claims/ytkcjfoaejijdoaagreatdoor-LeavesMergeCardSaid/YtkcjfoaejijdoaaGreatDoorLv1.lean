/- leaves: in plain data; there, Begin, sees, ref, unref, hold, set -/
import Derived.Test.YtkcjfoaejijdoaaGreatDoorSh13
set_option linter.unusedSectionVars false
set_option linter.unusedVariables false
set_option maxRecDepth 100000
set_option maxHeartbeats 80000000000
namespace Go.Proofs.YtkcjfoaejijdoaaGreatDoor
open Go.RowKit M Proofs.Tryz
variable [Inhabited SlW]
abbrev KD:=Bs×Int
structure LfD where
  ad:Nat
  base:Int
  own:Int
  rd:BitVec 64
  wr:BitVec 64
structure TrD where
  ad:Nat
  ml:Nat
  md:Nat
  parent:Int
  lv:KD→Option LfD
  dr:Bs→Bool
structure LvD where
  sp:Nat
  mp:Nat
  mt:Nat
  ms:Nat
  pres:KD→Int
  tr:Int→Option TrD
  cur:Int
  sh:Int→Bool
def lfV (x:LfD):List Value:=[intV x.base,intV x.own,Z5 x.rd,Z5 x.wr]
def UW (x:LfD):Th:=Q8 x.ad (lfV x)
def ZF {κ:Type} (f:κ→Bool):κ→Option Value:= fun s=> if f s=true then some (.bool true)else none
open Classical in
noncomputable def WC {κ:Type} (f:κ→Bool) (k:κ):κ→Bool:= fun j=> if j=k then true else f j
theorem Co {κ:Type} (f:κ→Bool) (k:κ):(ZF f k).getD (.bool false)= .bool (f k):= by
  unfold ZF;split
  · rename_i h; rw[h];rfl
  · rename_i h; simp at h; rw[h];rfl
theorem YT {κ:Type} (f:κ→Bool) (k:κ):upd (ZF f) k (some (.bool true))=ZF (WC f k):= by
  funext j
  by_cases h:j=k
  · subst h; rw[Ws];unfold ZF WC; simp
  · rw[Jy h];unfold ZF WC; simp [h]
theorem Gd {κ:Type}:ZF (fun _:κ=>false)= fun _=>none:= by funext k; simp [ZF]
def XN (p:KD→Int):KD→Option Value:= fun k=> if p k=0 then none else some (intV (p k))
theorem Us (p:KD→Int) (k:KD):(XN p k).getD (intV 0)=intV (p k):= by
  unfold XN;split
  · rename_i h; rw[h];rfl
  · rfl
theorem LH:XN (fun _=>0)= fun _=>none:= by funext k; simp [XN]
open Classical in
noncomputable def Z6 (p:KD→Int) (k:KD) (s:Int):KD→Int:= fun j=> if j=k then s else p j
theorem LG {p:KD→Int} {k:KD} {s:Int} (h:s≠0):upd (XN p) k (some (intV s))=XN (Z6 p k s):= by
  funext j
  by_cases e:j=k
  · subst e; rw[Ws];unfold XN Z6; simp [h]
  · rw[Jy e];unfold XN Z6; simp [e]
theorem LI {p:KD→Int} {k:KD} {v:Option Value}:upd (upd (XN p) k v) k none=XN (Z6 p k 0):= by
  funext j
  by_cases e:j=k
  · subst e; rw[Ws];unfold XN Z6; simp
  · rw[Jy e,Jy e];unfold XN Z6; simp [e]
def ptO {α:Type} (ad:α→Nat) (o:Option α):Value:= match o with | none=> .pointer none | some x=>ptrV (ad x) 0
theorem UF {κ α:Type} {ad:α→Nat} {f:κ→Option α} (k:κ):(X0 ad f k).getD (.pointer none)=ptO ad (f k):= by
  unfold X0 ptO; cases f k<;>rfl
def XW {κ α:Type} (th:α→Th) (f:κ→Option α):Th:=NX fun k=>(f k).map th
theorem NY {κ α:Type} {th:α→Th} {f:κ→Option α} {k:κ} {x:α}:Xu (fun k=>(f k).map th) k (some (th x))= fun j=>((Xu f k (some x)) j).map th:= by
  funext j
  by_cases h:j=k
  · subst h; rw[Qy,Qy];rfl
  · rw[QF h,QF h]
theorem qaf {κ α:Type} {th:α→Th} {f:κ→Option α} {k:κ}:Xu (fun k=>(f k).map th) k none= fun j=>((Xu f k none) j).map th:= by
  funext j
  by_cases h:j=k
  · subst h; rw[Qy,Qy];rfl
  · rw[QF h,QF h]
section
variable {w:World} {As:List Th}
theorem Tm {κ α:Type} {th:α→Th} {f:κ→Option α} {k:κ} {x:α} (h:Sat w (XW th f::As)) (hk:f k=some x):Sat w (th x::XW th (Xu f k none)::As):= by
  have h1:=qae (k:=k) (A:=th x) h (by show(f k).map th=_; rw[hk];rfl)
  rw[qaf]at h1
  exact h1
theorem GV {κ α:Type} {th:α→Th} {f:κ→Option α} {k:κ} {x:α} (h:Sat w (th x::XW th (Xu f k none)::As)):Sat w (XW th (Xu f k (some x))::As):= by
  have h1:=FJ (h:= fun j=>((Xu f k none) j).map th) (k:=k) h (by show((Xu f k none) k).map th=none; rw[Qy];rfl)
  rw[NY,J0]at h1
  exact h1
theorem Tn {κ α:Type} {th:α→Th} {f:κ→Option α} {k:κ} {x:α} (h:Sat w (th x::XW th (Xu f k none)::As)) (hk:f k=some x):Sat w (XW th f::As):= by
  have h1:=GV h
  rwa [WU hk]at h1
theorem Mb {κ α:Type} {th:α→Th} {f:κ→Option α} {k:κ} {x:α} (h:Sat w (th x::XW th f::As)) (hk:f k=none):Sat w (XW th (Xu f k (some x))::As):= by
  have h1:=FJ (h:= fun j=>(f j).map th) (k:=k) h (by show(f k).map th=none; rw[hk];rfl)
  rw[NY]at h1
  exact h1
theorem Ge {κ α:Type} (th:α→Th) (h:Sat w As):Sat w (XW th (fun _:κ=>none)::As):=EB h
end
def trV (t:TrD):List Value:=[intV t.parent,.map (some t.ml),.map (some t.md)]
def YW (t:TrD):Th:=starL [Q8 t.ad (trV t),Q5 Xr t.ml (X0 LfD.ad t.lv),XW UW t.lv,Q5 W8 t.md (ZF t.dr)]
def lvV (L:LvD):List Value:=[ptrV L.sp 0,.map (some L.mp),.map (some L.mt),intV L.cur,.map (some L.ms)]
def XX (b:Nat) (L:LvD):Th:=starL [Q8 b (lvV L),Q5 Xr L.mp (XN L.pres),Q5 QN L.mt (X0 TrD.ad L.tr),XW YW L.tr,Q5 QN L.ms (ZF L.sh)]
section
variable {w:World} {As:List Th}
theorem X1 {b:Nat} {L:LvD} (h:Sat w (XX b L::As)):Sat w (Q8 b [ptrV L.sp 0,.map (some L.mp),.map (some L.mt),intV L.cur,.map (some L.ms)]::Q5 Xr L.mp (XN L.pres)::Q5 QN L.mt (X0 TrD.ad L.tr)::XW YW L.tr::Q5 QN L.ms (ZF L.sh)::As):=h.flat
theorem QX {b:Nat} {L:LvD} (h:Sat w (Q8 b [ptrV L.sp 0,.map (some L.mp),.map (some L.mt),intV L.cur,.map (some L.ms)]::Q5 Xr L.mp (XN L.pres)::Q5 QN L.mt (X0 TrD.ad L.tr)::XW YW L.tr::Q5 QN L.ms (ZF L.sh)::As)):Sat w (XX b L::As):=Sat.fold (As:=[Q8 b (lvV L),Q5 Xr L.mp (XN L.pres),Q5 QN L.mt (X0 TrD.ad L.tr),XW YW L.tr,Q5 QN L.ms (ZF L.sh)]) h
theorem Z3 {T:Int→Option TrD} {i:Int} {t:TrD} (h:Sat w (XW YW T::As)) (hk:T i=some t):Sat w (Q8 t.ad [intV t.parent,.map (some t.ml),.map (some t.md)]::Q5 Xr t.ml (X0 LfD.ad t.lv)::XW UW t.lv::Q5 W8 t.md (ZF t.dr)::XW YW (Xu T i none)::As):=(Tm h hk).flat
theorem Rn {t:TrD} (h:Sat w (Q8 t.ad [intV t.parent,.map (some t.ml),.map (some t.md)]::Q5 Xr t.ml (X0 LfD.ad t.lv)::XW UW t.lv::Q5 W8 t.md (ZF t.dr)::As)):Sat w (YW t::As):=Sat.fold (As:=[Q8 t.ad (trV t),Q5 Xr t.ml (X0 LfD.ad t.lv),XW UW t.lv,Q5 W8 t.md (ZF t.dr)]) h
theorem Zw {T:Int→Option TrD} {i:Int} {t:TrD} (hk:T i=some t) (h:Sat w (Q8 t.ad [intV t.parent,.map (some t.ml),.map (some t.md)]::Q5 Xr t.ml (X0 LfD.ad t.lv)::XW UW t.lv::Q5 W8 t.md (ZF t.dr)::XW YW (Xu T i none)::As)):Sat w (XW YW T::As):=Tn (Rn h) hk
theorem Uk {T:Int→Option TrD} {i:Int} {t:TrD} (h:Sat w (Q8 t.ad [intV t.parent,.map (some t.ml),.map (some t.md)]::Q5 Xr t.ml (X0 LfD.ad t.lv)::XW UW t.lv::Q5 W8 t.md (ZF t.dr)::XW YW (Xu T i none)::As)):Sat w (XW YW (Xu T i (some t))::As):=GV (Rn h)
theorem JC {f:KD→Option LfD} {k:KD} {x:LfD} (h:Sat w (XW UW f::As)) (hk:f k=some x):Sat w (Q8 x.ad [intV x.base,intV x.own,Z5 x.rd,Z5 x.wr]::XW UW (Xu f k none)::As):=Tm h hk
theorem Wc {f:KD→Option LfD} {k:KD} {x:LfD} (hk:f k=some x) (h:Sat w (Q8 x.ad [intV x.base,intV x.own,Z5 x.rd,Z5 x.wr]::XW UW (Xu f k none)::As)):Sat w (XW UW f::As):=Tn (th:=UW) h hk
theorem Ni {f:KD→Option LfD} {k:KD} {x:LfD} (h:Sat w (Q8 x.ad [intV x.base,intV x.own,Z5 x.rd,Z5 x.wr]::XW UW (Xu f k none)::As)):Sat w (XW UW (Xu f k (some x))::As):=GV (th:=UW) h
theorem TB {f:KD→Option LfD} {k:KD} {x:LfD} (hk:f k=none) (h:Sat w (Q8 x.ad [intV x.base,intV x.own,Z5 x.rd,Z5 x.wr]::XW UW f::As)):Sat w (XW UW (Xu f k (some x))::As):=Mb (th:=UW) h hk
end
def J1 (L:LvD):Nat→Int→KD→Int
  | 0,_,_=>0
  | n+1,id,k=> if id=0 then L.pres k else match L.tr id with | none=>0 | some t=> match t.lv k with | some x=>x.own | none=> if t.dr k.1=true then 0 else J1 L n t.parent k
def YE (T:Int→Option TrD):Nat→Int→Prop
  | 0,id=>id=0
  | n+1,id=>id=0∨ match T id with | none=>True | some t=>YE T n t.parent
def Zg:Nat:=100000
def Xo (L:LvD) (id:Int) (k:KD):Int:=J1 L (Zg+1) id k
def Zk (L:LvD) (id:Int):Bool:=decide (id=0) || (L.tr id).isSome
noncomputable def refW (V:VS) (s:Int):VS:= if s=0 then V else Hv V s
noncomputable def JM (f:Int→Bool) (s:Int):Int→Bool:= if s=0 then f else WC f s
noncomputable def JJ (V:VS) (f:Int→Bool) (s:Int):Int→Bool:= if 0<Zm (Zj V s) s then WC f s else f
theorem keysKey:KeyOk prog 76 Xr:=OI underlying76 (by kernel_rfl) underlying9 underlying3 U U U U (by decide) (by decide)
theorem Z8 {w:World} {b:Nat} {L:LvD} {F:Th} (hS:Sat w [XX b L,F]) (id:Int):
    Calls prog 43 #[ptrV b 0,intV id] w (Ret fun v w'=>v= .bool (Zk L id)∧Sat w' [XX b L,F]):= by
 replace hS:=X1 hS
 refine Qm func43 U ntmps43 U ?_
 refine Qd (Qa (Qe U U (Qf (Qc (Qd (Qa (Qb U U (Xq U U U (Qb U U (Xc 7 U (fun h1=> ?_) (fun h1=> ?_)))))))))))
 ·exact Qi U U (Xm h1) U (Qi U U (Xm h1) U (Qi U U (Xm h1) U (Qi U U (Xm h1) U (Qi U U (Xm h1) U (Qi U U (Xm h1) U (Qi U U (Xm h1) U (QK U (Xm h1) U U (Qe U U (Qf (Qc (Qh [4] U (Qu (QY (.inr U) U U (⟨_,rfl, by simp [Zk, *],QX (hS.pick [0,1,2,3,4,5] U)⟩))))))))))))))
 refine Qo U U (Q7 h1) (Qb U U (Qo U U (Q7 h1) (Qj U U (Qo U U (Q7 h1) (Qg U Zr U (Qo U U (Q7 h1) (Qr U Wx (hS.cell 0 U U) U (Qo U U (Q7 h1) (Qb U U (Qo U U (Q7 h1) (XV (k:=id) 2 hS keysInt underlying82 U U U JU (u:=(ptO TrD.ad (L.tr id))) (UF _) U (Qo U U (Q7 h1) ?_))))))))))))
 rcases hq_T:L.tr id with _ | t
 ·exact JG underlying94 U U U (QW U (Q7 h1) U U (Qe U U (Qf (Qc (Qh [4] U (Qu (QY (.inr U) U U (⟨_,rfl, by simp [Zk, *],QX (hS.pick [0,1,2,3,4,5] U)⟩))))))))
 exact H4 underlying94 U U U (QW U (Q7 h1) U U (Qe U U (Qf (Qc (Qh [4] U (Qu (QY (.inr U) U U (⟨_,rfl, by simp [Zk, *],QX (hS.pick [0,1,2,3,4,5] U)⟩))))))))
def JZ (L:LvD) (id parent:Int):Int:= if id<1 then 1 else if(L.tr id).isSome=true then 5 else if Zk L parent=false then 4 else 0
noncomputable def NZ (L:LvD) (id parent:Int) (a ml md:Nat):LvD:= if JZ L id parent=0 then{L with tr:=Xu L.tr id (some ⟨a,ml,md,parent, fun _=>none, fun _=>false⟩)}else L
theorem qag {w:World} {b:Nat} {L:LvD} {F:Th} (hS:Sat w [XX b L,F]) (id parent:Int):
    Calls prog 11 #[ptrV b 0,intV id,intV parent] w (Ret fun v w'=>v=intV (JZ L id parent)∧ ∃a ml md,Sat w' [XX b (NZ L id parent a ml md),F]):= by
 replace hS:=X1 hS
 refine Qm func11 U ntmps11 U ?_
 refine Qd (Qa (Qe U U (Qf (Qc (Qd (Qw (Qd (Qa (Qb U U (Xk U U U (Qe U U (Qf (Qc (Qt U (fun h1=> ?_) (fun h1=> ?_)))))))))))))))
 ·refine Qd (Qa (Qe U U (Qf (Qc (Qu (Qz (Qp (QY (.inr U) U U ?_))))))))
  have hE:JZ L id parent=1:= by unfold JZ; rw[if_pos (by assumption)]
  exact⟨_,rfl, by rw[hE],0,0,0, by unfold NZ; rw[if_neg (by rw[hE];decide)]; exact QX (hS.pick [0,1,2,3,4,5] U)⟩
 refine Qd (Qa (Qb U U (Qj U U (Qg U Zr U (Qr U Wx (hS.cell 0 U U) U (Qb U U (XV (k:=id) 2 hS keysInt underlying82 U U U JU (u:=(ptO TrD.ad (L.tr id))) (UF _) U ?_)))))))
 rcases hq_T:L.tr id with _ | t
 ·refine JG underlying94 U U U (Qe U U (Qf (Qc (Qh [2,1,0,6,10] U (QR U (Qd ?_))))))
  have j2:=QX (L:=L) (hS.pick [0,1,2,3,4,5] U)
  refine Qa (Qb U U (Qb U U (Qv W4 U (Z8 (j2.sp [0] U) parent) U ?_)))
  rintro _ w3 ⟨rfl,j3⟩
  replace j3:=j3.jn U U
  refine Xb U U (Qe U U (Qf (Qc (QT U (fun h4=> ?_) (fun h4=> ?_)))))
  ·have hth:Zk L parent=false:= by simpa using h4
   refine Qd (Qa (Qe U U (Qf (Qc (Qu (Qz (Qp (QY (.inr U) U U ?_))))))))
   have hE:JZ L id parent=4:= by unfold JZ; rw[if_neg (by assumption),if_neg (by rw[hq_T];decide),if_pos hth]
   exact⟨_,rfl, by rw[hE],0,0,0, by unfold NZ; rw[if_neg (by rw[hE];decide)]; exact j3.pick [0,1] U⟩
  have hth:Zk L parent=true:= by simpa using h4
  refine Qs (Qk (Qc (Qd ?_)))
  have j5:=X1 (j3.pick [0,1] U)
  refine Qa (Qb U U (Qj U U (Qg U Zr U (Qr U Wx (j5.cell 0 U U) U (Qb U U (Qb U U (Zi Xr j5 U ?_)))))))
  intro nl w6 j6
  refine Zi W8 j6 U ?_
  intro nd w7 j7
  refine Zo U Vn Sm EG U U (XR j7 U U U ?_)
  intro ta w8 j8
  refine Xp (k:=id) (v:=ptrV ta 0) 5 j8 keysInt underlying82 U U U U ?_
  intro w9 j9; dsimp only[List.set]at j9
  refine Qf (Qc (Qh [6] U (Qd (Qa (Qe U U (Qf (Qc (Qu (QY (.inr U) U U ?_)))))))))
  have hE:JZ L id parent=0:= by unfold JZ; rw[if_neg (by assumption),if_neg (by rw[hq_T];decide),if_neg (by rw[hth];decide)]
  have hA:=Ge (κ:=KD) UW (j9.pick [0,2,1,6,3,4,5,7,8] U)
  have hB:=Mb (Rn (t:=(⟨ta,nl,nd,parent, fun _=>none, fun _=>false⟩:TrD)) (hA.reorder [1,2,0,3,4,5,6,7,8,9] U)) hq_T
  have hC:=hB.reorder [1,2,3,0,4,5] U
  rw[CW (x:=(⟨ta,nl,nd,parent, fun _=>none, fun _=>false⟩:TrD))]at hC
  exact⟨_,rfl, by rw[hE],ta,nl,nd, by unfold NZ; rw[if_pos hE]; exact QX (L:={L with tr:=Xu L.tr id (some (⟨ta,nl,nd,parent, fun _=>none, fun _=>false⟩:TrD))}) hC⟩
 refine H4 underlying94 U U U (Qe U U (Qf (Qc (Qh [2,1,0,6,10] U (Xd U (Qd (Qa (Qe U U (Qf (Qc (Qu (Qz (Qp (QY (.inr U) U U ?_))))))))))))))
 have hE:JZ L id parent=5:= by unfold JZ; rw[if_neg (by assumption),if_pos (by rw[hq_T];rfl)]
 exact⟨_,rfl, by rw[hE],0,0,0, by unfold NZ; rw[if_neg (by rw[hE];decide)]; exact QX (hS.pick [0,1,2,3,4,5] U)⟩
theorem Yo {L:LvD} {n:Nat} {id:Int} {k:KD} (h:id=0):J1 L (n+1) id k=L.pres k:= by unfold J1; rw[if_pos h]
theorem MB {L:LvD} {n:Nat} {id:Int} {k:KD} (h:id≠0) (ht:L.tr id=none):J1 L (n+1) id k=0:= by unfold J1; rw[if_neg h,ht]
theorem Uo {L:LvD} {n:Nat} {id:Int} {k:KD} {t:TrD} {x:LfD} (h:id≠0) (ht:L.tr id=some t) (hx:t.lv k=some x):J1 L (n+1) id k=x.own:= by unfold J1; rw[if_neg h,ht]; dsimp only; rw[hx]
theorem G3 {L:LvD} {n:Nat} {id:Int} {k:KD} {t:TrD} (h:id≠0) (ht:L.tr id=some t) (hx:t.lv k=none) (hd:t.dr k.1=true):J1 L (n+1) id k=0:= by unfold J1; rw[if_neg h,ht]; dsimp only; rw[hx]; dsimp only; rw[if_pos hd]
theorem Tz {L:LvD} {n:Nat} {id:Int} {k:KD} {t:TrD} (h:id≠0) (ht:L.tr id=some t) (hx:t.lv k=none) (hd:t.dr k.1=false):J1 L (n+1) id k=J1 L n t.parent k:= by rw[J1,if_neg h,ht]; dsimp only; rw[hx]; dsimp only; rw[if_neg (by rw[hd];decide)]
theorem TM {T:Int→Option TrD} {n:Nat} {id:Int} {t:TrD} (h:YE T n id) (h0:id≠0) (ht:T id=some t): ∃m,n=m+1∧YE T m t.parent:= by
  cases n with
  | zero=> exact absurd h h0
  | succ n=>
    rcases h with h | h
    · exact absurd h h0
    · rw[ht]at h; exact⟨n,rfl,h⟩
theorem Yy {w:World} {b:Nat} {L:LvD} {F:Th} (hS:Sat w [XX b L,F]) (hE: ∀i,YE L.tr Zg i) (id:Int) (k:KD):
    Calls prog 48 #[ptrV b 0,intV id,Xr k] w (Ret fun v w'=>v=intV (Xo L id k)∧Sat w' [XX b L,F]):= by
 replace hS:=X1 hS
 refine Qm func48 U ntmps48 U ?_
 refine Qd (Qa (XR hS U U U ?_))
 intro kb w1 j1
 change Sat w1 [Q8 kb [strV k.1,intV k.2],_,_,_,_,_,_]at j1
 refine Qe U U (Qf (Qc (Qd (Qw (Xg (fun K0 E0 W0=> ∃(m:Nat) (i:Int),K0=m+1∧E0=[(0,ptrV b 0),(1,intV i),(5,ptrV kb 0)]∧Sat W0 [Q8 kb [strV k.1,intV k.2],Q8 b [ptrV L.sp 0,.map (some L.mp),.map (some L.mt),intV L.cur,.map (some L.ms)],Q5 Xr L.mp (XN L.pres),Q5 QN L.mt (X0 TrD.ad L.tr),XW YW L.tr,Q5 QN L.ms (ZF L.sh),F]∧(Xo L id k=J1 L (m+1) i k)∧(YE L.tr m i)∧(m≤Zg)) (L0:=[(0,_),(1,_),(5,_)]) (Zg+1) (Rg U U U) ⟨Zg,id,rfl,rfl,j1,rfl,hE id,Nat.le_refl _⟩ ?_)))))
 rintro _ _ w2 ⟨m,i,rfl,rfl,j2,hse,hen,hm⟩
 refine Qd (Qd (Qa (Qb U U (XC U U U (Qf (Qc (Qt U (fun h3=> ?_) (fun h3=> ?_))))))))
 ·have hid0:i≠0:=h3
  refine Qs (Qc (Qw (Qd (Qa (Qb U U (Qj U U (Qg U Zr U (Qr U Wx (j2.cell 1 U U) U (Qb U U (XV (k:=i) 3 j2 keysInt underlying82 U U U JU (u:=(ptO TrD.ad (L.tr i))) (UF _) U (Qe U U (Qf (Qc (Qh [5,1,0,7] U (Qd (Qd (Qa (Qb U U ?_))))))))))))))))))
  rcases hq_T:L.tr i with _ | t
  ·exact WG underlying94 U U U (Qf (Qc (Xd U (Qd (Qa (Qe U U (Qf (Qc (Qu (Qp (Qz (Qp (Qz (Qp (QY (.inr U) U U (⟨_,rfl, by rw[hse,MB hid0 hq_T],QX (j2.pick [1,2,3,4,5,6] U)⟩))))))))))))))))
  refine ZO underlying94 U U U ?_
  have j4:=Z3 (j2.pick [4,0,1,2,3,5,6] U) hq_T
  refine Qf (Qc (QR U (Qs (Qc (Qd (Qd ?_))))))
  have j5:=j4.drew
  refine QE [0,1,2,3,4,5,6] [] Wa (by kernel_rfl) ?_
  refine Q9 U U U (Xi U U U (QQ U U U ZE (Q4 U U U (Ql U WR (j5.cell 0 U U)) (Q4 U U U (XB U X9 Xf (j5.blk 5 U) (Xv U) U) (Q4 U U U (X2 (k:=k) 1 j5 keysKey underlying90 U U U HB (u:=(ptO LfD.ad (t.lv k))) (UF _)) (XK U U U (VC.nil (Qc (Qh [5,1,0,7,8] U (Qd (Qa (Qb U U ?_))))))))))))
  rcases hq_X:t.lv k with _ | x
  ·refine JG underlying89 U U U (Qf (Qc (QR U (Qs (Qc (Qd (Qd ?_)))))))
   have j7:=j5.drew
   refine QE [0,1,2,3,4,5,6] [] Wa (by kernel_rfl) ?_
   refine Q9 U U U (Xi U U U (QQ U U U UM (Q4 U U U (Ql U K7 (j7.cell 0 U U)) (QQ U U U JT (Q4 U U U (Ql U W9 (j7.cell 5 U U)) (Q4 U U U (X2 (k:=k.1) 3 j7 keysStr underlying91 U U U zr_4 (u:= .bool (t.dr k.1)) (Co _ _)) (VC.nil (Qc (Qh [5,1,0,7,37] U (QT U (fun h8=> ?_) (fun h8=> ?_)))))))))))
   ·have hdr:t.dr k.1=true:=h8
    refine Qd (Qa (Qe U U (Qf (Qc (Qu (Qp (Qz (Qp (Qz (Qp (QY (.inr U) U U ?_)))))))))))
    have j9:=Zw hq_T (j7.pick [0,1,2,3,4,5,6,7,8,9,10] U)
    exact⟨_,rfl, by rw[hse,G3 hid0 hq_T hq_X hdr],QX (j9.pick [2,3,4,0,5,6] U)⟩
   have hdr:t.dr k.1=false:=h8
   refine Qs (Qc (Qa (Qb U U (Qj U U (Qg U Jl U (Qr U QL (j7.cell 0 U U) U (Qe U U (Qf (Qk ?_)))))))))
   have j10:=Zw hq_T (j7.pick [0,1,2,3,4,5,6,7,8,9,10] U)
   obtain⟨m2,hm2,hen2⟩:=TM hen hid0 hq_T
   exact Q3 (L1:=[(0,_),(1,intV t.parent),(5,_)]) (Rg U U U) (k1:=m2+1) (by omega) ⟨m2,t.parent,rfl,rfl,j10.pick [1,2,3,4,0,5,6] U, by rw[hse,hm2,Tz hid0 hq_T hq_X hdr],hen2, by omega⟩
  refine H4 underlying89 U U U ?_
  have j6:=JC (j5.pick [2,0,1,3,4,5,6,7,8,9,10] U) hq_X
  refine Qf (Qc (Xd U (Qd (Qa (Qb U U (Qj U U (Qg U WK U (Qr U QL (j6.cell 0 U U) U (Qe U U (Qf (Qc (Qh [5,1,0,7,6] U (Qu (Qp (Qz (Qp (Qz (Qp (QY (.inr U) U U ?_)))))))))))))))))))
  have j11:=Wc hq_X (j6.pick [0,1,2,3,4,5,6,7,8,9,10,11] U)
  have j12:=Zw hq_T (j11.pick [1,2,0,3,4,5,6,7,8,9,10] U)
  exact⟨_,rfl, by rw[hse,Uo hid0 hq_T hq_X],QX (j12.pick [2,3,4,0,5,6] U)⟩
 have hid0:i=0:=Decidable.not_not.1 h3
 refine QU (Qq (Qq (Qx (Qc (Qd ?_)))))
 have j13:=j2.drew
 refine QE [0,1,2,3,4,5,6] [] Wa (by kernel_rfl) ?_
 exact Q9 U U U (Xi U U U (QQ U U U Jm (Q4 U U U (Ql U Hf (j13.cell 1 U U)) (Q4 U U U (XB U X9 Xf (j13.blk 0 U) (Xv U) U) (Q4 U U U (X2 (k:=k) 2 j13 keysKey underlying81 U U U Hj (u:=intV (L.pres k)) (Us _ _)) (XK U U U (VC.nil (Qc (Qh [6] U (Qu (QY (.inr U) U U (⟨_,rfl, by rw[hse,Yo hid0],QX (j13.pick [1,2,3,4,5,6] U)⟩))))))))))))
theorem Ds {w:World} {b sp mp mt ms n Fr:Nat} {cu:Int} {f:Int→Bool} {V:VS} {F:Th} (hS:Sat w [Q8 b [ptrV sp 0,.map (some mp),.map (some mt),intV cu,.map (some ms)],Q5 QN ms (ZF f),XD sp n Fr V,F]) (hn:n≤80000000000) (s:Int):
    Calls prog 53 #[ptrV b 0,intV s] w (Ret fun v w'=>v= .tuple #[]∧Sat w' [Q8 b [ptrV sp 0,.map (some mp),.map (some mt),intV cu,.map (some ms)],Q5 QN ms (ZF (JM f s)),XD sp (n+1) Fr (refW V s),F]):= by
 refine Qm func53 U ntmps53 U ?_
 refine Qd (Qa (Qb U U (XC U U U (Qf (Qc (Qt U (fun h1=> ?_) (fun h1=> ?_)))))))
 ·refine Qd (Qa (Qb U U (Qj U U (Qg U XJ U (Qr U Xy (hS.cell 0 U U) U (Qb U U (Qv UQ U (De (hS.sp [2] U) (by omega) s) U ?_)))))))
  rintro _ w2 ⟨e0,rfl,j2⟩
  replace j2:=j2.jn U U
  refine Qf (Qc (Qa (Qb U U (Qj U U (Qg U RG U (Qr U Hq (j2.cell 1 U U) U (Qb U U (Xp (k:=s) (v:= .bool true) 2 j2 keysInt underlying83 U U U U ?_))))))))
  intro w3 j3; dsimp only[List.set]at j3; rw[YT]at j3
  refine Qf (ZU (.inl U) U ?_)
  exact⟨_,rfl,rfl, by unfold JM refW; rw[if_neg (by assumption),if_neg (by assumption)]; exact j3.pick [1,2,0,3] U⟩
 refine Qs (ZU (.inl U) U ?_)
 exact⟨_,rfl,rfl, by unfold JM refW; rw[if_pos (Decidable.not_not.1 (by assumption)),if_pos (Decidable.not_not.1 (by assumption))]; exact((Xn (m:=n+1) (by omega) (hS.pick [2,0,1,3] U)).reorder [1,2,0,3] U)⟩
theorem HV {w:World} {b sp mp mt ms n Fr:Nat} {cu:Int} {f:Int→Bool} {V:VS} {F:Th} (hS:Sat w [Q8 b [ptrV sp 0,.map (some mp),.map (some mt),intV cu,.map (some ms)],Q5 QN ms (ZF f),XD sp n Fr V,F]) (hn:n≤80000000000) (s:Int):
    Calls prog 106 #[ptrV b 0,intV s] w (Ret fun v w'=>v= .tuple #[]∧Sat w' [Q8 b [ptrV sp 0,.map (some mp),.map (some mt),intV cu,.map (some ms)],Q5 QN ms (ZF (JJ V f s)),XD sp (n+1) Fr (Zj V s),F]):= by
 refine Qm func106 U ntmps106 U ?_
 refine Qd (Qa (Qb U U (Qj U U (Qg U XJ U (Qr U Xy (hS.cell 0 U U) U (Qb U U (Qv Ga U (Rq (hS.sp [2] U) (by omega) s) U ?_)))))))
 rintro _ w1 ⟨e0,rfl,j1⟩
 replace j1:=j1.jn U U
 refine Qf (Qc (Qd (Qa (Qb U U (Qj U U (Qg U XJ U (Qr U Xy (j1.cell 1 U U) U (Qb U U (Qv GP U (Gx (j1.sp [0] U) s) U ?_)))))))))
 rintro _ w2 ⟨rfl,j2⟩
 replace j2:=j2.jn U U
 refine YF U U U (Qf (Qc (Qh [1,0,16] U (Qt U (fun h3=> ?_) (fun h3=> ?_)))))
 ·refine Qa (Qb U U (Qj U U (Qg U RG U (Qr U Hq (j2.cell 1 U U) U (Qb U U (Xp (k:=s) (v:= .bool true) 2 j2 keysInt underlying83 U U U U ?_))))))
  intro w4 j4; dsimp only[List.set]at j4; rw[YT]at j4
  refine Qf (ZU (.inl U) U ?_)
  exact⟨_,rfl,rfl, by unfold JJ; rw[if_pos (by omega)]; exact j4.pick [1,2,0,3] U⟩
 refine Qs (ZU (.inl U) U ?_)
 exact⟨_,rfl,rfl, by unfold JJ; rw[if_neg (by omega)]; exact j2.pick [1,2,0,3] U⟩
theorem PG {w:World} {b sp mp mt ms n Fr:Nat} {a:Nat} {v0 v2 v3:Value} {cu old:Int} {f:Int→Bool} {V:VS} {F:Th} (hS:Sat w [Q8 b [ptrV sp 0,.map (some mp),.map (some mt),intV cu,.map (some ms)],Q5 QN ms (ZF f),XD sp n Fr V,Q8 a [v0,intV old,v2,v3],F]) (hn:n≤70000000000) (s:Int):
    Calls prog 73 #[ptrV b 0,ptrV a 1,intV s] w (Ret fun v w'=>v= .tuple #[]∧Sat w' [Q8 b [ptrV sp 0,.map (some mp),.map (some mt),intV cu,.map (some ms)],Q5 QN ms (ZF (JJ (refW V s) (JM f s) old)),XD sp (n+2) Fr (Zj (refW V s) old),Q8 a [v0,intV s,v2,v3],F]):= by
 refine Qm func73 U ntmps73 U ?_
 refine Qd (Qa (Qb U U (Qb U U (Qv Rb U (Ds (hS.sp [0,1,2] U) (by omega) s) U ?_))))
 rintro _ w1 ⟨rfl,j1⟩
 replace j1:=j1.jn U U
 refine Qf (Qc (Qd (Qa (Qb U U (Qb U U (Qj U U (Qr U QL (j1.cell 3 U U) U (Qv Uc U (HV (j1.sp [0,1,2] U) (by omega) old) U ?_))))))))
 rintro _ w2 ⟨rfl,j2⟩
 replace j2:=j2.jn U U
 refine Qf (Qc (Qh [2,1] U (Qa (Qb U U (Qb U U (Qj U U ?_))))))
 (refine QV j2 U U Yq (by rfl) (i:=3) U (Xv U) ?_)
 intro w3 j4; dsimp only[List.set]at j4
 exact Qf (ZU (.inl U) U (⟨_,U,U,j4.pick [0,1,2,3,4] U⟩))
theorem S6 {w:World} {b sp mp mt ms n Fr:Nat} {cu:Int} {pr:KD→Int} {f:Int→Bool} {V:VS} {F:Th} (hS:Sat w [Q8 b [ptrV sp 0,.map (some mp),.map (some mt),intV cu,.map (some ms)],Q5 Xr mp (XN pr),Q5 QN ms (ZF f),XD sp n Fr V,F]) (hn:n≤70000000000) (k:KD) (s:Int):
    Calls prog 72 #[ptrV b 0,Xr k,intV s] w (Ret fun v w'=>v= .tuple #[]∧Sat w' [Q8 b [ptrV sp 0,.map (some mp),.map (some mt),intV cu,.map (some ms)],Q5 Xr mp (XN (Z6 pr k s)),Q5 QN ms (ZF (JJ V f (pr k))),XD sp (n+1) Fr (Zj V (pr k)),F]):= by
 refine Qm func72 U ntmps72 U ?_
 refine Qd (Qa (XR hS U U U ?_))
 intro kb w1 j1
 refine Qf (Qc (Qd ?_))
 have j2:=j1.drew
 refine QE [0,1,2,3,4,5,6,7] [7] Wa (by kernel_rfl) ?_
 refine Q9 U U U (Q9 U U U (Xi U U U (QQ U U U Jm (Q4 U U U (Ql U Hf (j2.cell 1 U U)) (Q4 U U U (XB U X9 Xf (j2.blk 0 U) (Xv U) U) (Q4 U U U (X2 (k:=k) 2 j2 keysKey underlying81 U U U Hj (u:=intV (pr k)) (Us _ _)) (Xe U U U U U U ?_)))))))
 refine Qv Uc U (HV (j2.sp [1,3,4] U) (by omega) (pr k)) U ?_
 rintro _ w3 ⟨rfl,j3⟩
 replace j3:=j3.jn U U
 refine Xz (Xj (by kernel_rfl)) ?_
 refine VC.nil (Qc (Qh [2,0,4] U (Qd ?_)))
 have j4:=j3.drew
 refine QE [0,1,2,3,4,5,6] [6] Wa (by kernel_rfl) ?_
 refine Q9 U U U (Xi U U U (QQ U U U Jm (Q4 U U U (Ql U Hf (j4.cell 0 U U)) (Q4 U U U (XB U X9 Xf (j4.blk 3 U) (Xv U) U) (Q9 U U U (Xe U U U U U U ?_))))))
 refine Xp (k:=k) (v:=intV s) 4 j4 keysKey underlying81 U U U U ?_
 intro w5 j5; dsimp only[List.set]at j5
 refine Zu (Xj (by kernel_rfl)) ?_
 refine VC.nil (Qc (Qd (Qa (Qb U U (Xq U U U (Qf (Qc (Qh [0,4,21] U (Qt U (fun h6=> ?_) (fun h6=> ?_))))))))))
 ·have j7:=j5.drew
  refine QE [0,1,2,3,4,5] [5] Wa (by kernel_rfl) ?_
  refine Q9 U U U (Xi U U U (QQ U U U Jm (Q4 U U U (Ql U Hf (j7.cell 0 U U)) (Q4 U U U (XB U X9 Xf (j7.blk 3 U) (Xv U) U) (Xe U U U U U U ?_)))))
  refine YG (k:=k) 4 j7 keysKey underlying81 U U U U ?_
  intro w8 j8; dsimp only[List.set]at j8
  refine Zu (Xj (by kernel_rfl)) ?_
  refine VC.nil (ZU (.inl U) U ?_)
  have hz:=j8.pick [0,4,1,2,5] U
  rw[LI]at hz
  exact⟨_,rfl,rfl, by rw[show s=0 from(by assumption)]; exact hz⟩
 refine Qs (ZU (.inl U) U ?_)
 have hz:=j5.pick [0,4,1,2,5] U
 rw[LG (by assumption)]at hz
 exact⟨_,U,U,hz⟩
