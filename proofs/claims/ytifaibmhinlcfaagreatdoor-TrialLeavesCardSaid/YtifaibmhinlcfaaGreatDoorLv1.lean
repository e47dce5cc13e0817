/- leaves: in plain data; there, Begin, sees, ref, unref, hold, set -/
import Derived.Test.YtifaibmhinlcfaaGreatDoorSh13
import Derived.Test.YtifaibmhinlcfaaGreatDoorBit
set_option linter.unusedSectionVars false
set_option linter.unusedVariables false
set_option maxRecDepth 100000
set_option maxHeartbeats 80000000000
namespace Go.Proofs.YtifaibmhinlcfaaGreatDoor
open Go.RowKit M Proofs.Tryz
variable [Inhabited SlW]
variable {V:VS} {b mp ms mt n:Nat} {cu i id:Int} {w:World} {α κ:Type}
abbrev KD:=Bs×Int
variable {k:KD} {p:KD→Int}
structure LfD where
  ad:Nat
  base:Int
  own:Int
  rd:BitVec 64
  wr:BitVec 64
variable {x:LfD}
structure TrD where
  ad:Nat
  ml:Nat
  md:Nat
  parent:Int
  lv:KD→Option LfD
  dr:Bs→Bool
variable {t:TrD}
structure LvD where
  sp:Nat
  mp:Nat
  mt:Nat
  ms:Nat
  pres:KD→Int
  tr:Int→Option TrD
  cur:Int
  sh:Int→Bool
variable {L:LvD}
def lfV (x:LfD):List Value:=[intV x.base,intV x.own,ZC x.rd,ZC x.wr]
def Bt (x:LfD):Th:=Q6 x.ad (lfV x)
def YA {κ:Type} (f:κ->Bool):κ->Option Value:= λs=> if f s=true then some (.bool true)else none
open Classical in
noncomputable def Hw {κ:Type} (f:κ->Bool) (k:κ):κ->Bool:= λj=> if j=k then true else f j
theorem PU (f:κ->Bool) (k:κ):(YA f k).getD (.bool false)= .bool (f k):=by
  unfold YA;split
  · rename_i h;rw[h];rfl
  · rename_i h;simp at h;rw[h];rfl
theorem PT (f:κ->Bool) (k:κ):upd (YA f) k (some (.bool true))=YA (Hw f k):=by
  funext j;by_cases h:j=k
  · subst h;rw[XR];unfold YA Hw;simp
  · rw[ZG h];unfold YA Hw;simp [h]
theorem boG_nil:YA (λ_:κ=>false)= λ_=>none:=by funext k;simp [YA]
def ZU (p:KD->Int):KD->Option Value:= λk=> if p k=0 then none else some (intV (p k))
theorem BD (p:KD->Int) (k:KD):(ZU p k).getD (intV 0)=intV (p k):=by
  unfold ZU;split
  · rename_i h;rw[h];rfl
  · rfl
theorem OY:ZU (λ_=>0)= λ_=>none:=by funext k;simp [ZU]
open Classical in
noncomputable def ZS (p:KD->Int) (k:KD) (s:Int):KD->Int:= λj=> if j=k then s else p j
theorem OX {s:Int} (h:s≠0):upd (ZU p) k (some (intV s))=ZU (ZS p k s):=by
  funext j;by_cases e:j=k
  · subst e;rw[XR];unfold ZU ZS;simp [h]
  · rw[ZG e];unfold ZU ZS;simp [e]
theorem OZ {v:Option Value}:upd (upd (ZU p) k v) k none=ZU (ZS p k 0):=by
  funext j;by_cases e:j=k
  · subst e;rw[XR];unfold ZU ZS;simp
  · rw[ZG e,ZG e];unfold ZU ZS;simp [e]
def ptO {α:Type} (ad:α->Nat) (o:Option α):Value:= match o with | none=> .pointer none | some x=>ptrV (ad x) 0
theorem KP {ad:α->Nat} {f:κ->Option α} (k:κ):(XM ad f k).getD (.pointer none)=ptO ad (f k):=by
  unfold XM ptO;cases f k<;>rfl
def Xw {κ α:Type} (th:α->Th) (f:κ->Option α):Th:=FD λk=>(f k).map th
theorem FE {th:α->Th} {f:κ->Option α} {k:κ} {x:α}:QN (λk=>(f k).map th) k (some (th x))= λj=>((QN f k (some x)) j).map th:=by
  funext j;by_cases h:j=k
  · subst h;rw[Qv,Qv];rfl
  · rw[Qz h,Qz h]
theorem qf5 {th:α->Th} {f:κ->Option α} {k:κ}:QN (λk=>(f k).map th) k none= λj=>((QN f k none) j).map th:=by
  funext j;by_cases h:j=k
  · subst h;rw[Qv,Qv];rfl
  · rw[Qz h,Qz h]
section
variable {w:World} {As:List Th}
theorem Rk {th:α->Th} {f:κ->Option α} {k:κ} {x:α} (h:Sat w (Xw th f::As)) (b:f k=some x):Sat w (th x::Xw th (QN f k none)::As):=by
  have a:=qf4 (k:=k) (A:=th x) h (by show(f k).map th=_;rw[b];rfl);rw[qf5]at a;exact a
theorem Rj {th:α->Th} {f:κ->Option α} {k:κ} {x:α} (h:Sat w (th x::Xw th (QN f k none)::As)):Sat w (Xw th (QN f k (some x))::As):=by
  have a:=Od (h:= λj=>((QN f k none) j).map th) (k:=k) h (by show((QN f k none) k).map th=none;rw[Qv];rfl);rw[FE,Hj]at a;exact a
theorem BY {th:α->Th} {f:κ->Option α} {k:κ} {x:α} (h:Sat w (th x::Xw th (QN f k none)::As)) (a:f k=some x):Sat w (Xw th f::As):=by
  have b:=Rj h
  rwa [Wr a]at b
theorem K4 {th:α->Th} {f:κ->Option α} {k:κ} {x:α} (h:Sat w (th x::Xw th f::As)) (b:f k=none):Sat w (Xw th (QN f k (some x))::As):=by
  have a:=Od (h:= λj=>(f j).map th) (k:=k) h (by show(f k).map th=none;rw[b];rfl);rw[FE]at a;exact a
theorem Bh (th:α->Th) (h:Sat w As):Sat w (Xw th (λ_:κ=>none)::As):=qah h
end
def trV (t:TrD):List Value:=[intV t.parent,.map (some t.ml),.map (some t.md)]
def Gi (t:TrD):Th:=starL [Q6 t.ad (trV t),Q4 X7 t.ml (XM LfD.ad t.lv),Xw Bt t.lv,Q4 Xo t.md (YA t.dr)]
def lvV (L:LvD):List Value:=[ptrV L.sp 0,.map (some L.mp),.map (some L.mt),intV L.cur,.map (some L.ms)]
def WB (b:Nat) (L:LvD):Th:=starL [Q6 b (lvV L),Q4 X7 L.mp (ZU L.pres),Q4 QY L.mt (XM TrD.ad L.tr),Xw Gi L.tr,Q4 QY L.ms (YA L.sh)]
section
variable {w:World} {As:List Th}
theorem Zo (h:Sat w (WB b L::As)):Sat w (Q6 b [ptrV L.sp 0,.map (some L.mp),.map (some L.mt),intV L.cur,.map (some L.ms)]::Q4 X7 L.mp (ZU L.pres)::Q4 QY L.mt (XM TrD.ad L.tr)::Xw Gi L.tr::Q4 QY L.ms (YA L.sh)::As):=h.flat
theorem Xq (h:Sat w (Q6 b [ptrV L.sp 0,.map (some L.mp),.map (some L.mt),intV L.cur,.map (some L.ms)]::Q4 X7 L.mp (ZU L.pres)::Q4 QY L.mt (XM TrD.ad L.tr)::Xw Gi L.tr::Q4 QY L.ms (YA L.sh)::As)):Sat w (WB b L::As):=Sat.fold (As:=[Q6 b (lvV L),Q4 X7 L.mp (ZU L.pres),Q4 QY L.mt (XM TrD.ad L.tr),Xw Gi L.tr,Q4 QY L.ms (YA L.sh)]) h
theorem W3 {T:Int->Option TrD} (h:Sat w (Xw Gi T::As)) (a:T i=some t):Sat w (Q6 t.ad [intV t.parent,.map (some t.ml),.map (some t.md)]::Q4 X7 t.ml (XM LfD.ad t.lv)::Xw Bt t.lv::Q4 Xo t.md (YA t.dr)::Xw Gi (QN T i none)::As):=(Rk h a).flat
theorem M3 (h:Sat w (Q6 t.ad [intV t.parent,.map (some t.ml),.map (some t.md)]::Q4 X7 t.ml (XM LfD.ad t.lv)::Xw Bt t.lv::Q4 Xo t.md (YA t.dr)::As)):Sat w (Gi t::As):=Sat.fold (As:=[Q6 t.ad (trV t),Q4 X7 t.ml (XM LfD.ad t.lv),Xw Bt t.lv,Q4 Xo t.md (YA t.dr)]) h
theorem W4 {T:Int->Option TrD} (a:T i=some t) (h:Sat w (Q6 t.ad [intV t.parent,.map (some t.ml),.map (some t.md)]::Q4 X7 t.ml (XM LfD.ad t.lv)::Xw Bt t.lv::Q4 Xo t.md (YA t.dr)::Xw Gi (QN T i none)::As)):Sat w (Xw Gi T::As):=BY (M3 h) a
theorem Gv {T:Int->Option TrD} (h:Sat w (Q6 t.ad [intV t.parent,.map (some t.ml),.map (some t.md)]::Q4 X7 t.ml (XM LfD.ad t.lv)::Xw Bt t.lv::Q4 Xo t.md (YA t.dr)::Xw Gi (QN T i none)::As)):Sat w (Xw Gi (QN T i (some t))::As):=Rj (M3 h)
theorem Ue {f:KD->Option LfD} (h:Sat w (Xw Bt f::As)) (a:f k=some x):Sat w (Q6 x.ad [intV x.base,intV x.own,ZC x.rd,ZC x.wr]::Xw Bt (QN f k none)::As):=Rk h a
theorem W5 {f:KD->Option LfD} (a:f k=some x) (h:Sat w (Q6 x.ad [intV x.base,intV x.own,ZC x.rd,ZC x.wr]::Xw Bt (QN f k none)::As)):Sat w (Xw Bt f::As):=BY (th:=Bt) h a
theorem qdo {f:KD->Option LfD} (h:Sat w (Q6 x.ad [intV x.base,intV x.own,ZC x.rd,ZC x.wr]::Xw Bt (QN f k none)::As)):Sat w (Xw Bt (QN f k (some x))::As):=Rj (th:=Bt) h
theorem EM {f:KD->Option LfD} (a:f k=none) (h:Sat w (Q6 x.ad [intV x.base,intV x.own,ZC x.rd,ZC x.wr]::Xw Bt f::As)):Sat w (Xw Bt (QN f k (some x))::As):=K4 (th:=Bt) h a
end
def Yt (L:LvD):Nat->Int->KD->Int
  | 0,_,_=>0
  | n+1,id,k=> if id=0 then L.pres k else match L.tr id with | none=>0 | some t=> match t.lv k with | some x=>x.own | none=> if t.dr k.1=true then 0 else Yt L n t.parent k
def HG (T:Int->Option TrD):Nat->Int->Prop
  | 0,id=>id=0
  | n+1,id=>id=0\/ match T id with | none=>True | some t=>HG T n t.parent
def ZO:Nat:=100000
def XA (L:LvD) (id:Int) (k:KD):Int:=Yt L (ZO+1) id k
def J5 (L:LvD) (id:Int):Bool:=decide (id=0) || (L.tr id).isSome
noncomputable def refW (V:VS) (s:Int):VS:= if s=0 then V else HX V s
noncomputable def YW (f:Int->Bool) (s:Int):Int->Bool:= if s=0 then f else Hw f s
noncomputable def YV (V:VS) (f:Int->Bool) (s:Int):Int->Bool:= if 0<ZF (ZH V s) s then Hw f s else f
theorem keysKey:KeyOk prog 151 X7:=qdt underlying151 (by kernel_rfl) underlying9 underlying3 U U U U (by decide) (by decide)
theorem HU {F:Th} (c:Sat w [WB b L,F]) (id:Int):
    Calls prog 96 #[ptrV b 0,intV id] w (Ret λv w'=>v= .bool (J5 L id)/\Sat w' [WB b L,F]):=by
 replace c:=Zo c;refine Qn func96 U ntmps96 U ?_;refine Qe<|Qa<|Qd U U<|Qf<|Qc<|Qe<|Qa<|Qb U U<|Xg U U U<|Qb U U<|QZ 7 U (λa=> ?_) (λa=> ?_)
 ·exact Qi U U (det a) U (Qi U U (det a) U (Qi U U (det a) U (Qi U U (det a) U (Qi U U (det a) U (Qi U U (det a) U (Qi U U (det a) U (QF U (det a) U U (Qd U U (Qf (Qc (Qh [4] U (Qu (QJ (.inr U) U U (⟨_,rfl,by simp [J5, *],Xq (c.pick [0,1,2,3,4,5] U)⟩))))))))))))))
 refine Qk U U (QH a)<|Qb U U<|Qk U U (QH a)<|Qj U U<|Qk U U (QH a)<|Qg U Wv U<|Qk U U (QH a)<|Qo U J9 (c.cell 0 U U) U<|Qk U U (QH a)<|Qb U U<|Qk U U (QH a)<|Xf (k:=id) 2 c keysInt underlying141 U U U YY (u:=(ptO TrD.ad (L.tr id))) (KP _) U<|Qk U U (QH a) ?_;rcases d:L.tr id with _ | t
 ·exact Z7 underlying139 U U U (Q9 U (QH a) U U (Qd U U (Qf (Qc (Qh [4] U (Qu (QJ (.inr U) U U (⟨_,rfl,by simp [J5, *],Xq (c.pick [0,1,2,3,4,5] U)⟩))))))))
 exact Zi underlying139 U U U (Q9 U (QH a) U U (Qd U U (Qf (Qc (Qh [4] U (Qu (QJ (.inr U) U U (⟨_,rfl,by simp [J5, *],Xq (c.pick [0,1,2,3,4,5] U)⟩))))))))
def Yo (L:LvD) (id parent:Int):Int:= if id<1 then 1 else if(L.tr id).isSome=true then 5 else if J5 L parent=false then 4 else 0
noncomputable def PV (L:LvD) (id parent:Int) (a ml md:Nat):LvD:= if Yo L id parent=0 then{L with tr:=QN L.tr id (some ⟨a,ml,md,parent,λ_=>none,λ_=>false⟩)}else L
theorem qf8 {F:Th} (e:Sat w [WB b L,F]) (id parent:Int):
    Calls prog 93 #[ptrV b 0,intV id,intV parent] w (Ret λv w'=>v=intV (Yo L id parent)/\ ∃a ml md,Sat w' [WB b (PV L id parent a ml md),F]):=by
 replace e:=Zo e;refine Qn func93 U ntmps93 U ?_;refine Qe<|Qa<|Qd U U<|Qf<|Qc<|Qe<|Qx<|Qe<|Qa<|Qb U U<|Xa U U U<|Qd U U<|Qf<|Qc<|Qs U (λm=> ?_) (λm=> ?_)
 ·refine Qe<|Qa<|Qd U U<|Qf<|Qc<|Qu<|Q1<|Qq<|QJ (.inr U) U U ?_;have d:Yo L id parent=1:=by unfold Yo;rw[if_pos (by assumption)]
  exact⟨_,rfl,by rw[d],0,0,0,by unfold PV;rw[if_neg (by rw[d];decide)];exact Xq (e.pick [0,1,2,3,4,5] U)⟩
 refine Qe<|Qa<|Qb U U<|Qj U U<|Qg U Wv U<|Qo U J9 (e.cell 0 U U) U<|Qb U U<|Xf (k:=id) 2 e keysInt underlying141 U U U YY (u:=(ptO TrD.ad (L.tr id))) (KP _) U ?_;rcases c:L.tr id with _ | t
 ·refine Z7 underlying139 U U U<|Qd U U<|Qf<|Qc<|Qh [2,1,0,6,10] U<|QM U<|Qe ?_;have n:=Xq (L:=L) (e.pick [0,1,2,3,4,5] U);refine Qa<|Qb U U<|Qb U U<|Qw Ge U (HU (n.sp [0] U) parent) U ?_;rintro _ y ⟨rfl,g⟩;replace g:=g.jn U U;refine QX U U<|Qd U U<|Qf<|Qc<|QR U (λh=> ?_) (λh=> ?_)
  ·have f:J5 L parent=false:=by simpa using h
   refine Qe<|Qa<|Qd U U<|Qf<|Qc<|Qu<|Q1<|Qq<|QJ (.inr U) U U ?_;have d:Yo L id parent=4:=by unfold Yo;rw[if_neg (by assumption),if_neg (by rw[c];decide),if_pos f]
   exact⟨_,rfl,by rw[d],0,0,0,by unfold PV;rw[if_neg (by rw[d];decide)];exact g.pick [0,1] U⟩
  have f:J5 L parent=true:=by simpa using h
  refine Qt<|Qm<|Qc<|Qe ?_;have i:=Zo (g.pick [0,1] U);refine Qa<|Qb U U<|Qj U U<|Qg U Wv U<|Qo U J9 (i.cell 0 U U) U<|Qb U U<|Qb U U<|XS X7 i U ?_;intro nl z o;refine XS Xo o U ?_;intro nd A p;refine Zj U NZ asz_148 zr_148 U U<|XL p U U U ?_;intro ta B q;refine QT (k:=id) (v:=ptrV ta 0) 5 q keysInt underlying141 U U U U ?_;intro C j;dsimp only[List.set]at j;refine Qf<|Qc<|Qh [6] U<|Qe<|Qa<|Qd U U<|Qf<|Qc<|Qu<|QJ (.inr U) U U ?_;have d:Yo L id parent=0:=by unfold Yo;rw[if_neg (by assumption),if_neg (by rw[c];decide),if_neg (by rw[f];decide)]
  have r:=Bh (κ:=KD) Bt (j.pick [0,2,1,6,3,4,5,7,8] U);have s:=K4 (M3 (t:=(⟨ta,nl,nd,parent,λ_=>none,λ_=>false⟩:TrD)) (r.reorder [1,2,0,3,4,5,6,7,8,9] U)) c;have l:=s.reorder [1,2,3,0,4,5] U;rw[G6 (x:=(⟨ta,nl,nd,parent,λ_=>none,λ_=>false⟩:TrD))]at l;exact⟨_,rfl,by rw[d],ta,nl,nd,by unfold PV;rw[if_pos d];exact Xq (L:={L with tr:=QN L.tr id (some (⟨ta,nl,nd,parent,λ_=>none,λ_=>false⟩:TrD))}) l⟩
 refine Zi underlying139 U U U<|Qd U U<|Qf<|Qc<|Qh [2,1,0,6,10] U<|Xm U<|Qe<|Qa<|Qd U U<|Qf<|Qc<|Qu<|Q1<|Qq<|QJ (.inr U) U U ?_;have d:Yo L id parent=5:=by unfold Yo;rw[if_neg (by assumption),if_pos (by rw[c];rfl)]
 exact⟨_,rfl,by rw[d],0,0,0,by unfold PV;rw[if_neg (by rw[d];decide)];exact Xq (e.pick [0,1,2,3,4,5] U)⟩
theorem UC (h:id=0):Yt L (n+1) id k=L.pres k:=by unfold Yt;rw[if_pos h]
theorem CR (h:id≠0) (a:L.tr id=none):Yt L (n+1) id k=0:=by unfold Yt;rw[if_neg h,a]
theorem UD (h:id≠0) (a:L.tr id=some t) (b:t.lv k=some x):Yt L (n+1) id k=x.own:=by unfold Yt;rw[if_neg h,a];dsimp only;rw[b]
theorem CT (h:id≠0) (a:L.tr id=some t) (b:t.lv k=none) (hd:t.dr k.1=true):Yt L (n+1) id k=0:=by unfold Yt;rw[if_neg h,a];dsimp only;rw[b];dsimp only;rw[if_pos hd]
theorem E4 (h:id≠0) (a:L.tr id=some t) (b:t.lv k=none) (hd:t.dr k.1=false):Yt L (n+1) id k=Yt L n t.parent k:=by rw[Yt,if_neg h,a];dsimp only;rw[b];dsimp only;rw[if_neg (by rw[hd];decide)]
theorem Am {T:Int->Option TrD} (h:HG T n id) (a:id≠0) (b:T id=some t): ∃m,n=m+1/\HG T m t.parent:=by
  cases n with
  | zero=> exact absurd h a
  | succ n=>
    rcases h with h | h
    · exact absurd h a
    · rw[b]at h;exact⟨n,rfl,h⟩
theorem Vk {F:Th} (o:Sat w [WB b L,F]) (E: ∀i,HG L.tr ZO i) (id:Int) (k:KD):
    Calls prog 103 #[ptrV b 0,intV id,X7 k] w (Ret λv w'=>v=intV (XA L id k)/\Sat w' [WB b L,F]):=by
 replace o:=Zo o;refine Qn func103 U ntmps103 U ?_;refine Qe<|Qa<|XL o U U U ?_;intro kb G B;change Sat G [Q6 kb [strV k.1,intV k.2],_,_,_,_,_,_]at B;refine Qd U U<|Qf<|Qc<|Qe<|Qx<|QU (λK0 E0 W0=> ∃(m:Nat) (i:Int),K0=m+1/\E0=[(0,ptrV b 0),(1,intV i),(5,ptrV kb 0)]/\Sat W0 [Q6 kb [strV k.1,intV k.2],Q6 b [ptrV L.sp 0,.map (some L.mp),.map (some L.mt),intV L.cur,.map (some L.ms)],Q4 X7 L.mp (ZU L.pres),Q4 QY L.mt (XM TrD.ad L.tr),Xw Gi L.tr,Q4 QY L.ms (YA L.sh),F]/\(XA L id k=Yt L (m+1) i k)/\(HG L.tr m i)/\(m<=ZO)) (L0:=[(0,_),(1,_),(5,_)]) (ZO+1) (VG U U U) ⟨ZO,id,rfl,rfl,B,rfl,E id,Nat.le_refl _⟩ ?_;rintro _ _ w2 ⟨m,i,rfl,rfl,j,e,p,J⟩;refine Qe<|Qe<|Qa<|Qb U U<|Xz U U U<|Qf<|Qc<|Qs U (λq=> ?_) (λq=> ?_)
 ·have c:i≠0:=q;refine Qt<|Qc<|Qx<|Qe<|Qa<|Qb U U<|Qj U U<|Qg U Wv U<|Qo U J9 (j.cell 1 U U) U<|Qb U U<|Xf (k:=i) 3 j keysInt underlying141 U U U YY (u:=(ptO TrD.ad (L.tr i))) (KP _) U<|Qd U U<|Qf<|Qc<|Qh [5,1,0,7] U<|Qe<|Qe<|Qa<|Qb U U ?_;rcases a:L.tr i with _ | t
  ·exact Ya underlying139 U U U (Qf (Qc (Xm U (Qe (Qa (Qd U U (Qf (Qc (Qu (Qq (Q1 (Qq (Q1 (Qq (QJ (.inr U) U U (⟨_,rfl,by rw[e,CR c a],Xq (j.pick [1,2,3,4,5,6] U)⟩))))))))))))))))
  refine XG underlying139 U U U ?_;have H:=W3 (j.pick [4,0,1,2,3,5,6] U) a;refine Qf<|Qc<|QM U<|Qt<|Qc<|Qe<|Qe ?_;have l:=H.drew;refine Q7 [0,1,2,3,4,5,6] [] Z9 (by kernel_rfl) ?_;refine Q3 U U U<|QP U U U<|QG U U U Wu<|Q0 U U U (Ql U Jv (l.cell 0 U U))<|Q0 U U U (X5 U Xu Xb (l.blk 5 U) (Xk U) U)<|Q0 U U U (X4 (k:=k) 1 l keysKey underlying145 U U U Ht (u:=(ptO LfD.ad (t.lv k))) (KP _))<|Zd U U U (VC.nil (Qc (Qh [5,1,0,7,8] U (Qe (Qa (Qb U U ?_))))));rcases d:t.lv k with _ | x
  ·refine Z7 underlying159 U U U<|Qf<|Qc<|QM U<|Qt<|Qc<|Qe<|Qe ?_;have h:=l.drew;refine Q7 [0,1,2,3,4,5,6] [] Z9 (by kernel_rfl) ?_;refine Q3 U U U<|QP U U U<|QG U U U Ko<|Q0 U U U (Ql U Db (h.cell 0 U U))<|QG U U U YR<|Q0 U U U (Ql U XT (h.cell 5 U U))<|Q0 U U U (X4 (k:=k.1) 3 h keysStr underlying146 U U U zr_4 (u:= .bool (t.dr k.1)) (PU _ _)) (VC.nil (Qc (Qh [5,1,0,7,37] U (QR U (λr=> ?_) (λr=> ?_)))))
   ·have g:t.dr k.1=true:=r;refine Qe<|Qa<|Qd U U<|Qf<|Qc<|Qu<|Qq<|Q1<|Qq<|Q1<|Qq<|QJ (.inr U) U U ?_;have I:=W4 a (h.pick [0,1,2,3,4,5,6,7,8,9,10] U);exact⟨_,rfl,by rw[e,CT c a d g],Xq (I.pick [2,3,4,0,5,6] U)⟩
   have g:t.dr k.1=false:=r;refine Qt<|Qc<|Qa<|Qb U U<|Qj U U<|Qg U JR U<|Qo U QL (h.cell 0 U U) U<|Qd U U<|Qf<|Qm ?_;have s:=W4 a (h.pick [0,1,2,3,4,5,6,7,8,9,10] U);obtain⟨C,y,n⟩:=Am p c a;exact Q5 (L1:=[(0,_),(1,intV t.parent),(5,_)]) (VG U U U) (k1:=C+1) (by omega) ⟨C,t.parent,rfl,rfl,s.pick [1,2,3,4,0,5,6] U,by rw[e,y,E4 c a d g],n,by omega⟩
  refine Zi underlying159 U U U ?_;have D:=Ue (l.pick [2,0,1,3,4,5,6,7,8,9,10] U) d;refine Qf<|Qc<|Xm U<|Qe<|Qa<|Qb U U<|Qj U U<|Qg U WP U<|Qo U QL (D.cell 0 U U) U<|Qd U U<|Qf<|Qc<|Qh [5,1,0,7,6] U<|Qu<|Qq<|Q1<|Qq<|Q1<|Qq<|QJ (.inr U) U U ?_;have z:=W5 d (D.pick [0,1,2,3,4,5,6,7,8,9,10,11] U);have A:=W4 a (z.pick [1,2,0,3,4,5,6,7,8,9,10] U);exact⟨_,rfl,by rw[e,UD c a d],Xq (A.pick [2,3,4,0,5,6] U)⟩
 have c:i=0:=Decidable.not_not.1 q;refine QQ<|Qp<|Qp<|Qy<|Qc<|Qe ?_;have f:=j.drew;refine Q7 [0,1,2,3,4,5,6] [] Z9 (by kernel_rfl) ?_;exact Q3 U U U (QP U U U (QG U U U UN (Q0 U U U (Ql U Gh (f.cell 1 U U)) (Q0 U U U (X5 U Xu Xb (f.blk 0 U) (Xk U) U) (Q0 U U U (X4 (k:=k) 2 f keysKey underlying140 U U U Ul (u:=intV (L.pres k)) (BD _ _)) (Zd U U U (VC.nil (Qc (Qh [6] U (Qu (QJ (.inr U) U U (⟨_,rfl,by rw[e,UC c],Xq (f.pick [1,2,3,4,5,6] U)⟩))))))))))))
theorem S7 {sp Fr:Nat} {f:Int->Bool} {F:Th} (c:Sat w [Q6 b [ptrV sp 0,.map (some mp),.map (some mt),intV cu,.map (some ms)],Q4 QY ms (YA f),ZP sp n Fr V,F]) (g:n<=80000000000) (s:Int):
    Calls prog 111 #[ptrV b 0,intV s] w (Ret λv w'=>v= .tuple #[]/\Sat w' [Q6 b [ptrV sp 0,.map (some mp),.map (some mt),intV cu,.map (some ms)],Q4 QY ms (YA (YW f s)),ZP sp (n+1) Fr (refW V s),F]):=by
 refine Qn func111 U ntmps111 U ?_;refine Qe<|Qa<|Qb U U<|Xz U U U<|Qf<|Qc<|Qs U (λe=> ?_) (λe=> ?_)
 ·refine Qe<|Qa<|Qb U U<|Qj U U<|Qg U XC U<|Qo U Xr (c.cell 0 U U) U<|Qb U U<|Qw Vx U (M8 (c.sp [2] U) (by omega) s) U ?_;rintro _ w2 ⟨h,rfl,a⟩;replace a:=a.jn U U;refine Qf<|Qc<|Qa<|Qb U U<|Qj U U<|Qg U Fg U<|Qo U qgj (a.cell 1 U U) U<|Qb U U<|QT (k:=s) (v:= .bool true) 2 a keysInt underlying142 U U U U ?_;intro i d;dsimp only[List.set]at d;rw[PT]at d;refine Qf<|Zb (.inl U) U ?_;exact⟨_,rfl,rfl,by unfold YW refW;rw[if_neg (by assumption),if_neg (by assumption)];exact d.pick [1,2,0,3] U⟩
 refine Qt<|Zb (.inl U) U ?_;exact⟨_,rfl,rfl,by unfold YW refW;rw[if_pos (Decidable.not_not.1 (by assumption)),if_pos (Decidable.not_not.1 (by assumption))];exact((X3 (m:=n+1) (by omega) (c.pick [2,0,1,3] U)).reorder [1,2,0,3] U)⟩
theorem Vh {sp Fr:Nat} {f:Int->Bool} {F:Th} (e:Sat w [Q6 b [ptrV sp 0,.map (some mp),.map (some mt),intV cu,.map (some ms)],Q4 QY ms (YA f),ZP sp n Fr V,F]) (h:n<=80000000000) (s:Int):
    Calls prog 132 #[ptrV b 0,intV s] w (Ret λv w'=>v= .tuple #[]/\Sat w' [Q6 b [ptrV sp 0,.map (some mp),.map (some mt),intV cu,.map (some ms)],Q4 QY ms (YA (YV V f s)),ZP sp (n+1) Fr (ZH V s),F]):=by
 refine Qn func132 U ntmps132 U ?_;refine Qe<|Qa<|Qb U U<|Qj U U<|Qg U XC U<|Qo U Xr (e.cell 0 U U) U<|Qb U U<|Qw Ba U (Gx (e.sp [2] U) (by omega) s) U ?_;rintro _ i ⟨j,rfl,c⟩;replace c:=c.jn U U;refine Qf<|Qc<|Qe<|Qa<|Qb U U<|Qj U U<|Qg U XC U<|Qo U Xr (c.cell 1 U U) U<|Qb U U<|Qw TO U (NO (c.sp [0] U) s) U ?_;rintro _ w2 ⟨rfl,a⟩;replace a:=a.jn U U;refine JJ U U U<|Qf<|Qc<|Qh [1,0,16] U<|Qs U (λg=> ?_) (λg=> ?_)
 ·refine Qa<|Qb U U<|Qj U U<|Qg U Fg U<|Qo U qgj (a.cell 1 U U) U<|Qb U U<|QT (k:=s) (v:= .bool true) 2 a keysInt underlying142 U U U U ?_;intro l d;dsimp only[List.set]at d;rw[PT]at d;refine Qf<|Zb (.inl U) U ?_;exact⟨_,rfl,rfl,by unfold YV;rw[if_pos (by omega)];exact d.pick [1,2,0,3] U⟩
 refine Qt<|Zb (.inl U) U ?_;exact⟨_,rfl,rfl,by unfold YV;rw[if_neg (by omega)];exact a.pick [1,2,0,3] U⟩
theorem qd0 {sp Fr:Nat} {a:Nat} {v0 v2 v3:Value} {old:Int} {f:Int->Bool} {F:Th} (g:Sat w [Q6 b [ptrV sp 0,.map (some mp),.map (some mt),intV cu,.map (some ms)],Q4 QY ms (YA f),ZP sp n Fr V,Q6 a [v0,intV old,v2,v3],F]) (h:n<=70000000000) (s:Int):
    Calls prog 155 #[ptrV b 0,ptrV a 1,intV s] w (Ret λv w'=>v= .tuple #[]/\Sat w' [Q6 b [ptrV sp 0,.map (some mp),.map (some mt),intV cu,.map (some ms)],Q4 QY ms (YA (YV (refW V s) (YW f s) old)),ZP sp (n+2) Fr (ZH (refW V s) old),Q6 a [v0,intV s,v2,v3],F]):=by
 refine Qn func155 U ntmps155 U ?_;refine Qe<|Qa<|Qb U U<|Qb U U<|Qw Bd U (S7 (g.sp [0,1,2] U) (by omega) s) U ?_;rintro _ j ⟨rfl,c⟩;replace c:=c.jn U U;refine Qf<|Qc<|Qe<|Qa<|Qb U U<|Qb U U<|Qj U U<|Qo U QL (by first | assumption | exact c.cell 0 U U | exact c.cell 3 U U) U ?_
 refine Qw Vy U (Vh (c.sp [0,1,2] U) (by omega) old) U ?_;rintro _ w2 ⟨rfl,d⟩;replace d:=d.jn U U;refine Qf<|Qc<|Qh [2,1] U<|Qa<|Qb U U<|Qb U U<|Qj U U ?_
 first | (refine QK d U U YD (by first | rfl | assumption) (i:=0) U (by first | decide | exact Xk U | (simp;done) | omega) ?_) | (refine QK d U U YD (by first | rfl | assumption) (i:=3) U (by first | decide | exact Xk U | (simp;done) | omega) ?_)
 intro k e;dsimp only[List.set]at e;exact Qf (Zb (.inl U) U (⟨_,U,U,e.pick [0,1,2,3,4] U⟩))
theorem qbz {sp Fr:Nat} {pr:KD->Int} {f:Int->Bool} {F:Th} (j:Sat w [Q6 b [ptrV sp 0,.map (some mp),.map (some mt),intV cu,.map (some ms)],Q4 X7 mp (ZU pr),Q4 QY ms (YA f),ZP sp n Fr V,F]) (o:n<=70000000000) (k:KD) (s:Int):
    Calls prog 135 #[ptrV b 0,X7 k,intV s] w (Ret λv w'=>v= .tuple #[]/\Sat w' [Q6 b [ptrV sp 0,.map (some mp),.map (some mt),intV cu,.map (some ms)],Q4 X7 mp (ZU (ZS pr k s)),Q4 QY ms (YA (YV V f (pr k))),ZP sp (n+1) Fr (ZH V (pr k)),F]):=by
 refine Qn func135 U ntmps135 U ?_;refine Qe<|Qa<|XL j U U U ?_;intro kb p l;refine Qf<|Qc<|Qe ?_;have c:=l.drew;refine Q7 [0,1,2,3,4,5,6,7] [7] Z9 (by kernel_rfl) ?_;refine Q3 U U U<|Q3 U U U<|QP U U U<|QG U U U UN<|Q0 U U U (Ql U Gh (c.cell 1 U U))<|Q0 U U U (X5 U Xu Xb (c.blk 0 U) (Xk U) U)<|Q0 U U U (X4 (k:=k) 2 c keysKey underlying140 U U U Ul (u:=intV (pr k)) (BD _ _))<|QO U U U U U U ?_;refine Qw Vy U (Vh (c.sp [1,3,4] U) (by omega) (pr k)) U ?_;rintro _ q ⟨rfl,d⟩;replace d:=d.jn U U;refine Xh (Xd (by kernel_rfl)) ?_;refine VC.nil (Qc (Qh [2,0,4] U (Qe ?_)));have e:=d.drew;refine Q7 [0,1,2,3,4,5,6] [6] Z9 (by kernel_rfl) ?_;refine Q3 U U U<|QP U U U<|QG U U U UN<|Q0 U U U (Ql U Gh (e.cell 0 U U))<|Q0 U U U (X5 U Xu Xb (e.blk 3 U) (Xk U) U)<|Q3 U U U<|QO U U U U U U ?_;refine QT (k:=k) (v:=intV s) 4 e keysKey underlying140 U U U U ?_;intro r g;dsimp only[List.set]at g;refine Zc (Xd (by kernel_rfl)) ?_;refine VC.nil (Qc (Qe (Qa (Qb U U (Xg U U U (Qf (Qc (Qh [0,4,21] U (Qs U (λm=> ?_) (λm=> ?_))))))))))
 ·have h:=g.drew;refine Q7 [0,1,2,3,4,5] [5] Z9 (by kernel_rfl) ?_;refine Q3 U U U<|QP U U U<|QG U U U UN<|Q0 U U U (Ql U Gh (h.cell 0 U U))<|Q0 U U U (X5 U Xu Xb (h.blk 3 U) (Xk U) U)<|QO U U U U U U ?_;refine Wf (k:=k) 4 h keysKey underlying140 U U U U ?_;intro t i;dsimp only[List.set]at i;refine Zc (Xd (by kernel_rfl)) ?_;refine VC.nil (Zb (.inl U) U ?_);have a:=i.pick [0,4,1,2,5] U;rw[OZ]at a;exact⟨_,rfl,rfl,by rw[show s=0 from(by assumption)];exact a⟩
 refine Qt<|Zb (.inl U) U ?_;have a:=g.pick [0,4,1,2,5] U;rw[OX (by assumption)]at a;exact⟨_,U,U,a⟩
end Go.Proofs.YtifaibmhinlcfaaGreatDoor
namespace Go.Proofs.YtifaibmhinlcfaaGreatDoor
open Go.RowKit M Proofs.Tryz
variable {D:Int→Prop} {id j last who:Int}
theorem TV:Z0 prog 22=some false:=by kernel_rfl
theorem Oj:Z0 prog 23=some false:=by kernel_rfl
theorem JY:Z0 prog 26=some false:=by kernel_rfl
theorem ag_49:Z0 prog 49=some true:=by kernel_rfl
theorem Oi:Z0 prog 67=some true:=by kernel_rfl
theorem JG:Z0 prog 90=some false:=by kernel_rfl
theorem qgg:Z0 prog 92=some true:=by kernel_rfl
theorem R2:Z0 prog 93=some false:=by kernel_rfl
theorem K8:Z0 prog 94=some false:=by kernel_rfl
theorem Ji:Z0 prog 130=some false:=by kernel_rfl
theorem Yp:Z0 prog 131=some false:=by kernel_rfl
theorem Dc:Z0 prog 134=some false:=by kernel_rfl
theorem Ea:Z0 prog 135=some false:=by kernel_rfl
theorem LZ:Z0 prog 175=some true:=by kernel_rfl
theorem qga:JF prog 41=true:=by kernel_rfl
theorem asz_49:JF prog 49=true:=by kernel_rfl
theorem qf9:JF prog 92=true:=by kernel_rfl
theorem asz_96:JF prog 96=true:=by kernel_rfl
theorem asz_101:JF prog 101=true:=by kernel_rfl
theorem asz_133:JF prog 133=true:=by kernel_rfl
theorem asz_137:JF prog 137=true:=by kernel_rfl
theorem Of:JF prog 175=true:=by kernel_rfl
theorem cal_4:Q8 prog 4=true:=by kernel_rfl
theorem cal_5:Q8 prog 5=true:=by kernel_rfl
theorem cal_6:Q8 prog 6=true:=by kernel_rfl
theorem cal_7:Q8 prog 7=true:=by kernel_rfl
theorem cal_8:Q8 prog 8=true:=by kernel_rfl
theorem cal_9:Q8 prog 9=true:=by kernel_rfl
theorem cal_10:Q8 prog 10=true:=by kernel_rfl
theorem qfw:Q8 prog 11=true:=by kernel_rfl
theorem cal_13:Q8 prog 13=true:=by kernel_rfl
theorem qfv:Q8 prog 14=true:=by kernel_rfl
theorem LW:Q8 prog 15=true:=by kernel_rfl
theorem cal_16:Q8 prog 16=true:=by kernel_rfl
theorem cal_17:Q8 prog 17=true:=by kernel_rfl
theorem PO:Q8 prog 18=true:=by kernel_rfl
theorem BW:Q8 prog 19=true:=by kernel_rfl
theorem BV:Q8 prog 20=true:=by kernel_rfl
theorem qfu:Q8 prog 21=true:=by kernel_rfl
theorem Gg:Q8 prog 22=true:=by kernel_rfl
theorem PG:Q8 prog 23=true:=by kernel_rfl
theorem LV:Q8 prog 24=true:=by kernel_rfl
theorem cal_25:Q8 prog 25=true:=by kernel_rfl
theorem cal_26:Q8 prog 26=true:=by kernel_rfl
theorem cal_27:Q8 prog 27=true:=by kernel_rfl
theorem qft:Q8 prog 28=true:=by kernel_rfl
theorem cal_29:Q8 prog 29=true:=by kernel_rfl
theorem qfs:Q8 prog 33=true:=by kernel_rfl
theorem cal_34:Q8 prog 34=true:=by kernel_rfl
theorem qfr:Q8 prog 35=true:=by kernel_rfl
theorem cal_36:Q8 prog 36=true:=by kernel_rfl
theorem cal_37:Q8 prog 37=true:=by kernel_rfl
theorem PC:Q8 prog 38=true:=by kernel_rfl
theorem cal_39:Q8 prog 39=true:=by kernel_rfl
theorem cal_40:Q8 prog 40=true:=by kernel_rfl
theorem PB:Q8 prog 41=true:=by kernel_rfl
theorem cal_42:Q8 prog 42=true:=by kernel_rfl
theorem qfq:Q8 prog 43=true:=by kernel_rfl
theorem cal_44:Q8 prog 44=true:=by kernel_rfl
theorem cal_45:Q8 prog 45=true:=by kernel_rfl
theorem cal_46:Q8 prog 46=true:=by kernel_rfl
theorem cal_47:Q8 prog 47=true:=by kernel_rfl
theorem qfp:Q8 prog 48=true:=by kernel_rfl
theorem qfo:Q8 prog 49=true:=by kernel_rfl
theorem cal_50:Q8 prog 50=true:=by kernel_rfl
theorem qfn:Q8 prog 51=true:=by kernel_rfl
theorem cal_52:Q8 prog 52=true:=by kernel_rfl
theorem cal_53:Q8 prog 53=true:=by kernel_rfl
theorem cal_54:Q8 prog 54=true:=by kernel_rfl
theorem cal_58:Q8 prog 58=true:=by kernel_rfl
theorem cal_59:Q8 prog 59=true:=by kernel_rfl
theorem qfm:Q8 prog 60=true:=by kernel_rfl
theorem cal_61:Q8 prog 61=true:=by kernel_rfl
theorem cal_62:Q8 prog 62=true:=by kernel_rfl
theorem qfl:Q8 prog 63=true:=by kernel_rfl
theorem cal_64:Q8 prog 64=true:=by kernel_rfl
theorem cal_65:Q8 prog 65=true:=by kernel_rfl
theorem PA:Q8 prog 66=true:=by kernel_rfl
theorem cal_67:Q8 prog 67=true:=by kernel_rfl
theorem P9:Q8 prog 68=true:=by kernel_rfl
theorem cal_69:Q8 prog 69=true:=by kernel_rfl
theorem qfk:Q8 prog 70=true:=by kernel_rfl
theorem cal_71:Q8 prog 71=true:=by kernel_rfl
theorem cal_72:Q8 prog 72=true:=by kernel_rfl
theorem cal_73:Q8 prog 73=true:=by kernel_rfl
theorem cal_74:Q8 prog 74=true:=by kernel_rfl
theorem cal_75:Q8 prog 75=true:=by kernel_rfl
theorem P8:Q8 prog 79=true:=by kernel_rfl
theorem cal_83:Q8 prog 83=true:=by kernel_rfl
theorem cal_84:Q8 prog 84=true:=by kernel_rfl
theorem cal_87:Q8 prog 87=true:=by kernel_rfl
theorem cal_88:Q8 prog 88=true:=by kernel_rfl
theorem qfh:Q8 prog 89=true:=by kernel_rfl
theorem cal_92:Q8 prog 92=true:=by kernel_rfl
theorem cal_93:Q8 prog 93=true:=by kernel_rfl
theorem qff:Q8 prog 94=true:=by kernel_rfl
theorem cal_99:Q8 prog 99=true:=by kernel_rfl
theorem PS:Q8 prog 100=true:=by kernel_rfl
theorem AX:Q8 prog 104=true:=by kernel_rfl
theorem AW:Q8 prog 105=true:=by kernel_rfl
theorem cal_113:Q8 prog 113=true:=by kernel_rfl
theorem AR:Q8 prog 114=true:=by kernel_rfl
theorem cal_115:Q8 prog 115=true:=by kernel_rfl
theorem cal_116:Q8 prog 116=true:=by kernel_rfl
theorem PQ:Q8 prog 126=true:=by kernel_rfl
theorem cal_129:Q8 prog 129=true:=by kernel_rfl
theorem cal_130:Q8 prog 130=true:=by kernel_rfl
theorem cal_138:Q8 prog 138=true:=by kernel_rfl
theorem AM:Q8 prog 139=true:=by kernel_rfl
theorem cal_140:Q8 prog 140=true:=by kernel_rfl
theorem cal_142:Q8 prog 142=true:=by kernel_rfl
theorem cal_179:Q8 prog 179=true:=by kernel_rfl
theorem cal_180:Q8 prog 180=true:=by kernel_rfl
theorem cal_183:Q8 prog 183=true:=by kernel_rfl
theorem cal_196:Q8 prog 196=true:=by kernel_rfl
theorem Ak:Yn prog 22=some 6:=by kernel_rfl
theorem Tw:Yn prog 23=some 1:=by kernel_rfl
theorem es_44:Yn prog 44=some 4:=by kernel_rfl
theorem es_134:Yn prog 134=some 4:=by kernel_rfl
theorem Ah:QS prog 41 0=some 0:=by kernel_rfl
theorem fo_41_1:QS prog 41 1=some 1:=by kernel_rfl
theorem Ma:QS prog 41 2=some 2:=by kernel_rfl
theorem fo_41_3:QS prog 41 3=some 3:=by kernel_rfl
theorem Ps:QS prog 41 4=some 4:=by kernel_rfl
theorem Pr:QS prog 41 5=some 5:=by kernel_rfl
theorem fo_41_6:QS prog 41 6=some 6:=by kernel_rfl
theorem DZ:QS prog 41 7=some 7:=by kernel_rfl
theorem GG:QS prog 49 0=some 0:=by kernel_rfl
theorem Vt:QS prog 49 1=some 1:=by kernel_rfl
theorem Ag:QS prog 49 2=some 2:=by kernel_rfl
theorem Af:QS prog 49 3=some 3:=by kernel_rfl
theorem Ac:QS prog 67 0=some 0:=by kernel_rfl
theorem W7:QS prog 67 1=some 1:=by kernel_rfl
theorem WO:QS prog 67 2=some 2:=by kernel_rfl
theorem Uw:QS prog 67 3=some 3:=by kernel_rfl
theorem KZ:QS prog 67 4=some 4:=by kernel_rfl
theorem KY:QS prog 67 5=some 5:=by kernel_rfl
theorem Ut:QS prog 92 0=some 0:=by kernel_rfl
theorem KX:QS prog 92 1=some 4:=by kernel_rfl
theorem Vr:QS prog 92 2=some 5:=by kernel_rfl
theorem fo_92_3:QS prog 92 3=some 6:=by kernel_rfl
theorem W6:QS prog 96 0=some 0:=by kernel_rfl
theorem Hl:QS prog 96 1=some 1:=by kernel_rfl
theorem YO:QS prog 96 2=some 2:=by kernel_rfl
theorem DV:QS prog 96 3=some 3:=by kernel_rfl
theorem We:QS prog 101 0=some 0:=by kernel_rfl
theorem ZV:QS prog 101 1=some 1:=by kernel_rfl
theorem WQ:QS prog 133 0=some 0:=by kernel_rfl
theorem Ww:QS prog 137 0=some 0:=by kernel_rfl
theorem Kp:QS prog 137 1=some 1:=by kernel_rfl
theorem Uh:QS prog 137 2=some 2:=by kernel_rfl
theorem Tr:QS prog 137 3=some 3:=by kernel_rfl
theorem UO:QS prog 137 4=some 4:=by kernel_rfl
theorem GO:QS prog 137 5=some 5:=by kernel_rfl
theorem Tq:QS prog 137 6=some 6:=by kernel_rfl
theorem Tp:QS prog 175 0=some 0:=by kernel_rfl
theorem To:QS prog 175 1=some 1:=by kernel_rfl
theorem Ff:QS prog 175 2=some 2:=by kernel_rfl
theorem qea:QS prog 175 3=some 3:=by kernel_rfl
theorem fv_92_0:Vu prog 92 0=some (0,some 4):=by kernel_rfl
theorem qdz:(prog.info? 22).map (λi=>(i.zero,i.size,i.bytes))=some (some (.slice none 0 0),1,24):=by kernel_rfl
theorem ifo_49:(prog.info? 49).map (λi=>(i.zero,i.size,i.bytes))=some (some (.agg #[(.int .i64 0),(.int .i64 0),(.int .i64 0),(.int .i64 0)]),4,32):=by kernel_rfl
theorem EW:(prog.info? 175).map (λi=>(i.zero,i.size,i.bytes))=some (some (.agg #[(.int .i64 0),(.string ⟨#[]⟩),(.string ⟨#[]⟩),(.slice none 0 0)]),4,64):=by kernel_rfl
theorem L9:(prog.info? 22).map (λi=>(i.zero,i.size))=some (some (.slice none 0 0),1):=by kernel_rfl
theorem ifz_49:(prog.info? 49).map (λi=>(i.zero,i.size))=some (some (.agg #[(.int .i64 0),(.int .i64 0),(.int .i64 0),(.int .i64 0)]),4):=by kernel_rfl
theorem EV:(prog.info? 175).map (λi=>(i.zero,i.size))=some (some (.agg #[(.int .i64 0),(.string ⟨#[]⟩),(.string ⟨#[]⟩),(.slice none 0 0)]),4):=by kernel_rfl
theorem qcu:YH prog 30=true:=by kernel_rfl
theorem qct:YH prog 34=true:=by kernel_rfl
theorem Uq:XZ prog 41 [0,2,3,4,5,7]=some [(0,1),(2,1),(3,1),(4,1),(5,1),(7,1)]:=by kernel_rfl
theorem Cm:XZ prog 49 [0,1,2,3]=some [(0,1),(1,1),(2,1),(3,1)]:=by kernel_rfl
theorem pl_92_:XZ prog 92 []=some []:=by kernel_rfl
theorem pl_92_0:XZ prog 92 [0]=some [(0,4)]:=by kernel_rfl
theorem S9:XZ prog 96 [0,1,2]=some [(0,1),(1,1),(2,1)]:=by kernel_rfl
theorem Lx:XZ prog 101 [0,1]=some [(0,1),(1,1)]:=by kernel_rfl
theorem qch:XZ prog 133 [0]=some [(0,1)]:=by kernel_rfl
theorem BG:XZ prog 137 [0,2,3,5,6]=some [(0,1),(2,1),(3,1),(5,1),(6,1)]:=by kernel_rfl
theorem NY:XZ prog 175 [0,1,2]=some [(0,1),(1,1),(2,1)]:=by kernel_rfl
theorem NX:XZ prog 175 [0,1,3]=some [(0,1),(1,1),(3,1)]:=by kernel_rfl
theorem qbg:ZQ prog 49=some 4:=by kernel_rfl
theorem M6:ZQ prog 67=some 6:=by kernel_rfl
theorem UB:ZQ prog 92=some 7:=by kernel_rfl
theorem sz_130:ZQ prog 130=some 1:=by kernel_rfl
theorem qbi:ZQ prog 134=some 1:=by kernel_rfl
theorem sz_137:ZQ prog 137=some 7:=by kernel_rfl
theorem Lf:ZQ prog 175=some 4:=by kernel_rfl
theorem zr_41:XE prog 41=some (some (.agg #[(.pointer none),(.int .i64 0),(.slice none 0 0),(.slice none 0 0),(.slice none 0 0),(.slice none 0 0),(.int .i64 0),(.bool false)])):=by kernel_rfl
theorem zr_49:XE prog 49=some (some (.agg #[(.int .i64 0),(.int .i64 0),(.int .i64 0),(.int .i64 0)])):=by kernel_rfl
theorem qaq:XE prog 67=some (some (.agg #[(.int .i64 0),(.string ⟨#[]⟩),(.string ⟨#[]⟩),(.int .i64 0),(.int .i64 0),(.int .i64 0)])):=by kernel_rfl
theorem Ee:XE prog 83=some (some (.slice none 0 0)):=by kernel_rfl
theorem Jb:XE prog 92=some (some (.agg #[(.int .i64 0),(.int .i64 0),(.int .i64 0),(.int .i64 0),(.int .i64 0),(.bool false),(.bool false)])):=by kernel_rfl
theorem zr_96:XE prog 96=some (some (.agg #[(.map none),(.pointer none),(.pointer none),(.int .i64 0)])):=by kernel_rfl
theorem zr_101:XE prog 101=some (some (.agg #[(.pointer none),(.int .i64 0)])):=by kernel_rfl
theorem Hu:XE prog 130=some (some (.pointer none)):=by kernel_rfl
theorem zr_133:XE prog 133=some (some (.agg #[(.map none)])):=by kernel_rfl
theorem zr_137:XE prog 137=some (some (.agg #[(.pointer none),(.int .i64 0),(.map none),(.map none),(.slice none 0 0),(.map none),(.map none)])):=by kernel_rfl
theorem qar:XE prog 175=some (some (.agg #[(.int .i64 0),(.string ⟨#[]⟩),(.string ⟨#[]⟩),(.slice none 0 0)])):=by kernel_rfl
structure NodeD where
  id:Int
  par:Int
  dep:Int
  gue:Int
  el:Int
  timed:Bool
  short:Bool
abbrev Nodes:=Int->Option NodeD
structure TrI (T:Nodes) (last:Int):Prop where
  root: ∃n,T 0=some n∧n.id=0∧n.par=0∧n.dep=0
  own: ∀{i n},T i=some n→n.id=i
  pos: ∀{i n},T i=some n→i≠0→1≤i∧i≤last
  par: ∀{i n},T i=some n→i≠0→n.par<i∧0≤n.par∧ ∃p,T n.par=some p∧n.dep=p.dep+1
  last0:0≤last
inductive Blw (T:Nodes) (who:Int):Int→Prop
  | self:Blw T who who
  | up {j:Int} {n:NodeD}:T j=some n→j≠0→Blw T who n.par→Blw T who j
open Classical in
noncomputable def abS (T:Nodes) (D:Int->Prop):Nodes:= λj=> if ∃d,D d/\Blw T d j then none else T j
theorem Sa {T:Nodes} (h: ∃d,D d/\Blw T d j):abS T D j=none:=if_pos h
theorem De {T:Nodes} (h: ¬ ∃d,D d/\Blw T d j):abS T D j=T j:=if_neg h
theorem KA {T:Nodes} {n:NodeD} (h:abS T D j=some n):(¬ ∃d,D d/\Blw T d j)/\T j=some n:=by
  unfold abS at h;split at h
  · cases h
  · exact⟨by assumption,h⟩
theorem qgo {T:Nodes}:abS T (λ_=>False)=T:=by
  funext j;exact De λ⟨_,h,_⟩=>h
theorem Blw.sub {T T':Nodes} (c: ∀i n,T' i=some n->T i=some n) (h:Blw T' who j):Blw T who j:=by
  induction h with
  | self=> exact .self
  | up a b _ ih=> exact .up (c _ _ a) b ih
theorem Blw.keep {T:Nodes} (h:Blw T who j) (c: ¬ ∃d,D d/\Blw T d j):Blw (abS T D) who j:=by
  induction h with
  | self=> exact .self
  | up a b _ ih=> exact .up (by rw[De c];exact a) b (ih λ⟨d,e,f⟩=>c ⟨d,e,.up a b f⟩)
theorem TrI.abS {T:Nodes} (h:TrI T last) (g: ¬D 0):TrI (abS T D) last where
  root:=by
    obtain⟨n,a,b⟩:=h.root;refine⟨n,(De ?_).trans a,b⟩;rintro⟨d,hd,q⟩;cases q with
    | self=> exact g hd
    | up _ e _=> exact e rfl
  own:= λq=>h.own (KA q).2
  pos:= λq=>h.pos (KA q).2
  par:= λ{i n} q hi=>by
    obtain⟨j,f⟩:=KA q;obtain⟨a,b,p,c,d⟩:=h.par f hi;exact⟨a,b,p,(De λ⟨e,k,l⟩=>j ⟨e,k,.up f hi l⟩).trans c,d⟩
  last0:=h.last0
theorem Blw.trans {T:Nodes} {a c:Int} (h:Blw T c j) (b:Blw T a c):Blw T a j:=by
  induction h with
  | self=> exact b
  | up x y _ ih=> exact .up x y ih
def ChildOf (T:Nodes) (id j:Int):Prop:= ∃n,T j=some n/\j≠0/\n.par=id
theorem FF {T:Nodes} (h:Blw T id j):j=id\/ ∃c,ChildOf T id c/\Blw T c j:=by
  induction h with
  | self=> exact .inl rfl
  | @up j n x y _ ih=>
    rcases ih with e | ⟨c,a,b⟩
    · exact .inr ⟨j,⟨n,x,y,e⟩,.self⟩
    · exact .inr ⟨c,a,.up x y b⟩
theorem ChildOf.below {T:Nodes} (h:ChildOf T id j):Blw T id j:=by
  obtain⟨n,a,b,c⟩:=h;exact .up a b (by rw[c];exact .self)
theorem qgn {T:Nodes} :QN (abS T (ChildOf T id)) id none=abS T (λj=>j=id):=by
  funext j;by_cases e:j=id
  · subst e;rw[Qv,Sa (D:= λx=>x=j) ⟨j,rfl,.self⟩]
  · rw[Qz e];by_cases h:Blw T id j
    · rw[Sa (D:= λj=>j=id) ⟨id,rfl,h⟩,Sa];rcases FF h with q | ⟨c,a,b⟩
      · exact absurd q e
      · exact⟨c,a,b⟩
    · rw[De (D:= λj=>j=id) (λ⟨d,a,b⟩=>by subst a;exact h b),De];rintro⟨c,a,b⟩;exact h (b.trans a.below)
theorem qam {T:Nodes} {D':Int->Prop} (h: ∀j,D j↔D' j):abS T D=abS T D':=by
  rw[show D=D' from funext λj=>propext (h j)]
theorem TrI.begin {T:Nodes} {n:Int} {p:NodeD} (h:TrI T last) (f:T who=some p):TrI (QN T (last+1) (some ⟨last+1,who,p.dep+1,n,0,false,false⟩)) (last+1) where
  root:=by
    obtain⟨r,a,b⟩:=h.root;exact⟨r,by rw[Qz (by have :=h.last0;omega)];exact a,b⟩
  own:= λ{i x} q=>by
    by_cases e:i=last+1
    · subst e;rw[Qv]at q;cases q;rfl
    · rw[Qz e]at q;exact h.own q
  pos:= λ{i x} q hi=>by
    by_cases e:i=last+1
    · have :=h.last0;omega
    · rw[Qz e]at q;have :=h.pos q hi;omega
  par:= λ{i x} q hi=>by
    by_cases e:i=last+1
    · subst e;rw[Qv]at q;cases q;by_cases g:who=0
      · subst g;exact⟨by have :=h.last0;show(0:Int)<_;omega,Int.le_refl _,p,by show QN T (last+1) _ (0:Int)=_;rw[Qz (by have :=h.last0;omega)];exact f,rfl⟩
      · have :=h.pos f g;exact⟨by show who<_;omega,by show 0<=who;omega,p,by show QN T (last+1) _ who=_;rw[Qz (by omega)];exact f,rfl⟩
    · rw[Qz e]at q;obtain⟨a,b,r,c,d⟩:=h.par q hi;have :=h.pos q hi;exact⟨a,b,r,by rw[Qz (by omega)];exact c,d⟩
  last0:=by have :=h.last0;omega
