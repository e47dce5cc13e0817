/- frames -/
import Derived.Test.YtkgjmhcdacidoaaGreatDoorFw
import Derived.Test.YtkgjmhcdacidoaaGreatDoorRow
import Derived.Lib.Builder
import Derived.Lib.UnsafeStr
import Derived.Laws.AppendOwn
import Derived.Laws.Externs
import Derived.LaidEql
set_option linter.unusedVariables false
set_option maxRecDepth 100000
namespace Go.Proofs.YtkgjmhcdacidoaaGreatDoor
open Go.RowKit M Proofs.Tryz
structure FrD where
  u:Bool
  b:Bs
def M1 (b:Bs):List UInt8:=(List.range 64).map fun i=>(b[i]?).getD 0
theorem K6 (b:Bs):(M1 b).length=64:= by simp [M1]
theorem K5 {b:Bs} (h:b.length=64):M1 b=b:= by
  apply List.ext_getElem?
  intro i
  by_cases hi:i<64
  · unfold M1; rw[List.getElem?_map,List.getElem?_range hi,Option.map_some,Zk (by omega)];rfl
  · rw[List.getElem?_eq_none (by rw[K6];omega),List.getElem?_eq_none (by omega)]
def Tu (x:FrD):List Value:= .bool x.u::XX (M1 x.b)
theorem Bq (l:List UInt8):(XX l).length=l.length:= by simp [XX]
theorem NI (x:FrD):(Tu x).length=65:= by unfold Tu; rw[List.length_cons,Bq,K6]
theorem frE_one (x:FrD):QU (Tu x)=true:= by
  refine Dz fun v hv=> ?_
  unfold Tu at hv
  rcases List.mem_cons.1 hv with rfl | hv
  · rfl
  · unfold XX at hv
    obtain⟨b,_,rfl⟩:=List.mem_map.1 hv
    rfl
def frC:RowC FrD:=⟨Tu,65, by decide,NI,frE_one⟩
def GX (x:FrD):Option Bs:= if x.u=true then some (M1 x.b)else none
def Jy (fl:List (Option Bs)):Nat:=(fl.filter Option.isSome).length
def Kj (p:Nat) (fl:List (Option Bs)):Th:=Ch fun q:Value×List FrD=>starL [J8 (fl=q.2.map GX∧fl.length≤4096),QC p [q.1,intV (Jy fl:Nat)],rowT frC q.1 q.2]
theorem Ht {w:World} {p:Nat} {fl:List (Option Bs)} {As:List Th} (h:Sat w (Kj p fl::As)): ∃ao cap cl,fl=cl.map GX∧cl.length≤4096∧Sat w (QC p [.slice ao cl.length cap,intV (Jy fl:Nat)]::rowT frC (.slice ao cl.length cap) cl::As):= by
  obtain⟨⟨v,cl⟩,h⟩:=h.ex
  obtain⟨⟨h1,h3⟩,h2⟩:=h.flat.pure_elim
  obtain⟨ao,cap,hv,_⟩:=Sat.own_shape (As:=QC p _::rowT frC v cl::As) h2 1 rfl
  obtain rfl:=hv
  exact⟨ao,cap,cl,h1, by rw[h1,List.length_map]at h3; exact h3,h2⟩
theorem Jn {w:World} {p:Nat} {fl:List (Option Bs)} {As:List Th} {v:Value} {cl:List FrD} (h1:fl=cl.map GX) (hl:cl.length≤4096) (h:Sat w (QC p [v,intV (Jy fl:Nat)]::rowT frC v cl::As)):Sat w (Kj p fl::As):=
  Sat.ex_intro (v,cl) (Sat.fold (As:=[J8 _,QC p _,rowT frC v cl]) (Sat.pure_intro ⟨h1, by rw[h1,List.length_map]; exact hl⟩ h))
theorem YC (fl:List (Option Bs)):Jy fl≤fl.length:=List.length_filter_le _ _
theorem BL: ∀{fl:List (Option Bs)} {k:Nat} {b:Bs},fl[k]? =some none→Jy (fl.set k (some b))=Jy fl+1
  | [],_,_,h=> by simp at h
  | a::fl,0,b,h=> by
    simp at h; subst h
    unfold Jy; simp
  | a::fl,k+1,b,h=> by
    have :=BL (fl:=fl) (k:=k) (b:=b) (by simpa using h)
    unfold Jy at this⊢
    rw[List.set_cons_succ,List.filter_cons,List.filter_cons]
    split
    · rw[List.length_cons,List.length_cons,this]
    · exact this
theorem HE: ∀{fl:List (Option Bs)} {k:Nat} {b:Bs},fl[k]? =some (some b)→Jy (fl.set k none)+1=Jy fl
  | [],_,_,h=> by simp at h
  | a::fl,0,b,h=> by
    simp at h; subst h
    unfold Jy; simp
  | a::fl,k+1,b,h=> by
    have :=HE (fl:=fl) (k:=k) (b:=b) (by simpa using h)
    unfold Jy at this⊢
    rw[List.set_cons_succ,List.filter_cons,List.filter_cons]
    split
    · rw[List.length_cons,List.length_cons,←this]
    · exact this
theorem Vl: ∀{fl:List (Option Bs)} {k:Nat} {b c:Bs},fl[k]? =some (some b)→Jy (fl.set k (some c))=Jy fl
  | [],_,_,_,h=> by simp at h
  | a::fl,0,b,c,h=> by
    simp at h; subst h
    unfold Jy; simp
  | a::fl,k+1,b,c,h=> by
    have :=Vl (fl:=fl) (k:=k) (b:=b) (c:=c) (by simpa using h)
    unfold Jy at this⊢
    rw[List.set_cons_succ,List.filter_cons,List.filter_cons]
    split
    · rw[List.length_cons,List.length_cons,this]
    · exact this
def ZB (fl:List (Option Bs)) (f:Int):Option Bs:= if 0≤f then(match fl[f.toNat]? with | some (some b)=>some b | _=>none)else none
theorem JR {fl:List (Option Bs)} {f:Int} {b:Bs} (h:ZB fl f=some b):0≤f∧fl[f.toNat]? =some (some b):= by
  unfold ZB at h
  split at h
  · rename_i h0
    refine⟨h0, ?_⟩
    split at h
    · rename_i b' hb; cases h; exact hb
    · cases h
  · cases h
theorem Lm {cl:List FrD} {f:Int} {x:FrD} (h0:0≤f) (hx:cl[f.toNat]? =some x):ZB (cl.map GX) f=GX x:= by
  unfold ZB
  rw[if_pos h0,List.getElem?_map,hx,Option.map_some]
  unfold GX
  cases x.u<;>rfl
theorem Dp {cl:List FrD} {f:Int} (h:f<0∨(cl.length:Int)≤f):ZB (cl.map GX) f=none:= by
  unfold ZB
  split
  · rw[List.getElem?_eq_none (by rw[List.length_map];omega)]
  · rfl
theorem Ki {w:World} {p:Nat} {fl:List (Option Bs)} {F:Th} (hS:Sat w [Kj p fl,F]) (f:Int):
    Calls prog 120 #[ptrV p 0,intV f] w (Ret fun v w'=>v= .bool (ZB fl f).isSome∧Sat w' [Kj p fl,F]):= by
 obtain⟨fa,fc,cl,hfl,hcl,hS⟩:=Ht hS
 refine Qm func120 U ntmps120 U ?_
 refine Qe (Qa (Qd U U (Qf (Qc (Qe (Qa (Qb U U (Yg U U U (Qb U U (QS 7 U (fun h1=> ?_) (fun h1=> ?_)))))))))))
 ·refine Qj U U (det h1) (Qb U U (Qj U U (det h1) (Qb U U (Qj U U (det h1) (Qi U U (Qj U U (det h1) (Qg U JH U (Qj U U (det h1) (Qn U HU (by first | assumption | exact hS.cell 0 U U) U ?_)))))))))
  refine Qj U U (det h1) ?_
  first | refine XK underlying144 U U ?_ | refine XG 1 hS underlying144 U U U ?_
  refine Qj U U (det h1) (Xk U U U (QH U (det h1) U U (Qb U U (QS 16 U (fun h2=> ?_) (fun h2=> ?_)))))
  ·obtain⟨x,hx⟩: ∃x,cl[f.toNat]? =some x:=⟨_,Zk (by omega)⟩
   refine Qj U U (det h2) (Qb U U (Qj U U (det h2) (Qi U U (Qj U U (det h2) (Qg U JH U (Qj U U (det h2) (Qn U HU (by first | assumption | exact hS.cell 0 U U) U ?_)))))))
   refine Qj U U (det h2) (Qb U U (Qj U U (det h2) (Xg frC 1 f.toNat hS U U U (by omega) hx Uu U ?_)))
   intro bx3 capx3 hvx3
   refine Qj U U (det h2) (Qg U GZ U (Qj U U (det h2) (ZG 1 f.toNat 0 hS U hvx3 U U hx VD U U (QH U (det h2) U U (Qd U U (Qf (Qc (Qh [4] U (Qv (QM (.inr U) U U ?_))))))))))
   exact⟨_,rfl, by rw[hfl,Lm (by omega) hx];unfold GX; cases x.u<;>rfl,Jn hfl hcl (hS.pick [0,1,2] U)⟩
  refine Qk U U (QJ h2) U (Qk U U (QJ h2) U (Qk U U (QJ h2) U (Qk U U (QJ h2) U (Qk U U (QJ h2) U (Qk U U (QJ h2) U (Qk U U (QJ h2) U (Qk U U (QJ h2) U (QG U (QJ h2) U U (Qd U U (Qf (Qc (Qh [4] U (Qv (QM (.inr U) U U ?_))))))))))))))
  exact⟨_,rfl, by rw[hfl,Dp (by omega)];rfl,Jn hfl hcl (hS.pick [0,1,2] U)⟩
 refine Qk U U (QJ h1) U (Qk U U (QJ h1) U (Qk U U (QJ h1) U (Qk U U (QJ h1) U (Qk U U (QJ h1) U (Qk U U (QJ h1) U (Qk U U (QJ h1) U (QG U (QJ h1) U U (Qb U U (Qk U U U U (Qk U U U U (Qk U U U U (Qk U U U U (Qk U U U U (Qk U U U U (Qk U U U U (Qk U U U U (QG U U U U (Qd U U (Qf (Qc (Qh [4] U (Qv (QM (.inr U) U U ?_)))))))))))))))))))))))
 exact⟨_,rfl, by rw[hfl,Dp (by omega)];rfl,Jn hfl hcl (hS.pick [0,1,2] U)⟩
theorem Ll {cl:List FrD} {j:Nat} {x:FrD} (h:cl[j]? =some x):((frC.cells cl).drop (0+j*65+1)).take 64=XX (M1 x.b):= by
  have h1:=RowC.cells_at (C:=frC) h
  have h2:=congrArg (List.drop 1) h1
  rw[List.drop_take,List.drop_drop]at h2
  rw[show 0+j*65+1=j*65+1 by omega]
  exact h2
theorem CK {cl:List FrD} {j:Nat} {x:FrD} (h:cl[j]? =some x):0+j*65+1+64≤(frC.cells cl).length:= by
  have :=(XP h).1
  rw[RowC.cells_len]
  show _≤cl.length*65
  omega
theorem fr_copy {cl:List FrD} {j:Nat} {x:FrD} {s:Bs} (h:cl[j]? =some x) (hs:s.length=64):Xo (frC.cells cl) (0+j*65+1) (XX (s.take 64))=frC.cells (cl.set j ⟨x.u,s⟩):= by
  have hj:=(XP h).1
  have hE:=RowC.cells_at (C:=frC) h
  have hf:=CK h
  rw[←RowC.cells_set (C:=frC) (X:=Tu ⟨x.u,s⟩) U hj,List.take_of_length_le (by omega)]
  have e:Tu ⟨x.u,s⟩= .bool x.u::XX s:= by unfold Tu; rw[K5 hs]
  rw[e]
  have h0:(frC.cells cl)[j*65]? =some (.bool x.u):= by
    have :=congrArg (fun q=>q[0]?) hE
    simp only[List.getElem?_take,List.getElem?_drop]at this
    exact this
  have hbl:(XX s).length=64:= by rw[Bq,hs]
  unfold Xo
  show _=(frC.cells cl).take (j*65)++(.bool x.u::XX s)++(frC.cells cl).drop (j*65+(Value.bool x.u::XX s).length)
  rw[List.length_cons,hbl, show 0+j*65+1=j*65+1 by omega,List.take_add_one,h0]
  simp [List.append_assoc]
theorem DX {cl:List FrD} {k:Nat} {y:FrD}:(cl.set k y).map GX=(cl.map GX).set k (GX y):=List.map_set
theorem Rk {w:World} {p:Nat} {fl:List (Option Bs)} {F:Th} (hS:Sat w [Kj p fl,F]) (f:Int):
    Calls prog 86 #[ptrV p 0,intV f] w (Ret fun v w'=>v=strV ((ZB fl f).getD [])∧Sat w' [Kj p fl,F]):= by
 refine Qm func86 U ntmps86 U ?_
 refine Qe (Qa (Qd U U (Qf (Qc (Qe (Qe (Qa (Qb U U (Qb U U (Qy Gl U (Ki (hS.sp [0] U) f) U ?_))))))))))
 rintro _ w1 ⟨rfl,j1⟩
 replace j1:=j1.jn U U
 refine QV U U (Qf (Qc (QP U (fun h2=> ?_) (fun h2=> ?_))))
 ·refine Qe (Qa (Qd U U (Qf (Qc (Qv (Qq (QM (.inr U) U U ?_)))))))
  exact⟨_,rfl, by rw[show ZB fl f=none from by cases hq:ZB fl f with | none=>rfl | some b=>simp_all];rfl,j1.pick [0,1] U⟩
 obtain⟨cb,hcb⟩:=Option.isSome_iff_exists.1 (show(ZB fl f).isSome=true by simpa using h2)
 refine Qt (Qc (Qe ?_))
 obtain⟨fa,fc,cl,hfl,hcl,hSo⟩:=Ht (j1.pick [0,1] rfl)
 have hul:=YC fl; have hfll:=congrArg List.length hfl; rw[List.length_map]at hfll
 obtain⟨hf0,hfk⟩:=JR hcb
 have hfk2:=hfk
 rw[hfl,List.getElem?_map]at hfk2
 obtain⟨x,hx,hxo⟩:=Option.map_eq_some_iff.1 hfk2
 have hxu:x.u=true∧M1 x.b=cb:= by unfold GX at hxo;split at hxo;(rename_i q; cases hxo; exact⟨q,rfl⟩); cases hxo
 have hxl:=(XP hx).1
 obtain⟨ob,oc9,hq9,_⟩:=hSo.own_at 1 rfl (by omega)
 cases hq9
 refine Qa (Qb U U (Qi U U (Qg U JH U (Qn U HU (by first | assumption | exact hSo.cell 0 U U) U ?_))))
 refine Qb U U (Zj f.toNat U U (by omega) hxl Uu U ?_)
 refine Qg U Ko U (Rt underlying166 U U MG U (Xq U (ev_strR 1 hSo cb U U U underlying176 underlying5 underlying9 (by rw[Ll hx,hxu.2]) (by rw[←hxu.2,K6])) ?_))
 refine Qd U U (Qf (Qc (Qh [4] U (Qv (QM (.inr U) U U ?_)))))
 exact⟨_,rfl, by rw[hcb];rfl,Jn hfl hcl (hSo.pick [0,1,2] U)⟩
def Uq (fl:List (Option Bs)) (f:Int) (b:Bs):List (Option Bs):= match ZB fl f with | some _=>fl.set f.toNat (some b) | none=>fl
theorem GW {fl:List (Option Bs)} {f:Int} {b c:Bs} (h:ZB fl f=some c):Uq fl f b=fl.set f.toNat (some b):= by unfold Uq; rw[h]
theorem CL {fl:List (Option Bs)} {f:Int} {b:Bs} (h:ZB fl f=none):Uq fl f b=fl:= by unfold Uq; rw[h]
theorem Hs {w:World} {p:Nat} {fl:List (Option Bs)} {F:Th} (hS:Sat w [Kj p fl,F]) (f:Int) (s:Bs) (hs:s.length=64):
    Calls prog 158 #[ptrV p 0,intV f,strV s] w (Ret fun v w'=> ∃e,v=intV e∧Sat w' [Kj p (Uq fl f s),F]):= by
 refine Qm func158 U ntmps158 U ?_
 refine Qe (Qa (Qd U U (Qf (Qc (Qe (Qe (Qa (Qb U U (Qb U U (Qy Gl U (Ki (hS.sp [0] U) f) U ?_))))))))))
 rintro _ w1 ⟨rfl,j1⟩
 replace j1:=j1.jn U U
 refine QV U U (Qf (Qc (QP U (fun h2=> ?_) (fun h2=> ?_))))
 ·refine Qe (Qa (Qd U U (Qf (Qc (Qv (Qq (QM (.inr U) U U ?_)))))))
  exact⟨_,rfl,_,rfl, by rw[CL (by cases hq:ZB fl f with | none=>rfl | some b=>simp_all)]; exact j1.pick [0,1] U⟩
 obtain⟨cb,hcb⟩:=Option.isSome_iff_exists.1 (show(ZB fl f).isSome=true by simpa using h2)
 refine Qt (Qc (Qe ?_))
 obtain⟨fa,fc,cl,hfl,hcl,hSo⟩:=Ht (j1.pick [0,1] rfl)
 have hul:=YC fl; have hfll:=congrArg List.length hfl; rw[List.length_map]at hfll
 obtain⟨hf0,hfk⟩:=JR hcb
 have hfk2:=hfk
 rw[hfl,List.getElem?_map]at hfk2
 obtain⟨x,hx,hxo⟩:=Option.map_eq_some_iff.1 hfk2
 have hxu:x.u=true∧M1 x.b=cb:= by unfold GX at hxo;split at hxo;(rename_i q; cases hxo; exact⟨q,rfl⟩); cases hxo
 have hxl:=(XP hx).1
 obtain⟨ob,oc9,hq9,_⟩:=hSo.own_at 1 rfl (by omega)
 cases hq9
 refine Qa (Qb U U (Qi U U (Qg U JH U (Qn U HU (by first | assumption | exact hSo.cell 0 U U) U ?_))))
 refine Qb U U (Zj f.toNat U U (by omega) hxl Uu U ?_)
 refine Qg U Ko U (Rt underlying166 U U MG U (Qb U U ?_))
 refine SK 1 hSo U U U U underlying176 MG (by have :=CK hx;omega) (fr_copy hx hs) U ?_
 intro w3 j3; dsimp only[List.set]at j3
 clear hSo
 refine Qd U U (Qf (Qc (Qh [1,0,6,7] U (Qe (Qa (Qb U U (Qi U U (Qg U JH U (Qn U HU (by first | assumption | exact j3.cell 0 U U) U ?_)))))))))
 refine Qb U U (Zj f.toNat U U (by omega) hxl Uu U ?_)
 refine Qg U Ko U (Qb U U ?_)
 refine Gr underlying166 U U U (by rw[hs];rfl) MG U ?_
 refine BG 1 j3 U U U underlying176 zr_5 U (by have :=CK (cl:=cl.set f.toNat ⟨x.u,s⟩) (j:=f.toNat) (x:=⟨x.u,s⟩) (by rw[List.getElem?_set_self hxl]); simp only[Nat.zero_mul];omega) (xs':=frC.cells (cl.set f.toNat ⟨x.u,s⟩)) (by simp [Xo]) U ?_
 intro w4 hS4a; dsimp only[List.set]at hS4a
 have j4:=Sat.row_cast (C:=frC) (l:=cl.set f.toNat ⟨x.u,s⟩) (hS4a.pull 1 U) (by rw[List.length_set]) U U; dsimp only[List.eraseIdx]at j4
 refine Qf (Qc (Qh [6] U (Qe (Qa (Qd U U (Qf (Qc (Qv (QM (.inr U) U U ?_)))))))))
 have hfs:fl.set f.toNat (some s)=(cl.set f.toNat ⟨x.u,s⟩).map GX:= by rw[DX,hfl];congr 1;unfold GX; rw[if_pos hxu.1,K5 hs]
 exact⟨_,rfl,_,rfl, by rw[GW hcb]; exact Jn hfs (by rw[List.length_set]; exact hcl) (by rw[Vl hfk]; exact j4.pick [1,0,2] U)⟩
theorem frE_set {x:FrD} {at_:Nat} {b:UInt8} (h:at_<64):(Tu x).set (1+at_) (Yk b)=Tu ⟨x.u,(M1 x.b).set at_ b⟩:= by
  unfold Tu
  rw[Nat.add_comm 1 at_,List.set_cons_succ]
  congr 1
  dsimp only
  rw[K5 (b:=(M1 x.b).set at_ b) (by rw[List.length_set,K6])]
  simp [XX,List.map_set,Yk]
theorem fru_sp {w:World} {F:Th} (hS:Sat w [F]) (x:FrD):
    Calls prog 204 #[.agg (Tu x).toArray] w (Ret fun v w'=>v= .bool (!x.u)∧Sat w' [F]):= by
 refine Qm func204 U ntmps204 U ?_
 refine Qe (Qa (XV hS U U U ?_))
 intro bp wbp hSbp0
 have hSbp:Sat wbp [QC bp (Tu x),F]:=hSbp0
 refine Qd U U (Qf (Qc (Qe (Qa (Qg U GZ U (Qn U VD (by first | assumption | exact hSbp.cell 0 U U) U ?_))))))
 exact QV U U (Qd U U (Qf (Qc (Qv (QM (.inr U) U U (⟨_,U,U,hSbp.pick [1] U⟩))))))
theorem frix_sp {w:World} {F:Th} (hS:Sat w [F]) {lv:Value} {l:List FrD} (hL:Ent F (RdL frC lv l)):
    Calls prog 203 #[lv,.func (.func 204) #[] #[]] w (Ret fun v w'=>(v=intV (-1)∧(∀y∈l,y.u=true)∧Sat w' [F])∨(∃(k:Nat) (x:FrD),v=intV (k:Int)∧l[k]? =some x∧x.u=false∧Sat w' [F])):= by
 obtain⟨ao,cap,rfl,hmax⟩:=(hL.sat hS 0 rfl).shape
 refine Qm func203 U ntmps203 U ?_
 refine Qe (Qa (Qd U U (Qf (Qc (Qe (Qe (Qa (Qb U U (XK underlying144 U U (Qb U U (Qf (Qc (Qz ?_)))))))))))))
 refine Xh (fun K0 E0 W0=> ∃(i:Nat),K0=l.length -i∧E0=[(0,.slice ao l.length cap),(1,.func (.func 204) #[] #[]),(7,intV (l.length:Int)),(8,intV (i:Int))]∧Sat W0 [F]∧(i≤l.length)∧(∀j y,j<i→l[j]? =some y→y.u=true)) (L0:=[(0,_),(1,_),(7,_),(8,_)]) (l.length -0) (VF U U U U) ⟨0,rfl,rfl,hS, by omega, by omega⟩ ?_
 rintro _ _ w1 ⟨i,rfl,rfl,j1,hi,hno⟩
 refine Qe (Qa (Xk U U U (Qf (Qc (Qe (Qu U (fun h2=> ?_) (fun h2=> ?_)))))))
 ·obtain⟨x,hx⟩: ∃x,l[i]? =some x:=⟨_,Zk (by omega)⟩
  obtain⟨b,off,rfl,_⟩:=(hL.sat j1 0 rfl).get hx
  refine Qt (Qc (Qe (Qz (Qe (Qa (Qb U U (Qd U U (Qf (Qc (Qe (Qa (Qb U U (Qb U U (Qb U U (Zj i U U (by first | rfl | omega) ((XP hx).1) Uu U ?_)))))))))))))))
  refine KM U ag_193 (by rw[NI]; exact SW) (vs:=Tu x) ((hL.sat j1 0 U).at_ hx) U ?_
  refine VQ U cal_204 U (fru_sp (j1.sp [] U) x) U ?_
  rintro e w3 ⟨_,rfl,rfl,j3⟩; refine⟨_,rfl, ?_⟩
  replace j3:=j3.jn U U
  refine Qf (Qc (Qh [8,7,1,0,5,16] U (QP U (fun h4=> ?_) (fun h4=> ?_))))
  ·have hux:x.u=false:= by simpa using h4
   exact Qe (Qa (Qb U U (Qd U U (Qf (Qc (Qv (Q0 (Qq (Qq (Q0 (Qq (QM (.inr U) U U (⟨_,U,.inr ⟨i,x,U,hx,hux,j3.pick [0] U⟩⟩)))))))))))))
  have hux:x.u=true:= by simpa using h4
  refine Qt (Qo (Qc (Qa (QN U U (by omega) (by omega) U ?_))))
  refine Qb U U (Qf ?_)
  exact Q8 (L1:=[(0,_),(1,_),(7,_),(8,intV ((i+1:Nat):Int))]) (VF U U U U) (k1:=l.length -(i+1)) (by omega) ⟨i+1,rfl,rfl,j3.pick [0] U, by omega, fun j y hj hq=> by by_cases e:j=i;(subst e; rw[hx]at hq; cases hq; exact hux); exact hno j y (by omega) hq⟩
 refine Xc (Qs (Qs (Q3 (Qc (Qe (Qa (Qd U U (Qf (Qc (Qv (QM (.inr U) U U ?_)))))))))))
 exact⟨_,rfl,.inl ⟨rfl, fun y hm=> by obtain⟨j,hj⟩:=List.mem_iff_getElem?.1 hm; exact hno j y (by have :=(XP hj).1;omega) hj,j1.pick [0] rfl⟩⟩
theorem GV {w:World} {p:Nat} {fl:List (Option Bs)} {F:Th} (hS:Sat w [Kj p fl,F]):
    Calls prog 182 #[ptrV p 0] w (Ret fun v w'=>(v= .tuple #[intV 0,.bool false]∧(∀o∈fl,o≠none)∧Sat w' [Kj p fl,F])∨(∃k:Nat,fl[k]? =some none∧v= .tuple #[intV (k:Int),.bool true]∧Sat w' [Kj p (fl.set k (some (M1 []))),F])):= by
 refine Qm func182 U ntmps182 U ?_
 refine Qe (Qa (Qd U U (Qd U U (Qf (Qc (Qe ?_))))))
 obtain⟨fa,fc,cl,hfl,hcl,hSo⟩:=Ht (hS.pick [0,1] rfl)
 have hul:=YC fl; have hfll:=congrArg List.length hfl; rw[List.length_map]at hfll
 refine Qa (Qb U U (Qi U U (Qg U JH U (Qn U HU (by first | assumption | exact hSo.cell 0 U U) U ?_))))
 refine Xv cal_203 U (frix_sp (hSo.sp [] U) (Ent.starL (Hd (C:=frC) (l:=cl) (by omega)) 1 U)) U ?_
 rintro e w1 ⟨_,rfl,(⟨rfl,hno,j1⟩ | ⟨k,x,rfl,hx,hux,j1⟩)⟩
 ·refine⟨_,U, ?_⟩
  replace j1:=j1.jn U U
  clear hSo
  refine Qd U U (Qf (Qc (Qe (Qe (Qa (Qb U U (Xk U U U (Qf (Qc (Qh [0,2,3,4,11] U (Qu U (fun h2=> ?_) (fun h2=> ?_))))))))))))
  ·refine Qe (Qa (Qd U U (Qd U U (Qf (Qc (Qv (Qq (Jc (.inr U) U U U ?_))))))))
   exact⟨_,rfl,.inl ⟨rfl, fun o ho=> by rw[hfl]at ho; obtain⟨y,hy,rfl⟩:=List.mem_map.1 ho;unfold GX; rw[if_pos (hno y hy)]; simp,Jn hfl hcl (j1.pick [0,1,2] rfl)⟩⟩
  exact absurd h2 (by decide)
 refine⟨_,U, ?_⟩
 replace j1:=j1.jn U U
 clear hSo
 refine Qd U U (Qf (Qc (Qe (Qe (Qa (Qb U U (Xk U U U (Qf (Qc (Qh [0,2,3,4,11] U (Qu U (fun h3=> ?_) (fun h3=> ?_))))))))))))
 ·exact absurd h3 (by omega)
 refine Qt (Qc (Qe (Qa (Qb U U (Qi U U (Qg U JH U (Qn U HU (by first | assumption | exact j1.cell 0 U U) U ?_)))))))
 refine Qb U U (Zm U F5 asz_193 zr_193 U U (Xg frC 1 k j1 U U U (by first | rfl | omega) hx Uu U ?_))
 intro bx4 capx4 hvx4
 refine Wc 1 k ⟨true,[]⟩ j1 U hvx4 U U SW (by first | rfl | (simp;done)) (by first | omega | exact(XP hx).1) ?_
 intro w5 j6; dsimp only[List.set]at j6
 refine Qf (Qc (Qh [0,2,3,4] U (Qe (Qa (Qb U U (Qi U U (Qg U Kq U (Qn U QO (by first | assumption | exact j6.cell 0 U U) U ?_))))))))
 refine QN U U (by omega) (by omega) U ?_
 refine Qi U U (Qg U Kq U ?_)
 first | (refine Qx j6 U U WI (by first | rfl | assumption | exact j6.own_one 1 U) (i:=0) U (by first | decide | exact Q5 U | (simp;done) | omega) ?_)
 intro w7 j8; dsimp only[List.set]at j8
 refine Qf (Qc (Qh [2,3,4] U (Qe (Qa (Qb U U (Qd U U (Qd U U (Qf (Qc (Qv (Jc (.inr U) U U U ?_)))))))))))
 have hfk:fl[k]? =some none:= by rw[hfl,List.getElem?_map,hx,Option.map_some];unfold GX; rw[if_neg (by rw[hux];decide)]
 have hfs:fl.set k (some (M1 []))=(cl.set k ⟨true,[]⟩).map GX:= by rw[DX,hfl];rfl
 exact⟨_,rfl,.inr ⟨k,hfk,rfl,Jn hfs (by rw[List.length_set]; exact hcl) (by rw[BL hfk,Int.natCast_add]; exact j8.pick [0,1,2] U)⟩⟩
def Vz (fl:List (Option Bs)) (f:Int):List (Option Bs):= match ZB fl f with | some _=>fl.set f.toNat none | none=>fl
theorem Sg {w:World} {p:Nat} {fl:List (Option Bs)} {F:Th} (hS:Sat w [Kj p fl,F]) (f:Int):
    Calls prog 166 #[ptrV p 0,intV f] w (Ret fun v w'=> ∃e,v=intV e∧Sat w' [Kj p (Vz fl f),F]):= by
 refine Qm func166 U ntmps166 U ?_
 refine Qe (Qa (Qd U U (Qf (Qc (Qe (Qe (Qa (Qb U U (Qb U U (Qy Gl U (Ki (hS.sp [0] U) f) U ?_))))))))))
 rintro _ w1 ⟨rfl,j1⟩
 replace j1:=j1.jn U U
 refine QV U U (Qf (Qc (QP U (fun h2=> ?_) (fun h2=> ?_))))
 ·refine Qe (Qa (Qd U U (Qf (Qc (Qv (Qq (QM (.inr U) U U ?_)))))))
  exact⟨_,rfl,_,rfl, by rw[show Vz fl f=fl by unfold Vz; rw[show ZB fl f=none from by cases hq:ZB fl f with | none=>rfl | some b=>simp_all]]; exact j1.pick [0,1] U⟩
 obtain⟨cb,hcb⟩:=Option.isSome_iff_exists.1 (show(ZB fl f).isSome=true by simpa using h2)
 refine Qt (Qc (Qe ?_))
 obtain⟨fa,fc,cl,hfl,hcl,hSo⟩:=Ht (j1.pick [0,1] rfl)
 have hul:=YC fl; have hfll:=congrArg List.length hfl; rw[List.length_map]at hfll
 obtain⟨hf0,hfk⟩:=JR hcb
 have hfk2:=hfk
 rw[hfl,List.getElem?_map]at hfk2
 obtain⟨x,hx,hxo⟩:=Option.map_eq_some_iff.1 hfk2
 have hxu:x.u=true∧M1 x.b=cb:= by unfold GX at hxo;split at hxo;(rename_i q; cases hxo; exact⟨q,rfl⟩); cases hxo
 have hxl:=(XP hx).1
 obtain⟨ob,oc9,hq9,_⟩:=hSo.own_at 1 rfl (by omega)
 cases hq9
 refine Qa (Qb U U (Qi U U (Qg U JH U (Qn U HU (by first | assumption | exact hSo.cell 0 U U) U ?_))))
 refine Qb U U (Zj f.toNat U U (by omega) hxl Uu U ?_)
 refine Qg U GZ U ?_
 refine WU 1 f.toNat 0 ⟨false,x.b⟩ hSo U U U (by show 0+f.toNat*65+0=f.toNat*65+0;omega) U Uh hx U (by decide) U U ?_
 intro w3 j3; dsimp only[List.set]at j3
 clear hSo
 refine Qf (Qc (Qh [0,4] U (Qe (Qa (Qb U U (Qi U U (Qg U Kq U (Qn U QO (by first | assumption | exact j3.cell 0 U U) U ?_))))))))
 refine VJ U U (by first | omega | (have :=HE hfk; have :=YC fl;omega)) (by first | omega | (have :=HE hfk; have :=YC fl;omega)) U ?_
 refine Qi U U (Qg U Kq U ?_)
 first | (refine Qx j3 U U WI (by first | rfl | assumption | exact j3.own_one 1 U) (i:=0) U (by first | decide | exact Q5 U | (simp;done) | omega) ?_)
 intro w4 j5; dsimp only[List.set]at j5
 refine Qf (Qc (Qe (Qa (Qd U U (Qf (Qc (Qv (QM (.inr U) U U ?_))))))))
 have hfs:fl.set f.toNat none=(cl.set f.toNat ⟨false,x.b⟩).map GX:= by rw[DX,hfl];rfl
 have hus:=HE hfk
 exact⟨_,rfl,_,rfl, by rw[show Vz fl f=fl.set f.toNat none by unfold Vz; rw[hcb]]; exact Jn hfs (by rw[List.length_set]; exact hcl) (by rw[show((Jy (fl.set f.toNat none):Nat):Int)=(Jy fl:Nat) -1 by omega]; exact j5.pick [0,1,2] U)⟩
theorem Ts {w:World} {p:Nat} {fl:List (Option Bs)} {F:Th} (hS:Sat w [Kj p fl,F]) (f at_:Int) (b:UInt8):
    Calls prog 117 #[ptrV p 0,intV f,intV at_,Yk b] w (Ret fun v w'=>(((ZB fl f).isSome=false∨at_<0∨64≤at_)∧Sat w' [Kj p fl,F])∨(v=intV 0∧ ∃cb,ZB fl f=some cb∧(0≤at_∧at_<64)∧Sat w' [Kj p (fl.set f.toNat (some (cb.set at_.toNat b))),F])):= by
 refine Qm func117 U ntmps117 U ?_
 refine Qe (Qa (Qd U U (Qf (Qc (Qe (Qz (Qe (Qa (Qb U U (Qb U U (Qy Gl U (Ki (hS.sp [0] U) f) U ?_)))))))))))
 rintro _ w1 ⟨rfl,j1⟩
 replace j1:=j1.jn U U
 refine QV U U (Qd U U (Qf (Qc (QP U (fun h2=> ?_) (fun h2=> ?_)))))
 ·refine Qe (Qa (Qd U U (Qf (Qc (Qv (Q0 (Qq (QM (.inr U) U U ?_))))))))
  exact⟨_,rfl, by rw[show ZB fl f=none from by cases hq:ZB fl f with | none=>rfl | some b=>simp_all]; exact .inl ⟨by simp,j1.pick [0,1] U⟩⟩
 obtain⟨cb,hcb⟩:=Option.isSome_iff_exists.1 (show(ZB fl f).isSome=true by simpa using h2)
 refine Qe (Qa (Qb U U (Xk U U U (Qb U U (QS 17 U (fun h3=> ?_) (fun h3=> ?_))))))
 ·refine Qk U U (det h3) U (Qk U U (det h3) U (QH U (det h3) U U (Qd U U (Qf (Qc (Qh [3,2,1,0,8,14] U (X3 U (Qe (Qa (Qd U U (Qf (Qc (Qv (Q0 (Qq (QM (.inr U) U U ?_))))))))))))))))
  exact⟨_,rfl,.inl ⟨by omega,j1.pick [0,1] U⟩⟩
 refine Qj U U (QJ h3) (Qb U U (Qj U U (QJ h3) (Yg U U U (QG U (QJ h3) U U (Qd U U (Qf (Qc (Qh [3,2,1,0,8,14] U (Qu U (fun h4=> ?_) (fun h4=> ?_))))))))))
 ·refine Qe (Qa (Qd U U (Qf (Qc (Qv (Q0 (Qq (QM (.inr U) U U ?_))))))))
  exact⟨_,rfl,.inl ⟨by omega,j1.pick [0,1] U⟩⟩
 refine Qt (Qo (Qc (Qe ?_)))
 obtain⟨fa,fc,cl,hfl,hcl,hSo⟩:=Ht (j1.pick [0,1] rfl)
 have hul:=YC fl; have hfll:=congrArg List.length hfl; rw[List.length_map]at hfll
 obtain⟨hf0,hfk⟩:=JR hcb
 have hfk2:=hfk
 rw[hfl,List.getElem?_map]at hfk2
 obtain⟨x,hx,hxo⟩:=Option.map_eq_some_iff.1 hfk2
 have hxu:x.u=true∧M1 x.b=cb:= by unfold GX at hxo;split at hxo;(rename_i q; cases hxo; exact⟨q,rfl⟩); cases hxo
 have hxl:=(XP hx).1
 obtain⟨ob,oc9,hq9,_⟩:=hSo.own_at 1 rfl (by omega)
 cases hq9
 refine Qa (Qb U U (Qi U U (Qg U JH U (Qn U HU (by first | assumption | exact hSo.cell 0 U U) U ?_))))
 refine Qb U U (Qb U U (Qb U U (Zj f.toNat U U (by omega) hxl Uu U ?_)))
 refine Qg U Ko U (B3 at_.toNat underlying166 U U (by omega) (by omega) MG U ?_)
 refine WU 1 f.toNat (1+at_.toNat) (⟨x.u,(M1 x.b).set at_.toNat b⟩:FrD) hSo U U U (by show 0+f.toNat*65+1+at_.toNat*1=f.toNat*65+(1+at_.toNat);omega) U MG hx U (by show 1+at_.toNat<65;omega) (show(Tu x).set (1+at_.toNat) (Yk b)=Tu ⟨x.u,(M1 x.b).set at_.toNat b⟩ from frE_set (by omega)) U ?_
 intro w5 j5; dsimp only[List.set]at j5
 clear hSo
 refine Qf (Qc (Qh [8] U (Qe (Qa (Qd U U (Qf (Qc (Qv (QM (.inr U) U U ?_)))))))))
 have hfs:fl.set f.toNat (some (cb.set at_.toNat b))=(cl.set f.toNat ⟨x.u,(M1 x.b).set at_.toNat b⟩).map GX:= by rw[DX,hfl];congr 1;unfold GX; rw[if_pos hxu.1,K5 (by rw[List.length_set,K6]),hxu.2]
 exact⟨_,rfl,.inr ⟨rfl,cb,hcb, by omega,Jn hfs (by rw[List.length_set]; exact hcl) (by rw[Vl hfk]; exact j5.pick [0,1,2] U)⟩⟩
theorem Cr (m:Nat):Jy (List.replicate m none)=0:= by unfold Jy; simp
theorem frow {Z:List Value} (hZ:Z=Tu ⟨false,[]⟩) (m:Nat):(List.replicate m Z).flatten=frC.cells (List.replicate m ⟨false,[]⟩):= by
  subst hZ
  induction m with
  | zero=>rfl
  | succ m ih=> rw[List.replicate_succ,List.flatten_cons,ih,List.replicate_succ];rfl
theorem Lj {w:World} {F:Th} (hS:Sat w [F]) (n:Int):
    Calls prog 42 #[intV n] w (Ret fun v w'=> ∃p,v=ptrV p 0∧Sat w' [Kj p (List.replicate (min (max n 0) 4096).toNat none),F]):= by
 refine Qm func42 U ntmps42 U ?_
 refine Qe (Qa (Qd U U (Qf (Qc (Qe (Qa (Qb U U (JT U U U (U4 U U U (D8 hS (min (max n 0) 4096).toNat U U (by omega) underlying144 ifo_193 U (by omega) (by omega) U ?_))))))))))
 intro db w1 hS1a; have j1:=hS1a.row_cast (l:=List.replicate (min (max n 0) 4096).toNat ⟨false,[]⟩) (C:=frC) (by simp) U (frow U _)
 refine Zm U F7 asz_146 zr_146 U U (XV j1 U U U ?_)
 intro bp wbp hSbp
 refine Qd U U (Qf (Qc (Qv (QM (.inr U) U U ?_))))
 exact⟨_,rfl,_,rfl,Jn (cl:=List.replicate (min (max n 0) 4096).toNat ⟨false,[]⟩) (by rw[List.map_replicate];rfl) (by rw[List.length_replicate];omega) (by rw[Cr]; exact hSbp.pick [0,1,2] U)⟩
end Go.Proofs.YtkgjmhcdacidoaaGreatDoor
namespace Go.Proofs.YtkgjmhcdacidoaaGreatDoor.M
open Go.RowKit Proofs.Tryz
def Jd (T b:Nat) (cs:List Value):Th where
  at_:= fun w F=>(F= fun k=>k=b)∧w.heap[b]? =some (.cells cs.toArray T (0,0))
  fr:= fun a ⟨e,h⟩=>⟨e, by rw[a.blk _ (by rw[e])]; exact h⟩
  lt:= fun {w F} ⟨e,h⟩ k hk=> by
    rw[e]at hk; subst hk
    rcases Nat.lt_or_ge k w.heap.size with g | g
    · exact g
    · rw[Array.getElem?_eq_none g]at h; cases h
def Va (e:Nat) (v:Value) (bs:List UInt8):Th where
  at_:= fun w F=>(F= fun k=>v.ownBlock=some k)∧w.ownsRow 0 e 1 v bs.length (byC.cells bs)∧(bs=[]→v= .slice none 0 0)
  fr:= fun {w w' F} a ⟨e1,⟨hl,h⟩,hn⟩=>⟨e1,⟨hl, by
    rcases h with h | ⟨g,cap,cur,h1,h2,h3,h4⟩
    · exact .inl h
    · exact .inr ⟨g,cap,cur,h1,h2, by rw[a.blk _ (by rw[e1,h1];rfl)]; exact h3,h4⟩⟩,hn⟩
  lt:= fun {w F} ⟨e1,h,_⟩ k hk=> by rw[e1]at hk; exact(h.lt k hk).2
theorem GM {w:World} {e n:Nat} {v:Value} {xs:List Value} (h:w.ownsRow 0 e 1 v n xs): ∃foot,Own w v n 1 xs foot∧ ∀k,k∈foot↔v.ownBlock=some k:= by
  obtain⟨hl,⟨rfl,rfl⟩ | ⟨g,cap,cur,rfl,_,hg,hc,_,hs,ht⟩⟩:=h
  · exact⟨[],⟨hl,.inl ⟨rfl,rfl,rfl⟩⟩, by simp [Value.ownBlock]⟩
  · have he:xs++cur.toList.drop (n*1)=cur.toList:= by rw[←ht]; exact List.take_append_drop _ _
    refine⟨[g],⟨hl,.inr ⟨g,cap,cur.toList.drop (n*1),rfl,hc,⟨e,0,0, ?_,.inl (Nat.le_refl _)⟩, ?_,rfl⟩⟩, by simp [Value.ownBlock,eq_comm]⟩
    · rw[he]; exact hg
    · rw[he];simpa using hs
section
variable {P:Program} {n:Nat} {ops:Array Oper} {Q:Exit→Act→World→Prop} {rest:List Oper} {L:Env} {w:World} {d:Nat} {ty:TypeId} {pos:String} {aft:Array Edge} {As:List Th} {T e b:Nat} {cs:List Value}
theorem Sat.tblk (h:Sat w As) (i:Nat) (hi:As[i]? =some (Jd T b cs)):w.heap[b]? =some (.cells cs.toArray T (0,0)):= by
  obtain⟨F,_,h⟩:=h.get i hi; exact h
theorem Sat.tcell (h:Sat w As) (i:Nat) (hi:As[i]? =some (Jd T b cs)) {o:Nat} {v:Value} (hv:cs[o]? =some v):w.cell? ⟨b,o,none⟩=some v:= by
  rw[Lib.cell_of_heap (h.tblk i hi)];simpa using hv
theorem Sat.tshape (h:Sat w As) (i:Nat) (hi:As[i]? =some (Jd T b cs)):w.shape? b=some (T,cs.length):= by
  simp [World.shape?,h.tblk i hi]
theorem Sat.buf (h:Sat w As) (i:Nat) {v:Value} {bs:List UInt8} (hi:As[i]? =some (Va e v bs)):w.ownsRow 0 e 1 v bs.length (byC.cells bs)∧(bs=[]→v= .slice none 0 0):= by
  obtain⟨F,_,h⟩:=h.get i hi; exact h
theorem Sat.bufv (h:Sat w As) (i:Nat) {v:Value} {bs:List UInt8} (hi:As[i]? =some (Va e v bs)): ∃ao cap,v= .slice ao bs.length cap∧v.oneCell'=true∧(ao=none∧bs=[]∨ ∃g,ao=some ⟨g,0,none⟩∧cap≠0∧bs≠[]):= by
  obtain⟨⟨_,⟨rfl,h1⟩ | ⟨g,cap,cur,rfl,_,_,h1,_⟩⟩,hn⟩:=h.buf i hi
  · have :bs=[]:=List.eq_nil_of_length_eq_zero h1
    subst this
    exact⟨none,0,U,U,.inl ⟨U,U⟩⟩
  · have hb:bs≠[]:= fun e=> by have :=hn e; cases this
    have :0<bs.length:=List.length_pos_iff.2 hb
    exact⟨_,cap,rfl,rfl,.inr ⟨g,rfl, by omega,hb⟩⟩
theorem BH {t:Nat} {z:Value} (hS:Sat w As) (hz:XF P t=some (some z)) (hcs:z.cells.toList=cs) (hd:Nat.blt d n=true) (hk: ∀b w',Sat w' (Jd t b cs::As)→wl P n ops Q rest ((d,ptrV b 0)::L) w'):wl P n ops Q (⟨some d,.alloc t,ty,pos,aft,none⟩::rest) L w:= by
  subst hcs
  refine X8 U hd (R:= fun v w'=>v=ptrV w.heap.size 0∧w'=w.alloc (.cells z.cells t)) (fun a ha=>⟨_,_,.inl ?_,rfl,rfl⟩) (fun v w' ⟨e1,e2⟩=> ?_)
  · simp [execOp,Instr.alloc,Jv hz,newVar,newRow]
  · subst e1 e2
    refine hk _ _ (hS.new ((Only.refl _ _).alloc _) (A:=Jd t w.heap.size z.cells.toList) (F':= fun k=>k=w.heap.size) ⟨rfl, ?_⟩ (fun k hk=> by rw[hk]; exact Nat.le_refl _))
    simpa using heap_alloc_new w (.cells z.cells t)
theorem KK {x y:Operand} {t o i:Nat} {v:Value} (hS:Sat w As) (hx:look L x=some (ptrV b o)) (hy:look L y=some v) (hs:ZL P t=some 1) (h1:v.oneCell'=true) (hi:As[i]? =some (Jd T b cs)) (ho:o<cs.length)
    (hk: ∀w',Sat w' (As.set i (Jd T b (cs.set o v)))→wl P n ops Q rest L w'):wl P n ops Q (⟨none,.store t x y,ty,pos,aft,none⟩::rest) L w:= by
  have hb:=hS.tblk i hi
  have hc:=hS.tcell i hi (o:=o) (Zk ho)
  have hf:w.frozen? ⟨b,o,none⟩=false:=Lib.frozen_of_heap hb o
  have hcs:v.cells= #[v]:= by cases v<;>first | rfl | cases h1
  refine X8 U U (R:= fun _ w'=>w'=w.setCell ⟨b,o,none⟩ v) (fun a ha=>⟨undef,_,.inr ⟨?_,rfl⟩,rfl⟩) (fun _ w' e=> ?_)
  · have hst:(store ⟨b,o,none⟩ v).run P w= .ok () (w.setCell ⟨b,o,none⟩ v):= by
      rw[run_store P w _ v _ h1,hc]; simp [hf]
    have e0:(⟨b,o,none⟩:Addr).add 0=⟨b,o,none⟩:= by simp [Addr.add]
    simp [execOp,ha.eval hx,ha.eval hy,Instr.storeAt,Instr.sureAddr,storeVar,hcs,Ze hs,storeCells,e0,hst]
  · subst e
    refine hk _ (hS.step i hi fun F ⟨e1,_⟩=>⟨F,⟨e1, ?_⟩, fun k hk=> .inl hk,((Only.refl [b] w).setCell (.inl (by simp)) v).agree (fun x hx=> .inl (by simp only[List.mem_singleton]at hx; subst hx; rw[e1]))⟩)
    simp [World.setCell,Array.getElem?_modify,hb]
theorem P1 {t t2:TypeId} {s x:Operand} {v xv z:Value} {bs l2:List UInt8} {bytes:Nat} (i:Nat) (hS:Sat w As) (hi:As[i]? =some (Va e v bs)) (hs:look L s=some v) (hx:look L x=some xv) (hr:RdL byC xv l2 w) (h0:l2≠[]) (hu:P.underlying t=some (.slice e)) (ht:t2=t)
    (hif:(P.info? e).map (fun i=>(i.zero,i.size,i.bytes))=some (some z,1,bytes)) (hz:z.cells.size=1) (hb:(bs.length+l2.length)*bytes≤140737488355328) (hm:bs.length+l2.length≤281474976710656) (hd:Nat.blt d n=true)
    (hk: ∀v' w',Sat w' (As.set i (Va e v' (bs++l2)))→wl P n ops Q rest ((d,v')::L) w'):wl P n ops Q (⟨some d,.call ⟨.builtin .append, #[s,x], #[t,t2]⟩,ty,pos,aft,none⟩::rest) L w:= by
  subst ht
  obtain⟨hown,hnil⟩:=hS.buf i hi
  obtain⟨foot,hO,hfoot⟩:=GM hown
  obtain⟨ao,cap,rfl,hmax,hcells⟩:=hr
  obtain⟨c0,hc0⟩: ∃c0,l2[0]? =some c0:=⟨_,Zk (List.length_pos_iff.2 h0)⟩
  obtain⟨g0,off0,rfl,_⟩:=hcells 0 c0 hc0
  have hnews: ∀j u,(byC.cells l2)[j]? =some u→w.cell? ((⟨g0,off0,none⟩:Addr).add j)=some u:= by
    intro j u hu'
    rw[ZD]
    have hj:=(XP hu').1
    rw[byC.cells_len]at hj
    have hj':j<l2.length:= by simpa [byC]using hj
    obtain⟨g1,o1,e1,hc⟩:=hcells j l2[j] (Zk hj')
    cases e1
    have h2:(byC.cells l2)[j]? =some (.int .u8 (l2[j].toNat:Int)):= by
      have :=RowC.cells_at (C:=byC) (l:=l2) (j:=j) (Zk hj')
      have h3:=congrArg (fun q=>q[0]?) this
      simpa [byC,List.getElem?_take,List.getElem?_drop]using h3
    rw[h2]at hu'; cases hu'
    have :=hc 0 _ U
    simpa [byC]using this
  have hrd:RdL byC (.slice (some ⟨g0,off0,none⟩) l2.length cap) l2 w:=⟨_,cap,rfl,hmax,hcells⟩
  obtain⟨inf,hi1,hi2,hi3,hi4⟩:=info_parts hif
  refine X8 U hd (R:= fun v w'=>Sat w' (As.set i (Va e v (bs++l2)))) (fun a ha=> ?_) (fun v w' hR=>hk v w' hR)
  obtain⟨v1,w1,hrun,foot',o1,o2,o3,_⟩:=Ux (P:=P) (o:=⟨some d,.call ⟨.builtin .append, #[s,x], #[t2,t2]⟩,ty,pos,aft,none⟩) (a:=a) t2 t2 s x rfl (ha.eval hs) (ha.eval hx) hO hu hu (by intro k hk; cases hk) hif hz (by decide) (hrd.lenOf) (hrd.first) (byC.cells_len l2) (W2 (byC.cells_one l2)) hb (by omega)
  obtain⟨v2,w2,hr2,hown2,_,_⟩:=run_append_own (P:=P) w 0 t2 ty e inf z 1 bytes hu hi1 hi2 hi3 hi4 hz (by decide) v bs.length (byC.cells bs) hown ⟨g0,off0,none⟩ l2.length cap (byC.cells l2) (byC.cells_len l2) hnews (W2 (byC.cells_one l2)) (by unfold maxLen;omega) hb (Nat.zero_le _)
  have hex:(execOp a.eval ⟨some d,.call ⟨.builtin .append, #[s,x], #[t2,t2]⟩,ty,pos,aft,none⟩).run P w= .ok (.value v2) w2:= by
    simp [execOp,ha.eval hs,ha.eval hx,resolve,invoke,builtin,hr2]
  have heq:v1=v2∧w1=w2:= by
    rcases hrun with h | ⟨h,_⟩
    · rw[hex]at h; cases h; exact⟨rfl,rfl⟩
    · rw[hex]at h; cases h
  obtain⟨rfl,rfl⟩:=heq
  refine⟨v1,w1,.inl hex, ?_⟩
  have hfoot': ∀k,v1.ownBlock=some k→k∈foot':= by
    intro k hk'
    obtain⟨_,⟨e1,_,_⟩ | ⟨b1,c1,s1,e1,_,_,_,rfl⟩⟩:=o1
    · rw[e1]at hk'; cases hk'
    · rw[e1]at hk'; simp [Value.ownBlock]at hk'; simp [hk']
  refine hS.step i hi fun F ⟨eF,_⟩=>⟨fun k=>v1.ownBlock=some k,⟨rfl, ?_, fun q=>absurd (List.append_eq_nil_iff.1 q).2 h0⟩, fun k hk'=> ?_,o2.agree fun k hk'=> ?_⟩
  · rw[List.length_append,←RowC.cells_app]; exact hown2
  · rcases o3 k (hfoot' k hk')with q | q
    · exact .inl (by rw[eF]; exact(hfoot k).1 q)
    · exact .inr q
  · exact .inl (by rw[eF]; exact(hfoot k).1 hk')
theorem VL {ao:Option Addr} {m cap:Nat} {ts:Array TypeId} {x:Operand} (hx:look L x=some (.slice ao m cap)) (h0:ao=none∨cap≠0) (hd:Nat.blt d n=true) (hk:wl P n ops Q rest ((d,.pointer ao)::L) w):wl P n ops Q (⟨some d,.call ⟨.builtin .unsafeSliceData, #[x],ts⟩,ty,pos,aft,none⟩::rest) L w:= by
  refine X8 rfl hd (R:= fun v w'=>v= .pointer ao∧w'=w) (fun a ha=>⟨_,_,.inl ?_,rfl,rfl⟩) (by rintro _ _ ⟨rfl,rfl⟩; exact hk)
  have hr:(Builtin.unsafeSliceData_ ts ty #[.slice ao m cap]).run P w= .ok (.pointer ao) w:= by
    cases ao with
    | none=> exact Lib.run_unsafeSliceData_nil w ts ty m cap
    | some q=> exact Lib.run_unsafeSliceData_row w ts ty q m cap (by rcases h0 with h0 | h0; cases h0; exact h0)
  simp [execOp,ha.eval hx,resolve,invoke,builtin,hr]
theorem R9 {ao:Option Addr} {cap pt it:Nat} {bs:List UInt8} {x y:Operand} (i:Nat) (hS:Sat w As) (hi:As[i]? =some (Va e (.slice ao bs.length cap) bs)) (hx:look L x=some (.pointer ao)) (hy:look L y=some (.int .i64 (bs.length:Int))) (hp:P.underlying pt=some (.pointer e)) (hc:P.cellsOf e=1) (hlen:bs.length≤9223372036854775807) (hd:Nat.blt d n=true)
    (hk: ∀w',Sat w' (As.eraseIdx i)→wl P n ops Q rest ((d,strV bs)::L) w'):wl P n ops Q (⟨some d,.call ⟨.builtin .unsafeString, #[x,y], #[pt,it]⟩,ty,pos,aft,none⟩::rest) L w:= by
  obtain⟨hown,hnil⟩:=hS.buf i hi
  have hg: ∃w',(Builtin.unsafeString_ #[pt,it] ty #[.pointer ao,.int .i64 bs.length]).run P w= .ok (strV bs) w'∧Sat w' (As.eraseIdx i):= by
    by_cases h0:bs=[]
    · subst h0
      have hv:=hnil U
      simp only[Value.slice.injEq,List.length_nil,true_and]at hv
      obtain⟨rfl,_⟩:=hv
      exact⟨w,Lib.run_unsafeString_none w pt it ty none,hS.drop i hi⟩
    · obtain⟨_,⟨hv,h1⟩ | ⟨g,cap',cur,hv,_,hgb,h1,_,h2,h3⟩⟩:=hown
      · exact absurd (List.eq_nil_of_length_eq_zero h1) h0
      · simp only[Value.slice.injEq,true_and]at hv
        obtain⟨rfl,rfl⟩:=hv
        refine⟨w.freeze ⟨g,0,none⟩ bs.length,Lib.run_unsafeString_row w pt it ty e hp hc g cur.size (by simp [World.shape?,hgb]) bs h0 (by omega) hlen ?_, ?_⟩
        · intro j c hj
          rw[ZD]
          simp only[Nat.zero_add]
          rw[Lib.cell_of_heap hgb]
          have hj':=(XP hj).1
          have :(byC.cells bs)[j]? =some (.int .u8 (c.toNat:Int)):= by
            have :=RowC.cells_at (C:=byC) (l:=bs) (j:=j) hj
            have h3:=congrArg (fun q=>q[0]?) this
            simpa [byC,List.getElem?_take,List.getElem?_drop]using h3
          rw[←h3,List.getElem?_take]at this
          split at this
          · simpa using this
          · cases this
        · have hp1:=hS.pull i hi
          obtain⟨F,F1,F2,rfl,dj,⟨e1,_⟩,h2'⟩:=hp1
          refine⟨F2,(starL _).fr (F:=F2) ?_ h2'⟩
          have hb:=Lib.below_freeze (B:=0) (Below.refl 0 w) (p:=⟨g,0,none⟩) (Nat.zero_le _) bs.length
          refine⟨hb.os,hb.tape,hb.output, fun k hk'=> ?_⟩
          have hne:k≠g:= by
            rintro rfl
            exact dj k (by rw[e1];rfl) hk'
          unfold World.freeze
          split
          · rfl
          · simp only[Array.getElem?_modify]
            rw[if_neg (fun q=>hne q.symm)]
  obtain⟨w',h1,h2⟩:=hg
  refine X8 rfl hd (R:= fun v u=>v=strV bs∧u=w') (fun a ha=>⟨_,_,.inl ?_,rfl,rfl⟩) (by rintro _ _ ⟨rfl,rfl⟩; exact hk _ h2)
  simp [execOp,ha.eval hx,ha.eval hy,resolve,invoke,builtin,h1]
theorem MA {src dst t o:Nat} {x:Operand} {j:TypeInfo} {S:Nat×Nat} (hx:look L x=some (ptrV b o)) (hs:P.underlying src=some (.pointer t)) (hd':P.underlying dst=some .unsafePointer) (ht:P.info? t=some j) (hj:j.size≠0) (hsh:w.shape? b=some S) (ho:o<S.2) (hd:Nat.blt d n=true) (hk:wl P n ops Q rest ((d,ptrV b o)::L) w):wl P n ops Q (⟨some d,.convert src dst x,ty,pos,aft,none⟩::rest) L w:=
  Xq hd (fun ρ hρ=> by
    have :=Lib.run_to_unsafe (P:=P) (w:=w) (e:=S.1) (cells:=S.2) (⟨b,o,none⟩:Addr) hs hd' ht hj hsh ho
    simp [execOp,hρ _ _ hx,ptrV,this]) hk
theorem B4 {src dst u o:Nat} {x:Operand} {j:TypeInfo} {S:Nat×Nat} (hx:look L x=some (ptrV b o)) (hs:P.underlying src=some .unsafePointer) (hd':P.underlying dst=some (.pointer u)) (hu:P.info? u=some j) (hsh:w.shape? b=some S) (hl:liesAt P P.depth S.1 (S.2/ P.cellsOf S.1) o u 1=true) (hd:Nat.blt d n=true) (hk:wl P n ops Q rest ((d,ptrV b o)::L) w):wl P n ops Q (⟨some d,.convert src dst x,ty,pos,aft,none⟩::rest) L w:=
  Xq hd (fun ρ hρ=> by
    have :=Lib.run_from_unsafe (P:=P) (w:=w) (e:=S.1) (cells:=S.2) (⟨b,o,none⟩:Addr) hs hd' hu hsh hl
    simp [execOp,hρ _ _ hx,ptrV,this]) hk
theorem B2 {x y:Operand} {t t2 u:TypeId} {q:Addr} {j:TypeInfo} (hu:P.underlying t=some (.pointer u)) (hj:P.info? u=some j) (hx:look L x=some (.pointer (some q))) (hy:look L y=some (.pointer (some q))) (hd:Nat.blt d n=true) (hk:wl P n ops Q rest ((d,.bool false)::L) w):wl P n ops Q (⟨some d,.binOp .neq t x y t2,ty,pos,aft,none⟩::rest) L w:=
  Xq hd (fun ρ hρ=> by
    have h:(Op.equal t (.pointer (some q)) (.pointer (some q))).run P w= .ok true w:= by
      unfold Op.equal Op.maxDepth Op.equalIn
      simp [run_underlying hu,sizeOf,typeInfo,hj,run_sameAddr_same]
    simp [execOp,hρ _ _ hx,hρ _ _ hy,eqGuard,binOp,h]) hk
theorem Cl {f : Nat} {fn : Func} {x : Operand} {ts : Array TypeId} {v : Value} (hf : P.funcs[f]? = some fn) (hname : (fn.name == "runtime.NumGoroutine") = false) (hb : fn.body.isNone = true) (hn : Extern.findNext fn = none) (he : Extern.find fn = some Extern.AbiNoEscape.same)
    (hx:look L x=some v) (hd:Nat.blt d n=true) (hk:wl P n ops Q rest ((d,v)::L) w):wl P n ops Q (⟨some d,.call ⟨.value (.func f), #[x],ts⟩,ty,pos,aft,none⟩::rest) L w:= by
  refine X8 rfl hd (R:= fun u w'=>u=v∧w'=w) (fun a ha=>⟨_,_,.inl ?_,rfl,rfl⟩) (by rintro _ _ ⟨rfl,rfl⟩; exact hk)
  have hr:(Extern.AbiNoEscape.same #[v]).run P w= .ok v w:=rfl
  have hc:=run_callFunc_extern hf hname hb hn he #[v] w
  rw[hr]at hc
  simp only[execOp,resolve,Act.eval,Deferred.ofValue,invoke]
  have hxe:=ha.eval hx
  simp
  rw[hxe,hc];rfl
end
