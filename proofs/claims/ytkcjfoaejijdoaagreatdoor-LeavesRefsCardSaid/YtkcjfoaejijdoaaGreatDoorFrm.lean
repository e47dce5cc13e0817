/- Parts of rows that are bytes: copy into them, their text. Conditions: the rules' own hypotheses. -/
import Derived.Test.YtkcjfoaejijdoaaGreatDoorFw
import Derived.Test.YtkcjfoaejijdoaaGreatDoorRow
import Derived.Lib.Builder
import Derived.Lib.UnsafeStr
import Derived.Laws.AppendOwn
import Derived.Laws.Externs
import Derived.LaidEql
set_option linter.unusedVariables false
set_option maxRecDepth 100000
namespace Go.Proofs.YtkcjfoaejijdoaaGreatDoor.M
open Go.RowKit
section
variable {P:Program} {n:Nat} {ops:Array Oper} {Q:Exit→Act→World→Prop} {rest:List Oper} {L:Env} {w:World} {d:Nat} {ty:TypeId} {pos:String} {aft:Array Edge}
theorem Ed {As:List Th} (i:Nat) (hS:Sat w As) {x y:Operand} {dT sT e b o off m m' cap size dl dc:Nat} {v:Value} {s:List UInt8} {xs xs':List Value} (hi:As[i]? =some (WK v m size xs)) (hv:v= .slice (some ⟨b,o,none⟩) m' cap) (hx:look L x=some (.slice (some ⟨b,off,none⟩) dl dc)) (hy:look L y=some (strV s)) (hu:P.underlying dT=some (.slice e)) (hs:Wg P e=some 1) (hfit:off+min s.length dl≤xs.length)
    (hxs:X9 xs off (XC (s.take dl))=xs') (hd:Nat.blt d n=true) (hk: ∀w',Sat w' (As.set i (WK v m size xs'))→wl P n ops Q rest ((d,.int .i64 ((min s.length dl:Nat):Int))::L) w'):wl P n ops Q (⟨some d,.call ⟨.builtin .copy, #[x,y], #[dT,sT]⟩,ty,pos,aft,none⟩::rest) L w:= by
  subst hxs
  obtain⟨sp,hb,hback⟩:=hS.own_row i hi hv
  refine XS U hd (fun a ha=>DN dT sT x y U (ha.eval hx) (ha.eval hy) hb hu hs (by rw[Vs]; simp;omega)) ?_
  rintro u w' ⟨rfl,h1,h2,_⟩
  rw[Vs]
  have hl:off+(XC (s.take dl)).length≤xs.length:= by simp [XC];omega
  refine hk w' (hback w' _ (Jb hl) ?_ h2)
  rw[←JY hl]
  exact h1
theorem ev_strR {As:List Th} (i:Nat) (hS:Sat w As) {x:Operand} {sT dT e b o off m m' cap size dl dc:Nat} {v:Value} (l:List UInt8) {xs:List Value} (hi:As[i]? =some (WK v m size xs)) (hv:v= .slice (some ⟨b,o,none⟩) m' cap) (hx:look L x=some (.slice (some ⟨b,off,none⟩) dl dc)) (hs:P.underlying sT=some (.slice e)) (he:P.underlying e=some (.int .u8)) (hd:P.underlying dT=some .string) (hl:(xs.drop off).take dl=XC l) (hn:l.length=dl):Ev P L w ⟨some d,.convert sT dT x,ty,pos,aft,none⟩ (strV l):= fun ρ hρ=> by
  obtain⟨sp,hb,_⟩:=hS.own_row i hi hv
  subst hn
  have hr:=run_convert_bytes_back (P:=P) w sT dT e ⟨b,off,none⟩ dc l hs he hd (fun j hj=> by
    rw[ZY]
    refine hb.cell ?_
    have h1:=congrArg (fun q=>q[j]?) hl
    simp only[List.getElem?_take,hj,if_true,List.getElem?_drop,Dy]at h1
    have hlt:off+j<xs.length:= by
      rcases Nat.lt_or_ge (off+j) xs.length with g | g
      · exact g
      · rw[List.getElem?_eq_none g,Zi hj]at h1; cases h1
    rw[List.getElem?_append_left hlt,h1,Zi hj];rfl)
  simp [execOp,hρ _ _ hx,hr]
theorem Bo {x y:Operand} {t e N b o sz:Nat} {k:IntKind} {i:Int} (hu:P.underlying t=some (.array N e)) (hN:Nat.blt 0 N=true) (hx:look L x=some (ptrV b o)) (hy:look L y=some (.int k i)) (hi:i=(N:Int)) (hs:Wg P e=some sz) (hd:Nat.blt d n=true) (hk:wl P n ops Q rest ((d,.slice (some ⟨b,o,none⟩) 0 0)::L) w):wl P n ops Q (⟨some d,.slice t x (some y) none none,ty,pos,aft,none⟩::rest) L w:=
  Xu hd (fun ρ hρ=> by
    have h3: ∀w,(sizeOf e).run P w= .ok sz w:= fun w=>run_sizeOf hs w
    have hn: ¬N=0:= by simp at hN;omega
    have hb:= fun w=>Kl (P:=P) false N N (some (.int k i)) none N N ⟨k, by rw[hi]⟩ U (Nat.le_refl _) (Nat.le_refl _) w
    simp [execOp,hρ _ _ hx,hρ _ _ hy,Instr.sliceAt,run_underlying hu,Instr.sureAddr,hb,h3,hn]) hk
end
end Go.Proofs.YtkcjfoaejijdoaaGreatDoor.M
namespace Go.Proofs.YtkcjfoaejijdoaaGreatDoor
open Go.RowKit M
structure FrD where
  u:Bool
  b:Bs
def TV (b:Bs):List UInt8:=(List.range 64).map fun i=>(b[i]?).getD 0
theorem R1 (b:Bs):(TV b).length=64:= by simp [TV]
theorem Rz {b:Bs} (h:b.length=64):TV b=b:= by
  apply List.ext_getElem?
  intro i
  by_cases hi:i<64
  · unfold TV; rw[List.getElem?_map,List.getElem?_range hi,Option.map_some,Zi (by omega)];rfl
  · rw[List.getElem?_eq_none (by rw[R1];omega),List.getElem?_eq_none (by omega)]
def CV (x:FrD):List Value:= .bool x.u::XC (TV x.b)
theorem Dx (l:List UInt8):(XC l).length=l.length:= by simp [XC]
theorem Sw (x:FrD):(CV x).length=65:= by unfold CV; rw[List.length_cons,Dx,R1]
theorem frE_one (x:FrD):HO (CV x)=true:= by
  refine MP fun v hv=> ?_
  unfold CV at hv
  rcases List.mem_cons.1 hv with rfl | hv
  · rfl
  · unfold XC at hv
    obtain⟨b,_,rfl⟩:=List.mem_map.1 hv
    rfl
def frC:RowC FrD:=⟨CV,65, by decide,Sw,frE_one⟩
def Da (x:FrD):Option Bs:= if x.u=true then some (TV x.b)else none
def Jh (fl:List (Option Bs)):Nat:=(fl.filter Option.isSome).length
def VR (p:Nat) (fl:List (Option Bs)):Th:=Ca fun q:Value×List FrD=>starL [JM (fl=q.2.map Da∧fl.length≤4096),Q3 p [q.1,intV (Jh fl:Nat)],rowT frC q.1 q.2]
theorem YE {w:World} {p:Nat} {fl:List (Option Bs)} {As:List Th} (h:Sat w (VR p fl::As)): ∃ao cap cl,fl=cl.map Da∧cl.length≤4096∧Sat w (Q3 p [.slice ao cl.length cap,intV (Jh fl:Nat)]::rowT frC (.slice ao cl.length cap) cl::As):= by
  obtain⟨⟨v,cl⟩,h⟩:=h.ex
  obtain⟨⟨h1,h3⟩,h2⟩:=h.flat.pure_elim
  obtain⟨ao,cap,hv,_⟩:=Sat.own_shape (As:=Q3 p _::rowT frC v cl::As) h2 1 rfl
  obtain rfl:=hv
  exact⟨ao,cap,cl,h1, by rw[h1,List.length_map]at h3; exact h3,h2⟩
theorem WY {w:World} {p:Nat} {fl:List (Option Bs)} {As:List Th} {v:Value} {cl:List FrD} (h1:fl=cl.map Da) (hl:cl.length≤4096) (h:Sat w (Q3 p [v,intV (Jh fl:Nat)]::rowT frC v cl::As)):Sat w (VR p fl::As):=
  Sat.ex_intro (v,cl) (Sat.fold (As:=[JM _,Q3 p _,rowT frC v cl]) (Sat.pure_intro ⟨h1, by rw[h1,List.length_map]; exact hl⟩ h))
theorem HS (fl:List (Option Bs)):Jh fl≤fl.length:=List.length_filter_le _ _
theorem DY: ∀{fl:List (Option Bs)} {k:Nat} {b:Bs},fl[k]? =some none→Jh (fl.set k (some b))=Jh fl+1
  | [],_,_,h=> by simp at h
  | a::fl,0,b,h=> by
    simp at h; subst h
    unfold Jh; simp
  | a::fl,k+1,b,h=> by
    have :=DY (fl:=fl) (k:=k) (b:=b) (by simpa using h)
    unfold Jh at this⊢
    rw[List.set_cons_succ,List.filter_cons,List.filter_cons]
    split
    · rw[List.length_cons,List.length_cons,this]
    · exact this
theorem Bw: ∀{fl:List (Option Bs)} {k:Nat} {b:Bs},fl[k]? =some (some b)→Jh (fl.set k none)+1=Jh fl
  | [],_,_,h=> by simp at h
  | a::fl,0,b,h=> by
    simp at h; subst h
    unfold Jh; simp
  | a::fl,k+1,b,h=> by
    have :=Bw (fl:=fl) (k:=k) (b:=b) (by simpa using h)
    unfold Jh at this⊢
    rw[List.set_cons_succ,List.filter_cons,List.filter_cons]
    split
    · rw[List.length_cons,List.length_cons,←this]
    · exact this
theorem Kf: ∀{fl:List (Option Bs)} {k:Nat} {b c:Bs},fl[k]? =some (some b)→Jh (fl.set k (some c))=Jh fl
  | [],_,_,_,h=> by simp at h
  | a::fl,0,b,c,h=> by
    simp at h; subst h
    unfold Jh; simp
  | a::fl,k+1,b,c,h=> by
    have :=Kf (fl:=fl) (k:=k) (b:=b) (c:=c) (by simpa using h)
    unfold Jh at this⊢
    rw[List.set_cons_succ,List.filter_cons,List.filter_cons]
    split
    · rw[List.length_cons,List.length_cons,this]
    · exact this
def ZS (fl:List (Option Bs)) (f:Int):Option Bs:= if 0≤f then(match fl[f.toNat]? with | some (some b)=>some b | _=>none)else none
theorem Y1 {fl:List (Option Bs)} {f:Int} {b:Bs} (h:ZS fl f=some b):0≤f∧fl[f.toNat]? =some (some b):= by
  unfold ZS at h
  split at h
  · rename_i h0
    refine⟨h0, ?_⟩
    split at h
    · rename_i b' hb; cases h; exact hb
    · cases h
  · cases h
theorem Od {cl:List FrD} {f:Int} {x:FrD} (h0:0≤f) (hx:cl[f.toNat]? =some x):ZS (cl.map Da) f=Da x:= by
  unfold ZS
  rw[if_pos h0,List.getElem?_map,hx,Option.map_some]
  unfold Da
  cases x.u<;>rfl
theorem M6 {cl:List FrD} {f:Int} (h:f<0∨(cl.length:Int)≤f):ZS (cl.map Da) f=none:= by
  unfold ZS
  split
  · rw[List.getElem?_eq_none (by rw[List.length_map];omega)]
  · rfl
theorem Lq {w:World} {p:Nat} {fl:List (Option Bs)} {F:Th} (hS:Sat w [VR p fl,F]):
    Calls Tryz.prog 60 #[ptrV p 0] w (Ret fun v w'=>v=intV (fl.length:Nat)∧Sat w' [VR p fl,F]):= by
 obtain⟨fa,fc,cl,hfl,hcl,hS⟩:=YE hS
 refine Qm Tryz.func60 U Tryz.ntmps60 U ?_
 exact Qd (Qa (Qe U U (Qf (Qc (Qd (Qa (Qb U U (Qj U U (Qg U JP U (Qn U HP (hS.cell 0 U U) U (Xr Tryz.underlying181 U U (Qe U U (Qf (Qc (Qu (QR (.inr U) U U (⟨_,rfl, by rw[hfl,List.length_map],WY hfl hcl (hS.pick [0,1,2] U)⟩)))))))))))))))))
theorem Lp {w:World} {p:Nat} {fl:List (Option Bs)} {F:Th} (hS:Sat w [VR p fl,F]):
    Calls Tryz.prog 61 #[ptrV p 0] w (Ret fun v w'=>v=intV (Jh fl:Nat)∧Sat w' [VR p fl,F]):= by
 obtain⟨fa,fc,cl,hfl,hcl,hS⟩:=YE hS
 refine Qm Tryz.func61 U Tryz.ntmps61 U ?_
 exact Qd (Qa (Qe U U (Qf (Qc (Qd (Qa (Qb U U (Qj U U (Qg U UV U (Qn U QL (hS.cell 0 U U) U (Qe U U (Qf (Qc (Qu (QR (.inr U) U U (⟨_,rfl,rfl,WY hfl hcl (hS.pick [0,1,2] U)⟩))))))))))))))))
theorem Rg {w:World} {p:Nat} {fl:List (Option Bs)} {F:Th} (hS:Sat w [VR p fl,F]) (f:Int):
    Calls Tryz.prog 138 #[ptrV p 0,intV f] w (Ret fun v w'=>v= .bool (ZS fl f).isSome∧Sat w' [VR p fl,F]):= by
 obtain⟨fa,fc,cl,hfl,hcl,hS⟩:=YE hS
 refine Qm Tryz.func138 U Tryz.ntmps138 U ?_
 refine Qd (Qa (Qe U U (Qf (Qc (Qd (Qa (Qb U U (JA U U U (Qb U U (QU 7 U (fun h1=> ?_) (fun h1=> ?_)))))))))))
 ·refine Ql U U (Xl h1) (Qb U U (Ql U U (Xl h1) (Qb U U (Ql U U (Xl h1) (Qj U U (Ql U U (Xl h1) (Qg U JP U (Ql U U (Xl h1) (Qn U HP (hS.cell 0 U U) U (Ql U U (Xl h1) (Xr Tryz.underlying181 U U (Ql U U (Xl h1) (Xg U U U (Q9 U (Xl h1) U U (Qb U U (QU 16 U (fun h2=> ?_) (fun h2=> ?_)))))))))))))))))
  ·obtain⟨x,hx⟩: ∃x,cl[f.toNat]? =some x:=⟨_,Zi (by omega)⟩
   refine Ql U U (Xl h2) (Qb U U (Ql U U (Xl h2) (Qj U U (Ql U U (Xl h2) (Qg U JP U (Ql U U (Xl h2) (Qn U HP (hS.cell 0 U U) U (Ql U U (Xl h2) (Qb U U (Ql U U (Xl h2) (QW frC 1 f.toNat hS U U U (by omega) hx Vb U ?_)))))))))))
   intro bx3 capx3 hvx3
   refine Ql U U (Xl h2) (Qg U Dc U (Ql U U (Xl h2) (XE 1 f.toNat 0 hS U hvx3 U U hx D3 U U (Q9 U (Xl h2) U U (Qe U U (Qf (Qc (Qh [4] U (Qu (QR (.inr U) U U ?_))))))))))
   exact⟨_,rfl, by rw[hfl,Od (by omega) hx];unfold Da; cases x.u<;>rfl,WY hfl hcl (hS.pick [0,1,2] U)⟩
  refine Qi U U (QC h2) U (Qi U U (QC h2) U (Qi U U (QC h2) U (Qi U U (QC h2) U (Qi U U (QC h2) U (Qi U U (QC h2) U (Qi U U (QC h2) U (Qi U U (QC h2) U (QP U (QC h2) U U (Qe U U (Qf (Qc (Qh [4] U (Qu (QR (.inr U) U U ?_))))))))))))))
  exact⟨_,rfl, by rw[hfl,M6 (by omega)];rfl,WY hfl hcl (hS.pick [0,1,2] U)⟩
 refine Qi U U (QC h1) U (Qi U U (QC h1) U (Qi U U (QC h1) U (Qi U U (QC h1) U (Qi U U (QC h1) U (Qi U U (QC h1) U (Qi U U (QC h1) U (QP U (QC h1) U U (Qb U U (Qi U U U U (Qi U U U U (Qi U U U U (Qi U U U U (Qi U U U U (Qi U U U U (Qi U U U U (Qi U U U U (QP U U U U (Qe U U (Qf (Qc (Qh [4] U (Qu (QR (.inr U) U U ?_)))))))))))))))))))))))
 exact⟨_,rfl, by rw[hfl,M6 (by omega)];rfl,WY hfl hcl (hS.pick [0,1,2] U)⟩
theorem Oc {cl:List FrD} {j:Nat} {x:FrD} (h:cl[j]? =some x):((frC.cells cl).drop (0+j*65+1)).take 64=XC (TV x.b):= by
  have h1:=RowC.cells_at (C:=frC) h
  have h2:=congrArg (List.drop 1) h1
  rw[List.drop_take,List.drop_drop]at h2
  rw[show 0+j*65+1=j*65+1 by omega]
  exact h2
theorem Pr {cl:List FrD} {j:Nat} {x:FrD} (h:cl[j]? =some x):0+j*65+1+64≤(frC.cells cl).length:= by
  have :=(XR h).1
  rw[RowC.cells_len]
  show _≤cl.length*65
  omega
theorem fr_copy {cl:List FrD} {j:Nat} {x:FrD} {s:Bs} (h:cl[j]? =some x) (hs:s.length=64):X9 (frC.cells cl) (0+j*65+1) (XC (s.take 64))=frC.cells (cl.set j ⟨x.u,s⟩):= by
  have hj:=(XR h).1
  have hE:=RowC.cells_at (C:=frC) h
  have hf:=Pr h
  rw[←RowC.cells_set (C:=frC) (X:=CV ⟨x.u,s⟩) U hj,List.take_of_length_le (by omega)]
  have e:CV ⟨x.u,s⟩= .bool x.u::XC s:= by unfold CV; rw[Rz hs]
  rw[e]
  have h0:(frC.cells cl)[j*65]? =some (.bool x.u):= by
    have :=congrArg (fun q=>q[0]?) hE
    simp only[List.getElem?_take,List.getElem?_drop]at this
    exact this
  have hbl:(XC s).length=64:= by rw[Dx,hs]
  unfold X9
  show _=(frC.cells cl).take (j*65)++(.bool x.u::XC s)++(frC.cells cl).drop (j*65+(Value.bool x.u::XC s).length)
  rw[List.length_cons,hbl, show 0+j*65+1=j*65+1 by omega,List.take_add_one,h0]
  simp [List.append_assoc]
theorem Tt {cl:List FrD} {k:Nat} {y:FrD}:(cl.set k y).map Da=(cl.map Da).set k (Da y):=List.map_set
theorem Gd {w:World} {p:Nat} {fl:List (Option Bs)} {F:Th} (hS:Sat w [VR p fl,F]) (f:Int):
    Calls Tryz.prog 91 #[ptrV p 0,intV f] w (Ret fun v w'=>v=strV ((ZS fl f).getD [])∧Sat w' [VR p fl,F]):= by
 refine Qm Tryz.func91 U Tryz.ntmps91 U ?_
 refine Qd (Qa (Qe U U (Qf (Qc (Qd (Qd (Qa (Qb U U (Qb U U (Qw Bj U (Rg (hS.sp [0] U) f) U ?_))))))))))
 rintro _ w1 ⟨rfl,hS1⟩
 replace hS1:=hS1.jn U U
 refine QQ U U (Qf (Qc (QN U (fun h2=> ?_) (fun h2=> ?_))))
 ·refine Qd (Qa (Qe U U (Qf (Qc (Qu (Qp (QR (.inr U) U U ?_)))))))
  exact⟨_,rfl, by rw[show ZS fl f=none from by cases hq:ZS fl f with | none=>rfl | some b=>simp_all];rfl,hS1.pick [0,1] U⟩
 obtain⟨cb,hcb⟩:=Option.isSome_iff_exists.1 (show(ZS fl f).isSome=true by simpa using h2)
 refine Qt (Qc (Qd ?_))
 obtain⟨fa,fc,cl,hfl,hcl,hSo⟩:=YE (hS1.pick [0,1] rfl)
 have hul:=HS fl; have hfll:=congrArg List.length hfl; rw[List.length_map]at hfll
 obtain⟨hf0,hfk⟩:=Y1 hcb
 have hfk2:=hfk
 rw[hfl,List.getElem?_map]at hfk2
 obtain⟨x,hx,hxo⟩:=Option.map_eq_some_iff.1 hfk2
 have hxu:x.u=true∧TV x.b=cb:= by unfold Da at hxo;split at hxo;(rename_i q; cases hxo; exact⟨q,rfl⟩); cases hxo
 have hxl:=(XR hx).1
 obtain⟨ob,oc9,hq9,_⟩:=hSo.own_at 1 rfl (by omega)
 cases hq9
 refine Qa (Qb U U (Qj U U (Qg U JP U (Qn U HP (hSo.cell 0 U U) U (Qb U U (Zq f.toNat U U (by omega) hxl Vb U ?_))))))
 refine Qg U Rn U (UD Tryz.underlying166 U U Ci U (Xu U (ev_strR 1 hSo cb U U U Tryz.underlying143 Tryz.underlying5 Tryz.underlying9 (by rw[Oc hx,hxu.2]) (by rw[←hxu.2,R1])) ?_))
 refine Qe U U (Qf (Qc (Qh [4] U (Qu (QR (.inr U) U U ?_)))))
 exact⟨_,rfl, by rw[hcb];rfl,WY hfl hcl (hSo.pick [0,1,2] U)⟩
def UT (fl:List (Option Bs)) (f:Int) (b:Bs):List (Option Bs):= match ZS fl f with | some _=>fl.set f.toNat (some b) | none=>fl
theorem BZ {fl:List (Option Bs)} {f:Int} {b c:Bs} (h:ZS fl f=some c):UT fl f b=fl.set f.toNat (some b):= by unfold UT; rw[h]
theorem Ps {fl:List (Option Bs)} {f:Int} {b:Bs} (h:ZS fl f=none):UT fl f b=fl:= by unfold UT; rw[h]
theorem Ud {w:World} {p:Nat} {fl:List (Option Bs)} {F:Th} (hS:Sat w [VR p fl,F]) (f:Int) (s:Bs) (hs:s.length=64):
    Calls Tryz.prog 160 #[ptrV p 0,intV f,strV s] w (Ret fun v w'=> ∃e,v=intV e∧Sat w' [VR p (UT fl f s),F]):= by
 refine Qm Tryz.func160 U Tryz.ntmps160 U ?_
 refine Qd (Qa (Qe U U (Qf (Qc (Qd (Qd (Qa (Qb U U (Qb U U (Qw Bj U (Rg (hS.sp [0] U) f) U ?_))))))))))
 rintro _ w1 ⟨rfl,hS1⟩
 replace hS1:=hS1.jn U U
 refine QQ U U (Qf (Qc (QN U (fun h2=> ?_) (fun h2=> ?_))))
 ·refine Qd (Qa (Qe U U (Qf (Qc (Qu (Qp (QR (.inr U) U U ?_)))))))
  exact⟨_,rfl,_,rfl, by rw[Ps (by cases hq:ZS fl f with | none=>rfl | some b=>simp_all)]; exact hS1.pick [0,1] U⟩
 obtain⟨cb,hcb⟩:=Option.isSome_iff_exists.1 (show(ZS fl f).isSome=true by simpa using h2)
 refine Qt (Qc (Qd ?_))
 obtain⟨fa,fc,cl,hfl,hcl,hSo⟩:=YE (hS1.pick [0,1] rfl)
 have hul:=HS fl; have hfll:=congrArg List.length hfl; rw[List.length_map]at hfll
 obtain⟨hf0,hfk⟩:=Y1 hcb
 have hfk2:=hfk
 rw[hfl,List.getElem?_map]at hfk2
 obtain⟨x,hx,hxo⟩:=Option.map_eq_some_iff.1 hfk2
 have hxu:x.u=true∧TV x.b=cb:= by unfold Da at hxo;split at hxo;(rename_i q; cases hxo; exact⟨q,rfl⟩); cases hxo
 have hxl:=(XR hx).1
 obtain⟨ob,oc9,hq9,_⟩:=hSo.own_at 1 rfl (by omega)
 cases hq9
 refine Qa (Qb U U (Qj U U (Qg U JP U (Qn U HP (hSo.cell 0 U U) U (Qb U U (Zq f.toNat U U (by omega) hxl Vb U ?_))))))
 refine Qg U Rn U (UD Tryz.underlying166 U U Ci U (Qb U U ?_))
 refine Ed 1 hSo U U U U Tryz.underlying143 Ci (by have :=Pr hx;omega) (fr_copy hx hs) U ?_
 intro w3 hS3; dsimp only[List.set]at hS3
 clear hSo
 refine Qe U U (Qf (Qc (Qh [1,0,6,7] U (Qd (Qa (Qb U U (Qj U U (Qg U JP U (Qn U HP (hS3.cell 0 U U) U (Qb U U (Zq f.toNat U U (by omega) hxl Vb U ?_)))))))))))
 refine Qg U Rn U (Qb U U ?_)
 refine Bo Tryz.underlying166 U U U (by rw[hs];rfl) Ci U ?_
 refine RE 1 hS3 U U U Tryz.underlying143 zr_5 U (by have :=Pr (cl:=cl.set f.toNat ⟨x.u,s⟩) (j:=f.toNat) (x:=⟨x.u,s⟩) (by rw[List.getElem?_set_self hxl]); simp only[Nat.zero_mul];omega) (xs':=frC.cells (cl.set f.toNat ⟨x.u,s⟩)) (by simp [X9]) U ?_
 intro w4 hS4a; dsimp only[List.set]at hS4a
 have hS4:=Sat.row_cast (C:=frC) (l:=cl.set f.toNat ⟨x.u,s⟩) (hS4a.pull 1 U) (by rw[List.length_set]) U U; dsimp only[List.eraseIdx]at hS4
 clear hS3
 refine Qf (Qc (Qh [6] U (Qd (Qa (Qe U U (Qf (Qc (Qu (QR (.inr U) U U ?_)))))))))
 have hfs:fl.set f.toNat (some s)=(cl.set f.toNat ⟨x.u,s⟩).map Da:= by rw[Tt,hfl];congr 1;unfold Da; rw[if_pos hxu.1,Rz hs]
 exact⟨_,rfl,_,rfl, by rw[BZ hcb]; exact WY hfs (by rw[List.length_set]; exact hcl) (by rw[Kf hfk]; exact hS4.pick [1,0,2] U)⟩
theorem frE_set {x:FrD} {at_:Nat} {b:UInt8} (h:at_<64):(CV x).set (1+at_) (Wu b)=CV ⟨x.u,(TV x.b).set at_ b⟩:= by
  unfold CV
  rw[Nat.add_comm 1 at_,List.set_cons_succ]
  congr 1
  dsimp only
  rw[Rz (b:=(TV x.b).set at_ b) (by rw[List.length_set,R1])]
  simp [XC,List.map_set,Wu]
theorem fru_sp {w:World} {F:Th} (hS:Sat w [F]) (x:FrD):
    Calls Tryz.prog 222 #[.agg (CV x).toArray] w (Ret fun v w'=>v= .bool (!x.u)∧Sat w' [F]):= by
 refine Qm Tryz.func222 U Tryz.ntmps222 U ?_
 refine Qd (Qa (Zd hS U U U ?_))
 intro bp wbp hSbp0
 have hSbp:Sat wbp [Q3 bp (CV x),F]:=hSbp0
 exact Qe U U (Qf (Qc (Qd (Qa (Qg U Dc U (Qn U D3 (hSbp.cell 0 U U) U (QQ U U (Qe U U (Qf (Qc (Qu (QR (.inr U) U U (⟨_,rfl,rfl,hSbp.pick [1] U⟩)))))))))))))
theorem frix_sp {w:World} {F:Th} (hS:Sat w [F]) {lv:Value} {l:List FrD} (hL:Ent F (RdL frC lv l)):
    Calls Tryz.prog 221 #[lv,.func (.func 222) #[] #[]] w (Ret fun v w'=>(v=intV (-1)∧(∀y∈l,y.u=true)∧Sat w' [F])∨(∃(k:Nat) (x:FrD),v=intV (k:Int)∧l[k]? =some x∧x.u=false∧Sat w' [F])):= by
 obtain⟨ao,cap,rfl,hmax⟩:=(hL.sat hS 0 rfl).shape
 refine Qm Tryz.func221 U Tryz.ntmps221 U ?_
 refine Qd (Qa (Qe U U (Qf (Qc (Qd (Qd (Qa (Qb U U (Xr Tryz.underlying181 U U (Qb U U (Qf (Qc (Qv ?_)))))))))))))
 refine Xb (fun K0 E0 W0=> ∃(i:Nat),K0=l.length -i∧E0=[(0,.slice ao l.length cap),(1,.func (.func 222) #[] #[]),(7,intV (l.length:Int)),(8,intV (i:Int))]∧Sat W0 [F]∧(i≤l.length)∧(∀j y,j<i→l[j]? =some y→y.u=true)) (L0:=[(0,_),(1,_),(7,_),(8,_)]) (l.length -0) (VN U U U U) ⟨0,rfl,rfl,hS, by omega, by omega⟩ ?_
 rintro _ _ w1 ⟨i,rfl,rfl,hS1,hi,hno⟩
 refine Qd (Qa (Xg U U U (Qf (Qc (Qd (Qs U (fun h2=> ?_) (fun h2=> ?_)))))))
 ·obtain⟨x,hx⟩: ∃x,l[i]? =some x:=⟨_,Zi (by omega)⟩
  obtain⟨b,off,rfl,_⟩:=(hL.sat hS1 0 rfl).get hx
  refine Qt (Qc (Qd (Qv (Qd (Qa (Qb U U (Qe U U (Qf (Qc (Qd (Qa (Qb U U (Qb U U (Qb U U (Zq i U U (by first | rfl | omega) ((XR hx).1) Vb U ?_)))))))))))))))
  refine Vh U ag_195 (by rw[Sw]; exact Ek) (vs:=CV x) ((hL.sat hS1 0 U).at_ hx) U ?_
  refine Y7 U cal_222 U (fru_sp (hS1.sp [] U) x) U ?_
  rintro e w3 ⟨_,rfl,rfl,hS3⟩; refine⟨_,rfl, ?_⟩
  replace hS3:=hS3.jn U U
  clear hS1
  refine Qf (Qc (Qh [8,7,1,0,5,16] U (QN U (fun h4=> ?_) (fun h4=> ?_))))
  ·have hux:x.u=false:= by simpa using h4
   exact Qd (Qa (Qb U U (Qe U U (Qf (Qc (Qu (Qz (Qp (Qp (Qz (Qp (QR (.inr U) U U (⟨_,rfl,.inr ⟨i,x,rfl,hx,hux,hS3.pick [0] U⟩⟩)))))))))))))
  have hux:x.u=true:= by simpa using h4
  refine Qt (Qk (Qc (Qa (QI U U (by omega) (by omega) U ?_))))
  refine Qb U U (Qf ?_)
  exact Q0 (L1:=[(0,_),(1,_),(7,_),(8,intV ((i+1:Nat):Int))]) (VN U U U U) (k1:=l.length -(i+1)) (by omega) ⟨i+1,rfl,rfl,hS3.pick [0] U, by omega, fun j y hj hq=> by by_cases e:j=i;(subst e; rw[hx]at hq; cases hq; exact hux); exact hno j y (by omega) hq⟩
 refine QM (Qo (Qo (Qx (Qc (Qd (Qa (Qe U U (Qf (Qc (Qu (QR (.inr U) U U ?_)))))))))))
 exact⟨_,rfl,.inl ⟨rfl, fun y hm=> by obtain⟨j,hj⟩:=List.mem_iff_getElem?.1 hm; exact hno j y (by have :=(XR hj).1;omega) hj,hS1.pick [0] rfl⟩⟩
theorem BY {w:World} {p:Nat} {fl:List (Option Bs)} {F:Th} (hS:Sat w [VR p fl,F]):
    Calls Tryz.prog 187 #[ptrV p 0] w (Ret fun v w'=>(v= .tuple #[intV 0,.bool false]∧(∀o∈fl,o≠none)∧Sat w' [VR p fl,F])∨(∃k:Nat,fl[k]? =some none∧v= .tuple #[intV (k:Int),.bool true]∧Sat w' [VR p (fl.set k (some (TV []))),F])):= by
 refine Qm Tryz.func187 U Tryz.ntmps187 U ?_
 refine Qd (Qa (Qe U U (Qe U U (Qf (Qc (Qd ?_))))))
 obtain⟨fa,fc,cl,hfl,hcl,hSo⟩:=YE (hS.pick [0,1] rfl)
 have hul:=HS fl; have hfll:=congrArg List.length hfl; rw[List.length_map]at hfll
 refine Qa (Qb U U (Qj U U (Qg U JP U (Qn U HP (hSo.cell 0 U U) U (XU cal_221 U (frix_sp (hSo.sp [] U) (Ent.starL (HE (C:=frC) (l:=cl) (by omega)) 1 U)) U ?_)))))
 rintro e w1 ⟨_,rfl,(⟨rfl,hno,hS1⟩ | ⟨k,x,rfl,hx,hux,hS1⟩)⟩
 ·refine⟨_,rfl, ?_⟩
  replace hS1:=hS1.jn U U
  clear hSo
  refine Qe U U (Qf (Qc (Qd (Qd (Qa (Qb U U (Xg U U U (Qf (Qc (Qh [0,2,3,4,11] U (Qs U (fun h2=> ?_) (fun h2=> ?_))))))))))))
  ·refine Qd (Qa (Qe U U (Qe U U (Qf (Qc (Qu (Qp (WW (.inr U) U U U ?_))))))))
   exact⟨_,rfl,.inl ⟨rfl, fun o ho=> by rw[hfl]at ho; obtain⟨y,hy,rfl⟩:=List.mem_map.1 ho;unfold Da; rw[if_pos (hno y hy)]; simp,WY hfl hcl (hS1.pick [0,1,2] rfl)⟩⟩
  exact absurd h2 (by decide)
 refine⟨_,rfl, ?_⟩
 replace hS1:=hS1.jn U U
 clear hSo
 refine Qe U U (Qf (Qc (Qd (Qd (Qa (Qb U U (Xg U U U (Qf (Qc (Qh [0,2,3,4,11] U (Qs U (fun h3=> ?_) (fun h3=> ?_))))))))))))
 ·exact absurd h3 (by omega)
 refine Qt (Qc (Qd (Qa (Qb U U (Qj U U (Qg U JP U (Qn U HP (hS1.cell 0 U U) U (Qb U U (Zu U ER asz_195 zr_195 U U (QW frC 1 k hS1 U U U (by rfl) hx Vb U ?_))))))))))
 intro bx4 capx4 hvx4
 refine Wx 1 k ⟨true,[]⟩ hS1 U hvx4 U U Ek (by rfl) ((XR hx).1) ?_
 intro w5 hS6; dsimp only[List.set]at hS6
 clear hS1
 refine Qf (Qc (Qh [0,2,3,4] U (Qd (Qa (Qb U U (Qj U U (Qg U UV U (Qn U QL (hS6.cell 0 U U) U (QI U U (by omega) (by omega) U ?_)))))))))
 refine Qj U U (Qg U UV U ?_)
 first | (refine Q6 hS6 U U JG (by rfl) (i:=0) U (Xa U) ?_)
 intro w7 hS8; dsimp only[List.set]at hS8
 clear hS6
 refine Qf (Qc (Qh [2,3,4] U (Qd (Qa (Qb U U (Qe U U (Qe U U (Qf (Qc (Qu (WW (.inr U) U U U ?_)))))))))))
 have hfk:fl[k]? =some none:= by rw[hfl,List.getElem?_map,hx,Option.map_some];unfold Da; rw[if_neg (by rw[hux];decide)]
 have hfs:fl.set k (some (TV []))=(cl.set k ⟨true,[]⟩).map Da:= by rw[Tt,hfl];rfl
 exact⟨_,rfl,.inr ⟨k,hfk,rfl,WY hfs (by rw[List.length_set]; exact hcl) (by rw[DY hfk,Int.natCast_add]; exact hS8.pick [0,1,2] U)⟩⟩
def Kv (fl:List (Option Bs)) (f:Int):List (Option Bs):= match ZS fl f with | some _=>fl.set f.toNat none | none=>fl
theorem Lr {w:World} {p:Nat} {fl:List (Option Bs)} {F:Th} (hS:Sat w [VR p fl,F]) (f:Int):
    Calls Tryz.prog 185 #[ptrV p 0,intV f] w (Ret fun v w'=> ∃e,v=intV e∧Sat w' [VR p (Kv fl f),F]):= by
 refine Qm Tryz.func185 U Tryz.ntmps185 U ?_
 refine Qd (Qa (Qe U U (Qf (Qc (Qd (Qd (Qa (Qb U U (Qb U U (Qw Bj U (Rg (hS.sp [0] U) f) U ?_))))))))))
 rintro _ w1 ⟨rfl,hS1⟩
 replace hS1:=hS1.jn U U
 refine QQ U U (Qf (Qc (QN U (fun h2=> ?_) (fun h2=> ?_))))
 ·refine Qd (Qa (Qe U U (Qf (Qc (Qu (Qp (QR (.inr U) U U ?_)))))))
  exact⟨_,rfl,_,rfl, by rw[show Kv fl f=fl by unfold Kv; rw[show ZS fl f=none from by cases hq:ZS fl f with | none=>rfl | some b=>simp_all]]; exact hS1.pick [0,1] U⟩
 obtain⟨cb,hcb⟩:=Option.isSome_iff_exists.1 (show(ZS fl f).isSome=true by simpa using h2)
 refine Qt (Qc (Qd ?_))
 obtain⟨fa,fc,cl,hfl,hcl,hSo⟩:=YE (hS1.pick [0,1] rfl)
 have hul:=HS fl; have hfll:=congrArg List.length hfl; rw[List.length_map]at hfll
 obtain⟨hf0,hfk⟩:=Y1 hcb
 have hfk2:=hfk
 rw[hfl,List.getElem?_map]at hfk2
 obtain⟨x,hx,hxo⟩:=Option.map_eq_some_iff.1 hfk2
 have hxu:x.u=true∧TV x.b=cb:= by unfold Da at hxo;split at hxo;(rename_i q; cases hxo; exact⟨q,rfl⟩); cases hxo
 have hxl:=(XR hx).1
 obtain⟨ob,oc9,hq9,_⟩:=hSo.own_at 1 rfl (by omega)
 cases hq9
 refine Qa (Qb U U (Qj U U (Qg U JP U (Qn U HP (hSo.cell 0 U U) U (Qb U U (Zq f.toNat U U (by omega) hxl Vb U ?_))))))
 refine Qg U Dc U ?_
 refine Jz 1 f.toNat 0 ⟨false,x.b⟩ hSo U U U (by show 0+f.toNat*65+0=f.toNat*65+0;omega) U Ej hx U (by decide) U U ?_
 intro w3 hS3; dsimp only[List.set]at hS3
 clear hSo
 refine Qf (Qc (Qh [0,4] U (Qd (Qa (Qb U U (Qj U U (Qg U UV U (Qn U QL (hS3.cell 0 U U) U (Vg U U (by omega) (by omega) U ?_)))))))))
 refine Qj U U (Qg U UV U ?_)
 first | (refine Q6 hS3 U U JG (by rfl) (i:=0) U (Xa U) ?_)
 intro w4 hS5; dsimp only[List.set]at hS5
 clear hS3
 refine Qf (Qc (Qd (Qa (Qe U U (Qf (Qc (Qu (QR (.inr U) U U ?_))))))))
 have hfs:fl.set f.toNat none=(cl.set f.toNat ⟨false,x.b⟩).map Da:= by rw[Tt,hfl];rfl
 have hus:=Bw hfk
 exact⟨_,rfl,_,rfl, by rw[show Kv fl f=fl.set f.toNat none by unfold Kv; rw[hcb]]; exact WY hfs (by rw[List.length_set]; exact hcl) (by rw[show((Jh (fl.set f.toNat none):Nat):Int)=(Jh fl:Nat) -1 by omega]; exact hS5.pick [0,1,2] U)⟩
theorem CU {w:World} {p:Nat} {fl:List (Option Bs)} {F:Th} (hS:Sat w [VR p fl,F]) (f at_:Int) (b:UInt8):
    Calls Tryz.prog 108 #[ptrV p 0,intV f,intV at_,Wu b] w (Ret fun v w'=>(((ZS fl f).isSome=false∨at_<0∨64≤at_)∧Sat w' [VR p fl,F])∨(v=intV 0∧ ∃cb,ZS fl f=some cb∧(0≤at_∧at_<64)∧Sat w' [VR p (fl.set f.toNat (some (cb.set at_.toNat b))),F])):= by
 refine Qm Tryz.func108 U Tryz.ntmps108 U ?_
 refine Qd (Qa (Qe U U (Qf (Qc (Qd (Qv (Qd (Qa (Qb U U (Qb U U (Qw Bj U (Rg (hS.sp [0] U) f) U ?_)))))))))))
 rintro _ w1 ⟨rfl,hS1⟩
 replace hS1:=hS1.jn U U
 refine QQ U U (Qe U U (Qf (Qc (QN U (fun h2=> ?_) (fun h2=> ?_)))))
 ·refine Qd (Qa (Qe U U (Qf (Qc (Qu (Qz (Qp (QR (.inr U) U U ?_))))))))
  exact⟨_,rfl, by rw[show ZS fl f=none from by cases hq:ZS fl f with | none=>rfl | some b=>simp_all]; exact .inl ⟨by simp,hS1.pick [0,1] U⟩⟩
 obtain⟨cb,hcb⟩:=Option.isSome_iff_exists.1 (show(ZS fl f).isSome=true by simpa using h2)
 refine Qd (Qa (Qb U U (Xg U U U (Qb U U (QU 17 U (fun h3=> ?_) (fun h3=> ?_))))))
 ·refine Qi U U (Xl h3) U (Qi U U (Xl h3) U (Q9 U (Xl h3) U U (Qe U U (Qf (Qc (Qh [3,2,1,0,8,14] U (Xf U (Qd (Qa (Qe U U (Qf (Qc (Qu (Qz (Qp (QR (.inr U) U U ?_))))))))))))))))
  exact⟨_,rfl,.inl ⟨by omega,hS1.pick [0,1] U⟩⟩
 refine Ql U U (QC h3) (Qb U U (Ql U U (QC h3) (JA U U U (QP U (QC h3) U U (Qe U U (Qf (Qc (Qh [3,2,1,0,8,14] U (Qs U (fun h4=> ?_) (fun h4=> ?_))))))))))
 ·refine Qd (Qa (Qe U U (Qf (Qc (Qu (Qz (Qp (QR (.inr U) U U ?_))))))))
  exact⟨_,rfl,.inl ⟨by omega,hS1.pick [0,1] U⟩⟩
 refine Qt (Qk (Qc (Qd ?_)))
 obtain⟨fa,fc,cl,hfl,hcl,hSo⟩:=YE (hS1.pick [0,1] rfl)
 have hul:=HS fl; have hfll:=congrArg List.length hfl; rw[List.length_map]at hfll
 obtain⟨hf0,hfk⟩:=Y1 hcb
 have hfk2:=hfk
 rw[hfl,List.getElem?_map]at hfk2
 obtain⟨x,hx,hxo⟩:=Option.map_eq_some_iff.1 hfk2
 have hxu:x.u=true∧TV x.b=cb:= by unfold Da at hxo;split at hxo;(rename_i q; cases hxo; exact⟨q,rfl⟩); cases hxo
 have hxl:=(XR hx).1
 obtain⟨ob,oc9,hq9,_⟩:=hSo.own_at 1 rfl (by omega)
 cases hq9
 refine Qa (Qb U U (Qj U U (Qg U JP U (Qn U HP (hSo.cell 0 U U) U (Qb U U (Qb U U (Qb U U (Zq f.toNat U U (by omega) hxl Vb U ?_))))))))
 refine Qg U Rn U (DC at_.toNat Tryz.underlying166 U U (by omega) (by omega) Ci U ?_)
 refine Jz 1 f.toNat (1+at_.toNat) (⟨x.u,(TV x.b).set at_.toNat b⟩:FrD) hSo U U U (by show 0+f.toNat*65+1+at_.toNat*1=f.toNat*65+(1+at_.toNat);omega) U Ci hx U (by show 1+at_.toNat<65;omega) (show(CV x).set (1+at_.toNat) (Wu b)=CV ⟨x.u,(TV x.b).set at_.toNat b⟩ from frE_set (by omega)) U ?_
 intro w5 hS5; dsimp only[List.set]at hS5
 clear hSo
 refine Qf (Qc (Qh [8] U (Qd (Qa (Qe U U (Qf (Qc (Qu (QR (.inr U) U U ?_)))))))))
 have hfs:fl.set f.toNat (some (cb.set at_.toNat b))=(cl.set f.toNat ⟨x.u,(TV x.b).set at_.toNat b⟩).map Da:= by rw[Tt,hfl];congr 1;unfold Da; rw[if_pos hxu.1,Rz (by rw[List.length_set,R1]),hxu.2]
 exact⟨_,rfl,.inr ⟨rfl,cb,hcb, by omega,WY hfs (by rw[List.length_set]; exact hcl) (by rw[Kf hfk]; exact hS5.pick [0,1,2] U)⟩⟩
theorem NQ (m:Nat):Jh (List.replicate m none)=0:= by unfold Jh; simp
theorem frow {Z:List Value} (hZ:Z=CV ⟨false,[]⟩) (m:Nat):(List.replicate m Z).flatten=frC.cells (List.replicate m ⟨false,[]⟩):= by
  subst hZ
  induction m with
  | zero=>rfl
  | succ m ih=> rw[List.replicate_succ,List.flatten_cons,ih,List.replicate_succ];rfl
theorem Oa {w:World} {F:Th} (hS:Sat w [F]) (n:Int):
    Calls Tryz.prog 57 #[intV n] w (Ret fun v w'=> ∃p,v=ptrV p 0∧Sat w' [VR p (List.replicate (min (max n 0) 4096).toNat none),F]):= by
 refine Qm Tryz.func57 U Tryz.ntmps57 U ?_
 refine Qd (Qa (Qe U U (Qf (Qc (Qd (Qa (Qb U U (Y3 U U U (Uq U U U (GH hS (min (max n 0) 4096).toNat U U (by omega) Tryz.underlying181 ifo_195 U (by omega) (by omega) U ?_))))))))))
 intro db w1 hS1a; have hS1:=hS1a.row_cast (l:=List.replicate (min (max n 0) 4096).toNat ⟨false,[]⟩) (C:=frC) (by simp) U (frow U _)
 refine Zu U ET asz_183 zr_183 U U (Zd hS1 U U U ?_)
 intro bp wbp hSbp
 clear hS1
 refine Qe U U (Qf (Qc (Qu (QR (.inr U) U U ?_))))
 exact⟨_,rfl,_,rfl,WY (cl:=List.replicate (min (max n 0) 4096).toNat ⟨false,[]⟩) (by rw[List.map_replicate];rfl) (by rw[List.length_replicate];omega) (by rw[NQ]; exact hSbp.pick [0,1,2] U)⟩
end Go.Proofs.YtkcjfoaejijdoaaGreatDoor
namespace Go.Proofs.YtkcjfoaejijdoaaGreatDoor.M
open Go.RowKit
def J8 (T b:Nat) (cs:List Value):Th where
  at_:= fun w F=>(F= fun k=>k=b)∧w.heap[b]? =some (.cells cs.toArray T (0,0))
  fr:= fun a ⟨e,h⟩=>⟨e, by rw[a.blk _ (by rw[e])]; exact h⟩
  lt:= fun {w F} ⟨e,h⟩ k hk=> by
    rw[e]at hk; subst hk
    rcases Nat.lt_or_ge k w.heap.size with g | g
    · exact g
    · rw[Array.getElem?_eq_none g]at h; cases h
def VT (e:Nat) (v:Value) (bs:List UInt8):Th where
  at_:= fun w F=>(F= fun k=>v.ownBlock=some k)∧w.ownsRow 0 e 1 v bs.length (byC.cells bs)∧(bs=[]→v= .slice none 0 0)
  fr:= fun {w w' F} a ⟨e1,⟨hl,h⟩,hn⟩=>⟨e1,⟨hl, by
    rcases h with h | ⟨g,cap,cur,h1,h2,h3,h4⟩
    · exact .inl h
    · exact .inr ⟨g,cap,cur,h1,h2, by rw[a.blk _ (by rw[e1,h1];rfl)]; exact h3,h4⟩⟩,hn⟩
  lt:= fun {w F} ⟨e1,h,_⟩ k hk=> by rw[e1]at hk; exact(h.lt k hk).2
theorem BQ {w:World} {e n:Nat} {v:Value} {xs:List Value} (h:w.ownsRow 0 e 1 v n xs): ∃foot,Own w v n 1 xs foot∧ ∀k,k∈foot↔v.ownBlock=some k:= by
  obtain⟨hl,⟨rfl,rfl⟩ | ⟨g,cap,cur,rfl,_,hg,hc,_,hs,ht⟩⟩:=h
  · exact⟨[],⟨hl,.inl ⟨rfl,rfl,rfl⟩⟩, by simp [Value.ownBlock]⟩
  · have he:xs++cur.toList.drop (n*1)=cur.toList:= by rw[←ht]; exact List.take_append_drop _ _
    refine⟨[g],⟨hl,.inr ⟨g,cap,cur.toList.drop (n*1),rfl,hc,⟨e,0,0, ?_,.inl (Nat.le_refl _)⟩, ?_,rfl⟩⟩, by simp [Value.ownBlock,eq_comm]⟩
    · rw[he]; exact hg
    · rw[he];simpa using hs
section
variable {P:Program} {n:Nat} {ops:Array Oper} {Q:Exit→Act→World→Prop} {rest:List Oper} {L:Env} {w:World} {d:Nat} {ty:TypeId} {pos:String} {aft:Array Edge} {As:List Th} {T e b:Nat} {cs:List Value}
theorem Sat.tblk (h:Sat w As) (i:Nat) (hi:As[i]? =some (J8 T b cs)):w.heap[b]? =some (.cells cs.toArray T (0,0)):= by
  obtain⟨F,_,h⟩:=h.get i hi; exact h
theorem Sat.tcell (h:Sat w As) (i:Nat) (hi:As[i]? =some (J8 T b cs)) {o:Nat} {v:Value} (hv:cs[o]? =some v):w.cell? ⟨b,o,none⟩=some v:= by
  rw[Lib.cell_of_heap (h.tblk i hi)];simpa using hv
theorem Sat.tshape (h:Sat w As) (i:Nat) (hi:As[i]? =some (J8 T b cs)):w.shape? b=some (T,cs.length):= by
  simp [World.shape?,h.tblk i hi]
theorem Sat.buf (h:Sat w As) (i:Nat) {v:Value} {bs:List UInt8} (hi:As[i]? =some (VT e v bs)):w.ownsRow 0 e 1 v bs.length (byC.cells bs)∧(bs=[]→v= .slice none 0 0):= by
  obtain⟨F,_,h⟩:=h.get i hi; exact h
theorem Sat.bufv (h:Sat w As) (i:Nat) {v:Value} {bs:List UInt8} (hi:As[i]? =some (VT e v bs)): ∃ao cap,v= .slice ao bs.length cap∧v.oneCell'=true∧(ao=none∧bs=[]∨ ∃g,ao=some ⟨g,0,none⟩∧cap≠0∧bs≠[]):= by
  obtain⟨⟨_,⟨rfl,h1⟩ | ⟨g,cap,cur,rfl,_,_,h1,_⟩⟩,hn⟩:=h.buf i hi
  · have :bs=[]:=List.eq_nil_of_length_eq_zero h1
    subst this
    exact⟨none,0,rfl,rfl,.inl ⟨rfl,rfl⟩⟩
  · have hb:bs≠[]:= fun e=> by have :=hn e; cases this
    have :0<bs.length:=List.length_pos_iff.2 hb
    exact⟨_,cap,rfl,rfl,.inr ⟨g,rfl, by omega,hb⟩⟩
theorem DW {t:Nat} {z:Value} (hS:Sat w As) (hz:Zl P t=some (some z)) (hcs:z.cells.toList=cs) (hd:Nat.blt d n=true) (hk: ∀b w',Sat w' (J8 t b cs::As)→wl P n ops Q rest ((d,ptrV b 0)::L) w'):wl P n ops Q (⟨some d,.alloc t,ty,pos,aft,none⟩::rest) L w:= by
  subst hcs
  refine XS U hd (R:= fun v w'=>v=ptrV w.heap.size 0∧w'=w.alloc (.cells z.cells t)) (fun a ha=>⟨_,_,.inl ?_,rfl,rfl⟩) (fun v w' ⟨e1,e2⟩=> ?_)
  · simp [execOp,Instr.alloc,JZ hz,newVar,newRow]
  · subst e1 e2
    refine hk _ _ (hS.new ((Only.refl _ _).alloc _) (A:=J8 t w.heap.size z.cells.toList) (F':= fun k=>k=w.heap.size) ⟨rfl, ?_⟩ (fun k hk=> by rw[hk]; exact Nat.le_refl _))
    simpa using heap_alloc_new w (.cells z.cells t)
theorem RD {x y:Operand} {t o i:Nat} {v:Value} (hS:Sat w As) (hx:look L x=some (ptrV b o)) (hy:look L y=some v) (hs:Wg P t=some 1) (h1:v.oneCell'=true) (hi:As[i]? =some (J8 T b cs)) (ho:o<cs.length)
    (hk: ∀w',Sat w' (As.set i (J8 T b (cs.set o v)))→wl P n ops Q rest L w'):wl P n ops Q (⟨none,.store t x y,ty,pos,aft,none⟩::rest) L w:= by
  have hb:=hS.tblk i hi
  have hc:=hS.tcell i hi (o:=o) (Zi ho)
  have hf:w.frozen? ⟨b,o,none⟩=false:=Lib.frozen_of_heap hb o
  have hcs:v.cells= #[v]:= by cases v<;>first | rfl | cases h1
  refine XS U U (R:= fun _ w'=>w'=w.setCell ⟨b,o,none⟩ v) (fun a ha=>⟨undef,_,.inr ⟨?_,rfl⟩,rfl⟩) (fun _ w' e=> ?_)
  · have hst:(store ⟨b,o,none⟩ v).run P w= .ok () (w.setCell ⟨b,o,none⟩ v):= by
      rw[run_store P w _ v _ h1,hc]; simp [hf]
    have e0:(⟨b,o,none⟩:Addr).add 0=⟨b,o,none⟩:= by simp [Addr.add]
    simp [execOp,ha.eval hx,ha.eval hy,Instr.storeAt,Instr.sureAddr,storeVar,hcs,run_sizeOf hs,storeCells,e0,hst]
  · subst e
    refine hk _ (hS.step i hi fun F ⟨e1,_⟩=>⟨F,⟨e1, ?_⟩, fun k hk=> .inl hk,((Only.refl [b] w).setCell (.inl (by simp)) v).agree (fun x hx=> .inl (by simp only[List.mem_singleton]at hx; subst hx; rw[e1]))⟩)
    simp [World.setCell,Array.getElem?_modify,hb]
theorem Ft {t t2:TypeId} {s x:Operand} {v xv z:Value} {bs l2:List UInt8} {bytes:Nat} (i:Nat) (hS:Sat w As) (hi:As[i]? =some (VT e v bs)) (hs:look L s=some v) (hx:look L x=some xv) (hr:RdL byC xv l2 w) (h0:l2≠[]) (hu:P.underlying t=some (.slice e)) (ht:t2=t)
    (hif:(P.info? e).map (fun i=>(i.zero,i.size,i.bytes))=some (some z,1,bytes)) (hz:z.cells.size=1) (hb:(bs.length+l2.length)*bytes≤140737488355328) (hm:bs.length+l2.length≤281474976710656) (hd:Nat.blt d n=true)
    (hk: ∀v' w',Sat w' (As.set i (VT e v' (bs++l2)))→wl P n ops Q rest ((d,v')::L) w'):wl P n ops Q (⟨some d,.call ⟨.builtin .append, #[s,x], #[t,t2]⟩,ty,pos,aft,none⟩::rest) L w:= by
  subst ht
  obtain⟨hown,hnil⟩:=hS.buf i hi
  obtain⟨foot,hO,hfoot⟩:=BQ hown
  obtain⟨ao,cap,rfl,hmax,hcells⟩:=hr
  obtain⟨c0,hc0⟩: ∃c0,l2[0]? =some c0:=⟨_,Zi (List.length_pos_iff.2 h0)⟩
  obtain⟨g0,off0,rfl,_⟩:=hcells 0 c0 hc0
  have hnews: ∀j u,(byC.cells l2)[j]? =some u→w.cell? ((⟨g0,off0,none⟩:Addr).add j)=some u:= by
    intro j u hu'
    rw[ZY]
    have hj:=(XR hu').1
    rw[byC.cells_len]at hj
    have hj':j<l2.length:= by simpa [byC]using hj
    obtain⟨g1,o1,e1,hc⟩:=hcells j l2[j] (Zi hj')
    cases e1
    have h2:(byC.cells l2)[j]? =some (.int .u8 (l2[j].toNat:Int)):= by
      have :=RowC.cells_at (C:=byC) (l:=l2) (j:=j) (Zi hj')
      have h3:=congrArg (fun q=>q[0]?) this
      simpa [byC,List.getElem?_take,List.getElem?_drop]using h3
    rw[h2]at hu'; cases hu'
    have :=hc 0 _ U
    simpa [byC]using this
  have hrd:RdL byC (.slice (some ⟨g0,off0,none⟩) l2.length cap) l2 w:=⟨_,cap,rfl,hmax,hcells⟩
  obtain⟨inf,hi1,hi2,hi3,hi4⟩:=info_parts hif
  refine XS U hd (R:= fun v w'=>Sat w' (As.set i (VT e v (bs++l2)))) (fun a ha=> ?_) (fun v w' hR=>hk v w' hR)
  obtain⟨v1,w1,hrun,foot',o1,o2,o3,_⟩:=Vc (P:=P) (o:=⟨some d,.call ⟨.builtin .append, #[s,x], #[t2,t2]⟩,ty,pos,aft,none⟩) (a:=a) t2 t2 s x rfl (ha.eval hs) (ha.eval hx) hO hu hu (by intro k hk; cases hk) hif hz (by decide) (hrd.lenOf) (hrd.first) (byC.cells_len l2) (W8 (byC.cells_one l2)) hb (by omega)
  obtain⟨v2,w2,hr2,hown2,_,_⟩:=run_append_own (P:=P) w 0 t2 ty e inf z 1 bytes hu hi1 hi2 hi3 hi4 hz (by decide) v bs.length (byC.cells bs) hown ⟨g0,off0,none⟩ l2.length cap (byC.cells l2) (byC.cells_len l2) hnews (W8 (byC.cells_one l2)) (by unfold maxLen;omega) hb (Nat.zero_le _)
  have hex:(execOp a.eval ⟨some d,.call ⟨.builtin .append, #[s,x], #[t2,t2]⟩,ty,pos,aft,none⟩).run P w= .ok (.value v2) w2:= by
    simp [execOp,ha.eval hs,ha.eval hx,resolve,invoke,builtin,hr2]
  have heq:v1=v2∧w1=w2:= by
    rcases hrun with h | ⟨h,_⟩
    · rw[hex]at h; cases h; exact⟨rfl,rfl⟩
    · rw[hex]at h; cases h
  obtain⟨rfl,rfl⟩:=heq
  refine⟨v1,w1,.inl hex, ?_⟩
  have hfoot': ∀k,v1.ownBlock=some k→k∈foot':= by
    intro k hk'
    obtain⟨_,⟨e1,_,_⟩ | ⟨b1,c1,s1,e1,_,_,_,rfl⟩⟩:=o1
    · rw[e1]at hk'; cases hk'
    · rw[e1]at hk'; simp [Value.ownBlock]at hk'; simp [hk']
  refine hS.step i hi fun F ⟨eF,_⟩=>⟨fun k=>v1.ownBlock=some k,⟨rfl, ?_, fun q=>absurd (List.append_eq_nil_iff.1 q).2 h0⟩, fun k hk'=> ?_,o2.agree fun k hk'=> ?_⟩
  · rw[List.length_append,←RowC.cells_app]; exact hown2
  · rcases o3 k (hfoot' k hk')with q | q
    · exact .inl (by rw[eF]; exact(hfoot k).1 q)
    · exact .inr q
  · exact .inl (by rw[eF]; exact(hfoot k).1 hk')
theorem KB {ao:Option Addr} {m cap:Nat} {ts:Array TypeId} {x:Operand} (hx:look L x=some (.slice ao m cap)) (h0:ao=none∨cap≠0) (hd:Nat.blt d n=true) (hk:wl P n ops Q rest ((d,.pointer ao)::L) w):wl P n ops Q (⟨some d,.call ⟨.builtin .unsafeSliceData, #[x],ts⟩,ty,pos,aft,none⟩::rest) L w:= by
  refine XS rfl hd (R:= fun v w'=>v= .pointer ao∧w'=w) (fun a ha=>⟨_,_,.inl ?_,rfl,rfl⟩) (by rintro _ _ ⟨rfl,rfl⟩; exact hk)
  have hr:(Builtin.unsafeSliceData_ ts ty #[.slice ao m cap]).run P w= .ok (.pointer ao) w:= by
    cases ao with
    | none=> exact Lib.run_unsafeSliceData_nil w ts ty m cap
    | some q=> exact Lib.run_unsafeSliceData_row w ts ty q m cap (by rcases h0 with h0 | h0; cases h0; exact h0)
  simp [execOp,ha.eval hx,resolve,invoke,builtin,hr]
theorem G9 {ao:Option Addr} {cap pt it:Nat} {bs:List UInt8} {x y:Operand} (i:Nat) (hS:Sat w As) (hi:As[i]? =some (VT e (.slice ao bs.length cap) bs)) (hx:look L x=some (.pointer ao)) (hy:look L y=some (.int .i64 (bs.length:Int))) (hp:P.underlying pt=some (.pointer e)) (hc:P.cellsOf e=1) (hlen:bs.length≤9223372036854775807) (hd:Nat.blt d n=true)
    (hk: ∀w',Sat w' (As.eraseIdx i)→wl P n ops Q rest ((d,strV bs)::L) w'):wl P n ops Q (⟨some d,.call ⟨.builtin .unsafeString, #[x,y], #[pt,it]⟩,ty,pos,aft,none⟩::rest) L w:= by
  obtain⟨hown,hnil⟩:=hS.buf i hi
  have hg: ∃w',(Builtin.unsafeString_ #[pt,it] ty #[.pointer ao,.int .i64 bs.length]).run P w= .ok (strV bs) w'∧Sat w' (As.eraseIdx i):= by
    by_cases h0:bs=[]
    · subst h0
      have hv:=hnil U
      simp only[Value.slice.injEq,List.length_nil,true_and]at hv
      obtain⟨rfl,_⟩:=hv
      exact⟨w,Lib.run_unsafeString_none w pt it ty none,hS.drop i hi⟩
    · obtain⟨_,⟨hv,h1⟩ | ⟨g,cap',cur,hv,_,hgb,h1,_,h2,h3⟩⟩:=hown
      · exact absurd (List.eq_nil_of_length_eq_zero h1) h0
      · simp only[Value.slice.injEq,true_and]at hv
        obtain⟨rfl,rfl⟩:=hv
        refine⟨w.freeze ⟨g,0,none⟩ bs.length,Lib.run_unsafeString_row w pt it ty e hp hc g cur.size (by simp [World.shape?,hgb]) bs h0 (by omega) hlen ?_, ?_⟩
        · intro j c hj
          rw[ZY]
          simp only[Nat.zero_add]
          rw[Lib.cell_of_heap hgb]
          have hj':=(XR hj).1
          have :(byC.cells bs)[j]? =some (.int .u8 (c.toNat:Int)):= by
            have :=RowC.cells_at (C:=byC) (l:=bs) (j:=j) hj
            have h3:=congrArg (fun q=>q[0]?) this
            simpa [byC,List.getElem?_take,List.getElem?_drop]using h3
          rw[←h3,List.getElem?_take]at this
          split at this
          · simpa using this
          · cases this
        · have hp1:=hS.pull i hi
          obtain⟨F,F1,F2,rfl,dj,⟨e1,_⟩,h2'⟩:=hp1
          refine⟨F2,(starL _).fr (F:=F2) ?_ h2'⟩
          have hb:=Lib.below_freeze (B:=0) (Below.refl 0 w) (p:=⟨g,0,none⟩) (Nat.zero_le _) bs.length
          refine⟨hb.os,hb.tape,hb.output, fun k hk'=> ?_⟩
          have hne:k≠g:= by
            rintro rfl
            exact dj k (by rw[e1];rfl) hk'
          unfold World.freeze
          split
          · rfl
          · simp only[Array.getElem?_modify]
            rw[if_neg (fun q=>hne q.symm)]
  obtain⟨w',h1,h2⟩:=hg
  refine XS rfl hd (R:= fun v u=>v=strV bs∧u=w') (fun a ha=>⟨_,_,.inl ?_,rfl,rfl⟩) (by rintro _ _ ⟨rfl,rfl⟩; exact hk _ h2)
  simp [execOp,ha.eval hx,ha.eval hy,resolve,invoke,builtin,h1]
theorem Cc {src dst t o:Nat} {x:Operand} {j:TypeInfo} {S:Nat×Nat} (hx:look L x=some (ptrV b o)) (hs:P.underlying src=some (.pointer t)) (hd':P.underlying dst=some .unsafePointer) (ht:P.info? t=some j) (hj:j.size≠0) (hsh:w.shape? b=some S) (ho:o<S.2) (hd:Nat.blt d n=true) (hk:wl P n ops Q rest ((d,ptrV b o)::L) w):wl P n ops Q (⟨some d,.convert src dst x,ty,pos,aft,none⟩::rest) L w:=
  Xu hd (fun ρ hρ=> by
    have :=Lib.run_to_unsafe (P:=P) (w:=w) (e:=S.1) (cells:=S.2) (⟨b,o,none⟩:Addr) hs hd' ht hj hsh ho
    simp [execOp,hρ _ _ hx,ptrV,this]) hk
theorem DD {src dst u o:Nat} {x:Operand} {j:TypeInfo} {S:Nat×Nat} (hx:look L x=some (ptrV b o)) (hs:P.underlying src=some .unsafePointer) (hd':P.underlying dst=some (.pointer u)) (hu:P.info? u=some j) (hsh:w.shape? b=some S) (hl:liesAt P P.depth S.1 (S.2/ P.cellsOf S.1) o u 1=true) (hd:Nat.blt d n=true) (hk:wl P n ops Q rest ((d,ptrV b o)::L) w):wl P n ops Q (⟨some d,.convert src dst x,ty,pos,aft,none⟩::rest) L w:=
  Xu hd (fun ρ hρ=> by
    have :=Lib.run_from_unsafe (P:=P) (w:=w) (e:=S.1) (cells:=S.2) (⟨b,o,none⟩:Addr) hs hd' hu hsh hl
    simp [execOp,hρ _ _ hx,ptrV,this]) hk
theorem DB {x y:Operand} {t t2 u:TypeId} {q:Addr} {j:TypeInfo} (hu:P.underlying t=some (.pointer u)) (hj:P.info? u=some j) (hx:look L x=some (.pointer (some q))) (hy:look L y=some (.pointer (some q))) (hd:Nat.blt d n=true) (hk:wl P n ops Q rest ((d,.bool false)::L) w):wl P n ops Q (⟨some d,.binOp .neq t x y t2,ty,pos,aft,none⟩::rest) L w:=
  Xu hd (fun ρ hρ=> by
    have h:(Op.equal t (.pointer (some q)) (.pointer (some q))).run P w= .ok true w:= by
      unfold Op.equal Op.maxDepth Op.equalIn
      simp [run_underlying hu,sizeOf,typeInfo,hj,run_sameAddr_same]
    simp [execOp,hρ _ _ hx,hρ _ _ hy,eqGuard,binOp,h]) hk
theorem NK {f : Nat} {fn : Func} {x : Operand} {ts : Array TypeId} {v : Value} (hf : P.funcs[f]? = some fn) (hname : (fn.name == "runtime.NumGoroutine") = false) (hb : fn.body.isNone = true) (hn : Extern.findNext fn = none) (he : Extern.find fn = some Extern.AbiNoEscape.same)
    (hx:look L x=some v) (hd:Nat.blt d n=true) (hk:wl P n ops Q rest ((d,v)::L) w):wl P n ops Q (⟨some d,.call ⟨.value (.func f), #[x],ts⟩,ty,pos,aft,none⟩::rest) L w:= by
  refine XS rfl hd (R:= fun u w'=>u=v∧w'=w) (fun a ha=>⟨_,_,.inl ?_,rfl,rfl⟩) (by rintro _ _ ⟨rfl,rfl⟩; exact hk)
  have hr:(Extern.AbiNoEscape.same #[v]).run P w= .ok v w:=rfl
  have hc:=run_callFunc_extern hf hname hb hn he #[v] w
  rw[hr]at hc
  simp only[execOp,resolve,Act.eval,Deferred.ofValue,invoke]
  have hxe:=ha.eval hx
  simp
  rw[hxe,hc];rfl
end
end Go.Proofs.YtkcjfoaejijdoaaGreatDoor.M
