/- Parts of rows that are bytes: copy into them, their text. Conditions: the rules' own hypotheses. -/
import Derived.Test.YtkgjmhcdacidoaaGreatDoorFw
import Derived.Test.YtkgjmhcdacidoaaGreatDoorRow
import Derived.Lib.Builder
import Derived.Lib.UnsafeStr
import Derived.Laws.AppendOwn
import Derived.Laws.Externs
import Derived.LaidEql
set_option linter.unusedVariables false
set_option maxRecDepth 100000
namespace Go.Proofs.YtkgjmhcdacidoaaGreatDoor.M
open Go.RowKit Proofs.Tryz
section
variable {P:Program} {n:Nat} {ops:Array Oper} {Q:Exit→Act→World→Prop} {rest:List Oper} {L:Env} {w:World} {d:Nat} {ty:TypeId} {pos:String} {aft:Array Edge}
theorem FD {As:List Th} (i:Nat) (hS:Sat w As) {x y:Operand} {dT sT e b o off m m' cap size dl dc:Nat} {v:Value} {s:List UInt8} {xs xs':List Value} (hi:As[i]? =some (W6 v m size xs)) (hv:v= .slice (some ⟨b,o,none⟩) m' cap) (hx:look L x=some (.slice (some ⟨b,off,none⟩) dl dc)) (hy:look L y=some (strV s)) (hu:P.underlying dT=some (.slice e)) (hs:ZO P e=some 1) (hfit:off+min s.length dl≤xs.length)
    (hxs:Xz xs off (Ze (s.take dl))=xs') (hd:Nat.blt d n=true) (hk: ∀w',Sat w' (As.set i (W6 v m size xs'))→wl P n ops Q rest ((d,.int .i64 ((min s.length dl:Nat):Int))::L) w'):wl P n ops Q (⟨some d,.call ⟨.builtin .copy, #[x,y], #[dT,sT]⟩,ty,pos,aft,none⟩::rest) L w:= by
  subst hxs
  obtain⟨sp,hb,hback⟩:=hS.own_row i hi hv
  refine XG U hd (fun a ha=>BV dT sT x y U (ha.eval hx) (ha.eval hy) hb hu hs (by rw[Kj]; simp;omega)) ?_
  rintro u w' ⟨rfl,h1,h2,_⟩
  rw[Kj]
  have hl:off+(Ze (s.take dl)).length≤xs.length:= by simp [Ze];omega
  refine hk w' (hback w' _ (WH hl) ?_ h2)
  rw[←J8 hl]
  exact h1
theorem ev_strR {As:List Th} (i:Nat) (hS:Sat w As) {x:Operand} {sT dT e b o off m m' cap size dl dc:Nat} {v:Value} (l:List UInt8) {xs:List Value} (hi:As[i]? =some (W6 v m size xs)) (hv:v= .slice (some ⟨b,o,none⟩) m' cap) (hx:look L x=some (.slice (some ⟨b,off,none⟩) dl dc)) (hs:P.underlying sT=some (.slice e)) (he:P.underlying e=some (.int .u8)) (hd:P.underlying dT=some .string) (hl:(xs.drop off).take dl=Ze l) (hn:l.length=dl):Ev P L w ⟨some d,.convert sT dT x,ty,pos,aft,none⟩ (strV l):= fun ρ hρ=> by
  obtain⟨sp,hb,_⟩:=hS.own_row i hi hv
  subst hn
  have hr:=run_convert_bytes_back (P:=P) w sT dT e ⟨b,off,none⟩ dc l hs he hd (fun j hj=> by
    rw[ZL]
    refine hb.cell ?_
    have h1:=congrArg (fun q=>q[j]?) hl
    simp only[List.getElem?_take,hj,if_true,List.getElem?_drop,B9]at h1
    have hlt:off+j<xs.length:= by
      rcases Nat.lt_or_ge (off+j) xs.length with g | g
      · exact g
      · rw[List.getElem?_eq_none g,Zd hj]at h1; cases h1
    rw[List.getElem?_append_left hlt,h1,Zd hj];rfl)
  simp [execOp,hρ _ _ hx,hr]
theorem G7 {x y:Operand} {t e N b o sz:Nat} {k:IntKind} {i:Int} (hu:P.underlying t=some (.array N e)) (hN:Nat.blt 0 N=true) (hx:look L x=some (ptrV b o)) (hy:look L y=some (.int k i)) (hi:i=(N:Int)) (hs:ZO P e=some sz) (hd:Nat.blt d n=true) (hk:wl P n ops Q rest ((d,.slice (some ⟨b,o,none⟩) 0 0)::L) w):wl P n ops Q (⟨some d,.slice t x (some y) none none,ty,pos,aft,none⟩::rest) L w:=
  Xv hd (fun ρ hρ=> by
    have h3: ∀w,(sizeOf e).run P w= .ok sz w:= fun w=>Zm hs w
    have hn: ¬N=0:= by simp at hN;omega
    have hb:= fun w=>VD (P:=P) false N N (some (.int k i)) none N N ⟨k, by rw[hi]⟩ U (Nat.le_refl _) (Nat.le_refl _) w
    simp [execOp,hρ _ _ hx,hρ _ _ hy,Instr.sliceAt,run_underlying hu,Instr.sureAddr,hb,h3,hn]) hk
end
end Go.Proofs.YtkgjmhcdacidoaaGreatDoor.M
namespace Go.Proofs.YtkgjmhcdacidoaaGreatDoor
open Go.RowKit M Proofs.Tryz
structure FrD where
  u:Bool
  b:Bs
def MO (b:Bs):List UInt8:=(List.range 64).map fun i=>(b[i]?).getD 0
theorem KK (b:Bs):(MO b).length=64:= by simp [MO]
theorem KJ {b:Bs} (h:b.length=64):MO b=b:= by
  apply List.ext_getElem?
  intro i
  by_cases hi:i<64
  · unfold MO; rw[List.getElem?_map,List.getElem?_range hi,Option.map_some,Zd (by omega)];rfl
  · rw[List.getElem?_eq_none (by rw[KK];omega),List.getElem?_eq_none (by omega)]
def TT (x:FrD):List Value:= .bool x.u::Ze (MO x.b)
theorem B8 (l:List UInt8):(Ze l).length=l.length:= by simp [Ze]
theorem Pw (x:FrD):(TT x).length=65:= by unfold TT; rw[List.length_cons,B8,KK]
theorem frE_one (x:FrD):QV (TT x)=true:= by
  refine DT fun v hv=> ?_
  unfold TT at hv
  rcases List.mem_cons.1 hv with rfl | hv
  · rfl
  · unfold Ze at hv
    obtain⟨b,_,rfl⟩:=List.mem_map.1 hv
    rfl
def frC:RowC FrD:=⟨TT,65, by decide,Pw,frE_one⟩
def Bp (x:FrD):Option Bs:= if x.u=true then some (MO x.b)else none
def JC (fl:List (Option Bs)):Nat:=(fl.filter Option.isSome).length
def Kw (p:Nat) (fl:List (Option Bs)):Th:=CH fun q:Value×List FrD=>starL [JN (fl=q.2.map Bp∧fl.length≤4096),QE p [q.1,intV (JC fl:Nat)],rowT frC q.1 q.2]
theorem H8 {w:World} {p:Nat} {fl:List (Option Bs)} {As:List Th} (h:Sat w (Kw p fl::As)): ∃ao cap cl,fl=cl.map Bp∧cl.length≤4096∧Sat w (QE p [.slice ao cl.length cap,intV (JC fl:Nat)]::rowT frC (.slice ao cl.length cap) cl::As):= by
  obtain⟨⟨v,cl⟩,h⟩:=h.ex
  obtain⟨⟨h1,h3⟩,h2⟩:=h.flat.pure_elim
  obtain⟨ao,cap,hv,_⟩:=Sat.own_shape (As:=QE p _::rowT frC v cl::As) h2 1 rfl
  obtain rfl:=hv
  exact⟨ao,cap,cl,h1, by rw[h1,List.length_map]at h3; exact h3,h2⟩
theorem J1 {w:World} {p:Nat} {fl:List (Option Bs)} {As:List Th} {v:Value} {cl:List FrD} (h1:fl=cl.map Bp) (hl:cl.length≤4096) (h:Sat w (QE p [v,intV (JC fl:Nat)]::rowT frC v cl::As)):Sat w (Kw p fl::As):=
  Sat.ex_intro (v,cl) (Sat.fold (As:=[JN _,QE p _,rowT frC v cl]) (Sat.pure_intro ⟨h1, by rw[h1,List.length_map]; exact hl⟩ h))
theorem YW (fl:List (Option Bs)):JC fl≤fl.length:=List.length_filter_le _ _
theorem De: ∀{fl:List (Option Bs)} {k:Nat} {b:Bs},fl[k]? =some none→JC (fl.set k (some b))=JC fl+1
  | [],_,_,h=> by simp at h
  | a::fl,0,b,h=> by
    simp at h; subst h
    unfold JC; simp
  | a::fl,k+1,b,h=> by
    have :=De (fl:=fl) (k:=k) (b:=b) (by simpa using h)
    unfold JC at this⊢
    rw[List.set_cons_succ,List.filter_cons,List.filter_cons]
    split
    · rw[List.length_cons,List.length_cons,this]
    · exact this
theorem HR: ∀{fl:List (Option Bs)} {k:Nat} {b:Bs},fl[k]? =some (some b)→JC (fl.set k none)+1=JC fl
  | [],_,_,h=> by simp at h
  | a::fl,0,b,h=> by
    simp at h; subst h
    unfold JC; simp
  | a::fl,k+1,b,h=> by
    have :=HR (fl:=fl) (k:=k) (b:=b) (by simpa using h)
    unfold JC at this⊢
    rw[List.set_cons_succ,List.filter_cons,List.filter_cons]
    split
    · rw[List.length_cons,List.length_cons,←this]
    · exact this
theorem V7: ∀{fl:List (Option Bs)} {k:Nat} {b c:Bs},fl[k]? =some (some b)→JC (fl.set k (some c))=JC fl
  | [],_,_,_,h=> by simp at h
  | a::fl,0,b,c,h=> by
    simp at h; subst h
    unfold JC; simp
  | a::fl,k+1,b,c,h=> by
    have :=V7 (fl:=fl) (k:=k) (b:=b) (c:=c) (by simpa using h)
    unfold JC at this⊢
    rw[List.set_cons_succ,List.filter_cons,List.filter_cons]
    split
    · rw[List.length_cons,List.length_cons,this]
    · exact this
def ZH (fl:List (Option Bs)) (f:Int):Option Bs:= if 0≤f then(match fl[f.toNat]? with | some (some b)=>some b | _=>none)else none
theorem Yi {fl:List (Option Bs)} {f:Int} {b:Bs} (h:ZH fl f=some b):0≤f∧fl[f.toNat]? =some (some b):= by
  unfold ZH at h
  split at h
  · rename_i h0
    refine⟨h0, ?_⟩
    split at h
    · rename_i b' hb; cases h; exact hb
    · cases h
  · cases h
theorem Ea {cl:List FrD} {f:Int} {x:FrD} (h0:0≤f) (hx:cl[f.toNat]? =some x):ZH (cl.map Bp) f=Bp x:= by
  unfold ZH
  rw[if_pos h0,List.getElem?_map,hx,Option.map_some]
  unfold Bp
  cases x.u<;>rfl
theorem DE {cl:List FrD} {f:Int} (h:f<0∨(cl.length:Int)≤f):ZH (cl.map Bp) f=none:= by
  unfold ZH
  split
  · rw[List.getElem?_eq_none (by rw[List.length_map];omega)]
  · rfl
theorem Kv {w:World} {p:Nat} {fl:List (Option Bs)} {F:Th} (hS:Sat w [Kw p fl,F]) (f:Int):
    Calls prog 120 #[ptrV p 0,intV f] w (Ret fun v w'=>v= .bool (ZH fl f).isSome∧Sat w' [Kw p fl,F]):= by
 obtain⟨fa,fc,cl,hfl,hcl,hS⟩:=H8 hS
 refine Qn func120 U ntmps120 U ?_
 refine Qe (Qa (Qd U U (Qf (Qc (Qe (Qa (Qb U U (Jr U U U (Qb U U (QZ 7 U (fun h1=> ?_) (fun h1=> ?_)))))))))))
 ·refine Qj U U (det h1) (Qb U U (Qj U U (det h1) (Qb U U (Qj U U (det h1) (Qi U U (Qj U U (det h1) (Qg U JY U (Qj U U (det h1) (Qo U Ui (by first | assumption | exact hS.cell 0 U U) U ?_)))))))))
  refine Qj U U (det h1) ?_
  first | refine XB underlying144 U U ?_ | refine Xo 1 hS underlying144 U U U ?_
  refine Qj U U (det h1) (Xn U U U (QN U (det h1) U U (Qb U U (QZ 16 U (fun h2=> ?_) (fun h2=> ?_)))))
  ·obtain⟨x,hx⟩: ∃x,cl[f.toNat]? =some x:=⟨_,Zd (by omega)⟩
   refine Qj U U (det h2) (Qb U U (Qj U U (det h2) (Qi U U (Qj U U (det h2) (Qg U JY U (Qj U U (det h2) (Qo U Ui (by first | assumption | exact hS.cell 0 U U) U ?_)))))))
   refine Qj U U (det h2) (Qb U U (Qj U U (det h2) (Xg frC 1 f.toNat hS U U U (by omega) hx U7 U ?_)))
   intro bx3 capx3 hvx3
   refine Qj U U (det h2) (Qg U Br U (Qj U U (det h2) (XY 1 f.toNat 0 hS U hvx3 U U hx VU U U (QN U (det h2) U U (Qd U U (Qf (Qc (Qh [4] U (Qv (QR (.inr U) U U ?_))))))))))
   exact⟨_,rfl, by rw[hfl,Ea (by omega) hx];unfold Bp; cases x.u<;>rfl,J1 hfl hcl (hS.pick [0,1,2] U)⟩
  refine Qk U U (QF h2) U (Qk U U (QF h2) U (Qk U U (QF h2) U (Qk U U (QF h2) U (Qk U U (QF h2) U (Qk U U (QF h2) U (Qk U U (QF h2) U (Qk U U (QF h2) U (QC U (QF h2) U U (Qd U U (Qf (Qc (Qh [4] U (Qv (QR (.inr U) U U ?_))))))))))))))
  exact⟨_,rfl, by rw[hfl,DE (by omega)];rfl,J1 hfl hcl (hS.pick [0,1,2] U)⟩
 refine Qk U U (QF h1) U (Qk U U (QF h1) U (Qk U U (QF h1) U (Qk U U (QF h1) U (Qk U U (QF h1) U (Qk U U (QF h1) U (Qk U U (QF h1) U (QC U (QF h1) U U (Qb U U (Qk U U U U (Qk U U U U (Qk U U U U (Qk U U U U (Qk U U U U (Qk U U U U (Qk U U U U (Qk U U U U (QC U U U U (Qd U U (Qf (Qc (Qh [4] U (Qv (QR (.inr U) U U ?_)))))))))))))))))))))))
 exact⟨_,rfl, by rw[hfl,DE (by omega)];rfl,J1 hfl hcl (hS.pick [0,1,2] U)⟩
theorem LZ {cl:List FrD} {j:Nat} {x:FrD} (h:cl[j]? =some x):((frC.cells cl).drop (0+j*65+1)).take 64=Ze (MO x.b):= by
  have h1:=RowC.cells_at (C:=frC) h
  have h2:=congrArg (List.drop 1) h1
  rw[List.drop_take,List.drop_drop]at h2
  rw[show 0+j*65+1=j*65+1 by omega]
  exact h2
theorem Np {cl:List FrD} {j:Nat} {x:FrD} (h:cl[j]? =some x):0+j*65+1+64≤(frC.cells cl).length:= by
  have :=(XL h).1
  rw[RowC.cells_len]
  show _≤cl.length*65
  omega
theorem fr_copy {cl:List FrD} {j:Nat} {x:FrD} {s:Bs} (h:cl[j]? =some x) (hs:s.length=64):Xz (frC.cells cl) (0+j*65+1) (Ze (s.take 64))=frC.cells (cl.set j ⟨x.u,s⟩):= by
  have hj:=(XL h).1
  have hE:=RowC.cells_at (C:=frC) h
  have hf:=Np h
  rw[←RowC.cells_set (C:=frC) (X:=TT ⟨x.u,s⟩) U hj,List.take_of_length_le (by omega)]
  have e:TT ⟨x.u,s⟩= .bool x.u::Ze s:= by unfold TT; rw[KJ hs]
  rw[e]
  have h0:(frC.cells cl)[j*65]? =some (.bool x.u):= by
    have :=congrArg (fun q=>q[0]?) hE
    simp only[List.getElem?_take,List.getElem?_drop]at this
    exact this
  have hbl:(Ze s).length=64:= by rw[B8,hs]
  unfold Xz
  show _=(frC.cells cl).take (j*65)++(.bool x.u::Ze s)++(frC.cells cl).drop (j*65+(Value.bool x.u::Ze s).length)
  rw[List.length_cons,hbl, show 0+j*65+1=j*65+1 by omega,List.take_add_one,h0]
  simp [List.append_assoc]
theorem Mw {cl:List FrD} {k:Nat} {y:FrD}:(cl.set k y).map Bp=(cl.map Bp).set k (Bp y):=List.map_set
theorem Rv {w:World} {p:Nat} {fl:List (Option Bs)} {F:Th} (hS:Sat w [Kw p fl,F]) (f:Int):
    Calls prog 86 #[ptrV p 0,intV f] w (Ret fun v w'=>v=strV ((ZH fl f).getD [])∧Sat w' [Kw p fl,F]):= by
 refine Qn func86 U ntmps86 U ?_
 refine Qe (Qa (Qd U U (Qf (Qc (Qe (Qe (Qa (Qb U U (Qb U U (Q0 Gy U (Kv (hS.sp [0] U) f) U ?_))))))))))
 rintro _ w1 ⟨rfl,j1⟩
 replace j1:=j1.jn U U
 refine QU U U (Qf (Qc (QS U (fun h2=> ?_) (fun h2=> ?_))))
 ·refine Qe (Qa (Qd U U (Qf (Qc (Qv (Qr (QR (.inr U) U U ?_)))))))
  exact⟨_,rfl, by rw[show ZH fl f=none from by cases hq:ZH fl f with | none=>rfl | some b=>simp_all];rfl,j1.pick [0,1] U⟩
 obtain⟨cb,hcb⟩:=Option.isSome_iff_exists.1 (show(ZH fl f).isSome=true by simpa using h2)
 refine Qs (Qc (Qe ?_))
 obtain⟨fa,fc,cl,hfl,hcl,hSo⟩:=H8 (j1.pick [0,1] rfl)
 have hul:=YW fl; have hfll:=congrArg List.length hfl; rw[List.length_map]at hfll
 obtain⟨hf0,hfk⟩:=Yi hcb
 have hfk2:=hfk
 rw[hfl,List.getElem?_map]at hfk2
 obtain⟨x,hx,hxo⟩:=Option.map_eq_some_iff.1 hfk2
 have hxu:x.u=true∧MO x.b=cb:= by unfold Bp at hxo;split at hxo;(rename_i q; cases hxo; exact⟨q,rfl⟩); cases hxo
 have hxl:=(XL hx).1
 obtain⟨ob,oc9,hq9,_⟩:=hSo.own_at 1 rfl (by omega)
 cases hq9
 refine Qa (Qb U U (Qi U U (Qg U JY U (Qo U Ui (by first | assumption | exact hSo.cell 0 U U) U ?_))))
 refine Qb U U (Za f.toNat U U (by omega) hxl U7 U ?_)
 refine Qg U K4 U (R2 underlying166 U U Tc U (Xv U (ev_strR 1 hSo cb U U U underlying176 underlying5 underlying9 (by rw[LZ hx,hxu.2]) (by rw[←hxu.2,KK])) ?_))
 refine Qd U U (Qf (Qc (Qh [4] U (Qv (QR (.inr U) U U ?_)))))
 exact⟨_,rfl, by rw[hcb];rfl,J1 hfl hcl (hSo.pick [0,1,2] U)⟩
def U3 (fl:List (Option Bs)) (f:Int) (b:Bs):List (Option Bs):= match ZH fl f with | some _=>fl.set f.toNat (some b) | none=>fl
theorem Bo {fl:List (Option Bs)} {f:Int} {b c:Bs} (h:ZH fl f=some c):U3 fl f b=fl.set f.toNat (some b):= by unfold U3; rw[h]
theorem Nq {fl:List (Option Bs)} {f:Int} {b:Bs} (h:ZH fl f=none):U3 fl f b=fl:= by unfold U3; rw[h]
theorem H7 {w:World} {p:Nat} {fl:List (Option Bs)} {F:Th} (hS:Sat w [Kw p fl,F]) (f:Int) (s:Bs) (hs:s.length=64):
    Calls prog 158 #[ptrV p 0,intV f,strV s] w (Ret fun v w'=> ∃e,v=intV e∧Sat w' [Kw p (U3 fl f s),F]):= by
 refine Qn func158 U ntmps158 U ?_
 refine Qe (Qa (Qd U U (Qf (Qc (Qe (Qe (Qa (Qb U U (Qb U U (Q0 Gy U (Kv (hS.sp [0] U) f) U ?_))))))))))
 rintro _ w1 ⟨rfl,j1⟩
 replace j1:=j1.jn U U
 refine QU U U (Qf (Qc (QS U (fun h2=> ?_) (fun h2=> ?_))))
 ·refine Qe (Qa (Qd U U (Qf (Qc (Qv (Qr (QR (.inr U) U U ?_)))))))
  exact⟨_,rfl,_,rfl, by rw[Nq (by cases hq:ZH fl f with | none=>rfl | some b=>simp_all)]; exact j1.pick [0,1] U⟩
 obtain⟨cb,hcb⟩:=Option.isSome_iff_exists.1 (show(ZH fl f).isSome=true by simpa using h2)
 refine Qs (Qc (Qe ?_))
 obtain⟨fa,fc,cl,hfl,hcl,hSo⟩:=H8 (j1.pick [0,1] rfl)
 have hul:=YW fl; have hfll:=congrArg List.length hfl; rw[List.length_map]at hfll
 obtain⟨hf0,hfk⟩:=Yi hcb
 have hfk2:=hfk
 rw[hfl,List.getElem?_map]at hfk2
 obtain⟨x,hx,hxo⟩:=Option.map_eq_some_iff.1 hfk2
 have hxu:x.u=true∧MO x.b=cb:= by unfold Bp at hxo;split at hxo;(rename_i q; cases hxo; exact⟨q,rfl⟩); cases hxo
 have hxl:=(XL hx).1
 obtain⟨ob,oc9,hq9,_⟩:=hSo.own_at 1 rfl (by omega)
 cases hq9
 refine Qa (Qb U U (Qi U U (Qg U JY U (Qo U Ui (by first | assumption | exact hSo.cell 0 U U) U ?_))))
 refine Qb U U (Za f.toNat U U (by omega) hxl U7 U ?_)
 refine Qg U K4 U (R2 underlying166 U U Tc U (Qb U U ?_))
 refine FD 1 hSo U U U U underlying176 Tc (by have :=Np hx;omega) (fr_copy hx hs) U ?_
 intro w3 j3; dsimp only[List.set]at j3
 clear hSo
 refine Qd U U (Qf (Qc (Qh [1,0,6,7] U (Qe (Qa (Qb U U (Qi U U (Qg U JY U (Qo U Ui (by first | assumption | exact j3.cell 0 U U) U ?_)))))))))
 refine Qb U U (Za f.toNat U U (by omega) hxl U7 U ?_)
 refine Qg U K4 U (Qb U U ?_)
 refine G7 underlying166 U U U (by rw[hs];rfl) Tc U ?_
 refine BZ 1 j3 U U U underlying176 zr_5 U (by have :=Np (cl:=cl.set f.toNat ⟨x.u,s⟩) (j:=f.toNat) (x:=⟨x.u,s⟩) (by rw[List.getElem?_set_self hxl]); simp only[Nat.zero_mul];omega) (xs':=frC.cells (cl.set f.toNat ⟨x.u,s⟩)) (by simp [Xz]) U ?_
 intro w4 hS4a; dsimp only[List.set]at hS4a
 have j4:=Sat.row_cast (C:=frC) (l:=cl.set f.toNat ⟨x.u,s⟩) (hS4a.pull 1 U) (by rw[List.length_set]) U U; dsimp only[List.eraseIdx]at j4
 refine Qf (Qc (Qh [6] U (Qe (Qa (Qd U U (Qf (Qc (Qv (QR (.inr U) U U ?_)))))))))
 have hfs:fl.set f.toNat (some s)=(cl.set f.toNat ⟨x.u,s⟩).map Bp:= by rw[Mw,hfl];congr 1;unfold Bp; rw[if_pos hxu.1,KJ hs]
 exact⟨_,rfl,_,rfl, by rw[Bo hcb]; exact J1 hfs (by rw[List.length_set]; exact hcl) (by rw[V7 hfk]; exact j4.pick [1,0,2] U)⟩
theorem frE_set {x:FrD} {at_:Nat} {b:UInt8} (h:at_<64):(TT x).set (1+at_) (Y3 b)=TT ⟨x.u,(MO x.b).set at_ b⟩:= by
  unfold TT
  rw[Nat.add_comm 1 at_,List.set_cons_succ]
  congr 1
  dsimp only
  rw[KJ (b:=(MO x.b).set at_ b) (by rw[List.length_set,KK])]
  simp [Ze,List.map_set,Y3]
theorem fru_sp {w:World} {F:Th} (hS:Sat w [F]) (x:FrD):
    Calls prog 204 #[.agg (TT x).toArray] w (Ret fun v w'=>v= .bool (!x.u)∧Sat w' [F]):= by
 refine Qn func204 U ntmps204 U ?_
 refine Qe (Qa (XV hS U U U ?_))
 intro bp wbp hSbp0
 have hSbp:Sat wbp [QE bp (TT x),F]:=hSbp0
 refine Qd U U (Qf (Qc (Qe (Qa (Qg U Br U (Qo U VU (by first | assumption | exact hSbp.cell 0 U U) U ?_))))))
 exact QU U U (Qd U U (Qf (Qc (Qv (QR (.inr U) U U (⟨_,U,U,hSbp.pick [1] U⟩))))))
theorem frix_sp {w:World} {F:Th} (hS:Sat w [F]) {lv:Value} {l:List FrD} (hL:Ent F (RdL frC lv l)):
    Calls prog 203 #[lv,.func (.func 204) #[] #[]] w (Ret fun v w'=>(v=intV (-1)∧(∀y∈l,y.u=true)∧Sat w' [F])∨(∃(k:Nat) (x:FrD),v=intV (k:Int)∧l[k]? =some x∧x.u=false∧Sat w' [F])):= by
 obtain⟨ao,cap,rfl,hmax⟩:=(hL.sat hS 0 rfl).shape
 refine Qn func203 U ntmps203 U ?_
 refine Qe (Qa (Qd U U (Qf (Qc (Qe (Qe (Qa (Qb U U (XB underlying144 U U (Qb U U (Qf (Qc (Qw ?_)))))))))))))
 refine Xe (fun K0 E0 W0=> ∃(i:Nat),K0=l.length -i∧E0=[(0,.slice ao l.length cap),(1,.func (.func 204) #[] #[]),(7,intV (l.length:Int)),(8,intV (i:Int))]∧Sat W0 [F]∧(i≤l.length)∧(∀j y,j<i→l[j]? =some y→y.u=true)) (L0:=[(0,_),(1,_),(7,_),(8,_)]) (l.length -0) (Vj U U U U) ⟨0,rfl,rfl,hS, by omega, by omega⟩ ?_
 rintro _ _ w1 ⟨i,rfl,rfl,j1,hi,hno⟩
 refine Qe (Qa (Xn U U U (Qf (Qc (Qe (Qt U (fun h2=> ?_) (fun h2=> ?_)))))))
 ·obtain⟨x,hx⟩: ∃x,l[i]? =some x:=⟨_,Zd (by omega)⟩
  obtain⟨b,off,rfl,_⟩:=(hL.sat j1 0 rfl).get hx
  refine Qs (Qc (Qe (Qw (Qe (Qa (Qb U U (Qd U U (Qf (Qc (Qe (Qa (Qb U U (Qb U U (Qb U U (Za i U U (by first | rfl | omega) ((XL hx).1) U7 U ?_)))))))))))))))
  refine KX U ag_193 (by rw[Pw]; exact FO) (vs:=TT x) ((hL.sat j1 0 U).at_ hx) U ?_
  refine Kf U cal_204 U (fru_sp (j1.sp [] U) x) U ?_
  rintro e w3 ⟨_,rfl,rfl,j3⟩; refine⟨_,rfl, ?_⟩
  replace j3:=j3.jn U U
  refine Qf (Qc (Qh [8,7,1,0,5,16] U (QS U (fun h4=> ?_) (fun h4=> ?_))))
  ·have hux:x.u=false:= by simpa using h4
   exact Qe (Qa (Qb U U (Qd U U (Qf (Qc (Qv (Q1 (Qr (Qr (Q1 (Qr (QR (.inr U) U U (⟨_,U,.inr ⟨i,x,U,hx,hux,j3.pick [0] U⟩⟩)))))))))))))
  have hux:x.u=true:= by simpa using h4
  refine Qs (Ql (Qc (Qa (QK U U (by omega) (by omega) U ?_))))
  refine Qb U U (Qf ?_)
  exact Q5 (L1:=[(0,_),(1,_),(7,_),(8,intV ((i+1:Nat):Int))]) (Vj U U U U) (k1:=l.length -(i+1)) (by omega) ⟨i+1,rfl,rfl,j3.pick [0] U, by omega, fun j y hj hq=> by by_cases e:j=i;(subst e; rw[hx]at hq; cases hq; exact hux); exact hno j y (by omega) hq⟩
 refine QT (Qq (Qq (Qy (Qc (Qe (Qa (Qd U U (Qf (Qc (Qv (QR (.inr U) U U ?_)))))))))))
 exact⟨_,rfl,.inl ⟨rfl, fun y hm=> by obtain⟨j,hj⟩:=List.mem_iff_getElem?.1 hm; exact hno j y (by have :=(XL hj).1;omega) hj,j1.pick [0] rfl⟩⟩
theorem Bn {w:World} {p:Nat} {fl:List (Option Bs)} {F:Th} (hS:Sat w [Kw p fl,F]):
    Calls prog 182 #[ptrV p 0] w (Ret fun v w'=>(v= .tuple #[intV 0,.bool false]∧(∀o∈fl,o≠none)∧Sat w' [Kw p fl,F])∨(∃k:Nat,fl[k]? =some none∧v= .tuple #[intV (k:Int),.bool true]∧Sat w' [Kw p (fl.set k (some (MO []))),F])):= by
 refine Qn func182 U ntmps182 U ?_
 refine Qe (Qa (Qd U U (Qd U U (Qf (Qc (Qe ?_))))))
 obtain⟨fa,fc,cl,hfl,hcl,hSo⟩:=H8 (hS.pick [0,1] rfl)
 have hul:=YW fl; have hfll:=congrArg List.length hfl; rw[List.length_map]at hfll
 refine Qa (Qb U U (Qi U U (Qg U JY U (Qo U Ui (by first | assumption | exact hSo.cell 0 U U) U ?_))))
 refine Xr cal_203 U (frix_sp (hSo.sp [] U) (Ent.starL (YD (C:=frC) (l:=cl) (by omega)) 1 U)) U ?_
 rintro e w1 ⟨_,rfl,(⟨rfl,hno,j1⟩ | ⟨k,x,rfl,hx,hux,j1⟩)⟩
 ·refine⟨_,U, ?_⟩
  replace j1:=j1.jn U U
  clear hSo
  refine Qd U U (Qf (Qc (Qe (Qe (Qa (Qb U U (Xn U U U (Qf (Qc (Qh [0,2,3,4,11] U (Qt U (fun h2=> ?_) (fun h2=> ?_))))))))))))
  ·refine Qe (Qa (Qd U U (Qd U U (Qf (Qc (Qv (Qr (Jm (.inr U) U U U ?_))))))))
   exact⟨_,rfl,.inl ⟨rfl, fun o ho=> by rw[hfl]at ho; obtain⟨y,hy,rfl⟩:=List.mem_map.1 ho;unfold Bp; rw[if_pos (hno y hy)]; simp,J1 hfl hcl (j1.pick [0,1,2] rfl)⟩⟩
  exact absurd h2 (by decide)
 refine⟨_,U, ?_⟩
 replace j1:=j1.jn U U
 clear hSo
 refine Qd U U (Qf (Qc (Qe (Qe (Qa (Qb U U (Xn U U U (Qf (Qc (Qh [0,2,3,4,11] U (Qt U (fun h3=> ?_) (fun h3=> ?_))))))))))))
 ·exact absurd h3 (by omega)
 refine Qs (Qc (Qe (Qa (Qb U U (Qi U U (Qg U JY U (Qo U Ui (by first | assumption | exact j1.cell 0 U U) U ?_)))))))
 refine Qb U U (Zw U Ln asz_193 zr_193 U U (Xg frC 1 k j1 U U U (by first | rfl | omega) hx U7 U ?_))
 intro bx4 capx4 hvx4
 refine Wh 1 k ⟨true,[]⟩ j1 U hvx4 U U FO (by first | rfl | (simp;done)) (by first | omega | exact(XL hx).1) ?_
 intro w5 j6; dsimp only[List.set]at j6
 refine Qf (Qc (Qh [0,2,3,4] U (Qe (Qa (Qb U U (Qi U U (Qg U K6 U (Qo U QM (by first | assumption | exact j6.cell 0 U U) U ?_))))))))
 refine QK U U (by omega) (by omega) U ?_
 refine Qi U U (Qg U K6 U ?_)
 first | (refine Qx j6 U U Js (by first | rfl | assumption | exact j6.own_one 1 U) (i:=0) U (by first | decide | exact Q7 U | (simp;done) | omega) ?_)
 intro w7 j8; dsimp only[List.set]at j8
 refine Qf (Qc (Qh [2,3,4] U (Qe (Qa (Qb U U (Qd U U (Qd U U (Qf (Qc (Qv (Jm (.inr U) U U U ?_)))))))))))
 have hfk:fl[k]? =some none:= by rw[hfl,List.getElem?_map,hx,Option.map_some];unfold Bp; rw[if_neg (by rw[hux];decide)]
 have hfs:fl.set k (some (MO []))=(cl.set k ⟨true,[]⟩).map Bp:= by rw[Mw,hfl];rfl
 exact⟨_,rfl,.inr ⟨k,hfk,rfl,J1 hfs (by rw[List.length_set]; exact hcl) (by rw[De hfk,Int.natCast_add]; exact j8.pick [0,1,2] U)⟩⟩
def VL (fl:List (Option Bs)) (f:Int):List (Option Bs):= match ZH fl f with | some _=>fl.set f.toNat none | none=>fl
theorem SI {w:World} {p:Nat} {fl:List (Option Bs)} {F:Th} (hS:Sat w [Kw p fl,F]) (f:Int):
    Calls prog 166 #[ptrV p 0,intV f] w (Ret fun v w'=> ∃e,v=intV e∧Sat w' [Kw p (VL fl f),F]):= by
 refine Qn func166 U ntmps166 U ?_
 refine Qe (Qa (Qd U U (Qf (Qc (Qe (Qe (Qa (Qb U U (Qb U U (Q0 Gy U (Kv (hS.sp [0] U) f) U ?_))))))))))
 rintro _ w1 ⟨rfl,j1⟩
 replace j1:=j1.jn U U
 refine QU U U (Qf (Qc (QS U (fun h2=> ?_) (fun h2=> ?_))))
 ·refine Qe (Qa (Qd U U (Qf (Qc (Qv (Qr (QR (.inr U) U U ?_)))))))
  exact⟨_,rfl,_,rfl, by rw[show VL fl f=fl by unfold VL; rw[show ZH fl f=none from by cases hq:ZH fl f with | none=>rfl | some b=>simp_all]]; exact j1.pick [0,1] U⟩
 obtain⟨cb,hcb⟩:=Option.isSome_iff_exists.1 (show(ZH fl f).isSome=true by simpa using h2)
 refine Qs (Qc (Qe ?_))
 obtain⟨fa,fc,cl,hfl,hcl,hSo⟩:=H8 (j1.pick [0,1] rfl)
 have hul:=YW fl; have hfll:=congrArg List.length hfl; rw[List.length_map]at hfll
 obtain⟨hf0,hfk⟩:=Yi hcb
 have hfk2:=hfk
 rw[hfl,List.getElem?_map]at hfk2
 obtain⟨x,hx,hxo⟩:=Option.map_eq_some_iff.1 hfk2
 have hxu:x.u=true∧MO x.b=cb:= by unfold Bp at hxo;split at hxo;(rename_i q; cases hxo; exact⟨q,rfl⟩); cases hxo
 have hxl:=(XL hx).1
 obtain⟨ob,oc9,hq9,_⟩:=hSo.own_at 1 rfl (by omega)
 cases hq9
 refine Qa (Qb U U (Qi U U (Qg U JY U (Qo U Ui (by first | assumption | exact hSo.cell 0 U U) U ?_))))
 refine Qb U U (Za f.toNat U U (by omega) hxl U7 U ?_)
 refine Qg U Br U ?_
 refine Je 1 f.toNat 0 ⟨false,x.b⟩ hSo U U U (by show 0+f.toNat*65+0=f.toNat*65+0;omega) U Ki hx U (by decide) U U ?_
 intro w3 j3; dsimp only[List.set]at j3
 clear hSo
 refine Qf (Qc (Qh [0,4] U (Qe (Qa (Qb U U (Qi U U (Qg U K6 U (Qo U QM (by first | assumption | exact j3.cell 0 U U) U ?_))))))))
 refine Ka U U (by first | omega | (have :=HR hfk; have :=YW fl;omega)) (by first | omega | (have :=HR hfk; have :=YW fl;omega)) U ?_
 refine Qi U U (Qg U K6 U ?_)
 first | (refine Qx j3 U U Js (by first | rfl | assumption | exact j3.own_one 1 U) (i:=0) U (by first | decide | exact Q7 U | (simp;done) | omega) ?_)
 intro w4 j5; dsimp only[List.set]at j5
 refine Qf (Qc (Qe (Qa (Qd U U (Qf (Qc (Qv (QR (.inr U) U U ?_))))))))
 have hfs:fl.set f.toNat none=(cl.set f.toNat ⟨false,x.b⟩).map Bp:= by rw[Mw,hfl];rfl
 have hus:=HR hfk
 exact⟨_,rfl,_,rfl, by rw[show VL fl f=fl.set f.toNat none by unfold VL; rw[hcb]]; exact J1 hfs (by rw[List.length_set]; exact hcl) (by rw[show((JC (fl.set f.toNat none):Nat):Int)=(JC fl:Nat) -1 by omega]; exact j5.pick [0,1,2] U)⟩
theorem TP {w:World} {p:Nat} {fl:List (Option Bs)} {F:Th} (hS:Sat w [Kw p fl,F]) (f at_:Int) (b:UInt8):
    Calls prog 117 #[ptrV p 0,intV f,intV at_,Y3 b] w (Ret fun v w'=>(((ZH fl f).isSome=false∨at_<0∨64≤at_)∧Sat w' [Kw p fl,F])∨(v=intV 0∧ ∃cb,ZH fl f=some cb∧(0≤at_∧at_<64)∧Sat w' [Kw p (fl.set f.toNat (some (cb.set at_.toNat b))),F])):= by
 refine Qn func117 U ntmps117 U ?_
 refine Qe (Qa (Qd U U (Qf (Qc (Qe (Qw (Qe (Qa (Qb U U (Qb U U (Q0 Gy U (Kv (hS.sp [0] U) f) U ?_)))))))))))
 rintro _ w1 ⟨rfl,j1⟩
 replace j1:=j1.jn U U
 refine QU U U (Qd U U (Qf (Qc (QS U (fun h2=> ?_) (fun h2=> ?_)))))
 ·refine Qe (Qa (Qd U U (Qf (Qc (Qv (Q1 (Qr (QR (.inr U) U U ?_))))))))
  exact⟨_,rfl, by rw[show ZH fl f=none from by cases hq:ZH fl f with | none=>rfl | some b=>simp_all]; exact .inl ⟨by simp,j1.pick [0,1] U⟩⟩
 obtain⟨cb,hcb⟩:=Option.isSome_iff_exists.1 (show(ZH fl f).isSome=true by simpa using h2)
 refine Qe (Qa (Qb U U (Xn U U U (Qb U U (QZ 17 U (fun h3=> ?_) (fun h3=> ?_))))))
 ·refine Qk U U (det h3) U (Qk U U (det h3) U (QN U (det h3) U U (Qd U U (Qf (Qc (Qh [3,2,1,0,8,14] U (XD U (Qe (Qa (Qd U U (Qf (Qc (Qv (Q1 (Qr (QR (.inr U) U U ?_))))))))))))))))
  exact⟨_,rfl,.inl ⟨by omega,j1.pick [0,1] U⟩⟩
 refine Qj U U (QF h3) (Qb U U (Qj U U (QF h3) (Jr U U U (QC U (QF h3) U U (Qd U U (Qf (Qc (Qh [3,2,1,0,8,14] U (Qt U (fun h4=> ?_) (fun h4=> ?_))))))))))
 ·refine Qe (Qa (Qd U U (Qf (Qc (Qv (Q1 (Qr (QR (.inr U) U U ?_))))))))
  exact⟨_,rfl,.inl ⟨by omega,j1.pick [0,1] U⟩⟩
 refine Qs (Ql (Qc (Qe ?_)))
 obtain⟨fa,fc,cl,hfl,hcl,hSo⟩:=H8 (j1.pick [0,1] rfl)
 have hul:=YW fl; have hfll:=congrArg List.length hfl; rw[List.length_map]at hfll
 obtain⟨hf0,hfk⟩:=Yi hcb
 have hfk2:=hfk
 rw[hfl,List.getElem?_map]at hfk2
 obtain⟨x,hx,hxo⟩:=Option.map_eq_some_iff.1 hfk2
 have hxu:x.u=true∧MO x.b=cb:= by unfold Bp at hxo;split at hxo;(rename_i q; cases hxo; exact⟨q,rfl⟩); cases hxo
 have hxl:=(XL hx).1
 obtain⟨ob,oc9,hq9,_⟩:=hSo.own_at 1 rfl (by omega)
 cases hq9
 refine Qa (Qb U U (Qi U U (Qg U JY U (Qo U Ui (by first | assumption | exact hSo.cell 0 U U) U ?_))))
 refine Qb U U (Qb U U (Qb U U (Za f.toNat U U (by omega) hxl U7 U ?_)))
 refine Qg U K4 U (BN at_.toNat underlying166 U U (by omega) (by omega) Tc U ?_)
 refine Je 1 f.toNat (1+at_.toNat) (⟨x.u,(MO x.b).set at_.toNat b⟩:FrD) hSo U U U (by show 0+f.toNat*65+1+at_.toNat*1=f.toNat*65+(1+at_.toNat);omega) U Tc hx U (by show 1+at_.toNat<65;omega) (show(TT x).set (1+at_.toNat) (Y3 b)=TT ⟨x.u,(MO x.b).set at_.toNat b⟩ from frE_set (by omega)) U ?_
 intro w5 j5; dsimp only[List.set]at j5
 clear hSo
 refine Qf (Qc (Qh [8] U (Qe (Qa (Qd U U (Qf (Qc (Qv (QR (.inr U) U U ?_)))))))))
 have hfs:fl.set f.toNat (some (cb.set at_.toNat b))=(cl.set f.toNat ⟨x.u,(MO x.b).set at_.toNat b⟩).map Bp:= by rw[Mw,hfl];congr 1;unfold Bp; rw[if_pos hxu.1,KJ (by rw[List.length_set,KK]),hxu.2]
 exact⟨_,rfl,.inr ⟨rfl,cb,hcb, by omega,J1 hfs (by rw[List.length_set]; exact hcl) (by rw[V7 hfk]; exact j5.pick [0,1,2] U)⟩⟩
theorem CP (m:Nat):JC (List.replicate m none)=0:= by unfold JC; simp
theorem frow {Z:List Value} (hZ:Z=TT ⟨false,[]⟩) (m:Nat):(List.replicate m Z).flatten=frC.cells (List.replicate m ⟨false,[]⟩):= by
  subst hZ
  induction m with
  | zero=>rfl
  | succ m ih=> rw[List.replicate_succ,List.flatten_cons,ih,List.replicate_succ];rfl
theorem LX {w:World} {F:Th} (hS:Sat w [F]) (n:Int):
    Calls prog 42 #[intV n] w (Ret fun v w'=> ∃p,v=ptrV p 0∧Sat w' [Kw p (List.replicate (min (max n 0) 4096).toNat none),F]):= by
 refine Qn func42 U ntmps42 U ?_
 refine Qe (Qa (Qd U U (Qf (Qc (Qe (Qa (Qb U U (Ho U U U (Kd U U U (Ma hS (min (max n 0) 4096).toNat U U (by omega) underlying144 ifo_193 U (by omega) (by omega) U ?_))))))))))
 intro db w1 hS1a; have j1:=hS1a.row_cast (l:=List.replicate (min (max n 0) 4096).toNat ⟨false,[]⟩) (C:=frC) (by simp) U (frow U _)
 refine Zw U Lp asz_146 zr_146 U U (XV j1 U U U ?_)
 intro bp wbp hSbp
 refine Qd U U (Qf (Qc (Qv (QR (.inr U) U U ?_))))
 exact⟨_,rfl,_,rfl,J1 (cl:=List.replicate (min (max n 0) 4096).toNat ⟨false,[]⟩) (by rw[List.map_replicate];rfl) (by rw[List.length_replicate];omega) (by rw[CP]; exact hSbp.pick [0,1,2] U)⟩
end Go.Proofs.YtkgjmhcdacidoaaGreatDoor
namespace Go.Proofs.YtkgjmhcdacidoaaGreatDoor.M
open Go.RowKit Proofs.Tryz
def Jn (T b:Nat) (cs:List Value):Th where
  at_:= fun w F=>(F= fun k=>k=b)∧w.heap[b]? =some (.cells cs.toArray T (0,0))
  fr:= fun a ⟨e,h⟩=>⟨e, by rw[a.blk _ (by rw[e])]; exact h⟩
  lt:= fun {w F} ⟨e,h⟩ k hk=> by
    rw[e]at hk; subst hk
    rcases Nat.lt_or_ge k w.heap.size with g | g
    · exact g
    · rw[Array.getElem?_eq_none g]at h; cases h
def Vo (e:Nat) (v:Value) (bs:List UInt8):Th where
  at_:= fun w F=>(F= fun k=>v.ownBlock=some k)∧w.ownsRow 0 e 1 v bs.length (byC.cells bs)∧(bs=[]→v= .slice none 0 0)
  fr:= fun {w w' F} a ⟨e1,⟨hl,h⟩,hn⟩=>⟨e1,⟨hl, by
    rcases h with h | ⟨g,cap,cur,h1,h2,h3,h4⟩
    · exact .inl h
    · exact .inr ⟨g,cap,cur,h1,h2, by rw[a.blk _ (by rw[e1,h1];rfl)]; exact h3,h4⟩⟩,hn⟩
  lt:= fun {w F} ⟨e1,h,_⟩ k hk=> by rw[e1]at hk; exact(h.lt k hk).2
theorem Be {w:World} {e n:Nat} {v:Value} {xs:List Value} (h:w.ownsRow 0 e 1 v n xs): ∃foot,Own w v n 1 xs foot∧ ∀k,k∈foot↔v.ownBlock=some k:= by
  obtain⟨hl,⟨rfl,rfl⟩ | ⟨g,cap,cur,rfl,_,hg,hc,_,hs,ht⟩⟩:=h
  · exact⟨[],⟨hl,.inl ⟨rfl,rfl,rfl⟩⟩, by simp [Value.ownBlock]⟩
  · have he:xs++cur.toList.drop (n*1)=cur.toList:= by rw[←ht]; exact List.take_append_drop _ _
    refine⟨[g],⟨hl,.inr ⟨g,cap,cur.toList.drop (n*1),rfl,hc,⟨e,0,0, ?_,.inl (Nat.le_refl _)⟩, ?_,rfl⟩⟩, by simp [Value.ownBlock,eq_comm]⟩
    · rw[he]; exact hg
    · rw[he];simpa using hs
section
variable {P:Program} {n:Nat} {ops:Array Oper} {Q:Exit→Act→World→Prop} {rest:List Oper} {L:Env} {w:World} {d:Nat} {ty:TypeId} {pos:String} {aft:Array Edge} {As:List Th} {T e b:Nat} {cs:List Value}
theorem Sat.tblk (h:Sat w As) (i:Nat) (hi:As[i]? =some (Jn T b cs)):w.heap[b]? =some (.cells cs.toArray T (0,0)):= by
  obtain⟨F,_,h⟩:=h.get i hi; exact h
theorem Sat.tcell (h:Sat w As) (i:Nat) (hi:As[i]? =some (Jn T b cs)) {o:Nat} {v:Value} (hv:cs[o]? =some v):w.cell? ⟨b,o,none⟩=some v:= by
  rw[Lib.cell_of_heap (h.tblk i hi)];simpa using hv
theorem Sat.tshape (h:Sat w As) (i:Nat) (hi:As[i]? =some (Jn T b cs)):w.shape? b=some (T,cs.length):= by
  simp [World.shape?,h.tblk i hi]
theorem Sat.buf (h:Sat w As) (i:Nat) {v:Value} {bs:List UInt8} (hi:As[i]? =some (Vo e v bs)):w.ownsRow 0 e 1 v bs.length (byC.cells bs)∧(bs=[]→v= .slice none 0 0):= by
  obtain⟨F,_,h⟩:=h.get i hi; exact h
theorem Sat.bufv (h:Sat w As) (i:Nat) {v:Value} {bs:List UInt8} (hi:As[i]? =some (Vo e v bs)): ∃ao cap,v= .slice ao bs.length cap∧v.oneCell'=true∧(ao=none∧bs=[]∨ ∃g,ao=some ⟨g,0,none⟩∧cap≠0∧bs≠[]):= by
  obtain⟨⟨_,⟨rfl,h1⟩ | ⟨g,cap,cur,rfl,_,_,h1,_⟩⟩,hn⟩:=h.buf i hi
  · have :bs=[]:=List.eq_nil_of_length_eq_zero h1
    subst this
    exact⟨none,0,U,U,.inl ⟨U,U⟩⟩
  · have hb:bs≠[]:= fun e=> by have :=hn e; cases this
    have :0<bs.length:=List.length_pos_iff.2 hb
    exact⟨_,cap,rfl,rfl,.inr ⟨g,rfl, by omega,hb⟩⟩
theorem Da {t:Nat} {z:Value} (hS:Sat w As) (hz:XQ P t=some (some z)) (hcs:z.cells.toList=cs) (hd:Nat.blt d n=true) (hk: ∀b w',Sat w' (Jn t b cs::As)→wl P n ops Q rest ((d,ptrV b 0)::L) w'):wl P n ops Q (⟨some d,.alloc t,ty,pos,aft,none⟩::rest) L w:= by
  subst hcs
  refine XG U hd (R:= fun v w'=>v=ptrV w.heap.size 0∧w'=w.alloc (.cells z.cells t)) (fun a ha=>⟨_,_,.inl ?_,rfl,rfl⟩) (fun v w' ⟨e1,e2⟩=> ?_)
  · simp [execOp,Instr.alloc,J9 hz,newVar,newRow]
  · subst e1 e2
    refine hk _ _ (hS.new ((Only.refl _ _).alloc _) (A:=Jn t w.heap.size z.cells.toList) (F':= fun k=>k=w.heap.size) ⟨rfl, ?_⟩ (fun k hk=> by rw[hk]; exact Nat.le_refl _))
    simpa using heap_alloc_new w (.cells z.cells t)
theorem KV {x y:Operand} {t o i:Nat} {v:Value} (hS:Sat w As) (hx:look L x=some (ptrV b o)) (hy:look L y=some v) (hs:ZO P t=some 1) (h1:v.oneCell'=true) (hi:As[i]? =some (Jn T b cs)) (ho:o<cs.length)
    (hk: ∀w',Sat w' (As.set i (Jn T b (cs.set o v)))→wl P n ops Q rest L w'):wl P n ops Q (⟨none,.store t x y,ty,pos,aft,none⟩::rest) L w:= by
  have hb:=hS.tblk i hi
  have hc:=hS.tcell i hi (o:=o) (Zd ho)
  have hf:w.frozen? ⟨b,o,none⟩=false:=Lib.frozen_of_heap hb o
  have hcs:v.cells= #[v]:= by cases v<;>first | rfl | cases h1
  refine XG U U (R:= fun _ w'=>w'=w.setCell ⟨b,o,none⟩ v) (fun a ha=>⟨undef,_,.inr ⟨?_,rfl⟩,rfl⟩) (fun _ w' e=> ?_)
  · have hst:(store ⟨b,o,none⟩ v).run P w= .ok () (w.setCell ⟨b,o,none⟩ v):= by
      rw[run_store P w _ v _ h1,hc]; simp [hf]
    have e0:(⟨b,o,none⟩:Addr).add 0=⟨b,o,none⟩:= by simp [Addr.add]
    simp [execOp,ha.eval hx,ha.eval hy,Instr.storeAt,Instr.sureAddr,storeVar,hcs,Zm hs,storeCells,e0,hst]
  · subst e
    refine hk _ (hS.step i hi fun F ⟨e1,_⟩=>⟨F,⟨e1, ?_⟩, fun k hk=> .inl hk,((Only.refl [b] w).setCell (.inl (by simp)) v).agree (fun x hx=> .inl (by simp only[List.mem_singleton]at hx; subst hx; rw[e1]))⟩)
    simp [World.setCell,Array.getElem?_modify,hb]
theorem Sb {t t2:TypeId} {s x:Operand} {v xv z:Value} {bs l2:List UInt8} {bytes:Nat} (i:Nat) (hS:Sat w As) (hi:As[i]? =some (Vo e v bs)) (hs:look L s=some v) (hx:look L x=some xv) (hr:RdL byC xv l2 w) (h0:l2≠[]) (hu:P.underlying t=some (.slice e)) (ht:t2=t)
    (hif:(P.info? e).map (fun i=>(i.zero,i.size,i.bytes))=some (some z,1,bytes)) (hz:z.cells.size=1) (hb:(bs.length+l2.length)*bytes≤140737488355328) (hm:bs.length+l2.length≤281474976710656) (hd:Nat.blt d n=true)
    (hk: ∀v' w',Sat w' (As.set i (Vo e v' (bs++l2)))→wl P n ops Q rest ((d,v')::L) w'):wl P n ops Q (⟨some d,.call ⟨.builtin .append, #[s,x], #[t,t2]⟩,ty,pos,aft,none⟩::rest) L w:= by
  subst ht
  obtain⟨hown,hnil⟩:=hS.buf i hi
  obtain⟨foot,hO,hfoot⟩:=Be hown
  obtain⟨ao,cap,rfl,hmax,hcells⟩:=hr
  obtain⟨c0,hc0⟩: ∃c0,l2[0]? =some c0:=⟨_,Zd (List.length_pos_iff.2 h0)⟩
  obtain⟨g0,off0,rfl,_⟩:=hcells 0 c0 hc0
  have hnews: ∀j u,(byC.cells l2)[j]? =some u→w.cell? ((⟨g0,off0,none⟩:Addr).add j)=some u:= by
    intro j u hu'
    rw[ZL]
    have hj:=(XL hu').1
    rw[byC.cells_len]at hj
    have hj':j<l2.length:= by simpa [byC]using hj
    obtain⟨g1,o1,e1,hc⟩:=hcells j l2[j] (Zd hj')
    cases e1
    have h2:(byC.cells l2)[j]? =some (.int .u8 (l2[j].toNat:Int)):= by
      have :=RowC.cells_at (C:=byC) (l:=l2) (j:=j) (Zd hj')
      have h3:=congrArg (fun q=>q[0]?) this
      simpa [byC,List.getElem?_take,List.getElem?_drop]using h3
    rw[h2]at hu'; cases hu'
    have :=hc 0 _ U
    simpa [byC]using this
  have hrd:RdL byC (.slice (some ⟨g0,off0,none⟩) l2.length cap) l2 w:=⟨_,cap,rfl,hmax,hcells⟩
  obtain⟨inf,hi1,hi2,hi3,hi4⟩:=info_parts hif
  refine XG U hd (R:= fun v w'=>Sat w' (As.set i (Vo e v (bs++l2)))) (fun a ha=> ?_) (fun v w' hR=>hk v w' hR)
  obtain⟨v1,w1,hrun,foot',o1,o2,o3,_⟩:=UA (P:=P) (o:=⟨some d,.call ⟨.builtin .append, #[s,x], #[t2,t2]⟩,ty,pos,aft,none⟩) (a:=a) t2 t2 s x rfl (ha.eval hs) (ha.eval hx) hO hu hu (by intro k hk; cases hk) hif hz (by decide) (hrd.lenOf) (hrd.first) (byC.cells_len l2) (WA (byC.cells_one l2)) hb (by omega)
  obtain⟨v2,w2,hr2,hown2,_,_⟩:=run_append_own (P:=P) w 0 t2 ty e inf z 1 bytes hu hi1 hi2 hi3 hi4 hz (by decide) v bs.length (byC.cells bs) hown ⟨g0,off0,none⟩ l2.length cap (byC.cells l2) (byC.cells_len l2) hnews (WA (byC.cells_one l2)) (by unfold maxLen;omega) hb (Nat.zero_le _)
  have hex:(execOp a.eval ⟨some d,.call ⟨.builtin .append, #[s,x], #[t2,t2]⟩,ty,pos,aft,none⟩).run P w= .ok (.value v2) w2:= by
    simp [execOp,ha.eval hs,ha.eval hx,resolve,invoke,builtin,hr2]
  have heq:v1=v2∧w1=w2:= by
    rcases hrun with h | ⟨h,_⟩
    · rw[hex]at h; cases h; exact⟨rfl,rfl⟩
    · rw[hex]at h; cases h
  obtain⟨rfl,rfl⟩:=heq
  refine⟨v1,w1,.inl hex, ?_⟩
  have hfoot': ∀k,v1.ownBlock=some k→k∈foot':= by
    intro k hk'
    obtain⟨_,⟨e1,_,_⟩ | ⟨b1,c1,s1,e1,_,_,_,rfl⟩⟩:=o1
    · rw[e1]at hk'; cases hk'
    · rw[e1]at hk'; simp [Value.ownBlock]at hk'; simp [hk']
  refine hS.step i hi fun F ⟨eF,_⟩=>⟨fun k=>v1.ownBlock=some k,⟨rfl, ?_, fun q=>absurd (List.append_eq_nil_iff.1 q).2 h0⟩, fun k hk'=> ?_,o2.agree fun k hk'=> ?_⟩
  · rw[List.length_append,←RowC.cells_app]; exact hown2
  · rcases o3 k (hfoot' k hk')with q | q
    · exact .inl (by rw[eF]; exact(hfoot k).1 q)
    · exact .inr q
  · exact .inl (by rw[eF]; exact(hfoot k).1 hk')
theorem Kb {ao:Option Addr} {m cap:Nat} {ts:Array TypeId} {x:Operand} (hx:look L x=some (.slice ao m cap)) (h0:ao=none∨cap≠0) (hd:Nat.blt d n=true) (hk:wl P n ops Q rest ((d,.pointer ao)::L) w):wl P n ops Q (⟨some d,.call ⟨.builtin .unsafeSliceData, #[x],ts⟩,ty,pos,aft,none⟩::rest) L w:= by
  refine XG rfl hd (R:= fun v w'=>v= .pointer ao∧w'=w) (fun a ha=>⟨_,_,.inl ?_,rfl,rfl⟩) (by rintro _ _ ⟨rfl,rfl⟩; exact hk)
  have hr:(Builtin.unsafeSliceData_ ts ty #[.slice ao m cap]).run P w= .ok (.pointer ao) w:= by
    cases ao with
    | none=> exact Lib.run_unsafeSliceData_nil w ts ty m cap
    | some q=> exact Lib.run_unsafeSliceData_row w ts ty q m cap (by rcases h0 with h0 | h0; cases h0; exact h0)
  simp [execOp,ha.eval hx,resolve,invoke,builtin,hr]
theorem RH {ao:Option Addr} {cap pt it:Nat} {bs:List UInt8} {x y:Operand} (i:Nat) (hS:Sat w As) (hi:As[i]? =some (Vo e (.slice ao bs.length cap) bs)) (hx:look L x=some (.pointer ao)) (hy:look L y=some (.int .i64 (bs.length:Int))) (hp:P.underlying pt=some (.pointer e)) (hc:P.cellsOf e=1) (hlen:bs.length≤9223372036854775807) (hd:Nat.blt d n=true)
    (hk: ∀w',Sat w' (As.eraseIdx i)→wl P n ops Q rest ((d,strV bs)::L) w'):wl P n ops Q (⟨some d,.call ⟨.builtin .unsafeString, #[x,y], #[pt,it]⟩,ty,pos,aft,none⟩::rest) L w:= by
  obtain⟨hown,hnil⟩:=hS.buf i hi
  have hg: ∃w',(Builtin.unsafeString_ #[pt,it] ty #[.pointer ao,.int .i64 bs.length]).run P w= .ok (strV bs) w'∧Sat w' (As.eraseIdx i):= by
    by_cases h0:bs=[]
    · subst h0
      have hv:=hnil U
      simp only[Value.slice.injEq,List.length_nil,true_and]at hv
      obtain⟨rfl,_⟩:=hv
      exact⟨w,Lib.run_unsafeString_none w pt it ty none,hS.drop i hi⟩
    · obtain⟨_,⟨hv,h1⟩ | ⟨g,cap',cur,hv,_,hgb,h1,_,h2,h3⟩⟩:=hown
      · exact absurd (List.eq_nil_of_length_eq_zero h1) h0
      · simp only[Value.slice.injEq,true_and]at hv
        obtain⟨rfl,rfl⟩:=hv
        refine⟨w.freeze ⟨g,0,none⟩ bs.length,Lib.run_unsafeString_row w pt it ty e hp hc g cur.size (by simp [World.shape?,hgb]) bs h0 (by omega) hlen ?_, ?_⟩
        · intro j c hj
          rw[ZL]
          simp only[Nat.zero_add]
          rw[Lib.cell_of_heap hgb]
          have hj':=(XL hj).1
          have :(byC.cells bs)[j]? =some (.int .u8 (c.toNat:Int)):= by
            have :=RowC.cells_at (C:=byC) (l:=bs) (j:=j) hj
            have h3:=congrArg (fun q=>q[0]?) this
            simpa [byC,List.getElem?_take,List.getElem?_drop]using h3
          rw[←h3,List.getElem?_take]at this
          split at this
          · simpa using this
          · cases this
        · have hp1:=hS.pull i hi
          obtain⟨F,F1,F2,rfl,dj,⟨e1,_⟩,h2'⟩:=hp1
          refine⟨F2,(starL _).fr (F:=F2) ?_ h2'⟩
          have hb:=Lib.below_freeze (B:=0) (Below.refl 0 w) (p:=⟨g,0,none⟩) (Nat.zero_le _) bs.length
          refine⟨hb.os,hb.tape,hb.output, fun k hk'=> ?_⟩
          have hne:k≠g:= by
            rintro rfl
            exact dj k (by rw[e1];rfl) hk'
          unfold World.freeze
          split
          · rfl
          · simp only[Array.getElem?_modify]
            rw[if_neg (fun q=>hne q.symm)]
  obtain⟨w',h1,h2⟩:=hg
  refine XG rfl hd (R:= fun v u=>v=strV bs∧u=w') (fun a ha=>⟨_,_,.inl ?_,rfl,rfl⟩) (by rintro _ _ ⟨rfl,rfl⟩; exact hk _ h2)
  simp [execOp,ha.eval hx,ha.eval hy,resolve,invoke,builtin,h1]
theorem MV {src dst t o:Nat} {x:Operand} {j:TypeInfo} {S:Nat×Nat} (hx:look L x=some (ptrV b o)) (hs:P.underlying src=some (.pointer t)) (hd':P.underlying dst=some .unsafePointer) (ht:P.info? t=some j) (hj:j.size≠0) (hsh:w.shape? b=some S) (ho:o<S.2) (hd:Nat.blt d n=true) (hk:wl P n ops Q rest ((d,ptrV b o)::L) w):wl P n ops Q (⟨some d,.convert src dst x,ty,pos,aft,none⟩::rest) L w:=
  Xv hd (fun ρ hρ=> by
    have :=Lib.run_to_unsafe (P:=P) (w:=w) (e:=S.1) (cells:=S.2) (⟨b,o,none⟩:Addr) hs hd' ht hj hsh ho
    simp [execOp,hρ _ _ hx,ptrV,this]) hk
theorem BO {src dst u o:Nat} {x:Operand} {j:TypeInfo} {S:Nat×Nat} (hx:look L x=some (ptrV b o)) (hs:P.underlying src=some .unsafePointer) (hd':P.underlying dst=some (.pointer u)) (hu:P.info? u=some j) (hsh:w.shape? b=some S) (hl:liesAt P P.depth S.1 (S.2/ P.cellsOf S.1) o u 1=true) (hd:Nat.blt d n=true) (hk:wl P n ops Q rest ((d,ptrV b o)::L) w):wl P n ops Q (⟨some d,.convert src dst x,ty,pos,aft,none⟩::rest) L w:=
  Xv hd (fun ρ hρ=> by
    have :=Lib.run_from_unsafe (P:=P) (w:=w) (e:=S.1) (cells:=S.2) (⟨b,o,none⟩:Addr) hs hd' hu hsh hl
    simp [execOp,hρ _ _ hx,ptrV,this]) hk
theorem BM {x y:Operand} {t t2 u:TypeId} {q:Addr} {j:TypeInfo} (hu:P.underlying t=some (.pointer u)) (hj:P.info? u=some j) (hx:look L x=some (.pointer (some q))) (hy:look L y=some (.pointer (some q))) (hd:Nat.blt d n=true) (hk:wl P n ops Q rest ((d,.bool false)::L) w):wl P n ops Q (⟨some d,.binOp .neq t x y t2,ty,pos,aft,none⟩::rest) L w:=
  Xv hd (fun ρ hρ=> by
    have h:(Op.equal t (.pointer (some q)) (.pointer (some q))).run P w= .ok true w:= by
      unfold Op.equal Op.maxDepth Op.equalIn
      simp [run_underlying hu,sizeOf,typeInfo,hj,run_sameAddr_same]
    simp [execOp,hρ _ _ hx,hρ _ _ hy,eqGuard,binOp,h]) hk
theorem CL {f : Nat} {fn : Func} {x : Operand} {ts : Array TypeId} {v : Value} (hf : P.funcs[f]? = some fn) (hname : (fn.name == "runtime.NumGoroutine") = false) (hb : fn.body.isNone = true) (hn : Extern.findNext fn = none) (he : Extern.find fn = some Extern.AbiNoEscape.same)
    (hx:look L x=some v) (hd:Nat.blt d n=true) (hk:wl P n ops Q rest ((d,v)::L) w):wl P n ops Q (⟨some d,.call ⟨.value (.func f), #[x],ts⟩,ty,pos,aft,none⟩::rest) L w:= by
  refine XG rfl hd (R:= fun u w'=>u=v∧w'=w) (fun a ha=>⟨_,_,.inl ?_,rfl,rfl⟩) (by rintro _ _ ⟨rfl,rfl⟩; exact hk)
  have hr:(Extern.AbiNoEscape.same #[v]).run P w= .ok v w:=rfl
  have hc:=run_callFunc_extern hf hname hb hn he #[v] w
  rw[hr]at hc
  simp only[execOp,resolve,Act.eval,Deferred.ofValue,invoke]
  have hxe:=ha.eval hx
  simp
  rw[hxe,hc];rfl
end
