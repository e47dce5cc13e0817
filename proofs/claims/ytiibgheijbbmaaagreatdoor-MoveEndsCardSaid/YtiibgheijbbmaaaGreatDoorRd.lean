/- How the arguments of a law read: a relation between cells and plain data for each type, built by shape; and the step from a law's contract to its row. -/
import Derived.Test.YtiibgheijbbmaaaGreatDoorMem
import Derived.ProofKit
import Derived.OpenShut
import Derived.ShutString
import Derived.ChangeOld
import Derived.Deep.Slices
import Derived.Deep.Fields
import Derived.ChangeSame
import Derived.JoinedCond
import Derived.Test.YtiibgheijbbmaaaGreatDoorMvg4
import Derived.Lib.LaidU8
import Derived.ChangeBears2
import Derived.Test.YtiibgheijbbmaaaGreatDoorRows
set_option linter.unusedVariables false
namespace Go.Proofs.YtiibgheijbbmaaaGreatDoor.M
open Proofs.Tryz
open Go.ChangeShapes Go.WideShapes Go.ChangeAt Go.RowKit Go.Deep
def At (w:World) (b off:Nat) (cs:List Value):Prop:= ∀j v,cs[j]? =some v→w.cell? ⟨b,off+j,none⟩=some v
theorem At.cell {w:World} {b off:Nat} {cs:List Value} (h:At w b off cs) (j:Nat) {v:Value} (hv:cs[j]? =some v):w.cell? ⟨b,off+j,none⟩=some v:=h j v hv
theorem At.below {B:Nat} {w w':World} {b off:Nat} {cs:List Value} (h:At w b off cs) (hb:Below B w w') (hB:b<B):At w' b off cs:=
  fun j v hv=>(hb.cell (p:=⟨b,off+j,none⟩) hB).trans (h j v hv)
structure Cod (P:Program) (t:TypeId) (α:Type) where
  rd:World→List Value→α→Prop
  size:Nat
  cells:P.cellsOf t=size
  down: ∀{H:Type} {enc:TypeId×Value→H} {w:World} {base:Nat} {spare:Nat→Bool} {held:Bool} {fuel:Nat} {cs:List Value} {x:DataW H×List MemPlace},
    DataW.trod enc P w base spare held fuel t cs=some x→ ∃a,rd w cs a
  len: ∀{w cs a},rd w cs a→cs.length=size
  keep: ∀{w w' cs a},Below w.heap.size w w'→rd w cs a→rd w' cs a
section
variable {P:Program}
def Cod.int {t:TypeId} (k:IntKind) (ht:P.underlying t=some (.int k)) (hc:P.cellsOf t=1):Cod P t Int where
  rd:= fun _ cs n=>cs=[.int k n]∧(Lit.int k n).wf=true
  size:=1
  cells:=hc
  down:= fun h=> by
    obtain⟨n,h1,_,h2⟩:=DataW.trod_int ht h
    exact⟨n,h1,h2⟩
  len:= fun h=> by rw[h.1];rfl
  keep:= fun _ h=>h
def Cod.byte {t:TypeId} (ht:P.underlying t=some (.int .u8)) (hc:P.cellsOf t=1):Cod P t UInt8 where
  rd:= fun _ cs n=>cs=[.int .u8 (n.toNat:Int)]
  size:=1
  cells:=hc
  down:= fun h=> by
    obtain⟨n,h1,_,h2⟩:=DataW.trod_int ht h
    have hb:=bounds_u8 h2
    refine⟨UInt8.ofNat n.toNat, ?_⟩
    have e:((UInt8.ofNat n.toNat).toNat:Int)=n:= by simp;omega
    rw[e]; exact h1
  len:= fun h=> by rw[h];rfl
  keep:= fun _ h=>h
def Cod.bool {t:TypeId} (ht:P.underlying t=some .bool) (hc:P.cellsOf t=1):Cod P t Bool where
  rd:= fun _ cs n=>cs=[.bool n]
  size:=1
  cells:=hc
  down:= fun h=> by
    obtain⟨n,h1,_⟩:=DataW.trod_bool ht h
    exact⟨n,h1⟩
  len:= fun h=> by rw[h];rfl
  keep:= fun _ h=>h
def Cod.string {t:TypeId} (ht:P.underlying t=some .string) (hc:P.cellsOf t=1):Cod P t ByteArray where
  rd:= fun _ cs s=>cs=[.string s]∧s.size≤9223372036854775807
  size:=1
  cells:=hc
  down:= fun h=> by
    obtain⟨n,h1,_,h2⟩:=DataW.trod_string ht h
    exact⟨n,h1,h2⟩
  len:= fun h=> by rw[h.1];rfl
  keep:= fun _ h=>h
def Rp {α:Type} (rd:World→List Value→α→Prop) (size:Nat) (w:World) (v:Value) (l:List α):Prop:=
  ∃ao cap,v= .slice ao l.length cap∧l.length≤cap∧cap≤9223372036854775807∧ ∀(i:Nat) (a:α),l[i]? =some a→ ∃b off cs,ao=some ⟨b,off,none⟩∧b<w.heap.size∧At w b (off+i*size) cs∧rd w cs a
def Cod.slice {t e:TypeId} {α:Type} [Inhabited α] (ht:P.underlying t=some (.slice e)) (hc:P.cellsOf t=1) (c:Cod P e α) (hpos:0<c.size):Cod P t (List α) where
  rd:= fun w cs l=> ∃v,cs=[v]∧Rp c.rd c.size w v l
  size:=1
  cells:=hc
  down:= fun {H enc w base spare held fuel cs x} h=> by
    rcases open_slice ht h with⟨rfl,_⟩ | ⟨a,len,cap,m,n,D,Pl,rfl,hb,hl,hm,hmm,_,hx⟩
    · exact⟨[],_,rfl,none,0,rfl,Nat.le_refl _, by omega, fun i a hi=> by simp at hi⟩
    · have hlm:len≤m:= by rw[hmm];split<;>omega
      have hex: ∀i,i<len→ ∃y:α,∃cs',c.rd w cs' y∧(∀j v,cs'[j]? =some v→w.cell? (a.add (i*c.size+j))=some v):= by
        intro i hi
        obtain⟨cs',h1,h2⟩:=hx i (by omega)
        obtain⟨y,hy⟩:=c.down h2
        obtain⟨_,hlen,hat⟩:=World.cells?_some h1
        refine⟨y,cs',hy, fun j v hv=> ?_⟩
        have hj:j<cs'.length:=(List.getElem?_eq_some_iff.1 hv).1
        rw[c.cells]at hlen hat
        rw[←Go.Deep.add_add,hat j (by omega),hv]
      obtain⟨f,hf⟩:=choose_lt hex
      refine⟨(List.range len).map f,_,rfl,some a,cap, by simp, by simpa using hl,hm, fun i y hi=> ?_⟩
      have hil:i<len:= by have :=(List.getElem?_eq_some_iff.1 hi).1;simpa using this
      simp [hil]at hi
      subst hi
      obtain⟨cs',hrd,hat⟩:=hf i hil
      have hcl:=c.len hrd
      obtain⟨b,off,spot⟩:=a
      have h0:=hat 0 cs'[0] (List.getElem?_eq_getElem (by omega))
      have hspot:spot=none:= by
        have :=World.cell?_spot h0
        unfold Addr.add at this
        split at this
        · exact this
        · obtain⟨i0,hi0⟩: ∃i0,i0<len∧i0=0:=⟨0, by omega,rfl⟩
          obtain⟨hi1,rfl⟩:=hi0
          obtain⟨cs0,hrd0,hat0⟩:=hf 0 hi1
          have hcl0:=c.len hrd0
          have h00:=hat0 0 cs0[0] (List.getElem?_eq_getElem (by omega))
          have :=World.cell?_spot h00
          simpa [Addr.add]using this
      subst hspot
      refine⟨b,off,cs',rfl, ?_, fun j v hv=> ?_,hrd⟩
      · have :=block_lt_of_cell h0
        rw[Wu]at this
        exact this
      · have :=hat j v hv
        rw[Wu]at this
        rw[Nat.add_assoc]; exact this
  len:= fun ⟨v,h,_⟩=> by rw[h];rfl
  keep:= fun {w w' cs l} hb ⟨v,h1,ao,cap,h2,h3,h4,h5⟩=>⟨v,h1,ao,cap,h2,h3,h4, fun i a hi=> by
    obtain⟨b,off,cs',e1,e2,e3,e4⟩:=h5 i a hi
    exact⟨b,off,cs',e1,Nat.lt_of_lt_of_le e2 hb.size,e3.below hb e2,c.keep hb e4⟩⟩
structure Flds (P:Program) (fs:List Field) (off:Nat) (α:Type) where
  rd:World→List Value→α→Prop
  size:Nat
  down: ∀{H:Type} {enc:TypeId×Value→H} {w:World} {base:Nat} {spare:Nat→Bool} {held:Bool} {n:Nat} {cs:List Value} {xs:List (DataW H×List MemPlace)},
    (∀(i:Nat) (f:Field),fs[i]? =some f→ ∃x,DataW.trod enc P w base spare held n f.type ((cs.drop f.offset).take (P.cellsOf f.type))=some x)→ ∃a,rd w ((cs.drop off).take size) a
  len: ∀{w cs a},rd w cs a→cs.length=size
  keep: ∀{w w' cs a},Below w.heap.size w w'→rd w cs a→rd w' cs a
def Flds.nil (off:Nat):Flds P [] off Unit where
  rd:= fun _ cs _=>cs=[]
  size:=0
  down:= fun _=>⟨(), by simp⟩
  len:= fun h=> by rw[h];rfl
  keep:= fun _ h=>h
def Flds.cons {f:Field} {fs:List Field} {off:Nat} {α β:Type} (c:Cod P f.type α) (ho:f.offset=off) (r:Flds P fs (off+c.size) β):Flds P (f::fs) off (α×β) where
  rd:= fun w cs a=> ∃cs1 cs2,cs=cs1++cs2∧c.rd w cs1 a.1∧r.rd w cs2 a.2
  size:=c.size+r.size
  down:= fun {H enc w base spare held n cs xs} h=> by
    obtain⟨x,hx⟩:=h 0 f rfl
    rw[ho,c.cells]at hx
    obtain⟨a,ha⟩:=c.down hx
    obtain⟨b,hb⟩:=r.down (xs:=xs) (fun i g hg=>h (i+1) g (by simpa using hg))
    refine⟨(a,b),_,_, ?_,ha,hb⟩
    rw[←List.drop_drop]
    exact List.take_add ..
  len:= fun ⟨cs1,cs2,h,h1,h2⟩=> by rw[h,List.length_append,c.len h1,r.len h2]
  keep:= fun hb ⟨cs1,cs2,h,h1,h2⟩=>⟨cs1,cs2,h,c.keep hb h1,r.keep hb h2⟩
def Cod.struct {t:TypeId} {fs:List Field} {α:Type} (ht:P.underlying t=some (.struct fs.toArray)) (r:Flds P fs 0 α) (hc:P.cellsOf t=r.size):Cod P t α where
  rd:=r.rd
  size:=r.size
  cells:=hc
  down:= fun {H enc w base spare held fuel cs x} h=> by
    obtain⟨xs,n,_,_,hl,hxl,hf⟩:=DataW.trod_struct ht h
    obtain⟨a,ha⟩:=r.down (xs:=xs) (n:=n) (enc:=enc) (w:=w) (base:=base) (spare:=spare) (held:=held) (cs:=cs) (fun i f hi=> by
      have h1:=hf i f (by simpa using hi)
      have hil:=(List.getElem?_eq_some_iff.1 hi).1
      rw[h1,List.getElem?_eq_getElem (by rw[hxl];simpa using hil)]
      exact⟨_,Qa⟩)
    refine⟨a, ?_⟩
    rw[List.drop_zero,List.take_of_length_le (by omega)]at ha
    exact ha
  len:=r.len
  keep:=r.keep
def Cod.map {t:TypeId} {α β:Type} (c:Cod P t α) (f:α→β):Cod P t β where
  rd:= fun w cs b=> ∃a,b=f a∧c.rd w cs a
  size:=c.size
  cells:=c.cells
  down:= fun h=> by obtain⟨a,ha⟩:=c.down h; exact⟨f a,a,rfl,ha⟩
  len:= fun ⟨a,_,h⟩=>c.len h
  keep:= fun hb ⟨a,e,h⟩=>⟨a,e,c.keep hb h⟩
theorem Rx {H:Type} {enc:TypeId×Value→H} (hl:laidOutB P=true) {W W':World} (hb:Below W.heap.size W W'):
    ∀ (ts:List TypeId) (vs:List Value) (ds:List (DataW H)) (ps:List MemPlace),(∀t∈ts,P.readableRec t=true∧t<P.types.size)→
      DataW.TrodAll enc P W 0 (fun _=>true) true ts vs ds ps→DataW.TrodAll enc P W' 0 (fun b=>decide (b<W.heap.size)) true ts vs ds ps
  | [],vs,ds,ps,_,h=> by
    obtain⟨rfl,rfl,rfl⟩:=trodAll_nil h
    exact Qa
  | t::ts,vs,ds,ps,hr,h=> by
    obtain⟨v,vs',d,ds',p,q,rfl,rfl,rfl,h0,h1⟩:=trodAll_cons h
    have lt0: ∀x∈p,x.block<W.heap.size:= by obtain⟨m,hm⟩:=h0; exact DataW.trod_lt m _ _ _ hm
    obtain⟨r1,r2⟩:=hr t (by simp)
    exact trodAll_cons_mk (Below.trod hl r1 r2 h0 hb lt0) (Rx hl hb ts vs' ds' q (fun t ht=>hr t (by simp [ht])) h1)
end
end Go.Proofs.YtiibgheijbbmaaaGreatDoor.M
namespace Go.Proofs.YtiibgheijbbmaaaGreatDoor
open Go.RowKit M Proofs.Tryz
theorem Tw {P:Program} {w:World} {name:String} {g t:Nat} (hn:P.globalNamed name=some g) (hy:(P.globals[g]?).map (·.type)=some t) (ht:Gn P t=true) {nm:String} {x:DataW Unit} (h:Lib.VarReads P w name (.iface nm x)): ∃tp p,w.var? P name=some #[.iface tp p]:= by
  obtain⟨g',t',cs,fuel,p,h1,h2,h3,h4⟩:=h
  obtain rfl:=Option.some.inj (hn.symm.trans h1)
  obtain rfl:=Option.some.inj (hy.symm.trans h2)
  unfold Gn at ht
  cases hq:P.underlying t with
  | none=> rw[hq]at ht; cases ht
  | some d=>
    rw[hq]at ht
    cases d<;> simp at ht
    cases fuel with
    | zero=> simp [DataW.trod]at h4
    | succ fuel=>
      obtain⟨l⟩:=cs
      match l,h3,h4 with
      | [],_,h4=> simp [DataW.trod,hq]at h4
      | [v],h3,h4=>
        cases v with
        | iface a b=> exact⟨a,b,h3⟩
        | _=> simp [DataW.trod,hq]at h4
      | _::_::_,_,h4=> simp [DataW.trod,hq]at h4
theorem gPow : prog.globalNamed "internal/strconv.uint64pow10" = some 4 := by kernel_rfl
theorem gSyn : prog.globalNamed "strconv.ErrSyntax" = some 2 := by kernel_rfl
theorem gRng : prog.globalNamed "strconv.ErrRange" = some 3 := by kernel_rfl
theorem tPow:(prog.globals[4]?).map (·.type)=some 214:= by kernel_rfl
theorem tSyn:(prog.globals[2]?).map (·.type)=some 151:= by kernel_rfl
theorem tRng:(prog.globals[3]?).map (·.type)=some 151:= by kernel_rfl
theorem cPow:prog.cellsOf 214=20:= by kernel_rfl
theorem cU64:prog.cellsOf 189=1:= by kernel_rfl
theorem Oe {W : World} {l : List (String × DataW Unit)} (h : laidMet prog l W) (h1 : ("internal/strconv.uint64pow10", Rows.laid_internal_strconv_uint64pow10) ∈ l) (h2 : ("strconv.ErrSyntax", Rows.laid_strconv_ErrSyntax) ∈ l) (h3 : ("strconv.ErrRange", Rows.laid_strconv_ErrRange) ∈ l) : WireG W where
  tab:= by
    obtain⟨g',t',cs,fuel,p,e1,e2,e3,e4⟩:=Lib.laidMet.reads h h1
    obtain rfl:=Option.some.inj (gPow.symm.trans e1)
    obtain rfl:=Option.some.inj (tPow.symm.trans e2)
    unfold Lib.TabIs
    rw[e3]
    have e5:=Lib.cells_of_tab (zs:=Lib.pow10Tab) (k:= .u64) underlying214 underlying189 cU64 cPow (e4)
    rw[←e5]
  syn:=Tw gSyn tSyn (by kernel_rfl) (Lib.laidMet.reads h h2)
  rng:=Tw gRng tRng (by kernel_rfl) (Lib.laidMet.reads h h3)
theorem gOff : prog.globalNamed "rehearsal/cell.offsets" = some 0 := by kernel_rfl
theorem tOff:(prog.globals[0]?).map (·.type)=some 132:= by kernel_rfl
theorem c1Off:prog.cellsOf 3=1:= by kernel_rfl
theorem glob_of {W : World} {l : List (String × DataW Unit)} (h : laidMet prog l W) (h1 : ("rehearsal/cell.offsets", Rows.laid_rehearsal_cell_offsets) ∈ l) : Glob 0 W := by
  obtain⟨g0,t0,cs0,fuel,p,hg0,ht0,hv0,hd0⟩:=Lib.laidMet.reads h h1
  obtain rfl:=Option.some.inj (gOff.symm.trans hg0)
  obtain rfl:=Option.some.inj (tOff.symm.trans ht0)
  obtain⟨xs,m1,rfl,hx1,hlen,hn3,hel⟩:=DataW.trod_array underlying132 hd0
  simp only[Prod.mk.injEq]at hx1
  have key: ∀(j:Nat) (n:Int),j<3→(xs.map (·.1))[j]? =some (.lit (.int .i64 n))→cs0[j]? =some (intV n):= by
    intro j n hj hn
    have h1:=hel j hj
    rw[List.getElem?_map]at hn
    obtain⟨x,hx,hx2⟩:=Option.map_eq_some_iff.1 hn
    rw[hx,c1Off,Nat.mul_one]at h1
    obtain⟨k,e1,e2,_⟩:=DataW.trod_int underlying3 h1
    have hk:k=n:= by rw[e2]at hx2;simpa using hx2
    subst hk
    have h2:=congrArg (fun q=>q[0]?) e1
    simp only[List.getElem?_take,List.getElem?_drop]at h2
    simpa using h2
  have hx2:=DataW.agg.inj (hx1.1:DataW.agg _=DataW.agg _)
  rw[←hx2]at key
  intro j v hv
  rw[World.var?_cell gOff hv0 j]
  match j with
  | 0=> obtain rfl:=(Option.some.inj hv).symm; exact key 0 _ (by decide) rfl
  | 1=> obtain rfl:=(Option.some.inj hv).symm; exact key 1 _ (by decide) rfl
  | 2=> obtain rfl:=(Option.some.inj hv).symm; exact key 2 _ (by decide) rfl
  | j+3=> simp at hv
def qintC:Cod prog 3 Int:=Cod.int .i64 underlying3 (by kernel_rfl)
def OA:Cod prog 9 ByteArray:=Cod.string underlying9 (by kernel_rfl)
def qbytC:Cod prog 5 Int:=Cod.int .u8 underlying5 (by kernel_rfl)
def qintsC:Cod prog 33 (List Int):=Cod.slice underlying33 (by kernel_rfl) qintC (by decide)
def shCod:Cod prog 65 (Int×ByteArray×Unit):=Cod.struct (P:=prog) underlying65 (Flds.cons qintC Qa (Flds.cons OA Qa (Flds.nil _))) (by kernel_rfl)
def shsCod:Cod prog 22 (List (Int×ByteArray×Unit)):=Cod.slice underlying22 (by kernel_rfl) shCod (by decide)
def sesCod:Cod prog 24 (ByteArray×List (Int×ByteArray×Unit)×Unit):=Cod.struct (P:=prog) underlying24 (Flds.cons OA Qa (Flds.cons shsCod Qa (Flds.nil _))) (by kernel_rfl)
def opCod:Cod prog 35 (Int×Int×Int×Int×ByteArray×List Int×Unit):=Cod.struct (P:=prog) underlying35 (Flds.cons qintC Qa (Flds.cons qintC Qa (Flds.cons qintC Qa (Flds.cons qbytC Qa (Flds.cons OA Qa (Flds.cons qintsC Qa (Flds.nil _))))))) (by kernel_rfl)
instance:Inhabited OpX:=⟨⟨default,.nilFunc⟩⟩
theorem rdI_of {W:World} {v:Value} {l:List Int} (h:Rp qintC.rd qintC.size W v l): ∀w,Below W.heap.size W w→RdI v l w:= by
  obtain⟨ao,cap,h1,h2,h3,h4⟩:=h
  refine fun w hb=>⟨ao,cap,h1, by omega, fun i x hx=> ?_⟩
  obtain⟨b,off,cs,e1,e2,e3,e4⟩:=h4 i x hx
  obtain⟨rfl,_⟩:=e4
  refine⟨b,off,e1, ?_⟩
  have :=(hb.cell (p:=⟨b,off+i*1+0,none⟩) e2).trans (e3 0 (intV x) Qa)
  rw[Nat.mul_one,Nat.add_zero]at this
  exact this
theorem shs_of {W:World} {v:Value} {l:List (Int×ByteArray×Unit)} (h:Rp shCod.rd shCod.size W v l): ∃l':AL Bs,∀w,Below W.heap.size W w→RdL shC v l' w:= by
  obtain⟨ao,cap,h1,h2,h3,h4⟩:=h
  have hex: ∀i,i<l.length→ ∃a:Int×Bs,∀w,Below W.heap.size W w→ ∃b off,ao=some ⟨b,off,none⟩∧ ∀(j:Nat) (u:Value),(shC.enc a)[j]? =some u→w.cell? ⟨b,off+i*2+j,none⟩=some u:= by
    intro i hi
    obtain⟨b,off,cs,e1,e2,e3,e4⟩:=h4 i l[i] (WU hi)
    obtain⟨c1,cs1,rfl,⟨rfl,_⟩,c2,cs2,rfl,⟨rfl,_⟩,rfl⟩:=e4
    refine⟨(l[i].1,l[i].2.1.data.toList), fun w hb=>⟨b,off,e1, fun j u hu=> ?_⟩⟩
    refine(hb.cell (p:=⟨b,off+i*2+j,none⟩) e2).trans (e3 j u ?_)
    simpa [shC]using hu
  obtain⟨f,hf⟩:=Go.Deep.choose_lt (n:=l.length) hex
  refine⟨(List.range l.length).map f, fun w hb=>⟨ao,cap, by simpa using h1, by simp;omega, fun i a hi=> ?_⟩⟩
  have hil:i<l.length:= by have :=(Jo hi).1;simpa using this
  simp [hil]at hi
  subst hi
  exact hf i hil w hb
theorem ses_of {W:World} {cs:Array Value} {y:(ByteArray×List (Int×ByteArray×Unit)×Unit)} (h:sesCod.rd W cs.toList y): ∃(t:Bs) (sv:Value) (l:AL Bs),cs= #[strV t,sv]∧ ∀w,Below W.heap.size W w→RdL shC sv l w:= by
  obtain⟨c1,cs1,e,⟨rfl,_⟩,c2,cs2,rfl,⟨sv,rfl,hs⟩,rfl⟩:=h
  obtain⟨l,hl⟩:=shs_of hs
  refine⟨y.1.data.toList,sv,l, ?_,hl⟩
  apply Array.ext'
  rw[e]; simp
theorem ops_of {W:World} {v:Value} {l:List (Int×Int×Int×Int×ByteArray×List Int×Unit)} (h:Rp opCod.rd opCod.size W v l): ∃l':List OpX,(∀x∈l',Xy x.o.id)∧ ∀w,Below W.heap.size W w→OpsRd v l' w:= by
  obtain⟨ao,cap,h1,h2,h3,h4⟩:=h
  have hex: ∀i,i<l.length→ ∃a:OpX,Xy a.o.id∧ ∀w,Below W.heap.size W w→(∃b off,ao=some ⟨b,off,none⟩∧ ∀(j:Nat) (u:Value),(opV a)[j]? =some u→w.cell? ⟨b,off+i*6+j,none⟩=some u)∧RdI a.kv a.o.keep w:= by
    intro i hi
    obtain⟨b,off,cs,e1,e2,e3,e4⟩:=h4 i l[i] (WU hi)
    obtain⟨c1,cs1,rfl,⟨rfl,_⟩,c2,cs2,rfl,⟨rfl,_⟩,c3,cs3,rfl,⟨rfl,g3⟩,c4,cs4,rfl,⟨rfl,g4⟩,c5,cs5,rfl,⟨rfl,_⟩,c6,cs6,rfl,⟨kv,rfl,hk⟩,rfl⟩:=e4
    have hb8:((UInt8.ofNat l[i].2.2.2.1.toNat).toNat:Int)=l[i].2.2.2.1:= by
      simp [Lit.wf,IntKind.min,IntKind.max,IntKind.signed,IntKind.bits]at g4
      simp;omega
    refine⟨⟨⟨l[i].1,l[i].2.1,l[i].2.2.1,UInt8.ofNat l[i].2.2.2.1.toNat,l[i].2.2.2.2.1.data.toList,l[i].2.2.2.2.2.1⟩,kv⟩, ?_, fun w hb=>⟨⟨b,off,e1, fun j u hu=> ?_⟩,rdI_of hk w hb⟩⟩
    · simp [Lit.wf,IntKind.min,IntKind.max,IntKind.signed,IntKind.bits]at g3
      show Xy l[i].2.2.1
      unfold Xy;omega
    · refine(hb.cell (p:=⟨b,off+i*6+j,none⟩) e2).trans (e3 j u ?_)
      unfold opV at hu
      dsimp only at hu
      rw[hb8]at hu
      simpa using hu
  obtain⟨f,hf⟩:=Go.Deep.choose_lt (n:=l.length) hex
  refine⟨(List.range l.length).map f, fun x hx=> ?_, fun w hb=>⟨ao,cap, by simpa using h1, by simp;omega, fun i a hi=> ?_⟩⟩
  · obtain⟨i,hi,rfl⟩:=List.mem_map.1 hx
    exact(hf i (List.mem_range.1 hi)).1
  · have hil:i<l.length:= by have :=(Jo hi).1;simpa using this
    simp [hil]at hi
    subst hi
    exact(hf i hil).2 w hb
theorem E8 {W w:World} (h:Sat w [Bq W]):Below W.heap.size W w:=h.below 0 Qa
theorem IF {W:World} (h:WireG W):Ent (Bq W) WireG:=Ent.frame fun w hb=>h.below hb
theorem IG {W:World} {g:Nat} (h:Glob g W):Ent (Bq W) (Glob g):=Ent.frame fun w hb j v hv=>(hb.cell (p:=⟨g,j,none⟩) (block_lt_of_cell (h j v hv))).trans (h j v hv)
theorem IH {W:World} {v2:Value} {cs0:Array Value} {l0:(ByteArray×List (Int×ByteArray×Unit)×Unit)} {l2:List (Int×Int×Int×Int×ByteArray×List Int×Unit)} {n:Int} (hG:WireG W∧Glob 0 W) (h0:sesCod.rd W cs0.toList l0) (h2:Rp opCod.rd opCod.size W v2 l2):
    Calls prog 6 #[.agg cs0,intV n,v2] W fun e W'=>e= .returned (.bool true)∧Below W.heap.size W W':= by
  obtain⟨t,sv,a0,rfl,k0⟩:=ses_of h0
  obtain⟨a1,g1,h2⟩:=ops_of h2
  exact(II (Sat.start W) (IF hG.1) (IG hG.2) (Ent.frame k0) (Ent.frame h2) g1).mono fun e W' ⟨v,h4,h5,h6⟩=>⟨by rw[h4,h5],E8 h6⟩
