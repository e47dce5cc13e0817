/- How the arguments of a law read: a relation between cells and plain data for each type, built by shape; and the step from a law's contract to its row. -/
import Derived.Test.YtkgjmhcdacidoaaGreatDoorMem
import Derived.ProofKit
import Derived.OpenShut
import Derived.ShutString
import Derived.ChangeOld
import Derived.Deep.Slices
import Derived.Deep.Fields
import Derived.ChangeSame
import Derived.JoinedCond
import Derived.Test.YtkgjmhcdacidoaaGreatDoorTr16
import Derived.Test.YtkgjmhcdacidoaaGreatDoorLv1
set_option linter.unusedVariables false
namespace Go.Proofs.YtkgjmhcdacidoaaGreatDoor.M
open Proofs.Tryz
open Go.ChangeShapes Go.WideShapes Go.ChangeAt Go.RowKit Go.Deep
def At (w:World) (b off:Nat) (cs:List Value):Prop:= ∀j v,cs[j]? =some v→w.cell? ⟨b,off+j,none⟩=some v
theorem At.cell {w:World} {b off:Nat} {cs:List Value} (h:At w b off cs) (j:Nat) {v:Value} (hv:cs[j]? =some v):w.cell? ⟨b,off+j,none⟩=some v:=h j v hv
theorem At.below {B:Nat} {w w':World} {b off:Nat} {cs:List Value} (h:At w b off cs) (hb:Below B w w') (hB:b<B):At w' b off cs:=
  fun j v hv=>(hb.cell (p:=⟨b,off+j,none⟩) hB).trans (h j v hv)
structure Cod (P:Program) (t:TypeId) (α:Type) where
  rd:World→List Value→α→Prop
  size:Nat
  cells:P.cellsOf t=size
  down: ∀{H:Type} {enc:TypeId×Value→H} {w:World} {base:Nat} {spare:Nat→Bool} {held:Bool} {fuel:Nat} {cs:List Value} {x:DataW H×List MemPlace},
    DataW.trod enc P w base spare held fuel t cs=some x→ ∃a,rd w cs a
  len: ∀{w cs a},rd w cs a→cs.length=size
  keep: ∀{w w' cs a},Below w.heap.size w w'→rd w cs a→rd w' cs a
section
variable {P:Program}
def Cod.int {t:TypeId} (k:IntKind) (ht:P.underlying t=some (.int k)) (hc:P.cellsOf t=1):Cod P t Int where
  rd:= fun _ cs n=>cs=[.int k n]∧(Lit.int k n).wf=true
  size:=1
  cells:=hc
  down:= fun h=> by
    obtain⟨n,h1,_,h2⟩:=DataW.trod_int ht h
    exact⟨n,h1,h2⟩
  len:= fun h=> by rw[h.1];rfl
  keep:= fun _ h=>h
def Cod.byte {t:TypeId} (ht:P.underlying t=some (.int .u8)) (hc:P.cellsOf t=1):Cod P t UInt8 where
  rd:= fun _ cs n=>cs=[.int .u8 (n.toNat:Int)]
  size:=1
  cells:=hc
  down:= fun h=> by
    obtain⟨n,h1,_,h2⟩:=DataW.trod_int ht h
    have hb:=bounds_u8 h2
    refine⟨UInt8.ofNat n.toNat, ?_⟩
    have e:((UInt8.ofNat n.toNat).toNat:Int)=n:= by simp;omega
    rw[e]; exact h1
  len:= fun h=> by rw[h];rfl
  keep:= fun _ h=>h
def Cod.bool {t:TypeId} (ht:P.underlying t=some .bool) (hc:P.cellsOf t=1):Cod P t Bool where
  rd:= fun _ cs n=>cs=[.bool n]
  size:=1
  cells:=hc
  down:= fun h=> by
    obtain⟨n,h1,_⟩:=DataW.trod_bool ht h
    exact⟨n,h1⟩
  len:= fun h=> by rw[h];rfl
  keep:= fun _ h=>h
def Cod.string {t:TypeId} (ht:P.underlying t=some .string) (hc:P.cellsOf t=1):Cod P t ByteArray where
  rd:= fun _ cs s=>cs=[.string s]∧s.size≤9223372036854775807
  size:=1
  cells:=hc
  down:= fun h=> by
    obtain⟨n,h1,_,h2⟩:=DataW.trod_string ht h
    exact⟨n,h1,h2⟩
  len:= fun h=> by rw[h.1];rfl
  keep:= fun _ h=>h
def G0 {α:Type} (rd:World→List Value→α→Prop) (size:Nat) (w:World) (v:Value) (l:List α):Prop:=
  ∃ao cap,v= .slice ao l.length cap∧l.length≤cap∧cap≤9223372036854775807∧ ∀(i:Nat) (a:α),l[i]? =some a→ ∃b off cs,ao=some ⟨b,off,none⟩∧b<w.heap.size∧At w b (off+i*size) cs∧rd w cs a
def Cod.slice {t e:TypeId} {α:Type} [Inhabited α] (ht:P.underlying t=some (.slice e)) (hc:P.cellsOf t=1) (c:Cod P e α) (hpos:0<c.size):Cod P t (List α) where
  rd:= fun w cs l=> ∃v,cs=[v]∧G0 c.rd c.size w v l
  size:=1
  cells:=hc
  down:= fun {H enc w base spare held fuel cs x} h=> by
    rcases open_slice ht h with⟨rfl,_⟩ | ⟨a,len,cap,m,n,D,Pl,rfl,hb,hl,hm,hmm,_,hx⟩
    · exact⟨[],_,rfl,none,0,rfl,Nat.le_refl _, by omega, fun i a hi=> by simp at hi⟩
    · have hlm:len≤m:= by rw[hmm];split<;>omega
      have hex: ∀i,i<len→ ∃y:α,∃cs',c.rd w cs' y∧(∀j v,cs'[j]? =some v→w.cell? (a.add (i*c.size+j))=some v):= by
        intro i hi
        obtain⟨cs',h1,h2⟩:=hx i (by omega)
        obtain⟨y,hy⟩:=c.down h2
        obtain⟨_,hlen,hat⟩:=World.cells?_some h1
        refine⟨y,cs',hy, fun j v hv=> ?_⟩
        have hj:j<cs'.length:=(List.getElem?_eq_some_iff.1 hv).1
        rw[c.cells]at hlen hat
        rw[←Go.Deep.add_add,hat j (by omega),hv]
      obtain⟨f,hf⟩:=choose_lt hex
      refine⟨(List.range len).map f,_,rfl,some a,cap, by simp, by simpa using hl,hm, fun i y hi=> ?_⟩
      have hil:i<len:= by have :=(List.getElem?_eq_some_iff.1 hi).1;simpa using this
      simp [hil]at hi
      subst hi
      obtain⟨cs',hrd,hat⟩:=hf i hil
      have hcl:=c.len hrd
      obtain⟨b,off,spot⟩:=a
      have h0:=hat 0 cs'[0] (List.getElem?_eq_getElem (by omega))
      have hspot:spot=none:= by
        have :=World.cell?_spot h0
        unfold Addr.add at this
        split at this
        · exact this
        · obtain⟨i0,hi0⟩: ∃i0,i0<len∧i0=0:=⟨0, by omega,rfl⟩
          obtain⟨hi1,rfl⟩:=hi0
          obtain⟨cs0,hrd0,hat0⟩:=hf 0 hi1
          have hcl0:=c.len hrd0
          have h00:=hat0 0 cs0[0] (List.getElem?_eq_getElem (by omega))
          have :=World.cell?_spot h00
          simpa [Addr.add]using this
      subst hspot
      refine⟨b,off,cs',rfl, ?_, fun j v hv=> ?_,hrd⟩
      · have :=block_lt_of_cell h0
        rw[ZL]at this
        exact this
      · have :=hat j v hv
        rw[ZL]at this
        rw[Nat.add_assoc]; exact this
  len:= fun ⟨v,h,_⟩=> by rw[h];rfl
  keep:= fun {w w' cs l} hb ⟨v,h1,ao,cap,h2,h3,h4,h5⟩=>⟨v,h1,ao,cap,h2,h3,h4, fun i a hi=> by
    obtain⟨b,off,cs',e1,e2,e3,e4⟩:=h5 i a hi
    exact⟨b,off,cs',e1,Nat.lt_of_lt_of_le e2 hb.size,e3.below hb e2,c.keep hb e4⟩⟩
structure Flds (P:Program) (fs:List Field) (off:Nat) (α:Type) where
  rd:World→List Value→α→Prop
  size:Nat
  down: ∀{H:Type} {enc:TypeId×Value→H} {w:World} {base:Nat} {spare:Nat→Bool} {held:Bool} {n:Nat} {cs:List Value} {xs:List (DataW H×List MemPlace)},
    (∀(i:Nat) (f:Field),fs[i]? =some f→ ∃x,DataW.trod enc P w base spare held n f.type ((cs.drop f.offset).take (P.cellsOf f.type))=some x)→ ∃a,rd w ((cs.drop off).take size) a
  len: ∀{w cs a},rd w cs a→cs.length=size
  keep: ∀{w w' cs a},Below w.heap.size w w'→rd w cs a→rd w' cs a
def Flds.nil (off:Nat):Flds P [] off Unit where
  rd:= fun _ cs _=>cs=[]
  size:=0
  down:= fun _=>⟨(), by simp⟩
  len:= fun h=> by rw[h];rfl
  keep:= fun _ h=>h
def Flds.cons {f:Field} {fs:List Field} {off:Nat} {α β:Type} (c:Cod P f.type α) (ho:f.offset=off) (r:Flds P fs (off+c.size) β):Flds P (f::fs) off (α×β) where
  rd:= fun w cs a=> ∃cs1 cs2,cs=cs1++cs2∧c.rd w cs1 a.1∧r.rd w cs2 a.2
  size:=c.size+r.size
  down:= fun {H enc w base spare held n cs xs} h=> by
    obtain⟨x,hx⟩:=h 0 f rfl
    rw[ho,c.cells]at hx
    obtain⟨a,ha⟩:=c.down hx
    obtain⟨b,hb⟩:=r.down (xs:=xs) (fun i g hg=>h (i+1) g (by simpa using hg))
    refine⟨(a,b),_,_, ?_,ha,hb⟩
    rw[←List.drop_drop]
    exact List.take_add ..
  len:= fun ⟨cs1,cs2,h,h1,h2⟩=> by rw[h,List.length_append,c.len h1,r.len h2]
  keep:= fun hb ⟨cs1,cs2,h,h1,h2⟩=>⟨cs1,cs2,h,c.keep hb h1,r.keep hb h2⟩
def Cod.struct {t:TypeId} {fs:List Field} {α:Type} (ht:P.underlying t=some (.struct fs.toArray)) (r:Flds P fs 0 α) (hc:P.cellsOf t=r.size):Cod P t α where
  rd:=r.rd
  size:=r.size
  cells:=hc
  down:= fun {H enc w base spare held fuel cs x} h=> by
    obtain⟨xs,n,_,_,hl,hxl,hf⟩:=DataW.trod_struct ht h
    obtain⟨a,ha⟩:=r.down (xs:=xs) (n:=n) (enc:=enc) (w:=w) (base:=base) (spare:=spare) (held:=held) (cs:=cs) (fun i f hi=> by
      have h1:=hf i f (by simpa using hi)
      have hil:=(List.getElem?_eq_some_iff.1 hi).1
      rw[h1,List.getElem?_eq_getElem (by rw[hxl];simpa using hil)]
      exact⟨_,U⟩)
    refine⟨a, ?_⟩
    rw[List.drop_zero,List.take_of_length_le (by omega)]at ha
    exact ha
  len:=r.len
  keep:=r.keep
def Cod.map {t:TypeId} {α β:Type} (c:Cod P t α) (f:α→β):Cod P t β where
  rd:= fun w cs b=> ∃a,b=f a∧c.rd w cs a
  size:=c.size
  cells:=c.cells
  down:= fun h=> by obtain⟨a,ha⟩:=c.down h; exact⟨f a,a,rfl,ha⟩
  len:= fun ⟨a,_,h⟩=>c.len h
  keep:= fun hb ⟨a,e,h⟩=>⟨a,e,c.keep hb h⟩
theorem Vr {H:Type} {enc:TypeId×Value→H} (hl:laidOutB P=true) {W W':World} (hb:Below W.heap.size W W'):
    ∀ (ts:List TypeId) (vs:List Value) (ds:List (DataW H)) (ps:List MemPlace),(∀t∈ts,P.readableRec t=true∧t<P.types.size)→
      DataW.TrodAll enc P W 0 (fun _=>true) true ts vs ds ps→DataW.TrodAll enc P W' 0 (fun b=>decide (b<W.heap.size)) true ts vs ds ps
  | [],vs,ds,ps,_,h=> by
    obtain⟨rfl,rfl,rfl⟩:=trodAll_nil h
    exact U
  | t::ts,vs,ds,ps,hr,h=> by
    obtain⟨v,vs',d,ds',p,q,rfl,rfl,rfl,h0,h1⟩:=trodAll_cons h
    have lt0: ∀x∈p,x.block<W.heap.size:= by obtain⟨m,hm⟩:=h0; exact DataW.trod_lt m _ _ _ hm
    obtain⟨r1,r2⟩:=hr t (by simp)
    exact trodAll_cons_mk (Below.trod hl r1 r2 h0 hb lt0) (Vr hl hb ts vs' ds' q (fun t ht=>hr t (by simp [ht])) h1)
end
end Go.Proofs.YtkgjmhcdacidoaaGreatDoor.M
namespace Go.Proofs.YtkgjmhcdacidoaaGreatDoor
open Go.RowKit M Proofs.Tryz
theorem ent_gt {W:World} (h:GT W):Ent (Bm W) GT:=Ent.frame fun w hb j hj=>(hb.cell (block_lt_of_cell (h j hj))).trans (h j hj)
theorem SC {W w:World} (h:Sat w [Bm W]):Below W.heap.size W w:=h.below 0 U
def qintC:Cod prog 3 Int:=Cod.int .i64 underlying3 (by kernel_rfl)
theorem ints_of {W:World} {v:Value} {l:List Int} (h:G0 qintC.rd qintC.size W v l): ∀w,Below W.heap.size W w→RdL inC v l w:= by
  obtain⟨ao,cap,h1,h2,h3,h4⟩:=h
  refine fun w hb=>⟨ao,cap,h1, by omega, fun i a hi=> ?_⟩
  obtain⟨b,off,cs,e1,e2,e3,e4⟩:=h4 i a hi
  obtain⟨rfl,_⟩:=e4
  refine⟨b,off,e1, fun j u hu=> ?_⟩
  refine(hb.cell (p:=⟨b,off+i*1+j,none⟩) e2).trans (e3 j u ?_)
  simpa [inC]using hu
theorem FM {W:World} {v1:Value} {l1:List Int} (hG:GT W) (h1:G0 qintC.rd qintC.size W v1 l1):
    Calls prog 4 #[v1] W fun e W'=>e= .returned (.bool true)∧Below W.heap.size W W':=
  (FN (Sat.start W) (ent_gt hG) (Ent.frame (ints_of h1))).mono fun e W' ⟨v,h5,h6,h7⟩=>⟨by rw[h5,h6],SC h7⟩
