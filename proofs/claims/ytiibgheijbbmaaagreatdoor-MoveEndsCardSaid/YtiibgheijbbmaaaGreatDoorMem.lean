/- A small logic of memory over whatever program: rows of cells ('Blk'), what a step may have changed ('Only'), and laws for the operations on many cells. Conditions: each law's own hypotheses. -/
import Derived.Test.YtiibgheijbbmaaaGreatDoorRows
import Derived.WalkKit
import Derived.WalkSpells
import Derived.WalkLawsBesides
import Derived.BigQuiet
namespace Go.Proofs.YtiibgheijbbmaaaGreatDoor.M
open Go.RowKit
theorem MY {p:Prop} (h:p):Hid p:=h
def Blk (w:World) (b:Nat) (cs:List Value):Prop:=
  ∃T lo hi,w.heap[b]? =some (.cells cs.toArray T (lo,hi))∧(hi≤lo∨cs.length≤lo)
theorem Blk.lt {w:World} {b:Nat} {cs:List Value} (h:Blk w b cs):b<w.heap.size:= by
  obtain⟨T,lo,hi,h,_⟩:=h
  exact(Array.getElem?_eq_some_iff.1 h).1
theorem Blk.cell {w:World} {b o:Nat} {cs:List Value} {v:Value} (h:Blk w b cs) (hv:cs[o]? =some v):w.cell? ⟨b,o,none⟩=some v:= by
  obtain⟨T,lo,hi,h,_⟩:=h
  simp [World.cell?,h,hv]
theorem Blk.free {w:World} {b:Nat} {cs:List Value} (h:Blk w b cs) (o:Nat) (ho:o<cs.length):w.frozen? ⟨b,o,none⟩=false:= by
  obtain⟨T,lo,hi,h,hf⟩:=h
  simp only[World.frozen?,h]
  simp
  omega
theorem Blk.congr {w w':World} {b:Nat} {cs:List Value} (h:Blk w b cs) (e:w'.heap[b]? =w.heap[b]?):Blk w' b cs:= by
  unfold Blk; rw[e]; exact h
theorem Blk.drew {w:World} {b:Nat} {cs:List Value} (h:Blk w b cs):Blk w.drew b cs:=h
theorem Blk.set {w:World} {b:Nat} {cs:List Value} (h:Blk w b cs) (o:Nat) (v:Value):Blk (w.setCell ⟨b,o,none⟩ v) b (cs.set o v):= by
  obtain⟨T,lo,hi,h,hf⟩:=h
  refine⟨T,lo,hi, ?_, by simpa using hf⟩
  simp [World.setCell,Array.getElem?_modify,h]
theorem Blk.other {w:World} {b:Nat} {cs:List Value} (h:Blk w b cs) {a:Addr} (hne:b≠a.block) (v:Value):Blk (w.setCell a v) b cs:=
  h.congr (Below.heap_setCell _ _ _ _ hne)
theorem Blk.alloc {w:World} {b:Nat} {cs:List Value} (h:Blk w b cs) (o:Obj):Blk (w.alloc o) b cs:=
  h.congr (Below.heap_alloc _ _ _ h.lt)
theorem Blk.new (w:World) (cs:List Value) (T:TypeId):Blk (w.alloc (.cells cs.toArray T)) w.heap.size cs:=
  ⟨T,0,0,heap_alloc_new _ _,.inl (Nat.le_refl _)⟩
theorem Blk.new' (w:World) (cs:Array Value) (T:TypeId):Blk (w.alloc (.cells cs T)) w.heap.size cs.toList:=
  ⟨T,0,0, by rw[heap_alloc_new],.inl (Nat.le_refl _)⟩
structure Only (S:List Nat) (w w':World):Prop where
  os:w'.os=w.os
  tape:w'.tape=w.tape
  output:w'.output=w.output
  size:w.heap.size≤w'.heap.size
  block: ∀k,k<w.heap.size→k∉S→w'.heap[k]? =w.heap[k]?
theorem Only.refl (S:List Nat) (w:World):Only S w w:=⟨rfl,rfl,rfl,Nat.le_refl _, fun _ _ _=>rfl⟩
theorem Only.trans {S S':List Nat} {a b c:World} (h:Only S a b) (k:Only S' b c) (hs: ∀x∈S',x∈S∨a.heap.size≤x):Only S a c:=
  ⟨k.os.trans h.os,k.tape.trans h.tape,k.output.trans h.output,Nat.le_trans h.size k.size, fun i hi hn=>
    (k.block i (Nat.lt_of_lt_of_le hi h.size) (fun hm=> by rcases hs i hm with h1 | h1; exact hn h1;omega)).trans (h.block i hi hn)⟩
theorem Only.trans1 {S:List Nat} {a b c:World} (h:Only S a b) (k:Only S b c):Only S a c:=h.trans k (fun _ hx=> .inl hx)
theorem Only.mono {S S':List Nat} {a b:World} (h:Only S a b) (hs: ∀x∈S,x∈S'):Only S' a b:=
  ⟨h.os,h.tape,h.output,h.size, fun i hi hn=>h.block i hi (fun hm=>hn (hs i hm))⟩
theorem Only.drew {S:List Nat} {a w:World} (h:Only S a w):Only S a w.drew:=⟨h.os,h.tape,h.output,h.size,h.block⟩
theorem Only.alloc {S:List Nat} {a w:World} (h:Only S a w) (o:Obj):Only S a (w.alloc o):=
  h.trans (S':=[]) ⟨rfl,rfl,rfl, by simp, fun k hk _=>Below.heap_alloc _ _ _ hk⟩ (fun _ hx=> by cases hx)
theorem Only.setCell {S:List Nat} {a w:World} (h:Only S a w) {p:Addr} (hp:p.block∈S∨a.heap.size≤p.block) (u:Value):Only S a (w.setCell p u):=
  h.trans (S':=[p.block]) ⟨rfl,rfl,rfl, by simp [World.setCell], fun k _ hn=>Below.heap_setCell _ _ _ _ (by simpa using hn)⟩
    (fun x hx=> by simp only[List.mem_singleton]at hx; subst hx; exact hp)
theorem Only.below {w w':World} (h:Only [] w w'):Below w.heap.size w w':=
  ⟨h.os,h.tape,h.output,h.size, fun k hk=>h.block k hk (by simp)⟩
theorem Only.belowB {S:List Nat} {B:Nat} {W w w':World} (hb:Below B W w) (h:Only S w w') (hs: ∀x∈S,B≤x) (hB:B≤w.heap.size):Below B W w':=
  hb.trans ⟨h.os,h.tape,h.output,h.size, fun k hk=>h.block k (by omega) (fun hm=> by have :=hs k hm;omega)⟩
theorem Only.blk {S:List Nat} {w w':World} {b:Nat} {cs:List Value} (h:Only S w w') (hb:Blk w b cs) (hn:b∉S):Blk w' b cs:=
  hb.congr (h.block b hb.lt hn)
theorem Only.cell {S:List Nat} {w w':World} {b o:Nat} (h:Only S w w') (hb:b<w.heap.size) (hn:b∉S):w'.cell? ⟨b,o,none⟩=w.cell? ⟨b,o,none⟩:=
  World.cell?_of_block (w:=w) (h.block b hb hn)
structure Apart (B N:Nat) (Fs:List (List Nat)):Prop where
  lo: ∀F∈Fs,∀k∈F,B≤k
  hi: ∀F∈Fs,∀k∈F,k<N
  dis: ∀(i j:Nat) (F G:List Nat),i≠j→Fs[i]? =some F→Fs[j]? =some G→ ∀k∈F,k∉G
theorem Apart.grow {B N N':Nat} {Fs:List (List Nat)} (h:Apart B N Fs) (hN:N≤N'):Apart B N' Fs:=
  ⟨h.lo, fun F hF k hk=>Nat.lt_of_lt_of_le (h.hi F hF k hk) hN,h.dis⟩
theorem Apart.nil (B N:Nat):Apart B N []:=⟨by simp, by simp, by simp⟩
theorem Apart.upd {B N N':Nat} {Fs:List (List Nat)} (h:Apart B N Fs) (i:Nat) {F F':List Nat} (hi:Fs[i]? =some F) (hf: ∀k∈F',k∈F∨N≤k) (hF: ∀k∈F',k<N') (hN:N≤N') (hB:B≤N):Apart B N' (Fs.set i F'):= by
  have hmem:F∈Fs:=List.mem_of_getElem? hi
  have hil:=(List.getElem?_eq_some_iff.1 hi).1
  refine⟨fun G hG k hk=> ?_, fun G hG k hk=> ?_, fun a b G K hab hG hK k hk hk2=> ?_⟩
  · rcases List.mem_or_eq_of_mem_set hG with h1 | rfl
    · exact h.lo G h1 k hk
    · rcases hf k hk with h2 | h2
      · exact h.lo F hmem k h2
      · omega
  · rcases List.mem_or_eq_of_mem_set hG with h1 | rfl
    · have :=h.hi G h1 k hk;omega
    · exact hF k hk
  · rw[List.getElem?_set]at hG hK
    by_cases ha:i=a
    · subst ha
      rw[if_pos rfl,if_pos hil]at hG
      rw[if_neg hab]at hK
      cases hG
      rcases hf k hk with h2 | h2
      · exact h.dis i b F K hab hi hK k h2 hk2
      · have :=h.hi K (List.mem_of_getElem? hK) k hk2;omega
    · rw[if_neg ha]at hG
      by_cases hb:i=b
      · subst hb
        rw[if_pos rfl,if_pos hil]at hK
        cases hK
        rcases hf k hk2 with h2 | h2
        · exact h.dis a i G F hab hG hi k hk h2
        · have :=h.hi G (List.mem_of_getElem? hG) k hk;omega
      · rw[if_neg hb]at hK
        exact h.dis a b G K hab hG hK k hk hk2
theorem Apart.add {B N N':Nat} {Fs:List (List Nat)} (h:Apart B N Fs) {F':List Nat} (hf: ∀k∈F',N≤k) (hF: ∀k∈F',k<N') (hN:N≤N') (hB:B≤N):Apart B N' (Fs++[F']):= by
  refine⟨fun G hG k hk=> ?_, fun G hG k hk=> ?_, fun a b G K hab hG hK k hk hk2=> ?_⟩
  · rcases List.mem_append.1 hG with h1 | h1
    · exact h.lo G h1 k hk
    · simp only[List.mem_singleton]at h1; subst h1; have :=hf k hk;omega
  · rcases List.mem_append.1 hG with h1 | h1
    · have :=h.hi G h1 k hk;omega
    · simp only[List.mem_singleton]at h1; subst h1; exact hF k hk
  · by_cases ha:a<Fs.length
    · rw[List.getElem?_append_left ha]at hG
      by_cases hb:b<Fs.length
      · rw[List.getElem?_append_left hb]at hK
        exact h.dis a b G K hab hG hK k hk hk2
      · rw[List.getElem?_append_right (by omega)]at hK
        have hK':=List.mem_of_getElem? hK
        simp only[List.mem_singleton]at hK'; subst hK'
        have h1:=h.hi G (List.mem_of_getElem? hG) k hk
        have h2:=hf k hk2
        omega
    · rw[List.getElem?_append_right (by omega)]at hG
      have hG':=List.mem_of_getElem? hG
      simp only[List.mem_singleton]at hG'; subst hG'
      by_cases hb:b<Fs.length
      · rw[List.getElem?_append_left hb]at hK
        have h1:=h.hi K (List.mem_of_getElem? hK) k hk2
        have h2:=hf k hk
        omega
      · have h1:=(List.getElem?_eq_some_iff.1 hG).1
        rw[List.getElem?_append_right (by omega)]at hK
        have h2:=(List.getElem?_eq_some_iff.1 hK).1
        simp at h1 h2;omega
def XK (cs:List Value) (o:Nat) (vs:List Value):List Value:=cs.take o++vs++cs.drop (o+vs.length)
theorem Y3 {cs:List Value} {o:Nat} {vs:List Value} (h:o+vs.length≤cs.length):(XK cs o vs).length=cs.length:= by
  simp [XK];omega
theorem YI {A B vs:List Value} {o:Nat} (h:o+vs.length≤A.length):XK (A++B) o vs=XK A o vs++B:= by
  unfold XK
  rw[List.take_append_of_le_length (by omega),List.drop_append_of_le_length (by omega)]
  simp [List.append_assoc]
theorem Ua {A B vs:List Value} {o:Nat}:XK (A++B) (A.length+o) vs=A++XK B o vs:= by
  unfold XK
  rw[List.take_length_add_append,Nat.add_assoc,List.drop_length_add_append]
  simp [List.append_assoc]
section
variable {P:Program}
theorem Wu (g o i:Nat):(⟨g,o,none⟩:Addr).add i=⟨g,o+i,none⟩:= by unfold Addr.add;split<;>simp_all
theorem JQ {w:World} {b:Nat} {cs:List Value} (h:Blk w b cs) (off n:Nat) (hn:off+n≤cs.length):
    (loadCells ⟨b,off,none⟩ n).run P w= .ok ((cs.drop off).take n).toArray w:= by
  have hl:((cs.drop off).take n).length=n:= by simp;omega
  have :=run_loadCells_list (P:=P) w ⟨b,off,none⟩ ((cs.drop off).take n) (fun j v hv=> by
    rw[Wu]
    refine h.cell ?_
    rw[List.getElem?_take]at hv
    split at hv
    · rw[List.getElem?_drop]at hv; exact hv
    · cases hv)
  rw[hl]at this
  exact this
theorem Wl: ∀(vs:List Value) (i:Nat) (cs:List Value) (w:World) (b off:Nat),Blk w b cs→off+i+vs.length≤cs.length→(∀v∈vs,v.oneCell'=true)→
    ∃w',(storeCells ⟨b,off,none⟩ vs i).run P w= .ok () w'∧Blk w' b (XK cs (off+i) vs)∧Only [b] w w'∧w'.heap.size=w.heap.size
  | [],i,cs,w,b,off,hb,_,_=>⟨w,rfl, by simpa [XK]using hb,Only.refl _ _,rfl⟩
  | v::rest,i,cs,w,b,off,hb,hl,h1=> by
    have hi:off+i<cs.length:= by simp at hl;omega
    have hcell:=hb.cell (o:=off+i) (List.getElem?_eq_getElem hi)
    have hfro:=hb.free (off+i) hi
    have hst:(store ((⟨b,off,none⟩:Addr).add i) v).run P w= .ok () (w.setCell ⟨b,off+i,none⟩ v):= by
      rw[Wu,run_store P w _ v _ (h1 v (by simp)),hcell]
      simp [hfro]
    obtain⟨w',hr,hb',ho',hsz⟩:=Wl rest (i+1) (cs.set (off+i) v) (w.setCell ⟨b,off+i,none⟩ v) b off (hb.set _ _) (by simp at hl⊢;omega) (fun x hx=>h1 x (by simp [hx]))
    refine⟨w', ?_, ?_, ?_, by rw[hsz]; simp [World.setCell]⟩
    · simp only[storeCells,Sem.run_bind,hst,Result.andThen_ok,hr]
    · have e:=list_seg_step cs (off+i) v rest (by simp at hl⊢;omega)
      have e2:XK (cs.set (off+i) v) (off+(i+1)) rest=XK cs (off+i) (v::rest):= by
        unfold XK; rw[←Nat.add_assoc];simpa using e
      rwa [e2]at hb'
    · exact((Only.refl [b] w).setCell (.inl (by simp)) v).trans1 ho'
def does (P:Program) (o:Oper) (a:Act) (w:World) (R:Value→World→Prop):Prop:=
  ∃v w',((execOp a.eval o).run P w= .ok (.value v) w'∨((execOp a.eval o).run P w= .ok .skip w'∧v=undef))∧R v w'
theorem does.mono {o:Oper} {a:Act} {w:World} {R R':Value→World→Prop} (h:does P o a w R) (hr: ∀v w',R v w'→R' v w'):does P o a w R':= by
  obtain⟨v,w',h1,h2⟩:=h
  exact⟨v,w',h1,hr v w' h2⟩
theorem wp_does {o:Oper} {a:Act} {w:World} {R:Value→World→Prop} {K:Act→World→Prop} {Q:Exit→Act→World→Prop}
    (h:does P o a w R) (hk: ∀v w',R v w'→K (a.put o.dst v) w'):o.wp P a w K Q:= by
  obtain⟨v,w',h1,h2⟩:=h
  unfold Oper.wp
  rcases h1 with h1 | ⟨h1,rfl⟩
  · rw[h1]; exact hk v w' h2
  · rw[h1]; exact hk _ w' h2
theorem Kc {ops:Array Oper} {rest:List Oper} {o:Oper} {a:Act} {w:World} {Q:Exit→Act→World→Prop} {R:Value→World→Prop} (hg:o.guard=none)
    (h:does P o a w R) (hk: ∀v w',R v w'→wpList P ops Q rest (a.put o.dst v) w'):wpList P ops Q (o::rest) a w:=
  wpList_plain hg fun _ hK=>wp_does h (fun v w' hr=>hK _ _ (hk v w' hr))
def VS:TypeDesc→Bool | .struct _ | .array _ _=>true | _=>false
theorem E4 {t:TypeId} {d:TypeDesc} (hu:P.underlying t=some d) (hd:VS d=true) (w:World):(isAgg t).run P w= .ok true w:= by
  unfold isAgg
  rw[Sem.run_bind,run_underlying hu w]
  cases d<;>simp_all [VS]
theorem ZX {t:TypeId} {n:Nat} (hi:(P.info? t).map (·.size)=some n) (w:World):(sizeOf t).run P w= .ok n w:= by
  cases hq:P.info? t with
  | none=> simp [hq]at hi
  | some i => have :i.size=n:= by simpa [hq]using hi
              simp [sizeOf,typeInfo,hq,this]
theorem F9 {o:Oper} {a:Act} {w:World} (ty:TypeId) (x y:Operand) (ho:o.op= .store ty x y) {b off:Nat} (hx:a.eval x= .pointer (some ⟨b,off,none⟩))
    {vs:Array Value} (hy:a.eval y= .agg vs) {cs:List Value} (hb:Blk w b cs) {n:Nat} (hi:(P.info? ty).map (·.size)=some n) (hvs:vs.size=n) (hn:off+n≤cs.length)
    (h1: ∀v∈vs.toList,v.oneCell'=true):
    does P o a w (fun v w'=>v=undef∧Blk w' b (XK cs off vs.toList)∧Only [b] w w'∧w'.heap.size=w.heap.size):= by
  obtain⟨w',hr,hb',ho',hsz⟩:=Wl (P:=P) vs.toList 0 cs w b off hb (by simp [hvs];omega) h1
  refine⟨_,w',.inr ⟨?_,rfl⟩,rfl,hb',ho',hsz⟩
  have hsn:((Value.agg vs).cells.size≠n)=False:= by simp [Value.cells,hvs]
  simp [execOp,ho,hx,hy,Instr.storeAt,Instr.sureAddr,storeVar,ZX hi,Value.cells,hvs,hr]
theorem H2 (z:Array Value): ∀n,(madeCells z (n*z.size)).toList=(List.replicate n z.toList).flatten:= by
  intro n
  apply List.ext_getElem?
  intro j
  simp only[madeCells,Array.toList_map,Array.toList_range,List.getElem?_map]
  induction n generalizing j with
  | zero=> simp
  | succ n ih=>
    rw[List.replicate_succ,List.flatten_cons]
    by_cases hz:z.size=0
    · have :z= #[]:= by simpa using hz
      subst this
      have hr: ∀n:Nat,(List.replicate n ([]:List Value)).flatten=[]:= fun n=> by induction n<;>simp_all [List.replicate_succ]
      simp [hr]
    · by_cases hj:j<z.size
      · rw[List.getElem?_append_left (by simpa using hj),List.getElem?_range (by rw[Nat.add_mul];omega)]
        simp [Nat.mod_eq_of_lt hj,hj]
      · rw[List.getElem?_append_right (by simpa using hj)]
        have :=ih (j -z.toList.length)
        rw[←this]
        simp only[Array.length_toList]
        by_cases hjj:j<(n+1)*z.size
        · rw[List.getElem?_range hjj,List.getElem?_range (by rw[Nat.add_mul]at hjj;omega)]
          simp only[Option.map_some]
          rw[Nat.mod_eq_sub_mod (by omega)]
        · rw[List.getElem?_eq_none (by simpa using hjj),List.getElem?_eq_none (by simp; rw[Nat.add_mul]at hjj;omega)]
theorem AB {o:Oper} {a:Act} {w:World} (t:TypeId) (l c:Operand) (ho:o.op= .makeSlice t l c) {kl kc:IntKind} {L C:Int} {n m:Nat} (hl:a.eval l= .int kl L) (hc:a.eval c= .int kc C)
    (hL:L=(n:Int)) (hC:C=(m:Int)) (hnm:n≤m) {e:TypeId} {z:Value} {size bytes:Nat} (hu:P.underlying t=some (.slice e)) (hi:(P.info? e).map (fun i=>(i.zero,i.size,i.bytes))=some (some z,size,bytes)) (hz:z.cells.size=size)
    (hb:bytes*m≤281474976710656) (hm:m≤9223372036854775807):
    does P o a w (fun v w'=>v= .slice (some ⟨w.heap.size,0,none⟩) n m∧Blk w' w.heap.size (List.replicate m z.cells.toList).flatten∧Only [] w w'∧w'.heap.size=w.heap.size+1):= by
  obtain⟨i,hi1,hi2,hi3,hi4⟩:=info_parts hi
  subst hL hC
  have hb':(i.bytes:Int)*(m:Int)≤281474976710656:= by
    rw[hi4]
    have h:((bytes*m:Nat):Int)≤281474976710656:= by omega
    rwa [Int.natCast_mul]at h
  have hr:=run_make (P:=P) w t e i z hu hi1 hi2 kl kc n m (by omega) (by omega) hb' (by omega)
  refine⟨.slice (some ⟨w.heap.size,0,none⟩) n m,w.alloc (.cells (madeCells z.cells (m*i.size)) e),.inl (by simp [execOp,ho,hl,hc,hr]),rfl, ?_,(Only.refl _ _).alloc _, by simp⟩
  have :=Blk.new' w (madeCells z.cells (m*i.size)) e
  rw[hi3,←hz,H2]at this
  rw[hi3,←hz]
  exact this
theorem flat1 (n:Nat) (v:Value):(List.replicate n [v]).flatten=List.replicate n v:= by
  induction n with
  | zero=>rfl
  | succ n ih=> simp [List.replicate_succ,ih]
theorem G5 (n:Nat) (l:List Value):(List.replicate n l).flatten.length=n*l.length:= by simp
def Zf (l:List UInt8):List Value:=l.map fun c=> .int .u8 (c.toNat:Int)
theorem Vc (l:List UInt8):(Zf l).length=l.length:= by simp [Zf]
theorem FO (l:List UInt8): ∀v∈Zf l,v.oneCell'=true:= by
  intro v hv
  simp only[Zf,List.mem_map]at hv
  obtain⟨c,_,rfl⟩:=hv
  rfl
theorem FP (l:List UInt8) (j:Nat):(Zf l)[j]? =l[j]?.map fun c=> .int .u8 (c.toNat:Int):= by simp [Zf]
theorem Tn {o:Oper} {a:Act} {w:World} (dT sT:TypeId) (d x:Operand) (ho:o.op= .call {callee:= .builtin .copy,args:= #[d,x],argTypes:= #[dT,sT]})
    {b off dLen dCap:Nat} (hd:a.eval d= .slice (some ⟨b,off,none⟩) dLen dCap) {s:ByteArray} (hx:a.eval x= .string s) {cs:List Value} (hb:Blk w b cs) {e:TypeId}
    (hu:P.underlying dT=some (.slice e)) (hi:(P.info? e).map (·.size)=some 1) (hfit:off+min s.size dLen≤cs.length):
    does P o a w (fun v w'=>v= .int .i64 ((min s.size dLen:Nat):Int)∧Blk w' b (XK cs off (Zf (s.data.toList.take dLen)))∧Only [b] w w'∧w'.heap.size=w.heap.size):= by
  have hsz:s.data.size=s.size:=rfl
  have hlen:(Zf (s.data.toList.take dLen)).length=min s.size dLen:= by simp [Zf,hsz,Nat.min_comm]
  obtain⟨w',hr,hb',ho',hs'⟩:=Wl (P:=P) (Zf (s.data.toList.take dLen)) 0 cs w b off hb (by rw[hlen];simpa using hfit) (FO _)
  refine⟨.int .i64 ((min s.size dLen:Nat):Int),w',.inl ?_,rfl,hb',ho',hs'⟩
  have he:((s.extract 0 (min s.size dLen)).data.map fun b=>Value.int .u8 (b.toNat:Int)).toList=Zf (s.data.toList.take dLen):= by
    simp [Zf,ByteArray.extract,ByteArray.copySlice,hsz]
    omega
  have hf:(Builtin.firstCells 1 (Nat.min s.size dLen) (.string s)).run P w= .ok (Zf (s.data.toList.take dLen)).toArray w:= by
    simp only[Builtin.firstCells,Sem.run_pure]
    rw[←he,Array.toArray_toList]
  simp [execOp,ho,hd,hx,resolve,invoke,builtin,Builtin.copy_,run_underlying hu,ZX hi,Builtin.lenOf,hf,hr,goInt]
theorem FC {o:Oper} {a:Act} {w:World} (t:TypeId) (x:Operand) (ho:o.op= .call {callee:= .builtin .clear,args:= #[x],argTypes:= #[t]})
    {b off n cap:Nat} (hx:a.eval x= .slice (some ⟨b,off,none⟩) n cap) {cs:List Value} (hb:Blk w b cs) {e:TypeId}
    (hu:P.underlying t=some (.slice e)) {z:Value} (hi:(P.info? e).map (fun i=>i.zero)=some (some z)) (h1: ∀v∈z.cells.toList,v.oneCell'=true) (hfit:off+n*z.cells.size≤cs.length):
    does P o a w (fun v w'=>v= .tuple #[]∧Blk w' b (XK cs off (List.replicate n z.cells.toList).flatten)∧Only [b] w w'∧w'.heap.size=w.heap.size):= by
  cases n with
  | zero=>
    refine⟨.tuple #[],w,.inl ?_,rfl, by simpa [XK]using hb,Only.refl _ _,rfl⟩
    simp [execOp,ho,hx,resolve,invoke,builtin,Builtin.clear_,run_underlying hu]
  | succ n=>
    have hz:(zeroValue e).run P w= .ok z w:= by
      cases hq:P.info? e with
      | none=> simp [hq]at hi
      | some i => have :i.zero=some z:= by simpa [hq]using hi
                  simp [zeroValue,typeInfo,hq,this]
    have hm:(Builtin.zeroCells z.cells (n+1)).toList=(List.replicate (n+1) z.cells.toList).flatten:=H2 _ _
    have hlen:(List.replicate (n+1) z.cells.toList).flatten.length=(n+1)*z.cells.size:= by simp
    obtain⟨w',hr,hb',ho',hs'⟩:=Wl (P:=P) (List.replicate (n+1) z.cells.toList).flatten 0 cs w b off hb (by rw[hlen];simpa using hfit)
      (fun v hv=> by
        simp only[List.mem_flatten,List.mem_replicate]at hv
        obtain⟨l,⟨_,rfl⟩,hv⟩:=hv
        exact h1 v hv)
    refine⟨.tuple #[],w',.inl ?_,rfl,hb',ho',hs'⟩
    simp [execOp,ho,hx,resolve,invoke,builtin,Builtin.clear_,run_underlying hu,hz,hm,hr]
def Own (w:World) (v:Value) (n size:Nat) (xs:List Value) (foot:List Nat):Prop:=
  xs.length=n*size∧
  ((v= .slice none 0 0∧n=0∧foot=[])∨
   ∃b cap sp,v= .slice (some ⟨b,0,none⟩) n cap∧n≤cap∧Blk w b (xs++sp)∧(xs++sp).length=cap*size∧foot=[b])
theorem Own.nil (w:World) (size:Nat):Own w (.slice none 0 0) 0 size [] []:=⟨by simp,.inl ⟨rfl,rfl,rfl⟩⟩
theorem Own.lt {w:World} {v:Value} {n size:Nat} {xs:List Value} {foot:List Nat} (h:Own w v n size xs foot): ∀k∈foot,k<w.heap.size:= by
  obtain⟨_,⟨_,_,rfl⟩ | ⟨b,cap,sp,_,_,hb,_,rfl⟩⟩:=h
  · intro k hk; cases hk
  · intro k hk; simp only[List.mem_singleton]at hk; subst hk; exact hb.lt
theorem Own.congr {w w':World} {v:Value} {n size:Nat} {xs:List Value} {foot:List Nat} (h:Own w v n size xs foot) (hk: ∀k∈foot,w'.heap[k]? =w.heap[k]?):Own w' v n size xs foot:= by
  obtain⟨hl,⟨h1,h2,rfl⟩ | ⟨b,cap,sp,h1,h2,hb,h3,rfl⟩⟩:=h
  · exact⟨hl,.inl ⟨h1,h2,rfl⟩⟩
  · exact⟨hl,.inr ⟨b,cap,sp,h1,h2,hb.congr (hk b (by simp)),h3,rfl⟩⟩
theorem Only.own {S:List Nat} {w w':World} {v:Value} {n size:Nat} {xs:List Value} {foot:List Nat} (h:Only S w w') (ho:Own w v n size xs foot) (hn: ∀k∈foot,k∉S):Own w' v n size xs foot:=
  ho.congr fun k hk=>h.block k (ho.lt k hk) (hn k hk)
theorem Own.shape {w:World} {v:Value} {n size:Nat} {xs:List Value} {foot:List Nat} (h:Own w v n size xs foot): ∃a cap,v= .slice a n cap∧n≤cap:= by
  obtain⟨_,⟨rfl,rfl,_⟩ | ⟨b,cap,sp,rfl,hc,_⟩⟩:=h
  · exact⟨_,_,rfl,Nat.le_refl _⟩
  · exact⟨_,_,rfl,hc⟩
theorem Own.row {w:World} {v:Value} {n size:Nat} {xs:List Value} {foot:List Nat} (h:Own w v n size xs foot) (hn:0<n):
    ∃b cap sp,v= .slice (some ⟨b,0,none⟩) n cap∧n≤cap∧Blk w b (xs++sp)∧foot=[b]:= by
  obtain⟨_,⟨_,rfl,_⟩ | ⟨b,cap,sp,rfl,hc,hb,_,hf⟩⟩:=h
  · omega
  · exact⟨b,cap,sp,rfl,hc,hb,hf⟩
theorem Own.cell {w:World} {b o n n' cap size:Nat} {xs:List Value} {foot:List Nat} (h:Own w (.slice (some ⟨b,o,none⟩) n' cap) n size xs foot) {j:Nat} {v:Value} (hv:xs[j]? =some v):w.cell? ⟨b,j,none⟩=some v:= by
  obtain⟨_,⟨h0,_⟩ | ⟨b',cap',sp,h0,hc,hb,_,hf⟩⟩:=h
  · cases h0
  · cases h0
    exact hb.cell (by rw[List.getElem?_append_left (List.getElem?_eq_some_iff.1 hv).1]; exact hv)
theorem Uq {w:World} {b:Nat} {cs:List Value} (h:Blk w b cs) (size m off len cap:Nat) (hn:off+m*size≤cs.length):
    (Builtin.firstCells size m (.slice (some ⟨b,off,none⟩) len cap)).run P w= .ok ((cs.drop off).take (m*size)).toArray w:= by
  simp only[Builtin.firstCells]
  exact JQ h off (m*size) hn
theorem G7 {w:World} {b:Nat} {cs:List Value} (h:Blk w b cs) (size m off len cap:Nat) (hn:off+m*size≤cs.length) {news:List Value} (he:(cs.drop off).take (m*size)=news):
    ∀w1:World,w1.heap=w.heap→(Builtin.firstCells size m (.slice (some ⟨b,off,none⟩) len cap)).run P w1= .ok news.toArray w1:= by
  intro w1 hw
  rw[←he]
  exact Uq (h.congr (by rw[hw])) size m off len cap hn
theorem Kw (a:Option Addr) (n c:Nat): ∀w1:World,(Builtin.lenOf (.slice a n c)).run P w1= .ok n w1:= fun _=>rfl
theorem Db {P:Program} {w:World} {b n cap size m:Nat} {xs sp news:List Value} {t t2 ty e:TypeId} {i:TypeInfo} {xv:Value} {d2:TypeDesc}
    (hu:P.underlying t=some (.slice e)) (hu2:P.underlying t2=some d2) (hd2: ∀k,d2≠ .int k) (hi:P.info? e=some i) (hsz:i.size=size)
    (hx1: ∀w1,(Builtin.lenOf xv).run P w1= .ok m w1) (hx2:(Builtin.firstCells size m xv).run P w= .ok news.toArray w)
    (hl:xs.length=n*size) (hnl:news.length=m*size) (h1: ∀v∈news,v.oneCell'=true) (hb:Blk w b (xs++sp)) (hlen:(xs++sp).length=cap*size) (hroom:n+m≤cap):
    ∃w',(Builtin.append_ #[t,t2] ty #[.slice (some ⟨b,0,none⟩) n cap,xv]).run P w= .ok (.slice (some ⟨b,0,none⟩) (n+m) cap) w'∧Blk w' b (xs++news++sp.drop (m*size))∧Only [b] w w'∧w'.heap.size=w.heap.size:= by
  have hfit:n*size+m*size≤cap*size:= by rw[←Nat.add_mul]; exact Nat.mul_le_mul_right _ hroom
  obtain⟨w',hr,hb',ho',hs'⟩:=Wl (P:=P) news 0 (xs++sp) w b (n*size) hb (by omega) h1
  have he:XK (xs++sp) (n*size+0) news=xs++news++sp.drop (m*size):= by
    unfold XK
    rw[Nat.add_zero,←hl,List.take_left,List.drop_append]
    simp [hnl]
  rw[he]at hb'
  refine⟨w', ?_,hb',ho',hs'⟩
  have hint:((match d2 with | .int _=>true | _=>false):Bool)=false:= by cases d2<;>first | rfl | exact absurd rfl (hd2 _)
  subst hsz
  simp [Builtin.append_,run_underlying hu,run_underlying hu2,hint,sizeOf,typeInfo,hi,hx1,hx2,hroom,Wu,hr]
theorem GJ {P:Program} {w:World} {base:Option Addr} {n cap size bytes m:Nat} {xs news:List Value} {t t2 ty e:TypeId} {i:TypeInfo} {z xv:Value} {d2:TypeDesc}
    (hu:P.underlying t=some (.slice e)) (hu2:P.underlying t2=some d2) (hd2: ∀k,d2≠ .int k) (hi:P.info? e=some i) (hsz:i.size=size) (hz:i.zero=some z) (hzs:z.cells.size=size) (hby:i.bytes=bytes)
    (hx1: ∀w1,(Builtin.lenOf xv).run P w1= .ok m w1) (hx2:(Builtin.firstCells size m xv).run P w.drew= .ok news.toArray w.drew)
    (hold:(Builtin.firstCells size n (.slice base n cap)).run P w.drew= .ok xs.toArray w.drew)
    (hl:xs.length=n*size) (hnl:news.length=m*size) (hroom: ¬n+m≤cap) (hbytes:(n+m)*bytes≤140737488355328) (hmax:n+m≤9223372036854775807):
    ∃ w' cap' sp,(Builtin.append_ #[t,t2] ty #[.slice base n cap,xv]).run P w= .ok (.slice (some ⟨w.heap.size,0,none⟩) (n+m) cap') w'∧n+m≤cap'∧Blk w' w.heap.size (xs++news++sp)∧
      (xs++news++sp).length=cap'*size∧Only [] w w'∧w'.heap.size=w.heap.size+1:= by
  have hint:((match d2 with | .int _=>true | _=>false):Bool)=false:= by cases d2<;>first | rfl | exact absurd rfl (hd2 _)
  have hge:=grownCap_ge w (n+m) cap e
  refine⟨w.drew.alloc (.cells (xs.toArray++news.toArray++Builtin.zeroCells z.cells (grownCap w (n+m) cap e -(n+m))) e),grownCap w (n+m) cap e,(Builtin.zeroCells z.cells (grownCap w (n+m) cap e -(n+m))).toList, ?_,hge, ?_, ?_,((Only.refl _ _).drew).alloc _, by simp⟩
  · subst hsz hby
    have h48: ¬(281474976710656<Builtin.nextslicecap (n+m) cap*i.bytes):= by have :=growslice_fits (need:=n+m) (old:=cap) (bytes:=i.bytes) (by omega) hbytes;omega
    have hmx': ¬(9223372036854775807<(n:Int)+(m:Int)∧i.bytes=0):= by omega
    have hzv: ∀w1,(zeroValue e).run P w1= .ok z w1:= fun w1=> by simp [zeroValue,typeInfo,hi,hz]
    simp [Builtin.append_,run_underlying hu,run_underlying hu2,hint,sizeOf,typeInfo,hi,hx1,hroom,h48,hmx',hzv,hx2,hold,Question.forced,newRow,grownCap]
    rw[←Array.append_assoc]; simp
  · have :=Blk.new' w.drew (xs.toArray++news.toArray++Builtin.zeroCells z.cells (grownCap w (n+m) cap e -(n+m))) e
    simpa using this
  · simp only[List.length_append,Array.length_toList,size_zeroCells,hzs,hl,hnl,←Nat.add_mul]
    congr 1;omega
theorem BZ {o:Oper} {a:Act} {w:World} (t t2:TypeId) (s x:Operand) (ho:o.op= .call {callee:= .builtin .append,args:= #[s,x],argTypes:= #[t,t2]})
    {sv xv:Value} (hs:a.eval s=sv) (hx:a.eval x=xv) {n size bytes m:Nat} {xs news:List Value} {foot:List Nat} (hown:Own w sv n size xs foot)
    {e:TypeId} {z:Value} {d2:TypeDesc} (hu:P.underlying t=some (.slice e)) (hu2:P.underlying t2=some d2) (hd2: ∀k,d2≠ .int k)
    (hi:(P.info? e).map (fun i=>(i.zero,i.size,i.bytes))=some (some z,size,bytes)) (hzs:z.cells.size=size) (h0:0<size)
    (hx1: ∀w1,(Builtin.lenOf xv).run P w1= .ok m w1) (hx2: ∀w1:World,w1.heap=w.heap→(Builtin.firstCells size m xv).run P w1= .ok news.toArray w1)
    (hnl:news.length=m*size) (h1: ∀v∈news,v.oneCell'=true) (hbytes:(n+m)*bytes≤140737488355328) (hmax:n+m≤9223372036854775807):
    does P o a w (fun v w'=> ∃foot',Own w' v (n+m) size (xs++news) foot'∧Only foot w w'∧(∀k∈foot',k∈foot∨w.heap.size≤k)∧(v= .slice none 0 0→sv= .slice none 0 0)):= by
  obtain⟨i,hi1,hi2,hi3,hi4⟩:=info_parts hi
  have hll:(xs++news).length=(n+m)*size:= by rw[List.length_append,hown.1,hnl,Nat.add_mul]
  have hex: ∀v w',(Builtin.append_ #[t,t2] o.type #[sv,xv]).run P w= .ok v w'→(execOp a.eval o).run P w= .ok (.value v) w':= fun v w' hr=> by
    simp [execOp,ho,hs,hx,resolve,invoke,builtin,hr]
  obtain⟨hl,⟨rfl,rfl,rfl⟩ | ⟨b,cap,sp,rfl,hc,hb,hlen,rfl⟩⟩:=hown
  · have hxs:xs=[]:=List.eq_nil_of_length_eq_zero (by simpa using hl)
    subst hxs
    by_cases hm:m=0
    · subst hm
      have hn:news=[]:=List.eq_nil_of_length_eq_zero (by simpa using hnl)
      subst hn
      refine⟨.slice none 0 0,w,.inl (hex _ _ ?_),[],Own.nil w size,Only.refl _ _, by simp, fun h=>h⟩
      have hint:((match d2 with | .int _=>true | _=>false):Bool)=false:= by cases d2<;>first | rfl | exact absurd rfl (hd2 _)
      subst hi3
      simp [Builtin.append_,run_underlying hu,run_underlying hu2,hint,sizeOf,typeInfo,hi1,hx1,hx2 w rfl]
    · obtain⟨w',cap',sp,hr,hc',hb',hl',ho',hs'⟩:=GJ (P:=P) (w:=w) (base:=none) (n:=0) (cap:=0) (ty:=o.type) hu hu2 hd2 hi1 hi3 hi2 hzs hi4 hx1 (hx2 w.drew rfl) (xs:=[]) (by simp [Builtin.firstCells]) (by simp) hnl (by omega) hbytes hmax
      exact⟨_,w',.inl (hex _ _ hr),[w.heap.size],⟨hll,.inr ⟨_,cap',sp,rfl,hc',hb',hl',rfl⟩⟩,ho', by simp, fun _=>rfl⟩
  · by_cases hroom:n+m≤cap
    · obtain⟨w',hr,hb',ho',hs'⟩:=Db (P:=P) (ty:=o.type) hu hu2 hd2 hi1 hi3 hx1 (hx2 w rfl) hl hnl h1 hb hlen hroom
      refine⟨_,w',.inl (hex _ _ hr),[b],⟨hll,.inr ⟨b,cap,sp.drop (m*size),rfl,hroom,hb', ?_,rfl⟩⟩,ho', by simp, fun h=> by cases h⟩
      have hfit:n*size+m*size≤cap*size:= by rw[←Nat.add_mul]; exact Nat.mul_le_mul_right _ hroom
      simp only[List.length_append,List.length_drop,hnl,hl]at hlen⊢
      omega
    · have hold:=Uq (P:=P) (w:=w.drew) (b:=b) (cs:=xs++sp) hb size n 0 n cap (by simp [hl])
      simp only[List.drop_zero]at hold
      rw[←hl,List.take_left]at hold
      obtain⟨w',cap',sp',hr,hc',hb',hl',ho',hs'⟩:=GJ (P:=P) (w:=w) (ty:=o.type) hu hu2 hd2 hi1 hi3 hi2 hzs hi4 hx1 (hx2 w.drew rfl) hold hl hnl hroom hbytes hmax
      exact⟨_,w',.inl (hex _ _ hr),[w.heap.size],⟨hll,.inr ⟨_,cap',sp',rfl,hc',hb',hl',rfl⟩⟩,ho'.mono (by simp), by simp, fun h=> by cases h⟩
theorem Own.alloc {w:World} {v:Value} {n size:Nat} {xs:List Value} {foot:List Nat} (h:Own w v n size xs foot) (o:Obj):Own (w.alloc o) v n size xs foot:=
  h.congr fun k hk=>Below.heap_alloc _ _ _ (h.lt k hk)
structure Ast where
  foot:List Nat
  φ:World→Prop
  fr: ∀w w':World,(∀k∈foot,w'.heap[k]? =w.heap[k]?)→φ w→φ w'
def ownA (v:Value) (n size:Nat) (xs:List Value) (foot:List Nat):Ast:=⟨foot, fun w=>Own w v n size xs foot, fun _ _ hk h=>h.congr hk⟩
def blkA (b:Nat) (cs:List Value):Ast:=⟨[b], fun w=>Blk w b cs, fun _ _ hk h=>h.congr (hk b (by simp))⟩
structure Sepd (W w:World) (As:List Ast):Prop where
  bel:Below W.heap.size W w
  ap:Apart W.heap.size w.heap.size (As.map (·.foot))
  all: ∀A∈As,A.φ w
theorem Sepd.get {W w:World} {As:List Ast} (h:Sepd W w As) (i:Nat) {A:Ast} (hi:As[i]? =some A):A.φ w:=h.all A (List.mem_of_getElem? hi)
theorem Sepd.own {W w:World} {As:List Ast} (h:Sepd W w As) (i:Nat) {v:Value} {n size:Nat} {xs:List Value} {f:List Nat} (hi:As[i]? =some (ownA v n size xs f)):Own w v n size xs f:=h.get i hi
theorem Sepd.blk {W w:World} {As:List Ast} (h:Sepd W w As) (i:Nat) {b:Nat} {cs:List Value} (hi:As[i]? =some (blkA b cs)):Blk w b cs:=h.get i hi
theorem Sepd.start (W:World):Sepd W W []:=⟨Below.refl _ _,Apart.nil _ _, by simp⟩
theorem Sepd.le {W w:World} {As:List Ast} (h:Sepd W w As):W.heap.size≤w.heap.size:=h.bel.size
theorem Sepd.dis {W w:World} {As:List Ast} (h:Sepd W w As) (i j:Nat) {A B:Ast} (hij:i≠j) (hi:As[i]? =some A) (hj:As[j]? =some B): ∀k∈A.foot,k∉B.foot:=
  h.ap.dis i j A.foot B.foot hij (by simp [hi]) (by simp [hj])
theorem Sepd.only {W w w':World} {As:List Ast} (h:Sepd W w As) (ho:Only [] w w'):Sepd W w' As:=
  ⟨ho.belowB h.bel (by simp) h.le,h.ap.grow ho.size, fun A hA=>A.fr w w' (fun k hk=>ho.block k (h.ap.hi A.foot (List.mem_map_of_mem hA) k hk) (by simp)) (h.all A hA)⟩
theorem Sepd.alloc {W w:World} {As:List Ast} (h:Sepd W w As) (o:Obj):Sepd W (w.alloc o) As:=h.only ((Only.refl [] w).alloc o)
theorem Sepd.drew {W w:World} {As:List Ast} (h:Sepd W w As):Sepd W w.drew As:=h.only (Only.refl [] w).drew
theorem Sepd.upd {W w w':World} {As:List Ast} (h:Sepd W w As) (i:Nat) {A A':Ast} (hi:As[i]? =some A) (ho:Only A.foot w w') (hφ:A'.φ w') (hf: ∀k∈A'.foot,k∈A.foot∨w.heap.size≤k) (hlt: ∀k∈A'.foot,k<w'.heap.size):
    Sepd W w' (As.set i A'):= by
  have hAm:A∈As:=List.mem_of_getElem? hi
  refine⟨ho.belowB h.bel (fun k hk=>h.ap.lo A.foot (List.mem_map_of_mem hAm) k hk) h.le, ?_, fun B hB=> ?_⟩
  · rw[List.map_set]
    exact h.ap.upd i (by simp [hi]) hf hlt ho.size h.le
  · obtain⟨j,hj⟩:=List.mem_iff_getElem?.1 hB
    rw[List.getElem?_set]at hj
    by_cases hij:i=j
    · subst hij
      rw[if_pos rfl,if_pos (List.getElem?_eq_some_iff.1 hi).1]at hj
      cases hj
      exact hφ
    · rw[if_neg hij]at hj
      have hBm:B∈As:=List.mem_of_getElem? hj
      exact B.fr w w' (fun k hk=>ho.block k (h.ap.hi B.foot (List.mem_map_of_mem hBm) k hk) (h.dis j i (fun e=>hij e.symm) hj hi k hk)) (h.all B hBm)
theorem Sepd.add {W w w':World} {As:List Ast} (h:Sepd W w As) (ho:Only [] w w') {A':Ast} (hφ:A'.φ w') (hf: ∀k∈A'.foot,w.heap.size≤k) (hlt: ∀k∈A'.foot,k<w'.heap.size):Sepd W w' (As++[A']):= by
  have h1:=h.only ho
  refine⟨h1.bel, ?_, fun B hB=> ?_⟩
  · rw[List.map_append]
    exact h.ap.add hf hlt ho.size h.le
  · rcases List.mem_append.1 hB with h2 | h2
    · exact h1.all B h2
    · simp only[List.mem_singleton]at h2; subst h2; exact hφ
end
structure Agree (F:Nat→Prop) (w w':World):Prop where
  os:w'.os=w.os
  tape:w'.tape=w.tape
  output:w'.output=w.output
  blk: ∀k,F k→w'.heap[k]? =w.heap[k]?
structure Th where
  at_:World→(Nat→Prop)→Prop
  fr: ∀{w w' F},Agree F w w'→at_ w F→at_ w' F
  lt: ∀{w F},at_ w F→ ∀k,F k→k<w.heap.size
def empT:Th:=⟨fun _ F=>F= fun _=>False, fun _ h=>h, fun h k hk=> by subst h; exact hk.elim⟩
def Y4 (φ:Prop):Th:=⟨fun _ F=>(F= fun _=>False)∧φ, fun _ h=>h, fun h k hk=> by obtain⟨rfl,_⟩:=h; exact hk.elim⟩
def S8 {α:Type} (f:α→Th):Th:=⟨fun w F=> ∃x,(f x).at_ w F, fun a ⟨x,h⟩=>⟨x,(f x).fr a h⟩, fun ⟨x,h⟩ k hk=>(f x).lt h k hk⟩
def BI (A B:Th):Th where
  at_:= fun w F=> ∃F1 F2,F=(fun k=>F1 k∨F2 k)∧(∀k,F1 k→F2 k→False)∧A.at_ w F1∧B.at_ w F2
  fr:= fun a ⟨F1,F2,e,d,h1,h2⟩=> by
    subst e
    exact⟨F1,F2,rfl,d,A.fr ⟨a.os,a.tape,a.output, fun k hk=>a.blk k (.inl hk)⟩ h1,B.fr ⟨a.os,a.tape,a.output, fun k hk=>a.blk k (.inr hk)⟩ h2⟩
  lt:= fun ⟨F1,F2,e,_,h1,h2⟩ k hk=> by
    subst e
    rcases hk with hk | hk
    · exact A.lt h1 k hk
    · exact B.lt h2 k hk
def starL:List Th→Th
  | []=>empT
  | A::As=>BI A (starL As)
def Sat (w:World) (As:List Th):Prop:= ∃F,(starL As).at_ w F
theorem NS {A B C:Th} {w:World} {F:Nat→Prop} (h:(BI A (BI B C)).at_ w F):(BI B (BI A C)).at_ w F:= by
  obtain⟨F1,F2,rfl,d,h1,G1,G2,rfl,e,h2,h3⟩:=h
  exact⟨G1, fun k=>F1 k∨G2 k,funext fun k=>propext ⟨by rintro(a | a | a)<;> simp [a], by rintro(a | a | a)<;> simp [a]⟩,
    fun k a b=> by rcases b with b | b; exact d k b (.inl a); exact e k a b,h2,F1,G2,rfl, fun k a b=>d k a (.inr b),h1,h3⟩
theorem SQ {A B B':Th} {w:World} (hb: ∀F,B.at_ w F→B'.at_ w F) {F:Nat→Prop} (h:(BI A B).at_ w F):(BI A B').at_ w F:= by
  obtain⟨F1,F2,rfl,d,h1,h2⟩:=h
  exact⟨F1,F2,rfl,d,h1,hb _ h2⟩
theorem SS {As Bs:List Th} (hp:As.Perm Bs) {w:World}: ∀{F:Nat→Prop},(starL As).at_ w F→(starL Bs).at_ w F:= by
  induction hp with
  | nil=> exact fun h=>h
  | cons A _ ih=> exact fun h=>SQ (fun _=>ih) h
  | swap A B l=> exact fun h=>NS h
  | trans _ _ ih1 ih2=> exact fun h=>ih2 (ih1 h)
theorem Sat.perm {w:World} {As Bs:List Th} (h:Sat w As) (hp:As.Perm Bs):Sat w Bs:=let ⟨F,h⟩:=h;⟨F,SS hp h⟩
theorem V9 {As Bs:List Th} {w:World} {F:Nat→Prop}:(starL (As++Bs)).at_ w F↔(BI (starL As) (starL Bs)).at_ w F:= by
  induction As generalizing F with
  | nil=>
    constructor
    · intro h; exact⟨fun _=>False,F,funext fun k=> by simp, fun _ a _=>a,rfl,h⟩
    · rintro⟨F1,F2,rfl,_,h1,h2⟩
      have :F1= fun _=>False:=h1
      subst this
      simpa using h2
  | cons A As ih=>
    constructor
    · rintro⟨F1,F2,rfl,d,h1,h2⟩
      obtain⟨G1,G2,rfl,e,g1,g2⟩:=ih.1 h2
      exact⟨fun k=>F1 k∨G1 k,G2,funext fun k=>propext ⟨by rintro(a | a | a)<;> simp [a], by rintro((a | a) | a)<;> simp [a]⟩,
        fun k a b=> by rcases a with a | a; exact d k a (.inr b); exact e k a b,⟨F1,G1,rfl, fun k a b=>d k a (.inl b),h1,g1⟩,g2⟩
    · rintro⟨F1,F2,rfl,d,⟨G1,G2,rfl,e,g1,g2⟩,h2⟩
      exact⟨G1, fun k=>G2 k∨F2 k,funext fun k=>propext ⟨by rintro((a | a) | a)<;> simp [a], by rintro(a | a | a)<;> simp [a]⟩,
        fun k a b=> by rcases b with b | b; exact e k a b; exact d k (.inl a) b,g1,ih.2 ⟨G2,F2,rfl, fun k a b=>d k (.inr a) b,g2,h2⟩⟩
theorem Sat.flat {w:World} {As Bs:List Th} (h:Sat w (starL As::Bs)):Sat w (As++Bs):=let ⟨F,h⟩:=h;⟨F,V9.2 h⟩
theorem Sat.fold {w:World} {As Bs:List Th} (h:Sat w (As++Bs)):Sat w (starL As::Bs):=let ⟨F,h⟩:=h;⟨F,V9.1 h⟩
theorem EH {As:List Th} {i:Nat} {A:Th} (hi:As[i]? =some A):As.Perm (A::As.eraseIdx i):= by
  induction As generalizing i with
  | nil=> simp at hi
  | cons C As ih=>
    cases i with
    | zero=> simp at hi; subst hi; simp
    | succ i=>
      simp only[List.eraseIdx_cons_succ]
      exact((ih (by simpa using hi)).cons C).trans (List.Perm.swap _ _ _)
theorem O0 {As:List Th} {i:Nat} {A B:Th} (hi:As[i]? =some A):(B::As.eraseIdx i).Perm (As.set i B):= by
  induction As generalizing i with
  | nil=> simp at hi
  | cons C As ih=>
    cases i with
    | zero=> simp
    | succ i=>
      simp only[List.eraseIdx_cons_succ,List.set_cons_succ]
      exact(List.Perm.swap _ _ _).trans ((ih (by simpa using hi)).cons C)
theorem Sat.pull {w:World} {As:List Th} (h:Sat w As) (i:Nat) {A:Th} (hi:As[i]? =some A):Sat w (A::As.eraseIdx i):=h.perm (EH hi)
theorem Sat.put {w:World} {As:List Th} {A B:Th} (i:Nat) (hi:As[i]? =some A) (h:Sat w (B::As.eraseIdx i)):Sat w (As.set i B):=h.perm (O0 hi)
theorem Sat.get {w:World} {As:List Th} (h:Sat w As) (i:Nat) {A:Th} (hi:As[i]? =some A): ∃F,A.at_ w F:= by
  obtain⟨F,F1,F2,_,_,h1,_⟩:=h.pull i hi
  exact⟨F1,h1⟩
theorem Sat.step0 {w w':World} {A A':Th} {As:List Th} (h:Sat w (A::As)) (hst: ∀F,A.at_ w F→ ∃F',A'.at_ w' F'∧(∀k,F' k→F k∨w.heap.size≤k)∧Agree (fun k=>k<w.heap.size∧ ¬F k) w w'):Sat w' (A'::As):= by
  obtain⟨F,F1,F2,rfl,d,h1,h2⟩:=h
  obtain⟨F',g1,g2,ag⟩:=hst F1 h1
  have lt2:=(starL As).lt h2
  refine⟨_,F',F2,rfl, fun k a b=> ?_,g1,(starL As).fr ⟨ag.os,ag.tape,ag.output, fun k hk=>ag.blk k ⟨lt2 k hk, fun hf=>d k hf hk⟩⟩ h2⟩
  rcases g2 k a with hf | hf
  · exact d k hf b
  · have :=lt2 k b;omega
theorem Sat.step {w w':World} {As:List Th} (h:Sat w As) (i:Nat) {A A':Th} (hi:As[i]? =some A) (hst: ∀F,A.at_ w F→ ∃F',A'.at_ w' F'∧(∀k,F' k→F k∨w.heap.size≤k)∧Agree (fun k=>k<w.heap.size∧ ¬F k) w w'):Sat w' (As.set i A'):=
  Sat.put i hi ((h.pull i hi).step0 hst)
theorem Sat.new {w w':World} {As:List Th} (h:Sat w As) (ho:Only [] w w') {A:Th} {F':Nat→Prop} (hA:A.at_ w' F') (hF: ∀k,F' k→w.heap.size≤k):Sat w' (A::As):= by
  obtain⟨F,h⟩:=h
  have lt:=(starL As).lt h
  refine⟨_,F',F,rfl, fun k a b=> ?_,hA,(starL As).fr ⟨ho.os,ho.tape,ho.output, fun k hk=>ho.block k (lt k hk) (by simp)⟩ h⟩
  have :=hF k a; have :=lt k b;omega
theorem Sat.only {w w':World} {As:List Th} (h:Sat w As) (ho:Only [] w w'):Sat w' As:= by
  obtain⟨F,h⟩:=h
  have lt:=(starL As).lt h
  exact⟨F,(starL As).fr ⟨ho.os,ho.tape,ho.output, fun k hk=>ho.block k (lt k hk) (by simp)⟩ h⟩
theorem Sat.mono1 {w:World} {As:List Th} (h:Sat w As) (i:Nat) {A A':Th} (hi:As[i]? =some A) (hm: ∀F,A.at_ w F→A'.at_ w F):Sat w (As.set i A'):= by
  refine Sat.put i hi ?_
  obtain⟨F,F1,F2,e,d,h1,h2⟩:=h.pull i hi
  exact⟨F,F1,F2,e,d,hm _ h1,h2⟩
theorem Sat.ex {w:World} {α:Type} {f:α→Th} {As:List Th} (h:Sat w (S8 f::As)): ∃x,Sat w (f x::As):= by
  obtain⟨F,F1,F2,e,d,⟨x,h1⟩,h2⟩:=h
  exact⟨x,F,F1,F2,e,d,h1,h2⟩
theorem Sat.ex_intro {w:World} {α:Type} {f:α→Th} {As:List Th} (x:α) (h:Sat w (f x::As)):Sat w (S8 f::As):= by
  obtain⟨F,F1,F2,e,d,h1,h2⟩:=h
  exact⟨F,F1,F2,e,d,⟨x,h1⟩,h2⟩
theorem Sat.pure_elim {w:World} {φ:Prop} {As:List Th} (h:Sat w (Y4 φ::As)):φ∧Sat w As:= by
  obtain⟨F,F1,F2,e,d,⟨rfl,hp⟩,h2⟩:=h
  exact⟨hp,F2,h2⟩
theorem Sat.pure_intro {w:World} {φ:Prop} {As:List Th} (hp:φ) (h:Sat w As):Sat w (Y4 φ::As):= by
  obtain⟨F,h⟩:=h
  exact⟨F, fun _=>False,F,funext fun k=> by simp, fun _ a _=>a,⟨rfl,hp⟩,h⟩
theorem Sat.tail {w:World} {A:Th} {As:List Th} (h:Sat w (A::As)):Sat w As:= by
  obtain⟨F,F1,F2,e,d,h1,h2⟩:=h
  exact⟨F2,h2⟩
theorem Sat.drop {w:World} {As:List Th} (h:Sat w As) (i:Nat) {A:Th} (hi:As[i]? =some A):Sat w (As.eraseIdx i):=(h.pull i hi).tail
def De:List Th→Nat→Th
  | A::_,0=>A
  | _::As,i+1=>De As i
  | [],_=>empT
def R0 (As:List Th):List Nat→List Th
  | []=>[]
  | i::is=>De As i::R0 As is
def Kl:List Bool→List Th→List Th
  | true::m,_::As=>Kl m As
  | false::m,A::As=>A::Kl m As
  | [],As=>As
  | _::_,[]=>[]
def Hb:Nat→List Bool→List Nat
  | _,[]=>[]
  | i,true::m=>i::Hb (i+1) m
  | i,false::m=>Hb (i+1) m
def Mw (k:Nat) (is:List Nat) (m:List Bool):Bool:=decide (m.length≤k)&&decide (is.length=(Hb 0 m).length)&&(Hb 0 m).all (is.contains ·)&&is.all ((Hb 0 m).contains ·)&&decide (is.Nodup)
theorem Kj: ∀(m:List Bool) (k i:Nat),i∈Hb k m→k≤i∧i<k+m.length
  | [],k,i,h=> by simp [Hb]at h
  | true::m,k,i,h=> by
    simp only[Hb,List.mem_cons]at h
    rcases h with rfl | h
    · simp
    · have :=Kj m (k+1) i h; simp;omega
  | false::m,k,i,h=> by
    have :=Kj m (k+1) i h; simp;omega
theorem Ki: ∀(m:List Bool) (k:Nat),(Hb k m).Nodup
  | [],_=>List.nodup_nil
  | true::m,k=> by
    simp only[Hb,List.nodup_cons]
    exact⟨fun h=> by have :=Kj m (k+1) k h;omega,Ki m _⟩
  | false::m,k=>Ki m _
theorem DZ: ∀(As:List Th) (m:List Bool) (k:Nat),m.length≤As.length→As.Perm (Kl m As++(Hb k m).map fun i=>De As (i -k))
  | As,[],k,_=> by cases As<;> simp [Kl,Hb]
  | [],b::m,k,h=> by simp at h
  | A::As,true::m,k,h=> by
    simp only[Kl,Hb,List.map_cons,Nat.sub_self]
    have e:(Hb (k+1) m).map (fun i=>De (A::As) (i -k))=(Hb (k+1) m).map fun i=>De As (i -(k+1)):= by
      apply List.map_congr_left
      intro i hi
      have :=(Kj m (k+1) i hi).1
      rw[show i -k=(i -(k+1))+1 by omega];rfl
    rw[e]
    exact((DZ As m (k+1) (by simpa using h)).cons A).trans List.perm_middle.symm
  | A::As,false::m,k,h=> by
    simp only[Kl,Hb,List.cons_append]
    have e:(Hb (k+1) m).map (fun i=>De (A::As) (i -k))=(Hb (k+1) m).map fun i=>De As (i -(k+1)):= by
      apply List.map_congr_left
      intro i hi
      have :=(Kj m (k+1) i hi).1
      rw[show i -k=(i -(k+1))+1 by omega];rfl
    rw[e]
    exact(DZ As m (k+1) (by simpa using h)).cons A
theorem BL: ∀{a b:List Nat},a.Nodup→b.Nodup→(∀x∈a,x∈b)→(∀x∈b,x∈a)→a.Perm b
  | [],b,_,_,_,h2=> by
    cases b with
    | nil=> exact .refl _
    | cons x b=> exact absurd (h2 x (by simp)) (by simp)
  | x::a,b,ha,hb,h1,h2=> by
    have hx:x∈b:=h1 x (by simp)
    have hp:=List.perm_cons_erase hx
    have ha':=List.nodup_cons.1 ha
    refine((BL ha'.2 (hb.erase x) (fun y hy=> ?_) (fun y hy=> ?_)).cons x).trans hp.symm
    · have hne:y≠x:= fun e=> by subst e; exact ha'.1 hy
      exact(List.mem_erase_of_ne hne).2 (h1 y (by simp [hy]))
    · have hne:y≠x:= fun e=> by subst e; exact(List.Nodup.not_mem_erase hb) hy
      have :=h2 y (List.mem_of_mem_erase hy)
      rcases List.mem_cons.1 this with e | e
      · exact absurd e hne
      · exact e
theorem EG (As:List Th) (is:List Nat):R0 As is=is.map (De As):= by
  induction is with
  | nil=>rfl
  | cons i is ih=> simp [R0,ih]
theorem Sat.split {w:World} {As:List Th} (h:Sat w As) (is:List Nat) (m:List Bool) (hm:Mw As.length is m=true):Sat w (R0 As is++[starL (Kl m As)]):= by
  simp only[Mw,Bool.and_eq_true,decide_eq_true_eq,List.all_eq_true,List.contains_iff_mem]at hm
  obtain⟨⟨⟨⟨h1,_⟩,h3⟩,h4⟩,h5⟩:=hm
  have hp:=DZ As m 0 h1
  have hq:is.Perm (Hb 0 m):=BL h5 (Ki m 0) h4 h3
  rw[EG]
  refine Sat.perm (As:=starL (Kl m As)::is.map (De As)) ((h.perm (hp.trans ?_)).fold) (List.perm_append_comm (l₁:=[starL (Kl m As)]))
  simp only[Nat.sub_zero]
  exact((hq.map (De As)).symm).append_left _
theorem Sat.reorder {w:World} {As:List Th} (h:Sat w As) (is:List Nat) (hm:Mw As.length is (List.replicate As.length true)=true):Sat w (R0 As is):= by
  have h1:=h.split is _ hm
  have e:Kl (List.replicate As.length true) As=[]:= by
    clear hm h1 h
    induction As with
    | nil=>rfl
    | cons A As ih=>simpa [List.replicate_succ,Kl]using ih
  rw[e]at h1
  obtain⟨F,h2⟩:=h1
  obtain⟨F1,F2,rfl,d,g1,g2⟩:=V9.1 h2
  exact⟨F1,g1⟩
theorem Sat.join {w:World} {Bs As:List Th} (h:Sat w Bs) (hl:Bs.getLast? =some (starL As)):Sat w (Bs.dropLast++As):= by
  have e:Bs=Bs.dropLast++[starL As]:= by
    obtain⟨ys,rfl⟩:=List.getLast?_eq_some_iff.1 hl
    simp
  rw[e]at h
  exact((h.perm List.perm_append_comm).flat).perm List.perm_append_comm
def rvK {R:Type _}:List Th→List Th→(List Th→R)→R
  | [],acc,k=>k acc
  | a::l,acc,k=>rvK l (a::acc) k
theorem Ma {R:Type _} (k:List Th→R): ∀l acc,rvK l acc k=k (l.reverse++acc)
  | [],acc=>rfl
  | a::l,acc=> by rw[rvK,Ma k l,List.reverse_cons,List.append_assoc];rfl
def nthK:List Th→Nat→(Th→Option (List Th))→Option (List Th)
  | A::_,0,k=>k A
  | _::As,i+1,k=>nthK As i k
  | [],_,_=>none
theorem Ls {k:Th→Option (List Th)} {B:List Th}: ∀{As:List Th} {i:Nat},nthK As i k=some B→k (De As i)=some B
  | A::_,0,h=>h
  | _::As,i+1,h=>Ls (As:=As) h
  | [],_,h=> by cases h
def OK:List Nat→List Th→List Th→(List Th→Option (List Th))→Option (List Th)
  | [],_,acc,k=>k acc
  | i::is,As,acc,k=>nthK As i (fun A=>OK is As (A::acc) k)
theorem Pf {k:List Th→Option (List Th)} {B:List Th} {As:List Th}: ∀{is:List Nat} {acc:List Th},OK is As acc k=some B→k ((R0 As is).reverse++acc)=some B
  | [],acc,h=>h
  | i::is,acc,h=> by have :=Pf (Ls h);simpa [R0]using this
def Ey:List Bool→List Th→List Th→(List Th→Option (List Th))→Option (List Th)
  | true::m,_::As,acc,k=>Ey m As acc k
  | false::m,A::As,acc,k=>Ey m As (A::acc) k
  | [],As,acc,k=>rvK acc As k
  | _::_,[],acc,k=>rvK acc [] k
theorem C6 {k:List Th→Option (List Th)} {B:List Th}: ∀{m:List Bool} {As acc:List Th},Ey m As acc k=some B→k (acc.reverse++Kl m As)=some B
  | true::m,_::As,acc,h=> by simpa [Kl]using C6 (m:=m) (As:=As) h
  | false::m,A::As,acc,h=> by have :=C6 (m:=m) (As:=As) h;simpa [Kl]using this
  | [],As,acc,h=> by rw[Ey,Ma]at h;simpa [Kl]using h
  | b::_,[],acc,h=> by cases b<;>(rw[Ey,Ma]at h;simpa [Kl]using h)
def Ic:Nat→Nat→List Nat→List Bool
  | 0,_,_=>[]
  | n+1,i,is=>is.contains i::Ic n (i+1) is
def splK (is:List Nat) (As:List Th):Option (List Th):= match Mw As.length is (Ic As.length 0 is)with
  | true=>Ey (Ic As.length 0 is) As [] (fun s=>OK is As [] (fun p=>rvK p [starL s] some))
  | false=>none
theorem Sat.sp {w:World} {As B:List Th} (h:Sat w As) (is:List Nat) (e:splK is As=some B):Sat w B:= by
  unfold splK at e
  split at e
  · rename_i hm
    have :=Pf (C6 e)
    rw[Ma]at this
    simp only[List.reverse_nil,List.nil_append,List.append_nil,List.reverse_reverse,Option.some.injEq]at this
    rw[←this]
    exact h.split is _ hm
  · cases e
def drK:List Th→List Th→List Th→Option (List Th)
  | [],_,_=>none
  | [_],As,acc=>rvK acc As some
  | a::b::l,As,acc=>drK (b::l) As (a::acc)
theorem IK {B As:List Th}: ∀{l acc:List Th},drK l As acc=some B→B=acc.reverse++(l.dropLast++As)
  | [],_,h=> by cases h
  | [_],acc,h=> by rw[drK,Ma]at h; cases h;rfl
  | a::b::l,acc,h=> by have :=IK (l:=b::l) h;simpa using this
theorem Sat.jn {w:World} {Bs As B:List Th} (h:Sat w Bs) (hl:Bs.getLast? =some (starL As)) (e:drK Bs As []=some B):Sat w B:= by
  have :=IK e
  rw[List.reverse_nil,List.nil_append]at this
  rw[this]; exact h.join hl
theorem Q8 {p:Prop} [d:Decidable p]:p→decide p=true:=decide_eq_true
theorem Qv {p:Prop} [d:Decidable p]: ¬p→decide p=false:=decide_eq_false
theorem Xe {m n:Nat}:Nat.ble m n=true→m≤n:=Nat.le_of_ble_eq_true
theorem Jo {α:Type _} {l:List α} {i:Nat} {a:α}:l[i]? =some a→ ∃h:i<l.length,l[i]=a:=List.getElem?_eq_some_iff.1
theorem WU {α:Type _} {l:List α} {i:Nat} (h:i<l.length):l[i]? =some l[i]:=List.getElem?_eq_getElem h
def QR (b:Nat) (cs:List Value):Th where
  at_:= fun w F=>(F= fun k=>k=b)∧Blk w b cs
  fr:= fun a ⟨e,h⟩=>⟨e,h.congr (a.blk _ (by rw[e]))⟩
  lt:= fun ⟨e,h⟩ k hk=> by rw[e]at hk; subst hk; exact h.lt
def XT (v:Value) (n size:Nat) (xs:List Value):Th where
  at_:= fun w F=> ∃foot,(F= fun k=>k∈foot)∧Own w v n size xs foot
  fr:= fun a ⟨f,e,h⟩=>⟨f,e,h.congr fun k hk=>a.blk k (by rw[e]; exact hk)⟩
  lt:= fun ⟨f,e,h⟩ k hk=> by rw[e]at hk; exact h.lt k hk
def Bq (W:World):Th where
  at_:= fun w F=>(F= fun k=>k<W.heap.size)∧W.heap.size≤w.heap.size∧Agree (fun k=>k<W.heap.size) W w
  fr:= fun {w w' F} a ⟨e,h,g⟩=> by
    subst e
    refine⟨rfl, ?_,a.os.trans g.os,a.tape.trans g.tape,a.output.trans g.output, fun k hk=>(a.blk k hk).trans (g.blk k hk)⟩
    rcases Nat.lt_or_ge w'.heap.size W.heap.size with q | q
    · have h1:=a.blk _ q
      rw[Array.getElem?_eq_none (Nat.le_refl _)]at h1
      have h2:w'.heap.size<w.heap.size:= by omega
      rw[Array.getElem?_eq_getElem h2]at h1
      cases h1
    · exact q
  lt:= fun ⟨e,h,_⟩ k hk=> by rw[e]at hk;omega
theorem Sat.start (W:World):Sat W [Bq W]:=⟨_, fun k=>k<W.heap.size, fun _=>False,rfl, fun _ _ h=>h,⟨rfl,Nat.le_refl _,rfl,rfl,rfl, fun _ _=>rfl⟩,rfl⟩
theorem Sat.below {W w:World} {As:List Th} (h:Sat w As) (i:Nat) (hi:As[i]? =some (Bq W)):Below W.heap.size W w:= by
  obtain⟨F,rfl,h1,h2⟩:=h.get i hi
  exact⟨h2.os,h2.tape,h2.output,h1,h2.blk⟩
theorem Sat.blk {w:World} {As:List Th} (h:Sat w As) (i:Nat) {b:Nat} {cs:List Value} (hi:As[i]? =some (QR b cs)):Blk w b cs:= by
  obtain⟨F,_,h⟩:=h.get i hi; exact h
theorem Sat.cell {w:World} {As:List Th} (h:Sat w As) (i:Nat) {b o:Nat} {cs:List Value} {v:Value} (hi:As[i]? =some (QR b cs)) (hv:cs[o]? =some v):w.cell? ⟨b,o,none⟩=some v:=(h.blk i hi).cell hv
theorem Sat.own {w:World} {As:List Th} (h:Sat w As) (i:Nat) {v:Value} {n size:Nat} {xs:List Value} (hi:As[i]? =some (XT v n size xs)): ∃foot,Own w v n size xs foot:= by
  obtain⟨F,f,_,h⟩:=h.get i hi; exact⟨f,h⟩
theorem Only.agree {S:List Nat} {w w':World} (h:Only S w w') {F:Nat→Prop} (hS: ∀x∈S,F x∨w.heap.size≤x):Agree (fun k=>k<w.heap.size∧ ¬F k) w w':=
  ⟨h.os,h.tape,h.output, fun k hk=>h.block k hk.1 (fun hm=> by rcases hS k hm with q | q; exact hk.2 q;omega)⟩
theorem Sat.blk_set {w w':World} {As:List Th} (h:Sat w As) (i:Nat) {b:Nat} {cs cs':List Value} (hi:As[i]? =some (QR b cs)) (hb:Blk w' b cs') (ho:Only [b] w w'):Sat w' (As.set i (QR b cs')):=
  h.step i hi fun F ⟨e,_⟩=>⟨F,⟨e,hb⟩, fun k hk=> .inl hk,ho.agree (fun x hx=> .inl (by simp only[List.mem_singleton]at hx; subst hx; rw[e]))⟩
theorem Sat.own_set {w w':World} {As:List Th} (h:Sat w As) (i:Nat) {v v':Value} {n n' size size':Nat} {xs xs':List Value} (hi:As[i]? =some (XT v n size xs))
    (hst: ∀foot,Own w v n size xs foot→ ∃foot',Own w' v' n' size' xs' foot'∧Only foot w w'∧ ∀k∈foot',k∈foot∨w.heap.size≤k):Sat w' (As.set i (XT v' n' size' xs')):=
  h.step i hi fun F ⟨f,e,h1⟩=> by
    obtain⟨f',g1,g2,g3⟩:=hst f h1
    exact⟨_,⟨f',rfl,g1⟩, fun k hk=> by rw[e]; exact g3 k hk,g2.agree (fun x hx=> .inl (by rw[e]; exact hx))⟩
theorem Sat.blk_new {w w':World} {As:List Th} (h:Sat w As) {b:Nat} {cs:List Value} (hb:Blk w' b cs) (ho:Only [] w w') (hlt:w.heap.size≤b):Sat w' (QR b cs::As):=
  h.new ho (A:=QR b cs) ⟨rfl,hb⟩ (fun k hk=> by rw[hk]; exact hlt)
theorem Mr {w:World} {b n cap size:Nat} {xs sp:List Value} (hb:Blk w b (xs++sp)) (hl:xs.length=n*size) (hc:n≤cap) (hs:(xs++sp).length=cap*size):Own w (.slice (some ⟨b,0,none⟩) n cap) n size xs [b]:=
  ⟨hl,.inr ⟨b,cap,sp,rfl,hc,hb,hs,rfl⟩⟩
def Ent (F:Th) (φ:World→Prop):Prop:= ∀{w G},F.at_ w G→φ w
theorem Ent.sat {F:Th} {φ:World→Prop} (h:Ent F φ) {w:World} {As:List Th} (hS:Sat w As) (i:Nat) (hi:As[i]? =some F):φ w:=let ⟨_,g⟩:=hS.get i hi;h g
theorem Ent.starL {As:List Th} {A:Th} {φ:World→Prop} (h:Ent A φ) (i:Nat) (hi:As[i]? =some A):Ent (M.starL As) φ:= fun g=>h.sat ⟨_,g⟩ i hi
theorem Ent.frame {W:World} {φ:World→Prop} (h: ∀w,Below W.heap.size W w→φ w):Ent (Bq W) φ:= fun ⟨_,h1,h2⟩=>h _ ⟨h2.os,h2.tape,h2.output,h1,h2.blk⟩
theorem Ent.and {F:Th} {φ ψ:World→Prop} (h:Ent F φ) (g:Ent F ψ):Ent F (fun w=>φ w∧ψ w):= fun q=>⟨h q,g q⟩
theorem Ent.mono {F:Th} {φ ψ:World→Prop} (h:Ent F φ) (hm: ∀w,φ w→ψ w):Ent F ψ:= fun q=>hm _ (h q)
